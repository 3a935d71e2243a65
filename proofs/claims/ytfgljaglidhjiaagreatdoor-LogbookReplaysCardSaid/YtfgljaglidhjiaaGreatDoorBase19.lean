import Derived.Test.YtfgljaglidhjiaaGreatDoorBase12
import Derived.Lib.LaidTab
import Derived.LaidLaws
import Derived.Shelf.Vars
set_option linter.all false
namespace Go.Abs
open Go
theorem agM{P:Program}{w:World}:∀{l:List (String×DataW Unit)} {ps:List MemPlace},DataW.LaidVars P w l ps→∀x∈l,
  ∃g t cs fuel p,P.globalNamed x.1=some g∧(P.globals[g]?).map (·.type)=some t∧w.var? P x.1=some cs∧DataW.trod (fun _=>()) P w 0 (fun _=>true) false fuel t cs.toList=some (x.2,p) ∧
   ∀m∈MemPlace.row ⟨g,0,none⟩ cs.size,m∈ps
 |[],_,_,x,hx=>by cases hx
 |(n,d)::r,ps,h,x,hx=>by
  obtain⟨g,t,cs,fuel,p,q,h1,h2,h3,h4,h5,rfl⟩:=h;rcases bq.1 hx with rfl | hx
  ·exact⟨g,t,cs,fuel,p,h1,h2,h3,h4,fun m hm=>by simp[hm]⟩
  ·obtain⟨g',t',cs',f',p',k1,k2,k3,k4,k5⟩:=agM h5 x hx;exact⟨g',t',cs',f',p',k1,k2,k3,k4,fun m hm=>by simp[k5 m hm]⟩
theorem Pq{P:Program}{w:World}{l:List (String×DataW Unit)}(hl:laidMet P l w){n:String}{d:DataW Unit}(hx:(n,d)∈l){b t:Nat}(hb:P.globalNamed n=some b)(ht:(P.globals[b]?).map (·.type)=some t):
  ∃cs fuel p,DataW.trod (fun _=>()) P w 0 (fun _=>true) false fuel t cs.toList=some (d,p)∧(0<cs.size→∃t',w.heap[b]?=some (.cells cs t' (0,0))):=by
 obtain⟨ps,h1,_,h2⟩:=hl;obtain⟨g,t',cs,fuel,p,k1,k2,k3,k4,k5⟩:=agM h1 _ hx;obtain rfl:=Option.some.inj (hb.symm.trans k1);obtain rfl:=Option.some.inj (ht.symm.trans k2);refine⟨cs,fuel,p,k4,fun hpos=>?_⟩;obtain⟨⟨c,t',hc⟩,_⟩:=h2 b 0 (k5 _ (by simp only[MemPlace.row,bU,List.mem_range];exact⟨0,hpos,by simp⟩));simp only[World.var?,hb,Option.bind_some,hc,ae]at k3;subst k3;exact⟨t',hc⟩
theorem agC{P:Program}{w:World}{l:List (String×DataW Unit)}(hl:laidMet P l w){n nm:String}{d:DataW Unit}(hx:(n,.iface nm d)∈l){b t:Nat}{ms:Array (String×TypeId)}(hb:P.globalNamed n=some b)
  (ht:(P.globals[b]?).map (·.type)=some t) (hu:P.underlying t=some (.interface ms)):∃c t v,w.heap[b]?=some (.cells c t (0,0))∧c[0]?=some v∧v.oneCell'=true∧aqH (.cells c t (0,0)):=by
 obtain⟨cs,fuel,p,h1,h2⟩:=Pq hl hx hb ht;obtain⟨f1,u,v,hcs,_⟩:=iface_of_trod hu h1;obtain rfl:cs = #[.iface u v]:=by rw[← gR,hcs]
 obtain⟨t',hc⟩:=h2 (by simp);exact⟨_,t',.iface u v,hc,by simp,rfl,_,t',_,.iface u v,rfl,by simp,.inr ⟨u,v,rfl⟩⟩
theorem aq4{P:Program}{w:World}{l:List (String×DataW Unit)}(hl:laidMet P l w){n:String}(hx:(n,Lib.tabData .u64 Lib.pow10Tab)∈l){b t e k:Nat}(hb:P.globalNamed n=some b)
  (ht:(P.globals[b]?).map (·.type)=some t) (hu:P.underlying t=some (.array k e)) (he:P.underlying e=some (.int .u64)) (hce:P.cellsOf e=1) (hct:P.cellsOf t=k):
  ∃c t v,w.heap[b]?=some (.cells c t (0,0))∧c[0]?=some v∧v.oneCell'=true∧atq (.cells c t (0,0)):=by
 obtain⟨cs,fuel,p,h1,h2⟩:=Pq hl hx hb ht;have hcs:=Lib.cells_of_tab hu he hce hct h1;obtain rfl:cs=(Lib.pow10Tab.map (Value.int .u64)).toArray:=by rw[← gR,hcs]
 obtain⟨t',hc⟩:=h2 (by decide);exact⟨_,t',.int .u64 1,hc,rfl,rfl,t',_,rfl⟩
theorem aq3{P:Program}{w:World}(h:w.ShapedOpen P){g t:Nat}{zero:Array Value}(hg:g<P.globals.size)(h0:((begin P (fun _ _=>0) default).world.heap[g]?).bind Obj.row?=some (zero,t))(hz:zero.size=1)
  (hb:P.buildable t=true) (hc:P.cellTypes P.depth t=some [t]) (hu:P.underlying t=some (.int .i64)):∃c t v,w.heap[g]?=some (.cells c t (0,0))∧c[0]?=some v∧v.oneCell'=true∧atp (.cells c t (0,0)):=by
 obtain⟨m,hm⟩:=Go.Proofs.cell_of_shapedOpen_int h hg h0 hz hb hc hu;obtain⟨cs,hh,_⟩:=h.1 g zero t hg h0;have h1:cs[0]?=some (.int .i64 m):=by simpa[World.cell?,hh]using hm
 exact⟨cs,t,_,hh,h1,rfl,cs,t,_,m,rfl,h1⟩
variable {T:Ak} {O:bR}
theorem ah.{u}{α:Sort u}{a b:α}(h:a=b):a=b:=h
inductive Mark.{u} {α:Sort u} (a:α):Type
 |mk
def WO(O:bR)(ops:List Op)(e:Env)(σ:SK)(Q:Env→SK→Prop)(_m:Mark Q:=.mk):Prop:=∃e' σ',nM O ops e σ=some (e',σ')∧Q e' σ'
def WC(O:bR)(c:cZ)(e:Env)(σ:SK)(Q:Exit→Env→SK→Prop)(_m:Mark c:=.mk)(_m':Mark Q:=.mk):Prop:=∃x e' σ',aZ O c e σ=some (x,e',σ')∧Q x e' σ'
def WV(o:Option (D×SK))(Q:D→SK→Prop)(_m:Mark Q:=.mk):Prop:=∃d σ',o=some (d,σ')∧Q d σ'
def WL(T:Ak)(live:List Nat)(bx:Bool)(c:cZ)(e:Env)(σ:SK)(Q:Exit→Env→SK→Prop)(_m:Mark c:=.mk)(_m':Mark Q:=.mk):Prop:=∃x e' σ',bw T (.loop live bx c e σ)=some (.Gx x e' σ')∧Q x e' σ'
theorem WO.mono{ops:List Op}{e:Env}{σ:SK}{Q Q':Env→SK→Prop}(h:WO O ops e σ Q)(hq:∀e σ,Q e σ→Q' e σ):WO O ops e σ Q' :=
 let ⟨e',σ',h1,h2⟩:=h;⟨e',σ',h1,hq _ _ h2⟩
theorem WC.mono{c:cZ}{e:Env}{σ:SK}{Q Q':Exit→Env→SK→Prop}(h:WC O c e σ Q)(hq:∀x e σ,Q x e σ→Q' x e σ):WC O c e σ Q' :=
 let ⟨x,e',σ',h1,h2⟩:=h;⟨x,e',σ',h1,hq _ _ _ h2⟩
theorem WL.mono{live:List Nat}{bx:Bool}{c:cZ}{e:Env}{σ:SK}{Q Q':Exit→Env→SK→Prop}(h:WL T live bx c e σ Q)(hq:∀x e σ,Q x e σ→Q' x e σ):WL T live bx c e σ Q' :=
 let ⟨x,e',σ',h1,h2⟩:=h;⟨x,e',σ',h1,hq _ _ _ h2⟩
def WD{α:Type}(o:Option α)(Q:α→Prop)(_m:Mark Q:=.mk):Prop:=∃d,o=some d∧Q d
@[simp,simp ↓] theorem Iv{α:Type}{d:α}{Q:α→Prop}:WD (some d) Q=Q d:=by
 simp only[WD,ae,eq_iff_iff];exact⟨fun⟨_,h,h'⟩=>by rw[h];exact h',fun h=>⟨_,rfl,h⟩⟩
@[simp,simp ↓] theorem aqM{α:Type}{Q:α→Prop}:WD none Q=False:=by simp[WD]
def To:D→Option Bool
 |.bool b=>some b
 |_=>none
@[simp] theorem atC{b:Bool}:To (.bool b)=some b:=ah rfl
@[simp] theorem azP{b:Bool}:(D.bool b).bit=some (some b):=ah rfl
@[simp] theorem aDb:(D.ez []).bit=some none:=ah rfl
def atH(k:IntKind):D→Option D
 |.int _ m=>some (.int k (k.wrap m))
 |_=>none
@[simp] theorem azV{k k':IntKind}{m:Int}:atH k (.int k' m)=some (.int k (k.wrap m)):=ah rfl
@[simp,simp ↓] theorem aC3{d:D}{σ:SK}{Q:D→SK→Prop}:WV (some (d,σ)) Q=Q d σ:=by
 simp only[WV,ae,au,eq_iff_iff];constructor
 ·rintro⟨_,_,⟨rfl,rfl⟩,h⟩;exact h
 ·exact fun h=>⟨_,_,⟨rfl,rfl⟩,h⟩
@[simp,simp ↓] theorem aC2{Q:D→SK→Prop}:WV none Q=False:=by simp[WV]
@[simp,simp ↓] theorem aEa{e:Env}{σ:SK}{Q:Env→SK→Prop}:WO O [] e σ Q=Q e σ:=by
 simp only[WO,nM,ae,au,eq_iff_iff];constructor
 ·rintro⟨_,_,⟨rfl,rfl⟩,h⟩;exact h
 ·exact fun h=>⟨_,_,⟨rfl,rfl⟩,h⟩
def aFw(d:D)(w:Bool):Option Bool :=
 match d with
 |.bool b=>some (b == w)
 |_=>none
@[simp,simp ↓] theorem aD0{d:Option Nat}{g:Nat}{w n:Bool}{k:K}{r:List Op}{e:Env}{σ:SK}{Q:Env→SK→Prop}:
  WO O (⟨d,some (g,w),n,k⟩::r) e σ Q=WD (get e g).bit fun b=>if b=some w then WO O (⟨d,none,n,k⟩::r) e σ Q else WO O r (put d (.ez []) e) σ Q:=by
 cases h:(get e g).bit<;>simp only[WO,nM,h,reduceCtorEq,false_and,exists_false,aqM,Iv];rename_i b;by_cases hb:b=some w
 ·simp only[hb,if_true];rfl
 ·simp only[if_neg hb]
theorem dK{d:Option Nat}{n:Bool}{k:K}{r:List Op}{e:Env}{σ:SK}{Q:Env→SK→Prop}(h:xx O ⟨d,none,n,k⟩ e σ=(bN e σ k).map fun x=>(put d x.1 e,x.2)):
  WO O (⟨d,none,n,k⟩::r) e σ Q=WV (bN e σ k) fun v σ'=>WO O r (put d v e) σ' Q:=by
 simp only[WO,nM,h,WV,eq_iff_iff];constructor
 ·rintro⟨e',σ',h1,h2⟩;cases hs:bN e σ k with
  |none=>simp[hs]at h1
  |some y=>simp[hs]at h1;exact⟨y.1,y.2,rfl,e',σ',h1,h2⟩
 ·rintro⟨v,σ1,h1,e',σ',h2,h3⟩;exact⟨e',σ',by simp[h1,h2],h3⟩
theorem oS{o:Option (D×SK)}{o':Option D}{σ:SK}{Q:D→SK→Prop}(h:o=o'.map (·,σ)):WV o Q=WD o' fun v=>Q v σ:=by
 subst h;cases o'<;>simp
def ao1:D→Option D
 |.aH=>some (.int .i64 0)
 |.aK n _=>some (.int .i64 n)
 |.sl _ _ _ _ n _=>some (.int .i64 n)
 |_=>none
@[simp] theorem ayS:ao1 .aH=some (.int .i64 0):=ah rfl
@[simp] theorem aBs{n:Nat}{cs:List D}:ao1 (.aK n cs)=some (.int .i64 n):=ah rfl
@[simp] theorem aDm{l i v o n w:Nat}:ao1 (.sl l i v o n w)=some (.int .i64 n):=ah rfl
def US(ag:Bool)(sz:Nat):Option (List D)→Option D
 |some cs =>
  if sz≤cs.length then
   if ag then some (.agg (cs.take sz))else
   match cs with
   |d::_=>some d
   |[]=>none
  else none
 |none=>none
@[simp] theorem aEp{sz:Nat}{cs:List D}:US true sz (some cs)=if sz≤cs.length then some (.agg (cs.take sz))else none:=ah rfl
@[simp] theorem aDk{d:D}{cs:List D}:US false 1 (some (d::cs))=some d:=by simp[US]
@[simp] theorem aBG{σ:SK}{cs:List D}:KG σ (.bE cs)=some cs:=ah rfl
@[simp] theorem aDs{σ:SK}{l i v off:Nat}:KG σ (.ref l i v off)=(cells? σ l i v).map (·.drop off):=ah rfl
def ao0(e:Env)(v:Nat)(ag:Bool)(sz a:Nat):Option D:=US ag sz ((sH e v a).map fun x=>x.2.1.drop x.2.2)
def ajL:D→Option (List D)
 |.bE cs=>some cs
 |_=>none
@[simp] theorem atF{cs:List D}:ajL (.bE cs)=some cs:=ah rfl
@[simp] theorem ayQ:OI false .aH=some true:=ah rfl
@[simp] theorem aBo{n:Nat}{cs:List D}:OI false (.aK n cs)=if n=0 then none else some false:=ah rfl
def aBw:D→Option D
 |.bE cs=>some (.bE cs)
 |.ref l i v off=>some (.ref l i v off)
 |_=>none
@[simp] theorem aBx{l i v off:Nat}:aBw (.ref l i v off)=some (.ref l i v off):=ah rfl
def unD:UnOp→D→Option D
 |.not,.bool b=>some (.bool !b)
 |.neg,.int k n=>some (.int k (k.wrap (0-n)))
 |.xor,.int k n=>some (.int k (k.wrap ((BitVec.ofInt k.bits (if k.signed then -1 else k.max) ^^^ BitVec.ofInt k.bits n).toNat:Int)))
 |_,_=>none
theorem aCs{n:Nat}(h:n<256):unD .xor (.int .u8 n)=some (.int .u8 ((255-n:Nat):Int)):=by
 have key:∀m:Fin 256,IntKind.u8.wrap ((BitVec.ofInt 8 255 ^^^ BitVec.ofInt 8 (m.1:Int)).toNat:Int)=((255-m.1:Nat):Int):=by decide +kernel
 have:=key ⟨n,h⟩;simp only[unD];exact congrArg (fun z=>some (D.int .u8 z)) this
@[simp] theorem aDz{b:Bool}:unD .not (.bool b)=some (.bool !b):=ah rfl
@[simp] theorem aDy{k:IntKind}{n:Int}:unD .neg (.int k n)=some (.int k (k.wrap (0-n))):=ah rfl
def TM(n off:Nat):D→Option D
 |.bE cs=>some (.bE (cs.drop off))
 |.ref l i v o=>some (.ref l i v (o+off))
 |.own s _=>some (.vr n s off)
 |.vr v s o=>some (.vr v s (o+off))
 |_=>none
@[simp] theorem axc{n off:Nat}{cs:List D}:TM n off (.bE cs)=some (.bE (cs.drop off)):=ah rfl
@[simp] theorem ayG{n off l i v o:Nat}:TM n off (.ref l i v o)=some (.ref l i v (o+off)):=ah rfl
@[simp] theorem ayF{n off s:Nat}{cs:List D}:TM n off (.own s cs)=some (.vr n s off):=ah rfl
@[simp] theorem aBc{n off v s o:Nat}:TM n off (.vr v s o)=some (.vr v s (o+off)):=ah rfl
def aHF(ag:Bool)(off sz:Nat):D→Option D
 |.agg cs =>
  if off+sz≤cs.length then
   if ag then some (.agg ((cs.drop off).take sz))else cs[off]?
  else none
 |_=>none
def agG(m len w:Nat)(x i:D):Option D :=
 match Jg i with
 |some n =>
  if 0≤n∧n<len then
   match x with
   |.bE cs=>some (.bE ((cs.drop (n.toNat*w)).take w))
   |.ref l j v off=>some (.ref l j v (off+n.toNat*w))
   |.own s _=>some (.vr m s (n.toNat*w))
   |.vr v s o=>some (.vr v s (o+n.toNat*w))
   |_=>none
  else none
 |none=>none
@[simp] theorem axi{m len w:Nat}{cs:List D}{k:IntKind}{n:Int}:agG m len w (.bE cs) (.int k n)=if 0≤n∧n<len then some (.bE ((cs.drop (n.toNat*w)).take w))else none:=ah rfl
@[simp] theorem ayM{m len w l j v off:Nat}{k:IntKind}{n:Int}:agG m len w (.ref l j v off) (.int k n)=if 0≤n∧n<len then some (.ref l j v (off+n.toNat*w))else none:=ah rfl
def agH(w:Nat)(x i:D):Option D :=
 match x,Jg i with
 |.aK m cs,some n=>if 0≤n∧n<m then some (.bE ((cs.drop (n.toNat*w)).take w))else none
 |.sl l j v off m w',some n=>if 0≤n∧n<m∧w'=w then some (.ref l j v (off+n.toNat*w))else none
 |_,_=>none
@[simp] theorem ayN{w m:Nat}{cs:List D}{k:IntKind}{n:Int}:agH w (.aK m cs) (.int k n)=if 0≤n∧n<m then some (.bE ((cs.drop (n.toNat*w)).take w))else none:=ah rfl
@[simp] theorem aBl{w l j v off m w':Nat}{k:IntKind}{n:Int}:agH w (.sl l j v off m w') (.int k n)=if 0≤n∧n<m∧w'=w then some (.ref l j v (off+n.toNat*w))else none:=ah rfl
def aoL(ag:Bool)(len w:Nat)(x i:D):Option D :=
 match x,Jg i with
 |.agg cs,some n =>
  if 0≤n∧n<len∧(n.toNat+1)*w≤cs.length then
   if ag then some (.agg ((cs.drop (n.toNat*w)).take w))else cs[n.toNat*w]?
  else none
 |_,_=>none
@[simp] theorem ayO{ag:Bool}{len w:Nat}{cs:List D}{k:IntKind}{n:Int}:aoL ag len w (.agg cs) (.int k n)=if 0≤n∧n<len∧(n.toNat+1)*w≤cs.length then(if ag then some (.agg ((cs.drop (n.toNat*w)).take w))else cs[n.toNat*w]?)else none:=ah rfl
def mnD(x y:D):Option D :=
 match x,y with
 |.int k a,.int _ b=>some (.int k (min a b))
 |_,_=>none
@[simp] theorem aDn{k k':IntKind}{a b:Int}:mnD (.int k a) (.int k' b)=some (.int k (min a b)):=ah rfl
def mxD(x y:D):Option D :=
 match x,y with
 |.int k a,.int _ b=>some (.int k (max a b))
 |_,_=>none
@[simp] theorem aDo{k k':IntKind}{a b:Int}:mxD (.int k a) (.int k' b)=some (.int k (max a b)):=ah rfl
def az4(x:D)(i:Nat):Option D :=
 match x with
 |.ez ds=>ds[i]?
 |_=>none
@[simp] theorem az5{ds:List D}{i:Nat}:az4 (.ez ds) i=ds[i]?:=ah rfl
def aqX(ag:Bool)(ks:List (Option IntKind))(neg:Bool)(x y:D):Option D :=
 match x.row ag,y.row ag with
 |some p,some q=>(AS ks p q).map fun b => .bool (if neg then !b else b)
 |_,_=>none
@[simp] theorem aDe{ks:List (Option IntKind)}{neg:Bool}{p q:List D}:aqX true ks neg (.agg p) (.agg q)=(AS ks p q).map fun b => .bool (if neg then !b else b):=ah rfl
@[simp] theorem ayE{ks:List (Option IntKind)}{neg:Bool}{a b:Bool}:aqX false ks neg (.bool a) (.bool b)=(AS ks [.bool a] [.bool b]).map fun b => .bool (if neg then !b else b):=ah rfl
@[simp] theorem aBI:AS [] [] []=some true:=ah rfl
@[simp] theorem aBH{k k1 k2:IntKind}{ks:List (Option IntKind)}{a b:Int}{x y:List D}:AS (some k::ks) (.int k1 a::x) (.int k2 b::y)=if k1=k∧k2=k then(AS ks x y).map (a == b && ·)else none:=ah rfl
@[simp] theorem azd{ks:List (Option IntKind)}{a b:Bool}{x y:List D}:AS (none::ks) (.bool a::x) (.bool b::y)=(AS ks x y).map (a == b && ·):=ah rfl
def ayk(w:Nat)(x:D)(e:Env)(lo hi mx:Option bM):Option D :=
 match x with
 |.aK n cs=>(bounds n e lo hi mx).map fun b => .aK (b.2-b.1) ((cs.drop (b.1*w)).take ((b.2-b.1)*w))
 |.sl l i v off n w'=>if w'=w then(bounds n e lo hi mx).map fun b => .sl l i v (off+b.1*w) (b.2-b.1) w else none
 |.aH=>(bounds 0 e lo hi mx).map fun _ => .aH
 |_=>none
@[simp] theorem aCj{w n:Nat}{cs:List D}{e:Env}{lo hi mx:Option bM}:ayk w (.aK n cs) e lo hi mx=(bounds n e lo hi mx).map fun b => .aK (b.2-b.1) ((cs.drop (b.1*w)).take ((b.2-b.1)*w)):=ah rfl
section bins
variable {k:IntKind} {a b:Int}
@[simp] theorem azC:uD .add (.int k a) (.int k b)=some (.int k (k.wrap (a+b))):=by simp[uD]
@[simp] theorem azO:uD .sub (.int k a) (.int k b)=some (.int k (k.wrap (a-b))):=by simp[uD]
@[simp] theorem azI:uD .mul (.int k a) (.int k b)=some (.int k (k.wrap (a*b))):=by simp[uD]
@[simp] theorem azK:uD .quo (.int k a) (.int k b)=if b≠0 then some (.int k (k.wrap (a.tdiv b)))else none:=by simp[uD]
@[simp] theorem azL:uD .rem (.int k a) (.int k b)=if b≠0 then some (.int k (a.tmod b))else none:=by simp[uD]
@[simp] theorem azM{k':IntKind}:uD .shl (.int k a) (.int k' b)=if b<0 then none else some (.int k (k.wrap (a*2^(min b.toNat k.bits)))):=ah rfl
@[simp] theorem azN{k':IntKind}:uD .shr (.int k a) (.int k' b)=if b<0 then none else some (.int k (a.fdiv (2^(min b.toNat k.bits)))):=ah rfl
@[simp] theorem aDa:uD .or (.int k a) (.int k b)=some (.int k (k.wrap ((BitVec.ofInt k.bits a ||| BitVec.ofInt k.bits b).toNat:Int))):=by simp[uD]
@[simp] theorem azD:uD .eql (.int k a) (.int k b)=some (.bool (a == b)):=by simp[uD]
@[simp] theorem azJ:uD .neq (.int k a) (.int k b)=some (.bool (a != b)):=by simp[uD]
@[simp] theorem azH:uD .lss (.int k a) (.int k b)=some (.bool (decide (a<b))):=by simp[uD]
@[simp] theorem azG:uD .leq (.int k a) (.int k b)=some (.bool (decide (a≤b))):=by simp[uD]
@[simp] theorem azF:uD .gtr (.int k a) (.int k b)=some (.bool (decide (b<a))):=by simp[uD]
@[simp] theorem azE:uD .geq (.int k a) (.int k b)=some (.bool (decide (b≤a))):=by simp[uD]
end bins
@[simp] theorem arH:D.strip .undef=.undef:=ah rfl
@[simp] theorem asH{b:Bool}:D.strip (.bool b)=.bool b:=ah rfl
@[simp] theorem axW{k:IntKind}{n:Int}:D.strip (.int k n)=.int k n:=ah rfl
@[simp] theorem axZ{s:List UInt8}:D.strip (.str s)=.str s:=ah rfl
@[simp] theorem axU{cs:List D}:D.strip (.agg cs)=.agg cs:=ah rfl
@[simp] theorem ax0{cs:List D}:D.strip (.ez cs)=.ez cs:=ah rfl
@[simp] theorem axY{l i v o:Nat}:D.strip (.ref l i v o)=.ref l i v o:=ah rfl
@[simp] theorem asI{cs:List D}:D.strip (.bE cs)=.bE cs:=ah rfl
@[simp] theorem asK:D.strip .aH=.aH:=ah rfl
@[simp] theorem axX{n:Nat}{cs:List D}:D.strip (.aK n cs)=.aK n cs:=ah rfl
@[simp] theorem azg{l i v o n w:Nat}:D.strip (.sl l i v o n w)=.sl l i v o n w:=ah rfl
@[simp] theorem azf{f:Nat}{a b:List D}:D.strip (.fn f a b)=.fn f a b:=ah rfl
@[simp] theorem axV{t:Nat}{d:D}:D.strip (.vn t d)=.vn t d:=ah rfl
@[simp] theorem asJ:D.strip .pW=.pW:=ah rfl
@[simp] theorem ay2{t:Nat}{d:D}:D.calm (.vn t d)=.vn t d:=ah rfl
@[simp] theorem axD:D.calm .pW=.pW:=ah rfl
@[simp] theorem ax1{l i:Nat}:D.strip (.nO l i)=.nO l i:=ah rfl
@[simp] theorem asA:D.calm .undef=.undef:=ah rfl
@[simp] theorem axB{b:Bool}:D.calm (.bool b)=.bool b:=ah rfl
@[simp] theorem ay3{k:IntKind}{n:Int}:D.calm (.int k n)=.int k n:=ah rfl
@[simp] theorem ay7{s:List UInt8}:D.calm (.str s)=.str s:=ah rfl
@[simp] theorem ay1{cs:List D}:D.calm (.agg cs)=.agg cs:=ah rfl
@[simp] theorem ay6{l i v o:Nat}:D.calm (.ref l i v o)=.ref l i v o:=ah rfl
@[simp] theorem axC{cs:List D}:D.calm (.bE cs)=.bE cs:=ah rfl
@[simp] theorem axE:D.calm .aH=.aH:=ah rfl
@[simp] theorem ay4{n:Nat}{cs:List D}:D.calm (.aK n cs)=.aK n cs:=ah rfl
@[simp] theorem aBF{l i v o n w:Nat}:D.calm (.sl l i v o n w)=.sl l i v o n w:=ah rfl
@[simp] theorem aBE{f:Nat}{a b:List D}:D.calm (.fn f a b)=.fn f a b:=ah rfl
@[simp] theorem ay8{l i:Nat}:D.calm (.nO l i)=.nO l i:=ah rfl
@[simp] theorem ay5{s:Nat}{cs:List D}:D.calm (.own s cs)=.own 0 cs:=ah rfl
@[simp] theorem asB{b:Bool}:D.cells (.bool b)=some [.bool b]:=ah rfl
@[simp] theorem axG{k:IntKind}{n:Int}:D.cells (.int k n)=some [.int k n]:=ah rfl
@[simp] theorem axJ{s:List UInt8}:D.cells (.str s)=some [.str s]:=ah rfl
@[simp] theorem axF{cs:List D}:D.cells (.agg cs)=some cs:=ah rfl
@[simp] theorem axI{l i v o:Nat}:D.cells (.ref l i v o)=some [.ref l i v o]:=ah rfl
@[simp] theorem axH{n:Nat}{cs:List D}:D.cells (.aK n cs)=some [.aK n cs]:=ah rfl
@[simp] theorem aza{l i v o n w:Nat}:D.cells (.sl l i v o n w)=some [.sl l i v o n w]:=ah rfl
@[simp] theorem ay9{f:Nat}{a b:List D}:D.cells (.fn f a b)=some [.fn f a b]:=ah rfl
@[simp] theorem axK{l i:Nat}:D.cells (.nO l i)=some [.nO l i]:=ah rfl
@[simp] theorem aBm{k:IntKind}{n:Int}:Jg (.int k n)=some n:=ah rfl
@[simp] theorem sU{O:bR}{kp:Bool}{f:Nat}{first cap args:List D}{σ:SK}:pZ O kp (.fn f first cap) args σ=R.bg (O (.call kp f (first++args++cap) σ)):=ah rfl
@[simp] theorem ayy{O:bR}{kp:Bool}{l i:Nat}{args:List D}{σ:SK}:pZ O kp (.nO l i) args σ=R.bg (O (.round l i args σ)):=ah rfl
@[simp] theorem aCu{d:D}{σ:SK}:R.bg (some (.val d σ))=some (d,σ):=ah rfl
section ops
variable {d:Option Nat} {n:Bool} {r:List Op} {e:Env} {σ:SK} {Q:Env→SK→Prop}
@[simp,simp ↓] theorem aE3{x:bM}:WO O (⟨d,none,n,.mv x⟩::r) e σ Q=WO O r (put d (bh e x) e) σ Q:=by rw[dK rfl];simp[bN]
@[simp,simp ↓] theorem aC0{w:Nat}:WO O (⟨d,none,n,.rk w⟩::r) e σ Q=WV (bN e σ (.rk w)) fun v σ'=>WO O r (put d v e) σ' Q:=dK rfl
@[simp,simp ↓] theorem aDO{nb:List (Nat×Nat)}{cs:List D}:WO O (⟨d,none,n,.On nb cs⟩::r) e σ Q=WV (bN e σ (.On nb cs)) fun v σ'=>WO O r (put d v e) σ' Q:=dK rfl
@[simp,simp ↓] theorem aC1{c a b:bM}:WO O (⟨d,none,n,.pick c a b⟩::r) e σ Q=WD (To (bh e c)) fun t=>WO O r (put d (if t then bh e a else bh e b) e) σ Q:=by
 rw[dK rfl];simp only[bN];cases bh e c<;>simp[To]
@[simp,simp ↓] theorem aCR{x:bM}:WO O (⟨d,none,n,.Oq x⟩::r) e σ Q=WD (bh e x).cells fun cs=>WO O r (put d (.bE cs) e) σ Q:=by
 rw[dK rfl];simp only[bN];cases(bh e x).cells<;>simp
@[simp,simp ↓] theorem aCS{x:bM}:WO O (⟨d,none,n,.Ot x⟩::r) e σ Q=WV (bN e σ (.Ot x)) fun v σ'=>WO O r (put d v e) σ' Q:=dK rfl
@[simp,simp ↓] theorem aDV{nb:List (Nat×Nat)}{x:bM}:WO O (⟨d,none,n,.bxn nb x⟩::r) e σ Q=WV (bN e σ (.bxn nb x)) fun v σ'=>WO O r (put d v e) σ' Q:=dK rfl
@[simp,simp ↓] theorem aDS{z:List D}{ps:List (Nat×Nat×bM)}:WO O (⟨d,none,n,.mJ z ps⟩::r) e σ Q=WD (sG e ps z) fun cs=>WO O r (put d (.agg cs) e) σ Q:=by
 rw[dK rfl];simp only[bN];cases sG e ps z<;>simp
@[simp,simp ↓] theorem aDT{m w:Nat}{z:List D}{ps:List (Nat×Nat×bM)}:WO O (⟨d,none,n,.wc m w z ps⟩::r) e σ Q=WD (sG e ps z) fun cs=>WO O r (put d (.aK m cs) e) σ Q:=by
 rw[dK rfl];simp only[bN];cases sG e ps z<;>simp
@[simp,simp ↓] theorem aDU{m w:Nat}{z:List D}{ps:List (Nat×Nat×bM)}:WO O (⟨d,none,n,.UR m w z ps⟩::r) e σ Q=WV (bN e σ (.UR m w z ps)) fun v σ'=>WO O r (put d v e) σ' Q:=dK rfl
@[simp,simp ↓] theorem aEZ{ag:Bool}{sz:Nat}{a:bM}:WO O (⟨d,none,n,.ld ag sz a⟩::r) e σ Q=WD (US ag sz (KG σ (bh e a))) fun v=>WO O r (put d v e) σ Q:=by
 rw[dK rfl];refine oS ?_;simp only[bN];cases KG σ (bh e a)with
 |none=>rfl
 |some cs =>
  simp only[US];split
  ·cases ag
   ·cases cs<;>rfl
   ·rfl
  ·rfl
theorem ag1{σ:SK}{l i off:Nat}:rd0 σ (.ref l i 0 off)=KG σ (.ref l i 0 off):=rfl
@[simp,simp ↓] theorem aD3{ag:Bool}{sz:Nat}{a:bM}:WO O (⟨d,none,n,.ld0 ag sz a⟩::r) e σ Q=WD (US ag sz (rd0 σ (bh e a))) fun v=>WO O r (put d v e) σ Q:=by
 rw[dK rfl];refine oS ?_;simp only[bN];cases rd0 σ (bh e a)with
 |none=>rfl
 |some cs =>
  simp only[US];split
  ·cases ag
   ·cases cs<;>rfl
   ·rfl
  ·rfl
@[simp,simp ↓] theorem aD4{ag:Bool}{sz:Nat}{a:bM}:WO O (⟨d,none,n,.ldi ag sz a⟩::r) e σ Q=WD (US ag sz (ajL (bh e a))) fun v=>WO O r (put d v e) σ Q:=by
 rw[dK rfl];refine oS ?_;simp only[bN];cases bh e a with
 |bE cs =>
  simp only[ajL,US];split
  ·cases ag
   ·cases cs<;>rfl
   ·rfl
  ·rfl
 |_=>rfl
@[simp,simp ↓] theorem aD2{ps neg:Bool}{x:bM}:WO O (⟨d,none,n,.isn ps neg x⟩::r) e σ Q=WD (OI ps (bh e x)) fun b=>WO O r (put d (.bool (if neg then !b else b)) e) σ Q:=by
 rw[dK rfl];simp only[bN];cases OI ps (bh e x)<;>simp
@[simp,simp ↓] theorem aD9{x:bM}:WO O (⟨d,none,n,.nN x⟩::r) e σ Q=WD (aBw (bh e x)) fun v=>WO O r (put d v e) σ Q:=by
 rw[dK rfl];refine oS ?_;simp only[bN];cases bh e x<;>rfl
@[simp,simp ↓] theorem aE5{nb:List (Nat×Nat)}{sz:Nat}{a x:bM}:WO O (⟨d,none,n,.st nb sz a x⟩::r) e σ Q=WV (bN e σ (.st nb sz a x)) fun v σ'=>WO O r (put d v e) σ' Q:=dK rfl
@[simp,simp ↓] theorem aEd{os:List Nat}{sz:Nat}{a x:bM}:WO O (⟨d,none,n,.stc os sz a x⟩::r) e σ Q=WV (bN e σ (.stc os sz a x)) fun v σ'=>WO O r (put d v e) σ' Q:=dK rfl
@[simp] theorem aDp{l i l' i' v o:Nat}:D.off l i (.ref l' i' v o)=decide (¬(l'=l∧i'=i)):=by rw[D.off]
@[simp,simp ↓] theorem aD5{v:Nat}{ag:Bool}{sz a:Nat}:WO O (⟨d,none,n,.ldv v ag sz a⟩::r) e σ Q=WD (ao0 e v ag sz a) fun v=>WO O r (put d v e) σ Q:=by
 rw[dK rfl];refine oS ?_;simp only[bN,ao0];cases sH e v a with
 |none=>rfl
 |some x =>
  obtain⟨s,cs,off⟩:=x;simp only[US,aT];split
  ·cases ag
   ·cases cs.drop off<;>rfl
   ·rfl
  ·rfl
@[simp,simp ↓] theorem aDR{o:BinOp}{x y:bM}:WO O (⟨d,none,n,.bin o x y⟩::r) e σ Q=WD (uD o (bh e x) (bh e y)) fun v=>WO O r (put d v e) σ Q:=by
 rw[dK rfl];simp only[bN];cases uD o (bh e x) (bh e y)<;>simp
@[simp,simp ↓] theorem aDY{ag:Bool}{ks:List (Option IntKind)}{neg:Bool}{x y:bM}:WO O (⟨d,none,n,.eqv ag ks neg x y⟩::r) e σ Q=WD (aqX ag ks neg (bh e x) (bh e y)) fun v=>WO O r (put d v e) σ Q:=by
 rw[dK rfl];refine oS ?_;simp only[bN,aqX];cases(bh e x).row ag<;>cases(bh e y).row ag<;>simp[Option.map_map,Function.comp_def]
@[simp,simp ↓] theorem aE6{o:UnOp}{x:bM}:WO O (⟨d,none,n,.un o x⟩::r) e σ Q=WD (unD o (bh e x)) fun v=>WO O r (put d v e) σ Q:=by
 rw[dK rfl];refine oS ?_;simp only[bN];cases o<;>cases bh e x<;>rfl
@[simp,simp ↓] theorem aDX{k:IntKind}{x:bM}:WO O (⟨d,none,n,.Tx k x⟩::r) e σ Q=WD (atH k (bh e x)) fun v=>WO O r (put d v e) σ Q:=by
 rw[dK rfl];simp only[bN];cases bh e x<;>simp[atH]
@[simp,simp ↓] theorem aEb{p:Pu}{xs:List bM}:WO O (⟨d,none,n,.BA p xs⟩::r) e σ Q=WD (KF p (xs.map (bh e))) fun v=>WO O r (put d v e) σ Q:=by
 rw[dK rfl];simp only[bN];cases KF p (xs.map (bh e))<;>simp
@[simp,simp ↓] theorem aE0{p:Me}{xs:List bM}:WO O (⟨d,none,n,.me p xs⟩::r) e σ Q=WV (meD σ p (xs.map (bh e))) fun v σ'=>WO O r (put d v e) σ' Q:=dK rfl
@[simp,simp ↓] theorem aE2{p:Mo}{xs:List bM}:WO O (⟨d,none,n,.mp p xs⟩::r) e σ Q=WV (DE σ p (xs.map (bh e))) fun v σ'=>WO O r (put d v e) σ' Q:=dK rfl
@[simp,simp ↓] theorem aD7{t:Nat}{x:bM}:WO O (⟨d,none,n,.mki t x⟩::r) e σ Q=WO O r (put d (.vn t (bh e x)) e) σ Q:=by rw[dK rfl];simp[bN]
@[simp,simp ↓] theorem aEf{t:Nat}{z:Option D}{x:bM}:WO O (⟨d,none,n,.tas t z x⟩::r) e σ Q=WD (afX t z (bh e x)) fun v=>WO O r (put d v e) σ Q:=by
 rw[dK rfl];simp only[bN];cases afX t z (bh e x)<;>simp
@[simp,simp ↓] theorem aD1{neg:Bool}{x:bM}:WO O (⟨d,none,n,.isi neg x⟩::r) e σ Q=WD (aoS (bh e x)) fun b=>WO O r (put d (.bool (if neg then !b else b)) e) σ Q:=by
 rw[dK rfl];simp only[bN];cases aoS (bh e x)<;>simp
@[simp] theorem ayP:aoS .pW=some true:=ah rfl
@[simp] theorem aBn{t:Nat}{d:D}:aoS (.vn t d)=some false:=ah rfl
@[simp] theorem aCm{t t':Nat}{z d:D}:afX t (some z) (.vn t' d)=some (if t'=t then .ez [d,.bool true]else .ez [z,.bool false]):=ah rfl
@[simp,simp ↓] theorem aD6{f:Nat}{xs ys:List bM}:WO O (⟨d,none,n,.zR f xs ys⟩::r) e σ Q=WO O r (put d (.fn f (xs.map (bh e)) (ys.map (bh e))) e) σ Q:=by rw[dK rfl];simp[bN]
@[simp,simp ↓] theorem aD8{w b:Nat}{z:List D}{l c:bM}:WO O (⟨d,none,n,.mks w b z l c⟩::r) e σ Q=WV (bN e σ (.mks w b z l c)) fun v σ'=>WO O r (put d v e) σ' Q:=dK rfl
@[simp,simp ↓] theorem aEc{w:Nat}{x:bM}{lo hi mx:Option bM}:WO O (⟨d,none,n,.UB w x lo hi mx⟩::r) e σ Q=WD (ayk w (bh e x) e lo hi mx) fun v=>WO O r (put d v e) σ Q:=by
 rw[dK rfl];refine oS ?_;simp only[bN,ayk];cases bh e x<;>first | rfl | (simp only[];split<;>simp[Option.map_map,Function.comp_def]) | simp[Option.map_map,Function.comp_def]
@[simp,simp ↓] theorem aCV{off m:Nat}:WO O (⟨d,none,n,.OF off (.t m)⟩::r) e σ Q=WD (TM m off (get e m)) fun v=>WO O r (put d v e) σ Q:=by
 rw[dK rfl];refine oS ?_;simp only[bN];cases get e m<;>rfl
@[simp,simp ↓] theorem aCW{l w m:Nat}{i:bM}:WO O (⟨d,none,n,.EE l w (.t m) i⟩::r) e σ Q=WD (agG m l w (get e m) (bh e i)) fun v=>WO O r (put d v e) σ Q:=by
 rw[dK rfl];refine oS ?_;simp only[bN,agG];cases Jg (bh e i)with
 |none=>rfl
 |some k=>simp only[];split<;>cases get e m<;>rfl
@[simp,simp ↓] theorem aCX{w:Nat}{x i:bM}:WO O (⟨d,none,n,.fJ w x i⟩::r) e σ Q=WD (agH w (bh e x) (bh e i)) fun v=>WO O r (put d v e) σ Q:=by
 rw[dK rfl];refine oS ?_;simp only[bN,agH];cases Jg (bh e i)with
 |none=>cases bh e x<;>rfl
 |some k=>cases bh e x<;>first | rfl | (simp only[];split<;>rfl)
@[simp,simp ↓] theorem aCY{ag:Bool}{l w:Nat}{x i:bM}:WO O (⟨d,none,n,.R8 ag l w x i⟩::r) e σ Q=WD (aoL ag l w (bh e x) (bh e i)) fun v=>WO O r (put d v e) σ Q:=by
 rw[dK rfl];refine oS ?_;simp only[bN,aoL];cases Jg (bh e i)with
 |none=>cases bh e x<;>rfl
 |some k=>cases bh e x<;>first | rfl | (simp only[];split<;>cases ag<;>simp)
@[simp,simp ↓] theorem aCZ{x:bM}:WO O (⟨d,none,n,.OJ x⟩::r) e σ Q=WD (ao1 (bh e x)) fun v=>WO O r (put d v e) σ Q:=by
 rw[dK rfl];refine oS ?_;simp only[bN];cases bh e x<;>rfl
@[simp,simp ↓] theorem aE1{x y:bM}:WO O (⟨d,none,n,.mn x y⟩::r) e σ Q=WD (mnD (bh e x) (bh e y)) fun v=>WO O r (put d v e) σ Q:=by
 rw[dK rfl];refine oS ?_;simp only[bN];cases bh e x<;>cases bh e y<;>rfl
@[simp,simp ↓] theorem aE4{x y:bM}:WO O (⟨d,none,n,.mx x y⟩::r) e σ Q=WD (mxD (bh e x) (bh e y)) fun v=>WO O r (put d v e) σ Q:=by
 rw[dK rfl];refine oS ?_;simp only[bN];cases bh e x<;>cases bh e y<;>rfl
@[simp,simp ↓] theorem aDP{os:List Nat}{w b:Nat}{s x:bM}:WO O (⟨d,none,n,.apc os w b s x⟩::r) e σ Q=WV (bN e σ (.apc os w b s x)) fun v σ'=>WO O r (put d v e) σ' Q:=dK rfl
@[simp,simp ↓] theorem aDQ{w b:Nat}{s x:bM}:WO O (⟨d,none,n,.app w b s x⟩::r) e σ Q=WV (bN e σ (.app w b s x)) fun v σ'=>WO O r (put d v e) σ' Q:=dK rfl
@[simp,simp ↓] theorem aDW{w b:Nat}{x:bM}:WO O (⟨d,none,n,.cpi w b x⟩::r) e σ Q=WV (bN e σ (.cpi w b x)) fun v σ'=>WO O r (put d v e) σ' Q:=dK rfl
@[simp,simp ↓] theorem aDZ{x:bM}{i:Nat}:WO O (⟨d,none,n,.ext x i⟩::r) e σ Q=WD (az4 (bh e x) i) fun v=>WO O r (put d v e) σ Q:=by
 rw[dK rfl];refine oS ?_;simp only[bN];cases bh e x<;>rfl
@[simp,simp ↓] theorem aCU{kp:Bool}{f:bM}{args:List bM}:WO O (⟨d,none,n,.call kp f args⟩::r) e σ Q =
  WV (pZ O kp (bh e f) (args.map (bh e)) σ) fun v σ'=>(n=true→σ'=σ)∧WO O r (put d v e) σ' Q:=by
 simp only[WO,nM,xx,WV,eq_iff_iff];cases hc:pZ O kp (bh e f) (args.map (bh e)) σ with
 |none=>simp
 |some y =>
  obtain⟨v,σ1⟩:=y;by_cases hn:n=true→σ1=σ
  ·simp only[if_pos hn,Option.bind_some,ae,au];exact⟨fun h=>⟨v,σ1,⟨rfl,rfl⟩,hn,h⟩,fun⟨_,_,⟨h1,h2⟩,_,h⟩=>by subst h1 h2;exact h⟩
  ·simp only[if_neg hn,Option.bind_none,reduceCtorEq,false_and,exists_false,ae,au,false_iff];rintro⟨_,_,⟨h1,h2⟩,h,_⟩;subst h1 h2;exact hn h
@[simp,simp ↓] theorem aCQ{nb:List (Nat×Nat)}{cs:List D}:WO O (⟨d,none,n,.eK nb cs⟩::r) e σ Q=WD d fun v=>WD (mc nb cs σ) fun y=>WO O r ((v,.own (vw e v) y.1)::e) y.2 Q:=by
 cases d with
 |none=>simp[WO,nM,xx]
 |some v=>cases h:mc nb cs σ with
  |none=>simp[WO,nM,xx,h]
  |some y=>obtain⟨a,b⟩:=y;simp only[WO,nM,xx,h,Option.bind_some,Iv]
@[simp,simp ↓] theorem aCT{x:bM}:WO O (⟨d,none,n,.J9 x⟩::r) e σ Q=WD d fun v=>WD (bh e x).cells fun cs=>WO O r ((v,.own (vw e v) cs)::e) σ Q:=by
 cases d with
 |none=>simp[WO,nM,xx]
 |some v=>cases h:(bh e x).cells with
  |none=>simp[WO,nM,xx,h]
  |some y=>simp only[WO,nM,xx,h,Option.bind_some,Iv]
def ayr(e:Env)(σ:SK)(v:Nat)(nb:List (Nat×Nat))(sz a:Nat)(x:bM):Option (D×SK) :=
 match sH e v a,(bh e x).cells with
 |some (s,cs,off),some p =>
  if p.length=sz∧off+sz≤cs.length then
   match mc nb p σ with
   |some (p',σ')=>some (.own s (cs.take off++p'++cs.drop (off+sz)),σ')
   |none=>none
  else none
 |_,_=>none
@[simp,simp ↓] theorem aEe{v:Nat}{nb:List (Nat×Nat)}{sz a:Nat}{x:bM}:WO O (⟨d,none,n,.LV v nb sz a x⟩::r) e σ Q =
  WV (ayr e σ v nb sz a x) fun y σ'=>WO O r ((v,y)::e) σ' Q:=by
 simp only[WO,nM,xx,ayr];cases h1:sH e v a with
 |none=>simp
 |some p =>
  obtain⟨s,cs,off⟩:=p;cases h2:(bh e x).cells with
  |none=>simp
  |some p =>
   dsimp only;split
   ·cases h3:mc nb p σ with
    |none=>simp
    |some y=>obtain⟨a,b⟩:=y;simp[WO]
   ·simp
end ops
section code
variable {e:Env} {σ:SK} {Q:Exit→Env→SK→Prop}
@[simp,simp ↓] theorem aDK:WC O .cU e σ Q=Q .normal e σ:=by
 simp only[WC,aZ,ae,au,eq_iff_iff];exact⟨fun⟨_,_,_,⟨h1,h2,h3⟩,h⟩=>by subst h1 h2 h3;exact h,fun h=>⟨_,_,_,⟨rfl,rfl,rfl⟩,h⟩⟩
@[simp,simp ↓] theorem aDI{vs:List Nat}:WC O (.cI vs) e σ Q=Q .normal (wo vs e σ).1 (wo vs e σ).2:=by
 simp only[WC,aZ,ae,au,eq_iff_iff];exact⟨fun⟨_,_,_,⟨h1,h2,h3⟩,h⟩=>by subst h1 h2 h3;exact h,fun h=>⟨_,_,_,⟨rfl,rfl,rfl⟩,h⟩⟩
@[simp,simp ↓] theorem aCO{i:Nat}:WC O (.exit i) e σ Q=Q (.exit i) e σ:=by
 simp only[WC,aZ,ae,au,eq_iff_iff];exact⟨fun⟨_,_,_,⟨h1,h2,h3⟩,h⟩=>by subst h1 h2 h3;exact h,fun h=>⟨_,_,_,⟨rfl,rfl,rfl⟩,h⟩⟩
@[simp,simp ↓] theorem aDM:WC O .ret e σ Q=Q .ret e σ:=by
 simp only[WC,aZ,ae,au,eq_iff_iff];exact⟨fun⟨_,_,_,⟨h1,h2,h3⟩,h⟩=>by subst h1 h2 h3;exact h,fun h=>⟨_,_,_,⟨rfl,rfl,rfl⟩,h⟩⟩
@[simp,simp ↓] theorem aDL{live:List Nat}{ops:List Op}:WC O (.ak live ops) e σ Q=WO O ops e σ fun e' σ'=>Q .normal (restrict live e') σ':=by
 simp only[WC,aZ,WO,ad,au,eq_iff_iff];constructor
 ·rintro⟨x,e',σ',⟨⟨e1,σ1⟩,h1,rfl,rfl,rfl⟩,h⟩;exact⟨e1,σ1,h1,h⟩
 ·rintro⟨e',σ',h1,h⟩;exact⟨_,_,_,⟨⟨e',σ'⟩,h1,rfl,rfl,rfl⟩,h⟩
def UK(O:bR)(b:cZ)(Q:Exit→Env→SK→Prop)(_m:Mark b:=.mk)(_m':Mark Q:=.mk):Exit→Env→SK→Prop
 |.normal,e,σ=>WC O b e σ Q
 |.exit i,e,σ=>Q (.exit i) e σ
 |.ret,e,σ=>Q .ret e σ
 |.fU d,e,σ=>Q (.fU d) e σ
@[simp,simp ↓] theorem azi{b:cZ}{d:D}:UK O b Q .mk .mk (.fU d) e σ=Q (.fU d) e σ:=ah rfl
@[simp,simp ↓] theorem ar0{b:cZ}:UK O b Q .mk .mk .normal e σ=WC O b e σ Q:=ah rfl
@[simp,simp ↓] theorem ayu{b:cZ}{i:Nat}:UK O b Q .mk .mk (.exit i) e σ=Q (.exit i) e σ:=ah rfl
@[simp,simp ↓] theorem azh{b:cZ}:UK O b Q .mk .mk .ret e σ=Q .ret e σ:=ah rfl
@[simp,simp ↓] theorem aDN{a b:cZ}:WC O (.seq a b) e σ Q=WC O a e σ (UK O b Q .mk .mk):=by
 simp only[WC,aZ,ai,eq_iff_iff];constructor
 ·rintro⟨x,e',σ',⟨⟨x1,e1,σ1⟩,h1,h2⟩,h⟩;refine⟨x1,e1,σ1,h1,?_⟩;cases x1 with
  |normal=>exact⟨x,e',σ',h2,h⟩
  |exit i=>cases h2;exact h
  |ret=>cases h2;exact h
  |fU d=>cases h2;exact h
 ·rintro⟨x1,e1,σ1,h1,h⟩;cases x1 with
  |normal=>obtain⟨x,e',σ',h2,h3⟩:=h;exact⟨x,e',σ',⟨_,h1,h2⟩,h3⟩
  |exit i=>exact⟨_,_,_,⟨_,h1,rfl⟩,h⟩
  |ret=>exact⟨_,_,_,⟨_,h1,rfl⟩,h⟩
  |fU d=>exact⟨_,_,_,⟨_,h1,rfl⟩,h⟩
@[simp,simp ↓] theorem aDJ{c:bM}{a b:cZ}:WC O (.ite c a b) e σ Q=WD (To (bh e c)) fun t=>if t=true then WC O a e σ Q else WC O b e σ Q:=by
 simp only[WC,aZ];cases bh e c<;>simp[To];rename_i t;cases t<;>simp
def afB(id:Nat)(Q:Exit→Env→SK→Prop)(_m:Mark Q:=.mk):Exit→Env→SK→Prop
 |.normal,e,σ=>Q .normal e σ
 |.exit i,e,σ=>if i=id then Q .normal e σ else Q (.exit i) e σ
 |.ret,e,σ=>Q .ret e σ
 |.fU d,e,σ=>Q (.fU d) e σ
@[simp,simp ↓] theorem aBB{id:Nat}{d:D}:afB id Q .mk (.fU d) e σ=Q (.fU d) e σ:=ah rfl
@[simp,simp ↓] theorem asy{id:Nat}:afB id Q .mk .normal e σ=Q .normal e σ:=ah rfl
@[simp,simp ↓] theorem ay0{id i:Nat}:afB id Q .mk (.exit i) e σ=if i=id then Q .normal e σ else Q (.exit i) e σ:=ah rfl
@[simp,simp ↓] theorem aBA{id:Nat}:afB id Q .mk .ret e σ=Q .ret e σ:=ah rfl
@[simp,simp ↓] theorem aDH{id:Nat}{a:cZ}:WC O (.bB id a) e σ Q=WC O a e σ (afB id Q .mk):=by
 simp only[WC,aZ,ad,eq_iff_iff];constructor
 ·rintro⟨x,e',σ',⟨⟨x1,e1,σ1⟩,h1,h2⟩,h⟩;refine⟨x1,e1,σ1,h1,?_⟩;cases x1 with
  |normal=>cases h2;exact h
  |exit i =>
   simp only[afB];dsimp only at h2;split at h2<;>cases h2
   ·rw[if_pos (by assumption)];exact h
   ·rw[if_neg (by assumption)];exact h
  |ret=>cases h2;exact h
  |fU d=>cases h2;exact h
 ·rintro⟨x1,e1,σ1,h1,h⟩;cases x1 with
  |normal=>exact⟨_,_,_,⟨_,h1,rfl⟩,h⟩
  |exit i =>
   simp only[afB]at h;split at h
   ·exact⟨_,_,_,⟨_,h1,by dsimp only;rw[if_pos (by assumption)]⟩,h⟩
   ·exact⟨_,_,_,⟨_,h1,by dsimp only;rw[if_neg (by assumption)]⟩,h⟩
  |ret=>exact⟨_,_,_,⟨_,h1,rfl⟩,h⟩
  |fU d=>exact⟨_,_,_,⟨_,h1,rfl⟩,h⟩
theorem ahJ(d:D):d.calm.calm=d.calm:=by cases d<;>rfl
theorem OM{live:List Nat}{e:Env}{t:Nat}:get (restrict live e) t=if t∈live then(get e t).calm else .undef:=by
 induction live with
 |nil=>simp[restrict,get]
 |cons a l ih =>
  simp only[restrict,aj,get,bq];by_cases h:a=t
  ·subst h;simp
  ·have h':¬t=a:=fun x=>h x.symm
   simp only[if_neg h,h',false_or];exact ih
theorem zU{live:List Nat}{e:Env}:restrict live (restrict live e)=restrict live e:=by
 simp only[restrict,List.map_inj_left,au,true_and];intro t ht;have:=OM (live:=live) (e:=e) (t:=t);simp only[restrict]at this;rw[this,if_pos ht,ahJ]
theorem xZ{live:List Nat}{bx:Bool}{c:cZ}:dA T O (.loop live bx c (restrict live e) σ)=dA T O (.loop live bx c e σ):=by
 simp only[dA,zU]
theorem zN{live:List Nat}{bx:Bool}{c:cZ}{r:R}(h:bw T (.loop live bx c (restrict live e) σ)=some r):bw T (.loop live bx c e σ)=some r:=by
 obtain⟨n,h⟩:=dH.1 h;cases n with
 |zero=>cases h
 |succ n =>
  rw[it,xZ]at h;exact dH.2 ⟨n+1,h⟩
theorem H2{live:List Nat}{bx:Bool}{c:cZ}{r:R}(h:bw T (.loop live bx c e σ)=some r):bw T (.loop live bx c (restrict live e) σ)=some r:=by
 obtain⟨n,h⟩:=dH.1 h;cases n with
 |zero=>cases h
 |succ n =>
  rw[it,← xZ]at h;exact dH.2 ⟨n+1,h⟩
theorem Vs{r:Option R}{x:Exit}{e:Env}{σ:SK}(h:R.ahM r=some (x,e,σ)):r=some (.Gx x e σ):=by
 unfold R.ahM at h;split at h
 ·cases h;rfl
 ·cases h
@[simp,simp ↓] theorem aCP{live:List Nat}{bx:Bool}{c:cZ}:WC (bw T) (.loop live bx c) e σ Q=WL T live bx c (restrict live e) σ Q:=by
 simp only[WC,aZ,WL,eq_iff_iff];constructor
 ·rintro⟨x,e',σ',h1,h⟩;cases hl:bw T (.loop live bx c e σ)with
  |none=>rw[hl]at h1;cases h1
  |some r =>
   rw[hl]at h1;cases r<;>cases h1;exact⟨_,_,_,H2 hl,h⟩
 ·rintro⟨x,e',σ',h1,h⟩;exact⟨x,e',σ',by rw[zN h1];rfl,h⟩
def Um(T:Ak)(live:List Nat)(c:cZ)(Q:Exit→Env→SK→Prop)(_m:Mark c:=.mk)(_m':Mark Q:=.mk):Exit→Env→SK→Prop
 |.normal,e,σ=>WL T live false c (restrict live e) σ Q
 |.exit i,e,σ=>Q (.exit i) e σ
 |.ret,e,σ=>Q .ret e σ
 |.fU d,e,σ=>Q (.fU d) e σ
@[simp,simp ↓] theorem ayY{live:List Nat}{c:cZ}{d:D}:Um T live c Q .mk .mk (.fU d) e σ=Q (.fU d) e σ:=ah rfl
@[simp,simp ↓] theorem aru{live:List Nat}{c:cZ}:Um T live c Q .mk .mk .normal e σ=WL T live false c (restrict live e) σ Q:=ah rfl
@[simp,simp ↓] theorem axr{live:List Nat}{c:cZ}{i:Nat}:Um T live c Q .mk .mk (.exit i) e σ=Q (.exit i) e σ:=ah rfl
@[simp,simp ↓] theorem ayX{live:List Nat}{c:cZ}:Um T live c Q .mk .mk .ret e σ=Q .ret e σ:=ah rfl
theorem aM{live:List Nat}{c c':cZ}(hc:c=c')(h:WC (bw T) c' (restrict live e) σ (Um T live c Q .mk .mk)):WL T live false c e σ Q:=by
 rw[← hc]at h;obtain⟨x,e1,σ1,h1,h2⟩:=h;cases x with
 |normal =>
  obtain⟨x,e',σ',h3,h4⟩:=h2;exact⟨x,e',σ',iq (by simp[dA,h1,zN h3]),h4⟩
 |exit i=>exact⟨_,_,_,iq (by simp[dA,h1]),h2⟩
 |ret=>exact⟨_,_,_,iq (by simp[dA,h1]),h2⟩
 |fU d=>exact⟨_,_,_,iq (by simp[dA,h1]),h2⟩
def ahS(σ:SK)(res:List Ih)(d:D)(x:Exit)(e:Env)(σ1:SK):Prop :=
 (∀i,x ≠ .exit i)∧(∀d,x ≠ .fU d)∧∃ds,BB e σ1 res=some ds∧∃s,cI (σ.length-1) deep (vo ds) σ1=(d,s::σ)
@[simp,simp ↓] theorem asi{σ1:SK}{res:List Ih}{d:D}:ahS σ res d .normal e σ1=∃ds,BB e σ1 res=some ds∧∃s,cI (σ.length-1) deep (vo ds) σ1=(d,s::σ):=by simp[ahS]
@[simp,simp ↓] theorem az1{σ1:SK}{res:List Ih}{d:D}:ahS σ res d .ret e σ1=∃ds,BB e σ1 res=some ds∧∃s,cI (σ.length-1) deep (vo ds) σ1=(d,s::σ):=by simp[ahS]
theorem aD{f:Nat}{fn:Fn}{args:List D}{σ:SK}{d:D}{np:Nat}{res:List Ih}{body:cZ}(hT:T f=some fn)(hf:fn=⟨np,res,body⟩)(hl:args.length=np)
  (h:WC (bw T) body (oH 0 args) ([]::σ) (ahS σ res d)):
  bw T (.call false f args σ)=some (.val d σ):=by
 subst hf;obtain⟨x,e1,σ1,h1,h2,h2',ds,h3,s,h4⟩:=h;refine iq ?_;simp only[dA,hT,if_pos hl,aB,if_false,h1];cases x with
 |exit i=>exact absurd rfl (h2 i)
 |fU d=>exact absurd rfl (h2' d)
 |normal=>simp[h3,h4]
 |ret=>simp[h3,h4]
def atL(σ:SK)(d:D)(x:Exit)(e:Env)(σ1:SK):Prop:=x=.fU d∧d.clean=true∧∃s,σ1=s::σ
@[simp,simp ↓] theorem az2{σ1:SK}{d d':D}:atL σ d (.fU d') e σ1=(d'=d∧d.clean=true∧∃s,σ1=s::σ):=by simp[atL]
theorem eg{f:Nat}{fn:Fn}{args:List D}{σ:SK}{d:D}{np:Nat}{res:List Ih}{body:cZ}(hT:T f=some fn)(hf:fn=⟨np,res,body⟩)(hl:args.length=np)
  (h:WC (bw T) body (oH 0 args) ([]::σ) (atL σ d)):
  bw T (.call false f args σ)=some (.fU d σ):=by
 subst hf;obtain⟨x,e1,σ1,h1,rfl,hc,s,rfl⟩:=h;refine iq ?_;simp only[dA,hT,if_pos hl,aB,if_false,h1];simp[afY,hc]
def WR(r:Option R)(Qn Qt:D→SK→Prop)(_m:Mark Qn:=.mk)(_m':Mark Qt:=.mk):Prop:=(∃d σ',r=some (.val d σ')∧Qn d σ')∨∃d σ',r=some (.fU d σ')∧Qt d σ'
@[simp,simp ↓] theorem atu{d:D}{σ':SK}{Qn Qt:D→SK→Prop}:WR (some (.val d σ')) Qn Qt=Qn d σ':=by
 simp only[WR,ae,R.val.injEq,reduceCtorEq,false_and,exists_false,or_false,eq_iff_iff];exact⟨fun⟨_,_,⟨h1,h2⟩,h⟩=>by subst h1 h2;exact h,fun h=>⟨_,_,⟨rfl,rfl⟩,h⟩⟩
@[simp,simp ↓] theorem att{d:D}{σ':SK}{Qn Qt:D→SK→Prop}:WR (some (.fU d σ')) Qn Qt=Qt d σ':=by
 simp only[WR,ae,R.fU.injEq,reduceCtorEq,false_and,exists_false,false_or,eq_iff_iff];exact⟨fun⟨_,_,⟨h1,h2⟩,h⟩=>by subst h1 h2;exact h,fun h=>⟨_,_,⟨rfl,rfl⟩,h⟩⟩
def axy:D→Option D
 |.vn t d=>if d.clean then some (.vn t d)else none
 |_=>none
@[simp] theorem Uo{t:Nat}{d:D}:axy (.vn t d)=if d.clean then some (.vn t d)else none:=ah rfl
@[simp] theorem azU{O:bR}{f:Nat}{first cap args:List D}{σ:SK}:CP O (.fn f first cap) args σ=O (.call false f (first++args++cap) σ):=ah rfl
@[simp,simp ↓] theorem aqL{live:List Nat}{pre post:List Op}{dst:Option Nat}{n:Bool}{f:bM}{args:List bM}:WC O (.jk live pre ⟨dst,none,n,.call false f args⟩ post) e σ Q =
  WO O pre e σ fun e1 σ1=>WR (CP O (bh e1 f) (args.map (bh e1)) σ1) (fun d σ2=>WO O post (put dst d e1) σ2 fun e' σ'=>Q .normal (restrict live e') σ') (fun d σ2=>Q (.fU d) e1 σ2):=by
 simp only[WC,WO,aZ,LG,ai,eq_iff_iff];constructor
 ·rintro⟨x,e',σ',⟨⟨e1,σ1⟩,h1,h2⟩,h⟩;refine⟨e1,σ1,h1,?_⟩;dsimp only at h2;cases hc:CP O (bh e1 f) (args.map (bh e1)) σ1 with
  |none=>rw[hc]at h2;simp[vJ]at h2
  |some r =>
   rw[hc]at h2;cases r with
   |Gx=>simp[vJ]at h2
   |fU d σ2=>simp only[vJ,ae,au]at h2;obtain⟨rfl,rfl,rfl⟩:=h2;rw[att];exact h
   |val d σ2 =>
    simp only[vJ,ad]at h2;obtain⟨⟨e3,σ3⟩,h3,h4⟩:=h2;cases h4;rw[atu];exact⟨e3,σ3,h3,h⟩
 ·rintro⟨e1,σ1,h1,h⟩;rcases h with⟨d,σ2,h2,e3,σ3,h3,h4⟩ | ⟨d,σ2,h2,h4⟩
  ·exact⟨.normal,_,σ3,⟨(e1,σ1),h1,by simp only[h2,vJ,h3,aT]⟩,h4⟩
  ·exact⟨.fU d,e1,σ2,⟨(e1,σ1),h1,by simp only[h2,vJ]⟩,h4⟩
@[simp,simp ↓] theorem ase{live:List Nat}{pre post:List Op}{dst:Option Nat}{n:Bool}{x:bM}:WC O (.jk live pre ⟨dst,none,n,.UT x⟩ post) e σ Q =
  WO O pre e σ fun e1 σ1=>WD (axy (bh e1 x)) fun d=>Q (.fU d) e1 σ1:=by
 simp only[WC,WO,aZ,LG,ai,eq_iff_iff];constructor
 ·rintro⟨x',e',σ',⟨⟨e1,σ1⟩,h1,h2⟩,h⟩;refine⟨e1,σ1,h1,?_⟩;dsimp only at h2;cases hx:bh e1 x<;>rw[hx]at h2<;>try (cases h2;done)
  dsimp only at h2;split at h2
  ·rename_i hc;cases h2;simp only[Uo,hc,if_true,Iv];exact h
  ·cases h2
 ·rintro⟨e1,σ1,h1,d,h2,h⟩;refine⟨.fU d,e1,σ1,⟨(e1,σ1),h1,?_⟩,h⟩;dsimp only;cases hx:bh e1 x<;>rw[hx]at h2<;>try (cases h2;done)
  simp only[Uo]at h2;split at h2
  ·rename_i hc;cases h2;simp[hc]
  ·cases h2
def WM(T:Ak)(live:List Nat)(it:bM)(nx ok b:Nat)(c rest:cZ)(e:Env)(σ:SK)(Q:Exit→Env→SK→Prop)(_m:Mark c:=.mk)(_m':Mark rest:=.mk)(_m'':Mark Q:=.mk):Prop:=∃x e' σ',bw T (.j7 live it nx ok b c rest e σ)=some (.Gx x e' σ')∧Q x e' σ'
theorem WM.mono{live:List Nat}{it:bM}{nx ok b:Nat}{c rest:cZ}{Q':Exit→Env→SK→Prop}(h:WM T live it nx ok b c rest e σ Q)(hq:∀x e σ,Q x e σ→Q' x e σ):WM T live it nx ok b c rest e σ Q' :=
 let ⟨x,e',σ',h1,h2⟩:=h;⟨x,e',σ',h1,hq _ _ _ h2⟩
theorem xn{live:List Nat}{it:bM}{nx ok b:Nat}{c rest:cZ}:dA T O (.j7 live it nx ok b c rest (restrict live e) σ)=dA T O (.j7 live it nx ok b c rest e σ):=by
 simp only[dA,zU]
theorem tW{live:List Nat}{it:bM}{nx ok b:Nat}{c rest:cZ}{r:R}:bw T (.j7 live it nx ok b c rest (restrict live e) σ)=some r↔bw T (.j7 live it nx ok b c rest e σ)=some r:=by
 constructor<;>intro h<;>obtain⟨n,h⟩:=dH.1 h<;>cases n<;>first | (cases h;done) | skip
 ·rw[Abs.it,xn]at h;exact dH.2 ⟨_+1,h⟩
 ·rw[Abs.it,← xn]at h;exact dH.2 ⟨_+1,h⟩
@[simp,simp ↓] theorem azy{live:List Nat}{it:bM}{nx ok b:Nat}{c rest:cZ}:WC (bw T) (.j7 live it nx ok b c rest) e σ Q=WM T live it nx ok b c rest (restrict live e) σ Q:=by
 simp only[WC,aZ,WM,eq_iff_iff];constructor
 ·rintro⟨x,e',σ',h1,h⟩;exact⟨_,_,_,tW.2 (Vs h1),h⟩
 ·rintro⟨x,e',σ',h1,h⟩;exact⟨x,e',σ',by rw[tW.1 h1];rfl,h⟩
def Px(T:Ak)(live:List Nat)(it:bM)(l i nx ok b:Nat)(c rest:cZ)(r:R)(_m:Mark c:=.mk)(_m':Mark rest:=.mk):Exit→Env→SK→Prop
 |.normal,e,σ=>bw T (.j7 live it nx ok b c rest (restrict live e) σ)=some r
 |.exit j,e,σ=>if j=b then WC (bw T) rest e (aX σ l i .dead) fun x e' σ'=>r=.Gx x e' σ' else r=.Gx (.exit j) e (aX σ l i .dead)
 |.ret,e,σ=>r=.Gx .ret e (aX σ l i .dead)
 |.fU _,_,_=>False
@[simp,simp ↓] theorem arv{live:List Nat}{it:bM}{l i nx ok b:Nat}{c rest:cZ}{r:R}:Px T live it l i nx ok b c rest r .mk .mk .normal e σ=(bw T (.j7 live it nx ok b c rest (restrict live e) σ)=some r):=ah rfl
@[simp,simp ↓] theorem afy{live:List Nat}{it:bM}{l i nx ok b j:Nat}{c rest:cZ}{r:R}:Px T live it l i nx ok b c rest r .mk .mk (.exit j) e σ=if j=b then WC (bw T) rest e (aX σ l i .dead) fun x e' σ'=>r=.Gx x e' σ' else r=.Gx (.exit j) e (aX σ l i .dead):=ah rfl
@[simp,simp ↓] theorem aie{live:List Nat}{it:bM}{l i nx ok b:Nat}{c rest:cZ}{r:R}:Px T live it l i nx ok b c rest r .mk .mk .ret e σ=(r=.Gx .ret e (aX σ l i .dead)):=ah rfl
theorem Sb{l i b:Nat}{rest:cZ}{r:R}{x:Exit}{e1:Env}{σ1:SK}{live:List Nat}{it:bM}{nx ok:Nat}{c:cZ}(hx:x ≠ .normal)(h:Px T live it l i nx ok b c rest r .mk .mk x e1 σ1):zb (bw T) l i b rest (some (x,e1,σ1))=some r:=by
 cases x with
 |normal=>exact absurd rfl hx
 |fU d=>exact h.elim
 |ret=>simp only[aie]at h;subst h;rfl
 |exit j =>
  simp only[afy]at h;simp only[zb];split at h
  ·rename_i hj;obtain⟨x',e',σ',h1,rfl⟩:=h;rw[if_pos hj,h1];rfl
  ·rename_i hj;subst h;rw[if_neg hj]
theorem apf{live:List Nat}{it:bM}{l i nx ok b:Nat}{c c' rest rest':cZ}{r:R}{m:D}{n:Nat}{js:List D}{us:List Nat}(hcc:c=c')(hrr:rest=rest')(hit:bh (restrict live e) it=.nO l i)(hd:Lc σ l i=some (m,n,js,us))(hne:us≠[])
  (h:∀u∈us,WC (bw T) c' ((ok,.bool true)::(nx,.undef)::restrict live e) (aX σ l i (.cells 1 (m::.int .i64 (n:Nat)::.int .i64 (u:Nat)::js))) (Px T live it l i nx ok b c rest' r .mk .mk)):
  bw T (.j7 live it nx ok b c rest e σ)=some r:=by
 subst hcc hrr;refine iq ?_;simp only[dA,hit,hd];have key:∀u∈us,CX (bw T) live it l i nx ok b c rest (aZ (bw T) c ((ok,.bool true)::(nx,.undef)::restrict live e) (aX σ l i (.cells 1 (m::.int .i64 (n:Nat)::.int .i64 (u:Nat)::js))))=some r:=by
  intro u hu;obtain⟨x,e1,σ1,h1,h2⟩:=h u hu;rw[h1];cases x with
  |normal=>exact tW.1 h2
  |exit j=>exact Sb (x:=.exit j) (by simp) h2
  |ret=>exact Sb (x:=.ret) (by simp) h2
  |fU d=>exact h2.elim
 cases us with
 |nil=>exact absurd rfl hne
 |cons u us=>exact O2 (by simp) key
theorem aib{live:List Nat}{it:bM}{l i nx ok b:Nat}{c c' rest rest':cZ}{r:R}{m:D}{n:Nat}{js:List D}(hcc:c=c')(hrr:rest=rest')(hit:bh (restrict live e) it=.nO l i)(hd:Lc σ l i=some (m,n,js,[]))
  (h:WC (bw T) c' ((ok,.bool false)::(nx,.undef)::restrict live e) σ fun x e1 σ1=>x ≠ .normal∧Px T live it l i nx ok b c rest' r .mk .mk x e1 σ1):
  bw T (.j7 live it nx ok b c rest e σ)=some r:=by
 subst hcc hrr;refine iq ?_;simp only[dA,hit,hd];obtain⟨x,e1,σ1,h1,hx,h2⟩:=h;rw[h1];exact Sb hx h2
def ayt:Exit→Option (Option D)
 |.normal=>some none
 |.ret=>some none
 |.fU d=>some (some d)
 |.exit _=>none
@[simp] theorem aCo:ayt .ret=some none:=ah rfl
@[simp] theorem aCp{d:D}:ayt (.fU d)=some (some d):=ah rfl
noncomputable def xz(T:Ak)(fv:D)(args:List D)(th:Option D)(σ:SK):Option SK :=
 match rL (bw T) fv args th σ with
 |some (.val _ σ')=>some σ'
 |_=>none
theorem wg{f:Nat}{first cap args:List D}{th:Option D}{σ σ':SK}{d:D}(h:bw T (.zB f (first++args++cap) th σ)=some (.val d σ')):xz T (.fn f first cap) args th σ=some σ':=by
 simp only[xz,rL,h]
def DB(T:Ak)(fv:D)(args:List D)(σ:SK)(res:List Ih)(d:D)(x:Exit)(e:Env)(σ1:SK):Prop :=
 WD (ayt x) fun th=>WD (xz T fv args th σ1) fun σ2=>∃ds,BB e σ2 res=some ds∧∃s,cI (σ.length-1) deep (vo ds) σ2=(d,s::σ)
def SH(T:Ak)(f:bM)(args:List bM)(q:cZ)(σ:SK)(res:List Ih)(d:D)(x:Exit)(e:Env)(σ1:SK)(_m:Mark q:=.mk):Prop :=
 x=.normal∧WC (bw T) q e σ1 (DB T (bh e f) (args.map (bh e)) σ res d)
theorem Tq{f:Nat}{fn:Fn}{args:List D}{σ:SK}{d:D}{np:Nat}{res:List Ih}{body A q:cZ}{fo:bM}{as:List bM}(hT:T f=some fn)(hf:fn=⟨np,res,body⟩)(hl:args.length=np)(hs:j5 body=some (A,fo,as,q))
  (h:WC (bw T) A (oH 0 args) ([]::σ) (SH T fo as q σ res d)):
  bw T (.call false f args σ)=some (.val d σ):=by
 subst hf;obtain⟨x,e1,σ1,h1,rfl,x2,e2,σ2,h2,th,h3,σ3,h4,ds,h5,s,h6⟩:=h;refine iq ?_;have hn:aZ (bw T) body (oH 0 args) ([]::σ)=none:=zW hs h1;simp only[dA,hT,if_pos hl,aB,if_false,hn,hs,A7,h1,h2];have h4':∃dv,rL (bw T) (bh e1 fo) (as.map (bh e1)) th σ2=some (.val dv σ3):=by
  unfold xz at h4;split at h4
  ·rename_i h7;cases h4;exact⟨_,h7⟩
  ·cases h4
 obtain⟨dv,h4'⟩:=h4';cases x2 with
 |exit i=>cases h3
 |normal=>cases h3;simp only[A9,h4',wh,leave,h5,h6]
 |ret=>cases h3;simp only[A9,h4',wh,leave,h5,h6]
 |fU d=>cases h3;simp only[A9,h4',wh,leave,h5,h6]
def atM(σ':SK)(res:List Ih)(x:Exit)(e:Env)(σ1:SK):Prop :=
 (∀i,x ≠ .exit i)∧(∀d,x ≠ .fU d)∧BB e σ1 res=some []∧∃s,σ1=s::σ'
@[simp,simp ↓] theorem asl{σ' σ1:SK}{res:List Ih}:atM σ' res .normal e σ1=(BB e σ1 res=some []∧∃s,σ1=s::σ'):=by simp[atM]
theorem Ed{f:Nat}{fn:Fn}{args:List D}{th:Option D}{σ σ':SK}{np:Nat}{res:List Ih}{body q:cZ}{e0:Env}(hT:T f=some fn)(hf:fn=⟨np,res,body⟩)(hl:args.length=np)(hr:sT th args body=some (e0,q))
  (h:WC (bw T) q e0 ([]::σ) (atM σ' res)):bw T (.zB f args th σ)=some (.val (.ez []) σ'):=by
 subst hf;obtain⟨x,e1,σ1,h1,h2,h2',h3,s,rfl⟩:=h;refine iq ?_;simp only[dA,hT,if_pos hl,hr,h1];cases x with
 |exit i=>exact absurd rfl (h2 i)
 |fU d=>exact absurd rfl (h2' d)
 |normal=>simp[h3]
 |ret=>simp[h3]
end code
@[simp] theorem aBk{k t:Nat}{v:D}{r:Env}:get ((k,v)::r) t=if k=t then v else get r t:=ah rfl
@[simp] theorem aBD{t:Nat}{v:D}{e:Env}:put (some t) v e=(t,v)::e:=ah rfl
@[simp] theorem aBC{v:D}{e:Env}:put none v e=e:=ah rfl
@[simp] theorem aBz{e:Env}{n:Nat}:bh e (.t n)=(get e n).strip:=ah rfl
@[simp] theorem aFB{e:Env}{d:D}:bh e (.c d)=d:=ah rfl
@[simp] theorem arF{e:Env}:restrict [] e=[]:=ah rfl
@[simp] theorem ap5{t:Nat}{l:List Nat}{e:Env}:restrict (t::l) e=(t,(get e t).calm)::restrict l e:=ah rfl
@[simp] theorem ayT{n:Nat}:oH n []=[]:=ah rfl
@[simp] theorem axm{n:Nat}{d:D}{ds:List D}:oH n (d::ds)=(n,d)::oH (n+1) ds:=ah rfl
section
variable {e:Env} {σ:SK}
@[simp] theorem aBJ:BB e σ []=some []:=ah rfl
@[simp] theorem aze{r:Ih}{rs:List Ih}:BB e σ (r::rs)=(NG e σ r).bind fun d=>(BB e σ rs).map fun ds=>d::ds:=ah rfl
@[simp] theorem aEz{n:Nat}:NG e σ (.t n)=some (get e n).strip:=ah rfl
@[simp] theorem aEy{n sz:Nat}{ag:Bool}:NG e σ (.c n ag sz)=US ag sz (KG σ (get e n).strip):=by
 simp only[NG,bN,aBz];cases KG σ (get e n).strip with
 |none=>rfl
 |some cs =>
  simp only[US];split
  ·cases ag
   ·cases cs<;>rfl
   ·rfl
  ·rfl
@[simp] theorem aEA{n sz:Nat}{ag:Bool}:NG e σ (.v n ag sz)=ao0 e n ag sz n:=by
 simp only[NG,bN,ao0];cases sH e n n with
 |none=>rfl
 |some x =>
  obtain⟨s,cs,off⟩:=x;simp only[US,aT];split
  ·cases ag
   ·cases cs.drop off<;>rfl
   ·rfl
  ·rfl
@[simp] theorem ayV{d:D}:vo [d]=d:=ah rfl
@[simp] theorem ayU:vo []=.ez []:=ah rfl
@[simp] theorem ayW{d d':D}{ds:List D}:vo (d::d'::ds)=.ez (d::d'::ds):=ah rfl
@[simp] theorem ayH{cs:List D}:sG e [] cs=some cs:=ah rfl
@[simp] theorem axd{off sz:Nat}{x:bM}{r:List (Nat×Nat×bM)}{cs:List D}:sG e ((off,sz,x)::r) cs =
  ((bh e x).cells.bind fun p=>if p.length=sz∧off+sz≤cs.length then some (cs.take off++p++cs.drop (off+sz))else none).bind (sG e r):=by
 simp only[sG];cases(bh e x).cells with
 |none=>rfl
 |some p=>dsimp only [Option.bind_some];split<;>rfl
@[simp] theorem ayB{w:Nat}{s:List UInt8}:elems σ w (.str s)=if w=1 then some (s.length,strCells s)else none:=ah rfl
@[simp] theorem ayA{w n:Nat}{cs:List D}:elems σ w (.aK n cs)=if cs.length=n*w then some (n,cs)else none:=ah rfl
end
attribute [simp] bN Qf mc ix sH vw ayr ao0 E2 bounds D.row cells? ei gk aX iZ
@[simp] theorem asC{b:Bool}:D.clean (.bool b)=true:=by rw[D.clean]
@[simp] theorem axN{k:IntKind}{n:Int}:D.clean (.int k n)=true:=by rw[D.clean]
@[simp] theorem axP{s:List UInt8}:D.clean (.str s)=true:=by rw[D.clean]
@[simp] theorem asF:D.clean .aH=true:=by rw[D.clean]
@[simp] theorem axM{t:Nat}{d:D}:D.clean (.vn t d)=D.clean d:=by rw[D.clean]
@[simp] theorem asE:D.clean .jj=true:=by rw[D.clean]
@[simp] theorem azc{l i v o n w:Nat}:D.clean (.sl l i v o n w)=false:=by rw[D.clean]
@[simp] theorem axL{cs:List D}:D.clean (.agg cs)=D.bD cs:=by rw[D.clean]
@[simp] theorem axQ{cs:List D}:D.clean (.ez cs)=D.bD cs:=by rw[D.clean]
@[simp] theorem asD{cs:List D}:D.clean (.bE cs)=D.bD cs:=by rw[D.clean]
@[simp] theorem axO{n:Nat}{cs:List D}:D.clean (.aK n cs)=D.bD cs:=by rw[D.clean]
@[simp] theorem azb{f:Nat}{a b:List D}:D.clean (.fn f a b)=(D.bD a && D.bD b):=by rw[D.clean]
@[simp] theorem atE:D.bD []=true:=by rw[D.bD]
@[simp] theorem ash{d:D}{ds:List D}:D.bD (d::ds)=(D.clean d && D.bD ds):=by rw[D.bD]
@[simp] theorem ajN:deep=16:=ah rfl
@[simp] theorem lh{l n:Nat}{d:D}{σ:SK}(h:d.clean=true)(hn:0<n):cI l n d σ=(d,σ):=by
 obtain⟨m,rfl⟩:∃m,n=m+1:=⟨n-1,by omega⟩;unfold cI;simp[h]
@[simp] theorem axe{l n:Nat}{ds:List D}{σ:SK}(h:D.bD ds=true)(hn:0<n):cI.frzL (cI l n) ds σ=(ds,σ):=by
 induction ds generalizing σ with
 |nil=>rfl
 |cons d ds ih =>
  simp only[D.bD,af]at h;simp[cI.frzL,h.1,ih h.2,hn]
@[simp] theorem Br{f:D→SK→D×SK}{σ:SK}:cI.frzL f [] σ=([],σ):=ah rfl
@[simp] theorem yq{f:D→SK→D×SK}{d:D}{ds:List D}{σ:SK}:cI.frzL f (d::ds) σ=((f d σ).1::(cI.frzL f ds (f d σ).2).1,(cI.frzL f ds (f d σ).2).2):=ah rfl
theorem E7{l n:Nat}{ds:List D}{σ:SK}(h:D.bD ds=false)(hn:0<n):cI l n (.ez ds) σ=(.ez (cI.frzL (cI l (n-1)) ds σ).1,(cI.frzL (cI l (n-1)) ds σ).2):=by
 obtain⟨m,rfl⟩:∃m,n=m+1:=⟨n-1,by omega⟩
 conv=>lhs;unfold cI
 simp[D.clean,h]
theorem agz{l n:Nat}{ds:List D}{σ:SK}(h:D.bD ds=false)(hn:0<n):cI l n (.agg ds) σ=(.agg (cI.frzL (cI l (n-1)) ds σ).1,(cI.frzL (cI l (n-1)) ds σ).2):=by
 obtain⟨m,rfl⟩:∃m,n=m+1:=⟨n-1,by omega⟩
 conv=>lhs;unfold cI
 simp[D.clean,h]
theorem HW{l n l' i v off m w:Nat}{σ:SK}{cs:List D}(h:¬l'≤l)(hc:cells? σ l' i v=some cs)(hn:0<n):
  cI l n (.sl l' i v off m w) σ=(.aK m (cI.frzL (cI l (n-1)) ((cs.drop off).take (m*w)) (aX σ l' i .dead)).1,(cI.frzL (cI l (n-1)) ((cs.drop off).take (m*w)) (aX σ l' i .dead)).2):=by
 obtain⟨m,rfl⟩:∃m,n=m+1:=⟨n-1,by omega⟩
 conv=>lhs;unfold cI
 simp only[D.clean,h,hc,aB,if_false,Nat.add_sub_cancel]
@[simp] theorem axg{l n l' i v off m w:Nat}{σ:SK}(h:l'≤l)(hn:0<n):cI l n (.sl l' i v off m w) σ=(.sl l' i v off m w,σ):=by
 obtain⟨m,rfl⟩:∃m,n=m+1:=⟨n-1,by omega⟩
 conv=>lhs;unfold cI
 simp only[D.clean,h,if_true,aB,if_false]
@[simp] theorem asn{l n l' i v off:Nat}{σ:SK}(h:l'≤l)(hn:0<n):cI l n (.ref l' i v off) σ=(.ref l' i v off,σ):=by
 obtain⟨m,rfl⟩:∃m,n=m+1:=⟨n-1,by omega⟩
 conv=>lhs;unfold cI
 simp only[D.clean,h,if_true,aB,if_false]
@[simp] theorem aEq{n:Nat}:(n+1+1=n)=False:=by simp;omega
@[simp] theorem aEr{n:Nat}:(n+1+1+1=n)=False:=by simp;omega
@[simp] theorem aEs{n:Nat}:(n+1+1+1+1=n)=False:=by simp;omega
@[simp] theorem aEt{n:Nat}:(n+1+1+1+1+1=n)=False:=by simp;omega
theorem Gv{a b:List D}:D.bD (a++b)=(D.bD a && D.bD b):=by
 induction a with
 |nil=>rfl
 |cons d a ih=>simp[D.bD,ih,Bool.and_assoc]
end Go.Abs
