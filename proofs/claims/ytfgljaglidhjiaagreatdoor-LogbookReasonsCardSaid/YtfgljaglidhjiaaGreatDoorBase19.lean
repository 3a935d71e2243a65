import Derived.Test.YtfgljaglidhjiaaGreatDoorBase12
import Derived.Lib.LaidTab
import Derived.LaidLaws
import Derived.Shelf.Vars
set_option linter.all false
namespace Go.Abs
open Go
theorem Qb{P:Program}{w:World}:∀{l:List (String×DataW Unit)} {ps:List MemPlace},DataW.LaidVars P w l ps→∀x∈l,
  ∃g t cs fuel p,P.globalNamed x.1=some g∧(P.globals[g]?).map (·.type)=some t∧w.var? P x.1=some cs∧DataW.trod (fun _=>()) P w 0 (fun _=>true) false fuel t cs.toList=some (x.2,p) ∧
   ∀m∈MemPlace.row ⟨g,0,none⟩ cs.size,m∈ps
 |[],_,_,x,hx=>by cases hx
 |(n,d)::r,ps,h,x,hx=>by
  obtain⟨g,t,cs,fuel,p,q,h1,h2,h3,h4,h5,rfl⟩:=h;rcases ba.1 hx with rfl | hx
  ·exact⟨g,t,cs,fuel,p,h1,h2,h3,h4,fun m hm=>by simp[hm]⟩
  ·obtain⟨g',t',cs',f',p',k1,k2,k3,k4,k5⟩:=Qb h5 x hx;exact⟨g',t',cs',f',p',k1,k2,k3,k4,fun m hm=>by simp[k5 m hm]⟩
theorem IX{P:Program}{w:World}{l:List (String×DataW Unit)}(hl:laidMet P l w){n:String}{d:DataW Unit}(hx:(n,d)∈l){b t:Nat}(hb:P.globalNamed n=some b)(ht:(P.globals[b]?).map (·.type)=some t):
  ∃cs fuel p,DataW.trod (fun _=>()) P w 0 (fun _=>true) false fuel t cs.toList=some (d,p)∧(0<cs.size→∃t',w.heap[b]?=some (.cells cs t' (0,0))):=by
 obtain⟨ps,h1,_,h2⟩:=hl;obtain⟨g,t',cs,fuel,p,k1,k2,k3,k4,k5⟩:=Qb h1 _ hx;obtain rfl:=Option.some.inj (hb.symm.trans k1);obtain rfl:=Option.some.inj (ht.symm.trans k2);refine⟨cs,fuel,p,k4,fun hpos=>?_⟩;obtain⟨⟨c,t',hc⟩,_⟩:=h2 b 0 (k5 _ (by simp only[MemPlace.row,bR,List.mem_range];exact⟨0,hpos,by simp⟩));simp only[World.var?,hb,Option.bind_some,hc,ae]at k3;subst k3;exact⟨t',hc⟩
theorem PZ{P:Program}{w:World}{l:List (String×DataW Unit)}(hl:laidMet P l w){n nm:String}{d:DataW Unit}(hx:(n,.iface nm d)∈l){b t:Nat}{ms:Array (String×TypeId)}(hb:P.globalNamed n=some b)
  (ht:(P.globals[b]?).map (·.type)=some t) (hu:P.underlying t=some (.interface ms)):∃c t v,w.heap[b]?=some (.cells c t (0,0))∧c[0]?=some v∧v.oneCell'=true∧afZ (.cells c t (0,0)):=by
 obtain⟨cs,fuel,p,h1,h2⟩:=IX hl hx hb ht;obtain⟨f1,u,v,hcs,_⟩:=iface_of_trod hu h1;obtain rfl:cs = #[.iface u v]:=by rw[← gQ,hcs]
 obtain⟨t',hc⟩:=h2 (by simp);exact⟨_,t',.iface u v,hc,by simp,rfl,_,t',_,.iface u v,rfl,by simp,.inr ⟨u,v,rfl⟩⟩
theorem agm{P:Program}{w:World}{l:List (String×DataW Unit)}(hl:laidMet P l w){n:String}(hx:(n,Lib.tabData .u64 Lib.pow10Tab)∈l){b t e k:Nat}(hb:P.globalNamed n=some b)
  (ht:(P.globals[b]?).map (·.type)=some t) (hu:P.underlying t=some (.array k e)) (he:P.underlying e=some (.int .u64)) (hce:P.cellsOf e=1) (hct:P.cellsOf t=k):
  ∃c t v,w.heap[b]?=some (.cells c t (0,0))∧c[0]?=some v∧v.oneCell'=true∧anC (.cells c t (0,0)):=by
 obtain⟨cs,fuel,p,h1,h2⟩:=IX hl hx hb ht;have hcs:=Lib.cells_of_tab hu he hce hct h1;obtain rfl:cs=(Lib.pow10Tab.map (Value.int .u64)).toArray:=by rw[← gQ,hcs]
 obtain⟨t',hc⟩:=h2 (by decide);exact⟨_,t',.int .u64 1,hc,rfl,rfl,t',_,rfl⟩
theorem agl{P:Program}{w:World}(h:w.ShapedOpen P){g t:Nat}{zero:Array Value}(hg:g<P.globals.size)(h0:((begin P (fun _ _=>0) default).world.heap[g]?).bind Obj.row?=some (zero,t))(hz:zero.size=1)
  (hb:P.buildable t=true) (hc:P.cellTypes P.depth t=some [t]) (hu:P.underlying t=some (.int .i64)):∃c t v,w.heap[g]?=some (.cells c t (0,0))∧c[0]?=some v∧v.oneCell'=true∧anB (.cells c t (0,0)):=by
 obtain⟨m,hm⟩:=Go.Proofs.cell_of_shapedOpen_int h hg h0 hz hb hc hu;obtain⟨cs,hh,_⟩:=h.1 g zero t hg h0;have h1:cs[0]?=some (.int .i64 m):=by simpa[World.cell?,hh]using hm
 exact⟨cs,t,_,hh,h1,rfl,cs,t,_,m,rfl,h1⟩
variable {T:yN} {O:bN}
theorem aD.{u}{α:Sort u}{a b:α}(h:a=b):a=b:=h
inductive Mark.{u} {α:Sort u} (a:α):Type
 |mk
def WO(O:bN)(ops:List Op)(e:Env)(σ:SK)(Q:Env→SK→Prop)(_m:Mark Q:=.mk):Prop:=∃e' σ',mF O ops e σ=some (e',σ')∧Q e' σ'
def WC(O:bN)(c:cH)(e:Env)(σ:SK)(Q:Exit→Env→SK→Prop)(_m:Mark c:=.mk)(_m':Mark Q:=.mk):Prop:=∃x e' σ',aZ O c e σ=some (x,e',σ')∧Q x e' σ'
def WV(o:Option (D×SK))(Q:D→SK→Prop)(_m:Mark Q:=.mk):Prop:=∃d σ',o=some (d,σ')∧Q d σ'
def WL(T:yN)(live:List Nat)(bw:Bool)(c:cH)(e:Env)(σ:SK)(Q:Exit→Env→SK→Prop)(_m:Mark c:=.mk)(_m':Mark Q:=.mk):Prop:=∃x e' σ',lim T (.loop live bw c e σ)=some (.CI x e' σ')∧Q x e' σ'
theorem WO.mono{ops:List Op}{e:Env}{σ:SK}{Q Q':Env→SK→Prop}(h:WO O ops e σ Q)(hq:∀e σ,Q e σ→Q' e σ):WO O ops e σ Q' :=
 let ⟨e',σ',h1,h2⟩:=h;⟨e',σ',h1,hq _ _ h2⟩
theorem WC.mono{c:cH}{e:Env}{σ:SK}{Q Q':Exit→Env→SK→Prop}(h:WC O c e σ Q)(hq:∀x e σ,Q x e σ→Q' x e σ):WC O c e σ Q' :=
 let ⟨x,e',σ',h1,h2⟩:=h;⟨x,e',σ',h1,hq _ _ _ h2⟩
theorem WL.mono{live:List Nat}{bw:Bool}{c:cH}{e:Env}{σ:SK}{Q Q':Exit→Env→SK→Prop}(h:WL T live bw c e σ Q)(hq:∀x e σ,Q x e σ→Q' x e σ):WL T live bw c e σ Q' :=
 let ⟨x,e',σ',h1,h2⟩:=h;⟨x,e',σ',h1,hq _ _ _ h2⟩
def WD{α:Type}(o:Option α)(Q:α→Prop)(_m:Mark Q:=.mk):Prop:=∃d,o=some d∧Q d
@[simp,simp ↓] theorem DM{α:Type}{d:α}{Q:α→Prop}:WD (some d) Q=Q d:=by
 simp only[WD,ae,eq_iff_iff];exact⟨fun⟨_,h,h'⟩=>by rw[h];exact h',fun h=>⟨_,rfl,h⟩⟩
@[simp,simp ↓] theorem af3{α:Type}{Q:α→Prop}:WD none Q=False:=by simp[WD]
def KW:D→Option Bool
 |.bool b=>some b
 |_=>none
@[simp] theorem anN{b:Bool}:KW (.bool b)=some b:=aD rfl
@[simp] theorem at7{b:Bool}:(D.bool b).bit=some (some b):=aD rfl
@[simp] theorem axz:(D.dK []).bit=some none:=aD rfl
def anT(k:IntKind):D→Option D
 |.int _ m=>some (.int k (k.wrap m))
 |_=>none
@[simp] theorem auf{k k':IntKind}{m:Int}:anT k (.int k' m)=some (.int k (k.wrap m)):=aD rfl
@[simp,simp ↓] theorem axs{d:D}{σ:SK}{Q:D→SK→Prop}:WV (some (d,σ)) Q=Q d σ:=by
 simp only[WV,ae,ak,eq_iff_iff];constructor
 ·rintro⟨_,_,⟨rfl,rfl⟩,h⟩;exact h
 ·exact fun h=>⟨_,_,⟨rfl,rfl⟩,h⟩
@[simp,simp ↓] theorem axr{Q:D→SK→Prop}:WV none Q=False:=by simp[WV]
@[simp,simp ↓] theorem ayw{e:Env}{σ:SK}{Q:Env→SK→Prop}:WO O [] e σ Q=Q e σ:=by
 simp only[WO,mF,ae,ak,eq_iff_iff];constructor
 ·rintro⟨_,_,⟨rfl,rfl⟩,h⟩;exact h
 ·exact fun h=>⟨_,_,⟨rfl,rfl⟩,h⟩
def azU(d:D)(w:Bool):Option Bool :=
 match d with
 |.bool b=>some (b == w)
 |_=>none
@[simp,simp ↓] theorem aym{d:Option Nat}{g:Nat}{w n:Bool}{k:K}{r:List Op}{e:Env}{σ:SK}{Q:Env→SK→Prop}:
  WO O (⟨d,some (g,w),n,k⟩::r) e σ Q=WD (get e g).bit fun b=>if b=some w then WO O (⟨d,none,n,k⟩::r) e σ Q else WO O r (put d (.dK []) e) σ Q:=by
 cases h:(get e g).bit<;>simp only[WO,mF,h,reduceCtorEq,false_and,exists_false,af3,DM];rename_i b;by_cases hb:b=some w
 ·simp only[hb,if_true];rfl
 ·simp only[if_neg hb]
theorem dY{d:Option Nat}{n:Bool}{k:K}{r:List Op}{e:Env}{σ:SK}{Q:Env→SK→Prop}(h:vU O ⟨d,none,n,k⟩ e σ=(bL e σ k).map fun x=>(put d x.1 e,x.2)):
  WO O (⟨d,none,n,k⟩::r) e σ Q=WV (bL e σ k) fun v σ'=>WO O r (put d v e) σ' Q:=by
 simp only[WO,mF,h,WV,eq_iff_iff];constructor
 ·rintro⟨e',σ',h1,h2⟩;cases hs:bL e σ k with
  |none=>simp[hs]at h1
  |some y=>simp[hs]at h1;exact⟨y.1,y.2,rfl,e',σ',h1,h2⟩
 ·rintro⟨v,σ1,h1,e',σ',h2,h3⟩;exact⟨e',σ',by simp[h1,h2],h3⟩
theorem nO{o:Option (D×SK)}{o':Option D}{σ:SK}{Q:D→SK→Prop}(h:o=o'.map (·,σ)):WV o Q=WD o' fun v=>Q v σ:=by
 subst h;cases o'<;>simp
def aeg:D→Option D
 |.aG=>some (.int .i64 0)
 |.aI n _=>some (.int .i64 n)
 |.sl _ _ _ _ n _=>some (.int .i64 n)
 |_=>none
@[simp] theorem atb:aeg .aG=some (.int .i64 0):=aD rfl
@[simp] theorem avT{n:Nat}{cs:List D}:aeg (.aI n cs)=some (.int .i64 n):=aD rfl
@[simp] theorem axK{l i v o n w:Nat}:aeg (.sl l i v o n w)=some (.int .i64 n):=aD rfl
def Mu(ag:Bool)(sz:Nat):Option (List D)→Option D
 |some cs =>
  if sz≤cs.length then
   if ag then some (.agg (cs.take sz))else
   match cs with
   |d::_=>some d
   |[]=>none
  else none
 |none=>none
@[simp] theorem ayL{sz:Nat}{cs:List D}:Mu true sz (some cs)=if sz≤cs.length then some (.agg (cs.take sz))else none:=aD rfl
@[simp] theorem axI{d:D}{cs:List D}:Mu false 1 (some (d::cs))=some d:=by simp[Mu]
@[simp] theorem av7{σ:SK}{cs:List D}:E7 σ (.bD cs)=some cs:=aD rfl
@[simp] theorem axO{σ:SK}{l i v off:Nat}:E7 σ (.ref l i v off)=(cells? σ l i v).map (·.drop off):=aD rfl
def aef(e:Env)(v:Nat)(ag:Bool)(sz a:Nat):Option D:=Mu ag sz ((rY e v a).map fun x=>x.2.1.drop x.2.2)
def Tu:D→Option (List D)
 |.bD cs=>some cs
 |_=>none
@[simp] theorem anR{cs:List D}:Tu (.bD cs)=some cs:=aD rfl
@[simp] theorem as9:Ic false .aG=some true:=aD rfl
@[simp] theorem avP{n:Nat}{cs:List D}:Ic false (.aI n cs)=if n=0 then none else some false:=aD rfl
def avX:D→Option D
 |.bD cs=>some (.bD cs)
 |.ref l i v off=>some (.ref l i v off)
 |_=>none
@[simp] theorem avY{l i v off:Nat}:avX (.ref l i v off)=some (.ref l i v off):=aD rfl
def unD:UnOp→D→Option D
 |.not,.bool b=>some (.bool !b)
 |.neg,.int k n=>some (.int k (k.wrap (0-n)))
 |.xor,.int k n=>some (.int k (k.wrap ((BitVec.ofInt k.bits (if k.signed then -1 else k.max) ^^^ BitVec.ofInt k.bits n).toNat:Int)))
 |_,_=>none
@[simp] theorem axW{b:Bool}:unD .not (.bool b)=some (.bool !b):=aD rfl
@[simp] theorem axV{k:IntKind}{n:Int}:unD .neg (.int k n)=some (.int k (k.wrap (0-n))):=aD rfl
def Lf(n off:Nat):D→Option D
 |.bD cs=>some (.bD (cs.drop off))
 |.ref l i v o=>some (.ref l i v (o+off))
 |.own s _=>some (.vr n s off)
 |.vr v s o=>some (.vr v s (o+off))
 |_=>none
@[simp] theorem art{n off:Nat}{cs:List D}:Lf n off (.bD cs)=some (.bD (cs.drop off)):=aD rfl
@[simp] theorem asZ{n off l i v o:Nat}:Lf n off (.ref l i v o)=some (.ref l i v (o+off)):=aD rfl
@[simp] theorem asY{n off s:Nat}{cs:List D}:Lf n off (.own s cs)=some (.vr n s off):=aD rfl
@[simp] theorem avD{n off v s o:Nat}:Lf n off (.vr v s o)=some (.vr v s (o+off)):=aD rfl
def aAk(ag:Bool)(off sz:Nat):D→Option D
 |.agg cs =>
  if off+sz≤cs.length then
   if ag then some (.agg ((cs.drop off).take sz))else cs[off]?
  else none
 |_=>none
def P5(m len w:Nat)(x i:D):Option D :=
 match D4 i with
 |some n =>
  if 0≤n∧n<len then
   match x with
   |.bD cs=>some (.bD ((cs.drop (n.toNat*w)).take w))
   |.ref l j v off=>some (.ref l j v (off+n.toNat*w))
   |.own s _=>some (.vr m s (n.toNat*w))
   |.vr v s o=>some (.vr v s (o+n.toNat*w))
   |_=>none
  else none
 |none=>none
@[simp] theorem arz{m len w:Nat}{cs:List D}{k:IntKind}{n:Int}:P5 m len w (.bD cs) (.int k n)=if 0≤n∧n<len then some (.bD ((cs.drop (n.toNat*w)).take w))else none:=aD rfl
@[simp] theorem as5{m len w l j v off:Nat}{k:IntKind}{n:Int}:P5 m len w (.ref l j v off) (.int k n)=if 0≤n∧n<len then some (.ref l j v (off+n.toNat*w))else none:=aD rfl
def P6(w:Nat)(x i:D):Option D :=
 match x,D4 i with
 |.aI m cs,some n=>if 0≤n∧n<m then some (.bD ((cs.drop (n.toNat*w)).take w))else none
 |.sl l j v off m w',some n=>if 0≤n∧n<m∧w'=w then some (.ref l j v (off+n.toNat*w))else none
 |_,_=>none
@[simp] theorem as6{w m:Nat}{cs:List D}{k:IntKind}{n:Int}:P6 w (.aI m cs) (.int k n)=if 0≤n∧n<m then some (.bD ((cs.drop (n.toNat*w)).take w))else none:=aD rfl
@[simp] theorem avM{w l j v off m w':Nat}{k:IntKind}{n:Int}:P6 w (.sl l j v off m w') (.int k n)=if 0≤n∧n<m∧w'=w then some (.ref l j v (off+n.toNat*w))else none:=aD rfl
def ad0(ag:Bool)(len w:Nat)(x i:D):Option D :=
 match x,D4 i with
 |.agg cs,some n =>
  if 0≤n∧n<len∧(n.toNat+1)*w≤cs.length then
   if ag then some (.agg ((cs.drop (n.toNat*w)).take w))else cs[n.toNat*w]?
  else none
 |_,_=>none
@[simp] theorem as7{ag:Bool}{len w:Nat}{cs:List D}{k:IntKind}{n:Int}:ad0 ag len w (.agg cs) (.int k n)=if 0≤n∧n<len∧(n.toNat+1)*w≤cs.length then(if ag then some (.agg ((cs.drop (n.toNat*w)).take w))else cs[n.toNat*w]?)else none:=aD rfl
def mnD(x y:D):Option D :=
 match x,y with
 |.int k a,.int _ b=>some (.int k (min a b))
 |_,_=>none
@[simp] theorem axL{k k':IntKind}{a b:Int}:mnD (.int k a) (.int k' b)=some (.int k (min a b)):=aD rfl
def mxD(x y:D):Option D :=
 match x,y with
 |.int k a,.int _ b=>some (.int k (max a b))
 |_,_=>none
@[simp] theorem axM{k k':IntKind}{a b:Int}:mxD (.int k a) (.int k' b)=some (.int k (max a b)):=aD rfl
def aun(x:D)(i:Nat):Option D :=
 match x with
 |.dK ds=>ds[i]?
 |_=>none
@[simp] theorem auo{ds:List D}{i:Nat}:aun (.dK ds) i=ds[i]?:=aD rfl
def an0(ag:Bool)(ks:List (Option IntKind))(neg:Bool)(x y:D):Option D :=
 match x.row ag,y.row ag with
 |some p,some q=>(Aa ks p q).map fun b => .bool (if neg then !b else b)
 |_,_=>none
@[simp] theorem axC{ks:List (Option IntKind)}{neg:Bool}{p q:List D}:an0 true ks neg (.agg p) (.agg q)=(Aa ks p q).map fun b => .bool (if neg then !b else b):=aD rfl
@[simp] theorem av9:Aa [] [] []=some true:=aD rfl
@[simp] theorem av8{k k1 k2:IntKind}{ks:List (Option IntKind)}{a b:Int}{x y:List D}:Aa (some k::ks) (.int k1 a::x) (.int k2 b::y)=if k1=k∧k2=k then(Aa ks x y).map (a == b && ·)else none:=aD rfl
def agZ(w:Nat)(x:D)(e:Env)(lo hi mx:Option bK):Option D :=
 match x with
 |.aI n cs=>(bounds n e lo hi mx).map fun b => .aI (b.2-b.1) ((cs.drop (b.1*w)).take ((b.2-b.1)*w))
 |.sl l i v off n w'=>if w'=w then(bounds n e lo hi mx).map fun b => .sl l i v (off+b.1*w) (b.2-b.1) w else none
 |.aG=>(bounds 0 e lo hi mx).map fun _ => .aG
 |_=>none
@[simp] theorem awL{w n:Nat}{cs:List D}{e:Env}{lo hi mx:Option bK}:agZ w (.aI n cs) e lo hi mx=(bounds n e lo hi mx).map fun b => .aI (b.2-b.1) ((cs.drop (b.1*w)).take ((b.2-b.1)*w)):=aD rfl
@[simp] theorem axQ{w l i v off n w':Nat}{e:Env}{lo hi mx:Option bK}:agZ w (.sl l i v off n w') e lo hi mx=if w'=w then(bounds n e lo hi mx).map fun b => .sl l i v (off+b.1*w) (b.2-b.1) w else none:=aD rfl
section bins
variable {k:IntKind} {a b:Int}
@[simp] theorem atW:vC .add (.int k a) (.int k b)=some (.int k (k.wrap (a+b))):=by simp[vC]
@[simp] theorem at6:vC .sub (.int k a) (.int k b)=some (.int k (k.wrap (a-b))):=by simp[vC]
@[simp] theorem at2:vC .mul (.int k a) (.int k b)=some (.int k (k.wrap (a*b))):=by simp[vC]
@[simp] theorem at4:vC .quo (.int k a) (.int k b)=if b≠0 then some (.int k (k.wrap (a.tdiv b)))else none:=by simp[vC]
@[simp] theorem at5:vC .rem (.int k a) (.int k b)=if b≠0 then some (.int k (a.tmod b))else none:=by simp[vC]
@[simp] theorem atX:vC .eql (.int k a) (.int k b)=some (.bool (a == b)):=by simp[vC]
@[simp] theorem at3:vC .neq (.int k a) (.int k b)=some (.bool (a != b)):=by simp[vC]
@[simp] theorem at1:vC .lss (.int k a) (.int k b)=some (.bool (decide (a<b))):=by simp[vC]
@[simp] theorem at0:vC .leq (.int k a) (.int k b)=some (.bool (decide (a≤b))):=by simp[vC]
@[simp] theorem atZ:vC .gtr (.int k a) (.int k b)=some (.bool (decide (b<a))):=by simp[vC]
@[simp] theorem atY:vC .geq (.int k a) (.int k b)=some (.bool (decide (b≤a))):=by simp[vC]
end bins
@[simp] theorem agU:D.strip .undef=.undef:=aD rfl
@[simp] theorem amR{b:Bool}:D.strip (.bool b)=.bool b:=aD rfl
@[simp] theorem ash{k:IntKind}{n:Int}:D.strip (.int k n)=.int k n:=aD rfl
@[simp] theorem asl{s:List UInt8}:D.strip (.str s)=.str s:=aD rfl
@[simp] theorem ase{cs:List D}:D.strip (.agg cs)=.agg cs:=aD rfl
@[simp] theorem asm{cs:List D}:D.strip (.dK cs)=.dK cs:=aD rfl
@[simp] theorem asj{l i v o:Nat}:D.strip (.ref l i v o)=.ref l i v o:=aD rfl
@[simp] theorem amS{cs:List D}:D.strip (.bD cs)=.bD cs:=aD rfl
@[simp] theorem amU:D.strip .aG=.aG:=aD rfl
@[simp] theorem asi{n:Nat}{cs:List D}:D.strip (.aI n cs)=.aI n cs:=aD rfl
@[simp] theorem aty{l i v o n w:Nat}:D.strip (.sl l i v o n w)=.sl l i v o n w:=aD rfl
@[simp] theorem atx{f:Nat}{a b:List D}:D.strip (.fn f a b)=.fn f a b:=aD rfl
@[simp] theorem asf{t:Nat}{d:D}:D.strip (.uj t d)=.uj t d:=aD rfl
@[simp] theorem amT:D.strip .pr=.pr:=aD rfl
@[simp] theorem atl{t:Nat}{d:D}:D.calm (.uj t d)=.uj t d:=aD rfl
@[simp] theorem arW:D.calm .pr=.pr:=aD rfl
@[simp] theorem asn{l i:Nat}:D.strip (.mH l i)=.mH l i:=aD rfl
@[simp] theorem amK:D.calm .undef=.undef:=aD rfl
@[simp] theorem arU{b:Bool}:D.calm (.bool b)=.bool b:=aD rfl
@[simp] theorem atm{k:IntKind}{n:Int}:D.calm (.int k n)=.int k n:=aD rfl
@[simp] theorem atq{s:List UInt8}:D.calm (.str s)=.str s:=aD rfl
@[simp] theorem atk{cs:List D}:D.calm (.agg cs)=.agg cs:=aD rfl
@[simp] theorem atp{l i v o:Nat}:D.calm (.ref l i v o)=.ref l i v o:=aD rfl
@[simp] theorem arV{cs:List D}:D.calm (.bD cs)=.bD cs:=aD rfl
@[simp] theorem arX:D.calm .aG=.aG:=aD rfl
@[simp] theorem atn{n:Nat}{cs:List D}:D.calm (.aI n cs)=.aI n cs:=aD rfl
@[simp] theorem av6{l i v o n w:Nat}:D.calm (.sl l i v o n w)=.sl l i v o n w:=aD rfl
@[simp] theorem av5{f:Nat}{a b:List D}:D.calm (.fn f a b)=.fn f a b:=aD rfl
@[simp] theorem atr{l i:Nat}:D.calm (.mH l i)=.mH l i:=aD rfl
@[simp] theorem ato{s:Nat}{cs:List D}:D.calm (.own s cs)=.own 0 cs:=aD rfl
@[simp] theorem amL{b:Bool}:D.cells (.bool b)=some [.bool b]:=aD rfl
@[simp] theorem arZ{k:IntKind}{n:Int}:D.cells (.int k n)=some [.int k n]:=aD rfl
@[simp] theorem ar2{s:List UInt8}:D.cells (.str s)=some [.str s]:=aD rfl
@[simp] theorem arY{cs:List D}:D.cells (.agg cs)=some cs:=aD rfl
@[simp] theorem ar1{l i v o:Nat}:D.cells (.ref l i v o)=some [.ref l i v o]:=aD rfl
@[simp] theorem ar0{n:Nat}{cs:List D}:D.cells (.aI n cs)=some [.aI n cs]:=aD rfl
@[simp] theorem att{l i v o n w:Nat}:D.cells (.sl l i v o n w)=some [.sl l i v o n w]:=aD rfl
@[simp] theorem ats{f:Nat}{a b:List D}:D.cells (.fn f a b)=some [.fn f a b]:=aD rfl
@[simp] theorem ar3{l i:Nat}:D.cells (.mH l i)=some [.mH l i]:=aD rfl
@[simp] theorem avN{k:IntKind}{n:Int}:D4 (.int k n)=some n:=aD rfl
@[simp] theorem rk{O:bN}{kp:Bool}{f:Nat}{first cap args:List D}{σ:SK}:pw O kp (.fn f first cap) args σ=R.bh (O (.call kp f (first++args++cap) σ)):=aD rfl
@[simp] theorem asU{O:bN}{kp:Bool}{l i:Nat}{args:List D}{σ:SK}:pw O kp (.mH l i) args σ=R.bh (O (.round l i args σ)):=aD rfl
@[simp] theorem awT{d:D}{σ:SK}:R.bh (some (.val d σ))=some (d,σ):=aD rfl
section ops
variable {d:Option Nat} {n:Bool} {r:List Op} {e:Env} {σ:SK} {Q:Env→SK→Prop}
@[simp,simp ↓] theorem azr{x:bK}:WO O (⟨d,none,n,.mv x⟩::r) e σ Q=WO O r (put d (bj e x) e) σ Q:=by rw[dY rfl];simp[bL]
@[simp,simp ↓] theorem axp{w:Nat}:WO O (⟨d,none,n,.pI w⟩::r) e σ Q=WV (bL e σ (.pI w)) fun v σ'=>WO O r (put d v e) σ' Q:=dY rfl
@[simp,simp ↓] theorem ayb{nb:List (Nat×Nat)}{cs:List D}:WO O (⟨d,none,n,.H6 nb cs⟩::r) e σ Q=WV (bL e σ (.H6 nb cs)) fun v σ'=>WO O r (put d v e) σ' Q:=dY rfl
@[simp,simp ↓] theorem axq{c a b:bK}:WO O (⟨d,none,n,.pick c a b⟩::r) e σ Q=WD (KW (bj e c)) fun t=>WO O r (put d (if t then bj e a else bj e b) e) σ Q:=by
 rw[dY rfl];simp only[bL];cases bj e c<;>simp[KW]
@[simp,simp ↓] theorem axg{x:bK}:WO O (⟨d,none,n,.H7 x⟩::r) e σ Q=WD (bj e x).cells fun cs=>WO O r (put d (.bD cs) e) σ Q:=by
 rw[dY rfl];simp only[bL];cases(bj e x).cells<;>simp
@[simp,simp ↓] theorem axh{x:bK}:WO O (⟨d,none,n,.H8 x⟩::r) e σ Q=WV (bL e σ (.H8 x)) fun v σ'=>WO O r (put d v e) σ' Q:=dY rfl
@[simp,simp ↓] theorem ayi{nb:List (Nat×Nat)}{x:bK}:WO O (⟨d,none,n,.bxn nb x⟩::r) e σ Q=WV (bL e σ (.bxn nb x)) fun v σ'=>WO O r (put d v e) σ' Q:=dY rfl
@[simp,simp ↓] theorem ayf{z:List D}{ps:List (Nat×Nat×bK)}:WO O (⟨d,none,n,.lh z ps⟩::r) e σ Q=WD (rX e ps z) fun cs=>WO O r (put d (.agg cs) e) σ Q:=by
 rw[dY rfl];simp only[bL];cases rX e ps z<;>simp
@[simp,simp ↓] theorem ayg{m w:Nat}{z:List D}{ps:List (Nat×Nat×bK)}:WO O (⟨d,none,n,.tH m w z ps⟩::r) e σ Q=WD (rX e ps z) fun cs=>WO O r (put d (.aI m cs) e) σ Q:=by
 rw[dY rfl];simp only[bL];cases rX e ps z<;>simp
@[simp,simp ↓] theorem ayh{m w:Nat}{z:List D}{ps:List (Nat×Nat×bK)}:WO O (⟨d,none,n,.KX m w z ps⟩::r) e σ Q=WV (bL e σ (.KX m w z ps)) fun v σ'=>WO O r (put d v e) σ' Q:=dY rfl
@[simp,simp ↓] theorem azn{ag:Bool}{sz:Nat}{a:bK}:WO O (⟨d,none,n,.ld ag sz a⟩::r) e σ Q=WD (Mu ag sz (E7 σ (bj e a))) fun v=>WO O r (put d v e) σ Q:=by
 rw[dY rfl];refine nO ?_;simp only[bL];cases E7 σ (bj e a)with
 |none=>rfl
 |some cs =>
  simp only[Mu];split
  ·cases ag
   ·cases cs<;>rfl
   ·rfl
  ·rfl
theorem Qr{σ:SK}{l i off:Nat}:Sj σ (.ref l i 0 off)=E7 σ (.ref l i 0 off):=rfl
@[simp,simp ↓] theorem ayp{ag:Bool}{sz:Nat}{a:bK}:WO O (⟨d,none,n,.Sg ag sz a⟩::r) e σ Q=WD (Mu ag sz (Sj σ (bj e a))) fun v=>WO O r (put d v e) σ Q:=by
 rw[dY rfl];refine nO ?_;simp only[bL];cases Sj σ (bj e a)with
 |none=>rfl
 |some cs =>
  simp only[Mu];split
  ·cases ag
   ·cases cs<;>rfl
   ·rfl
  ·rfl
@[simp,simp ↓] theorem ayq{ag:Bool}{sz:Nat}{a:bK}:WO O (⟨d,none,n,.Qc ag sz a⟩::r) e σ Q=WD (Mu ag sz (Tu (bj e a))) fun v=>WO O r (put d v e) σ Q:=by
 rw[dY rfl];refine nO ?_;simp only[bL];cases bj e a with
 |bD cs =>
  simp only[Tu,Mu];split
  ·cases ag
   ·cases cs<;>rfl
   ·rfl
  ·rfl
 |_=>rfl
@[simp,simp ↓] theorem ayo{ps neg:Bool}{x:bK}:WO O (⟨d,none,n,.Sf ps neg x⟩::r) e σ Q=WD (Ic ps (bj e x)) fun b=>WO O r (put d (.bool (if neg then !b else b)) e) σ Q:=by
 rw[dY rfl];simp only[bL];cases Ic ps (bj e x)<;>simp
@[simp,simp ↓] theorem ayv{x:bK}:WO O (⟨d,none,n,.mG x⟩::r) e σ Q=WD (avX (bj e x)) fun v=>WO O r (put d v e) σ Q:=by
 rw[dY rfl];refine nO ?_;simp only[bL];cases bj e x<;>rfl
@[simp,simp ↓] theorem azt{nb:List (Nat×Nat)}{sz:Nat}{a x:bK}:WO O (⟨d,none,n,.st nb sz a x⟩::r) e σ Q=WV (bL e σ (.st nb sz a x)) fun v σ'=>WO O r (put d v e) σ' Q:=dY rfl
@[simp,simp ↓] theorem ayr{v:Nat}{ag:Bool}{sz a:Nat}:WO O (⟨d,none,n,.Sh v ag sz a⟩::r) e σ Q=WD (aef e v ag sz a) fun v=>WO O r (put d v e) σ Q:=by
 rw[dY rfl];refine nO ?_;simp only[bL,aef];cases rY e v a with
 |none=>rfl
 |some x =>
  obtain⟨s,cs,off⟩:=x;simp only[Mu,aT];split
  ·cases ag
   ·cases cs.drop off<;>rfl
   ·rfl
  ·rfl
@[simp,simp ↓] theorem aye{o:BinOp}{x y:bK}:WO O (⟨d,none,n,.bin o x y⟩::r) e σ Q=WD (vC o (bj e x) (bj e y)) fun v=>WO O r (put d v e) σ Q:=by
 rw[dY rfl];simp only[bL];cases vC o (bj e x) (bj e y)<;>simp
@[simp,simp ↓] theorem ayk{ag:Bool}{ks:List (Option IntKind)}{neg:Bool}{x y:bK}:WO O (⟨d,none,n,.eqv ag ks neg x y⟩::r) e σ Q=WD (an0 ag ks neg (bj e x) (bj e y)) fun v=>WO O r (put d v e) σ Q:=by
 rw[dY rfl];refine nO ?_;simp only[bL,an0];cases(bj e x).row ag<;>cases(bj e y).row ag<;>simp[Option.map_map,Function.comp_def]
@[simp,simp ↓] theorem azu{o:UnOp}{x:bK}:WO O (⟨d,none,n,.un o x⟩::r) e σ Q=WD (unD o (bj e x)) fun v=>WO O r (put d v e) σ Q:=by
 rw[dY rfl];refine nO ?_;simp only[bL];cases o<;>cases bj e x<;>rfl
@[simp,simp ↓] theorem ayj{k:IntKind}{x:bK}:WO O (⟨d,none,n,.JG k x⟩::r) e σ Q=WD (anT k (bj e x)) fun v=>WO O r (put d v e) σ Q:=by
 rw[dY rfl];simp only[bL];cases bj e x<;>simp[anT]
@[simp,simp ↓] theorem ayx{p:Pu}{xs:List bK}:WO O (⟨d,none,n,.rj p xs⟩::r) e σ Q=WD (rU p (xs.map (bj e))) fun v=>WO O r (put d v e) σ Q:=by
 rw[dY rfl];simp only[bL];cases rU p (xs.map (bj e))<;>simp
@[simp,simp ↓] theorem azo{p:Me}{xs:List bK}:WO O (⟨d,none,n,.me p xs⟩::r) e σ Q=WV (meD σ p (xs.map (bj e))) fun v σ'=>WO O r (put d v e) σ' Q:=dY rfl
@[simp,simp ↓] theorem azq{p:Mo}{xs:List bK}:WO O (⟨d,none,n,.mp p xs⟩::r) e σ Q=WV (AV σ p (xs.map (bj e))) fun v σ'=>WO O r (put d v e) σ' Q:=dY rfl
@[simp,simp ↓] theorem ayt{t:Nat}{x:bK}:WO O (⟨d,none,n,.mki t x⟩::r) e σ Q=WO O r (put d (.uj t (bj e x)) e) σ Q:=by rw[dY rfl];simp[bL]
@[simp,simp ↓] theorem ayA{t:Nat}{z:Option D}{x:bK}:WO O (⟨d,none,n,.tas t z x⟩::r) e σ Q=WD (NM t z (bj e x)) fun v=>WO O r (put d v e) σ Q:=by
 rw[dY rfl];simp only[bL];cases NM t z (bj e x)<;>simp
@[simp,simp ↓] theorem ayn{neg:Bool}{x:bK}:WO O (⟨d,none,n,.isi neg x⟩::r) e σ Q=WD (ad7 (bj e x)) fun b=>WO O r (put d (.bool (if neg then !b else b)) e) σ Q:=by
 rw[dY rfl];simp only[bL];cases ad7 (bj e x)<;>simp
@[simp] theorem as8:ad7 .pr=some true:=aD rfl
@[simp] theorem avO{t:Nat}{d:D}:ad7 (.uj t d)=some false:=aD rfl
@[simp] theorem awO{t t':Nat}{z d:D}:NM t (some z) (.uj t' d)=some (if t'=t then .dK [d,.bool true]else .dK [z,.bool false]):=aD rfl
@[simp,simp ↓] theorem ays{f:Nat}{xs ys:List bK}:WO O (⟨d,none,n,.yq f xs ys⟩::r) e σ Q=WO O r (put d (.fn f (xs.map (bj e)) (ys.map (bj e))) e) σ Q:=by rw[dY rfl];simp[bL]
@[simp,simp ↓] theorem ayu{w b:Nat}{z:List D}{l c:bK}:WO O (⟨d,none,n,.mks w b z l c⟩::r) e σ Q=WV (bL e σ (.mks w b z l c)) fun v σ'=>WO O r (put d v e) σ' Q:=dY rfl
@[simp,simp ↓] theorem ayy{w:Nat}{x:bK}{lo hi mx:Option bK}:WO O (⟨d,none,n,.Jc w x lo hi mx⟩::r) e σ Q=WD (agZ w (bj e x) e lo hi mx) fun v=>WO O r (put d v e) σ Q:=by
 rw[dY rfl];refine nO ?_;simp only[bL,agZ];cases bj e x<;>first | rfl | (simp only[];split<;>simp[Option.map_map,Function.comp_def]) | simp[Option.map_map,Function.comp_def]
@[simp,simp ↓] theorem axk{off m:Nat}:WO O (⟨d,none,n,.Ia off (.t m)⟩::r) e σ Q=WD (Lf m off (get e m)) fun v=>WO O r (put d v e) σ Q:=by
 rw[dY rfl];refine nO ?_;simp only[bL];cases get e m<;>rfl
@[simp,simp ↓] theorem axl{l w m:Nat}{i:bK}:WO O (⟨d,none,n,.Bw l w (.t m) i⟩::r) e σ Q=WD (P5 m l w (get e m) (bj e i)) fun v=>WO O r (put d v e) σ Q:=by
 rw[dY rfl];refine nO ?_;simp only[bL,P5];cases D4 (bj e i)with
 |none=>rfl
 |some k=>simp only[];split<;>cases get e m<;>rfl
@[simp,simp ↓] theorem axm{w:Nat}{x i:bK}:WO O (⟨d,none,n,.dT w x i⟩::r) e σ Q=WD (P6 w (bj e x) (bj e i)) fun v=>WO O r (put d v e) σ Q:=by
 rw[dY rfl];refine nO ?_;simp only[bL,P6];cases D4 (bj e i)with
 |none=>cases bj e x<;>rfl
 |some k=>cases bj e x<;>first | rfl | (simp only[];split<;>rfl)
@[simp,simp ↓] theorem axn{ag:Bool}{l w:Nat}{x i:bK}:WO O (⟨d,none,n,.JP ag l w x i⟩::r) e σ Q=WD (ad0 ag l w (bj e x) (bj e i)) fun v=>WO O r (put d v e) σ Q:=by
 rw[dY rfl];refine nO ?_;simp only[bL,ad0];cases D4 (bj e i)with
 |none=>cases bj e x<;>rfl
 |some k=>cases bj e x<;>first | rfl | (simp only[];split<;>cases ag<;>simp)
@[simp,simp ↓] theorem axo{x:bK}:WO O (⟨d,none,n,.Ie x⟩::r) e σ Q=WD (aeg (bj e x)) fun v=>WO O r (put d v e) σ Q:=by
 rw[dY rfl];refine nO ?_;simp only[bL];cases bj e x<;>rfl
@[simp,simp ↓] theorem azp{x y:bK}:WO O (⟨d,none,n,.mn x y⟩::r) e σ Q=WD (mnD (bj e x) (bj e y)) fun v=>WO O r (put d v e) σ Q:=by
 rw[dY rfl];refine nO ?_;simp only[bL];cases bj e x<;>cases bj e y<;>rfl
@[simp,simp ↓] theorem azs{x y:bK}:WO O (⟨d,none,n,.mx x y⟩::r) e σ Q=WD (mxD (bj e x) (bj e y)) fun v=>WO O r (put d v e) σ Q:=by
 rw[dY rfl];refine nO ?_;simp only[bL];cases bj e x<;>cases bj e y<;>rfl
@[simp,simp ↓] theorem ayc{os:List Nat}{w b:Nat}{s x:bK}:WO O (⟨d,none,n,.Q0 os w b s x⟩::r) e σ Q=WV (bL e σ (.Q0 os w b s x)) fun v σ'=>WO O r (put d v e) σ' Q:=dY rfl
@[simp,simp ↓] theorem ayd{w b:Nat}{s x:bK}:WO O (⟨d,none,n,.app w b s x⟩::r) e σ Q=WV (bL e σ (.app w b s x)) fun v σ'=>WO O r (put d v e) σ' Q:=dY rfl
@[simp,simp ↓] theorem ayl{x:bK}{i:Nat}:WO O (⟨d,none,n,.ext x i⟩::r) e σ Q=WD (aun (bj e x) i) fun v=>WO O r (put d v e) σ Q:=by
 rw[dY rfl];refine nO ?_;simp only[bL];cases bj e x<;>rfl
@[simp,simp ↓] theorem axj{kp:Bool}{f:bK}{args:List bK}:WO O (⟨d,none,n,.call kp f args⟩::r) e σ Q =
  WV (pw O kp (bj e f) (args.map (bj e)) σ) fun v σ'=>(n=true→σ'=σ)∧WO O r (put d v e) σ' Q:=by
 simp only[WO,mF,vU,WV,eq_iff_iff];cases hc:pw O kp (bj e f) (args.map (bj e)) σ with
 |none=>simp
 |some y =>
  obtain⟨v,σ1⟩:=y;by_cases hn:n=true→σ1=σ
  ·simp only[if_pos hn,Option.bind_some,ae,ak];exact⟨fun h=>⟨v,σ1,⟨rfl,rfl⟩,hn,h⟩,fun⟨_,_,⟨h1,h2⟩,_,h⟩=>by subst h1 h2;exact h⟩
  ·simp only[if_neg hn,Option.bind_none,reduceCtorEq,false_and,exists_false,ae,ak,false_iff];rintro⟨_,_,⟨h1,h2⟩,h,_⟩;subst h1 h2;exact hn h
@[simp,simp ↓] theorem axf{nb:List (Nat×Nat)}{cs:List D}:WO O (⟨d,none,n,.ek nb cs⟩::r) e σ Q=WD d fun v=>WD (lf nb cs σ) fun y=>WO O r ((v,.own (uA e v) y.1)::e) y.2 Q:=by
 cases d with
 |none=>simp[WO,mF,vU]
 |some v=>cases h:lf nb cs σ with
  |none=>simp[WO,mF,vU,h]
  |some y=>obtain⟨a,b⟩:=y;simp only[WO,mF,vU,h,Option.bind_some,DM]
@[simp,simp ↓] theorem axi{x:bK}:WO O (⟨d,none,n,.EK x⟩::r) e σ Q=WD d fun v=>WD (bj e x).cells fun cs=>WO O r ((v,.own (uA e v) cs)::e) σ Q:=by
 cases d with
 |none=>simp[WO,mF,vU]
 |some v=>cases h:(bj e x).cells with
  |none=>simp[WO,mF,vU,h]
  |some y=>simp only[WO,mF,vU,h,Option.bind_some,DM]
def asM(e:Env)(σ:SK)(v:Nat)(nb:List (Nat×Nat))(sz a:Nat)(x:bK):Option (D×SK) :=
 match rY e v a,(bj e x).cells with
 |some (s,cs,off),some p =>
  if p.length=sz∧off+sz≤cs.length then
   match lf nb p σ with
   |some (p',σ')=>some (.own s (cs.take off++p'++cs.drop (off+sz)),σ')
   |none=>none
  else none
 |_,_=>none
@[simp,simp ↓] theorem ayz{v:Nat}{nb:List (Nat×Nat)}{sz a:Nat}{x:bK}:WO O (⟨d,none,n,.Er v nb sz a x⟩::r) e σ Q =
  WV (asM e σ v nb sz a x) fun y σ'=>WO O r ((v,y)::e) σ' Q:=by
 simp only[WO,mF,vU,asM];cases h1:rY e v a with
 |none=>simp
 |some p =>
  obtain⟨s,cs,off⟩:=p;cases h2:(bj e x).cells with
  |none=>simp
  |some p =>
   dsimp only;split
   ·cases h3:lf nb p σ with
    |none=>simp
    |some y=>obtain⟨a,b⟩:=y;simp[WO]
   ·simp
end ops
section code
variable {e:Env} {σ:SK} {Q:Exit→Env→SK→Prop}
@[simp,simp ↓] theorem ax7:WC O .dJ e σ Q=Q .normal e σ:=by
 simp only[WC,aZ,ae,ak,eq_iff_iff];exact⟨fun⟨_,_,_,⟨h1,h2,h3⟩,h⟩=>by subst h1 h2 h3;exact h,fun h=>⟨_,_,_,⟨rfl,rfl,rfl⟩,h⟩⟩
@[simp,simp ↓] theorem ax5{vs:List Nat}:WC O (.cr vs) e σ Q=Q .normal (u0 vs e σ).1 (u0 vs e σ).2:=by
 simp only[WC,aZ,ae,ak,eq_iff_iff];exact⟨fun⟨_,_,_,⟨h1,h2,h3⟩,h⟩=>by subst h1 h2 h3;exact h,fun h=>⟨_,_,_,⟨rfl,rfl,rfl⟩,h⟩⟩
@[simp,simp ↓] theorem axd{i:Nat}:WC O (.exit i) e σ Q=Q (.exit i) e σ:=by
 simp only[WC,aZ,ae,ak,eq_iff_iff];exact⟨fun⟨_,_,_,⟨h1,h2,h3⟩,h⟩=>by subst h1 h2 h3;exact h,fun h=>⟨_,_,_,⟨rfl,rfl,rfl⟩,h⟩⟩
@[simp,simp ↓] theorem ax9:WC O .ret e σ Q=Q .ret e σ:=by
 simp only[WC,aZ,ae,ak,eq_iff_iff];exact⟨fun⟨_,_,_,⟨h1,h2,h3⟩,h⟩=>by subst h1 h2 h3;exact h,fun h=>⟨_,_,_,⟨rfl,rfl,rfl⟩,h⟩⟩
@[simp,simp ↓] theorem ax8{live:List Nat}{ops:List Op}:WC O (.cc live ops) e σ Q=WO O ops e σ fun e' σ'=>Q .normal (restrict live e') σ':=by
 simp only[WC,aZ,WO,ad,ak,eq_iff_iff];constructor
 ·rintro⟨x,e',σ',⟨⟨e1,σ1⟩,h1,rfl,rfl,rfl⟩,h⟩;exact⟨e1,σ1,h1,h⟩
 ·rintro⟨e',σ',h1,h⟩;exact⟨_,_,_,⟨⟨e',σ'⟩,h1,rfl,rfl,rfl⟩,h⟩
def Mp(O:bN)(b:cH)(Q:Exit→Env→SK→Prop)(_m:Mark b:=.mk)(_m':Mark Q:=.mk):Exit→Env→SK→Prop
 |.normal,e,σ=>WC O b e σ Q
 |.exit i,e,σ=>Q (.exit i) e σ
 |.ret,e,σ=>Q .ret e σ
 |.fY d,e,σ=>Q (.fY d) e σ
@[simp,simp ↓] theorem atA{b:cH}{d:D}:Mp O b Q .mk .mk (.fY d) e σ=Q (.fY d) e σ:=aD rfl
@[simp,simp ↓] theorem ahg{b:cH}:Mp O b Q .mk .mk .normal e σ=WC O b e σ Q:=aD rfl
@[simp,simp ↓] theorem asP{b:cH}{i:Nat}:Mp O b Q .mk .mk (.exit i) e σ=Q (.exit i) e σ:=aD rfl
@[simp,simp ↓] theorem atz{b:cH}:Mp O b Q .mk .mk .ret e σ=Q .ret e σ:=aD rfl
@[simp,simp ↓] theorem aya{a b:cH}:WC O (.seq a b) e σ Q=WC O a e σ (Mp O b Q .mk .mk):=by
 simp only[WC,aZ,ah,eq_iff_iff];constructor
 ·rintro⟨x,e',σ',⟨⟨x1,e1,σ1⟩,h1,h2⟩,h⟩;refine⟨x1,e1,σ1,h1,?_⟩;cases x1 with
  |normal=>exact⟨x,e',σ',h2,h⟩
  |exit i=>cases h2;exact h
  |ret=>cases h2;exact h
  |fY d=>cases h2;exact h
 ·rintro⟨x1,e1,σ1,h1,h⟩;cases x1 with
  |normal=>obtain⟨x,e',σ',h2,h3⟩:=h;exact⟨x,e',σ',⟨_,h1,h2⟩,h3⟩
  |exit i=>exact⟨_,_,_,⟨_,h1,rfl⟩,h⟩
  |ret=>exact⟨_,_,_,⟨_,h1,rfl⟩,h⟩
  |fY d=>exact⟨_,_,_,⟨_,h1,rfl⟩,h⟩
@[simp,simp ↓] theorem ax6{c:bK}{a b:cH}:WC O (.ite c a b) e σ Q=WD (KW (bj e c)) fun t=>if t=true then WC O a e σ Q else WC O b e σ Q:=by
 simp only[WC,aZ];cases bj e c<;>simp[KW];rename_i t;cases t<;>simp
def Np(id:Nat)(Q:Exit→Env→SK→Prop)(_m:Mark Q:=.mk):Exit→Env→SK→Prop
 |.normal,e,σ=>Q .normal e σ
 |.exit i,e,σ=>if i=id then Q .normal e σ else Q (.exit i) e σ
 |.ret,e,σ=>Q .ret e σ
 |.fY d,e,σ=>Q (.fY d) e σ
@[simp,simp ↓] theorem av2{id:Nat}{d:D}:Np id Q .mk (.fY d) e σ=Q (.fY d) e σ:=aD rfl
@[simp,simp ↓] theorem amI{id:Nat}:Np id Q .mk .normal e σ=Q .normal e σ:=aD rfl
@[simp,simp ↓] theorem atj{id i:Nat}:Np id Q .mk (.exit i) e σ=if i=id then Q .normal e σ else Q (.exit i) e σ:=aD rfl
@[simp,simp ↓] theorem av1{id:Nat}:Np id Q .mk .ret e σ=Q .ret e σ:=aD rfl
@[simp,simp ↓] theorem ax4{id:Nat}{a:cH}:WC O (.bO id a) e σ Q=WC O a e σ (Np id Q .mk):=by
 simp only[WC,aZ,ad,eq_iff_iff];constructor
 ·rintro⟨x,e',σ',⟨⟨x1,e1,σ1⟩,h1,h2⟩,h⟩;refine⟨x1,e1,σ1,h1,?_⟩;cases x1 with
  |normal=>cases h2;exact h
  |exit i =>
   simp only[Np];dsimp only at h2;split at h2<;>cases h2
   ·rw[if_pos (by assumption)];exact h
   ·rw[if_neg (by assumption)];exact h
  |ret=>cases h2;exact h
  |fY d=>cases h2;exact h
 ·rintro⟨x1,e1,σ1,h1,h⟩;cases x1 with
  |normal=>exact⟨_,_,_,⟨_,h1,rfl⟩,h⟩
  |exit i =>
   simp only[Np]at h;split at h
   ·exact⟨_,_,_,⟨_,h1,by dsimp only;rw[if_pos (by assumption)]⟩,h⟩
   ·exact⟨_,_,_,⟨_,h1,by dsimp only;rw[if_neg (by assumption)]⟩,h⟩
  |ret=>exact⟨_,_,_,⟨_,h1,rfl⟩,h⟩
  |fY d=>exact⟨_,_,_,⟨_,h1,rfl⟩,h⟩
theorem Q7(d:D):d.calm.calm=d.calm:=by cases d<;>rfl
theorem Ii{live:List Nat}{e:Env}{t:Nat}:get (restrict live e) t=if t∈live then(get e t).calm else .undef:=by
 induction live with
 |nil=>simp[restrict,get]
 |cons a l ih =>
  simp only[restrict,aO,get,ba];by_cases h:a=t
  ·subst h;simp
  ·have h':¬t=a:=fun x=>h x.symm
   simp only[if_neg h,h',false_or];exact ih
theorem yt{live:List Nat}{e:Env}:restrict live (restrict live e)=restrict live e:=by
 simp only[restrict,List.map_inj_left,ak,true_and];intro t ht;have:=Ii (live:=live) (e:=e) (t:=t);simp only[restrict]at this;rw[this,if_pos ht,Q7]
theorem wy{live:List Nat}{bw:Bool}{c:cH}:dr T O (.loop live bw c (restrict live e) σ)=dr T O (.loop live bw c e σ):=by
 simp only[dr,yt]
theorem ym{live:List Nat}{bw:Bool}{c:cH}{r:R}(h:lim T (.loop live bw c (restrict live e) σ)=some r):lim T (.loop live bw c e σ)=some r:=by
 obtain⟨n,h⟩:=dC.1 h;cases n with
 |zero=>cases h
 |succ n =>
  rw[it,wy]at h;exact dC.2 ⟨n+1,h⟩
theorem Dn{live:List Nat}{bw:Bool}{c:cH}{r:R}(h:lim T (.loop live bw c e σ)=some r):lim T (.loop live bw c (restrict live e) σ)=some r:=by
 obtain⟨n,h⟩:=dC.1 h;cases n with
 |zero=>cases h
 |succ n =>
  rw[it,← wy]at h;exact dC.2 ⟨n+1,h⟩
theorem M1{r:Option R}{x:Exit}{e:Env}{σ:SK}(h:R.Ra r=some (x,e,σ)):r=some (.CI x e σ):=by
 unfold R.Ra at h;split at h
 ·cases h;rfl
 ·cases h
@[simp,simp ↓] theorem axe{live:List Nat}{bw:Bool}{c:cH}:WC (lim T) (.loop live bw c) e σ Q=WL T live bw c (restrict live e) σ Q:=by
 simp only[WC,aZ,WL,eq_iff_iff];constructor
 ·rintro⟨x,e',σ',h1,h⟩;cases hl:lim T (.loop live bw c e σ)with
  |none=>rw[hl]at h1;cases h1
  |some r =>
   rw[hl]at h1;cases r<;>cases h1;exact⟨_,_,_,Dn hl,h⟩
 ·rintro⟨x,e',σ',h1,h⟩;exact⟨x,e',σ',by rw[ym h1];rfl,h⟩
def LV(T:yN)(live:List Nat)(c:cH)(Q:Exit→Env→SK→Prop)(_m:Mark c:=.mk)(_m':Mark Q:=.mk):Exit→Env→SK→Prop
 |.normal,e,σ=>WL T live false c (restrict live e) σ Q
 |.exit i,e,σ=>Q (.exit i) e σ
 |.ret,e,σ=>Q .ret e σ
 |.fY d,e,σ=>Q (.fY d) e σ
@[simp,simp ↓] theorem ath{live:List Nat}{c:cH}{d:D}:LV T live c Q .mk .mk (.fY d) e σ=Q (.fY d) e σ:=aD rfl
@[simp,simp ↓] theorem agH{live:List Nat}{c:cH}:LV T live c Q .mk .mk .normal e σ=WL T live false c (restrict live e) σ Q:=aD rfl
@[simp,simp ↓] theorem arJ{live:List Nat}{c:cH}{i:Nat}:LV T live c Q .mk .mk (.exit i) e σ=Q (.exit i) e σ:=aD rfl
@[simp,simp ↓] theorem atg{live:List Nat}{c:cH}:LV T live c Q .mk .mk .ret e σ=Q .ret e σ:=aD rfl
theorem aN{live:List Nat}{c c':cH}(hc:c=c')(h:WC (lim T) c' (restrict live e) σ (LV T live c Q .mk .mk)):WL T live false c e σ Q:=by
 rw[← hc]at h;obtain⟨x,e1,σ1,h1,h2⟩:=h;cases x with
 |normal =>
  obtain⟨x,e',σ',h3,h4⟩:=h2;exact⟨x,e',σ',hJ (by simp[dr,h1,ym h3]),h4⟩
 |exit i=>exact⟨_,_,_,hJ (by simp[dr,h1]),h2⟩
 |ret=>exact⟨_,_,_,hJ (by simp[dr,h1]),h2⟩
 |fY d=>exact⟨_,_,_,hJ (by simp[dr,h1]),h2⟩
def Rk(σ:SK)(res:List Dz)(d:D)(x:Exit)(e:Env)(σ1:SK):Prop :=
 (∀i,x ≠ .exit i)∧(∀d,x ≠ .fY d)∧∃ds,zA e σ1 res=some ds∧∃s,cr (σ.length-1) deep (uk ds) σ1=(d,s::σ)
@[simp,simp ↓] theorem ahx{σ1:SK}{res:List Dz}{d:D}:Rk σ res d .normal e σ1=∃ds,zA e σ1 res=some ds∧∃s,cr (σ.length-1) deep (uk ds) σ1=(d,s::σ):=by simp[Rk]
@[simp,simp ↓] theorem auj{σ1:SK}{res:List Dz}{d:D}:Rk σ res d .ret e σ1=∃ds,zA e σ1 res=some ds∧∃s,cr (σ.length-1) deep (uk ds) σ1=(d,s::σ):=by simp[Rk]
theorem aA{f:Nat}{fn:Fn}{args:List D}{σ:SK}{d:D}{np:Nat}{res:List Dz}{body:cH}(hT:T f=some fn)(hf:fn=⟨np,res,body⟩)(hl:args.length=np)
  (h:WC (lim T) body (nD 0 args) ([]::σ) (Rk σ res d)):
  lim T (.call false f args σ)=some (.val d σ):=by
 subst hf;obtain⟨x,e1,σ1,h1,h2,h2',ds,h3,s,h4⟩:=h;refine hJ ?_;simp only[dr,hT,if_pos hl,aw,if_false,h1];cases x with
 |exit i=>exact absurd rfl (h2 i)
 |fY d=>exact absurd rfl (h2' d)
 |normal=>simp[h3,h4]
 |ret=>simp[h3,h4]
def anX(σ:SK)(d:D)(x:Exit)(e:Env)(σ1:SK):Prop:=x=.fY d∧d.clean=true∧∃s,σ1=s::σ
@[simp,simp ↓] theorem aul{σ1:SK}{d d':D}:anX σ d (.fY d') e σ1=(d'=d∧d.clean=true∧∃s,σ1=s::σ):=by simp[anX]
theorem eh{f:Nat}{fn:Fn}{args:List D}{σ:SK}{d:D}{np:Nat}{res:List Dz}{body:cH}(hT:T f=some fn)(hf:fn=⟨np,res,body⟩)(hl:args.length=np)
  (h:WC (lim T) body (nD 0 args) ([]::σ) (anX σ d)):
  lim T (.call false f args σ)=some (.fY d σ):=by
 subst hf;obtain⟨x,e1,σ1,h1,rfl,hc,s,rfl⟩:=h;refine hJ ?_;simp only[dr,hT,if_pos hl,aw,if_false,h1];simp[NN,hc]
def WR(r:Option R)(Qn Qt:D→SK→Prop)(_m:Mark Qn:=.mk)(_m':Mark Qt:=.mk):Prop:=(∃d σ',r=some (.val d σ')∧Qn d σ')∨∃d σ',r=some (.fY d σ')∧Qt d σ'
@[simp,simp ↓] theorem anG{d:D}{σ':SK}{Qn Qt:D→SK→Prop}:WR (some (.val d σ')) Qn Qt=Qn d σ':=by
 simp only[WR,ae,R.val.injEq,reduceCtorEq,false_and,exists_false,or_false,eq_iff_iff];exact⟨fun⟨_,_,⟨h1,h2⟩,h⟩=>by subst h1 h2;exact h,fun h=>⟨_,_,⟨rfl,rfl⟩,h⟩⟩
@[simp,simp ↓] theorem anF{d:D}{σ':SK}{Qn Qt:D→SK→Prop}:WR (some (.fY d σ')) Qn Qt=Qt d σ':=by
 simp only[WR,ae,R.fY.injEq,reduceCtorEq,false_and,exists_false,false_or,eq_iff_iff];exact⟨fun⟨_,_,⟨h1,h2⟩,h⟩=>by subst h1 h2;exact h,fun h=>⟨_,_,⟨rfl,rfl⟩,h⟩⟩
def arR:D→Option D
 |.uj t d=>if d.clean then some (.uj t d)else none
 |_=>none
@[simp] theorem LX{t:Nat}{d:D}:arR (.uj t d)=if d.clean then some (.uj t d)else none:=aD rfl
@[simp] theorem aue{O:bN}{f:Nat}{first cap args:List D}{σ:SK}:Az O (.fn f first cap) args σ=O (.call false f (first++args++cap) σ):=aD rfl
@[simp,simp ↓] theorem af2{live:List Nat}{pre post:List Op}{dst:Option Nat}{n:Bool}{f:bK}{args:List bK}:WC O (.iO live pre ⟨dst,none,n,.call false f args⟩ post) e σ Q =
  WO O pre e σ fun e1 σ1=>WR (Az O (bj e1 f) (args.map (bj e1)) σ1) (fun d σ2=>WO O post (put dst d e1) σ2 fun e' σ'=>Q .normal (restrict live e') σ') (fun d σ2=>Q (.fY d) e1 σ2):=by
 simp only[WC,WO,aZ,F2,ah,eq_iff_iff];constructor
 ·rintro⟨x,e',σ',⟨⟨e1,σ1⟩,h1,h2⟩,h⟩;refine⟨e1,σ1,h1,?_⟩;dsimp only at h2;cases hc:Az O (bj e1 f) (args.map (bj e1)) σ1 with
  |none=>rw[hc]at h2;simp[uJ]at h2
  |some r =>
   rw[hc]at h2;cases r with
   |CI=>simp[uJ]at h2
   |fY d σ2=>simp only[uJ,ae,ak]at h2;obtain⟨rfl,rfl,rfl⟩:=h2;rw[anF];exact h
   |val d σ2 =>
    simp only[uJ,ad]at h2;obtain⟨⟨e3,σ3⟩,h3,h4⟩:=h2;cases h4;rw[anG];exact⟨e3,σ3,h3,h⟩
 ·rintro⟨e1,σ1,h1,h⟩;rcases h with⟨d,σ2,h2,e3,σ3,h3,h4⟩ | ⟨d,σ2,h2,h4⟩
  ·exact⟨.normal,_,σ3,⟨(e1,σ1),h1,by simp only[h2,uJ,h3,aT]⟩,h4⟩
  ·exact⟨.fY d,e1,σ2,⟨(e1,σ1),h1,by simp only[h2,uJ]⟩,h4⟩
@[simp,simp ↓] theorem ahu{live:List Nat}{pre post:List Op}{dst:Option Nat}{n:Bool}{x:bK}:WC O (.iO live pre ⟨dst,none,n,.Mw x⟩ post) e σ Q =
  WO O pre e σ fun e1 σ1=>WD (arR (bj e1 x)) fun d=>Q (.fY d) e1 σ1:=by
 simp only[WC,WO,aZ,F2,ah,eq_iff_iff];constructor
 ·rintro⟨x',e',σ',⟨⟨e1,σ1⟩,h1,h2⟩,h⟩;refine⟨e1,σ1,h1,?_⟩;dsimp only at h2;cases hx:bj e1 x<;>rw[hx]at h2<;>try (cases h2;done)
  dsimp only at h2;split at h2
  ·rename_i hc;cases h2;simp only[LX,hc,if_true,DM];exact h
  ·cases h2
 ·rintro⟨e1,σ1,h1,d,h2,h⟩;refine⟨.fY d,e1,σ1,⟨(e1,σ1),h1,?_⟩,h⟩;dsimp only;cases hx:bj e1 x<;>rw[hx]at h2<;>try (cases h2;done)
  simp only[LX]at h2;split at h2
  ·rename_i hc;cases h2;simp[hc]
  ·cases h2
def WM(T:yN)(live:List Nat)(it:bK)(nx ok b:Nat)(c rest:cH)(e:Env)(σ:SK)(Q:Exit→Env→SK→Prop)(_m:Mark c:=.mk)(_m':Mark rest:=.mk)(_m'':Mark Q:=.mk):Prop:=∃x e' σ',lim T (.ja live it nx ok b c rest e σ)=some (.CI x e' σ')∧Q x e' σ'
theorem WM.mono{live:List Nat}{it:bK}{nx ok b:Nat}{c rest:cH}{Q':Exit→Env→SK→Prop}(h:WM T live it nx ok b c rest e σ Q)(hq:∀x e σ,Q x e σ→Q' x e σ):WM T live it nx ok b c rest e σ Q' :=
 let ⟨x,e',σ',h1,h2⟩:=h;⟨x,e',σ',h1,hq _ _ _ h2⟩
theorem vS{live:List Nat}{it:bK}{nx ok b:Nat}{c rest:cH}:dr T O (.ja live it nx ok b c rest (restrict live e) σ)=dr T O (.ja live it nx ok b c rest e σ):=by
 simp only[dr,yt]
theorem tf{live:List Nat}{it:bK}{nx ok b:Nat}{c rest:cH}{r:R}:lim T (.ja live it nx ok b c rest (restrict live e) σ)=some r↔lim T (.ja live it nx ok b c rest e σ)=some r:=by
 constructor<;>intro h<;>obtain⟨n,h⟩:=dC.1 h<;>cases n<;>first | (cases h;done) | skip
 ·rw[Abs.it,vS]at h;exact dC.2 ⟨_+1,h⟩
 ·rw[Abs.it,← vS]at h;exact dC.2 ⟨_+1,h⟩
@[simp,simp ↓] theorem atS{live:List Nat}{it:bK}{nx ok b:Nat}{c rest:cH}:WC (lim T) (.ja live it nx ok b c rest) e σ Q=WM T live it nx ok b c rest (restrict live e) σ Q:=by
 simp only[WC,aZ,WM,eq_iff_iff];constructor
 ·rintro⟨x,e',σ',h1,h⟩;exact⟨_,_,_,tf.2 (M1 h1),h⟩
 ·rintro⟨x,e',σ',h1,h⟩;exact⟨x,e',σ',by rw[tf.1 h1];rfl,h⟩
def I2(T:yN)(live:List Nat)(it:bK)(l i nx ok b:Nat)(c rest:cH)(r:R)(_m:Mark c:=.mk)(_m':Mark rest:=.mk):Exit→Env→SK→Prop
 |.normal,e,σ=>lim T (.ja live it nx ok b c rest (restrict live e) σ)=some r
 |.exit j,e,σ=>if j=b then WC (lim T) rest e (aV σ l i .dead) fun x e' σ'=>r=.CI x e' σ' else r=.CI (.exit j) e (aV σ l i .dead)
 |.ret,e,σ=>r=.CI .ret e (aV σ l i .dead)
 |.fY _,_,_=>False
@[simp,simp ↓] theorem agI{live:List Nat}{it:bK}{l i nx ok b:Nat}{c rest:cH}{r:R}:I2 T live it l i nx ok b c rest r .mk .mk .normal e σ=(lim T (.ja live it nx ok b c rest (restrict live e) σ)=some r):=aD rfl
@[simp,simp ↓] theorem Nk{live:List Nat}{it:bK}{l i nx ok b j:Nat}{c rest:cH}{r:R}:I2 T live it l i nx ok b c rest r .mk .mk (.exit j) e σ=if j=b then WC (lim T) rest e (aV σ l i .dead) fun x e' σ'=>r=.CI x e' σ' else r=.CI (.exit j) e (aV σ l i .dead):=aD rfl
@[simp,simp ↓] theorem RO{live:List Nat}{it:bK}{l i nx ok b:Nat}{c rest:cH}{r:R}:I2 T live it l i nx ok b c rest r .mk .mk .ret e σ=(r=.CI .ret e (aV σ l i .dead)):=aD rfl
theorem JT{l i b:Nat}{rest:cH}{r:R}{x:Exit}{e1:Env}{σ1:SK}{live:List Nat}{it:bK}{nx ok:Nat}{c:cH}(hx:x ≠ .normal)(h:I2 T live it l i nx ok b c rest r .mk .mk x e1 σ1):xq (lim T) l i b rest (some (x,e1,σ1))=some r:=by
 cases x with
 |normal=>exact absurd rfl hx
 |fY d=>exact h.elim
 |ret=>simp only[RO]at h;subst h;rfl
 |exit j =>
  simp only[Nk]at h;simp only[xq];split at h
  ·rename_i hj;obtain⟨x',e',σ',h1,rfl⟩:=h;rw[if_pos hj,h1];rfl
  ·rename_i hj;subst h;rw[if_neg hj]
theorem aes{live:List Nat}{it:bK}{l i nx ok b:Nat}{c c' rest rest':cH}{r:R}{m:D}{n:Nat}{js:List D}{us:List Nat}(hcc:c=c')(hrr:rest=rest')(hit:bj (restrict live e) it=.mH l i)(hd:FI σ l i=some (m,n,js,us))(hne:us≠[])
  (h:∀u∈us,WC (lim T) c' ((ok,.bool true)::(nx,.undef)::restrict live e) (aV σ l i (.cells 1 (m::.int .i64 (n:Nat)::.int .i64 (u:Nat)::js))) (I2 T live it l i nx ok b c rest' r .mk .mk)):
  lim T (.ja live it nx ok b c rest e σ)=some r:=by
 subst hcc hrr;refine hJ ?_;simp only[dr,hit,hd];have key:∀u∈us,AE (lim T) live it l i nx ok b c rest (aZ (lim T) c ((ok,.bool true)::(nx,.undef)::restrict live e) (aV σ l i (.cells 1 (m::.int .i64 (n:Nat)::.int .i64 (u:Nat)::js))))=some r:=by
  intro u hu;obtain⟨x,e1,σ1,h1,h2⟩:=h u hu;rw[h1];cases x with
  |normal=>exact tf.1 h2
  |exit j=>exact JT (x:=.exit j) (by simp) h2
  |ret=>exact JT (x:=.ret) (by simp) h2
  |fY d=>exact h2.elim
 cases us with
 |nil=>exact absurd rfl hne
 |cons u us=>exact Iz (by simp) key
theorem RL{live:List Nat}{it:bK}{l i nx ok b:Nat}{c c' rest rest':cH}{r:R}{m:D}{n:Nat}{js:List D}(hcc:c=c')(hrr:rest=rest')(hit:bj (restrict live e) it=.mH l i)(hd:FI σ l i=some (m,n,js,[]))
  (h:WC (lim T) c' ((ok,.bool false)::(nx,.undef)::restrict live e) σ fun x e1 σ1=>x ≠ .normal∧I2 T live it l i nx ok b c rest' r .mk .mk x e1 σ1):
  lim T (.ja live it nx ok b c rest e σ)=some r:=by
 subst hcc hrr;refine hJ ?_;simp only[dr,hit,hd];obtain⟨x,e1,σ1,h1,hx,h2⟩:=h;rw[h1];exact JT hx h2
def asO:Exit→Option (Option D)
 |.normal=>some none
 |.ret=>some none
 |.fY d=>some (some d)
 |.exit _=>none
@[simp] theorem awQ:asO .ret=some none:=aD rfl
@[simp] theorem awR{d:D}:asO (.fY d)=some (some d):=aD rfl
noncomputable def vV(T:yN)(fv:D)(args:List D)(th:Option D)(σ:SK):Option SK :=
 match rm (lim T) fv args th σ with
 |some (.val _ σ')=>some σ'
 |_=>none
theorem uV{f:Nat}{first cap args:List D}{th:Option D}{σ σ':SK}{d:D}(h:lim T (.xU f (first++args++cap) th σ)=some (.val d σ')):vV T (.fn f first cap) args th σ=some σ':=by
 simp only[vV,rm,h]
def AS(T:yN)(fv:D)(args:List D)(σ:SK)(res:List Dz)(d:D)(x:Exit)(e:Env)(σ1:SK):Prop :=
 WD (asO x) fun th=>WD (vV T fv args th σ1) fun σ2=>∃ds,zA e σ2 res=some ds∧∃s,cr (σ.length-1) deep (uk ds) σ2=(d,s::σ)
def Kn(T:yN)(f:bK)(args:List bK)(q:cH)(σ:SK)(res:List Dz)(d:D)(x:Exit)(e:Env)(σ1:SK)(_m:Mark q:=.mk):Prop :=
 x=.normal∧WC (lim T) q e σ1 (AS T (bj e f) (args.map (bj e)) σ res d)
theorem KZ{f:Nat}{fn:Fn}{args:List D}{σ:SK}{d:D}{np:Nat}{res:List Dz}{body A q:cH}{fo:bK}{as:List bK}(hT:T f=some fn)(hf:fn=⟨np,res,body⟩)(hl:args.length=np)(hs:jL body=some (A,fo,as,q))
  (h:WC (lim T) A (nD 0 args) ([]::σ) (Kn T fo as q σ res d)):
  lim T (.call false f args σ)=some (.val d σ):=by
 subst hf;obtain⟨x,e1,σ1,h1,rfl,x2,e2,σ2,h2,th,h3,σ3,h4,ds,h5,s,h6⟩:=h;refine hJ ?_;have hn:aZ (lim T) body (nD 0 args) ([]::σ)=none:=yw hs h1;simp only[dr,hT,if_pos hl,aw,if_false,hn,hs,zi,h1,h2];have h4':∃dv,rm (lim T) (bj e1 fo) (as.map (bj e1)) th σ2=some (.val dv σ3):=by
  unfold vV at h4;split at h4
  ·rename_i h7;cases h4;exact⟨_,h7⟩
  ·cases h4
 obtain⟨dv,h4'⟩:=h4';cases x2 with
 |exit i=>cases h3
 |normal=>cases h3;simp only[zk,h4',uX,leave,h5,h6]
 |ret=>cases h3;simp only[zk,h4',uX,leave,h5,h6]
 |fY d=>cases h3;simp only[zk,h4',uX,leave,h5,h6]
def anY(σ':SK)(res:List Dz)(x:Exit)(e:Env)(σ1:SK):Prop :=
 (∀i,x ≠ .exit i)∧(∀d,x ≠ .fY d)∧zA e σ1 res=some []∧∃s,σ1=s::σ'
@[simp,simp ↓] theorem ahz{σ' σ1:SK}{res:List Dz}:anY σ' res .normal e σ1=(zA e σ1 res=some []∧∃s,σ1=s::σ'):=by simp[anY]
theorem Bj{f:Nat}{fn:Fn}{args:List D}{th:Option D}{σ σ':SK}{np:Nat}{res:List Dz}{body q:cH}{e0:Env}(hT:T f=some fn)(hf:fn=⟨np,res,body⟩)(hl:args.length=np)(hr:sf th args body=some (e0,q))
  (h:WC (lim T) q e0 ([]::σ) (anY σ' res)):lim T (.xU f args th σ)=some (.val (.dK []) σ'):=by
 subst hf;obtain⟨x,e1,σ1,h1,h2,h2',h3,s,rfl⟩:=h;refine hJ ?_;simp only[dr,hT,if_pos hl,hr,h1];cases x with
 |exit i=>exact absurd rfl (h2 i)
 |fY d=>exact absurd rfl (h2' d)
 |normal=>simp[h3]
 |ret=>simp[h3]
end code
@[simp] theorem avL{k t:Nat}{v:D}{r:Env}:get ((k,v)::r) t=if k=t then v else get r t:=aD rfl
@[simp] theorem av4{t:Nat}{v:D}{e:Env}:put (some t) v e=(t,v)::e:=aD rfl
@[simp] theorem av3{v:D}{e:Env}:put none v e=e:=aD rfl
@[simp] theorem av0{e:Env}{n:Nat}:bj e (.t n)=(get e n).strip:=aD rfl
@[simp] theorem azZ{e:Env}{d:D}:bj e (.c d)=d:=aD rfl
@[simp] theorem agS{e:Env}:restrict [] e=[]:=aD rfl
@[simp] theorem afl{t:Nat}{l:List Nat}{e:Env}:restrict (t::l) e=(t,(get e t).calm)::restrict l e:=aD rfl
@[simp] theorem atc{n:Nat}:nD n []=[]:=aD rfl
@[simp] theorem arE{n:Nat}{d:D}{ds:List D}:nD n (d::ds)=(n,d)::nD (n+1) ds:=aD rfl
section
variable {e:Env} {σ:SK}
@[simp] theorem awa:zA e σ []=some []:=aD rfl
@[simp] theorem atw{r:Dz}{rs:List Dz}:zA e σ (r::rs)=(HB e σ r).bind fun d=>(zA e σ rs).map fun ds=>d::ds:=aD rfl
@[simp] theorem ayV{n:Nat}:HB e σ (.t n)=some (get e n).strip:=aD rfl
@[simp] theorem ayU{n sz:Nat}{ag:Bool}:HB e σ (.c n ag sz)=Mu ag sz (E7 σ (get e n).strip):=by
 simp only[HB,bL,av0];cases E7 σ (get e n).strip with
 |none=>rfl
 |some cs =>
  simp only[Mu];split
  ·cases ag
   ·cases cs<;>rfl
   ·rfl
  ·rfl
@[simp] theorem ayW{n sz:Nat}{ag:Bool}:HB e σ (.v n ag sz)=aef e n ag sz n:=by
 simp only[HB,bL,aef];cases rY e n n with
 |none=>rfl
 |some x =>
  obtain⟨s,cs,off⟩:=x;simp only[Mu,aT];split
  ·cases ag
   ·cases cs.drop off<;>rfl
   ·rfl
  ·rfl
@[simp] theorem ate{d:D}:uk [d]=d:=aD rfl
@[simp] theorem atd:uk []=.dK []:=aD rfl
@[simp] theorem atf{d d':D}{ds:List D}:uk (d::d'::ds)=.dK (d::d'::ds):=aD rfl
@[simp] theorem as0{cs:List D}:rX e [] cs=some cs:=aD rfl
@[simp] theorem aru{off sz:Nat}{x:bK}{r:List (Nat×Nat×bK)}{cs:List D}:rX e ((off,sz,x)::r) cs =
  ((bj e x).cells.bind fun p=>if p.length=sz∧off+sz≤cs.length then some (cs.take off++p++cs.drop (off+sz))else none).bind (rX e r):=by
 simp only[rX];cases(bj e x).cells with
 |none=>rfl
 |some p=>dsimp only [Option.bind_some];split<;>rfl
@[simp] theorem asW{w n:Nat}{cs:List D}:elems σ w (.aI n cs)=if cs.length=n*w then some (n,cs)else none:=aD rfl
end
attribute [simp] bL Jz lf ie rY uA asM aef BV bounds D.row cells? eo fX aV iN
@[simp] theorem amM{b:Bool}:D.clean (.bool b)=true:=by rw[D.clean]
@[simp] theorem ar6{k:IntKind}{n:Int}:D.clean (.int k n)=true:=by rw[D.clean]
@[simp] theorem ar9{s:List UInt8}:D.clean (.str s)=true:=by rw[D.clean]
@[simp] theorem amP:D.clean .aG=true:=by rw[D.clean]
@[simp] theorem ar5{t:Nat}{d:D}:D.clean (.uj t d)=D.clean d:=by rw[D.clean]
@[simp] theorem amO:D.clean .iX=true:=by rw[D.clean]
@[simp] theorem atv{l i v o n w:Nat}:D.clean (.sl l i v o n w)=false:=by rw[D.clean]
@[simp] theorem ar8{s:Nat}{cs:List D}:D.clean (.own s cs)=D.bg cs:=by rw[D.clean]
@[simp] theorem ar4{cs:List D}:D.clean (.agg cs)=D.bg cs:=by rw[D.clean]
@[simp] theorem asa{cs:List D}:D.clean (.dK cs)=D.bg cs:=by rw[D.clean]
@[simp] theorem amN{cs:List D}:D.clean (.bD cs)=D.bg cs:=by rw[D.clean]
@[simp] theorem ar7{n:Nat}{cs:List D}:D.clean (.aI n cs)=D.bg cs:=by rw[D.clean]
@[simp] theorem atu{f:Nat}{a b:List D}:D.clean (.fn f a b)=(D.bg a && D.bg b):=by rw[D.clean]
@[simp] theorem anP:D.bg []=true:=by rw[D.bg]
@[simp] theorem ahw{d:D}{ds:List D}:D.bg (d::ds)=(D.clean d && D.bg ds):=by rw[D.bg]
@[simp] theorem Tv:deep=16:=aD rfl
@[simp] theorem jx{l n:Nat}{d:D}{σ:SK}(h:d.clean=true)(hn:0<n):cr l n d σ=(d,σ):=by
 obtain⟨m,rfl⟩:∃m,n=m+1:=⟨n-1,by omega⟩;unfold cr;simp[h]
@[simp] theorem arv{l n:Nat}{ds:List D}{σ:SK}(h:D.bg ds=true)(hn:0<n):cr.frzL (cr l n) ds σ=(ds,σ):=by
 induction ds generalizing σ with
 |nil=>rfl
 |cons d ds ih =>
  simp only[D.bg,af]at h;simp[cr.frzL,h.1,ih h.2,hn]
@[simp] theorem zq{f:D→SK→D×SK}{σ:SK}:cr.frzL f [] σ=([],σ):=aD rfl
@[simp] theorem wQ{f:D→SK→D×SK}{d:D}{ds:List D}{σ:SK}:cr.frzL f (d::ds) σ=((f d σ).1::(cr.frzL f ds (f d σ).2).1,(cr.frzL f ds (f d σ).2).2):=aD rfl
theorem B4{l n:Nat}{ds:List D}{σ:SK}(h:D.bg ds=false)(hn:0<n):cr l n (.dK ds) σ=(.dK (cr.frzL (cr l (n-1)) ds σ).1,(cr.frzL (cr l (n-1)) ds σ).2):=by
 obtain⟨m,rfl⟩:∃m,n=m+1:=⟨n-1,by omega⟩
 conv=>lhs;unfold cr
 simp[D.clean,h]
theorem PW{l n:Nat}{ds:List D}{σ:SK}(h:D.bg ds=false)(hn:0<n):cr l n (.agg ds) σ=(.agg (cr.frzL (cr l (n-1)) ds σ).1,(cr.frzL (cr l (n-1)) ds σ).2):=by
 obtain⟨m,rfl⟩:∃m,n=m+1:=⟨n-1,by omega⟩
 conv=>lhs;unfold cr
 simp[D.clean,h]
theorem Dh{l n l' i v off m w:Nat}{σ:SK}{cs:List D}(h:¬l'≤l)(hc:cells? σ l' i v=some cs)(hn:0<n):
  cr l n (.sl l' i v off m w) σ=(.aI m (cr.frzL (cr l (n-1)) ((cs.drop off).take (m*w)) (aV σ l' i .dead)).1,(cr.frzL (cr l (n-1)) ((cs.drop off).take (m*w)) (aV σ l' i .dead)).2):=by
 obtain⟨m,rfl⟩:∃m,n=m+1:=⟨n-1,by omega⟩
 conv=>lhs;unfold cr
 simp only[D.clean,h,hc,aw,if_false,Nat.add_sub_cancel]
@[simp] theorem arx{l n l' i v off m w:Nat}{σ:SK}(h:l'≤l)(hn:0<n):cr l n (.sl l' i v off m w) σ=(.sl l' i v off m w,σ):=by
 obtain⟨m,rfl⟩:∃m,n=m+1:=⟨n-1,by omega⟩
 conv=>lhs;unfold cr
 simp only[D.clean,h,if_true,aw,if_false]
@[simp] theorem amz{l n l' i v off:Nat}{σ:SK}(h:l'≤l)(hn:0<n):cr l n (.ref l' i v off) σ=(.ref l' i v off,σ):=by
 obtain⟨m,rfl⟩:∃m,n=m+1:=⟨n-1,by omega⟩
 conv=>lhs;unfold cr
 simp only[D.clean,h,if_true,aw,if_false]
@[simp] theorem ayM{n:Nat}:(n+1+1=n)=False:=by simp;omega
@[simp] theorem ayN{n:Nat}:(n+1+1+1=n)=False:=by simp;omega
@[simp] theorem ayO{n:Nat}:(n+1+1+1+1=n)=False:=by simp;omega
@[simp] theorem ayP{n:Nat}:(n+1+1+1+1+1=n)=False:=by simp;omega
theorem CG{a b:List D}:D.bg (a++b)=(D.bg a && D.bg b):=by
 induction a with
 |nil=>rfl
 |cons d a ih=>simp[D.bg,ih,Bool.and_assoc]
end Go.Abs
