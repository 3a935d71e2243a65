import Derived.Test.YtpapbbojmclkgaaGreatDoorBase12
import Derived.Lib.LaidTab
import Derived.LaidLaws
import Derived.Shelf.Vars
set_option linter.all false
namespace Go.Abs
open Go
theorem Ur{P:Program}{w:World}:∀{l:List (String×DataW Unit)} {ps:List MemPlace},DataW.LaidVars P w l ps->∀x∈l,
  ∃g t cs fuel p,P.globalNamed x.1=some g/\(P.globals[g]?).map (·.type)=some t/\w.var? P x.1=some cs/\DataW.trod (λ_=>()) P w 0 (λ_=>true) false fuel t cs.toList=some (x.2,p) /\
   ∀m∈MemPlace.row ⟨g,0,none⟩ cs.size,m∈ps
 |[],_,_,x,hx=>by cases hx
 |(n,d)::r,ps,h,x,hx=>by
  obtain⟨g,t,cs,fuel,p,q,h1,h2,h3,h4,h5,rfl⟩:=h;rcases bx.1 hx with rfl | hx
  .exact⟨g,t,cs,fuel,p,h1,h2,h3,h4,λm hm=>by simp[hm]⟩
  .obtain⟨g',t',cs',f',p',k1,k2,k3,k4,k5⟩:=Ur h5 x hx;exact⟨g',t',cs',f',p',k1,k2,k3,k4,λm hm=>by simp[k5 m hm]⟩
theorem Nr{P:Program}{w:World}{l:List (String×DataW Unit)}(hl:laidMet P l w){n:String}{d:DataW Unit}(hx:(n,d)∈l){b t:Nat}(hb:P.globalNamed n=some b)(ht:(P.globals[b]?).map (·.type)=some t):
  ∃cs fuel p,DataW.trod (λ_=>()) P w 0 (λ_=>true) false fuel t cs.toList=some (d,p)/\(0<cs.size->∃t',w.heap[b]?=some (.cells cs t' (0,0))):=by
 obtain⟨ps,h1,_,h2⟩:=hl;obtain⟨g,t',cs,fuel,p,k1,k2,k3,k4,k5⟩:=Ur h1 _ hx;obtain rfl:=Option.some.inj (hb.symm.trans k1);obtain rfl:=Option.some.inj (ht.symm.trans k2);refine⟨cs,fuel,p,k4,λhpos=>?_⟩;obtain⟨⟨c,t',hc⟩,_⟩:=h2 b 0 (k5 _ (by simp only[MemPlace.row,bI,List.mem_range];exact⟨0,hpos,by simp⟩));simp only[World.var?,hb,Option.bind_some,hc,ae]at k3;subst k3;exact⟨t',hc⟩
theorem Un{P:Program}{w:World}{l:List (String×DataW Unit)}(hl:laidMet P l w){n nm:String}{d:DataW Unit}(hx:(n,.iface nm d)∈l){b t:Nat}{ms:Array (String×TypeId)}(hb:P.globalNamed n=some b)
  (ht:(P.globals[b]?).map (·.type)=some t) (hu:P.underlying t=some (.interface ms)):∃c t v,w.heap[b]?=some (.cells c t (0,0))/\c[0]?=some v/\v.oneCell'=true/\abo (.cells c t (0,0)):=by
 obtain⟨cs,fuel,p,h1,h2⟩:=Nr hl hx hb ht;obtain⟨f1,u,v,hcs,_⟩:=iface_of_trod hu h1;obtain rfl:cs = #[.iface u v]:=by rw[<- fU,hcs]
 obtain⟨t',hc⟩:=h2 (by simp);exact⟨_,t',.iface u v,hc,by simp,rfl,_,t',_,.iface u v,rfl,by simp,.inr ⟨u,v,rfl⟩⟩
theorem abP{P:Program}{w:World}{l:List (String×DataW Unit)}(hl:laidMet P l w){n:String}(hx:(n,Lib.tabData .u64 Lib.pow10Tab)∈l){b t e k:Nat}(hb:P.globalNamed n=some b)
  (ht:(P.globals[b]?).map (·.type)=some t) (hu:P.underlying t=some (.array k e)) (he:P.underlying e=some (.int .u64)) (hce:P.cellsOf e=1) (hct:P.cellsOf t=k):
  ∃c t v,w.heap[b]?=some (.cells c t (0,0))/\c[0]?=some v/\v.oneCell'=true/\aeU (.cells c t (0,0)):=by
 obtain⟨cs,fuel,p,h1,h2⟩:=Nr hl hx hb ht;have hcs:=Lib.cells_of_tab hu he hce hct h1;obtain rfl:cs=(Lib.pow10Tab.map (Value.int .u64)).toArray:=by rw[<- fU,hcs]
 obtain⟨t',hc⟩:=h2 (by decide);exact⟨_,t',.int .u64 1,hc,rfl,rfl,t',_,rfl⟩
theorem abO{P:Program}{w:World}(h:w.ShapedOpen P){g t:Nat}{zero:Array Value}(hg:g<P.globals.size)(h0:((begin P (λ_ _=>0) default).world.heap[g]?).bind Obj.row?=some (zero,t))(hz:zero.size=1)
  (hb:P.buildable t=true) (hc:P.cellTypes P.depth t=some [t]) (hu:P.underlying t=some (.int .i64)):∃c t v,w.heap[g]?=some (.cells c t (0,0))/\c[0]?=some v/\v.oneCell'=true/\aeT (.cells c t (0,0)):=by
 obtain⟨m,hm⟩:=Go.Proofs.cell_of_shapedOpen_int h hg h0 hz hb hc hu;obtain⟨cs,hh,_⟩:=h.1 g zero t hg h0;have h1:cs[0]?=some (.int .i64 m):=by simpa[World.cell?,hh]using hm
 exact⟨cs,t,_,hh,h1,rfl,cs,t,_,m,rfl,h1⟩
variable {T:DB} {O:ck}
theorem aJ.{u}{α:Sort u}{a b:α}(h:a=b):a=b:=h
inductive Mark.{u} {α:Sort u} (a:α):Type
 |mk
def WO(O:ck)(ops:List Op)(e:Env)(J:SK)(Q:Env->SK->Prop)(_m:Mark Q:=.mk):Prop:=∃e' J',lK O ops e J=some (e',J')/\Q e' J'
def WC(O:ck)(c:bV)(e:Env)(J:SK)(Q:Exit->Env->SK->Prop)(_m:Mark c:=.mk)(_m':Mark Q:=.mk):Prop:=∃x e' J',bq O c e J=some (x,e',J')/\Q x e' J'
def WV(o:Option (D×SK))(Q:D->SK->Prop)(_m:Mark Q:=.mk):Prop:=∃d J',o=some (d,J')/\Q d J'
def WL(T:DB)(live:List Nat)(bD:Bool)(c:bV)(e:Env)(J:SK)(Q:Exit->Env->SK->Prop)(_m:Mark c:=.mk)(_m':Mark Q:=.mk):Prop:=∃x e' J',dt T (.loop live bD c e J)=some (.FP x e' J')/\Q x e' J'
theorem WO.mono{ops:List Op}{e:Env}{J:SK}{Q Q':Env->SK->Prop}(h:WO O ops e J Q)(hq:∀e J,Q e J->Q' e J):WO O ops e J Q' :=
 let ⟨e',J',h1,h2⟩:=h;⟨e',J',h1,hq _ _ h2⟩
theorem WC.mono{c:bV}{e:Env}{J:SK}{Q Q':Exit->Env->SK->Prop}(h:WC O c e J Q)(hq:∀x e J,Q x e J->Q' x e J):WC O c e J Q' :=
 let ⟨x,e',J',h1,h2⟩:=h;⟨x,e',J',h1,hq _ _ _ h2⟩
theorem WL.mono{live:List Nat}{bD:Bool}{c:bV}{e:Env}{J:SK}{Q Q':Exit->Env->SK->Prop}(h:WL T live bD c e J Q)(hq:∀x e J,Q x e J->Q' x e J):WL T live bD c e J Q' :=
 let ⟨x,e',J',h1,h2⟩:=h;⟨x,e',J',h1,hq _ _ _ h2⟩
def WD{α:Type}(o:Option α)(Q:α->Prop)(_m:Mark Q:=.mk):Prop:=∃d,o=some d/\Q d
@[simp,simp ↓] theorem J9{α:Type}{d:α}{Q:α->Prop}:WD (some d) Q=Q d:=by
 simp only[WD,ae,eq_iff_iff];exact⟨λ⟨_,h,h'⟩=>by rw[h];exact h',λh=>⟨_,rfl,h⟩⟩
@[simp,simp ↓] theorem abt{α:Type}{Q:α->Prop}:WD none Q=False:=by simp[WD]
def Qf:D->Option Bool
 |.bool b=>some b
 |_=>none
@[simp] theorem ae5{b:Bool}:Qf (.bool b)=some b:=aJ rfl
@[simp] theorem aij{b:Bool}:(D.bool b).bit=some (some b):=aJ rfl
@[simp] theorem akl:(D.cQ []).bit=some none:=aJ rfl
def afg(k:IntKind):D->Option D
 |.int _ m=>some (.int k (k.wrap m))
 |_=>none
@[simp] theorem air{k k':IntKind}{m:Int}:afg k (.int k' m)=some (.int k (k.wrap m)):=aJ rfl
@[simp,simp ↓] theorem akk{d:D}{J:SK}{Q:D->SK->Prop}:WV (some (d,J)) Q=Q d J:=by
 simp only[WV,ae,au,eq_iff_iff];constructor
 .rintro⟨_,_,⟨rfl,rfl⟩,h⟩;exact h
 .exact λh=>⟨_,_,⟨rfl,rfl⟩,h⟩
@[simp,simp ↓] theorem akj{Q:D->SK->Prop}:WV none Q=False:=by simp[WV]
@[simp,simp ↓] theorem alq{e:Env}{J:SK}{Q:Env->SK->Prop}:WO O [] e J Q=Q e J:=by
 simp only[WO,lK,ae,au,eq_iff_iff];constructor
 .rintro⟨_,_,⟨rfl,rfl⟩,h⟩;exact h
 .exact λh=>⟨_,_,⟨rfl,rfl⟩,h⟩
def amd(d:D)(w:Bool):Option Bool :=
 match d with
 |.bool b=>some (b == w)
 |_=>none
@[simp,simp ↓] theorem alf{d:Option Nat}{g:Nat}{w n:Bool}{k:K}{r:List Op}{e:Env}{J:SK}{Q:Env->SK->Prop}:
  WO O (⟨d,some (g,w),n,k⟩::r) e J Q=WD (get e g).bit λb=>if b=some w then WO O (⟨d,none,n,k⟩::r) e J Q else WO O r (put d (.cQ []) e) J Q:=by
 cases h:(get e g).bit<;>simp only[WO,lK,h,reduceCtorEq,false_and,exists_false,abt,J9];rename_i b;by_cases hb:b=some w
 .simp only[hb,if_true];rfl
 .simp only[if_neg hb]
theorem dO{d:Option Nat}{n:Bool}{k:K}{r:List Op}{e:Env}{J:SK}{Q:Env->SK->Prop}(h:xn O ⟨d,none,n,k⟩ e J=(bX e J k).map λx=>(put d x.1 e,x.2)):
  WO O (⟨d,none,n,k⟩::r) e J Q=WV (bX e J k) λv J'=>WO O r (put d v e) J' Q:=by
 simp only[WO,lK,h,WV,eq_iff_iff];constructor
 .rintro⟨e',J',h1,h2⟩;cases hs:bX e J k with
  |none=>simp[hs]at h1
  |some y=>simp[hs]at h1;exact⟨y.1,y.2,rfl,e',J',h1,h2⟩
 .rintro⟨v,J1,h1,e',J',h2,h3⟩;exact⟨e',J',by simp[h1,h2],h3⟩
theorem ma{o:Option (D×SK)}{o':Option D}{J:SK}{Q:D->SK->Prop}(h:o=o'.map (·,J)):WV o Q=WD o' λv=>Q v J:=by
 subst h;cases o'<;>simp
def V0:D->Option D
 |.bu=>some (.int .i64 0)
 |.bZ n _=>some (.int .i64 n)
 |.sl _ _ _ _ n _=>some (.int .i64 n)
 |_=>none
@[simp] theorem ahe:V0 .bu=some (.int .i64 0):=aJ rfl
@[simp] theorem aiU{n:Nat}{cs:List D}:V0 (.bZ n cs)=some (.int .i64 n):=aJ rfl
@[simp] theorem akw{l i v o n w:Nat}:V0 (.sl l i v o n w)=some (.int .i64 n):=aJ rfl
def RN(ag:Bool)(sz:Nat):Option (List D)->Option D
 |some cs =>
  if sz<=cs.length then
   if ag then some (.agg (cs.take sz))else
   match cs with
   |d::_=>some d
   |[]=>none
  else none
 |none=>none
@[simp] theorem alH{sz:Nat}{cs:List D}:RN true sz (some cs)=if sz<=cs.length then some (.agg (cs.take sz))else none:=aJ rfl
@[simp] theorem aku{d:D}{cs:List D}:RN false 1 (some (d::cs))=some d:=by simp[RN]
@[simp] theorem aje{J:SK}{cs:List D}:IZ J (.aZ cs)=some cs:=aJ rfl
@[simp] theorem akC{J:SK}{l i v off:Nat}:IZ J (.ref l i v off)=(cells? J l i v).map (·.drop off):=aJ rfl
def Y8(e:Env)(v:Nat)(ag:Bool)(sz a:Nat):Option D:=RN ag sz ((rK e v a).map λx=>x.2.1.drop x.2.2)
def YA:D->Option (List D)
 |.aZ cs=>some cs
 |_=>none
@[simp] theorem afe{cs:List D}:YA (.aZ cs)=some cs:=aJ rfl
@[simp] theorem ahb:Mw false .bu=some true:=aJ rfl
@[simp] theorem aiQ{n:Nat}{cs:List D}:Mw false (.bZ n cs)=if n=0 then none else some false:=aJ rfl
def aiW:D->Option D
 |.aZ cs=>some (.aZ cs)
 |.ref l i v off=>some (.ref l i v off)
 |_=>none
@[simp] theorem aiX{l i v off:Nat}:aiW (.ref l i v off)=some (.ref l i v off):=aJ rfl
def unD:UnOp->D->Option D
 |.not,.bool b=>some (.bool !b)
 |.neg,.int k n=>some (.int k (k.wrap (0-n)))
 |.xor,.int k n=>some (.int k (k.wrap ((BitVec.ofInt k.bits (if k.signed then -1 else k.max) ^^^ BitVec.ofInt k.bits n).toNat:Int)))
 |_,_=>none
theorem RI{n:Nat}(h:n<256):unD .xor (.int .u8 n)=some (.int .u8 ((255-n:Nat):Int)):=by
 have key:∀m:Fin 256,IntKind.u8.wrap ((BitVec.ofInt 8 255 ^^^ BitVec.ofInt 8 (m.1:Int)).toNat:Int)=((255-m.1:Nat):Int):=by decide +kernel
 have:=key ⟨n,h⟩;simp only[unD];exact congrArg (λz=>some (D.int .u8 z)) this
@[simp] theorem akM{b:Bool}:unD .not (.bool b)=some (.bool !b):=aJ rfl
@[simp] theorem akL{k:IntKind}{n:Int}:unD .neg (.int k n)=some (.int k (k.wrap (0-n))):=aJ rfl
def Qp(n off:Nat):D->Option D
 |.aZ cs=>some (.aZ (cs.drop off))
 |.ref l i v o=>some (.ref l i v (o+off))
 |.own s _=>some (.vr n s off)
 |.vr v s o=>some (.vr v s (o+off))
 |_=>none
@[simp] theorem afn{n off:Nat}{cs:List D}:Qp n off (.aZ cs)=some (.aZ (cs.drop off)):=aJ rfl
@[simp] theorem ag2{n off l i v o:Nat}:Qp n off (.ref l i v o)=some (.ref l i v (o+off)):=aJ rfl
@[simp] theorem ag1{n off s:Nat}{cs:List D}:Qp n off (.own s cs)=some (.vr n s off):=aJ rfl
@[simp] theorem aiC{n off v s o:Nat}:Qp n off (.vr v s o)=some (.vr v s (o+off)):=aJ rfl
def afp(ag:Bool)(off sz:Nat):D->Option D
 |.agg cs =>
  if off+sz<=cs.length then
   if ag then some (.agg ((cs.drop off).take sz))else cs[off]?
  else none
 |_=>none
@[simp] theorem aiD{ag:Bool}{off sz:Nat}{cs:List D}:afp ag off sz (.agg cs)=if off+sz<=cs.length then(if ag then some (.agg ((cs.drop off).take sz))else cs[off]?)else none:=aJ rfl
def Up(m len w:Nat)(x i:D):Option D :=
 match HQ i with
 |some n =>
  if 0<=n/\n<len then
   match x with
   |.aZ cs=>some (.aZ ((cs.drop (n.toNat*w)).take w))
   |.ref l j v off=>some (.ref l j v (off+n.toNat*w))
   |.own s _=>some (.vr m s (n.toNat*w))
   |.vr v s o=>some (.vr v s (o+n.toNat*w))
   |_=>none
  else none
 |none=>none
@[simp] theorem afu{m len w:Nat}{cs:List D}{k:IntKind}{n:Int}:Up m len w (.aZ cs) (.int k n)=if 0<=n/\n<len then some (.aZ ((cs.drop (n.toNat*w)).take w))else none:=aJ rfl
@[simp] theorem ag7{m len w l j v off:Nat}{k:IntKind}{n:Int}:Up m len w (.ref l j v off) (.int k n)=if 0<=n/\n<len then some (.ref l j v (off+n.toNat*w))else none:=aJ rfl
def QN(w:Nat)(x i:D):Option D :=
 match x,HQ i with
 |.bZ m cs,some n=>if 0<=n/\n<m then some (.aZ ((cs.drop (n.toNat*w)).take w))else none
 |.sl l j v off m w',some n=>if 0<=n/\n<m/\w'=w then some (.ref l j v (off+n.toNat*w))else none
 |_,_=>none
@[simp] theorem ag8{w m:Nat}{cs:List D}{k:IntKind}{n:Int}:QN w (.bZ m cs) (.int k n)=if 0<=n/\n<m then some (.aZ ((cs.drop (n.toNat*w)).take w))else none:=aJ rfl
@[simp] theorem aiN{w l j v off m w':Nat}{k:IntKind}{n:Int}:QN w (.sl l j v off m w') (.int k n)=if 0<=n/\n<m/\w'=w then some (.ref l j v (off+n.toNat*w))else none:=aJ rfl
def YT(ag:Bool)(len w:Nat)(x i:D):Option D :=
 match x,HQ i with
 |.agg cs,some n =>
  if 0<=n/\n<len/\(n.toNat+1)*w<=cs.length then
   if ag then some (.agg ((cs.drop (n.toNat*w)).take w))else cs[n.toNat*w]?
  else none
 |_,_=>none
@[simp] theorem ag9{ag:Bool}{len w:Nat}{cs:List D}{k:IntKind}{n:Int}:YT ag len w (.agg cs) (.int k n)=if 0<=n/\n<len/\(n.toNat+1)*w<=cs.length then(if ag then some (.agg ((cs.drop (n.toNat*w)).take w))else cs[n.toNat*w]?)else none:=aJ rfl
def mnD(x y:D):Option D :=
 match x,y with
 |.int k a,.int _ b=>some (.int k (min a b))
 |_,_=>none
@[simp] theorem akx{k k':IntKind}{a b:Int}:mnD (.int k a) (.int k' b)=some (.int k (min a b)):=aJ rfl
def mxD(x y:D):Option D :=
 match x,y with
 |.int k a,.int _ b=>some (.int k (max a b))
 |_,_=>none
@[simp] theorem aky{k k':IntKind}{a b:Int}:mxD (.int k a) (.int k' b)=some (.int k (max a b)):=aJ rfl
def aiA(x:D)(i:Nat):Option D :=
 match x with
 |.cQ ds=>ds[i]?
 |_=>none
@[simp] theorem aiB{ds:List D}{i:Nat}:aiA (.cQ ds) i=ds[i]?:=aJ rfl
def abG(ag:Bool)(ks:List (Option IntKind))(neg:Bool)(x y:D):Option D :=
 match x.row ag,y.row ag with
 |some p,some q=>(BS ks p q).map λb => .bool (if neg then !b else b)
 |_,_=>none
@[simp] theorem ako{ks:List (Option IntKind)}{neg:Bool}{p q:List D}:abG true ks neg (.agg p) (.agg q)=(BS ks p q).map λb => .bool (if neg then !b else b):=aJ rfl
@[simp] theorem ag0{ks:List (Option IntKind)}{neg:Bool}{a b:Bool}:abG false ks neg (.bool a) (.bool b)=(BS ks [.bool a] [.bool b]).map λb => .bool (if neg then !b else b):=aJ rfl
@[simp] theorem ajg:BS [] [] []=some true:=aJ rfl
@[simp] theorem ajf{k k1 k2:IntKind}{ks:List (Option IntKind)}{a b:Int}{x y:List D}:BS (some k::ks) (.int k1 a::x) (.int k2 b::y)=if k1=k/\k2=k then(BS ks x y).map (a == b && ·)else none:=aJ rfl
@[simp] theorem ahC{ks:List (Option IntKind)}{a b:Bool}{x y:List D}:BS (none::ks) (.bool a::x) (.bool b::y)=(BS ks x y).map (a == b && ·):=aJ rfl
def acG(w:Nat)(x:D)(e:Env)(lo hi mx:Option bS):Option D :=
 match x with
 |.bZ n cs=>(bounds n e lo hi mx).map λb => .bZ (b.2-b.1) ((cs.drop (b.1*w)).take ((b.2-b.1)*w))
 |.sl l i v off n w'=>if w'=w then(bounds n e lo hi mx).map λb => .sl l i v (off+b.1*w) (b.2-b.1) w else none
 |.bu=>(bounds 0 e lo hi mx).map λ_ => .bu
 |_=>none
@[simp] theorem ajR{w n:Nat}{cs:List D}{e:Env}{lo hi mx:Option bS}:acG w (.bZ n cs) e lo hi mx=(bounds n e lo hi mx).map λb => .bZ (b.2-b.1) ((cs.drop (b.1*w)).take ((b.2-b.1)*w)):=aJ rfl
@[simp] theorem akE{w l i v off n w':Nat}{e:Env}{lo hi mx:Option bS}:acG w (.sl l i v off n w') e lo hi mx=if w'=w then(bounds n e lo hi mx).map λb => .sl l i v (off+b.1*w) (b.2-b.1) w else none:=aJ rfl
section bins
variable {k:IntKind} {a b:Int}
@[simp] theorem ah6:vv .add (.int k a) (.int k b)=some (.int k (k.wrap (a+b))):=by simp[vv]
@[simp] theorem aii:vv .sub (.int k a) (.int k b)=some (.int k (k.wrap (a-b))):=by simp[vv]
@[simp] theorem aic:vv .mul (.int k a) (.int k b)=some (.int k (k.wrap (a*b))):=by simp[vv]
@[simp] theorem aie:vv .quo (.int k a) (.int k b)=if b≠0 then some (.int k (k.wrap (a.tdiv b)))else none:=by simp[vv]
@[simp] theorem aif:vv .rem (.int k a) (.int k b)=if b≠0 then some (.int k (a.tmod b))else none:=by simp[vv]
@[simp] theorem aih{k':IntKind}:vv .shr (.int k a) (.int k' b)=if b<0 then none else some (.int k (a.fdiv (2^(min b.toNat k.bits)))):=aJ rfl
@[simp] theorem ah7:vv .eql (.int k a) (.int k b)=some (.bool (a == b)):=by simp[vv]
@[simp] theorem aid:vv .neq (.int k a) (.int k b)=some (.bool (a != b)):=by simp[vv]
@[simp] theorem aib:vv .lss (.int k a) (.int k b)=some (.bool (decide (a<b))):=by simp[vv]
@[simp] theorem aia:vv .leq (.int k a) (.int k b)=some (.bool (decide (a<=b))):=by simp[vv]
@[simp] theorem ah9:vv .gtr (.int k a) (.int k b)=some (.bool (decide (b<a))):=by simp[vv]
@[simp] theorem ah8:vv .geq (.int k a) (.int k b)=some (.bool (decide (b<=a))):=by simp[vv]
end bins
@[simp] theorem acC:D.strip .undef=.undef:=aJ rfl
@[simp] theorem adS{b:Bool}:D.strip (.bool b)=.bool b:=aJ rfl
@[simp] theorem agj{k:IntKind}{n:Int}:D.strip (.int k n)=.int k n:=aJ rfl
@[simp] theorem agm{s:List UInt8}:D.strip (.str s)=.str s:=aJ rfl
@[simp] theorem agh{cs:List D}:D.strip (.agg cs)=.agg cs:=aJ rfl
@[simp] theorem agn{cs:List D}:D.strip (.cQ cs)=.cQ cs:=aJ rfl
@[simp] theorem agl{l i v o:Nat}:D.strip (.ref l i v o)=.ref l i v o:=aJ rfl
@[simp] theorem adT{cs:List D}:D.strip (.aZ cs)=.aZ cs:=aJ rfl
@[simp] theorem adV:D.strip .bu=.bu:=aJ rfl
@[simp] theorem agk{n:Nat}{cs:List D}:D.strip (.bZ n cs)=.bZ n cs:=aJ rfl
@[simp] theorem ahF{l i v o n w:Nat}:D.strip (.sl l i v o n w)=.sl l i v o n w:=aJ rfl
@[simp] theorem ahE{f:Nat}{a b:List D}:D.strip (.fn f a b)=.fn f a b:=aJ rfl
@[simp] theorem agi{t:Nat}{d:D}:D.strip (.uJ t d)=.uJ t d:=aJ rfl
@[simp] theorem adU:D.strip .od=.od:=aJ rfl
@[simp] theorem ahr{t:Nat}{d:D}:D.calm (.uJ t d)=.uJ t d:=aJ rfl
@[simp] theorem afW:D.calm .od=.od:=aJ rfl
@[simp] theorem ago{l i:Nat}:D.strip (.j5 l i)=.j5 l i:=aJ rfl
@[simp] theorem adL:D.calm .undef=.undef:=aJ rfl
@[simp] theorem afU{b:Bool}:D.calm (.bool b)=.bool b:=aJ rfl
@[simp] theorem ahs{k:IntKind}{n:Int}:D.calm (.int k n)=.int k n:=aJ rfl
@[simp] theorem ahw{s:List UInt8}:D.calm (.str s)=.str s:=aJ rfl
@[simp] theorem ahq{cs:List D}:D.calm (.agg cs)=.agg cs:=aJ rfl
@[simp] theorem ahv{l i v o:Nat}:D.calm (.ref l i v o)=.ref l i v o:=aJ rfl
@[simp] theorem afV{cs:List D}:D.calm (.aZ cs)=.aZ cs:=aJ rfl
@[simp] theorem afX:D.calm .bu=.bu:=aJ rfl
@[simp] theorem aht{n:Nat}{cs:List D}:D.calm (.bZ n cs)=.bZ n cs:=aJ rfl
@[simp] theorem ajd{l i v o n w:Nat}:D.calm (.sl l i v o n w)=.sl l i v o n w:=aJ rfl
@[simp] theorem ajc{f:Nat}{a b:List D}:D.calm (.fn f a b)=.fn f a b:=aJ rfl
@[simp] theorem ahx{l i:Nat}:D.calm (.j5 l i)=.j5 l i:=aJ rfl
@[simp] theorem ahu{s:Nat}{cs:List D}:D.calm (.own s cs)=.own 0 cs:=aJ rfl
@[simp] theorem adM{b:Bool}:D.cells (.bool b)=some [.bool b]:=aJ rfl
@[simp] theorem afZ{k:IntKind}{n:Int}:D.cells (.int k n)=some [.int k n]:=aJ rfl
@[simp] theorem af2{s:List UInt8}:D.cells (.str s)=some [.str s]:=aJ rfl
@[simp] theorem afY{cs:List D}:D.cells (.agg cs)=some cs:=aJ rfl
@[simp] theorem af1{l i v o:Nat}:D.cells (.ref l i v o)=some [.ref l i v o]:=aJ rfl
@[simp] theorem adN:D.cells .bu=some [.bu]:=aJ rfl
@[simp] theorem af0{n:Nat}{cs:List D}:D.cells (.bZ n cs)=some [.bZ n cs]:=aJ rfl
@[simp] theorem ahz{l i v o n w:Nat}:D.cells (.sl l i v o n w)=some [.sl l i v o n w]:=aJ rfl
@[simp] theorem ahy{f:Nat}{a b:List D}:D.cells (.fn f a b)=some [.fn f a b]:=aJ rfl
@[simp] theorem af3{l i:Nat}:D.cells (.j5 l i)=some [.j5 l i]:=aJ rfl
@[simp] theorem aiO{k:IntKind}{n:Int}:HQ (.int k n)=some n:=aJ rfl
@[simp] theorem pS{O:ck}{kp:Bool}{f:Nat}{first cap args:List D}{J:SK}:oK O kp (.fn f first cap) args J=R.dh (O (.call kp f (first++args++cap) J)):=aJ rfl
@[simp] theorem agW{O:ck}{kp:Bool}{l i:Nat}{args:List D}{J:SK}:oK O kp (.j5 l i) args J=R.dh (O (.round l i args J)):=aJ rfl
@[simp] theorem aj0{d:D}{J:SK}:R.dh (some (.val d J))=some (d,J):=aJ rfl
section ops
variable {d:Option Nat} {n:Bool} {r:List Op} {e:Env} {J:SK} {Q:Env->SK->Prop}
@[simp,simp ↓] theorem al8{x:bS}:WO O (⟨d,none,n,.mv x⟩::r) e J Q=WO O r (put d (bC e x) e) J Q:=by rw[dO rfl];simp[bX]
@[simp,simp ↓] theorem akh{w:Nat}:WO O (⟨d,none,n,.LG w⟩::r) e J Q=WV (bX e J (.LG w)) λv J'=>WO O r (put d v e) J' Q:=dO rfl
@[simp,simp ↓] theorem ak1{nb:List (Nat×Nat)}{cs:List D}:WO O (⟨d,none,n,.VA nb cs⟩::r) e J Q=WV (bX e J (.VA nb cs)) λv J'=>WO O r (put d v e) J' Q:=dO rfl
@[simp,simp ↓] theorem aki{c a b:bS}:WO O (⟨d,none,n,.pick c a b⟩::r) e J Q=WD (Qf (bC e c)) λt=>WO O r (put d (if t then bC e a else bC e b) e) J Q:=by
 rw[dO rfl];simp only[bX];cases bC e c<;>simp[Qf]
@[simp,simp ↓] theorem aj8{x:bS}:WO O (⟨d,none,n,.Mm x⟩::r) e J Q=WD (bC e x).cells λcs=>WO O r (put d (.aZ cs) e) J Q:=by
 rw[dO rfl];simp only[bX];cases(bC e x).cells<;>simp
@[simp,simp ↓] theorem aj9{x:bS}:WO O (⟨d,none,n,.Mn x⟩::r) e J Q=WV (bX e J (.Mn x)) λv J'=>WO O r (put d v e) J' Q:=dO rfl
@[simp,simp ↓] theorem ak8{nb:List (Nat×Nat)}{x:bS}:WO O (⟨d,none,n,.bxn nb x⟩::r) e J Q=WV (bX e J (.bxn nb x)) λv J'=>WO O r (put d v e) J' Q:=dO rfl
@[simp,simp ↓] theorem ak5{z:List D}{ps:List (Nat×Nat×bS)}:WO O (⟨d,none,n,.Ml z ps⟩::r) e J Q=WD (iY e ps z) λcs=>WO O r (put d (.agg cs) e) J Q:=by
 rw[dO rfl];simp only[bX];cases iY e ps z<;>simp
@[simp,simp ↓] theorem ak6{m w:Nat}{z:List D}{ps:List (Nat×Nat×bS)}:WO O (⟨d,none,n,.bsi m w z ps⟩::r) e J Q=WD (iY e ps z) λcs=>WO O r (put d (.bZ m cs) e) J Q:=by
 rw[dO rfl];simp only[bX];cases iY e ps z<;>simp
@[simp,simp ↓] theorem ak7{m w:Nat}{z:List D}{ps:List (Nat×Nat×bS)}:WO O (⟨d,none,n,.Yr m w z ps⟩::r) e J Q=WV (bX e J (.Yr m w z ps)) λv J'=>WO O r (put d v e) J' Q:=dO rfl
@[simp,simp ↓] theorem al4{ag:Bool}{sz:Nat}{a:bS}:WO O (⟨d,none,n,.ld ag sz a⟩::r) e J Q=WD (RN ag sz (IZ J (bC e a))) λv=>WO O r (put d v e) J Q:=by
 rw[dO rfl];refine ma ?_;simp only[bX];cases IZ J (bC e a)with
 |none=>rfl
 |some cs =>
  simp only[RN];split
  .cases ag
   .cases cs<;>rfl
   .rfl
  .rfl
theorem acr{J:SK}{l i off:Nat}:WE J (.ref l i 0 off)=IZ J (.ref l i 0 off):=rfl
@[simp,simp ↓] theorem ali{ag:Bool}{sz:Nat}{a:bS}:WO O (⟨d,none,n,.Wz ag sz a⟩::r) e J Q=WD (RN ag sz (WE J (bC e a))) λv=>WO O r (put d v e) J Q:=by
 rw[dO rfl];refine ma ?_;simp only[bX];cases WE J (bC e a)with
 |none=>rfl
 |some cs =>
  simp only[RN];split
  .cases ag
   .cases cs<;>rfl
   .rfl
  .rfl
@[simp,simp ↓] theorem alj{ag:Bool}{sz:Nat}{a:bS}:WO O (⟨d,none,n,.Y7 ag sz a⟩::r) e J Q=WD (RN ag sz (YA (bC e a))) λv=>WO O r (put d v e) J Q:=by
 rw[dO rfl];refine ma ?_;simp only[bX];cases bC e a with
 |aZ cs =>
  simp only[YA,RN];split
  .cases ag
   .cases cs<;>rfl
   .rfl
  .rfl
 |_=>rfl
@[simp,simp ↓] theorem alh{ps neg:Bool}{x:bS}:WO O (⟨d,none,n,.isn ps neg x⟩::r) e J Q=WD (Mw ps (bC e x)) λb=>WO O r (put d (.bool (if neg then !b else b)) e) J Q:=by
 rw[dO rfl];simp only[bX];cases Mw ps (bC e x)<;>simp
@[simp,simp ↓] theorem alp{x:bS}:WO O (⟨d,none,n,.nck x⟩::r) e J Q=WD (aiW (bC e x)) λv=>WO O r (put d v e) J Q:=by
 rw[dO rfl];refine ma ?_;simp only[bX];cases bC e x<;>rfl
@[simp,simp ↓] theorem ama{nb:List (Nat×Nat)}{sz:Nat}{a x:bS}:WO O (⟨d,none,n,.st nb sz a x⟩::r) e J Q=WV (bX e J (.st nb sz a x)) λv J'=>WO O r (put d v e) J' Q:=dO rfl
@[simp,simp ↓] theorem alk{v:Nat}{ag:Bool}{sz a:Nat}:WO O (⟨d,none,n,.WA v ag sz a⟩::r) e J Q=WD (Y8 e v ag sz a) λv=>WO O r (put d v e) J Q:=by
 rw[dO rfl];refine ma ?_;simp only[bX,Y8];cases rK e v a with
 |none=>rfl
 |some x =>
  obtain⟨s,cs,off⟩:=x;simp only[RN,bf];split
  .cases ag
   .cases cs.drop off<;>rfl
   .rfl
  .rfl
@[simp,simp ↓] theorem ak4{o:BinOp}{x y:bS}:WO O (⟨d,none,n,.bin o x y⟩::r) e J Q=WD (vv o (bC e x) (bC e y)) λv=>WO O r (put d v e) J Q:=by
 rw[dO rfl];simp only[bX];cases vv o (bC e x) (bC e y)<;>simp
@[simp,simp ↓] theorem alb{ag:Bool}{ks:List (Option IntKind)}{neg:Bool}{x y:bS}:WO O (⟨d,none,n,.eqv ag ks neg x y⟩::r) e J Q=WD (abG ag ks neg (bC e x) (bC e y)) λv=>WO O r (put d v e) J Q:=by
 rw[dO rfl];refine ma ?_;simp only[bX,abG];cases(bC e x).row ag<;>cases(bC e y).row ag<;>simp[Option.map_map,Function.comp_def]
@[simp,simp ↓] theorem amb{o:UnOp}{x:bS}:WO O (⟨d,none,n,.un o x⟩::r) e J Q=WD (unD o (bC e x)) λv=>WO O r (put d v e) J Q:=by
 rw[dO rfl];refine ma ?_;simp only[bX];cases o<;>cases bC e x<;>rfl
@[simp,simp ↓] theorem ala{k:IntKind}{x:bS}:WO O (⟨d,none,n,.YB k x⟩::r) e J Q=WD (afg k (bC e x)) λv=>WO O r (put d v e) J Q:=by
 rw[dO rfl];simp only[bX];cases bC e x<;>simp[afg]
@[simp,simp ↓] theorem alr{p:Pu}{xs:List bS}:WO O (⟨d,none,n,.IY p xs⟩::r) e J Q=WD (ia p (xs.map (bC e))) λv=>WO O r (put d v e) J Q:=by
 rw[dO rfl];simp only[bX];cases ia p (xs.map (bC e))<;>simp
@[simp,simp ↓] theorem al5{p:Me}{xs:List bS}:WO O (⟨d,none,n,.me p xs⟩::r) e J Q=WV (WB J p (xs.map (bC e))) λv J'=>WO O r (put d v e) J' Q:=dO rfl
@[simp,simp ↓] theorem al7{p:Mo}{xs:List bS}:WO O (⟨d,none,n,.mp p xs⟩::r) e J Q=WV (DT J p (xs.map (bC e))) λv J'=>WO O r (put d v e) J' Q:=dO rfl
@[simp,simp ↓] theorem aln{t:Nat}{x:bS}:WO O (⟨d,none,n,.Zk t x⟩::r) e J Q=WO O r (put d (.uJ t (bC e x)) e) J Q:=by rw[dO rfl];simp[bX]
@[simp,simp ↓] theorem alv{t:Nat}{z:Option D}{x:bS}:WO O (⟨d,none,n,.tas t z x⟩::r) e J Q=WD (Tl t z (bC e x)) λv=>WO O r (put d v e) J Q:=by
 rw[dO rfl];simp only[bX];cases Tl t z (bC e x)<;>simp
@[simp,simp ↓] theorem alg{neg:Bool}{x:bS}:WO O (⟨d,none,n,.isi neg x⟩::r) e J Q=WD (YY (bC e x)) λb=>WO O r (put d (.bool (if neg then !b else b)) e) J Q:=by
 rw[dO rfl];simp only[bX];cases YY (bC e x)<;>simp
@[simp] theorem aha:YY .od=some true:=aJ rfl
@[simp] theorem aiP{t:Nat}{d:D}:YY (.uJ t d)=some false:=aJ rfl
@[simp] theorem ajU{t t':Nat}{z d:D}:Tl t (some z) (.uJ t' d)=some (if t'=t then .cQ [d,.bool true]else .cQ [z,.bool false]):=aJ rfl
@[simp,simp ↓] theorem alm{f:Nat}{xs ys:List bS}:WO O (⟨d,none,n,.Zj f xs ys⟩::r) e J Q=WO O r (put d (.fn f (xs.map (bC e)) (ys.map (bC e))) e) J Q:=by rw[dO rfl];simp[bX]
@[simp,simp ↓] theorem alo{w b:Nat}{z:List D}{l c:bS}:WO O (⟨d,none,n,.mks w b z l c⟩::r) e J Q=WV (bX e J (.mks w b z l c)) λv J'=>WO O r (put d v e) J' Q:=dO rfl
@[simp,simp ↓] theorem als{w:Nat}{x:bS}{lo hi mx:Option bS}:WO O (⟨d,none,n,.slc w x lo hi mx⟩::r) e J Q=WD (acG w (bC e x) e lo hi mx) λv=>WO O r (put d v e) J Q:=by
 rw[dO rfl];refine ma ?_;simp only[bX,acG];cases bC e x<;>first | rfl | (simp only[];split<;>simp[Option.map_map,Function.comp_def]) | simp[Option.map_map,Function.comp_def]
@[simp,simp ↓] theorem akc{off m:Nat}:WO O (⟨d,none,n,.Mq off (.t m)⟩::r) e J Q=WD (Qp m off (get e m)) λv=>WO O r (put d v e) J Q:=by
 rw[dO rfl];refine ma ?_;simp only[bX];cases get e m<;>rfl
@[simp,simp ↓] theorem ale{ag:Bool}{off sz:Nat}{x:bS}:WO O (⟨d,none,n,.fld ag off sz x⟩::r) e J Q=WD (afp ag off sz (bC e x)) λv=>WO O r (put d v e) J Q:=by
 rw[dO rfl];refine ma ?_;simp only[bX];cases bC e x<;>first | rfl | (simp only[afp];split<;>cases ag<;>simp)
@[simp,simp ↓] theorem akd{l w m:Nat}{i:bS}:WO O (⟨d,none,n,.Mt l w (.t m) i⟩::r) e J Q=WD (Up m l w (get e m) (bC e i)) λv=>WO O r (put d v e) J Q:=by
 rw[dO rfl];refine ma ?_;simp only[bX,Up];cases HQ (bC e i)with
 |none=>rfl
 |some k=>simp only[];split<;>cases get e m<;>rfl
@[simp,simp ↓] theorem ake{w:Nat}{x i:bS}:WO O (⟨d,none,n,.IL w x i⟩::r) e J Q=WD (QN w (bC e x) (bC e i)) λv=>WO O r (put d v e) J Q:=by
 rw[dO rfl];refine ma ?_;simp only[bX,QN];cases HQ (bC e i)with
 |none=>cases bC e x<;>rfl
 |some k=>cases bC e x<;>first | rfl | (simp only[];split<;>rfl)
@[simp,simp ↓] theorem akf{ag:Bool}{l w:Nat}{x i:bS}:WO O (⟨d,none,n,.OB ag l w x i⟩::r) e J Q=WD (YT ag l w (bC e x) (bC e i)) λv=>WO O r (put d v e) J Q:=by
 rw[dO rfl];refine ma ?_;simp only[bX,YT];cases HQ (bC e i)with
 |none=>cases bC e x<;>rfl
 |some k=>cases bC e x<;>first | rfl | (simp only[];split<;>cases ag<;>simp)
@[simp,simp ↓] theorem akg{x:bS}:WO O (⟨d,none,n,.My x⟩::r) e J Q=WD (V0 (bC e x)) λv=>WO O r (put d v e) J Q:=by
 rw[dO rfl];refine ma ?_;simp only[bX];cases bC e x<;>rfl
@[simp,simp ↓] theorem al6{x y:bS}:WO O (⟨d,none,n,.mn x y⟩::r) e J Q=WD (mnD (bC e x) (bC e y)) λv=>WO O r (put d v e) J Q:=by
 rw[dO rfl];refine ma ?_;simp only[bX];cases bC e x<;>cases bC e y<;>rfl
@[simp,simp ↓] theorem al9{x y:bS}:WO O (⟨d,none,n,.mx x y⟩::r) e J Q=WD (mxD (bC e x) (bC e y)) λv=>WO O r (put d v e) J Q:=by
 rw[dO rfl];refine ma ?_;simp only[bX];cases bC e x<;>cases bC e y<;>rfl
@[simp,simp ↓] theorem ak2{os:List Nat}{w b:Nat}{s x:bS}:WO O (⟨d,none,n,.VC os w b s x⟩::r) e J Q=WV (bX e J (.VC os w b s x)) λv J'=>WO O r (put d v e) J' Q:=dO rfl
@[simp,simp ↓] theorem ak3{w b:Nat}{s x:bS}:WO O (⟨d,none,n,.app w b s x⟩::r) e J Q=WV (bX e J (.app w b s x)) λv J'=>WO O r (put d v e) J' Q:=dO rfl
@[simp,simp ↓] theorem ak9{w b:Nat}{x:bS}:WO O (⟨d,none,n,.cpi w b x⟩::r) e J Q=WV (bX e J (.cpi w b x)) λv J'=>WO O r (put d v e) J' Q:=dO rfl
@[simp,simp ↓] theorem ald{x:bS}{i:Nat}:WO O (⟨d,none,n,.ext x i⟩::r) e J Q=WD (aiA (bC e x) i) λv=>WO O r (put d v e) J Q:=by
 rw[dO rfl];refine ma ?_;simp only[bX];cases bC e x<;>rfl
@[simp,simp ↓] theorem akb{kp:Bool}{f:bS}{args:List bS}:WO O (⟨d,none,n,.call kp f args⟩::r) e J Q =
  WV (oK O kp (bC e f) (args.map (bC e)) J) λv J'=>(n=true->J'=J)/\WO O r (put d v e) J' Q:=by
 simp only[WO,lK,xn,WV,eq_iff_iff];cases hc:oK O kp (bC e f) (args.map (bC e)) J with
 |none=>simp
 |some y =>
  obtain⟨v,J1⟩:=y;by_cases hn:n=true->J1=J
  .simp only[if_pos hn,Option.bind_some,ae,au];exact⟨λh=>⟨v,J1,⟨rfl,rfl⟩,hn,h⟩,λ⟨_,_,⟨h1,h2⟩,_,h⟩=>by subst h1 h2;exact h⟩
  .simp only[if_neg hn,Option.bind_none,reduceCtorEq,false_and,exists_false,ae,au,false_iff];rintro⟨_,_,⟨h1,h2⟩,h,_⟩;subst h1 h2;exact hn h
@[simp,simp ↓] theorem aj7{nb:List (Nat×Nat)}{cs:List D}:WO O (⟨d,none,n,.CK nb cs⟩::r) e J Q=WD d λv=>WD (kB nb cs J) λy=>WO O r ((v,.own (uR e v) y.1)::e) y.2 Q:=by
 cases d with
 |none=>simp[WO,lK,xn]
 |some v=>cases h:kB nb cs J with
  |none=>simp[WO,lK,xn,h]
  |some y=>obtain⟨a,b⟩:=y;simp only[WO,lK,xn,h,Option.bind_some,J9]
@[simp,simp ↓] theorem aka{x:bS}:WO O (⟨d,none,n,.GM x⟩::r) e J Q=WD d λv=>WD (bC e x).cells λcs=>WO O r ((v,.own (uR e v) cs)::e) J Q:=by
 cases d with
 |none=>simp[WO,lK,xn]
 |some v=>cases h:(bC e x).cells with
  |none=>simp[WO,lK,xn,h]
  |some y=>simp only[WO,lK,xn,h,Option.bind_some,J9]
def agM(e:Env)(J:SK)(v:Nat)(nb:List (Nat×Nat))(sz a:Nat)(x:bS):Option (D×SK) :=
 match rK e v a,(bC e x).cells with
 |some (s,cs,off),some p =>
  if p.length=sz/\off+sz<=cs.length then
   match kB nb p J with
   |some (p',J')=>some (.own s (cs.take off++p'++cs.drop (off+sz)),J')
   |none=>none
  else none
 |_,_=>none
@[simp,simp ↓] theorem alu{v:Nat}{nb:List (Nat×Nat)}{sz a:Nat}{x:bS}:WO O (⟨d,none,n,.Iq v nb sz a x⟩::r) e J Q =
  WV (agM e J v nb sz a x) λy J'=>WO O r ((v,y)::e) J' Q:=by
 simp only[WO,lK,xn,agM];cases h1:rK e v a with
 |none=>simp
 |some p =>
  obtain⟨s,cs,off⟩:=p;cases h2:(bC e x).cells with
  |none=>simp
  |some p =>
   dsimp only;split
   .cases h3:kB nb p J with
    |none=>simp
    |some y=>obtain⟨a,b⟩:=y;simp[WO]
   .simp
end ops
section code
variable {e:Env} {J:SK} {Q:Exit->Env->SK->Prop}
@[simp,simp ↓] theorem akX:WC O .Kk e J Q=Q .normal e J:=by
 simp only[WC,bq,ae,au,eq_iff_iff];exact⟨λ⟨_,_,_,⟨h1,h2,h3⟩,h⟩=>by subst h1 h2 h3;exact h,λh=>⟨_,_,_,⟨rfl,rfl,rfl⟩,h⟩⟩
@[simp,simp ↓] theorem akV{vs:List Nat}:WC O (.cH vs) e J Q=Q .normal (vB vs e J).1 (vB vs e J).2:=by
 simp only[WC,bq,ae,au,eq_iff_iff];exact⟨λ⟨_,_,_,⟨h1,h2,h3⟩,h⟩=>by subst h1 h2 h3;exact h,λh=>⟨_,_,_,⟨rfl,rfl,rfl⟩,h⟩⟩
@[simp,simp ↓] theorem aj5{i:Nat}:WC O (.exit i) e J Q=Q (.exit i) e J:=by
 simp only[WC,bq,ae,au,eq_iff_iff];exact⟨λ⟨_,_,_,⟨h1,h2,h3⟩,h⟩=>by subst h1 h2 h3;exact h,λh=>⟨_,_,_,⟨rfl,rfl,rfl⟩,h⟩⟩
@[simp,simp ↓] theorem akZ:WC O .ret e J Q=Q .ret e J:=by
 simp only[WC,bq,ae,au,eq_iff_iff];exact⟨λ⟨_,_,_,⟨h1,h2,h3⟩,h⟩=>by subst h1 h2 h3;exact h,λh=>⟨_,_,_,⟨rfl,rfl,rfl⟩,h⟩⟩
@[simp,simp ↓] theorem akY{live:List Nat}{ops:List Op}:WC O (.sQ live ops) e J Q=WO O ops e J λe' J'=>Q .normal (restrict live e') J':=by
 simp only[WC,bq,WO,ad,au,eq_iff_iff];constructor
 .rintro⟨x,e',J',⟨⟨e1,J1⟩,h1,rfl,rfl,rfl⟩,h⟩;exact⟨e1,J1,h1,h⟩
 .rintro⟨e',J',h1,h⟩;exact⟨_,_,_,⟨⟨e',J'⟩,h1,rfl,rfl,rfl⟩,h⟩
def RG(O:ck)(b:bV)(Q:Exit->Env->SK->Prop)(_m:Mark b:=.mk)(_m':Mark Q:=.mk):Exit->Env->SK->Prop
 |.normal,e,J=>WC O b e J Q
 |.exit i,e,J=>Q (.exit i) e J
 |.ret,e,J=>Q .ret e J
 |.fw d,e,J=>Q (.fw d) e J
@[simp,simp ↓] theorem ahH{b:bV}{d:D}:RG O b Q .mk .mk (.fw d) e J=Q (.fw d) e J:=aJ rfl
@[simp,simp ↓] theorem acW{b:bV}:RG O b Q .mk .mk .normal e J=WC O b e J Q:=aJ rfl
@[simp,simp ↓] theorem agP{b:bV}{i:Nat}:RG O b Q .mk .mk (.exit i) e J=Q (.exit i) e J:=aJ rfl
@[simp,simp ↓] theorem ahG{b:bV}:RG O b Q .mk .mk .ret e J=Q .ret e J:=aJ rfl
@[simp,simp ↓] theorem ak0{a b:bV}:WC O (.seq a b) e J Q=WC O a e J (RG O b Q .mk .mk):=by
 simp only[WC,bq,ak,eq_iff_iff];constructor
 .rintro⟨x,e',J',⟨⟨x1,e1,J1⟩,h1,h2⟩,h⟩;refine⟨x1,e1,J1,h1,?_⟩;cases x1 with
  |normal=>exact⟨x,e',J',h2,h⟩
  |exit i=>cases h2;exact h
  |ret=>cases h2;exact h
  |fw d=>cases h2;exact h
 .rintro⟨x1,e1,J1,h1,h⟩;cases x1 with
  |normal=>obtain⟨x,e',J',h2,h3⟩:=h;exact⟨x,e',J',⟨_,h1,h2⟩,h3⟩
  |exit i=>exact⟨_,_,_,⟨_,h1,rfl⟩,h⟩
  |ret=>exact⟨_,_,_,⟨_,h1,rfl⟩,h⟩
  |fw d=>exact⟨_,_,_,⟨_,h1,rfl⟩,h⟩
@[simp,simp ↓] theorem akW{c:bS}{a b:bV}:WC O (.ite c a b) e J Q=WD (Qf (bC e c)) λt=>if t=true then WC O a e J Q else WC O b e J Q:=by
 simp only[WC,bq];cases bC e c<;>simp[Qf];rename_i t;cases t<;>simp
def SS(id:Nat)(Q:Exit->Env->SK->Prop)(_m:Mark Q:=.mk):Exit->Env->SK->Prop
 |.normal,e,J=>Q .normal e J
 |.exit i,e,J=>if i=id then Q .normal e J else Q (.exit i) e J
 |.ret,e,J=>Q .ret e J
 |.fw d,e,J=>Q (.fw d) e J
@[simp,simp ↓] theorem ai2{id:Nat}{d:D}:SS id Q .mk (.fw d) e J=Q (.fw d) e J:=aJ rfl
@[simp,simp ↓] theorem adE{id:Nat}:SS id Q .mk .normal e J=Q .normal e J:=aJ rfl
@[simp,simp ↓] theorem aho{id i:Nat}:SS id Q .mk (.exit i) e J=if i=id then Q .normal e J else Q (.exit i) e J:=aJ rfl
@[simp,simp ↓] theorem ai1{id:Nat}:SS id Q .mk .ret e J=Q .ret e J:=aJ rfl
@[simp,simp ↓] theorem akU{id:Nat}{a:bV}:WC O (.dK id a) e J Q=WC O a e J (SS id Q .mk):=by
 simp only[WC,bq,ad,eq_iff_iff];constructor
 .rintro⟨x,e',J',⟨⟨x1,e1,J1⟩,h1,h2⟩,h⟩;refine⟨x1,e1,J1,h1,?_⟩;cases x1 with
  |normal=>cases h2;exact h
  |exit i =>
   simp only[SS];dsimp only at h2;split at h2<;>cases h2
   .rw[if_pos (by assumption)];exact h
   .rw[if_neg (by assumption)];exact h
  |ret=>cases h2;exact h
  |fw d=>cases h2;exact h
 .rintro⟨x1,e1,J1,h1,h⟩;cases x1 with
  |normal=>exact⟨_,_,_,⟨_,h1,rfl⟩,h⟩
  |exit i =>
   simp only[SS]at h;split at h
   .exact⟨_,_,_,⟨_,h1,by dsimp only;rw[if_pos (by assumption)]⟩,h⟩
   .exact⟨_,_,_,⟨_,h1,by dsimp only;rw[if_neg (by assumption)]⟩,h⟩
  |ret=>exact⟨_,_,_,⟨_,h1,rfl⟩,h⟩
  |fw d=>exact⟨_,_,_,⟨_,h1,rfl⟩,h⟩
theorem VI(d:D):d.calm.calm=d.calm:=by cases d<;>rfl
theorem MA{live:List Nat}{e:Env}{t:Nat}:get (restrict live e) t=if t∈live then(get e t).calm else .undef:=by
 induction live with
 |nil=>simp[restrict,get]
 |cons a l ih =>
  simp only[restrict,aM,get,bx];by_cases h:a=t
  .subst h;simp
  .have h':¬t=a:=λx=>h x.symm
   simp only[if_neg h,h',false_or];exact ih
theorem AR{live:List Nat}{e:Env}:restrict live (restrict live e)=restrict live e:=by
 simp only[restrict,List.map_inj_left,au,true_and];intro t ht;have:=MA (live:=live) (e:=e) (t:=t);simp only[restrict]at this;rw[this,if_pos ht,VI]
theorem yb{live:List Nat}{bD:Bool}{c:bV}:dH T O (.loop live bD c (restrict live e) J)=dH T O (.loop live bD c e J):=by
 simp only[dH,AR]
theorem AL{live:List Nat}{bD:Bool}{c:bV}{r:R}(h:dt T (.loop live bD c (restrict live e) J)=some r):dt T (.loop live bD c e J)=some r:=by
 obtain⟨n,h⟩:=wj.1 h;cases n with
 |zero=>cases h
 |succ n =>
  rw[it,yb]at h;exact wj.2 ⟨n+1,h⟩
theorem GV{live:List Nat}{bD:Bool}{c:bV}{r:R}(h:dt T (.loop live bD c e J)=some r):dt T (.loop live bD c (restrict live e) J)=some r:=by
 obtain⟨n,h⟩:=wj.1 h;cases n with
 |zero=>cases h
 |succ n =>
  rw[it,<- yb]at h;exact wj.2 ⟨n+1,h⟩
theorem Sm{r:Option R}{x:Exit}{e:Env}{J:SK}(h:R.VJ r=some (x,e,J)):r=some (.FP x e J):=by
 unfold R.VJ at h;split at h
 .cases h;rfl
 .cases h
@[simp,simp ↓] theorem aj6{live:List Nat}{bD:Bool}{c:bV}:WC (dt T) (.loop live bD c) e J Q=WL T live bD c (restrict live e) J Q:=by
 simp only[WC,bq,WL,eq_iff_iff];constructor
 .rintro⟨x,e',J',h1,h⟩;cases hl:dt T (.loop live bD c e J)with
  |none=>rw[hl]at h1;cases h1
  |some r =>
   rw[hl]at h1;cases r<;>cases h1;exact⟨_,_,_,GV hl,h⟩
 .rintro⟨x,e',J',h1,h⟩;exact⟨x,e',J',by rw[AL h1];rfl,h⟩
def Q1(T:DB)(live:List Nat)(c:bV)(Q:Exit->Env->SK->Prop)(_m:Mark c:=.mk)(_m':Mark Q:=.mk):Exit->Env->SK->Prop
 |.normal,e,J=>WL T live false c (restrict live e) J Q
 |.exit i,e,J=>Q (.exit i) e J
 |.ret,e,J=>Q .ret e J
 |.fw d,e,J=>Q (.fw d) e J
@[simp,simp ↓] theorem ahm{live:List Nat}{c:bV}{d:D}:Q1 T live c Q .mk .mk (.fw d) e J=Q (.fw d) e J:=aJ rfl
@[simp,simp ↓] theorem acg{live:List Nat}{c:bV}:Q1 T live c Q .mk .mk .normal e J=WL T live false c (restrict live e) J Q:=aJ rfl
@[simp,simp ↓] theorem afE{live:List Nat}{c:bV}{i:Nat}:Q1 T live c Q .mk .mk (.exit i) e J=Q (.exit i) e J:=aJ rfl
@[simp,simp ↓] theorem ahl{live:List Nat}{c:bV}:Q1 T live c Q .mk .mk .ret e J=Q .ret e J:=aJ rfl
theorem av{live:List Nat}{c c':bV}(hc:c=c')(h:WC (dt T) c' (restrict live e) J (Q1 T live c Q .mk .mk)):WL T live false c e J Q:=by
 rw[<- hc]at h;obtain⟨x,e1,J1,h1,h2⟩:=h;cases x with
 |normal =>
  obtain⟨x,e',J',h3,h4⟩:=h2;exact⟨x,e',J',gZ (by simp[dH,h1,AL h3]),h4⟩
 |exit i=>exact⟨_,_,_,gZ (by simp[dH,h1]),h2⟩
 |ret=>exact⟨_,_,_,gZ (by simp[dH,h1]),h2⟩
 |fw d=>exact⟨_,_,_,gZ (by simp[dH,h1]),h2⟩
def Sq(J:SK)(res:List G5)(d:D)(x:Exit)(e:Env)(J1:SK):Prop :=
 (∀i,x ≠ .exit i)/\(∀d,x ≠ .fw d)/\∃ds,Cy e J1 res=some ds/\∃s,cH (J.length-1) deep (uK ds) J1=(d,s::J)
@[simp,simp ↓] theorem adl{J1:SK}{res:List G5}{d:D}:Sq J res d .normal e J1=∃ds,Cy e J1 res=some ds/\∃s,cH (J.length-1) deep (uK ds) J1=(d,s::J):=by simp[Sq]
@[simp,simp ↓] theorem aiw{J1:SK}{res:List G5}{d:D}:Sq J res d .ret e J1=∃ds,Cy e J1 res=some ds/\∃s,cH (J.length-1) deep (uK ds) J1=(d,s::J):=by simp[Sq]
theorem pB{f:Nat}{fn:Fn}{args:List D}{J:SK}{d:D}{np:Nat}{res:List G5}{body:bV}(hT:T f=some fn)(hf:fn=⟨np,res,body⟩)(hl:args.length=np)
  (h:WC (dt T) body (lR 0 args) ([]::J) (Sq J res d)):
  dt T (.call false f args J)=some (.val d J):=by
 subst hf;obtain⟨x,e1,J1,h1,h2,h2',ds,h3,s,h4⟩:=h;refine gZ ?_;simp only[dH,hT,if_pos hl,aD,if_false,h1];cases x with
 |exit i=>exact absurd rfl (h2 i)
 |fw d=>exact absurd rfl (h2' d)
 |normal=>simp[h3,h4]
 |ret=>simp[h3,h4]
theorem ar{f:Nat}{fn:Fn}{args:List D}{J:SK}{d:D}{np:Nat}{res:List G5}{body:bV}(h:WC (dt T) body (lR 0 args) ([]::J) (Sq J res d))(hT:T f=some fn:=by exact rfl)(hf:fn=⟨np,res,body⟩:=by exact rfl)(hl:args.length=np:=by exact rfl):dt T (.call false f args J)=some (.val d J):=pB hT hf hl h
def afk(J:SK)(d:D)(x:Exit)(e:Env)(J1:SK):Prop:=x=.fw d/\d.clean=true/\∃s,J1=s::J
@[simp,simp ↓] theorem aiy{J1:SK}{d d':D}:afk J d (.fw d') e J1=(d'=d/\d.clean=true/\∃s,J1=s::J):=by simp[afk]
theorem dZ{f:Nat}{fn:Fn}{args:List D}{J:SK}{d:D}{np:Nat}{res:List G5}{body:bV}(hT:T f=some fn)(hf:fn=⟨np,res,body⟩)(hl:args.length=np)
  (h:WC (dt T) body (lR 0 args) ([]::J) (afk J d)):
  dt T (.call false f args J)=some (.fw d J):=by
 subst hf;obtain⟨x,e1,J1,h1,rfl,hc,s,rfl⟩:=h;refine gZ ?_;simp only[dH,hT,if_pos hl,aD,if_false,h1];simp[Tm,hc]
def WR(r:Option R)(Qn Qt:D->SK->Prop)(_m:Mark Qn:=.mk)(_m':Mark Qt:=.mk):Prop:=(∃d J',r=some (.val d J')/\Qn d J')\/∃d J',r=some (.fw d J')/\Qt d J'
@[simp,simp ↓] theorem aeY{d:D}{J':SK}{Qn Qt:D->SK->Prop}:WR (some (.val d J')) Qn Qt=Qn d J':=by
 simp only[WR,ae,R.val.injEq,reduceCtorEq,false_and,exists_false,or_false,eq_iff_iff];exact⟨λ⟨_,_,⟨h1,h2⟩,h⟩=>by subst h1 h2;exact h,λh=>⟨_,_,⟨rfl,rfl⟩,h⟩⟩
@[simp,simp ↓] theorem aeX{d:D}{J':SK}{Qn Qt:D->SK->Prop}:WR (some (.fw d J')) Qn Qt=Qt d J':=by
 simp only[WR,ae,R.fw.injEq,reduceCtorEq,false_and,exists_false,false_or,eq_iff_iff];exact⟨λ⟨_,_,⟨h1,h2⟩,h⟩=>by subst h1 h2;exact h,λh=>⟨_,_,⟨rfl,rfl⟩,h⟩⟩
def afO:D->Option D
 |.uJ t d=>if d.clean then some (.uJ t d)else none
 |_=>none
@[simp] theorem Q3{t:Nat}{d:D}:afO (.uJ t d)=if d.clean then some (.uJ t d)else none:=aJ rfl
@[simp] theorem aio{O:ck}{f:Nat}{first cap args:List D}{J:SK}:DC O (.fn f first cap) args J=O (.call false f (first++args++cap) J):=aJ rfl
@[simp,simp ↓] theorem abr{live:List Nat}{pre post:List Op}{dst:Option Nat}{n:Bool}{f:bS}{args:List bS}:WC O (.RH live pre ⟨dst,none,n,.call false f args⟩ post) e J Q =
  WO O pre e J λe1 J1=>WR (DC O (bC e1 f) (args.map (bC e1)) J1) (λd J2=>WO O post (put dst d e1) J2 λe' J'=>Q .normal (restrict live e') J') (λd J2=>Q (.fw d) e1 J2):=by
 simp only[WC,WO,bq,JZ,ak,eq_iff_iff];constructor
 .rintro⟨x,e',J',⟨⟨e1,J1⟩,h1,h2⟩,h⟩;refine⟨e1,J1,h1,?_⟩;dsimp only at h2;cases hc:DC O (bC e1 f) (args.map (bC e1)) J1 with
  |none=>rw[hc]at h2;simp[uY]at h2
  |some r =>
   rw[hc]at h2;cases r with
   |FP=>simp[uY]at h2
   |fw d J2=>simp only[uY,ae,au]at h2;obtain⟨rfl,rfl,rfl⟩:=h2;rw[aeX];exact h
   |val d J2 =>
    simp only[uY,ad]at h2;obtain⟨⟨e3,J3⟩,h3,h4⟩:=h2;cases h4;rw[aeY];exact⟨e3,J3,h3,h⟩
 .rintro⟨e1,J1,h1,h⟩;rcases h with⟨d,J2,h2,e3,J3,h3,h4⟩ | ⟨d,J2,h2,h4⟩
  .exact⟨.normal,_,J3,⟨(e1,J1),h1,by simp only[h2,uY,h3,bf]⟩,h4⟩
  .exact⟨.fw d,e1,J2,⟨(e1,J1),h1,by simp only[h2,uY]⟩,h4⟩
@[simp,simp ↓] theorem adg{live:List Nat}{pre post:List Op}{dst:Option Nat}{n:Bool}{x:bS}:WC O (.RH live pre ⟨dst,none,n,.Zx x⟩ post) e J Q =
  WO O pre e J λe1 J1=>WD (afO (bC e1 x)) λd=>Q (.fw d) e1 J1:=by
 simp only[WC,WO,bq,JZ,ak,eq_iff_iff];constructor
 .rintro⟨x',e',J',⟨⟨e1,J1⟩,h1,h2⟩,h⟩;refine⟨e1,J1,h1,?_⟩;dsimp only at h2;cases hx:bC e1 x<;>rw[hx]at h2<;>try (cases h2;done)
  dsimp only at h2;split at h2
  .rename_i hc;cases h2;simp only[Q3,hc,if_true,J9];exact h
  .cases h2
 .rintro⟨e1,J1,h1,d,h2,h⟩;refine⟨.fw d,e1,J1,⟨(e1,J1),h1,?_⟩,h⟩;dsimp only;cases hx:bC e1 x<;>rw[hx]at h2<;>try (cases h2;done)
  simp only[Q3]at h2;split at h2
  .rename_i hc;cases h2;simp[hc]
  .cases h2
def WM(T:DB)(live:List Nat)(it:bS)(nx ok b:Nat)(c rest:bV)(e:Env)(J:SK)(Q:Exit->Env->SK->Prop)(_m:Mark c:=.mk)(_m':Mark rest:=.mk)(_m'':Mark Q:=.mk):Prop:=∃x e' J',dt T (.iC live it nx ok b c rest e J)=some (.FP x e' J')/\Q x e' J'
theorem WM.mono{live:List Nat}{it:bS}{nx ok b:Nat}{c rest:bV}{Q':Exit->Env->SK->Prop}(h:WM T live it nx ok b c rest e J Q)(hq:∀x e J,Q x e J->Q' x e J):WM T live it nx ok b c rest e J Q' :=
 let ⟨x,e',J',h1,h2⟩:=h;⟨x,e',J',h1,hq _ _ _ h2⟩
theorem xi{live:List Nat}{it:bS}{nx ok b:Nat}{c rest:bV}:dH T O (.iC live it nx ok b c rest (restrict live e) J)=dH T O (.iC live it nx ok b c rest e J):=by
 simp only[dH,AR]
theorem tB{live:List Nat}{it:bS}{nx ok b:Nat}{c rest:bV}{r:R}:dt T (.iC live it nx ok b c rest (restrict live e) J)=some r↔dt T (.iC live it nx ok b c rest e J)=some r:=by
 constructor<;>intro h<;>obtain⟨n,h⟩:=wj.1 h<;>cases n<;>first | (cases h;done) | skip
 .rw[Abs.it,xi]at h;exact wj.2 ⟨_+1,h⟩
 .rw[Abs.it,<- xi]at h;exact wj.2 ⟨_+1,h⟩
@[simp,simp ↓] theorem ah1{live:List Nat}{it:bS}{nx ok b:Nat}{c rest:bV}:WC (dt T) (.iC live it nx ok b c rest) e J Q=WM T live it nx ok b c rest (restrict live e) J Q:=by
 simp only[WC,bq,WM,eq_iff_iff];constructor
 .rintro⟨x,e',J',h1,h⟩;exact⟨_,_,_,tB.2 (Sm h1),h⟩
 .rintro⟨x,e',J',h1,h⟩;exact⟨x,e',J',by rw[tB.1 h1];rfl,h⟩
def Nz(T:DB)(live:List Nat)(it:bS)(l i nx ok b:Nat)(c rest:bV)(r:R)(_m:Mark c:=.mk)(_m':Mark rest:=.mk):Exit->Env->SK->Prop
 |.normal,e,J=>dt T (.iC live it nx ok b c rest (restrict live e) J)=some r
 |.exit j,e,J=>if j=b then WC (dt T) rest e (bj J l i .dead) λx e' J'=>r=.FP x e' J' else r=.FP (.exit j) e (bj J l i .dead)
 |.ret,e,J=>r=.FP .ret e (bj J l i .dead)
 |.fw _,_,_=>False
@[simp,simp ↓] theorem ach{live:List Nat}{it:bS}{l i nx ok b:Nat}{c rest:bV}{r:R}:Nz T live it l i nx ok b c rest r .mk .mk .normal e J=(dt T (.iC live it nx ok b c rest (restrict live e) J)=some r):=aJ rfl
@[simp,simp ↓] theorem SO{live:List Nat}{it:bS}{l i nx ok b j:Nat}{c rest:bV}{r:R}:Nz T live it l i nx ok b c rest r .mk .mk (.exit j) e J=if j=b then WC (dt T) rest e (bj J l i .dead) λx e' J'=>r=.FP x e' J' else r=.FP (.exit j) e (bj J l i .dead):=aJ rfl
@[simp,simp ↓] theorem Wb{live:List Nat}{it:bS}{l i nx ok b:Nat}{c rest:bV}{r:R}:Nz T live it l i nx ok b c rest r .mk .mk .ret e J=(r=.FP .ret e (bj J l i .dead)):=aJ rfl
theorem OF{l i b:Nat}{rest:bV}{r:R}{x:Exit}{e1:Env}{J1:SK}{live:List Nat}{it:bS}{nx ok:Nat}{c:bV}(hx:x ≠ .normal)(h:Nz T live it l i nx ok b c rest r .mk .mk x e1 J1):zD (dt T) l i b rest (some (x,e1,J1))=some r:=by
 cases x with
 |normal=>exact absurd rfl hx
 |fw d=>exact h.elim
 |ret=>simp only[Wb]at h;subst h;rfl
 |exit j =>
  simp only[SO]at h;simp only[zD];split at h
  .rename_i hj;obtain⟨x',e',J',h1,rfl⟩:=h;rw[if_pos hj,h1];rfl
  .rename_i hj;subst h;rw[if_neg hj]
theorem Zl{live:List Nat}{it:bS}{l i nx ok b:Nat}{c c' rest rest':bV}{r:R}{m:D}{n:Nat}{js:List D}{us:List Nat}(hcc:c=c')(hrr:rest=rest')(hit:bC (restrict live e) it=.j5 l i)(hd:JN J l i=some (m,n,js,us))(hne:us≠[])
  (h:∀u∈us,WC (dt T) c' ((ok,.bool true)::(nx,.undef)::restrict live e) (bj J l i (.cells 1 (m::.int .i64 (n:Nat)::.int .i64 (u:Nat)::js))) (Nz T live it l i nx ok b c rest' r .mk .mk)):
  dt T (.iC live it nx ok b c rest e J)=some r:=by
 subst hcc hrr;refine gZ ?_;simp only[dH,hit,hd];have key:∀u∈us,DS (dt T) live it l i nx ok b c rest (bq (dt T) c ((ok,.bool true)::(nx,.undef)::restrict live e) (bj J l i (.cells 1 (m::.int .i64 (n:Nat)::.int .i64 (u:Nat)::js))))=some r:=by
  intro u hu;obtain⟨x,e1,J1,h1,h2⟩:=h u hu;rw[h1];cases x with
  |normal=>exact tB.1 h2
  |exit j=>exact OF (x:=.exit j) (by simp) h2
  |ret=>exact OF (x:=.ret) (by simp) h2
  |fw d=>exact h2.elim
 cases us with
 |nil=>exact absurd rfl hne
 |cons u us=>exact M0 (by simp) key
theorem V8{live:List Nat}{it:bS}{l i nx ok b:Nat}{c c' rest rest':bV}{r:R}{m:D}{n:Nat}{js:List D}(hcc:c=c')(hrr:rest=rest')(hit:bC (restrict live e) it=.j5 l i)(hd:JN J l i=some (m,n,js,[]))
  (h:WC (dt T) c' ((ok,.bool false)::(nx,.undef)::restrict live e) J λx e1 J1=>x ≠ .normal/\Nz T live it l i nx ok b c rest' r .mk .mk x e1 J1):
  dt T (.iC live it nx ok b c rest e J)=some r:=by
 subst hcc hrr;refine gZ ?_;simp only[dH,hit,hd];obtain⟨x,e1,J1,h1,hx,h2⟩:=h;rw[h1];exact OF hx h2
def agO:Exit->Option (Option D)
 |.normal=>some none
 |.ret=>some none
 |.fw d=>some (some d)
 |.exit _=>none
@[simp] theorem ajW:agO .ret=some none:=aJ rfl
@[simp] theorem ajX{d:D}:agO (.fw d)=some (some d):=aJ rfl
noncomputable def xo(T:DB)(fv:D)(args:List D)(th:Option D)(J:SK):Option SK :=
 match pU (dt T) fv args th J with
 |some (.val _ J')=>some J'
 |_=>none
theorem vw{f:Nat}{first cap args:List D}{th:Option D}{J J':SK}{d:D}(h:dt T (.Ag f (first++args++cap) th J)=some (.val d J')):xo T (.fn f first cap) args th J=some J':=by
 simp only[xo,pU,h]
def Qm(T:DB)(fv:D)(args:List D)(J:SK)(res:List G5)(d:D)(x:Exit)(e:Env)(J1:SK):Prop :=
 WD (agO x) λth=>WD (xo T fv args th J1) λJ2=>∃ds,Cy e J2 res=some ds/\∃s,cH (J.length-1) deep (uK ds) J2=(d,s::J)
def toD(T:DB)(f:bS)(args:List bS)(q:bV)(J:SK)(res:List G5)(d:D)(x:Exit)(e:Env)(J1:SK)(_m:Mark q:=.mk):Prop :=
 x=.normal/\WC (dt T) q e J1 (Qm T (bC e f) (args.map (bC e)) J res d)
theorem Qg{f:Nat}{fn:Fn}{args:List D}{J:SK}{d:D}{np:Nat}{res:List G5}{body A q:bV}{fo:bS}{as:List bS}(hT:T f=some fn)(hf:fn=⟨np,res,body⟩)(hl:args.length=np)(hs:iJ body=some (A,fo,as,q))
  (h:WC (dt T) A (lR 0 args) ([]::J) (toD T fo as q J res d)):
  dt T (.call false f args J)=some (.val d J):=by
 subst hf;obtain⟨x,e1,J1,h1,rfl,x2,e2,J2,h2,th,h3,J3,h4,ds,h5,s,h6⟩:=h;refine gZ ?_;have hn:bq (dt T) body (lR 0 args) ([]::J)=none:=AT hs h1;simp only[dH,hT,if_pos hl,aD,if_false,hn,hs,BY,h1,h2];have h4':∃dv,pU (dt T) (bC e1 fo) (as.map (bC e1)) th J2=some (.val dv J3):=by
  unfold xo at h4;split at h4
  .rename_i h7;cases h4;exact⟨_,h7⟩
  .cases h4
 obtain⟨dv,h4'⟩:=h4';cases x2 with
 |exit i=>cases h3
 |normal=>cases h3;simp only[BZ,h4',vx,leave,h5,h6]
 |ret=>cases h3;simp only[BZ,h4',vx,leave,h5,h6]
 |fw d=>cases h3;simp only[BZ,h4',vx,leave,h5,h6]
def afl(J':SK)(res:List G5)(x:Exit)(e:Env)(J1:SK):Prop :=
 (∀i,x ≠ .exit i)/\(∀d,x ≠ .fw d)/\Cy e J1 res=some []/\∃s,J1=s::J'
@[simp,simp ↓] theorem adn{J' J1:SK}{res:List G5}:afl J' res .normal e J1=(Cy e J1 res=some []/\∃s,J1=s::J'):=by simp[afl]
theorem D8{f:Nat}{fn:Fn}{args:List D}{th:Option D}{J J':SK}{np:Nat}{res:List G5}{body q:bV}{e0:Env}(hT:T f=some fn)(hf:fn=⟨np,res,body⟩)(hl:args.length=np)(hr:sf th args body=some (e0,q))
  (h:WC (dt T) q e0 ([]::J) (afl J' res)):dt T (.Ag f args th J)=some (.val (.cQ []) J'):=by
 subst hf;obtain⟨x,e1,J1,h1,h2,h2',h3,s,rfl⟩:=h;refine gZ ?_;simp only[dH,hT,if_pos hl,hr,h1];cases x with
 |exit i=>exact absurd rfl (h2 i)
 |fw d=>exact absurd rfl (h2' d)
 |normal=>simp[h3]
 |ret=>simp[h3]
end code
@[simp] theorem aiL{k t:Nat}{v:D}{r:Env}:get ((k,v)::r) t=if k=t then v else get r t:=aJ rfl
@[simp] theorem ajb{t:Nat}{v:D}{e:Env}:put (some t) v e=(t,v)::e:=aJ rfl
@[simp] theorem aja{v:D}{e:Env}:put none v e=e:=aJ rfl
@[simp] theorem aiZ{e:Env}{n:Nat}:bC e (.t n)=(get e n).strip:=aJ rfl
@[simp] theorem ami{e:Env}{d:D}:bC e (.c d)=d:=aJ rfl
@[simp] theorem acx{e:Env}:restrict [] e=[]:=aJ rfl
@[simp] theorem aan{t:Nat}{l:List Nat}{e:Env}:restrict (t::l) e=(t,(get e t).calm)::restrict l e:=aJ rfl
@[simp] theorem ahg{n:Nat}:lR n []=[]:=aJ rfl
@[simp] theorem afx{n:Nat}{d:D}{ds:List D}:lR n (d::ds)=(n,d)::lR (n+1) ds:=aJ rfl
section
variable {e:Env} {J:SK}
@[simp] theorem ajh:Cy e J []=some []:=aJ rfl
@[simp] theorem ahD{r:G5}{rs:List G5}:Cy e J (r::rs)=(LR e J r).bind λd=>(Cy e J rs).map λds=>d::ds:=aJ rfl
@[simp] theorem alT{n:Nat}:LR e J (.t n)=some (get e n).strip:=aJ rfl
@[simp] theorem alS{n sz:Nat}{ag:Bool}:LR e J (.c n ag sz)=RN ag sz (IZ J (get e n).strip):=by
 simp only[LR,bX,aiZ];cases IZ J (get e n).strip with
 |none=>rfl
 |some cs =>
  simp only[RN];split
  .cases ag
   .cases cs<;>rfl
   .rfl
  .rfl
@[simp] theorem alU{n sz:Nat}{ag:Bool}:LR e J (.v n ag sz)=Y8 e n ag sz n:=by
 simp only[LR,bX,Y8];cases rK e n n with
 |none=>rfl
 |some x =>
  obtain⟨s,cs,off⟩:=x;simp only[RN,bf];split
  .cases ag
   .cases cs.drop off<;>rfl
   .rfl
  .rfl
@[simp] theorem ahi{d:D}:uK [d]=d:=aJ rfl
@[simp] theorem ahh:uK []=.cQ []:=aJ rfl
@[simp] theorem ahj{d d':D}{ds:List D}:uK (d::d'::ds)=.cQ (d::d'::ds):=aJ rfl
@[simp] theorem ag3{cs:List D}:iY e [] cs=some cs:=aJ rfl
@[simp] theorem afo{off sz:Nat}{x:bS}{r:List (Nat×Nat×bS)}{cs:List D}:iY e ((off,sz,x)::r) cs =
  ((bC e x).cells.bind λp=>if p.length=sz/\off+sz<=cs.length then some (cs.take off++p++cs.drop (off+sz))else none).bind (iY e r):=by
 simp only[iY];cases(bC e x).cells with
 |none=>rfl
 |some p=>dsimp only [Option.bind_some];split<;>rfl
@[simp] theorem afi{w:Nat}:elems J w .bu=some (0,[]):=aJ rfl
@[simp] theorem agY{w:Nat}{s:List UInt8}:elems J w (.str s)=if w=1 then some (s.length,strCells s)else none:=aJ rfl
@[simp] theorem agX{w n:Nat}{cs:List D}:elems J w (.bZ n cs)=if cs.length=n*w then some (n,cs)else none:=aJ rfl
end
attribute [simp] bX Ob kB fR rK uR agM Y8 CC bounds D.row cells? ec eT bj ie
@[simp] theorem adO{b:Bool}:D.clean (.bool b)=true:=by rw[D.clean]
@[simp] theorem af6{k:IntKind}{n:Int}:D.clean (.int k n)=true:=by rw[D.clean]
@[simp] theorem af8{s:List UInt8}:D.clean (.str s)=true:=by rw[D.clean]
@[simp] theorem adR:D.clean .bu=true:=by rw[D.clean]
@[simp] theorem af5{t:Nat}{d:D}:D.clean (.uJ t d)=D.clean d:=by rw[D.clean]
@[simp] theorem adQ:D.clean .ri=true:=by rw[D.clean]
@[simp] theorem ahB{l i v o n w:Nat}:D.clean (.sl l i v o n w)=false:=by rw[D.clean]
@[simp] theorem af4{cs:List D}:D.clean (.agg cs)=D.aW cs:=by rw[D.clean]
@[simp] theorem af9{cs:List D}:D.clean (.cQ cs)=D.aW cs:=by rw[D.clean]
@[simp] theorem adP{cs:List D}:D.clean (.aZ cs)=D.aW cs:=by rw[D.clean]
@[simp] theorem af7{n:Nat}{cs:List D}:D.clean (.bZ n cs)=D.aW cs:=by rw[D.clean]
@[simp] theorem ahA{f:Nat}{a b:List D}:D.clean (.fn f a b)=(D.aW a && D.aW b):=by rw[D.clean]
@[simp] theorem afd:D.aW []=true:=by rw[D.aW]
@[simp] theorem adk{d:D}{ds:List D}:D.aW (d::ds)=(D.clean d && D.aW ds):=by rw[D.aW]
@[simp] theorem YD:deep=16:=aJ rfl
@[simp] theorem de{l n:Nat}{d:D}{J:SK}(h:d.clean=true)(hn:0<n):cH l n d J=(d,J):=by
 obtain⟨m,rfl⟩:∃m,n=m+1:=⟨n-1,by omega⟩;unfold cH;simp[h]
@[simp] theorem Lq{l n:Nat}{ds:List D}{J:SK}(h:D.aW ds=true)(hn:0<n):cH.frzL (cH l n) ds J=(ds,J):=by
 induction ds generalizing J with
 |nil=>rfl
 |cons d ds ih =>
  simp only[D.aW,ah]at h;simp[cH.frzL,h.1,ih h.2,hn]
@[simp] theorem gj{f:D->SK->D×SK}{J:SK}:cH.frzL f [] J=([],J):=aJ rfl
@[simp] theorem ff{f:D->SK->D×SK}{d:D}{ds:List D}{J:SK}:cH.frzL f (d::ds) J=((f d J).1::(cH.frzL f ds (f d J).2).1,(cH.frzL f ds (f d J).2).2):=aJ rfl
theorem pG{l n:Nat}{ds:List D}{J:SK}(h:D.aW ds=false)(hn:0<n):cH l n (.cQ ds) J=(.cQ (cH.frzL (cH l (n-1)) ds J).1,(cH.frzL (cH l (n-1)) ds J).2):=by
 obtain⟨m,rfl⟩:∃m,n=m+1:=⟨n-1,by omega⟩
 conv=>lhs;unfold cH
 simp[D.clean,h]
theorem vW{l n:Nat}{ds:List D}{J:SK}(h:D.aW ds=false)(hn:0<n):cH l n (.agg ds) J=(.agg (cH.frzL (cH l (n-1)) ds J).1,(cH.frzL (cH l (n-1)) ds J).2):=by
 obtain⟨m,rfl⟩:∃m,n=m+1:=⟨n-1,by omega⟩
 conv=>lhs;unfold cH
 simp[D.clean,h]
theorem GP{l n l' i v off m w:Nat}{J:SK}{cs:List D}(h:¬l'<=l)(hc:cells? J l' i v=some cs)(hn:0<n):
  cH l n (.sl l' i v off m w) J=(.bZ m (cH.frzL (cH l (n-1)) ((cs.drop off).take (m*w)) (bj J l' i .dead)).1,(cH.frzL (cH l (n-1)) ((cs.drop off).take (m*w)) (bj J l' i .dead)).2):=by
 obtain⟨m,rfl⟩:∃m,n=m+1:=⟨n-1,by omega⟩
 conv=>lhs;unfold cH
 simp only[D.clean,h,hc,aD,if_false,Nat.add_sub_cancel]
@[simp] theorem afs{l n l' i v off m w:Nat}{J:SK}(h:l'<=l)(hn:0<n):cH l n (.sl l' i v off m w) J=(.sl l' i v off m w,J):=by
 obtain⟨m,rfl⟩:∃m,n=m+1:=⟨n-1,by omega⟩
 conv=>lhs;unfold cH
 simp only[D.clean,h,if_true,aD,if_false]
@[simp] theorem ads{l n l' i v off:Nat}{J:SK}(h:l'<=l)(hn:0<n):cH l n (.ref l' i v off) J=(.ref l' i v off,J):=by
 obtain⟨m,rfl⟩:∃m,n=m+1:=⟨n-1,by omega⟩
 conv=>lhs;unfold cH
 simp only[D.clean,h,if_true,aD,if_false]
@[simp] theorem alI{n:Nat}:(n+1+1=n)=False:=by simp;omega
@[simp] theorem alJ{n:Nat}:(n+1+1+1=n)=False:=by simp;omega
@[simp] theorem alK{n:Nat}:(n+1+1+1+1=n)=False:=by simp;omega
@[simp] theorem alL{n:Nat}:(n+1+1+1+1+1=n)=False:=by simp;omega
theorem FN{a b:List D}:D.aW (a++b)=(D.aW a && D.aW b):=by
 induction a with
 |nil=>rfl
 |cons d a ih=>simp[D.aW,ih,Bool.and_assoc]
end Go.Abs
