import Derived.Test.YtpapbbojmclkgaaGreatDoorBase12
import Derived.Lib.LaidTab
import Derived.LaidLaws
import Derived.Shelf.Vars
set_option linter.all false
namespace Go.Abs
open Go
theorem Tf{P:Program}{w:World}:∀{l:List (String×DataW Unit)} {ps:List MemPlace},DataW.LaidVars P w l ps->∀x∈l,
  ∃g t cs fuel p,P.globalNamed x.1=some g/\(P.globals[g]?).map (·.type)=some t/\w.var? P x.1=some cs/\DataW.trod (λ_=>()) P w 0 (λ_=>true) false fuel t cs.toList=some (x.2,p) /\
   ∀m∈MemPlace.row ⟨g,0,none⟩ cs.size,m∈ps
 |[],_,_,x,hx=>by cases hx
 |(n,d)::r,ps,h,x,hx=>by
  obtain⟨g,t,cs,fuel,p,q,h1,h2,h3,h4,h5,rfl⟩:=h;rcases bx.1 hx with rfl | hx
  .exact⟨g,t,cs,fuel,p,h1,h2,h3,h4,λm hm=>by simp[hm]⟩
  .obtain⟨g',t',cs',f',p',k1,k2,k3,k4,k5⟩:=Tf h5 x hx;exact⟨g',t',cs',f',p',k1,k2,k3,k4,λm hm=>by simp[k5 m hm]⟩
theorem Mu{P:Program}{w:World}{l:List (String×DataW Unit)}(hl:laidMet P l w){n:String}{d:DataW Unit}(hx:(n,d)∈l){b t:Nat}(hb:P.globalNamed n=some b)(ht:(P.globals[b]?).map (·.type)=some t):
  ∃cs fuel p,DataW.trod (λ_=>()) P w 0 (λ_=>true) false fuel t cs.toList=some (d,p)/\(0<cs.size->∃t',w.heap[b]?=some (.cells cs t' (0,0))):=by
 obtain⟨ps,h1,_,h2⟩:=hl;obtain⟨g,t',cs,fuel,p,k1,k2,k3,k4,k5⟩:=Tf h1 _ hx;obtain rfl:=Option.some.inj (hb.symm.trans k1);obtain rfl:=Option.some.inj (ht.symm.trans k2);refine⟨cs,fuel,p,k4,λhpos=>?_⟩;obtain⟨⟨c,t',hc⟩,_⟩:=h2 b 0 (k5 _ (by simp only[MemPlace.row,bI,List.mem_range];exact⟨0,hpos,by simp⟩));simp only[World.var?,hb,Option.bind_some,hc,ae]at k3;subst k3;exact⟨t',hc⟩
theorem Tb{P:Program}{w:World}{l:List (String×DataW Unit)}(hl:laidMet P l w){n nm:String}{d:DataW Unit}(hx:(n,.iface nm d)∈l){b t:Nat}{ms:Array (String×TypeId)}(hb:P.globalNamed n=some b)
  (ht:(P.globals[b]?).map (·.type)=some t) (hu:P.underlying t=some (.interface ms)):∃c t v,w.heap[b]?=some (.cells c t (0,0))/\c[0]?=some v/\v.oneCell'=true/\ZO (.cells c t (0,0)):=by
 obtain⟨cs,fuel,p,h1,h2⟩:=Mu hl hx hb ht;obtain⟨f1,u,v,hcs,_⟩:=iface_of_trod hu h1;obtain rfl:cs = #[.iface u v]:=by rw[<- fT,hcs]
 obtain⟨t',hc⟩:=h2 (by simp);exact⟨_,t',.iface u v,hc,by simp,rfl,_,t',_,.iface u v,rfl,by simp,.inr ⟨u,v,rfl⟩⟩
theorem aad{P:Program}{w:World}{l:List (String×DataW Unit)}(hl:laidMet P l w){n:String}(hx:(n,Lib.tabData .u64 Lib.pow10Tab)∈l){b t e k:Nat}(hb:P.globalNamed n=some b)
  (ht:(P.globals[b]?).map (·.type)=some t) (hu:P.underlying t=some (.array k e)) (he:P.underlying e=some (.int .u64)) (hce:P.cellsOf e=1) (hct:P.cellsOf t=k):
  ∃c t v,w.heap[b]?=some (.cells c t (0,0))/\c[0]?=some v/\v.oneCell'=true/\adh (.cells c t (0,0)):=by
 obtain⟨cs,fuel,p,h1,h2⟩:=Mu hl hx hb ht;have hcs:=Lib.cells_of_tab hu he hce hct h1;obtain rfl:cs=(Lib.pow10Tab.map (Value.int .u64)).toArray:=by rw[<- fT,hcs]
 obtain⟨t',hc⟩:=h2 (by decide);exact⟨_,t',.int .u64 1,hc,rfl,rfl,t',_,rfl⟩
theorem aac{P:Program}{w:World}(h:w.ShapedOpen P){g t:Nat}{zero:Array Value}(hg:g<P.globals.size)(h0:((begin P (λ_ _=>0) default).world.heap[g]?).bind Obj.row?=some (zero,t))(hz:zero.size=1)
  (hb:P.buildable t=true) (hc:P.cellTypes P.depth t=some [t]) (hu:P.underlying t=some (.int .i64)):∃c t v,w.heap[g]?=some (.cells c t (0,0))/\c[0]?=some v/\v.oneCell'=true/\adg (.cells c t (0,0)):=by
 obtain⟨m,hm⟩:=Go.Proofs.cell_of_shapedOpen_int h hg h0 hz hb hc hu;obtain⟨cs,hh,_⟩:=h.1 g zero t hg h0;have h1:cs[0]?=some (.int .i64 m):=by simpa[World.cell?,hh]using hm
 exact⟨cs,t,_,hh,h1,rfl,cs,t,_,m,rfl,h1⟩
variable {T:CT} {O:cf}
theorem aK.{u}{α:Sort u}{a b:α}(h:a=b):a=b:=h
inductive Mark.{u} {α:Sort u} (a:α):Type
 |mk
def WO(O:cf)(ops:List Op)(e:Env)(J:SK)(Q:Env->SK->Prop)(_m:Mark Q:=.mk):Prop:=∃e' J',lq O ops e J=some (e',J')/\Q e' J'
def WC(O:cf)(c:b9)(e:Env)(J:SK)(Q:Exit->Env->SK->Prop)(_m:Mark c:=.mk)(_m':Mark Q:=.mk):Prop:=∃x e' J',bq O c e J=some (x,e',J')/\Q x e' J'
def WV(o:Option (D×SK))(Q:D->SK->Prop)(_m:Mark Q:=.mk):Prop:=∃d J',o=some (d,J')/\Q d J'
def WL(T:CT)(live:List Nat)(bF:Bool)(c:b9)(e:Env)(J:SK)(Q:Exit->Env->SK->Prop)(_m:Mark c:=.mk)(_m':Mark Q:=.mk):Prop:=∃x e' J',dp T (.loop live bF c e J)=some (.E5 x e' J')/\Q x e' J'
theorem WO.mono{ops:List Op}{e:Env}{J:SK}{Q Q':Env->SK->Prop}(h:WO O ops e J Q)(hq:∀e J,Q e J->Q' e J):WO O ops e J Q' :=
 let ⟨e',J',h1,h2⟩:=h;⟨e',J',h1,hq _ _ h2⟩
theorem WC.mono{c:b9}{e:Env}{J:SK}{Q Q':Exit->Env->SK->Prop}(h:WC O c e J Q)(hq:∀x e J,Q x e J->Q' x e J):WC O c e J Q' :=
 let ⟨x,e',J',h1,h2⟩:=h;⟨x,e',J',h1,hq _ _ _ h2⟩
theorem WL.mono{live:List Nat}{bF:Bool}{c:b9}{e:Env}{J:SK}{Q Q':Exit->Env->SK->Prop}(h:WL T live bF c e J Q)(hq:∀x e J,Q x e J->Q' x e J):WL T live bF c e J Q' :=
 let ⟨x,e',J',h1,h2⟩:=h;⟨x,e',J',h1,hq _ _ _ h2⟩
def WD{α:Type}(o:Option α)(Q:α->Prop)(_m:Mark Q:=.mk):Prop:=∃d,o=some d/\Q d
@[simp,simp ↓] theorem Jf{α:Type}{d:α}{Q:α->Prop}:WD (some d) Q=Q d:=by
 simp only[WD,ae,eq_iff_iff];exact⟨λ⟨_,h,h'⟩=>by rw[h];exact h',λh=>⟨_,rfl,h⟩⟩
@[simp,simp ↓] theorem ZS{α:Type}{Q:α->Prop}:WD none Q=False:=by simp[WD]
def Pa:D->Option Bool
 |.bool b=>some b
 |_=>none
@[simp] theorem ads{b:Bool}:Pa (.bool b)=some b:=aK rfl
@[simp] theorem agB{b:Bool}:(D.bool b).bit=some (some b):=aK rfl
@[simp] theorem aiD:(D.cN []).bit=some none:=aK rfl
def adD(k:IntKind):D->Option D
 |.int _ m=>some (.int k (k.wrap m))
 |_=>none
@[simp] theorem agI{k k':IntKind}{m:Int}:adD k (.int k' m)=some (.int k (k.wrap m)):=aK rfl
@[simp,simp ↓] theorem aiC{d:D}{J:SK}{Q:D->SK->Prop}:WV (some (d,J)) Q=Q d J:=by
 simp only[WV,ae,ar,eq_iff_iff];constructor
 .rintro⟨_,_,⟨rfl,rfl⟩,h⟩;exact h
 .exact λh=>⟨_,_,⟨rfl,rfl⟩,h⟩
@[simp,simp ↓] theorem aiB{Q:D->SK->Prop}:WV none Q=False:=by simp[WV]
@[simp,simp ↓] theorem ajG{e:Env}{J:SK}{Q:Env->SK->Prop}:WO O [] e J Q=Q e J:=by
 simp only[WO,lq,ae,ar,eq_iff_iff];constructor
 .rintro⟨_,_,⟨rfl,rfl⟩,h⟩;exact h
 .exact λh=>⟨_,_,⟨rfl,rfl⟩,h⟩
def aks(d:D)(w:Bool):Option Bool :=
 match d with
 |.bool b=>some (b == w)
 |_=>none
@[simp,simp ↓] theorem ajw{d:Option Nat}{g:Nat}{w n:Bool}{k:K}{r:List Op}{e:Env}{J:SK}{Q:Env->SK->Prop}:
  WO O (⟨d,some (g,w),n,k⟩::r) e J Q=WD (get e g).bit λb=>if b=some w then WO O (⟨d,none,n,k⟩::r) e J Q else WO O r (put d (.cN []) e) J Q:=by
 cases h:(get e g).bit<;>simp only[WO,lq,h,reduceCtorEq,false_and,exists_false,ZS,Jf];rename_i b;by_cases hb:b=some w
 .simp only[hb,if_true];rfl
 .simp only[if_neg hb]
theorem dM{d:Option Nat}{n:Bool}{k:K}{r:List Op}{e:Env}{J:SK}{Q:Env->SK->Prop}(h:wI O ⟨d,none,n,k⟩ e J=(bS e J k).map λx=>(put d x.1 e,x.2)):
  WO O (⟨d,none,n,k⟩::r) e J Q=WV (bS e J k) λv J'=>WO O r (put d v e) J' Q:=by
 simp only[WO,lq,h,WV,eq_iff_iff];constructor
 .rintro⟨e',J',h1,h2⟩;cases hs:bS e J k with
  |none=>simp[hs]at h1
  |some y=>simp[hs]at h1;exact⟨y.1,y.2,rfl,e',J',h1,h2⟩
 .rintro⟨v,J1,h1,e',J',h2,h3⟩;exact⟨e',J',by simp[h1,h2],h3⟩
theorem lQ{o:Option (D×SK)}{o':Option D}{J:SK}{Q:D->SK->Prop}(h:o=o'.map (·,J)):WV o Q=WD o' λv=>Q v J:=by
 subst h;cases o'<;>simp
def UK:D->Option D
 |.bA=>some (.int .i64 0)
 |.bV n _=>some (.int .i64 n)
 |.sl _ _ _ _ n _=>some (.int .i64 n)
 |_=>none
@[simp] theorem afD:UK .bA=some (.int .i64 0):=aK rfl
@[simp] theorem ahb{n:Nat}{cs:List D}:UK (.bV n cs)=some (.int .i64 n):=aK rfl
@[simp] theorem aiO{l i v o n w:Nat}:UK (.sl l i v o n w)=some (.int .i64 n):=aK rfl
def QH(ag:Bool)(sz:Nat):Option (List D)->Option D
 |some cs =>
  if sz<=cs.length then
   if ag then some (.agg (cs.take sz))else
   match cs with
   |d::_=>some d
   |[]=>none
  else none
 |none=>none
@[simp] theorem ajW{sz:Nat}{cs:List D}:QH true sz (some cs)=if sz<=cs.length then some (.agg (cs.take sz))else none:=aK rfl
@[simp] theorem aiM{d:D}{cs:List D}:QH false 1 (some (d::cs))=some d:=by simp[QH]
@[simp] theorem ahv{J:SK}{cs:List D}:H3 J (.bg cs)=some cs:=aK rfl
@[simp] theorem aiU{J:SK}{l i v off:Nat}:H3 J (.ref l i v off)=(cells? J l i v).map (·.drop off):=aK rfl
def XC(e:Env)(v:Nat)(ag:Bool)(sz a:Nat):Option D:=QH ag sz ((qU e v a).map λx=>x.2.1.drop x.2.2)
def W5:D->Option (List D)
 |.bg cs=>some cs
 |_=>none
@[simp] theorem adB{cs:List D}:W5 (.bg cs)=some cs:=aK rfl
@[simp] theorem afA:Lt false .bA=some true:=aK rfl
@[simp] theorem ag7{n:Nat}{cs:List D}:Lt false (.bV n cs)=if n=0 then none else some false:=aK rfl
def ahd:D->Option D
 |.bg cs=>some (.bg cs)
 |.ref l i v off=>some (.ref l i v off)
 |_=>none
@[simp] theorem ahe{l i v off:Nat}:ahd (.ref l i v off)=some (.ref l i v off):=aK rfl
def unD:UnOp->D->Option D
 |.not,.bool b=>some (.bool !b)
 |.neg,.int k n=>some (.int k (k.wrap (0-n)))
 |.xor,.int k n=>some (.int k (k.wrap ((BitVec.ofInt k.bits (if k.signed then -1 else k.max) ^^^ BitVec.ofInt k.bits n).toNat:Int)))
 |_,_=>none
theorem QB{n:Nat}(h:n<256):unD .xor (.int .u8 n)=some (.int .u8 ((255-n:Nat):Int)):=by
 have key:∀m:Fin 256,IntKind.u8.wrap ((BitVec.ofInt 8 255 ^^^ BitVec.ofInt 8 (m.1:Int)).toNat:Int)=((255-m.1:Nat):Int):=by decide +kernel
 have:=key ⟨n,h⟩;simp only[unD];exact congrArg (λz=>some (D.int .u8 z)) this
@[simp] theorem ai4{b:Bool}:unD .not (.bool b)=some (.bool !b):=aK rfl
@[simp] theorem ai3{k:IntKind}{n:Int}:unD .neg (.int k n)=some (.int k (k.wrap (0-n))):=aK rfl
def Pl(n off:Nat):D->Option D
 |.bg cs=>some (.bg (cs.drop off))
 |.ref l i v o=>some (.ref l i v (o+off))
 |.own s _=>some (.vr n s off)
 |.vr v s o=>some (.vr v s (o+off))
 |_=>none
@[simp] theorem adL{n off:Nat}{cs:List D}:Pl n off (.bg cs)=some (.bg (cs.drop off)):=aK rfl
@[simp] theorem afr{n off l i v o:Nat}:Pl n off (.ref l i v o)=some (.ref l i v (o+off)):=aK rfl
@[simp] theorem afq{n off s:Nat}{cs:List D}:Pl n off (.own s cs)=some (.vr n s off):=aK rfl
@[simp] theorem agT{n off v s o:Nat}:Pl n off (.vr v s o)=some (.vr v s (o+off)):=aK rfl
def adN(ag:Bool)(off sz:Nat):D->Option D
 |.agg cs =>
  if off+sz<=cs.length then
   if ag then some (.agg ((cs.drop off).take sz))else cs[off]?
  else none
 |_=>none
@[simp] theorem agU{ag:Bool}{off sz:Nat}{cs:List D}:adN ag off sz (.agg cs)=if off+sz<=cs.length then(if ag then some (.agg ((cs.drop off).take sz))else cs[off]?)else none:=aK rfl
def Td(m len w:Nat)(x i:D):Option D :=
 match G2 i with
 |some n =>
  if 0<=n/\n<len then
   match x with
   |.bg cs=>some (.bg ((cs.drop (n.toNat*w)).take w))
   |.ref l j v off=>some (.ref l j v (off+n.toNat*w))
   |.own s _=>some (.vr m s (n.toNat*w))
   |.vr v s o=>some (.vr v s (o+n.toNat*w))
   |_=>none
  else none
 |none=>none
@[simp] theorem adS{m len w:Nat}{cs:List D}{k:IntKind}{n:Int}:Td m len w (.bg cs) (.int k n)=if 0<=n/\n<len then some (.bg ((cs.drop (n.toNat*w)).take w))else none:=aK rfl
@[simp] theorem afw{m len w l j v off:Nat}{k:IntKind}{n:Int}:Td m len w (.ref l j v off) (.int k n)=if 0<=n/\n<len then some (.ref l j v (off+n.toNat*w))else none:=aK rfl
def PJ(w:Nat)(x i:D):Option D :=
 match x,G2 i with
 |.bV m cs,some n=>if 0<=n/\n<m then some (.bg ((cs.drop (n.toNat*w)).take w))else none
 |.sl l j v off m w',some n=>if 0<=n/\n<m/\w'=w then some (.ref l j v (off+n.toNat*w))else none
 |_,_=>none
@[simp] theorem afx{w m:Nat}{cs:List D}{k:IntKind}{n:Int}:PJ w (.bV m cs) (.int k n)=if 0<=n/\n<m then some (.bg ((cs.drop (n.toNat*w)).take w))else none:=aK rfl
@[simp] theorem ag4{w l j v off m w':Nat}{k:IntKind}{n:Int}:PJ w (.sl l j v off m w') (.int k n)=if 0<=n/\n<m/\w'=w then some (.ref l j v (off+n.toNat*w))else none:=aK rfl
def Xp(ag:Bool)(len w:Nat)(x i:D):Option D :=
 match x,G2 i with
 |.agg cs,some n =>
  if 0<=n/\n<len/\(n.toNat+1)*w<=cs.length then
   if ag then some (.agg ((cs.drop (n.toNat*w)).take w))else cs[n.toNat*w]?
  else none
 |_,_=>none
@[simp] theorem afy{ag:Bool}{len w:Nat}{cs:List D}{k:IntKind}{n:Int}:Xp ag len w (.agg cs) (.int k n)=if 0<=n/\n<len/\(n.toNat+1)*w<=cs.length then(if ag then some (.agg ((cs.drop (n.toNat*w)).take w))else cs[n.toNat*w]?)else none:=aK rfl
def mnD(x y:D):Option D :=
 match x,y with
 |.int k a,.int _ b=>some (.int k (min a b))
 |_,_=>none
@[simp] theorem aiP{k k':IntKind}{a b:Int}:mnD (.int k a) (.int k' b)=some (.int k (min a b)):=aK rfl
def mxD(x y:D):Option D :=
 match x,y with
 |.int k a,.int _ b=>some (.int k (max a b))
 |_,_=>none
@[simp] theorem aiQ{k k':IntKind}{a b:Int}:mxD (.int k a) (.int k' b)=some (.int k (max a b)):=aK rfl
def agR(x:D)(i:Nat):Option D :=
 match x with
 |.cN ds=>ds[i]?
 |_=>none
@[simp] theorem agS{ds:List D}{i:Nat}:agR (.cN ds) i=ds[i]?:=aK rfl
def adK(ag:Bool)(ks:List (Option IntKind))(neg:Bool)(x y:D):Option D :=
 match x.row ag,y.row ag with
 |some p,some q=>(Cg ks p q).map λb => .bool (if neg then !b else b)
 |_,_=>none
@[simp] theorem aiG{ks:List (Option IntKind)}{neg:Bool}{p q:List D}:adK true ks neg (.agg p) (.agg q)=(Cg ks p q).map λb => .bool (if neg then !b else b):=aK rfl
@[simp] theorem ahx:Cg [] [] []=some true:=aK rfl
@[simp] theorem ahw{k k1 k2:IntKind}{ks:List (Option IntKind)}{a b:Int}{x y:List D}:Cg (some k::ks) (.int k1 a::x) (.int k2 b::y)=if k1=k/\k2=k then(Cg ks x y).map (a == b && ·)else none:=aK rfl
def aa1(w:Nat)(x:D)(e:Env)(lo hi mx:Option bP):Option D :=
 match x with
 |.bV n cs=>(bounds n e lo hi mx).map λb => .bV (b.2-b.1) ((cs.drop (b.1*w)).take ((b.2-b.1)*w))
 |.sl l i v off n w'=>if w'=w then(bounds n e lo hi mx).map λb => .sl l i v (off+b.1*w) (b.2-b.1) w else none
 |.bA=>(bounds 0 e lo hi mx).map λ_ => .bA
 |_=>none
@[simp] theorem ah8{w n:Nat}{cs:List D}{e:Env}{lo hi mx:Option bP}:aa1 w (.bV n cs) e lo hi mx=(bounds n e lo hi mx).map λb => .bV (b.2-b.1) ((cs.drop (b.1*w)).take ((b.2-b.1)*w)):=aK rfl
@[simp] theorem aiW{w l i v off n w':Nat}{e:Env}{lo hi mx:Option bP}:aa1 w (.sl l i v off n w') e lo hi mx=if w'=w then(bounds n e lo hi mx).map λb => .sl l i v (off+b.1*w) (b.2-b.1) w else none:=aK rfl
section bins
variable {k:IntKind} {a b:Int}
@[simp] theorem agp:u0 .add (.int k a) (.int k b)=some (.int k (k.wrap (a+b))):=by simp[u0]
@[simp] theorem agA:u0 .sub (.int k a) (.int k b)=some (.int k (k.wrap (a-b))):=by simp[u0]
@[simp] theorem agv:u0 .mul (.int k a) (.int k b)=some (.int k (k.wrap (a*b))):=by simp[u0]
@[simp] theorem agx:u0 .quo (.int k a) (.int k b)=if b≠0 then some (.int k (k.wrap (a.tdiv b)))else none:=by simp[u0]
@[simp] theorem agy:u0 .rem (.int k a) (.int k b)=if b≠0 then some (.int k (a.tmod b))else none:=by simp[u0]
@[simp] theorem agz{k':IntKind}:u0 .shr (.int k a) (.int k' b)=if b<0 then none else some (.int k (a.fdiv (2^(min b.toNat k.bits)))):=aK rfl
@[simp] theorem agq:u0 .eql (.int k a) (.int k b)=some (.bool (a == b)):=by simp[u0]
@[simp] theorem agw:u0 .neq (.int k a) (.int k b)=some (.bool (a != b)):=by simp[u0]
@[simp] theorem agu:u0 .lss (.int k a) (.int k b)=some (.bool (decide (a<b))):=by simp[u0]
@[simp] theorem agt:u0 .leq (.int k a) (.int k b)=some (.bool (decide (a<=b))):=by simp[u0]
@[simp] theorem ags:u0 .gtr (.int k a) (.int k b)=some (.bool (decide (b<a))):=by simp[u0]
@[simp] theorem agr:u0 .geq (.int k a) (.int k b)=some (.bool (decide (b<=a))):=by simp[u0]
end bins
@[simp] theorem aaX:D.strip .undef=.undef:=aK rfl
@[simp] theorem acd{b:Bool}:D.strip (.bool b)=.bool b:=aK rfl
@[simp] theorem aeI{k:IntKind}{n:Int}:D.strip (.int k n)=.int k n:=aK rfl
@[simp] theorem aeL{s:List UInt8}:D.strip (.str s)=.str s:=aK rfl
@[simp] theorem aeG{cs:List D}:D.strip (.agg cs)=.agg cs:=aK rfl
@[simp] theorem aeM{cs:List D}:D.strip (.cN cs)=.cN cs:=aK rfl
@[simp] theorem aeK{l i v o:Nat}:D.strip (.ref l i v o)=.ref l i v o:=aK rfl
@[simp] theorem ace{cs:List D}:D.strip (.bg cs)=.bg cs:=aK rfl
@[simp] theorem acg:D.strip .bA=.bA:=aK rfl
@[simp] theorem aeJ{n:Nat}{cs:List D}:D.strip (.bV n cs)=.bV n cs:=aK rfl
@[simp] theorem af1{l i v o n w:Nat}:D.strip (.sl l i v o n w)=.sl l i v o n w:=aK rfl
@[simp] theorem af0{f:Nat}{a b:List D}:D.strip (.fn f a b)=.fn f a b:=aK rfl
@[simp] theorem aeH{t:Nat}{d:D}:D.strip (.uh t d)=.uh t d:=aK rfl
@[simp] theorem acf:D.strip .nJ=.nJ:=aK rfl
@[simp] theorem afO{t:Nat}{d:D}:D.calm (.uh t d)=.uh t d:=aK rfl
@[simp] theorem aem:D.calm .nJ=.nJ:=aK rfl
@[simp] theorem aeN{l i:Nat}:D.strip (.jS l i)=.jS l i:=aK rfl
@[simp] theorem ab5:D.calm .undef=.undef:=aK rfl
@[simp] theorem aek{b:Bool}:D.calm (.bool b)=.bool b:=aK rfl
@[simp] theorem afP{k:IntKind}{n:Int}:D.calm (.int k n)=.int k n:=aK rfl
@[simp] theorem afT{s:List UInt8}:D.calm (.str s)=.str s:=aK rfl
@[simp] theorem afN{cs:List D}:D.calm (.agg cs)=.agg cs:=aK rfl
@[simp] theorem afS{l i v o:Nat}:D.calm (.ref l i v o)=.ref l i v o:=aK rfl
@[simp] theorem ael{cs:List D}:D.calm (.bg cs)=.bg cs:=aK rfl
@[simp] theorem aen:D.calm .bA=.bA:=aK rfl
@[simp] theorem afQ{n:Nat}{cs:List D}:D.calm (.bV n cs)=.bV n cs:=aK rfl
@[simp] theorem ahu{l i v o n w:Nat}:D.calm (.sl l i v o n w)=.sl l i v o n w:=aK rfl
@[simp] theorem aht{f:Nat}{a b:List D}:D.calm (.fn f a b)=.fn f a b:=aK rfl
@[simp] theorem afU{l i:Nat}:D.calm (.jS l i)=.jS l i:=aK rfl
@[simp] theorem afR{s:Nat}{cs:List D}:D.calm (.own s cs)=.own 0 cs:=aK rfl
@[simp] theorem ab6{b:Bool}:D.cells (.bool b)=some [.bool b]:=aK rfl
@[simp] theorem aep{k:IntKind}{n:Int}:D.cells (.int k n)=some [.int k n]:=aK rfl
@[simp] theorem aes{s:List UInt8}:D.cells (.str s)=some [.str s]:=aK rfl
@[simp] theorem aeo{cs:List D}:D.cells (.agg cs)=some cs:=aK rfl
@[simp] theorem aer{l i v o:Nat}:D.cells (.ref l i v o)=some [.ref l i v o]:=aK rfl
@[simp] theorem ab7:D.cells .bA=some [.bA]:=aK rfl
@[simp] theorem aeq{n:Nat}{cs:List D}:D.cells (.bV n cs)=some [.bV n cs]:=aK rfl
@[simp] theorem afW{l i v o n w:Nat}:D.cells (.sl l i v o n w)=some [.sl l i v o n w]:=aK rfl
@[simp] theorem afV{f:Nat}{a b:List D}:D.cells (.fn f a b)=some [.fn f a b]:=aK rfl
@[simp] theorem aet{l i:Nat}:D.cells (.jS l i)=some [.jS l i]:=aK rfl
@[simp] theorem ag5{k:IntKind}{n:Int}:G2 (.int k n)=some n:=aK rfl
@[simp] theorem pf{O:cf}{kp:Bool}{f:Nat}{first cap args:List D}{J:SK}:og O kp (.fn f first cap) args J=R.du (O (.call kp f (first++args++cap) J)):=aK rfl
@[simp] theorem afm{O:cf}{kp:Bool}{l i:Nat}{args:List D}{J:SK}:og O kp (.jS l i) args J=R.du (O (.round l i args J)):=aK rfl
@[simp] theorem aii{d:D}{J:SK}:R.du (some (.val d J))=some (d,J):=aK rfl
section ops
variable {d:Option Nat} {n:Bool} {r:List Op} {e:Env} {J:SK} {Q:Env->SK->Prop}
@[simp,simp ↓] theorem akn{x:bP}:WO O (⟨d,none,n,.mv x⟩::r) e J Q=WO O r (put d (bB e x) e) J Q:=by rw[dM rfl];simp[bS]
@[simp,simp ↓] theorem aiz{w:Nat}:WO O (⟨d,none,n,.KG w⟩::r) e J Q=WV (bS e J (.KG w)) λv J'=>WO O r (put d v e) J' Q:=dM rfl
@[simp,simp ↓] theorem ajj{nb:List (Nat×Nat)}{cs:List D}:WO O (⟨d,none,n,.Ul nb cs⟩::r) e J Q=WV (bS e J (.Ul nb cs)) λv J'=>WO O r (put d v e) J' Q:=dM rfl
@[simp,simp ↓] theorem aiA{c a b:bP}:WO O (⟨d,none,n,.pick c a b⟩::r) e J Q=WD (Pa (bB e c)) λt=>WO O r (put d (if t then bB e a else bB e b) e) J Q:=by
 rw[dM rfl];simp only[bS];cases bB e c<;>simp[Pa]
@[simp,simp ↓] theorem aiq{x:bP}:WO O (⟨d,none,n,.Lk x⟩::r) e J Q=WD (bB e x).cells λcs=>WO O r (put d (.bg cs) e) J Q:=by
 rw[dM rfl];simp only[bS];cases(bB e x).cells<;>simp
@[simp,simp ↓] theorem air{x:bP}:WO O (⟨d,none,n,.Ll x⟩::r) e J Q=WV (bS e J (.Ll x)) λv J'=>WO O r (put d v e) J' Q:=dM rfl
@[simp,simp ↓] theorem ajq{nb:List (Nat×Nat)}{x:bP}:WO O (⟨d,none,n,.YP nb x⟩::r) e J Q=WV (bS e J (.YP nb x)) λv J'=>WO O r (put d v e) J' Q:=dM rfl
@[simp,simp ↓] theorem ajn{z:List D}{ps:List (Nat×Nat×bP)}:WO O (⟨d,none,n,.Lj z ps⟩::r) e J Q=WD (iP e ps z) λcs=>WO O r (put d (.agg cs) e) J Q:=by
 rw[dM rfl];simp only[bS];cases iP e ps z<;>simp
@[simp,simp ↓] theorem ajo{m w:Nat}{z:List D}{ps:List (Nat×Nat×bP)}:WO O (⟨d,none,n,.YO m w z ps⟩::r) e J Q=WD (iP e ps z) λcs=>WO O r (put d (.bV m cs) e) J Q:=by
 rw[dM rfl];simp only[bS];cases iP e ps z<;>simp
@[simp,simp ↓] theorem ajp{m w:Nat}{z:List D}{ps:List (Nat×Nat×bP)}:WO O (⟨d,none,n,.WX m w z ps⟩::r) e J Q=WV (bS e J (.WX m w z ps)) λv J'=>WO O r (put d v e) J' Q:=dM rfl
@[simp,simp ↓] theorem akj{ag:Bool}{sz:Nat}{a:bP}:WO O (⟨d,none,n,.ld ag sz a⟩::r) e J Q=WD (QH ag sz (H3 J (bB e a))) λv=>WO O r (put d v e) J Q:=by
 rw[dM rfl];refine lQ ?_;simp only[bS];cases H3 J (bB e a)with
 |none=>rfl
 |some cs =>
  simp only[QH];split
  .cases ag
   .cases cs<;>rfl
   .rfl
  .rfl
theorem aaN{J:SK}{l i off:Nat}:Vn J (.ref l i 0 off)=H3 J (.ref l i 0 off):=rfl
@[simp,simp ↓] theorem ajz{ag:Bool}{sz:Nat}{a:bP}:WO O (⟨d,none,n,.Vk ag sz a⟩::r) e J Q=WD (QH ag sz (Vn J (bB e a))) λv=>WO O r (put d v e) J Q:=by
 rw[dM rfl];refine lQ ?_;simp only[bS];cases Vn J (bB e a)with
 |none=>rfl
 |some cs =>
  simp only[QH];split
  .cases ag
   .cases cs<;>rfl
   .rfl
  .rfl
@[simp,simp ↓] theorem ajA{ag:Bool}{sz:Nat}{a:bP}:WO O (⟨d,none,n,.Vl ag sz a⟩::r) e J Q=WD (QH ag sz (W5 (bB e a))) λv=>WO O r (put d v e) J Q:=by
 rw[dM rfl];refine lQ ?_;simp only[bS];cases bB e a with
 |bg cs =>
  simp only[W5,QH];split
  .cases ag
   .cases cs<;>rfl
   .rfl
  .rfl
 |_=>rfl
@[simp,simp ↓] theorem ajy{ps neg:Bool}{x:bP}:WO O (⟨d,none,n,.isn ps neg x⟩::r) e J Q=WD (Lt ps (bB e x)) λb=>WO O r (put d (.bool (if neg then !b else b)) e) J Q:=by
 rw[dM rfl];simp only[bS];cases Lt ps (bB e x)<;>simp
@[simp,simp ↓] theorem ajF{x:bP}:WO O (⟨d,none,n,.nck x⟩::r) e J Q=WD (ahd (bB e x)) λv=>WO O r (put d v e) J Q:=by
 rw[dM rfl];refine lQ ?_;simp only[bS];cases bB e x<;>rfl
@[simp,simp ↓] theorem akp{nb:List (Nat×Nat)}{sz:Nat}{a x:bP}:WO O (⟨d,none,n,.st nb sz a x⟩::r) e J Q=WV (bS e J (.st nb sz a x)) λv J'=>WO O r (put d v e) J' Q:=dM rfl
@[simp,simp ↓] theorem ajB{v:Nat}{ag:Bool}{sz a:Nat}:WO O (⟨d,none,n,.Vm v ag sz a⟩::r) e J Q=WD (XC e v ag sz a) λv=>WO O r (put d v e) J Q:=by
 rw[dM rfl];refine lQ ?_;simp only[bS,XC];cases qU e v a with
 |none=>rfl
 |some x =>
  obtain⟨s,cs,off⟩:=x;simp only[QH,aZ];split
  .cases ag
   .cases cs.drop off<;>rfl
   .rfl
  .rfl
@[simp,simp ↓] theorem ajm{o:BinOp}{x y:bP}:WO O (⟨d,none,n,.bin o x y⟩::r) e J Q=WD (u0 o (bB e x) (bB e y)) λv=>WO O r (put d v e) J Q:=by
 rw[dM rfl];simp only[bS];cases u0 o (bB e x) (bB e y)<;>simp
@[simp,simp ↓] theorem ajt{ag:Bool}{ks:List (Option IntKind)}{neg:Bool}{x y:bP}:WO O (⟨d,none,n,.eqv ag ks neg x y⟩::r) e J Q=WD (adK ag ks neg (bB e x) (bB e y)) λv=>WO O r (put d v e) J Q:=by
 rw[dM rfl];refine lQ ?_;simp only[bS,adK];cases(bB e x).row ag<;>cases(bB e y).row ag<;>simp[Option.map_map,Function.comp_def]
@[simp,simp ↓] theorem akq{o:UnOp}{x:bP}:WO O (⟨d,none,n,.un o x⟩::r) e J Q=WD (unD o (bB e x)) λv=>WO O r (put d v e) J Q:=by
 rw[dM rfl];refine lQ ?_;simp only[bS];cases o<;>cases bB e x<;>rfl
@[simp,simp ↓] theorem ajs{k:IntKind}{x:bP}:WO O (⟨d,none,n,.Vi k x⟩::r) e J Q=WD (adD k (bB e x)) λv=>WO O r (put d v e) J Q:=by
 rw[dM rfl];simp only[bS];cases bB e x<;>simp[adD]
@[simp,simp ↓] theorem ajH{p:Pu}{xs:List bP}:WO O (⟨d,none,n,.Jq p xs⟩::r) e J Q=WD (fS p (xs.map (bB e))) λv=>WO O r (put d v e) J Q:=by
 rw[dM rfl];simp only[bS];cases fS p (xs.map (bB e))<;>simp
@[simp,simp ↓] theorem akk{p:Me}{xs:List bP}:WO O (⟨d,none,n,.me p xs⟩::r) e J Q=WV (UR J p (xs.map (bB e))) λv J'=>WO O r (put d v e) J' Q:=dM rfl
@[simp,simp ↓] theorem akm{p:Mo}{xs:List bP}:WO O (⟨d,none,n,.mp p xs⟩::r) e J Q=WV (Dd J p (xs.map (bB e))) λv J'=>WO O r (put d v e) J' Q:=dM rfl
@[simp,simp ↓] theorem ajD{t:Nat}{x:bP}:WO O (⟨d,none,n,.XO t x⟩::r) e J Q=WO O r (put d (.uh t (bB e x)) e) J Q:=by rw[dM rfl];simp[bS]
@[simp,simp ↓] theorem ajK{t:Nat}{z:Option D}{x:bP}:WO O (⟨d,none,n,.YW t z x⟩::r) e J Q=WD (Sc t z (bB e x)) λv=>WO O r (put d v e) J Q:=by
 rw[dM rfl];simp only[bS];cases Sc t z (bB e x)<;>simp
@[simp,simp ↓] theorem ajx{neg:Bool}{x:bP}:WO O (⟨d,none,n,.isi neg x⟩::r) e J Q=WD (Xv (bB e x)) λb=>WO O r (put d (.bool (if neg then !b else b)) e) J Q:=by
 rw[dM rfl];simp only[bS];cases Xv (bB e x)<;>simp
@[simp] theorem afz:Xv .nJ=some true:=aK rfl
@[simp] theorem ag6{t:Nat}{d:D}:Xv (.uh t d)=some false:=aK rfl
@[simp] theorem aib{t t':Nat}{z d:D}:Sc t (some z) (.uh t' d)=some (if t'=t then .cN [d,.bool true]else .cN [z,.bool false]):=aK rfl
@[simp,simp ↓] theorem ajC{f:Nat}{xs ys:List bP}:WO O (⟨d,none,n,.XN f xs ys⟩::r) e J Q=WO O r (put d (.fn f (xs.map (bB e)) (ys.map (bB e))) e) J Q:=by rw[dM rfl];simp[bS]
@[simp,simp ↓] theorem ajE{w b:Nat}{z:List D}{l c:bP}:WO O (⟨d,none,n,.YS w b z l c⟩::r) e J Q=WV (bS e J (.YS w b z l c)) λv J'=>WO O r (put d v e) J' Q:=dM rfl
@[simp,simp ↓] theorem ajI{w:Nat}{x:bP}{lo hi mx:Option bP}:WO O (⟨d,none,n,.YU w x lo hi mx⟩::r) e J Q=WD (aa1 w (bB e x) e lo hi mx) λv=>WO O r (put d v e) J Q:=by
 rw[dM rfl];refine lQ ?_;simp only[bS,aa1];cases bB e x<;>first | rfl | (simp only[];split<;>simp[Option.map_map,Function.comp_def]) | simp[Option.map_map,Function.comp_def]
@[simp,simp ↓] theorem aiu{off m:Nat}:WO O (⟨d,none,n,.Ln off (.t m)⟩::r) e J Q=WD (Pl m off (get e m)) λv=>WO O r (put d v e) J Q:=by
 rw[dM rfl];refine lQ ?_;simp only[bS];cases get e m<;>rfl
@[simp,simp ↓] theorem ajv{ag:Bool}{off sz:Nat}{x:bP}:WO O (⟨d,none,n,.fld ag off sz x⟩::r) e J Q=WD (adN ag off sz (bB e x)) λv=>WO O r (put d v e) J Q:=by
 rw[dM rfl];refine lQ ?_;simp only[bS];cases bB e x<;>first | rfl | (simp only[adN];split<;>cases ag<;>simp)
@[simp,simp ↓] theorem aiv{l w m:Nat}{i:bP}:WO O (⟨d,none,n,.Lr l w (.t m) i⟩::r) e J Q=WD (Td m l w (get e m) (bB e i)) λv=>WO O r (put d v e) J Q:=by
 rw[dM rfl];refine lQ ?_;simp only[bS,Td];cases G2 (bB e i)with
 |none=>rfl
 |some k=>simp only[];split<;>cases get e m<;>rfl
@[simp,simp ↓] theorem aiw{w:Nat}{x i:bP}:WO O (⟨d,none,n,.HS w x i⟩::r) e J Q=WD (PJ w (bB e x) (bB e i)) λv=>WO O r (put d v e) J Q:=by
 rw[dM rfl];refine lQ ?_;simp only[bS,PJ];cases G2 (bB e i)with
 |none=>cases bB e x<;>rfl
 |some k=>cases bB e x<;>first | rfl | (simp only[];split<;>rfl)
@[simp,simp ↓] theorem aix{ag:Bool}{l w:Nat}{x i:bP}:WO O (⟨d,none,n,.Ny ag l w x i⟩::r) e J Q=WD (Xp ag l w (bB e x) (bB e i)) λv=>WO O r (put d v e) J Q:=by
 rw[dM rfl];refine lQ ?_;simp only[bS,Xp];cases G2 (bB e i)with
 |none=>cases bB e x<;>rfl
 |some k=>cases bB e x<;>first | rfl | (simp only[];split<;>cases ag<;>simp)
@[simp,simp ↓] theorem aiy{x:bP}:WO O (⟨d,none,n,.Lu x⟩::r) e J Q=WD (UK (bB e x)) λv=>WO O r (put d v e) J Q:=by
 rw[dM rfl];refine lQ ?_;simp only[bS];cases bB e x<;>rfl
@[simp,simp ↓] theorem akl{x y:bP}:WO O (⟨d,none,n,.mn x y⟩::r) e J Q=WD (mnD (bB e x) (bB e y)) λv=>WO O r (put d v e) J Q:=by
 rw[dM rfl];refine lQ ?_;simp only[bS];cases bB e x<;>cases bB e y<;>rfl
@[simp,simp ↓] theorem ako{x y:bP}:WO O (⟨d,none,n,.mx x y⟩::r) e J Q=WD (mxD (bB e x) (bB e y)) λv=>WO O r (put d v e) J Q:=by
 rw[dM rfl];refine lQ ?_;simp only[bS];cases bB e x<;>cases bB e y<;>rfl
@[simp,simp ↓] theorem ajk{os:List Nat}{w b:Nat}{s x:bP}:WO O (⟨d,none,n,.Un os w b s x⟩::r) e J Q=WV (bS e J (.Un os w b s x)) λv J'=>WO O r (put d v e) J' Q:=dM rfl
@[simp,simp ↓] theorem ajl{w b:Nat}{s x:bP}:WO O (⟨d,none,n,.app w b s x⟩::r) e J Q=WV (bS e J (.app w b s x)) λv J'=>WO O r (put d v e) J' Q:=dM rfl
@[simp,simp ↓] theorem ajr{w b:Nat}{x:bP}:WO O (⟨d,none,n,.YQ w b x⟩::r) e J Q=WV (bS e J (.YQ w b x)) λv J'=>WO O r (put d v e) J' Q:=dM rfl
@[simp,simp ↓] theorem aju{x:bP}{i:Nat}:WO O (⟨d,none,n,.ext x i⟩::r) e J Q=WD (agR (bB e x) i) λv=>WO O r (put d v e) J Q:=by
 rw[dM rfl];refine lQ ?_;simp only[bS];cases bB e x<;>rfl
@[simp,simp ↓] theorem ait{kp:Bool}{f:bP}{args:List bP}:WO O (⟨d,none,n,.call kp f args⟩::r) e J Q =
  WV (og O kp (bB e f) (args.map (bB e)) J) λv J'=>(n=true->J'=J)/\WO O r (put d v e) J' Q:=by
 simp only[WO,lq,wI,WV,eq_iff_iff];cases hc:og O kp (bB e f) (args.map (bB e)) J with
 |none=>simp
 |some y =>
  obtain⟨v,J1⟩:=y;by_cases hn:n=true->J1=J
  .simp only[if_pos hn,Option.bind_some,ae,ar];exact⟨λh=>⟨v,J1,⟨rfl,rfl⟩,hn,h⟩,λ⟨_,_,⟨h1,h2⟩,_,h⟩=>by subst h1 h2;exact h⟩
  .simp only[if_neg hn,Option.bind_none,reduceCtorEq,false_and,exists_false,ae,ar,false_iff];rintro⟨_,_,⟨h1,h2⟩,h,_⟩;subst h1 h2;exact hn h
@[simp,simp ↓] theorem aip{nb:List (Nat×Nat)}{cs:List D}:WO O (⟨d,none,n,.B6 nb cs⟩::r) e J Q=WD d λv=>WD (kh nb cs J) λy=>WO O r ((v,.own (ux e v) y.1)::e) y.2 Q:=by
 cases d with
 |none=>simp[WO,lq,wI]
 |some v=>cases h:kh nb cs J with
  |none=>simp[WO,lq,wI,h]
  |some y=>obtain⟨a,b⟩:=y;simp only[WO,lq,wI,h,Option.bind_some,Jf]
@[simp,simp ↓] theorem ais{x:bP}:WO O (⟨d,none,n,.FU x⟩::r) e J Q=WD d λv=>WD (bB e x).cells λcs=>WO O r ((v,.own (ux e v) cs)::e) J Q:=by
 cases d with
 |none=>simp[WO,lq,wI]
 |some v=>cases h:(bB e x).cells with
  |none=>simp[WO,lq,wI,h]
  |some y=>simp only[WO,lq,wI,h,Option.bind_some,Jf]
def afb(e:Env)(J:SK)(v:Nat)(nb:List (Nat×Nat))(sz a:Nat)(x:bP):Option (D×SK) :=
 match qU e v a,(bB e x).cells with
 |some (s,cs,off),some p =>
  if p.length=sz/\off+sz<=cs.length then
   match kh nb p J with
   |some (p',J')=>some (.own s (cs.take off++p'++cs.drop (off+sz)),J')
   |none=>none
  else none
 |_,_=>none
@[simp,simp ↓] theorem ajJ{v:Nat}{nb:List (Nat×Nat)}{sz a:Nat}{x:bP}:WO O (⟨d,none,n,.Ie v nb sz a x⟩::r) e J Q =
  WV (afb e J v nb sz a x) λy J'=>WO O r ((v,y)::e) J' Q:=by
 simp only[WO,lq,wI,afb];cases h1:qU e v a with
 |none=>simp
 |some p =>
  obtain⟨s,cs,off⟩:=p;cases h2:(bB e x).cells with
  |none=>simp
  |some p =>
   dsimp only;split
   .cases h3:kh nb p J with
    |none=>simp
    |some y=>obtain⟨a,b⟩:=y;simp[WO]
   .simp
end ops
section code
variable {e:Env} {J:SK} {Q:Exit->Env->SK->Prop}
@[simp,simp ↓] theorem ajf:WC O .Jp e J Q=Q .normal e J:=by
 simp only[WC,bq,ae,ar,eq_iff_iff];exact⟨λ⟨_,_,_,⟨h1,h2,h3⟩,h⟩=>by subst h1 h2 h3;exact h,λh=>⟨_,_,_,⟨rfl,rfl,rfl⟩,h⟩⟩
@[simp,simp ↓] theorem ajd{vs:List Nat}:WC O (.cI vs) e J Q=Q .normal (vc vs e J).1 (vc vs e J).2:=by
 simp only[WC,bq,ae,ar,eq_iff_iff];exact⟨λ⟨_,_,_,⟨h1,h2,h3⟩,h⟩=>by subst h1 h2 h3;exact h,λh=>⟨_,_,_,⟨rfl,rfl,rfl⟩,h⟩⟩
@[simp,simp ↓] theorem ain{i:Nat}:WC O (.exit i) e J Q=Q (.exit i) e J:=by
 simp only[WC,bq,ae,ar,eq_iff_iff];exact⟨λ⟨_,_,_,⟨h1,h2,h3⟩,h⟩=>by subst h1 h2 h3;exact h,λh=>⟨_,_,_,⟨rfl,rfl,rfl⟩,h⟩⟩
@[simp,simp ↓] theorem ajh:WC O .ret e J Q=Q .ret e J:=by
 simp only[WC,bq,ae,ar,eq_iff_iff];exact⟨λ⟨_,_,_,⟨h1,h2,h3⟩,h⟩=>by subst h1 h2 h3;exact h,λh=>⟨_,_,_,⟨rfl,rfl,rfl⟩,h⟩⟩
@[simp,simp ↓] theorem ajg{live:List Nat}{ops:List Op}:WC O (.si live ops) e J Q=WO O ops e J λe' J'=>Q .normal (restrict live e') J':=by
 simp only[WC,bq,WO,ad,ar,eq_iff_iff];constructor
 .rintro⟨x,e',J',⟨⟨e1,J1⟩,h1,rfl,rfl,rfl⟩,h⟩;exact⟨e1,J1,h1,h⟩
 .rintro⟨e',J',h1,h⟩;exact⟨_,_,_,⟨⟨e',J'⟩,h1,rfl,rfl,rfl⟩,h⟩
def Qz(O:cf)(b:b9)(Q:Exit->Env->SK->Prop)(_m:Mark b:=.mk)(_m':Mark Q:=.mk):Exit->Env->SK->Prop
 |.normal,e,J=>WC O b e J Q
 |.exit i,e,J=>Q (.exit i) e J
 |.ret,e,J=>Q .ret e J
 |.ft d,e,J=>Q (.ft d) e J
@[simp,simp ↓] theorem af3{b:b9}{d:D}:Qz O b Q .mk .mk (.ft d) e J=Q (.ft d) e J:=aK rfl
@[simp,simp ↓] theorem abh{b:b9}:Qz O b Q .mk .mk .normal e J=WC O b e J Q:=aK rfl
@[simp,simp ↓] theorem afe{b:b9}{i:Nat}:Qz O b Q .mk .mk (.exit i) e J=Q (.exit i) e J:=aK rfl
@[simp,simp ↓] theorem af2{b:b9}:Qz O b Q .mk .mk .ret e J=Q .ret e J:=aK rfl
@[simp,simp ↓] theorem aji{a b:b9}:WC O (.seq a b) e J Q=WC O a e J (Qz O b Q .mk .mk):=by
 simp only[WC,bq,ak,eq_iff_iff];constructor
 .rintro⟨x,e',J',⟨⟨x1,e1,J1⟩,h1,h2⟩,h⟩;refine⟨x1,e1,J1,h1,?_⟩;cases x1 with
  |normal=>exact⟨x,e',J',h2,h⟩
  |exit i=>cases h2;exact h
  |ret=>cases h2;exact h
  |ft d=>cases h2;exact h
 .rintro⟨x1,e1,J1,h1,h⟩;cases x1 with
  |normal=>obtain⟨x,e',J',h2,h3⟩:=h;exact⟨x,e',J',⟨_,h1,h2⟩,h3⟩
  |exit i=>exact⟨_,_,_,⟨_,h1,rfl⟩,h⟩
  |ret=>exact⟨_,_,_,⟨_,h1,rfl⟩,h⟩
  |ft d=>exact⟨_,_,_,⟨_,h1,rfl⟩,h⟩
@[simp,simp ↓] theorem aje{c:bP}{a b:b9}:WC O (.ite c a b) e J Q=WD (Pa (bB e c)) λt=>if t=true then WC O a e J Q else WC O b e J Q:=by
 simp only[WC,bq];cases bB e c<;>simp[Pa];rename_i t;cases t<;>simp
def RK(id:Nat)(Q:Exit->Env->SK->Prop)(_m:Mark Q:=.mk):Exit->Env->SK->Prop
 |.normal,e,J=>Q .normal e J
 |.exit i,e,J=>if i=id then Q .normal e J else Q (.exit i) e J
 |.ret,e,J=>Q .ret e J
 |.ft d,e,J=>Q (.ft d) e J
@[simp,simp ↓] theorem ahj{id:Nat}{d:D}:RK id Q .mk (.ft d) e J=Q (.ft d) e J:=aK rfl
@[simp,simp ↓] theorem abY{id:Nat}:RK id Q .mk .normal e J=Q .normal e J:=aK rfl
@[simp,simp ↓] theorem afL{id i:Nat}:RK id Q .mk (.exit i) e J=if i=id then Q .normal e J else Q (.exit i) e J:=aK rfl
@[simp,simp ↓] theorem ahi{id:Nat}:RK id Q .mk .ret e J=Q .ret e J:=aK rfl
@[simp,simp ↓] theorem ajc{id:Nat}{a:b9}:WC O (.dI id a) e J Q=WC O a e J (RK id Q .mk):=by
 simp only[WC,bq,ad,eq_iff_iff];constructor
 .rintro⟨x,e',J',⟨⟨x1,e1,J1⟩,h1,h2⟩,h⟩;refine⟨x1,e1,J1,h1,?_⟩;cases x1 with
  |normal=>cases h2;exact h
  |exit i =>
   simp only[RK];dsimp only at h2;split at h2<;>cases h2
   .rw[if_pos (by assumption)];exact h
   .rw[if_neg (by assumption)];exact h
  |ret=>cases h2;exact h
  |ft d=>cases h2;exact h
 .rintro⟨x1,e1,J1,h1,h⟩;cases x1 with
  |normal=>exact⟨_,_,_,⟨_,h1,rfl⟩,h⟩
  |exit i =>
   simp only[RK]at h;split at h
   .exact⟨_,_,_,⟨_,h1,by dsimp only;rw[if_pos (by assumption)]⟩,h⟩
   .exact⟨_,_,_,⟨_,h1,by dsimp only;rw[if_neg (by assumption)]⟩,h⟩
  |ret=>exact⟨_,_,_,⟨_,h1,rfl⟩,h⟩
  |ft d=>exact⟨_,_,_,⟨_,h1,rfl⟩,h⟩
theorem Ut(d:D):d.calm.calm=d.calm:=by cases d<;>rfl
theorem Lw{live:List Nat}{e:Env}{t:Nat}:get (restrict live e) t=if t∈live then(get e t).calm else .undef:=by
 induction live with
 |nil=>simp[restrict,get]
 |cons a l ih =>
  simp only[restrict,aM,get,bx];by_cases h:a=t
  .subst h;simp
  .have h':¬t=a:=λx=>h x.symm
   simp only[if_neg h,h',false_or];exact ih
theorem Al{live:List Nat}{e:Env}:restrict live (restrict live e)=restrict live e:=by
 simp only[restrict,List.map_inj_left,ar,true_and];intro t ht;have:=Lw (live:=live) (e:=e) (t:=t);simp only[restrict]at this;rw[this,if_pos ht,Ut]
theorem xu{live:List Nat}{bF:Bool}{c:b9}:dF T O (.loop live bF c (restrict live e) J)=dF T O (.loop live bF c e J):=by
 simp only[dF,Al]
theorem Af{live:List Nat}{bF:Bool}{c:b9}{r:R}(h:dp T (.loop live bF c (restrict live e) J)=some r):dp T (.loop live bF c e J)=some r:=by
 obtain⟨n,h⟩:=xO.1 h;cases n with
 |zero=>cases h
 |succ n =>
  rw[it,xu]at h;exact xO.2 ⟨n+1,h⟩
theorem F2{live:List Nat}{bF:Bool}{c:b9}{r:R}(h:dp T (.loop live bF c e J)=some r):dp T (.loop live bF c (restrict live e) J)=some r:=by
 obtain⟨n,h⟩:=xO.1 h;cases n with
 |zero=>cases h
 |succ n =>
  rw[it,<- xu]at h;exact xO.2 ⟨n+1,h⟩
theorem Rc{r:Option R}{x:Exit}{e:Env}{J:SK}(h:R.Uu r=some (x,e,J)):r=some (.E5 x e J):=by
 unfold R.Uu at h;split at h
 .cases h;rfl
 .cases h
@[simp,simp ↓] theorem aio{live:List Nat}{bF:Bool}{c:b9}:WC (dp T) (.loop live bF c) e J Q=WL T live bF c (restrict live e) J Q:=by
 simp only[WC,bq,WL,eq_iff_iff];constructor
 .rintro⟨x,e',J',h1,h⟩;cases hl:dp T (.loop live bF c e J)with
  |none=>rw[hl]at h1;cases h1
  |some r =>
   rw[hl]at h1;cases r<;>cases h1;exact⟨_,_,_,F2 hl,h⟩
 .rintro⟨x,e',J',h1,h⟩;exact⟨x,e',J',by rw[Af h1];rfl,h⟩
def PZ(T:CT)(live:List Nat)(c:b9)(Q:Exit->Env->SK->Prop)(_m:Mark c:=.mk)(_m':Mark Q:=.mk):Exit->Env->SK->Prop
 |.normal,e,J=>WL T live false c (restrict live e) J Q
 |.exit i,e,J=>Q (.exit i) e J
 |.ret,e,J=>Q .ret e J
 |.ft d,e,J=>Q (.ft d) e J
@[simp,simp ↓] theorem afJ{live:List Nat}{c:b9}{d:D}:PZ T live c Q .mk .mk (.ft d) e J=Q (.ft d) e J:=aK rfl
@[simp,simp ↓] theorem aaD{live:List Nat}{c:b9}:PZ T live c Q .mk .mk .normal e J=WL T live false c (restrict live e) J Q:=aK rfl
@[simp,simp ↓] theorem ad4{live:List Nat}{c:b9}{i:Nat}:PZ T live c Q .mk .mk (.exit i) e J=Q (.exit i) e J:=aK rfl
@[simp,simp ↓] theorem afI{live:List Nat}{c:b9}:PZ T live c Q .mk .mk .ret e J=Q .ret e J:=aK rfl
theorem az{live:List Nat}{c c':b9}(hc:c=c')(h:WC (dp T) c' (restrict live e) J (PZ T live c Q .mk .mk)):WL T live false c e J Q:=by
 rw[<- hc]at h;obtain⟨x,e1,J1,h1,h2⟩:=h;cases x with
 |normal =>
  obtain⟨x,e',J',h3,h4⟩:=h2;exact⟨x,e',J',gT (by simp[dF,h1,Af h3]),h4⟩
 |exit i=>exact⟨_,_,_,gT (by simp[dF,h1]),h2⟩
 |ret=>exact⟨_,_,_,gT (by simp[dF,h1]),h2⟩
 |ft d=>exact⟨_,_,_,gT (by simp[dF,h1]),h2⟩
def Ri(J:SK)(res:List Gg)(d:D)(x:Exit)(e:Env)(J1:SK):Prop :=
 (∀i,x ≠ .exit i)/\(∀d,x ≠ .ft d)/\∃ds,BQ e J1 res=some ds/\∃s,cI (J.length-1) deep (ui ds) J1=(d,s::J)
@[simp,simp ↓] theorem abH{J1:SK}{res:List Gg}{d:D}:Ri J res d .normal e J1=∃ds,BQ e J1 res=some ds/\∃s,cI (J.length-1) deep (ui ds) J1=(d,s::J):=by simp[Ri]
@[simp,simp ↓] theorem agN{J1:SK}{res:List Gg}{d:D}:Ri J res d .ret e J1=∃ds,BQ e J1 res=some ds/\∃s,cI (J.length-1) deep (ui ds) J1=(d,s::J):=by simp[Ri]
theorem oT{f:Nat}{fn:Fn}{args:List D}{J:SK}{d:D}{np:Nat}{res:List Gg}{body:b9}(hT:T f=some fn)(hf:fn=⟨np,res,body⟩)(hl:args.length=np)
  (h:WC (dp T) body (lE 0 args) ([]::J) (Ri J res d)):
  dp T (.call false f args J)=some (.val d J):=by
 subst hf;obtain⟨x,e1,J1,h1,h2,h2',ds,h3,s,h4⟩:=h;refine gT ?_;simp only[dF,hT,if_pos hl,aD,if_false,h1];cases x with
 |exit i=>exact absurd rfl (h2 i)
 |ft d=>exact absurd rfl (h2' d)
 |normal=>simp[h3,h4]
 |ret=>simp[h3,h4]
theorem au{f:Nat}{fn:Fn}{args:List D}{J:SK}{d:D}{np:Nat}{res:List Gg}{body:b9}(h:WC (dp T) body (lE 0 args) ([]::J) (Ri J res d))(hT:T f=some fn:=by exact rfl)(hf:fn=⟨np,res,body⟩:=by exact rfl)(hl:args.length=np:=by exact rfl):dp T (.call false f args J)=some (.val d J):=oT hT hf hl h
def adH(J:SK)(d:D)(x:Exit)(e:Env)(J1:SK):Prop:=x=.ft d/\d.clean=true/\∃s,J1=s::J
@[simp,simp ↓] theorem agP{J1:SK}{d d':D}:adH J d (.ft d') e J1=(d'=d/\d.clean=true/\∃s,J1=s::J):=by simp[adH]
theorem dX{f:Nat}{fn:Fn}{args:List D}{J:SK}{d:D}{np:Nat}{res:List Gg}{body:b9}(hT:T f=some fn)(hf:fn=⟨np,res,body⟩)(hl:args.length=np)
  (h:WC (dp T) body (lE 0 args) ([]::J) (adH J d)):
  dp T (.call false f args J)=some (.ft d J):=by
 subst hf;obtain⟨x,e1,J1,h1,rfl,hc,s,rfl⟩:=h;refine gT ?_;simp only[dF,hT,if_pos hl,aD,if_false,h1];simp[Sd,hc]
def WR(r:Option R)(Qn Qt:D->SK->Prop)(_m:Mark Qn:=.mk)(_m':Mark Qt:=.mk):Prop:=(∃d J',r=some (.val d J')/\Qn d J')\/∃d J',r=some (.ft d J')/\Qt d J'
@[simp,simp ↓] theorem adl{d:D}{J':SK}{Qn Qt:D->SK->Prop}:WR (some (.val d J')) Qn Qt=Qn d J':=by
 simp only[WR,ae,R.val.injEq,reduceCtorEq,false_and,exists_false,or_false,eq_iff_iff];exact⟨λ⟨_,_,⟨h1,h2⟩,h⟩=>by subst h1 h2;exact h,λh=>⟨_,_,⟨rfl,rfl⟩,h⟩⟩
@[simp,simp ↓] theorem adk{d:D}{J':SK}{Qn Qt:D->SK->Prop}:WR (some (.ft d J')) Qn Qt=Qt d J':=by
 simp only[WR,ae,R.ft.injEq,reduceCtorEq,false_and,exists_false,false_or,eq_iff_iff];exact⟨λ⟨_,_,⟨h1,h2⟩,h⟩=>by subst h1 h2;exact h,λh=>⟨_,_,⟨rfl,rfl⟩,h⟩⟩
def aee:D->Option D
 |.uh t d=>if d.clean then some (.uh t d)else none
 |_=>none
@[simp] theorem P3{t:Nat}{d:D}:aee (.uh t d)=if d.clean then some (.uh t d)else none:=aK rfl
@[simp] theorem agF{O:cf}{f:Nat}{first cap args:List D}{J:SK}:CU O (.fn f first cap) args J=O (.call false f (first++args++cap) J):=aK rfl
@[simp,simp ↓] theorem ZR{live:List Nat}{pre post:List Op}{dst:Option Nat}{n:Bool}{f:bP}{args:List bP}:WC O (.QA live pre ⟨dst,none,n,.call false f args⟩ post) e J Q =
  WO O pre e J λe1 J1=>WR (CU O (bB e1 f) (args.map (bB e1)) J1) (λd J2=>WO O post (put dst d e1) J2 λe' J'=>Q .normal (restrict live e') J') (λd J2=>Q (.ft d) e1 J2):=by
 simp only[WC,WO,bq,I5,ak,eq_iff_iff];constructor
 .rintro⟨x,e',J',⟨⟨e1,J1⟩,h1,h2⟩,h⟩;refine⟨e1,J1,h1,?_⟩;dsimp only at h2;cases hc:CU O (bB e1 f) (args.map (bB e1)) J1 with
  |none=>rw[hc]at h2;simp[uD]at h2
  |some r =>
   rw[hc]at h2;cases r with
   |E5=>simp[uD]at h2
   |ft d J2=>simp only[uD,ae,ar]at h2;obtain⟨rfl,rfl,rfl⟩:=h2;rw[adk];exact h
   |val d J2 =>
    simp only[uD,ad]at h2;obtain⟨⟨e3,J3⟩,h3,h4⟩:=h2;cases h4;rw[adl];exact⟨e3,J3,h3,h⟩
 .rintro⟨e1,J1,h1,h⟩;rcases h with⟨d,J2,h2,e3,J3,h3,h4⟩ | ⟨d,J2,h2,h4⟩
  .exact⟨.normal,_,J3,⟨(e1,J1),h1,by simp only[h2,uD,h3,aZ]⟩,h4⟩
  .exact⟨.ft d,e1,J2,⟨(e1,J1),h1,by simp only[h2,uD]⟩,h4⟩
@[simp,simp ↓] theorem abC{live:List Nat}{pre post:List Op}{dst:Option Nat}{n:Bool}{x:bP}:WC O (.QA live pre ⟨dst,none,n,.X2 x⟩ post) e J Q =
  WO O pre e J λe1 J1=>WD (aee (bB e1 x)) λd=>Q (.ft d) e1 J1:=by
 simp only[WC,WO,bq,I5,ak,eq_iff_iff];constructor
 .rintro⟨x',e',J',⟨⟨e1,J1⟩,h1,h2⟩,h⟩;refine⟨e1,J1,h1,?_⟩;dsimp only at h2;cases hx:bB e1 x<;>rw[hx]at h2<;>try (cases h2;done)
  dsimp only at h2;split at h2
  .rename_i hc;cases h2;simp only[P3,hc,if_true,Jf];exact h
  .cases h2
 .rintro⟨e1,J1,h1,d,h2,h⟩;refine⟨.ft d,e1,J1,⟨(e1,J1),h1,?_⟩,h⟩;dsimp only;cases hx:bB e1 x<;>rw[hx]at h2<;>try (cases h2;done)
  simp only[P3]at h2;split at h2
  .rename_i hc;cases h2;simp[hc]
  .cases h2
def WM(T:CT)(live:List Nat)(it:bP)(nx ok b:Nat)(c rest:b9)(e:Env)(J:SK)(Q:Exit->Env->SK->Prop)(_m:Mark c:=.mk)(_m':Mark rest:=.mk)(_m'':Mark Q:=.mk):Prop:=∃x e' J',dp T (.ir live it nx ok b c rest e J)=some (.E5 x e' J')/\Q x e' J'
theorem WM.mono{live:List Nat}{it:bP}{nx ok b:Nat}{c rest:b9}{Q':Exit->Env->SK->Prop}(h:WM T live it nx ok b c rest e J Q)(hq:∀x e J,Q x e J->Q' x e J):WM T live it nx ok b c rest e J Q' :=
 let ⟨x,e',J',h1,h2⟩:=h;⟨x,e',J',h1,hq _ _ _ h2⟩
theorem wD{live:List Nat}{it:bP}{nx ok b:Nat}{c rest:b9}:dF T O (.ir live it nx ok b c rest (restrict live e) J)=dF T O (.ir live it nx ok b c rest e J):=by
 simp only[dF,Al]
theorem sU{live:List Nat}{it:bP}{nx ok b:Nat}{c rest:b9}{r:R}:dp T (.ir live it nx ok b c rest (restrict live e) J)=some r↔dp T (.ir live it nx ok b c rest e J)=some r:=by
 constructor<;>intro h<;>obtain⟨n,h⟩:=xO.1 h<;>cases n<;>first | (cases h;done) | skip
 .rw[Abs.it,wD]at h;exact xO.2 ⟨_+1,h⟩
 .rw[Abs.it,<- wD]at h;exact xO.2 ⟨_+1,h⟩
@[simp,simp ↓] theorem agl{live:List Nat}{it:bP}{nx ok b:Nat}{c rest:b9}:WC (dp T) (.ir live it nx ok b c rest) e J Q=WM T live it nx ok b c rest (restrict live e) J Q:=by
 simp only[WC,bq,WM,eq_iff_iff];constructor
 .rintro⟨x,e',J',h1,h⟩;exact⟨_,_,_,sU.2 (Rc h1),h⟩
 .rintro⟨x,e',J',h1,h⟩;exact⟨x,e',J',by rw[sU.1 h1];rfl,h⟩
def ME(T:CT)(live:List Nat)(it:bP)(l i nx ok b:Nat)(c rest:b9)(r:R)(_m:Mark c:=.mk)(_m':Mark rest:=.mk):Exit->Env->SK->Prop
 |.normal,e,J=>dp T (.ir live it nx ok b c rest (restrict live e) J)=some r
 |.exit j,e,J=>if j=b then WC (dp T) rest e (bj J l i .dead) λx e' J'=>r=.E5 x e' J' else r=.E5 (.exit j) e (bj J l i .dead)
 |.ret,e,J=>r=.E5 .ret e (bj J l i .dead)
 |.ft _,_,_=>False
@[simp,simp ↓] theorem aaE{live:List Nat}{it:bP}{l i nx ok b:Nat}{c rest:b9}{r:R}:ME T live it l i nx ok b c rest r .mk .mk .normal e J=(dp T (.ir live it nx ok b c rest (restrict live e) J)=some r):=aK rfl
@[simp,simp ↓] theorem RG{live:List Nat}{it:bP}{l i nx ok b j:Nat}{c rest:b9}{r:R}:ME T live it l i nx ok b c rest r .mk .mk (.exit j) e J=if j=b then WC (dp T) rest e (bj J l i .dead) λx e' J'=>r=.E5 x e' J' else r=.E5 (.exit j) e (bj J l i .dead):=aK rfl
@[simp,simp ↓] theorem UX{live:List Nat}{it:bP}{l i nx ok b:Nat}{c rest:b9}{r:R}:ME T live it l i nx ok b c rest r .mk .mk .ret e J=(r=.E5 .ret e (bj J l i .dead)):=aK rfl
theorem NC{l i b:Nat}{rest:b9}{r:R}{x:Exit}{e1:Env}{J1:SK}{live:List Nat}{it:bP}{nx ok:Nat}{c:b9}(hx:x ≠ .normal)(h:ME T live it l i nx ok b c rest r .mk .mk x e1 J1):y8 (dp T) l i b rest (some (x,e1,J1))=some r:=by
 cases x with
 |normal=>exact absurd rfl hx
 |ft d=>exact h.elim
 |ret=>simp only[UX]at h;subst h;rfl
 |exit j =>
  simp only[RG]at h;simp only[y8];split at h
  .rename_i hj;obtain⟨x',e',J',h1,rfl⟩:=h;rw[if_pos hj,h1];rfl
  .rename_i hj;subst h;rw[if_neg hj]
theorem XP{live:List Nat}{it:bP}{l i nx ok b:Nat}{c c' rest rest':b9}{r:R}{m:D}{n:Nat}{js:List D}{us:List Nat}(hcc:c=c')(hrr:rest=rest')(hit:bB (restrict live e) it=.jS l i)(hd:IT J l i=some (m,n,js,us))(hne:us≠[])
  (h:∀u∈us,WC (dp T) c' ((ok,.bool true)::(nx,.undef)::restrict live e) (bj J l i (.cells 1 (m::.int .i64 (n:Nat)::.int .i64 (u:Nat)::js))) (ME T live it l i nx ok b c rest' r .mk .mk)):
  dp T (.ir live it nx ok b c rest e J)=some r:=by
 subst hcc hrr;refine gT ?_;simp only[dF,hit,hd];have key:∀u∈us,Dc (dp T) live it l i nx ok b c rest (bq (dp T) c ((ok,.bool true)::(nx,.undef)::restrict live e) (bj J l i (.cells 1 (m::.int .i64 (n:Nat)::.int .i64 (u:Nat)::js))))=some r:=by
  intro u hu;obtain⟨x,e1,J1,h1,h2⟩:=h u hu;rw[h1];cases x with
  |normal=>exact sU.1 h2
  |exit j=>exact NC (x:=.exit j) (by simp) h2
  |ret=>exact NC (x:=.ret) (by simp) h2
  |ft d=>exact h2.elim
 cases us with
 |nil=>exact absurd rfl hne
 |cons u us=>exact LZ (by simp) key
theorem UT{live:List Nat}{it:bP}{l i nx ok b:Nat}{c c' rest rest':b9}{r:R}{m:D}{n:Nat}{js:List D}(hcc:c=c')(hrr:rest=rest')(hit:bB (restrict live e) it=.jS l i)(hd:IT J l i=some (m,n,js,[]))
  (h:WC (dp T) c' ((ok,.bool false)::(nx,.undef)::restrict live e) J λx e1 J1=>x ≠ .normal/\ME T live it l i nx ok b c rest' r .mk .mk x e1 J1):
  dp T (.ir live it nx ok b c rest e J)=some r:=by
 subst hcc hrr;refine gT ?_;simp only[dF,hit,hd];obtain⟨x,e1,J1,h1,hx,h2⟩:=h;rw[h1];exact NC hx h2
def afd:Exit->Option (Option D)
 |.normal=>some none
 |.ret=>some none
 |.ft d=>some (some d)
 |.exit _=>none
@[simp] theorem aid:afd .ret=some none:=aK rfl
@[simp] theorem aie{d:D}:afd (.ft d)=some (some d):=aK rfl
noncomputable def wJ(T:CT)(fv:D)(args:List D)(th:Option D)(J:SK):Option SK :=
 match pj (dp T) fv args th J with
 |some (.val _ J')=>some J'
 |_=>none
theorem u6{f:Nat}{first cap args:List D}{th:Option D}{J J':SK}{d:D}(h:dp T (.zE f (first++args++cap) th J)=some (.val d J')):wJ T (.fn f first cap) args th J=some J':=by
 simp only[wJ,pj,h]
def Pj(T:CT)(fv:D)(args:List D)(J:SK)(res:List Gg)(d:D)(x:Exit)(e:Env)(J1:SK):Prop :=
 WD (afd x) λth=>WD (wJ T fv args th J1) λJ2=>∃ds,BQ e J2 res=some ds/\∃s,cI (J.length-1) deep (ui ds) J2=(d,s::J)
def toD(T:CT)(f:bP)(args:List bP)(q:b9)(J:SK)(res:List Gg)(d:D)(x:Exit)(e:Env)(J1:SK)(_m:Mark q:=.mk):Prop :=
 x=.normal/\WC (dp T) q e J1 (Pj T (bB e f) (args.map (bB e)) J res d)
theorem Pc{f:Nat}{fn:Fn}{args:List D}{J:SK}{d:D}{np:Nat}{res:List Gg}{body A q:b9}{fo:bP}{as:List bP}(hT:T f=some fn)(hf:fn=⟨np,res,body⟩)(hl:args.length=np)(hs:iA body=some (A,fo,as,q))
  (h:WC (dp T) A (lE 0 args) ([]::J) (toD T fo as q J res d)):
  dp T (.call false f args J)=some (.val d J):=by
 subst hf;obtain⟨x,e1,J1,h1,rfl,x2,e2,J2,h2,th,h3,J3,h4,ds,h5,s,h6⟩:=h;refine gT ?_;have hn:bq (dp T) body (lE 0 args) ([]::J)=none:=Ao hs h1;simp only[dF,hT,if_pos hl,aD,if_false,hn,hs,Bi,h1,h2];have h4':∃dv,pj (dp T) (bB e1 fo) (as.map (bB e1)) th J2=some (.val dv J3):=by
  unfold wJ at h4;split at h4
  .rename_i h7;cases h4;exact⟨_,h7⟩
  .cases h4
 obtain⟨dv,h4'⟩:=h4';cases x2 with
 |exit i=>cases h3
 |normal=>cases h3;simp only[Bj,h4',u7,leave,h5,h6]
 |ret=>cases h3;simp only[Bj,h4',u7,leave,h5,h6]
 |ft d=>cases h3;simp only[Bj,h4',u7,leave,h5,h6]
def adI(J':SK)(res:List Gg)(x:Exit)(e:Env)(J1:SK):Prop :=
 (∀i,x ≠ .exit i)/\(∀d,x ≠ .ft d)/\BQ e J1 res=some []/\∃s,J1=s::J'
@[simp,simp ↓] theorem abJ{J' J1:SK}{res:List Gg}:adI J' res .normal e J1=(BQ e J1 res=some []/\∃s,J1=s::J'):=by simp[adI]
theorem Dq{f:Nat}{fn:Fn}{args:List D}{th:Option D}{J J':SK}{np:Nat}{res:List Gg}{body q:b9}{e0:Env}(hT:T f=some fn)(hf:fn=⟨np,res,body⟩)(hl:args.length=np)(hr:rJ th args body=some (e0,q))
  (h:WC (dp T) q e0 ([]::J) (adI J' res)):dp T (.zE f args th J)=some (.val (.cN []) J'):=by
 subst hf;obtain⟨x,e1,J1,h1,h2,h2',h3,s,rfl⟩:=h;refine gT ?_;simp only[dF,hT,if_pos hl,hr,h1];cases x with
 |exit i=>exact absurd rfl (h2 i)
 |ft d=>exact absurd rfl (h2' d)
 |normal=>simp[h3]
 |ret=>simp[h3]
end code
@[simp] theorem ag2{k t:Nat}{v:D}{r:Env}:get ((k,v)::r) t=if k=t then v else get r t:=aK rfl
@[simp] theorem ahs{t:Nat}{v:D}{e:Env}:put (some t) v e=(t,v)::e:=aK rfl
@[simp] theorem ahr{v:D}{e:Env}:put none v e=e:=aK rfl
@[simp] theorem ahg{e:Env}{n:Nat}:bB e (.t n)=(get e n).strip:=aK rfl
@[simp] theorem akx{e:Env}{d:D}:bB e (.c d)=d:=aK rfl
@[simp] theorem aaS{e:Env}:restrict [] e=[]:=aK rfl
@[simp] theorem YT{t:Nat}{l:List Nat}{e:Env}:restrict (t::l) e=(t,(get e t).calm)::restrict l e:=aK rfl
@[simp] theorem afE{n:Nat}:lE n []=[]:=aK rfl
@[simp] theorem adW{n:Nat}{d:D}{ds:List D}:lE n (d::ds)=(n,d)::lE (n+1) ds:=aK rfl
section
variable {e:Env} {J:SK}
@[simp] theorem ahy:BQ e J []=some []:=aK rfl
@[simp] theorem afZ{r:Gg}{rs:List Gg}:BQ e J (r::rs)=(KR e J r).bind λd=>(BQ e J rs).map λds=>d::ds:=aK rfl
@[simp] theorem aj8{n:Nat}:KR e J (.t n)=some (get e n).strip:=aK rfl
@[simp] theorem aj7{n sz:Nat}{ag:Bool}:KR e J (.c n ag sz)=QH ag sz (H3 J (get e n).strip):=by
 simp only[KR,bS,ahg];cases H3 J (get e n).strip with
 |none=>rfl
 |some cs =>
  simp only[QH];split
  .cases ag
   .cases cs<;>rfl
   .rfl
  .rfl
@[simp] theorem aj9{n sz:Nat}{ag:Bool}:KR e J (.v n ag sz)=XC e n ag sz n:=by
 simp only[KR,bS,XC];cases qU e n n with
 |none=>rfl
 |some x =>
  obtain⟨s,cs,off⟩:=x;simp only[QH,aZ];split
  .cases ag
   .cases cs.drop off<;>rfl
   .rfl
  .rfl
@[simp] theorem afG{d:D}:ui [d]=d:=aK rfl
@[simp] theorem afF:ui []=.cN []:=aK rfl
@[simp] theorem afH{d d':D}{ds:List D}:ui (d::d'::ds)=.cN (d::d'::ds):=aK rfl
@[simp] theorem afs{cs:List D}:iP e [] cs=some cs:=aK rfl
@[simp] theorem adM{off sz:Nat}{x:bP}{r:List (Nat×Nat×bP)}{cs:List D}:iP e ((off,sz,x)::r) cs =
  ((bB e x).cells.bind λp=>if p.length=sz/\off+sz<=cs.length then some (cs.take off++p++cs.drop (off+sz))else none).bind (iP e r):=by
 simp only[iP];cases(bB e x).cells with
 |none=>rfl
 |some p=>dsimp only [Option.bind_some];split<;>rfl
@[simp] theorem adF{w:Nat}:elems J w .bA=some (0,[]):=aK rfl
@[simp] theorem afo{w:Nat}{s:List UInt8}:elems J w (.str s)=if w=1 then some (s.length,strCells s)else none:=aK rfl
@[simp] theorem afn{w n:Nat}{cs:List D}:elems J w (.bV n cs)=if cs.length=n*w then some (n,cs)else none:=aK rfl
end
attribute [simp] bS Nc kh fQ qU ux afb XC BU bounds D.row cells? ea eT bj gV
@[simp] theorem ab8{b:Bool}:D.clean (.bool b)=true:=by rw[D.clean]
@[simp] theorem aew{k:IntKind}{n:Int}:D.clean (.int k n)=true:=by rw[D.clean]
@[simp] theorem aey{s:List UInt8}:D.clean (.str s)=true:=by rw[D.clean]
@[simp] theorem acb:D.clean .bA=true:=by rw[D.clean]
@[simp] theorem aev{t:Nat}{d:D}:D.clean (.uh t d)=D.clean d:=by rw[D.clean]
@[simp] theorem aca:D.clean .pR=true:=by rw[D.clean]
@[simp] theorem afY{l i v o n w:Nat}:D.clean (.sl l i v o n w)=false:=by rw[D.clean]
@[simp] theorem aeu{cs:List D}:D.clean (.agg cs)=D.bf cs:=by rw[D.clean]
@[simp] theorem aez{cs:List D}:D.clean (.cN cs)=D.bf cs:=by rw[D.clean]
@[simp] theorem ab9{cs:List D}:D.clean (.bg cs)=D.bf cs:=by rw[D.clean]
@[simp] theorem aex{n:Nat}{cs:List D}:D.clean (.bV n cs)=D.bf cs:=by rw[D.clean]
@[simp] theorem afX{f:Nat}{a b:List D}:D.clean (.fn f a b)=(D.bf a && D.bf b):=by rw[D.clean]
@[simp] theorem adA:D.bf []=true:=by rw[D.bf]
@[simp] theorem abG{d:D}{ds:List D}:D.bf (d::ds)=(D.clean d && D.bf ds):=by rw[D.bf]
@[simp] theorem W7:deep=16:=aK rfl
@[simp] theorem eL{l n:Nat}{d:D}{J:SK}(h:d.clean=true)(hn:0<n):cI l n d J=(d,J):=by
 obtain⟨m,rfl⟩:∃m,n=m+1:=⟨n-1,by omega⟩;unfold cI;simp[h]
@[simp] theorem Kp{l n:Nat}{ds:List D}{J:SK}(h:D.bf ds=true)(hn:0<n):cI.frzL (cI l n) ds J=(ds,J):=by
 induction ds generalizing J with
 |nil=>rfl
 |cons d ds ih =>
  simp only[D.bf,af]at h;simp[cI.frzL,h.1,ih h.2,hn]
@[simp] theorem kR{f:D->SK->D×SK}{J:SK}:cI.frzL f [] J=([],J):=aK rfl
@[simp] theorem jP{f:D->SK->D×SK}{d:D}{ds:List D}{J:SK}:cI.frzL f (d::ds) J=((f d J).1::(cI.frzL f ds (f d J).2).1,(cI.frzL f ds (f d J).2).2):=aK rfl
theorem pZ{l n:Nat}{ds:List D}{J:SK}(h:D.bf ds=false)(hn:0<n):cI l n (.cN ds) J=(.cN (cI.frzL (cI l (n-1)) ds J).1,(cI.frzL (cI l (n-1)) ds J).2):=by
 obtain⟨m,rfl⟩:∃m,n=m+1:=⟨n-1,by omega⟩
 conv=>lhs;unfold cI
 simp[D.clean,h]
theorem EE{l n:Nat}{ds:List D}{J:SK}(h:D.bf ds=false)(hn:0<n):cI l n (.agg ds) J=(.agg (cI.frzL (cI l (n-1)) ds J).1,(cI.frzL (cI l (n-1)) ds J).2):=by
 obtain⟨m,rfl⟩:∃m,n=m+1:=⟨n-1,by omega⟩
 conv=>lhs;unfold cI
 simp[D.clean,h]
theorem FX{l n l' i v off m w:Nat}{J:SK}{cs:List D}(h:¬l'<=l)(hc:cells? J l' i v=some cs)(hn:0<n):
  cI l n (.sl l' i v off m w) J=(.bV m (cI.frzL (cI l (n-1)) ((cs.drop off).take (m*w)) (bj J l' i .dead)).1,(cI.frzL (cI l (n-1)) ((cs.drop off).take (m*w)) (bj J l' i .dead)).2):=by
 obtain⟨m,rfl⟩:∃m,n=m+1:=⟨n-1,by omega⟩
 conv=>lhs;unfold cI
 simp only[D.clean,h,hc,aD,if_false,Nat.add_sub_cancel]
@[simp] theorem adQ{l n l' i v off m w:Nat}{J:SK}(h:l'<=l)(hn:0<n):cI l n (.sl l' i v off m w) J=(.sl l' i v off m w,J):=by
 obtain⟨m,rfl⟩:∃m,n=m+1:=⟨n-1,by omega⟩
 conv=>lhs;unfold cI
 simp only[D.clean,h,if_true,aD,if_false]
@[simp] theorem abM{l n l' i v off:Nat}{J:SK}(h:l'<=l)(hn:0<n):cI l n (.ref l' i v off) J=(.ref l' i v off,J):=by
 obtain⟨m,rfl⟩:∃m,n=m+1:=⟨n-1,by omega⟩
 conv=>lhs;unfold cI
 simp only[D.clean,h,if_true,aD,if_false]
@[simp] theorem ajX{n:Nat}:(n+1+1=n)=False:=by simp;omega
@[simp] theorem ajY{n:Nat}:(n+1+1+1=n)=False:=by simp;omega
@[simp] theorem ajZ{n:Nat}:(n+1+1+1+1=n)=False:=by simp;omega
@[simp] theorem aj0{n:Nat}:(n+1+1+1+1+1=n)=False:=by simp;omega
theorem E3{a b:List D}:D.bf (a++b)=(D.bf a && D.bf b):=by
 induction a with
 |nil=>rfl
 |cons d a ih=>simp[D.bf,ih,Bool.and_assoc]
end Go.Abs
