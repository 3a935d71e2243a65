import Derived.Test.YtpapbbojmclkgaaGreatDoorBase12
import Derived.Lib.LaidTab
import Derived.LaidLaws
import Derived.Shelf.Vars
set_option linter.all false
namespace Go.Abs
open Go
theorem Tb{P:Program}{w:World}:∀{l:List (String×DataW Unit)} {ps:List MemPlace},DataW.LaidVars P w l ps->∀x∈l,
  ∃g t cs fuel p,P.globalNamed x.1=some g/\(P.globals[g]?).map (·.type)=some t/\w.var? P x.1=some cs/\DataW.trod (λ_=>()) P w 0 (λ_=>true) false fuel t cs.toList=some (x.2,p) /\
   ∀m∈MemPlace.row ⟨g,0,none⟩ cs.size,m∈ps
 |[],_,_,x,hx=>by cases hx
 |(n,d)::r,ps,h,x,hx=>by
  obtain⟨g,t,cs,fuel,p,q,h1,h2,h3,h4,h5,rfl⟩:=h;rcases bw.1 hx with rfl | hx
  .exact⟨g,t,cs,fuel,p,h1,h2,h3,h4,λm hm=>by simp[hm]⟩
  .obtain⟨g',t',cs',f',p',k1,k2,k3,k4,k5⟩:=Tb h5 x hx;exact⟨g',t',cs',f',p',k1,k2,k3,k4,λm hm=>by simp[k5 m hm]⟩
theorem Mh{P:Program}{w:World}{l:List (String×DataW Unit)}(hl:laidMet P l w){n:String}{d:DataW Unit}(hx:(n,d)∈l){b t:Nat}(hb:P.globalNamed n=some b)(ht:(P.globals[b]?).map (·.type)=some t):
  ∃cs fuel p,DataW.trod (λ_=>()) P w 0 (λ_=>true) false fuel t cs.toList=some (d,p)/\(0<cs.size->∃t',w.heap[b]?=some (.cells cs t' (0,0))):=by
 obtain⟨ps,h1,_,h2⟩:=hl;obtain⟨g,t',cs,fuel,p,k1,k2,k3,k4,k5⟩:=Tb h1 _ hx;obtain rfl:=Option.some.inj (hb.symm.trans k1);obtain rfl:=Option.some.inj (ht.symm.trans k2);refine⟨cs,fuel,p,k4,λhpos=>?_⟩;obtain⟨⟨c,t',hc⟩,_⟩:=h2 b 0 (k5 _ (by simp only[MemPlace.row,bI,List.mem_range];exact⟨0,hpos,by simp⟩));simp only[World.var?,hb,Option.bind_some,hc,ae]at k3;subst k3;exact⟨t',hc⟩
theorem S7{P:Program}{w:World}{l:List (String×DataW Unit)}(hl:laidMet P l w){n nm:String}{d:DataW Unit}(hx:(n,.iface nm d)∈l){b t:Nat}{ms:Array (String×TypeId)}(hb:P.globalNamed n=some b)
  (ht:(P.globals[b]?).map (·.type)=some t) (hu:P.underlying t=some (.interface ms)):∃c t v,w.heap[b]?=some (.cells c t (0,0))/\c[0]?=some v/\v.oneCell'=true/\ZO (.cells c t (0,0)):=by
 obtain⟨cs,fuel,p,h1,h2⟩:=Mh hl hx hb ht;obtain⟨f1,u,v,hcs,_⟩:=iface_of_trod hu h1;obtain rfl:cs = #[.iface u v]:=by rw[<- fS,hcs]
 obtain⟨t',hc⟩:=h2 (by simp);exact⟨_,t',.iface u v,hc,by simp,rfl,_,t',_,.iface u v,rfl,by simp,.inr ⟨u,v,rfl⟩⟩
theorem aac{P:Program}{w:World}{l:List (String×DataW Unit)}(hl:laidMet P l w){n:String}(hx:(n,Lib.tabData .u64 Lib.pow10Tab)∈l){b t e k:Nat}(hb:P.globalNamed n=some b)
  (ht:(P.globals[b]?).map (·.type)=some t) (hu:P.underlying t=some (.array k e)) (he:P.underlying e=some (.int .u64)) (hce:P.cellsOf e=1) (hct:P.cellsOf t=k):
  ∃c t v,w.heap[b]?=some (.cells c t (0,0))/\c[0]?=some v/\v.oneCell'=true/\adb (.cells c t (0,0)):=by
 obtain⟨cs,fuel,p,h1,h2⟩:=Mh hl hx hb ht;have hcs:=Lib.cells_of_tab hu he hce hct h1;obtain rfl:cs=(Lib.pow10Tab.map (Value.int .u64)).toArray:=by rw[<- fS,hcs]
 obtain⟨t',hc⟩:=h2 (by decide);exact⟨_,t',.int .u64 1,hc,rfl,rfl,t',_,rfl⟩
theorem aab{P:Program}{w:World}(h:w.ShapedOpen P){g t:Nat}{zero:Array Value}(hg:g<P.globals.size)(h0:((begin P (λ_ _=>0) default).world.heap[g]?).bind Obj.row?=some (zero,t))(hz:zero.size=1)
  (hb:P.buildable t=true) (hc:P.cellTypes P.depth t=some [t]) (hu:P.underlying t=some (.int .i64)):∃c t v,w.heap[g]?=some (.cells c t (0,0))/\c[0]?=some v/\v.oneCell'=true/\ada (.cells c t (0,0)):=by
 obtain⟨m,hm⟩:=Go.Proofs.cell_of_shapedOpen_int h hg h0 hz hb hc hu;obtain⟨cs,hh,_⟩:=h.1 g zero t hg h0;have h1:cs[0]?=some (.int .i64 m):=by simpa[World.cell?,hh]using hm
 exact⟨cs,t,_,hh,h1,rfl,cs,t,_,m,rfl,h1⟩
variable {T:CT} {O:cf}
theorem aK.{u}{α:Sort u}{a b:α}(h:a=b):a=b:=h
inductive Mark.{u} {α:Sort u} (a:α):Type
 |mk
def WO(O:cf)(ops:List Op)(e:Env)(J:SK)(Q:Env->SK->Prop)(_m:Mark Q:=.mk):Prop:=∃e' J',lu O ops e J=some (e',J')/\Q e' J'
def WC(O:cf)(c:b9)(e:Env)(J:SK)(Q:Exit->Env->SK->Prop)(_m:Mark c:=.mk)(_m':Mark Q:=.mk):Prop:=∃x e' J',bu O c e J=some (x,e',J')/\Q x e' J'
def WV(o:Option (D×SK))(Q:D->SK->Prop)(_m:Mark Q:=.mk):Prop:=∃d J',o=some (d,J')/\Q d J'
def WL(T:CT)(live:List Nat)(bF:Bool)(c:b9)(e:Env)(J:SK)(Q:Exit->Env->SK->Prop)(_m:Mark c:=.mk)(_m':Mark Q:=.mk):Prop:=∃x e' J',dr T (.loop live bF c e J)=some (.EX x e' J')/\Q x e' J'
theorem WO.mono{ops:List Op}{e:Env}{J:SK}{Q Q':Env->SK->Prop}(h:WO O ops e J Q)(hq:∀e J,Q e J->Q' e J):WO O ops e J Q' :=
 let ⟨e',J',h1,h2⟩:=h;⟨e',J',h1,hq _ _ h2⟩
theorem WC.mono{c:b9}{e:Env}{J:SK}{Q Q':Exit->Env->SK->Prop}(h:WC O c e J Q)(hq:∀x e J,Q x e J->Q' x e J):WC O c e J Q' :=
 let ⟨x,e',J',h1,h2⟩:=h;⟨x,e',J',h1,hq _ _ _ h2⟩
theorem WL.mono{live:List Nat}{bF:Bool}{c:b9}{e:Env}{J:SK}{Q Q':Exit->Env->SK->Prop}(h:WL T live bF c e J Q)(hq:∀x e J,Q x e J->Q' x e J):WL T live bF c e J Q' :=
 let ⟨x,e',J',h1,h2⟩:=h;⟨x,e',J',h1,hq _ _ _ h2⟩
def WD{α:Type}(o:Option α)(Q:α->Prop)(_m:Mark Q:=.mk):Prop:=∃d,o=some d/\Q d
@[simp,simp ↓] theorem I9{α:Type}{d:α}{Q:α->Prop}:WD (some d) Q=Q d:=by
 simp only[WD,ae,eq_iff_iff];exact⟨λ⟨_,h,h'⟩=>by rw[h];exact h',λh=>⟨_,rfl,h⟩⟩
@[simp,simp ↓] theorem ZS{α:Type}{Q:α->Prop}:WD none Q=False:=by simp[WD]
def O1:D->Option Bool
 |.bool b=>some b
 |_=>none
@[simp] theorem adl{b:Bool}:O1 (.bool b)=some b:=aK rfl
@[simp] theorem agw{b:Bool}:(D.bool b).bit=some (some b):=aK rfl
@[simp] theorem aix:(D.cK []).bit=some none:=aK rfl
def adx(k:IntKind):D->Option D
 |.int _ m=>some (.int k (k.wrap m))
 |_=>none
@[simp] theorem agD{k k':IntKind}{m:Int}:adx k (.int k' m)=some (.int k (k.wrap m)):=aK rfl
@[simp,simp ↓] theorem aiw{d:D}{J:SK}{Q:D->SK->Prop}:WV (some (d,J)) Q=Q d J:=by
 simp only[WV,ae,ar,eq_iff_iff];constructor
 .rintro⟨_,_,⟨rfl,rfl⟩,h⟩;exact h
 .exact λh=>⟨_,_,⟨rfl,rfl⟩,h⟩
@[simp,simp ↓] theorem aiv{Q:D->SK->Prop}:WV none Q=False:=by simp[WV]
@[simp,simp ↓] theorem ajB{e:Env}{J:SK}{Q:Env->SK->Prop}:WO O [] e J Q=Q e J:=by
 simp only[WO,lu,ae,ar,eq_iff_iff];constructor
 .rintro⟨_,_,⟨rfl,rfl⟩,h⟩;exact h
 .exact λh=>⟨_,_,⟨rfl,rfl⟩,h⟩
def akn(d:D)(w:Bool):Option Bool :=
 match d with
 |.bool b=>some (b == w)
 |_=>none
@[simp,simp ↓] theorem ajr{d:Option Nat}{g:Nat}{w n:Bool}{k:K}{r:List Op}{e:Env}{J:SK}{Q:Env->SK->Prop}:
  WO O (⟨d,some (g,w),n,k⟩::r) e J Q=WD (get e g).bit λb=>if b=some w then WO O (⟨d,none,n,k⟩::r) e J Q else WO O r (put d (.cK []) e) J Q:=by
 cases h:(get e g).bit<;>simp only[WO,lu,h,reduceCtorEq,false_and,exists_false,ZS,I9];rename_i b;by_cases hb:b=some w
 .simp only[hb,if_true];rfl
 .simp only[if_neg hb]
theorem dI{d:Option Nat}{n:Bool}{k:K}{r:List Op}{e:Env}{J:SK}{Q:Env->SK->Prop}(h:wM O ⟨d,none,n,k⟩ e J=(bR e J k).map λx=>(put d x.1 e,x.2)):
  WO O (⟨d,none,n,k⟩::r) e J Q=WV (bR e J k) λv J'=>WO O r (put d v e) J' Q:=by
 simp only[WO,lu,h,WV,eq_iff_iff];constructor
 .rintro⟨e',J',h1,h2⟩;cases hs:bR e J k with
  |none=>simp[hs]at h1
  |some y=>simp[hs]at h1;exact⟨y.1,y.2,rfl,e',J',h1,h2⟩
 .rintro⟨v,J1,h1,e',J',h2,h3⟩;exact⟨e',J',by simp[h1,h2],h3⟩
theorem lS{o:Option (D×SK)}{o':Option D}{J:SK}{Q:D->SK->Prop}(h:o=o'.map (·,J)):WV o Q=WD o' λv=>Q v J:=by
 subst h;cases o'<;>simp
def UF:D->Option D
 |.bz=>some (.int .i64 0)
 |.bT n _=>some (.int .i64 n)
 |.sl _ _ _ _ n _=>some (.int .i64 n)
 |_=>none
@[simp] theorem aft:UF .bz=some (.int .i64 0):=aK rfl
@[simp] theorem ag5{n:Nat}{cs:List D}:UF (.bT n cs)=some (.int .i64 n):=aK rfl
@[simp] theorem aiI{l i v o n w:Nat}:UF (.sl l i v o n w)=some (.int .i64 n):=aK rfl
def Qz(ag:Bool)(sz:Nat):Option (List D)->Option D
 |some cs =>
  if sz<=cs.length then
   if ag then some (.agg (cs.take sz))else
   match cs with
   |d::_=>some d
   |[]=>none
  else none
 |none=>none
@[simp] theorem ajR{sz:Nat}{cs:List D}:Qz true sz (some cs)=if sz<=cs.length then some (.agg (cs.take sz))else none:=aK rfl
@[simp] theorem aiG{d:D}{cs:List D}:Qz false 1 (some (d::cs))=some d:=by simp[Qz]
@[simp] theorem ahp{J:SK}{cs:List D}:HR J (.bg cs)=some cs:=aK rfl
@[simp] theorem aiO{J:SK}{l i v off:Nat}:HR J (.ref l i v off)=(cells? J l i v).map (·.drop off):=aK rfl
def XB(e:Env)(v:Nat)(ag:Bool)(sz a:Nat):Option D:=Qz ag sz ((qT e v a).map λx=>x.2.1.drop x.2.2)
def W3:D->Option (List D)
 |.bg cs=>some cs
 |_=>none
@[simp] theorem adv{cs:List D}:W3 (.bg cs)=some cs:=aK rfl
@[simp] theorem afq:Lh false .bz=some true:=aK rfl
@[simp] theorem ag1{n:Nat}{cs:List D}:Lh false (.bT n cs)=if n=0 then none else some false:=aK rfl
def ag7:D->Option D
 |.bg cs=>some (.bg cs)
 |.ref l i v off=>some (.ref l i v off)
 |_=>none
@[simp] theorem ag8{l i v off:Nat}:ag7 (.ref l i v off)=some (.ref l i v off):=aK rfl
def unD:UnOp->D->Option D
 |.not,.bool b=>some (.bool !b)
 |.neg,.int k n=>some (.int k (k.wrap (0-n)))
 |.xor,.int k n=>some (.int k (k.wrap ((BitVec.ofInt k.bits (if k.signed then -1 else k.max) ^^^ BitVec.ofInt k.bits n).toNat:Int)))
 |_,_=>none
theorem Qu{n:Nat}(h:n<256):unD .xor (.int .u8 n)=some (.int .u8 ((255-n:Nat):Int)):=by
 have key:∀m:Fin 256,IntKind.u8.wrap ((BitVec.ofInt 8 255 ^^^ BitVec.ofInt 8 (m.1:Int)).toNat:Int)=((255-m.1:Nat):Int):=by decide +kernel
 have:=key ⟨n,h⟩;simp only[unD];exact congrArg (λz=>some (D.int .u8 z)) this
@[simp] theorem aiY{b:Bool}:unD .not (.bool b)=some (.bool !b):=aK rfl
@[simp] theorem aiX{k:IntKind}{n:Int}:unD .neg (.int k n)=some (.int k (k.wrap (0-n))):=aK rfl
def Pb(n off:Nat):D->Option D
 |.bg cs=>some (.bg (cs.drop off))
 |.ref l i v o=>some (.ref l i v (o+off))
 |.own s _=>some (.vr n s off)
 |.vr v s o=>some (.vr v s (o+off))
 |_=>none
@[simp] theorem adF{n off:Nat}{cs:List D}:Pb n off (.bg cs)=some (.bg (cs.drop off)):=aK rfl
@[simp] theorem afh{n off l i v o:Nat}:Pb n off (.ref l i v o)=some (.ref l i v (o+off)):=aK rfl
@[simp] theorem afg{n off s:Nat}{cs:List D}:Pb n off (.own s cs)=some (.vr n s off):=aK rfl
@[simp] theorem agO{n off v s o:Nat}:Pb n off (.vr v s o)=some (.vr v s (o+off)):=aK rfl
def adH(ag:Bool)(off sz:Nat):D->Option D
 |.agg cs =>
  if off+sz<=cs.length then
   if ag then some (.agg ((cs.drop off).take sz))else cs[off]?
  else none
 |_=>none
@[simp] theorem agP{ag:Bool}{off sz:Nat}{cs:List D}:adH ag off sz (.agg cs)=if off+sz<=cs.length then(if ag then some (.agg ((cs.drop off).take sz))else cs[off]?)else none:=aK rfl
def S9(m len w:Nat)(x i:D):Option D :=
 match GN i with
 |some n =>
  if 0<=n/\n<len then
   match x with
   |.bg cs=>some (.bg ((cs.drop (n.toNat*w)).take w))
   |.ref l j v off=>some (.ref l j v (off+n.toNat*w))
   |.own s _=>some (.vr m s (n.toNat*w))
   |.vr v s o=>some (.vr v s (o+n.toNat*w))
   |_=>none
  else none
 |none=>none
@[simp] theorem adN{m len w:Nat}{cs:List D}{k:IntKind}{n:Int}:S9 m len w (.bg cs) (.int k n)=if 0<=n/\n<len then some (.bg ((cs.drop (n.toNat*w)).take w))else none:=aK rfl
@[simp] theorem afm{m len w l j v off:Nat}{k:IntKind}{n:Int}:S9 m len w (.ref l j v off) (.int k n)=if 0<=n/\n<len then some (.ref l j v (off+n.toNat*w))else none:=aK rfl
def PA(w:Nat)(x i:D):Option D :=
 match x,GN i with
 |.bT m cs,some n=>if 0<=n/\n<m then some (.bg ((cs.drop (n.toNat*w)).take w))else none
 |.sl l j v off m w',some n=>if 0<=n/\n<m/\w'=w then some (.ref l j v (off+n.toNat*w))else none
 |_,_=>none
@[simp] theorem afn{w m:Nat}{cs:List D}{k:IntKind}{n:Int}:PA w (.bT m cs) (.int k n)=if 0<=n/\n<m then some (.bg ((cs.drop (n.toNat*w)).take w))else none:=aK rfl
@[simp] theorem agY{w l j v off m w':Nat}{k:IntKind}{n:Int}:PA w (.sl l j v off m w') (.int k n)=if 0<=n/\n<m/\w'=w then some (.ref l j v (off+n.toNat*w))else none:=aK rfl
def Xo(ag:Bool)(len w:Nat)(x i:D):Option D :=
 match x,GN i with
 |.agg cs,some n =>
  if 0<=n/\n<len/\(n.toNat+1)*w<=cs.length then
   if ag then some (.agg ((cs.drop (n.toNat*w)).take w))else cs[n.toNat*w]?
  else none
 |_,_=>none
@[simp] theorem afo{ag:Bool}{len w:Nat}{cs:List D}{k:IntKind}{n:Int}:Xo ag len w (.agg cs) (.int k n)=if 0<=n/\n<len/\(n.toNat+1)*w<=cs.length then(if ag then some (.agg ((cs.drop (n.toNat*w)).take w))else cs[n.toNat*w]?)else none:=aK rfl
def mnD(x y:D):Option D :=
 match x,y with
 |.int k a,.int _ b=>some (.int k (min a b))
 |_,_=>none
@[simp] theorem aiJ{k k':IntKind}{a b:Int}:mnD (.int k a) (.int k' b)=some (.int k (min a b)):=aK rfl
def mxD(x y:D):Option D :=
 match x,y with
 |.int k a,.int _ b=>some (.int k (max a b))
 |_,_=>none
@[simp] theorem aiK{k k':IntKind}{a b:Int}:mxD (.int k a) (.int k' b)=some (.int k (max a b)):=aK rfl
def agM(x:D)(i:Nat):Option D :=
 match x with
 |.cK ds=>ds[i]?
 |_=>none
@[simp] theorem agN{ds:List D}{i:Nat}:agM (.cK ds) i=ds[i]?:=aK rfl
def adE(ag:Bool)(ks:List (Option IntKind))(neg:Bool)(x y:D):Option D :=
 match x.row ag,y.row ag with
 |some p,some q=>(Cg ks p q).map λb => .bool (if neg then !b else b)
 |_,_=>none
@[simp] theorem aiA{ks:List (Option IntKind)}{neg:Bool}{p q:List D}:adE true ks neg (.agg p) (.agg q)=(Cg ks p q).map λb => .bool (if neg then !b else b):=aK rfl
@[simp] theorem ahr:Cg [] [] []=some true:=aK rfl
@[simp] theorem ahq{k k1 k2:IntKind}{ks:List (Option IntKind)}{a b:Int}{x y:List D}:Cg (some k::ks) (.int k1 a::x) (.int k2 b::y)=if k1=k/\k2=k then(Cg ks x y).map (a == b && ·)else none:=aK rfl
def aa0(w:Nat)(x:D)(e:Env)(lo hi mx:Option bP):Option D :=
 match x with
 |.bT n cs=>(bounds n e lo hi mx).map λb => .bT (b.2-b.1) ((cs.drop (b.1*w)).take ((b.2-b.1)*w))
 |.sl l i v off n w'=>if w'=w then(bounds n e lo hi mx).map λb => .sl l i v (off+b.1*w) (b.2-b.1) w else none
 |.bz=>(bounds 0 e lo hi mx).map λ_ => .bz
 |_=>none
@[simp] theorem ah2{w n:Nat}{cs:List D}{e:Env}{lo hi mx:Option bP}:aa0 w (.bT n cs) e lo hi mx=(bounds n e lo hi mx).map λb => .bT (b.2-b.1) ((cs.drop (b.1*w)).take ((b.2-b.1)*w)):=aK rfl
@[simp] theorem aiQ{w l i v off n w':Nat}{e:Env}{lo hi mx:Option bP}:aa0 w (.sl l i v off n w') e lo hi mx=if w'=w then(bounds n e lo hi mx).map λb => .sl l i v (off+b.1*w) (b.2-b.1) w else none:=aK rfl
section bins
variable {k:IntKind} {a b:Int}
@[simp] theorem agk:u6 .add (.int k a) (.int k b)=some (.int k (k.wrap (a+b))):=by simp[u6]
@[simp] theorem agv:u6 .sub (.int k a) (.int k b)=some (.int k (k.wrap (a-b))):=by simp[u6]
@[simp] theorem agq:u6 .mul (.int k a) (.int k b)=some (.int k (k.wrap (a*b))):=by simp[u6]
@[simp] theorem ags:u6 .quo (.int k a) (.int k b)=if b≠0 then some (.int k (k.wrap (a.tdiv b)))else none:=by simp[u6]
@[simp] theorem agt:u6 .rem (.int k a) (.int k b)=if b≠0 then some (.int k (a.tmod b))else none:=by simp[u6]
@[simp] theorem agu{k':IntKind}:u6 .shr (.int k a) (.int k' b)=if b<0 then none else some (.int k (a.fdiv (2^(min b.toNat k.bits)))):=aK rfl
@[simp] theorem agl:u6 .eql (.int k a) (.int k b)=some (.bool (a == b)):=by simp[u6]
@[simp] theorem agr:u6 .neq (.int k a) (.int k b)=some (.bool (a != b)):=by simp[u6]
@[simp] theorem agp:u6 .lss (.int k a) (.int k b)=some (.bool (decide (a<b))):=by simp[u6]
@[simp] theorem ago:u6 .leq (.int k a) (.int k b)=some (.bool (decide (a<=b))):=by simp[u6]
@[simp] theorem agn:u6 .gtr (.int k a) (.int k b)=some (.bool (decide (b<a))):=by simp[u6]
@[simp] theorem agm:u6 .geq (.int k a) (.int k b)=some (.bool (decide (b<=a))):=by simp[u6]
end bins
@[simp] theorem aaW:D.strip .undef=.undef:=aK rfl
@[simp] theorem ab9{b:Bool}:D.strip (.bool b)=.bool b:=aK rfl
@[simp] theorem aeB{k:IntKind}{n:Int}:D.strip (.int k n)=.int k n:=aK rfl
@[simp] theorem aeE{s:List UInt8}:D.strip (.str s)=.str s:=aK rfl
@[simp] theorem aez{cs:List D}:D.strip (.agg cs)=.agg cs:=aK rfl
@[simp] theorem aeF{cs:List D}:D.strip (.cK cs)=.cK cs:=aK rfl
@[simp] theorem aeD{l i v o:Nat}:D.strip (.ref l i v o)=.ref l i v o:=aK rfl
@[simp] theorem aca{cs:List D}:D.strip (.bg cs)=.bg cs:=aK rfl
@[simp] theorem acd:D.strip .bz=.bz:=aK rfl
@[simp] theorem aeC{n:Nat}{cs:List D}:D.strip (.bT n cs)=.bT n cs:=aK rfl
@[simp] theorem afT{l i v o n w:Nat}:D.strip (.sl l i v o n w)=.sl l i v o n w:=aK rfl
@[simp] theorem afS{f:Nat}{a b:List D}:D.strip (.fn f a b)=.fn f a b:=aK rfl
@[simp] theorem aeA{t:Nat}{d:D}:D.strip (.ui t d)=.ui t d:=aK rfl
@[simp] theorem acb:D.strip .nK=.nK:=aK rfl
@[simp] theorem afG{t:Nat}{d:D}:D.calm (.ui t d)=.ui t d:=aK rfl
@[simp] theorem aef:D.calm .nK=.nK:=aK rfl
@[simp] theorem aeG{l i:Nat}:D.strip (.jU l i)=.jU l i:=aK rfl
@[simp] theorem ab2:D.calm .undef=.undef:=aK rfl
@[simp] theorem aed{b:Bool}:D.calm (.bool b)=.bool b:=aK rfl
@[simp] theorem afH{k:IntKind}{n:Int}:D.calm (.int k n)=.int k n:=aK rfl
@[simp] theorem afL{s:List UInt8}:D.calm (.str s)=.str s:=aK rfl
@[simp] theorem afF{cs:List D}:D.calm (.agg cs)=.agg cs:=aK rfl
@[simp] theorem afK{l i v o:Nat}:D.calm (.ref l i v o)=.ref l i v o:=aK rfl
@[simp] theorem aee{cs:List D}:D.calm (.bg cs)=.bg cs:=aK rfl
@[simp] theorem aeg:D.calm .bz=.bz:=aK rfl
@[simp] theorem afI{n:Nat}{cs:List D}:D.calm (.bT n cs)=.bT n cs:=aK rfl
@[simp] theorem aho{l i v o n w:Nat}:D.calm (.sl l i v o n w)=.sl l i v o n w:=aK rfl
@[simp] theorem ahn{f:Nat}{a b:List D}:D.calm (.fn f a b)=.fn f a b:=aK rfl
@[simp] theorem afM{l i:Nat}:D.calm (.jU l i)=.jU l i:=aK rfl
@[simp] theorem afJ{s:Nat}{cs:List D}:D.calm (.own s cs)=.own 0 cs:=aK rfl
@[simp] theorem ab3{b:Bool}:D.cells (.bool b)=some [.bool b]:=aK rfl
@[simp] theorem aei{k:IntKind}{n:Int}:D.cells (.int k n)=some [.int k n]:=aK rfl
@[simp] theorem ael{s:List UInt8}:D.cells (.str s)=some [.str s]:=aK rfl
@[simp] theorem aeh{cs:List D}:D.cells (.agg cs)=some cs:=aK rfl
@[simp] theorem aek{l i v o:Nat}:D.cells (.ref l i v o)=some [.ref l i v o]:=aK rfl
@[simp] theorem ab4:D.cells .bz=some [.bz]:=aK rfl
@[simp] theorem aej{n:Nat}{cs:List D}:D.cells (.bT n cs)=some [.bT n cs]:=aK rfl
@[simp] theorem afO{l i v o n w:Nat}:D.cells (.sl l i v o n w)=some [.sl l i v o n w]:=aK rfl
@[simp] theorem afN{f:Nat}{a b:List D}:D.cells (.fn f a b)=some [.fn f a b]:=aK rfl
@[simp] theorem aem{l i:Nat}:D.cells (.jU l i)=some [.jU l i]:=aK rfl
@[simp] theorem agZ{k:IntKind}{n:Int}:GN (.int k n)=some n:=aK rfl
@[simp] theorem pn{O:cf}{kp:Bool}{f:Nat}{first cap args:List D}{J:SK}:oi O kp (.fn f first cap) args J=R.dz (O (.call kp f (first++args++cap) J)):=aK rfl
@[simp] theorem afc{O:cf}{kp:Bool}{l i:Nat}{args:List D}{J:SK}:oi O kp (.jU l i) args J=R.dz (O (.round l i args J)):=aK rfl
@[simp] theorem aib{d:D}{J:SK}:R.dz (some (.val d J))=some (d,J):=aK rfl
section ops
variable {d:Option Nat} {n:Bool} {r:List Op} {e:Env} {J:SK} {Q:Env->SK->Prop}
@[simp,simp ↓] theorem aki{x:bP}:WO O (⟨d,none,n,.mv x⟩::r) e J Q=WO O r (put d (bB e x) e) J Q:=by rw[dI rfl];simp[bR]
@[simp,simp ↓] theorem ait{w:Nat}:WO O (⟨d,none,n,.KA w⟩::r) e J Q=WV (bR e J (.KA w)) λv J'=>WO O r (put d v e) J' Q:=dI rfl
@[simp,simp ↓] theorem ajd{nb:List (Nat×Nat)}{cs:List D}:WO O (⟨d,none,n,.Ug nb cs⟩::r) e J Q=WV (bR e J (.Ug nb cs)) λv J'=>WO O r (put d v e) J' Q:=dI rfl
@[simp,simp ↓] theorem aiu{c a b:bP}:WO O (⟨d,none,n,.pick c a b⟩::r) e J Q=WD (O1 (bB e c)) λt=>WO O r (put d (if t then bB e a else bB e b) e) J Q:=by
 rw[dI rfl];simp only[bR];cases bB e c<;>simp[O1]
@[simp,simp ↓] theorem aik{x:bP}:WO O (⟨d,none,n,.K9 x⟩::r) e J Q=WD (bB e x).cells λcs=>WO O r (put d (.bg cs) e) J Q:=by
 rw[dI rfl];simp only[bR];cases(bB e x).cells<;>simp
@[simp,simp ↓] theorem ail{x:bP}:WO O (⟨d,none,n,.La x⟩::r) e J Q=WV (bR e J (.La x)) λv J'=>WO O r (put d v e) J' Q:=dI rfl
@[simp,simp ↓] theorem ajl{nb:List (Nat×Nat)}{x:bP}:WO O (⟨d,none,n,.YO nb x⟩::r) e J Q=WV (bR e J (.YO nb x)) λv J'=>WO O r (put d v e) J' Q:=dI rfl
@[simp,simp ↓] theorem aji{z:List D}{ps:List (Nat×Nat×bP)}:WO O (⟨d,none,n,.K8 z ps⟩::r) e J Q=WD (iO e ps z) λcs=>WO O r (put d (.agg cs) e) J Q:=by
 rw[dI rfl];simp only[bR];cases iO e ps z<;>simp
@[simp,simp ↓] theorem ajj{m w:Nat}{z:List D}{ps:List (Nat×Nat×bP)}:WO O (⟨d,none,n,.YN m w z ps⟩::r) e J Q=WD (iO e ps z) λcs=>WO O r (put d (.bT m cs) e) J Q:=by
 rw[dI rfl];simp only[bR];cases iO e ps z<;>simp
@[simp,simp ↓] theorem ajk{m w:Nat}{z:List D}{ps:List (Nat×Nat×bP)}:WO O (⟨d,none,n,.WU m w z ps⟩::r) e J Q=WV (bR e J (.WU m w z ps)) λv J'=>WO O r (put d v e) J' Q:=dI rfl
@[simp,simp ↓] theorem ake{ag:Bool}{sz:Nat}{a:bP}:WO O (⟨d,none,n,.ld ag sz a⟩::r) e J Q=WD (Qz ag sz (HR J (bB e a))) λv=>WO O r (put d v e) J Q:=by
 rw[dI rfl];refine lS ?_;simp only[bR];cases HR J (bB e a)with
 |none=>rfl
 |some cs =>
  simp only[Qz];split
  .cases ag
   .cases cs<;>rfl
   .rfl
  .rfl
theorem aaM{J:SK}{l i off:Nat}:Vi J (.ref l i 0 off)=HR J (.ref l i 0 off):=rfl
@[simp,simp ↓] theorem aju{ag:Bool}{sz:Nat}{a:bP}:WO O (⟨d,none,n,.Ve ag sz a⟩::r) e J Q=WD (Qz ag sz (Vi J (bB e a))) λv=>WO O r (put d v e) J Q:=by
 rw[dI rfl];refine lS ?_;simp only[bR];cases Vi J (bB e a)with
 |none=>rfl
 |some cs =>
  simp only[Qz];split
  .cases ag
   .cases cs<;>rfl
   .rfl
  .rfl
@[simp,simp ↓] theorem ajv{ag:Bool}{sz:Nat}{a:bP}:WO O (⟨d,none,n,.Vf ag sz a⟩::r) e J Q=WD (Qz ag sz (W3 (bB e a))) λv=>WO O r (put d v e) J Q:=by
 rw[dI rfl];refine lS ?_;simp only[bR];cases bB e a with
 |bg cs =>
  simp only[W3,Qz];split
  .cases ag
   .cases cs<;>rfl
   .rfl
  .rfl
 |_=>rfl
@[simp,simp ↓] theorem ajt{ps neg:Bool}{x:bP}:WO O (⟨d,none,n,.isn ps neg x⟩::r) e J Q=WD (Lh ps (bB e x)) λb=>WO O r (put d (.bool (if neg then !b else b)) e) J Q:=by
 rw[dI rfl];simp only[bR];cases Lh ps (bB e x)<;>simp
@[simp,simp ↓] theorem ajA{x:bP}:WO O (⟨d,none,n,.nck x⟩::r) e J Q=WD (ag7 (bB e x)) λv=>WO O r (put d v e) J Q:=by
 rw[dI rfl];refine lS ?_;simp only[bR];cases bB e x<;>rfl
@[simp,simp ↓] theorem akk{nb:List (Nat×Nat)}{sz:Nat}{a x:bP}:WO O (⟨d,none,n,.st nb sz a x⟩::r) e J Q=WV (bR e J (.st nb sz a x)) λv J'=>WO O r (put d v e) J' Q:=dI rfl
@[simp,simp ↓] theorem ajw{v:Nat}{ag:Bool}{sz a:Nat}:WO O (⟨d,none,n,.Vg v ag sz a⟩::r) e J Q=WD (XB e v ag sz a) λv=>WO O r (put d v e) J Q:=by
 rw[dI rfl];refine lS ?_;simp only[bR,XB];cases qT e v a with
 |none=>rfl
 |some x =>
  obtain⟨s,cs,off⟩:=x;simp only[Qz,aZ];split
  .cases ag
   .cases cs.drop off<;>rfl
   .rfl
  .rfl
@[simp,simp ↓] theorem ajh{o:BinOp}{x y:bP}:WO O (⟨d,none,n,.bin o x y⟩::r) e J Q=WD (u6 o (bB e x) (bB e y)) λv=>WO O r (put d v e) J Q:=by
 rw[dI rfl];simp only[bR];cases u6 o (bB e x) (bB e y)<;>simp
@[simp,simp ↓] theorem ajo{ag:Bool}{ks:List (Option IntKind)}{neg:Bool}{x y:bP}:WO O (⟨d,none,n,.eqv ag ks neg x y⟩::r) e J Q=WD (adE ag ks neg (bB e x) (bB e y)) λv=>WO O r (put d v e) J Q:=by
 rw[dI rfl];refine lS ?_;simp only[bR,adE];cases(bB e x).row ag<;>cases(bB e y).row ag<;>simp[Option.map_map,Function.comp_def]
@[simp,simp ↓] theorem akl{o:UnOp}{x:bP}:WO O (⟨d,none,n,.un o x⟩::r) e J Q=WD (unD o (bB e x)) λv=>WO O r (put d v e) J Q:=by
 rw[dI rfl];refine lS ?_;simp only[bR];cases o<;>cases bB e x<;>rfl
@[simp,simp ↓] theorem ajn{k:IntKind}{x:bP}:WO O (⟨d,none,n,.W4 k x⟩::r) e J Q=WD (adx k (bB e x)) λv=>WO O r (put d v e) J Q:=by
 rw[dI rfl];simp only[bR];cases bB e x<;>simp[adx]
@[simp,simp ↓] theorem ajC{p:Pu}{xs:List bP}:WO O (⟨d,none,n,.I2 p xs⟩::r) e J Q=WD (ia p (xs.map (bB e))) λv=>WO O r (put d v e) J Q:=by
 rw[dI rfl];simp only[bR];cases ia p (xs.map (bB e))<;>simp
@[simp,simp ↓] theorem akf{p:Me}{xs:List bP}:WO O (⟨d,none,n,.me p xs⟩::r) e J Q=WV (Vh J p (xs.map (bB e))) λv J'=>WO O r (put d v e) J' Q:=dI rfl
@[simp,simp ↓] theorem akh{p:Mo}{xs:List bP}:WO O (⟨d,none,n,.mp p xs⟩::r) e J Q=WV (Dc J p (xs.map (bB e))) λv J'=>WO O r (put d v e) J' Q:=dI rfl
@[simp,simp ↓] theorem ajy{t:Nat}{x:bP}:WO O (⟨d,none,n,.XN t x⟩::r) e J Q=WO O r (put d (.ui t (bB e x)) e) J Q:=by rw[dI rfl];simp[bR]
@[simp,simp ↓] theorem ajF{t:Nat}{z:Option D}{x:bP}:WO O (⟨d,none,n,.YU t z x⟩::r) e J Q=WD (R4 t z (bB e x)) λv=>WO O r (put d v e) J Q:=by
 rw[dI rfl];simp only[bR];cases R4 t z (bB e x)<;>simp
@[simp,simp ↓] theorem ajs{neg:Bool}{x:bP}:WO O (⟨d,none,n,.isi neg x⟩::r) e J Q=WD (Xu (bB e x)) λb=>WO O r (put d (.bool (if neg then !b else b)) e) J Q:=by
 rw[dI rfl];simp only[bR];cases Xu (bB e x)<;>simp
@[simp] theorem afp:Xu .nK=some true:=aK rfl
@[simp] theorem ag0{t:Nat}{d:D}:Xu (.ui t d)=some false:=aK rfl
@[simp] theorem ah5{t t':Nat}{z d:D}:R4 t (some z) (.ui t' d)=some (if t'=t then .cK [d,.bool true]else .cK [z,.bool false]):=aK rfl
@[simp,simp ↓] theorem ajx{f:Nat}{xs ys:List bP}:WO O (⟨d,none,n,.XM f xs ys⟩::r) e J Q=WO O r (put d (.fn f (xs.map (bB e)) (ys.map (bB e))) e) J Q:=by rw[dI rfl];simp[bR]
@[simp,simp ↓] theorem ajz{w b:Nat}{z:List D}{l c:bP}:WO O (⟨d,none,n,.YR w b z l c⟩::r) e J Q=WV (bR e J (.YR w b z l c)) λv J'=>WO O r (put d v e) J' Q:=dI rfl
@[simp,simp ↓] theorem ajD{w:Nat}{x:bP}{lo hi mx:Option bP}:WO O (⟨d,none,n,.Vj w x lo hi mx⟩::r) e J Q=WD (aa0 w (bB e x) e lo hi mx) λv=>WO O r (put d v e) J Q:=by
 rw[dI rfl];refine lS ?_;simp only[bR,aa0];cases bB e x<;>first | rfl | (simp only[];split<;>simp[Option.map_map,Function.comp_def]) | simp[Option.map_map,Function.comp_def]
@[simp,simp ↓] theorem aio{off m:Nat}:WO O (⟨d,none,n,.Lc off (.t m)⟩::r) e J Q=WD (Pb m off (get e m)) λv=>WO O r (put d v e) J Q:=by
 rw[dI rfl];refine lS ?_;simp only[bR];cases get e m<;>rfl
@[simp,simp ↓] theorem ajq{ag:Bool}{off sz:Nat}{x:bP}:WO O (⟨d,none,n,.fld ag off sz x⟩::r) e J Q=WD (adH ag off sz (bB e x)) λv=>WO O r (put d v e) J Q:=by
 rw[dI rfl];refine lS ?_;simp only[bR];cases bB e x<;>first | rfl | (simp only[adH];split<;>cases ag<;>simp)
@[simp,simp ↓] theorem aip{l w m:Nat}{i:bP}:WO O (⟨d,none,n,.Lf l w (.t m) i⟩::r) e J Q=WD (S9 m l w (get e m) (bB e i)) λv=>WO O r (put d v e) J Q:=by
 rw[dI rfl];refine lS ?_;simp only[bR,S9];cases GN (bB e i)with
 |none=>rfl
 |some k=>simp only[];split<;>cases get e m<;>rfl
@[simp,simp ↓] theorem aiq{w:Nat}{x i:bP}:WO O (⟨d,none,n,.HG w x i⟩::r) e J Q=WD (PA w (bB e x) (bB e i)) λv=>WO O r (put d v e) J Q:=by
 rw[dI rfl];refine lS ?_;simp only[bR,PA];cases GN (bB e i)with
 |none=>cases bB e x<;>rfl
 |some k=>cases bB e x<;>first | rfl | (simp only[];split<;>rfl)
@[simp,simp ↓] theorem air{ag:Bool}{l w:Nat}{x i:bP}:WO O (⟨d,none,n,.Nq ag l w x i⟩::r) e J Q=WD (Xo ag l w (bB e x) (bB e i)) λv=>WO O r (put d v e) J Q:=by
 rw[dI rfl];refine lS ?_;simp only[bR,Xo];cases GN (bB e i)with
 |none=>cases bB e x<;>rfl
 |some k=>cases bB e x<;>first | rfl | (simp only[];split<;>cases ag<;>simp)
@[simp,simp ↓] theorem ais{x:bP}:WO O (⟨d,none,n,.Li x⟩::r) e J Q=WD (UF (bB e x)) λv=>WO O r (put d v e) J Q:=by
 rw[dI rfl];refine lS ?_;simp only[bR];cases bB e x<;>rfl
@[simp,simp ↓] theorem akg{x y:bP}:WO O (⟨d,none,n,.mn x y⟩::r) e J Q=WD (mnD (bB e x) (bB e y)) λv=>WO O r (put d v e) J Q:=by
 rw[dI rfl];refine lS ?_;simp only[bR];cases bB e x<;>cases bB e y<;>rfl
@[simp,simp ↓] theorem akj{x y:bP}:WO O (⟨d,none,n,.mx x y⟩::r) e J Q=WD (mxD (bB e x) (bB e y)) λv=>WO O r (put d v e) J Q:=by
 rw[dI rfl];refine lS ?_;simp only[bR];cases bB e x<;>cases bB e y<;>rfl
@[simp,simp ↓] theorem ajg{w b:Nat}{s x:bP}:WO O (⟨d,none,n,.YM w b s x⟩::r) e J Q=WV (bR e J (.YM w b s x)) λv J'=>WO O r (put d v e) J' Q:=dI rfl
@[simp,simp ↓] theorem aje{os:List Nat}{w b:Nat}{s x:bP}:WO O (⟨d,none,n,.Ui os w b s x⟩::r) e J Q=WV (bR e J (.Ui os w b s x)) λv J'=>WO O r (put d v e) J' Q:=dI rfl
@[simp,simp ↓] theorem ajf{w b:Nat}{s x:bP}:WO O (⟨d,none,n,.app w b s x⟩::r) e J Q=WV (bR e J (.app w b s x)) λv J'=>WO O r (put d v e) J' Q:=dI rfl
@[simp,simp ↓] theorem ajm{w b:Nat}{x:bP}:WO O (⟨d,none,n,.YP w b x⟩::r) e J Q=WV (bR e J (.YP w b x)) λv J'=>WO O r (put d v e) J' Q:=dI rfl
@[simp,simp ↓] theorem ajp{x:bP}{i:Nat}:WO O (⟨d,none,n,.ext x i⟩::r) e J Q=WD (agM (bB e x) i) λv=>WO O r (put d v e) J Q:=by
 rw[dI rfl];refine lS ?_;simp only[bR];cases bB e x<;>rfl
@[simp,simp ↓] theorem ain{kp:Bool}{f:bP}{args:List bP}:WO O (⟨d,none,n,.call kp f args⟩::r) e J Q =
  WV (oi O kp (bB e f) (args.map (bB e)) J) λv J'=>(n=true->J'=J)/\WO O r (put d v e) J' Q:=by
 simp only[WO,lu,wM,WV,eq_iff_iff];cases hc:oi O kp (bB e f) (args.map (bB e)) J with
 |none=>simp
 |some y =>
  obtain⟨v,J1⟩:=y;by_cases hn:n=true->J1=J
  .simp only[if_pos hn,Option.bind_some,ae,ar];exact⟨λh=>⟨v,J1,⟨rfl,rfl⟩,hn,h⟩,λ⟨_,_,⟨h1,h2⟩,_,h⟩=>by subst h1 h2;exact h⟩
  .simp only[if_neg hn,Option.bind_none,reduceCtorEq,false_and,exists_false,ae,ar,false_iff];rintro⟨_,_,⟨h1,h2⟩,h,_⟩;subst h1 h2;exact hn h
@[simp,simp ↓] theorem aij{nb:List (Nat×Nat)}{cs:List D}:WO O (⟨d,none,n,.B7 nb cs⟩::r) e J Q=WD d λv=>WD (kj nb cs J) λy=>WO O r ((v,.own (uy e v) y.1)::e) y.2 Q:=by
 cases d with
 |none=>simp[WO,lu,wM]
 |some v=>cases h:kj nb cs J with
  |none=>simp[WO,lu,wM,h]
  |some y=>obtain⟨a,b⟩:=y;simp only[WO,lu,wM,h,Option.bind_some,I9]
@[simp,simp ↓] theorem aim{x:bP}:WO O (⟨d,none,n,.FM x⟩::r) e J Q=WD d λv=>WD (bB e x).cells λcs=>WO O r ((v,.own (uy e v) cs)::e) J Q:=by
 cases d with
 |none=>simp[WO,lu,wM]
 |some v=>cases h:(bB e x).cells with
  |none=>simp[WO,lu,wM,h]
  |some y=>simp only[WO,lu,wM,h,Option.bind_some,I9]
def ae4(e:Env)(J:SK)(v:Nat)(nb:List (Nat×Nat))(sz a:Nat)(x:bP):Option (D×SK) :=
 match qT e v a,(bB e x).cells with
 |some (s,cs,off),some p =>
  if p.length=sz/\off+sz<=cs.length then
   match kj nb p J with
   |some (p',J')=>some (.own s (cs.take off++p'++cs.drop (off+sz)),J')
   |none=>none
  else none
 |_,_=>none
@[simp,simp ↓] theorem ajE{v:Nat}{nb:List (Nat×Nat)}{sz a:Nat}{x:bP}:WO O (⟨d,none,n,.H5 v nb sz a x⟩::r) e J Q =
  WV (ae4 e J v nb sz a x) λy J'=>WO O r ((v,y)::e) J' Q:=by
 simp only[WO,lu,wM,ae4];cases h1:qT e v a with
 |none=>simp
 |some p =>
  obtain⟨s,cs,off⟩:=p;cases h2:(bB e x).cells with
  |none=>simp
  |some p =>
   dsimp only;split
   .cases h3:kj nb p J with
    |none=>simp
    |some y=>obtain⟨a,b⟩:=y;simp[WO]
   .simp
end ops
section code
variable {e:Env} {J:SK} {Q:Exit->Env->SK->Prop}
@[simp,simp ↓] theorem ai9:WC O .Ji e J Q=Q .normal e J:=by
 simp only[WC,bu,ae,ar,eq_iff_iff];exact⟨λ⟨_,_,_,⟨h1,h2,h3⟩,h⟩=>by subst h1 h2 h3;exact h,λh=>⟨_,_,_,⟨rfl,rfl,rfl⟩,h⟩⟩
@[simp,simp ↓] theorem ai7{vs:List Nat}:WC O (.cF vs) e J Q=Q .normal (vd vs e J).1 (vd vs e J).2:=by
 simp only[WC,bu,ae,ar,eq_iff_iff];exact⟨λ⟨_,_,_,⟨h1,h2,h3⟩,h⟩=>by subst h1 h2 h3;exact h,λh=>⟨_,_,_,⟨rfl,rfl,rfl⟩,h⟩⟩
@[simp,simp ↓] theorem aih{i:Nat}:WC O (.exit i) e J Q=Q (.exit i) e J:=by
 simp only[WC,bu,ae,ar,eq_iff_iff];exact⟨λ⟨_,_,_,⟨h1,h2,h3⟩,h⟩=>by subst h1 h2 h3;exact h,λh=>⟨_,_,_,⟨rfl,rfl,rfl⟩,h⟩⟩
@[simp,simp ↓] theorem ajb:WC O .ret e J Q=Q .ret e J:=by
 simp only[WC,bu,ae,ar,eq_iff_iff];exact⟨λ⟨_,_,_,⟨h1,h2,h3⟩,h⟩=>by subst h1 h2 h3;exact h,λh=>⟨_,_,_,⟨rfl,rfl,rfl⟩,h⟩⟩
@[simp,simp ↓] theorem aja{live:List Nat}{ops:List Op}:WC O (.si live ops) e J Q=WO O ops e J λe' J'=>Q .normal (restrict live e') J':=by
 simp only[WC,bu,WO,ad,ar,eq_iff_iff];constructor
 .rintro⟨x,e',J',⟨⟨e1,J1⟩,h1,rfl,rfl,rfl⟩,h⟩;exact⟨e1,J1,h1,h⟩
 .rintro⟨e',J',h1,h⟩;exact⟨_,_,_,⟨⟨e',J'⟩,h1,rfl,rfl,rfl⟩,h⟩
def Qr(O:cf)(b:b9)(Q:Exit->Env->SK->Prop)(_m:Mark b:=.mk)(_m':Mark Q:=.mk):Exit->Env->SK->Prop
 |.normal,e,J=>WC O b e J Q
 |.exit i,e,J=>Q (.exit i) e J
 |.ret,e,J=>Q .ret e J
 |.fu d,e,J=>Q (.fu d) e J
@[simp,simp ↓] theorem afV{b:b9}{d:D}:Qr O b Q .mk .mk (.fu d) e J=Q (.fu d) e J:=aK rfl
@[simp,simp ↓] theorem abg{b:b9}:Qr O b Q .mk .mk .normal e J=WC O b e J Q:=aK rfl
@[simp,simp ↓] theorem ae7{b:b9}{i:Nat}:Qr O b Q .mk .mk (.exit i) e J=Q (.exit i) e J:=aK rfl
@[simp,simp ↓] theorem afU{b:b9}:Qr O b Q .mk .mk .ret e J=Q .ret e J:=aK rfl
@[simp,simp ↓] theorem ajc{a b:b9}:WC O (.seq a b) e J Q=WC O a e J (Qr O b Q .mk .mk):=by
 simp only[WC,bu,ak,eq_iff_iff];constructor
 .rintro⟨x,e',J',⟨⟨x1,e1,J1⟩,h1,h2⟩,h⟩;refine⟨x1,e1,J1,h1,?_⟩;cases x1 with
  |normal=>exact⟨x,e',J',h2,h⟩
  |exit i=>cases h2;exact h
  |ret=>cases h2;exact h
  |fu d=>cases h2;exact h
 .rintro⟨x1,e1,J1,h1,h⟩;cases x1 with
  |normal=>obtain⟨x,e',J',h2,h3⟩:=h;exact⟨x,e',J',⟨_,h1,h2⟩,h3⟩
  |exit i=>exact⟨_,_,_,⟨_,h1,rfl⟩,h⟩
  |ret=>exact⟨_,_,_,⟨_,h1,rfl⟩,h⟩
  |fu d=>exact⟨_,_,_,⟨_,h1,rfl⟩,h⟩
@[simp,simp ↓] theorem ai8{c:bP}{a b:b9}:WC O (.ite c a b) e J Q=WD (O1 (bB e c)) λt=>if t=true then WC O a e J Q else WC O b e J Q:=by
 simp only[WC,bu];cases bB e c<;>simp[O1];rename_i t;cases t<;>simp
def RB(id:Nat)(Q:Exit->Env->SK->Prop)(_m:Mark Q:=.mk):Exit->Env->SK->Prop
 |.normal,e,J=>Q .normal e J
 |.exit i,e,J=>if i=id then Q .normal e J else Q (.exit i) e J
 |.ret,e,J=>Q .ret e J
 |.fu d,e,J=>Q (.fu d) e J
@[simp,simp ↓] theorem ahd{id:Nat}{d:D}:RB id Q .mk (.fu d) e J=Q (.fu d) e J:=aK rfl
@[simp,simp ↓] theorem abV{id:Nat}:RB id Q .mk .normal e J=Q .normal e J:=aK rfl
@[simp,simp ↓] theorem afD{id i:Nat}:RB id Q .mk (.exit i) e J=if i=id then Q .normal e J else Q (.exit i) e J:=aK rfl
@[simp,simp ↓] theorem ahc{id:Nat}:RB id Q .mk .ret e J=Q .ret e J:=aK rfl
@[simp,simp ↓] theorem ai6{id:Nat}{a:b9}:WC O (.dJ id a) e J Q=WC O a e J (RB id Q .mk):=by
 simp only[WC,bu,ad,eq_iff_iff];constructor
 .rintro⟨x,e',J',⟨⟨x1,e1,J1⟩,h1,h2⟩,h⟩;refine⟨x1,e1,J1,h1,?_⟩;cases x1 with
  |normal=>cases h2;exact h
  |exit i =>
   simp only[RB];dsimp only at h2;split at h2<;>cases h2
   .rw[if_pos (by assumption)];exact h
   .rw[if_neg (by assumption)];exact h
  |ret=>cases h2;exact h
  |fu d=>cases h2;exact h
 .rintro⟨x1,e1,J1,h1,h⟩;cases x1 with
  |normal=>exact⟨_,_,_,⟨_,h1,rfl⟩,h⟩
  |exit i =>
   simp only[RB]at h;split at h
   .exact⟨_,_,_,⟨_,h1,by dsimp only;rw[if_pos (by assumption)]⟩,h⟩
   .exact⟨_,_,_,⟨_,h1,by dsimp only;rw[if_neg (by assumption)]⟩,h⟩
  |ret=>exact⟨_,_,_,⟨_,h1,rfl⟩,h⟩
  |fu d=>exact⟨_,_,_,⟨_,h1,rfl⟩,h⟩
theorem Uo(d:D):d.calm.calm=d.calm:=by cases d<;>rfl
theorem Lk{live:List Nat}{e:Env}{t:Nat}:get (restrict live e) t=if t∈live then(get e t).calm else .undef:=by
 induction live with
 |nil=>simp[restrict,get]
 |cons a l ih =>
  simp only[restrict,aM,get,bw];by_cases h:a=t
  .subst h;simp
  .have h':¬t=a:=λx=>h x.symm
   simp only[if_neg h,h',false_or];exact ih
theorem Ao{live:List Nat}{e:Env}:restrict live (restrict live e)=restrict live e:=by
 simp only[restrict,List.map_inj_left,ar,true_and];intro t ht;have:=Lk (live:=live) (e:=e) (t:=t);simp only[restrict]at this;rw[this,if_pos ht,Uo]
theorem xB{live:List Nat}{bF:Bool}{c:b9}:dF T O (.loop live bF c (restrict live e) J)=dF T O (.loop live bF c e J):=by
 simp only[dF,Ao]
theorem Ai{live:List Nat}{bF:Bool}{c:b9}{r:R}(h:dr T (.loop live bF c (restrict live e) J)=some r):dr T (.loop live bF c e J)=some r:=by
 obtain⟨n,h⟩:=xT.1 h;cases n with
 |zero=>cases h
 |succ n =>
  rw[it,xB]at h;exact xT.2 ⟨n+1,h⟩
theorem FV{live:List Nat}{bF:Bool}{c:b9}{r:R}(h:dr T (.loop live bF c e J)=some r):dr T (.loop live bF c (restrict live e) J)=some r:=by
 obtain⟨n,h⟩:=xT.1 h;cases n with
 |zero=>cases h
 |succ n =>
  rw[it,<- xB]at h;exact xT.2 ⟨n+1,h⟩
theorem Q3{r:Option R}{x:Exit}{e:Env}{J:SK}(h:R.Up r=some (x,e,J)):r=some (.EX x e J):=by
 unfold R.Up at h;split at h
 .cases h;rfl
 .cases h
@[simp,simp ↓] theorem aii{live:List Nat}{bF:Bool}{c:b9}:WC (dr T) (.loop live bF c) e J Q=WL T live bF c (restrict live e) J Q:=by
 simp only[WC,bu,WL,eq_iff_iff];constructor
 .rintro⟨x,e',J',h1,h⟩;cases hl:dr T (.loop live bF c e J)with
  |none=>rw[hl]at h1;cases h1
  |some r =>
   rw[hl]at h1;cases r<;>cases h1;exact⟨_,_,_,FV hl,h⟩
 .rintro⟨x,e',J',h1,h⟩;exact⟨x,e',J',by rw[Ai h1];rfl,h⟩
def PQ(T:CT)(live:List Nat)(c:b9)(Q:Exit->Env->SK->Prop)(_m:Mark c:=.mk)(_m':Mark Q:=.mk):Exit->Env->SK->Prop
 |.normal,e,J=>WL T live false c (restrict live e) J Q
 |.exit i,e,J=>Q (.exit i) e J
 |.ret,e,J=>Q .ret e J
 |.fu d,e,J=>Q (.fu d) e J
@[simp,simp ↓] theorem afB{live:List Nat}{c:b9}{d:D}:PQ T live c Q .mk .mk (.fu d) e J=Q (.fu d) e J:=aK rfl
@[simp,simp ↓] theorem aaC{live:List Nat}{c:b9}:PQ T live c Q .mk .mk .normal e J=WL T live false c (restrict live e) J Q:=aK rfl
@[simp,simp ↓] theorem adX{live:List Nat}{c:b9}{i:Nat}:PQ T live c Q .mk .mk (.exit i) e J=Q (.exit i) e J:=aK rfl
@[simp,simp ↓] theorem afA{live:List Nat}{c:b9}:PQ T live c Q .mk .mk .ret e J=Q .ret e J:=aK rfl
theorem aA{live:List Nat}{c c':b9}(hc:c=c')(h:WC (dr T) c' (restrict live e) J (PQ T live c Q .mk .mk)):WL T live false c e J Q:=by
 rw[<- hc]at h;obtain⟨x,e1,J1,h1,h2⟩:=h;cases x with
 |normal =>
  obtain⟨x,e',J',h3,h4⟩:=h2;exact⟨x,e',J',gS (by simp[dF,h1,Ai h3]),h4⟩
 |exit i=>exact⟨_,_,_,gS (by simp[dF,h1]),h2⟩
 |ret=>exact⟨_,_,_,gS (by simp[dF,h1]),h2⟩
 |fu d=>exact⟨_,_,_,gS (by simp[dF,h1]),h2⟩
def Q7(J:SK)(res:List F5)(d:D)(x:Exit)(e:Env)(J1:SK):Prop :=
 (∀i,x ≠ .exit i)/\(∀d,x ≠ .fu d)/\∃ds,BR e J1 res=some ds/\∃s,cF (J.length-1) deep (uj ds) J1=(d,s::J)
@[simp,simp ↓] theorem abE{J1:SK}{res:List F5}{d:D}:Q7 J res d .normal e J1=∃ds,BR e J1 res=some ds/\∃s,cF (J.length-1) deep (uj ds) J1=(d,s::J):=by simp[Q7]
@[simp,simp ↓] theorem agI{J1:SK}{res:List F5}{d:D}:Q7 J res d .ret e J1=∃ds,BR e J1 res=some ds/\∃s,cF (J.length-1) deep (uj ds) J1=(d,s::J):=by simp[Q7]
theorem nR{f:Nat}{fn:Fn}{args:List D}{J:SK}{d:D}{np:Nat}{res:List F5}{body:b9}(hT:T f=some fn)(hf:fn=⟨np,res,body⟩)(hl:args.length=np)
  (h:WC (dr T) body (lG 0 args) ([]::J) (Q7 J res d)):
  dr T (.call false f args J)=some (.val d J):=by
 subst hf;obtain⟨x,e1,J1,h1,h2,h2',ds,h3,s,h4⟩:=h;refine gS ?_;simp only[dF,hT,if_pos hl,aD,if_false,h1];cases x with
 |exit i=>exact absurd rfl (h2 i)
 |fu d=>exact absurd rfl (h2' d)
 |normal=>simp[h3,h4]
 |ret=>simp[h3,h4]
theorem au{f:Nat}{fn:Fn}{args:List D}{J:SK}{d:D}{np:Nat}{res:List F5}{body:b9}(h:WC (dr T) body (lG 0 args) ([]::J) (Q7 J res d))(hT:T f=some fn:=by exact rfl)(hf:fn=⟨np,res,body⟩:=by exact rfl)(hl:args.length=np:=by exact rfl):dr T (.call false f args J)=some (.val d J):=nR hT hf hl h
def adB(J:SK)(d:D)(x:Exit)(e:Env)(J1:SK):Prop:=x=.fu d/\d.clean=true/\∃s,J1=s::J
@[simp,simp ↓] theorem agK{J1:SK}{d d':D}:adB J d (.fu d') e J1=(d'=d/\d.clean=true/\∃s,J1=s::J):=by simp[adB]
theorem dX{f:Nat}{fn:Fn}{args:List D}{J:SK}{d:D}{np:Nat}{res:List F5}{body:b9}(hT:T f=some fn)(hf:fn=⟨np,res,body⟩)(hl:args.length=np)
  (h:WC (dr T) body (lG 0 args) ([]::J) (adB J d)):
  dr T (.call false f args J)=some (.fu d J):=by
 subst hf;obtain⟨x,e1,J1,h1,rfl,hc,s,rfl⟩:=h;refine gS ?_;simp only[dF,hT,if_pos hl,aD,if_false,h1];simp[R5,hc]
def WR(r:Option R)(Qn Qt:D->SK->Prop)(_m:Mark Qn:=.mk)(_m':Mark Qt:=.mk):Prop:=(∃d J',r=some (.val d J')/\Qn d J')\/∃d J',r=some (.fu d J')/\Qt d J'
@[simp,simp ↓] theorem adh{d:D}{J':SK}{Qn Qt:D->SK->Prop}:WR (some (.val d J')) Qn Qt=Qn d J':=by
 simp only[WR,ae,R.val.injEq,reduceCtorEq,false_and,exists_false,or_false,eq_iff_iff];exact⟨λ⟨_,_,⟨h1,h2⟩,h⟩=>by subst h1 h2;exact h,λh=>⟨_,_,⟨rfl,rfl⟩,h⟩⟩
@[simp,simp ↓] theorem adg{d:D}{J':SK}{Qn Qt:D->SK->Prop}:WR (some (.fu d J')) Qn Qt=Qt d J':=by
 simp only[WR,ae,R.fu.injEq,reduceCtorEq,false_and,exists_false,false_or,eq_iff_iff];exact⟨λ⟨_,_,⟨h1,h2⟩,h⟩=>by subst h1 h2;exact h,λh=>⟨_,_,⟨rfl,rfl⟩,h⟩⟩
def ad7:D->Option D
 |.ui t d=>if d.clean then some (.ui t d)else none
 |_=>none
@[simp] theorem PT{t:Nat}{d:D}:ad7 (.ui t d)=if d.clean then some (.ui t d)else none:=aK rfl
@[simp] theorem agA{O:cf}{f:Nat}{first cap args:List D}{J:SK}:CU O (.fn f first cap) args J=O (.call false f (first++args++cap) J):=aK rfl
@[simp,simp ↓] theorem ZR{live:List Nat}{pre post:List Op}{dst:Option Nat}{n:Bool}{f:bP}{args:List bP}:WC O (.Qs live pre ⟨dst,none,n,.call false f args⟩ post) e J Q =
  WO O pre e J λe1 J1=>WR (CU O (bB e1 f) (args.map (bB e1)) J1) (λd J2=>WO O post (put dst d e1) J2 λe' J'=>Q .normal (restrict live e') J') (λd J2=>Q (.fu d) e1 J2):=by
 simp only[WC,WO,bu,IX,ak,eq_iff_iff];constructor
 .rintro⟨x,e',J',⟨⟨e1,J1⟩,h1,h2⟩,h⟩;refine⟨e1,J1,h1,?_⟩;dsimp only at h2;cases hc:CU O (bB e1 f) (args.map (bB e1)) J1 with
  |none=>rw[hc]at h2;simp[uE]at h2
  |some r =>
   rw[hc]at h2;cases r with
   |EX=>simp[uE]at h2
   |fu d J2=>simp only[uE,ae,ar]at h2;obtain⟨rfl,rfl,rfl⟩:=h2;rw[adg];exact h
   |val d J2 =>
    simp only[uE,ad]at h2;obtain⟨⟨e3,J3⟩,h3,h4⟩:=h2;cases h4;rw[adh];exact⟨e3,J3,h3,h⟩
 .rintro⟨e1,J1,h1,h⟩;rcases h with⟨d,J2,h2,e3,J3,h3,h4⟩ | ⟨d,J2,h2,h4⟩
  .exact⟨.normal,_,J3,⟨(e1,J1),h1,by simp only[h2,uE,h3,aZ]⟩,h4⟩
  .exact⟨.fu d,e1,J2,⟨(e1,J1),h1,by simp only[h2,uE]⟩,h4⟩
@[simp,simp ↓] theorem abz{live:List Nat}{pre post:List Op}{dst:Option Nat}{n:Bool}{x:bP}:WC O (.Qs live pre ⟨dst,none,n,.XZ x⟩ post) e J Q =
  WO O pre e J λe1 J1=>WD (ad7 (bB e1 x)) λd=>Q (.fu d) e1 J1:=by
 simp only[WC,WO,bu,IX,ak,eq_iff_iff];constructor
 .rintro⟨x',e',J',⟨⟨e1,J1⟩,h1,h2⟩,h⟩;refine⟨e1,J1,h1,?_⟩;dsimp only at h2;cases hx:bB e1 x<;>rw[hx]at h2<;>try (cases h2;done)
  dsimp only at h2;split at h2
  .rename_i hc;cases h2;simp only[PT,hc,if_true,I9];exact h
  .cases h2
 .rintro⟨e1,J1,h1,d,h2,h⟩;refine⟨.fu d,e1,J1,⟨(e1,J1),h1,?_⟩,h⟩;dsimp only;cases hx:bB e1 x<;>rw[hx]at h2<;>try (cases h2;done)
  simp only[PT]at h2;split at h2
  .rename_i hc;cases h2;simp[hc]
  .cases h2
def WM(T:CT)(live:List Nat)(it:bP)(nx ok b:Nat)(c rest:b9)(e:Env)(J:SK)(Q:Exit->Env->SK->Prop)(_m:Mark c:=.mk)(_m':Mark rest:=.mk)(_m'':Mark Q:=.mk):Prop:=∃x e' J',dr T (.iq live it nx ok b c rest e J)=some (.EX x e' J')/\Q x e' J'
theorem WM.mono{live:List Nat}{it:bP}{nx ok b:Nat}{c rest:b9}{Q':Exit->Env->SK->Prop}(h:WM T live it nx ok b c rest e J Q)(hq:∀x e J,Q x e J->Q' x e J):WM T live it nx ok b c rest e J Q' :=
 let ⟨x,e',J',h1,h2⟩:=h;⟨x,e',J',h1,hq _ _ _ h2⟩
theorem wH{live:List Nat}{it:bP}{nx ok b:Nat}{c rest:b9}:dF T O (.iq live it nx ok b c rest (restrict live e) J)=dF T O (.iq live it nx ok b c rest e J):=by
 simp only[dF,Ao]
theorem sT{live:List Nat}{it:bP}{nx ok b:Nat}{c rest:b9}{r:R}:dr T (.iq live it nx ok b c rest (restrict live e) J)=some r↔dr T (.iq live it nx ok b c rest e J)=some r:=by
 constructor<;>intro h<;>obtain⟨n,h⟩:=xT.1 h<;>cases n<;>first | (cases h;done) | skip
 .rw[Abs.it,wH]at h;exact xT.2 ⟨_+1,h⟩
 .rw[Abs.it,<- wH]at h;exact xT.2 ⟨_+1,h⟩
@[simp,simp ↓] theorem age{live:List Nat}{it:bP}{nx ok b:Nat}{c rest:b9}:WC (dr T) (.iq live it nx ok b c rest) e J Q=WM T live it nx ok b c rest (restrict live e) J Q:=by
 simp only[WC,bu,WM,eq_iff_iff];constructor
 .rintro⟨x,e',J',h1,h⟩;exact⟨_,_,_,sT.2 (Q3 h1),h⟩
 .rintro⟨x,e',J',h1,h⟩;exact⟨x,e',J',by rw[sT.1 h1];rfl,h⟩
def Mq(T:CT)(live:List Nat)(it:bP)(l i nx ok b:Nat)(c rest:b9)(r:R)(_m:Mark c:=.mk)(_m':Mark rest:=.mk):Exit->Env->SK->Prop
 |.normal,e,J=>dr T (.iq live it nx ok b c rest (restrict live e) J)=some r
 |.exit j,e,J=>if j=b then WC (dr T) rest e (bj J l i .dead) λx e' J'=>r=.EX x e' J' else r=.EX (.exit j) e (bj J l i .dead)
 |.ret,e,J=>r=.EX .ret e (bj J l i .dead)
 |.fu _,_,_=>False
@[simp,simp ↓] theorem aaD{live:List Nat}{it:bP}{l i nx ok b:Nat}{c rest:b9}{r:R}:Mq T live it l i nx ok b c rest r .mk .mk .normal e J=(dr T (.iq live it nx ok b c rest (restrict live e) J)=some r):=aK rfl
@[simp,simp ↓] theorem Rx{live:List Nat}{it:bP}{l i nx ok b j:Nat}{c rest:b9}{r:R}:Mq T live it l i nx ok b c rest r .mk .mk (.exit j) e J=if j=b then WC (dr T) rest e (bj J l i .dead) λx e' J'=>r=.EX x e' J' else r=.EX (.exit j) e (bj J l i .dead):=aK rfl
@[simp,simp ↓] theorem UQ{live:List Nat}{it:bP}{l i nx ok b:Nat}{c rest:b9}{r:R}:Mq T live it l i nx ok b c rest r .mk .mk .ret e J=(r=.EX .ret e (bj J l i .dead)):=aK rfl
theorem Nu{l i b:Nat}{rest:b9}{r:R}{x:Exit}{e1:Env}{J1:SK}{live:List Nat}{it:bP}{nx ok:Nat}{c:b9}(hx:x ≠ .normal)(h:Mq T live it l i nx ok b c rest r .mk .mk x e1 J1):za (dr T) l i b rest (some (x,e1,J1))=some r:=by
 cases x with
 |normal=>exact absurd rfl hx
 |fu d=>exact h.elim
 |ret=>simp only[UQ]at h;subst h;rfl
 |exit j =>
  simp only[Rx]at h;simp only[za];split at h
  .rename_i hj;obtain⟨x',e',J',h1,rfl⟩:=h;rw[if_pos hj,h1];rfl
  .rename_i hj;subst h;rw[if_neg hj]
theorem XO{live:List Nat}{it:bP}{l i nx ok b:Nat}{c c' rest rest':b9}{r:R}{m:D}{n:Nat}{js:List D}{us:List Nat}(hcc:c=c')(hrr:rest=rest')(hit:bB (restrict live e) it=.jU l i)(hd:IJ J l i=some (m,n,js,us))(hne:us≠[])
  (h:∀u∈us,WC (dr T) c' ((ok,.bool true)::(nx,.undef)::restrict live e) (bj J l i (.cells 1 (m::.int .i64 (n:Nat)::.int .i64 (u:Nat)::js))) (Mq T live it l i nx ok b c rest' r .mk .mk)):
  dr T (.iq live it nx ok b c rest e J)=some r:=by
 subst hcc hrr;refine gS ?_;simp only[dF,hit,hd];have key:∀u∈us,Db (dr T) live it l i nx ok b c rest (bu (dr T) c ((ok,.bool true)::(nx,.undef)::restrict live e) (bj J l i (.cells 1 (m::.int .i64 (n:Nat)::.int .i64 (u:Nat)::js))))=some r:=by
  intro u hu;obtain⟨x,e1,J1,h1,h2⟩:=h u hu;rw[h1];cases x with
  |normal=>exact sT.1 h2
  |exit j=>exact Nu (x:=.exit j) (by simp) h2
  |ret=>exact Nu (x:=.ret) (by simp) h2
  |fu d=>exact h2.elim
 cases us with
 |nil=>exact absurd rfl hne
 |cons u us=>exact LM (by simp) key
theorem UN{live:List Nat}{it:bP}{l i nx ok b:Nat}{c c' rest rest':b9}{r:R}{m:D}{n:Nat}{js:List D}(hcc:c=c')(hrr:rest=rest')(hit:bB (restrict live e) it=.jU l i)(hd:IJ J l i=some (m,n,js,[]))
  (h:WC (dr T) c' ((ok,.bool false)::(nx,.undef)::restrict live e) J λx e1 J1=>x ≠ .normal/\Mq T live it l i nx ok b c rest' r .mk .mk x e1 J1):
  dr T (.iq live it nx ok b c rest e J)=some r:=by
 subst hcc hrr;refine gS ?_;simp only[dF,hit,hd];obtain⟨x,e1,J1,h1,hx,h2⟩:=h;rw[h1];exact Nu hx h2
def ae6:Exit->Option (Option D)
 |.normal=>some none
 |.ret=>some none
 |.fu d=>some (some d)
 |.exit _=>none
@[simp] theorem ah7:ae6 .ret=some none:=aK rfl
@[simp] theorem ah8{d:D}:ae6 (.fu d)=some (some d):=aK rfl
noncomputable def wN(T:CT)(fv:D)(args:List D)(th:Option D)(J:SK):Option SK :=
 match pq (dr T) fv args th J with
 |some (.val _ J')=>some J'
 |_=>none
theorem u7{f:Nat}{first cap args:List D}{th:Option D}{J J':SK}{d:D}(h:dr T (.zG f (first++args++cap) th J)=some (.val d J')):wN T (.fn f first cap) args th J=some J':=by
 simp only[wN,pq,h]
def O9(T:CT)(fv:D)(args:List D)(J:SK)(res:List F5)(d:D)(x:Exit)(e:Env)(J1:SK):Prop :=
 WD (ae6 x) λth=>WD (wN T fv args th J1) λJ2=>∃ds,BR e J2 res=some ds/\∃s,cF (J.length-1) deep (uj ds) J2=(d,s::J)
def toD(T:CT)(f:bP)(args:List bP)(q:b9)(J:SK)(res:List F5)(d:D)(x:Exit)(e:Env)(J1:SK)(_m:Mark q:=.mk):Prop :=
 x=.normal/\WC (dr T) q e J1 (O9 T (bB e f) (args.map (bB e)) J res d)
theorem O3{f:Nat}{fn:Fn}{args:List D}{J:SK}{d:D}{np:Nat}{res:List F5}{body A q:b9}{fo:bP}{as:List bP}(hT:T f=some fn)(hf:fn=⟨np,res,body⟩)(hl:args.length=np)(hs:iy body=some (A,fo,as,q))
  (h:WC (dr T) A (lG 0 args) ([]::J) (toD T fo as q J res d)):
  dr T (.call false f args J)=some (.val d J):=by
 subst hf;obtain⟨x,e1,J1,h1,rfl,x2,e2,J2,h2,th,h3,J3,h4,ds,h5,s,h6⟩:=h;refine gS ?_;have hn:bu (dr T) body (lG 0 args) ([]::J)=none:=Aq hs h1;simp only[dF,hT,if_pos hl,aD,if_false,hn,hs,Bj,h1,h2];have h4':∃dv,pq (dr T) (bB e1 fo) (as.map (bB e1)) th J2=some (.val dv J3):=by
  unfold wN at h4;split at h4
  .rename_i h7;cases h4;exact⟨_,h7⟩
  .cases h4
 obtain⟨dv,h4'⟩:=h4';cases x2 with
 |exit i=>cases h3
 |normal=>cases h3;simp only[Bl,h4',va,leave,h5,h6]
 |ret=>cases h3;simp only[Bl,h4',va,leave,h5,h6]
 |fu d=>cases h3;simp only[Bl,h4',va,leave,h5,h6]
def adC(J':SK)(res:List F5)(x:Exit)(e:Env)(J1:SK):Prop :=
 (∀i,x ≠ .exit i)/\(∀d,x ≠ .fu d)/\BR e J1 res=some []/\∃s,J1=s::J'
@[simp,simp ↓] theorem abG{J' J1:SK}{res:List F5}:adC J' res .normal e J1=(BR e J1 res=some []/\∃s,J1=s::J'):=by simp[adC]
theorem Dp{f:Nat}{fn:Fn}{args:List D}{th:Option D}{J J':SK}{np:Nat}{res:List F5}{body q:b9}{e0:Env}(hT:T f=some fn)(hf:fn=⟨np,res,body⟩)(hl:args.length=np)(hr:rI th args body=some (e0,q))
  (h:WC (dr T) q e0 ([]::J) (adC J' res)):dr T (.zG f args th J)=some (.val (.cK []) J'):=by
 subst hf;obtain⟨x,e1,J1,h1,h2,h2',h3,s,rfl⟩:=h;refine gS ?_;simp only[dF,hT,if_pos hl,hr,h1];cases x with
 |exit i=>exact absurd rfl (h2 i)
 |fu d=>exact absurd rfl (h2' d)
 |normal=>simp[h3]
 |ret=>simp[h3]
end code
@[simp] theorem agX{k t:Nat}{v:D}{r:Env}:get ((k,v)::r) t=if k=t then v else get r t:=aK rfl
@[simp] theorem ahm{t:Nat}{v:D}{e:Env}:put (some t) v e=(t,v)::e:=aK rfl
@[simp] theorem ahl{v:D}{e:Env}:put none v e=e:=aK rfl
@[simp] theorem aha{e:Env}{n:Nat}:bB e (.t n)=(get e n).strip:=aK rfl
@[simp] theorem aks{e:Env}{d:D}:bB e (.c d)=d:=aK rfl
@[simp] theorem aaR{e:Env}:restrict [] e=[]:=aK rfl
@[simp] theorem YS{t:Nat}{l:List Nat}{e:Env}:restrict (t::l) e=(t,(get e t).calm)::restrict l e:=aK rfl
@[simp] theorem afv{n:Nat}:lG n []=[]:=aK rfl
@[simp] theorem adQ{n:Nat}{d:D}{ds:List D}:lG n (d::ds)=(n,d)::lG (n+1) ds:=aK rfl
section
variable {e:Env} {J:SK}
@[simp] theorem ahs:BR e J []=some []:=aK rfl
@[simp] theorem afR{r:F5}{rs:List F5}:BR e J (r::rs)=(KK e J r).bind λd=>(BR e J rs).map λds=>d::ds:=aK rfl
@[simp] theorem aj3{n:Nat}:KK e J (.t n)=some (get e n).strip:=aK rfl
@[simp] theorem aj2{n sz:Nat}{ag:Bool}:KK e J (.c n ag sz)=Qz ag sz (HR J (get e n).strip):=by
 simp only[KK,bR,aha];cases HR J (get e n).strip with
 |none=>rfl
 |some cs =>
  simp only[Qz];split
  .cases ag
   .cases cs<;>rfl
   .rfl
  .rfl
@[simp] theorem aj4{n sz:Nat}{ag:Bool}:KK e J (.v n ag sz)=XB e n ag sz n:=by
 simp only[KK,bR,XB];cases qT e n n with
 |none=>rfl
 |some x =>
  obtain⟨s,cs,off⟩:=x;simp only[Qz,aZ];split
  .cases ag
   .cases cs.drop off<;>rfl
   .rfl
  .rfl
@[simp] theorem afx{d:D}:uj [d]=d:=aK rfl
@[simp] theorem afw:uj []=.cK []:=aK rfl
@[simp] theorem afy{d d':D}{ds:List D}:uj (d::d'::ds)=.cK (d::d'::ds):=aK rfl
@[simp] theorem afi{cs:List D}:iO e [] cs=some cs:=aK rfl
@[simp] theorem adG{off sz:Nat}{x:bP}{r:List (Nat×Nat×bP)}{cs:List D}:iO e ((off,sz,x)::r) cs =
  ((bB e x).cells.bind λp=>if p.length=sz/\off+sz<=cs.length then some (cs.take off++p++cs.drop (off+sz))else none).bind (iO e r):=by
 simp only[iO];cases(bB e x).cells with
 |none=>rfl
 |some p=>dsimp only [Option.bind_some];split<;>rfl
@[simp] theorem adz{w:Nat}:elems J w .bz=some (0,[]):=aK rfl
@[simp] theorem afe{w:Nat}{s:List UInt8}:elems J w (.str s)=if w=1 then some (s.length,strCells s)else none:=aK rfl
@[simp] theorem afd{w n:Nat}{cs:List D}:elems J w (.bT n cs)=if cs.length=n*w then some (n,cs)else none:=aK rfl
end
attribute [simp] bR M3 kj fR qT uy ae4 XB BV bounds D.row cells? dZ eT bj gT
@[simp] theorem ab5{b:Bool}:D.clean (.bool b)=true:=by rw[D.clean]
@[simp] theorem aep{k:IntKind}{n:Int}:D.clean (.int k n)=true:=by rw[D.clean]
@[simp] theorem aer{s:List UInt8}:D.clean (.str s)=true:=by rw[D.clean]
@[simp] theorem ab8:D.clean .bz=true:=by rw[D.clean]
@[simp] theorem aeo{t:Nat}{d:D}:D.clean (.ui t d)=D.clean d:=by rw[D.clean]
@[simp] theorem ab7:D.clean .pR=true:=by rw[D.clean]
@[simp] theorem afQ{l i v o n w:Nat}:D.clean (.sl l i v o n w)=false:=by rw[D.clean]
@[simp] theorem aen{cs:List D}:D.clean (.agg cs)=D.bf cs:=by rw[D.clean]
@[simp] theorem aes{cs:List D}:D.clean (.cK cs)=D.bf cs:=by rw[D.clean]
@[simp] theorem ab6{cs:List D}:D.clean (.bg cs)=D.bf cs:=by rw[D.clean]
@[simp] theorem aeq{n:Nat}{cs:List D}:D.clean (.bT n cs)=D.bf cs:=by rw[D.clean]
@[simp] theorem afP{f:Nat}{a b:List D}:D.clean (.fn f a b)=(D.bf a && D.bf b):=by rw[D.clean]
@[simp] theorem adu:D.bf []=true:=by rw[D.bf]
@[simp] theorem abD{d:D}{ds:List D}:D.bf (d::ds)=(D.clean d && D.bf ds):=by rw[D.bf]
@[simp] theorem W6:deep=16:=aK rfl
@[simp] theorem ek{l n:Nat}{d:D}{J:SK}(h:d.clean=true)(hn:0<n):cF l n d J=(d,J):=by
 obtain⟨m,rfl⟩:∃m,n=m+1:=⟨n-1,by omega⟩;unfold cF;simp[h]
@[simp] theorem Kj{l n:Nat}{ds:List D}{J:SK}(h:D.bf ds=true)(hn:0<n):cF.frzL (cF l n) ds J=(ds,J):=by
 induction ds generalizing J with
 |nil=>rfl
 |cons d ds ih =>
  simp only[D.bf,af]at h;simp[cF.frzL,h.1,ih h.2,hn]
@[simp] theorem j9{f:D->SK->D×SK}{J:SK}:cF.frzL f [] J=([],J):=aK rfl
@[simp] theorem jb{f:D->SK->D×SK}{d:D}{ds:List D}{J:SK}:cF.frzL f (d::ds) J=((f d J).1::(cF.frzL f ds (f d J).2).1,(cF.frzL f ds (f d J).2).2):=aK rfl
theorem o4{l n:Nat}{ds:List D}{J:SK}(h:D.bf ds=false)(hn:0<n):cF l n (.cK ds) J=(.cK (cF.frzL (cF l (n-1)) ds J).1,(cF.frzL (cF l (n-1)) ds J).2):=by
 obtain⟨m,rfl⟩:∃m,n=m+1:=⟨n-1,by omega⟩
 conv=>lhs;unfold cF
 simp[D.clean,h]
theorem Ew{l n:Nat}{ds:List D}{J:SK}(h:D.bf ds=false)(hn:0<n):cF l n (.agg ds) J=(.agg (cF.frzL (cF l (n-1)) ds J).1,(cF.frzL (cF l (n-1)) ds J).2):=by
 obtain⟨m,rfl⟩:∃m,n=m+1:=⟨n-1,by omega⟩
 conv=>lhs;unfold cF
 simp[D.clean,h]
theorem FP{l n l' i v off m w:Nat}{J:SK}{cs:List D}(h:¬l'<=l)(hc:cells? J l' i v=some cs)(hn:0<n):
  cF l n (.sl l' i v off m w) J=(.bT m (cF.frzL (cF l (n-1)) ((cs.drop off).take (m*w)) (bj J l' i .dead)).1,(cF.frzL (cF l (n-1)) ((cs.drop off).take (m*w)) (bj J l' i .dead)).2):=by
 obtain⟨m,rfl⟩:∃m,n=m+1:=⟨n-1,by omega⟩
 conv=>lhs;unfold cF
 simp only[D.clean,h,hc,aD,if_false,Nat.add_sub_cancel]
@[simp] theorem adK{l n l' i v off m w:Nat}{J:SK}(h:l'<=l)(hn:0<n):cF l n (.sl l' i v off m w) J=(.sl l' i v off m w,J):=by
 obtain⟨m,rfl⟩:∃m,n=m+1:=⟨n-1,by omega⟩
 conv=>lhs;unfold cF
 simp only[D.clean,h,if_true,aD,if_false]
@[simp] theorem abJ{l n l' i v off:Nat}{J:SK}(h:l'<=l)(hn:0<n):cF l n (.ref l' i v off) J=(.ref l' i v off,J):=by
 obtain⟨m,rfl⟩:∃m,n=m+1:=⟨n-1,by omega⟩
 conv=>lhs;unfold cF
 simp only[D.clean,h,if_true,aD,if_false]
@[simp] theorem ajS{n:Nat}:(n+1+1=n)=False:=by simp;omega
@[simp] theorem ajT{n:Nat}:(n+1+1+1=n)=False:=by simp;omega
@[simp] theorem ajU{n:Nat}:(n+1+1+1+1=n)=False:=by simp;omega
@[simp] theorem ajV{n:Nat}:(n+1+1+1+1+1=n)=False:=by simp;omega
theorem EV{a b:List D}:D.bf (a++b)=(D.bf a && D.bf b):=by
 induction a with
 |nil=>rfl
 |cons d a ih=>simp[D.bf,ih,Bool.and_assoc]
end Go.Abs
