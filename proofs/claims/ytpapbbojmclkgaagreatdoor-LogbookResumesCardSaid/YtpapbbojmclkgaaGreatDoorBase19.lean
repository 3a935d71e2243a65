import Derived.Test.YtpapbbojmclkgaaGreatDoorBase12
import Derived.Lib.LaidTab
import Derived.LaidLaws
import Derived.Shelf.Vars
set_option linter.all false
namespace Go.aw
open Go
theorem UH{P:Program}{w:World}:∀{l:List (String×DataW Unit)} {ps:List MemPlace},DataW.LaidVars P w l ps->∀x∈l,
  ∃g t cs fuel p,P.globalNamed x.1=some g/\(P.globals[g]?).map (·.type)=some t/\w.var? P x.1=some cs/\DataW.trod (λ_=>()) P w 0 (λ_=>true) false fuel t cs.toList=some (x.2,p) /\
   ∀m∈MemPlace.row ⟨g,0,none⟩ cs.size,m∈ps
 |[],_,_,x,hx=>by cases hx
 |(n,d)::r,ps,h,x,hx=>by
  obtain⟨g,t,cs,fuel,p,q,h1,h2,h3,h4,h5,rfl⟩:=h;rcases bz.1 hx with rfl | hx
  .exact⟨g,t,cs,fuel,p,h1,h2,h3,h4,λm hm=>by simp[hm]⟩
  .obtain⟨g',t',cs',f',p',k1,k2,k3,k4,k5⟩:=UH h5 x hx;exact⟨g',t',cs',f',p',k1,k2,k3,k4,λm hm=>by simp[k5 m hm]⟩
theorem Nt{P:Program}{w:World}{l:List (String×DataW Unit)}(hl:laidMet P l w){n:String}{d:DataW Unit}(hx:(n,d)∈l){b t:Nat}(hb:P.globalNamed n=some b)(ht:(P.globals[b]?).map (·.type)=some t):
  ∃cs fuel p,DataW.trod (λ_=>()) P w 0 (λ_=>true) false fuel t cs.toList=some (d,p)/\(0<cs.size->∃t',w.heap[b]?=some (.cells cs t' (0,0))):=by
 obtain⟨ps,h1,_,h2⟩:=hl;obtain⟨g,t',cs,fuel,p,k1,k2,k3,k4,k5⟩:=UH h1 _ hx;obtain rfl:=Option.some.inj (hb.symm.trans k1);obtain rfl:=Option.some.inj (ht.symm.trans k2);refine⟨cs,fuel,p,k4,λhpos=>?_⟩;obtain⟨⟨c,t',hc⟩,_⟩:=h2 b 0 (k5 _ (by simp only[MemPlace.row,bO,List.mem_range];exact⟨0,hpos,by simp⟩));simp only[World.var?,hb,Option.bind_some,hc,ae]at k3;subst k3;exact⟨t',hc⟩
theorem UD{P:Program}{w:World}{l:List (String×DataW Unit)}(hl:laidMet P l w){n nm:String}{d:DataW Unit}(hx:(n,.iface nm d)∈l){b t:Nat}{ms:Array (String×TypeId)}(hb:P.globalNamed n=some b)
  (ht:(P.globals[b]?).map (·.type)=some t) (hu:P.underlying t=some (.interface ms)):∃c t v,w.heap[b]?=some (.cells c t (0,0))/\c[0]?=some v/\v.oneCell'=true/\abx (.cells c t (0,0)):=by
 obtain⟨cs,fuel,p,h1,h2⟩:=Nt hl hx hb ht;obtain⟨f1,u,v,hcs,_⟩:=iface_of_trod hu h1;obtain rfl:cs = #[.iface u v]:=by rw[<- fV,hcs]
 obtain⟨t',hc⟩:=h2 (by simp);exact⟨_,t',.iface u v,hc,by simp,rfl,_,t',_,.iface u v,rfl,by simp,.inr ⟨u,v,rfl⟩⟩
theorem abY{P:Program}{w:World}{l:List (String×DataW Unit)}(hl:laidMet P l w){n:String}(hx:(n,Lib.tabData .u64 Lib.pow10Tab)∈l){b t e k:Nat}(hb:P.globalNamed n=some b)
  (ht:(P.globals[b]?).map (·.type)=some t) (hu:P.underlying t=some (.array k e)) (he:P.underlying e=some (.int .u64)) (hce:P.cellsOf e=1) (hct:P.cellsOf t=k):
  ∃c t v,w.heap[b]?=some (.cells c t (0,0))/\c[0]?=some v/\v.oneCell'=true/\aeV (.cells c t (0,0)):=by
 obtain⟨cs,fuel,p,h1,h2⟩:=Nt hl hx hb ht;have hcs:=Lib.cells_of_tab hu he hce hct h1;obtain rfl:cs=(Lib.pow10Tab.map (Value.int .u64)).toArray:=by rw[<- fV,hcs]
 obtain⟨t',hc⟩:=h2 (by decide);exact⟨_,t',.int .u64 1,hc,rfl,rfl,t',_,rfl⟩
theorem abX{P:Program}{w:World}(h:w.ShapedOpen P){g t:Nat}{zero:Array Value}(hg:g<P.globals.size)(h0:((begin P (λ_ _=>0) default).world.heap[g]?).bind Obj.row?=some (zero,t))(hz:zero.size=1)
  (hb:P.buildable t=true) (hc:P.cellTypes P.depth t=some [t]) (hu:P.underlying t=some (.int .i64)):∃c t v,w.heap[g]?=some (.cells c t (0,0))/\c[0]?=some v/\v.oneCell'=true/\aeU (.cells c t (0,0)):=by
 obtain⟨m,hm⟩:=Go.Proofs.cell_of_shapedOpen_int h hg h0 hz hb hc hu;obtain⟨cs,hh,_⟩:=h.1 g zero t hg h0;have h1:cs[0]?=some (.int .i64 m):=by simpa[World.cell?,hh]using hm
 exact⟨cs,t,_,hh,h1,rfl,cs,t,_,m,rfl,h1⟩
variable {T:CL} {O:cn}
theorem aJ.{u}{α:Sort u}{a b:α}(h:a=b:=by exact rfl):a=b:=h
inductive Mark.{u} {α:Sort u} (a:α):Type
 |mk
def WO(O:cn)(ops:List Op)(e:Env)(J:SK)(Q:Env->SK->Prop)(_m:Mark Q:=.mk):Prop:=∃e' J',kO O ops e J=some (e',J')/\Q e' J'
def WC(O:cn)(c:cb)(e:Env)(J:SK)(Q:Exit->Env->SK->Prop)(_m:Mark c:=.mk)(_m':Mark Q:=.mk):Prop:=∃x e' J',bA O c e J=some (x,e',J')/\Q x e' J'
def WV(o:Option (D×SK))(Q:D->SK->Prop)(_m:Mark Q:=.mk):Prop:=∃d J',o=some (d,J')/\Q d J'
def WL(T:CL)(live:List Nat)(bC:Bool)(c:cb)(e:Env)(J:SK)(Q:Exit->Env->SK->Prop)(_m:Mark c:=.mk)(_m':Mark Q:=.mk):Prop:=∃x e' J',di T (.loop live bC c e J)=some (.FU x e' J')/\Q x e' J'
theorem WO.mono{ops:List Op}{e:Env}{J:SK}{Q Q':Env->SK->Prop}(h:WO O ops e J Q)(hq:∀e J,Q e J->Q' e J):WO O ops e J Q' :=
 let ⟨e',J',h1,h2⟩:=h;⟨e',J',h1,hq _ _ h2⟩
theorem WC.mono{c:cb}{e:Env}{J:SK}{Q Q':Exit->Env->SK->Prop}(h:WC O c e J Q)(hq:∀x e J,Q x e J->Q' x e J):WC O c e J Q' :=
 let ⟨x,e',J',h1,h2⟩:=h;⟨x,e',J',h1,hq _ _ _ h2⟩
theorem WL.mono{live:List Nat}{bC:Bool}{c:cb}{e:Env}{J:SK}{Q Q':Exit->Env->SK->Prop}(h:WL T live bC c e J Q)(hq:∀x e J,Q x e J->Q' x e J):WL T live bC c e J Q' :=
 let ⟨x,e',J',h1,h2⟩:=h;⟨x,e',J',h1,hq _ _ _ h2⟩
def WD{α:Type}(o:Option α)(Q:α->Prop)(_m:Mark Q:=.mk):Prop:=∃d,o=some d/\Q d
@[simp,simp ↓] theorem Ke{α:Type}{d:α}{Q:α->Prop}:WD (some d) Q=Q d:=by
 simp only[WD,ae,eq_iff_iff];exact⟨λ⟨_,h,h'⟩=>by rw[h];exact h',λh=>⟨_,rfl,h⟩⟩
@[simp,simp ↓] theorem abC{α:Type}{Q:α->Prop}:WD none Q=False:=by simp[WD]
def Ql:D->Option Bool
 |.bool b=>some b
 |_=>none
@[simp] theorem ae5{b:Bool}:Ql (.bool b)=some b:=aJ
@[simp] theorem aif{b:Bool}:(D.bool b).bit=some (some b):=aJ
@[simp] theorem akh:(D.cS []).bit=some none:=aJ
def afg(k:IntKind):D->Option D
 |.int _ m=>some (.int k (k.wrap m))
 |_=>none
@[simp] theorem aim{k k':IntKind}{m:Int}:afg k (.int k' m)=some (.int k (k.wrap m)):=aJ
@[simp,simp ↓] theorem akf{d:D}{J:SK}{Q:D->SK->Prop}:WV (some (d,J)) Q=Q d J:=by
 simp only[WV,ae,ak,eq_iff_iff];constructor
 .rintro⟨_,_,⟨rfl,rfl⟩,h⟩;exact h
 .exact λh=>⟨_,_,⟨rfl,rfl⟩,h⟩
@[simp,simp ↓] theorem ake{Q:D->SK->Prop}:WV none Q=False:=by simp[WV]
@[simp,simp ↓] theorem alp{e:Env}{J:SK}{Q:Env->SK->Prop}:WO O [] e J Q=Q e J:=by
 simp only[WO,kO,ae,ak,eq_iff_iff];constructor
 .rintro⟨_,_,⟨rfl,rfl⟩,h⟩;exact h
 .exact λh=>⟨_,_,⟨rfl,rfl⟩,h⟩
def amd(d:D)(w:Bool):Option Bool :=
 match d with
 |.bool b=>some (b == w)
 |_=>none
@[simp,simp ↓] theorem ale{d:Option Nat}{g:Nat}{w n:Bool}{k:K}{r:List Op}{e:Env}{J:SK}{Q:Env->SK->Prop}:
  WO O (⟨d,some (g,w),n,k⟩::r) e J Q=WD (get e g).bit λb=>if b=some w then WO O (⟨d,none,n,k⟩::r) e J Q else WO O r (put d (.cS []) e) J Q:=by
 cases h:(get e g).bit<;>simp only[WO,kO,h,reduceCtorEq,false_and,exists_false,abC,Ke];rename_i b;by_cases hb:b=some w
 .simp only[hb,if_true];rfl
 .simp only[if_neg hb]
theorem dQ{d:Option Nat}{n:Bool}{k:K}{r:List Op}{e:Env}{J:SK}{Q:Env->SK->Prop}(h:xe O ⟨d,none,n,k⟩ e J=(bY e J k).map λx=>(put d x.1 e,x.2)):
  WO O (⟨d,none,n,k⟩::r) e J Q=WV (bY e J k) λv J'=>WO O r (put d v e) J' Q:=by
 simp only[WO,kO,h,WV,eq_iff_iff];constructor
 .rintro⟨e',J',h1,h2⟩;cases hs:bY e J k with
  |none=>simp[hs]at h1
  |some y=>simp[hs]at h1;exact⟨y.1,y.2,rfl,e',J',h1,h2⟩
 .rintro⟨v,J1,h1,e',J',h2,h3⟩;exact⟨e',J',by simp[h1,h2],h3⟩
theorem lu{o:Option (D×SK)}{o':Option D}{J:SK}{Q:D->SK->Prop}(h:o=o'.map (·,J)):WV o Q=WD o' λv=>Q v J:=by
 subst h;cases o'<;>simp
def Wf:D->Option D
 |.bB=>some (.int .i64 0)
 |.bZ n _=>some (.int .i64 n)
 |.sl _ _ _ _ n _=>some (.int .i64 n)
 |_=>none
@[simp] theorem ahe:Wf .bB=some (.int .i64 0):=aJ
@[simp] theorem aiP{n:Nat}{cs:List D}:Wf (.bZ n cs)=some (.int .i64 n):=aJ
@[simp] theorem akt{l i v o n w:Nat}:Wf (.sl l i v o n w)=some (.int .i64 n):=aJ
def RW(ag:Bool)(sz:Nat):Option (List D)->Option D
 |some cs =>
  if sz<=cs.length then
   if ag then some (.agg (cs.take sz))else
   match cs with
   |d::_=>some d
   |[]=>none
  else none
 |none=>none
@[simp] theorem alH{sz:Nat}{cs:List D}:RW true sz (some cs)=if sz<=cs.length then some (.agg (cs.take sz))else none:=aJ
@[simp] theorem akr{d:D}{cs:List D}:RW false 1 (some (d::cs))=some d:=by simp[RW]
@[simp] theorem ai9{J:SK}{cs:List D}:I1 J (.bq cs)=some cs:=aJ
@[simp] theorem akA{J:SK}{l i v off:Nat}:I1 J (.ref l i v off)=(cells? J l i v).map (·.drop off):=aJ
def Ze(e:Env)(v:Nat)(ag:Bool)(sz a:Nat):Option D:=RW ag sz ((pL e v a).map λx=>x.2.1.drop x.2.2)
def YH:D->Option (List D)
 |.bq cs=>some cs
 |_=>none
@[simp] theorem afe{cs:List D}:YH (.bq cs)=some cs:=aJ
@[simp] theorem ahb:MA false .bB=some true:=aJ
@[simp] theorem aiL{n:Nat}{cs:List D}:MA false (.bZ n cs)=if n=0 then none else some false:=aJ
def aiR:D->Option D
 |.bq cs=>some (.bq cs)
 |.ref l i v off=>some (.ref l i v off)
 |_=>none
@[simp] theorem aiS{l i v off:Nat}:aiR (.ref l i v off)=some (.ref l i v off):=aJ
def unD:UnOp->D->Option D
 |.not,.bool b=>some (.bool !b)
 |.neg,.int k n=>some (.int k (k.wrap (0-n)))
 |.xor,.int k n=>some (.int k (k.wrap ((BitVec.ofInt k.bits (if k.signed then -1 else k.max) ^^^ BitVec.ofInt k.bits n).toNat:Int)))
 |_,_=>none
theorem RR{n:Nat}(h:n<256):unD .xor (.int .u8 n)=some (.int .u8 ((255-n:Nat):Int)):=by
 have key:∀m:Fin 256,IntKind.u8.wrap ((BitVec.ofInt 8 255 ^^^ BitVec.ofInt 8 (m.1:Int)).toNat:Int)=((255-m.1:Nat):Int):=by decide +kernel
 have:=key ⟨n,h⟩;simp only[unD];exact congrArg (λz=>some (D.int .u8 z)) this
@[simp] theorem akK{b:Bool}:unD .not (.bool b)=some (.bool !b):=aJ
@[simp] theorem akJ{k:IntKind}{n:Int}:unD .neg (.int k n)=some (.int k (k.wrap (0-n))):=aJ
def Qx(n off:Nat):D->Option D
 |.bq cs=>some (.bq (cs.drop off))
 |.ref l i v o=>some (.ref l i v (o+off))
 |.own s _=>some (.vr n s off)
 |.vr v s o=>some (.vr v s (o+off))
 |_=>none
@[simp] theorem afp{n off:Nat}{cs:List D}:Qx n off (.bq cs)=some (.bq (cs.drop off)):=aJ
@[simp] theorem ag2{n off l i v o:Nat}:Qx n off (.ref l i v o)=some (.ref l i v (o+off)):=aJ
@[simp] theorem ag1{n off s:Nat}{cs:List D}:Qx n off (.own s cs)=some (.vr n s off):=aJ
@[simp] theorem aiy{n off v s o:Nat}:Qx n off (.vr v s o)=some (.vr v s (o+off)):=aJ
def afr(ag:Bool)(off sz:Nat):D->Option D
 |.agg cs =>
  if off+sz<=cs.length then
   if ag then some (.agg ((cs.drop off).take sz))else cs[off]?
  else none
 |_=>none
@[simp] theorem aiz{ag:Bool}{off sz:Nat}{cs:List D}:afr ag off sz (.agg cs)=if off+sz<=cs.length then(if ag then some (.agg ((cs.drop off).take sz))else cs[off]?)else none:=aJ
def UF(m len w:Nat)(x i:D):Option D :=
 match HP i with
 |some n =>
  if 0<=n/\n<len then
   match x with
   |.bq cs=>some (.bq ((cs.drop (n.toNat*w)).take w))
   |.ref l j v off=>some (.ref l j v (off+n.toNat*w))
   |.own s _=>some (.vr m s (n.toNat*w))
   |.vr v s o=>some (.vr v s (o+n.toNat*w))
   |_=>none
  else none
 |none=>none
@[simp] theorem afx{m len w:Nat}{cs:List D}{k:IntKind}{n:Int}:UF m len w (.bq cs) (.int k n)=if 0<=n/\n<len then some (.bq ((cs.drop (n.toNat*w)).take w))else none:=aJ
@[simp] theorem ag7{m len w l j v off:Nat}{k:IntKind}{n:Int}:UF m len w (.ref l j v off) (.int k n)=if 0<=n/\n<len then some (.ref l j v (off+n.toNat*w))else none:=aJ
def QV(w:Nat)(x i:D):Option D :=
 match x,HP i with
 |.bZ m cs,some n=>if 0<=n/\n<m then some (.bq ((cs.drop (n.toNat*w)).take w))else none
 |.sl l j v off m w',some n=>if 0<=n/\n<m/\w'=w then some (.ref l j v (off+n.toNat*w))else none
 |_,_=>none
@[simp] theorem ag8{w m:Nat}{cs:List D}{k:IntKind}{n:Int}:QV w (.bZ m cs) (.int k n)=if 0<=n/\n<m then some (.bq ((cs.drop (n.toNat*w)).take w))else none:=aJ
@[simp] theorem aiI{w l j v off m w':Nat}{k:IntKind}{n:Int}:QV w (.sl l j v off m w') (.int k n)=if 0<=n/\n<m/\w'=w then some (.ref l j v (off+n.toNat*w))else none:=aJ
def Y2(ag:Bool)(len w:Nat)(x i:D):Option D :=
 match x,HP i with
 |.agg cs,some n =>
  if 0<=n/\n<len/\(n.toNat+1)*w<=cs.length then
   if ag then some (.agg ((cs.drop (n.toNat*w)).take w))else cs[n.toNat*w]?
  else none
 |_,_=>none
@[simp] theorem ag9{ag:Bool}{len w:Nat}{cs:List D}{k:IntKind}{n:Int}:Y2 ag len w (.agg cs) (.int k n)=if 0<=n/\n<len/\(n.toNat+1)*w<=cs.length then(if ag then some (.agg ((cs.drop (n.toNat*w)).take w))else cs[n.toNat*w]?)else none:=aJ
def mnD(x y:D):Option D :=
 match x,y with
 |.int k a,.int _ b=>some (.int k (min a b))
 |_,_=>none
@[simp] theorem aku{k k':IntKind}{a b:Int}:mnD (.int k a) (.int k' b)=some (.int k (min a b)):=aJ
def mxD(x y:D):Option D :=
 match x,y with
 |.int k a,.int _ b=>some (.int k (max a b))
 |_,_=>none
@[simp] theorem akv{k k':IntKind}{a b:Int}:mxD (.int k a) (.int k' b)=some (.int k (max a b)):=aJ
def aiw(x:D)(i:Nat):Option D :=
 match x with
 |.cS ds=>ds[i]?
 |_=>none
@[simp] theorem aix{ds:List D}{i:Nat}:aiw (.cS ds) i=ds[i]?:=aJ
def afo(ag:Bool)(ks:List (Option IntKind))(neg:Bool)(x y:D):Option D :=
 match x.row ag,y.row ag with
 |some p,some q=>(C5 ks p q).map λb => .bool (if neg then !b else b)
 |_,_=>none
@[simp] theorem akl{ks:List (Option IntKind)}{neg:Bool}{p q:List D}:afo true ks neg (.agg p) (.agg q)=(C5 ks p q).map λb => .bool (if neg then !b else b):=aJ
@[simp] theorem ajb:C5 [] [] []=some true:=aJ
@[simp] theorem aja{k k1 k2:IntKind}{ks:List (Option IntKind)}{a b:Int}{x y:List D}:C5 (some k::ks) (.int k1 a::x) (.int k2 b::y)=if k1=k/\k2=k then(C5 ks x y).map (a == b && ·)else none:=aJ
def acN(w:Nat)(x:D)(e:Env)(lo hi mx:Option bU):Option D :=
 match x with
 |.bZ n cs=>(bounds n e lo hi mx).map λb => .bZ (b.2-b.1) ((cs.drop (b.1*w)).take ((b.2-b.1)*w))
 |.sl l i v off n w'=>if w'=w then(bounds n e lo hi mx).map λb => .sl l i v (off+b.1*w) (b.2-b.1) w else none
 |.bB=>(bounds 0 e lo hi mx).map λ_ => .bB
 |_=>none
@[simp] theorem ajM{w n:Nat}{cs:List D}{e:Env}{lo hi mx:Option bU}:acN w (.bZ n cs) e lo hi mx=(bounds n e lo hi mx).map λb => .bZ (b.2-b.1) ((cs.drop (b.1*w)).take ((b.2-b.1)*w)):=aJ
@[simp] theorem akC{w l i v off n w':Nat}{e:Env}{lo hi mx:Option bU}:acN w (.sl l i v off n w') e lo hi mx=if w'=w then(bounds n e lo hi mx).map λb => .sl l i v (off+b.1*w) (b.2-b.1) w else none:=aJ
section bins
variable {k:IntKind} {a b:Int}
@[simp] theorem ah2:sU .add (.int k a) (.int k b)=some (.int k (k.wrap (a+b))):=by simp[sU]
@[simp] theorem aie:sU .sub (.int k a) (.int k b)=some (.int k (k.wrap (a-b))):=by simp[sU]
@[simp] theorem ah8:sU .mul (.int k a) (.int k b)=some (.int k (k.wrap (a*b))):=by simp[sU]
@[simp] theorem aia:sU .quo (.int k a) (.int k b)=if b≠0 then some (.int k (k.wrap (a.tdiv b)))else none:=by simp[sU]
@[simp] theorem aib:sU .rem (.int k a) (.int k b)=if b≠0 then some (.int k (a.tmod b))else none:=by simp[sU]
@[simp] theorem aic{k':IntKind}:sU .shl (.int k a) (.int k' b)=if b<0 then none else some (.int k (k.wrap (a*2^(min b.toNat k.bits)))):=aJ
@[simp] theorem aid{k':IntKind}:sU .shr (.int k a) (.int k' b)=if b<0 then none else some (.int k (a.fdiv (2^(min b.toNat k.bits)))):=aJ
@[simp] theorem akg:sU .or (.int k a) (.int k b)=some (.int k (k.wrap ((BitVec.ofInt k.bits a ||| BitVec.ofInt k.bits b).toNat:Int))):=by simp[sU]
@[simp] theorem ah3:sU .eql (.int k a) (.int k b)=some (.bool (a == b)):=by simp[sU]
@[simp] theorem ah9:sU .neq (.int k a) (.int k b)=some (.bool (a != b)):=by simp[sU]
@[simp] theorem ah7:sU .lss (.int k a) (.int k b)=some (.bool (decide (a<b))):=by simp[sU]
@[simp] theorem ah6:sU .leq (.int k a) (.int k b)=some (.bool (decide (a<=b))):=by simp[sU]
@[simp] theorem ah5:sU .gtr (.int k a) (.int k b)=some (.bool (decide (b<a))):=by simp[sU]
@[simp] theorem ah4:sU .geq (.int k a) (.int k b)=some (.bool (decide (b<=a))):=by simp[sU]
end bins
@[simp] theorem acJ:D.strip .undef=.undef:=aJ
@[simp] theorem adX{b:Bool}:D.strip (.bool b)=.bool b:=aJ
@[simp] theorem agl{k:IntKind}{n:Int}:D.strip (.int k n)=.int k n:=aJ
@[simp] theorem ago{s:List UInt8}:D.strip (.str s)=.str s:=aJ
@[simp] theorem agj{cs:List D}:D.strip (.agg cs)=.agg cs:=aJ
@[simp] theorem agp{cs:List D}:D.strip (.cS cs)=.cS cs:=aJ
@[simp] theorem agn{l i v o:Nat}:D.strip (.ref l i v o)=.ref l i v o:=aJ
@[simp] theorem adY{cs:List D}:D.strip (.bq cs)=.bq cs:=aJ
@[simp] theorem ad0:D.strip .bB=.bB:=aJ
@[simp] theorem agm{n:Nat}{cs:List D}:D.strip (.bZ n cs)=.bZ n cs:=aJ
@[simp] theorem ahE{l i v o n w:Nat}:D.strip (.sl l i v o n w)=.sl l i v o n w:=aJ
@[simp] theorem ahD{f:Nat}{a b:List D}:D.strip (.fn f a b)=.fn f a b:=aJ
@[simp] theorem agk{t:Nat}{d:D}:D.strip (.ua t d)=.ua t d:=aJ
@[simp] theorem adZ:D.strip .mQ=.mQ:=aJ
@[simp] theorem ahr{t:Nat}{d:D}:D.calm (.ua t d)=.ua t d:=aJ
@[simp] theorem afY:D.calm .mQ=.mQ:=aJ
@[simp] theorem agq{l i:Nat}:D.strip (.jg l i)=.jg l i:=aJ
@[simp] theorem adQ:D.calm .undef=.undef:=aJ
@[simp] theorem afW{b:Bool}:D.calm (.bool b)=.bool b:=aJ
@[simp] theorem ahs{k:IntKind}{n:Int}:D.calm (.int k n)=.int k n:=aJ
@[simp] theorem ahw{s:List UInt8}:D.calm (.str s)=.str s:=aJ
@[simp] theorem ahq{cs:List D}:D.calm (.agg cs)=.agg cs:=aJ
@[simp] theorem ahv{l i v o:Nat}:D.calm (.ref l i v o)=.ref l i v o:=aJ
@[simp] theorem afX{cs:List D}:D.calm (.bq cs)=.bq cs:=aJ
@[simp] theorem afZ:D.calm .bB=.bB:=aJ
@[simp] theorem aht{n:Nat}{cs:List D}:D.calm (.bZ n cs)=.bZ n cs:=aJ
@[simp] theorem ai8{l i v o n w:Nat}:D.calm (.sl l i v o n w)=.sl l i v o n w:=aJ
@[simp] theorem ai7{f:Nat}{a b:List D}:D.calm (.fn f a b)=.fn f a b:=aJ
@[simp] theorem ahx{l i:Nat}:D.calm (.jg l i)=.jg l i:=aJ
@[simp] theorem ahu{s:Nat}{cs:List D}:D.calm (.own s cs)=.own 0 cs:=aJ
@[simp] theorem adR{b:Bool}:D.cells (.bool b)=some [.bool b]:=aJ
@[simp] theorem af1{k:IntKind}{n:Int}:D.cells (.int k n)=some [.int k n]:=aJ
@[simp] theorem af4{s:List UInt8}:D.cells (.str s)=some [.str s]:=aJ
@[simp] theorem af0{cs:List D}:D.cells (.agg cs)=some cs:=aJ
@[simp] theorem af3{l i v o:Nat}:D.cells (.ref l i v o)=some [.ref l i v o]:=aJ
@[simp] theorem adS:D.cells .bB=some [.bB]:=aJ
@[simp] theorem af2{n:Nat}{cs:List D}:D.cells (.bZ n cs)=some [.bZ n cs]:=aJ
@[simp] theorem ahz{l i v o n w:Nat}:D.cells (.sl l i v o n w)=some [.sl l i v o n w]:=aJ
@[simp] theorem ahy{f:Nat}{a b:List D}:D.cells (.fn f a b)=some [.fn f a b]:=aJ
@[simp] theorem af5{l i:Nat}:D.cells (.jg l i)=some [.jg l i]:=aJ
@[simp] theorem aiJ{k:IntKind}{n:Int}:HP (.int k n)=some n:=aJ
@[simp] theorem oI{O:cn}{kp:Bool}{f:Nat}{first cap args:List D}{J:SK}:nG O kp (.fn f first cap) args J=R.dG (O (.call kp f (first++args++cap) J)):=aJ
@[simp] theorem agX{O:cn}{kp:Bool}{l i:Nat}{args:List D}{J:SK}:nG O kp (.jg l i) args J=R.dG (O (.round l i args J)):=aJ
@[simp] theorem ajV{d:D}{J:SK}:R.dG (some (.val d J))=some (d,J):=aJ
section ops
variable {d:Option Nat} {n:Bool} {r:List Op} {e:Env} {J:SK} {Q:Env->SK->Prop}
@[simp,simp ↓] theorem al8{x:bU}:WO O (⟨d,none,n,.mv x⟩::r) e J Q=WO O r (put d (bG e x) e) J Q:=by rw[dQ rfl];simp[bY]
@[simp,simp ↓] theorem akc{w:Nat}:WO O (⟨d,none,n,.LL w⟩::r) e J Q=WV (bY e J (.LL w)) λv J'=>WO O r (put d v e) J' Q:=dQ rfl
@[simp,simp ↓] theorem ak0{nb:List (Nat×Nat)}{cs:List D}:WO O (⟨d,none,n,.Un nb cs⟩::r) e J Q=WV (bY e J (.Un nb cs)) λv J'=>WO O r (put d v e) J' Q:=dQ rfl
@[simp,simp ↓] theorem akd{c a b:bU}:WO O (⟨d,none,n,.pick c a b⟩::r) e J Q=WD (Ql (bG e c)) λt=>WO O r (put d (if t then bG e a else bG e b) e) J Q:=by
 rw[dQ rfl];simp only[bY];cases bG e c<;>simp[Ql]
@[simp,simp ↓] theorem aj3{x:bU}:WO O (⟨d,none,n,.Mq x⟩::r) e J Q=WD (bG e x).cells λcs=>WO O r (put d (.bq cs) e) J Q:=by
 rw[dQ rfl];simp only[bY];cases(bG e x).cells<;>simp
@[simp,simp ↓] theorem aj4{x:bU}:WO O (⟨d,none,n,.Mr x⟩::r) e J Q=WV (bY e J (.Mr x)) λv J'=>WO O r (put d v e) J' Q:=dQ rfl
@[simp,simp ↓] theorem ak7{nb:List (Nat×Nat)}{x:bU}:WO O (⟨d,none,n,.bxn nb x⟩::r) e J Q=WV (bY e J (.bxn nb x)) λv J'=>WO O r (put d v e) J' Q:=dQ rfl
@[simp,simp ↓] theorem ak4{z:List D}{ps:List (Nat×Nat×bU)}:WO O (⟨d,none,n,.Mp z ps⟩::r) e J Q=WD (iB e ps z) λcs=>WO O r (put d (.agg cs) e) J Q:=by
 rw[dQ rfl];simp only[bY];cases iB e ps z<;>simp
@[simp,simp ↓] theorem ak5{m w:Nat}{z:List D}{ps:List (Nat×Nat×bU)}:WO O (⟨d,none,n,.bsi m w z ps⟩::r) e J Q=WD (iB e ps z) λcs=>WO O r (put d (.bZ m cs) e) J Q:=by
 rw[dQ rfl];simp only[bY];cases iB e ps z<;>simp
@[simp,simp ↓] theorem ak6{m w:Nat}{z:List D}{ps:List (Nat×Nat×bU)}:WO O (⟨d,none,n,.YB m w z ps⟩::r) e J Q=WV (bY e J (.YB m w z ps)) λv J'=>WO O r (put d v e) J' Q:=dQ rfl
@[simp,simp ↓] theorem al4{ag:Bool}{sz:Nat}{a:bU}:WO O (⟨d,none,n,.ld ag sz a⟩::r) e J Q=WD (RW ag sz (I1 J (bG e a))) λv=>WO O r (put d v e) J Q:=by
 rw[dQ rfl];refine lu ?_;simp only[bY];cases I1 J (bG e a)with
 |none=>rfl
 |some cs =>
  simp only[RW];split
  .cases ag
   .cases cs<;>rfl
   .rfl
  .rfl
theorem acA{J:SK}{l i off:Nat}:W0 J (.ref l i 0 off)=I1 J (.ref l i 0 off):=rfl
@[simp,simp ↓] theorem alh{ag:Bool}{sz:Nat}{a:bU}:WO O (⟨d,none,n,.WX ag sz a⟩::r) e J Q=WD (RW ag sz (W0 J (bG e a))) λv=>WO O r (put d v e) J Q:=by
 rw[dQ rfl];refine lu ?_;simp only[bY];cases W0 J (bG e a)with
 |none=>rfl
 |some cs =>
  simp only[RW];split
  .cases ag
   .cases cs<;>rfl
   .rfl
  .rfl
@[simp,simp ↓] theorem ali{ag:Bool}{sz:Nat}{a:bU}:WO O (⟨d,none,n,.WY ag sz a⟩::r) e J Q=WD (RW ag sz (YH (bG e a))) λv=>WO O r (put d v e) J Q:=by
 rw[dQ rfl];refine lu ?_;simp only[bY];cases bG e a with
 |bq cs =>
  simp only[YH,RW];split
  .cases ag
   .cases cs<;>rfl
   .rfl
  .rfl
 |_=>rfl
@[simp,simp ↓] theorem alg{ps neg:Bool}{x:bU}:WO O (⟨d,none,n,.isn ps neg x⟩::r) e J Q=WD (MA ps (bG e x)) λb=>WO O r (put d (.bool (if neg then !b else b)) e) J Q:=by
 rw[dQ rfl];simp only[bY];cases MA ps (bG e x)<;>simp
@[simp,simp ↓] theorem alo{x:bU}:WO O (⟨d,none,n,.nck x⟩::r) e J Q=WD (aiR (bG e x)) λv=>WO O r (put d v e) J Q:=by
 rw[dQ rfl];refine lu ?_;simp only[bY];cases bG e x<;>rfl
@[simp,simp ↓] theorem ama{nb:List (Nat×Nat)}{sz:Nat}{a x:bU}:WO O (⟨d,none,n,.st nb sz a x⟩::r) e J Q=WV (bY e J (.st nb sz a x)) λv J'=>WO O r (put d v e) J' Q:=dQ rfl
@[simp,simp ↓] theorem als{os:List Nat}{sz:Nat}{a x:bU}:WO O (⟨d,none,n,.RL os sz a x⟩::r) e J Q=WV (bY e J (.RL os sz a x)) λv J'=>WO O r (put d v e) J' Q:=dQ rfl
@[simp] theorem akw{l i l' i' v o:Nat}:D.off l i (.ref l' i' v o)=decide (¬(l'=l/\i'=i)):=by rw[D.off]
@[simp,simp ↓] theorem alj{v:Nat}{ag:Bool}{sz a:Nat}:WO O (⟨d,none,n,.WZ v ag sz a⟩::r) e J Q=WD (Ze e v ag sz a) λv=>WO O r (put d v e) J Q:=by
 rw[dQ rfl];refine lu ?_;simp only[bY,Ze];cases pL e v a with
 |none=>rfl
 |some x =>
  obtain⟨s,cs,off⟩:=x;simp only[RW,aZ];split
  .cases ag
   .cases cs.drop off<;>rfl
   .rfl
  .rfl
@[simp,simp ↓] theorem ak3{o:BinOp}{x y:bU}:WO O (⟨d,none,n,.bin o x y⟩::r) e J Q=WD (sU o (bG e x) (bG e y)) λv=>WO O r (put d v e) J Q:=by
 rw[dQ rfl];simp only[bY];cases sU o (bG e x) (bG e y)<;>simp
@[simp,simp ↓] theorem ala{ag:Bool}{ks:List (Option IntKind)}{neg:Bool}{x y:bU}:WO O (⟨d,none,n,.eqv ag ks neg x y⟩::r) e J Q=WD (afo ag ks neg (bG e x) (bG e y)) λv=>WO O r (put d v e) J Q:=by
 rw[dQ rfl];refine lu ?_;simp only[bY,afo];cases(bG e x).row ag<;>cases(bG e y).row ag<;>simp[Option.map_map,Function.comp_def]
@[simp,simp ↓] theorem amb{o:UnOp}{x:bU}:WO O (⟨d,none,n,.un o x⟩::r) e J Q=WD (unD o (bG e x)) λv=>WO O r (put d v e) J Q:=by
 rw[dQ rfl];refine lu ?_;simp only[bY];cases o<;>cases bG e x<;>rfl
@[simp,simp ↓] theorem ak9{k:IntKind}{x:bU}:WO O (⟨d,none,n,.YI k x⟩::r) e J Q=WD (afg k (bG e x)) λv=>WO O r (put d v e) J Q:=by
 rw[dQ rfl];simp only[bY];cases bG e x<;>simp[afg]
@[simp,simp ↓] theorem alq{p:Pu}{xs:List bU}:WO O (⟨d,none,n,.Is p xs⟩::r) e J Q=WD (fO p (xs.map (bG e))) λv=>WO O r (put d v e) J Q:=by
 rw[dQ rfl];simp only[bY];cases fO p (xs.map (bG e))<;>simp
@[simp,simp ↓] theorem al5{p:Me}{xs:List bU}:WO O (⟨d,none,n,.me p xs⟩::r) e J Q=WV (Pv J p (xs.map (bG e))) λv J'=>WO O r (put d v e) J' Q:=dQ rfl
@[simp,simp ↓] theorem al7{p:Mo}{xs:List bU}:WO O (⟨d,none,n,.mp p xs⟩::r) e J Q=WV (DY J p (xs.map (bG e))) λv J'=>WO O r (put d v e) J' Q:=dQ rfl
@[simp,simp ↓] theorem alm{t:Nat}{x:bU}:WO O (⟨d,none,n,.Zq t x⟩::r) e J Q=WO O r (put d (.ua t (bG e x)) e) J Q:=by rw[dQ rfl];simp[bY]
@[simp,simp ↓] theorem alv{t:Nat}{z:Option D}{x:bU}:WO O (⟨d,none,n,.tas t z x⟩::r) e J Q=WD (Tz t z (bG e x)) λv=>WO O r (put d v e) J Q:=by
 rw[dQ rfl];simp only[bY];cases Tz t z (bG e x)<;>simp
@[simp,simp ↓] theorem alf{neg:Bool}{x:bU}:WO O (⟨d,none,n,.isi neg x⟩::r) e J Q=WD (Y7 (bG e x)) λb=>WO O r (put d (.bool (if neg then !b else b)) e) J Q:=by
 rw[dQ rfl];simp only[bY];cases Y7 (bG e x)<;>simp
@[simp] theorem aha:Y7 .mQ=some true:=aJ
@[simp] theorem aiK{t:Nat}{d:D}:Y7 (.ua t d)=some false:=aJ
@[simp] theorem ajP{t t':Nat}{z d:D}:Tz t (some z) (.ua t' d)=some (if t'=t then .cS [d,.bool true]else .cS [z,.bool false]):=aJ
@[simp,simp ↓] theorem alk{f:Nat}{xs ys:List bU}:WO O (⟨d,none,n,.Zp f xs ys⟩::r) e J Q=WO O r (put d (.fn f (xs.map (bG e)) (ys.map (bG e))) e) J Q:=by rw[dQ rfl];simp[bY]
@[simp,simp ↓] theorem aln{w b:Nat}{z:List D}{l c:bU}:WO O (⟨d,none,n,.mks w b z l c⟩::r) e J Q=WV (bY e J (.mks w b z l c)) λv J'=>WO O r (put d v e) J' Q:=dQ rfl
@[simp,simp ↓] theorem alr{w:Nat}{x:bU}{lo hi mx:Option bU}:WO O (⟨d,none,n,.W3 w x lo hi mx⟩::r) e J Q=WD (acN w (bG e x) e lo hi mx) λv=>WO O r (put d v e) J Q:=by
 rw[dQ rfl];refine lu ?_;simp only[bY,acN];cases bG e x<;>first | rfl | (simp only[];split<;>simp[Option.map_map,Function.comp_def]) | simp[Option.map_map,Function.comp_def]
@[simp,simp ↓] theorem aj7{off m:Nat}:WO O (⟨d,none,n,.Mt off (.t m)⟩::r) e J Q=WD (Qx m off (get e m)) λv=>WO O r (put d v e) J Q:=by
 rw[dQ rfl];refine lu ?_;simp only[bY];cases get e m<;>rfl
@[simp,simp ↓] theorem ald{ag:Bool}{off sz:Nat}{x:bU}:WO O (⟨d,none,n,.fld ag off sz x⟩::r) e J Q=WD (afr ag off sz (bG e x)) λv=>WO O r (put d v e) J Q:=by
 rw[dQ rfl];refine lu ?_;simp only[bY];cases bG e x<;>first | rfl | (simp only[afr];split<;>cases ag<;>simp)
@[simp,simp ↓] theorem aj8{l w m:Nat}{i:bU}:WO O (⟨d,none,n,.My l w (.t m) i⟩::r) e J Q=WD (UF m l w (get e m) (bG e i)) λv=>WO O r (put d v e) J Q:=by
 rw[dQ rfl];refine lu ?_;simp only[bY,UF];cases HP (bG e i)with
 |none=>rfl
 |some k=>simp only[];split<;>cases get e m<;>rfl
@[simp,simp ↓] theorem aj9{w:Nat}{x i:bU}:WO O (⟨d,none,n,.IQ w x i⟩::r) e J Q=WD (QV w (bG e x) (bG e i)) λv=>WO O r (put d v e) J Q:=by
 rw[dQ rfl];refine lu ?_;simp only[bY,QV];cases HP (bG e i)with
 |none=>cases bG e x<;>rfl
 |some k=>cases bG e x<;>first | rfl | (simp only[];split<;>rfl)
@[simp,simp ↓] theorem aka{ag:Bool}{l w:Nat}{x i:bU}:WO O (⟨d,none,n,.OF ag l w x i⟩::r) e J Q=WD (Y2 ag l w (bG e x) (bG e i)) λv=>WO O r (put d v e) J Q:=by
 rw[dQ rfl];refine lu ?_;simp only[bY,Y2];cases HP (bG e i)with
 |none=>cases bG e x<;>rfl
 |some k=>cases bG e x<;>first | rfl | (simp only[];split<;>cases ag<;>simp)
@[simp,simp ↓] theorem akb{x:bU}:WO O (⟨d,none,n,.MB x⟩::r) e J Q=WD (Wf (bG e x)) λv=>WO O r (put d v e) J Q:=by
 rw[dQ rfl];refine lu ?_;simp only[bY];cases bG e x<;>rfl
@[simp,simp ↓] theorem al6{x y:bU}:WO O (⟨d,none,n,.mn x y⟩::r) e J Q=WD (mnD (bG e x) (bG e y)) λv=>WO O r (put d v e) J Q:=by
 rw[dQ rfl];refine lu ?_;simp only[bY];cases bG e x<;>cases bG e y<;>rfl
@[simp,simp ↓] theorem al9{x y:bU}:WO O (⟨d,none,n,.mx x y⟩::r) e J Q=WD (mxD (bG e x) (bG e y)) λv=>WO O r (put d v e) J Q:=by
 rw[dQ rfl];refine lu ?_;simp only[bY];cases bG e x<;>cases bG e y<;>rfl
@[simp,simp ↓] theorem ak1{os:List Nat}{w b:Nat}{s x:bU}:WO O (⟨d,none,n,.VP os w b s x⟩::r) e J Q=WV (bY e J (.VP os w b s x)) λv J'=>WO O r (put d v e) J' Q:=dQ rfl
@[simp,simp ↓] theorem ak2{w b:Nat}{s x:bU}:WO O (⟨d,none,n,.app w b s x⟩::r) e J Q=WV (bY e J (.app w b s x)) λv J'=>WO O r (put d v e) J' Q:=dQ rfl
@[simp,simp ↓] theorem ak8{w b:Nat}{x:bU}:WO O (⟨d,none,n,.cpi w b x⟩::r) e J Q=WV (bY e J (.cpi w b x)) λv J'=>WO O r (put d v e) J' Q:=dQ rfl
@[simp,simp ↓] theorem alb{x:bU}{i:Nat}:WO O (⟨d,none,n,.ext x i⟩::r) e J Q=WD (aiw (bG e x) i) λv=>WO O r (put d v e) J Q:=by
 rw[dQ rfl];refine lu ?_;simp only[bY];cases bG e x<;>rfl
@[simp,simp ↓] theorem aj6{kp:Bool}{f:bU}{args:List bU}:WO O (⟨d,none,n,.call kp f args⟩::r) e J Q =
  WV (nG O kp (bG e f) (args.map (bG e)) J) λv J'=>(n=true->J'=J)/\WO O r (put d v e) J' Q:=by
 simp only[WO,kO,xe,WV,eq_iff_iff];cases hc:nG O kp (bG e f) (args.map (bG e)) J with
 |none=>simp
 |some y =>
  obtain⟨v,J1⟩:=y;by_cases hn:n=true->J1=J
  .simp only[if_pos hn,Option.bind_some,ae,ak];exact⟨λh=>⟨v,J1,⟨rfl,rfl⟩,hn,h⟩,λ⟨_,_,⟨h1,h2⟩,_,h⟩=>by subst h1 h2;exact h⟩
  .simp only[if_neg hn,Option.bind_none,reduceCtorEq,false_and,exists_false,ae,ak,false_iff];rintro⟨_,_,⟨h1,h2⟩,h,_⟩;subst h1 h2;exact hn h
@[simp,simp ↓] theorem aj2{nb:List (Nat×Nat)}{cs:List D}:WO O (⟨d,none,n,.CV nb cs⟩::r) e J Q=WD d λv=>WD (jT nb cs J) λy=>WO O r ((v,.own (uj e v) y.1)::e) y.2 Q:=by
 cases d with
 |none=>simp[WO,kO,xe]
 |some v=>cases h:jT nb cs J with
  |none=>simp[WO,kO,xe,h]
  |some y=>obtain⟨a,b⟩:=y;simp only[WO,kO,xe,h,Option.bind_some,Ke]
@[simp,simp ↓] theorem aj5{x:bU}:WO O (⟨d,none,n,.GD x⟩::r) e J Q=WD d λv=>WD (bG e x).cells λcs=>WO O r ((v,.own (uj e v) cs)::e) J Q:=by
 cases d with
 |none=>simp[WO,kO,xe]
 |some v=>cases h:(bG e x).cells with
  |none=>simp[WO,kO,xe,h]
  |some y=>simp only[WO,kO,xe,h,Option.bind_some,Ke]
def agO(e:Env)(J:SK)(v:Nat)(nb:List (Nat×Nat))(sz a:Nat)(x:bU):Option (D×SK) :=
 match pL e v a,(bG e x).cells with
 |some (s,cs,off),some p =>
  if p.length=sz/\off+sz<=cs.length then
   match jT nb p J with
   |some (p',J')=>some (.own s (cs.take off++p'++cs.drop (off+sz)),J')
   |none=>none
  else none
 |_,_=>none
@[simp,simp ↓] theorem alu{v:Nat}{nb:List (Nat×Nat)}{sz a:Nat}{x:bU}:WO O (⟨d,none,n,.Je v nb sz a x⟩::r) e J Q =
  WV (agO e J v nb sz a x) λy J'=>WO O r ((v,y)::e) J' Q:=by
 simp only[WO,kO,xe,agO];cases h1:pL e v a with
 |none=>simp
 |some p =>
  obtain⟨s,cs,off⟩:=p;cases h2:(bG e x).cells with
  |none=>simp
  |some p =>
   dsimp only;split
   .cases h3:jT nb p J with
    |none=>simp
    |some y=>obtain⟨a,b⟩:=y;simp[WO]
   .simp
end ops
section code
variable {e:Env} {J:SK} {Q:Exit->Env->SK->Prop}
@[simp,simp ↓] theorem akV:WC O .Ko e J Q=Q .normal e J:=by
 simp only[WC,bA,ae,ak,eq_iff_iff];exact⟨λ⟨_,_,_,⟨h1,h2,h3⟩,h⟩=>by subst h1 h2 h3;exact h,λh=>⟨_,_,_,⟨rfl,rfl,rfl⟩,h⟩⟩
@[simp,simp ↓] theorem akT{vs:List Nat}:WC O (.cK vs) e J Q=Q .normal (vu vs e J).1 (vu vs e J).2:=by
 simp only[WC,bA,ae,ak,eq_iff_iff];exact⟨λ⟨_,_,_,⟨h1,h2,h3⟩,h⟩=>by subst h1 h2 h3;exact h,λh=>⟨_,_,_,⟨rfl,rfl,rfl⟩,h⟩⟩
@[simp,simp ↓] theorem aj0{i:Nat}:WC O (.exit i) e J Q=Q (.exit i) e J:=by
 simp only[WC,bA,ae,ak,eq_iff_iff];exact⟨λ⟨_,_,_,⟨h1,h2,h3⟩,h⟩=>by subst h1 h2 h3;exact h,λh=>⟨_,_,_,⟨rfl,rfl,rfl⟩,h⟩⟩
@[simp,simp ↓] theorem akX:WC O .ret e J Q=Q .ret e J:=by
 simp only[WC,bA,ae,ak,eq_iff_iff];exact⟨λ⟨_,_,_,⟨h1,h2,h3⟩,h⟩=>by subst h1 h2 h3;exact h,λh=>⟨_,_,_,⟨rfl,rfl,rfl⟩,h⟩⟩
@[simp,simp ↓] theorem akW{live:List Nat}{ops:List Op}:WC O (.rM live ops) e J Q=WO O ops e J λe' J'=>Q .normal (restrict live e') J':=by
 simp only[WC,bA,WO,ad,ak,eq_iff_iff];constructor
 .rintro⟨x,e',J',⟨⟨e1,J1⟩,h1,rfl,rfl,rfl⟩,h⟩;exact⟨e1,J1,h1,h⟩
 .rintro⟨e',J',h1,h⟩;exact⟨_,_,_,⟨⟨e',J'⟩,h1,rfl,rfl,rfl⟩,h⟩
def RP(O:cn)(b:cb)(Q:Exit->Env->SK->Prop)(_m:Mark b:=.mk)(_m':Mark Q:=.mk):Exit->Env->SK->Prop
 |.normal,e,J=>WC O b e J Q
 |.exit i,e,J=>Q (.exit i) e J
 |.ret,e,J=>Q .ret e J
 |.fy d,e,J=>Q (.fy d) e J
@[simp,simp ↓] theorem ahG{b:cb}{d:D}:RP O b Q .mk .mk (.fy d) e J=Q (.fy d) e J:=aJ
@[simp,simp ↓] theorem ac3{b:cb}:RP O b Q .mk .mk .normal e J=WC O b e J Q:=aJ
@[simp,simp ↓] theorem agR{b:cb}{i:Nat}:RP O b Q .mk .mk (.exit i) e J=Q (.exit i) e J:=aJ
@[simp,simp ↓] theorem ahF{b:cb}:RP O b Q .mk .mk .ret e J=Q .ret e J:=aJ
@[simp,simp ↓] theorem akY{a b:cb}:WC O (.seq a b) e J Q=WC O a e J (RP O b Q .mk .mk):=by
 simp only[WC,bA,aj,eq_iff_iff];constructor
 .rintro⟨x,e',J',⟨⟨x1,e1,J1⟩,h1,h2⟩,h⟩;refine⟨x1,e1,J1,h1,?_⟩;cases x1 with
  |normal=>exact⟨x,e',J',h2,h⟩
  |exit i=>cases h2;exact h
  |ret=>cases h2;exact h
  |fy d=>cases h2;exact h
 .rintro⟨x1,e1,J1,h1,h⟩;cases x1 with
  |normal=>obtain⟨x,e',J',h2,h3⟩:=h;exact⟨x,e',J',⟨_,h1,h2⟩,h3⟩
  |exit i=>exact⟨_,_,_,⟨_,h1,rfl⟩,h⟩
  |ret=>exact⟨_,_,_,⟨_,h1,rfl⟩,h⟩
  |fy d=>exact⟨_,_,_,⟨_,h1,rfl⟩,h⟩
@[simp,simp ↓] theorem akU{c:bU}{a b:cb}:WC O (.ite c a b) e J Q=WD (Ql (bG e c)) λt=>if t=true then WC O a e J Q else WC O b e J Q:=by
 simp only[WC,bA];cases bG e c<;>simp[Ql];rename_i t;cases t<;>simp
def S6(id:Nat)(Q:Exit->Env->SK->Prop)(_m:Mark Q:=.mk):Exit->Env->SK->Prop
 |.normal,e,J=>Q .normal e J
 |.exit i,e,J=>if i=id then Q .normal e J else Q (.exit i) e J
 |.ret,e,J=>Q .ret e J
 |.fy d,e,J=>Q (.fy d) e J
@[simp,simp ↓] theorem aiX{id:Nat}{d:D}:S6 id Q .mk (.fy d) e J=Q (.fy d) e J:=aJ
@[simp,simp ↓] theorem adJ{id:Nat}:S6 id Q .mk .normal e J=Q .normal e J:=aJ
@[simp,simp ↓] theorem aho{id i:Nat}:S6 id Q .mk (.exit i) e J=if i=id then Q .normal e J else Q (.exit i) e J:=aJ
@[simp,simp ↓] theorem aiW{id:Nat}:S6 id Q .mk .ret e J=Q .ret e J:=aJ
@[simp,simp ↓] theorem akS{id:Nat}{a:cb}:WC O (.dR id a) e J Q=WC O a e J (S6 id Q .mk):=by
 simp only[WC,bA,ad,eq_iff_iff];constructor
 .rintro⟨x,e',J',⟨⟨x1,e1,J1⟩,h1,h2⟩,h⟩;refine⟨x1,e1,J1,h1,?_⟩;cases x1 with
  |normal=>cases h2;exact h
  |exit i =>
   simp only[S6];dsimp only at h2;split at h2<;>cases h2
   .rw[if_pos (by assumption)];exact h
   .rw[if_neg (by assumption)];exact h
  |ret=>cases h2;exact h
  |fy d=>cases h2;exact h
 .rintro⟨x1,e1,J1,h1,h⟩;cases x1 with
  |normal=>exact⟨_,_,_,⟨_,h1,rfl⟩,h⟩
  |exit i =>
   simp only[S6]at h;split at h
   .exact⟨_,_,_,⟨_,h1,by dsimp only;rw[if_pos (by assumption)]⟩,h⟩
   .exact⟨_,_,_,⟨_,h1,by dsimp only;rw[if_neg (by assumption)]⟩,h⟩
  |ret=>exact⟨_,_,_,⟨_,h1,rfl⟩,h⟩
  |fy d=>exact⟨_,_,_,⟨_,h1,rfl⟩,h⟩
theorem VW(d:D):d.calm.calm=d.calm:=by cases d<;>rfl
theorem MD{live:List Nat}{e:Env}{t:Nat}:get (restrict live e) t=if t∈live then(get e t).calm else .undef:=by
 induction live with
 |nil=>simp[restrict,get]
 |cons a l ih =>
  simp only[restrict,aL,get,bz];by_cases h:a=t
  .subst h;simp
  .have h':¬t=a:=λx=>h x.symm
   simp only[if_neg h,h',false_or];exact ih
theorem Ba{live:List Nat}{e:Env}:restrict live (restrict live e)=restrict live e:=by
 simp only[restrict,List.map_inj_left,ak,true_and];intro t ht;have:=MD (live:=live) (e:=e) (t:=t);simp only[restrict]at this;rw[this,if_pos ht,VW]
theorem yi{live:List Nat}{bC:Bool}{c:cb}:dM T O (.loop live bC c (restrict live e) J)=dM T O (.loop live bC c e J):=by
 simp only[dM,Ba]
theorem AZ{live:List Nat}{bC:Bool}{c:cb}{r:R}(h:di T (.loop live bC c (restrict live e) J)=some r):di T (.loop live bC c e J)=some r:=by
 obtain⟨n,h⟩:=yE.1 h;cases n with
 |zero=>cases h
 |succ n =>
  rw[it,yi]at h;exact yE.2 ⟨n+1,h⟩
theorem GN{live:List Nat}{bC:Bool}{c:cb}{r:R}(h:di T (.loop live bC c e J)=some r):di T (.loop live bC c (restrict live e) J)=some r:=by
 obtain⟨n,h⟩:=yE.1 h;cases n with
 |zero=>cases h
 |succ n =>
  rw[it,<- yi]at h;exact yE.2 ⟨n+1,h⟩
theorem SB{r:Option R}{x:Exit}{e:Env}{J:SK}(h:R.VX r=some (x,e,J)):r=some (.FU x e J):=by
 unfold R.VX at h;split at h
 .cases h;rfl
 .cases h
@[simp,simp ↓] theorem aj1{live:List Nat}{bC:Bool}{c:cb}:WC (di T) (.loop live bC c) e J Q=WL T live bC c (restrict live e) J Q:=by
 simp only[WC,bA,WL,eq_iff_iff];constructor
 .rintro⟨x,e',J',h1,h⟩;cases hl:di T (.loop live bC c e J)with
  |none=>rw[hl]at h1;cases h1
  |some r =>
   rw[hl]at h1;cases r<;>cases h1;exact⟨_,_,_,GN hl,h⟩
 .rintro⟨x,e',J',h1,h⟩;exact⟨x,e',J',by rw[AZ h1];rfl,h⟩
def NB(T:CL)(live:List Nat)(c:cb)(Q:Exit->Env->SK->Prop)(_m:Mark c:=.mk)(_m':Mark Q:=.mk):Exit->Env->SK->Prop
 |.normal,e,J=>WL T live false c (restrict live e) J Q
 |.exit i,e,J=>Q (.exit i) e J
 |.ret,e,J=>Q .ret e J
 |.fy d,e,J=>Q (.fy d) e J
@[simp,simp ↓] theorem ahm{live:List Nat}{c:cb}{d:D}:NB T live c Q .mk .mk (.fy d) e J=Q (.fy d) e J:=aJ
@[simp,simp ↓] theorem acq{live:List Nat}{c:cb}:NB T live c Q .mk .mk .normal e J=WL T live false c (restrict live e) J Q:=aJ
@[simp,simp ↓] theorem afH{live:List Nat}{c:cb}{i:Nat}:NB T live c Q .mk .mk (.exit i) e J=Q (.exit i) e J:=aJ
@[simp,simp ↓] theorem ahl{live:List Nat}{c:cb}:NB T live c Q .mk .mk .ret e J=Q .ret e J:=aJ
theorem Am{live:List Nat}{c c':cb}(hc:c=c')(h:WC (di T) c' (restrict live e) J (NB T live c Q .mk .mk)):WL T live false c e J Q:=by
 rw[<- hc]at h;obtain⟨x,e1,J1,h1,h2⟩:=h;cases x with
 |normal =>
  obtain⟨x,e',J',h3,h4⟩:=h2;exact⟨x,e',J',gJ (by simp[dM,h1,AZ h3]),h4⟩
 |exit i=>exact⟨_,_,_,gJ (by simp[dM,h1]),h2⟩
 |ret=>exact⟨_,_,_,gJ (by simp[dM,h1]),h2⟩
 |fy d=>exact⟨_,_,_,gJ (by simp[dM,h1]),h2⟩
theorem aK{live:List Nat}{c c':cb}(h:WC (di T) c' (restrict live e) J (NB T live c Q .mk .mk))(hc:c=c':=by conv=>lhs;whnf):WL T live false c e J Q:=Am hc h
def SF(J:SK)(res:List G2)(d:D)(x:Exit)(e:Env)(J1:SK):Prop :=
 (∀i,x ≠ .exit i)/\(∀d,x ≠ .fy d)/\∃ds,CG e J1 res=some ds/\∃s,cK (J.length-1) deep (ub ds) J1=(d,s::J)
@[simp,simp ↓] theorem adt{J1:SK}{res:List G2}{d:D}:SF J res d .normal e J1=∃ds,CG e J1 res=some ds/\∃s,cK (J.length-1) deep (ub ds) J1=(d,s::J):=by simp[SF]
@[simp,simp ↓] theorem ais{J1:SK}{res:List G2}{d:D}:SF J res d .ret e J1=∃ds,CG e J1 res=some ds/\∃s,cK (J.length-1) deep (ub ds) J1=(d,s::J):=by simp[SF]
theorem mX{f:Nat}{fn:Fn}{args:List D}{J:SK}{d:D}{np:Nat}{res:List G2}{body:cb}(hT:T f=some fn)(hf:fn=⟨np,res,body⟩)(hl:args.length=np)
  (h:WC (di T) body (kU 0 args) ([]::J) (SF J res d)):
  di T (.call false f args J)=some (.val d J):=by
 subst hf;obtain⟨x,e1,J1,h1,h2,h2',ds,h3,s,h4⟩:=h;refine gJ ?_;simp only[dM,hT,if_pos hl,aC,if_false,h1];cases x with
 |exit i=>exact absurd rfl (h2 i)
 |fy d=>exact absurd rfl (h2' d)
 |normal=>simp[h3,h4]
 |ret=>simp[h3,h4]
theorem an{f:Nat}{fn:Fn}{args:List D}{J:SK}{d:D}{np:Nat}{res:List G2}{body:cb}(h:WC (di T) body (kU 0 args) ([]::J) (SF J res d))(hT:T f=some fn:=by exact rfl)(hf:fn=⟨np,res,body⟩:=by exact rfl)(hl:args.length=np:=by exact rfl):di T (.call false f args J)=some (.val d J):=mX hT hf hl h
def afl(J:SK)(d:D)(x:Exit)(e:Env)(J1:SK):Prop:=x=.fy d/\d.clean=true/\∃s,J1=s::J
@[simp,simp ↓] theorem aiu{J1:SK}{d d':D}:afl J d (.fy d') e J1=(d'=d/\d.clean=true/\∃s,J1=s::J):=by simp[afl]
theorem ej{f:Nat}{fn:Fn}{args:List D}{J:SK}{d:D}{np:Nat}{res:List G2}{body:cb}(hT:T f=some fn)(hf:fn=⟨np,res,body⟩)(hl:args.length=np)
  (h:WC (di T) body (kU 0 args) ([]::J) (afl J d)):
  di T (.call false f args J)=some (.fy d J):=by
 subst hf;obtain⟨x,e1,J1,h1,rfl,hc,s,rfl⟩:=h;refine gJ ?_;simp only[dM,hT,if_pos hl,aC,if_false,h1];simp[TA,hc]
def WR(r:Option R)(Qn Qt:D->SK->Prop)(_m:Mark Qn:=.mk)(_m':Mark Qt:=.mk):Prop:=(∃d J',r=some (.val d J')/\Qn d J')\/∃d J',r=some (.fy d J')/\Qt d J'
@[simp,simp ↓] theorem aeZ{d:D}{J':SK}{Qn Qt:D->SK->Prop}:WR (some (.val d J')) Qn Qt=Qn d J':=by
 simp only[WR,ae,R.val.injEq,reduceCtorEq,false_and,exists_false,or_false,eq_iff_iff];exact⟨λ⟨_,_,⟨h1,h2⟩,h⟩=>by subst h1 h2;exact h,λh=>⟨_,_,⟨rfl,rfl⟩,h⟩⟩
@[simp,simp ↓] theorem aeY{d:D}{J':SK}{Qn Qt:D->SK->Prop}:WR (some (.fy d J')) Qn Qt=Qt d J':=by
 simp only[WR,ae,R.fy.injEq,reduceCtorEq,false_and,exists_false,false_or,eq_iff_iff];exact⟨λ⟨_,_,⟨h1,h2⟩,h⟩=>by subst h1 h2;exact h,λh=>⟨_,_,⟨rfl,rfl⟩,h⟩⟩
def afQ:D->Option D
 |.ua t d=>if d.clean then some (.ua t d)else none
 |_=>none
@[simp] theorem Re{t:Nat}{d:D}:afQ (.ua t d)=if d.clean then some (.ua t d)else none:=aJ
@[simp] theorem aik{O:cn}{f:Nat}{first cap args:List D}{J:SK}:DH O (.fn f first cap) args J=O (.call false f (first++args++cap) J):=aJ
@[simp,simp ↓] theorem abB{live:List Nat}{pre post:List Op}{dst:Option Nat}{n:Bool}{f:bU}{args:List bU}:WC O (.RQ live pre ⟨dst,none,n,.call false f args⟩ post) e J Q =
  WO O pre e J λe1 J1=>WR (DH O (bG e1 f) (args.map (bG e1)) J1) (λd J2=>WO O post (put dst d e1) J2 λe' J'=>Q .normal (restrict live e') J') (λd J2=>Q (.fy d) e1 J2):=by
 simp only[WC,WO,bA,J2,aj,eq_iff_iff];constructor
 .rintro⟨x,e',J',⟨⟨e1,J1⟩,h1,h2⟩,h⟩;refine⟨e1,J1,h1,?_⟩;dsimp only at h2;cases hc:DH O (bG e1 f) (args.map (bG e1)) J1 with
  |none=>rw[hc]at h2;simp[uw]at h2
  |some r =>
   rw[hc]at h2;cases r with
   |FU=>simp[uw]at h2
   |fy d J2=>simp only[uw,ae,ak]at h2;obtain⟨rfl,rfl,rfl⟩:=h2;rw[aeY];exact h
   |val d J2 =>
    simp only[uw,ad]at h2;obtain⟨⟨e3,J3⟩,h3,h4⟩:=h2;cases h4;rw[aeZ];exact⟨e3,J3,h3,h⟩
 .rintro⟨e1,J1,h1,h⟩;rcases h with⟨d,J2,h2,e3,J3,h3,h4⟩ | ⟨d,J2,h2,h4⟩
  .exact⟨.normal,_,J3,⟨(e1,J1),h1,by simp only[h2,uw,h3,aZ]⟩,h4⟩
  .exact⟨.fy d,e1,J2,⟨(e1,J1),h1,by simp only[h2,uw]⟩,h4⟩
@[simp,simp ↓] theorem adn{live:List Nat}{pre post:List Op}{dst:Option Nat}{n:Bool}{x:bU}:WC O (.RQ live pre ⟨dst,none,n,.ZE x⟩ post) e J Q =
  WO O pre e J λe1 J1=>WD (afQ (bG e1 x)) λd=>Q (.fy d) e1 J1:=by
 simp only[WC,WO,bA,J2,aj,eq_iff_iff];constructor
 .rintro⟨x',e',J',⟨⟨e1,J1⟩,h1,h2⟩,h⟩;refine⟨e1,J1,h1,?_⟩;dsimp only at h2;cases hx:bG e1 x<;>rw[hx]at h2<;>try (cases h2;done)
  dsimp only at h2;split at h2
  .rename_i hc;cases h2;simp only[Re,hc,if_true,Ke];exact h
  .cases h2
 .rintro⟨e1,J1,h1,d,h2,h⟩;refine⟨.fy d,e1,J1,⟨(e1,J1),h1,?_⟩,h⟩;dsimp only;cases hx:bG e1 x<;>rw[hx]at h2<;>try (cases h2;done)
  simp only[Re]at h2;split at h2
  .rename_i hc;cases h2;simp[hc]
  .cases h2
def WM(T:CL)(live:List Nat)(it:bU)(nx ok b:Nat)(c rest:cb)(e:Env)(J:SK)(Q:Exit->Env->SK->Prop)(_m:Mark c:=.mk)(_m':Mark rest:=.mk)(_m'':Mark Q:=.mk):Prop:=∃x e' J',di T (.gX live it nx ok b c rest e J)=some (.FU x e' J')/\Q x e' J'
theorem WM.mono{live:List Nat}{it:bU}{nx ok b:Nat}{c rest:cb}{Q':Exit->Env->SK->Prop}(h:WM T live it nx ok b c rest e J Q)(hq:∀x e J,Q x e J->Q' x e J):WM T live it nx ok b c rest e J Q' :=
 let ⟨x,e',J',h1,h2⟩:=h;⟨x,e',J',h1,hq _ _ _ h2⟩
theorem wY{live:List Nat}{it:bU}{nx ok b:Nat}{c rest:cb}:dM T O (.gX live it nx ok b c rest (restrict live e) J)=dM T O (.gX live it nx ok b c rest e J):=by
 simp only[dM,Ba]
theorem sy{live:List Nat}{it:bU}{nx ok b:Nat}{c rest:cb}{r:R}:di T (.gX live it nx ok b c rest (restrict live e) J)=some r↔di T (.gX live it nx ok b c rest e J)=some r:=by
 constructor<;>intro h<;>obtain⟨n,h⟩:=yE.1 h<;>cases n<;>first | (cases h;done) | skip
 .rw[aw.it,wY]at h;exact yE.2 ⟨_+1,h⟩
 .rw[aw.it,<- wY]at h;exact yE.2 ⟨_+1,h⟩
@[simp,simp ↓] theorem ahZ{live:List Nat}{it:bU}{nx ok b:Nat}{c rest:cb}:WC (di T) (.gX live it nx ok b c rest) e J Q=WM T live it nx ok b c rest (restrict live e) J Q:=by
 simp only[WC,bA,WM,eq_iff_iff];constructor
 .rintro⟨x,e',J',h1,h⟩;exact⟨_,_,_,sy.2 (SB h1),h⟩
 .rintro⟨x,e',J',h1,h⟩;exact⟨x,e',J',by rw[sy.1 h1];rfl,h⟩
def NC(T:CL)(live:List Nat)(it:bU)(l i nx ok b:Nat)(c rest:cb)(r:R)(_m:Mark c:=.mk)(_m':Mark rest:=.mk):Exit->Env->SK->Prop
 |.normal,e,J=>di T (.gX live it nx ok b c rest (restrict live e) J)=some r
 |.exit j,e,J=>if j=b then WC (di T) rest e (bw J l i .dead) λx e' J'=>r=.FU x e' J' else r=.FU (.exit j) e (bw J l i .dead)
 |.ret,e,J=>r=.FU .ret e (bw J l i .dead)
 |.fy _,_,_=>False
@[simp,simp ↓] theorem acr{live:List Nat}{it:bU}{l i nx ok b:Nat}{c rest:cb}{r:R}:NC T live it l i nx ok b c rest r .mk .mk .normal e J=(di T (.gX live it nx ok b c rest (restrict live e) J)=some r):=aJ
@[simp,simp ↓] theorem S0{live:List Nat}{it:bU}{l i nx ok b j:Nat}{c rest:cb}{r:R}:NC T live it l i nx ok b c rest r .mk .mk (.exit j) e J=if j=b then WC (di T) rest e (bw J l i .dead) λx e' J'=>r=.FU x e' J' else r=.FU (.exit j) e (bw J l i .dead):=aJ
@[simp,simp ↓] theorem Wp{live:List Nat}{it:bU}{l i nx ok b:Nat}{c rest:cb}{r:R}:NC T live it l i nx ok b c rest r .mk .mk .ret e J=(r=.FU .ret e (bw J l i .dead)):=aJ
theorem OJ{l i b:Nat}{rest:cb}{r:R}{x:Exit}{e1:Env}{J1:SK}{live:List Nat}{it:bU}{nx ok:Nat}{c:cb}(hx:x ≠ .normal)(h:NC T live it l i nx ok b c rest r .mk .mk x e1 J1):zO (di T) l i b rest (some (x,e1,J1))=some r:=by
 cases x with
 |normal=>exact absurd rfl hx
 |fy d=>exact h.elim
 |ret=>simp only[Wp]at h;subst h;rfl
 |exit j =>
  simp only[S0]at h;simp only[zO];split at h
  .rename_i hj;obtain⟨x',e',J',h1,rfl⟩:=h;rw[if_pos hj,h1];rfl
  .rename_i hj;subst h;rw[if_neg hj]
theorem Zr{live:List Nat}{it:bU}{l i nx ok b:Nat}{c c' rest rest':cb}{r:R}{m:D}{n:Nat}{js:List D}{us:List Nat}(hcc:c=c')(hrr:rest=rest')(hit:bG (restrict live e) it=.jg l i)(hd:JO J l i=some (m,n,js,us))(hne:us≠[])
  (h:∀u∈us,WC (di T) c' ((ok,.bool true)::(nx,.undef)::restrict live e) (bw J l i (.cells 1 (m::.int .i64 (n:Nat)::.int .i64 (u:Nat)::js))) (NC T live it l i nx ok b c rest' r .mk .mk)):
  di T (.gX live it nx ok b c rest e J)=some r:=by
 subst hcc hrr;refine gJ ?_;simp only[dM,hit,hd];have key:∀u∈us,DX (di T) live it l i nx ok b c rest (bA (di T) c ((ok,.bool true)::(nx,.undef)::restrict live e) (bw J l i (.cells 1 (m::.int .i64 (n:Nat)::.int .i64 (u:Nat)::js))))=some r:=by
  intro u hu;obtain⟨x,e1,J1,h1,h2⟩:=h u hu;rw[h1];cases x with
  |normal=>exact sy.1 h2
  |exit j=>exact OJ (x:=.exit j) (by simp) h2
  |ret=>exact OJ (x:=.ret) (by simp) h2
  |fy d=>exact h2.elim
 cases us with
 |nil=>exact absurd rfl hne
 |cons u us=>exact M3 (by simp) key
theorem Wm{live:List Nat}{it:bU}{l i nx ok b:Nat}{c c' rest rest':cb}{r:R}{m:D}{n:Nat}{js:List D}(hcc:c=c')(hrr:rest=rest')(hit:bG (restrict live e) it=.jg l i)(hd:JO J l i=some (m,n,js,[]))
  (h:WC (di T) c' ((ok,.bool false)::(nx,.undef)::restrict live e) J λx e1 J1=>x ≠ .normal/\NC T live it l i nx ok b c rest' r .mk .mk x e1 J1):
  di T (.gX live it nx ok b c rest e J)=some r:=by
 subst hcc hrr;refine gJ ?_;simp only[dM,hit,hd];obtain⟨x,e1,J1,h1,hx,h2⟩:=h;rw[h1];exact OJ hx h2
def agQ:Exit->Option (Option D)
 |.normal=>some none
 |.ret=>some none
 |.fy d=>some (some d)
 |.exit _=>none
@[simp] theorem ajR:agQ .ret=some none:=aJ
@[simp] theorem ajS{d:D}:agQ (.fy d)=some (some d):=aJ
noncomputable def xf(T:CL)(fv:D)(args:List D)(th:Option D)(J:SK):Option SK :=
 match oK (di T) fv args th J with
 |some (.val _ J')=>some J'
 |_=>none
theorem uT{f:Nat}{first cap args:List D}{th:Option D}{J J':SK}{d:D}(h:di T (.Ar f (first++args++cap) th J)=some (.val d J')):xf T (.fn f first cap) args th J=some J':=by
 simp only[xf,oK,h]
def Qv(T:CL)(fv:D)(args:List D)(J:SK)(res:List G2)(d:D)(x:Exit)(e:Env)(J1:SK):Prop :=
 WD (agQ x) λth=>WD (xf T fv args th J1) λJ2=>∃ds,CG e J2 res=some ds/\∃s,cK (J.length-1) deep (ub ds) J2=(d,s::J)
def toD(T:CL)(f:bU)(args:List bU)(q:cb)(J:SK)(res:List G2)(d:D)(x:Exit)(e:Env)(J1:SK)(_m:Mark q:=.mk):Prop :=
 x=.normal/\WC (di T) q e J1 (Qv T (bG e f) (args.map (bG e)) J res d)
theorem Qo{f:Nat}{fn:Fn}{args:List D}{J:SK}{d:D}{np:Nat}{res:List G2}{body A q:cb}{fo:bU}{as:List bU}(hT:T f=some fn)(hf:fn=⟨np,res,body⟩)(hl:args.length=np)(hs:ie body=some (A,fo,as,q))
  (h:WC (di T) A (kU 0 args) ([]::J) (toD T fo as q J res d)):
  di T (.call false f args J)=some (.val d J):=by
 subst hf;obtain⟨x,e1,J1,h1,rfl,x2,e2,J2,h2,th,h3,J3,h4,ds,h5,s,h6⟩:=h;refine gJ ?_;have hn:bA (di T) body (kU 0 args) ([]::J)=none:=Bc hs h1;simp only[dM,hT,if_pos hl,aC,if_false,hn,hs,B8,h1,h2];have h4':∃dv,oK (di T) (bG e1 fo) (as.map (bG e1)) th J2=some (.val dv J3):=by
  unfold xf at h4;split at h4
  .rename_i h7;cases h4;exact⟨_,h7⟩
  .cases h4
 obtain⟨dv,h4'⟩:=h4';cases x2 with
 |exit i=>cases h3
 |normal=>cases h3;simp only[B9,h4',uU,leave,h5,h6]
 |ret=>cases h3;simp only[B9,h4',uU,leave,h5,h6]
 |fy d=>cases h3;simp only[B9,h4',uU,leave,h5,h6]
def afm(J':SK)(res:List G2)(x:Exit)(e:Env)(J1:SK):Prop :=
 (∀i,x ≠ .exit i)/\(∀d,x ≠ .fy d)/\CG e J1 res=some []/\∃s,J1=s::J'
@[simp,simp ↓] theorem adv{J' J1:SK}{res:List G2}:afm J' res .normal e J1=(CG e J1 res=some []/\∃s,J1=s::J'):=by simp[afm]
theorem Ed{f:Nat}{fn:Fn}{args:List D}{th:Option D}{J J':SK}{np:Nat}{res:List G2}{body q:cb}{e0:Env}(hT:T f=some fn)(hf:fn=⟨np,res,body⟩)(hl:args.length=np)(hr:qU th args body=some (e0,q))
  (h:WC (di T) q e0 ([]::J) (afm J' res)):di T (.Ar f args th J)=some (.val (.cS []) J'):=by
 subst hf;obtain⟨x,e1,J1,h1,h2,h2',h3,s,rfl⟩:=h;refine gJ ?_;simp only[dM,hT,if_pos hl,hr,h1];cases x with
 |exit i=>exact absurd rfl (h2 i)
 |fy d=>exact absurd rfl (h2' d)
 |normal=>simp[h3]
 |ret=>simp[h3]
end code
@[simp] theorem aiH{k t:Nat}{v:D}{r:Env}:get ((k,v)::r) t=if k=t then v else get r t:=aJ
@[simp] theorem ai6{t:Nat}{v:D}{e:Env}:put (some t) v e=(t,v)::e:=aJ
@[simp] theorem ai5{v:D}{e:Env}:put none v e=e:=aJ
@[simp] theorem aiU{e:Env}{n:Nat}:bG e (.t n)=(get e n).strip:=aJ
@[simp] theorem ami{e:Env}{d:D}:bG e (.c d)=d:=aJ
@[simp] theorem acF{e:Env}:restrict [] e=[]:=aJ
@[simp] theorem aav{t:Nat}{l:List Nat}{e:Env}:restrict (t::l) e=(t,(get e t).calm)::restrict l e:=aJ
@[simp] theorem ahg{n:Nat}:kU n []=[]:=aJ
@[simp] theorem afA{n:Nat}{d:D}{ds:List D}:kU n (d::ds)=(n,d)::kU (n+1) ds:=aJ
section
variable {e:Env} {J:SK}
@[simp] theorem ajc:CG e J []=some []:=aJ
@[simp] theorem ahC{r:G2}{rs:List G2}:CG e J (r::rs)=(LW e J r).bind λd=>(CG e J rs).map λds=>d::ds:=aJ
@[simp] theorem alT{n:Nat}:LW e J (.t n)=some (get e n).strip:=aJ
@[simp] theorem alS{n sz:Nat}{ag:Bool}:LW e J (.c n ag sz)=RW ag sz (I1 J (get e n).strip):=by
 simp only[LW,bY,aiU];cases I1 J (get e n).strip with
 |none=>rfl
 |some cs =>
  simp only[RW];split
  .cases ag
   .cases cs<;>rfl
   .rfl
  .rfl
@[simp] theorem alU{n sz:Nat}{ag:Bool}:LW e J (.v n ag sz)=Ze e n ag sz n:=by
 simp only[LW,bY,Ze];cases pL e n n with
 |none=>rfl
 |some x =>
  obtain⟨s,cs,off⟩:=x;simp only[RW,aZ];split
  .cases ag
   .cases cs.drop off<;>rfl
   .rfl
  .rfl
@[simp] theorem ahi{d:D}:ub [d]=d:=aJ
@[simp] theorem ahh:ub []=.cS []:=aJ
@[simp] theorem ahj{d d':D}{ds:List D}:ub (d::d'::ds)=.cS (d::d'::ds):=aJ
@[simp] theorem ag3{cs:List D}:iB e [] cs=some cs:=aJ
@[simp] theorem afq{off sz:Nat}{x:bU}{r:List (Nat×Nat×bU)}{cs:List D}:iB e ((off,sz,x)::r) cs =
  ((bG e x).cells.bind λp=>if p.length=sz/\off+sz<=cs.length then some (cs.take off++p++cs.drop (off+sz))else none).bind (iB e r):=by
 simp only[iB];cases(bG e x).cells with
 |none=>rfl
 |some p=>dsimp only [Option.bind_some];split<;>rfl
@[simp] theorem afi{w:Nat}:elems J w .bB=some (0,[]):=aJ
@[simp] theorem agY{w:Nat}{s:List UInt8}:elems J w (.str s)=if w=1 then some (s.length,strCells s)else none:=aJ
@[simp] theorem V1{w n:Nat}{cs:List D}:elems J w (.bZ n cs)=if cs.length=n*w then some (n,cs)else none:=aJ
@[simp] theorem aiq{w l i v off n w':Nat}:elems J w (.sl l i v off n w')=if w'=w then(match cells? J l i v with | some cs=>if off+n*w<=cs.length then some (n,(cs.drop off).take (n*w))else none | none=>none)else none:=aJ
end
attribute [simp] bY Oe jT fT pL uj agO Ze CM bounds D.row cells? ef eK bw gL
@[simp] theorem adT{b:Bool}:D.clean (.bool b)=true:=by rw[D.clean]
@[simp] theorem af8{k:IntKind}{n:Int}:D.clean (.int k n)=true:=by rw[D.clean]
@[simp] theorem aga{s:List UInt8}:D.clean (.str s)=true:=by rw[D.clean]
@[simp] theorem adW:D.clean .bB=true:=by rw[D.clean]
@[simp] theorem af7{t:Nat}{d:D}:D.clean (.ua t d)=D.clean d:=by rw[D.clean]
@[simp] theorem adV:D.clean .pc=true:=by rw[D.clean]
@[simp] theorem ahB{l i v o n w:Nat}:D.clean (.sl l i v o n w)=false:=by rw[D.clean]
@[simp] theorem af6{cs:List D}:D.clean (.agg cs)=D.bh cs:=by rw[D.clean]
@[simp] theorem agb{cs:List D}:D.clean (.cS cs)=D.bh cs:=by rw[D.clean]
@[simp] theorem adU{cs:List D}:D.clean (.bq cs)=D.bh cs:=by rw[D.clean]
@[simp] theorem af9{n:Nat}{cs:List D}:D.clean (.bZ n cs)=D.bh cs:=by rw[D.clean]
@[simp] theorem ahA{f:Nat}{a b:List D}:D.clean (.fn f a b)=(D.bh a && D.bh b):=by rw[D.clean]
@[simp] theorem afd:D.bh []=true:=by rw[D.bh]
@[simp] theorem ads{d:D}{ds:List D}:D.bh (d::ds)=(D.clean d && D.bh ds):=by rw[D.bh]
@[simp] theorem YK:deep=16:=aJ
@[simp] theorem eV{l n:Nat}{d:D}{J:SK}(h:d.clean=true)(hn:0<n):cK l n d J=(d,J):=by
 obtain⟨m,rfl⟩:∃m,n=m+1:=⟨n-1,by omega⟩;unfold cK;simp[h]
@[simp] theorem GH{l n:Nat}{ds:List D}{J:SK}(h:D.bh ds=true)(hn:0<n):cK.frzL (cK l n) ds J=(ds,J):=by
 induction ds generalizing J with
 |nil=>rfl
 |cons d ds ih =>
  simp only[D.bh,af]at h;simp[cK.frzL,h.1,ih h.2,hn]
@[simp] theorem kq{f:D->SK->D×SK}{J:SK}:cK.frzL f [] J=([],J):=aJ
@[simp] theorem jD{f:D->SK->D×SK}{d:D}{ds:List D}{J:SK}:cK.frzL f (d::ds) J=((f d J).1::(cK.frzL f ds (f d J).2).1,(cK.frzL f ds (f d J).2).2):=aJ
theorem pw{l n:Nat}{ds:List D}{J:SK}(h:D.bh ds=false)(hn:0<n):cK l n (.cS ds) J=(.cS (cK.frzL (cK l (n-1)) ds J).1,(cK.frzL (cK l (n-1)) ds J).2):=by
 obtain⟨m,rfl⟩:∃m,n=m+1:=⟨n-1,by omega⟩
 conv=>lhs;unfold cK
 simp[D.clean,h]
theorem Fp{l n:Nat}{ds:List D}{J:SK}(h:D.bh ds=false)(hn:0<n):cK l n (.agg ds) J=(.agg (cK.frzL (cK l (n-1)) ds J).1,(cK.frzL (cK l (n-1)) ds J).2):=by
 obtain⟨m,rfl⟩:∃m,n=m+1:=⟨n-1,by omega⟩
 conv=>lhs;unfold cK
 simp[D.clean,h]
theorem GI{l n l' i v off m w:Nat}{J:SK}{cs:List D}(h:¬l'<=l)(hc:cells? J l' i v=some cs)(hn:0<n):
  cK l n (.sl l' i v off m w) J=(.bZ m (cK.frzL (cK l (n-1)) ((cs.drop off).take (m*w)) (bw J l' i .dead)).1,(cK.frzL (cK l (n-1)) ((cs.drop off).take (m*w)) (bw J l' i .dead)).2):=by
 obtain⟨m,rfl⟩:∃m,n=m+1:=⟨n-1,by omega⟩
 conv=>lhs;unfold cK
 simp only[D.clean,h,hc,aC,if_false,Nat.add_sub_cancel]
@[simp] theorem afu{l n l' i v off m w:Nat}{J:SK}(h:l'<=l)(hn:0<n):cK l n (.sl l' i v off m w) J=(.sl l' i v off m w,J):=by
 obtain⟨m,rfl⟩:∃m,n=m+1:=⟨n-1,by omega⟩
 conv=>lhs;unfold cK
 simp only[D.clean,h,if_true,aC,if_false]
@[simp] theorem ady{l n l' i v off:Nat}{J:SK}(h:l'<=l)(hn:0<n):cK l n (.ref l' i v off) J=(.ref l' i v off,J):=by
 obtain⟨m,rfl⟩:∃m,n=m+1:=⟨n-1,by omega⟩
 conv=>lhs;unfold cK
 simp only[D.clean,h,if_true,aC,if_false]
@[simp] theorem alI{n:Nat}:(n+1+1=n)=False:=by simp;omega
@[simp] theorem alJ{n:Nat}:(n+1+1+1=n)=False:=by simp;omega
@[simp] theorem alK{n:Nat}:(n+1+1+1+1=n)=False:=by simp;omega
@[simp] theorem alL{n:Nat}:(n+1+1+1+1+1=n)=False:=by simp;omega
theorem FR{a b:List D}:D.bh (a++b)=(D.bh a && D.bh b):=by
 induction a with
 |nil=>rfl
 |cons d a ih=>simp[D.bh,ih,Bool.and_assoc]
