import Derived.Test.YtanhdobabijmoaaGreatDoorBase12
import Derived.Lib.LaidTab
import Derived.LaidLaws
import Derived.Shelf.Vars
set_option linter.all false
namespace Go.aA
open Go
theorem QK{P:Program}{w:World}:∀{l:List (String×DataW Unit)} {ps:List MemPlace},DataW.LaidVars P w l ps->∀x∈l,
  ∃g t cs fuel p,P.globalNamed x.1=some g/\(P.globals[g]?).map (·.type)=some t/\w.var? P x.1=some cs/\DataW.trod (λ_=>()) P w 0 (λ_=>true) false fuel t cs.toList=some (x.2,p) /\
   ∀m∈MemPlace.row ⟨g,0,none⟩ cs.size,m∈ps
 |[],_,_,x,hx=>by cases hx
 |(n,d)::r,ps,h,x,hx=>by
  obtain⟨g,t,cs,fuel,p,q,h1,h2,h3,h4,h5,rfl⟩:=h;rcases aY.1 hx with rfl | hx
  .exact⟨g,t,cs,fuel,p,h1,h2,h3,h4,λm hm=>by simp[hm]⟩
  .obtain⟨g',t',cs',f',p',k1,k2,k3,k4,k5⟩:=QK h5 x hx;exact⟨g',t',cs',f',p',k1,k2,k3,k4,λm hm=>by simp[k5 m hm]⟩
theorem KC{P:Program}{w:World}{l:List (String×DataW Unit)}(hl:laidMet P l w){n:String}{d:DataW Unit}(hx:(n,d)∈l){b t:Nat}(hb:P.globalNamed n=some b)(ht:(P.globals[b]?).map (·.type)=some t):
  ∃cs fuel p,DataW.trod (λ_=>()) P w 0 (λ_=>true) false fuel t cs.toList=some (d,p)/\(0<cs.size->∃t',w.heap[b]?=some (.cells cs t' (0,0))):=by
 obtain⟨ps,h1,_,h2⟩:=hl;obtain⟨g,t',cs,fuel,p,k1,k2,k3,k4,k5⟩:=QK h1 _ hx;obtain rfl:=Option.some.inj (hb.symm.trans k1);obtain rfl:=Option.some.inj (ht.symm.trans k2);refine⟨cs,fuel,p,k4,λhpos=>?_⟩;obtain⟨⟨c,t',hc⟩,_⟩:=h2 b 0 (k5 _ (by simp only[MemPlace.row,bN,List.mem_range];exact⟨0,hpos,by simp⟩));simp only[World.var?,hb,Option.bind_some,hc,ad]at k3;subst k3;exact⟨t',hc⟩
theorem QB{P:Program}{w:World}{l:List (String×DataW Unit)}(hl:laidMet P l w){n nm:String}{d:DataW Unit}(hx:(n,.iface nm d)∈l){b t:Nat}{ms:Array (String×TypeId)}(hb:P.globalNamed n=some b)
  (ht:(P.globals[b]?).map (·.type)=some t) (hu:P.underlying t=some (.interface ms)):∃c t v,w.heap[b]?=some (.cells c t (0,0))/\c[0]?=some v/\v.oneCell'=true/\WN (.cells c t (0,0)):=by
 obtain⟨cs,fuel,p,h1,h2⟩:=KC hl hx hb ht;obtain⟨f1,u,v,hcs,_⟩:=iface_of_trod hu h1;obtain rfl:cs = #[.iface u v]:=by rw[<- fS,hcs]
 obtain⟨t',hc⟩:=h2 (by simp);exact⟨_,t',.iface u v,hc,by simp,rfl,_,t',_,.iface u v,rfl,by simp,.inr ⟨u,v,rfl⟩⟩
theorem Xq{P:Program}{w:World}{l:List (String×DataW Unit)}(hl:laidMet P l w){n:String}(hx:(n,Lib.tabData .u64 Lib.pow10Tab)∈l){b t e k:Nat}(hb:P.globalNamed n=some b)
  (ht:(P.globals[b]?).map (·.type)=some t) (hu:P.underlying t=some (.array k e)) (he:P.underlying e=some (.int .u64)) (hce:P.cellsOf e=1) (hct:P.cellsOf t=k):
  ∃c t v,w.heap[b]?=some (.cells c t (0,0))/\c[0]?=some v/\v.oneCell'=true/\aab (.cells c t (0,0)):=by
 obtain⟨cs,fuel,p,h1,h2⟩:=KC hl hx hb ht;have hcs:=Lib.cells_of_tab hu he hce hct h1;obtain rfl:cs=(Lib.pow10Tab.map (Value.int .u64)).toArray:=by rw[<- fS,hcs]
 obtain⟨t',hc⟩:=h2 (by decide);exact⟨_,t',.int .u64 1,hc,rfl,rfl,t',_,rfl⟩
theorem Xp{P:Program}{w:World}(h:w.ShapedOpen P){g t:Nat}{zero:Array Value}(hg:g<P.globals.size)(h0:((begin P (λ_ _=>0) default).world.heap[g]?).bind Obj.row?=some (zero,t))(hz:zero.size=1)
  (hb:P.buildable t=true) (hc:P.cellTypes P.depth t=some [t]) (hu:P.underlying t=some (.int .i64)):∃c t v,w.heap[g]?=some (.cells c t (0,0))/\c[0]?=some v/\v.oneCell'=true/\aaa (.cells c t (0,0)):=by
 obtain⟨m,hm⟩:=Go.Proofs.cell_of_shapedOpen_int h hg h0 hz hb hc hu;obtain⟨cs,hh,_⟩:=h.1 g zero t hg h0;have h1:cs[0]?=some (.int .i64 m):=by simpa[World.cell?,hh]using hm
 exact⟨cs,t,_,hh,h1,rfl,cs,t,_,m,rfl,h1⟩
variable {T:BJ} {O:bS}
theorem aG.{u}{α:Sort u}{a b:α}(h:a=b):a=b:=h
inductive Mark.{u} {α:Sort u} (a:α):Type
 |mk
def WO(O:bS)(ops:List Op)(e:Env)(J:SK)(Q:Env->SK->Prop)(_m:Mark Q:=.mk):Prop:=∃e' J',lW O ops e J=some (e',J')/\Q e' J'
def WC(O:bS)(c:cc)(e:Env)(J:SK)(Q:Exit->Env->SK->Prop)(_m:Mark c:=.mk)(_m':Mark Q:=.mk):Prop:=∃x e' J',bg O c e J=some (x,e',J')/\Q x e' J'
def WV(o:Option (D×SK))(Q:D->SK->Prop)(_m:Mark Q:=.mk):Prop:=∃d J',o=some (d,J')/\Q d J'
def WL(T:BJ)(live:List Nat)(bB:Bool)(c:cc)(e:Env)(J:SK)(Q:Exit->Env->SK->Prop)(_m:Mark c:=.mk)(_m':Mark Q:=.mk):Prop:=∃x e' J',lim T (.loop live bB c e J)=some (.DH x e' J')/\Q x e' J'
theorem WO.mono{ops:List Op}{e:Env}{J:SK}{Q Q':Env->SK->Prop}(h:WO O ops e J Q)(hq:∀e J,Q e J->Q' e J):WO O ops e J Q' :=
 let ⟨e',J',h1,h2⟩:=h;⟨e',J',h1,hq _ _ h2⟩
theorem WC.mono{c:cc}{e:Env}{J:SK}{Q Q':Exit->Env->SK->Prop}(h:WC O c e J Q)(hq:∀x e J,Q x e J->Q' x e J):WC O c e J Q' :=
 let ⟨x,e',J',h1,h2⟩:=h;⟨x,e',J',h1,hq _ _ _ h2⟩
theorem WL.mono{live:List Nat}{bB:Bool}{c:cc}{e:Env}{J:SK}{Q Q':Exit->Env->SK->Prop}(h:WL T live bB c e J Q)(hq:∀x e J,Q x e J->Q' x e J):WL T live bB c e J Q' :=
 let ⟨x,e',J',h1,h2⟩:=h;⟨x,e',J',h1,hq _ _ _ h2⟩
def WD{α:Type}(o:Option α)(Q:α->Prop)(_m:Mark Q:=.mk):Prop:=∃d,o=some d/\Q d
@[simp,simp ↓] theorem ER{α:Type}{d:α}{Q:α->Prop}:WD (some d) Q=Q d:=by
 simp only[WD,ad,eq_iff_iff];exact⟨λ⟨_,h,h'⟩=>by rw[h];exact h',λh=>⟨_,rfl,h⟩⟩
@[simp,simp ↓] theorem WW{α:Type}{Q:α->Prop}:WD none Q=False:=by simp[WD]
def MT:D->Option Bool
 |.bool b=>some b
 |_=>none
@[simp] theorem aak{b:Bool}:MT (.bool b)=some b:=aG rfl
@[simp] theorem adg{b:Bool}:(D.bool b).bit=some (some b):=aG rfl
@[simp] theorem afi:(D.db []).bit=some none:=aG rfl
def aap(k:IntKind):D->Option D
 |.int _ m=>some (.int k (k.wrap m))
 |_=>none
@[simp] theorem adn{k k':IntKind}{m:Int}:aap k (.int k' m)=some (.int k (k.wrap m)):=aG rfl
@[simp,simp ↓] theorem afh{d:D}{J:SK}{Q:D->SK->Prop}:WV (some (d,J)) Q=Q d J:=by
 simp only[WV,ad,ak,eq_iff_iff];constructor
 .rintro⟨_,_,⟨rfl,rfl⟩,h⟩;exact h
 .exact λh=>⟨_,_,⟨rfl,rfl⟩,h⟩
@[simp,simp ↓] theorem afg{Q:D->SK->Prop}:WV none Q=False:=by simp[WV]
@[simp,simp ↓] theorem agi{e:Env}{J:SK}{Q:Env->SK->Prop}:WO O [] e J Q=Q e J:=by
 simp only[WO,lW,ad,ak,eq_iff_iff];constructor
 .rintro⟨_,_,⟨rfl,rfl⟩,h⟩;exact h
 .exact λh=>⟨_,_,⟨rfl,rfl⟩,h⟩
def ag9(d:D)(w:Bool):Option Bool :=
 match d with
 |.bool b=>some (b == w)
 |_=>none
@[simp,simp ↓] theorem af7{d:Option Nat}{g:Nat}{w n:Bool}{k:K}{r:List Op}{e:Env}{J:SK}{Q:Env->SK->Prop}:
  WO O (⟨d,some (g,w),n,k⟩::r) e J Q=WD (get e g).bit λb=>if b=some w then WO O (⟨d,none,n,k⟩::r) e J Q else WO O r (put d (.db []) e) J Q:=by
 cases h:(get e g).bit<;>simp only[WO,lW,h,reduceCtorEq,false_and,exists_false,WW,ER];rename_i b;by_cases hb:b=some w
 .simp only[hb,if_true];rfl
 .simp only[if_neg hb]
theorem dC{d:Option Nat}{n:Bool}{k:K}{r:List Op}{e:Env}{J:SK}{Q:Env->SK->Prop}(h:xd O ⟨d,none,n,k⟩ e J=(bO e J k).map λx=>(put d x.1 e,x.2)):
  WO O (⟨d,none,n,k⟩::r) e J Q=WV (bO e J k) λv J'=>WO O r (put d v e) J' Q:=by
 simp only[WO,lW,h,WV,eq_iff_iff];constructor
 .rintro⟨e',J',h1,h2⟩;cases hs:bO e J k with
  |none=>simp[hs]at h1
  |some y=>simp[hs]at h1;exact⟨y.1,y.2,rfl,e',J',h1,h2⟩
 .rintro⟨v,J1,h1,e',J',h2,h3⟩;exact⟨e',J',by simp[h1,h2],h3⟩
theorem nD{o:Option (D×SK)}{o':Option D}{J:SK}{Q:D->SK->Prop}(h:o=o'.map (·,J)):WV o Q=WD o' λv=>Q v J:=by
 subst h;cases o'<;>simp
def Uz:D->Option D
 |.bP=>some (.int .i64 0)
 |.aJ n _=>some (.int .i64 n)
 |.sl _ _ _ _ n _=>some (.int .i64 n)
 |_=>none
@[simp] theorem aci:Uz .bP=some (.int .i64 0):=aG rfl
@[simp] theorem adR{n:Nat}{cs:List D}:Uz (.aJ n cs)=some (.int .i64 n):=aG rfl
@[simp] theorem aft{l i v o n w:Nat}:Uz (.sl l i v o n w)=some (.int .i64 n):=aG rfl
def Ov(ag:Bool)(sz:Nat):Option (List D)->Option D
 |some cs =>
  if sz<=cs.length then
   if ag then some (.agg (cs.take sz))else
   match cs with
   |d::_=>some d
   |[]=>none
  else none
 |none=>none
@[simp] theorem agw{sz:Nat}{cs:List D}:Ov true sz (some cs)=if sz<=cs.length then some (.agg (cs.take sz))else none:=aG rfl
@[simp] theorem afr{d:D}{cs:List D}:Ov false 1 (some (d::cs))=some d:=by simp[Ov]
@[simp] theorem aeb{J:SK}{cs:List D}:BQ J (.bq cs)=some cs:=aG rfl
@[simp] theorem afx{J:SK}{l i v off:Nat}:BQ J (.ref l i v off)=(cells? J l i v).map (·.drop off):=aG rfl
def Uy(e:Env)(v:Nat)(ag:Bool)(sz a:Nat):Option D:=Ov ag sz ((sW e v a).map λx=>x.2.1.drop x.2.2)
def T4:D->Option (List D)
 |.bq cs=>some cs
 |_=>none
@[simp] theorem aan{cs:List D}:T4 (.bq cs)=some cs:=aG rfl
@[simp] theorem acg:JJ false .bP=some true:=aG rfl
@[simp] theorem adO{n:Nat}{cs:List D}:JJ false (.aJ n cs)=if n=0 then none else some false:=aG rfl
def aaK:D->Option D
 |.bq cs=>some (.bq cs)
 |.ref l i v off=>some (.ref l i v off)
 |_=>none
@[simp] theorem aco{cs:List D}:aaK (.bq cs)=some (.bq cs):=aG rfl
@[simp] theorem adV{l i v off:Nat}:aaK (.ref l i v off)=some (.ref l i v off):=aG rfl
def unD:UnOp->D->Option D
 |.not,.bool b=>some (.bool !b)
 |.neg,.int k n=>some (.int k (k.wrap (0-n)))
 |.xor,.int k n=>some (.int k (k.wrap ((BitVec.ofInt k.bits (if k.signed then -1 else k.max) ^^^ BitVec.ofInt k.bits n).toNat:Int)))
 |_,_=>none
@[simp] theorem afE{b:Bool}:unD .not (.bool b)=some (.bool !b):=aG rfl
@[simp] theorem afD{k:IntKind}{n:Int}:unD .neg (.int k n)=some (.int k (k.wrap (0-n))):=aG rfl
def M6(n off:Nat):D->Option D
 |.bq cs=>some (.bq (cs.drop off))
 |.ref l i v o=>some (.ref l i v (o+off))
 |.own s _=>some (.vr n s off)
 |.vr v s o=>some (.vr v s (o+off))
 |_=>none
@[simp] theorem aax{n off:Nat}{cs:List D}:M6 n off (.bq cs)=some (.bq (cs.drop off)):=aG rfl
@[simp] theorem ab5{n off l i v o:Nat}:M6 n off (.ref l i v o)=some (.ref l i v (o+off)):=aG rfl
@[simp] theorem ab4{n off s:Nat}{cs:List D}:M6 n off (.own s cs)=some (.vr n s off):=aG rfl
@[simp] theorem adA{n off v s o:Nat}:M6 n off (.vr v s o)=some (.vr v s (o+off)):=aG rfl
def aho(ag:Bool)(off sz:Nat):D->Option D
 |.agg cs =>
  if off+sz<=cs.length then
   if ag then some (.agg ((cs.drop off).take sz))else cs[off]?
  else none
 |_=>none
def QF(m len w:Nat)(x i:D):Option D :=
 match E7 i with
 |some n =>
  if 0<=n/\n<len then
   match x with
   |.bq cs=>some (.bq ((cs.drop (n.toNat*w)).take w))
   |.ref l j v off=>some (.ref l j v (off+n.toNat*w))
   |.own s _=>some (.vr m s (n.toNat*w))
   |.vr v s o=>some (.vr v s (o+n.toNat*w))
   |_=>none
  else none
 |none=>none
@[simp] theorem aaE{m len w:Nat}{cs:List D}{k:IntKind}{n:Int}:QF m len w (.bq cs) (.int k n)=if 0<=n/\n<len then some (.bq ((cs.drop (n.toNat*w)).take w))else none:=aG rfl
@[simp] theorem acb{m len w l j v off:Nat}{k:IntKind}{n:Int}:QF m len w (.ref l j v off) (.int k n)=if 0<=n/\n<len then some (.ref l j v (off+n.toNat*w))else none:=aG rfl
def QG(w:Nat)(x i:D):Option D :=
 match x,E7 i with
 |.aJ m cs,some n=>if 0<=n/\n<m then some (.bq ((cs.drop (n.toNat*w)).take w))else none
 |.sl l j v off m w',some n=>if 0<=n/\n<m/\w'=w then some (.ref l j v (off+n.toNat*w))else none
 |_,_=>none
@[simp] theorem acd{w m:Nat}{cs:List D}{k:IntKind}{n:Int}:QG w (.aJ m cs) (.int k n)=if 0<=n/\n<m then some (.bq ((cs.drop (n.toNat*w)).take w))else none:=aG rfl
@[simp] theorem adL{w l j v off m w':Nat}{k:IntKind}{n:Int}:QG w (.sl l j v off m w') (.int k n)=if 0<=n/\n<m/\w'=w then some (.ref l j v (off+n.toNat*w))else none:=aG rfl
def Uo(ag:Bool)(len w:Nat)(x i:D):Option D :=
 match x,E7 i with
 |.agg cs,some n =>
  if 0<=n/\n<len/\(n.toNat+1)*w<=cs.length then
   if ag then some (.agg ((cs.drop (n.toNat*w)).take w))else cs[n.toNat*w]?
  else none
 |_,_=>none
@[simp] theorem ace{ag:Bool}{len w:Nat}{cs:List D}{k:IntKind}{n:Int}:Uo ag len w (.agg cs) (.int k n)=if 0<=n/\n<len/\(n.toNat+1)*w<=cs.length then(if ag then some (.agg ((cs.drop (n.toNat*w)).take w))else cs[n.toNat*w]?)else none:=aG rfl
def mnD(x y:D):Option D :=
 match x,y with
 |.int k a,.int _ b=>some (.int k (min a b))
 |_,_=>none
@[simp] theorem afu{k k':IntKind}{a b:Int}:mnD (.int k a) (.int k' b)=some (.int k (min a b)):=aG rfl
def mxD(x y:D):Option D :=
 match x,y with
 |.int k a,.int _ b=>some (.int k (max a b))
 |_,_=>none
@[simp] theorem afv{k k':IntKind}{a b:Int}:mxD (.int k a) (.int k' b)=some (.int k (max a b)):=aG rfl
def ady(x:D)(i:Nat):Option D :=
 match x with
 |.db ds=>ds[i]?
 |_=>none
@[simp] theorem adz{ds:List D}{i:Nat}:ady (.db ds) i=ds[i]?:=aG rfl
def aav(ag:Bool)(ks:List (Option IntKind))(neg:Bool)(x y:D):Option D :=
 match x.row ag,y.row ag with
 |some p,some q=>(Bf ks p q).map λb => .bool (if neg then !b else b)
 |_,_=>none
@[simp] theorem afm{ks:List (Option IntKind)}{neg:Bool}{p q:List D}:aav true ks neg (.agg p) (.agg q)=(Bf ks p q).map λb => .bool (if neg then !b else b):=aG rfl
@[simp] theorem aed:Bf [] [] []=some true:=aG rfl
@[simp] theorem aec{k k1 k2:IntKind}{ks:List (Option IntKind)}{a b:Int}{x y:List D}:Bf (some k::ks) (.int k1 a::x) (.int k2 b::y)=if k1=k/\k2=k then(Bf ks x y).map (a == b && ·)else none:=aG rfl
def Yk(w:Nat)(x:D)(e:Env)(lo hi mx:Option bI):Option D :=
 match x with
 |.aJ n cs=>(bounds n e lo hi mx).map λb => .aJ (b.2-b.1) ((cs.drop (b.1*w)).take ((b.2-b.1)*w))
 |.sl l i v off n w'=>if w'=w then(bounds n e lo hi mx).map λb => .sl l i v (off+b.1*w) (b.2-b.1) w else none
 |.bP=>(bounds 0 e lo hi mx).map λ_ => .bP
 |_=>none
@[simp] theorem aeO{w n:Nat}{cs:List D}{e:Env}{lo hi mx:Option bI}:Yk w (.aJ n cs) e lo hi mx=(bounds n e lo hi mx).map λb => .aJ (b.2-b.1) ((cs.drop (b.1*w)).take ((b.2-b.1)*w)):=aG rfl
@[simp] theorem afy{w l i v off n w':Nat}{e:Env}{lo hi mx:Option bI}:Yk w (.sl l i v off n w') e lo hi mx=if w'=w then(bounds n e lo hi mx).map λb => .sl l i v (off+b.1*w) (b.2-b.1) w else none:=aG rfl
section bins
variable {k:IntKind} {a b:Int}
@[simp] theorem ac3:wM .add (.int k a) (.int k b)=some (.int k (k.wrap (a+b))):=by simp[wM]
@[simp] theorem adf:wM .sub (.int k a) (.int k b)=some (.int k (k.wrap (a-b))):=by simp[wM]
@[simp] theorem ac9:wM .mul (.int k a) (.int k b)=some (.int k (k.wrap (a*b))):=by simp[wM]
@[simp] theorem adb:wM .quo (.int k a) (.int k b)=if b≠0 then some (.int k (k.wrap (a.tdiv b)))else none:=by simp[wM]
@[simp] theorem ade:wM .rem (.int k a) (.int k b)=if b≠0 then some (.int k (a.tmod b))else none:=by simp[wM]
@[simp] theorem ac4:wM .eql (.int k a) (.int k b)=some (.bool (a == b)):=by simp[wM]
@[simp] theorem ada:wM .neq (.int k a) (.int k b)=some (.bool (a != b)):=by simp[wM]
@[simp] theorem ac8:wM .lss (.int k a) (.int k b)=some (.bool (decide (a<b))):=by simp[wM]
@[simp] theorem ac7:wM .leq (.int k a) (.int k b)=some (.bool (decide (a<=b))):=by simp[wM]
@[simp] theorem ac6:wM .gtr (.int k a) (.int k b)=some (.bool (decide (b<a))):=by simp[wM]
@[simp] theorem ac5:wM .geq (.int k a) (.int k b)=some (.bool (decide (b<=a))):=by simp[wM]
end bins
@[simp] theorem Ye:D.strip .undef=.undef:=aG rfl
@[simp] theorem Zn{b:Bool}:D.strip (.bool b)=.bool b:=aG rfl
@[simp] theorem abm{k:IntKind}{n:Int}:D.strip (.int k n)=.int k n:=aG rfl
@[simp] theorem abp{s:List UInt8}:D.strip (.str s)=.str s:=aG rfl
@[simp] theorem abk{cs:List D}:D.strip (.agg cs)=.agg cs:=aG rfl
@[simp] theorem abq{cs:List D}:D.strip (.db cs)=.db cs:=aG rfl
@[simp] theorem abo{l i v o:Nat}:D.strip (.ref l i v o)=.ref l i v o:=aG rfl
@[simp] theorem Zo{cs:List D}:D.strip (.bq cs)=.bq cs:=aG rfl
@[simp] theorem Zq:D.strip .bP=.bP:=aG rfl
@[simp] theorem abn{n:Nat}{cs:List D}:D.strip (.aJ n cs)=.aJ n cs:=aG rfl
@[simp] theorem acI{l i v o n w:Nat}:D.strip (.sl l i v o n w)=.sl l i v o n w:=aG rfl
@[simp] theorem acH{f:Nat}{a b:List D}:D.strip (.fn f a b)=.fn f a b:=aG rfl
@[simp] theorem abl{t:Nat}{d:D}:D.strip (.va t d)=.va t d:=aG rfl
@[simp] theorem Zp:D.strip .oI=.oI:=aG rfl
@[simp] theorem acv{t:Nat}{d:D}:D.calm (.va t d)=.va t d:=aG rfl
@[simp] theorem aa2:D.calm .oI=.oI:=aG rfl
@[simp] theorem abr{l i:Nat}:D.strip (.jm l i)=.jm l i:=aG rfl
@[simp] theorem Zg:D.calm .undef=.undef:=aG rfl
@[simp] theorem aa0{b:Bool}:D.calm (.bool b)=.bool b:=aG rfl
@[simp] theorem acw{k:IntKind}{n:Int}:D.calm (.int k n)=.int k n:=aG rfl
@[simp] theorem acA{s:List UInt8}:D.calm (.str s)=.str s:=aG rfl
@[simp] theorem acu{cs:List D}:D.calm (.agg cs)=.agg cs:=aG rfl
@[simp] theorem acz{l i v o:Nat}:D.calm (.ref l i v o)=.ref l i v o:=aG rfl
@[simp] theorem aa1{cs:List D}:D.calm (.bq cs)=.bq cs:=aG rfl
@[simp] theorem aa3:D.calm .bP=.bP:=aG rfl
@[simp] theorem acx{n:Nat}{cs:List D}:D.calm (.aJ n cs)=.aJ n cs:=aG rfl
@[simp] theorem aea{l i v o n w:Nat}:D.calm (.sl l i v o n w)=.sl l i v o n w:=aG rfl
@[simp] theorem ad9{f:Nat}{a b:List D}:D.calm (.fn f a b)=.fn f a b:=aG rfl
@[simp] theorem acB{l i:Nat}:D.calm (.jm l i)=.jm l i:=aG rfl
@[simp] theorem acy{s:Nat}{cs:List D}:D.calm (.own s cs)=.own 0 cs:=aG rfl
@[simp] theorem Zh{b:Bool}:D.cells (.bool b)=some [.bool b]:=aG rfl
@[simp] theorem aa5{k:IntKind}{n:Int}:D.cells (.int k n)=some [.int k n]:=aG rfl
@[simp] theorem aa8{s:List UInt8}:D.cells (.str s)=some [.str s]:=aG rfl
@[simp] theorem aa4{cs:List D}:D.cells (.agg cs)=some cs:=aG rfl
@[simp] theorem aa7{l i v o:Nat}:D.cells (.ref l i v o)=some [.ref l i v o]:=aG rfl
@[simp] theorem aa6{n:Nat}{cs:List D}:D.cells (.aJ n cs)=some [.aJ n cs]:=aG rfl
@[simp] theorem acD{l i v o n w:Nat}:D.cells (.sl l i v o n w)=some [.sl l i v o n w]:=aG rfl
@[simp] theorem acC{f:Nat}{a b:List D}:D.cells (.fn f a b)=some [.fn f a b]:=aG rfl
@[simp] theorem aa9{l i:Nat}:D.cells (.jm l i)=some [.jm l i]:=aG rfl
@[simp] theorem adM{k:IntKind}{n:Int}:E7 (.int k n)=some n:=aG rfl
@[simp] theorem td{O:bS}{kp:Bool}{f:Nat}{first cap args:List D}{J:SK}:pO O kp (.fn f first cap) args J=R.aU (O (.call kp f (first++args++cap) J)):=aG rfl
@[simp] theorem ab0{O:bS}{kp:Bool}{l i:Nat}{args:List D}{J:SK}:pO O kp (.jm l i) args J=R.aU (O (.round l i args J)):=aG rfl
@[simp] theorem aeW{d:D}{J:SK}:R.aU (some (.val d J))=some (d,J):=aG rfl
section ops
variable {d:Option Nat} {n:Bool} {r:List Op} {e:Env} {J:SK} {Q:Env->SK->Prop}
@[simp,simp ↓] theorem ag5{x:bI}:WO O (⟨d,none,n,.mv x⟩::r) e J Q=WO O r (put d (bu e x) e) J Q:=by rw[dC rfl];simp[bO]
@[simp,simp ↓] theorem afe{w:Nat}:WO O (⟨d,none,n,.IT w⟩::r) e J Q=WV (bO e J (.IT w)) λv J'=>WO O r (put d v e) J' Q:=dC rfl
@[simp,simp ↓] theorem afV{nb:List (Nat×Nat)}{cs:List D}:WO O (⟨d,none,n,.RE nb cs⟩::r) e J Q=WV (bO e J (.RE nb cs)) λv J'=>WO O r (put d v e) J' Q:=dC rfl
@[simp,simp ↓] theorem aff{c a b:bI}:WO O (⟨d,none,n,.pick c a b⟩::r) e J Q=WD (MT (bu e c)) λt=>WO O r (put d (if t then bu e a else bu e b) e) J Q:=by
 rw[dC rfl];simp only[bO];cases bu e c<;>simp[MT]
@[simp,simp ↓] theorem ae5{x:bI}:WO O (⟨d,none,n,.JC x⟩::r) e J Q=WD (bu e x).cells λcs=>WO O r (put d (.bq cs) e) J Q:=by
 rw[dC rfl];simp only[bO];cases(bu e x).cells<;>simp
@[simp,simp ↓] theorem ae6{x:bI}:WO O (⟨d,none,n,.JD x⟩::r) e J Q=WV (bO e J (.JD x)) λv J'=>WO O r (put d v e) J' Q:=dC rfl
@[simp,simp ↓] theorem af2{nb:List (Nat×Nat)}{x:bI}:WO O (⟨d,none,n,.T0 nb x⟩::r) e J Q=WV (bO e J (.T0 nb x)) λv J'=>WO O r (put d v e) J' Q:=dC rfl
@[simp,simp ↓] theorem afZ{z:List D}{ps:List (Nat×Nat×bI)}:WO O (⟨d,none,n,.JB z ps⟩::r) e J Q=WD (sV e ps z) λcs=>WO O r (put d (.agg cs) e) J Q:=by
 rw[dC rfl];simp only[bO];cases sV e ps z<;>simp
@[simp,simp ↓] theorem af0{m w:Nat}{z:List D}{ps:List (Nat×Nat×bI)}:WO O (⟨d,none,n,.W6 m w z ps⟩::r) e J Q=WD (sV e ps z) λcs=>WO O r (put d (.aJ m cs) e) J Q:=by
 rw[dC rfl];simp only[bO];cases sV e ps z<;>simp
@[simp,simp ↓] theorem af1{m w:Nat}{z:List D}{ps:List (Nat×Nat×bI)}:WO O (⟨d,none,n,.RJ m w z ps⟩::r) e J Q=WV (bO e J (.RJ m w z ps)) λv J'=>WO O r (put d v e) J' Q:=dC rfl
@[simp,simp ↓] theorem ag1{ag:Bool}{sz:Nat}{a:bI}:WO O (⟨d,none,n,.ld ag sz a⟩::r) e J Q=WD (Ov ag sz (BQ J (bu e a))) λv=>WO O r (put d v e) J Q:=by
 rw[dC rfl];refine nD ?_;simp only[bO];cases BQ J (bu e a)with
 |none=>rfl
 |some cs =>
  simp only[Ov];split
  .cases ag
   .cases cs<;>rfl
   .rfl
  .rfl
theorem Q0{J:SK}{l i off:Nat}:SX J (.ref l i 0 off)=BQ J (.ref l i 0 off):=rfl
@[simp,simp ↓] theorem aga{ag:Bool}{sz:Nat}{a:bI}:WO O (⟨d,none,n,.SU ag sz a⟩::r) e J Q=WD (Ov ag sz (SX J (bu e a))) λv=>WO O r (put d v e) J Q:=by
 rw[dC rfl];refine nD ?_;simp only[bO];cases SX J (bu e a)with
 |none=>rfl
 |some cs =>
  simp only[Ov];split
  .cases ag
   .cases cs<;>rfl
   .rfl
  .rfl
@[simp,simp ↓] theorem agb{ag:Bool}{sz:Nat}{a:bI}:WO O (⟨d,none,n,.VU ag sz a⟩::r) e J Q=WD (Ov ag sz (T4 (bu e a))) λv=>WO O r (put d v e) J Q:=by
 rw[dC rfl];refine nD ?_;simp only[bO];cases bu e a with
 |bq cs =>
  simp only[T4,Ov];split
  .cases ag
   .cases cs<;>rfl
   .rfl
  .rfl
 |_=>rfl
@[simp,simp ↓] theorem af9{ps neg:Bool}{x:bI}:WO O (⟨d,none,n,.Xw ps neg x⟩::r) e J Q=WD (JJ ps (bu e x)) λb=>WO O r (put d (.bool (if neg then !b else b)) e) J Q:=by
 rw[dC rfl];simp only[bO];cases JJ ps (bu e x)<;>simp
@[simp,simp ↓] theorem agh{x:bI}:WO O (⟨d,none,n,.XR x⟩::r) e J Q=WD (aaK (bu e x)) λv=>WO O r (put d v e) J Q:=by
 rw[dC rfl];refine nD ?_;simp only[bO];cases bu e x<;>rfl
@[simp,simp ↓] theorem ag7{nb:List (Nat×Nat)}{sz:Nat}{a x:bI}:WO O (⟨d,none,n,.st nb sz a x⟩::r) e J Q=WV (bO e J (.st nb sz a x)) λv J'=>WO O r (put d v e) J' Q:=dC rfl
@[simp,simp ↓] theorem agc{v:Nat}{ag:Bool}{sz a:Nat}:WO O (⟨d,none,n,.SV v ag sz a⟩::r) e J Q=WD (Uy e v ag sz a) λv=>WO O r (put d v e) J Q:=by
 rw[dC rfl];refine nD ?_;simp only[bO,Uy];cases sW e v a with
 |none=>rfl
 |some x =>
  obtain⟨s,cs,off⟩:=x;simp only[Ov,aX];split
  .cases ag
   .cases cs.drop off<;>rfl
   .rfl
  .rfl
@[simp,simp ↓] theorem afY{o:BinOp}{x y:bI}:WO O (⟨d,none,n,.bin o x y⟩::r) e J Q=WD (wM o (bu e x) (bu e y)) λv=>WO O r (put d v e) J Q:=by
 rw[dC rfl];simp only[bO];cases wM o (bu e x) (bu e y)<;>simp
@[simp,simp ↓] theorem af5{ag:Bool}{ks:List (Option IntKind)}{neg:Bool}{x y:bI}:WO O (⟨d,none,n,.eqv ag ks neg x y⟩::r) e J Q=WD (aav ag ks neg (bu e x) (bu e y)) λv=>WO O r (put d v e) J Q:=by
 rw[dC rfl];refine nD ?_;simp only[bO,aav];cases(bu e x).row ag<;>cases(bu e y).row ag<;>simp[Option.map_map,Function.comp_def]
@[simp,simp ↓] theorem ag8{o:UnOp}{x:bI}:WO O (⟨d,none,n,.un o x⟩::r) e J Q=WD (unD o (bu e x)) λv=>WO O r (put d v e) J Q:=by
 rw[dC rfl];refine nD ?_;simp only[bO];cases o<;>cases bu e x<;>rfl
@[simp,simp ↓] theorem af4{k:IntKind}{x:bI}:WO O (⟨d,none,n,.SR k x⟩::r) e J Q=WD (aap k (bu e x)) λv=>WO O r (put d v e) J Q:=by
 rw[dC rfl];simp only[bO];cases bu e x<;>simp[aap]
@[simp,simp ↓] theorem agj{p:Pu}{xs:List bI}:WO O (⟨d,none,n,.GO p xs⟩::r) e J Q=WD (lX p (xs.map (bu e))) λv=>WO O r (put d v e) J Q:=by
 rw[dC rfl];simp only[bO];cases lX p (xs.map (bu e))<;>simp
@[simp,simp ↓] theorem ag2{p:Me}{xs:List bI}:WO O (⟨d,none,n,.me p xs⟩::r) e J Q=WV (UG J p (xs.map (bu e))) λv J'=>WO O r (put d v e) J' Q:=dC rfl
@[simp,simp ↓] theorem ag4{p:Mo}{xs:List bI}:WO O (⟨d,none,n,.mp p xs⟩::r) e J Q=WV (BO J p (xs.map (bu e))) λv J'=>WO O r (put d v e) J' Q:=dC rfl
@[simp,simp ↓] theorem age{t:Nat}{x:bI}:WO O (⟨d,none,n,.SW t x⟩::r) e J Q=WO O r (put d (.va t (bu e x)) e) J Q:=by rw[dC rfl];simp[bO]
@[simp,simp ↓] theorem agm{t:Nat}{z:Option D}{x:bI}:WO O (⟨d,none,n,.VJ t z x⟩::r) e J Q=WD (PJ t z (bu e x)) λv=>WO O r (put d v e) J Q:=by
 rw[dC rfl];simp only[bO];cases PJ t z (bu e x)<;>simp
@[simp,simp ↓] theorem af8{neg:Bool}{x:bI}:WO O (⟨d,none,n,.Xv neg x⟩::r) e J Q=WD (Us (bu e x)) λb=>WO O r (put d (.bool (if neg then !b else b)) e) J Q:=by
 rw[dC rfl];simp only[bO];cases Us (bu e x)<;>simp
@[simp] theorem acf:Us .oI=some true:=aG rfl
@[simp] theorem adN{t:Nat}{d:D}:Us (.va t d)=some false:=aG rfl
@[simp] theorem aeR{t t':Nat}{z d:D}:PJ t (some z) (.va t' d)=some (if t'=t then .db [d,.bool true]else .db [z,.bool false]):=aG rfl
@[simp,simp ↓] theorem agd{f:Nat}{xs ys:List bI}:WO O (⟨d,none,n,.UJ f xs ys⟩::r) e J Q=WO O r (put d (.fn f (xs.map (bu e)) (ys.map (bu e))) e) J Q:=by rw[dC rfl];simp[bO]
@[simp,simp ↓] theorem agf{w b:Nat}{z:List D}{l c:bI}:WO O (⟨d,none,n,.VV w b z l c⟩::r) e J Q=WV (bO e J (.VV w b z l c)) λv J'=>WO O r (put d v e) J' Q:=dC rfl
@[simp,simp ↓] theorem agk{w:Nat}{x:bI}{lo hi mx:Option bI}:WO O (⟨d,none,n,.Vv w x lo hi mx⟩::r) e J Q=WD (Yk w (bu e x) e lo hi mx) λv=>WO O r (put d v e) J Q:=by
 rw[dC rfl];refine nD ?_;simp only[bO,Yk];cases bu e x<;>first | rfl | (simp only[];split<;>simp[Option.map_map,Function.comp_def]) | simp[Option.map_map,Function.comp_def]
@[simp,simp ↓] theorem ae9{off m:Nat}:WO O (⟨d,none,n,.JF off (.t m)⟩::r) e J Q=WD (M6 m off (get e m)) λv=>WO O r (put d v e) J Q:=by
 rw[dC rfl];refine nD ?_;simp only[bO];cases get e m<;>rfl
@[simp,simp ↓] theorem afa{l w m:Nat}{i:bI}:WO O (⟨d,none,n,.Hc l w (.t m) i⟩::r) e J Q=WD (QF m l w (get e m) (bu e i)) λv=>WO O r (put d v e) J Q:=by
 rw[dC rfl];refine nD ?_;simp only[bO,QF];cases E7 (bu e i)with
 |none=>rfl
 |some k=>simp only[];split<;>cases get e m<;>rfl
@[simp,simp ↓] theorem afb{w:Nat}{x i:bI}:WO O (⟨d,none,n,.He w x i⟩::r) e J Q=WD (QG w (bu e x) (bu e i)) λv=>WO O r (put d v e) J Q:=by
 rw[dC rfl];refine nD ?_;simp only[bO,QG];cases E7 (bu e i)with
 |none=>cases bu e x<;>rfl
 |some k=>cases bu e x<;>first | rfl | (simp only[];split<;>rfl)
@[simp,simp ↓] theorem afc{ag:Bool}{l w:Nat}{x i:bI}:WO O (⟨d,none,n,.LF ag l w x i⟩::r) e J Q=WD (Uo ag l w (bu e x) (bu e i)) λv=>WO O r (put d v e) J Q:=by
 rw[dC rfl];refine nD ?_;simp only[bO,Uo];cases E7 (bu e i)with
 |none=>cases bu e x<;>rfl
 |some k=>cases bu e x<;>first | rfl | (simp only[];split<;>cases ag<;>simp)
@[simp,simp ↓] theorem afd{x:bI}:WO O (⟨d,none,n,.JK x⟩::r) e J Q=WD (Uz (bu e x)) λv=>WO O r (put d v e) J Q:=by
 rw[dC rfl];refine nD ?_;simp only[bO];cases bu e x<;>rfl
@[simp,simp ↓] theorem ag3{x y:bI}:WO O (⟨d,none,n,.mn x y⟩::r) e J Q=WD (mnD (bu e x) (bu e y)) λv=>WO O r (put d v e) J Q:=by
 rw[dC rfl];refine nD ?_;simp only[bO];cases bu e x<;>cases bu e y<;>rfl
@[simp,simp ↓] theorem ag6{x y:bI}:WO O (⟨d,none,n,.mx x y⟩::r) e J Q=WD (mxD (bu e x) (bu e y)) λv=>WO O r (put d v e) J Q:=by
 rw[dC rfl];refine nD ?_;simp only[bO];cases bu e x<;>cases bu e y<;>rfl
@[simp,simp ↓] theorem afW{os:List Nat}{w b:Nat}{s x:bI}:WO O (⟨d,none,n,.RF os w b s x⟩::r) e J Q=WV (bO e J (.RF os w b s x)) λv J'=>WO O r (put d v e) J' Q:=dC rfl
@[simp,simp ↓] theorem afX{w b:Nat}{s x:bI}:WO O (⟨d,none,n,.app w b s x⟩::r) e J Q=WV (bO e J (.app w b s x)) λv J'=>WO O r (put d v e) J' Q:=dC rfl
@[simp,simp ↓] theorem af3{w b:Nat}{x:bI}:WO O (⟨d,none,n,.VS w b x⟩::r) e J Q=WV (bO e J (.VS w b x)) λv J'=>WO O r (put d v e) J' Q:=dC rfl
@[simp,simp ↓] theorem af6{x:bI}{i:Nat}:WO O (⟨d,none,n,.ext x i⟩::r) e J Q=WD (ady (bu e x) i) λv=>WO O r (put d v e) J Q:=by
 rw[dC rfl];refine nD ?_;simp only[bO];cases bu e x<;>rfl
@[simp,simp ↓] theorem ae8{kp:Bool}{f:bI}{args:List bI}:WO O (⟨d,none,n,.call kp f args⟩::r) e J Q =
  WV (pO O kp (bu e f) (args.map (bu e)) J) λv J'=>(n=true->J'=J)/\WO O r (put d v e) J' Q:=by
 simp only[WO,lW,xd,WV,eq_iff_iff];cases hc:pO O kp (bu e f) (args.map (bu e)) J with
 |none=>simp
 |some y =>
  obtain⟨v,J1⟩:=y;by_cases hn:n=true->J1=J
  .simp only[if_pos hn,Option.bind_some,ad,ak];exact⟨λh=>⟨v,J1,⟨rfl,rfl⟩,hn,h⟩,λ⟨_,_,⟨h1,h2⟩,_,h⟩=>by subst h1 h2;exact h⟩
  .simp only[if_neg hn,Option.bind_none,reduceCtorEq,false_and,exists_false,ad,ak,false_iff];rintro⟨_,_,⟨h1,h2⟩,h,_⟩;subst h1 h2;exact hn h
@[simp,simp ↓] theorem ae4{nb:List (Nat×Nat)}{cs:List D}:WO O (⟨d,none,n,.AW nb cs⟩::r) e J Q=WD d λv=>WD (ki nb cs J) λy=>WO O r ((v,.own (vl e v) y.1)::e) y.2 Q:=by
 cases d with
 |none=>simp[WO,lW,xd]
 |some v=>cases h:ki nb cs J with
  |none=>simp[WO,lW,xd,h]
  |some y=>obtain⟨a,b⟩:=y;simp only[WO,lW,xd,h,Option.bind_some,ER]
@[simp,simp ↓] theorem ae7{x:bI}:WO O (⟨d,none,n,.FZ x⟩::r) e J Q=WD d λv=>WD (bu e x).cells λcs=>WO O r ((v,.own (vl e v) cs)::e) J Q:=by
 cases d with
 |none=>simp[WO,lW,xd]
 |some v=>cases h:(bu e x).cells with
  |none=>simp[WO,lW,xd,h]
  |some y=>simp only[WO,lW,xd,h,Option.bind_some,ER]
def abR(e:Env)(J:SK)(v:Nat)(nb:List (Nat×Nat))(sz a:Nat)(x:bI):Option (D×SK) :=
 match sW e v a,(bu e x).cells with
 |some (s,cs,off),some p =>
  if p.length=sz/\off+sz<=cs.length then
   match ki nb p J with
   |some (p',J')=>some (.own s (cs.take off++p'++cs.drop (off+sz)),J')
   |none=>none
  else none
 |_,_=>none
@[simp,simp ↓] theorem agl{v:Nat}{nb:List (Nat×Nat)}{sz a:Nat}{x:bI}:WO O (⟨d,none,n,.Hj v nb sz a x⟩::r) e J Q =
  WV (abR e J v nb sz a x) λy J'=>WO O r ((v,y)::e) J' Q:=by
 simp only[WO,lW,xd,abR];cases h1:sW e v a with
 |none=>simp
 |some p =>
  obtain⟨s,cs,off⟩:=p;cases h2:(bu e x).cells with
  |none=>simp
  |some p =>
   dsimp only;split
   .cases h3:ki nb p J with
    |none=>simp
    |some y=>obtain⟨a,b⟩:=y;simp[WO]
   .simp
end ops
section code
variable {e:Env} {J:SK} {Q:Exit->Env->SK->Prop}
@[simp,simp ↓] theorem afQ:WC O .Hu e J Q=Q .normal e J:=by
 simp only[WC,bg,ad,ak,eq_iff_iff];exact⟨λ⟨_,_,_,⟨h1,h2,h3⟩,h⟩=>by subst h1 h2 h3;exact h,λh=>⟨_,_,_,⟨rfl,rfl,rfl⟩,h⟩⟩
@[simp,simp ↓] theorem afO{vs:List Nat}:WC O (.cC vs) e J Q=Q .normal (vI vs e J).1 (vI vs e J).2:=by
 simp only[WC,bg,ad,ak,eq_iff_iff];exact⟨λ⟨_,_,_,⟨h1,h2,h3⟩,h⟩=>by subst h1 h2 h3;exact h,λh=>⟨_,_,_,⟨rfl,rfl,rfl⟩,h⟩⟩
@[simp,simp ↓] theorem ae2{i:Nat}:WC O (.exit i) e J Q=Q (.exit i) e J:=by
 simp only[WC,bg,ad,ak,eq_iff_iff];exact⟨λ⟨_,_,_,⟨h1,h2,h3⟩,h⟩=>by subst h1 h2 h3;exact h,λh=>⟨_,_,_,⟨rfl,rfl,rfl⟩,h⟩⟩
@[simp,simp ↓] theorem afS:WC O .ret e J Q=Q .ret e J:=by
 simp only[WC,bg,ad,ak,eq_iff_iff];exact⟨λ⟨_,_,_,⟨h1,h2,h3⟩,h⟩=>by subst h1 h2 h3;exact h,λh=>⟨_,_,_,⟨rfl,rfl,rfl⟩,h⟩⟩
@[simp,simp ↓] theorem afR{live:List Nat}{ops:List Op}:WC O (.tT live ops) e J Q=WO O ops e J λe' J'=>Q .normal (restrict live e') J':=by
 simp only[WC,bg,WO,ab,ak,eq_iff_iff];constructor
 .rintro⟨x,e',J',⟨⟨e1,J1⟩,h1,rfl,rfl,rfl⟩,h⟩;exact⟨e1,J1,h1,h⟩
 .rintro⟨e',J',h1,h⟩;exact⟨_,_,_,⟨⟨e',J'⟩,h1,rfl,rfl,rfl⟩,h⟩
def Oj(O:bS)(b:cc)(Q:Exit->Env->SK->Prop)(_m:Mark b:=.mk)(_m':Mark Q:=.mk):Exit->Env->SK->Prop
 |.normal,e,J=>WC O b e J Q
 |.exit i,e,J=>Q (.exit i) e J
 |.ret,e,J=>Q .ret e J
 |.fp d,e,J=>Q (.fp d) e J
@[simp,simp ↓] theorem acK{b:cc}{d:D}:Oj O b Q .mk .mk (.fp d) e J=Q (.fp d) e J:=aG rfl
@[simp,simp ↓] theorem YD{b:cc}:Oj O b Q .mk .mk .normal e J=WC O b e J Q:=aG rfl
@[simp,simp ↓] theorem abU{b:cc}{i:Nat}:Oj O b Q .mk .mk (.exit i) e J=Q (.exit i) e J:=aG rfl
@[simp,simp ↓] theorem acJ{b:cc}:Oj O b Q .mk .mk .ret e J=Q .ret e J:=aG rfl
@[simp,simp ↓] theorem afT{a b:cc}:WC O (.seq a b) e J Q=WC O a e J (Oj O b Q .mk .mk):=by
 simp only[WC,bg,ah,eq_iff_iff];constructor
 .rintro⟨x,e',J',⟨⟨x1,e1,J1⟩,h1,h2⟩,h⟩;refine⟨x1,e1,J1,h1,?_⟩;cases x1 with
  |normal=>exact⟨x,e',J',h2,h⟩
  |exit i=>cases h2;exact h
  |ret=>cases h2;exact h
  |fp d=>cases h2;exact h
 .rintro⟨x1,e1,J1,h1,h⟩;cases x1 with
  |normal=>obtain⟨x,e',J',h2,h3⟩:=h;exact⟨x,e',J',⟨_,h1,h2⟩,h3⟩
  |exit i=>exact⟨_,_,_,⟨_,h1,rfl⟩,h⟩
  |ret=>exact⟨_,_,_,⟨_,h1,rfl⟩,h⟩
  |fp d=>exact⟨_,_,_,⟨_,h1,rfl⟩,h⟩
@[simp,simp ↓] theorem afP{c:bI}{a b:cc}:WC O (.ite c a b) e J Q=WD (MT (bu e c)) λt=>if t=true then WC O a e J Q else WC O b e J Q:=by
 simp only[WC,bg];cases bu e c<;>simp[MT];rename_i t;cases t<;>simp
def Pj(id:Nat)(Q:Exit->Env->SK->Prop)(_m:Mark Q:=.mk):Exit->Env->SK->Prop
 |.normal,e,J=>Q .normal e J
 |.exit i,e,J=>if i=id then Q .normal e J else Q (.exit i) e J
 |.ret,e,J=>Q .ret e J
 |.fp d,e,J=>Q (.fp d) e J
@[simp,simp ↓] theorem adZ{id:Nat}{d:D}:Pj id Q .mk (.fp d) e J=Q (.fp d) e J:=aG rfl
@[simp,simp ↓] theorem Zb{id:Nat}:Pj id Q .mk .normal e J=Q .normal e J:=aG rfl
@[simp,simp ↓] theorem acs{id i:Nat}:Pj id Q .mk (.exit i) e J=if i=id then Q .normal e J else Q (.exit i) e J:=aG rfl
@[simp,simp ↓] theorem adY{id:Nat}:Pj id Q .mk .ret e J=Q .ret e J:=aG rfl
@[simp,simp ↓] theorem afN{id:Nat}{a:cc}:WC O (.dr id a) e J Q=WC O a e J (Pj id Q .mk):=by
 simp only[WC,bg,ab,eq_iff_iff];constructor
 .rintro⟨x,e',J',⟨⟨x1,e1,J1⟩,h1,h2⟩,h⟩;refine⟨x1,e1,J1,h1,?_⟩;cases x1 with
  |normal=>cases h2;exact h
  |exit i =>
   simp only[Pj];dsimp only at h2;split at h2<;>cases h2
   .rw[if_pos (by assumption)];exact h
   .rw[if_neg (by assumption)];exact h
  |ret=>cases h2;exact h
  |fp d=>cases h2;exact h
 .rintro⟨x1,e1,J1,h1,h⟩;cases x1 with
  |normal=>exact⟨_,_,_,⟨_,h1,rfl⟩,h⟩
  |exit i =>
   simp only[Pj]at h;split at h
   .exact⟨_,_,_,⟨_,h1,by dsimp only;rw[if_pos (by assumption)]⟩,h⟩
   .exact⟨_,_,_,⟨_,h1,by dsimp only;rw[if_neg (by assumption)]⟩,h⟩
  |ret=>exact⟨_,_,_,⟨_,h1,rfl⟩,h⟩
  |fp d=>exact⟨_,_,_,⟨_,h1,rfl⟩,h⟩
theorem RM(d:D):d.calm.calm=d.calm:=by cases d<;>rfl
theorem JP{live:List Nat}{e:Env}{t:Nat}:get (restrict live e) t=if t∈live then(get e t).calm else .undef:=by
 induction live with
 |nil=>simp[restrict,get]
 |cons a l ih =>
  simp only[restrict,aR,get,aY];by_cases h:a=t
  .subst h;simp
  .have h':¬t=a:=λx=>h x.symm
   simp only[if_neg h,h',false_or];exact ih
theorem zz{live:List Nat}{e:Env}:restrict live (restrict live e)=restrict live e:=by
 simp only[restrict,List.map_inj_left,ak,true_and];intro t ht;have:=JP (live:=live) (e:=e) (t:=t);simp only[restrict]at this;rw[this,if_pos ht,RM]
theorem xw{live:List Nat}{bB:Bool}{c:cc}:dh T O (.loop live bB c (restrict live e) J)=dh T O (.loop live bB c e J):=by
 simp only[dh,zz]
theorem zt{live:List Nat}{bB:Bool}{c:cc}{r:R}(h:lim T (.loop live bB c (restrict live e) J)=some r):lim T (.loop live bB c e J)=some r:=by
 obtain⟨n,h⟩:=xT.1 h;cases n with
 |zero=>cases h
 |succ n =>
  rw[it,xw]at h;exact xT.2 ⟨n+1,h⟩
theorem Ei{live:List Nat}{bB:Bool}{c:cc}{r:R}(h:lim T (.loop live bB c e J)=some r):lim T (.loop live bB c (restrict live e) J)=some r:=by
 obtain⟨n,h⟩:=xT.1 h;cases n with
 |zero=>cases h
 |succ n =>
  rw[it,<- xw]at h;exact xT.2 ⟨n+1,h⟩
theorem OY{r:Option R}{x:Exit}{e:Env}{J:SK}(h:R.RP r=some (x,e,J)):r=some (.DH x e J):=by
 unfold R.RP at h;split at h
 .cases h;rfl
 .cases h
@[simp,simp ↓] theorem ae3{live:List Nat}{bB:Bool}{c:cc}:WC (lim T) (.loop live bB c) e J Q=WL T live bB c (restrict live e) J Q:=by
 simp only[WC,bg,WL,eq_iff_iff];constructor
 .rintro⟨x,e',J',h1,h⟩;cases hl:lim T (.loop live bB c e J)with
  |none=>rw[hl]at h1;cases h1
  |some r =>
   rw[hl]at h1;cases r<;>cases h1;exact⟨_,_,_,Ei hl,h⟩
 .rintro⟨x,e',J',h1,h⟩;exact⟨x,e',J',by rw[zt h1];rfl,h⟩
def NX(T:BJ)(live:List Nat)(c:cc)(Q:Exit->Env->SK->Prop)(_m:Mark c:=.mk)(_m':Mark Q:=.mk):Exit->Env->SK->Prop
 |.normal,e,J=>WL T live false c (restrict live e) J Q
 |.exit i,e,J=>Q (.exit i) e J
 |.ret,e,J=>Q .ret e J
 |.fp d,e,J=>Q (.fp d) e J
@[simp,simp ↓] theorem acq{live:List Nat}{c:cc}{d:D}:NX T live c Q .mk .mk (.fp d) e J=Q (.fp d) e J:=aG rfl
@[simp,simp ↓] theorem XU{live:List Nat}{c:cc}:NX T live c Q .mk .mk .normal e J=WL T live false c (restrict live e) J Q:=aG rfl
@[simp,simp ↓] theorem aaM{live:List Nat}{c:cc}{i:Nat}:NX T live c Q .mk .mk (.exit i) e J=Q (.exit i) e J:=aG rfl
@[simp,simp ↓] theorem acp{live:List Nat}{c:cc}:NX T live c Q .mk .mk .ret e J=Q .ret e J:=aG rfl
theorem aH{live:List Nat}{c c':cc}(hc:c=c')(h:WC (lim T) c' (restrict live e) J (NX T live c Q .mk .mk)):WL T live false c e J Q:=by
 rw[<- hc]at h;obtain⟨x,e1,J1,h1,h2⟩:=h;cases x with
 |normal =>
  obtain⟨x,e',J',h3,h4⟩:=h2;exact⟨x,e',J',gS (by simp[dh,h1,zt h3]),h4⟩
 |exit i=>exact⟨_,_,_,gS (by simp[dh,h1]),h2⟩
 |ret=>exact⟨_,_,_,gS (by simp[dh,h1]),h2⟩
 |fp d=>exact⟨_,_,_,gS (by simp[dh,h1]),h2⟩
def M4(J:SK)(res:List Ez)(d:D)(x:Exit)(e:Env)(J1:SK):Prop :=
 (∀i,x ≠ .exit i)/\(∀d,x ≠ .fp d)/\∃ds,Az e J1 res=some ds/\∃s,cC (J.length-1) deep (vb ds) J1=(d,s::J)
@[simp,simp ↓] theorem YW{J1:SK}{res:List Ez}{d:D}:M4 J res d .normal e J1=∃ds,Az e J1 res=some ds/\∃s,cC (J.length-1) deep (vb ds) J1=(d,s::J):=by simp[M4]
@[simp,simp ↓] theorem adt{J1:SK}{res:List Ez}{d:D}:M4 J res d .ret e J1=∃ds,Az e J1 res=some ds/\∃s,cC (J.length-1) deep (vb ds) J1=(d,s::J):=by simp[M4]
theorem aw{f:Nat}{fn:Fn}{args:List D}{J:SK}{d:D}{np:Nat}{res:List Ez}{body:cc}(hT:T f=some fn)(hf:fn=⟨np,res,body⟩)(hl:args.length=np)
  (h:WC (lim T) body (l8 0 args) ([]::J) (M4 J res d)):
  lim T (.call false f args J)=some (.val d J):=by
 subst hf;obtain⟨x,e1,J1,h1,h2,h2',ds,h3,s,h4⟩:=h;refine gS ?_;simp only[dh,hT,if_pos hl,az,if_false,h1];cases x with
 |exit i=>exact absurd rfl (h2 i)
 |fp d=>exact absurd rfl (h2' d)
 |normal=>simp[h3,h4]
 |ret=>simp[h3,h4]
theorem afj{f:Nat}{fn:Fn}{args:List D}{J:SK}{d:D}{np:Nat}{res:List Ez}{body:cc}(h:WC (lim T) body (l8 0 args) ([]::J) (M4 J res d))(hT:T f=some fn:=by exact rfl)(hf:fn=⟨np,res,body⟩:=by exact rfl)(hl:args.length=np:=by exact rfl):lim T (.call false f args J)=some (.val d J):=aw hT hf hl h
def aas(J:SK)(d:D)(x:Exit)(e:Env)(J1:SK):Prop:=x=.fp d/\d.clean=true/\∃s,J1=s::J
@[simp,simp ↓] theorem adw{J1:SK}{d d':D}:aas J d (.fp d') e J1=(d'=d/\d.clean=true/\∃s,J1=s::J):=by simp[aas]
theorem dM{f:Nat}{fn:Fn}{args:List D}{J:SK}{d:D}{np:Nat}{res:List Ez}{body:cc}(hT:T f=some fn)(hf:fn=⟨np,res,body⟩)(hl:args.length=np)
  (h:WC (lim T) body (l8 0 args) ([]::J) (aas J d)):
  lim T (.call false f args J)=some (.fp d J):=by
 subst hf;obtain⟨x,e1,J1,h1,rfl,hc,s,rfl⟩:=h;refine gS ?_;simp only[dh,hT,if_pos hl,az,if_false,h1];simp[PK,hc]
def WR(r:Option R)(Qn Qt:D->SK->Prop)(_m:Mark Qn:=.mk)(_m':Mark Qt:=.mk):Prop:=(∃d J',r=some (.val d J')/\Qn d J')\/∃d J',r=some (.fp d J')/\Qt d J'
@[simp,simp ↓] theorem aaf{d:D}{J':SK}{Qn Qt:D->SK->Prop}:WR (some (.val d J')) Qn Qt=Qn d J':=by
 simp only[WR,ad,R.val.injEq,reduceCtorEq,false_and,exists_false,or_false,eq_iff_iff];exact⟨λ⟨_,_,⟨h1,h2⟩,h⟩=>by subst h1 h2;exact h,λh=>⟨_,_,⟨rfl,rfl⟩,h⟩⟩
@[simp,simp ↓] theorem aae{d:D}{J':SK}{Qn Qt:D->SK->Prop}:WR (some (.fp d J')) Qn Qt=Qt d J':=by
 simp only[WR,ad,R.fp.injEq,reduceCtorEq,false_and,exists_false,false_or,eq_iff_iff];exact⟨λ⟨_,_,⟨h1,h2⟩,h⟩=>by subst h1 h2;exact h,λh=>⟨_,_,⟨rfl,rfl⟩,h⟩⟩
def aaT:D->Option D
 |.va t d=>if d.clean then some (.va t d)else none
 |_=>none
@[simp] theorem NY{t:Nat}{d:D}:aaT (.va t d)=if d.clean then some (.va t d)else none:=aG rfl
@[simp] theorem adm{O:bS}{f:Nat}{first cap args:List D}{J:SK}:BK O (.fn f first cap) args J=O (.call false f (first++args++cap) J):=aG rfl
@[simp,simp ↓] theorem WU{live:List Nat}{pre post:List Op}{dst:Option Nat}{n:Bool}{f:bI}{args:List bI}:WC O (.Om live pre ⟨dst,none,n,.call false f args⟩ post) e J Q =
  WO O pre e J λe1 J1=>WR (BK O (bu e1 f) (args.map (bu e1)) J1) (λd J2=>WO O post (put dst d e1) J2 λe' J'=>Q .normal (restrict live e') J') (λd J2=>Q (.fp d) e1 J2):=by
 simp only[WC,WO,bg,Ha,ah,eq_iff_iff];constructor
 .rintro⟨x,e',J',⟨⟨e1,J1⟩,h1,h2⟩,h⟩;refine⟨e1,J1,h1,?_⟩;dsimp only at h2;cases hc:BK O (bu e1 f) (args.map (bu e1)) J1 with
  |none=>rw[hc]at h2;simp[vu]at h2
  |some r =>
   rw[hc]at h2;cases r with
   |DH=>simp[vu]at h2
   |fp d J2=>simp only[vu,ad,ak]at h2;obtain⟨rfl,rfl,rfl⟩:=h2;rw[aae];exact h
   |val d J2 =>
    simp only[vu,ab]at h2;obtain⟨⟨e3,J3⟩,h3,h4⟩:=h2;cases h4;rw[aaf];exact⟨e3,J3,h3,h⟩
 .rintro⟨e1,J1,h1,h⟩;rcases h with⟨d,J2,h2,e3,J3,h3,h4⟩ | ⟨d,J2,h2,h4⟩
  .exact⟨.normal,_,J3,⟨(e1,J1),h1,by simp only[h2,vu,h3,aX]⟩,h4⟩
  .exact⟨.fp d,e1,J2,⟨(e1,J1),h1,by simp only[h2,vu]⟩,h4⟩
@[simp,simp ↓] theorem YT{live:List Nat}{pre post:List Op}{dst:Option Nat}{n:Bool}{x:bI}:WC O (.Om live pre ⟨dst,none,n,.U1 x⟩ post) e J Q =
  WO O pre e J λe1 J1=>WD (aaT (bu e1 x)) λd=>Q (.fp d) e1 J1:=by
 simp only[WC,WO,bg,Ha,ah,eq_iff_iff];constructor
 .rintro⟨x',e',J',⟨⟨e1,J1⟩,h1,h2⟩,h⟩;refine⟨e1,J1,h1,?_⟩;dsimp only at h2;cases hx:bu e1 x<;>rw[hx]at h2<;>try (cases h2;done)
  dsimp only at h2;split at h2
  .rename_i hc;cases h2;simp only[NY,hc,if_true,ER];exact h
  .cases h2
 .rintro⟨e1,J1,h1,d,h2,h⟩;refine⟨.fp d,e1,J1,⟨(e1,J1),h1,?_⟩,h⟩;dsimp only;cases hx:bu e1 x<;>rw[hx]at h2<;>try (cases h2;done)
  simp only[NY]at h2;split at h2
  .rename_i hc;cases h2;simp[hc]
  .cases h2
def WM(T:BJ)(live:List Nat)(it:bI)(nx ok b:Nat)(c rest:cc)(e:Env)(J:SK)(Q:Exit->Env->SK->Prop)(_m:Mark c:=.mk)(_m':Mark rest:=.mk)(_m'':Mark Q:=.mk):Prop:=∃x e' J',lim T (.iu live it nx ok b c rest e J)=some (.DH x e' J')/\Q x e' J'
theorem WM.mono{live:List Nat}{it:bI}{nx ok b:Nat}{c rest:cc}{Q':Exit->Env->SK->Prop}(h:WM T live it nx ok b c rest e J Q)(hq:∀x e J,Q x e J->Q' x e J):WM T live it nx ok b c rest e J Q' :=
 let ⟨x,e',J',h1,h2⟩:=h;⟨x,e',J',h1,hq _ _ _ h2⟩
theorem xb{live:List Nat}{it:bI}{nx ok b:Nat}{c rest:cc}:dh T O (.iu live it nx ok b c rest (restrict live e) J)=dh T O (.iu live it nx ok b c rest e J):=by
 simp only[dh,zz]
theorem ua{live:List Nat}{it:bI}{nx ok b:Nat}{c rest:cc}{r:R}:lim T (.iu live it nx ok b c rest (restrict live e) J)=some r↔lim T (.iu live it nx ok b c rest e J)=some r:=by
 constructor<;>intro h<;>obtain⟨n,h⟩:=xT.1 h<;>cases n<;>first | (cases h;done) | skip
 .rw[aA.it,xb]at h;exact xT.2 ⟨_+1,h⟩
 .rw[aA.it,<- xb]at h;exact xT.2 ⟨_+1,h⟩
@[simp,simp ↓] theorem acZ{live:List Nat}{it:bI}{nx ok b:Nat}{c rest:cc}:WC (lim T) (.iu live it nx ok b c rest) e J Q=WM T live it nx ok b c rest (restrict live e) J Q:=by
 simp only[WC,bg,WM,eq_iff_iff];constructor
 .rintro⟨x,e',J',h1,h⟩;exact⟨_,_,_,ua.2 (OY h1),h⟩
 .rintro⟨x,e',J',h1,h⟩;exact⟨x,e',J',by rw[ua.1 h1];rfl,h⟩
def KK(T:BJ)(live:List Nat)(it:bI)(l i nx ok b:Nat)(c rest:cc)(r:R)(_m:Mark c:=.mk)(_m':Mark rest:=.mk):Exit->Env->SK->Prop
 |.normal,e,J=>lim T (.iu live it nx ok b c rest (restrict live e) J)=some r
 |.exit j,e,J=>if j=b then WC (lim T) rest e (aZ J l i .dead) λx e' J'=>r=.DH x e' J' else r=.DH (.exit j) e (aZ J l i .dead)
 |.ret,e,J=>r=.DH .ret e (aZ J l i .dead)
 |.fp _,_,_=>False
@[simp,simp ↓] theorem XV{live:List Nat}{it:bI}{l i nx ok b:Nat}{c rest:cc}{r:R}:KK T live it l i nx ok b c rest r .mk .mk .normal e J=(lim T (.iu live it nx ok b c rest (restrict live e) J)=some r):=aG rfl
@[simp,simp ↓] theorem Pf{live:List Nat}{it:bI}{l i nx ok b j:Nat}{c rest:cc}{r:R}:KK T live it l i nx ok b c rest r .mk .mk (.exit j) e J=if j=b then WC (lim T) rest e (aZ J l i .dead) λx e' J'=>r=.DH x e' J' else r=.DH (.exit j) e (aZ J l i .dead):=aG rfl
@[simp,simp ↓] theorem Sn{live:List Nat}{it:bI}{l i nx ok b:Nat}{c rest:cc}{r:R}:KK T live it l i nx ok b c rest r .mk .mk .ret e J=(r=.DH .ret e (aZ J l i .dead)):=aG rfl
theorem LI{l i b:Nat}{rest:cc}{r:R}{x:Exit}{e1:Env}{J1:SK}{live:List Nat}{it:bI}{nx ok:Nat}{c:cc}(hx:x ≠ .normal)(h:KK T live it l i nx ok b c rest r .mk .mk x e1 J1):yE (lim T) l i b rest (some (x,e1,J1))=some r:=by
 cases x with
 |normal=>exact absurd rfl hx
 |fp d=>exact h.elim
 |ret=>simp only[Sn]at h;subst h;rfl
 |exit j =>
  simp only[Pf]at h;simp only[yE];split at h
  .rename_i hj;obtain⟨x',e',J',h1,rfl⟩:=h;rw[if_pos hj,h1];rfl
  .rename_i hj;subst h;rw[if_neg hj]
theorem UK{live:List Nat}{it:bI}{l i nx ok b:Nat}{c c' rest rest':cc}{r:R}{m:D}{n:Nat}{js:List D}{us:List Nat}(hcc:c=c')(hrr:rest=rest')(hit:bu (restrict live e) it=.jm l i)(hd:GL J l i=some (m,n,js,us))(hne:us≠[])
  (h:∀u∈us,WC (lim T) c' ((ok,.bool true)::(nx,.undef)::restrict live e) (aZ J l i (.cells 1 (m::.int .i64 (n:Nat)::.int .i64 (u:Nat)::js))) (KK T live it l i nx ok b c rest' r .mk .mk)):
  lim T (.iu live it nx ok b c rest e J)=some r:=by
 subst hcc hrr;refine gS ?_;simp only[dh,hit,hd];have key:∀u∈us,BN (lim T) live it l i nx ok b c rest (bg (lim T) c ((ok,.bool true)::(nx,.undef)::restrict live e) (aZ J l i (.cells 1 (m::.int .i64 (n:Nat)::.int .i64 (u:Nat)::js))))=some r:=by
  intro u hu;obtain⟨x,e1,J1,h1,h2⟩:=h u hu;rw[h1];cases x with
  |normal=>exact ua.1 h2
  |exit j=>exact LI (x:=.exit j) (by simp) h2
  |ret=>exact LI (x:=.ret) (by simp) h2
  |fp d=>exact h2.elim
 cases us with
 |nil=>exact absurd rfl hne
 |cons u us=>exact J9 (by simp) key
theorem Sk{live:List Nat}{it:bI}{l i nx ok b:Nat}{c c' rest rest':cc}{r:R}{m:D}{n:Nat}{js:List D}(hcc:c=c')(hrr:rest=rest')(hit:bu (restrict live e) it=.jm l i)(hd:GL J l i=some (m,n,js,[]))
  (h:WC (lim T) c' ((ok,.bool false)::(nx,.undef)::restrict live e) J λx e1 J1=>x ≠ .normal/\KK T live it l i nx ok b c rest' r .mk .mk x e1 J1):
  lim T (.iu live it nx ok b c rest e J)=some r:=by
 subst hcc hrr;refine gS ?_;simp only[dh,hit,hd];obtain⟨x,e1,J1,h1,hx,h2⟩:=h;rw[h1];exact LI hx h2
def abT:Exit->Option (Option D)
 |.normal=>some none
 |.ret=>some none
 |.fp d=>some (some d)
 |.exit _=>none
@[simp] theorem aeT:abT .ret=some none:=aG rfl
@[simp] theorem aeU{d:D}:abT (.fp d)=some (some d):=aG rfl
noncomputable def xf(T:BJ)(fv:D)(args:List D)(th:Option D)(J:SK):Option SK :=
 match rN (lim T) fv args th J with
 |some (.val _ J')=>some J'
 |_=>none
theorem uh{f:Nat}{first cap args:List D}{th:Option D}{J J':SK}{d:D}(h:lim T (.yn f (first++args++cap) th J)=some (.val d J')):xf T (.fn f first cap) args th J=some J':=by
 simp only[xf,rN,h]
def zV(T:BJ)(fv:D)(args:List D)(J:SK)(res:List Ez)(d:D)(x:Exit)(e:Env)(J1:SK):Prop :=
 WD (abT x) λth=>WD (xf T fv args th J1) λJ2=>∃ds,Az e J2 res=some ds/\∃s,cC (J.length-1) deep (vb ds) J2=(d,s::J)
def JU(T:BJ)(f:bI)(args:List bI)(q:cc)(J:SK)(res:List Ez)(d:D)(x:Exit)(e:Env)(J1:SK)(_m:Mark q:=.mk):Prop :=
 x=.normal/\WC (lim T) q e J1 (zV T (bu e f) (args.map (bu e)) J res d)
theorem Io{f:Nat}{fn:Fn}{args:List D}{J:SK}{d:D}{np:Nat}{res:List Ez}{body A q:cc}{fo:bI}{as:List bI}(hT:T f=some fn)(hf:fn=⟨np,res,body⟩)(hl:args.length=np)(hs:iE body=some (A,fo,as,q))
  (h:WC (lim T) A (l8 0 args) ([]::J) (JU T fo as q J res d)):
  lim T (.call false f args J)=some (.val d J):=by
 subst hf;obtain⟨x,e1,J1,h1,rfl,x2,e2,J2,h2,th,h3,J3,h4,ds,h5,s,h6⟩:=h;refine gS ?_;have hn:bg (lim T) body (l8 0 args) ([]::J)=none:=zB hs h1;simp only[dh,hT,if_pos hl,az,if_false,hn,hs,Ah,h1,h2];have h4':∃dv,rN (lim T) (bu e1 fo) (as.map (bu e1)) th J2=some (.val dv J3):=by
  unfold xf at h4;split at h4
  .rename_i h7;cases h4;exact⟨_,h7⟩
  .cases h4
 obtain⟨dv,h4'⟩:=h4';cases x2 with
 |exit i=>cases h3
 |normal=>cases h3;simp only[Ak,h4',vE,leave,h5,h6]
 |ret=>cases h3;simp only[Ak,h4',vE,leave,h5,h6]
 |fp d=>cases h3;simp only[Ak,h4',vE,leave,h5,h6]
def aat(J':SK)(res:List Ez)(x:Exit)(e:Env)(J1:SK):Prop :=
 (∀i,x ≠ .exit i)/\(∀d,x ≠ .fp d)/\Az e J1 res=some []/\∃s,J1=s::J'
@[simp,simp ↓] theorem YY{J' J1:SK}{res:List Ez}:aat J' res .normal e J1=(Az e J1 res=some []/\∃s,J1=s::J'):=by simp[aat]
theorem Ai{f:Nat}{fn:Fn}{args:List D}{th:Option D}{J J':SK}{np:Nat}{res:List Ez}{body q:cc}{e0:Env}(hT:T f=some fn)(hf:fn=⟨np,res,body⟩)(hl:args.length=np)(hr:rK th args body=some (e0,q))
  (h:WC (lim T) q e0 ([]::J) (aat J' res)):lim T (.yn f args th J)=some (.val (.db []) J'):=by
 subst hf;obtain⟨x,e1,J1,h1,h2,h2',h3,s,rfl⟩:=h;refine gS ?_;simp only[dh,hT,if_pos hl,hr,h1];cases x with
 |exit i=>exact absurd rfl (h2 i)
 |fp d=>exact absurd rfl (h2' d)
 |normal=>simp[h3]
 |ret=>simp[h3]
end code
@[simp] theorem adJ{k t:Nat}{v:D}{r:Env}:get ((k,v)::r) t=if k=t then v else get r t:=aG rfl
@[simp] theorem ad8{t:Nat}{v:D}{e:Env}:put (some t) v e=(t,v)::e:=aG rfl
@[simp] theorem ad7{v:D}{e:Env}:put none v e=e:=aG rfl
@[simp] theorem adX{e:Env}{n:Nat}:bu e (.t n)=(get e n).strip:=aG rfl
@[simp] theorem ahe{e:Env}{d:D}:bu e (.c d)=d:=aG rfl
@[simp] theorem Yc{e:Env}:restrict [] e=[]:=aG rfl
@[simp] theorem VX{t:Nat}{l:List Nat}{e:Env}:restrict (t::l) e=(t,(get e t).calm)::restrict l e:=aG rfl
@[simp] theorem acj{n:Nat}:l8 n []=[]:=aG rfl
@[simp] theorem aaH{n:Nat}{d:D}{ds:List D}:l8 n (d::ds)=(n,d)::l8 (n+1) ds:=aG rfl
section
variable {e:Env} {J:SK}
@[simp] theorem aee:Az e J []=some []:=aG rfl
@[simp] theorem acG{r:Ez}{rs:List Ez}:Az e J (r::rs)=(I3 e J r).bind λd=>(Az e J rs).map λds=>d::ds:=aG rfl
@[simp] theorem agM{n:Nat}:I3 e J (.t n)=some (get e n).strip:=aG rfl
@[simp] theorem agL{n sz:Nat}{ag:Bool}:I3 e J (.c n ag sz)=Ov ag sz (BQ J (get e n).strip):=by
 simp only[I3,bO,adX];cases BQ J (get e n).strip with
 |none=>rfl
 |some cs =>
  simp only[Ov];split
  .cases ag
   .cases cs<;>rfl
   .rfl
  .rfl
@[simp] theorem agN{n sz:Nat}{ag:Bool}:I3 e J (.v n ag sz)=Uy e n ag sz n:=by
 simp only[I3,bO,Uy];cases sW e n n with
 |none=>rfl
 |some x =>
  obtain⟨s,cs,off⟩:=x;simp only[Ov,aX];split
  .cases ag
   .cases cs.drop off<;>rfl
   .rfl
  .rfl
@[simp] theorem acm{d:D}:vb [d]=d:=aG rfl
@[simp] theorem ack:vb []=.db []:=aG rfl
@[simp] theorem acn{d d':D}{ds:List D}:vb (d::d'::ds)=.db (d::d'::ds):=aG rfl
@[simp] theorem ab6{cs:List D}:sV e [] cs=some cs:=aG rfl
@[simp] theorem aay{off sz:Nat}{x:bI}{r:List (Nat×Nat×bI)}{cs:List D}:sV e ((off,sz,x)::r) cs =
  ((bu e x).cells.bind λp=>if p.length=sz/\off+sz<=cs.length then some (cs.take off++p++cs.drop (off+sz))else none).bind (sV e r):=by
 simp only[sV];cases(bu e x).cells with
 |none=>rfl
 |some p=>dsimp only [Option.bind_some];split<;>rfl
@[simp] theorem ab2{w n:Nat}{cs:List D}:elems J w (.aJ n cs)=if cs.length=n*w then some (n,cs)else none:=aG rfl
end
attribute [simp] bO Lj ki fR sW vl abR Uy CX bounds D.row cells? dG fw aZ gU
@[simp] theorem Zi{b:Bool}:D.clean (.bool b)=true:=by rw[D.clean]
@[simp] theorem abc{k:IntKind}{n:Int}:D.clean (.int k n)=true:=by rw[D.clean]
@[simp] theorem abf{s:List UInt8}:D.clean (.str s)=true:=by rw[D.clean]
@[simp] theorem Zl:D.clean .bP=true:=by rw[D.clean]
@[simp] theorem abb{t:Nat}{d:D}:D.clean (.va t d)=D.clean d:=by rw[D.clean]
@[simp] theorem Zk:D.clean .se=true:=by rw[D.clean]
@[simp] theorem acF{l i v o n w:Nat}:D.clean (.sl l i v o n w)=false:=by rw[D.clean]
@[simp] theorem abe{s:Nat}{cs:List D}:D.clean (.own s cs)=D.bj cs:=by rw[D.clean]
@[simp] theorem aba{cs:List D}:D.clean (.agg cs)=D.bj cs:=by rw[D.clean]
@[simp] theorem abg{cs:List D}:D.clean (.db cs)=D.bj cs:=by rw[D.clean]
@[simp] theorem Zj{cs:List D}:D.clean (.bq cs)=D.bj cs:=by rw[D.clean]
@[simp] theorem abd{n:Nat}{cs:List D}:D.clean (.aJ n cs)=D.bj cs:=by rw[D.clean]
@[simp] theorem acE{f:Nat}{a b:List D}:D.clean (.fn f a b)=(D.bj a && D.bj b):=by rw[D.clean]
@[simp] theorem aam:D.bj []=true:=by rw[D.bj]
@[simp] theorem YV{d:D}{ds:List D}:D.bj (d::ds)=(D.clean d && D.bj ds):=by rw[D.bj]
@[simp] theorem T5:deep=16:=aG rfl
@[simp] theorem gW{l n:Nat}{d:D}{J:SK}(h:d.clean=true)(hn:0<n):cC l n d J=(d,J):=by
 obtain⟨m,rfl⟩:∃m,n=m+1:=⟨n-1,by omega⟩;unfold cC;simp[h]
@[simp] theorem aaz{l n:Nat}{ds:List D}{J:SK}(h:D.bj ds=true)(hn:0<n):cC.frzL (cC l n) ds J=(ds,J):=by
 induction ds generalizing J with
 |nil=>rfl
 |cons d ds ih =>
  simp only[D.bj,ae]at h;simp[cC.frzL,h.1,ih h.2,hn]
@[simp] theorem yA{f:D->SK->D×SK}{J:SK}:cC.frzL f [] J=([],J):=aG rfl
@[simp] theorem vH{f:D->SK->D×SK}{d:D}{ds:List D}{J:SK}:cC.frzL f (d::ds) J=((f d J).1::(cC.frzL f ds (f d J).2).1,(cC.frzL f ds (f d J).2).2):=aG rfl
theorem Bj{l n:Nat}{ds:List D}{J:SK}(h:D.bj ds=false)(hn:0<n):cC l n (.db ds) J=(.db (cC.frzL (cC l (n-1)) ds J).1,(cC.frzL (cC l (n-1)) ds J).2):=by
 obtain⟨m,rfl⟩:∃m,n=m+1:=⟨n-1,by omega⟩
 conv=>lhs;unfold cC
 simp[D.clean,h]
theorem Qx{l n:Nat}{ds:List D}{J:SK}(h:D.bj ds=false)(hn:0<n):cC l n (.agg ds) J=(.agg (cC.frzL (cC l (n-1)) ds J).1,(cC.frzL (cC l (n-1)) ds J).2):=by
 obtain⟨m,rfl⟩:∃m,n=m+1:=⟨n-1,by omega⟩
 conv=>lhs;unfold cC
 simp[D.clean,h]
theorem yB{l n l' i v off m w:Nat}{J:SK}{cs:List D}(h:¬l'<=l)(hc:cells? J l' i v=some cs)(hn:0<n):
  cC l n (.sl l' i v off m w) J=(.aJ m (cC.frzL (cC l (n-1)) ((cs.drop off).take (m*w)) (aZ J l' i .dead)).1,(cC.frzL (cC l (n-1)) ((cs.drop off).take (m*w)) (aZ J l' i .dead)).2):=by
 obtain⟨m,rfl⟩:∃m,n=m+1:=⟨n-1,by omega⟩
 conv=>lhs;unfold cC
 simp only[D.clean,h,hc,az,if_false,Nat.add_sub_cancel]
@[simp] theorem aaC{l n l' i v off m w:Nat}{J:SK}(h:l'<=l)(hn:0<n):cC l n (.sl l' i v off m w) J=(.sl l' i v off m w,J):=by
 obtain⟨m,rfl⟩:∃m,n=m+1:=⟨n-1,by omega⟩
 conv=>lhs;unfold cC
 simp only[D.clean,h,if_true,az,if_false]
@[simp] theorem Y0{l n l' i v off:Nat}{J:SK}(h:l'<=l)(hn:0<n):cC l n (.ref l' i v off) J=(.ref l' i v off,J):=by
 obtain⟨m,rfl⟩:∃m,n=m+1:=⟨n-1,by omega⟩
 conv=>lhs;unfold cC
 simp only[D.clean,h,if_true,az,if_false]
@[simp] theorem agx{n:Nat}:(n+1+1=n)=False:=by simp;omega
@[simp] theorem agy{n:Nat}:(n+1+1+1=n)=False:=by simp;omega
@[simp] theorem agz{n:Nat}:(n+1+1+1+1=n)=False:=by simp;omega
@[simp] theorem agA{n:Nat}:(n+1+1+1+1+1=n)=False:=by simp;omega
theorem DF{a b:List D}:D.bj (a++b)=(D.bj a && D.bj b):=by
 induction a with
 |nil=>rfl
 |cons d a ih=>simp[D.bj,ih,Bool.and_assoc]
end Go.aA
