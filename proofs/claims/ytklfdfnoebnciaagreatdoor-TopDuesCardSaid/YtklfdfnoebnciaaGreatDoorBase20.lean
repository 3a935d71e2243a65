import Derived.Test.YtklfdfnoebnciaaGreatDoorBase13
import Derived.Lib.LaidTab
import Derived.LaidLaws
import Derived.Shelf.Vars
set_option linter.all false
namespace Go.az
open Go
theorem Nz{P:Program}{w:World}:∀{l:List (String×DataW Unit)} {ps:List MemPlace},DataW.LaidVars P w l ps->∀x∈l,
  ∃g t cs fuel p,P.globalNamed x.1=some g/\(P.globals[g]?).map (·.type)=some t/\w.var? P x.1=some cs/\DataW.trod (λ_=>()) P w 0 (λ_=>true) false fuel t cs.toList=some (x.2,p) /\
   ∀m∈MemPlace.row ⟨g,0,none⟩ cs.size,m∈ps
 |[],_,_,x,hx=>by cases hx
 |(n,d)::r,ps,h,x,hx=>by
  obtain⟨g,t,cs,fuel,p,q,h1,h2,h3,h4,h5,rfl⟩:=h;rcases bw.1 hx with rfl | hx
  .exact⟨g,t,cs,fuel,p,h1,h2,h3,h4,λm hm=>by simp[hm]⟩
  .obtain⟨g',t',cs',f',p',k1,k2,k3,k4,k5⟩:=Nz h5 x hx;exact⟨g',t',cs',f',p',k1,k2,k3,k4,λm hm=>by simp[k5 m hm]⟩
theorem Ia{P:Program}{w:World}{l:List (String×DataW Unit)}(hl:laidMet P l w){n:String}{d:DataW Unit}(hx:(n,d)∈l){b t:Nat}(hb:P.globalNamed n=some b)(ht:(P.globals[b]?).map (·.type)=some t):
  ∃cs fuel p,DataW.trod (λ_=>()) P w 0 (λ_=>true) false fuel t cs.toList=some (d,p)/\(0<cs.size->∃t',w.heap[b]?=some (.cells cs t' (0,0))):=by
 obtain⟨ps,h1,_,h2⟩:=hl;obtain⟨g,t',cs,fuel,p,k1,k2,k3,k4,k5⟩:=Nz h1 _ hx;obtain rfl:=Option.some.inj (hb.symm.trans k1);obtain rfl:=Option.some.inj (ht.symm.trans k2);refine⟨cs,fuel,p,k4,λhpos=>?_⟩;obtain⟨⟨c,t',hc⟩,_⟩:=h2 b 0 (k5 _ (by simp only[MemPlace.row,bO,List.mem_range];exact⟨0,hpos,by simp⟩));simp only[World.var?,hb,Option.bind_some,hc,ad]at k3;subst k3;exact⟨t',hc⟩
theorem Nq{P:Program}{w:World}{l:List (String×DataW Unit)}(hl:laidMet P l w){n nm:String}{d:DataW Unit}(hx:(n,.iface nm d)∈l){b t:Nat}{ms:Array (String×TypeId)}(hb:P.globalNamed n=some b)
  (ht:(P.globals[b]?).map (·.type)=some t) (hu:P.underlying t=some (.interface ms)):∃c t v,w.heap[b]?=some (.cells c t (0,0))/\c[0]?=some v/\v.oneCell'=true/\Tt (.cells c t (0,0)):=by
 obtain⟨cs,fuel,p,h1,h2⟩:=Ia hl hx hb ht;obtain⟨f1,u,v,hcs,_⟩:=iface_of_trod hu h1;obtain rfl:cs = #[.iface u v]:=by rw[<- fe,hcs]
 obtain⟨t',hc⟩:=h2 (by simp);exact⟨_,t',.iface u v,hc,by simp,rfl,_,t',_,.iface u v,rfl,by simp,.inr ⟨u,v,rfl⟩⟩
theorem TP{P:Program}{w:World}{l:List (String×DataW Unit)}(hl:laidMet P l w){n:String}(hx:(n,Lib.tabData .u64 Lib.pow10Tab)∈l){b t e k:Nat}(hb:P.globalNamed n=some b)
  (ht:(P.globals[b]?).map (·.type)=some t) (hu:P.underlying t=some (.array k e)) (he:P.underlying e=some (.int .u64)) (hce:P.cellsOf e=1) (hct:P.cellsOf t=k):
  ∃c t v,w.heap[b]?=some (.cells c t (0,0))/\c[0]?=some v/\v.oneCell'=true/\Wh (.cells c t (0,0)):=by
 obtain⟨cs,fuel,p,h1,h2⟩:=Ia hl hx hb ht;have hcs:=Lib.cells_of_tab hu he hce hct h1;obtain rfl:cs=(Lib.pow10Tab.map (Value.int .u64)).toArray:=by rw[<- fe,hcs]
 obtain⟨t',hc⟩:=h2 (by decide);exact⟨_,t',.int .u64 1,hc,rfl,rfl,t',_,rfl⟩
theorem TO{P:Program}{w:World}(h:w.ShapedOpen P){g t:Nat}{zero:Array Value}(hg:g<P.globals.size)(h0:((begin P (λ_ _=>0) default).world.heap[g]?).bind Obj.row?=some (zero,t))(hz:zero.size=1)
  (hb:P.buildable t=true) (hc:P.cellTypes P.depth t=some [t]) (hu:P.underlying t=some (.int .i64)):∃c t v,w.heap[g]?=some (.cells c t (0,0))/\c[0]?=some v/\v.oneCell'=true/\Wg (.cells c t (0,0)):=by
 obtain⟨m,hm⟩:=Go.Proofs.cell_of_shapedOpen_int h hg h0 hz hb hc hu;obtain⟨cs,hh,_⟩:=h.1 g zero t hg h0;have h1:cs[0]?=some (.int .i64 m):=by simpa[World.cell?,hh]using hm
 exact⟨cs,t,_,hh,h1,rfl,cs,t,_,m,rfl,h1⟩
variable {T:zQ} {O:bI}
theorem aB.{u}{α:Sort u}{a b:α}(h:a=b):a=b:=h
inductive Mark.{u} {α:Sort u} (a:α):Type
 |mk
def WO(O:bI)(ops:List Op)(e:Env)(J:SK)(Q:Env->SK->Prop)(_m:Mark Q:=.mk):Prop:=∃e' J',kK O ops e J=some (e',J')/\Q e' J'
def WC(O:bI)(c:bX)(e:Env)(J:SK)(Q:Exit->Env->SK->Prop)(_m:Mark c:=.mk)(_m':Mark Q:=.mk):Prop:=∃x e' J',aV O c e J=some (x,e',J')/\Q x e' J'
def WV(o:Option (D×SK))(Q:D->SK->Prop)(_m:Mark Q:=.mk):Prop:=∃d J',o=some (d,J')/\Q d J'
def WL(T:zQ)(live:List Nat)(bk:Bool)(c:bX)(e:Env)(J:SK)(Q:Exit->Env->SK->Prop)(_m:Mark c:=.mk)(_m':Mark Q:=.mk):Prop:=∃x e' J',lim T (.loop live bk c e J)=some (.B6 x e' J')/\Q x e' J'
theorem WO.mono{ops:List Op}{e:Env}{J:SK}{Q Q':Env->SK->Prop}(h:WO O ops e J Q)(hq:∀e J,Q e J->Q' e J):WO O ops e J Q' :=
 let ⟨e',J',h1,h2⟩:=h;⟨e',J',h1,hq _ _ h2⟩
theorem WC.mono{c:bX}{e:Env}{J:SK}{Q Q':Exit->Env->SK->Prop}(h:WC O c e J Q)(hq:∀x e J,Q x e J->Q' x e J):WC O c e J Q' :=
 let ⟨x,e',J',h1,h2⟩:=h;⟨x,e',J',h1,hq _ _ _ h2⟩
theorem WL.mono{live:List Nat}{bk:Bool}{c:bX}{e:Env}{J:SK}{Q Q':Exit->Env->SK->Prop}(h:WL T live bk c e J Q)(hq:∀x e J,Q x e J->Q' x e J):WL T live bk c e J Q' :=
 let ⟨x,e',J',h1,h2⟩:=h;⟨x,e',J',h1,hq _ _ _ h2⟩
def WD{α:Type}(o:Option α)(Q:α->Prop)(_m:Mark Q:=.mk):Prop:=∃d,o=some d/\Q d
@[simp,simp ↓] theorem Da{α:Type}{d:α}{Q:α->Prop}:WD (some d) Q=Q d:=by
 simp only[WD,ad,eq_iff_iff];exact⟨λ⟨_,h,h'⟩=>by rw[h];exact h',λh=>⟨_,rfl,h⟩⟩
@[simp,simp ↓] theorem Tz{α:Type}{Q:α->Prop}:WD none Q=False:=by simp[WD]
def Kc:D->Option Bool
 |.bool b=>some b
 |_=>none
@[simp] theorem Wq{b:Bool}:Kc (.bool b)=some b:=aB rfl
@[simp] theorem Zv{b:Bool}:(D.bool b).bit=some (some b):=aB rfl
@[simp] theorem abz:(D.dj []).bit=some none:=aB rfl
def Ww(k:IntKind):D->Option D
 |.int _ m=>some (.int k (k.wrap m))
 |_=>none
@[simp] theorem ZA{k k':IntKind}{m:Int}:Ww k (.int k' m)=some (.int k (k.wrap m)):=aB rfl
@[simp,simp ↓] theorem abx{d:D}{J:SK}{Q:D->SK->Prop}:WV (some (d,J)) Q=Q d J:=by
 simp only[WV,ad,aj,eq_iff_iff];constructor
 .rintro⟨_,_,⟨rfl,rfl⟩,h⟩;exact h
 .exact λh=>⟨_,_,⟨rfl,rfl⟩,h⟩
@[simp,simp ↓] theorem abw{Q:D->SK->Prop}:WV none Q=False:=by simp[WV]
@[simp,simp ↓] theorem acA{e:Env}{J:SK}{Q:Env->SK->Prop}:WO O [] e J Q=Q e J:=by
 simp only[WO,kK,ad,aj,eq_iff_iff];constructor
 .rintro⟨_,_,⟨rfl,rfl⟩,h⟩;exact h
 .exact λh=>⟨_,_,⟨rfl,rfl⟩,h⟩
def adn(d:D)(w:Bool):Option Bool :=
 match d with
 |.bool b=>some (b == w)
 |_=>none
@[simp,simp ↓] theorem acp{d:Option Nat}{g:Nat}{w n:Bool}{k:K}{r:List Op}{e:Env}{J:SK}{Q:Env->SK->Prop}:
  WO O (⟨d,some (g,w),n,k⟩::r) e J Q=WD (get e g).bit λb=>if b=some w then WO O (⟨d,none,n,k⟩::r) e J Q else WO O r (put d (.dj []) e) J Q:=by
 cases h:(get e g).bit<;>simp only[WO,kK,h,reduceCtorEq,false_and,exists_false,Tz,Da];rename_i b;by_cases hb:b=some w
 .simp only[hb,if_true];rfl
 .simp only[if_neg hb]
theorem cV{d:Option Nat}{n:Bool}{k:K}{r:List Op}{e:Env}{J:SK}{Q:Env->SK->Prop}(h:vn O ⟨d,none,n,k⟩ e J=(bG e J k).map λx=>(put d x.1 e,x.2)):
  WO O (⟨d,none,n,k⟩::r) e J Q=WV (bG e J k) λv J'=>WO O r (put d v e) J' Q:=by
 simp only[WO,kK,h,WV,eq_iff_iff];constructor
 .rintro⟨e',J',h1,h2⟩;cases hs:bG e J k with
  |none=>simp[hs]at h1
  |some y=>simp[hs]at h1;exact⟨y.1,y.2,rfl,e',J',h1,h2⟩
 .rintro⟨v,J1,h1,e',J',h2,h3⟩;exact⟨e',J',by simp[h1,h2],h3⟩
theorem lZ{o:Option (D×SK)}{o':Option D}{J:SK}{Q:D->SK->Prop}(h:o=o'.map (·,J)):WV o Q=WD o' λv=>Q v J:=by
 subst h;cases o'<;>simp
def Rm:D->Option D
 |.bN=>some (.int .i64 0)
 |.aG n _=>some (.int .i64 n)
 |.sl _ _ _ _ n _=>some (.int .i64 n)
 |_=>none
@[simp] theorem YD:Rm .bN=some (.int .i64 0):=aB rfl
@[simp] theorem Z1{n:Nat}{cs:List D}:Rm (.aG n cs)=some (.int .i64 n):=aB rfl
@[simp] theorem abJ{l i v o n w:Nat}:Rm (.sl l i v o n w)=some (.int .i64 n):=aB rfl
def Ln(ag:Bool)(sz:Nat):Option (List D)->Option D
 |some cs =>
  if sz<=cs.length then
   if ag then some (.agg (cs.take sz))else
   match cs with
   |d::_=>some d
   |[]=>none
  else none
 |none=>none
@[simp] theorem acN{sz:Nat}{cs:List D}:Ln true sz (some cs)=if sz<=cs.length then some (.agg (cs.take sz))else none:=aB rfl
@[simp] theorem abH{d:D}{cs:List D}:Ln false 1 (some (d::cs))=some d:=by simp[Ln]
@[simp] theorem aan{J:SK}{cs:List D}:Eo J (.bu cs)=some cs:=aB rfl
@[simp] theorem abP{J:SK}{l i v off:Nat}:Eo J (.ref l i v off)=(cells? J l i v).map (·.drop off):=aB rfl
def Rk(e:Env)(v:Nat)(ag:Bool)(sz a:Nat):Option D:=Ln ag sz ((rq e v a).map λx=>x.2.1.drop x.2.2)
def QM:D->Option (List D)
 |.bu cs=>some cs
 |_=>none
@[simp] theorem Wu{cs:List D}:QM (.bu cs)=some cs:=aB rfl
@[simp] theorem YB:Hu false .bN=some true:=aB rfl
@[simp] theorem ZY{n:Nat}{cs:List D}:Hu false (.aG n cs)=if n=0 then none else some false:=aB rfl
def Z5:D->Option D
 |.bu cs=>some (.bu cs)
 |.ref l i v off=>some (.ref l i v off)
 |_=>none
@[simp] theorem Z6{l i v off:Nat}:Z5 (.ref l i v off)=some (.ref l i v off):=aB rfl
def unD:UnOp->D->Option D
 |.not,.bool b=>some (.bool !b)
 |.neg,.int k n=>some (.int k (k.wrap (0-n)))
 |.xor,.int k n=>some (.int k (k.wrap ((BitVec.ofInt k.bits (if k.signed then -1 else k.max) ^^^ BitVec.ofInt k.bits n).toNat:Int)))
 |_,_=>none
@[simp] theorem abW{b:Bool}:unD .not (.bool b)=some (.bool !b):=aB rfl
@[simp] theorem abV{k:IntKind}{n:Int}:unD .neg (.int k n)=some (.int k (k.wrap (0-n))):=aB rfl
def Kn(n off:Nat):D->Option D
 |.bu cs=>some (.bu (cs.drop off))
 |.ref l i v o=>some (.ref l i v (o+off))
 |.own s _=>some (.vr n s off)
 |.vr v s o=>some (.vr v s (o+off))
 |_=>none
@[simp] theorem WH{n off:Nat}{cs:List D}:Kn n off (.bu cs)=some (.bu (cs.drop off)):=aB rfl
@[simp] theorem Yp{n off l i v o:Nat}:Kn n off (.ref l i v o)=some (.ref l i v (o+off)):=aB rfl
@[simp] theorem Yo{n off s:Nat}{cs:List D}:Kn n off (.own s cs)=some (.vr n s off):=aB rfl
@[simp] theorem ZL{n off v s o:Nat}:Kn n off (.vr v s o)=some (.vr v s (o+off)):=aB rfl
def adG(ag:Bool)(off sz:Nat):D->Option D
 |.agg cs =>
  if off+sz<=cs.length then
   if ag then some (.agg ((cs.drop off).take sz))else cs[off]?
  else none
 |_=>none
def Nu(m len w:Nat)(x i:D):Option D :=
 match Ds i with
 |some n =>
  if 0<=n/\n<len then
   match x with
   |.bu cs=>some (.bu ((cs.drop (n.toNat*w)).take w))
   |.ref l j v off=>some (.ref l j v (off+n.toNat*w))
   |.own s _=>some (.vr m s (n.toNat*w))
   |.vr v s o=>some (.vr v s (o+n.toNat*w))
   |_=>none
  else none
 |none=>none
@[simp] theorem WS{m len w:Nat}{cs:List D}{k:IntKind}{n:Int}:Nu m len w (.bu cs) (.int k n)=if 0<=n/\n<len then some (.bu ((cs.drop (n.toNat*w)).take w))else none:=aB rfl
@[simp] theorem Yx{m len w l j v off:Nat}{k:IntKind}{n:Int}:Nu m len w (.ref l j v off) (.int k n)=if 0<=n/\n<len then some (.ref l j v (off+n.toNat*w))else none:=aB rfl
def Nv(w:Nat)(x i:D):Option D :=
 match x,Ds i with
 |.aG m cs,some n=>if 0<=n/\n<m then some (.bu ((cs.drop (n.toNat*w)).take w))else none
 |.sl l j v off m w',some n=>if 0<=n/\n<m/\w'=w then some (.ref l j v (off+n.toNat*w))else none
 |_,_=>none
@[simp] theorem Yy{w m:Nat}{cs:List D}{k:IntKind}{n:Int}:Nv w (.aG m cs) (.int k n)=if 0<=n/\n<m then some (.bu ((cs.drop (n.toNat*w)).take w))else none:=aB rfl
@[simp] theorem ZV{w l j v off m w':Nat}{k:IntKind}{n:Int}:Nv w (.sl l j v off m w') (.int k n)=if 0<=n/\n<m/\w'=w then some (.ref l j v (off+n.toNat*w))else none:=aB rfl
def Q3(ag:Bool)(len w:Nat)(x i:D):Option D :=
 match x,Ds i with
 |.agg cs,some n =>
  if 0<=n/\n<len/\(n.toNat+1)*w<=cs.length then
   if ag then some (.agg ((cs.drop (n.toNat*w)).take w))else cs[n.toNat*w]?
  else none
 |_,_=>none
@[simp] theorem Yz{ag:Bool}{len w:Nat}{cs:List D}{k:IntKind}{n:Int}:Q3 ag len w (.agg cs) (.int k n)=if 0<=n/\n<len/\(n.toNat+1)*w<=cs.length then(if ag then some (.agg ((cs.drop (n.toNat*w)).take w))else cs[n.toNat*w]?)else none:=aB rfl
def mnD(x y:D):Option D :=
 match x,y with
 |.int k a,.int _ b=>some (.int k (min a b))
 |_,_=>none
@[simp] theorem abM{k k':IntKind}{a b:Int}:mnD (.int k a) (.int k' b)=some (.int k (min a b)):=aB rfl
def mxD(x y:D):Option D :=
 match x,y with
 |.int k a,.int _ b=>some (.int k (max a b))
 |_,_=>none
@[simp] theorem abN{k k':IntKind}{a b:Int}:mxD (.int k a) (.int k' b)=some (.int k (max a b)):=aB rfl
def ZJ(x:D)(i:Nat):Option D :=
 match x with
 |.dj ds=>ds[i]?
 |_=>none
@[simp] theorem ZK{ds:List D}{i:Nat}:ZJ (.dj ds) i=ds[i]?:=aB rfl
def WE(ag:Bool)(ks:List (Option IntKind))(neg:Bool)(x y:D):Option D :=
 match x.row ag,y.row ag with
 |some p,some q=>(zn ks p q).map λb => .bool (if neg then !b else b)
 |_,_=>none
@[simp] theorem abC{ks:List (Option IntKind)}{neg:Bool}{p q:List D}:WE true ks neg (.agg p) (.agg q)=(zn ks p q).map λb => .bool (if neg then !b else b):=aB rfl
@[simp] theorem aap:zn [] [] []=some true:=aB rfl
@[simp] theorem aao{k k1 k2:IntKind}{ks:List (Option IntKind)}{a b:Int}{x y:List D}:zn (some k::ks) (.int k1 a::x) (.int k2 b::y)=if k1=k/\k2=k then(zn ks x y).map (a == b && ·)else none:=aB rfl
def X4(w:Nat)(x:D)(e:Env)(lo hi mx:Option bD):Option D :=
 match x with
 |.aG n cs=>(bounds n e lo hi mx).map λb => .aG (b.2-b.1) ((cs.drop (b.1*w)).take ((b.2-b.1)*w))
 |.sl l i v off n w'=>if w'=w then(bounds n e lo hi mx).map λb => .sl l i v (off+b.1*w) (b.2-b.1) w else none
 |.bN=>(bounds 0 e lo hi mx).map λ_ => .bN
 |_=>none
@[simp] theorem aa3{w n:Nat}{cs:List D}{e:Env}{lo hi mx:Option bD}:X4 w (.aG n cs) e lo hi mx=(bounds n e lo hi mx).map λb => .aG (b.2-b.1) ((cs.drop (b.1*w)).take ((b.2-b.1)*w)):=aB rfl
section bins
variable {k:IntKind} {a b:Int}
@[simp] theorem Zk:u7 .add (.int k a) (.int k b)=some (.int k (k.wrap (a+b))):=by simp[u7]
@[simp] theorem Zu:u7 .sub (.int k a) (.int k b)=some (.int k (k.wrap (a-b))):=by simp[u7]
@[simp] theorem Zq:u7 .mul (.int k a) (.int k b)=some (.int k (k.wrap (a*b))):=by simp[u7]
@[simp] theorem Zs:u7 .quo (.int k a) (.int k b)=if b≠0 then some (.int k (k.wrap (a.tdiv b)))else none:=by simp[u7]
@[simp] theorem Zt:u7 .rem (.int k a) (.int k b)=if b≠0 then some (.int k (a.tmod b))else none:=by simp[u7]
@[simp] theorem Zl:u7 .eql (.int k a) (.int k b)=some (.bool (a == b)):=by simp[u7]
@[simp] theorem Zr:u7 .neq (.int k a) (.int k b)=some (.bool (a != b)):=by simp[u7]
@[simp] theorem Zp:u7 .lss (.int k a) (.int k b)=some (.bool (decide (a<b))):=by simp[u7]
@[simp] theorem Zo:u7 .leq (.int k a) (.int k b)=some (.bool (decide (a<=b))):=by simp[u7]
@[simp] theorem Zn:u7 .gtr (.int k a) (.int k b)=some (.bool (decide (b<a))):=by simp[u7]
@[simp] theorem Zm:u7 .geq (.int k a) (.int k b)=some (.bool (decide (b<=a))):=by simp[u7]
end bins
@[simp] theorem Uq:D.strip .undef=.undef:=aB rfl
@[simp] theorem Vs{b:Bool}:D.strip (.bool b)=.bool b:=aB rfl
@[simp] theorem XD{k:IntKind}{n:Int}:D.strip (.int k n)=.int k n:=aB rfl
@[simp] theorem XG{s:List UInt8}:D.strip (.str s)=.str s:=aB rfl
@[simp] theorem XB{cs:List D}:D.strip (.agg cs)=.agg cs:=aB rfl
@[simp] theorem XH{cs:List D}:D.strip (.dj cs)=.dj cs:=aB rfl
@[simp] theorem XF{l i v o:Nat}:D.strip (.ref l i v o)=.ref l i v o:=aB rfl
@[simp] theorem Vt{cs:List D}:D.strip (.bu cs)=.bu cs:=aB rfl
@[simp] theorem Vv:D.strip .bN=.bN:=aB rfl
@[simp] theorem XE{n:Nat}{cs:List D}:D.strip (.aG n cs)=.aG n cs:=aB rfl
@[simp] theorem Y0{l i v o n w:Nat}:D.strip (.sl l i v o n w)=.sl l i v o n w:=aB rfl
@[simp] theorem YZ{f:Nat}{a b:List D}:D.strip (.fn f a b)=.fn f a b:=aB rfl
@[simp] theorem XC{t:Nat}{d:D}:D.strip (.tK t d)=.tK t d:=aB rfl
@[simp] theorem Vu:D.strip .oD=.oD:=aB rfl
@[simp] theorem YN{t:Nat}{d:D}:D.calm (.tK t d)=.tK t d:=aB rfl
@[simp] theorem Xh:D.calm .oD=.oD:=aB rfl
@[simp] theorem XI{l i:Nat}:D.strip (.kJ l i)=.kJ l i:=aB rfl
@[simp] theorem Vl:D.calm .undef=.undef:=aB rfl
@[simp] theorem Xf{b:Bool}:D.calm (.bool b)=.bool b:=aB rfl
@[simp] theorem YO{k:IntKind}{n:Int}:D.calm (.int k n)=.int k n:=aB rfl
@[simp] theorem YS{s:List UInt8}:D.calm (.str s)=.str s:=aB rfl
@[simp] theorem YM{cs:List D}:D.calm (.agg cs)=.agg cs:=aB rfl
@[simp] theorem YR{l i v o:Nat}:D.calm (.ref l i v o)=.ref l i v o:=aB rfl
@[simp] theorem Xg{cs:List D}:D.calm (.bu cs)=.bu cs:=aB rfl
@[simp] theorem Xi:D.calm .bN=.bN:=aB rfl
@[simp] theorem YP{n:Nat}{cs:List D}:D.calm (.aG n cs)=.aG n cs:=aB rfl
@[simp] theorem aam{l i v o n w:Nat}:D.calm (.sl l i v o n w)=.sl l i v o n w:=aB rfl
@[simp] theorem aal{f:Nat}{a b:List D}:D.calm (.fn f a b)=.fn f a b:=aB rfl
@[simp] theorem YT{l i:Nat}:D.calm (.kJ l i)=.kJ l i:=aB rfl
@[simp] theorem YQ{s:Nat}{cs:List D}:D.calm (.own s cs)=.own 0 cs:=aB rfl
@[simp] theorem Vm{b:Bool}:D.cells (.bool b)=some [.bool b]:=aB rfl
@[simp] theorem Xk{k:IntKind}{n:Int}:D.cells (.int k n)=some [.int k n]:=aB rfl
@[simp] theorem Xn{s:List UInt8}:D.cells (.str s)=some [.str s]:=aB rfl
@[simp] theorem Xj{cs:List D}:D.cells (.agg cs)=some cs:=aB rfl
@[simp] theorem Xm{l i v o:Nat}:D.cells (.ref l i v o)=some [.ref l i v o]:=aB rfl
@[simp] theorem Xl{n:Nat}{cs:List D}:D.cells (.aG n cs)=some [.aG n cs]:=aB rfl
@[simp] theorem YV{l i v o n w:Nat}:D.cells (.sl l i v o n w)=some [.sl l i v o n w]:=aB rfl
@[simp] theorem YU{f:Nat}{a b:List D}:D.cells (.fn f a b)=some [.fn f a b]:=aB rfl
@[simp] theorem Xo{l i:Nat}:D.cells (.kJ l i)=some [.kJ l i]:=aB rfl
@[simp] theorem ZW{k:IntKind}{n:Int}:Ds (.int k n)=some n:=aB rfl
@[simp] theorem rH{O:bI}{kp:Bool}{f:Nat}{first cap args:List D}{J:SK}:oe O kp (.fn f first cap) args J=R.bg (O (.call kp f (first++args++cap) J)):=aB rfl
@[simp] theorem Yk{O:bI}{kp:Bool}{l i:Nat}{args:List D}{J:SK}:oe O kp (.kJ l i) args J=R.bg (O (.round l i args J)):=aB rfl
@[simp] theorem abd{d:D}{J:SK}:R.bg (some (.val d J))=some (d,J):=aB rfl
section ops
variable {d:Option Nat} {n:Bool} {r:List Op} {e:Env} {J:SK} {Q:Env->SK->Prop}
@[simp,simp ↓] theorem adj{x:bD}:WO O (⟨d,none,n,.mv x⟩::r) e J Q=WO O r (put d (ba e x) e) J Q:=by rw[cV rfl];simp[bG]
@[simp,simp ↓] theorem abu{w:Nat}:WO O (⟨d,none,n,.GJ w⟩::r) e J Q=WV (bG e J (.GJ w)) λv J'=>WO O r (put d v e) J' Q:=cV rfl
@[simp,simp ↓] theorem acb{nb:List (Nat×Nat)}{cs:List D}:WO O (⟨d,none,n,.Ox nb cs⟩::r) e J Q=WV (bG e J (.Ox nb cs)) λv J'=>WO O r (put d v e) J' Q:=cV rfl
@[simp,simp ↓] theorem abv{c a b:bD}:WO O (⟨d,none,n,.pick c a b⟩::r) e J Q=WD (Kc (ba e c)) λt=>WO O r (put d (if t then ba e a else ba e b) e) J Q:=by
 rw[cV rfl];simp only[bG];cases ba e c<;>simp[Kc]
@[simp,simp ↓] theorem abk{x:bD}:WO O (⟨d,none,n,.Hn x⟩::r) e J Q=WD (ba e x).cells λcs=>WO O r (put d (.bu cs) e) J Q:=by
 rw[cV rfl];simp only[bG];cases(ba e x).cells<;>simp
@[simp,simp ↓] theorem abl{x:bD}:WO O (⟨d,none,n,.Ho x⟩::r) e J Q=WV (bG e J (.Ho x)) λv J'=>WO O r (put d v e) J' Q:=cV rfl
@[simp,simp ↓] theorem ack{nb:List (Nat×Nat)}{x:bD}:WO O (⟨d,none,n,.SG nb x⟩::r) e J Q=WV (bG e J (.SG nb x)) λv J'=>WO O r (put d v e) J' Q:=cV rfl
@[simp,simp ↓] theorem ach{z:List D}{ps:List (Nat×Nat×bD)}:WO O (⟨d,none,n,.IZ z ps⟩::r) e J Q=WD (rn e ps z) λcs=>WO O r (put d (.agg cs) e) J Q:=by
 rw[cV rfl];simp only[bG];cases rn e ps z<;>simp
@[simp,simp ↓] theorem aci{m w:Nat}{z:List D}{ps:List (Nat×Nat×bD)}:WO O (⟨d,none,n,.TE m w z ps⟩::r) e J Q=WD (rn e ps z) λcs=>WO O r (put d (.aG m cs) e) J Q:=by
 rw[cV rfl];simp only[bG];cases rn e ps z<;>simp
@[simp,simp ↓] theorem acj{m w:Nat}{z:List D}{ps:List (Nat×Nat×bD)}:WO O (⟨d,none,n,.QH m w z ps⟩::r) e J Q=WV (bG e J (.QH m w z ps)) λv J'=>WO O r (put d v e) J' Q:=cV rfl
@[simp,simp ↓] theorem adf{ag:Bool}{sz:Nat}{a:bD}:WO O (⟨d,none,n,.ld ag sz a⟩::r) e J Q=WD (Ln ag sz (Eo J (ba e a))) λv=>WO O r (put d v e) J Q:=by
 rw[cV rfl];refine lZ ?_;simp only[bG];cases Eo J (ba e a)with
 |none=>rfl
 |some cs =>
  simp only[Ln];split
  .cases ag
   .cases cs<;>rfl
   .rfl
  .rfl
theorem NQ{J:SK}{l i off:Nat}:PF J (.ref l i 0 off)=Eo J (.ref l i 0 off):=rfl
@[simp,simp ↓] theorem acs{ag:Bool}{sz:Nat}{a:bD}:WO O (⟨d,none,n,.PD ag sz a⟩::r) e J Q=WD (Ln ag sz (PF J (ba e a))) λv=>WO O r (put d v e) J Q:=by
 rw[cV rfl];refine lZ ?_;simp only[bG];cases PF J (ba e a)with
 |none=>rfl
 |some cs =>
  simp only[Ln];split
  .cases ag
   .cases cs<;>rfl
   .rfl
  .rfl
@[simp,simp ↓] theorem acu{ag:Bool}{sz:Nat}{a:bD}:WO O (⟨d,none,n,.T1 ag sz a⟩::r) e J Q=WD (Ln ag sz (QM (ba e a))) λv=>WO O r (put d v e) J Q:=by
 rw[cV rfl];refine lZ ?_;simp only[bG];cases ba e a with
 |bu cs =>
  simp only[QM,Ln];split
  .cases ag
   .cases cs<;>rfl
   .rfl
  .rfl
 |_=>rfl
@[simp,simp ↓] theorem acr{ps neg:Bool}{x:bD}:WO O (⟨d,none,n,.TV ps neg x⟩::r) e J Q=WD (Hu ps (ba e x)) λb=>WO O r (put d (.bool (if neg then !b else b)) e) J Q:=by
 rw[cV rfl];simp only[bG];cases Hu ps (ba e x)<;>simp
@[simp,simp ↓] theorem acz{x:bD}:WO O (⟨d,none,n,.T7 x⟩::r) e J Q=WD (Z5 (ba e x)) λv=>WO O r (put d v e) J Q:=by
 rw[cV rfl];refine lZ ?_;simp only[bG];cases ba e x<;>rfl
@[simp,simp ↓] theorem adl{nb:List (Nat×Nat)}{sz:Nat}{a x:bD}:WO O (⟨d,none,n,.st nb sz a x⟩::r) e J Q=WV (bG e J (.st nb sz a x)) λv J'=>WO O r (put d v e) J' Q:=cV rfl
@[simp,simp ↓] theorem acv{v:Nat}{ag:Bool}{sz a:Nat}:WO O (⟨d,none,n,.PE v ag sz a⟩::r) e J Q=WD (Rk e v ag sz a) λv=>WO O r (put d v e) J Q:=by
 rw[cV rfl];refine lZ ?_;simp only[bG,Rk];cases rq e v a with
 |none=>rfl
 |some x =>
  obtain⟨s,cs,off⟩:=x;simp only[Ln,aQ];split
  .cases ag
   .cases cs.drop off<;>rfl
   .rfl
  .rfl
@[simp,simp ↓] theorem acg{o:BinOp}{x y:bD}:WO O (⟨d,none,n,.bin o x y⟩::r) e J Q=WD (u7 o (ba e x) (ba e y)) λv=>WO O r (put d v e) J Q:=by
 rw[cV rfl];simp only[bG];cases u7 o (ba e x) (ba e y)<;>simp
@[simp,simp ↓] theorem acn{ag:Bool}{ks:List (Option IntKind)}{neg:Bool}{x y:bD}:WO O (⟨d,none,n,.eqv ag ks neg x y⟩::r) e J Q=WD (WE ag ks neg (ba e x) (ba e y)) λv=>WO O r (put d v e) J Q:=by
 rw[cV rfl];refine lZ ?_;simp only[bG,WE];cases(ba e x).row ag<;>cases(ba e y).row ag<;>simp[Option.map_map,Function.comp_def]
@[simp,simp ↓] theorem adm{o:UnOp}{x:bD}:WO O (⟨d,none,n,.un o x⟩::r) e J Q=WD (unD o (ba e x)) λv=>WO O r (put d v e) J Q:=by
 rw[cV rfl];refine lZ ?_;simp only[bG];cases o<;>cases ba e x<;>rfl
@[simp,simp ↓] theorem acm{k:IntKind}{x:bD}:WO O (⟨d,none,n,.QN k x⟩::r) e J Q=WD (Ww k (ba e x)) λv=>WO O r (put d v e) J Q:=by
 rw[cV rfl];simp only[bG];cases ba e x<;>simp[Ww]
@[simp,simp ↓] theorem acB{p:Pu}{xs:List bD}:WO O (⟨d,none,n,.Im p xs⟩::r) e J Q=WD (CT p (xs.map (ba e))) λv=>WO O r (put d v e) J Q:=by
 rw[cV rfl];simp only[bG];cases CT p (xs.map (ba e))<;>simp
@[simp,simp ↓] theorem adg{p:Me}{xs:List bD}:WO O (⟨d,none,n,.me p xs⟩::r) e J Q=WV (SI J p (xs.map (ba e))) λv J'=>WO O r (put d v e) J' Q:=cV rfl
@[simp,simp ↓] theorem adi{p:Mo}{xs:List bD}:WO O (⟨d,none,n,.mp p xs⟩::r) e J Q=WV (Aj J p (xs.map (ba e))) λv J'=>WO O r (put d v e) J' Q:=cV rfl
@[simp,simp ↓] theorem acx{t:Nat}{x:bD}:WO O (⟨d,none,n,.RA t x⟩::r) e J Q=WO O r (put d (.tK t (ba e x)) e) J Q:=by rw[cV rfl];simp[bG]
@[simp,simp ↓] theorem acE{t:Nat}{z:Option D}{x:bD}:WO O (⟨d,none,n,.SO t z x⟩::r) e J Q=WD (MP t z (ba e x)) λv=>WO O r (put d v e) J Q:=by
 rw[cV rfl];simp only[bG];cases MP t z (ba e x)<;>simp
@[simp,simp ↓] theorem acq{neg:Bool}{x:bD}:WO O (⟨d,none,n,.TU neg x⟩::r) e J Q=WD (Q9 (ba e x)) λb=>WO O r (put d (.bool (if neg then !b else b)) e) J Q:=by
 rw[cV rfl];simp only[bG];cases Q9 (ba e x)<;>simp
@[simp] theorem YA:Q9 .oD=some true:=aB rfl
@[simp] theorem ZX{t:Nat}{d:D}:Q9 (.tK t d)=some false:=aB rfl
@[simp] theorem aa6{t t':Nat}{z d:D}:MP t (some z) (.tK t' d)=some (if t'=t then .dj [d,.bool true]else .dj [z,.bool false]):=aB rfl
@[simp,simp ↓] theorem acw{f:Nat}{xs ys:List bD}:WO O (⟨d,none,n,.Rz f xs ys⟩::r) e J Q=WO O r (put d (.fn f (xs.map (ba e)) (ys.map (ba e))) e) J Q:=by rw[cV rfl];simp[bG]
@[simp,simp ↓] theorem acy{w b:Nat}{z:List D}{l c:bD}:WO O (⟨d,none,n,.RB w b z l c⟩::r) e J Q=WV (bG e J (.RB w b z l c)) λv J'=>WO O r (put d v e) J' Q:=cV rfl
@[simp,simp ↓] theorem acC{w:Nat}{x:bD}{lo hi mx:Option bD}:WO O (⟨d,none,n,.SL w x lo hi mx⟩::r) e J Q=WD (X4 w (ba e x) e lo hi mx) λv=>WO O r (put d v e) J Q:=by
 rw[cV rfl];refine lZ ?_;simp only[bG,X4];cases ba e x<;>first | rfl | (simp only[];split<;>simp[Option.map_map,Function.comp_def]) | simp[Option.map_map,Function.comp_def]
@[simp,simp ↓] theorem abo{off m:Nat}:WO O (⟨d,none,n,.Hq off (.t m)⟩::r) e J Q=WD (Kn m off (get e m)) λv=>WO O r (put d v e) J Q:=by
 rw[cV rfl];refine lZ ?_;simp only[bG];cases get e m<;>rfl
@[simp,simp ↓] theorem abp{l w m:Nat}{i:bD}:WO O (⟨d,none,n,.Fh l w (.t m) i⟩::r) e J Q=WD (Nu m l w (get e m) (ba e i)) λv=>WO O r (put d v e) J Q:=by
 rw[cV rfl];refine lZ ?_;simp only[bG,Nu];cases Ds (ba e i)with
 |none=>rfl
 |some k=>simp only[];split<;>cases get e m<;>rfl
@[simp,simp ↓] theorem abq{w:Nat}{x i:bD}:WO O (⟨d,none,n,.Fi w x i⟩::r) e J Q=WD (Nv w (ba e x) (ba e i)) λv=>WO O r (put d v e) J Q:=by
 rw[cV rfl];refine lZ ?_;simp only[bG,Nv];cases Ds (ba e i)with
 |none=>cases ba e x<;>rfl
 |some k=>cases ba e x<;>first | rfl | (simp only[];split<;>rfl)
@[simp,simp ↓] theorem abr{ag:Bool}{l w:Nat}{x i:bD}:WO O (⟨d,none,n,.Je ag l w x i⟩::r) e J Q=WD (Q3 ag l w (ba e x) (ba e i)) λv=>WO O r (put d v e) J Q:=by
 rw[cV rfl];refine lZ ?_;simp only[bG,Q3];cases Ds (ba e i)with
 |none=>cases ba e x<;>rfl
 |some k=>cases ba e x<;>first | rfl | (simp only[];split<;>cases ag<;>simp)
@[simp,simp ↓] theorem abt{x:bD}:WO O (⟨d,none,n,.Hv x⟩::r) e J Q=WD (Rm (ba e x)) λv=>WO O r (put d v e) J Q:=by
 rw[cV rfl];refine lZ ?_;simp only[bG];cases ba e x<;>rfl
@[simp,simp ↓] theorem adh{x y:bD}:WO O (⟨d,none,n,.mn x y⟩::r) e J Q=WD (mnD (ba e x) (ba e y)) λv=>WO O r (put d v e) J Q:=by
 rw[cV rfl];refine lZ ?_;simp only[bG];cases ba e x<;>cases ba e y<;>rfl
@[simp,simp ↓] theorem adk{x y:bD}:WO O (⟨d,none,n,.mx x y⟩::r) e J Q=WD (mxD (ba e x) (ba e y)) λv=>WO O r (put d v e) J Q:=by
 rw[cV rfl];refine lZ ?_;simp only[bG];cases ba e x<;>cases ba e y<;>rfl
@[simp,simp ↓] theorem acf{w b:Nat}{s x:bD}:WO O (⟨d,none,n,.SF w b s x⟩::r) e J Q=WV (bG e J (.SF w b s x)) λv J'=>WO O r (put d v e) J' Q:=cV rfl
@[simp,simp ↓] theorem acd{os:List Nat}{w b:Nat}{s x:bD}:WO O (⟨d,none,n,.Oy os w b s x⟩::r) e J Q=WV (bG e J (.Oy os w b s x)) λv J'=>WO O r (put d v e) J' Q:=cV rfl
@[simp,simp ↓] theorem ace{w b:Nat}{s x:bD}:WO O (⟨d,none,n,.app w b s x⟩::r) e J Q=WV (bG e J (.app w b s x)) λv J'=>WO O r (put d v e) J' Q:=cV rfl
@[simp,simp ↓] theorem aco{x:bD}{i:Nat}:WO O (⟨d,none,n,.ext x i⟩::r) e J Q=WD (ZJ (ba e x) i) λv=>WO O r (put d v e) J Q:=by
 rw[cV rfl];refine lZ ?_;simp only[bG];cases ba e x<;>rfl
@[simp,simp ↓] theorem abn{kp:Bool}{f:bD}{args:List bD}:WO O (⟨d,none,n,.call kp f args⟩::r) e J Q =
  WV (oe O kp (ba e f) (args.map (ba e)) J) λv J'=>(n=true->J'=J)/\WO O r (put d v e) J' Q:=by
 simp only[WO,kK,vn,WV,eq_iff_iff];cases hc:oe O kp (ba e f) (args.map (ba e)) J with
 |none=>simp
 |some y =>
  obtain⟨v,J1⟩:=y;by_cases hn:n=true->J1=J
  .simp only[if_pos hn,Option.bind_some,ad,aj];exact⟨λh=>⟨v,J1,⟨rfl,rfl⟩,hn,h⟩,λ⟨_,_,⟨h1,h2⟩,_,h⟩=>by subst h1 h2;exact h⟩
  .simp only[if_neg hn,Option.bind_none,reduceCtorEq,false_and,exists_false,ad,aj,false_iff];rintro⟨_,_,⟨h1,h2⟩,h,_⟩;subst h1 h2;exact hn h
@[simp,simp ↓] theorem abj{nb:List (Nat×Nat)}{cs:List D}:WO O (⟨d,none,n,.Ag nb cs⟩::r) e J Q=WD d λv=>WD (jF nb cs J) λy=>WO O r ((v,.own (tT e v) y.1)::e) y.2 Q:=by
 cases d with
 |none=>simp[WO,kK,vn]
 |some v=>cases h:jF nb cs J with
  |none=>simp[WO,kK,vn,h]
  |some y=>obtain⟨a,b⟩:=y;simp only[WO,kK,vn,h,Option.bind_some,Da]
@[simp,simp ↓] theorem abm{x:bD}:WO O (⟨d,none,n,.D6 x⟩::r) e J Q=WD d λv=>WD (ba e x).cells λcs=>WO O r ((v,.own (tT e v) cs)::e) J Q:=by
 cases d with
 |none=>simp[WO,kK,vn]
 |some v=>cases h:(ba e x).cells with
  |none=>simp[WO,kK,vn,h]
  |some y=>simp only[WO,kK,vn,h,Option.bind_some,Da]
def Yb(e:Env)(J:SK)(v:Nat)(nb:List (Nat×Nat))(sz a:Nat)(x:bD):Option (D×SK) :=
 match rq e v a,(ba e x).cells with
 |some (s,cs,off),some p =>
  if p.length=sz/\off+sz<=cs.length then
   match jF nb p J with
   |some (p',J')=>some (.own s (cs.take off++p'++cs.drop (off+sz)),J')
   |none=>none
  else none
 |_,_=>none
@[simp,simp ↓] theorem acD{v:Nat}{nb:List (Nat×Nat)}{sz a:Nat}{x:bD}:WO O (⟨d,none,n,.G6 v nb sz a x⟩::r) e J Q =
  WV (Yb e J v nb sz a x) λy J'=>WO O r ((v,y)::e) J' Q:=by
 simp only[WO,kK,vn,Yb];cases h1:rq e v a with
 |none=>simp
 |some p =>
  obtain⟨s,cs,off⟩:=p;cases h2:(ba e x).cells with
  |none=>simp
  |some p =>
   dsimp only;split
   .cases h3:jF nb p J with
    |none=>simp
    |some y=>obtain⟨a,b⟩:=y;simp[WO]
   .simp
end ops
section code
variable {e:Env} {J:SK} {Q:Exit->Env->SK->Prop}
@[simp,simp ↓] theorem ab7:WC O .FB e J Q=Q .normal e J:=by
 simp only[WC,aV,ad,aj,eq_iff_iff];exact⟨λ⟨_,_,_,⟨h1,h2,h3⟩,h⟩=>by subst h1 h2 h3;exact h,λh=>⟨_,_,_,⟨rfl,rfl,rfl⟩,h⟩⟩
@[simp,simp ↓] theorem ab5{vs:List Nat}:WC O (.cn vs) e J Q=Q .normal (uo vs e J).1 (uo vs e J).2:=by
 simp only[WC,aV,ad,aj,eq_iff_iff];exact⟨λ⟨_,_,_,⟨h1,h2,h3⟩,h⟩=>by subst h1 h2 h3;exact h,λh=>⟨_,_,_,⟨rfl,rfl,rfl⟩,h⟩⟩
@[simp,simp ↓] theorem abh{i:Nat}:WC O (.exit i) e J Q=Q (.exit i) e J:=by
 simp only[WC,aV,ad,aj,eq_iff_iff];exact⟨λ⟨_,_,_,⟨h1,h2,h3⟩,h⟩=>by subst h1 h2 h3;exact h,λh=>⟨_,_,_,⟨rfl,rfl,rfl⟩,h⟩⟩
@[simp,simp ↓] theorem ab9:WC O .ret e J Q=Q .ret e J:=by
 simp only[WC,aV,ad,aj,eq_iff_iff];exact⟨λ⟨_,_,_,⟨h1,h2,h3⟩,h⟩=>by subst h1 h2 h3;exact h,λh=>⟨_,_,_,⟨rfl,rfl,rfl⟩,h⟩⟩
@[simp,simp ↓] theorem ab8{live:List Nat}{ops:List Op}:WC O (.sy live ops) e J Q=WO O ops e J λe' J'=>Q .normal (restrict live e') J':=by
 simp only[WC,aV,WO,ab,aj,eq_iff_iff];constructor
 .rintro⟨x,e',J',⟨⟨e1,J1⟩,h1,rfl,rfl,rfl⟩,h⟩;exact⟨e1,J1,h1,h⟩
 .rintro⟨e',J',h1,h⟩;exact⟨_,_,_,⟨⟨e',J'⟩,h1,rfl,rfl,rfl⟩,h⟩
def Lf(O:bI)(b:bX)(Q:Exit->Env->SK->Prop)(_m:Mark b:=.mk)(_m':Mark Q:=.mk):Exit->Env->SK->Prop
 |.normal,e,J=>WC O b e J Q
 |.exit i,e,J=>Q (.exit i) e J
 |.ret,e,J=>Q .ret e J
 |.eA d,e,J=>Q (.eA d) e J
@[simp,simp ↓] theorem Y3{b:bX}{d:D}:Lf O b Q .mk .mk (.eA d) e J=Q (.eA d) e J:=aB rfl
@[simp,simp ↓] theorem UK{b:bX}:Lf O b Q .mk .mk .normal e J=WC O b e J Q:=aB rfl
@[simp,simp ↓] theorem Ye{b:bX}{i:Nat}:Lf O b Q .mk .mk (.exit i) e J=Q (.exit i) e J:=aB rfl
@[simp,simp ↓] theorem Y2{b:bX}:Lf O b Q .mk .mk .ret e J=Q .ret e J:=aB rfl
@[simp,simp ↓] theorem aca{a b:bX}:WC O (.seq a b) e J Q=WC O a e J (Lf O b Q .mk .mk):=by
 simp only[WC,aV,af,eq_iff_iff];constructor
 .rintro⟨x,e',J',⟨⟨x1,e1,J1⟩,h1,h2⟩,h⟩;refine⟨x1,e1,J1,h1,?_⟩;cases x1 with
  |normal=>exact⟨x,e',J',h2,h⟩
  |exit i=>cases h2;exact h
  |ret=>cases h2;exact h
  |eA d=>cases h2;exact h
 .rintro⟨x1,e1,J1,h1,h⟩;cases x1 with
  |normal=>obtain⟨x,e',J',h2,h3⟩:=h;exact⟨x,e',J',⟨_,h1,h2⟩,h3⟩
  |exit i=>exact⟨_,_,_,⟨_,h1,rfl⟩,h⟩
  |ret=>exact⟨_,_,_,⟨_,h1,rfl⟩,h⟩
  |eA d=>exact⟨_,_,_,⟨_,h1,rfl⟩,h⟩
@[simp,simp ↓] theorem ab6{c:bD}{a b:bX}:WC O (.ite c a b) e J Q=WD (Kc (ba e c)) λt=>if t=true then WC O a e J Q else WC O b e J Q:=by
 simp only[WC,aV];cases ba e c<;>simp[Kc];rename_i t;cases t<;>simp
def Mp(id:Nat)(Q:Exit->Env->SK->Prop)(_m:Mark Q:=.mk):Exit->Env->SK->Prop
 |.normal,e,J=>Q .normal e J
 |.exit i,e,J=>if i=id then Q .normal e J else Q (.exit i) e J
 |.ret,e,J=>Q .ret e J
 |.eA d,e,J=>Q (.eA d) e J
@[simp,simp ↓] theorem aaa{id:Nat}{d:D}:Mp id Q .mk (.eA d) e J=Q (.eA d) e J:=aB rfl
@[simp,simp ↓] theorem Vg{id:Nat}:Mp id Q .mk .normal e J=Q .normal e J:=aB rfl
@[simp,simp ↓] theorem YL{id i:Nat}:Mp id Q .mk (.exit i) e J=if i=id then Q .normal e J else Q (.exit i) e J:=aB rfl
@[simp,simp ↓] theorem Z9{id:Nat}:Mp id Q .mk .ret e J=Q .ret e J:=aB rfl
@[simp,simp ↓] theorem ab4{id:Nat}{a:bX}:WC O (.cT id a) e J Q=WC O a e J (Mp id Q .mk):=by
 simp only[WC,aV,ab,eq_iff_iff];constructor
 .rintro⟨x,e',J',⟨⟨x1,e1,J1⟩,h1,h2⟩,h⟩;refine⟨x1,e1,J1,h1,?_⟩;cases x1 with
  |normal=>cases h2;exact h
  |exit i =>
   simp only[Mp];dsimp only at h2;split at h2<;>cases h2
   .rw[if_pos (by assumption)];exact h
   .rw[if_neg (by assumption)];exact h
  |ret=>cases h2;exact h
  |eA d=>cases h2;exact h
 .rintro⟨x1,e1,J1,h1,h⟩;cases x1 with
  |normal=>exact⟨_,_,_,⟨_,h1,rfl⟩,h⟩
  |exit i =>
   simp only[Mp]at h;split at h
   .exact⟨_,_,_,⟨_,h1,by dsimp only;rw[if_pos (by assumption)]⟩,h⟩
   .exact⟨_,_,_,⟨_,h1,by dsimp only;rw[if_neg (by assumption)]⟩,h⟩
  |ret=>exact⟨_,_,_,⟨_,h1,rfl⟩,h⟩
  |eA d=>exact⟨_,_,_,⟨_,h1,rfl⟩,h⟩
theorem OD(d:D):d.calm.calm=d.calm:=by cases d<;>rfl
theorem Hz{live:List Nat}{e:Env}{t:Nat}:get (restrict live e) t=if t∈live then(get e t).calm else .undef:=by
 induction live with
 |nil=>simp[restrict,get]
 |cons a l ih =>
  simp only[restrict,aN,get,bw];by_cases h:a=t
  .subst h;simp
  .have h':¬t=a:=λx=>h x.symm
   simp only[if_neg h,h',false_or];exact ih
theorem xK{live:List Nat}{e:Env}:restrict live (restrict live e)=restrict live e:=by
 simp only[restrict,List.map_inj_left,aj,true_and];intro t ht;have:=Hz (live:=live) (e:=e) (t:=t);simp only[restrict]at this;rw[this,if_pos ht,OD]
theorem vH{live:List Nat}{bk:Bool}{c:bX}:cI T O (.loop live bk c (restrict live e) J)=cI T O (.loop live bk c e J):=by
 simp only[cI,xK]
theorem xF{live:List Nat}{bk:Bool}{c:bX}{r:R}(h:lim T (.loop live bk c (restrict live e) J)=some r):lim T (.loop live bk c e J)=some r:=by
 obtain⟨n,h⟩:=tL.1 h;cases n with
 |zero=>cases h
 |succ n =>
  rw[it,vH]at h;exact tL.2 ⟨n+1,h⟩
theorem CH{live:List Nat}{bk:Bool}{c:bX}{r:R}(h:lim T (.loop live bk c e J)=some r):lim T (.loop live bk c (restrict live e) J)=some r:=by
 obtain⟨n,h⟩:=tL.1 h;cases n with
 |zero=>cases h
 |succ n =>
  rw[it,<- vH]at h;exact tL.2 ⟨n+1,h⟩
theorem LX{r:Option R}{x:Exit}{e:Env}{J:SK}(h:R.OG r=some (x,e,J)):r=some (.B6 x e J):=by
 unfold R.OG at h;split at h
 .cases h;rfl
 .cases h
@[simp,simp ↓] theorem abi{live:List Nat}{bk:Bool}{c:bX}:WC (lim T) (.loop live bk c) e J Q=WL T live bk c (restrict live e) J Q:=by
 simp only[WC,aV,WL,eq_iff_iff];constructor
 .rintro⟨x,e',J',h1,h⟩;cases hl:lim T (.loop live bk c e J)with
  |none=>rw[hl]at h1;cases h1
  |some r =>
   rw[hl]at h1;cases r<;>cases h1;exact⟨_,_,_,CH hl,h⟩
 .rintro⟨x,e',J',h1,h⟩;exact⟨x,e',J',by rw[xF h1];rfl,h⟩
def KY(T:zQ)(live:List Nat)(c:bX)(Q:Exit->Env->SK->Prop)(_m:Mark c:=.mk)(_m':Mark Q:=.mk):Exit->Env->SK->Prop
 |.normal,e,J=>WL T live false c (restrict live e) J Q
 |.exit i,e,J=>Q (.exit i) e J
 |.ret,e,J=>Q .ret e J
 |.eA d,e,J=>Q (.eA d) e J
@[simp,simp ↓] theorem YJ{live:List Nat}{c:bX}{d:D}:KY T live c Q .mk .mk (.eA d) e J=Q (.eA d) e J:=aB rfl
@[simp,simp ↓] theorem Ua{live:List Nat}{c:bX}:KY T live c Q .mk .mk .normal e J=WL T live false c (restrict live e) J Q:=aB rfl
@[simp,simp ↓] theorem W3{live:List Nat}{c:bX}{i:Nat}:KY T live c Q .mk .mk (.exit i) e J=Q (.exit i) e J:=aB rfl
@[simp,simp ↓] theorem YI{live:List Nat}{c:bX}:KY T live c Q .mk .mk .ret e J=Q .ret e J:=aB rfl
theorem aJ{live:List Nat}{c c':bX}(hc:c=c')(h:WC (lim T) c' (restrict live e) J (KY T live c Q .mk .mk)):WL T live false c e J Q:=by
 rw[<- hc]at h;obtain⟨x,e1,J1,h1,h2⟩:=h;cases x with
 |normal =>
  obtain⟨x,e',J',h3,h4⟩:=h2;exact⟨x,e',J',fZ (by simp[cI,h1,xF h3]),h4⟩
 |exit i=>exact⟨_,_,_,fZ (by simp[cI,h1]),h2⟩
 |ret=>exact⟨_,_,_,fZ (by simp[cI,h1]),h2⟩
 |eA d=>exact⟨_,_,_,fZ (by simp[cI,h1]),h2⟩
def L4(J:SK)(res:List CQ)(d:D)(x:Exit)(e:Env)(J1:SK):Prop :=
 (∀i,x ≠ .exit i)/\(∀d,x ≠ .eA d)/\∃ds,yQ e J1 res=some ds/\∃s,cn (J.length-1) deep (tM ds) J1=(d,s::J)
@[simp,simp ↓] theorem U2{J1:SK}{res:List CQ}{d:D}:L4 J res d .normal e J1=∃ds,yQ e J1 res=some ds/\∃s,cn (J.length-1) deep (tM ds) J1=(d,s::J):=by simp[L4]
@[simp,simp ↓] theorem ZF{J1:SK}{res:List CQ}{d:D}:L4 J res d .ret e J1=∃ds,yQ e J1 res=some ds/\∃s,cn (J.length-1) deep (tM ds) J1=(d,s::J):=by simp[L4]
theorem au{f:Nat}{fn:Fn}{args:List D}{J:SK}{d:D}{np:Nat}{res:List CQ}{body:bX}(hT:T f=some fn)(hf:fn=⟨np,res,body⟩)(hl:args.length=np)
  (h:WC (lim T) body (kQ 0 args) ([]::J) (L4 J res d)):
  lim T (.call false f args J)=some (.val d J):=by
 subst hf;obtain⟨x,e1,J1,h1,h2,h2',ds,h3,s,h4⟩:=h;refine fZ ?_;simp only[cI,hT,if_pos hl,ar,if_false,h1];cases x with
 |exit i=>exact absurd rfl (h2 i)
 |eA d=>exact absurd rfl (h2' d)
 |normal=>simp[h3,h4]
 |ret=>simp[h3,h4]
theorem abA{f:Nat}{fn:Fn}{args:List D}{J:SK}{d:D}{np:Nat}{res:List CQ}{body:bX}(h:WC (lim T) body (kQ 0 args) ([]::J) (L4 J res d))(hT:T f=some fn:=by exact rfl)(hf:fn=⟨np,res,body⟩:=by exact rfl)(hl:args.length=np:=by exact rfl):lim T (.call false f args J)=some (.val d J):=au hT hf hl h
def Wz(J:SK)(d:D)(x:Exit)(e:Env)(J1:SK):Prop:=x=.eA d/\d.clean=true/\∃s,J1=s::J
@[simp,simp ↓] theorem ZH{J1:SK}{d d':D}:Wz J d (.eA d') e J1=(d'=d/\d.clean=true/\∃s,J1=s::J):=by simp[Wz]
theorem di{f:Nat}{fn:Fn}{args:List D}{J:SK}{d:D}{np:Nat}{res:List CQ}{body:bX}(hT:T f=some fn)(hf:fn=⟨np,res,body⟩)(hl:args.length=np)
  (h:WC (lim T) body (kQ 0 args) ([]::J) (Wz J d)):
  lim T (.call false f args J)=some (.eA d J):=by
 subst hf;obtain⟨x,e1,J1,h1,rfl,hc,s,rfl⟩:=h;refine fZ ?_;simp only[cI,hT,if_pos hl,ar,if_false,h1];simp[MQ,hc]
def WR(r:Option R)(Qn Qt:D->SK->Prop)(_m:Mark Qn:=.mk)(_m':Mark Qt:=.mk):Prop:=(∃d J',r=some (.val d J')/\Qn d J')\/∃d J',r=some (.eA d J')/\Qt d J'
@[simp,simp ↓] theorem Wl{d:D}{J':SK}{Qn Qt:D->SK->Prop}:WR (some (.val d J')) Qn Qt=Qn d J':=by
 simp only[WR,ad,R.val.injEq,reduceCtorEq,false_and,exists_false,or_false,eq_iff_iff];exact⟨λ⟨_,_,⟨h1,h2⟩,h⟩=>by subst h1 h2;exact h,λh=>⟨_,_,⟨rfl,rfl⟩,h⟩⟩
@[simp,simp ↓] theorem Wk{d:D}{J':SK}{Qn Qt:D->SK->Prop}:WR (some (.eA d J')) Qn Qt=Qt d J':=by
 simp only[WR,ad,R.eA.injEq,reduceCtorEq,false_and,exists_false,false_or,eq_iff_iff];exact⟨λ⟨_,_,⟨h1,h2⟩,h⟩=>by subst h1 h2;exact h,λh=>⟨_,_,⟨rfl,rfl⟩,h⟩⟩
def Xa:D->Option D
 |.tK t d=>if d.clean then some (.tK t d)else none
 |_=>none
@[simp] theorem KZ{t:Nat}{d:D}:Xa (.tK t d)=if d.clean then some (.tK t d)else none:=aB rfl
@[simp] theorem Zz{O:bI}{f:Nat}{first cap args:List D}{J:SK}:zR O (.fn f first cap) args J=O (.call false f (first++args++cap) J):=aB rfl
@[simp,simp ↓] theorem Tx{live:List Nat}{pre post:List Op}{dst:Option Nat}{n:Bool}{f:bD}{args:List bD}:WC O (.Lh live pre ⟨dst,none,n,.call false f args⟩ post) e J Q =
  WO O pre e J λe1 J1=>WR (zR O (ba e1 f) (args.map (ba e1)) J1) (λd J2=>WO O post (put dst d e1) J2 λe' J'=>Q .normal (restrict live e') J') (λd J2=>Q (.eA d) e1 J2):=by
 simp only[WC,WO,aV,Ff,af,eq_iff_iff];constructor
 .rintro⟨x,e',J',⟨⟨e1,J1⟩,h1,h2⟩,h⟩;refine⟨e1,J1,h1,?_⟩;dsimp only at h2;cases hc:zR O (ba e1 f) (args.map (ba e1)) J1 with
  |none=>rw[hc]at h2;simp[tZ]at h2
  |some r =>
   rw[hc]at h2;cases r with
   |B6=>simp[tZ]at h2
   |eA d J2=>simp only[tZ,ad,aj]at h2;obtain⟨rfl,rfl,rfl⟩:=h2;rw[Wk];exact h
   |val d J2 =>
    simp only[tZ,ab]at h2;obtain⟨⟨e3,J3⟩,h3,h4⟩:=h2;cases h4;rw[Wl];exact⟨e3,J3,h3,h⟩
 .rintro⟨e1,J1,h1,h⟩;rcases h with⟨d,J2,h2,e3,J3,h3,h4⟩ | ⟨d,J2,h2,h4⟩
  .exact⟨.normal,_,J3,⟨(e1,J1),h1,by simp only[h2,tZ,h3,aQ]⟩,h4⟩
  .exact⟨.eA d,e1,J2,⟨(e1,J1),h1,by simp only[h2,tZ]⟩,h4⟩
@[simp,simp ↓] theorem UZ{live:List Nat}{pre post:List Op}{dst:Option Nat}{n:Bool}{x:bD}:WC O (.Lh live pre ⟨dst,none,n,.RM x⟩ post) e J Q =
  WO O pre e J λe1 J1=>WD (Xa (ba e1 x)) λd=>Q (.eA d) e1 J1:=by
 simp only[WC,WO,aV,Ff,af,eq_iff_iff];constructor
 .rintro⟨x',e',J',⟨⟨e1,J1⟩,h1,h2⟩,h⟩;refine⟨e1,J1,h1,?_⟩;dsimp only at h2;cases hx:ba e1 x<;>rw[hx]at h2<;>try (cases h2;done)
  dsimp only at h2;split at h2
  .rename_i hc;cases h2;simp only[KZ,hc,if_true,Da];exact h
  .cases h2
 .rintro⟨e1,J1,h1,d,h2,h⟩;refine⟨.eA d,e1,J1,⟨(e1,J1),h1,?_⟩,h⟩;dsimp only;cases hx:ba e1 x<;>rw[hx]at h2<;>try (cases h2;done)
  simp only[KZ]at h2;split at h2
  .rename_i hc;cases h2;simp[hc]
  .cases h2
def WM(T:zQ)(live:List Nat)(it:bD)(nx ok b:Nat)(c rest:bX)(e:Env)(J:SK)(Q:Exit->Env->SK->Prop)(_m:Mark c:=.mk)(_m':Mark rest:=.mk)(_m'':Mark Q:=.mk):Prop:=∃x e' J',lim T (.gv live it nx ok b c rest e J)=some (.B6 x e' J')/\Q x e' J'
theorem WM.mono{live:List Nat}{it:bD}{nx ok b:Nat}{c rest:bX}{Q':Exit->Env->SK->Prop}(h:WM T live it nx ok b c rest e J Q)(hq:∀x e J,Q x e J->Q' x e J):WM T live it nx ok b c rest e J Q' :=
 let ⟨x,e',J',h1,h2⟩:=h;⟨x,e',J',h1,hq _ _ _ h2⟩
theorem vm{live:List Nat}{it:bD}{nx ok b:Nat}{c rest:bX}:cI T O (.gv live it nx ok b c rest (restrict live e) J)=cI T O (.gv live it nx ok b c rest e J):=by
 simp only[cI,xK]
theorem sH{live:List Nat}{it:bD}{nx ok b:Nat}{c rest:bX}{r:R}:lim T (.gv live it nx ok b c rest (restrict live e) J)=some r↔lim T (.gv live it nx ok b c rest e J)=some r:=by
 constructor<;>intro h<;>obtain⟨n,h⟩:=tL.1 h<;>cases n<;>first | (cases h;done) | skip
 .rw[az.it,vm]at h;exact tL.2 ⟨_+1,h⟩
 .rw[az.it,<- vm]at h;exact tL.2 ⟨_+1,h⟩
@[simp,simp ↓] theorem Zi{live:List Nat}{it:bD}{nx ok b:Nat}{c rest:bX}:WC (lim T) (.gv live it nx ok b c rest) e J Q=WM T live it nx ok b c rest (restrict live e) J Q:=by
 simp only[WC,aV,WM,eq_iff_iff];constructor
 .rintro⟨x,e',J',h1,h⟩;exact⟨_,_,_,sH.2 (LX h1),h⟩
 .rintro⟨x,e',J',h1,h⟩;exact⟨x,e',J',by rw[sH.1 h1];rfl,h⟩
def Ij(T:zQ)(live:List Nat)(it:bD)(l i nx ok b:Nat)(c rest:bX)(r:R)(_m:Mark c:=.mk)(_m':Mark rest:=.mk):Exit->Env->SK->Prop
 |.normal,e,J=>lim T (.gv live it nx ok b c rest (restrict live e) J)=some r
 |.exit j,e,J=>if j=b then WC (lim T) rest e (aR J l i .dead) λx e' J'=>r=.B6 x e' J' else r=.B6 (.exit j) e (aR J l i .dead)
 |.ret,e,J=>r=.B6 .ret e (aR J l i .dead)
 |.eA _,_,_=>False
@[simp,simp ↓] theorem Ub{live:List Nat}{it:bD}{l i nx ok b:Nat}{c rest:bX}{r:R}:Ij T live it l i nx ok b c rest r .mk .mk .normal e J=(lim T (.gv live it nx ok b c rest (restrict live e) J)=some r):=aB rfl
@[simp,simp ↓] theorem Ml{live:List Nat}{it:bD}{l i nx ok b j:Nat}{c rest:bX}{r:R}:Ij T live it l i nx ok b c rest r .mk .mk (.exit j) e J=if j=b then WC (lim T) rest e (aR J l i .dead) λx e' J'=>r=.B6 x e' J' else r=.B6 (.exit j) e (aR J l i .dead):=aB rfl
@[simp,simp ↓] theorem Pe{live:List Nat}{it:bD}{l i nx ok b:Nat}{c rest:bX}{r:R}:Ij T live it l i nx ok b c rest r .mk .mk .ret e J=(r=.B6 .ret e (aR J l i .dead)):=aB rfl
theorem Jf{l i b:Nat}{rest:bX}{r:R}{x:Exit}{e1:Env}{J1:SK}{live:List Nat}{it:bD}{nx ok:Nat}{c:bX}(hx:x ≠ .normal)(h:Ij T live it l i nx ok b c rest r .mk .mk x e1 J1):wL (lim T) l i b rest (some (x,e1,J1))=some r:=by
 cases x with
 |normal=>exact absurd rfl hx
 |eA d=>exact h.elim
 |ret=>simp only[Pe]at h;subst h;rfl
 |exit j =>
  simp only[Ml]at h;simp only[wL];split at h
  .rename_i hj;obtain⟨x',e',J',h1,rfl⟩:=h;rw[if_pos hj,h1];rfl
  .rename_i hj;subst h;rw[if_neg hj]
theorem RC{live:List Nat}{it:bD}{l i nx ok b:Nat}{c c' rest rest':bX}{r:R}{m:D}{n:Nat}{js:List D}{us:List Nat}(hcc:c=c')(hrr:rest=rest')(hit:ba (restrict live e) it=.kJ l i)(hd:EX J l i=some (m,n,js,us))(hne:us≠[])
  (h:∀u∈us,WC (lim T) c' ((ok,.bool true)::(nx,.undef)::restrict live e) (aR J l i (.cells 1 (m::.int .i64 (n:Nat)::.int .i64 (u:Nat)::js))) (Ij T live it l i nx ok b c rest' r .mk .mk)):
  lim T (.gv live it nx ok b c rest e J)=some r:=by
 subst hcc hrr;refine fZ ?_;simp only[cI,hit,hd];have key:∀u∈us,zY (lim T) live it l i nx ok b c rest (aV (lim T) c ((ok,.bool true)::(nx,.undef)::restrict live e) (aR J l i (.cells 1 (m::.int .i64 (n:Nat)::.int .i64 (u:Nat)::js))))=some r:=by
  intro u hu;obtain⟨x,e1,J1,h1,h2⟩:=h u hu;rw[h1];cases x with
  |normal=>exact sH.1 h2
  |exit j=>exact Jf (x:=.exit j) (by simp) h2
  |ret=>exact Jf (x:=.ret) (by simp) h2
  |eA d=>exact h2.elim
 cases us with
 |nil=>exact absurd rfl hne
 |cons u us=>exact HO (by simp) key
theorem Pb{live:List Nat}{it:bD}{l i nx ok b:Nat}{c c' rest rest':bX}{r:R}{m:D}{n:Nat}{js:List D}(hcc:c=c')(hrr:rest=rest')(hit:ba (restrict live e) it=.kJ l i)(hd:EX J l i=some (m,n,js,[]))
  (h:WC (lim T) c' ((ok,.bool false)::(nx,.undef)::restrict live e) J λx e1 J1=>x ≠ .normal/\Ij T live it l i nx ok b c rest' r .mk .mk x e1 J1):
  lim T (.gv live it nx ok b c rest e J)=some r:=by
 subst hcc hrr;refine fZ ?_;simp only[cI,hit,hd];obtain⟨x,e1,J1,h1,hx,h2⟩:=h;rw[h1];exact Jf hx h2
def Yd:Exit->Option (Option D)
 |.normal=>some none
 |.ret=>some none
 |.eA d=>some (some d)
 |.exit _=>none
@[simp] theorem aa9:Yd .ret=some none:=aB rfl
@[simp] theorem aba{d:D}:Yd (.eA d)=some (some d):=aB rfl
noncomputable def vo(T:zQ)(fv:D)(args:List D)(th:Option D)(J:SK):Option SK :=
 match pA (lim T) fv args th J with
 |some (.val _ J')=>some J'
 |_=>none
theorem ui{f:Nat}{first cap args:List D}{th:Option D}{J J':SK}{d:D}(h:lim T (.xe f (first++args++cap) th J)=some (.val d J')):vo T (.fn f first cap) args th J=some J':=by
 simp only[vo,pA,h]
def Ah(T:zQ)(fv:D)(args:List D)(J:SK)(res:List CQ)(d:D)(x:Exit)(e:Env)(J1:SK):Prop :=
 WD (Yd x) λth=>WD (vo T fv args th J1) λJ2=>∃ds,yQ e J2 res=some ds/\∃s,cn (J.length-1) deep (tM ds) J2=(d,s::J)
def JH(T:zQ)(f:bD)(args:List bD)(q:bX)(J:SK)(res:List CQ)(d:D)(x:Exit)(e:Env)(J1:SK)(_m:Mark q:=.mk):Prop :=
 x=.normal/\WC (lim T) q e J1 (Ah T (ba e f) (args.map (ba e)) J res d)
theorem Ke{f:Nat}{fn:Fn}{args:List D}{J:SK}{d:D}{np:Nat}{res:List CQ}{body A q:bX}{fo:bD}{as:List bD}(hT:T f=some fn)(hf:fn=⟨np,res,body⟩)(hl:args.length=np)(hs:gG body=some (A,fo,as,q))
  (h:WC (lim T) A (kQ 0 args) ([]::J) (JH T fo as q J res d)):
  lim T (.call false f args J)=some (.val d J):=by
 subst hf;obtain⟨x,e1,J1,h1,rfl,x2,e2,J2,h2,th,h3,J3,h4,ds,h5,s,h6⟩:=h;refine fZ ?_;have hn:aV (lim T) body (kQ 0 args) ([]::J)=none:=xM hs h1;simp only[cI,hT,if_pos hl,ar,if_false,hn,hs,yE,h1,h2];have h4':∃dv,pA (lim T) (ba e1 fo) (as.map (ba e1)) th J2=some (.val dv J3):=by
  unfold vo at h4;split at h4
  .rename_i h7;cases h4;exact⟨_,h7⟩
  .cases h4
 obtain⟨dv,h4'⟩:=h4';cases x2 with
 |exit i=>cases h3
 |normal=>cases h3;simp only[yF,h4',uj,leave,h5,h6]
 |ret=>cases h3;simp only[yF,h4',uj,leave,h5,h6]
 |eA d=>cases h3;simp only[yF,h4',uj,leave,h5,h6]
def WA(J':SK)(res:List CQ)(x:Exit)(e:Env)(J1:SK):Prop :=
 (∀i,x ≠ .exit i)/\(∀d,x ≠ .eA d)/\yQ e J1 res=some []/\∃s,J1=s::J'
@[simp,simp ↓] theorem U4{J' J1:SK}{res:List CQ}:WA J' res .normal e J1=(yQ e J1 res=some []/\∃s,J1=s::J'):=by simp[WA]
theorem AB{f:Nat}{fn:Fn}{args:List D}{th:Option D}{J J':SK}{np:Nat}{res:List CQ}{body q:bX}{e0:Env}(hT:T f=some fn)(hf:fn=⟨np,res,body⟩)(hl:args.length=np)(hr:rG th args body=some (e0,q))
  (h:WC (lim T) q e0 ([]::J) (WA J' res)):lim T (.xe f args th J)=some (.val (.dj []) J'):=by
 subst hf;obtain⟨x,e1,J1,h1,h2,h2',h3,s,rfl⟩:=h;refine fZ ?_;simp only[cI,hT,if_pos hl,hr,h1];cases x with
 |exit i=>exact absurd rfl (h2 i)
 |eA d=>exact absurd rfl (h2' d)
 |normal=>simp[h3]
 |ret=>simp[h3]
end code
@[simp] theorem ZU{k t:Nat}{v:D}{r:Env}:get ((k,v)::r) t=if k=t then v else get r t:=aB rfl
@[simp] theorem aak{t:Nat}{v:D}{e:Env}:put (some t) v e=(t,v)::e:=aB rfl
@[simp] theorem aaj{v:D}{e:Env}:put none v e=e:=aB rfl
@[simp] theorem Z8{e:Env}{n:Nat}:ba e (.t n)=(get e n).strip:=aB rfl
@[simp] theorem adt{e:Env}{d:D}:ba e (.c d)=d:=aB rfl
@[simp] theorem Up{e:Env}:restrict [] e=[]:=aB rfl
@[simp] theorem ad0{t:Nat}{l:List Nat}{e:Env}:restrict (t::l) e=(t,(get e t).calm)::restrict l e:=aB rfl
@[simp] theorem YE{n:Nat}:kQ n []=[]:=aB rfl
@[simp] theorem WW{n:Nat}{d:D}{ds:List D}:kQ n (d::ds)=(n,d)::kQ (n+1) ds:=aB rfl
section
variable {e:Env} {J:SK}
@[simp] theorem aaq:yQ e J []=some []:=aB rfl
@[simp] theorem YY{r:CQ}{rs:List CQ}:yQ e J (r::rs)=(GR e J r).bind λd=>(yQ e J rs).map λds=>d::ds:=aB rfl
@[simp] theorem ac0{n:Nat}:GR e J (.t n)=some (get e n).strip:=aB rfl
@[simp] theorem acZ{n sz:Nat}{ag:Bool}:GR e J (.c n ag sz)=Ln ag sz (Eo J (get e n).strip):=by
 simp only[GR,bG,Z8];cases Eo J (get e n).strip with
 |none=>rfl
 |some cs =>
  simp only[Ln];split
  .cases ag
   .cases cs<;>rfl
   .rfl
  .rfl
@[simp] theorem ac1{n sz:Nat}{ag:Bool}:GR e J (.v n ag sz)=Rk e n ag sz n:=by
 simp only[GR,bG,Rk];cases rq e n n with
 |none=>rfl
 |some x =>
  obtain⟨s,cs,off⟩:=x;simp only[Ln,aQ];split
  .cases ag
   .cases cs.drop off<;>rfl
   .rfl
  .rfl
@[simp] theorem YG{d:D}:tM [d]=d:=aB rfl
@[simp] theorem YF:tM []=.dj []:=aB rfl
@[simp] theorem YH{d d':D}{ds:List D}:tM (d::d'::ds)=.dj (d::d'::ds):=aB rfl
@[simp] theorem Yq{cs:List D}:rn e [] cs=some cs:=aB rfl
@[simp] theorem WI{off sz:Nat}{x:bD}{r:List (Nat×Nat×bD)}{cs:List D}:rn e ((off,sz,x)::r) cs =
  ((ba e x).cells.bind λp=>if p.length=sz/\off+sz<=cs.length then some (cs.take off++p++cs.drop (off+sz))else none).bind (rn e r):=by
 simp only[rn];cases(ba e x).cells with
 |none=>rfl
 |some p=>dsimp only [Option.bind_some];split<;>rfl
@[simp] theorem Ym{w n:Nat}{cs:List D}:elems J w (.aG n cs)=if cs.length=n*w then some (n,cs)else none:=aB rfl
end
attribute [simp] bG IW jF fJ rq tT Yb Rk Bi bounds D.row cells? dn eZ aR iu
@[simp] theorem Vn{b:Bool}:D.clean (.bool b)=true:=by rw[D.clean]
@[simp] theorem Xr{k:IntKind}{n:Int}:D.clean (.int k n)=true:=by rw[D.clean]
@[simp] theorem Xu{s:List UInt8}:D.clean (.str s)=true:=by rw[D.clean]
@[simp] theorem Vq:D.clean .bN=true:=by rw[D.clean]
@[simp] theorem Xq{t:Nat}{d:D}:D.clean (.tK t d)=D.clean d:=by rw[D.clean]
@[simp] theorem Vp:D.clean .pR=true:=by rw[D.clean]
@[simp] theorem YX{l i v o n w:Nat}:D.clean (.sl l i v o n w)=false:=by rw[D.clean]
@[simp] theorem Xp{cs:List D}:D.clean (.agg cs)=D.bx cs:=by rw[D.clean]
@[simp] theorem Xv{cs:List D}:D.clean (.dj cs)=D.bx cs:=by rw[D.clean]
@[simp] theorem Vo{cs:List D}:D.clean (.bu cs)=D.bx cs:=by rw[D.clean]
@[simp] theorem Xt{n:Nat}{cs:List D}:D.clean (.aG n cs)=D.bx cs:=by rw[D.clean]
@[simp] theorem YW{f:Nat}{a b:List D}:D.clean (.fn f a b)=(D.bx a && D.bx b):=by rw[D.clean]
@[simp] theorem Ws:D.bx []=true:=by rw[D.bx]
@[simp] theorem U1{d:D}{ds:List D}:D.bx (d::ds)=(D.clean d && D.bx ds):=by rw[D.bx]
@[simp] theorem QP:deep=16:=aB rfl
@[simp] theorem jX{l n:Nat}{d:D}{J:SK}(h:d.clean=true)(hn:0<n):cn l n d J=(d,J):=by
 obtain⟨m,rfl⟩:∃m,n=m+1:=⟨n-1,by omega⟩;unfold cn;simp[h]
@[simp] theorem WJ{l n:Nat}{ds:List D}{J:SK}(h:D.bx ds=true)(hn:0<n):cn.frzL (cn l n) ds J=(ds,J):=by
 induction ds generalizing J with
 |nil=>rfl
 |cons d ds ih =>
  simp only[D.bx,ae]at h;simp[cn.frzL,h.1,ih h.2,hn]
@[simp] theorem yI{f:D->SK->D×SK}{J:SK}:cn.frzL f [] J=([],J):=aB rfl
@[simp] theorem wg{f:D->SK->D×SK}{d:D}{ds:List D}{J:SK}:cn.frzL f (d::ds) J=((f d J).1::(cn.frzL f ds (f d J).2).1,(cn.frzL f ds (f d J).2).2):=aB rfl
theorem Dl{l n:Nat}{ds:List D}{J:SK}(h:D.bx ds=false)(hn:0<n):cn l n (.dj ds) J=(.dj (cn.frzL (cn l (n-1)) ds J).1,(cn.frzL (cn l (n-1)) ds J).2):=by
 obtain⟨m,rfl⟩:∃m,n=m+1:=⟨n-1,by omega⟩
 conv=>lhs;unfold cn
 simp[D.clean,h]
theorem I9{l n:Nat}{ds:List D}{J:SK}(h:D.bx ds=false)(hn:0<n):cn l n (.agg ds) J=(.agg (cn.frzL (cn l (n-1)) ds J).1,(cn.frzL (cn l (n-1)) ds J).2):=by
 obtain⟨m,rfl⟩:∃m,n=m+1:=⟨n-1,by omega⟩
 conv=>lhs;unfold cn
 simp[D.clean,h]
theorem AL{l n l' i v off m w:Nat}{J:SK}{cs:List D}(h:¬l'<=l)(hc:cells? J l' i v=some cs)(hn:0<n):
  cn l n (.sl l' i v off m w) J=(.aG m (cn.frzL (cn l (n-1)) ((cs.drop off).take (m*w)) (aR J l' i .dead)).1,(cn.frzL (cn l (n-1)) ((cs.drop off).take (m*w)) (aR J l' i .dead)).2):=by
 obtain⟨m,rfl⟩:∃m,n=m+1:=⟨n-1,by omega⟩
 conv=>lhs;unfold cn
 simp only[D.clean,h,hc,ar,if_false,Nat.add_sub_cancel]
@[simp] theorem WN{l n l' i v off m w:Nat}{J:SK}(h:l'<=l)(hn:0<n):cn l n (.sl l' i v off m w) J=(.sl l' i v off m w,J):=by
 obtain⟨m,rfl⟩:∃m,n=m+1:=⟨n-1,by omega⟩
 conv=>lhs;unfold cn
 simp only[D.clean,h,if_true,ar,if_false]
@[simp] theorem U6{l n l' i v off:Nat}{J:SK}(h:l'<=l)(hn:0<n):cn l n (.ref l' i v off) J=(.ref l' i v off,J):=by
 obtain⟨m,rfl⟩:∃m,n=m+1:=⟨n-1,by omega⟩
 conv=>lhs;unfold cn
 simp only[D.clean,h,if_true,ar,if_false]
@[simp] theorem acO{n:Nat}:(n+1+1=n)=False:=by simp;omega
@[simp] theorem acP{n:Nat}:(n+1+1+1=n)=False:=by simp;omega
@[simp] theorem acQ{n:Nat}:(n+1+1+1+1=n)=False:=by simp;omega
@[simp] theorem acR{n:Nat}:(n+1+1+1+1+1=n)=False:=by simp;omega
theorem B4{a b:List D}:D.bx (a++b)=(D.bx a && D.bx b):=by
 induction a with
 |nil=>rfl
 |cons d a ih=>simp[D.bx,ih,Bool.and_assoc]
end Go.az
