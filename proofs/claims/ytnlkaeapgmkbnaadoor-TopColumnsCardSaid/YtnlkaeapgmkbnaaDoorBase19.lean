import Derived.Test.YtnlkaeapgmkbnaaDoorBase12
import Derived.Lib.LaidTab
import Derived.LaidLaws
import Derived.Shelf.Vars
set_option linter.all false
namespace Go.Abs
open Go
theorem vn{P:Program}{w:World}:∀{l:List (String×DataW Unit)} {ps:List MemPlace},DataW.LaidVars P w l ps→∀x∈l,
  ∃g t cs fuel p,P.globalNamed x.1=some g∧(P.globals[g]?).map (·.type)=some t∧w.var? P x.1=some cs∧DataW.trod (fun _=>()) P w 0 (fun _=>true) false fuel t cs.toList=some (x.2,p) ∧
   ∀m∈MemPlace.row ⟨g,0,none⟩ cs.size,m∈ps
 |[],_,_,x,hx=>by cases hx
 |(n,d)::r,ps,h,x,hx=>by
  obtain⟨g,t,cs,fuel,p,q,h1,h2,h3,h4,h5,rfl⟩:=h;rcases aJ.1 hx with rfl | hx
  ·exact⟨g,t,cs,fuel,p,h1,h2,h3,h4,fun m hm=>by simp[hm]⟩
  ·obtain⟨g',t',cs',f',p',k1,k2,k3,k4,k5⟩:=vn h5 x hx;exact⟨g',t',cs',f',p',k1,k2,k3,k4,fun m hm=>by simp[k5 m hm]⟩
theorem vY{P:Program}{w:World}{l:List (String×DataW Unit)}(hl:laidMet P l w){n:String}{d:DataW Unit}(hx:(n,d)∈l){b t:Nat}(hb:P.globalNamed n=some b)(ht:(P.globals[b]?).map (·.type)=some t):
  ∃cs fuel p,DataW.trod (fun _=>()) P w 0 (fun _=>true) false fuel t cs.toList=some (d,p)∧(0<cs.size→∃t',w.heap[b]?=some (.cells cs t' (0,0))):=by
 obtain⟨ps,h1,_,h2⟩:=hl;obtain⟨g,t',cs,fuel,p,k1,k2,k3,k4,k5⟩:=vn h1 _ hx;obtain rfl:=Option.some.inj (hb.symm.trans k1);obtain rfl:=Option.some.inj (ht.symm.trans k2);refine⟨cs,fuel,p,k4,fun hpos=>?_⟩;obtain⟨⟨c,t',hc⟩,_⟩:=h2 b 0 (k5 _ (by simp only[MemPlace.row,bg,List.mem_range];exact⟨0,hpos,by simp⟩));simp only[World.var?,hb,Option.bind_some,hc,ad]at k3;subst k3;exact⟨t',hc⟩
theorem zJ{P:Program}{w:World}{l:List (String×DataW Unit)}(hl:laidMet P l w){n:String}(hx:(n,Lib.tabData .u64 Lib.pow10Tab)∈l){b t e k:Nat}(hb:P.globalNamed n=some b)
  (ht:(P.globals[b]?).map (·.type)=some t) (hu:P.underlying t=some (.array k e)) (he:P.underlying e=some (.int .u64)) (hce:P.cellsOf e=1) (hct:P.cellsOf t=k):
  ∃c t v,w.heap[b]?=some (.cells c t (0,0))∧c[0]?=some v∧v.oneCell'=true∧EZ (.cells c t (0,0)):=by
 obtain⟨cs,fuel,p,h1,h2⟩:=vY hl hx hb ht;have hcs:=Lib.cells_of_tab hu he hce hct h1;obtain rfl:cs=(Lib.pow10Tab.map (Value.int .u64)).toArray:=by rw[← dc,hcs]
 obtain⟨t',hc⟩:=h2 (by decide);exact⟨_,t',.int .u64 1,hc,rfl,rfl,t',_,rfl⟩
variable {T:lN} {O:aN}
theorem ao.{u}{α:Sort u}{a b:α}(h:a=b):a=b:=h
inductive Mark.{u} {α:Sort u} (a:α):Type
 |mk
def WO(O:aN)(ops:List Op)(e:Env)(σ:SK)(Q:Env→SK→Prop)(_m:Mark Q:=.mk):Prop:=∃e' σ',eN O ops e σ=some (e',σ')∧Q e' σ'
def WC(O:aN)(c:bC)(e:Env)(σ:SK)(Q:Exit→Env→SK→Prop)(_m:Mark c:=.mk)(_m':Mark Q:=.mk):Prop:=∃x e' σ',aA O c e σ=some (x,e',σ')∧Q x e' σ'
def WV(o:Option (D×SK))(Q:D→SK→Prop)(_m:Mark Q:=.mk):Prop:=∃d σ',o=some (d,σ')∧Q d σ'
def WL(T:lN)(live:List Nat)(kF:Bool)(c:bC)(e:Env)(σ:SK)(Q:Exit→Env→SK→Prop)(_m:Mark c:=.mk)(_m':Mark Q:=.mk):Prop:=∃x e' σ',lim T (.loop live kF c e σ)=some (.mF x e' σ')∧Q x e' σ'
theorem WO.mono{ops:List Op}{e:Env}{σ:SK}{Q Q':Env→SK→Prop}(h:WO O ops e σ Q)(hq:∀e σ,Q e σ→Q' e σ):WO O ops e σ Q' :=
 let ⟨e',σ',h1,h2⟩:=h;⟨e',σ',h1,hq _ _ h2⟩
theorem WC.mono{c:bC}{e:Env}{σ:SK}{Q Q':Exit→Env→SK→Prop}(h:WC O c e σ Q)(hq:∀x e σ,Q x e σ→Q' x e σ):WC O c e σ Q' :=
 let ⟨x,e',σ',h1,h2⟩:=h;⟨x,e',σ',h1,hq _ _ _ h2⟩
theorem WL.mono{live:List Nat}{kF:Bool}{c:bC}{e:Env}{σ:SK}{Q Q':Exit→Env→SK→Prop}(h:WL T live kF c e σ Q)(hq:∀x e σ,Q x e σ→Q' x e σ):WL T live kF c e σ Q' :=
 let ⟨x,e',σ',h1,h2⟩:=h;⟨x,e',σ',h1,hq _ _ _ h2⟩
def WD{α:Type}(o:Option α)(Q:α→Prop)(_m:Mark Q:=.mk):Prop:=∃d,o=some d∧Q d
@[simp,simp ↓] theorem u9{α:Type}{d:α}{Q:α→Prop}:WD (some d) Q=Q d:=by
 simp only[WD,ad,eq_iff_iff];exact⟨fun⟨_,h,h'⟩=>by rw[h];exact h',fun h=>⟨_,rfl,h⟩⟩
@[simp,simp ↓] theorem zu{α:Type}{Q:α→Prop}:WD none Q=False:=by simp[WD]
def tn:D→Option Bool
 |.bool b=>some b
 |_=>none
@[simp] theorem E6{b:Bool}:tn (.bool b)=some b:=ao rfl
@[simp] theorem Ip{b:Bool}:(D.bool b).bit=some (some b):=ao rfl
@[simp] theorem MF:(D.er []).bit=some none:=ao rfl
def Fb(k:IntKind):D→Option D
 |.int _ m=>some (.int k (k.wrap m))
 |_=>none
@[simp] theorem Iq{k k':IntKind}{m:Int}:Fb k (.int k' m)=some (.int k (k.wrap m)):=ao rfl
@[simp,simp ↓] theorem MD{d:D}{σ:SK}{Q:D→SK→Prop}:WV (some (d,σ)) Q=Q d σ:=by
 simp only[WV,ad,af,eq_iff_iff];constructor
 ·rintro⟨_,_,⟨rfl,rfl⟩,h⟩;exact h
 ·exact fun h=>⟨_,_,⟨rfl,rfl⟩,h⟩
@[simp,simp ↓] theorem MC{Q:D→SK→Prop}:WV none Q=False:=by simp[WV]
@[simp,simp ↓] theorem No{e:Env}{σ:SK}{Q:Env→SK→Prop}:WO O [] e σ Q=Q e σ:=by
 simp only[WO,eN,ad,af,eq_iff_iff];constructor
 ·rintro⟨_,_,⟨rfl,rfl⟩,h⟩;exact h
 ·exact fun h=>⟨_,_,⟨rfl,rfl⟩,h⟩
def N8(d:D)(w:Bool):Option Bool :=
 match d with
 |.bool b=>some (b == w)
 |_=>none
@[simp,simp ↓] theorem Nk{d:Option Nat}{g:Nat}{w n:Bool}{k:K}{r:List Op}{e:Env}{σ:SK}{Q:Env→SK→Prop}:
  WO O (⟨d,some (g,w),n,k⟩::r) e σ Q=WD (get e g).bit fun b=>if b=some w then WO O (⟨d,none,n,k⟩::r) e σ Q else WO O r (put d (.er []) e) σ Q:=by
 cases h:(get e g).bit<;>simp only[WO,eN,h,reduceCtorEq,false_and,exists_false,zu,u9];rename_i b;by_cases hb:b=some w
 ·simp only[hb,if_true];rfl
 ·simp only[if_neg hb]
theorem cV{d:Option Nat}{n:Bool}{k:K}{r:List Op}{e:Env}{σ:SK}{Q:Env→SK→Prop}(h:jF O ⟨d,none,n,k⟩ e σ=(aK e σ k).map fun x=>(put d x.1 e,x.2)):
  WO O (⟨d,none,n,k⟩::r) e σ Q=WV (aK e σ k) fun v σ'=>WO O r (put d v e) σ' Q:=by
 simp only[WO,eN,h,WV,eq_iff_iff];constructor
 ·rintro⟨e',σ',h1,h2⟩;cases hs:aK e σ k with
  |none=>simp[hs]at h1
  |some y=>simp[hs]at h1;exact⟨y.1,y.2,rfl,e',σ',h1,h2⟩
 ·rintro⟨v,σ1,h1,e',σ',h2,h3⟩;exact⟨e',σ',by simp[h1,h2],h3⟩
theorem gT{o:Option (D×SK)}{o':Option D}{σ:SK}{Q:D→SK→Prop}(h:o=o'.map (·,σ)):WV o Q=WD o' fun v=>Q v σ:=by
 subst h;cases o'<;>simp
def Gp:D→Option D
 |.cH=>some (.int .i64 0)
 |.ch n _=>some (.int .i64 n)
 |.sl _ _ _ _ n _=>some (.int .i64 n)
 |_=>none
@[simp] theorem Lq{n:Nat}{cs:List D}:Gp (.ch n cs)=some (.int .i64 n):=ao rfl
@[simp] theorem MN{l i v o n w:Nat}:Gp (.sl l i v o n w)=some (.int .i64 n):=ao rfl
def zR(ag:Bool)(sz:Nat):Option (List D)→Option D
 |some cs =>
  if sz≤cs.length then
   if ag then some (.agg (cs.take sz))else
   match cs with
   |d::_=>some d
   |[]=>none
  else none
 |none=>none
@[simp] theorem Nz{sz:Nat}{cs:List D}:zR true sz (some cs)=if sz≤cs.length then some (.agg (cs.take sz))else none:=ao rfl
@[simp] theorem MM{d:D}{cs:List D}:zR false 1 (some (d::cs))=some d:=by simp[zR]
@[simp] theorem LB{σ:SK}{cs:List D}:oX σ (.bE cs)=some cs:=ao rfl
@[simp] theorem MR{σ:SK}{l i v off:Nat}:oX σ (.ref l i v off)=(cells? σ l i v).map (·.drop off):=ao rfl
def yl(e:Env)(v:Nat)(ag:Bool)(sz a:Nat):Option D:=zR ag sz ((gK e v a).map fun x=>x.2.1.drop x.2.2)
def N6:D→Option (List D)
 |.bE cs=>some cs
 |_=>none
def OA:D→Option D
 |.bE cs=>some (.bE cs)
 |.ref l i v off=>some (.ref l i v off)
 |_=>none
def NT:UnOp→D→Option D
 |.not,.bool b=>some (.bool !b)
 |.neg,.int k n=>some (.int k (k.wrap (0-n)))
 |.xor,.int k n=>some (.int k (k.wrap ((BitVec.ofInt k.bits (if k.signed then -1 else k.max) ^^^ BitVec.ofInt k.bits n).toNat:Int)))
 |_,_=>none
@[simp] theorem MW{b:Bool}:NT .not (.bool b)=some (.bool !b):=ao rfl
@[simp] theorem MV{k:IntKind}{n:Int}:NT .neg (.int k n)=some (.int k (k.wrap (0-n))):=ao rfl
def tu(n off:Nat):D→Option D
 |.bE cs=>some (.bE (cs.drop off))
 |.ref l i v o=>some (.ref l i v (o+off))
 |.own s _=>some (.vr n s off)
 |.vr v s o=>some (.vr v s (o+off))
 |_=>none
@[simp] theorem F8{n off:Nat}{cs:List D}:tu n off (.bE cs)=some (.bE (cs.drop off)):=ao rfl
@[simp] theorem Hw{n off l i v o:Nat}:tu n off (.ref l i v o)=some (.ref l i v (o+off)):=ao rfl
@[simp] theorem Hv{n off s:Nat}{cs:List D}:tu n off (.own s cs)=some (.vr n s off):=ao rfl
@[simp] theorem Lf{n off v s o:Nat}:tu n off (.vr v s o)=some (.vr v s (o+off)):=ao rfl
def Ga(ag:Bool)(off sz:Nat):D→Option D
 |.agg cs =>
  if off+sz≤cs.length then
   if ag then some (.agg ((cs.drop off).take sz))else cs[off]?
  else none
 |_=>none
@[simp] theorem Lg{ag:Bool}{off sz:Nat}{cs:List D}:Ga ag off sz (.agg cs)=if off+sz≤cs.length then(if ag then some (.agg ((cs.drop off).take sz))else cs[off]?)else none:=ao rfl
def N9(m len w:Nat)(x i:D):Option D :=
 match oL i with
 |some n =>
  if 0≤n∧n<len then
   match x with
   |.bE cs=>some (.bE ((cs.drop (n.toNat*w)).take w))
   |.ref l j v off=>some (.ref l j v (off+n.toNat*w))
   |.own s _=>some (.vr m s (n.toNat*w))
   |.vr v s o=>some (.vr v s (o+n.toNat*w))
   |_=>none
  else none
 |none=>none
def vm(w:Nat)(x i:D):Option D :=
 match x,oL i with
 |.ch m cs,some n=>if 0≤n∧n<m then some (.bE ((cs.drop (n.toNat*w)).take w))else none
 |.sl l j v off m w',some n=>if 0≤n∧n<m∧w'=w then some (.ref l j v (off+n.toNat*w))else none
 |_,_=>none
@[simp] theorem HA{w m:Nat}{cs:List D}{k:IntKind}{n:Int}:vm w (.ch m cs) (.int k n)=if 0≤n∧n<m then some (.bE ((cs.drop (n.toNat*w)).take w))else none:=ao rfl
@[simp] theorem Ln{w l j v off m w':Nat}{k:IntKind}{n:Int}:vm w (.sl l j v off m w') (.int k n)=if 0≤n∧n<m∧w'=w then some (.ref l j v (off+n.toNat*w))else none:=ao rfl
def yb(ag:Bool)(len w:Nat)(x i:D):Option D :=
 match x,oL i with
 |.agg cs,some n =>
  if 0≤n∧n<len∧(n.toNat+1)*w≤cs.length then
   if ag then some (.agg ((cs.drop (n.toNat*w)).take w))else cs[n.toNat*w]?
  else none
 |_,_=>none
@[simp] theorem HB{ag:Bool}{len w:Nat}{cs:List D}{k:IntKind}{n:Int}:yb ag len w (.agg cs) (.int k n)=if 0≤n∧n<len∧(n.toNat+1)*w≤cs.length then(if ag then some (.agg ((cs.drop (n.toNat*w)).take w))else cs[n.toNat*w]?)else none:=ao rfl
def Ob(x y:D):Option D :=
 match x,y with
 |.int k a,.int _ b=>some (.int k (min a b))
 |_,_=>none
@[simp] theorem MO{k k':IntKind}{a b:Int}:Ob (.int k a) (.int k' b)=some (.int k (min a b)):=ao rfl
def Oc(x y:D):Option D :=
 match x,y with
 |.int k a,.int _ b=>some (.int k (max a b))
 |_,_=>none
@[simp] theorem MP{k k':IntKind}{a b:Int}:Oc (.int k a) (.int k' b)=some (.int k (max a b)):=ao rfl
def Iu(x:D)(i:Nat):Option D :=
 match x with
 |.er ds=>ds[i]?
 |_=>none
@[simp] theorem Iv{ds:List D}{i:Nat}:Iu (.er ds) i=ds[i]?:=ao rfl
def Fi(ag:Bool)(ks:List (Option IntKind))(neg:Bool)(x y:D):Option D :=
 match x.row ag,y.row ag with
 |some p,some q=>(kY ks p q).map fun b => .bool (if neg then !b else b)
 |_,_=>none
@[simp] theorem MI{ks:List (Option IntKind)}{neg:Bool}{p q:List D}:Fi true ks neg (.agg p) (.agg q)=(kY ks p q).map fun b => .bool (if neg then !b else b):=ao rfl
@[simp] theorem LD:kY [] [] []=some true:=ao rfl
@[simp] theorem LC{k k1 k2:IntKind}{ks:List (Option IntKind)}{a b:Int}{x y:List D}:kY (some k::ks) (.int k1 a::x) (.int k2 b::y)=if k1=k∧k2=k then(kY ks x y).map (a == b && ·)else none:=ao rfl
def OE(w:Nat)(x:D)(e:Env)(lo hi mx:Option aM):Option D :=
 match x with
 |.ch n cs=>(bounds n e lo hi mx).map fun b => .ch (b.2-b.1) ((cs.drop (b.1*w)).take ((b.2-b.1)*w))
 |.sl l i v off n w'=>if w'=w then(bounds n e lo hi mx).map fun b => .sl l i v (off+b.1*w) (b.2-b.1) w else none
 |.cH=>(bounds 0 e lo hi mx).map fun _ => .cH
 |_=>none
section bins
variable {k:IntKind} {a b:Int}
@[simp] theorem Ib:jk .add (.int k a) (.int k b)=some (.int k (k.wrap (a+b))):=by simp[jk]
@[simp] theorem Io:jk .sub (.int k a) (.int k b)=some (.int k (k.wrap (a-b))):=by simp[jk]
@[simp] theorem Ij:jk .mul (.int k a) (.int k b)=some (.int k (k.wrap (a*b))):=by simp[jk]
@[simp] theorem Il:jk .quo (.int k a) (.int k b)=if b≠0 then some (.int k (k.wrap (a.tdiv b)))else none:=by simp[jk]
@[simp] theorem Im:jk .rem (.int k a) (.int k b)=if b≠0 then some (.int k (a.tmod b))else none:=by simp[jk]
@[simp] theorem Ic:jk .eql (.int k a) (.int k b)=some (.bool (a == b)):=by simp[jk]
@[simp] theorem Ik:jk .neq (.int k a) (.int k b)=some (.bool (a != b)):=by simp[jk]
@[simp] theorem Ii:jk .lss (.int k a) (.int k b)=some (.bool (decide (a<b))):=by simp[jk]
@[simp] theorem Ih:jk .leq (.int k a) (.int k b)=some (.bool (decide (a≤b))):=by simp[jk]
@[simp] theorem Ig:jk .gtr (.int k a) (.int k b)=some (.bool (decide (b<a))):=by simp[jk]
@[simp] theorem Ie:jk .geq (.int k a) (.int k b)=some (.bool (decide (b≤a))):=by simp[jk]
end bins
@[simp] theorem Ey{b:Bool}:D.strip (.bool b)=.bool b:=ao rfl
@[simp] theorem GU{k:IntKind}{n:Int}:D.strip (.int k n)=.int k n:=ao rfl
@[simp] theorem GX{s:List UInt8}:D.strip (.str s)=.str s:=ao rfl
@[simp] theorem GS{cs:List D}:D.strip (.agg cs)=.agg cs:=ao rfl
@[simp] theorem GY{cs:List D}:D.strip (.er cs)=.er cs:=ao rfl
@[simp] theorem GW{l i v o:Nat}:D.strip (.ref l i v o)=.ref l i v o:=ao rfl
@[simp] theorem Ez{cs:List D}:D.strip (.bE cs)=.bE cs:=ao rfl
@[simp] theorem GV{n:Nat}{cs:List D}:D.strip (.ch n cs)=.ch n cs:=ao rfl
@[simp] theorem HV{l i v o n w:Nat}:D.strip (.sl l i v o n w)=.sl l i v o n w:=ao rfl
@[simp] theorem HU{f:Nat}{a b:List D}:D.strip (.fn f a b)=.fn f a b:=ao rfl
@[simp] theorem GZ{l i:Nat}:D.strip (.fJ l i)=.fJ l i:=ao rfl
@[simp] theorem GG{b:Bool}:D.calm (.bool b)=.bool b:=ao rfl
@[simp] theorem HL{k:IntKind}{n:Int}:D.calm (.int k n)=.int k n:=ao rfl
@[simp] theorem HP{s:List UInt8}:D.calm (.str s)=.str s:=ao rfl
@[simp] theorem HK{cs:List D}:D.calm (.agg cs)=.agg cs:=ao rfl
@[simp] theorem HO{l i v o:Nat}:D.calm (.ref l i v o)=.ref l i v o:=ao rfl
@[simp] theorem GH{cs:List D}:D.calm (.bE cs)=.bE cs:=ao rfl
@[simp] theorem HM{n:Nat}{cs:List D}:D.calm (.ch n cs)=.ch n cs:=ao rfl
@[simp] theorem LA{l i v o n w:Nat}:D.calm (.sl l i v o n w)=.sl l i v o n w:=ao rfl
@[simp] theorem Lz{f:Nat}{a b:List D}:D.calm (.fn f a b)=.fn f a b:=ao rfl
@[simp] theorem HQ{l i:Nat}:D.calm (.fJ l i)=.fJ l i:=ao rfl
@[simp] theorem HN{s:Nat}{cs:List D}:D.calm (.own s cs)=.own 0 cs:=ao rfl
@[simp] theorem GJ{k:IntKind}{n:Int}:D.cells (.int k n)=some [.int k n]:=ao rfl
@[simp] theorem GL{s:List UInt8}:D.cells (.str s)=some [.str s]:=ao rfl
@[simp] theorem GI{cs:List D}:D.cells (.agg cs)=some cs:=ao rfl
@[simp] theorem GK{n:Nat}{cs:List D}:D.cells (.ch n cs)=some [.ch n cs]:=ao rfl
@[simp] theorem HR{l i v o n w:Nat}:D.cells (.sl l i v o n w)=some [.sl l i v o n w]:=ao rfl
@[simp] theorem GM{l i:Nat}:D.cells (.fJ l i)=some [.fJ l i]:=ao rfl
@[simp] theorem xa{O:aN}{kp:Bool}{f:Nat}{first cap args:List D}{σ:SK}:jL O kp (.fn f first cap) args σ=R.mE (O (.call kp f (first++args++cap) σ)):=ao rfl
@[simp] theorem Hs{O:aN}{kp:Bool}{l i:Nat}{args:List D}{σ:SK}:jL O kp (.fJ l i) args σ=R.mE (O (.round l i args σ)):=ao rfl
@[simp] theorem Mn{d:D}{σ:SK}:R.mE (some (.val d σ))=some (d,σ):=ao rfl
section ops
variable {d:Option Nat} {n:Bool} {r:List Op} {e:Env} {σ:SK} {Q:Env→SK→Prop}
@[simp,simp ↓] theorem N2{x:aM}:WO O (⟨d,none,n,.mv x⟩::r) e σ Q=WO O r (put d (aC e x) e) σ Q:=by rw[cV rfl];simp[aK]
@[simp,simp ↓] theorem Mz{w:Nat}:WO O (⟨d,none,n,.ln w⟩::r) e σ Q=WV (aK e σ (.ln w)) fun v σ'=>WO O r (put d v e) σ' Q:=cV rfl
@[simp,simp ↓] theorem M9{nb:List (Nat×Nat)}{cs:List D}:WO O (⟨d,none,n,.ui nb cs⟩::r) e σ Q=WV (aK e σ (.ui nb cs)) fun v σ'=>WO O r (put d v e) σ' Q:=cV rfl
@[simp,simp ↓] theorem MA{c a b:aM}:WO O (⟨d,none,n,.pick c a b⟩::r) e σ Q=WD (tn (aC e c)) fun t=>WO O r (put d (if t then aC e a else aC e b) e) σ Q:=by
 rw[cV rfl];simp only[aK];cases aC e c<;>simp[tn]
@[simp,simp ↓] theorem Ms{x:aM}:WO O (⟨d,none,n,.qR x⟩::r) e σ Q=WD (aC e x).cells fun cs=>WO O r (put d (.bE cs) e) σ Q:=by
 rw[cV rfl];simp only[aK];cases(aC e x).cells<;>simp
@[simp,simp ↓] theorem Nc{z:List D}{ps:List (Nat×Nat×aM)}:WO O (⟨d,none,n,.kR z ps⟩::r) e σ Q=WD (gJ e ps z) fun cs=>WO O r (put d (.agg cs) e) σ Q:=by
 rw[cV rfl];simp only[aK];cases gJ e ps z<;>simp
@[simp,simp ↓] theorem Nd{m w:Nat}{z:List D}{ps:List (Nat×Nat×aM)}:WO O (⟨d,none,n,.sS m w z ps⟩::r) e σ Q=WD (gJ e ps z) fun cs=>WO O r (put d (.ch m cs) e) σ Q:=by
 rw[cV rfl];simp only[aK];cases gJ e ps z<;>simp
@[simp,simp ↓] theorem Nf{m w:Nat}{z:List D}{ps:List (Nat×Nat×aM)}:WO O (⟨d,none,n,.ze m w z ps⟩::r) e σ Q=WV (aK e σ (.ze m w z ps)) fun v σ'=>WO O r (put d v e) σ' Q:=cV rfl
@[simp,simp ↓] theorem NZ{ag:Bool}{sz:Nat}{a:aM}:WO O (⟨d,none,n,.ld ag sz a⟩::r) e σ Q=WD (zR ag sz (oX σ (aC e a))) fun v=>WO O r (put d v e) σ Q:=by
 rw[cV rfl];refine gT ?_;simp only[aK];cases oX σ (aC e a)with
 |none=>rfl
 |some cs =>
  simp only[zR];split
  ·cases ag
   ·cases cs<;>rfl
   ·rfl
  ·rfl
@[simp,simp ↓] theorem N4{nb:List (Nat×Nat)}{sz:Nat}{a x:aM}:WO O (⟨d,none,n,.st nb sz a x⟩::r) e σ Q=WV (aK e σ (.st nb sz a x)) fun v σ'=>WO O r (put d v e) σ' Q:=cV rfl
@[simp,simp ↓] theorem Nl{v:Nat}{ag:Bool}{sz a:Nat}:WO O (⟨d,none,n,.wG v ag sz a⟩::r) e σ Q=WD (yl e v ag sz a) fun v=>WO O r (put d v e) σ Q:=by
 rw[cV rfl];refine gT ?_;simp only[aK,yl];cases gK e v a with
 |none=>rfl
 |some x =>
  obtain⟨s,cs,off⟩:=x;simp only[zR,aG];split
  ·cases ag
   ·cases cs.drop off<;>rfl
   ·rfl
  ·rfl
@[simp,simp ↓] theorem Nb{o:BinOp}{x y:aM}:WO O (⟨d,none,n,.bin o x y⟩::r) e σ Q=WD (jk o (aC e x) (aC e y)) fun v=>WO O r (put d v e) σ Q:=by
 rw[cV rfl];simp only[aK];cases jk o (aC e x) (aC e y)<;>simp
@[simp,simp ↓] theorem Nh{ag:Bool}{ks:List (Option IntKind)}{neg:Bool}{x y:aM}:WO O (⟨d,none,n,.eqv ag ks neg x y⟩::r) e σ Q=WD (Fi ag ks neg (aC e x) (aC e y)) fun v=>WO O r (put d v e) σ Q:=by
 rw[cV rfl];refine gT ?_;simp only[aK,Fi];cases(aC e x).row ag<;>cases(aC e y).row ag<;>simp[Option.map_map,Function.comp_def]
@[simp,simp ↓] theorem N5{o:UnOp}{x:aM}:WO O (⟨d,none,n,.un o x⟩::r) e σ Q=WD (NT o (aC e x)) fun v=>WO O r (put d v e) σ Q:=by
 rw[cV rfl];refine gT ?_;simp only[aK];cases o<;>cases aC e x<;>rfl
@[simp,simp ↓] theorem Ng{k:IntKind}{x:aM}:WO O (⟨d,none,n,.r8 k x⟩::r) e σ Q=WD (Fb k (aC e x)) fun v=>WO O r (put d v e) σ Q:=by
 rw[cV rfl];simp only[aK];cases aC e x<;>simp[Fb]
@[simp,simp ↓] theorem Np{p:Pu}{xs:List aM}:WO O (⟨d,none,n,.oA p xs⟩::r) e σ Q=WD (so p (xs.map (aC e))) fun v=>WO O r (put d v e) σ Q:=by
 rw[cV rfl];simp only[aK];cases so p (xs.map (aC e))<;>simp
@[simp,simp ↓] theorem N1{p:Mo}{xs:List aM}:WO O (⟨d,none,n,.mp p xs⟩::r) e σ Q=WV (pZ σ p (xs.map (aC e))) fun v σ'=>WO O r (put d v e) σ' Q:=cV rfl
@[simp,simp ↓] theorem Nn{f:Nat}{xs ys:List aM}:WO O (⟨d,none,n,.yq f xs ys⟩::r) e σ Q=WO O r (put d (.fn f (xs.map (aC e)) (ys.map (aC e))) e) σ Q:=by rw[cV rfl];simp[aK]
@[simp,simp ↓] theorem MB{l w:Nat}{x:aM}{lo hi:Option aM}:WO O (⟨d,none,n,.pX l w x lo hi⟩::r) e σ Q=WV (aK e σ (.pX l w x lo hi)) fun v σ'=>WO O r (put d v e) σ' Q:=cV rfl
@[simp,simp ↓] theorem Mu{off m:Nat}:WO O (⟨d,none,n,.qT off (.t m)⟩::r) e σ Q=WD (tu m off (get e m)) fun v=>WO O r (put d v e) σ Q:=by
 rw[cV rfl];refine gT ?_;simp only[aK];cases get e m<;>rfl
@[simp,simp ↓] theorem Nj{ag:Bool}{off sz:Nat}{x:aM}:WO O (⟨d,none,n,.Ek ag off sz x⟩::r) e σ Q=WD (Ga ag off sz (aC e x)) fun v=>WO O r (put d v e) σ Q:=by
 rw[cV rfl];refine gT ?_;simp only[aK];cases aC e x<;>first | rfl | (simp only[Ga];split<;>cases ag<;>simp)
@[simp,simp ↓] theorem Mv{w:Nat}{x i:aM}:WO O (⟨d,none,n,.oI w x i⟩::r) e σ Q=WD (vm w (aC e x) (aC e i)) fun v=>WO O r (put d v e) σ Q:=by
 rw[cV rfl];refine gT ?_;simp only[aK,vm];cases oL (aC e i)with
 |none=>cases aC e x<;>rfl
 |some k=>cases aC e x<;>first | rfl | (simp only[];split<;>rfl)
@[simp,simp ↓] theorem Mw{ag:Bool}{l w:Nat}{x i:aM}:WO O (⟨d,none,n,.oJ ag l w x i⟩::r) e σ Q=WD (yb ag l w (aC e x) (aC e i)) fun v=>WO O r (put d v e) σ Q:=by
 rw[cV rfl];refine gT ?_;simp only[aK,yb];cases oL (aC e i)with
 |none=>cases aC e x<;>rfl
 |some k=>cases aC e x<;>first | rfl | (simp only[];split<;>cases ag<;>simp)
@[simp,simp ↓] theorem My{x:aM}:WO O (⟨d,none,n,.q5 x⟩::r) e σ Q=WD (Gp (aC e x)) fun v=>WO O r (put d v e) σ Q:=by
 rw[cV rfl];refine gT ?_;simp only[aK];cases aC e x<;>rfl
@[simp,simp ↓] theorem N0{x y:aM}:WO O (⟨d,none,n,.mn x y⟩::r) e σ Q=WD (Ob (aC e x) (aC e y)) fun v=>WO O r (put d v e) σ Q:=by
 rw[cV rfl];refine gT ?_;simp only[aK];cases aC e x<;>cases aC e y<;>rfl
@[simp,simp ↓] theorem N3{x y:aM}:WO O (⟨d,none,n,.mx x y⟩::r) e σ Q=WD (Oc (aC e x) (aC e y)) fun v=>WO O r (put d v e) σ Q:=by
 rw[cV rfl];refine gT ?_;simp only[aK];cases aC e x<;>cases aC e y<;>rfl
@[simp,simp ↓] theorem Na{w b:Nat}{s x:aM}:WO O (⟨d,none,n,.app w b s x⟩::r) e σ Q=WV (aK e σ (.app w b s x)) fun v σ'=>WO O r (put d v e) σ' Q:=cV rfl
@[simp,simp ↓] theorem Ni{x:aM}{i:Nat}:WO O (⟨d,none,n,.ext x i⟩::r) e σ Q=WD (Iu (aC e x) i) fun v=>WO O r (put d v e) σ Q:=by
 rw[cV rfl];refine gT ?_;simp only[aK];cases aC e x<;>rfl
@[simp,simp ↓] theorem Mt{kp:Bool}{f:aM}{args:List aM}:WO O (⟨d,none,n,.call kp f args⟩::r) e σ Q =
  WV (jL O kp (aC e f) (args.map (aC e)) σ) fun v σ'=>(n=true→σ'=σ)∧WO O r (put d v e) σ' Q:=by
 simp only[WO,eN,jF,WV,eq_iff_iff];cases hc:jL O kp (aC e f) (args.map (aC e)) σ with
 |none=>simp
 |some y =>
  obtain⟨v,σ1⟩:=y;by_cases hn:n=true→σ1=σ
  ·simp only[if_pos hn,Option.bind_some,ad,af];exact⟨fun h=>⟨v,σ1,⟨rfl,rfl⟩,hn,h⟩,fun⟨_,_,⟨h1,h2⟩,_,h⟩=>by subst h1 h2;exact h⟩
  ·simp only[if_neg hn,Option.bind_none,reduceCtorEq,false_and,exists_false,ad,af,false_iff];rintro⟨_,_,⟨h1,h2⟩,h,_⟩;subst h1 h2;exact hn h
@[simp,simp ↓] theorem Mr{nb:List (Nat×Nat)}{cs:List D}:WO O (⟨d,none,n,.ft nb cs⟩::r) e σ Q=WD d fun v=>WD (dJ nb cs σ) fun y=>WO O r ((v,.own (iT e v) y.1)::e) y.2 Q:=by
 cases d with
 |none=>simp[WO,eN,jF]
 |some v=>cases h:dJ nb cs σ with
  |none=>simp[WO,eN,jF,h]
  |some y=>obtain⟨a,b⟩:=y;simp only[WO,eN,jF,h,Option.bind_some,u9]
def Hm(e:Env)(σ:SK)(v:Nat)(nb:List (Nat×Nat))(sz a:Nat)(x:aM):Option (D×SK) :=
 match gK e v a,(aC e x).cells with
 |some (s,cs,off),some p =>
  if p.length=sz∧off+sz≤cs.length then
   match dJ nb p σ with
   |some (p',σ')=>some (.own s (cs.take off++p'++cs.drop (off+sz)),σ')
   |none=>none
  else none
 |_,_=>none
@[simp,simp ↓] theorem Nq{v:Nat}{nb:List (Nat×Nat)}{sz a:Nat}{x:aM}:WO O (⟨d,none,n,.q9 v nb sz a x⟩::r) e σ Q =
  WV (Hm e σ v nb sz a x) fun y σ'=>WO O r ((v,y)::e) σ' Q:=by
 simp only[WO,eN,jF,Hm];cases h1:gK e v a with
 |none=>simp
 |some p =>
  obtain⟨s,cs,off⟩:=p;cases h2:(aC e x).cells with
  |none=>simp
  |some p =>
   dsimp only;split
   ·cases h3:dJ nb p σ with
    |none=>simp
    |some y=>obtain⟨a,b⟩:=y;simp[WO]
   ·simp
end ops
section code
variable {e:Env} {σ:SK} {Q:Exit→Env→SK→Prop}
@[simp,simp ↓] theorem M5:WC O .dY e σ Q=Q .normal e σ:=by
 simp only[WC,aA,ad,af,eq_iff_iff];exact⟨fun⟨_,_,_,⟨h1,h2,h3⟩,h⟩=>by subst h1 h2 h3;exact h,fun h=>⟨_,_,_,⟨rfl,rfl,rfl⟩,h⟩⟩
@[simp,simp ↓] theorem M3{vs:List Nat}:WC O (.bB vs) e σ Q=Q .normal (jl vs e σ).1 (jl vs e σ).2:=by
 simp only[WC,aA,ad,af,eq_iff_iff];exact⟨fun⟨_,_,_,⟨h1,h2,h3⟩,h⟩=>by subst h1 h2 h3;exact h,fun h=>⟨_,_,_,⟨rfl,rfl,rfl⟩,h⟩⟩
@[simp,simp ↓] theorem Mp{i:Nat}:WC O (.exit i) e σ Q=Q (.exit i) e σ:=by
 simp only[WC,aA,ad,af,eq_iff_iff];exact⟨fun⟨_,_,_,⟨h1,h2,h3⟩,h⟩=>by subst h1 h2 h3;exact h,fun h=>⟨_,_,_,⟨rfl,rfl,rfl⟩,h⟩⟩
@[simp,simp ↓] theorem M7:WC O .ret e σ Q=Q .ret e σ:=by
 simp only[WC,aA,ad,af,eq_iff_iff];exact⟨fun⟨_,_,_,⟨h1,h2,h3⟩,h⟩=>by subst h1 h2 h3;exact h,fun h=>⟨_,_,_,⟨rfl,rfl,rfl⟩,h⟩⟩
@[simp,simp ↓] theorem M6{live:List Nat}{ops:List Op}:WC O (.b7 live ops) e σ Q=WO O ops e σ fun e' σ'=>Q .normal (restrict live e') σ':=by
 simp only[WC,aA,WO,ab,af,eq_iff_iff];constructor
 ·rintro⟨x,e',σ',⟨⟨e1,σ1⟩,h1,rfl,rfl,rfl⟩,h⟩;exact⟨e1,σ1,h1,h⟩
 ·rintro⟨e',σ',h1,h⟩;exact⟨_,_,_,⟨⟨e',σ'⟩,h1,rfl,rfl,rfl⟩,h⟩
def vG(O:aN)(b:bC)(Q:Exit→Env→SK→Prop)(_m:Mark b:=.mk)(_m':Mark Q:=.mk):Exit→Env→SK→Prop
 |.normal,e,σ=>WC O b e σ Q
 |.exit i,e,σ=>Q (.exit i) e σ
 |.ret,e,σ=>Q .ret e σ
 |.eO d,e,σ=>Q (.eO d) e σ
@[simp,simp ↓] theorem An{b:bC}:vG O b Q .mk .mk .normal e σ=WC O b e σ Q:=ao rfl
@[simp,simp ↓] theorem Hp{b:bC}{i:Nat}:vG O b Q .mk .mk (.exit i) e σ=Q (.exit i) e σ:=ao rfl
@[simp,simp ↓] theorem HY{b:bC}:vG O b Q .mk .mk .ret e σ=Q .ret e σ:=ao rfl
@[simp,simp ↓] theorem M8{a b:bC}:WC O (.seq a b) e σ Q=WC O a e σ (vG O b Q .mk .mk):=by
 simp only[WC,aA,ae,eq_iff_iff];constructor
 ·rintro⟨x,e',σ',⟨⟨x1,e1,σ1⟩,h1,h2⟩,h⟩;refine⟨x1,e1,σ1,h1,?_⟩;cases x1 with
  |normal=>exact⟨x,e',σ',h2,h⟩
  |exit i=>cases h2;exact h
  |ret=>cases h2;exact h
  |eO d=>cases h2;exact h
 ·rintro⟨x1,e1,σ1,h1,h⟩;cases x1 with
  |normal=>obtain⟨x,e',σ',h2,h3⟩:=h;exact⟨x,e',σ',⟨_,h1,h2⟩,h3⟩
  |exit i=>exact⟨_,_,_,⟨_,h1,rfl⟩,h⟩
  |ret=>exact⟨_,_,_,⟨_,h1,rfl⟩,h⟩
  |eO d=>exact⟨_,_,_,⟨_,h1,rfl⟩,h⟩
@[simp,simp ↓] theorem M4{c:aM}{a b:bC}:WC O (.ite c a b) e σ Q=WD (tn (aC e c)) fun t=>if t=true then WC O a e σ Q else WC O b e σ Q:=by
 simp only[WC,aA];cases aC e c<;>simp[tn];rename_i t;cases t<;>simp
def wi(id:Nat)(Q:Exit→Env→SK→Prop)(_m:Mark Q:=.mk):Exit→Env→SK→Prop
 |.normal,e,σ=>Q .normal e σ
 |.exit i,e,σ=>if i=id then Q .normal e σ else Q (.exit i) e σ
 |.ret,e,σ=>Q .ret e σ
 |.eO d,e,σ=>Q (.eO d) e σ
@[simp,simp ↓] theorem Et{id:Nat}:wi id Q .mk .normal e σ=Q .normal e σ:=ao rfl
@[simp,simp ↓] theorem HJ{id i:Nat}:wi id Q .mk (.exit i) e σ=if i=id then Q .normal e σ else Q (.exit i) e σ:=ao rfl
@[simp,simp ↓] theorem Lu{id:Nat}:wi id Q .mk .ret e σ=Q .ret e σ:=ao rfl
@[simp,simp ↓] theorem M1{id:Nat}{a:bC}:WC O (.aR id a) e σ Q=WC O a e σ (wi id Q .mk):=by
 simp only[WC,aA,ab,eq_iff_iff];constructor
 ·rintro⟨x,e',σ',⟨⟨x1,e1,σ1⟩,h1,h2⟩,h⟩;refine⟨x1,e1,σ1,h1,?_⟩;cases x1 with
  |normal=>cases h2;exact h
  |exit i =>
   simp only[wi];dsimp only at h2;split at h2<;>cases h2
   ·rw[if_pos (by assumption)];exact h
   ·rw[if_neg (by assumption)];exact h
  |ret=>cases h2;exact h
  |eO d=>cases h2;exact h
 ·rintro⟨x1,e1,σ1,h1,h⟩;cases x1 with
  |normal=>exact⟨_,_,_,⟨_,h1,rfl⟩,h⟩
  |exit i =>
   simp only[wi]at h;split at h
   ·exact⟨_,_,_,⟨_,h1,by dsimp only;rw[if_pos (by assumption)]⟩,h⟩
   ·exact⟨_,_,_,⟨_,h1,by dsimp only;rw[if_neg (by assumption)]⟩,h⟩
  |ret=>exact⟨_,_,_,⟨_,h1,rfl⟩,h⟩
  |eO d=>exact⟨_,_,_,⟨_,h1,rfl⟩,h⟩
theorem vQ(d:D):d.calm.calm=d.calm:=by cases d<;>rfl
theorem q6{live:List Nat}{e:Env}{t:Nat}:get (restrict live e) t=if t∈live then(get e t).calm else .undef:=by
 induction live with
 |nil=>simp[restrict,get]
 |cons a l ih =>
  simp only[restrict,aw,get,aJ];by_cases h:a=t
  ·subst h;simp
  ·have h':¬t=a:=fun x=>h x.symm
   simp only[if_neg h,h',false_or];exact ih
theorem kj{live:List Nat}{e:Env}:restrict live (restrict live e)=restrict live e:=by
 simp only[restrict,List.map_inj_left,af,true_and];intro t ht;have:=q6 (live:=live) (e:=e) (t:=t);simp only[restrict]at this;rw[this,if_pos ht,vQ]
theorem jw{live:List Nat}{kF:Bool}{c:bC}:bK T O (.loop live kF c (restrict live e) σ)=bK T O (.loop live kF c e σ):=by
 simp only[bK,kj]
theorem kh{live:List Nat}{kF:Bool}{c:bC}{r:R}(h:lim T (.loop live kF c (restrict live e) σ)=some r):lim T (.loop live kF c e σ)=some r:=by
 obtain⟨n,h⟩:=jB.1 h;cases n with
 |zero=>cases h
 |succ n =>
  rw[it,jw]at h;exact jB.2 ⟨n+1,h⟩
theorem mN{live:List Nat}{kF:Bool}{c:bC}{r:R}(h:lim T (.loop live kF c e σ)=some r):lim T (.loop live kF c (restrict live e) σ)=some r:=by
 obtain⟨n,h⟩:=jB.1 h;cases n with
 |zero=>cases h
 |succ n =>
  rw[it,← jw]at h;exact jB.2 ⟨n+1,h⟩
theorem uq{r:Option R}{x:Exit}{e:Env}{σ:SK}(h:R.vR r=some (x,e,σ)):r=some (.mF x e σ):=by
 unfold R.vR at h;split at h
 ·cases h;rfl
 ·cases h
@[simp,simp ↓] theorem Mq{live:List Nat}{kF:Bool}{c:bC}:WC (lim T) (.loop live kF c) e σ Q=WL T live kF c (restrict live e) σ Q:=by
 simp only[WC,aA,WL,eq_iff_iff];constructor
 ·rintro⟨x,e',σ',h1,h⟩;cases hl:lim T (.loop live kF c e σ)with
  |none=>rw[hl]at h1;cases h1
  |some r =>
   rw[hl]at h1;cases r<;>cases h1;exact⟨_,_,_,mN hl,h⟩
 ·rintro⟨x,e',σ',h1,h⟩;exact⟨x,e',σ',by rw[kh h1];rfl,h⟩
def vv(T:lN)(live:List Nat)(c:bC)(Q:Exit→Env→SK→Prop)(_m:Mark c:=.mk)(_m':Mark Q:=.mk):Exit→Env→SK→Prop
 |.normal,e,σ=>WL T live false c (restrict live e) σ Q
 |.exit i,e,σ=>Q (.exit i) e σ
 |.ret,e,σ=>Q .ret e σ
 |.eO d,e,σ=>Q (.eO d) e σ
@[simp,simp ↓] theorem zW{live:List Nat}{c:bC}:vv T live c Q .mk .mk .normal e σ=WL T live false c (restrict live e) σ Q:=ao rfl
@[simp,simp ↓] theorem Gx{live:List Nat}{c:bC}{i:Nat}:vv T live c Q .mk .mk (.exit i) e σ=Q (.exit i) e σ:=ao rfl
@[simp,simp ↓] theorem HI{live:List Nat}{c:bC}:vv T live c Q .mk .mk .ret e σ=Q .ret e σ:=ao rfl
theorem aE{live:List Nat}{c c':bC}(hc:c=c')(h:WC (lim T) c' (restrict live e) σ (vv T live c Q .mk .mk)):WL T live false c e σ Q:=by
 rw[← hc]at h;obtain⟨x,e1,σ1,h1,h2⟩:=h;cases x with
 |normal =>
  obtain⟨x,e',σ',h3,h4⟩:=h2;exact⟨x,e',σ',eM (by simp[bK,h1,kh h3]),h4⟩
 |exit i=>exact⟨_,_,_,eM (by simp[bK,h1]),h2⟩
 |ret=>exact⟨_,_,_,eM (by simp[bK,h1]),h2⟩
 |eO d=>exact⟨_,_,_,eM (by simp[bK,h1]),h2⟩
def vT(σ:SK)(res:List o7)(d:D)(x:Exit)(e:Env)(σ1:SK):Prop :=
 (∀i,x ≠ .exit i)∧(∀d,x ≠ .eO d)∧∃ds,lM e σ1 res=some ds∧∃s,bB (σ.length-1) deep (iS ds) σ1=(d,s::σ)
@[simp,simp ↓] theorem AA{σ1:SK}{res:List o7}{d:D}:vT σ res d .normal e σ1=∃ds,lM e σ1 res=some ds∧∃s,bB (σ.length-1) deep (iS ds) σ1=(d,s::σ):=by simp[vT]
@[simp,simp ↓] theorem Is{σ1:SK}{res:List o7}{d:D}:vT σ res d .ret e σ1=∃ds,lM e σ1 res=some ds∧∃s,bB (σ.length-1) deep (iS ds) σ1=(d,s::σ):=by simp[vT]
theorem aX{f:Nat}{fn:Fn}{args:List D}{σ:SK}{d:D}{np:Nat}{res:List o7}{body:bC}(hT:T f=some fn)(hf:fn=⟨np,res,body⟩)(hl:args.length=np)
  (h:WC (lim T) body (gn 0 args) ([]::σ) (vT σ res d)):
  lim T (.call false f args σ)=some (.val d σ):=by
 subst hf;obtain⟨x,e1,σ1,h1,h2,h2',ds,h3,s,h4⟩:=h;refine eM ?_;simp only[bK,hT,if_pos hl,ai,if_false,h1];cases x with
 |exit i=>exact absurd rfl (h2 i)
 |eO d=>exact absurd rfl (h2' d)
 |normal=>simp[h3,h4]
 |ret=>simp[h3,h4]
def Ot(σ:SK)(d:D)(x:Exit)(e:Env)(σ1:SK):Prop:=x=.eO d∧d.clean=true∧∃s,σ1=s::σ
def WR(r:Option R)(Qn Qt:D→SK→Prop)(_m:Mark Qn:=.mk)(_m':Mark Qt:=.mk):Prop:=(∃d σ',r=some (.val d σ')∧Qn d σ')∨∃d σ',r=some (.eO d σ')∧Qt d σ'
def OD:D→Option D
 |.nu t d=>if d.clean then some (.nu t d)else none
 |_=>none
def WM(T:lN)(live:List Nat)(it:aM)(nx ok b:Nat)(c rest:bC)(e:Env)(σ:SK)(Q:Exit→Env→SK→Prop)(_m:Mark c:=.mk)(_m':Mark rest:=.mk)(_m'':Mark Q:=.mk):Prop:=∃x e' σ',lim T (.cU live it nx ok b c rest e σ)=some (.mF x e' σ')∧Q x e' σ'
theorem WM.mono{live:List Nat}{it:aM}{nx ok b:Nat}{c rest:bC}{Q':Exit→Env→SK→Prop}(h:WM T live it nx ok b c rest e σ Q)(hq:∀x e σ,Q x e σ→Q' x e σ):WM T live it nx ok b c rest e σ Q' :=
 let ⟨x,e',σ',h1,h2⟩:=h;⟨x,e',σ',h1,hq _ _ _ h2⟩
theorem jn{live:List Nat}{it:aM}{nx ok b:Nat}{c rest:bC}:bK T O (.cU live it nx ok b c rest (restrict live e) σ)=bK T O (.cU live it nx ok b c rest e σ):=by
 simp only[bK,kj]
theorem hK{live:List Nat}{it:aM}{nx ok b:Nat}{c rest:bC}{r:R}:lim T (.cU live it nx ok b c rest (restrict live e) σ)=some r↔lim T (.cU live it nx ok b c rest e σ)=some r:=by
 constructor<;>intro h<;>obtain⟨n,h⟩:=jB.1 h<;>cases n<;>first | (cases h;done) | skip
 ·rw[Abs.it,jn]at h;exact jB.2 ⟨_+1,h⟩
 ·rw[Abs.it,← jn]at h;exact jB.2 ⟨_+1,h⟩
@[simp,simp ↓] theorem Ia{live:List Nat}{it:aM}{nx ok b:Nat}{c rest:bC}:WC (lim T) (.cU live it nx ok b c rest) e σ Q=WM T live it nx ok b c rest (restrict live e) σ Q:=by
 simp only[WC,aA,WM,eq_iff_iff];constructor
 ·rintro⟨x,e',σ',h1,h⟩;exact⟨_,_,_,hK.2 (uq h1),h⟩
 ·rintro⟨x,e',σ',h1,h⟩;exact⟨x,e',σ',by rw[hK.1 h1];rfl,h⟩
def rJ(T:lN)(live:List Nat)(it:aM)(l i nx ok b:Nat)(c rest:bC)(r:R)(_m:Mark c:=.mk)(_m':Mark rest:=.mk):Exit→Env→SK→Prop
 |.normal,e,σ=>lim T (.cU live it nx ok b c rest (restrict live e) σ)=some r
 |.exit j,e,σ=>if j=b then WC (lim T) rest e (az σ l i .dead) fun x e' σ'=>r=.mF x e' σ' else r=.mF (.exit j) e (az σ l i .dead)
 |.ret,e,σ=>r=.mF .ret e (az σ l i .dead)
 |.eO _,_,_=>False
@[simp,simp ↓] theorem zX{live:List Nat}{it:aM}{l i nx ok b:Nat}{c rest:bC}{r:R}:rJ T live it l i nx ok b c rest r .mk .mk .normal e σ=(lim T (.cU live it nx ok b c rest (restrict live e) σ)=some r):=ao rfl
@[simp,simp ↓] theorem uG{live:List Nat}{it:aM}{l i nx ok b j:Nat}{c rest:bC}{r:R}:rJ T live it l i nx ok b c rest r .mk .mk (.exit j) e σ=if j=b then WC (lim T) rest e (az σ l i .dead) fun x e' σ'=>r=.mF x e' σ' else r=.mF (.exit j) e (az σ l i .dead):=ao rfl
@[simp,simp ↓] theorem wg{live:List Nat}{it:aM}{l i nx ok b:Nat}{c rest:bC}{r:R}:rJ T live it l i nx ok b c rest r .mk .mk .ret e σ=(r=.mF .ret e (az σ l i .dead)):=ao rfl
theorem si{l i b:Nat}{rest:bC}{r:R}{x:Exit}{e1:Env}{σ1:SK}{live:List Nat}{it:aM}{nx ok:Nat}{c:bC}(hx:x ≠ .normal)(h:rJ T live it l i nx ok b c rest r .mk .mk x e1 σ1):jR (lim T) l i b rest (some (x,e1,σ1))=some r:=by
 cases x with
 |normal=>exact absurd rfl hx
 |eO d=>exact h.elim
 |ret=>simp only[wg]at h;subst h;rfl
 |exit j =>
  simp only[uG]at h;simp only[jR];split at h
  ·rename_i hj;obtain⟨x',e',σ',h1,rfl⟩:=h;rw[if_pos hj,h1];rfl
  ·rename_i hj;subst h;rw[if_neg hj]
theorem yt{live:List Nat}{it:aM}{l i nx ok b:Nat}{c c' rest rest':bC}{r:R}{m:D}{n:Nat}{js:List D}{us:List Nat}(hcc:c=c')(hrr:rest=rest')(hit:aC (restrict live e) it=.fJ l i)(hd:ow σ l i=some (m,n,js,us))(hne:us≠[])
  (h:∀u∈us,WC (lim T) c' ((ok,.bool true)::(nx,.undef)::restrict live e) (az σ l i (.cells 1 (m::.int .i64 (n:Nat)::.int .i64 (u:Nat)::js))) (rJ T live it l i nx ok b c rest' r .mk .mk)):
  lim T (.cU live it nx ok b c rest e σ)=some r:=by
 subst hcc hrr;refine eM ?_;simp only[bK,hit,hd];have key:∀u∈us,lH (lim T) live it l i nx ok b c rest (aA (lim T) c ((ok,.bool true)::(nx,.undef)::restrict live e) (az σ l i (.cells 1 (m::.int .i64 (n:Nat)::.int .i64 (u:Nat)::js))))=some r:=by
  intro u hu;obtain⟨x,e1,σ1,h1,h2⟩:=h u hu;rw[h1];cases x with
  |normal=>exact hK.1 h2
  |exit j=>exact si (x:=.exit j) (by simp) h2
  |ret=>exact si (x:=.ret) (by simp) h2
  |eO d=>exact h2.elim
 cases us with
 |nil=>exact absurd rfl hne
 |cons u us=>exact rj (by simp) key
theorem wb{live:List Nat}{it:aM}{l i nx ok b:Nat}{c c' rest rest':bC}{r:R}{m:D}{n:Nat}{js:List D}(hcc:c=c')(hrr:rest=rest')(hit:aC (restrict live e) it=.fJ l i)(hd:ow σ l i=some (m,n,js,[]))
  (h:WC (lim T) c' ((ok,.bool false)::(nx,.undef)::restrict live e) σ fun x e1 σ1=>x ≠ .normal∧rJ T live it l i nx ok b c rest' r .mk .mk x e1 σ1):
  lim T (.cU live it nx ok b c rest e σ)=some r:=by
 subst hcc hrr;refine eM ?_;simp only[bK,hit,hd];obtain⟨x,e1,σ1,h1,hx,h2⟩:=h;rw[h1];exact si hx h2
def NS:Exit→Option (Option D)
 |.normal=>some none
 |.ret=>some none
 |.eO d=>some (some d)
 |.exit _=>none
noncomputable def Fe(T:lN)(fv:D)(args:List D)(th:Option D)(σ:SK):Option SK :=
 match iB (lim T) fv args th σ with
 |some (.val _ σ')=>some σ'
 |_=>none
def Nw(T:lN)(fv:D)(args:List D)(σ:SK)(res:List o7)(d:D)(x:Exit)(e:Env)(σ1:SK):Prop :=
 WD (NS x) fun th=>WD (Fe T fv args th σ1) fun σ2=>∃ds,lM e σ2 res=some ds∧∃s,bB (σ.length-1) deep (iS ds) σ2=(d,s::σ)
def OK(T:lN)(f:aM)(args:List aM)(q:bC)(σ:SK)(res:List o7)(d:D)(x:Exit)(e:Env)(σ1:SK)(_m:Mark q:=.mk):Prop :=
 x=.normal∧WC (lim T) q e σ1 (Nw T (aC e f) (args.map (aC e)) σ res d)
def Ou(σ':SK)(res:List o7)(x:Exit)(e:Env)(σ1:SK):Prop :=
 (∀i,x ≠ .exit i)∧(∀d,x ≠ .eO d)∧lM e σ1 res=some []∧∃s,σ1=s::σ'
end code
@[simp] theorem Lm{k t:Nat}{v:D}{r:Env}:get ((k,v)::r) t=if k=t then v else get r t:=ao rfl
@[simp] theorem Ly{t:Nat}{v:D}{e:Env}:put (some t) v e=(t,v)::e:=ao rfl
@[simp] theorem Lx{v:D}{e:Env}:put none v e=e:=ao rfl
@[simp] theorem Oe{e:Env}{n:Nat}:aC e (.t n)=(get e n).strip:=ao rfl
@[simp] theorem Od{e:Env}{d:D}:aC e (.c d)=d:=ao rfl
@[simp] theorem Af{e:Env}:restrict [] e=[]:=ao rfl
@[simp] theorem zj{t:Nat}{l:List Nat}{e:Env}:restrict (t::l) e=(t,(get e t).calm)::restrict l e:=ao rfl
@[simp] theorem HD{n:Nat}:gn n []=[]:=ao rfl
@[simp] theorem Gs{n:Nat}{d:D}{ds:List D}:gn n (d::ds)=(n,d)::gn (n+1) ds:=ao rfl
section
variable {e:Env} {σ:SK}
@[simp] theorem LF:lM e σ []=some []:=ao rfl
@[simp] theorem HT{r:o7}{rs:List o7}:lM e σ (r::rs)=(su e σ r).bind fun d=>(lM e σ rs).map fun ds=>d::ds:=ao rfl
@[simp] theorem NK{n:Nat}:su e σ (.t n)=some (get e n).strip:=ao rfl
@[simp] theorem NL{n sz:Nat}{ag:Bool}:su e σ (.v n ag sz)=yl e n ag sz n:=by
 simp only[su,aK,yl];cases gK e n n with
 |none=>rfl
 |some x =>
  obtain⟨s,cs,off⟩:=x;simp only[zR,aG];split
  ·cases ag
   ·cases cs.drop off<;>rfl
   ·rfl
  ·rfl
@[simp] theorem HF{d:D}:iS [d]=d:=ao rfl
@[simp] theorem HE:iS []=.er []:=ao rfl
@[simp] theorem HG{d d':D}{ds:List D}:iS (d::d'::ds)=.er (d::d'::ds):=ao rfl
@[simp] theorem Hx{cs:List D}:gJ e [] cs=some cs:=ao rfl
@[simp] theorem F9{off sz:Nat}{x:aM}{r:List (Nat×Nat×aM)}{cs:List D}:gJ e ((off,sz,x)::r) cs =
  ((aC e x).cells.bind fun p=>if p.length=sz∧off+sz≤cs.length then some (cs.take off++p++cs.drop (off+sz))else none).bind (gJ e r):=by
 simp only[gJ];cases(aC e x).cells with
 |none=>rfl
 |some p=>dsimp only [Option.bind_some];split<;>rfl
@[simp] theorem Ht{w n:Nat}{cs:List D}:elems σ w (.ch n cs)=if cs.length=n*w then some (n,cs)else none:=ao rfl
end
attribute [simp] aK r6 dJ cG gK iT Hm yl zy bounds D.row cells? bS gq az dj
@[simp] theorem Ew{b:Bool}:D.clean (.bool b)=true:=by rw[D.clean]
@[simp] theorem GO{k:IntKind}{n:Int}:D.clean (.int k n)=true:=by rw[D.clean]
@[simp] theorem GN{cs:List D}:D.clean (.agg cs)=D.bp cs:=by rw[D.clean]
@[simp] theorem GP{cs:List D}:D.clean (.er cs)=D.bp cs:=by rw[D.clean]
@[simp] theorem Ex{cs:List D}:D.clean (.bE cs)=D.bp cs:=by rw[D.clean]
@[simp] theorem HS{f:Nat}{a b:List D}:D.clean (.fn f a b)=(D.bp a && D.bp b):=by rw[D.clean]
@[simp] theorem E8:D.bp []=true:=by rw[D.bp]
@[simp] theorem Az{d:D}{ds:List D}:D.bp (d::ds)=(D.clean d && D.bp ds):=by rw[D.bp]
@[simp] theorem xd:deep=16:=ao rfl
@[simp] theorem mh{l n:Nat}{d:D}{σ:SK}(h:d.clean=true)(hn:0<n):bB l n d σ=(d,σ):=by
 obtain⟨m,rfl⟩:∃m,n=m+1:=⟨n-1,by omega⟩;unfold bB;simp[h]
@[simp] theorem Gd{l n:Nat}{ds:List D}{σ:SK}(h:D.bp ds=true)(hn:0<n):bB.frzL (bB l n) ds σ=(ds,σ):=by
 induction ds generalizing σ with
 |nil=>rfl
 |cons d ds ih =>
  simp only[D.bp,ah]at h;simp[bB.frzL,h.1,ih h.2,hn]
@[simp] theorem pH{f:D→SK→D×SK}{σ:SK}:bB.frzL f [] σ=([],σ):=ao rfl
@[simp] theorem nY{f:D→SK→D×SK}{d:D}{ds:List D}{σ:SK}:bB.frzL f (d::ds) σ=((f d σ).1::(bB.frzL f ds (f d σ).2).1,(bB.frzL f ds (f d σ).2).2):=ao rfl
theorem vj{l n:Nat}{ds:List D}{σ:SK}(h:D.bp ds=false)(hn:0<n):bB l n (.er ds) σ=(.er (bB.frzL (bB l (n-1)) ds σ).1,(bB.frzL (bB l (n-1)) ds σ).2):=by
 obtain⟨m,rfl⟩:∃m,n=m+1:=⟨n-1,by omega⟩
 conv=>lhs;unfold bB
 simp[D.clean,h]
theorem zG{l n:Nat}{ds:List D}{σ:SK}(h:D.bp ds=false)(hn:0<n):bB l n (.agg ds) σ=(.agg (bB.frzL (bB l (n-1)) ds σ).1,(bB.frzL (bB l (n-1)) ds σ).2):=by
 obtain⟨m,rfl⟩:∃m,n=m+1:=⟨n-1,by omega⟩
 conv=>lhs;unfold bB
 simp[D.clean,h]
theorem x9{l n l' i v off m w:Nat}{σ:SK}{cs:List D}(h:¬l'≤l)(hc:cells? σ l' i v=some cs)(hn:0<n):
  bB l n (.sl l' i v off m w) σ=(.ch m (bB.frzL (bB l (n-1)) ((cs.drop off).take (m*w)) (az σ l' i .dead)).1,(bB.frzL (bB l (n-1)) ((cs.drop off).take (m*w)) (az σ l' i .dead)).2):=by
 obtain⟨m,rfl⟩:∃m,n=m+1:=⟨n-1,by omega⟩
 conv=>lhs;unfold bB
 simp only[D.clean,h,hc,ai,if_false,Nat.add_sub_cancel]
@[simp] theorem Gh{l n l' i v off m w:Nat}{σ:SK}(h:l'≤l)(hn:0<n):bB l n (.sl l' i v off m w) σ=(.sl l' i v off m w,σ):=by
 obtain⟨m,rfl⟩:∃m,n=m+1:=⟨n-1,by omega⟩
 conv=>lhs;unfold bB
 simp only[D.clean,h,if_true,ai,if_false]
@[simp] theorem El{l n l' i v off:Nat}{σ:SK}(h:l'≤l)(hn:0<n):bB l n (.ref l' i v off) σ=(.ref l' i v off,σ):=by
 obtain⟨m,rfl⟩:∃m,n=m+1:=⟨n-1,by omega⟩
 conv=>lhs;unfold bB
 simp only[D.clean,h,if_true,ai,if_false]
@[simp] theorem NA{n:Nat}:(n+1+1=n)=False:=by simp;omega
@[simp] theorem NB{n:Nat}:(n+1+1+1=n)=False:=by simp;omega
@[simp] theorem NC{n:Nat}:(n+1+1+1+1=n)=False:=by simp;omega
@[simp] theorem ND{n:Nat}:(n+1+1+1+1+1=n)=False:=by simp;omega
end Go.Abs
