import Derived.Test.YtcgippbplkagkaaGreatBase13
import Derived.ChangeArms
import Derived.OpenShut
import Derived.WideShapes
import Derived.RowKit
import Derived.Carry
import Derived.Test.YtcgippbplkagkaaGreatBase12
set_option linter.all false
namespace Go.Abs
open Go
open Go.RowKit Go.WideShapes
inductive Ty where
 |bool
 |int (k:IntKind)
 |str
 |slice (w:Nat) (e:Ty)
 |struct (fs:List Ty)
 |arr (n:Nat) (e:Ty)
 deriving Inhabited
mutual
def Ty.size:Ty→Nat
 |.bool=>1
 |.int _=>1
 |.str=>1
 |.slice _ _=>1
 |.struct fs=>Ty.yg fs
 |.arr n e=>n*e.size
def Ty.yg:List Ty→Nat
 |[]=>0
 |f::fs=>f.size+Ty.yg fs
end
mutual
def Ty.has:Ty→List D→Prop
 |.bool,ds=>∃b,ds=[.bool b]
 |.int k,ds=>∃n,ds=[.int k n]∧(Lit.int k n).wf=true
 |.str,ds=>∃s:List UInt8,ds=[.str s]∧s.length≤maxLen
 |.slice w e,ds=>∃xs:List (List D),ds=[.aE xs.length xs.flatten]∧xs.length≤maxLen∧∀x∈xs,x.length=w∧e.has x
 |.struct fs,ds=>Ty.U8 fs ds
 |.arr n e,ds=>∃xs:List (List D),ds=xs.flatten∧xs.length=n∧∀x∈xs,x.length=e.size∧e.has x
def Ty.U8:List Ty→List D→Prop
 |[],ds=>ds=[]
 |f::fs,ds=>∃a b,ds=a++b∧f.has a∧Ty.U8 fs b
end
def Ty.vJ(T:Ty)(d:D):Prop :=
 match T with
 |.struct _=>∃ds,d=.agg ds∧T.has ds
 |.arr _ _=>∃ds,d=.agg ds∧T.has ds
 |_=>T.has [d]
def zD(P:Program):Nat→TypeId→Option Ty
 |0,_=>none
 |n+1,t =>
  match P.underlying t with
  |some .bool=>some .bool
  |some (.int k)=>some (.int k)
  |some .string=>some .str
  |some (.slice e)=>if 0<P.cellsOf e then(zD P n e).map (.slice (P.cellsOf e))else none
  |some (.struct fs)=>(tyF (zD P n) 0 fs.toList).bind fun Ts=>if P.cellsOf t=Ty.yg Ts then some (.struct Ts)else none
  |some (.array m e)=>(zD P n e).bind fun T=>if P.cellsOf e=T.size∧P.cellsOf t=m*T.size then some (.arr m T)else none
  |_=>none
where
 tyF (f:TypeId→Option Ty):Nat→List Field→Option (List Ty)
  |_,[]=>some []
  |o,x::r=>(f x.type).bind fun T=>if x.offset=o∧P.cellsOf x.type=T.size then(tyF f (o+T.size) r).map (T :: ·)else none
section
variable {H:Type} {enc:TypeId×Value→H} {P:Program} {w:World} {base:Nat} {spare:Nat→Bool} {held:Bool}
def Dv(w:World)(T:Ty)(cs:List Value):Prop:=∃ds,aY (G0 w) ds cs∧(∀c∈cs,c.oneCell'=true)∧T.has ds
theorem mapM_some{α β:Type}{f:α→Option β}:∀{l:List α} {r:List β},l.mapM f=some r→r.length=l.length∧∀(i:Nat) (a:α),l[i]?=some a→f a=r[i]?
 |[],r,h=>by simp at h;subst h;simp
 |a::l,r,h=>by
  simp only[List.mapM_cons,Option.pure_def,aC,ah,ae]at h;obtain⟨b,h1,bs,h2,rfl⟩:=h;obtain⟨h3,h4⟩:=mapM_some h2;refine⟨by simp[h3],fun i x hx=>?_⟩;cases i with
  |zero=>simp at hx;subst hx;simpa using h1
  |succ i=>simpa using h4 i x (by simpa using hx)
theorem JL{α:Type}{l:List α}{o n m:Nat}(hn:(l.drop o).length=n+m):(l.drop o)=(l.drop o).take n++l.drop (o+n):=by
 conv=>lhs;rw[← List.take_append_drop n (l.drop o)]
 rw[gw]
theorem u9{cs:List Value}{r:TypeId→List Value→Prop}{f:TypeId→Option Ty}(hf:∀t T cs,f t=some T→r t cs→cs.length=T.size→Dv w T cs):
  ∀{fs:List Field} {o:Nat} {Ts:List Ty},zD.tyF P f o fs=some Ts→cs.length=o+Ty.yg Ts →
   (∀(i:Nat) (x:Field),fs[i]?=some x→r x.type ((cs.drop x.offset).take (P.cellsOf x.type))) →
   ∃ds,aY (G0 w) ds (cs.drop o)∧(∀c∈cs.drop o,c.oneCell'=true)∧Ty.U8 Ts ds
 |[],o,Ts,h,hl,_=>by
  simp[zD.tyF]at h;subst h;simp[Ty.yg]at hl;have:cs.drop o=[]:=by simp;omega
  rw[this];exact⟨[],.nil,by simp,rfl⟩
 |x::fs,o,Ts,h,hl,hr=>by
  simp only[zD.tyF,ah]at h;obtain⟨T,h1,h2⟩:=h;split at h2
  case isFalse=>cases h2
  rename_i hx;simp only[ab]at h2;obtain⟨Ts',h3,rfl⟩:=h2;simp only[Ty.yg]at hl;have h4:=hr 0 x rfl;rw[hx.1,hx.2]at h4;obtain⟨a,ra,oa,ha⟩:=hf _ T _ h1 h4 (by simp;omega);obtain⟨b,rb,ob,hb⟩:=u9 hf h3 (by omega) (fun i y hy=>hr (i+1) y (by simpa using hy));have e:cs.drop o=(cs.drop o).take T.size++cs.drop (o+T.size):=JL (m:=Ty.yg Ts') (by simp;omega);rw[e];refine⟨a++b,ra.append rb,fun c hc=>?_,a,b,rfl,ha,hb⟩;rcases aX.1 hc with hc | hc
  ·exact oa c hc
  ·exact ob c hc
theorem uk{T:Ty}{k:Nat}:∀{n:Nat} {cs:List Value},cs.length=n*k→(∀i,i<n→Dv w T ((cs.drop (i*k)).take k)) →
   ∃xs:List (List D),aY (G0 w) xs.flatten cs∧(∀c∈cs,c.oneCell'=true)∧xs.length=n∧∀x∈xs,x.length=k∧T.has x
 |0,cs,hl,_=>by
  have:cs=[]:=by simpa using hl
  subst this;exact⟨[],.nil,by simp,rfl,by simp⟩
 |n+1,cs,hl,h=>by
  obtain⟨a,ra,oa,ha⟩:=h 0 (by omega);simp only[Nat.zero_mul,aO]at ra oa;have hk:k≤cs.length:=by rw[hl,eS];omega
  obtain⟨xs,rx,ox,hx,hh⟩:=uk (T:=T) (k:=k) (n:=n) (cs:=cs.drop k) (by simp[hl,eS]) (fun i hi=>by
   have:=h (i+1) (by omega);rw[gw];rwa[show(i+1)*k=k+i*k by rw[eS];omega]at this)
  refine⟨a::xs,?_,?_,by simp[hx],?_⟩
  ·have:=ra.append rx;rwa[List.take_append_drop]at this
  ·intro c hc;rw[← List.take_append_drop k cs]at hc;rcases aX.1 hc with hc | hc
   ·exact oa c hc
   ·exact ox c hc
  ·intro x hx';rcases bj.1 hx' with rfl | hx'
   ·exact⟨by rw[ra.length];simp;omega,ha⟩
   ·exact hh x hx'
theorem FX(a:Addr)(m n:Nat):(a.add m).add n=a.add (m+n):=by
 obtain⟨b,o,s⟩:=a;simp only[Addr.add];by_cases hm:m=0<;>by_cases hn:n=0<;>simp[hm,hn,cH]
theorem abK(b o n:Nat):(⟨b,o,none⟩:Addr).add n=⟨b,o+n,none⟩:=by
 simp only[Addr.add];split<;>simp_all
theorem cells?_some{a:Addr}{n:Nat}{vs:List Value}(h:w.cells? base a n=some vs):vs.length=n∧∀i,i<n→w.cell? (a.add i)=vs[i]?:=by
 simp only[World.cells?]at h;split at h
 case isFalse=>cases h
 obtain⟨h1,h2⟩:=mapM_some h;refine⟨by simpa using h1,fun i hi=>h2 i i (by simp[List.getElem?_range,hi])⟩
theorem opens:∀{m:Nat} {t:TypeId} {T:Ty} {fuel:Nat} {cs:List Value} {x:DataW H×List MemPlace},zD P m t=some T→DataW.trod enc P w base spare held fuel t cs=some x→Dv w T cs
 |0,_,_,_,_,_,h,_=>by simp[zD]at h
 |m+1,t,T,fuel,cs,x,h,hd=>by
  simp only[zD]at h;split at h
  ·rename_i ht;cases h;obtain⟨b,rfl,_⟩:=DataW.trod_bool ht hd;exact⟨[.bool b],.cons _ _ _ _ (.bool b) .nil,by simp[Value.oneCell'],b,rfl⟩
  ·rename_i k ht;cases h;obtain⟨n,rfl,_,hw⟩:=DataW.trod_int ht hd;exact⟨[.int k n],.cons _ _ _ _ (.int k n) .nil,by simp[Value.oneCell'],n,rfl,hw⟩
  ·rename_i ht;cases h;obtain⟨s,rfl,_,hs⟩:=DataW.trod_string ht hd;exact⟨[.str s.data.toList],.cons _ _ _ _ (.str s) .nil,by simp[Value.oneCell'],_,rfl,by simpa using hs⟩
  ·rename_i e ht;split at h
   case isFalse=>cases h
   rename_i hw;simp only[ab]at h;obtain⟨E,hE,rfl⟩:=h;rcases DataW.trod_slice ht hd with⟨rfl,_⟩ | ⟨a,len,cap,elems,rest,n,_,rfl,_,_,hl,hm,hel,he,_,_⟩
   ·exact⟨[.aE 0 []],.cons _ _ _ _ .pN .nil,by simp[Value.oneCell'],[],rfl,by simp,by simp⟩
   ·have hget:∀i,i<len→∃vs y,w.cells? base (a.add (i*P.cellsOf e)) (P.cellsOf e)=some vs∧DataW.trod enc P w base spare held n e vs=some y:=by
     intro i hi;have:=he i hi;rw[au (by omega)]at this;simp only[ah]at this;obtain⟨vs,h1,h2⟩:=this;exact⟨vs,_,h1,h2⟩
    have hcell:∀j,j<len*P.cellsOf e→∃v,w.cell? (a.add j)=some v:=by
     intro j hj;have hi:j / P.cellsOf e<len:=Nat.div_lt_of_lt_mul (by rwa[Nat.mul_comm]);obtain⟨vs,y,h1,_⟩:=hget _ hi;obtain⟨h3,h4⟩:=cells?_some h1;have:=h4 (j%P.cellsOf e) (Nat.mod_lt _ hw);rw[show(a.add (j / P.cellsOf e*P.cellsOf e)).add (j%P.cellsOf e)=a.add j by
      rw[FX,Nat.div_add_mod']]at this
     rw[au (by rw[h3];exact Nat.mod_lt _ hw)]at this;exact⟨_,this⟩
    let vs:List Value:=(List.range (len*P.cellsOf e)).map fun j=>(w.cell? (a.add j)).getD Go.undef
    have hvl:vs.length=len*P.cellsOf e:=by simp[vs]
    have hvg:∀j,j<len*P.cellsOf e→w.cell? (a.add j)=vs[j]?:=by
     intro j hj;obtain⟨v,hv⟩:=hcell j hj;simp[vs,List.getElem?_range,hj,hv]
    obtain⟨xs,rx,ox,hx,hh⟩:=uk (w:=w) (T:=E) (k:=P.cellsOf e) (n:=len) (cs:=vs) hvl (fun i hi=>by
     obtain⟨us,y,h1,h2⟩:=hget i hi;obtain⟨h3,h4⟩:=cells?_some h1;have:(vs.drop (i*P.cellsOf e)).take (P.cellsOf e)=us:=by
      apply kh;intro j;have hlt:(i+1)*P.cellsOf e≤len*P.cellsOf e:=bW _ hi;rw[eS]at hlt;by_cases hj:j<P.cellsOf e
      ·rw[List.getElem?_take_of_lt hj,eG,← hvg _ (by omega),← h4 j hj];rw[FX]
      ·rw[bT (by simp;omega),bT (by omega)]
     rw[this];exact opens hE h2)
    have hsp:len≠0→a.spot=none:=by
     intro h0;obtain⟨v,hv⟩:=hcell 0 (Nat.mul_pos (by omega) hw);simpa[Addr.add]using World.cell?_spot hv
    refine⟨[.aE xs.length xs.flatten],.cons _ _ _ _ ?_ .nil,by simp[Value.oneCell'],xs,rfl,by omega,hh⟩;rw[hx];refine .aE _ _ a cap vs hl ?_ hsp rx;intro j v hj;have hlt:j<vs.length:=(an.1 hj).1;have h0:len≠0:=by rintro rfl;simp at hvl;simp[hvl]at hlt
    refine Ca.2 ⟨?_,ox v (aj hj)⟩;have:=hvg j (by omega);rw[hj]at this;have hs:=hsp h0;obtain⟨b,o,s⟩:=a;dsimp only at hs;subst hs;rwa[abK]at this
  ·rename_i fs ht;simp only[ah]at h;obtain⟨Ts,hT,h2⟩:=h;split at h2
   case isFalse=>cases h2
   rename_i hsz;cases h2;obtain⟨xs,n,_,_,hl,hlen,hf⟩:=DataW.trod_struct ht hd;have:=u9 (w:=w) (cs:=cs) (P:=P) (r:=fun t cs=>∃y,DataW.trod enc P w base spare held n t cs=some y) (f:=zD P m) (fun t T cs h1 ⟨y,h2⟩ _=>opens h1 h2) hT (by omega) (fun i x hx=>by
    have h3:=hf i x (by simpa using hx);rw[au (by rw[hlen];have:=(an.1 hx).1;simpa using this)]at h3;exact⟨_,h3⟩)
   simpa[Dv,Ty.has]using this
  ·rename_i n e ht;simp only[ah]at h;obtain⟨E,hE,h2⟩:=h;split at h2
   case isFalse=>cases h2
   rename_i hsz;cases h2;obtain⟨xs,k,_,_,hl,hlen,hf⟩:=DataW.trod_array ht hd;obtain⟨ys,ry,oy,hy,hh⟩:=uk (w:=w) (T:=E) (k:=E.size) (n:=n) (cs:=cs) (by omega) (fun i hi=>by
    have h3:=hf i hi;rw[au (by omega),hsz.1]at h3;exact opens hE h3)
   exact⟨_,ry,oy,ys,rfl,hy,hh⟩
  ·cases h
theorem oT{m:Nat}{t:TypeId}{T:Ty}{r:Reach}{b0:Nat}{v:Value}{d:DataW H}{ps:List MemPlace}(h:zD P m t=some T)(hval:Value.okWide P w r b0 t v)
  (hd:DataW.Trod enc P w base spare held t v d ps):∃x,a8 (G0 w) x v∧T.vJ x:=by
 obtain⟨fuel,hf⟩:=hd;have ho:=opens h hf;obtain⟨ds,hr,h1,hh⟩:=ho;cases m with
 |zero=>simp[zD]at h
 |succ m =>
 simp only[zD]at h;split at h
 ·rename_i ht;cases h;obtain⟨b,rfl⟩:=okWide_bool ht hval;obtain⟨b',rfl⟩:=hh;simp only[Value.cells]at hr;cases hr with | cons _ _ _ _ h3 h4=>exact⟨_,h3,_,rfl⟩
 ·rename_i k ht;cases h;obtain⟨n,rfl⟩:=okWide_int ht hval;obtain⟨n',rfl,hw⟩:=hh;simp only[Value.cells]at hr;cases hr with | cons _ _ _ _ h3 h4=>exact⟨_,h3,_,rfl,hw⟩
 ·rename_i ht;cases h;obtain⟨s,rfl⟩:=okWide_string ht hval;obtain⟨s',rfl,hs⟩:=hh;simp only[Value.cells]at hr;cases hr with | cons _ _ _ _ h3 h4=>exact⟨_,h3,_,rfl,hs⟩
 ·rename_i e ht;split at h
  case isFalse=>cases h
  simp only[ab]at h;obtain⟨E,hE,rfl⟩:=h;obtain⟨a,l,c,rfl⟩:=okWide_slice ht hval;obtain⟨xs,rfl,hs⟩:=hh;simp only[Value.cells]at hr;cases hr with | cons _ _ _ _ h3 h4=>exact⟨_,h3,xs,rfl,hs⟩
 ·rename_i fs ht;simp only[ah]at h;obtain⟨Ts,hT,h2⟩:=h;split at h2
  case isFalse=>cases h2
  cases h2;obtain⟨cs,rfl,_⟩:=okWide_struct ht hval;exact⟨.agg ds,.agg _ _ hr h1,ds,rfl,hh⟩
 ·rename_i n e ht;simp only[ah]at h;obtain⟨E,hE,h2⟩:=h;split at h2
  case isFalse=>cases h2
  cases h2;simp only[Value.okWide,ht]at hval;obtain⟨cs,rfl,_⟩:=hval;exact⟨.agg ds,.agg _ _ hr h1,ds,rfl,hh⟩
 ·cases h
end
variable {T:sn} {O:bd}
theorem ar.{u}{α:Sort u}{a b:α}(h:a=b):a=b:=h
inductive Mark.{u} {α:Sort u} (a:α):Type
 |mk
def WO(O:bd)(ops:List Op)(e:Env)(σ:SK)(Q:Env→SK→Prop)(_m:Mark Q:=.mk):Prop:=∃e' σ',iI O ops e σ=some (e',σ')∧Q e' σ'
def WC(O:bd)(c:bQ)(e:Env)(σ:SK)(Q:Exit→Env→SK→Prop)(_m:Mark c:=.mk)(_m':Mark Q:=.mk):Prop:=∃x e' σ',aL O c e σ=some (x,e',σ')∧Q x e' σ'
def WV(o:Option (D×SK))(Q:D→SK→Prop)(_m:Mark Q:=.mk):Prop:=∃d σ',o=some (d,σ')∧Q d σ'
def WL(T:sn)(live:List Nat)(oE:Bool)(c:bQ)(e:Env)(σ:SK)(Q:Exit→Env→SK→Prop)(_m:Mark c:=.mk)(_m':Mark Q:=.mk):Prop:=∃x e' σ',bG T (.loop live oE c e σ)=some (.tJ x e' σ')∧Q x e' σ'
theorem WO.mono{ops:List Op}{e:Env}{σ:SK}{Q Q':Env→SK→Prop}(h:WO O ops e σ Q)(hq:∀e σ,Q e σ→Q' e σ):WO O ops e σ Q' :=
 let ⟨e',σ',h1,h2⟩:=h;⟨e',σ',h1,hq _ _ h2⟩
theorem WC.mono{c:bQ}{e:Env}{σ:SK}{Q Q':Exit→Env→SK→Prop}(h:WC O c e σ Q)(hq:∀x e σ,Q x e σ→Q' x e σ):WC O c e σ Q' :=
 let ⟨x,e',σ',h1,h2⟩:=h;⟨x,e',σ',h1,hq _ _ _ h2⟩
theorem WL.mono{live:List Nat}{oE:Bool}{c:bQ}{e:Env}{σ:SK}{Q Q':Exit→Env→SK→Prop}(h:WL T live oE c e σ Q)(hq:∀x e σ,Q x e σ→Q' x e σ):WL T live oE c e σ Q' :=
 let ⟨x,e',σ',h1,h2⟩:=h;⟨x,e',σ',h1,hq _ _ _ h2⟩
def WD{α:Type}(o:Option α)(Q:α→Prop)(_m:Mark Q:=.mk):Prop:=∃d,o=some d∧Q d
@[simp,simp ↓] theorem wO{α:Type}{d:α}{Q:α→Prop}:WD (some d) Q=Q d:=by
 simp only[WD,ae,eq_iff_iff];exact⟨fun⟨_,h,h'⟩=>by rw[h];exact h',fun h=>⟨_,rfl,h⟩⟩
@[simp,simp ↓] theorem Kw{α:Type}{Q:α→Prop}:WD none Q=False:=by simp[WD]
def AV:D→Option Bool
 |.bool b=>some b
 |_=>none
@[simp] theorem Uk{b:Bool}:AV (.bool b)=some b:=ar rfl
@[simp] theorem XB{b:Bool}:(D.bool b).bit=some (some b):=ar rfl
@[simp] theorem aaN:(D.fj []).bit=some none:=ar rfl
def Uq(k:IntKind):D→Option D
 |.int _ m=>some (.int k (k.wrap m))
 |_=>none
@[simp] theorem XG{k k':IntKind}{m:Int}:Uq k (.int k' m)=some (.int k (k.wrap m)):=ar rfl
@[simp,simp ↓] theorem aaL{d:D}{σ:SK}{Q:D→SK→Prop}:WV (some (d,σ)) Q=Q d σ:=by
 simp only[WV,ae,ai,eq_iff_iff];constructor
 ·rintro⟨_,_,⟨rfl,rfl⟩,h⟩;exact h
 ·exact fun h=>⟨_,_,⟨rfl,rfl⟩,h⟩
@[simp,simp ↓] theorem aaK{Q:D→SK→Prop}:WV none Q=False:=by simp[WV]
@[simp,simp ↓] theorem abF{e:Env}{σ:SK}{Q:Env→SK→Prop}:WO O [] e σ Q=Q e σ:=by
 simp only[WO,iI,ae,ai,eq_iff_iff];constructor
 ·rintro⟨_,_,⟨rfl,rfl⟩,h⟩;exact h
 ·exact fun h=>⟨_,_,⟨rfl,rfl⟩,h⟩
def aco(d:D)(w:Bool):Option Bool :=
 match d with
 |.bool b=>some (b == w)
 |_=>none
@[simp,simp ↓] theorem abw{d:Option Nat}{g:Nat}{w n:Bool}{k:K}{r:List Op}{e:Env}{σ:SK}{Q:Env→SK→Prop}:
  WO O (⟨d,some (g,w),n,k⟩::r) e σ Q=WD (get e g).bit fun b=>if b=some w then WO O (⟨d,none,n,k⟩::r) e σ Q else WO O r (put d (.fj []) e) σ Q:=by
 cases h:(get e g).bit<;>simp only[WO,iI,h,reduceCtorEq,false_and,exists_false,Kw,wO];rename_i b;by_cases hb:b=some w
 ·simp only[hb,if_true];rfl
 ·simp only[if_neg hb]
theorem cB{d:Option Nat}{n:Bool}{k:K}{r:List Op}{e:Env}{σ:SK}{Q:Env→SK→Prop}(h:oF O ⟨d,none,n,k⟩ e σ=(a7 e σ k).map fun x=>(put d x.1 e,x.2)):
  WO O (⟨d,none,n,k⟩::r) e σ Q=WV (a7 e σ k) fun v σ'=>WO O r (put d v e) σ' Q:=by
 simp only[WO,iI,h,WV,eq_iff_iff];constructor
 ·rintro⟨e',σ',h1,h2⟩;cases hs:a7 e σ k with
  |none=>simp[hs]at h1
  |some y=>simp[hs]at h1;exact⟨y.1,y.2,rfl,e',σ',h1,h2⟩
 ·rintro⟨v,σ1,h1,e',σ',h2,h3⟩;exact⟨e',σ',by simp[h1,h2],h3⟩
theorem jC{o:Option (D×SK)}{o':Option D}{σ:SK}{Q:D→SK→Prop}(h:o=o'.map (·,σ)):WV o Q=WD o' fun v=>Q v σ:=by
 subst h;cases o'<;>simp
def Vb:D→Option D
 |.bw=>some (.int .i64 0)
 |.aE n _=>some (.int .i64 n)
 |.sl _ _ _ _ n _=>some (.int .i64 n)
 |_=>none
@[simp] theorem Zy{n:Nat}{cs:List D}:Vb (.aE n cs)=some (.int .i64 n):=ar rfl
@[simp] theorem aaU{l i v o n w:Nat}:Vb (.sl l i v o n w)=some (.int .i64 n):=ar rfl
def Cy(ag:Bool)(sz:Nat):Option (List D)→Option D
 |some cs =>
  if sz≤cs.length then
   if ag then some (.agg (cs.take sz))else
   match cs with
   |d::_=>some d
   |[]=>none
  else none
 |none=>none
@[simp] theorem abR{sz:Nat}{cs:List D}:Cy true sz (some cs)=if sz≤cs.length then some (.agg (cs.take sz))else none:=ar rfl
@[simp] theorem aaT{d:D}{cs:List D}:Cy false 1 (some (d::cs))=some d:=by simp[Cy]
@[simp] theorem ZM{σ:SK}{cs:List D}:wq σ (.aK cs)=some cs:=ar rfl
@[simp] theorem aa0{σ:SK}{l i v off:Nat}:wq σ (.ref l i v off)=(cells? σ l i v).map (·.drop off):=ar rfl
def Jf(e:Env)(v:Nat)(ag:Bool)(sz a:Nat):Option D:=Cy ag sz ((lC e v a).map fun x=>x.2.1.drop x.2.2)
def Gc:D→Option (List D)
 |.aK cs=>some cs
 |_=>none
@[simp] theorem Uo{cs:List D}:Gc (.aK cs)=some cs:=ar rfl
@[simp] theorem Zr{n:Nat}{cs:List D}:Aa false (.aE n cs)=if n=0 then none else some false:=ar rfl
def Vh:D→Option D
 |.aK cs=>some (.aK cs)
 |.ref l i v off=>some (.ref l i v off)
 |_=>none
@[simp] theorem WK{cs:List D}:Vh (.aK cs)=some (.aK cs):=ar rfl
@[simp] theorem ZD{l i v off:Nat}:Vh (.ref l i v off)=some (.ref l i v off):=ar rfl
def unD:UnOp→D→Option D
 |.not,.bool b=>some (.bool !b)
 |.neg,.int k n=>some (.int k (k.wrap (0-n)))
 |.xor,.int k n=>some (.int k (k.wrap ((BitVec.ofInt k.bits (if k.signed then -1 else k.max) ^^^ BitVec.ofInt k.bits n).toNat:Int)))
 |_,_=>none
@[simp] theorem aa7{b:Bool}:unD .not (.bool b)=some (.bool !b):=ar rfl
@[simp] theorem aa6{k:IntKind}{n:Int}:unD .neg (.int k n)=some (.int k (k.wrap (0-n))):=ar rfl
def A8(n off:Nat):D→Option D
 |.aK cs=>some (.aK (cs.drop off))
 |.ref l i v o=>some (.ref l i v (o+off))
 |.own s _=>some (.vr n s off)
 |.vr v s o=>some (.vr v s (o+off))
 |_=>none
@[simp] theorem U0{n off:Nat}{cs:List D}:A8 n off (.aK cs)=some (.aK (cs.drop off)):=ar rfl
@[simp] theorem Ws{n off l i v o:Nat}:A8 n off (.ref l i v o)=some (.ref l i v (o+off)):=ar rfl
@[simp] theorem Wr{n off s:Nat}{cs:List D}:A8 n off (.own s cs)=some (.vr n s off):=ar rfl
@[simp] theorem Zi{n off v s o:Nat}:A8 n off (.vr v s o)=some (.vr v s (o+off)):=ar rfl
def acz(ag:Bool)(off sz:Nat):D→Option D
 |.agg cs =>
  if off+sz≤cs.length then
   if ag then some (.agg ((cs.drop off).take sz))else cs[off]?
  else none
 |_=>none
def DM(m len w:Nat)(x i:D):Option D :=
 match uV i with
 |some n =>
  if 0≤n∧n<len then
   match x with
   |.aK cs=>some (.aK ((cs.drop (n.toNat*w)).take w))
   |.ref l j v off=>some (.ref l j v (off+n.toNat*w))
   |.own s _=>some (.vr m s (n.toNat*w))
   |.vr v s o=>some (.vr v s (o+n.toNat*w))
   |_=>none
  else none
 |none=>none
@[simp] theorem U9{m len w:Nat}{cs:List D}{k:IntKind}{n:Int}:DM m len w (.aK cs) (.int k n)=if 0≤n∧n<len then some (.aK ((cs.drop (n.toNat*w)).take w))else none:=ar rfl
@[simp] theorem Wy{m len w l j v off:Nat}{k:IntKind}{n:Int}:DM m len w (.ref l j v off) (.int k n)=if 0≤n∧n<len then some (.ref l j v (off+n.toNat*w))else none:=ar rfl
def DN(w:Nat)(x i:D):Option D :=
 match x,uV i with
 |.aE m cs,some n=>if 0≤n∧n<m then some (.aK ((cs.drop (n.toNat*w)).take w))else none
 |.sl l j v off m w',some n=>if 0≤n∧n<m∧w'=w then some (.ref l j v (off+n.toNat*w))else none
 |_,_=>none
@[simp] theorem Wz{w m:Nat}{cs:List D}{k:IntKind}{n:Int}:DN w (.aE m cs) (.int k n)=if 0≤n∧n<m then some (.aK ((cs.drop (n.toNat*w)).take w))else none:=ar rfl
@[simp] theorem Zo{w l j v off m w':Nat}{k:IntKind}{n:Int}:DN w (.sl l j v off m w') (.int k n)=if 0≤n∧n<m∧w'=w then some (.ref l j v (off+n.toNat*w))else none:=ar rfl
def I1(ag:Bool)(len w:Nat)(x i:D):Option D :=
 match x,uV i with
 |.agg cs,some n =>
  if 0≤n∧n<len∧(n.toNat+1)*w≤cs.length then
   if ag then some (.agg ((cs.drop (n.toNat*w)).take w))else cs[n.toNat*w]?
  else none
 |_,_=>none
@[simp] theorem WA{ag:Bool}{len w:Nat}{cs:List D}{k:IntKind}{n:Int}:I1 ag len w (.agg cs) (.int k n)=if 0≤n∧n<len∧(n.toNat+1)*w≤cs.length then(if ag then some (.agg ((cs.drop (n.toNat*w)).take w))else cs[n.toNat*w]?)else none:=ar rfl
def mnD(x y:D):Option D :=
 match x,y with
 |.int k a,.int _ b=>some (.int k (min a b))
 |_,_=>none
@[simp] theorem aaV{k k':IntKind}{a b:Int}:mnD (.int k a) (.int k' b)=some (.int k (min a b)):=ar rfl
def mxD(x y:D):Option D :=
 match x,y with
 |.int k a,.int _ b=>some (.int k (max a b))
 |_,_=>none
@[simp] theorem aaW{k k':IntKind}{a b:Int}:mxD (.int k a) (.int k' b)=some (.int k (max a b)):=ar rfl
def XK(x:D)(i:Nat):Option D :=
 match x with
 |.fj ds=>ds[i]?
 |_=>none
@[simp] theorem XL{ds:List D}{i:Nat}:XK (.fj ds) i=ds[i]?:=ar rfl
def Uw(ag:Bool)(ks:List (Option IntKind))(neg:Bool)(x y:D):Option D :=
 match x.row ag,y.row ag with
 |some p,some q=>(pV ks p q).map fun b => .bool (if neg then !b else b)
 |_,_=>none
@[simp] theorem aaP{ks:List (Option IntKind)}{neg:Bool}{p q:List D}:Uw true ks neg (.agg p) (.agg q)=(pV ks p q).map fun b => .bool (if neg then !b else b):=ar rfl
@[simp] theorem ZN{k k1 k2:IntKind}{ks:List (Option IntKind)}{a b:Int}{x y:List D}:pV (some k::ks) (.int k1 a::x) (.int k2 b::y)=if k1=k∧k2=k then(pV ks x y).map (a == b && ·)else none:=ar rfl
def We(w:Nat)(x:D)(e:Env)(lo hi mx:Option ba):Option D :=
 match x with
 |.aE n cs=>(bounds n e lo hi mx).map fun b => .aE (b.2-b.1) ((cs.drop (b.1*w)).take ((b.2-b.1)*w))
 |.sl l i v off n w'=>if w'=w then(bounds n e lo hi mx).map fun b => .sl l i v (off+b.1*w) (b.2-b.1) w else none
 |.bw=>(bounds 0 e lo hi mx).map fun _ => .bw
 |_=>none
@[simp] theorem aam{w n:Nat}{cs:List D}{e:Env}{lo hi mx:Option ba}:We w (.aE n cs) e lo hi mx=(bounds n e lo hi mx).map fun b => .aE (b.2-b.1) ((cs.drop (b.1*w)).take ((b.2-b.1)*w)):=ar rfl
section bins
variable {k:IntKind} {a b:Int}
@[simp] theorem Xp:nV .add (.int k a) (.int k b)=some (.int k (k.wrap (a+b))):=by simp[nV]
@[simp] theorem XA:nV .sub (.int k a) (.int k b)=some (.int k (k.wrap (a-b))):=by simp[nV]
@[simp] theorem Xw:nV .mul (.int k a) (.int k b)=some (.int k (k.wrap (a*b))):=by simp[nV]
@[simp] theorem Xy:nV .quo (.int k a) (.int k b)=if b≠0 then some (.int k (k.wrap (a.tdiv b)))else none:=by simp[nV]
@[simp] theorem Xz:nV .rem (.int k a) (.int k b)=if b≠0 then some (.int k (a.tmod b))else none:=by simp[nV]
@[simp] theorem Xq:nV .eql (.int k a) (.int k b)=some (.bool (a == b)):=by simp[nV]
@[simp] theorem Xx:nV .neq (.int k a) (.int k b)=some (.bool (a != b)):=by simp[nV]
@[simp] theorem Xv:nV .lss (.int k a) (.int k b)=some (.bool (decide (a<b))):=by simp[nV]
@[simp] theorem Xu:nV .leq (.int k a) (.int k b)=some (.bool (decide (a≤b))):=by simp[nV]
@[simp] theorem Xt:nV .gtr (.int k a) (.int k b)=some (.bool (decide (b<a))):=by simp[nV]
@[simp] theorem Xr:nV .geq (.int k a) (.int k b)=some (.bool (decide (b≤a))):=by simp[nV]
end bins
@[simp] theorem Ld:D.strip .undef=.undef:=ar rfl
@[simp] theorem TC{b:Bool}:D.strip (.bool b)=.bool b:=ar rfl
@[simp] theorem VN{k:IntKind}{n:Int}:D.strip (.int k n)=.int k n:=ar rfl
@[simp] theorem VQ{s:List UInt8}:D.strip (.str s)=.str s:=ar rfl
@[simp] theorem VL{cs:List D}:D.strip (.agg cs)=.agg cs:=ar rfl
@[simp] theorem VR{cs:List D}:D.strip (.fj cs)=.fj cs:=ar rfl
@[simp] theorem VP{l i v o:Nat}:D.strip (.ref l i v o)=.ref l i v o:=ar rfl
@[simp] theorem TD{cs:List D}:D.strip (.aK cs)=.aK cs:=ar rfl
@[simp] theorem TF:D.strip .bw=.bw:=ar rfl
@[simp] theorem VO{n:Nat}{cs:List D}:D.strip (.aE n cs)=.aE n cs:=ar rfl
@[simp] theorem Xb{l i v o n w:Nat}:D.strip (.sl l i v o n w)=.sl l i v o n w:=ar rfl
@[simp] theorem Xa{f:Nat}{a b:List D}:D.strip (.fn f a b)=.fn f a b:=ar rfl
@[simp] theorem VM{t:Nat}{d:D}:D.strip (.o9 t d)=.o9 t d:=ar rfl
@[simp] theorem TE:D.strip .kL=.kL:=ar rfl
@[simp] theorem WW{t:Nat}{d:D}:D.calm (.o9 t d)=.o9 t d:=ar rfl
@[simp] theorem Vv:D.calm .kL=.kL:=ar rfl
@[simp] theorem VS{l i:Nat}:D.strip (.iN l i)=.iN l i:=ar rfl
@[simp] theorem Tt:D.calm .undef=.undef:=ar rfl
@[simp] theorem Vt{b:Bool}:D.calm (.bool b)=.bool b:=ar rfl
@[simp] theorem WX{k:IntKind}{n:Int}:D.calm (.int k n)=.int k n:=ar rfl
@[simp] theorem W3{s:List UInt8}:D.calm (.str s)=.str s:=ar rfl
@[simp] theorem WU{cs:List D}:D.calm (.agg cs)=.agg cs:=ar rfl
@[simp] theorem W0{l i v o:Nat}:D.calm (.ref l i v o)=.ref l i v o:=ar rfl
@[simp] theorem Vu{cs:List D}:D.calm (.aK cs)=.aK cs:=ar rfl
@[simp] theorem Vw:D.calm .bw=.bw:=ar rfl
@[simp] theorem WY{n:Nat}{cs:List D}:D.calm (.aE n cs)=.aE n cs:=ar rfl
@[simp] theorem ZL{l i v o n w:Nat}:D.calm (.sl l i v o n w)=.sl l i v o n w:=ar rfl
@[simp] theorem ZK{f:Nat}{a b:List D}:D.calm (.fn f a b)=.fn f a b:=ar rfl
@[simp] theorem W4{l i:Nat}:D.calm (.iN l i)=.iN l i:=ar rfl
@[simp] theorem WZ{s:Nat}{cs:List D}:D.calm (.own s cs)=.own 0 cs:=ar rfl
@[simp] theorem Tu{b:Bool}:D.cells (.bool b)=some [.bool b]:=ar rfl
@[simp] theorem Vy{k:IntKind}{n:Int}:D.cells (.int k n)=some [.int k n]:=ar rfl
@[simp] theorem VA{s:List UInt8}:D.cells (.str s)=some [.str s]:=ar rfl
@[simp] theorem Vx{cs:List D}:D.cells (.agg cs)=some cs:=ar rfl
@[simp] theorem Tv{cs:List D}:D.cells (.aK cs)=some [.aK cs]:=ar rfl
@[simp] theorem Tw:D.cells .bw=some [.bw]:=ar rfl
@[simp] theorem Vz{n:Nat}{cs:List D}:D.cells (.aE n cs)=some [.aE n cs]:=ar rfl
@[simp] theorem W6{l i v o n w:Nat}:D.cells (.sl l i v o n w)=some [.sl l i v o n w]:=ar rfl
@[simp] theorem W5{f:Nat}{a b:List D}:D.cells (.fn f a b)=some [.fn f a b]:=ar rfl
@[simp] theorem VB{l i:Nat}:D.cells (.iN l i)=some [.iN l i]:=ar rfl
@[simp] theorem Zp{k:IntKind}{n:Int}:uV (.int k n)=some n:=ar rfl
@[simp] theorem uK{O:bd}{kp:Bool}{f:Nat}{first cap args:List D}{σ:SK}:kN O kp (.fn f first cap) args σ=R.aP (O (.call kp f (first++args++cap) σ)):=ar rfl
@[simp] theorem Wo{O:bd}{kp:Bool}{l i:Nat}{args:List D}{σ:SK}:kN O kp (.iN l i) args σ=R.aP (O (.round l i args σ)):=ar rfl
@[simp] theorem aaw{d:D}{σ:SK}:R.aP (some (.val d σ))=some (d,σ):=ar rfl
section ops
variable {d:Option Nat} {n:Bool} {r:List Op} {e:Env} {σ:SK} {Q:Env→SK→Prop}
@[simp,simp ↓] theorem ach{x:ba}:WO O (⟨d,none,n,.mv x⟩::r) e σ Q=WO O r (put d (aR e x) e) σ Q:=by rw[cB rfl];simp[a7]
@[simp,simp ↓] theorem aaI{w:Nat}:WO O (⟨d,none,n,.rC w⟩::r) e σ Q=WV (a7 e σ (.rC w)) fun v σ'=>WO O r (put d v e) σ' Q:=cB rfl
@[simp,simp ↓] theorem abk{nb:List (Nat×Nat)}{cs:List D}:WO O (⟨d,none,n,.Ch nb cs⟩::r) e σ Q=WV (a7 e σ (.Ch nb cs)) fun v σ'=>WO O r (put d v e) σ' Q:=cB rfl
@[simp,simp ↓] theorem aaJ{c a b:ba}:WO O (⟨d,none,n,.pick c a b⟩::r) e σ Q=WD (AV (aR e c)) fun t=>WO O r (put d (if t then aR e a else aR e b) e) σ Q:=by
 rw[cB rfl];simp only[a7];cases aR e c<;>simp[AV]
@[simp,simp ↓] theorem aaA{x:ba}:WO O (⟨d,none,n,.yC x⟩::r) e σ Q=WD (aR e x).cells fun cs=>WO O r (put d (.aK cs) e) σ Q:=by
 rw[cB rfl];simp only[a7];cases(aR e x).cells<;>simp
@[simp,simp ↓] theorem aaB{x:ba}:WO O (⟨d,none,n,.xr x⟩::r) e σ Q=WV (a7 e σ (.xr x)) fun v σ'=>WO O r (put d v e) σ' Q:=cB rfl
@[simp,simp ↓] theorem abr{nb:List (Nat×Nat)}{x:ba}:WO O (⟨d,none,n,.JW nb x⟩::r) e σ Q=WV (a7 e σ (.JW nb x)) fun v σ'=>WO O r (put d v e) σ' Q:=cB rfl
@[simp,simp ↓] theorem abo{z:List D}{ps:List (Nat×Nat×ba)}:WO O (⟨d,none,n,.o7 z ps⟩::r) e σ Q=WD (lB e ps z) fun cs=>WO O r (put d (.agg cs) e) σ Q:=by
 rw[cB rfl];simp only[a7];cases lB e ps z<;>simp
@[simp,simp ↓] theorem abp{m w:Nat}{z:List D}{ps:List (Nat×Nat×ba)}:WO O (⟨d,none,n,.wH m w z ps⟩::r) e σ Q=WD (lB e ps z) fun cs=>WO O r (put d (.aE m cs) e) σ Q:=by
 rw[cB rfl];simp only[a7];cases lB e ps z<;>simp
@[simp,simp ↓] theorem abq{m w:Nat}{z:List D}{ps:List (Nat×Nat×ba)}:WO O (⟨d,none,n,.Fb m w z ps⟩::r) e σ Q=WV (a7 e σ (.Fb m w z ps)) fun v σ'=>WO O r (put d v e) σ' Q:=cB rfl
@[simp,simp ↓] theorem ace{ag:Bool}{sz:Nat}{a:ba}:WO O (⟨d,none,n,.ld ag sz a⟩::r) e σ Q=WD (Cy ag sz (wq σ (aR e a))) fun v=>WO O r (put d v e) σ Q:=by
 rw[cB rfl];refine jC ?_;simp only[a7];cases wq σ (aR e a)with
 |none=>rfl
 |some cs =>
  simp only[Cy];split
  ·cases ag
   ·cases cs<;>rfl
   ·rfl
  ·rfl
@[simp,simp ↓] theorem abz{ag:Bool}{sz:Nat}{a:ba}:WO O (⟨d,none,n,.AD ag sz a⟩::r) e σ Q=WD (Cy ag sz (Gc (aR e a))) fun v=>WO O r (put d v e) σ Q:=by
 rw[cB rfl];refine jC ?_;simp only[a7];cases aR e a with
 |aK cs =>
  simp only[Gc,Cy];split
  ·cases ag
   ·cases cs<;>rfl
   ·rfl
  ·rfl
 |_=>rfl
@[simp,simp ↓] theorem aby{ps neg:Bool}{x:ba}:WO O (⟨d,none,n,.KT ps neg x⟩::r) e σ Q=WD (Aa ps (aR e x)) fun b=>WO O r (put d (.bool (if neg then !b else b)) e) σ Q:=by
 rw[cB rfl];simp only[a7];cases Aa ps (aR e x)<;>simp
@[simp,simp ↓] theorem abE{x:ba}:WO O (⟨d,none,n,.uj x⟩::r) e σ Q=WD (Vh (aR e x)) fun v=>WO O r (put d v e) σ Q:=by
 rw[cB rfl];refine jC ?_;simp only[a7];cases aR e x<;>rfl
@[simp,simp ↓] theorem acj{nb:List (Nat×Nat)}{sz:Nat}{a x:ba}:WO O (⟨d,none,n,.st nb sz a x⟩::r) e σ Q=WV (a7 e σ (.st nb sz a x)) fun v σ'=>WO O r (put d v e) σ' Q:=cB rfl
@[simp,simp ↓] theorem abA{v:Nat}{ag:Bool}{sz a:Nat}:WO O (⟨d,none,n,.Ff v ag sz a⟩::r) e σ Q=WD (Jf e v ag sz a) fun v=>WO O r (put d v e) σ Q:=by
 rw[cB rfl];refine jC ?_;simp only[a7,Jf];cases lC e v a with
 |none=>rfl
 |some x =>
  obtain⟨s,cs,off⟩:=x;simp only[Cy,aM];split
  ·cases ag
   ·cases cs.drop off<;>rfl
   ·rfl
  ·rfl
@[simp,simp ↓] theorem abn{o:BinOp}{x y:ba}:WO O (⟨d,none,n,.bin o x y⟩::r) e σ Q=WD (nV o (aR e x) (aR e y)) fun v=>WO O r (put d v e) σ Q:=by
 rw[cB rfl];simp only[a7];cases nV o (aR e x) (aR e y)<;>simp
@[simp,simp ↓] theorem abu{ag:Bool}{ks:List (Option IntKind)}{neg:Bool}{x y:ba}:WO O (⟨d,none,n,.eqv ag ks neg x y⟩::r) e σ Q=WD (Uw ag ks neg (aR e x) (aR e y)) fun v=>WO O r (put d v e) σ Q:=by
 rw[cB rfl];refine jC ?_;simp only[a7,Uw];cases(aR e x).row ag<;>cases(aR e y).row ag<;>simp[Option.map_map,Function.comp_def]
@[simp,simp ↓] theorem ack{o:UnOp}{x:ba}:WO O (⟨d,none,n,.un o x⟩::r) e σ Q=WD (unD o (aR e x)) fun v=>WO O r (put d v e) σ Q:=by
 rw[cB rfl];refine jC ?_;simp only[a7];cases o<;>cases aR e x<;>rfl
@[simp,simp ↓] theorem abt{k:IntKind}{x:ba}:WO O (⟨d,none,n,.Fc k x⟩::r) e σ Q=WD (Uq k (aR e x)) fun v=>WO O r (put d v e) σ Q:=by
 rw[cB rfl];simp only[a7];cases aR e x<;>simp[Uq]
@[simp,simp ↓] theorem abG{p:Pu}{xs:List ba}:WO O (⟨d,none,n,.uA p xs⟩::r) e σ Q=WD (wV p (xs.map (aR e))) fun v=>WO O r (put d v e) σ Q:=by
 rw[cB rfl];simp only[a7];cases wV p (xs.map (aR e))<;>simp
@[simp,simp ↓] theorem acg{p:Mo}{xs:List ba}:WO O (⟨d,none,n,.mp p xs⟩::r) e σ Q=WV (vk σ p (xs.map (aR e))) fun v σ'=>WO O r (put d v e) σ' Q:=cB rfl
@[simp,simp ↓] theorem abC{t:Nat}{x:ba}:WO O (⟨d,none,n,.To t x⟩::r) e σ Q=WO O r (put d (.o9 t (aR e x)) e) σ Q:=by rw[cB rfl];simp[a7]
@[simp,simp ↓] theorem abJ{t:Nat}{z:Option D}{x:ba}:WO O (⟨d,none,n,.Ll t z x⟩::r) e σ Q=WD (C4 t z (aR e x)) fun v=>WO O r (put d v e) σ Q:=by
 rw[cB rfl];simp only[a7];cases C4 t z (aR e x)<;>simp
@[simp,simp ↓] theorem abx{neg:Bool}{x:ba}:WO O (⟨d,none,n,.KS neg x⟩::r) e σ Q=WD (I8 (aR e x)) fun b=>WO O r (put d (.bool (if neg then !b else b)) e) σ Q:=by
 rw[cB rfl];simp only[a7];cases I8 (aR e x)<;>simp
@[simp] theorem WB:I8 .kL=some true:=ar rfl
@[simp] theorem Zq{t:Nat}{d:D}:I8 (.o9 t d)=some false:=ar rfl
@[simp] theorem aaq{t t':Nat}{z d:D}:C4 t (some z) (.o9 t' d)=some (if t'=t then .fj [d,.bool true]else .fj [z,.bool false]):=ar rfl
@[simp,simp ↓] theorem abB{f:Nat}{xs ys:List ba}:WO O (⟨d,none,n,.wo f xs ys⟩::r) e σ Q=WO O r (put d (.fn f (xs.map (aR e)) (ys.map (aR e))) e) σ Q:=by rw[cB rfl];simp[a7]
@[simp,simp ↓] theorem abD{w b:Nat}{z:List D}{l c:ba}:WO O (⟨d,none,n,.Jl w b z l c⟩::r) e σ Q=WV (a7 e σ (.Jl w b z l c)) fun v σ'=>WO O r (put d v e) σ' Q:=cB rfl
@[simp,simp ↓] theorem abH{w:Nat}{x:ba}{lo hi mx:Option ba}:WO O (⟨d,none,n,.Lf w x lo hi mx⟩::r) e σ Q=WD (We w (aR e x) e lo hi mx) fun v=>WO O r (put d v e) σ Q:=by
 rw[cB rfl];refine jC ?_;simp only[a7,We];cases aR e x<;>first | rfl | (simp only[];split<;>simp[Option.map_map,Function.comp_def]) | simp[Option.map_map,Function.comp_def]
@[simp,simp ↓] theorem aaD{off m:Nat}:WO O (⟨d,none,n,.yG off (.t m)⟩::r) e σ Q=WD (A8 m off (get e m)) fun v=>WO O r (put d v e) σ Q:=by
 rw[cB rfl];refine jC ?_;simp only[a7];cases get e m<;>rfl
@[simp,simp ↓] theorem aaE{l w m:Nat}{i:ba}:WO O (⟨d,none,n,.lH l w (.t m) i⟩::r) e σ Q=WD (DM m l w (get e m) (aR e i)) fun v=>WO O r (put d v e) σ Q:=by
 rw[cB rfl];refine jC ?_;simp only[a7,DM];cases uV (aR e i)with
 |none=>rfl
 |some k=>simp only[];split<;>cases get e m<;>rfl
@[simp,simp ↓] theorem aaF{w:Nat}{x i:ba}:WO O (⟨d,none,n,.wI w x i⟩::r) e σ Q=WD (DN w (aR e x) (aR e i)) fun v=>WO O r (put d v e) σ Q:=by
 rw[cB rfl];refine jC ?_;simp only[a7,DN];cases uV (aR e i)with
 |none=>cases aR e x<;>rfl
 |some k=>cases aR e x<;>first | rfl | (simp only[];split<;>rfl)
@[simp,simp ↓] theorem aaG{ag:Bool}{l w:Nat}{x i:ba}:WO O (⟨d,none,n,.Bp ag l w x i⟩::r) e σ Q=WD (I1 ag l w (aR e x) (aR e i)) fun v=>WO O r (put d v e) σ Q:=by
 rw[cB rfl];refine jC ?_;simp only[a7,I1];cases uV (aR e i)with
 |none=>cases aR e x<;>rfl
 |some k=>cases aR e x<;>first | rfl | (simp only[];split<;>cases ag<;>simp)
@[simp,simp ↓] theorem aaH{x:ba}:WO O (⟨d,none,n,.yK x⟩::r) e σ Q=WD (Vb (aR e x)) fun v=>WO O r (put d v e) σ Q:=by
 rw[cB rfl];refine jC ?_;simp only[a7];cases aR e x<;>rfl
@[simp,simp ↓] theorem acf{x y:ba}:WO O (⟨d,none,n,.mn x y⟩::r) e σ Q=WD (mnD (aR e x) (aR e y)) fun v=>WO O r (put d v e) σ Q:=by
 rw[cB rfl];refine jC ?_;simp only[a7];cases aR e x<;>cases aR e y<;>rfl
@[simp,simp ↓] theorem aci{x y:ba}:WO O (⟨d,none,n,.mx x y⟩::r) e σ Q=WD (mxD (aR e x) (aR e y)) fun v=>WO O r (put d v e) σ Q:=by
 rw[cB rfl];refine jC ?_;simp only[a7];cases aR e x<;>cases aR e y<;>rfl
@[simp,simp ↓] theorem abm{w b:Nat}{s x:ba}:WO O (⟨d,none,n,.JV w b s x⟩::r) e σ Q=WV (a7 e σ (.JV w b s x)) fun v σ'=>WO O r (put d v e) σ' Q:=cB rfl
@[simp,simp ↓] theorem abl{w b:Nat}{s x:ba}:WO O (⟨d,none,n,.app w b s x⟩::r) e σ Q=WV (a7 e σ (.app w b s x)) fun v σ'=>WO O r (put d v e) σ' Q:=cB rfl
@[simp,simp ↓] theorem abv{x:ba}{i:Nat}:WO O (⟨d,none,n,.ext x i⟩::r) e σ Q=WD (XK (aR e x) i) fun v=>WO O r (put d v e) σ Q:=by
 rw[cB rfl];refine jC ?_;simp only[a7];cases aR e x<;>rfl
@[simp,simp ↓] theorem aaC{kp:Bool}{f:ba}{args:List ba}:WO O (⟨d,none,n,.call kp f args⟩::r) e σ Q =
  WV (kN O kp (aR e f) (args.map (aR e)) σ) fun v σ'=>(n=true→σ'=σ)∧WO O r (put d v e) σ' Q:=by
 simp only[WO,iI,oF,WV,eq_iff_iff];cases hc:kN O kp (aR e f) (args.map (aR e)) σ with
 |none=>simp
 |some y =>
  obtain⟨v,σ1⟩:=y;by_cases hn:n=true→σ1=σ
  ·simp only[if_pos hn,Option.bind_some,ae,ai];exact⟨fun h=>⟨v,σ1,⟨rfl,rfl⟩,hn,h⟩,fun⟨_,_,⟨h1,h2⟩,_,h⟩=>by subst h1 h2;exact h⟩
  ·simp only[if_neg hn,Option.bind_none,reduceCtorEq,false_and,exists_false,ae,ai,false_iff];rintro⟨_,_,⟨h1,h2⟩,h,_⟩;subst h1 h2;exact hn h
@[simp,simp ↓] theorem aaz{nb:List (Nat×Nat)}{cs:List D}:WO O (⟨d,none,n,.fR nb cs⟩::r) e σ Q=WD d fun v=>WD (fP nb cs σ) fun y=>WO O r ((v,.own (nu e v) y.1)::e) y.2 Q:=by
 cases d with
 |none=>simp[WO,iI,oF]
 |some v=>cases h:fP nb cs σ with
  |none=>simp[WO,iI,oF,h]
  |some y=>obtain⟨a,b⟩:=y;simp only[WO,iI,oF,h,Option.bind_some,wO]
def Wh(e:Env)(σ:SK)(v:Nat)(nb:List (Nat×Nat))(sz a:Nat)(x:ba):Option (D×SK) :=
 match lC e v a,(aR e x).cells with
 |some (s,cs,off),some p =>
  if p.length=sz∧off+sz≤cs.length then
   match fP nb p σ with
   |some (p',σ')=>some (.own s (cs.take off++p'++cs.drop (off+sz)),σ')
   |none=>none
  else none
 |_,_=>none
@[simp,simp ↓] theorem abI{v:Nat}{nb:List (Nat×Nat)}{sz a:Nat}{x:ba}:WO O (⟨d,none,n,.wM v nb sz a x⟩::r) e σ Q =
  WV (Wh e σ v nb sz a x) fun y σ'=>WO O r ((v,y)::e) σ' Q:=by
 simp only[WO,iI,oF,Wh];cases h1:lC e v a with
 |none=>simp
 |some p =>
  obtain⟨s,cs,off⟩:=p;cases h2:(aR e x).cells with
  |none=>simp
  |some p =>
   dsimp only;split
   ·cases h3:fP nb p σ with
    |none=>simp
    |some y=>obtain⟨a,b⟩:=y;simp[WO]
   ·simp
end ops
section code
variable {e:Env} {σ:SK} {Q:Exit→Env→SK→Prop}
@[simp,simp ↓] theorem abg:WC O .ei e σ Q=Q .normal e σ:=by
 simp only[WC,aL,ae,ai,eq_iff_iff];exact⟨fun⟨_,_,_,⟨h1,h2,h3⟩,h⟩=>by subst h1 h2 h3;exact h,fun h=>⟨_,_,_,⟨rfl,rfl,rfl⟩,h⟩⟩
@[simp,simp ↓] theorem abe{vs:List Nat}:WC O (.cb vs) e σ Q=Q .normal (nZ vs e σ).1 (nZ vs e σ).2:=by
 simp only[WC,aL,ae,ai,eq_iff_iff];exact⟨fun⟨_,_,_,⟨h1,h2,h3⟩,h⟩=>by subst h1 h2 h3;exact h,fun h=>⟨_,_,_,⟨rfl,rfl,rfl⟩,h⟩⟩
@[simp,simp ↓] theorem aax{i:Nat}:WC O (.exit i) e σ Q=Q (.exit i) e σ:=by
 simp only[WC,aL,ae,ai,eq_iff_iff];exact⟨fun⟨_,_,_,⟨h1,h2,h3⟩,h⟩=>by subst h1 h2 h3;exact h,fun h=>⟨_,_,_,⟨rfl,rfl,rfl⟩,h⟩⟩
@[simp,simp ↓] theorem abi:WC O .ret e σ Q=Q .ret e σ:=by
 simp only[WC,aL,ae,ai,eq_iff_iff];exact⟨fun⟨_,_,_,⟨h1,h2,h3⟩,h⟩=>by subst h1 h2 h3;exact h,fun h=>⟨_,_,_,⟨rfl,rfl,rfl⟩,h⟩⟩
@[simp,simp ↓] theorem abh{live:List Nat}{ops:List Op}:WC O (.cL live ops) e σ Q=WO O ops e σ fun e' σ'=>Q .normal (restrict live e') σ':=by
 simp only[WC,aL,WO,ab,ai,eq_iff_iff];constructor
 ·rintro⟨x,e',σ',⟨⟨e1,σ1⟩,h1,rfl,rfl,rfl⟩,h⟩;exact⟨e1,σ1,h1,h⟩
 ·rintro⟨e',σ',h1,h⟩;exact⟨_,_,_,⟨⟨e',σ'⟩,h1,rfl,rfl,rfl⟩,h⟩
def BS(O:bd)(b:bQ)(Q:Exit→Env→SK→Prop)(_m:Mark b:=.mk)(_m':Mark Q:=.mk):Exit→Env→SK→Prop
 |.normal,e,σ=>WC O b e σ Q
 |.exit i,e,σ=>Q (.exit i) e σ
 |.ret,e,σ=>Q .ret e σ
 |.eR d,e,σ=>Q (.eR d) e σ
@[simp,simp ↓] theorem Xd{b:bQ}{d:D}:BS O b Q .mk .mk (.eR d) e σ=Q (.eR d) e σ:=ar rfl
@[simp,simp ↓] theorem Lm{b:bQ}:BS O b Q .mk .mk .normal e σ=WC O b e σ Q:=ar rfl
@[simp,simp ↓] theorem Wk{b:bQ}{i:Nat}:BS O b Q .mk .mk (.exit i) e σ=Q (.exit i) e σ:=ar rfl
@[simp,simp ↓] theorem Xc{b:bQ}:BS O b Q .mk .mk .ret e σ=Q .ret e σ:=ar rfl
@[simp,simp ↓] theorem abj{a b:bQ}:WC O (.seq a b) e σ Q=WC O a e σ (BS O b Q .mk .mk):=by
 simp only[WC,aL,ah,eq_iff_iff];constructor
 ·rintro⟨x,e',σ',⟨⟨x1,e1,σ1⟩,h1,h2⟩,h⟩;refine⟨x1,e1,σ1,h1,?_⟩;cases x1 with
  |normal=>exact⟨x,e',σ',h2,h⟩
  |exit i=>cases h2;exact h
  |ret=>cases h2;exact h
  |eR d=>cases h2;exact h
 ·rintro⟨x1,e1,σ1,h1,h⟩;cases x1 with
  |normal=>obtain⟨x,e',σ',h2,h3⟩:=h;exact⟨x,e',σ',⟨_,h1,h2⟩,h3⟩
  |exit i=>exact⟨_,_,_,⟨_,h1,rfl⟩,h⟩
  |ret=>exact⟨_,_,_,⟨_,h1,rfl⟩,h⟩
  |eR d=>exact⟨_,_,_,⟨_,h1,rfl⟩,h⟩
@[simp,simp ↓] theorem abf{c:ba}{a b:bQ}:WC O (.ite c a b) e σ Q=WD (AV (aR e c)) fun t=>if t=true then WC O a e σ Q else WC O b e σ Q:=by
 simp only[WC,aL];cases aR e c<;>simp[AV];rename_i t;cases t<;>simp
def CJ(id:Nat)(Q:Exit→Env→SK→Prop)(_m:Mark Q:=.mk):Exit→Env→SK→Prop
 |.normal,e,σ=>Q .normal e σ
 |.exit i,e,σ=>if i=id then Q .normal e σ else Q (.exit i) e σ
 |.ret,e,σ=>Q .ret e σ
 |.eR d,e,σ=>Q (.eR d) e σ
@[simp,simp ↓] theorem ZG{id:Nat}{d:D}:CJ id Q .mk (.eR d) e σ=Q (.eR d) e σ:=ar rfl
@[simp,simp ↓] theorem Tq{id:Nat}:CJ id Q .mk .normal e σ=Q .normal e σ:=ar rfl
@[simp,simp ↓] theorem WT{id i:Nat}:CJ id Q .mk (.exit i) e σ=if i=id then Q .normal e σ else Q (.exit i) e σ:=ar rfl
@[simp,simp ↓] theorem ZF{id:Nat}:CJ id Q .mk .ret e σ=Q .ret e σ:=ar rfl
@[simp,simp ↓] theorem abd{id:Nat}{a:bQ}:WC O (.bu id a) e σ Q=WC O a e σ (CJ id Q .mk):=by
 simp only[WC,aL,ab,eq_iff_iff];constructor
 ·rintro⟨x,e',σ',⟨⟨x1,e1,σ1⟩,h1,h2⟩,h⟩;refine⟨x1,e1,σ1,h1,?_⟩;cases x1 with
  |normal=>cases h2;exact h
  |exit i =>
   simp only[CJ];dsimp only at h2;split at h2<;>cases h2
   ·rw[if_pos (by assumption)];exact h
   ·rw[if_neg (by assumption)];exact h
  |ret=>cases h2;exact h
  |eR d=>cases h2;exact h
 ·rintro⟨x1,e1,σ1,h1,h⟩;cases x1 with
  |normal=>exact⟨_,_,_,⟨_,h1,rfl⟩,h⟩
  |exit i =>
   simp only[CJ]at h;split at h
   ·exact⟨_,_,_,⟨_,h1,by dsimp only;rw[if_pos (by assumption)]⟩,h⟩
   ·exact⟨_,_,_,⟨_,h1,by dsimp only;rw[if_neg (by assumption)]⟩,h⟩
  |ret=>exact⟨_,_,_,⟨_,h1,rfl⟩,h⟩
  |eR d=>exact⟨_,_,_,⟨_,h1,rfl⟩,h⟩
theorem Ew(d:D):d.calm.calm=d.calm:=by cases d<;>rfl
theorem yM{live:List Nat}{e:Env}{t:Nat}:get (restrict live e) t=if t∈live then(get e t).calm else .undef:=by
 induction live with
 |nil=>simp[restrict,get]
 |cons a l ih =>
  simp only[restrict,aG,get,bj];by_cases h:a=t
  ·subst h;simp
  ·have h':¬t=a:=fun x=>h x.symm
   simp only[if_neg h,h',false_or];exact ih
theorem py{live:List Nat}{e:Env}:restrict live (restrict live e)=restrict live e:=by
 simp only[restrict,List.map_inj_left,ai,true_and];intro t ht;have:=yM (live:=live) (e:=e) (t:=t);simp only[restrict]at this;rw[this,if_pos ht,Ew]
theorem oo{live:List Nat}{oE:Bool}{c:bQ}:cc T O (.loop live oE c (restrict live e) σ)=cc T O (.loop live oE c e σ):=by
 simp only[cc,py]
theorem pw{live:List Nat}{oE:Bool}{c:bQ}{r:R}(h:bG T (.loop live oE c (restrict live e) σ)=some r):bG T (.loop live oE c e σ)=some r:=by
 obtain⟨n,h⟩:=oB.1 h;cases n with
 |zero=>cases h
 |succ n =>
  rw[it,oo]at h;exact oB.2 ⟨n+1,h⟩
theorem ui{live:List Nat}{oE:Bool}{c:bQ}{r:R}(h:bG T (.loop live oE c e σ)=some r):bG T (.loop live oE c (restrict live e) σ)=some r:=by
 obtain⟨n,h⟩:=oB.1 h;cases n with
 |zero=>cases h
 |succ n =>
  rw[it,← oo]at h;exact oB.2 ⟨n+1,h⟩
theorem Cm{r:Option R}{x:Exit}{e:Env}{σ:SK}(h:R.Ex r=some (x,e,σ)):r=some (.tJ x e σ):=by
 unfold R.Ex at h;split at h
 ·cases h;rfl
 ·cases h
@[simp,simp ↓] theorem aay{live:List Nat}{oE:Bool}{c:bQ}:WC (bG T) (.loop live oE c) e σ Q=WL T live oE c (restrict live e) σ Q:=by
 simp only[WC,aL,WL,eq_iff_iff];constructor
 ·rintro⟨x,e',σ',h1,h⟩;cases hl:bG T (.loop live oE c e σ)with
  |none=>rw[hl]at h1;cases h1
  |some r =>
   rw[hl]at h1;cases r<;>cases h1;exact⟨_,_,_,ui hl,h⟩
 ·rintro⟨x,e',σ',h1,h⟩;exact⟨x,e',σ',by rw[pw h1];rfl,h⟩
def BC(T:sn)(live:List Nat)(c:bQ)(Q:Exit→Env→SK→Prop)(_m:Mark c:=.mk)(_m':Mark Q:=.mk):Exit→Env→SK→Prop
 |.normal,e,σ=>WL T live false c (restrict live e) σ Q
 |.exit i,e,σ=>Q (.exit i) e σ
 |.ret,e,σ=>Q .ret e σ
 |.eR d,e,σ=>Q (.eR d) e σ
@[simp,simp ↓] theorem WQ{live:List Nat}{c:bQ}{d:D}:BC T live c Q .mk .mk (.eR d) e σ=Q (.eR d) e σ:=ar rfl
@[simp,simp ↓] theorem K0{live:List Nat}{c:bQ}:BC T live c Q .mk .mk .normal e σ=WL T live false c (restrict live e) σ Q:=ar rfl
@[simp,simp ↓] theorem Vj{live:List Nat}{c:bQ}{i:Nat}:BC T live c Q .mk .mk (.exit i) e σ=Q (.exit i) e σ:=ar rfl
@[simp,simp ↓] theorem WN{live:List Nat}{c:bQ}:BC T live c Q .mk .mk .ret e σ=Q .ret e σ:=ar rfl
theorem aB{live:List Nat}{c c':bQ}(hc:c=c')(h:WC (bG T) c' (restrict live e) σ (BC T live c Q .mk .mk)):WL T live false c e σ Q:=by
 rw[← hc]at h;obtain⟨x,e1,σ1,h1,h2⟩:=h;cases x with
 |normal =>
  obtain⟨x,e',σ',h3,h4⟩:=h2;exact⟨x,e',σ',fg (by simp[cc,h1,pw h3]),h4⟩
 |exit i=>exact⟨_,_,_,fg (by simp[cc,h1]),h2⟩
 |ret=>exact⟨_,_,_,fg (by simp[cc,h1]),h2⟩
 |eR d=>exact⟨_,_,_,fg (by simp[cc,h1]),h2⟩
def A7(σ:SK)(res:List uy)(d:D)(x:Exit)(e:Env)(σ1:SK):Prop :=
 (∀i,x ≠ .exit i)∧(∀d,x ≠ .eR d)∧∃ds,qD e σ1 res=some ds∧∃s,cb (σ.length-1) deep (mS ds) σ1=(d,s::σ)
@[simp,simp ↓] theorem LA{σ1:SK}{res:List uy}{d:D}:A7 σ res d .normal e σ1=∃ds,qD e σ1 res=some ds∧∃s,cb (σ.length-1) deep (mS ds) σ1=(d,s::σ):=by simp[A7]
@[simp,simp ↓] theorem XH{σ1:SK}{res:List uy}{d:D}:A7 σ res d .ret e σ1=∃ds,qD e σ1 res=some ds∧∃s,cb (σ.length-1) deep (mS ds) σ1=(d,s::σ):=by simp[A7]
theorem aA{f:Nat}{fn:Fn}{args:List D}{σ:SK}{d:D}{np:Nat}{res:List uy}{body:bQ}(hT:T f=some fn)(hf:fn=⟨np,res,body⟩)(hl:args.length=np)
  (h:WC (bG T) body (iH 0 args) ([]::σ) (A7 σ res d)):
  bG T (.call false f args σ)=some (.val d σ):=by
 subst hf;obtain⟨x,e1,σ1,h1,h2,h2',ds,h3,s,h4⟩:=h;refine fg ?_;simp only[cc,hT,if_pos hl,al,if_false,h1];cases x with
 |exit i=>exact absurd rfl (h2 i)
 |eR d=>exact absurd rfl (h2' d)
 |normal=>simp[h3,h4]
 |ret=>simp[h3,h4]
def Ut(σ:SK)(d:D)(x:Exit)(e:Env)(σ1:SK):Prop:=x=.eR d∧d.clean=true∧∃s,σ1=s::σ
@[simp,simp ↓] theorem XJ{σ1:SK}{d d':D}:Ut σ d (.eR d') e σ1=(d'=d∧d.clean=true∧∃s,σ1=s::σ):=by simp[Ut]
theorem vS{f:Nat}{fn:Fn}{args:List D}{σ:SK}{d:D}{np:Nat}{res:List uy}{body:bQ}(hT:T f=some fn)(hf:fn=⟨np,res,body⟩)(hl:args.length=np)
  (h:WC (bG T) body (iH 0 args) ([]::σ) (Ut σ d)):
  bG T (.call false f args σ)=some (.eR d σ):=by
 subst hf;obtain⟨x,e1,σ1,h1,rfl,hc,s,rfl⟩:=h;refine fg ?_;simp only[cc,hT,if_pos hl,al,if_false,h1];simp[C5,hc]
def WR(r:Option R)(Qn Qt:D→SK→Prop)(_m:Mark Qn:=.mk)(_m':Mark Qt:=.mk):Prop:=(∃d σ',r=some (.val d σ')∧Qn d σ')∨∃d σ',r=some (.eR d σ')∧Qt d σ'
@[simp,simp ↓] theorem Uf{d:D}{σ':SK}{Qn Qt:D→SK→Prop}:WR (some (.val d σ')) Qn Qt=Qn d σ':=by
 simp only[WR,ae,R.val.injEq,reduceCtorEq,false_and,exists_false,or_false,eq_iff_iff];exact⟨fun⟨_,_,⟨h1,h2⟩,h⟩=>by subst h1 h2;exact h,fun h=>⟨_,_,⟨rfl,rfl⟩,h⟩⟩
@[simp,simp ↓] theorem Ue{d:D}{σ':SK}{Qn Qt:D→SK→Prop}:WR (some (.eR d σ')) Qn Qt=Qt d σ':=by
 simp only[WR,ae,R.eR.injEq,reduceCtorEq,false_and,exists_false,false_or,eq_iff_iff];exact⟨fun⟨_,_,⟨h1,h2⟩,h⟩=>by subst h1 h2;exact h,fun h=>⟨_,_,⟨rfl,rfl⟩,h⟩⟩
def ZH:D→Option D
 |.o9 t d=>if d.clean then some (.o9 t d)else none
 |_=>none
@[simp] theorem BD{t:Nat}{d:D}:ZH (.o9 t d)=if d.clean then some (.o9 t d)else none:=ar rfl
@[simp] theorem XD{O:bd}{f:Nat}{first cap args:List D}{σ:SK}:rP O (.fn f first cap) args σ=O (.call false f (first++args++cap) σ):=ar rfl
@[simp,simp ↓] theorem Kv{live:List Nat}{pre post:List Op}{dst:Option Nat}{n:Bool}{f:ba}{args:List ba}:WC O (.wN live pre ⟨dst,none,n,.call false f args⟩ post) e σ Q =
  WO O pre e σ fun e1 σ1=>WR (rP O (aR e1 f) (args.map (aR e1)) σ1) (fun d σ2=>WO O post (put dst d e1) σ2 fun e' σ'=>Q .normal (restrict live e') σ') (fun d σ2=>Q (.eR d) e1 σ2):=by
 simp only[WC,WO,aL,wG,ah,eq_iff_iff];constructor
 ·rintro⟨x,e',σ',⟨⟨e1,σ1⟩,h1,h2⟩,h⟩;refine⟨e1,σ1,h1,?_⟩;dsimp only at h2;cases hc:rP O (aR e1 f) (args.map (aR e1)) σ1 with
  |none=>rw[hc]at h2;simp[ng]at h2
  |some r =>
   rw[hc]at h2;cases r with
   |tJ=>simp[ng]at h2
   |eR d σ2=>simp only[ng,ae,ai]at h2;obtain⟨rfl,rfl,rfl⟩:=h2;rw[Ue];exact h
   |val d σ2 =>
    simp only[ng,ab]at h2;obtain⟨⟨e3,σ3⟩,h3,h4⟩:=h2;cases h4;rw[Uf];exact⟨e3,σ3,h3,h⟩
 ·rintro⟨e1,σ1,h1,h⟩;rcases h with⟨d,σ2,h2,e3,σ3,h3,h4⟩ | ⟨d,σ2,h2,h4⟩
  ·exact⟨.normal,_,σ3,⟨(e1,σ1),h1,by simp only[h2,ng,h3,aM]⟩,h4⟩
  ·exact⟨.eR d,e1,σ2,⟨(e1,σ1),h1,by simp only[h2,ng]⟩,h4⟩
@[simp,simp ↓] theorem Lu{live:List Nat}{pre post:List Op}{dst:Option Nat}{n:Bool}{x:ba}:WC O (.wN live pre ⟨dst,none,n,.Fg x⟩ post) e σ Q =
  WO O pre e σ fun e1 σ1=>WD (ZH (aR e1 x)) fun d=>Q (.eR d) e1 σ1:=by
 simp only[WC,WO,aL,wG,ah,eq_iff_iff];constructor
 ·rintro⟨x',e',σ',⟨⟨e1,σ1⟩,h1,h2⟩,h⟩;refine⟨e1,σ1,h1,?_⟩;dsimp only at h2;cases hx:aR e1 x<;>rw[hx]at h2<;>try (cases h2;done)
  dsimp only at h2;split at h2
  ·rename_i hc;cases h2;simp only[BD,hc,if_true,wO];exact h
  ·cases h2
 ·rintro⟨e1,σ1,h1,d,h2,h⟩;refine⟨.eR d,e1,σ1,⟨(e1,σ1),h1,?_⟩,h⟩;dsimp only;cases hx:aR e1 x<;>rw[hx]at h2<;>try (cases h2;done)
  simp only[BD]at h2;split at h2
  ·rename_i hc;cases h2;simp[hc]
  ·cases h2
def WM(T:sn)(live:List Nat)(it:ba)(nx ok b:Nat)(c rest:bQ)(e:Env)(σ:SK)(Q:Exit→Env→SK→Prop)(_m:Mark c:=.mk)(_m':Mark rest:=.mk)(_m'':Mark Q:=.mk):Prop:=∃x e' σ',bG T (.ew live it nx ok b c rest e σ)=some (.tJ x e' σ')∧Q x e' σ'
theorem WM.mono{live:List Nat}{it:ba}{nx ok b:Nat}{c rest:bQ}{Q':Exit→Env→SK→Prop}(h:WM T live it nx ok b c rest e σ Q)(hq:∀x e σ,Q x e σ→Q' x e σ):WM T live it nx ok b c rest e σ Q' :=
 let ⟨x,e',σ',h1,h2⟩:=h;⟨x,e',σ',h1,hq _ _ _ h2⟩
theorem og{live:List Nat}{it:ba}{nx ok b:Nat}{c rest:bQ}:cc T O (.ew live it nx ok b c rest (restrict live e) σ)=cc T O (.ew live it nx ok b c rest e σ):=by
 simp only[cc,py]
theorem l9{live:List Nat}{it:ba}{nx ok b:Nat}{c rest:bQ}{r:R}:bG T (.ew live it nx ok b c rest (restrict live e) σ)=some r↔bG T (.ew live it nx ok b c rest e σ)=some r:=by
 constructor<;>intro h<;>obtain⟨n,h⟩:=oB.1 h<;>cases n<;>first | (cases h;done) | skip
 ·rw[Abs.it,og]at h;exact oB.2 ⟨_+1,h⟩
 ·rw[Abs.it,← og]at h;exact oB.2 ⟨_+1,h⟩
@[simp,simp ↓] theorem Xo{live:List Nat}{it:ba}{nx ok b:Nat}{c rest:bQ}:WC (bG T) (.ew live it nx ok b c rest) e σ Q=WM T live it nx ok b c rest (restrict live e) σ Q:=by
 simp only[WC,aL,WM,eq_iff_iff];constructor
 ·rintro⟨x,e',σ',h1,h⟩;exact⟨_,_,_,l9.2 (Cm h1),h⟩
 ·rintro⟨x,e',σ',h1,h⟩;exact⟨x,e',σ',by rw[l9.1 h1];rfl,h⟩
def zp(T:sn)(live:List Nat)(it:ba)(l i nx ok b:Nat)(c rest:bQ)(r:R)(_m:Mark c:=.mk)(_m':Mark rest:=.mk):Exit→Env→SK→Prop
 |.normal,e,σ=>bG T (.ew live it nx ok b c rest (restrict live e) σ)=some r
 |.exit j,e,σ=>if j=b then WC (bG T) rest e (aN σ l i .dead) fun x e' σ'=>r=.tJ x e' σ' else r=.tJ (.exit j) e (aN σ l i .dead)
 |.ret,e,σ=>r=.tJ .ret e (aN σ l i .dead)
 |.eR _,_,_=>False
@[simp,simp ↓] theorem K1{live:List Nat}{it:ba}{l i nx ok b:Nat}{c rest:bQ}{r:R}:zp T live it l i nx ok b c rest r .mk .mk .normal e σ=(bG T (.ew live it nx ok b c rest (restrict live e) σ)=some r):=ar rfl
@[simp,simp ↓] theorem CE{live:List Nat}{it:ba}{l i nx ok b j:Nat}{c rest:bQ}{r:R}:zp T live it l i nx ok b c rest r .mk .mk (.exit j) e σ=if j=b then WC (bG T) rest e (aN σ l i .dead) fun x e' σ'=>r=.tJ x e' σ' else r=.tJ (.exit j) e (aN σ l i .dead):=ar rfl
@[simp,simp ↓] theorem ES{live:List Nat}{it:ba}{l i nx ok b:Nat}{c rest:bQ}{r:R}:zp T live it l i nx ok b c rest r .mk .mk .ret e σ=(r=.tJ .ret e (aN σ l i .dead)):=ar rfl
theorem Ab{l i b:Nat}{rest:bQ}{r:R}{x:Exit}{e1:Env}{σ1:SK}{live:List Nat}{it:ba}{nx ok:Nat}{c:bQ}(hx:x ≠ .normal)(h:zp T live it l i nx ok b c rest r .mk .mk x e1 σ1):oQ (bG T) l i b rest (some (x,e1,σ1))=some r:=by
 cases x with
 |normal=>exact absurd rfl hx
 |eR d=>exact h.elim
 |ret=>simp only[ES]at h;subst h;rfl
 |exit j =>
  simp only[CE]at h;simp only[oQ];split at h
  ·rename_i hj;obtain⟨x',e',σ',h1,rfl⟩:=h;rw[if_pos hj,h1];rfl
  ·rename_i hj;subst h;rw[if_neg hj]
theorem Jm{live:List Nat}{it:ba}{l i nx ok b:Nat}{c c' rest rest':bQ}{r:R}{m:D}{n:Nat}{js:List D}{us:List Nat}(hcc:c=c')(hrr:rest=rest')(hit:aR (restrict live e) it=.iN l i)(hd:wk σ l i=some (m,n,js,us))(hne:us≠[])
  (h:∀u∈us,WC (bG T) c' ((ok,.bool true)::(nx,.undef)::restrict live e) (aN σ l i (.cells 1 (m::.int .i64 (n:Nat)::.int .i64 (u:Nat)::js))) (zp T live it l i nx ok b c rest' r .mk .mk)):
  bG T (.ew live it nx ok b c rest e σ)=some r:=by
 subst hcc hrr;refine fg ?_;simp only[cc,hit,hd];have key:∀u∈us,rT (bG T) live it l i nx ok b c rest (aL (bG T) c ((ok,.bool true)::(nx,.undef)::restrict live e) (aN σ l i (.cells 1 (m::.int .i64 (n:Nat)::.int .i64 (u:Nat)::js))))=some r:=by
  intro u hu;obtain⟨x,e1,σ1,h1,h2⟩:=h u hu;rw[h1];cases x with
  |normal=>exact l9.1 h2
  |exit j=>exact Ab (x:=.exit j) (by simp) h2
  |ret=>exact Ab (x:=.ret) (by simp) h2
  |eR d=>exact h2.elim
 cases us with
 |nil=>exact absurd rfl hne
 |cons u us=>exact yX (by simp) key
theorem EO{live:List Nat}{it:ba}{l i nx ok b:Nat}{c c' rest rest':bQ}{r:R}{m:D}{n:Nat}{js:List D}(hcc:c=c')(hrr:rest=rest')(hit:aR (restrict live e) it=.iN l i)(hd:wk σ l i=some (m,n,js,[]))
  (h:WC (bG T) c' ((ok,.bool false)::(nx,.undef)::restrict live e) σ fun x e1 σ1=>x ≠ .normal∧zp T live it l i nx ok b c rest' r .mk .mk x e1 σ1):
  bG T (.ew live it nx ok b c rest e σ)=some r:=by
 subst hcc hrr;refine fg ?_;simp only[cc,hit,hd];obtain⟨x,e1,σ1,h1,hx,h2⟩:=h;rw[h1];exact Ab hx h2
def Wj:Exit→Option (Option D)
 |.normal=>some none
 |.ret=>some none
 |.eR d=>some (some d)
 |.exit _=>none
@[simp] theorem aas:Wj .ret=some none:=ar rfl
@[simp] theorem aat{d:D}:Wj (.eR d)=some (some d):=ar rfl
noncomputable def vy(T:sn)(fv:D)(args:List D)(th:Option D)(σ:SK):Option SK :=
 match lG (bG T) fv args th σ with
 |some (.val _ σ')=>some σ'
 |_=>none
theorem y9{f:Nat}{first cap args:List D}{th:Option D}{σ σ':SK}{d:D}(h:bG T (.so f (first++args++cap) th σ)=some (.val d σ')):vy T (.fn f first cap) args th σ=some σ':=by
 simp only[vy,lG,h]
def Gi(T:sn)(fv:D)(args:List D)(σ:SK)(res:List uy)(d:D)(x:Exit)(e:Env)(σ1:SK):Prop :=
 WD (Wj x) fun th=>WD (vy T fv args th σ1) fun σ2=>∃ds,qD e σ2 res=some ds∧∃s,cb (σ.length-1) deep (mS ds) σ2=(d,s::σ)
def toD(T:sn)(f:ba)(args:List ba)(q:bQ)(σ:SK)(res:List uy)(d:D)(x:Exit)(e:Env)(σ1:SK)(_m:Mark q:=.mk):Prop :=
 x=.normal∧WC (bG T) q e σ1 (Gi T (aR e f) (args.map (aR e)) σ res d)
theorem AW{f:Nat}{fn:Fn}{args:List D}{σ:SK}{d:D}{np:Nat}{res:List uy}{body A q:bQ}{fo:ba}{as:List ba}(hT:T f=some fn)(hf:fn=⟨np,res,body⟩)(hl:args.length=np)(hs:eQ body=some (A,fo,as,q))
  (h:WC (bG T) A (iH 0 args) ([]::σ) (toD T fo as q σ res d)):
  bG T (.call false f args σ)=some (.val d σ):=by
 subst hf;obtain⟨x,e1,σ1,h1,rfl,x2,e2,σ2,h2,th,h3,σ3,h4,ds,h5,s,h6⟩:=h;refine fg ?_;have hn:aL (bG T) body (iH 0 args) ([]::σ)=none:=sP hs h1;simp only[cc,hT,if_pos hl,al,if_false,hn,hs,rR,h1,h2];have h4':∃dv,lG (bG T) (aR e1 fo) (as.map (aR e1)) th σ2=some (.val dv σ3):=by
  unfold vy at h4;split at h4
  ·rename_i h7;cases h4;exact⟨_,h7⟩
  ·cases h4
 obtain⟨dv,h4'⟩:=h4';cases x2 with
 |exit i=>cases h3
 |normal=>cases h3;simp only[tK,h4',pI,leave,h5,h6]
 |ret=>cases h3;simp only[tK,h4',pI,leave,h5,h6]
 |eR d=>cases h3;simp only[tK,h4',pI,leave,h5,h6]
def Uu(σ':SK)(res:List uy)(x:Exit)(e:Env)(σ1:SK):Prop :=
 (∀i,x ≠ .exit i)∧(∀d,x ≠ .eR d)∧qD e σ1 res=some []∧∃s,σ1=s::σ'
@[simp,simp ↓] theorem LC{σ' σ1:SK}{res:List uy}:Uu σ' res .normal e σ1=(qD e σ1 res=some []∧∃s,σ1=s::σ'):=by simp[Uu]
theorem AY{f:Nat}{fn:Fn}{args:List D}{th:Option D}{σ σ':SK}{np:Nat}{res:List uy}{body q:bQ}{e0:Env}(hT:T f=some fn)(hf:fn=⟨np,res,body⟩)(hl:args.length=np)(hr:oK th args body=some (e0,q))
  (h:WC (bG T) q e0 ([]::σ) (Uu σ' res)):bG T (.so f args th σ)=some (.val (.fj []) σ'):=by
 subst hf;obtain⟨x,e1,σ1,h1,h2,h2',h3,s,rfl⟩:=h;refine fg ?_;simp only[cc,hT,if_pos hl,hr,h1];cases x with
 |exit i=>exact absurd rfl (h2 i)
 |eR d=>exact absurd rfl (h2' d)
 |normal=>simp[h3]
 |ret=>simp[h3]
end code
@[simp] theorem Zn{k t:Nat}{v:D}{r:Env}:get ((k,v)::r) t=if k=t then v else get r t:=ar rfl
@[simp] theorem ZJ{t:Nat}{v:D}{e:Env}:put (some t) v e=(t,v)::e:=ar rfl
@[simp] theorem ZI{v:D}{e:Env}:put none v e=e:=ar rfl
@[simp] theorem ZE{e:Env}{n:Nat}:aR e (.t n)=(get e n).strip:=ar rfl
@[simp] theorem acs{e:Env}{d:D}:aR e (.c d)=d:=ar rfl
@[simp] theorem Lc{e:Env}:restrict [] e=[]:=ar rfl
@[simp] theorem J1{t:Nat}{l:List Nat}{e:Env}:restrict (t::l) e=(t,(get e t).calm)::restrict l e:=ar rfl
@[simp] theorem WG{n:Nat}:iH n []=[]:=ar rfl
@[simp] theorem Vd{n:Nat}{d:D}{ds:List D}:iH n (d::ds)=(n,d)::iH (n+1) ds:=ar rfl
section
variable {e:Env} {σ:SK}
@[simp] theorem ZO:qD e σ []=some []:=ar rfl
@[simp] theorem W9{r:uy}{rs:List uy}:qD e σ (r::rs)=(ya e σ r).bind fun d=>(qD e σ rs).map fun ds=>d::ds:=ar rfl
@[simp] theorem abZ{n:Nat}:ya e σ (.t n)=some (get e n).strip:=ar rfl
@[simp] theorem abY{n sz:Nat}{ag:Bool}:ya e σ (.c n ag sz)=Cy ag sz (wq σ (get e n).strip):=by
 simp only[ya,a7,ZE];cases wq σ (get e n).strip with
 |none=>rfl
 |some cs =>
  simp only[Cy];split
  ·cases ag
   ·cases cs<;>rfl
   ·rfl
  ·rfl
@[simp] theorem ab0{n sz:Nat}{ag:Bool}:ya e σ (.v n ag sz)=Jf e n ag sz n:=by
 simp only[ya,a7,Jf];cases lC e n n with
 |none=>rfl
 |some x =>
  obtain⟨s,cs,off⟩:=x;simp only[Cy,aM];split
  ·cases ag
   ·cases cs.drop off<;>rfl
   ·rfl
  ·rfl
@[simp] theorem WI{d:D}:mS [d]=d:=ar rfl
@[simp] theorem WH:mS []=.fj []:=ar rfl
@[simp] theorem WJ{d d':D}{ds:List D}:mS (d::d'::ds)=.fj (d::d'::ds):=ar rfl
@[simp] theorem Wt{cs:List D}:lB e [] cs=some cs:=ar rfl
@[simp] theorem U1{off sz:Nat}{x:ba}{r:List (Nat×Nat×ba)}{cs:List D}:lB e ((off,sz,x)::r) cs =
  ((aR e x).cells.bind fun p=>if p.length=sz∧off+sz≤cs.length then some (cs.take off++p++cs.drop (off+sz))else none).bind (lB e r):=by
 simp only[lB];cases(aR e x).cells with
 |none=>rfl
 |some p=>dsimp only [Option.bind_some];split<;>rfl
@[simp] theorem Wp{w n:Nat}{cs:List D}:elems σ w (.aE n cs)=if cs.length=n*w then some (n,cs)else none:=ar rfl
end
attribute [simp] a7 zQ fP dP lC nu Wh Jf rO bounds D.row cells? cM gv aN eP
@[simp] theorem Tx{b:Bool}:D.clean (.bool b)=true:=by rw[D.clean]
@[simp] theorem VE{k:IntKind}{n:Int}:D.clean (.int k n)=true:=by rw[D.clean]
@[simp] theorem VH{s:List UInt8}:D.clean (.str s)=true:=by rw[D.clean]
@[simp] theorem TB:D.clean .bw=true:=by rw[D.clean]
@[simp] theorem VD{t:Nat}{d:D}:D.clean (.o9 t d)=D.clean d:=by rw[D.clean]
@[simp] theorem W8{l i v o n w:Nat}:D.clean (.sl l i v o n w)=false:=by rw[D.clean]
@[simp] theorem VG{s:Nat}{cs:List D}:D.clean (.own s cs)=D.bF cs:=by rw[D.clean]
@[simp] theorem VC{cs:List D}:D.clean (.agg cs)=D.bF cs:=by rw[D.clean]
@[simp] theorem VI{cs:List D}:D.clean (.fj cs)=D.bF cs:=by rw[D.clean]
@[simp] theorem Tz{cs:List D}:D.clean (.aK cs)=D.bF cs:=by rw[D.clean]
@[simp] theorem VF{n:Nat}{cs:List D}:D.clean (.aE n cs)=D.bF cs:=by rw[D.clean]
@[simp] theorem W7{f:Nat}{a b:List D}:D.clean (.fn f a b)=(D.bF a && D.bF b):=by rw[D.clean]
@[simp] theorem Um:D.bF []=true:=by rw[D.bF]
@[simp] theorem Lz{d:D}{ds:List D}:D.bF (d::ds)=(D.clean d && D.bF ds):=by rw[D.bF]
@[simp] theorem Gd:deep=16:=ar rfl
@[simp] theorem oG{l n:Nat}{d:D}{σ:SK}(h:d.clean=true)(hn:0<n):cb l n d σ=(d,σ):=by
 obtain⟨m,rfl⟩:∃m,n=m+1:=⟨n-1,by omega⟩;unfold cb;simp[h]
@[simp] theorem Cr{l n:Nat}{ds:List D}{σ:SK}(h:D.bF ds=true)(hn:0<n):cb.frzL (cb l n) ds σ=(ds,σ):=by
 induction ds generalizing σ with
 |nil=>rfl
 |cons d ds ih =>
  simp only[D.bF,ak]at h;simp[cb.frzL,h.1,ih h.2,hn]
@[simp] theorem xJ{f:D→SK→D×SK}{σ:SK}:cb.frzL f [] σ=([],σ):=ar rfl
@[simp] theorem vH{f:D→SK→D×SK}{d:D}{ds:List D}{σ:SK}:cb.frzL f (d::ds) σ=((f d σ).1::(cb.frzL f ds (f d σ).2).1,(cb.frzL f ds (f d σ).2).2):=ar rfl
theorem KN{l n:Nat}{ds:List D}{σ:SK}(h:D.bF ds=false)(hn:0<n):cb l n (.fj ds) σ=(.fj (cb.frzL (cb l (n-1)) ds σ).1,(cb.frzL (cb l (n-1)) ds σ).2):=by
 obtain⟨m,rfl⟩:∃m,n=m+1:=⟨n-1,by omega⟩
 conv=>lhs;unfold cb
 simp[D.clean,h]
theorem DK{l n:Nat}{ds:List D}{σ:SK}(h:D.bF ds=false)(hn:0<n):cb l n (.agg ds) σ=(.agg (cb.frzL (cb l (n-1)) ds σ).1,(cb.frzL (cb l (n-1)) ds σ).2):=by
 obtain⟨m,rfl⟩:∃m,n=m+1:=⟨n-1,by omega⟩
 conv=>lhs;unfold cb
 simp[D.clean,h]
theorem Cs{l n l' i v off m w:Nat}{σ:SK}{cs:List D}(h:¬l'≤l)(hc:cells? σ l' i v=some cs)(hn:0<n):
  cb l n (.sl l' i v off m w) σ=(.aE m (cb.frzL (cb l (n-1)) ((cs.drop off).take (m*w)) (aN σ l' i .dead)).1,(cb.frzL (cb l (n-1)) ((cs.drop off).take (m*w)) (aN σ l' i .dead)).2):=by
 obtain⟨m,rfl⟩:∃m,n=m+1:=⟨n-1,by omega⟩
 conv=>lhs;unfold cb
 simp only[D.clean,h,hc,al,if_false,Nat.add_sub_cancel]
@[simp] theorem U7{l n l' i v off m w:Nat}{σ:SK}(h:l'≤l)(hn:0<n):cb l n (.sl l' i v off m w) σ=(.sl l' i v off m w,σ):=by
 obtain⟨m,rfl⟩:∃m,n=m+1:=⟨n-1,by omega⟩
 conv=>lhs;unfold cb
 simp only[D.clean,h,if_true,al,if_false]
@[simp] theorem abS{n:Nat}:(n+1+1=n)=False:=by simp;omega
@[simp] theorem abT{n:Nat}:(n+1+1+1=n)=False:=by simp;omega
@[simp] theorem abU{n:Nat}:(n+1+1+1+1=n)=False:=by simp;omega
@[simp] theorem abV{n:Nat}:(n+1+1+1+1+1=n)=False:=by simp;omega
theorem yD{a b:List D}:D.bF (a++b)=(D.bF a && D.bF b):=by
 induction a with
 |nil=>rfl
 |cons d a ih=>simp[D.bF,ih,Bool.and_assoc]
end Go.Abs
