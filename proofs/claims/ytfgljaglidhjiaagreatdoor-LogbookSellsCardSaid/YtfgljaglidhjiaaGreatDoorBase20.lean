import Derived.Test.YtfgljaglidhjiaaGreatDoorBase19
import Derived.IntWalk
set_option linter.all false
namespace Go.Abs
open Go
theorem WL.to{T:yo}{live:List Nat}{bw:Bool}{c:cH}{e e':Env}{σ σ':SK}{Q Q':Exit→Env→SK→Prop}(h:WL T live bw c e σ Q)(he:e'=e)(hs:σ'=σ)
  (hq:∀x e σ,Q x e σ→Q' x e σ):WL T live bw c e' σ' Q':=by subst he hs;exact h.mono hq
theorem bZ{α:Type}{f:α→List D}{w:Nat}(hw:∀x,(f x).length=w)(l:List α):(l.flatMap f).length=l.length*w:=by
 induction l with
 |nil=>simp
 |cons a l ih=>simp[hw,ih,eT];omega
theorem bR{α:Type}{f:α→List D}{w:Nat}(hw:∀x,(f x).length=w):∀{l:List α} {i:Nat} {x:α},l[i]?=some x→((l.flatMap f).drop (i*w)).take w=f x
 |[],i,x,h=>by simp at h
 |a::l,0,x,h=>by
  simp at h;subst h;simp[← hw a]
 |a::l,i+1,x,h=>by
  have e:(i+1)*w=(f a).length+i*w:=by rw[hw,eT];omega
  rw[aZ,e,List.drop_append];simp only[Nat.add_sub_cancel_left,aA (Nat.le_add_right _ _),aX];exact bR hw (by simpa using h)
theorem cS{α:Type}{l:List α}{i:Nat}{x:α}(h:l[i]?=some x):l.drop i=x::l.drop (i+1):=by
 have h1:i<l.length:=(aC.1 h).1;rw[List.drop_eq_getElem_cons h1];rw[aI h1]at h;simp at h;rw[h]
theorem EG{α:Type}{f:α→List D}{l:List α}{i:Nat}{x:α}(h:l[i]?=some x):(l.take i).flatMap f++f x=(l.take (i+1)).flatMap f:=by
 rw[List.take_add_one,h];simp
theorem KT{α:Type}{f:α→D}(l:List α):l.flatMap (fun x=>[f x])=l.map f:=by
 induction l with
 |nil=>rfl
 |cons a l ih=>simp[ih]
theorem fR{n:Int}(h : -9223372036854775808≤n∧n≤9223372036854775807):IntKind.i64.wrap n=n:=IntWalk.i64_in n h
@[simp] theorem azb:IntKind.i64.wrap 0=0:=by decide
@[simp] theorem azc:IntKind.i64.wrap 1=1:=by decide
@[simp] theorem azd:IntKind.i64.wrap 2=2:=by decide
@[simp] theorem aze:IntKind.i64.wrap 3=3:=by decide
@[simp] theorem azf:IntKind.i64.wrap 4=4:=by decide
theorem wu8{n:Int}(h:0≤n∧n≤255):IntKind.u8.wrap n=n:=IntWalk.u8_in n h
theorem gG{i n:Nat}(h:i<n)(hn:n≤9223372036854775807):IntKind.i64.wrap ((i:Int)+1)=((i+1:Nat):Int):=by
 rw[fR (by omega)];rfl
variable {T:yo}
def idxOf{α:Type}(p:α→Bool):List α→Int
 |[] => -1
 |x::l=>if p x then 0 else if idxOf p l<0 then -1 else idxOf p l+1
theorem EK{α:Type}{p:α→Bool}:∀{l:List α},idxOf p l<0↔l.any p=false
 |[]=>by simp[idxOf]
 |x::l=>by
  have ih:=EK (p:=p) (l:=l);simp only[idxOf,List.any_cons];cases h:p x
  ·simp only[aw,if_false,Bool.false_or];by_cases h1:idxOf p l<0
   ·rw[if_pos h1,ih.1 h1];decide
   ·rw[if_neg h1];have h2:¬l.any p=false:=fun h=>h1 (ih.2 h)
    exact⟨fun h3=>absurd h3 (by omega),fun h3=>absurd h3 h2⟩
  ·simp
def gQ{α:Type}(l:List α)(p:α→Bool):Bool:=l.all p
def lC{α:Type}(l:List α)(p:α→Bool):Bool:=l.any p
theorem jP{α:Type}{l:List α}{p:α→Bool}:gQ l p=true↔∀x∈l,p x=true:=by simp[gQ]
theorem DE{α:Type}{l:List α}{p:α→Bool}:lC l p=true↔∃x∈l,p x=true:=by simp[lC]
def pK(T:yo){α:Type}(fv:D)(val:α→D)(p:α→Bool)(l:List α):Prop :=
 fv.strip=fv∧fv.calm=fv∧∀x∈l,∀σ,o9 (lim T) false fv [val x] σ=some (.bool (p x),σ)
theorem pK.fn{α:Type}{f:Nat}{first cap:List D}{val:α→D}{p:α→Bool}{l:List α}
  (h:∀x∈l,∀σ,lim T (.call false f (first++[val x]++cap) σ)=some (.val (.bool (p x)) σ)):pK T (.fn f first cap) val p l :=
 ⟨rfl,rfl,fun x hx σ=>by rw[rV,h x hx σ];rfl⟩
structure Elt(α:Type) where
 ag:Bool
 w:Nat
 enc:α→List D
 val:α→D
 len:∀x,(enc x).length=w
 load:∀x,LV ag w (some (enc x))=some (val x)
 strip:∀x,(val x).strip=val x
 calm:∀x,(val x).calm=val x
 cells:∀x,(val x).cells=some (enc x)
def Jo(k:IntKind):Elt Int:=⟨false,1,fun n=>[.int k n],fun n => .int k n,fun _=>rfl,fun _=>by simp,fun _=>rfl,fun _=>rfl,fun _=>rfl⟩
def awN:Elt Bool:=⟨false,1,fun n=>[.bool n],fun n => .bool n,fun _=>rfl,fun _=>by simp,fun _=>rfl,fun _=>rfl,fun _=>rfl⟩
def wP{α:Type}(w:Nat)(enc:α→List D)(h:∀x,(enc x).length=w):Elt α :=
 ⟨true,w,enc,fun x => .agg (enc x),h,fun x=>by simp[h,aj],fun _=>rfl,fun _=>rfl,fun _=>rfl⟩
section index
variable (ag:Bool) (w:Nat)
def G5:cH :=
 (.seq (.cg [0,1,7,8,9] [⟨some 9,none,false,.bin .lss (.t 8) (.t 7)⟩]) (.seq (.ite (.t 9) .dQ (.exit 0)) (.seq (.bO 1 (.seq (.cg [0,1,5,7,8] [
 ⟨some 10,none,false,.mv (.t 8)⟩,
 ⟨some 5,none,false,.mv (.t 10)⟩]) (.seq (.cg [0,1,5,7,8,16] [
 ⟨some 11,none,false,.mv (.t 1)⟩,
 ⟨some 12,none,false,.mv (.t 0)⟩,
 ⟨some 13,none,false,.mv (.t 5)⟩,
 ⟨some 14,none,false,.dP w (.t 12) (.t 13)⟩,
 ⟨some 15,none,false,.ld ag w (.t 14)⟩,
 ⟨some 16,none,false,.call false (.t 11) [(.t 15)]⟩]) (.ite (.t 16) (.seq (.cg [4] [
 ⟨some 17,none,false,.mv (.t 5)⟩,
 ⟨some 4,none,false,.mv (.t 17)⟩]) .ret) .dQ)))) (.cg [0,1,7,8] [
 ⟨some 18,none,false,.bin .add (.t 8) (.c (.int .i64 1))⟩,
 ⟨some 8,none,false,.mv (.t 18)⟩]))))
def uB:Fn:=⟨2,[.t 4],
 (.seq (.cg [0,1] [⟨some 4,none,false,.mv (.c (.int .i64 0))⟩]) (.seq (.seq (.cg [0,1,7,8] [
 ⟨some 6,none,false,.mv (.t 0)⟩,
 ⟨some 7,none,false,.HU (.t 6)⟩,
 ⟨some 8,none,false,.mv (.c (.int .i64 0))⟩]) (.bO 0 (.loop [0,1,7,8] false (G5 ag w)))) (.seq (.cg [4] [
 ⟨some 4,none,false,.mv (.c (.int .i64 (-1)))⟩]) .ret)))⟩
def jg(i:Nat):Fn:=⟨2,[.t 4],
 (.seq (.cg [0,1] [⟨some 4,none,false,.mv (.c (.bool false))⟩]) (.seq (.cg [4] [
 ⟨some 5,none,false,.mv (.t 0)⟩,
 ⟨some 6,none,false,.mv (.t 1)⟩,
 ⟨some 7,none,false,.call false (.c (.fn i [] [])) [(.t 5),(.t 6)]⟩,
 ⟨some 8,none,false,.bin .geq (.t 7) (.c (.int .i64 0))⟩,
 ⟨some 4,none,false,.mv (.t 8)⟩]) .ret))⟩
def DD(g h:Nat):Fn:=⟨2,[.t 4],
 (.seq (.cg [0,3] [
 ⟨some 3,none,false,.HN (.t 1)⟩,
 ⟨some 4,none,false,.mv (.c (.bool false))⟩]) (.seq (.cg [4] [
 ⟨some 5,none,false,.mv (.t 0)⟩,
 ⟨some 6,none,false,.xT g [] [(.t 3)]⟩,
 ⟨some 7,none,false,.call false (.c (.fn h [] [])) [(.t 5),(.t 6)]⟩,
 ⟨some 8,none,false,.un .not (.t 7)⟩,
 ⟨some 4,none,false,.mv (.t 8)⟩]) .ret))⟩
def yp:Bool→Nat→Fn
 |true,w=>⟨2,[.t 3],
 (.seq (.cg [1,2] [
 ⟨some 2,none,false,.HN (.t 0)⟩,
 ⟨some 3,none,false,.mv (.c (.bool false))⟩]) (.seq (.cg [3] [
 ⟨some 4,none,false,.ld false 1 (.t 1)⟩,
 ⟨some 5,none,false,.ld true w (.t 2)⟩,
 ⟨some 6,none,false,.call false (.t 4) [(.t 5)]⟩,
 ⟨some 7,none,false,.un .not (.t 6)⟩,
 ⟨some 3,none,false,.mv (.t 7)⟩]) .ret))⟩
 |false,_=>⟨2,[.t 3],
 (.seq (.cg [0,1] [
 ⟨some 3,none,false,.mv (.c (.bool false))⟩]) (.seq (.cg [3] [
 ⟨some 4,none,false,.ld false 1 (.t 1)⟩,
 ⟨some 5,none,false,.mv (.t 0)⟩,
 ⟨some 6,none,false,.call false (.t 4) [(.t 5)]⟩,
 ⟨some 7,none,false,.un .not (.t 6)⟩,
 ⟨some 3,none,false,.mv (.t 7)⟩]) .ret))⟩
end index
section
variable {α:Type} (E:Elt α) {p:α→Bool} {fv:D} {l:List α}
theorem La(hl:l.length≤9223372036854775807)(ht:pK T fv E.val p l){σ:SK}:∀(m i:Nat),i+m=l.length →
  WL T [0,1,7,8] false (G5 E.ag E.w) [(0,.aH l.length (l.flatMap E.enc)),(1,fv),(7,.int .i64 l.length),(8,.int .i64 i)] σ
   (fun x e σ'=>σ'=σ∧if idxOf p (l.drop i)<0 then x=.exit 0 else x=.ret∧get e 4=.int .i64 (i+idxOf p (l.drop i)))
 |0,i,hi=>by
  obtain⟨h1,h2,h3⟩:=ht;refine aN (G5.eq_1 _ _) ?_;have:¬i<l.length:=by omega
  have h5:l.drop i=[]:=by simp;omega
  simp[this,h1,h2,h5,idxOf]
 |m+1,i,hi=>by
  have ih:=La hl ht (σ:=σ) m (i+1) (by omega);obtain⟨h1,h2,h3⟩:=ht;refine aN (G5.eq_1 _ _) ?_;have h4:i<l.length:=by omega
  obtain⟨x,hx⟩:=gE h4;have h5:=bR (f:=E.enc) E.len hx;have h6:=h3 x (ai hx) σ;have h7:=gG h4 hl;have h8:l.drop i=x::l.drop (i+1):=by
   rw[List.drop_eq_getElem_cons h4];rw[aI h4]at hx;simp at hx;rw[hx]
  cases hp:p x
  ·rw[hp]at h6;simp[h4,h1,h2,h5,h6,h7,E.load,E.strip,E.calm];refine WL.mono (by simpa using ih) ?_;rintro x e σ' ⟨h9,h10⟩;refine⟨h9,?_⟩;rw[h8];simp only[idxOf,hp,aw,if_false];by_cases h11:idxOf p (l.drop (i+1))<0
   ·simpa[h11]using h10
   ·rw[if_neg h11]at h10;rw[if_neg h11,if_neg (by omega)];refine⟨h10.1,?_⟩;rw[h10.2];congr 1;push_cast;omega
  ·rw[hp]at h6;simp[h4,h1,h2,h5,h6,h7,E.load,E.strip,E.calm,h8,idxOf,hp]
theorem adx{f:Nat}(hT:T f=some (uB E.ag E.w))(hl:l.length≤9223372036854775807)(ht:pK T fv E.val p l){σ:SK}:
  lim T (.call false f [.aH l.length (l.flatMap E.enc),fv] σ)=some (.val (.int .i64 (idxOf p l)) σ):=by
 refine az hT (uB.eq_1 _ _) rfl ?_;have h:=La E hl ht (σ:=[]::σ) l.length 0 (by simp);obtain⟨h1,h2,h3⟩:=ht;simp[h1,h2];refine WL.mono (by simpa using h) ?_;rintro x e σ' ⟨rfl,h10⟩
 try simp only[aO]at h10
 by_cases h11:idxOf p l<0
 ·rw[if_pos h11]at h10;subst h10;have:idxOf p l = -1:=by
   cases l with
   |nil=>rfl
   |cons a l =>
    simp only[idxOf]at h11 ⊢;split at h11<;>rename_i ha
    ·omega
    ·rw[if_neg ha];split at h11<;>rename_i hb
     ·rw[if_pos hb]
     ·omega
  simp[this]
 ·rw[if_neg h11]at h10;obtain⟨rfl,h12⟩:=h10
  try simp at h12
  simp[h12]
theorem contains_of{f i:Nat}(hT:T f=some (jg i))(hi:T i=some (uB E.ag E.w))(hl:l.length≤9223372036854775807)(ht:pK T fv E.val p l){σ:SK}:
  lim T (.call false f [.aH l.length (l.flatMap E.enc),fv] σ)=some (.val (.bool (lC l p)) σ):=by
 refine az hT (jg.eq_1 _) rfl ?_;have h:=adx E hi hl ht (σ:=[]::σ);obtain⟨h1,h2,h3⟩:=ht;have h4:decide (0≤idxOf p l)=lC l p:=by
  unfold lC;have h6:=EK (p:=p) (l:=l);cases h5:l.any p
  ·have:=h6.2 h5;exact decide_eq_false (by omega)
  ·exact decide_eq_true (by
    have:¬idxOf p l<0:=fun h=>by rw[h6.1 h]at h5;cases h5
    omega)
 simp[h1,h2,h,h4]
theorem NM{g:Nat}(hT:T g=some (yp E.ag E.w))(ht:pK T fv E.val p l):pK T (.fn g [] [.bF [fv]]) E.val (fun x => !p x) l:=by
 refine pK.fn fun x hx σ=>?_
 obtain⟨h1,h2,h3⟩:=ht;have h6:=h3 x hx ([]::σ);have hc:=E.cells x;have hl:=E.load x;have hs:=E.strip x;have hcm:=E.calm x;generalize E.ag=ag at *
 cases ag with
 |true =>
  refine az hT (yp.eq_1 _) rfl ?_;simp[h1,h2,h6,hc,hl,hs,hcm]
 |false =>
  refine az hT (yp.eq_2 _) rfl ?_;simp[h1,h2,h6,hc,hl,hs,hcm]
theorem zt{f g h i:Nat}(hf:T f=some (DD g h))(hg:T g=some (yp E.ag E.w))(hh:T h=some (jg i))(hi:T i=some (uB E.ag E.w))
  (hl:l.length≤9223372036854775807) (ht:pK T fv E.val p l) (hcl:fv.cells=some [fv]) {σ:SK}:
  lim T (.call false f [.aH l.length (l.flatMap E.enc),fv] σ)=some (.val (.bool (gQ l p)) σ):=by
 refine az hf (DD.eq_1 _ _) rfl ?_;have h:=contains_of E hh hi hl (NM E hg ht) (σ:=[]::σ);obtain⟨h1,h2,h3⟩:=ht;have h4:(lC l fun x => !p x) = !gQ l p:=by
  unfold lC gQ;rw[List.all_eq_not_any_not,Bool.not_not]
 simp[h1,h2,h,h4,hcl]
end
variable {T:yo}
theorem gw{f:Nat}{fn:Fn}{args:List D}{σ σ':SK}{d:D}{np:Nat}{res:List Dn}{body:cH}(hT:T f=some fn)(hf:fn=⟨np,res,body⟩)(hl:args.length=np)(hs:σ'.length=σ.length)
  (h:WC (lim T) body (nj 0 args) ([]::σ) (QU σ' res d)):
  lim T (.call false f args σ)=some (.val d σ'):=by
 subst hf;obtain⟨x,e1,σ1,h1,h2,h2',ds,h3,s,h4⟩:=h;refine gW ?_;rw[hs,S3]at h4;simp only[dp,hT,if_pos hl,aw,if_false,h1];cases x with
 |exit i=>exact absurd rfl (h2 i)
 |fQ d=>exact absurd rfl (h2' d)
 |normal=>simp[h3,h4]
 |ret=>simp[h3,h4]
def okX:Exit→Prop
 |.normal=>True
 |.ret=>True
 |_=>False
@[simp] theorem awZ:okX .ret=True:=aD rfl
theorem we{f:Nat}{fn:Fn}{args:List D}{σ σ':SK}{d:D}{np:Nat}{res:List Dn}{body:cH}(hT:T f=some fn)(hf:fn=⟨np,res,body⟩)(hl:args.length=np)
  (h:WC (lim T) body (nj 0 args) σ fun x e σ1=>okX x∧(y9 e σ1 res).map tX=some d∧σ1=σ'):
  lim T (.call true f args σ)=some (.val d σ'):=by
 subst hf;obtain⟨x,e1,σ1,h1,h2,h3,rfl⟩:=h;refine gW ?_;simp only[ad]at h3;obtain⟨ds,h3,rfl⟩:=h3;simp only[dp,hT,if_pos hl,if_true,h1];cases x with
 |exit i=>exact h2.elim
 |fQ d=>exact h2.elim
 |normal=>simp[h3]
 |ret=>simp[h3]
inductive yh (T:yo) (l i:Nat) {α:Type} (f:α→List D):List α→SK→Bool→SK→Prop
 |nil (σ:SK):yh T l i f [] σ true σ
 |go (a:α) (xs:List α) (σ σ1 σ2:SK) (b:Bool):lim T (.round l i (f a) σ)=some (.val (.bool true) σ1)→yh T l i f xs σ1 b σ2→yh T l i f (a::xs) σ b σ2
 |stop (a:α) (xs:List α) (σ σ1:SK):lim T (.round l i (f a) σ)=some (.val (.bool false) σ1)→yh T l i f (a::xs) σ false σ1
theorem yh.split{l i:Nat}{α:Type}{f:α→List D}:∀{xs bs:List α} {σ σ':SK} {b:Bool},yh T l i f (xs++bs) σ b σ' →
  (∃σ1,yh T l i f xs σ true σ1∧yh T l i f bs σ1 b σ')∨(b=false∧yh T l i f xs σ false σ')
 |[],bs,σ,σ',b,h => .inl ⟨σ,.nil σ,h⟩
 |a::xs,bs,σ,σ',b,h=>by
  cases h with
  |go _ _ _ σ1 _ _ h1 h2 =>
   rcases yh.split h2 with⟨σ3,h3,h4⟩ | ⟨rfl,h3⟩
   ·exact .inl ⟨σ3,.go _ _ _ _ _ _ h1 h3,h4⟩
   ·exact .inr ⟨rfl,.go _ _ _ _ _ _ h1 h3⟩
  |stop _ _ _ _ h1=>exact .inr ⟨rfl,.stop _ _ _ _ h1⟩
theorem NJ{live:List Nat}{fo:bL}{params:List Nat}{zu body:cH}{e:Env}{s:List aE}{σ σ2:SK}{Q:Exit→Env→SK→Prop}{g:Nat}{first cap:List D}{d:D}{lp:wE}
  (hf:bf e fo=.fn g first cap)
  (hc:lim T (.call false g (first++[.mq σ.length s.length]++cap) ((s++[.loop {state:=0,xf:=none,env:=xm live e,params,zu,body }])::σ))=some (.val d σ2))
  (hb:ei σ2 σ.length s.length=some (.loop lp)) (hs:lp.state≠1)
  (hq:Q (lp.xf.getD .normal) (restrict live e) (aV σ2 σ.length s.length (.loop {lp with state:=3 }))):
  WC (lim T) (.JO live fo params zu body) e (s::σ) Q:=by
 refine⟨_,_,_,?_,hq⟩;simp only[aY,hJ,hf,Fh,hc,R.bh,hb,if_neg hs]
def EL:Option aE→Option wE
 |some (.loop lp)=>some lp
 |_=>none
@[simp] theorem alz{lp:wE}:EL (some (.loop lp))=some lp:=aD rfl
theorem xR{o:Option aE}{lp:wE}(h:EL o=some lp):o=some (.loop lp):=by
 cases o with
 |none=>cases h
 |some b=>cases b<;>cases h;rfl
def atf(l i:Nat)(b:Bool)(σ':SK)(x:Exit)(σ2:SK):Prop :=
 match x with
 |.fQ _=>False
 |.normal=>WD (EL (ei σ2.tail l i)) fun lp2=>aV σ2.tail l i (.loop {lp2 with state:=0,xf:=none })=σ'∧b=true
 |x=>WD (EL (ei σ2.tail l i)) fun lp2=>aV σ2.tail l i (.loop {lp2 with state:=2,xf:=some x })=σ'∧b=false
@[simp] theorem agV{l i:Nat}{b:Bool}{σ':SK}{s2:List aE}{σ3:SK}:atf l i b σ' .normal (s2::σ3)=WD (EL (ei σ3 l i)) fun lp2=>aV σ3 l i (.loop {lp2 with state:=0,xf:=none })=σ'∧b=true:=aD rfl
def Rj(T:yo)(l i:Nat)(b:Bool)(σ':SK)(n:Nat)(body:cH)(x:Exit)(e1:Env)(σ1:SK)(_m:Mark body:=.mk):Prop :=
 x=.normal∧WD (EL (ei σ1 l i)) fun lp1=>lp1.state=0∧WC (lim T) body e1 (aV σ1 l i (.loop {lp1 with state:=1 })) fun x _ σ2=>σ2.length=n∧atf l i b σ' x σ2
theorem Lv{l i:Nat}{args:List D}{σ σ':SK}{b:Bool}{lp:wE}(hb:ei σ l i=some (.loop lp))(hl:args.length=lp.params.length)
  (h:WC (lim T) lp.zu (zV lp.params args lp.env) ([]::σ) (Rj T l i b σ' (σ.length+1) lp.body)):
  lim T (.round l i args σ)=some (.val (.bool b) σ'):=by
 obtain⟨x,e1,σ1,h1,rfl,lp1,h2,h3,x2,e2,σ2,h4,hlen,h6⟩:=h;have h2:=xR h2;cases σ2 with
 |nil=>simp at hlen
 |cons s2 σ3 =>
 refine gW ?_;simp only[dp,hb,if_pos hl,h1,h2,if_pos h3,h4];cases x2 with
 |normal=>obtain⟨lp2,h5,h6,rfl⟩:=h6;have h5:=xR h5;dsimp only [List.tail]at h5 h6 ⊢;rw[h5];dsimp only;rw[h6]
 |exit j=>obtain⟨lp2,h5,h6,rfl⟩:=h6;have h5:=xR h5;dsimp only [List.tail]at h5 h6 ⊢;rw[h5];dsimp only;rw[h6]
 |ret=>obtain⟨lp2,h5,h6,rfl⟩:=h6;have h5:=xR h5;dsimp only [List.tail]at h5 h6 ⊢;rw[h5];dsimp only;rw[h6]
 |fQ d=>exact h6.elim
@[simp] theorem alG{t:Nat}{ts:List Nat}{d:D}{ds:List D}{e:Env}:zV (t::ts) (d::ds) e=zV ts ds ((t,d)::e):=aD rfl
@[simp] theorem aqP{ds:List D}{e:Env}:zV [] ds e=e:=aD (by cases ds<;>rfl)
@[simp] theorem arI{e:Env}:xm [] e=[]:=aD rfl
@[simp] theorem alZ{t:Nat}{l:List Nat}{e:Env}:xm (t::l) e=(t,(get e t).strip)::xm l e:=aD rfl
variable {T:yo}
def QZ(vs:List Nat)(v:Nat)(d:D)(e:Env)(σ:SK):Env×SK :=
 match d with
 |.sl l i u off m w=>uL vs ((v,(cz 0 deep (.sl l i u off m w) σ).1)::e) (cz 0 deep (.sl l i u off m w) σ).2
 |.own s cs=>uL vs ((v,.own s (cz.frzL (cz 0 deep) cs σ).1)::e) (cz.frzL (cz 0 deep) cs σ).2
 |.agg cs=>uL vs ((v,.agg (cs.map D.wc))::e) σ
 |.undef=>if 1000000≤v then uL vs (HR (v-1000000) e σ).1 (HR (v-1000000) e σ).2 else uL vs e σ
 |_=>uL vs e σ
@[simp] theorem auU{e:Env}{σ:SK}:uL [] e σ=(e,σ):=aD rfl
@[simp] theorem ar1{v:Nat}{vs:List Nat}{e:Env}{σ:SK}:uL (v::vs) e σ=QZ vs v (get e v) e σ:=by
 simp only[uL,QZ];cases get e v<;>rfl
@[simp] theorem awQ{v:Nat}{vs:List Nat}{e:Env}{σ:SK}{l i u off m w:Nat}:QZ vs v (.sl l i u off m w) e σ =
  uL vs ((v,(cz 0 deep (.sl l i u off m w) σ).1)::e) (cz 0 deep (.sl l i u off m w) σ).2:=aD rfl
@[simp] theorem auQ{v:Nat}{vs:List Nat}{e:Env}{σ:SK}{s:Nat}{cs:List D}:QZ vs v (.own s cs) e σ =
  uL vs ((v,.own s (cz.frzL (cz 0 deep) cs σ).1)::e) (cz.frzL (cz 0 deep) cs σ).2:=aD rfl
@[simp] theorem auP{v:Nat}{vs:List Nat}{e:Env}{σ:SK}{cs:List D}:QZ vs v (.agg cs) e σ=uL vs ((v,.agg (cs.map D.wc))::e) σ:=aD rfl
@[simp] theorem as5{k:IntKind}{n:Int}:D.wc (.int k n)=.int k n:=aD rfl
@[simp] theorem as6{n:Nat}{cs:List D}:D.wc (.aH n cs)=.aH n cs:=aD rfl
def MG(v:Nat)(d:D)(e:Env)(σ:SK):Env×SK :=
 match d with
 |.aF=>((v,.aH 0 [])::e,σ)
 |.ref l i u 0=>((v,(DN l i u σ).1)::e,(DN l i u σ).2)
 |.own s cs=>((v,.own s (cs.map D.wc))::e,σ)
 |_=>(e,σ)
@[simp] theorem awR{v:Nat}{e:Env}{σ:SK}:HR v e σ=MG v (get e v) e σ:=rfl
@[simp] theorem ar0{v:Nat}{e:Env}{σ:SK}:MG v .aF e σ=((v,.aH 0 [])::e,σ):=aD rfl
@[simp] theorem auR{v n:Nat}{cs:List D}{e:Env}{σ:SK}:MG v (.aH n cs) e σ=(e,σ):=aD rfl
@[simp] theorem auT{v l i u:Nat}{e:Env}{σ:SK}:MG v (.ref l i u 0) e σ=((v,(DN l i u σ).1)::e,(DN l i u σ).2):=aD rfl
@[simp] theorem auS{v s:Nat}{cs:List D}{e:Env}{σ:SK}:MG v (.own s cs) e σ=((v,.own s (cs.map D.wc))::e,σ):=aD rfl
@[simp] theorem as7{s:List UInt8}:D.wc (.str s)=.str s:=aD rfl
@[simp] theorem get_none{t:Nat}:get [] t=.undef:=aD rfl
@[simp] theorem aqt{v:Nat}{vs:List Nat}{e:Env}{σ:SK}:QZ vs v .undef e σ=if 1000000≤v then uL vs (HR (v-1000000) e σ).1 (HR (v-1000000) e σ).2 else uL vs e σ:=aD rfl
def azx(l n m off w:Nat)(σ:SK)(s:D):Option (List D)→D×SK
 |some cs=>(.aH m (cz.frzL (cz l n) ((cs.drop off).take (m*w)) σ).1,(cz.frzL (cz l n) ((cs.drop off).take (m*w)) σ).2)
 |none=>(.undef,σ)
theorem ado{L i u off m w:Nat}{σ:SK}{cs:List D}(hL:0<L)(hc:cells? σ L i u=some cs):
  cz 0 16 (.sl L i u off m w) σ=(.aH m (cz.frzL (cz 0 15) ((cs.drop off).take (m*w)) (aV σ L i .dead)).1,(cz.frzL (cz 0 15) ((cs.drop off).take (m*w)) (aV σ L i .dead)).2):=by
 exact C7 (by omega) hc (by omega)
theorem afJ{σ:SK}(hσ:σ≠[]){bs:List aE}{i u m w:Nat}{cs:List D}(hb:bs[i]?=some (.cells u cs))(hcl:D.bz cs=true)(hlen:cs.length=m*w):
  cz 0 16 (.sl σ.length i u 0 m w) (bs::σ)=(.aH m cs,bs.set i .dead::σ):=by
 have h:=aK.2 hσ;rw[ado h (cs:=cs) (by simp[hb])];simp[← hlen,hcl,aj]
theorem Jw{α:Type}{f:α→List D}{w:Nat}(hw:∀x,(f x).length=w)(l:List α):(l.flatMap f).take (l.length*w)=l.flatMap f :=
 aj (by rw[bZ hw];exact aJ _)
theorem gX{α:Type}{f:α→List D}(h:∀x,D.bz (f x)=true)(l:List α):D.bz (l.flatMap f)=true:=by
 have app:∀a b:List D,D.bz (a++b)=(D.bz a && D.bz b):=by
  intro a b;induction a with
  |nil=>simp
  |cons x a ih=>simp[ih,Bool.and_assoc]
 induction l with
 |nil=>simp
 |cons a l ih=>simp[app,h,ih]
theorem xO{α:Type}{f:α→List D}{w:Nat}(hw:∀x,(f x).length=w)(hc:∀x,D.bz (f x)=true){l:List α}{j v:Nat}{bs:List aE}{σ:SK}(hσ:σ≠[])(hj:bs[j]?=some (.cells v (l.flatMap f))):
  cz (σ.length-1) 16 (.sl σ.length j v 0 l.length w) (bs::σ)=(.aH l.length (l.flatMap f),bs.set j .dead::σ):=by
 have h3:¬σ.length≤σ.length-1:=by have:=aK.2 hσ;omega
 rw[C7 h3 (cs:=l.flatMap f) (by simp[hj]) (by omega)];simp[Jw hw l,gX hc l]
theorem DW{α:Type}{f:α→List D}{w:Nat}(hw:∀x,(f x).length=w)(hc:∀x,D.bz (f x)=true){l:List α}{j v:Nat}{bs:List aE}{σ:SK}(hσ:σ≠[])(hj:bs[j]?=some (.cells v (l.flatMap f))):
  cz 0 16 (.sl σ.length j v 0 l.length w) (bs::σ)=(.aH l.length (l.flatMap f),bs.set j .dead::σ) :=
 afJ hσ hj (gX hc l) (bZ hw l)
theorem PF{α:Type}{f:α→List D}{w:Nat}(hw:∀x,(f x).length=w):∀{l:List α} {i:Nat} {x:α},i<l.length→(l.flatMap f).take (i*w)++(f x++(l.flatMap f).drop (i*w+w))=(l.set i x).flatMap f
 |[],i,x,h=>by simp at h
 |a::l,0,x,h=>by
  have h1:=hw a;simp only[Nat.zero_mul,List.take_zero,aX,aZ,List.set_cons_zero,cQ];rw[← h1,List.drop_left]
 |a::l,i+1,x,h=>by
  have h1:=hw a;have ih:=PF (l:=l) (i:=i) (x:=x) hw (by simpa using h);simp only[aZ,List.set_cons_succ];rw[← ih,show(i+1)*w=w+i*w by rw[eT];omega,← h1,List.take_length_add_append,j5,show(f a).length+i*(f a).length+(f a).length=(f a).length+(i*(f a).length+(f a).length)by omega,cM]
theorem Bi{α:Type}{f:α→List D}{w:Nat}(hw:∀x,(f x).length=w):∀{l:List α} {i:Nat} {x:α},l[i]?=some x→(l.flatMap f).drop (i*w)=f x++(l.flatMap f).drop (i*w+w)
 |[],i,x,h=>by simp at h
 |a::l,0,x,h=>by
  simp at h;subst h;have h1:=hw a;simp only[Nat.zero_mul,aO,aZ,cQ];rw[← h1,List.drop_left]
 |a::l,i+1,x,h=>by
  have h1:=hw a;have ih:=Bi (l:=l) (i:=i) (x:=x) hw (by simpa using h);simp only[aZ];rw[show(i+1)*w=w+i*w by rw[eT];omega,← h1,cM,show(f a).length+i*(f a).length+(f a).length=(f a).length+(i*(f a).length+(f a).length)by omega,cM,h1,ih]
@[simp] theorem auO{l:Nat}{σ:SK}:sO l [] σ=([],σ):=aD rfl
@[simp] theorem arZ{l t:Nat}{d:D}{e:Env}{σ:SK}:sO l ((t,d)::e) σ=((t,(cz l deep d σ).1)::(sO l e (cz l deep d σ).2).1,(sO l e (cz l deep d σ).2).2):=aD rfl
def PO(T:yo)(live:List Nat)(c:cH)(n:Nat)(Q:Exit→Env→SK→Prop)(_m:Mark c:=.mk)(_m':Mark Q:=.mk):Exit→Env→SK→Prop
 |.normal,e,σ=>WL T live true c (sO n (restrict live e) σ).1 (sO n (restrict live e) σ).2.tail Q
 |.exit i,e,σ=>Q (.exit i) (sO n (restrict (keys e) e) σ).1 (sO n (restrict (keys e) e) σ).2.tail
 |.ret,e,σ=>Q .ret (sO n (restrict (keys e) e) σ).1 (sO n (restrict (keys e) e) σ).2.tail
 |.fQ d,e,σ=>Q (.fQ d) (sO n (restrict (keys e) e) σ).1 (sO n (restrict (keys e) e) σ).2.tail
@[simp,simp ↓] theorem af7{live:List Nat}{c:cH}{n:Nat}{Q:Exit→Env→SK→Prop}{e:Env}{σ:SK}:PO T live c n Q .mk .mk .normal e σ=WL T live true c (sO n (restrict live e) σ).1 (sO n (restrict live e) σ).2.tail Q:=aD rfl
@[simp,simp ↓] theorem aqH{live:List Nat}{c:cH}{n i:Nat}{Q:Exit→Env→SK→Prop}{e:Env}{σ:SK}:PO T live c n Q .mk .mk (.exit i) e σ=Q (.exit i) (sO n (restrict (keys e) e) σ).1 (sO n (restrict (keys e) e) σ).2.tail:=aD rfl
@[simp,simp ↓] theorem asf{live:List Nat}{c:cH}{n:Nat}{Q:Exit→Env→SK→Prop}{e:Env}{σ:SK}:PO T live c n Q .mk .mk .ret e σ=Q .ret (sO n (restrict (keys e) e) σ).1 (sO n (restrict (keys e) e) σ).2.tail:=aD rfl
theorem DC{live:List Nat}{c c':cH}{e:Env}{σ:SK}{Q:Exit→Env→SK→Prop}(hc:c=c')(h:WC (lim T) c' (restrict live e) ([]::σ) (PO T live c (σ.length-1) Q .mk .mk)):WL T live true c e σ Q:=by
 rw[← hc]at h;obtain⟨x,e1,σ1,h1,h2⟩:=h;cases x with
 |normal =>
  obtain⟨x,e',σ',h3,h4⟩:=h2;exact⟨x,e',σ',gW (by simp[dp,h1,yA,h3]),h4⟩
 |exit i=>exact⟨_,_,_,gW (by simp[dp,h1,yA]),h2⟩
 |ret=>exact⟨_,_,_,gW (by simp[dp,h1,yA]),h2⟩
 |fQ d=>exact⟨_,_,_,gW (by simp[dp,h1,yA]),h2⟩
@[simp] theorem keys_nil:keys []=[]:=aD rfl
@[simp] theorem keys_cons{t:Nat}{d:D}{e:Env}:keys ((t,d)::e)=t::keys (e.filter fun p => !(p.1 == t)):=by
 simp only[keys,aP,List.eraseDups_cons,List.filter_map];rfl
end Go.Abs
namespace Go.Abs
def qo(d:Nat)(k:K):Op:=⟨some d,none,false,k⟩
def qO(d:Nat)(k:K):Op:=⟨some d,none,true,k⟩
def qm(d x:Nat):Op:=⟨some d,none,false,.mv (.t x)⟩
def qM(d x:Nat):Op:=⟨some d,none,true,.mv (.t x)⟩
def qi(d:Nat)(n:Int):Op:=⟨some d,none,false,.mv (.c (.int .i64 n))⟩
def qb(d:Nat)(b:Bool):Op:=⟨some d,none,false,.mv (.c (.bool b))⟩
def qf(d o x:Nat):Op:=⟨some d,none,false,.HQ o (.t x)⟩
def qF(d o x:Nat):Op:=⟨some d,none,true,.HQ o (.t x)⟩
def ql(d n x:Nat):Op:=⟨some d,none,false,.ld false n (.t x)⟩
def qL(d n x:Nat):Op:=⟨some d,none,true,.ld false n (.t x)⟩
def qa(d n x:Nat):Op:=⟨some d,none,false,.ld true n (.t x)⟩
def qA(d n x:Nat):Op:=⟨some d,none,true,.ld true n (.t x)⟩
def qv(d v n a:Nat):Op:=⟨some d,none,false,.RT v false n a⟩
def qV(d v n a:Nat):Op:=⟨some d,none,true,.RT v false n a⟩
def qw(d v n a:Nat):Op:=⟨some d,none,false,.RT v true n a⟩
def qW(d v n a:Nat):Op:=⟨some d,none,true,.RT v true n a⟩
def qx(d x:Nat):Op:=⟨some d,none,false,.HN (.t x)⟩
def qe(d x:Nat):Op:=⟨some d,none,false,.HU (.t x)⟩
def qE(d x:Nat):Op:=⟨some d,none,true,.HU (.t x)⟩
def qj(d w x i:Nat):Op:=⟨some d,none,false,.dP w (.t x) (.t i)⟩
def qJ(d w x i:Nat):Op:=⟨some d,none,true,.dP w (.t x) (.t i)⟩
def qk(d:Nat)(o:BinOp)(x y:Nat):Op:=⟨some d,none,false,.bin o (.t x) (.t y)⟩
def qK(d:Nat)(o:BinOp)(x y:Nat):Op:=⟨some d,none,true,.bin o (.t x) (.t y)⟩
def qn(d:Nat)(o:BinOp)(x:Nat)(n:Int):Op:=⟨some d,none,false,.bin o (.t x) (.c (.int .i64 n))⟩
def qN(d:Nat)(o:BinOp)(x:Nat)(n:Int):Op:=⟨some d,none,true,.bin o (.t x) (.c (.int .i64 n))⟩
def qu(d x:Nat):Op:=⟨some d,none,false,.un .not (.t x)⟩
def qp(d c x:Nat):Op:=⟨some d,none,false,.pick (.t c) (.t x) (.c (.bool false))⟩
def qP(d c x:Nat):Op:=⟨some d,none,false,.pick (.t c) (.c (.bool true)) (.t x)⟩
def qs(v n a x:Nat):Op:=⟨none,none,false,.FV v [] n a (.t x)⟩
def qS(v n a x:Nat):Op:=⟨none,none,true,.FV v [] n a (.t x)⟩
def qt(n a x:Nat):Op:=⟨none,none,false,.st [] n (.t a) (.t x)⟩
def qz(d x i:Nat):Op:=⟨some d,none,false,.ext (.t x) i⟩
def qZ(d x i:Nat):Op:=⟨some d,none,true,.ext (.t x) i⟩
def qc(d f:Nat)(a:List Nat):Op:=⟨some d,none,false,.call false (.c (.fn f [] [])) (a.map .t)⟩
def qC(d f:Nat)(a:List Nat):Op:=⟨some d,none,true,.call false (.c (.fn f [] [])) (a.map .t)⟩
def qy(d w b s x:Nat):Op:=⟨some d,none,false,.app w b (.t s) (.t x)⟩
def qg(t:Nat)(b:Bool)(o:Op):Op:=⟨o.dst,some (t,b),o.Am,o.k⟩
structure pF where
 f:Nat
 a:List D
 s:SK
 d:D
 t:SK
def pF.Ok(T:yo)(m:pF):Prop:=lim T (.call false m.f m.a m.s)=some (.val m.d m.t)
def pF.ask(m:pF):Q→Option R
 |.call false f a σ=>if f=m.f then if a=m.a then if σ=m.s then some (.val m.d m.t)else none else none else none
 |_=>none
theorem pF.Ok.ask{T:yo}{m:pF}(h:m.Ok T){q:Q}{r:R}(hq:m.ask q=some r):lim T q=some r:=by
 unfold pF.ask at hq;split at hq
 case h_2=>cases hq
 split at hq
 case isFalse=>cases hq
 rename_i h1;split at hq
 case isFalse=>cases hq
 rename_i h2;split at hq
 case isFalse=>cases hq
 rename_i h3;cases hq;rw[h1,h2,h3];exact h
def amH(M:List pF)(q:Q):Option R:=M.findSome? fun m=>m.ask q
def itM(T:yo)(M:List pF):Nat→bN
 |0=>amH M
 |n+1=>fun q=>match amH M q with
  |some r=>some r
  |none=>dp T (itM T M n) q
theorem NO{T:yo}{M:List pF}(hM:∀m∈M,m.Ok T){q:Q}{r:R}(h:amH M q=some r):lim T q=some r:=by
 obtain⟨m,h1,h2⟩:=List.exists_of_findSome?_eq_some h;exact(hM m h1).ask h2
theorem PD{T:yo}{M:List pF}(hM:∀m∈M,m.Ok T):∀{n:Nat} {q:Q} {r:R},itM T M n q=some r→lim T q=some r
 |0,q,r,h=>NO hM h
 |n+1,q,r,h=>by
  unfold itM at h;split at h
  ·rename_i h1;cases h;exact NO hM h1
  ·exact gW (Hs (fun q r=>PD hM) h)
end Go.Abs
