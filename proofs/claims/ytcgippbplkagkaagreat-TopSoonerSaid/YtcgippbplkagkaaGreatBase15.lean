import Derived.Test.YtcgippbplkagkaaGreatBase14
import Derived.IntWalk
set_option linter.all false
namespace Go.Abs
open Go
theorem WL.to{T:sn}{live:List Nat}{oE:Bool}{c:bQ}{e e':Env}{σ σ':SK}{Q Q':Exit→Env→SK→Prop}(h:WL T live oE c e σ Q)(he:e'=e)(hs:σ'=σ)
  (hq:∀x e σ,Q x e σ→Q' x e σ):WL T live oE c e' σ' Q':=by subst he hs;exact h.mono hq
theorem j1{α:Type}{f:α→List D}{w:Nat}(hw:∀x,(f x).length=w)(l:List α):(l.flatMap f).length=l.length*w:=by
 induction l with
 |nil=>simp
 |cons a l ih=>simp[hw,ih,eS];omega
theorem cE{α:Type}{f:α→List D}{w:Nat}(hw:∀x,(f x).length=w):∀{l:List α} {i:Nat} {x:α},l[i]?=some x→((l.flatMap f).drop (i*w)).take w=f x
 |[],i,x,h=>by simp at h
 |a::l,0,x,h=>by
  simp at h;subst h;simp[← hw a]
 |a::l,i+1,x,h=>by
  have e:(i+1)*w=(f a).length+i*w:=by rw[hw,eS];omega
  rw[bk,e,List.drop_append];simp only[Nat.add_sub_cancel_left,az (Nat.le_add_right _ _),bR];exact cE hw (by simpa using h)
theorem cO{α:Type}{l:List α}{i:Nat}{x:α}(h:l[i]?=some x):l.drop i=x::l.drop (i+1):=by
 have h1:i<l.length:=(an.1 h).1;rw[List.drop_eq_getElem_cons h1];rw[au h1]at h;simp at h;rw[h]
theorem mj{α:Type}{f:α→List D}{l:List α}{i:Nat}{x:α}(h:l[i]?=some x):(l.take i).flatMap f++f x=(l.take (i+1)).flatMap f:=by
 rw[List.take_add_one,h];simp
theorem IW{α:Type}{f:α→D}(l:List α):l.flatMap (fun x=>[f x])=l.map f:=by
 induction l with
 |nil=>rfl
 |cons a l ih=>simp[ih]
theorem eW{n:Int}(h : -9223372036854775808≤n∧n≤9223372036854775807):IntKind.i64.wrap n=n:=IntWalk.i64_in n h
@[simp] theorem acu:IntKind.i64.wrap 1=1:=by decide
@[simp] theorem acv:IntKind.i64.wrap 2=2:=by decide
@[simp] theorem acw:IntKind.i64.wrap 3=3:=by decide
@[simp] theorem acx:IntKind.i64.wrap 4=4:=by decide
theorem db{i n:Nat}(h:i<n)(hn:n≤9223372036854775807):IntKind.i64.wrap ((i:Int)+1)=((i+1:Nat):Int):=by
 rw[eW (by omega)];rfl
variable {T:sn}
def idxOf{α:Type}(p:α→Bool):List α→Int
 |[] => -1
 |x::l=>if p x then 0 else if idxOf p l<0 then -1 else idxOf p l+1
theorem vK{α:Type}{p:α→Bool}:∀{l:List α},idxOf p l<0↔l.any p=false
 |[]=>by simp[idxOf]
 |x::l=>by
  have ih:=vK (p:=p) (l:=l);simp only[idxOf,List.any_cons];cases h:p x
  ·simp only[al,if_false,Bool.false_or];by_cases h1:idxOf p l<0
   ·rw[if_pos h1,ih.1 h1];decide
   ·rw[if_neg h1];have h2:¬l.any p=false:=fun h=>h1 (ih.2 h)
    exact⟨fun h3=>absurd h3 (by omega),fun h3=>absurd h3 h2⟩
  ·simp
def eH{α:Type}(l:List α)(p:α→Bool):Bool:=l.all p
def wF{α:Type}(l:List α)(p:α→Bool):Bool:=l.any p
theorem jW{α:Type}{l:List α}{p:α→Bool}:eH l p=true↔∀x∈l,p x=true:=by simp[eH]
def lz(T:sn){α:Type}(fv:D)(val:α→D)(p:α→Bool)(l:List α):Prop :=
 fv.strip=fv∧fv.calm=fv∧∀x∈l,∀σ,kN (bG T) false fv [val x] σ=some (.bool (p x),σ)
theorem lz.fn{α:Type}{f:Nat}{first cap:List D}{val:α→D}{p:α→Bool}{l:List α}
  (h:∀x∈l,∀σ,bG T (.call false f (first++[val x]++cap) σ)=some (.val (.bool (p x)) σ)):lz T (.fn f first cap) val p l :=
 ⟨rfl,rfl,fun x hx σ=>by rw[uK,h x hx σ];rfl⟩
structure Xi(α:Type) where
 ag:Bool
 w:Nat
 enc:α→List D
 val:α→D
 len:∀x,(enc x).length=w
 load:∀x,Cy ag w (some (enc x))=some (val x)
 strip:∀x,(val x).strip=val x
 calm:∀x,(val x).calm=val x
 cells:∀x,(val x).cells=some (enc x)
def Co(k:IntKind):Xi Int:=⟨false,1,fun n=>[.int k n],fun n => .int k n,fun _=>rfl,fun _=>by simp,fun _=>rfl,fun _=>rfl,fun _=>rfl⟩
def aaO:Xi Bool:=⟨false,1,fun n=>[.bool n],fun n => .bool n,fun _=>rfl,fun _=>by simp,fun _=>rfl,fun _=>rfl,fun _=>rfl⟩
def sq{α:Type}(w:Nat)(enc:α→List D)(h:∀x,(enc x).length=w):Xi α :=
 ⟨true,w,enc,fun x => .agg (enc x),h,fun x=>by simp[h,aq],fun _=>rfl,fun _=>rfl,fun _=>rfl⟩
section index
variable (ag:Bool) (w:Nat)
def yI:bQ :=
 (.seq (.cL [0,1,7,8,9] [⟨some 9,none,false,.bin .lss (.t 8) (.t 7)⟩]) (.seq (.ite (.t 9) .ei (.exit 0)) (.seq (.bu 1 (.seq (.cL [0,1,5,7,8] [
 ⟨some 10,none,false,.mv (.t 8)⟩,
 ⟨some 5,none,false,.mv (.t 10)⟩]) (.seq (.cL [0,1,5,7,8,16] [
 ⟨some 11,none,false,.mv (.t 1)⟩,
 ⟨some 12,none,false,.mv (.t 0)⟩,
 ⟨some 13,none,false,.mv (.t 5)⟩,
 ⟨some 14,none,false,.wI w (.t 12) (.t 13)⟩,
 ⟨some 15,none,false,.ld ag w (.t 14)⟩,
 ⟨some 16,none,false,.call false (.t 11) [(.t 15)]⟩]) (.ite (.t 16) (.seq (.cL [4] [
 ⟨some 17,none,false,.mv (.t 5)⟩,
 ⟨some 4,none,false,.mv (.t 17)⟩]) .ret) .ei)))) (.cL [0,1,7,8] [
 ⟨some 18,none,false,.bin .add (.t 8) (.c (.int .i64 1))⟩,
 ⟨some 8,none,false,.mv (.t 18)⟩]))))
def pv:Fn:=⟨2,[.t 4],
 (.seq (.cL [0,1] [⟨some 4,none,false,.mv (.c (.int .i64 0))⟩]) (.seq (.seq (.cL [0,1,7,8] [
 ⟨some 6,none,false,.mv (.t 0)⟩,
 ⟨some 7,none,false,.yK (.t 6)⟩,
 ⟨some 8,none,false,.mv (.c (.int .i64 0))⟩]) (.bu 0 (.loop [0,1,7,8] false (yI ag w)))) (.seq (.cL [4] [
 ⟨some 4,none,false,.mv (.c (.int .i64 (-1)))⟩]) .ret)))⟩
def iJ(i:Nat):Fn:=⟨2,[.t 4],
 (.seq (.cL [0,1] [⟨some 4,none,false,.mv (.c (.bool false))⟩]) (.seq (.cL [4] [
 ⟨some 5,none,false,.mv (.t 0)⟩,
 ⟨some 6,none,false,.mv (.t 1)⟩,
 ⟨some 7,none,false,.call false (.c (.fn i [] [])) [(.t 5),(.t 6)]⟩,
 ⟨some 8,none,false,.bin .geq (.t 7) (.c (.int .i64 0))⟩,
 ⟨some 4,none,false,.mv (.t 8)⟩]) .ret))⟩
def xl(g h:Nat):Fn:=⟨2,[.t 4],
 (.seq (.cL [0,3] [
 ⟨some 3,none,false,.yC (.t 1)⟩,
 ⟨some 4,none,false,.mv (.c (.bool false))⟩]) (.seq (.cL [4] [
 ⟨some 5,none,false,.mv (.t 0)⟩,
 ⟨some 6,none,false,.wo g [] [(.t 3)]⟩,
 ⟨some 7,none,false,.call false (.c (.fn h [] [])) [(.t 5),(.t 6)]⟩,
 ⟨some 8,none,false,.un .not (.t 7)⟩,
 ⟨some 4,none,false,.mv (.t 8)⟩]) .ret))⟩
def pH:Bool→Nat→Fn
 |true,w=>⟨2,[.t 3],
 (.seq (.cL [1,2] [
 ⟨some 2,none,false,.yC (.t 0)⟩,
 ⟨some 3,none,false,.mv (.c (.bool false))⟩]) (.seq (.cL [3] [
 ⟨some 4,none,false,.ld false 1 (.t 1)⟩,
 ⟨some 5,none,false,.ld true w (.t 2)⟩,
 ⟨some 6,none,false,.call false (.t 4) [(.t 5)]⟩,
 ⟨some 7,none,false,.un .not (.t 6)⟩,
 ⟨some 3,none,false,.mv (.t 7)⟩]) .ret))⟩
 |false,_=>⟨2,[.t 3],
 (.seq (.cL [0,1] [
 ⟨some 3,none,false,.mv (.c (.bool false))⟩]) (.seq (.cL [3] [
 ⟨some 4,none,false,.ld false 1 (.t 1)⟩,
 ⟨some 5,none,false,.mv (.t 0)⟩,
 ⟨some 6,none,false,.call false (.t 4) [(.t 5)]⟩,
 ⟨some 7,none,false,.un .not (.t 6)⟩,
 ⟨some 3,none,false,.mv (.t 7)⟩]) .ret))⟩
end index
section
variable {α:Type} (E:Xi α) {p:α→Bool} {fv:D} {l:List α}
theorem Bq(hl:l.length≤9223372036854775807)(ht:lz T fv E.val p l){σ:SK}:∀(m i:Nat),i+m=l.length →
  WL T [0,1,7,8] false (yI E.ag E.w) [(0,.aE l.length (l.flatMap E.enc)),(1,fv),(7,.int .i64 l.length),(8,.int .i64 i)] σ
   (fun x e σ'=>σ'=σ∧if idxOf p (l.drop i)<0 then x=.exit 0 else x=.ret∧get e 4=.int .i64 (i+idxOf p (l.drop i)))
 |0,i,hi=>by
  obtain⟨h1,h2,h3⟩:=ht;refine aB (yI.eq_1 _ _) ?_;have:¬i<l.length:=by omega
  have h5:l.drop i=[]:=by simp;omega
  simp[this,h1,h2,h5,idxOf]
 |m+1,i,hi=>by
  have ih:=Bq hl ht (σ:=σ) m (i+1) (by omega);obtain⟨h1,h2,h3⟩:=ht;refine aB (yI.eq_1 _ _) ?_;have h4:i<l.length:=by omega
  obtain⟨x,hx⟩:=gE h4;have h5:=cE (f:=E.enc) E.len hx;have h6:=h3 x (aj hx) σ;have h7:=db h4 hl;have h8:l.drop i=x::l.drop (i+1):=by
   rw[List.drop_eq_getElem_cons h4];rw[au h4]at hx;simp at hx;rw[hx]
  cases hp:p x
  ·rw[hp]at h6;simp[h4,h1,h2,h5,h6,h7,E.load,E.strip,E.calm];refine WL.mono (by simpa using ih) ?_;rintro x e σ' ⟨h9,h10⟩;refine⟨h9,?_⟩;rw[h8];simp only[idxOf,hp,al,if_false];by_cases h11:idxOf p (l.drop (i+1))<0
   ·simpa[h11]using h10
   ·rw[if_neg h11]at h10;rw[if_neg h11,if_neg (by omega)];refine⟨h10.1,?_⟩;rw[h10.2];congr 1;push_cast;omega
  ·rw[hp]at h6;simp[h4,h1,h2,h5,h6,h7,E.load,E.strip,E.calm,h8,idxOf,hp]
theorem Bs{f:Nat}(hT:T f=some (pv E.ag E.w))(hl:l.length≤9223372036854775807)(ht:lz T fv E.val p l){σ:SK}:
  bG T (.call false f [.aE l.length (l.flatMap E.enc),fv] σ)=some (.val (.int .i64 (idxOf p l)) σ):=by
 refine aA hT (pv.eq_1 _ _) rfl ?_;have h:=Bq E hl ht (σ:=[]::σ) l.length 0 (by simp);obtain⟨h1,h2,h3⟩:=ht;simp[h1,h2];refine WL.mono (by simpa using h) ?_;rintro x e σ' ⟨rfl,h10⟩
 try simp only[aO]at h10
 by_cases h11:idxOf p l<0
 ·rw[if_pos h11]at h10;subst h10;have:idxOf p l = -1:=by
   cases l with
   |nil=>rfl
   |cons a l =>
    simp only[idxOf]at h11 ⊢;split at h11<;>rename_i ha
    ·omega
    ·rw[if_neg ha];split at h11<;>rename_i hb
     ·rw[if_pos hb]
     ·omega
  simp[this]
 ·rw[if_neg h11]at h10;obtain⟨rfl,h12⟩:=h10
  try simp at h12
  simp[h12]
theorem contains_of{f i:Nat}(hT:T f=some (iJ i))(hi:T i=some (pv E.ag E.w))(hl:l.length≤9223372036854775807)(ht:lz T fv E.val p l){σ:SK}:
  bG T (.call false f [.aE l.length (l.flatMap E.enc),fv] σ)=some (.val (.bool (wF l p)) σ):=by
 refine aA hT (iJ.eq_1 _) rfl ?_;have h:=Bs E hi hl ht (σ:=[]::σ);obtain⟨h1,h2,h3⟩:=ht;have h4:decide (0≤idxOf p l)=wF l p:=by
  unfold wF;have h6:=vK (p:=p) (l:=l);cases h5:l.any p
  ·have:=h6.2 h5;exact decide_eq_false (by omega)
  ·exact decide_eq_true (by
    have:¬idxOf p l<0:=fun h=>by rw[h6.1 h]at h5;cases h5
    omega)
 simp[h1,h2,h,h4]
theorem Dz{g:Nat}(hT:T g=some (pH E.ag E.w))(ht:lz T fv E.val p l):lz T (.fn g [] [.aK [fv]]) E.val (fun x => !p x) l:=by
 refine lz.fn fun x hx σ=>?_
 obtain⟨h1,h2,h3⟩:=ht;have h6:=h3 x hx ([]::σ);have hc:=E.cells x;have hl:=E.load x;have hs:=E.strip x;have hcm:=E.calm x;generalize E.ag=ag at *
 cases ag with
 |true =>
  refine aA hT (pH.eq_1 _) rfl ?_;simp[h1,h2,h6,hc,hl,hs,hcm]
 |false =>
  refine aA hT (pH.eq_2 _) rfl ?_;simp[h1,h2,h6,hc,hl,hs,hcm]
theorem zP{f g h i:Nat}(hf:T f=some (xl g h))(hg:T g=some (pH E.ag E.w))(hh:T h=some (iJ i))(hi:T i=some (pv E.ag E.w))
  (hl:l.length≤9223372036854775807) (ht:lz T fv E.val p l) (hcl:fv.cells=some [fv]) {σ:SK}:
  bG T (.call false f [.aE l.length (l.flatMap E.enc),fv] σ)=some (.val (.bool (eH l p)) σ):=by
 refine aA hf (xl.eq_1 _ _) rfl ?_;have h:=contains_of E hh hi hl (Dz E hg ht) (σ:=[]::σ);obtain⟨h1,h2,h3⟩:=ht;have h4:(wF l fun x => !p x) = !eH l p:=by
  unfold wF eH;rw[List.all_eq_not_any_not,Bool.not_not]
 simp[h1,h2,h,h4,hcl]
end
variable {T:sn}
theorem mA{f:Nat}{fn:Fn}{args:List D}{σ σ':SK}{d:D}{np:Nat}{res:List uy}{body:bQ}(hT:T f=some fn)(hf:fn=⟨np,res,body⟩)(hl:args.length=np)(hs:σ'.length=σ.length)
  (h:WC (bG T) body (iH 0 args) ([]::σ) (A7 σ' res d)):
  bG T (.call false f args σ)=some (.val d σ'):=by
 subst hf;obtain⟨x,e1,σ1,h1,h2,h2',ds,h3,s,h4⟩:=h;refine fg ?_;rw[hs,Gd]at h4;simp only[cc,hT,if_pos hl,al,if_false,h1];cases x with
 |exit i=>exact absurd rfl (h2 i)
 |eR d=>exact absurd rfl (h2' d)
 |normal=>simp[h3,h4]
 |ret=>simp[h3,h4]
def okX:Exit→Prop
 |.normal=>True
 |.ret=>True
 |_=>False
@[simp] theorem aaY:okX .ret=True:=ar rfl
theorem uJ{f:Nat}{fn:Fn}{args:List D}{σ σ':SK}{d:D}{np:Nat}{res:List uy}{body:bQ}(hT:T f=some fn)(hf:fn=⟨np,res,body⟩)(hl:args.length=np)
  (h:WC (bG T) body (iH 0 args) σ fun x e σ1=>okX x∧(qD e σ1 res).map mS=some d∧σ1=σ'):
  bG T (.call true f args σ)=some (.val d σ'):=by
 subst hf;obtain⟨x,e1,σ1,h1,h2,h3,rfl⟩:=h;refine fg ?_;simp only[ab]at h3;obtain⟨ds,h3,rfl⟩:=h3;simp only[cc,hT,if_pos hl,if_true,h1];cases x with
 |exit i=>exact h2.elim
 |eR d=>exact h2.elim
 |normal=>simp[h3]
 |ret=>simp[h3]
inductive pF (T:sn) (l i:Nat) {α:Type} (f:α→List D):List α→SK→Bool→SK→Prop
 |nil (σ:SK):pF T l i f [] σ true σ
 |go (a:α) (xs:List α) (σ σ1 σ2:SK) (b:Bool):bG T (.round l i (f a) σ)=some (.val (.bool true) σ1)→pF T l i f xs σ1 b σ2→pF T l i f (a::xs) σ b σ2
 |stop (a:α) (xs:List α) (σ σ1:SK):bG T (.round l i (f a) σ)=some (.val (.bool false) σ1)→pF T l i f (a::xs) σ false σ1
theorem pF.split{l i:Nat}{α:Type}{f:α→List D}:∀{xs bs:List α} {σ σ':SK} {b:Bool},pF T l i f (xs++bs) σ b σ' →
  (∃σ1,pF T l i f xs σ true σ1∧pF T l i f bs σ1 b σ')∨(b=false∧pF T l i f xs σ false σ')
 |[],bs,σ,σ',b,h => .inl ⟨σ,.nil σ,h⟩
 |a::xs,bs,σ,σ',b,h=>by
  cases h with
  |go _ _ _ σ1 _ _ h1 h2 =>
   rcases pF.split h2 with⟨σ3,h3,h4⟩ | ⟨rfl,h3⟩
   ·exact .inl ⟨σ3,.go _ _ _ _ _ _ h1 h3,h4⟩
   ·exact .inr ⟨rfl,.go _ _ _ _ _ _ h1 h3⟩
  |stop _ _ _ _ h1=>exact .inr ⟨rfl,.stop _ _ _ _ h1⟩
theorem Dx{live:List Nat}{fo:ba}{params:List Nat}{q8 body:bQ}{e:Env}{s:List aF}{σ σ2:SK}{Q:Exit→Env→SK→Prop}{g:Nat}{first cap:List D}{d:D}{lp:oJ}
  (hf:aR e fo=.fn g first cap)
  (hc:bG T (.call false g (first++[.iN σ.length s.length]++cap) ((s++[.loop {state:=0,oV:=none,env:=o5 live e,params,q8,body }])::σ))=some (.val d σ2))
  (hb:cM σ2 σ.length s.length=some (.loop lp)) (hs:lp.state≠1)
  (hq:Q (lp.oV.getD .normal) (restrict live e) (aN σ2 σ.length s.length (.loop {lp with state:=3 }))):
  WC (bG T) (.Al live fo params q8 body) e (s::σ) Q:=by
 refine⟨_,_,_,?_,hq⟩;simp only[aL,dP,hf,we,hc,R.aP,hb,if_neg hs]
def vM:Option aF→Option oJ
 |some (.loop lp)=>some lp
 |_=>none
@[simp] theorem Tn{lp:oJ}:vM (some (.loop lp))=some lp:=ar rfl
theorem px{o:Option aF}{lp:oJ}(h:vM o=some lp):o=some (.loop lp):=by
 cases o with
 |none=>cases h
 |some b=>cases b<;>cases h;rfl
def XI(l i:Nat)(b:Bool)(σ':SK)(x:Exit)(σ2:SK):Prop :=
 match x with
 |.eR _=>False
 |.normal=>WD (vM (cM σ2.tail l i)) fun lp2=>aN σ2.tail l i (.loop {lp2 with state:=0,oV:=none })=σ'∧b=true
 |x=>WD (vM (cM σ2.tail l i)) fun lp2=>aN σ2.tail l i (.loop {lp2 with state:=2,oV:=some x })=σ'∧b=false
@[simp] theorem LB{l i:Nat}{b:Bool}{σ':SK}{s2:List aF}{σ3:SK}:XI l i b σ' .normal (s2::σ3)=WD (vM (cM σ3 l i)) fun lp2=>aN σ3 l i (.loop {lp2 with state:=0,oV:=none })=σ'∧b=true:=ar rfl
def EN(T:sn)(l i:Nat)(b:Bool)(σ':SK)(n:Nat)(body:bQ)(x:Exit)(e1:Env)(σ1:SK)(_m:Mark body:=.mk):Prop :=
 x=.normal∧WD (vM (cM σ1 l i)) fun lp1=>lp1.state=0∧WC (bG T) body e1 (aN σ1 l i (.loop {lp1 with state:=1 })) fun x _ σ2=>σ2.length=n∧XI l i b σ' x σ2
theorem BG{l i:Nat}{args:List D}{σ σ':SK}{b:Bool}{lp:oJ}(hb:cM σ l i=some (.loop lp))(hl:args.length=lp.params.length)
  (h:WC (bG T) lp.q8 (rE lp.params args lp.env) ([]::σ) (EN T l i b σ' (σ.length+1) lp.body)):
  bG T (.round l i args σ)=some (.val (.bool b) σ'):=by
 obtain⟨x,e1,σ1,h1,rfl,lp1,h2,h3,x2,e2,σ2,h4,hlen,h6⟩:=h;have h2:=px h2;cases σ2 with
 |nil=>simp at hlen
 |cons s2 σ3 =>
 refine fg ?_;simp only[cc,hb,if_pos hl,h1,h2,if_pos h3,h4];cases x2 with
 |normal=>obtain⟨lp2,h5,h6,rfl⟩:=h6;have h5:=px h5;dsimp only [List.tail]at h5 h6 ⊢;rw[h5];dsimp only;rw[h6]
 |exit j=>obtain⟨lp2,h5,h6,rfl⟩:=h6;have h5:=px h5;dsimp only [List.tail]at h5 h6 ⊢;rw[h5];dsimp only;rw[h6]
 |ret=>obtain⟨lp2,h5,h6,rfl⟩:=h6;have h5:=px h5;dsimp only [List.tail]at h5 h6 ⊢;rw[h5];dsimp only;rw[h6]
 |eR d=>exact h6.elim
@[simp] theorem Tr{t:Nat}{ts:List Nat}{d:D}{ds:List D}{e:Env}:rE (t::ts) (d::ds) e=rE ts ds ((t,d)::e):=ar rfl
@[simp] theorem Vq{ds:List D}{e:Env}:rE [] ds e=e:=ar (by cases ds<;>rfl)
@[simp] theorem Wg{e:Env}:o5 [] e=[]:=ar rfl
@[simp] theorem TO{t:Nat}{l:List Nat}{e:Env}:o5 (t::l) e=(t,(get e t).strip)::o5 l e:=ar rfl
variable {T:sn}
def IY(vs:List Nat)(v:Nat)(d:D)(e:Env)(σ:SK):Env×SK :=
 match d with
 |.sl l i u off m w=>nZ vs ((v,(cb 0 deep (.sl l i u off m w) σ).1)::e) (cb 0 deep (.sl l i u off m w) σ).2
 |.own s cs=>nZ vs ((v,.own s (cb.frzL (cb 0 deep) cs σ).1)::e) (cb.frzL (cb 0 deep) cs σ).2
 |.agg cs=>nZ vs ((v,.agg (cs.map D.vv))::e) σ
 |.undef=>if 1000000≤v then nZ vs (yH (v-1000000) e σ).1 (yH (v-1000000) e σ).2 else nZ vs e σ
 |_=>nZ vs e σ
@[simp] theorem Zm{e:Env}{σ:SK}:nZ [] e σ=(e,σ):=ar rfl
@[simp] theorem Wx{v:Nat}{vs:List Nat}{e:Env}{σ:SK}:nZ (v::vs) e σ=IY vs v (get e v) e σ:=by
 simp only[nZ,IY];cases get e v<;>rfl
@[simp] theorem aaR{v:Nat}{vs:List Nat}{e:Env}{σ:SK}{l i u off m w:Nat}:IY vs v (.sl l i u off m w) e σ =
  nZ vs ((v,(cb 0 deep (.sl l i u off m w) σ).1)::e) (cb 0 deep (.sl l i u off m w) σ).2:=ar rfl
@[simp] theorem Zk{v:Nat}{vs:List Nat}{e:Env}{σ:SK}{s:Nat}{cs:List D}:IY vs v (.own s cs) e σ =
  nZ vs ((v,.own s (cb.frzL (cb 0 deep) cs σ).1)::e) (cb.frzL (cb 0 deep) cs σ).2:=ar rfl
@[simp] theorem F4{k:IntKind}{n:Int}:D.vv (.int k n)=.int k n:=ar rfl
@[simp] theorem F5{n:Nat}{cs:List D}:D.vv (.aE n cs)=.aE n cs:=ar rfl
def U4(v:Nat)(d:D)(e:Env)(σ:SK):Env×SK :=
 match d with
 |.bw=>((v,.aE 0 [])::e,σ)
 |.ref l i u 0=>((v,(uQ l i u σ).1)::e,(uQ l i u σ).2)
 |.own s cs=>((v,.own s (cs.map D.vv))::e,σ)
 |.undef=>if 1000000≤v then(K3 (v-1000000) e,σ)else(e,σ)
 |_=>(e,σ)
def acF(v:Nat)(d:D)(e:Env):Env :=
 match d with
 |.own _ cs=>if e.all (fun p=>match p.2 with | .vr x _ _=>x != v | _=>true)then(v,.aK cs)::e else e
 |_=>e
@[simp] theorem aaS{v:Nat}{e:Env}{σ:SK}:yH v e σ=U4 v (get e v) e σ:=rfl
@[simp] theorem Ww{v:Nat}{e:Env}{σ:SK}:U4 v .bw e σ=((v,.aE 0 [])::e,σ):=ar rfl
@[simp] theorem Zl{v l i u:Nat}{e:Env}{σ:SK}:U4 v (.ref l i u 0) e σ=((v,(uQ l i u σ).1)::e,(uQ l i u σ).2):=ar rfl
@[simp] theorem get_none{t:Nat}:get [] t=.undef:=ar rfl
@[simp] theorem U3{v:Nat}{vs:List Nat}{e:Env}{σ:SK}:IY vs v .undef e σ=if 1000000≤v then nZ vs (yH (v-1000000) e σ).1 (yH (v-1000000) e σ).2 else nZ vs e σ:=ar rfl
def acB(l n m off w:Nat)(σ:SK)(s:D):Option (List D)→D×SK
 |some cs=>(.aE m (cb.frzL (cb l n) ((cs.drop off).take (m*w)) σ).1,(cb.frzL (cb l n) ((cs.drop off).take (m*w)) σ).2)
 |none=>(.undef,σ)
theorem U5{L i u off m w:Nat}{σ:SK}{cs:List D}(hL:0<L)(hc:cells? σ L i u=some cs):
  cb 0 16 (.sl L i u off m w) σ=(.aE m (cb.frzL (cb 0 15) ((cs.drop off).take (m*w)) (aN σ L i .dead)).1,(cb.frzL (cb 0 15) ((cs.drop off).take (m*w)) (aN σ L i .dead)).2):=by
 exact Cs (by omega) hc (by omega)
theorem KM{σ:SK}(hσ:σ≠[]){bs:List aF}{i u m w:Nat}{cs:List D}(hb:bs[i]?=some (.cells u cs))(hcl:D.bF cs=true)(hlen:cs.length=m*w):
  cb 0 16 (.sl σ.length i u 0 m w) (bs::σ)=(.aE m cs,bs.set i .dead::σ):=by
 have h:=oi.2 hσ;rw[U5 h (cs:=cs) (by simp[hb])];simp[← hlen,hcl,aq]
theorem Cw{α:Type}{f:α→List D}{w:Nat}(hw:∀x,(f x).length=w)(l:List α):(l.flatMap f).take (l.length*w)=l.flatMap f :=
 aq (by rw[j1 hw];exact aw _)
theorem mR{α:Type}{f:α→List D}(h:∀x,D.bF (f x)=true)(l:List α):D.bF (l.flatMap f)=true:=by
 have app:∀a b:List D,D.bF (a++b)=(D.bF a && D.bF b):=by
  intro a b;induction a with
  |nil=>simp
  |cons x a ih=>simp[ih,Bool.and_assoc]
 induction l with
 |nil=>simp
 |cons a l ih=>simp[app,h,ih]
theorem qd{α:Type}{f:α→List D}{w:Nat}(hw:∀x,(f x).length=w)(hc:∀x,D.bF (f x)=true){l:List α}{j v:Nat}{bs:List aF}{σ:SK}(hσ:σ≠[])(hj:bs[j]?=some (.cells v (l.flatMap f))):
  cb (σ.length-1) 16 (.sl σ.length j v 0 l.length w) (bs::σ)=(.aE l.length (l.flatMap f),bs.set j .dead::σ):=by
 have h3:¬σ.length≤σ.length-1:=by have:=oi.2 hσ;omega
 rw[Cs h3 (cs:=l.flatMap f) (by simp[hj]) (by omega)];simp[Cw hw l,mR hc l]
theorem DP{α:Type}{f:α→List D}{w:Nat}(hw:∀x,(f x).length=w)(hc:∀x,D.bF (f x)=true){l:List α}{j v:Nat}{bs:List aF}{σ:SK}(hσ:σ≠[])(hj:bs[j]?=some (.cells v (l.flatMap f))):
  cb 0 16 (.sl σ.length j v 0 l.length w) (bs::σ)=(.aE l.length (l.flatMap f),bs.set j .dead::σ) :=
 KM hσ hj (mR hc l) (j1 hw l)
theorem DQ{α:Type}{f:α→List D}{w:Nat}(hw:∀x,(f x).length=w):∀{l:List α} {i:Nat} {x:α},i<l.length→(l.flatMap f).take (i*w)++(f x++(l.flatMap f).drop (i*w+w))=(l.set i x).flatMap f
 |[],i,x,h=>by simp at h
 |a::l,0,x,h=>by
  have h1:=hw a;simp only[Nat.zero_mul,List.take_zero,bR,bk,List.set_cons_zero,dA];rw[← h1,List.drop_left]
 |a::l,i+1,x,h=>by
  have h1:=hw a;have ih:=DQ (l:=l) (i:=i) (x:=x) hw (by simpa using h);simp only[bk,List.set_cons_succ];rw[← ih,show(i+1)*w=w+i*w by rw[eS];omega,← h1,List.take_length_add_append,pc,show(f a).length+i*(f a).length+(f a).length=(f a).length+(i*(f a).length+(f a).length)by omega,bL]
theorem xN{α:Type}{f:α→List D}{w:Nat}(hw:∀x,(f x).length=w):∀{l:List α} {i:Nat} {x:α},l[i]?=some x→(l.flatMap f).drop (i*w)=f x++(l.flatMap f).drop (i*w+w)
 |[],i,x,h=>by simp at h
 |a::l,0,x,h=>by
  simp at h;subst h;have h1:=hw a;simp only[Nat.zero_mul,aO,bk,dA];rw[← h1,List.drop_left]
 |a::l,i+1,x,h=>by
  have h1:=hw a;have ih:=xN (l:=l) (i:=i) (x:=x) hw (by simpa using h);simp only[bk];rw[show(i+1)*w=w+i*w by rw[eS];omega,← h1,bL,show(f a).length+i*(f a).length+(f a).length=(f a).length+(i*(f a).length+(f a).length)by omega,bL,h1,ih]
@[simp] theorem Zj{l:Nat}{σ:SK}:kJ l [] σ=([],σ):=ar rfl
@[simp] theorem Wv{l t:Nat}{d:D}{e:Env}{σ:SK}:kJ l ((t,d)::e) σ=((t,(cb l deep d σ).1)::(kJ l e (cb l deep d σ).2).1,(kJ l e (cb l deep d σ).2).2):=ar rfl
def DY(T:sn)(live:List Nat)(c:bQ)(n:Nat)(Q:Exit→Env→SK→Prop)(_m:Mark c:=.mk)(_m':Mark Q:=.mk):Exit→Env→SK→Prop
 |.normal,e,σ=>WL T live true c (kJ n (restrict live e) σ).1 (kJ n (restrict live e) σ).2.tail Q
 |.exit i,e,σ=>Q (.exit i) (kJ n (restrict (keys e) e) σ).1 (kJ n (restrict (keys e) e) σ).2.tail
 |.ret,e,σ=>Q .ret (kJ n (restrict (keys e) e) σ).1 (kJ n (restrict (keys e) e) σ).2.tail
 |.eR d,e,σ=>Q (.eR d) (kJ n (restrict (keys e) e) σ).1 (kJ n (restrict (keys e) e) σ).2.tail
@[simp,simp ↓] theorem K2{live:List Nat}{c:bQ}{n:Nat}{Q:Exit→Env→SK→Prop}{e:Env}{σ:SK}:DY T live c n Q .mk .mk .normal e σ=WL T live true c (kJ n (restrict live e) σ).1 (kJ n (restrict live e) σ).2.tail Q:=ar rfl
@[simp,simp ↓] theorem Vk{live:List Nat}{c:bQ}{n i:Nat}{Q:Exit→Env→SK→Prop}{e:Env}{σ:SK}:DY T live c n Q .mk .mk (.exit i) e σ=Q (.exit i) (kJ n (restrict (keys e) e) σ).1 (kJ n (restrict (keys e) e) σ).2.tail:=ar rfl
@[simp,simp ↓] theorem WS{live:List Nat}{c:bQ}{n:Nat}{Q:Exit→Env→SK→Prop}{e:Env}{σ:SK}:DY T live c n Q .mk .mk .ret e σ=Q .ret (kJ n (restrict (keys e) e) σ).1 (kJ n (restrict (keys e) e) σ).2.tail:=ar rfl
theorem pT{live:List Nat}{c c':bQ}{e:Env}{σ:SK}{Q:Exit→Env→SK→Prop}(hc:c=c')(h:WC (bG T) c' (restrict live e) ([]::σ) (DY T live c (σ.length-1) Q .mk .mk)):WL T live true c e σ Q:=by
 rw[← hc]at h;obtain⟨x,e1,σ1,h1,h2⟩:=h;cases x with
 |normal =>
  obtain⟨x,e',σ',h3,h4⟩:=h2;exact⟨x,e',σ',fg (by simp[cc,h1,pM,h3]),h4⟩
 |exit i=>exact⟨_,_,_,fg (by simp[cc,h1,pM]),h2⟩
 |ret=>exact⟨_,_,_,fg (by simp[cc,h1,pM]),h2⟩
 |eR d=>exact⟨_,_,_,fg (by simp[cc,h1,pM]),h2⟩
def acy(n:Nat)(Q:Exit→Env→SK→Prop)(_m:Mark Q:=.mk):Exit→Env→SK→Prop:=fun x e σ=>Q x (kJ n (restrict (keys e) e) σ).1 (kJ n (restrict (keys e) e) σ).2.tail
@[simp] theorem keys_nil:keys []=[]:=ar rfl
@[simp] theorem keys_cons{t:Nat}{d:D}{e:Env}:keys ((t,d)::e)=t::keys (e.filter fun p => !(p.1 == t)):=by
 simp only[keys,aG,List.eraseDups_cons,List.filter_map];rfl
end Go.Abs
namespace Go.Abs
def qo(d:Nat)(k:K):Op:=⟨some d,none,false,k⟩
def qO(d:Nat)(k:K):Op:=⟨some d,none,true,k⟩
def qm(d x:Nat):Op:=⟨some d,none,false,.mv (.t x)⟩
def qM(d x:Nat):Op:=⟨some d,none,true,.mv (.t x)⟩
def qi(d:Nat)(n:Int):Op:=⟨some d,none,false,.mv (.c (.int .i64 n))⟩
def qb(d:Nat)(b:Bool):Op:=⟨some d,none,false,.mv (.c (.bool b))⟩
def qf(d o x:Nat):Op:=⟨some d,none,false,.yG o (.t x)⟩
def qF(d o x:Nat):Op:=⟨some d,none,true,.yG o (.t x)⟩
def ql(d n x:Nat):Op:=⟨some d,none,false,.ld false n (.t x)⟩
def qL(d n x:Nat):Op:=⟨some d,none,true,.ld false n (.t x)⟩
def qa(d n x:Nat):Op:=⟨some d,none,false,.ld true n (.t x)⟩
def qA(d n x:Nat):Op:=⟨some d,none,true,.ld true n (.t x)⟩
def qv(d v n a:Nat):Op:=⟨some d,none,false,.Ff v false n a⟩
def qV(d v n a:Nat):Op:=⟨some d,none,true,.Ff v false n a⟩
def qw(d v n a:Nat):Op:=⟨some d,none,false,.Ff v true n a⟩
def qW(d v n a:Nat):Op:=⟨some d,none,true,.Ff v true n a⟩
def qx(d x:Nat):Op:=⟨some d,none,false,.yC (.t x)⟩
def qe(d x:Nat):Op:=⟨some d,none,false,.yK (.t x)⟩
def qE(d x:Nat):Op:=⟨some d,none,true,.yK (.t x)⟩
def qj(d w x i:Nat):Op:=⟨some d,none,false,.wI w (.t x) (.t i)⟩
def qJ(d w x i:Nat):Op:=⟨some d,none,true,.wI w (.t x) (.t i)⟩
def qk(d:Nat)(o:BinOp)(x y:Nat):Op:=⟨some d,none,false,.bin o (.t x) (.t y)⟩
def qK(d:Nat)(o:BinOp)(x y:Nat):Op:=⟨some d,none,true,.bin o (.t x) (.t y)⟩
def qn(d:Nat)(o:BinOp)(x:Nat)(n:Int):Op:=⟨some d,none,false,.bin o (.t x) (.c (.int .i64 n))⟩
def qN(d:Nat)(o:BinOp)(x:Nat)(n:Int):Op:=⟨some d,none,true,.bin o (.t x) (.c (.int .i64 n))⟩
def qu(d x:Nat):Op:=⟨some d,none,false,.un .not (.t x)⟩
def qp(d c x:Nat):Op:=⟨some d,none,false,.pick (.t c) (.t x) (.c (.bool false))⟩
def qP(d c x:Nat):Op:=⟨some d,none,false,.pick (.t c) (.c (.bool true)) (.t x)⟩
def qs(v n a x:Nat):Op:=⟨none,none,false,.wM v [] n a (.t x)⟩
def qS(v n a x:Nat):Op:=⟨none,none,true,.wM v [] n a (.t x)⟩
def qt(n a x:Nat):Op:=⟨none,none,false,.st [] n (.t a) (.t x)⟩
def qz(d x i:Nat):Op:=⟨some d,none,false,.ext (.t x) i⟩
def qZ(d x i:Nat):Op:=⟨some d,none,true,.ext (.t x) i⟩
def qc(d f:Nat)(a:List Nat):Op:=⟨some d,none,false,.call false (.c (.fn f [] [])) (a.map .t)⟩
def qC(d f:Nat)(a:List Nat):Op:=⟨some d,none,true,.call false (.c (.fn f [] [])) (a.map .t)⟩
def qy(d w b s x:Nat):Op:=⟨some d,none,false,.app w b (.t s) (.t x)⟩
def qg(t:Nat)(b:Bool)(o:Op):Op:=⟨o.dst,some (t,b),o.rU,o.k⟩
end Go.Abs
