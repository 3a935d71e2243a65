import Derived.Test.YtnlkaeapgmkbnaaDoorBase19
import Derived.IntWalk
set_option linter.all false
namespace Go.Abs
open Go
theorem WL.to{T:lN}{live:List Nat}{kF:Bool}{c:bC}{e e':Env}{σ σ':SK}{Q Q':Exit→Env→SK→Prop}(h:WL T live kF c e σ Q)(he:e'=e)(hs:σ'=σ)
  (hq:∀x e σ,Q x e σ→Q' x e σ):WL T live kF c e' σ' Q':=by subst he hs;exact h.mono hq
theorem eI{α:Type}{f:α→List D}{w:Nat}(hw:∀x,(f x).length=w)(l:List α):(l.flatMap f).length=l.length*w:=by
 induction l with
 |nil=>simp
 |cons a l ih=>simp[hw,ih,fa];omega
theorem gY{α:Type}{f:α→List D}{w:Nat}(hw:∀x,(f x).length=w):∀{l:List α} {i:Nat} {x:α},l[i]?=some x→((l.flatMap f).drop (i*w)).take w=f x
 |[],i,x,h=>by simp at h
 |a::l,0,x,h=>by
  simp at h;subst h;simp[← hw a]
 |a::l,i+1,x,h=>by
  have e:(i+1)*w=(f a).length+i*w:=by rw[hw,fa];omega
  rw[br,e,List.drop_append];simp only[Nat.add_sub_cancel_left,iy (Nat.le_add_right _ _),aL];exact gY hw (by simpa using h)
theorem zC{α:Type}{l:List α}{i:Nat}{x:α}(h:l[i]?=some x):l.drop i=x::l.drop (i+1):=by
 have h1:i<l.length:=(ar.1 h).1;rw[List.drop_eq_getElem_cons h1];rw[aW h1]at h;simp at h;rw[h]
theorem fA{n:Int}(h : -9223372036854775808≤n∧n≤9223372036854775807):IntKind.i64.wrap n=n:=IntWalk.i64_in n h
@[simp] theorem Og:IntKind.i64.wrap 0=0:=by decide
@[simp] theorem Oh:IntKind.i64.wrap 1=1:=by decide
@[simp] theorem Oi:IntKind.i64.wrap 2=2:=by decide
@[simp] theorem Oj:IntKind.i64.wrap 3=3:=by decide
@[simp] theorem Ol:IntKind.i64.wrap 4=4:=by decide
@[simp] theorem Om:IntKind.i64.wrap 5=5:=by decide
theorem rT{i n:Nat}(h:i<n)(hn:n≤9223372036854775807):IntKind.i64.wrap ((i:Int)+1)=((i+1:Nat):Int):=by
 rw[fA (by omega)];rfl
variable {T:lN}
def idxOf{α:Type}(p:α→Bool):List α→Int
 |[] => -1
 |x::l=>if p x then 0 else if idxOf p l<0 then -1 else idxOf p l+1
theorem rA{α:Type}{p:α→Bool}:∀{l:List α},idxOf p l<0↔l.any p=false
 |[]=>by simp[idxOf]
 |x::l=>by
  have ih:=rA (p:=p) (l:=l);simp only[idxOf,List.any_cons];cases h:p x
  ·simp only[ai,if_false,Bool.false_or];by_cases h1:idxOf p l<0
   ·rw[if_pos h1,ih.1 h1];decide
   ·rw[if_neg h1];have h2:¬l.any p=false:=fun h=>h1 (ih.2 h)
    exact⟨fun h3=>absurd h3 (by omega),fun h3=>absurd h3 h2⟩
  ·simp
def ph{α:Type}(l:List α)(p:α→Bool):Bool:=l.all p
def wW{α:Type}(l:List α)(p:α→Bool):Bool:=l.any p
def lD(T:lN){α:Type}(fv:D)(val:α→D)(p:α→Bool)(l:List α):Prop :=
 fv.strip=fv∧fv.calm=fv∧∀x∈l,∀σ,jL (lim T) false fv [val x] σ=some (.bool (p x),σ)
theorem lD.fn{α:Type}{f:Nat}{first cap:List D}{val:α→D}{p:α→Bool}{l:List α}
  (h:∀x∈l,∀σ,lim T (.call false f (first++[val x]++cap) σ)=some (.val (.bool (p x)) σ)):lD T (.fn f first cap) val p l :=
 ⟨rfl,rfl,fun x hx σ=>by rw[xa,h x hx σ];rfl⟩
structure Hq(α:Type) where
 ag:Bool
 w:Nat
 enc:α→List D
 val:α→D
 len:∀x,(enc x).length=w
 load:∀x,zR ag w (some (enc x))=some (val x)
 strip:∀x,(val x).strip=val x
 calm:∀x,(val x).calm=val x
 cells:∀x,(val x).cells=some (enc x)
def Ff(k:IntKind):Hq Int:=⟨false,1,fun n=>[.int k n],fun n => .int k n,fun _=>rfl,fun _=>by simp,fun _=>rfl,fun _=>rfl,fun _=>rfl⟩
def MH:Hq Bool:=⟨false,1,fun n=>[.bool n],fun n => .bool n,fun _=>rfl,fun _=>by simp,fun _=>rfl,fun _=>rfl,fun _=>rfl⟩
def Nv{α:Type}(w:Nat)(enc:α→List D)(h:∀x,(enc x).length=w):Hq α :=
 ⟨true,w,enc,fun x => .agg (enc x),h,fun x=>by simp[h,bh],fun _=>rfl,fun _=>rfl,fun _=>rfl⟩
section index
variable (ag:Bool) (w:Nat)
def zM:bC :=
 (.seq (.b7 [0,1,7,8,9] [⟨some 9,none,false,.bin .lss (.t 8) (.t 7)⟩]) (.seq (.ite (.t 9) .dY (.exit 0)) (.seq (.aR 1 (.seq (.b7 [0,1,5,7,8] [
 ⟨some 10,none,false,.mv (.t 8)⟩,
 ⟨some 5,none,false,.mv (.t 10)⟩]) (.seq (.b7 [0,1,5,7,8,16] [
 ⟨some 11,none,false,.mv (.t 1)⟩,
 ⟨some 12,none,false,.mv (.t 0)⟩,
 ⟨some 13,none,false,.mv (.t 5)⟩,
 ⟨some 14,none,false,.oI w (.t 12) (.t 13)⟩,
 ⟨some 15,none,false,.ld ag w (.t 14)⟩,
 ⟨some 16,none,false,.call false (.t 11) [(.t 15)]⟩]) (.ite (.t 16) (.seq (.b7 [4] [
 ⟨some 17,none,false,.mv (.t 5)⟩,
 ⟨some 4,none,false,.mv (.t 17)⟩]) .ret) .dY)))) (.b7 [0,1,7,8] [
 ⟨some 18,none,false,.bin .add (.t 8) (.c (.int .i64 1))⟩,
 ⟨some 8,none,false,.mv (.t 18)⟩]))))
def vl:Fn:=⟨2,[.t 4],
 (.seq (.b7 [0,1] [⟨some 4,none,false,.mv (.c (.int .i64 0))⟩]) (.seq (.seq (.b7 [0,1,7,8] [
 ⟨some 6,none,false,.mv (.t 0)⟩,
 ⟨some 7,none,false,.q5 (.t 6)⟩,
 ⟨some 8,none,false,.mv (.c (.int .i64 0))⟩]) (.aR 0 (.loop [0,1,7,8] false (zM ag w)))) (.seq (.b7 [4] [
 ⟨some 4,none,false,.mv (.c (.int .i64 (-1)))⟩]) .ret)))⟩
def mJ(i:Nat):Fn:=⟨2,[.t 4],
 (.seq (.b7 [0,1] [⟨some 4,none,false,.mv (.c (.bool false))⟩]) (.seq (.b7 [4] [
 ⟨some 5,none,false,.mv (.t 0)⟩,
 ⟨some 6,none,false,.mv (.t 1)⟩,
 ⟨some 7,none,false,.call false (.c (.fn i [] [])) [(.t 5),(.t 6)]⟩,
 ⟨some 8,none,false,.bin .geq (.t 7) (.c (.int .i64 0))⟩,
 ⟨some 4,none,false,.mv (.t 8)⟩]) .ret))⟩
def Aw(g h:Nat):Fn:=⟨2,[.t 4],
 (.seq (.b7 [0,3] [
 ⟨some 3,none,false,.qR (.t 1)⟩,
 ⟨some 4,none,false,.mv (.c (.bool false))⟩]) (.seq (.b7 [4] [
 ⟨some 5,none,false,.mv (.t 0)⟩,
 ⟨some 6,none,false,.yq g [] [(.t 3)]⟩,
 ⟨some 7,none,false,.call false (.c (.fn h [] [])) [(.t 5),(.t 6)]⟩,
 ⟨some 8,none,false,.un .not (.t 7)⟩,
 ⟨some 4,none,false,.mv (.t 8)⟩]) .ret))⟩
def rZ:Bool→Nat→Fn
 |true,w=>⟨2,[.t 3],
 (.seq (.b7 [1,2] [
 ⟨some 2,none,false,.qR (.t 0)⟩,
 ⟨some 3,none,false,.mv (.c (.bool false))⟩]) (.seq (.b7 [3] [
 ⟨some 4,none,false,.ld false 1 (.t 1)⟩,
 ⟨some 5,none,false,.ld true w (.t 2)⟩,
 ⟨some 6,none,false,.call false (.t 4) [(.t 5)]⟩,
 ⟨some 7,none,false,.un .not (.t 6)⟩,
 ⟨some 3,none,false,.mv (.t 7)⟩]) .ret))⟩
 |false,_=>⟨2,[.t 3],
 (.seq (.b7 [0,1] [
 ⟨some 3,none,false,.mv (.c (.bool false))⟩]) (.seq (.b7 [3] [
 ⟨some 4,none,false,.ld false 1 (.t 1)⟩,
 ⟨some 5,none,false,.mv (.t 0)⟩,
 ⟨some 6,none,false,.call false (.t 4) [(.t 5)]⟩,
 ⟨some 7,none,false,.un .not (.t 6)⟩,
 ⟨some 3,none,false,.mv (.t 7)⟩]) .ret))⟩
end index
section
variable {α:Type} (E:Hq α) {p:α→Bool} {fv:D} {l:List α}
theorem tG(hl:l.length≤9223372036854775807)(ht:lD T fv E.val p l){σ:SK}:∀(m i:Nat),i+m=l.length →
  WL T [0,1,7,8] false (zM E.ag E.w) [(0,.ch l.length (l.flatMap E.enc)),(1,fv),(7,.int .i64 l.length),(8,.int .i64 i)] σ
   (fun x e σ'=>σ'=σ∧if idxOf p (l.drop i)<0 then x=.exit 0 else x=.ret∧get e 4=.int .i64 (i+idxOf p (l.drop i)))
 |0,i,hi=>by
  obtain⟨h1,h2,h3⟩:=ht;refine aE (zM.eq_1 _ _) ?_;have:¬i<l.length:=by omega
  have h5:l.drop i=[]:=by simp;omega
  simp[this,h1,h2,h5,idxOf]
 |m+1,i,hi=>by
  have ih:=tG hl ht (σ:=σ) m (i+1) (by omega);obtain⟨h1,h2,h3⟩:=ht;refine aE (zM.eq_1 _ _) ?_;have h4:i<l.length:=by omega
  obtain⟨x,hx⟩:=gE h4;have h5:=gY (f:=E.enc) E.len hx;have h6:=h3 x (av hx) σ;have h7:=rT h4 hl;have h8:l.drop i=x::l.drop (i+1):=by
   rw[List.drop_eq_getElem_cons h4];rw[aW h4]at hx;simp at hx;rw[hx]
  cases hp:p x
  ·rw[hp]at h6;simp[h4,h1,h2,h5,h6,h7,E.load,E.strip,E.calm];refine WL.mono (by simpa using ih) ?_;rintro x e σ' ⟨h9,h10⟩;refine⟨h9,?_⟩;rw[h8];simp only[idxOf,hp,ai,if_false];by_cases h11:idxOf p (l.drop (i+1))<0
   ·simpa[h11]using h10
   ·rw[if_neg h11]at h10;rw[if_neg h11,if_neg (by omega)];refine⟨h10.1,?_⟩;rw[h10.2];congr 1;push_cast;omega
  ·rw[hp]at h6;simp[h4,h1,h2,h5,h6,h7,E.load,E.strip,E.calm,h8,idxOf,hp]
theorem yc{f:Nat}(hT:T f=some (vl E.ag E.w))(hl:l.length≤9223372036854775807)(ht:lD T fv E.val p l){σ:SK}:
  lim T (.call false f [.ch l.length (l.flatMap E.enc),fv] σ)=some (.val (.int .i64 (idxOf p l)) σ):=by
 refine aX hT (vl.eq_1 _ _) rfl ?_;have h:=tG E hl ht (σ:=[]::σ) l.length 0 (by simp);obtain⟨h1,h2,h3⟩:=ht;simp[h1,h2];refine WL.mono (by simpa using h) ?_;rintro x e σ' ⟨rfl,h10⟩
 try simp only[ga]at h10
 by_cases h11:idxOf p l<0
 ·rw[if_pos h11]at h10;subst h10;have:idxOf p l = -1:=by
   cases l with
   |nil=>rfl
   |cons a l =>
    simp only[idxOf]at h11 ⊢;split at h11<;>rename_i ha
    ·omega
    ·rw[if_neg ha];split at h11<;>rename_i hb
     ·rw[if_pos hb]
     ·omega
  simp[this]
 ·rw[if_neg h11]at h10;obtain⟨rfl,h12⟩:=h10
  try simp at h12
  simp[h12]
theorem contains_of{f i:Nat}(hT:T f=some (mJ i))(hi:T i=some (vl E.ag E.w))(hl:l.length≤9223372036854775807)(ht:lD T fv E.val p l){σ:SK}:
  lim T (.call false f [.ch l.length (l.flatMap E.enc),fv] σ)=some (.val (.bool (wW l p)) σ):=by
 refine aX hT (mJ.eq_1 _) rfl ?_;have h:=yc E hi hl ht (σ:=[]::σ);obtain⟨h1,h2,h3⟩:=ht;have h4:decide (0≤idxOf p l)=wW l p:=by
  unfold wW;have h6:=rA (p:=p) (l:=l);cases h5:l.any p
  ·have:=h6.2 h5;exact decide_eq_false (by omega)
  ·exact decide_eq_true (by
    have:¬idxOf p l<0:=fun h=>by rw[h6.1 h]at h5;cases h5
    omega)
 simp[h1,h2,h,h4]
theorem zw{g:Nat}(hT:T g=some (rZ E.ag E.w))(ht:lD T fv E.val p l):lD T (.fn g [] [.bE [fv]]) E.val (fun x => !p x) l:=by
 refine lD.fn fun x hx σ=>?_
 obtain⟨h1,h2,h3⟩:=ht;have h6:=h3 x hx ([]::σ);have hc:=E.cells x;have hl:=E.load x;have hs:=E.strip x;have hcm:=E.calm x;generalize E.ag=ag at *
 cases ag with
 |true =>
  refine aX hT (rZ.eq_1 _) rfl ?_;simp[h1,h2,h6,hc,hl,hs,hcm]
 |false =>
  refine aX hT (rZ.eq_2 _) rfl ?_;simp[h1,h2,h6,hc,hl,hs,hcm]
theorem wV{f g h i:Nat}(hf:T f=some (Aw g h))(hg:T g=some (rZ E.ag E.w))(hh:T h=some (mJ i))(hi:T i=some (vl E.ag E.w))
  (hl:l.length≤9223372036854775807) (ht:lD T fv E.val p l) (hcl:fv.cells=some [fv]) {σ:SK}:
  lim T (.call false f [.ch l.length (l.flatMap E.enc),fv] σ)=some (.val (.bool (ph l p)) σ):=by
 refine aX hf (Aw.eq_1 _ _) rfl ?_;have h:=contains_of E hh hi hl (zw E hg ht) (σ:=[]::σ);obtain⟨h1,h2,h3⟩:=ht;have h4:(wW l fun x => !p x) = !ph l p:=by
  unfold wW ph;rw[List.all_eq_not_any_not,Bool.not_not]
 simp[h1,h2,h,h4,hcl]
end
variable {T:lN}
theorem oR{f:Nat}{fn:Fn}{args:List D}{σ σ':SK}{d:D}{np:Nat}{res:List o7}{body:bC}(hT:T f=some fn)(hf:fn=⟨np,res,body⟩)(hl:args.length=np)(hs:σ'.length=σ.length)
  (h:WC (lim T) body (gn 0 args) ([]::σ) (vT σ' res d)):
  lim T (.call false f args σ)=some (.val d σ'):=by
 subst hf;obtain⟨x,e1,σ1,h1,h2,h2',ds,h3,s,h4⟩:=h;refine eM ?_;rw[hs,xd]at h4;simp only[bK,hT,if_pos hl,ai,if_false,h1];cases x with
 |exit i=>exact absurd rfl (h2 i)
 |eO d=>exact absurd rfl (h2' d)
 |normal=>simp[h3,h4]
 |ret=>simp[h3,h4]
def OJ:Exit→Prop
 |.normal=>True
 |.ret=>True
 |_=>False
inductive kz (T:lN) (l i:Nat) {α:Type} (f:α→List D):List α→SK→Bool→SK→Prop
 |nil (σ:SK):kz T l i f [] σ true σ
 |go (a:α) (xs:List α) (σ σ1 σ2:SK) (b:Bool):lim T (.round l i (f a) σ)=some (.val (.bool true) σ1)→kz T l i f xs σ1 b σ2→kz T l i f (a::xs) σ b σ2
 |stop (a:α) (xs:List α) (σ σ1:SK):lim T (.round l i (f a) σ)=some (.val (.bool false) σ1)→kz T l i f (a::xs) σ false σ1
theorem kz.split{l i:Nat}{α:Type}{f:α→List D}:∀{xs bs:List α} {σ σ':SK} {b:Bool},kz T l i f (xs++bs) σ b σ' →
  (∃σ1,kz T l i f xs σ true σ1∧kz T l i f bs σ1 b σ')∨(b=false∧kz T l i f xs σ false σ')
 |[],bs,σ,σ',b,h => .inl ⟨σ,.nil σ,h⟩
 |a::xs,bs,σ,σ',b,h=>by
  cases h with
  |go _ _ _ σ1 _ _ h1 h2 =>
   rcases kz.split h2 with⟨σ3,h3,h4⟩ | ⟨rfl,h3⟩
   ·exact .inl ⟨σ3,.go _ _ _ _ _ _ h1 h3,h4⟩
   ·exact .inr ⟨rfl,.go _ _ _ _ _ _ h1 h3⟩
  |stop _ _ _ _ h1=>exact .inr ⟨rfl,.stop _ _ _ _ h1⟩
theorem zt{live:List Nat}{fo:aM}{params:List Nat}{lK body:bC}{e:Env}{s:List b8}{σ σ2:SK}{Q:Exit→Env→SK→Prop}{g:Nat}{first cap:List D}{d:D}{lp:kq}
  (hf:aC e fo=.fn g first cap)
  (hc:lim T (.call false g (first++[.fJ σ.length s.length]++cap) ((s++[.loop {state:=0,j4:=none,env:=jY live e,params,lK,body }])::σ))=some (.val d σ2))
  (hb:bS σ2 σ.length s.length=some (.loop lp)) (hs:lp.state≠1)
  (hq:Q (lp.j4.getD .normal) (restrict live e) (az σ2 σ.length s.length (.loop {lp with state:=3 }))):
  WC (lim T) (.tS live fo params lK body) e (s::σ) Q:=by
 refine⟨_,_,_,?_,hq⟩;simp only[aA,cG,hf,oq,hc,R.mE,hb,if_neg hs]
def n3:Option b8→Option kq
 |some (.loop lp)=>some lp
 |_=>none
@[simp] theorem Ep{lp:kq}:n3 (some (.loop lp))=some lp:=ao rfl
theorem ki{o:Option b8}{lp:kq}(h:n3 o=some lp):o=some (.loop lp):=by
 cases o with
 |none=>cases h
 |some b=>cases b<;>cases h;rfl
def It(l i:Nat)(b:Bool)(σ':SK)(x:Exit)(σ2:SK):Prop :=
 match x with
 |.eO _=>False
 |.normal=>WD (n3 (bS σ2.tail l i)) fun lp2=>az σ2.tail l i (.loop {lp2 with state:=0,j4:=none })=σ'∧b=true
 |x=>WD (n3 (bS σ2.tail l i)) fun lp2=>az σ2.tail l i (.loop {lp2 with state:=2,j4:=some x })=σ'∧b=false
@[simp] theorem AB{l i:Nat}{b:Bool}{σ':SK}{s2:List b8}{σ3:SK}:It l i b σ' .normal (s2::σ3)=WD (n3 (bS σ3 l i)) fun lp2=>az σ3 l i (.loop {lp2 with state:=0,j4:=none })=σ'∧b=true:=ao rfl
def Gr(T:lN)(l i:Nat)(b:Bool)(σ':SK)(n:Nat)(body:bC)(x:Exit)(e1:Env)(σ1:SK)(_m:Mark body:=.mk):Prop :=
 x=.normal∧WD (n3 (bS σ1 l i)) fun lp1=>lp1.state=0∧WC (lim T) body e1 (az σ1 l i (.loop {lp1 with state:=1 })) fun x _ σ2=>σ2.length=n∧It l i b σ' x σ2
theorem yJ{l i:Nat}{args:List D}{σ σ':SK}{b:Bool}{lp:kq}(hb:bS σ l i=some (.loop lp))(hl:args.length=lp.params.length)
  (h:WC (lim T) lp.lK (lr lp.params args lp.env) ([]::σ) (Gr T l i b σ' (σ.length+1) lp.body)):
  lim T (.round l i args σ)=some (.val (.bool b) σ'):=by
 obtain⟨x,e1,σ1,h1,rfl,lp1,h2,h3,x2,e2,σ2,h4,hlen,h6⟩:=h;have h2:=ki h2;cases σ2 with
 |nil=>simp at hlen
 |cons s2 σ3 =>
 refine eM ?_;simp only[bK,hb,if_pos hl,h1,h2,if_pos h3,h4];cases x2 with
 |normal=>obtain⟨lp2,h5,h6,rfl⟩:=h6;have h5:=ki h5;dsimp only [List.tail]at h5 h6 ⊢;rw[h5];dsimp only;rw[h6]
 |exit j=>obtain⟨lp2,h5,h6,rfl⟩:=h6;have h5:=ki h5;dsimp only [List.tail]at h5 h6 ⊢;rw[h5];dsimp only;rw[h6]
 |ret=>obtain⟨lp2,h5,h6,rfl⟩:=h6;have h5:=ki h5;dsimp only [List.tail]at h5 h6 ⊢;rw[h5];dsimp only;rw[h6]
 |eO d=>exact h6.elim
@[simp] theorem Eu{t:Nat}{ts:List Nat}{d:D}{ds:List D}{e:Env}:lr (t::ts) (d::ds) e=lr ts ds ((t,d)::e):=ao rfl
@[simp] theorem GD{ds:List D}{e:Env}:lr [] ds e=e:=ao (by cases ds<;>rfl)
@[simp] theorem Hl{e:Env}:jY [] e=[]:=ao rfl
@[simp] theorem EG{t:Nat}{l:List Nat}{e:Env}:jY (t::l) e=(t,(get e t).strip)::jY l e:=ao rfl
variable {T:lN}
def x7(vs:List Nat)(v:Nat)(d:D)(e:Env)(σ:SK):Env×SK :=
 match d with
 |.sl l i u off m w=>jl vs ((v,(bB 0 deep (.sl l i u off m w) σ).1)::e) (bB 0 deep (.sl l i u off m w) σ).2
 |.own s cs=>jl vs ((v,.own s (bB.frzL (bB 0 deep) cs σ).1)::e) (bB.frzL (bB 0 deep) cs σ).2
 |.agg cs=>jl vs ((v,.agg (cs.map D.qQ))::e) σ
 |.undef=>if 1000000≤v then jl vs (qX (v-1000000) e σ).1 (qX (v-1000000) e σ).2 else jl vs e σ
 |_=>jl vs e σ
@[simp] theorem Ll{e:Env}{σ:SK}:jl [] e σ=(e,σ):=ao rfl
@[simp] theorem Hz{v:Nat}{vs:List Nat}{e:Env}{σ:SK}:jl (v::vs) e σ=x7 vs v (get e v) e σ:=by
 simp only[jl,x7];cases get e v<;>rfl
@[simp] theorem MK{v:Nat}{vs:List Nat}{e:Env}{σ:SK}{l i u off m w:Nat}:x7 vs v (.sl l i u off m w) e σ =
  jl vs ((v,(bB 0 deep (.sl l i u off m w) σ).1)::e) (bB 0 deep (.sl l i u off m w) σ).2:=ao rfl
@[simp] theorem Lj{v:Nat}{vs:List Nat}{e:Env}{σ:SK}{s:Nat}{cs:List D}:x7 vs v (.own s cs) e σ =
  jl vs ((v,.own s (bB.frzL (bB 0 deep) cs σ).1)::e) (bB.frzL (bB 0 deep) cs σ).2:=ao rfl
def Lk(v:Nat)(d:D)(e:Env)(σ:SK):Env×SK :=
 match d with
 |.cH=>((v,.ch 0 [])::e,σ)
 |.ref l i u 0=>((v,(qU l i u σ).1)::e,(qU l i u σ).2)
 |.own s cs=>((v,.own s (cs.map D.qQ))::e,σ)
 |.undef=>if 1000000≤v then(wj (v-1000000) e,σ)else(e,σ)
 |_=>(e,σ)
def Lv(v:Nat)(d:D)(e:Env):Env :=
 match d with
 |.own _ cs=>if e.all (fun p=>match p.2 with | .vr x _ _=>x != v | _=>true)then(v,.bE cs)::e else e
 |_=>e
@[simp] theorem MQ{v:Nat}{e:Env}:wj v e=Lv v (get e v) e:=ao rfl
@[simp] theorem Lw{v s:Nat}{cs:List D}{e:Env}:Lv v (.own s cs) e=if e.all (fun p=>match p.2 with | .vr x _ _=>x != v | _=>true)then(v,.bE cs)::e else e:=ao rfl
@[simp] theorem Gf{v:Nat}{e:Env}{σ:SK}:Lk v .undef e σ=if 1000000≤v then(wj (v-1000000) e,σ)else(e,σ):=ao rfl
@[simp] theorem ML{v:Nat}{e:Env}{σ:SK}:qX v e σ=Lk v (get e v) e σ:=rfl
@[simp] theorem get_none{t:Nat}:get [] t=.undef:=ao rfl
@[simp] theorem Ge{v:Nat}{vs:List Nat}{e:Env}{σ:SK}:x7 vs v .undef e σ=if 1000000≤v then jl vs (qX (v-1000000) e σ).1 (qX (v-1000000) e σ).2 else jl vs e σ:=ao rfl
def Ox(l n m off w:Nat)(σ:SK)(s:D):Option (List D)→D×SK
 |some cs=>(.ch m (bB.frzL (bB l n) ((cs.drop off).take (m*w)) σ).1,(bB.frzL (bB l n) ((cs.drop off).take (m*w)) σ).2)
 |none=>(.undef,σ)
theorem Gg{L i u off m w:Nat}{σ:SK}{cs:List D}(hL:0<L)(hc:cells? σ L i u=some cs):
  bB 0 16 (.sl L i u off m w) σ=(.ch m (bB.frzL (bB 0 15) ((cs.drop off).take (m*w)) (az σ L i .dead)).1,(bB.frzL (bB 0 15) ((cs.drop off).take (m*w)) (az σ L i .dead)).2):=by
 exact x9 (by omega) hc (by omega)
theorem oU{σ:SK}(hσ:σ≠[]){bs:List b8}{i u m w:Nat}{cs:List D}(hb:bs[i]?=some (.cells u cs))(hcl:D.bp cs=true)(hlen:cs.length=m*w):
  bB 0 16 (.sl σ.length i u 0 m w) (bs::σ)=(.ch m cs,bs.set i .dead::σ):=by
 have h:=my.2 hσ;rw[Gg h (cs:=cs) (by simp[hb])];simp[← hlen,hcl,bh]
theorem Gl{α:Type}{f:α→List D}{w:Nat}(hw:∀x,(f x).length=w)(l:List α):(l.flatMap f).take (l.length*w)=l.flatMap f :=
 bh (by rw[eI hw];exact al _)
theorem oW{α:Type}{f:α→List D}(h:∀x,D.bp (f x)=true)(l:List α):D.bp (l.flatMap f)=true:=by
 have app:∀a b:List D,D.bp (a++b)=(D.bp a && D.bp b):=by
  intro a b;induction a with
  |nil=>simp
  |cons x a ih=>simp[ih,Bool.and_assoc]
 induction l with
 |nil=>simp
 |cons a l ih=>simp[app,h,ih]
theorem yj{α:Type}{f:α→List D}{w:Nat}(hw:∀x,(f x).length=w):∀{l:List α} {i:Nat} {x:α},i<l.length→(l.flatMap f).take (i*w)++(f x++(l.flatMap f).drop (i*w+w))=(l.set i x).flatMap f
 |[],i,x,h=>by simp at h
 |a::l,0,x,h=>by
  have h1:=hw a;simp only[Nat.zero_mul,List.take_zero,aL,br,List.set_cons_zero,cn];rw[← h1,List.drop_left]
 |a::l,i+1,x,h=>by
  have h1:=hw a;have ih:=yj (l:=l) (i:=i) (x:=x) hw (by simpa using h);simp only[br,List.set_cons_succ];rw[← ih,show(i+1)*w=w+i*w by rw[fa];omega,← h1,List.take_length_add_append,ez,show(f a).length+i*(f a).length+(f a).length=(f a).length+(i*(f a).length+(f a).length)by omega,fK]
theorem uA{α:Type}{f:α→List D}{w:Nat}(hw:∀x,(f x).length=w):∀{l:List α} {i:Nat} {x:α},l[i]?=some x→(l.flatMap f).drop (i*w)=f x++(l.flatMap f).drop (i*w+w)
 |[],i,x,h=>by simp at h
 |a::l,0,x,h=>by
  simp at h;subst h;have h1:=hw a;simp only[Nat.zero_mul,ga,br,cn];rw[← h1,List.drop_left]
 |a::l,i+1,x,h=>by
  have h1:=hw a;have ih:=uA (l:=l) (i:=i) (x:=x) hw (by simpa using h);simp only[br];rw[show(i+1)*w=w+i*w by rw[fa];omega,← h1,fK,show(f a).length+i*(f a).length+(f a).length=(f a).length+(i*(f a).length+(f a).length)by omega,fK,h1,ih]
@[simp] theorem Li{l:Nat}{σ:SK}:gF l [] σ=([],σ):=ao rfl
@[simp] theorem Hy{l t:Nat}{d:D}{e:Env}{σ:SK}:gF l ((t,d)::e) σ=((t,(bB l deep d σ).1)::(gF l e (bB l deep d σ).2).1,(gF l e (bB l deep d σ).2).2):=ao rfl
def yC(T:lN)(live:List Nat)(c:bC)(n:Nat)(Q:Exit→Env→SK→Prop)(_m:Mark c:=.mk)(_m':Mark Q:=.mk):Exit→Env→SK→Prop
 |.normal,e,σ=>WL T live true c (gF n (restrict live e) σ).1 (gF n (restrict live e) σ).2.tail Q
 |.exit i,e,σ=>Q (.exit i) (gF n (restrict (keys e) e) σ).1 (gF n (restrict (keys e) e) σ).2.tail
 |.ret,e,σ=>Q .ret (gF n (restrict (keys e) e) σ).1 (gF n (restrict (keys e) e) σ).2.tail
 |.eO d,e,σ=>Q (.eO d) (gF n (restrict (keys e) e) σ).1 (gF n (restrict (keys e) e) σ).2.tail
@[simp,simp ↓] theorem zY{live:List Nat}{c:bC}{n:Nat}{Q:Exit→Env→SK→Prop}{e:Env}{σ:SK}:yC T live c n Q .mk .mk .normal e σ=WL T live true c (gF n (restrict live e) σ).1 (gF n (restrict live e) σ).2.tail Q:=ao rfl
@[simp,simp ↓] theorem Gy{live:List Nat}{c:bC}{n i:Nat}{Q:Exit→Env→SK→Prop}{e:Env}{σ:SK}:yC T live c n Q .mk .mk (.exit i) e σ=Q (.exit i) (gF n (restrict (keys e) e) σ).1 (gF n (restrict (keys e) e) σ).2.tail:=ao rfl
theorem tg{live:List Nat}{c c':bC}{e:Env}{σ:SK}{Q:Exit→Env→SK→Prop}(hc:c=c')(h:WC (lim T) c' (restrict live e) ([]::σ) (yC T live c (σ.length-1) Q .mk .mk)):WL T live true c e σ Q:=by
 rw[← hc]at h;obtain⟨x,e1,σ1,h1,h2⟩:=h;cases x with
 |normal =>
  obtain⟨x,e',σ',h3,h4⟩:=h2;exact⟨x,e',σ',eM (by simp[bK,h1,kD,h3]),h4⟩
 |exit i=>exact⟨_,_,_,eM (by simp[bK,h1,kD]),h2⟩
 |ret=>exact⟨_,_,_,eM (by simp[bK,h1,kD]),h2⟩
 |eO d=>exact⟨_,_,_,eM (by simp[bK,h1,kD]),h2⟩
def Oq(n:Nat)(Q:Exit→Env→SK→Prop)(_m:Mark Q:=.mk):Exit→Env→SK→Prop:=fun x e σ=>Q x (gF n (restrict (keys e) e) σ).1 (gF n (restrict (keys e) e) σ).2.tail
@[simp] theorem keys_nil:keys []=[]:=ao rfl
@[simp] theorem keys_cons{t:Nat}{d:D}{e:Env}:keys ((t,d)::e)=t::keys (e.filter fun p => !(p.1 == t)):=by
 simp only[keys,aw,List.eraseDups_cons,List.filter_map];rfl
end Go.Abs
namespace Go.Abs
def qo(d:Nat)(k:K):Op:=⟨some d,none,false,k⟩
def qO(d:Nat)(k:K):Op:=⟨some d,none,true,k⟩
def qm(d x:Nat):Op:=⟨some d,none,false,.mv (.t x)⟩
def qM(d x:Nat):Op:=⟨some d,none,true,.mv (.t x)⟩
def qi(d:Nat)(n:Int):Op:=⟨some d,none,false,.mv (.c (.int .i64 n))⟩
def qb(d:Nat)(b:Bool):Op:=⟨some d,none,false,.mv (.c (.bool b))⟩
def qf(d o x:Nat):Op:=⟨some d,none,false,.qT o (.t x)⟩
def qF(d o x:Nat):Op:=⟨some d,none,true,.qT o (.t x)⟩
def ql(d n x:Nat):Op:=⟨some d,none,false,.ld false n (.t x)⟩
def qL(d n x:Nat):Op:=⟨some d,none,true,.ld false n (.t x)⟩
def qa(d n x:Nat):Op:=⟨some d,none,false,.ld true n (.t x)⟩
def qA(d n x:Nat):Op:=⟨some d,none,true,.ld true n (.t x)⟩
def qv(d v n a:Nat):Op:=⟨some d,none,false,.wG v false n a⟩
def qV(d v n a:Nat):Op:=⟨some d,none,true,.wG v false n a⟩
def qw(d v n a:Nat):Op:=⟨some d,none,false,.wG v true n a⟩
def qW(d v n a:Nat):Op:=⟨some d,none,true,.wG v true n a⟩
def qx(d x:Nat):Op:=⟨some d,none,false,.qR (.t x)⟩
def qe(d x:Nat):Op:=⟨some d,none,false,.q5 (.t x)⟩
def qE(d x:Nat):Op:=⟨some d,none,true,.q5 (.t x)⟩
def qj(d w x i:Nat):Op:=⟨some d,none,false,.oI w (.t x) (.t i)⟩
def qJ(d w x i:Nat):Op:=⟨some d,none,true,.oI w (.t x) (.t i)⟩
def qk(d:Nat)(o:BinOp)(x y:Nat):Op:=⟨some d,none,false,.bin o (.t x) (.t y)⟩
def qK(d:Nat)(o:BinOp)(x y:Nat):Op:=⟨some d,none,true,.bin o (.t x) (.t y)⟩
def qn(d:Nat)(o:BinOp)(x:Nat)(n:Int):Op:=⟨some d,none,false,.bin o (.t x) (.c (.int .i64 n))⟩
def qN(d:Nat)(o:BinOp)(x:Nat)(n:Int):Op:=⟨some d,none,true,.bin o (.t x) (.c (.int .i64 n))⟩
def qu(d x:Nat):Op:=⟨some d,none,false,.un .not (.t x)⟩
def qp(d c x:Nat):Op:=⟨some d,none,false,.pick (.t c) (.t x) (.c (.bool false))⟩
def qP(d c x:Nat):Op:=⟨some d,none,false,.pick (.t c) (.c (.bool true)) (.t x)⟩
def qs(v n a x:Nat):Op:=⟨none,none,false,.q9 v [] n a (.t x)⟩
def qS(v n a x:Nat):Op:=⟨none,none,true,.q9 v [] n a (.t x)⟩
def qt(n a x:Nat):Op:=⟨none,none,false,.st [] n (.t a) (.t x)⟩
def qz(d x i:Nat):Op:=⟨some d,none,false,.ext (.t x) i⟩
def qZ(d x i:Nat):Op:=⟨some d,none,true,.ext (.t x) i⟩
def qc(d f:Nat)(a:List Nat):Op:=⟨some d,none,false,.call false (.c (.fn f [] [])) (a.map .t)⟩
def qC(d f:Nat)(a:List Nat):Op:=⟨some d,none,true,.call false (.c (.fn f [] [])) (a.map .t)⟩
def qy(d w b s x:Nat):Op:=⟨some d,none,false,.app w b (.t s) (.t x)⟩
def qg(t:Nat)(b:Bool)(o:Op):Op:=⟨o.dst,some (t,b),o.lI,o.k⟩
end Go.Abs
