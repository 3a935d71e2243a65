import Derived.Test.YtfgljaglidhjiaaGreatDoorBase19
import Derived.IntWalk
set_option linter.all false
namespace Go.Abs
open Go
theorem WL.to{T:yR}{live:List Nat}{bj:Bool}{c:cF}{e e':Env}{σ σ':SK}{Q Q':Exit→Env→SK→Prop}(h:WL T live bj c e σ Q)(he:e'=e)(hs:σ'=σ)
  (hq:∀x e σ,Q x e σ→Q' x e σ):WL T live bj c e' σ' Q':=by subst he hs;exact h.mono hq
theorem bX{α:Type}{f:α→List D}{w:Nat}(hw:∀x,(f x).length=w)(l:List α):(l.flatMap f).length=l.length*w:=by
 induction l with
 |nil=>simp
 |cons a l ih=>simp[hw,ih,eW];omega
theorem bW{α:Type}{f:α→List D}{w:Nat}(hw:∀x,(f x).length=w):∀{l:List α} {i:Nat} {x:α},l[i]?=some x→((l.flatMap f).drop (i*w)).take w=f x
 |[],i,x,h=>by simp at h
 |a::l,0,x,h=>by
  simp at h;subst h;simp[← hw a]
 |a::l,i+1,x,h=>by
  have e:(i+1)*w=(f a).length+i*w:=by rw[hw,eW];omega
  rw[aS,e,List.drop_append];simp only[Nat.add_sub_cancel_left,aA (Nat.le_add_right _ _),aX];exact bW hw (by simpa using h)
theorem cq{α:Type}{l:List α}{i:Nat}{x:α}(h:l[i]?=some x):l.drop i=x::l.drop (i+1):=by
 have h1:i<l.length:=(aB.1 h).1;rw[List.drop_eq_getElem_cons h1];rw[aN h1]at h;simp at h;rw[h]
theorem E9{α:Type}{f:α→List D}{l:List α}{i:Nat}{x:α}(h:l[i]?=some x):(l.take i).flatMap f++f x=(l.take (i+1)).flatMap f:=by
 rw[List.take_add_one,h];simp
theorem LK{α:Type}{f:α→D}(l:List α):l.flatMap (fun x=>[f x])=l.map f:=by
 induction l with
 |nil=>rfl
 |cons a l ih=>simp[ih]
theorem fN{n:Int}(h : -9223372036854775808≤n∧n≤9223372036854775807):IntKind.i64.wrap n=n:=IntWalk.i64_in n h
@[simp] theorem azS:IntKind.i64.wrap 0=0:=by decide
@[simp] theorem azT:IntKind.i64.wrap 1=1:=by decide
@[simp] theorem azU:IntKind.i64.wrap 2=2:=by decide
@[simp] theorem azV:IntKind.i64.wrap 3=3:=by decide
@[simp] theorem azW:IntKind.i64.wrap 4=4:=by decide
theorem wu8{n:Int}(h:0≤n∧n≤255):IntKind.u8.wrap n=n:=IntWalk.u8_in n h
theorem gN{i n:Nat}(h:i<n)(hn:n≤9223372036854775807):IntKind.i64.wrap ((i:Int)+1)=((i+1:Nat):Int):=by
 rw[fN (by omega)];rfl
variable {T:yR}
def idxOf{α:Type}(p:α→Bool):List α→Int
 |[] => -1
 |x::l=>if p x then 0 else if idxOf p l<0 then -1 else idxOf p l+1
theorem Fg{α:Type}{p:α→Bool}:∀{l:List α},idxOf p l<0↔l.any p=false
 |[]=>by simp[idxOf]
 |x::l=>by
  have ih:=Fg (p:=p) (l:=l);simp only[idxOf,List.any_cons];cases h:p x
  ·simp only[av,if_false,Bool.false_or];by_cases h1:idxOf p l<0
   ·rw[if_pos h1,ih.1 h1];decide
   ·rw[if_neg h1];have h2:¬l.any p=false:=fun h=>h1 (ih.2 h)
    exact⟨fun h3=>absurd h3 (by omega),fun h3=>absurd h3 h2⟩
  ·simp
def ie{α:Type}(l:List α)(p:α→Bool):Bool:=l.all p
def sF{α:Type}(l:List α)(p:α→Bool):Bool:=l.any p
theorem j7{α:Type}{l:List α}{p:α→Bool}:ie l p=true↔∀x∈l,p x=true:=by simp[ie]
theorem Lh{α:Type}{l:List α}{p:α→Bool}:sF l p=true↔∃x∈l,p x=true:=by simp[sF]
def rj(T:yR){α:Type}(fv:D)(val:α→D)(p:α→Bool)(l:List α):Prop :=
 fv.strip=fv∧fv.calm=fv∧∀x∈l,∀σ,pQ (lim T) false fv [val x] σ=some (.bool (p x),σ)
theorem rj.fn{α:Type}{f:Nat}{first cap:List D}{val:α→D}{p:α→Bool}{l:List α}
  (h:∀x∈l,∀σ,lim T (.call false f (first++[val x]++cap) σ)=some (.val (.bool (p x)) σ)):rj T (.fn f first cap) val p l :=
 ⟨rfl,rfl,fun x hx σ=>by rw[sK,h x hx σ];rfl⟩
structure Elt(α:Type) where
 ag:Bool
 w:Nat
 enc:α→List D
 val:α→D
 len:∀x,(enc x).length=w
 load:∀x,MY ag w (some (enc x))=some (val x)
 strip:∀x,(val x).strip=val x
 calm:∀x,(val x).calm=val x
 cells:∀x,(val x).cells=some (enc x)
def J9(k:IntKind):Elt Int:=⟨false,1,fun n=>[.int k n],fun n => .int k n,fun _=>rfl,fun _=>by simp,fun _=>rfl,fun _=>rfl,fun _=>rfl⟩
def axs:Elt Bool:=⟨false,1,fun n=>[.bool n],fun n => .bool n,fun _=>rfl,fun _=>by simp,fun _=>rfl,fun _=>rfl,fun _=>rfl⟩
def xo{α:Type}(w:Nat)(enc:α→List D)(h:∀x,(enc x).length=w):Elt α :=
 ⟨true,w,enc,fun x => .agg (enc x),h,fun x=>by simp[h,ai],fun _=>rfl,fun _=>rfl,fun _=>rfl⟩
section index
variable (ag:Bool) (w:Nat)
def HH:cF :=
 (.seq (.cr [0,1,7,8,9] [⟨some 9,none,false,.bin .lss (.t 8) (.t 7)⟩]) (.seq (.ite (.t 9) .eo (.exit 0)) (.seq (.bO 1 (.seq (.cr [0,1,5,7,8] [
 ⟨some 10,none,false,.mv (.t 8)⟩,
 ⟨some 5,none,false,.mv (.t 10)⟩]) (.seq (.cr [0,1,5,7,8,16] [
 ⟨some 11,none,false,.mv (.t 1)⟩,
 ⟨some 12,none,false,.mv (.t 0)⟩,
 ⟨some 13,none,false,.mv (.t 5)⟩,
 ⟨some 14,none,false,.fM w (.t 12) (.t 13)⟩,
 ⟨some 15,none,false,.ld ag w (.t 14)⟩,
 ⟨some 16,none,false,.call false (.t 11) [(.t 15)]⟩]) (.ite (.t 16) (.seq (.cr [4] [
 ⟨some 17,none,false,.mv (.t 5)⟩,
 ⟨some 4,none,false,.mv (.t 17)⟩]) .ret) .eo)))) (.cr [0,1,7,8] [
 ⟨some 18,none,false,.bin .add (.t 8) (.c (.int .i64 1))⟩,
 ⟨some 8,none,false,.mv (.t 18)⟩]))))
def vb:Fn:=⟨2,[.t 4],
 (.seq (.cr [0,1] [⟨some 4,none,false,.mv (.c (.int .i64 0))⟩]) (.seq (.seq (.cr [0,1,7,8] [
 ⟨some 6,none,false,.mv (.t 0)⟩,
 ⟨some 7,none,false,.Iy (.t 6)⟩,
 ⟨some 8,none,false,.mv (.c (.int .i64 0))⟩]) (.bO 0 (.loop [0,1,7,8] false (HH ag w)))) (.seq (.cr [4] [
 ⟨some 4,none,false,.mv (.c (.int .i64 (-1)))⟩]) .ret)))⟩
def jD(i:Nat):Fn:=⟨2,[.t 4],
 (.seq (.cr [0,1] [⟨some 4,none,false,.mv (.c (.bool false))⟩]) (.seq (.cr [4] [
 ⟨some 5,none,false,.mv (.t 0)⟩,
 ⟨some 6,none,false,.mv (.t 1)⟩,
 ⟨some 7,none,false,.call false (.c (.fn i [] [])) [(.t 5),(.t 6)]⟩,
 ⟨some 8,none,false,.bin .geq (.t 7) (.c (.int .i64 0))⟩,
 ⟨some 4,none,false,.mv (.t 8)⟩]) .ret))⟩
def DY(g h:Nat):Fn:=⟨2,[.t 4],
 (.seq (.cr [0,3] [
 ⟨some 3,none,false,.Ir (.t 1)⟩,
 ⟨some 4,none,false,.mv (.c (.bool false))⟩]) (.seq (.cr [4] [
 ⟨some 5,none,false,.mv (.t 0)⟩,
 ⟨some 6,none,false,.xW g [] [(.t 3)]⟩,
 ⟨some 7,none,false,.call false (.c (.fn h [] [])) [(.t 5),(.t 6)]⟩,
 ⟨some 8,none,false,.un .not (.t 7)⟩,
 ⟨some 4,none,false,.mv (.t 8)⟩]) .ret))⟩
def yS:Bool→Nat→Fn
 |true,w=>⟨2,[.t 3],
 (.seq (.cr [1,2] [
 ⟨some 2,none,false,.Ir (.t 0)⟩,
 ⟨some 3,none,false,.mv (.c (.bool false))⟩]) (.seq (.cr [3] [
 ⟨some 4,none,false,.ld false 1 (.t 1)⟩,
 ⟨some 5,none,false,.ld true w (.t 2)⟩,
 ⟨some 6,none,false,.call false (.t 4) [(.t 5)]⟩,
 ⟨some 7,none,false,.un .not (.t 6)⟩,
 ⟨some 3,none,false,.mv (.t 7)⟩]) .ret))⟩
 |false,_=>⟨2,[.t 3],
 (.seq (.cr [0,1] [
 ⟨some 3,none,false,.mv (.c (.bool false))⟩]) (.seq (.cr [3] [
 ⟨some 4,none,false,.ld false 1 (.t 1)⟩,
 ⟨some 5,none,false,.mv (.t 0)⟩,
 ⟨some 6,none,false,.call false (.t 4) [(.t 5)]⟩,
 ⟨some 7,none,false,.un .not (.t 6)⟩,
 ⟨some 3,none,false,.mv (.t 7)⟩]) .ret))⟩
end index
section
variable {α:Type} (E:Elt α) {p:α→Bool} {fv:D} {l:List α}
theorem L5(hl:l.length≤9223372036854775807)(ht:rj T fv E.val p l){σ:SK}:∀(m i:Nat),i+m=l.length →
  WL T [0,1,7,8] false (HH E.ag E.w) [(0,.aH l.length (l.flatMap E.enc)),(1,fv),(7,.int .i64 l.length),(8,.int .i64 i)] σ
   (fun x e σ'=>σ'=σ∧if idxOf p (l.drop i)<0 then x=.exit 0 else x=.ret∧get e 4=.int .i64 (i+idxOf p (l.drop i)))
 |0,i,hi=>by
  obtain⟨h1,h2,h3⟩:=ht;refine aM (HH.eq_1 _ _) ?_;have:¬i<l.length:=by omega
  have h5:l.drop i=[]:=by simp;omega
  simp[this,h1,h2,h5,idxOf]
 |m+1,i,hi=>by
  have ih:=L5 hl ht (σ:=σ) m (i+1) (by omega);obtain⟨h1,h2,h3⟩:=ht;refine aM (HH.eq_1 _ _) ?_;have h4:i<l.length:=by omega
  obtain⟨x,hx⟩:=gE h4;have h5:=bW (f:=E.enc) E.len hx;have h6:=h3 x (aj hx) σ;have h7:=gN h4 hl;have h8:l.drop i=x::l.drop (i+1):=by
   rw[List.drop_eq_getElem_cons h4];rw[aN h4]at hx;simp at hx;rw[hx]
  cases hp:p x
  ·rw[hp]at h6;simp[h4,h1,h2,h5,h6,h7,E.load,E.strip,E.calm];refine WL.mono (by simpa using ih) ?_;rintro x e σ' ⟨h9,h10⟩;refine⟨h9,?_⟩;rw[h8];simp only[idxOf,hp,av,if_false];by_cases h11:idxOf p (l.drop (i+1))<0
   ·simpa[h11]using h10
   ·rw[if_neg h11]at h10;rw[if_neg h11,if_neg (by omega)];refine⟨h10.1,?_⟩;rw[h10.2];congr 1;push_cast;omega
  ·rw[hp]at h6;simp[h4,h1,h2,h5,h6,h7,E.load,E.strip,E.calm,h8,idxOf,hp]
theorem aex{f:Nat}(hT:T f=some (vb E.ag E.w))(hl:l.length≤9223372036854775807)(ht:rj T fv E.val p l){σ:SK}:
  lim T (.call false f [.aH l.length (l.flatMap E.enc),fv] σ)=some (.val (.int .i64 (idxOf p l)) σ):=by
 refine aw hT (vb.eq_1 _ _) rfl ?_;have h:=L5 E hl ht (σ:=[]::σ) l.length 0 (by simp);obtain⟨h1,h2,h3⟩:=ht;simp[h1,h2];refine WL.mono (by simpa using h) ?_;rintro x e σ' ⟨rfl,h10⟩
 try simp only[aO]at h10
 by_cases h11:idxOf p l<0
 ·rw[if_pos h11]at h10;subst h10;have:idxOf p l = -1:=by
   cases l with
   |nil=>rfl
   |cons a l =>
    simp only[idxOf]at h11 ⊢;split at h11<;>rename_i ha
    ·omega
    ·rw[if_neg ha];split at h11<;>rename_i hb
     ·rw[if_pos hb]
     ·omega
  simp[this]
 ·rw[if_neg h11]at h10;obtain⟨rfl,h12⟩:=h10
  try simp at h12
  simp[h12]
theorem contains_of{f i:Nat}(hT:T f=some (jD i))(hi:T i=some (vb E.ag E.w))(hl:l.length≤9223372036854775807)(ht:rj T fv E.val p l){σ:SK}:
  lim T (.call false f [.aH l.length (l.flatMap E.enc),fv] σ)=some (.val (.bool (sF l p)) σ):=by
 refine aw hT (jD.eq_1 _) rfl ?_;have h:=aex E hi hl ht (σ:=[]::σ);obtain⟨h1,h2,h3⟩:=ht;have h4:decide (0≤idxOf p l)=sF l p:=by
  unfold sF;have h6:=Fg (p:=p) (l:=l);cases h5:l.any p
  ·have:=h6.2 h5;exact decide_eq_false (by omega)
  ·exact decide_eq_true (by
    have:¬idxOf p l<0:=fun h=>by rw[h6.1 h]at h5;cases h5
    omega)
 simp[h1,h2,h,h4]
theorem OT{g:Nat}(hT:T g=some (yS E.ag E.w))(ht:rj T fv E.val p l):rj T (.fn g [] [.bB [fv]]) E.val (fun x => !p x) l:=by
 refine rj.fn fun x hx σ=>?_
 obtain⟨h1,h2,h3⟩:=ht;have h6:=h3 x hx ([]::σ);have hc:=E.cells x;have hl:=E.load x;have hs:=E.strip x;have hcm:=E.calm x;generalize E.ag=ag at *
 cases ag with
 |true =>
  refine aw hT (yS.eq_1 _) rfl ?_;simp[h1,h2,h6,hc,hl,hs,hcm]
 |false =>
  refine aw hT (yS.eq_2 _) rfl ?_;simp[h1,h2,h6,hc,hl,hs,hcm]
theorem zV{f g h i:Nat}(hf:T f=some (DY g h))(hg:T g=some (yS E.ag E.w))(hh:T h=some (jD i))(hi:T i=some (vb E.ag E.w))
  (hl:l.length≤9223372036854775807) (ht:rj T fv E.val p l) (hcl:fv.cells=some [fv]) {σ:SK}:
  lim T (.call false f [.aH l.length (l.flatMap E.enc),fv] σ)=some (.val (.bool (ie l p)) σ):=by
 refine aw hf (DY.eq_1 _ _) rfl ?_;have h:=contains_of E hh hi hl (OT E hg ht) (σ:=[]::σ);obtain⟨h1,h2,h3⟩:=ht;have h4:(sF l fun x => !p x) = !ie l p:=by
  unfold sF ie;rw[List.all_eq_not_any_not,Bool.not_not]
 simp[h1,h2,h,h4,hcl]
end
variable {T:yR}
theorem fQ{f:Nat}{fn:Fn}{args:List D}{σ σ':SK}{d:D}{np:Nat}{res:List DG}{body:cF}(hT:T f=some fn)(hf:fn=⟨np,res,body⟩)(hl:args.length=np)(hs:σ'.length=σ.length)
  (h:WC (lim T) body (nU 0 args) ([]::σ) (R9 σ' res d)):
  lim T (.call false f args σ)=some (.val d σ'):=by
 subst hf;obtain⟨x,e1,σ1,h1,h2,h2',ds,h3,s,h4⟩:=h;refine iy ?_;rw[hs,T7]at h4;simp only[dB,hT,if_pos hl,av,if_false,h1];cases x with
 |exit i=>exact absurd rfl (h2 i)
 |gf d=>exact absurd rfl (h2' d)
 |normal=>simp[h3,h4]
 |ret=>simp[h3,h4]
def okX:Exit→Prop
 |.normal=>True
 |.ret=>True
 |_=>False
@[simp] theorem axG:okX .ret=True:=aD rfl
theorem tc{f:Nat}{fn:Fn}{args:List D}{σ σ':SK}{d:D}{np:Nat}{res:List DG}{body:cF}(hT:T f=some fn)(hf:fn=⟨np,res,body⟩)(hl:args.length=np)
  (h:WC (lim T) body (nU 0 args) σ fun x e σ1=>okX x∧(zD e σ1 res).map uI=some d∧σ1=σ'):
  lim T (.call true f args σ)=some (.val d σ'):=by
 subst hf;obtain⟨x,e1,σ1,h1,h2,h3,rfl⟩:=h;refine iy ?_;simp only[ad]at h3;obtain⟨ds,h3,rfl⟩:=h3;simp only[dB,hT,if_pos hl,if_true,h1];cases x with
 |exit i=>exact h2.elim
 |gf d=>exact h2.elim
 |normal=>simp[h3]
 |ret=>simp[h3]
inductive yK (T:yR) (l i:Nat) {α:Type} (f:α→List D):List α→SK→Bool→SK→Prop
 |nil (σ:SK):yK T l i f [] σ true σ
 |go (a:α) (xs:List α) (σ σ1 σ2:SK) (b:Bool):lim T (.round l i (f a) σ)=some (.val (.bool true) σ1)→yK T l i f xs σ1 b σ2→yK T l i f (a::xs) σ b σ2
 |stop (a:α) (xs:List α) (σ σ1:SK):lim T (.round l i (f a) σ)=some (.val (.bool false) σ1)→yK T l i f (a::xs) σ false σ1
theorem yK.split{l i:Nat}{α:Type}{f:α→List D}:∀{xs bs:List α} {σ σ':SK} {b:Bool},yK T l i f (xs++bs) σ b σ' →
  (∃σ1,yK T l i f xs σ true σ1∧yK T l i f bs σ1 b σ')∨(b=false∧yK T l i f xs σ false σ')
 |[],bs,σ,σ',b,h => .inl ⟨σ,.nil σ,h⟩
 |a::xs,bs,σ,σ',b,h=>by
  cases h with
  |go _ _ _ σ1 _ _ h1 h2 =>
   rcases yK.split h2 with⟨σ3,h3,h4⟩ | ⟨rfl,h3⟩
   ·exact .inl ⟨σ3,.go _ _ _ _ _ _ h1 h3,h4⟩
   ·exact .inr ⟨rfl,.go _ _ _ _ _ _ h1 h3⟩
  |stop _ _ _ _ h1=>exact .inr ⟨rfl,.stop _ _ _ _ h1⟩
theorem DU{live:List Nat}{fo:bG}{params:List Nat}{zd body:cF}{e:Env}{s:List aE}{σ σ2:SK}{Q:Exit→Env→SK→Prop}{g:Nat}{first cap:List D}{d:D}{lp:we}
  (hf:bg e fo=.fn g first cap)
  (hc:lim T (.call false g (first++[.l7 σ.length s.length]++cap) ((s++[.loop {state:=0,wv:=none,env:=xQ live e,params,zd,body }])::σ))=some (.val d σ2))
  (hb:ef σ2 σ.length s.length=some (.loop lp)) (hs:lp.state≠1)
  (hq:Q (lp.wv.getD .normal) (restrict live e) (aV σ2 σ.length s.length (.loop {lp with state:=3 }))):
  WC (lim T) (.IC live fo params zd body) e (s::σ) Q:=by
 refine⟨_,_,_,?_,hq⟩;simp only[aW,iC,hf,FR,hc,R.bq,hb,if_neg hs]
def Dr:Option aE→Option we
 |some (.loop lp)=>some lp
 |_=>none
@[simp] theorem amF{lp:we}:Dr (some (.loop lp))=some lp:=aD rfl
theorem yr{o:Option aE}{lp:we}(h:Dr o=some lp):o=some (.loop lp):=by
 cases o with
 |none=>cases h
 |some b=>cases b<;>cases h;rfl
def an2(l i:Nat)(b:Bool)(σ':SK)(x:Exit)(σ2:SK):Prop :=
 match x with
 |.gf _=>False
 |.normal=>WD (Dr (ef σ2.tail l i)) fun lp2=>aV σ2.tail l i (.loop {lp2 with state:=0,wv:=none })=σ'∧b=true
 |x=>WD (Dr (ef σ2.tail l i)) fun lp2=>aV σ2.tail l i (.loop {lp2 with state:=2,wv:=some x })=σ'∧b=false
@[simp] theorem ah8{l i:Nat}{b:Bool}{σ':SK}{s2:List aE}{σ3:SK}:an2 l i b σ' .normal (s2::σ3)=WD (Dr (ef σ3 l i)) fun lp2=>aV σ3 l i (.loop {lp2 with state:=0,wv:=none })=σ'∧b=true:=aD rfl
@[simp] theorem asK{l i j:Nat}{b:Bool}{σ':SK}{s2:List aE}{σ3:SK}:an2 l i b σ' (.exit j) (s2::σ3)=WD (Dr (ef σ3 l i)) fun lp2=>aV σ3 l i (.loop {lp2 with state:=2,wv:=some (.exit j) })=σ'∧b=false:=aD rfl
def Mj(T:yR)(l i:Nat)(b:Bool)(σ':SK)(n:Nat)(body:cF)(x:Exit)(e1:Env)(σ1:SK)(_m:Mark body:=.mk):Prop :=
 x=.normal∧WD (Dr (ef σ1 l i)) fun lp1=>lp1.state=0∧WC (lim T) body e1 (aV σ1 l i (.loop {lp1 with state:=1 })) fun x _ σ2=>σ2.length=n∧an2 l i b σ' x σ2
theorem Es{l i:Nat}{args:List D}{σ σ':SK}{b:Bool}{lp:we}(hb:ef σ l i=some (.loop lp))(hl:args.length=lp.params.length)
  (h:WC (lim T) lp.zd (Ao lp.params args lp.env) ([]::σ) (Mj T l i b σ' (σ.length+1) lp.body)):
  lim T (.round l i args σ)=some (.val (.bool b) σ'):=by
 obtain⟨x,e1,σ1,h1,rfl,lp1,h2,h3,x2,e2,σ2,h4,hlen,h6⟩:=h;have h2:=yr h2;cases σ2 with
 |nil=>simp at hlen
 |cons s2 σ3 =>
 refine iy ?_;simp only[dB,hb,if_pos hl,h1,h2,if_pos h3,h4];cases x2 with
 |normal=>obtain⟨lp2,h5,h6,rfl⟩:=h6;have h5:=yr h5;dsimp only [List.tail]at h5 h6 ⊢;rw[h5];dsimp only;rw[h6]
 |exit j=>obtain⟨lp2,h5,h6,rfl⟩:=h6;have h5:=yr h5;dsimp only [List.tail]at h5 h6 ⊢;rw[h5];dsimp only;rw[h6]
 |ret=>obtain⟨lp2,h5,h6,rfl⟩:=h6;have h5:=yr h5;dsimp only [List.tail]at h5 h6 ⊢;rw[h5];dsimp only;rw[h6]
 |gf d=>exact h6.elim
@[simp] theorem amK{t:Nat}{ts:List Nat}{d:D}{ds:List D}{e:Env}:Ao (t::ts) (d::ds) e=Ao ts ds ((t,d)::e):=aD rfl
@[simp] theorem arE{ds:List D}{e:Env}:Ao [] ds e=e:=aD (by cases ds<;>rfl)
@[simp] theorem asz{e:Env}:xQ [] e=[]:=aD rfl
@[simp] theorem am4{t:Nat}{l:List Nat}{e:Env}:xQ (t::l) e=(t,(get e t).strip)::xQ l e:=aD rfl
variable {T:yR}
def Se(vs:List Nat)(v:Nat)(d:D)(e:Env)(σ:SK):Env×SK :=
 match d with
 |.sl l i u off m w=>vj vs ((v,(cJ 0 deep (.sl l i u off m w) σ).1)::e) (cJ 0 deep (.sl l i u off m w) σ).2
 |.own s cs=>vj vs ((v,.own s (cJ.frzL (cJ 0 deep) cs σ).1)::e) (cJ.frzL (cJ 0 deep) cs σ).2
 |.agg cs=>vj vs ((v,.agg (cs.map D.wQ))::e) σ
 |.undef=>if 1000000≤v then vj vs (Iv (v-1000000) e σ).1 (Iv (v-1000000) e σ).2 else vj vs e σ
 |_=>vj vs e σ
@[simp] theorem avx{e:Env}{σ:SK}:vj [] e σ=(e,σ):=aD rfl
@[simp] theorem asS{v:Nat}{vs:List Nat}{e:Env}{σ:SK}:vj (v::vs) e σ=Se vs v (get e v) e σ:=by
 simp only[vj,Se];cases get e v<;>rfl
@[simp] theorem axw{v:Nat}{vs:List Nat}{e:Env}{σ:SK}{l i u off m w:Nat}:Se vs v (.sl l i u off m w) e σ =
  vj vs ((v,(cJ 0 deep (.sl l i u off m w) σ).1)::e) (cJ 0 deep (.sl l i u off m w) σ).2:=aD rfl
@[simp] theorem avt{v:Nat}{vs:List Nat}{e:Env}{σ:SK}{s:Nat}{cs:List D}:Se vs v (.own s cs) e σ =
  vj vs ((v,.own s (cJ.frzL (cJ 0 deep) cs σ).1)::e) (cJ.frzL (cJ 0 deep) cs σ).2:=aD rfl
@[simp] theorem avs{v:Nat}{vs:List Nat}{e:Env}{σ:SK}{cs:List D}:Se vs v (.agg cs) e σ=vj vs ((v,.agg (cs.map D.wQ))::e) σ:=aD rfl
@[simp] theorem atY{k:IntKind}{n:Int}:D.wQ (.int k n)=.int k n:=aD rfl
@[simp] theorem atZ{n:Nat}{cs:List D}:D.wQ (.aH n cs)=.aH n cs:=aD rfl
def NJ(v:Nat)(d:D)(e:Env)(σ:SK):Env×SK :=
 match d with
 |.aK=>((v,.aH 0 [])::e,σ)
 |.ref l i u 0=>((v,(D8 l i u σ).1)::e,(D8 l i u σ).2)
 |.own s cs=>((v,.own s (cs.map D.wQ))::e,σ)
 |_=>(e,σ)
@[simp] theorem axx{v:Nat}{e:Env}{σ:SK}:Iv v e σ=NJ v (get e v) e σ:=rfl
@[simp] theorem asR{v:Nat}{e:Env}{σ:SK}:NJ v .aK e σ=((v,.aH 0 [])::e,σ):=aD rfl
@[simp] theorem avu{v n:Nat}{cs:List D}{e:Env}{σ:SK}:NJ v (.aH n cs) e σ=(e,σ):=aD rfl
@[simp] theorem avw{v l i u:Nat}{e:Env}{σ:SK}:NJ v (.ref l i u 0) e σ=((v,(D8 l i u σ).1)::e,(D8 l i u σ).2):=aD rfl
@[simp] theorem avv{v s:Nat}{cs:List D}{e:Env}{σ:SK}:NJ v (.own s cs) e σ=((v,.own s (cs.map D.wQ))::e,σ):=aD rfl
@[simp] theorem at0{s:List UInt8}:D.wQ (.str s)=.str s:=aD rfl
@[simp] theorem get_none{t:Nat}:get [] t=.undef:=aD rfl
@[simp] theorem arh{v:Nat}{vs:List Nat}{e:Env}{σ:SK}:Se vs v .undef e σ=if 1000000≤v then vj vs (Iv (v-1000000) e σ).1 (Iv (v-1000000) e σ).2 else vj vs e σ:=aD rfl
def aAe(l n m off w:Nat)(σ:SK)(s:D):Option (List D)→D×SK
 |some cs=>(.aH m (cJ.frzL (cJ l n) ((cs.drop off).take (m*w)) σ).1,(cJ.frzL (cJ l n) ((cs.drop off).take (m*w)) σ).2)
 |none=>(.undef,σ)
theorem NK{L i u off m w:Nat}{σ:SK}{cs:List D}(hL:0<L)(hc:cells? σ L i u=some cs):
  cJ 0 16 (.sl L i u off m w) σ=(.aH m (cJ.frzL (cJ 0 15) ((cs.drop off).take (m*w)) (aV σ L i .dead)).1,(cJ.frzL (cJ 0 15) ((cs.drop off).take (m*w)) (aV σ L i .dead)).2):=by
 exact Dl (by omega) hc (by omega)
theorem agQ{σ:SK}(hσ:σ≠[]){bs:List aE}{i u m w:Nat}{cs:List D}(hb:bs[i]?=some (.cells u cs))(hcl:D.bJ cs=true)(hlen:cs.length=m*w):
  cJ 0 16 (.sl σ.length i u 0 m w) (bs::σ)=(.aH m cs,bs.set i .dead::σ):=by
 have h:=aT.2 hσ;rw[NK h (cs:=cs) (by simp[hb])];simp[← hlen,hcl,ai]
theorem Kh{α:Type}{f:α→List D}{w:Nat}(hw:∀x,(f x).length=w)(l:List α):(l.flatMap f).take (l.length*w)=l.flatMap f :=
 ai (by rw[bX hw];exact aI _)
theorem iU{α:Type}{f:α→List D}(h:∀x,D.bJ (f x)=true)(l:List α):D.bJ (l.flatMap f)=true:=by
 have app:∀a b:List D,D.bJ (a++b)=(D.bJ a && D.bJ b):=by
  intro a b;induction a with
  |nil=>simp
  |cons x a ih=>simp[ih,Bool.and_assoc]
 induction l with
 |nil=>simp
 |cons a l ih=>simp[app,h,ih]
theorem wG{α:Type}{f:α→List D}{w:Nat}(hw:∀x,(f x).length=w)(hc:∀x,D.bJ (f x)=true){l:List α}{j v:Nat}{bs:List aE}{σ:SK}(hσ:σ≠[])(hj:bs[j]?=some (.cells v (l.flatMap f))):
  cJ (σ.length-1) 16 (.sl σ.length j v 0 l.length w) (bs::σ)=(.aH l.length (l.flatMap f),bs.set j .dead::σ):=by
 have h3:¬σ.length≤σ.length-1:=by have:=aT.2 hσ;omega
 rw[Dl h3 (cs:=l.flatMap f) (by simp[hj]) (by omega)];simp[Kh hw l,iU hc l]
theorem Eh{α:Type}{f:α→List D}{w:Nat}(hw:∀x,(f x).length=w)(hc:∀x,D.bJ (f x)=true){l:List α}{j v:Nat}{bs:List aE}{σ:SK}(hσ:σ≠[])(hj:bs[j]?=some (.cells v (l.flatMap f))):
  cJ 0 16 (.sl σ.length j v 0 l.length w) (bs::σ)=(.aH l.length (l.flatMap f),bs.set j .dead::σ) :=
 agQ hσ hj (iU hc l) (bX hw l)
theorem QM{α:Type}{f:α→List D}{w:Nat}(hw:∀x,(f x).length=w):∀{l:List α} {i:Nat} {x:α},i<l.length→(l.flatMap f).take (i*w)++(f x++(l.flatMap f).drop (i*w+w))=(l.set i x).flatMap f
 |[],i,x,h=>by simp at h
 |a::l,0,x,h=>by
  have h1:=hw a;simp only[Nat.zero_mul,List.take_zero,aX,aS,List.set_cons_zero,cZ];rw[← h1,List.drop_left]
 |a::l,i+1,x,h=>by
  have h1:=hw a;have ih:=QM (l:=l) (i:=i) (x:=x) hw (by simpa using h);simp only[aS,List.set_cons_succ];rw[← ih,show(i+1)*w=w+i*w by rw[eW];omega,← h1,List.take_length_add_append,dX,show(f a).length+i*(f a).length+(f a).length=(f a).length+(i*(f a).length+(f a).length)by omega,cV]
theorem BA{α:Type}{f:α→List D}{w:Nat}(hw:∀x,(f x).length=w):∀{l:List α} {i:Nat} {x:α},l[i]?=some x→(l.flatMap f).drop (i*w)=f x++(l.flatMap f).drop (i*w+w)
 |[],i,x,h=>by simp at h
 |a::l,0,x,h=>by
  simp at h;subst h;have h1:=hw a;simp only[Nat.zero_mul,aO,aS,cZ];rw[← h1,List.drop_left]
 |a::l,i+1,x,h=>by
  have h1:=hw a;have ih:=BA (l:=l) (i:=i) (x:=x) hw (by simpa using h);simp only[aS];rw[show(i+1)*w=w+i*w by rw[eW];omega,← h1,cV,show(f a).length+i*(f a).length+(f a).length=(f a).length+(i*(f a).length+(f a).length)by omega,cV,h1,ih]
@[simp] theorem avr{l:Nat}{σ:SK}:pV l [] σ=([],σ):=aD rfl
@[simp] theorem asQ{l t:Nat}{d:D}{e:Env}{σ:SK}:pV l ((t,d)::e) σ=((t,(cJ l deep d σ).1)::(pV l e (cJ l deep d σ).2).1,(pV l e (cJ l deep d σ).2).2):=aD rfl
def QX(T:yR)(live:List Nat)(c:cF)(n:Nat)(Q:Exit→Env→SK→Prop)(_m:Mark c:=.mk)(_m':Mark Q:=.mk):Exit→Env→SK→Prop
 |.normal,e,σ=>WL T live true c (pV n (restrict live e) σ).1 (pV n (restrict live e) σ).2.tail Q
 |.exit i,e,σ=>Q (.exit i) (pV n (restrict (keys e) e) σ).1 (pV n (restrict (keys e) e) σ).2.tail
 |.ret,e,σ=>Q .ret (pV n (restrict (keys e) e) σ).1 (pV n (restrict (keys e) e) σ).2.tail
 |.gf d,e,σ=>Q (.gf d) (pV n (restrict (keys e) e) σ).1 (pV n (restrict (keys e) e) σ).2.tail
@[simp,simp ↓] theorem ahi{live:List Nat}{c:cF}{n:Nat}{Q:Exit→Env→SK→Prop}{e:Env}{σ:SK}:QX T live c n Q .mk .mk .normal e σ=WL T live true c (pV n (restrict live e) σ).1 (pV n (restrict live e) σ).2.tail Q:=aD rfl
@[simp,simp ↓] theorem arx{live:List Nat}{c:cF}{n i:Nat}{Q:Exit→Env→SK→Prop}{e:Env}{σ:SK}:QX T live c n Q .mk .mk (.exit i) e σ=Q (.exit i) (pV n (restrict (keys e) e) σ).1 (pV n (restrict (keys e) e) σ).2.tail:=aD rfl
@[simp,simp ↓] theorem as6{live:List Nat}{c:cF}{n:Nat}{Q:Exit→Env→SK→Prop}{e:Env}{σ:SK}:QX T live c n Q .mk .mk .ret e σ=Q .ret (pV n (restrict (keys e) e) σ).1 (pV n (restrict (keys e) e) σ).2.tail:=aD rfl
theorem DW{live:List Nat}{c c':cF}{e:Env}{σ:SK}{Q:Exit→Env→SK→Prop}(hc:c=c')(h:WC (lim T) c' (restrict live e) ([]::σ) (QX T live c (σ.length-1) Q .mk .mk)):WL T live true c e σ Q:=by
 rw[← hc]at h;obtain⟨x,e1,σ1,h1,h2⟩:=h;cases x with
 |normal =>
  obtain⟨x,e',σ',h3,h4⟩:=h2;exact⟨x,e',σ',iy (by simp[dB,h1,y8,h3]),h4⟩
 |exit i=>exact⟨_,_,_,iy (by simp[dB,h1,y8]),h2⟩
 |ret=>exact⟨_,_,_,iy (by simp[dB,h1,y8]),h2⟩
 |gf d=>exact⟨_,_,_,iy (by simp[dB,h1,y8]),h2⟩
def aua(n:Nat)(Q:Exit→Env→SK→Prop)(_m:Mark Q:=.mk):Exit→Env→SK→Prop:=fun x e σ=>Q x (pV n (restrict (keys e) e) σ).1 (pV n (restrict (keys e) e) σ).2.tail
@[simp,simp ↓] theorem axt{n:Nat}{Q:Exit→Env→SK→Prop}{x:Exit}{e:Env}{σ:SK}:aua n Q .mk x e σ=Q x (pV n (restrict (keys e) e) σ).1 (pV n (restrict (keys e) e) σ).2.tail:=aD rfl
@[simp,simp ↓] theorem ax2{O:bM}{a:cF}{e:Env}{σ:SK}{Q:Exit→Env→SK→Prop}:WC O (.sgm a) e σ Q=WC O a e ([]::σ) (aua (σ.length-1) Q):=by
 simp only[WC,aW,ad,Prod.exists,ak,eq_iff_iff];constructor
 ·rintro⟨x,e',σ',⟨x1,e1,σ1,h1,rfl,rfl,rfl⟩,h2⟩;exact⟨x1,e1,σ1,h1,h2⟩
 ·rintro⟨x,e',σ',h1,h2⟩;exact⟨_,_,_,⟨x,e',σ',h1,rfl,rfl,rfl⟩,h2⟩
@[simp] theorem keys_nil:keys []=[]:=aD rfl
@[simp] theorem keys_cons{t:Nat}{d:D}{e:Env}:keys ((t,d)::e)=t::keys (e.filter fun p => !(p.1 == t)):=by
 simp only[keys,aL,List.eraseDups_cons,List.filter_map];rfl
end Go.Abs
namespace Go.Abs
def qo(d:Nat)(k:K):Op:=⟨some d,none,false,k⟩
def qO(d:Nat)(k:K):Op:=⟨some d,none,true,k⟩
def qm(d x:Nat):Op:=⟨some d,none,false,.mv (.t x)⟩
def qM(d x:Nat):Op:=⟨some d,none,true,.mv (.t x)⟩
def qi(d:Nat)(n:Int):Op:=⟨some d,none,false,.mv (.c (.int .i64 n))⟩
def qb(d:Nat)(b:Bool):Op:=⟨some d,none,false,.mv (.c (.bool b))⟩
def qf(d o x:Nat):Op:=⟨some d,none,false,.Iu o (.t x)⟩
def qF(d o x:Nat):Op:=⟨some d,none,true,.Iu o (.t x)⟩
def ql(d n x:Nat):Op:=⟨some d,none,false,.ld false n (.t x)⟩
def qL(d n x:Nat):Op:=⟨some d,none,true,.ld false n (.t x)⟩
def qa(d n x:Nat):Op:=⟨some d,none,false,.ld true n (.t x)⟩
def qA(d n x:Nat):Op:=⟨some d,none,true,.ld true n (.t x)⟩
def qv(d v n a:Nat):Op:=⟨some d,none,false,.S0 v false n a⟩
def qV(d v n a:Nat):Op:=⟨some d,none,true,.S0 v false n a⟩
def qw(d v n a:Nat):Op:=⟨some d,none,false,.S0 v true n a⟩
def qW(d v n a:Nat):Op:=⟨some d,none,true,.S0 v true n a⟩
def qx(d x:Nat):Op:=⟨some d,none,false,.Ir (.t x)⟩
def qe(d x:Nat):Op:=⟨some d,none,false,.Iy (.t x)⟩
def qE(d x:Nat):Op:=⟨some d,none,true,.Iy (.t x)⟩
def qj(d w x i:Nat):Op:=⟨some d,none,false,.fM w (.t x) (.t i)⟩
def qJ(d w x i:Nat):Op:=⟨some d,none,true,.fM w (.t x) (.t i)⟩
def qk(d:Nat)(o:BinOp)(x y:Nat):Op:=⟨some d,none,false,.bin o (.t x) (.t y)⟩
def qK(d:Nat)(o:BinOp)(x y:Nat):Op:=⟨some d,none,true,.bin o (.t x) (.t y)⟩
def qn(d:Nat)(o:BinOp)(x:Nat)(n:Int):Op:=⟨some d,none,false,.bin o (.t x) (.c (.int .i64 n))⟩
def qN(d:Nat)(o:BinOp)(x:Nat)(n:Int):Op:=⟨some d,none,true,.bin o (.t x) (.c (.int .i64 n))⟩
def qu(d x:Nat):Op:=⟨some d,none,false,.un .not (.t x)⟩
def qp(d c x:Nat):Op:=⟨some d,none,false,.pick (.t c) (.t x) (.c (.bool false))⟩
def qP(d c x:Nat):Op:=⟨some d,none,false,.pick (.t c) (.c (.bool true)) (.t x)⟩
def qs(v n a x:Nat):Op:=⟨none,none,false,.Gt v [] n a (.t x)⟩
def qS(v n a x:Nat):Op:=⟨none,none,true,.Gt v [] n a (.t x)⟩
def qt(n a x:Nat):Op:=⟨none,none,false,.st [] n (.t a) (.t x)⟩
def qz(d x i:Nat):Op:=⟨some d,none,false,.ext (.t x) i⟩
def qZ(d x i:Nat):Op:=⟨some d,none,true,.ext (.t x) i⟩
def qc(d f:Nat)(a:List Nat):Op:=⟨some d,none,false,.call false (.c (.fn f [] [])) (a.map .t)⟩
def qC(d f:Nat)(a:List Nat):Op:=⟨some d,none,true,.call false (.c (.fn f [] [])) (a.map .t)⟩
def qy(d w b s x:Nat):Op:=⟨some d,none,false,.app w b (.t s) (.t x)⟩
def qg(t:Nat)(b:Bool)(o:Op):Op:=⟨o.dst,some (t,b),o.AI,o.k⟩
structure q7 where
 f:Nat
 a:List D
 s:SK
 d:D
 t:SK
def q7.Ok(T:yR)(m:q7):Prop:=lim T (.call false m.f m.a m.s)=some (.val m.d m.t)
def q7.ask(m:q7):Q→Option R
 |.call false f a σ=>if f=m.f then if a=m.a then if σ=m.s then some (.val m.d m.t)else none else none else none
 |_=>none
theorem q7.Ok.ask{T:yR}{m:q7}(h:m.Ok T){q:Q}{r:R}(hq:m.ask q=some r):lim T q=some r:=by
 unfold q7.ask at hq;split at hq
 case h_2=>cases hq
 split at hq
 case isFalse=>cases hq
 rename_i h1;split at hq
 case isFalse=>cases hq
 rename_i h2;split at hq
 case isFalse=>cases hq
 rename_i h3;cases hq;rw[h1,h2,h3];exact h
def anR(M:List q7)(q:Q):Option R:=M.findSome? fun m=>m.ask q
def itM(T:yR)(M:List q7):Nat→bM
 |0=>anR M
 |n+1=>fun q=>match anR M q with
  |some r=>some r
  |none=>dB T (itM T M n) q
theorem OV{T:yR}{M:List q7}(hM:∀m∈M,m.Ok T){q:Q}{r:R}(h:anR M q=some r):lim T q=some r:=by
 obtain⟨m,h1,h2⟩:=List.exists_of_findSome?_eq_some h;exact(hM m h1).ask h2
theorem QK{T:yR}{M:List q7}(hM:∀m∈M,m.Ok T):∀{n:Nat} {q:Q} {r:R},itM T M n q=some r→lim T q=some r
 |0,q,r,h=>OV hM h
 |n+1,q,r,h=>by
  unfold itM at h;split at h
  ·rename_i h1;cases h;exact OV hM h1
  ·exact iy (H4 (fun q r=>QK hM) h)
end Go.Abs
