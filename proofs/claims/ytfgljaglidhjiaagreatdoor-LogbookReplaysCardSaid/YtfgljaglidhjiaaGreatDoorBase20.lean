import Derived.Test.YtfgljaglidhjiaaGreatDoorBase19
import Derived.IntWalk
set_option linter.all false
namespace Go.Abs
open Go
theorem WL.to{T:Ak}{live:List Nat}{bx:Bool}{c:cZ}{e e':Env}{σ σ':SK}{Q Q':Exit→Env→SK→Prop}(h:WL T live bx c e σ Q)(he:e'=e)(hs:σ'=σ)
  (hq:∀x e σ,Q x e σ→Q' x e σ):WL T live bx c e' σ' Q':=by subst he hs;exact h.mono hq
theorem bV{α:Type}{f:α→List D}{w:Nat}(hw:∀x,(f x).length=w)(l:List α):(l.flatMap f).length=l.length*w:=by
 induction l with
 |nil=>simp
 |cons a l ih=>simp[hw,ih,eV];omega
theorem bQ{α:Type}{f:α→List D}{w:Nat}(hw:∀x,(f x).length=w):∀{l:List α} {i:Nat} {x:α},l[i]?=some x→((l.flatMap f).drop (i*w)).take w=f x
 |[],i,x,h=>by simp at h
 |a::l,0,x,h=>by
  simp at h;subst h;simp[← hw a]
 |a::l,i+1,x,h=>by
  have e:(i+1)*w=(f a).length+i*w:=by rw[hw,eV];omega
  rw[ba,e,List.drop_append];simp only[Nat.add_sub_cancel_left,aJ (Nat.le_add_right _ _),aY];exact bQ hw (by simpa using h)
theorem dG{α:Type}{l:List α}{i:Nat}{x:α}(h:l[i]?=some x):l.drop i=x::l.drop (i+1):=by
 have h1:i<l.length:=(aF.1 h).1;rw[List.drop_eq_getElem_cons h1];rw[aP h1]at h;simp at h;rw[h]
theorem Kr{α:Type}{f:α→List D}{l:List α}{i:Nat}{x:α}(h:l[i]?=some x):(l.take i).flatMap f++f x=(l.take (i+1)).flatMap f:=by
 rw[List.take_add_one,h];simp
theorem TQ{α:Type}{f:α→D}(l:List α):l.flatMap (fun x=>[f x])=l.map f:=by
 induction l with
 |nil=>rfl
 |cons a l ih=>simp[ih]
theorem gQ{n:Int}(h : -9223372036854775808≤n∧n≤9223372036854775807):IntKind.i64.wrap n=n:=IntWalk.i64_in n h
@[simp] theorem aFC:IntKind.i64.wrap 0=0:=by decide
@[simp] theorem aFD:IntKind.i64.wrap 1=1:=by decide
@[simp] theorem aFE:IntKind.i64.wrap 2=2:=by decide
@[simp] theorem aFF:IntKind.i64.wrap 3=3:=by decide
@[simp] theorem aFG:IntKind.i64.wrap 4=4:=by decide
theorem wu8{n:Int}(h:0≤n∧n≤255):IntKind.u8.wrap n=n:=IntWalk.u8_in n h
theorem fK{i n:Nat}(h:i<n)(hn:n≤9223372036854775807):IntKind.i64.wrap ((i:Int)+1)=((i+1:Nat):Int):=by
 rw[gQ (by omega)];rfl
variable {T:Ak}
def idxOf{α:Type}(p:α→Bool):List α→Int
 |[] => -1
 |x::l=>if p x then 0 else if idxOf p l<0 then -1 else idxOf p l+1
theorem Kw{α:Type}{p:α→Bool}:∀{l:List α},idxOf p l<0↔l.any p=false
 |[]=>by simp[idxOf]
 |x::l=>by
  have ih:=Kw (p:=p) (l:=l);simp only[idxOf,List.any_cons];cases h:p x
  ·simp only[aB,if_false,Bool.false_or];by_cases h1:idxOf p l<0
   ·rw[if_pos h1,ih.1 h1];decide
   ·rw[if_neg h1];have h2:¬l.any p=false:=fun h=>h1 (ih.2 h)
    exact⟨fun h3=>absurd h3 (by omega),fun h3=>absurd h3 h2⟩
  ·simp
def gW{α:Type}(l:List α)(p:α→Bool):Bool:=l.all p
def sN{α:Type}(l:List α)(p:α→Bool):Bool:=l.any p
theorem ki{α:Type}{l:List α}{p:α→Bool}:gW l p=true↔∀x∈l,p x=true:=by simp[gW]
theorem Tm{α:Type}{l:List α}{p:α→Bool}:sN l p=true↔∃x∈l,p x=true:=by simp[sN]
def rE(T:Ak){α:Type}(fv:D)(val:α→D)(p:α→Bool)(l:List α):Prop :=
 fv.strip=fv∧fv.calm=fv∧∀x∈l,∀σ,pZ (bw T) false fv [val x] σ=some (.bool (p x),σ)
theorem rE.fn{α:Type}{f:Nat}{first cap:List D}{val:α→D}{p:α→Bool}{l:List α}
  (h:∀x∈l,∀σ,bw T (.call false f (first++[val x]++cap) σ)=some (.val (.bool (p x)) σ)):rE T (.fn f first cap) val p l :=
 ⟨rfl,rfl,fun x hx σ=>by rw[sU,h x hx σ];rfl⟩
structure Elt(α:Type) where
 ag:Bool
 w:Nat
 enc:α→List D
 val:α→D
 len:∀x,(enc x).length=w
 load:∀x,US ag w (some (enc x))=some (val x)
 strip:∀x,(val x).strip=val x
 calm:∀x,(val x).calm=val x
 cells:∀x,(val x).cells=some (enc x)
def Qu(k:IntKind):Elt Int:=⟨false,1,fun n=>[.int k n],fun n => .int k n,fun _=>rfl,fun _=>by simp,fun _=>rfl,fun _=>rfl,fun _=>rfl⟩
def aDd:Elt Bool:=⟨false,1,fun n=>[.bool n],fun n => .bool n,fun _=>rfl,fun _=>by simp,fun _=>rfl,fun _=>rfl,fun _=>rfl⟩
def yU{α:Type}(w:Nat)(enc:α→List D)(h:∀x,(enc x).length=w):Elt α :=
 ⟨true,w,enc,fun x => .agg (enc x),h,fun x=>by simp[h,ar],fun _=>rfl,fun _=>rfl,fun _=>rfl⟩
section index
variable (ag:Bool) (w:Nat)
def Ns:cZ :=
 (.seq (.ak [0,1,7,8,9] [⟨some 9,none,false,.bin .lss (.t 8) (.t 7)⟩]) (.seq (.ite (.t 9) .cU (.exit 0)) (.seq (.bB 1 (.seq (.ak [0,1,5,7,8] [
 ⟨some 10,none,false,.mv (.t 8)⟩,
 ⟨some 5,none,false,.mv (.t 10)⟩]) (.seq (.ak [0,1,5,7,8,16] [
 ⟨some 11,none,false,.mv (.t 1)⟩,
 ⟨some 12,none,false,.mv (.t 0)⟩,
 ⟨some 13,none,false,.mv (.t 5)⟩,
 ⟨some 14,none,false,.fJ w (.t 12) (.t 13)⟩,
 ⟨some 15,none,false,.ld ag w (.t 14)⟩,
 ⟨some 16,none,false,.call false (.t 11) [(.t 15)]⟩]) (.ite (.t 16) (.seq (.ak [4] [
 ⟨some 17,none,false,.mv (.t 5)⟩,
 ⟨some 4,none,false,.mv (.t 17)⟩]) .ret) .cU)))) (.ak [0,1,7,8] [
 ⟨some 18,none,false,.bin .add (.t 8) (.c (.int .i64 1))⟩,
 ⟨some 8,none,false,.mv (.t 18)⟩]))))
def vT:Fn:=⟨2,[.t 4],
 (.seq (.ak [0,1] [⟨some 4,none,false,.mv (.c (.int .i64 0))⟩]) (.seq (.seq (.ak [0,1,7,8] [
 ⟨some 6,none,false,.mv (.t 0)⟩,
 ⟨some 7,none,false,.OJ (.t 6)⟩,
 ⟨some 8,none,false,.mv (.c (.int .i64 0))⟩]) (.bB 0 (.loop [0,1,7,8] false (Ns ag w)))) (.seq (.ak [4] [
 ⟨some 4,none,false,.mv (.c (.int .i64 (-1)))⟩]) .ret)))⟩
def jP(i:Nat):Fn:=⟨2,[.t 4],
 (.seq (.ak [0,1] [⟨some 4,none,false,.mv (.c (.bool false))⟩]) (.seq (.ak [4] [
 ⟨some 5,none,false,.mv (.t 0)⟩,
 ⟨some 6,none,false,.mv (.t 1)⟩,
 ⟨some 7,none,false,.call false (.c (.fn i [] [])) [(.t 5),(.t 6)]⟩,
 ⟨some 8,none,false,.bin .geq (.t 7) (.c (.int .i64 0))⟩,
 ⟨some 4,none,false,.mv (.t 8)⟩]) .ret))⟩
def IN(g h:Nat):Fn:=⟨2,[.t 4],
 (.seq (.ak [0,3] [
 ⟨some 3,none,false,.Oq (.t 1)⟩,
 ⟨some 4,none,false,.mv (.c (.bool false))⟩]) (.seq (.ak [4] [
 ⟨some 5,none,false,.mv (.t 0)⟩,
 ⟨some 6,none,false,.zR g [] [(.t 3)]⟩,
 ⟨some 7,none,false,.call false (.c (.fn h [] [])) [(.t 5),(.t 6)]⟩,
 ⟨some 8,none,false,.un .not (.t 7)⟩,
 ⟨some 4,none,false,.mv (.t 8)⟩]) .ret))⟩
def Aw:Bool→Nat→Fn
 |true,w=>⟨2,[.t 3],
 (.seq (.ak [1,2] [
 ⟨some 2,none,false,.Oq (.t 0)⟩,
 ⟨some 3,none,false,.mv (.c (.bool false))⟩]) (.seq (.ak [3] [
 ⟨some 4,none,false,.ld false 1 (.t 1)⟩,
 ⟨some 5,none,false,.ld true w (.t 2)⟩,
 ⟨some 6,none,false,.call false (.t 4) [(.t 5)]⟩,
 ⟨some 7,none,false,.un .not (.t 6)⟩,
 ⟨some 3,none,false,.mv (.t 7)⟩]) .ret))⟩
 |false,_=>⟨2,[.t 3],
 (.seq (.ak [0,1] [
 ⟨some 3,none,false,.mv (.c (.bool false))⟩]) (.seq (.ak [3] [
 ⟨some 4,none,false,.ld false 1 (.t 1)⟩,
 ⟨some 5,none,false,.mv (.t 0)⟩,
 ⟨some 6,none,false,.call false (.t 4) [(.t 5)]⟩,
 ⟨some 7,none,false,.un .not (.t 6)⟩,
 ⟨some 3,none,false,.mv (.t 7)⟩]) .ret))⟩
end index
section
variable {α:Type} (E:Elt α) {p:α→Bool} {fv:D} {l:List α}
theorem T5(hl:l.length≤9223372036854775807)(ht:rE T fv E.val p l){σ:SK}:∀(m i:Nat),i+m=l.length →
  WL T [0,1,7,8] false (Ns E.ag E.w) [(0,.aK l.length (l.flatMap E.enc)),(1,fv),(7,.int .i64 l.length),(8,.int .i64 i)] σ
   (fun x e σ'=>σ'=σ∧if idxOf p (l.drop i)<0 then x=.exit 0 else x=.ret∧get e 4=.int .i64 (i+idxOf p (l.drop i)))
 |0,i,hi=>by
  obtain⟨h1,h2,h3⟩:=ht;refine aM (Ns.eq_1 _ _) ?_;have:¬i<l.length:=by omega
  have h5:l.drop i=[]:=by simp;omega
  simp[this,h1,h2,h5,idxOf]
 |m+1,i,hi=>by
  have ih:=T5 hl ht (σ:=σ) m (i+1) (by omega);obtain⟨h1,h2,h3⟩:=ht;refine aM (Ns.eq_1 _ _) ?_;have h4:i<l.length:=by omega
  obtain⟨x,hx⟩:=gE h4;have h5:=bQ (f:=E.enc) E.len hx;have h6:=h3 x (an hx) σ;have h7:=fK h4 hl;have h8:l.drop i=x::l.drop (i+1):=by
   rw[List.drop_eq_getElem_cons h4];rw[aP h4]at hx;simp at hx;rw[hx]
  cases hp:p x
  ·rw[hp]at h6;simp[h4,h1,h2,h5,h6,h7,E.load,E.strip,E.calm];refine WL.mono (by simpa using ih) ?_;rintro x e σ' ⟨h9,h10⟩;refine⟨h9,?_⟩;rw[h8];simp only[idxOf,hp,aB,if_false];by_cases h11:idxOf p (l.drop (i+1))<0
   ·simpa[h11]using h10
   ·rw[if_neg h11]at h10;rw[if_neg h11,if_neg (by omega)];refine⟨h10.1,?_⟩;rw[h10.2];congr 1;push_cast;omega
  ·rw[hp]at h6;simp[h4,h1,h2,h5,h6,h7,E.load,E.strip,E.calm,h8,idxOf,hp]
theorem aoN{f:Nat}(hT:T f=some (vT E.ag E.w))(hl:l.length≤9223372036854775807)(ht:rE T fv E.val p l){σ:SK}:
  bw T (.call false f [.aK l.length (l.flatMap E.enc),fv] σ)=some (.val (.int .i64 (idxOf p l)) σ):=by
 refine aD hT (vT.eq_1 _ _) rfl ?_;have h:=T5 E hl ht (σ:=[]::σ) l.length 0 (by simp);obtain⟨h1,h2,h3⟩:=ht;simp[h1,h2];refine WL.mono (by simpa using h) ?_;rintro x e σ' ⟨rfl,h10⟩
 try simp only[aS]at h10
 by_cases h11:idxOf p l<0
 ·rw[if_pos h11]at h10;subst h10;have:idxOf p l = -1:=by
   cases l with
   |nil=>rfl
   |cons a l =>
    simp only[idxOf]at h11 ⊢;split at h11<;>rename_i ha
    ·omega
    ·rw[if_neg ha];split at h11<;>rename_i hb
     ·rw[if_pos hb]
     ·omega
  simp[this]
 ·rw[if_neg h11]at h10;obtain⟨rfl,h12⟩:=h10
  try simp at h12
  simp[h12]
theorem contains_of{f i:Nat}(hT:T f=some (jP i))(hi:T i=some (vT E.ag E.w))(hl:l.length≤9223372036854775807)(ht:rE T fv E.val p l){σ:SK}:
  bw T (.call false f [.aK l.length (l.flatMap E.enc),fv] σ)=some (.val (.bool (sN l p)) σ):=by
 refine aD hT (jP.eq_1 _) rfl ?_;have h:=aoN E hi hl ht (σ:=[]::σ);obtain⟨h1,h2,h3⟩:=ht;have h4:decide (0≤idxOf p l)=sN l p:=by
  unfold sN;have h6:=Kw (p:=p) (l:=l);cases h5:l.any p
  ·have:=h6.2 h5;exact decide_eq_false (by omega)
  ·exact decide_eq_true (by
    have:¬idxOf p l<0:=fun h=>by rw[h6.1 h]at h5;cases h5
    omega)
 simp[h1,h2,h,h4]
theorem agq{g:Nat}(hT:T g=some (Aw E.ag E.w))(ht:rE T fv E.val p l):rE T (.fn g [] [.bE [fv]]) E.val (fun x => !p x) l:=by
 refine rE.fn fun x hx σ=>?_
 obtain⟨h1,h2,h3⟩:=ht;have h6:=h3 x hx ([]::σ);have hc:=E.cells x;have hl:=E.load x;have hs:=E.strip x;have hcm:=E.calm x;generalize E.ag=ag at *
 cases ag with
 |true =>
  refine aD hT (Aw.eq_1 _) rfl ?_;simp[h1,h2,h6,hc,hl,hs,hcm]
 |false =>
  refine aD hT (Aw.eq_2 _) rfl ?_;simp[h1,h2,h6,hc,hl,hs,hcm]
theorem Ca{f g h i:Nat}(hf:T f=some (IN g h))(hg:T g=some (Aw E.ag E.w))(hh:T h=some (jP i))(hi:T i=some (vT E.ag E.w))
  (hl:l.length≤9223372036854775807) (ht:rE T fv E.val p l) (hcl:fv.cells=some [fv]) {σ:SK}:
  bw T (.call false f [.aK l.length (l.flatMap E.enc),fv] σ)=some (.val (.bool (gW l p)) σ):=by
 refine aD hf (IN.eq_1 _ _) rfl ?_;have h:=contains_of E hh hi hl (agq E hg ht) (σ:=[]::σ);obtain⟨h1,h2,h3⟩:=ht;have h4:(sN l fun x => !p x) = !gW l p:=by
  unfold sN gW;rw[List.all_eq_not_any_not,Bool.not_not]
 simp[h1,h2,h,h4,hcl]
end
variable {T:Ak}
theorem gF{f:Nat}{fn:Fn}{args:List D}{σ σ':SK}{d:D}{np:Nat}{res:List Ih}{body:cZ}(hT:T f=some fn)(hf:fn=⟨np,res,body⟩)(hl:args.length=np)(hs:σ'.length=σ.length)
  (h:WC (bw T) body (oH 0 args) ([]::σ) (ahS σ' res d)):
  bw T (.call false f args σ)=some (.val d σ'):=by
 subst hf;obtain⟨x,e1,σ1,h1,h2,h2',ds,h3,s,h4⟩:=h;refine iq ?_;rw[hs,ajN]at h4;simp only[dA,hT,if_pos hl,aB,if_false,h1];cases x with
 |exit i=>exact absurd rfl (h2 i)
 |fU d=>exact absurd rfl (h2' d)
 |normal=>simp[h3,h4]
 |ret=>simp[h3,h4]
def okX:Exit→Prop
 |.normal=>True
 |.ret=>True
 |_=>False
@[simp] theorem aDq:okX .ret=True:=ah rfl
theorem yi{f:Nat}{fn:Fn}{args:List D}{σ σ':SK}{d:D}{np:Nat}{res:List Ih}{body:cZ}(hT:T f=some fn)(hf:fn=⟨np,res,body⟩)(hl:args.length=np)
  (h:WC (bw T) body (oH 0 args) σ fun x e σ1=>okX x∧(BB e σ1 res).map vo=some d∧σ1=σ'):
  bw T (.call true f args σ)=some (.val d σ'):=by
 subst hf;obtain⟨x,e1,σ1,h1,h2,h3,rfl⟩:=h;refine iq ?_;simp only[ad]at h3;obtain⟨ds,h3,rfl⟩:=h3;simp only[dA,hT,if_pos hl,if_true,h1];cases x with
 |exit i=>exact h2.elim
 |fU d=>exact h2.elim
 |normal=>simp[h3]
 |ret=>simp[h3]
inductive Ad (T:Ak) (l i:Nat) {α:Type} (f:α→List D):List α→SK→Bool→SK→Prop
 |nil (σ:SK):Ad T l i f [] σ true σ
 |go (a:α) (xs:List α) (σ σ1 σ2:SK) (b:Bool):bw T (.round l i (f a) σ)=some (.val (.bool true) σ1)→Ad T l i f xs σ1 b σ2→Ad T l i f (a::xs) σ b σ2
 |stop (a:α) (xs:List α) (σ σ1:SK):bw T (.round l i (f a) σ)=some (.val (.bool false) σ1)→Ad T l i f (a::xs) σ false σ1
theorem Ad.split{l i:Nat}{α:Type}{f:α→List D}:∀{xs bs:List α} {σ σ':SK} {b:Bool},Ad T l i f (xs++bs) σ b σ' →
  (∃σ1,Ad T l i f xs σ true σ1∧Ad T l i f bs σ1 b σ')∨(b=false∧Ad T l i f xs σ false σ')
 |[],bs,σ,σ',b,h => .inl ⟨σ,.nil σ,h⟩
 |a::xs,bs,σ,σ',b,h=>by
  cases h with
  |go _ _ _ σ1 _ _ h1 h2 =>
   rcases Ad.split h2 with⟨σ3,h3,h4⟩ | ⟨rfl,h3⟩
   ·exact .inl ⟨σ3,.go _ _ _ _ _ _ h1 h3,h4⟩
   ·exact .inr ⟨rfl,.go _ _ _ _ _ _ h1 h3⟩
  |stop _ _ _ _ h1=>exact .inr ⟨rfl,.stop _ _ _ _ h1⟩
theorem agn{live:List Nat}{fo:bM}{params:List Nat}{Cb body:cZ}{e:Env}{s:List aG}{σ σ2:SK}{Q:Exit→Env→SK→Prop}{g:Nat}{first cap:List D}{d:D}{lp:yu}
  (hf:bh e fo=.fn g first cap)
  (hc:bw T (.call false g (first++[.nO σ.length s.length]++cap) ((s++[.loop {state:=0,ym:=none,env:=zm live e,params,Cb,body }])::σ))=some (.val d σ2))
  (hb:ei σ2 σ.length s.length=some (.loop lp)) (hs:lp.state≠1)
  (hq:Q (lp.ym.getD .normal) (restrict live e) (aX σ2 σ.length s.length (.loop {lp with state:=3 }))):
  WC (bw T) (.afH live fo params Cb body) e (s::σ) Q:=by
 refine⟨_,_,_,?_,hq⟩;simp only[aZ,ix,hf,K2,hc,R.bg,hb,if_neg hs]
def H3:Option aG→Option yu
 |some (.loop lp)=>some lp
 |_=>none
@[simp] theorem ast{lp:yu}:H3 (some (.loop lp))=some lp:=ah rfl
theorem zP{o:Option aG}{lp:yu}(h:H3 o=some lp):o=some (.loop lp):=by
 cases o with
 |none=>cases h
 |some b=>cases b<;>cases h;rfl
def atK(l i:Nat)(b:Bool)(σ':SK)(x:Exit)(σ2:SK):Prop :=
 match x with
 |.fU _=>False
 |.normal=>WD (H3 (ei σ2.tail l i)) fun lp2=>aX σ2.tail l i (.loop {lp2 with state:=0,ym:=none })=σ'∧b=true
 |x=>WD (H3 (ei σ2.tail l i)) fun lp2=>aX σ2.tail l i (.loop {lp2 with state:=2,ym:=some x })=σ'∧b=false
@[simp] theorem asj{l i:Nat}{b:Bool}{σ':SK}{s2:List aG}{σ3:SK}:atK l i b σ' .normal (s2::σ3)=WD (H3 (ei σ3 l i)) fun lp2=>aX σ3 l i (.loop {lp2 with state:=0,ym:=none })=σ'∧b=true:=ah rfl
@[simp] theorem ayC{l i j:Nat}{b:Bool}{σ':SK}{s2:List aG}{σ3:SK}:atK l i b σ' (.exit j) (s2::σ3)=WD (H3 (ei σ3 l i)) fun lp2=>aX σ3 l i (.loop {lp2 with state:=2,ym:=some (.exit j) })=σ'∧b=false:=ah rfl
def aia(T:Ak)(l i:Nat)(b:Bool)(σ':SK)(n:Nat)(body:cZ)(x:Exit)(e1:Env)(σ1:SK)(_m:Mark body:=.mk):Prop :=
 x=.normal∧WD (H3 (ei σ1 l i)) fun lp1=>lp1.state=0∧WC (bw T) body e1 (aX σ1 l i (.loop {lp1 with state:=1 })) fun x _ σ2=>σ2.length=n∧atK l i b σ' x σ2
theorem Ur{l i:Nat}{args:List D}{σ σ':SK}{b:Bool}{lp:yu}(hb:ei σ l i=some (.loop lp))(hl:args.length=lp.params.length)
  (h:WC (bw T) lp.Cb (CB lp.params args lp.env) ([]::σ) (aia T l i b σ' (σ.length+1) lp.body)):
  bw T (.round l i args σ)=some (.val (.bool b) σ'):=by
 obtain⟨x,e1,σ1,h1,rfl,lp1,h2,h3,x2,e2,σ2,h4,hlen,h6⟩:=h;have h2:=zP h2;cases σ2 with
 |nil=>simp at hlen
 |cons s2 σ3 =>
 refine iq ?_;simp only[dA,hb,if_pos hl,h1,h2,if_pos h3,h4];cases x2 with
 |normal=>obtain⟨lp2,h5,h6,rfl⟩:=h6;have h5:=zP h5;dsimp only [List.tail]at h5 h6 ⊢;rw[h5];dsimp only;rw[h6]
 |exit j=>obtain⟨lp2,h5,h6,rfl⟩:=h6;have h5:=zP h5;dsimp only [List.tail]at h5 h6 ⊢;rw[h5];dsimp only;rw[h6]
 |ret=>obtain⟨lp2,h5,h6,rfl⟩:=h6;have h5:=zP h5;dsimp only [List.tail]at h5 h6 ⊢;rw[h5];dsimp only;rw[h6]
 |fU d=>exact h6.elim
@[simp] theorem asz{t:Nat}{ts:List Nat}{d:D}{ds:List D}{e:Env}:CB (t::ts) (d::ds) e=CB ts ds ((t,d)::e):=ah rfl
@[simp] theorem axz{ds:List D}{e:Env}:CB [] ds e=e:=ah (by cases ds<;>rfl)
@[simp] theorem ayq{e:Env}:zm [] e=[]:=ah rfl
@[simp] theorem asS{t:Nat}{l:List Nat}{e:Env}:zm (t::l) e=(t,(get e t).strip)::zm l e:=ah rfl
variable {T:Ak}
def ahX(vs:List Nat)(v:Nat)(d:D)(e:Env)(σ:SK):Env×SK :=
 match d with
 |.sl l i u off m w=>wo vs ((v,(cI 0 deep (.sl l i u off m w) σ).1)::e) (cI 0 deep (.sl l i u off m w) σ).2
 |.own s cs=>wo vs ((v,.own s (cI.frzL (cI 0 deep) cs σ).1)::e) (cI.frzL (cI 0 deep) cs σ).2
 |.agg cs=>wo vs ((v,.agg (cs.map D.yh))::e) σ
 |.undef=>if 1000000≤v then wo vs (OG (v-1000000) e σ).1 (OG (v-1000000) e σ).2 else wo vs e σ
 |_=>wo vs e σ
@[simp] theorem aBj{e:Env}{σ:SK}:wo [] e σ=(e,σ):=ah rfl
@[simp] theorem ayL{v:Nat}{vs:List Nat}{e:Env}{σ:SK}:wo (v::vs) e σ=ahX vs v (get e v) e σ:=by
 simp only[wo,ahX];cases get e v<;>rfl
@[simp] theorem aDg{v:Nat}{vs:List Nat}{e:Env}{σ:SK}{l i u off m w:Nat}:ahX vs v (.sl l i u off m w) e σ =
  wo vs ((v,(cI 0 deep (.sl l i u off m w) σ).1)::e) (cI 0 deep (.sl l i u off m w) σ).2:=ah rfl
@[simp] theorem aBf{v:Nat}{vs:List Nat}{e:Env}{σ:SK}{s:Nat}{cs:List D}:ahX vs v (.own s cs) e σ =
  wo vs ((v,.own s (cI.frzL (cI 0 deep) cs σ).1)::e) (cI.frzL (cI 0 deep) cs σ).2:=ah rfl
@[simp] theorem aBe{v:Nat}{vs:List Nat}{e:Env}{σ:SK}{cs:List D}:ahX vs v (.agg cs) e σ=wo vs ((v,.agg (cs.map D.yh))::e) σ:=ah rfl
@[simp] theorem azQ{k:IntKind}{n:Int}:D.yh (.int k n)=.int k n:=ah rfl
@[simp] theorem azR{n:Nat}{cs:List D}:D.yh (.aK n cs)=.aK n cs:=ah rfl
def afl(v:Nat)(d:D)(e:Env)(σ:SK):Env×SK :=
 match d with
 |.aH=>((v,.aK 0 [])::e,σ)
 |.ref l i u 0=>((v,(I9 l i u σ).1)::e,(I9 l i u σ).2)
 |.own s cs=>((v,.own s (cs.map D.yh))::e,σ)
 |_=>(e,σ)
@[simp] theorem aDh{v:Nat}{e:Env}{σ:SK}:OG v e σ=afl v (get e v) e σ:=rfl
@[simp] theorem ayK{v:Nat}{e:Env}{σ:SK}:afl v .aH e σ=((v,.aK 0 [])::e,σ):=ah rfl
@[simp] theorem aBg{v n:Nat}{cs:List D}{e:Env}{σ:SK}:afl v (.aK n cs) e σ=(e,σ):=ah rfl
@[simp] theorem aBi{v l i u:Nat}{e:Env}{σ:SK}:afl v (.ref l i u 0) e σ=((v,(I9 l i u σ).1)::e,(I9 l i u σ).2):=ah rfl
@[simp] theorem aBh{v s:Nat}{cs:List D}{e:Env}{σ:SK}:afl v (.own s cs) e σ=((v,.own s (cs.map D.yh))::e,σ):=ah rfl
@[simp] theorem azS{s:List UInt8}:D.yh (.str s)=.str s:=ah rfl
@[simp] theorem get_none{t:Nat}:get [] t=.undef:=ah rfl
@[simp] theorem axf{v:Nat}{vs:List Nat}{e:Env}{σ:SK}:ahX vs v .undef e σ=if 1000000≤v then wo vs (OG (v-1000000) e σ).1 (OG (v-1000000) e σ).2 else wo vs e σ:=ah rfl
def aHH(l n m off w:Nat)(σ:SK)(s:D):Option (List D)→D×SK
 |some cs=>(.aK m (cI.frzL (cI l n) ((cs.drop off).take (m*w)) σ).1,(cI.frzL (cI l n) ((cs.drop off).take (m*w)) σ).2)
 |none=>(.undef,σ)
theorem aoE{L i u off m w:Nat}{σ:SK}{cs:List D}(hL:0<L)(hc:cells? σ L i u=some cs):
  cI 0 16 (.sl L i u off m w) σ=(.aK m (cI.frzL (cI 0 15) ((cs.drop off).take (m*w)) (aX σ L i .dead)).1,(cI.frzL (cI 0 15) ((cs.drop off).take (m*w)) (aX σ L i .dead)).2):=by
 exact HW (by omega) hc (by omega)
theorem aq2{σ:SK}(hσ:σ≠[]){bs:List aG}{i u m w:Nat}{cs:List D}(hb:bs[i]?=some (.cells u cs))(hcl:D.bD cs=true)(hlen:cs.length=m*w):
  cI 0 16 (.sl σ.length i u 0 m w) (bs::σ)=(.aK m cs,bs.set i .dead::σ):=by
 have h:=aV.2 hσ;rw[aoE h (cs:=cs) (by simp[hb])];simp[← hlen,hcl,ar]
theorem Sa{α:Type}{f:α→List D}{w:Nat}(hw:∀x,(f x).length=w)(l:List α):(l.flatMap f).take (l.length*w)=l.flatMap f :=
 ar (by rw[bV hw];exact aL _)
theorem ir{α:Type}{f:α→List D}(h:∀x,D.bD (f x)=true)(l:List α):D.bD (l.flatMap f)=true:=by
 have app:∀a b:List D,D.bD (a++b)=(D.bD a && D.bD b):=by
  intro a b;induction a with
  |nil=>simp
  |cons x a ih=>simp[ih,Bool.and_assoc]
 induction l with
 |nil=>simp
 |cons a l ih=>simp[app,h,ih]
theorem zL{α:Type}{f:α→List D}{w:Nat}(hw:∀x,(f x).length=w)(hc:∀x,D.bD (f x)=true){l:List α}{j v:Nat}{bs:List aG}{σ:SK}(hσ:σ≠[])(hj:bs[j]?=some (.cells v (l.flatMap f))):
  cI (σ.length-1) 16 (.sl σ.length j v 0 l.length w) (bs::σ)=(.aK l.length (l.flatMap f),bs.set j .dead::σ):=by
 have h3:¬σ.length≤σ.length-1:=by have:=aV.2 hσ;omega
 rw[HW h3 (cs:=l.flatMap f) (by simp[hj]) (by omega)];simp[Sa hw l,ir hc l]
theorem Ji{α:Type}{f:α→List D}{w:Nat}(hw:∀x,(f x).length=w)(hc:∀x,D.bD (f x)=true){l:List α}{j v:Nat}{bs:List aG}{σ:SK}(hσ:σ≠[])(hj:bs[j]?=some (.cells v (l.flatMap f))):
  cI 0 16 (.sl σ.length j v 0 l.length w) (bs::σ)=(.aK l.length (l.flatMap f),bs.set j .dead::σ) :=
 aq2 hσ hj (ir hc l) (bV hw l)
theorem agL{α:Type}{f:α→List D}{w:Nat}(hw:∀x,(f x).length=w):∀{l:List α} {i:Nat} {x:α},i<l.length→(l.flatMap f).take (i*w)++(f x++(l.flatMap f).drop (i*w+w))=(l.set i x).flatMap f
 |[],i,x,h=>by simp at h
 |a::l,0,x,h=>by
  have h1:=hw a;simp only[Nat.zero_mul,List.take_zero,aY,ba,List.set_cons_zero,db];rw[← h1,List.drop_left]
 |a::l,i+1,x,h=>by
  have h1:=hw a;have ih:=agL (l:=l) (i:=i) (x:=x) hw (by simpa using h);simp only[ba,List.set_cons_succ];rw[← ih,show(i+1)*w=w+i*w by rw[eV];omega,← h1,List.take_length_add_append,kT,show(f a).length+i*(f a).length+(f a).length=(f a).length+(i*(f a).length+(f a).length)by omega,cY]
theorem HZ{α:Type}{f:α→List D}{w:Nat}(hw:∀x,(f x).length=w):∀{l:List α} {i:Nat} {x:α},l[i]?=some x→(l.flatMap f).drop (i*w)=f x++(l.flatMap f).drop (i*w+w)
 |[],i,x,h=>by simp at h
 |a::l,0,x,h=>by
  simp at h;subst h;have h1:=hw a;simp only[Nat.zero_mul,aS,ba,db];rw[← h1,List.drop_left]
 |a::l,i+1,x,h=>by
  have h1:=hw a;have ih:=HZ (l:=l) (i:=i) (x:=x) hw (by simpa using h);simp only[ba];rw[show(i+1)*w=w+i*w by rw[eV];omega,← h1,cY,show(f a).length+i*(f a).length+(f a).length=(f a).length+(i*(f a).length+(f a).length)by omega,cY,h1,ih]
@[simp] theorem aBd{l:Nat}{σ:SK}:tS l [] σ=([],σ):=ah rfl
@[simp] theorem ayJ{l t:Nat}{d:D}{e:Env}{σ:SK}:tS l ((t,d)::e) σ=((t,(cI l deep d σ).1)::(tS l e (cI l deep d σ).2).1,(tS l e (cI l deep d σ).2).2):=ah rfl
def agU(T:Ak)(live:List Nat)(c:cZ)(n:Nat)(Q:Exit→Env→SK→Prop)(_m:Mark c:=.mk)(_m':Mark Q:=.mk):Exit→Env→SK→Prop
 |.normal,e,σ=>WL T live true c (tS n (restrict live e) σ).1 (tS n (restrict live e) σ).2.tail Q
 |.exit i,e,σ=>Q (.exit i) (tS n (restrict (keys e) e) σ).1 (tS n (restrict (keys e) e) σ).2.tail
 |.ret,e,σ=>Q .ret (tS n (restrict (keys e) e) σ).1 (tS n (restrict (keys e) e) σ).2.tail
 |.fU d,e,σ=>Q (.fU d) (tS n (restrict (keys e) e) σ).1 (tS n (restrict (keys e) e) σ).2.tail
@[simp,simp ↓] theorem arw{live:List Nat}{c:cZ}{n:Nat}{Q:Exit→Env→SK→Prop}{e:Env}{σ:SK}:agU T live c n Q .mk .mk .normal e σ=WL T live true c (tS n (restrict live e) σ).1 (tS n (restrict live e) σ).2.tail Q:=ah rfl
@[simp,simp ↓] theorem axs{live:List Nat}{c:cZ}{n i:Nat}{Q:Exit→Env→SK→Prop}{e:Env}{σ:SK}:agU T live c n Q .mk .mk (.exit i) e σ=Q (.exit i) (tS n (restrict (keys e) e) σ).1 (tS n (restrict (keys e) e) σ).2.tail:=ah rfl
@[simp,simp ↓] theorem ayZ{live:List Nat}{c:cZ}{n:Nat}{Q:Exit→Env→SK→Prop}{e:Env}{σ:SK}:agU T live c n Q .mk .mk .ret e σ=Q .ret (tS n (restrict (keys e) e) σ).1 (tS n (restrict (keys e) e) σ).2.tail:=ah rfl
theorem Iw{live:List Nat}{c c':cZ}{e:Env}{σ:SK}{Q:Exit→Env→SK→Prop}(hc:c=c')(h:WC (bw T) c' (restrict live e) ([]::σ) (agU T live c (σ.length-1) Q .mk .mk)):WL T live true c e σ Q:=by
 rw[← hc]at h;obtain⟨x,e1,σ1,h1,h2⟩:=h;cases x with
 |normal =>
  obtain⟨x,e',σ',h3,h4⟩:=h2;exact⟨x,e',σ',iq (by simp[dA,h1,AL,h3]),h4⟩
 |exit i=>exact⟨_,_,_,iq (by simp[dA,h1,AL]),h2⟩
 |ret=>exact⟨_,_,_,iq (by simp[dA,h1,AL]),h2⟩
 |fU d=>exact⟨_,_,_,iq (by simp[dA,h1,AL]),h2⟩
@[simp] theorem keys_nil:keys []=[]:=ah rfl
@[simp] theorem keys_cons{t:Nat}{d:D}{e:Env}:keys ((t,d)::e)=t::keys (e.filter fun p => !(p.1 == t)):=by
 simp only[keys,aj,List.eraseDups_cons,List.filter_map];rfl
end Go.Abs
namespace Go.Abs
def qo(d:Nat)(k:K):Op:=⟨some d,none,false,k⟩
def qO(d:Nat)(k:K):Op:=⟨some d,none,true,k⟩
def qm(d x:Nat):Op:=⟨some d,none,false,.mv (.t x)⟩
def qM(d x:Nat):Op:=⟨some d,none,true,.mv (.t x)⟩
def qi(d:Nat)(n:Int):Op:=⟨some d,none,false,.mv (.c (.int .i64 n))⟩
def qb(d:Nat)(b:Bool):Op:=⟨some d,none,false,.mv (.c (.bool b))⟩
def qf(d o x:Nat):Op:=⟨some d,none,false,.OF o (.t x)⟩
def qF(d o x:Nat):Op:=⟨some d,none,true,.OF o (.t x)⟩
def ql(d n x:Nat):Op:=⟨some d,none,false,.ld false n (.t x)⟩
def qL(d n x:Nat):Op:=⟨some d,none,true,.ld false n (.t x)⟩
def qa(d n x:Nat):Op:=⟨some d,none,false,.ld true n (.t x)⟩
def qA(d n x:Nat):Op:=⟨some d,none,true,.ld true n (.t x)⟩
def qv(d v n a:Nat):Op:=⟨some d,none,false,.ldv v false n a⟩
def qV(d v n a:Nat):Op:=⟨some d,none,true,.ldv v false n a⟩
def qw(d v n a:Nat):Op:=⟨some d,none,false,.ldv v true n a⟩
def qW(d v n a:Nat):Op:=⟨some d,none,true,.ldv v true n a⟩
def qx(d x:Nat):Op:=⟨some d,none,false,.Oq (.t x)⟩
def qe(d x:Nat):Op:=⟨some d,none,false,.OJ (.t x)⟩
def qE(d x:Nat):Op:=⟨some d,none,true,.OJ (.t x)⟩
def qj(d w x i:Nat):Op:=⟨some d,none,false,.fJ w (.t x) (.t i)⟩
def qJ(d w x i:Nat):Op:=⟨some d,none,true,.fJ w (.t x) (.t i)⟩
def qk(d:Nat)(o:BinOp)(x y:Nat):Op:=⟨some d,none,false,.bin o (.t x) (.t y)⟩
def qK(d:Nat)(o:BinOp)(x y:Nat):Op:=⟨some d,none,true,.bin o (.t x) (.t y)⟩
def qn(d:Nat)(o:BinOp)(x:Nat)(n:Int):Op:=⟨some d,none,false,.bin o (.t x) (.c (.int .i64 n))⟩
def qN(d:Nat)(o:BinOp)(x:Nat)(n:Int):Op:=⟨some d,none,true,.bin o (.t x) (.c (.int .i64 n))⟩
def qu(d x:Nat):Op:=⟨some d,none,false,.un .not (.t x)⟩
def qp(d c x:Nat):Op:=⟨some d,none,false,.pick (.t c) (.t x) (.c (.bool false))⟩
def qP(d c x:Nat):Op:=⟨some d,none,false,.pick (.t c) (.c (.bool true)) (.t x)⟩
def qs(v n a x:Nat):Op:=⟨none,none,false,.LV v [] n a (.t x)⟩
def qS(v n a x:Nat):Op:=⟨none,none,true,.LV v [] n a (.t x)⟩
def qt(n a x:Nat):Op:=⟨none,none,false,.st [] n (.t a) (.t x)⟩
def qz(d x i:Nat):Op:=⟨some d,none,false,.ext (.t x) i⟩
def qZ(d x i:Nat):Op:=⟨some d,none,true,.ext (.t x) i⟩
def qc(d f:Nat)(a:List Nat):Op:=⟨some d,none,false,.call false (.c (.fn f [] [])) (a.map .t)⟩
def qC(d f:Nat)(a:List Nat):Op:=⟨some d,none,true,.call false (.c (.fn f [] [])) (a.map .t)⟩
def qy(d w b s x:Nat):Op:=⟨some d,none,false,.app w b (.t s) (.t x)⟩
def qg(t:Nat)(b:Bool)(o:Op):Op:=⟨o.dst,some (t,b),o.CY,o.k⟩
structure rA where
 f:Nat
 a:List D
 s:SK
 d:D
 t:SK
def rA.Ok(T:Ak)(m:rA):Prop:=bw T (.call false m.f m.a m.s)=some (.val m.d m.t)
def rA.ask(m:rA):Q→Option R
 |.call false f a σ=>if f=m.f then if a=m.a then if σ=m.s then some (.val m.d m.t)else none else none else none
 |_=>none
theorem rA.Ok.ask{T:Ak}{m:rA}(h:m.Ok T){q:Q}{r:R}(hq:m.ask q=some r):bw T q=some r:=by
 unfold rA.ask at hq;split at hq
 case h_2=>cases hq
 split at hq
 case isFalse=>cases hq
 rename_i h1;split at hq
 case isFalse=>cases hq
 rename_i h2;split at hq
 case isFalse=>cases hq
 rename_i h3;cases hq;rw[h1,h2,h3];exact h
def atA(M:List rA)(q:Q):Option R:=M.findSome? fun m=>m.ask q
def itM(T:Ak)(M:List rA):Nat→bR
 |0=>atA M
 |n+1=>fun q=>match atA M q with
  |some r=>some r
  |none=>dA T (itM T M n) q
theorem ags{T:Ak}{M:List rA}(hM:∀m∈M,m.Ok T){q:Q}{r:R}(h:atA M q=some r):bw T q=some r:=by
 obtain⟨m,h1,h2⟩:=List.exists_of_findSome?_eq_some h;exact(hM m h1).ask h2
theorem agJ{T:Ak}{M:List rA}(hM:∀m∈M,m.Ok T):∀{n:Nat} {q:Q} {r:R},itM T M n q=some r→bw T q=some r
 |0,q,r,h=>ags hM h
 |n+1,q,r,h=>by
  unfold itM at h;split at h
  ·rename_i h1;cases h;exact ags hM h1
  ·exact iq (NO (fun q r=>agJ hM) h)
end Go.Abs
