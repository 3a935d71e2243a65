import Derived.Test.YtklfdfnoebnciaaGreatDoorBase19
import Derived.IntWalk
set_option linter.all false
namespace Go.Abs
open Go
theorem WL.to{T:zO}{live:List Nat}{bk:Bool}{c:cA}{e e':Env}{σ σ':SK}{Q Q':Exit→Env→SK→Prop}(h:WL T live bk c e σ Q)(he:e'=e)(hs:σ'=σ)
  (hq:∀x e σ,Q x e σ→Q' x e σ):WL T live bk c e' σ' Q':=by subst he hs;exact h.mono hq
theorem b9{α:Type}{f:α→List D}{w:Nat}(hw:∀x,(f x).length=w)(l:List α):(l.flatMap f).length=l.length*w:=by
 induction l with
 |nil=>simp
 |cons a l ih=>simp[hw,ih,ew];omega
theorem cj{α:Type}{f:α→List D}{w:Nat}(hw:∀x,(f x).length=w):∀{l:List α} {i:Nat} {x:α},l[i]?=some x→((l.flatMap f).drop (i*w)).take w=f x
 |[],i,x,h=>by simp at h
 |a::l,0,x,h=>by
  simp at h;subst h;simp[← hw a]
 |a::l,i+1,x,h=>by
  have e:(i+1)*w=(f a).length+i*w:=by rw[hw,ew];omega
  rw[aQ,e,List.drop_append];simp only[Nat.add_sub_cancel_left,az (Nat.le_add_right _ _),aV];exact cj hw (by simpa using h)
theorem dh{α:Type}{l:List α}{i:Nat}{x:α}(h:l[i]?=some x):l.drop i=x::l.drop (i+1):=by
 have h1:i<l.length:=(aw.1 h).1;rw[List.drop_eq_getElem_cons h1];rw[aK h1]at h;simp at h;rw[h]
theorem O5{α:Type}{f:α→List D}{w:Nat}(hw:∀x,(f x).length=w){l:List α}{i:Nat}(hi:i≤l.length):((l.take i).flatMap f).take (i*w)=(l.take i).flatMap f:=by
 apply ah;rw[b9 hw];simp only[kT];exact cH _ (Nat.min_le_left _ _)
theorem Bh{α:Type}{f:α→List D}{l:List α}{i:Nat}{x:α}(h:l[i]?=some x):(l.take i).flatMap f++f x=(l.take (i+1)).flatMap f:=by
 rw[List.take_add_one,h];simp
theorem J9{α:Type}{f:α→D}(l:List α):l.flatMap (fun x=>[f x])=l.map f:=by
 induction l with
 |nil=>rfl
 |cons a l ih=>simp[ih]
theorem fK{n:Int}(h : -9223372036854775808≤n∧n≤9223372036854775807):IntKind.i64.wrap n=n:=IntWalk.i64_in n h
@[simp] theorem avZ:IntKind.i64.wrap 0=0:=by decide
@[simp] theorem av0:IntKind.i64.wrap 1=1:=by decide
@[simp] theorem av1:IntKind.i64.wrap 2=2:=by decide
@[simp] theorem av2:IntKind.i64.wrap 3=3:=by decide
@[simp] theorem av3:IntKind.i64.wrap 4=4:=by decide
theorem wu8{n:Int}(h:0≤n∧n≤255):IntKind.u8.wrap n=n:=IntWalk.u8_in n h
theorem ga{i n:Nat}(h:i<n)(hn:n≤9223372036854775807):IntKind.i64.wrap ((i:Int)+1)=((i+1:Nat):Int):=by
 rw[fK (by omega)];rfl
variable {T:zO}
def idxOf{α:Type}(p:α→Bool):List α→Int
 |[] => -1
 |x::l=>if p x then 0 else if idxOf p l<0 then -1 else idxOf p l+1
theorem Ec{α:Type}{p:α→Bool}:∀{l:List α},idxOf p l<0↔l.any p=false
 |[]=>by simp[idxOf]
 |x::l=>by
  have ih:=Ec (p:=p) (l:=l);simp only[idxOf,List.any_cons];cases h:p x
  ·simp only[ar,if_false,Bool.false_or];by_cases h1:idxOf p l<0
   ·rw[if_pos h1,ih.1 h1];decide
   ·rw[if_neg h1];have h2:¬l.any p=false:=fun h=>h1 (ih.2 h)
    exact⟨fun h3=>absurd h3 (by omega),fun h3=>absurd h3 h2⟩
  ·simp
def gw{α:Type}(l:List α)(p:α→Bool):Bool:=l.all p
def su{α:Type}(l:List α)(p:α→Bool):Bool:=l.any p
theorem jv{α:Type}{l:List α}{p:α→Bool}:gw l p=true↔∀x∈l,p x=true:=by simp[gw]
theorem JT{α:Type}{l:List α}{p:α→Bool}:su l p=true↔∃x∈l,p x=true:=by simp[su]
def pw(T:zO){α:Type}(fv:D)(val:α→D)(p:α→Bool)(l:List α):Prop :=
 fv.strip=fv∧fv.calm=fv∧∀x∈l,∀σ,oU (lim T) false fv [val x] σ=some (.bool (p x),σ)
theorem pw.fn{α:Type}{f:Nat}{first cap:List D}{val:α→D}{p:α→Bool}{l:List α}
  (h:∀x∈l,∀σ,lim T (.call false f (first++[val x]++cap) σ)=some (.val (.bool (p x)) σ)):pw T (.fn f first cap) val p l :=
 ⟨rfl,rfl,fun x hx σ=>by rw[rK,h x hx σ];rfl⟩
structure Elt(α:Type) where
 ag:Bool
 w:Nat
 enc:α→List D
 val:α→D
 len:∀x,(enc x).length=w
 load:∀x,K5 ag w (some (enc x))=some (val x)
 strip:∀x,(val x).strip=val x
 calm:∀x,(val x).calm=val x
 cells:∀x,(val x).cells=some (enc x)
def IP(k:IntKind):Elt Int:=⟨false,1,fun n=>[.int k n],fun n => .int k n,fun _=>rfl,fun _=>by simp,fun _=>rfl,fun _=>rfl,fun _=>rfl⟩
def aub:Elt Bool:=⟨false,1,fun n=>[.bool n],fun n => .bool n,fun _=>rfl,fun _=>by simp,fun _=>rfl,fun _=>rfl,fun _=>rfl⟩
def wD{α:Type}(w:Nat)(enc:α→List D)(h:∀x,(enc x).length=w):Elt α :=
 ⟨true,w,enc,fun x => .agg (enc x),h,fun x=>by simp[h,ah],fun _=>rfl,fun _=>rfl,fun _=>rfl⟩
section index
variable (ag:Bool) (w:Nat)
def Gn:cA :=
 (.seq (.cm [0,1,7,8,9] [⟨some 9,none,false,.bin .lss (.t 8) (.t 7)⟩]) (.seq (.ite (.t 9) .ep (.exit 0)) (.seq (.bL 1 (.seq (.cm [0,1,5,7,8] [
 ⟨some 10,none,false,.mv (.t 8)⟩,
 ⟨some 5,none,false,.mv (.t 10)⟩]) (.seq (.cm [0,1,5,7,8,16] [
 ⟨some 11,none,false,.mv (.t 1)⟩,
 ⟨some 12,none,false,.mv (.t 0)⟩,
 ⟨some 13,none,false,.mv (.t 5)⟩,
 ⟨some 14,none,false,.eI w (.t 12) (.t 13)⟩,
 ⟨some 15,none,false,.ld ag w (.t 14)⟩,
 ⟨some 16,none,false,.call false (.t 11) [(.t 15)]⟩]) (.ite (.t 16) (.seq (.cm [4] [
 ⟨some 17,none,false,.mv (.t 5)⟩,
 ⟨some 4,none,false,.mv (.t 17)⟩]) .ret) .ep)))) (.cm [0,1,7,8] [
 ⟨some 18,none,false,.bin .add (.t 8) (.c (.int .i64 1))⟩,
 ⟨some 8,none,false,.mv (.t 18)⟩]))))
def um:Fn:=⟨2,[.t 4],
 (.seq (.cm [0,1] [⟨some 4,none,false,.mv (.c (.int .i64 0))⟩]) (.seq (.seq (.cm [0,1,7,8] [
 ⟨some 6,none,false,.mv (.t 0)⟩,
 ⟨some 7,none,false,.Hh (.t 6)⟩,
 ⟨some 8,none,false,.mv (.c (.int .i64 0))⟩]) (.bL 0 (.loop [0,1,7,8] false (Gn ag w)))) (.seq (.cm [4] [
 ⟨some 4,none,false,.mv (.c (.int .i64 (-1)))⟩]) .ret)))⟩
def iR(i:Nat):Fn:=⟨2,[.t 4],
 (.seq (.cm [0,1] [⟨some 4,none,false,.mv (.c (.bool false))⟩]) (.seq (.cm [4] [
 ⟨some 5,none,false,.mv (.t 0)⟩,
 ⟨some 6,none,false,.mv (.t 1)⟩,
 ⟨some 7,none,false,.call false (.c (.fn i [] [])) [(.t 5),(.t 6)]⟩,
 ⟨some 8,none,false,.bin .geq (.t 7) (.c (.int .i64 0))⟩,
 ⟨some 4,none,false,.mv (.t 8)⟩]) .ret))⟩
def C7(g h:Nat):Fn:=⟨2,[.t 4],
 (.seq (.cm [0,3] [
 ⟨some 3,none,false,.G9 (.t 1)⟩,
 ⟨some 4,none,false,.mv (.c (.bool false))⟩]) (.seq (.cm [4] [
 ⟨some 5,none,false,.mv (.t 0)⟩,
 ⟨some 6,none,false,.xf g [] [(.t 3)]⟩,
 ⟨some 7,none,false,.call false (.c (.fn h [] [])) [(.t 5),(.t 6)]⟩,
 ⟨some 8,none,false,.un .not (.t 7)⟩,
 ⟨some 4,none,false,.mv (.t 8)⟩]) .ret))⟩
def yd:Bool→Nat→Fn
 |true,w=>⟨2,[.t 3],
 (.seq (.cm [1,2] [
 ⟨some 2,none,false,.G9 (.t 0)⟩,
 ⟨some 3,none,false,.mv (.c (.bool false))⟩]) (.seq (.cm [3] [
 ⟨some 4,none,false,.ld false 1 (.t 1)⟩,
 ⟨some 5,none,false,.ld true w (.t 2)⟩,
 ⟨some 6,none,false,.call false (.t 4) [(.t 5)]⟩,
 ⟨some 7,none,false,.un .not (.t 6)⟩,
 ⟨some 3,none,false,.mv (.t 7)⟩]) .ret))⟩
 |false,_=>⟨2,[.t 3],
 (.seq (.cm [0,1] [
 ⟨some 3,none,false,.mv (.c (.bool false))⟩]) (.seq (.cm [3] [
 ⟨some 4,none,false,.ld false 1 (.t 1)⟩,
 ⟨some 5,none,false,.mv (.t 0)⟩,
 ⟨some 6,none,false,.call false (.t 4) [(.t 5)]⟩,
 ⟨some 7,none,false,.un .not (.t 6)⟩,
 ⟨some 3,none,false,.mv (.t 7)⟩]) .ret))⟩
end index
section
variable {α:Type} (E:Elt α) {p:α→Bool} {fv:D} {l:List α}
theorem Kp(hl:l.length≤9223372036854775807)(ht:pw T fv E.val p l){σ:SK}:∀(m i:Nat),i+m=l.length →
  WL T [0,1,7,8] false (Gn E.ag E.w) [(0,.aE l.length (l.flatMap E.enc)),(1,fv),(7,.int .i64 l.length),(8,.int .i64 i)] σ
   (fun x e σ'=>σ'=σ∧if idxOf p (l.drop i)<0 then x=.exit 0 else x=.ret∧get e 4=.int .i64 (i+idxOf p (l.drop i)))
 |0,i,hi=>by
  obtain⟨h1,h2,h3⟩:=ht;refine aH (Gn.eq_1 _ _) ?_;have:¬i<l.length:=by omega
  have h5:l.drop i=[]:=by simp;omega
  simp[this,h1,h2,h5,idxOf]
 |m+1,i,hi=>by
  have ih:=Kp hl ht (σ:=σ) m (i+1) (by omega);obtain⟨h1,h2,h3⟩:=ht;refine aH (Gn.eq_1 _ _) ?_;have h4:i<l.length:=by omega
  obtain⟨x,hx⟩:=gE h4;have h5:=cj (f:=E.enc) E.len hx;have h6:=h3 x (ai hx) σ;have h7:=ga h4 hl;have h8:l.drop i=x::l.drop (i+1):=by
   rw[List.drop_eq_getElem_cons h4];rw[aK h4]at hx;simp at hx;rw[hx]
  cases hp:p x
  ·rw[hp]at h6;simp[h4,h1,h2,h5,h6,h7,E.load,E.strip,E.calm];refine WL.mono (by simpa using ih) ?_;rintro x e σ' ⟨h9,h10⟩;refine⟨h9,?_⟩;rw[h8];simp only[idxOf,hp,ar,if_false];by_cases h11:idxOf p (l.drop (i+1))<0
   ·simpa[h11]using h10
   ·rw[if_neg h11]at h10;rw[if_neg h11,if_neg (by omega)];refine⟨h10.1,?_⟩;rw[h10.2];congr 1;push_cast;omega
  ·rw[hp]at h6;simp[h4,h1,h2,h5,h6,h7,E.load,E.strip,E.calm,h8,idxOf,hp]
theorem aaa{f:Nat}(hT:T f=some (um E.ag E.w))(hl:l.length≤9223372036854775807)(ht:pw T fv E.val p l){σ:SK}:
  lim T (.call false f [.aE l.length (l.flatMap E.enc),fv] σ)=some (.val (.int .i64 (idxOf p l)) σ):=by
 refine au hT (um.eq_1 _ _) rfl ?_;have h:=Kp E hl ht (σ:=[]::σ) l.length 0 (by simp);obtain⟨h1,h2,h3⟩:=ht;simp[h1,h2];refine WL.mono (by simpa using h) ?_;rintro x e σ' ⟨rfl,h10⟩
 try simp only[aJ]at h10
 by_cases h11:idxOf p l<0
 ·rw[if_pos h11]at h10;subst h10;have:idxOf p l = -1:=by
   cases l with
   |nil=>rfl
   |cons a l =>
    simp only[idxOf]at h11 ⊢;split at h11<;>rename_i ha
    ·omega
    ·rw[if_neg ha];split at h11<;>rename_i hb
     ·rw[if_pos hb]
     ·omega
  simp[this]
 ·rw[if_neg h11]at h10;obtain⟨rfl,h12⟩:=h10
  try simp at h12
  simp[h12]
theorem contains_of{f i:Nat}(hT:T f=some (iR i))(hi:T i=some (um E.ag E.w))(hl:l.length≤9223372036854775807)(ht:pw T fv E.val p l){σ:SK}:
  lim T (.call false f [.aE l.length (l.flatMap E.enc),fv] σ)=some (.val (.bool (su l p)) σ):=by
 refine au hT (iR.eq_1 _) rfl ?_;have h:=aaa E hi hl ht (σ:=[]::σ);obtain⟨h1,h2,h3⟩:=ht;have h4:decide (0≤idxOf p l)=su l p:=by
  unfold su;have h6:=Ec (p:=p) (l:=l);cases h5:l.any p
  ·have:=h6.2 h5;exact decide_eq_false (by omega)
  ·exact decide_eq_true (by
    have:¬idxOf p l<0:=fun h=>by rw[h6.1 h]at h5;cases h5
    omega)
 simp[h1,h2,h,h4]
theorem MX{g:Nat}(hT:T g=some (yd E.ag E.w))(ht:pw T fv E.val p l):pw T (.fn g [] [.bw [fv]]) E.val (fun x => !p x) l:=by
 refine pw.fn fun x hx σ=>?_
 obtain⟨h1,h2,h3⟩:=ht;have h6:=h3 x hx ([]::σ);have hc:=E.cells x;have hl:=E.load x;have hs:=E.strip x;have hcm:=E.calm x;generalize E.ag=ag at *
 cases ag with
 |true =>
  refine au hT (yd.eq_1 _) rfl ?_;simp[h1,h2,h6,hc,hl,hs,hcm]
 |false =>
  refine au hT (yd.eq_2 _) rfl ?_;simp[h1,h2,h6,hc,hl,hs,hcm]
theorem ze{f g h i:Nat}(hf:T f=some (C7 g h))(hg:T g=some (yd E.ag E.w))(hh:T h=some (iR i))(hi:T i=some (um E.ag E.w))
  (hl:l.length≤9223372036854775807) (ht:pw T fv E.val p l) (hcl:fv.cells=some [fv]) {σ:SK}:
  lim T (.call false f [.aE l.length (l.flatMap E.enc),fv] σ)=some (.val (.bool (gw l p)) σ):=by
 refine au hf (C7.eq_1 _ _) rfl ?_;have h:=contains_of E hh hi hl (MX E hg ht) (σ:=[]::σ);obtain⟨h1,h2,h3⟩:=ht;have h4:(su l fun x => !p x) = !gw l p:=by
  unfold su gw;rw[List.all_eq_not_any_not,Bool.not_not]
 simp[h1,h2,h,h4,hcl]
end
variable {T:zO}
theorem fU{f:Nat}{fn:Fn}{args:List D}{σ σ':SK}{d:D}{np:Nat}{res:List CO}{body:cA}(hT:T f=some fn)(hf:fn=⟨np,res,body⟩)(hl:args.length=np)(hs:σ'.length=σ.length)
  (h:WC (lim T) body (mR 0 args) ([]::σ) (O2 σ' res d)):
  lim T (.call false f args σ)=some (.val d σ'):=by
 subst hf;obtain⟨x,e1,σ1,h1,h2,h2',ds,h3,s,h4⟩:=h;refine gX ?_;rw[hs,Q7]at h4;simp only[da,hT,if_pos hl,ar,if_false,h1];cases x with
 |exit i=>exact absurd rfl (h2 i)
 |fx d=>exact absurd rfl (h2' d)
 |normal=>simp[h3,h4]
 |ret=>simp[h3,h4]
def okX:Exit→Prop
 |.normal=>True
 |.ret=>True
 |_=>False
@[simp] theorem auo:okX .ret=True:=aA rfl
theorem vR{f:Nat}{fn:Fn}{args:List D}{σ σ':SK}{d:D}{np:Nat}{res:List CO}{body:cA}(hT:T f=some fn)(hf:fn=⟨np,res,body⟩)(hl:args.length=np)
  (h:WC (lim T) body (mR 0 args) σ fun x e σ1=>okX x∧(yO e σ1 res).map tS=some d∧σ1=σ'):
  lim T (.call true f args σ)=some (.val d σ'):=by
 subst hf;obtain⟨x,e1,σ1,h1,h2,h3,rfl⟩:=h;refine gX ?_;simp only[ab]at h3;obtain⟨ds,h3,rfl⟩:=h3;simp only[da,hT,if_pos hl,if_true,h1];cases x with
 |exit i=>exact h2.elim
 |fx d=>exact h2.elim
 |normal=>simp[h3]
 |ret=>simp[h3]
inductive xV (T:zO) (l i:Nat) {α:Type} (f:α→List D):List α→SK→Bool→SK→Prop
 |nil (σ:SK):xV T l i f [] σ true σ
 |go (a:α) (xs:List α) (σ σ1 σ2:SK) (b:Bool):lim T (.round l i (f a) σ)=some (.val (.bool true) σ1)→xV T l i f xs σ1 b σ2→xV T l i f (a::xs) σ b σ2
 |stop (a:α) (xs:List α) (σ σ1:SK):lim T (.round l i (f a) σ)=some (.val (.bool false) σ1)→xV T l i f (a::xs) σ false σ1
theorem xV.split{l i:Nat}{α:Type}{f:α→List D}:∀{xs bs:List α} {σ σ':SK} {b:Bool},xV T l i f (xs++bs) σ b σ' →
  (∃σ1,xV T l i f xs σ true σ1∧xV T l i f bs σ1 b σ')∨(b=false∧xV T l i f xs σ false σ')
 |[],bs,σ,σ',b,h => .inl ⟨σ,.nil σ,h⟩
 |a::xs,bs,σ,σ',b,h=>by
  cases h with
  |go _ _ _ σ1 _ _ h1 h2 =>
   rcases xV.split h2 with⟨σ3,h3,h4⟩ | ⟨rfl,h3⟩
   ·exact .inl ⟨σ3,.go _ _ _ _ _ _ h1 h3,h4⟩
   ·exact .inr ⟨rfl,.go _ _ _ _ _ _ h1 h3⟩
  |stop _ _ _ _ h1=>exact .inr ⟨rfl,.stop _ _ _ _ h1⟩
theorem MU{live:List Nat}{fo:bE}{params:List Nat}{zf body:cA}{e:Env}{s:List aG}{σ σ2:SK}{Q:Exit→Env→SK→Prop}{g:Nat}{first cap:List D}{d:D}{lp:wj}
  (hf:aZ e fo=.fn g first cap)
  (hc:lim T (.call false g (first++[.mf σ.length s.length]++cap) ((s++[.loop {state:=0,wR:=none,env:=wY live e,params,zf,body }])::σ))=some (.val d σ2))
  (hb:ez σ2 σ.length s.length=some (.loop lp)) (hs:lp.state≠1)
  (hq:Q (lp.wR.getD .normal) (restrict live e) (aT σ2 σ.length s.length (.loop {lp with state:=3 }))):
  WC (lim T) (.Je live fo params zf body) e (s::σ) Q:=by
 refine⟨_,_,_,?_,hq⟩;simp only[aW,gH,hf,EG,hc,R.bf,hb,if_neg hs]
def Ed:Option aG→Option wj
 |some (.loop lp)=>some lp
 |_=>none
@[simp] theorem ajq{lp:wj}:Ed (some (.loop lp))=some lp:=aA rfl
theorem xG{o:Option aG}{lp:wj}(h:Ed o=some lp):o=some (.loop lp):=by
 cases o with
 |none=>cases h
 |some b=>cases b<;>cases h;rfl
def aqj(l i:Nat)(b:Bool)(σ':SK)(x:Exit)(σ2:SK):Prop :=
 match x with
 |.fx _=>False
 |.normal=>WD (Ed (ez σ2.tail l i)) fun lp2=>aT σ2.tail l i (.loop {lp2 with state:=0,wR:=none })=σ'∧b=true
 |x=>WD (Ed (ez σ2.tail l i)) fun lp2=>aT σ2.tail l i (.loop {lp2 with state:=2,wR:=some x })=σ'∧b=false
@[simp] theorem adB{l i:Nat}{b:Bool}{σ':SK}{s2:List aG}{σ3:SK}:aqj l i b σ' .normal (s2::σ3)=WD (Ed (ez σ3 l i)) fun lp2=>aT σ3 l i (.loop {lp2 with state:=0,wR:=none })=σ'∧b=true:=aA rfl
def Pr(T:zO)(l i:Nat)(b:Bool)(σ':SK)(n:Nat)(body:cA)(x:Exit)(e1:Env)(σ1:SK)(_m:Mark body:=.mk):Prop :=
 x=.normal∧WD (Ed (ez σ1 l i)) fun lp1=>lp1.state=0∧WC (lim T) body e1 (aT σ1 l i (.loop {lp1 with state:=1 })) fun x _ σ2=>σ2.length=n∧aqj l i b σ' x σ2
theorem KI{l i:Nat}{args:List D}{σ σ':SK}{b:Bool}{lp:wj}(hb:ez σ l i=some (.loop lp))(hl:args.length=lp.params.length)
  (h:WC (lim T) lp.zf (zA lp.params args lp.env) ([]::σ) (Pr T l i b σ' (σ.length+1) lp.body)):
  lim T (.round l i args σ)=some (.val (.bool b) σ'):=by
 obtain⟨x,e1,σ1,h1,rfl,lp1,h2,h3,x2,e2,σ2,h4,hlen,h6⟩:=h;have h2:=xG h2;cases σ2 with
 |nil=>simp at hlen
 |cons s2 σ3 =>
 refine gX ?_;simp only[da,hb,if_pos hl,h1,h2,if_pos h3,h4];cases x2 with
 |normal=>obtain⟨lp2,h5,h6,rfl⟩:=h6;have h5:=xG h5;dsimp only [List.tail]at h5 h6 ⊢;rw[h5];dsimp only;rw[h6]
 |exit j=>obtain⟨lp2,h5,h6,rfl⟩:=h6;have h5:=xG h5;dsimp only [List.tail]at h5 h6 ⊢;rw[h5];dsimp only;rw[h6]
 |ret=>obtain⟨lp2,h5,h6,rfl⟩:=h6;have h5:=xG h5;dsimp only [List.tail]at h5 h6 ⊢;rw[h5];dsimp only;rw[h6]
 |fx d=>exact h6.elim
@[simp] theorem ajv{t:Nat}{ts:List Nat}{d:D}{ds:List D}{e:Env}:zA (t::ts) (d::ds) e=zA ts ds ((t,d)::e):=aA rfl
@[simp] theorem anQ{ds:List D}{e:Env}:zA [] ds e=e:=aA (by cases ds<;>rfl)
@[simp] theorem aoM{e:Env}:wY [] e=[]:=aA rfl
@[simp] theorem ajO{t:Nat}{l:List Nat}{e:Env}:wY (t::l) e=(t,(get e t).strip)::wY l e:=aA rfl
variable {T:zO}
def O9(vs:List Nat)(v:Nat)(d:D)(e:Env)(σ:SK):Env×SK :=
 match d with
 |.sl l i u off m w=>uC vs ((v,(ck 0 deep (.sl l i u off m w) σ).1)::e) (ck 0 deep (.sl l i u off m w) σ).2
 |.own s cs=>uC vs ((v,.own s (ck.frzL (ck 0 deep) cs σ).1)::e) (ck.frzL (ck 0 deep) cs σ).2
 |.agg cs=>uC vs ((v,.agg (cs.map D.vQ))::e) σ
 |.undef=>if 1000000≤v then uC vs (He (v-1000000) e σ).1 (He (v-1000000) e σ).2 else uC vs e σ
 |_=>uC vs e σ
@[simp] theorem asA{e:Env}{σ:SK}:uC [] e σ=(e,σ):=aA rfl
@[simp] theorem ao6{v:Nat}{vs:List Nat}{e:Env}{σ:SK}:uC (v::vs) e σ=O9 vs v (get e v) e σ:=by
 simp only[uC,O9];cases get e v<;>rfl
@[simp] theorem aue{v:Nat}{vs:List Nat}{e:Env}{σ:SK}{l i u off m w:Nat}:O9 vs v (.sl l i u off m w) e σ =
  uC vs ((v,(ck 0 deep (.sl l i u off m w) σ).1)::e) (ck 0 deep (.sl l i u off m w) σ).2:=aA rfl
@[simp] theorem asw{v:Nat}{vs:List Nat}{e:Env}{σ:SK}{s:Nat}{cs:List D}:O9 vs v (.own s cs) e σ =
  uC vs ((v,.own s (ck.frzL (ck 0 deep) cs σ).1)::e) (ck.frzL (ck 0 deep) cs σ).2:=aA rfl
@[simp] theorem asv{v:Nat}{vs:List Nat}{e:Env}{σ:SK}{cs:List D}:O9 vs v (.agg cs) e σ=uC vs ((v,.agg (cs.map D.vQ))::e) σ:=aA rfl
@[simp] theorem ap8{k:IntKind}{n:Int}:D.vQ (.int k n)=.int k n:=aA rfl
@[simp] theorem ap9{n:Nat}{cs:List D}:D.vQ (.aE n cs)=.aE n cs:=aA rfl
def LL(v:Nat)(d:D)(e:Env)(σ:SK):Env×SK :=
 match d with
 |.aI=>((v,.aE 0 [])::e,σ)
 |.ref l i u 0=>((v,(Df l i u σ).1)::e,(Df l i u σ).2)
 |.own s cs=>((v,.own s (cs.map D.vQ))::e,σ)
 |_=>(e,σ)
@[simp] theorem auf{v:Nat}{e:Env}{σ:SK}:He v e σ=LL v (get e v) e σ:=rfl
@[simp] theorem ao5{v:Nat}{e:Env}{σ:SK}:LL v .aI e σ=((v,.aE 0 [])::e,σ):=aA rfl
@[simp] theorem asx{v n:Nat}{cs:List D}{e:Env}{σ:SK}:LL v (.aE n cs) e σ=(e,σ):=aA rfl
@[simp] theorem asz{v l i u:Nat}{e:Env}{σ:SK}:LL v (.ref l i u 0) e σ=((v,(Df l i u σ).1)::e,(Df l i u σ).2):=aA rfl
@[simp] theorem asy{v s:Nat}{cs:List D}{e:Env}{σ:SK}:LL v (.own s cs) e σ=((v,.own s (cs.map D.vQ))::e,σ):=aA rfl
@[simp] theorem aqa{s:List UInt8}:D.vQ (.str s)=.str s:=aA rfl
@[simp] theorem get_none{t:Nat}:get [] t=.undef:=aA rfl
@[simp] theorem anw{v:Nat}{vs:List Nat}{e:Env}{σ:SK}:O9 vs v .undef e σ=if 1000000≤v then uC vs (He (v-1000000) e σ).1 (He (v-1000000) e σ).2 else uC vs e σ:=aA rfl
def awa(l n m off w:Nat)(σ:SK)(s:D):Option (List D)→D×SK
 |some cs=>(.aE m (ck.frzL (ck l n) ((cs.drop off).take (m*w)) σ).1,(ck.frzL (ck l n) ((cs.drop off).take (m*w)) σ).2)
 |none=>(.undef,σ)
theorem Z2{L i u off m w:Nat}{σ:SK}{cs:List D}(hL:0<L)(hc:cells? σ L i u=some cs):
  ck 0 16 (.sl L i u off m w) σ=(.aE m (ck.frzL (ck 0 15) ((cs.drop off).take (m*w)) (aT σ L i .dead)).1,(ck.frzL (ck 0 15) ((cs.drop off).take (m*w)) (aT σ L i .dead)).2):=by
 exact AG (by omega) hc (by omega)
theorem acq{σ:SK}(hσ:σ≠[]){bs:List aG}{i u m w:Nat}{cs:List D}(hb:bs[i]?=some (.cells u cs))(hcl:D.bu cs=true)(hlen:cs.length=m*w):
  ck 0 16 (.sl σ.length i u 0 m w) (bs::σ)=(.aE m cs,bs.set i .dead::σ):=by
 have h:=aO.2 hσ;rw[Z2 h (cs:=cs) (by simp[hb])];simp[← hlen,hcl,ah]
theorem Gq{α:Type}{f:α→List D}{w:Nat}(hw:∀x,(f x).length=w)(l:List α):(l.flatMap f).take (l.length*w)=l.flatMap f :=
 ah (by rw[b9 hw];exact aF _)
theorem fZ{α:Type}{f:α→List D}(h:∀x,D.bu (f x)=true)(l:List α):D.bu (l.flatMap f)=true:=by
 have app:∀a b:List D,D.bu (a++b)=(D.bu a && D.bu b):=by
  intro a b;induction a with
  |nil=>simp
  |cons x a ih=>simp[ih,Bool.and_assoc]
 induction l with
 |nil=>simp
 |cons a l ih=>simp[app,h,ih]
theorem zU{α:Type}{f:α→List D}{w:Nat}(hw:∀x,(f x).length=w)(hc:∀x,D.bu (f x)=true){l:List α}{j v:Nat}{bs:List aG}{σ:SK}(hσ:σ≠[])(hj:bs[j]?=some (.cells v (l.flatMap f))):
  ck (σ.length-1) 16 (.sl σ.length j v 0 l.length w) (bs::σ)=(.aE l.length (l.flatMap f),bs.set j .dead::σ):=by
 have h3:¬σ.length≤σ.length-1:=by have:=aO.2 hσ;omega
 rw[AG h3 (cs:=l.flatMap f) (by simp[hj]) (by omega)];simp[Gq hw l,fZ hc l]
theorem zT{α:Type}{f:α→List D}{w:Nat}(hw:∀x,(f x).length=w)(hc:∀x,D.bu (f x)=true){l:List α}{j v:Nat}{bs:List aG}{σ:SK}(hσ:σ≠[])(hj:bs[j]?=some (.cells v (l.flatMap f))):
  ck 0 16 (.sl σ.length j v 0 l.length w) (bs::σ)=(.aE l.length (l.flatMap f),bs.set j .dead::σ) :=
 acq hσ hj (fZ hc l) (b9 hw l)
theorem NU{α:Type}{f:α→List D}{w:Nat}(hw:∀x,(f x).length=w):∀{l:List α} {i:Nat} {x:α},i<l.length→(l.flatMap f).take (i*w)++(f x++(l.flatMap f).drop (i*w+w))=(l.set i x).flatMap f
 |[],i,x,h=>by simp at h
 |a::l,0,x,h=>by
  have h1:=hw a;simp only[Nat.zero_mul,List.take_zero,aV,aQ,List.set_cons_zero,cG];rw[← h1,List.drop_left]
 |a::l,i+1,x,h=>by
  have h1:=hw a;have ih:=NU (l:=l) (i:=i) (x:=x) hw (by simpa using h);simp only[aQ,List.set_cons_succ];rw[← ih,show(i+1)*w=w+i*w by rw[ew];omega,← h1,List.take_length_add_append,pr,show(f a).length+i*(f a).length+(f a).length=(f a).length+(i*(f a).length+(f a).length)by omega,cC]
theorem zt{α:Type}{f:α→List D}{w:Nat}(hw:∀x,(f x).length=w):∀{l:List α} {i:Nat} {x:α},l[i]?=some x→(l.flatMap f).drop (i*w)=f x++(l.flatMap f).drop (i*w+w)
 |[],i,x,h=>by simp at h
 |a::l,0,x,h=>by
  simp at h;subst h;have h1:=hw a;simp only[Nat.zero_mul,aJ,aQ,cG];rw[← h1,List.drop_left]
 |a::l,i+1,x,h=>by
  have h1:=hw a;have ih:=zt (l:=l) (i:=i) (x:=x) hw (by simpa using h);simp only[aQ];rw[show(i+1)*w=w+i*w by rw[ew];omega,← h1,cC,show(f a).length+i*(f a).length+(f a).length=(f a).length+(i*(f a).length+(f a).length)by omega,cC,h1,ih]
@[simp] theorem asu{l:Nat}{σ:SK}:sC l [] σ=([],σ):=aA rfl
@[simp] theorem ao4{l t:Nat}{d:D}{e:Env}{σ:SK}:sC l ((t,d)::e) σ=((t,(ck l deep d σ).1)::(sC l e (ck l deep d σ).2).1,(sC l e (ck l deep d σ).2).2):=aA rfl
def N3(T:zO)(live:List Nat)(c:cA)(n:Nat)(Q:Exit→Env→SK→Prop)(_m:Mark c:=.mk)(_m':Mark Q:=.mk):Exit→Env→SK→Prop
 |.normal,e,σ=>WL T live true c (sC n (restrict live e) σ).1 (sC n (restrict live e) σ).2.tail Q
 |.exit i,e,σ=>Q (.exit i) (sC n (restrict (keys e) e) σ).1 (sC n (restrict (keys e) e) σ).2.tail
 |.ret,e,σ=>Q .ret (sC n (restrict (keys e) e) σ).1 (sC n (restrict (keys e) e) σ).2.tail
 |.fx d,e,σ=>Q (.fx d) (sC n (restrict (keys e) e) σ).1 (sC n (restrict (keys e) e) σ).2.tail
@[simp,simp ↓] theorem acL{live:List Nat}{c:cA}{n:Nat}{Q:Exit→Env→SK→Prop}{e:Env}{σ:SK}:N3 T live c n Q .mk .mk .normal e σ=WL T live true c (sC n (restrict live e) σ).1 (sC n (restrict live e) σ).2.tail Q:=aA rfl
@[simp,simp ↓] theorem anJ{live:List Nat}{c:cA}{n i:Nat}{Q:Exit→Env→SK→Prop}{e:Env}{σ:SK}:N3 T live c n Q .mk .mk (.exit i) e σ=Q (.exit i) (sC n (restrict (keys e) e) σ).1 (sC n (restrict (keys e) e) σ).2.tail:=aA rfl
@[simp,simp ↓] theorem apm{live:List Nat}{c:cA}{n:Nat}{Q:Exit→Env→SK→Prop}{e:Env}{σ:SK}:N3 T live c n Q .mk .mk .ret e σ=Q .ret (sC n (restrict (keys e) e) σ).1 (sC n (restrict (keys e) e) σ).2.tail:=aA rfl
theorem C6{live:List Nat}{c c':cA}{e:Env}{σ:SK}{Q:Exit→Env→SK→Prop}(hc:c=c')(h:WC (lim T) c' (restrict live e) ([]::σ) (N3 T live c (σ.length-1) Q .mk .mk)):WL T live true c e σ Q:=by
 rw[← hc]at h;obtain⟨x,e1,σ1,h1,h2⟩:=h;cases x with
 |normal =>
  obtain⟨x,e',σ',h3,h4⟩:=h2;exact⟨x,e',σ',gX (by simp[da,h1,yo,h3]),h4⟩
 |exit i=>exact⟨_,_,_,gX (by simp[da,h1,yo]),h2⟩
 |ret=>exact⟨_,_,_,gX (by simp[da,h1,yo]),h2⟩
 |fx d=>exact⟨_,_,_,gX (by simp[da,h1,yo]),h2⟩
@[simp] theorem keys_nil:keys []=[]:=aA rfl
@[simp] theorem keys_cons{t:Nat}{d:D}{e:Env}:keys ((t,d)::e)=t::keys (e.filter fun p => !(p.1 == t)):=by
 simp only[keys,aM,List.eraseDups_cons,List.filter_map];rfl
end Go.Abs
namespace Go.Abs
def qo(d:Nat)(k:K):Op:=⟨some d,none,false,k⟩
def qO(d:Nat)(k:K):Op:=⟨some d,none,true,k⟩
def qm(d x:Nat):Op:=⟨some d,none,false,.mv (.t x)⟩
def qM(d x:Nat):Op:=⟨some d,none,true,.mv (.t x)⟩
def qi(d:Nat)(n:Int):Op:=⟨some d,none,false,.mv (.c (.int .i64 n))⟩
def qb(d:Nat)(b:Bool):Op:=⟨some d,none,false,.mv (.c (.bool b))⟩
def qf(d o x:Nat):Op:=⟨some d,none,false,.Hc o (.t x)⟩
def qF(d o x:Nat):Op:=⟨some d,none,true,.Hc o (.t x)⟩
def ql(d n x:Nat):Op:=⟨some d,none,false,.ld false n (.t x)⟩
def qL(d n x:Nat):Op:=⟨some d,none,true,.ld false n (.t x)⟩
def qa(d n x:Nat):Op:=⟨some d,none,false,.ld true n (.t x)⟩
def qA(d n x:Nat):Op:=⟨some d,none,true,.ld true n (.t x)⟩
def qv(d v n a:Nat):Op:=⟨some d,none,false,.PX v false n a⟩
def qV(d v n a:Nat):Op:=⟨some d,none,true,.PX v false n a⟩
def qw(d v n a:Nat):Op:=⟨some d,none,false,.PX v true n a⟩
def qW(d v n a:Nat):Op:=⟨some d,none,true,.PX v true n a⟩
def qx(d x:Nat):Op:=⟨some d,none,false,.G9 (.t x)⟩
def qe(d x:Nat):Op:=⟨some d,none,false,.Hh (.t x)⟩
def qE(d x:Nat):Op:=⟨some d,none,true,.Hh (.t x)⟩
def qj(d w x i:Nat):Op:=⟨some d,none,false,.eI w (.t x) (.t i)⟩
def qJ(d w x i:Nat):Op:=⟨some d,none,true,.eI w (.t x) (.t i)⟩
def qk(d:Nat)(o:BinOp)(x y:Nat):Op:=⟨some d,none,false,.bin o (.t x) (.t y)⟩
def qK(d:Nat)(o:BinOp)(x y:Nat):Op:=⟨some d,none,true,.bin o (.t x) (.t y)⟩
def qn(d:Nat)(o:BinOp)(x:Nat)(n:Int):Op:=⟨some d,none,false,.bin o (.t x) (.c (.int .i64 n))⟩
def qN(d:Nat)(o:BinOp)(x:Nat)(n:Int):Op:=⟨some d,none,true,.bin o (.t x) (.c (.int .i64 n))⟩
def qu(d x:Nat):Op:=⟨some d,none,false,.un .not (.t x)⟩
def qp(d c x:Nat):Op:=⟨some d,none,false,.pick (.t c) (.t x) (.c (.bool false))⟩
def qP(d c x:Nat):Op:=⟨some d,none,false,.pick (.t c) (.c (.bool true)) (.t x)⟩
def qs(v n a x:Nat):Op:=⟨none,none,false,.Er v [] n a (.t x)⟩
def qS(v n a x:Nat):Op:=⟨none,none,true,.Er v [] n a (.t x)⟩
def qt(n a x:Nat):Op:=⟨none,none,false,.st [] n (.t a) (.t x)⟩
def qz(d x i:Nat):Op:=⟨some d,none,false,.ext (.t x) i⟩
def qZ(d x i:Nat):Op:=⟨some d,none,true,.ext (.t x) i⟩
def qc(d f:Nat)(a:List Nat):Op:=⟨some d,none,false,.call false (.c (.fn f [] [])) (a.map .t)⟩
def qC(d f:Nat)(a:List Nat):Op:=⟨some d,none,true,.call false (.c (.fn f [] [])) (a.map .t)⟩
def qy(d w b s x:Nat):Op:=⟨some d,none,false,.app w b (.t s) (.t x)⟩
def qg(t:Nat)(b:Bool)(o:Op):Op:=⟨o.dst,some (t,b),o.zW,o.k⟩
end Go.Abs
