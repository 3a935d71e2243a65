import Derived.Test.YtpapbbojmclkgaaGreatDoorBase19
import Derived.IntWalk
set_option linter.all false
namespace Go.Abs
open Go
theorem WL.to{T:DB}{live:List Nat}{bD:Bool}{c:bV}{e e':Env}{J J':SK}{Q Q':Exit->Env->SK->Prop}(h:WL T live bD c e J Q)(he:e'=e)(hs:J'=J)
  (hq:∀x e J,Q x e J->Q' x e J):WL T live bD c e' J' Q':=by subst he hs;exact h.mono hq
theorem bQ{α:Type}{f:α->List D}{w:Nat}(hw:∀x,(f x).length=w)(l:List α):(fM l f).length=l.length*w:=by
 induction l with
 |nil=>simp
 |cons a l ih=>simp[hw,ih,eD];omega
theorem aP{α:Type}{f:α->List D}{w:Nat}(hw:∀x,(f x).length=w):∀{l:List α} {i:Nat} {x:α},l[i]?=some x->((fM l f).drop (i*w)).take w=f x
 |[],i,x,h=>by simp at h
 |a::l,0,x,h=>by
  simp at h;subst h;simp[<- hw a]
 |a::l,i+1,x,h=>by
  have e:(i+1)*w=(f a).length+i*w:=by rw[hw,eD];omega
  rw[di,e,List.drop_append];simp only[Nat.add_sub_cancel_left,an (Nat.le_add_right _ _),aY];exact aP hw (by simpa using h)
theorem bz{α:Type}{l:List α}{i:Nat}{x:α}(h:l[i]?=some x):l.drop i=x::l.drop (i+1):=by
 have h1:i<l.length:=(aA.1 h).1;rw[List.drop_eq_getElem_cons h1];rw[aK h1]at h;simp at h;rw[h]
theorem l7{α:Type}{f:α->List D}{l:List α}{i:Nat}{x:α}(h:l[i]?=some x):fM (l.take i) f++f x=fM (l.take (i+1)) f:=by
 rw[List.take_add_one,h];simp
theorem Qu{α:Type}{f:α->D}(l:List α):fM l (λx=>[f x])=l.map f:=by
 induction l with
 |nil=>rfl
 |cons a l ih=>simp[ih]
theorem cm{n:Int}(h : -9223372036854775808<=n/\n<=9223372036854775807:=by omega):IntKind.i64.wrap n=n:=IntWalk.i64_in n h
@[simp] theorem aml:IntKind.i64.wrap 0=0:=by decide
@[simp] theorem amm:IntKind.i64.wrap 1=1:=by decide
@[simp] theorem amn:IntKind.i64.wrap 2=2:=by decide
@[simp] theorem amo:IntKind.i64.wrap 3=3:=by decide
@[simp] theorem amp:IntKind.i64.wrap 4=4:=by decide
theorem wu8{n:Int}(h:0<=n/\n<=255):IntKind.u8.wrap n=n:=IntWalk.u8_in n h
theorem bO{i n:Nat}(h:i<n)(hn:n<=9223372036854775807:=by omega):IntKind.i64.wrap ((i:Int)+1)=((i+1:Nat):Int):=by
 rw[cm (by omega)];rfl
variable {T:DB}
def idxOf{α:Type}(p:α->Bool):List α->Int
 |[] => -1
 |x::l=>if p x then 0 else if idxOf p l<0 then -1 else idxOf p l+1
theorem IK{α:Type}{p:α->Bool}:∀{l:List α},idxOf p l<0↔l.any p=false
 |[]=>by simp[idxOf]
 |x::l=>by
  have ih:=IK (p:=p) (l:=l);simp only[idxOf,List.any_cons];cases h:p x
  .simp only[aD,if_false,Bool.false_or];by_cases h1:idxOf p l<0
   .rw[if_pos h1,ih.1 h1];decide
   .rw[if_neg h1];have h2:¬l.any p=false:=λh=>h1 (ih.2 h)
    exact⟨λh3=>absurd h3 (by omega),λh3=>absurd h3 h2⟩
  .simp
def dq{α:Type}(l:List α)(p:α->Bool):Bool:=l.all p
def mK{α:Type}(l:List α)(p:α->Bool):Bool:=l.any p
theorem eQ{α:Type}{l:List α}{p:α->Bool}:dq l p=true↔∀x∈l,p x=true:=by simp[dq]
theorem Qd{α:Type}{l:List α}{p:α->Bool}:mK l p=true↔∃x∈l,p x=true:=by simp[mK]
def pA(T:DB){α:Type}(fv:D)(val:α->D)(p:α->Bool)(l:List α):Prop :=
 fv.strip=fv/\fv.calm=fv/\∀x∈l,∀J,oK (dt T) false fv [val x] J=some (.bool (p x),J)
theorem pA.fn{α:Type}{f:Nat}{first cap:List D}{val:α->D}{p:α->Bool}{l:List α}
  (h:∀x∈l,∀J,dt T (.call false f (first++[val x]++cap) J)=some (.val (.bool (p x)) J)):pA T (.fn f first cap) val p l :=
 ⟨rfl,rfl,λx hx J=>by rw[pS,h x hx J];rfl⟩
structure Elt(α:Type) where
 ag:Bool
 w:Nat
 enc:α->List D
 val:α->D
 len:∀x,(enc x).length=w
 load:∀x,RN ag w (some (enc x))=some (val x)
 strip:∀x,(val x).strip=val x
 calm:∀x,(val x).calm=val x
 cells:∀x,(val x).cells=some (enc x)
def Oq(k:IntKind):Elt Int:=⟨false,1,λn=>[.int k n],λn => .int k n,λ_=>rfl,λ_=>by simp,λ_=>rfl,λ_=>rfl,λ_=>rfl⟩
def akn:Elt Bool:=⟨false,1,λn=>[.bool n],λn => .bool n,λ_=>rfl,λ_=>by simp,λ_=>rfl,λ_=>rfl,λ_=>rfl⟩
def yI{α:Type}(w:Nat)(enc:α->List D)(h:∀x,(enc x).length=w):Elt α :=
 ⟨true,w,enc,λx => .agg (enc x),h,λx=>by simp[h,af],λ_=>rfl,λ_=>rfl,λ_=>rfl⟩
section index
variable (ag:Bool) (w:Nat)
def Lu:bV :=
 (.seq (.sQ [0,1,7,8,9] [⟨some 9,none,false,.bin .lss (.t 8) (.t 7)⟩]) (.seq (.ite (.t 9) .Kk (.exit 0)) (.seq (.dK 1 (.seq (.sQ [0,1,5,7,8] [
 ⟨some 10,none,false,.mv (.t 8)⟩,
 ⟨some 5,none,false,.mv (.t 10)⟩]) (.seq (.sQ [0,1,5,7,8,16] [
 ⟨some 11,none,false,.mv (.t 1)⟩,
 ⟨some 12,none,false,.mv (.t 0)⟩,
 ⟨some 13,none,false,.mv (.t 5)⟩,
 ⟨some 14,none,false,.IL w (.t 12) (.t 13)⟩,
 ⟨some 15,none,false,.ld ag w (.t 14)⟩,
 ⟨some 16,none,false,.call false (.t 11) [(.t 15)]⟩]) (.ite (.t 16) (.seq (.sQ [4] [
 ⟨some 17,none,false,.mv (.t 5)⟩,
 ⟨some 4,none,false,.mv (.t 17)⟩]) .ret) .Kk)))) (.sQ [0,1,7,8] [
 ⟨some 18,none,false,.bin .add (.t 8) (.c (.int .i64 1))⟩,
 ⟨some 8,none,false,.mv (.t 18)⟩]))))
def vn:Fn:=⟨2,[.t 4],
 (.seq (.sQ [0,1] [⟨some 4,none,false,.mv (.c (.int .i64 0))⟩]) (.seq (.seq (.sQ [0,1,7,8] [
 ⟨some 6,none,false,.mv (.t 0)⟩,
 ⟨some 7,none,false,.My (.t 6)⟩,
 ⟨some 8,none,false,.mv (.c (.int .i64 0))⟩]) (.dK 0 (.loop [0,1,7,8] false (Lu ag w)))) (.seq (.sQ [4] [
 ⟨some 4,none,false,.mv (.c (.int .i64 (-1)))⟩]) .ret)))⟩
def jf(i:Nat):Fn:=⟨2,[.t 4],
 (.seq (.sQ [0,1] [⟨some 4,none,false,.mv (.c (.bool false))⟩]) (.seq (.sQ [4] [
 ⟨some 5,none,false,.mv (.t 0)⟩,
 ⟨some 6,none,false,.mv (.t 1)⟩,
 ⟨some 7,none,false,.call false (.c (.fn i [] [])) [(.t 5),(.t 6)]⟩,
 ⟨some 8,none,false,.bin .geq (.t 7) (.c (.int .i64 0))⟩,
 ⟨some 4,none,false,.mv (.t 8)⟩]) .ret))⟩
def G8(g h:Nat):Fn:=⟨2,[.t 4],
 (.seq (.sQ [0,3] [
 ⟨some 3,none,false,.Mm (.t 1)⟩,
 ⟨some 4,none,false,.mv (.c (.bool false))⟩]) (.seq (.sQ [4] [
 ⟨some 5,none,false,.mv (.t 0)⟩,
 ⟨some 6,none,false,.Zj g [] [(.t 3)]⟩,
 ⟨some 7,none,false,.call false (.c (.fn h [] [])) [(.t 5),(.t 6)]⟩,
 ⟨some 8,none,false,.un .not (.t 7)⟩,
 ⟨some 4,none,false,.mv (.t 8)⟩]) .ret))⟩
def Bc:Bool->Nat->Fn
 |true,w=>⟨2,[.t 3],
 (.seq (.sQ [1,2] [
 ⟨some 2,none,false,.Mm (.t 0)⟩,
 ⟨some 3,none,false,.mv (.c (.bool false))⟩]) (.seq (.sQ [3] [
 ⟨some 4,none,false,.ld false 1 (.t 1)⟩,
 ⟨some 5,none,false,.ld true w (.t 2)⟩,
 ⟨some 6,none,false,.call false (.t 4) [(.t 5)]⟩,
 ⟨some 7,none,false,.un .not (.t 6)⟩,
 ⟨some 3,none,false,.mv (.t 7)⟩]) .ret))⟩
 |false,_=>⟨2,[.t 3],
 (.seq (.sQ [0,1] [
 ⟨some 3,none,false,.mv (.c (.bool false))⟩]) (.seq (.sQ [3] [
 ⟨some 4,none,false,.ld false 1 (.t 1)⟩,
 ⟨some 5,none,false,.mv (.t 0)⟩,
 ⟨some 6,none,false,.call false (.t 4) [(.t 5)]⟩,
 ⟨some 7,none,false,.un .not (.t 6)⟩,
 ⟨some 3,none,false,.mv (.t 7)⟩]) .ret))⟩
end index
section
variable {α:Type} (E:Elt α) {p:α->Bool} {fv:D} {l:List α}
theorem QO(hl:l.length<=9223372036854775807)(ht:pA T fv E.val p l){J:SK}:∀(m i:Nat),i+m=l.length ->
  WL T [0,1,7,8] false (Lu E.ag E.w) [(0,.bZ l.length (fM l E.enc)),(1,fv),(7,.int .i64 l.length),(8,.int .i64 i)] J
   (λx e J'=>J'=J/\if idxOf p (l.drop i)<0 then x=.exit 0 else x=.ret/\get e 4=.int .i64 (i+idxOf p (l.drop i)))
 |0,i,hi=>by
  obtain⟨h1,h2,h3⟩:=ht;refine av (Lu.eq_1 _ _) ?_;have:¬i<l.length:=by omega
  have h5:l.drop i=[]:=by simp;omega
  simp[this,h1,h2,h5,idxOf]
 |m+1,i,hi=>by
  have ih:=QO hl ht (J:=J) m (i+1) (by omega);obtain⟨h1,h2,h3⟩:=ht;refine av (Lu.eq_1 _ _) ?_;have h4:i<l.length:=by omega
  obtain⟨x,hx⟩:=gE h4;have h5:=aP (f:=E.enc) E.len hx;have h6:=h3 x (ai hx) J;have h7:=bO h4 hl;have h8:l.drop i=x::l.drop (i+1):=by
   rw[List.drop_eq_getElem_cons h4];rw[aK h4]at hx;simp at hx;rw[hx]
  cases hp:p x
  .rw[hp]at h6;simp[h4,h1,h2,h5,h6,h7,E.load,E.strip,E.calm];refine WL.mono (by simpa using ih) ?_;rintro x e J' ⟨h9,h10⟩;refine⟨h9,?_⟩;rw[h8];simp only[idxOf,hp,aD,if_false];by_cases h11:idxOf p (l.drop (i+1))<0
   .simpa[h11]using h10
   .rw[if_neg h11]at h10;rw[if_neg h11,if_neg (by omega)];refine⟨h10.1,?_⟩;rw[h10.2];congr 1;push_cast;omega
  .rw[hp]at h6;simp[h4,h1,h2,h5,h6,h7,E.load,E.strip,E.calm,h8,idxOf,hp]
theorem YU{f:Nat}(hT:T f=some (vn E.ag E.w))(hl:l.length<=9223372036854775807)(ht:pA T fv E.val p l){J:SK}:
  dt T (.call false f [.bZ l.length (fM l E.enc),fv] J)=some (.val (.int .i64 (idxOf p l)) J):=by
 refine pB hT (vn.eq_1 _ _) rfl ?_;have h:=QO E hl ht (J:=[]::J) l.length 0 (by simp);obtain⟨h1,h2,h3⟩:=ht;simp[h1,h2];refine WL.mono (by simpa using h) ?_;rintro x e J' ⟨rfl,h10⟩
 try simp only[aC]at h10
 by_cases h11:idxOf p l<0
 .rw[if_pos h11]at h10;subst h10;have:idxOf p l = -1:=by
   cases l with
   |nil=>rfl
   |cons a l =>
    simp only[idxOf]at h11 ⊢;split at h11<;>rename_i ha
    .omega
    .rw[if_neg ha];split at h11<;>rename_i hb
     .rw[if_pos hb]
     .omega
  simp[this]
 .rw[if_neg h11]at h10;obtain⟨rfl,h12⟩:=h10
  try simp at h12
  simp[h12]
theorem contains_of{f i:Nat}(hT:T f=some (jf i))(hi:T i=some (vn E.ag E.w))(hl:l.length<=9223372036854775807)(ht:pA T fv E.val p l){J:SK}:
  dt T (.call false f [.bZ l.length (fM l E.enc),fv] J)=some (.val (.bool (mK l p)) J):=by
 refine pB hT (jf.eq_1 _) rfl ?_;have h:=YU E hi hl ht (J:=[]::J);obtain⟨h1,h2,h3⟩:=ht;have h4:decide (0<=idxOf p l)=mK l p:=by
  unfold mK;have h6:=IK (p:=p) (l:=l);cases h5:l.any p
  .have:=h6.2 h5;exact decide_eq_false (by omega)
  .exact decide_eq_true (by
    have:¬idxOf p l<0:=λh=>by rw[h6.1 h]at h5;cases h5
    omega)
 simp[h1,h2,h,h4]
theorem Uc{g:Nat}(hT:T g=some (Bc E.ag E.w))(ht:pA T fv E.val p l):pA T (.fn g [] [.aZ [fv]]) E.val (λx => !p x) l:=by
 refine pA.fn λx hx J=>?_
 obtain⟨h1,h2,h3⟩:=ht;have h6:=h3 x hx ([]::J);have hc:=E.cells x;have hl:=E.load x;have hs:=E.strip x;have hcm:=E.calm x;generalize E.ag=ag at *
 cases ag with
 |true =>
  refine pB hT (Bc.eq_1 _) rfl ?_;simp[h1,h2,h6,hc,hl,hs,hcm]
 |false =>
  refine pB hT (Bc.eq_2 _) rfl ?_;simp[h1,h2,h6,hc,hl,hs,hcm]
theorem CL{f g h i:Nat}(hf:T f=some (G8 g h))(hg:T g=some (Bc E.ag E.w))(hh:T h=some (jf i))(hi:T i=some (vn E.ag E.w))
  (hl:l.length<=9223372036854775807) (ht:pA T fv E.val p l) (hcl:fv.cells=some [fv]) {J:SK}:
  dt T (.call false f [.bZ l.length (fM l E.enc),fv] J)=some (.val (.bool (dq l p)) J):=by
 refine pB hf (G8.eq_1 _ _) rfl ?_;have h:=contains_of E hh hi hl (Uc E hg ht) (J:=[]::J);obtain⟨h1,h2,h3⟩:=ht;have h4:(mK l λx => !p x) = !dq l p:=by
  unfold mK dq;rw[List.all_eq_not_any_not,Bool.not_not]
 simp[h1,h2,h,h4,hcl]
end
variable {T:DB}
theorem fA{f:Nat}{fn:Fn}{args:List D}{J J':SK}{d:D}{np:Nat}{res:List G5}{body:bV}(hT:T f=some fn)(hf:fn=⟨np,res,body⟩)(hl:args.length=np)(hs:J'.length=J.length)
  (h:WC (dt T) body (lR 0 args) ([]::J) (Sq J' res d)):
  dt T (.call false f args J)=some (.val d J'):=by
 subst hf;obtain⟨x,e1,J1,h1,h2,h2',ds,h3,s,h4⟩:=h;refine gZ ?_;rw[hs,YD]at h4;simp only[dH,hT,if_pos hl,aD,if_false,h1];cases x with
 |exit i=>exact absurd rfl (h2 i)
 |fw d=>exact absurd rfl (h2' d)
 |normal=>simp[h3,h4]
 |ret=>simp[h3,h4]
def okX:Exit->Prop
 |.normal=>True
 |.ret=>True
 |_=>False
@[simp] theorem akA:okX .ret=True:=aJ rfl
theorem sF{f:Nat}{fn:Fn}{args:List D}{J J':SK}{d:D}{np:Nat}{res:List G5}{body:bV}(hT:T f=some fn)(hf:fn=⟨np,res,body⟩)(hl:args.length=np)
  (h:WC (dt T) body (lR 0 args) J λx e J1=>okX x/\(Cy e J1 res).map uK=some d/\J1=J'):
  dt T (.call true f args J)=some (.val d J'):=by
 subst hf;obtain⟨x,e1,J1,h1,h2,h3,rfl⟩:=h;refine gZ ?_;simp only[ad]at h3;obtain⟨ds,h3,rfl⟩:=h3;simp only[dH,hT,if_pos hl,if_true,h1];cases x with
 |exit i=>exact h2.elim
 |fw d=>exact h2.elim
 |normal=>simp[h3]
 |ret=>simp[h3]
inductive A8 (T:DB) (l i:Nat) {α:Type} (f:α->List D):List α->SK->Bool->SK->Prop
 |nil (J:SK):A8 T l i f [] J true J
 |go (a:α) (xs:List α) (J J1 J2:SK) (b:Bool):dt T (.round l i (f a) J)=some (.val (.bool true) J1)->A8 T l i f xs J1 b J2->A8 T l i f (a::xs) J b J2
 |stop (a:α) (xs:List α) (J J1:SK):dt T (.round l i (f a) J)=some (.val (.bool false) J1)->A8 T l i f (a::xs) J false J1
theorem A8.split{l i:Nat}{α:Type}{f:α->List D}:∀{xs bs:List α} {J J':SK} {b:Bool},A8 T l i f (xs++bs) J b J' ->
  (∃J1,A8 T l i f xs J true J1/\A8 T l i f bs J1 b J')\/(b=false/\A8 T l i f xs J false J')
 |[],bs,J,J',b,h => .inl ⟨J,.nil J,h⟩
 |a::xs,bs,J,J',b,h=>by
  cases h with
  |go _ _ _ J1 _ _ h1 h2 =>
   rcases A8.split h2 with⟨J3,h3,h4⟩ | ⟨rfl,h3⟩
   .exact .inl ⟨J3,.go _ _ _ _ _ _ h1 h3,h4⟩
   .exact .inr ⟨rfl,.go _ _ _ _ _ _ h1 h3⟩
  |stop _ _ _ _ h1=>exact .inr ⟨rfl,.stop _ _ _ _ h1⟩
theorem T9{live:List Nat}{fo:bS}{params:List Nat}{CM body:bV}{e:Env}{s:List aF}{J J2:SK}{Q:Exit->Env->SK->Prop}{g:Nat}{first cap:List D}{d:D}{lp:yB}
  (hf:bC e fo=.fn g first cap)
  (hc:dt T (.call false g (first++[.j5 J.length s.length]++cap) ((s++[.loop {state:=0,zN:=none,env:=zW live e,params,CM,body }])::J))=some (.val d J2))
  (hb:ec J2 J.length s.length=some (.loop lp)) (hs:lp.state≠1)
  (hq:Q (lp.zN.getD .normal) (restrict live e) (bj J2 J.length s.length (.loop {lp with state:=3 }))):
  WC (dt T) (.O1 live fo params CM body) e (s::J) Q:=by
 refine⟨_,_,_,?_,hq⟩;simp only[bq,fR,hf,Jr,hc,R.dh,hb,if_neg hs]
def IM:Option aF->Option yB
 |some (.loop lp)=>some lp
 |_=>none
@[simp] theorem adz{lp:yB}:IM (some (.loop lp))=some lp:=aJ rfl
theorem AM{o:Option aF}{lp:yB}(h:IM o=some lp):o=some (.loop lp):=by
 cases o with
 |none=>cases h
 |some b=>cases b<;>cases h;rfl
def aix(l i:Nat)(b:Bool)(J':SK)(x:Exit)(J2:SK):Prop :=
 match x with
 |.fw _=>False
 |.normal=>WD (IM (ec J2.tail l i)) λlp2=>bj J2.tail l i (.loop {lp2 with state:=0,zN:=none })=J'/\b=true
 |x=>WD (IM (ec J2.tail l i)) λlp2=>bj J2.tail l i (.loop {lp2 with state:=2,zN:=some x })=J'/\b=false
@[simp] theorem adm{l i:Nat}{b:Bool}{J':SK}{s2:List aF}{J3:SK}:aix l i b J' .normal (s2::J3)=WD (IM (ec J3 l i)) λlp2=>bj J3 l i (.loop {lp2 with state:=0,zN:=none })=J'/\b=true:=aJ rfl
def V7(T:DB)(l i:Nat)(b:Bool)(J':SK)(n:Nat)(body:bV)(x:Exit)(e1:Env)(J1:SK)(_m:Mark body:=.mk):Prop :=
 x=.normal/\WD (IM (ec J1 l i)) λlp1=>lp1.state=0/\WC (dt T) body e1 (bj J1 l i (.loop {lp1 with state:=1 })) λx _ J2=>J2.length=n/\aix l i b J' x J2
theorem Ra{l i:Nat}{args:List D}{J J':SK}{b:Bool}{lp:yB}(hb:ec J l i=some (.loop lp))(hl:args.length=lp.params.length)
  (h:WC (dt T) lp.CM (Dp lp.params args lp.env) ([]::J) (V7 T l i b J' (J.length+1) lp.body)):
  dt T (.round l i args J)=some (.val (.bool b) J'):=by
 obtain⟨x,e1,J1,h1,rfl,lp1,h2,h3,x2,e2,J2,h4,hlen,h6⟩:=h;have h2:=AM h2;cases J2 with
 |nil=>simp at hlen
 |cons s2 J3 =>
 refine gZ ?_;simp only[dH,hb,if_pos hl,h1,h2,if_pos h3,h4];cases x2 with
 |normal=>obtain⟨lp2,h5,h6,rfl⟩:=h6;have h5:=AM h5;dsimp only [List.tail]at h5 h6 ⊢;rw[h5];dsimp only;rw[h6]
 |exit j=>obtain⟨lp2,h5,h6,rfl⟩:=h6;have h5:=AM h5;dsimp only [List.tail]at h5 h6 ⊢;rw[h5];dsimp only;rw[h6]
 |ret=>obtain⟨lp2,h5,h6,rfl⟩:=h6;have h5:=AM h5;dsimp only [List.tail]at h5 h6 ⊢;rw[h5];dsimp only;rw[h6]
 |fw d=>exact h6.elim
@[simp] theorem adK{t:Nat}{ts:List Nat}{d:D}{ds:List D}{e:Env}:Dp (t::ts) (d::ds) e=Dp ts ds ((t,d)::e):=aJ rfl
@[simp] theorem afS{ds:List D}{e:Env}:Dp [] ds e=e:=aJ (by cases ds<;>rfl)
@[simp] theorem agL{e:Env}:zW [] e=[]:=aJ rfl
@[simp] theorem ad4{t:Nat}{l:List Nat}{e:Env}:zW (t::l) e=(t,(get e t).strip)::zW l e:=aJ rfl
variable {T:DB}
def VS(vs:List Nat)(v:Nat)(d:D)(e:Env)(J:SK):Env×SK :=
 match d with
 |.sl l i u off m w=>vB vs ((v,(cH 0 deep (.sl l i u off m w) J).1)::e) (cH 0 deep (.sl l i u off m w) J).2
 |.own s cs=>vB vs ((v,.own s (cH.frzL (cH 0 deep) cs J).1)::e) (cH.frzL (cH 0 deep) cs J).2
 |.agg cs=>vB vs ((v,.agg (cs.map D.rN))::e) J
 |.undef=>if 1000000<=v then vB vs (Ms (v-1000000) e J).1 (Ms (v-1000000) e J).2 else vB vs e J
 |_=>vB vs e J
@[simp] theorem aiK{e:Env}{J:SK}:vB [] e J=(e,J):=aJ rfl
@[simp] theorem ag6{v:Nat}{vs:List Nat}{e:Env}{J:SK}:vB (v::vs) e J=VS vs v (get e v) e J:=by
 simp only[vB,VS];cases get e v<;>rfl
@[simp] theorem aks{v:Nat}{vs:List Nat}{e:Env}{J:SK}{l i u off m w:Nat}:VS vs v (.sl l i u off m w) e J =
  vB vs ((v,(cH 0 deep (.sl l i u off m w) J).1)::e) (cH 0 deep (.sl l i u off m w) J).2:=aJ rfl
@[simp] theorem aiG{v:Nat}{vs:List Nat}{e:Env}{J:SK}{s:Nat}{cs:List D}:VS vs v (.own s cs) e J =
  vB vs ((v,.own s (cH.frzL (cH 0 deep) cs J).1)::e) (cH.frzL (cH 0 deep) cs J).2:=aJ rfl
@[simp] theorem aiF{v:Nat}{vs:List Nat}{e:Env}{J:SK}{cs:List D}:VS vs v (.agg cs) e J=vB vs ((v,.agg (cs.map D.rN))::e) J:=aJ rfl
@[simp] theorem ail{k:IntKind}{n:Int}:D.rN (.int k n)=.int k n:=aJ rfl
@[simp] theorem Yo{n:Nat}{cs:List D}:D.rN (.bZ n cs)=.bZ n cs:=aJ rfl
@[simp] theorem agU:D.rN .bu=.bZ 0 []:=aJ rfl
def Sy(v:Nat)(d:D)(e:Env)(J:SK):Env×SK :=
 match d with
 |.bu=>((v,.bZ 0 [])::e,J)
 |.ref l i u 0=>((v,(HK l i u J).1)::e,(HK l i u J).2)
 |.own s cs=>((v,.own s (cs.map D.rN))::e,J)
 |.undef=>if 1000000<=v then(ack (v-1000000) e,J)else(e,J)
 |_=>(e,J)
def amF(v:Nat)(d:D)(e:Env):Env :=
 match d with
 |.own _ cs=>if e.all (λp=>match p.2 with | .vr x _ _=>x != v | _=>true)then(v,.aZ cs)::e else e
 |_=>e
@[simp] theorem akt{v:Nat}{e:Env}{J:SK}:Ms v e J=Sy v (get e v) e J:=rfl
@[simp] theorem ag5{v:Nat}{e:Env}{J:SK}:Sy v .bu e J=((v,.bZ 0 [])::e,J):=aJ rfl
@[simp] theorem aiH{v n:Nat}{cs:List D}{e:Env}{J:SK}:Sy v (.bZ n cs) e J=(e,J):=aJ rfl
@[simp] theorem aiJ{v l i u:Nat}{e:Env}{J:SK}:Sy v (.ref l i u 0) e J=((v,(HK l i u J).1)::e,(HK l i u J).2):=aJ rfl
@[simp] theorem aiI{v s:Nat}{cs:List D}{e:Env}{J:SK}:Sy v (.own s cs) e J=((v,.own s (cs.map D.rN))::e,J):=aJ rfl
@[simp] theorem aim{s:List UInt8}:D.rN (.str s)=.str s:=aJ rfl
@[simp] theorem get_none{t:Nat}:get [] t=.undef:=aJ rfl
@[simp] theorem afq{v:Nat}{vs:List Nat}{e:Env}{J:SK}:VS vs v .undef e J=if 1000000<=v then vB vs (Ms (v-1000000) e J).1 (Ms (v-1000000) e J).2 else vB vs e J:=aJ rfl
def amx(l n m off w:Nat)(J:SK)(s:D):Option (List D)->D×SK
 |some cs=>(.bZ m (cH.frzL (cH l n) ((cs.drop off).take (m*w)) J).1,(cH.frzL (cH l n) ((cs.drop off).take (m*w)) J).2)
 |none=>(.undef,J)
theorem YO{L i u off m w:Nat}{J:SK}{cs:List D}(hL:0<L)(hc:cells? J L i u=some cs):
  cH 0 16 (.sl L i u off m w) J=(.bZ m (cH.frzL (cH 0 15) ((cs.drop off).take (m*w)) (bj J L i .dead)).1,(cH.frzL (cH 0 15) ((cs.drop off).take (m*w)) (bj J L i .dead)).2):=by
 exact GP (by omega) hc (by omega)
theorem abN{J:SK}(hJ:J≠[]){bs:List aF}{i u m w:Nat}{cs:List D}(hb:bs[i]?=some (.cells u cs))(hcl:D.aW cs=true)(hlen:cs.length=m*w):
  cH 0 16 (.sl J.length i u 0 m w) (bs::J)=(.bZ m cs,bs.set i .dead::J):=by
 have h:=aH.2 hJ;rw[YO h (cs:=cs) (by simp[hb])];simp[<- hlen,hcl,af]
theorem OC{α:Type}{f:α->List D}{w:Nat}(hw:∀x,(f x).length=w)(l:List α):(fM l f).take (l.length*w)=fM l f :=
 af (by rw[bQ hw];exact aN _)
theorem ef{α:Type}{f:α->List D}(h:∀x,D.aW (f x)=true)(l:List α):D.aW (fM l f)=true:=by
 have app:∀a b:List D,D.aW (a++b)=(D.aW a && D.aW b):=by
  intro a b;induction a with
  |nil=>simp
  |cons x a ih=>simp[ih,Bool.and_assoc]
 induction l with
 |nil=>simp
 |cons a l ih=>simp[app,h,ih]
theorem gG{α:Type}{f:α->List D}{w:Nat}(hw:∀x,(f x).length=w)(hc:∀x,D.aW (f x)=true){l:List α}{j v:Nat}{bs:List aF}{J:SK}(hJ:J≠[])(hj:bs[j]?=some (.cells v (fM l f))):
  cH (J.length-1) 16 (.sl J.length j v 0 l.length w) (bs::J)=(.bZ l.length (fM l f),bs.set j .dead::J):=by
 have h3:¬J.length<=J.length-1:=by have:=aH.2 hJ;omega
 rw[GP h3 (cs:=fM l f) (by simp[hj]) (by omega)];simp[OC hw l,ef hc l]
theorem pM{α:Type}{f:α->List D}{w:Nat}(hw:∀x,(f x).length=w)(hc:∀x,D.aW (f x)=true){l:List α}{j v:Nat}{bs:List aF}{J:SK}(hJ:J≠[])(hj:bs[j]?=some (.cells v (fM l f))):
  cH 0 16 (.sl J.length j v 0 l.length w) (bs::J)=(.bZ l.length (fM l f),bs.set j .dead::J) :=
 abN hJ hj (ef hc l) (bQ hw l)
theorem No{α:Type}{f:α->List D}{w:Nat}(hw:∀x,(f x).length=w):∀{l:List α} {i:Nat} {x:α},i<l.length->(fM l f).take (i*w)++(f x++(fM l f).drop (i*w+w))=fM (l.set i x) f
 |[],i,x,h=>by simp at h
 |a::l,0,x,h=>by
  have h1:=hw a;simp only[Nat.zero_mul,List.take_zero,aY,di,List.set_cons_zero,cz];rw[<- h1,List.drop_left]
 |a::l,i+1,x,h=>by
  have h1:=hw a;have ih:=No (l:=l) (i:=i) (x:=x) hw (by simpa using h);simp only[di,List.set_cons_succ];rw[<- ih,show(i+1)*w=w+i*w by rw[eD];omega,<- h1,List.take_length_add_append,cS,show(f a).length+i*(f a).length+(f a).length=(f a).length+(i*(f a).length+(f a).length)by omega,da]
theorem re{α:Type}{f:α->List D}{w:Nat}(hw:∀x,(f x).length=w):∀{l:List α} {i:Nat} {x:α},l[i]?=some x->(fM l f).drop (i*w)=f x++(fM l f).drop (i*w+w)
 |[],i,x,h=>by simp at h
 |a::l,0,x,h=>by
  simp at h;subst h;have h1:=hw a;simp only[Nat.zero_mul,aC,di,cz];rw[<- h1,List.drop_left]
 |a::l,i+1,x,h=>by
  have h1:=hw a;have ih:=re (l:=l) (i:=i) (x:=x) hw (by simpa using h);simp only[di];rw[show(i+1)*w=w+i*w by rw[eD];omega,<- h1,da,show(f a).length+i*(f a).length+(f a).length=(f a).length+(i*(f a).length+(f a).length)by omega,da,h1,ih]
@[simp] theorem aiE{l:Nat}{J:SK}:pQ l [] J=([],J):=aJ rfl
@[simp] theorem ag4{l t:Nat}{d:D}{e:Env}{J:SK}:pQ l ((t,d)::e) J=((t,(cH l deep d J).1)::(pQ l e (cH l deep d J).2).1,(pQ l e (cH l deep d J).2).2):=aJ rfl
def UA(T:DB)(live:List Nat)(c:bV)(n:Nat)(Q:Exit->Env->SK->Prop)(_m:Mark c:=.mk)(_m':Mark Q:=.mk):Exit->Env->SK->Prop
 |.normal,e,J=>WL T live true c (pQ n (restrict live e) J).1 (pQ n (restrict live e) J).2.tail Q
 |.exit i,e,J=>Q (.exit i) (pQ n (restrict (keys e) e) J).1 (pQ n (restrict (keys e) e) J).2.tail
 |.ret,e,J=>Q .ret (pQ n (restrict (keys e) e) J).1 (pQ n (restrict (keys e) e) J).2.tail
 |.fw d,e,J=>Q (.fw d) (pQ n (restrict (keys e) e) J).1 (pQ n (restrict (keys e) e) J).2.tail
@[simp,simp ↓] theorem aci{live:List Nat}{c:bV}{n:Nat}{Q:Exit->Env->SK->Prop}{e:Env}{J:SK}:UA T live c n Q .mk .mk .normal e J=WL T live true c (pQ n (restrict live e) J).1 (pQ n (restrict live e) J).2.tail Q:=aJ rfl
@[simp,simp ↓] theorem afF{live:List Nat}{c:bV}{n i:Nat}{Q:Exit->Env->SK->Prop}{e:Env}{J:SK}:UA T live c n Q .mk .mk (.exit i) e J=Q (.exit i) (pQ n (restrict (keys e) e) J).1 (pQ n (restrict (keys e) e) J).2.tail:=aJ rfl
@[simp,simp ↓] theorem ahn{live:List Nat}{c:bV}{n:Nat}{Q:Exit->Env->SK->Prop}{e:Env}{J:SK}:UA T live c n Q .mk .mk .ret e J=Q .ret (pQ n (restrict (keys e) e) J).1 (pQ n (restrict (keys e) e) J).2.tail:=aJ rfl
theorem G7{live:List Nat}{c c':bV}{e:Env}{J:SK}{Q:Exit->Env->SK->Prop}(hc:c=c')(h:WC (dt T) c' (restrict live e) ([]::J) (UA T live c (J.length-1) Q .mk .mk)):WL T live true c e J Q:=by
 rw[<- hc]at h;obtain⟨x,e1,J1,h1,h2⟩:=h;cases x with
 |normal =>
  obtain⟨x,e',J',h3,h4⟩:=h2;exact⟨x,e',J',gZ (by simp[dH,h1,BQ,h3]),h4⟩
 |exit i=>exact⟨_,_,_,gZ (by simp[dH,h1,BQ]),h2⟩
 |ret=>exact⟨_,_,_,gZ (by simp[dH,h1,BQ]),h2⟩
 |fw d=>exact⟨_,_,_,gZ (by simp[dH,h1,BQ]),h2⟩
def amu(n:Nat)(Q:Exit->Env->SK->Prop)(_m:Mark Q:=.mk):Exit->Env->SK->Prop:=λx e J=>Q x (pQ n (restrict (keys e) e) J).1 (pQ n (restrict (keys e) e) J).2.tail
@[simp] theorem keys_nil:keys []=[]:=aJ rfl
@[simp] theorem keys_cons{t:Nat}{d:D}{e:Env}:keys ((t,d)::e)=t::keys (e.filter λp => !(p.1 == t)):=by
 simp only[keys,aM,List.eraseDups_cons,List.filter_map];rfl
end Go.Abs
namespace Go.Abs
def qo(d:Nat)(k:K):Op:=⟨some d,none,false,k⟩
def qO(d:Nat)(k:K):Op:=⟨some d,none,true,k⟩
def qm(d x:Nat):Op:=⟨some d,none,false,.mv (.t x)⟩
def qM(d x:Nat):Op:=⟨some d,none,true,.mv (.t x)⟩
def qi(d:Nat)(n:Int):Op:=⟨some d,none,false,.mv (.c (.int .i64 n))⟩
def qb(d:Nat)(b:Bool):Op:=⟨some d,none,false,.mv (.c (.bool b))⟩
def qf(d o x:Nat):Op:=⟨some d,none,false,.Mq o (.t x)⟩
def qF(d o x:Nat):Op:=⟨some d,none,true,.Mq o (.t x)⟩
def ql(d n x:Nat):Op:=⟨some d,none,false,.ld false n (.t x)⟩
def qL(d n x:Nat):Op:=⟨some d,none,true,.ld false n (.t x)⟩
def qa(d n x:Nat):Op:=⟨some d,none,false,.ld true n (.t x)⟩
def qA(d n x:Nat):Op:=⟨some d,none,true,.ld true n (.t x)⟩
def qv(d v n a:Nat):Op:=⟨some d,none,false,.WA v false n a⟩
def qV(d v n a:Nat):Op:=⟨some d,none,true,.WA v false n a⟩
def qw(d v n a:Nat):Op:=⟨some d,none,false,.WA v true n a⟩
def qW(d v n a:Nat):Op:=⟨some d,none,true,.WA v true n a⟩
def qx(d x:Nat):Op:=⟨some d,none,false,.Mm (.t x)⟩
def qe(d x:Nat):Op:=⟨some d,none,false,.My (.t x)⟩
def qE(d x:Nat):Op:=⟨some d,none,true,.My (.t x)⟩
def qj(d w x i:Nat):Op:=⟨some d,none,false,.IL w (.t x) (.t i)⟩
def qJ(d w x i:Nat):Op:=⟨some d,none,true,.IL w (.t x) (.t i)⟩
def qk(d:Nat)(o:BinOp)(x y:Nat):Op:=⟨some d,none,false,.bin o (.t x) (.t y)⟩
def qK(d:Nat)(o:BinOp)(x y:Nat):Op:=⟨some d,none,true,.bin o (.t x) (.t y)⟩
def qn(d:Nat)(o:BinOp)(x:Nat)(n:Int):Op:=⟨some d,none,false,.bin o (.t x) (.c (.int .i64 n))⟩
def qN(d:Nat)(o:BinOp)(x:Nat)(n:Int):Op:=⟨some d,none,true,.bin o (.t x) (.c (.int .i64 n))⟩
def qu(d x:Nat):Op:=⟨some d,none,false,.un .not (.t x)⟩
def qp(d c x:Nat):Op:=⟨some d,none,false,.pick (.t c) (.t x) (.c (.bool false))⟩
def qP(d c x:Nat):Op:=⟨some d,none,false,.pick (.t c) (.c (.bool true)) (.t x)⟩
def qs(v n a x:Nat):Op:=⟨none,none,false,.Iq v [] n a (.t x)⟩
def qS(v n a x:Nat):Op:=⟨none,none,true,.Iq v [] n a (.t x)⟩
def qt(n a x:Nat):Op:=⟨none,none,false,.st [] n (.t a) (.t x)⟩
def qz(d x i:Nat):Op:=⟨some d,none,false,.ext (.t x) i⟩
def qZ(d x i:Nat):Op:=⟨some d,none,true,.ext (.t x) i⟩
def qc(d f:Nat)(a:List Nat):Op:=⟨some d,none,false,.call false (.c (.fn f [] [])) (a.map .t)⟩
def qC(d f:Nat)(a:List Nat):Op:=⟨some d,none,true,.call false (.c (.fn f [] [])) (a.map .t)⟩
def qy(d w b s x:Nat):Op:=⟨some d,none,false,.app w b (.t s) (.t x)⟩
def qg(t:Nat)(b:Bool)(o:Op):Op:=⟨o.dst,some (t,b),o.DU,o.k⟩
end Go.Abs
