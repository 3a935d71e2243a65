import Derived.Test.YtanhdobabijmoaaGreatDoorBase20
import Derived.IntWalk
set_option linter.all false
namespace Go.aA
open Go
theorem WL.to{T:BJ}{live:List Nat}{bB:Bool}{c:cc}{e e':Env}{J J':SK}{Q Q':Exit->Env->SK->Prop}(h:WL T live bB c e J Q)(he:e'=e)(hs:J'=J)
  (hq:∀x e J,Q x e J->Q' x e J):WL T live bB c e' J' Q':=by subst he hs;exact h.mono hq
theorem bK{α:Type}{f:α->List D}{w:Nat}(hw:∀x,(f x).length=w)(l:List α):(l.flatMap f).length=l.length*w:=by
 induction l with
 |nil=>simp
 |cons a l ih=>simp[hw,ih,cq];omega
theorem bX{α:Type}{f:α->List D}{w:Nat}(hw:∀x,(f x).length=w):∀{l:List α} {i:Nat} {x:α},l[i]?=some x->((l.flatMap f).drop (i*w)).take w=f x
 |[],i,x,h=>by simp at h
 |a::l,0,x,h=>by
  simp at h;subst h;simp[<- hw a]
 |a::l,i+1,x,h=>by
  have e:(i+1)*w=(f a).length+i*w:=by rw[hw,cq];omega
  rw[aS,e,List.drop_append];simp only[Nat.add_sub_cancel_left,aE (Nat.le_add_right _ _),aQ];exact bX hw (by simpa using h)
theorem drop_at{α:Type}{l:List α}{i:Nat}{x:α}(h:l[i]?=some x):l.drop i=x::l.drop (i+1):=by
 have h1:i<l.length:=(ar.1 h).1;rw[List.drop_eq_getElem_cons h1];rw[aC h1]at h;simp at h;rw[h]
theorem F7{α:Type}{f:α->List D}{l:List α}{i:Nat}{x:α}(h:l[i]?=some x):(l.take i).flatMap f++f x=(l.take (i+1)).flatMap f:=by
 rw[List.take_add_one,h];simp
theorem M9{α:Type}{f:α->D}(l:List α):l.flatMap (λx=>[f x])=l.map f:=by
 induction l with
 |nil=>rfl
 |cons a l ih=>simp[ih]
theorem eQ{n:Int}(h : -9223372036854775808<=n/\n<=9223372036854775807:=by omega):IntKind.i64.wrap n=n:=IntWalk.i64_in n h
@[simp] theorem ahh:IntKind.i64.wrap 0=0:=by decide
@[simp] theorem ahi:IntKind.i64.wrap 1=1:=by decide
@[simp] theorem ahj:IntKind.i64.wrap 2=2:=by decide
@[simp] theorem ahk:IntKind.i64.wrap 3=3:=by decide
@[simp] theorem ahl:IntKind.i64.wrap 4=4:=by decide
theorem wu8{n:Int}(h:0<=n/\n<=255):IntKind.u8.wrap n=n:=IntWalk.u8_in n h
theorem dJ{i n:Nat}(h:i<n)(hn:n<=9223372036854775807:=by omega):IntKind.i64.wrap ((i:Int)+1)=((i+1:Nat):Int):=by
 rw[eQ (by omega)];rfl
variable {T:BJ}
def idxOf{α:Type}(p:α->Bool):List α->Int
 |[] => -1
 |x::l=>if p x then 0 else if idxOf p l<0 then -1 else idxOf p l+1
theorem C4{α:Type}{p:α->Bool}:∀{l:List α},idxOf p l<0↔l.any p=false
 |[]=>by simp[idxOf]
 |x::l=>by
  have ih:=C4 (p:=p) (l:=l);simp only[idxOf,List.any_cons];cases h:p x
  .simp only[az,if_false,Bool.false_or];by_cases h1:idxOf p l<0
   .rw[if_pos h1,ih.1 h1];decide
   .rw[if_neg h1];have h2:¬l.any p=false:=λh=>h1 (ih.2 h)
    exact⟨λh3=>absurd h3 (by omega),λh3=>absurd h3 h2⟩
  .simp
def fL{α:Type}(l:List α)(p:α->Bool):Bool:=l.all p
def tV{α:Type}(l:List α)(p:α->Bool):Bool:=l.any p
theorem jq{α:Type}{l:List α}{p:α->Bool}:fL l p=true↔∀x∈l,p x=true:=by simp[fL]
theorem Ig{α:Type}{l:List α}{p:α->Bool}:tV l p=true↔∃x∈l,p x=true:=by simp[tV]
def oJ(T:BJ){α:Type}(fv:D)(val:α->D)(p:α->Bool)(l:List α):Prop :=
 fv.strip=fv/\fv.calm=fv/\∀x∈l,∀J,pO (lim T) false fv [val x] J=some (.bool (p x),J)
theorem oJ.fn{α:Type}{f:Nat}{first cap:List D}{val:α->D}{p:α->Bool}{l:List α}
  (h:∀x∈l,∀J,lim T (.call false f (first++[val x]++cap) J)=some (.val (.bool (p x)) J)):oJ T (.fn f first cap) val p l :=
 ⟨rfl,rfl,λx hx J=>by rw[td,h x hx J];rfl⟩
structure WI(α:Type) where
 ag:Bool
 w:Nat
 enc:α->List D
 val:α->D
 len:∀x,(enc x).length=w
 load:∀x,Ov ag w (some (enc x))=some (val x)
 strip:∀x,(val x).strip=val x
 calm:∀x,(val x).calm=val x
 cells:∀x,(val x).cells=some (enc x)
def IA(k:IntKind):WI Int:=⟨false,1,λn=>[.int k n],λn => .int k n,λ_=>rfl,λ_=>by simp,λ_=>rfl,λ_=>rfl,λ_=>rfl⟩
def afk:WI Bool:=⟨false,1,λn=>[.bool n],λn => .bool n,λ_=>rfl,λ_=>by simp,λ_=>rfl,λ_=>rfl,λ_=>rfl⟩
def yt{α:Type}(w:Nat)(enc:α->List D)(h:∀x,(enc x).length=w):WI α :=
 ⟨true,w,enc,λx => .agg (enc x),h,λx=>by simp[h,af],λ_=>rfl,λ_=>rfl,λ_=>rfl⟩
section index
variable (ag:Bool) (w:Nat)
def IJ:cc :=
 (.seq (.tT [0,1,7,8,9] [⟨some 9,none,false,.bin .lss (.t 8) (.t 7)⟩]) (.seq (.ite (.t 9) .Hu (.exit 0)) (.seq (.dr 1 (.seq (.tT [0,1,5,7,8] [
 ⟨some 10,none,false,.mv (.t 8)⟩,
 ⟨some 5,none,false,.mv (.t 10)⟩]) (.seq (.tT [0,1,5,7,8,16] [
 ⟨some 11,none,false,.mv (.t 1)⟩,
 ⟨some 12,none,false,.mv (.t 0)⟩,
 ⟨some 13,none,false,.mv (.t 5)⟩,
 ⟨some 14,none,false,.He w (.t 12) (.t 13)⟩,
 ⟨some 15,none,false,.ld ag w (.t 14)⟩,
 ⟨some 16,none,false,.call false (.t 11) [(.t 15)]⟩]) (.ite (.t 16) (.seq (.tT [4] [
 ⟨some 17,none,false,.mv (.t 5)⟩,
 ⟨some 4,none,false,.mv (.t 17)⟩]) .ret) .Hu)))) (.tT [0,1,7,8] [
 ⟨some 18,none,false,.bin .add (.t 8) (.c (.int .i64 1))⟩,
 ⟨some 8,none,false,.mv (.t 18)⟩]))))
def vA:Fn:=⟨2,[.t 4],
 (.seq (.tT [0,1] [⟨some 4,none,false,.mv (.c (.int .i64 0))⟩]) (.seq (.seq (.tT [0,1,7,8] [
 ⟨some 6,none,false,.mv (.t 0)⟩,
 ⟨some 7,none,false,.JK (.t 6)⟩,
 ⟨some 8,none,false,.mv (.c (.int .i64 0))⟩]) (.dr 0 (.loop [0,1,7,8] false (IJ ag w)))) (.seq (.tT [4] [
 ⟨some 4,none,false,.mv (.c (.int .i64 (-1)))⟩]) .ret)))⟩
def iS(i:Nat):Fn:=⟨2,[.t 4],
 (.seq (.tT [0,1] [⟨some 4,none,false,.mv (.c (.bool false))⟩]) (.seq (.tT [4] [
 ⟨some 5,none,false,.mv (.t 0)⟩,
 ⟨some 6,none,false,.mv (.t 1)⟩,
 ⟨some 7,none,false,.call false (.c (.fn i [] [])) [(.t 5),(.t 6)]⟩,
 ⟨some 8,none,false,.bin .geq (.t 7) (.c (.int .i64 0))⟩,
 ⟨some 4,none,false,.mv (.t 8)⟩]) .ret))⟩
def ET(g h:Nat):Fn:=⟨2,[.t 4],
 (.seq (.tT [0,3] [
 ⟨some 3,none,false,.JC (.t 1)⟩,
 ⟨some 4,none,false,.mv (.c (.bool false))⟩]) (.seq (.tT [4] [
 ⟨some 5,none,false,.mv (.t 0)⟩,
 ⟨some 6,none,false,.UJ g [] [(.t 3)]⟩,
 ⟨some 7,none,false,.call false (.c (.fn h [] [])) [(.t 5),(.t 6)]⟩,
 ⟨some 8,none,false,.un .not (.t 7)⟩,
 ⟨some 4,none,false,.mv (.t 8)⟩]) .ret))⟩
def zU:Bool->Nat->Fn
 |true,w=>⟨2,[.t 3],
 (.seq (.tT [1,2] [
 ⟨some 2,none,false,.JC (.t 0)⟩,
 ⟨some 3,none,false,.mv (.c (.bool false))⟩]) (.seq (.tT [3] [
 ⟨some 4,none,false,.ld false 1 (.t 1)⟩,
 ⟨some 5,none,false,.ld true w (.t 2)⟩,
 ⟨some 6,none,false,.call false (.t 4) [(.t 5)]⟩,
 ⟨some 7,none,false,.un .not (.t 6)⟩,
 ⟨some 3,none,false,.mv (.t 7)⟩]) .ret))⟩
 |false,_=>⟨2,[.t 3],
 (.seq (.tT [0,1] [
 ⟨some 3,none,false,.mv (.c (.bool false))⟩]) (.seq (.tT [3] [
 ⟨some 4,none,false,.ld false 1 (.t 1)⟩,
 ⟨some 5,none,false,.mv (.t 0)⟩,
 ⟨some 6,none,false,.call false (.t 4) [(.t 5)]⟩,
 ⟨some 7,none,false,.un .not (.t 6)⟩,
 ⟨some 3,none,false,.mv (.t 7)⟩]) .ret))⟩
end index
section
variable {α:Type} (E:WI α) {p:α->Bool} {fv:D} {l:List α}
theorem Nu(hl:l.length<=9223372036854775807)(ht:oJ T fv E.val p l){J:SK}:∀(m i:Nat),i+m=l.length ->
  WL T [0,1,7,8] false (IJ E.ag E.w) [(0,.aJ l.length (l.flatMap E.enc)),(1,fv),(7,.int .i64 l.length),(8,.int .i64 i)] J
   (λx e J'=>J'=J/\if idxOf p (l.drop i)<0 then x=.exit 0 else x=.ret/\get e 4=.int .i64 (i+idxOf p (l.drop i)))
 |0,i,hi=>by
  obtain⟨h1,h2,h3⟩:=ht;refine aH (IJ.eq_1 _ _) ?_;have:¬i<l.length:=by omega
  have h5:l.drop i=[]:=by simp;omega
  simp[this,h1,h2,h5,idxOf]
 |m+1,i,hi=>by
  have ih:=Nu hl ht (J:=J) m (i+1) (by omega);obtain⟨h1,h2,h3⟩:=ht;refine aH (IJ.eq_1 _ _) ?_;have h4:i<l.length:=by omega
  obtain⟨x,hx⟩:=gE h4;have h5:=bX (f:=E.enc) E.len hx;have h6:=h3 x (ai hx) J;have h7:=dJ h4 hl;have h8:l.drop i=x::l.drop (i+1):=by
   rw[List.drop_eq_getElem_cons h4];rw[aC h4]at hx;simp at hx;rw[hx]
  cases hp:p x
  .rw[hp]at h6;simp[h4,h1,h2,h5,h6,h7,E.load,E.strip,E.calm];refine WL.mono (by simpa using ih) ?_;rintro x e J' ⟨h9,h10⟩;refine⟨h9,?_⟩;rw[h8];simp only[idxOf,hp,az,if_false];by_cases h11:idxOf p (l.drop (i+1))<0
   .simpa[h11]using h10
   .rw[if_neg h11]at h10;rw[if_neg h11,if_neg (by omega)];refine⟨h10.1,?_⟩;rw[h10.2];congr 1;push_cast;omega
  .rw[hp]at h6;simp[h4,h1,h2,h5,h6,h7,E.load,E.strip,E.calm,h8,idxOf,hp]
theorem Nx{f:Nat}(hT:T f=some (vA E.ag E.w))(hl:l.length<=9223372036854775807)(ht:oJ T fv E.val p l){J:SK}:
  lim T (.call false f [.aJ l.length (l.flatMap E.enc),fv] J)=some (.val (.int .i64 (idxOf p l)) J):=by
 refine aw hT (vA.eq_1 _ _) rfl ?_;have h:=Nu E hl ht (J:=[]::J) l.length 0 (by simp);obtain⟨h1,h2,h3⟩:=ht;simp[h1,h2];refine WL.mono (by simpa using h) ?_;rintro x e J' ⟨rfl,h10⟩
 try simp only[aP]at h10
 by_cases h11:idxOf p l<0
 .rw[if_pos h11]at h10;subst h10;have:idxOf p l = -1:=by
   cases l with
   |nil=>rfl
   |cons a l =>
    simp only[idxOf]at h11 ⊢;split at h11<;>rename_i ha
    .omega
    .rw[if_neg ha];split at h11<;>rename_i hb
     .rw[if_pos hb]
     .omega
  simp[this]
 .rw[if_neg h11]at h10;obtain⟨rfl,h12⟩:=h10
  try simp at h12
  simp[h12]
theorem contains_of{f i:Nat}(hT:T f=some (iS i))(hi:T i=some (vA E.ag E.w))(hl:l.length<=9223372036854775807)(ht:oJ T fv E.val p l){J:SK}:
  lim T (.call false f [.aJ l.length (l.flatMap E.enc),fv] J)=some (.val (.bool (tV l p)) J):=by
 refine aw hT (iS.eq_1 _) rfl ?_;have h:=Nx E hi hl ht (J:=[]::J);obtain⟨h1,h2,h3⟩:=ht;have h4:decide (0<=idxOf p l)=tV l p:=by
  unfold tV;have h6:=C4 (p:=p) (l:=l);cases h5:l.any p
  .have:=h6.2 h5;exact decide_eq_false (by omega)
  .exact decide_eq_true (by
    have:¬idxOf p l<0:=λh=>by rw[h6.1 h]at h5;cases h5
    omega)
 simp[h1,h2,h,h4]
theorem Qm{g:Nat}(hT:T g=some (zU E.ag E.w))(ht:oJ T fv E.val p l):oJ T (.fn g [] [.bq [fv]]) E.val (λx => !p x) l:=by
 refine oJ.fn λx hx J=>?_
 obtain⟨h1,h2,h3⟩:=ht;have h6:=h3 x hx ([]::J);have hc:=E.cells x;have hl:=E.load x;have hs:=E.strip x;have hcm:=E.calm x;generalize E.ag=ag at *
 cases ag with
 |true =>
  refine aw hT (zU.eq_1 _) rfl ?_;simp[h1,h2,h6,hc,hl,hs,hcm]
 |false =>
  refine aw hT (zU.eq_2 _) rfl ?_;simp[h1,h2,h6,hc,hl,hs,hcm]
theorem AX{f g h i:Nat}(hf:T f=some (ET g h))(hg:T g=some (zU E.ag E.w))(hh:T h=some (iS i))(hi:T i=some (vA E.ag E.w))
  (hl:l.length<=9223372036854775807) (ht:oJ T fv E.val p l) (hcl:fv.cells=some [fv]) {J:SK}:
  lim T (.call false f [.aJ l.length (l.flatMap E.enc),fv] J)=some (.val (.bool (fL l p)) J):=by
 refine aw hf (ET.eq_1 _ _) rfl ?_;have h:=contains_of E hh hi hl (Qm E hg ht) (J:=[]::J);obtain⟨h1,h2,h3⟩:=ht;have h4:(tV l λx => !p x) = !fL l p:=by
  unfold tV fL;rw[List.all_eq_not_any_not,Bool.not_not]
 simp[h1,h2,h,h4,hcl]
end
variable {T:BJ}
theorem dN{f:Nat}{fn:Fn}{args:List D}{J J':SK}{d:D}{np:Nat}{res:List Ez}{body:cc}(hT:T f=some fn)(hf:fn=⟨np,res,body⟩)(hl:args.length=np)(hs:J'.length=J.length)
  (h:WC (lim T) body (l8 0 args) ([]::J) (M4 J' res d)):
  lim T (.call false f args J)=some (.val d J'):=by
 subst hf;obtain⟨x,e1,J1,h1,h2,h2',ds,h3,s,h4⟩:=h;refine gS ?_;rw[hs,T5]at h4;simp only[dh,hT,if_pos hl,az,if_false,h1];cases x with
 |exit i=>exact absurd rfl (h2 i)
 |fp d=>exact absurd rfl (h2' d)
 |normal=>simp[h3,h4]
 |ret=>simp[h3,h4]
def okX:Exit->Prop
 |.normal=>True
 |.ret=>True
 |_=>False
@[simp] theorem afw:okX .ret=True:=aG rfl
theorem xE{f:Nat}{fn:Fn}{args:List D}{J J':SK}{d:D}{np:Nat}{res:List Ez}{body:cc}(hT:T f=some fn)(hf:fn=⟨np,res,body⟩)(hl:args.length=np)
  (h:WC (lim T) body (l8 0 args) J λx e J1=>okX x/\(Az e J1 res).map vb=some d/\J1=J'):
  lim T (.call true f args J)=some (.val d J'):=by
 subst hf;obtain⟨x,e1,J1,h1,h2,h3,rfl⟩:=h;refine gS ?_;simp only[ab]at h3;obtain⟨ds,h3,rfl⟩:=h3;simp only[dh,hT,if_pos hl,if_true,h1];cases x with
 |exit i=>exact h2.elim
 |fp d=>exact h2.elim
 |normal=>simp[h3]
 |ret=>simp[h3]
inductive zM (T:BJ) (l i:Nat) {α:Type} (f:α->List D):List α->SK->Bool->SK->Prop
 |nil (J:SK):zM T l i f [] J true J
 |go (a:α) (xs:List α) (J J1 J2:SK) (b:Bool):lim T (.round l i (f a) J)=some (.val (.bool true) J1)->zM T l i f xs J1 b J2->zM T l i f (a::xs) J b J2
 |stop (a:α) (xs:List α) (J J1:SK):lim T (.round l i (f a) J)=some (.val (.bool false) J1)->zM T l i f (a::xs) J false J1
theorem zM.split{l i:Nat}{α:Type}{f:α->List D}:∀{xs bs:List α} {J J':SK} {b:Bool},zM T l i f (xs++bs) J b J' ->
  (∃J1,zM T l i f xs J true J1/\zM T l i f bs J1 b J')\/(b=false/\zM T l i f xs J false J')
 |[],bs,J,J',b,h => .inl ⟨J,.nil J,h⟩
 |a::xs,bs,J,J',b,h=>by
  cases h with
  |go _ _ _ J1 _ _ h1 h2 =>
   rcases zM.split h2 with⟨J3,h3,h4⟩ | ⟨rfl,h3⟩
   .exact .inl ⟨J3,.go _ _ _ _ _ _ h1 h3,h4⟩
   .exact .inr ⟨rfl,.go _ _ _ _ _ _ h1 h3⟩
  |stop _ _ _ _ h1=>exact .inr ⟨rfl,.stop _ _ _ _ h1⟩
theorem Qj{live:List Nat}{fo:bI}{params:List Nat}{AY body:cc}{e:Env}{s:List aO}{J J2:SK}{Q:Exit->Env->SK->Prop}{g:Nat}{first cap:List D}{d:D}{lp:xZ}
  (hf:bu e fo=.fn g first cap)
  (hc:lim T (.call false g (first++[.jm J.length s.length]++cap) ((s++[.loop {state:=0,yJ:=none,env:=yQ live e,params,AY,body }])::J))=some (.val d J2))
  (hb:dG J2 J.length s.length=some (.loop lp)) (hs:lp.state≠1)
  (hq:Q (lp.yJ.getD .normal) (restrict live e) (aZ J2 J.length s.length (.loop {lp with state:=3 }))):
  WC (lim T) (.LY live fo params AY body) e (s::J) Q:=by
 refine⟨_,_,_,?_,hq⟩;simp only[bg,fR,hf,GF,hc,R.aU,hb,if_neg hs]
def Gc:Option aO->Option xZ
 |some (.loop lp)=>some lp
 |_=>none
@[simp] theorem Y6{lp:xZ}:Gc (some (.loop lp))=some lp:=aG rfl
theorem zw{o:Option aO}{lp:xZ}(h:Gc o=some lp):o=some (.loop lp):=by
 cases o with
 |none=>cases h
 |some b=>cases b<;>cases h;rfl
def adv(l i:Nat)(b:Bool)(J':SK)(x:Exit)(J2:SK):Prop :=
 match x with
 |.fp _=>False
 |.normal=>WD (Gc (dG J2.tail l i)) λlp2=>aZ J2.tail l i (.loop {lp2 with state:=0,yJ:=none })=J'/\b=true
 |x=>WD (Gc (dG J2.tail l i)) λlp2=>aZ J2.tail l i (.loop {lp2 with state:=2,yJ:=some x })=J'/\b=false
@[simp] theorem YX{l i:Nat}{b:Bool}{J':SK}{s2:List aO}{J3:SK}:adv l i b J' .normal (s2::J3)=WD (Gc (dG J3 l i)) λlp2=>aZ J3 l i (.loop {lp2 with state:=0,yJ:=none })=J'/\b=true:=aG rfl
def Si(T:BJ)(l i:Nat)(b:Bool)(J':SK)(n:Nat)(body:cc)(x:Exit)(e1:Env)(J1:SK)(_m:Mark body:=.mk):Prop :=
 x=.normal/\WD (Gc (dG J1 l i)) λlp1=>lp1.state=0/\WC (lim T) body e1 (aZ J1 l i (.loop {lp1 with state:=1 })) λx _ J2=>J2.length=n/\adv l i b J' x J2
theorem N2{l i:Nat}{args:List D}{J J':SK}{b:Bool}{lp:xZ}(hb:dG J l i=some (.loop lp))(hl:args.length=lp.params.length)
  (h:WC (lim T) lp.AY (Bt lp.params args lp.env) ([]::J) (Si T l i b J' (J.length+1) lp.body)):
  lim T (.round l i args J)=some (.val (.bool b) J'):=by
 obtain⟨x,e1,J1,h1,rfl,lp1,h2,h3,x2,e2,J2,h4,hlen,h6⟩:=h;have h2:=zw h2;cases J2 with
 |nil=>simp at hlen
 |cons s2 J3 =>
 refine gS ?_;simp only[dh,hb,if_pos hl,h1,h2,if_pos h3,h4];cases x2 with
 |normal=>obtain⟨lp2,h5,h6,rfl⟩:=h6;have h5:=zw h5;dsimp only [List.tail]at h5 h6 ⊢;rw[h5];dsimp only;rw[h6]
 |exit j=>obtain⟨lp2,h5,h6,rfl⟩:=h6;have h5:=zw h5;dsimp only [List.tail]at h5 h6 ⊢;rw[h5];dsimp only;rw[h6]
 |ret=>obtain⟨lp2,h5,h6,rfl⟩:=h6;have h5:=zw h5;dsimp only [List.tail]at h5 h6 ⊢;rw[h5];dsimp only;rw[h6]
 |fp d=>exact h6.elim
@[simp] theorem Zf{t:Nat}{ts:List Nat}{d:D}{ds:List D}{e:Env}:Bt (t::ts) (d::ds) e=Bt ts ds ((t,d)::e):=aG rfl
@[simp] theorem aaY{ds:List D}{e:Env}:Bt [] ds e=e:=aG (by cases ds<;>rfl)
@[simp] theorem abQ{e:Env}:yQ [] e=[]:=aG rfl
@[simp] theorem Zy{t:Nat}{l:List Nat}{e:Env}:yQ (t::l) e=(t,(get e t).strip)::yQ l e:=aG rfl
variable {T:BJ}
def RW(vs:List Nat)(v:Nat)(d:D)(e:Env)(J:SK):Env×SK :=
 match d with
 |.sl l i u off m w=>vI vs ((v,(cC 0 deep (.sl l i u off m w) J).1)::e) (cC 0 deep (.sl l i u off m w) J).2
 |.own s cs=>vI vs ((v,.own s (cC.frzL (cC 0 deep) cs J).1)::e) (cC.frzL (cC 0 deep) cs J).2
 |.agg cs=>vI vs ((v,.agg (cs.map D.xe))::e) J
 |.undef=>if 1000000<=v then vI vs (JH (v-1000000) e J).1 (JH (v-1000000) e J).2 else vI vs e J
 |_=>vI vs e J
@[simp] theorem adI{e:Env}{J:SK}:vI [] e J=(e,J):=aG rfl
@[simp] theorem aca{v:Nat}{vs:List Nat}{e:Env}{J:SK}:vI (v::vs) e J=RW vs v (get e v) e J:=by
 simp only[vI,RW];cases get e v<;>rfl
@[simp] theorem afo{v:Nat}{vs:List Nat}{e:Env}{J:SK}{l i u off m w:Nat}:RW vs v (.sl l i u off m w) e J =
  vI vs ((v,(cC 0 deep (.sl l i u off m w) J).1)::e) (cC 0 deep (.sl l i u off m w) J).2:=aG rfl
@[simp] theorem adE{v:Nat}{vs:List Nat}{e:Env}{J:SK}{s:Nat}{cs:List D}:RW vs v (.own s cs) e J =
  vI vs ((v,.own s (cC.frzL (cC 0 deep) cs J).1)::e) (cC.frzL (cC 0 deep) cs J).2:=aG rfl
@[simp] theorem adD{v:Nat}{vs:List Nat}{e:Env}{J:SK}{cs:List D}:RW vs v (.agg cs) e J=vI vs ((v,.agg (cs.map D.xe))::e) J:=aG rfl
@[simp] theorem adi{k:IntKind}{n:Int}:D.xe (.int k n)=.int k n:=aG rfl
@[simp] theorem adj{n:Nat}{cs:List D}:D.xe (.aJ n cs)=.aJ n cs:=aG rfl
def Nf(v:Nat)(d:D)(e:Env)(J:SK):Env×SK :=
 match d with
 |.bP=>((v,.aJ 0 [])::e,J)
 |.ref l i u 0=>((v,(mh l i u J).1)::e,(mh l i u J).2)
 |.own s cs=>((v,.own s (cs.map D.xe))::e,J)
 |.undef=>if 2000000<=v then JG (v-2000000) e J else if 1000000<=v then(U2 (v-1000000) e,J)else(e,J)
 |_=>(e,J)
def ahx(v:Nat)(d:D)(e:Env):Env :=
 match d with
 |.own _ cs=>if e.all (λp=>match p.2 with | .vr x _ _=>x != v | _=>true)then(v,.bq cs)::e else e
 |_=>e
@[simp] theorem aaB{v:Nat}{e:Env}{J:SK}:Nf v .undef e J=if 2000000<=v then JG (v-2000000) e J else if 1000000<=v then(U2 (v-1000000) e,J)else(e,J):=aG rfl
theorem Xi{v l i u l2 i2 u2:Nat}{e:Env}{J:SK}(h:get e v=.ref l i u 0)(hc:cells? J l i u=some [.ref l2 i2 u2 0])(h1:cells? (mh l2 i2 u2 J).2 l i u=some [.ref l2 i2 u2 0])(h2:(mh l2 i2 u2 J).1.clean=true):
  JG v e J=((v,(mh l i u (aZ (mh l2 i2 u2 J).2 l i (.cells u [(mh l2 i2 u2 J).1]))).1)::e,(mh l i u (aZ (mh l2 i2 u2 J).2 l i (.cells u [(mh l2 i2 u2 J).1]))).2):=by
 simp only[JG,h,hc,h1,h2,and_self,if_true]
@[simp] theorem afp{v:Nat}{e:Env}{J:SK}:JH v e J=Nf v (get e v) e J:=rfl
@[simp] theorem ab9{v:Nat}{e:Env}{J:SK}:Nf v .bP e J=((v,.aJ 0 [])::e,J):=aG rfl
@[simp] theorem adF{v n:Nat}{cs:List D}{e:Env}{J:SK}:Nf v (.aJ n cs) e J=(e,J):=aG rfl
@[simp] theorem adH{v l i u:Nat}{e:Env}{J:SK}:Nf v (.ref l i u 0) e J=((v,(mh l i u J).1)::e,(mh l i u J).2):=aG rfl
@[simp] theorem adG{v s:Nat}{cs:List D}{e:Env}{J:SK}:Nf v (.own s cs) e J=((v,.own s (cs.map D.xe))::e,J):=aG rfl
@[simp] theorem adk{s:List UInt8}:D.xe (.str s)=.str s:=aG rfl
@[simp] theorem get_none{t:Nat}:get [] t=.undef:=aG rfl
@[simp] theorem aaA{v:Nat}{vs:List Nat}{e:Env}{J:SK}:RW vs v .undef e J=if 1000000<=v then vI vs (JH (v-1000000) e J).1 (JH (v-1000000) e J).2 else vI vs e J:=aG rfl
def ahq(l n m off w:Nat)(J:SK)(s:D):Option (List D)->D×SK
 |some cs=>(.aJ m (cC.frzL (cC l n) ((cs.drop off).take (m*w)) J).1,(cC.frzL (cC l n) ((cs.drop off).take (m*w)) J).2)
 |none=>(.undef,J)
theorem Ui{L i u off m w:Nat}{J:SK}{cs:List D}(hL:0<L)(hc:cells? J L i u=some cs):
  cC 0 16 (.sl L i u off m w) J=(.aJ m (cC.frzL (cC 0 15) ((cs.drop off).take (m*w)) (aZ J L i .dead)).1,(cC.frzL (cC 0 15) ((cs.drop off).take (m*w)) (aZ J L i .dead)).2):=by
 exact yB (by omega) hc (by omega)
theorem Xo{J:SK}(hJ:J≠[]){bs:List aO}{i u m w:Nat}{cs:List D}(hb:bs[i]?=some (.cells u cs))(hcl:D.bj cs=true)(hlen:cs.length=m*w):
  cC 0 16 (.sl J.length i u 0 m w) (bs::J)=(.aJ m cs,bs.set i .dead::J):=by
 have h:=aN.2 hJ;rw[Ui h (cs:=cs) (by simp[hb])];simp[<- hlen,hcl,af]
theorem LG{α:Type}{f:α->List D}{w:Nat}(hw:∀x,(f x).length=w)(l:List α):(l.flatMap f).take (l.length*w)=l.flatMap f :=
 af (by rw[bK hw];exact aL _)
theorem cT{α:Type}{f:α->List D}(h:∀x,D.bj (f x)=true)(l:List α):D.bj (l.flatMap f)=true:=by
 have app:∀a b:List D,D.bj (a++b)=(D.bj a && D.bj b):=by
  intro a b;induction a with
  |nil=>simp
  |cons x a ih=>simp[ih,Bool.and_assoc]
 induction l with
 |nil=>simp
 |cons a l ih=>simp[app,h,ih]
theorem wV{α:Type}{f:α->List D}{w:Nat}(hw:∀x,(f x).length=w)(hc:∀x,D.bj (f x)=true){l:List α}{j v:Nat}{bs:List aO}{J:SK}(hJ:J≠[])(hj:bs[j]?=some (.cells v (l.flatMap f))):
  cC (J.length-1) 16 (.sl J.length j v 0 l.length w) (bs::J)=(.aJ l.length (l.flatMap f),bs.set j .dead::J):=by
 have h3:¬J.length<=J.length-1:=by have:=aN.2 hJ;omega
 rw[yB h3 (cs:=l.flatMap f) (by simp[hj]) (by omega)];simp[LG hw l,cT hc l]
theorem DL{α:Type}{f:α->List D}{w:Nat}(hw:∀x,(f x).length=w)(hc:∀x,D.bj (f x)=true){l:List α}{j v:Nat}{bs:List aO}{J:SK}(hJ:J≠[])(hj:bs[j]?=some (.cells v (l.flatMap f))):
  cC 0 16 (.sl J.length j v 0 l.length w) (bs::J)=(.aJ l.length (l.flatMap f),bs.set j .dead::J) :=
 Xo hJ hj (cT hc l) (bK hw l)
theorem QJ{α:Type}{f:α->List D}{w:Nat}(hw:∀x,(f x).length=w):∀{l:List α} {i:Nat} {x:α},i<l.length->(l.flatMap f).take (i*w)++(f x++(l.flatMap f).drop (i*w+w))=(l.set i x).flatMap f
 |[],i,x,h=>by simp at h
 |a::l,0,x,h=>by
  have h1:=hw a;simp only[Nat.zero_mul,List.take_zero,aQ,aS,List.set_cons_zero,cJ];rw[<- h1,List.drop_left]
 |a::l,i+1,x,h=>by
  have h1:=hw a;have ih:=QJ (l:=l) (i:=i) (x:=x) hw (by simpa using h);simp only[aS,List.set_cons_succ];rw[<- ih,show(i+1)*w=w+i*w by rw[cq];omega,<- h1,List.take_length_add_append,c8,show(f a).length+i*(f a).length+(f a).length=(f a).length+(i*(f a).length+(f a).length)by omega,cI]
theorem zY{α:Type}{f:α->List D}{w:Nat}(hw:∀x,(f x).length=w):∀{l:List α} {i:Nat} {x:α},l[i]?=some x->(l.flatMap f).drop (i*w)=f x++(l.flatMap f).drop (i*w+w)
 |[],i,x,h=>by simp at h
 |a::l,0,x,h=>by
  simp at h;subst h;have h1:=hw a;simp only[Nat.zero_mul,aP,aS,cJ];rw[<- h1,List.drop_left]
 |a::l,i+1,x,h=>by
  have h1:=hw a;have ih:=zY (l:=l) (i:=i) (x:=x) hw (by simpa using h);simp only[aS];rw[show(i+1)*w=w+i*w by rw[cq];omega,<- h1,cI,show(f a).length+i*(f a).length+(f a).length=(f a).length+(i*(f a).length+(f a).length)by omega,cI,h1,ih]
@[simp] theorem adC{l:Nat}{J:SK}:pW l [] J=([],J):=aG rfl
@[simp] theorem ab8{l t:Nat}{d:D}{e:Env}{J:SK}:pW l ((t,d)::e) J=((t,(cC l deep d J).1)::(pW l e (cC l deep d J).2).1,(pW l e (cC l deep d J).2).2):=aG rfl
def QS(T:BJ)(live:List Nat)(c:cc)(n:Nat)(Q:Exit->Env->SK->Prop)(_m:Mark c:=.mk)(_m':Mark Q:=.mk):Exit->Env->SK->Prop
 |.normal,e,J=>WL T live true c (pW n (restrict live e) J).1 (pW n (restrict live e) J).2.tail Q
 |.exit i,e,J=>Q (.exit i) (pW n (restrict (keys e) e) J).1 (pW n (restrict (keys e) e) J).2.tail
 |.ret,e,J=>Q .ret (pW n (restrict (keys e) e) J).1 (pW n (restrict (keys e) e) J).2.tail
 |.fp d,e,J=>Q (.fp d) (pW n (restrict (keys e) e) J).1 (pW n (restrict (keys e) e) J).2.tail
@[simp,simp ↓] theorem XW{live:List Nat}{c:cc}{n:Nat}{Q:Exit->Env->SK->Prop}{e:Env}{J:SK}:QS T live c n Q .mk .mk .normal e J=WL T live true c (pW n (restrict live e) J).1 (pW n (restrict live e) J).2.tail Q:=aG rfl
@[simp,simp ↓] theorem aaN{live:List Nat}{c:cc}{n i:Nat}{Q:Exit->Env->SK->Prop}{e:Env}{J:SK}:QS T live c n Q .mk .mk (.exit i) e J=Q (.exit i) (pW n (restrict (keys e) e) J).1 (pW n (restrict (keys e) e) J).2.tail:=aG rfl
@[simp,simp ↓] theorem acr{live:List Nat}{c:cc}{n:Nat}{Q:Exit->Env->SK->Prop}{e:Env}{J:SK}:QS T live c n Q .mk .mk .ret e J=Q .ret (pW n (restrict (keys e) e) J).1 (pW n (restrict (keys e) e) J).2.tail:=aG rfl
theorem ES{live:List Nat}{c c':cc}{e:Env}{J:SK}{Q:Exit->Env->SK->Prop}(hc:c=c')(h:WC (lim T) c' (restrict live e) ([]::J) (QS T live c (J.length-1) Q .mk .mk)):WL T live true c e J Q:=by
 rw[<- hc]at h;obtain⟨x,e1,J1,h1,h2⟩:=h;cases x with
 |normal =>
  obtain⟨x,e',J',h3,h4⟩:=h2;exact⟨x,e',J',gS (by simp[dh,h1,z7,h3]),h4⟩
 |exit i=>exact⟨_,_,_,gS (by simp[dh,h1,z7]),h2⟩
 |ret=>exact⟨_,_,_,gS (by simp[dh,h1,z7]),h2⟩
 |fp d=>exact⟨_,_,_,gS (by simp[dh,h1,z7]),h2⟩
def adu(n:Nat)(Q:Exit->Env->SK->Prop)(_m:Mark Q:=.mk):Exit->Env->SK->Prop:=λx e J=>Q x (pW n (restrict (keys e) e) J).1 (pW n (restrict (keys e) e) J).2.tail
@[simp,simp ↓] theorem afl{n:Nat}{Q:Exit->Env->SK->Prop}{x:Exit}{e:Env}{J:SK}:adu n Q .mk x e J=Q x (pW n (restrict (keys e) e) J).1 (pW n (restrict (keys e) e) J).2.tail:=aG rfl
@[simp,simp ↓] theorem afU{O:bS}{a:cc}{e:Env}{J:SK}{Q:Exit->Env->SK->Prop}:WC O (.VY a) e J Q=WC O a e ([]::J) (adu (J.length-1) Q):=by
 simp only[WC,bg,ab,Prod.exists,ak,eq_iff_iff];constructor
 .rintro⟨x,e',J',⟨x1,e1,J1,h1,rfl,rfl,rfl⟩,h2⟩;exact⟨x1,e1,J1,h1,h2⟩
 .rintro⟨x,e',J',h1,h2⟩;exact⟨_,_,_,⟨x,e',J',h1,rfl,rfl,rfl⟩,h2⟩
@[simp] theorem keys_nil:keys []=[]:=aG rfl
@[simp] theorem keys_cons{t:Nat}{d:D}{e:Env}:keys ((t,d)::e)=t::keys (e.filter λp => !(p.1 == t)):=by
 simp only[keys,aR,List.eraseDups_cons,List.filter_map];rfl
end Go.aA
namespace Go.aA
def qo(d:Nat)(k:K):Op:=⟨some d,none,false,k⟩
def qO(d:Nat)(k:K):Op:=⟨some d,none,true,k⟩
def qm(d x:Nat):Op:=⟨some d,none,false,.mv (.t x)⟩
def qM(d x:Nat):Op:=⟨some d,none,true,.mv (.t x)⟩
def qi(d:Nat)(n:Int):Op:=⟨some d,none,false,.mv (.c (.int .i64 n))⟩
def qb(d:Nat)(b:Bool):Op:=⟨some d,none,false,.mv (.c (.bool b))⟩
def qf(d o x:Nat):Op:=⟨some d,none,false,.JF o (.t x)⟩
def qF(d o x:Nat):Op:=⟨some d,none,true,.JF o (.t x)⟩
def ql(d n x:Nat):Op:=⟨some d,none,false,.ld false n (.t x)⟩
def qL(d n x:Nat):Op:=⟨some d,none,true,.ld false n (.t x)⟩
def qa(d n x:Nat):Op:=⟨some d,none,false,.ld true n (.t x)⟩
def qA(d n x:Nat):Op:=⟨some d,none,true,.ld true n (.t x)⟩
def qv(d v n a:Nat):Op:=⟨some d,none,false,.SV v false n a⟩
def qV(d v n a:Nat):Op:=⟨some d,none,true,.SV v false n a⟩
def qw(d v n a:Nat):Op:=⟨some d,none,false,.SV v true n a⟩
def qW(d v n a:Nat):Op:=⟨some d,none,true,.SV v true n a⟩
def qx(d x:Nat):Op:=⟨some d,none,false,.JC (.t x)⟩
def qe(d x:Nat):Op:=⟨some d,none,false,.JK (.t x)⟩
def qE(d x:Nat):Op:=⟨some d,none,true,.JK (.t x)⟩
def qj(d w x i:Nat):Op:=⟨some d,none,false,.He w (.t x) (.t i)⟩
def qJ(d w x i:Nat):Op:=⟨some d,none,true,.He w (.t x) (.t i)⟩
def qk(d:Nat)(o:BinOp)(x y:Nat):Op:=⟨some d,none,false,.bin o (.t x) (.t y)⟩
def qK(d:Nat)(o:BinOp)(x y:Nat):Op:=⟨some d,none,true,.bin o (.t x) (.t y)⟩
def qn(d:Nat)(o:BinOp)(x:Nat)(n:Int):Op:=⟨some d,none,false,.bin o (.t x) (.c (.int .i64 n))⟩
def qN(d:Nat)(o:BinOp)(x:Nat)(n:Int):Op:=⟨some d,none,true,.bin o (.t x) (.c (.int .i64 n))⟩
def qu(d x:Nat):Op:=⟨some d,none,false,.un .not (.t x)⟩
def qp(d c x:Nat):Op:=⟨some d,none,false,.pick (.t c) (.t x) (.c (.bool false))⟩
def qP(d c x:Nat):Op:=⟨some d,none,false,.pick (.t c) (.c (.bool true)) (.t x)⟩
def qs(v n a x:Nat):Op:=⟨none,none,false,.Hj v [] n a (.t x)⟩
def qS(v n a x:Nat):Op:=⟨none,none,true,.Hj v [] n a (.t x)⟩
def qt(n a x:Nat):Op:=⟨none,none,false,.st [] n (.t a) (.t x)⟩
def qz(d x i:Nat):Op:=⟨some d,none,false,.ext (.t x) i⟩
def qZ(d x i:Nat):Op:=⟨some d,none,true,.ext (.t x) i⟩
def qc(d f:Nat)(a:List Nat):Op:=⟨some d,none,false,.call false (.c (.fn f [] [])) (a.map .t)⟩
def qC(d f:Nat)(a:List Nat):Op:=⟨some d,none,true,.call false (.c (.fn f [] [])) (a.map .t)⟩
def qy(d w b s x:Nat):Op:=⟨some d,none,false,.app w b (.t s) (.t x)⟩
def qg(t:Nat)(b:Bool)(o:Op):Op:=⟨o.dst,some (t,b),o.BP,o.k⟩
end Go.aA
