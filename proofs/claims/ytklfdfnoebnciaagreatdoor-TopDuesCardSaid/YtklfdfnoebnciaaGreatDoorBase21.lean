import Derived.Test.YtklfdfnoebnciaaGreatDoorBase20
import Derived.IntWalk
set_option linter.all false
namespace Go.az
open Go
theorem WL.to{T:zQ}{live:List Nat}{bk:Bool}{c:bX}{e e':Env}{J J':SK}{Q Q':Exit->Env->SK->Prop}(h:WL T live bk c e J Q)(he:e'=e)(hs:J'=J)
  (hq:∀x e J,Q x e J->Q' x e J):WL T live bk c e' J' Q':=by subst he hs;exact h.mono hq
theorem bZ{α:Type}{f:α->List D}{w:Nat}(hw:∀x,(f x).length=w)(l:List α):(l.flatMap f).length=l.length*w:=by
 induction l with
 |nil=>simp
 |cons a l ih=>simp[hw,ih,dH];omega
theorem cf{α:Type}{f:α->List D}{w:Nat}(hw:∀x,(f x).length=w):∀{l:List α} {i:Nat} {x:α},l[i]?=some x->((l.flatMap f).drop (i*w)).take w=f x
 |[],i,x,h=>by simp at h
 |a::l,0,x,h=>by
  simp at h;subst h;simp[<- hw a]
 |a::l,i+1,x,h=>by
  have e:(i+1)*w=(f a).length+i*w:=by rw[hw,dH];omega
  rw[aT,e,List.drop_append];simp only[Nat.add_sub_cancel_left,aA (Nat.le_add_right _ _),aY];exact cf hw (by simpa using h)
theorem drop_at{α:Type}{l:List α}{i:Nat}{x:α}(h:l[i]?=some x):l.drop i=x::l.drop (i+1):=by
 have h1:i<l.length:=(aw.1 h).1;rw[List.drop_eq_getElem_cons h1];rw[aL h1]at h;simp at h;rw[h]
theorem OM{α:Type}{f:α->List D}{w:Nat}(hw:∀x,(f x).length=w){l:List α}{i:Nat}(hi:i<=l.length):((l.take i).flatMap f).take (i*w)=(l.take i).flatMap f:=by
 apply ah;rw[bZ hw];simp only[jV];exact ct _ (Nat.min_le_left _ _)
theorem Bn{α:Type}{f:α->List D}{l:List α}{i:Nat}{x:α}(h:l[i]?=some x):(l.take i).flatMap f++f x=(l.take (i+1)).flatMap f:=by
 rw[List.take_add_one,h];simp
theorem Kq{α:Type}{f:α->D}(l:List α):l.flatMap (λx=>[f x])=l.map f:=by
 induction l with
 |nil=>rfl
 |cons a l ih=>simp[ih]
theorem eF{n:Int}(h : -9223372036854775808<=n/\n<=9223372036854775807:=by omega):IntKind.i64.wrap n=n:=IntWalk.i64_in n h
@[simp] theorem adw:IntKind.i64.wrap 0=0:=by decide
@[simp] theorem adx:IntKind.i64.wrap 1=1:=by decide
@[simp] theorem ady:IntKind.i64.wrap 2=2:=by decide
@[simp] theorem adz:IntKind.i64.wrap 3=3:=by decide
@[simp] theorem adA:IntKind.i64.wrap 4=4:=by decide
theorem wu8{n:Int}(h:0<=n/\n<=255):IntKind.u8.wrap n=n:=IntWalk.u8_in n h
theorem eT{i n:Nat}(h:i<n)(hn:n<=9223372036854775807:=by omega):IntKind.i64.wrap ((i:Int)+1)=((i+1:Nat):Int):=by
 rw[eF (by omega)];rfl
variable {T:zQ}
def idxOf{α:Type}(p:α->Bool):List α->Int
 |[] => -1
 |x::l=>if p x then 0 else if idxOf p l<0 then -1 else idxOf p l+1
theorem Ei{α:Type}{p:α->Bool}:∀{l:List α},idxOf p l<0↔l.any p=false
 |[]=>by simp[idxOf]
 |x::l=>by
  have ih:=Ei (p:=p) (l:=l);simp only[idxOf,List.any_cons];cases h:p x
  .simp only[ar,if_false,Bool.false_or];by_cases h1:idxOf p l<0
   .rw[if_pos h1,ih.1 h1];decide
   .rw[if_neg h1];have h2:¬l.any p=false:=λh=>h1 (ih.2 h)
    exact⟨λh3=>absurd h3 (by omega),λh3=>absurd h3 h2⟩
  .simp
def fk{α:Type}(l:List α)(p:α->Bool):Bool:=l.all p
def sB{α:Type}(l:List α)(p:α->Bool):Bool:=l.any p
theorem iI{α:Type}{l:List α}{p:α->Bool}:fk l p=true↔∀x∈l,p x=true:=by simp[fk]
theorem Ka{α:Type}{l:List α}{p:α->Bool}:sB l p=true↔∃x∈l,p x=true:=by simp[sB]
def oP(T:zQ){α:Type}(fv:D)(val:α->D)(p:α->Bool)(l:List α):Prop :=
 fv.strip=fv/\fv.calm=fv/\∀x∈l,∀J,oe (lim T) false fv [val x] J=some (.bool (p x),J)
theorem oP.fn{α:Type}{f:Nat}{first cap:List D}{val:α->D}{p:α->Bool}{l:List α}
  (h:∀x∈l,∀J,lim T (.call false f (first++[val x]++cap) J)=some (.val (.bool (p x)) J)):oP T (.fn f first cap) val p l :=
 ⟨rfl,rfl,λx hx J=>by rw[rH,h x hx J];rfl⟩
structure Tq(α:Type) where
 ag:Bool
 w:Nat
 enc:α->List D
 val:α->D
 len:∀x,(enc x).length=w
 load:∀x,Ln ag w (some (enc x))=some (val x)
 strip:∀x,(val x).strip=val x
 calm:∀x,(val x).calm=val x
 cells:∀x,(val x).cells=some (enc x)
def I5(k:IntKind):Tq Int:=⟨false,1,λn=>[.int k n],λn => .int k n,λ_=>rfl,λ_=>by simp,λ_=>rfl,λ_=>rfl,λ_=>rfl⟩
def abB:Tq Bool:=⟨false,1,λn=>[.bool n],λn => .bool n,λ_=>rfl,λ_=>by simp,λ_=>rfl,λ_=>rfl,λ_=>rfl⟩
def wE{α:Type}(w:Nat)(enc:α->List D)(h:∀x,(enc x).length=w):Tq α :=
 ⟨true,w,enc,λx => .agg (enc x),h,λx=>by simp[h,ah],λ_=>rfl,λ_=>rfl,λ_=>rfl⟩
section index
variable (ag:Bool) (w:Nat)
def Gy:bX :=
 (.seq (.sy [0,1,7,8,9] [⟨some 9,none,false,.bin .lss (.t 8) (.t 7)⟩]) (.seq (.ite (.t 9) .FB (.exit 0)) (.seq (.cT 1 (.seq (.sy [0,1,5,7,8] [
 ⟨some 10,none,false,.mv (.t 8)⟩,
 ⟨some 5,none,false,.mv (.t 10)⟩]) (.seq (.sy [0,1,5,7,8,16] [
 ⟨some 11,none,false,.mv (.t 1)⟩,
 ⟨some 12,none,false,.mv (.t 0)⟩,
 ⟨some 13,none,false,.mv (.t 5)⟩,
 ⟨some 14,none,false,.Fi w (.t 12) (.t 13)⟩,
 ⟨some 15,none,false,.ld ag w (.t 14)⟩,
 ⟨some 16,none,false,.call false (.t 11) [(.t 15)]⟩]) (.ite (.t 16) (.seq (.sy [4] [
 ⟨some 17,none,false,.mv (.t 5)⟩,
 ⟨some 4,none,false,.mv (.t 17)⟩]) .ret) .FB)))) (.sy [0,1,7,8] [
 ⟨some 18,none,false,.bin .add (.t 8) (.c (.int .i64 1))⟩,
 ⟨some 8,none,false,.mv (.t 18)⟩]))))
def ud:Fn:=⟨2,[.t 4],
 (.seq (.sy [0,1] [⟨some 4,none,false,.mv (.c (.int .i64 0))⟩]) (.seq (.seq (.sy [0,1,7,8] [
 ⟨some 6,none,false,.mv (.t 0)⟩,
 ⟨some 7,none,false,.Hv (.t 6)⟩,
 ⟨some 8,none,false,.mv (.c (.int .i64 0))⟩]) (.cT 0 (.loop [0,1,7,8] false (Gy ag w)))) (.seq (.sy [4] [
 ⟨some 4,none,false,.mv (.c (.int .i64 (-1)))⟩]) .ret)))⟩
def gZ(i:Nat):Fn:=⟨2,[.t 4],
 (.seq (.sy [0,1] [⟨some 4,none,false,.mv (.c (.bool false))⟩]) (.seq (.sy [4] [
 ⟨some 5,none,false,.mv (.t 0)⟩,
 ⟨some 6,none,false,.mv (.t 1)⟩,
 ⟨some 7,none,false,.call false (.c (.fn i [] [])) [(.t 5),(.t 6)]⟩,
 ⟨some 8,none,false,.bin .geq (.t 7) (.c (.int .i64 0))⟩,
 ⟨some 4,none,false,.mv (.t 8)⟩]) .ret))⟩
def Dc(g h:Nat):Fn:=⟨2,[.t 4],
 (.seq (.sy [0,3] [
 ⟨some 3,none,false,.Hn (.t 1)⟩,
 ⟨some 4,none,false,.mv (.c (.bool false))⟩]) (.seq (.sy [4] [
 ⟨some 5,none,false,.mv (.t 0)⟩,
 ⟨some 6,none,false,.Rz g [] [(.t 3)]⟩,
 ⟨some 7,none,false,.call false (.c (.fn h [] [])) [(.t 5),(.t 6)]⟩,
 ⟨some 8,none,false,.un .not (.t 7)⟩,
 ⟨some 4,none,false,.mv (.t 8)⟩]) .ret))⟩
def yd:Bool->Nat->Fn
 |true,w=>⟨2,[.t 3],
 (.seq (.sy [1,2] [
 ⟨some 2,none,false,.Hn (.t 0)⟩,
 ⟨some 3,none,false,.mv (.c (.bool false))⟩]) (.seq (.sy [3] [
 ⟨some 4,none,false,.ld false 1 (.t 1)⟩,
 ⟨some 5,none,false,.ld true w (.t 2)⟩,
 ⟨some 6,none,false,.call false (.t 4) [(.t 5)]⟩,
 ⟨some 7,none,false,.un .not (.t 6)⟩,
 ⟨some 3,none,false,.mv (.t 7)⟩]) .ret))⟩
 |false,_=>⟨2,[.t 3],
 (.seq (.sy [0,1] [
 ⟨some 3,none,false,.mv (.c (.bool false))⟩]) (.seq (.sy [3] [
 ⟨some 4,none,false,.ld false 1 (.t 1)⟩,
 ⟨some 5,none,false,.mv (.t 0)⟩,
 ⟨some 6,none,false,.call false (.t 4) [(.t 5)]⟩,
 ⟨some 7,none,false,.un .not (.t 6)⟩,
 ⟨some 3,none,false,.mv (.t 7)⟩]) .ret))⟩
end index
section
variable {α:Type} (E:Tq α) {p:α->Bool} {fv:D} {l:List α}
theorem KJ(hl:l.length<=9223372036854775807)(ht:oP T fv E.val p l){J:SK}:∀(m i:Nat),i+m=l.length ->
  WL T [0,1,7,8] false (Gy E.ag E.w) [(0,.aG l.length (l.flatMap E.enc)),(1,fv),(7,.int .i64 l.length),(8,.int .i64 i)] J
   (λx e J'=>J'=J/\if idxOf p (l.drop i)<0 then x=.exit 0 else x=.ret/\get e 4=.int .i64 (i+idxOf p (l.drop i)))
 |0,i,hi=>by
  obtain⟨h1,h2,h3⟩:=ht;refine aJ (Gy.eq_1 _ _) ?_;have:¬i<l.length:=by omega
  have h5:l.drop i=[]:=by simp;omega
  simp[this,h1,h2,h5,idxOf]
 |m+1,i,hi=>by
  have ih:=KJ hl ht (J:=J) m (i+1) (by omega);obtain⟨h1,h2,h3⟩:=ht;refine aJ (Gy.eq_1 _ _) ?_;have h4:i<l.length:=by omega
  obtain⟨x,hx⟩:=gE h4;have h5:=cf (f:=E.enc) E.len hx;have h6:=h3 x (ai hx) J;have h7:=eT h4 hl;have h8:l.drop i=x::l.drop (i+1):=by
   rw[List.drop_eq_getElem_cons h4];rw[aL h4]at hx;simp at hx;rw[hx]
  cases hp:p x
  .rw[hp]at h6;simp[h4,h1,h2,h5,h6,h7,E.load,E.strip,E.calm];refine WL.mono (by simpa using ih) ?_;rintro x e J' ⟨h9,h10⟩;refine⟨h9,?_⟩;rw[h8];simp only[idxOf,hp,ar,if_false];by_cases h11:idxOf p (l.drop (i+1))<0
   .simpa[h11]using h10
   .rw[if_neg h11]at h10;rw[if_neg h11,if_neg (by omega)];refine⟨h10.1,?_⟩;rw[h10.2];congr 1;push_cast;omega
  .rw[hp]at h6;simp[h4,h1,h2,h5,h6,h7,E.load,E.strip,E.calm,h8,idxOf,hp]
theorem Q4{f:Nat}(hT:T f=some (ud E.ag E.w))(hl:l.length<=9223372036854775807)(ht:oP T fv E.val p l){J:SK}:
  lim T (.call false f [.aG l.length (l.flatMap E.enc),fv] J)=some (.val (.int .i64 (idxOf p l)) J):=by
 refine au hT (ud.eq_1 _ _) rfl ?_;have h:=KJ E hl ht (J:=[]::J) l.length 0 (by simp);obtain⟨h1,h2,h3⟩:=ht;simp[h1,h2];refine WL.mono (by simpa using h) ?_;rintro x e J' ⟨rfl,h10⟩
 try simp only[aK]at h10
 by_cases h11:idxOf p l<0
 .rw[if_pos h11]at h10;subst h10;have:idxOf p l = -1:=by
   cases l with
   |nil=>rfl
   |cons a l =>
    simp only[idxOf]at h11 ⊢;split at h11<;>rename_i ha
    .omega
    .rw[if_neg ha];split at h11<;>rename_i hb
     .rw[if_pos hb]
     .omega
  simp[this]
 .rw[if_neg h11]at h10;obtain⟨rfl,h12⟩:=h10
  try simp at h12
  simp[h12]
theorem contains_of{f i:Nat}(hT:T f=some (gZ i))(hi:T i=some (ud E.ag E.w))(hl:l.length<=9223372036854775807)(ht:oP T fv E.val p l){J:SK}:
  lim T (.call false f [.aG l.length (l.flatMap E.enc),fv] J)=some (.val (.bool (sB l p)) J):=by
 refine au hT (gZ.eq_1 _) rfl ?_;have h:=Q4 E hi hl ht (J:=[]::J);obtain⟨h1,h2,h3⟩:=ht;have h4:decide (0<=idxOf p l)=sB l p:=by
  unfold sB;have h6:=Ei (p:=p) (l:=l);cases h5:l.any p
  .have:=h6.2 h5;exact decide_eq_false (by omega)
  .exact decide_eq_true (by
    have:¬idxOf p l<0:=λh=>by rw[h6.1 h]at h5;cases h5
    omega)
 simp[h1,h2,h,h4]
theorem Nh{g:Nat}(hT:T g=some (yd E.ag E.w))(ht:oP T fv E.val p l):oP T (.fn g [] [.bu [fv]]) E.val (λx => !p x) l:=by
 refine oP.fn λx hx J=>?_
 obtain⟨h1,h2,h3⟩:=ht;have h6:=h3 x hx ([]::J);have hc:=E.cells x;have hl:=E.load x;have hs:=E.strip x;have hcm:=E.calm x;generalize E.ag=ag at *
 cases ag with
 |true =>
  refine au hT (yd.eq_1 _) rfl ?_;simp[h1,h2,h6,hc,hl,hs,hcm]
 |false =>
  refine au hT (yd.eq_2 _) rfl ?_;simp[h1,h2,h6,hc,hl,hs,hcm]
theorem zg{f g h i:Nat}(hf:T f=some (Dc g h))(hg:T g=some (yd E.ag E.w))(hh:T h=some (gZ i))(hi:T i=some (ud E.ag E.w))
  (hl:l.length<=9223372036854775807) (ht:oP T fv E.val p l) (hcl:fv.cells=some [fv]) {J:SK}:
  lim T (.call false f [.aG l.length (l.flatMap E.enc),fv] J)=some (.val (.bool (fk l p)) J):=by
 refine au hf (Dc.eq_1 _ _) rfl ?_;have h:=contains_of E hh hi hl (Nh E hg ht) (J:=[]::J);obtain⟨h1,h2,h3⟩:=ht;have h4:(sB l λx => !p x) = !fk l p:=by
  unfold sB fk;rw[List.all_eq_not_any_not,Bool.not_not]
 simp[h1,h2,h,h4,hcl]
end
variable {T:zQ}
theorem eQ{f:Nat}{fn:Fn}{args:List D}{J J':SK}{d:D}{np:Nat}{res:List CQ}{body:bX}(hT:T f=some fn)(hf:fn=⟨np,res,body⟩)(hl:args.length=np)(hs:J'.length=J.length)
  (h:WC (lim T) body (kQ 0 args) ([]::J) (L4 J' res d)):
  lim T (.call false f args J)=some (.val d J'):=by
 subst hf;obtain⟨x,e1,J1,h1,h2,h2',ds,h3,s,h4⟩:=h;refine fZ ?_;rw[hs,QP]at h4;simp only[cI,hT,if_pos hl,ar,if_false,h1];cases x with
 |exit i=>exact absurd rfl (h2 i)
 |eA d=>exact absurd rfl (h2' d)
 |normal=>simp[h3,h4]
 |ret=>simp[h3,h4]
def okX:Exit->Prop
 |.normal=>True
 |.ret=>True
 |_=>False
@[simp] theorem abO:okX .ret=True:=aB rfl
theorem vO{f:Nat}{fn:Fn}{args:List D}{J J':SK}{d:D}{np:Nat}{res:List CQ}{body:bX}(hT:T f=some fn)(hf:fn=⟨np,res,body⟩)(hl:args.length=np)
  (h:WC (lim T) body (kQ 0 args) J λx e J1=>okX x/\(yQ e J1 res).map tM=some d/\J1=J'):
  lim T (.call true f args J)=some (.val d J'):=by
 subst hf;obtain⟨x,e1,J1,h1,h2,h3,rfl⟩:=h;refine fZ ?_;simp only[ab]at h3;obtain⟨ds,h3,rfl⟩:=h3;simp only[cI,hT,if_pos hl,if_true,h1];cases x with
 |exit i=>exact h2.elim
 |eA d=>exact h2.elim
 |normal=>simp[h3]
 |ret=>simp[h3]
inductive xV (T:zQ) (l i:Nat) {α:Type} (f:α->List D):List α->SK->Bool->SK->Prop
 |nil (J:SK):xV T l i f [] J true J
 |go (a:α) (xs:List α) (J J1 J2:SK) (b:Bool):lim T (.round l i (f a) J)=some (.val (.bool true) J1)->xV T l i f xs J1 b J2->xV T l i f (a::xs) J b J2
 |stop (a:α) (xs:List α) (J J1:SK):lim T (.round l i (f a) J)=some (.val (.bool false) J1)->xV T l i f (a::xs) J false J1
theorem xV.split{l i:Nat}{α:Type}{f:α->List D}:∀{xs bs:List α} {J J':SK} {b:Bool},xV T l i f (xs++bs) J b J' ->
  (∃J1,xV T l i f xs J true J1/\xV T l i f bs J1 b J')\/(b=false/\xV T l i f xs J false J')
 |[],bs,J,J',b,h => .inl ⟨J,.nil J,h⟩
 |a::xs,bs,J,J',b,h=>by
  cases h with
  |go _ _ _ J1 _ _ h1 h2 =>
   rcases xV.split h2 with⟨J3,h3,h4⟩ | ⟨rfl,h3⟩
   .exact .inl ⟨J3,.go _ _ _ _ _ _ h1 h3,h4⟩
   .exact .inr ⟨rfl,.go _ _ _ _ _ _ h1 h3⟩
  |stop _ _ _ _ h1=>exact .inr ⟨rfl,.stop _ _ _ _ h1⟩
theorem Nd{live:List Nat}{fo:bD}{params:List Nat}{zh body:bX}{e:Env}{s:List aI}{J J2:SK}{Q:Exit->Env->SK->Prop}{g:Nat}{first cap:List D}{d:D}{lp:wk}
  (hf:ba e fo=.fn g first cap)
  (hc:lim T (.call false g (first++[.kJ J.length s.length]++cap) ((s++[.loop {state:=0,wQ:=none,env:=wX live e,params,zh,body }])::J))=some (.val d J2))
  (hb:dn J2 J.length s.length=some (.loop lp)) (hs:lp.state≠1)
  (hq:Q (lp.wQ.getD .normal) (restrict live e) (aR J2 J.length s.length (.loop {lp with state:=3 }))):
  WC (lim T) (.Jw live fo params zh body) e (s::J) Q:=by
 refine⟨_,_,_,?_,hq⟩;simp only[aV,fJ,hf,EK,hc,R.bg,hb,if_neg hs]
def Ej:Option aI->Option wk
 |some (.loop lp)=>some lp
 |_=>none
@[simp] theorem Vc{lp:wk}:Ej (some (.loop lp))=some lp:=aB rfl
theorem xH{o:Option aI}{lp:wk}(h:Ej o=some lp):o=some (.loop lp):=by
 cases o with
 |none=>cases h
 |some b=>cases b<;>cases h;rfl
def ZG(l i:Nat)(b:Bool)(J':SK)(x:Exit)(J2:SK):Prop :=
 match x with
 |.eA _=>False
 |.normal=>WD (Ej (dn J2.tail l i)) λlp2=>aR J2.tail l i (.loop {lp2 with state:=0,wQ:=none })=J'/\b=true
 |x=>WD (Ej (dn J2.tail l i)) λlp2=>aR J2.tail l i (.loop {lp2 with state:=2,wQ:=some x })=J'/\b=false
@[simp] theorem U3{l i:Nat}{b:Bool}{J':SK}{s2:List aI}{J3:SK}:ZG l i b J' .normal (s2::J3)=WD (Ej (dn J3 l i)) λlp2=>aR J3 l i (.loop {lp2 with state:=0,wQ:=none })=J'/\b=true:=aB rfl
def Pa(T:zQ)(l i:Nat)(b:Bool)(J':SK)(n:Nat)(body:bX)(x:Exit)(e1:Env)(J1:SK)(_m:Mark body:=.mk):Prop :=
 x=.normal/\WD (Ej (dn J1 l i)) λlp1=>lp1.state=0/\WC (lim T) body e1 (aR J1 l i (.loop {lp1 with state:=1 })) λx _ J2=>J2.length=n/\ZG l i b J' x J2
theorem K0{l i:Nat}{args:List D}{J J':SK}{b:Bool}{lp:wk}(hb:dn J l i=some (.loop lp))(hl:args.length=lp.params.length)
  (h:WC (lim T) lp.zh (zD lp.params args lp.env) ([]::J) (Pa T l i b J' (J.length+1) lp.body)):
  lim T (.round l i args J)=some (.val (.bool b) J'):=by
 obtain⟨x,e1,J1,h1,rfl,lp1,h2,h3,x2,e2,J2,h4,hlen,h6⟩:=h;have h2:=xH h2;cases J2 with
 |nil=>simp at hlen
 |cons s2 J3 =>
 refine fZ ?_;simp only[cI,hb,if_pos hl,h1,h2,if_pos h3,h4];cases x2 with
 |normal=>obtain⟨lp2,h5,h6,rfl⟩:=h6;have h5:=xH h5;dsimp only [List.tail]at h5 h6 ⊢;rw[h5];dsimp only;rw[h6]
 |exit j=>obtain⟨lp2,h5,h6,rfl⟩:=h6;have h5:=xH h5;dsimp only [List.tail]at h5 h6 ⊢;rw[h5];dsimp only;rw[h6]
 |ret=>obtain⟨lp2,h5,h6,rfl⟩:=h6;have h5:=xH h5;dsimp only [List.tail]at h5 h6 ⊢;rw[h5];dsimp only;rw[h6]
 |eA d=>exact h6.elim
@[simp] theorem Vk{t:Nat}{ts:List Nat}{d:D}{ds:List D}{e:Env}:zD (t::ts) (d::ds) e=zD ts ds ((t,d)::e):=aB rfl
@[simp] theorem Xd{ds:List D}{e:Env}:zD [] ds e=e:=aB (by cases ds<;>rfl)
@[simp] theorem Ya{e:Env}:wX [] e=[]:=aB rfl
@[simp] theorem VE{t:Nat}{l:List Nat}{e:Env}:wX (t::l) e=(t,(get e t).strip)::wX l e:=aB rfl
variable {T:zQ}
def OR(vs:List Nat)(v:Nat)(d:D)(e:Env)(J:SK):Env×SK :=
 match d with
 |.sl l i u off m w=>uo vs ((v,(cn 0 deep (.sl l i u off m w) J).1)::e) (cn 0 deep (.sl l i u off m w) J).2
 |.own s cs=>uo vs ((v,.own s (cn.frzL (cn 0 deep) cs J).1)::e) (cn.frzL (cn 0 deep) cs J).2
 |.agg cs=>uo vs ((v,.agg (cs.map D.vN))::e) J
 |.undef=>if 1000000<=v then uo vs (Hr (v-1000000) e J).1 (Hr (v-1000000) e J).2 else uo vs e J
 |_=>uo vs e J
@[simp] theorem ZS{e:Env}{J:SK}:uo [] e J=(e,J):=aB rfl
@[simp] theorem Yw{v:Nat}{vs:List Nat}{e:Env}{J:SK}:uo (v::vs) e J=OR vs v (get e v) e J:=by
 simp only[uo,OR];cases get e v<;>rfl
@[simp] theorem abE{v:Nat}{vs:List Nat}{e:Env}{J:SK}{l i u off m w:Nat}:OR vs v (.sl l i u off m w) e J =
  uo vs ((v,(cn 0 deep (.sl l i u off m w) J).1)::e) (cn 0 deep (.sl l i u off m w) J).2:=aB rfl
@[simp] theorem ZO{v:Nat}{vs:List Nat}{e:Env}{J:SK}{s:Nat}{cs:List D}:OR vs v (.own s cs) e J =
  uo vs ((v,.own s (cn.frzL (cn 0 deep) cs J).1)::e) (cn.frzL (cn 0 deep) cs J).2:=aB rfl
@[simp] theorem ZN{v:Nat}{vs:List Nat}{e:Env}{J:SK}{cs:List D}:OR vs v (.agg cs) e J=uo vs ((v,.agg (cs.map D.vN))::e) J:=aB rfl
@[simp] theorem Zw{k:IntKind}{n:Int}:D.vN (.int k n)=.int k n:=aB rfl
@[simp] theorem Zx{n:Nat}{cs:List D}:D.vN (.aG n cs)=.aG n cs:=aB rfl
def L7(v:Nat)(d:D)(e:Env)(J:SK):Env×SK :=
 match d with
 |.bN=>((v,.aG 0 [])::e,J)
 |.ref l i u 0=>((v,(rD l i u J).1)::e,(rD l i u J).2)
 |.own s cs=>((v,.own s (cs.map D.vN))::e,J)
 |.undef=>if 2000000<=v then OQ (v-2000000) e J else if 1000000<=v then(Ue (v-1000000) e,J)else(e,J)
 |_=>(e,J)
def adN(v:Nat)(d:D)(e:Env):Env :=
 match d with
 |.own _ cs=>if e.all (λp=>match p.2 with | .vr x _ _=>x != v | _=>true)then(v,.bu cs)::e else e
 |_=>e
@[simp] theorem abF{v:Nat}{e:Env}{J:SK}:Hr v e J=L7 v (get e v) e J:=rfl
@[simp] theorem Yu{v:Nat}{e:Env}{J:SK}:L7 v .bN e J=((v,.aG 0 [])::e,J):=aB rfl
@[simp] theorem ZP{v n:Nat}{cs:List D}{e:Env}{J:SK}:L7 v (.aG n cs) e J=(e,J):=aB rfl
@[simp] theorem ZR{v l i u:Nat}{e:Env}{J:SK}:L7 v (.ref l i u 0) e J=((v,(rD l i u J).1)::e,(rD l i u J).2):=aB rfl
@[simp] theorem ZQ{v s:Nat}{cs:List D}{e:Env}{J:SK}:L7 v (.own s cs) e J=((v,.own s (cs.map D.vN))::e,J):=aB rfl
@[simp] theorem Zy{s:List UInt8}:D.vN (.str s)=.str s:=aB rfl
@[simp] theorem get_none{t:Nat}:get [] t=.undef:=aB rfl
@[simp] theorem WK{v:Nat}{vs:List Nat}{e:Env}{J:SK}:OR vs v .undef e J=if 1000000<=v then uo vs (Hr (v-1000000) e J).1 (Hr (v-1000000) e J).2 else uo vs e J:=aB rfl
def adI(l n m off w:Nat)(J:SK)(s:D):Option (List D)->D×SK
 |some cs=>(.aG m (cn.frzL (cn l n) ((cs.drop off).take (m*w)) J).1,(cn.frzL (cn l n) ((cs.drop off).take (m*w)) J).2)
 |none=>(.undef,J)
theorem QX{L i u off m w:Nat}{J:SK}{cs:List D}(hL:0<L)(hc:cells? J L i u=some cs):
  cn 0 16 (.sl L i u off m w) J=(.aG m (cn.frzL (cn 0 15) ((cs.drop off).take (m*w)) (aR J L i .dead)).1,(cn.frzL (cn 0 15) ((cs.drop off).take (m*w)) (aR J L i .dead)).2):=by
 exact AL (by omega) hc (by omega)
theorem TN{J:SK}(hJ:J≠[]){bs:List aI}{i u m w:Nat}{cs:List D}(hb:bs[i]?=some (.cells u cs))(hcl:D.bx cs=true)(hlen:cs.length=m*w):
  cn 0 16 (.sl J.length i u 0 m w) (bs::J)=(.aG m cs,bs.set i .dead::J):=by
 have h:=aP.2 hJ;rw[QX h (cs:=cs) (by simp[hb])];simp[<- hlen,hcl,ah]
theorem GA{α:Type}{f:α->List D}{w:Nat}(hw:∀x,(f x).length=w)(l:List α):(l.flatMap f).take (l.length*w)=l.flatMap f :=
 ah (by rw[bZ hw];exact aH _)
theorem eS{α:Type}{f:α->List D}(h:∀x,D.bx (f x)=true)(l:List α):D.bx (l.flatMap f)=true:=by
 have app:∀a b:List D,D.bx (a++b)=(D.bx a && D.bx b):=by
  intro a b;induction a with
  |nil=>simp
  |cons x a ih=>simp[ih,Bool.and_assoc]
 induction l with
 |nil=>simp
 |cons a l ih=>simp[app,h,ih]
theorem zX{α:Type}{f:α->List D}{w:Nat}(hw:∀x,(f x).length=w)(hc:∀x,D.bx (f x)=true){l:List α}{j v:Nat}{bs:List aI}{J:SK}(hJ:J≠[])(hj:bs[j]?=some (.cells v (l.flatMap f))):
  cn (J.length-1) 16 (.sl J.length j v 0 l.length w) (bs::J)=(.aG l.length (l.flatMap f),bs.set j .dead::J):=by
 have h3:¬J.length<=J.length-1:=by have:=aP.2 hJ;omega
 rw[AL h3 (cs:=l.flatMap f) (by simp[hj]) (by omega)];simp[GA hw l,eS hc l]
theorem zW{α:Type}{f:α->List D}{w:Nat}(hw:∀x,(f x).length=w)(hc:∀x,D.bx (f x)=true){l:List α}{j v:Nat}{bs:List aI}{J:SK}(hJ:J≠[])(hj:bs[j]?=some (.cells v (l.flatMap f))):
  cn 0 16 (.sl J.length j v 0 l.length w) (bs::J)=(.aG l.length (l.flatMap f),bs.set j .dead::J) :=
 TN hJ hj (eS hc l) (bZ hw l)
theorem Nx{α:Type}{f:α->List D}{w:Nat}(hw:∀x,(f x).length=w):∀{l:List α} {i:Nat} {x:α},i<l.length->(l.flatMap f).take (i*w)++(f x++(l.flatMap f).drop (i*w+w))=(l.set i x).flatMap f
 |[],i,x,h=>by simp at h
 |a::l,0,x,h=>by
  have h1:=hw a;simp only[Nat.zero_mul,List.take_zero,aY,aT,List.set_cons_zero,cr];rw[<- h1,List.drop_left]
 |a::l,i+1,x,h=>by
  have h1:=hw a;have ih:=Nx (l:=l) (i:=i) (x:=x) hw (by simpa using h);simp only[aT,List.set_cons_succ];rw[<- ih,show(i+1)*w=w+i*w by rw[dH];omega,<- h1,List.take_length_add_append,oN,show(f a).length+i*(f a).length+(f a).length=(f a).length+(i*(f a).length+(f a).length)by omega,cp]
theorem zx{α:Type}{f:α->List D}{w:Nat}(hw:∀x,(f x).length=w):∀{l:List α} {i:Nat} {x:α},l[i]?=some x->(l.flatMap f).drop (i*w)=f x++(l.flatMap f).drop (i*w+w)
 |[],i,x,h=>by simp at h
 |a::l,0,x,h=>by
  simp at h;subst h;have h1:=hw a;simp only[Nat.zero_mul,aK,aT,cr];rw[<- h1,List.drop_left]
 |a::l,i+1,x,h=>by
  have h1:=hw a;have ih:=zx (l:=l) (i:=i) (x:=x) hw (by simpa using h);simp only[aT];rw[show(i+1)*w=w+i*w by rw[dH];omega,<- h1,cp,show(f a).length+i*(f a).length+(f a).length=(f a).length+(i*(f a).length+(f a).length)by omega,cp,h1,ih]
@[simp] theorem ZM{l:Nat}{J:SK}:pw l [] J=([],J):=aB rfl
@[simp] theorem Yt{l t:Nat}{d:D}{e:Env}{J:SK}:pw l ((t,d)::e) J=((t,(cn l deep d J).1)::(pw l e (cn l deep d J).2).1,(pw l e (cn l deep d J).2).2):=aB rfl
def NJ(T:zQ)(live:List Nat)(c:bX)(n:Nat)(Q:Exit->Env->SK->Prop)(_m:Mark c:=.mk)(_m':Mark Q:=.mk):Exit->Env->SK->Prop
 |.normal,e,J=>WL T live true c (pw n (restrict live e) J).1 (pw n (restrict live e) J).2.tail Q
 |.exit i,e,J=>Q (.exit i) (pw n (restrict (keys e) e) J).1 (pw n (restrict (keys e) e) J).2.tail
 |.ret,e,J=>Q .ret (pw n (restrict (keys e) e) J).1 (pw n (restrict (keys e) e) J).2.tail
 |.eA d,e,J=>Q (.eA d) (pw n (restrict (keys e) e) J).1 (pw n (restrict (keys e) e) J).2.tail
@[simp,simp ↓] theorem Uc{live:List Nat}{c:bX}{n:Nat}{Q:Exit->Env->SK->Prop}{e:Env}{J:SK}:NJ T live c n Q .mk .mk .normal e J=WL T live true c (pw n (restrict live e) J).1 (pw n (restrict live e) J).2.tail Q:=aB rfl
@[simp,simp ↓] theorem W4{live:List Nat}{c:bX}{n i:Nat}{Q:Exit->Env->SK->Prop}{e:Env}{J:SK}:NJ T live c n Q .mk .mk (.exit i) e J=Q (.exit i) (pw n (restrict (keys e) e) J).1 (pw n (restrict (keys e) e) J).2.tail:=aB rfl
@[simp,simp ↓] theorem YK{live:List Nat}{c:bX}{n:Nat}{Q:Exit->Env->SK->Prop}{e:Env}{J:SK}:NJ T live c n Q .mk .mk .ret e J=Q .ret (pw n (restrict (keys e) e) J).1 (pw n (restrict (keys e) e) J).2.tail:=aB rfl
theorem Db{live:List Nat}{c c':bX}{e:Env}{J:SK}{Q:Exit->Env->SK->Prop}(hc:c=c')(h:WC (lim T) c' (restrict live e) ([]::J) (NJ T live c (J.length-1) Q .mk .mk)):WL T live true c e J Q:=by
 rw[<- hc]at h;obtain⟨x,e1,J1,h1,h2⟩:=h;cases x with
 |normal =>
  obtain⟨x,e',J',h3,h4⟩:=h2;exact⟨x,e',J',fZ (by simp[cI,h1,yo,h3]),h4⟩
 |exit i=>exact⟨_,_,_,fZ (by simp[cI,h1,yo]),h2⟩
 |ret=>exact⟨_,_,_,fZ (by simp[cI,h1,yo]),h2⟩
 |eA d=>exact⟨_,_,_,fZ (by simp[cI,h1,yo]),h2⟩
def adE(n:Nat)(Q:Exit->Env->SK->Prop)(_m:Mark Q:=.mk):Exit->Env->SK->Prop:=λx e J=>Q x (pw n (restrict (keys e) e) J).1 (pw n (restrict (keys e) e) J).2.tail
@[simp] theorem keys_nil:keys []=[]:=aB rfl
@[simp] theorem keys_cons{t:Nat}{d:D}{e:Env}:keys ((t,d)::e)=t::keys (e.filter λp => !(p.1 == t)):=by
 simp only[keys,aN,List.eraseDups_cons,List.filter_map];rfl
end Go.az
namespace Go.az
def qo(d:Nat)(k:K):Op:=⟨some d,none,false,k⟩
def qO(d:Nat)(k:K):Op:=⟨some d,none,true,k⟩
def qm(d x:Nat):Op:=⟨some d,none,false,.mv (.t x)⟩
def qM(d x:Nat):Op:=⟨some d,none,true,.mv (.t x)⟩
def qi(d:Nat)(n:Int):Op:=⟨some d,none,false,.mv (.c (.int .i64 n))⟩
def qb(d:Nat)(b:Bool):Op:=⟨some d,none,false,.mv (.c (.bool b))⟩
def qf(d o x:Nat):Op:=⟨some d,none,false,.Hq o (.t x)⟩
def qF(d o x:Nat):Op:=⟨some d,none,true,.Hq o (.t x)⟩
def ql(d n x:Nat):Op:=⟨some d,none,false,.ld false n (.t x)⟩
def qL(d n x:Nat):Op:=⟨some d,none,true,.ld false n (.t x)⟩
def qa(d n x:Nat):Op:=⟨some d,none,false,.ld true n (.t x)⟩
def qA(d n x:Nat):Op:=⟨some d,none,true,.ld true n (.t x)⟩
def qv(d v n a:Nat):Op:=⟨some d,none,false,.PE v false n a⟩
def qV(d v n a:Nat):Op:=⟨some d,none,true,.PE v false n a⟩
def qw(d v n a:Nat):Op:=⟨some d,none,false,.PE v true n a⟩
def qW(d v n a:Nat):Op:=⟨some d,none,true,.PE v true n a⟩
def qx(d x:Nat):Op:=⟨some d,none,false,.Hn (.t x)⟩
def qe(d x:Nat):Op:=⟨some d,none,false,.Hv (.t x)⟩
def qE(d x:Nat):Op:=⟨some d,none,true,.Hv (.t x)⟩
def qj(d w x i:Nat):Op:=⟨some d,none,false,.Fi w (.t x) (.t i)⟩
def qJ(d w x i:Nat):Op:=⟨some d,none,true,.Fi w (.t x) (.t i)⟩
def qk(d:Nat)(o:BinOp)(x y:Nat):Op:=⟨some d,none,false,.bin o (.t x) (.t y)⟩
def qK(d:Nat)(o:BinOp)(x y:Nat):Op:=⟨some d,none,true,.bin o (.t x) (.t y)⟩
def qn(d:Nat)(o:BinOp)(x:Nat)(n:Int):Op:=⟨some d,none,false,.bin o (.t x) (.c (.int .i64 n))⟩
def qN(d:Nat)(o:BinOp)(x:Nat)(n:Int):Op:=⟨some d,none,true,.bin o (.t x) (.c (.int .i64 n))⟩
def qu(d x:Nat):Op:=⟨some d,none,false,.un .not (.t x)⟩
def qp(d c x:Nat):Op:=⟨some d,none,false,.pick (.t c) (.t x) (.c (.bool false))⟩
def qP(d c x:Nat):Op:=⟨some d,none,false,.pick (.t c) (.c (.bool true)) (.t x)⟩
def qs(v n a x:Nat):Op:=⟨none,none,false,.G6 v [] n a (.t x)⟩
def qS(v n a x:Nat):Op:=⟨none,none,true,.G6 v [] n a (.t x)⟩
def qt(n a x:Nat):Op:=⟨none,none,false,.st [] n (.t a) (.t x)⟩
def qz(d x i:Nat):Op:=⟨some d,none,false,.ext (.t x) i⟩
def qZ(d x i:Nat):Op:=⟨some d,none,true,.ext (.t x) i⟩
def qc(d f:Nat)(a:List Nat):Op:=⟨some d,none,false,.call false (.c (.fn f [] [])) (a.map .t)⟩
def qC(d f:Nat)(a:List Nat):Op:=⟨some d,none,true,.call false (.c (.fn f [] [])) (a.map .t)⟩
def qy(d w b s x:Nat):Op:=⟨some d,none,false,.app w b (.t s) (.t x)⟩
def qg(t:Nat)(b:Bool)(o:Op):Op:=⟨o.dst,some (t,b),o.zZ,o.k⟩
end Go.az
