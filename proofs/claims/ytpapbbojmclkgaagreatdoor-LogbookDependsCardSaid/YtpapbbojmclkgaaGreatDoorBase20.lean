import Derived.Test.YtpapbbojmclkgaaGreatDoorBase19
import Derived.IntWalk
set_option linter.all false
namespace Go.Abs
open Go
theorem WL.to{T:CT}{live:List Nat}{bF:Bool}{c:b9}{e e':Env}{J J':SK}{Q Q':Exit->Env->SK->Prop}(h:WL T live bF c e J Q)(he:e'=e)(hs:J'=J)
  (hq:∀x e J,Q x e J->Q' x e J):WL T live bF c e' J' Q':=by subst he hs;exact h.mono hq
theorem b8{α:Type}{f:α->List D}{w:Nat}(hw:∀x,(f x).length=w)(l:List α):(fM l f).length=l.length*w:=by
 induction l with
 |nil=>simp
 |cons a l ih=>simp[hw,ih,eC];omega
theorem bd{α:Type}{f:α->List D}{w:Nat}(hw:∀x,(f x).length=w):∀{l:List α} {i:Nat} {x:α},l[i]?=some x->((fM l f).drop (i*w)).take w=f x
 |[],i,x,h=>by simp at h
 |a::l,0,x,h=>by
  simp at h;subst h;simp[<- hw a]
 |a::l,i+1,x,h=>by
  have e:(i+1)*w=(f a).length+i*w:=by rw[hw,eC];omega
  rw[db,e,List.drop_append];simp only[Nat.add_sub_cancel_left,an (Nat.le_add_right _ _),aU];exact bd hw (by simpa using h)
theorem bx{α:Type}{l:List α}{i:Nat}{x:α}(h:l[i]?=some x):l.drop i=x::l.drop (i+1):=by
 have h1:i<l.length:=(aB.1 h).1;rw[List.drop_eq_getElem_cons h1];rw[aH h1]at h;simp at h;rw[h]
theorem BI{α:Type}{f:α->List D}{l:List α}{i:Nat}{x:α}(h:l[i]?=some x):fM (l.take i) f++f x=fM (l.take (i+1)) f:=by
 rw[List.take_add_one,h];simp
theorem Pf{α:Type}{f:α->D}(l:List α):fM l (λx=>[f x])=l.map f:=by
 induction l with
 |nil=>rfl
 |cons a l ih=>simp[ih]
theorem cb{n:Int}(h : -9223372036854775808<=n/\n<=9223372036854775807:=by omega):IntKind.i64.wrap n=n:=IntWalk.i64_in n h
@[simp] theorem akv:IntKind.i64.wrap 0=0:=by decide
@[simp] theorem akw:IntKind.i64.wrap 1=1:=by decide
@[simp] theorem akx:IntKind.i64.wrap 2=2:=by decide
@[simp] theorem aky:IntKind.i64.wrap 3=3:=by decide
@[simp] theorem akz:IntKind.i64.wrap 4=4:=by decide
theorem wu8{n:Int}(h:0<=n/\n<=255):IntKind.u8.wrap n=n:=IntWalk.u8_in n h
theorem cg{i n:Nat}(h:i<n)(hn:n<=9223372036854775807:=by omega):IntKind.i64.wrap ((i:Int)+1)=((i+1:Nat):Int):=by
 rw[cb (by omega)];rfl
variable {T:CT}
def idxOf{α:Type}(p:α->Bool):List α->Int
 |[] => -1
 |x::l=>if p x then 0 else if idxOf p l<0 then -1 else idxOf p l+1
theorem HF{α:Type}{p:α->Bool}:∀{l:List α},idxOf p l<0↔l.any p=false
 |[]=>by simp[idxOf]
 |x::l=>by
  have ih:=HF (p:=p) (l:=l);simp only[idxOf,List.any_cons];cases h:p x
  .simp only[aD,if_false,Bool.false_or];by_cases h1:idxOf p l<0
   .rw[if_pos h1,ih.1 h1];decide
   .rw[if_neg h1];have h2:¬l.any p=false:=λh=>h1 (ih.2 h)
    exact⟨λh3=>absurd h3 (by omega),λh3=>absurd h3 h2⟩
  .simp
def dj{α:Type}(l:List α)(p:α->Bool):Bool:=l.all p
def mu{α:Type}(l:List α)(p:α->Bool):Bool:=l.any p
theorem eP{α:Type}{l:List α}{p:α->Bool}:dj l p=true↔∀x∈l,p x=true:=by simp[dj]
theorem OZ{α:Type}{l:List α}{p:α->Bool}:mu l p=true↔∃x∈l,p x=true:=by simp[mu]
def oW(T:CT){α:Type}(fv:D)(val:α->D)(p:α->Bool)(l:List α):Prop :=
 fv.strip=fv/\fv.calm=fv/\∀x∈l,∀J,oi (dr T) false fv [val x] J=some (.bool (p x),J)
theorem oW.fn{α:Type}{f:Nat}{first cap:List D}{val:α->D}{p:α->Bool}{l:List α}
  (h:∀x∈l,∀J,dr T (.call false f (first++[val x]++cap) J)=some (.val (.bool (p x)) J)):oW T (.fn f first cap) val p l :=
 ⟨rfl,rfl,λx hx J=>by rw[pn,h x hx J];rfl⟩
structure ZK(α:Type) where
 ag:Bool
 w:Nat
 enc:α->List D
 val:α->D
 len:∀x,(enc x).length=w
 load:∀x,Qz ag w (some (enc x))=some (val x)
 strip:∀x,(val x).strip=val x
 calm:∀x,(val x).calm=val x
 cells:∀x,(val x).cells=some (enc x)
def Nh(k:IntKind):ZK Int:=⟨false,1,λn=>[.int k n],λn => .int k n,λ_=>rfl,λ_=>by simp,λ_=>rfl,λ_=>rfl,λ_=>rfl⟩
def aiz:ZK Bool:=⟨false,1,λn=>[.bool n],λn => .bool n,λ_=>rfl,λ_=>by simp,λ_=>rfl,λ_=>rfl,λ_=>rfl⟩
def yg{α:Type}(w:Nat)(enc:α->List D)(h:∀x,(enc x).length=w):ZK α :=
 ⟨true,w,enc,λx => .agg (enc x),h,λx=>by simp[h,ah],λ_=>rfl,λ_=>rfl,λ_=>rfl⟩
section index
variable (ag:Bool) (w:Nat)
def Km:b9 :=
 (.seq (.si [0,1,7,8,9] [⟨some 9,none,false,.bin .lss (.t 8) (.t 7)⟩]) (.seq (.ite (.t 9) .Ji (.exit 0)) (.seq (.dJ 1 (.seq (.si [0,1,5,7,8] [
 ⟨some 10,none,false,.mv (.t 8)⟩,
 ⟨some 5,none,false,.mv (.t 10)⟩]) (.seq (.si [0,1,5,7,8,16] [
 ⟨some 11,none,false,.mv (.t 1)⟩,
 ⟨some 12,none,false,.mv (.t 0)⟩,
 ⟨some 13,none,false,.mv (.t 5)⟩,
 ⟨some 14,none,false,.HG w (.t 12) (.t 13)⟩,
 ⟨some 15,none,false,.ld ag w (.t 14)⟩,
 ⟨some 16,none,false,.call false (.t 11) [(.t 15)]⟩]) (.ite (.t 16) (.seq (.si [4] [
 ⟨some 17,none,false,.mv (.t 5)⟩,
 ⟨some 4,none,false,.mv (.t 17)⟩]) .ret) .Ji)))) (.si [0,1,7,8] [
 ⟨some 18,none,false,.bin .add (.t 8) (.c (.int .i64 1))⟩,
 ⟨some 8,none,false,.mv (.t 18)⟩]))))
def uW:Fn:=⟨2,[.t 4],
 (.seq (.si [0,1] [⟨some 4,none,false,.mv (.c (.int .i64 0))⟩]) (.seq (.seq (.si [0,1,7,8] [
 ⟨some 6,none,false,.mv (.t 0)⟩,
 ⟨some 7,none,false,.Li (.t 6)⟩,
 ⟨some 8,none,false,.mv (.c (.int .i64 0))⟩]) (.dJ 0 (.loop [0,1,7,8] false (Km ag w)))) (.seq (.si [4] [
 ⟨some 4,none,false,.mv (.c (.int .i64 (-1)))⟩]) .ret)))⟩
def iW(i:Nat):Fn:=⟨2,[.t 4],
 (.seq (.si [0,1] [⟨some 4,none,false,.mv (.c (.bool false))⟩]) (.seq (.si [4] [
 ⟨some 5,none,false,.mv (.t 0)⟩,
 ⟨some 6,none,false,.mv (.t 1)⟩,
 ⟨some 7,none,false,.call false (.c (.fn i [] [])) [(.t 5),(.t 6)]⟩,
 ⟨some 8,none,false,.bin .geq (.t 7) (.c (.int .i64 0))⟩,
 ⟨some 4,none,false,.mv (.t 8)⟩]) .ret))⟩
def F8(g h:Nat):Fn:=⟨2,[.t 4],
 (.seq (.si [0,3] [
 ⟨some 3,none,false,.K9 (.t 1)⟩,
 ⟨some 4,none,false,.mv (.c (.bool false))⟩]) (.seq (.si [4] [
 ⟨some 5,none,false,.mv (.t 0)⟩,
 ⟨some 6,none,false,.XM g [] [(.t 3)]⟩,
 ⟨some 7,none,false,.call false (.c (.fn h [] [])) [(.t 5),(.t 6)]⟩,
 ⟨some 8,none,false,.un .not (.t 7)⟩,
 ⟨some 4,none,false,.mv (.t 8)⟩]) .ret))⟩
def AD:Bool->Nat->Fn
 |true,w=>⟨2,[.t 3],
 (.seq (.si [1,2] [
 ⟨some 2,none,false,.K9 (.t 0)⟩,
 ⟨some 3,none,false,.mv (.c (.bool false))⟩]) (.seq (.si [3] [
 ⟨some 4,none,false,.ld false 1 (.t 1)⟩,
 ⟨some 5,none,false,.ld true w (.t 2)⟩,
 ⟨some 6,none,false,.call false (.t 4) [(.t 5)]⟩,
 ⟨some 7,none,false,.un .not (.t 6)⟩,
 ⟨some 3,none,false,.mv (.t 7)⟩]) .ret))⟩
 |false,_=>⟨2,[.t 3],
 (.seq (.si [0,1] [
 ⟨some 3,none,false,.mv (.c (.bool false))⟩]) (.seq (.si [3] [
 ⟨some 4,none,false,.ld false 1 (.t 1)⟩,
 ⟨some 5,none,false,.mv (.t 0)⟩,
 ⟨some 6,none,false,.call false (.t 4) [(.t 5)]⟩,
 ⟨some 7,none,false,.un .not (.t 6)⟩,
 ⟨some 3,none,false,.mv (.t 7)⟩]) .ret))⟩
end index
section
variable {α:Type} (E:ZK α) {p:α->Bool} {fv:D} {l:List α}
theorem PB(hl:l.length<=9223372036854775807)(ht:oW T fv E.val p l){J:SK}:∀(m i:Nat),i+m=l.length ->
  WL T [0,1,7,8] false (Km E.ag E.w) [(0,.bT l.length (fM l E.enc)),(1,fv),(7,.int .i64 l.length),(8,.int .i64 i)] J
   (λx e J'=>J'=J/\if idxOf p (l.drop i)<0 then x=.exit 0 else x=.ret/\get e 4=.int .i64 (i+idxOf p (l.drop i)))
 |0,i,hi=>by
  obtain⟨h1,h2,h3⟩:=ht;refine aA (Km.eq_1 _ _) ?_;have:¬i<l.length:=by omega
  have h5:l.drop i=[]:=by simp;omega
  simp[this,h1,h2,h5,idxOf]
 |m+1,i,hi=>by
  have ih:=PB hl ht (J:=J) m (i+1) (by omega);obtain⟨h1,h2,h3⟩:=ht;refine aA (Km.eq_1 _ _) ?_;have h4:i<l.length:=by omega
  obtain⟨x,hx⟩:=gE h4;have h5:=bd (f:=E.enc) E.len hx;have h6:=h3 x (aj hx) J;have h7:=cg h4 hl;have h8:l.drop i=x::l.drop (i+1):=by
   rw[List.drop_eq_getElem_cons h4];rw[aH h4]at hx;simp at hx;rw[hx]
  cases hp:p x
  .rw[hp]at h6;simp[h4,h1,h2,h5,h6,h7,E.load,E.strip,E.calm];refine WL.mono (by simpa using ih) ?_;rintro x e J' ⟨h9,h10⟩;refine⟨h9,?_⟩;rw[h8];simp only[idxOf,hp,aD,if_false];by_cases h11:idxOf p (l.drop (i+1))<0
   .simpa[h11]using h10
   .rw[if_neg h11]at h10;rw[if_neg h11,if_neg (by omega)];refine⟨h10.1,?_⟩;rw[h10.2];congr 1;push_cast;omega
  .rw[hp]at h6;simp[h4,h1,h2,h5,h6,h7,E.load,E.strip,E.calm,h8,idxOf,hp]
theorem Xp{f:Nat}(hT:T f=some (uW E.ag E.w))(hl:l.length<=9223372036854775807)(ht:oW T fv E.val p l){J:SK}:
  dr T (.call false f [.bT l.length (fM l E.enc),fv] J)=some (.val (.int .i64 (idxOf p l)) J):=by
 refine nR hT (uW.eq_1 _ _) rfl ?_;have h:=PB E hl ht (J:=[]::J) l.length 0 (by simp);obtain⟨h1,h2,h3⟩:=ht;simp[h1,h2];refine WL.mono (by simpa using h) ?_;rintro x e J' ⟨rfl,h10⟩
 try simp only[aC]at h10
 by_cases h11:idxOf p l<0
 .rw[if_pos h11]at h10;subst h10;have:idxOf p l = -1:=by
   cases l with
   |nil=>rfl
   |cons a l =>
    simp only[idxOf]at h11 ⊢;split at h11<;>rename_i ha
    .omega
    .rw[if_neg ha];split at h11<;>rename_i hb
     .rw[if_pos hb]
     .omega
  simp[this]
 .rw[if_neg h11]at h10;obtain⟨rfl,h12⟩:=h10
  try simp at h12
  simp[h12]
theorem contains_of{f i:Nat}(hT:T f=some (iW i))(hi:T i=some (uW E.ag E.w))(hl:l.length<=9223372036854775807)(ht:oW T fv E.val p l){J:SK}:
  dr T (.call false f [.bT l.length (fM l E.enc),fv] J)=some (.val (.bool (mu l p)) J):=by
 refine nR hT (iW.eq_1 _) rfl ?_;have h:=Xp E hi hl ht (J:=[]::J);obtain⟨h1,h2,h3⟩:=ht;have h4:decide (0<=idxOf p l)=mu l p:=by
  unfold mu;have h6:=HF (p:=p) (l:=l);cases h5:l.any p
  .have:=h6.2 h5;exact decide_eq_false (by omega)
  .exact decide_eq_true (by
    have:¬idxOf p l<0:=λh=>by rw[h6.1 h]at h5;cases h5
    omega)
 simp[h1,h2,h,h4]
theorem SR{g:Nat}(hT:T g=some (AD E.ag E.w))(ht:oW T fv E.val p l):oW T (.fn g [] [.bg [fv]]) E.val (λx => !p x) l:=by
 refine oW.fn λx hx J=>?_
 obtain⟨h1,h2,h3⟩:=ht;have h6:=h3 x hx ([]::J);have hc:=E.cells x;have hl:=E.load x;have hs:=E.strip x;have hcm:=E.calm x;generalize E.ag=ag at *
 cases ag with
 |true =>
  refine nR hT (AD.eq_1 _) rfl ?_;simp[h1,h2,h6,hc,hl,hs,hcm]
 |false =>
  refine nR hT (AD.eq_2 _) rfl ?_;simp[h1,h2,h6,hc,hl,hs,hcm]
theorem B8{f g h i:Nat}(hf:T f=some (F8 g h))(hg:T g=some (AD E.ag E.w))(hh:T h=some (iW i))(hi:T i=some (uW E.ag E.w))
  (hl:l.length<=9223372036854775807) (ht:oW T fv E.val p l) (hcl:fv.cells=some [fv]) {J:SK}:
  dr T (.call false f [.bT l.length (fM l E.enc),fv] J)=some (.val (.bool (dj l p)) J):=by
 refine nR hf (F8.eq_1 _ _) rfl ?_;have h:=contains_of E hh hi hl (SR E hg ht) (J:=[]::J);obtain⟨h1,h2,h3⟩:=ht;have h4:(mu l λx => !p x) = !dj l p:=by
  unfold mu dj;rw[List.all_eq_not_any_not,Bool.not_not]
 simp[h1,h2,h,h4,hcl]
end
variable {T:CT}
theorem fy{f:Nat}{fn:Fn}{args:List D}{J J':SK}{d:D}{np:Nat}{res:List F5}{body:b9}(hT:T f=some fn)(hf:fn=⟨np,res,body⟩)(hl:args.length=np)(hs:J'.length=J.length)
  (h:WC (dr T) body (lG 0 args) ([]::J) (Q7 J' res d)):
  dr T (.call false f args J)=some (.val d J'):=by
 subst hf;obtain⟨x,e1,J1,h1,h2,h2',ds,h3,s,h4⟩:=h;refine gS ?_;rw[hs,W6]at h4;simp only[dF,hT,if_pos hl,aD,if_false,h1];cases x with
 |exit i=>exact absurd rfl (h2 i)
 |fu d=>exact absurd rfl (h2' d)
 |normal=>simp[h3,h4]
 |ret=>simp[h3,h4]
def okX:Exit->Prop
 |.normal=>True
 |.ret=>True
 |_=>False
@[simp] theorem aiM:okX .ret=True:=aK rfl
theorem vy{f:Nat}{fn:Fn}{args:List D}{J J':SK}{d:D}{np:Nat}{res:List F5}{body:b9}(hT:T f=some fn)(hf:fn=⟨np,res,body⟩)(hl:args.length=np)
  (h:WC (dr T) body (lG 0 args) J λx e J1=>okX x/\(BR e J1 res).map uj=some d/\J1=J'):
  dr T (.call true f args J)=some (.val d J'):=by
 subst hf;obtain⟨x,e1,J1,h1,h2,h3,rfl⟩:=h;refine gS ?_;simp only[ad]at h3;obtain⟨ds,h3,rfl⟩:=h3;simp only[dF,hT,if_pos hl,if_true,h1];cases x with
 |exit i=>exact h2.elim
 |fu d=>exact h2.elim
 |normal=>simp[h3]
 |ret=>simp[h3]
inductive Ay (T:CT) (l i:Nat) {α:Type} (f:α->List D):List α->SK->Bool->SK->Prop
 |nil (J:SK):Ay T l i f [] J true J
 |go (a:α) (xs:List α) (J J1 J2:SK) (b:Bool):dr T (.round l i (f a) J)=some (.val (.bool true) J1)->Ay T l i f xs J1 b J2->Ay T l i f (a::xs) J b J2
 |stop (a:α) (xs:List α) (J J1:SK):dr T (.round l i (f a) J)=some (.val (.bool false) J1)->Ay T l i f (a::xs) J false J1
theorem Ay.split{l i:Nat}{α:Type}{f:α->List D}:∀{xs bs:List α} {J J':SK} {b:Bool},Ay T l i f (xs++bs) J b J' ->
  (∃J1,Ay T l i f xs J true J1/\Ay T l i f bs J1 b J')\/(b=false/\Ay T l i f xs J false J')
 |[],bs,J,J',b,h => .inl ⟨J,.nil J,h⟩
 |a::xs,bs,J,J',b,h=>by
  cases h with
  |go _ _ _ J1 _ _ h1 h2 =>
   rcases Ay.split h2 with⟨J3,h3,h4⟩ | ⟨rfl,h3⟩
   .exact .inl ⟨J3,.go _ _ _ _ _ _ h1 h3,h4⟩
   .exact .inr ⟨rfl,.go _ _ _ _ _ _ h1 h3⟩
  |stop _ _ _ _ h1=>exact .inr ⟨rfl,.stop _ _ _ _ h1⟩
theorem SO{live:List Nat}{fo:bP}{params:List Nat}{B9 body:b9}{e:Env}{s:List aG}{J J2:SK}{Q:Exit->Env->SK->Prop}{g:Nat}{first cap:List D}{d:D}{lp:xX}
  (hf:bB e fo=.fn g first cap)
  (hc:dr T (.call false g (first++[.jU J.length s.length]++cap) ((s++[.loop {state:=0,zj:=none,env:=zr live e,params,B9,body }])::J))=some (.val d J2))
  (hb:dZ J2 J.length s.length=some (.loop lp)) (hs:lp.state≠1)
  (hq:Q (lp.zj.getD .normal) (restrict live e) (bj J2 J.length s.length (.loop {lp with state:=3 }))):
  WC (dr T) (.NR live fo params B9 body) e (s::J) Q:=by
 refine⟨_,_,_,?_,hq⟩;simp only[bu,fR,hf,Io,hc,R.dz,hb,if_neg hs]
def HH:Option aG->Option xX
 |some (.loop lp)=>some lp
 |_=>none
@[simp] theorem abQ{lp:xX}:HH (some (.loop lp))=some lp:=aK rfl
theorem Aj{o:Option aG}{lp:xX}(h:HH o=some lp):o=some (.loop lp):=by
 cases o with
 |none=>cases h
 |some b=>cases b<;>cases h;rfl
def agJ(l i:Nat)(b:Bool)(J':SK)(x:Exit)(J2:SK):Prop :=
 match x with
 |.fu _=>False
 |.normal=>WD (HH (dZ J2.tail l i)) λlp2=>bj J2.tail l i (.loop {lp2 with state:=0,zj:=none })=J'/\b=true
 |x=>WD (HH (dZ J2.tail l i)) λlp2=>bj J2.tail l i (.loop {lp2 with state:=2,zj:=some x })=J'/\b=false
@[simp] theorem abF{l i:Nat}{b:Bool}{J':SK}{s2:List aG}{J3:SK}:agJ l i b J' .normal (s2::J3)=WD (HH (dZ J3 l i)) λlp2=>bj J3 l i (.loop {lp2 with state:=0,zj:=none })=J'/\b=true:=aK rfl
def UM(T:CT)(l i:Nat)(b:Bool)(J':SK)(n:Nat)(body:b9)(x:Exit)(e1:Env)(J1:SK)(_m:Mark body:=.mk):Prop :=
 x=.normal/\WD (HH (dZ J1 l i)) λlp1=>lp1.state=0/\WC (dr T) body e1 (bj J1 l i (.loop {lp1 with state:=1 })) λx _ J2=>J2.length=n/\agJ l i b J' x J2
theorem P0{l i:Nat}{args:List D}{J J':SK}{b:Bool}{lp:xX}(hb:dZ J l i=some (.loop lp))(hl:args.length=lp.params.length)
  (h:WC (dr T) lp.B9 (CF lp.params args lp.env) ([]::J) (UM T l i b J' (J.length+1) lp.body)):
  dr T (.round l i args J)=some (.val (.bool b) J'):=by
 obtain⟨x,e1,J1,h1,rfl,lp1,h2,h3,x2,e2,J2,h4,hlen,h6⟩:=h;have h2:=Aj h2;cases J2 with
 |nil=>simp at hlen
 |cons s2 J3 =>
 refine gS ?_;simp only[dF,hb,if_pos hl,h1,h2,if_pos h3,h4];cases x2 with
 |normal=>obtain⟨lp2,h5,h6,rfl⟩:=h6;have h5:=Aj h5;dsimp only [List.tail]at h5 h6 ⊢;rw[h5];dsimp only;rw[h6]
 |exit j=>obtain⟨lp2,h5,h6,rfl⟩:=h6;have h5:=Aj h5;dsimp only [List.tail]at h5 h6 ⊢;rw[h5];dsimp only;rw[h6]
 |ret=>obtain⟨lp2,h5,h6,rfl⟩:=h6;have h5:=Aj h5;dsimp only [List.tail]at h5 h6 ⊢;rw[h5];dsimp only;rw[h6]
 |fu d=>exact h6.elim
@[simp] theorem ab1{t:Nat}{ts:List Nat}{d:D}{ds:List D}{e:Env}:CF (t::ts) (d::ds) e=CF ts ds ((t,d)::e):=aK rfl
@[simp] theorem aeb{ds:List D}{e:Env}:CF [] ds e=e:=aK (by cases ds<;>rfl)
@[simp] theorem ae3{e:Env}:zr [] e=[]:=aK rfl
@[simp] theorem acn{t:Nat}{l:List Nat}{e:Env}:zr (t::l) e=(t,(get e t).strip)::zr l e:=aK rfl
variable {T:CT}
def Uy(vs:List Nat)(v:Nat)(d:D)(e:Env)(J:SK):Env×SK :=
 match d with
 |.sl l i u off m w=>vd vs ((v,(cF 0 deep (.sl l i u off m w) J).1)::e) (cF 0 deep (.sl l i u off m w) J).2
 |.own s cs=>vd vs ((v,.own s (cF.frzL (cF 0 deep) cs J).1)::e) (cF.frzL (cF 0 deep) cs J).2
 |.agg cs=>vd vs ((v,.agg (cs.map D.qY))::e) J
 |.undef=>if 1000000<=v then vd vs (Le (v-1000000) e J).1 (Le (v-1000000) e J).2 else vd vs e J
 |_=>vd vs e J
@[simp] theorem agW{e:Env}{J:SK}:vd [] e J=(e,J):=aK rfl
@[simp] theorem afl{v:Nat}{vs:List Nat}{e:Env}{J:SK}:vd (v::vs) e J=Uy vs v (get e v) e J:=by
 simp only[vd,Uy];cases get e v<;>rfl
@[simp] theorem aiE{v:Nat}{vs:List Nat}{e:Env}{J:SK}{l i u off m w:Nat}:Uy vs v (.sl l i u off m w) e J =
  vd vs ((v,(cF 0 deep (.sl l i u off m w) J).1)::e) (cF 0 deep (.sl l i u off m w) J).2:=aK rfl
@[simp] theorem agS{v:Nat}{vs:List Nat}{e:Env}{J:SK}{s:Nat}{cs:List D}:Uy vs v (.own s cs) e J =
  vd vs ((v,.own s (cF.frzL (cF 0 deep) cs J).1)::e) (cF.frzL (cF 0 deep) cs J).2:=aK rfl
@[simp] theorem agR{v:Nat}{vs:List Nat}{e:Env}{J:SK}{cs:List D}:Uy vs v (.agg cs) e J=vd vs ((v,.agg (cs.map D.qY))::e) J:=aK rfl
@[simp] theorem agx{k:IntKind}{n:Int}:D.qY (.int k n)=.int k n:=aK rfl
@[simp] theorem WQ{n:Nat}{cs:List D}:D.qY (.bT n cs)=.bT n cs:=aK rfl
@[simp] theorem afa:D.qY .bz=.bT 0 []:=aK rfl
def Rc(v:Nat)(d:D)(e:Env)(J:SK):Env×SK :=
 match d with
 |.bz=>((v,.bT 0 [])::e,J)
 |.ref l i u 0=>((v,(GG l i u J).1)::e,(GG l i u J).2)
 |.own s cs=>((v,.own s (cs.map D.qY))::e,J)
 |.undef=>if 1000000<=v then(aaG (v-1000000) e,J)else(e,J)
 |_=>(e,J)
def akO(v:Nat)(d:D)(e:Env):Env :=
 match d with
 |.own _ cs=>if e.all (λp=>match p.2 with | .vr x _ _=>x != v | _=>true)then(v,.bg cs)::e else e
 |_=>e
@[simp] theorem aiF{v:Nat}{e:Env}{J:SK}:Le v e J=Rc v (get e v) e J:=rfl
@[simp] theorem afk{v:Nat}{e:Env}{J:SK}:Rc v .bz e J=((v,.bT 0 [])::e,J):=aK rfl
@[simp] theorem agT{v n:Nat}{cs:List D}{e:Env}{J:SK}:Rc v (.bT n cs) e J=(e,J):=aK rfl
@[simp] theorem agV{v l i u:Nat}{e:Env}{J:SK}:Rc v (.ref l i u 0) e J=((v,(GG l i u J).1)::e,(GG l i u J).2):=aK rfl
@[simp] theorem agU{v s:Nat}{cs:List D}{e:Env}{J:SK}:Rc v (.own s cs) e J=((v,.own s (cs.map D.qY))::e,J):=aK rfl
@[simp] theorem agy{s:List UInt8}:D.qY (.str s)=.str s:=aK rfl
@[simp] theorem get_none{t:Nat}:get [] t=.undef:=aK rfl
@[simp] theorem adI{v:Nat}{vs:List Nat}{e:Env}{J:SK}:Uy vs v .undef e J=if 1000000<=v then vd vs (Le (v-1000000) e J).1 (Le (v-1000000) e J).2 else vd vs e J:=aK rfl
def akG(l n m off w:Nat)(J:SK)(s:D):Option (List D)->D×SK
 |some cs=>(.bT m (cF.frzL (cF l n) ((cs.drop off).take (m*w)) J).1,(cF.frzL (cF l n) ((cs.drop off).take (m*w)) J).2)
 |none=>(.undef,J)
theorem Xi{L i u off m w:Nat}{J:SK}{cs:List D}(hL:0<L)(hc:cells? J L i u=some cs):
  cF 0 16 (.sl L i u off m w) J=(.bT m (cF.frzL (cF 0 15) ((cs.drop off).take (m*w)) (bj J L i .dead)).1,(cF.frzL (cF 0 15) ((cs.drop off).take (m*w)) (bj J L i .dead)).2):=by
 exact FP (by omega) hc (by omega)
theorem aaa{J:SK}(hJ:J≠[]){bs:List aG}{i u m w:Nat}{cs:List D}(hb:bs[i]?=some (.cells u cs))(hcl:D.bf cs=true)(hlen:cs.length=m*w):
  cF 0 16 (.sl J.length i u 0 m w) (bs::J)=(.bT m cs,bs.set i .dead::J):=by
 have h:=aI.2 hJ;rw[Xi h (cs:=cs) (by simp[hb])];simp[<- hlen,hcl,ah]
theorem Nr{α:Type}{f:α->List D}{w:Nat}(hw:∀x,(f x).length=w)(l:List α):(fM l f).take (l.length*w)=fM l f :=
 ah (by rw[b8 hw];exact aN _)
theorem fB{α:Type}{f:α->List D}(h:∀x,D.bf (f x)=true)(l:List α):D.bf (fM l f)=true:=by
 have app:∀a b:List D,D.bf (a++b)=(D.bf a && D.bf b):=by
  intro a b;induction a with
  |nil=>simp
  |cons x a ih=>simp[ih,Bool.and_assoc]
 induction l with
 |nil=>simp
 |cons a l ih=>simp[app,h,ih]
theorem ki{α:Type}{f:α->List D}{w:Nat}(hw:∀x,(f x).length=w)(hc:∀x,D.bf (f x)=true){l:List α}{j v:Nat}{bs:List aG}{J:SK}(hJ:J≠[])(hj:bs[j]?=some (.cells v (fM l f))):
  cF (J.length-1) 16 (.sl J.length j v 0 l.length w) (bs::J)=(.bT l.length (fM l f),bs.set j .dead::J):=by
 have h3:¬J.length<=J.length-1:=by have:=aI.2 hJ;omega
 rw[FP h3 (cs:=fM l f) (by simp[hj]) (by omega)];simp[Nr hw l,fB hc l]
theorem o9{α:Type}{f:α->List D}{w:Nat}(hw:∀x,(f x).length=w)(hc:∀x,D.bf (f x)=true){l:List α}{j v:Nat}{bs:List aG}{J:SK}(hJ:J≠[])(hj:bs[j]?=some (.cells v (fM l f))):
  cF 0 16 (.sl J.length j v 0 l.length w) (bs::J)=(.bT l.length (fM l f),bs.set j .dead::J) :=
 aaa hJ hj (fB hc l) (b8 hw l)
theorem Md{α:Type}{f:α->List D}{w:Nat}(hw:∀x,(f x).length=w):∀{l:List α} {i:Nat} {x:α},i<l.length->(fM l f).take (i*w)++(f x++(fM l f).drop (i*w+w))=fM (l.set i x) f
 |[],i,x,h=>by simp at h
 |a::l,0,x,h=>by
  have h1:=hw a;simp only[Nat.zero_mul,List.take_zero,aU,db,List.set_cons_zero,cq];rw[<- h1,List.drop_left]
 |a::l,i+1,x,h=>by
  have h1:=hw a;have ih:=Md (l:=l) (i:=i) (x:=x) hw (by simpa using h);simp only[db,List.set_cons_succ];rw[<- ih,show(i+1)*w=w+i*w by rw[eC];omega,<- h1,List.take_length_add_append,cM,show(f a).length+i*(f a).length+(f a).length=(f a).length+(i*(f a).length+(f a).length)by omega,cV]
theorem rD{α:Type}{f:α->List D}{w:Nat}(hw:∀x,(f x).length=w):∀{l:List α} {i:Nat} {x:α},l[i]?=some x->(fM l f).drop (i*w)=f x++(fM l f).drop (i*w+w)
 |[],i,x,h=>by simp at h
 |a::l,0,x,h=>by
  simp at h;subst h;have h1:=hw a;simp only[Nat.zero_mul,aC,db,cq];rw[<- h1,List.drop_left]
 |a::l,i+1,x,h=>by
  have h1:=hw a;have ih:=rD (l:=l) (i:=i) (x:=x) hw (by simpa using h);simp only[db];rw[show(i+1)*w=w+i*w by rw[eC];omega,<- h1,cV,show(f a).length+i*(f a).length+(f a).length=(f a).length+(i*(f a).length+(f a).length)by omega,cV,h1,ih]
@[simp] theorem agQ{l:Nat}{J:SK}:pj l [] J=([],J):=aK rfl
@[simp] theorem afj{l t:Nat}{d:D}{e:Env}{J:SK}:pj l ((t,d)::e) J=((t,(cF l deep d J).1)::(pj l e (cF l deep d J).2).1,(pj l e (cF l deep d J).2).2):=aK rfl
def Tk(T:CT)(live:List Nat)(c:b9)(n:Nat)(Q:Exit->Env->SK->Prop)(_m:Mark c:=.mk)(_m':Mark Q:=.mk):Exit->Env->SK->Prop
 |.normal,e,J=>WL T live true c (pj n (restrict live e) J).1 (pj n (restrict live e) J).2.tail Q
 |.exit i,e,J=>Q (.exit i) (pj n (restrict (keys e) e) J).1 (pj n (restrict (keys e) e) J).2.tail
 |.ret,e,J=>Q .ret (pj n (restrict (keys e) e) J).1 (pj n (restrict (keys e) e) J).2.tail
 |.fu d,e,J=>Q (.fu d) (pj n (restrict (keys e) e) J).1 (pj n (restrict (keys e) e) J).2.tail
@[simp,simp ↓] theorem aaE{live:List Nat}{c:b9}{n:Nat}{Q:Exit->Env->SK->Prop}{e:Env}{J:SK}:Tk T live c n Q .mk .mk .normal e J=WL T live true c (pj n (restrict live e) J).1 (pj n (restrict live e) J).2.tail Q:=aK rfl
@[simp,simp ↓] theorem adY{live:List Nat}{c:b9}{n i:Nat}{Q:Exit->Env->SK->Prop}{e:Env}{J:SK}:Tk T live c n Q .mk .mk (.exit i) e J=Q (.exit i) (pj n (restrict (keys e) e) J).1 (pj n (restrict (keys e) e) J).2.tail:=aK rfl
@[simp,simp ↓] theorem afC{live:List Nat}{c:b9}{n:Nat}{Q:Exit->Env->SK->Prop}{e:Env}{J:SK}:Tk T live c n Q .mk .mk .ret e J=Q .ret (pj n (restrict (keys e) e) J).1 (pj n (restrict (keys e) e) J).2.tail:=aK rfl
theorem F7{live:List Nat}{c c':b9}{e:Env}{J:SK}{Q:Exit->Env->SK->Prop}(hc:c=c')(h:WC (dr T) c' (restrict live e) ([]::J) (Tk T live c (J.length-1) Q .mk .mk)):WL T live true c e J Q:=by
 rw[<- hc]at h;obtain⟨x,e1,J1,h1,h2⟩:=h;cases x with
 |normal =>
  obtain⟨x,e',J',h3,h4⟩:=h2;exact⟨x,e',J',gS (by simp[dF,h1,Ba,h3]),h4⟩
 |exit i=>exact⟨_,_,_,gS (by simp[dF,h1,Ba]),h2⟩
 |ret=>exact⟨_,_,_,gS (by simp[dF,h1,Ba]),h2⟩
 |fu d=>exact⟨_,_,_,gS (by simp[dF,h1,Ba]),h2⟩
def akD(n:Nat)(Q:Exit->Env->SK->Prop)(_m:Mark Q:=.mk):Exit->Env->SK->Prop:=λx e J=>Q x (pj n (restrict (keys e) e) J).1 (pj n (restrict (keys e) e) J).2.tail
@[simp] theorem keys_nil:keys []=[]:=aK rfl
@[simp] theorem keys_cons{t:Nat}{d:D}{e:Env}:keys ((t,d)::e)=t::keys (e.filter λp => !(p.1 == t)):=by
 simp only[keys,aM,List.eraseDups_cons,List.filter_map];rfl
end Go.Abs
namespace Go.Abs
def qo(d:Nat)(k:K):Op:=⟨some d,none,false,k⟩
def qO(d:Nat)(k:K):Op:=⟨some d,none,true,k⟩
def qm(d x:Nat):Op:=⟨some d,none,false,.mv (.t x)⟩
def qM(d x:Nat):Op:=⟨some d,none,true,.mv (.t x)⟩
def qi(d:Nat)(n:Int):Op:=⟨some d,none,false,.mv (.c (.int .i64 n))⟩
def qb(d:Nat)(b:Bool):Op:=⟨some d,none,false,.mv (.c (.bool b))⟩
def qf(d o x:Nat):Op:=⟨some d,none,false,.Lc o (.t x)⟩
def qF(d o x:Nat):Op:=⟨some d,none,true,.Lc o (.t x)⟩
def ql(d n x:Nat):Op:=⟨some d,none,false,.ld false n (.t x)⟩
def qL(d n x:Nat):Op:=⟨some d,none,true,.ld false n (.t x)⟩
def qa(d n x:Nat):Op:=⟨some d,none,false,.ld true n (.t x)⟩
def qA(d n x:Nat):Op:=⟨some d,none,true,.ld true n (.t x)⟩
def qv(d v n a:Nat):Op:=⟨some d,none,false,.Vg v false n a⟩
def qV(d v n a:Nat):Op:=⟨some d,none,true,.Vg v false n a⟩
def qw(d v n a:Nat):Op:=⟨some d,none,false,.Vg v true n a⟩
def qW(d v n a:Nat):Op:=⟨some d,none,true,.Vg v true n a⟩
def qx(d x:Nat):Op:=⟨some d,none,false,.K9 (.t x)⟩
def qe(d x:Nat):Op:=⟨some d,none,false,.Li (.t x)⟩
def qE(d x:Nat):Op:=⟨some d,none,true,.Li (.t x)⟩
def qj(d w x i:Nat):Op:=⟨some d,none,false,.HG w (.t x) (.t i)⟩
def qJ(d w x i:Nat):Op:=⟨some d,none,true,.HG w (.t x) (.t i)⟩
def qk(d:Nat)(o:BinOp)(x y:Nat):Op:=⟨some d,none,false,.bin o (.t x) (.t y)⟩
def qK(d:Nat)(o:BinOp)(x y:Nat):Op:=⟨some d,none,true,.bin o (.t x) (.t y)⟩
def qn(d:Nat)(o:BinOp)(x:Nat)(n:Int):Op:=⟨some d,none,false,.bin o (.t x) (.c (.int .i64 n))⟩
def qN(d:Nat)(o:BinOp)(x:Nat)(n:Int):Op:=⟨some d,none,true,.bin o (.t x) (.c (.int .i64 n))⟩
def qu(d x:Nat):Op:=⟨some d,none,false,.un .not (.t x)⟩
def qp(d c x:Nat):Op:=⟨some d,none,false,.pick (.t c) (.t x) (.c (.bool false))⟩
def qP(d c x:Nat):Op:=⟨some d,none,false,.pick (.t c) (.c (.bool true)) (.t x)⟩
def qs(v n a x:Nat):Op:=⟨none,none,false,.H5 v [] n a (.t x)⟩
def qS(v n a x:Nat):Op:=⟨none,none,true,.H5 v [] n a (.t x)⟩
def qt(n a x:Nat):Op:=⟨none,none,false,.st [] n (.t a) (.t x)⟩
def qz(d x i:Nat):Op:=⟨some d,none,false,.ext (.t x) i⟩
def qZ(d x i:Nat):Op:=⟨some d,none,true,.ext (.t x) i⟩
def qc(d f:Nat)(a:List Nat):Op:=⟨some d,none,false,.call false (.c (.fn f [] [])) (a.map .t)⟩
def qC(d f:Nat)(a:List Nat):Op:=⟨some d,none,true,.call false (.c (.fn f [] [])) (a.map .t)⟩
def qy(d w b s x:Nat):Op:=⟨some d,none,false,.app w b (.t s) (.t x)⟩
def qg(t:Nat)(b:Bool)(o:Op):Op:=⟨o.dst,some (t,b),o.Dd,o.k⟩
end Go.Abs
