import Derived.Test.YtpapbbojmclkgaaGreatDoorBase19
import Derived.IntWalk
set_option linter.all false
namespace Go.Abs
open Go
theorem WL.to{T:CT}{live:List Nat}{bF:Bool}{c:b9}{e e':Env}{J J':SK}{Q Q':Exit->Env->SK->Prop}(h:WL T live bF c e J Q)(he:e'=e)(hs:J'=J)
  (hq:∀x e J,Q x e J->Q' x e J):WL T live bF c e' J' Q':=by subst he hs;exact h.mono hq
theorem bZ{α:Type}{f:α->List D}{w:Nat}(hw:∀x,(f x).length=w)(l:List α):(fM l f).length=l.length*w:=by
 induction l with
 |nil=>simp
 |cons a l ih=>simp[hw,ih,eC];omega
theorem bd{α:Type}{f:α->List D}{w:Nat}(hw:∀x,(f x).length=w):∀{l:List α} {i:Nat} {x:α},l[i]?=some x->((fM l f).drop (i*w)).take w=f x
 |[],i,x,h=>by simp at h
 |a::l,0,x,h=>by
  simp at h;subst h;simp[<- hw a]
 |a::l,i+1,x,h=>by
  have e:(i+1)*w=(f a).length+i*w:=by rw[hw,eC];omega
  rw[cV,e,List.drop_append];simp only[Nat.add_sub_cancel_left,an (Nat.le_add_right _ _),aW];exact bd hw (by simpa using h)
theorem bw{α:Type}{l:List α}{i:Nat}{x:α}(h:l[i]?=some x):l.drop i=x::l.drop (i+1):=by
 have h1:i<l.length:=(aC.1 h).1;rw[List.drop_eq_getElem_cons h1];rw[aJ h1]at h;simp at h;rw[h]
theorem BH{α:Type}{f:α->List D}{l:List α}{i:Nat}{x:α}(h:l[i]?=some x):fM (l.take i) f++f x=fM (l.take (i+1)) f:=by
 rw[List.take_add_one,h];simp
theorem Pp{α:Type}{f:α->D}(l:List α):fM l (λx=>[f x])=l.map f:=by
 induction l with
 |nil=>rfl
 |cons a l ih=>simp[ih]
theorem cb{n:Int}(h : -9223372036854775808<=n/\n<=9223372036854775807:=by omega):IntKind.i64.wrap n=n:=IntWalk.i64_in n h
@[simp] theorem akA:IntKind.i64.wrap 0=0:=by decide
@[simp] theorem akB:IntKind.i64.wrap 1=1:=by decide
@[simp] theorem akC:IntKind.i64.wrap 2=2:=by decide
@[simp] theorem akD:IntKind.i64.wrap 3=3:=by decide
@[simp] theorem akE:IntKind.i64.wrap 4=4:=by decide
theorem wu8{n:Int}(h:0<=n/\n<=255):IntKind.u8.wrap n=n:=IntWalk.u8_in n h
theorem cg{i n:Nat}(h:i<n)(hn:n<=9223372036854775807:=by omega):IntKind.i64.wrap ((i:Int)+1)=((i+1:Nat):Int):=by
 rw[cb (by omega)];rfl
variable {T:CT}
def idxOf{α:Type}(p:α->Bool):List α->Int
 |[] => -1
 |x::l=>if p x then 0 else if idxOf p l<0 then -1 else idxOf p l+1
theorem HR{α:Type}{p:α->Bool}:∀{l:List α},idxOf p l<0↔l.any p=false
 |[]=>by simp[idxOf]
 |x::l=>by
  have ih:=HR (p:=p) (l:=l);simp only[idxOf,List.any_cons];cases h:p x
  .simp only[aD,if_false,Bool.false_or];by_cases h1:idxOf p l<0
   .rw[if_pos h1,ih.1 h1];decide
   .rw[if_neg h1];have h2:¬l.any p=false:=λh=>h1 (ih.2 h)
    exact⟨λh3=>absurd h3 (by omega),λh3=>absurd h3 h2⟩
  .simp
def dh{α:Type}(l:List α)(p:α->Bool):Bool:=l.all p
def mu{α:Type}(l:List α)(p:α->Bool):Bool:=l.any p
theorem eQ{α:Type}{l:List α}{p:α->Bool}:dh l p=true↔∀x∈l,p x=true:=by simp[dh]
theorem O8{α:Type}{l:List α}{p:α->Bool}:mu l p=true↔∃x∈l,p x=true:=by simp[mu]
def oS(T:CT){α:Type}(fv:D)(val:α->D)(p:α->Bool)(l:List α):Prop :=
 fv.strip=fv/\fv.calm=fv/\∀x∈l,∀J,og (dp T) false fv [val x] J=some (.bool (p x),J)
theorem oS.fn{α:Type}{f:Nat}{first cap:List D}{val:α->D}{p:α->Bool}{l:List α}
  (h:∀x∈l,∀J,dp T (.call false f (first++[val x]++cap) J)=some (.val (.bool (p x)) J)):oS T (.fn f first cap) val p l :=
 ⟨rfl,rfl,λx hx J=>by rw[pf,h x hx J];rfl⟩
structure ZK(α:Type) where
 ag:Bool
 w:Nat
 enc:α->List D
 val:α->D
 len:∀x,(enc x).length=w
 load:∀x,QH ag w (some (enc x))=some (val x)
 strip:∀x,(val x).strip=val x
 calm:∀x,(val x).calm=val x
 cells:∀x,(val x).cells=some (enc x)
def Np(k:IntKind):ZK Int:=⟨false,1,λn=>[.int k n],λn => .int k n,λ_=>rfl,λ_=>by simp,λ_=>rfl,λ_=>rfl,λ_=>rfl⟩
def aiF:ZK Bool:=⟨false,1,λn=>[.bool n],λn => .bool n,λ_=>rfl,λ_=>by simp,λ_=>rfl,λ_=>rfl,λ_=>rfl⟩
def yc{α:Type}(w:Nat)(enc:α->List D)(h:∀x,(enc x).length=w):ZK α :=
 ⟨true,w,enc,λx => .agg (enc x),h,λx=>by simp[h,ah],λ_=>rfl,λ_=>rfl,λ_=>rfl⟩
section index
variable (ag:Bool) (w:Nat)
def Kt:b9 :=
 (.seq (.si [0,1,7,8,9] [⟨some 9,none,false,.bin .lss (.t 8) (.t 7)⟩]) (.seq (.ite (.t 9) .Jp (.exit 0)) (.seq (.dI 1 (.seq (.si [0,1,5,7,8] [
 ⟨some 10,none,false,.mv (.t 8)⟩,
 ⟨some 5,none,false,.mv (.t 10)⟩]) (.seq (.si [0,1,5,7,8,16] [
 ⟨some 11,none,false,.mv (.t 1)⟩,
 ⟨some 12,none,false,.mv (.t 0)⟩,
 ⟨some 13,none,false,.mv (.t 5)⟩,
 ⟨some 14,none,false,.HS w (.t 12) (.t 13)⟩,
 ⟨some 15,none,false,.ld ag w (.t 14)⟩,
 ⟨some 16,none,false,.call false (.t 11) [(.t 15)]⟩]) (.ite (.t 16) (.seq (.si [4] [
 ⟨some 17,none,false,.mv (.t 5)⟩,
 ⟨some 4,none,false,.mv (.t 17)⟩]) .ret) .Jp)))) (.si [0,1,7,8] [
 ⟨some 18,none,false,.bin .add (.t 8) (.c (.int .i64 1))⟩,
 ⟨some 8,none,false,.mv (.t 18)⟩]))))
def uV:Fn:=⟨2,[.t 4],
 (.seq (.si [0,1] [⟨some 4,none,false,.mv (.c (.int .i64 0))⟩]) (.seq (.seq (.si [0,1,7,8] [
 ⟨some 6,none,false,.mv (.t 0)⟩,
 ⟨some 7,none,false,.Lu (.t 6)⟩,
 ⟨some 8,none,false,.mv (.c (.int .i64 0))⟩]) (.dI 0 (.loop [0,1,7,8] false (Kt ag w)))) (.seq (.si [4] [
 ⟨some 4,none,false,.mv (.c (.int .i64 (-1)))⟩]) .ret)))⟩
def iW(i:Nat):Fn:=⟨2,[.t 4],
 (.seq (.si [0,1] [⟨some 4,none,false,.mv (.c (.bool false))⟩]) (.seq (.si [4] [
 ⟨some 5,none,false,.mv (.t 0)⟩,
 ⟨some 6,none,false,.mv (.t 1)⟩,
 ⟨some 7,none,false,.call false (.c (.fn i [] [])) [(.t 5),(.t 6)]⟩,
 ⟨some 8,none,false,.bin .geq (.t 7) (.c (.int .i64 0))⟩,
 ⟨some 4,none,false,.mv (.t 8)⟩]) .ret))⟩
def Gj(g h:Nat):Fn:=⟨2,[.t 4],
 (.seq (.si [0,3] [
 ⟨some 3,none,false,.Lk (.t 1)⟩,
 ⟨some 4,none,false,.mv (.c (.bool false))⟩]) (.seq (.si [4] [
 ⟨some 5,none,false,.mv (.t 0)⟩,
 ⟨some 6,none,false,.XN g [] [(.t 3)]⟩,
 ⟨some 7,none,false,.call false (.c (.fn h [] [])) [(.t 5),(.t 6)]⟩,
 ⟨some 8,none,false,.un .not (.t 7)⟩,
 ⟨some 4,none,false,.mv (.t 8)⟩]) .ret))⟩
def AB:Bool->Nat->Fn
 |true,w=>⟨2,[.t 3],
 (.seq (.si [1,2] [
 ⟨some 2,none,false,.Lk (.t 0)⟩,
 ⟨some 3,none,false,.mv (.c (.bool false))⟩]) (.seq (.si [3] [
 ⟨some 4,none,false,.ld false 1 (.t 1)⟩,
 ⟨some 5,none,false,.ld true w (.t 2)⟩,
 ⟨some 6,none,false,.call false (.t 4) [(.t 5)]⟩,
 ⟨some 7,none,false,.un .not (.t 6)⟩,
 ⟨some 3,none,false,.mv (.t 7)⟩]) .ret))⟩
 |false,_=>⟨2,[.t 3],
 (.seq (.si [0,1] [
 ⟨some 3,none,false,.mv (.c (.bool false))⟩]) (.seq (.si [3] [
 ⟨some 4,none,false,.ld false 1 (.t 1)⟩,
 ⟨some 5,none,false,.mv (.t 0)⟩,
 ⟨some 6,none,false,.call false (.t 4) [(.t 5)]⟩,
 ⟨some 7,none,false,.un .not (.t 6)⟩,
 ⟨some 3,none,false,.mv (.t 7)⟩]) .ret))⟩
end index
section
variable {α:Type} (E:ZK α) {p:α->Bool} {fv:D} {l:List α}
theorem PK(hl:l.length<=9223372036854775807)(ht:oS T fv E.val p l){J:SK}:∀(m i:Nat),i+m=l.length ->
  WL T [0,1,7,8] false (Kt E.ag E.w) [(0,.bV l.length (fM l E.enc)),(1,fv),(7,.int .i64 l.length),(8,.int .i64 i)] J
   (λx e J'=>J'=J/\if idxOf p (l.drop i)<0 then x=.exit 0 else x=.ret/\get e 4=.int .i64 (i+idxOf p (l.drop i)))
 |0,i,hi=>by
  obtain⟨h1,h2,h3⟩:=ht;refine az (Kt.eq_1 _ _) ?_;have:¬i<l.length:=by omega
  have h5:l.drop i=[]:=by simp;omega
  simp[this,h1,h2,h5,idxOf]
 |m+1,i,hi=>by
  have ih:=PK hl ht (J:=J) m (i+1) (by omega);obtain⟨h1,h2,h3⟩:=ht;refine az (Kt.eq_1 _ _) ?_;have h4:i<l.length:=by omega
  obtain⟨x,hx⟩:=gE h4;have h5:=bd (f:=E.enc) E.len hx;have h6:=h3 x (aj hx) J;have h7:=cg h4 hl;have h8:l.drop i=x::l.drop (i+1):=by
   rw[List.drop_eq_getElem_cons h4];rw[aJ h4]at hx;simp at hx;rw[hx]
  cases hp:p x
  .rw[hp]at h6;simp[h4,h1,h2,h5,h6,h7,E.load,E.strip,E.calm];refine WL.mono (by simpa using ih) ?_;rintro x e J' ⟨h9,h10⟩;refine⟨h9,?_⟩;rw[h8];simp only[idxOf,hp,aD,if_false];by_cases h11:idxOf p (l.drop (i+1))<0
   .simpa[h11]using h10
   .rw[if_neg h11]at h10;rw[if_neg h11,if_neg (by omega)];refine⟨h10.1,?_⟩;rw[h10.2];congr 1;push_cast;omega
  .rw[hp]at h6;simp[h4,h1,h2,h5,h6,h7,E.load,E.strip,E.calm,h8,idxOf,hp]
theorem Xq{f:Nat}(hT:T f=some (uV E.ag E.w))(hl:l.length<=9223372036854775807)(ht:oS T fv E.val p l){J:SK}:
  dp T (.call false f [.bV l.length (fM l E.enc),fv] J)=some (.val (.int .i64 (idxOf p l)) J):=by
 refine oT hT (uV.eq_1 _ _) rfl ?_;have h:=PK E hl ht (J:=[]::J) l.length 0 (by simp);obtain⟨h1,h2,h3⟩:=ht;simp[h1,h2];refine WL.mono (by simpa using h) ?_;rintro x e J' ⟨rfl,h10⟩
 try simp only[aB]at h10
 by_cases h11:idxOf p l<0
 .rw[if_pos h11]at h10;subst h10;have:idxOf p l = -1:=by
   cases l with
   |nil=>rfl
   |cons a l =>
    simp only[idxOf]at h11 ⊢;split at h11<;>rename_i ha
    .omega
    .rw[if_neg ha];split at h11<;>rename_i hb
     .rw[if_pos hb]
     .omega
  simp[this]
 .rw[if_neg h11]at h10;obtain⟨rfl,h12⟩:=h10
  try simp at h12
  simp[h12]
theorem contains_of{f i:Nat}(hT:T f=some (iW i))(hi:T i=some (uV E.ag E.w))(hl:l.length<=9223372036854775807)(ht:oS T fv E.val p l){J:SK}:
  dp T (.call false f [.bV l.length (fM l E.enc),fv] J)=some (.val (.bool (mu l p)) J):=by
 refine oT hT (iW.eq_1 _) rfl ?_;have h:=Xq E hi hl ht (J:=[]::J);obtain⟨h1,h2,h3⟩:=ht;have h4:decide (0<=idxOf p l)=mu l p:=by
  unfold mu;have h6:=HR (p:=p) (l:=l);cases h5:l.any p
  .have:=h6.2 h5;exact decide_eq_false (by omega)
  .exact decide_eq_true (by
    have:¬idxOf p l<0:=λh=>by rw[h6.1 h]at h5;cases h5
    omega)
 simp[h1,h2,h,h4]
theorem SY{g:Nat}(hT:T g=some (AB E.ag E.w))(ht:oS T fv E.val p l):oS T (.fn g [] [.bg [fv]]) E.val (λx => !p x) l:=by
 refine oS.fn λx hx J=>?_
 obtain⟨h1,h2,h3⟩:=ht;have h6:=h3 x hx ([]::J);have hc:=E.cells x;have hl:=E.load x;have hs:=E.strip x;have hcm:=E.calm x;generalize E.ag=ag at *
 cases ag with
 |true =>
  refine oT hT (AB.eq_1 _) rfl ?_;simp[h1,h2,h6,hc,hl,hs,hcm]
 |false =>
  refine oT hT (AB.eq_2 _) rfl ?_;simp[h1,h2,h6,hc,hl,hs,hcm]
theorem B7{f g h i:Nat}(hf:T f=some (Gj g h))(hg:T g=some (AB E.ag E.w))(hh:T h=some (iW i))(hi:T i=some (uV E.ag E.w))
  (hl:l.length<=9223372036854775807) (ht:oS T fv E.val p l) (hcl:fv.cells=some [fv]) {J:SK}:
  dp T (.call false f [.bV l.length (fM l E.enc),fv] J)=some (.val (.bool (dh l p)) J):=by
 refine oT hf (Gj.eq_1 _ _) rfl ?_;have h:=contains_of E hh hi hl (SY E hg ht) (J:=[]::J);obtain⟨h1,h2,h3⟩:=ht;have h4:(mu l λx => !p x) = !dh l p:=by
  unfold mu dh;rw[List.all_eq_not_any_not,Bool.not_not]
 simp[h1,h2,h,h4,hcl]
end
variable {T:CT}
theorem fx{f:Nat}{fn:Fn}{args:List D}{J J':SK}{d:D}{np:Nat}{res:List Gg}{body:b9}(hT:T f=some fn)(hf:fn=⟨np,res,body⟩)(hl:args.length=np)(hs:J'.length=J.length)
  (h:WC (dp T) body (lE 0 args) ([]::J) (Ri J' res d)):
  dp T (.call false f args J)=some (.val d J'):=by
 subst hf;obtain⟨x,e1,J1,h1,h2,h2',ds,h3,s,h4⟩:=h;refine gT ?_;rw[hs,W7]at h4;simp only[dF,hT,if_pos hl,aD,if_false,h1];cases x with
 |exit i=>exact absurd rfl (h2 i)
 |ft d=>exact absurd rfl (h2' d)
 |normal=>simp[h3,h4]
 |ret=>simp[h3,h4]
def okX:Exit->Prop
 |.normal=>True
 |.ret=>True
 |_=>False
@[simp] theorem aiS:okX .ret=True:=aK rfl
theorem vw{f:Nat}{fn:Fn}{args:List D}{J J':SK}{d:D}{np:Nat}{res:List Gg}{body:b9}(hT:T f=some fn)(hf:fn=⟨np,res,body⟩)(hl:args.length=np)
  (h:WC (dp T) body (lE 0 args) J λx e J1=>okX x/\(BQ e J1 res).map ui=some d/\J1=J'):
  dp T (.call true f args J)=some (.val d J'):=by
 subst hf;obtain⟨x,e1,J1,h1,h2,h3,rfl⟩:=h;refine gT ?_;simp only[ad]at h3;obtain⟨ds,h3,rfl⟩:=h3;simp only[dF,hT,if_pos hl,if_true,h1];cases x with
 |exit i=>exact h2.elim
 |ft d=>exact h2.elim
 |normal=>simp[h3]
 |ret=>simp[h3]
inductive Ax (T:CT) (l i:Nat) {α:Type} (f:α->List D):List α->SK->Bool->SK->Prop
 |nil (J:SK):Ax T l i f [] J true J
 |go (a:α) (xs:List α) (J J1 J2:SK) (b:Bool):dp T (.round l i (f a) J)=some (.val (.bool true) J1)->Ax T l i f xs J1 b J2->Ax T l i f (a::xs) J b J2
 |stop (a:α) (xs:List α) (J J1:SK):dp T (.round l i (f a) J)=some (.val (.bool false) J1)->Ax T l i f (a::xs) J false J1
theorem Ax.split{l i:Nat}{α:Type}{f:α->List D}:∀{xs bs:List α} {J J':SK} {b:Bool},Ax T l i f (xs++bs) J b J' ->
  (∃J1,Ax T l i f xs J true J1/\Ax T l i f bs J1 b J')\/(b=false/\Ax T l i f xs J false J')
 |[],bs,J,J',b,h => .inl ⟨J,.nil J,h⟩
 |a::xs,bs,J,J',b,h=>by
  cases h with
  |go _ _ _ J1 _ _ h1 h2 =>
   rcases Ax.split h2 with⟨J3,h3,h4⟩ | ⟨rfl,h3⟩
   .exact .inl ⟨J3,.go _ _ _ _ _ _ h1 h3,h4⟩
   .exact .inr ⟨rfl,.go _ _ _ _ _ _ h1 h3⟩
  |stop _ _ _ _ h1=>exact .inr ⟨rfl,.stop _ _ _ _ h1⟩
theorem SV{live:List Nat}{fo:bP}{params:List Nat}{B8 body:b9}{e:Env}{s:List aG}{J J2:SK}{Q:Exit->Env->SK->Prop}{g:Nat}{first cap:List D}{d:D}{lp:xU}
  (hf:bB e fo=.fn g first cap)
  (hc:dp T (.call false g (first++[.jS J.length s.length]++cap) ((s++[.loop {state:=0,zh:=none,env:=zp live e,params,B8,body }])::J))=some (.val d J2))
  (hb:ea J2 J.length s.length=some (.loop lp)) (hs:lp.state≠1)
  (hq:Q (lp.zh.getD .normal) (restrict live e) (bj J2 J.length s.length (.loop {lp with state:=3 }))):
  WC (dp T) (.N0 live fo params B8 body) e (s::J) Q:=by
 refine⟨_,_,_,?_,hq⟩;simp only[bq,fQ,hf,Iw,hc,R.du,hb,if_neg hs]
def HT:Option aG->Option xU
 |some (.loop lp)=>some lp
 |_=>none
@[simp] theorem abT{lp:xU}:HT (some (.loop lp))=some lp:=aK rfl
theorem Ag{o:Option aG}{lp:xU}(h:HT o=some lp):o=some (.loop lp):=by
 cases o with
 |none=>cases h
 |some b=>cases b<;>cases h;rfl
def agO(l i:Nat)(b:Bool)(J':SK)(x:Exit)(J2:SK):Prop :=
 match x with
 |.ft _=>False
 |.normal=>WD (HT (ea J2.tail l i)) λlp2=>bj J2.tail l i (.loop {lp2 with state:=0,zh:=none })=J'/\b=true
 |x=>WD (HT (ea J2.tail l i)) λlp2=>bj J2.tail l i (.loop {lp2 with state:=2,zh:=some x })=J'/\b=false
@[simp] theorem abI{l i:Nat}{b:Bool}{J':SK}{s2:List aG}{J3:SK}:agO l i b J' .normal (s2::J3)=WD (HT (ea J3 l i)) λlp2=>bj J3 l i (.loop {lp2 with state:=0,zh:=none })=J'/\b=true:=aK rfl
def US(T:CT)(l i:Nat)(b:Bool)(J':SK)(n:Nat)(body:b9)(x:Exit)(e1:Env)(J1:SK)(_m:Mark body:=.mk):Prop :=
 x=.normal/\WD (HT (ea J1 l i)) λlp1=>lp1.state=0/\WC (dp T) body e1 (bj J1 l i (.loop {lp1 with state:=1 })) λx _ J2=>J2.length=n/\agO l i b J' x J2
theorem P9{l i:Nat}{args:List D}{J J':SK}{b:Bool}{lp:xU}(hb:ea J l i=some (.loop lp))(hl:args.length=lp.params.length)
  (h:WC (dp T) lp.B8 (CG lp.params args lp.env) ([]::J) (US T l i b J' (J.length+1) lp.body)):
  dp T (.round l i args J)=some (.val (.bool b) J'):=by
 obtain⟨x,e1,J1,h1,rfl,lp1,h2,h3,x2,e2,J2,h4,hlen,h6⟩:=h;have h2:=Ag h2;cases J2 with
 |nil=>simp at hlen
 |cons s2 J3 =>
 refine gT ?_;simp only[dF,hb,if_pos hl,h1,h2,if_pos h3,h4];cases x2 with
 |normal=>obtain⟨lp2,h5,h6,rfl⟩:=h6;have h5:=Ag h5;dsimp only [List.tail]at h5 h6 ⊢;rw[h5];dsimp only;rw[h6]
 |exit j=>obtain⟨lp2,h5,h6,rfl⟩:=h6;have h5:=Ag h5;dsimp only [List.tail]at h5 h6 ⊢;rw[h5];dsimp only;rw[h6]
 |ret=>obtain⟨lp2,h5,h6,rfl⟩:=h6;have h5:=Ag h5;dsimp only [List.tail]at h5 h6 ⊢;rw[h5];dsimp only;rw[h6]
 |ft d=>exact h6.elim
@[simp] theorem ab4{t:Nat}{ts:List Nat}{d:D}{ds:List D}{e:Env}:CG (t::ts) (d::ds) e=CG ts ds ((t,d)::e):=aK rfl
@[simp] theorem aei{ds:List D}{e:Env}:CG [] ds e=e:=aK (by cases ds<;>rfl)
@[simp] theorem afa{e:Env}:zp [] e=[]:=aK rfl
@[simp] theorem acq{t:Nat}{l:List Nat}{e:Env}:zp (t::l) e=(t,(get e t).strip)::zp l e:=aK rfl
variable {T:CT}
def UD(vs:List Nat)(v:Nat)(d:D)(e:Env)(J:SK):Env×SK :=
 match d with
 |.sl l i u off m w=>vc vs ((v,(cI 0 deep (.sl l i u off m w) J).1)::e) (cI 0 deep (.sl l i u off m w) J).2
 |.own s cs=>vc vs ((v,.own s (cI.frzL (cI 0 deep) cs J).1)::e) (cI.frzL (cI 0 deep) cs J).2
 |.agg cs=>vc vs ((v,.agg (cs.map D.rh))::e) J
 |.undef=>if 1000000<=v then vc vs (Lq (v-1000000) e J).1 (Lq (v-1000000) e J).2 else vc vs e J
 |_=>vc vs e J
@[simp] theorem ag1{e:Env}{J:SK}:vc [] e J=(e,J):=aK rfl
@[simp] theorem afv{v:Nat}{vs:List Nat}{e:Env}{J:SK}:vc (v::vs) e J=UD vs v (get e v) e J:=by
 simp only[vc,UD];cases get e v<;>rfl
@[simp] theorem aiK{v:Nat}{vs:List Nat}{e:Env}{J:SK}{l i u off m w:Nat}:UD vs v (.sl l i u off m w) e J =
  vc vs ((v,(cI 0 deep (.sl l i u off m w) J).1)::e) (cI 0 deep (.sl l i u off m w) J).2:=aK rfl
@[simp] theorem agX{v:Nat}{vs:List Nat}{e:Env}{J:SK}{s:Nat}{cs:List D}:UD vs v (.own s cs) e J =
  vc vs ((v,.own s (cI.frzL (cI 0 deep) cs J).1)::e) (cI.frzL (cI 0 deep) cs J).2:=aK rfl
@[simp] theorem agW{v:Nat}{vs:List Nat}{e:Env}{J:SK}{cs:List D}:UD vs v (.agg cs) e J=vc vs ((v,.agg (cs.map D.rh))::e) J:=aK rfl
@[simp] theorem agC{k:IntKind}{n:Int}:D.rh (.int k n)=.int k n:=aK rfl
@[simp] theorem WT{n:Nat}{cs:List D}:D.rh (.bV n cs)=.bV n cs:=aK rfl
@[simp] theorem afk:D.rh .bA=.bV 0 []:=aK rfl
def Rn(v:Nat)(d:D)(e:Env)(J:SK):Env×SK :=
 match d with
 |.bA=>((v,.bV 0 [])::e,J)
 |.ref l i u 0=>((v,(GU l i u J).1)::e,(GU l i u J).2)
 |.own s cs=>((v,.own s (cs.map D.rh))::e,J)
 |.undef=>if 1000000<=v then(aaH (v-1000000) e,J)else(e,J)
 |_=>(e,J)
def akT(v:Nat)(d:D)(e:Env):Env :=
 match d with
 |.own _ cs=>if e.all (λp=>match p.2 with | .vr x _ _=>x != v | _=>true)then(v,.bg cs)::e else e
 |_=>e
@[simp] theorem aiL{v:Nat}{e:Env}{J:SK}:Lq v e J=Rn v (get e v) e J:=rfl
@[simp] theorem afu{v:Nat}{e:Env}{J:SK}:Rn v .bA e J=((v,.bV 0 [])::e,J):=aK rfl
@[simp] theorem agY{v n:Nat}{cs:List D}{e:Env}{J:SK}:Rn v (.bV n cs) e J=(e,J):=aK rfl
@[simp] theorem ag0{v l i u:Nat}{e:Env}{J:SK}:Rn v (.ref l i u 0) e J=((v,(GU l i u J).1)::e,(GU l i u J).2):=aK rfl
@[simp] theorem agZ{v s:Nat}{cs:List D}{e:Env}{J:SK}:Rn v (.own s cs) e J=((v,.own s (cs.map D.rh))::e,J):=aK rfl
@[simp] theorem agD{s:List UInt8}:D.rh (.str s)=.str s:=aK rfl
@[simp] theorem get_none{t:Nat}:get [] t=.undef:=aK rfl
@[simp] theorem adO{v:Nat}{vs:List Nat}{e:Env}{J:SK}:UD vs v .undef e J=if 1000000<=v then vc vs (Lq (v-1000000) e J).1 (Lq (v-1000000) e J).2 else vc vs e J:=aK rfl
def akL(l n m off w:Nat)(J:SK)(s:D):Option (List D)->D×SK
 |some cs=>(.bV m (cI.frzL (cI l n) ((cs.drop off).take (m*w)) J).1,(cI.frzL (cI l n) ((cs.drop off).take (m*w)) J).2)
 |none=>(.undef,J)
theorem Xj{L i u off m w:Nat}{J:SK}{cs:List D}(hL:0<L)(hc:cells? J L i u=some cs):
  cI 0 16 (.sl L i u off m w) J=(.bV m (cI.frzL (cI 0 15) ((cs.drop off).take (m*w)) (bj J L i .dead)).1,(cI.frzL (cI 0 15) ((cs.drop off).take (m*w)) (bj J L i .dead)).2):=by
 exact FX (by omega) hc (by omega)
theorem aab{J:SK}(hJ:J≠[]){bs:List aG}{i u m w:Nat}{cs:List D}(hb:bs[i]?=some (.cells u cs))(hcl:D.bf cs=true)(hlen:cs.length=m*w):
  cI 0 16 (.sl J.length i u 0 m w) (bs::J)=(.bV m cs,bs.set i .dead::J):=by
 have h:=aH.2 hJ;rw[Xj h (cs:=cs) (by simp[hb])];simp[<- hlen,hcl,ah]
theorem Nz{α:Type}{f:α->List D}{w:Nat}(hw:∀x,(f x).length=w)(l:List α):(fM l f).take (l.length*w)=fM l f :=
 ah (by rw[bZ hw];exact aN _)
theorem fA{α:Type}{f:α->List D}(h:∀x,D.bf (f x)=true)(l:List α):D.bf (fM l f)=true:=by
 have app:∀a b:List D,D.bf (a++b)=(D.bf a && D.bf b):=by
  intro a b;induction a with
  |nil=>simp
  |cons x a ih=>simp[ih,Bool.and_assoc]
 induction l with
 |nil=>simp
 |cons a l ih=>simp[app,h,ih]
theorem lD{α:Type}{f:α->List D}{w:Nat}(hw:∀x,(f x).length=w)(hc:∀x,D.bf (f x)=true){l:List α}{j v:Nat}{bs:List aG}{J:SK}(hJ:J≠[])(hj:bs[j]?=some (.cells v (fM l f))):
  cI (J.length-1) 16 (.sl J.length j v 0 l.length w) (bs::J)=(.bV l.length (fM l f),bs.set j .dead::J):=by
 have h3:¬J.length<=J.length-1:=by have:=aH.2 hJ;omega
 rw[FX h3 (cs:=fM l f) (by simp[hj]) (by omega)];simp[Nz hw l,fA hc l]
theorem qX{α:Type}{f:α->List D}{w:Nat}(hw:∀x,(f x).length=w)(hc:∀x,D.bf (f x)=true){l:List α}{j v:Nat}{bs:List aG}{J:SK}(hJ:J≠[])(hj:bs[j]?=some (.cells v (fM l f))):
  cI 0 16 (.sl J.length j v 0 l.length w) (bs::J)=(.bV l.length (fM l f),bs.set j .dead::J) :=
 aab hJ hj (fA hc l) (bZ hw l)
theorem Mr{α:Type}{f:α->List D}{w:Nat}(hw:∀x,(f x).length=w):∀{l:List α} {i:Nat} {x:α},i<l.length->(fM l f).take (i*w)++(f x++(fM l f).drop (i*w+w))=fM (l.set i x) f
 |[],i,x,h=>by simp at h
 |a::l,0,x,h=>by
  have h1:=hw a;simp only[Nat.zero_mul,List.take_zero,aW,cV,List.set_cons_zero,cq];rw[<- h1,List.drop_left]
 |a::l,i+1,x,h=>by
  have h1:=hw a;have ih:=Mr (l:=l) (i:=i) (x:=x) hw (by simpa using h);simp only[cV,List.set_cons_succ];rw[<- ih,show(i+1)*w=w+i*w by rw[eC];omega,<- h1,List.take_length_add_append,cp,show(f a).length+i*(f a).length+(f a).length=(f a).length+(i*(f a).length+(f a).length)by omega,cX]
theorem pP{α:Type}{f:α->List D}{w:Nat}(hw:∀x,(f x).length=w):∀{l:List α} {i:Nat} {x:α},l[i]?=some x->(fM l f).drop (i*w)=f x++(fM l f).drop (i*w+w)
 |[],i,x,h=>by simp at h
 |a::l,0,x,h=>by
  simp at h;subst h;have h1:=hw a;simp only[Nat.zero_mul,aB,cV,cq];rw[<- h1,List.drop_left]
 |a::l,i+1,x,h=>by
  have h1:=hw a;have ih:=pP (l:=l) (i:=i) (x:=x) hw (by simpa using h);simp only[cV];rw[show(i+1)*w=w+i*w by rw[eC];omega,<- h1,cX,show(f a).length+i*(f a).length+(f a).length=(f a).length+(i*(f a).length+(f a).length)by omega,cX,h1,ih]
@[simp] theorem agV{l:Nat}{J:SK}:pa l [] J=([],J):=aK rfl
@[simp] theorem aft{l t:Nat}{d:D}{e:Env}{J:SK}:pa l ((t,d)::e) J=((t,(cI l deep d J).1)::(pa l e (cI l deep d J).2).1,(pa l e (cI l deep d J).2).2):=aK rfl
def To(T:CT)(live:List Nat)(c:b9)(n:Nat)(Q:Exit->Env->SK->Prop)(_m:Mark c:=.mk)(_m':Mark Q:=.mk):Exit->Env->SK->Prop
 |.normal,e,J=>WL T live true c (pa n (restrict live e) J).1 (pa n (restrict live e) J).2.tail Q
 |.exit i,e,J=>Q (.exit i) (pa n (restrict (keys e) e) J).1 (pa n (restrict (keys e) e) J).2.tail
 |.ret,e,J=>Q .ret (pa n (restrict (keys e) e) J).1 (pa n (restrict (keys e) e) J).2.tail
 |.ft d,e,J=>Q (.ft d) (pa n (restrict (keys e) e) J).1 (pa n (restrict (keys e) e) J).2.tail
@[simp,simp ↓] theorem aaF{live:List Nat}{c:b9}{n:Nat}{Q:Exit->Env->SK->Prop}{e:Env}{J:SK}:To T live c n Q .mk .mk .normal e J=WL T live true c (pa n (restrict live e) J).1 (pa n (restrict live e) J).2.tail Q:=aK rfl
@[simp,simp ↓] theorem ad5{live:List Nat}{c:b9}{n i:Nat}{Q:Exit->Env->SK->Prop}{e:Env}{J:SK}:To T live c n Q .mk .mk (.exit i) e J=Q (.exit i) (pa n (restrict (keys e) e) J).1 (pa n (restrict (keys e) e) J).2.tail:=aK rfl
@[simp,simp ↓] theorem afK{live:List Nat}{c:b9}{n:Nat}{Q:Exit->Env->SK->Prop}{e:Env}{J:SK}:To T live c n Q .mk .mk .ret e J=Q .ret (pa n (restrict (keys e) e) J).1 (pa n (restrict (keys e) e) J).2.tail:=aK rfl
theorem Gi{live:List Nat}{c c':b9}{e:Env}{J:SK}{Q:Exit->Env->SK->Prop}(hc:c=c')(h:WC (dp T) c' (restrict live e) ([]::J) (To T live c (J.length-1) Q .mk .mk)):WL T live true c e J Q:=by
 rw[<- hc]at h;obtain⟨x,e1,J1,h1,h2⟩:=h;cases x with
 |normal =>
  obtain⟨x,e',J',h3,h4⟩:=h2;exact⟨x,e',J',gT (by simp[dF,h1,A9,h3]),h4⟩
 |exit i=>exact⟨_,_,_,gT (by simp[dF,h1,A9]),h2⟩
 |ret=>exact⟨_,_,_,gT (by simp[dF,h1,A9]),h2⟩
 |ft d=>exact⟨_,_,_,gT (by simp[dF,h1,A9]),h2⟩
def akI(n:Nat)(Q:Exit->Env->SK->Prop)(_m:Mark Q:=.mk):Exit->Env->SK->Prop:=λx e J=>Q x (pa n (restrict (keys e) e) J).1 (pa n (restrict (keys e) e) J).2.tail
@[simp] theorem keys_nil:keys []=[]:=aK rfl
@[simp] theorem keys_cons{t:Nat}{d:D}{e:Env}:keys ((t,d)::e)=t::keys (e.filter λp => !(p.1 == t)):=by
 simp only[keys,aM,List.eraseDups_cons,List.filter_map];rfl
end Go.Abs
namespace Go.Abs
def qo(d:Nat)(k:K):Op:=⟨some d,none,false,k⟩
def qO(d:Nat)(k:K):Op:=⟨some d,none,true,k⟩
def qm(d x:Nat):Op:=⟨some d,none,false,.mv (.t x)⟩
def qM(d x:Nat):Op:=⟨some d,none,true,.mv (.t x)⟩
def qi(d:Nat)(n:Int):Op:=⟨some d,none,false,.mv (.c (.int .i64 n))⟩
def qb(d:Nat)(b:Bool):Op:=⟨some d,none,false,.mv (.c (.bool b))⟩
def qf(d o x:Nat):Op:=⟨some d,none,false,.Ln o (.t x)⟩
def qF(d o x:Nat):Op:=⟨some d,none,true,.Ln o (.t x)⟩
def ql(d n x:Nat):Op:=⟨some d,none,false,.ld false n (.t x)⟩
def qL(d n x:Nat):Op:=⟨some d,none,true,.ld false n (.t x)⟩
def qa(d n x:Nat):Op:=⟨some d,none,false,.ld true n (.t x)⟩
def qA(d n x:Nat):Op:=⟨some d,none,true,.ld true n (.t x)⟩
def qv(d v n a:Nat):Op:=⟨some d,none,false,.Vm v false n a⟩
def qV(d v n a:Nat):Op:=⟨some d,none,true,.Vm v false n a⟩
def qw(d v n a:Nat):Op:=⟨some d,none,false,.Vm v true n a⟩
def qW(d v n a:Nat):Op:=⟨some d,none,true,.Vm v true n a⟩
def qx(d x:Nat):Op:=⟨some d,none,false,.Lk (.t x)⟩
def qe(d x:Nat):Op:=⟨some d,none,false,.Lu (.t x)⟩
def qE(d x:Nat):Op:=⟨some d,none,true,.Lu (.t x)⟩
def qj(d w x i:Nat):Op:=⟨some d,none,false,.HS w (.t x) (.t i)⟩
def qJ(d w x i:Nat):Op:=⟨some d,none,true,.HS w (.t x) (.t i)⟩
def qk(d:Nat)(o:BinOp)(x y:Nat):Op:=⟨some d,none,false,.bin o (.t x) (.t y)⟩
def qK(d:Nat)(o:BinOp)(x y:Nat):Op:=⟨some d,none,true,.bin o (.t x) (.t y)⟩
def qn(d:Nat)(o:BinOp)(x:Nat)(n:Int):Op:=⟨some d,none,false,.bin o (.t x) (.c (.int .i64 n))⟩
def qN(d:Nat)(o:BinOp)(x:Nat)(n:Int):Op:=⟨some d,none,true,.bin o (.t x) (.c (.int .i64 n))⟩
def qu(d x:Nat):Op:=⟨some d,none,false,.un .not (.t x)⟩
def qp(d c x:Nat):Op:=⟨some d,none,false,.pick (.t c) (.t x) (.c (.bool false))⟩
def qP(d c x:Nat):Op:=⟨some d,none,false,.pick (.t c) (.c (.bool true)) (.t x)⟩
def qs(v n a x:Nat):Op:=⟨none,none,false,.Ie v [] n a (.t x)⟩
def qS(v n a x:Nat):Op:=⟨none,none,true,.Ie v [] n a (.t x)⟩
def qt(n a x:Nat):Op:=⟨none,none,false,.st [] n (.t a) (.t x)⟩
def qz(d x i:Nat):Op:=⟨some d,none,false,.ext (.t x) i⟩
def qZ(d x i:Nat):Op:=⟨some d,none,true,.ext (.t x) i⟩
def qc(d f:Nat)(a:List Nat):Op:=⟨some d,none,false,.call false (.c (.fn f [] [])) (a.map .t)⟩
def qC(d f:Nat)(a:List Nat):Op:=⟨some d,none,true,.call false (.c (.fn f [] [])) (a.map .t)⟩
def qy(d w b s x:Nat):Op:=⟨some d,none,false,.app w b (.t s) (.t x)⟩
def qg(t:Nat)(b:Bool)(o:Op):Op:=⟨o.dst,some (t,b),o.De,o.k⟩
end Go.Abs
