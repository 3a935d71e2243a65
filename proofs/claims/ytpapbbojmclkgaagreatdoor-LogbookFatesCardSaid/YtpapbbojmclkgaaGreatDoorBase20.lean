import Derived.Test.YtpapbbojmclkgaaGreatDoorBase19
import Derived.IntWalk
set_option linter.all false
namespace Go.Abs
open Go
theorem WL.to{T:Ad}{live:List Nat}{bH:Bool}{c:cb}{e e':Env}{J J':SK}{Q Q':Exit->Env->SK->Prop}(h:WL T live bH c e J Q)(he:e'=e)(hs:J'=J)
  (hq:∀x e J,Q x e J->Q' x e J):WL T live bH c e' J' Q':=by subst he hs;exact h.mono hq
theorem ch{α:Type}{f:α->List D}{w:Nat}(hw:∀x,(f x).length=w)(l:List α):(fM l f).length=l.length*w:=by
 induction l with
 |nil=>simp
 |cons a l ih=>simp[hw,ih,eC];omega
theorem bu{α:Type}{f:α->List D}{w:Nat}(hw:∀x,(f x).length=w):∀{l:List α} {i:Nat} {x:α},l[i]?=some x->((fM l f).drop (i*w)).take w=f x
 |[],i,x,h=>by simp at h
 |a::l,0,x,h=>by
  simp at h;subst h;simp[<- hw a]
 |a::l,i+1,x,h=>by
  have e:(i+1)*w=(f a).length+i*w:=by rw[hw,eC];omega
  rw[eg,e,List.drop_append];simp only[Nat.add_sub_cancel_left,an (Nat.le_add_right _ _),aY];exact bu hw (by simpa using h)
theorem bD{α:Type}{l:List α}{i:Nat}{x:α}(h:l[i]?=some x):l.drop i=x::l.drop (i+1):=by
 have h1:i<l.length:=(aA.1 h).1;rw[List.drop_eq_getElem_cons h1];rw[aI h1]at h;simp at h;rw[h]
theorem Bm{α:Type}{f:α->List D}{l:List α}{i:Nat}{x:α}(h:l[i]?=some x):fM (l.take i) f++f x=fM (l.take (i+1)) f:=by
 rw[List.take_add_one,h];simp
theorem OL{α:Type}{f:α->D}(l:List α):fM l (λx=>[f x])=l.map f:=by
 induction l with
 |nil=>rfl
 |cons a l ih=>simp[ih]
theorem cf{n:Int}(h : -9223372036854775808<=n/\n<=9223372036854775807):IntKind.i64.wrap n=n:=IntWalk.i64_in n h
@[simp] theorem akE:IntKind.i64.wrap 0=0:=by decide
@[simp] theorem akF:IntKind.i64.wrap 1=1:=by decide
@[simp] theorem akG:IntKind.i64.wrap 2=2:=by decide
@[simp] theorem akH:IntKind.i64.wrap 3=3:=by decide
@[simp] theorem akI:IntKind.i64.wrap 4=4:=by decide
theorem wu8{n:Int}(h:0<=n/\n<=255):IntKind.u8.wrap n=n:=IntWalk.u8_in n h
theorem cr{i n:Nat}(h:i<n)(hn:n<=9223372036854775807):IntKind.i64.wrap ((i:Int)+1)=((i+1:Nat):Int):=by
 rw[cf (by omega)];rfl
variable {T:Ad}
def idxOf{α:Type}(p:α->Bool):List α->Int
 |[] => -1
 |x::l=>if p x then 0 else if idxOf p l<0 then -1 else idxOf p l+1
theorem Hj{α:Type}{p:α->Bool}:∀{l:List α},idxOf p l<0↔l.any p=false
 |[]=>by simp[idxOf]
 |x::l=>by
  have ih:=Hj (p:=p) (l:=l);simp only[idxOf,List.any_cons];cases h:p x
  .simp only[aC,if_false,Bool.false_or];by_cases h1:idxOf p l<0
   .rw[if_pos h1,ih.1 h1];decide
   .rw[if_neg h1];have h2:¬l.any p=false:=λh=>h1 (ih.2 h)
    exact⟨λh3=>absurd h3 (by omega),λh3=>absurd h3 h2⟩
  .simp
def da{α:Type}(l:List α)(p:α->Bool):Bool:=l.all p
def l9{α:Type}(l:List α)(p:α->Bool):Bool:=l.any p
theorem eO{α:Type}{l:List α}{p:α->Bool}:da l p=true↔∀x∈l,p x=true:=by simp[da]
theorem Js{α:Type}{l:List α}{p:α->Bool}:l9 l p=true↔∃x∈l,p x=true:=by simp[l9]
def oJ(T:Ad){α:Type}(fv:D)(val:α->D)(p:α->Bool)(l:List α):Prop :=
 fv.strip=fv/\fv.calm=fv/\∀x∈l,∀J,nV (dj T) false fv [val x] J=some (.bool (p x),J)
theorem oJ.fn{α:Type}{f:Nat}{first cap:List D}{val:α->D}{p:α->Bool}{l:List α}
  (h:∀x∈l,∀J,dj T (.call false f (first++[val x]++cap) J)=some (.val (.bool (p x)) J)):oJ T (.fn f first cap) val p l :=
 ⟨rfl,rfl,λx hx J=>by rw[oY,h x hx J];rfl⟩
structure Y3(α:Type) where
 ag:Bool
 w:Nat
 enc:α->List D
 val:α->D
 len:∀x,(enc x).length=w
 load:∀x,PW ag w (some (enc x))=some (val x)
 strip:∀x,(val x).strip=val x
 calm:∀x,(val x).calm=val x
 cells:∀x,(val x).cells=some (enc x)
def MK(k:IntKind):Y3 Int:=⟨false,1,λn=>[.int k n],λn => .int k n,λ_=>rfl,λ_=>by simp,λ_=>rfl,λ_=>rfl,λ_=>rfl⟩
def ah0:Y3 Bool:=⟨false,1,λn=>[.bool n],λn => .bool n,λ_=>rfl,λ_=>by simp,λ_=>rfl,λ_=>rfl,λ_=>rfl⟩
def xJ{α:Type}(w:Nat)(enc:α->List D)(h:∀x,(enc x).length=w):Y3 α :=
 ⟨true,w,enc,λx => .agg (enc x),h,λx=>by simp[h,ai],λ_=>rfl,λ_=>rfl,λ_=>rfl⟩
section index
variable (ag:Bool) (w:Nat)
def J1:cb :=
 (.seq (.rM [0,1,7,8,9] [⟨some 9,none,false,.bin .lss (.t 8) (.t 7)⟩]) (.seq (.ite (.t 9) .IX (.exit 0)) (.seq (.dC 1 (.seq (.rM [0,1,5,7,8] [
 ⟨some 10,none,false,.mv (.t 8)⟩,
 ⟨some 5,none,false,.mv (.t 10)⟩]) (.seq (.rM [0,1,5,7,8,16] [
 ⟨some 11,none,false,.mv (.t 1)⟩,
 ⟨some 12,none,false,.mv (.t 0)⟩,
 ⟨some 13,none,false,.mv (.t 5)⟩,
 ⟨some 14,none,false,.Hk w (.t 12) (.t 13)⟩,
 ⟨some 15,none,false,.ld ag w (.t 14)⟩,
 ⟨some 16,none,false,.call false (.t 11) [(.t 15)]⟩]) (.ite (.t 16) (.seq (.rM [4] [
 ⟨some 17,none,false,.mv (.t 5)⟩,
 ⟨some 4,none,false,.mv (.t 17)⟩]) .ret) .IX)))) (.rM [0,1,7,8] [
 ⟨some 18,none,false,.bin .add (.t 8) (.c (.int .i64 1))⟩,
 ⟨some 8,none,false,.mv (.t 18)⟩]))))
def uG:Fn:=⟨2,[.t 4],
 (.seq (.rM [0,1] [⟨some 4,none,false,.mv (.c (.int .i64 0))⟩]) (.seq (.seq (.rM [0,1,7,8] [
 ⟨some 6,none,false,.mv (.t 0)⟩,
 ⟨some 7,none,false,.KU (.t 6)⟩,
 ⟨some 8,none,false,.mv (.c (.int .i64 0))⟩]) (.dC 0 (.loop [0,1,7,8] false (J1 ag w)))) (.seq (.rM [4] [
 ⟨some 4,none,false,.mv (.c (.int .i64 (-1)))⟩]) .ret)))⟩
def iX(i:Nat):Fn:=⟨2,[.t 4],
 (.seq (.rM [0,1] [⟨some 4,none,false,.mv (.c (.bool false))⟩]) (.seq (.rM [4] [
 ⟨some 5,none,false,.mv (.t 0)⟩,
 ⟨some 6,none,false,.mv (.t 1)⟩,
 ⟨some 7,none,false,.call false (.c (.fn i [] [])) [(.t 5),(.t 6)]⟩,
 ⟨some 8,none,false,.bin .geq (.t 7) (.c (.int .i64 0))⟩,
 ⟨some 4,none,false,.mv (.t 8)⟩]) .ret))⟩
def FQ(g h:Nat):Fn:=⟨2,[.t 4],
 (.seq (.rM [0,3] [
 ⟨some 3,none,false,.KL (.t 1)⟩,
 ⟨some 4,none,false,.mv (.c (.bool false))⟩]) (.seq (.rM [4] [
 ⟨some 5,none,false,.mv (.t 0)⟩,
 ⟨some 6,none,false,.W4 g [] [(.t 3)]⟩,
 ⟨some 7,none,false,.call false (.c (.fn h [] [])) [(.t 5),(.t 6)]⟩,
 ⟨some 8,none,false,.un .not (.t 7)⟩,
 ⟨some 4,none,false,.mv (.t 8)⟩]) .ret))⟩
def Af:Bool->Nat->Fn
 |true,w=>⟨2,[.t 3],
 (.seq (.rM [1,2] [
 ⟨some 2,none,false,.KL (.t 0)⟩,
 ⟨some 3,none,false,.mv (.c (.bool false))⟩]) (.seq (.rM [3] [
 ⟨some 4,none,false,.ld false 1 (.t 1)⟩,
 ⟨some 5,none,false,.ld true w (.t 2)⟩,
 ⟨some 6,none,false,.call false (.t 4) [(.t 5)]⟩,
 ⟨some 7,none,false,.un .not (.t 6)⟩,
 ⟨some 3,none,false,.mv (.t 7)⟩]) .ret))⟩
 |false,_=>⟨2,[.t 3],
 (.seq (.rM [0,1] [
 ⟨some 3,none,false,.mv (.c (.bool false))⟩]) (.seq (.rM [3] [
 ⟨some 4,none,false,.ld false 1 (.t 1)⟩,
 ⟨some 5,none,false,.mv (.t 0)⟩,
 ⟨some 6,none,false,.call false (.t 4) [(.t 5)]⟩,
 ⟨some 7,none,false,.un .not (.t 6)⟩,
 ⟨some 3,none,false,.mv (.t 7)⟩]) .ret))⟩
end index
section
variable {α:Type} (E:Y3 α) {p:α->Bool} {fv:D} {l:List α}
theorem O3(hl:l.length<=9223372036854775807)(ht:oJ T fv E.val p l){J:SK}:∀(m i:Nat),i+m=l.length ->
  WL T [0,1,7,8] false (J1 E.ag E.w) [(0,.bY l.length (fM l E.enc)),(1,fv),(7,.int .i64 l.length),(8,.int .i64 i)] J
   (λx e J'=>J'=J/\if idxOf p (l.drop i)<0 then x=.exit 0 else x=.ret/\get e 4=.int .i64 (i+idxOf p (l.drop i)))
 |0,i,hi=>by
  obtain⟨h1,h2,h3⟩:=ht;refine aB (J1.eq_1 _ _) ?_;have:¬i<l.length:=by omega
  have h5:l.drop i=[]:=by simp;omega
  simp[this,h1,h2,h5,idxOf]
 |m+1,i,hi=>by
  have ih:=O3 hl ht (J:=J) m (i+1) (by omega);obtain⟨h1,h2,h3⟩:=ht;refine aB (J1.eq_1 _ _) ?_;have h4:i<l.length:=by omega
  obtain⟨x,hx⟩:=gE h4;have h5:=bu (f:=E.enc) E.len hx;have h6:=h3 x (aj hx) J;have h7:=cr h4 hl;have h8:l.drop i=x::l.drop (i+1):=by
   rw[List.drop_eq_getElem_cons h4];rw[aI h4]at hx;simp at hx;rw[hx]
  cases hp:p x
  .rw[hp]at h6;simp[h4,h1,h2,h5,h6,h7,E.load,E.strip,E.calm];refine WL.mono (by simpa using ih) ?_;rintro x e J' ⟨h9,h10⟩;refine⟨h9,?_⟩;rw[h8];simp only[idxOf,hp,aC,if_false];by_cases h11:idxOf p (l.drop (i+1))<0
   .simpa[h11]using h10
   .rw[if_neg h11]at h10;rw[if_neg h11,if_neg (by omega)];refine⟨h10.1,?_⟩;rw[h10.2];congr 1;push_cast;omega
  .rw[hp]at h6;simp[h4,h1,h2,h5,h6,h7,E.load,E.strip,E.calm,h8,idxOf,hp]
theorem Ww{f:Nat}(hT:T f=some (uG E.ag E.w))(hl:l.length<=9223372036854775807)(ht:oJ T fv E.val p l){J:SK}:
  dj T (.call false f [.bY l.length (fM l E.enc),fv] J)=some (.val (.int .i64 (idxOf p l)) J):=by
 refine au hT (uG.eq_1 _ _) rfl ?_;have h:=O3 E hl ht (J:=[]::J) l.length 0 (by simp);obtain⟨h1,h2,h3⟩:=ht;simp[h1,h2];refine WL.mono (by simpa using h) ?_;rintro x e J' ⟨rfl,h10⟩
 try simp only[aE]at h10
 by_cases h11:idxOf p l<0
 .rw[if_pos h11]at h10;subst h10;have:idxOf p l = -1:=by
   cases l with
   |nil=>rfl
   |cons a l =>
    simp only[idxOf]at h11 ⊢;split at h11<;>rename_i ha
    .omega
    .rw[if_neg ha];split at h11<;>rename_i hb
     .rw[if_pos hb]
     .omega
  simp[this]
 .rw[if_neg h11]at h10;obtain⟨rfl,h12⟩:=h10
  try simp at h12
  simp[h12]
theorem contains_of{f i:Nat}(hT:T f=some (iX i))(hi:T i=some (uG E.ag E.w))(hl:l.length<=9223372036854775807)(ht:oJ T fv E.val p l){J:SK}:
  dj T (.call false f [.bY l.length (fM l E.enc),fv] J)=some (.val (.bool (l9 l p)) J):=by
 refine au hT (iX.eq_1 _) rfl ?_;have h:=Ww E hi hl ht (J:=[]::J);obtain⟨h1,h2,h3⟩:=ht;have h4:decide (0<=idxOf p l)=l9 l p:=by
  unfold l9;have h6:=Hj (p:=p) (l:=l);cases h5:l.any p
  .have:=h6.2 h5;exact decide_eq_false (by omega)
  .exact decide_eq_true (by
    have:¬idxOf p l<0:=λh=>by rw[h6.1 h]at h5;cases h5
    omega)
 simp[h1,h2,h,h4]
theorem R8{g:Nat}(hT:T g=some (Af E.ag E.w))(ht:oJ T fv E.val p l):oJ T (.fn g [] [.bf [fv]]) E.val (λx => !p x) l:=by
 refine oJ.fn λx hx J=>?_
 obtain⟨h1,h2,h3⟩:=ht;have h6:=h3 x hx ([]::J);have hc:=E.cells x;have hl:=E.load x;have hs:=E.strip x;have hcm:=E.calm x;generalize E.ag=ag at *
 cases ag with
 |true =>
  refine au hT (Af.eq_1 _) rfl ?_;simp[h1,h2,h6,hc,hl,hs,hcm]
 |false =>
  refine au hT (Af.eq_2 _) rfl ?_;simp[h1,h2,h6,hc,hl,hs,hcm]
theorem BK{f g h i:Nat}(hf:T f=some (FQ g h))(hg:T g=some (Af E.ag E.w))(hh:T h=some (iX i))(hi:T i=some (uG E.ag E.w))
  (hl:l.length<=9223372036854775807) (ht:oJ T fv E.val p l) (hcl:fv.cells=some [fv]) {J:SK}:
  dj T (.call false f [.bY l.length (fM l E.enc),fv] J)=some (.val (.bool (da l p)) J):=by
 refine au hf (FQ.eq_1 _ _) rfl ?_;have h:=contains_of E hh hi hl (R8 E hg ht) (J:=[]::J);obtain⟨h1,h2,h3⟩:=ht;have h4:(l9 l λx => !p x) = !da l p:=by
  unfold l9 da;rw[List.all_eq_not_any_not,Bool.not_not]
 simp[h1,h2,h,h4,hcl]
end
variable {T:Ad}
theorem fJ{f:Nat}{fn:Fn}{args:List D}{J J':SK}{d:D}{np:Nat}{res:List FO}{body:cb}(hT:T f=some fn)(hf:fn=⟨np,res,body⟩)(hl:args.length=np)(hs:J'.length=J.length)
  (h:WC (dj T) body (lZ 0 args) ([]::J) (TV J' res d)):
  dj T (.call false f args J)=some (.val d J'):=by
 subst hf;obtain⟨x,e1,J1,h1,h2,h2',ds,h3,s,h4⟩:=h;refine gn ?_;rw[hs,We]at h4;simp only[du,hT,if_pos hl,aC,if_false,h1];cases x with
 |exit i=>exact absurd rfl (h2 i)
 |ft d=>exact absurd rfl (h2' d)
 |normal=>simp[h3,h4]
 |ret=>simp[h3,h4]
def okX:Exit->Prop
 |.normal=>True
 |.ret=>True
 |_=>False
@[simp] theorem aif:okX .ret=True:=aJ rfl
theorem xk{f:Nat}{fn:Fn}{args:List D}{J J':SK}{d:D}{np:Nat}{res:List FO}{body:cb}(hT:T f=some fn)(hf:fn=⟨np,res,body⟩)(hl:args.length=np)
  (h:WC (dj T) body (lZ 0 args) J λx e J1=>okX x/\(Bz e J1 res).map tR=some d/\J1=J'):
  dj T (.call true f args J)=some (.val d J'):=by
 subst hf;obtain⟨x,e1,J1,h1,h2,h3,rfl⟩:=h;refine gn ?_;simp only[ad]at h3;obtain⟨ds,h3,rfl⟩:=h3;simp only[du,hT,if_pos hl,if_true,h1];cases x with
 |exit i=>exact h2.elim
 |ft d=>exact h2.elim
 |normal=>simp[h3]
 |ret=>simp[h3]
inductive Aa (T:Ad) (l i:Nat) {α:Type} (f:α->List D):List α->SK->Bool->SK->Prop
 |nil (J:SK):Aa T l i f [] J true J
 |go (a:α) (xs:List α) (J J1 J2:SK) (b:Bool):dj T (.round l i (f a) J)=some (.val (.bool true) J1)->Aa T l i f xs J1 b J2->Aa T l i f (a::xs) J b J2
 |stop (a:α) (xs:List α) (J J1:SK):dj T (.round l i (f a) J)=some (.val (.bool false) J1)->Aa T l i f (a::xs) J false J1
theorem Aa.split{l i:Nat}{α:Type}{f:α->List D}:∀{xs bs:List α} {J J':SK} {b:Bool},Aa T l i f (xs++bs) J b J' ->
  (∃J1,Aa T l i f xs J true J1/\Aa T l i f bs J1 b J')\/(b=false/\Aa T l i f xs J false J')
 |[],bs,J,J',b,h => .inl ⟨J,.nil J,h⟩
 |a::xs,bs,J,J',b,h=>by
  cases h with
  |go _ _ _ J1 _ _ h1 h2 =>
   rcases Aa.split h2 with⟨J3,h3,h4⟩ | ⟨rfl,h3⟩
   .exact .inl ⟨J3,.go _ _ _ _ _ _ h1 h3,h4⟩
   .exact .inr ⟨rfl,.go _ _ _ _ _ _ h1 h3⟩
  |stop _ _ _ _ h1=>exact .inr ⟨rfl,.stop _ _ _ _ h1⟩
theorem R5{live:List Nat}{fo:bP}{params:List Nat}{BL body:cb}{e:Env}{s:List aD}{J J2:SK}{Q:Exit->Env->SK->Prop}{g:Nat}{first cap:List D}{d:D}{lp:xB}
  (hf:bz e fo=.fn g first cap)
  (hc:dj T (.call false g (first++[.kV J.length s.length]++cap) ((s++[.loop {state:=0,yP:=none,env:=yW live e,params,BL,body }])::J))=some (.val d J2))
  (hb:ea J2 J.length s.length=some (.loop lp)) (hs:lp.state≠1)
  (hq:Q (lp.yP.getD .normal) (restrict live e) (bh J2 J.length s.length (.loop {lp with state:=3 }))):
  WC (dj T) (.Nj live fo params BL body) e (s::J) Q:=by
 refine⟨_,_,_,?_,hq⟩;simp only[bq,gA,hf,HV,hc,R.dn,hb,if_neg hs]
def Hl:Option aD->Option xB
 |some (.loop lp)=>some lp
 |_=>none
@[simp] theorem aa4{lp:xB}:Hl (some (.loop lp))=some lp:=aJ rfl
theorem zO{o:Option aD}{lp:xB}(h:Hl o=some lp):o=some (.loop lp):=by
 cases o with
 |none=>cases h
 |some b=>cases b<;>cases h;rfl
def afQ(l i:Nat)(b:Bool)(J':SK)(x:Exit)(J2:SK):Prop :=
 match x with
 |.ft _=>False
 |.normal=>WD (Hl (ea J2.tail l i)) λlp2=>bh J2.tail l i (.loop {lp2 with state:=0,yP:=none })=J'/\b=true
 |x=>WD (Hl (ea J2.tail l i)) λlp2=>bh J2.tail l i (.loop {lp2 with state:=2,yP:=some x })=J'/\b=false
@[simp] theorem aaU{l i:Nat}{b:Bool}{J':SK}{s2:List aD}{J3:SK}:afQ l i b J' .normal (s2::J3)=WD (Hl (ea J3 l i)) λlp2=>bh J3 l i (.loop {lp2 with state:=0,yP:=none })=J'/\b=true:=aJ rfl
def Uh(T:Ad)(l i:Nat)(b:Bool)(J':SK)(n:Nat)(body:cb)(x:Exit)(e1:Env)(J1:SK)(_m:Mark body:=.mk):Prop :=
 x=.normal/\WD (Hl (ea J1 l i)) λlp1=>lp1.state=0/\WC (dj T) body e1 (bh J1 l i (.loop {lp1 with state:=1 })) λx _ J2=>J2.length=n/\afQ l i b J' x J2
theorem Pp{l i:Nat}{args:List D}{J J':SK}{b:Bool}{lp:xB}(hb:ea J l i=some (.loop lp))(hl:args.length=lp.params.length)
  (h:WC (dj T) lp.BL (Ck lp.params args lp.env) ([]::J) (Uh T l i b J' (J.length+1) lp.body)):
  dj T (.round l i args J)=some (.val (.bool b) J'):=by
 obtain⟨x,e1,J1,h1,rfl,lp1,h2,h3,x2,e2,J2,h4,hlen,h6⟩:=h;have h2:=zO h2;cases J2 with
 |nil=>simp at hlen
 |cons s2 J3 =>
 refine gn ?_;simp only[du,hb,if_pos hl,h1,h2,if_pos h3,h4];cases x2 with
 |normal=>obtain⟨lp2,h5,h6,rfl⟩:=h6;have h5:=zO h5;dsimp only [List.tail]at h5 h6 ⊢;rw[h5];dsimp only;rw[h6]
 |exit j=>obtain⟨lp2,h5,h6,rfl⟩:=h6;have h5:=zO h5;dsimp only [List.tail]at h5 h6 ⊢;rw[h5];dsimp only;rw[h6]
 |ret=>obtain⟨lp2,h5,h6,rfl⟩:=h6;have h5:=zO h5;dsimp only [List.tail]at h5 h6 ⊢;rw[h5];dsimp only;rw[h6]
 |ft d=>exact h6.elim
@[simp] theorem abf{t:Nat}{ts:List Nat}{d:D}{ds:List D}{e:Env}:Ck (t::ts) (d::ds) e=Ck ts ds ((t,d)::e):=aJ rfl
@[simp] theorem adt{ds:List D}{e:Env}:Ck [] ds e=e:=aJ (by cases ds<;>rfl)
@[simp] theorem aek{e:Env}:yW [] e=[]:=aJ rfl
@[simp] theorem abA{t:Nat}{l:List Nat}{e:Env}:yW (t::l) e=(t,(get e t).strip)::yW l e:=aJ rfl
variable {T:Ad}
def T1(vs:List Nat)(v:Nat)(d:D)(e:Env)(J:SK):Env×SK :=
 match d with
 |.sl l i u off m w=>uQ vs ((v,(cG 0 deep (.sl l i u off m w) J).1)::e) (cG 0 deep (.sl l i u off m w) J).2
 |.own s cs=>uQ vs ((v,.own s (cG.frzL (cG 0 deep) cs J).1)::e) (cG.frzL (cG 0 deep) cs J).2
 |.agg cs=>uQ vs ((v,.agg (cs.map D.pY))::e) J
 |.undef=>if 1000000<=v then uQ vs (KQ (v-1000000) e J).1 (KQ (v-1000000) e J).2 else uQ vs e J
 |_=>uQ vs e J
@[simp] theorem af3{e:Env}{J:SK}:uQ [] e J=(e,J):=aJ rfl
@[simp] theorem aeC{v:Nat}{vs:List Nat}{e:Env}{J:SK}:uQ (v::vs) e J=T1 vs v (get e v) e J:=by
 simp only[uQ,T1];cases get e v<;>rfl
@[simp] theorem ah5{v:Nat}{vs:List Nat}{e:Env}{J:SK}{l i u off m w:Nat}:T1 vs v (.sl l i u off m w) e J =
  uQ vs ((v,(cG 0 deep (.sl l i u off m w) J).1)::e) (cG 0 deep (.sl l i u off m w) J).2:=aJ rfl
@[simp] theorem afZ{v:Nat}{vs:List Nat}{e:Env}{J:SK}{s:Nat}{cs:List D}:T1 vs v (.own s cs) e J =
  uQ vs ((v,.own s (cG.frzL (cG 0 deep) cs J).1)::e) (cG.frzL (cG 0 deep) cs J).2:=aJ rfl
@[simp] theorem afY{v:Nat}{vs:List Nat}{e:Env}{J:SK}{cs:List D}:T1 vs v (.agg cs) e J=uQ vs ((v,.agg (cs.map D.pY))::e) J:=aJ rfl
@[simp] theorem afG{k:IntKind}{n:Int}:D.pY (.int k n)=.int k n:=aJ rfl
@[simp] theorem V2{n:Nat}{cs:List D}:D.pY (.bY n cs)=.bY n cs:=aJ rfl
@[simp] theorem aes:D.pY .aW=.bY 0 []:=aJ rfl
def QB(v:Nat)(d:D)(e:Env)(J:SK):Env×SK :=
 match d with
 |.aW=>((v,.bY 0 [])::e,J)
 |.ref l i u 0=>((v,(Gm l i u J).1)::e,(Gm l i u J).2)
 |.own s cs=>((v,.own s (cs.map D.pY))::e,J)
 |.undef=>if 1000000<=v then(ZZ (v-1000000) e,J)else(e,J)
 |_=>(e,J)
def ala(v:Nat)(d:D)(e:Env):Env :=
 match d with
 |.own _ cs=>if e.all (λp=>match p.2 with | .vr x _ _=>x != v | _=>true)then(v,.bf cs)::e else e
 |_=>e
@[simp] theorem ah6{v:Nat}{e:Env}{J:SK}:KQ v e J=QB v (get e v) e J:=rfl
@[simp] theorem aeB{v:Nat}{e:Env}{J:SK}:QB v .aW e J=((v,.bY 0 [])::e,J):=aJ rfl
@[simp] theorem af0{v n:Nat}{cs:List D}{e:Env}{J:SK}:QB v (.bY n cs) e J=(e,J):=aJ rfl
@[simp] theorem af2{v l i u:Nat}{e:Env}{J:SK}:QB v (.ref l i u 0) e J=((v,(Gm l i u J).1)::e,(Gm l i u J).2):=aJ rfl
@[simp] theorem af1{v s:Nat}{cs:List D}{e:Env}{J:SK}:QB v (.own s cs) e J=((v,.own s (cs.map D.pY))::e,J):=aJ rfl
@[simp] theorem afH{s:List UInt8}:D.pY (.str s)=.str s:=aJ rfl
@[simp] theorem get_none{t:Nat}:get [] t=.undef:=aJ rfl
@[simp] theorem acW{v:Nat}{vs:List Nat}{e:Env}{J:SK}:T1 vs v .undef e J=if 1000000<=v then uQ vs (KQ (v-1000000) e J).1 (KQ (v-1000000) e J).2 else uQ vs e J:=aJ rfl
def ak1(l n m off w:Nat)(J:SK)(s:D):Option (List D)->D×SK
 |some cs=>(.bY m (cG.frzL (cG l n) ((cs.drop off).take (m*w)) J).1,(cG.frzL (cG l n) ((cs.drop off).take (m*w)) J).2)
 |none=>(.undef,J)
theorem Wq{L i u off m w:Nat}{J:SK}{cs:List D}(hL:0<L)(hc:cells? J L i u=some cs):
  cG 0 16 (.sl L i u off m w) J=(.bY m (cG.frzL (cG 0 15) ((cs.drop off).take (m*w)) (bh J L i .dead)).1,(cG.frzL (cG 0 15) ((cs.drop off).take (m*w)) (bh J L i .dead)).2):=by
 exact Fs (by omega) hc (by omega)
theorem Zt{J:SK}(hJ:J≠[]){bs:List aD}{i u m w:Nat}{cs:List D}(hb:bs[i]?=some (.cells u cs))(hcl:D.bd cs=true)(hlen:cs.length=m*w):
  cG 0 16 (.sl J.length i u 0 m w) (bs::J)=(.bY m cs,bs.set i .dead::J):=by
 have h:=aG.2 hJ;rw[Wq h (cs:=cs) (by simp[hb])];simp[<- hlen,hcl,ai]
theorem MT{α:Type}{f:α->List D}{w:Nat}(hw:∀x,(f x).length=w)(l:List α):(fM l f).take (l.length*w)=fM l f :=
 ai (by rw[ch hw];exact aL _)
theorem fN{α:Type}{f:α->List D}(h:∀x,D.bd (f x)=true)(l:List α):D.bd (fM l f)=true:=by
 have app:∀a b:List D,D.bd (a++b)=(D.bd a && D.bd b):=by
  intro a b;induction a with
  |nil=>simp
  |cons x a ih=>simp[ih,Bool.and_assoc]
 induction l with
 |nil=>simp
 |cons a l ih=>simp[app,h,ih]
theorem nB{α:Type}{f:α->List D}{w:Nat}(hw:∀x,(f x).length=w)(hc:∀x,D.bd (f x)=true){l:List α}{j v:Nat}{bs:List aD}{J:SK}(hJ:J≠[])(hj:bs[j]?=some (.cells v (fM l f))):
  cG (J.length-1) 16 (.sl J.length j v 0 l.length w) (bs::J)=(.bY l.length (fM l f),bs.set j .dead::J):=by
 have h3:¬J.length<=J.length-1:=by have:=aG.2 hJ;omega
 rw[Fs h3 (cs:=fM l f) (by simp[hj]) (by omega)];simp[MT hw l,fN hc l]
theorem pV{α:Type}{f:α->List D}{w:Nat}(hw:∀x,(f x).length=w)(hc:∀x,D.bd (f x)=true){l:List α}{j v:Nat}{bs:List aD}{J:SK}(hJ:J≠[])(hj:bs[j]?=some (.cells v (fM l f))):
  cG 0 16 (.sl J.length j v 0 l.length w) (bs::J)=(.bY l.length (fM l f),bs.set j .dead::J) :=
 Zt hJ hj (fN hc l) (ch hw l)
theorem LH{α:Type}{f:α->List D}{w:Nat}(hw:∀x,(f x).length=w):∀{l:List α} {i:Nat} {x:α},i<l.length->(fM l f).take (i*w)++(f x++(fM l f).drop (i*w+w))=fM (l.set i x) f
 |[],i,x,h=>by simp at h
 |a::l,0,x,h=>by
  have h1:=hw a;simp only[Nat.zero_mul,List.take_zero,aY,eg,List.set_cons_zero,ck];rw[<- h1,List.drop_left]
 |a::l,i+1,x,h=>by
  have h1:=hw a;have ih:=LH (l:=l) (i:=i) (x:=x) hw (by simpa using h);simp only[eg,List.set_cons_succ];rw[<- ih,show(i+1)*w=w+i*w by rw[eC];omega,<- h1,List.take_length_add_append,dS,show(f a).length+i*(f a).length+(f a).length=(f a).length+(i*(f a).length+(f a).length)by omega,cT]
theorem pA{α:Type}{f:α->List D}{w:Nat}(hw:∀x,(f x).length=w):∀{l:List α} {i:Nat} {x:α},l[i]?=some x->(fM l f).drop (i*w)=f x++(fM l f).drop (i*w+w)
 |[],i,x,h=>by simp at h
 |a::l,0,x,h=>by
  simp at h;subst h;have h1:=hw a;simp only[Nat.zero_mul,aE,eg,ck];rw[<- h1,List.drop_left]
 |a::l,i+1,x,h=>by
  have h1:=hw a;have ih:=pA (l:=l) (i:=i) (x:=x) hw (by simpa using h);simp only[eg];rw[show(i+1)*w=w+i*w by rw[eC];omega,<- h1,cT,show(f a).length+i*(f a).length+(f a).length=(f a).length+(i*(f a).length+(f a).length)by omega,cT,h1,ih]
@[simp] theorem afX{l:Nat}{J:SK}:oV l [] J=([],J):=aJ rfl
@[simp] theorem aeA{l t:Nat}{d:D}{e:Env}{J:SK}:oV l ((t,d)::e) J=((t,(cG l deep d J).1)::(oV l e (cG l deep d J).2).1,(oV l e (cG l deep d J).2).2):=aJ rfl
def SE(T:Ad)(live:List Nat)(c:cb)(n:Nat)(Q:Exit->Env->SK->Prop)(_m:Mark c:=.mk)(_m':Mark Q:=.mk):Exit->Env->SK->Prop
 |.normal,e,J=>WL T live true c (oV n (restrict live e) J).1 (oV n (restrict live e) J).2.tail Q
 |.exit i,e,J=>Q (.exit i) (oV n (restrict (keys e) e) J).1 (oV n (restrict (keys e) e) J).2.tail
 |.ret,e,J=>Q .ret (oV n (restrict (keys e) e) J).1 (oV n (restrict (keys e) e) J).2.tail
 |.ft d,e,J=>Q (.ft d) (oV n (restrict (keys e) e) J).1 (oV n (restrict (keys e) e) J).2.tail
@[simp,simp ↓] theorem ZX{live:List Nat}{c:cb}{n:Nat}{Q:Exit->Env->SK->Prop}{e:Env}{J:SK}:SE T live c n Q .mk .mk .normal e J=WL T live true c (oV n (restrict live e) J).1 (oV n (restrict live e) J).2.tail Q:=aJ rfl
@[simp,simp ↓] theorem adf{live:List Nat}{c:cb}{n i:Nat}{Q:Exit->Env->SK->Prop}{e:Env}{J:SK}:SE T live c n Q .mk .mk (.exit i) e J=Q (.exit i) (oV n (restrict (keys e) e) J).1 (oV n (restrict (keys e) e) J).2.tail:=aJ rfl
@[simp,simp ↓] theorem aeR{live:List Nat}{c:cb}{n:Nat}{Q:Exit->Env->SK->Prop}{e:Env}{J:SK}:SE T live c n Q .mk .mk .ret e J=Q .ret (oV n (restrict (keys e) e) J).1 (oV n (restrict (keys e) e) J).2.tail:=aJ rfl
theorem FP{live:List Nat}{c c':cb}{e:Env}{J:SK}{Q:Exit->Env->SK->Prop}(hc:c=c')(h:WC (dj T) c' (restrict live e) ([]::J) (SE T live c (J.length-1) Q .mk .mk)):WL T live true c e J Q:=by
 rw[<- hc]at h;obtain⟨x,e1,J1,h1,h2⟩:=h;cases x with
 |normal =>
  obtain⟨x,e',J',h3,h4⟩:=h2;exact⟨x,e',J',gn (by simp[du,h1,AI,h3]),h4⟩
 |exit i=>exact⟨_,_,_,gn (by simp[du,h1,AI]),h2⟩
 |ret=>exact⟨_,_,_,gn (by simp[du,h1,AI]),h2⟩
 |ft d=>exact⟨_,_,_,gn (by simp[du,h1,AI]),h2⟩
def akY(n:Nat)(Q:Exit->Env->SK->Prop)(_m:Mark Q:=.mk):Exit->Env->SK->Prop:=λx e J=>Q x (oV n (restrict (keys e) e) J).1 (oV n (restrict (keys e) e) J).2.tail
@[simp] theorem keys_nil:keys []=[]:=aJ rfl
@[simp] theorem keys_cons{t:Nat}{d:D}{e:Env}:keys ((t,d)::e)=t::keys (e.filter λp => !(p.1 == t)):=by
 simp only[keys,aN,List.eraseDups_cons,List.filter_map];rfl
end Go.Abs
namespace Go.Abs
def qo(d:Nat)(k:K):Op:=⟨some d,none,false,k⟩
def qO(d:Nat)(k:K):Op:=⟨some d,none,true,k⟩
def qm(d x:Nat):Op:=⟨some d,none,false,.mv (.t x)⟩
def qM(d x:Nat):Op:=⟨some d,none,true,.mv (.t x)⟩
def qi(d:Nat)(n:Int):Op:=⟨some d,none,false,.mv (.c (.int .i64 n))⟩
def qb(d:Nat)(b:Bool):Op:=⟨some d,none,false,.mv (.c (.bool b))⟩
def qf(d o x:Nat):Op:=⟨some d,none,false,.KO o (.t x)⟩
def qF(d o x:Nat):Op:=⟨some d,none,true,.KO o (.t x)⟩
def ql(d n x:Nat):Op:=⟨some d,none,false,.ld false n (.t x)⟩
def qL(d n x:Nat):Op:=⟨some d,none,true,.ld false n (.t x)⟩
def qa(d n x:Nat):Op:=⟨some d,none,false,.ld true n (.t x)⟩
def qA(d n x:Nat):Op:=⟨some d,none,true,.ld true n (.t x)⟩
def qv(d v n a:Nat):Op:=⟨some d,none,false,.UL v false n a⟩
def qV(d v n a:Nat):Op:=⟨some d,none,true,.UL v false n a⟩
def qw(d v n a:Nat):Op:=⟨some d,none,false,.UL v true n a⟩
def qW(d v n a:Nat):Op:=⟨some d,none,true,.UL v true n a⟩
def qx(d x:Nat):Op:=⟨some d,none,false,.KL (.t x)⟩
def qe(d x:Nat):Op:=⟨some d,none,false,.KU (.t x)⟩
def qE(d x:Nat):Op:=⟨some d,none,true,.KU (.t x)⟩
def qj(d w x i:Nat):Op:=⟨some d,none,false,.Hk w (.t x) (.t i)⟩
def qJ(d w x i:Nat):Op:=⟨some d,none,true,.Hk w (.t x) (.t i)⟩
def qk(d:Nat)(o:BinOp)(x y:Nat):Op:=⟨some d,none,false,.bin o (.t x) (.t y)⟩
def qK(d:Nat)(o:BinOp)(x y:Nat):Op:=⟨some d,none,true,.bin o (.t x) (.t y)⟩
def qn(d:Nat)(o:BinOp)(x:Nat)(n:Int):Op:=⟨some d,none,false,.bin o (.t x) (.c (.int .i64 n))⟩
def qN(d:Nat)(o:BinOp)(x:Nat)(n:Int):Op:=⟨some d,none,true,.bin o (.t x) (.c (.int .i64 n))⟩
def qu(d x:Nat):Op:=⟨some d,none,false,.un .not (.t x)⟩
def qp(d c x:Nat):Op:=⟨some d,none,false,.pick (.t c) (.t x) (.c (.bool false))⟩
def qP(d c x:Nat):Op:=⟨some d,none,false,.pick (.t c) (.c (.bool true)) (.t x)⟩
def qs(v n a x:Nat):Op:=⟨none,none,false,.HF v [] n a (.t x)⟩
def qS(v n a x:Nat):Op:=⟨none,none,true,.HF v [] n a (.t x)⟩
def qt(n a x:Nat):Op:=⟨none,none,false,.st [] n (.t a) (.t x)⟩
def qz(d x i:Nat):Op:=⟨some d,none,false,.ext (.t x) i⟩
def qZ(d x i:Nat):Op:=⟨some d,none,true,.ext (.t x) i⟩
def qc(d f:Nat)(a:List Nat):Op:=⟨some d,none,false,.call false (.c (.fn f [] [])) (a.map .t)⟩
def qC(d f:Nat)(a:List Nat):Op:=⟨some d,none,true,.call false (.c (.fn f [] [])) (a.map .t)⟩
def qy(d w b s x:Nat):Op:=⟨some d,none,false,.app w b (.t s) (.t x)⟩
def qg(t:Nat)(b:Bool)(o:Op):Op:=⟨o.dst,some (t,b),o.CP,o.k⟩
structure ow where
 f:Nat
 a:List D
 s:SK
 d:D
 t:SK
def ow.Ok(T:Ad)(m:ow):Prop:=dj T (.call false m.f m.a m.s)=some (.val m.d m.t)
def ow.ask(m:ow):Q->Option R
 |.call false f a J=>if f=m.f then if a=m.a then if J=m.s then some (.val m.d m.t)else none else none else none
 |_=>none
theorem ow.Ok.ask{T:Ad}{m:ow}(h:m.Ok T){q:Q}{r:R}(hq:m.ask q=some r):dj T q=some r:=by
 unfold ow.ask at hq;split at hq
 case h_2=>cases hq
 split at hq
 case isFalse=>cases hq
 rename_i h1;split at hq
 case isFalse=>cases hq
 rename_i h2;split at hq
 case isFalse=>cases hq
 rename_i h3;cases hq;rw[h1,h2,h3];exact h
def acx(M:List ow)(q:Q):Option R:=M.findSome? λm=>m.ask q
def itM(T:Ad)(M:List ow):Nat->bZ
 |0=>acx M
 |n+1=>λq=>match acx M q with
  |some r=>some r
  |none=>du T (itM T M n) q
theorem Sa{T:Ad}{M:List ow}(hM:∀m∈M,m.Ok T){q:Q}{r:R}(h:acx M q=some r):dj T q=some r:=by
 obtain⟨m,h1,h2⟩:=List.exists_of_findSome?_eq_some h;exact(hM m h1).ask h2
theorem Sq{T:Ad}{M:List ow}(hM:∀m∈M,m.Ok T):∀{n:Nat} {q:Q} {r:R},itM T M n q=some r->dj T q=some r
 |0,q,r,h=>Sa hM h
 |n+1,q,r,h=>by
  unfold itM at h;split at h
  .rename_i h1;cases h;exact Sa hM h1
  .exact gn (Kz (λq r=>Sq hM) h)
end Go.Abs
