import Derived.Test.YtpapbbojmclkgaaGreatDoorBase19
import Derived.IntWalk
set_option linter.all false
namespace Go.aw
open Go
theorem WL.to{T:CL}{live:List Nat}{bC:Bool}{c:cb}{e e':Env}{J J':SK}{Q Q':Exit->Env->SK->Prop}(h:WL T live bC c e J Q)(he:e'=e)(hs:J'=J)
  (hq:∀x e J,Q x e J->Q' x e J):WL T live bC c e' J' Q':=by subst he hs;exact h.mono hq
theorem WL.tg{T:CL}{live:List Nat}{bC:Bool}{c:cb}{e e':Env}{J J':SK}{Q Q':Exit->Env->SK->Prop}(h:WL T live bC c e J Q)(hq:∀x e J,Q x e J->Q' x e J)(hs:J'=J:=by rfl)(he:e'=e:=by simp):WL T live bC c e' J' Q':=h.to he hs hq
theorem WL.ts{T:CL}{live:List Nat}{bC:Bool}{c:cb}{e e':Env}{J J':SK}{Q Q':Exit->Env->SK->Prop}(h:WL T live bC c e J Q)(hq:∀x e J,Q x e J->Q' x e J)(hs:J'=J:=by simp)(he:e'=e:=by simp):WL T live bC c e' J' Q':=h.to he hs hq
theorem nL{α:Type}{f:α->List D}{w:Nat}(hw:∀x,(f x).length=w)(l:List α):(fM l f).length=l.length*w:=by
 induction l with
 |nil=>simp
 |cons a l ih=>simp[hw,ih,eM];omega
theorem HH{α:Type}{f:α->List D}{w:Nat}(hw:∀x,(f x).length=w):∀{l:List α} {i:Nat} {x:α},l[i]?=some x->((fM l f).drop (i*w)).take w=f x
 |[],i,x,h=>by simp at h
 |a::l,0,x,h=>by
  simp at h;subst h;simp[<- hw a]
 |a::l,i+1,x,h=>by
  have e:(i+1)*w=(f a).length+i*w:=by rw[hw,eM];omega
  rw[cT,e,List.drop_append];simp only[Nat.add_sub_cancel_left,bH (Nat.le_add_right _ _),aV];exact HH hw (by simpa using h)
theorem bx{α:Type}{f:α->List D}{w:Nat}{l:List α}{i:Nat}{x:α}(h:l[i]?=some x)(hw:∀x,(f x).length=w:=by exact λ_=>rfl):((fM l f).drop (i*w)).take w=f x:=HH hw h
theorem dF{α:Type}{f:α->List D}{w:Nat}(l:List α)(hw:∀x,(f x).length=w:=by exact λ_=>rfl):(fM l f).length=l.length*w:=nL hw l
theorem bj{α:Type}{l:List α}{i:Nat}{x:α}(h:l[i]?=some x):l.drop i=x::l.drop (i+1):=by
 have h1:i<l.length:=(aA.1 h).1;rw[List.drop_eq_getElem_cons h1];rw[aE h1]at h;simp at h;rw[h]
theorem Cw{α:Type}{f:α->List D}{l:List α}{i:Nat}{x:α}(h:l[i]?=some x):fM (l.take i) f++f x=fM (l.take (i+1)) f:=by
 rw[List.take_add_one,h];simp
theorem QB{α:Type}{f:α->D}(l:List α):fM l (λx=>[f x])=l.map f:=by
 induction l with
 |nil=>rfl
 |cons a l ih=>simp[ih]
theorem bV{n:Int}(h : -9223372036854775808<=n/\n<=9223372036854775807:=by omega):IntKind.i64.wrap n=n:=IntWalk.i64_in n h
@[simp] theorem aml:IntKind.i64.wrap 0=0:=by decide
@[simp] theorem amm:IntKind.i64.wrap 1=1:=by decide
@[simp] theorem amn:IntKind.i64.wrap 2=2:=by decide
@[simp] theorem amo:IntKind.i64.wrap 3=3:=by decide
@[simp] theorem amp:IntKind.i64.wrap 4=4:=by decide
theorem TG{n:Int}(h:0<=n/\n<=255):IntKind.u8.wrap n=n:=IntWalk.u8_in n h
theorem cj{i n:Nat}(h:i<n)(hn:n<=9223372036854775807:=by omega):IntKind.i64.wrap ((i:Int)+1)=((i+1:Nat):Int):=by
 rw[bV (by omega)];rfl
theorem cZ{α:Type}{l:List α}{i:Nat}(h:l.length<=i:=by omega):l.take i=l:=aW h
theorem ec{α:Type}{l:List α}{i:Nat}(h:l.length<=i:=by omega):l.drop i=[]:=bH h
variable {T:CL}
def idxOf{α:Type}(p:α->Bool):List α->Int
 |[] => -1
 |x::l=>if p x then 0 else if idxOf p l<0 then -1 else idxOf p l+1
theorem IP{α:Type}{p:α->Bool}:∀{l:List α},idxOf p l<0↔l.any p=false
 |[]=>by simp[idxOf]
 |x::l=>by
  have ih:=IP (p:=p) (l:=l);simp only[idxOf,List.any_cons];cases h:p x
  .simp only[aC,if_false,Bool.false_or];by_cases h1:idxOf p l<0
   .rw[if_pos h1,ih.1 h1];decide
   .rw[if_neg h1];have h2:¬l.any p=false:=λh=>h1 (ih.2 h)
    exact⟨λh3=>absurd h3 (by omega),λh3=>absurd h3 h2⟩
  .simp
def dz{α:Type}(l:List α)(p:α->Bool):Bool:=l.all p
def lN{α:Type}(l:List α)(p:α->Bool):Bool:=l.any p
theorem ff{α:Type}{l:List α}{p:α->Bool}:dz l p=true↔∀x∈l,p x=true:=by simp[dz]
theorem Qi{α:Type}{l:List α}{p:α->Bool}:lN l p=true↔∃x∈l,p x=true:=by simp[lN]
def om(T:CL){α:Type}(fv:D)(val:α->D)(p:α->Bool)(l:List α):Prop :=
 fv.strip=fv/\fv.calm=fv/\∀x∈l,∀J,nG (di T) false fv [val x] J=some (.bool (p x),J)
theorem om.fn{α:Type}{f:Nat}{first cap:List D}{val:α->D}{p:α->Bool}{l:List α}
  (h:∀x∈l,∀J,di T (.call false f (first++[val x]++cap) J)=some (.val (.bool (p x)) J)):om T (.fn f first cap) val p l :=
 ⟨rfl,rfl,λx hx J=>by rw[oI,h x hx J];rfl⟩
structure Elt(α:Type) where
 ag:Bool
 w:Nat
 enc:α->List D
 val:α->D
 len:∀x,(enc x).length=w
 load:∀x,RW ag w (some (enc x))=some (val x)
 strip:∀x,(val x).strip=val x
 calm:∀x,(val x).calm=val x
 cells:∀x,(val x).cells=some (enc x)
def Ov(k:IntKind):Elt Int:=⟨false,1,λn=>[.int k n],λn => .int k n,λ_=>rfl,λ_=>by simp,λ_=>rfl,λ_=>rfl,λ_=>rfl⟩
def akj:Elt Bool:=⟨false,1,λn=>[.bool n],λn => .bool n,λ_=>rfl,λ_=>by simp,λ_=>rfl,λ_=>rfl,λ_=>rfl⟩
def yR{α:Type}(w:Nat)(enc:α->List D)(h:∀x,(enc x).length=w):Elt α :=
 ⟨true,w,enc,λx => .agg (enc x),h,λx=>by simp[h,aW],λ_=>rfl,λ_=>rfl,λ_=>rfl⟩
section index
variable (ag:Bool) (w:Nat)
def Lz:cb :=
 (.seq (.rM [0,1,7,8,9] [⟨some 9,none,false,.bin .lss (.t 8) (.t 7)⟩]) (.seq (.ite (.t 9) .Ko (.exit 0)) (.seq (.dR 1 (.seq (.rM [0,1,5,7,8] [
 ⟨some 10,none,false,.mv (.t 8)⟩,
 ⟨some 5,none,false,.mv (.t 10)⟩]) (.seq (.rM [0,1,5,7,8,16] [
 ⟨some 11,none,false,.mv (.t 1)⟩,
 ⟨some 12,none,false,.mv (.t 0)⟩,
 ⟨some 13,none,false,.mv (.t 5)⟩,
 ⟨some 14,none,false,.IQ w (.t 12) (.t 13)⟩,
 ⟨some 15,none,false,.ld ag w (.t 14)⟩,
 ⟨some 16,none,false,.call false (.t 11) [(.t 15)]⟩]) (.ite (.t 16) (.seq (.rM [4] [
 ⟨some 17,none,false,.mv (.t 5)⟩,
 ⟨some 4,none,false,.mv (.t 17)⟩]) .ret) .Ko)))) (.rM [0,1,7,8] [
 ⟨some 18,none,false,.bin .add (.t 8) (.c (.int .i64 1))⟩,
 ⟨some 8,none,false,.mv (.t 18)⟩]))))
def uO:Fn:=⟨2,[.t 4],
 (.seq (.rM [0,1] [⟨some 4,none,false,.mv (.c (.int .i64 0))⟩]) (.seq (.seq (.rM [0,1,7,8] [
 ⟨some 6,none,false,.mv (.t 0)⟩,
 ⟨some 7,none,false,.MB (.t 6)⟩,
 ⟨some 8,none,false,.mv (.c (.int .i64 0))⟩]) (.dR 0 (.loop [0,1,7,8] false (Lz ag w)))) (.seq (.rM [4] [
 ⟨some 4,none,false,.mv (.c (.int .i64 (-1)))⟩]) .ret)))⟩
def iL(i:Nat):Fn:=⟨2,[.t 4],
 (.seq (.rM [0,1] [⟨some 4,none,false,.mv (.c (.bool false))⟩]) (.seq (.rM [4] [
 ⟨some 5,none,false,.mv (.t 0)⟩,
 ⟨some 6,none,false,.mv (.t 1)⟩,
 ⟨some 7,none,false,.call false (.c (.fn i [] [])) [(.t 5),(.t 6)]⟩,
 ⟨some 8,none,false,.bin .geq (.t 7) (.c (.int .i64 0))⟩,
 ⟨some 4,none,false,.mv (.t 8)⟩]) .ret))⟩
def G7(g h:Nat):Fn:=⟨2,[.t 4],
 (.seq (.rM [0,3] [
 ⟨some 3,none,false,.Mq (.t 1)⟩,
 ⟨some 4,none,false,.mv (.c (.bool false))⟩]) (.seq (.rM [4] [
 ⟨some 5,none,false,.mv (.t 0)⟩,
 ⟨some 6,none,false,.Zp g [] [(.t 3)]⟩,
 ⟨some 7,none,false,.call false (.c (.fn h [] [])) [(.t 5),(.t 6)]⟩,
 ⟨some 8,none,false,.un .not (.t 7)⟩,
 ⟨some 4,none,false,.mv (.t 8)⟩]) .ret))⟩
def Bq:Bool->Nat->Fn
 |true,w=>⟨2,[.t 3],
 (.seq (.rM [1,2] [
 ⟨some 2,none,false,.Mq (.t 0)⟩,
 ⟨some 3,none,false,.mv (.c (.bool false))⟩]) (.seq (.rM [3] [
 ⟨some 4,none,false,.ld false 1 (.t 1)⟩,
 ⟨some 5,none,false,.ld true w (.t 2)⟩,
 ⟨some 6,none,false,.call false (.t 4) [(.t 5)]⟩,
 ⟨some 7,none,false,.un .not (.t 6)⟩,
 ⟨some 3,none,false,.mv (.t 7)⟩]) .ret))⟩
 |false,_=>⟨2,[.t 3],
 (.seq (.rM [0,1] [
 ⟨some 3,none,false,.mv (.c (.bool false))⟩]) (.seq (.rM [3] [
 ⟨some 4,none,false,.ld false 1 (.t 1)⟩,
 ⟨some 5,none,false,.mv (.t 0)⟩,
 ⟨some 6,none,false,.call false (.t 4) [(.t 5)]⟩,
 ⟨some 7,none,false,.un .not (.t 6)⟩,
 ⟨some 3,none,false,.mv (.t 7)⟩]) .ret))⟩
end index
section
variable {α:Type} (E:Elt α) {p:α->Bool} {fv:D} {l:List α}
theorem QW(hl:l.length<=9223372036854775807)(ht:om T fv E.val p l){J:SK}:∀(m i:Nat),i+m=l.length ->
  WL T [0,1,7,8] false (Lz E.ag E.w) [(0,.bZ l.length (fM l E.enc)),(1,fv),(7,.int .i64 l.length),(8,.int .i64 i)] J
   (λx e J'=>J'=J/\if idxOf p (l.drop i)<0 then x=.exit 0 else x=.ret/\get e 4=.int .i64 (i+idxOf p (l.drop i)))
 |0,i,hi=>by
  obtain⟨h1,h2,h3⟩:=ht;refine Am (Lz.eq_1 _ _) ?_;have:¬i<l.length:=by omega
  have h5:l.drop i=[]:=by simp;omega
  simp[this,h1,h2,h5,idxOf]
 |m+1,i,hi=>by
  have ih:=QW hl ht (J:=J) m (i+1) (by omega);obtain⟨h1,h2,h3⟩:=ht;refine Am (Lz.eq_1 _ _) ?_;have h4:i<l.length:=by omega
  obtain⟨x,hx⟩:=gE h4;have h5:=HH (f:=E.enc) E.len hx;have h6:=h3 x (ah hx) J;have h7:=cj h4 hl;have h8:l.drop i=x::l.drop (i+1):=by
   rw[List.drop_eq_getElem_cons h4];rw[aE h4]at hx;simp at hx;rw[hx]
  cases hp:p x
  .rw[hp]at h6;simp[h4,h1,h2,h5,h6,h7,E.load,E.strip,E.calm];refine WL.mono (by simpa using ih) ?_;rintro x e J' ⟨h9,h10⟩;refine⟨h9,?_⟩;rw[h8];simp only[idxOf,hp,aC,if_false];by_cases h11:idxOf p (l.drop (i+1))<0
   .simpa[h11]using h10
   .rw[if_neg h11]at h10;rw[if_neg h11,if_neg (by omega)];refine⟨h10.1,?_⟩;rw[h10.2];congr 1;push_cast;omega
  .rw[hp]at h6;simp[h4,h1,h2,h5,h6,h7,E.load,E.strip,E.calm,h8,idxOf,hp]
theorem Y3{f:Nat}(hT:T f=some (uO E.ag E.w))(hl:l.length<=9223372036854775807)(ht:om T fv E.val p l){J:SK}:
  di T (.call false f [.bZ l.length (fM l E.enc),fv] J)=some (.val (.int .i64 (idxOf p l)) J):=by
 refine mX hT (uO.eq_1 _ _) rfl ?_;have h:=QW E hl ht (J:=[]::J) l.length 0 (by simp);obtain⟨h1,h2,h3⟩:=ht;simp[h1,h2];refine WL.mono (by simpa using h) ?_;rintro x e J' ⟨rfl,h10⟩
 try simp only[az]at h10
 by_cases h11:idxOf p l<0
 .rw[if_pos h11]at h10;subst h10;have:idxOf p l = -1:=by
   cases l with
   |nil=>rfl
   |cons a l =>
    simp only[idxOf]at h11 ⊢;split at h11<;>rename_i ha
    .omega
    .rw[if_neg ha];split at h11<;>rename_i hb
     .rw[if_pos hb]
     .omega
  simp[this]
 .rw[if_neg h11]at h10;obtain⟨rfl,h12⟩:=h10
  try simp at h12
  simp[h12]
theorem contains_of{f i:Nat}(hT:T f=some (iL i))(hi:T i=some (uO E.ag E.w))(hl:l.length<=9223372036854775807)(ht:om T fv E.val p l){J:SK}:
  di T (.call false f [.bZ l.length (fM l E.enc),fv] J)=some (.val (.bool (lN l p)) J):=by
 refine mX hT (iL.eq_1 _) rfl ?_;have h:=Y3 E hi hl ht (J:=[]::J);obtain⟨h1,h2,h3⟩:=ht;have h4:decide (0<=idxOf p l)=lN l p:=by
  unfold lN;have h6:=IP (p:=p) (l:=l);cases h5:l.any p
  .have:=h6.2 h5;exact decide_eq_false (by omega)
  .exact decide_eq_true (by
    have:¬idxOf p l<0:=λh=>by rw[h6.1 h]at h5;cases h5
    omega)
 simp[h1,h2,h,h4]
theorem Uo{g:Nat}(hT:T g=some (Bq E.ag E.w))(ht:om T fv E.val p l):om T (.fn g [] [.bq [fv]]) E.val (λx => !p x) l:=by
 refine om.fn λx hx J=>?_
 obtain⟨h1,h2,h3⟩:=ht;have h6:=h3 x hx ([]::J);have hc:=E.cells x;have hl:=E.load x;have hs:=E.strip x;have hcm:=E.calm x;generalize E.ag=ag at *
 cases ag with
 |true =>
  refine mX hT (Bq.eq_1 _) rfl ?_;simp[h1,h2,h6,hc,hl,hs,hcm]
 |false =>
  refine mX hT (Bq.eq_2 _) rfl ?_;simp[h1,h2,h6,hc,hl,hs,hcm]
theorem CW{f g h i:Nat}(hf:T f=some (G7 g h))(hg:T g=some (Bq E.ag E.w))(hh:T h=some (iL i))(hi:T i=some (uO E.ag E.w))
  (hl:l.length<=9223372036854775807) (ht:om T fv E.val p l) (hcl:fv.cells=some [fv]) {J:SK}:
  di T (.call false f [.bZ l.length (fM l E.enc),fv] J)=some (.val (.bool (dz l p)) J):=by
 refine mX hf (G7.eq_1 _ _) rfl ?_;have h:=contains_of E hh hi hl (Uo E hg ht) (J:=[]::J);obtain⟨h1,h2,h3⟩:=ht;have h4:(lN l λx => !p x) = !dz l p:=by
  unfold lN dz;rw[List.all_eq_not_any_not,Bool.not_not]
 simp[h1,h2,h,h4,hcl]
end
variable {T:CL}
theorem eZ{f:Nat}{fn:Fn}{args:List D}{J J':SK}{d:D}{np:Nat}{res:List G2}{body:cb}(hT:T f=some fn)(hf:fn=⟨np,res,body⟩)(hl:args.length=np)(hs:J'.length=J.length)
  (h:WC (di T) body (kU 0 args) ([]::J) (SF J' res d)):
  di T (.call false f args J)=some (.val d J'):=by
 subst hf;obtain⟨x,e1,J1,h1,h2,h2',ds,h3,s,h4⟩:=h;refine gJ ?_;rw[hs,YK]at h4;simp only[dM,hT,if_pos hl,aC,if_false,h1];cases x with
 |exit i=>exact absurd rfl (h2 i)
 |fy d=>exact absurd rfl (h2' d)
 |normal=>simp[h3,h4]
 |ret=>simp[h3,h4]
def okX:Exit->Prop
 |.normal=>True
 |.ret=>True
 |_=>False
@[simp] theorem aky:okX .ret=True:=aJ
theorem mh{f:Nat}{fn:Fn}{args:List D}{J J':SK}{d:D}{np:Nat}{res:List G2}{body:cb}(hT:T f=some fn)(hf:fn=⟨np,res,body⟩)(hl:args.length=np)
  (h:WC (di T) body (kU 0 args) J λx e J1=>okX x/\(CG e J1 res).map ub=some d/\J1=J'):
  di T (.call true f args J)=some (.val d J'):=by
 subst hf;obtain⟨x,e1,J1,h1,h2,h3,rfl⟩:=h;refine gJ ?_;simp only[ad]at h3;obtain⟨ds,h3,rfl⟩:=h3;simp only[dM,hT,if_pos hl,if_true,h1];cases x with
 |exit i=>exact h2.elim
 |fy d=>exact h2.elim
 |normal=>simp[h3]
 |ret=>simp[h3]
inductive Bm (T:CL) (l i:Nat) {α:Type} (f:α->List D):List α->SK->Bool->SK->Prop
 |nil (J:SK):Bm T l i f [] J true J
 |go (a:α) (xs:List α) (J J1 J2:SK) (b:Bool):di T (.round l i (f a) J)=some (.val (.bool true) J1)->Bm T l i f xs J1 b J2->Bm T l i f (a::xs) J b J2
 |stop (a:α) (xs:List α) (J J1:SK):di T (.round l i (f a) J)=some (.val (.bool false) J1)->Bm T l i f (a::xs) J false J1
theorem Bm.split{l i:Nat}{α:Type}{f:α->List D}:∀{xs bs:List α} {J J':SK} {b:Bool},Bm T l i f (xs++bs) J b J' ->
  (∃J1,Bm T l i f xs J true J1/\Bm T l i f bs J1 b J')\/(b=false/\Bm T l i f xs J false J')
 |[],bs,J,J',b,h => .inl ⟨J,.nil J,h⟩
 |a::xs,bs,J,J',b,h=>by
  cases h with
  |go _ _ _ J1 _ _ h1 h2 =>
   rcases Bm.split h2 with⟨J3,h3,h4⟩ | ⟨rfl,h3⟩
   .exact .inl ⟨J3,.go _ _ _ _ _ _ h1 h3,h4⟩
   .exact .inr ⟨rfl,.go _ _ _ _ _ _ h1 h3⟩
  |stop _ _ _ _ h1=>exact .inr ⟨rfl,.stop _ _ _ _ h1⟩
theorem Kd{live:List Nat}{fo:bU}{params:List Nat}{BY body:cb}{e:Env}{s:List aF}{J J2:SK}{Q:Exit->Env->SK->Prop}{g:Nat}{first cap:List D}{d:D}{lp:xd}
  (hf:bG e fo=.fn g first cap)
  (hc:di T (.call false g (first++[.jg J.length s.length]++cap) ((s++[.loop {state:=0,xC:=none,env:=Ac live e,params,BY,body }])::J))=some (.val d J2))
  (hb:ef J2 J.length s.length=some (.loop lp)) (hs:lp.state≠1)
  (hq:Q (lp.xC.getD .normal) (restrict live e) (bw J2 J.length s.length (.loop {lp with state:=3 }))):
  WC (di T) (.ME live fo params BY body) e (s::J) Q:=by
 refine⟨_,_,_,?_,hq⟩;simp only[bA,fT,hf,Ju,hc,R.dG,hb,if_neg hs]
def GO:Option aF->Option xd
 |some (.loop lp)=>some lp
 |_=>none
@[simp] theorem adE{lp:xd}:GO (some (.loop lp))=some lp:=aJ
theorem A5{o:Option aF}{lp:xd}(h:GO o=some lp):o=some (.loop lp):=by
 cases o with
 |none=>cases h
 |some b=>cases b<;>cases h;rfl
def afk(l i:Nat)(b:Bool)(J':SK)(x:Exit)(J2:SK):Prop :=
 match x with
 |.fy _=>False
 |.normal=>WD (GO (ef J2.tail l i)) λlp2=>bw J2.tail l i (.loop {lp2 with state:=0,xC:=none })=J'/\b=true
 |x=>WD (GO (ef J2.tail l i)) λlp2=>bw J2.tail l i (.loop {lp2 with state:=2,xC:=some x })=J'/\b=false
@[simp] theorem adu{l i:Nat}{b:Bool}{J':SK}{s2:List aF}{J3:SK}:afk l i b J' .normal (s2::J3)=WD (GO (ef J3 l i)) λlp2=>bw J3 l i (.loop {lp2 with state:=0,xC:=none })=J'/\b=true:=aJ
@[simp] theorem agZ{l i j:Nat}{b:Bool}{J':SK}{s2:List aF}{J3:SK}:afk l i b J' (.exit j) (s2::J3)=WD (GO (ef J3 l i)) λlp2=>bw J3 l i (.loop {lp2 with state:=2,xC:=some (.exit j) })=J'/\b=false:=aJ
def Q9(T:CL)(l i:Nat)(b:Bool)(J':SK)(n:Nat)(body:cb)(x:Exit)(e1:Env)(J1:SK)(_m:Mark body:=.mk):Prop :=
 x=.normal/\WD (GO (ef J1 l i)) λlp1=>lp1.state=0/\WC (di T) body e1 (bw J1 l i (.loop {lp1 with state:=1 })) λx _ J2=>J2.length=n/\afk l i b J' x J2
theorem H7{l i:Nat}{args:List D}{J J':SK}{b:Bool}{lp:xd}(hb:ef J l i=some (.loop lp))(hl:args.length=lp.params.length)
  (h:WC (di T) lp.BY (Du lp.params args lp.env) ([]::J) (Q9 T l i b J' (J.length+1) lp.body)):
  di T (.round l i args J)=some (.val (.bool b) J'):=by
 obtain⟨x,e1,J1,h1,rfl,lp1,h2,h3,x2,e2,J2,h4,hlen,h6⟩:=h;have h2:=A5 h2;cases J2 with
 |nil=>simp at hlen
 |cons s2 J3 =>
 refine gJ ?_;simp only[dM,hb,if_pos hl,h1,h2,if_pos h3,h4];cases x2 with
 |normal=>obtain⟨lp2,h5,h6,rfl⟩:=h6;have h5:=A5 h5;dsimp only [List.tail]at h5 h6 ⊢;rw[h5];dsimp only;rw[h6]
 |exit j=>obtain⟨lp2,h5,h6,rfl⟩:=h6;have h5:=A5 h5;dsimp only [List.tail]at h5 h6 ⊢;rw[h5];dsimp only;rw[h6]
 |ret=>obtain⟨lp2,h5,h6,rfl⟩:=h6;have h5:=A5 h5;dsimp only [List.tail]at h5 h6 ⊢;rw[h5];dsimp only;rw[h6]
 |fy d=>exact h6.elim
@[simp] theorem adP{t:Nat}{ts:List Nat}{d:D}{ds:List D}{e:Env}:Du (t::ts) (d::ds) e=Du ts ds ((t,d)::e):=aJ
@[simp] theorem afU{ds:List D}{e:Env}:Du [] ds e=e:=aJ (by cases ds<;>rfl)
@[simp] theorem agN{e:Env}:Ac [] e=[]:=aJ
@[simp] theorem ad8{t:Nat}{l:List Nat}{e:Env}:Ac (t::l) e=(t,(get e t).strip)::Ac l e:=aJ
variable {T:CL}
def V7(vs:List Nat)(v:Nat)(d:D)(e:Env)(J:SK):Env×SK :=
 match d with
 |.sl l i u off m w=>vu vs ((v,(cK 0 deep (.sl l i u off m w) J).1)::e) (cK 0 deep (.sl l i u off m w) J).2
 |.own s cs=>vu vs ((v,.own s (cK.frzL (cK 0 deep) cs J).1)::e) (cK.frzL (cK 0 deep) cs J).2
 |.agg cs=>vu vs ((v,.agg (cs.map D.pO))::e) J
 |.undef=>if 1000000<=v then vu vs (Mw (v-1000000) e J).1 (Mw (v-1000000) e J).2 else vu vs e J
 |_=>vu vs e J
@[simp] theorem aiG{e:Env}{J:SK}:vu [] e J=(e,J):=aJ
@[simp] theorem ag6{v:Nat}{vs:List Nat}{e:Env}{J:SK}:vu (v::vs) e J=V7 vs v (get e v) e J:=by
 simp only[vu,V7];cases get e v<;>rfl
@[simp] theorem akp{v:Nat}{vs:List Nat}{e:Env}{J:SK}{l i u off m w:Nat}:V7 vs v (.sl l i u off m w) e J =
  vu vs ((v,(cK 0 deep (.sl l i u off m w) J).1)::e) (cK 0 deep (.sl l i u off m w) J).2:=aJ
@[simp] theorem aiC{v:Nat}{vs:List Nat}{e:Env}{J:SK}{s:Nat}{cs:List D}:V7 vs v (.own s cs) e J =
  vu vs ((v,.own s (cK.frzL (cK 0 deep) cs J).1)::e) (cK.frzL (cK 0 deep) cs J).2:=aJ
@[simp] theorem aiB{v:Nat}{vs:List Nat}{e:Env}{J:SK}{cs:List D}:V7 vs v (.agg cs) e J=vu vs ((v,.agg (cs.map D.pO))::e) J:=aJ
@[simp] theorem aih{k:IntKind}{n:Int}:D.pO (.int k n)=.int k n:=aJ
@[simp] theorem Yy{n:Nat}{cs:List D}:D.pO (.bZ n cs)=.bZ n cs:=aJ
@[simp] theorem agV:D.pO .bB=.bZ 0 []:=aJ
def QH(v:Nat)(d:D)(e:Env)(J:SK):Env×SK :=
 match d with
 |.bB=>((v,.bZ 0 [])::e,J)
 |.ref l i u 0=>((v,(HI l i u J).1)::e,(HI l i u J).2)
 |.own s cs=>((v,.own s (cs.map D.pO))::e,J)
 |.undef=>if 1000000<=v then(acv (v-1000000) e,J)else(e,J)
 |_=>(e,J)
def amE(v:Nat)(d:D)(e:Env):Env :=
 match d with
 |.own _ cs=>if e.all (λp=>match p.2 with | .vr x _ _=>x != v | _=>true)then(v,.bq cs)::e else e
 |_=>e
@[simp] theorem akq{v:Nat}{e:Env}{J:SK}:Mw v e J=QH v (get e v) e J:=rfl
@[simp] theorem ag5{v:Nat}{e:Env}{J:SK}:QH v .bB e J=((v,.bZ 0 [])::e,J):=aJ
@[simp] theorem aiD{v n:Nat}{cs:List D}{e:Env}{J:SK}:QH v (.bZ n cs) e J=(e,J):=aJ
@[simp] theorem aiF{v l i u:Nat}{e:Env}{J:SK}:QH v (.ref l i u 0) e J=((v,(HI l i u J).1)::e,(HI l i u J).2):=aJ
@[simp] theorem aiE{v s:Nat}{cs:List D}{e:Env}{J:SK}:QH v (.own s cs) e J=((v,.own s (cs.map D.pO))::e,J):=aJ
@[simp] theorem aii{s:List UInt8}:D.pO (.str s)=.str s:=aJ
@[simp] theorem get_none{t:Nat}:get [] t=.undef:=aJ
@[simp] theorem afs{v:Nat}{vs:List Nat}{e:Env}{J:SK}:V7 vs v .undef e J=if 1000000<=v then vu vs (Mw (v-1000000) e J).1 (Mw (v-1000000) e J).2 else vu vs e J:=aJ
def amw(l n m off w:Nat)(J:SK)(s:D):Option (List D)->D×SK
 |some cs=>(.bZ m (cK.frzL (cK l n) ((cs.drop off).take (m*w)) J).1,(cK.frzL (cK l n) ((cs.drop off).take (m*w)) J).2)
 |none=>(.undef,J)
theorem amP{L i u off m w:Nat}{J:SK}{cs:List D}(hL:0<L)(hc:cells? J L i u=some cs):
  cK 0 16 (.sl L i u off m w) J=(.bZ m (cK.frzL (cK 0 15) ((cs.drop off).take (m*w)) (bw J L i .dead)).1,(cK.frzL (cK 0 15) ((cs.drop off).take (m*w)) (bw J L i .dead)).2):=by
 exact GI (by omega) hc (by omega)
theorem abW{J:SK}(hJ:J≠[]){bs:List aF}{i u m w:Nat}{cs:List D}(hb:bs[i]?=some (.cells u cs))(hcl:D.bh cs=true)(hlen:cs.length=m*w):
  cK 0 16 (.sl J.length i u 0 m w) (bs::J)=(.bZ m cs,bs.set i .dead::J):=by
 have h:=aG.2 hJ;rw[amP h (cs:=cs) (by simp[hb])];simp[<- hlen,hcl,aW]
theorem OG{α:Type}{f:α->List D}{w:Nat}(hw:∀x,(f x).length=w)(l:List α):(fM l f).take (l.length*w)=fM l f :=
 aW (by rw[nL hw];exact aO _)
theorem fD{α:Type}{f:α->List D}(h:∀x,D.bh (f x)=true)(l:List α):D.bh (fM l f)=true:=by
 have app:∀a b:List D,D.bh (a++b)=(D.bh a && D.bh b):=by
  intro a b;induction a with
  |nil=>simp
  |cons x a ih=>simp[ih,Bool.and_assoc]
 induction l with
 |nil=>simp
 |cons a l ih=>simp[app,h,ih]
theorem kb{α:Type}{f:α->List D}{w:Nat}(hw:∀x,(f x).length=w)(hc:∀x,D.bh (f x)=true){l:List α}{j v:Nat}{bs:List aF}{J:SK}(hJ:J≠[])(hj:bs[j]?=some (.cells v (fM l f))):
  cK (J.length-1) 16 (.sl J.length j v 0 l.length w) (bs::J)=(.bZ l.length (fM l f),bs.set j .dead::J):=by
 have h3:¬J.length<=J.length-1:=by have:=aG.2 hJ;omega
 rw[GI h3 (cs:=fM l f) (by simp[hj]) (by omega)];simp[OG hw l,fD hc l]
theorem o9{α:Type}{f:α->List D}{w:Nat}(hw:∀x,(f x).length=w)(hc:∀x,D.bh (f x)=true){l:List α}{j v:Nat}{bs:List aF}{J:SK}(hJ:J≠[])(hj:bs[j]?=some (.cells v (fM l f))):
  cK 0 16 (.sl J.length j v 0 l.length w) (bs::J)=(.bZ l.length (fM l f),bs.set j .dead::J) :=
 abW hJ hj (fD hc l) (nL hw l)
theorem Nq{α:Type}{f:α->List D}{w:Nat}(hw:∀x,(f x).length=w):∀{l:List α} {i:Nat} {x:α},i<l.length->(fM l f).take (i*w)++(f x++(fM l f).drop (i*w+w))=fM (l.set i x) f
 |[],i,x,h=>by simp at h
 |a::l,0,x,h=>by
  have h1:=hw a;simp only[Nat.zero_mul,List.take_zero,aV,cT,List.set_cons_zero,cr];rw[<- h1,List.drop_left]
 |a::l,i+1,x,h=>by
  have h1:=hw a;have ih:=Nq (l:=l) (i:=i) (x:=x) hw (by simpa using h);simp only[cT,List.set_cons_succ];rw[<- ih,show(i+1)*w=w+i*w by rw[eM];omega,<- h1,List.take_length_add_append,bX,show(f a).length+i*(f a).length+(f a).length=(f a).length+(i*(f a).length+(f a).length)by omega,dh]
theorem mM{α:Type}{f:α->List D}{w:Nat}(hw:∀x,(f x).length=w):∀{l:List α} {i:Nat} {x:α},l[i]?=some x->(fM l f).drop (i*w)=f x++(fM l f).drop (i*w+w)
 |[],i,x,h=>by simp at h
 |a::l,0,x,h=>by
  simp at h;subst h;have h1:=hw a;simp only[Nat.zero_mul,az,cT,cr];rw[<- h1,List.drop_left]
 |a::l,i+1,x,h=>by
  have h1:=hw a;have ih:=mM (l:=l) (i:=i) (x:=x) hw (by simpa using h);simp only[cT];rw[show(i+1)*w=w+i*w by rw[eM];omega,<- h1,dh,show(f a).length+i*(f a).length+(f a).length=(f a).length+(i*(f a).length+(f a).length)by omega,dh,h1,ih]
@[simp] theorem aiA{l:Nat}{J:SK}:nM l [] J=([],J):=aJ
@[simp] theorem ag4{l t:Nat}{d:D}{e:Env}{J:SK}:nM l ((t,d)::e) J=((t,(cK l deep d J).1)::(nM l e (cK l deep d J).2).1,(nM l e (cK l deep d J).2).2):=aJ
def UQ(T:CL)(live:List Nat)(c:cb)(n:Nat)(Q:Exit->Env->SK->Prop)(_m:Mark c:=.mk)(_m':Mark Q:=.mk):Exit->Env->SK->Prop
 |.normal,e,J=>WL T live true c (nM n (restrict live e) J).1 (nM n (restrict live e) J).2.tail Q
 |.exit i,e,J=>Q (.exit i) (nM n (restrict (keys e) e) J).1 (nM n (restrict (keys e) e) J).2.tail
 |.ret,e,J=>Q .ret (nM n (restrict (keys e) e) J).1 (nM n (restrict (keys e) e) J).2.tail
 |.fy d,e,J=>Q (.fy d) (nM n (restrict (keys e) e) J).1 (nM n (restrict (keys e) e) J).2.tail
@[simp,simp ↓] theorem acs{live:List Nat}{c:cb}{n:Nat}{Q:Exit->Env->SK->Prop}{e:Env}{J:SK}:UQ T live c n Q .mk .mk .normal e J=WL T live true c (nM n (restrict live e) J).1 (nM n (restrict live e) J).2.tail Q:=aJ
@[simp,simp ↓] theorem afI{live:List Nat}{c:cb}{n i:Nat}{Q:Exit->Env->SK->Prop}{e:Env}{J:SK}:UQ T live c n Q .mk .mk (.exit i) e J=Q (.exit i) (nM n (restrict (keys e) e) J).1 (nM n (restrict (keys e) e) J).2.tail:=aJ
@[simp,simp ↓] theorem ahn{live:List Nat}{c:cb}{n:Nat}{Q:Exit->Env->SK->Prop}{e:Env}{J:SK}:UQ T live c n Q .mk .mk .ret e J=Q .ret (nM n (restrict (keys e) e) J).1 (nM n (restrict (keys e) e) J).2.tail:=aJ
theorem G5{live:List Nat}{c c':cb}{e:Env}{J:SK}{Q:Exit->Env->SK->Prop}(hc:c=c')(h:WC (di T) c' (restrict live e) ([]::J) (UQ T live c (J.length-1) Q .mk .mk)):WL T live true c e J Q:=by
 rw[<- hc]at h;obtain⟨x,e1,J1,h1,h2⟩:=h;cases x with
 |normal =>
  obtain⟨x,e',J',h3,h4⟩:=h2;exact⟨x,e',J',gJ (by simp[dM,h1,BW,h3]),h4⟩
 |exit i=>exact⟨_,_,_,gJ (by simp[dM,h1,BW]),h2⟩
 |ret=>exact⟨_,_,_,gJ (by simp[dM,h1,BW]),h2⟩
 |fy d=>exact⟨_,_,_,gJ (by simp[dM,h1,BW]),h2⟩
def ait(n:Nat)(Q:Exit->Env->SK->Prop)(_m:Mark Q:=.mk):Exit->Env->SK->Prop:=λx e J=>Q x (nM n (restrict (keys e) e) J).1 (nM n (restrict (keys e) e) J).2.tail
@[simp,simp ↓] theorem akk{n:Nat}{Q:Exit->Env->SK->Prop}{x:Exit}{e:Env}{J:SK}:ait n Q .mk x e J=Q x (nM n (restrict (keys e) e) J).1 (nM n (restrict (keys e) e) J).2.tail:=aJ
@[simp,simp ↓] theorem akZ{O:cn}{a:cb}{e:Env}{J:SK}{Q:Exit->Env->SK->Prop}:WC O (.sgm a) e J Q=WC O a e ([]::J) (ait (J.length-1) Q):=by
 simp only[WC,bA,ad,Prod.exists,ak,eq_iff_iff];constructor
 .rintro⟨x,e',J',⟨x1,e1,J1,h1,rfl,rfl,rfl⟩,h2⟩;exact⟨x1,e1,J1,h1,h2⟩
 .rintro⟨x,e',J',h1,h2⟩;exact⟨_,_,_,⟨x,e',J',h1,rfl,rfl,rfl⟩,h2⟩
@[simp] theorem keys_nil:keys []=[]:=aJ
@[simp] theorem keys_cons{t:Nat}{d:D}{e:Env}:keys ((t,d)::e)=t::keys (e.filter λp => !(p.1 == t)):=by
 simp only[keys,aL,List.eraseDups_cons,List.filter_map];rfl
end Go.aw
namespace Go.aw
def qo(d:Nat)(k:K):Op:=⟨some d,none,false,k⟩
def qO(d:Nat)(k:K):Op:=⟨some d,none,true,k⟩
def qm(d x:Nat):Op:=⟨some d,none,false,.mv (.t x)⟩
def qM(d x:Nat):Op:=⟨some d,none,true,.mv (.t x)⟩
def qi(d:Nat)(n:Int):Op:=⟨some d,none,false,.mv (.c (.int .i64 n))⟩
def qb(d:Nat)(b:Bool):Op:=⟨some d,none,false,.mv (.c (.bool b))⟩
def qf(d o x:Nat):Op:=⟨some d,none,false,.Mt o (.t x)⟩
def qF(d o x:Nat):Op:=⟨some d,none,true,.Mt o (.t x)⟩
def ql(d n x:Nat):Op:=⟨some d,none,false,.ld false n (.t x)⟩
def qL(d n x:Nat):Op:=⟨some d,none,true,.ld false n (.t x)⟩
def qa(d n x:Nat):Op:=⟨some d,none,false,.ld true n (.t x)⟩
def qA(d n x:Nat):Op:=⟨some d,none,true,.ld true n (.t x)⟩
def qv(d v n a:Nat):Op:=⟨some d,none,false,.WZ v false n a⟩
def qV(d v n a:Nat):Op:=⟨some d,none,true,.WZ v false n a⟩
def qw(d v n a:Nat):Op:=⟨some d,none,false,.WZ v true n a⟩
def qW(d v n a:Nat):Op:=⟨some d,none,true,.WZ v true n a⟩
def qx(d x:Nat):Op:=⟨some d,none,false,.Mq (.t x)⟩
def qe(d x:Nat):Op:=⟨some d,none,false,.MB (.t x)⟩
def qE(d x:Nat):Op:=⟨some d,none,true,.MB (.t x)⟩
def qj(d w x i:Nat):Op:=⟨some d,none,false,.IQ w (.t x) (.t i)⟩
def qJ(d w x i:Nat):Op:=⟨some d,none,true,.IQ w (.t x) (.t i)⟩
def qk(d:Nat)(o:BinOp)(x y:Nat):Op:=⟨some d,none,false,.bin o (.t x) (.t y)⟩
def qK(d:Nat)(o:BinOp)(x y:Nat):Op:=⟨some d,none,true,.bin o (.t x) (.t y)⟩
def qn(d:Nat)(o:BinOp)(x:Nat)(n:Int):Op:=⟨some d,none,false,.bin o (.t x) (.c (.int .i64 n))⟩
def qN(d:Nat)(o:BinOp)(x:Nat)(n:Int):Op:=⟨some d,none,true,.bin o (.t x) (.c (.int .i64 n))⟩
def qu(d x:Nat):Op:=⟨some d,none,false,.un .not (.t x)⟩
def qp(d c x:Nat):Op:=⟨some d,none,false,.pick (.t c) (.t x) (.c (.bool false))⟩
def qP(d c x:Nat):Op:=⟨some d,none,false,.pick (.t c) (.c (.bool true)) (.t x)⟩
def qs(v n a x:Nat):Op:=⟨none,none,false,.Je v [] n a (.t x)⟩
def qS(v n a x:Nat):Op:=⟨none,none,true,.Je v [] n a (.t x)⟩
def qt(n a x:Nat):Op:=⟨none,none,false,.st [] n (.t a) (.t x)⟩
def qz(d x i:Nat):Op:=⟨some d,none,false,.ext (.t x) i⟩
def qZ(d x i:Nat):Op:=⟨some d,none,true,.ext (.t x) i⟩
def qc(d f:Nat)(a:List Nat):Op:=⟨some d,none,false,.call false (.c (.fn f [] [])) (a.map .t)⟩
def qC(d f:Nat)(a:List Nat):Op:=⟨some d,none,true,.call false (.c (.fn f [] [])) (a.map .t)⟩
def qy(d w b s x:Nat):Op:=⟨some d,none,false,.app w b (.t s) (.t x)⟩
def qg(t:Nat)(b:Bool)(o:Op):Op:=⟨o.dst,some (t,b),o.DZ,o.k⟩
