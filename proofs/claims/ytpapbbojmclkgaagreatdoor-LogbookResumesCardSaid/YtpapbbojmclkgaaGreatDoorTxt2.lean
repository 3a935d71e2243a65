import Derived.Test.YtpapbbojmclkgaaGreatDoorTxt1
set_option linter.all false
namespace Go.Proofs.YtpapbbojmclkgaaGreatDoor
section
open Go Go.aw Go.cY
variable {J:SK}
def GQ(l:List (List UInt8)):Prop:=l.length<=100/\∀s∈l,s.length<=4000
theorem Br(l:List UInt8):(fM l bE).length=l.length:=by have:=dF (f:=bE) (w:=1) l;omega
theorem Uu{l:List UInt8}:D.bh (fM l bE)=true:=fD (f:=bE) (λx=>by simp[bE,D.clean]) l
theorem Qk{l:List UInt8}{i:Nat}{b:UInt8}(h:l[i]?=some b):((fM l bE).drop i).take 1=[.int .u8 b.toNat]:=by
 have:=bx (f:=bE) (w:=1) h;rwa[bR]at this
theorem Ec(b:UInt8):b.toNat<256:=b.toNat_lt
theorem adk{s:List UInt8}(hl:s.length<=1000000):∀(m i n:Nat),i+m=s.length->n<65521 ->
  WL T [3,7,8,9] false uY [(3,iI n),(7,lF s bE),(8,iI s.length),(9,iI i)] J
   (λx e J'=>x=.exit 0/\J'=J/\get e 3=iI (oE n (s.drop i)))
 |0,i,n,hi,hn=>by
  refine aK ?_;have h1:¬i<s.length:=by omega
  have h2:s.drop i=[]:=ec;simp[h1,h2,oE]
 |m+1,i,n,hi,hn=>by
  refine aK ?_;have h1:i<s.length:=by omega
  obtain⟨c,hc⟩:=gE h1;have a1:=Qk hc;have h4:=cj h1;have hb:=Ec c;have w0:IntKind.i64.wrap (c.toNat:Int)=c.toNat:=bV;have w1:=bV (n:=31*(n:Int));have w2:=bV (n:=31*(n:Int)+c.toNat);have w3:(31*(n:Int)+c.toNat).tmod 65521=(((31*n+c.toNat)%65521:Nat):Int):=by rw[Int.tmod_eq_emod_of_nonneg (by omega)];omega
  rw[bj hc,oE];simp[h1,a1,h4,w0,w1,w2,w3];exact WL.tg (adk hl m (i+1) ((31*n+c.toNat)%65521) (by omega) (Nat.mod_lt _ (by omega))) λx e J' hh=>by simpa using hh
theorem aeC{s:List UInt8}(hl:s.length<=1000000):Cl 129 [.str s] (iI (D8 s)) J:=by
 refine an ?_;simp[Pv,strCells_eq];refine WL.tg (adk (J:=[]::J) hl s.length 0 1 (by omega) (by omega)) ?_;rintro x e J' ⟨rfl,rfl,g3⟩;simp[g3,D8]
theorem PO{s:List UInt8}(hl:s.length<=4000)(hJ:J≠[]):di T (.call false 86 [.str s] J)=some (.val (.bZ (iG s).length (fM (iG s) bE)) J):=by
 refine an ?_;have hS:=λJ=>aeC (J:=J) (s:=s) (by omega)
 have hb:=Kt (s:=s);obtain⟨h,hh⟩:∃h,h=s.length / 256:=⟨_,rfl⟩;obtain⟨lo,hlo⟩:∃h,h=s.length%256:=⟨_,rfl⟩;obtain⟨ch,hch⟩:∃h,h=D8 s / 256:=⟨_,rfl⟩;obtain⟨cl,hcl⟩:∃h,h=D8 s%256:=⟨_,rfl⟩;have hrec:iG s=[DG h,DG lo,DG (255-h),DG (255-lo)]++s++[DG ch,DG cl]:=by rw[hh,hlo,hch,hcl];rfl
 have e8:(2:Int)^min 8 IntKind.i64.bits=256:=by decide
 have f1:(s.length:Int).fdiv 256=(h:Int):=by rw[Int.fdiv_eq_ediv_of_nonneg _ (by omega)];omega
 have f2:(D8 s:Int).fdiv 256=(ch:Int):=by rw[Int.fdiv_eq_ediv_of_nonneg _ (by omega)];omega
 have w1:IntKind.u8.wrap (h:Int)=h:=TG (by omega);have w2:IntKind.u8.wrap (s.length:Int)=lo:=by
  show(s.length:Int)%256=_
  omega
 have w3:IntKind.u8.wrap (ch:Int)=ch:=TG (by omega);have w4:IntKind.u8.wrap (D8 s:Int)=cl:=by
  show(D8 s:Int)%256=_
  omega
 have y1:(DG h).toNat=h:=vO (by omega);have y2:(DG lo).toNat=lo:=vO (by omega);have y3:(DG (255-h)).toNat=255-h:=vO (by omega);have y4:(DG (255-lo)).toNat=255-lo:=vO (by omega);have y5:(DG ch).toNat=ch:=vO (by omega);have y6:(DG cl).toNat=cl:=vO (by omega);obtain⟨h',hh'⟩:∃x,x=255-h:=⟨_,rfl⟩;obtain⟨lo',hlo'⟩:∃x,x=255-lo:=⟨_,rfl⟩;have x1:=RR (n:=h) (by omega);have x2:=RR (n:=lo) (by omega);rw[<- hh']at x1 y3 hrec;rw[<- hlo']at x2 y4 hrec;have⟨r1,r2⟩:4+s.length<=room/\4+s.length+2<=room:=by unfold room;omega
 have hbl:=Br s;have q1:4+s.length<=s.length+1+1+1+1:=by omega
 have tk:List.take (4+s.length) (D.int .u8 h::.int .u8 lo::.int .u8 h'::.int .u8 lo'::fM s bE)=D.int .u8 h::.int .u8 lo::.int .u8 h'::.int .u8 lo'::fM s bE:=aW (by simp only[aB,Br];omega);have hrl:(iG s).length=4+s.length+2:=by rw[pg];omega
 have hrE:fM (iG s) bE=D.int .u8 h::.int .u8 lo::.int .u8 h'::.int .u8 lo'::(fM s bE++[.int .u8 ch,.int .u8 cl]):=by rw[hrec];simp[bE,y1,y2,y3,y4,y5,y6]
 have hk:=Go.aw.kb (f:=bE) (w:=1) (λ_=>rfl) (λ_=>by simp[bE,D.clean]) (l:=iG s) (j:=0) (v:=2) (bs:=[.cells 2 (fM (iG s) bE)]) (J:=J) hJ (by simp);rw[hrl,hrE]at hk;rw[hrl,hrE];simp[fO,hS,e8,f1,f2,w1,w2,w3,w4,x1,x2,strCells_eq,r1,r2,hbl,q1,tk];exact⟨_,hk⟩
theorem MY{l:List (List UInt8)}(hl:GQ l):∀(m i:Nat) (acc:List UInt8),i+m=l.length->acc.length<=4006*i ->
  WL T [2,5,6,7] false oQ [(2,.sl J.length 0 i 0 acc.length 1),(5,lF l bD),(6,iI l.length),(7,iI i)] ([.cells i (fM acc bE)]::J)
   (λx e J'=>x=.exit 0/\get e 2=.sl J.length 0 l.length 0 (acc++cU (l.drop i)).length 1/\J'=[.cells l.length (fM (acc++cU (l.drop i)) bE)]::J)
 |0,i,acc,hi,ha=>by
  refine aK ?_;obtain rfl:i=l.length:=by omega
  have h2:l.drop l.length=[]:=ec;simp[h2,cU]
 |m+1,i,acc,hi,ha=>by
  refine aK ?_;have h1:i<l.length:=by omega
  obtain⟨s,hs⟩:=gE h1;have a1:=bx (f:=bD) (w:=1) hs;simp only[bD,bR]at a1;have h4:=cj h1 (by have:=hl.1;omega);have hsl:=hl.2 s (ah hs);have hC:=λS hS=>PO (J:=S) hsl hS
  have hrl:=pg s;have hbl:=Br acc;have hbl2:=Br (iG s);have hr:acc.length+(iG s).length<=room:=by have:=hl.1;unfold room;omega
  have tk:(fM acc bE).take acc.length=fM acc bE:=cZ;have ih:=MY hl m (i+1) (acc++iG s) (by omega) (by simp;omega);rw[bj hs];have hbk:cU (s::l.drop (i+1))=iG s++cU (l.drop (i+1)):=rfl;rw[hbk];simp[h1,a1,h4,hC,hr,hbl,hbl2,tk];exact WL.ts ih λx e J' hh=>by simpa using hh
theorem Iv{l:List (List UInt8)}(hl:GQ l)(hJ:J≠[]):Cl 61 [lF l bD] (lF (cU l) bE) J:=by
 refine an ?_;have hL:=MY (J:=J) hl l.length 0 [] (by omega) (by simp);simp;refine WL.ts hL ?_;rintro x e J' ⟨rfl,g2,rfl⟩;simp only[az,aV]at g2;have hk:=Go.aw.kb (f:=bE) (w:=1) (λ_=>rfl) (λ_=>by simp[bE,D.clean]) (l:=cU l) (j:=0) (v:=l.length) (bs:=[.cells l.length (fM (cU l) bE)]) (J:=J) hJ (by simp);simp[g2,hk]
def afj:Elt (List UInt8):=⟨false,1,bD,λs => .str s,λ_=>rfl,λ_=>by simp[bD],λ_=>rfl,λ_=>rfl,λ_=>rfl⟩
theorem Xo{s:List UInt8}:Cl 72 [.str s] (.bool (decide (4000<s.length))) J:=by
 refine an ?_;have e:decide ((4000:Int)<(s.length:Int))=decide (4000<s.length):=by
  by_cases h:4000<s.length
  .rw[decide_eq_true h,decide_eq_true (by omega)]
  .rw[decide_eq_false h,decide_eq_false (by omega)]
 simp[fO,e]
def okB(l:List (List UInt8)):Bool:=decide (l.length<=100) && !lN l (λs=>decide (4000<s.length))
theorem BZ{l:List (List UInt8)}(hl:l.length<=1000000000):Cl 31 [lF l bD] (iI (if okB l then 0 else 3)) J:=by
 refine an ?_;have hC:=λJ=>contains_of afj (T:=T) (f:=71) (i:=110) (l:=l) (p:=λs=>decide (4000<s.length)) (fv:=.fn 72 [] []) rfl rfl (by omega) (om.fn λs _ J=>Xo) (J:=J)
 have hC':∀J,Cl 71 [lF l bD,.fn 72 [] []] (.bool (lN l (λs=>decide (4000<s.length)))) J:=hC;unfold okB;by_cases h1:l.length<=100
 .have h2:¬(100:Int)<l.length:=by omega
  cases h3:lN l (λs=>decide (4000<s.length))<;>rw[h3]at hC'<;>simp[h1,h2,hC']
 .have h2:(100:Int)<l.length:=by omega
  simp[h1,h2]
theorem Ft{l:List (List UInt8)}:okB l=true↔GQ l:=by
 unfold okB GQ;simp only[af,au,ea];constructor
 .rintro⟨h1,h2⟩;refine⟨h1,λs hs=>?_⟩;by_cases h:s.length<=4000
  .exact h
  .have h3:lN l (λs=>decide (4000<s.length))=true:=Qi.2 ⟨s,hs,show decide (4000<s.length)=true from decide_eq_true (by omega)⟩;rw[h2]at h3;cases h3
 .rintro⟨h1,h2⟩;refine⟨h1,?_⟩;cases h:lN l (λs=>decide (4000<s.length))with
  |false=>rfl
  |true =>
   obtain⟨s,hs,h3⟩:=Qi.1 h;have:=h2 s hs;simp only[au]at h3;omega
theorem aaH{l:List (List UInt8)}(hl:l.length<=1000000000)(hJ:J≠[]):
  Cl 30 [lF l bD] (.cS [if okB l then lF (cU l) bE else .bB,iI (if okB l then 0 else 3)]) J:=by
 refine an ?_;have h1:=λJ=>BZ (J:=J) hl
 cases hc:okB l
 .rw[hc]at h1;simp[h1]
 .rw[hc]at h1;have h2:=λS hS=>Iv (J:=S) (Ft.1 hc) hS
  simp[h1,h2,Uu]
end
section
open Go Go.aw Go.aD
variable {J:SK}
structure sY where
 m:Int
 h:Int
 s:Int
 g:Int
@[simp] def sY.enc(x:sY):List D:=[iI x.m,iI x.h,iI x.s,iI x.g]
def sY.valid(x:sY):Bool:=bI x.m 0 1000000 && (bI x.h 0 (4000*x.m) && (bI x.s 0 (10000*x.m) && bI x.g 0 1000000000))
def eS(r:Rw)(x:sY):Int:=if x.h-x.m*r.l<=0 then 0 else if x.m*r.v<=x.h then x.m else(x.h-x.m*r.l) / (r.v-r.l)
theorem Xr{r:Rw}{x:sY}(hr:0<=r.l/\r.l<r.v/\r.v<=4000)(hm:0<=x.m/\x.m<=1000000)(hh:0<=x.h/\x.h<=4000000000):
  Cl 312 [.agg r.enc,.agg x.enc] (iI (eS r x)) J:=by
 refine an ?_;have b1:=iE hm.1 hm.2 hr.1 (show r.l<=4000 by omega);have b2:=iE hm.1 hm.2 (show 0<=r.v by omega) hr.2.2;have w1:=bV (n:=x.m*r.l);have w2:=bV (n:=x.h-x.m*r.l);have w3:=bV (n:=x.m*r.v);have w4:=bV (n:=r.v-r.l);have hd:¬r.v-r.l=0:=by omega
 unfold eS;by_cases c1:x.h-x.m*r.l<=0
 .simp[w1,w2,c1]
 .by_cases c2:x.m*r.v<=x.h
  .simp[w1,w2,w3,c1,c2]
  .have t1:=aN (b:=r.v-r.l) (show 0<=x.h-x.m*r.l by omega);have q1:=Int.ediv_nonneg (a:=x.h-x.m*r.l) (b:=r.v-r.l) (by omega) (by omega);have q2:=Int.ediv_le_self (b:=r.v-r.l) (show 0<=x.h-x.m*r.l by omega);have w5:=bV (n:=(x.h-x.m*r.l) / (r.v-r.l));simp[w1,w2,w3,w4,c1,c2,hd,t1,w5]
theorem KK{x:sY}:Cl 260 [.agg x.enc] (.bool x.valid) J:=by
 refine an ?_;unfold sY.valid;cases h1:bI x.m 0 1000000
 .simp[jB,h1]
 have hm:=aS.1 h1;have w1:=bV (n:=4000*x.m);have w2:=bV (n:=10000*x.m);cases h2:bI x.h 0 (4000*x.m)
 .simp[jB,h1,h2,w1]
 cases h3:bI x.s 0 (10000*x.m)
 .simp[jB,h1,h2,h3,w1,w2]
 cases h4:bI x.g 0 1000000000<;>simp[jB,h1,h2,h3,h4,w1,w2]
theorem ahT{t:List Rw}{i:Nat}{r:Rw}(h:t[i]?=some r):Cl 261 [lF t Rw.enc,iI i] (.agg r.enc) J:=by
 refine an ?_;have h1:i<t.length:=(aA.1 h).1;have h2:=bx (f:=Rw.enc) (w:=5) h;simp[h1,h2]
theorem ada{t:List Rw}{n:Int}(hl:t.length<=1000000000):Cl 259 [lF t Rw.enc,iI n] (.bool (bI n 0 ((t.length:Int)-1))) J:=by
 refine an ?_;have w1:=bV (n:=(t.length:Int)-1);simp[jB,w1]
def wat(r:Rw)(x:sY):Int×Int:=if eS r x=0 then(x.m,x.h)else if eS r x=x.m then(0,0)else(x.m-eS r x,x.h-eS r x*r.v)
def Pl(r:Rw)(x:sY):Int:=if eS r x=0 then 0 else if eS r x=x.m then x.h else eS r x*r.v
def ajW(r:Rw)(x:sY):Int:=if eS r x=0 then x.g else 0
def Pk(r:Rw)(x:sY):Int:=if eS r x=0 then 0 else x.g
def held(r:Rw)(x:sY):Int:=min x.s ((wat r x).1*r.s)
def parts(r:Rw)(x:sY):List D:=[iI (eS r x),iI (Pl r x),iI 0,iI (Pk r x),iI (wat r x).1,iI (wat r x).2,iI (held r x),iI (ajW r x),
 iI (if 0<(wat r x).1 then max 0 ((wat r x).2-(wat r x).1*r.l)else 0),iI (x.s-held r x)]
theorem QK{r:Rw}{x:sY}(hr:0<=r.l/\r.l<r.v/\r.v<=4000)(hm:0<=x.m):0<=eS r x/\eS r x<=x.m/\(eS r x≠0->eS r x≠x.m->0<=x.h-eS r x*r.v+x.m*r.v):=by
 have hmv:x.m*r.v=x.m*r.l+x.m*(r.v-r.l):=by rw[<- Int.mul_add];congr 1;omega
 have hml:=bF hm hr.1;have key:¬x.h-x.m*r.l<=0->¬x.m*r.v<=x.h->0<=(x.h-x.m*r.l) / (r.v-r.l)/\(x.h-x.m*r.l) / (r.v-r.l)<=x.m:=λh1 h2=>⟨Int.ediv_nonneg (by omega) (by omega),Int.ediv_le_of_le_mul (by omega) (by omega)⟩
 have h2:0<=eS r x/\eS r x<=x.m:=by
  unfold eS;by_cases c1:x.h-x.m*r.l<=0
  .rw[if_pos c1];omega
  .rw[if_neg c1];by_cases c2:x.m*r.v<=x.h
   .rw[if_pos c2];omega
   .rw[if_neg c2];exact key c1 c2
 refine⟨h2.1,h2.2,λh3 _=>?_⟩;have h4:=dZ h2.2 (show 0<=r.v by omega);have h5:¬x.h-x.m*r.l<=0:=by
  intro hh;exact h3 (by unfold eS;rw[if_pos hh])
 omega
theorem ahQ{r:Rw}{x:sY}(hr:0<=r.l/\r.l<r.v/\r.v<=4000)(hs:0<=r.s/\r.s<=2000)(hx:x.valid=true):
  Cl 262 [.agg r.enc,.agg x.enc] (.agg (parts r x)) J:=by
 refine an ?_;simp only[sY.valid,af,aS]at hx;obtain⟨hm,hh,hsl,hg⟩:=hx;have hF:=λJ=>Xr (J:=J) hr hm ⟨hh.1,by omega⟩
 obtain⟨f1,f2,f3⟩:=QK hr hm.1;have b1:=iE f1 (show eS r x<=1000000 by omega) (show 0<=r.v by omega) hr.2.2;have b2:=iE (show 0<=x.m-eS r x by omega) (show x.m-eS r x<=1000000 by omega) hs.1 hs.2;have b3:=iE (show 0<=x.m-eS r x by omega) (show x.m-eS r x<=1000000 by omega) hr.1 (show r.l<=4000 by omega);have b4:=iE hm.1 hm.2 hs.1 hs.2;have b5:=iE hm.1 hm.2 hr.1 (show r.l<=4000 by omega);simp only[Rw.enc,sY.enc]at hF;unfold parts held Pl ajW Pk wat;generalize eS r x=m at *
 have w1:=bV (n:=m*r.v);have w2:=bV (n:=x.m-m);have w3:=bV (n:=x.h-m*r.v);have w4:=bV (n:=(x.m-m)*r.s);have w5:=bV (n:=(x.m-m)*r.l);have w6:=bV (n:=x.h-m*r.v-(x.m-m)*r.l);have w7:=bV (n:=x.m*r.s);have w8:=bV (n:=x.m*r.l);have w9:=bV (n:=x.h-x.m*r.l);have v1:=bV (n:=x.s-min x.s (x.m*r.s));have v2:=bV (n:=x.s-min x.s ((x.m-m)*r.s));have v3:=bV (n:=x.s);have v4:min x.s 0=0:=by omega
 by_cases c1:m=0
 .subst c1;by_cases c2:0<x.m
  .simp[hF,w7,w8,w9,v1,c2]
  .simp[hF,w7,v1,c2]
 .by_cases c2:m=x.m
  .subst c2;simp[hF,c1,v3,v4]
  .have⟨c3,c4⟩:0<x.m-m/\m<x.m:=by omega
   simp[hF,c1,c2,c4,w1,w2,w3,w4,w5,w6,v2]
theorem ZU{t:List Rw}(ht:fP t=true){i:Nat}{r:Rw}(h:t[i]?=some r):(0<=r.l/\r.l<r.v/\r.v<=4000)/\(0<=r.s/\r.s<=2000):=by
 simp only[fP,af]at ht;have:=ff.1 ht.2.1 r (ah h);simp only[Rw.alone,af,aS,au]at this;obtain⟨_,_,h3,h4,h5,h6⟩:=this;exact⟨⟨h3.1,h5,h6⟩,h4⟩
theorem aaB{t:List Rw}(ht:fP t=true){i:Nat}{r:Rw}(hi:t[i]?=some r){x:sY}(hx:x.valid=true):
  Cl 218 [lF t Rw.enc,iI i,.agg x.enc] (.cS [.agg (parts r x),iI 0]) J:=by
 refine an ?_;have hl:t.length<=20:=by
  simp only[fP,af]at ht;have:=aS.1 ht.1;omega
 have hil:i<t.length:=(aA.1 hi).1;have h1:=λJ=>Gy (J:=J) (t:=t) (by omega)
 have h2:=λJ=>ada (J:=J) (t:=t) (n:=i) (by omega)
 have h3:=λJ=>KK (J:=J) (x:=x)
 have h4:=λJ=>ahT (J:=J) hi
 obtain⟨r1,r2⟩:=ZU ht hi;have h5:=λJ=>ahQ (J:=J) r1 r2 hx
 have hin:bI i 0 ((t.length:Int)-1)=true:=aS.2 (by omega);rw[hin]at h2;rw[hx]at h3;rw[ht]at h1;simp only[sY.enc,Rw.enc]at h3 h4 h5;have hp:(parts r x).length=10:=rfl;have hp2:(parts r x).take 10=parts r x:=rfl;have hpc:D.bh (parts r x)=true:=by simp[parts]
 generalize parts r x=P at *
 simp[h1,h2,h3,h4,h5,hp,hp2];rw[eV (by simp[D.clean,hpc]) (by omega)];exact⟨_,rfl⟩
structure Yv(b:b9)(y:List aD.aF):Prop where
 len:y.length=b.ar.length
 ok:∀o∈y,(0<=o.m/\o.m<=1000000)/\(0<=o.h/\o.h<=10000000000)/\(0<=o.k/\o.k<=1000000000000)
theorem Yv.of{b:b9}{s:List aD.aF}{aH:List Int}(h:Bv b)(hs:Sv b s)(hr:Rv b aH):Yv b (bP b s aH):=by
 refine⟨by simp[bP,hr.len],?_⟩;intro o ho;simp only[bP,bO]at ho;obtain⟨⟨w,r⟩,hm,rfl⟩:=ho;have hw:=Ip h w (List.of_mem_zip hm).1;have hb:=hr.ok r (List.of_mem_zip hm).2;simp only[gS];split
 .simp
 .obtain⟨_,h1,h2,h3⟩:=hs.at (i:=w.b.toNat) (by omega);generalize aR s w.b.toNat=x at *
  have h8:x.m.tdiv 8=x.m / 8:=aN (by omega);have hq:0<=min r (x.m.tdiv 8)/\min r (x.m.tdiv 8)<=x.m:=by omega
  exact⟨⟨hq.1,by simp only[aD.aF.out];omega⟩,JQ h1.1 h2 hq,JQ h1.1 h3 hq⟩
theorem aak{b:b9}{m:ck}{s:List aD.aF}{aH:List Int}{s' y:List aD.aF}(h:Bv b)(hs:Sv b s)(hr:Rv b aH)(ht:tick b m s aH=some (s',y)):Sv b s'/\Yv b y:=by
 refine⟨Sv.next h ht,?_⟩;unfold tick at ht;split at ht
 .simp only[ae,ak]at ht;rw[<- ht.2];exact Yv.of h hs hr
 .cases ht
structure MZ(b:b9)(n:Nat)(ss ys:List (List aD.aF)):Prop where
 sl:ss.length=n+1
 yl:ys.length=n
 sv:∀s∈ss,Sv b s
 yv:∀y∈ys,Yv b y
theorem MZ.from{b:b9}{m:ck}(h:Fv b m):∀(av:List (List Int)) (n:Nat) (ss ys:List (List aD.aF)) (s:List aD.aF) {ss' ys':List (List aD.aF)},(∀r∈av,Rv b r)->MZ b n ss ys->Sv b s->nD b m ss ys s av=some (ss',ys')->MZ b (n+av.length) ss' ys'
 |[],n,ss,ys,s,ss',ys',hr,h1,h2,he=>by
  simp only[nD,ae,ak]at he;obtain⟨rfl,rfl⟩:=he;exact h1
 |r::av,n,ss,ys,s,ss',ys',hr,h1,h2,he=>by
  simp only[nD]at he;split at he
  .rename_i s' y ht;obtain⟨g1,g2⟩:=aak h.bv h2 (hr r (List.mem_cons_self ..)) ht;have:=MZ.from h av (n+1) _ _ _ (λx hx=>hr x (List.mem_cons_of_mem _ hx)) (⟨by simp[h1.sl],by simp[h1.yl],by
    intro x hx;rcases aU.1 hx with hx | hx
    .exact h1.sv x hx
    .rw[List.mem_singleton.1 hx];exact g1,by
    intro x hx;rcases aU.1 hx with hx | hx
    .exact h1.yv x hx
    .rw[List.mem_singleton.1 hx];exact g2⟩:MZ b (n+1) (ss++[s']) (ys++[y])) g1 he
   rw[show n+(r::av).length=n+1+av.length by simp;omega];exact this
  .cases he
theorem MZ.of{b:b9}{m:ck}{av:List (List Int)}{ss ys:List (List aD.aF)}(h:Fv b m)(hr:∀r∈av,Rv b r)(he:aD.run b m av=some (ss,ys)):MZ b av.length ss ys:=by
 have:=MZ.from h av 0 _ _ _ hr (⟨rfl,rfl,by simpa using Sv.first h,by simp⟩:MZ b 0 [cf b m] []) (Sv.first h) he;simpa using this
theorem B7{α:Type}{p:α->Bool}{x:α}{l:List α}:dz (x::l) p=(p x && dz l p):=by simp[dz]
theorem dD{a b c:Int}:Cl 103 [iI a,iI b,iI c] (.bool (bI a b c)) J:=by
 refine an ?_;by_cases h:b<=a<;>simp[h,bI]
theorem pI{a b c:Int}:Cl 130 [iI a,iI b,iI c] (.bool (bI a b c)) J:=by
 refine an ?_;by_cases h:b<=a<;>simp[h,bI]
theorem aaF{f:dK}(hx:1<=f.x/\f.x<=8)(hy:1<=f.y/\f.y<=8)(hz:1<=f.z/\f.z<=8):Cl 131 [.agg (fL f)] (iI f.size) J:=by
 refine an ?_;obtain⟨h1,h2⟩:=dK.sz hx hy hz;have w1:=bV (n:=f.x*f.y);have w2:=bV (n:=f.x*f.y*f.z);simp[w1,w2,dK.size]
theorem oH{f:dK}(h:f.valid=true):Cl 131 [.agg (fL f)] (iI f.size) J:=by
 obtain⟨h1,h2,h3,h4,h5⟩:=dK.mP.1 h;exact aaF h1 h2 h3
theorem Px{f:dK}:Cl 88 [.agg (fL f)] (.bool f.valid) J:=by
 refine an ?_;cases hc1:bI f.x 1 8
 .simp[pI,dK.valid,hc1]
 cases hc2:bI f.y 1 8
 .simp[pI,dK.valid,hc1,hc2]
 cases hc3:bI f.z 1 8
 .simp[pI,dK.valid,hc1,hc2,hc3]
 obtain⟨h1,h2⟩:=dK.sz (aS.1 hc1) (aS.1 hc2) (aS.1 hc3);have w1:=bV (n:=f.x*f.y);have w2:=bV (n:=f.x*f.y*f.z);by_cases hc4:f.x*f.y*f.z<=64
 .simp[pI,dK.valid,dK.size,hc1,hc2,hc3,hc4,w1,w2]
 .simp[pI,dK.valid,dK.size,hc1,hc2,hc3,hc4,w1,w2]
theorem TW{s:List UInt8}(hl:s.length<=9223372036854775807):∀(m i:Nat),i+m=s.length ->
  WL T [0,3] false xj [(0,.str s),(3,iI i)] J
   (λx e J'=>J'=J/\if nS i (s.drop i)then x=.exit 0/\get e 0=.str s else x=.ret/\get e 2=.bool false)
 |0,i,hi=>by
  refine aK ?_;have h1:¬i<s.length:=by omega
  have h2:s.drop i=[]:=ec;have hp:fO .RH [.str s]=some (iI s.length):=rfl;simp[h1,h2,hp,nS]
 |m+1,i,hi=>by
  refine aK ?_;have h1:i<s.length:=by omega
  obtain⟨c,hc⟩:=gE h1;have h4:=cj h1;have h5:=bj hc;have ih:=TW hl m (i+1) (by omega);have hp:fO .RH [.str s]=some (iI s.length):=rfl;rw[h5,nS];have hd:fO .J8 [.str s,iI (i:Int)]=some (.int .u8 c.toNat):=by simp[fO,hc]
  by_cases hc1:97<=c.toNat
  .by_cases hc2:c.toNat<=122
   .have hlet:letter c=true:=by simp[letter,hc1,hc2]
    simp[h1,h4,hd,hp,hlet,show(97:Int)<=(c.toNat:Int)by omega,show(c.toNat:Int)<=122 by omega];exact WL.tg ih λx e J' hh=>by simpa[hlet]using hh
   .have hlet:letter c=false:=by simp[letter,hc2]
    have hdig:digit c=false:=by simp[digit];omega
    by_cases hi0:i=0
    .subst hi0;have hd0:fO .J8 [.str s,iI 0]=some (.int .u8 c.toNat):=by simpa using hd
     have h1':0<s.length:=h1;simp[h1',hd0,hp,hlet,hdig,show(97:Int)<=(c.toNat:Int)by omega,show ¬(c.toNat:Int)<=122 by omega]
    .simp[h1,hd,hp,hlet,hdig,hi0,show(97:Int)<=(c.toNat:Int)by omega,show ¬(c.toNat:Int)<=122 by omega,show ¬(c.toNat:Int)<48 by omega,show(57:Int)<(c.toNat:Int)by omega]
  .have hlet:letter c=false:=by simp[letter,hc1]
   by_cases hi0:i=0
   .subst hi0;have hd0:fO .J8 [.str s,iI 0]=some (.int .u8 c.toNat):=by simpa using hd
    have h1':0<s.length:=h1;simp[h1',hd0,hp,hlet,show ¬(97:Int)<=(c.toNat:Int)by omega]
   .by_cases hc3:c.toNat<48
    .have hdig:digit c=false:=by simp[digit];omega
     simp[h1,hd,hp,hlet,hdig,hi0,show ¬(97:Int)<=(c.toNat:Int)by omega,show(c.toNat:Int)<48 by omega]
    .by_cases hc4:57<c.toNat
     .have hdig:digit c=false:=by simp[digit];omega
      simp[h1,hd,hp,hlet,hdig,hi0,show ¬(97:Int)<=(c.toNat:Int)by omega,show ¬(c.toNat:Int)<48 by omega,show(57:Int)<(c.toNat:Int)by omega]
     .have hdig:digit c=true:=by simp[digit];omega
      simp[h1,h4,hd,hp,hlet,hdig,hi0,show ¬(97:Int)<=(c.toNat:Int)by omega,show ¬(c.toNat:Int)<48 by omega,show ¬(57:Int)<(c.toNat:Int)by omega];exact WL.tg ih λx e J' hh=>by simpa[hlet,hdig,hi0]using hh
theorem J9{s:List UInt8}(hl:s.length<=9223372036854775807):Cl 174 [.str s] (.bool (named s)) J:=by
 refine an ?_;have hp:fO .RH [.str s]=some (iI s.length):=rfl;simp;refine WL.tg (TW (J:=[]::J) hl s.length 0 (by omega)) ?_;rintro x e J' ⟨rfl,h⟩;simp only[az]at h;unfold named;cases hc:nS 0 s
 .simp[hc]at h;simp[h]
 .simp[hc]at h;obtain⟨rfl,g0⟩:=h;by_cases h1:1<=s.length
  .by_cases h2:s.length<=16
   .simp[g0,hp,bI,show(1:Int)<=s.length by omega,show(s.length:Int)<=16 by omega]
   .simp[g0,hp,bI,show(1:Int)<=s.length by omega,show ¬(s.length:Int)<=16 by omega]
  .simp[g0,hp,bI,show ¬(1:Int)<=s.length by omega]
theorem PW{f:dK}{m:ck}(hl:m.dG.length<=9223372036854775807):∀(k i:Nat),i+k=m.dG.length ->
  WL T [3,5] false na [(3,.bq (mL m)),(5,iI i)] J
   (λx e J'=>J'=J/\if dz (m.dG.drop i) (λn=>bI n (-100000) 100000)then x=.exit 0 else x=.ret/\get e 4=iI 1)
 |0,i,hi=>by
  refine aK ?_;have h1:¬i<m.dG.length:=by omega
  have h2:m.dG.drop i=[]:=ec;simp[h1,h2,dz]
 |k+1,i,hi=>by
  refine aK ?_;have h1:i<m.dG.length:=by omega
  obtain⟨c,hc⟩:=gE h1;have h2:=gi hc;have h4:=cj h1;have h5:=bj hc;have ih:=PW (f:=f) hl k (i+1) (by omega);rw[h5,B7];cases hb:bI c (-100000) 100000
  .simp[h1,h2,pI,hb]
  .simp[h1,h2,h4,pI,hb];exact WL.tg ih λx e J' hh=>by simpa[hb]using hh
theorem Xc{f:dK}{m:ck}(hf:f.valid=true)(hn:m.name.length<=9223372036854775807)(hl:m.dG.length<=9223372036854775807):Cl 135 [.agg (fL f),.agg (mL m)] (iI (f.model m)) J:=by
 refine an ?_;obtain⟨h6,h7⟩:=Cz hf;have w1:=bV (n:=f.k*f.size);have hb:=λJ=>oH (J:=J) (f:=f) hf
 cases hc1:named m.name
 .simp[J9 hn,hc1,dK.model]
 .by_cases hc2:(m.dG.length:Int)=f.k*f.size
  .simp[J9 hn,hc1,hc2,hb,w1];refine WL.ts (PW (J:=[]::J) (f:=f) (m:=m) hl m.dG.length 0 (by omega)) ?_;rintro x e J' ⟨rfl,h⟩;simp only[az]at h;cases hc3:dz m.dG (λn=>bI n (-100000) 100000)
   .simp[hc3]at h;simp[h,dK.model,hc1,hc2,hc3]
   .simp[hc3]at h;simp[h,dK.model,hc1,hc2,hc3]
  .simp[J9 hn,hc1,hc2,dK.model,hb,w1]
def O4:Option Rw->Rw->Bool
 |some o,r=>o.wV r
 |none,_=>true
def Dx(o:Option Rw):List Rw->Bool
 |[]=>true
 |r::l=>r.alone && (O4 o r && Dx (some r) l)
theorem E3{o:Option Rw}{r:Rw}{l:List Rw}:Dx o (r::l)=(r.alone && (O4 o r && Dx (some r) l)):=rfl
theorem Rr(l:List Rw):∀o,Dx (some o) l=(dz l Rw.alone && uf (o::l)):=by
 induction l with
 |nil=>intro o;simp[Dx,dz,uf]
 |cons r l ih =>
  intro o;rw[E3,ih,B7,uf];show(r.alone && (o.wV r && (dz l Rw.alone && uf (r::l))))=(r.alone && dz l Rw.alone && (o.wV r && uf (r::l)))
  cases r.alone<;>cases o.wV r<;>cases dz l Rw.alone<;>simp
theorem Rq(l:List Rw):Dx none l=(dz l Rw.alone && uf l):=by
 cases l with
 |nil=>simp[Dx,dz,uf]
 |cons r l=>rw[E3,Rr,B7];cases r.alone<;>rfl
def Yx(t:List Rw):Nat->Option Rw
 |0=>none
 |i+1=>t[i]?
theorem P5{t:List Rw}(hl:t.length<=9223372036854775807):∀(m i:Nat),i+m=t.length ->
  WL T [0,3] false uZ [(0,lF t Rw.enc),(3,iI i)] J
   (λx e J'=>J'=J/\if Dx (Yx t i) (t.drop i)then x=.exit 0/\get e 0=lF t Rw.enc else x=.ret/\get e 2=.bool false)
 |0,i,hi=>by
  refine aK ?_;have h1:¬i<t.length:=by omega
  have h2:t.drop i=[]:=ec;simp[h1,h2,Dx]
 |m+1,i,hi=>by
  refine aK ?_;have h1:i<t.length:=by omega
  obtain⟨r,hr⟩:=gE h1;have h2:=bx (f:=Rw.enc) (w:=5) hr;have h4:=cj h1;have h5:=bj hr;have ih:=P5 hl m (i+1) (by omega);rw[show Yx t (i+1)=some r from hr]at ih;rw[h5,E3];cases c1:bI r.t 0 400
  .simp[h1,h2,dD,c1,Rw.alone]
  cases c2:bI r.p 1 10000
  .simp[h1,h2,dD,c1,c2,Rw.alone]
  cases c3:bI r.l 0 4000
  .simp[h1,h2,dD,c1,c2,c3,Rw.alone]
  cases c4:bI r.s 0 2000
  .simp[h1,h2,dD,c1,c2,c3,c4,Rw.alone]
  by_cases c5:r.l<r.v
  rotate_left
  .simp[h1,h2,dD,c1,c2,c3,c4,c5,show r.v<=r.l by omega,Rw.alone]
  have c5':¬r.v<=r.l:=by omega
  by_cases c6:r.v<=4000
  rotate_left
  .simp[h1,h2,dD,c1,c2,c3,c4,c5,c5',c6,show 4000<r.v by omega,Rw.alone]
  have c6':¬4000<r.v:=by omega
  have ha:r.alone=true:=by simp[Rw.alone,c1,c2,c3,c4,c5,c6]
  rw[ha];cases i with
  |zero =>
   rw[show O4 (Yx t 0) r=true from rfl];have h2':(fM t Rw.enc).take 5=[iI r.t,iI r.p,iI r.l,iI r.v,iI r.s]:=by simpa using h2
   have h1':0<t.length:=by omega
   have hr0:t[0]?=some r:=hr;simp[h1',h2',dD,c1,c2,c3,c4,c5',c6'];exact WL.ts ih λx e J' hh=>by simpa[hr0]using hh
  |succ j =>
   obtain⟨o,ho⟩:∃r,t[j]?=some r:=gE (by omega);have h3:=bx (f:=Rw.enc) (w:=5) ho;rw[show Yx t (j+1)=some o from ho,show O4 (some o) r=o.wV r from rfl];have w1:=bV (n:=(j:Int));have w2:=bV (n:=(j:Int)+1+1);have⟨hj,e1,hA,hB,hC,hD⟩:j<t.length/\(j:Int)+1-1=j/\(j:Int)+1<(t.length:Int)/\(0:Int)<=(j:Int)+1/\((j:Int)+1).toNat=j+1/\(0:Int)<(j:Int)+1:=by omega
   by_cases d1:r.t<=o.t
   .simp[h2,h3,dD,c1,c2,c3,c4,c5',c6',e1,w1,hj,hA,hB,hC,hD,d1,Rw.wV]
   by_cases d2:r.p<=o.p
   .simp[h2,h3,dD,c1,c2,c3,c4,c5',c6',e1,w1,hj,hA,hB,hC,hD,d1,d2,Rw.wV]
   by_cases d3:r.l<=o.l
   .simp[h2,h3,dD,c1,c2,c3,c4,c5',c6',e1,w1,hj,hA,hB,hC,hD,d1,d2,d3,Rw.wV]
   by_cases d4:r.s<o.s
   .simp[h2,h3,dD,c1,c2,c3,c4,c5',c6',e1,w1,hj,hA,hB,hC,hD,d1,d2,d3,d4,Rw.wV]
   have hrs:o.wV r=true:=by simp[Rw.wV,d1,d2,d3,d4]
   simp[h2,h3,dD,c1,c2,c3,c4,c5',c6',e1,w1,hj,hA,hB,hC,hD,d1,d2,d3,d4,hrs,w2];exact WL.to ih (by simp) (by simp[]) λx e J' hh=>by simpa[hrs]using hh
theorem PD{t:List Rw}(hl:t.length<=9223372036854775807):Cl 89 [lF t Rw.enc] (.bool (fP t)) J:=by
 refine an ?_;simp;refine WL.tg (P5 (J:=[]::J) hl t.length 0 (by omega)) ?_;rintro x e J' ⟨rfl,h⟩;simp only[az,Yx,Rq]at h;unfold fP;cases hc:(dz t Rw.alone && uf t)
 .simp[hc]at h;simp[h]
 .simp only[hc,if_true]at h;obtain⟨rfl,g0⟩:=h;by_cases h1:2<=t.length
  .by_cases h2:t.length<=20
   .simp[g0,bI,show(2:Int)<=t.length by omega,show(t.length:Int)<=20 by omega]
   .simp[g0,bI,show(2:Int)<=t.length by omega,show ¬(t.length:Int)<=20 by omega]
  .simp[g0,bI,show ¬(2:Int)<=t.length by omega]
theorem PX{l:List Int}(hl:l.length<=9223372036854775807):∀(k i:Nat),i+k=l.length ->
  WL T [1,5] false nV [(1,lF l aQ),(5,iI i)] J
   (λx e J'=>J'=J/\if dz (l.drop i) (λn=>bI n (-100000) 100000)then x=.exit 0 else x=.ret/\get e 4=iI 2)
 |0,i,hi=>by
  refine aK ?_;have h1:¬i<l.length:=by omega
  have h2:l.drop i=[]:=ec;simp[h1,h2,dz]
 |k+1,i,hi=>by
  refine aK ?_;have h1:i<l.length:=by omega
  obtain⟨c,hc⟩:=gE h1;have h2:=gi hc;have h4:=cj h1;have h5:=bj hc;have ih:=PX hl k (i+1) (by omega);rw[h5,B7];cases hb:bI c (-100000) 100000
  .simp[h1,h2,dD,hb]
  .simp[h1,h2,h4,dD,hb];exact WL.tg ih λx e J' hh=>by simpa[hb]using hh
theorem Vq{b:b9}{l:List Int}(hl:l.length<=9223372036854775807){wq:D}(hwq:wq.pO=lF b.ar bN.enc):Cl 99 [.agg [iI b.f.x,iI b.f.y,iI b.f.z,iI b.f.k,lF b.dX Rw.enc,iI b.cJ,iI b.lift,iI b.deep,wq],lF l aQ] (iI (pf b l)) J:=by
 refine an ?_;unfold pf;by_cases hc1:l.length=b.ar.length
 .simp[hwq,hc1];rw[<- hc1];refine WL.ts (PX (J:=[]::J) hl l.length 0 (by omega)) ?_;rintro x e J' ⟨rfl,h⟩;simp only[az]at h;cases hc2:dz l (λn=>bI n (-100000) 100000)
  .simp[hc2]at h;simp[h]
  .simp[hc2]at h;simp[h]
 .simp[hwq,hc1,show ¬(l.length:Int)=b.ar.length by omega]
theorem Qm{l:List bN}{j:Nat}{w:bN}(h:l[j]?=some w):((fM l bN.enc).drop (j*3)).take 3=[iI w.b,iI w.h,iI w.m] :=
 bx (f:=bN.enc) (w:=3) h
theorem TZ{b:b9}{w:bN}(hl:b.ar.length<=1000){i:Nat}(hi:i<b.ar.length):∀(k j:Nat),j+k=i ->
  WL T [1,3,4,5] false tw [(1,.bq (bL b)),(3,iI i),(4,.own 0 [iI w.b,iI w.h,iI w.m]),(5,iI j)] J
   (λx e J'=>J'=J/\if(((b.ar.take i).drop j).map bN.b).contains w.b then x=.ret/\get e 2=.bool false else x=.exit 2/\get e 1=.bq (bL b)/\get e 3=iI i)
 |0,j,hj=>by
  refine aK ?_;obtain rfl:j=i:=by omega
  have h2:(b.ar.take j).drop j=[]:=bH (by rw[dp];omega);rw[h2];simp
 |k+1,j,hj=>by
  refine aK ?_;have⟨h1,h1'⟩:j<i/\j<b.ar.length:=by omega
  obtain⟨r,hr⟩:∃r,b.ar[j]?=some r:=gE (by omega);have h2:=Qm hr;have h4:=cj h1';have h5:(b.ar.take i).drop j=r::(b.ar.take i).drop (j+1):=bj (by rw[dw];simp[h1,hr]);have ih:=TZ (w:=w) hl hi k (j+1) (by omega);rw[h5,aL];by_cases hc:r.b=w.b
  .simp[h1,h1',h2,hc]
  .simp[h1,h1',h2,h4,hc];have hc':¬w.b=r.b:=λh=>hc h.symm
   exact WL.tg ih λx e J' hh=>by simpa[hc']using hh
theorem P3{b:b9}(hf:b.f.valid=true)(hl:b.ar.length<=8):∀(k i:Nat),i+k=b.ar.length ->
  WL T [1,3] false tx [(1,.bq (bL b)),(3,iI i)] J
   (λx e J'=>J'=J/\if nE b.size ((b.ar.take i).map bN.b) (b.ar.drop i)then x=.exit 0 else x=.ret/\get e 2=.bool false)
 |0,i,hi=>by
  refine aK ?_;have h1:¬i<b.ar.length:=by omega
  have h2:b.ar.drop i=[]:=ec;simp[h1,h2,nE]
 |k+1,i,hi=>by
  refine aK ?_;have h1:i<b.ar.length:=by omega
  obtain⟨w,hw⟩:=gE h1;have h2:=Qm hw;have h4:=cj h1;have h5:=bj hw;have ih:=P3 hf hl k (i+1) (by omega);have e1:(b.ar.take (i+1)).map bN.b=(b.ar.take i).map bN.b++[w.b]:=by rw[List.take_add_one,hw];simp
  rw[e1]at ih;rw[h5,nE];have hS:=λJ=>oH (J:=J) hf
  obtain⟨⟨s1,s2⟩,_⟩:=Cz hf;have w1:=bV (n:=b.f.size-1);have hsz:b.size=b.f.size:=rfl;rw[hsz]at ih ⊢;cases c1:bI w.b 0 (b.f.size-1)
  .simp[h1,h2,hS,w1,dD,c1,bN.ok]
  cases c2:bI w.h 0 3000
  .simp[h1,h2,hS,w1,dD,c1,c2,bN.ok]
  cases c3:bI w.m 0 1000000
  .simp[h1,h2,hS,w1,dD,c1,c2,c3,bN.ok]
  simp[h1,h2,hS,w1,dD,c1,c2,c3];refine WL.tg (TZ (w:=w) (by omega) h1 i 0 (by omega)) ?_;rintro x e J' ⟨rfl,h⟩;simp only[az]at h;cases hc:((b.ar.take i).map bN.b).contains w.b
  .rw[hc]at h;simp at h;obtain⟨rfl,g1,g3⟩:=h;simp[g1,g3,h4];have hc':¬w.b∈List.take i (List.map bN.b b.ar):=by simpa using hc
   refine WL.tg ih λx e J' hh=>?_
   simpa[bN.ok,c1,c2,c3,hc']using hh
  .rw[hc]at h;simp at h;have hc':w.b∈List.take i (List.map bN.b b.ar):=by simpa using hc
   simp[h,bN.ok,hc']
theorem TH{b:b9}(ht:b.dX.length<=9223372036854775807)(hw:b.ar.length<=9223372036854775807){wq:D}(hwq:wq.pO=lF b.ar bN.enc):Cl 90 [.agg [iI b.f.x,iI b.f.y,iI b.f.z,iI b.f.k,lF b.dX Rw.enc,iI b.cJ,iI b.lift,iI b.deep,wq]] (.bool b.valid) J:=by
 refine an ?_;have hT:=λJ=>PD (J:=J) ht
 have hF:=λJ=>Px (J:=J) (f:=b.f)
 unfold b9.valid b9.ok1;cases c1:b.f.valid
 .simp[hwq,hF,c1]
 by_cases c2:4<=b.f.k
 rotate_left
 .simp[hwq,hF,c1,c2,show b.f.k<4 by omega]
 have c2':¬b.f.k<4:=by omega
 cases c3:fP b.dX
 .simp[hwq,hF,hT,c1,c2,c2',c3]
 cases c4:bI b.cJ 1 100000
 .simp[hwq,hF,hT,dD,c1,c2,c2',c3,c4]
 cases c5:bI b.lift 0 1000
 .simp[hwq,hF,hT,dD,c1,c2,c2',c3,c4,c5]
 cases c6:bI b.deep 0 3000
 .simp[hwq,hF,hT,dD,c1,c2,c2',c3,c4,c5,c6]
 by_cases c7:b.ar.length<=8
 rotate_left
 .simp[hwq,hF,hT,dD,c1,c2,c2',c3,c4,c5,c6,c7,show(8:Int)<b.ar.length by omega]
 simp[hwq,hF,hT,dD,c1,c2',c3,c4,c5,c6,show ¬(8:Int)<b.ar.length by omega];refine WL.ts (P3 (J:=[]::J) c1 c7 b.ar.length 0 (by omega)) ?_;rintro x e J' ⟨rfl,h⟩;simp only[az,List.take_zero,cc]at h;cases hc:nE b.size [] b.ar
 .simp[hc]at h;simp[h,c2,c7]
 .simp[hc]at h;simp[h,c2,c7]
theorem aec{b:b9}(ht:b.dX.length<=9223372036854775807)(hw:b.ar.length<=9223372036854775807):Cl 90 [.agg (bL b)] (.bool b.valid) J:=TH ht hw Yy
theorem UL{l:List ck}{j:Nat}{m:ck}(h:l[j]?=some m):((fM l ck.enc).drop (j*2)).take 2=(mL m) :=
 bx (f:=ck.enc) (w:=2) h
theorem qT{b:b9}{m:ck}(h:Mv b m){k i:Nat}(hk:k<4)(hi:i<b.n):Cl 136 [.agg (bL b),.agg (mL m),iI k,iI i] (iI (jx b m k i)) J:=by
 refine an ?_;have hS:=λJ=>oH (J:=J) h.bv.fv
 have hsz:b.f.size=(b.n:Int):=h.bv.sz;rw[hsz]at hS;have hn:=h.bv.n;obtain⟨g1,g2⟩:=h.le;have hkn:k*b.n<=3*b.n:=dk _ (by omega);have hlt:k*b.n+i<m.dG.length:=by omega
 have w1:=bV (n:=(k:Int)*(b.n:Int)) (by rw[<- Int.natCast_mul];omega);have w2:=bV (n:=(k:Int)*(b.n:Int)+i) (by rw[<- Int.natCast_mul];omega);obtain⟨c,hc⟩:∃c,m.dG[k*b.n+i]?=some c:=⟨_,aE hlt⟩;have e1:jx b m k i=c:=by simp[jx,hc]
 have h2:=gi hc;have e2:(k:Int)*(b.n:Int)+(i:Int)=((k*b.n+i:Nat):Int):=by push_cast;rfl
 have⟨h3,h4⟩:((k*b.n+i:Nat):Int)<(m.dG.length:Int)/\(0:Int)<=((k*b.n+i:Nat):Int):=by omega
 rw[e2]at w2;rw[e1];generalize k*b.n+i=j at *
 simp[hS,w1,e2,w2,hlt,h2]
def Uy(b:b9)(m:ck)(i:Nat):Bool:=bI (jx b m 0 i) 1000 100000 && (bI (jx b m 1 i) 0 1000 && (bI (jx b m 2 i) 0 3000 && bI (jx b m 3 i) 0 1000))
def HG(b:b9)(m:ck)(i:Nat):Nat->Bool
 |0=>true
 |k+1=>Uy b m i && HG b m (i+1) k
theorem Ni{b:b9}{m:ck}:∀{k i:Nat},HG b m i k=true↔∀j,i<=j->j<i+k->Uy b m j=true
 |0,i=>by simp[HG];omega
 |k+1,i=>by
  rw[HG,af,Ni];constructor
  .intro⟨h1,h2⟩ j h3 h4;by_cases hj:j=i
   .subst hj;exact h1
   .exact h2 j (by omega) (by omega)
  .intro h;exact⟨h i (by omega) (by omega),λj h3 h4=>h j (by omega) (by omega)⟩
theorem Oj{b:b9}{m:ck}(h:Bv b):fX b.f [m]=0↔b.f.model m=0:=by
 simp only[fX,h.fv,if_true,dK.ai,dK.each];have h1:bI (([m]:List ck).length:Nat) 1 40=true:=by simp[bI]
 rw[if_pos h1];by_cases hc:b.f.model m=0
 .simp[hc]
 .simp[hc]
theorem Ox{b:b9}{m:ck}(h:Bv b):fits b m=(decide (b.f.model m=0) && HG b m 0 b.n):=by
 by_cases hc:b.f.model m=0
 .have hm:=Mv.of h ((Oj h).2 hc);have hcm:=(Oj h).2 hc;have key:∀{k:Nat} {lo hi:Int},k<4->(dz (wR b m k) (λn=>bI n lo hi)=true↔∀i,i<b.n->bI (jx b m k i) lo hi=true):=by
   intro k lo hi hk;rw[ff];constructor
   .intro ha i hi';exact ha _ (ah (zM hm hk hi'))
   .intro ha x hx;obtain⟨i,hi'⟩:=fW hx;have hlt:i<b.n:=by have:=(aA.1 hi').1;rwa[Ns hm hk]at this
    rw[zM hm hk hlt]at hi';cases hi';exact ha i hlt
  rw[Bool.eq_iff_iff];simp only[fits,hcm,hc,decide_true,Bool.true_and,af,Ni,Uy];rw[key (by decide),key (by decide),key (by decide),key (by decide)];constructor
  .intro⟨h1,h2,h3,h4⟩ j _ hj;exact⟨h1 j (by omega),h2 j (by omega),h3 j (by omega),h4 j (by omega)⟩
  .intro hh;exact⟨λi hi=>(hh i (by omega) (by omega)).1,λi hi=>(hh i (by omega) (by omega)).2.1,λi hi=>(hh i (by omega) (by omega)).2.2.1,λi hi=>(hh i (by omega) (by omega)).2.2.2⟩
 .have hcm:¬fX b.f [m]=0:=λhh=>hc ((Oj h).1 hh)
  simp[fits,hc,hcm]
theorem TU{b:b9}{m:ck}(h:Mv b m):∀(k i:Nat),i+k=b.n ->
  WL T [2,3,5] false xl [(2,.bq (bL b)),(3,.bq (mL m)),(5,iI i)] J
   (λx e J'=>J'=J/\if HG b m i k then x=.exit 0 else x=.ret/\get e 4=.bool false)
 |0,i,hi=>by
  refine aK ?_;have hS:=λJ=>oH (J:=J) h.bv.fv
  have hsz:b.f.size=(b.n:Int):=h.bv.sz;rw[hsz]at hS;have h1:¬i<b.n:=by omega
  simp[hS,h1,HG]
 |k+1,i,hi=>by
  refine aK ?_;have hS:=λJ=>oH (J:=J) h.bv.fv
  have hsz:b.f.size=(b.n:Int):=h.bv.sz;rw[hsz]at hS;have hn:=h.bv.n;have h1:i<b.n:=by omega
  have h4:=cj h1;have v0:=λJ=>qT (J:=J) h (k:=0) (i:=i) (by decide) h1
  have v1:=λJ=>qT (J:=J) h (k:=1) (i:=i) (by decide) h1
  have v2:=λJ=>qT (J:=J) h (k:=2) (i:=i) (by decide) h1
  have v3:=λJ=>qT (J:=J) h (k:=3) (i:=i) (by decide) h1
  simp only[show((0:Nat):Int)=0 from rfl,show((1:Nat):Int)=1 from rfl,show((2:Nat):Int)=2 from rfl,show((3:Nat):Int)=3 from rfl]at v0 v1 v2 v3;have ih:=TU h k (i+1) (by omega);rw[HG,Uy];cases c0:bI (jx b m 0 i) 1000 100000
  .simp[hS,h1,v0,dD,c0]
  cases c1:bI (jx b m 1 i) 0 1000
  .simp[hS,h1,v0,v1,dD,c0,c1]
  cases c2:bI (jx b m 2 i) 0 3000
  .simp[hS,h1,v0,v1,v2,dD,c0,c1,c2]
  cases c3:bI (jx b m 3 i) 0 1000
  .simp[hS,h1,v0,v1,v2,v3,dD,c0,c1,c2,c3]
  simp[hS,h1,h4,v0,v1,v2,v3,dD,c0,c1,c2,c3];exact WL.tg ih λx e J' hh=>by simpa using hh
theorem W8{b:b9}{m:ck}(h:Bv b)(hn:m.name.length<=9223372036854775807)(hl:m.dG.length<=9223372036854775807){wq:D}(hwq:wq.pO=lF b.ar bN.enc):Cl 94 [.agg [iI b.f.x,iI b.f.y,iI b.f.z,iI b.f.k,lF b.dX Rw.enc,iI b.cJ,iI b.lift,iI b.deep,wq],.agg (mL m)] (.bool (fits b m)) J:=by
 refine an ?_;have hM:=λJ=>Xc (J:=J) (m:=m) h.fv hn hl
 rw[Ox h];by_cases hc:b.f.model m=0
 .have hm:=Mv.of h ((Oj h).2 hc);simp[hwq,hM,hc];refine WL.ts (TU (J:=[]::J) hm b.n 0 (by omega)) ?_;rintro x e J' ⟨rfl,hh⟩;cases hf:HG b m 0 b.n
  .simp[hf]at hh;simp[hh,hc]
  .simp[hf]at hh;simp[hh,hc]
 .simp[hwq,hM,hc]
def Zl(b:b9)(l:List ck):Int:=if bI l.length 1 40 then(if b.f.ai l=0 then(if dz l (fits b)then 0 else 1)else 1)else 3
def ad1(b:b9)(l:List ck)(av:List (List Int)):Bool:=b.valid && (decide (l.length<=4) && (decide (Zl b l=0) && (decide (av.length<=6) && decide (sM b av=0))))
theorem O8(l:List Rw):(fM l Rw.enc).length=l.length*5:=dF (f:=Rw.enc) (w:=5) l
theorem yM(l:List bN):(fM l bN.enc).length=l.length*3:=dF (f:=bN.enc) (w:=3) l
theorem ach(l:List ck):(fM l ck.enc).length=l.length*2:=dF (f:=ck.enc) (w:=2) l
theorem YD(l:List ck):D.bh (fM l ck.enc)=true:=fD (λx=>by simp[D.clean,lO]) l
structure Ok(b:b9)(l:List ck)(av:List (List Int)):Prop where
 bv:Bv b
 valid:b.valid=true
 len:1<=l.length/\l.length<=40
 ai:b.f.ai l=0
 fit:∀m∈l,fits b m=true
 fv:∀m∈l,Fv b m
 short:∀m∈l,m.name.length<=1000000000/\m.dG.length<=384
 pl:sM b av=0
 Wu:av.length<=200
 aH:∀r∈av,Rv b r
theorem afB{b:b9}{m:ck}(h:Bv b)(hf:fits b m=true):m.name.length<=16:=by
 rw[Ox h,af,au]at hf;have hm:=hf.1;unfold dK.model at hm;split at hm
 .rename_i hn;simp only[named,af]at hn;have:=aS.1 hn.2;omega
 .cases hm
theorem Ok.of{b:b9}{l:List ck}{av:List (List Int)}(h:ad1 b l av=true):Ok b l av:=by
 simp only[ad1,af,au]at h;obtain⟨h1,h2,h3,h4,h5⟩:=h;have hb:=Bv.of h1;unfold Zl at h3;split at h3
 .rename_i hi;split at h3
  .rename_i hm;split at h3
   .rename_i hf;have hfit:∀m∈l,fits b m=true:=ff.1 hf;have hfv:∀m∈l,Fv b m:=λm hm=>Fv.of (by simp[Bd,h1,hfit m hm])
    exact⟨hb,h1,⟨by have:=aS.1 hi;omega,by omega⟩,hm,hfit,hfv,λm hm=>⟨by have:=afB hb (hfit m hm);omega,(hfv m hm).toMv.le.2⟩,h5,by omega,(kG h5).2⟩
   .cases h3
  .cases h3
 .cases h3
theorem Ok.check{b:b9}{l:List ck}{av:List (List Int)}(h:Ok b l av):fX b.f l=0:=by
 simp[fX,h.bv.fv,h.ai]
theorem XG{b:b9}{m:ck}(h:Bv b)(hn:m.name.length<=1000000000)(hl:m.dG.length<=1000000000):Cl 306 [.agg (mL m),.bq (bL b)] (.bool (fits b m)) J:=by
 refine an ?_;have hC:=λJ=>Sc (J:=J) (m:=m) h hn hl
 simp[hC]
theorem Sh{b:b9}{l:List ck}(h:Bv b)(hs:∀m∈l,m.name.length<=1000000000/\m.dG.length<=1000000000)(hl:l.length<=1000000000):
  Cl 305 [lF l ck.enc,.fn 306 [] [.bq (bL b)]] (.bool (dz l (fits b))) J :=
 CW (yR 2 ck.enc (λ_=>rfl)) (f:=305) (g:=342) (h:=341) (i:=366) (l:=l) (p:=fits b) rfl rfl rfl rfl (by omega) (om.fn λx hx J=>XG h (hs x hx).1 (hs x hx).2) rfl
theorem aa4{b:b9}{l:List ck}{av:List (List Int)}(h:Ok b l av):
  Cl 253 [.agg (bL b),lF l ck.enc,lF av J3] (iI 0) J:=by
 refine an ?_;have hs:∀m∈l,m.name.length<=1000000000/\m.dG.length<=1000000000:=λm hm=>⟨(h.short m hm).1,by have:=(h.short m hm).2;omega⟩
 have hl:=h.len;have htab:=h.bv.dX;have ht:b.dX.length<=1000000000:=by
  simp only[fP,af]at htab;have:=aS.1 htab.1;omega
 have h1:=λJ=>D9 (J:=J) (b:=b) ht (by have:=h.bv.ar;omega)
 have h2:=λJ=>FQ (J:=J) (f:=b.f) (l:=l) hs (by omega)
 have h3:=λJ=>Sh (J:=J) (l:=l) h.bv hs (by omega)
 have h4:=λJ=>XE (J:=J) (b:=b) (av:=av) (by have:=h.Wu;omega) (λr hr=>by have:=(h.aH r hr).len;have:=h.bv.ar;omega)
 have hi:bI l.length 1 40=true:=aS.2 (by omega);have ha:dz l (fits b)=true:=ff.2 h.fit;rw[h.valid]at h1;rw[h.check]at h2;rw[ha]at h3;rw[h.pl]at h4;simp[h1,h2,h3,h4,dY,hi]
abbrev RunT:=List (List aD.aF)×List (List aD.aF)
def GY(r:RunT):List D:=[lF r.1 kM,lF r.2 kM]
theorem Z1(l:List RunT):(fM l GY).length=l.length*2:=dF (f:=GY) (w:=2) l
def z7(b:b9)(av:List (List Int)):List ck->Option (List RunT)
 |[]=>some []
 |m::l=>match aD.run b m av with
  |some r=>(z7 b av l).map (r :: ·)
  |none=>none
def Rz(n:Nat)(acc:List RunT)(J:SK)(r:Option (List RunT))(x:aw.Exit)(e:Env)(J':SK):Prop:=match r with
 |some rs=>x=.exit 0/\get e 6=.sl J.length 0 n 0 n 2/\J'=[.cells n (fM (acc++rs) GY)]::J
 |none=>x=.fy (.ua 428 (.agg []))/\∃bC,J'=bC::J
theorem Sq{b:b9}{l:List ck}{av:List (List Int)}(h:Ok b l av):∀(k i:Nat) (acc:List RunT),i+k=l.length->acc.length=i ->
  WL T [2,3,6,9,10,11] false zr [(2,lF av J3),(3,.bq (bL b)),(6,.sl J.length 0 i 0 i 2),(9,lF l ck.enc),(10,iI l.length),(11,iI i)] ([.cells i (fM acc GY)]::J)
   (Rz l.length acc J (z7 b av (l.drop i)))
 |0,i,acc,hi,ha=>by
  refine aK ?_;obtain rfl:i=l.length:=by omega
  have h2:l.drop l.length=[]:=ec;simp[h2,z7,Rz]
 |k+1,i,acc,hi,ha=>by
  refine aK ?_;have h1:i<l.length:=by omega
  obtain⟨m,hm⟩:=gE h1;have hlen:=h.len;have h2:=UL hm;have h4:=cj h1;have h5:=bj hm;have hmem:=ah hm;have a4:=Z1 acc;rw[ha]at a4;have a6:(fM acc GY).take (i*2)=fM acc GY:=cZ;have h7:(i+1)*48<=room:=by unfold room;omega
  have hp:av.length<=200:=by have:=h.Wu;omega
  rw[h5,z7];cases hr:aD.run b m av with
  |none =>
   have hC:=λJ=>TP (J:=J) (h.fv m hmem) hp h.aH hr
   simp[h1,h2,hC,Rz]
  |some r =>
   obtain⟨ss,ys⟩:=r;have hC:=λJ hJ=>TQ (J:=J) (h.fv m hmem) hp h.aH hJ hr
   have ih:=Sq h k (i+1) (acc++[(ss,ys)]) (by omega) (by simp[ha]);simp[h1,h2,h4,hC,a4,a6,h7];refine WL.to ih (by simp) (by simp[GY]) λx e J' hh=>?_
   cases hq:z7 b av (l.drop (i+1))with
   |none=>rw[hq]at hh;simpa[Rz]using hh
   |some rs=>rw[hq]at hh;simpa[Rz]using hh
theorem XS{b:b9}{l:List ck}{av:List (List Int)}(h:Ok b l av)(hJ:J≠[]){rs:List RunT}(hr:z7 b av l=some rs)(hl:rs.length=l.length):
  Cl 255 [.agg (bL b),lF l ck.enc,lF av J3] (lF rs GY) J:=by
 refine an ?_;simp[];refine WL.ts (Sq (J:=J) h l.length 0 [] (by omega) rfl) ?_;rw[az,hr];rintro x e J' ⟨rfl,g6,rfl⟩;simp[g6];rw[<- hl,kb (f:=GY) (by decide) (λ_=>rfl) (λx=>by simp[GY,D.clean,adp]) hJ (by simp)];simp
theorem XR{b:b9}{l:List ck}{av:List (List Int)}(h:Ok b l av)(hr:z7 b av l=none):
  di T (.call false 255 [.agg (bL b),lF l ck.enc,lF av J3] J)=some (.fy (.ua 428 (.agg [])) J):=by
 refine ej rfl rfl rfl ?_;simp[];refine WL.ts (Sq (J:=J) h l.length 0 [] (by omega) rfl) ?_;rw[az,hr];rintro x e J' ⟨rfl,bC,rfl⟩;simp[D.clean]
theorem NJ{b:b9}{av:List (List Int)}:∀{l:List ck} {rs:List RunT},z7 b av l=some rs->rs.length=l.length/\∀(i:Nat) m,l[i]?=some m->∃r,rs[i]?=some r/\aD.run b m av=some r
 |[],rs,h=>by simp only[z7,ae]at h;subst h;simp
 |m::l,rs,h=>by
  simp only[z7]at h;cases hr:aD.run b m av with
  |none=>rw[hr]at h;cases h
  |some r =>
   rw[hr]at h;simp only[ad]at h;obtain⟨rs',h1,rfl⟩:=h;obtain⟨g1,g2⟩:=NJ h1;refine⟨by simp[g1],?_⟩;intro i m' hm';cases i with
   |zero=>simp only[c9,ae]at hm';subst hm';exact⟨r,rfl,hr⟩
   |succ i=>simpa using g2 i m' (by simpa using hm')
theorem abo{x:aD.aF}:Cl 345 [.agg x.enc] (iI x.m) J:=by
 refine an ?_;simp
theorem XZ{x:aD.aF}:Cl 347 [.agg x.enc] (iI x.k) J:=by
 refine an ?_;simp
def rowAt(l:List (List aD.aF))(t:Nat):List aD.aF:=(l[t]?).getD []
structure Rs(b:b9)(l:List ck)(n:Nat)(rs:List RunT):Prop where
 len:rs.length=l.length
 ne:1<=l.length/\l.length<=40
 n6:n<=200
 ar:b.ar.length<=8
 bn:1<=b.n/\b.n<=64
 all:∀r∈rs,MZ b n r.1 r.2
 fv:∀m∈l,Fv b m
theorem Ro{b:b9}{n:Nat}{r:RunT}(h:MZ b n r.1 r.2){t:Nat}(ht:t<n):r.2[t]?=some (rowAt r.2 t)/\Yv b (rowAt r.2 t):=by
 have h1:t<r.2.length:=by rw[h.yl];exact ht
 have h2:r.2[t]?=some r.2[t]:=aE h1;have h3:rowAt r.2 t=r.2[t]:=by simp[rowAt,h2]
 rw[h3];exact⟨h2,h.yv _ (List.getElem_mem h1)⟩
theorem ZW{b:b9}{n:Nat}{r:RunT}(h:MZ b n r.1 r.2){t:Nat}(ht:t<=n):r.1[t]?=some (rowAt r.1 t)/\Sv b (rowAt r.1 t):=by
 have h1:t<r.1.length:=by rw[h.sl];omega
 have h2:r.1[t]?=some r.1[t]:=aE h1;have h3:rowAt r.1 t=r.1[t]:=by simp[rowAt,h2]
 rw[h3];exact⟨h2,h.sv _ (List.getElem_mem h1)⟩
theorem Vi{b:b9}{y:List aD.aF}(h:Yv b y){w:Nat}(hw:w<b.ar.length):y[w]?=some (aR y w):=by
 have h1:w<y.length:=by rw[h.len];exact hw
 simp[aR,aE h1]
theorem aad{l:List (List aD.aF)}{t:Nat}{s:List aD.aF}(h:l[t]?=some s):((fM l kM).drop t).take 1=[lF s aF.enc]:=by
 have:=bx (f:=kM) (w:=1) h;simpa[kM]using this
theorem acK{l:List RunT}{j:Nat}{r:RunT}(h:l[j]?=some r):((fM l GY).drop (j*2)).take 2=[lF r.1 kM,lF r.2 kM] :=
 bx (f:=GY) (w:=2) h
end
end Go.Proofs.YtpapbbojmclkgaaGreatDoor
namespace Go.aD
open Go Go.aw
def three:List Rw:=[⟨100,101,419,2676,150⟩,⟨150,476,632,2746,300⟩,⟨200,1555,852,2793,600⟩]
end Go.aD
namespace Go.Proofs.YtpapbbojmclkgaaGreatDoor
section
open Go Go.aw Go.aD
variable {J:SK}
theorem Rs.of{b:b9}{l:List ck}{av:List (List Int)}(h:Ok b l av){rs:List RunT}(hr:z7 b av l=some rs):Rs b l av.length rs:=by
 obtain⟨h1,h2⟩:=NJ hr;refine⟨h1,h.len,h.Wu,h.bv.ar,h.bv.n,?_,h.fv⟩;intro r hmem;obtain⟨i,hi⟩:=fW hmem;have hlt:i<l.length:=by rw[<- h1];exact(aA.1 hi).1
 obtain⟨m,hm⟩:=gE hlt;obtain⟨r',h3,h4⟩:=h2 i m hm;rw[hi]at h3;cases h3;exact MZ.of (h.fv m (ah hm)) h.aH h4
theorem YX{l u n w:Nat}{k:Int}{S S':SK}{cs:List D}{i:Nat}(h:cK l 15 (.sl u i n 0 n w) S=(.bZ n cs,S')):cK l 16 (.cS [.sl u i n 0 n w,iI k]) S=(.cS [.bZ n cs,iI k],S'):=by
 rw[pw (by rfl) (by omega)];simp only[jD,kq];rw[h,eV (by rfl) (by omega)]
end
section
open Go Go.aw Go.cY
variable {J:SK}
theorem Og(l:List UInt8):fM l bE=l.map λb=>D.int .u8 b.toNat:=by
 induction l with
 |nil=>rfl
 |cons b l ih=>simp only[cT,aL,ih];rfl
theorem Uq(l:List UInt8)(k:Nat):(fM l bE).drop k=fM (l.drop k) bE:=by rw[Og,Og,List.map_drop]
theorem Ur(l:List UInt8)(k:Nat):(fM l bE).take k=fM (l.take k) bE:=by rw[Og,Og,List.map_take]
theorem G8:∀l:List UInt8,yN (fM l bE)=some l
 |[]=>rfl
 |b::l=>by
  simp only[cT,bE,cm,yN,G8 l,aZ,ae,fN,and_true];simp
theorem T2{a b:List UInt8}(hab:a.length=b.length)(hl:a.length<=1000000):∀(m i:Nat),i+m=a.length ->
  WL T [0,1,12,13] false ni [(0,lF a bE),(1,lF b bE),(12,iI a.length),(13,iI i)] J
   (λx e J'=>J'=J/\if a.drop i=b.drop i then x=.exit 0 else x=.ret/\get e 4=.bool false)
 |0,i,hi=>by
  refine aK ?_;have h1:¬i<a.length:=by omega
  have h2:a.drop i=[]:=ec;have h3:b.drop i=[]:=ec;simp[h1,h2,h3]
 |m+1,i,hi=>by
  refine aK ?_;have⟨h1,h1'⟩:i<a.length/\i<b.length:=by omega
  obtain⟨x,hx⟩:=gE h1;obtain⟨y,hy⟩:=gE h1';have a1:=Qk hx;have a2:=Qk hy;have h4:=cj h1;rw[bj hx,bj hy];by_cases hc:x=y
  .subst hc;simp[h1,h1',a1,a2,h4];exact WL.tg (T2 hab hl m (i+1) (by omega)) λx e J' hh=>by simpa using hh
  .have hc':((x.toNat:Int) != y.toNat)=true:=by
    simp only[bne_iff_ne,ne_eq];intro h;exact hc (UInt8.toNat_inj.1 (by omega))
   simp[h1,h1',a1,a2,hc,hc']
theorem aaL{a b:List UInt8}(hl:a.length<=1000000):Cl 124 [lF a bE,lF b bE] (.bool (a == b)) J:=by
 refine an ?_;by_cases h:a.length=b.length
 .have h':(a.length:Int)=b.length:=by omega
  simp[h];refine WL.to (T2 (J:=[]::J) h hl a.length 0 (by omega)) (by simp[h]) rfl ?_;rintro x e J' ⟨rfl,hh⟩;simp only[az]at hh;by_cases he:a=b
  .rw[if_pos he]at hh;subst hh;simp[he]
  .rw[if_neg he]at hh;obtain⟨rfl,g4⟩:=hh;have he':(a == b)=false:=by simpa using he
   simp[g4,he']
 .have h1:((a.length:Int) != b.length)=true:=by simp;omega
  have he:(a == b)=false:=by simp;intro hh;exact h (by rw[hh])
  simp[h1,he]
theorem VH{b:List UInt8}:Cl 83 [lF b bE] (.fn 123 [] [.bq [lF b bE]]) J:=by
 refine an ?_;simp[Uu]
theorem ZC{x y:Nat}(hx:x<256)(hy:y<256):IntKind.i64.wrap (((((x:Int)*256)%2^IntKind.i64.bits).toNat ||| y%2^IntKind.i64.bits:Nat):Int)=((x*256+y:Nat):Int):=by
 have h1:(((x:Int)*256)%2^IntKind.i64.bits).toNat=x*256:=by
  rw[show(2:Int)^IntKind.i64.bits=18446744073709551616 from by decide];omega
 have h2:y%2^IntKind.i64.bits=y:=by
  rw[show 2^IntKind.i64.bits=18446744073709551616 from by decide];omega
 have h3:x*256 ||| y=x*256+y:=by
  have:=Nat.two_pow_add_eq_or_of_lt (i:=8) (b:=y) hy x;rw[show x*256=2^8*x by omega,<- this]
 rw[h1,h2,h3];exact bV
def Ps(L:Nat)(p:Bool):xd:={state:=if p then 2 else 0,xC:=if p then some (.exit 0)else none,env:=[(2,.ref L 1 0 0),(3,.ref L 2 0 0)],params:=[8,9],BY:=fg,body:=fh }
def JV(J:SK)(ls:List (List UInt8))(w:Int)(p:Bool):SK :=
 [.cells ls.length (fM ls bD),.cells 0 [.sl J.length 0 ls.length 0 ls.length 1],.cells 0 [iI w],.loop (Ps J.length p)]::J
theorem ahY{ls:List (List UInt8)}{w k:Int}{s:List UInt8}(hl:ls.length<100):
  di T (.round J.length 3 [iI k,.str s] ([]::JV J ls w false))=some (.val (.bool true) ([]::JV J (ls++[s]) k false)):=by
 refine H7 (lp:=Ps J.length false) (by simp[JV]) rfl ?_;rw[show(Ps J.length false).BY=fg from rfl,fg.eq_1,show(Ps J.length false).body=fh from rfl];have h1:((ls.length:Int) == 100)=false:=by simp;omega
 have hr:(ls.length+1)*16<=room:=by unfold room;omega
 have hsl:(fM ls bD).length=ls.length:=by have:=dF (f:=bD) (w:=1) ls;omega
 have tk:(fM ls bD).take ls.length=fM ls bD:=cZ;simp[yK fh.eq_1,Ps,JV,Q9,h1,hr,hsl,tk,bD]
theorem abz{ls:List (List UInt8)}{w k:Int}{s:List UInt8}(hl:ls.length=100):
  di T (.round J.length 3 [iI k,.str s] ([]::JV J ls w false))=some (.val (.bool false) ([]::JV J ls w true)):=by
 refine H7 (lp:=Ps J.length false) (by simp[JV]) rfl ?_;rw[show(Ps J.length false).BY=fg from rfl,fg.eq_1,show(Ps J.length false).body=fh from rfl];simp[yK fh.eq_1,Ps,JV,Q9,hl]
theorem Ii{t:List UInt8}(h:t.length<6):wX t=none:=by
 unfold wX;split
 .rw[if_neg (by omega)]
 .rfl
theorem rz{n:Nat}{t:List UInt8}(h:wX t=none):cI n t=[]:=by
 cases n with
 |zero=>rfl
 |succ n=>simp[cI,h]
def S9(J:SK)(ls more:List (List UInt8))(k:Nat)(x:aw.Exit)(J':SK):Prop :=
 (x=.exit 0\/x=.ret)/\∃p,J'=[]::JV J (ls++more) (k+(cU more).length:Nat) p
set_option maxHeartbeats 2000000 in
theorem aeQ{b:List UInt8}(hb:b.length<=1000000):∀(m k:Nat) (ls:List (List UInt8)),(b.drop k).length<=m->k<=b.length->ls.length<=100 ->
  WL T [0,1,3] false jV [(0,.jg J.length 3),(1,.bq [lF b bE]),(3,iI k)] ([]::JV J ls k false)
   (λx e J'=>S9 J ls (cI (100-ls.length) (b.drop k)) k x J'):=by
 intro m;induction m with
 |zero =>
  intro k ls hm hk hl;refine aK ?_;have h1:(b.length:Int)-k<6:=by simp at hm;omega
  have w1:=bV (n:=(b.length:Int)-k);have h1':¬(6:Int)<=(b.length:Int)-k:=by omega
  have hs:=rz (n:=100-ls.length) (Ii (t:=b.drop k) (by omega));rw[hs];simp[w1,h1',S9,cU]
 |succ m ih =>
  intro k ls hm hk hl;refine aK ?_;have w1:=bV (n:=(b.length:Int)-k);by_cases c1:6<=b.length-k
  .have⟨h1,hk0,hk1⟩:(6:Int)<=(b.length:Int)-k/\k<b.length/\k+1<b.length:=by omega
   obtain⟨x,hx⟩:=gE hk0;obtain⟨y,hy⟩:∃y,b[k+1]?=some y:=⟨_,aE hk1⟩;have a1:=Qk hx;have a2:=Qk hy;have hdr:b.drop k=x::y::b.drop (k+2):=by rw[bj hx,bj hy]
   have v1:IntKind.i64.wrap (x.toNat:Int)=x.toNat:=bV (by have:=Ec x;omega);have v2:IntKind.i64.wrap (y.toNat:Int)=y.toNat:=bV (by have:=Ec y;omega);have e8:(2:Int)^min 8 IntKind.i64.bits=256:=by decide
   have v3:IntKind.i64.wrap ((x.toNat:Int)*256)=x.toNat*256:=bV (by have:=Ec x;omega);have v4:=ZC (Ec x) (Ec y);have hxl:=Ec x;have hyl:=Ec y;obtain⟨n,hn⟩:∃n,n=x.toNat*256+y.toNat:=⟨_,rfl⟩;rw[<- hn]at v4;have hnl:n<=65535:=by omega
   have u1:=bV (n:=(k:Int)+1);have u2:=bV (n:=(k:Int)+4);have u3:=bV (n:=(k:Int)+4+n);have u4:=bV (n:=(k:Int)+4+n+2);have u5:IntKind.i64.wrap ((k:Int)+4+n+2-2)=k+4+n:=(bV).trans (by omega);have⟨t1,z1,z2⟩:((k:Int)+1).toNat=k+1/\0<=(k:Int)+1/\(k:Int)+1<b.length:=by omega
   have hdl:(b.drop k).length=b.length-k:=by simp
   have hstep:wX (b.drop k)=if n<=4000/\n+6<=b.length-k then(if iG ((b.drop (k+4)).take n)=(b.drop k).take (n+6)then some ((b.drop (k+4)).take n,b.drop (k+n+6))else none)else none:=by
    have e4:(b.drop k).drop 4=b.drop (k+4):=by rw[cC]
    have e5:(b.drop k).drop (n+6)=b.drop (k+n+6):=by rw[cC];congr 1
    unfold wX;split
    .rename_i x' y' r' hq;rw[hdr]at hq;cases hq;rw[<- hn,hdl,e4,e5];by_cases hc:n<=4000/\n+6<=b.length-k
     .rw[if_pos hc,if_pos ⟨c1,hc⟩]
     .rw[if_neg hc,if_neg (λh=>hc h.2)]
    .rename_i hno;exact absurd hdr (hno _ _ _)
   by_cases c2:n<=4000
   .have⟨c2',c2''⟩:¬(4000:Int)<n/\(n:Int)<=4000:=by omega
    by_cases c3:n+6<=b.length-k
    .have c3':¬(b.length:Int)<(k:Int)+4+n+2:=by omega
     rw[if_pos ⟨c2,c3⟩]at hstep;have⟨s1,s2,s3,s4,s5,s6⟩:((k:Int)+4).toNat=k+4/\((k:Int)+4+n).toNat=k+4+n/\((k:Int)+4+n+2).toNat=k+4+n+2/\(0:Int)<=(k:Int)+4/\(k:Int)+4<=(k:Int)+4+n/\(k:Int)+4+n<=b.length:=by omega
     have⟨s7,s8,s9,s10,d1,d2⟩:(k:Int)<=(k:Int)+4+n+2/\(k:Int)+4+n+2<=b.length/\(0:Int)<=(k:Int)+4+n/\(0:Int)<=(k:Int)+4+n+2/\k+4+n-(k+4)=n/\k+4+n+2-k=n+6:=by omega
     have d3:k<=k+4+n+2:=by omega
     obtain⟨line,hline⟩:∃l,l=(b.drop (k+4)).take n:=⟨_,rfl⟩;rw[<- hline]at hstep;have hll:line.length=n:=by rw[hline];simp;omega
     have g1:((fM b bE).drop (k+4)).take n=fM line bE:=by rw[Uq,Ur,hline]
     have g2:((fM b bE).drop k).take (n+6)=fM ((b.drop k).take (n+6)) bE:=by rw[Uq,Ur]
     have gl:((b.drop k).take (n+6)).length=n+6:=by simp;omega
     have g3:elems ([]::JV J ls k false) 1 (.bZ n (fM line bE))=some (n,fM line bE):=by rw[V1,if_pos (by rw[Br,hll];omega)]
     have g4:=G8 line;have hC:=λS hS=>PO (J:=S) (s:=line) (by omega) hS
     have hE:=λS=>aaL (J:=S) (a:=iG line) (b:=(b.drop k).take (n+6)) (by rw[pg];omega)
     try simp only[lF,Cl]at hE
     rw[gl]at hE;by_cases c4:iG line=(b.drop k).take (n+6)
     .rw[if_pos c4]at hstep;have c4':(iG line == (b.drop k).take (n+6))=true:=by simpa using c4
      simp only[c4']at hE;by_cases c5:ls.length=100
      .have hR:=abz (J:=J) (w:=k) (k:=(k:Int)+4+n+2) (s:=line) c5;have hz:cI (100-ls.length) (b.drop k)=[]:=by rw[c5];rfl
       rw[hz];simp[w1,h1,a1,a2,hk0,u1,u2,u3,u4,t1,z1,z2,v1,v2,e8,v3,v4,c2',c3',s1,s2,s3,s4,s5,s6,s8,s9,s10,d1,d2,d3,g1,g2,Pv,g3,g4,hC,hE,hR,S9,cU]
      .have hR:=ahY (J:=J) (ls:=ls) (w:=k) (k:=(k:Int)+4+n+2) (s:=line) (by omega);have hz:cI (100-ls.length) (b.drop k)=line::cI (100-(ls++[line]).length) (b.drop (k+n+6)):=by
        have hx:100-ls.length=(100-(ls++[line]).length)+1:=by simp;omega
        rw[hx,cI,hstep]
       rw[hz];have ih':=ih (k+n+6) (ls++[line]) (by simp;omega) (by omega) (by simp;omega);have ek:((k+n+6:Nat):Int)=(k:Int)+4+n+2:=by omega
       rw[ek]at ih';simp[w1,h1,a1,a2,hk0,u1,u2,u3,u4,t1,z1,z2,v1,v2,e8,v3,v4,c2',c3',s1,s2,s3,s4,s5,s6,s8,s9,s10,d1,d2,d3,g1,g2,Pv,g3,g4,hC,hE,hR];refine WL.tg ih' λx e J' hh=>?_
       generalize cI (100-(ls++[line]).length) (b.drop (k+n+6))=more at hh ⊢;obtain⟨hh1,p,hh2⟩:=hh;refine⟨hh1,p,?_⟩;rw[hh2];have e1:k+n+6+(cU more).length=k+(cU (line::more)).length:=by
        simp only[cU,cT,aP,pg,hll];omega
       rw[e1];simp
     .rw[if_neg c4]at hstep;rw[rz hstep];have c4':(iG line == (b.drop k).take (n+6))=false:=by simpa using c4
      rw[c4']at hE;simp[w1,h1,a1,a2,hk0,u1,u2,u3,u4,t1,z1,z2,v1,v2,e8,v3,v4,c2',c3',s1,s2,s3,s4,s5,s6,s8,s9,s10,d1,d2,d3,g1,g2,Pv,g3,g4,hC,hE,S9,cU]
      trace_state
    .have c3':(b.length:Int)<(k:Int)+4+n+2:=by omega
     rw[if_neg (λh=>c3 h.2)]at hstep;rw[rz hstep];simp[w1,h1,a1,a2,hk0,u1,u2,u3,u4,t1,z1,z2,v1,v2,e8,v3,v4,c2',c3',S9,cU]
   .have⟨c2',c2''⟩:(4000:Int)<n/\¬(n:Int)<=4000:=by omega
    rw[if_neg (λh=>c2 h.1)]at hstep;rw[rz hstep];simp[w1,h1,a1,a2,hk0,u1,u2,u3,u4,t1,z1,z2,v1,v2,e8,v3,v4,c2',S9,cU]
  .have h1':¬(6:Int)<=(b.length:Int)-k:=by omega
   have hs:=rz (n:=100-ls.length) (Ii (t:=b.drop k) (by simp;omega));rw[hs];simp[w1,h1',S9,cU]
theorem Si{b:List UInt8}(hb:b.length<=1000000):∃p,di T (.call false 123 [.jg J.length 3,.bq [lF b bE]] (JV J [] 0 false))=some (.val (.cS []) (JV J (cI 100 b) (cU (cI 100 b)).length p)):=by
 have h:=aeQ (J:=J) hb b.length 0 [] (by simp) (by omega) (by simp);obtain⟨x,e,J',h1,hx,p,rfl⟩:=h;refine⟨p,?_⟩;refine eZ rfl rfl rfl (by simp[JV]) ?_;simp;refine⟨_,_,_,by simpa using h1,?_⟩;rcases hx with rfl | rfl<;>simp
end
section
open Go Go.aw Go.aD Go.cY
variable {J:SK}
def A8(p:Wd×List UInt8×List Int):D:=.cS [.agg (R0 p.1),.str p.2.1,lF p.2.2 aQ]
theorem Kl{a:List D}(ha:D.bh a=true){name:List UInt8}{v:Nat}{ns:List Int}{M:aw.aF}(hJ:J≠[]):
  cK (J.length-1) 16 (.cS [.agg a,.str name,.sl J.length 0 v 0 ns.length 1]) ([.cells v (fM ns aQ),M]::J)=(.cS [.agg a,.str name,lF ns aQ],[.dead,M]::J):=by
 have h3:¬J.length<=J.length-1:=by have:=aG.2 hJ;omega
 rw[pw (by simp[D.bh,D.clean]) (by omega)];have h4:=eV (l:=J.length-1) (n:=15) (d:=.agg a) (J:=[aw.aF.cells v (fM ns aQ),M]::J) (by simp[D.clean,ha]) (by omega);have h5:=eV (l:=J.length-1) (n:=15) (d:=.str name) (J:=[aw.aF.cells v (fM ns aQ),M]::J) (by simp[D.clean]) (by omega);have h6:=GI (l:=J.length-1) (n:=15) (l':=J.length) (i:=0) (v:=v) (off:=0) (m:=ns.length) (w:=1) (J:=[aw.aF.cells v (fM ns aQ),M]::J) (cs:=fM ns aQ) h3 (by simp) (by omega);have ht:(fM ns aQ).take ns.length=fM ns aQ:=by have:=OG (f:=aQ) (w:=1) (λ_=>rfl) ns;rwa[bR]at this
 simp only[Nat.reduceSub,cK.frzL,h4,h5,h6];simp[ht,fD (f:=aQ) (λ_=>by simp[D.clean]) ns]
theorem VC{s:List UInt8}(hl:s.length<=1000000){a:List UInt8}{all:List (List UInt8)}(h:dB 32 s=a::all)(hs:∀x∈all,x.length<=1000000)(hl2:all.length<=1000001){w:Wd}(hw:yj a=some w)(hn:w.named=false)(hJ:J≠[]){p:Wd×List UInt8×List Int}(hp:qQ w [] all=some p):
  Cl 85 [.str s] (A8 p) J:=by
 refine an ?_;have hW:=Ff (bs:=[.cells 0 []]) (J:=J);have hG:=V8 (S:=[aw.aF.cells 0 [],.cells 0 (iZ lM)]::J) (l:=J.length) (i:=1) (s:=a) (by simp);rw[hw]at hG;obtain⟨w1,w2,w3,w4,w5⟩:=Ir hw;have hL:=KN (J:=J) (cs:=R0 w) (name:=[]) (M:=.cells 0 (iZ lM)) hs hl2 all.length 0 [] (by omega) rfl;unfold qQ at hp;cases hm:mg all with
 |none=>rw[hm]at hp;cases hp
 |some ns =>
 rw[hm]at hp;simp only[aI,ae]at hp;obtain⟨hf,rfl⟩:=hp;have hlen:=CB hm;simp only[GG,cq,af,au]at hf;have e1:=bV (n:=(ns.length:Int)-w.least);rw[az,hm]at hL;have q1:(1:Int)<=(all.length:Int)+1:=by omega
 have q2:(fM all bD).take all.length=fM all bD:=aW (by rw[nL (f:=bD) (w:=1) (λ_=>rfl)];omega);simp[Fc hl,h,hW,hG,da,gN,hn,Ks,q1,q2];refine WL.to hL (by simp[gN,hn]) (by simp) ?_;rintro x e J' ⟨rfl,g2,g3,g4,rfl⟩;have hz:D.bh (R0 w)=true:=by simp[R0,D.clean]
 rcases hf with c1 | ⟨c1,c2,c3⟩
 .simp[g2,g3,g4,gN,c1,da,A8];exact⟨_,Kl (by simp[D.clean]) hJ⟩
 .have⟨c0,c4,c5⟩:¬(ns.length:Int)-w.least=0/\¬w.step=0/\w.least<(ns.length:Int):=by omega
  simp[g2,g3,g4,gN,e1,c0,c5,c2,c3,c4,da,A8];exact⟨_,Kl (by simp[D.clean]) hJ⟩
theorem PK{s:List UInt8}(hl:s.length<=1000000){a:List UInt8}{all:List (List UInt8)}(h:dB 32 s=a::all)(hs:∀x∈all,x.length<=1000000)(hl2:all.length<=1000001){w:Wd}(hw:yj a=some w)(hn:w.named=false)(hp:qQ w [] all=none):
  di T (.call false 85 [.str s] J)=some (.fy (rf 4) J):=by
 refine ej rfl rfl rfl ?_;have hW:=Ff (bs:=[.cells 0 []]) (J:=J);have hG:=V8 (S:=[aw.aF.cells 0 [],.cells 0 (iZ lM)]::J) (l:=J.length) (i:=1) (s:=a) (by simp);rw[hw]at hG;obtain⟨w1,w2,w3,w4,w5⟩:=Ir hw;have hL:=KN (J:=J) (cs:=R0 w) (name:=[]) (M:=.cells 0 (iZ lM)) hs hl2 all.length 0 [] (by omega) rfl;have q1:(1:Int)<=(all.length:Int)+1:=by omega
 have q2:(fM all bD).take all.length=fM all bD:=aW (by rw[nL (f:=bD) (w:=1) (λ_=>rfl)];omega);rw[az]at hL;simp[Fc hl,h,hW,hG,da,gN,hn,Ks,q1,q2];refine WL.to hL (by simp[gN,hn]) (by simp) ?_;unfold qQ at hp;cases hm:mg all with
 |none =>
  rintro x e J' ⟨rfl,bC,rfl⟩;simp[D.clean,rf]
 |some ns =>
 rw[hm]at hp;simp only[ite_eq_right_iff,reduceCtorEq,imp_false]at hp;rintro x e J' ⟨rfl,g2,g3,g4,rfl⟩;have hlen:=CB hm;have e1:=bV (n:=(ns.length:Int)-w.least);simp only[GG,cq,af,au]at hp;have c0:¬(ns.length:Int)-w.least=0:=λhh=>hp (.inl hh)
 by_cases c1:w.least<(ns.length:Int)
 .by_cases c2:0<w.step
  .have c3:¬((ns.length:Int)-w.least).tmod w.step=0:=λhh=>hp (.inr ⟨by omega,c2,hh⟩)
   have c4:¬w.step=0:=by omega
   have c3':(((ns.length:Int)-w.least).tmod w.step == 0)=false:=by simpa using c3
   have c0':((ns.length:Int)-w.least == 0)=false:=by simpa using c0
   simp[g2,g3,g4,gN,e1,c0',c1,c2,c3',c4,dU,D.clean,rf]
  .simp[g2,g3,g4,gN,e1,c0,c1,c2,dU,D.clean,rf]
 .simp[g2,g3,g4,gN,e1,c0,c1,dU,D.clean,rf]
theorem Sf{s:List UInt8}(hl:s.length<=1000000){a:List UInt8}(h:dB 32 s=[a]){w:Wd}(hw:yj a=some w)(hn:w.named=true):
  di T (.call false 85 [.str s] J)=some (.fy (rf 4) J):=by
 refine ej rfl rfl rfl ?_;have hW:=Ff (bs:=[.cells 0 []]) (J:=J);have hG:=V8 (S:=[aw.aF.cells 0 [],.cells 0 (iZ lM)]::J) (l:=J.length) (i:=1) (s:=a) (by simp);rw[hw]at hG;obtain⟨w1,w2,w3,w4,w5⟩:=Ir hw;simp[Fc hl,h,hW,hG,da,dU,gN,hn,D.clean,rf]
theorem VD{s:List UInt8}(hl:s.length<=1000000){a n:List UInt8}{r:List (List UInt8)}(h:dB 32 s=a::n::r)(hs:∀x∈r,x.length<=1000000)(hl2:r.length<=1000001){w:Wd}(hw:yj a=some w)(hn:w.named=true)(hJ:J≠[]){p:Wd×List UInt8×List Int}(hp:qQ w n r=some p):
  Cl 85 [.str s] (A8 p) J:=by
 refine an ?_;have hW:=Ff (bs:=[.cells 0 []]) (J:=J);have hG:=V8 (S:=[aw.aF.cells 0 [],.cells 0 (iZ lM)]::J) (l:=J.length) (i:=1) (s:=a) (by simp);rw[hw]at hG;obtain⟨w1,w2,w3,w4,w5⟩:=Ir hw;have hL:=KN (J:=J) (cs:=R0 w) (name:=n) (M:=.cells 0 (iZ lM)) hs hl2 r.length 0 [] (by omega) rfl;have q1:(1:Int)<=(r.length:Int)+1:=by omega
 have q2:(fM r bD).take r.length=fM r bD:=aW (by rw[nL (f:=bD) (w:=1) (λ_=>rfl)];omega);have⟨q3,q4,q6⟩:(1:Int)<=(r.length:Int)+1+1/\(0:Int)<(r.length:Int)+1/\(0:Int)<(r.length:Int)+1+1:=by omega
 have q5:(fM r bD).take (r.length+1)=fM r bD:=aW (by rw[nL (f:=bD) (w:=1) (λ_=>rfl)];omega);unfold qQ at hp;cases hm:mg r with
 |none=>rw[hm]at hp;cases hp
 |some ns =>
 rw[hm]at hp;simp only[aI,ae]at hp;obtain⟨hf,rfl⟩:=hp;have hlen:=CB hm;simp only[GG,cq,af,au]at hf;have e1:=bV (n:=(ns.length:Int)-w.least);rw[az,hm]at hL;simp[Fc hl,h,hW,hG,da,gN,hn,Ks,q1,q2,q3,q4,q6];refine WL.to hL (by simp[gN,hn]) (by simp) ?_;rintro x e J' ⟨rfl,g2,g3,g4,rfl⟩;rcases hf with c1 | ⟨c1,c2,c3⟩
 .simp[g2,g3,g4,gN,c1,da,A8];exact⟨_,Kl (by simp[D.clean]) hJ⟩
 .have⟨c0,c4,c5⟩:¬(ns.length:Int)-w.least=0/\¬w.step=0/\w.least<(ns.length:Int):=by omega
  simp[g2,g3,g4,gN,e1,c0,c5,c2,c3,c4,da,A8];exact⟨_,Kl (by simp[D.clean]) hJ⟩
theorem PL{s:List UInt8}(hl:s.length<=1000000){a n:List UInt8}{r:List (List UInt8)}(h:dB 32 s=a::n::r)(hs:∀x∈r,x.length<=1000000)(hl2:r.length<=1000001){w:Wd}(hw:yj a=some w)(hn:w.named=true)(hp:qQ w n r=none):
  di T (.call false 85 [.str s] J)=some (.fy (rf 4) J):=by
 refine ej rfl rfl rfl ?_;have hW:=Ff (bs:=[.cells 0 []]) (J:=J);have hG:=V8 (S:=[aw.aF.cells 0 [],.cells 0 (iZ lM)]::J) (l:=J.length) (i:=1) (s:=a) (by simp);rw[hw]at hG;obtain⟨w1,w2,w3,w4,w5⟩:=Ir hw;have hL:=KN (J:=J) (cs:=R0 w) (name:=n) (M:=.cells 0 (iZ lM)) hs hl2 r.length 0 [] (by omega) rfl;have q1:(1:Int)<=(r.length:Int)+1:=by omega
 have q2:(fM r bD).take r.length=fM r bD:=aW (by rw[nL (f:=bD) (w:=1) (λ_=>rfl)];omega);have⟨q3,q4,q6⟩:(1:Int)<=(r.length:Int)+1+1/\(0:Int)<(r.length:Int)+1/\(0:Int)<(r.length:Int)+1+1:=by omega
 have q5:(fM r bD).take (r.length+1)=fM r bD:=aW (by rw[nL (f:=bD) (w:=1) (λ_=>rfl)];omega);rw[az]at hL;simp[Fc hl,h,hW,hG,da,gN,hn,Ks,q1,q2,q3,q4,q6];refine WL.to hL (by simp[gN,hn]) (by simp) ?_;unfold qQ at hp;cases hm:mg r with
 |none =>
  rintro x e J' ⟨rfl,bC,rfl⟩;simp[D.clean,rf]
 |some ns =>
 rw[hm]at hp;simp only[ite_eq_right_iff,reduceCtorEq,imp_false]at hp;rintro x e J' ⟨rfl,g2,g3,g4,rfl⟩;have hlen:=CB hm;have e1:=bV (n:=(ns.length:Int)-w.least);simp only[GG,cq,af,au]at hp;have c0:¬(ns.length:Int)-w.least=0:=λhh=>hp (.inl hh)
 by_cases c1:w.least<(ns.length:Int)
 .by_cases c2:0<w.step
  .have c3:¬((ns.length:Int)-w.least).tmod w.step=0:=λhh=>hp (.inr ⟨by omega,c2,hh⟩)
   have c4:¬w.step=0:=by omega
   have c3':(((ns.length:Int)-w.least).tmod w.step == 0)=false:=by simpa using c3
   have c0':((ns.length:Int)-w.least == 0)=false:=by simpa using c0
   simp[g2,g3,g4,gN,e1,c0',c1,c2,c3',c4,dU,D.clean,rf]
  .simp[g2,g3,g4,gN,e1,c0,c1,c2,dU,D.clean,rf]
 .simp[g2,g3,g4,gN,e1,c0,c1,dU,D.clean,rf]
theorem Ih(b:UInt8):∀(s:List UInt8),∀x∈dB b s,x.length<=s.length
 |[],x,hx=>by simp[dB]at hx;simp[hx]
 |c::r,x,hx=>by
  have ih:=Ih b r;simp only[dB]at hx;split at hx
  .rcases bz.1 hx with rfl | hx
   .simp
   .have:=ih x hx;simp;omega
  .split at hx
   .rename_i y l hyl;rcases bz.1 hx with rfl | hx
    .have:=ih y (by rw[hyl];simp);simp;omega
    .have:=ih x (by rw[hyl];simp[hx]);simp;omega
   .rename_i hyl;exact absurd hyl (sP b r)
theorem XD{s:List UInt8}(hl:s.length<=1000000)(hJ:J≠[]){p:Wd×List UInt8×List Int}(hp:parse s=some p):Cl 85 [.str s] (A8 p) J:=by
 unfold parse at hp;have hlen:=DA 32 s;have hle:=Ih 32 s;cases h:dB 32 s with
 |nil=>exact absurd h (sP 32 s)
 |cons a all =>
 rw[h]at hp hlen hle;simp only[aB]at hlen;dsimp only at hp;cases hw:yj a with
 |none=>rw[hw]at hp;cases hp
 |some w =>
 rw[hw]at hp;dsimp only at hp;cases hn:w.named with
 |false =>
  rw[hn]at hp;exact VC hl h (λx hx=>by have:=hle x (by simp[hx]);omega) (by omega) hw hn hJ (by simpa using hp)
 |true =>
  rw[hn]at hp;simp only[if_true]at hp;cases all with
  |nil=>cases hp
  |cons n r=>exact VD hl h (λx hx=>by have:=hle x (by simp[hx]);omega) (by simp at hlen;omega) hw hn hJ hp
theorem Sg{s:List UInt8}(hl:s.length<=1000000)(hp:parse s=none):di T (.call false 85 [.str s] J)=some (.fy (rf 4) J):=by
 unfold parse at hp;have hlen:=DA 32 s;have hle:=Ih 32 s;cases h:dB 32 s with
 |nil=>exact absurd h (sP 32 s)
 |cons a all =>
 rw[h]at hp hlen hle;simp only[aB]at hlen;dsimp only at hp;cases hw:yj a with
 |none=>exact PM hl h hw
 |some w =>
 rw[hw]at hp;dsimp only at hp;cases hn:w.named with
 |false =>
  rw[hn]at hp;exact PK hl h (λx hx=>by have:=hle x (by simp[hx]);omega) (by omega) hw hn (by simpa using hp)
 |true =>
  rw[hn]at hp;simp only[if_true]at hp;cases all with
  |nil=>exact Sf hl h hw hn
  |cons n r=>exact PL hl h (λx hx=>by have:=hle x (by simp[hx]);omega) (by simp at hlen;omega) hw hn hp
