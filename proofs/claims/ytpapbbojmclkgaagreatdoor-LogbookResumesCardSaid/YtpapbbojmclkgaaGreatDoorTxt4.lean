import Derived.Test.YtpapbbojmclkgaaGreatDoorTxt3
set_option linter.all false
set_option maxRecDepth 100000
namespace Go.aD
open Go Go.aw
structure pk where
 name:List UInt8
 kind:Int
 bl:List Int
 wt:List Int
 lo:Int
 hi:Int
structure sX where
 tick:Int
 jK:Int
 idx:Int
 lo:Int
 hi:Int
@[simp] theorem pk.eta(p:pk):pk.mk p.name p.kind p.bl p.wt p.lo p.hi=p:=rfl
@[simp] theorem sX.eta(p:sX):sX.mk p.tick p.jK p.idx p.lo p.hi=p:=rfl
@[simp] def pk.enc(m:pk):List D:=[.str m.name,iI m.kind,lF m.bl aQ,lF m.wt aQ,iI m.lo,iI m.hi]
@[simp] def sX.enc(x:sX):List D:=[iI x.tick,.int .u8 x.jK,iI x.idx,iI x.lo,iI x.hi]
def Ad(n:Int):Int->List Int->List Int->Bool
 |last,b::bl,w::wt=>decide (last<b) && (decide (b<n) && (bI w (-1000) 1000 && Ad n b bl wt))
 |_,_,_=>true
def E9(f:dK)(kind:Int)(bl wt:List Int):Bool:=bI kind 0 (f.k-1) && (decide (1<=bl.length) && (decide (bl.length=wt.length) && Ad f.size (-1) bl wt))
def Ee(lo hi:Int):Bool:=decide (-10000000000<=lo) && (decide (lo<=hi) && decide (hi<=10000000000))
def dK.measure(f:dK)(m:pk):Int:=if named m.name then(if E9 f m.kind m.bl m.wt && Ee m.lo m.hi then 0 else 1)else 5
def dK.yQ(f:dK)(met:List (List UInt8)):List pk->Int
 |[]=>0
 |m::l=>if f.measure m=0 then(if met.contains m.name then 6 else f.yQ (met++[m.name]) l)else f.measure m
def dK.wS(f:dK)(l:List pk):Int:=if 12<l.length then 3 else f.yQ [] l
structure Mev(f:dK)(x:pk):Prop where
 name:x.name.length<=16
 kind:0<=x.kind/\x.kind<f.k
 ne:1<=x.bl.length
 len:x.bl.length=x.wt.length
 acH:Ad f.size (-1) x.bl x.wt=true
 ends : -10000000000<=x.lo/\x.lo<=x.hi/\x.hi<=10000000000
theorem Mev.of{f:dK}{x:pk}(h:f.measure x=0):Mev f x:=by
 unfold dK.measure at h;split at h
 .rename_i h1;split at h
  .rename_i h2;simp only[E9,Ee,af,au,aS]at h2;obtain⟨⟨h3,h4,h5,h6⟩,h7,h8,h9⟩:=h2;simp only[named,af]at h1;have:=aS.1 h1.2;exact⟨by omega,by omega,h4,h5,h6,h7,h8,h9⟩
  .cases h
 .cases h
theorem Jf{n:Int}:∀{bl wt:List Int} {last:Int},bl.length=wt.length->Ad n last bl wt=true->last<n->(bl.length:Int)<=n-1-last
 |[],wt,last,hl,h,hn=>by simp;omega
 |b::bl,[],last,hl,h,hn=>by simp at hl
 |b::bl,w::wt,last,hl,h,hn=>by
  simp only[Ad,af,au]at h;obtain⟨h1,h2,h3,h4⟩:=h;have:=Jf (n:=n) (bl:=bl) (wt:=wt) (last:=b) (by simpa using hl) h4 h2;simp only[aB];omega
theorem Mh{n:Int}:∀{bl wt:List Int} {last:Int} {i:Nat} {b w:Int},Ad n last bl wt=true->bl[i]?=some b->wt[i]?=some w->last<b/\b<n/\(-1000<=w/\w<=1000)
 |[],wt,last,i,b,w,h,hb,hw=>by simp at hb
 |b'::bl,[],last,i,b,w,h,hb,hw=>by simp at hw
 |b'::bl,w'::wt,last,i,b,w,h,hb,hw=>by
  simp only[Ad,af,au]at h;obtain⟨h1,h2,h3,h4⟩:=h;cases i with
  |zero =>
   simp only[c9,ae]at hb hw;subst hb hw;exact⟨h1,h2,aS.1 h3⟩
  |succ i =>
   have:=Mh h4 (by simpa using hb) (by simpa using hw);omega
def RO(dG:List Int)(off:Int):Int->List Int->List Int->Int
 |acc,b::bl,w::wt=>RO dG off (acc+w*(dG[(off+b).toNat]?).getD 0) bl wt
 |acc,_,_=>acc
def Af(f:dK)(m:ck)(x:pk):Int:=RO m.dG (x.kind*f.size) 0 x.bl x.wt
def Zo(lo hi s:Int):Int:=if hi<s then s-hi else if s<lo then s-lo else 0
def ES(lo hi s:Int):Int:=max 0 (s-hi)+min 0 (s-lo)
theorem SY{lo hi s:Int}(h:lo<=hi):ES lo hi s=Zo lo hi s:=by
 unfold ES Zo;split
 .omega
 .split<;>omega
def aF.G1(y:aF):Int:=if y.m=0 then 0 else y.h.tdiv y.m
def aF.NW(y:aF)(jK:Int):Int:=if jK=2 then y.m else if jK=3 then y.G1 else y.k
def oC(b:b9)(m:ck)(r:List (List aF)×List (List aF))(x:sX):Int :=
 if x.jK=1 then dE b m ((r.1[x.tick.toNat]?).getD []) x.idx.toNat else aF.NW (aR ((r.2[x.tick.toNat-1]?).getD []) x.idx.toNat) x.jK
def fj(b:b9)(uQ:Int)(x:sX):Int :=
 if !bI x.jK 1 4 || (decide (x.lo < -10000000000) || (decide (x.hi<x.lo) || decide (10000000000<x.hi)))then 1
 else if !bI x.tick (if x.jK=1 then 0 else 1) uQ || !bI x.idx 0 ((if x.jK=1 then b.size else b.ar.length)-1)then 2 else 0
def vK(b:b9)(uQ:Int)(l:List sX):Int:=if 40<l.length then 3 else b8 (fj b uQ) l
structure WU(b:b9)(n:Nat)(x:sX):Prop where
 jK:1<=x.jK/\x.jK<=4
 ends : -10000000000<=x.lo/\x.lo<=x.hi/\x.hi<=10000000000
 p:x.jK=1->(0<=x.tick/\x.tick<=n)/\0<=x.idx/\x.idx<b.size
 y:x.jK≠1->(1<=x.tick/\x.tick<=n)/\0<=x.idx/\x.idx<b.ar.length
theorem WU.of{b:b9}{n:Nat}{x:sX}(h:fj b n x=0):WU b n x:=by
 unfold fj at h;by_cases h3:x.jK=1
 .rw[if_pos h3,if_pos h3]at h;split at h
  .cases h
  .rename_i h1;simp only[cq,au,ea,not_or,Bool.not_eq_false,aS]at h1;split at h
   .cases h
   .rename_i h2;simp only[cq,ea,not_or,Bool.not_eq_false,aS]at h2;exact⟨h1.1,by omega,λ_=>by omega,λh=>absurd h3 h⟩
 .rw[if_neg h3,if_neg h3]at h;split at h
  .cases h
  .rename_i h1;simp only[cq,au,ea,not_or,Bool.not_eq_false,aS]at h1;split at h
   .cases h
   .rename_i h2;simp only[cq,ea,not_or,Bool.not_eq_false,aS]at h2;exact⟨h1.1,by omega,λh=>absurd h h3,λ_=>by omega⟩
end Go.aD
namespace Go.Proofs.YtpapbbojmclkgaaGreatDoor
open Go Go.aw Go.aD
variable {J:SK}
theorem MO{f:dK}(h:f.valid=true):Cl 293 [.agg (fL f)] (iI f.size) J:=by
 obtain⟨h1,h2,h3,h4,h5⟩:=dK.mP.1 h;exact KD h1 h2 h3
theorem Yj{f:dK}{bl wt:List Int}(hf:f.valid=true)(hl:bl.length<=9223372036854775807)(hw:bl.length=wt.length):∀(k i:Nat) (last:Int),i+k=bl.length ->
  WL T [3,4,9,30,31,32] false m6 [(3,lF wt aQ),(4,.bq (fL f)),(9,iI last),(30,lF bl aQ),(31,iI bl.length),(32,iI i)] J
   (λx e J'=>J'=J/\if Ad f.size last (bl.drop i) (wt.drop i)then x=.exit 0 else x=.ret/\get e 8=.bool false)
 |0,i,last,hi=>by
  refine aK ?_;have h1:¬i<bl.length:=by omega
  have h2:bl.drop i=[]:=ec;simp[h1,h2,Ad]
 |k+1,i,last,hi=>by
  refine aK ?_;have⟨h1,h1'⟩:i<bl.length/\i<wt.length:=by omega
  obtain⟨b,hb⟩:=gE h1;obtain⟨w,hw'⟩:∃r,wt[i]?=some r:=⟨_,aE h1'⟩;have h2:=gi hb;have h3:=gi hw';have h4:=cj h1 hl;have h5:=bj hb;have h6:=bj hw';have hB:=λJ=>MO (J:=J) hf
  have ih:=Yj hf hl hw k (i+1) b (by omega);rw[h5,h6,Ad];by_cases c1:b<=last
  .simp[h1,h2,c1,show ¬last<b by omega]
  .by_cases c2:f.size<=b
   .simp[h1,h2,hB,c1,c2,show last<b by omega,show ¬b<f.size by omega]
   .cases c3:bI w (-1000) 1000
    .simp[h1,h1',h2,h3,hB,iJ,c1,c2,c3,show last<b by omega,show b<f.size by omega]
    .simp[h1,h1',h2,h3,h4,hB,iJ,c1,c2,c3,show last<b by omega,show b<f.size by omega];exact WL.tg ih λx e J hh=>by simpa[show last<b by omega,show b<f.size by omega]using hh
theorem aeD{f:dK}{k:Int}{bl wt:List Int}(hf:f.valid=true)(hl:bl.length<=9223372036854775807)(hk:f.valid=true->True):
  Cl 297 [.agg (fL f),iI k,lF bl aQ,lF wt aQ] (.bool (E9 f k bl wt)) J:=by
 refine an ?_;obtain⟨q1,q2,q3,q4,q5⟩:=dK.mP.1 hf;have w1:=bV (n:=f.k-1);unfold E9;cases c1:bI k 0 (f.k-1)
 .simp[iJ,w1,c1]
 by_cases c2:1<=bl.length
 rotate_left
 .have:bl=[]:=bg.1 (by omega);subst this;simp[iJ,w1,c1]
 have c2':¬(bl.length:Int)<1:=by omega
 have c2'':¬bl=[]:=λh=>by rw[h]at c2;simp at c2
 by_cases c3:bl.length=wt.length
 rotate_left
 .simp[iJ,w1,c1,c2',c3,show ¬(bl.length:Int)=wt.length by omega]
 have c4:¬(wt.length:Int)<1:=by omega
 have c5:¬wt=[]:=λh=>by rw[h]at c3;simp at c3;exact c2'' c3
 simp[iJ,w1,c1,c3,c4];refine WL.to (Yj (J:=[]::J) hf hl c3 bl.length 0 (-1) (by omega)) (by simp[c3]) rfl ?_;rintro x e J' ⟨rfl,h⟩;simp only[az]at h;cases hc:Ad f.size (-1) bl wt
 .simp[hc]at h;simp[h]
 .simp[hc]at h;simp[h];omega
theorem aaM{lo hi:Int}:Cl 298 [.agg [iI lo,iI hi]] (.bool (Ee lo hi)) J:=by
 refine an ?_;unfold Ee;by_cases c1 : -10000000000<=lo
 .by_cases c2:lo<=hi<;>simp[c1,c2]
 .simp[c1]
theorem MT{f:dK}{m:pk}(hf:f.valid=true)(hn:m.name.length<=1000000000)(hl:m.bl.length<=9223372036854775807):
  Cl 243 [.agg (fL f),.agg m.enc] (iI (f.measure m)) J:=by
 refine an ?_;have h1:=λJ=>Ka (J:=J) hn
 have h2:=λJ=>aeD (J:=J) (k:=m.kind) (wt:=m.wt) hf hl (λ_=>trivial)
 unfold dK.measure;cases c1:named m.name
 .simp[h1,c1]
 cases c2:E9 f m.kind m.bl m.wt
 .simp[h1,h2,c1,c2]
 cases c3:Ee m.lo m.hi<;>simp[h1,h2,aaM,c1,c2,c3]
theorem ahR{f:dK}{m:pk}(hf:f.valid=true)(hn:m.name.length<=1000000000)(hl:m.bl.length<=9223372036854775807):
  Cl 291 [.agg m.enc,.bq (fL f)] (.cS [.str m.name,iI (f.measure m)]) J:=by
 refine an ?_;have h:=λJ=>MT (J:=J) hf hn hl
 simp only[pk.enc]at h ⊢;simp[h]
theorem Kn{l:List pk}{j:Nat}{m:pk}(h:l[j]?=some m):((fM l pk.enc).drop (j*6)).take 6=m.enc :=
 bx (f:=pk.enc) (w:=6) h
def Ti(l:List pk):Prop:=∀m∈l,m.name.length<=1000000000/\m.bl.length<=9223372036854775807
theorem T1{f:dK}{l:List pk}(hf:f.valid=true)(hs:Ti l)(hl:l.length<=1000000000):∀(k i:Nat) (met:List (List UInt8)),i+k=l.length ->
  WL T [1,5,11,12,13] false iN [(1,.fn 291 [] [.bq (fL f)]),(5,.jg J.length 0),(11,lF l pk.enc),(12,iI l.length),(13,iI i)] ([.cells 0 (FN met)]::J)
   (λx e J'=>∃s,J'=s::J/\if f.yQ met (l.drop i)=0 then x=.exit 0 else x=.ret/\get e 4=iI (f.yQ met (l.drop i)))
 |0,i,met,hi=>by
  refine aK ?_;have h1:¬i<l.length:=by omega
  have h2:l.drop i=[]:=ec;simp[h1,h2,dK.yQ]
 |k+1,i,met,hi=>by
  refine aK ?_;have h1:i<l.length:=by omega
  obtain⟨m,hm⟩:=gE h1;have h2:=Kn hm;have h4:=cj h1;have h5:=bj hm;obtain⟨hs1,hs2⟩:=hs m (ah hm);have hC:=λJ=>ahR (J:=J) hf hs1 hs2
  simp only[pk.enc]at h2 hC;rw[h5,dK.yQ];by_cases hc1:f.measure m=0
  .have hg:=adG (S:=[.cells 0 (FN met)]::J) (l:=J.length) (i:=0) (met:=met) (k:=m.name) (by simp);cases hc2:met.contains m.name
   .rw[hc2]at hg;have hp:=adH (S:=[.cells 0 (FN met)]::J) (l:=J.length) (i:=0) (met:=met) (k:=m.name) (by simp) hc2;have ih:=T1 hf hs hl k (i+1) (met++[m.name]) (by omega);simp at hp;have hc3:¬m.name∈met:=by simpa using hc2
    simp[h1,h2,h4,hC,hc1,hg,hp];exact WL.ts ih λx e J' hh=>by simpa[hc1]using hh
   .rw[hc2]at hg;have hc3:m.name∈met:=by simpa using hc2
    simp[h1,h2,hC,hc1,hg]
  .simp[h1,h2,hC,hc1]
theorem aaK{f:dK}{l:List pk}(hf:f.valid=true)(hs:Ti l)(hl:l.length<=1000000000):
  Cl 290 [lF l pk.enc,.fn 291 [] [.bq (fL f)]] (iI (f.yQ [] l)) J:=by
 refine an ?_;have hm:DY ([]::J) .make []=some (.jg J.length 0,[.cells 0 (FN [])]::J):=by simp[DY,FN]
 simp[hm];refine WL.ts (T1 (J:=J) hf hs hl l.length 0 [] (by omega)) ?_;rintro x e J' ⟨s,rfl,h⟩;simp only[az]at h;by_cases hc:f.yQ [] l=0
 .rw[if_pos hc]at h;subst h;simp[hc]
 .rw[if_neg hc]at h;obtain⟨rfl,h⟩:=h;simp[h]
theorem Sd{f:dK}{l:List pk}(hf:f.valid=true)(hs:Ti l)(hl:l.length<=1000000000):
  Cl 239 [.agg (fL f),lF l pk.enc] (iI (f.wS l)) J:=by
 refine an ?_;unfold dK.wS;by_cases hc:12<l.length
 .simp[hc,show(12:Int)<l.length by omega]
 .simp[hc,show ¬(12:Int)<l.length by omega,aaK hf hs hl]
structure Fm(f:dK)(m:ck):Prop where
 fv:f.valid=true
 len:(m.dG.length:Int)=f.k*f.size
 ok:∀v∈m.dG,-100000<=v/\v<=100000
theorem Fm.of{f:dK}{m:ck}(hf:f.valid=true)(h:f.model m=0):Fm f m:=by
 unfold dK.model at h;split at h
 .split at h
  .rename_i h1;exact⟨hf,h1.1,λv hv=>aS.1 (ff.1 h1.2 v hv)⟩
  .cases h
 .cases h
theorem SZ{a b A B:Int}(ha : -A<=a/\a<=A)(hb : -B<=b/\b<=B)(hA:0<=A) : -(A*B)<=a*b/\a*b<=A*B:=by
 have key:∀x:Int,0<=x->x<=A -> -(A*B)<=x*b/\x*b<=A*B:=by
  intro x h0 h1;have e1:x*b<=x*B:=Int.mul_le_mul_of_nonneg_left hb.2 h0;have e2:x*(-B)<=x*b:=Int.mul_le_mul_of_nonneg_left hb.1 h0;have e3:x*B<=A*B:=dZ h1 (by omega);rw[Int.mul_neg]at e2;omega
 rcases fk 0 a with h | h
 .exact key a h ha.2
 .have:=key (-a) (by omega) (by omega);rw[Int.neg_mul]at this;omega
theorem akP{f:dK}{m:ck}{x:pk}(hm:Fm f m)(hx:Mev f x):∀(k i:Nat) (acc:Int),i+k=x.bl.length -> -(i*100000000)<=acc/\acc<=i*100000000 ->
  WL T [2,3,4,8,9,10] false pP [(2,.bq [iI f.x,iI f.y,iI f.z,iI f.k,iI x.kind,lF x.bl aQ,lF x.wt aQ]),(3,.bq (mL m)),(4,iI acc),(8,lF x.bl aQ),(9,iI x.bl.length),(10,iI i)] J
   (λx' e J'=>J'=J/\x'=.exit 0/\get e 4=iI (RO m.dG (x.kind*f.size) acc (x.bl.drop i) (x.wt.drop i))):=by
 intro k;induction k with
 |zero =>
  intro i acc hi ha;refine aK ?_;have h1:¬i<x.bl.length:=by omega
  have h2:x.bl.drop i=[]:=ec;simp[h1,h2,RO]
 |succ k ih0 =>
  intro i acc hi ha;refine aK ?_;have h1:i<x.bl.length:=by omega
  have hlen:=hx.len;have h1':i<x.wt.length:=by omega
  obtain⟨b,hb⟩:=gE h1;obtain⟨w,hw⟩:=gE h1';obtain⟨q1,q2⟩:=Cz hm.fv;obtain⟨z1,z2,z3,z4,z5⟩:=dK.mP.1 hm.fv;obtain⟨s1,s2,s3⟩:=Mh hx.acH hb hw;have hl64:=Jf hx.len hx.acH (by omega);have h4:=cj h1;have h5:=bj hb;have h6:=bj hw;have h2:=gi hb;have h3:=gi hw;have k1:=hx.kind;have k2:0<=x.kind*f.size/\x.kind*f.size+f.size<=f.k*f.size:=by
   refine⟨bF k1.1 (by omega),?_⟩;have:=dZ (show x.kind+1<=f.k by omega) (show 0<=f.size by omega);rw[Int.add_mul]at this;omega
  have hvl:=hm.len;obtain⟨j,hj⟩:∃j:Nat,x.kind*f.size+b=j:=⟨(x.kind*f.size+b).toNat,by omega⟩;have hj1:j<m.dG.length:=by omega
  obtain⟨v,hv⟩:=gE hj1;have hvb:=hm.ok v (ah hv);have h7:=gi hv;have hB:=λJ=>MO (J:=J) hm.fv
  have b1:=SZ (a:=w) (b:=v) (A:=1000) (B:=100000) (by omega) hvb (by omega);have w1:=bV (n:=x.kind*f.size);have w2:=bV (n:=(j:Int));have w3:=bV (n:=w*v);have w4:=bV (n:=acc+w*v);have ih:=ih0 (i+1) (acc+w*v) (by omega) (by omega);rw[h5,h6,RO,hj];simp only[Int.toNat_natCast];simp[h1,h1',h2,h3,h4,hB,w1,w2,w3,w4,hj,hj1,h7];exact WL.tg ih λx e J hh=>by simpa[hv]using hh
theorem abh{f:dK}{m:ck}{x:pk}(hm:Fm f m)(hx:Mev f x):Cl 299 [.agg [iI f.x,iI f.y,iI f.z,iI f.k,iI x.kind,lF x.bl aQ,lF x.wt aQ],.agg (mL m)] (iI (Af f m x)) J:=by
 refine an ?_;simp;refine WL.tg (akP (J:=[]::J) hm hx x.bl.length 0 0 (by omega) (by simp)) ?_;rintro x' e J' ⟨rfl,rfl,g⟩;simp[g,Af]
theorem XX{f:dK}{x:pk}:Cl 244 [.agg (fL f),.agg x.enc] (.fn 299 [.agg [iI f.x,iI f.y,iI f.z,iI f.k,iI x.kind,lF x.bl aQ,lF x.wt aQ]] []) J:=by
 refine an ?_;simp[D.clean,lO]
end Go.Proofs.YtpapbbojmclkgaaGreatDoor
namespace Go.cY
open Go Go.aw Go.aD
def qY(f:dK)(x:pk):Int:=if f.valid=true then f.measure x else 1
def sW(p:Int×Int):List D:=[iI p.1,iI p.2]
def eW(nm:List UInt8)(k lo hi:Int)(ps:List (Int×Int)):pk:=⟨nm,k,ps.map (·.1),ps.map (·.2),lo,hi⟩
end Go.cY
namespace Go.Proofs.YtpapbbojmclkgaaGreatDoor
open Go Go.aw Go.aD Go.cY
variable {J:SK}
theorem Pw{f:dK}{x:pk}(hf:f.valid=true)(hn:x.name.length<=1000000000)(hl:x.bl.length<=1000000000):
  Cl 238 [.bq (fL f),.bq [.bZ 1 x.enc]] (iI (f.measure x)) J:=by
 refine an ?_;have h:=λJ=>Sd (J:=J) (f:=f) (l:=[x]) hf (by intro m hm;simp at hm;subst hm;exact⟨hn,by omega⟩) (by simp)
 try simp only[lF,Cl,fL]at h
 have he:f.wS [x]=f.measure x:=by
  simp only[dK.wS,dK.yQ];by_cases h:f.measure x=0<;>simp[h]
 rw[he]at h;simp only[List.length_singleton,cT,mZ,dq]at h;simp only[lF,pk.enc]at h ⊢;simp[h]
theorem Jk{f:dK}{x:pk}(hn:x.name.length<=1000000000)(hl:x.bl.length<=1000000000):
  Cl 207 [.agg (fL f),.bZ 1 x.enc] (iI (qY f x)) J:=by
 refine an ?_;have hC:=λJ=>N2 (J:=J) (fs:=[.fn 232 [.agg (fL f)] [],.fn 238 [] [.bq (fL f),.bq [.bZ 1 x.enc]]]) (es:=[f.shape,f.measure x]) rfl (by simp) (by simp) (by
  intro i d n hd hn' h0 J;match i with
  |0 =>
   simp at hd hn';subst hd hn';simp[Kb]
  |1 =>
   simp only[List.getElem?_cons_succ,c9,ae]at hd hn';subst hd hn';have h1:f.valid=true:=by
    have:=h0 0 (by omega);simp[dK.shape]at this;exact this
   have hh:=Pw (J:=J) h1 hn hl;rw[oI];have h':di T (.call false 238 ([]++[]++[.bq (fL f),.bq [.bZ 1 x.enc]]) J)=_:=hh;rw[h'];rfl
  |i+2=>simp at hd)
 have e1:b8 id [f.shape,f.measure x]=qY f x:=by
  simp only[b8,id,qY,dK.shape];by_cases h:f.valid=true
  .by_cases h2:f.measure x=0<;>simp[h,h2]
  .simp[h]
 rw[e1]at hC;simp only[pk.enc,aB,bd]at hC ⊢;simp[hC]
theorem aej{f:dK}{m:ck}(hf:f.valid=true)(hn:m.name.length<=1000000000)(hl:m.dG.length<=1000000000):
  Cl 240 [.bq (fL f),.bq (mL m)] (iI (f.model m)) J:=by
 refine an ?_;simp[TL hf hn hl]
theorem aek{f:dK}{x:pk}(hf:f.valid=true)(hn:x.name.length<=1000000000)(hl:x.bl.length<=1000000000):
  Cl 242 [.bq (fL f),.bq x.enc] (iI (f.measure x)) J:=by
 refine an ?_;have h:=λJ=>MT (J:=J) (f:=f) (m:=x) hf hn (by omega)
 simp only[pk.enc]at h ⊢;simp[h]
theorem ad9{f:dK}{m:ck}{x:pk}(hf:f.valid=true)(hm:f.model m=0)(hx:f.measure x=0)(hn:m.name.length<=1000000000)(hl:m.dG.length<=1000000000)(hn2:x.name.length<=1000000000)(hl2:x.bl.length<=1000000000):
  Cl 210 [.agg (fL f),.agg (mL m),.agg x.enc] (.cS [iI (Af f m x),iI 0]) J:=by
 refine an ?_;have hC:=λJ=>N2 (J:=J) (fs:=[.fn 232 [.agg (fL f)] [],.fn 240 [] [.bq (fL f),.bq (mL m)],.fn 242 [] [.bq (fL f),.bq x.enc]]) (es:=[f.shape,f.model m,f.measure x]) rfl (by simp) (by simp) (by
  intro i d n hd hn' h0 J;match i with
  |0 =>
   simp at hd hn';subst hd hn';simp[Kb]
  |1 =>
   simp at hd hn';subst hd hn';simp[aej hf hn hl]
  |2 =>
   simp only[List.getElem?_cons_succ,c9,ae]at hd hn';subst hd hn';have hh:=aek (J:=J) hf hn2 hl2;rw[oI];have h':di T (.call false 242 ([]++[]++[.bq (fL f),.bq x.enc]) J)=_:=hh;rw[h'];rfl
  |i+3=>simp at hd)
 have e1:b8 id [f.shape,f.model m,f.measure x]=0:=by simp[b8,dK.shape,hf,hm,hx]
 rw[e1]at hC;have hW:=λJ=>XX (J:=J) (f:=f) (x:=x)
 have hS:=λJ=>abh (J:=J) (Fm.of hf hm) (Mev.of hx)
 simp only[pk.enc,aB,bd]at hC hW ⊢;simp[hC,hW,hS]
theorem UX(l:List (Int×Int)):(fM l sW).length=l.length*2:=dF (f:=sW) (w:=2) l
theorem nN(l:List Int):(fM l aQ).length=l.length:=by have:=dF (f:=aQ) (w:=1) l;omega
def OI(L:Nat)(nm:List UInt8)(k lo hi:Int)(ps:List (Int×Int)):List aw.aF :=
 [.cells 0 [.str nm,iI k,.sl L 1 ps.length 0 ps.length 1,.sl L 2 ps.length 0 ps.length 1,iI lo,iI hi],.cells ps.length (fM (ps.map (·.1)) aQ),.cells ps.length (fM (ps.map (·.2)) aQ)]
theorem N6{ps:List (Int×Int)}(hps:ps.length<=1000000){X Y:D}(hx:X.calm=X)(hy:Y.calm=Y){nm:List UInt8}{k lo hi:Int}:∀(m j:Nat),j+m=ps.length ->
  WL T [2,3,6,30,31,32] false m7 [(2,X),(3,Y),(6,.ref J.length 0 0 0),(30,.bZ (ps.length*2) (fM ps sW)),(31,.int .i64 (ps.length*2)),(32,.int .i64 (j*2))] (OI J.length nm k lo hi (ps.take j)::J)
   (λx e J'=>x=.exit 0/\get e 2=X/\get e 3=Y/\get e 6=.ref J.length 0 0 0/\get e 1000006=.undef/\J'=OI J.length nm k lo hi ps::J)
 |0,j,h=>by
  refine aK ?_;have h1:¬j<ps.length:=by omega
  have h2:ps.take j=ps:=cZ;simp[-List.map_take,h1,hx,hy,h2]
 |m+1,j,h=>by
  refine aK ?_;have⟨h1,h2,h3,h0,h0'⟩:j<ps.length/\(j:Int)*2<(ps.length:Int)*2/\(j:Int)*2+1<(ps.length:Int)*2/\0<=(j:Int)*2/\0<=(j:Int)*2+1:=by omega
  obtain⟨p,hp⟩:=gE h1;have hd:=mM (f:=sW) (w:=2) (λ_=>rfl) hp;have hd2:(fM ps sW).drop (j*2+1)=.int .i64 p.2::(fM ps sW).drop (j*2+2):=by
   have:=congrArg (List.drop 1) hd;simpa[pF,sW,cC]using this
  have hd1:(fM ps sW).drop (j*2)=.int .i64 p.1::.int .i64 p.2::(fM ps sW).drop (j*2+2):=by simpa[pF,sW]using hd
  have⟨t1,t2⟩:((j:Int)*2).toNat=j*2/\((j:Int)*2+1).toNat=j*2+1:=by omega
  have w1:=bV (n:=(j:Int)*2+1);have w2:=bV (n:=(j:Int)*2+1+1);have m1:((j:Int)*2).tmod 2=0:=by rw[Int.tmod_eq_emod_of_nonneg (by omega)];omega
  have m2:((j:Int)*2+1).tmod 2=1:=by rw[Int.tmod_eq_emod_of_nonneg (by omega)];omega
  have hl:(ps.take j).length=j:=by simp[];omega
  have hr:(j+1)*8<=room:=by unfold room;omega
  have ha:=nN ((ps.take j).map (·.1));have hb:=nN ((ps.take j).map (·.2));simp only[bK,hl]at ha hb;have ta:(fM ((ps.take j).map (·.1)) aQ).take j=fM ((ps.take j).map (·.1)) aQ:=cZ;have tb:(fM ((ps.take j).map (·.2)) aQ).take j=fM ((ps.take j).map (·.2)) aQ:=cZ;have ih:=N6 hps hx hy (nm:=nm) (k:=k) (lo:=lo) (hi:=hi) m (j+1) (by omega);have htk:ps.take (j+1)=ps.take j++[p]:=by rw[List.take_add_one,hp];rfl
  rw[htk]at ih;have hj1:((j+1:Nat):Int)*2=(j:Int)*2+1+1:=by omega
  rw[hj1]at ih;simp[-List.map_take,hx,hy,OI,hl,h0,h1,t1,hd1,w1,m1,hr,ha,ta];refine aK ?_;simp[-List.map_take,hx,hy,h0',h3,t2,hd2,w2,m2,hr,hb,tb];refine WL.to ih (by simp[]) (by simp[OI,hl]) λx e J' hh=>by simpa[pF,OI]using hh
theorem aer{A F:List aw.aF}{b:Bk}{er:List Int}{m:ck}{x:pk}(hf:b.aT.f.valid=true)(hm:b.aT.f.model m=0)(hx:b.aT.f.measure x=0)(hn:m.name.length<=1000000000)(hl:m.dG.length<=1000000000)(hn2:x.name.length<=1000000000)(hl2:x.bl.length<=1000000000):
  Cl 209 [.agg (mL m),.bq [.ref J.length 6 0 0],.bq x.enc] (iI (Af b.aT.f m x)) ([]::A::F::b.bC J.length er::J):=by
 refine an ?_;have hS:=λJ=>ad9 (J:=J) hf hm hx hn hl hn2 hl2
 simp only[pk.enc]at hS ⊢;simp[Bk.bC,Bk.cells,hS]
theorem YE{x:pk}:D.bh x.enc=true:=by simp[pk.enc,lO]
theorem UC{S:SK}{L:Nat}(hS:S.length=L)(hL:0<L){nm:List UInt8}{k lo hi:Int}{ps:List (Int×Int)}:
  HI L 0 0 (OI L nm k lo hi ps::S)=(.bq (eW nm k lo hi ps).enc,[.dead,.dead,.dead]::S):=by
 have hne:S≠[]:=by intro h;subst h;simp at hS;omega
 have h1:=o9 (f:=aQ) (w:=1) (λ_=>rfl) (λ_=>by simp[D.clean]) (l:=ps.map (·.1)) (j:=1) (v:=ps.length) (bs:=[.dead,.cells ps.length (fM (ps.map (·.1)) aQ),.cells ps.length (fM (ps.map (·.2)) aQ)]) (J:=S) hne (by simp);have h2:=o9 (f:=aQ) (w:=1) (λ_=>rfl) (λ_=>by simp[D.clean]) (l:=ps.map (·.2)) (j:=2) (v:=ps.length) (bs:=[.dead,.dead,.cells ps.length (fM (ps.map (·.2)) aQ)]) (J:=S) hne (by simp);rw[hS]at h1 h2;simp only[bK,List.set_cons_succ,List.set_cons_zero]at h1 h2;simp[HI,OI,hS,h1,h2,eW]
def DK(b:Bk)(x:pk):Bk×Int:=if b.ai=[]then(b,8)else if qY b.aT.f x=0 then(gM b x.lo x.hi λm=>Af b.aT.f m x,0)else(b,qY b.aT.f x)
theorem aes{F:List aw.aF}{b:Bk}{er:List Int}{nm:List UInt8}{k lo hi:Int}{ps:List (Int×Int)}{b':Bk}{e:Int}(hps:ps.length<=1000000)(hnm:nm.length<=1000000000)(hw:b.eR.length=b.ai.length)(hml:b.ai.length<=40)(hms:∀e∈b.ai,b.aT.f.model e.m=0/\e.m.name.length<=1000000000/\e.m.dG.length<=1000000000)(hd:DK b (eW nm k lo hi ps)=(b',e))(he:e=0):
  di T (.call false 165 [.ref J.length 6 0 0,.str nm,.bZ (ps.length*2+3) (iI k::iI lo::iI hi::fM ps sW)] (F::b.bC J.length er::J))=some (.val (.cS []) (F::b'.bC J.length er::J)):=by
 refine eZ rfl rfl rfl (by simp) ?_;unfold DK at hd;split at hd
 case isTrue=>cases hd;cases he
 rename_i hne;split at hd
 case isFalse=>cases hd;rename_i h;exact absurd he h
 rename_i hck;cases hd;have⟨q0,q1,q2,q3⟩:(0:Int)<(ps.length:Int)*2+3/\(1:Int)<(ps.length:Int)*2+3/\(2:Int)<(ps.length:Int)*2+3/\(3:Int)<=(ps.length:Int)*2+3:=by omega
 have c1:0<b.ai.length:=aG.2 hne;have hC:=λJ=>Jk (J:=J) (f:=b.aT.f) (x:=eW nm k lo hi ps) hnm (by simp[eW];omega)
 simp only[hck]at hC;have hv:b.aT.f.valid=true/\b.aT.f.measure (eW nm k lo hi ps)=0:=by
  unfold qY at hck;split at hck
  .rename_i h;exact⟨h,hck⟩
  .cases hck
 have hlp:=UX ps;have htp:(fM ps sW).take (ps.length*2)=fM ps sW:=cZ;have hL:=N6 (J:=F::b.bC J.length er::J) hps (X:=.bZ (ps.length*2+3) (iI k::iI lo::iI hi::fM ps sW)) (Y:=.bq [.ref J.length 6 0 0]) rfl rfl (nm:=nm) (k:=k) (lo:=lo) (hi:=hi) ps.length 0 (by omega);simp[Bk.bC,Bk.cells,c1,da,q0,q1,q2,q3];refine WL.to hL (by simp[htp]) (by simp[OI,Bk.bC,Bk.cells]) ?_;rintro x e J' ⟨rfl,g2,g3,g6,gu,rfl⟩;have hf:=λS hS=>UC (S:=S) (L:=J.length+1+1) hS (by omega) (nm:=nm) (k:=k) (lo:=lo) (hi:=hi) (ps:=ps)
 have hst:=PS (J:=J) (A:=[.dead,.dead,.dead]) (F:=F) (b:=b) (er:=er) (lo:=lo) (hi:=hi) (val:=λm=>Af b.aT.f m (eW nm k lo hi ps)) (fv:=.fn 209 [] [.bq [.ref J.length 6 0 0],.bq (eW nm k lo hi ps).enc]) rfl rfl hw hml (by
  intro i e he _;obtain⟨k1,k2,k3⟩:=hms e he;have h:=aer (J:=J) (A:=[.dead,.dead,.dead]) (F:=F) (er:=er) (b:=b.gq lo hi (λm=>Af b.aT.f m (eW nm k lo hi ps)) i) (m:=e.m) (x:=eW nm k lo hi ps) hv.1 k1 hv.2 k2 k3 hnm (by simp[eW];omega);rw[oI];have h':di T (.call false 209 ([]++[.agg (mL e.m)]++[.bq [.ref J.length 6 0 0],.bq (eW nm k lo hi ps).enc]) ([]::[.dead,.dead,.dead]::F::(b.gq lo hi (λm=>Af b.aT.f m (eW nm k lo hi ps)) i).bC J.length er::J))=_:=h;rw[h'];rfl)
 have hcl:=YE (x:=eW nm k lo hi ps);have e1:(eW nm k lo hi ps).lo=lo:=aJ;have e2:(eW nm k lo hi ps).hi=hi:=aJ;simp only[Bk.bC,Bk.cells,pk.enc,e1,e2]at hst hC hf hcl;simp[g2,g3,g6,gu,hf,hC,mW,hst,q1,q2,Bk.bC,Bk.cells,e1,e2]
theorem aaW{F:List aw.aF}{b:Bk}{er:List Int}{nm:List UInt8}{k lo hi:Int}{ps:List (Int×Int)}{b':Bk}{e:Int}(hps:ps.length<=1000000)(hnm:nm.length<=1000000000)(hd:DK b (eW nm k lo hi ps)=(b',e))(he:e≠0):
  di T (.call false 165 [.ref J.length 6 0 0,.str nm,.bZ (ps.length*2+3) (iI k::iI lo::iI hi::fM ps sW)] (F::b.bC J.length er::J))=some (.fy (rf e) (F::b.bC J.length er::J)):=by
 refine ej rfl rfl rfl ?_;unfold DK at hd;split at hd
 case isTrue hne =>
  cases hd;simp[Bk.bC,Bk.cells,hne,dU,D.clean,rf]
 rename_i hne;split at hd
 case isTrue=>cases hd;exact absurd rfl he
 rename_i hck;cases hd;have⟨q0,q1,q2,q3⟩:(0:Int)<(ps.length:Int)*2+3/\(1:Int)<(ps.length:Int)*2+3/\(2:Int)<(ps.length:Int)*2+3/\(3:Int)<=(ps.length:Int)*2+3:=by omega
 have c1:0<b.ai.length:=aG.2 hne;have hC:=λJ=>Jk (J:=J) (f:=b.aT.f) (x:=eW nm k lo hi ps) hnm (by simp[eW];omega)
 have hM:=λJ=>oj (J:=J) hck
 generalize qY b.aT.f (eW nm k lo hi ps)=err at hC hM hck he ⊢;have hrc:(D.ua 200 (.agg [iI err])).clean=true:=rfl;have hlp:=UX ps;have htp:(fM ps sW).take (ps.length*2)=fM ps sW:=cZ;have hL:=N6 (J:=F::b.bC J.length er::J) hps (X:=.bZ (ps.length*2+3) (iI k::iI lo::iI hi::fM ps sW)) (Y:=.bq [.ref J.length 6 0 0]) rfl rfl (nm:=nm) (k:=k) (lo:=lo) (hi:=hi) ps.length 0 (by omega);simp[Bk.bC,Bk.cells,c1,da,q0,q1,q2,q3];refine WL.to hL (by simp[htp]) (by simp[OI,Bk.bC,Bk.cells]) ?_;rintro x e J' ⟨rfl,g2,g3,g6,gu,rfl⟩;have hf:=λS hS=>UC (S:=S) (L:=J.length+1+1) hS (by omega) (nm:=nm) (k:=k) (lo:=lo) (hi:=hi) (ps:=ps)
 have hcl:=YE (x:=eW nm k lo hi ps);simp only[pk.enc]at hC hf hcl;simp[g3,g6,gu,hf,hC,hM,Bk.bC,Bk.cells,rf,hrc]
end Go.Proofs.YtpapbbojmclkgaaGreatDoor
namespace Go.cY
open Go Go.aw Go.aD
def cp(l:List ep):List ep:=l.filter (·.left)
end Go.cY
namespace Go.Proofs.YtpapbbojmclkgaaGreatDoor
section
open Go Go.aw Go.aD Go.cY
variable {J:SK}
theorem aaS{e:ep}:Cl 249 [.agg e.enc] (.bool e.left) J:=by
 refine an ?_;simp
theorem KM{l:List ep}{lv bi v:Nat}{G:List aw.aF}(hG:G[bi]?=some (.cells v (fM l ep.enc)))(hs:eK J lv=some G)(hl:l.length<=1000000):∀(m i:Nat) (acc:List ep),i+m=l.length->acc.length<=i ->
  WL T [1,4,7,8,9] false gj [(1,.fn 249 [] []),(4,.sl J.length 0 acc.length 0 acc.length 4),(7,.sl lv bi v 0 l.length 4),(8,iI l.length),(9,iI i)] ([.cells acc.length (fM acc ep.enc)]::J)
   (λx e J'=>x=.exit 0/\get e 4=.sl J.length 0 (acc++cp (l.drop i)).length 0 (acc++cp (l.drop i)).length 4/\J'=[.cells (acc++cp (l.drop i)).length (fM (acc++cp (l.drop i)) ep.enc)]::J)
 |0,i,acc,hi,ha=>by
  refine aK ?_;have h1:¬i<l.length:=by omega
  have h2:l.drop i=[]:=ec;simp[h1,h2,cp]
 |m+1,i,acc,hi,ha=>by
  refine aK ?_;have h1:i<l.length:=by omega
  obtain⟨e,he⟩:=gE h1;have hfl:=bx (f:=ep.enc) (w:=4) he;have hd:=bj he;have h4:=cj h1;have hlen:=yt l;have q:4<=l.length*4-i*4:=by omega
  have hlt:=z8 hs;have hlv:¬J.length=lv:=by omega
  have hC:=λJ=>aaS (J:=J) (e:=e)
  simp only[ep.enc]at hC;cases hc:e.left with
  |false =>
   rw[hc]at hC;have ih:=KM hG hs hl m (i+1) acc (by omega) (by omega);simp[h1,hs,hG,hlv,hfl,hlen,q,h4,hC,hc];exact WL.tg ih λx e' J' hh=>by rw[hd];simpa[cp,hc]using hh
  |true =>
   rw[hc]at hC;have ih:=KM hG hs hl m (i+1) (acc++[e]) (by omega) (by simp;omega);have hr:(acc.length+1)*56<=room:=by unfold room;omega
   have hal:=yt acc;have hat:(fM acc ep.enc).take (acc.length*4)=fM acc ep.enc:=cZ;simp[h1,hs,hG,hlv,hfl,hlen,q,h4,hC,hc,hr,hal,hat];exact WL.to ih (by simp) (by simp[hc]) λx e' J' hh=>by rw[hd];simpa[cp,hc]using hh
theorem Xq{l:List ep}{lv bi v:Nat}{G:List aw.aF}(hG:G[bi]?=some (.cells v (fM l ep.enc)))(hs:eK J lv=some G)(hl:l.length<=1000000)(hJ:J≠[]):
  Cl 248 [.sl lv bi v 0 l.length 4,.fn 249 [] []] (lF (cp l) ep.enc) J:=by
 refine an ?_;have h:=KM (J:=J) hG hs hl l.length 0 [] (by omega) (by simp);simp only[List.nil_append]at h;simp;refine WL.ts h ?_;rintro x e J' ⟨rfl,g4,rfl⟩;have hk:=Go.aw.kb (f:=ep.enc) (w:=4) (λ_=>rfl) (λ_=>by simp[D.clean,lO]) (l:=cp l) (j:=0) (v:=(cp l).length) (bs:=[.cells (cp l).length (fM (cp l) ep.enc)]) (J:=J) hJ (by simp);rw[az]at g4 ⊢;simp[g4,hk]
theorem Iu{b:Bk}{er:List Int}{S:SK}(hl:b.ai.length<=1000000)(hs:eK S J.length=some (b.bC J.length er)):
  Cl 212 [.ref J.length 6 0 0] (lF (cp b.ai) ep.enc) S:=by
 refine an ?_;have hlt:=z8 hs;have hne:¬S.length=J.length:=by omega
 have h:=Xq (J:=[]::S) (l:=b.ai) (lv:=J.length) (bi:=0) (v:=b.ai.length) (G:=b.bC J.length er) (by simp[Bk.bC]) (by simp[eK,hne,hs]) hl (by simp);have hcl:D.bh (fM (cp b.ai) ep.enc)=true:=fD (λ_=>by simp[D.clean,lO]) _;have hc6:(b.bC J.length er)[6]?=some (.cells 0 (b.cells J.length)):=by simp[Bk.bC]
 simp[hne,hs,hc6,Bk.cells,h,hcl]
end
section
open Go Go.aw Go.ba
variable {J:SK}
theorem adg{lv:Nat}{G:List aw.aF}(hsg:eK J lv=some G){R:List cQ}{l:List Ev}{now may sure:Int}{j:Nat}{r:cQ}(hG1:G[1]?=some (.cells R.length (fM R cQ.enc)))(hG2:G[2]?=some (.cells l.length (fM l Ev.enc)))(hl:l.length<=200)(hs:∀e∈l,e.sp.length<=2000)(hr:r.ok=true)(hn:bI now 0 1000000=true):∀(m i:Nat) (a b:Nat),i+m=l.length->a+m<=200->b+m<=200 ->
  WL T [1,2,6,7,10,11,12,13,36,37,38,44,45,46] false rR [(1,.sl lv 2 l.length 0 l.length 2),(2,iI now),(6,.int .u8 may),(7,.int .u8 sure),(10,.own 0 r.enc),(11,iI a),(12,iI b),(13,.fn 119 [.agg r.enc] []),
    (36,.sl lv 1 R.length 0 R.length 10),(37,iI R.length),(38,iI j),(44,.sl lv 2 l.length 0 l.length 2),(45,iI l.length),(46,iI i)] J
   (λx e J'=>x=.exit 3/\J'=J/\get e 1=.sl lv 2 l.length 0 l.length 2/\get e 2=iI now/\get e 6=.int .u8 may/\get e 7=.int .u8 sure/\get e 10=.own 0 r.enc/\get e 11=iI (a+Ai (sO r now) (l.drop i):Nat)/\get e 12=iI (b+Ai (lQ r now) (l.drop i):Nat) /\
    get e 36=.sl lv 1 R.length 0 R.length 10/\get e 37=iI R.length/\get e 38=iI j)
 |0,i,a,b,hi,ha,hb=>by
  refine aK ?_;have h1:¬i<l.length:=by omega
  have h2:l.drop i=[]:=by simp;omega
  simp[h1,h2,Ai]
 |m+1,i,a,b,hi,ha,hb=>by
  refine aK ?_;have g1:i<l.length:=by omega
  obtain⟨e,he⟩:=gE g1;have a1:=bx (f:=Ev.enc) (w:=2) he;have al:(fM l Ev.enc).length=l.length*2:=dF (f:=Ev.enc) (w:=2) l;have aq:2<=l.length*2-i*2:=by omega
  have w1:=cj g1;have hr':=zZ.1 hr;have hn':=aS.1 hn;have hse:=hs e (ah he);have w2:=bV (n:=now-r.uQ);have w3:=bV (n:=(a:Int)+1);have w4:=bV (n:=(b:Int)+1);have hC:∀J,Cl 120 [lF e.sp pn.enc,.fn 119 [.agg r.enc] []] (.bool (lN e.sp r.Kg)) J:=λJ =>
   contains_of SE kP mq (by omega) (.fn λs _ J=>PH)
  have hA:=λJ=>@MN J e.sp r.Kg (.fn 119 [.agg r.enc] []) (.fn λs _ J=>PH) rfl (by omega)
  simp only[cQ.enc]at hC hA;have d1:Ai (sO r now) (l.drop i)=Ai (sO r now) (l.drop (i+1))+(if sO r now e then 1 else 0):=by rw[bj he];rfl
  have d2:Ai (lQ r now) (l.drop i)=Ai (lQ r now) (l.drop (i+1))+(if lQ r now e then 1 else 0):=by rw[bj he];rfl
  have ih:=λa b=>adg hsg hG1 hG2 (R:=R) (may:=may) (sure:=sure) (j:=j) hl hs hr hn m (i+1) a b (by omega)
  rw[d1,d2];by_cases c1:now<e.tick
  .have e1:sO r now e=false:=by simp[sO,cQ.act];omega
   have e2:lQ r now e=false:=by simp[lQ,cQ.act];omega
   simp[g1,a1,al,aq,hsg,hG2,w1,c1,e1,e2];exact WL.tg (ih a b (by omega) (by omega)) λx e J' hh=>by simpa[e1,e2]using hh
  by_cases c2:e.tick<=now-r.uQ
  .have e1:sO r now e=false:=by simp[sO,cQ.act];omega
   have e2:lQ r now e=false:=by simp[lQ,cQ.act];omega
   simp[g1,a1,al,aq,hsg,hG2,w1,w2,c1,c2,e1,e2];exact WL.tg (ih a b (by omega) (by omega)) λx e J' hh=>by simpa[e1,e2]using hh
  have act:r.act now e=true:=by simp[cQ.act];omega
  have e1:sO r now e=lN e.sp r.Kg:=by simp[sO,act]
  have e2:lQ r now e=dz e.sp r.Kg:=by simp[lQ,act]
  rw[e1,e2];have k1:∀u v:Nat,u+1+v=u+(v+1):=by intro u v;omega
  cases c3:lN e.sp r.Kg<;>cases c4:dz e.sp r.Kg<;>simp only[c3,c4]at hC hA
  .simp[g1,a1,al,aq,hsg,hG2,w1,w2,c1,c2,hC,hA];exact WL.tg (ih a b (by omega) (by omega)) λx e J' hh=>by simpa[c3,c4]using hh
  .simp[g1,a1,al,aq,hsg,hG2,w1,w2,w4,c1,c2,hC,hA];exact WL.tg (ih a (b+1) (by omega) (by omega)) λx e J' hh=>by simp only[k1]at hh;simpa[c3,c4]using hh
  .simp[g1,a1,al,aq,hsg,hG2,w1,w2,w3,c1,c2,hC,hA];exact WL.tg (ih (a+1) b (by omega) (by omega)) λx e J' hh=>by simp only[k1]at hh;simpa[c3,c4]using hh
  .simp[g1,a1,al,aq,hsg,hG2,w1,w2,w3,w4,c1,c2,hC,hA];exact WL.tg (ih (a+1) (b+1) (by omega) (by omega)) λx e J' hh=>by simp only[k1]at hh;simpa[c3,c4]using hh
theorem Ud{lv:Nat}{G:List aw.aF}(hsg:eK J lv=some G){R:List cQ}{l:List Ev}{now:Int}(hR:R.length<=20)(hG1:G[1]?=some (.cells R.length (fM R cQ.enc)))(hG2:G[2]?=some (.cells l.length (fM l Ev.enc)))(hl:l.length<=200)(hs:∀e∈l,e.sp.length<=2000)(hr:∀r∈R,r.ok=true)(hn:bI now 0 1000000=true):∀(m j:Nat) (may sure:Int),j+m=R.length ->
  WL T [1,2,6,7,36,37,38] false rS [(1,.sl lv 2 l.length 0 l.length 2),(2,iI now),(6,.int .u8 may),(7,.int .u8 sure),(36,.sl lv 1 R.length 0 R.length 10),(37,iI R.length),(38,iI j)] J
   (λx e J'=>x=.exit 1/\J'=J/\get e 6=.int .u8 (vI (λr=>sO r now) l (R.drop j) may)/\get e 7=.int .u8 (vI (λr=>lQ r now) l (R.drop j) sure))
 |0,j,may,sure,hj=>by
  refine aK ?_;have h1:¬j<R.length:=by omega
  have h2:R.drop j=[]:=by simp;omega
  simp[h1,h2,vI]
 |m+1,j,may,sure,hj=>by
  refine aK ?_;have g1:j<R.length:=by omega
  obtain⟨r,hrj⟩:=gE g1;have a1:=bx (f:=cQ.enc) (w:=10) hrj;have al:(fM R cQ.enc).length=R.length*10:=dF (f:=cQ.enc) (w:=10) R;have aq:10<=R.length*10-j*10:=by omega
  have w1:=cj g1;have hrr:=hr r (ah hrj);have ih:=λmay sure=>Ud hsg hR hG1 hG2 hl hs hr hn m (j+1) may sure (by omega)
  rw[bj hrj];simp[g1,a1,al,aq,hsg,hG1];refine WL.tg (adg hsg hG1 hG2 (J:=J) (R:=R) (l:=l) (now:=now) (may:=may) (sure:=sure) (j:=j) hl hs hrr hn l.length 0 0 0 (by omega) (by omega) (by omega)) ?_;rintro x e J' ⟨rfl,rfl,e1,e2,e6,e7,e10,e11,e12,e36,e37,e38⟩;simp only[az,cr]at e11 e12;simp only[vI];by_cases c1:r.count<=Ai (sO r now) l
  .by_cases c2:r.count<=Ai (lQ r now) l
   .simp[e1,e2,e6,e7,e10,e11,e12,e36,e37,e38,c1,c2,w1];exact WL.tg (ih (max may r.Ol) (max sure r.Ol)) λx e J' hh=>by simpa[c1,c2]using hh
   .simp[e1,e2,e6,e7,e10,e11,e12,e36,e37,e38,c1,c2,w1];exact WL.tg (ih (max may r.Ol) sure) λx e J' hh=>by simpa[c1,c2]using hh
  .by_cases c2:r.count<=Ai (lQ r now) l
   .simp[e1,e2,e6,e7,e10,e11,e12,e36,e37,e38,c1,c2,w1];exact WL.tg (ih may (max sure r.Ol)) λx e J' hh=>by simpa[c1,c2]using hh
   .simp[e1,e2,e6,e7,e10,e11,e12,e36,e37,e38,c1,c2,w1];exact WL.tg (ih may sure) λx e J' hh=>by simpa[c1,c2]using hh
theorem PA{lv:Nat}{G:List aw.aF}{R:List cQ}{l:List Ev}{now:Int}(hsg:eK J lv=some G)(hG1:G[1]?=some (.cells R.length (fM R cQ.enc)))(hG2:G[2]?=some (.cells l.length (fM l Ev.enc)))(hR:R.length<=9223372036854775807)(hl:l.length<=9223372036854775807)(hs:∀e∈l,e.sp.length<=9223372036854775807):
  Cl 76 [.sl lv 1 R.length 0 R.length 10,.sl lv 2 l.length 0 l.length 2,iI now] (if kF R l now=0 then .cS [.int .u8 (Ny R l now),.int .u8 (Pm R l now),iI 0]else .cS [.int .u8 0,.int .u8 0,iI (kF R l now)]) J:=by
 refine an ?_;have hlt:=z8 hsg;have hne:¬J.length=lv:=by omega
 have hsg':eK ([]::J) lv=some G:=by simp[eK,hne,hsg]
 have hAR:=K1 (T:=T) (enc:=cQ.enc) (w:=10) (λ_=>rfl) (F:=G) (bi:=1) (v:=R.length) (l:=R) (p:=cQ.ok) (fv:=.fn 115 [] []) (f:=114) (g:=150) (h:=149) (i:=191) rfl rfl rfl rfl hG1 hR (.fn λr _ J=>PR) rfl (J:=[]::J) hsg';have hAE:=K1 (T:=T) (enc:=Ev.enc) (w:=2) (λ_=>rfl) (F:=G) (bi:=2) (v:=l.length) (l:=l) (p:=Ev.ok) (fv:=.fn 117 [] []) (f:=116) (g:=153) (h:=152) (i:=192) rfl rfl rfl rfl hG2 hl (.fn λr hr J=>PI (hs r hr)) rfl (J:=[]::J) hsg';by_cases c1:20<R.length
 .have c1':(20:Int)<R.length:=by omega
  simp[kF,c1,c1']
 have c1':¬(20:Int)<R.length:=by omega
 cases c2:dz R cQ.ok
 .simp[kF,c1,c1',hAR,c2]
 by_cases c3:200<l.length
 .have c3':(200:Int)<l.length:=by omega
  simp[kF,c1,c1',hAR,c2,c3,c3']
 have c3':¬(200:Int)<l.length:=by omega
 cases c4:dz l Ev.ok
 .simp[kF,c1,c1',hAR,c2,c3,c3',hAE,c4]
 cases c5:bI now 0 1000000
 .simp[kF,c1,c1',hAR,c2,c3,c3',hAE,c4,iq,c5]
 have he:kF R l now=0:=by simp[kF,c1,c2,c3,c4,c5]
 rw[if_pos he];simp[c1',hAR,c2,c3',hAE,c4,iq,c5];refine WL.tg (Ud (J:=[]::J) (lv:=lv) (G:=G) hsg' (R:=R) (l:=l) (now:=now) (by omega) hG1 hG2 (by omega) ?_ (ff.1 c2) c5 R.length 0 0 0 (by omega)) ?_
 .intro e he;have:=ff.1 c4 e he;simp only[Ev.ok,af,aS]at this;omega
 .rintro x e J' ⟨rfl,rfl,e6,e7⟩;simp[e6,e7,Ny,Pm]
end
end Go.Proofs.YtpapbbojmclkgaaGreatDoor
namespace Go.cY
open Go Go.aw Go.aD
def fp(b:Bk):Int:=if ba.kF b.rules b.pr b.av.length=0 then ba.Ny b.rules b.pr b.av.length else 0
def lY(b:Bk):Int:=if fp b=0 then b.k0 else if fp b=1 then b.k1 else b.k2
def iY(jf n:Int):Int:=if n<0 then -((-n*jf).tdiv 1000)else n
theorem Q5{f:ba.cQ->ba.Ev->Bool}{l:List ba.Ev}:∀{R:List ba.cQ} {a:Int},(∀r∈R,r.ok=true)->0<=a/\a<=2->0<=ba.vI f l R a/\ba.vI f l R a<=2
 |[],a,_,h=>h
 |r::R,a,hr,h=>by
  have h1:=(ba.zZ.1 (hr r (by simp))).2.2.2.2;simp only[ba.vI];refine Q5 (λr' h'=>hr r' (by simp[h'])) ?_;split
  .rcases h1 with h1 | h1<;>omega
  .exact h
theorem Fj{b:Bk}:0<=fp b/\fp b<=2:=by
 unfold fp;split
 .rename_i h;refine Q5 (λr hr=>?_) (by omega);unfold ba.kF at h;split at h
  .omega
  .split at h
   .omega
   .rename_i h2;exact ff.1 (by simpa using h2) r hr
 .omega
end Go.cY
namespace Go.Proofs.YtpapbbojmclkgaaGreatDoor
section
open Go Go.aw Go.aD Go.cY
variable {J:SK}
theorem PG{b:Bk}{er:List Int}{S:SK}(h1:b.rules.length<=1000000)(h2:b.pr.length<=1000000)(h3:∀e∈b.pr,e.sp.length<=1000000)(hs:eK S J.length=some (b.bC J.length er)):
  Cl 43 [.ref J.length 6 0 0] (.int .u8 (fp b)) S:=by
 refine an ?_;have hlt:=z8 hs;have hne:¬S.length=J.length:=by omega
 have h:=PA (J:=[]::S) (lv:=J.length) (G:=b.bC J.length er) (R:=b.rules) (l:=b.pr) (now:=b.av.length) (by simp[eK,hne,hs]) (by simp[Bk.bC]) (by simp[Bk.bC]) (by omega) (by omega) (λe he=>by have:=h3 e he;omega);have hc6:(b.bC J.length er)[6]?=some (.cells 0 (b.cells J.length)):=by simp[Bk.bC]
 unfold fp;by_cases hc:ba.kF b.rules b.pr b.av.length=0
 .rw[if_pos hc]at h;simp[hne,hs,hc6,Bk.cells,h,hc]
 .rw[if_neg hc]at h;simp[hne,hs,hc6,Bk.cells,h,hc]
def Dv(J:SK)(bp X:D)(jf:Int)(acc rest:List Int)(x:aw.Exit)(e:Env)(J':SK):Prop :=
 if dz rest (λn=>bI n (-100000) 100000)=true then
  x=.exit 0/\get e 0=bp/\get e 6=X/\get e 8=.sl J.length 0 (acc++rest.map (iY jf)).length 0 (acc++rest.map (iY jf)).length 1/\J'=[.cells (acc++rest.map (iY jf)).length (fM (acc++rest.map (iY jf)) aQ)]::J
 else x=.fy (rf 2)/\∃s,J'=s::J
theorem N9{l:List Int}{jf:Int}(hk:0<=jf/\jf<=1000)(hl:l.length<=1000000){bp X:D}(hb:bp.calm=bp)(hx:X.calm=X):∀(m i:Nat) (acc:List Int),i+m=l.length->acc.length=i ->
  WL T [0,6,7,8,49,50,51] false mA [(0,bp),(6,X),(7,iI jf),(8,.sl J.length 0 i 0 i 1),(49,lF l aQ),(50,iI l.length),(51,iI i)] ([.cells i (fM acc aQ)]::J)
   (Dv J bp X jf acc (l.drop i))
 |0,i,acc,hi,ha=>by
  refine aK ?_;obtain rfl:i=l.length:=by omega
  have h5:l.drop l.length=[]:=ec;simp[h5,Dv,ha,hb,hx,dz]
 |m+1,i,acc,hi,ha=>by
  refine aK ?_;have hlt:i<l.length:=by omega
  obtain⟨n,hn⟩:=gE hlt;have h4:=cj hlt;have h5:=bj hn;have a1:=bx (f:=aQ) (w:=1) hn;simp only[aQ,bR]at a1;rw[h5];have hr:(i+1)*8<=room:=by unfold room;omega
  cases hc:bI n (-100000) 100000 with
  |false =>
   simp[hlt,a1,hb,hx,eU,hc,dU,Dv,dz]
  |true =>
   have hn2:=aS.1 hc;have hcl:(fM acc aQ).length=i:=by simp[nL (f:=aQ) (w:=1) (λ_=>rfl),ha]
   have ht:(fM acc aQ).take i=fM acc aQ:=cZ;have ih:=N9 hk hl hb hx m (i+1) (acc++[iY jf n]) (by omega) (by simp[ha]);have fin:∀x e J',Dv J bp X jf (acc++[iY jf n]) (l.drop (i+1)) x e J'->Dv J bp X jf acc (n::l.drop (i+1)) x e J':=λx e J' hh=>by
    simp only[Dv,dz,jb,hc,Bool.true_and,aL,bX,cm]at hh ⊢;exact hh
   by_cases hneg:n<0
   .have e0:=bV (n := -n);have p1:0 <= -n*jf:=bF (by omega) hk.1;have p2 : -n*jf<=100000*1000:=cA (by omega) hk.2 hk.1 (by omega);have e1:=bV (n := -n*jf);have e2:(-n*jf).tdiv 1000 = -n*jf / 1000:=aN p1;have e3:=bV (n := -n*jf / 1000);have e4:=bV (n := -(-n*jf / 1000));have e5:iY jf n = -(-n*jf / 1000):=by rw[iY,if_pos hneg,e2]
    rw[e5]at ih fin;generalize hq : -n*jf=q at e1 e2 e3 e4 ih fin;simp[hlt,a1,hb,hx,eU,hc,da,hneg,e0,hq,e1,e2,e3,e4,hr,h4,hcl,ht];exact WL.to ih (by simp) (by simp) fin
   .have e5:iY jf n=n:=by rw[iY,if_neg hneg]
    rw[e5]at ih fin;simp[hlt,a1,hb,hx,eU,hc,da,hneg,hr,h4,hcl,ht];exact WL.to ih (by simp) (by simp) fin
theorem LO(l:List (List Int)):(fM l pE).length=l.length:=by have:=dF (f:=pE) (w:=1) l;omega
theorem KE{bs:List aw.aF}:di T (.call true 213 [.bB] (bs::J))=some (.val (.sl J.length (bs.length+1) 0 0 0 1) ((bs++[.cells 0 [],.cells 0 []])::J)):=by
 refine mh rfl rfl rfl ?_;simp
theorem MQ{bs:List aw.aF}{l:List (List Int)}(hne:l≠[])(hl:l.length<=1000000):di T (.call true 213 [lF l pE] (bs::J)) =
  some (.val (.sl J.length (bs.length+1) 1 0 l.length 1) ((bs++[.cells 0 [],.cells 1 (fM l pE)])::J)):=by
 refine mh rfl rfl rfl ?_;have h7:l.length*24<=room:=by unfold room;omega
 simp[hne,LO,h7]
theorem SP:J3=pE:=rfl
structure Sz(b:Bk):Prop where
 dX:b.aT.dX.length<=1000000000
 ar:b.aT.ar.length<=1000000
 ms:∀e∈b.ai,e.m.name.length<=1000000000/\e.m.dG.length<=1000000000
theorem Wt(b:b9)(m:ck)(av:List (List Int)):∃x y,CC b m av=.agg [x,y]/\x.clean=true/\y.clean=true:=by
 unfold CC;split
 .split
  .refine⟨_,_,rfl,?_,?_⟩<;>simp[fD (f:=kM) (λs=>by simp[kM,fD (f:=aD.aF.enc) (λ_=>by simp[D.clean])])]
  .exact⟨_,_,rfl,rfl,rfl⟩
 .exact⟨_,_,rfl,rfl,rfl⟩
theorem N8{b:Bk}{er:List Int}{ls:List ep}{av:List (List Int)}(ht:b.aT.dX≠[])(hz:Sz b)(hm:∀e∈ls,e∈b.ai)(hl:ls.length<=1000000)(hp:av.length<=1000000000)(hpl:∀l∈av,l.length<=1000000000){S:SK}(hs:eK S J.length=some (b.bC J.length er)):∀(m i:Nat),i+m=ls.length ->
  WL T [0,11,80,81,82] false mB [(0,.ref J.length 6 0 0),(11,lF av pE),(80,lF ls ep.enc),(81,iI ls.length),(82,iI i)] S
   (λx e J'=>J'=S/\if b8 (λe=>kV b.aT e.m av) (ls.drop i)=0 then x=.exit 2/\get e 0=.ref J.length 6 0 0/\get e 11=lF av pE else x=.fy (rf (b8 (λe=>kV b.aT e.m av) (ls.drop i))))
 |0,i,hi=>by
  refine aK ?_;have h1:¬i<ls.length:=by omega
  have h2:ls.drop i=[]:=ec;simp[h1,h2,b8]
 |m+1,i,hi=>by
  refine aK ?_;have h1:i<ls.length:=by omega
  obtain⟨e,he⟩:=gE h1;have hem:=hm e (ah he);obtain⟨k1,k2⟩:=hz.ms e hem;have hfl:=bx (f:=ep.enc) (w:=4) he;have hd:=bj he;have h4:=cj h1;have hlt:=z8 hs;have hne:S≠[]:=by intro h;subst h;simp at hlt
  have hP:=W6 (J:=S) (b:=b.aT) (m:=e.m) (av:=av) (wq:=nl bN.enc b.aT.ar) j6 hz.dX (by have:=hz.ar;omega) k1 k2 hp hpl hne;have hc6:(b.bC J.length er)[6]?=some (.cells 0 (b.cells J.length)):=by simp[Bk.bC]
  obtain⟨px,py,hx,hx1,hx2⟩:=Wt b.aT e.m av;rw[hx,SP]at hP;have ih:=N8 ht hz hm hl hp hpl hs m (i+1) (by omega);have hlt':=eD (f:=Rw.enc) ht;rw[hd,b8];by_cases hc:kV b.aT e.m av=0
  .rw[hc]at hP;simp[h1,hfl,h4,hs,hc6,Bk.cells,hlt',hP,mW,hc];exact WL.tg ih λx e' J' hh=>by simpa[hc]using hh
  .have hM:=oj (J:=S) hc;simp[h1,hfl,hs,hc6,Bk.cells,hlt',hP,hM,hc,rf]
def JR(b:Bk)(av:List (List Int)):Bk:={b with av:=av }
def dJ(b:Bk)(l:List Int):List (List Int):=b.av++[l.map (iY (lY b))]
def lP(b:Bk)(l:List Int):Bk×Int :=
 if cp b.ai=[]then(b,8)else if b.av.length<200 then(if l.length=b.aT.ar.length then(if dz l (λn=>bI n (-100000) 100000)=true then
  (if b8 (λe=>kV b.aT e.m (dJ b l)) (cp b.ai)=0 then(JR b (dJ b l),0)else(b,b8 (λe=>kV b.aT e.m (dJ b l)) (cp b.ai)))else(b,2))else(b,1))else(b,3)
theorem QG{f:D->SK->D×SK}{a b:List D}{S:SK}:cK.frzL f (a++b) S=((cK.frzL f a S).1++(cK.frzL f b (cK.frzL f a S).2).1,(cK.frzL f b (cK.frzL f a S).2).2):=by
 induction a generalizing S with
 |nil=>simp
 |cons d a ih=>simp[ih]
theorem YF{l:List (List Int)}:D.bh (fM l pE)=true:=fD (f:=pE) (λx=>by simp[pE,D.clean,lO]) l
theorem Nl{S:SK}{L v n:Nat}(hS:S.length=L)(hL:0<L){av:List (List Int)}(hn:n=av.length+1){r:List Int}{M:aw.aF}:
  cK 0 16 (.sl L 2 v 0 n 1) ([.cells r.length (fM r aQ),M,.cells v (fM av pE++[.sl L 0 r.length 0 r.length 1])]::S)=(.bZ n (fM (av++[r]) pE),[.dead,M,.dead]::S):=by
 have hne:S≠[]:=by intro h;subst h;simp at hS;omega
 subst hn;have hc:cells? ([aw.aF.cells r.length (fM r aQ),M,.cells v (fM av pE++[.sl L 0 r.length 0 r.length 1])]::S) L 2 v=some (fM av pE++[.sl L 0 r.length 0 r.length 1]):=by simp[hS]
 rw[amP hL hc];have h3:¬L<=0:=by omega
 have h1:=GI (l:=0) (n:=15) (l':=L) (i:=0) (v:=r.length) (off:=0) (m:=r.length) (w:=1) (J:=[aw.aF.cells r.length (fM r aQ),M,.dead]::S) (cs:=fM r aQ) h3 (by simp[hS]) (by omega);have ht:(fM r aQ).take r.length=fM r aQ:=aW (by rw[nN];omega);have hp:=LO av;have ht2:(fM av pE).take (av.length+1)=fM av pE:=cZ;simp[hS,QG,YF,h1,ht,hp,ht2,lO,pE,List.take_append]
theorem abk{F:List aw.aF}{b:Bk}{er:List Int}{nm:List UInt8}{l:List Int}{b':Bk}{e:Int}(ht:b.aT.dX≠[])(hz:Sz b)(hll:l.length<=1000000)(hml:b.ai.length<=40)(h1:b.rules.length<=1000000)(h2:b.pr.length<=1000000)(h3:∀e∈b.pr,e.sp.length<=1000000)(hk:ba.fB b.k0 b.k1 b.k2=true)(hpl:∀l∈b.av,l.length<=1000000000)(hd:lP b l=(b',e))(he:e=0):
  di T (.call false 169 [.ref J.length 6 0 0,.str nm,lF l aQ] (F::b.bC J.length er::J))=some (.val (.cS []) (F::b'.bC J.length er::J)):=by
 refine eZ rfl rfl rfl (by simp) ?_;unfold lP at hd;split at hd
 case isTrue=>cases hd;cases he
 rename_i c1;split at hd
 case isFalse=>cases hd;cases he
 rename_i c2;split at hd
 case isFalse=>cases hd;cases he
 rename_i c3;split at hd
 case isFalse=>cases hd;cases he
 rename_i c4;split at hd
 case isFalse=>cases hd;rename_i h;exact absurd he h
 rename_i c5;cases hd;obtain⟨kp0,kp,hkp,hkp2,hkp3⟩:∃c kp:Int,fp b=c/\lY b=kp/\((c=0/\kp=b.k0)\/(c=1/\kp=b.k1)\/(c=2/\kp=b.k2)):=by
  refine⟨_,_,rfl,rfl,?_⟩;have:=Fj (b:=b);unfold lY;split
  .rename_i h;exact .inl ⟨h,rfl⟩
  .split
   .rename_i h;exact .inr (.inl ⟨h,rfl⟩)
   .refine .inr (.inr ⟨by omega,rfl⟩)
 have hkb:0<=kp/\kp<=1000:=by
  simp only[ba.fB,af,au]at hk;rcases hkp3 with⟨_,rfl⟩ | ⟨_,rfl⟩ | ⟨_,rfl⟩<;>omega
 have q1:0<(cp b.ai).length:=aG.2 c1;have q2:(b.av.length:Int)<200:=by omega
 have hC:=λS=>PG (J:=J) (b:=b) (er:=er) (S:=S) h1 h2 h3
 try simp only[Cl]at hC
 have hLf:=λS=>Iu (J:=J) (b:=b) (er:=er) (S:=S) (by omega)
 try simp only[lF,Cl]at hLf
 have hR:=N9 (J:=F::b.bC J.length er::J) hkb hll (bp:=.ref J.length 6 0 0) (X:=lF (cp b.ai) ep.enc) rfl rfl l.length 0 [] (by omega) rfl
 try simp only[lF]at hR
 rw[az]at hR;rw[hkp]at hC;simp only[Bk.bC,Bk.cells]at hC hLf;have hw:(b.aT.ar.length:Int)=(l.length:Int):=by omega
 rcases hkp3 with⟨rfl,e2⟩ | ⟨rfl,e2⟩ | ⟨rfl,e2⟩
 all_goals
  subst e2;simp[Bk.bC,Bk.cells,hLf,q1,q2,hw,hC,da];refine WL.to hR (by simp) (by simp[Bk.bC,Bk.cells]) ?_;intro x e J' hq;simp only[Dv,if_pos c4,List.nil_append]at hq;obtain⟨rfl,g0,g6,g8,rfl⟩:=hq;have hnp:dJ b l=b.av++[l.map (iY (lY b))]:=rfl;rw[hkp2]at hnp;rw[hnp]at c5 ⊢;generalize hrs:l.map (iY _)=rs at g8 c5 ⊢;have hrl:rs.length=l.length:=by rw[<- hrs];simp
  have⟨hroom,h24⟩:(b.av.length+1)*24<=room/\24<=room:=by unfold room;omega
  have hpel:=LO b.av;have htk:(fM b.av pE).take b.av.length=fM b.av pE:=cZ;have hfr:=λS v hS=>Nl (S:=S) (L:=J.length+1+1) (v:=v) (n:=b.av.length+1) hS (by omega) (av:=b.av) rfl (r:=rs) (M:=.cells 0 [])
  have hLp:=N8 (J:=J) (b:=b) (er:=er) (ls:=cp b.ai) (av:=b.av++[rs]) ht hz (λe he=>(db.1 he).1) (by have:=fG (λe:ep=>e.left) b.ai;simp only[cp];omega) (by simp;omega) (by
   intro r hr;rcases aU.1 hr with hr | hr
   .exact hpl r hr
   .simp at hr;subst hr;omega) (S:=[.dead,.cells 0 [],.dead]::F::b.bC J.length er::J) (by simp[eK]) (cp b.ai).length 0 (by omega)
  try simp only[lF]at hLp
  rw[az]at hLp;have hcl:∀k,(D.bZ k (fM b.av pE++pE rs)).clean=true:=λk=>by simp[FR,YF,pE,lO]
  have hcl0:∀k,(D.bZ k (pE rs)).clean=true:=λk=>by simp[pE,lO]
  have hnl2:=eD (f:=pE) (l:=b.av++[rs]) (by simp)
  try simp only[lF]at hnl2
  simp only[aP,aB,bd,ln,cT,mZ,dq]at hnl2;by_cases hp0:b.av=[]
  .have hnl:nl pE b.av=.bB:=by simp[nl,hp0]
   have hfr':=hfr;simp only[hp0,bd,mZ,List.nil_append,cr]at hfr';simp[g0,g6,g8,Bk.bC,Bk.cells,hnl,KE,h24,hfr'];refine WL.to hLp (by simp[hp0]) (by simp[Bk.bC,Bk.cells,hnl]) ?_;rintro x e J' ⟨rfl,hh⟩;rw[c5,if_pos rfl]at hh;obtain⟨rfl,j0,j11⟩:=hh;simp[j0,j11,Bk.bC,Bk.cells,JR,hnl,hnl2,hcl]
  .simp[g0,g6,g8,Bk.bC,Bk.cells,eD hp0,MQ hp0 (by omega:b.av.length<=1000000),hroom,hpel,htk,hfr];refine WL.to hLp (by simp) (by simp[Bk.bC,Bk.cells,eD hp0]) ?_;rintro x e J' ⟨rfl,hh⟩;rw[c5,if_pos rfl]at hh;obtain⟨rfl,j0,j11⟩:=hh;simp[j0,j11,Bk.bC,Bk.cells,JR,eD hp0,hnl2,hcl]
theorem XU{F:List aw.aF}{b:Bk}{er:List Int}{nm:List UInt8}{l:List Int}{b':Bk}{e:Int}(ht:cp b.ai≠[]->b.aT.dX≠[])(hz:Sz b)(hll:l.length<=1000000)(hml:b.ai.length<=40)(h1:b.rules.length<=1000000)(h2:b.pr.length<=1000000)(h3:∀e∈b.pr,e.sp.length<=1000000)(hk:ba.fB b.k0 b.k1 b.k2=true)(hpl:∀l∈b.av,l.length<=1000000000)(hd:lP b l=(b',e))(he:e≠0):
  di T (.call false 169 [.ref J.length 6 0 0,.str nm,lF l aQ] (F::b.bC J.length er::J))=some (.fy (rf e) (F::b.bC J.length er::J)):=by
 refine ej rfl rfl rfl ?_;have hLf:=λS=>Iu (J:=J) (b:=b) (er:=er) (S:=S) (by omega)
 try simp only[lF,Cl]at hLf
 simp only[Bk.bC,Bk.cells]at hLf;unfold lP at hd;split at hd
 case isTrue c1 =>
  cases hd;simp[Bk.bC,Bk.cells,hLf,c1,dU,D.clean,rf]
 rename_i c1;have ht:=ht c1;have q1:0<(cp b.ai).length:=aG.2 c1;split at hd
 case isFalse c2 =>
  cases hd;have q2:¬(b.av.length:Int)<200:=by omega
  simp[Bk.bC,Bk.cells,hLf,q1,q2,da,dU,D.clean,rf]
 rename_i c2;have q2:(b.av.length:Int)<200:=by omega
 split at hd
 case isFalse c3 =>
  cases hd;have q3:((l.length:Int) == (b.aT.ar.length:Int))=false:=by simp;omega
  simp[Bk.bC,Bk.cells,hLf,q1,q2,q3,da,dU,D.clean,rf]
 rename_i c3;obtain⟨kp0,kp,hkp,hkp2,hkp3⟩:∃c kp:Int,fp b=c/\lY b=kp/\((c=0/\kp=b.k0)\/(c=1/\kp=b.k1)\/(c=2/\kp=b.k2)):=by
  refine⟨_,_,rfl,rfl,?_⟩;have:=Fj (b:=b);unfold lY;split
  .rename_i h;exact .inl ⟨h,rfl⟩
  .split
   .rename_i h;exact .inr (.inl ⟨h,rfl⟩)
   .refine .inr (.inr ⟨by omega,rfl⟩)
 have hkb:0<=kp/\kp<=1000:=by
  simp only[ba.fB,af,au]at hk;rcases hkp3 with⟨_,rfl⟩ | ⟨_,rfl⟩ | ⟨_,rfl⟩<;>omega
 have hC:=λS=>PG (J:=J) (b:=b) (er:=er) (S:=S) h1 h2 h3
 try simp only[Cl]at hC
 have hR:=N9 (J:=F::b.bC J.length er::J) hkb hll (bp:=.ref J.length 6 0 0) (X:=lF (cp b.ai) ep.enc) rfl rfl l.length 0 [] (by omega) rfl
 try simp only[lF]at hR
 rw[az]at hR;rw[hkp]at hC;simp only[Bk.bC,Bk.cells]at hC;have hw:(b.aT.ar.length:Int)=(l.length:Int):=by omega
 split at hd
 case isFalse c4 =>
  cases hd;have c4':¬dz l (λn=>bI n (-100000) 100000)=true:=c4;rcases hkp3 with⟨rfl,e2⟩ | ⟨rfl,e2⟩ | ⟨rfl,e2⟩
  all_goals
   subst e2;simp[Bk.bC,Bk.cells,hLf,q1,q2,hw,hC,da];refine WL.to hR (by simp) (by simp[Bk.bC,Bk.cells]) ?_;intro x e J' hq;simp only[Dv,if_neg c4']at hq;obtain⟨rfl,s,rfl⟩:=hq;simp[Bk.bC,Bk.cells,D.clean,rf]
 rename_i c4;split at hd
 case isTrue=>cases hd;exact absurd rfl he
 rename_i c5;cases hd;have hM:=λS=>oj (J:=S) c5
 have he':=c5;rcases hkp3 with⟨rfl,e2⟩ | ⟨rfl,e2⟩ | ⟨rfl,e2⟩
 all_goals
  subst e2;simp[Bk.bC,Bk.cells,hLf,q1,q2,hw,hC,da];refine WL.to hR (by simp) (by simp[Bk.bC,Bk.cells]) ?_;intro x e J' hq;simp only[Dv,if_pos c4,List.nil_append]at hq;obtain⟨rfl,g0,g6,g8,rfl⟩:=hq;have hnp:dJ b l=b.av++[l.map (iY (lY b))]:=rfl;rw[hkp2]at hnp;rw[hnp]at c5 ⊢;generalize hrs:l.map (iY _)=rs at g8 c5 ⊢;have hrl:rs.length=l.length:=by rw[<- hrs];simp
  have⟨hroom,h24⟩:(b.av.length+1)*24<=room/\24<=room:=by unfold room;omega
  have hpel:=LO b.av;have htk:(fM b.av pE).take b.av.length=fM b.av pE:=cZ;have hfr:=λS v hS=>Nl (S:=S) (L:=J.length+1+1) (v:=v) (n:=b.av.length+1) hS (by omega) (av:=b.av) rfl (r:=rs) (M:=.cells 0 [])
  have hLp:=N8 (J:=J) (b:=b) (er:=er) (ls:=cp b.ai) (av:=b.av++[rs]) ht hz (λe he=>(db.1 he).1) (by have:=fG (λe:ep=>e.left) b.ai;simp only[cp];omega) (by simp;omega) (by
   intro r hr;rcases aU.1 hr with hr | hr
   .exact hpl r hr
   .simp at hr;subst hr;omega) (S:=[.dead,.cells 0 [],.dead]::F::b.bC J.length er::J) (by simp[eK]) (cp b.ai).length 0 (by omega)
  try simp only[lF]at hLp
  rw[az]at hLp;have hcl:∀k,(D.bZ k (fM b.av pE++pE rs)).clean=true:=λk=>by simp[FR,YF,pE,lO]
  have hcl0:∀k,(D.bZ k (pE rs)).clean=true:=λk=>by simp[pE,lO]
  have hnl2:=eD (f:=pE) (l:=b.av++[rs]) (by simp)
  try simp only[lF]at hnl2
  simp only[aP,aB,bd,ln,cT,mZ,dq]at hnl2;generalize herr:b8 (λe=>kV b.aT e.m (b.av++[rs])) (cp b.ai)=err at c5 ⊢;have hrc:(D.ua 200 (.agg [iI err])).clean=true:=rfl;by_cases hp0:b.av=[]
  .have hnl:nl pE b.av=.bB:=by simp[nl,hp0]
   have hfr':=hfr;simp only[hp0,bd,mZ,List.nil_append,cr]at hfr';simp[g0,g6,g8,Bk.bC,Bk.cells,hnl,KE,h24,hfr'];refine WL.to hLp (by simp[hp0]) (by simp[Bk.bC,Bk.cells,hnl]) ?_;rintro x e J' ⟨rfl,hh⟩;rw[herr,if_neg c5]at hh;subst hh;simp[Bk.bC,Bk.cells,rf,hrc,hnl]
  .simp[g0,g6,g8,Bk.bC,Bk.cells,eD hp0,MQ hp0 (by omega:b.av.length<=1000000),hroom,hpel,htk,hfr];refine WL.to hLp (by simp) (by simp[Bk.bC,Bk.cells,eD hp0]) ?_;rintro x e J' ⟨rfl,hh⟩;rw[herr,if_neg c5]at hh;subst hh;simp[Bk.bC,Bk.cells,rf,hrc,eD hp0]
end
section
open Go Go.aw Go.aD
variable {J:SK}
def DD(t:Int×Int×Int):List D:=[iI t.1,iI t.2.1,iI t.2.2]
theorem ac5(l:List (Int×Int×Int)):(fM l DD).length=l.length*3:=dF (f:=DD) (w:=3) l
theorem VG{b:b9}{x:sX}{n:Nat}(h:Bv b)(hw:0<=x.jK/\x.jK<=255):
  Cl 254 [.agg (bL b),.agg x.enc,iI n] (iI (fj b n x)) J:=by
 refine an ?_;have hs:=λJ=>B0 (J:=J) h
 have hz:=h.sz;have hn:=h.n;have hwl:=h.ar;have w1:=bV (n:=x.jK);have w2:=bV (n:=(b.n:Int)-1);have w3:=bV (n:=(b.ar.length:Int)-1);unfold fj;cases c1:bI x.jK 1 4
 .simp[dY,w1,c1]
 by_cases c2:x.lo < -10000000000
 .simp[dY,w1,c1,c2]
 by_cases c3:x.hi<x.lo
 .simp[dY,w1,c1,c2,c3]
 by_cases c4:10000000000<x.hi
 .simp[dY,w1,c1,c2,c3,c4]
 have hsz:b.size=(b.n:Int):=hz;by_cases c5:x.jK=1
 .cases c6:bI x.tick 0 n
  .simp[dY,show bI 1 1 4=true from rfl,c2,c3,c4,c5,c6,hs]
  .cases c7:bI x.idx 0 ((b.n:Int)-1)<;>
    simp[dY,w2,show bI 1 1 4=true from rfl,c2,c3,c4,c5,c6,c7,hs,hsz]
 .cases c6:bI x.tick 1 n
  .simp[dY,w1,c1,c2,c3,c4,c5,c6]
  .cases c7:bI x.idx 0 ((b.ar.length:Int)-1)<;>
    simp[dY,w1,w3,c1,c2,c3,c4,c5,c6,c7]
theorem aa7{lo hi n:Int}(h1 : -10000000000<=lo/\lo<=10000000000)(h2 : -10000000000<=hi/\hi<=10000000000)(hn : -100000000000000<=n/\n<=100000000000000):
  Cl 256 [.agg [iI lo,iI hi],iI n] (iI (ES lo hi n)) J:=by
 refine an ?_;have w1:=bV (n:=n-hi);have w2:=bV (n:=n-lo);have w3:=bV (n:=max 0 (n-hi)+min 0 (n-lo));simp[w1,w2,w3,ES]
theorem XW{y:aD.aF}(h1:0<=y.m/\y.m<=1000000)(h2:0<=y.h/\y.h<=10000000000):Cl 346 [.agg y.enc] (iI y.G1) J:=by
 refine an ?_;unfold aD.aF.G1;by_cases c:y.m=0
 .simp[c]
 .have e:y.h.tdiv y.m=y.h / y.m:=aN h2.1;have b1:0<=y.h / y.m/\y.h / y.m<=y.h:=⟨Int.ediv_nonneg h2.1 h1.1,Int.ediv_le_self _ h2.1⟩;have w1:=bV (n:=y.h.tdiv y.m);simp[c,w1]
theorem N4:Cl 308 [] (.agg [.pc,.pc,.fn 345 [] [],.fn 346 [] [],.fn 347 [] []]) J:=by
 refine an ?_;simp
theorem aao{y:aD.aF}(h1:0<=y.m/\y.m<=1000000)(h2:0<=y.h/\y.h<=10000000000):0<=y.G1/\y.G1<=10000000000:=by
 unfold aD.aF.G1;split
 .omega
 .rw[aN h2.1];have b1:0<=y.h / y.m/\y.h / y.m<=y.h:=⟨Int.ediv_nonneg h2.1 h1.1,Int.ediv_le_self _ h2.1⟩;omega
theorem U0{b:b9}{m:ck}{r:RunT}{n:Nat}{x:sX}(h:Fv b m)(hr:MZ b n r.1 r.2)(hx:WU b n x):0<=oC b m r x/\oC b m r x<=1000000000000:=by
 unfold oC;split
 .rename_i h1;obtain⟨p1,p2,p3⟩:=hx.p h1;have hz:=h.bv.sz;obtain⟨s1,s2⟩:=ZW hr (t:=x.tick.toNat) (by omega);rw[s1];have:=H3 h s2 (i:=x.idx.toNat) (by unfold b9.size at p3;omega);simp only[Option.getD_some];omega
 .rename_i h1;obtain⟨p1,p2,p3⟩:=hx.y h1;obtain⟨y1,y2⟩:=Ro hr (t:=x.tick.toNat-1) (by omega);have y3:=Vi y2 (w:=x.idx.toNat) (by omega);obtain⟨g1,g2,g3⟩:=y2.ok _ (ah y3);rw[y1];simp only[Option.getD_some,aD.aF.NW];have:=aao g1 g2;split
  .omega
  .split<;>omega
theorem abm{b:b9}{m:ck}{r:RunT}{n:Nat}{x:sX}(h:Fv b m)(hr:MZ b n r.1 r.2)(hx:WU b n x)(hn:n<=200):
  Cl 257 [.agg (bM b m),.agg [lF r.1 kM,lF r.2 kM],.agg x.enc] (iI (oC b m r x)) J:=by
 refine an ?_;unfold oC;have hsl:=hr.sl;have hyl:=hr.yl;by_cases h1:x.jK=1
 .obtain⟨p1,p2,p3⟩:=hx.p h1;have hz:=h.bv.sz;obtain⟨s1,s2⟩:=ZW hr (t:=x.tick.toNat) (by omega);have hP:=λJ=>KI (J:=J) h s2 (i:=x.idx.toNat) (by unfold b9.size at p3;omega)
  rw[dW p2]at hP;have a1:=aad s1;have e2:x.tick<((n:Int)+1):=by omega
  rw[s1];simp[h1,hsl,p1.1,e2,a1,hP]
 .obtain⟨p1,p2,p3⟩:=hx.y h1;obtain⟨y1,y2⟩:=Ro hr (t:=x.tick.toNat-1) (by omega);have y3:=Vi y2 (w:=x.idx.toNat) (by omega);obtain⟨g1,g2,g3⟩:=y2.ok _ (ah y3);have a1:=aad y1;have a4:=bx (f:=aF.enc) (w:=3) y3;have hyw:=y2.len;have w1:=bV (n:=x.tick-1);have⟨e1,e2,e3⟩:0<=x.tick-1/\x.tick-1<(n:Int)/\(x.tick-1).toNat=x.tick.toNat-1:=by omega
  have hw:=hx.jK;rw[if_neg h1,y1];have hA:=λJ=>abo (J:=J) (x:=aR (rowAt r.2 (x.tick.toNat-1)) x.idx.toNat)
  have hK:=λJ=>XZ (J:=J) (x:=aR (rowAt r.2 (x.tick.toNat-1)) x.idx.toNat)
  simp only[aF.enc]at hA hK;rcases(show x.jK=2\/x.jK=3\/x.jK=4 by omega)with h2 | h2 | h2
  .simp[h2,hyl,w1,p1.1,e2,e3,a1,a4,N4,hA,hyw,p2,p3,aD.aF.NW]
  .have hW:=λJ=>XW (J:=J) g1 g2
   simp only[aF.enc]at hW;simp[h2,hyl,w1,p1.1,e2,e3,a1,a4,N4,hW,hyw,p2,p3,aD.aF.NW]
  .simp[h2,hyl,w1,p1.1,e2,e3,a1,a4,N4,hK,hyw,p2,p3,aD.aF.NW]
theorem OW{l:List sX}{j:Nat}{m:sX}(h:l[j]?=some m):((fM l sX.enc).drop (j*5)).take 5=m.enc :=
 bx (f:=sX.enc) (w:=5) h
theorem VN{A B:aw.aF}:di T (.Ar 251 [.ref J.length 2 0 0] (some (.ua 428 (.agg []))) ([A,B,.cells 0 [iI 0]]::J))=some (.val (.cS []) ([A,B,.cells 0 [iI 9]]::J)):=by
 refine Ed rfl rfl rfl (by simp[qU];exact⟨rfl,rfl⟩) ?_;simp
theorem YG(l:List sX):D.bh (fM l sX.enc)=true:=fD (λx=>by simp) l
theorem Uv(l:List (List Int)):D.bh (fM l J3)=true:=fD (λx=>by simp[J3,D.clean,lO]) l
theorem EC{l0 L i w n:Nat}{S:SK}(hn:0<n)(h:¬L<=l0)(hc:cells? S L i 0=some []):cK l0 n (.sl L i 0 0 0 w) S=(.bZ 0 [],bw S L i .dead):=by
 rw[GI h hc hn];simp
theorem UA{l0 L i w:Nat}{S:SK}(h:¬L<=l0)(hc:cells? S L i 0=some []):cK l0 16 (.sl L i 0 0 0 w) S=(.bZ 0 [],bw S L i .dead):=EC (by omega) h hc
theorem Yc{b:b9}{l:List ck}{av:List (List Int)}{rd:List sX}(h:Ok b l av)(hl:rd.length<=40)(hw:∀x∈rd,0<=x.jK/\x.jK<=255){A B:aw.aF}:∀(k i:Nat),i+k=rd.length ->
  WL T [1,2,3,4,8,9,10,32,33,34] true kf [(1,lF l ck.enc),(2,lF av J3),(3,lF rd sX.enc),(4,.bq (bL b)),(8,.sl J.length 0 0 0 0 1),(9,.sl J.length 1 0 0 0 3),(10,.ref J.length 2 0 0),(32,lF rd sX.enc),(33,iI rd.length),(34,iI i)] ([A,B,.cells 0 [iI 0]]::J)
   (λx e J'=>if b8 (fj b av.length) (rd.drop i)=0 then x=.exit 0/\J'=[A,B,.cells 0 [iI 0]]::J/\get e 1=lF l ck.enc/\get e 2=lF av J3/\get e 3=lF rd sX.enc/\get e 4=.bq (bL b)/\get e 8=.sl J.length 0 0 0 0 1/\get e 9=.sl J.length 1 0 0 0 3/\get e 10=.ref J.length 2 0 0
    else x=.ret/\get e 8=.bZ 0 []/\get e 9=.bZ 0 []/\get e 10=.ref J.length 2 0 0/\J'=[A,B,.cells 0 [iI (b8 (fj b av.length) (rd.drop i))]]::J):=by
 intro k;induction k with
 |zero =>
  intro i hi;refine G5 kf.eq_1 ?_;have h1:¬i<rd.length:=by omega
  have h2:rd.drop i=[]:=ec;simp[h1,h2,b8,YD,YG,DJ,yq,Uv]
 |succ k ih0 =>
  intro i hi;refine G5 kf.eq_1 ?_;have h1:i<rd.length:=by omega
  obtain⟨x,hx⟩:=gE h1;have h2:=OW hx;have h4:=cj h1;have h5:=bj hx;have hC:=λJ=>VG (J:=J) (n:=av.length) h.bv (hw x (ah hx))
  simp only[sX.enc]at h2 hC;have ih:=ih0 (i+1) (by omega);rw[h5,b8];by_cases hc:fj b av.length x=0
  .simp[h1,h2,h4,hC,hc,YD,YG,DJ,yq,Uv];exact WL.ts ih λx e J hh=>by simpa[hc]using hh
  .simp[h1,h2,hC,hc];have z:=UA (l0:=J.length) (L:=J.length+1) (i:=0) (w:=1) (S:=[.cells 0 [],.cells 0 []]::[A,B,.cells 0 [iI (fj b (av.length:Int) x)]]::J) (by omega) (by simp);simp at z;rw[z];simp only[];rw[UA (by omega) (by simp)];simp
abbrev Tri:=Int×Int×Int
def CI(i n:Nat):Nat->List Int->Nat×List Tri->Nat×List Tri
 |_,[],st=>st
 |k,v::vs,st=>CI i n (k+1) vs (if v≠0/\st.1=n then(k,st.2++[((i:Int),(k:Int),v)])else st)
theorem L5{i n:Nat}:∀(vs:List Int) (k:Nat) (st:Nat×List Tri),st.1≠n->CI i n k vs st=st
 |[],k,st,h=>rfl
 |v::vs,k,st,h=>by
  simp only[CI];rw[if_neg (λhh=>h hh.2)];exact L5 vs (k+1) st h
theorem NN{i n:Nat}:∀(vs:List Int) (k:Nat) (st:Nat×List Tri),k+vs.length=n->(st.1≠n->st.1<n)->(CI i n k vs st).2.length<=st.2.length+1/\(CI i n k vs st).1<=n
 |[],k,st,h,hh=>by simp only[CI];exact⟨by omega,Classical.byContradiction λh1=>by have:=hh (by omega);omega⟩
 |v::vs,k,st,h,hh=>by
  simp only[CI];simp only[aB]at h;by_cases hc:v≠0/\st.1=n
  .rw[if_pos hc,L5 vs (k+1) _ (by simp only;omega)];simp;omega
  .rw[if_neg hc];exact NN vs (k+1) st (by omega) hh
def Gw(b:b9)(m:ck)(r:RunT)(rd:List sX):List Int:=rd.map λx=>ES x.lo x.hi (oC b m r x)
theorem NA(b:b9)(m:ck)(r:RunT)(rd:List sX):(Gw b m r rd).length=rd.length:=by simp[Gw]
theorem aeS{b:b9}{l:List ck}{av:List (List Int)}{rd:List sX}{rs:List RunT}{m:ck}{r:RunT}{i:Nat}(h:Ok b l av)(hR:Rs b l av.length rs)(hl:rd.length<=40)(hx:∀x∈rd,WU b av.length x)(hm:l[i]?=some m)(hr:rs[i]?=some r){A B:aw.aF}{L10:Nat}{s0:Nat}(hs0:s0<=100):
  ∀(k j:Nat) (st:Nat×List Tri),j+k=rd.length->st.1<=rd.length->st.2.length<=s0+j ->
  WL T [3,4,8,9,10,15,16,17,18,51,52,53,60,61,62] false rP [(3,lF rd sX.enc),(4,.bq (bL b)),(8,.sl J.length 0 L10 0 L10 1),(9,.sl J.length 1 st.2.length 0 st.2.length 3),(10,.ref J.length 2 0 0),(15,lF rs GY),(16,iI i),(17,.own 0 (mL m)),(18,iI st.1),(51,lF l ck.enc),(52,iI l.length),(53,iI i),(60,lF rd sX.enc),(61,iI rd.length),(62,iI j)]
   ([A,.cells st.2.length (fM st.2 DD),B]::J)
   (λx e J'=>x=.exit 4/\∃st',st'=CI i rd.length j ((Gw b m r rd).drop j) st/\get e 3=lF rd sX.enc/\get e 4=.bq (bL b)/\get e 8=.sl J.length 0 L10 0 L10 1/\get e 9=.sl J.length 1 st'.2.length 0 st'.2.length 3/\get e 10=.ref J.length 2 0 0/\get e 15=lF rs GY/\get e 16=iI i/\get e 18=iI st'.1/\get e 51=lF l ck.enc/\get e 52=iI l.length/\get e 53=iI i /\
    J'=[A,.cells st'.2.length (fM st'.2 DD),B]::J):=by
 intro k;induction k with
 |zero =>
  intro j st hj h1 h2;refine aK ?_;have h3:¬j<rd.length:=by omega
  have h4:(Gw b m r rd).drop j=[]:=bH (by rw[NA];omega);simp[h3,h4,CI]
 |succ k ih0 =>
  intro j st hj g1 g2;refine aK ?_;have h1:j<rd.length:=by omega
  obtain⟨x,hxj⟩:=gE h1;have hmm:=ah hm;have hrr:=hR.all r (ah hr);have hxv:=hx x (ah hxj);have h2:=OW hxj;have h4:=cj h1;have hpl:=h.Wu;have hi:i<rs.length:=(aA.1 hr).1;have hV:=λJ=>abm (J:=J) (h.fv m hmm) hrr hxv hpl
  have hb:=U0 (h.fv m hmm) hrr hxv;have hen:=hxv.ends;have hM:=λJ=>aa7 (J:=J) (lo:=x.lo) (hi:=x.hi) (n:=oC b m r x) (by omega) (by omega) (by omega)
  have a1:=acK hr;have e1:(Gw b m r rd)[j]?=some (ES x.lo x.hi (oC b m r x)):=by simp[Gw,hxj]
  have h5:=bj e1;simp only[sX.enc]at h2 hV;have a7:=ac5 st.2;have a8:(fM st.2 DD).take (st.2.length*3)=fM st.2 DD:=cZ;have h8:(st.2.length+1)*24<=room:=by unfold room;omega
  rw[h5,CI];generalize ES x.lo x.hi (oC b m r x)=v at *
  by_cases c1:v=0
  .have ih:=ih0 (j+1) st (by omega) g1 (by omega);simp[h1,h2,h4,hV,hM,hi,a1,c1];exact WL.ts ih λx e J hh=>by simpa[c1]using hh
  .by_cases c2:st.1=rd.length
   .have ih:=ih0 (j+1) (j,st.2++[((i:Int),(j:Int),v)]) (by omega) (by simp only;omega) (by simp;omega);simp[h1,h2,h4,hV,hM,hi,a1,c1,c2,a7,a8,h8];exact WL.to ih (by simp) (by simp[DD]) λx e J hh=>by simpa[c1,c2]using hh
   .have ih:=ih0 (j+1) st (by omega) g1 (by omega);have c3:¬(st.1:Int)=rd.length:=by omega
    simp[h1,h2,h4,hV,hM,hi,a1,c1,c2,c3];exact WL.ts ih λx e J hh=>by simpa[c2]using hh
def LS(b:b9)(rd:List sX):Nat->List (ck×RunT)->List Int×List Tri->List Int×List Tri
 |_,[],st=>st
 |i,p::t,st=>LS b rd (i+1) t (if(CI i rd.length 0 (Gw b p.1 p.2 rd) (rd.length,st.2)).1=rd.length then st.1++[(i:Int)]else st.1,(CI i rd.length 0 (Gw b p.1 p.2 rd) (rd.length,st.2)).2)
theorem aeR{b:b9}{l:List ck}{av:List (List Int)}{rd:List sX}{rs:List RunT}(h:Ok b l av)(hR:Rs b l av.length rs)(hl:rd.length<=40)(hx:∀x∈rd,WU b av.length x){B:aw.aF}:
  ∀(k i:Nat) (st:List Int×List Tri),i+k=l.length->st.1.length<=i->st.2.length<=i ->
  WL T [3,4,8,9,10,15,51,52,53] false rQ [(3,lF rd sX.enc),(4,.bq (bL b)),(8,.sl J.length 0 st.1.length 0 st.1.length 1),(9,.sl J.length 1 st.2.length 0 st.2.length 3),(10,.ref J.length 2 0 0),(15,lF rs GY),(51,lF l ck.enc),(52,iI l.length),(53,iI i)]
   ([.cells st.1.length (fM st.1 aQ),.cells st.2.length (fM st.2 DD),B]::J)
   (λx e J'=>x=.exit 2/\∃st',st'=LS b rd i ((l.zip rs).drop i) st/\get e 8=.sl J.length 0 st'.1.length 0 st'.1.length 1/\get e 9=.sl J.length 1 st'.2.length 0 st'.2.length 3/\get e 10=.ref J.length 2 0 0 /\
    J'=[.cells st'.1.length (fM st'.1 aQ),.cells st'.2.length (fM st'.2 DD),B]::J):=by
 intro k;induction k with
 |zero =>
  intro i st hi g1 g2;refine aK ?_;have h1:¬i<l.length:=by omega
  have h2:(l.zip rs).drop i=[]:=bH (by rw[List.length_zip];omega);simp[h1,h2,LS]
 |succ k ih0 =>
  intro i st hi g1 g2;refine aK ?_;have h1:i<l.length:=by omega
  have hlen:=hR.len;have hne:=hR.ne;obtain⟨m,hm⟩:=gE h1;obtain⟨r,hr⟩:∃r,rs[i]?=some r:=gE (by omega);have h2:=UL hm;have h4:=cj h1;have hz:(l.zip rs)[i]?=some (m,r):=by simp[List.getElem?_zip_eq_some,hm,hr]
  have h5:=bj hz;have hsl:=NN (i:=i) (Gw b m r rd) 0 (rd.length,st.2) (n:=rd.length) (by rw[NA];omega) (by simp);rw[h5,LS];simp[h1,h2];refine WL.ts (aeS (J:=J) h hR hl hx hm hr (A:=.cells st.1.length (fM st.1 aQ)) (B:=B) (L10:=st.1.length) (s0:=50) (by omega) rd.length 0 (rd.length,st.2) (by omega) (by simp) (by simp only;omega)) ?_;rintro x e J' ⟨rfl,st',hst,q3,q4,q8,q9,q10,q15,q16,q18,q51,q52,q53,rfl⟩;rw[az]at hst;rw[<- hst];rw[<- hst]at hsl;have a4:=UG st.1;have a6:(fM st.1 aQ).take st.1.length=fM st.1 aQ:=cZ;have h7:(st.1.length+1)*8<=room:=by unfold room;omega
  by_cases hc:st'.1=rd.length
  .have ih:=ih0 (i+1) (st.1++[(i:Int)],st'.2) (by omega) (by simp;omega) (by simp only at hsl ⊢;omega);rw[if_pos hc];simp[q3,q4,q8,q9,q10,q15,q16,q18,q51,q52,q53,hc,h4,a4,a6,h7];exact WL.ts ih λx e J hh=>by simpa using hh
  .have ih:=ih0 (i+1) (st.1,st'.2) (by omega) (by simp only;omega) (by simp only at hsl ⊢;omega);rw[if_neg hc];have hc':¬(st'.1:Int)=rd.length:=by omega
   simp[q3,q4,q8,q9,q10,q15,q16,q18,q51,q52,q53,hc',h4];exact WL.ts ih λx e J hh=>by simpa using hh
def Tr(b:b9)(l:List ck)(av:List (List Int))(rd:List sX):D :=
 if vK b av.length rd=0 then
  match z7 b av l with
  |some rs => .cS [.bZ (LS b rd 0 (l.zip rs) ([],[])).1.length (fM (LS b rd 0 (l.zip rs) ([],[])).1 aQ),.bZ (LS b rd 0 (l.zip rs) ([],[])).2.length (fM (LS b rd 0 (l.zip rs) ([],[])).2 DD),.int .i64 0]
  |none => .cS [.bZ 0 [],.bZ 0 [],.int .i64 9]
 else .cS [.bZ 0 [],.bZ 0 [],iI (vK b av.length rd)]
theorem IM{l0 a b:Nat}{k:Int}{A B:List D}{S S1 S2:SK}{d1 d2:D}(h1:cK l0 15 d1 S=(.bZ a A,S1))(h2:cK l0 15 d2 S1=(.bZ b B,S2)):cK l0 16 (.cS [d1,d2,iI k]) S=(.cS [.bZ a A,.bZ b B,iI k],S2):=by
 by_cases hc:D.clean (.cS [d1,d2,iI k])=true
 .rw[eV hc (by omega)];simp only[D.clean,D.bh,Bool.and_true,af]at hc;rw[eV hc.1 (by omega)]at h1;rw[eV hc.2 (by omega)]at h2;cases h1;cases h2;rfl
 .rw[pw (by simpa using hc) (by omega)];simp only[jD,kq];rw[h1];simp only;rw[h2];simp only;rw[eV (by rfl) (by omega)]
