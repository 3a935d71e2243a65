import Derived.Test.YtpapbbojmclkgaaGreatDoorTxt1
set_option linter.all false
namespace Go.Proofs.YtpapbbojmclkgaaGreatDoor
open Go Go.Abs Go.Rock
variable {J:SK}
def O0:Option Rw->Rw->Bool
 |some o,r=>o.xe r
 |none,_=>true
def Ds(o:Option Rw):List Rw->Bool
 |[]=>true
 |r::l=>r.alone && (O0 o r && Ds (some r) l)
theorem EY{o:Option Rw}{r:Rw}{l:List Rw}:Ds o (r::l)=(r.alone && (O0 o r && Ds (some r) l)):=rfl
theorem Rh(l:List Rw):∀o,Ds (some o) l=(dq l Rw.alone && uN (o::l)):=by
 induction l with
 |nil=>intro o;simp[Ds,dq,uN]
 |cons r l ih =>
  intro o;rw[EY,ih,BX,uN];show(r.alone && (o.xe r && (dq l Rw.alone && uN (r::l))))=(r.alone && dq l Rw.alone && (o.xe r && uN (r::l)))
  cases r.alone<;>cases o.xe r<;>cases dq l Rw.alone<;>simp
theorem Rf(l:List Rw):Ds none l=(dq l Rw.alone && uN l):=by
 cases l with
 |nil=>simp[Ds,dq,uN]
 |cons r l=>rw[EY,Rh,BX];cases r.alone<;>rfl
def Yn(t:List Rw):Nat->Option Rw
 |0=>none
 |i+1=>t[i]?
theorem PY{t:List Rw}(hl:t.length<=9223372036854775807):∀(m i:Nat),i+m=t.length ->
  WL T [0,3] false kO [(0,lF t Rw.enc),(3,iI i)] J
   (λx e J'=>J'=J/\if Ds (Yn t i) (t.drop i)then x=.exit 0/\get e 0=lF t Rw.enc else x=.ret/\get e 2=.bool false)
 |0,i,hi=>by
  refine av kO.eq_1 ?_;have h1:¬i<t.length:=by omega
  have h2:t.drop i=[]:=an (by omega);simp[h1,h2,Ds]
 |m+1,i,hi=>by
  refine av kO.eq_1 ?_;have h1:i<t.length:=by omega
  obtain⟨r,hr⟩:=gE h1;have h2:=aP (f:=Rw.enc) (w:=5) (λ_=>rfl) hr;have h4:=bO h1;have h5:=bz hr;have ih:=PY hl m (i+1) (by omega);rw[show Yn t (i+1)=some r from hr]at ih;rw[h5,EY];cases c1:bF r.t 0 400
  .simp[h1,h2,dw,c1,Rw.alone]
  cases c2:bF r.p 1 10000
  .simp[h1,h2,dw,c1,c2,Rw.alone]
  cases c3:bF r.l 0 4000
  .simp[h1,h2,dw,c1,c2,c3,Rw.alone]
  cases c4:bF r.s 0 2000
  .simp[h1,h2,dw,c1,c2,c3,c4,Rw.alone]
  by_cases c5:r.l<r.v
  rotate_left
  .simp[h1,h2,dw,c1,c2,c3,c4,c5,show r.v<=r.l by omega,Rw.alone]
  have c5':¬r.v<=r.l:=by omega
  by_cases c6:r.v<=4000
  rotate_left
  .simp[h1,h2,dw,c1,c2,c3,c4,c5,c5',c6,show 4000<r.v by omega,Rw.alone]
  have c6':¬4000<r.v:=by omega
  have ha:r.alone=true:=by simp[Rw.alone,c1,c2,c3,c4,c5,c6]
  rw[ha];cases i with
  |zero =>
   rw[show O0 (Yn t 0) r=true from rfl];have h2':(fM t Rw.enc).take 5=[iI r.t,iI r.p,iI r.l,iI r.v,iI r.s]:=by simpa using h2
   have h1':0<t.length:=by omega
   have hr0:t[0]?=some r:=hr;simp[h1',h2',dw,c1,c2,c3,c4,c5',c6'];exact WL.to ih (by simp) (by simp) λx e J' hh=>by simpa[hr0]using hh
  |succ j =>
   obtain⟨o,ho⟩:∃r,t[j]?=some r:=gE (by omega);have h3:=aP (f:=Rw.enc) (w:=5) (λ_=>rfl) ho;rw[show Yn t (j+1)=some o from ho,show O0 (some o) r=o.xe r from rfl];have w1:=cm (n:=(j:Int));have w2:=cm (n:=(j:Int)+1+1);have⟨hj,e1,hA,hB,hC,hD⟩:j<t.length/\(j:Int)+1-1=j/\(j:Int)+1<(t.length:Int)/\(0:Int)<=(j:Int)+1/\((j:Int)+1).toNat=j+1/\(0:Int)<(j:Int)+1:=by omega
   by_cases d1:r.t<=o.t
   .simp[h2,h3,dw,c1,c2,c3,c4,c5',c6',e1,w1,hj,hA,hB,hC,hD,d1,Rw.xe]
   by_cases d2:r.p<=o.p
   .simp[h2,h3,dw,c1,c2,c3,c4,c5',c6',e1,w1,hj,hA,hB,hC,hD,d1,d2,Rw.xe]
   by_cases d3:r.l<=o.l
   .simp[h2,h3,dw,c1,c2,c3,c4,c5',c6',e1,w1,hj,hA,hB,hC,hD,d1,d2,d3,Rw.xe]
   by_cases d4:r.s<o.s
   .simp[h2,h3,dw,c1,c2,c3,c4,c5',c6',e1,w1,hj,hA,hB,hC,hD,d1,d2,d3,d4,Rw.xe]
   have hrs:o.xe r=true:=by simp[Rw.xe,d1,d2,d3,d4]
   simp[h2,h3,dw,c1,c2,c3,c4,c5',c6',e1,w1,hj,hA,hB,hC,hD,d1,d2,d3,d4,hrs,w2];exact WL.to ih (by simp) (by simp[]) λx e J' hh=>by simpa[hrs]using hh
theorem Pw{t:List Rw}(hl:t.length<=9223372036854775807):Cl 89 [lF t Rw.enc] (.bool (fN t)) J:=by
 refine ar ?_;simp;refine WL.to (PY (J:=[]::J) hl t.length 0 (by omega)) (by simp) rfl ?_;rintro x e J' ⟨rfl,h⟩;simp only[aC,Yn,Rf]at h;unfold fN;cases hc:(dq t Rw.alone && uN t)
 .simp[hc]at h;simp[h]
 .simp only[hc,if_true]at h;obtain⟨rfl,g0⟩:=h;by_cases h1:2<=t.length
  .by_cases h2:t.length<=20
   .simp[g0,bF,show(2:Int)<=t.length by omega,show(t.length:Int)<=20 by omega]
   .simp[g0,bF,show(2:Int)<=t.length by omega,show ¬(t.length:Int)<=20 by omega]
  .simp[g0,bF,show ¬(2:Int)<=t.length by omega]
theorem PS{l:List Int}(hl:l.length<=9223372036854775807):∀(k i:Nat),i+k=l.length ->
  WL T [1,5] false iS [(1,lF l aO),(5,iI i)] J
   (λx e J'=>J'=J/\if dq (l.drop i) (λn=>bF n (-100000) 100000)then x=.exit 0 else x=.ret/\get e 4=iI 2)
 |0,i,hi=>by
  refine av iS.eq_1 ?_;have h1:¬i<l.length:=by omega
  have h2:l.drop i=[]:=an (by omega);simp[h1,h2,dq]
 |k+1,i,hi=>by
  refine av iS.eq_1 ?_;have h1:i<l.length:=by omega
  obtain⟨c,hc⟩:=gE h1;have h2:=gw hc;have h4:=bO h1;have h5:=bz hc;have ih:=PS hl k (i+1) (by omega);rw[h5,BX];cases hb:bF c (-100000) 100000
  .simp[h1,h2,dw,hb]
  .simp[h1,h2,h4,dw,hb];exact WL.to ih (by simp) rfl λx e J' hh=>by simpa[hb]using hh
theorem Vc{b:bU}{l:List Int}(hl:l.length<=9223372036854775807){wq:D}(hwq:wq.rN=lF b.aw bA.enc):Cl 99 [.agg [iI b.f.x,iI b.f.y,iI b.f.z,iI b.f.k,lF b.c9 Rw.enc,iI b.cG,iI b.lift,iI b.deep,wq],lF l aO] (iI (rj b l)) J:=by
 refine ar ?_;unfold rj;by_cases hc1:l.length=b.aw.length
 .simp[hwq,hc1];rw[<- hc1];refine WL.to (PS (J:=[]::J) hl l.length 0 (by omega)) (by simp) (by simp) ?_;rintro x e J' ⟨rfl,h⟩;simp only[aC]at h;cases hc2:dq l (λn=>bF n (-100000) 100000)
  .simp[hc2]at h;simp[h]
  .simp[hc2]at h;simp[h]
 .simp[hwq,hc1,show ¬(l.length:Int)=b.aw.length by omega]
theorem KY{l:List bA}{j:Nat}{w:bA}(h:l[j]?=some w):((fM l bA.enc).drop (j*3)).take 3=[iI w.b,iI w.h,iI w.m] :=
 aP (f:=bA.enc) (w:=3) (λ_=>rfl) h
theorem TM{b:bU}{w:bA}(hl:b.aw.length<=1000){i:Nat}(hi:i<b.aw.length):∀(k j:Nat),j+k=i ->
  WL T [1,3,4,5] false mi [(1,.aZ (bL b)),(3,iI i),(4,.own 0 [iI w.b,iI w.h,iI w.m]),(5,iI j)] J
   (λx e J'=>J'=J/\if(((b.aw.take i).drop j).map bA.b).contains w.b then x=.ret/\get e 2=.bool false else x=.exit 2/\get e 1=.aZ (bL b)/\get e 3=iI i)
 |0,j,hj=>by
  refine av mi.eq_1 ?_;obtain rfl:j=i:=by omega
  have h2:(b.aw.take j).drop j=[]:=an (by rw[bY];omega);rw[h2];simp
 |k+1,j,hj=>by
  refine av mi.eq_1 ?_;have⟨h1,h1'⟩:j<i/\j<b.aw.length:=by omega
  obtain⟨r,hr⟩:∃r,b.aw[j]?=some r:=gE (by omega);have h2:=KY hr;have h4:=bO h1';have h5:(b.aw.take i).drop j=r::(b.aw.take i).drop (j+1):=bz (by rw[dp];simp[h1,hr]);have ih:=TM (w:=w) hl hi k (j+1) (by omega);rw[h5,aM];by_cases hc:r.b=w.b
  .simp[h1,h1',h2,hc]
  .simp[h1,h1',h2,h4,hc];have hc':¬w.b=r.b:=λh=>hc h.symm
   exact WL.to ih (by simp) rfl λx e J' hh=>by simpa[hc']using hh
theorem PW{b:bU}(hf:b.f.valid=true)(hl:b.aw.length<=8):∀(k i:Nat),i+k=b.aw.length ->
  WL T [1,3] false mj [(1,.aZ (bL b)),(3,iI i)] J
   (λx e J'=>J'=J/\if oI b.size ((b.aw.take i).map bA.b) (b.aw.drop i)then x=.exit 0 else x=.ret/\get e 2=.bool false)
 |0,i,hi=>by
  refine av mj.eq_1 ?_;have h1:¬i<b.aw.length:=by omega
  have h2:b.aw.drop i=[]:=an (by omega);simp[h1,h2,oI]
 |k+1,i,hi=>by
  refine av mj.eq_1 ?_;have h1:i<b.aw.length:=by omega
  obtain⟨w,hw⟩:=gE h1;have h2:=KY hw;have h4:=bO h1;have h5:=bz hw;have ih:=PW hf hl k (i+1) (by omega);have e1:(b.aw.take (i+1)).map bA.b=(b.aw.take i).map bA.b++[w.b]:=by rw[List.take_add_one,hw];simp
  rw[e1]at ih;rw[h5,oI];have hS:=λJ=>pR (J:=J) hf
  obtain⟨⟨s1,s2⟩,_⟩:=Cs hf;have w1:=cm (n:=b.f.size-1);have hsz:b.size=b.f.size:=rfl;rw[hsz]at ih ⊢;cases c1:bF w.b 0 (b.f.size-1)
  .simp[h1,h2,hS,w1,dw,c1,bA.ok]
  cases c2:bF w.h 0 3000
  .simp[h1,h2,hS,w1,dw,c1,c2,bA.ok]
  cases c3:bF w.m 0 1000000
  .simp[h1,h2,hS,w1,dw,c1,c2,c3,bA.ok]
  simp[h1,h2,hS,w1,dw,c1,c2,c3];refine WL.to (TM (w:=w) (by omega) h1 i 0 (by omega)) (by simp) rfl ?_;rintro x e J' ⟨rfl,h⟩;simp only[aC]at h;cases hc:((b.aw.take i).map bA.b).contains w.b
  .rw[hc]at h;simp at h;obtain⟨rfl,g1,g3⟩:=h;simp[g1,g3,h4];have hc':¬w.b∈List.take i (List.map bA.b b.aw):=by simpa using hc
   refine WL.to ih (by simp) rfl λx e J' hh=>?_
   simpa[bA.ok,c1,c2,c3,hc']using hh
  .rw[hc]at h;simp at h;have hc':w.b∈List.take i (List.map bA.b b.aw):=by simpa using hc
   simp[h,bA.ok,hc']
theorem Tt{b:bU}(ht:b.c9.length<=9223372036854775807)(hw:b.aw.length<=9223372036854775807){wq:D}(hwq:wq.rN=lF b.aw bA.enc):Cl 90 [.agg [iI b.f.x,iI b.f.y,iI b.f.z,iI b.f.k,lF b.c9 Rw.enc,iI b.cG,iI b.lift,iI b.deep,wq]] (.bool b.valid) J:=by
 refine ar ?_;have hT:=λJ=>Pw (J:=J) ht
 have hF:=λJ=>Pn (J:=J) (f:=b.f)
 unfold bU.valid bU.ok1;cases c1:b.f.valid
 .simp[hwq,hF,c1]
 by_cases c2:4<=b.f.k
 rotate_left
 .simp[hwq,hF,c1,c2,show b.f.k<4 by omega]
 have c2':¬b.f.k<4:=by omega
 cases c3:fN b.c9
 .simp[hwq,hF,hT,c1,c2,c2',c3]
 cases c4:bF b.cG 1 100000
 .simp[hwq,hF,hT,dw,c1,c2,c2',c3,c4]
 cases c5:bF b.lift 0 1000
 .simp[hwq,hF,hT,dw,c1,c2,c2',c3,c4,c5]
 cases c6:bF b.deep 0 3000
 .simp[hwq,hF,hT,dw,c1,c2,c2',c3,c4,c5,c6]
 by_cases c7:b.aw.length<=8
 rotate_left
 .simp[hwq,hF,hT,dw,c1,c2,c2',c3,c4,c5,c6,c7,show(8:Int)<b.aw.length by omega]
 simp[hwq,hF,hT,dw,c1,c2',c3,c4,c5,c6,show ¬(8:Int)<b.aw.length by omega];refine WL.to (PW (J:=[]::J) c1 c7 b.aw.length 0 (by omega)) (by simp) (by simp) ?_;rintro x e J' ⟨rfl,h⟩;simp only[aC,List.take_zero,b9]at h;cases hc:oI b.size [] b.aw
 .simp[hc]at h;simp[h,c2,c7]
 .simp[hc]at h;simp[h,c2,c7]
theorem ad9{b:bU}(ht:b.c9.length<=9223372036854775807)(hw:b.aw.length<=9223372036854775807):Cl 90 [.agg (bL b)] (.bool b.valid) J:=Tt ht hw Yo
theorem Uv{l:List cg}{j:Nat}{m:cg}(h:l[j]?=some m):((fM l cg.enc).drop (j*2)).take 2=(mL m) :=
 aP (f:=cg.enc) (w:=2) (λ_=>rfl) h
theorem se{b:bU}{m:cg}(h:Mv b m){k i:Nat}(hk:k<4)(hi:i<b.n):Cl 136 [.agg (bL b),.agg (mL m),iI k,iI i] (iI (jU b m k i)) J:=by
 refine ar ?_;have hS:=λJ=>pR (J:=J) h.bv.fv
 have hsz:b.f.size=(b.n:Int):=h.bv.sz;rw[hsz]at hS;have hn:=h.bv.n;obtain⟨g1,g2⟩:=h.le;have hkn:k*b.n<=3*b.n:=db _ (by omega);have hlt:k*b.n+i<m.dh.length:=by omega
 have w1:=cm (n:=(k:Int)*(b.n:Int)) (by rw[<- Int.natCast_mul];omega);have w2:=cm (n:=(k:Int)*(b.n:Int)+i) (by rw[<- Int.natCast_mul];omega);obtain⟨c,hc⟩:∃c,m.dh[k*b.n+i]?=some c:=⟨_,aK hlt⟩;have e1:jU b m k i=c:=by simp[jU,hc]
 have h2:=gw hc;have e2:(k:Int)*(b.n:Int)+(i:Int)=((k*b.n+i:Nat):Int):=by push_cast;rfl
 have⟨h3,h4⟩:((k*b.n+i:Nat):Int)<(m.dh.length:Int)/\(0:Int)<=((k*b.n+i:Nat):Int):=by omega
 rw[e2]at w2;rw[e1];generalize k*b.n+i=j at *
 simp[hS,w1,e2,w2,hlt,h2]
def Uj(b:bU)(m:cg)(i:Nat):Bool:=bF (jU b m 0 i) 1000 100000 && (bF (jU b m 1 i) 0 1000 && (bF (jU b m 2 i) 0 3000 && bF (jU b m 3 i) 0 1000))
def HJ(b:bU)(m:cg)(i:Nat):Nat->Bool
 |0=>true
 |k+1=>Uj b m i && HJ b m (i+1) k
theorem Ng{b:bU}{m:cg}:∀{k i:Nat},HJ b m i k=true↔∀j,i<=j->j<i+k->Uj b m j=true
 |0,i=>by simp[HJ];omega
 |k+1,i=>by
  rw[HJ,ah,Ng];constructor
  .intro⟨h1,h2⟩ j h3 h4;by_cases hj:j=i
   .subst hj;exact h1
   .exact h2 j (by omega) (by omega)
  .intro h;exact⟨h i (by omega) (by omega),λj h3 h4=>h j (by omega) (by omega)⟩
theorem Og{b:bU}{m:cg}(h:Bv b):fW b.f [m]=0↔b.f.model m=0:=by
 simp only[fW,h.fv,if_true,dF.aj,dF.each];have h1:bF (([m]:List cg).length:Nat) 1 40=true:=by simp[bF]
 rw[if_pos h1];by_cases hc:b.f.model m=0
 .simp[hc]
 .simp[hc]
theorem Ou{b:bU}{m:cg}(h:Bv b):fits b m=(decide (b.f.model m=0) && HJ b m 0 b.n):=by
 by_cases hc:b.f.model m=0
 .have hm:=Mv.of h ((Og h).2 hc);have hcm:=(Og h).2 hc;have key:∀{k:Nat} {lo hi:Int},k<4->(dq (xa b m k) (λn=>bF n lo hi)=true↔∀i,i<b.n->bF (jU b m k i) lo hi=true):=by
   intro k lo hi hk;rw[eQ];constructor
   .intro ha i hi';exact ha _ (ai (zA hm hk hi'))
   .intro ha x hx;obtain⟨i,hi'⟩:=fV hx;have hlt:i<b.n:=by have:=(aA.1 hi').1;rwa[Nq hm hk]at this
    rw[zA hm hk hlt]at hi';cases hi';exact ha i hlt
  rw[Bool.eq_iff_iff];simp only[fits,hcm,hc,decide_true,Bool.true_and,ah,Ng,Uj];rw[key (by decide),key (by decide),key (by decide),key (by decide)];constructor
  .intro⟨h1,h2,h3,h4⟩ j _ hj;exact⟨h1 j (by omega),h2 j (by omega),h3 j (by omega),h4 j (by omega)⟩
  .intro hh;exact⟨λi hi=>(hh i (by omega) (by omega)).1,λi hi=>(hh i (by omega) (by omega)).2.1,λi hi=>(hh i (by omega) (by omega)).2.2.1,λi hi=>(hh i (by omega) (by omega)).2.2.2⟩
 .have hcm:¬fW b.f [m]=0:=λhh=>hc ((Og h).1 hh)
  simp[fits,hc,hcm]
theorem TH{b:bU}{m:cg}(h:Mv b m):∀(k i:Nat),i+k=b.n ->
  WL T [2,3,5] false oS [(2,.aZ (bL b)),(3,.aZ (mL m)),(5,iI i)] J
   (λx e J'=>J'=J/\if HJ b m i k then x=.exit 0 else x=.ret/\get e 4=.bool false)
 |0,i,hi=>by
  refine av oS.eq_1 ?_;have hS:=λJ=>pR (J:=J) h.bv.fv
  have hsz:b.f.size=(b.n:Int):=h.bv.sz;rw[hsz]at hS;have h1:¬i<b.n:=by omega
  simp[hS,h1,HJ]
 |k+1,i,hi=>by
  refine av oS.eq_1 ?_;have hS:=λJ=>pR (J:=J) h.bv.fv
  have hsz:b.f.size=(b.n:Int):=h.bv.sz;rw[hsz]at hS;have hn:=h.bv.n;have h1:i<b.n:=by omega
  have h4:=bO h1;have v0:=λJ=>se (J:=J) h (k:=0) (i:=i) (by decide) h1
  have v1:=λJ=>se (J:=J) h (k:=1) (i:=i) (by decide) h1
  have v2:=λJ=>se (J:=J) h (k:=2) (i:=i) (by decide) h1
  have v3:=λJ=>se (J:=J) h (k:=3) (i:=i) (by decide) h1
  simp only[show((0:Nat):Int)=0 from rfl,show((1:Nat):Int)=1 from rfl,show((2:Nat):Int)=2 from rfl,show((3:Nat):Int)=3 from rfl]at v0 v1 v2 v3;have ih:=TH h k (i+1) (by omega);rw[HJ,Uj];cases c0:bF (jU b m 0 i) 1000 100000
  .simp[hS,h1,v0,dw,c0]
  cases c1:bF (jU b m 1 i) 0 1000
  .simp[hS,h1,v0,v1,dw,c0,c1]
  cases c2:bF (jU b m 2 i) 0 3000
  .simp[hS,h1,v0,v1,v2,dw,c0,c1,c2]
  cases c3:bF (jU b m 3 i) 0 1000
  .simp[hS,h1,v0,v1,v2,v3,dw,c0,c1,c2,c3]
  simp[hS,h1,h4,v0,v1,v2,v3,dw,c0,c1,c2,c3];exact WL.to ih (by simp) rfl λx e J' hh=>by simpa using hh
theorem WN{b:bU}{m:cg}(h:Bv b)(hn:m.name.length<=9223372036854775807)(hl:m.dh.length<=9223372036854775807){wq:D}(hwq:wq.rN=lF b.aw bA.enc):Cl 94 [.agg [iI b.f.x,iI b.f.y,iI b.f.z,iI b.f.k,lF b.c9 Rw.enc,iI b.cG,iI b.lift,iI b.deep,wq],.agg (mL m)] (.bool (fits b m)) J:=by
 refine ar ?_;have hM:=λJ=>WU (J:=J) (m:=m) h.fv hn hl
 rw[Ou h];by_cases hc:b.f.model m=0
 .have hm:=Mv.of h ((Og h).2 hc);simp[hwq,hM,hc];refine WL.to (TH (J:=[]::J) hm b.n 0 (by omega)) (by simp) (by simp) ?_;rintro x e J' ⟨rfl,hh⟩;cases hf:HJ b m 0 b.n
  .simp[hf]at hh;simp[hh,hc]
  .simp[hf]at hh;simp[hh,hc]
 .simp[hwq,hM,hc]
def Zf(b:bU)(l:List cg):Int:=if bF l.length 1 40 then(if b.f.aj l=0 then(if dq l (fits b)then 0 else 1)else 1)else 3
def adW(b:bU)(l:List cg)(az:List (List Int)):Bool:=b.valid && (decide (l.length<=4) && (decide (Zf b l=0) && (decide (az.length<=6) && decide (tL b az=0))))
end Go.Proofs.YtpapbbojmclkgaaGreatDoor
namespace Go.Rock
open Go Go.Abs
abbrev Mv:=Nat×aF×Int
def mv(s:List aF)(e:Mv):List aF:=cq s e.1 e.2.1 e.2.2
theorem xc{s:List aF}{i j:Nat}{o p:aF}{a c:Int}:cq (cq s i o a) j p c=cq (cq s j p c) i o a:=by
 by_cases hij:i=j
 .subst hij;by_cases hi:i<s.length
  .simp only[cq,aT,List.getElem?_set_self hi,eW,List.set_set,aF.move];congr 2<;>omega
  .simp only[cq,List.set_eq_of_length_le (show s.length<=i by omega)]
 .have hji:¬j=i:=λh=>hij h.symm
  simp only[cq,aT,List.getElem?_set_ne hij,List.getElem?_set_ne hji];rw[List.set_comm _ _ hij]
theorem aca{l l':List Mv}(h:l.Perm l')(s:List aF):l.foldl mv s=l'.foldl mv s:=h.foldl_eq' (λx _ y _ z=>xc) s
theorem EP{s:List aF}{i:Nat}{sign:Int}:cq s i ⟨0,0,0⟩ sign=s:=by
 unfold cq;by_cases hi:i<s.length
 .apply List.ext_getElem
  .simp
  .intro k h1 h2;rw[List.getElem_set];split
   .rename_i h;subst h;simp[aF.move,aT,hi]
   .rfl
 .rw[List.set_eq_of_length_le (by omega)]
theorem Mr{s:List aF}{e f:(Nat×Nat)×aF}:cI (cI s e) f=cI (cI s f) e:=by
 unfold cI;rw[xc (i:=e.1.2) (j:=f.1.1),xc (i:=e.1.1) (j:=f.1.1),xc (i:=e.1.2) (j:=f.1.2),xc (i:=e.1.1) (j:=f.1.2)]
def fl2(e:(Nat×Nat)×aF):List Mv:=[(e.1.1,e.2,-1),(e.1.2,e.2,1)]
theorem Qs:∀(es:List ((Nat×Nat)×aF)) (s:List aF),(fM es fl2).foldl mv s=es.foldl cI s
 |[],s=>rfl
 |e::es,s=>by rw[di,List.foldl_append,Qs es];rfl
theorem M7{α β:Type}{a:α->β}{f:α->List β}:∀l:List α,(fM l λi=>a i::f i).Perm (l.map a++fM l f)
 |[] => .nil
 |x::l=>by
  simp only[di,aM,cC];refine List.Perm.cons _ ?_;have h:=M7 (a:=a) (f:=f) l;refine(h.append_left (f x)).trans ?_;rw[<- cS,<- cS];exact List.perm_append_comm.append_right _
def px(X i:Nat):Int:=((i%X:Nat):Int)
def py(X Y i:Nat):Int:=((i / X%Y:Nat):Int)
def pz(X Y i:Nat):Int:=((i / X / Y:Nat):Int)
def Mz(X Y i k:Nat):Bool:=decide ((px X i-px X k)*(px X i-px X k)+(py X Y i-py X Y k)*(py X Y i-py X Y k)+(pz X Y i-pz X Y k)*(pz X Y i-pz X Y k)=1)
def HX(b:bU)(i k:Nat):Bool:=Mz b.f.x.toNat b.f.y.toNat i k
theorem sq_pos(u:Int):u=0\/1<=u*u:=by
 rcases Int.lt_trichotomy u 0 with h | h | h
 .right
  have:=Int.mul_pos_of_neg_of_neg h h;omega
 .exact .inl h
 .right
  have:=Int.mul_pos h h;omega
theorem Tb{u:Int}(h:u*u=1):u=1\/u = -1:=by
 rcases Int.lt_trichotomy u 0 with h1 | h1 | h1
 .by_cases h2:u = -1
  .exact .inr h2
  .have h3:0<(-1-u):=by omega
   have h4:=Int.mul_pos h3 (show 0<1-u by omega);have h5:(-1-u)*(1-u)=u*u-1:=by
    rw[Int.sub_mul,Int.mul_sub,Int.mul_sub];omega
   omega
 .rw[h1]at h;simp at h
 .by_cases h2:u=1
  .exact .inl h2
  .have h3:0<u-1:=by omega
   have h4:=Int.mul_pos h3 (show 0<u+1 by omega);have h5:(u-1)*(u+1)=u*u-1:=by
    rw[Int.sub_mul,Int.mul_add];omega
   omega
theorem acU{u v w:Int}(h:u*u+v*v+w*w=1):((u=1\/u = -1)/\v=0/\w=0)\/(u=0/\(v=1\/v = -1)/\w=0)\/(u=0/\v=0/\(w=1\/w = -1)):=by
 rcases sq_pos u with hu | hu<;>rcases sq_pos v with hv | hv<;>rcases sq_pos w with hw | hw
 .subst hu hv hw;simp at h
 .subst hu hv;refine .inr (.inr ⟨rfl,rfl,Tb (by simpa using h)⟩)
 .subst hu hw;refine .inr (.inl ⟨rfl,Tb (by simpa using h),rfl⟩)
 .subst hu;omega
 .subst hv hw;refine .inl ⟨Tb (by simpa using h),rfl,rfl⟩
 .subst hv;omega
 .subst hw;omega
 .omega
theorem afA{X Y i k:Nat}(h1:k%X=i%X+1)(h2:i / X%Y=k / X%Y)(h3:i / X / Y=k / X / Y):k=i+1/\(i+1)%X≠0:=by
 have a1:=Nat.div_add_mod i X;have a2:=Nat.div_add_mod k X;have b1:=Nat.div_add_mod (i / X) Y;have b2:=Nat.div_add_mod (k / X) Y;rw[<- h2,<- h3]at b2;have h4:k / X=i / X:=by omega
 rw[h4]at a2;have h5:k=i+1:=by omega
 exact⟨h5,by rw[<- h5,h1];omega⟩
theorem afB{X Y i k:Nat}(hY:1<=Y)(h1:i%X=k%X)(h2:k / X%Y=i / X%Y+1)(h3:i / X / Y=k / X / Y):k=i+X/\i / X%Y≠Y-1:=by
 have a1:=Nat.div_add_mod i X;have a2:=Nat.div_add_mod k X;have b1:=Nat.div_add_mod (i / X) Y;have b2:=Nat.div_add_mod (k / X) Y;have b3:=Nat.mod_lt (k / X) hY;rw[<- h3]at b2;have h4:k / X=i / X+1:=by omega
 rw[h4,Nat.mul_add,bJ]at a2;exact⟨by omega,by omega⟩
theorem afC{X Y i k:Nat}(h1:i%X=k%X)(h2:i / X%Y=k / X%Y)(h3:k / X / Y=i / X / Y+1):k=i+X*Y:=by
 have a1:=Nat.div_add_mod i X;have a2:=Nat.div_add_mod k X;have b1:=Nat.div_add_mod (i / X) Y;have b2:=Nat.div_add_mod (k / X) Y;rw[h3,Nat.mul_add,bJ]at b2;have h4:k / X=i / X+Y:=by omega
 rw[h4,Nat.mul_add]at a2;omega
theorem NF{X i:Nat}(hX:1<=X)(h:(i+1)%X≠0):(i+1) / X=i / X/\(i+1)%X=i%X+1:=by
 have h1:=Nat.div_add_mod i X;have h2:=Nat.mod_lt i hX;have h3:i%X+1<X:=by
  rcases Nat.lt_or_ge (i%X+1) X with h4 | h4
  .exact h4
  .exfalso;apply h
   have:i+1=X*(i / X)+X:=by omega
   rw[this];simp
 have h5:i+1=X*(i / X)+(i%X+1):=by omega
 constructor
 .rw[h5,Nat.mul_add_div (by omega),Nat.div_eq_of_lt h3];omega
 .rw[h5,Nat.mul_add_mod,Nat.mod_eq_of_lt h3]
theorem Zb{X Y i k:Nat}:Mz X Y i k=Mz X Y k i:=by
 unfold Mz;have sq:∀a c:Int,(a-c)*(a-c)=(c-a)*(c-a):=λa c=>by
  rw[show c-a = -(a-c)by omega,Int.neg_mul_neg]
 rw[sq (px X i),sq (py X Y i),sq (pz X Y i)]
theorem Za{b:bU}(hx:1<=b.f.x.toNat)(hy:1<=b.f.y.toNat){l:Nat×Nat}(hl:l∈zB b):HX b l.1 l.2=true:=by
 simp only[zB,IQ,wk,aU]at hl;unfold HX;obtain⟨i,_,hl⟩:=hl;generalize b.f.x.toNat=X at *
 generalize b.f.y.toNat=Y at *
 rcases hl with hl | hl | hl
 .split at hl
  .rename_i hc;simp only[List.mem_singleton]at hl;obtain⟨h1,h2⟩:=NF hx hc;rw[hl];simp only[Mz,px,py,pz,h1,h2,aB];rw[show((i%X:Nat):Int)-((i%X+1:Nat):Int) = -1 by omega,Int.sub_self,Int.sub_self];rfl
  .simp at hl
 .split at hl
  .rename_i hc;simp only[List.mem_singleton]at hl;have h3:(i+X) / X=i / X+1:=Nat.add_div_right i hx;have h4:(i+X)%X=i%X:=Nat.add_mod_right i X;have h5:(i / X+1)%Y≠0:=by
    intro h0;apply hc;have h6:=Nat.div_add_mod (i / X) Y;have h7:=Nat.mod_lt (i / X) hy;have h8:i / X+1=Y*(i / X / Y)+(i / X%Y+1):=by omega
    rcases Nat.lt_or_ge (i / X%Y+1) Y with h9 | h9
    .rw[h8,Nat.mul_add_mod,Nat.mod_eq_of_lt h9]at h0;omega
    .omega
   obtain⟨h1,h2⟩:=NF hy h5;rw[hl];simp only[Mz,px,py,pz,h3,h4,h1,h2,aB];rw[show((i / X%Y:Nat):Int)-((i / X%Y+1:Nat):Int) = -1 by omega,Int.sub_self,Int.sub_self];rfl
  .simp at hl
 .split at hl
  .simp only[List.mem_singleton]at hl;have h3:(i+X*Y) / X=i / X+Y:=Nat.add_mul_div_left i Y hx;have h4:(i+X*Y)%X=i%X:=Nat.add_mul_mod_self_left i X Y;have h5:(i / X+Y) / Y=i / X / Y+1:=Nat.add_div_right _ hy;have h6:(i / X+Y)%Y=i / X%Y:=Nat.add_mod_right _ Y;rw[hl];simp only[Mz,px,py,pz,h3,h4,h5,h6,aB];rw[show((i / X / Y:Nat):Int)-((i / X / Y+1:Nat):Int) = -1 by omega,Int.sub_self,Int.sub_self];rfl
  .simp at hl
theorem afK{b:bU}(hx:1<=b.f.x.toNat)(hy:1<=b.f.y.toNat){i k:Nat}(hi:i<b.n)(hk:k<b.n)(h:HX b i k=true):(i,k)∈zB b\/(k,i)∈zB b:=by
 have one:∀i k:Nat,i<b.n->k<b.n->(k%b.f.x.toNat=i%b.f.x.toNat+1/\i / b.f.x.toNat%b.f.y.toNat=k / b.f.x.toNat%b.f.y.toNat/\i / b.f.x.toNat / b.f.y.toNat=k / b.f.x.toNat / b.f.y.toNat \/
   i%b.f.x.toNat=k%b.f.x.toNat/\k / b.f.x.toNat%b.f.y.toNat=i / b.f.x.toNat%b.f.y.toNat+1/\i / b.f.x.toNat / b.f.y.toNat=k / b.f.x.toNat / b.f.y.toNat \/
   i%b.f.x.toNat=k%b.f.x.toNat/\i / b.f.x.toNat%b.f.y.toNat=k / b.f.x.toNat%b.f.y.toNat/\k / b.f.x.toNat / b.f.y.toNat=i / b.f.x.toNat / b.f.y.toNat+1)->(i,k)∈zB b:=by
  intro i k hi hk hc;refine IQ.2 ⟨i,List.mem_range.2 hi,?_⟩;unfold wk;simp only[aU];rcases hc with⟨a1,a2,a3⟩ | ⟨a1,a2,a3⟩ | ⟨a1,a2,a3⟩
  .obtain⟨e,hn⟩:=afA a1 a2 a3;left;rw[if_pos hn,e];simp
  .obtain⟨e,hn⟩:=afB hy a1 a2 a3;right;left;rw[if_pos hn,e];simp
  .have e:=afC a1 a2 a3;right;right;rw[if_pos (by omega),e];simp
 simp only[HX,Mz,aB]at h;simp only[px,py,pz]at h;rcases acU h with⟨h1,h2,h3⟩ | ⟨h1,h2,h3⟩ | ⟨h1,h2,h3⟩
 .rcases h1 with h1 | h1
  .exact .inr (one k i hk hi (.inl ⟨by omega,by omega,by omega⟩))
  .exact .inl (one i k hi hk (.inl ⟨by omega,by omega,by omega⟩))
 .rcases h2 with h2 | h2
  .exact .inr (one k i hk hi (.inr (.inl ⟨by omega,by omega,by omega⟩)))
  .exact .inl (one i k hi hk (.inr (.inl ⟨by omega,by omega,by omega⟩)))
 .rcases h3 with h3 | h3
  .exact .inr (one k i hk hi (.inr (.inr ⟨by omega,by omega,by omega⟩)))
  .exact .inl (one i k hi hk (.inr (.inr ⟨by omega,by omega,by omega⟩)))
def pd(b:bU)(p:List Int)(l:Nat×Nat):Int:=(p[l.1]?).getD 0-weight b l.1-(p[l.2]?).getD 0+weight b l.2
def rq(b:bU)(m:cg)(s:List aF)(p:List Int)(l:Nat×Nat):Int:=min ((aT s l.1).m.tdiv 8) ((min (Ab b m l.1) (Ab b m l.2)*pd b p l).tdiv 1000)
def rE(b:bU)(m:cg)(s:List aF)(p:List Int)(l:Nat×Nat):(Nat×Nat)×aF:=(l,(aT s l.1).out (rq b m s p l))
theorem UF{b:bU}{p:List Int}{l:Nat×Nat}:pd b p (l.2,l.1) = -pd b p l:=by simp only[pd];omega
theorem VP{b:bU}{m:cg}{s:List aF}{p:List Int}{l:Nat×Nat}{e:(Nat×Nat)×aF}(h:CV b m s p l=some e):(e.1=l\/e.1=(l.2,l.1))/\0<pd b p e.1/\0<rq b m s p e.1/\e=rE b m s p e.1:=by
 unfold CV at h;have hd:(p[l.1]?).getD 0-weight b l.1-(p[l.2]?).getD 0+weight b l.2=pd b p l:=rfl;simp only[hd]at h;by_cases hn:pd b p l<0
 .simp only[hn,if_true]at h;split at h
  .rename_i hq;simp only[ae]at h;have hs:=UF (b:=b) (p:=p) (l:=l);have hq':0<rq b m s p (l.2,l.1):=by
    unfold rq;rw[hs,Int.min_comm];exact hq
   subst h;refine⟨.inr rfl,by simp only[hs];omega,hq',?_⟩;unfold rE rq;rw[hs,Int.min_comm]
  .cases h
 .simp only[hn,if_false]at h;split at h
  .rename_i hq;simp only[ae]at h;have hq':0<rq b m s p l:=by unfold rq;rw[Int.min_comm];exact hq
   have h0:pd b p l≠0:=by
    intro h0;rw[h0,Int.mul_zero]at hq;simp only[Int.zero_tdiv]at hq;omega
   subst h;refine⟨.inl rfl,by simp only;omega,hq',?_⟩;unfold rE rq;rw[Int.min_comm]
  .cases h
theorem IF{b:bU}{m:cg}{s:List aF}{p:List Int}{l k:Nat×Nat}(hk:k=l\/k=(l.2,l.1))(h1:0<pd b p k)(h2:0<rq b m s p k):CV b m s p l=some (rE b m s p k):=by
 unfold CV;have hd:(p[l.1]?).getD 0-weight b l.1-(p[l.2]?).getD 0+weight b l.2=pd b p l:=rfl;simp only[hd];rcases hk with rfl | rfl
 .have hn:¬pd b p k<0:=by omega
  simp only[hn,if_false];unfold rq at h2;rw[Int.min_comm]at h2;rw[if_pos h2];unfold rE rq;rw[Int.min_comm]
 .have hs:=UF (b:=b) (p:=p) (l:=l);rw[hs]at h1;have hn:pd b p l<0:=by omega
  simp only[hn,if_true];unfold rq at h2;rw[hs,Int.min_comm]at h2;rw[if_pos h2];unfold rE rq;rw[hs,Int.min_comm]
structure MS(b:bU)(m:cg)(s:List aF)(p:List Int)(es:List ((Nat×Nat)×aF))(done:List (Nat×Nat)):Prop where
 nd:(es.map (·.1)).Nodup
 is:∀e∈es,e=rE b m s p e.1/\0<pd b p e.1/\0<rq b m s p e.1/\(e.1∈done\/(e.1.2,e.1.1)∈done)
 all:∀l∈done,∀k:Nat×Nat,(k=l\/k=(l.2,l.1))->0<pd b p k->0<rq b m s p k->rE b m s p k∈es
theorem MS.step{b:bU}{m:cg}{s:List aF}{p:List Int}{es:List ((Nat×Nat)×aF)}{done:List (Nat×Nat)}(h:MS b m s p es done)(l:Nat×Nat):MS b m s p (lh b m s p es l) (done++[l]):=by
 unfold lh;cases hf:CV b m s p l with
 |none =>
  refine⟨h.nd,λe he=>?_,λx hx k hk h1 h2=>?_⟩
  .obtain⟨a1,a2,a3,a4⟩:=h.is e he;exact⟨a1,a2,a3,a4.imp (λy=>by simp[y]) (λy=>by simp[y])⟩
  .rcases aU.1 hx with hx | hx
   .exact h.all x hx k hk h1 h2
   .rw[List.mem_singleton.1 hx]at hk;rw[IF hk h1 h2]at hf;cases hf
 |some e =>
  obtain⟨b1,b2,b3,b4⟩:=VP hf;simp only;unfold SV;cases hi:es.findIdx? (λx=>x.1 == e.1)with
  |some j =>
   obtain⟨hj,hj1,_⟩:=List.findIdx?_eq_some_iff_getElem.1 hi;have hje:es[j]=e:=by
    obtain⟨a1,_⟩:=h.is es[j] (List.getElem_mem hj);have:es[j].1=e.1:=by simpa using hj1
    rw[a1,this,<- b4]
   have hset:es.set j (e.1,e.2)=es:=by
    rw[show((e.1,e.2):(Nat×Nat)×aF)=e from rfl,<- hje];exact List.set_getElem_self hj
   simp only[hset];refine⟨h.nd,λx hx=>?_,λx hx k hk h1 h2=>?_⟩
   .obtain⟨a1,a2,a3,a4⟩:=h.is x hx;exact⟨a1,a2,a3,a4.imp (λy=>by simp[y]) (λy=>by simp[y])⟩
   .rcases aU.1 hx with hx | hx
    .exact h.all x hx k hk h1 h2
    .rw[List.mem_singleton.1 hx]at hk;have h3:=IF hk h1 h2;rw[hf]at h3;rw[<- Option.some.inj h3,<- hje];exact List.getElem_mem hj
  |none =>
   have hno:=List.findIdx?_eq_none_iff.1 hi;refine⟨?_,λx hx=>?_,λx hx k hk h1 h2=>?_⟩
   .rw[List.map_append,List.nodup_append];refine⟨h.nd,by simp,?_⟩;intro a ha c hc;obtain⟨y,hy,rfl⟩:=bI.1 ha;simp only[aM,b9,List.mem_singleton]at hc;subst hc;have:=hno y hy;simpa using this
   .rcases aU.1 hx with hx | hx
    .obtain⟨a1,a2,a3,a4⟩:=h.is x hx;exact⟨a1,a2,a3,a4.imp (λy=>by simp[y]) (λy=>by simp[y])⟩
    .rw[List.mem_singleton.1 hx];refine⟨b4,b2,b3,?_⟩;rcases b1 with b1 | b1
     .left;rw[b1];simp
     .right;rw[b1];simp
   .rcases aU.1 hx with hx | hx
    .exact List.mem_append_left _ (h.all x hx k hk h1 h2)
    .rw[List.mem_singleton.1 hx]at hk;have h3:=IF hk h1 h2;rw[hf]at h3;rw[<- Option.some.inj h3];exact List.mem_append_right _ (by simp)
theorem VR{b:bU}{m:cg}{s:List aF}:MS b m s (bg b m s) (tK b m s) (zB b):=by
 have key:∀(ls done:List (Nat×Nat)) (es:List ((Nat×Nat)×aF)),MS b m s (bg b m s) es done->MS b m s (bg b m s) (ls.foldl (lh b m s (bg b m s)) es) (done++ls):=by
  intro ls;induction ls with
  |nil=>intro done es h;simpa using h
  |cons l ls ih =>
   intro done es h;have:=ih _ _ (h.step l);simpa using this
 have:=key (zB b) [] [] ⟨List.nodup_nil,by simp,by simp⟩;simpa[tK]using this
def prs(n:Nat):List (Nat×Nat):=fM (List.range n) λi=>(List.range n).map λk=>(i,k)
theorem UI{n:Nat}{l:Nat×Nat}:l∈prs n↔l.1<n/\l.2<n:=by
 simp only[prs,IQ,List.mem_range,bI];constructor
 .rintro⟨i,hi,k,hk,rfl⟩;exact⟨hi,hk⟩
 .intro h;exact⟨l.1,h.1,l.2,h.2,rfl⟩
theorem Wi(n:Nat):(prs n).Nodup:=by
 unfold prs;rw[List.Nodup,Q2];refine⟨λi _=>?_,?_⟩
 .rw[List.pairwise_map];exact List.Pairwise.imp (λh he=>h (by simpa using he)) List.nodup_range
 .refine List.Pairwise.imp (λ{a c} h x hx y hy he=>?_) (List.nodup_range (n:=n));simp only[bI]at hx hy;obtain⟨k,_,rfl⟩:=hx;obtain⟨k',_,rfl⟩:=hy;simp only[au]at he;exact h he.1
def acy(b:bU)(m:cg)(s:List aF):List ((Nat×Nat)×aF):=((prs b.n).filter λl=>HX b l.1 l.2 && decide (0<pd b (bg b m s) l)).map (rE b m s (bg b m s))
theorem drop_zero{b:bU}{m:cg}{s:List aF}{p:List Int}:∀(l:List (Nat×Nat)) (t:List aF),(∀k∈l,¬0<rq b m s p k->rq b m s p k=0)->(l.map (rE b m s p)).foldl cI t=((l.filter λk=>decide (0<rq b m s p k)).map (rE b m s p)).foldl cI t
 |[],t,_=>rfl
 |k::l,t,h=>by
  have ih:=λt=>drop_zero l t (λx hx=>h x (List.mem_cons_of_mem _ hx))
  by_cases hk:0<rq b m s p k
  .rw[List.filter_cons_of_pos (by simpa using hk),aM,aM,List.foldl_cons,List.foldl_cons,ih]
  .have h0:=h k (List.mem_cons_self ..) hk;rw[List.filter_cons_of_neg (by simpa using hk),aM,List.foldl_cons,ih];have hz:(rE b m s p k).2=⟨0,0,0⟩:=by simp[rE,h0,aF.out]
   unfold cI;rw[hz,EP,EP]
theorem Sx{b:bU}{m:cg}{s:List aF}(hx:1<=b.f.x.toNat)(hy:1<=b.f.y.toNat)(hin:∀l∈zB b,l.1<b.n/\l.2<b.n)(hm:∀i,0<=(aT s i).m)(ho:∀i,i<b.n->0<=Ab b m i)(t:List aF):(acy b m s).foldl cI t=(tK b m s).foldl cI t:=by
 have hF:=VR (b:=b) (m:=m) (s:=s);unfold acy;rw[drop_zero _ t (λk hk hq=>?_)]
 .refine List.Perm.foldl_eq' ?_ (λx _ y _ z=>Mr) t;refine(List.perm_ext_iff_of_nodup ?_ ?_).2 ?_
  .rw[List.Nodup,List.pairwise_map];refine List.Pairwise.imp (λh he=>h ?_) ((Wi b.n).filter _ |>.filter _);exact(congrArg Prod.fst he:_)
  .have:=hF.nd;rw[List.Nodup,List.pairwise_map]at this;exact this.imp λh he=>h (by rw[he])
  .intro x;simp only[bI,cX,ah,aB,UI];constructor
   .rintro⟨k,⟨⟨⟨k1,k2⟩,k3,k4⟩,k5⟩,rfl⟩;rcases afK hx hy k1 k2 k3 with hl | hl
    .exact hF.all _ hl k (.inl rfl) k4 k5
    .exact hF.all _ hl k (.inr rfl) k4 k5
   .intro hxm;obtain⟨a1,a2,a3,a4⟩:=hF.is x hxm;refine⟨x.1,⟨⟨?_,?_,a2⟩,a3⟩,a1.symm⟩
    .rcases a4 with a4 | a4
     .exact hin _ a4
     .have:=hin _ a4;exact⟨this.2,this.1⟩
    .rcases a4 with a4 | a4
     .exact Za hx hy a4
     .unfold HX;rw[Zb];exact Za hx hy a4
 .have hk':=cX.1 hk;simp only[ah,aB]at hk';obtain⟨hkp,_,hpd⟩:=hk';obtain⟨k1,k2⟩:=UI.1 hkp;have h1:0<=(aT s k.1).m.tdiv 8:=Int.tdiv_nonneg (hm _) (by omega);have h2:0<=min (Ab b m k.1) (Ab b m k.2):=by have:=ho _ k1;have:=ho _ k2;omega
  have h3:0<=(min (Ab b m k.1) (Ab b m k.2)*pd b (bg b m s) k).tdiv 1000:=Int.tdiv_nonneg (bB h2 (by omega)) (by omega);unfold rq at hq ⊢;omega
def uM(b:bU)(m:cg)(s:List aF)(i:Nat)(next:List aF)(k:Nat):List aF:=if HX b i k=true/\0<pd b (bg b m s) (i,k)then cI next (rE b m s (bg b m s) (i,k))else next
def OU(b:bU)(m:cg)(s next:List aF)(i:Nat):List aF:=(List.range b.n).foldl (uM b m s i) (cq next i (JI b m i) 1)
def sP(s next:List aF)(w:bA)(r:Int):List aF:=if 0<r then cq next w.b.toNat ((aT s w.b.toNat).out (min r ((aT s w.b.toNat).m.tdiv 8))) (-1)else cq next w.b.toNat (w.given r) 1
def UL(b:bU)(m:cg)(s:List aF)(aG:List Int):List aF:=(b.aw.zip aG).foldl (λn wr=>sP s n wr.1 wr.2) ((List.range b.n).foldl (OU b m s) s)
theorem SW{s next:List aF}{w:bA}{r:Int}(hm:∀i,0<=(aT s i).m):sP s next w r=mI s next w r:=by
 unfold sP mI iw;rcases Int.lt_trichotomy r 0 with h | h | h
 .rw[if_neg (by omega),if_pos h]
 .subst h;have h1:0<=(aT s w.b.toNat).m.tdiv 8:=Int.tdiv_nonneg (hm _) (by omega);have h2:min 0 ((aT s w.b.toNat).m.tdiv 8)=0:=by omega
  have h3:(aT s w.b.toNat).out 0=⟨0,0,0⟩:=by simp[aF.out]
  have h4:w.given 0=⟨0,0,0⟩:=by simp[bA.given]
  simp only[Int.lt_irrefl,if_false,h2,h3,h4,EP]
 .rw[if_pos h,if_neg (by omega),if_neg (by omega)]
def wmv(s:List aF)(wr:bA×Int):Mv:=if wr.2<0 then(wr.1.b.toNat,wr.1.given wr.2,1)else(wr.1.b.toNat,iw s wr.1 wr.2,-1)
theorem Mg(s:List aF):∀(l:List (bA×Int)) (t:List aF),l.foldl (λn wr=>mI s n wr.1 wr.2) t=(l.map (wmv s)).foldl mv t
 |[],t=>rfl
 |x::l,t=>by
  rw[List.foldl_cons,aM,List.foldl_cons,Mg s l];congr 1;unfold mI mv wmv;split<;>rfl
def fmv(b:bU)(m:cg)(i:Nat):Mv:=(i,JI b m i,1)
def ZL(b:bU)(m:cg)(s:List aF)(i:Nat):List Mv:=fM ((List.range b.n).filter λk=>HX b i k && decide (0<pd b (bg b m s) (i,k))) λk=>fl2 (rE b m s (bg b m s) (i,k))
theorem ZN{b:bU}{m:cg}{s:List aF}{i:Nat}:∀(l:List Nat) (t:List aF),l.foldl (uM b m s i) t=(fM (l.filter λk=>HX b i k && decide (0<pd b (bg b m s) (i,k))) λk=>fl2 (rE b m s (bg b m s) (i,k))).foldl mv t
 |[],t=>rfl
 |k::l,t=>by
  rw[List.foldl_cons,ZN l];unfold uM;by_cases hc:HX b i k=true/\0<pd b (bg b m s) (i,k)
  .rw[if_pos hc,List.filter_cons_of_pos (by simpa using hc),di,List.foldl_append];rfl
  .rw[if_neg hc,List.filter_cons_of_neg (by simpa using hc)]
theorem UO{b:bU}{m:cg}{s:List aF}:∀(l:List Nat) (t:List aF),l.foldl (OU b m s) t=(fM l λi=>fmv b m i::ZL b m s i).foldl mv t
 |[],t=>rfl
 |i::l,t=>by
  rw[List.foldl_cons,UO l,di,List.foldl_append,List.foldl_cons];congr 1;exact ZN _ _
theorem agc{b:bU}{m:cg}{s:List aF}:fM (acy b m s) fl2=fM (List.range b.n) (ZL b m s):=by
 unfold acy prs ZL;rw[Su,VN,YK];congr 1;funext i;rw[List.filter_map,Su];rfl
theorem ZF{b:bU}{m:cg}{s:List aF}{aG:List Int}(hx:1<=b.f.x.toNat)(hy:1<=b.f.y.toNat)(hin:∀l∈zB b,l.1<b.n/\l.2<b.n)(hm:∀i,0<=(aT s i).m)(ho:∀i,i<b.n->0<=Ab b m i)(hl:s.length=b.n):UL b m s aG=mV b m s aG:=by
 unfold UL mV;have e1:(λ(n:List aF) (wr:bA×Int)=>sP s n wr.1 wr.2)=λn wr=>mI s n wr.1 wr.2:=by
  funext n wr;exact SW hm
 have e2:(λ(n:List aF) (i:Nat)=>cq n i (JI b m i) 1)=λn i=>mv n (fmv b m i):=rfl
 rw[e1,UO,Mg];simp only[Mg,<- Sx hx hy hin hm ho];have e3:∀X:List aF,(List.range b.n).foldl (λn i=>mv n (fmv b m i)) X=((List.range b.n).map (fmv b m)).foldl mv X:=λX=>by rw[List.foldl_map]
 rw[<- Qs,agc,<- List.foldl_append,<- List.foldl_append,hl,e2,e3,<- List.foldl_append];refine aca ?_ s;refine((M7 _).append_right _).trans ?_;rw[cS];refine List.perm_append_comm.trans ?_;rfl
end Go.Rock
namespace Go.Proofs.YtpapbbojmclkgaaGreatDoor
open Go Go.Abs Go.Rock
variable {J:SK}
theorem aay{n d:Int}(hn : -200000000000<=n/\n<=200000000000)(hd:1<=d/\d<=100000):Cl 185 [iI n,iI d] (iI (down n d)) J:=by
 refine ar ?_;have h1:=Int.mul_tdiv_add_tmod n d;have h2:=Int.tmod_lt_of_pos n (show 0<d by omega);have h3:=Int.lt_tmod_of_pos n (show 0<d by omega);have h5:0<=n->0<=n.tmod d:=λh=>Int.tmod_nonneg d h
 have h6:n<=0->n.tmod d<=0:=λh=>by
  have:=Int.tmod_nonneg d (show 0 <= -n by omega);rw[Int.neg_tmod]at this;omega
 unfold down;generalize hq:n.tdiv d=q at *
 generalize hrr:n.tmod d=r at *
 have h4:d*q=q*d:=Int.mul_comm _ _;have hb : -200000100001<=q/\q<=200000100001:=by
  rcases eV 0 q with h | h
  .have:=Int.mul_le_mul_of_nonneg_left hd.1 h;omega
  .have:=Int.mul_le_mul_of_nonpos_left h hd.1;omega
 have w1:=cm (n:=q);have w2:=cm (n:=r);have w3:=cm (n:=q-1);have hne:¬d=0:=by omega
 have key:n / d=if r≠0/\n<0 then q-1 else q:=by
  split
  .rename_i hc;refine((Int.ediv_emod_unique (r:=r+d) (show 0<d by omega)).2 ⟨?_,?_,?_⟩).1
   .rw[Int.mul_sub];omega
   .omega
   .have:=h6 (by omega);omega
  .rename_i hc;refine((Int.ediv_emod_unique (r:=r) (show 0<d by omega)).2 ⟨?_,?_,?_⟩).1
   .omega
   .rcases eV 0 n with h | h
    .exact h5 h
    .have:=h6 h;omega
   .omega
 rw[key];by_cases hc:r=0
 .simp[hq,hrr,w1,hne,hc]
 .by_cases hc2:n<0<;>simp[hq,hrr,w1,w3,hne,hc,hc2]
def HU(b:bU)(i:Nat):Int:=((i / (b.f.x.toNat*b.f.y.toNat):Nat):Int)
theorem Kq{b:bU}(h:Bv b){i:Nat}(hi:i<b.n):Cl 179 [.agg (bL b),iI i] (iI (HU b i)) J:=by
 refine ar ?_;have hx:=h.x;have hy:=h.y;have hn:=h.n;obtain⟨s1,_⟩:=dF.sz h.x h.y h.z;have w1:=cm (n:=b.f.x*b.f.y);have e1:b.f.x*b.f.y=((b.f.x.toNat*b.f.y.toNat:Nat):Int):=by push_cast;rw[dQ (by omega),dQ (by omega)]
 have e2:(i:Int) / (b.f.x*b.f.y)=HU b i:=by
  rw[e1];rfl
 have e3:(i:Int).tdiv (b.f.x*b.f.y)=HU b i:=by
  rw[e1];rfl
 have hle:i / (b.f.x.toNat*b.f.y.toNat)<=i:=Nat.div_le_self _ _;have hq2:0<=HU b i/\HU b i<=64:=by
  have:i / (b.f.x.toNat*b.f.y.toNat)<=64:=by omega
  exact⟨Int.natCast_nonneg _,Int.ofNat_le.2 this⟩
 have w2:=cm (n:=HU b i);have⟨hne,hnx,hny⟩:¬b.f.x*b.f.y=0/\¬b.f.x=0/\¬b.f.y=0:=by omega
 simp[w1,hne,e3,w2]
theorem PX{b:bU}{D5:D}{s:List Rock.aF}{i:Nat}{x:Rock.aF}(hx:s[i]?=some x)(hm:0<=x.m/\x.m<=1000000)(ht:∀r∈b.c9,r.alone=true)(hl:b.c9.length<=1000):∀(n j:Nat) (o:Int),j+n=b.c9.length ->
  WL T [2,3,4,10,11] false nD [(2,lF s aF.enc),(3,iI i),(4,.aZ (bL b)),(10,iI o),(11,iI j)] J
   (λx' e J'=>J'=J/\x'=.exit 0/\get e 10=iI ((b.c9.drop j).foldl (iu x) o))
 |0,j,o,hj=>by
  refine av nD.eq_1 ?_;have h1:¬j<b.c9.length:=by omega
  have h2:b.c9.drop j=[]:=an (by omega);simp[h1,h2]
 |n+1,j,o,hj=>by
  refine av nD.eq_1 ?_;have h1:j<b.c9.length:=by omega
  obtain⟨r,hr⟩:=gE h1;have hrb:=S0 (ht r (ai hr));have h2:=aP (f:=Rw.enc) (w:=5) (λ_=>rfl) hr;have h3:=aP (f:=aF.enc) (w:=3) (λ_=>rfl) hx;have h4:=bO h1;have h5:=bz hr;have hi:i<s.length:=(aA.1 hx).1;have b1:=jb hrb.2.1 hrb.2.2 hm.1 hm.2;have w1:=cm (n:=r.l*x.m);have ih:=PX (D5:=D5) hx hm ht hl n (j+1) (iu x o r) (by omega);rw[h5];simp only[List.foldl_cons];by_cases hc:r.l*x.m<=x.h
  .have hm2:max o r.p=iu x o r:=by unfold iu;rw[if_pos hc]
   simp[h1,h2,h3,h4,hi,w1,hc];refine WL.to ih (by simp[iu,hc]) rfl λx e J hh=>hh
  .simp[h1,h2,h3,h4,hi,w1,hc];refine WL.to ih (by simp[iu,hc]) rfl λx e J hh=>hh
theorem Kt{b:bU}{m:cg}{s:List Rock.aF}(h:Fv b m)(hs:Sv b s){i:Nat}(hi:i<b.n):
  Cl 141 [.agg (bL b),.agg (mL m),lF s aF.enc,iI i] (iI (dA b m s i)) J:=by
 refine ar ?_;have hw:=λJ=>Kq (J:=J) h.bv hi
 have ho:=λJ=>se (J:=J) h.toMv (k:=0) (by omega) hi
 rw[show jU b m 0 i=hold b m i from rfl]at ho;simp only[show((0:Nat):Int)=0 from rfl]at ho;have b1:=h.hold i hi;obtain⟨hx,b2,b3,b4⟩:=hs.at hi;have hil:i<s.length:=by have:=hs.len;omega
 have hil':(i:Int)<s.length:=by omega
 have hst:=h.bv.cG;have b5:=xk h.bv hi;have e5:HU b i*b.lift=weight b i:=rfl;have b6 : -100000000000<=b.cG*((aT s i).m-hold b m i)/\b.cG*((aT s i).m-hold b m i)<=100000000000:=by
  rcases eV (hold b m i) (aT s i).m with hh | hh
  .have:=jb (a:=b.cG) (b:=(aT s i).m-hold b m i) (A:=100000) (B:=1000000) (by omega) hst.2 (by omega) (by omega);omega
  .have:=jb (a:=b.cG) (b:=hold b m i-(aT s i).m) (A:=100000) (B:=1000000) (by omega) hst.2 (by omega) (by omega);have e:b.cG*((aT s i).m-hold b m i) = - (b.cG*(hold b m i-(aT s i).m)):=by rw[<- Int.mul_neg];congr 1;omega
   omega
 have hd:=λJ=>aay (J:=J) (n:=b.cG*((aT s i).m-hold b m i)) (d:=hold b m i) (by omega) (by omega)
 have b7 : -100000000000<=down (b.cG*((aT s i).m-hold b m i)) (hold b m i)/\down (b.cG*((aT s i).m-hold b m i)) (hold b m i)<=100000000000:=by
  unfold down;constructor
  .rw[Int.le_ediv_iff_mul_le (by omega)];omega
  .have:=Int.ediv_le_self (b:=hold b m i) (a:=b.cG*((aT s i).m-hold b m i));rcases eV 0 (b.cG*((aT s i).m-hold b m i))with hh | hh
   .have:=this hh;omega
   .have:=Int.ediv_le_of_le_mul (b:=0) (show 0<hold b m i by omega) (by omega:b.cG*((aT s i).m-hold b m i)<=0*hold b m i);omega
 have w0:=cm (n:=weight b i);have w1:=cm (n:=(aT s i).m-hold b m i);have w2:=cm (n:=b.cG*((aT s i).m-hold b m i));have w3:=cm (n:=weight b i+down (b.cG*((aT s i).m-hold b m i)) (hold b m i));have h3:=aP (f:=aF.enc) (w:=3) (λ_=>rfl) hx;have htab:=h.bv.c9;simp only[fN,ah]at htab;have ht:=aQ.1 htab.1;simp[hw,ho,hil',h3,e5,w0,w1,w2,hd,w3];refine WL.to (PX (D5:=.undef) (J:=[]::J) hx ⟨by omega,by omega⟩ (eQ.1 htab.2.1) (by omega) b.c9.length 0 (max 0 (weight b i+down (b.cG*((aT s i).m-hold b m i)) (hold b m i))) (by omega)) (by simp) rfl ?_;rintro x e J' ⟨rfl,rfl,g⟩;simp[g,dA]
theorem Va{b:bU}(h:Bv b){i k:Nat}(hi:i<b.n)(hk:k<b.n):Cl 180 [.agg (bL b),iI i,iI k] (.bool (HX b i k)) J:=by
 refine ar ?_;have hx:=h.x;have hy:=h.y;have hn:=h.n;have⟨eX,eY⟩:b.f.x=(b.f.x.toNat:Int)/\b.f.y=(b.f.y.toNat:Int):=by omega
 have e1:∀i:Nat,(i:Int).tmod b.f.x=((i%b.f.x.toNat:Nat):Int):=λi=>by
  conv=>lhs;rw[eX]
  rfl
 have e2:∀i:Nat,(i:Int).tdiv b.f.x=((i / b.f.x.toNat:Nat):Int):=λi=>by
  conv=>lhs;rw[eX]
  rfl
 have e2':∀i:Nat,(i:Int) / b.f.x=((i / b.f.x.toNat:Nat):Int):=λi=>by
  conv=>lhs;rw[eX]
  rfl
 have e3:∀i:Nat,(i:Int).tmod b.f.y=((i%b.f.y.toNat:Nat):Int):=λi=>by
  conv=>lhs;rw[eY]
  rfl
 have e4:∀i:Nat,(i:Int).tdiv b.f.y=((i / b.f.y.toNat:Nat):Int):=λi=>by
  conv=>lhs;rw[eY]
  rfl
 have e4':∀i:Nat,(i:Int) / b.f.y=((i / b.f.y.toNat:Nat):Int):=λi=>by
  conv=>lhs;rw[eY]
  rfl
 have⟨hx0,hy0⟩:¬b.f.x=0/\¬b.f.y=0:=by omega
 have a1:i / b.f.x.toNat<=i:=Nat.div_le_self _ _;have a2:i / b.f.x.toNat / b.f.y.toNat<=i / b.f.x.toNat:=Nat.div_le_self _ _;have a3:i / b.f.x.toNat%b.f.y.toNat<=i / b.f.x.toNat:=Nat.mod_le _ _;have a4:i%b.f.x.toNat<=i:=Nat.mod_le _ _;have b1:k / b.f.x.toNat<=k:=Nat.div_le_self _ _;have b2:k / b.f.x.toNat / b.f.y.toNat<=k / b.f.x.toNat:=Nat.div_le_self _ _;have b3:k / b.f.x.toNat%b.f.y.toNat<=k / b.f.x.toNat:=Nat.mod_le _ _;have b4:k%b.f.x.toNat<=k:=Nat.mod_le _ _;unfold HX Mz px py pz;have q1:=e1 i;have q2:=e1 k;have q3:=e2 i;have q4:=e2 k;have q3':=e2' i;have q4':=e2' k;have q5:=e3 (i / b.f.x.toNat);have q6:=e3 (k / b.f.x.toNat);have q7:=e4 (i / b.f.x.toNat);have q8:=e4 (k / b.f.x.toNat);have q7':=e4' (i / b.f.x.toNat);have q8':=e4' (k / b.f.x.toNat);clear e1 e2 e2' e3 e4 e4';generalize i / b.f.x.toNat / b.f.y.toNat=A1 at *
 generalize i / b.f.x.toNat%b.f.y.toNat=A2 at *
 generalize i / b.f.x.toNat=A4 at *
 generalize i%b.f.x.toNat=A3 at *
 generalize k / b.f.x.toNat / b.f.y.toNat=B1 at *
 generalize k / b.f.x.toNat%b.f.y.toNat=B2 at *
 generalize k / b.f.x.toNat=B4 at *
 generalize k%b.f.x.toNat=B3 at *
 have sq:∀u:Int,-64<=u/\u<=64->0<=u*u/\u*u<=4096:=λu hu=>by
  rcases eV 0 u with h | h
  .have:=jb h hu.2 h hu.2;omega
  .have:=jb (a := -u) (b := -u) (A:=64) (B:=64) (by omega) (by omega) (by omega) (by omega);rw[Int.neg_mul_neg]at this;omega
 have s1:=sq ((A3:Int)-B3) (by omega);have s2:=sq ((A2:Int)-B2) (by omega);have s3:=sq ((A1:Int)-B1) (by omega);have v1:=cm (n:=(A1:Int));have v2:=cm (n:=(A2:Int));have v3:=cm (n:=(A3:Int));have v4:=cm (n:=(A4:Int));have v5:=cm (n:=(B1:Int));have v6:=cm (n:=(B2:Int));have v7:=cm (n:=(B3:Int));have v8:=cm (n:=(B4:Int));have w1:=cm (n:=(A1:Int)-B1);have w2:=cm (n:=(A2:Int)-B2);have w3:=cm (n:=(A3:Int)-B3);have y1:=cm (n:=((A3:Int)-B3)*((A3:Int)-B3));have y2:=cm (n:=((A2:Int)-B2)*((A2:Int)-B2));have y3:=cm (n:=((A1:Int)-B1)*((A1:Int)-B1));have y4:=cm (n:=((A3:Int)-B3)*((A3:Int)-B3)+((A2:Int)-B2)*((A2:Int)-B2));have y5:=cm (n:=((A3:Int)-B3)*((A3:Int)-B3)+((A2:Int)-B2)*((A2:Int)-B2)+((A1:Int)-B1)*((A1:Int)-B1));simp[q1,q2,q3,q4,q5,q6,q7,q8,hx0,hy0,v1,v4,v5,v8,w1,w2,w3,y1,y2,y3,y4,y5];rfl
theorem WW{x:Rock.aF}{q:Int}(hm:1<=x.m/\x.m<=1000000)(hh:0<=x.h/\x.h<=10000000000)(hk:0<=x.k/\x.k<=1000000000000)(hq:0<=q/\q<=x.m):
  Cl 181 [.agg x.enc,iI q] (.agg (x.out q).enc) J:=by
 refine ar ?_;have b1:=jb hh.1 hh.2 hq.1 (show q<=1000000 by omega);have b2:=jb hk.1 hk.2 hq.1 (show q<=1000000 by omega);have b3:=JP hm.1 hh hq;have b4:=JP hm.1 hk hq;have w1:=cm (n:=x.h*q);have w2:=cm (n:=x.k*q);have w3:=cm (n:=(x.h*q).tdiv x.m);have w4:=cm (n:=(x.k*q).tdiv x.m);have hne:¬x.m=0:=by omega
 simp[w1,w2,w3,w4,hne,Rock.aF.out]
theorem NV{x o:Rock.aF}(h1:sm x 1000000000000000000)(h2:sm o 1000000000000000000):Cl 177 [.agg x.enc,.agg o.enc] (.agg (x.move o 1).enc) J:=by
 refine ar ?_;obtain⟨a1,a2,a3⟩:=h1;obtain⟨c1,c2,c3⟩:=h2;have w1:=cm (n:=x.m+o.m);have w2:=cm (n:=x.h+o.h);have w3:=cm (n:=x.k+o.k);simp[w1,w2,w3,Rock.aF.move]
theorem Pv{x o:Rock.aF}(h1:sm x 1000000000000000000)(h2:sm o 1000000000000000000):Cl 182 [.agg x.enc,.agg o.enc] (.agg (x.move o (-1)).enc) J:=by
 refine ar ?_;obtain⟨a1,a2,a3⟩:=h1;obtain⟨c1,c2,c3⟩:=h2;have w1:=cm (n:=x.m-o.m);have w2:=cm (n:=x.h-o.h);have w3:=cm (n:=x.k-o.k);have e:∀a c:Int,a + -1*c=a-c:=λa c=>by omega
 simp only[Rock.aF.move,aF.enc];simp[w1,w2,w3];omega
theorem WS{w:bA}{r:Int}(hr : -100000<=r/\r<=100000)(h1:0<=w.h/\w.h<=3000)(h2:0<=w.m/\w.m<=1000000):
  Cl 183 [.agg w.enc,iI r] (.agg (w.given r).enc) J:=by
 refine ar ?_;have b1:=mulR h1 hr;have b2:=mulR h2 hr;have w1:=cm (n := -r);have w2:=cm (n := -(r*w.h));have w3:=cm (n := -(r*w.m));simp[w1,w2,w3,bA.given,Int.neg_mul]
theorem aec{b:bU}{m:cg}(h:Fv b m){i:Nat}(hi:i<b.n):Cl 178 [.agg (bL b),.agg (mL m),iI i] (.agg (JI b m i).enc) J:=by
 refine ar ?_;have hf:=λJ=>se (J:=J) h.toMv (k:=3) (by omega) hi
 rw[show jU b m 3 i=feed b m i from rfl]at hf;simp only[show((3:Nat):Int)=3 from rfl]at hf;have b1:=h.feed i hi;have b2:=h.bv.deep;have b3:=jb b1.1 b1.2 b2.1 b2.2;have w1:=cm (n:=feed b m i*b.deep);simp[hf,w1,JI]
theorem aed{x:Rock.aF}:Cl 223 [.agg x.enc] (.bool x.valid) J:=by
 refine ar ?_;cases hc1:bF x.m 1 1000000
 .simp[dw,Rock.aF.valid,hc1]
 cases hc2:bF x.h 0 10000000000
 .simp[dw,Rock.aF.valid,hc1,hc2]
 cases hc3:bF x.k 0 1000000000000
 .simp[dw,Rock.aF.valid,hc1,hc2,hc3]
 simp[dw,Rock.aF.valid,hc1,hc2,hc3]
theorem PV{b:bU}{s:List Rock.aF}(hl:s.length<=1000000000):∀(n i:Nat),i+n=s.length ->
  WL T [1,2,5] false nF [(1,lF s aF.enc),(2,.aZ (bL b)),(5,iI i)] J
   (λx e J'=>J'=J/\if dq (s.drop i) Rock.aF.valid=true then x=.exit 0/\get e 1=lF s aF.enc/\get e 2=.aZ (bL b)else x=.ret/\get e 4=.bool false)
 |0,i,hi=>by
  refine av nF.eq_1 ?_;have h1:¬i<s.length:=by omega
  have h2:s.drop i=[]:=an (by omega);simp[h1,h2,dq]
 |n+1,i,hi=>by
  refine av nF.eq_1 ?_;have h1:i<s.length:=by omega
  obtain⟨x,hx⟩:=gE h1;have h2:=aP (f:=aF.enc) (w:=3) (λ_=>rfl) hx;have h4:=bO h1;have h5:=bz hx;have hO:=λJ=>aed (J:=J) (x:=x)
  simp only[aF.enc]at hO;have ih:=PV (b:=b) hl n (i+1) (by omega);have e1:dq (s.drop i) Rock.aF.valid=(x.valid && dq (s.drop (i+1)) Rock.aF.valid):=by rw[h5];simp[dq]
  rw[e1];cases hc:x.valid
  .simp[h1,h2,hO,hc]
  .simp[h1,h2,h4,hO,hc];exact WL.to ih (by simp) rfl λx e J hh=>by simpa using hh
theorem WZ{b:bU}{s:List Rock.aF}(h:Bv b)(hl:s.length<=1000000000):Cl 184 [.agg (bL b),lF s aF.enc] (.bool (rG b s)) J:=by
 refine ar ?_;have hs:=λJ=>pR (J:=J) h.fv
 simp;refine WL.to (PV (J:=[]::J) (b:=b) hl s.length 0 (by omega)) (by simp) rfl ?_;rintro x e J' ⟨rfl,hh⟩;rw[aC]at hh;unfold rG;cases hc:dq s Rock.aF.valid
 .simp[hc]at hh;simp[hh]
 .simp[hc]at hh;by_cases hc1:(s.length:Int)=b.size
  .have hc2:(s.length:Int)=b.f.size:=hc1;simp[hh,hs,hc1];rfl
  .have hc2:¬(s.length:Int)=b.f.size:=hc1;simp[hh,hs,hc1,hc2]
theorem PU{b:bU}{m:cg}(h:Fv b m):∀(n i:Nat),i+n=b.n ->
  WL T [2,3,5,6] false nE [(2,.aZ (bL b)),(3,.aZ (mL m)),(5,.sl J.length 0 i 0 i 3),(6,iI i)] ([.cells i (fM ((cb b m).take i) aF.enc)]::J)
   (λx e J'=>x=.exit 0/\get e 5=.sl J.length 0 b.n 0 b.n 3/\J'=[.cells b.n (fM (cb b m) aF.enc)]::J)
 |0,i,hi=>by
  refine av nE.eq_1 ?_;obtain rfl:i=b.n:=by omega
  have hs:=λJ=>pR (J:=J) h.bv.fv
  have hz:=h.bv.sz;have hz':b.f.size=(b.n:Int):=hz;have h3:(cb b m).take b.n=cb b m:=af (by simp[o8]);simp[h3,hs,hz']
 |n+1,i,hi=>by
  refine av nE.eq_1 ?_;have h1:i<b.n:=by omega
  have hn:=h.bv.n;have hs:=λJ=>pR (J:=J) h.bv.fv
  have hz':b.f.size=(b.n:Int):=h.bv.sz;have h1':(i:Int)<b.n:=by omega
  have h4:=bO h1;have ho:=λJ=>se (J:=J) h.toMv (k:=0) (by omega) h1
  have hw:=λJ=>se (J:=J) h.toMv (k:=2) (by omega) h1
  rw[show jU b m 0 i=hold b m i from rfl]at ho;rw[show jU b m 2 i=Ik b m i from rfl]at hw;simp only[show((0:Nat):Int)=0 from rfl,show((2:Nat):Int)=2 from rfl]at ho hw;have b1:=h.hold i h1;have b2:=h.Ik i h1;have b3:=jb (by omega:0<=hold b m i) b1.2 b2.1 b2.2;have w1:=cm (n:=hold b m i*Ik b m i);have ih:=PU h n (i+1) (by omega);have hx:(cb b m)[i]?=some ⟨hold b m i,hold b m i*Ik b m i,0⟩:=by simp[cb,h1]
  have a3:=l7 (f:=aF.enc) hx;have a4:=tW ((cb b m).take i);rw[bY,o8,Nat.min_eq_left (by omega)]at a4;have a6:(fM ((cb b m).take i) aF.enc).take (i*3)=fM ((cb b m).take i) aF.enc:=af (by omega);have h7:(i+1)*24<=room:=by unfold room;omega
  simp[h1',h4,hs,hz',ho,hw,w1,a4,a6,h7];refine WL.to ih (by simp[]) (by simp[<- a3]) λx e J hh=>hh
theorem Ku{b:bU}{m:cg}(h:Fv b m)(hJ:J≠[]):Cl 139 [.agg (bL b),.agg (mL m)] (.bZ b.n (fM (cb b m) aF.enc)) J:=by
 refine ar ?_;simp[];refine WL.to (PU (J:=J) h b.n 0 (by omega)) (by simp) (by simp) ?_;rintro x e J' ⟨rfl,g5,rfl⟩;have hk:=gG (n:=16) (f:=aF.enc) (w:=3) (l:=cb b m) (j:=0) (v:=b.n) (bs:=[.cells b.n (fM (cb b m) aF.enc)]) (by decide) (λ_=>rfl) (λx=>by simp) hJ rfl
 try simp only[lF]at hk
 rw[o8]at hk;simp[g5,hk]
theorem ai0{b:bU}{m:cg}(h:Fv b m):∀i,i<b.n->0<=Rock.Ab b m i:=λi hi=>(h.Ab i hi).1
theorem adJ{b:bU}{m:cg}{s:List Rock.aF}(hs:Sv b s){i:Nat}(hi:i<b.n):((bg b m s)[i]?).getD 0=dA b m s i:=by
 have h1:i<s.length:=by have:=hs.len;omega
 simp[bg,h1]
theorem ai3{b:bU}{m:cg}{s:List Rock.aF}(hs:Sv b s){i k:Nat}(hi:i<b.n)(hk:k<b.n):pd b (bg b m s) (i,k)=dA b m s i-weight b i-dA b m s k+weight b k:=by
 unfold pd;simp only[adJ hs hi,adJ hs hk]
theorem alV{b:bU}{m:cg}{s:List Rock.aF}(h:Fv b m)(hs:Sv b s){i k:Nat}(hi:i<b.n)(hk:k<b.n)(hd:0<pd b (bg b m s) (i,k)):0<=rq b m s (bg b m s) (i,k)/\rq b m s (bg b m s) (i,k)<=(aT s i).m:=by
 obtain⟨_,m1,_,_⟩:=hs.at hi;have o1:=h.Ab i hi;have o2:=h.Ab k hk;have h1:0<=(aT s i).m.tdiv 8/\(aT s i).m.tdiv 8<=(aT s i).m:=by
  rw[aS (by omega)];omega
 have h3:0<=(min (Ab b m i) (Ab b m k)*pd b (bg b m s) (i,k)).tdiv 1000:=Int.tdiv_nonneg (bB (by omega) (by omega)) (by omega);unfold rq;simp only;omega
theorem UE{b:bU}{s:List Rock.aF}(hs:Sv b s){i:Nat}(hi:i<b.n){q:Int}(hq:0<=q/\q<=(aT s i).m):sm ((aT s i).out q) 1000000000000:=by
 obtain⟨_,m1,m2,m3⟩:=hs.at hi;exact ON m1 m2 m3 hq
theorem KX{s:List Rock.aF}{i:Nat}{x:Rock.aF}(hi:i<s.length):(fM s aF.enc).take (i*3)++(iI x.m::iI x.h::iI x.k::(fM s aF.enc).drop (i*3+3))=fM (s.set i x) aF.enc:=by
 have:=No (f:=aF.enc) (w:=3) (λ_=>rfl) (l:=s) (i:=i) (x:=x) hi;simpa using this
theorem Fb{s:List Rock.aF}{i:Nat}(hi:i<s.length):((fM s aF.enc).drop (i*3)).take 3=[iI (aT s i).m,iI (aT s i).h,iI (aT s i).k] :=
 aP (f:=aF.enc) (w:=3) (λ_=>rfl) (by simp[aT,hi])
theorem zF{s:List Rock.aF}{i:Nat}{o:Rock.aF}{a:Int}:(cq s i o a).length=s.length:=by simp[cq]
theorem abl{b:bU}{m:cg}{s:List Rock.aF}{aG:List Int}(h:Fv b m)(hs:Sv b s){i:Nat}(hi:i<b.n):∀(n k:Nat) (next:List Rock.aF) (N:Int),k+n=b.n->next.length=b.n->CC N next->0<=N->N+2000000000000*n<=100000000000000000 ->
  WL T [2,3,4,5,11,12,13] false nG [(2,lF s aF.enc),(3,lF aG aO),(4,.aZ (bL b)),(5,.aZ (mL m)),(11,.sl J.length 0 0 0 b.n 3),(12,iI i),(13,iI k)] ([.cells 0 (fM next aF.enc)]::J)
   (λx e J'=>x=.exit 2/\get e 2=lF s aF.enc/\get e 3=lF aG aO/\get e 4=.aZ (bL b)/\get e 5=.aZ (mL m)/\get e 11=.sl J.length 0 0 0 b.n 3/\get e 12=iI i /\
    ∃next',next'=((List.range b.n).drop k).foldl (uM b m s i) next/\next'.length=b.n/\CC (N+2000000000000*n) next'/\J'=[.cells 0 (fM next' aF.enc)]::J)
 |0,k,next,N,hk,hl,hb,h0,hN=>by
  refine av nG.eq_1 ?_;have hsl:=hs.len;have h1:¬k<s.length:=by omega
  have h2:(List.range b.n).drop k=[]:=an (by simp;omega);simp[h1,h2];exact⟨hl,λx hx=>by simpa using hb x hx⟩
 |n+1,k,next,N,hk,hl,hb,h0,hN=>by
  refine av nG.eq_1 ?_;have hsl:=hs.len;have hbn:=h.bv.n;have⟨hk1,h1,hi1⟩:k<b.n/\k<s.length/\i<s.length:=by omega
  have h4:=bO hk1;have h5:(List.range b.n).drop k=k::(List.range b.n).drop (k+1):=bz (by simp[hk1]);have c1:=λJ=>Kt (J:=J) h hs hi
  have c2:=λJ=>Kt (J:=J) h hs hk1
  have c3:=λJ=>Kq (J:=J) h.bv hi
  have c4:=λJ=>Kq (J:=J) h.bv hk1
  have c5:=λJ=>Va (J:=J) h.bv hi hk1
  have e3:HU b i*b.lift=weight b i:=rfl;have e4:HU b k*b.lift=weight b k:=rfl;have p1:=H4 h hs hi;have p2:=H4 h hs hk1;have q1:=xk h.bv hi;have q2:=xk h.bv hk1;have hpd:=ai3 (m:=m) hs hi hk1;have w1:=cm (n:=weight b i);have w2:=cm (n:=weight b k);have w3:=cm (n:=dA b m s i-weight b i);have w4:=cm (n:=dA b m s i-weight b i-dA b m s k);have w5:=cm (n:=dA b m s i-weight b i-dA b m s k+weight b k);have hdb : -300000000000<=dA b m s i-weight b i-dA b m s k+weight b k/\dA b m s i-weight b i-dA b m s k+weight b k<=300000000000:=by omega
  rw[<- hpd]at w5 hdb;have hbig:N+2000000000000<=100000000000000000:=by push_cast at hN;omega
  rw[h5,List.foldl_cons];cases hL:HX b i k
  .have ih:=abl (aG:=aG) h hs hi n (k+1) next (N+2000000000000) (by omega) hl (λx hx=>dj (hb x hx) (by omega)) (by omega) (by push_cast at hN;omega)
   have hr:uM b m s i next k=next:=by simp[uM,hL]
   rw[hr];simp[h1,c1,c2,c3,c4,c5,e3,e4,w1,w2,w3,w4,<- hpd,w5,hL,h4];refine WL.to ih (by simp) rfl λx e J' hh=>?_
   obtain⟨r1,r2,r3,r4,r5,r6,r7,nx,r8,r9,r10,r11⟩:=hh;exact⟨r1,r2,r3,r4,r5,r6,r7,nx,r8,r9,λx hx=>dj (r10 x hx) (by push_cast;omega),r11⟩
  .by_cases hd:0<pd b (bg b m s) (i,k)
   .have hd':¬pd b (bg b m s) (i,k)<=0:=by omega
    have hik:i≠k:=by
     rintro rfl;simp[HX,Mz]at hL
    have hq:=alV h hs hi hk1 hd;obtain⟨x1,m1,m2,m3⟩:=hs.at hi;have f1:=Fb hi1;have v1:=λJ=>se (J:=J) h.toMv (k:=1) (by omega) hi
    have v2:=λJ=>se (J:=J) h.toMv (k:=1) (by omega) hk1
    rw[show jU b m 1 i=Ab b m i from rfl]at v1;rw[show jU b m 1 k=Ab b m k from rfl]at v2;simp only[show((1:Nat):Int)=1 from rfl]at v1 v2;have o1:=h.Ab i hi;have o2:=h.Ab k hk1;have ho:=λJ=>WW (J:=J) m1 m2 m3 hq
    have hso:=UE hs hi hq;have hfl:uM b m s i next k=cq (cq next i ((aT s i).out (rq b m s (bg b m s) (i,k))) (-1)) k ((aT s i).out (rq b m s (bg b m s) (i,k))) 1:=by
     simp only[uM,hL,hd,true_and,if_true,cI,rE]
    have hrq:rq b m s (bg b m s) (i,k)=min ((aT s i).m.tdiv 8) ((min (Ab b m i) (Ab b m k)*pd b (bg b m s) (i,k)).tdiv 1000):=rfl;have b1:=jb (a:=min (Ab b m i) (Ab b m k)) (b:=pd b (bg b m s) (i,k)) (A:=1000) (B:=300000000000) (by omega) (by omega) (by omega) (by omega);have t8:=aS (b:=8) (show 0<=(aT s i).m by omega);have t9:=aS (b:=1000) b1.1;generalize hD:pd b (bg b m s) (i,k)=D0 at *
    generalize hX:min (Ab b m i) (Ab b m k)*D0=X at *
    have y1:=cm (n:=(aT s i).m.tdiv 8);have y2:=cm (n:=X);have y3:=cm (n:=X.tdiv 1000) (by rw[t9];omega);rw[hrq]at ho hso hfl hq;generalize hQ:min ((aT s i).m.tdiv 8) (X.tdiv 1000)=Q at *
    generalize (aT s i).out Q=o at *
    rw[hfl];have⟨hi2,hk2⟩:i<next.length/\k<next.length:=by omega
    have g1:=Fb hi2;have g2:=Fb hk2;obtain⟨_,s1⟩:=CO hb hi2;obtain⟨_,s2⟩:=CO hb hk2;have k1:=λJ=>Pv (J:=J) (dj s1 (by omega)) (dj hso (by omega))
    have k2:=λJ=>NV (J:=J) (dj s2 (by omega)) (dj hso (by omega))
    have hbA:=rh (M:=1000000000000) hb (i:=i) (sign := -1) hso (.inr rfl) (by omega);have hbB:=rh (M:=1000000000000) hbA (i:=k) (sign:=1) hso (.inl rfl) (by omega);have eA:cq next i o (-1)=next.set i ((aT next i).move o (-1)):=rfl
    have eB:cq (cq next i o (-1)) k o 1=(next.set i ((aT next i).move o (-1))).set k ((aT next k).move o 1):=by
     rw[eA];unfold cq;congr 2;simp[aT,List.getElem?_set_ne hik]
    have st1:=KX (x:=(aT next i).move o (-1)) hi2;have hk3:k<(next.set i ((aT next i).move o (-1))).length:=by simpa using hk2
    have st2:=KX (x:=(aT next k).move o 1) hk3;have ih:=abl (aG:=aG) h hs hi n (k+1) (cq (cq next i o (-1)) k o 1) (N+2000000000000) (by omega) (by rw[zF,zF];exact hl) (λx hx=>dj (hbB x hx) (by omega)) (by omega) (by push_cast at hN;omega);rw[eB]at ih ⊢;have hln:=tW next
    have hln2:=tW (next.set i ((aT next i).move o (-1)));rw[List.length_set]at hln2;generalize (aT next i).move o (-1)=P1 at *
    generalize (aT next k).move o 1=P2 at *
    generalize next.set i P1=nx1 at *
    simp only[aF.enc]at ho k1 k2;have⟨z1,z2,z3,z4⟩:i*3+3<=b.n*3/\k*3+3<=b.n*3/\3<=b.n*3-i*3/\3<=b.n*3-k*3:=by omega
    rw[hl]at hln hln2;simp[h1,hi1,hi,hk1,c1,c2,c3,c4,c5,e3,e4,w1,w2,w3,w4,<- hpd,w5,hL,h4,hd',f1,v1,v2,hX,y1,y2,y3,hQ,ho,g1,g2,k1,k2,hln,hln2,st1,st2,z1,z2,z3,z4];refine WL.to ih (by simp) (by simp) λx e J' hh=>?_
    obtain⟨r1,r2,r3,r4,r5,r6,r7,nx,r8,r9,r10,r11⟩:=hh;exact⟨r1,r2,r3,r4,r5,r6,r7,nx,r8,r9,λx hx=>dj (r10 x hx) (by push_cast;omega),r11⟩
   .have ih:=abl (aG:=aG) h hs hi n (k+1) next (N+2000000000000) (by omega) hl (λx hx=>dj (hb x hx) (by omega)) (by omega) (by push_cast at hN;omega)
    have hr:uM b m s i next k=next:=by simp[uM,hd]
    have hd':pd b (bg b m s) (i,k)<=0:=by omega
    rw[hr];simp[h1,c1,c2,c3,c4,c5,e3,e4,w1,w2,w3,w4,<- hpd,w5,hL,hd',h4];refine WL.to ih (by simp) rfl λx e J' hh=>?_
    obtain⟨r1,r2,r3,r4,r5,r6,r7,nx,r8,r9,r10,r11⟩:=hh;exact⟨r1,r2,r3,r4,r5,r6,r7,nx,r8,r9,λx hx=>dj (r10 x hx) (by push_cast;omega),r11⟩
theorem ahZ{b:bU}{m:cg}{s:List Rock.aF}{aG:List Int}(h:Fv b m)(hs:Sv b s):∀(n i:Nat) (next:List Rock.aF) (N:Int),i+n=b.n->next.length=b.n->CC N next->0<=N->N+200000000000000*n<=50000000000000000 ->
  WL T [2,3,4,5,11,12] false nH [(2,lF s aF.enc),(3,lF aG aO),(4,.aZ (bL b)),(5,.aZ (mL m)),(11,.sl J.length 0 0 0 b.n 3),(12,iI i)] ([.cells 0 (fM next aF.enc)]::J)
   (λx e J'=>x=.exit 0/\get e 2=lF s aF.enc/\get e 3=lF aG aO/\get e 4=.aZ (bL b)/\get e 11=.sl J.length 0 0 0 b.n 3 /\
    ∃next',next'=((List.range b.n).drop i).foldl (OU b m s) next/\next'.length=b.n/\CC (N+200000000000000*n) next'/\J'=[.cells 0 (fM next' aF.enc)]::J)
 |0,i,next,N,hi,hl,hb,h0,hN=>by
  refine av nH.eq_1 ?_;have hsl:=hs.len;have h1:¬i<s.length:=by omega
  have h2:(List.range b.n).drop i=[]:=an (by simp;omega);simp[h1,h2];exact⟨hl,λx hx=>by simpa using hb x hx⟩
 |n+1,i,next,N,hi,hl,hb,h0,hN=>by
  refine av nH.eq_1 ?_;have hsl:=hs.len;have hbn:=h.bv.n;have⟨hi1,h1⟩:i<b.n/\i<s.length:=by omega
  have h4:=bO hi1;have h5:(List.range b.n).drop i=i::(List.range b.n).drop (i+1):=bz (by simp[hi1]);have hF:=λJ=>aec (J:=J) h hi1
  have hsf:=Sw h hi1;have hi2:i<next.length:=by omega
  have g1:=Fb hi2;obtain⟨_,s1⟩:=CO hb hi2;have hP:=λJ=>NV (J:=J) (dj s1 (by push_cast at hN;omega)) (dj hsf (by omega))
  have st1:=KX (x:=(aT next i).move (JI b m i) 1) hi2;have hbA:=rh (M:=1000000000000) hb (i:=i) (sign:=1) hsf (.inl rfl) (by omega);have eA:cq next i (JI b m i) 1=next.set i ((aT next i).move (JI b m i) 1):=rfl
  have hln:=tW next
  rw[hl]at hln;have⟨z1,z3⟩:i*3+3<=b.n*3/\3<=b.n*3-i*3:=by omega
  have hrow:OU b m s next i=(List.range b.n).foldl (uM b m s i) (cq next i (JI b m i) 1):=rfl
  have hlen1:(cq next i (JI b m i) 1).length=b.n:=by rw[zF];exact hl
  rw[h5,List.foldl_cons,hrow];rw[eA]at hbA hlen1 ⊢;generalize (aT next i).move (JI b m i) 1=P at *
  simp only[aF.enc]at hF hP;simp[h1,hi1,hF,hP,g1,hln,z1,z3,st1];refine WL.to (abl (J:=J) (aG:=aG) h hs hi1 b.n 0 (next.set i P) (N+1000000000000) (by omega) hlen1 hbA (by omega) (by push_cast at hN;omega)) (by simp) (by simp) ?_;rintro x e J' ⟨rfl,g2,g3,g4,g5,g11,g12,nx,r8,r9,r10,rfl⟩;rw[aC]at r8;rw[<- r8];have ih:=ahZ (aG:=aG) h hs n (i+1) nx (N+200000000000000) (by omega) r9 (λx hx=>dj (r10 x hx) (by omega)) (by omega) (by push_cast at hN;omega);simp[g2,g3,g4,g5,g11,g12,h4];refine WL.to ih (by simp) rfl λx e J' hh=>?_
  obtain⟨r1,r2,r3,r4,r5,nx',q1,q2,q3,q4⟩:=hh;exact⟨r1,r2,r3,r4,r5,nx',q1,q2,λx hx=>dj (q3 x hx) (by push_cast;omega),q4⟩
def Cx(b:bU)(s next:List Rock.aF)(aG:List Int)(w:Nat):List Rock.aF:=((b.aw.zip aG).drop w).foldl (λn wr=>sP s n wr.1 wr.2) next
theorem aeO{b:bU}{s:List Rock.aF}{aG:List Int}(h:Bv b)(hs:Sv b s)(hr:Rv b aG):∀(n w:Nat) (next:List Rock.aF) (N:Int),w+n=aG.length->next.length=b.n->CC N next->0<=N->N+1000000000000*n<=100000000000000000 ->
  WL T [2,3,4,11,16,17] false nI [(2,lF s aF.enc),(3,lF aG aO),(4,.aZ (bL b)),(11,.sl J.length 0 0 0 b.n 3),(16,.sl J.length 1 w 0 w 3),(17,iI w)]
   ([.cells 0 (fM next aF.enc),.cells w (fM ((bK b s aG).take w) aF.enc)]::J)
   (λx e J'=>x=.exit 4/\get e 4=.aZ (bL b)/\get e 11=.sl J.length 0 0 0 b.n 3/\get e 16=.sl J.length 1 aG.length 0 aG.length 3 /\
    ∃next',next'=Cx b s next aG w/\next'.length=b.n/\J'=[.cells 0 (fM next' aF.enc),.cells aG.length (fM (bK b s aG) aF.enc)]::J)
 |0,w,next,N,hw,hl,hb,h0,hN=>by
  refine av nI.eq_1 ?_;obtain rfl:w=aG.length:=by omega
  have hrl:=hr.len;have hyl:(bK b s aG).length=aG.length:=by simp[bK,hr.len]
  have h3:(bK b s aG).take aG.length=bK b s aG:=af (by omega);have h2:(b.aw.zip aG).drop aG.length=[]:=an (by rw[List.length_zip];omega);simp[h3,Cx,h2];exact hl
 |n+1,w,next,N,hw,hl,hb,h0,hN=>by
  refine av nI.eq_1 ?_;have hrl:=hr.len;have hwl:=h.aw;have hbn:=h.n;have hsl:=hs.len;have⟨h1,h1w,h1'⟩:w<aG.length/\w<b.aw.length/\(w:Int)<b.aw.length:=by omega
  obtain⟨r,hx⟩:=gE h1;obtain⟨wl,hwx⟩:=gE h1w;obtain⟨p1,p2,p3⟩:=Im h wl (ai hwx);have hrb:=hr.ok r (ai hx);obtain⟨i,hi⟩:∃i:Nat,wl.b=i:=⟨wl.b.toNat,by omega⟩;have⟨hin,hi1,hi2⟩:i<b.n/\i<s.length/\i<next.length:=by omega
  have h4:=bO h1;have a1:=gw hx;have a2:=aP (f:=bA.enc) (w:=3) (λ_=>rfl) hwx;simp only[bA.enc,hi]at a2;have f1:=Fb hi1;have g1:=Fb hi2;obtain⟨x1,m1,m2,m3⟩:=hs.at hin;obtain⟨_,s1⟩:=CO hb hi2;have hzip:(b.aw.zip aG)[w]?=some (wl,r):=by rw[List.getElem?_zip_eq_some];exact⟨hwx,hx⟩
  have h5:=bz hzip;have hW:Cx b s next aG w=Cx b s (sP s next wl r) aG (w+1):=by
   unfold Cx;rw[h5,List.foldl_cons]
  rw[hW];have hy:(bK b s aG)[w]?=some (iw s wl r):=by simp[bK,hzip]
  have a3:=l7 (f:=aF.enc) hy;have hyl:(bK b s aG).length=aG.length:=by simp[bK,hr.len]
  have a4:=tW ((bK b s aG).take w);rw[bY,hyl,Nat.min_eq_left (by omega)]at a4;have a6:(fM ((bK b s aG).take w) aF.enc).take (w*3)=fM ((bK b s aG).take w) aF.enc:=af (by omega);have h7:(w+1)*24<=room:=by unfold room;omega
  have hln:=tW next
  rw[hl]at hln;have⟨z1,z3⟩:i*3+3<=b.n*3/\3<=b.n*3-i*3:=by omega
  have y1:=cm (n:=(aT s i).m.tdiv 8) (by rw[aS (by omega)];omega);have z4:3<=s.length*3-i*3:=by omega
  by_cases hc:0<r
  .have hq:0<=min r ((aT s i).m.tdiv 8)/\min r ((aT s i).m.tdiv 8)<=(aT s i).m:=by
    rw[aS (by omega)];omega
   have ho:=λJ=>WW (J:=J) m1 m2 m3 hq
   have hso:=UE hs hin hq;have hwy:iw s wl r=(aT s i).out (min r ((aT s i).m.tdiv 8)):=by
    unfold iw;rw[if_neg (by omega),hi];rfl
   have hwm:sP s next wl r=next.set i ((aT next i).move ((aT s i).out (min r ((aT s i).m.tdiv 8))) (-1)):=by
    unfold sP;rw[if_pos hc,hi];rfl
   have hbA:=rh (M:=1000000000000) hb (i:=i) (sign := -1) hso (.inr rfl) (by omega);have hlen1:(cq next i ((aT s i).out (min r ((aT s i).m.tdiv 8))) (-1)).length=b.n:=by rw[zF];exact hl
   have eA:cq next i ((aT s i).out (min r ((aT s i).m.tdiv 8))) (-1)=next.set i ((aT next i).move ((aT s i).out (min r ((aT s i).m.tdiv 8))) (-1)):=rfl
   rw[eA]at hbA hlen1;have hM:=λJ=>Pv (J:=J) (dj s1 (by push_cast at hN;omega)) (dj hso (by omega))
   have st1:=KX (x:=(aT next i).move ((aT s i).out (min r ((aT s i).m.tdiv 8))) (-1)) hi2;have ih:=aeO h hs hr n (w+1) (sP s next wl r) (N+1000000000000) (by omega) (by rw[hwm];exact hlen1) (by rw[hwm];exact hbA) (by omega) (by push_cast at hN;omega);rw[hwm]at ih ⊢;rw[hwy]at a3;generalize (aT s i).out (min r ((aT s i).m.tdiv 8))=o at *
   generalize (aT next i).move o (-1)=P at *
   simp only[aF.enc]at ho hM;simp[h1,h1',hi1,hin,a1,a2,f1,g1,y1,ho,hM,hc,hln,z1,z3,st1,a4,a6,h7,h4];exact WL.to ih (by simp) (by simp[<- a3]) λx e J' hh=>hh
  .have hG:=λJ=>WS (J:=J) hrb p2 p3
   have hsg:=Lr hrb p2 p3;have hwy:iw s wl r=⟨0,0,0⟩:=by
    unfold iw;rcases Int.lt_or_le r 0 with h | h
    .rw[if_pos h]
    .obtain rfl:r=0:=by omega
     have h9:0<=(aT s wl.b.toNat).m.tdiv 8:=by
      rw[hi];exact Int.tdiv_nonneg (by have:=m1.1;simp only[Int.toNat_natCast];omega) (by omega)
     rw[if_neg (by omega),show min 0 ((aT s wl.b.toNat).m.tdiv 8)=0 by omega];simp[Rock.aF.out]
   have hwm:sP s next wl r=next.set i ((aT next i).move (wl.given r) 1):=by
    unfold sP;rw[if_neg hc,hi];rfl
   have hbA:=rh (M:=1000000000000) hb (i:=i) (sign:=1) hsg (.inl rfl) (by omega);have hlen1:(cq next i (wl.given r) 1).length=b.n:=by rw[zF];exact hl
   have eA:cq next i (wl.given r) 1=next.set i ((aT next i).move (wl.given r) 1):=rfl
   rw[eA]at hbA hlen1;have hM:=λJ=>NV (J:=J) (dj s1 (by push_cast at hN;omega)) (dj hsg (by omega))
   have st1:=KX (x:=(aT next i).move (wl.given r) 1) hi2;have ih:=aeO h hs hr n (w+1) (sP s next wl r) (N+1000000000000) (by omega) (by rw[hwm];exact hlen1) (by rw[hwm];exact hbA) (by omega) (by push_cast at hN;omega);rw[hwm]at ih ⊢;rw[hwy]at a3;simp only[bA.enc,hi]at hG;generalize wl.given r=o at *
   generalize (aT next i).move o 1=P at *
   simp only[aF.enc]at hG hM;simp[h1,h1',hin,a1,a2,g1,hG,hM,hc,hln,z1,z3,st1,a4,a6,h7,h4];exact WL.to ih (by simp) (by simp[<- a3]) λx e J' hh=>hh
theorem aaC{b:bU}{m:cg}{s:List Rock.aF}{aG:List Int}(h:Fv b m)(hs:Sv b s)(hr:Rv b aG)(hJ:J≠[]):
  Cl 140 [.agg (bL b),.agg (mL m),lF s aF.enc,lF aG aO] (.cQ [.bZ b.n (fM (mV b m s aG) aF.enc),.bZ aG.length (fM (bK b s aG) aF.enc),.bool (rG b (mV b m s aG))]) J:=by
 refine ar ?_;have hsl:=hs.len;have hbn:=h.bv.n;have hrl:=hr.len;have hwl:=h.bv.aw;have h7:s.length*24<=room:=by unfold room;omega
 have hsn:s≠[]:=λhh=>by rw[hh]at hsl;simp at hsl;omega
 have hsn':¬s.length=0:=by omega
 have hln:=tW s;simp[h7,hsn',hln];refine WL.to (ahZ (J:=J) (aG:=aG) h hs b.n 0 s 1000000000000 (by omega) hsl hs.CC (by omega) (by omega)) (by simp[hsl]) (by simp) ?_;rintro x e J' ⟨rfl,g2,g3,g4,g11,nx,r1,r2,r3,rfl⟩;rw[aC]at r1;simp[g2,g3,g4,g11];refine WL.to (aeO (J:=J) h.bv hs hr aG.length 0 nx (1000000000000+200000000000000*(b.n:Int)) (by omega) r2 r3 (by omega) (by omega)) (by simp) (by simp) ?_;rintro x e J' ⟨rfl,g4,g11,g16,ny,q1,q2,rfl⟩;have hny:ny=mV b m s aG:=by
  rw[q1,r1];unfold Cx;rw[aC];obtain⟨_,hx,hy⟩:=h.bv.nat;refine ZF hx hy (λl hl=>QX h.bv hl) (λi=>?_) (ai0 h) hsl;by_cases hi:i<b.n
  .have:=(hs.at hi).2.1;omega
  .have:s[i]?=none:=dP (by omega);simp[aT,this]
 have hS:=λJ=>WZ (J:=J) (b:=b) (s:=ny) h.bv (by omega)
 try simp only[lF,Cl,bL]at hS
 rw[q2]at hS;have k11:=pM (f:=aF.enc) (w:=3) (λ_=>rfl) (λx=>by simp) (l:=ny) (j:=0) (v:=0) (bs:=[.cells 0 (fM ny aF.enc),.cells aG.length (fM (bK b s aG) aF.enc)]) (J:=J) hJ rfl;rw[q2]at k11;simp only[List.set_cons_zero]at k11;have hyl:(bK b s aG).length=aG.length:=by simp[bK,hr.len]
 have k16:=gG (n:=15) (f:=aF.enc) (w:=3) (l:=bK b s aG) (j:=1) (v:=aG.length) (bs:=[.dead,.cells aG.length (fM (bK b s aG) aF.enc)]) (by decide) (λ_=>rfl) (λx=>by simp) hJ rfl
 try simp only[lF]at k16
 rw[hyl]at k16;simp[g4,g11,g16,k11,hS];rw[hny];rw[pG (by simp) (by omega)];simp only[ff,gj];rw[de (by simp[D.clean,Iz]) (by omega),k16,de (by rfl) (by omega)];exact⟨_,rfl⟩
theorem SP{b:bU}{m:cg}{s:List Rock.aF}{aG:List Int}(h:Fv b m)(hs:Sv b s)(hr:Rv b aG):(mV b m s aG).length=b.n:=by
 obtain⟨fb,fl⟩:=Nh h hs;rw[<- OG hr hs.len,zj,(zY h.bv hs hr fb aG.length (aN _)).2,fl,hs.len]
theorem W0{b:bU}{m:cg}{s:List Rock.aF}{aG:List Int}(h:Fv b m)(hs:Sv b s)(hr:Rv b aG)(hJ:J≠[]):
  dt T (.call false 140 [.agg [iI b.f.x,iI b.f.y,iI b.f.z,iI b.f.k,.bZ b.c9.length (fM b.c9 Rw.enc),iI b.cG,iI b.lift,iI b.deep,.bZ b.aw.length (fM b.aw bA.enc)],.agg [.str m.name,.bZ m.dh.length (fM m.dh aO)],.bZ s.length (fM s aF.enc),.bZ aG.length (fM aG aO)] J)=some (.val (.cQ [.bZ (mV b m s aG).length (fM (mV b m s aG) aF.enc),.bZ (bK b s aG).length (fM (bK b s aG) aF.enc),.bool (rG b (mV b m s aG))]) J):=by
 rw[SP h hs hr,show(bK b s aG).length=aG.length by simp[bK,hr.len]];exact aaC h hs hr hJ
def age(J:SK)(r:Option (List (List Rock.aF)×List (List Rock.aF)))(x:Abs.Exit)(e:Env)(J':SK):Prop:=match r with
 |some (ss,ys)=>x=.exit 0/\(∃d6,get e 6=.own 0 d6/\d6.length=2)/\get e 8=.own 0 [.sl J.length 0 (ss.length-1) 0 ss.length 1,.sl J.length 1 ys.length 0 ys.length 1]/\J'=[.cells (ss.length-1) (fM ss lI),.cells ys.length (fM ys lI)]::J
 |none=>x=.ret/\get e 6=.own 0 [.bu,.bu]/\get e 7=.bool false/\∃bD,J'=bD::J
theorem N1{b:bU}{m:cg}{az:List (List Int)}(h:Fv b m)(hp:az.length<=200)(hr:∀r∈az,Rv b r):∀(k i:Nat) (ss ys:List (List Rock.aF)) (s:List Rock.aF),i+k=az.length->ss.length=i+1->ys.length=i->ss[i]?=some s->Sv b s ->
  WL T [2,3,4,6,8,9] false lZ [(2,lF az J0),(3,.aZ (bL b)),(4,.aZ (mL m)),(6,.own 0 [.bu,.bu]),(8,.own 0 [.sl J.length 0 i 0 (i+1) 1,.sl J.length 1 i 0 i 1]),(9,iI i)]
   ([.cells i (fM ss lI),.cells i (fM ys lI)]::J) (age J (oH b m ss ys s (az.drop i)))
 |0,i,ss,ys,s,hi,h1,h2,h3,hs=>by
  refine av lZ.eq_1 ?_;obtain rfl:i=az.length:=by omega
  have h5:az.drop az.length=[]:=an (by omega);simp[h5,oH,age,h1,h2]
 |k+1,i,ss,ys,s,hi,h1,h2,h3,hs=>by
  refine av lZ.eq_1 ?_;have⟨hlt,hii⟩:i<az.length/\(i:Int)<i+1:=by omega
  obtain⟨r,hx⟩:=gE hlt;have h4:=bO hlt;have h5:=bz hx;have a1:=aP (f:=J0) (w:=1) (λ_=>rfl) hx;simp only[J0,bJ]at a1;have a2:=re (f:=lI) (w:=1) (λ_=>rfl) h3;simp only[lI,bJ,cU]at a2;have hR:=hr r (ai hx);have hT:=λJ hJ=>W0 (J:=J) h hs hR hJ
  rw[h5,oH];cases hc:rG b (mV b m s r)
  .have ht:tick b m s r=none:=by simp[tick,hc]
   rw[hc]at hT;simp[hlt,hii,a1,a2,hT,ht,age]
  .have ht:tick b m s r=some (mV b m s r,bK b s r):=by simp[tick,hc]
   rw[hc]at hT;have ih:=N1 h hp hr k (i+1) (ss++[mV b m s r]) (ys++[bK b s r]) (mV b m s r) (by omega) (by simp[h1]) (by simp[h2]) (by simp[<- h1]) (Sv.next h.bv ht);have l1:=Km ss;have l2:=Km ys;rw[h1]at l1;rw[h2]at l2;have f1:(fM ss lI).take (i+1)=fM ss lI:=af (by omega);have f2:(fM ys lI).take i=fM ys lI:=af (by omega);have h7:=O2 (n:=i+1) (by omega);have h8:=O2 (n:=i+1+1) (by omega);rw[ht];generalize mV b m s r=s' at *
   generalize bK b s r=y at *
   simp[hlt,hii,h4,a1,a2,hT,f1,f2,l1,l2,h7,h8];exact WL.to ih (by simp) (by simp[lI]) λx e J hh=>hh
theorem Ks{b:bU}{m:cg}{az:List (List Int)}(h:Fv b m)(hp:az.length<=200)(hr:∀r∈az,Rv b r)(hJ:J≠[]){ss ys:List (List Rock.aF)}(hrun:Rock.run b m az=some (ss,ys)){wq:D}(hwq:wq.rN=lF b.aw bA.enc):
  Cl 102 [.agg [iI b.f.x,iI b.f.y,iI b.f.z,iI b.f.k,lF b.c9 Rw.enc,iI b.cG,iI b.lift,iI b.deep,wq],.agg (mL m),lF az J0] (.cQ [.agg [lF ss lI,lF ys lI],.bool true]) J:=by
 refine ar ?_;have hf:=λJ hJ=>Ku (J:=J) h hJ
 simp[hwq,hf];refine WL.to (N1 (J:=J) h hp hr az.length 0 [cb b m] [] (cb b m) (by omega) rfl rfl rfl (Sv.first h)) (by simp) (by simp[lI,o8]) ?_;rw[aC,show oH b m [cb b m] [] (cb b m) az=some (ss,ys)from hrun];rintro x e J' ⟨rfl,⟨d6,g6,l6⟩,g8,rfl⟩;simp[g6,g8,l6];have c1:∀x:List Rock.aF,D.aW (lI x)=true:=λx=>by simp[lI,D.clean,Iz]
 have k1:=gG (n:=14) (f:=lI) (w:=1) (l:=ss) (j:=0) (v:=ss.length-1) (bs:=[.cells (ss.length-1) (fM ss lI),.cells ys.length (fM ys lI)]) (by decide) (λ_=>rfl) c1 hJ rfl;have k2:=gG (n:=14) (f:=lI) (w:=1) (l:=ys) (j:=1) (v:=ys.length) (bs:=[.dead,.cells ys.length (fM ys lI)]) (by decide) (λ_=>rfl) c1 hJ rfl;simp only[List.set_cons_zero]at k1;rw[pG (by simp) (by omega)];simp only[ff,gj];rw[vW (by simp) (by omega)];simp only[ff,gj];rw[k1];simp only;rw[k2,de (by rfl) (by omega)];exact⟨_,rfl⟩
theorem RU{b:bU}{m:cg}{az:List (List Int)}(h:Fv b m)(hp:az.length<=200)(hr:∀r∈az,Rv b r)(hJ:J≠[])(hrun:Rock.run b m az=none){wq:D}(hwq:wq.rN=lF b.aw bA.enc):
  Cl 102 [.agg [iI b.f.x,iI b.f.y,iI b.f.z,iI b.f.k,lF b.c9 Rw.enc,iI b.cG,iI b.lift,iI b.deep,wq],.agg (mL m),lF az J0] (.cQ [.agg [.bu,.bu],.bool false]) J:=by
 refine ar ?_;have hf:=λJ hJ=>Ku (J:=J) h hJ
 simp[hwq,hf];refine WL.to (N1 (J:=J) h hp hr az.length 0 [cb b m] [] (cb b m) (by omega) rfl rfl rfl (Sv.first h)) (by simp) (by simp[lI,o8]) ?_;rw[aC,show oH b m [cb b m] [] (cb b m) az=none from hrun];rintro x e J' ⟨rfl,g6,g7,bD,rfl⟩;simp[g6,g7]
end Go.Proofs.YtpapbbojmclkgaaGreatDoor
