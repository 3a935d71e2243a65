import Derived.Test.YtpapbbojmclkgaaGreatDoorTxt1
set_option linter.all false
namespace Go.Proofs.YtpapbbojmclkgaaGreatDoor
open Go Go.Abs Go.Rock
variable {J:SK}
def NQ:Option Rw->Rw->Bool
 |some o,r=>o.wF r
 |none,_=>true
def CI(o:Option Rw):List Rw->Bool
 |[]=>true
 |r::l=>r.alone && (NQ o r && CI (some r) l)
theorem Eb{o:Option Rw}{r:Rw}{l:List Rw}:CI o (r::l)=(r.alone && (NQ o r && CI (some r) l)):=rfl
theorem P7(l:List Rw):∀o,CI (some o) l=(dj l Rw.alone && uq (o::l)):=by
 induction l with
 |nil=>intro o;simp[CI,dj,uq]
 |cons r l ih =>
  intro o;rw[Eb,ih,Bi,uq];show(r.alone && (o.wF r && (dj l Rw.alone && uq (r::l))))=(r.alone && dj l Rw.alone && (o.wF r && uq (r::l)))
  cases r.alone<;>cases o.wF r<;>cases dj l Rw.alone<;>simp
theorem P6(l:List Rw):CI none l=(dj l Rw.alone && uq l):=by
 cases l with
 |nil=>simp[CI,dj,uq]
 |cons r l=>rw[Eb,P7,Bi];cases r.alone<;>rfl
def WK(t:List Rw):Nat->Option Rw
 |0=>none
 |i+1=>t[i]?
theorem ON{t:List Rw}(hl:t.length<=9223372036854775807):∀(m i:Nat),i+m=t.length ->
  WL T [0,3] false kF [(0,lF t Rw.enc),(3,iI i)] J
   (λx e J'=>J'=J/\if CI (WK t i) (t.drop i)then x=.exit 0/\get e 0=lF t Rw.enc else x=.ret/\get e 2=.bool false)
 |0,i,hi=>by
  refine aA kF.eq_1 ?_;have h1:¬i<t.length:=by omega
  have h2:t.drop i=[]:=an (by omega);simp[h1,h2,CI]
 |m+1,i,hi=>by
  refine aA kF.eq_1 ?_;have h1:i<t.length:=by omega
  obtain⟨r,hr⟩:=gE h1;have h2:=bd (f:=Rw.enc) (w:=5) (λ_=>rfl) hr;have h4:=cg h1;have h5:=bx hr;have ih:=ON hl m (i+1) (by omega);rw[show WK t (i+1)=some r from hr]at ih;rw[h5,Eb];cases c1:bC r.t 0 400
  .simp[h1,h2,dt,c1,Rw.alone]
  cases c2:bC r.p 1 10000
  .simp[h1,h2,dt,c1,c2,Rw.alone]
  cases c3:bC r.l 0 4000
  .simp[h1,h2,dt,c1,c2,c3,Rw.alone]
  cases c4:bC r.s 0 2000
  .simp[h1,h2,dt,c1,c2,c3,c4,Rw.alone]
  by_cases c5:r.l<r.v
  rotate_left
  .simp[h1,h2,dt,c1,c2,c3,c4,c5,show r.v<=r.l by omega,Rw.alone]
  have c5':¬r.v<=r.l:=by omega
  by_cases c6:r.v<=4000
  rotate_left
  .simp[h1,h2,dt,c1,c2,c3,c4,c5,c5',c6,show 4000<r.v by omega,Rw.alone]
  have c6':¬4000<r.v:=by omega
  have ha:r.alone=true:=by simp[Rw.alone,c1,c2,c3,c4,c5,c6]
  rw[ha];cases i with
  |zero =>
   rw[show NQ (WK t 0) r=true from rfl];have h2':(fM t Rw.enc).take 5=[iI r.t,iI r.p,iI r.l,iI r.v,iI r.s]:=by simpa using h2
   have h1':0<t.length:=by omega
   have hr0:t[0]?=some r:=hr;simp[h1',h2',dt,c1,c2,c3,c4,c5',c6'];exact WL.to ih (by simp) (by simp) λx e J' hh=>by simpa[hr0]using hh
  |succ j =>
   obtain⟨o,ho⟩:∃r,t[j]?=some r:=gE (by omega);have h3:=bd (f:=Rw.enc) (w:=5) (λ_=>rfl) ho;rw[show WK t (j+1)=some o from ho,show NQ (some o) r=o.wF r from rfl];have w1:=cb (n:=(j:Int));have w2:=cb (n:=(j:Int)+1+1);have⟨hj,e1,hA,hB,hC,hD⟩:j<t.length/\(j:Int)+1-1=j/\(j:Int)+1<(t.length:Int)/\(0:Int)<=(j:Int)+1/\((j:Int)+1).toNat=j+1/\(0:Int)<(j:Int)+1:=by omega
   by_cases d1:r.t<=o.t
   .simp[h2,h3,dt,c1,c2,c3,c4,c5',c6',e1,w1,hj,hA,hB,hC,hD,d1,Rw.wF]
   by_cases d2:r.p<=o.p
   .simp[h2,h3,dt,c1,c2,c3,c4,c5',c6',e1,w1,hj,hA,hB,hC,hD,d1,d2,Rw.wF]
   by_cases d3:r.l<=o.l
   .simp[h2,h3,dt,c1,c2,c3,c4,c5',c6',e1,w1,hj,hA,hB,hC,hD,d1,d2,d3,Rw.wF]
   by_cases d4:r.s<o.s
   .simp[h2,h3,dt,c1,c2,c3,c4,c5',c6',e1,w1,hj,hA,hB,hC,hD,d1,d2,d3,d4,Rw.wF]
   have hrs:o.wF r=true:=by simp[Rw.wF,d1,d2,d3,d4]
   simp[h2,h3,dt,c1,c2,c3,c4,c5',c6',e1,w1,hj,hA,hB,hC,hD,d1,d2,d3,d4,hrs,w2];exact WL.to ih (by simp) (by simp[]) λx e J' hh=>by simpa[hrs]using hh
theorem Om{t:List Rw}(hl:t.length<=9223372036854775807):Cl 89 [lF t Rw.enc] (.bool (fK t)) J:=by
 refine au ?_;simp;refine WL.to (ON (J:=[]::J) hl t.length 0 (by omega)) (by simp) rfl ?_;rintro x e J' ⟨rfl,h⟩;simp only[aC,WK,P6]at h;unfold fK;cases hc:(dj t Rw.alone && uq t)
 .simp[hc]at h;simp[h]
 .simp only[hc,if_true]at h;obtain⟨rfl,g0⟩:=h;by_cases h1:2<=t.length
  .by_cases h2:t.length<=20
   .simp[g0,bC,show(2:Int)<=t.length by omega,show(t.length:Int)<=20 by omega]
   .simp[g0,bC,show(2:Int)<=t.length by omega,show ¬(t.length:Int)<=20 by omega]
  .simp[g0,bC,show ¬(2:Int)<=t.length by omega]
theorem OH{l:List Int}(hl:l.length<=9223372036854775807):∀(k i:Nat),i+k=l.length ->
  WL T [1,5] false iH [(1,lF l aO),(5,iI i)] J
   (λx e J'=>J'=J/\if dj (l.drop i) (λn=>bC n (-100000) 100000)then x=.exit 0 else x=.ret/\get e 4=iI 2)
 |0,i,hi=>by
  refine aA iH.eq_1 ?_;have h1:¬i<l.length:=by omega
  have h2:l.drop i=[]:=an (by omega);simp[h1,h2,dj]
 |k+1,i,hi=>by
  refine aA iH.eq_1 ?_;have h1:i<l.length:=by omega
  obtain⟨c,hc⟩:=gE h1;have h2:=gp hc;have h4:=cg h1;have h5:=bx hc;have ih:=OH hl k (i+1) (by omega);rw[h5,Bi];cases hb:bC c (-100000) 100000
  .simp[h1,h2,dt,hb]
  .simp[h1,h2,h4,dt,hb];exact WL.to ih (by simp) rfl λx e J' hh=>by simpa[hb]using hh
theorem TU{b:bV}{l:List Int}(hl:l.length<=9223372036854775807){wq:D}(hwq:wq.qY=lF b.av bH.enc):Cl 99 [.agg [iI b.f.x,iI b.f.y,iI b.f.z,iI b.f.k,lF b.dP Rw.enc,iI b.cA,iI b.lift,iI b.deep,wq],lF l aO] (iI (pS b l)) J:=by
 refine au ?_;unfold pS;by_cases hc1:l.length=b.av.length
 .simp[hwq,hc1];rw[<- hc1];refine WL.to (OH (J:=[]::J) hl l.length 0 (by omega)) (by simp) (by simp) ?_;rintro x e J' ⟨rfl,h⟩;simp only[aC]at h;cases hc2:dj l (λn=>bC n (-100000) 100000)
  .simp[hc2]at h;simp[h]
  .simp[hc2]at h;simp[h]
 .simp[hwq,hc1,show ¬(l.length:Int)=b.av.length by omega]
theorem O2{l:List bH}{j:Nat}{w:bH}(h:l[j]?=some w):((fM l bH.enc).drop (j*3)).take 3=[iI w.b,iI w.h,iI w.m] :=
 bd (f:=bH.enc) (w:=3) (λ_=>rfl) h
theorem Ss{b:bV}{w:bH}(hl:b.av.length<=1000){i:Nat}(hi:i<b.av.length):∀(k j:Nat),j+k=i ->
  WL T [1,3,4,5] false lU [(1,.bg (bL b)),(3,iI i),(4,.own 0 [iI w.b,iI w.h,iI w.m]),(5,iI j)] J
   (λx e J'=>J'=J/\if(((b.av.take i).drop j).map bH.b).contains w.b then x=.ret/\get e 2=.bool false else x=.exit 2/\get e 1=.bg (bL b)/\get e 3=iI i)
 |0,j,hj=>by
  refine aA lU.eq_1 ?_;obtain rfl:j=i:=by omega
  have h2:(b.av.take j).drop j=[]:=an (by rw[dA];omega);rw[h2];simp
 |k+1,j,hj=>by
  refine aA lU.eq_1 ?_;have⟨h1,h1'⟩:j<i/\j<b.av.length:=by omega
  obtain⟨r,hr⟩:∃r,b.av[j]?=some r:=gE (by omega);have h2:=O2 hr;have h4:=cg h1';have h5:(b.av.take i).drop j=r::(b.av.take i).drop (j+1):=bx (by rw[di];simp[h1,hr]);have ih:=Ss (w:=w) hl hi k (j+1) (by omega);rw[h5,aM];by_cases hc:r.b=w.b
  .simp[h1,h1',h2,hc]
  .simp[h1,h1',h2,h4,hc];have hc':¬w.b=r.b:=λh=>hc h.symm
   exact WL.to ih (by simp) rfl λx e J' hh=>by simpa[hc']using hh
theorem OL{b:bV}(hf:b.f.valid=true)(hl:b.av.length<=8):∀(k i:Nat),i+k=b.av.length ->
  WL T [1,3] false lV [(1,.bg (bL b)),(3,iI i)] J
   (λx e J'=>J'=J/\if og b.size ((b.av.take i).map bH.b) (b.av.drop i)then x=.exit 0 else x=.ret/\get e 2=.bool false)
 |0,i,hi=>by
  refine aA lV.eq_1 ?_;have h1:¬i<b.av.length:=by omega
  have h2:b.av.drop i=[]:=an (by omega);simp[h1,h2,og]
 |k+1,i,hi=>by
  refine aA lV.eq_1 ?_;have h1:i<b.av.length:=by omega
  obtain⟨w,hw⟩:=gE h1;have h2:=O2 hw;have h4:=cg h1;have h5:=bx hw;have ih:=OL hf hl k (i+1) (by omega);have e1:(b.av.take (i+1)).map bH.b=(b.av.take i).map bH.b++[w.b]:=by rw[List.take_add_one,hw];simp
  rw[e1]at ih;rw[h5,og];have hS:=λJ=>pk (J:=J) hf
  obtain⟨⟨s1,s2⟩,_⟩:=BL hf;have w1:=cb (n:=b.f.size-1);have hsz:b.size=b.f.size:=rfl;rw[hsz]at ih ⊢;cases c1:bC w.b 0 (b.f.size-1)
  .simp[h1,h2,hS,w1,dt,c1,bH.ok]
  cases c2:bC w.h 0 3000
  .simp[h1,h2,hS,w1,dt,c1,c2,bH.ok]
  cases c3:bC w.m 0 1000000
  .simp[h1,h2,hS,w1,dt,c1,c2,c3,bH.ok]
  simp[h1,h2,hS,w1,dt,c1,c2,c3];refine WL.to (Ss (w:=w) (by omega) h1 i 0 (by omega)) (by simp) rfl ?_;rintro x e J' ⟨rfl,h⟩;simp only[aC]at h;cases hc:((b.av.take i).map bH.b).contains w.b
  .rw[hc]at h;simp at h;obtain⟨rfl,g1,g3⟩:=h;simp[g1,g3,h4];have hc':¬w.b∈List.take i (List.map bH.b b.av):=by simpa using hc
   refine WL.to ih (by simp) rfl λx e J' hh=>?_
   simpa[bH.ok,c1,c2,c3,hc']using hh
  .rw[hc]at h;simp at h;have hc':w.b∈List.take i (List.map bH.b b.av):=by simpa using hc
   simp[h,bH.ok,hc']
theorem Sb{b:bV}(ht:b.dP.length<=9223372036854775807)(hw:b.av.length<=9223372036854775807){wq:D}(hwq:wq.qY=lF b.av bH.enc):Cl 90 [.agg [iI b.f.x,iI b.f.y,iI b.f.z,iI b.f.k,lF b.dP Rw.enc,iI b.cA,iI b.lift,iI b.deep,wq]] (.bool b.valid) J:=by
 refine au ?_;have hT:=λJ=>Om (J:=J) ht
 have hF:=λJ=>Of (J:=J) (f:=b.f)
 unfold bV.valid bV.ok1;cases c1:b.f.valid
 .simp[hwq,hF,c1]
 by_cases c2:4<=b.f.k
 rotate_left
 .simp[hwq,hF,c1,c2,show b.f.k<4 by omega]
 have c2':¬b.f.k<4:=by omega
 cases c3:fK b.dP
 .simp[hwq,hF,hT,c1,c2,c2',c3]
 cases c4:bC b.cA 1 100000
 .simp[hwq,hF,hT,dt,c1,c2,c2',c3,c4]
 cases c5:bC b.lift 0 1000
 .simp[hwq,hF,hT,dt,c1,c2,c2',c3,c4,c5]
 cases c6:bC b.deep 0 3000
 .simp[hwq,hF,hT,dt,c1,c2,c2',c3,c4,c5,c6]
 by_cases c7:b.av.length<=8
 rotate_left
 .simp[hwq,hF,hT,dt,c1,c2,c2',c3,c4,c5,c6,c7,show(8:Int)<b.av.length by omega]
 simp[hwq,hF,hT,dt,c1,c2',c3,c4,c5,c6,show ¬(8:Int)<b.av.length by omega];refine WL.to (OL (J:=[]::J) c1 c7 b.av.length 0 (by omega)) (by simp) (by simp) ?_;rintro x e J' ⟨rfl,h⟩;simp only[aC,List.take_zero,bW]at h;cases hc:og b.size [] b.av
 .simp[hc]at h;simp[h,c2,c7]
 .simp[hc]at h;simp[h,c2,c7]
theorem acr{b:bV}(ht:b.dP.length<=9223372036854775807)(hw:b.av.length<=9223372036854775807):Cl 90 [.agg (bL b)] (.bool b.valid) J:=Sb ht hw WQ
theorem Tf{l:List bZ}{j:Nat}{m:bZ}(h:l[j]?=some m):((fM l bZ.enc).drop (j*2)).take 2=(mL m) :=
 bd (f:=bZ.enc) (w:=2) (λ_=>rfl) h
theorem rH{b:bV}{m:bZ}(h:Mv b m){k i:Nat}(hk:k<4)(hi:i<b.n):Cl 136 [.agg (bL b),.agg (mL m),iI k,iI i] (iI (jK b m k i)) J:=by
 refine au ?_;have hS:=λJ=>pk (J:=J) h.bv.fv
 have hsz:b.f.size=(b.n:Int):=h.bv.sz;rw[hsz]at hS;have hn:=h.bv.n;obtain⟨g1,g2⟩:=h.le;have hkn:k*b.n<=3*b.n:=cZ _ (by omega);have hlt:k*b.n+i<m.dz.length:=by omega
 have w1:=cb (n:=(k:Int)*(b.n:Int)) (by rw[<- Int.natCast_mul];omega);have w2:=cb (n:=(k:Int)*(b.n:Int)+i) (by rw[<- Int.natCast_mul];omega);obtain⟨c,hc⟩:∃c,m.dz[k*b.n+i]?=some c:=⟨_,aH hlt⟩;have e1:jK b m k i=c:=by simp[jK,hc]
 have h2:=gp hc;have e2:(k:Int)*(b.n:Int)+(i:Int)=((k*b.n+i:Nat):Int):=by push_cast;rfl
 have⟨h3,h4⟩:((k*b.n+i:Nat):Int)<(m.dz.length:Int)/\(0:Int)<=((k*b.n+i:Nat):Int):=by omega
 rw[e2]at w2;rw[e1];generalize k*b.n+i=j at *
 simp[hS,w1,e2,w2,hlt,h2]
def S3(b:bV)(m:bZ)(i:Nat):Bool:=bC (jK b m 0 i) 1000 100000 && (bC (jK b m 1 i) 0 1000 && (bC (jK b m 2 i) 0 3000 && bC (jK b m 3 i) 0 1000))
def GF(b:bV)(m:bZ)(i:Nat):Nat->Bool
 |0=>true
 |k+1=>S3 b m i && GF b m (i+1) k
theorem L5{b:bV}{m:bZ}:∀{k i:Nat},GF b m i k=true↔∀j,i<=j->j<i+k->S3 b m j=true
 |0,i=>by simp[GF];omega
 |k+1,i=>by
  rw[GF,af,L5];constructor
  .intro⟨h1,h2⟩ j h3 h4;by_cases hj:j=i
   .subst hj;exact h1
   .exact h2 j (by omega) (by omega)
  .intro h;exact⟨h i (by omega) (by omega),λj h3 h4=>h j (by omega) (by omega)⟩
theorem M8{b:bV}{m:bZ}(h:Bv b):fU b.f [m]=0↔b.f.model m=0:=by
 simp only[fU,h.fv,if_true,dD.ai,dD.each];have h1:bC (([m]:List bZ).length:Nat) 1 40=true:=by simp[bC]
 rw[if_pos h1];by_cases hc:b.f.model m=0
 .simp[hc]
 .simp[hc]
theorem Nj{b:bV}{m:bZ}(h:Bv b):fits b m=(decide (b.f.model m=0) && GF b m 0 b.n):=by
 by_cases hc:b.f.model m=0
 .have hm:=Mv.of h ((M8 h).2 hc);have hcm:=(M8 h).2 hc;have key:∀{k:Nat} {lo hi:Int},k<4->(dj (wB b m k) (λn=>bC n lo hi)=true↔∀i,i<b.n->bC (jK b m k i) lo hi=true):=by
   intro k lo hi hk;rw[eP];constructor
   .intro ha i hi';exact ha _ (aj (y8 hm hk hi'))
   .intro ha x hx;obtain⟨i,hi'⟩:=fT hx;have hlt:i<b.n:=by have:=(aB.1 hi').1;rwa[Mg hm hk]at this
    rw[y8 hm hk hlt]at hi';cases hi';exact ha i hlt
  rw[Bool.eq_iff_iff];simp only[fits,hcm,hc,decide_true,Bool.true_and,af,L5,S3];rw[key (by decide),key (by decide),key (by decide),key (by decide)];constructor
  .intro⟨h1,h2,h3,h4⟩ j _ hj;exact⟨h1 j (by omega),h2 j (by omega),h3 j (by omega),h4 j (by omega)⟩
  .intro hh;exact⟨λi hi=>(hh i (by omega) (by omega)).1,λi hi=>(hh i (by omega) (by omega)).2.1,λi hi=>(hh i (by omega) (by omega)).2.2.1,λi hi=>(hh i (by omega) (by omega)).2.2.2⟩
 .have hcm:¬fU b.f [m]=0:=λhh=>hc ((M8 h).1 hh)
  simp[fits,hc,hcm]
theorem Sn{b:bV}{m:bZ}(h:Mv b m):∀(k i:Nat),i+k=b.n ->
  WL T [2,3,5] false ot [(2,.bg (bL b)),(3,.bg (mL m)),(5,iI i)] J
   (λx e J'=>J'=J/\if GF b m i k then x=.exit 0 else x=.ret/\get e 4=.bool false)
 |0,i,hi=>by
  refine aA ot.eq_1 ?_;have hS:=λJ=>pk (J:=J) h.bv.fv
  have hsz:b.f.size=(b.n:Int):=h.bv.sz;rw[hsz]at hS;have h1:¬i<b.n:=by omega
  simp[hS,h1,GF]
 |k+1,i,hi=>by
  refine aA ot.eq_1 ?_;have hS:=λJ=>pk (J:=J) h.bv.fv
  have hsz:b.f.size=(b.n:Int):=h.bv.sz;rw[hsz]at hS;have hn:=h.bv.n;have h1:i<b.n:=by omega
  have h4:=cg h1;have v0:=λJ=>rH (J:=J) h (k:=0) (i:=i) (by decide) h1
  have v1:=λJ=>rH (J:=J) h (k:=1) (i:=i) (by decide) h1
  have v2:=λJ=>rH (J:=J) h (k:=2) (i:=i) (by decide) h1
  have v3:=λJ=>rH (J:=J) h (k:=3) (i:=i) (by decide) h1
  simp only[show((0:Nat):Int)=0 from rfl,show((1:Nat):Int)=1 from rfl,show((2:Nat):Int)=2 from rfl,show((3:Nat):Int)=3 from rfl]at v0 v1 v2 v3;have ih:=Sn h k (i+1) (by omega);rw[GF,S3];cases c0:bC (jK b m 0 i) 1000 100000
  .simp[hS,h1,v0,dt,c0]
  cases c1:bC (jK b m 1 i) 0 1000
  .simp[hS,h1,v0,v1,dt,c0,c1]
  cases c2:bC (jK b m 2 i) 0 3000
  .simp[hS,h1,v0,v1,v2,dt,c0,c1,c2]
  cases c3:bC (jK b m 3 i) 0 1000
  .simp[hS,h1,v0,v1,v2,v3,dt,c0,c1,c2,c3]
  simp[hS,h1,h4,v0,v1,v2,v3,dt,c0,c1,c2,c3];exact WL.to ih (by simp) rfl λx e J' hh=>by simpa using hh
theorem Vo{b:bV}{m:bZ}(h:Bv b)(hn:m.name.length<=9223372036854775807)(hl:m.dz.length<=9223372036854775807){wq:D}(hwq:wq.qY=lF b.av bH.enc):Cl 94 [.agg [iI b.f.x,iI b.f.y,iI b.f.z,iI b.f.k,lF b.dP Rw.enc,iI b.cA,iI b.lift,iI b.deep,wq],.agg (mL m)] (.bool (fits b m)) J:=by
 refine au ?_;have hM:=λJ=>Vs (J:=J) (m:=m) h.fv hn hl
 rw[Nj h];by_cases hc:b.f.model m=0
 .have hm:=Mv.of h ((M8 h).2 hc);simp[hwq,hM,hc];refine WL.to (Sn (J:=[]::J) hm b.n 0 (by omega)) (by simp) (by simp) ?_;rintro x e J' ⟨rfl,hh⟩;cases hf:GF b m 0 b.n
  .simp[hf]at hh;simp[hh,hc]
  .simp[hf]at hh;simp[hh,hc]
 .simp[hwq,hM,hc]
def XI(b:bV)(l:List bZ):Int:=if bC l.length 1 40 then(if b.f.ai l=0 then(if dj l (fits b)then 0 else 1)else 1)else 3
def ace(b:bV)(l:List bZ)(aw:List (List Int)):Bool:=b.valid && (decide (l.length<=4) && (decide (XI b l=0) && (decide (aw.length<=6) && decide (tf b aw=0))))
end Go.Proofs.YtpapbbojmclkgaaGreatDoor
namespace Go.Rock
open Go Go.Abs
abbrev Mv:=Nat×aG×Int
def mv(s:List aG)(e:Mv):List aG:=ck s e.1 e.2.1 e.2.2
theorem wD{s:List aG}{i j:Nat}{o p:aG}{a c:Int}:ck (ck s i o a) j p c=ck (ck s j p c) i o a:=by
 by_cases hij:i=j
 .subst hij;by_cases hi:i<s.length
  .simp only[ck,aR,List.getElem?_set_self hi,eW,List.set_set,aG.move];congr 2<;>omega
  .simp only[ck,List.set_eq_of_length_le (show s.length<=i by omega)]
 .have hji:¬j=i:=λh=>hij h.symm
  simp only[ck,aR,List.getElem?_set_ne hij,List.getElem?_set_ne hji];rw[List.set_comm _ _ hij]
theorem aax{l l':List Mv}(h:l.Perm l')(s:List aG):l.foldl mv s=l'.foldl mv s:=h.foldl_eq' (λx _ y _ z=>wD) s
theorem D3{s:List aG}{i:Nat}{sign:Int}:ck s i ⟨0,0,0⟩ sign=s:=by
 unfold ck;by_cases hi:i<s.length
 .apply List.ext_getElem
  .simp
  .intro k h1 h2;rw[List.getElem_set];split
   .rename_i h;subst h;simp[aG.move,aR,hi]
   .rfl
 .rw[List.set_eq_of_length_le (by omega)]
theorem Ld{s:List aG}{e f:(Nat×Nat)×aG}:cz (cz s e) f=cz (cz s f) e:=by
 unfold cz;rw[wD (i:=e.1.2) (j:=f.1.1),wD (i:=e.1.1) (j:=f.1.1),wD (i:=e.1.2) (j:=f.1.2),wD (i:=e.1.1) (j:=f.1.2)]
def fl2(e:(Nat×Nat)×aG):List Mv:=[(e.1.1,e.2,-1),(e.1.2,e.2,1)]
theorem Pe:∀(es:List ((Nat×Nat)×aG)) (s:List aG),(fM es fl2).foldl mv s=es.foldl cz s
 |[],s=>rfl
 |e::es,s=>by rw[db,List.foldl_append,Pe es];rfl
theorem LS{α β:Type}{a:α->β}{f:α->List β}:∀l:List α,(fM l λi=>a i::f i).Perm (l.map a++fM l f)
 |[] => .nil
 |x::l=>by
  simp only[db,aM,cr];refine List.Perm.cons _ ?_;have h:=LS (a:=a) (f:=f) l;refine(h.append_left (f x)).trans ?_;rw[<- cM,<- cM];exact List.perm_append_comm.append_right _
def px(X i:Nat):Int:=((i%X:Nat):Int)
def py(X Y i:Nat):Int:=((i / X%Y:Nat):Int)
def pz(X Y i:Nat):Int:=((i / X / Y:Nat):Int)
def Lj(X Y i k:Nat):Bool:=decide ((px X i-px X k)*(px X i-px X k)+(py X Y i-py X Y k)*(py X Y i-py X Y k)+(pz X Y i-pz X Y k)*(pz X Y i-pz X Y k)=1)
def GV(b:bV)(i k:Nat):Bool:=Lj b.f.x.toNat b.f.y.toNat i k
theorem sq_pos(u:Int):u=0\/1<=u*u:=by
 rcases Int.lt_trichotomy u 0 with h | h | h
 .right
  have:=Int.mul_pos_of_neg_of_neg h h;omega
 .exact .inl h
 .right
  have:=Int.mul_pos h h;omega
theorem RR{u:Int}(h:u*u=1):u=1\/u = -1:=by
 rcases Int.lt_trichotomy u 0 with h1 | h1 | h1
 .by_cases h2:u = -1
  .exact .inr h2
  .have h3:0<(-1-u):=by omega
   have h4:=Int.mul_pos h3 (show 0<1-u by omega);have h5:(-1-u)*(1-u)=u*u-1:=by
    rw[Int.sub_mul,Int.mul_sub,Int.mul_sub];omega
   omega
 .rw[h1]at h;simp at h
 .by_cases h2:u=1
  .exact .inl h2
  .have h3:0<u-1:=by omega
   have h4:=Int.mul_pos h3 (show 0<u+1 by omega);have h5:(u-1)*(u+1)=u*u-1:=by
    rw[Int.sub_mul,Int.mul_add];omega
   omega
theorem abe{u v w:Int}(h:u*u+v*v+w*w=1):((u=1\/u = -1)/\v=0/\w=0)\/(u=0/\(v=1\/v = -1)/\w=0)\/(u=0/\v=0/\(w=1\/w = -1)):=by
 rcases sq_pos u with hu | hu<;>rcases sq_pos v with hv | hv<;>rcases sq_pos w with hw | hw
 .subst hu hv hw;simp at h
 .subst hu hv;refine .inr (.inr ⟨rfl,rfl,RR (by simpa using h)⟩)
 .subst hu hw;refine .inr (.inl ⟨rfl,RR (by simpa using h),rfl⟩)
 .subst hu;omega
 .subst hv hw;refine .inl ⟨RR (by simpa using h),rfl,rfl⟩
 .subst hv;omega
 .subst hw;omega
 .omega
theorem adT{X Y i k:Nat}(h1:k%X=i%X+1)(h2:i / X%Y=k / X%Y)(h3:i / X / Y=k / X / Y):k=i+1/\(i+1)%X≠0:=by
 have a1:=Nat.div_add_mod i X;have a2:=Nat.div_add_mod k X;have b1:=Nat.div_add_mod (i / X) Y;have b2:=Nat.div_add_mod (k / X) Y;rw[<- h2,<- h3]at b2;have h4:k / X=i / X:=by omega
 rw[h4]at a2;have h5:k=i+1:=by omega
 exact⟨h5,by rw[<- h5,h1];omega⟩
theorem adU{X Y i k:Nat}(hY:1<=Y)(h1:i%X=k%X)(h2:k / X%Y=i / X%Y+1)(h3:i / X / Y=k / X / Y):k=i+X/\i / X%Y≠Y-1:=by
 have a1:=Nat.div_add_mod i X;have a2:=Nat.div_add_mod k X;have b1:=Nat.div_add_mod (i / X) Y;have b2:=Nat.div_add_mod (k / X) Y;have b3:=Nat.mod_lt (k / X) hY;rw[<- h3]at b2;have h4:k / X=i / X+1:=by omega
 rw[h4,Nat.mul_add,bS]at a2;exact⟨by omega,by omega⟩
theorem adV{X Y i k:Nat}(h1:i%X=k%X)(h2:i / X%Y=k / X%Y)(h3:k / X / Y=i / X / Y+1):k=i+X*Y:=by
 have a1:=Nat.div_add_mod i X;have a2:=Nat.div_add_mod k X;have b1:=Nat.div_add_mod (i / X) Y;have b2:=Nat.div_add_mod (k / X) Y;rw[h3,Nat.mul_add,bS]at b2;have h4:k / X=i / X+Y:=by omega
 rw[h4,Nat.mul_add]at a2;omega
theorem Mw{X i:Nat}(hX:1<=X)(h:(i+1)%X≠0):(i+1) / X=i / X/\(i+1)%X=i%X+1:=by
 have h1:=Nat.div_add_mod i X;have h2:=Nat.mod_lt i hX;have h3:i%X+1<X:=by
  rcases Nat.lt_or_ge (i%X+1) X with h4 | h4
  .exact h4
  .exfalso;apply h
   have:i+1=X*(i / X)+X:=by omega
   rw[this];simp
 have h5:i+1=X*(i / X)+(i%X+1):=by omega
 constructor
 .rw[h5,Nat.mul_add_div (by omega),Nat.div_eq_of_lt h3];omega
 .rw[h5,Nat.mul_add_mod,Nat.mod_eq_of_lt h3]
theorem XE{X Y i k:Nat}:Lj X Y i k=Lj X Y k i:=by
 unfold Lj;have sq:∀a c:Int,(a-c)*(a-c)=(c-a)*(c-a):=λa c=>by
  rw[show c-a = -(a-c)by omega,Int.neg_mul_neg]
 rw[sq (px X i),sq (py X Y i),sq (pz X Y i)]
theorem XD{b:bV}(hx:1<=b.f.x.toNat)(hy:1<=b.f.y.toNat){l:Nat×Nat}(hl:l∈y9 b):GV b l.1 l.2=true:=by
 simp only[y9,HK,vK,aT]at hl;unfold GV;obtain⟨i,_,hl⟩:=hl;generalize b.f.x.toNat=X at *
 generalize b.f.y.toNat=Y at *
 rcases hl with hl | hl | hl
 .split at hl
  .rename_i hc;simp only[List.mem_singleton]at hl;obtain⟨h1,h2⟩:=Mw hx hc;rw[hl];simp only[Lj,px,py,pz,h1,h2,az];rw[show((i%X:Nat):Int)-((i%X+1:Nat):Int) = -1 by omega,Int.sub_self,Int.sub_self];rfl
  .simp at hl
 .split at hl
  .rename_i hc;simp only[List.mem_singleton]at hl;have h3:(i+X) / X=i / X+1:=Nat.add_div_right i hx;have h4:(i+X)%X=i%X:=Nat.add_mod_right i X;have h5:(i / X+1)%Y≠0:=by
    intro h0;apply hc;have h6:=Nat.div_add_mod (i / X) Y;have h7:=Nat.mod_lt (i / X) hy;have h8:i / X+1=Y*(i / X / Y)+(i / X%Y+1):=by omega
    rcases Nat.lt_or_ge (i / X%Y+1) Y with h9 | h9
    .rw[h8,Nat.mul_add_mod,Nat.mod_eq_of_lt h9]at h0;omega
    .omega
   obtain⟨h1,h2⟩:=Mw hy h5;rw[hl];simp only[Lj,px,py,pz,h3,h4,h1,h2,az];rw[show((i / X%Y:Nat):Int)-((i / X%Y+1:Nat):Int) = -1 by omega,Int.sub_self,Int.sub_self];rfl
  .simp at hl
 .split at hl
  .simp only[List.mem_singleton]at hl;have h3:(i+X*Y) / X=i / X+Y:=Nat.add_mul_div_left i Y hx;have h4:(i+X*Y)%X=i%X:=Nat.add_mul_mod_self_left i X Y;have h5:(i / X+Y) / Y=i / X / Y+1:=Nat.add_div_right _ hy;have h6:(i / X+Y)%Y=i / X%Y:=Nat.add_mod_right _ Y;rw[hl];simp only[Lj,px,py,pz,h3,h4,h5,h6,az];rw[show((i / X / Y:Nat):Int)-((i / X / Y+1:Nat):Int) = -1 by omega,Int.sub_self,Int.sub_self];rfl
  .simp at hl
theorem ad3{b:bV}(hx:1<=b.f.x.toNat)(hy:1<=b.f.y.toNat){i k:Nat}(hi:i<b.n)(hk:k<b.n)(h:GV b i k=true):(i,k)∈y9 b\/(k,i)∈y9 b:=by
 have one:∀i k:Nat,i<b.n->k<b.n->(k%b.f.x.toNat=i%b.f.x.toNat+1/\i / b.f.x.toNat%b.f.y.toNat=k / b.f.x.toNat%b.f.y.toNat/\i / b.f.x.toNat / b.f.y.toNat=k / b.f.x.toNat / b.f.y.toNat \/
   i%b.f.x.toNat=k%b.f.x.toNat/\k / b.f.x.toNat%b.f.y.toNat=i / b.f.x.toNat%b.f.y.toNat+1/\i / b.f.x.toNat / b.f.y.toNat=k / b.f.x.toNat / b.f.y.toNat \/
   i%b.f.x.toNat=k%b.f.x.toNat/\i / b.f.x.toNat%b.f.y.toNat=k / b.f.x.toNat%b.f.y.toNat/\k / b.f.x.toNat / b.f.y.toNat=i / b.f.x.toNat / b.f.y.toNat+1)->(i,k)∈y9 b:=by
  intro i k hi hk hc;refine HK.2 ⟨i,List.mem_range.2 hi,?_⟩;unfold vK;simp only[aT];rcases hc with⟨a1,a2,a3⟩ | ⟨a1,a2,a3⟩ | ⟨a1,a2,a3⟩
  .obtain⟨e,hn⟩:=adT a1 a2 a3;left;rw[if_pos hn,e];simp
  .obtain⟨e,hn⟩:=adU hy a1 a2 a3;right;left;rw[if_pos hn,e];simp
  .have e:=adV a1 a2 a3;right;right;rw[if_pos (by omega),e];simp
 simp only[GV,Lj,az]at h;simp only[px,py,pz]at h;rcases abe h with⟨h1,h2,h3⟩ | ⟨h1,h2,h3⟩ | ⟨h1,h2,h3⟩
 .rcases h1 with h1 | h1
  .exact .inr (one k i hk hi (.inl ⟨by omega,by omega,by omega⟩))
  .exact .inl (one i k hi hk (.inl ⟨by omega,by omega,by omega⟩))
 .rcases h2 with h2 | h2
  .exact .inr (one k i hk hi (.inr (.inl ⟨by omega,by omega,by omega⟩)))
  .exact .inl (one i k hi hk (.inr (.inl ⟨by omega,by omega,by omega⟩)))
 .rcases h3 with h3 | h3
  .exact .inr (one k i hk hi (.inr (.inr ⟨by omega,by omega,by omega⟩)))
  .exact .inl (one i k hi hk (.inr (.inr ⟨by omega,by omega,by omega⟩)))
def pd(b:bV)(p:List Int)(l:Nat×Nat):Int:=(p[l.1]?).getD 0-weight b l.1-(p[l.2]?).getD 0+weight b l.2
def rq(b:bV)(m:bZ)(s:List aG)(p:List Int)(l:Nat×Nat):Int:=min ((aR s l.1).m.tdiv 8) ((min (zB b m l.1) (zB b m l.2)*pd b p l).tdiv 1000)
def rE(b:bV)(m:bZ)(s:List aG)(p:List Int)(l:Nat×Nat):(Nat×Nat)×aG:=(l,(aR s l.1).out (rq b m s p l))
theorem Tp{b:bV}{p:List Int}{l:Nat×Nat}:pd b p (l.2,l.1) = -pd b p l:=by simp only[pd];omega
theorem Uv{b:bV}{m:bZ}{s:List aG}{p:List Int}{l:Nat×Nat}{e:(Nat×Nat)×aG}(h:Ci b m s p l=some e):(e.1=l\/e.1=(l.2,l.1))/\0<pd b p e.1/\0<rq b m s p e.1/\e=rE b m s p e.1:=by
 unfold Ci at h;have hd:(p[l.1]?).getD 0-weight b l.1-(p[l.2]?).getD 0+weight b l.2=pd b p l:=rfl;simp only[hd]at h;by_cases hn:pd b p l<0
 .simp only[hn,if_true]at h;split at h
  .rename_i hq;simp only[ae]at h;have hs:=Tp (b:=b) (p:=p) (l:=l);have hq':0<rq b m s p (l.2,l.1):=by
    unfold rq;rw[hs,Int.min_comm];exact hq
   subst h;refine⟨.inr rfl,by simp only[hs];omega,hq',?_⟩;unfold rE rq;rw[hs,Int.min_comm]
  .cases h
 .simp only[hn,if_false]at h;split at h
  .rename_i hq;simp only[ae]at h;have hq':0<rq b m s p l:=by unfold rq;rw[Int.min_comm];exact hq
   have h0:pd b p l≠0:=by
    intro h0;rw[h0,Int.mul_zero]at hq;simp only[Int.zero_tdiv]at hq;omega
   subst h;refine⟨.inl rfl,by simp only;omega,hq',?_⟩;unfold rE rq;rw[Int.min_comm]
  .cases h
theorem HA{b:bV}{m:bZ}{s:List aG}{p:List Int}{l k:Nat×Nat}(hk:k=l\/k=(l.2,l.1))(h1:0<pd b p k)(h2:0<rq b m s p k):Ci b m s p l=some (rE b m s p k):=by
 unfold Ci;have hd:(p[l.1]?).getD 0-weight b l.1-(p[l.2]?).getD 0+weight b l.2=pd b p l:=rfl;simp only[hd];rcases hk with rfl | rfl
 .have hn:¬pd b p k<0:=by omega
  simp only[hn,if_false];unfold rq at h2;rw[Int.min_comm]at h2;rw[if_pos h2];unfold rE rq;rw[Int.min_comm]
 .have hs:=Tp (b:=b) (p:=p) (l:=l);rw[hs]at h1;have hn:pd b p l<0:=by omega
  simp only[hn,if_true];unfold rq at h2;rw[hs,Int.min_comm]at h2;rw[if_pos h2];unfold rE rq;rw[hs,Int.min_comm]
structure LF(b:bV)(m:bZ)(s:List aG)(p:List Int)(es:List ((Nat×Nat)×aG))(done:List (Nat×Nat)):Prop where
 nd:(es.map (·.1)).Nodup
 is:∀e∈es,e=rE b m s p e.1/\0<pd b p e.1/\0<rq b m s p e.1/\(e.1∈done\/(e.1.2,e.1.1)∈done)
 all:∀l∈done,∀k:Nat×Nat,(k=l\/k=(l.2,l.1))->0<pd b p k->0<rq b m s p k->rE b m s p k∈es
theorem LF.step{b:bV}{m:bZ}{s:List aG}{p:List Int}{es:List ((Nat×Nat)×aG)}{done:List (Nat×Nat)}(h:LF b m s p es done)(l:Nat×Nat):LF b m s p (kR b m s p es l) (done++[l]):=by
 unfold kR;cases hf:Ci b m s p l with
 |none =>
  refine⟨h.nd,λe he=>?_,λx hx k hk h1 h2=>?_⟩
  .obtain⟨a1,a2,a3,a4⟩:=h.is e he;exact⟨a1,a2,a3,a4.imp (λy=>by simp[y]) (λy=>by simp[y])⟩
  .rcases aT.1 hx with hx | hx
   .exact h.all x hx k hk h1 h2
   .rw[List.mem_singleton.1 hx]at hk;rw[HA hk h1 h2]at hf;cases hf
 |some e =>
  obtain⟨b1,b2,b3,b4⟩:=Uv hf;simp only;unfold RD;cases hi:es.findIdx? (λx=>x.1 == e.1)with
  |some j =>
   obtain⟨hj,hj1,_⟩:=List.findIdx?_eq_some_iff_getElem.1 hi;have hje:es[j]=e:=by
    obtain⟨a1,_⟩:=h.is es[j] (List.getElem_mem hj);have:es[j].1=e.1:=by simpa using hj1
    rw[a1,this,<- b4]
   have hset:es.set j (e.1,e.2)=es:=by
    rw[show((e.1,e.2):(Nat×Nat)×aG)=e from rfl,<- hje];exact List.set_getElem_self hj
   simp only[hset];refine⟨h.nd,λx hx=>?_,λx hx k hk h1 h2=>?_⟩
   .obtain⟨a1,a2,a3,a4⟩:=h.is x hx;exact⟨a1,a2,a3,a4.imp (λy=>by simp[y]) (λy=>by simp[y])⟩
   .rcases aT.1 hx with hx | hx
    .exact h.all x hx k hk h1 h2
    .rw[List.mem_singleton.1 hx]at hk;have h3:=HA hk h1 h2;rw[hf]at h3;rw[<- Option.some.inj h3,<- hje];exact List.getElem_mem hj
  |none =>
   have hno:=List.findIdx?_eq_none_iff.1 hi;refine⟨?_,λx hx=>?_,λx hx k hk h1 h2=>?_⟩
   .rw[List.map_append,List.nodup_append];refine⟨h.nd,by simp,?_⟩;intro a ha c hc;obtain⟨y,hy,rfl⟩:=bI.1 ha;simp only[aM,bW,List.mem_singleton]at hc;subst hc;have:=hno y hy;simpa using this
   .rcases aT.1 hx with hx | hx
    .obtain⟨a1,a2,a3,a4⟩:=h.is x hx;exact⟨a1,a2,a3,a4.imp (λy=>by simp[y]) (λy=>by simp[y])⟩
    .rw[List.mem_singleton.1 hx];refine⟨b4,b2,b3,?_⟩;rcases b1 with b1 | b1
     .left;rw[b1];simp
     .right;rw[b1];simp
   .rcases aT.1 hx with hx | hx
    .exact List.mem_append_left _ (h.all x hx k hk h1 h2)
    .rw[List.mem_singleton.1 hx]at hk;have h3:=HA hk h1 h2;rw[hf]at h3;rw[<- Option.some.inj h3];exact List.mem_append_right _ (by simp)
theorem Ux{b:bV}{m:bZ}{s:List aG}:LF b m s (ba b m s) (td b m s) (y9 b):=by
 have key:∀(ls done:List (Nat×Nat)) (es:List ((Nat×Nat)×aG)),LF b m s (ba b m s) es done->LF b m s (ba b m s) (ls.foldl (kR b m s (ba b m s)) es) (done++ls):=by
  intro ls;induction ls with
  |nil=>intro done es h;simpa using h
  |cons l ls ih =>
   intro done es h;have:=ih _ _ (h.step l);simpa using this
 have:=key (y9 b) [] [] ⟨List.nodup_nil,by simp,by simp⟩;simpa[td]using this
def prs(n:Nat):List (Nat×Nat):=fM (List.range n) λi=>(List.range n).map λk=>(i,k)
theorem Tt{n:Nat}{l:Nat×Nat}:l∈prs n↔l.1<n/\l.2<n:=by
 simp only[prs,HK,List.mem_range,bI];constructor
 .rintro⟨i,hi,k,hk,rfl⟩;exact⟨hi,hk⟩
 .intro h;exact⟨l.1,h.1,l.2,h.2,rfl⟩
theorem UX(n:Nat):(prs n).Nodup:=by
 unfold prs;rw[List.Nodup,PS];refine⟨λi _=>?_,?_⟩
 .rw[List.pairwise_map];exact List.Pairwise.imp (λh he=>h (by simpa using he)) List.nodup_range
 .refine List.Pairwise.imp (λ{a c} h x hx y hy he=>?_) (List.nodup_range (n:=n));simp only[bI]at hx hy;obtain⟨k,_,rfl⟩:=hx;obtain⟨k',_,rfl⟩:=hy;simp only[ar]at he;exact h he.1
def aaS(b:bV)(m:bZ)(s:List aG):List ((Nat×Nat)×aG):=((prs b.n).filter λl=>GV b l.1 l.2 && decide (0<pd b (ba b m s) l)).map (rE b m s (ba b m s))
theorem drop_zero{b:bV}{m:bZ}{s:List aG}{p:List Int}:∀(l:List (Nat×Nat)) (t:List aG),(∀k∈l,¬0<rq b m s p k->rq b m s p k=0)->(l.map (rE b m s p)).foldl cz t=((l.filter λk=>decide (0<rq b m s p k)).map (rE b m s p)).foldl cz t
 |[],t,_=>rfl
 |k::l,t,h=>by
  have ih:=λt=>drop_zero l t (λx hx=>h x (List.mem_cons_of_mem _ hx))
  by_cases hk:0<rq b m s p k
  .rw[List.filter_cons_of_pos (by simpa using hk),aM,aM,List.foldl_cons,List.foldl_cons,ih]
  .have h0:=h k (List.mem_cons_self ..) hk;rw[List.filter_cons_of_neg (by simpa using hk),aM,List.foldl_cons,ih];have hz:(rE b m s p k).2=⟨0,0,0⟩:=by simp[rE,h0,aG.out]
   unfold cz;rw[hz,D3,D3]
theorem Rb{b:bV}{m:bZ}{s:List aG}(hx:1<=b.f.x.toNat)(hy:1<=b.f.y.toNat)(hin:∀l∈y9 b,l.1<b.n/\l.2<b.n)(hm:∀i,0<=(aR s i).m)(ho:∀i,i<b.n->0<=zB b m i)(t:List aG):(aaS b m s).foldl cz t=(td b m s).foldl cz t:=by
 have hF:=Ux (b:=b) (m:=m) (s:=s);unfold aaS;rw[drop_zero _ t (λk hk hq=>?_)]
 .refine List.Perm.foldl_eq' ?_ (λx _ y _ z=>Ld) t;refine(List.perm_ext_iff_of_nodup ?_ ?_).2 ?_
  .rw[List.Nodup,List.pairwise_map];refine List.Pairwise.imp (λh he=>h ?_) ((UX b.n).filter _ |>.filter _);exact(congrArg Prod.fst he:_)
  .have:=hF.nd;rw[List.Nodup,List.pairwise_map]at this;exact this.imp λh he=>h (by rw[he])
  .intro x;simp only[bI,cS,af,az,Tt];constructor
   .rintro⟨k,⟨⟨⟨k1,k2⟩,k3,k4⟩,k5⟩,rfl⟩;rcases ad3 hx hy k1 k2 k3 with hl | hl
    .exact hF.all _ hl k (.inl rfl) k4 k5
    .exact hF.all _ hl k (.inr rfl) k4 k5
   .intro hxm;obtain⟨a1,a2,a3,a4⟩:=hF.is x hxm;refine⟨x.1,⟨⟨?_,?_,a2⟩,a3⟩,a1.symm⟩
    .rcases a4 with a4 | a4
     .exact hin _ a4
     .have:=hin _ a4;exact⟨this.2,this.1⟩
    .rcases a4 with a4 | a4
     .exact XD hx hy a4
     .unfold GV;rw[XE];exact XD hx hy a4
 .have hk':=cS.1 hk;simp only[af,az]at hk';obtain⟨hkp,_,hpd⟩:=hk';obtain⟨k1,k2⟩:=Tt.1 hkp;have h1:0<=(aR s k.1).m.tdiv 8:=Int.tdiv_nonneg (hm _) (by omega);have h2:0<=min (zB b m k.1) (zB b m k.2):=by have:=ho _ k1;have:=ho _ k2;omega
  have h3:0<=(min (zB b m k.1) (zB b m k.2)*pd b (ba b m s) k).tdiv 1000:=Int.tdiv_nonneg (bA h2 (by omega)) (by omega);unfold rq at hq ⊢;omega
def uo(b:bV)(m:bZ)(s:List aG)(i:Nat)(next:List aG)(k:Nat):List aG:=if GV b i k=true/\0<pd b (ba b m s) (i,k)then cz next (rE b m s (ba b m s) (i,k))else next
def NK(b:bV)(m:bZ)(s next:List aG)(i:Nat):List aG:=(List.range b.n).foldl (uo b m s i) (ck next i (IE b m i) 1)
def sh(s next:List aG)(w:bH)(r:Int):List aG:=if 0<r then ck next w.b.toNat ((aR s w.b.toNat).out (min r ((aR s w.b.toNat).m.tdiv 8))) (-1)else ck next w.b.toNat (w.given r) 1
def Tw(b:bV)(m:bZ)(s:List aG)(aF:List Int):List aG:=(b.av.zip aF).foldl (λn wr=>sh s n wr.1 wr.2) ((List.range b.n).foldl (NK b m s) s)
theorem RE{s next:List aG}{w:bH}{r:Int}(hm:∀i,0<=(aR s i).m):sh s next w r=mq s next w r:=by
 unfold sh mq gZ;rcases Int.lt_trichotomy r 0 with h | h | h
 .rw[if_neg (by omega),if_pos h]
 .subst h;have h1:0<=(aR s w.b.toNat).m.tdiv 8:=Int.tdiv_nonneg (hm _) (by omega);have h2:min 0 ((aR s w.b.toNat).m.tdiv 8)=0:=by omega
  have h3:(aR s w.b.toNat).out 0=⟨0,0,0⟩:=by simp[aG.out]
  have h4:w.given 0=⟨0,0,0⟩:=by simp[bH.given]
  simp only[Int.lt_irrefl,if_false,h2,h3,h4,D3]
 .rw[if_pos h,if_neg (by omega),if_neg (by omega)]
def wmv(s:List aG)(wr:bH×Int):Mv:=if wr.2<0 then(wr.1.b.toNat,wr.1.given wr.2,1)else(wr.1.b.toNat,gZ s wr.1 wr.2,-1)
theorem K3(s:List aG):∀(l:List (bH×Int)) (t:List aG),l.foldl (λn wr=>mq s n wr.1 wr.2) t=(l.map (wmv s)).foldl mv t
 |[],t=>rfl
 |x::l,t=>by
  rw[List.foldl_cons,aM,List.foldl_cons,K3 s l];congr 1;unfold mq mv wmv;split<;>rfl
def fmv(b:bV)(m:bZ)(i:Nat):Mv:=(i,IE b m i,1)
def Ye(b:bV)(m:bZ)(s:List aG)(i:Nat):List Mv:=fM ((List.range b.n).filter λk=>GV b i k && decide (0<pd b (ba b m s) (i,k))) λk=>fl2 (rE b m s (ba b m s) (i,k))
theorem Yg{b:bV}{m:bZ}{s:List aG}{i:Nat}:∀(l:List Nat) (t:List aG),l.foldl (uo b m s i) t=(fM (l.filter λk=>GV b i k && decide (0<pd b (ba b m s) (i,k))) λk=>fl2 (rE b m s (ba b m s) (i,k))).foldl mv t
 |[],t=>rfl
 |k::l,t=>by
  rw[List.foldl_cons,Yg l];unfold uo;by_cases hc:GV b i k=true/\0<pd b (ba b m s) (i,k)
  .rw[if_pos hc,List.filter_cons_of_pos (by simpa using hc),db,List.foldl_append];rfl
  .rw[if_neg hc,List.filter_cons_of_neg (by simpa using hc)]
theorem TA{b:bV}{m:bZ}{s:List aG}:∀(l:List Nat) (t:List aG),l.foldl (NK b m s) t=(fM l λi=>fmv b m i::Ye b m s i).foldl mv t
 |[],t=>rfl
 |i::l,t=>by
  rw[List.foldl_cons,TA l,db,List.foldl_append,List.foldl_cons];congr 1;exact Yg _ _
theorem aev{b:bV}{m:bZ}{s:List aG}:fM (aaS b m s) fl2=fM (List.range b.n) (Ye b m s):=by
 unfold aaS prs Ye;rw[Q9,Ut,Xe];congr 1;funext i;rw[List.filter_map,Q9];rfl
theorem X8{b:bV}{m:bZ}{s:List aG}{aF:List Int}(hx:1<=b.f.x.toNat)(hy:1<=b.f.y.toNat)(hin:∀l∈y9 b,l.1<b.n/\l.2<b.n)(hm:∀i,0<=(aR s i).m)(ho:∀i,i<b.n->0<=zB b m i)(hl:s.length=b.n):Tw b m s aF=mI b m s aF:=by
 unfold Tw mI;have e1:(λ(n:List aG) (wr:bH×Int)=>sh s n wr.1 wr.2)=λn wr=>mq s n wr.1 wr.2:=by
  funext n wr;exact RE hm
 have e2:(λ(n:List aG) (i:Nat)=>ck n i (IE b m i) 1)=λn i=>mv n (fmv b m i):=rfl
 rw[e1,TA,K3];simp only[K3,<- Rb hx hy hin hm ho];have e3:∀X:List aG,(List.range b.n).foldl (λn i=>mv n (fmv b m i)) X=((List.range b.n).map (fmv b m)).foldl mv X:=λX=>by rw[List.foldl_map]
 rw[<- Pe,aev,<- List.foldl_append,<- List.foldl_append,hl,e2,e3,<- List.foldl_append];refine aax ?_ s;refine((LS _).append_right _).trans ?_;rw[cM];refine List.perm_append_comm.trans ?_;rfl
end Go.Rock
namespace Go.Proofs.YtpapbbojmclkgaaGreatDoor
open Go Go.Abs Go.Rock
variable {J:SK}
theorem YZ{n d:Int}(hn : -200000000000<=n/\n<=200000000000)(hd:1<=d/\d<=100000):Cl 185 [iI n,iI d] (iI (down n d)) J:=by
 refine au ?_;have h1:=Int.mul_tdiv_add_tmod n d;have h2:=Int.tmod_lt_of_pos n (show 0<d by omega);have h3:=Int.lt_tmod_of_pos n (show 0<d by omega);have h5:0<=n->0<=n.tmod d:=λh=>Int.tmod_nonneg d h
 have h6:n<=0->n.tmod d<=0:=λh=>by
  have:=Int.tmod_nonneg d (show 0 <= -n by omega);rw[Int.neg_tmod]at this;omega
 unfold down;generalize hq:n.tdiv d=q at *
 generalize hrr:n.tmod d=r at *
 have h4:d*q=q*d:=Int.mul_comm _ _;have hb : -200000100001<=q/\q<=200000100001:=by
  rcases eV 0 q with h | h
  .have:=Int.mul_le_mul_of_nonneg_left hd.1 h;omega
  .have:=Int.mul_le_mul_of_nonpos_left h hd.1;omega
 have w1:=cb (n:=q);have w2:=cb (n:=r);have w3:=cb (n:=q-1);have hne:¬d=0:=by omega
 have key:n / d=if r≠0/\n<0 then q-1 else q:=by
  split
  .rename_i hc;refine((Int.ediv_emod_unique (r:=r+d) (show 0<d by omega)).2 ⟨?_,?_,?_⟩).1
   .rw[Int.mul_sub];omega
   .omega
   .have:=h6 (by omega);omega
  .rename_i hc;refine((Int.ediv_emod_unique (r:=r) (show 0<d by omega)).2 ⟨?_,?_,?_⟩).1
   .omega
   .rcases eV 0 n with h | h
    .exact h5 h
    .have:=h6 h;omega
   .omega
 rw[key];by_cases hc:r=0
 .simp[hq,hrr,w1,hne,hc]
 .by_cases hc2:n<0<;>simp[hq,hrr,w1,w3,hne,hc,hc2]
def GR(b:bV)(i:Nat):Int:=((i / (b.f.x.toNat*b.f.y.toNat):Nat):Int)
theorem Jo{b:bV}(h:Bv b){i:Nat}(hi:i<b.n):Cl 179 [.agg (bL b),iI i] (iI (GR b i)) J:=by
 refine au ?_;have hx:=h.x;have hy:=h.y;have hn:=h.n;obtain⟨s1,_⟩:=dD.sz h.x h.y h.z;have w1:=cb (n:=b.f.x*b.f.y);have e1:b.f.x*b.f.y=((b.f.x.toNat*b.f.y.toNat:Nat):Int):=by push_cast;rw[dO (by omega),dO (by omega)]
 have e2:(i:Int) / (b.f.x*b.f.y)=GR b i:=by
  rw[e1];rfl
 have e3:(i:Int).tdiv (b.f.x*b.f.y)=GR b i:=by
  rw[e1];rfl
 have hle:i / (b.f.x.toNat*b.f.y.toNat)<=i:=Nat.div_le_self _ _;have hq2:0<=GR b i/\GR b i<=64:=by
  have:i / (b.f.x.toNat*b.f.y.toNat)<=64:=by omega
  exact⟨Int.natCast_nonneg _,Int.ofNat_le.2 this⟩
 have w2:=cb (n:=GR b i);have⟨hne,hnx,hny⟩:¬b.f.x*b.f.y=0/\¬b.f.x=0/\¬b.f.y=0:=by omega
 simp[w1,hne,e3,w2]
theorem OM{b:bV}{D5:D}{s:List Rock.aG}{i:Nat}{x:Rock.aG}(hx:s[i]?=some x)(hm:0<=x.m/\x.m<=1000000)(ht:∀r∈b.dP,r.alone=true)(hl:b.dP.length<=1000):∀(n j:Nat) (o:Int),j+n=b.dP.length ->
  WL T [2,3,4,10,11] false na [(2,lF s aG.enc),(3,iI i),(4,.bg (bL b)),(10,iI o),(11,iI j)] J
   (λx' e J'=>J'=J/\x'=.exit 0/\get e 10=iI ((b.dP.drop j).foldl (gY x) o))
 |0,j,o,hj=>by
  refine aA na.eq_1 ?_;have h1:¬j<b.dP.length:=by omega
  have h2:b.dP.drop j=[]:=an (by omega);simp[h1,h2]
 |n+1,j,o,hj=>by
  refine aA na.eq_1 ?_;have h1:j<b.dP.length:=by omega
  obtain⟨r,hr⟩:=gE h1;have hrb:=RI (ht r (aj hr));have h2:=bd (f:=Rw.enc) (w:=5) (λ_=>rfl) hr;have h3:=bd (f:=aG.enc) (w:=3) (λ_=>rfl) hx;have h4:=cg h1;have h5:=bx hr;have hi:i<s.length:=(aB.1 hx).1;have b1:=iR hrb.2.1 hrb.2.2 hm.1 hm.2;have w1:=cb (n:=r.l*x.m);have ih:=OM (D5:=D5) hx hm ht hl n (j+1) (gY x o r) (by omega);rw[h5];simp only[List.foldl_cons];by_cases hc:r.l*x.m<=x.h
  .have hm2:max o r.p=gY x o r:=by unfold gY;rw[if_pos hc]
   simp[h1,h2,h3,h4,hi,w1,hc];refine WL.to ih (by simp[gY,hc]) rfl λx e J hh=>hh
  .simp[h1,h2,h3,h4,hi,w1,hc];refine WL.to ih (by simp[gY,hc]) rfl λx e J hh=>hh
theorem Jq{b:bV}{m:bZ}{s:List Rock.aG}(h:Fv b m)(hs:Sv b s){i:Nat}(hi:i<b.n):
  Cl 141 [.agg (bL b),.agg (mL m),lF s aG.enc,iI i] (iI (dw b m s i)) J:=by
 refine au ?_;have hw:=λJ=>Jo (J:=J) h.bv hi
 have ho:=λJ=>rH (J:=J) h.toMv (k:=0) (by omega) hi
 rw[show jK b m 0 i=hold b m i from rfl]at ho;simp only[show((0:Nat):Int)=0 from rfl]at ho;have b1:=h.hold i hi;obtain⟨hx,b2,b3,b4⟩:=hs.at hi;have hil:i<s.length:=by have:=hs.len;omega
 have hil':(i:Int)<s.length:=by omega
 have hst:=h.bv.cA;have b5:=wJ h.bv hi;have e5:GR b i*b.lift=weight b i:=rfl;have b6 : -100000000000<=b.cA*((aR s i).m-hold b m i)/\b.cA*((aR s i).m-hold b m i)<=100000000000:=by
  rcases eV (hold b m i) (aR s i).m with hh | hh
  .have:=iR (a:=b.cA) (b:=(aR s i).m-hold b m i) (A:=100000) (B:=1000000) (by omega) hst.2 (by omega) (by omega);omega
  .have:=iR (a:=b.cA) (b:=hold b m i-(aR s i).m) (A:=100000) (B:=1000000) (by omega) hst.2 (by omega) (by omega);have e:b.cA*((aR s i).m-hold b m i) = - (b.cA*(hold b m i-(aR s i).m)):=by rw[<- Int.mul_neg];congr 1;omega
   omega
 have hd:=λJ=>YZ (J:=J) (n:=b.cA*((aR s i).m-hold b m i)) (d:=hold b m i) (by omega) (by omega)
 have b7 : -100000000000<=down (b.cA*((aR s i).m-hold b m i)) (hold b m i)/\down (b.cA*((aR s i).m-hold b m i)) (hold b m i)<=100000000000:=by
  unfold down;constructor
  .rw[Int.le_ediv_iff_mul_le (by omega)];omega
  .have:=Int.ediv_le_self (b:=hold b m i) (a:=b.cA*((aR s i).m-hold b m i));rcases eV 0 (b.cA*((aR s i).m-hold b m i))with hh | hh
   .have:=this hh;omega
   .have:=Int.ediv_le_of_le_mul (b:=0) (show 0<hold b m i by omega) (by omega:b.cA*((aR s i).m-hold b m i)<=0*hold b m i);omega
 have w0:=cb (n:=weight b i);have w1:=cb (n:=(aR s i).m-hold b m i);have w2:=cb (n:=b.cA*((aR s i).m-hold b m i));have w3:=cb (n:=weight b i+down (b.cA*((aR s i).m-hold b m i)) (hold b m i));have h3:=bd (f:=aG.enc) (w:=3) (λ_=>rfl) hx;have htab:=h.bv.dP;simp only[fK,af]at htab;have ht:=aP.1 htab.1;simp[hw,ho,hil',h3,e5,w0,w1,w2,hd,w3];refine WL.to (OM (D5:=.undef) (J:=[]::J) hx ⟨by omega,by omega⟩ (eP.1 htab.2.1) (by omega) b.dP.length 0 (max 0 (weight b i+down (b.cA*((aR s i).m-hold b m i)) (hold b m i))) (by omega)) (by simp) rfl ?_;rintro x e J' ⟨rfl,rfl,g⟩;simp[g,dw]
theorem TR{b:bV}(h:Bv b){i k:Nat}(hi:i<b.n)(hk:k<b.n):Cl 180 [.agg (bL b),iI i,iI k] (.bool (GV b i k)) J:=by
 refine au ?_;have hx:=h.x;have hy:=h.y;have hn:=h.n;have⟨eX,eY⟩:b.f.x=(b.f.x.toNat:Int)/\b.f.y=(b.f.y.toNat:Int):=by omega
 have e1:∀i:Nat,(i:Int).tmod b.f.x=((i%b.f.x.toNat:Nat):Int):=λi=>by
  conv=>lhs;rw[eX]
  rfl
 have e2:∀i:Nat,(i:Int).tdiv b.f.x=((i / b.f.x.toNat:Nat):Int):=λi=>by
  conv=>lhs;rw[eX]
  rfl
 have e2':∀i:Nat,(i:Int) / b.f.x=((i / b.f.x.toNat:Nat):Int):=λi=>by
  conv=>lhs;rw[eX]
  rfl
 have e3:∀i:Nat,(i:Int).tmod b.f.y=((i%b.f.y.toNat:Nat):Int):=λi=>by
  conv=>lhs;rw[eY]
  rfl
 have e4:∀i:Nat,(i:Int).tdiv b.f.y=((i / b.f.y.toNat:Nat):Int):=λi=>by
  conv=>lhs;rw[eY]
  rfl
 have e4':∀i:Nat,(i:Int) / b.f.y=((i / b.f.y.toNat:Nat):Int):=λi=>by
  conv=>lhs;rw[eY]
  rfl
 have⟨hx0,hy0⟩:¬b.f.x=0/\¬b.f.y=0:=by omega
 have a1:i / b.f.x.toNat<=i:=Nat.div_le_self _ _;have a2:i / b.f.x.toNat / b.f.y.toNat<=i / b.f.x.toNat:=Nat.div_le_self _ _;have a3:i / b.f.x.toNat%b.f.y.toNat<=i / b.f.x.toNat:=Nat.mod_le _ _;have a4:i%b.f.x.toNat<=i:=Nat.mod_le _ _;have b1:k / b.f.x.toNat<=k:=Nat.div_le_self _ _;have b2:k / b.f.x.toNat / b.f.y.toNat<=k / b.f.x.toNat:=Nat.div_le_self _ _;have b3:k / b.f.x.toNat%b.f.y.toNat<=k / b.f.x.toNat:=Nat.mod_le _ _;have b4:k%b.f.x.toNat<=k:=Nat.mod_le _ _;unfold GV Lj px py pz;have q1:=e1 i;have q2:=e1 k;have q3:=e2 i;have q4:=e2 k;have q3':=e2' i;have q4':=e2' k;have q5:=e3 (i / b.f.x.toNat);have q6:=e3 (k / b.f.x.toNat);have q7:=e4 (i / b.f.x.toNat);have q8:=e4 (k / b.f.x.toNat);have q7':=e4' (i / b.f.x.toNat);have q8':=e4' (k / b.f.x.toNat);clear e1 e2 e2' e3 e4 e4';generalize i / b.f.x.toNat / b.f.y.toNat=A1 at *
 generalize i / b.f.x.toNat%b.f.y.toNat=A2 at *
 generalize i / b.f.x.toNat=A4 at *
 generalize i%b.f.x.toNat=A3 at *
 generalize k / b.f.x.toNat / b.f.y.toNat=B1 at *
 generalize k / b.f.x.toNat%b.f.y.toNat=B2 at *
 generalize k / b.f.x.toNat=B4 at *
 generalize k%b.f.x.toNat=B3 at *
 have sq:∀u:Int,-64<=u/\u<=64->0<=u*u/\u*u<=4096:=λu hu=>by
  rcases eV 0 u with h | h
  .have:=iR h hu.2 h hu.2;omega
  .have:=iR (a := -u) (b := -u) (A:=64) (B:=64) (by omega) (by omega) (by omega) (by omega);rw[Int.neg_mul_neg]at this;omega
 have s1:=sq ((A3:Int)-B3) (by omega);have s2:=sq ((A2:Int)-B2) (by omega);have s3:=sq ((A1:Int)-B1) (by omega);have v1:=cb (n:=(A1:Int));have v2:=cb (n:=(A2:Int));have v3:=cb (n:=(A3:Int));have v4:=cb (n:=(A4:Int));have v5:=cb (n:=(B1:Int));have v6:=cb (n:=(B2:Int));have v7:=cb (n:=(B3:Int));have v8:=cb (n:=(B4:Int));have w1:=cb (n:=(A1:Int)-B1);have w2:=cb (n:=(A2:Int)-B2);have w3:=cb (n:=(A3:Int)-B3);have y1:=cb (n:=((A3:Int)-B3)*((A3:Int)-B3));have y2:=cb (n:=((A2:Int)-B2)*((A2:Int)-B2));have y3:=cb (n:=((A1:Int)-B1)*((A1:Int)-B1));have y4:=cb (n:=((A3:Int)-B3)*((A3:Int)-B3)+((A2:Int)-B2)*((A2:Int)-B2));have y5:=cb (n:=((A3:Int)-B3)*((A3:Int)-B3)+((A2:Int)-B2)*((A2:Int)-B2)+((A1:Int)-B1)*((A1:Int)-B1));simp[q1,q2,q3,q4,q5,q6,q7,q8,hx0,hy0,v1,v4,v5,v8,w1,w2,w3,y1,y2,y3,y4,y5];rfl
theorem Vt{x:Rock.aG}{q:Int}(hm:1<=x.m/\x.m<=1000000)(hh:0<=x.h/\x.h<=10000000000)(hk:0<=x.k/\x.k<=1000000000000)(hq:0<=q/\q<=x.m):
  Cl 181 [.agg x.enc,iI q] (.agg (x.out q).enc) J:=by
 refine au ?_;have b1:=iR hh.1 hh.2 hq.1 (show q<=1000000 by omega);have b2:=iR hk.1 hk.2 hq.1 (show q<=1000000 by omega);have b3:=IL hm.1 hh hq;have b4:=IL hm.1 hk hq;have w1:=cb (n:=x.h*q);have w2:=cb (n:=x.k*q);have w3:=cb (n:=(x.h*q).tdiv x.m);have w4:=cb (n:=(x.k*q).tdiv x.m);have hne:¬x.m=0:=by omega
 simp[w1,w2,w3,w4,hne,Rock.aG.out]
theorem MN{x o:Rock.aG}(h1:sm x 1000000000000000000)(h2:sm o 1000000000000000000):Cl 177 [.agg x.enc,.agg o.enc] (.agg (x.move o 1).enc) J:=by
 refine au ?_;obtain⟨a1,a2,a3⟩:=h1;obtain⟨c1,c2,c3⟩:=h2;have w1:=cb (n:=x.m+o.m);have w2:=cb (n:=x.h+o.h);have w3:=cb (n:=x.k+o.k);simp[w1,w2,w3,Rock.aG.move]
theorem Ol{x o:Rock.aG}(h1:sm x 1000000000000000000)(h2:sm o 1000000000000000000):Cl 182 [.agg x.enc,.agg o.enc] (.agg (x.move o (-1)).enc) J:=by
 refine au ?_;obtain⟨a1,a2,a3⟩:=h1;obtain⟨c1,c2,c3⟩:=h2;have w1:=cb (n:=x.m-o.m);have w2:=cb (n:=x.h-o.h);have w3:=cb (n:=x.k-o.k);have e:∀a c:Int,a + -1*c=a-c:=λa c=>by omega
 simp only[Rock.aG.move,aG.enc];simp[w1,w2,w3];omega
theorem Vq{w:bH}{r:Int}(hr : -100000<=r/\r<=100000)(h1:0<=w.h/\w.h<=3000)(h2:0<=w.m/\w.m<=1000000):
  Cl 183 [.agg w.enc,iI r] (.agg (w.given r).enc) J:=by
 refine au ?_;have b1:=mulR h1 hr;have b2:=mulR h2 hr;have w1:=cb (n := -r);have w2:=cb (n := -(r*w.h));have w3:=cb (n := -(r*w.m));simp[w1,w2,w3,bH.given,Int.neg_mul]
theorem acv{b:bV}{m:bZ}(h:Fv b m){i:Nat}(hi:i<b.n):Cl 178 [.agg (bL b),.agg (mL m),iI i] (.agg (IE b m i).enc) J:=by
 refine au ?_;have hf:=λJ=>rH (J:=J) h.toMv (k:=3) (by omega) hi
 rw[show jK b m 3 i=feed b m i from rfl]at hf;simp only[show((3:Nat):Int)=3 from rfl]at hf;have b1:=h.feed i hi;have b2:=h.bv.deep;have b3:=iR b1.1 b1.2 b2.1 b2.2;have w1:=cb (n:=feed b m i*b.deep);simp[hf,w1,IE]
theorem acw{x:Rock.aG}:Cl 223 [.agg x.enc] (.bool x.valid) J:=by
 refine au ?_;cases hc1:bC x.m 1 1000000
 .simp[dt,Rock.aG.valid,hc1]
 cases hc2:bC x.h 0 10000000000
 .simp[dt,Rock.aG.valid,hc1,hc2]
 cases hc3:bC x.k 0 1000000000000
 .simp[dt,Rock.aG.valid,hc1,hc2,hc3]
 simp[dt,Rock.aG.valid,hc1,hc2,hc3]
theorem OK{b:bV}{s:List Rock.aG}(hl:s.length<=1000000000):∀(n i:Nat),i+n=s.length ->
  WL T [1,2,5] false nf [(1,lF s aG.enc),(2,.bg (bL b)),(5,iI i)] J
   (λx e J'=>J'=J/\if dj (s.drop i) Rock.aG.valid=true then x=.exit 0/\get e 1=lF s aG.enc/\get e 2=.bg (bL b)else x=.ret/\get e 4=.bool false)
 |0,i,hi=>by
  refine aA nf.eq_1 ?_;have h1:¬i<s.length:=by omega
  have h2:s.drop i=[]:=an (by omega);simp[h1,h2,dj]
 |n+1,i,hi=>by
  refine aA nf.eq_1 ?_;have h1:i<s.length:=by omega
  obtain⟨x,hx⟩:=gE h1;have h2:=bd (f:=aG.enc) (w:=3) (λ_=>rfl) hx;have h4:=cg h1;have h5:=bx hx;have hO:=λJ=>acw (J:=J) (x:=x)
  simp only[aG.enc]at hO;have ih:=OK (b:=b) hl n (i+1) (by omega);have e1:dj (s.drop i) Rock.aG.valid=(x.valid && dj (s.drop (i+1)) Rock.aG.valid):=by rw[h5];simp[dj]
  rw[e1];cases hc:x.valid
  .simp[h1,h2,hO,hc]
  .simp[h1,h2,h4,hO,hc];exact WL.to ih (by simp) rfl λx e J hh=>by simpa using hh
theorem Vw{b:bV}{s:List Rock.aG}(h:Bv b)(hl:s.length<=1000000000):Cl 184 [.agg (bL b),lF s aG.enc] (.bool (qH b s)) J:=by
 refine au ?_;have hs:=λJ=>pk (J:=J) h.fv
 simp;refine WL.to (OK (J:=[]::J) (b:=b) hl s.length 0 (by omega)) (by simp) rfl ?_;rintro x e J' ⟨rfl,hh⟩;rw[aC]at hh;unfold qH;cases hc:dj s Rock.aG.valid
 .simp[hc]at hh;simp[hh]
 .simp[hc]at hh;by_cases hc1:(s.length:Int)=b.size
  .have hc2:(s.length:Int)=b.f.size:=hc1;simp[hh,hs,hc1];rfl
  .have hc2:¬(s.length:Int)=b.f.size:=hc1;simp[hh,hs,hc1,hc2]
theorem OJ{b:bV}{m:bZ}(h:Fv b m):∀(n i:Nat),i+n=b.n ->
  WL T [2,3,5,6] false nc [(2,.bg (bL b)),(3,.bg (mL m)),(5,.sl J.length 0 i 0 i 3),(6,iI i)] ([.cells i (fM ((bX b m).take i) aG.enc)]::J)
   (λx e J'=>x=.exit 0/\get e 5=.sl J.length 0 b.n 0 b.n 3/\J'=[.cells b.n (fM (bX b m) aG.enc)]::J)
 |0,i,hi=>by
  refine aA nc.eq_1 ?_;obtain rfl:i=b.n:=by omega
  have hs:=λJ=>pk (J:=J) h.bv.fv
  have hz:=h.bv.sz;have hz':b.f.size=(b.n:Int):=hz;have h3:(bX b m).take b.n=bX b m:=ah (by simp[oJ]);simp[h3,hs,hz']
 |n+1,i,hi=>by
  refine aA nc.eq_1 ?_;have h1:i<b.n:=by omega
  have hn:=h.bv.n;have hs:=λJ=>pk (J:=J) h.bv.fv
  have hz':b.f.size=(b.n:Int):=h.bv.sz;have h1':(i:Int)<b.n:=by omega
  have h4:=cg h1;have ho:=λJ=>rH (J:=J) h.toMv (k:=0) (by omega) h1
  have hw:=λJ=>rH (J:=J) h.toMv (k:=2) (by omega) h1
  rw[show jK b m 0 i=hold b m i from rfl]at ho;rw[show jK b m 2 i=Hg b m i from rfl]at hw;simp only[show((0:Nat):Int)=0 from rfl,show((2:Nat):Int)=2 from rfl]at ho hw;have b1:=h.hold i h1;have b2:=h.Hg i h1;have b3:=iR (by omega:0<=hold b m i) b1.2 b2.1 b2.2;have w1:=cb (n:=hold b m i*Hg b m i);have ih:=OJ h n (i+1) (by omega);have hx:(bX b m)[i]?=some ⟨hold b m i,hold b m i*Hg b m i,0⟩:=by simp[bX,h1]
  have a3:=BI (f:=aG.enc) hx;have a4:=tB ((bX b m).take i);rw[dA,oJ,Nat.min_eq_left (by omega)]at a4;have a6:(fM ((bX b m).take i) aG.enc).take (i*3)=fM ((bX b m).take i) aG.enc:=ah (by omega);have h7:(i+1)*24<=room:=by unfold room;omega
  simp[h1',h4,hs,hz',ho,hw,w1,a4,a6,h7];refine WL.to ih (by simp[]) (by simp[<- a3]) λx e J hh=>hh
theorem Jr{b:bV}{m:bZ}(h:Fv b m)(hJ:J≠[]):Cl 139 [.agg (bL b),.agg (mL m)] (.bT b.n (fM (bX b m) aG.enc)) J:=by
 refine au ?_;simp[];refine WL.to (OJ (J:=J) h b.n 0 (by omega)) (by simp) (by simp) ?_;rintro x e J' ⟨rfl,g5,rfl⟩;have hk:=ki (n:=16) (f:=aG.enc) (w:=3) (l:=bX b m) (j:=0) (v:=b.n) (bs:=[.cells b.n (fM (bX b m) aG.enc)]) (by decide) (λ_=>rfl) (λx=>by simp) hJ rfl
 try simp only[lF]at hk
 rw[oJ]at hk;simp[g5,hk]
theorem ahb{b:bV}{m:bZ}(h:Fv b m):∀i,i<b.n->0<=Rock.zB b m i:=λi hi=>(h.zB i hi).1
theorem ab0{b:bV}{m:bZ}{s:List Rock.aG}(hs:Sv b s){i:Nat}(hi:i<b.n):((ba b m s)[i]?).getD 0=dw b m s i:=by
 have h1:i<s.length:=by have:=hs.len;omega
 simp[ba,h1]
theorem ahe{b:bV}{m:bZ}{s:List Rock.aG}(hs:Sv b s){i k:Nat}(hi:i<b.n)(hk:k<b.n):pd b (ba b m s) (i,k)=dw b m s i-weight b i-dw b m s k+weight b k:=by
 unfold pd;simp only[ab0 hs hi,ab0 hs hk]
theorem aj5{b:bV}{m:bZ}{s:List Rock.aG}(h:Fv b m)(hs:Sv b s){i k:Nat}(hi:i<b.n)(hk:k<b.n)(hd:0<pd b (ba b m s) (i,k)):0<=rq b m s (ba b m s) (i,k)/\rq b m s (ba b m s) (i,k)<=(aR s i).m:=by
 obtain⟨_,m1,_,_⟩:=hs.at hi;have o1:=h.zB i hi;have o2:=h.zB k hk;have h1:0<=(aR s i).m.tdiv 8/\(aR s i).m.tdiv 8<=(aR s i).m:=by
  rw[aQ (by omega)];omega
 have h3:0<=(min (zB b m i) (zB b m k)*pd b (ba b m s) (i,k)).tdiv 1000:=Int.tdiv_nonneg (bA (by omega) (by omega)) (by omega);unfold rq;simp only;omega
theorem To{b:bV}{s:List Rock.aG}(hs:Sv b s){i:Nat}(hi:i<b.n){q:Int}(hq:0<=q/\q<=(aR s i).m):sm ((aR s i).out q) 1000000000000:=by
 obtain⟨_,m1,m2,m3⟩:=hs.at hi;exact NC m1 m2 m3 hq
theorem JS{s:List Rock.aG}{i:Nat}{x:Rock.aG}(hi:i<s.length):(fM s aG.enc).take (i*3)++(iI x.m::iI x.h::iI x.k::(fM s aG.enc).drop (i*3+3))=fM (s.set i x) aG.enc:=by
 have:=Md (f:=aG.enc) (w:=3) (λ_=>rfl) (l:=s) (i:=i) (x:=x) hi;simpa using this
theorem En{s:List Rock.aG}{i:Nat}(hi:i<s.length):((fM s aG.enc).drop (i*3)).take 3=[iI (aR s i).m,iI (aR s i).h,iI (aR s i).k] :=
 bd (f:=aG.enc) (w:=3) (λ_=>rfl) (by simp[aR,hi])
theorem zc{s:List Rock.aG}{i:Nat}{o:Rock.aG}{a:Int}:(ck s i o a).length=s.length:=by simp[ck]
theorem ZL{b:bV}{m:bZ}{s:List Rock.aG}{aF:List Int}(h:Fv b m)(hs:Sv b s){i:Nat}(hi:i<b.n):∀(n k:Nat) (next:List Rock.aG) (N:Int),k+n=b.n->next.length=b.n->BV N next->0<=N->N+2000000000000*n<=100000000000000000 ->
  WL T [2,3,4,5,11,12,13] false ng [(2,lF s aG.enc),(3,lF aF aO),(4,.bg (bL b)),(5,.bg (mL m)),(11,.sl J.length 0 0 0 b.n 3),(12,iI i),(13,iI k)] ([.cells 0 (fM next aG.enc)]::J)
   (λx e J'=>x=.exit 2/\get e 2=lF s aG.enc/\get e 3=lF aF aO/\get e 4=.bg (bL b)/\get e 5=.bg (mL m)/\get e 11=.sl J.length 0 0 0 b.n 3/\get e 12=iI i /\
    ∃next',next'=((List.range b.n).drop k).foldl (uo b m s i) next/\next'.length=b.n/\BV (N+2000000000000*n) next'/\J'=[.cells 0 (fM next' aG.enc)]::J)
 |0,k,next,N,hk,hl,hb,h0,hN=>by
  refine aA ng.eq_1 ?_;have hsl:=hs.len;have h1:¬k<s.length:=by omega
  have h2:(List.range b.n).drop k=[]:=an (by simp;omega);simp[h1,h2];exact⟨hl,λx hx=>by simpa using hb x hx⟩
 |n+1,k,next,N,hk,hl,hb,h0,hN=>by
  refine aA ng.eq_1 ?_;have hsl:=hs.len;have hbn:=h.bv.n;have⟨hk1,h1,hi1⟩:k<b.n/\k<s.length/\i<s.length:=by omega
  have h4:=cg hk1;have h5:(List.range b.n).drop k=k::(List.range b.n).drop (k+1):=bx (by simp[hk1]);have c1:=λJ=>Jq (J:=J) h hs hi
  have c2:=λJ=>Jq (J:=J) h hs hk1
  have c3:=λJ=>Jo (J:=J) h.bv hi
  have c4:=λJ=>Jo (J:=J) h.bv hk1
  have c5:=λJ=>TR (J:=J) h.bv hi hk1
  have e3:GR b i*b.lift=weight b i:=rfl;have e4:GR b k*b.lift=weight b k:=rfl;have p1:=G2 h hs hi;have p2:=G2 h hs hk1;have q1:=wJ h.bv hi;have q2:=wJ h.bv hk1;have hpd:=ahe (m:=m) hs hi hk1;have w1:=cb (n:=weight b i);have w2:=cb (n:=weight b k);have w3:=cb (n:=dw b m s i-weight b i);have w4:=cb (n:=dw b m s i-weight b i-dw b m s k);have w5:=cb (n:=dw b m s i-weight b i-dw b m s k+weight b k);have hdb : -300000000000<=dw b m s i-weight b i-dw b m s k+weight b k/\dw b m s i-weight b i-dw b m s k+weight b k<=300000000000:=by omega
  rw[<- hpd]at w5 hdb;have hbig:N+2000000000000<=100000000000000000:=by push_cast at hN;omega
  rw[h5,List.foldl_cons];cases hL:GV b i k
  .have ih:=ZL (aF:=aF) h hs hi n (k+1) next (N+2000000000000) (by omega) hl (λx hx=>dc (hb x hx) (by omega)) (by omega) (by push_cast at hN;omega)
   have hr:uo b m s i next k=next:=by simp[uo,hL]
   rw[hr];simp[h1,c1,c2,c3,c4,c5,e3,e4,w1,w2,w3,w4,<- hpd,w5,hL,h4];refine WL.to ih (by simp) rfl λx e J' hh=>?_
   obtain⟨r1,r2,r3,r4,r5,r6,r7,nx,r8,r9,r10,r11⟩:=hh;exact⟨r1,r2,r3,r4,r5,r6,r7,nx,r8,r9,λx hx=>dc (r10 x hx) (by push_cast;omega),r11⟩
  .by_cases hd:0<pd b (ba b m s) (i,k)
   .have hd':¬pd b (ba b m s) (i,k)<=0:=by omega
    have hik:i≠k:=by
     rintro rfl;simp[GV,Lj]at hL
    have hq:=aj5 h hs hi hk1 hd;obtain⟨x1,m1,m2,m3⟩:=hs.at hi;have f1:=En hi1;have v1:=λJ=>rH (J:=J) h.toMv (k:=1) (by omega) hi
    have v2:=λJ=>rH (J:=J) h.toMv (k:=1) (by omega) hk1
    rw[show jK b m 1 i=zB b m i from rfl]at v1;rw[show jK b m 1 k=zB b m k from rfl]at v2;simp only[show((1:Nat):Int)=1 from rfl]at v1 v2;have o1:=h.zB i hi;have o2:=h.zB k hk1;have ho:=λJ=>Vt (J:=J) m1 m2 m3 hq
    have hso:=To hs hi hq;have hfl:uo b m s i next k=ck (ck next i ((aR s i).out (rq b m s (ba b m s) (i,k))) (-1)) k ((aR s i).out (rq b m s (ba b m s) (i,k))) 1:=by
     simp only[uo,hL,hd,true_and,if_true,cz,rE]
    have hrq:rq b m s (ba b m s) (i,k)=min ((aR s i).m.tdiv 8) ((min (zB b m i) (zB b m k)*pd b (ba b m s) (i,k)).tdiv 1000):=rfl;have b1:=iR (a:=min (zB b m i) (zB b m k)) (b:=pd b (ba b m s) (i,k)) (A:=1000) (B:=300000000000) (by omega) (by omega) (by omega) (by omega);have t8:=aQ (b:=8) (show 0<=(aR s i).m by omega);have t9:=aQ (b:=1000) b1.1;generalize hD:pd b (ba b m s) (i,k)=D0 at *
    generalize hX:min (zB b m i) (zB b m k)*D0=X at *
    have y1:=cb (n:=(aR s i).m.tdiv 8);have y2:=cb (n:=X);have y3:=cb (n:=X.tdiv 1000) (by rw[t9];omega);rw[hrq]at ho hso hfl hq;generalize hQ:min ((aR s i).m.tdiv 8) (X.tdiv 1000)=Q at *
    generalize (aR s i).out Q=o at *
    rw[hfl];have⟨hi2,hk2⟩:i<next.length/\k<next.length:=by omega
    have g1:=En hi2;have g2:=En hk2;obtain⟨_,s1⟩:=Cb hb hi2;obtain⟨_,s2⟩:=Cb hb hk2;have k1:=λJ=>Ol (J:=J) (dc s1 (by omega)) (dc hso (by omega))
    have k2:=λJ=>MN (J:=J) (dc s2 (by omega)) (dc hso (by omega))
    have hbA:=pQ (M:=1000000000000) hb (i:=i) (sign := -1) hso (.inr rfl) (by omega);have hbB:=pQ (M:=1000000000000) hbA (i:=k) (sign:=1) hso (.inl rfl) (by omega);have eA:ck next i o (-1)=next.set i ((aR next i).move o (-1)):=rfl
    have eB:ck (ck next i o (-1)) k o 1=(next.set i ((aR next i).move o (-1))).set k ((aR next k).move o 1):=by
     rw[eA];unfold ck;congr 2;simp[aR,List.getElem?_set_ne hik]
    have st1:=JS (x:=(aR next i).move o (-1)) hi2;have hk3:k<(next.set i ((aR next i).move o (-1))).length:=by simpa using hk2
    have st2:=JS (x:=(aR next k).move o 1) hk3;have ih:=ZL (aF:=aF) h hs hi n (k+1) (ck (ck next i o (-1)) k o 1) (N+2000000000000) (by omega) (by rw[zc,zc];exact hl) (λx hx=>dc (hbB x hx) (by omega)) (by omega) (by push_cast at hN;omega);rw[eB]at ih ⊢;have hln:=tB next
    have hln2:=tB (next.set i ((aR next i).move o (-1)));rw[List.length_set]at hln2;generalize (aR next i).move o (-1)=P1 at *
    generalize (aR next k).move o 1=P2 at *
    generalize next.set i P1=nx1 at *
    simp only[aG.enc]at ho k1 k2;have⟨z1,z2,z3,z4⟩:i*3+3<=b.n*3/\k*3+3<=b.n*3/\3<=b.n*3-i*3/\3<=b.n*3-k*3:=by omega
    rw[hl]at hln hln2;simp[h1,hi1,hi,hk1,c1,c2,c3,c4,c5,e3,e4,w1,w2,w3,w4,<- hpd,w5,hL,h4,hd',f1,v1,v2,hX,y1,y2,y3,hQ,ho,g1,g2,k1,k2,hln,hln2,st1,st2,z1,z2,z3,z4];refine WL.to ih (by simp) (by simp) λx e J' hh=>?_
    obtain⟨r1,r2,r3,r4,r5,r6,r7,nx,r8,r9,r10,r11⟩:=hh;exact⟨r1,r2,r3,r4,r5,r6,r7,nx,r8,r9,λx hx=>dc (r10 x hx) (by push_cast;omega),r11⟩
   .have ih:=ZL (aF:=aF) h hs hi n (k+1) next (N+2000000000000) (by omega) hl (λx hx=>dc (hb x hx) (by omega)) (by omega) (by push_cast at hN;omega)
    have hr:uo b m s i next k=next:=by simp[uo,hd]
    have hd':pd b (ba b m s) (i,k)<=0:=by omega
    rw[hr];simp[h1,c1,c2,c3,c4,c5,e3,e4,w1,w2,w3,w4,<- hpd,w5,hL,hd',h4];refine WL.to ih (by simp) rfl λx e J' hh=>?_
    obtain⟨r1,r2,r3,r4,r5,r6,r7,nx,r8,r9,r10,r11⟩:=hh;exact⟨r1,r2,r3,r4,r5,r6,r7,nx,r8,r9,λx hx=>dc (r10 x hx) (by push_cast;omega),r11⟩
theorem agc{b:bV}{m:bZ}{s:List Rock.aG}{aF:List Int}(h:Fv b m)(hs:Sv b s):∀(n i:Nat) (next:List Rock.aG) (N:Int),i+n=b.n->next.length=b.n->BV N next->0<=N->N+200000000000000*n<=50000000000000000 ->
  WL T [2,3,4,5,11,12] false nh [(2,lF s aG.enc),(3,lF aF aO),(4,.bg (bL b)),(5,.bg (mL m)),(11,.sl J.length 0 0 0 b.n 3),(12,iI i)] ([.cells 0 (fM next aG.enc)]::J)
   (λx e J'=>x=.exit 0/\get e 2=lF s aG.enc/\get e 3=lF aF aO/\get e 4=.bg (bL b)/\get e 11=.sl J.length 0 0 0 b.n 3 /\
    ∃next',next'=((List.range b.n).drop i).foldl (NK b m s) next/\next'.length=b.n/\BV (N+200000000000000*n) next'/\J'=[.cells 0 (fM next' aG.enc)]::J)
 |0,i,next,N,hi,hl,hb,h0,hN=>by
  refine aA nh.eq_1 ?_;have hsl:=hs.len;have h1:¬i<s.length:=by omega
  have h2:(List.range b.n).drop i=[]:=an (by simp;omega);simp[h1,h2];exact⟨hl,λx hx=>by simpa using hb x hx⟩
 |n+1,i,next,N,hi,hl,hb,h0,hN=>by
  refine aA nh.eq_1 ?_;have hsl:=hs.len;have hbn:=h.bv.n;have⟨hi1,h1⟩:i<b.n/\i<s.length:=by omega
  have h4:=cg hi1;have h5:(List.range b.n).drop i=i::(List.range b.n).drop (i+1):=bx (by simp[hi1]);have hF:=λJ=>acv (J:=J) h hi1
  have hsf:=Ra h hi1;have hi2:i<next.length:=by omega
  have g1:=En hi2;obtain⟨_,s1⟩:=Cb hb hi2;have hP:=λJ=>MN (J:=J) (dc s1 (by push_cast at hN;omega)) (dc hsf (by omega))
  have st1:=JS (x:=(aR next i).move (IE b m i) 1) hi2;have hbA:=pQ (M:=1000000000000) hb (i:=i) (sign:=1) hsf (.inl rfl) (by omega);have eA:ck next i (IE b m i) 1=next.set i ((aR next i).move (IE b m i) 1):=rfl
  have hln:=tB next
  rw[hl]at hln;have⟨z1,z3⟩:i*3+3<=b.n*3/\3<=b.n*3-i*3:=by omega
  have hrow:NK b m s next i=(List.range b.n).foldl (uo b m s i) (ck next i (IE b m i) 1):=rfl
  have hlen1:(ck next i (IE b m i) 1).length=b.n:=by rw[zc];exact hl
  rw[h5,List.foldl_cons,hrow];rw[eA]at hbA hlen1 ⊢;generalize (aR next i).move (IE b m i) 1=P at *
  simp only[aG.enc]at hF hP;simp[h1,hi1,hF,hP,g1,hln,z1,z3,st1];refine WL.to (ZL (J:=J) (aF:=aF) h hs hi1 b.n 0 (next.set i P) (N+1000000000000) (by omega) hlen1 hbA (by omega) (by push_cast at hN;omega)) (by simp) (by simp) ?_;rintro x e J' ⟨rfl,g2,g3,g4,g5,g11,g12,nx,r8,r9,r10,rfl⟩;rw[aC]at r8;rw[<- r8];have ih:=agc (aF:=aF) h hs n (i+1) nx (N+200000000000000) (by omega) r9 (λx hx=>dc (r10 x hx) (by omega)) (by omega) (by push_cast at hN;omega);simp[g2,g3,g4,g5,g11,g12,h4];refine WL.to ih (by simp) rfl λx e J' hh=>?_
  obtain⟨r1,r2,r3,r4,r5,nx',q1,q2,q3,q4⟩:=hh;exact⟨r1,r2,r3,r4,r5,nx',q1,q2,λx hx=>dc (q3 x hx) (by push_cast;omega),q4⟩
def BQ(b:bV)(s next:List Rock.aG)(aF:List Int)(w:Nat):List Rock.aG:=((b.av.zip aF).drop w).foldl (λn wr=>sh s n wr.1 wr.2) next
theorem ac5{b:bV}{s:List Rock.aG}{aF:List Int}(h:Bv b)(hs:Sv b s)(hr:Rv b aF):∀(n w:Nat) (next:List Rock.aG) (N:Int),w+n=aF.length->next.length=b.n->BV N next->0<=N->N+1000000000000*n<=100000000000000000 ->
  WL T [2,3,4,11,16,17] false ni [(2,lF s aG.enc),(3,lF aF aO),(4,.bg (bL b)),(11,.sl J.length 0 0 0 b.n 3),(16,.sl J.length 1 w 0 w 3),(17,iI w)]
   ([.cells 0 (fM next aG.enc),.cells w (fM ((bJ b s aF).take w) aG.enc)]::J)
   (λx e J'=>x=.exit 4/\get e 4=.bg (bL b)/\get e 11=.sl J.length 0 0 0 b.n 3/\get e 16=.sl J.length 1 aF.length 0 aF.length 3 /\
    ∃next',next'=BQ b s next aF w/\next'.length=b.n/\J'=[.cells 0 (fM next' aG.enc),.cells aF.length (fM (bJ b s aF) aG.enc)]::J)
 |0,w,next,N,hw,hl,hb,h0,hN=>by
  refine aA ni.eq_1 ?_;obtain rfl:w=aF.length:=by omega
  have hrl:=hr.len;have hyl:(bJ b s aF).length=aF.length:=by simp[bJ,hr.len]
  have h3:(bJ b s aF).take aF.length=bJ b s aF:=ah (by omega);have h2:(b.av.zip aF).drop aF.length=[]:=an (by rw[List.length_zip];omega);simp[h3,BQ,h2];exact hl
 |n+1,w,next,N,hw,hl,hb,h0,hN=>by
  refine aA ni.eq_1 ?_;have hrl:=hr.len;have hwl:=h.av;have hbn:=h.n;have hsl:=hs.len;have⟨h1,h1w,h1'⟩:w<aF.length/\w<b.av.length/\(w:Int)<b.av.length:=by omega
  obtain⟨r,hx⟩:=gE h1;obtain⟨wl,hwx⟩:=gE h1w;obtain⟨p1,p2,p3⟩:=Hj h wl (aj hwx);have hrb:=hr.ok r (aj hx);obtain⟨i,hi⟩:∃i:Nat,wl.b=i:=⟨wl.b.toNat,by omega⟩;have⟨hin,hi1,hi2⟩:i<b.n/\i<s.length/\i<next.length:=by omega
  have h4:=cg h1;have a1:=gp hx;have a2:=bd (f:=bH.enc) (w:=3) (λ_=>rfl) hwx;simp only[bH.enc,hi]at a2;have f1:=En hi1;have g1:=En hi2;obtain⟨x1,m1,m2,m3⟩:=hs.at hin;obtain⟨_,s1⟩:=Cb hb hi2;have hzip:(b.av.zip aF)[w]?=some (wl,r):=by rw[List.getElem?_zip_eq_some];exact⟨hwx,hx⟩
  have h5:=bx hzip;have hW:BQ b s next aF w=BQ b s (sh s next wl r) aF (w+1):=by
   unfold BQ;rw[h5,List.foldl_cons]
  rw[hW];have hy:(bJ b s aF)[w]?=some (gZ s wl r):=by simp[bJ,hzip]
  have a3:=BI (f:=aG.enc) hy;have hyl:(bJ b s aF).length=aF.length:=by simp[bJ,hr.len]
  have a4:=tB ((bJ b s aF).take w);rw[dA,hyl,Nat.min_eq_left (by omega)]at a4;have a6:(fM ((bJ b s aF).take w) aG.enc).take (w*3)=fM ((bJ b s aF).take w) aG.enc:=ah (by omega);have h7:(w+1)*24<=room:=by unfold room;omega
  have hln:=tB next
  rw[hl]at hln;have⟨z1,z3⟩:i*3+3<=b.n*3/\3<=b.n*3-i*3:=by omega
  have y1:=cb (n:=(aR s i).m.tdiv 8) (by rw[aQ (by omega)];omega);have z4:3<=s.length*3-i*3:=by omega
  by_cases hc:0<r
  .have hq:0<=min r ((aR s i).m.tdiv 8)/\min r ((aR s i).m.tdiv 8)<=(aR s i).m:=by
    rw[aQ (by omega)];omega
   have ho:=λJ=>Vt (J:=J) m1 m2 m3 hq
   have hso:=To hs hin hq;have hwy:gZ s wl r=(aR s i).out (min r ((aR s i).m.tdiv 8)):=by
    unfold gZ;rw[if_neg (by omega),hi];rfl
   have hwm:sh s next wl r=next.set i ((aR next i).move ((aR s i).out (min r ((aR s i).m.tdiv 8))) (-1)):=by
    unfold sh;rw[if_pos hc,hi];rfl
   have hbA:=pQ (M:=1000000000000) hb (i:=i) (sign := -1) hso (.inr rfl) (by omega);have hlen1:(ck next i ((aR s i).out (min r ((aR s i).m.tdiv 8))) (-1)).length=b.n:=by rw[zc];exact hl
   have eA:ck next i ((aR s i).out (min r ((aR s i).m.tdiv 8))) (-1)=next.set i ((aR next i).move ((aR s i).out (min r ((aR s i).m.tdiv 8))) (-1)):=rfl
   rw[eA]at hbA hlen1;have hM:=λJ=>Ol (J:=J) (dc s1 (by push_cast at hN;omega)) (dc hso (by omega))
   have st1:=JS (x:=(aR next i).move ((aR s i).out (min r ((aR s i).m.tdiv 8))) (-1)) hi2;have ih:=ac5 h hs hr n (w+1) (sh s next wl r) (N+1000000000000) (by omega) (by rw[hwm];exact hlen1) (by rw[hwm];exact hbA) (by omega) (by push_cast at hN;omega);rw[hwm]at ih ⊢;rw[hwy]at a3;generalize (aR s i).out (min r ((aR s i).m.tdiv 8))=o at *
   generalize (aR next i).move o (-1)=P at *
   simp only[aG.enc]at ho hM;simp[h1,h1',hi1,hin,a1,a2,f1,g1,y1,ho,hM,hc,hln,z1,z3,st1,a4,a6,h7,h4];exact WL.to ih (by simp) (by simp[<- a3]) λx e J' hh=>hh
  .have hG:=λJ=>Vq (J:=J) hrb p2 p3
   have hsg:=Kk hrb p2 p3;have hwy:gZ s wl r=⟨0,0,0⟩:=by
    unfold gZ;rcases Int.lt_or_le r 0 with h | h
    .rw[if_pos h]
    .obtain rfl:r=0:=by omega
     have h9:0<=(aR s wl.b.toNat).m.tdiv 8:=by
      rw[hi];exact Int.tdiv_nonneg (by have:=m1.1;simp only[Int.toNat_natCast];omega) (by omega)
     rw[if_neg (by omega),show min 0 ((aR s wl.b.toNat).m.tdiv 8)=0 by omega];simp[Rock.aG.out]
   have hwm:sh s next wl r=next.set i ((aR next i).move (wl.given r) 1):=by
    unfold sh;rw[if_neg hc,hi];rfl
   have hbA:=pQ (M:=1000000000000) hb (i:=i) (sign:=1) hsg (.inl rfl) (by omega);have hlen1:(ck next i (wl.given r) 1).length=b.n:=by rw[zc];exact hl
   have eA:ck next i (wl.given r) 1=next.set i ((aR next i).move (wl.given r) 1):=rfl
   rw[eA]at hbA hlen1;have hM:=λJ=>MN (J:=J) (dc s1 (by push_cast at hN;omega)) (dc hsg (by omega))
   have st1:=JS (x:=(aR next i).move (wl.given r) 1) hi2;have ih:=ac5 h hs hr n (w+1) (sh s next wl r) (N+1000000000000) (by omega) (by rw[hwm];exact hlen1) (by rw[hwm];exact hbA) (by omega) (by push_cast at hN;omega);rw[hwm]at ih ⊢;rw[hwy]at a3;simp only[bH.enc,hi]at hG;generalize wl.given r=o at *
   generalize (aR next i).move o 1=P at *
   simp only[aG.enc]at hG hM;simp[h1,h1',hin,a1,a2,g1,hG,hM,hc,hln,z1,z3,st1,a4,a6,h7,h4];exact WL.to ih (by simp) (by simp[<- a3]) λx e J' hh=>hh
theorem Y4{b:bV}{m:bZ}{s:List Rock.aG}{aF:List Int}(h:Fv b m)(hs:Sv b s)(hr:Rv b aF)(hJ:J≠[]):
  Cl 140 [.agg (bL b),.agg (mL m),lF s aG.enc,lF aF aO] (.cK [.bT b.n (fM (mI b m s aF) aG.enc),.bT aF.length (fM (bJ b s aF) aG.enc),.bool (qH b (mI b m s aF))]) J:=by
 refine au ?_;have hsl:=hs.len;have hbn:=h.bv.n;have hrl:=hr.len;have hwl:=h.bv.av;have h7:s.length*24<=room:=by unfold room;omega
 have hsn:s≠[]:=λhh=>by rw[hh]at hsl;simp at hsl;omega
 have hsn':¬s.length=0:=by omega
 have hln:=tB s;simp[h7,hsn',hln];refine WL.to (agc (J:=J) (aF:=aF) h hs b.n 0 s 1000000000000 (by omega) hsl hs.BV (by omega) (by omega)) (by simp[hsl]) (by simp) ?_;rintro x e J' ⟨rfl,g2,g3,g4,g11,nx,r1,r2,r3,rfl⟩;rw[aC]at r1;simp[g2,g3,g4,g11];refine WL.to (ac5 (J:=J) h.bv hs hr aF.length 0 nx (1000000000000+200000000000000*(b.n:Int)) (by omega) r2 r3 (by omega) (by omega)) (by simp) (by simp) ?_;rintro x e J' ⟨rfl,g4,g11,g16,ny,q1,q2,rfl⟩;have hny:ny=mI b m s aF:=by
  rw[q1,r1];unfold BQ;rw[aC];obtain⟨_,hx,hy⟩:=h.bv.nat;refine X8 hx hy (λl hl=>PL h.bv hl) (λi=>?_) (ahb h) hsl;by_cases hi:i<b.n
  .have:=(hs.at hi).2.1;omega
  .have:s[i]?=none:=dN (by omega);simp[aR,this]
 have hS:=λJ=>Vw (J:=J) (b:=b) (s:=ny) h.bv (by omega)
 try simp only[lF,Cl,bL]at hS
 rw[q2]at hS;have k11:=o9 (f:=aG.enc) (w:=3) (λ_=>rfl) (λx=>by simp) (l:=ny) (j:=0) (v:=0) (bs:=[.cells 0 (fM ny aG.enc),.cells aF.length (fM (bJ b s aF) aG.enc)]) (J:=J) hJ rfl;rw[q2]at k11;simp only[List.set_cons_zero]at k11;have hyl:(bJ b s aF).length=aF.length:=by simp[bJ,hr.len]
 have k16:=ki (n:=15) (f:=aG.enc) (w:=3) (l:=bJ b s aF) (j:=1) (v:=aF.length) (bs:=[.dead,.cells aF.length (fM (bJ b s aF) aG.enc)]) (by decide) (λ_=>rfl) (λx=>by simp) hJ rfl
 try simp only[lF]at k16
 rw[hyl]at k16;simp[g4,g11,g16,k11,hS];rw[hny];rw[o4 (by simp) (by omega)];simp only[jb,j9];rw[ek (by simp[D.clean,Hu]) (by omega),k16,ek (by rfl) (by omega)];exact⟨_,rfl⟩
theorem Ry{b:bV}{m:bZ}{s:List Rock.aG}{aF:List Int}(h:Fv b m)(hs:Sv b s)(hr:Rv b aF):(mI b m s aF).length=b.n:=by
 obtain⟨fb,fl⟩:=L6 h hs;rw[<- Nv hr hs.len,yN,(zu h.bv hs hr fb aF.length (aN _)).2,fl,hs.len]
theorem Vx{b:bV}{m:bZ}{s:List Rock.aG}{aF:List Int}(h:Fv b m)(hs:Sv b s)(hr:Rv b aF)(hJ:J≠[]):
  dr T (.call false 140 [.agg [iI b.f.x,iI b.f.y,iI b.f.z,iI b.f.k,.bT b.dP.length (fM b.dP Rw.enc),iI b.cA,iI b.lift,iI b.deep,.bT b.av.length (fM b.av bH.enc)],.agg [.str m.name,.bT m.dz.length (fM m.dz aO)],.bT s.length (fM s aG.enc),.bT aF.length (fM aF aO)] J)=some (.val (.cK [.bT (mI b m s aF).length (fM (mI b m s aF) aG.enc),.bT (bJ b s aF).length (fM (bJ b s aF) aG.enc),.bool (qH b (mI b m s aF))]) J):=by
 rw[Ry h hs hr,show(bJ b s aF).length=aF.length by simp[bJ,hr.len]];exact Y4 h hs hr hJ
def aex(J:SK)(r:Option (List (List Rock.aG)×List (List Rock.aG)))(x:Abs.Exit)(e:Env)(J':SK):Prop:=match r with
 |some (ss,ys)=>x=.exit 0/\(∃d6,get e 6=.own 0 d6/\d6.length=2)/\get e 8=.own 0 [.sl J.length 0 (ss.length-1) 0 ss.length 1,.sl J.length 1 ys.length 0 ys.length 1]/\J'=[.cells (ss.length-1) (fM ss lq),.cells ys.length (fM ys lq)]::J
 |none=>x=.ret/\get e 6=.own 0 [.bz,.bz]/\get e 7=.bool false/\∃bF,J'=bF::J
theorem MS{b:bV}{m:bZ}{aw:List (List Int)}(h:Fv b m)(hp:aw.length<=200)(hr:∀r∈aw,Rv b r):∀(k i:Nat) (ss ys:List (List Rock.aG)) (s:List Rock.aG),i+k=aw.length->ss.length=i+1->ys.length=i->ss[i]?=some s->Sv b s ->
  WL T [2,3,4,6,8,9] false lP [(2,lF aw IY),(3,.bg (bL b)),(4,.bg (mL m)),(6,.own 0 [.bz,.bz]),(8,.own 0 [.sl J.length 0 i 0 (i+1) 1,.sl J.length 1 i 0 i 1]),(9,iI i)]
   ([.cells i (fM ss lq),.cells i (fM ys lq)]::J) (aex J (oe b m ss ys s (aw.drop i)))
 |0,i,ss,ys,s,hi,h1,h2,h3,hs=>by
  refine aA lP.eq_1 ?_;obtain rfl:i=aw.length:=by omega
  have h5:aw.drop aw.length=[]:=an (by omega);simp[h5,oe,aex,h1,h2]
 |k+1,i,ss,ys,s,hi,h1,h2,h3,hs=>by
  refine aA lP.eq_1 ?_;have⟨hlt,hii⟩:i<aw.length/\(i:Int)<i+1:=by omega
  obtain⟨r,hx⟩:=gE hlt;have h4:=cg hlt;have h5:=bx hx;have a1:=bd (f:=IY) (w:=1) (λ_=>rfl) hx;simp only[IY,bS]at a1;have a2:=rD (f:=lq) (w:=1) (λ_=>rfl) h3;simp only[lq,bS,dp]at a2;have hR:=hr r (aj hx);have hT:=λJ hJ=>Vx (J:=J) h hs hR hJ
  rw[h5,oe];cases hc:qH b (mI b m s r)
  .have ht:tick b m s r=none:=by simp[tick,hc]
   rw[hc]at hT;simp[hlt,hii,a1,a2,hT,ht,aex]
  .have ht:tick b m s r=some (mI b m s r,bJ b s r):=by simp[tick,hc]
   rw[hc]at hT;have ih:=MS h hp hr k (i+1) (ss++[mI b m s r]) (ys++[bJ b s r]) (mI b m s r) (by omega) (by simp[h1]) (by simp[h2]) (by simp[<- h1]) (Sv.next h.bv ht);have l1:=Jk ss;have l2:=Jk ys;rw[h1]at l1;rw[h2]at l2;have f1:(fM ss lq).take (i+1)=fM ss lq:=ah (by omega);have f2:(fM ys lq).take i=fM ys lq:=ah (by omega);have h7:=NS (n:=i+1) (by omega);have h8:=NS (n:=i+1+1) (by omega);rw[ht];generalize mI b m s r=s' at *
   generalize bJ b s r=y at *
   simp[hlt,hii,h4,a1,a2,hT,f1,f2,l1,l2,h7,h8];exact WL.to ih (by simp) (by simp[lq]) λx e J hh=>hh
theorem Jp{b:bV}{m:bZ}{aw:List (List Int)}(h:Fv b m)(hp:aw.length<=200)(hr:∀r∈aw,Rv b r)(hJ:J≠[]){ss ys:List (List Rock.aG)}(hrun:Rock.run b m aw=some (ss,ys)){wq:D}(hwq:wq.qY=lF b.av bH.enc):
  Cl 102 [.agg [iI b.f.x,iI b.f.y,iI b.f.z,iI b.f.k,lF b.dP Rw.enc,iI b.cA,iI b.lift,iI b.deep,wq],.agg (mL m),lF aw IY] (.cK [.agg [lF ss lq,lF ys lq],.bool true]) J:=by
 refine au ?_;have hf:=λJ hJ=>Jr (J:=J) h hJ
 simp[hwq,hf];refine WL.to (MS (J:=J) h hp hr aw.length 0 [bX b m] [] (bX b m) (by omega) rfl rfl rfl (Sv.first h)) (by simp) (by simp[lq,oJ]) ?_;rw[aC,show oe b m [bX b m] [] (bX b m) aw=some (ss,ys)from hrun];rintro x e J' ⟨rfl,⟨d6,g6,l6⟩,g8,rfl⟩;simp[g6,g8,l6];have c1:∀x:List Rock.aG,D.bf (lq x)=true:=λx=>by simp[lq,D.clean,Hu]
 have k1:=ki (n:=14) (f:=lq) (w:=1) (l:=ss) (j:=0) (v:=ss.length-1) (bs:=[.cells (ss.length-1) (fM ss lq),.cells ys.length (fM ys lq)]) (by decide) (λ_=>rfl) c1 hJ rfl;have k2:=ki (n:=14) (f:=lq) (w:=1) (l:=ys) (j:=1) (v:=ys.length) (bs:=[.dead,.cells ys.length (fM ys lq)]) (by decide) (λ_=>rfl) c1 hJ rfl;simp only[List.set_cons_zero]at k1;rw[o4 (by simp) (by omega)];simp only[jb,j9];rw[Ew (by simp) (by omega)];simp only[jb,j9];rw[k1];simp only;rw[k2,ek (by rfl) (by omega)];exact⟨_,rfl⟩
theorem QF{b:bV}{m:bZ}{aw:List (List Int)}(h:Fv b m)(hp:aw.length<=200)(hr:∀r∈aw,Rv b r)(hJ:J≠[])(hrun:Rock.run b m aw=none){wq:D}(hwq:wq.qY=lF b.av bH.enc):
  Cl 102 [.agg [iI b.f.x,iI b.f.y,iI b.f.z,iI b.f.k,lF b.dP Rw.enc,iI b.cA,iI b.lift,iI b.deep,wq],.agg (mL m),lF aw IY] (.cK [.agg [.bz,.bz],.bool false]) J:=by
 refine au ?_;have hf:=λJ hJ=>Jr (J:=J) h hJ
 simp[hwq,hf];refine WL.to (MS (J:=J) h hp hr aw.length 0 [bX b m] [] (bX b m) (by omega) rfl rfl rfl (Sv.first h)) (by simp) (by simp[lq,oJ]) ?_;rw[aC,show oe b m [bX b m] [] (bX b m) aw=none from hrun];rintro x e J' ⟨rfl,g6,g7,bF,rfl⟩;simp[g6,g7]
end Go.Proofs.YtpapbbojmclkgaaGreatDoor
