import Derived.Test.YtpapbbojmclkgaaGreatDoorTxt1
set_option linter.all false
namespace Go.Proofs.YtpapbbojmclkgaaGreatDoor
open Go Go.Abs Go.Rock
variable {J:SK}
def Ni:Option Rw->Rw->Bool
 |some o,r=>o.vZ r
 |none,_=>true
def Cn(o:Option Rw):List Rw->Bool
 |[]=>true
 |r::l=>r.alone && (Ni o r && Cn (some r) l)
theorem DP{o:Option Rw}{r:Rw}{l:List Rw}:Cn o (r::l)=(r.alone && (Ni o r && Cn (some r) l)):=rfl
theorem Pw(l:List Rw):∀o,Cn (some o) l=(da l Rw.alone && tV (o::l)):=by
 induction l with
 |nil=>intro o;simp[Cn,da,tV]
 |cons r l ih =>
  intro o;rw[DP,ih,AQ,tV];show(r.alone && (o.vZ r && (da l Rw.alone && tV (r::l))))=(r.alone && da l Rw.alone && (o.vZ r && tV (r::l)))
  cases r.alone<;>cases o.vZ r<;>cases da l Rw.alone<;>simp
theorem Pv(l:List Rw):Cn none l=(da l Rw.alone && tV l):=by
 cases l with
 |nil=>simp[Cn,da,tV]
 |cons r l=>rw[DP,Pw,AQ];cases r.alone<;>rfl
def V1(t:List Rw):Nat->Option Rw
 |0=>none
 |i+1=>t[i]?
theorem N9{t:List Rw}(hl:t.length<=9223372036854775807):∀(m i:Nat),i+m=t.length ->
  WL T [0,3] false km [(0,lF t Rw.enc),(3,iI i)] J
   (λx e J'=>J'=J/\if Cn (V1 t i) (t.drop i)then x=.exit 0/\get e 0=lF t Rw.enc else x=.ret/\get e 2=.bool false)
 |0,i,hi=>by
  refine aB km.eq_1 ?_;have h1:¬i<t.length:=by omega
  have h2:t.drop i=[]:=an (by omega);simp[h1,h2,Cn]
 |m+1,i,hi=>by
  refine aB km.eq_1 ?_;have h1:i<t.length:=by omega
  obtain⟨r,hr⟩:=gE h1;have h2:=bu (f:=Rw.enc) (w:=5) (λ_=>rfl) hr;have h4:=cr h1 (by omega);have h5:=bD hr;have ih:=N9 hl m (i+1) (by omega);rw[show V1 t (i+1)=some r from hr]at ih;rw[h5,DP];cases c1:bA r.t 0 400
  .simp[h1,h2,dh,c1,Rw.alone]
  cases c2:bA r.p 1 10000
  .simp[h1,h2,dh,c1,c2,Rw.alone]
  cases c3:bA r.l 0 4000
  .simp[h1,h2,dh,c1,c2,c3,Rw.alone]
  cases c4:bA r.s 0 2000
  .simp[h1,h2,dh,c1,c2,c3,c4,Rw.alone]
  by_cases c5:r.l<r.v
  rotate_left
  .simp[h1,h2,dh,c1,c2,c3,c4,c5,show r.v<=r.l by omega,Rw.alone]
  have c5':¬r.v<=r.l:=by omega
  by_cases c6:r.v<=4000
  rotate_left
  .simp[h1,h2,dh,c1,c2,c3,c4,c5,c5',c6,show 4000<r.v by omega,Rw.alone]
  have c6':¬4000<r.v:=by omega
  have ha:r.alone=true:=by simp[Rw.alone,c1,c2,c3,c4,c5,c6]
  rw[ha];cases i with
  |zero =>
   rw[show Ni (V1 t 0) r=true from rfl];have h2':(fM t Rw.enc).take 5=[iI r.t,iI r.p,iI r.l,iI r.v,iI r.s]:=by simpa using h2
   have h1':0<t.length:=by omega
   have hr0:t[0]?=some r:=hr;simp[h1',h2',dh,c1,c2,c3,c4,c5',c6'];exact WL.to ih (by simp) (by simp) λx e J' hh=>by simpa[hr0]using hh
  |succ j =>
   obtain⟨o,ho⟩:∃r,t[j]?=some r:=gE (by omega);have h3:=bu (f:=Rw.enc) (w:=5) (λ_=>rfl) ho;rw[show V1 t (j+1)=some o from ho,show Ni (some o) r=o.vZ r from rfl];have w1:=cf (n:=(j:Int)) (by omega);have w2:=cf (n:=(j:Int)+1+1) (by omega);have⟨hj,e1,hA,hB,hC,hD⟩:j<t.length/\(j:Int)+1-1=j/\(j:Int)+1<(t.length:Int)/\(0:Int)<=(j:Int)+1/\((j:Int)+1).toNat=j+1/\(0:Int)<(j:Int)+1:=by omega
   by_cases d1:r.t<=o.t
   .simp[h2,h3,dh,c1,c2,c3,c4,c5',c6',e1,w1,hj,hA,hB,hC,hD,d1,Rw.vZ]
   by_cases d2:r.p<=o.p
   .simp[h2,h3,dh,c1,c2,c3,c4,c5',c6',e1,w1,hj,hA,hB,hC,hD,d1,d2,Rw.vZ]
   by_cases d3:r.l<=o.l
   .simp[h2,h3,dh,c1,c2,c3,c4,c5',c6',e1,w1,hj,hA,hB,hC,hD,d1,d2,d3,Rw.vZ]
   by_cases d4:r.s<o.s
   .simp[h2,h3,dh,c1,c2,c3,c4,c5',c6',e1,w1,hj,hA,hB,hC,hD,d1,d2,d3,d4,Rw.vZ]
   have hrs:o.vZ r=true:=by simp[Rw.vZ,d1,d2,d3,d4]
   simp[h2,h3,dh,c1,c2,c3,c4,c5',c6',e1,w1,hj,hA,hB,hC,hD,d1,d2,d3,d4,hrs,w2];exact WL.to ih (by simp) (by simp[]) λx e J' hh=>by simpa[hrs]using hh
theorem NL{t:List Rw}(hl:t.length<=9223372036854775807):Cl vh [lF t Rw.enc] (.bool (fO t)) J:=by
 refine au rfl rfl rfl ?_;simp;refine WL.to (N9 (J:=[]::J) hl t.length 0 (by omega)) (by simp) rfl ?_;rintro x e J' ⟨rfl,h⟩;simp only[aE,V1,Pv]at h;unfold fO;cases hc:(da t Rw.alone && tV t)
 .simp[hc]at h;simp[h]
 .simp only[hc,if_true]at h;obtain⟨rfl,g0⟩:=h;by_cases h1:2<=t.length
  .by_cases h2:t.length<=20
   .simp[g0,bA,show(2:Int)<=t.length by omega,show(t.length:Int)<=20 by omega]
   .simp[g0,bA,show(2:Int)<=t.length by omega,show ¬(t.length:Int)<=20 by omega]
  .simp[g0,bA,show ¬(2:Int)<=t.length by omega]
theorem N3{l:List Int}(hl:l.length<=9223372036854775807):∀(k i:Nat),i+k=l.length ->
  WL T [1,5] false iJ [(1,lF l aT),(5,iI i)] J
   (λx e J'=>J'=J/\if da (l.drop i) (λn=>bA n (-100000) 100000)then x=.exit 0 else x=.ret/\get e 4=iI 2)
 |0,i,hi=>by
  refine aB iJ.eq_1 ?_;have h1:¬i<l.length:=by omega
  have h2:l.drop i=[]:=an (by omega);simp[h1,h2,da]
 |k+1,i,hi=>by
  refine aB iJ.eq_1 ?_;have h1:i<l.length:=by omega
  obtain⟨c,hc⟩:=gE h1;have h2:=gr hc;have h4:=cr h1 (by omega);have h5:=bD hc;have ih:=N3 hl k (i+1) (by omega);rw[h5,AQ];cases hb:bA c (-100000) 100000
  .simp[h1,h2,dh,hb]
  .simp[h1,h2,h4,dh,hb];exact WL.to ih (by simp) rfl λx e J' hh=>by simpa[hb]using hh
theorem Tg{b:bU}{l:List Int}(hl:l.length<=9223372036854775807){wq:D}(hwq:wq.pY=lF b.av bG.enc):Cl rX [.agg [iI b.f.x,iI b.f.y,iI b.f.z,iI b.f.k,lF b.dL Rw.enc,iI b.cz,iI b.lift,iI b.deep,wq],lF l aT] (iI (pD b l)) J:=by
 refine au rfl rfl rfl ?_;unfold pD;by_cases hc1:l.length=b.av.length
 .simp[hwq,hc1];rw[<- hc1];refine WL.to (N3 (J:=[]::J) hl l.length 0 (by omega)) (by simp) (by simp) ?_;rintro x e J' ⟨rfl,h⟩;simp only[aE]at h;cases hc2:da l (λn=>bA n (-100000) 100000)
  .simp[hc2]at h;simp[h]
  .simp[hc2]at h;simp[h]
 .simp[hwq,hc1,show ¬(l.length:Int)=b.av.length by omega]
theorem Oq{l:List bG}{j:Nat}{w:bG}(h:l[j]?=some w):((fM l bG.enc).drop (j*3)).take 3=[iI w.b,iI w.h,iI w.m] :=
 bu (f:=bG.enc) (w:=3) (λ_=>rfl) h
theorem RI{b:bU}{w:bG}(hl:b.av.length<=1000){i:Nat}(hi:i<b.av.length):∀(k j:Nat),j+k=i ->
  WL T [1,3,4,5] false lG [(1,.bf (bL b)),(3,iI i),(4,.own 0 [iI w.b,iI w.h,iI w.m]),(5,iI j)] J
   (λx e J'=>J'=J/\if(((b.av.take i).drop j).map bG.b).contains w.b then x=.ret/\get e 2=.bool false else x=.exit 2/\get e 1=.bf (bL b)/\get e 3=iI i)
 |0,j,hj=>by
  refine aB lG.eq_1 ?_;obtain rfl:j=i:=by omega
  have h2:(b.av.take j).drop j=[]:=an (by rw[dp];omega);rw[h2];simp
 |k+1,j,hj=>by
  refine aB lG.eq_1 ?_;have⟨h1,h1'⟩:j<i/\j<b.av.length:=by omega
  obtain⟨r,hr⟩:∃r,b.av[j]?=some r:=gE (by omega);have h2:=Oq hr;have h4:=cr h1' (by omega);have h5:(b.av.take i).drop j=r::(b.av.take i).drop (j+1):=bD (by rw[c9];simp[h1,hr]);have ih:=RI (w:=w) hl hi k (j+1) (by omega);rw[h5,aN];by_cases hc:r.b=w.b
  .simp[h1,h1',h2,hc]
  .simp[h1,h1',h2,h4,hc];have hc':¬w.b=r.b:=λh=>hc h.symm
   exact WL.to ih (by simp) rfl λx e J' hh=>by simpa[hc']using hh
theorem N7{b:bU}(hf:b.f.valid=true)(hl:b.av.length<=8):∀(k i:Nat),i+k=b.av.length ->
  WL T [1,3] false lH [(1,.bf (bL b)),(3,iI i)] J
   (λx e J'=>J'=J/\if nT b.size ((b.av.take i).map bG.b) (b.av.drop i)then x=.exit 0 else x=.ret/\get e 2=.bool false)
 |0,i,hi=>by
  refine aB lH.eq_1 ?_;have h1:¬i<b.av.length:=by omega
  have h2:b.av.drop i=[]:=an (by omega);simp[h1,h2,nT]
 |k+1,i,hi=>by
  refine aB lH.eq_1 ?_;have h1:i<b.av.length:=by omega
  obtain⟨w,hw⟩:=gE h1;have h2:=Oq hw;have h4:=cr h1 (by omega);have h5:=bD hw;have ih:=N7 hf hl k (i+1) (by omega);have e1:(b.av.take (i+1)).map bG.b=(b.av.take i).map bG.b++[w.b]:=by rw[List.take_add_one,hw];simp
  rw[e1]at ih;rw[h5,nT];have hS:=λJ=>oX (J:=J) hf
  obtain⟨⟨s1,s2⟩,_⟩:=Br hf;have w1:=cf (n:=b.f.size-1) (by omega);have hsz:b.size=b.f.size:=rfl;rw[hsz]at ih ⊢;cases c1:bA w.b 0 (b.f.size-1)
  .simp[h1,h2,hS,w1,dh,c1,bG.ok]
  cases c2:bA w.h 0 3000
  .simp[h1,h2,hS,w1,dh,c1,c2,bG.ok]
  cases c3:bA w.m 0 1000000
  .simp[h1,h2,hS,w1,dh,c1,c2,c3,bG.ok]
  simp[h1,h2,hS,w1,dh,c1,c2,c3];refine WL.to (RI (w:=w) (by omega) h1 i 0 (by omega)) (by simp) rfl ?_;rintro x e J' ⟨rfl,h⟩;simp only[aE]at h;cases hc:((b.av.take i).map bG.b).contains w.b
  .rw[hc]at h;simp at h;obtain⟨rfl,g1,g3⟩:=h;simp[g1,g3,h4];have hc':¬w.b∈List.take i (List.map bG.b b.av):=by simpa using hc
   refine WL.to ih (by simp) rfl λx e J' hh=>?_
   simpa[bG.ok,c1,c2,c3,hc']using hh
  .rw[hc]at h;simp at h;have hc':w.b∈List.take i (List.map bG.b b.av):=by simpa using hc
   simp[h,bG.ok,hc']
theorem Rq{b:bU}(ht:b.dL.length<=9223372036854775807)(hw:b.av.length<=9223372036854775807){wq:D}(hwq:wq.pY=lF b.av bG.enc):Cl vi [.agg [iI b.f.x,iI b.f.y,iI b.f.z,iI b.f.k,lF b.dL Rw.enc,iI b.cz,iI b.lift,iI b.deep,wq]] (.bool b.valid) J:=by
 refine au rfl rfl rfl ?_;have hT:=λJ=>NL (J:=J) ht
 have hF:=λJ=>NG (J:=J) (f:=b.f)
 unfold bU.valid bU.ok1;cases c1:b.f.valid
 .simp[hwq,hF,c1]
 by_cases c2:4<=b.f.k
 rotate_left
 .simp[hwq,hF,c1,c2,show b.f.k<4 by omega]
 have c2':¬b.f.k<4:=by omega
 cases c3:fO b.dL
 .simp[hwq,hF,hT,c1,c2,c2',c3]
 cases c4:bA b.cz 1 100000
 .simp[hwq,hF,hT,dh,c1,c2,c2',c3,c4]
 cases c5:bA b.lift 0 1000
 .simp[hwq,hF,hT,dh,c1,c2,c2',c3,c4,c5]
 cases c6:bA b.deep 0 3000
 .simp[hwq,hF,hT,dh,c1,c2,c2',c3,c4,c5,c6]
 by_cases c7:b.av.length<=8
 rotate_left
 .simp[hwq,hF,hT,dh,c1,c2,c2',c3,c4,c5,c6,c7,show(8:Int)<b.av.length by omega]
 simp[hwq,hF,hT,dh,c1,c2',c3,c4,c5,c6,show ¬(8:Int)<b.av.length by omega];refine WL.to (N7 (J:=[]::J) c1 c7 b.av.length 0 (by omega)) (by simp) (by simp) ?_;rintro x e J' ⟨rfl,h⟩;simp only[aE,List.take_zero,bW]at h;cases hc:nT b.size [] b.av
 .simp[hc]at h;simp[h,c2,c7]
 .simp[hc]at h;simp[h,c2,c7]
theorem abE{b:bU}(ht:b.dL.length<=9223372036854775807)(hw:b.av.length<=9223372036854775807):Cl vi [.agg (bL b)] (.bool b.valid) J:=Rq ht hw V2
theorem Sy{l:List bV}{j:Nat}{m:bV}(h:l[j]?=some m):((fM l bV.enc).drop (j*2)).take 2=(mL m) :=
 bu (f:=bV.enc) (w:=2) (λ_=>rfl) h
theorem rh{b:bU}{m:bV}(h:Mv b m){k i:Nat}(hk:k<4)(hi:i<b.n):Cl Aw [.agg (bL b),.agg (mL m),iI k,iI i] (iI (jE b m k i)) J:=by
 refine au rfl rfl rfl ?_;have hS:=λJ=>oX (J:=J) h.bv.fv
 have hsz:b.f.size=(b.n:Int):=h.bv.sz;rw[hsz]at hS;have hn:=h.bv.n;obtain⟨g1,g2⟩:=h.le;have hkn:k*b.n<=3*b.n:=cU _ (by omega);have hlt:k*b.n+i<m.dn.length:=by omega
 have w1:=cf (n:=(k:Int)*(b.n:Int)) (by rw[<- Int.natCast_mul];omega);have w2:=cf (n:=(k:Int)*(b.n:Int)+i) (by rw[<- Int.natCast_mul];omega);obtain⟨c,hc⟩:∃c,m.dn[k*b.n+i]?=some c:=⟨_,aI hlt⟩;have e1:jE b m k i=c:=by simp[jE,hc]
 have h2:=gr hc;have e2:(k:Int)*(b.n:Int)+(i:Int)=((k*b.n+i:Nat):Int):=by push_cast;rfl
 have⟨h3,h4⟩:((k*b.n+i:Nat):Int)<(m.dn.length:Int)/\(0:Int)<=((k*b.n+i:Nat):Int):=by omega
 rw[e2]at w2;rw[e1];generalize k*b.n+i=j at *
 simp[hS,w1,e2,w2,hlt,h2]
def Sh(b:bU)(m:bV)(i:Nat):Bool:=bA (jE b m 0 i) 1000 100000 && (bA (jE b m 1 i) 0 1000 && (bA (jE b m 2 i) 0 3000 && bA (jE b m 3 i) 0 1000))
def Gl(b:bU)(m:bV)(i:Nat):Nat->Bool
 |0=>true
 |k+1=>Sh b m i && Gl b m (i+1) k
theorem Ly{b:bU}{m:bV}:∀{k i:Nat},Gl b m i k=true↔∀j,i<=j->j<i+k->Sh b m j=true
 |0,i=>by simp[Gl];omega
 |k+1,i=>by
  rw[Gl,af,Ly];constructor
  .intro⟨h1,h2⟩ j h3 h4;by_cases hj:j=i
   .subst hj;exact h1
   .exact h2 j (by omega) (by omega)
  .intro h;exact⟨h i (by omega) (by omega),λj h3 h4=>h j (by omega) (by omega)⟩
theorem MC{b:bU}{m:bV}(h:Bv b):fW b.f [m]=0↔b.f.model m=0:=by
 simp only[fW,h.fv,if_true,dw.ah,dw.each];have h1:bA (([m]:List bV).length:Nat) 1 40=true:=by simp[bA]
 rw[if_pos h1];by_cases hc:b.f.model m=0
 .simp[hc]
 .simp[hc]
theorem ML{b:bU}{m:bV}(h:Bv b):fits b m=(decide (b.f.model m=0) && Gl b m 0 b.n):=by
 by_cases hc:b.f.model m=0
 .have hm:=Mv.of h ((MC h).2 hc);have hcm:=(MC h).2 hc;have key:∀{k:Nat} {lo hi:Int},k<4->(da (vV b m k) (λn=>bA n lo hi)=true↔∀i,i<b.n->bA (jE b m k i) lo hi=true):=by
   intro k lo hi hk;rw[eO];constructor
   .intro ha i hi';exact ha _ (aj (yF hm hk hi'))
   .intro ha x hx;obtain⟨i,hi'⟩:=fV hx;have hlt:i<b.n:=by have:=(aA.1 hi').1;rwa[LJ hm hk]at this
    rw[yF hm hk hlt]at hi';cases hi';exact ha i hlt
  rw[Bool.eq_iff_iff];simp only[fits,hcm,hc,decide_true,Bool.true_and,af,Ly,Sh];rw[key (by decide),key (by decide),key (by decide),key (by decide)];constructor
  .intro⟨h1,h2,h3,h4⟩ j _ hj;exact⟨h1 j (by omega),h2 j (by omega),h3 j (by omega),h4 j (by omega)⟩
  .intro hh;exact⟨λi hi=>(hh i (by omega) (by omega)).1,λi hi=>(hh i (by omega) (by omega)).2.1,λi hi=>(hh i (by omega) (by omega)).2.2.1,λi hi=>(hh i (by omega) (by omega)).2.2.2⟩
 .have hcm:¬fW b.f [m]=0:=λhh=>hc ((MC h).1 hh)
  simp[fits,hc,hcm]
theorem RD{b:bU}{m:bV}(h:Mv b m):∀(k i:Nat),i+k=b.n ->
  WL T [2,3,5] false n8 [(2,.bf (bL b)),(3,.bf (mL m)),(5,iI i)] J
   (λx e J'=>J'=J/\if Gl b m i k then x=.exit 0 else x=.ret/\get e 4=.bool false)
 |0,i,hi=>by
  refine aB n8.eq_1 ?_;have hS:=λJ=>oX (J:=J) h.bv.fv
  have hsz:b.f.size=(b.n:Int):=h.bv.sz;rw[hsz]at hS;have h1:¬i<b.n:=by omega
  simp[hS,h1,Gl]
 |k+1,i,hi=>by
  refine aB n8.eq_1 ?_;have hS:=λJ=>oX (J:=J) h.bv.fv
  have hsz:b.f.size=(b.n:Int):=h.bv.sz;rw[hsz]at hS;have hn:=h.bv.n;have h1:i<b.n:=by omega
  have h4:=cr h1 (by omega);have v0:=λJ=>rh (J:=J) h (k:=0) (i:=i) (by decide) h1
  have v1:=λJ=>rh (J:=J) h (k:=1) (i:=i) (by decide) h1
  have v2:=λJ=>rh (J:=J) h (k:=2) (i:=i) (by decide) h1
  have v3:=λJ=>rh (J:=J) h (k:=3) (i:=i) (by decide) h1
  simp only[show((0:Nat):Int)=0 from rfl,show((1:Nat):Int)=1 from rfl,show((2:Nat):Int)=2 from rfl,show((3:Nat):Int)=3 from rfl]at v0 v1 v2 v3;have ih:=RD h k (i+1) (by omega);rw[Gl,Sh];cases c0:bA (jE b m 0 i) 1000 100000
  .simp[hS,h1,v0,dh,c0]
  cases c1:bA (jE b m 1 i) 0 1000
  .simp[hS,h1,v0,v1,dh,c0,c1]
  cases c2:bA (jE b m 2 i) 0 3000
  .simp[hS,h1,v0,v1,v2,dh,c0,c1,c2]
  cases c3:bA (jE b m 3 i) 0 1000
  .simp[hS,h1,v0,v1,v2,v3,dh,c0,c1,c2,c3]
  simp[hS,h1,h4,v0,v1,v2,v3,dh,c0,c1,c2,c3];exact WL.to ih (by simp) rfl λx e J' hh=>by simpa using hh
theorem US{b:bU}{m:bV}(h:Bv b)(hn:m.name.length<=9223372036854775807)(hl:m.dn.length<=9223372036854775807){wq:D}(hwq:wq.pY=lF b.av bG.enc):Cl B7 [.agg [iI b.f.x,iI b.f.y,iI b.f.z,iI b.f.k,lF b.dL Rw.enc,iI b.cz,iI b.lift,iI b.deep,wq],.agg (mL m)] (.bool (fits b m)) J:=by
 refine au rfl rfl rfl ?_;have hM:=λJ=>UX (J:=J) (m:=m) h.fv hn hl
 rw[ML h];by_cases hc:b.f.model m=0
 .have hm:=Mv.of h ((MC h).2 hc);simp[hwq,hM,hc];refine WL.to (RD (J:=[]::J) hm b.n 0 (by omega)) (by simp) (by simp) ?_;rintro x e J' ⟨rfl,hh⟩;cases hf:Gl b m 0 b.n
  .simp[hf]at hh;simp[hh,hc]
  .simp[hf]at hh;simp[hh,hc]
 .simp[hwq,hM,hc]
def WZ(b:bU)(l:List bV):Int:=if bA l.length 1 40 then(if b.f.ah l=0 then(if da l (fits b)then 0 else 1)else 1)else 3
def abr(b:bU)(l:List bV)(az:List (List Int)):Bool:=b.valid && (decide (l.length<=4) && (decide (WZ b l=0) && (decide (az.length<=6) && decide (sJ b az=0))))
end Go.Proofs.YtpapbbojmclkgaaGreatDoor
namespace Go.Rock
open Go Go.Abs
abbrev Mv:=Nat×aD×Int
def mv(s:List aD)(e:Mv):List aD:=cj s e.1 e.2.1 e.2.2
theorem vX{s:List aD}{i j:Nat}{o p:aD}{a c:Int}:cj (cj s i o a) j p c=cj (cj s j p c) i o a:=by
 by_cases hij:i=j
 .subst hij;by_cases hi:i<s.length
  .simp only[cj,aP,List.getElem?_set_self hi,eT,List.set_set,aD.move];congr 2<;>omega
  .simp only[cj,List.set_eq_of_length_le (show s.length<=i by omega)]
 .have hji:¬j=i:=λh=>hij h.symm
  simp only[cj,aP,List.getElem?_set_ne hij,List.getElem?_set_ne hji];rw[List.set_comm _ _ hij]
theorem ZQ{l l':List Mv}(h:l.Perm l')(s:List aD):l.foldl mv s=l'.foldl mv s:=h.foldl_eq' (λx _ y _ z=>vX) s
theorem DI{s:List aD}{i:Nat}{sign:Int}:cj s i ⟨0,0,0⟩ sign=s:=by
 unfold cj;by_cases hi:i<s.length
 .apply List.ext_getElem
  .simp
  .intro k h1 h2;rw[List.getElem_set];split
   .rename_i h;subst h;simp[aD.move,aP,hi]
   .rfl
 .rw[List.set_eq_of_length_le (by omega)]
theorem KP{s:List aD}{e f:(Nat×Nat)×aD}:ct (ct s e) f=ct (ct s f) e:=by
 unfold ct;rw[vX (i:=e.1.2) (j:=f.1.1),vX (i:=e.1.1) (j:=f.1.1),vX (i:=e.1.2) (j:=f.1.2),vX (i:=e.1.1) (j:=f.1.2)]
def fl2(e:(Nat×Nat)×aD):List Mv:=[(e.1.1,e.2,-1),(e.1.2,e.2,1)]
theorem OK:∀(es:List ((Nat×Nat)×aD)) (s:List aD),(fM es fl2).foldl mv s=es.foldl ct s
 |[],s=>rfl
 |e::es,s=>by rw[eg,List.foldl_append,OK es];rfl
theorem Lq{α β:Type}{a:α->β}{f:α->List β}:∀l:List α,(fM l λi=>a i::f i).Perm (l.map a++fM l f)
 |[] => .nil
 |x::l=>by
  simp only[eg,aN,cm];refine List.Perm.cons _ ?_;have h:=Lq (a:=a) (f:=f) l;refine(h.append_left (f x)).trans ?_;rw[<- dS,<- dS];exact List.perm_append_comm.append_right _
def px(X i:Nat):Int:=((i%X:Nat):Int)
def py(X Y i:Nat):Int:=((i / X%Y:Nat):Int)
def pz(X Y i:Nat):Int:=((i / X / Y:Nat):Int)
def KV(X Y i k:Nat):Bool:=decide ((px X i-px X k)*(px X i-px X k)+(py X Y i-py X Y k)*(py X Y i-py X Y k)+(pz X Y i-pz X Y k)*(pz X Y i-pz X Y k)=1)
def GB(b:bU)(i k:Nat):Bool:=KV b.f.x.toNat b.f.y.toNat i k
theorem sq_pos(u:Int):u=0\/1<=u*u:=by
 rcases Int.lt_trichotomy u 0 with h | h | h
 .right
  have:=Int.mul_pos_of_neg_of_neg h h;omega
 .exact .inl h
 .right
  have:=Int.mul_pos h h;omega
theorem Q9{u:Int}(h:u*u=1):u=1\/u = -1:=by
 rcases Int.lt_trichotomy u 0 with h1 | h1 | h1
 .by_cases h2:u = -1
  .exact .inr h2
  .have h3:0<(-1-u):=by omega
   have h4:=Int.mul_pos h3 (show 0<1-u by omega);have h5:(-1-u)*(1-u)=u*u-1:=by
    rw[Int.sub_mul,Int.mul_sub,Int.mul_sub];omega
   omega
 .rw[h1]at h;simp at h
 .by_cases h2:u=1
  .exact .inl h2
  .have h3:0<u-1:=by omega
   have h4:=Int.mul_pos h3 (show 0<u+1 by omega);have h5:(u-1)*(u+1)=u*u-1:=by
    rw[Int.sub_mul,Int.mul_add];omega
   omega
theorem aay{u v w:Int}(h:u*u+v*v+w*w=1):((u=1\/u = -1)/\v=0/\w=0)\/(u=0/\(v=1\/v = -1)/\w=0)\/(u=0/\v=0/\(w=1\/w = -1)):=by
 rcases sq_pos u with hu | hu<;>rcases sq_pos v with hv | hv<;>rcases sq_pos w with hw | hw
 .subst hu hv hw;simp at h
 .subst hu hv;refine .inr (.inr ⟨rfl,rfl,Q9 (by simpa using h)⟩)
 .subst hu hw;refine .inr (.inl ⟨rfl,Q9 (by simpa using h),rfl⟩)
 .subst hu;omega
 .subst hv hw;refine .inl ⟨Q9 (by simpa using h),rfl,rfl⟩
 .subst hv;omega
 .subst hw;omega
 .omega
theorem ac8{X Y i k:Nat}(h1:k%X=i%X+1)(h2:i / X%Y=k / X%Y)(h3:i / X / Y=k / X / Y):k=i+1/\(i+1)%X≠0:=by
 have a1:=Nat.div_add_mod i X;have a2:=Nat.div_add_mod k X;have b1:=Nat.div_add_mod (i / X) Y;have b2:=Nat.div_add_mod (k / X) Y;rw[<- h2,<- h3]at b2;have h4:k / X=i / X:=by omega
 rw[h4]at a2;have h5:k=i+1:=by omega
 exact⟨h5,by rw[<- h5,h1];omega⟩
theorem ac9{X Y i k:Nat}(hY:1<=Y)(h1:i%X=k%X)(h2:k / X%Y=i / X%Y+1)(h3:i / X / Y=k / X / Y):k=i+X/\i / X%Y≠Y-1:=by
 have a1:=Nat.div_add_mod i X;have a2:=Nat.div_add_mod k X;have b1:=Nat.div_add_mod (i / X) Y;have b2:=Nat.div_add_mod (k / X) Y;have b3:=Nat.mod_lt (k / X) hY;rw[<- h3]at b2;have h4:k / X=i / X+1:=by omega
 rw[h4,Nat.mul_add,cp]at a2;exact⟨by omega,by omega⟩
theorem ada{X Y i k:Nat}(h1:i%X=k%X)(h2:i / X%Y=k / X%Y)(h3:k / X / Y=i / X / Y+1):k=i+X*Y:=by
 have a1:=Nat.div_add_mod i X;have a2:=Nat.div_add_mod k X;have b1:=Nat.div_add_mod (i / X) Y;have b2:=Nat.div_add_mod (k / X) Y;rw[h3,Nat.mul_add,cp]at b2;have h4:k / X=i / X+Y:=by omega
 rw[h4,Nat.mul_add]at a2;omega
theorem LX{X i:Nat}(hX:1<=X)(h:(i+1)%X≠0):(i+1) / X=i / X/\(i+1)%X=i%X+1:=by
 have h1:=Nat.div_add_mod i X;have h2:=Nat.mod_lt i hX;have h3:i%X+1<X:=by
  rcases Nat.lt_or_ge (i%X+1) X with h4 | h4
  .exact h4
  .exfalso;apply h
   have:i+1=X*(i / X)+X:=by omega
   rw[this];simp
 have h5:i+1=X*(i / X)+(i%X+1):=by omega
 constructor
 .rw[h5,Nat.mul_add_div (by omega),Nat.div_eq_of_lt h3];omega
 .rw[h5,Nat.mul_add_mod,Nat.mod_eq_of_lt h3]
theorem WU{X Y i k:Nat}:KV X Y i k=KV X Y k i:=by
 unfold KV;have sq:∀a c:Int,(a-c)*(a-c)=(c-a)*(c-a):=λa c=>by
  rw[show c-a = -(a-c)by omega,Int.neg_mul_neg]
 rw[sq (px X i),sq (py X Y i),sq (pz X Y i)]
theorem WT{b:bU}(hx:1<=b.f.x.toNat)(hy:1<=b.f.y.toNat){l:Nat×Nat}(hl:l∈yG b):GB b l.1 l.2=true:=by
 simp only[yG,Ho,vl,aX]at hl;unfold GB;obtain⟨i,_,hl⟩:=hl;generalize b.f.x.toNat=X at *
 generalize b.f.y.toNat=Y at *
 rcases hl with hl | hl | hl
 .split at hl
  .rename_i hc;simp only[List.mem_singleton]at hl;obtain⟨h1,h2⟩:=LX hx hc;rw[hl];simp only[KV,px,py,pz,h1,h2,aw];rw[show((i%X:Nat):Int)-((i%X+1:Nat):Int) = -1 by omega,Int.sub_self,Int.sub_self];rfl
  .simp at hl
 .split at hl
  .rename_i hc;simp only[List.mem_singleton]at hl;have h3:(i+X) / X=i / X+1:=Nat.add_div_right i hx;have h4:(i+X)%X=i%X:=Nat.add_mod_right i X;have h5:(i / X+1)%Y≠0:=by
    intro h0;apply hc;have h6:=Nat.div_add_mod (i / X) Y;have h7:=Nat.mod_lt (i / X) hy;have h8:i / X+1=Y*(i / X / Y)+(i / X%Y+1):=by omega
    rcases Nat.lt_or_ge (i / X%Y+1) Y with h9 | h9
    .rw[h8,Nat.mul_add_mod,Nat.mod_eq_of_lt h9]at h0;omega
    .omega
   obtain⟨h1,h2⟩:=LX hy h5;rw[hl];simp only[KV,px,py,pz,h3,h4,h1,h2,aw];rw[show((i / X%Y:Nat):Int)-((i / X%Y+1:Nat):Int) = -1 by omega,Int.sub_self,Int.sub_self];rfl
  .simp at hl
 .split at hl
  .simp only[List.mem_singleton]at hl;have h3:(i+X*Y) / X=i / X+Y:=Nat.add_mul_div_left i Y hx;have h4:(i+X*Y)%X=i%X:=Nat.add_mul_mod_self_left i X Y;have h5:(i / X+Y) / Y=i / X / Y+1:=Nat.add_div_right _ hy;have h6:(i / X+Y)%Y=i / X%Y:=Nat.add_mod_right _ Y;rw[hl];simp only[KV,px,py,pz,h3,h4,h5,h6,aw];rw[show((i / X / Y:Nat):Int)-((i / X / Y+1:Nat):Int) = -1 by omega,Int.sub_self,Int.sub_self];rfl
  .simp at hl
theorem adk{b:bU}(hx:1<=b.f.x.toNat)(hy:1<=b.f.y.toNat){i k:Nat}(hi:i<b.n)(hk:k<b.n)(h:GB b i k=true):(i,k)∈yG b\/(k,i)∈yG b:=by
 have one:∀i k:Nat,i<b.n->k<b.n->(k%b.f.x.toNat=i%b.f.x.toNat+1/\i / b.f.x.toNat%b.f.y.toNat=k / b.f.x.toNat%b.f.y.toNat/\i / b.f.x.toNat / b.f.y.toNat=k / b.f.x.toNat / b.f.y.toNat \/
   i%b.f.x.toNat=k%b.f.x.toNat/\k / b.f.x.toNat%b.f.y.toNat=i / b.f.x.toNat%b.f.y.toNat+1/\i / b.f.x.toNat / b.f.y.toNat=k / b.f.x.toNat / b.f.y.toNat \/
   i%b.f.x.toNat=k%b.f.x.toNat/\i / b.f.x.toNat%b.f.y.toNat=k / b.f.x.toNat%b.f.y.toNat/\k / b.f.x.toNat / b.f.y.toNat=i / b.f.x.toNat / b.f.y.toNat+1)->(i,k)∈yG b:=by
  intro i k hi hk hc;refine Ho.2 ⟨i,List.mem_range.2 hi,?_⟩;unfold vl;simp only[aX];rcases hc with⟨a1,a2,a3⟩ | ⟨a1,a2,a3⟩ | ⟨a1,a2,a3⟩
  .obtain⟨e,hn⟩:=ac8 a1 a2 a3;left;rw[if_pos hn,e];simp
  .obtain⟨e,hn⟩:=ac9 hy a1 a2 a3;right;left;rw[if_pos hn,e];simp
  .have e:=ada a1 a2 a3;right;right;rw[if_pos (by omega),e];simp
 simp only[GB,KV,aw]at h;simp only[px,py,pz]at h;rcases aay h with⟨h1,h2,h3⟩ | ⟨h1,h2,h3⟩ | ⟨h1,h2,h3⟩
 .rcases h1 with h1 | h1
  .exact .inr (one k i hk hi (.inl ⟨by omega,by omega,by omega⟩))
  .exact .inl (one i k hi hk (.inl ⟨by omega,by omega,by omega⟩))
 .rcases h2 with h2 | h2
  .exact .inr (one k i hk hi (.inr (.inl ⟨by omega,by omega,by omega⟩)))
  .exact .inl (one i k hi hk (.inr (.inl ⟨by omega,by omega,by omega⟩)))
 .rcases h3 with h3 | h3
  .exact .inr (one k i hk hi (.inr (.inr ⟨by omega,by omega,by omega⟩)))
  .exact .inl (one i k hi hk (.inr (.inr ⟨by omega,by omega,by omega⟩)))
def pd(b:bU)(p:List Int)(l:Nat×Nat):Int:=(p[l.1]?).getD 0-weight b l.1-(p[l.2]?).getD 0+weight b l.2
def rq(b:bU)(m:bV)(s:List aD)(p:List Int)(l:Nat×Nat):Int:=min ((aP s l.1).m.tdiv 8) ((min (zb b m l.1) (zb b m l.2)*pd b p l).tdiv 1000)
def rE(b:bU)(m:bV)(s:List aD)(p:List Int)(l:Nat×Nat):(Nat×Nat)×aD:=(l,(aP s l.1).out (rq b m s p l))
theorem ame{b:bU}{p:List Int}{l:Nat×Nat}:pd b p (l.2,l.1) = -pd b p l:=by simp only[pd];omega
theorem TY{b:bU}{m:bV}{s:List aD}{p:List Int}{l:Nat×Nat}{e:(Nat×Nat)×aD}(h:BU b m s p l=some e):(e.1=l\/e.1=(l.2,l.1))/\0<pd b p e.1/\0<rq b m s p e.1/\e=rE b m s p e.1:=by
 unfold BU at h;have hd:(p[l.1]?).getD 0-weight b l.1-(p[l.2]?).getD 0+weight b l.2=pd b p l:=rfl;simp only[hd]at h;by_cases hn:pd b p l<0
 .simp only[hn,if_true]at h;split at h
  .rename_i hq;simp only[ae]at h;have hs:=ame (b:=b) (p:=p) (l:=l);have hq':0<rq b m s p (l.2,l.1):=by
    unfold rq;rw[hs,Int.min_comm];exact hq
   subst h;refine⟨.inr rfl,by simp only[hs];omega,hq',?_⟩;unfold rE rq;rw[hs,Int.min_comm]
  .cases h
 .simp only[hn,if_false]at h;split at h
  .rename_i hq;simp only[ae]at h;have hq':0<rq b m s p l:=by unfold rq;rw[Int.min_comm];exact hq
   have h0:pd b p l≠0:=by
    intro h0;rw[h0,Int.mul_zero]at hq;simp only[Int.zero_tdiv]at hq;omega
   subst h;refine⟨.inl rfl,by simp only;omega,hq',?_⟩;unfold rE rq;rw[Int.min_comm]
  .cases h
theorem He{b:bU}{m:bV}{s:List aD}{p:List Int}{l k:Nat×Nat}(hk:k=l\/k=(l.2,l.1))(h1:0<pd b p k)(h2:0<rq b m s p k):BU b m s p l=some (rE b m s p k):=by
 unfold BU;have hd:(p[l.1]?).getD 0-weight b l.1-(p[l.2]?).getD 0+weight b l.2=pd b p l:=rfl;simp only[hd];rcases hk with rfl | rfl
 .have hn:¬pd b p k<0:=by omega
  simp only[hn,if_false];unfold rq at h2;rw[Int.min_comm]at h2;rw[if_pos h2];unfold rE rq;rw[Int.min_comm]
 .have hs:=ame (b:=b) (p:=p) (l:=l);rw[hs]at h1;have hn:pd b p l<0:=by omega
  simp only[hn,if_true];unfold rq at h2;rw[hs,Int.min_comm]at h2;rw[if_pos h2];unfold rE rq;rw[hs,Int.min_comm]
structure Ld(b:bU)(m:bV)(s:List aD)(p:List Int)(es:List ((Nat×Nat)×aD))(done:List (Nat×Nat)):Prop where
 nd:(es.map (·.1)).Nodup
 is:∀e∈es,e=rE b m s p e.1/\0<pd b p e.1/\0<rq b m s p e.1/\(e.1∈done\/(e.1.2,e.1.1)∈done)
 all:∀l∈done,∀k:Nat×Nat,(k=l\/k=(l.2,l.1))->0<pd b p k->0<rq b m s p k->rE b m s p k∈es
theorem Ld.step{b:bU}{m:bV}{s:List aD}{p:List Int}{es:List ((Nat×Nat)×aD)}{done:List (Nat×Nat)}(h:Ld b m s p es done)(l:Nat×Nat):Ld b m s p (kF b m s p es l) (done++[l]):=by
 unfold kF;cases hf:BU b m s p l with
 |none =>
  refine⟨h.nd,λe he=>?_,λx hx k hk h1 h2=>?_⟩
  .obtain⟨a1,a2,a3,a4⟩:=h.is e he;exact⟨a1,a2,a3,a4.imp (λy=>by simp[y]) (λy=>by simp[y])⟩
  .rcases aX.1 hx with hx | hx
   .exact h.all x hx k hk h1 h2
   .rw[List.mem_singleton.1 hx]at hk;rw[He hk h1 h2]at hf;cases hf
 |some e =>
  obtain⟨b1,b2,b3,b4⟩:=TY hf;simp only;unfold QW;cases hi:es.findIdx? (λx=>x.1 == e.1)with
  |some j =>
   obtain⟨hj,hj1,_⟩:=List.findIdx?_eq_some_iff_getElem.1 hi;have hje:es[j]=e:=by
    obtain⟨a1,_⟩:=h.is es[j] (List.getElem_mem hj);have:es[j].1=e.1:=by simpa using hj1
    rw[a1,this,<- b4]
   have hset:es.set j (e.1,e.2)=es:=by
    rw[show((e.1,e.2):(Nat×Nat)×aD)=e from rfl,<- hje];exact List.set_getElem_self hj
   simp only[hset];refine⟨h.nd,λx hx=>?_,λx hx k hk h1 h2=>?_⟩
   .obtain⟨a1,a2,a3,a4⟩:=h.is x hx;exact⟨a1,a2,a3,a4.imp (λy=>by simp[y]) (λy=>by simp[y])⟩
   .rcases aX.1 hx with hx | hx
    .exact h.all x hx k hk h1 h2
    .rw[List.mem_singleton.1 hx]at hk;have h3:=He hk h1 h2;rw[hf]at h3;rw[<- Option.some.inj h3,<- hje];exact List.getElem_mem hj
  |none =>
   have hno:=List.findIdx?_eq_none_iff.1 hi;refine⟨?_,λx hx=>?_,λx hx k hk h1 h2=>?_⟩
   .rw[List.map_append,List.nodup_append];refine⟨h.nd,by simp,?_⟩;intro a ha c hc;obtain⟨y,hy,rfl⟩:=bJ.1 ha;simp only[aN,bW,List.mem_singleton]at hc;subst hc;have:=hno y hy;simpa using this
   .rcases aX.1 hx with hx | hx
    .obtain⟨a1,a2,a3,a4⟩:=h.is x hx;exact⟨a1,a2,a3,a4.imp (λy=>by simp[y]) (λy=>by simp[y])⟩
    .rw[List.mem_singleton.1 hx];refine⟨b4,b2,b3,?_⟩;rcases b1 with b1 | b1
     .left;rw[b1];simp
     .right;rw[b1];simp
   .rcases aX.1 hx with hx | hx
    .exact List.mem_append_left _ (h.all x hx k hk h1 h2)
    .rw[List.mem_singleton.1 hx]at hk;have h3:=He hk h1 h2;rw[hf]at h3;rw[<- Option.some.inj h3];exact List.mem_append_right _ (by simp)
theorem T0{b:bU}{m:bV}{s:List aD}:Ld b m s (ba b m s) (sH b m s) (yG b):=by
 have key:∀(ls done:List (Nat×Nat)) (es:List ((Nat×Nat)×aD)),Ld b m s (ba b m s) es done->Ld b m s (ba b m s) (ls.foldl (kF b m s (ba b m s)) es) (done++ls):=by
  intro ls;induction ls with
  |nil=>intro done es h;simpa using h
  |cons l ls ih =>
   intro done es h;have:=ih _ _ (h.step l);simpa using this
 have:=key (yG b) [] [] ⟨List.nodup_nil,by simp,by simp⟩;simpa[sH]using this
def prs(n:Nat):List (Nat×Nat):=fM (List.range n) λi=>(List.range n).map λk=>(i,k)
theorem SN{n:Nat}{l:Nat×Nat}:l∈prs n↔l.1<n/\l.2<n:=by
 simp only[prs,Ho,List.mem_range,bJ];constructor
 .rintro⟨i,hi,k,hk,rfl⟩;exact⟨hi,hk⟩
 .intro h;exact⟨l.1,h.1,l.2,h.2,rfl⟩
theorem Ur(n:Nat):(prs n).Nodup:=by
 unfold prs;rw[List.Nodup,Pj];refine⟨λi _=>?_,?_⟩
 .rw[List.pairwise_map];exact List.Pairwise.imp (λh he=>h (by simpa using he)) List.nodup_range
 .refine List.Pairwise.imp (λ{a c} h x hx y hy he=>?_) (List.nodup_range (n:=n));simp only[bJ]at hx hy;obtain⟨k,_,rfl⟩:=hx;obtain⟨k',_,rfl⟩:=hy;simp only[ar]at he;exact h he.1
def aab(b:bU)(m:bV)(s:List aD):List ((Nat×Nat)×aD):=((prs b.n).filter λl=>GB b l.1 l.2 && decide (0<pd b (ba b m s) l)).map (rE b m s (ba b m s))
theorem drop_zero{b:bU}{m:bV}{s:List aD}{p:List Int}:∀(l:List (Nat×Nat)) (t:List aD),(∀k∈l,¬0<rq b m s p k->rq b m s p k=0)->(l.map (rE b m s p)).foldl ct t=((l.filter λk=>decide (0<rq b m s p k)).map (rE b m s p)).foldl ct t
 |[],t,_=>rfl
 |k::l,t,h=>by
  have ih:=λt=>drop_zero l t (λx hx=>h x (List.mem_cons_of_mem _ hx))
  by_cases hk:0<rq b m s p k
  .rw[List.filter_cons_of_pos (by simpa using hk),aN,aN,List.foldl_cons,List.foldl_cons,ih]
  .have h0:=h k (List.mem_cons_self ..) hk;rw[List.filter_cons_of_neg (by simpa using hk),aN,List.foldl_cons,ih];have hz:(rE b m s p k).2=⟨0,0,0⟩:=by simp[rE,h0,aD.out]
   unfold ct;rw[hz,DI,DI]
theorem QA{b:bU}{m:bV}{s:List aD}(hx:1<=b.f.x.toNat)(hy:1<=b.f.y.toNat)(hin:∀l∈yG b,l.1<b.n/\l.2<b.n)(hm:∀i,0<=(aP s i).m)(ho:∀i,i<b.n->0<=zb b m i)(t:List aD):(aab b m s).foldl ct t=(sH b m s).foldl ct t:=by
 have hF:=T0 (b:=b) (m:=m) (s:=s);unfold aab;rw[drop_zero _ t (λk hk hq=>?_)]
 .refine List.Perm.foldl_eq' ?_ (λx _ y _ z=>KP) t;refine(List.perm_ext_iff_of_nodup ?_ ?_).2 ?_
  .rw[List.Nodup,List.pairwise_map];refine List.Pairwise.imp (λh he=>h ?_) ((Ur b.n).filter _ |>.filter _);exact(congrArg Prod.fst he:_)
  .have:=hF.nd;rw[List.Nodup,List.pairwise_map]at this;exact this.imp λh he=>h (by rw[he])
  .intro x;simp only[bJ,cM,af,aw,SN];constructor
   .rintro⟨k,⟨⟨⟨k1,k2⟩,k3,k4⟩,k5⟩,rfl⟩;rcases adk hx hy k1 k2 k3 with hl | hl
    .exact hF.all _ hl k (.inl rfl) k4 k5
    .exact hF.all _ hl k (.inr rfl) k4 k5
   .intro hxm;obtain⟨a1,a2,a3,a4⟩:=hF.is x hxm;refine⟨x.1,⟨⟨?_,?_,a2⟩,a3⟩,a1.symm⟩
    .rcases a4 with a4 | a4
     .exact hin _ a4
     .have:=hin _ a4;exact⟨this.2,this.1⟩
    .rcases a4 with a4 | a4
     .exact WT hx hy a4
     .unfold GB;rw[WU];exact WT hx hy a4
 .have hk':=cM.1 hk;simp only[af,aw]at hk';obtain⟨hkp,_,hpd⟩:=hk';obtain⟨k1,k2⟩:=SN.1 hkp;have h1:0<=(aP s k.1).m.tdiv 8:=Int.tdiv_nonneg (hm _) (by omega);have h2:0<=min (zb b m k.1) (zb b m k.2):=by have:=ho _ k1;have:=ho _ k2;omega
  have h3:0<=(min (zb b m k.1) (zb b m k.2)*pd b (ba b m s) k).tdiv 1000:=Int.tdiv_nonneg (bF h2 (by omega)) (by omega);unfold rq at hq ⊢;omega
def tU(b:bU)(m:bV)(s:List aD)(i:Nat)(next:List aD)(k:Nat):List aD:=if GB b i k=true/\0<pd b (ba b m s) (i,k)then ct next (rE b m s (ba b m s) (i,k))else next
def Nc(b:bU)(m:bV)(s next:List aD)(i:Nat):List aD:=(List.range b.n).foldl (tU b m s i) (cj next i (Ic b m i) 1)
def rL(s next:List aD)(w:bG)(r:Int):List aD:=if 0<r then cj next w.b.toNat ((aP s w.b.toNat).out (min r ((aP s w.b.toNat).m.tdiv 8))) (-1)else cj next w.b.toNat (w.given r) 1
def SQ(b:bU)(m:bV)(s:List aD)(aF:List Int):List aD:=(b.av.zip aF).foldl (λn wr=>rL s n wr.1 wr.2) ((List.range b.n).foldl (Nc b m s) s)
theorem QX{s next:List aD}{w:bG}{r:Int}(hm:∀i,0<=(aP s i).m):rL s next w r=l7 s next w r:=by
 unfold rL l7 ic;rcases Int.lt_trichotomy r 0 with h | h | h
 .rw[if_neg (by omega),if_pos h]
 .subst h;have h1:0<=(aP s w.b.toNat).m.tdiv 8:=Int.tdiv_nonneg (hm _) (by omega);have h2:min 0 ((aP s w.b.toNat).m.tdiv 8)=0:=by omega
  have h3:(aP s w.b.toNat).out 0=⟨0,0,0⟩:=by simp[aD.out]
  have h4:w.given 0=⟨0,0,0⟩:=by simp[bG.given]
  simp only[Int.lt_irrefl,if_false,h2,h3,h4,DI]
 .rw[if_pos h,if_neg (by omega),if_neg (by omega)]
def wmv(s:List aD)(wr:bG×Int):Mv:=if wr.2<0 then(wr.1.b.toNat,wr.1.given wr.2,1)else(wr.1.b.toNat,ic s wr.1 wr.2,-1)
theorem KH(s:List aD):∀(l:List (bG×Int)) (t:List aD),l.foldl (λn wr=>l7 s n wr.1 wr.2) t=(l.map (wmv s)).foldl mv t
 |[],t=>rfl
 |x::l,t=>by
  rw[List.foldl_cons,aN,List.foldl_cons,KH s l];congr 1;unfold l7 mv wmv;split<;>rfl
def fmv(b:bU)(m:bV)(i:Nat):Mv:=(i,Ic b m i,1)
def Xv(b:bU)(m:bV)(s:List aD)(i:Nat):List Mv:=fM ((List.range b.n).filter λk=>GB b i k && decide (0<pd b (ba b m s) (i,k))) λk=>fl2 (rE b m s (ba b m s) (i,k))
theorem Xx{b:bU}{m:bV}{s:List aD}{i:Nat}:∀(l:List Nat) (t:List aD),l.foldl (tU b m s i) t=(fM (l.filter λk=>GB b i k && decide (0<pd b (ba b m s) (i,k))) λk=>fl2 (rE b m s (ba b m s) (i,k))).foldl mv t
 |[],t=>rfl
 |k::l,t=>by
  rw[List.foldl_cons,Xx l];unfold tU;by_cases hc:GB b i k=true/\0<pd b (ba b m s) (i,k)
  .rw[if_pos hc,List.filter_cons_of_pos (by simpa using hc),eg,List.foldl_append];rfl
  .rw[if_neg hc,List.filter_cons_of_neg (by simpa using hc)]
theorem SU{b:bU}{m:bV}{s:List aD}:∀(l:List Nat) (t:List aD),l.foldl (Nc b m s) t=(fM l λi=>fmv b m i::Xv b m s i).foldl mv t
 |[],t=>rfl
 |i::l,t=>by
  rw[List.foldl_cons,SU l,eg,List.foldl_append,List.foldl_cons];congr 1;exact Xx _ _
theorem adN{b:bU}{m:bV}{s:List aD}:fM (aab b m s) fl2=fM (List.range b.n) (Xv b m s):=by
 unfold aab prs Xv;rw[Qy,TW,Wn];congr 1;funext i;rw[List.filter_map,Qy];rfl
theorem Xp{b:bU}{m:bV}{s:List aD}{aF:List Int}(hx:1<=b.f.x.toNat)(hy:1<=b.f.y.toNat)(hin:∀l∈yG b,l.1<b.n/\l.2<b.n)(hm:∀i,0<=(aP s i).m)(ho:∀i,i<b.n->0<=zb b m i)(hl:s.length=b.n):SQ b m s aF=mu b m s aF:=by
 unfold SQ mu;have e1:(λ(n:List aD) (wr:bG×Int)=>rL s n wr.1 wr.2)=λn wr=>l7 s n wr.1 wr.2:=by
  funext n wr;exact QX hm
 have e2:(λ(n:List aD) (i:Nat)=>cj n i (Ic b m i) 1)=λn i=>mv n (fmv b m i):=rfl
 rw[e1,SU,KH];simp only[KH,<- QA hx hy hin hm ho];have e3:∀X:List aD,(List.range b.n).foldl (λn i=>mv n (fmv b m i)) X=((List.range b.n).map (fmv b m)).foldl mv X:=λX=>by rw[List.foldl_map]
 rw[<- OK,adN,<- List.foldl_append,<- List.foldl_append,hl,e2,e3,<- List.foldl_append];refine ZQ ?_ s;refine((Lq _).append_right _).trans ?_;rw[dS];refine List.perm_append_comm.trans ?_;rfl
end Go.Rock
namespace Go.Proofs.YtpapbbojmclkgaaGreatDoor
open Go Go.Abs Go.Rock
variable {J:SK}
theorem Yh{n d:Int}(hn : -200000000000<=n/\n<=200000000000)(hd:1<=d/\d<=100000):Cl B6 [iI n,iI d] (iI (down n d)) J:=by
 refine au rfl rfl rfl ?_;have h1:=Int.mul_tdiv_add_tmod n d;have h2:=Int.tmod_lt_of_pos n (show 0<d by omega);have h3:=Int.lt_tmod_of_pos n (show 0<d by omega);have h5:0<=n->0<=n.tmod d:=λh=>Int.tmod_nonneg d h
 have h6:n<=0->n.tmod d<=0:=λh=>by
  have:=Int.tmod_nonneg d (show 0 <= -n by omega);rw[Int.neg_tmod]at this;omega
 unfold down;generalize hq:n.tdiv d=q at *
 generalize hrr:n.tmod d=r at *
 have h4:d*q=q*d:=Int.mul_comm _ _;have hb : -200000100001<=q/\q<=200000100001:=by
  rcases eS 0 q with h | h
  .have:=Int.mul_le_mul_of_nonneg_left hd.1 h;omega
  .have:=Int.mul_le_mul_of_nonpos_left h hd.1;omega
 have w1:=cf (n:=q) (by omega);have w2:=cf (n:=r) (by omega);have w3:=cf (n:=q-1) (by omega);have hne:¬d=0:=by omega
 have key:n / d=if r≠0/\n<0 then q-1 else q:=by
  split
  .rename_i hc;refine((Int.ediv_emod_unique (r:=r+d) (show 0<d by omega)).2 ⟨?_,?_,?_⟩).1
   .rw[Int.mul_sub];omega
   .omega
   .have:=h6 (by omega);omega
  .rename_i hc;refine((Int.ediv_emod_unique (r:=r) (show 0<d by omega)).2 ⟨?_,?_,?_⟩).1
   .omega
   .rcases eS 0 n with h | h
    .exact h5 h
    .have:=h6 h;omega
   .omega
 rw[key];by_cases hc:r=0
 .simp[hq,hrr,w1,hne,hc]
 .by_cases hc2:n<0<;>simp[hq,hrr,w1,w3,hne,hc,hc2]
def Gy(b:bU)(i:Nat):Int:=((i / (b.f.x.toNat*b.f.y.toNat):Nat):Int)
theorem I4{b:bU}(h:Bv b){i:Nat}(hi:i<b.n):Cl Aq [.agg (bL b),iI i] (iI (Gy b i)) J:=by
 refine au rfl rfl rfl ?_;have hx:=h.x;have hy:=h.y;have hn:=h.n;obtain⟨s1,_⟩:=dw.sz h.x h.y h.z;have w1:=cf (n:=b.f.x*b.f.y) (by omega);have e1:b.f.x*b.f.y=((b.f.x.toNat*b.f.y.toNat:Nat):Int):=by push_cast;rw[dK (by omega),dK (by omega)]
 have e2:(i:Int) / (b.f.x*b.f.y)=Gy b i:=by
  rw[e1];rfl
 have e3:(i:Int).tdiv (b.f.x*b.f.y)=Gy b i:=by
  rw[e1];rfl
 have hle:i / (b.f.x.toNat*b.f.y.toNat)<=i:=Nat.div_le_self _ _;have hq2:0<=Gy b i/\Gy b i<=64:=by
  have:i / (b.f.x.toNat*b.f.y.toNat)<=64:=by omega
  exact⟨Int.natCast_nonneg _,Int.ofNat_le.2 this⟩
 have w2:=cf (n:=Gy b i) (by omega);have⟨hne,hnx,hny⟩:¬b.f.x*b.f.y=0/\¬b.f.x=0/\¬b.f.y=0:=by omega
 simp[w1,hne,e3,w2]
theorem N8{b:bU}{D5:D}{s:List Rock.aD}{i:Nat}{x:Rock.aD}(hx:s[i]?=some x)(hm:0<=x.m/\x.m<=1000000)(ht:∀r∈b.dL,r.alone=true)(hl:b.dL.length<=1000):∀(n j:Nat) (o:Int),j+n=b.dL.length ->
  WL T [2,3,4,10,11] false mP [(2,lF s aD.enc),(3,iI i),(4,.bf (bL b)),(10,iI o),(11,iI j)] J
   (λx' e J'=>J'=J/\x'=.exit 0/\get e 10=iI ((b.dL.drop j).foldl (ia x) o))
 |0,j,o,hj=>by
  refine aB mP.eq_1 ?_;have h1:¬j<b.dL.length:=by omega
  have h2:b.dL.drop j=[]:=an (by omega);simp[h1,h2]
 |n+1,j,o,hj=>by
  refine aB mP.eq_1 ?_;have h1:j<b.dL.length:=by omega
  obtain⟨r,hr⟩:=gE h1;have hrb:=Q0 (ht r (aj hr));have h2:=bu (f:=Rw.enc) (w:=5) (λ_=>rfl) hr;have h3:=bu (f:=aD.enc) (w:=3) (λ_=>rfl) hx;have h4:=cr h1 (by omega);have h5:=bD hr;have hi:i<s.length:=(aA.1 hx).1;have b1:=iS hrb.2.1 hrb.2.2 hm.1 hm.2;have w1:=cf (n:=r.l*x.m) (by omega);have ih:=N8 (D5:=D5) hx hm ht hl n (j+1) (ia x o r) (by omega);rw[h5];simp only[List.foldl_cons];by_cases hc:r.l*x.m<=x.h
  .have hm2:max o r.p=ia x o r:=by unfold ia;rw[if_pos hc]
   simp[h1,h2,h3,h4,hi,w1,hc];refine WL.to ih (by simp[ia,hc]) rfl λx e J hh=>hh
  .simp[h1,h2,h3,h4,hi,w1,hc];refine WL.to ih (by simp[ia,hc]) rfl λx e J hh=>hh
theorem I6{b:bU}{m:bV}{s:List Rock.aD}(h:Fv b m)(hs:Sv b s){i:Nat}(hi:i<b.n):
  Cl Ar [.agg (bL b),.agg (mL m),lF s aD.enc,iI i] (iI (dk b m s i)) J:=by
 refine au rfl rfl rfl ?_;have hw:=λJ=>I4 (J:=J) h.bv hi
 have ho:=λJ=>rh (J:=J) h.toMv (k:=0) (by omega) hi
 rw[show jE b m 0 i=hold b m i from rfl]at ho;simp only[show((0:Nat):Int)=0 from rfl]at ho;have b1:=h.hold i hi;obtain⟨hx,b2,b3,b4⟩:=hs.at hi;have hil:i<s.length:=by have:=hs.len;omega
 have hil':(i:Int)<s.length:=by omega
 have hst:=h.bv.cz;have b5:=wg h.bv hi;have e5:Gy b i*b.lift=weight b i:=rfl;have b6 : -100000000000<=b.cz*((aP s i).m-hold b m i)/\b.cz*((aP s i).m-hold b m i)<=100000000000:=by
  rcases eS (hold b m i) (aP s i).m with hh | hh
  .have:=iS (a:=b.cz) (b:=(aP s i).m-hold b m i) (A:=100000) (B:=1000000) (by omega) hst.2 (by omega) (by omega);omega
  .have:=iS (a:=b.cz) (b:=hold b m i-(aP s i).m) (A:=100000) (B:=1000000) (by omega) hst.2 (by omega) (by omega);have e:b.cz*((aP s i).m-hold b m i) = - (b.cz*(hold b m i-(aP s i).m)):=by rw[<- Int.mul_neg];congr 1;omega
   omega
 have hd:=λJ=>Yh (J:=J) (n:=b.cz*((aP s i).m-hold b m i)) (d:=hold b m i) (by omega) (by omega)
 have b7 : -100000000000<=down (b.cz*((aP s i).m-hold b m i)) (hold b m i)/\down (b.cz*((aP s i).m-hold b m i)) (hold b m i)<=100000000000:=by
  unfold down;constructor
  .rw[Int.le_ediv_iff_mul_le (by omega)];omega
  .have:=Int.ediv_le_self (b:=hold b m i) (a:=b.cz*((aP s i).m-hold b m i));rcases eS 0 (b.cz*((aP s i).m-hold b m i))with hh | hh
   .have:=this hh;omega
   .have:=Int.ediv_le_of_le_mul (b:=0) (show 0<hold b m i by omega) (by omega:b.cz*((aP s i).m-hold b m i)<=0*hold b m i);omega
 have w0:=cf (n:=weight b i) (by omega);have w1:=cf (n:=(aP s i).m-hold b m i) (by omega);have w2:=cf (n:=b.cz*((aP s i).m-hold b m i)) (by omega);have w3:=cf (n:=weight b i+down (b.cz*((aP s i).m-hold b m i)) (hold b m i)) (by omega);have h3:=bu (f:=aD.enc) (w:=3) (λ_=>rfl) hx;have htab:=h.bv.dL;simp only[fO,af]at htab;have ht:=aS.1 htab.1;simp[hw,ho,hil',h3,e5,w0,w1,w2,hd,w3];refine WL.to (N8 (D5:=.undef) (J:=[]::J) hx ⟨by omega,by omega⟩ (eO.1 htab.2.1) (by omega) b.dL.length 0 (max 0 (weight b i+down (b.cz*((aP s i).m-hold b m i)) (hold b m i))) (by omega)) (by simp) rfl ?_;rintro x e J' ⟨rfl,rfl,g⟩;simp[g,dk]
theorem Te{b:bU}(h:Bv b){i k:Nat}(hi:i<b.n)(hk:k<b.n):Cl yw [.agg (bL b),iI i,iI k] (.bool (GB b i k)) J:=by
 refine au rfl rfl rfl ?_;have hx:=h.x;have hy:=h.y;have hn:=h.n;have⟨eX,eY⟩:b.f.x=(b.f.x.toNat:Int)/\b.f.y=(b.f.y.toNat:Int):=by omega
 have e1:∀i:Nat,(i:Int).tmod b.f.x=((i%b.f.x.toNat:Nat):Int):=λi=>by
  conv=>lhs;rw[eX]
  rfl
 have e2:∀i:Nat,(i:Int).tdiv b.f.x=((i / b.f.x.toNat:Nat):Int):=λi=>by
  conv=>lhs;rw[eX]
  rfl
 have e2':∀i:Nat,(i:Int) / b.f.x=((i / b.f.x.toNat:Nat):Int):=λi=>by
  conv=>lhs;rw[eX]
  rfl
 have e3:∀i:Nat,(i:Int).tmod b.f.y=((i%b.f.y.toNat:Nat):Int):=λi=>by
  conv=>lhs;rw[eY]
  rfl
 have e4:∀i:Nat,(i:Int).tdiv b.f.y=((i / b.f.y.toNat:Nat):Int):=λi=>by
  conv=>lhs;rw[eY]
  rfl
 have e4':∀i:Nat,(i:Int) / b.f.y=((i / b.f.y.toNat:Nat):Int):=λi=>by
  conv=>lhs;rw[eY]
  rfl
 have⟨hx0,hy0⟩:¬b.f.x=0/\¬b.f.y=0:=by omega
 have a1:i / b.f.x.toNat<=i:=Nat.div_le_self _ _;have a2:i / b.f.x.toNat / b.f.y.toNat<=i / b.f.x.toNat:=Nat.div_le_self _ _;have a3:i / b.f.x.toNat%b.f.y.toNat<=i / b.f.x.toNat:=Nat.mod_le _ _;have a4:i%b.f.x.toNat<=i:=Nat.mod_le _ _;have b1:k / b.f.x.toNat<=k:=Nat.div_le_self _ _;have b2:k / b.f.x.toNat / b.f.y.toNat<=k / b.f.x.toNat:=Nat.div_le_self _ _;have b3:k / b.f.x.toNat%b.f.y.toNat<=k / b.f.x.toNat:=Nat.mod_le _ _;have b4:k%b.f.x.toNat<=k:=Nat.mod_le _ _;unfold GB KV px py pz;have q1:=e1 i;have q2:=e1 k;have q3:=e2 i;have q4:=e2 k;have q3':=e2' i;have q4':=e2' k;have q5:=e3 (i / b.f.x.toNat);have q6:=e3 (k / b.f.x.toNat);have q7:=e4 (i / b.f.x.toNat);have q8:=e4 (k / b.f.x.toNat);have q7':=e4' (i / b.f.x.toNat);have q8':=e4' (k / b.f.x.toNat);clear e1 e2 e2' e3 e4 e4';generalize i / b.f.x.toNat / b.f.y.toNat=A1 at *
 generalize i / b.f.x.toNat%b.f.y.toNat=A2 at *
 generalize i / b.f.x.toNat=A4 at *
 generalize i%b.f.x.toNat=A3 at *
 generalize k / b.f.x.toNat / b.f.y.toNat=B1 at *
 generalize k / b.f.x.toNat%b.f.y.toNat=B2 at *
 generalize k / b.f.x.toNat=B4 at *
 generalize k%b.f.x.toNat=B3 at *
 have sq:∀u:Int,-64<=u/\u<=64->0<=u*u/\u*u<=4096:=λu hu=>by
  rcases eS 0 u with h | h
  .have:=iS h hu.2 h hu.2;omega
  .have:=iS (a := -u) (b := -u) (A:=64) (B:=64) (by omega) (by omega) (by omega) (by omega);rw[Int.neg_mul_neg]at this;omega
 have s1:=sq ((A3:Int)-B3) (by omega);have s2:=sq ((A2:Int)-B2) (by omega);have s3:=sq ((A1:Int)-B1) (by omega);have v1:=cf (n:=(A1:Int)) (by omega);have v2:=cf (n:=(A2:Int)) (by omega);have v3:=cf (n:=(A3:Int)) (by omega);have v4:=cf (n:=(A4:Int)) (by omega);have v5:=cf (n:=(B1:Int)) (by omega);have v6:=cf (n:=(B2:Int)) (by omega);have v7:=cf (n:=(B3:Int)) (by omega);have v8:=cf (n:=(B4:Int)) (by omega);have w1:=cf (n:=(A1:Int)-B1) (by omega);have w2:=cf (n:=(A2:Int)-B2) (by omega);have w3:=cf (n:=(A3:Int)-B3) (by omega);have y1:=cf (n:=((A3:Int)-B3)*((A3:Int)-B3)) (by omega);have y2:=cf (n:=((A2:Int)-B2)*((A2:Int)-B2)) (by omega);have y3:=cf (n:=((A1:Int)-B1)*((A1:Int)-B1)) (by omega);have y4:=cf (n:=((A3:Int)-B3)*((A3:Int)-B3)+((A2:Int)-B2)*((A2:Int)-B2)) (by omega);have y5:=cf (n:=((A3:Int)-B3)*((A3:Int)-B3)+((A2:Int)-B2)*((A2:Int)-B2)+((A1:Int)-B1)*((A1:Int)-B1)) (by omega);simp[q1,q2,q3,q4,q5,q6,q7,q8,hx0,hy0,v1,v4,v5,v8,w1,w2,w3,y1,y2,y3,y4,y5];rfl
theorem UY{x:Rock.aD}{q:Int}(hm:1<=x.m/\x.m<=1000000)(hh:0<=x.h/\x.h<=10000000000)(hk:0<=x.k/\x.k<=1000000000000)(hq:0<=q/\q<=x.m):
  Cl Dw [.agg x.enc,iI q] (.agg (x.out q).enc) J:=by
 refine au rfl rfl rfl ?_;have b1:=iS hh.1 hh.2 hq.1 (show q<=1000000 by omega);have b2:=iS hk.1 hk.2 hq.1 (show q<=1000000 by omega);have b3:=Im hm.1 hh hq;have b4:=Im hm.1 hk hq;have w1:=cf (n:=x.h*q) (by omega);have w2:=cf (n:=x.k*q) (by omega);have w3:=cf (n:=(x.h*q).tdiv x.m) (by omega);have w4:=cf (n:=(x.k*q).tdiv x.m) (by omega);have hne:¬x.m=0:=by omega
 simp[w1,w2,w3,w4,hne,Rock.aD.out]
theorem Mh{x o:Rock.aD}(h1:sm x 1000000000000000000)(h2:sm o 1000000000000000000):Cl B8 [.agg x.enc,.agg o.enc] (.agg (x.move o 1).enc) J:=by
 refine au rfl rfl rfl ?_;obtain⟨a1,a2,a3⟩:=h1;obtain⟨c1,c2,c3⟩:=h2;have w1:=cf (n:=x.m+o.m) (by omega);have w2:=cf (n:=x.h+o.h) (by omega);have w3:=cf (n:=x.k+o.k) (by omega);simp[w1,w2,w3,Rock.aD.move]
theorem NK{x o:Rock.aD}(h1:sm x 1000000000000000000)(h2:sm o 1000000000000000000):Cl Ax [.agg x.enc,.agg o.enc] (.agg (x.move o (-1)).enc) J:=by
 refine au rfl rfl rfl ?_;obtain⟨a1,a2,a3⟩:=h1;obtain⟨c1,c2,c3⟩:=h2;have w1:=cf (n:=x.m-o.m) (by omega);have w2:=cf (n:=x.h-o.h) (by omega);have w3:=cf (n:=x.k-o.k) (by omega);have e:∀a c:Int,a + -1*c=a-c:=λa c=>by omega
 simp only[Rock.aD.move,aD.enc];simp[w1,w2,w3];omega
theorem UU{w:bG}{r:Int}(hr : -100000<=r/\r<=100000)(h1:0<=w.h/\w.h<=3000)(h2:0<=w.m/\w.m<=1000000):
  Cl Ap [.agg w.enc,iI r] (.agg (w.given r).enc) J:=by
 refine au rfl rfl rfl ?_;have b1:=mulR h1 hr;have b2:=mulR h2 hr;have w1:=cf (n := -r) (by omega);have w2:=cf (n := -(r*w.h)) (by omega);have w3:=cf (n := -(r*w.m)) (by omega);simp[w1,w2,w3,bG.given,Int.neg_mul]
theorem abH{b:bU}{m:bV}(h:Fv b m){i:Nat}(hi:i<b.n):Cl Du [.agg (bL b),.agg (mL m),iI i] (.agg (Ic b m i).enc) J:=by
 refine au rfl rfl rfl ?_;have hf:=λJ=>rh (J:=J) h.toMv (k:=3) (by omega) hi
 rw[show jE b m 3 i=feed b m i from rfl]at hf;simp only[show((3:Nat):Int)=3 from rfl]at hf;have b1:=h.feed i hi;have b2:=h.bv.deep;have b3:=iS b1.1 b1.2 b2.1 b2.2;have w1:=cf (n:=feed b m i*b.deep) (by omega);simp[hf,w1,Ic]
theorem abI{x:Rock.aD}:Cl Dv [.agg x.enc] (.bool x.valid) J:=by
 refine au rfl rfl rfl ?_;cases hc1:bA x.m 1 1000000
 .simp[dh,Rock.aD.valid,hc1]
 cases hc2:bA x.h 0 10000000000
 .simp[dh,Rock.aD.valid,hc1,hc2]
 cases hc3:bA x.k 0 1000000000000
 .simp[dh,Rock.aD.valid,hc1,hc2,hc3]
 simp[dh,Rock.aD.valid,hc1,hc2,hc3]
theorem N6{b:bU}{s:List Rock.aD}(hl:s.length<=1000000000):∀(n i:Nat),i+n=s.length ->
  WL T [1,2,5] false mR [(1,lF s aD.enc),(2,.bf (bL b)),(5,iI i)] J
   (λx e J'=>J'=J/\if da (s.drop i) Rock.aD.valid=true then x=.exit 0/\get e 1=lF s aD.enc/\get e 2=.bf (bL b)else x=.ret/\get e 4=.bool false)
 |0,i,hi=>by
  refine aB mR.eq_1 ?_;have h1:¬i<s.length:=by omega
  have h2:s.drop i=[]:=an (by omega);simp[h1,h2,da]
 |n+1,i,hi=>by
  refine aB mR.eq_1 ?_;have h1:i<s.length:=by omega
  obtain⟨x,hx⟩:=gE h1;have h2:=bu (f:=aD.enc) (w:=3) (λ_=>rfl) hx;have h4:=cr h1 (by omega);have h5:=bD hx;have hO:=λJ=>abI (J:=J) (x:=x)
  simp only[aD.enc]at hO;have ih:=N6 (b:=b) hl n (i+1) (by omega);have e1:da (s.drop i) Rock.aD.valid=(x.valid && da (s.drop (i+1)) Rock.aD.valid):=by rw[h5];simp[da]
  rw[e1];cases hc:x.valid
  .simp[h1,h2,hO,hc]
  .simp[h1,h2,h4,hO,hc];exact WL.to ih (by simp) rfl λx e J hh=>by simpa using hh
theorem U1{b:bU}{s:List Rock.aD}(h:Bv b)(hl:s.length<=1000000000):Cl Av [.agg (bL b),lF s aD.enc] (.bool (pQ b s)) J:=by
 refine au rfl rfl rfl ?_;have hs:=λJ=>oX (J:=J) h.fv
 simp;refine WL.to (N6 (J:=[]::J) (b:=b) hl s.length 0 (by omega)) (by simp) rfl ?_;rintro x e J' ⟨rfl,hh⟩;rw[aE]at hh;unfold pQ;cases hc:da s Rock.aD.valid
 .simp[hc]at hh;simp[hh]
 .simp[hc]at hh;by_cases hc1:(s.length:Int)=b.size
  .have hc2:(s.length:Int)=b.f.size:=hc1;simp[hh,hs,hc1];rfl
  .have hc2:¬(s.length:Int)=b.f.size:=hc1;simp[hh,hs,hc1,hc2]
theorem N5{b:bU}{m:bV}(h:Fv b m):∀(n i:Nat),i+n=b.n ->
  WL T [2,3,5,6] false mQ [(2,.bf (bL b)),(3,.bf (mL m)),(5,.sl J.length 0 i 0 i 3),(6,iI i)] ([.cells i (fM ((bX b m).take i) aD.enc)]::J)
   (λx e J'=>x=.exit 0/\get e 5=.sl J.length 0 b.n 0 b.n 3/\J'=[.cells b.n (fM (bX b m) aD.enc)]::J)
 |0,i,hi=>by
  refine aB mQ.eq_1 ?_;obtain rfl:i=b.n:=by omega
  have hs:=λJ=>oX (J:=J) h.bv.fv
  have hz:=h.bv.sz;have hz':b.f.size=(b.n:Int):=hz;have h3:(bX b m).take b.n=bX b m:=ai (by simp[ou]);simp[h3,hs,hz']
 |n+1,i,hi=>by
  refine aB mQ.eq_1 ?_;have h1:i<b.n:=by omega
  have hn:=h.bv.n;have hs:=λJ=>oX (J:=J) h.bv.fv
  have hz':b.f.size=(b.n:Int):=h.bv.sz;have h1':(i:Int)<b.n:=by omega
  have h4:=cr h1 (by omega);have ho:=λJ=>rh (J:=J) h.toMv (k:=0) (by omega) h1
  have hw:=λJ=>rh (J:=J) h.toMv (k:=2) (by omega) h1
  rw[show jE b m 0 i=hold b m i from rfl]at ho;rw[show jE b m 2 i=GS b m i from rfl]at hw;simp only[show((0:Nat):Int)=0 from rfl,show((2:Nat):Int)=2 from rfl]at ho hw;have b1:=h.hold i h1;have b2:=h.GS i h1;have b3:=iS (by omega:0<=hold b m i) b1.2 b2.1 b2.2;have w1:=cf (n:=hold b m i*GS b m i) (by omega);have ih:=N5 h n (i+1) (by omega);have hx:(bX b m)[i]?=some ⟨hold b m i,hold b m i*GS b m i,0⟩:=by simp[bX,h1]
  have a3:=Bm (f:=aD.enc) hx;have a4:=sW ((bX b m).take i);rw[dp,ou,Nat.min_eq_left (by omega)]at a4;have a6:(fM ((bX b m).take i) aD.enc).take (i*3)=fM ((bX b m).take i) aD.enc:=ai (by omega);have h7:(i+1)*24<=room:=by unfold room;omega
  simp[h1',h4,hs,hz',ho,hw,w1,a4,a6,h7];refine WL.to ih (by simp[]) (by simp[<- a3]) λx e J hh=>hh
theorem I7{b:bU}{m:bV}(h:Fv b m)(hJ:J≠[]):Cl Au [.agg (bL b),.agg (mL m)] (.bY b.n (fM (bX b m) aD.enc)) J:=by
 refine au rfl rfl rfl ?_;simp[];refine WL.to (N5 (J:=J) h b.n 0 (by omega)) (by simp) (by simp) ?_;rintro x e J' ⟨rfl,g5,rfl⟩;have hk:=nB (n:=16) (f:=aD.enc) (w:=3) (l:=bX b m) (j:=0) (v:=b.n) (bs:=[.cells b.n (fM (bX b m) aD.enc)]) (by decide) (λ_=>rfl) (λx=>by simp) hJ rfl
 try simp only[lF]at hk
 rw[ou]at hk;simp[g5,hk]
theorem agj{b:bU}{m:bV}(h:Fv b m):∀i,i<b.n->0<=Rock.zb b m i:=λi hi=>(h.zb i hi).1
theorem abe{b:bU}{m:bV}{s:List Rock.aD}(hs:Sv b s){i:Nat}(hi:i<b.n):((ba b m s)[i]?).getD 0=dk b m s i:=by
 have h1:i<s.length:=by have:=hs.len;omega
 simp[ba,h1]
theorem agm{b:bU}{m:bV}{s:List Rock.aD}(hs:Sv b s){i k:Nat}(hi:i<b.n)(hk:k<b.n):pd b (ba b m s) (i,k)=dk b m s i-weight b i-dk b m s k+weight b k:=by
 unfold pd;simp only[abe hs hi,abe hs hk]
theorem ajy{b:bU}{m:bV}{s:List Rock.aD}(h:Fv b m)(hs:Sv b s){i k:Nat}(hi:i<b.n)(hk:k<b.n)(hd:0<pd b (ba b m s) (i,k)):0<=rq b m s (ba b m s) (i,k)/\rq b m s (ba b m s) (i,k)<=(aP s i).m:=by
 obtain⟨_,m1,_,_⟩:=hs.at hi;have o1:=h.zb i hi;have o2:=h.zb k hk;have h1:0<=(aP s i).m.tdiv 8/\(aP s i).m.tdiv 8<=(aP s i).m:=by
  rw[aO (by omega)];omega
 have h3:0<=(min (zb b m i) (zb b m k)*pd b (ba b m s) (i,k)).tdiv 1000:=Int.tdiv_nonneg (bF (by omega) (by omega)) (by omega);unfold rq;simp only;omega
theorem SJ{b:bU}{s:List Rock.aD}(hs:Sv b s){i:Nat}(hi:i<b.n){q:Int}(hq:0<=q/\q<=(aP s i).m):sm ((aP s i).out q) 1000000000000:=by
 obtain⟨_,m1,m2,m3⟩:=hs.at hi;exact M5 m1 m2 m3 hq
theorem Jw{s:List Rock.aD}{i:Nat}{x:Rock.aD}(hi:i<s.length):(fM s aD.enc).take (i*3)++(iI x.m::iI x.h::iI x.k::(fM s aD.enc).drop (i*3+3))=fM (s.set i x) aD.enc:=by
 have:=LH (f:=aD.enc) (w:=3) (λ_=>rfl) (l:=s) (i:=i) (x:=x) hi;simpa using this
theorem D2{s:List Rock.aD}{i:Nat}(hi:i<s.length):((fM s aD.enc).drop (i*3)).take 3=[iI (aP s i).m,iI (aP s i).h,iI (aP s i).k] :=
 bu (f:=aD.enc) (w:=3) (λ_=>rfl) (by simp[aP,hi])
theorem yJ{s:List Rock.aD}{i:Nat}{o:Rock.aD}{a:Int}:(cj s i o a).length=s.length:=by simp[cj]
theorem Y4{b:bU}{m:bV}{s:List Rock.aD}{aF:List Int}(h:Fv b m)(hs:Sv b s){i:Nat}(hi:i<b.n):∀(n k:Nat) (next:List Rock.aD) (N:Int),k+n=b.n->next.length=b.n->BD N next->0<=N->N+2000000000000*n<=100000000000000000 ->
  WL T [2,3,4,5,11,12,13] false mS [(2,lF s aD.enc),(3,lF aF aT),(4,.bf (bL b)),(5,.bf (mL m)),(11,.sl J.length 0 0 0 b.n 3),(12,iI i),(13,iI k)] ([.cells 0 (fM next aD.enc)]::J)
   (λx e J'=>x=.exit 2/\get e 2=lF s aD.enc/\get e 3=lF aF aT/\get e 4=.bf (bL b)/\get e 5=.bf (mL m)/\get e 11=.sl J.length 0 0 0 b.n 3/\get e 12=iI i /\
    ∃next',next'=((List.range b.n).drop k).foldl (tU b m s i) next/\next'.length=b.n/\BD (N+2000000000000*n) next'/\J'=[.cells 0 (fM next' aD.enc)]::J)
 |0,k,next,N,hk,hl,hb,h0,hN=>by
  refine aB mS.eq_1 ?_;have hsl:=hs.len;have h1:¬k<s.length:=by omega
  have h2:(List.range b.n).drop k=[]:=an (by simp;omega);simp[h1,h2];exact⟨hl,λx hx=>by simpa using hb x hx⟩
 |n+1,k,next,N,hk,hl,hb,h0,hN=>by
  refine aB mS.eq_1 ?_;have hsl:=hs.len;have hbn:=h.bv.n;have⟨hk1,h1,hi1⟩:k<b.n/\k<s.length/\i<s.length:=by omega
  have h4:=cr hk1 (by omega);have h5:(List.range b.n).drop k=k::(List.range b.n).drop (k+1):=bD (by simp[hk1]);have c1:=λJ=>I6 (J:=J) h hs hi
  have c2:=λJ=>I6 (J:=J) h hs hk1
  have c3:=λJ=>I4 (J:=J) h.bv hi
  have c4:=λJ=>I4 (J:=J) h.bv hk1
  have c5:=λJ=>Te (J:=J) h.bv hi hk1
  have e3:Gy b i*b.lift=weight b i:=rfl;have e4:Gy b k*b.lift=weight b k:=rfl;have p1:=GI h hs hi;have p2:=GI h hs hk1;have q1:=wg h.bv hi;have q2:=wg h.bv hk1;have hpd:=agm (m:=m) hs hi hk1;have w1:=cf (n:=weight b i) (by omega);have w2:=cf (n:=weight b k) (by omega);have w3:=cf (n:=dk b m s i-weight b i) (by omega);have w4:=cf (n:=dk b m s i-weight b i-dk b m s k) (by omega);have w5:=cf (n:=dk b m s i-weight b i-dk b m s k+weight b k) (by omega);have hdb : -300000000000<=dk b m s i-weight b i-dk b m s k+weight b k/\dk b m s i-weight b i-dk b m s k+weight b k<=300000000000:=by omega
  rw[<- hpd]at w5 hdb;have hbig:N+2000000000000<=100000000000000000:=by push_cast at hN;omega
  rw[h5,List.foldl_cons];cases hL:GB b i k
  .have ih:=Y4 (aF:=aF) h hs hi n (k+1) next (N+2000000000000) (by omega) hl (λx hx=>cY (hb x hx) (by omega)) (by omega) (by push_cast at hN;omega)
   have hr:tU b m s i next k=next:=by simp[tU,hL]
   rw[hr];simp[h1,c1,c2,c3,c4,c5,e3,e4,w1,w2,w3,w4,<- hpd,w5,hL,h4];refine WL.to ih (by simp) rfl λx e J' hh=>?_
   obtain⟨r1,r2,r3,r4,r5,r6,r7,nx,r8,r9,r10,r11⟩:=hh;exact⟨r1,r2,r3,r4,r5,r6,r7,nx,r8,r9,λx hx=>cY (r10 x hx) (by push_cast;omega),r11⟩
  .by_cases hd:0<pd b (ba b m s) (i,k)
   .have hd':¬pd b (ba b m s) (i,k)<=0:=by omega
    have hik:i≠k:=by
     rintro rfl;simp[GB,KV]at hL
    have hq:=ajy h hs hi hk1 hd;obtain⟨x1,m1,m2,m3⟩:=hs.at hi;have f1:=D2 hi1;have v1:=λJ=>rh (J:=J) h.toMv (k:=1) (by omega) hi
    have v2:=λJ=>rh (J:=J) h.toMv (k:=1) (by omega) hk1
    rw[show jE b m 1 i=zb b m i from rfl]at v1;rw[show jE b m 1 k=zb b m k from rfl]at v2;simp only[show((1:Nat):Int)=1 from rfl]at v1 v2;have o1:=h.zb i hi;have o2:=h.zb k hk1;have ho:=λJ=>UY (J:=J) m1 m2 m3 hq
    have hso:=SJ hs hi hq;have hfl:tU b m s i next k=cj (cj next i ((aP s i).out (rq b m s (ba b m s) (i,k))) (-1)) k ((aP s i).out (rq b m s (ba b m s) (i,k))) 1:=by
     simp only[tU,hL,hd,true_and,if_true,ct,rE]
    have hrq:rq b m s (ba b m s) (i,k)=min ((aP s i).m.tdiv 8) ((min (zb b m i) (zb b m k)*pd b (ba b m s) (i,k)).tdiv 1000):=rfl;have b1:=iS (a:=min (zb b m i) (zb b m k)) (b:=pd b (ba b m s) (i,k)) (A:=1000) (B:=300000000000) (by omega) (by omega) (by omega) (by omega);have t8:=aO (b:=8) (show 0<=(aP s i).m by omega);have t9:=aO (b:=1000) b1.1;generalize hD:pd b (ba b m s) (i,k)=D0 at *
    generalize hX:min (zb b m i) (zb b m k)*D0=X at *
    have y1:=cf (n:=(aP s i).m.tdiv 8) (by omega);have y2:=cf (n:=X) (by omega);have y3:=cf (n:=X.tdiv 1000) (by rw[t9];omega);rw[hrq]at ho hso hfl hq;generalize hQ:min ((aP s i).m.tdiv 8) (X.tdiv 1000)=Q at *
    generalize (aP s i).out Q=o at *
    rw[hfl];have⟨hi2,hk2⟩:i<next.length/\k<next.length:=by omega
    have g1:=D2 hi2;have g2:=D2 hk2;obtain⟨_,s1⟩:=BN hb hi2;obtain⟨_,s2⟩:=BN hb hk2;have k1:=λJ=>NK (J:=J) (cY s1 (by omega)) (cY hso (by omega))
    have k2:=λJ=>Mh (J:=J) (cY s2 (by omega)) (cY hso (by omega))
    have hbA:=pB (M:=1000000000000) hb (i:=i) (sign := -1) hso (.inr rfl) (by omega);have hbB:=pB (M:=1000000000000) hbA (i:=k) (sign:=1) hso (.inl rfl) (by omega);have eA:cj next i o (-1)=next.set i ((aP next i).move o (-1)):=rfl
    have eB:cj (cj next i o (-1)) k o 1=(next.set i ((aP next i).move o (-1))).set k ((aP next k).move o 1):=by
     rw[eA];unfold cj;congr 2;simp[aP,List.getElem?_set_ne hik]
    have st1:=Jw (x:=(aP next i).move o (-1)) hi2;have hk3:k<(next.set i ((aP next i).move o (-1))).length:=by simpa using hk2
    have st2:=Jw (x:=(aP next k).move o 1) hk3;have ih:=Y4 (aF:=aF) h hs hi n (k+1) (cj (cj next i o (-1)) k o 1) (N+2000000000000) (by omega) (by rw[yJ,yJ];exact hl) (λx hx=>cY (hbB x hx) (by omega)) (by omega) (by push_cast at hN;omega);rw[eB]at ih ⊢;have hln:=sW next
    have hln2:=sW (next.set i ((aP next i).move o (-1)));rw[List.length_set]at hln2;generalize (aP next i).move o (-1)=P1 at *
    generalize (aP next k).move o 1=P2 at *
    generalize next.set i P1=nx1 at *
    simp only[aD.enc]at ho k1 k2;have⟨z1,z2,z3,z4⟩:i*3+3<=b.n*3/\k*3+3<=b.n*3/\3<=b.n*3-i*3/\3<=b.n*3-k*3:=by omega
    rw[hl]at hln hln2;simp[h1,hi1,hi,hk1,c1,c2,c3,c4,c5,e3,e4,w1,w2,w3,w4,<- hpd,w5,hL,h4,hd',f1,v1,v2,hX,y1,y2,y3,hQ,ho,g1,g2,k1,k2,hln,hln2,st1,st2,z1,z2,z3,z4];refine WL.to ih (by simp) (by simp) λx e J' hh=>?_
    obtain⟨r1,r2,r3,r4,r5,r6,r7,nx,r8,r9,r10,r11⟩:=hh;exact⟨r1,r2,r3,r4,r5,r6,r7,nx,r8,r9,λx hx=>cY (r10 x hx) (by push_cast;omega),r11⟩
   .have ih:=Y4 (aF:=aF) h hs hi n (k+1) next (N+2000000000000) (by omega) hl (λx hx=>cY (hb x hx) (by omega)) (by omega) (by push_cast at hN;omega)
    have hr:tU b m s i next k=next:=by simp[tU,hd]
    have hd':pd b (ba b m s) (i,k)<=0:=by omega
    rw[hr];simp[h1,c1,c2,c3,c4,c5,e3,e4,w1,w2,w3,w4,<- hpd,w5,hL,hd',h4];refine WL.to ih (by simp) rfl λx e J' hh=>?_
    obtain⟨r1,r2,r3,r4,r5,r6,r7,nx,r8,r9,r10,r11⟩:=hh;exact⟨r1,r2,r3,r4,r5,r6,r7,nx,r8,r9,λx hx=>cY (r10 x hx) (by push_cast;omega),r11⟩
theorem afo{b:bU}{m:bV}{s:List Rock.aD}{aF:List Int}(h:Fv b m)(hs:Sv b s):∀(n i:Nat) (next:List Rock.aD) (N:Int),i+n=b.n->next.length=b.n->BD N next->0<=N->N+200000000000000*n<=50000000000000000 ->
  WL T [2,3,4,5,11,12] false mT [(2,lF s aD.enc),(3,lF aF aT),(4,.bf (bL b)),(5,.bf (mL m)),(11,.sl J.length 0 0 0 b.n 3),(12,iI i)] ([.cells 0 (fM next aD.enc)]::J)
   (λx e J'=>x=.exit 0/\get e 2=lF s aD.enc/\get e 3=lF aF aT/\get e 4=.bf (bL b)/\get e 11=.sl J.length 0 0 0 b.n 3 /\
    ∃next',next'=((List.range b.n).drop i).foldl (Nc b m s) next/\next'.length=b.n/\BD (N+200000000000000*n) next'/\J'=[.cells 0 (fM next' aD.enc)]::J)
 |0,i,next,N,hi,hl,hb,h0,hN=>by
  refine aB mT.eq_1 ?_;have hsl:=hs.len;have h1:¬i<s.length:=by omega
  have h2:(List.range b.n).drop i=[]:=an (by simp;omega);simp[h1,h2];exact⟨hl,λx hx=>by simpa using hb x hx⟩
 |n+1,i,next,N,hi,hl,hb,h0,hN=>by
  refine aB mT.eq_1 ?_;have hsl:=hs.len;have hbn:=h.bv.n;have⟨hi1,h1⟩:i<b.n/\i<s.length:=by omega
  have h4:=cr hi1 (by omega);have h5:(List.range b.n).drop i=i::(List.range b.n).drop (i+1):=bD (by simp[hi1]);have hF:=λJ=>abH (J:=J) h hi1
  have hsf:=Qz h hi1;have hi2:i<next.length:=by omega
  have g1:=D2 hi2;obtain⟨_,s1⟩:=BN hb hi2;have hP:=λJ=>Mh (J:=J) (cY s1 (by push_cast at hN;omega)) (cY hsf (by omega))
  have st1:=Jw (x:=(aP next i).move (Ic b m i) 1) hi2;have hbA:=pB (M:=1000000000000) hb (i:=i) (sign:=1) hsf (.inl rfl) (by omega);have eA:cj next i (Ic b m i) 1=next.set i ((aP next i).move (Ic b m i) 1):=rfl
  have hln:=sW next
  rw[hl]at hln;have⟨z1,z3⟩:i*3+3<=b.n*3/\3<=b.n*3-i*3:=by omega
  have hrow:Nc b m s next i=(List.range b.n).foldl (tU b m s i) (cj next i (Ic b m i) 1):=rfl
  have hlen1:(cj next i (Ic b m i) 1).length=b.n:=by rw[yJ];exact hl
  rw[h5,List.foldl_cons,hrow];rw[eA]at hbA hlen1 ⊢;generalize (aP next i).move (Ic b m i) 1=P at *
  simp only[aD.enc]at hF hP;simp[h1,hi1,hF,hP,g1,hln,z1,z3,st1];refine WL.to (Y4 (J:=J) (aF:=aF) h hs hi1 b.n 0 (next.set i P) (N+1000000000000) (by omega) hlen1 hbA (by omega) (by push_cast at hN;omega)) (by simp) (by simp) ?_;rintro x e J' ⟨rfl,g2,g3,g4,g5,g11,g12,nx,r8,r9,r10,rfl⟩;rw[aE]at r8;rw[<- r8];have ih:=afo (aF:=aF) h hs n (i+1) nx (N+200000000000000) (by omega) r9 (λx hx=>cY (r10 x hx) (by omega)) (by omega) (by push_cast at hN;omega);simp[g2,g3,g4,g5,g11,g12,h4];refine WL.to ih (by simp) rfl λx e J' hh=>?_
  obtain⟨r1,r2,r3,r4,r5,nx',q1,q2,q3,q4⟩:=hh;exact⟨r1,r2,r3,r4,r5,nx',q1,q2,λx hx=>cY (q3 x hx) (by push_cast;omega),q4⟩
def By(b:bU)(s next:List Rock.aD)(aF:List Int)(w:Nat):List Rock.aD:=((b.av.zip aF).drop w).foldl (λn wr=>rL s n wr.1 wr.2) next
theorem ach{b:bU}{s:List Rock.aD}{aF:List Int}(h:Bv b)(hs:Sv b s)(hr:Rv b aF):∀(n w:Nat) (next:List Rock.aD) (N:Int),w+n=aF.length->next.length=b.n->BD N next->0<=N->N+1000000000000*n<=100000000000000000 ->
  WL T [2,3,4,11,16,17] false mU [(2,lF s aD.enc),(3,lF aF aT),(4,.bf (bL b)),(11,.sl J.length 0 0 0 b.n 3),(16,.sl J.length 1 w 0 w 3),(17,iI w)]
   ([.cells 0 (fM next aD.enc),.cells w (fM ((bI b s aF).take w) aD.enc)]::J)
   (λx e J'=>x=.exit 4/\get e 4=.bf (bL b)/\get e 11=.sl J.length 0 0 0 b.n 3/\get e 16=.sl J.length 1 aF.length 0 aF.length 3 /\
    ∃next',next'=By b s next aF w/\next'.length=b.n/\J'=[.cells 0 (fM next' aD.enc),.cells aF.length (fM (bI b s aF) aD.enc)]::J)
 |0,w,next,N,hw,hl,hb,h0,hN=>by
  refine aB mU.eq_1 ?_;obtain rfl:w=aF.length:=by omega
  have hrl:=hr.len;have hyl:(bI b s aF).length=aF.length:=by simp[bI,hr.len]
  have h3:(bI b s aF).take aF.length=bI b s aF:=ai (by omega);have h2:(b.av.zip aF).drop aF.length=[]:=an (by rw[List.length_zip];omega);simp[h3,By,h2];exact hl
 |n+1,w,next,N,hw,hl,hb,h0,hN=>by
  refine aB mU.eq_1 ?_;have hrl:=hr.len;have hwl:=h.av;have hbn:=h.n;have hsl:=hs.len;have⟨h1,h1w,h1'⟩:w<aF.length/\w<b.av.length/\(w:Int)<b.av.length:=by omega
  obtain⟨r,hx⟩:=gE h1;obtain⟨wl,hwx⟩:=gE h1w;obtain⟨p1,p2,p3⟩:=GV h wl (aj hwx);have hrb:=hr.ok r (aj hx);obtain⟨i,hi⟩:∃i:Nat,wl.b=i:=⟨wl.b.toNat,by omega⟩;have⟨hin,hi1,hi2⟩:i<b.n/\i<s.length/\i<next.length:=by omega
  have h4:=cr h1 (by omega);have a1:=gr hx;have a2:=bu (f:=bG.enc) (w:=3) (λ_=>rfl) hwx;simp only[bG.enc,hi]at a2;have f1:=D2 hi1;have g1:=D2 hi2;obtain⟨x1,m1,m2,m3⟩:=hs.at hin;obtain⟨_,s1⟩:=BN hb hi2;have hzip:(b.av.zip aF)[w]?=some (wl,r):=by rw[List.getElem?_zip_eq_some];exact⟨hwx,hx⟩
  have h5:=bD hzip;have hW:By b s next aF w=By b s (rL s next wl r) aF (w+1):=by
   unfold By;rw[h5,List.foldl_cons]
  rw[hW];have hy:(bI b s aF)[w]?=some (ic s wl r):=by simp[bI,hzip]
  have a3:=Bm (f:=aD.enc) hy;have hyl:(bI b s aF).length=aF.length:=by simp[bI,hr.len]
  have a4:=sW ((bI b s aF).take w);rw[dp,hyl,Nat.min_eq_left (by omega)]at a4;have a6:(fM ((bI b s aF).take w) aD.enc).take (w*3)=fM ((bI b s aF).take w) aD.enc:=ai (by omega);have h7:(w+1)*24<=room:=by unfold room;omega
  have hln:=sW next
  rw[hl]at hln;have⟨z1,z3⟩:i*3+3<=b.n*3/\3<=b.n*3-i*3:=by omega
  have y1:=cf (n:=(aP s i).m.tdiv 8) (by rw[aO (by omega)];omega);have z4:3<=s.length*3-i*3:=by omega
  by_cases hc:0<r
  .have hq:0<=min r ((aP s i).m.tdiv 8)/\min r ((aP s i).m.tdiv 8)<=(aP s i).m:=by
    rw[aO (by omega)];omega
   have ho:=λJ=>UY (J:=J) m1 m2 m3 hq
   have hso:=SJ hs hin hq;have hwy:ic s wl r=(aP s i).out (min r ((aP s i).m.tdiv 8)):=by
    unfold ic;rw[if_neg (by omega),hi];rfl
   have hwm:rL s next wl r=next.set i ((aP next i).move ((aP s i).out (min r ((aP s i).m.tdiv 8))) (-1)):=by
    unfold rL;rw[if_pos hc,hi];rfl
   have hbA:=pB (M:=1000000000000) hb (i:=i) (sign := -1) hso (.inr rfl) (by omega);have hlen1:(cj next i ((aP s i).out (min r ((aP s i).m.tdiv 8))) (-1)).length=b.n:=by rw[yJ];exact hl
   have eA:cj next i ((aP s i).out (min r ((aP s i).m.tdiv 8))) (-1)=next.set i ((aP next i).move ((aP s i).out (min r ((aP s i).m.tdiv 8))) (-1)):=rfl
   rw[eA]at hbA hlen1;have hM:=λJ=>NK (J:=J) (cY s1 (by push_cast at hN;omega)) (cY hso (by omega))
   have st1:=Jw (x:=(aP next i).move ((aP s i).out (min r ((aP s i).m.tdiv 8))) (-1)) hi2;have ih:=ach h hs hr n (w+1) (rL s next wl r) (N+1000000000000) (by omega) (by rw[hwm];exact hlen1) (by rw[hwm];exact hbA) (by omega) (by push_cast at hN;omega);rw[hwm]at ih ⊢;rw[hwy]at a3;generalize (aP s i).out (min r ((aP s i).m.tdiv 8))=o at *
   generalize (aP next i).move o (-1)=P at *
   simp only[aD.enc]at ho hM;simp[h1,h1',hi1,hin,a1,a2,f1,g1,y1,ho,hM,hc,hln,z1,z3,st1,a4,a6,h7,h4];exact WL.to ih (by simp) (by simp[<- a3]) λx e J' hh=>hh
  .have hG:=λJ=>UU (J:=J) hrb p2 p3
   have hsg:=JZ hrb p2 p3;have hwy:ic s wl r=⟨0,0,0⟩:=by
    unfold ic;rcases Int.lt_or_le r 0 with h | h
    .rw[if_pos h]
    .obtain rfl:r=0:=by omega
     have h9:0<=(aP s wl.b.toNat).m.tdiv 8:=by
      rw[hi];exact Int.tdiv_nonneg (by have:=m1.1;simp only[Int.toNat_natCast];omega) (by omega)
     rw[if_neg (by omega),show min 0 ((aP s wl.b.toNat).m.tdiv 8)=0 by omega];simp[Rock.aD.out]
   have hwm:rL s next wl r=next.set i ((aP next i).move (wl.given r) 1):=by
    unfold rL;rw[if_neg hc,hi];rfl
   have hbA:=pB (M:=1000000000000) hb (i:=i) (sign:=1) hsg (.inl rfl) (by omega);have hlen1:(cj next i (wl.given r) 1).length=b.n:=by rw[yJ];exact hl
   have eA:cj next i (wl.given r) 1=next.set i ((aP next i).move (wl.given r) 1):=rfl
   rw[eA]at hbA hlen1;have hM:=λJ=>Mh (J:=J) (cY s1 (by push_cast at hN;omega)) (cY hsg (by omega))
   have st1:=Jw (x:=(aP next i).move (wl.given r) 1) hi2;have ih:=ach h hs hr n (w+1) (rL s next wl r) (N+1000000000000) (by omega) (by rw[hwm];exact hlen1) (by rw[hwm];exact hbA) (by omega) (by push_cast at hN;omega);rw[hwm]at ih ⊢;rw[hwy]at a3;simp only[bG.enc,hi]at hG;generalize wl.given r=o at *
   generalize (aP next i).move o 1=P at *
   simp only[aD.enc]at hG hM;simp[h1,h1',hin,a1,a2,g1,hG,hM,hc,hln,z1,z3,st1,a4,a6,h7,h4];exact WL.to ih (by simp) (by simp[<- a3]) λx e J' hh=>hh
theorem Yl{b:bU}{m:bV}{s:List Rock.aD}{aF:List Int}(h:Fv b m)(hs:Sv b s)(hr:Rv b aF)(hJ:J≠[]):
  Cl xp [.agg (bL b),.agg (mL m),lF s aD.enc,lF aF aT] (.cV [.bY b.n (fM (mu b m s aF) aD.enc),.bY aF.length (fM (bI b s aF) aD.enc),.bool (pQ b (mu b m s aF))]) J:=by
 refine au rfl rfl rfl ?_;have hsl:=hs.len;have hbn:=h.bv.n;have hrl:=hr.len;have hwl:=h.bv.av;have h7:s.length*24<=room:=by unfold room;omega
 have hsn:s≠[]:=λhh=>by rw[hh]at hsl;simp at hsl;omega
 have hsn':¬s.length=0:=by omega
 have hln:=sW s;simp[h7,hsn',hln];refine WL.to (afo (J:=J) (aF:=aF) h hs b.n 0 s 1000000000000 (by omega) hsl hs.BD (by omega) (by omega)) (by simp[hsl]) (by simp) ?_;rintro x e J' ⟨rfl,g2,g3,g4,g11,nx,r1,r2,r3,rfl⟩;rw[aE]at r1;simp[g2,g3,g4,g11];refine WL.to (ach (J:=J) h.bv hs hr aF.length 0 nx (1000000000000+200000000000000*(b.n:Int)) (by omega) r2 r3 (by omega) (by omega)) (by simp) (by simp) ?_;rintro x e J' ⟨rfl,g4,g11,g16,ny,q1,q2,rfl⟩;have hny:ny=mu b m s aF:=by
  rw[q1,r1];unfold By;rw[aE];obtain⟨_,hx,hy⟩:=h.bv.nat;refine Xp hx hy (λl hl=>Pc h.bv hl) (λi=>?_) (agj h) hsl;by_cases hi:i<b.n
  .have:=(hs.at hi).2.1;omega
  .have:s[i]?=none:=dI (by omega);simp[aP,this]
 have hS:=λJ=>U1 (J:=J) (b:=b) (s:=ny) h.bv (by omega)
 try simp only[lF,Cl,bL]at hS
 rw[q2]at hS;have k11:=pV (f:=aD.enc) (w:=3) (λ_=>rfl) (λx=>by simp) (l:=ny) (j:=0) (v:=0) (bs:=[.cells 0 (fM ny aD.enc),.cells aF.length (fM (bI b s aF) aD.enc)]) (J:=J) hJ rfl;rw[q2]at k11;simp only[List.set_cons_zero]at k11;have hyl:(bI b s aF).length=aF.length:=by simp[bI,hr.len]
 have k16:=nB (n:=15) (f:=aD.enc) (w:=3) (l:=bI b s aF) (j:=1) (v:=aF.length) (bs:=[.dead,.cells aF.length (fM (bI b s aF) aD.enc)]) (by decide) (λ_=>rfl) (λx=>by simp) hJ rfl
 try simp only[lF]at k16
 rw[hyl]at k16;simp[g4,g11,g16,k11,hS];rw[hny];rw[tA (by simp) (by omega)];simp only[lA,nf];rw[eW (by simp[D.clean,G6]) (by omega),k16,eW (by rfl) (by omega)];exact⟨_,rfl⟩
theorem QR{b:bU}{m:bV}{s:List Rock.aD}{aF:List Int}(h:Fv b m)(hs:Sv b s)(hr:Rv b aF):(mu b m s aF).length=b.n:=by
 obtain⟨fb,fl⟩:=Lz h hs;rw[<- MX hr hs.len,yo,(yY h.bv hs hr fb aF.length (aL _)).2,fl,hs.len]
theorem U2{b:bU}{m:bV}{s:List Rock.aD}{aF:List Int}(h:Fv b m)(hs:Sv b s)(hr:Rv b aF)(hJ:J≠[]):
  dj T (.call false xp [.agg [iI b.f.x,iI b.f.y,iI b.f.z,iI b.f.k,.bY b.dL.length (fM b.dL Rw.enc),iI b.cz,iI b.lift,iI b.deep,.bY b.av.length (fM b.av bG.enc)],.agg [.str m.name,.bY m.dn.length (fM m.dn aT)],.bY s.length (fM s aD.enc),.bY aF.length (fM aF aT)] J)=some (.val (.cV [.bY (mu b m s aF).length (fM (mu b m s aF) aD.enc),.bY (bI b s aF).length (fM (bI b s aF) aD.enc),.bool (pQ b (mu b m s aF))]) J):=by
 rw[QR h hs hr,show(bI b s aF).length=aF.length by simp[bI,hr.len]];exact Yl h hs hr hJ
def adP(J:SK)(r:Option (List (List Rock.aD)×List (List Rock.aD)))(x:Abs.Exit)(e:Env)(J':SK):Prop:=match r with
 |some (ss,ys)=>x=.exit 0/\(∃d6,get e 6=.own 0 d6/\d6.length=2)/\get e 8=.own 0 [.sl J.length 0 (ss.length-1) 0 ss.length 1,.sl J.length 1 ys.length 0 ys.length 1]/\J'=[.cells (ss.length-1) (fM ss kS),.cells ys.length (fM ys kS)]::J
 |none=>x=.ret/\get e 6=.own 0 [.aW,.aW]/\get e 7=.bool false/\∃bH,J'=bH::J
theorem Mn{b:bU}{m:bV}{az:List (List Int)}(h:Fv b m)(hp:az.length<=200)(hr:∀r∈az,Rv b r):∀(k i:Nat) (ss ys:List (List Rock.aD)) (s:List Rock.aD),i+k=az.length->ss.length=i+1->ys.length=i->ss[i]?=some s->Sv b s ->
  WL T [2,3,4,6,8,9] false lu [(2,lF az IA),(3,.bf (bL b)),(4,.bf (mL m)),(6,.own 0 [.aW,.aW]),(8,.own 0 [.sl J.length 0 i 0 (i+1) 1,.sl J.length 1 i 0 i 1]),(9,iI i)]
   ([.cells i (fM ss kS),.cells i (fM ys kS)]::J) (adP J (nS b m ss ys s (az.drop i)))
 |0,i,ss,ys,s,hi,h1,h2,h3,hs=>by
  refine aB lu.eq_1 ?_;obtain rfl:i=az.length:=by omega
  have h5:az.drop az.length=[]:=an (by omega);simp[h5,nS,adP,h1,h2]
 |k+1,i,ss,ys,s,hi,h1,h2,h3,hs=>by
  refine aB lu.eq_1 ?_;have⟨hlt,hii⟩:i<az.length/\(i:Int)<i+1:=by omega
  obtain⟨r,hx⟩:=gE hlt;have h4:=cr hlt (by omega);have h5:=bD hx;have a1:=bu (f:=IA) (w:=1) (λ_=>rfl) hx;simp only[IA,cp]at a1;have a2:=pA (f:=kS) (w:=1) (λ_=>rfl) h3;simp only[kS,cp,dJ]at a2;have hR:=hr r (aj hx);have hT:=λJ hJ=>U2 (J:=J) h hs hR hJ
  rw[h5,nS];cases hc:pQ b (mu b m s r)
  .have ht:tick b m s r=none:=by simp[tick,hc]
   rw[hc]at hT;simp[hlt,hii,a1,a2,hT,ht,adP]
  .have ht:tick b m s r=some (mu b m s r,bI b s r):=by simp[tick,hc]
   rw[hc]at hT;have ih:=Mn h hp hr k (i+1) (ss++[mu b m s r]) (ys++[bI b s r]) (mu b m s r) (by omega) (by simp[h1]) (by simp[h2]) (by simp[<- h1]) (Sv.next h.bv ht);have l1:=I0 ss;have l2:=I0 ys;rw[h1]at l1;rw[h2]at l2;have f1:(fM ss kS).take (i+1)=fM ss kS:=ai (by omega);have f2:(fM ys kS).take i=fM ys kS:=ai (by omega);have h7:=Nk (n:=i+1) (by omega);have h8:=Nk (n:=i+1+1) (by omega);rw[ht];generalize mu b m s r=s' at *
   generalize bI b s r=y at *
   simp[hlt,hii,h4,a1,a2,hT,f1,f2,l1,l2,h7,h8];exact WL.to ih (by simp) (by simp[kS]) λx e J hh=>hh
theorem I5{b:bU}{m:bV}{az:List (List Int)}(h:Fv b m)(hp:az.length<=200)(hr:∀r∈az,Rv b r)(hJ:J≠[]){ss ys:List (List Rock.aD)}(hrun:Rock.run b m az=some (ss,ys)){wq:D}(hwq:wq.pY=lF b.av bG.enc):
  Cl ka [.agg [iI b.f.x,iI b.f.y,iI b.f.z,iI b.f.k,lF b.dL Rw.enc,iI b.cz,iI b.lift,iI b.deep,wq],.agg (mL m),lF az IA] (.cV [.agg [lF ss kS,lF ys kS],.bool true]) J:=by
 refine au rfl rfl rfl ?_;have hf:=λJ hJ=>I7 (J:=J) h hJ
 simp[hwq,hf];refine WL.to (Mn (J:=J) h hp hr az.length 0 [bX b m] [] (bX b m) (by omega) rfl rfl rfl (Sv.first h)) (by simp) (by simp[kS,ou]) ?_;rw[aE,show nS b m [bX b m] [] (bX b m) az=some (ss,ys)from hrun];rintro x e J' ⟨rfl,⟨d6,g6,l6⟩,g8,rfl⟩;simp[g6,g8,l6];have c1:∀x:List Rock.aD,D.bd (kS x)=true:=λx=>by simp[kS,D.clean,G6]
 have k1:=nB (n:=14) (f:=kS) (w:=1) (l:=ss) (j:=0) (v:=ss.length-1) (bs:=[.cells (ss.length-1) (fM ss kS),.cells ys.length (fM ys kS)]) (by decide) (λ_=>rfl) c1 hJ rfl;have k2:=nB (n:=14) (f:=kS) (w:=1) (l:=ys) (j:=1) (v:=ys.length) (bs:=[.dead,.cells ys.length (fM ys kS)]) (by decide) (λ_=>rfl) c1 hJ rfl;simp only[List.set_cons_zero]at k1;rw[tA (by simp) (by omega)];simp only[lA,nf];rw[D8 (by simp) (by omega)];simp only[lA,nf];rw[k1];simp only;rw[k2,eW (by rfl) (by omega)];exact⟨_,rfl⟩
theorem P5{b:bU}{m:bV}{az:List (List Int)}(h:Fv b m)(hp:az.length<=200)(hr:∀r∈az,Rv b r)(hJ:J≠[])(hrun:Rock.run b m az=none){wq:D}(hwq:wq.pY=lF b.av bG.enc):
  Cl ka [.agg [iI b.f.x,iI b.f.y,iI b.f.z,iI b.f.k,lF b.dL Rw.enc,iI b.cz,iI b.lift,iI b.deep,wq],.agg (mL m),lF az IA] (.cV [.agg [.aW,.aW],.bool false]) J:=by
 refine au rfl rfl rfl ?_;have hf:=λJ hJ=>I7 (J:=J) h hJ
 simp[hwq,hf];refine WL.to (Mn (J:=J) h hp hr az.length 0 [bX b m] [] (bX b m) (by omega) rfl rfl rfl (Sv.first h)) (by simp) (by simp[kS,ou]) ?_;rw[aE,show nS b m [bX b m] [] (bX b m) az=none from hrun];rintro x e J' ⟨rfl,g6,g7,bH,rfl⟩;simp[g6,g7]
end Go.Proofs.YtpapbbojmclkgaaGreatDoor
