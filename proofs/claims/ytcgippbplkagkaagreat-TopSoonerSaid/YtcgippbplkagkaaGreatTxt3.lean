import Derived.Test.YtcgippbplkagkaaGreatTxt2
import Derived.Test.YtcgippbplkagkaaGreatTxt0
set_option linter.all false
namespace Go.Proofs.YtcgippbplkagkaaGreat
open List(length_flatMap map_take)
open Go Go.Abs Go.Rock
variable {σ:SK}
theorem xq{l:List aT}{j:Nat}{w:aT}(h:l[j]?=some w):((l.flatMap aT.enc).drop (j*3)).take 3=[.int .i64 w.b,.int .i64 w.h,.int .i64 w.m] :=
 cE (f:=aT.enc) (w:=3) (fun _=>rfl) h
theorem Df{b:bC}{w:aT}(hl:b.af.length≤1000){i:Nat}(hi:i<b.af.length):∀(k j:Nat),j+k=i →
  WL T [1,3,4,5] false ku [(1,.aK [.int .i64 b.f.x,.int .i64 b.f.y,.int .i64 b.f.z,.int .i64 b.f.k,.aE b.bY.length (b.bY.flatMap Rw.enc),.int .i64 b.aS,.int .i64 b.lift,.int .i64 b.deep,.aE b.af.length (b.af.flatMap aT.enc)]),(3,.int .i64 i),(4,.own 0 [.int .i64 w.b,.int .i64 w.h,.int .i64 w.m]),(5,.int .i64 j)] σ
   (fun x e σ'=>σ'=σ∧if(((b.af.take i).drop j).map aT.b).contains w.b then x=.ret∧get e 2=.bool false else x=.exit 2∧get e 1=.aK [.int .i64 b.f.x,.int .i64 b.f.y,.int .i64 b.f.z,.int .i64 b.f.k,.aE b.bY.length (b.bY.flatMap Rw.enc),.int .i64 b.aS,.int .i64 b.lift,.int .i64 b.deep,.aE b.af.length (b.af.flatMap aT.enc)]∧get e 3=.int .i64 i)
 |0,j,hj=>by
  refine aB ku.eq_1 ?_;obtain rfl:j=i:=by omega
  have h2:(b.af.take j).drop j=[]:=az (by rw[bO];omega);rw[h2];simp[-length_flatMap,-map_take]
 |k+1,j,hj=>by
  refine aB ku.eq_1 ?_;have h1:j<i:=by omega
  have h1':j<b.af.length:=by omega
  obtain⟨r,hr⟩:∃r,b.af[j]?=some r:=gE (by omega);have h2:=xq hr;have h4:=db h1' (by omega);have h5:(b.af.take i).drop j=r::(b.af.take i).drop (j+1):=cO (by rw[bZ];simp[h1,hr]);have ih:=Df (w:=w) hl hi k (j+1) (by omega);rw[h5,aG];by_cases hc:r.b=w.b
  ·simp[-length_flatMap,-map_take,h1,h1',h2,h4,hc]
  ·simp[-length_flatMap,-map_take,h1,h1',h2,h4,hc];have hc':¬w.b=r.b:=fun h=>hc h.symm
   exact WL.to ih (by simp) rfl fun x e σ' hh=>by simpa[hc']using hh
theorem AN{b:bC}(hf:b.f.valid=true)(hl:b.af.length≤8):∀(k i:Nat),i+k=b.af.length →
  WL T [1,3] false kz [(1,.aK [.int .i64 b.f.x,.int .i64 b.f.y,.int .i64 b.f.z,.int .i64 b.f.k,.aE b.bY.length (b.bY.flatMap Rw.enc),.int .i64 b.aS,.int .i64 b.lift,.int .i64 b.deep,.aE b.af.length (b.af.flatMap aT.enc)]),(3,.int .i64 i)] σ
   (fun x e σ'=>σ'=σ∧if gR b.size ((b.af.take i).map aT.b) (b.af.drop i)then x=.exit 0 else x=.ret∧get e 2=.bool false)
 |0,i,hi=>by
  refine aB kz.eq_1 ?_;have h1:¬i<b.af.length:=by omega
  have h2:b.af.drop i=[]:=az (by omega);simp[-length_flatMap,-map_take,h1,h2,gR]
 |k+1,i,hi=>by
  refine aB kz.eq_1 ?_;have h1:i<b.af.length:=by omega
  obtain⟨w,hw⟩:=gE h1;have h2:=xq hw;have h4:=db h1 (by omega);have h5:=cO hw;have ih:=AN hf hl k (i+1) (by omega);have e1:(b.af.take (i+1)).map aT.b=(b.af.take i).map aT.b++[w.b]:=by rw[List.take_add_one,hw];simp
  rw[e1]at ih;rw[h5,gR];have hS:=fun σ=>rY (σ:=σ) hf
  obtain⟨⟨s1,s2⟩,_⟩:=xV hf;have w1:=eW (n:=b.f.size-1) (by omega);have hsz:b.size=b.f.size:=rfl;rw[hsz]at ih ⊢;cases c1:cK w.b 0 (b.f.size-1)
  ·simp[-length_flatMap,-map_take,h1,h2,h4,hS,w1,iK,c1,aT.ok]
  cases c2:cK w.h 0 3000
  ·simp[-length_flatMap,-map_take,h1,h2,h4,hS,w1,iK,c1,c2,aT.ok]
  cases c3:cK w.m 0 1000000
  ·simp[-length_flatMap,-map_take,h1,h2,h4,hS,w1,iK,c1,c2,c3,aT.ok]
  simp[-length_flatMap,-map_take,h1,h2,h4,hS,w1,iK,c1,c2,c3];refine WL.to (Df (w:=w) (by omega) h1 i 0 (by omega)) (by simp) rfl ?_;rintro x e σ' ⟨rfl,h⟩;simp only[aO]at h;cases hc:((b.af.take i).map aT.b).contains w.b
  ·rw[hc]at h;simp at h;obtain⟨rfl,g1,g3⟩:=h;simp[-length_flatMap,-map_take,g1,g3,h4];have hc':¬w.b∈List.take i (List.map aT.b b.af):=by simpa using hc
   refine WL.to ih (by simp) rfl fun x e σ' hh=>?_
   simpa[aT.ok,c1,c2,c3,hc']using hh
  ·rw[hc]at h;simp at h;have hc':w.b∈List.take i (List.map aT.b b.af):=by simpa using hc
   simp[h,aT.ok,hc']
theorem TR{b:bC}(ht:b.bY.length≤9223372036854775807)(hw:b.af.length≤9223372036854775807):bG T (.call false lS [.agg [.int .i64 b.f.x,.int .i64 b.f.y,.int .i64 b.f.z,.int .i64 b.f.k,.aE b.bY.length (b.bY.flatMap Rw.enc),.int .i64 b.aS,.int .i64 b.lift,.int .i64 b.deep,.aE b.af.length (b.af.flatMap aT.enc)]] σ)=some (.val (.bool b.valid) σ):=by
 refine aA yy nO.eq_1 rfl ?_;have hT:=fun σ=>Fk (σ:=σ) ht
 have hF:=fun σ=>Fh (σ:=σ) (f:=b.f)
 unfold bC.valid bC.ok1;cases c1:b.f.valid
 ·simp[-length_flatMap,-map_take,hF,c1,bg,aH]
 by_cases c2:4≤b.f.k
 rotate_left
 ·simp[-length_flatMap,-map_take,hF,c1,c2,show b.f.k<4 by omega,bg,aH]
 have c2':¬b.f.k<4:=by omega
 cases c3:oq b.bY
 ·simp[-length_flatMap,-map_take,hF,hT,c1,c2,c2',c3,bg,aH]
 cases c4:cK b.aS 1 100000
 ·simp[-length_flatMap,-map_take,hF,hT,iK,c1,c2,c2',c3,c4,bg,aH]
 cases c5:cK b.lift 0 1000
 ·simp[-length_flatMap,-map_take,hF,hT,iK,c1,c2,c2',c3,c4,c5,bg,aH]
 cases c6:cK b.deep 0 3000
 ·simp[-length_flatMap,-map_take,hF,hT,iK,c1,c2,c2',c3,c4,c5,c6,bg,aH]
 by_cases c7:b.af.length≤8
 rotate_left
 ·simp[-length_flatMap,-map_take,hF,hT,iK,c1,c2,c2',c3,c4,c5,c6,c7,show(8:Int)<b.af.length by omega,bg,aH]
 simp[-length_flatMap,-map_take,hF,hT,iK,c1,c2,c2',c3,c4,c5,c6,c7,show ¬(8:Int)<b.af.length by omega,bg,aH];refine WL.to (AN (σ:=[]::σ) c1 c7 b.af.length 0 (by omega)) (by simp) (by simp) ?_;rintro x e σ' ⟨rfl,h⟩;simp only[aO,List.take_zero,bf]at h;cases hc:gR b.size [] b.af
 ·simp[hc]at h;simp[h,c2,c7]
 ·simp[hc]at h;simp[-length_flatMap,-map_take,h,c2,c7]
theorem u6{l:List bV}{j:Nat}{m:bV}(h:l[j]?=some m):((l.flatMap bV.enc).drop (j*2)).take 2=[.str m.name,.aE m.aP.length (m.aP.flatMap bx)] :=
 cE (f:=bV.enc) (w:=2) (fun _=>rfl) h
theorem AM{f:ej}{l:List bV}{m:bV}{i:Nat}(hm:l[i]?=some m)(hl:l.length≤9223372036854775807):∀(k j:Nat),j+k=i →
  WL T [1,2,5,7] false fq [(1,.aE l.length (l.flatMap bV.enc)),(2,.aK [.int .i64 f.x,.int .i64 f.y,.int .i64 f.z,.int .i64 f.k]),(5,.int .i64 i),(7,.int .i64 j)] σ
   (fun x e σ'=>σ'=σ∧if(((l.take i).drop j).map bV.name).contains m.name then x=.ret∧get e 4=.int .i64 6 else x=.exit 2∧get e 1=.aE l.length (l.flatMap bV.enc)∧get e 2=.aK [.int .i64 f.x,.int .i64 f.y,.int .i64 f.z,.int .i64 f.k]∧get e 5=.int .i64 i)
 |0,j,hj=>by
  refine aB fq.eq_1 ?_;obtain rfl:j=i:=by omega
  have h2:(l.take j).drop j=[]:=az (by rw[bO];omega);rw[h2];simp[-length_flatMap,-map_take]
 |k+1,j,hj=>by
  refine aB fq.eq_1 ?_;have h0:i<l.length:=(an.1 hm).1;have h1:j<i:=by omega
  have h1':j<l.length:=by omega
  obtain⟨r,hr⟩:∃r,l[j]?=some r:=gE (by omega);have h2:=u6 hr;have h3:=u6 hm;have h4:=db h1' (by omega);have h5:(l.take i).drop j=r::(l.take i).drop (j+1):=cO (by rw[bZ];simp[h1,hr]);have ih:=AM (f:=f) hm hl k (j+1) (by omega);rw[h5,aG];have hp:wV (.seq false) [.str r.name,.str m.name]=some (.bool (r.name == m.name)):=rfl;by_cases hc:r.name=m.name
  ·rw[hc]at hp;simp[-length_flatMap,-map_take,h0,h1,h1',h2,h3,h4,hp,hc]
  ·have hc':¬m.name=r.name:=fun h=>hc h.symm
   have hb:(r.name == m.name)=false:=by simpa using hc
   rw[hb]at hp;simp[-length_flatMap,-map_take,h0,h1,h1',h2,h3,h4,hp];exact WL.to ih (by simp) rfl fun x e σ' hh=>by simpa[hc']using hh
theorem yU{f:ej}{l:List bV}(hf:f.valid=true)(hs:∀m∈l,m.name.length≤9223372036854775807∧m.aP.length≤9223372036854775807)(hl:l.length≤9223372036854775807):∀(k i:Nat),i+k=l.length →
  WL T [1,2,5] false ft [(1,.aE l.length (l.flatMap bV.enc)),(2,.aK [.int .i64 f.x,.int .i64 f.y,.int .i64 f.z,.int .i64 f.k]),(5,.int .i64 i)] σ
   (fun x e σ'=>σ'=σ∧if f.each ((l.take i).map bV.name) (l.drop i)=0 then x=.exit 0 else x=.ret∧get e 4=.int .i64 (f.each ((l.take i).map bV.name) (l.drop i)))
 |0,i,hi=>by
  refine aB ft.eq_1 ?_;have h1:¬i<l.length:=by omega
  have h2:l.drop i=[]:=az (by omega);simp[-length_flatMap,-map_take,h1,h2,ej.each]
 |k+1,i,hi=>by
  refine aB ft.eq_1 ?_;have h1:i<l.length:=by omega
  obtain⟨m,hm⟩:=gE h1;have h2:=u6 hm;have h4:=db h1 (by omega);have h5:=cO hm;obtain⟨hs1,hs2⟩:=hs m (aj hm);have hC:=fun σ=>AH (σ:=σ) hf hs1 hs2
  have ih:=yU hf hs hl k (i+1) (by omega);have e1:(l.take (i+1)).map bV.name=(l.take i).map bV.name++[m.name]:=by rw[List.take_add_one,hm];simp
  rw[e1]at ih;rw[h5,ej.each];by_cases hc1:f.model m=0
  ·simp[-length_flatMap,-map_take,h1,h2,h4,hC,hc1];refine WL.to (AM (f:=f) hm hl i 0 (by omega)) (by simp) rfl ?_;rintro x e σ' ⟨rfl,h⟩;simp only[aO]at h;cases hc:((l.take i).map bV.name).contains m.name
   ·rw[hc]at h;simp at h;obtain⟨rfl,g1,g2,g5⟩:=h;simp[-length_flatMap,-map_take,g1,g2,g5,h4];have hc':¬m.name∈List.take i (List.map bV.name l):=by simpa using hc
    exact WL.to ih (by simp) rfl fun x e σ' hh=>by simpa[hc1,hc']using hh
   ·rw[hc]at h;simp at h;have hc':m.name∈List.take i (List.map bV.name l):=by simpa using hc
    simp[h,hc',hc1]
  ·simp[-length_flatMap,-map_take,h1,h2,h4,hC,hc1]
theorem Eh{f:ej}{l:List bV}(hf:f.valid=true)(hs:∀m∈l,m.name.length≤9223372036854775807∧m.aP.length≤9223372036854775807)(hl:l.length≤9223372036854775807):
  bG T (.call false fJ [.agg [.int .i64 f.x,.int .i64 f.y,.int .i64 f.z,.int .i64 f.k],.aE l.length (l.flatMap bV.enc)] σ)=some (.val (.int .i64 (f.kT l)) σ):=by
 refine aA tw iV.eq_1 rfl ?_;unfold ej.kT;by_cases h1:l.length<1
 ·have h0:l=[]:=dJ.1 (by omega);subst h0;simp[-length_flatMap,-map_take,cK]
 by_cases h2:40<l.length
 ·have hi:cK l.length 1 40=false:=by simp[cK];omega
  simp[-length_flatMap,-map_take,hi,show ¬(l.length:Int)<1 by omega,show(40:Int)<l.length by omega]
 have hi:cK l.length 1 40=true:=bD.2 (by omega);have hne:l≠[]:=fun h=>h1 (by rw[h];decide)
 simp[-length_flatMap,-map_take,hi,show ¬(l.length:Int)<1 by omega,show ¬(40:Int)<l.length by omega,hne];refine WL.to (yU (σ:=[]::σ) hf hs hl l.length 0 (by omega)) (by simp) (by simp) ?_;rintro x e σ' ⟨rfl,h⟩;simp only[aO,List.take_zero,bf]at h;by_cases hc:f.each [] l=0
 ·rw[if_pos hc]at h;subst h;simp[-length_flatMap,-map_take,hc,hi]
 ·rw[if_neg hc]at h;obtain⟨rfl,h⟩:=h;simp[h,hi]
theorem uC{b:bC}{m:bV}(h:Mv b m){k i:Nat}(hk:k<4)(hi:i<b.n):bG T (.call false gj [.agg [.int .i64 b.f.x,.int .i64 b.f.y,.int .i64 b.f.z,.int .i64 b.f.k,.aE b.bY.length (b.bY.flatMap Rw.enc),.int .i64 b.aS,.int .i64 b.lift,.int .i64 b.deep,.aE b.af.length (b.af.flatMap aT.enc)],.agg [.str m.name,.aE m.aP.length (m.aP.flatMap bx)],.int .i64 k,.int .i64 i] σ)=some (.val (.int .i64 (ju b m k i)) σ):=by
 refine aA yz nP.eq_1 rfl ?_;have hS:=fun σ=>rY (σ:=σ) h.bv.fv
 have hsz:b.f.size=(b.n:Int):=h.bv.sz;rw[hsz]at hS;have hn:=h.bv.n;obtain⟨g1,g2⟩:=h.le;have hkn:k*b.n≤3*b.n:=bW _ (by omega);have hlt:k*b.n+i<m.aP.length:=by omega
 have w1:=eW (n:=(k:Int)*(b.n:Int)) (by rw[← Int.natCast_mul];omega);have w2:=eW (n:=(k:Int)*(b.n:Int)+i) (by rw[← Int.natCast_mul];omega);obtain⟨c,hc⟩:∃c,m.aP[k*b.n+i]?=some c:=⟨_,au hlt⟩;have e1:ju b m k i=c:=by simp[ju,hc]
 have h2:=nS hc;have e2:(k:Int)*(b.n:Int)+(i:Int)=((k*b.n+i:Nat):Int):=by push_cast;rfl
 have h3:((k*b.n+i:Nat):Int)<(m.aP.length:Int):=by omega
 have h4:(0:Int)≤((k*b.n+i:Nat):Int):=by omega
 rw[e2]at w2;rw[e1];generalize k*b.n+i=j at *
 simp[-length_flatMap,-map_take,hS,w1,e2,w2,hlt,h2,bg,aH,aV]
def DH(b:bC)(m:bV)(i:Nat):Bool:=cK (ju b m 0 i) 1000 100000 && (cK (ju b m 1 i) 0 1000 && (cK (ju b m 2 i) 0 3000 && cK (ju b m 3 i) 0 1000))
def uP(b:bC)(m:bV)(i:Nat):Nat→Bool
 |0=>true
 |k+1=>DH b m i && uP b m (i+1) k
theorem zd{b:bC}{m:bV}:∀{k i:Nat},uP b m i k=true↔∀j,i≤j→j<i+k→DH b m j=true
 |0,i=>by simp[uP];omega
 |k+1,i=>by
  rw[uP,ak,zd];constructor
  ·intro⟨h1,h2⟩ j h3 h4;by_cases hj:j=i
   ·subst hj;exact h1
   ·exact h2 j (by omega) (by omega)
  ·intro h;exact⟨h i (by omega) (by omega),fun j h3 h4=>h j (by omega) (by omega)⟩
theorem zS{b:bC}{m:bV}(h:Bv b):er b.f [m]=0↔b.f.model m=0:=by
 simp only[er,h.fv,if_true,ej.kT,ej.each];have h1:cK (([m]:List bV).length:Nat) 1 40=true:=by simp[cK]
 rw[if_pos h1];by_cases hc:b.f.model m=0
 ·simp[hc]
 ·simp[hc]
theorem DI{b:bC}{m:bV}(h:Bv b):fits b m=(decide (b.f.model m=0) && uP b m 0 b.n):=by
 by_cases hc:b.f.model m=0
 ·have hm:=Mv.of h ((zS h).2 hc);have hcm:=(zS h).2 hc;have key:∀{k:Nat} {lo hi:Int},k<4→(eH (oc b m k) (fun n=>cK n lo hi)=true↔∀i,i<b.n→cK (ju b m k i) lo hi=true):=by
   intro k lo hi hk;rw[jW];constructor
   ·intro ha i hi';exact ha _ (aj (oP hm hk hi'))
   ·intro ha x hx;obtain⟨i,hi'⟩:=cX hx;have hlt:i<b.n:=by have:=(an.1 hi').1;rwa[zk hm hk]at this
    rw[oP hm hk hlt]at hi';cases hi';exact ha i hlt
  rw[Bool.eq_iff_iff];simp only[fits,hcm,hc,decide_true,Bool.true_and,ak,zd,DH];rw[key (by decide),key (by decide),key (by decide),key (by decide)];constructor
  ·intro⟨h1,h2,h3,h4⟩ j _ hj;exact⟨h1 j (by omega),h2 j (by omega),h3 j (by omega),h4 j (by omega)⟩
  ·intro hh;exact⟨fun i hi=>(hh i (by omega) (by omega)).1,fun i hi=>(hh i (by omega) (by omega)).2.1,fun i hi=>(hh i (by omega) (by omega)).2.2.1,fun i hi=>(hh i (by omega) (by omega)).2.2.2⟩
 ·have hcm:¬er b.f [m]=0:=fun hh=>hc ((zS h).1 hh)
  simp[fits,hc,hcm]
theorem Dc{b:bC}{m:bV}(h:Mv b m):∀(k i:Nat),i+k=b.n →
  WL T [2,3,5] false l4 [(2,.aK [.int .i64 b.f.x,.int .i64 b.f.y,.int .i64 b.f.z,.int .i64 b.f.k,.aE b.bY.length (b.bY.flatMap Rw.enc),.int .i64 b.aS,.int .i64 b.lift,.int .i64 b.deep,.aE b.af.length (b.af.flatMap aT.enc)]),(3,.aK [.str m.name,.aE m.aP.length (m.aP.flatMap bx)]),(5,.int .i64 i)] σ
   (fun x e σ'=>σ'=σ∧if uP b m i k then x=.exit 0 else x=.ret∧get e 4=.bool false)
 |0,i,hi=>by
  refine aB l4.eq_1 ?_;have hS:=fun σ=>rY (σ:=σ) h.bv.fv
  have hsz:b.f.size=(b.n:Int):=h.bv.sz;rw[hsz]at hS;have h1:¬i<b.n:=by omega
  simp[-length_flatMap,-map_take,hS,h1,uP,bg,aH,aV]
 |k+1,i,hi=>by
  refine aB l4.eq_1 ?_;have hS:=fun σ=>rY (σ:=σ) h.bv.fv
  have hsz:b.f.size=(b.n:Int):=h.bv.sz;rw[hsz]at hS;have hn:=h.bv.n;have h1:i<b.n:=by omega
  have h4:=db h1 (by omega);have v0:=fun σ=>uC (σ:=σ) h (k:=0) (i:=i) (by decide) h1
  have v1:=fun σ=>uC (σ:=σ) h (k:=1) (i:=i) (by decide) h1
  have v2:=fun σ=>uC (σ:=σ) h (k:=2) (i:=i) (by decide) h1
  have v3:=fun σ=>uC (σ:=σ) h (k:=3) (i:=i) (by decide) h1
  simp only[show((0:Nat):Int)=0 from rfl,show((1:Nat):Int)=1 from rfl,show((2:Nat):Int)=2 from rfl,show((3:Nat):Int)=3 from rfl]at v0 v1 v2 v3;have ih:=Dc h k (i+1) (by omega);rw[uP,DH];cases c0:cK (ju b m 0 i) 1000 100000
  ·simp[-length_flatMap,-map_take,hS,h1,h4,v0,iK,c0,bg,aH,aV]
  cases c1:cK (ju b m 1 i) 0 1000
  ·simp[-length_flatMap,-map_take,hS,h1,h4,v0,v1,iK,c0,c1,bg,aH,aV]
  cases c2:cK (ju b m 2 i) 0 3000
  ·simp[-length_flatMap,-map_take,hS,h1,h4,v0,v1,v2,iK,c0,c1,c2,bg,aH,aV]
  cases c3:cK (ju b m 3 i) 0 1000
  ·simp[-length_flatMap,-map_take,hS,h1,h4,v0,v1,v2,v3,iK,c0,c1,c2,c3,bg,aH,aV]
  simp[-length_flatMap,-map_take,hS,h1,h4,v0,v1,v2,v3,iK,c0,c1,c2,c3,bg,aH,aV];exact WL.to ih (by simp) rfl fun x e σ' hh=>by simpa using hh
theorem J4{b:bC}{m:bV}(h:Bv b)(hn:m.name.length≤9223372036854775807)(hl:m.aP.length≤9223372036854775807):bG T (.call false mP [.agg [.int .i64 b.f.x,.int .i64 b.f.y,.int .i64 b.f.z,.int .i64 b.f.k,.aE b.bY.length (b.bY.flatMap Rw.enc),.int .i64 b.aS,.int .i64 b.lift,.int .i64 b.deep,.aE b.af.length (b.af.flatMap aT.enc)],.agg [.str m.name,.aE m.aP.length (m.aP.flatMap bx)]] σ)=some (.val (.bool (fits b m)) σ):=by
 refine aA zL oz.eq_1 rfl ?_;have hM:=fun σ=>AH (σ:=σ) (m:=m) h.fv hn hl
 rw[DI h];by_cases hc:b.f.model m=0
 ·have hm:=Mv.of h ((zS h).2 hc);simp[-length_flatMap,-map_take,hM,hc,bg,aH,aV];refine WL.to (Dc (σ:=[]::σ) hm b.n 0 (by omega)) (by simp) (by simp) ?_;rintro x e σ' ⟨rfl,hh⟩;cases hf:uP b m 0 b.n
  ·simp[hf]at hh;simp[hh,hc]
  ·simp[hf]at hh;simp[-length_flatMap,-map_take,hh,hc]
 ·simp[-length_flatMap,-map_take,hM,hc,bg,aH,aV]
def xU(b:bC)(l:List bV):Int:=if cK l.length 1 40 then(if b.f.kT l=0 then(if eH l (fits b)then 0 else 1)else 1)else 3
theorem Ls{b:bC}{l:List bV}(h:Bv b)(hs:∀m∈l,m.name.length≤9223372036854775807∧m.aP.length≤9223372036854775807)(hl:l.length≤9223372036854775807):∀(k i:Nat),i+k=l.length →
  WL T [1,2,5] false fu [(1,.aE l.length (l.flatMap bV.enc)),(2,.aK [.int .i64 b.f.x,.int .i64 b.f.y,.int .i64 b.f.z,.int .i64 b.f.k,.aE b.bY.length (b.bY.flatMap Rw.enc),.int .i64 b.aS,.int .i64 b.lift,.int .i64 b.deep,.aE b.af.length (b.af.flatMap aT.enc)]),(5,.int .i64 i)] σ
   (fun x e σ'=>σ'=σ∧if eH (l.drop i) (fits b)then x=.exit 0 else x=.ret∧get e 4=.int .i64 1)
 |0,i,hi=>by
  refine aB fu.eq_1 ?_;have h1:¬i<l.length:=by omega
  have h2:l.drop i=[]:=az (by omega);simp[-length_flatMap,-map_take,h1,h2,eH]
 |k+1,i,hi=>by
  refine aB fu.eq_1 ?_;have h1:i<l.length:=by omega
  obtain⟨m,hm⟩:=gE h1;have h2:=u6 hm;have h4:=db h1 (by omega);have h5:=cO hm;obtain⟨hs1,hs2⟩:=hs m (aj hm);have hC:=fun σ=>J4 (σ:=σ) h hs1 hs2
  have ih:=Ls h hs hl k (i+1) (by omega);rw[h5,pU];cases hc:fits b m
  ·simp[-length_flatMap,-map_take,h1,h2,h4,hC,hc,bg,aH,aV]
  ·simp[-length_flatMap,-map_take,h1,h2,h4,hC,hc,bg,aH,aV];exact WL.to ih (by simp) rfl fun x e σ' hh=>by simpa[hc]using hh
theorem Xg{b:bC}{l:List bV}(h:Bv b)(hs:∀m∈l,m.name.length≤9223372036854775807∧m.aP.length≤9223372036854775807)(hl:l.length≤9223372036854775807):
  bG T (.call false fK [.agg [.int .i64 b.f.x,.int .i64 b.f.y,.int .i64 b.f.z,.int .i64 b.f.k,.aE b.bY.length (b.bY.flatMap Rw.enc),.int .i64 b.aS,.int .i64 b.lift,.int .i64 b.deep,.aE b.af.length (b.af.flatMap aT.enc)],.aE l.length (l.flatMap bV.enc)] σ)=some (.val (.int .i64 (xU b l)) σ):=by
 refine aA tx iW.eq_1 rfl ?_;unfold xU;have hM:=fun σ=>Eh (σ:=σ) h.fv hs hl
 by_cases h1:l.length<1
 ·have h0:l=[]:=dJ.1 (by omega);subst h0;simp[-length_flatMap,-map_take,cK,bg,aH,aV]
 by_cases h2:40<l.length
 ·have hi:cK l.length 1 40=false:=by simp[cK];omega
  simp[-length_flatMap,-map_take,hi,show ¬(l.length:Int)<1 by omega,show(40:Int)<l.length by omega,bg,aH,aV]
 have hi:cK l.length 1 40=true:=bD.2 (by omega);have hne:l≠[]:=fun h=>h1 (by rw[h];decide)
 by_cases h3:b.f.kT l=0
 ·simp[-length_flatMap,-map_take,hi,show ¬(l.length:Int)<1 by omega,show ¬(40:Int)<l.length by omega,hne,hM,h3,bg,aH,aV];refine WL.to (Ls (σ:=[]::σ) h hs hl l.length 0 (by omega)) (by simp) (by simp) ?_;rintro x e σ' ⟨rfl,hh⟩;simp only[aO]at hh;cases hc:eH l (fits b)
  ·simp[hc]at hh;simp[hh,hi,h3]
  ·simp[hc]at hh;simp[-length_flatMap,-map_take,hh,hi,h3]
 ·simp[-length_flatMap,-map_take,hi,show ¬(l.length:Int)<1 by omega,show ¬(40:Int)<l.length by omega,hne,hM,h3,bg,aH,aV]
def wx(b:bC)(l:List bV)(plan:List (List Int)):Bool:=b.valid && (decide (l.length≤4) && (decide (xU b l=0) && (decide (plan.length≤6) && decide (sG b plan=0))))
theorem VU(l:List Rw):(l.flatMap Rw.enc).length=l.length*5:=j1 (f:=Rw.enc) (w:=5) (fun _=>rfl) l
theorem F8(l:List aT):(l.flatMap aT.enc).length=l.length*3:=j1 (f:=aT.enc) (w:=3) (fun _=>rfl) l
theorem Dg{t:List Rw}(ht:t.length≤20):∀(n i:Nat),i+n=t.length →
  WL T [0,3,4] false lf [(0,.aE t.length (t.flatMap Rw.enc)),(3,.sl σ.length 0 i 0 i 5),(4,.int .i64 i)] ([.cells i ((t.take i).flatMap Rw.enc)]::σ)
   (fun x e σ'=>x=.exit 0∧get e 3=.sl σ.length 0 t.length 0 t.length 5∧σ'=[.cells t.length (t.flatMap Rw.enc)]::σ)
 |0,i,hi=>by
  refine aB lf.eq_1 ?_;obtain rfl:i=t.length:=by omega
  simp[-length_flatMap,-map_take]
 |n+1,i,hi=>by
  refine aB lf.eq_1 ?_;have h1:i<t.length:=by omega
  obtain⟨r,hr⟩:=gE h1;have h2:=cE (f:=Rw.enc) (w:=5) (fun _=>rfl) hr;have h4:=db h1 (by omega);have ih:=Dg ht n (i+1) (by omega);have a3:=mj (f:=Rw.enc) hr;have a4:=VU (t.take i);rw[bO,Nat.min_eq_left (by omega)]at a4;have a6:((t.take i).flatMap Rw.enc).take (i*5)=(t.take i).flatMap Rw.enc:=aq (by omega);have h7:(i+1)*40≤room:=by unfold room;omega
  simp[-length_flatMap,-map_take,h1,h2,h4,a4,a6,h7];exact WL.to ih (by simp) (by simp[← a3]) fun x e σ hh=>hh
theorem Fl{t:List Rw}(ht:t.length≤20):bG T (.call true lO [.aE t.length (t.flatMap Rw.enc)] ([]::σ))=some (.val (.sl σ.length 0 t.length 0 t.length 5) ([.cells t.length (t.flatMap Rw.enc)]::σ)):=by
 refine uJ yq nJ.eq_1 rfl ?_;simp[-length_flatMap,-map_take];refine WL.to (Dg (σ:=σ) ht t.length 0 (by omega)) (by simp) (by simp) ?_;rintro x e σ' ⟨rfl,g3,rfl⟩;simp[-length_flatMap,-map_take,g3]
theorem AG{f:ej}:bG T (.call false j7 [.agg [.int .i64 f.x,.int .i64 f.y,.int .i64 f.z,.int .i64 f.k]] σ)=some (.val (.agg [.int .i64 f.x,.int .i64 f.y,.int .i64 f.z,.int .i64 f.k]) σ):=by
 refine aA yr nK.eq_1 rfl ?_;simp[-length_flatMap,-map_take]
def Wm(b:bC)(L i:Nat):List D:=[.int .i64 b.f.x,.int .i64 b.f.y,.int .i64 b.f.z,.int .i64 b.f.k,.sl L 0 b.bY.length 0 b.bY.length 5,.int .i64 b.aS,.int .i64 b.lift,.int .i64 b.deep,.sl L 1 i 0 i 3]
theorem Lr{b:bC}(hw:b.af.length≤8):∀(n i:Nat),i+n=b.af.length →
  WL T [1,2,3,4] false mF [(1,.aK [.int .i64 b.f.x,.int .i64 b.f.y,.int .i64 b.f.z,.int .i64 b.f.k,.aE b.bY.length (b.bY.flatMap Rw.enc),.int .i64 b.aS,.int .i64 b.lift,.int .i64 b.deep,.aE b.af.length (b.af.flatMap aT.enc)]),(2,.own 0 [.int .i64 0,.int .i64 0,.int .i64 0,.int .i64 0,.bw,.int .i64 0,.int .i64 0,.int .i64 0,.bw]),(3,.own 0 (Wm b σ.length i)),(4,.int .i64 i)] ([.cells b.bY.length (b.bY.flatMap Rw.enc),.cells i ((b.af.take i).flatMap aT.enc)]::σ)
   (fun x e σ'=>x=.exit 0∧get e 2=.own 0 [.int .i64 0,.int .i64 0,.int .i64 0,.int .i64 0,.bw,.int .i64 0,.int .i64 0,.int .i64 0,.bw]∧get e 3=.own 0 (Wm b σ.length b.af.length)∧σ'=[.cells b.bY.length (b.bY.flatMap Rw.enc),.cells b.af.length (b.af.flatMap aT.enc)]::σ)
 |0,i,hi=>by
  refine aB mF.eq_1 ?_;obtain rfl:i=b.af.length:=by omega
  simp[-length_flatMap,-map_take,Wm]
 |n+1,i,hi=>by
  refine aB mF.eq_1 ?_;have h1:i<b.af.length:=by omega
  obtain⟨r,hr⟩:=gE h1;have h2:=xq hr;have h4:=db h1 (by omega);have ih:=Lr hw n (i+1) (by omega);have a3:=mj (f:=aT.enc) hr;have a4:=F8 (b.af.take i);rw[bO,Nat.min_eq_left (by omega)]at a4;have a6:((b.af.take i).flatMap aT.enc).take (i*3)=(b.af.take i).flatMap aT.enc:=aq (by omega);have h7:(i+1)*24≤room:=by unfold room;omega
  simp only[Wm]at ih ⊢;simp[-length_flatMap,-map_take,h1,h2,h4,a4,a6,h7];exact WL.to ih (by simp) (by simp[← a3]) fun x e σ hh=>hh
theorem TQ{b:bC}(ht:b.bY.length≤20)(hw:b.af.length≤8)(hσ:σ≠[]):bG T (.call false n0 [.agg [.int .i64 b.f.x,.int .i64 b.f.y,.int .i64 b.f.z,.int .i64 b.f.k,.aE b.bY.length (b.bY.flatMap Rw.enc),.int .i64 b.aS,.int .i64 b.lift,.int .i64 b.deep,.aE b.af.length (b.af.flatMap aT.enc)]] σ)=some (.val (.agg [.int .i64 b.f.x,.int .i64 b.f.y,.int .i64 b.f.z,.int .i64 b.f.k,.aE b.bY.length (b.bY.flatMap Rw.enc),.int .i64 b.aS,.int .i64 b.lift,.int .i64 b.deep,.aE b.af.length (b.af.flatMap aT.enc)]) σ):=by
 refine aA AQ pn.eq_1 rfl ?_;have hT:=fun σ=>Fl (σ:=σ) ht
 have hF:=fun σ=>AG (σ:=σ) (f:=b.f)
 simp[-length_flatMap,-map_take,hF,hT,bg,aH];refine WL.to (Lr (σ:=σ) hw b.af.length 0 (by omega)) (by simp[Wm]) (by simp) ?_;rintro x e σ' ⟨rfl,g2,g3,rfl⟩;simp[-length_flatMap,-map_take,g2,g3,Wm];rw[DK (by simp) (by omega)];have hi:∀(k:IntKind) (n:Int) (S:SK),cb (σ.length-1) (16-1) (.int k n) S=(.int k n,S):=fun k n S=>oG rfl (by omega)
 simp only[vH,xJ,hi];rw[qd (f:=Rw.enc) (by decide) (fun _=>rfl) (fun x=>by simp) hσ (by simp)];simp only[List.set_cons_succ,List.set_cons_zero];rw[qd (f:=aT.enc) (by decide) (fun _=>rfl) (fun x=>by simp) hσ (by simp)];exact⟨_,rfl⟩
theorem Fi{m:bV}(hl:m.aP.length≤1000)(hσ:σ≠[]):bG T (.call false lP [.agg [.str m.name,.aE m.aP.length (m.aP.flatMap bx)]] σ)=some (.val (.agg [.str m.name,.aE m.aP.length (m.aP.flatMap bx)]) σ):=by
 refine aA yt nL.eq_1 rfl ?_;have h8:m.aP.length*8≤room:=by unfold room;omega
 have i1:=wU m.aP;have hfz:=DP (f:=bx) (w:=1) (fun _=>rfl) (fun x=>by simp) (l:=m.aP) (j:=0) (v:=1) (bs:=[.cells 1 (m.aP.flatMap bx)]) (σ:=σ) hσ rfl;simp[-length_flatMap,-map_take,aV,h8,i1,hfz]
theorem Cg{l i v off:Nat}:bG T (.so gk [.ref l i v off] none σ)=some (.val (.fj []) σ):=by
 refine AY tH lK.eq_1 rfl (by simp[-length_flatMap,-map_take,oK];exact⟨rfl,rfl⟩) ?_;simp[-length_flatMap,-map_take]
theorem wh{α:Type}{f:α→Int}:∀{l:List α},gf f l=0→∀x∈l,f x=0
 |[],_,x,hx=>by cases hx
 |a::l,h,x,hx=>by
  simp only[gf]at h;split at h
  ·rename_i ha;rcases bj.1 hx with rfl | hx
   ·exact ha
   ·exact wh h x hx
  ·rename_i ha;exact absurd h ha
theorem CO{b:bC}{plan:List (List Int)}(h:sG b plan=0):plan.length≤200∧∀r∈plan,Rv b r:=by
 unfold sG at h;split at h
 ·cases h
 ·exact⟨by omega,fun r hr=>Rv.of (wh h r hr)⟩
structure Ok(b:bC)(l:List bV)(plan:List (List Int)):Prop where
 bv:Bv b
 valid:b.valid=true
 len:1≤l.length∧l.length≤40
 kT:b.f.kT l=0
 fit:∀m∈l,fits b m=true
 fv:∀m∈l,Fv b m
 short:∀m∈l,m.name.length≤1000000000∧m.aP.length≤384
 pl:sG b plan=0
 K5:plan.length≤200
 aD:∀r∈plan,Rv b r
theorem Vf{b:bC}{m:bV}(h:Bv b)(hf:fits b m=true):m.name.length≤16:=by
 rw[DI h,ak,av]at hf;have hm:=hf.1;unfold ej.model at hm;split at hm
 ·rename_i hn;simp only[named,ak]at hn;have:=bD.1 hn.2;omega
 ·cases hm
theorem Ok.of{b:bC}{l:List bV}{plan:List (List Int)}(h:wx b l plan=true):Ok b l plan:=by
 simp only[wx,ak,av]at h;obtain⟨h1,h2,h3,h4,h5⟩:=h;have hb:=Bv.of h1;unfold xU at h3;split at h3
 ·rename_i hi;split at h3
  ·rename_i hm;split at h3
   ·rename_i hf;have hfit:∀m∈l,fits b m=true:=jW.1 hf;have hfv:∀m∈l,Fv b m:=fun m hm=>Fv.of (by simp[Bd,h1,hfit m hm])
    exact⟨hb,h1,⟨by have:=bD.1 hi;omega,by omega⟩,hm,hfit,hfv,fun m hm=>⟨by have:=Vf hb (hfit m hm);omega,(hfv m hm).toMv.le.2⟩,h5,by omega,(CO h5).2⟩
   ·cases h3
  ·cases h3
 ·cases h3
theorem Ok.check{b:bC}{l:List bV}{plan:List (List Int)}(h:Ok b l plan):er b.f l=0:=by
 simp[er,h.bv.fv,h.kT]
theorem Fx{b:bC}{m:bV}(h:Bv b)(hn:m.name.length≤1000000000)(hl:m.aP.length≤1000000000):bG T (.call false jt [.agg [.str m.name,.aE m.aP.length (m.aP.flatMap bx)],.aK [.int .i64 b.f.x,.int .i64 b.f.y,.int .i64 b.f.z,.int .i64 b.f.k,.aE b.bY.length (b.bY.flatMap Rw.enc),.int .i64 b.aS,.int .i64 b.lift,.int .i64 b.deep,.aE b.af.length (b.af.flatMap aT.enc)]] σ)=some (.val (.bool (fits b m)) σ):=by
 refine aA xh mJ.eq_1 rfl ?_;have hC:=fun σ=>TX (σ:=σ) (m:=m) h hn hl
 simp[-length_flatMap,-map_take,hC,bg,aH,aV]
theorem B5{b:bC}{l:List bV}(h:Bv b)(hs:∀m∈l,m.name.length≤1000000000∧m.aP.length≤1000000000)(hl:l.length≤1000000000):
  bG T (.call false dY [.aE l.length (l.flatMap bV.enc),.fn jt [] [.aK [.int .i64 b.f.x,.int .i64 b.f.y,.int .i64 b.f.z,.int .i64 b.f.k,.aE b.bY.length (b.bY.flatMap Rw.enc),.int .i64 b.aS,.int .i64 b.lift,.int .i64 b.deep,.aE b.af.length (b.af.flatMap aT.enc)]]] σ)=some (.val (.bool (eH l (fits b))) σ) :=
 zP (sq 2 bV.enc (fun _=>rfl)) (f:=dY) (g:=eV) (h:=cF) (i:=di) (l:=l) (p:=fits b) rfl rfl rfl rfl (by omega) (lz.fn fun x hx σ=>Fx h (hs x hx).1 (hs x hx).2) rfl
theorem C8{b:bC}{l:List bV}{plan:List (List Int)}(h:Ok b l plan):
  bG T (.call false mQ [.agg [.int .i64 b.f.x,.int .i64 b.f.y,.int .i64 b.f.z,.int .i64 b.f.k,.aE b.bY.length (b.bY.flatMap Rw.enc),.int .i64 b.aS,.int .i64 b.lift,.int .i64 b.deep,.aE b.af.length (b.af.flatMap aT.enc)],.aE l.length (l.flatMap bV.enc),.aE plan.length (plan.flatMap kK)] σ)=some (.val (.int .i64 0) σ):=by
 refine aA zM oA.eq_1 rfl ?_;have hs:∀m∈l,m.name.length≤1000000000∧m.aP.length≤1000000000:=fun m hm=>⟨(h.short m hm).1,by have:=(h.short m hm).2;omega⟩
 have hl:=h.len;have htab:=h.bv.bY;have ht:b.bY.length≤1000000000:=by
  simp only[oq,ak]at htab;have:=bD.1 htab.1;omega
 have h1:=fun σ=>Fm (σ:=σ) (b:=b) ht (by have:=h.bv.af;omega)
 have h2:=fun σ=>tG (σ:=σ) (f:=b.f) (l:=l) hs (by omega)
 have h3:=fun σ=>B5 (σ:=σ) (l:=l) h.bv hs (by omega)
 have h4:=fun σ=>TY (σ:=σ) (b:=b) (plan:=plan) (by have:=h.K5;omega) (fun r hr=>by have:=(h.aD r hr).len;have:=h.bv.af;omega)
 have hi:cK l.length 1 40=true:=bD.2 (by omega);have ha:eH l (fits b)=true:=jW.2 h.fit;rw[h.valid]at h1;rw[h.check]at h2;rw[ha]at h3;rw[h.pl]at h4;simp[-length_flatMap,-map_take,h1,h2,h3,h4,dG,hi,bg,aH,aV]
abbrev RunT:=List (List Rock.aF)×List (List Rock.aF)
def oX(r:RunT):List D:=[.aE r.1.length (r.1.flatMap tL),.aE r.2.length (r.2.flatMap tL)]
theorem JA(l:List RunT):(l.flatMap oX).length=l.length*2:=j1 (f:=oX) (w:=2) (fun _=>rfl) l
def oZ(b:bC)(plan:List (List Int)):List bV→Option (List RunT)
 |[]=>some []
 |m::l=>match Rock.run b m plan with
  |some r=>(oZ b plan l).map (r :: ·)
  |none=>none
def BM(n:Nat)(acc:List RunT)(σ:SK)(r:Option (List RunT))(x:Abs.Exit)(e:Env)(σ':SK):Prop:=match r with
 |some rs=>x=.exit 0∧get e 6=.sl σ.length 0 n 0 n 2∧σ'=[.cells n ((acc++rs).flatMap oX)]::σ
 |none=>x=.eR (.o9 126 (.agg []))∧∃oE,σ'=oE::σ
theorem Cb{b:bC}{l:List bV}{plan:List (List Int)}(h:Ok b l plan):∀(k i:Nat) (acc:List RunT),i+k=l.length→acc.length=i →
  WL T [2,3,6,9,10,11] false mK [(2,.aE plan.length (plan.flatMap kK)),(3,.aK [.int .i64 b.f.x,.int .i64 b.f.y,.int .i64 b.f.z,.int .i64 b.f.k,.aE b.bY.length (b.bY.flatMap Rw.enc),.int .i64 b.aS,.int .i64 b.lift,.int .i64 b.deep,.aE b.af.length (b.af.flatMap aT.enc)]),(6,.sl σ.length 0 i 0 i 2),(9,.aE l.length (l.flatMap bV.enc)),(10,.int .i64 l.length),(11,.int .i64 i)] ([.cells i (acc.flatMap oX)]::σ)
   (BM l.length acc σ (oZ b plan (l.drop i)))
 |0,i,acc,hi,ha=>by
  refine aB mK.eq_1 ?_;obtain rfl:i=l.length:=by omega
  have h2:l.drop l.length=[]:=az (by omega);simp[-length_flatMap,-map_take,h2,oZ,BM]
 |k+1,i,acc,hi,ha=>by
  refine aB mK.eq_1 ?_;have h1:i<l.length:=by omega
  obtain⟨m,hm⟩:=gE h1;have hlen:=h.len;have h2:=u6 hm;have h4:=db h1 (by omega);have h5:=cO hm;have hmem:=aj hm;have a4:=JA acc;rw[ha]at a4;have a6:(acc.flatMap oX).take (i*2)=acc.flatMap oX:=aq (by omega);have h7:(i+1)*48≤room:=by unfold room;omega
  have hp:plan.length≤200:=by have:=h.K5;omega
  rw[h5,oZ];cases hr:Rock.run b m plan with
  |none =>
   have hC:=fun σ=>Ko (σ:=σ) (h.fv m hmem) hp h.aD hr
   simp[-length_flatMap,-map_take,h1,h2,h4,hC,BM,bg,aH,aV]
  |some r =>
   obtain⟨ss,ys⟩:=r;have hC:=fun σ hσ=>Kp (σ:=σ) (h.fv m hmem) hp h.aD hσ hr
   have ih:=Cb h k (i+1) (acc++[(ss,ys)]) (by omega) (by simp[ha]);simp[-length_flatMap,-map_take,h1,h2,h4,hC,a4,a6,h7,bg,aH,aV,D.clean,Lw];refine WL.to ih (by simp) (by simp[oX]) fun x e σ' hh=>?_
   cases hq:oZ b plan (l.drop (i+1))with
   |none=>rw[hq]at hh;simpa[BM]using hh
   |some rs=>rw[hq]at hh;simpa[BM]using hh
theorem Fz{b:bC}{l:List bV}{plan:List (List Int)}(h:Ok b l plan)(hσ:σ≠[]){rs:List RunT}(hr:oZ b plan l=some rs)(hl:rs.length=l.length):
  bG T (.call false ml [.agg [.int .i64 b.f.x,.int .i64 b.f.y,.int .i64 b.f.z,.int .i64 b.f.k,.aE b.bY.length (b.bY.flatMap Rw.enc),.int .i64 b.aS,.int .i64 b.lift,.int .i64 b.deep,.aE b.af.length (b.af.flatMap aT.enc)],.aE l.length (l.flatMap bV.enc),.aE plan.length (plan.flatMap kK)] σ)=some (.val (.aE rs.length (rs.flatMap oX)) σ):=by
 refine aA v8 nX.eq_1 rfl ?_;simp[-length_flatMap,-map_take,bg,aH,aV];refine WL.to (Cb (σ:=σ) h l.length 0 [] (by omega) rfl) (by simp) (by simp) ?_;rw[aO,hr];rintro x e σ' ⟨rfl,g6,rfl⟩;simp[-length_flatMap,-map_take,g6];rw[← hl,qd (f:=oX) (by decide) (fun _=>rfl) (fun x=>by simp[oX,D.clean,Lw]) hσ (by simp)];simp
theorem Fy{b:bC}{l:List bV}{plan:List (List Int)}(h:Ok b l plan)(hr:oZ b plan l=none):
  bG T (.call false ml [.agg [.int .i64 b.f.x,.int .i64 b.f.y,.int .i64 b.f.z,.int .i64 b.f.k,.aE b.bY.length (b.bY.flatMap Rw.enc),.int .i64 b.aS,.int .i64 b.lift,.int .i64 b.deep,.aE b.af.length (b.af.flatMap aT.enc)],.aE l.length (l.flatMap bV.enc),.aE plan.length (plan.flatMap kK)] σ)=some (.eR (.o9 126 (.agg [])) σ):=by
 refine vS v8 nX.eq_1 rfl ?_;simp[-length_flatMap,-map_take,bg,aH,aV];refine WL.to (Cb (σ:=σ) h l.length 0 [] (by omega) rfl) (by simp) (by simp) ?_;rw[aO,hr];rintro x e σ' ⟨rfl,oE,rfl⟩;simp[D.clean]
theorem zx{b:bC}{plan:List (List Int)}:∀{l:List bV} {rs:List RunT},oZ b plan l=some rs→rs.length=l.length∧∀(i:Nat) m,l[i]?=some m→∃r,rs[i]?=some r∧Rock.run b m plan=some r
 |[],rs,h=>by simp only[oZ,ae]at h;subst h;simp
 |m::l,rs,h=>by
  simp only[oZ]at h;cases hr:Rock.run b m plan with
  |none=>rw[hr]at h;cases h
  |some r =>
   rw[hr]at h;simp only[ab]at h;obtain⟨rs',h1,rfl⟩:=h;obtain⟨g1,g2⟩:=zx h1;refine⟨by simp[g1],?_⟩;intro i m' hm';cases i with
   |zero=>simp only[bH,ae]at hm';subst hm';exact⟨r,rfl,hr⟩
   |succ i=>simpa using g2 i m' (by simpa using hm')
structure Rs(b:bC)(l:List bV)(n:Nat)(rs:List RunT):Prop where
 len:rs.length=l.length
 ne:1≤l.length∧l.length≤40
 n6:n≤200
 af:b.af.length≤8
 bn:1≤b.n∧b.n≤64
 all:∀r∈rs,Eo b n r.1 r.2
 fv:∀m∈l,Fv b m
end Go.Proofs.YtcgippbplkagkaaGreat
namespace Go.Rock
open List(length_flatMap map_take)
open Go Go.Abs
def three:List Rw:=[⟨100,101,419,2676,150⟩,⟨150,476,632,2746,300⟩,⟨200,1555,852,2793,600⟩]
end Go.Rock
namespace Go.Proofs.YtcgippbplkagkaaGreat
open List(length_flatMap map_take)
open Go Go.Abs Go.Rock
variable {σ:SK}
theorem Rs.of{b:bC}{l:List bV}{plan:List (List Int)}(h:Ok b l plan){rs:List RunT}(hr:oZ b plan l=some rs):Rs b l plan.length rs:=by
 obtain⟨h1,h2⟩:=zx hr;refine⟨h1,h.len,h.K5,h.bv.af,h.bv.n,?_,h.fv⟩;intro r hmem;obtain⟨i,hi⟩:=cX hmem;have hlt:i<l.length:=by rw[← h1];exact(an.1 hi).1
 obtain⟨m,hm⟩:=gE hlt;obtain⟨r',h3,h4⟩:=h2 i m hm;rw[hi]at h3;cases h3;exact Eo.of (h.fv m (aj hm)) h.aD h4
theorem TS{y:Rock.aF}:bG T (.call false dh [.agg y.enc] σ)=some (.val (.bool (decide (0<y.k))) σ):=by
 refine aA vn lh.eq_1 rfl ?_;simp[-length_flatMap,-map_take]
abbrev XE(c:Nat):List D:=[.aK [.fn dh [] []],.aK [.int .i64 c]]
theorem Ds{ss ys:List (List Rock.aF)}{c:Nat}(hy:∀y∈ys,c<y.length)(hl:ys.length≤1000):∀(m i:Nat),i+m=ys.length →
  WL T [1,2,3,8,9,10] false lq [(1,.aK [.fn dh [] []]),(2,.aK [.int .i64 c]),(3,.aK (oX (ss,ys))),(8,.aE ys.length (ys.flatMap tL)),(9,.int .i64 ys.length),(10,.int .i64 i)] σ
   (fun x e σ'=>σ'=σ∧((x=.ret∧get e 4=.int .i64 (ke c i (ys.drop i)))∨(x=.exit 0∧get e 3=.aK (oX (ss,ys))∧ke c i (ys.drop i)=(ys.length:Int)+1)))
 |0,i,hi=>by
  refine aB lq.eq_1 ?_;obtain rfl:i=ys.length:=by omega
  have h2:ys.drop ys.length=[]:=az (by omega);simp[-length_flatMap,-map_take,h2,ke,oX]
 |m+1,i,hi=>by
  refine aB lq.eq_1 ?_;have h1:i<ys.length:=by omega
  obtain⟨y,hx⟩:=gE h1;have hc:=hy y (aj hx);have hc':(c:Int)<y.length:=by omega
  have h4:=db h1 (by omega);have h5:=cO hx;have a1:=cE (f:=tL) (w:=1) (fun _=>rfl) hx;have a2:=cE (f:=aF.enc) (w:=3) (fun _=>rfl) (l:=y) (i:=c) (x:=aZ y c) (by simp[aZ,au hc]);simp only[tL,mc,aF.enc]at a1 a2;have hC:=fun σ=>TS (σ:=σ) (y:=aZ y c)
  simp only[aF.enc]at hC;rw[h5,ke];by_cases hk:0<(aZ y c).k
  ·rw[if_pos hk];simp[-length_flatMap,-map_take,h1,h4,a1,a2,hc,hc',hC,hk,oX,tL]
  ·rw[if_neg hk];have ih:=Ds (ss:=ss) hy hl m (i+1) (by omega);simp[-length_flatMap,-map_take,h1,h4,a1,a2,hc,hc',hC,hk,oX,tL];exact WL.to ih (by simp[oX,tL]) rfl fun x e σ hh=>by simpa[oX,tL]using hh
theorem Kr{ss ys:List (List Rock.aF)}{c:Nat}(hy:∀y∈ys,c<y.length)(hl:ys.length≤1000):bG T (.call false j8 (.agg (oX (ss,ys))::XE c) σ)=some (.val (.int .i64 (ke c 0 ys)) σ):=by
 refine aA yA nQ.eq_1 rfl ?_;simp[-length_flatMap,-map_take,oX];refine WL.to (Ds (σ:=[]::σ) (ss:=ss) hy hl ys.length 0 (by omega)) (by simp[oX]) rfl ?_;rintro x e σ' ⟨rfl,⟨rfl,g4⟩ | ⟨rfl,g3,hF⟩⟩
 ·rw[aO]at g4;simp[-length_flatMap,-map_take,g4]
 ·rw[aO]at hF;have w1:=eW (n:=(ys.length:Int)+1) (by omega);simp[-length_flatMap,-map_take,g3,oX,w1];exact hF.symm
theorem Kq{ss ys:List (List Rock.aF)}{c:Nat}(hy:∀y∈ys,c<y.length)(hl:ys.length≤1000):
  bG T (.call false ff [.aE 1 (oX (ss,ys)),.fn j8 [] (XE c)] σ)=some (.val (.agg [.int .i64 (ke c 0 ys),.int .i64 (ke c 0 ys)]) σ):=by
 refine aA sj iA.eq_1 rfl ?_;have hC:=fun σ=>Kr (σ:=σ) (ss:=ss) hy hl
 simp only[oX]at hC ⊢;simp[-length_flatMap,-map_take,hC];refine aB jh.eq_1 ?_;simp[-length_flatMap,-map_take,hC];refine aB jh.eq_1 ?_;simp[-length_flatMap,-map_take,hC]
theorem Js{b:bC}{m:bV}{plan:List (List Int)}{r:RunT}(hr:Rock.run b m plan=some r):oZ b plan [m]=some [r]:=by simp[oZ,hr]
theorem CH{b:bC}{m:bV}{plan:List (List Int)}(hr:Rock.run b m plan=none):oZ b plan [m]=none:=by simp[oZ,hr]
theorem T4{b:bC}{m:bV}{plan:List (List Int)}(h:Ok b [m] plan){c:Nat}(hc:c<b.af.length){ss ys:List (List Rock.aF)}(hr:Rock.run b m plan=some (ss,ys)):
  bG T (.call false mo [.agg [.int .i64 b.f.x,.int .i64 b.f.y,.int .i64 b.f.z,.int .i64 b.f.k,.aE b.bY.length (b.bY.flatMap Rw.enc),.int .i64 b.aS,.int .i64 b.lift,.int .i64 b.deep,.aE b.af.length (b.af.flatMap aT.enc)],.aE 1 [.str m.name,.aE m.aP.length (m.aP.flatMap bx)],.aE plan.length (plan.flatMap kK),.int .i64 c,.fn dh [] []] σ)=some (.val (.agg [.int .i64 (ke c 0 ys),.int .i64 (ke c 0 ys)]) σ):=by
 refine aA wa nY.eq_1 rfl ?_;have hR:=Eo.of (h.fv m (by simp)) h.aD hr;have h1:=fun σ hσ=>Fz (σ:=σ) h hσ (Js hr) rfl
 have hy:∀y∈ys,c<y.length:=fun y hy=>by rw[(hR.yv y hy).len];exact hc
 have h2:=fun σ=>Kq (σ:=σ) (ss:=ss) hy (by rw[hR.yl];have:=h.K5;omega)
 simp only[List.length_singleton,bk,gq,dz,bV.enc]at h1;simp[-length_flatMap,-map_take,h1,h2,bg,aH,aV]
theorem FC{b:bC}{m:bV}{plan:List (List Int)}(h:Ok b [m] plan){c:Nat}(hr:Rock.run b m plan=none):
  bG T (.call false mo [.agg [.int .i64 b.f.x,.int .i64 b.f.y,.int .i64 b.f.z,.int .i64 b.f.k,.aE b.bY.length (b.bY.flatMap Rw.enc),.int .i64 b.aS,.int .i64 b.lift,.int .i64 b.deep,.aE b.af.length (b.af.flatMap aT.enc)],.aE 1 [.str m.name,.aE m.aP.length (m.aP.flatMap bx)],.aE plan.length (plan.flatMap kK),.int .i64 c,.fn dh [] []] σ)=some (.eR (.o9 126 (.agg [])) σ):=by
 refine vS wa nY.eq_1 rfl ?_;have h1:=fun σ=>Fy (σ:=σ) h (CH hr)
 simp only[List.length_singleton,bk,gq,dz,bV.enc]at h1;simp[-length_flatMap,-map_take,h1,bg,aH,aV]
theorem Eg{b:bC}{m:bV}{plan:List (List Int)}(h:Ok b [m] plan){c:Nat}(hc:c<b.af.length)(hσ:σ≠[]){ss ys:List (List Rock.aF)}(hr:Rock.run b m plan=some (ss,ys)):
  bG T (.call false jl [.agg [.int .i64 b.f.x,.int .i64 b.f.y,.int .i64 b.f.z,.int .i64 b.f.k,.aE b.bY.length (b.bY.flatMap Rw.enc),.int .i64 b.aS,.int .i64 b.lift,.int .i64 b.deep,.aE b.af.length (b.af.flatMap aT.enc)],.aE 1 [.str m.name,.aE m.aP.length (m.aP.flatMap bx)],.aE plan.length (plan.flatMap kK),.int .i64 c] σ)=some (.val (.fj [.int .i64 (ke c 0 ys),.int .i64 (ke c 0 ys),.int .i64 0]) σ):=by
 refine AW sf kP.eq_1 rfl rfl ?_;have h1:=fun σ=>C8 (σ:=σ) h
 have h2:=fun σ=>T4 (σ:=σ) h hc hr
 simp only[List.length_singleton,bk,gq,dz,bV.enc]at h1;have hw:=h.bv.af;have w1:=eW (n:=(b.af.length:Int)-1) (by omega);have hi:cK c 0 ((b.af.length:Int)-1)=true:=bD.2 (by omega);have hX:vy T (.fn gk [] []) [.ref σ.length 0 0 0] none ([.cells 0 [.int .i64 0]]::σ)=some ([.cells 0 [.int .i64 0]]::σ):=y9 Cg;simp[-length_flatMap,-map_take,toD,Gi,h1,w1,hi,dG,bg,aH,aV];rw[xj mG.eq_1];simp[-length_flatMap,-map_take,toD,Gi,h2,hX,bg,aH,aV]
theorem Er:bG T (.so gk [.ref σ.length 0 0 0] (some (.o9 126 (.agg []))) ([.cells 0 [.int .i64 0]]::σ))=some (.val (.fj []) ([.cells 0 [.int .i64 9]]::σ)):=by
 refine AY tH lK.eq_1 rfl (by simp[-length_flatMap,-map_take,oK];exact⟨rfl,rfl⟩) ?_;simp[-length_flatMap,-map_take]
theorem AF{b:bC}{m:bV}{plan:List (List Int)}(h:Ok b [m] plan){c:Nat}(hc:c<b.af.length)(hσ:σ≠[])(hr:Rock.run b m plan=none):
  bG T (.call false jl [.agg [.int .i64 b.f.x,.int .i64 b.f.y,.int .i64 b.f.z,.int .i64 b.f.k,.aE b.bY.length (b.bY.flatMap Rw.enc),.int .i64 b.aS,.int .i64 b.lift,.int .i64 b.deep,.aE b.af.length (b.af.flatMap aT.enc)],.aE 1 [.str m.name,.aE m.aP.length (m.aP.flatMap bx)],.aE plan.length (plan.flatMap kK),.int .i64 c] σ)=some (.val (.fj [.int .i64 0,.int .i64 0,.int .i64 9]) σ):=by
 refine AW sf kP.eq_1 rfl rfl ?_;have h1:=fun σ=>C8 (σ:=σ) h
 have h2:=fun σ=>FC (σ:=σ) (c:=c) h hr
 simp only[List.length_singleton,bk,gq,dz,bV.enc]at h1;have hw:=h.bv.af;have w1:=eW (n:=(b.af.length:Int)-1) (by omega);have hi:cK c 0 ((b.af.length:Int)-1)=true:=bD.2 (by omega);have hX:vy T (.fn gk [] []) [.ref σ.length 0 0 0] (some (.o9 126 (.agg []))) ([.cells 0 [.int .i64 0]]::σ)=some ([.cells 0 [.int .i64 9]]::σ):=y9 Er;simp[-length_flatMap,-map_take,toD,Gi,h1,w1,hi,dG,bg,aH,aV];rw[xj mG.eq_1];simp[-length_flatMap,-map_take,toD,Gi,h2,hX,bg,aH,aV]
end Go.Proofs.YtcgippbplkagkaaGreat
namespace Go.Proofs.YtcgippbplkagkaaGreat
open List(length_flatMap map_take)
open Go Go.Abs Go.Rock Go.Inj
variable {σ:SK}
structure TA where
 f:Int
 t:Int
 lo:Int
 hi:Int
@[simp] def TA.enc(x:TA):List D:=[.int .i64 x.f,.int .i64 x.t,.int .i64 x.lo,.int .i64 x.hi]
def BY(b:bC)(u:Nat):Nat:=((b.af[u]?).map fun w=>w.b.toNat).getD 0
def cm(b:bC)(u v:Nat):Int:=dst b.f.x.toNat b.f.y.toNat (BY b u) (BY b v)
theorem Bv.zR{b:bC}(h:Bv b):(b.n:Int)=b.f.size:=by
 have:=h.n;unfold bC.n bC.size at *
 omega
theorem Ef{b:bC}(h:Bv b){u:Nat}(hu:u<b.af.length):∃hh mm:Int,((b.af.flatMap aT.enc).drop (u*3)).take 3=[.int .i64 (BY b u),.int .i64 hh,.int .i64 mm]∧(BY b u:Int)<b.f.size:=by
 have hw:b.af[u]?=some b.af[u]:=au hu;obtain⟨h1,_⟩:=o6 h b.af[u] (List.getElem_mem hu);have h2:=cE (f:=aT.enc) (w:=3) (fun _=>rfl) hw;have h3:(BY b u:Int)=b.af[u].b:=by simp[BY,hw];omega
 refine⟨b.af[u].h,b.af[u].m,?_,?_⟩
 ·rw[h2,h3];simp only[aT.enc]
 ·rw[h3,← h.zR];exact h1.2
theorem FU{a0 c0 s0 r0 ts:Int}{b:bC}{m:bV}{tl:List TA}(h:Bv b){L6 u:Nat}(hu:u<b.af.length):∀(k v:Nat),v+k=b.af.length →
  WL T [3,4,5,6,7,8,9,15,16,17,18,19] false jc [(3,.int .u8 a0),(4,.int .u8 c0),(5,.int .u8 s0),(6,.int .u16 r0),(7,.aK [.int .i64 b.f.x,.int .i64 b.f.y,.int .i64 b.f.z,.int .i64 b.f.k,.aE b.bY.length (b.bY.flatMap Rw.enc),.int .i64 b.aS,.int .i64 b.lift,.int .i64 b.deep,.aE b.af.length (b.af.flatMap aT.enc)]),(8,.aK [.str m.name,.aE m.aP.length (m.aP.flatMap bx)]),(9,.aK [.int .i64 ts,.aE tl.length (tl.flatMap TA.enc)]),(15,.own 0 [.int .i64 b.f.x,.int .i64 b.f.y,.int .i64 b.f.z,.int .i64 b.f.k]),(16,.sl L6 0 u 0 u 1),(17,.int .i64 u),(18,.sl σ.length 0 v 0 v 1),(19,.int .i64 v)]
   ([.cells v (((pP b.af.length (cm b) u).take v).flatMap bx)]::σ)
   (fun x e σ'=>x=.exit 2∧get e 3=.int .u8 a0∧get e 4=.int .u8 c0∧get e 5=.int .u8 s0∧get e 6=.int .u16 r0∧get e 7=.aK [.int .i64 b.f.x,.int .i64 b.f.y,.int .i64 b.f.z,.int .i64 b.f.k,.aE b.bY.length (b.bY.flatMap Rw.enc),.int .i64 b.aS,.int .i64 b.lift,.int .i64 b.deep,.aE b.af.length (b.af.flatMap aT.enc)]∧get e 8=.aK [.str m.name,.aE m.aP.length (m.aP.flatMap bx)]∧get e 9=.aK [.int .i64 ts,.aE tl.length (tl.flatMap TA.enc)]∧get e 15=.own 0 [.int .i64 b.f.x,.int .i64 b.f.y,.int .i64 b.f.z,.int .i64 b.f.k]∧get e 16=.sl L6 0 u 0 u 1∧get e 17=.int .i64 u∧get e 18=.sl σ.length 0 b.af.length 0 b.af.length 1 ∧
    σ'=[.cells b.af.length ((pP b.af.length (cm b) u).flatMap bx)]::σ)
 |0,v,hv=>by
  refine aB jc.eq_1 ?_;obtain rfl:v=b.af.length:=by omega
  have h3:(pP b.af.length (cm b) u).take b.af.length=pP b.af.length (cm b) u:=aq (by rw[sK];exact aw _);simp[-length_flatMap,-map_take,h3]
 |k+1,v,hv=>by
  refine aB jc.eq_1 ?_;have h1:v<b.af.length:=by omega
  have hw8:=h.af;have h4:=db h1 (by omega);have h1':(v:Int)<b.af.length:=by omega
  have hu':(u:Int)<b.af.length:=by omega
  obtain⟨p1,p2,a1,a2⟩:=Ef h hu;obtain⟨q1,q2,c1,c2⟩:=Ef h h1;have hC:=fun σ=>FB (σ:=σ) h.fv a2 c2
  have hx:(pP b.af.length (cm b) u)[v]?=some (cm b u v):=by simp[pP,h1]
  have a3:=mj (f:=bx) hx;have a4:=wU ((pP b.af.length (cm b) u).take v);rw[bO,sK,Nat.min_eq_left (by omega)]at a4;have a6:(((pP b.af.length (cm b) u).take v).flatMap bx).take v=((pP b.af.length (cm b) u).take v).flatMap bx:=aq (by omega);have h7:(v+1)*8≤room:=by unfold room;omega
  have ih:=FU (a0:=a0) (c0:=c0) (s0:=s0) (r0:=r0) (ts:=ts) (m:=m) (tl:=tl) h (L6:=L6) hu k (v+1) (by omega);simp[-length_flatMap,-map_take,h1,h1',hu,hu',a1,c1,hC,h4,a4,a6,h7];exact WL.to ih (by simp) (by simp[← a3,cm]) fun x e σ hh=>hh
theorem Lx(l:List TA):D.bF (l.flatMap TA.enc)=true:=mR (fun _=>by simp[D.clean]) l
theorem DO(l:List (List Int)):(l.flatMap kK).length=l.length:=by
 have:=j1 (f:=kK) (w:=1) (fun _=>rfl) l;omega
theorem Dt{a0 c0 s0 r0 ts:Int}{b:bC}{m:bV}{tl:List TA}(h:Bv b):∀(k u:Nat),u+k=b.af.length →
  WL T [3,4,5,6,7,8,9,15,16,17] true jd [(3,.int .u8 a0),(4,.int .u8 c0),(5,.int .u8 s0),(6,.int .u16 r0),(7,.aK [.int .i64 b.f.x,.int .i64 b.f.y,.int .i64 b.f.z,.int .i64 b.f.k,.aE b.bY.length (b.bY.flatMap Rw.enc),.int .i64 b.aS,.int .i64 b.lift,.int .i64 b.deep,.aE b.af.length (b.af.flatMap aT.enc)]),(8,.aK [.str m.name,.aE m.aP.length (m.aP.flatMap bx)]),(9,.aK [.int .i64 ts,.aE tl.length (tl.flatMap TA.enc)]),(15,.own 0 [.int .i64 b.f.x,.int .i64 b.f.y,.int .i64 b.f.z,.int .i64 b.f.k]),(16,.sl σ.length 0 u 0 u 1),(17,.int .i64 u)]
   ([.cells u (((kS b.af.length (cm b)).take u).flatMap kK)]::σ)
   (fun x e σ'=>x=.exit 0∧get e 3=.int .u8 a0∧get e 4=.int .u8 c0∧get e 5=.int .u8 s0∧get e 6=.int .u16 r0∧get e 7=.aK [.int .i64 b.f.x,.int .i64 b.f.y,.int .i64 b.f.z,.int .i64 b.f.k,.aE b.bY.length (b.bY.flatMap Rw.enc),.int .i64 b.aS,.int .i64 b.lift,.int .i64 b.deep,.aE b.af.length (b.af.flatMap aT.enc)]∧get e 8=.aK [.str m.name,.aE m.aP.length (m.aP.flatMap bx)]∧get e 9=.aK [.int .i64 ts,.aE tl.length (tl.flatMap TA.enc)]∧get e 16=.sl σ.length 0 b.af.length 0 b.af.length 1∧σ'=[.cells b.af.length ((kS b.af.length (cm b)).flatMap kK)]::σ)
 |0,u,hu=>by
  refine pT jd.eq_1 ?_;obtain rfl:u=b.af.length:=by omega
  have h3:(kS b.af.length (cm b)).take b.af.length=kS b.af.length (cm b):=aq (by rw[xS];exact aw _);simp[-length_flatMap,-map_take,h3,bg,aH,aV,Lx]
 |k+1,u,hu=>by
  refine pT jd.eq_1 ?_;have h1:u<b.af.length:=by omega
  have hw8:=h.af;have h4:=db h1 (by omega);have h1':(u:Int)<b.af.length:=by omega
  have hx:(kS b.af.length (cm b))[u]?=some (pP b.af.length (cm b) u):=by simp[kS,h1]
  have a3:=mj (f:=kK) hx;have a4:=DO ((kS b.af.length (cm b)).take u);rw[bO,xS,Nat.min_eq_left (by omega)]at a4;have a6:(((kS b.af.length (cm b)).take u).flatMap kK).take u=((kS b.af.length (cm b)).take u).flatMap kK:=aq (by omega);have h7:=Am (n:=u+1) (by omega);have hk:=fun X:List Abs.aF=>qd (n:=16) (f:=bx) (w:=1) (l:=pP b.af.length (cm b) u) (j:=0) (v:=b.af.length) (bs:=[.cells b.af.length ((pP b.af.length (cm b) u).flatMap bx)]) (σ:=X::σ) (by decide) (fun _=>rfl) (fun _=>by simp[D.clean]) (by simp) rfl
  simp only[sK,bq,Nat.add_sub_cancel,List.set_cons_zero]at hk;have ih:=Dt (a0:=a0) (c0:=c0) (s0:=s0) (r0:=r0) (ts:=ts) (m:=m) (tl:=tl) h k (u+1) (by omega);simp[-length_flatMap,-map_take,h1,h1'];refine WL.to (FU (σ:=[.cells u (((kS b.af.length (cm b)).take u).flatMap kK)]::σ) (a0:=a0) (c0:=c0) (s0:=s0) (r0:=r0) (ts:=ts) (m:=m) (tl:=tl) h (L6:=σ.length) h1 b.af.length 0 (by omega)) (by simp) (by simp) ?_;rintro x e σ' ⟨rfl,g3,g4,g5,g6,g7,g8,g9,g15,g16,g17,g18,rfl⟩;simp[-length_flatMap,-map_take,g3,g4,g5,g6,g7,g8,g9,g15,g16,g17,g18,h4,hk,a4,a6,h7,bg,aH,aV,Lx];exact WL.to ih (by simp) (by simp[← a3,kK,sK]) fun x e σ hh=>hh
def E4(n:Nat)(x:TA):Bool:=cK x.f 0 ((n:Int)-1) && (cK x.t 0 ((n:Int)-1) && (!decide (x.f=x.t) && (cK x.lo 0 100 && cK x.hi 0 100)))
def CD(d:Nat→Nat→Int)(x:TA):jB:=⟨x.f.toNat,x.t.toNat,max 0 (d x.f.toNat x.t.toNat-x.lo),d x.f.toNat x.t.toNat+x.hi⟩
theorem yS{a b c:Int}:bG T (.call false kR [.int .i64 a,.int .i64 b,.int .i64 c] σ)=some (.val (.bool (cK a b c)) σ):=by
 refine aA Ce rk.eq_1 rfl ?_;by_cases h:b≤a<;>simp[-length_flatMap,-map_take,h,cK]
theorem wy{s:Int}:∀(l:List aT) (used:List Int),gR s used l=true→(∀w∈l,w.b ∉ used)∧∀(i j:Nat) (p q:aT),l[i]?=some p→l[j]?=some q→i<j→p.b≠q.b
 |[],used,h=>by simp
 |w::l,used,h=>by
  simp only[gR,aT.ok,ak,dR,List.contains_eq_mem,decide_eq_false_iff_not]at h;obtain⟨⟨h1,h2,h3⟩,h4⟩:=h;obtain⟨h5,h6⟩:=wy l _ h4;refine⟨?_,?_⟩
  ·intro x hx;rcases bj.1 hx with rfl | hx
   ·exact h2
   ·exact fun hm=>h5 x hx (by simp[hm])
  ·intro i j p q hi hj hij;cases j with
   |zero=>omega
   |succ j =>
    cases i with
    |zero =>
     simp only[bH,ae]at hi;subst hi;intro he;have hm:=aj (by simpa using hj:l[j]?=some q);exact h5 q hm (by simp[he])
    |succ i=>exact h6 i j p q (by simpa using hi) (by simpa using hj) (by omega)
theorem E8{b:bC}(h:Bv b)(hv:b.valid=true){u v:Nat}(hu:u<b.af.length)(hv':v<b.af.length)(huv:u≠v):1≤cm b u v:=by
 have hw:gR b.size [] b.af=true:=by
  simp only[bC.valid,ak]at hv;exact hv.2
 obtain⟨_,h2⟩:=wy _ _ hw;refine KF fun he=>?_
 have e1:b.af[u]?=some b.af[u]:=au hu;have e2:b.af[v]?=some b.af[v]:=au hv';obtain⟨p1,_⟩:=o6 h b.af[u] (List.getElem_mem hu);obtain⟨p2,_⟩:=o6 h b.af[v] (List.getElem_mem hv');simp only[BY,e1,e2,aM,dK]at he;rcases Nat.lt_or_ge u v with hlt | hge
 ·exact h2 u v _ _ e1 e2 hlt (by omega)
 ·exact h2 v u _ _ e2 e1 (by omega) (by omega)
theorem JS{b:bC}(h:Bv b)(u:Nat):BY b u<64:=by
 have hn:=h.n;unfold BY;cases hw:b.af[u]? with
 |none=>simp
 |some w =>
  obtain⟨p1,_⟩:=o6 h w (aj hw);simp;omega
theorem vi{b:bC}(h:Bv b)(u v:Nat):cm b u v≤1000:=by
 have h1:=JS h u;have h2:=JS h v;unfold cm dst ad;generalize BY b u=i at *
 generalize BY b v=k at *
 have a1:i / b.f.x.toNat≤i:=Nat.div_le_self _ _;have a2:i / b.f.x.toNat / b.f.y.toNat≤i / b.f.x.toNat:=Nat.div_le_self _ _;have a3:i / b.f.x.toNat%b.f.y.toNat≤i / b.f.x.toNat:=Nat.mod_le _ _;have a4:i%b.f.x.toNat≤i:=Nat.mod_le _ _;have b1:k / b.f.x.toNat≤k:=Nat.div_le_self _ _;have b2:k / b.f.x.toNat / b.f.y.toNat≤k / b.f.x.toNat:=Nat.div_le_self _ _;have b3:k / b.f.x.toNat%b.f.y.toNat≤k / b.f.x.toNat:=Nat.mod_le _ _;have b4:k%b.f.x.toNat≤k:=Nat.mod_le _ _;generalize i / b.f.x.toNat / b.f.y.toNat=A1 at *
 generalize i / b.f.x.toNat%b.f.y.toNat=A2 at *
 generalize i / b.f.x.toNat=A4 at *
 generalize i%b.f.x.toNat=A3 at *
 generalize k / b.f.x.toNat / b.f.y.toNat=B1 at *
 generalize k / b.f.x.toNat%b.f.y.toNat=B2 at *
 generalize k / b.f.x.toNat=B4 at *
 generalize k%b.f.x.toNat=B3 at *
 omega
theorem E5{b:bC}(h:Bv b)(hv:b.valid=true)(h2:2≤b.af.length){tl:List TA}(ht:tl.length≤60)(hok:∀x∈tl,E4 b.af.length x=true):rX b.af.length (cm b) (tl.map (CD (cm b))):=by
 have hw8:=h.af;refine⟨⟨by omega,by omega⟩,by simpa using ht,fun u=>A5,fun u v=>Cn,fun u v=>by have:=vi h u v;omega,fun u v w=>zW,?_⟩;intro x hx;obtain⟨y,hy,rfl⟩:=bp.1 hx;have:=hok y hy;simp only[E4,ak,dR,decide_eq_false_iff_not,bD]at this;obtain⟨c1,c2,c3,c4,c5⟩:=this;have d1:=E8 h hv (u:=y.f.toNat) (v:=y.t.toNat) (by omega) (by omega) (by omega);have d2:=vi h y.f.toNat y.t.toNat;simp only[CD];omega
theorem aao{l:List TA}{i:Nat}{x:TA}(h:l[i]?=some x):((l.flatMap TA.enc).drop (i*4)).take 4=[.int .i64 x.f,.int .i64 x.t,.int .i64 x.lo,.int .i64 x.hi] :=
 cE (f:=TA.enc) (w:=4) (fun _=>rfl) h
theorem Ln(l:List jB):(l.flatMap jB.enc).length=l.length*4:=j1 (f:=jB.enc) (w:=4) (fun _=>rfl) l
set_option maxRecDepth 8000 in
set_option maxHeartbeats 4000000 in
theorem Dq{a0 c0 s0 r0 ts:Int}{b:bC}{m:bV}{tl:List TA}(h:Bv b)(ht:tl.length≤60):∀(k i:Nat),i+k=tl.length→(∀x∈tl.take i,E4 b.af.length x=true) →
  WL T [3,4,5,6,7,8,9,16,22,23] false je [(3,.int .u8 a0),(4,.int .u8 c0),(5,.int .u8 s0),(6,.int .u16 r0),(7,.aK [.int .i64 b.f.x,.int .i64 b.f.y,.int .i64 b.f.z,.int .i64 b.f.k,.aE b.bY.length (b.bY.flatMap Rw.enc),.int .i64 b.aS,.int .i64 b.lift,.int .i64 b.deep,.aE b.af.length (b.af.flatMap aT.enc)]),(8,.aK [.str m.name,.aE m.aP.length (m.aP.flatMap bx)]),(9,.aK [.int .i64 ts,.aE tl.length (tl.flatMap TA.enc)]),(16,.aE b.af.length ((kS b.af.length (cm b)).flatMap kK)),(22,.own 0 [.int .i64 b.af.length,.sl σ.length 1 i 0 i 4]),(23,.int .i64 i)]
   ([.dead,.cells i (((tl.take i).map (CD (cm b))).flatMap jB.enc)]::σ)
   (fun x e σ'=>((∀x∈tl,E4 b.af.length x=true)∧x=.exit 4∧get e 3=.int .u8 a0∧get e 4=.int .u8 c0∧get e 5=.int .u8 s0∧get e 6=.int .u16 r0∧get e 7=.aK [.int .i64 b.f.x,.int .i64 b.f.y,.int .i64 b.f.z,.int .i64 b.f.k,.aE b.bY.length (b.bY.flatMap Rw.enc),.int .i64 b.aS,.int .i64 b.lift,.int .i64 b.deep,.aE b.af.length (b.af.flatMap aT.enc)]∧get e 8=.aK [.str m.name,.aE m.aP.length (m.aP.flatMap bx)]∧get e 9=.aK [.int .i64 ts,.aE tl.length (tl.flatMap TA.enc)]∧get e 16=.aE b.af.length ((kS b.af.length (cm b)).flatMap kK)∧get e 22=.own 0 [.int .i64 b.af.length,.sl σ.length 1 tl.length 0 tl.length 4] ∧
     σ'=[.dead,.cells tl.length ((tl.map (CD (cm b))).flatMap jB.enc)]::σ) ∨
    (x=.ret∧get e 14=.bool true∧∃s,σ'=s::σ))
 |0,i,hi,hok=>by
  refine aB je.eq_1 ?_;obtain rfl:i=tl.length:=by omega
  rw[aq (aw _)]at hok ⊢;simp[-length_flatMap,-map_take];exact hok
 |k+1,i,hi,hok=>by
  refine aB je.eq_1 ?_;have h1:i<tl.length:=by omega
  have h1':(i:Int)<tl.length:=by omega
  obtain⟨x,hx⟩:=gE h1;have hw8:=h.af;have h4:=db h1 (by omega);have a1:=aao hx;have w0:=eW (n:=(b.af.length:Int)-1) (by omega);obtain⟨f,t,lo,hi'⟩:=x;simp only at a1;cases c1:cK f 0 ((b.af.length:Int)-1)
  ·simp[-length_flatMap,-map_take,h1,h1',a1,w0,yS,c1,oH]
  cases c2:cK t 0 ((b.af.length:Int)-1)
  ·simp[-length_flatMap,-map_take,h1,h1',a1,w0,yS,c1,c2,oH]
  by_cases c3:f=t
  ·subst c3;simp[-length_flatMap,-map_take,h1,h1',a1,w0,yS,c1,oH]
  cases c4:cK lo 0 100
  ·simp[-length_flatMap,-map_take,h1,h1',a1,w0,yS,c1,c2,c3,c4,oH]
  cases c5:cK hi' 0 100
  ·simp[-length_flatMap,-map_take,h1,h1',a1,w0,yS,c1,c2,c3,c4,c5,oH]
  obtain⟨f,rfl⟩:∃k:Nat,f=k:=⟨f.toNat,by have:=bD.1 c1;omega⟩;obtain⟨t,rfl⟩:∃k:Nat,t=k:=⟨t.toNat,by have:=bD.1 c2;omega⟩;have i1:=bD.1 c1;have i2:=bD.1 c2;have i4:=bD.1 c4;have i5:=bD.1 c5;have f1:f<b.af.length:=by omega
  have t1:t<b.af.length:=by omega
  have f2:(f:Int)<b.af.length:=by omega
  have t2:(t:Int)<b.af.length:=by omega
  have r1:=rG (d:=cm b) (u:=f) t1;have r2:=u0 (d:=cm b) f1;have d1:0≤cm b f t:=Cn;have d2:=vi h f t;have w1:=eW (n:=cm b f t-lo) (by omega);have w2:=eW (n:=cm b f t+hi') (by omega);have hok':∀x∈tl.take (i+1),E4 b.af.length x=true:=by
   intro x hm;rw[List.take_add_one,hx]at hm;rcases aX.1 hm with hm | hm
   ·exact hok x hm
   ·simp only[Option.toList,List.mem_singleton]at hm;subst hm;simp[E4,c1,c2,c3,c4,c5]
  have ih:=Dq (a0:=a0) (c0:=c0) (s0:=s0) (r0:=r0) (ts:=ts) (m:=m) h ht k (i+1) (by omega) hok';have e1:(tl.take (i+1)).map (CD (cm b))=(tl.take i).map (CD (cm b))++[⟨f,t,max 0 (cm b f t-lo),cm b f t+hi'⟩]:=by
   rw[List.take_add_one,hx];simp[CD]
  rw[e1]at ih;have a4:=Ln ((tl.take i).map (CD (cm b)));rw[gZ,bO,Nat.min_eq_left (by omega)]at a4;have a6:(((tl.take i).map (CD (cm b))).flatMap jB.enc).take (i*4)=((tl.take i).map (CD (cm b))).flatMap jB.enc:=aq (by omega);have h7:(i+1)*32≤room:=by unfold room;omega
  generalize (tl.take i).map (CD (cm b))=xs at *
  simp[-length_flatMap,-map_take,h1,h1',a1,w0,yS,c1,c2,c3,c4,c5,f1,t1,f2,t2,r1,r2,w1,w2,a4,a6,h7,h4];exact WL.to ih (by simp) (by simp) fun x e σ hh=>hh
def x8(a st:Nat)(rt:Int)(k w:Nat):Int:=if w≠a then 1+rt else if st≤k then -1-rt else 0
def wJ(n a st:Nat)(rt:Int)(k:Nat):List Int:=(List.range n).map (x8 a st rt k)
def gV(n a st:Nat)(rt:Int):List (List Int):=(List.range 6).map (wJ n a st rt)
def mU(n a st:Nat)(rt:Int)(k j:Nat):List Int:=(List.range n).map fun w=>if w<j then x8 a st rt k w else 0
theorem xZ{n a st k:Nat}{rt:Int}:(wJ n a st rt k).length=n:=by simp[wJ]
theorem zt{n a st k j:Nat}{rt:Int}:(mU n a st rt k j).length=n:=by simp[mU]
theorem EU{n a st k:Nat}{rt:Int}:mU n a st rt k n=wJ n a st rt k:=by
 unfold mU wJ;apply List.map_congr_left;intro w hw;rw[if_pos (List.mem_range.1 hw)]
theorem EV{n a st k j:Nat}{rt:Int}(hj:j<n):(mU n a st rt k j).set j (x8 a st rt k j)=mU n a st rt k (j+1):=by
 apply List.ext_getElem
 ·simp[mU]
 ·intro i h1 h2;simp only[mU,List.getElem_set,List.getElem_map,List.getElem_range];by_cases hk:j=i
  ·subst hk;simp
  ·rw[if_neg hk];have:(i<j+1)=(i<j):=propext (by omega);simp only[this]
theorem CM{n a st k j:Nat}{rt:Int}(h:x8 a st rt k j=0):mU n a st rt k j=mU n a st rt k (j+1):=by
 unfold mU;apply List.map_congr_left;intro w _;by_cases hk:j=w
 ·subst hk;simp[h]
 ·have:(w<j+1)=(w<j):=propext (by omega);simp only[this]
theorem BE{n a st k j:Nat}{rt x:Int}(hj:j<n)(hx:x8 a st rt k j=x):((mU n a st rt k j).flatMap bx).take j ++ .int .i64 x::((mU n a st rt k j).flatMap bx).drop (j+1)=(mU n a st rt k (j+1)).flatMap bx:=by
 have h:=DQ (f:=bx) (w:=1) (fun _=>rfl) (l:=mU n a st rt k j) (i:=j) (x:=x) (by rw[zt];exact hj);rw[← hx,EV hj,hx]at h;simpa using h
theorem FN{b:bC}{m:bV}{r0:Int}{c29 c30:Int}{a st k L34:Nat}(hb:b.af.length≤8)(hr:0≤r0∧r0≤65535):∀(q j:Nat),j+q=b.af.length →
  WL T [6,7,8,28,29,30,33,34,35,36,37] false jf [(6,.int .u16 r0),(7,.aK [.int .i64 b.f.x,.int .i64 b.f.y,.int .i64 b.f.z,.int .i64 b.f.k,.aE b.bY.length (b.bY.flatMap Rw.enc),.int .i64 b.aS,.int .i64 b.lift,.int .i64 b.deep,.aE b.af.length (b.af.flatMap aT.enc)]),(8,.aK [.str m.name,.aE m.aP.length (m.aP.flatMap bx)]),(28,.int .i64 a),(29,.int .i64 c29),(30,.int .i64 c30),(33,.int .i64 st),(34,.sl L34 2 k 0 k 1),(35,.int .i64 k),(36,.sl σ.length 0 0 0 b.af.length 1),(37,.int .i64 j)]
   ([.cells 0 ((mU b.af.length a st (r0%5000) k j).flatMap bx)]::σ)
   (fun x e σ'=>x=.exit 8∧get e 6=.int .u16 r0∧get e 7=.aK [.int .i64 b.f.x,.int .i64 b.f.y,.int .i64 b.f.z,.int .i64 b.f.k,.aE b.bY.length (b.bY.flatMap Rw.enc),.int .i64 b.aS,.int .i64 b.lift,.int .i64 b.deep,.aE b.af.length (b.af.flatMap aT.enc)]∧get e 8=.aK [.str m.name,.aE m.aP.length (m.aP.flatMap bx)]∧get e 28=.int .i64 a∧get e 29=.int .i64 c29∧get e 30=.int .i64 c30∧get e 33=.int .i64 st∧get e 34=.sl L34 2 k 0 k 1∧get e 35=.int .i64 k∧get e 36=.sl σ.length 0 0 0 b.af.length 1 ∧
    σ'=[.cells 0 ((wJ b.af.length a st (r0%5000) k).flatMap bx)]::σ)
 |0,j,hj=>by
  refine aB jf.eq_1 ?_;obtain rfl:j=b.af.length:=by omega
  rw[← EU];simp[-length_flatMap,-map_take]
 |q+1,j,hj=>by
  refine aB jf.eq_1 ?_;have h1:j<b.af.length:=by omega
  have h1':(j:Int)<b.af.length:=by omega
  have h4:=db h1 (by omega);have h1'':j+1≤b.af.length:=h1;have hl:=wU (mU b.af.length a st (r0%5000) k j);rw[zt]at hl;have ih:=FN (m:=m) (c29:=c29) (c30:=c30) (a:=a) (st:=st) (k:=k) (L34:=L34) (r0:=r0) hb hr q (j+1) (by omega);have e1:r0.tmod 5000=r0%5000:=Int.tmod_eq_emod_of_nonneg hr.1;have hm:0≤r0%5000∧r0%5000<5000:=by omega
  have w0:=eW (n:=r0) (by omega);have w1:=eW (n:=r0%5000) (by omega);have w2:=eW (n:=1+r0%5000) (by omega);have w3:=eW (n := -1-r0%5000) (by omega);generalize r0%5000=rt at *
  by_cases c1:j=a
  ·subst c1;by_cases c2:st≤k
   ·have hs:=BE (n:=b.af.length) (a:=j) (st:=st) (k:=k) (rt:=rt) h1 (x := -1-rt) (by simp[x8,c2]);have c2':(st:Int)≤k:=by omega
    simp[-length_flatMap,-map_take,h1,h1',h1'',c2',e1,w0,w1,w2,w3,hl,h4,hs];exact WL.to ih (by simp) rfl fun x e σ hh=>hh
   ·have hs:=CM (n:=b.af.length) (a:=j) (st:=st) (k:=k) (j:=j) (rt:=rt) (by simp[x8,c2]);have c2':¬(st:Int)≤k:=by omega
    simp[-length_flatMap,-map_take,h1,h1',h1'',c2',h4];exact WL.to ih (by simp) (by rw[hs]) fun x e σ hh=>hh
  ·have hs:=BE (n:=b.af.length) (a:=a) (st:=st) (k:=k) (rt:=rt) h1 (x:=1+rt) (by simp[x8,c1]);have c1':¬(j:Int)=a:=by omega
   simp[-length_flatMap,-map_take,h1,h1',h1'',c1',e1,w0,w1,w2,w3,hl,h4,hs];exact WL.to ih (by simp) rfl fun x e σ hh=>hh
theorem CN{n a st k:Nat}{rt:Int}:(mU n a st rt k 0).flatMap bx=(List.range n).flatMap fun _=>[.int .i64 0]:=by
 unfold mU;rw[List.flatMap_map];simp
theorem Xk{b:bC}{m:bV}{r0:Int}{c29 c30:Int}{a st:Nat}(hb:b.af.length≤8)(hr:0≤r0∧r0≤65535):∀(q k:Nat),k+q=6 →
  WL T [6,7,8,28,29,30,33,34,35] true jg [(6,.int .u16 r0),(7,.aK [.int .i64 b.f.x,.int .i64 b.f.y,.int .i64 b.f.z,.int .i64 b.f.k,.aE b.bY.length (b.bY.flatMap Rw.enc),.int .i64 b.aS,.int .i64 b.lift,.int .i64 b.deep,.aE b.af.length (b.af.flatMap aT.enc)]),(8,.aK [.str m.name,.aE m.aP.length (m.aP.flatMap bx)]),(28,.int .i64 a),(29,.int .i64 c29),(30,.int .i64 c30),(33,.int .i64 st),(34,.sl σ.length 2 k 0 k 1),(35,.int .i64 k)]
   ([.dead,.dead,.cells k (((gV b.af.length a st (r0%5000)).take k).flatMap kK)]::σ)
   (fun x e σ'=>x=.exit 6∧get e 7=.aK [.int .i64 b.f.x,.int .i64 b.f.y,.int .i64 b.f.z,.int .i64 b.f.k,.aE b.bY.length (b.bY.flatMap Rw.enc),.int .i64 b.aS,.int .i64 b.lift,.int .i64 b.deep,.aE b.af.length (b.af.flatMap aT.enc)]∧get e 8=.aK [.str m.name,.aE m.aP.length (m.aP.flatMap bx)]∧get e 28=.int .i64 a∧get e 29=.int .i64 c29∧get e 30=.int .i64 c30∧get e 33=.int .i64 st∧get e 34=.sl σ.length 2 6 0 6 1 ∧
    σ'=[.dead,.dead,.cells 6 ((gV b.af.length a st (r0%5000)).flatMap kK)]::σ)
 |0,k,hk=>by
  refine pT jg.eq_1 ?_;obtain rfl:k=6:=by omega
  have h3:(gV b.af.length a st (r0%5000)).take 6=gV b.af.length a st (r0%5000):=aq (by simp[gV]);simp[-length_flatMap,-map_take,h3,bg,aH,aV]
 |q+1,k,hk=>by
  refine pT jg.eq_1 ?_;have h1:k<6:=by omega
  have h1':(k:Int)<6:=by omega
  have h4:=db h1 (by omega);have hx:(gV b.af.length a st (r0%5000))[k]?=some (wJ b.af.length a st (r0%5000) k):=by simp[gV,h1]
  have a3:=mj (f:=kK) hx;have ih:=Xk (m:=m) (c29:=c29) (c30:=c30) (a:=a) (st:=st) hb hr q (k+1) (by omega);have a4:=DO ((gV b.af.length a st (r0%5000)).take k);rw[bO,show(gV b.af.length a st (r0%5000)).length=6 by simp[gV],Nat.min_eq_left (by omega)]at a4;have a6:(((gV b.af.length a st (r0%5000)).take k).flatMap kK).take k=((gV b.af.length a st (r0%5000)).take k).flatMap kK:=aq (by omega);have h7:=Am (n:=k+1) (by omega);have h8:(b.af.length:Int)*8≤(room:Int):=by unfold room;omega
  have hk:=fun X:List Abs.aF=>qd (n:=16) (f:=bx) (w:=1) (l:=wJ b.af.length a st (r0%5000) k) (j:=0) (v:=0) (bs:=[.cells 0 ((wJ b.af.length a st (r0%5000) k).flatMap bx)]) (σ:=X::σ) (by decide) (fun _=>rfl) (fun _=>by simp[D.clean]) (by simp) rfl
  simp only[xZ,bq,Nat.add_sub_cancel,List.set_cons_zero]at hk;simp[-length_flatMap,-map_take,h1,h1',h8];refine WL.to (FN (σ:=[.dead,.dead,.cells k (((gV b.af.length a st (r0%5000)).take k).flatMap kK)]::σ) (m:=m) (c29:=c29) (c30:=c30) (a:=a) (st:=st) (k:=k) (L34:=σ.length) (r0:=r0) hb hr b.af.length 0 (by omega)) (by simp) (by simp[CN]) ?_;rintro x e σ' ⟨rfl,g6,g7,g8,g28,g29,g30,g33,g34,g35,g36,rfl⟩;simp[-length_flatMap,-map_take,g6,g7,g8,g28,g29,g30,g33,g34,g35,g36,h4,hk,a4,a6,h7,bg,aH,aV];exact WL.to ih (by simp) (by simp[← a3,kK,xZ]) fun x e σ hh=>hh
theorem T0{b:bC}{m:bV}(h1:b.bY.length≤9223372036854775807)(h2:b.af.length≤9223372036854775807)(hs:m.name.length≤9223372036854775807∧m.aP.length≤9223372036854775807):
  bG T (.call false pZ [.agg [.int .i64 b.f.x,.int .i64 b.f.y,.int .i64 b.f.z,.int .i64 b.f.k,.aE b.bY.length (b.bY.flatMap Rw.enc),.int .i64 b.aS,.int .i64 b.lift,.int .i64 b.deep,.aE b.af.length (b.af.flatMap aT.enc)],.aE 1 [.str m.name,.aE m.aP.length (m.aP.flatMap bx)],.bw] σ)=some (.val (.bool (wx b [m] [])) σ):=by
 refine aA Ep sX.eq_1 rfl ?_;have hB:=fun σ=>TR (σ:=σ) h1 h2
 unfold wx;cases c1:b.valid
 ·simp[-length_flatMap,-map_take,hB,c1,bg,aH,aV]
 have hb:=Bv.of c1;have hM:=fun σ=>Xg (σ:=σ) (l:=[m]) hb (by simpa using hs) (by simp)
 have hP:=fun σ=>J5 (σ:=σ) (b:=b) (plan:=[]) (by simp) (by simp)
 simp only[List.length_singleton,bk,gq,dz,bV.enc,ch]at hM hP;by_cases c3:xU b [m]=0
 rotate_left
 ·simp[-length_flatMap,-map_take,hB,c1,hM,c3,bg,aH,aV]
 have h0:sG b []=0:=rfl;simp[-length_flatMap,-map_take,hB,c1,hM,c3,hP,h0,bg,aH,aV]
theorem K4{b:bC}{a st:Nat}{rt:Int}(hrt:0≤rt∧rt<5000):sG b (gV b.af.length a st rt)=0:=by
 have key:∀l:List (List Int),(∀r∈l,kf b r=0)→gf (kf b) l=0:=by
  intro l;induction l with
  |nil=>intro _;rfl
  |cons r l ih=>intro h;rw[gf,if_pos (h r (List.mem_cons_self ..))];exact ih fun x hx=>h x (List.mem_cons_of_mem _ hx)
 unfold sG;rw[if_neg (by simp[gV])];refine key _ fun r hr=>?_
 simp only[gV,bp]at hr;obtain⟨k,_,rfl⟩:=hr;unfold kf;rw[if_pos xZ,if_pos];refine jW.2 fun x hx=>?_
 simp only[wJ,bp]at hx;obtain⟨w,_,rfl⟩:=hx;refine bD.2 ?_;unfold x8;split
 ·omega
 ·split<;>omega
theorem D1{b:bC}{m:bV}(h:wx b [m] []=true){a st:Nat}{rt:Int}(hrt:0≤rt∧rt<5000):Ok b [m] (gV b.af.length a st rt):=by
 refine Ok.of ?_;have h6:(gV b.af.length a st rt).length=6:=by simp[gV]
 simp only[wx,ak,av]at h ⊢;exact⟨h.1,h.2.1,h.2.2.1,by omega,K4 hrt⟩
theorem CP{b:bC}{a st:Nat}{rt:Int}(hrt:0≤rt):∀(t:Nat) r,(gV b.af.length a st rt)[t]?=some r→∀wr∈b.af.zip r,wr.2<0→wr.1.b.toNat=BY b a∧st≤t:=by
 intro t r hr wr hwr hneg;obtain⟨i,hi⟩:=cX hwr;rw[List.getElem?_zip_eq_some]at hi;obtain⟨h1,h2⟩:=hi;have ht:t<6:=by
  have:=(an.1 hr).1;simpa[gV]using this
 have h3:r=wJ b.af.length a st rt t:=by
  simp[gV,ht]at hr;exact hr.symm
 have hl:i<b.af.length:=(an.1 h1).1;have h4:wr.2=x8 a st rt t i:=by
  rw[h3]at h2;simp[wJ,hl]at h2;exact h2.symm
 rw[h4]at hneg;unfold x8 at hneg;split at hneg
 ·omega
 ·rename_i hia;have hia:i=a:=by omega
  split at hneg
  ·rename_i hst;refine⟨?_,hst⟩;rw[← hia];simp[BY,h1]
  ·omega
theorem late{b:bC}{m:bV}(h:wx b [m] []=true){a c st:Nat}{rt:Int}(hrt:0≤rt∧rt<5000)(hc:c<b.af.length){ss ys:List (List Rock.aF)}(hr:Rock.run b m (gV b.af.length a st rt)=some (ss,ys)){ea:Int}(he:ea≤cm b a c):
  min 7 ((st:Int)+1+ea+1)≤ke c 0 ys:=by
 have hO:=D1 h (a:=a) (st:=st) hrt;obtain⟨_,hx,hy⟩:=hO.bv.nat;have hR:=Eo.of (hO.fv m (by simp)) hO.aD hr;have hw:b.af[c]?=some b.af[c]:=au hc;have hm:=EL (start:=st) (A:=BY b a) hx hy hr hR.yl (CP hrt.1) hw;have h6:(gV b.af.length a st rt).length=6:=by simp[gV]
 have hd:dst b.f.x.toNat b.f.y.toNat (BY b a) b.af[c].b.toNat=cm b a c:=by simp[cm,BY,hw]
 rw[h6,hd]at hm;push_cast at hm;omega
set_option maxRecDepth 8000 in
set_option maxHeartbeats 4000000 in
theorem Cx{b:bC}{m:bV}{ts:Int}{tl:List TA}{u v s:Nat}{r0:Int}(hu:u≤255)(hv:v≤255)(hs:s≤255)(hr:0≤r0∧r0≤65535)(h1:b.bY.length≤9223372036854775807)(h2:b.af.length≤9223372036854775807)(hm:m.name.length≤9223372036854775807∧m.aP.length≤9223372036854775807)(htl:tl.length≤9223372036854775807):
  ∃σ',bG T (.call false j4 [.agg [.int .i64 b.f.x,.int .i64 b.f.y,.int .i64 b.f.z,.int .i64 b.f.k,.aE b.bY.length (b.bY.flatMap Rw.enc),.int .i64 b.aS,.int .i64 b.lift,.int .i64 b.deep,.aE b.af.length (b.af.flatMap aT.enc)],.agg [.str m.name,.aE m.aP.length (m.aP.flatMap bx)],.agg [.int .i64 ts,.aE tl.length (tl.flatMap TA.enc)],.int .u8 u,.int .u8 v,.int .u8 s,.int .u16 r0] [[]])=some (.val (.bool true) σ'):=by
 refine⟨[[]],?_⟩;refine aA wE l8.eq_1 rfl ?_;have hC:=fun σ=>T0 (σ:=σ) h1 h2 hm
 cases hc:wx b [m] []
 ·rw[hc]at hC;simp[-length_flatMap,-map_take,hC,oH,bg,aH,aV]
 rw[hc]at hC;by_cases hn2:2≤b.af.length
 rotate_left
 ·have:(b.af.length:Int)<2:=by omega
  simp[-length_flatMap,-map_take,hC,this,oH,bg,aH,aV]
 have hn2':¬(b.af.length:Int)<2:=by omega
 by_cases ht:tl.length≤60
 rotate_left
 ·have:(60:Int)<tl.length:=by omega
  simp[-length_flatMap,-map_take,hC,hn2',this,oH,bg,aH,aV]
 have ht':¬(60:Int)<tl.length:=by omega
 have hO:=Ok.of hc;have hb:=hO.bv;have hw8:=hb.af;have k16:=DP (f:=kK) (w:=1) (fun _=>rfl) (fun x=>by simp[kK,D.clean,aV]) (l:=kS b.af.length (cm b)) (j:=0) (v:=b.af.length) (bs:=[.cells b.af.length ((kS b.af.length (cm b)).flatMap kK)]) (σ:=[[]]) (by simp) rfl;rw[xS]at k16;simp only[List.length_singleton,List.set_cons_zero]at k16;simp[-length_flatMap,-map_take,hC,hn2',ht',AG,bg,aH,aV];refine WL.to (Dt (σ:=[[]]) (a0:=u) (c0:=v) (s0:=s) (r0:=r0) (ts:=ts) (m:=m) (tl:=tl) hb b.af.length 0 (by omega)) (by simp) (by simp) ?_;rintro x e σ' ⟨rfl,g3,g4,g5,g6,g7,g8,g9,g16,rfl⟩;simp[-length_flatMap,-map_take,g3,g4,g5,g6,g7,g8,g9,g16,k16];refine WL.to (Dq (σ:=[[]]) (a0:=u) (c0:=v) (s0:=s) (r0:=r0) (ts:=ts) (m:=m) (tl:=tl) hb ht tl.length 0 (by omega) (by simp)) (by simp) (by simp) ?_;rintro x e σ' (⟨hok,rfl,g3,g4,g5,g6,g7,g8,g9,g16,g22,rfl⟩ | ⟨rfl,g14,sg,rfl⟩)
 rotate_left
 ·simp[g14]
 have hW:=E5 hb hO.valid hn2 ht hok;have k22:=DP (f:=jB.enc) (w:=4) (fun _=>rfl) (fun x=>by simp[D.clean]) (l:=tl.map (CD (cm b))) (j:=1) (v:=tl.length) (bs:=[.dead,.cells tl.length ((tl.map (CD (cm b))).flatMap jB.enc)]) (σ:=[[]]) (by simp) rfl;rw[gZ]at k22;simp only[List.length_singleton,List.set_cons_zero,List.set_cons_succ]at k22;have hau:u%b.af.length<b.af.length:=Nat.mod_lt _ (by omega);have hav:v%b.af.length<b.af.length:=Nat.mod_lt _ (by omega);obtain⟨K,P,Q,hK,hE⟩:=wZ (σ:=[[.dead,.dead],[]]) hW hau hav (by simp);obtain⟨e1,e2⟩:=zl hW hK hau hav;obtain⟨ea,hea⟩:∃ea:Int,(if(jU K (u%b.af.length) (v%b.af.length) (tl.map (CD (cm b)))).2<0 then 0 else(jU K (u%b.af.length) (v%b.af.length) (tl.map (CD (cm b)))).1)=ea:=⟨_,rfl⟩;have hea1:0≤ea∧ea≤cm b (u%b.af.length) (v%b.af.length):=by
  rw[← hea];split
  ·exact⟨Int.le_refl _,Cn⟩
  ·exact e1
 rw[hea]at hE;have hF:=fun σ=>TP (σ:=σ) hW
 simp only[gZ]at hE hF;have t1:(u:Int).tmod (b.af.length:Int)=((u%b.af.length:Nat):Int):=rfl;have t2:(v:Int).tmod (b.af.length:Int)=((v%b.af.length:Nat):Int):=rfl;have t1':(u:Int)%(b.af.length:Int)=((u%b.af.length:Nat):Int):=rfl;have t2':(v:Int)%(b.af.length:Int)=((v%b.af.length:Nat):Int):=rfl;have t3:(s:Int).tmod 4=((s%4:Nat):Int):=rfl;have t3':(s:Int)%4=((s%4:Nat):Int):=rfl;have y1:=eW (n:=(u:Int)) (by omega);have y2:=eW (n:=(v:Int)) (by omega);have y3:=eW (n:=(s:Int)) (by omega);have y4:=eW (n:=((u%b.af.length:Nat):Int)) (by omega);have y5:=eW (n:=((v%b.af.length:Nat):Int)) (by omega);have y6:=eW (n:=((s%4:Nat):Int)) (by omega);have hn0:¬(b.af.length:Int)=0:=by omega
 have hn0':¬b.af=[]:=fun h=>by rw[h]at hn2;simp at hn2
 have hs4:s%4<4:=Nat.mod_lt _ (by omega);generalize u%b.af.length=a at *
 generalize v%b.af.length=c at *
 generalize s%4=st at *
 simp[-length_flatMap,-map_take,g3,g4,g5,g6,g7,g8,g9,g16,g22,k22,t1,t1',t2,t2',t3,t3',y1,y2,y3,y4,y5,y6,hn0,hn0',hE,hF];have hrt:0≤r0%5000∧r0%5000<5000:=by omega
 have hP:=D1 hc (a:=a) (st:=st) hrt;have k34:=DP (f:=kK) (w:=1) (fun _=>rfl) (fun x=>by simp[kK,D.clean,aV]) (l:=gV b.af.length a st (r0%5000)) (j:=2) (v:=6) (bs:=[.dead,.dead,.cells 6 ((gV b.af.length a st (r0%5000)).flatMap kK)]) (σ:=[[]]) (by simp) rfl;have h6:(gV b.af.length a st (r0%5000)).length=6:=by simp[gV]
 rw[h6]at k34;simp only[List.length_singleton,List.set_cons_zero,List.set_cons_succ]at k34;refine WL.to (Xk (σ:=[[]]) (m:=m) (c29:=c) (c30:=ea) (a:=a) (st:=st) hw8 hr 6 0 (by omega)) (by simp) (by simp) ?_;rintro x e σ' ⟨rfl,g7,g8,g28,g29,g30,g33,g34,rfl⟩;have htab:=hb.bY;have htb:b.bY.length≤20:=by
  simp only[oq,ak]at htab;have:=bD.1 htab.1;omega
 have kB:=fun σ hσ=>TQ (σ:=σ) (b:=b) htb hw8 hσ
 have kM:=fun σ hσ=>Fi (σ:=σ) (m:=m) (by have:=(hO.short m (by simp)).2;omega) hσ
 by_cases hac:a=c
 ·subst hac;simp[-length_flatMap,-map_take,g7,g8,g28,g29,g30,g33,g34,k34,oH]
 have hac':¬(a:Int)=c:=by omega
 cases hrun:Rock.run b m (gV b.af.length a st (r0%5000))with
 |none =>
  have kA:=fun σ hσ=>AF (σ:=σ) hP hav hσ hrun
  rw[h6]at kA;simp[-length_flatMap,-map_take,g7,g8,g28,g29,g30,g33,g34,k34,hac',kB,kM,kA,oH]
 |some r =>
  obtain⟨ss,ys⟩:=r;have kA:=fun σ hσ=>Eg (σ:=σ) hP hav hσ hrun
  rw[h6]at kA;have hl:=late hc hrt hav hrun hea1.2;have hd:=vi hb a c;have w1:=eW (n:=(st:Int)+1) (by omega);have w2:=eW (n:=(st:Int)+1+ea) (by omega);have w3:=eW (n:=(st:Int)+1+ea+1) (by omega);have w4:IntKind.i64.wrap 7=7:=by decide
  generalize ke c 0 ys=F at *
  simp[-length_flatMap,-map_take,g7,g8,g28,g29,g30,g33,g34,k34,hac',kB,kM,kA,w1,w2,w3,w4,hl,oH]
end Go.Proofs.YtcgippbplkagkaaGreat
