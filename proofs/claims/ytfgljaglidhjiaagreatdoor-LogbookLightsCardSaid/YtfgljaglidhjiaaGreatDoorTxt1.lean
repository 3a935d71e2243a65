import Derived.Test.YtfgljaglidhjiaaGreatDoorTxt0
set_option linter.all false
namespace Go.Proofs.YtfgljaglidhjiaaGreatDoor
open List(length_flatMap map_take)
open Go Go.Abs Go.Rock
variable {σ:SK}
theorem aF.M6{x:Rock.aF}:x.valid=true↔(1≤x.m∧x.m≤1000000)∧(0≤x.h∧x.h≤10000000000)∧(0≤x.k∧x.k≤1000000000000):=by
 simp[Rock.aF.valid,cA]
structure Sv(b:cC)(s:List Rock.aF):Prop where
 len:s.length=b.n
 ok:∀x∈s,x.valid=true
theorem Sv.of{b:cC}{s:List Rock.aF}(h:Bv b):yL b s=true↔Sv b s:=by
 have hs:=h.sz;have hn:=h.n;unfold yL;simp only[af,au];constructor
 ·rintro⟨h1,h2⟩;exact⟨by unfold cC.size at h1;omega,fW.1 h2⟩
 ·rintro⟨h1,h2⟩;exact⟨by unfold cC.size;omega,fW.2 h2⟩
theorem Sv.at{b:cC}{s:List Rock.aF}(h:Sv b s){i:Nat}(hi:i<b.n):s[i]?=some (bU s i)∧(1≤(bU s i).m∧(bU s i).m≤1000000)∧(0≤(bU s i).h∧(bU s i).h≤10000000000)∧(0≤(bU s i).k∧(bU s i).k≤1000000000000):=by
 have h1:i<s.length:=by have:=h.len;omega
 have h2:s[i]?=some (bU s i):=by simp[bU,h1]
 exact⟨h2,aF.M6.1 (h.ok _ (aj h2))⟩
theorem Sv.first{b:cC}{m:cU}(h:Fv b m):Sv b (dY b m):=by
 refine⟨C8,fun x hx=>?_⟩;simp only[dY,bW,List.mem_range]at hx;obtain⟨i,hi,rfl⟩:=hx;have b1:=h.hold i hi;have b2:=h.Lm i hi;have b3:=oA (by omega:0≤hold b m i) b1.2 b2.1 b2.2;exact aF.M6.2 ⟨⟨by simp only;omega,by simp only;omega⟩,⟨b3.1,by simp only;omega⟩,by simp⟩
theorem ahz{r:Rw}(h:r.alone=true):(1≤r.p∧r.p≤10000)∧(0≤r.l∧r.l≤4000):=by
 simp only[Rw.alone,af]at h;exact⟨ba.1 h.2.1,ba.1 h.2.2.1⟩
theorem Rf{s:List Rock.aF}{i:Nat}{x:Rock.aF}{t:List Rw}(hx:s[i]?=some x)(hm:0≤x.m∧x.m≤1000000)(ht:∀r∈t,r.alone=true)(hl:t.length≤1000):∀(n j:Nat) (o:Int),j+n=t.length →
  WL T [1,2,7,34,35,36] false jb [(1,.aI s.length (s.flatMap aF.enc)),(2,.int .i64 i),(7,.int .i64 o),(34,.aI t.length (t.flatMap Rw.enc)),(35,.int .i64 t.length),(36,.int .i64 j)] σ
   (fun x' e σ'=>σ'=σ∧x'=.exit 0∧get e 7=.int .i64 ((t.drop j).foldl (pK x) o))
 |0,j,o,hj=>by
  refine aO jb.eq_1 ?_;have h1:¬j<t.length:=by omega
  have h2:t.drop j=[]:=aB (by omega);simp[-length_flatMap,-map_take,h1,h2]
 |n+1,j,o,hj=>by
  refine aO jb.eq_1 ?_;have h1:j<t.length:=by omega
  obtain⟨r,hr⟩:=gE h1;have hrb:=ahz (ht r (aj hr));have h2:=bS (f:=Rw.enc) (w:=5) (fun _=>rfl) hr;have h3:=bS (f:=aF.enc) (w:=3) (fun _=>rfl) hx;have h4:=gq h1 (by omega);have h5:=cM hr;have hi:i<s.length:=(aD.1 hx).1;have b1:=oA hrb.2.1 hrb.2.2 hm.1 hm.2;have w1:=fT (n:=r.l*x.m) (by omega);have ih:=Rf hx hm ht hl n (j+1) (pK x o r) (by omega);rw[h5];simp only[List.foldl_cons];by_cases hc:r.l*x.m≤x.h
  ·have hm2:(if o<r.p then r.p else o)=pK x o r:=by unfold pK;rw[if_pos hc];omega
   simp[-length_flatMap,-map_take,h1,h2,h3,h4,hi,w1,hc];refine WL.to ih (by simp[pK,hc]) rfl fun x e σ hh=>hh
  ·simp[-length_flatMap,-map_take,h1,h2,h3,h4,hi,w1,hc];refine WL.to ih (by simp[pK,hc]) rfl fun x e σ hh=>hh
theorem Jb{b:cC}{m:cU}{s:List Rock.aF}(h:Fv b m)(hs:Sv b s){i:Nat}(hi:i<b.n):
  bx T (.call false fO [.agg [.int .i64 b.f.x,.int .i64 b.f.y,.int .i64 b.f.z,.int .i64 b.f.k,.aI b.cz.length (b.cz.flatMap Rw.enc),.int .i64 b.bL,.int .i64 b.lift,.int .i64 b.deep,.aI b.ar.length (b.ar.flatMap bJ.enc),.str m.name,.aI m.bu.length (m.bu.flatMap aT)],.aI s.length (s.flatMap aF.enc),.int .i64 i] σ)=some (.val (.int .i64 (kW b m s i)) σ):=by
 refine aA Ai lk.eq_1 rfl ?_;have hw:=fun σ=>Jd (σ:=σ) (m:=m) h.bv hi
 have ho:=fun σ=>VD (σ:=σ) h.toMv hi
 have b1:=h.hold i hi;obtain⟨hx,b2,b3,b4⟩:=hs.at hi;have hil:i<s.length:=by have:=hs.len;omega
 have hst:=h.bv.bL;have b5:=CV h.bv hi;have b6 : -100000000000≤b.bL*((bU s i).m-hold b m i)∧b.bL*((bU s i).m-hold b m i)≤100000000000:=by
  rcases mN (hold b m i) (bU s i).m with hh | hh
  ·have:=oA (a:=b.bL) (b:=(bU s i).m-hold b m i) (A:=100000) (B:=1000000) (by omega) hst.2 (by omega) (by omega);omega
  ·have:=oA (a:=b.bL) (b:=hold b m i-(bU s i).m) (A:=100000) (B:=1000000) (by omega) hst.2 (by omega) (by omega);have e:b.bL*((bU s i).m-hold b m i) = - (b.bL*(hold b m i-(bU s i).m)):=by rw[← Int.mul_neg];congr 1;omega
   omega
 have hd:=fun σ=>apu (σ:=σ) (n:=b.bL*((bU s i).m-hold b m i)) (d:=hold b m i) (by omega) (by omega)
 have b7 : -100000000000≤down (b.bL*((bU s i).m-hold b m i)) (hold b m i)∧down (b.bL*((bU s i).m-hold b m i)) (hold b m i)≤100000000000:=by
  unfold down;constructor
  ·rw[Int.le_ediv_iff_mul_le (by omega)];omega
  ·have:=Int.ediv_le_self (b:=hold b m i) (a:=b.bL*((bU s i).m-hold b m i));rcases mN 0 (b.bL*((bU s i).m-hold b m i))with hh | hh
   ·have:=this hh;omega
   ·have:=Int.ediv_le_of_le_mul (b:=0) (show 0<hold b m i by omega) (by omega:b.bL*((bU s i).m-hold b m i)≤0*hold b m i);omega
 have w1:=fT (n:=(bU s i).m-hold b m i) (by omega);have w2:=fT (n:=b.bL*((bU s i).m-hold b m i)) (by omega);have w3:=fT (n:=weight b i+down (b.bL*((bU s i).m-hold b m i)) (hold b m i)) (by omega);have h3:=bS (f:=aF.enc) (w:=3) (fun _=>rfl) hx;have htab:=h.bv.cz;simp only[kE,af]at htab;have ht:=ba.1 htab.1;simp[-length_flatMap,-map_take,hw,ho,hil,h3,w1,w2,hd,w3];refine WL.to (Rf (σ:=[]::σ) hx ⟨by omega,by omega⟩ (fW.1 htab.2.1) (by omega) b.cz.length 0 (max 0 (weight b i+down (b.bL*((bU s i).m-hold b m i)) (hold b m i))) (by omega)) (by simp) rfl ?_;rintro x e σ' ⟨rfl,rfl,g⟩;simp[-length_flatMap,-map_take,g,kW]
theorem Na{b:cC}{m:cU}{s:List Rock.aF}:(bY b m s).length=s.length:=by simp[bY]
theorem Tn(l:List Int):(l.flatMap aT).length=l.length:=by
 have:=cm (f:=aT) (w:=1) (fun _=>rfl) l;omega
theorem HY{b:cC}{m:cU}{s:List Rock.aF}(h:Fv b m)(hs:Sv b s):∀(n i v:Nat),i+n=s.length →
  WL T [1,2,4,7,8] false iw [(1,.aI s.length (s.flatMap aF.enc)),(2,.bI [.int .i64 b.f.x,.int .i64 b.f.y,.int .i64 b.f.z,.int .i64 b.f.k,.aI b.cz.length (b.cz.flatMap Rw.enc),.int .i64 b.bL,.int .i64 b.lift,.int .i64 b.deep,.aI b.ar.length (b.ar.flatMap bJ.enc),.str m.name,.aI m.bu.length (m.bu.flatMap aT)]),(4,.sl σ.length 0 v 0 i 1),(7,.int .i64 s.length),(8,.int .i64 i)] ([.cells v (((bY b m s).take i).flatMap aT)]::σ)
   (fun x e σ'=>x=.exit 0∧get e 4=.sl σ.length 0 (v+n) 0 (bY b m s).length 1∧σ'=[.cells (v+n) ((bY b m s).flatMap aT)]::σ)
 |0,i,v,hi=>by
  refine aO iw.eq_1 ?_;have h1:¬i<s.length:=by omega
  have h3:(bY b m s).take i=bY b m s:=ak (by rw[Na];omega);simp[-length_flatMap,-map_take,h1,h3,Na];omega
 |n+1,i,v,hi=>by
  refine aO iw.eq_1 ?_;have h1:i<s.length:=by omega
  have hn:=h.bv.n;have hl:=hs.len;have h4:=gq h1 (by omega);have hp:=fun σ=>Jb (σ:=σ) h hs (i:=i) (by omega)
  have ih:=HY h hs n (i+1) (v+1) (by omega);have hx:(bY b m s)[i]?=some (kW b m s i):=by simp[bY,h1]
  have a3:=Hs (f:=aT) hx;have a4:=Tn ((bY b m s).take i);rw[lF,Na,Nat.min_eq_left (by omega)]at a4;have a6:(((bY b m s).take i).flatMap aT).take i=((bY b m s).take i).flatMap aT:=ak (by omega);have h7:(i+1)*8≤room:=by unfold room;omega
  simp[-length_flatMap,-map_take,h1,h4,hp,a4,a6,h7,cN,bw,bz];refine WL.to ih (by simp[cN,bw,bz]) (by simp[← a3]) fun x e σ hh=>by simpa[dA,Nat.add_comm 1 n]using hh
theorem NO{b:cC}{m:cU}{s:List Rock.aF}(h:Fv b m)(hs:Sv b s)(hσ:σ≠[]):bx T (.call false gW [.agg [.int .i64 b.f.x,.int .i64 b.f.y,.int .i64 b.f.z,.int .i64 b.f.k,.aI b.cz.length (b.cz.flatMap Rw.enc),.int .i64 b.bL,.int .i64 b.lift,.int .i64 b.deep,.aI b.ar.length (b.ar.flatMap bJ.enc),.str m.name,.aI m.bu.length (m.bu.flatMap aT)],.aI s.length (s.flatMap aF.enc)] σ)=some (.val (.aI (bY b m s).length ((bY b m s).flatMap aT)) σ):=by
 refine aA zC kl.eq_1 rfl ?_;simp[-length_flatMap,-map_take,cN,bw,bz];refine WL.to (HY (σ:=σ) h hs s.length 0 0 (by omega)) (by simp) (by simp) ?_;rintro x e σ' ⟨rfl,g4,rfl⟩;simp[-length_flatMap,-map_take,g4];rw[yz (f:=aT) (by decide) (fun _=>rfl) (fun x=>by simp) hσ (by simp)];simp
theorem PI{x:Rock.aF}:bx T (.call false jA [.agg x.enc] σ)=some (.val (.bool x.valid) σ):=by
 refine aA Eu oR.eq_1 rfl ?_;cases hc1:cA x.m 1 1000000
 ·simp[-length_flatMap,-map_take,dQ,Rock.aF.valid,hc1]
 cases hc2:cA x.h 0 10000000000
 ·simp[-length_flatMap,-map_take,dQ,Rock.aF.valid,hc1,hc2]
 cases hc3:cA x.k 0 1000000000000
 ·simp[-length_flatMap,-map_take,dQ,Rock.aF.valid,hc1,hc2,hc3]
 simp[-length_flatMap,-map_take,dQ,Rock.aF.valid,hc1,hc2,hc3]
theorem L4{x q m A:Int}(hm:1≤m)(hx:0≤x∧x≤A)(hq:0≤q∧q≤m):0≤(x*q).tdiv m∧(x*q).tdiv m≤A:=by
 have h1:=eC hx.1 hq.1;rw[bh h1];refine⟨Int.ediv_nonneg h1 (by omega),Int.ediv_le_of_le_mul (by omega) ?_⟩;exact lL hx.2 hq.2 hq.1 (by omega)
theorem VL{x:Rock.aF}{q:Int}(hm:1≤x.m∧x.m≤1000000)(hh:0≤x.h∧x.h≤10000000000)(hk:0≤x.k∧x.k≤1000000000000)(hq:0≤q∧q≤x.m):
  bx T (.call false lJ [.agg x.enc,.int .i64 q] σ)=some (.val (.agg (x.out q).enc) σ):=by
 refine aA GQ rI.eq_1 rfl ?_;have b1:=oA hh.1 hh.2 hq.1 (show q≤1000000 by omega);have b2:=oA hk.1 hk.2 hq.1 (show q≤1000000 by omega);have b3:=L4 hm.1 hh hq;have b4:=L4 hm.1 hk hq;have w1:=fT (n:=x.h*q) (by omega);have w2:=fT (n:=x.k*q) (by omega);have w3:=fT (n:=(x.h*q).tdiv x.m) (by omega);have w4:=fT (n:=(x.k*q).tdiv x.m) (by omega);have hne:¬x.m=0:=by omega
 simp[-length_flatMap,-map_take,w1,w2,w3,w4,hne,Rock.aF.out]
def sm(x:Rock.aF)(n:Int):Prop:=(-n≤x.m∧x.m≤n)∧(-n≤x.h∧x.h≤n)∧(-n≤x.k∧x.k≤n)
theorem Ja{F:List Abs.aF}{j v i:Nat}{s:List Rock.aF}{x o:Rock.aF}{sign:Int}(hF:F[j]?=some (.cells v (s.flatMap aF.enc)))(hx:s[i]?=some x)(h1:sm x 1000000000000000000)(h2:sm o 1000000000000000000)(hs:sign=1∨sign = -1):
  bx T (.call false ck [.ref σ.length j v (i*3),.agg o.enc,.int .i64 sign] (F::σ))=some (.val (.dM []) (F.set j (.cells v ((iH s i o sign).flatMap aF.enc))::σ)):=by
 refine gH Fz pW.eq_1 rfl (by simp) ?_;obtain⟨a1,a2,a3⟩:=h1;obtain⟨c1,c2,c3⟩:=h2;have hi:i<s.length:=(aD.1 hx).1;obtain⟨A,B,hA,hAB⟩:∃A B:List D,A.length=i*3∧s.flatMap aF.enc=A++(x.enc++B):=by
  have hd:=Fa (f:=aF.enc) (w:=3) (fun _=>rfl) hx;have hlen:=IW s;refine⟨(s.flatMap aF.enc).take (i*3),(s.flatMap aF.enc).drop (i*3+3),by rw[lF];omega,?_⟩;rw[← hd,List.take_append_drop]
 have hset:(iH s i o sign).flatMap aF.enc=A++((x.move o sign).enc++B):=by
  have h3:=Tq (f:=aF.enc) (w:=3) (fun _=>rfl) (x:=x.move o sign) hi;have hblk:bU s i=x:=by simp[bU,hx]
  rw[iH,hblk,← h3,hAB];have e1:(A++(x.enc++B)).take (i*3)=A:=by rw[← hA];simp
  have e2:(A++(x.enc++B)).drop (i*3+3)=B:=by
   rw[← lM,← hA];simp
  rw[e1,e2]
 rw[hAB]at hF;rw[hset];have hj:j<F.length:=(aD.1 hF).1;have gs:∀X:Abs.aF,(F.set j X)[j]?=some X:=fun X=>by simp[hj]
 clear hset hAB hx hj;have t1:∀L:List D,(A++L).take (A.length+1)=A++L.take 1:=fun L=>by rw[List.take_length_add_append]
 have t2:∀L:List D,(A++L).take (A.length+1+1)=A++L.take 2:=fun L=>by rw[dA,List.take_length_add_append]
 have d2:∀L:List D,(A++L).drop (A.length+1+1)=L.drop 2:=fun L=>by rw[dA,cT]
 have d1:∀L:List D,(A++L).drop (A.length+1)=L.drop 1:=fun L=>by rw[cT]
 have d3:∀L:List D,(A++L).drop (A.length+1+1+1)=L.drop 3:=fun L=>by rw[dA,dA,cT]
 have k1:A.length+1+1≤A.length+(B.length+1+1+1):=by omega
 have k2:A.length+1+1+1≤A.length+(B.length+1+1+1):=by omega
 have k3:A.length+1≤A.length+(B.length+1+1+1):=by omega
 have k4:A.length+2+1≤A.length+(B.length+1+1+1):=by omega
 have d4:∀L:List D,(A++L).drop (A.length+2)=L.drop 2:=fun L=>by rw[cT]
 have d5:∀L:List D,(A++L).drop (A.length+2+1)=L.drop 3:=fun L=>by rw[dA,cT]
 have t4:∀L:List D,(A++L).take (A.length+2)=A++L.take 2:=fun L=>by rw[List.take_length_add_append]
 have y1:=fT (n:=o.m) (by omega);have y2:=fT (n:=o.h) (by omega);have y3:=fT (n:=o.k) (by omega);have y4:=fT (n := -o.m) (by omega);have y5:=fT (n := -o.h) (by omega);have y6:=fT (n := -o.k) (by omega);rcases hs with rfl | rfl
 ·have w1:=fT (n:=x.m+o.m) (by omega);have w2:=fT (n:=x.h+o.h) (by omega);have w3:=fT (n:=x.k+o.k) (by omega);simp[-length_flatMap,-map_take,hF,gs,← hA,w1,w2,w3,y1,y2,y3,t1,t2,t4,d1,d2,d3,d4,d5,k1,k2,k3,k4,Rock.aF.move]
 ·have w1:=fT (n:=x.m + -o.m) (by omega);have w2:=fT (n:=x.h + -o.h) (by omega);have w3:=fT (n:=x.k + -o.k) (by omega);simp[-length_flatMap,-map_take,hF,gs,← hA,w1,w2,w3,y4,y5,y6,t1,t2,t4,d1,d2,d3,d4,d5,k1,k2,k3,k4,Rock.aF.move]
theorem aiq{w:bJ}{r:Int}(hr : -100000≤r∧r≤100000)(h1:0≤w.h∧w.h≤3000)(h2:0≤w.m∧w.m≤1000000):
  bx T (.call false nq [.agg w.enc,.int .i64 r] σ)=some (.val (.agg (w.given r).enc) σ):=by
 refine aA FA pX.eq_1 rfl ?_;have b1 : -300000000≤r*w.h∧r*w.h≤300000000:=by
  rcases mN 0 r with h | h
  ·have:=oA h hr.2 h1.1 h1.2;omega
  ·have:=oA (a := -r) (A:=100000) (by omega) (by omega) h1.1 h1.2;rw[Int.neg_mul]at this;omega
 have b2 : -100000000000≤r*w.m∧r*w.m≤100000000000:=by
  rcases mN 0 r with h | h
  ·have:=oA h hr.2 h2.1 h2.2;omega
  ·have:=oA (a := -r) (A:=100000) (by omega) (by omega) h2.1 h2.2;rw[Int.neg_mul]at this;omega
 have w1:=fT (n := -r) (by omega);have w2:=fT (n := -(r*w.h)) (by omega);have w3:=fT (n := -(r*w.m)) (by omega);simp[-length_flatMap,-map_take,w1,w2,w3,bJ.given,Int.neg_mul]
theorem avZ{b:cC}{m:cU}(h:Fv b m){i:Nat}(hi:i<b.n):bx T (.call false nu [.agg [.int .i64 b.f.x,.int .i64 b.f.y,.int .i64 b.f.z,.int .i64 b.f.k,.aI b.cz.length (b.cz.flatMap Rw.enc),.int .i64 b.bL,.int .i64 b.lift,.int .i64 b.deep,.aI b.ar.length (b.ar.flatMap bJ.enc),.str m.name,.aI m.bu.length (m.bu.flatMap aT)],.int .i64 i] σ)=some (.val (.agg (Qf b m i).enc) σ):=by
 refine aA FF qd.eq_1 rfl ?_;have hf:=fun σ=>apw (σ:=σ) h.toMv hi
 have b1:=h.feed i hi;have b2:=h.bv.deep;have b3:=oA b1.1 b1.2 b2.1 b2.2;have w1:=fT (n:=feed b m i*b.deep) (by omega);simp[-length_flatMap,-map_take,hf,w1,Qf]
theorem aik{s:List Rock.aF}{bs:List Abs.aF}(hl:s.length≤1000000)(hne:s≠[]):bx T (.call true cS [.aI s.length (s.flatMap aF.enc)] (bs::σ)) =
  some (.val (.sl σ.length (bs.length+1) 1 0 s.length 3) ((bs++[.cells 0 [],.cells 1 (s.flatMap aF.enc)])::σ)):=by
 refine wO rV dN.eq_1 rfl ?_;have h7:s.length*24≤room:=by unfold room;omega
 simp[-length_flatMap,-map_take,hne,IW,h7]
theorem ait{b:cC}:bx T (.call false oj [.agg [.int .i64 b.f.x,.int .i64 b.f.y,.int .i64 b.f.z,.int .i64 b.f.k,.aI b.cz.length (b.cz.flatMap Rw.enc),.int .i64 b.bL,.int .i64 b.lift,.int .i64 b.deep,.aI b.ar.length (b.ar.flatMap bJ.enc)]] σ)=some (.val (.fn jx [] [.bI [.int .i64 b.f.x,.int .i64 b.f.y,.int .i64 b.f.z,.int .i64 b.f.k,.aI b.cz.length (b.cz.flatMap Rw.enc),.int .i64 b.bL,.int .i64 b.lift,.int .i64 b.deep,.aI b.ar.length (b.ar.flatMap bJ.enc)]]) σ):=by
 refine aA GN rF.eq_1 rfl ?_;simp[-length_flatMap,-map_take,cN,bw,bz]
theorem Bv.xy{b:cC}(h:Bv b):b.f.x=(b.f.x.toNat:Int)∧b.f.y=(b.f.y.toNat:Int)∧1≤b.f.x.toNat*b.f.y.toNat∧b.f.x.toNat*b.f.y.toNat≤64:=by
 have hx:=h.x;have hy:=h.y;obtain⟨s1,_⟩:=fU.sz h.x h.y h.z;have e1:b.f.x*b.f.y=((b.f.x.toNat*b.f.y.toNat:Nat):Int):=by push_cast;rw[fZ (by omega),fZ (by omega)]
 rw[e1]at s1;refine⟨by omega,by omega,by omega,by omega⟩
theorem Bv.nat{b:cC}(h:Bv b):b.n=b.f.x.toNat*b.f.y.toNat*b.f.z.toNat∧1≤b.f.x.toNat∧1≤b.f.y.toNat:=by
 have hx:=h.x;have hy:=h.y;have hz:=h.z;have hs:=h.sz;refine⟨?_,by omega,by omega⟩;have:((b.f.x.toNat*b.f.y.toNat*b.f.z.toNat:Nat):Int)=b.f.size:=by
  push_cast;rw[fZ (by omega),fZ (by omega),fZ (by omega)];rfl
 omega
theorem aoU{X W i n:Nat}(hn:n=X*W)(hi:i<n)(hc:(i+1)%X≠0):i+1<n:=by
 rcases Nat.lt_or_ge (i+1) n with h | h
 ·exact h
 ·have:i+1=X*W:=by omega
  rw[this,Nat.mul_mod_right]at hc;exact absurd rfl hc
theorem link2{X Y Z i n:Nat}(hX:1≤X)(hY:1≤Y)(hn:n=X*Y*Z)(hi:i<n)(hc:i / X%Y≠Y-1):i+X<n:=by
 have h1:i / X<Y*Z:=by rw[Nat.div_lt_iff_lt_mul hX,Nat.mul_comm,← Nat.mul_assoc];omega
 have h2:i / X+1<Y*Z:=by
  rcases Nat.lt_or_ge (i / X+1) (Y*Z)with h | h
  ·exact h
  ·exfalso
   have h3:i / X+1=Y*Z:=by omega
   have hZ:1≤Z:=by
    rcases Nat.eq_zero_or_pos Z with h0 | h0
    ·subst h0;omega
    ·exact h0
   have h4:i / X=Y*(Z-1)+(Y-1):=by
    have:Y*Z=Y*(Z-1)+Y:=by rw[← Nat.mul_succ];congr 1;omega
    omega
   rw[h4,Nat.mul_add_mod,Nat.mod_eq_of_lt (by omega)]at hc;exact hc rfl
 have h3:i<(i / X+1)*X:=by
  have:=Nat.div_add_mod i X;have h4:=Nat.mod_lt i (show X>0 by omega);rw[iU,Nat.one_mul,Nat.mul_comm (i / X) X];omega
 have h5:(i / X+1)*X+X≤n:=by
  have:(i / X+1+1)*X≤Y*Z*X:=dq _ h2;rw[iU (i / X+1) 1 X,Nat.one_mul,Nat.mul_comm (Y*Z) X,← Nat.mul_assoc]at this;omega
 omega
theorem Rc{b:cC}(h:Bv b){lv j N:Nat}{St:List (Nat×Nat)→SK}(hN:∀pre,(St pre).length=N)
  (hR:∀pre,∀l:Nat×Nat,l.1<b.n→l.2<b.n→l.1≠l.2→bx T (.round lv j [.agg [.int .i64 l.1,.int .i64 l.2]] ([]::St pre))=some (.val (.bool true) ([]::St (pre++[l])))):∀(n i:Nat) (pre:List (Nat×Nat)),i+n=b.n →
  WL T [0,1,3,4,13,14] false mo [(0,.mB lv j),(1,.bI [.int .i64 b.f.x,.int .i64 b.f.y,.int .i64 b.f.z,.int .i64 b.f.k,.aI b.cz.length (b.cz.flatMap Rw.enc),.int .i64 b.bL,.int .i64 b.lift,.int .i64 b.deep,.aI b.ar.length (b.ar.flatMap bJ.enc)]),(3,.int .i64 b.f.x),(4,.int .i64 b.f.y),(13,.int .i64 b.n),(14,.int .i64 i)] ([]::St pre)
   (fun x e σ'=>σ'=[]::St (pre++((List.range b.n).drop i).flatMap (yC b))∧x=.exit 0)
 |0,i,pre,hi=>by
  refine aO mo.eq_1 ?_;have h1:¬i<b.n:=by omega
  have h2:(List.range b.n).drop i=[]:=aB (by simp;omega);simp[-length_flatMap,-map_take,h1,h2]
 |n+1,i,pre,hi=>by
  refine aO mo.eq_1 ?_;have h1:i<b.n:=by omega
  have hn:=h.n;have hx:=h.x;have hy:=h.y;obtain⟨eX,eY,p1,p2⟩:=h.xy;have h4:=gq h1 (by omega);have hs:=fun σ=>zx (σ:=σ) h
  have h5:(List.range b.n).drop i=i::(List.range b.n).drop (i+1):=cM (by simp[h1]);have w1:=fT (n:=b.f.x*b.f.y) (by rw[eX,eY];omega);obtain⟨hnn,X1,Y1⟩:=h.nat;have hx0:¬b.f.x=0:=by omega
  have hy0:¬b.f.y=0:=by omega
  have ih:=fun pre=>Rc h hN hR n (i+1) pre (by omega)
  have e1:((i:Int)+1).tmod b.f.x=(((i+1)%b.f.x.toNat:Nat):Int):=by
   conv=>lhs;rw[eX]
   rfl
  have e2:(i:Int) / b.f.x=((i / b.f.x.toNat:Nat):Int):=by
   conv=>lhs;rw[eX]
   rfl
  have e2b:(i:Int).tdiv b.f.x=((i / b.f.x.toNat:Nat):Int):=by
   conv=>lhs;rw[eX]
   rfl
  have e3:((i / b.f.x.toNat:Nat):Int).tmod b.f.y=((i / b.f.x.toNat%b.f.y.toNat:Nat):Int):=by
   conv=>lhs;rw[eY]
   rfl
  have e4:b.f.x*b.f.y=((b.f.x.toNat*b.f.y.toNat:Nat):Int):=by
   conv=>lhs;rw[eX,eY]
   rfl
  have hq:i / b.f.x.toNat≤i:=Nat.div_le_self _ _;have hr1:(i+1)%b.f.x.toNat≤i+1:=Nat.mod_le _ _;have hr2:i / b.f.x.toNat%b.f.y.toNat≤i / b.f.x.toNat:=Nat.mod_le _ _;have l1:=aoU (W:=b.f.y.toNat*b.f.z.toNat) (by rw[hnn,Nat.mul_assoc]) h1;have l2:=link2 (Z:=b.f.z.toNat) X1 Y1 hnn h1;have R1:=fun pre hc=>hR pre (i,i+1) h1 (l1 hc) (by simp)
  have R2:=fun pre hc=>hR pre (i,i+b.f.x.toNat) h1 (l2 hc) (by simp;omega)
  have R3:=fun pre hc=>hR pre (i,i+b.f.x.toNat*b.f.y.toNat) h1 hc (by simp;omega)
  have z2:((i+b.f.x.toNat:Nat):Int)=(i:Int)+b.f.x:=by omega
  have z3:((i+b.f.x.toNat*b.f.y.toNat:Nat):Int)=(i:Int)+b.f.x*b.f.y:=by rw[e4];omega
  have z1:((i+1:Nat):Int)=(i:Int)+1:=rfl;simp only[z1,z2,z3]at R1 R2 R3;generalize hA:i / b.f.x.toNat=A at *
  generalize hB:A%b.f.y.toNat=B at *
  generalize hC:(i+1)%b.f.x.toNat=C at *
  generalize hP:b.f.x.toNat*b.f.y.toNat=P at *
  have v1:=fT (n:=(A:Int)) (by omega);have v2:=fT (n:=(B:Int)) (by omega);have v3:=fT (n:=(C:Int)) (by omega);have v4:=fT (n:=b.f.y-1) (by omega);have v5:=fT (n:=(i:Int)+b.f.x) (by omega);have v6:=fT (n:=(i:Int)+b.f.x*b.f.y) (by rw[e4];omega);have v7:=fT (n:=b.f.x*b.f.y) (by rw[e4];omega);have c3:((i:Int)+b.f.x*b.f.y<(b.n:Int))↔(i+P<b.n):=by rw[e4];omega
  have hL:yC b i=(if C≠0 then [(i,i+1)]else [])++((if B≠b.f.y.toNat-1 then [(i,i+b.f.x.toNat)]else [])++(if i+P<b.n then [(i,i+P)]else [])):=by
   unfold yC;rw[hC,hA,hB,hP]
  rw[h5,aZ,hL];clear hL hnn l1 l2;have t1:((C:Int)=0)↔(C=0):=by omega
  have t2:((B:Int)=b.f.y-1)↔(B=b.f.y.toNat-1):=by omega
  by_cases k1:C=0<;>by_cases k2:B=b.f.y.toNat-1<;>by_cases k3:i+P<b.n;all_goals
   first | (have u1:=t1.2 k1) | (have u1:=mt t1.1 k1)
   first | (have u2:=t2.2 k2) | (have u2:=mt t2.1 k2)
   have ih':=ih (pre++((if C≠0 then [(i,i+1)]else [])++((if B≠b.f.y.toNat-1 then [(i,i+b.f.x.toNat)]else [])++(if i+P<b.n then [(i,i+P)]else []))));first
    |(rw[if_neg (not_not_intro k1)]at ih' ⊢) | (rw[if_pos k1]at ih' ⊢)
   first
    |(rw[if_neg (not_not_intro k2)]at ih' ⊢) | (rw[if_pos k2]at ih' ⊢)
   first
    |(rw[if_neg k3]at ih' ⊢) | (rw[if_pos k3]at ih' ⊢)
   have g1:=fun pre=>R1 pre
   have g2:=fun pre=>R2 pre
   have g3:=fun pre=>R3 pre
   first | (have g1:=fun pre=>R1 pre k1) | skip
   first | (have g2:=fun pre=>R2 pre k2) | skip
   first | (have g3:=fun pre=>R3 pre k3) | skip
   simp[-length_flatMap,-map_take,h1,h4,hx0,hy0,e1,e2,e2b,e3,v1,v2,v3,v4,v5,v6,v7,c3,u1,u2,k1,k3,hs,g1,g2,g3];refine WL.to ih' (by simp) (by simp) fun x e σ hh=>by simpa using hh
theorem VF{b:cC}(h:Bv b){lv j N:Nat}{St:List (Nat×Nat)→SK}(hN:∀pre,(St pre).length=N)
  (hR:∀pre,∀l:Nat×Nat,l.1<b.n→l.2<b.n→l.1≠l.2→bx T (.round lv j [.agg [.int .i64 l.1,.int .i64 l.2]] ([]::St pre))=some (.val (.bool true) ([]::St (pre++[l])))):
  bx T (.call false jx [.mB lv j,.bI [.int .i64 b.f.x,.int .i64 b.f.y,.int .i64 b.f.z,.int .i64 b.f.k,.aI b.cz.length (b.cz.flatMap Rw.enc),.int .i64 b.bL,.int .i64 b.lift,.int .i64 b.deep,.aI b.ar.length (b.ar.flatMap bJ.enc)]] (St []))=some (.val (.dM []) (St (LU b))):=by
 refine gH Ep oN.eq_1 rfl (by rw[hN,hN]) ?_;have hs:=fun σ=>zx (σ:=σ) h
 simp[-length_flatMap,-map_take,hs];refine WL.to (Rc h hN hR b.n 0 [] (by omega)) (by simp) rfl ?_;rintro x e σ' ⟨rfl,rfl⟩;simp[-length_flatMap,-map_take,LU]
def Fs(es:List ((Nat×Nat)×Rock.aF)):List D:=es.map fun e => .dM [.agg [.int .i64 e.1.1,.int .i64 e.1.2],.agg e.2.enc]
def kyL:Ky:=some (true,[some .i64,some .i64])
theorem ayn{a b:Nat×Nat}:sU kyL (.agg [.int .i64 a.1,.int .i64 a.2]) (.agg [.int .i64 b.1,.int .i64 b.2])=some (b == a):=by
 simp only[sU,kyL,D.row,AG,and_self,if_true,aU,Bool.and_true];congr 1;rw[Bool.eq_iff_iff];simp only[af,beq_iff_eq];constructor
 ·rintro⟨h1,h2⟩;exact Prod.ext (by omega) (by omega)
 ·rintro rfl;exact⟨rfl,rfl⟩
theorem Oz{k:Nat×Nat}:∀{es:List ((Nat×Nat)×Rock.aF)},∃r,re kyL (.agg [.int .i64 k.1,.int .i64 k.2]) (Fs es)=some r∧r.map Prod.fst=es.findIdx? (fun e=>e.1 == k)
 |[]=>⟨none,rfl,rfl⟩
 |e::es=>by
  obtain⟨r,h1,h2⟩:=Oz (k:=k) (es:=es);simp only[Fs,aQ]at h1 ⊢;simp only[re,ayn];cases hk:e.1 == k
  ·refine⟨_,by rw[h1];rfl,?_⟩;rw[List.findIdx?_cons,hk,← h2];cases r<;>rfl
  ·exact⟨_,rfl,by rw[List.findIdx?_cons,hk];rfl⟩
theorem ahk{S:SK}{l i:Nat}{es:List ((Nat×Nat)×Rock.aF)}{k:Nat×Nat}{o:Rock.aF}(h:cells? S l i 0=some (Fs es)):
  BO S (.put kyL) [.mB l i,.agg [.int .i64 k.1,.int .i64 k.2],.agg o.enc]=some (.undef,aW S l i (.cells 0 (Fs (U4 es k o)))):=by
 obtain⟨r,h1,h2⟩:=Oz (k:=k) (es:=es);simp only[BO,BN,h,aU,h1,ayn,Option.isSome_some,true_and];rw[if_pos (.inr ⟨by simp[D.clean],by simp[D.clean]⟩)];unfold U4;rw[← h2];cases r with
 |none=>simp[Fs]
 |some y=>simp[Fs,List.map_set]
theorem Ke{x:Rock.aF}{A:Int}(hA:10000≤A):∀(t:List Rw) (o:Int),(∀r∈t,r.alone=true)→(0≤o∧o≤A)→0≤t.foldl (pK x) o∧t.foldl (pK x) o≤A
 |[],o,_,h=>h
 |r::t,o,ht,h=>by
  have h1:=ahz (ht r (by simp));refine Ke hA t _ (fun r hr=>ht r (by simp[hr])) ?_;unfold pK;split<;>omega
theorem Nb{b:cC}{m:cU}{s:List Rock.aF}(h:Fv b m)(hs:Sv b s){i:Nat}(hi:i<b.n):0≤kW b m s i∧kW b m s i≤200000000000:=by
 have htab:=h.bv.cz;simp only[kE,af]at htab;refine Ke (by omega) _ _ (fW.1 htab.2.1) ?_;have b5:=CV h.bv hi;have b1:=h.hold i hi;obtain⟨hx,b2,b3,b4⟩:=hs.at hi;have hst:=h.bv.bL;have b6:b.bL*((bU s i).m-hold b m i)≤100000000000:=by
  rcases mN (hold b m i) (bU s i).m with hh | hh
  ·have:=oA (a:=b.bL) (b:=(bU s i).m-hold b m i) (A:=100000) (B:=1000000) (by omega) hst.2 (by omega) (by omega);omega
  ·have:=oA (a:=b.bL) (b:=hold b m i-(bU s i).m) (A:=100000) (B:=1000000) (by omega) hst.2 (by omega) (by omega);have e:b.bL*((bU s i).m-hold b m i) = - (b.bL*(hold b m i-(bU s i).m)):=by rw[← Int.mul_neg];congr 1;omega
   omega
 have b7:down (b.bL*((bU s i).m-hold b m i)) (hold b m i)≤100000000000:=by
  unfold down;have:=Int.ediv_le_self (b:=hold b m i) (a:=b.bL*((bU s i).m-hold b m i));rcases mN 0 (b.bL*((bU s i).m-hold b m i))with hh | hh
  ·have:=this hh;omega
  ·have:=Int.ediv_le_of_le_mul (b:=0) (show 0<hold b m i by omega) (by omega:b.bL*((bU s i).m-hold b m i)≤0*hold b m i);omega
 omega
theorem zD{O:bQ}{c c':cX}(hc:c=c'){e:Env}{σ:SK}{Q:Abs.Exit→Env→SK→Prop}:WC O c e σ Q .mk .mk=WC O c' e σ Q .mk .mk:=by subst hc;rfl
def UR(b:cC)(m:cU)(s:List Rock.aF)(L:Nat):xc :=
 {state:=0,wU:=none,env:=[(2,.bI [.int .i64 b.f.x,.int .i64 b.f.y,.int .i64 b.f.z,.int .i64 b.f.k,.aI b.cz.length (b.cz.flatMap Rw.enc),.int .i64 b.bL,.int .i64 b.lift,.int .i64 b.deep,.aI b.ar.length (b.ar.flatMap bJ.enc),.str m.name,.aI m.bu.length (m.bu.flatMap aT)]),(3,.bI [.aI s.length (s.flatMap aF.enc)]),(4,.undef),(5,.ref L 3 0 0),(6,.ref L 4 0 0)],params:=[18],Ay:=kj,body:=dS }
def Ve(A B:Abs.aF)(b:cC)(m:cU)(s:List Rock.aF)(σ:SK)(es:List ((Nat×Nat)×Rock.aF)):SK :=
 [A,B,.cells 0 (Fs es),.cells 0 [.mB σ.length 2],.cells 0 [.aI (bY b m s).length ((bY b m s).flatMap aT)],.loop (UR b m s σ.length)]::σ
theorem apY{A B:Abs.aF}{b:cC}{m:cU}{s:List Rock.aF}(h:Fv b m)(hs:Sv b s)(es:List ((Nat×Nat)×Rock.aF))(l:Nat×Nat)(h1:l.1<b.n)(h2:l.2<b.n):
  bx T (.round σ.length 5 [.agg [.int .i64 l.1,.int .i64 l.2]] ([]::Ve A B b m s σ es))=some (.val (.bool true) ([]::Ve A B b m s σ (pv b m s (bY b m s) es l))):=by
 have hn:=h.bv.n;have hl:=hs.len;have hp1:(bY b m s)[l.1]?=some (kW b m s l.1):=by simp[bY,hl,h1]
 have hp2:(bY b m s)[l.2]?=some (kW b m s l.2):=by simp[bY,hl,h2]
 have a1:=qQ hp1;have a2:=qQ hp2;have hpl:(bY b m s).length=b.n:=by rw[Na,hl]
 have bp1:=Nb h hs h1;have bp2:=Nb h hs h2;have bw1:=CV h.bv h1;have bw2:=CV h.bv h2;have cw1:=fun σ=>Jd (σ:=σ) (m:=m) h.bv h1
 have cw2:=fun σ=>Jd (σ:=σ) (m:=m) h.bv h2
 have co1:=fun σ=>VK (σ:=σ) h.toMv h1
 have co2:=fun σ=>VK (σ:=σ) h.toMv h2
 have bo1:=h.Lf l.1 h1;have bo2:=h.Lf l.2 h2;obtain⟨x1,m1,m2,m3⟩:=hs.at h1;obtain⟨y1,n1,n2,n3⟩:=hs.at h2;have f1:=bS (f:=aF.enc) (w:=3) (fun _=>rfl) x1;have f2:=bS (f:=aF.enc) (w:=3) (fun _=>rfl) y1;have w1:=fT (n:=kW b m s l.1-weight b l.1) (by omega);have w2:=fT (n:=kW b m s l.1-weight b l.1-kW b m s l.2) (by omega);have w3:=fT (n:=kW b m s l.1-weight b l.1-kW b m s l.2+weight b l.2) (by omega);have hL1:l.1<s.length:=by omega
 have hL2:l.2<s.length:=by omega
 have hE:pv b m s (bY b m s) es l=pv b m s (bY b m s) es l:=rfl
 conv at hE=>rhs;unfold pv MV
 simp only[hp1,hp2,gU]at hE;generalize pv b m s (bY b m s) es l=es' at *
 have hmin:0≤min (Lf b m l.2) (Lf b m l.1)∧min (Lf b m l.2) (Lf b m l.1)≤1000:=by omega
 have hmin':0≤min (Lf b m l.1) (Lf b m l.2)∧min (Lf b m l.1) (Lf b m l.2)≤1000:=by omega
 generalize hw1:weight b l.1=W1 at *
 generalize hw2:weight b l.2=W2 at *
 generalize hq1:kW b m s l.1=P1 at *
 generalize hq2:kW b m s l.2=P2 at *
 generalize hD:P1-W1-P2+W2=d at *
 refine Pc (lp:=UR b m s σ.length) (by simp[Ve]) rfl ?_;rw[show(UR b m s σ.length).Ay=kj from rfl,kj.eq_1,show(UR b m s σ.length).body=dS from rfl];by_cases hd:d<0
 ·simp only[hd,if_true]at hE;have b3:=oA hmin.1 hmin.2 (show 0 ≤ -d by omega) (show -d≤1000000000000 by omega);have w4:=fT (n := -d) (by omega);have d1:=bh (b:=1000) b3.1;have d2:=bh (b:=8) (show 0≤(bU s l.2).m by omega);generalize hX:min (Lf b m l.2) (Lf b m l.1) * -d=X at *
  have w5:=fT (n:=X) (by omega);generalize hY:X.tdiv 1000=Y at *
  generalize hZ:(bU s l.2).m.tdiv 8=Z at *
  have w6:=fT (n:=Y) (by rw[d1];omega);have w7:=fT (n:=Z) (by rw[d2];omega);by_cases hq:0<min Y Z
  ·have hO:=fun σ=>VL (σ:=σ) (q:=min Y Z) n1 n2 n3 ⟨by omega,by rw[d2];omega⟩
   have hP:=fun S h=>ahk (S:=S) (l:=σ.length) (i:=2) (es:=es) (k:=(l.2,l.1)) (o:=(bU s l.2).out (min Y Z)) h
   rw[if_pos hq]at hE;simp only at hE;subst hE;generalize (bU s l.2).out (min Y Z)=O at *
   simp only[aF.enc]at hO;simp only[aF.enc,kyL]at hP;simp[-length_flatMap,-map_take,zD dS.eq_1,UR,Ve,UT,hpl,h1,h2,a1,a2,cw1,cw2,w1,w2,w3,hD,hd,co1,co2,hL1,hL2,f1,f2,w4,w5,w6,w7,hX,hY,hZ,hq,hO,hP]
  ·rw[if_neg hq]at hE;simp only at hE;subst hE;simp[-length_flatMap,-map_take,zD dS.eq_1,UR,Ve,UT,hpl,h1,h2,a1,a2,cw1,cw2,w1,w2,w3,hD,hd,co1,co2,hL1,hL2,f1,f2,w4,w5,w6,w7,hX,hY,hZ,hq]
 ·simp only[hd,if_false]at hE;have b3:=oA hmin'.1 hmin'.2 (show 0≤d by omega) (show d≤1000000000000 by omega);have w4:=fT (n:=d) (by omega);have d1:=bh (b:=1000) b3.1;have d2:=bh (b:=8) (show 0≤(bU s l.1).m by omega);generalize hX:min (Lf b m l.1) (Lf b m l.2)*d=X at *
  have w5:=fT (n:=X) (by omega);generalize hY:X.tdiv 1000=Y at *
  generalize hZ:(bU s l.1).m.tdiv 8=Z at *
  have w6:=fT (n:=Y) (by rw[d1];omega);have w7:=fT (n:=Z) (by rw[d2];omega);by_cases hq:0<min Y Z
  ·have hO:=fun σ=>VL (σ:=σ) (q:=min Y Z) m1 m2 m3 ⟨by omega,by rw[d2];omega⟩
   have hP:=fun S h=>ahk (S:=S) (l:=σ.length) (i:=2) (es:=es) (k:=l) (o:=(bU s l.1).out (min Y Z)) h
   rw[if_pos hq]at hE;simp only at hE;subst hE;generalize (bU s l.1).out (min Y Z)=O at *
   simp only[aF.enc]at hO;simp only[aF.enc,kyL]at hP;simp[-length_flatMap,-map_take,zD dS.eq_1,UR,Ve,UT,hpl,h1,h2,a1,a2,cw1,cw2,w1,w2,w3,hD,hd,co1,co2,hL1,hL2,f1,f2,w4,w5,w6,w7,hX,hY,hZ,hq,hO,hP]
  ·rw[if_neg hq]at hE;simp only at hE;subst hE;simp[-length_flatMap,-map_take,zD dS.eq_1,UR,Ve,UT,hpl,h1,h2,a1,a2,cw1,cw2,w1,w2,w3,hD,hd,co1,co2,hL1,hL2,f1,f2,w4,w5,w6,w7,hX,hY,hZ,hq]
theorem aip{A B:Abs.aF}{b:cC}{m:cU}{s:List Rock.aF}(h:Fv b m)(hs:Sv b s):∃X Y Z:Abs.aF,
  bx T (.call true kQ [.agg [.int .i64 b.f.x,.int .i64 b.f.y,.int .i64 b.f.z,.int .i64 b.f.k,.aI b.cz.length (b.cz.flatMap Rw.enc),.int .i64 b.bL,.int .i64 b.lift,.int .i64 b.deep,.aI b.ar.length (b.ar.flatMap bJ.enc),.str m.name,.aI m.bu.length (m.bu.flatMap aT)],.aI s.length (s.flatMap aF.enc)] ([A,B]::σ))=some (.val (.mB σ.length 2) ([A,B,.cells 0 (Fs (vM b m s)),X,Y,Z]::σ)):=by
 refine⟨.cells 0 [.mB σ.length 2],.cells 0 [.aI (bY b m s).length ((bY b m s).flatMap aT)],.loop {UR b m s σ.length with state:=3 },?_⟩;refine wO Dy nW.eq_1 rfl ?_;have hp:=fun σ hσ=>NO (σ:=σ) h hs hσ
 have hl:=VF (b:=b) h.bv (lv:=σ.length) (j:=5) (N:=σ.length+1) (St:=fun pre=>Ve A B b m s σ (pre.foldl (pv b m s (bY b m s)) [])) (fun pre=>by simp[Ve])
  (fun pre l h1 h2 _=>by rw[List.foldl_append];exact apY h hs _ l h1 h2)
 have hm:BO ([A,B]::σ) .make []=some (.mB σ.length 2,[A,B,.cells 0 (Fs [])]::σ):=by simp[BO,Fs]
 simp[-length_flatMap,-map_take,hp,ait,cN,bw,bz,JQ,hm];refine Ro (d:=.dM []) (σ2:=Ve A B b m s σ (vM b m s)) (lp:=UR b m s σ.length) (by simp;exact⟨rfl,rfl,rfl⟩) ?_ (by simp[Ve]) (by simp[UR]) ?_
 ·simpa[UR,Ve,vM]using hl
 ·simp[-length_flatMap,-map_take,UR,Ve]
end Go.Proofs.YtfgljaglidhjiaaGreatDoor
namespace Go.Proofs.YtfgljaglidhjiaaGreatDoor
open List(length_flatMap map_take)
open Go Go.Abs Go.Rock
def C4(N:Int)(s:List Rock.aF):Prop:=∀x∈s,sm x N
theorem kD{x:Rock.aF}{N M:Int}(h:sm x N)(hN:N≤M):sm x M:=by
 obtain⟨h1,h2,h3⟩:=h;exact⟨⟨by omega,by omega⟩,⟨by omega,by omega⟩,⟨by omega,by omega⟩⟩
theorem JL{N:Int}{s:List Rock.aF}(h:C4 N s){i:Nat}(hi:i<s.length):s[i]?=some (bU s i)∧sm (bU s i) N:=by
 have h2:s[i]?=some (bU s i):=by simp[bU,hi]
 exact⟨h2,h _ (aj h2)⟩
theorem Gq{s:List Rock.aF}{i:Nat}{o:Rock.aF}{sign:Int}:(iH s i o sign).length=s.length:=by simp[iH]
theorem zU{N M:Int}{s:List Rock.aF}(h:C4 N s){i:Nat}{o:Rock.aF}{sign:Int}(ho:sm o M)(hs:sign=1∨sign = -1)(hM:0≤M):C4 (N+M) (iH s i o sign):=by
 intro x hx;unfold iH at hx;by_cases hi:i<s.length
 ·rcases List.mem_or_eq_of_mem_set hx with hx | rfl
  ·exact kD (h x hx) (by omega)
  ·obtain⟨a1,a2,a3⟩:=(JL h hi).2;obtain⟨b1,b2,b3⟩:=ho;rcases hs with rfl | rfl
   ·exact⟨⟨by simp only[Rock.aF.move];omega,by simp only[Rock.aF.move];omega⟩,⟨by simp only[Rock.aF.move];omega,by simp only[Rock.aF.move];omega⟩,⟨by simp only[Rock.aF.move];omega,by simp only[Rock.aF.move];omega⟩⟩
   ·exact⟨⟨by simp only[Rock.aF.move];omega,by simp only[Rock.aF.move];omega⟩,⟨by simp only[Rock.aF.move];omega,by simp only[Rock.aF.move];omega⟩,⟨by simp only[Rock.aF.move];omega,by simp only[Rock.aF.move];omega⟩⟩
 ·rw[List.set_eq_of_length_le (by omega)]at hx;exact kD (h x hx) (by omega)
theorem Db{s:List Rock.aF}{i j:Nat}{o p:Rock.aF}{a c:Int}:iH (iH s i o a) j p c=iH (iH s j p c) i o a:=by
 by_cases hij:i=j
 ·subst hij;by_cases hi:i<s.length
  ·simp only[iH,bU,List.getElem?_set_self hi,gU,List.set_set,Rock.aF.move];congr 2<;>omega
  ·simp only[iH,List.set_eq_of_length_le (show s.length≤i by omega)]
 ·have hji:¬j=i:=fun h=>hij h.symm
  simp only[iH,bU,List.getElem?_set_ne hij,List.getElem?_set_ne hji];rw[List.set_comm _ _ hij]
theorem UB{s:List Rock.aF}{e f:(Nat×Nat)×Rock.aF}:eU (eU s e) f=eU (eU s f) e:=by
 unfold eU;rw[Db (i:=e.1.2) (j:=f.1.1),Db (i:=e.1.1) (j:=f.1.1),Db (i:=e.1.2) (j:=f.1.2),Db (i:=e.1.1) (j:=f.1.2)]
theorem OD{s:List Rock.aF}{e:(Nat×Nat)×Rock.aF}:(eU s e).length=s.length:=by simp[eU,Gq]
def Ll(es:List ((Nat×Nat)×Rock.aF))(s:List Rock.aF)(j:Nat):List Rock.aF:=match es[j]? with | some e=>eU s e | none=>s
theorem ahS{es:List ((Nat×Nat)×Rock.aF)}{s:List Rock.aF}{i j:Nat}:Ll es (Ll es s i) j=Ll es (Ll es s j) i:=by
 unfold Ll;cases es[i]? <;> cases es[j]? <;> simp[UB]
theorem ajR{es:List ((Nat×Nat)×Rock.aF)}{s:List Rock.aF}{j:Nat}:(Ll es s j).length=s.length:=by
 unfold Ll;split<;>simp[OD]
theorem Mg:∀(es:List ((Nat×Nat)×Rock.aF)) (s:List Rock.aF) (n:Nat),n≤es.length→(List.range n).foldl (Ll es) s=(es.take n).foldl eU s
 |es,s,0,_=>by simp
 |es,s,n+1,h=>by
  obtain⟨e,he⟩:∃e,es[n]?=some e:=gE (by omega);rw[List.range_succ,List.foldl_append,Mg es s n (by omega),List.take_add_one,he,List.foldl_append];simp[Ll,he]
theorem ajQ{es:List ((Nat×Nat)×Rock.aF)}{s:List Rock.aF}{js:List Nat}(hd:js.Nodup)(hm:∀j,j∈js↔j<es.length):js.foldl (Ll es) s=es.foldl eU s:=by
 have hp:js.Perm (List.range es.length):=(List.perm_ext_iff_of_nodup hd List.nodup_range).2 fun a=>by simp[hm]
 rw[hp.foldl_eq' (fun x _ y _ z=>ahS),Mg es s es.length (aK _),ak (aK _)]
theorem UQ{b:cC}:(LU b).length≤3*b.n:=by
 have key:∀l:List Nat,(l.flatMap (yC b)).length≤3*l.length:=by
  intro l;induction l with
  |nil=>simp
  |cons i l ih =>
   rw[aZ,bB,aL];have:(yC b i).length≤3:=by
    unfold yC;simp only[bB];split<;>split<;>split<;>simp
   omega
 have:=key (List.range b.n);rw[List.length_range]at this;exact this
theorem aha{b:cC}(h:Bv b){l:Nat×Nat}(hl:l∈LU b):l.1<b.n∧l.2<b.n:=by
 obtain⟨hnn,X1,Y1⟩:=h.nat;obtain⟨i,hi,hh⟩:=List.mem_flatMap.1 hl;have h1:i<b.n:=by simpa using hi
 unfold yC at hh;simp only[bg]at hh;rcases hh with hh | hh | hh
 ·split at hh
  ·rename_i hc;simp at hh;subst hh;exact⟨h1,aoU (W:=b.f.y.toNat*b.f.z.toNat) (by rw[hnn,Nat.mul_assoc]) h1 hc⟩
  ·cases hh
 ·split at hh
  ·rename_i hc;simp at hh;subst hh;exact⟨h1,link2 (Z:=b.f.z.toNat) X1 Y1 hnn h1 hc⟩
  ·cases hh
 ·split at hh
  ·rename_i hc;simp at hh;subst hh;exact⟨h1,hc⟩
  ·cases hh
def Vl(b:cC)(e:(Nat×Nat)×Rock.aF):Prop:=(e.1.1<b.n∧e.1.2<b.n)∧sm e.2 1000000000000
theorem QC{x:Rock.aF}{q:Int}(hm:1≤x.m∧x.m≤1000000)(hh:0≤x.h∧x.h≤10000000000)(hk:0≤x.k∧x.k≤1000000000000)(hq:0≤q∧q≤x.m):sm (x.out q) 1000000000000:=by
 have b3:=L4 hm.1 hh hq;have b4:=L4 hm.1 hk hq;exact⟨⟨by simp only[Rock.aF.out];omega,by simp only[Rock.aF.out];omega⟩,⟨by simp only[Rock.aF.out];omega,by simp only[Rock.aF.out];omega⟩,⟨by simp only[Rock.aF.out];omega,by simp only[Rock.aF.out];omega⟩⟩
theorem UA{b:cC}{m:cU}{s:List Rock.aF}(hs:Sv b s){p:List Int}{l:Nat×Nat}(h1:l.1<b.n)(h2:l.2<b.n){e:(Nat×Nat)×Rock.aF}(he:MV b m s p l=some e):Vl b e:=by
 unfold MV at he;simp only at he;generalize hd:(p[l.1]?).getD 0-weight b l.1-(p[l.2]?).getD 0+weight b l.2=d at he;generalize hl':(if d<0 then(l.2,l.1)else l)=l' at he;generalize hd':(if d<0 then -d else d)=d' at he;have hll:l'.1<b.n∧l'.2<b.n:=by
  rw[← hl'];split<;>exact⟨by assumption,by assumption⟩
 obtain⟨_,m1,m2,m3⟩:=hs.at hll.1;split at he
 ·rename_i hq;simp only[ae]at he;subst he;have d2:=bh (b:=8) (show 0≤(bU s l'.1).m by omega);exact⟨hll,QC m1 m2 m3 ⟨by omega,by rw[d2];omega⟩⟩
 ·cases he
theorem ajz{b:cC}{es:List ((Nat×Nat)×Rock.aF)}{k:Nat×Nat}{o:Rock.aF}(h:∀e∈es,Vl b e)(ho:Vl b (k,o)):(∀e∈U4 es k o,Vl b e)∧(U4 es k o).length≤es.length+1:=by
 unfold U4;split
 ·constructor
  ·intro e he;rcases List.mem_or_eq_of_mem_set he with he | rfl
   ·exact h e he
   ·exact ho
  ·simp
 ·constructor
  ·intro e he;rcases bg.1 he with he | he
   ·exact h e he
   ·simp at he;subst he;exact ho
  ·simp
theorem OE{b:cC}{m:cU}{s:List Rock.aF}(h:Bv b)(hs:Sv b s):(∀e∈vM b m s,Vl b e)∧(vM b m s).length≤192:=by
 have key:∀(ls:List (Nat×Nat)) (es:List ((Nat×Nat)×Rock.aF)),(∀l∈ls,l.1<b.n∧l.2<b.n)→(∀e∈es,Vl b e)→(∀e∈ls.foldl (pv b m s (bY b m s)) es,Vl b e)∧(ls.foldl (pv b m s (bY b m s)) es).length≤es.length+ls.length:=by
  intro ls;induction ls with
  |nil=>intro es _ h;exact⟨h,by simp⟩
  |cons l ls ih =>
   intro es hl he;have hl0:=hl l (by simp);simp only[List.foldl_cons];have h1:(∀e∈pv b m s (bY b m s) es l,Vl b e)∧(pv b m s (bY b m s) es l).length≤es.length+1:=by
    unfold pv;split
    ·rename_i e hfe;exact ajz he (UA hs hl0.1 hl0.2 hfe)
    ·exact⟨he,by omega⟩
   obtain⟨h2,h3⟩:=ih _ (fun l hh=>hl l (by simp[hh])) h1.1;exact⟨h2,by simp only[aL];omega⟩
 obtain⟨h1,h2⟩:=key (LU b) [] (fun l hl=>aha h hl) (by simp);have:=@UQ b;have hn:=h.n;exact⟨h1,by simp only[bG]at h2;unfold vM;omega⟩
theorem OC{b:cC}{N:Int}{s:List Rock.aF}{e:(Nat×Nat)×Rock.aF}(h:C4 N s)(he:Vl b e):C4 (N+2000000000000) (eU s e):=by
 have h1:=zU (i:=e.1.1) (sign := -1) h he.2 (.inr rfl) (by omega);have h2:=zU (i:=e.1.2) (sign:=1) h1 he.2 (.inl rfl) (by omega);unfold eU;rw[show N+2000000000000=N+1000000000000+1000000000000 by omega];exact h2
theorem TU{b:cC}{es:List ((Nat×Nat)×Rock.aF)}(hes:∀e∈es,Vl b e):∀(js:List Nat) (s:List Rock.aF) (N:Int),C4 N s→C4 (N+2000000000000*js.length) (js.foldr (fun j s=>Ll es s j) s)
 |[],s,N,h=>by simpa using h
 |j::js,s,N,h=>by
  have ih:=TU hes js s N h;simp only[List.foldr_cons,aL];generalize js.foldr (fun j s=>Ll es s j) s=s1 at *
  unfold Ll;split
  ·rename_i e he;have:=OC ih (hes e (aj he));intro x hx;exact kD (this x hx) (by push_cast;omega)
  ·intro x hx;exact kD (ih x hx) (by push_cast;omega)
theorem Sv.C4{b:cC}{s:List Rock.aF}(h:Sv b s):C4 1000000000000 s:=by
 intro x hx;obtain⟨h1,h2,h3⟩:=aF.M6.1 (h.ok x hx);exact⟨⟨by omega,by omega⟩,⟨by omega,by omega⟩,⟨by omega,by omega⟩⟩
end Go.Proofs.YtfgljaglidhjiaaGreatDoor
namespace Go.Abs
open List(length_flatMap map_take)
open Go
variable {T:yZ}
theorem zt{F:List aF}:∀{σ:SK} {lv:Nat},gr σ lv=some F→lv<σ.length
 |[],lv,h=>by simp[gr]at h
 |s::σ,lv,h=>by
  simp only[gr]at h;split at h
  ·rename_i h1;simp;omega
  ·have:=zt h;simp;omega
section
variable {α:Type} {w:Nat} {enc:α→List D} (hw:∀x,(enc x).length=w) {p:α→Bool} {fv:D} {l:List α} {lv bi v:Nat} {F:List aF}
include hw in
theorem J7(hF:F[bi]?=some (.cells v (l.flatMap enc)))(hl:l.length≤9223372036854775807)(ht:pP T fv (fun x => .agg (enc x)) p l){σ:SK}(hs:gr σ lv=some F):∀(m i:Nat),i+m=l.length →
  WL T [0,1,7,8] false (J6 true w) [(0,.sl lv bi v 0 l.length w),(1,fv),(7,.int .i64 l.length),(8,.int .i64 i)] σ
   (fun x e σ'=>σ'=σ∧if idxOf p (l.drop i)<0 then x=.exit 0 else x=.ret∧get e 4=.int .i64 (i+idxOf p (l.drop i)))
 |0,i,hi=>by
  obtain⟨h1,h2,h3⟩:=ht;refine aO (J6.eq_1 _ _) ?_;have:¬i<l.length:=by omega
  have h5:l.drop i=[]:=by simp;omega
  simp[this,h1,h2,h5,idxOf]
 |m+1,i,hi=>by
  have ih:=J7 hF hl ht hs m (i+1) (by omega);obtain⟨h1,h2,h3⟩:=ht;refine aO (J6.eq_1 _ _) ?_;have h4:i<l.length:=by omega
  obtain⟨x,hx⟩:=gE h4;have h5:=Fa (f:=enc) hw hx;have h6:=h3 x (aj hx) σ;have h7:=gq h4 hl;have h8:l.drop i=x::l.drop (i+1):=cM hx;have e1:∀r:List D,(enc x++r).take w=enc x:=fun r=>by rw[← hw x];simp
  have e2:∀r:Nat,w≤(enc x).length+r:=fun r=>by rw[hw];omega
  cases hp:p x
  ·rw[hp]at h6;simp[h4,h1,h2,h5,h6,h7,hs,hF,e1,e2];refine WL.mono (by simpa using ih) ?_;rintro x e σ' ⟨h9,h10⟩;refine⟨h9,?_⟩;rw[h8];simp only[idxOf,hp,az,if_false];by_cases h11:idxOf p (l.drop (i+1))<0
   ·simpa[h11]using h10
   ·rw[if_neg h11]at h10;rw[if_neg h11,if_neg (by omega)];refine⟨h10.1,?_⟩;rw[h10.2];congr 1;push_cast;omega
  ·rw[hp]at h6;simp[h4,h1,h2,h5,h6,h7,hs,hF,e1,e2,h8,idxOf,hp]
include hw in
theorem Qk{f:Nat}(hT:T f=some (uN true w))(hF:F[bi]?=some (.cells v (l.flatMap enc)))(hl:l.length≤9223372036854775807)(ht:pP T fv (fun x => .agg (enc x)) p l){σ:SK}(hs:gr σ lv=some F):
  bx T (.call false f [.sl lv bi v 0 l.length w,fv] σ)=some (.val (.int .i64 (idxOf p l)) σ):=by
 refine aA hT (uN.eq_1 _ _) rfl ?_;have hlt:=zt hs;have h:=J7 hw hF hl ht (lv:=lv) (F:=F) (σ:=[]::σ) (by simp[gr,hs,show ¬σ.length=lv by omega]) l.length 0 (by simp);obtain⟨h1,h2,h3⟩:=ht;simp[h1,h2];refine WL.mono (by simpa using h) ?_;rintro x e σ' ⟨rfl,h10⟩
 try simp only[aP]at h10
 by_cases h11:idxOf p l<0
 ·rw[if_pos h11]at h10;subst h10;have:idxOf p l = -1:=by
   cases l with
   |nil=>rfl
   |cons a l =>
    simp only[idxOf]at h11 ⊢;split at h11<;>rename_i ha
    ·omega
    ·rw[if_neg ha];split at h11<;>rename_i hb
     ·rw[if_pos hb]
     ·omega
  simp[this]
 ·rw[if_neg h11]at h10;obtain⟨rfl,h12⟩:=h10
  try simp at h12
  simp[h12]
include hw in
theorem Ea{f i:Nat}(hT:T f=some (jn i))(hi:T i=some (uN true w))(hF:F[bi]?=some (.cells v (l.flatMap enc)))(hl:l.length≤9223372036854775807)(ht:pP T fv (fun x => .agg (enc x)) p l){σ:SK}(hs:gr σ lv=some F):
  bx T (.call false f [.sl lv bi v 0 l.length w,fv] σ)=some (.val (.bool (rq l p)) σ):=by
 refine aA hT (jn.eq_1 _) rfl ?_;have hlt:=zt hs;have h:=Qk hw hi hF hl ht (lv:=lv) (F:=F) (σ:=[]::σ) (by simp[gr,hs,show ¬σ.length=lv by omega]);obtain⟨h1,h2,h3⟩:=ht;have h4:decide (0≤idxOf p l)=rq l p:=by
  unfold rq;have h6:=Hx (p:=p) (l:=l);cases h5:l.any p
  ·have:=h6.2 h5;exact decide_eq_false (by omega)
  ·exact decide_eq_true (by
    have:¬idxOf p l<0:=fun h=>by rw[h6.1 h]at h5;cases h5
    omega)
 simp[h1,h2,h,h4]
include hw in
theorem JH{f g h i:Nat}(hf:T f=some (F3 g h))(hg:T g=some (zh true w))(hh:T h=some (jn i))(hi:T i=some (uN true w))
  (hF:F[bi]?=some (.cells v (l.flatMap enc))) (hl:l.length≤9223372036854775807) (ht:pP T fv (fun x => .agg (enc x)) p l) (hcl:fv.cells=some [fv]) {σ:SK} (hs:gr σ lv=some F):
  bx T (.call false f [.sl lv bi v 0 l.length w,fv] σ)=some (.val (.bool (fV l p)) σ):=by
 refine aA hf (F3.eq_1 _ _) rfl ?_;have hlt:=zt hs;have h:=Ea hw hh hi hF hl (Rr (xq w enc hw) hg ht) (lv:=lv) (F:=F) (σ:=[]::σ) (by simp[gr,hs,show ¬σ.length=lv by omega]);obtain⟨h1,h2,h3⟩:=ht;have h4:(rq l fun x => !p x) = !fV l p:=by
  unfold rq fV;rw[List.all_eq_not_any_not,Bool.not_not]
 simp[h1,h2,h,h4,hcl]
end
end Go.Abs
namespace Go.Proofs.YtfgljaglidhjiaaGreatDoor
open List(length_flatMap map_take)
open Go Go.Abs Go.Rock
variable {σ:SK}
theorem Uf{b:cC}{m:cU}{s:List Rock.aF}(h:Bv b){lv bi v:Nat}{F:List Abs.aF}(hF:F[bi]?=some (.cells v (s.flatMap aF.enc)))(hs:gr σ lv=some F)(hl:s.length=b.n):
  bx T (.call false kR [.agg [.int .i64 b.f.x,.int .i64 b.f.y,.int .i64 b.f.z,.int .i64 b.f.k,.aI b.cz.length (b.cz.flatMap Rw.enc),.int .i64 b.bL,.int .i64 b.lift,.int .i64 b.deep,.aI b.ar.length (b.ar.flatMap bJ.enc),.str m.name,.aI m.bu.length (m.bu.flatMap aT)],.sl lv bi v 0 s.length 3] σ)=some (.val (.bool (yL b s)) σ):=by
 refine aA Dz nX.eq_1 rfl ?_;have hlt:=zt hs;have hz:=h.sz;have hn:=h.n;have hsz:=fun σ=>zx (σ:=σ) h
 have ha:=JH (T:=T) (w:=3) (enc:=aF.enc) (fun _=>rfl) (f:=mw) (g:=kq) (h:=eW) (i:=gp) (l:=s) (p:=Rock.aF.valid) (fv:=.fn jA [] []) rfl rfl rfl rfl hF (by omega) (pP.fn fun x _ σ=>PI) rfl (lv:=lv) (F:=F) (σ:=[]::σ) (by simp[gr,hs,show ¬σ.length=lv by omega]);unfold yL;have hc3:((b.n:Nat):Int)=b.size:=hz.symm;rw[hl]at ha ⊢;cases hc:fV s Rock.aF.valid<;>simp[-length_flatMap,-map_take,hsz,hl,ha,hc,hc3]
def jsD(js:List Nat):List D:=js.map fun j => .int .i64 (j:Nat)
def Vk(n:Nat)(js:List Nat):List Nat:=(List.range n).filter fun j => !(js.contains j)
theorem ajf{js:List Nat}{j:Nat}:D.int .i64 (j:Nat)∈jsD js↔j∈js:=by
 simp only[jsD,bW];constructor
 ·rintro⟨a,h1,h2⟩;simp only[D.int.injEq,true_and]at h2;have:a=j:=by omega
  exact this ▸ h1
 ·intro h;exact⟨j,h,rfl⟩
def K8(b:cC)(m:cU)(s:List Rock.aF)(aS:List Int)(L:Nat):Env :=
 [(1,.aI s.length (s.flatMap aF.enc)),(2,.aI aS.length (aS.flatMap aT)),(3,.bI [.int .i64 b.f.x,.int .i64 b.f.y,.int .i64 b.f.z,.int .i64 b.f.k,.aI b.cz.length (b.cz.flatMap Rw.enc),.int .i64 b.bL,.int .i64 b.lift,.int .i64 b.deep,.aI b.ar.length (b.ar.flatMap bJ.enc),.str m.name,.aI m.bu.length (m.bu.flatMap aT)]),(9,.sl L 1 1 0 s.length 3),(23,.mB L 6)]
def stT(A X Y Z:Abs.aF)(σ:SK)(es:List ((Nat×Nat)×Rock.aF))(s:List Rock.aF)(it:Abs.aF):SK :=
 [A,.cells 1 (s.flatMap aF.enc),.cells 0 (Fs es),X,Y,Z,it]::σ
def itB(L n:Nat)(js:List Nat):Abs.aF:=.cells 1 (.mB L 2::.int .i64 (n:Nat)::jsD js)
theorem ag0{A X Y Z:Abs.aF}{es:List ((Nat×Nat)×Rock.aF)}{s:List Rock.aF}{js:List Nat}:
  Ie (stT A X Y Z σ es s (itB σ.length es.length js)) σ.length 6=some (.mB σ.length 2,es.length,jsD js,Vk es.length js):=by
 have hl:(Fs es).length=es.length:=by simp[Fs]
 simp[Ie,stT,itB,BN,hl,Vk,ajf]
theorem azo{n:Nat}{js:List Nat}{u:Nat}(hu:u∈Vk n js):(Vk n (u::js)).length<(Vk n js).length:=by
 have e:Vk n (u::js)=(Vk n js).filter fun j => !decide (j=u):=by
  unfold Vk;rw[List.filter_filter];congr 1;funext j;simp[List.contains_cons,Bool.not_or]
 rw[e,List.length_filter_lt_length_iff_exists];exact⟨u,hu,by simp⟩
theorem apS{b:cC}{m:cU}{s:List Rock.aF}{aS:List Int}{A X Y Z:Abs.aF}{es:List ((Nat×Nat)×Rock.aF)}{r:R}(hs:Sv b s)(hes:∀e∈es,Vl b e)(hel:es.length≤192)
  (hr:WC (bx T) ix ((25,.bool false)::(24,.undef)::K8 b m s aS σ.length) (stT A X Y Z σ es (es.foldl eU s) .dead) fun x e' σ'=>r=.Eb x e' σ'):
  ∀(k:Nat) (js:List Nat),js.Nodup→(∀j∈js,j<es.length)→(Vk es.length js).length=k →
   bx T (.jJ [1,2,3,9,23] (.t 23) 24 25 0 mu ix (K8 b m s aS σ.length) (stT A X Y Z σ es (js.foldr (fun j s=>Ll es s j) s) (itB σ.length es.length js)))=some r:=by
 intro k;induction k using Nat.strongRecOn with
 |_ k ih =>
 intro js hd hj hk;by_cases hus:Vk es.length js=[]
 ·have hall:∀j,j∈js↔j<es.length:=by
   intro j;refine⟨hj j,fun hlt=>?_⟩;have h1:j ∉ Vk es.length js:=by rw[hus];simp
   simpa[Vk,hlt]using h1
  have hfin:js.foldr (fun j s=>Ll es s j) s=es.foldl eU s:=by
   rw[← ajQ (js:=js.reverse) ((List.reverse_perm js).nodup_iff.2 hd) (fun j=>by simp[hall]),List.foldl_reverse]
  rw[hfin];have hit:=ag0 (σ:=σ) (A:=A) (X:=X) (Y:=Y) (Z:=Z) (es:=es) (s:=es.foldl eU s) (js:=js);rw[hus]at hit;refine UU mu.eq_1 rfl (by simp[K8]) hit ?_;simp[stT,K8,itB]at hr ⊢;exact hr
 ·have hit:=ag0 (σ:=σ) (A:=A) (X:=X) (Y:=Y) (Z:=Z) (es:=es) (s:=js.foldr (fun j s=>Ll es s j) s) (js:=js);refine ahi mu.eq_1 rfl (by simp[K8]) hit hus ?_;intro u hu;have hu2:u<es.length∧u ∉ js:=by simpa[Vk]using hu
  obtain⟨e,he⟩:∃e,es[u]?=some e:=⟨_,aJ hu2.1⟩;have hf:=hes e (aj he);have hnext:=ih _ (by rw[← hk];exact azo hu) (u::js) (List.nodup_cons.2 ⟨hu2.2,hd⟩) (by intro j hjm;rcases bf.1 hjm with rfl | hjm;exact hu2.1;exact hj j hjm) rfl;have hb:=TU hes js s 1000000000000 hs.C4;have hjl:js.length≤192:=by
   have h1:js.length≤es.length:=by
    have:=hd.length_le_of_subset (l₂:=List.range es.length) (fun j hjm=>by simpa using hj j hjm);simpa using this
   omega
  have hlen:(js.foldr (fun j s=>Ll es s j) s).length=b.n:=by
   have:∀js:List Nat,(js.foldr (fun j s=>Ll es s j) s).length=s.length:=by
    intro js;induction js with
    |nil=>rfl
    |cons a l ih=>simp only[List.foldr_cons,ajR];exact ih
   rw[this,hs.len]
  simp only[List.foldr_cons]at hnext;generalize hs1:js.foldr (fun j s=>Ll es s j) s=s1 at *
  have hstp:Ll es s1 u=iH (iH s1 e.1.1 e.2 (-1)) e.1.2 e.2 1:=by simp[Ll,he,eU]
  rw[hstp]at hnext;have hbn:C4 400000000000000 s1:=fun x hx=>kD (hb x hx) (by omega)
  have hb1:=zU (i:=e.1.1) (sign := -1) hbn hf.2 (.inr rfl) (by omega);obtain⟨x1,y1⟩:=JL hbn (i:=e.1.1) (by have:=hf.1.1;omega);obtain⟨x2,y2⟩:=JL hb1 (i:=e.1.2) (by rw[Gq];have:=hf.1.2;omega);have hM1:∀I,bx T (.call false ck [.ref σ.length 1 1 (e.1.1*3),.agg [.int .i64 e.2.m,.int .i64 e.2.h,.int .i64 e.2.k],.int .i64 (-1)] ([A,.cells 1 (s1.flatMap aF.enc),.cells 0 (Fs es),X,Y,Z,I]::σ)) =
    some (.val (.dM []) ([A,.cells 1 ((iH s1 e.1.1 e.2 (-1)).flatMap aF.enc),.cells 0 (Fs es),X,Y,Z,I]::σ)) :=
   fun I=>Ja (F:=[A,.cells 1 (s1.flatMap aF.enc),.cells 0 (Fs es),X,Y,Z,I]) (j:=1) rfl x1 (kD y1 (by omega)) (kD hf.2 (by omega)) (.inr rfl)
  have hM2:∀I,bx T (.call false ck [.ref σ.length 1 1 (e.1.2*3),.agg [.int .i64 e.2.m,.int .i64 e.2.h,.int .i64 e.2.k],.int .i64 1] ([A,.cells 1 ((iH s1 e.1.1 e.2 (-1)).flatMap aF.enc),.cells 0 (Fs es),X,Y,Z,I]::σ)) =
    some (.val (.dM []) ([A,.cells 1 ((iH (iH s1 e.1.1 e.2 (-1)) e.1.2 e.2 1).flatMap aF.enc),.cells 0 (Fs es),X,Y,Z,I]::σ)) :=
   fun I=>Ja (F:=[A,.cells 1 ((iH s1 e.1.1 e.2 (-1)).flatMap aF.enc),.cells 0 (Fs es),X,Y,Z,I]) (j:=1) rfl x2 (kD y2 (by omega)) (kD hf.2 (by omega)) (.inl rfl)
  have hfe:(Fs es)[u]?=some (.dM [.agg [.int .i64 e.1.1,.int .i64 e.1.2],.agg [.int .i64 e.2.m,.int .i64 e.2.h,.int .i64 e.2.k]]):=by simp[Fs,he]
  have hfl:(Fs es).length=es.length:=by simp[Fs]
  have hE:BO ([A,.cells 1 (s1.flatMap aF.enc),.cells 0 (Fs es),X,Y,Z,.cells 1 (.mB σ.length 2::.int .i64 (es.length:Nat)::.int .i64 (u:Nat)::jsD js)]::σ) .ent [.mB σ.length 6] =
    some (.dM [.agg [.int .i64 e.1.1,.int .i64 e.1.2],.agg [.int .i64 e.2.m,.int .i64 e.2.h,.int .i64 e.2.k]],[A,.cells 1 (s1.flatMap aF.enc),.cells 0 (Fs es),X,Y,Z,.cells 1 (.mB σ.length 2::.int .i64 (es.length:Nat)::.int .i64 (u:Nat)::jsD js)]::σ):=by
   simp[BO,BN,hfl,hfe]
  have hi1:e.1.1<s.length:=by have:=hf.1.1;have:=hs.len;omega
  have hi2:e.1.2<s.length:=by have:=hf.1.2;have:=hs.len;omega
  simp[-length_flatMap,-map_take,K8,stT,itB,hE,hM1,hM2,hi1,hi2,cN,bw,bz,JQ];simpa[K8,stT,itB,jsD]using hnext
theorem KA{b:cC}(h:Bv b):∀w∈b.ar,(0≤w.b∧w.b<(b.n:Int))∧(0≤w.h∧w.h≤3000)∧(0≤w.m∧w.m≤1000000):=by
 have key:∀(l:List bJ) (u:List Int),uw b.size u l=true→∀w∈l,(0≤w.b∧w.b<(b.n:Int))∧(0≤w.h∧w.h≤3000)∧(0≤w.m∧w.m≤1000000):=by
  intro l;induction l with
  |nil=>intro u _ w hw;cases hw
  |cons a l ih =>
   intro u hu w hw;simp only[uw,bJ.ok,af]at hu;obtain⟨⟨h1,h2,h3,h4⟩,h5⟩:=hu;rcases bf.1 hw with rfl | hw
   ·have hs:=h.sz;have:=ba.1 h1;unfold cC.size at this;exact⟨⟨this.1,by omega⟩,ba.1 h3,ba.1 h4⟩
   ·exact ih _ h5 w hw
 exact key _ _ h.ok
theorem mulR{a r A R:Int}(ha:0≤a∧a≤A)(hr : -R≤r∧r≤R) : -(R*A)≤r*a∧r*a≤R*A:=by
 rcases mN 0 r with h | h
 ·have:=oA h hr.2 ha.1 ha.2;have h2:=eC (show 0≤R by omega) (show 0≤A by omega);omega
 ·have:=oA (a := -r) (A:=R) (by omega) (by omega) ha.1 ha.2;rw[Int.neg_mul]at this;have h2:=eC (show 0≤R by omega) (show 0≤A by omega);omega
theorem OH{w:bJ}{r:Int}(hr : -100000≤r∧r≤100000)(h1:0≤w.h∧w.h≤3000)(h2:0≤w.m∧w.m≤1000000):sm (w.given r) 1000000000000:=by
 have b1:=mulR h1 hr;have b2:=mulR h2 hr;exact⟨⟨by simp only[bJ.given];omega,by simp only[bJ.given];omega⟩,⟨by simp only[bJ.given,Int.neg_mul];omega,by simp only[bJ.given,Int.neg_mul];omega⟩,⟨by simp only[bJ.given,Int.neg_mul];omega,by simp only[bJ.given,Int.neg_mul];omega⟩⟩
theorem agH{b:cC}{m:cU}(h:Fv b m){i:Nat}(hi:i<b.n):sm (Qf b m i) 1000000000000:=by
 have b1:=h.feed i hi;have b2:=h.bv.deep;have b3:=oA b1.1 b1.2 b2.1 b2.2;exact⟨⟨by simp only[Qf];omega,by simp only[Qf];omega⟩,⟨by simp only[Qf];omega,by simp only[Qf];omega⟩,⟨by simp[Qf],by simp[Qf]⟩⟩
def fe(b:cC)(s s1:List Rock.aF)(aS:List Int)(j:Nat):List Rock.aF:=((b.ar.zip aS).take j).foldl (fun n wr=>ur s n wr.1 wr.2) s1
def mH(b:cC)(m:cU)(s2:List Rock.aF)(i:Nat):List Rock.aF:=(List.range i).foldl (fun n i=>iH n i (Qf b m i) 1) s2
theorem GF{b:cC}{s s1:List Rock.aF}{aS:List Int}{j:Nat}{w:bJ}{r:Int}(h1:b.ar[j]?=some w)(h2:aS[j]?=some r):fe b s s1 aS (j+1)=ur s (fe b s s1 aS j) w r:=by
 have:(b.ar.zip aS)[j]?=some (w,r):=by rw[List.getElem?_zip_eq_some];exact⟨h1,h2⟩
 unfold fe;rw[List.take_add_one,this,List.foldl_append];rfl
theorem CB{b:cC}{m:cU}{s2:List Rock.aF}{i:Nat}:mH b m s2 (i+1)=iH (mH b m s2 i) i (Qf b m i) 1:=by
 unfold mH;rw[List.range_succ,List.foldl_append];rfl
theorem AH{b:cC}{m:cU}{s2:List Rock.aF}:∀i,(mH b m s2 i).length=s2.length
 |0=>rfl
 |i+1=>by rw[CB,Gq,AH i]
theorem ah4{b:cC}{s:List Rock.aF}{aS:List Int}{j:Nat}{w:bJ}{r:Int}(h1:b.ar[j]?=some w)(h2:aS[j]?=some r):(eF b s aS)[j]?=some (rO s w r):=by
 have:(b.ar.zip aS)[j]?=some (w,r):=by rw[List.getElem?_zip_eq_some];exact⟨h1,h2⟩
 simp[eF,this]
structure Rv(b:cC)(aS:List Int):Prop where
 len:aS.length=b.ar.length
 ok:∀r∈aS,-100000≤r∧r≤100000
theorem Rv.of{b:cC}{aS:List Int}(h:AT b aS=0):Rv b aS:=by
 unfold AT at h;split at h
 ·rename_i hl;split at h
  ·rename_i ha;exact⟨hl,fun r hr=>ba.1 (fW.1 ha r hr)⟩
  ·cases h
 ·cases h
theorem ajp{b:cC}{s next:List Rock.aF}(h:Bv b)(hs:Sv b s){aS:List Int}(hr:Rv b aS){j:Nat}{w:bJ}{r:Int}(h1:b.ar[j]?=some w)(h2:aS[j]?=some r){N:Int}(hb:C4 N next):C4 (N+1000000000000) (ur s next w r):=by
 have hw:=KA h w (aj h1);have hrr:=hr.ok r (aj h2);obtain⟨_,m1,m2,m3⟩:=hs.at (i:=w.b.toNat) (by omega);have d2:=bh (b:=8) (show 0≤(bU s w.b.toNat).m by omega);unfold ur rO;split
 ·exact zU hb (OH hrr hw.2.1 hw.2.2) (.inl rfl) (by omega)
 ·exact zU hb (QC m1 m2 m3 ⟨by rw[d2];omega,by rw[d2];omega⟩) (.inr rfl) (by omega)
theorem Ny{s n:List Rock.aF}{w:bJ}{r:Int}:(ur s n w r).length=n.length:=by
 unfold ur;split<;>simp[Gq]
theorem A7{b:cC}{s s1:List Rock.aF}(h:Bv b)(hs:Sv b s){aS:List Int}(hr:Rv b aS)(hb:C4 500000000000000 s1):∀j,j≤aS.length→C4 (500000000000000+1000000000000*j) (fe b s s1 aS j)∧(fe b s s1 aS j).length=s1.length
 |0,_=>⟨by simpa[fe]using hb,by simp[fe]⟩
 |j+1,hj=>by
  obtain⟨r,h2⟩:∃r,aS[j]?=some r:=gE (by omega);obtain⟨w,h1⟩:∃w,b.ar[j]?=some w:=⟨_,aJ (by rw[← hr.len];omega)⟩;obtain⟨ih1,ih2⟩:=A7 h hs hr hb j (by omega);rw[GF h1 h2];have h3:=ajp h hs hr h1 h2 ih1;exact⟨fun x hx=>kD (h3 x hx) (by push_cast;omega),by rw[Ny,ih2]⟩
theorem LD{b:cC}{m:cU}{s2:List Rock.aF}(h:Fv b m)(hb:C4 600000000000000 s2):∀i,i≤b.n→C4 (600000000000000+1000000000000*i) (mH b m s2 i)
 |0,_=>by simpa[mH]using hb
 |i+1,hi=>by
  have ih:=LD h hb i (by omega);rw[CB];have h3:=zU (i:=i) ih (agH h (i:=i) (by omega)) (.inl rfl) (by omega);exact fun x hx=>kD (h3 x hx) (by push_cast;omega)
theorem aiZ{b:cC}{j:Nat}{w:bJ}(h:b.ar[j]?=some w):((b.ar.flatMap bJ.enc).drop (j*3)).take 3=[.int .i64 w.b,.int .i64 w.h,.int .i64 w.m] :=
 bS (f:=bJ.enc) (w:=3) (fun _=>rfl) h
theorem Rj{b:cC}{m:cU}{s s1:List Rock.aF}{aS:List Int}{A FL X Y Z W:Abs.aF}(h:Fv b m)(hs:Sv b s)(hr:Rv b aS)(hb:C4 500000000000000 s1)(hl1:s1.length=s.length):∀(k j v:Nat),j+k=aS.length →
  WL T [1,3,9,12,41,42,43] false ll [(1,.aI s.length (s.flatMap aF.enc)),(3,.bI [.int .i64 b.f.x,.int .i64 b.f.y,.int .i64 b.f.z,.int .i64 b.f.k,.aI b.cz.length (b.cz.flatMap Rw.enc),.int .i64 b.bL,.int .i64 b.lift,.int .i64 b.deep,.aI b.ar.length (b.ar.flatMap bJ.enc),.str m.name,.aI m.bu.length (m.bu.flatMap aT)]),(9,.sl σ.length 1 1 0 s.length 3),(12,.sl σ.length 7 v 0 j 3),(41,.aI aS.length (aS.flatMap aT)),(42,.int .i64 aS.length),(43,.int .i64 j)]
   ([A,.cells 1 ((fe b s s1 aS j).flatMap aF.enc),FL,X,Y,Z,W,.cells v (((eF b s aS).take j).flatMap aF.enc)]::σ)
   (fun x e σ'=>x=.exit 2∧get e 3=.bI [.int .i64 b.f.x,.int .i64 b.f.y,.int .i64 b.f.z,.int .i64 b.f.k,.aI b.cz.length (b.cz.flatMap Rw.enc),.int .i64 b.bL,.int .i64 b.lift,.int .i64 b.deep,.aI b.ar.length (b.ar.flatMap bJ.enc),.str m.name,.aI m.bu.length (m.bu.flatMap aT)]∧get e 9=.sl σ.length 1 1 0 s.length 3∧get e 12=.sl σ.length 7 (v+k) 0 aS.length 3 ∧
    σ'=[A,.cells 1 ((fe b s s1 aS aS.length).flatMap aF.enc),FL,X,Y,Z,W,.cells (v+k) ((eF b s aS).flatMap aF.enc)]::σ)
 |0,j,v,hj=>by
  refine aO ll.eq_1 ?_;obtain rfl:j=aS.length:=by omega
  have hyl:(eF b s aS).length=aS.length:=by simp[eF,hr.len]
  have h3:(eF b s aS).take aS.length=eF b s aS:=ak (by omega);simp[-length_flatMap,-map_take,h3,cN,bw,bz]
 |k+1,j,v,hj=>by
  refine aO ll.eq_1 ?_;have h1:j<aS.length:=by omega
  have hwl:=h.bv.ar;have hrl:=hr.len;obtain⟨r,hr2⟩:∃r,aS[j]?=some r:=gE (by omega);obtain⟨w,hw1⟩:∃w,b.ar[j]?=some w:=gE (by omega);have hw:=KA h.bv w (aj hw1);have hrr:=hr.ok r (aj hr2);have hwn:w.b.toNat<b.n:=by omega
  have hlen:=hs.len;obtain⟨x0,m1,m2,m3⟩:=hs.at (i:=w.b.toNat) hwn;obtain⟨ib,il⟩:=A7 h.bv hs hr hb j (by omega);obtain⟨x1,y1⟩:=JL ib (i:=w.b.toNat) (by omega);have h4:=gq h1 (by omega);have a1:=aiZ hw1;have a2:=qQ hr2;have a3:=bS (f:=aF.enc) (w:=3) (fun _=>rfl) x0;have hy:=ah4 (s:=s) hw1 hr2;have f3:=Hs (f:=aF.enc) hy;have hyl:(eF b s aS).length=aS.length:=by simp[eF,hr.len]
  have f4:=IW ((eF b s aS).take j);rw[lF,hyl,Nat.min_eq_left (by omega)]at f4;have f6:(((eF b s aS).take j).flatMap aF.enc).take (j*3)=((eF b s aS).take j).flatMap aF.enc:=ak (by omega);have h7:(j+1)*24≤room:=by unfold room;omega
  have ih:=Rj (A:=A) (FL:=FL) (X:=X) (Y:=Y) (Z:=Z) (W:=W) h hs hr hb hl1 k (j+1) (v+1) (by omega);have hsucc:=GF (s:=s) (s1:=s1) hw1 hr2;have hB0:(0:Int)≤w.b:=hw.1.1;have hB1:w.b<(s.length:Int):=by omega
  have hjw:j<b.ar.length:=by omega
  have d2:=bh (b:=8) (show 0≤(bU s w.b.toNat).m by omega);by_cases hc:r<0
  ·have hg:=fun σ=>aiq (σ:=σ) hrr hw.2.1 hw.2.2
   have hM:∀V,bx T (.call false ck [.ref σ.length 1 1 (w.b.toNat*3),.agg [.int .i64 (w.given r).m,.int .i64 (w.given r).h,.int .i64 (w.given r).k],.int .i64 1] ([A,.cells 1 ((fe b s s1 aS j).flatMap aF.enc),FL,X,Y,Z,W,V]::σ)) =
     some (.val (.dM []) ([A,.cells 1 ((fe b s s1 aS (j+1)).flatMap aF.enc),FL,X,Y,Z,W,V]::σ)):=by
    intro V;rw[hsucc,ur,if_pos hc];exact Ja (F:=[A,.cells 1 ((fe b s s1 aS j).flatMap aF.enc),FL,X,Y,Z,W,V]) (j:=1) rfl x1 (kD y1 (by omega)) (kD (OH hrr hw.2.1 hw.2.2) (by omega)) (.inl rfl)
   have hwy:rO s w r=⟨0,0,0⟩:=by simp[rO,hc]
   rw[hwy]at f3;simp only[bJ.enc,aF.enc]at hg;simp[-length_flatMap,-map_take,h1,h4,a1,a2,a3,f4,f6,h7,hB0,hB1,hjw,hc,hg,hM,cN,bw,bz];refine WL.to ih (by simp[cN,bw,bz]) (by simp[← f3]) fun x e σ hh=>by simpa[dA,Nat.add_comm 1 k]using hh
  ·have w7:=fT (n:=(bU s w.b.toNat).m.tdiv 8) (by rw[d2];omega);have hO:=fun σ=>VL (σ:=σ) (q:=min r ((bU s w.b.toNat).m.tdiv 8)) m1 m2 m3 ⟨by rw[d2];omega,by rw[d2];omega⟩
   have hos:=QC (q:=min r ((bU s w.b.toNat).m.tdiv 8)) m1 m2 m3 ⟨by rw[d2];omega,by rw[d2];omega⟩;have hwy:rO s w r=(bU s w.b.toNat).out (min r ((bU s w.b.toNat).m.tdiv 8)):=by simp[rO,hc]
   have hsucc':fe b s s1 aS (j+1)=iH (fe b s s1 aS j) w.b.toNat ((bU s w.b.toNat).out (min r ((bU s w.b.toNat).m.tdiv 8))) (-1):=by
    rw[hsucc,ur,if_neg hc,hwy]
   rw[hwy]at f3;generalize hQ:min r ((bU s w.b.toNat).m.tdiv 8)=Q at *
   generalize (bU s w.b.toNat).out Q=O at *
   have hM:∀V,bx T (.call false ck [.ref σ.length 1 1 (w.b.toNat*3),.agg [.int .i64 O.m,.int .i64 O.h,.int .i64 O.k],.int .i64 (-1)] ([A,.cells 1 ((fe b s s1 aS j).flatMap aF.enc),FL,X,Y,Z,W,V]::σ)) =
     some (.val (.dM []) ([A,.cells 1 ((fe b s s1 aS (j+1)).flatMap aF.enc),FL,X,Y,Z,W,V]::σ)):=by
    intro V;rw[hsucc'];exact Ja (F:=[A,.cells 1 ((fe b s s1 aS j).flatMap aF.enc),FL,X,Y,Z,W,V]) (j:=1) rfl x1 (kD y1 (by omega)) (kD hos (by omega)) (.inr rfl)
   simp only[aF.enc]at hO;simp[-length_flatMap,-map_take,h1,h4,a1,a2,a3,f4,f6,h7,hB0,hB1,hjw,hc,w7,hQ,hO,hM,cN,bw,bz];refine WL.to ih (by simp[cN,bw,bz]) (by simp[← f3]) fun x e σ hh=>by simpa[dA,Nat.add_comm 1 k]using hh
theorem V3{b:cC}{m:cU}{s2:List Rock.aF}{A FL X Y Z W V:Abs.aF}{d12:D}(h:Fv b m)(hb:C4 600000000000000 s2)(hl2:s2.length=b.n)(hd:d12.strip=d12∧d12.calm=d12):∀(k i:Nat),i+k=b.n →
  WL T [3,9,12,93,94] false ln [(3,.bI [.int .i64 b.f.x,.int .i64 b.f.y,.int .i64 b.f.z,.int .i64 b.f.k,.aI b.cz.length (b.cz.flatMap Rw.enc),.int .i64 b.bL,.int .i64 b.lift,.int .i64 b.deep,.aI b.ar.length (b.ar.flatMap bJ.enc),.str m.name,.aI m.bu.length (m.bu.flatMap aT)]),(9,.sl σ.length 1 1 0 b.n 3),(12,d12),(93,.int .i64 b.n),(94,.int .i64 i)]
   ([A,.cells 1 ((mH b m s2 i).flatMap aF.enc),FL,X,Y,Z,W,V]::σ)
   (fun x e σ'=>x=.exit 4∧get e 3=.bI [.int .i64 b.f.x,.int .i64 b.f.y,.int .i64 b.f.z,.int .i64 b.f.k,.aI b.cz.length (b.cz.flatMap Rw.enc),.int .i64 b.bL,.int .i64 b.lift,.int .i64 b.deep,.aI b.ar.length (b.ar.flatMap bJ.enc),.str m.name,.aI m.bu.length (m.bu.flatMap aT)]∧get e 9=.sl σ.length 1 1 0 b.n 3∧get e 12=d12∧σ'=[A,.cells 1 ((mH b m s2 b.n).flatMap aF.enc),FL,X,Y,Z,W,V]::σ)
 |0,i,hi=>by
  refine aO ln.eq_1 ?_;obtain rfl:i=b.n:=by omega
  simp[-length_flatMap,-map_take,hd,cN,bw,bz]
 |k+1,i,hi=>by
  refine aO ln.eq_1 ?_;have h1:i<b.n:=by omega
  have hn:=h.bv.n;have h4:=gq h1 (by omega);have hf:=fun σ=>avZ (σ:=σ) h h1
  have ih:=V3 (A:=A) (FL:=FL) (X:=X) (Y:=Y) (Z:=Z) (W:=W) (V:=V) h hb hl2 hd k (i+1) (by omega);have ib:=LD h hb i (by omega);obtain⟨x1,y1⟩:=JL ib (i:=i) (by rw[AH,hl2];omega);have hM:bx T (.call false ck [.ref σ.length 1 1 (i*3),.agg [.int .i64 (Qf b m i).m,.int .i64 (Qf b m i).h,.int .i64 (Qf b m i).k],.int .i64 1] ([A,.cells 1 ((mH b m s2 i).flatMap aF.enc),FL,X,Y,Z,W,V]::σ)) =
    some (.val (.dM []) ([A,.cells 1 ((mH b m s2 (i+1)).flatMap aF.enc),FL,X,Y,Z,W,V]::σ)):=by
   rw[CB];exact Ja (F:=[A,.cells 1 ((mH b m s2 i).flatMap aF.enc),FL,X,Y,Z,W,V]) (j:=1) rfl x1 (kD y1 (by omega)) (kD (agH h h1) (by omega)) (.inl rfl)
  simp only[aF.enc]at hf;simp[-length_flatMap,-map_take,h1,h4,hf,hM,hd,cN,bw,bz];refine WL.to ih (by simp[hd,cN,bw,bz]) rfl fun x e σ hh=>hh
theorem TC{b:cC}{m:cU}{s:List Rock.aF}{aS:List Int}(hr:Rv b aS)(hl:s.length=b.n):mH b m (fe b s ((vM b m s).foldl eU s) aS aS.length) b.n=Fe b m s aS:=by
 have:(b.ar.zip aS).take aS.length=b.ar.zip aS:=ak (by rw[List.length_zip];omega);simp only[Fe,mH,fe,this,hl]
theorem UC{b:cC}{m:cU}{s:List Rock.aF}(h:Fv b m)(hs:Sv b s):C4 500000000000000 ((vM b m s).foldl eU s)∧((vM b m s).foldl eU s).length=s.length:=by
 obtain⟨h1,h2⟩:=OE (m:=m) h.bv hs;have key:∀(es:List ((Nat×Nat)×Rock.aF)) (s:List Rock.aF) (N:Int),(∀e∈es,Vl b e)→C4 N s→C4 (N+2000000000000*es.length) (es.foldl eU s)∧(es.foldl eU s).length=s.length:=by
  intro es;induction es with
  |nil=>intro s N _ h;exact⟨by simpa using h,rfl⟩
  |cons e es ih =>
   intro s N he hb;obtain⟨a1,a2⟩:=ih (eU s e) _ (fun x hx=>he x (by simp[hx])) (OC hb (he e (by simp)));simp only[List.foldl_cons,aL];exact⟨fun x hx=>kD (a1 x hx) (by push_cast;omega),by rw[a2,OD]⟩
 obtain⟨a1,a2⟩:=key _ s _ h1 hs.C4;exact⟨fun x hx=>kD (a1 x hx) (by omega),a2⟩
theorem apC{b:cC}{m:cU}{s s1:List Rock.aF}{aS:List Int}{A FL X Y Z W:Abs.aF}(h:Fv b m)(hs:Sv b s)(hr:Rv b aS)(hb:C4 500000000000000 s1)(hl1:s1.length=s.length):
  WC (bx T) ix ((25,.bool false)::(24,.undef)::K8 b m s aS σ.length) ([A,.cells 1 (s1.flatMap aF.enc),FL,X,Y,Z,W]::σ) fun x e σ' =>
   x=.ret∧σ'=[A,.cells 1 ((mH b m (fe b s s1 aS aS.length) b.n).flatMap aF.enc),FL,X,Y,Z,W,.cells aS.length ((eF b s aS).flatMap aF.enc)]::σ ∧
   (if yL b (mH b m (fe b s s1 aS aS.length) b.n)=true then get e 6=.sl σ.length 1 1 0 b.n 3∧get e 7=.sl σ.length 7 aS.length 0 aS.length 3∧get e 8=.int .i64 0
    else get e 6=.aG∧get e 7=.aG∧get e 8=.int .i64 9):=by
 have hl:=hs.len;have hn:=h.bv.n;have hwl:=h.bv.ar;have hrl:=hr.len;obtain⟨wb,wl⟩:=A7 h.bv hs hr hb aS.length (aK _);have fl:=AH (b:=b) (m:=m) (s2:=fe b s s1 aS aS.length) b.n;rw[zD ix.eq_1];simp[-length_flatMap,-map_take,K8,cN,bw,bz];refine WL.to (Rj (σ:=σ) (A:=A) (FL:=FL) (X:=X) (Y:=Y) (Z:=Z) (W:=W) h hs hr hb hl1 aS.length 0 0 (by omega)) (by simp[cN,bw,bz]) (by simp[fe]) ?_;rintro x e σ' ⟨rfl,g3,g9,g12,rfl⟩;rw[hl]at g9;simp[-length_flatMap,-map_take,g3,g9,g12,cN,bw,bz];refine WL.to (V3 (σ:=σ) (A:=A) (FL:=FL) (X:=X) (Y:=Y) (Z:=Z) (W:=W) (V:=.cells (0+aS.length) ((eF b s aS).flatMap aF.enc)) (d12:=.sl σ.length 7 (0+aS.length) 0 aS.length 3) h (fun x hx=>kD (wb x hx) (by omega)) (by rw[wl,hl1,hl]) ⟨rfl,rfl⟩ b.n 0 (by omega)) (by simp[cN,bw,bz]) (by simp[mH]) ?_;rintro x e σ' ⟨rfl,g3,g9,g12,rfl⟩;have hS:=Uf (m:=m) (b:=b) (s:=mH b m (fe b s s1 aS aS.length) b.n) h.bv (lv:=σ.length) (bi:=1) (v:=1) (F:=[A,.cells 1 ((mH b m (fe b s s1 aS aS.length) b.n).flatMap aF.enc),FL,X,Y,Z,W,.cells (0+aS.length) ((eF b s aS).flatMap aF.enc)]) (σ:=[A,.cells 1 ((mH b m (fe b s s1 aS aS.length) b.n).flatMap aF.enc),FL,X,Y,Z,W,.cells (0+aS.length) ((eF b s aS).flatMap aF.enc)]::σ) rfl (by simp[gr]) (by rw[fl,wl,hl1,hl]);rw[show(mH b m (fe b s s1 aS aS.length) b.n).length=b.n by rw[fl,wl,hl1,hl]]at hS;cases hc:yL b (mH b m (fe b s s1 aS aS.length) b.n)
 ·rw[hc]at hS;simp at hS;simp[-length_flatMap,-map_take,g3,g9,g12,hS,cN,bw,bz]
 ·rw[hc]at hS;simp at hS;simp[-length_flatMap,-map_take,g3,g9,g12,hS,cN,bw,bz]
def ahY(b:cC)(m:cU)(s:List Rock.aF)(aS:List Int):D:=match tick b m s aS with
 |some (s',y) => .dM [.aI s'.length (s'.flatMap aF.enc),.aI y.length (y.flatMap aF.enc),.int .i64 0]
 |none => .dM [.aG,.aG,.int .i64 9]
theorem apI{b:cC}{m:cU}{s:List Rock.aF}{aS:List Int}(h:Fv b m)(hs:Sv b s)(hr:Rv b aS)(hσ:σ≠[]):
  bx T (.call false lZ [.agg [.int .i64 b.f.x,.int .i64 b.f.y,.int .i64 b.f.z,.int .i64 b.f.k,.aI b.cz.length (b.cz.flatMap Rw.enc),.int .i64 b.bL,.int .i64 b.lift,.int .i64 b.deep,.aI b.ar.length (b.ar.flatMap bJ.enc),.str m.name,.aI m.bu.length (m.bu.flatMap aT)],.aI s.length (s.flatMap aF.enc),.aI aS.length (aS.flatMap aT)] σ)=some (.val (ahY b m s aS) σ):=by
 refine aA EC o5.eq_1 rfl ?_;have hl:=hs.len;have hn:=h.bv.n;have hne:s≠[]:=by intro h0;rw[h0]at hl;simp at hl;omega
 have hC:=aik (σ:=σ) (s:=s) (bs:=[]) (by omega) hne;obtain⟨X,Y,Z,hF⟩:=aip (σ:=σ) (A:=.cells 0 []) (B:=.cells 1 (s.flatMap aF.enc)) h hs;obtain⟨fb,fl⟩:=UC h hs;obtain⟨x,e',σ',hrun,rfl,rfl,hq⟩:=apC (σ:=σ) (A:=.cells 0 []) (FL:=.cells 0 (Fs (vM b m s))) (X:=X) (Y:=Y) (Z:=Z) (W:=.dead) h hs hr fb fl;obtain⟨f1,f2⟩:=OE (m:=m) h.bv hs;have hM:=apS (σ:=σ) (aS:=aS) (m:=m) (A:=.cells 0 []) (X:=X) (Y:=Y) (Z:=Z) (es:=vM b m s) hs f1 f2 (r:=.Eb .ret e' ([.cells 0 [],.cells 1 ((mH b m (fe b s ((vM b m s).foldl eU s) aS aS.length) b.n).flatMap aF.enc),.cells 0 (Fs (vM b m s)),X,Y,Z,.dead,.cells aS.length ((eF b s aS).flatMap aF.enc)]::σ)) ⟨_,_,_,hrun,rfl⟩ _ [] List.nodup_nil (by simp) rfl;simp only[aX,bG,cf]at hC;have hG:BO ([.cells 0 [],.cells 1 (s.flatMap aF.enc),.cells 0 (Fs (vM b m s)),X,Y,Z]::σ) .rng [.mB σ.length 2]=some (.mB σ.length 6,[.cells 0 [],.cells 1 (s.flatMap aF.enc),.cells 0 (Fs (vM b m s)),X,Y,Z,itB σ.length (vM b m s).length []]::σ):=by
  simp[BO,BN,itB,jsD,Fs]
 simp[-length_flatMap,-map_take,hC,hF,hG,cN,bw,bz,JQ];refine⟨_,_,_,by simpa[K8,stT]using hM,?_⟩;rw[TC hr hl]at hq ⊢;have hnl:(Fe b m s aS).length=b.n:=by
  rw[← TC hr hl,AH,(A7 h.bv hs hr fb aS.length (aK _)).2,fl,hl]
 have hyl:(eF b s aS).length=aS.length:=by simp[eF,hr.len]
 unfold ahY tick;cases hc:yL b (Fe b m s aS)
 ·rw[hc]at hq;simp at hq;obtain⟨g6,g7,g8⟩:=hq;simp[g6,g7,g8]
 ·rw[hc]at hq;simp only[if_true]at hq;obtain⟨g6,g7,g8⟩:=hq;simp only[if_true];simp[g6,g7,g8];rw[Da (by simp) (by omega)];simp only[wZ,zR];rw[← hnl,yz (f:=aF.enc) (l:=Fe b m s aS) (by decide) (fun _=>rfl) (fun x=>by simp) hσ (by simp)];simp only[List.set_cons_succ,List.set_cons_zero];rw[← hyl,yz (f:=aF.enc) (l:=eF b s aS) (by decide) (fun _=>rfl) (fun x=>by simp) hσ (by simp)];rw[ju (by simp) (by omega)];exact⟨_,rfl⟩
def yK(s:List Rock.aF):List D:=[.aI s.length (s.flatMap aF.enc)]
theorem TS(l:List (List Rock.aF)):(l.flatMap yK).length=l.length:=by
 have:=cm (f:=yK) (w:=1) (fun _=>rfl) l;omega
theorem Sv.next{b:cC}{m:cU}{s:List Rock.aF}{aS:List Int}(h:Bv b){s' y:List Rock.aF}(ht:tick b m s aS=some (s',y)):Sv b s':=by
 unfold tick at ht;split at ht
 ·rename_i hc;simp only[ae,an]at ht;obtain⟨rfl,_⟩:=ht;exact(Sv.of h).1 hc
 ·cases ht
theorem ahy{n:Nat}(h:n≤1000000):n*24≤room:=by unfold room;omega
theorem LA(l:List (List Rock.aF)):D.bC (l.flatMap yK)=true:=ia (fun x=>by simp[yK,D.clean,JQ]) l
def auG(b:cC)(m:cU)(σ:SK)(r:Option (List (List Rock.aF)×List (List Rock.aF)))(x:Abs.Exit)(e:Env)(σ':SK):Prop:=match r with
 |some (ss,ys)=>∃v u,x=.exit 0∧get e 4=.own 0 [.sl σ.length 2 v 0 ss.length 1,.sl σ.length 1 u 0 ys.length 1]∧σ'=[.cells 0 [],.cells u (ys.flatMap yK),.cells v (ss.flatMap yK)]::σ
 |none=>x=.fX (.ud 262 (.agg []))∧∃bA,σ'=bA::σ
theorem V8{b:cC}{m:cU}{aw:List (List Int)}(h:Fv b m)(hp:aw.length≤200)(hr:∀r∈aw,Rv b r):∀(k i v u:Nat) (ss ys:List (List Rock.aF)) (s:List Rock.aF),i+k=aw.length→ss.length=i+1→ys.length=i→ss[i]?=some s→Sv b s →
  WL T [2,4,14,15,16] false mr [(2,.bI [.int .i64 b.f.x,.int .i64 b.f.y,.int .i64 b.f.z,.int .i64 b.f.k,.aI b.cz.length (b.cz.flatMap Rw.enc),.int .i64 b.bL,.int .i64 b.lift,.int .i64 b.deep,.aI b.ar.length (b.ar.flatMap bJ.enc),.str m.name,.aI m.bu.length (m.bu.flatMap aT)]),(4,.own 0 [.sl σ.length 2 v 0 (i+1) 1,.sl σ.length 1 u 0 i 1]),(14,.aI aw.length (aw.flatMap IL)),(15,.int .i64 aw.length),(16,.int .i64 i)]
   ([.cells 0 [],.cells u (ys.flatMap yK),.cells v (ss.flatMap yK)]::σ) (auG b m σ (vx b m ss ys s (aw.drop i)))
 |0,i,v,u,ss,ys,s,hi,h1,h2,h3,hs=>by
  refine aO mr.eq_1 ?_;obtain rfl:i=aw.length:=by omega
  have h5:aw.drop aw.length=[]:=aB (by omega);simp[-length_flatMap,-map_take,h5,vx,auG];exact⟨v,u,by simp[h1,h2]⟩
 |k+1,i,v,u,ss,ys,s,hi,h1,h2,h3,hs=>by
  refine aO mr.eq_1 ?_;have hlt:i<aw.length:=by omega
  have hii:(i:Int)<i+1:=by omega
  obtain⟨r,hx⟩:=gE hlt;have h4:=gq hlt (by omega);have h5:=cM hx;have a1:=bS (f:=IL) (w:=1) (fun _=>rfl) hx;simp only[IL,dL]at a1;have a2:=Fa (f:=yK) (w:=1) (fun _=>rfl) h3;simp only[yK,dL,eP]at a2;have hT:=fun σ hσ=>apI (σ:=σ) h hs (hr r (aj hx)) hσ
  rw[h5,vx];unfold ahY at hT;cases ht:tick b m s r with
  |none =>
   rw[ht]at hT;simp only at hT;simp[-length_flatMap,-map_take,hlt,hii,h4,a1,a2,hT,IL,auG]
  |some p =>
   obtain⟨s',y⟩:=p;rw[ht]at hT;simp only at hT;have ih:=V8 h hp hr k (i+1) (v+1) (u+1) (ss++[s']) (ys++[y]) s' (by omega) (by simp[h1]) (by simp[h2]) (by simp[← h1]) (Sv.next h.bv ht);have l1:=TS ss;have l2:=TS ys;rw[h1]at l1;rw[h2]at l2;have f1:(ss.flatMap yK).take (i+1)=ss.flatMap yK:=ak (by omega);have f2:(ys.flatMap yK).take i=ys.flatMap yK:=ak (by omega);have h7:=ahy (n:=i+1) (by omega);have h8:=ahy (n:=i+1+1) (by omega);simp[-length_flatMap,-map_take,hlt,hii,h4,a1,a2,hT,IL,f1,f2,l1,l2,h7,h8];exact WL.to ih (by simp) (by simp[yK]) fun x e σ hh=>hh
theorem Q8{b:cC}{m:cU}{aw:List (List Int)}(h:Fv b m)(hp:aw.length≤200)(hr:∀r∈aw,Rv b r)(hσ:σ≠[]){ss ys:List (List Rock.aF)}(hrun:Rock.run b m aw=some (ss,ys)):
  bx T (.call false iE [.agg [.int .i64 b.f.x,.int .i64 b.f.y,.int .i64 b.f.z,.int .i64 b.f.k,.aI b.cz.length (b.cz.flatMap Rw.enc),.int .i64 b.bL,.int .i64 b.lift,.int .i64 b.deep,.aI b.ar.length (b.ar.flatMap bJ.enc),.str m.name,.aI m.bu.length (m.bu.flatMap aT)],.aI aw.length (aw.flatMap IL)] σ)=some (.val (.agg [.aI ss.length (ss.flatMap yK),.aI ys.length (ys.flatMap yK)]) σ):=by
 refine aA yc mX.eq_1 rfl ?_;have hf:=fun σ hσ=>GI (σ:=σ) h hσ
 simp only[Vs]at hf;simp[-length_flatMap,-map_take,hf,cN,bw,bz];refine WL.to (V8 (σ:=σ) h hp hr aw.length 0 0 0 [dY b m] [] (dY b m) (by omega) rfl rfl rfl (Sv.first h)) (by simp) (by simp[yK]) ?_;rw[aP,show vx b m [dY b m] [] (dY b m) aw=some (ss,ys)from hrun];rintro x e σ' ⟨v,u,rfl,g4,rfl⟩;simp[-length_flatMap,-map_take,g4];have c1:∀x:List Rock.aF,D.bC (yK x)=true:=fun x=>by simp[yK,D.clean,JQ]
 rw[Tf (by simp) (by omega)];simp only[wZ,zR];rw[yz (f:=yK) (w:=1) (l:=ss) (by decide) (fun _=>rfl) c1 hσ (by simp)];simp only[List.set_cons_succ,List.set_cons_zero];rw[yz (f:=yK) (w:=1) (l:=ys) (by decide) (fun _=>rfl) c1 hσ (by simp)];exact⟨_,rfl⟩
theorem Q7{b:cC}{m:cU}{aw:List (List Int)}(h:Fv b m)(hp:aw.length≤200)(hr:∀r∈aw,Rv b r)(hrun:Rock.run b m aw=none):
  bx T (.call false iE [.agg [.int .i64 b.f.x,.int .i64 b.f.y,.int .i64 b.f.z,.int .i64 b.f.k,.aI b.cz.length (b.cz.flatMap Rw.enc),.int .i64 b.bL,.int .i64 b.lift,.int .i64 b.deep,.aI b.ar.length (b.ar.flatMap bJ.enc),.str m.name,.aI m.bu.length (m.bu.flatMap aT)],.aI aw.length (aw.flatMap IL)] σ)=some (.fX (.ud 262 (.agg [])) σ):=by
 refine eg yc mX.eq_1 rfl ?_;have hf:=fun σ hσ=>GI (σ:=σ) h hσ
 simp only[Vs]at hf;simp[-length_flatMap,-map_take,hf,cN,bw,bz];refine WL.to (V8 (σ:=σ) h hp hr aw.length 0 0 0 [dY b m] [] (dY b m) (by omega) rfl rfl rfl (Sv.first h)) (by simp) (by simp[yK]) ?_;rw[aP,show vx b m [dY b m] [] (dY b m) aw=none from hrun];rintro x e σ' ⟨rfl,bA,rfl⟩;simp[D.clean]
end Go.Proofs.YtfgljaglidhjiaaGreatDoor
