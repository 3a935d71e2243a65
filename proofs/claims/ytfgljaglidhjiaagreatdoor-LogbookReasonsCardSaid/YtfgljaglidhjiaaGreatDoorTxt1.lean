import Derived.Test.YtfgljaglidhjiaaGreatDoorTxt0
set_option linter.all false
namespace Go.Proofs.YtfgljaglidhjiaaGreatDoor
open List(length_flatMap map_take)
open Go Go.Abs Go.Rock
variable {σ:SK}
theorem aE.JX{x:Rock.aE}:x.valid=true↔(1≤x.m∧x.m≤1000000)∧(0≤x.h∧x.h≤10000000000)∧(0≤x.k∧x.k≤1000000000000):=by
 simp[Rock.aE.valid,ct]
structure Sv(b:cz)(s:List Rock.aE):Prop where
 len:s.length=b.n
 ok:∀x∈s,x.valid=true
theorem Sv.of{b:cz}{s:List Rock.aE}(h:Bv b):yz b s=true↔Sv b s:=by
 have hs:=h.sz;have hn:=h.n;unfold yz;simp only[af,av];constructor
 ·rintro⟨h1,h2⟩;exact⟨by unfold cz.size at h1;omega,jZ.1 h2⟩
 ·rintro⟨h1,h2⟩;exact⟨by unfold cz.size;omega,jZ.2 h2⟩
theorem Sv.at{b:cz}{s:List Rock.aE}(h:Sv b s){i:Nat}(hi:i<b.n):s[i]?=some (bP s i)∧(1≤(bP s i).m∧(bP s i).m≤1000000)∧(0≤(bP s i).h∧(bP s i).h≤10000000000)∧(0≤(bP s i).k∧(bP s i).k≤1000000000000):=by
 have h1:i<s.length:=by have:=h.len;omega
 have h2:s[i]?=some (bP s i):=by simp[bP,h1]
 exact⟨h2,aE.JX.1 (h.ok _ (ai h2))⟩
theorem Sv.first{b:cz}{m:cI}(h:Fv b m):Sv b (dV b m):=by
 refine⟨BZ,fun x hx=>?_⟩;simp only[dV,bR,List.mem_range]at hx;obtain⟨i,hi,rfl⟩:=hx;have b1:=h.hold i hi;have b2:=h.Io i hi;have b3:=oH (by omega:0≤hold b m i) b1.2 b2.1 b2.2;exact aE.JX.2 ⟨⟨by simp only;omega,by simp only;omega⟩,⟨b3.1,by simp only;omega⟩,by simp⟩
theorem aeJ{r:Rw}(h:r.alone=true):(1≤r.p∧r.p≤10000)∧(0≤r.l∧r.l≤4000):=by
 simp only[Rw.alone,af]at h;exact⟨bf.1 h.2.1,bf.1 h.2.2.1⟩
theorem N2{s:List Rock.aE}{i:Nat}{x:Rock.aE}{t:List Rw}(hx:s[i]?=some x)(hm:0≤x.m∧x.m≤1000000)(ht:∀r∈t,r.alone=true)(hl:t.length≤1000):∀(n j:Nat) (o:Int),j+n=t.length →
  WL T [1,2,7,34,35,36] false jg [(1,.aI s.length (s.flatMap aE.enc)),(2,.int .i64 i),(7,.int .i64 o),(34,.aI t.length (t.flatMap Rw.enc)),(35,.int .i64 t.length),(36,.int .i64 j)] σ
   (fun x' e σ'=>σ'=σ∧x'=.exit 0∧get e 7=.int .i64 ((t.drop j).foldl (pR x) o))
 |0,j,o,hj=>by
  refine aN jg.eq_1 ?_;have h1:¬j<t.length:=by omega
  have h2:t.drop j=[]:=aB (by omega);simp[-length_flatMap,-map_take,h1,h2]
 |n+1,j,o,hj=>by
  refine aN jg.eq_1 ?_;have h1:j<t.length:=by omega
  obtain⟨r,hr⟩:=gE h1;have hrb:=aeJ (ht r (ai hr));have h2:=bS (f:=Rw.enc) (w:=5) (fun _=>rfl) hr;have h3:=bS (f:=aE.enc) (w:=3) (fun _=>rfl) hx;have h4:=gD h1 (by omega);have h5:=cY hr;have hi:i<s.length:=(au.1 hx).1;have b1:=oH hrb.2.1 hrb.2.2 hm.1 hm.2;have w1:=fT (n:=r.l*x.m) (by omega);have ih:=N2 hx hm ht hl n (j+1) (pR x o r) (by omega);rw[h5];simp only[List.foldl_cons];by_cases hc:r.l*x.m≤x.h
  ·have hm2:(if o<r.p then r.p else o)=pR x o r:=by unfold pR;rw[if_pos hc];omega
   simp[-length_flatMap,-map_take,h1,h2,h3,h4,hi,w1,hc];refine WL.to ih (by simp[pR,hc]) rfl fun x e σ hh=>hh
  ·simp[-length_flatMap,-map_take,h1,h2,h3,h4,hi,w1,hc];refine WL.to ih (by simp[pR,hc]) rfl fun x e σ hh=>hh
theorem Gw{b:cz}{m:cI}{s:List Rock.aE}(h:Fv b m)(hs:Sv b s){i:Nat}(hi:i<b.n):
  lim T (.call false fO [.agg [.int .i64 b.f.x,.int .i64 b.f.y,.int .i64 b.f.z,.int .i64 b.f.k,.aI b.cq.length (b.cq.flatMap Rw.enc),.int .i64 b.bJ,.int .i64 b.lift,.int .i64 b.deep,.aI b.ar.length (b.ar.flatMap bH.enc),.str m.name,.aI m.bh.length (m.bh.flatMap aS)],.aI s.length (s.flatMap aE.enc),.int .i64 i] σ)=some (.val (.int .i64 (lg b m s i)) σ):=by
 refine aA zR lC.eq_1 rfl ?_;have hw:=fun σ=>Gy (σ:=σ) (m:=m) h.bv hi
 have ho:=fun σ=>SB (σ:=σ) h.toMv hi
 have b1:=h.hold i hi;obtain⟨hx,b2,b3,b4⟩:=hs.at hi;have hil:i<s.length:=by have:=hs.len;omega
 have hst:=h.bv.bJ;have b5:=BN h.bv hi;have b6 : -100000000000≤b.bJ*((bP s i).m-hold b m i)∧b.bJ*((bP s i).m-hold b m i)≤100000000000:=by
  rcases mT (hold b m i) (bP s i).m with hh | hh
  ·have:=oH (a:=b.bJ) (b:=(bP s i).m-hold b m i) (A:=100000) (B:=1000000) (by omega) hst.2 (by omega) (by omega);omega
  ·have:=oH (a:=b.bJ) (b:=hold b m i-(bP s i).m) (A:=100000) (B:=1000000) (by omega) hst.2 (by omega) (by omega);have e:b.bJ*((bP s i).m-hold b m i) = - (b.bJ*(hold b m i-(bP s i).m)):=by rw[← Int.mul_neg];congr 1;omega
   omega
 have hd:=fun σ=>am8 (σ:=σ) (n:=b.bJ*((bP s i).m-hold b m i)) (d:=hold b m i) (by omega) (by omega)
 have b7 : -100000000000≤down (b.bJ*((bP s i).m-hold b m i)) (hold b m i)∧down (b.bJ*((bP s i).m-hold b m i)) (hold b m i)≤100000000000:=by
  unfold down;constructor
  ·rw[Int.le_ediv_iff_mul_le (by omega)];omega
  ·have:=Int.ediv_le_self (b:=hold b m i) (a:=b.bJ*((bP s i).m-hold b m i));rcases mT 0 (b.bJ*((bP s i).m-hold b m i))with hh | hh
   ·have:=this hh;omega
   ·have:=Int.ediv_le_of_le_mul (b:=0) (show 0<hold b m i by omega) (by omega:b.bJ*((bP s i).m-hold b m i)≤0*hold b m i);omega
 have w1:=fT (n:=(bP s i).m-hold b m i) (by omega);have w2:=fT (n:=b.bJ*((bP s i).m-hold b m i)) (by omega);have w3:=fT (n:=weight b i+down (b.bJ*((bP s i).m-hold b m i)) (hold b m i)) (by omega);have h3:=bS (f:=aE.enc) (w:=3) (fun _=>rfl) hx;have htab:=h.bv.cq;simp only[kM,af]at htab;have ht:=bf.1 htab.1;simp[-length_flatMap,-map_take,hw,ho,hil,h3,w1,w2,hd,w3];refine WL.to (N2 (σ:=[]::σ) hx ⟨by omega,by omega⟩ (jZ.1 htab.2.1) (by omega) b.cq.length 0 (max 0 (weight b i+down (b.bJ*((bP s i).m-hold b m i)) (hold b m i))) (by omega)) (by simp) rfl ?_;rintro x e σ' ⟨rfl,rfl,g⟩;simp[-length_flatMap,-map_take,g,lg]
theorem J1{b:cz}{m:cI}{s:List Rock.aE}:(bV b m s).length=s.length:=by simp[bV]
theorem P7(l:List Int):(l.flatMap aS).length=l.length:=by
 have:=bT (f:=aS) (w:=1) (fun _=>rfl) l;omega
theorem Fs{b:cz}{m:cI}{s:List Rock.aE}(h:Fv b m)(hs:Sv b s):∀(n i v:Nat),i+n=s.length →
  WL T [1,2,4,7,8] false iA [(1,.aI s.length (s.flatMap aE.enc)),(2,.bD [.int .i64 b.f.x,.int .i64 b.f.y,.int .i64 b.f.z,.int .i64 b.f.k,.aI b.cq.length (b.cq.flatMap Rw.enc),.int .i64 b.bJ,.int .i64 b.lift,.int .i64 b.deep,.aI b.ar.length (b.ar.flatMap bH.enc),.str m.name,.aI m.bh.length (m.bh.flatMap aS)]),(4,.sl σ.length 0 v 0 i 1),(7,.int .i64 s.length),(8,.int .i64 i)] ([.cells v (((bV b m s).take i).flatMap aS)]::σ)
   (fun x e σ'=>x=.exit 0∧get e 4=.sl σ.length 0 (v+n) 0 (bV b m s).length 1∧σ'=[.cells (v+n) ((bV b m s).flatMap aS)]::σ)
 |0,i,v,hi=>by
  refine aN iA.eq_1 ?_;have h1:¬i<s.length:=by omega
  have h3:(bV b m s).take i=bV b m s:=aj (by rw[J1];omega);simp[-length_flatMap,-map_take,h1,h3,J1];omega
 |n+1,i,v,hi=>by
  refine aN iA.eq_1 ?_;have h1:i<s.length:=by omega
  have hn:=h.bv.n;have hl:=hs.len;have h4:=gD h1 (by omega);have hp:=fun σ=>Gw (σ:=σ) h hs (i:=i) (by omega)
  have ih:=Fs h hs n (i+1) (v+1) (by omega);have hx:(bV b m s)[i]?=some (lg b m s i):=by simp[bV,h1]
  have a3:=ET (f:=aS) hx;have a4:=P7 ((bV b m s).take i);rw[lO,J1,Nat.min_eq_left (by omega)]at a4;have a6:(((bV b m s).take i).flatMap aS).take i=((bV b m s).take i).flatMap aS:=aj (by omega);have h7:(i+1)*8≤room:=by unfold room;omega
  simp[-length_flatMap,-map_take,h1,h4,hp,a4,a6,h7,cK,bu,aY];refine WL.to ih (by simp[cK,bu,aY]) (by simp[← a3]) fun x e σ hh=>by simpa[du,Nat.add_comm 1 n]using hh
theorem KI{b:cz}{m:cI}{s:List Rock.aE}(h:Fv b m)(hs:Sv b s)(hσ:σ≠[]):lim T (.call false gW [.agg [.int .i64 b.f.x,.int .i64 b.f.y,.int .i64 b.f.z,.int .i64 b.f.k,.aI b.cq.length (b.cq.flatMap Rw.enc),.int .i64 b.bJ,.int .i64 b.lift,.int .i64 b.deep,.aI b.ar.length (b.ar.flatMap bH.enc),.str m.name,.aI m.bh.length (m.bh.flatMap aS)],.aI s.length (s.flatMap aE.enc)] σ)=some (.val (.aI (bV b m s).length ((bV b m s).flatMap aS)) σ):=by
 refine aA zf kB.eq_1 rfl ?_;simp[-length_flatMap,-map_take,cK,bu,aY];refine WL.to (Fs (σ:=σ) h hs s.length 0 0 (by omega)) (by simp) (by simp) ?_;rintro x e σ' ⟨rfl,g4,rfl⟩;simp[-length_flatMap,-map_take,g4];rw[yj (f:=aS) (by decide) (fun _=>rfl) (fun x=>by simp) hσ (by simp)];simp
theorem ME{x:Rock.aE}:lim T (.call false jE [.agg x.enc] σ)=some (.val (.bool x.valid) σ):=by
 refine aA C0 oZ.eq_1 rfl ?_;cases hc1:ct x.m 1 1000000
 ·simp[-length_flatMap,-map_take,dM,Rock.aE.valid,hc1]
 cases hc2:ct x.h 0 10000000000
 ·simp[-length_flatMap,-map_take,dM,Rock.aE.valid,hc1,hc2]
 cases hc3:ct x.k 0 1000000000000
 ·simp[-length_flatMap,-map_take,dM,Rock.aE.valid,hc1,hc2,hc3]
 simp[-length_flatMap,-map_take,dM,Rock.aE.valid,hc1,hc2,hc3]
theorem I4{x q m A:Int}(hm:1≤m)(hx:0≤x∧x≤A)(hq:0≤q∧q≤m):0≤(x*q).tdiv m∧(x*q).tdiv m≤A:=by
 have h1:=ft hx.1 hq.1;rw[bA h1];refine⟨Int.ediv_nonneg h1 (by omega),Int.ediv_le_of_le_mul (by omega) ?_⟩;exact lT hx.2 hq.2 hq.1 (by omega)
theorem SJ{x:Rock.aE}{q:Int}(hm:1≤x.m∧x.m≤1000000)(hh:0≤x.h∧x.h≤10000000000)(hk:0≤x.k∧x.k≤1000000000000)(hq:0≤q∧q≤x.m):
  lim T (.call false lS [.agg x.enc,.int .i64 q] σ)=some (.val (.agg (x.out q).enc) σ):=by
 refine aA EC rO.eq_1 rfl ?_;have b1:=oH hh.1 hh.2 hq.1 (show q≤1000000 by omega);have b2:=oH hk.1 hk.2 hq.1 (show q≤1000000 by omega);have b3:=I4 hm.1 hh hq;have b4:=I4 hm.1 hk hq;have w1:=fT (n:=x.h*q) (by omega);have w2:=fT (n:=x.k*q) (by omega);have w3:=fT (n:=(x.h*q).tdiv x.m) (by omega);have w4:=fT (n:=(x.k*q).tdiv x.m) (by omega);have hne:¬x.m=0:=by omega
 simp[-length_flatMap,-map_take,w1,w2,w3,w4,hne,Rock.aE.out]
def sm(x:Rock.aE)(n:Int):Prop:=(-n≤x.m∧x.m≤n)∧(-n≤x.h∧x.h≤n)∧(-n≤x.k∧x.k≤n)
theorem Gv{F:List Abs.aE}{j v i:Nat}{s:List Rock.aE}{x o:Rock.aE}{sign:Int}(hF:F[j]?=some (.cells v (s.flatMap aE.enc)))(hx:s[i]?=some x)(h1:sm x 1000000000000000000)(h2:sm o 1000000000000000000)(hs:sign=1∨sign = -1):
  lim T (.call false cg [.ref σ.length j v (i*3),.agg o.enc,.int .i64 sign] (F::σ))=some (.val (.dK []) (F.set j (.cells v ((iM s i o sign).flatMap aE.enc))::σ)):=by
 refine gF DD qB.eq_1 rfl (by simp) ?_;obtain⟨a1,a2,a3⟩:=h1;obtain⟨c1,c2,c3⟩:=h2;have hi:i<s.length:=(au.1 hx).1;obtain⟨A,B,hA,hAB⟩:∃A B:List D,A.length=i*3∧s.flatMap aE.enc=A++(x.enc++B):=by
  have hd:=xn (f:=aE.enc) (w:=3) (fun _=>rfl) hx;have hlen:=Gg s;refine⟨(s.flatMap aE.enc).take (i*3),(s.flatMap aE.enc).drop (i*3+3),by rw[lO];omega,?_⟩;rw[← hd,List.take_append_drop]
 have hset:(iM s i o sign).flatMap aE.enc=A++((x.move o sign).enc++B):=by
  have h3:=Qa (f:=aE.enc) (w:=3) (fun _=>rfl) (x:=x.move o sign) hi;have hblk:bP s i=x:=by simp[bP,hx]
  rw[iM,hblk,← h3,hAB];have e1:(A++(x.enc++B)).take (i*3)=A:=by rw[← hA];simp
  have e2:(A++(x.enc++B)).drop (i*3+3)=B:=by
   rw[← ij,← hA];simp
  rw[e1,e2]
 rw[hAB]at hF;rw[hset];have hj:j<F.length:=(au.1 hF).1;have gs:∀X:Abs.aE,(F.set j X)[j]?=some X:=fun X=>by simp[hj]
 clear hset hAB hx hj;have t1:∀L:List D,(A++L).take (A.length+1)=A++L.take 1:=fun L=>by rw[List.take_length_add_append]
 have t2:∀L:List D,(A++L).take (A.length+1+1)=A++L.take 2:=fun L=>by rw[du,List.take_length_add_append]
 have d2:∀L:List D,(A++L).drop (A.length+1+1)=L.drop 2:=fun L=>by rw[du,cQ]
 have d1:∀L:List D,(A++L).drop (A.length+1)=L.drop 1:=fun L=>by rw[cQ]
 have d3:∀L:List D,(A++L).drop (A.length+1+1+1)=L.drop 3:=fun L=>by rw[du,du,cQ]
 have k1:A.length+1+1≤A.length+(B.length+1+1+1):=by omega
 have k2:A.length+1+1+1≤A.length+(B.length+1+1+1):=by omega
 have k3:A.length+1≤A.length+(B.length+1+1+1):=by omega
 have k4:A.length+2+1≤A.length+(B.length+1+1+1):=by omega
 have d4:∀L:List D,(A++L).drop (A.length+2)=L.drop 2:=fun L=>by rw[cQ]
 have d5:∀L:List D,(A++L).drop (A.length+2+1)=L.drop 3:=fun L=>by rw[du,cQ]
 have t4:∀L:List D,(A++L).take (A.length+2)=A++L.take 2:=fun L=>by rw[List.take_length_add_append]
 have y1:=fT (n:=o.m) (by omega);have y2:=fT (n:=o.h) (by omega);have y3:=fT (n:=o.k) (by omega);have y4:=fT (n := -o.m) (by omega);have y5:=fT (n := -o.h) (by omega);have y6:=fT (n := -o.k) (by omega);rcases hs with rfl | rfl
 ·have w1:=fT (n:=x.m+o.m) (by omega);have w2:=fT (n:=x.h+o.h) (by omega);have w3:=fT (n:=x.k+o.k) (by omega);simp[-length_flatMap,-map_take,hF,gs,← hA,w1,w2,w3,y1,y2,y3,t1,t2,t4,d1,d2,d3,d4,d5,k1,k2,k3,k4,Rock.aE.move]
 ·have w1:=fT (n:=x.m + -o.m) (by omega);have w2:=fT (n:=x.h + -o.h) (by omega);have w3:=fT (n:=x.k + -o.k) (by omega);simp[-length_flatMap,-map_take,hF,gs,← hA,w1,w2,w3,y4,y5,y6,t1,t2,t4,d1,d2,d3,d4,d5,k1,k2,k3,k4,Rock.aE.move]
theorem afA{w:bH}{r:Int}(hr : -100000≤r∧r≤100000)(h1:0≤w.h∧w.h≤3000)(h2:0≤w.m∧w.m≤1000000):
  lim T (.call false nz [.agg w.enc,.int .i64 r] σ)=some (.val (.agg (w.given r).enc) σ):=by
 refine aA DE qD.eq_1 rfl ?_;have b1 : -300000000≤r*w.h∧r*w.h≤300000000:=by
  rcases mT 0 r with h | h
  ·have:=oH h hr.2 h1.1 h1.2;omega
  ·have:=oH (a := -r) (A:=100000) (by omega) (by omega) h1.1 h1.2;rw[Int.neg_mul]at this;omega
 have b2 : -100000000000≤r*w.m∧r*w.m≤100000000000:=by
  rcases mT 0 r with h | h
  ·have:=oH h hr.2 h2.1 h2.2;omega
  ·have:=oH (a := -r) (A:=100000) (by omega) (by omega) h2.1 h2.2;rw[Int.neg_mul]at this;omega
 have w1:=fT (n := -r) (by omega);have w2:=fT (n := -(r*w.h)) (by omega);have w3:=fT (n := -(r*w.m)) (by omega);simp[-length_flatMap,-map_take,w1,w2,w3,bH.given,Int.neg_mul]
theorem atG{b:cz}{m:cI}(h:Fv b m){i:Nat}(hi:i<b.n):lim T (.call false nB [.agg [.int .i64 b.f.x,.int .i64 b.f.y,.int .i64 b.f.z,.int .i64 b.f.k,.aI b.cq.length (b.cq.flatMap Rw.enc),.int .i64 b.bJ,.int .i64 b.lift,.int .i64 b.deep,.aI b.ar.length (b.ar.flatMap bH.enc),.str m.name,.aI m.bh.length (m.bh.flatMap aS)],.int .i64 i] σ)=some (.val (.agg (M7 b m i).enc) σ):=by
 refine aA DI qQ.eq_1 rfl ?_;have hf:=fun σ=>ana (σ:=σ) h.toMv hi
 have b1:=h.feed i hi;have b2:=h.bv.deep;have b3:=oH b1.1 b1.2 b2.1 b2.2;have w1:=fT (n:=feed b m i*b.deep) (by omega);simp[-length_flatMap,-map_take,hf,w1,M7]
theorem afu{s:List Rock.aE}{bs:List Abs.aE}(hl:s.length≤1000000)(hne:s≠[]):lim T (.call true cN [.aI s.length (s.flatMap aE.enc)] (bs::σ)) =
  some (.val (.sl σ.length (bs.length+1) 1 0 s.length 3) ((bs++[.cells 0 [],.cells 1 (s.flatMap aE.enc)])::σ)):=by
 refine wF sc dI.eq_1 rfl ?_;have h7:s.length*24≤room:=by unfold room;omega
 simp[-length_flatMap,-map_take,hne,Gg,h7]
theorem afD{b:cz}:lim T (.call false ow [.agg [.int .i64 b.f.x,.int .i64 b.f.y,.int .i64 b.f.z,.int .i64 b.f.k,.aI b.cq.length (b.cq.flatMap Rw.enc),.int .i64 b.bJ,.int .i64 b.lift,.int .i64 b.deep,.aI b.ar.length (b.ar.flatMap bH.enc)]] σ)=some (.val (.fn jB [] [.bD [.int .i64 b.f.x,.int .i64 b.f.y,.int .i64 b.f.z,.int .i64 b.f.k,.aI b.cq.length (b.cq.flatMap Rw.enc),.int .i64 b.bJ,.int .i64 b.lift,.int .i64 b.deep,.aI b.ar.length (b.ar.flatMap bH.enc)]]) σ):=by
 refine aA Ez rL.eq_1 rfl ?_;simp[-length_flatMap,-map_take,cK,bu,aY]
theorem Bv.xy{b:cz}(h:Bv b):b.f.x=(b.f.x.toNat:Int)∧b.f.y=(b.f.y.toNat:Int)∧1≤b.f.x.toNat*b.f.y.toNat∧b.f.x.toNat*b.f.y.toNat≤64:=by
 have hx:=h.x;have hy:=h.y;obtain⟨s1,_⟩:=fU.sz h.x h.y h.z;have e1:b.f.x*b.f.y=((b.f.x.toNat*b.f.y.toNat:Nat):Int):=by push_cast;rw[eO (by omega),eO (by omega)]
 rw[e1]at s1;refine⟨by omega,by omega,by omega,by omega⟩
theorem Bv.nat{b:cz}(h:Bv b):b.n=b.f.x.toNat*b.f.y.toNat*b.f.z.toNat∧1≤b.f.x.toNat∧1≤b.f.y.toNat:=by
 have hx:=h.x;have hy:=h.y;have hz:=h.z;have hs:=h.sz;refine⟨?_,by omega,by omega⟩;have:((b.f.x.toNat*b.f.y.toNat*b.f.z.toNat:Nat):Int)=b.f.size:=by
  push_cast;rw[eO (by omega),eO (by omega),eO (by omega)];rfl
 omega
theorem amC{X W i n:Nat}(hn:n=X*W)(hi:i<n)(hc:(i+1)%X≠0):i+1<n:=by
 rcases Nat.lt_or_ge (i+1) n with h | h
 ·exact h
 ·have:i+1=X*W:=by omega
  rw[this,Nat.mul_mod_right]at hc;exact absurd rfl hc
theorem link2{X Y Z i n:Nat}(hX:1≤X)(hY:1≤Y)(hn:n=X*Y*Z)(hi:i<n)(hc:i / X%Y≠Y-1):i+X<n:=by
 have h1:i / X<Y*Z:=by rw[Nat.div_lt_iff_lt_mul hX,Nat.mul_comm,← Nat.mul_assoc];omega
 have h2:i / X+1<Y*Z:=by
  rcases Nat.lt_or_ge (i / X+1) (Y*Z)with h | h
  ·exact h
  ·exfalso
   have h3:i / X+1=Y*Z:=by omega
   have hZ:1≤Z:=by
    rcases Nat.eq_zero_or_pos Z with h0 | h0
    ·subst h0;omega
    ·exact h0
   have h4:i / X=Y*(Z-1)+(Y-1):=by
    have:Y*Z=Y*(Z-1)+Y:=by rw[← Nat.mul_succ];congr 1;omega
    omega
   rw[h4,Nat.mul_add_mod,Nat.mod_eq_of_lt (by omega)]at hc;exact hc rfl
 have h3:i<(i / X+1)*X:=by
  have:=Nat.div_add_mod i X;have h4:=Nat.mod_lt i (show X>0 by omega);rw[iY,Nat.one_mul,Nat.mul_comm (i / X) X];omega
 have h5:(i / X+1)*X+X≤n:=by
  have:(i / X+1+1)*X≤Y*Z*X:=dn _ h2;rw[iY (i / X+1) 1 X,Nat.one_mul,Nat.mul_comm (Y*Z) X,← Nat.mul_assoc]at this;omega
 omega
theorem N0{b:cz}(h:Bv b){lv j N:Nat}{St:List (Nat×Nat)→SK}(hN:∀pre,(St pre).length=N)
  (hR:∀pre,∀l:Nat×Nat,l.1<b.n→l.2<b.n→l.1≠l.2→lim T (.round lv j [.agg [.int .i64 l.1,.int .i64 l.2]] ([]::St pre))=some (.val (.bool true) ([]::St (pre++[l])))):∀(n i:Nat) (pre:List (Nat×Nat)),i+n=b.n →
  WL T [0,1,3,4,13,14] false my [(0,.mH lv j),(1,.bD [.int .i64 b.f.x,.int .i64 b.f.y,.int .i64 b.f.z,.int .i64 b.f.k,.aI b.cq.length (b.cq.flatMap Rw.enc),.int .i64 b.bJ,.int .i64 b.lift,.int .i64 b.deep,.aI b.ar.length (b.ar.flatMap bH.enc)]),(3,.int .i64 b.f.x),(4,.int .i64 b.f.y),(13,.int .i64 b.n),(14,.int .i64 i)] ([]::St pre)
   (fun x e σ'=>σ'=[]::St (pre++((List.range b.n).drop i).flatMap (yn b))∧x=.exit 0)
 |0,i,pre,hi=>by
  refine aN my.eq_1 ?_;have h1:¬i<b.n:=by omega
  have h2:(List.range b.n).drop i=[]:=aB (by simp;omega);simp[-length_flatMap,-map_take,h1,h2]
 |n+1,i,pre,hi=>by
  refine aN my.eq_1 ?_;have h1:i<b.n:=by omega
  have hn:=h.n;have hx:=h.x;have hy:=h.y;obtain⟨eX,eY,p1,p2⟩:=h.xy;have h4:=gD h1 (by omega);have hs:=fun σ=>za (σ:=σ) h
  have h5:(List.range b.n).drop i=i::(List.range b.n).drop (i+1):=cY (by simp[h1]);have w1:=fT (n:=b.f.x*b.f.y) (by rw[eX,eY];omega);obtain⟨hnn,X1,Y1⟩:=h.nat;have hx0:¬b.f.x=0:=by omega
  have hy0:¬b.f.y=0:=by omega
  have ih:=fun pre=>N0 h hN hR n (i+1) pre (by omega)
  have e1:((i:Int)+1).tmod b.f.x=(((i+1)%b.f.x.toNat:Nat):Int):=by
   conv=>lhs;rw[eX]
   rfl
  have e2:(i:Int) / b.f.x=((i / b.f.x.toNat:Nat):Int):=by
   conv=>lhs;rw[eX]
   rfl
  have e2b:(i:Int).tdiv b.f.x=((i / b.f.x.toNat:Nat):Int):=by
   conv=>lhs;rw[eX]
   rfl
  have e3:((i / b.f.x.toNat:Nat):Int).tmod b.f.y=((i / b.f.x.toNat%b.f.y.toNat:Nat):Int):=by
   conv=>lhs;rw[eY]
   rfl
  have e4:b.f.x*b.f.y=((b.f.x.toNat*b.f.y.toNat:Nat):Int):=by
   conv=>lhs;rw[eX,eY]
   rfl
  have hq:i / b.f.x.toNat≤i:=Nat.div_le_self _ _;have hr1:(i+1)%b.f.x.toNat≤i+1:=Nat.mod_le _ _;have hr2:i / b.f.x.toNat%b.f.y.toNat≤i / b.f.x.toNat:=Nat.mod_le _ _;have l1:=amC (W:=b.f.y.toNat*b.f.z.toNat) (by rw[hnn,Nat.mul_assoc]) h1;have l2:=link2 (Z:=b.f.z.toNat) X1 Y1 hnn h1;have R1:=fun pre hc=>hR pre (i,i+1) h1 (l1 hc) (by simp)
  have R2:=fun pre hc=>hR pre (i,i+b.f.x.toNat) h1 (l2 hc) (by simp;omega)
  have R3:=fun pre hc=>hR pre (i,i+b.f.x.toNat*b.f.y.toNat) h1 hc (by simp;omega)
  have z2:((i+b.f.x.toNat:Nat):Int)=(i:Int)+b.f.x:=by omega
  have z3:((i+b.f.x.toNat*b.f.y.toNat:Nat):Int)=(i:Int)+b.f.x*b.f.y:=by rw[e4];omega
  have z1:((i+1:Nat):Int)=(i:Int)+1:=rfl;simp only[z1,z2,z3]at R1 R2 R3;generalize hA:i / b.f.x.toNat=A at *
  generalize hB:A%b.f.y.toNat=B at *
  generalize hC:(i+1)%b.f.x.toNat=C at *
  generalize hP:b.f.x.toNat*b.f.y.toNat=P at *
  have v1:=fT (n:=(A:Int)) (by omega);have v2:=fT (n:=(B:Int)) (by omega);have v3:=fT (n:=(C:Int)) (by omega);have v4:=fT (n:=b.f.y-1) (by omega);have v5:=fT (n:=(i:Int)+b.f.x) (by omega);have v6:=fT (n:=(i:Int)+b.f.x*b.f.y) (by rw[e4];omega);have v7:=fT (n:=b.f.x*b.f.y) (by rw[e4];omega);have c3:((i:Int)+b.f.x*b.f.y<(b.n:Int))↔(i+P<b.n):=by rw[e4];omega
  have hL:yn b i=(if C≠0 then [(i,i+1)]else [])++((if B≠b.f.y.toNat-1 then [(i,i+b.f.x.toNat)]else [])++(if i+P<b.n then [(i,i+P)]else [])):=by
   unfold yn;rw[hC,hA,hB,hP]
  rw[h5,aW,hL];clear hL hnn l1 l2;have t1:((C:Int)=0)↔(C=0):=by omega
  have t2:((B:Int)=b.f.y-1)↔(B=b.f.y.toNat-1):=by omega
  by_cases k1:C=0<;>by_cases k2:B=b.f.y.toNat-1<;>by_cases k3:i+P<b.n;all_goals
   first | (have u1:=t1.2 k1) | (have u1:=mt t1.1 k1)
   first | (have u2:=t2.2 k2) | (have u2:=mt t2.1 k2)
   have ih':=ih (pre++((if C≠0 then [(i,i+1)]else [])++((if B≠b.f.y.toNat-1 then [(i,i+b.f.x.toNat)]else [])++(if i+P<b.n then [(i,i+P)]else []))));first
    |(rw[if_neg (not_not_intro k1)]at ih' ⊢) | (rw[if_pos k1]at ih' ⊢)
   first
    |(rw[if_neg (not_not_intro k2)]at ih' ⊢) | (rw[if_pos k2]at ih' ⊢)
   first
    |(rw[if_neg k3]at ih' ⊢) | (rw[if_pos k3]at ih' ⊢)
   have g1:=fun pre=>R1 pre
   have g2:=fun pre=>R2 pre
   have g3:=fun pre=>R3 pre
   first | (have g1:=fun pre=>R1 pre k1) | skip
   first | (have g2:=fun pre=>R2 pre k2) | skip
   first | (have g3:=fun pre=>R3 pre k3) | skip
   simp[-length_flatMap,-map_take,h1,h4,hx0,hy0,e1,e2,e2b,e3,v1,v2,v3,v4,v5,v6,v7,c3,u1,u2,k1,k3,hs,g1,g2,g3];refine WL.to ih' (by simp) (by simp) fun x e σ hh=>by simpa using hh
theorem SD{b:cz}(h:Bv b){lv j N:Nat}{St:List (Nat×Nat)→SK}(hN:∀pre,(St pre).length=N)
  (hR:∀pre,∀l:Nat×Nat,l.1<b.n→l.2<b.n→l.1≠l.2→lim T (.round lv j [.agg [.int .i64 l.1,.int .i64 l.2]] ([]::St pre))=some (.val (.bool true) ([]::St (pre++[l])))):
  lim T (.call false jB [.mH lv j,.bD [.int .i64 b.f.x,.int .i64 b.f.y,.int .i64 b.f.z,.int .i64 b.f.k,.aI b.cq.length (b.cq.flatMap Rw.enc),.int .i64 b.bJ,.int .i64 b.lift,.int .i64 b.deep,.aI b.ar.length (b.ar.flatMap bH.enc)]] (St []))=some (.val (.dK []) (St (IZ b))):=by
 refine gF CW oV.eq_1 rfl (by rw[hN,hN]) ?_;have hs:=fun σ=>za (σ:=σ) h
 simp[-length_flatMap,-map_take,hs];refine WL.to (N0 h hN hR b.n 0 [] (by omega)) (by simp) rfl ?_;rintro x e σ' ⟨rfl,rfl⟩;simp[-length_flatMap,-map_take,IZ]
def Dy(es:List ((Nat×Nat)×Rock.aE)):List D:=es.map fun e => .dK [.agg [.int .i64 e.1.1,.int .i64 e.1.2],.agg e.2.enc]
def kyL:Ky:=some (true,[some .i64,some .i64])
theorem avS{a b:Nat×Nat}:td kyL (.agg [.int .i64 a.1,.int .i64 a.2]) (.agg [.int .i64 b.1,.int .i64 b.2])=some (b == a):=by
 simp only[td,kyL,D.row,Aa,and_self,if_true,aT,Bool.and_true];congr 1;rw[Bool.eq_iff_iff];simp only[af,beq_iff_eq];constructor
 ·rintro⟨h1,h2⟩;exact Prod.ext (by omega) (by omega)
 ·rintro rfl;exact⟨rfl,rfl⟩
theorem Lg{k:Nat×Nat}:∀{es:List ((Nat×Nat)×Rock.aE)},∃r,rq kyL (.agg [.int .i64 k.1,.int .i64 k.2]) (Dy es)=some r∧r.map Prod.fst=es.findIdx? (fun e=>e.1 == k)
 |[]=>⟨none,rfl,rfl⟩
 |e::es=>by
  obtain⟨r,h1,h2⟩:=Lg (k:=k) (es:=es);simp only[Dy,aO]at h1 ⊢;simp only[rq,avS];cases hk:e.1 == k
  ·refine⟨_,by rw[h1];rfl,?_⟩;rw[List.findIdx?_cons,hk,← h2];cases r<;>rfl
  ·exact⟨_,rfl,by rw[List.findIdx?_cons,hk];rfl⟩
theorem aeu{S:SK}{l i:Nat}{es:List ((Nat×Nat)×Rock.aE)}{k:Nat×Nat}{o:Rock.aE}(h:cells? S l i 0=some (Dy es)):
  AV S (.put kyL) [.mH l i,.agg [.int .i64 k.1,.int .i64 k.2],.agg o.enc]=some (.undef,aV S l i (.cells 0 (Dy (RT es k o)))):=by
 obtain⟨r,h1,h2⟩:=Lg (k:=k) (es:=es);simp only[AV,AU,h,aT,h1,avS,Option.isSome_some,true_and];rw[if_pos (.inr ⟨by simp[D.clean],by simp[D.clean]⟩)];unfold RT;rw[← h2];cases r with
 |none=>simp[Dy]
 |some y=>simp[Dy,List.map_set]
theorem Hx{x:Rock.aE}{A:Int}(hA:10000≤A):∀(t:List Rw) (o:Int),(∀r∈t,r.alone=true)→(0≤o∧o≤A)→0≤t.foldl (pR x) o∧t.foldl (pR x) o≤A
 |[],o,_,h=>h
 |r::t,o,ht,h=>by
  have h1:=aeJ (ht r (by simp));refine Hx hA t _ (fun r hr=>ht r (by simp[hr])) ?_;unfold pR;split<;>omega
theorem J2{b:cz}{m:cI}{s:List Rock.aE}(h:Fv b m)(hs:Sv b s){i:Nat}(hi:i<b.n):0≤lg b m s i∧lg b m s i≤200000000000:=by
 have htab:=h.bv.cq;simp only[kM,af]at htab;refine Hx (by omega) _ _ (jZ.1 htab.2.1) ?_;have b5:=BN h.bv hi;have b1:=h.hold i hi;obtain⟨hx,b2,b3,b4⟩:=hs.at hi;have hst:=h.bv.bJ;have b6:b.bJ*((bP s i).m-hold b m i)≤100000000000:=by
  rcases mT (hold b m i) (bP s i).m with hh | hh
  ·have:=oH (a:=b.bJ) (b:=(bP s i).m-hold b m i) (A:=100000) (B:=1000000) (by omega) hst.2 (by omega) (by omega);omega
  ·have:=oH (a:=b.bJ) (b:=hold b m i-(bP s i).m) (A:=100000) (B:=1000000) (by omega) hst.2 (by omega) (by omega);have e:b.bJ*((bP s i).m-hold b m i) = - (b.bJ*(hold b m i-(bP s i).m)):=by rw[← Int.mul_neg];congr 1;omega
   omega
 have b7:down (b.bJ*((bP s i).m-hold b m i)) (hold b m i)≤100000000000:=by
  unfold down;have:=Int.ediv_le_self (b:=hold b m i) (a:=b.bJ*((bP s i).m-hold b m i));rcases mT 0 (b.bJ*((bP s i).m-hold b m i))with hh | hh
  ·have:=this hh;omega
  ·have:=Int.ediv_le_of_le_mul (b:=0) (show 0<hold b m i by omega) (by omega:b.bJ*((bP s i).m-hold b m i)≤0*hold b m i);omega
 omega
theorem zg{O:bN}{c c':cH}(hc:c=c'){e:Env}{σ:SK}{Q:Abs.Exit→Env→SK→Prop}:WC O c e σ Q .mk .mk=WC O c' e σ Q .mk .mk:=by subst hc;rfl
def RF(b:cz)(m:cI)(s:List Rock.aE)(L:Nat):wU :=
 {state:=0,xA:=none,env:=[(2,.bD [.int .i64 b.f.x,.int .i64 b.f.y,.int .i64 b.f.z,.int .i64 b.f.k,.aI b.cq.length (b.cq.flatMap Rw.enc),.int .i64 b.bJ,.int .i64 b.lift,.int .i64 b.deep,.aI b.ar.length (b.ar.flatMap bH.enc),.str m.name,.aI m.bh.length (m.bh.flatMap aS)]),(3,.bD [.aI s.length (s.flatMap aE.enc)]),(4,.undef),(5,.ref L 3 0 0),(6,.ref L 4 0 0)],params:=[18],zW:=kA,body:=dO }
def R4(A B:Abs.aE)(b:cz)(m:cI)(s:List Rock.aE)(σ:SK)(es:List ((Nat×Nat)×Rock.aE)):SK :=
 [A,B,.cells 0 (Dy es),.cells 0 [.mH σ.length 2],.cells 0 [.aI (bV b m s).length ((bV b m s).flatMap aS)],.loop (RF b m s σ.length)]::σ
theorem anD{A B:Abs.aE}{b:cz}{m:cI}{s:List Rock.aE}(h:Fv b m)(hs:Sv b s)(es:List ((Nat×Nat)×Rock.aE))(l:Nat×Nat)(h1:l.1<b.n)(h2:l.2<b.n):
  lim T (.round σ.length 5 [.agg [.int .i64 l.1,.int .i64 l.2]] ([]::R4 A B b m s σ es))=some (.val (.bool true) ([]::R4 A B b m s σ (pC b m s (bV b m s) es l))):=by
 have hn:=h.bv.n;have hl:=hs.len;have hp1:(bV b m s)[l.1]?=some (lg b m s l.1):=by simp[bV,hl,h1]
 have hp2:(bV b m s)[l.2]?=some (lg b m s l.2):=by simp[bV,hl,h2]
 have a1:=rh hp1;have a2:=rh hp2;have hpl:(bV b m s).length=b.n:=by rw[J1,hl]
 have bp1:=J2 h hs h1;have bp2:=J2 h hs h2;have bw1:=BN h.bv h1;have bw2:=BN h.bv h2;have cw1:=fun σ=>Gy (σ:=σ) (m:=m) h.bv h1
 have cw2:=fun σ=>Gy (σ:=σ) (m:=m) h.bv h2
 have co1:=fun σ=>SI (σ:=σ) h.toMv h1
 have co2:=fun σ=>SI (σ:=σ) h.toMv h2
 have bo1:=h.Ih l.1 h1;have bo2:=h.Ih l.2 h2;obtain⟨x1,m1,m2,m3⟩:=hs.at h1;obtain⟨y1,n1,n2,n3⟩:=hs.at h2;have f1:=bS (f:=aE.enc) (w:=3) (fun _=>rfl) x1;have f2:=bS (f:=aE.enc) (w:=3) (fun _=>rfl) y1;have w1:=fT (n:=lg b m s l.1-weight b l.1) (by omega);have w2:=fT (n:=lg b m s l.1-weight b l.1-lg b m s l.2) (by omega);have w3:=fT (n:=lg b m s l.1-weight b l.1-lg b m s l.2+weight b l.2) (by omega);have hL1:l.1<s.length:=by omega
 have hL2:l.2<s.length:=by omega
 have hE:pC b m s (bV b m s) es l=pC b m s (bV b m s) es l:=rfl
 conv at hE=>rhs;unfold pC JM
 simp only[hp1,hp2,gT]at hE;generalize pC b m s (bV b m s) es l=es' at *
 have hmin:0≤min (Ih b m l.2) (Ih b m l.1)∧min (Ih b m l.2) (Ih b m l.1)≤1000:=by omega
 have hmin':0≤min (Ih b m l.1) (Ih b m l.2)∧min (Ih b m l.1) (Ih b m l.2)≤1000:=by omega
 generalize hw1:weight b l.1=W1 at *
 generalize hw2:weight b l.2=W2 at *
 generalize hq1:lg b m s l.1=P1 at *
 generalize hq2:lg b m s l.2=P2 at *
 generalize hD:P1-W1-P2+W2=d at *
 refine L5 (lp:=RF b m s σ.length) (by simp[R4]) rfl ?_;rw[show(RF b m s σ.length).zW=kA from rfl,kA.eq_1,show(RF b m s σ.length).body=dO from rfl];by_cases hd:d<0
 ·simp only[hd,if_true]at hE;have b3:=oH hmin.1 hmin.2 (show 0 ≤ -d by omega) (show -d≤1000000000000 by omega);have w4:=fT (n := -d) (by omega);have d1:=bA (b:=1000) b3.1;have d2:=bA (b:=8) (show 0≤(bP s l.2).m by omega);generalize hX:min (Ih b m l.2) (Ih b m l.1) * -d=X at *
  have w5:=fT (n:=X) (by omega);generalize hY:X.tdiv 1000=Y at *
  generalize hZ:(bP s l.2).m.tdiv 8=Z at *
  have w6:=fT (n:=Y) (by rw[d1];omega);have w7:=fT (n:=Z) (by rw[d2];omega);by_cases hq:0<min Y Z
  ·have hO:=fun σ=>SJ (σ:=σ) (q:=min Y Z) n1 n2 n3 ⟨by omega,by rw[d2];omega⟩
   have hP:=fun S h=>aeu (S:=S) (l:=σ.length) (i:=2) (es:=es) (k:=(l.2,l.1)) (o:=(bP s l.2).out (min Y Z)) h
   rw[if_pos hq]at hE;simp only at hE;subst hE;generalize (bP s l.2).out (min Y Z)=O at *
   simp only[aE.enc]at hO;simp only[aE.enc,kyL]at hP;simp[-length_flatMap,-map_take,zg dO.eq_1,RF,R4,RJ,hpl,h1,h2,a1,a2,cw1,cw2,w1,w2,w3,hD,hd,co1,co2,hL1,hL2,f1,f2,w4,w5,w6,w7,hX,hY,hZ,hq,hO,hP]
  ·rw[if_neg hq]at hE;simp only at hE;subst hE;simp[-length_flatMap,-map_take,zg dO.eq_1,RF,R4,RJ,hpl,h1,h2,a1,a2,cw1,cw2,w1,w2,w3,hD,hd,co1,co2,hL1,hL2,f1,f2,w4,w5,w6,w7,hX,hY,hZ,hq]
 ·simp only[hd,if_false]at hE;have b3:=oH hmin'.1 hmin'.2 (show 0≤d by omega) (show d≤1000000000000 by omega);have w4:=fT (n:=d) (by omega);have d1:=bA (b:=1000) b3.1;have d2:=bA (b:=8) (show 0≤(bP s l.1).m by omega);generalize hX:min (Ih b m l.1) (Ih b m l.2)*d=X at *
  have w5:=fT (n:=X) (by omega);generalize hY:X.tdiv 1000=Y at *
  generalize hZ:(bP s l.1).m.tdiv 8=Z at *
  have w6:=fT (n:=Y) (by rw[d1];omega);have w7:=fT (n:=Z) (by rw[d2];omega);by_cases hq:0<min Y Z
  ·have hO:=fun σ=>SJ (σ:=σ) (q:=min Y Z) m1 m2 m3 ⟨by omega,by rw[d2];omega⟩
   have hP:=fun S h=>aeu (S:=S) (l:=σ.length) (i:=2) (es:=es) (k:=l) (o:=(bP s l.1).out (min Y Z)) h
   rw[if_pos hq]at hE;simp only at hE;subst hE;generalize (bP s l.1).out (min Y Z)=O at *
   simp only[aE.enc]at hO;simp only[aE.enc,kyL]at hP;simp[-length_flatMap,-map_take,zg dO.eq_1,RF,R4,RJ,hpl,h1,h2,a1,a2,cw1,cw2,w1,w2,w3,hD,hd,co1,co2,hL1,hL2,f1,f2,w4,w5,w6,w7,hX,hY,hZ,hq,hO,hP]
  ·rw[if_neg hq]at hE;simp only at hE;subst hE;simp[-length_flatMap,-map_take,zg dO.eq_1,RF,R4,RJ,hpl,h1,h2,a1,a2,cw1,cw2,w1,w2,w3,hD,hd,co1,co2,hL1,hL2,f1,f2,w4,w5,w6,w7,hX,hY,hZ,hq]
theorem afz{A B:Abs.aE}{b:cz}{m:cI}{s:List Rock.aE}(h:Fv b m)(hs:Sv b s):∃X Y Z:Abs.aE,
  lim T (.call true kW [.agg [.int .i64 b.f.x,.int .i64 b.f.y,.int .i64 b.f.z,.int .i64 b.f.k,.aI b.cq.length (b.cq.flatMap Rw.enc),.int .i64 b.bJ,.int .i64 b.lift,.int .i64 b.deep,.aI b.ar.length (b.ar.flatMap bH.enc),.str m.name,.aI m.bh.length (m.bh.flatMap aS)],.aI s.length (s.flatMap aE.enc)] ([A,B]::σ))=some (.val (.mH σ.length 2) ([A,B,.cells 0 (Dy (vI b m s)),X,Y,Z]::σ)):=by
 refine⟨.cells 0 [.mH σ.length 2],.cells 0 [.aI (bV b m s).length ((bV b m s).flatMap aS)],.loop {RF b m s σ.length with state:=3 },?_⟩;refine wF Cq n8.eq_1 rfl ?_;have hp:=fun σ hσ=>KI (σ:=σ) h hs hσ
 have hl:=SD (b:=b) h.bv (lv:=σ.length) (j:=5) (N:=σ.length+1) (St:=fun pre=>R4 A B b m s σ (pre.foldl (pC b m s (bV b m s)) [])) (fun pre=>by simp[R4])
  (fun pre l h1 h2 _=>by rw[List.foldl_append];exact anD h hs _ l h1 h2)
 have hm:AV ([A,B]::σ) .make []=some (.mH σ.length 2,[A,B,.cells 0 (Dy [])]::σ):=by simp[AV,Dy]
 simp[-length_flatMap,-map_take,hp,afD,cK,bu,aY,G5,hm];refine Oa (d:=.dK []) (σ2:=R4 A B b m s σ (vI b m s)) (lp:=RF b m s σ.length) (by simp;exact⟨rfl,rfl,rfl⟩) ?_ (by simp[R4]) (by simp[RF]) ?_
 ·simpa[RF,R4,vI]using hl
 ·simp[-length_flatMap,-map_take,RF,R4]
end Go.Proofs.YtfgljaglidhjiaaGreatDoor
namespace Go.Proofs.YtfgljaglidhjiaaGreatDoor
open List(length_flatMap map_take)
open Go Go.Abs Go.Rock
def BV(N:Int)(s:List Rock.aE):Prop:=∀x∈s,sm x N
theorem kL{x:Rock.aE}{N M:Int}(h:sm x N)(hN:N≤M):sm x M:=by
 obtain⟨h1,h2,h3⟩:=h;exact⟨⟨by omega,by omega⟩,⟨by omega,by omega⟩,⟨by omega,by omega⟩⟩
theorem GZ{N:Int}{s:List Rock.aE}(h:BV N s){i:Nat}(hi:i<s.length):s[i]?=some (bP s i)∧sm (bP s i) N:=by
 have h2:s[i]?=some (bP s i):=by simp[bP,hi]
 exact⟨h2,h _ (ai h2)⟩
theorem Ea{s:List Rock.aE}{i:Nat}{o:Rock.aE}{sign:Int}:(iM s i o sign).length=s.length:=by simp[iM]
theorem zu{N M:Int}{s:List Rock.aE}(h:BV N s){i:Nat}{o:Rock.aE}{sign:Int}(ho:sm o M)(hs:sign=1∨sign = -1)(hM:0≤M):BV (N+M) (iM s i o sign):=by
 intro x hx;unfold iM at hx;by_cases hi:i<s.length
 ·rcases List.mem_or_eq_of_mem_set hx with hx | rfl
  ·exact kL (h x hx) (by omega)
  ·obtain⟨a1,a2,a3⟩:=(GZ h hi).2;obtain⟨b1,b2,b3⟩:=ho;rcases hs with rfl | rfl
   ·exact⟨⟨by simp only[Rock.aE.move];omega,by simp only[Rock.aE.move];omega⟩,⟨by simp only[Rock.aE.move];omega,by simp only[Rock.aE.move];omega⟩,⟨by simp only[Rock.aE.move];omega,by simp only[Rock.aE.move];omega⟩⟩
   ·exact⟨⟨by simp only[Rock.aE.move];omega,by simp only[Rock.aE.move];omega⟩,⟨by simp only[Rock.aE.move];omega,by simp only[Rock.aE.move];omega⟩,⟨by simp only[Rock.aE.move];omega,by simp only[Rock.aE.move];omega⟩⟩
 ·rw[List.set_eq_of_length_le (by omega)]at hx;exact kL (h x hx) (by omega)
theorem B5{s:List Rock.aE}{i j:Nat}{o p:Rock.aE}{a c:Int}:iM (iM s i o a) j p c=iM (iM s j p c) i o a:=by
 by_cases hij:i=j
 ·subst hij;by_cases hi:i<s.length
  ·simp only[iM,bP,List.getElem?_set_self hi,gT,List.set_set,Rock.aE.move];congr 2<;>omega
  ·simp only[iM,List.set_eq_of_length_le (show s.length≤i by omega)]
 ·have hji:¬j=i:=fun h=>hij h.symm
  simp only[iM,bP,List.getElem?_set_ne hij,List.getElem?_set_ne hji];rw[List.set_comm _ _ hij]
theorem Rn{s:List Rock.aE}{e f:(Nat×Nat)×Rock.aE}:eZ (eZ s e) f=eZ (eZ s f) e:=by
 unfold eZ;rw[B5 (i:=e.1.2) (j:=f.1.1),B5 (i:=e.1.1) (j:=f.1.1),B5 (i:=e.1.2) (j:=f.1.2),B5 (i:=e.1.1) (j:=f.1.2)]
theorem Lk{s:List Rock.aE}{e:(Nat×Nat)×Rock.aE}:(eZ s e).length=s.length:=by simp[eZ,Ea]
def Im(es:List ((Nat×Nat)×Rock.aE))(s:List Rock.aE)(j:Nat):List Rock.aE:=match es[j]? with | some e=>eZ s e | none=>s
theorem ae2{es:List ((Nat×Nat)×Rock.aE)}{s:List Rock.aE}{i j:Nat}:Im es (Im es s i) j=Im es (Im es s j) i:=by
 unfold Im;cases es[i]? <;> cases es[j]? <;> simp[Rn]
theorem ag4{es:List ((Nat×Nat)×Rock.aE)}{s:List Rock.aE}{j:Nat}:(Im es s j).length=s.length:=by
 unfold Im;split<;>simp[Lk]
theorem Je:∀(es:List ((Nat×Nat)×Rock.aE)) (s:List Rock.aE) (n:Nat),n≤es.length→(List.range n).foldl (Im es) s=(es.take n).foldl eZ s
 |es,s,0,_=>by simp
 |es,s,n+1,h=>by
  obtain⟨e,he⟩:∃e,es[n]?=some e:=gE (by omega);rw[List.range_succ,List.foldl_append,Je es s n (by omega),List.take_add_one,he,List.foldl_append];simp[Im,he]
theorem ag3{es:List ((Nat×Nat)×Rock.aE)}{s:List Rock.aE}{js:List Nat}(hd:js.Nodup)(hm:∀j,j∈js↔j<es.length):js.foldl (Im es) s=es.foldl eZ s:=by
 have hp:js.Perm (List.range es.length):=(List.perm_ext_iff_of_nodup hd List.nodup_range).2 fun a=>by simp[hm]
 rw[hp.foldl_eq' (fun x _ y _ z=>ae2),Je es s es.length (aK _),aj (aK _)]
theorem RE{b:cz}:(IZ b).length≤3*b.n:=by
 have key:∀l:List Nat,(l.flatMap (yn b)).length≤3*l.length:=by
  intro l;induction l with
  |nil=>simp
  |cons i l ih =>
   rw[aW,bz,aJ];have:(yn b i).length≤3:=by
    unfold yn;simp only[bz];split<;>split<;>split<;>simp
   omega
 have:=key (List.range b.n);rw[List.length_range]at this;exact this
theorem aej{b:cz}(h:Bv b){l:Nat×Nat}(hl:l∈IZ b):l.1<b.n∧l.2<b.n:=by
 obtain⟨hnn,X1,Y1⟩:=h.nat;obtain⟨i,hi,hh⟩:=List.mem_flatMap.1 hl;have h1:i<b.n:=by simpa using hi
 unfold yn at hh;simp only[bx]at hh;rcases hh with hh | hh | hh
 ·split at hh
  ·rename_i hc;simp at hh;subst hh;exact⟨h1,amC (W:=b.f.y.toNat*b.f.z.toNat) (by rw[hnn,Nat.mul_assoc]) h1 hc⟩
  ·cases hh
 ·split at hh
  ·rename_i hc;simp at hh;subst hh;exact⟨h1,link2 (Z:=b.f.z.toNat) X1 Y1 hnn h1 hc⟩
  ·cases hh
 ·split at hh
  ·rename_i hc;simp at hh;subst hh;exact⟨h1,hc⟩
  ·cases hh
def Sc(b:cz)(e:(Nat×Nat)×Rock.aE):Prop:=(e.1.1<b.n∧e.1.2<b.n)∧sm e.2 1000000000000
theorem Nr{x:Rock.aE}{q:Int}(hm:1≤x.m∧x.m≤1000000)(hh:0≤x.h∧x.h≤10000000000)(hk:0≤x.k∧x.k≤1000000000000)(hq:0≤q∧q≤x.m):sm (x.out q) 1000000000000:=by
 have b3:=I4 hm.1 hh hq;have b4:=I4 hm.1 hk hq;exact⟨⟨by simp only[Rock.aE.out];omega,by simp only[Rock.aE.out];omega⟩,⟨by simp only[Rock.aE.out];omega,by simp only[Rock.aE.out];omega⟩,⟨by simp only[Rock.aE.out];omega,by simp only[Rock.aE.out];omega⟩⟩
theorem Rm{b:cz}{m:cI}{s:List Rock.aE}(hs:Sv b s){p:List Int}{l:Nat×Nat}(h1:l.1<b.n)(h2:l.2<b.n){e:(Nat×Nat)×Rock.aE}(he:JM b m s p l=some e):Sc b e:=by
 unfold JM at he;simp only at he;generalize hd:(p[l.1]?).getD 0-weight b l.1-(p[l.2]?).getD 0+weight b l.2=d at he;generalize hl':(if d<0 then(l.2,l.1)else l)=l' at he;generalize hd':(if d<0 then -d else d)=d' at he;have hll:l'.1<b.n∧l'.2<b.n:=by
  rw[← hl'];split<;>exact⟨by assumption,by assumption⟩
 obtain⟨_,m1,m2,m3⟩:=hs.at hll.1;split at he
 ·rename_i hq;simp only[ae]at he;subst he;have d2:=bA (b:=8) (show 0≤(bP s l'.1).m by omega);exact⟨hll,Nr m1 m2 m3 ⟨by omega,by rw[d2];omega⟩⟩
 ·cases he
theorem agM{b:cz}{es:List ((Nat×Nat)×Rock.aE)}{k:Nat×Nat}{o:Rock.aE}(h:∀e∈es,Sc b e)(ho:Sc b (k,o)):(∀e∈RT es k o,Sc b e)∧(RT es k o).length≤es.length+1:=by
 unfold RT;split
 ·constructor
  ·intro e he;rcases List.mem_or_eq_of_mem_set he with he | rfl
   ·exact h e he
   ·exact ho
  ·simp
 ·constructor
  ·intro e he;rcases bx.1 he with he | he
   ·exact h e he
   ·simp at he;subst he;exact ho
  ·simp
theorem Ll{b:cz}{m:cI}{s:List Rock.aE}(h:Bv b)(hs:Sv b s):(∀e∈vI b m s,Sc b e)∧(vI b m s).length≤192:=by
 have key:∀(ls:List (Nat×Nat)) (es:List ((Nat×Nat)×Rock.aE)),(∀l∈ls,l.1<b.n∧l.2<b.n)→(∀e∈es,Sc b e)→(∀e∈ls.foldl (pC b m s (bV b m s)) es,Sc b e)∧(ls.foldl (pC b m s (bV b m s)) es).length≤es.length+ls.length:=by
  intro ls;induction ls with
  |nil=>intro es _ h;exact⟨h,by simp⟩
  |cons l ls ih =>
   intro es hl he;have hl0:=hl l (by simp);simp only[List.foldl_cons];have h1:(∀e∈pC b m s (bV b m s) es l,Sc b e)∧(pC b m s (bV b m s) es l).length≤es.length+1:=by
    unfold pC;split
    ·rename_i e hfe;exact agM he (Rm hs hl0.1 hl0.2 hfe)
    ·exact⟨he,by omega⟩
   obtain⟨h2,h3⟩:=ih _ (fun l hh=>hl l (by simp[hh])) h1.1;exact⟨h2,by simp only[aJ];omega⟩
 obtain⟨h1,h2⟩:=key (IZ b) [] (fun l hl=>aej h hl) (by simp);have:=@RE b;have hn:=h.n;exact⟨h1,by simp only[bF]at h2;unfold vI;omega⟩
theorem Lj{b:cz}{N:Int}{s:List Rock.aE}{e:(Nat×Nat)×Rock.aE}(h:BV N s)(he:Sc b e):BV (N+2000000000000) (eZ s e):=by
 have h1:=zu (i:=e.1.1) (sign := -1) h he.2 (.inr rfl) (by omega);have h2:=zu (i:=e.1.2) (sign:=1) h1 he.2 (.inl rfl) (by omega);unfold eZ;rw[show N+2000000000000=N+1000000000000+1000000000000 by omega];exact h2
theorem QC{b:cz}{es:List ((Nat×Nat)×Rock.aE)}(hes:∀e∈es,Sc b e):∀(js:List Nat) (s:List Rock.aE) (N:Int),BV N s→BV (N+2000000000000*js.length) (js.foldr (fun j s=>Im es s j) s)
 |[],s,N,h=>by simpa using h
 |j::js,s,N,h=>by
  have ih:=QC hes js s N h;simp only[List.foldr_cons,aJ];generalize js.foldr (fun j s=>Im es s j) s=s1 at *
  unfold Im;split
  ·rename_i e he;have:=Lj ih (hes e (ai he));intro x hx;exact kL (this x hx) (by push_cast;omega)
  ·intro x hx;exact kL (ih x hx) (by push_cast;omega)
theorem Sv.BV{b:cz}{s:List Rock.aE}(h:Sv b s):BV 1000000000000 s:=by
 intro x hx;obtain⟨h1,h2,h3⟩:=aE.JX.1 (h.ok x hx);exact⟨⟨by omega,by omega⟩,⟨by omega,by omega⟩,⟨by omega,by omega⟩⟩
end Go.Proofs.YtfgljaglidhjiaaGreatDoor
namespace Go.Abs
open List(length_flatMap map_take)
open Go
variable {T:yN}
theorem y7{F:List aE}:∀{σ:SK} {lv:Nat},fX σ lv=some F→lv<σ.length
 |[],lv,h=>by simp[fX]at h
 |s::σ,lv,h=>by
  simp only[fX]at h;split at h
  ·rename_i h1;simp;omega
  ·have:=y7 h;simp;omega
section
variable {α:Type} {w:Nat} {enc:α→List D} (hw:∀x,(enc x).length=w) {p:α→Bool} {fv:D} {l:List α} {lv bi v:Nat} {F:List aE}
include hw in
theorem Ho(hF:F[bi]?=some (.cells v (l.flatMap enc)))(hl:l.length≤9223372036854775807)(ht:pW T fv (fun x => .agg (enc x)) p l){σ:SK}(hs:fX σ lv=some F):∀(m i:Nat),i+m=l.length →
  WL T [0,1,7,8] false (Hn true w) [(0,.sl lv bi v 0 l.length w),(1,fv),(7,.int .i64 l.length),(8,.int .i64 i)] σ
   (fun x e σ'=>σ'=σ∧if idxOf p (l.drop i)<0 then x=.exit 0 else x=.ret∧get e 4=.int .i64 (i+idxOf p (l.drop i)))
 |0,i,hi=>by
  obtain⟨h1,h2,h3⟩:=ht;refine aN (Hn.eq_1 _ _) ?_;have:¬i<l.length:=by omega
  have h5:l.drop i=[]:=by simp;omega
  simp[this,h1,h2,h5,idxOf]
 |m+1,i,hi=>by
  have ih:=Ho hF hl ht hs m (i+1) (by omega);obtain⟨h1,h2,h3⟩:=ht;refine aN (Hn.eq_1 _ _) ?_;have h4:i<l.length:=by omega
  obtain⟨x,hx⟩:=gE h4;have h5:=xn (f:=enc) hw hx;have h6:=h3 x (ai hx) σ;have h7:=gD h4 hl;have h8:l.drop i=x::l.drop (i+1):=cY hx;have e1:∀r:List D,(enc x++r).take w=enc x:=fun r=>by rw[← hw x];simp
  have e2:∀r:Nat,w≤(enc x).length+r:=fun r=>by rw[hw];omega
  cases hp:p x
  ·rw[hp]at h6;simp[h4,h1,h2,h5,h6,h7,hs,hF,e1,e2];refine WL.mono (by simpa using ih) ?_;rintro x e σ' ⟨h9,h10⟩;refine⟨h9,?_⟩;rw[h8];simp only[idxOf,hp,aw,if_false];by_cases h11:idxOf p (l.drop (i+1))<0
   ·simpa[h11]using h10
   ·rw[if_neg h11]at h10;rw[if_neg h11,if_neg (by omega)];refine⟨h10.1,?_⟩;rw[h10.2];congr 1;push_cast;omega
  ·rw[hp]at h6;simp[h4,h1,h2,h5,h6,h7,hs,hF,e1,e2,h8,idxOf,hp]
include hw in
theorem Hp{f:Nat}(hT:T f=some (uP true w))(hF:F[bi]?=some (.cells v (l.flatMap enc)))(hl:l.length≤9223372036854775807)(ht:pW T fv (fun x => .agg (enc x)) p l){σ:SK}(hs:fX σ lv=some F):
  lim T (.call false f [.sl lv bi v 0 l.length w,fv] σ)=some (.val (.int .i64 (idxOf p l)) σ):=by
 refine aA hT (uP.eq_1 _ _) rfl ?_;have hlt:=y7 hs;have h:=Ho hw hF hl ht (lv:=lv) (F:=F) (σ:=[]::σ) (by simp[fX,hs,show ¬σ.length=lv by omega]) l.length 0 (by simp);obtain⟨h1,h2,h3⟩:=ht;simp[h1,h2];refine WL.mono (by simpa using h) ?_;rintro x e σ' ⟨rfl,h10⟩
 try simp only[aP]at h10
 by_cases h11:idxOf p l<0
 ·rw[if_pos h11]at h10;subst h10;have:idxOf p l = -1:=by
   cases l with
   |nil=>rfl
   |cons a l =>
    simp only[idxOf]at h11 ⊢;split at h11<;>rename_i ha
    ·omega
    ·rw[if_neg ha];split at h11<;>rename_i hb
     ·rw[if_pos hb]
     ·omega
  simp[this]
 ·rw[if_neg h11]at h10;obtain⟨rfl,h12⟩:=h10
  try simp at h12
  simp[h12]
include hw in
theorem CH{f i:Nat}(hT:T f=some (ju i))(hi:T i=some (uP true w))(hF:F[bi]?=some (.cells v (l.flatMap enc)))(hl:l.length≤9223372036854775807)(ht:pW T fv (fun x => .agg (enc x)) p l){σ:SK}(hs:fX σ lv=some F):
  lim T (.call false f [.sl lv bi v 0 l.length w,fv] σ)=some (.val (.bool (sT l p)) σ):=by
 refine aA hT (ju.eq_1 _) rfl ?_;have hlt:=y7 hs;have h:=Hp hw hi hF hl ht (lv:=lv) (F:=F) (σ:=[]::σ) (by simp[fX,hs,show ¬σ.length=lv by omega]);obtain⟨h1,h2,h3⟩:=ht;have h4:decide (0≤idxOf p l)=sT l p:=by
  unfold sT;have h6:=EX (p:=p) (l:=l);cases h5:l.any p
  ·have:=h6.2 h5;exact decide_eq_false (by omega)
  ·exact decide_eq_true (by
    have:¬idxOf p l<0:=fun h=>by rw[h6.1 h]at h5;cases h5
    omega)
 simp[h1,h2,h,h4]
include hw in
theorem GU{f g h i:Nat}(hf:T f=some (DN g h))(hg:T g=some (yO true w))(hh:T h=some (ju i))(hi:T i=some (uP true w))
  (hF:F[bi]?=some (.cells v (l.flatMap enc))) (hl:l.length≤9223372036854775807) (ht:pW T fv (fun x => .agg (enc x)) p l) (hcl:fv.cells=some [fv]) {σ:SK} (hs:fX σ lv=some F):
  lim T (.call false f [.sl lv bi v 0 l.length w,fv] σ)=some (.val (.bool (gU l p)) σ):=by
 refine aA hf (DN.eq_1 _ _) rfl ?_;have hlt:=y7 hs;have h:=CH hw hh hi hF hl (Od (xf w enc hw) hg ht) (lv:=lv) (F:=F) (σ:=[]::σ) (by simp[fX,hs,show ¬σ.length=lv by omega]);obtain⟨h1,h2,h3⟩:=ht;have h4:(sT l fun x => !p x) = !gU l p:=by
  unfold sT gU;rw[List.all_eq_not_any_not,Bool.not_not]
 simp[h1,h2,h,h4,hcl]
end
end Go.Abs
namespace Go.Proofs.YtfgljaglidhjiaaGreatDoor
open List(length_flatMap map_take)
open Go Go.Abs Go.Rock
variable {σ:SK}
theorem QW{b:cz}{m:cI}{s:List Rock.aE}(h:Bv b){lv bi v:Nat}{F:List Abs.aE}(hF:F[bi]?=some (.cells v (s.flatMap aE.enc)))(hs:fX σ lv=some F)(hl:s.length=b.n):
  lim T (.call false kX [.agg [.int .i64 b.f.x,.int .i64 b.f.y,.int .i64 b.f.z,.int .i64 b.f.k,.aI b.cq.length (b.cq.flatMap Rw.enc),.int .i64 b.bJ,.int .i64 b.lift,.int .i64 b.deep,.aI b.ar.length (b.ar.flatMap bH.enc),.str m.name,.aI m.bh.length (m.bh.flatMap aS)],.sl lv bi v 0 s.length 3] σ)=some (.val (.bool (yz b s)) σ):=by
 refine aA Cr n9.eq_1 rfl ?_;have hlt:=y7 hs;have hz:=h.sz;have hn:=h.n;have hsz:=fun σ=>za (σ:=σ) h
 have ha:=GU (T:=T) (w:=3) (enc:=aE.enc) (fun _=>rfl) (f:=mC) (g:=kF) (h:=fe) (i:=gn) (l:=s) (p:=Rock.aE.valid) (fv:=.fn jE [] []) rfl rfl rfl rfl hF (by omega) (pW.fn fun x _ σ=>ME) rfl (lv:=lv) (F:=F) (σ:=[]::σ) (by simp[fX,hs,show ¬σ.length=lv by omega]);unfold yz;have hc3:((b.n:Nat):Int)=b.size:=hz.symm;rw[hl]at ha ⊢;cases hc:gU s Rock.aE.valid<;>simp[-length_flatMap,-map_take,hsz,hl,ha,hc,hc3]
def jsD(js:List Nat):List D:=js.map fun j => .int .i64 (j:Nat)
def Sb(n:Nat)(js:List Nat):List Nat:=(List.range n).filter fun j => !(js.contains j)
theorem agr{js:List Nat}{j:Nat}:D.int .i64 (j:Nat)∈jsD js↔j∈js:=by
 simp only[jsD,bR];constructor
 ·rintro⟨a,h1,h2⟩;simp only[D.int.injEq,true_and]at h2;have:a=j:=by omega
  exact this ▸ h1
 ·intro h;exact⟨j,h,rfl⟩
def H9(b:cz)(m:cI)(s:List Rock.aE)(aR:List Int)(L:Nat):Env :=
 [(1,.aI s.length (s.flatMap aE.enc)),(2,.aI aR.length (aR.flatMap aS)),(3,.bD [.int .i64 b.f.x,.int .i64 b.f.y,.int .i64 b.f.z,.int .i64 b.f.k,.aI b.cq.length (b.cq.flatMap Rw.enc),.int .i64 b.bJ,.int .i64 b.lift,.int .i64 b.deep,.aI b.ar.length (b.ar.flatMap bH.enc),.str m.name,.aI m.bh.length (m.bh.flatMap aS)]),(9,.sl L 1 1 0 s.length 3),(23,.mH L 6)]
def stT(A X Y Z:Abs.aE)(σ:SK)(es:List ((Nat×Nat)×Rock.aE))(s:List Rock.aE)(it:Abs.aE):SK :=
 [A,.cells 1 (s.flatMap aE.enc),.cells 0 (Dy es),X,Y,Z,it]::σ
def itB(L n:Nat)(js:List Nat):Abs.aE:=.cells 1 (.mH L 2::.int .i64 (n:Nat)::jsD js)
theorem ad9{A X Y Z:Abs.aE}{es:List ((Nat×Nat)×Rock.aE)}{s:List Rock.aE}{js:List Nat}:
  FI (stT A X Y Z σ es s (itB σ.length es.length js)) σ.length 6=some (.mH σ.length 2,es.length,jsD js,Sb es.length js):=by
 have hl:(Dy es).length=es.length:=by simp[Dy]
 simp[FI,stT,itB,AU,hl,Sb,agr]
theorem awS{n:Nat}{js:List Nat}{u:Nat}(hu:u∈Sb n js):(Sb n (u::js)).length<(Sb n js).length:=by
 have e:Sb n (u::js)=(Sb n js).filter fun j => !decide (j=u):=by
  unfold Sb;rw[List.filter_filter];congr 1;funext j;simp[List.contains_cons,Bool.not_or]
 rw[e,List.length_filter_lt_length_iff_exists];exact⟨u,hu,by simp⟩
theorem anw{b:cz}{m:cI}{s:List Rock.aE}{aR:List Int}{A X Y Z:Abs.aE}{es:List ((Nat×Nat)×Rock.aE)}{r:R}(hs:Sv b s)(hes:∀e∈es,Sc b e)(hel:es.length≤192)
  (hr:WC (lim T) iB ((25,.bool false)::(24,.undef)::H9 b m s aR σ.length) (stT A X Y Z σ es (es.foldl eZ s) .dead) fun x e' σ'=>r=.CI x e' σ'):
  ∀(k:Nat) (js:List Nat),js.Nodup→(∀j∈js,j<es.length)→(Sb es.length js).length=k →
   lim T (.ja [1,2,3,9,23] (.t 23) 24 25 0 mB iB (H9 b m s aR σ.length) (stT A X Y Z σ es (js.foldr (fun j s=>Im es s j) s) (itB σ.length es.length js)))=some r:=by
 intro k;induction k using Nat.strongRecOn with
 |_ k ih =>
 intro js hd hj hk;by_cases hus:Sb es.length js=[]
 ·have hall:∀j,j∈js↔j<es.length:=by
   intro j;refine⟨hj j,fun hlt=>?_⟩;have h1:j ∉ Sb es.length js:=by rw[hus];simp
   simpa[Sb,hlt]using h1
  have hfin:js.foldr (fun j s=>Im es s j) s=es.foldl eZ s:=by
   rw[← ag3 (js:=js.reverse) ((List.reverse_perm js).nodup_iff.2 hd) (fun j=>by simp[hall]),List.foldl_reverse]
  rw[hfin];have hit:=ad9 (σ:=σ) (A:=A) (X:=X) (Y:=Y) (Z:=Z) (es:=es) (s:=es.foldl eZ s) (js:=js);rw[hus]at hit;refine RL mB.eq_1 rfl (by simp[H9]) hit ?_;simp[stT,H9,itB]at hr ⊢;exact hr
 ·have hit:=ad9 (σ:=σ) (A:=A) (X:=X) (Y:=Y) (Z:=Z) (es:=es) (s:=js.foldr (fun j s=>Im es s j) s) (js:=js);refine aes mB.eq_1 rfl (by simp[H9]) hit hus ?_;intro u hu;have hu2:u<es.length∧u ∉ js:=by simpa[Sb]using hu
  obtain⟨e,he⟩:∃e,es[u]?=some e:=⟨_,aF hu2.1⟩;have hf:=hes e (ai he);have hnext:=ih _ (by rw[← hk];exact awS hu) (u::js) (List.nodup_cons.2 ⟨hu2.2,hd⟩) (by intro j hjm;rcases ba.1 hjm with rfl | hjm;exact hu2.1;exact hj j hjm) rfl;have hb:=QC hes js s 1000000000000 hs.BV;have hjl:js.length≤192:=by
   have h1:js.length≤es.length:=by
    have:=hd.length_le_of_subset (l₂:=List.range es.length) (fun j hjm=>by simpa using hj j hjm);simpa using this
   omega
  have hlen:(js.foldr (fun j s=>Im es s j) s).length=b.n:=by
   have:∀js:List Nat,(js.foldr (fun j s=>Im es s j) s).length=s.length:=by
    intro js;induction js with
    |nil=>rfl
    |cons a l ih=>simp only[List.foldr_cons,ag4];exact ih
   rw[this,hs.len]
  simp only[List.foldr_cons]at hnext;generalize hs1:js.foldr (fun j s=>Im es s j) s=s1 at *
  have hstp:Im es s1 u=iM (iM s1 e.1.1 e.2 (-1)) e.1.2 e.2 1:=by simp[Im,he,eZ]
  rw[hstp]at hnext;have hbn:BV 400000000000000 s1:=fun x hx=>kL (hb x hx) (by omega)
  have hb1:=zu (i:=e.1.1) (sign := -1) hbn hf.2 (.inr rfl) (by omega);obtain⟨x1,y1⟩:=GZ hbn (i:=e.1.1) (by have:=hf.1.1;omega);obtain⟨x2,y2⟩:=GZ hb1 (i:=e.1.2) (by rw[Ea];have:=hf.1.2;omega);have hM1:∀I,lim T (.call false cg [.ref σ.length 1 1 (e.1.1*3),.agg [.int .i64 e.2.m,.int .i64 e.2.h,.int .i64 e.2.k],.int .i64 (-1)] ([A,.cells 1 (s1.flatMap aE.enc),.cells 0 (Dy es),X,Y,Z,I]::σ)) =
    some (.val (.dK []) ([A,.cells 1 ((iM s1 e.1.1 e.2 (-1)).flatMap aE.enc),.cells 0 (Dy es),X,Y,Z,I]::σ)) :=
   fun I=>Gv (F:=[A,.cells 1 (s1.flatMap aE.enc),.cells 0 (Dy es),X,Y,Z,I]) (j:=1) rfl x1 (kL y1 (by omega)) (kL hf.2 (by omega)) (.inr rfl)
  have hM2:∀I,lim T (.call false cg [.ref σ.length 1 1 (e.1.2*3),.agg [.int .i64 e.2.m,.int .i64 e.2.h,.int .i64 e.2.k],.int .i64 1] ([A,.cells 1 ((iM s1 e.1.1 e.2 (-1)).flatMap aE.enc),.cells 0 (Dy es),X,Y,Z,I]::σ)) =
    some (.val (.dK []) ([A,.cells 1 ((iM (iM s1 e.1.1 e.2 (-1)) e.1.2 e.2 1).flatMap aE.enc),.cells 0 (Dy es),X,Y,Z,I]::σ)) :=
   fun I=>Gv (F:=[A,.cells 1 ((iM s1 e.1.1 e.2 (-1)).flatMap aE.enc),.cells 0 (Dy es),X,Y,Z,I]) (j:=1) rfl x2 (kL y2 (by omega)) (kL hf.2 (by omega)) (.inl rfl)
  have hfe:(Dy es)[u]?=some (.dK [.agg [.int .i64 e.1.1,.int .i64 e.1.2],.agg [.int .i64 e.2.m,.int .i64 e.2.h,.int .i64 e.2.k]]):=by simp[Dy,he]
  have hfl:(Dy es).length=es.length:=by simp[Dy]
  have hE:AV ([A,.cells 1 (s1.flatMap aE.enc),.cells 0 (Dy es),X,Y,Z,.cells 1 (.mH σ.length 2::.int .i64 (es.length:Nat)::.int .i64 (u:Nat)::jsD js)]::σ) .ent [.mH σ.length 6] =
    some (.dK [.agg [.int .i64 e.1.1,.int .i64 e.1.2],.agg [.int .i64 e.2.m,.int .i64 e.2.h,.int .i64 e.2.k]],[A,.cells 1 (s1.flatMap aE.enc),.cells 0 (Dy es),X,Y,Z,.cells 1 (.mH σ.length 2::.int .i64 (es.length:Nat)::.int .i64 (u:Nat)::jsD js)]::σ):=by
   simp[AV,AU,hfl,hfe]
  have hi1:e.1.1<s.length:=by have:=hf.1.1;have:=hs.len;omega
  have hi2:e.1.2<s.length:=by have:=hf.1.2;have:=hs.len;omega
  simp[-length_flatMap,-map_take,H9,stT,itB,hE,hM1,hM2,hi1,hi2,cK,bu,aY,G5];simpa[H9,stT,itB,jsD]using hnext
theorem HP{b:cz}(h:Bv b):∀w∈b.ar,(0≤w.b∧w.b<(b.n:Int))∧(0≤w.h∧w.h≤3000)∧(0≤w.m∧w.m≤1000000):=by
 have key:∀(l:List bH) (u:List Int),uC b.size u l=true→∀w∈l,(0≤w.b∧w.b<(b.n:Int))∧(0≤w.h∧w.h≤3000)∧(0≤w.m∧w.m≤1000000):=by
  intro l;induction l with
  |nil=>intro u _ w hw;cases hw
  |cons a l ih =>
   intro u hu w hw;simp only[uC,bH.ok,af]at hu;obtain⟨⟨h1,h2,h3,h4⟩,h5⟩:=hu;rcases ba.1 hw with rfl | hw
   ·have hs:=h.sz;have:=bf.1 h1;unfold cz.size at this;exact⟨⟨this.1,by omega⟩,bf.1 h3,bf.1 h4⟩
   ·exact ih _ h5 w hw
 exact key _ _ h.ok
theorem mulR{a r A R:Int}(ha:0≤a∧a≤A)(hr : -R≤r∧r≤R) : -(R*A)≤r*a∧r*a≤R*A:=by
 rcases mT 0 r with h | h
 ·have:=oH h hr.2 ha.1 ha.2;have h2:=ft (show 0≤R by omega) (show 0≤A by omega);omega
 ·have:=oH (a := -r) (A:=R) (by omega) (by omega) ha.1 ha.2;rw[Int.neg_mul]at this;have h2:=ft (show 0≤R by omega) (show 0≤A by omega);omega
theorem Lp{w:bH}{r:Int}(hr : -100000≤r∧r≤100000)(h1:0≤w.h∧w.h≤3000)(h2:0≤w.m∧w.m≤1000000):sm (w.given r) 1000000000000:=by
 have b1:=mulR h1 hr;have b2:=mulR h2 hr;exact⟨⟨by simp only[bH.given];omega,by simp only[bH.given];omega⟩,⟨by simp only[bH.given,Int.neg_mul];omega,by simp only[bH.given,Int.neg_mul];omega⟩,⟨by simp only[bH.given,Int.neg_mul];omega,by simp only[bH.given,Int.neg_mul];omega⟩⟩
theorem adP{b:cz}{m:cI}(h:Fv b m){i:Nat}(hi:i<b.n):sm (M7 b m i) 1000000000000:=by
 have b1:=h.feed i hi;have b2:=h.bv.deep;have b3:=oH b1.1 b1.2 b2.1 b2.2;exact⟨⟨by simp only[M7];omega,by simp only[M7];omega⟩,⟨by simp only[M7];omega,by simp only[M7];omega⟩,⟨by simp[M7],by simp[M7]⟩⟩
def fh(b:cz)(s s1:List Rock.aE)(aR:List Int)(j:Nat):List Rock.aE:=((b.ar.zip aR).take j).foldl (fun n wr=>uB s n wr.1 wr.2) s1
def mN(b:cz)(m:cI)(s2:List Rock.aE)(i:Nat):List Rock.aE:=(List.range i).foldl (fun n i=>iM n i (M7 b m i) 1) s2
theorem Eo{b:cz}{s s1:List Rock.aE}{aR:List Int}{j:Nat}{w:bH}{r:Int}(h1:b.ar[j]?=some w)(h2:aR[j]?=some r):fh b s s1 aR (j+1)=uB s (fh b s s1 aR j) w r:=by
 have:(b.ar.zip aR)[j]?=some (w,r):=by rw[List.getElem?_zip_eq_some];exact⟨h1,h2⟩
 unfold fh;rw[List.take_add_one,this,List.foldl_append];rfl
theorem Bt{b:cz}{m:cI}{s2:List Rock.aE}{i:Nat}:mN b m s2 (i+1)=iM (mN b m s2 i) i (M7 b m i) 1:=by
 unfold mN;rw[List.range_succ,List.foldl_append];rfl
theorem Ab{b:cz}{m:cI}{s2:List Rock.aE}:∀i,(mN b m s2 i).length=s2.length
 |0=>rfl
 |i+1=>by rw[Bt,Ea,Ab i]
theorem afe{b:cz}{s:List Rock.aE}{aR:List Int}{j:Nat}{w:bH}{r:Int}(h1:b.ar[j]?=some w)(h2:aR[j]?=some r):(eH b s aR)[j]?=some (rV s w r):=by
 have:(b.ar.zip aR)[j]?=some (w,r):=by rw[List.getElem?_zip_eq_some];exact⟨h1,h2⟩
 simp[eH,this]
structure Rv(b:cz)(aR:List Int):Prop where
 len:aR.length=b.ar.length
 ok:∀r∈aR,-100000≤r∧r≤100000
theorem Rv.of{b:cz}{aR:List Int}(h:Am b aR=0):Rv b aR:=by
 unfold Am at h;split at h
 ·rename_i hl;split at h
  ·rename_i ha;exact⟨hl,fun r hr=>bf.1 (jZ.1 ha r hr)⟩
  ·cases h
 ·cases h
theorem agC{b:cz}{s next:List Rock.aE}(h:Bv b)(hs:Sv b s){aR:List Int}(hr:Rv b aR){j:Nat}{w:bH}{r:Int}(h1:b.ar[j]?=some w)(h2:aR[j]?=some r){N:Int}(hb:BV N next):BV (N+1000000000000) (uB s next w r):=by
 have hw:=HP h w (ai h1);have hrr:=hr.ok r (ai h2);obtain⟨_,m1,m2,m3⟩:=hs.at (i:=w.b.toNat) (by omega);have d2:=bA (b:=8) (show 0≤(bP s w.b.toNat).m by omega);unfold uB rV;split
 ·exact zu hb (Lp hrr hw.2.1 hw.2.2) (.inl rfl) (by omega)
 ·exact zu hb (Nr m1 m2 m3 ⟨by rw[d2];omega,by rw[d2];omega⟩) (.inr rfl) (by omega)
theorem Kq{s n:List Rock.aE}{w:bH}{r:Int}:(uB s n w r).length=n.length:=by
 unfold uB;split<;>simp[Ea]
theorem Aw{b:cz}{s s1:List Rock.aE}(h:Bv b)(hs:Sv b s){aR:List Int}(hr:Rv b aR)(hb:BV 500000000000000 s1):∀j,j≤aR.length→BV (500000000000000+1000000000000*j) (fh b s s1 aR j)∧(fh b s s1 aR j).length=s1.length
 |0,_=>⟨by simpa[fh]using hb,by simp[fh]⟩
 |j+1,hj=>by
  obtain⟨r,h2⟩:∃r,aR[j]?=some r:=gE (by omega);obtain⟨w,h1⟩:∃w,b.ar[j]?=some w:=⟨_,aF (by rw[← hr.len];omega)⟩;obtain⟨ih1,ih2⟩:=Aw h hs hr hb j (by omega);rw[Eo h1 h2];have h3:=agC h hs hr h1 h2 ih1;exact⟨fun x hx=>kL (h3 x hx) (by push_cast;omega),by rw[Kq,ih2]⟩
theorem II{b:cz}{m:cI}{s2:List Rock.aE}(h:Fv b m)(hb:BV 600000000000000 s2):∀i,i≤b.n→BV (600000000000000+1000000000000*i) (mN b m s2 i)
 |0,_=>by simpa[mN]using hb
 |i+1,hi=>by
  have ih:=II h hb i (by omega);rw[Bt];have h3:=zu (i:=i) ih (adP h (i:=i) (by omega)) (.inl rfl) (by omega);exact fun x hx=>kL (h3 x hx) (by push_cast;omega)
theorem af8{b:cz}{j:Nat}{w:bH}(h:b.ar[j]?=some w):((b.ar.flatMap bH.enc).drop (j*3)).take 3=[.int .i64 w.b,.int .i64 w.h,.int .i64 w.m] :=
 bS (f:=bH.enc) (w:=3) (fun _=>rfl) h
theorem N5{b:cz}{m:cI}{s s1:List Rock.aE}{aR:List Int}{A FL X Y Z W:Abs.aE}(h:Fv b m)(hs:Sv b s)(hr:Rv b aR)(hb:BV 500000000000000 s1)(hl1:s1.length=s.length):∀(k j v:Nat),j+k=aR.length →
  WL T [1,3,9,12,41,42,43] false lD [(1,.aI s.length (s.flatMap aE.enc)),(3,.bD [.int .i64 b.f.x,.int .i64 b.f.y,.int .i64 b.f.z,.int .i64 b.f.k,.aI b.cq.length (b.cq.flatMap Rw.enc),.int .i64 b.bJ,.int .i64 b.lift,.int .i64 b.deep,.aI b.ar.length (b.ar.flatMap bH.enc),.str m.name,.aI m.bh.length (m.bh.flatMap aS)]),(9,.sl σ.length 1 1 0 s.length 3),(12,.sl σ.length 7 v 0 j 3),(41,.aI aR.length (aR.flatMap aS)),(42,.int .i64 aR.length),(43,.int .i64 j)]
   ([A,.cells 1 ((fh b s s1 aR j).flatMap aE.enc),FL,X,Y,Z,W,.cells v (((eH b s aR).take j).flatMap aE.enc)]::σ)
   (fun x e σ'=>x=.exit 2∧get e 3=.bD [.int .i64 b.f.x,.int .i64 b.f.y,.int .i64 b.f.z,.int .i64 b.f.k,.aI b.cq.length (b.cq.flatMap Rw.enc),.int .i64 b.bJ,.int .i64 b.lift,.int .i64 b.deep,.aI b.ar.length (b.ar.flatMap bH.enc),.str m.name,.aI m.bh.length (m.bh.flatMap aS)]∧get e 9=.sl σ.length 1 1 0 s.length 3∧get e 12=.sl σ.length 7 (v+k) 0 aR.length 3 ∧
    σ'=[A,.cells 1 ((fh b s s1 aR aR.length).flatMap aE.enc),FL,X,Y,Z,W,.cells (v+k) ((eH b s aR).flatMap aE.enc)]::σ)
 |0,j,v,hj=>by
  refine aN lD.eq_1 ?_;obtain rfl:j=aR.length:=by omega
  have hyl:(eH b s aR).length=aR.length:=by simp[eH,hr.len]
  have h3:(eH b s aR).take aR.length=eH b s aR:=aj (by omega);simp[-length_flatMap,-map_take,h3,cK,bu,aY]
 |k+1,j,v,hj=>by
  refine aN lD.eq_1 ?_;have h1:j<aR.length:=by omega
  have hwl:=h.bv.ar;have hrl:=hr.len;obtain⟨r,hr2⟩:∃r,aR[j]?=some r:=gE (by omega);obtain⟨w,hw1⟩:∃w,b.ar[j]?=some w:=gE (by omega);have hw:=HP h.bv w (ai hw1);have hrr:=hr.ok r (ai hr2);have hwn:w.b.toNat<b.n:=by omega
  have hlen:=hs.len;obtain⟨x0,m1,m2,m3⟩:=hs.at (i:=w.b.toNat) hwn;obtain⟨ib,il⟩:=Aw h.bv hs hr hb j (by omega);obtain⟨x1,y1⟩:=GZ ib (i:=w.b.toNat) (by omega);have h4:=gD h1 (by omega);have a1:=af8 hw1;have a2:=rh hr2;have a3:=bS (f:=aE.enc) (w:=3) (fun _=>rfl) x0;have hy:=afe (s:=s) hw1 hr2;have f3:=ET (f:=aE.enc) hy;have hyl:(eH b s aR).length=aR.length:=by simp[eH,hr.len]
  have f4:=Gg ((eH b s aR).take j);rw[lO,hyl,Nat.min_eq_left (by omega)]at f4;have f6:(((eH b s aR).take j).flatMap aE.enc).take (j*3)=((eH b s aR).take j).flatMap aE.enc:=aj (by omega);have h7:(j+1)*24≤room:=by unfold room;omega
  have ih:=N5 (A:=A) (FL:=FL) (X:=X) (Y:=Y) (Z:=Z) (W:=W) h hs hr hb hl1 k (j+1) (v+1) (by omega);have hsucc:=Eo (s:=s) (s1:=s1) hw1 hr2;have hB0:(0:Int)≤w.b:=hw.1.1;have hB1:w.b<(s.length:Int):=by omega
  have hjw:j<b.ar.length:=by omega
  have d2:=bA (b:=8) (show 0≤(bP s w.b.toNat).m by omega);by_cases hc:r<0
  ·have hg:=fun σ=>afA (σ:=σ) hrr hw.2.1 hw.2.2
   have hM:∀V,lim T (.call false cg [.ref σ.length 1 1 (w.b.toNat*3),.agg [.int .i64 (w.given r).m,.int .i64 (w.given r).h,.int .i64 (w.given r).k],.int .i64 1] ([A,.cells 1 ((fh b s s1 aR j).flatMap aE.enc),FL,X,Y,Z,W,V]::σ)) =
     some (.val (.dK []) ([A,.cells 1 ((fh b s s1 aR (j+1)).flatMap aE.enc),FL,X,Y,Z,W,V]::σ)):=by
    intro V;rw[hsucc,uB,if_pos hc];exact Gv (F:=[A,.cells 1 ((fh b s s1 aR j).flatMap aE.enc),FL,X,Y,Z,W,V]) (j:=1) rfl x1 (kL y1 (by omega)) (kL (Lp hrr hw.2.1 hw.2.2) (by omega)) (.inl rfl)
   have hwy:rV s w r=⟨0,0,0⟩:=by simp[rV,hc]
   rw[hwy]at f3;simp only[bH.enc,aE.enc]at hg;simp[-length_flatMap,-map_take,h1,h4,a1,a2,a3,f4,f6,h7,hB0,hB1,hjw,hc,hg,hM,cK,bu,aY];refine WL.to ih (by simp[cK,bu,aY]) (by simp[← f3]) fun x e σ hh=>by simpa[du,Nat.add_comm 1 k]using hh
  ·have w7:=fT (n:=(bP s w.b.toNat).m.tdiv 8) (by rw[d2];omega);have hO:=fun σ=>SJ (σ:=σ) (q:=min r ((bP s w.b.toNat).m.tdiv 8)) m1 m2 m3 ⟨by rw[d2];omega,by rw[d2];omega⟩
   have hos:=Nr (q:=min r ((bP s w.b.toNat).m.tdiv 8)) m1 m2 m3 ⟨by rw[d2];omega,by rw[d2];omega⟩;have hwy:rV s w r=(bP s w.b.toNat).out (min r ((bP s w.b.toNat).m.tdiv 8)):=by simp[rV,hc]
   have hsucc':fh b s s1 aR (j+1)=iM (fh b s s1 aR j) w.b.toNat ((bP s w.b.toNat).out (min r ((bP s w.b.toNat).m.tdiv 8))) (-1):=by
    rw[hsucc,uB,if_neg hc,hwy]
   rw[hwy]at f3;generalize hQ:min r ((bP s w.b.toNat).m.tdiv 8)=Q at *
   generalize (bP s w.b.toNat).out Q=O at *
   have hM:∀V,lim T (.call false cg [.ref σ.length 1 1 (w.b.toNat*3),.agg [.int .i64 O.m,.int .i64 O.h,.int .i64 O.k],.int .i64 (-1)] ([A,.cells 1 ((fh b s s1 aR j).flatMap aE.enc),FL,X,Y,Z,W,V]::σ)) =
     some (.val (.dK []) ([A,.cells 1 ((fh b s s1 aR (j+1)).flatMap aE.enc),FL,X,Y,Z,W,V]::σ)):=by
    intro V;rw[hsucc'];exact Gv (F:=[A,.cells 1 ((fh b s s1 aR j).flatMap aE.enc),FL,X,Y,Z,W,V]) (j:=1) rfl x1 (kL y1 (by omega)) (kL hos (by omega)) (.inr rfl)
   simp only[aE.enc]at hO;simp[-length_flatMap,-map_take,h1,h4,a1,a2,a3,f4,f6,h7,hB0,hB1,hjw,hc,w7,hQ,hO,hM,cK,bu,aY];refine WL.to ih (by simp[cK,bu,aY]) (by simp[← f3]) fun x e σ hh=>by simpa[du,Nat.add_comm 1 k]using hh
theorem S5{b:cz}{m:cI}{s2:List Rock.aE}{A FL X Y Z W V:Abs.aE}{d12:D}(h:Fv b m)(hb:BV 600000000000000 s2)(hl2:s2.length=b.n)(hd:d12.strip=d12∧d12.calm=d12):∀(k i:Nat),i+k=b.n →
  WL T [3,9,12,93,94] false lE [(3,.bD [.int .i64 b.f.x,.int .i64 b.f.y,.int .i64 b.f.z,.int .i64 b.f.k,.aI b.cq.length (b.cq.flatMap Rw.enc),.int .i64 b.bJ,.int .i64 b.lift,.int .i64 b.deep,.aI b.ar.length (b.ar.flatMap bH.enc),.str m.name,.aI m.bh.length (m.bh.flatMap aS)]),(9,.sl σ.length 1 1 0 b.n 3),(12,d12),(93,.int .i64 b.n),(94,.int .i64 i)]
   ([A,.cells 1 ((mN b m s2 i).flatMap aE.enc),FL,X,Y,Z,W,V]::σ)
   (fun x e σ'=>x=.exit 4∧get e 3=.bD [.int .i64 b.f.x,.int .i64 b.f.y,.int .i64 b.f.z,.int .i64 b.f.k,.aI b.cq.length (b.cq.flatMap Rw.enc),.int .i64 b.bJ,.int .i64 b.lift,.int .i64 b.deep,.aI b.ar.length (b.ar.flatMap bH.enc),.str m.name,.aI m.bh.length (m.bh.flatMap aS)]∧get e 9=.sl σ.length 1 1 0 b.n 3∧get e 12=d12∧σ'=[A,.cells 1 ((mN b m s2 b.n).flatMap aE.enc),FL,X,Y,Z,W,V]::σ)
 |0,i,hi=>by
  refine aN lE.eq_1 ?_;obtain rfl:i=b.n:=by omega
  simp[-length_flatMap,-map_take,hd,cK,bu,aY]
 |k+1,i,hi=>by
  refine aN lE.eq_1 ?_;have h1:i<b.n:=by omega
  have hn:=h.bv.n;have h4:=gD h1 (by omega);have hf:=fun σ=>atG (σ:=σ) h h1
  have ih:=S5 (A:=A) (FL:=FL) (X:=X) (Y:=Y) (Z:=Z) (W:=W) (V:=V) h hb hl2 hd k (i+1) (by omega);have ib:=II h hb i (by omega);obtain⟨x1,y1⟩:=GZ ib (i:=i) (by rw[Ab,hl2];omega);have hM:lim T (.call false cg [.ref σ.length 1 1 (i*3),.agg [.int .i64 (M7 b m i).m,.int .i64 (M7 b m i).h,.int .i64 (M7 b m i).k],.int .i64 1] ([A,.cells 1 ((mN b m s2 i).flatMap aE.enc),FL,X,Y,Z,W,V]::σ)) =
    some (.val (.dK []) ([A,.cells 1 ((mN b m s2 (i+1)).flatMap aE.enc),FL,X,Y,Z,W,V]::σ)):=by
   rw[Bt];exact Gv (F:=[A,.cells 1 ((mN b m s2 i).flatMap aE.enc),FL,X,Y,Z,W,V]) (j:=1) rfl x1 (kL y1 (by omega)) (kL (adP h h1) (by omega)) (.inl rfl)
  simp only[aE.enc]at hf;simp[-length_flatMap,-map_take,h1,h4,hf,hM,hd,cK,bu,aY];refine WL.to ih (by simp[hd,cK,bu,aY]) rfl fun x e σ hh=>hh
theorem Ql{b:cz}{m:cI}{s:List Rock.aE}{aR:List Int}(hr:Rv b aR)(hl:s.length=b.n):mN b m (fh b s ((vI b m s).foldl eZ s) aR aR.length) b.n=Dp b m s aR:=by
 have:(b.ar.zip aR).take aR.length=b.ar.zip aR:=aj (by rw[List.length_zip];omega);simp only[Dp,mN,fh,this,hl]
theorem Ro{b:cz}{m:cI}{s:List Rock.aE}(h:Fv b m)(hs:Sv b s):BV 500000000000000 ((vI b m s).foldl eZ s)∧((vI b m s).foldl eZ s).length=s.length:=by
 obtain⟨h1,h2⟩:=Ll (m:=m) h.bv hs;have key:∀(es:List ((Nat×Nat)×Rock.aE)) (s:List Rock.aE) (N:Int),(∀e∈es,Sc b e)→BV N s→BV (N+2000000000000*es.length) (es.foldl eZ s)∧(es.foldl eZ s).length=s.length:=by
  intro es;induction es with
  |nil=>intro s N _ h;exact⟨by simpa using h,rfl⟩
  |cons e es ih =>
   intro s N he hb;obtain⟨a1,a2⟩:=ih (eZ s e) _ (fun x hx=>he x (by simp[hx])) (Lj hb (he e (by simp)));simp only[List.foldl_cons,aJ];exact⟨fun x hx=>kL (a1 x hx) (by push_cast;omega),by rw[a2,Lk]⟩
 obtain⟨a1,a2⟩:=key _ s _ h1 hs.BV;exact⟨fun x hx=>kL (a1 x hx) (by omega),a2⟩
theorem ang{b:cz}{m:cI}{s s1:List Rock.aE}{aR:List Int}{A FL X Y Z W:Abs.aE}(h:Fv b m)(hs:Sv b s)(hr:Rv b aR)(hb:BV 500000000000000 s1)(hl1:s1.length=s.length):
  WC (lim T) iB ((25,.bool false)::(24,.undef)::H9 b m s aR σ.length) ([A,.cells 1 (s1.flatMap aE.enc),FL,X,Y,Z,W]::σ) fun x e σ' =>
   x=.ret∧σ'=[A,.cells 1 ((mN b m (fh b s s1 aR aR.length) b.n).flatMap aE.enc),FL,X,Y,Z,W,.cells aR.length ((eH b s aR).flatMap aE.enc)]::σ ∧
   (if yz b (mN b m (fh b s s1 aR aR.length) b.n)=true then get e 6=.sl σ.length 1 1 0 b.n 3∧get e 7=.sl σ.length 7 aR.length 0 aR.length 3∧get e 8=.int .i64 0
    else get e 6=.aG∧get e 7=.aG∧get e 8=.int .i64 9):=by
 have hl:=hs.len;have hn:=h.bv.n;have hwl:=h.bv.ar;have hrl:=hr.len;obtain⟨wb,wl⟩:=Aw h.bv hs hr hb aR.length (aK _);have fl:=Ab (b:=b) (m:=m) (s2:=fh b s s1 aR aR.length) b.n;rw[zg iB.eq_1];simp[-length_flatMap,-map_take,H9,cK,bu,aY];refine WL.to (N5 (σ:=σ) (A:=A) (FL:=FL) (X:=X) (Y:=Y) (Z:=Z) (W:=W) h hs hr hb hl1 aR.length 0 0 (by omega)) (by simp[cK,bu,aY]) (by simp[fh]) ?_;rintro x e σ' ⟨rfl,g3,g9,g12,rfl⟩;rw[hl]at g9;simp[-length_flatMap,-map_take,g3,g9,g12,cK,bu,aY];refine WL.to (S5 (σ:=σ) (A:=A) (FL:=FL) (X:=X) (Y:=Y) (Z:=Z) (W:=W) (V:=.cells (0+aR.length) ((eH b s aR).flatMap aE.enc)) (d12:=.sl σ.length 7 (0+aR.length) 0 aR.length 3) h (fun x hx=>kL (wb x hx) (by omega)) (by rw[wl,hl1,hl]) ⟨rfl,rfl⟩ b.n 0 (by omega)) (by simp[cK,bu,aY]) (by simp[mN]) ?_;rintro x e σ' ⟨rfl,g3,g9,g12,rfl⟩;have hS:=QW (m:=m) (b:=b) (s:=mN b m (fh b s s1 aR aR.length) b.n) h.bv (lv:=σ.length) (bi:=1) (v:=1) (F:=[A,.cells 1 ((mN b m (fh b s s1 aR aR.length) b.n).flatMap aE.enc),FL,X,Y,Z,W,.cells (0+aR.length) ((eH b s aR).flatMap aE.enc)]) (σ:=[A,.cells 1 ((mN b m (fh b s s1 aR aR.length) b.n).flatMap aE.enc),FL,X,Y,Z,W,.cells (0+aR.length) ((eH b s aR).flatMap aE.enc)]::σ) rfl (by simp[fX]) (by rw[fl,wl,hl1,hl]);rw[show(mN b m (fh b s s1 aR aR.length) b.n).length=b.n by rw[fl,wl,hl1,hl]]at hS;cases hc:yz b (mN b m (fh b s s1 aR aR.length) b.n)
 ·rw[hc]at hS;simp at hS;simp[-length_flatMap,-map_take,g3,g9,g12,hS,cK,bu,aY]
 ·rw[hc]at hS;simp at hS;simp[-length_flatMap,-map_take,g3,g9,g12,hS,cK,bu,aY]
def ae9(b:cz)(m:cI)(s:List Rock.aE)(aR:List Int):D:=match tick b m s aR with
 |some (s',y) => .dK [.aI s'.length (s'.flatMap aE.enc),.aI y.length (y.flatMap aE.enc),.int .i64 0]
 |none => .dK [.aG,.aG,.int .i64 9]
theorem anl{b:cz}{m:cI}{s:List Rock.aE}{aR:List Int}(h:Fv b m)(hs:Sv b s)(hr:Rv b aR)(hσ:σ≠[]):
  lim T (.call false ma [.agg [.int .i64 b.f.x,.int .i64 b.f.y,.int .i64 b.f.z,.int .i64 b.f.k,.aI b.cq.length (b.cq.flatMap Rw.enc),.int .i64 b.bJ,.int .i64 b.lift,.int .i64 b.deep,.aI b.ar.length (b.ar.flatMap bH.enc),.str m.name,.aI m.bh.length (m.bh.flatMap aS)],.aI s.length (s.flatMap aE.enc),.aI aR.length (aR.flatMap aS)] σ)=some (.val (ae9 b m s aR) σ):=by
 refine aA C9 pg.eq_1 rfl ?_;have hl:=hs.len;have hn:=h.bv.n;have hne:s≠[]:=by intro h0;rw[h0]at hl;simp at hl;omega
 have hC:=afu (σ:=σ) (s:=s) (bs:=[]) (by omega) hne;obtain⟨X,Y,Z,hF⟩:=afz (σ:=σ) (A:=.cells 0 []) (B:=.cells 1 (s.flatMap aE.enc)) h hs;obtain⟨fb,fl⟩:=Ro h hs;obtain⟨x,e',σ',hrun,rfl,rfl,hq⟩:=ang (σ:=σ) (A:=.cells 0 []) (FL:=.cells 0 (Dy (vI b m s))) (X:=X) (Y:=Y) (Z:=Z) (W:=.dead) h hs hr fb fl;obtain⟨f1,f2⟩:=Ll (m:=m) h.bv hs;have hM:=anw (σ:=σ) (aR:=aR) (m:=m) (A:=.cells 0 []) (X:=X) (Y:=Y) (Z:=Z) (es:=vI b m s) hs f1 f2 (r:=.CI .ret e' ([.cells 0 [],.cells 1 ((mN b m (fh b s ((vI b m s).foldl eZ s) aR aR.length) b.n).flatMap aE.enc),.cells 0 (Dy (vI b m s)),X,Y,Z,.dead,.cells aR.length ((eH b s aR).flatMap aE.enc)]::σ)) ⟨_,_,_,hrun,rfl⟩ _ [] List.nodup_nil (by simp) rfl;simp only[aX,bF,cS]at hC;have hG:AV ([.cells 0 [],.cells 1 (s.flatMap aE.enc),.cells 0 (Dy (vI b m s)),X,Y,Z]::σ) .rng [.mH σ.length 2]=some (.mH σ.length 6,[.cells 0 [],.cells 1 (s.flatMap aE.enc),.cells 0 (Dy (vI b m s)),X,Y,Z,itB σ.length (vI b m s).length []]::σ):=by
  simp[AV,AU,itB,jsD,Dy]
 simp[-length_flatMap,-map_take,hC,hF,hG,cK,bu,aY,G5];refine⟨_,_,_,by simpa[H9,stT]using hM,?_⟩;rw[Ql hr hl]at hq ⊢;have hnl:(Dp b m s aR).length=b.n:=by
  rw[← Ql hr hl,Ab,(Aw h.bv hs hr fb aR.length (aK _)).2,fl,hl]
 have hyl:(eH b s aR).length=aR.length:=by simp[eH,hr.len]
 unfold ae9 tick;cases hc:yz b (Dp b m s aR)
 ·rw[hc]at hq;simp at hq;obtain⟨g6,g7,g8⟩:=hq;simp[g6,g7,g8]
 ·rw[hc]at hq;simp only[if_true]at hq;obtain⟨g6,g7,g8⟩:=hq;simp only[if_true];simp[g6,g7,g8];rw[B4 (by simp) (by omega)];simp only[wQ,zq];rw[← hnl,yj (f:=aE.enc) (l:=Dp b m s aR) (by decide) (fun _=>rfl) (fun x=>by simp) hσ (by simp)];simp only[List.set_cons_succ,List.set_cons_zero];rw[← hyl,yj (f:=aE.enc) (l:=eH b s aR) (by decide) (fun _=>rfl) (fun x=>by simp) hσ (by simp)];rw[jx (by simp) (by omega)];exact⟨_,rfl⟩
def yy(s:List Rock.aE):List D:=[.aI s.length (s.flatMap aE.enc)]
theorem QB(l:List (List Rock.aE)):(l.flatMap yy).length=l.length:=by
 have:=bT (f:=yy) (w:=1) (fun _=>rfl) l;omega
theorem Sv.next{b:cz}{m:cI}{s:List Rock.aE}{aR:List Int}(h:Bv b){s' y:List Rock.aE}(ht:tick b m s aR=some (s',y)):Sv b s':=by
 unfold tick at ht;split at ht
 ·rename_i hc;simp only[ae,ak]at ht;obtain⟨rfl,_⟩:=ht;exact(Sv.of h).1 hc
 ·cases ht
theorem aeI{n:Nat}(h:n≤1000000):n*24≤room:=by unfold room;omega
theorem IE(l:List (List Rock.aE)):D.bg (l.flatMap yy)=true:=dX (fun x=>by simp[yy,D.clean,G5]) l
def aso(b:cz)(m:cI)(σ:SK)(r:Option (List (List Rock.aE)×List (List Rock.aE)))(x:Abs.Exit)(e:Env)(σ':SK):Prop:=match r with
 |some (ss,ys)=>∃v u,x=.exit 0∧get e 4=.own 0 [.sl σ.length 2 v 0 ss.length 1,.sl σ.length 1 u 0 ys.length 1]∧σ'=[.cells 0 [],.cells u (ys.flatMap yy),.cells v (ss.flatMap yy)]::σ
 |none=>x=.fY (.uj 262 (.agg []))∧∃bw,σ'=bw::σ
theorem Ta{b:cz}{m:cI}{az:List (List Int)}(h:Fv b m)(hp:az.length≤200)(hr:∀r∈az,Rv b r):∀(k i v u:Nat) (ss ys:List (List Rock.aE)) (s:List Rock.aE),i+k=az.length→ss.length=i+1→ys.length=i→ss[i]?=some s→Sv b s →
  WL T [2,4,14,15,16] false mA [(2,.bD [.int .i64 b.f.x,.int .i64 b.f.y,.int .i64 b.f.z,.int .i64 b.f.k,.aI b.cq.length (b.cq.flatMap Rw.enc),.int .i64 b.bJ,.int .i64 b.lift,.int .i64 b.deep,.aI b.ar.length (b.ar.flatMap bH.enc),.str m.name,.aI m.bh.length (m.bh.flatMap aS)]),(4,.own 0 [.sl σ.length 2 v 0 (i+1) 1,.sl σ.length 1 u 0 i 1]),(14,.aI az.length (az.flatMap F7)),(15,.int .i64 az.length),(16,.int .i64 i)]
   ([.cells 0 [],.cells u (ys.flatMap yy),.cells v (ss.flatMap yy)]::σ) (aso b m σ (vu b m ss ys s (az.drop i)))
 |0,i,v,u,ss,ys,s,hi,h1,h2,h3,hs=>by
  refine aN mA.eq_1 ?_;obtain rfl:i=az.length:=by omega
  have h5:az.drop az.length=[]:=aB (by omega);simp[-length_flatMap,-map_take,h5,vu,aso];exact⟨v,u,by simp[h1,h2]⟩
 |k+1,i,v,u,ss,ys,s,hi,h1,h2,h3,hs=>by
  refine aN mA.eq_1 ?_;have hlt:i<az.length:=by omega
  have hii:(i:Int)<i+1:=by omega
  obtain⟨r,hx⟩:=gE hlt;have h4:=gD hlt (by omega);have h5:=cY hx;have a1:=bS (f:=F7) (w:=1) (fun _=>rfl) hx;simp only[F7,ea]at a1;have a2:=xn (f:=yy) (w:=1) (fun _=>rfl) h3;simp only[yy,ea,dH]at a2;have hT:=fun σ hσ=>anl (σ:=σ) h hs (hr r (ai hx)) hσ
  rw[h5,vu];unfold ae9 at hT;cases ht:tick b m s r with
  |none =>
   rw[ht]at hT;simp only at hT;simp[-length_flatMap,-map_take,hlt,hii,h4,a1,a2,hT,F7,aso]
  |some p =>
   obtain⟨s',y⟩:=p;rw[ht]at hT;simp only at hT;have ih:=Ta h hp hr k (i+1) (v+1) (u+1) (ss++[s']) (ys++[y]) s' (by omega) (by simp[h1]) (by simp[h2]) (by simp[← h1]) (Sv.next h.bv ht);have l1:=QB ss;have l2:=QB ys;rw[h1]at l1;rw[h2]at l2;have f1:(ss.flatMap yy).take (i+1)=ss.flatMap yy:=aj (by omega);have f2:(ys.flatMap yy).take i=ys.flatMap yy:=aj (by omega);have h7:=aeI (n:=i+1) (by omega);have h8:=aeI (n:=i+1+1) (by omega);simp[-length_flatMap,-map_take,hlt,hii,h4,a1,a2,hT,F7,f1,f2,l1,l2,h7,h8];exact WL.to ih (by simp) (by simp[yy]) fun x e σ hh=>hh
theorem NW{b:cz}{m:cI}{az:List (List Int)}(h:Fv b m)(hp:az.length≤200)(hr:∀r∈az,Rv b r)(hσ:σ≠[]){ss ys:List (List Rock.aE)}(hrun:Rock.run b m az=some (ss,ys)):
  lim T (.call false iI [.agg [.int .i64 b.f.x,.int .i64 b.f.y,.int .i64 b.f.z,.int .i64 b.f.k,.aI b.cq.length (b.cq.flatMap Rw.enc),.int .i64 b.bJ,.int .i64 b.lift,.int .i64 b.deep,.aI b.ar.length (b.ar.flatMap bH.enc),.str m.name,.aI m.bh.length (m.bh.flatMap aS)],.aI az.length (az.flatMap F7)] σ)=some (.val (.agg [.aI ss.length (ss.flatMap yy),.aI ys.length (ys.flatMap yy)]) σ):=by
 refine aA xP nc.eq_1 rfl ?_;have hf:=fun σ hσ=>Es (σ:=σ) h hσ
 simp only[Sk]at hf;simp[-length_flatMap,-map_take,hf,cK,bu,aY];refine WL.to (Ta (σ:=σ) h hp hr az.length 0 0 0 [dV b m] [] (dV b m) (by omega) rfl rfl rfl (Sv.first h)) (by simp) (by simp[yy]) ?_;rw[aP,show vu b m [dV b m] [] (dV b m) az=some (ss,ys)from hrun];rintro x e σ' ⟨v,u,rfl,g4,rfl⟩;simp[-length_flatMap,-map_take,g4];have c1:∀x:List Rock.aE,D.bg (yy x)=true:=fun x=>by simp[yy,D.clean,G5]
 rw[PW (by simp) (by omega)];simp only[wQ,zq];rw[yj (f:=yy) (w:=1) (l:=ss) (by decide) (fun _=>rfl) c1 hσ (by simp)];simp only[List.set_cons_succ,List.set_cons_zero];rw[yj (f:=yy) (w:=1) (l:=ys) (by decide) (fun _=>rfl) c1 hσ (by simp)];exact⟨_,rfl⟩
theorem NV{b:cz}{m:cI}{az:List (List Int)}(h:Fv b m)(hp:az.length≤200)(hr:∀r∈az,Rv b r)(hrun:Rock.run b m az=none):
  lim T (.call false iI [.agg [.int .i64 b.f.x,.int .i64 b.f.y,.int .i64 b.f.z,.int .i64 b.f.k,.aI b.cq.length (b.cq.flatMap Rw.enc),.int .i64 b.bJ,.int .i64 b.lift,.int .i64 b.deep,.aI b.ar.length (b.ar.flatMap bH.enc),.str m.name,.aI m.bh.length (m.bh.flatMap aS)],.aI az.length (az.flatMap F7)] σ)=some (.fY (.uj 262 (.agg [])) σ):=by
 refine eh xP nc.eq_1 rfl ?_;have hf:=fun σ hσ=>Es (σ:=σ) h hσ
 simp only[Sk]at hf;simp[-length_flatMap,-map_take,hf,cK,bu,aY];refine WL.to (Ta (σ:=σ) h hp hr az.length 0 0 0 [dV b m] [] (dV b m) (by omega) rfl rfl rfl (Sv.first h)) (by simp) (by simp[yy]) ?_;rw[aP,show vu b m [dV b m] [] (dV b m) az=none from hrun];rintro x e σ' ⟨rfl,bw,rfl⟩;simp[D.clean]
end Go.Proofs.YtfgljaglidhjiaaGreatDoor
