import Derived.Test.YtklfdfnoebnciaaGreatDoorTxt0
set_option linter.all false
namespace Go.Proofs.YtklfdfnoebnciaaGreatDoor
open List(length_flatMap map_take)
open Go Go.Abs Go.Rock
variable {σ:SK}
theorem aG.I2{x:Rock.aG}:x.valid=true↔(1≤x.m∧x.m≤1000000)∧(0≤x.h∧x.h≤10000000000)∧(0≤x.k∧x.k≤1000000000000):=by
 simp[Rock.aG.valid,bT]
structure Sv(b:cf)(s:List Rock.aG):Prop where
 len:s.length=b.n
 ok:∀x∈s,x.valid=true
theorem Sv.of{b:cf}{s:List Rock.aG}(h:Bv b):xN b s=true↔Sv b s:=by
 have hs:=h.sz;have hn:=h.n;unfold xN;simp only[ae,ao];constructor
 ·rintro⟨h1,h2⟩;exact⟨by unfold cf.size at h1;omega,jv.1 h2⟩
 ·rintro⟨h1,h2⟩;exact⟨by unfold cf.size;omega,jv.2 h2⟩
theorem Sv.at{b:cf}{s:List Rock.aG}(h:Sv b s){i:Nat}(hi:i<b.n):s[i]?=some (bM s i)∧(1≤(bM s i).m∧(bM s i).m≤1000000)∧(0≤(bM s i).h∧(bM s i).h≤10000000000)∧(0≤(bM s i).k∧(bM s i).k≤1000000000000):=by
 have h1:i<s.length:=by have:=h.len;omega
 have h2:s[i]?=some (bM s i):=by simp[bM,h1]
 exact⟨h2,aG.I2.1 (h.ok _ (ai h2))⟩
theorem Sv.first{b:cf}{m:cF}(h:Fv b m):Sv b (dA b m):=by
 refine⟨Bg,fun x hx=>?_⟩;simp only[dA,bN,List.mem_range]at hx;obtain⟨i,hi,rfl⟩:=hx;have b1:=h.hold i hi;have b2:=h.Hr i hi;have b3:=n0 (by omega:0≤hold b m i) b1.2 b2.1 b2.2;exact aG.I2.2 ⟨⟨by simp only;omega,by simp only;omega⟩,⟨b3.1,by simp only;omega⟩,by simp⟩
theorem aaP{r:Rw}(h:r.alone=true):(1≤r.p∧r.p≤10000)∧(0≤r.l∧r.l≤4000):=by
 simp only[Rw.alone,ae]at h;exact⟨aR.1 h.2.1,aR.1 h.2.2.1⟩
theorem MM{s:List Rock.aG}{i:Nat}{x:Rock.aG}{t:List Rw}(hx:s[i]?=some x)(hm:0≤x.m∧x.m≤1000000)(ht:∀r∈t,r.alone=true)(hl:t.length≤1000):∀(n j:Nat) (o:Int),j+n=t.length →
  WL T [1,2,7,34,35,36] false iG [(1,.aE s.length (s.flatMap aG.enc)),(2,.int .i64 i),(7,.int .i64 o),(34,.aE t.length (t.flatMap Rw.enc)),(35,.int .i64 t.length),(36,.int .i64 j)] σ
   (fun x' e σ'=>σ'=σ∧x'=.exit 0∧get e 7=.int .i64 ((t.drop j).foldl (pk x) o))
 |0,j,o,hj=>by
  refine aH iG.eq_1 ?_;have h1:¬j<t.length:=by omega
  have h2:t.drop j=[]:=az (by omega);simp[-length_flatMap,-map_take,h1,h2]
 |n+1,j,o,hj=>by
  refine aH iG.eq_1 ?_;have h1:j<t.length:=by omega
  obtain⟨r,hr⟩:=gE h1;have hrb:=aaP (ht r (ai hr));have h2:=cj (f:=Rw.enc) (w:=5) (fun _=>rfl) hr;have h3:=cj (f:=aG.enc) (w:=3) (fun _=>rfl) hx;have h4:=ga h1 (by omega);have h5:=dh hr;have hi:i<s.length:=(aw.1 hx).1;have b1:=n0 hrb.2.1 hrb.2.2 hm.1 hm.2;have w1:=fK (n:=r.l*x.m) (by omega);have ih:=MM hx hm ht hl n (j+1) (pk x o r) (by omega);rw[h5];simp only[List.foldl_cons];by_cases hc:r.l*x.m≤x.h
  ·have hm2:(if o<r.p then r.p else o)=pk x o r:=by unfold pk;rw[if_pos hc];omega
   simp[-length_flatMap,-map_take,h1,h2,h3,h4,hi,w1,hc];refine WL.to ih (by simp[pk,hc]) rfl fun x e σ hh=>hh
  ·simp[-length_flatMap,-map_take,h1,h2,h3,h4,hi,w1,hc];refine WL.to ih (by simp[pk,hc]) rfl fun x e σ hh=>hh
theorem Fy{b:cf}{m:cF}{s:List Rock.aG}(h:Fv b m)(hs:Sv b s){i:Nat}(hi:i<b.n):
  lim T (.call false fm [.agg [.int .i64 b.f.x,.int .i64 b.f.y,.int .i64 b.f.z,.int .i64 b.f.k,.aE b.cc.length (b.cc.flatMap Rw.enc),.int .i64 b.bD,.int .i64 b.lift,.int .i64 b.deep,.aE b.ak.length (b.ak.flatMap bB.enc),.str m.name,.aE m.bf.length (m.bf.flatMap aU)],.aE s.length (s.flatMap aG.enc),.int .i64 i] σ)=some (.val (.int .i64 (kr b m s i)) σ):=by
 refine au za kH.eq_1 rfl ?_;have hw:=fun σ=>FA (σ:=σ) (m:=m) h.bv hi
 have ho:=fun σ=>Qe (σ:=σ) h.toMv hi
 have b1:=h.hold i hi;obtain⟨hx,b2,b3,b4⟩:=hs.at hi;have hil:i<s.length:=by have:=hs.len;omega
 have hst:=h.bv.bD;have b5:=AY h.bv hi;have b6 : -100000000000≤b.bD*((bM s i).m-hold b m i)∧b.bD*((bM s i).m-hold b m i)≤100000000000:=by
  rcases mj (hold b m i) (bM s i).m with hh | hh
  ·have:=n0 (a:=b.bD) (b:=(bM s i).m-hold b m i) (A:=100000) (B:=1000000) (by omega) hst.2 (by omega) (by omega);omega
  ·have:=n0 (a:=b.bD) (b:=hold b m i-(bM s i).m) (A:=100000) (B:=1000000) (by omega) hst.2 (by omega) (by omega);have e:b.bD*((bM s i).m-hold b m i) = - (b.bD*(hold b m i-(bM s i).m)):=by rw[← Int.mul_neg];congr 1;omega
   omega
 have hd:=fun σ=>ajX (σ:=σ) (n:=b.bD*((bM s i).m-hold b m i)) (d:=hold b m i) (by omega) (by omega)
 have b7 : -100000000000≤down (b.bD*((bM s i).m-hold b m i)) (hold b m i)∧down (b.bD*((bM s i).m-hold b m i)) (hold b m i)≤100000000000:=by
  unfold down;constructor
  ·rw[Int.le_ediv_iff_mul_le (by omega)];omega
  ·have:=Int.ediv_le_self (b:=hold b m i) (a:=b.bD*((bM s i).m-hold b m i));rcases mj 0 (b.bD*((bM s i).m-hold b m i))with hh | hh
   ·have:=this hh;omega
   ·have:=Int.ediv_le_of_le_mul (b:=0) (show 0<hold b m i by omega) (by omega:b.bD*((bM s i).m-hold b m i)≤0*hold b m i);omega
 have w1:=fK (n:=(bM s i).m-hold b m i) (by omega);have w2:=fK (n:=b.bD*((bM s i).m-hold b m i)) (by omega);have w3:=fK (n:=weight b i+down (b.bD*((bM s i).m-hold b m i)) (hold b m i)) (by omega);have h3:=cj (f:=aG.enc) (w:=3) (fun _=>rfl) hx;have htab:=h.bv.cc;simp only[j1,ae]at htab;have ht:=aR.1 htab.1;simp[-length_flatMap,-map_take,hw,ho,hil,h3,w1,w2,hd,w3];refine WL.to (MM (σ:=[]::σ) hx ⟨by omega,by omega⟩ (jv.1 htab.2.1) (by omega) b.cc.length 0 (max 0 (weight b i+down (b.bD*((bM s i).m-hold b m i)) (hold b m i))) (by omega)) (by simp) rfl ?_;rintro x e σ' ⟨rfl,rfl,g⟩;simp[-length_flatMap,-map_take,g,kr]
theorem I6{b:cf}{m:cF}{s:List Rock.aG}:(bP b m s).length=s.length:=by simp[bP]
theorem NT(l:List Int):(l.flatMap aU).length=l.length:=by
 have:=b9 (f:=aU) (w:=1) (fun _=>rfl) l;omega
theorem EC{b:cf}{m:cF}{s:List Rock.aG}(h:Fv b m)(hs:Sv b s):∀(n i v:Nat),i+n=s.length →
  WL T [1,2,4,7,8] false gL [(1,.aE s.length (s.flatMap aG.enc)),(2,.bw [.int .i64 b.f.x,.int .i64 b.f.y,.int .i64 b.f.z,.int .i64 b.f.k,.aE b.cc.length (b.cc.flatMap Rw.enc),.int .i64 b.bD,.int .i64 b.lift,.int .i64 b.deep,.aE b.ak.length (b.ak.flatMap bB.enc),.str m.name,.aE m.bf.length (m.bf.flatMap aU)]),(4,.sl σ.length 0 v 0 i 1),(7,.int .i64 s.length),(8,.int .i64 i)] ([.cells v (((bP b m s).take i).flatMap aU)]::σ)
   (fun x e σ'=>x=.exit 0∧get e 4=.sl σ.length 0 (v+n) 0 (bP b m s).length 1∧σ'=[.cells (v+n) ((bP b m s).flatMap aU)]::σ)
 |0,i,v,hi=>by
  refine aH gL.eq_1 ?_;have h1:¬i<s.length:=by omega
  have h3:(bP b m s).take i=bP b m s:=ah (by rw[I6];omega);simp[-length_flatMap,-map_take,h1,h3,I6];omega
 |n+1,i,v,hi=>by
  refine aH gL.eq_1 ?_;have h1:i<s.length:=by omega
  have hn:=h.bv.n;have hl:=hs.len;have h4:=ga h1 (by omega);have hp:=fun σ=>Fy (σ:=σ) h hs (i:=i) (by omega)
  have ih:=EC h hs n (i+1) (v+1) (by omega);have hx:(bP b m s)[i]?=some (kr b m s i):=by simp[bP,h1]
  have a3:=Bh (f:=aU) hx;have a4:=NT ((bP b m s).take i);rw[kT,I6,Nat.min_eq_left (by omega)]at a4;have a6:(((bP b m s).take i).flatMap aU).take i=((bP b m s).take i).flatMap aU:=ah (by omega);have h7:(i+1)*8≤room:=by unfold room;omega
  simp[-length_flatMap,-map_take,h1,h4,hp,a4,a6,h7,cq,bg,bj];refine WL.to ih (by simp[cq,bg,bj]) (by simp[← a3]) fun x e σ hh=>by simpa[ea,Nat.add_comm 1 n]using hh
theorem JG{b:cf}{m:cF}{s:List Rock.aG}(h:Fv b m)(hs:Sv b s)(hσ:σ≠[]):lim T (.call false gA [.agg [.int .i64 b.f.x,.int .i64 b.f.y,.int .i64 b.f.z,.int .i64 b.f.k,.aE b.cc.length (b.cc.flatMap Rw.enc),.int .i64 b.bD,.int .i64 b.lift,.int .i64 b.deep,.aE b.ak.length (b.ak.flatMap bB.enc),.str m.name,.aE m.bf.length (m.bf.flatMap aU)],.aE s.length (s.flatMap aG.enc)] σ)=some (.val (.aE (bP b m s).length ((bP b m s).flatMap aU)) σ):=by
 refine au yB jR.eq_1 rfl ?_;simp[-length_flatMap,-map_take,cq,bg,bj];refine WL.to (EC (σ:=σ) h hs s.length 0 0 (by omega)) (by simp) (by simp) ?_;rintro x e σ' ⟨rfl,g4,rfl⟩;simp[-length_flatMap,-map_take,g4];rw[zU (f:=aU) (by decide) (fun _=>rfl) (fun x=>by simp) hσ (by simp)];simp
theorem Le{x:Rock.aG}:lim T (.call false iZ [.agg x.enc] σ)=some (.val (.bool x.valid) σ):=by
 refine au Cj oA.eq_1 rfl ?_;cases hc1:bT x.m 1 1000000
 ·simp[-length_flatMap,-map_take,dp,Rock.aG.valid,hc1]
 cases hc2:bT x.h 0 10000000000
 ·simp[-length_flatMap,-map_take,dp,Rock.aG.valid,hc1,hc2]
 cases hc3:bT x.k 0 1000000000000
 ·simp[-length_flatMap,-map_take,dp,Rock.aG.valid,hc1,hc2,hc3]
 simp[-length_flatMap,-map_take,dp,Rock.aG.valid,hc1,hc2,hc3]
theorem H6{x q m A:Int}(hm:1≤m)(hx:0≤x∧x≤A)(hq:0≤q∧q≤m):0≤(x*q).tdiv m∧(x*q).tdiv m≤A:=by
 have h1:=dS hx.1 hq.1;rw[ba h1];refine⟨Int.ediv_nonneg h1 (by omega),Int.ediv_le_of_le_mul (by omega) ?_⟩;exact la hx.2 hq.2 hq.1 (by omega)
theorem Qm{x:Rock.aG}{q:Int}(hm:1≤x.m∧x.m≤1000000)(hh:0≤x.h∧x.h≤10000000000)(hk:0≤x.k∧x.k≤1000000000000)(hq:0≤q∧q≤x.m):
  lim T (.call false kY [.agg x.enc,.int .i64 q] σ)=some (.val (.agg (x.out q).enc) σ):=by
 refine au DT rj.eq_1 rfl ?_;have b1:=n0 hh.1 hh.2 hq.1 (show q≤1000000 by omega);have b2:=n0 hk.1 hk.2 hq.1 (show q≤1000000 by omega);have b3:=H6 hm.1 hh hq;have b4:=H6 hm.1 hk hq;have w1:=fK (n:=x.h*q) (by omega);have w2:=fK (n:=x.k*q) (by omega);have w3:=fK (n:=(x.h*q).tdiv x.m) (by omega);have w4:=fK (n:=(x.k*q).tdiv x.m) (by omega);have hne:¬x.m=0:=by omega
 simp[-length_flatMap,-map_take,w1,w2,w3,w4,hne,Rock.aG.out]
def sm(x:Rock.aG)(n:Int):Prop:=(-n≤x.m∧x.m≤n)∧(-n≤x.h∧x.h≤n)∧(-n≤x.k∧x.k≤n)
theorem Fx{F:List Abs.aG}{j v i:Nat}{s:List Rock.aG}{x o:Rock.aG}{sign:Int}(hF:F[j]?=some (.cells v (s.flatMap aG.enc)))(hx:s[i]?=some x)(h1:sm x 1000000000000000000)(h2:sm o 1000000000000000000)(hs:sign=1∨sign = -1):
  lim T (.call false bV [.ref σ.length j v (i*3),.agg o.enc,.int .i64 sign] (F::σ))=some (.val (.dQ []) (F.set j (.cells v ((gY s i o sign).flatMap aG.enc))::σ)):=by
 refine fU CU pD.eq_1 rfl (by simp) ?_;obtain⟨a1,a2,a3⟩:=h1;obtain⟨c1,c2,c3⟩:=h2;have hi:i<s.length:=(aw.1 hx).1;obtain⟨A,B,hA,hAB⟩:∃A B:List D,A.length=i*3∧s.flatMap aG.enc=A++(x.enc++B):=by
  have hd:=zt (f:=aG.enc) (w:=3) (fun _=>rfl) hx;have hlen:=Ff s;refine⟨(s.flatMap aG.enc).take (i*3),(s.flatMap aG.enc).drop (i*3+3),by rw[kT];omega,?_⟩;rw[← hd,List.take_append_drop]
 have hset:(gY s i o sign).flatMap aG.enc=A++((x.move o sign).enc++B):=by
  have h3:=NU (f:=aG.enc) (w:=3) (fun _=>rfl) (x:=x.move o sign) hi;have hblk:bM s i=x:=by simp[bM,hx]
  rw[gY,hblk,← h3,hAB];have e1:(A++(x.enc++B)).take (i*3)=A:=by rw[← hA];simp
  have e2:(A++(x.enc++B)).drop (i*3+3)=B:=by
   rw[← fQ,← hA];simp
  rw[e1,e2]
 rw[hAB]at hF;rw[hset];have hj:j<F.length:=(aw.1 hF).1;have gs:∀X:Abs.aG,(F.set j X)[j]?=some X:=fun X=>by simp[hj]
 clear hset hAB hx hj;have t1:∀L:List D,(A++L).take (A.length+1)=A++L.take 1:=fun L=>by rw[List.take_length_add_append]
 have t2:∀L:List D,(A++L).take (A.length+1+1)=A++L.take 2:=fun L=>by rw[ea,List.take_length_add_append]
 have d2:∀L:List D,(A++L).drop (A.length+1+1)=L.drop 2:=fun L=>by rw[ea,cC]
 have d1:∀L:List D,(A++L).drop (A.length+1)=L.drop 1:=fun L=>by rw[cC]
 have d3:∀L:List D,(A++L).drop (A.length+1+1+1)=L.drop 3:=fun L=>by rw[ea,ea,cC]
 have k1:A.length+1+1≤A.length+(B.length+1+1+1):=by omega
 have k2:A.length+1+1+1≤A.length+(B.length+1+1+1):=by omega
 have k3:A.length+1≤A.length+(B.length+1+1+1):=by omega
 have k4:A.length+2+1≤A.length+(B.length+1+1+1):=by omega
 have d4:∀L:List D,(A++L).drop (A.length+2)=L.drop 2:=fun L=>by rw[cC]
 have d5:∀L:List D,(A++L).drop (A.length+2+1)=L.drop 3:=fun L=>by rw[ea,cC]
 have t4:∀L:List D,(A++L).take (A.length+2)=A++L.take 2:=fun L=>by rw[List.take_length_add_append]
 have y1:=fK (n:=o.m) (by omega);have y2:=fK (n:=o.h) (by omega);have y3:=fK (n:=o.k) (by omega);have y4:=fK (n := -o.m) (by omega);have y5:=fK (n := -o.h) (by omega);have y6:=fK (n := -o.k) (by omega);rcases hs with rfl | rfl
 ·have w1:=fK (n:=x.m+o.m) (by omega);have w2:=fK (n:=x.h+o.h) (by omega);have w3:=fK (n:=x.k+o.k) (by omega);simp[-length_flatMap,-map_take,hF,gs,← hA,w1,w2,w3,y1,y2,y3,t1,t2,t4,d1,d2,d3,d4,d5,k1,k2,k3,k4,Rock.aG.move]
 ·have w1:=fK (n:=x.m + -o.m) (by omega);have w2:=fK (n:=x.h + -o.h) (by omega);have w3:=fK (n:=x.k + -o.k) (by omega);simp[-length_flatMap,-map_take,hF,gs,← hA,w1,w2,w3,y4,y5,y6,t1,t2,t4,d1,d2,d3,d4,d5,k1,k2,k3,k4,Rock.aG.move]
theorem abG{w:bB}{r:Int}(hr : -100000≤r∧r≤100000)(h1:0≤w.h∧w.h≤3000)(h2:0≤w.m∧w.m≤1000000):
  lim T (.call false mN [.agg w.enc,.int .i64 r] σ)=some (.val (.agg (w.given r).enc) σ):=by
 refine au CV pF.eq_1 rfl ?_;have b1 : -300000000≤r*w.h∧r*w.h≤300000000:=by
  rcases mj 0 r with h | h
  ·have:=n0 h hr.2 h1.1 h1.2;omega
  ·have:=n0 (a := -r) (A:=100000) (by omega) (by omega) h1.1 h1.2;rw[Int.neg_mul]at this;omega
 have b2 : -100000000000≤r*w.m∧r*w.m≤100000000000:=by
  rcases mj 0 r with h | h
  ·have:=n0 h hr.2 h2.1 h2.2;omega
  ·have:=n0 (a := -r) (A:=100000) (by omega) (by omega) h2.1 h2.2;rw[Int.neg_mul]at this;omega
 have w1:=fK (n := -r) (by omega);have w2:=fK (n := -(r*w.h)) (by omega);have w3:=fK (n := -(r*w.m)) (by omega);simp[-length_flatMap,-map_take,w1,w2,w3,bB.given,Int.neg_mul]
theorem apK{b:cf}{m:cF}(h:Fv b m){i:Nat}(hi:i<b.n):lim T (.call false mP [.agg [.int .i64 b.f.x,.int .i64 b.f.y,.int .i64 b.f.z,.int .i64 b.f.k,.aE b.cc.length (b.cc.flatMap Rw.enc),.int .i64 b.bD,.int .i64 b.lift,.int .i64 b.deep,.aE b.ak.length (b.ak.flatMap bB.enc),.str m.name,.aE m.bf.length (m.bf.flatMap aU)],.int .i64 i] σ)=some (.val (.agg (LK b m i).enc) σ):=by
 refine au CZ pI.eq_1 rfl ?_;have hf:=fun σ=>ajZ (σ:=σ) h.toMv hi
 have b1:=h.feed i hi;have b2:=h.bv.deep;have b3:=n0 b1.1 b1.2 b2.1 b2.2;have w1:=fK (n:=feed b m i*b.deep) (by omega);simp[-length_flatMap,-map_take,hf,w1,LK]
theorem abA{s:List Rock.aG}{bs:List Abs.aG}(hl:s.length≤1000000)(hne:s≠[]):lim T (.call true ct [.aE s.length (s.flatMap aG.enc)] (bs::σ)) =
  some (.val (.sl σ.length (bs.length+1) 1 0 s.length 3) ((bs++[.cells 0 [],.cells 1 (s.flatMap aG.enc)])::σ)):=by
 refine vR rG dn.eq_1 rfl ?_;have h7:s.length*24≤room:=by unfold room;omega
 simp[-length_flatMap,-map_take,hne,Ff,h7]
theorem abJ{b:cf}:lim T (.call false nS [.agg [.int .i64 b.f.x,.int .i64 b.f.y,.int .i64 b.f.z,.int .i64 b.f.k,.aE b.cc.length (b.cc.flatMap Rw.enc),.int .i64 b.bD,.int .i64 b.lift,.int .i64 b.deep,.aE b.ak.length (b.ak.flatMap bB.enc)]] σ)=some (.val (.fn iW [] [.bw [.int .i64 b.f.x,.int .i64 b.f.y,.int .i64 b.f.z,.int .i64 b.f.k,.aE b.cc.length (b.cc.flatMap Rw.enc),.int .i64 b.bD,.int .i64 b.lift,.int .i64 b.deep,.aE b.ak.length (b.ak.flatMap bB.enc)]]) σ):=by
 refine au DQ q7.eq_1 rfl ?_;simp[-length_flatMap,-map_take,cq,bg,bj]
theorem Bv.xy{b:cf}(h:Bv b):b.f.x=(b.f.x.toNat:Int)∧b.f.y=(b.f.y.toNat:Int)∧1≤b.f.x.toNat*b.f.y.toNat∧b.f.x.toNat*b.f.y.toNat≤64:=by
 have hx:=h.x;have hy:=h.y;obtain⟨s1,_⟩:=fw.sz h.x h.y h.z;have e1:b.f.x*b.f.y=((b.f.x.toNat*b.f.y.toNat:Nat):Int):=by push_cast;rw[fy (by omega),fy (by omega)]
 rw[e1]at s1;refine⟨by omega,by omega,by omega,by omega⟩
theorem Bv.nat{b:cf}(h:Bv b):b.n=b.f.x.toNat*b.f.y.toNat*b.f.z.toNat∧1≤b.f.x.toNat∧1≤b.f.y.toNat:=by
 have hx:=h.x;have hy:=h.y;have hz:=h.z;have hs:=h.sz;refine⟨?_,by omega,by omega⟩;have:((b.f.x.toNat*b.f.y.toNat*b.f.z.toNat:Nat):Int)=b.f.size:=by
  push_cast;rw[fy (by omega),fy (by omega),fy (by omega)];rfl
 omega
theorem ajo{X W i n:Nat}(hn:n=X*W)(hi:i<n)(hc:(i+1)%X≠0):i+1<n:=by
 rcases Nat.lt_or_ge (i+1) n with h | h
 ·exact h
 ·have:i+1=X*W:=by omega
  rw[this,Nat.mul_mod_right]at hc;exact absurd rfl hc
theorem link2{X Y Z i n:Nat}(hX:1≤X)(hY:1≤Y)(hn:n=X*Y*Z)(hi:i<n)(hc:i / X%Y≠Y-1):i+X<n:=by
 have h1:i / X<Y*Z:=by rw[Nat.div_lt_iff_lt_mul hX,Nat.mul_comm,← Nat.mul_assoc];omega
 have h2:i / X+1<Y*Z:=by
  rcases Nat.lt_or_ge (i / X+1) (Y*Z)with h | h
  ·exact h
  ·exfalso
   have h3:i / X+1=Y*Z:=by omega
   have hZ:1≤Z:=by
    rcases Nat.eq_zero_or_pos Z with h0 | h0
    ·subst h0;omega
    ·exact h0
   have h4:i / X=Y*(Z-1)+(Y-1):=by
    have:Y*Z=Y*(Z-1)+Y:=by rw[← Nat.mul_succ];congr 1;omega
    omega
   rw[h4,Nat.mul_add_mod,Nat.mod_eq_of_lt (by omega)]at hc;exact hc rfl
 have h3:i<(i / X+1)*X:=by
  have:=Nat.div_add_mod i X;have h4:=Nat.mod_lt i (show X>0 by omega);rw[iu,Nat.one_mul,Nat.mul_comm (i / X) X];omega
 have h5:(i / X+1)*X+X≤n:=by
  have:(i / X+1+1)*X≤Y*Z*X:=cH _ h2;rw[iu (i / X+1) 1 X,Nat.one_mul,Nat.mul_comm (Y*Z) X,← Nat.mul_assoc]at this;omega
 omega
theorem MK{b:cf}(h:Bv b){lv j N:Nat}{St:List (Nat×Nat)→SK}(hN:∀pre,(St pre).length=N)
  (hR:∀pre,∀l:Nat×Nat,l.1<b.n→l.2<b.n→l.1≠l.2→lim T (.round lv j [.agg [.int .i64 l.1,.int .i64 l.2]] ([]::St pre))=some (.val (.bool true) ([]::St (pre++[l])))):∀(n i:Nat) (pre:List (Nat×Nat)),i+n=b.n →
  WL T [0,1,3,4,13,14] false lT [(0,.mf lv j),(1,.bw [.int .i64 b.f.x,.int .i64 b.f.y,.int .i64 b.f.z,.int .i64 b.f.k,.aE b.cc.length (b.cc.flatMap Rw.enc),.int .i64 b.bD,.int .i64 b.lift,.int .i64 b.deep,.aE b.ak.length (b.ak.flatMap bB.enc)]),(3,.int .i64 b.f.x),(4,.int .i64 b.f.y),(13,.int .i64 b.n),(14,.int .i64 i)] ([]::St pre)
   (fun x e σ'=>σ'=[]::St (pre++((List.range b.n).drop i).flatMap (xF b))∧x=.exit 0)
 |0,i,pre,hi=>by
  refine aH lT.eq_1 ?_;have h1:¬i<b.n:=by omega
  have h2:(List.range b.n).drop i=[]:=az (by simp;omega);simp[-length_flatMap,-map_take,h1,h2]
 |n+1,i,pre,hi=>by
  refine aH lT.eq_1 ?_;have h1:i<b.n:=by omega
  have hn:=h.n;have hx:=h.x;have hy:=h.y;obtain⟨eX,eY,p1,p2⟩:=h.xy;have h4:=ga h1 (by omega);have hs:=fun σ=>yu (σ:=σ) h
  have h5:(List.range b.n).drop i=i::(List.range b.n).drop (i+1):=dh (by simp[h1]);have w1:=fK (n:=b.f.x*b.f.y) (by rw[eX,eY];omega);obtain⟨hnn,X1,Y1⟩:=h.nat;have hx0:¬b.f.x=0:=by omega
  have hy0:¬b.f.y=0:=by omega
  have ih:=fun pre=>MK h hN hR n (i+1) pre (by omega)
  have e1:((i:Int)+1).tmod b.f.x=(((i+1)%b.f.x.toNat:Nat):Int):=by
   conv=>lhs;rw[eX]
   rfl
  have e2:(i:Int) / b.f.x=((i / b.f.x.toNat:Nat):Int):=by
   conv=>lhs;rw[eX]
   rfl
  have e2b:(i:Int).tdiv b.f.x=((i / b.f.x.toNat:Nat):Int):=by
   conv=>lhs;rw[eX]
   rfl
  have e3:((i / b.f.x.toNat:Nat):Int).tmod b.f.y=((i / b.f.x.toNat%b.f.y.toNat:Nat):Int):=by
   conv=>lhs;rw[eY]
   rfl
  have e4:b.f.x*b.f.y=((b.f.x.toNat*b.f.y.toNat:Nat):Int):=by
   conv=>lhs;rw[eX,eY]
   rfl
  have hq:i / b.f.x.toNat≤i:=Nat.div_le_self _ _;have hr1:(i+1)%b.f.x.toNat≤i+1:=Nat.mod_le _ _;have hr2:i / b.f.x.toNat%b.f.y.toNat≤i / b.f.x.toNat:=Nat.mod_le _ _;have l1:=ajo (W:=b.f.y.toNat*b.f.z.toNat) (by rw[hnn,Nat.mul_assoc]) h1;have l2:=link2 (Z:=b.f.z.toNat) X1 Y1 hnn h1;have R1:=fun pre hc=>hR pre (i,i+1) h1 (l1 hc) (by simp)
  have R2:=fun pre hc=>hR pre (i,i+b.f.x.toNat) h1 (l2 hc) (by simp;omega)
  have R3:=fun pre hc=>hR pre (i,i+b.f.x.toNat*b.f.y.toNat) h1 hc (by simp;omega)
  have z2:((i+b.f.x.toNat:Nat):Int)=(i:Int)+b.f.x:=by omega
  have z3:((i+b.f.x.toNat*b.f.y.toNat:Nat):Int)=(i:Int)+b.f.x*b.f.y:=by rw[e4];omega
  have z1:((i+1:Nat):Int)=(i:Int)+1:=rfl;simp only[z1,z2,z3]at R1 R2 R3;generalize hA:i / b.f.x.toNat=A at *
  generalize hB:A%b.f.y.toNat=B at *
  generalize hC:(i+1)%b.f.x.toNat=C at *
  generalize hP:b.f.x.toNat*b.f.y.toNat=P at *
  have v1:=fK (n:=(A:Int)) (by omega);have v2:=fK (n:=(B:Int)) (by omega);have v3:=fK (n:=(C:Int)) (by omega);have v4:=fK (n:=b.f.y-1) (by omega);have v5:=fK (n:=(i:Int)+b.f.x) (by omega);have v6:=fK (n:=(i:Int)+b.f.x*b.f.y) (by rw[e4];omega);have v7:=fK (n:=b.f.x*b.f.y) (by rw[e4];omega);have c3:((i:Int)+b.f.x*b.f.y<(b.n:Int))↔(i+P<b.n):=by rw[e4];omega
  have hL:xF b i=(if C≠0 then [(i,i+1)]else [])++((if B≠b.f.y.toNat-1 then [(i,i+b.f.x.toNat)]else [])++(if i+P<b.n then [(i,i+P)]else [])):=by
   unfold xF;rw[hC,hA,hB,hP]
  rw[h5,aQ,hL];clear hL hnn l1 l2;have t1:((C:Int)=0)↔(C=0):=by omega
  have t2:((B:Int)=b.f.y-1)↔(B=b.f.y.toNat-1):=by omega
  by_cases k1:C=0<;>by_cases k2:B=b.f.y.toNat-1<;>by_cases k3:i+P<b.n;all_goals
   first | (have u1:=t1.2 k1) | (have u1:=mt t1.1 k1)
   first | (have u2:=t2.2 k2) | (have u2:=mt t2.1 k2)
   have ih':=ih (pre++((if C≠0 then [(i,i+1)]else [])++((if B≠b.f.y.toNat-1 then [(i,i+b.f.x.toNat)]else [])++(if i+P<b.n then [(i,i+P)]else []))));first
    |(rw[if_neg (not_not_intro k1)]at ih' ⊢) | (rw[if_pos k1]at ih' ⊢)
   first
    |(rw[if_neg (not_not_intro k2)]at ih' ⊢) | (rw[if_pos k2]at ih' ⊢)
   first
    |(rw[if_neg k3]at ih' ⊢) | (rw[if_pos k3]at ih' ⊢)
   have g1:=fun pre=>R1 pre
   have g2:=fun pre=>R2 pre
   have g3:=fun pre=>R3 pre
   first | (have g1:=fun pre=>R1 pre k1) | skip
   first | (have g2:=fun pre=>R2 pre k2) | skip
   first | (have g3:=fun pre=>R3 pre k3) | skip
   simp[-length_flatMap,-map_take,h1,h4,hx0,hy0,e1,e2,e2b,e3,v1,v2,v3,v4,v5,v6,v7,c3,u1,u2,k1,k3,hs,g1,g2,g3];refine WL.to ih' (by simp) (by simp) fun x e σ hh=>by simpa using hh
theorem Qg{b:cf}(h:Bv b){lv j N:Nat}{St:List (Nat×Nat)→SK}(hN:∀pre,(St pre).length=N)
  (hR:∀pre,∀l:Nat×Nat,l.1<b.n→l.2<b.n→l.1≠l.2→lim T (.round lv j [.agg [.int .i64 l.1,.int .i64 l.2]] ([]::St pre))=some (.val (.bool true) ([]::St (pre++[l])))):
  lim T (.call false iW [.mf lv j,.bw [.int .i64 b.f.x,.int .i64 b.f.y,.int .i64 b.f.z,.int .i64 b.f.k,.aE b.cc.length (b.cc.flatMap Rw.enc),.int .i64 b.bD,.int .i64 b.lift,.int .i64 b.deep,.aE b.ak.length (b.ak.flatMap bB.enc)]] (St []))=some (.val (.dQ []) (St (HY b))):=by
 refine fU Cf ou.eq_1 rfl (by rw[hN,hN]) ?_;have hs:=fun σ=>yu (σ:=σ) h
 simp[-length_flatMap,-map_take,hs];refine WL.to (MK h hN hR b.n 0 [] (by omega)) (by simp) rfl ?_;rintro x e σ' ⟨rfl,rfl⟩;simp[-length_flatMap,-map_take,HY]
def CL(es:List ((Nat×Nat)×Rock.aG)):List D:=es.map fun e => .dQ [.agg [.int .i64 e.1.1,.int .i64 e.1.2],.agg e.2.enc]
def kyL:Ky:=some (true,[some .i64,some .i64])
theorem asI{a b:Nat×Nat}:sG kyL (.agg [.int .i64 a.1,.int .i64 a.2]) (.agg [.int .i64 b.1,.int .i64 b.2])=some (b == a):=by
 simp only[sG,kyL,D.row,zl,and_self,if_true,aS,Bool.and_true];congr 1;rw[Bool.eq_iff_iff];simp only[ae,beq_iff_eq];constructor
 ·rintro⟨h1,h2⟩;exact Prod.ext (by omega) (by omega)
 ·rintro rfl;exact⟨rfl,rfl⟩
theorem J7{k:Nat×Nat}:∀{es:List ((Nat×Nat)×Rock.aG)},∃r,qd kyL (.agg [.int .i64 k.1,.int .i64 k.2]) (CL es)=some r∧r.map Prod.fst=es.findIdx? (fun e=>e.1 == k)
 |[]=>⟨none,rfl,rfl⟩
 |e::es=>by
  obtain⟨r,h1,h2⟩:=J7 (k:=k) (es:=es);simp only[CL,aM]at h1 ⊢;simp only[qd,asI];cases hk:e.1 == k
  ·refine⟨_,by rw[h1];rfl,?_⟩;rw[List.findIdx?_cons,hk,← h2];cases r<;>rfl
  ·exact⟨_,rfl,by rw[List.findIdx?_cons,hk];rfl⟩
theorem aaE{S:SK}{l i:Nat}{es:List ((Nat×Nat)×Rock.aG)}{k:Nat×Nat}{o:Rock.aG}(h:cells? S l i 0=some (CL es)):
  Af S (.put kyL) [.mf l i,.agg [.int .i64 k.1,.int .i64 k.2],.agg o.enc]=some (.undef,aT S l i (.cells 0 (CL (PD es k o)))):=by
 obtain⟨r,h1,h2⟩:=J7 (k:=k) (es:=es);simp only[Af,Ae,h,aS,h1,asI,Option.isSome_some,true_and];rw[if_pos (.inr ⟨by simp[D.clean],by simp[D.clean]⟩)];unfold PD;rw[← h2];cases r with
 |none=>simp[CL]
 |some y=>simp[CL,List.map_set]
theorem GA{x:Rock.aG}{A:Int}(hA:10000≤A):∀(t:List Rw) (o:Int),(∀r∈t,r.alone=true)→(0≤o∧o≤A)→0≤t.foldl (pk x) o∧t.foldl (pk x) o≤A
 |[],o,_,h=>h
 |r::t,o,ht,h=>by
  have h1:=aaP (ht r (by simp));refine GA hA t _ (fun r hr=>ht r (by simp[hr])) ?_;unfold pk;split<;>omega
theorem I7{b:cf}{m:cF}{s:List Rock.aG}(h:Fv b m)(hs:Sv b s){i:Nat}(hi:i<b.n):0≤kr b m s i∧kr b m s i≤200000000000:=by
 have htab:=h.bv.cc;simp only[j1,ae]at htab;refine GA (by omega) _ _ (jv.1 htab.2.1) ?_;have b5:=AY h.bv hi;have b1:=h.hold i hi;obtain⟨hx,b2,b3,b4⟩:=hs.at hi;have hst:=h.bv.bD;have b6:b.bD*((bM s i).m-hold b m i)≤100000000000:=by
  rcases mj (hold b m i) (bM s i).m with hh | hh
  ·have:=n0 (a:=b.bD) (b:=(bM s i).m-hold b m i) (A:=100000) (B:=1000000) (by omega) hst.2 (by omega) (by omega);omega
  ·have:=n0 (a:=b.bD) (b:=hold b m i-(bM s i).m) (A:=100000) (B:=1000000) (by omega) hst.2 (by omega) (by omega);have e:b.bD*((bM s i).m-hold b m i) = - (b.bD*(hold b m i-(bM s i).m)):=by rw[← Int.mul_neg];congr 1;omega
   omega
 have b7:down (b.bD*((bM s i).m-hold b m i)) (hold b m i)≤100000000000:=by
  unfold down;have:=Int.ediv_le_self (b:=hold b m i) (a:=b.bD*((bM s i).m-hold b m i));rcases mj 0 (b.bD*((bM s i).m-hold b m i))with hh | hh
  ·have:=this hh;omega
  ·have:=Int.ediv_le_of_le_mul (b:=0) (show 0<hold b m i by omega) (by omega:b.bD*((bM s i).m-hold b m i)≤0*hold b m i);omega
 omega
theorem yC{O:bH}{c c':cA}(hc:c=c'){e:Env}{σ:SK}{Q:Abs.Exit→Env→SK→Prop}:WC O c e σ Q .mk .mk=WC O c' e σ Q .mk .mk:=by subst hc;rfl
def Pn(b:cf)(m:cF)(s:List Rock.aG)(L:Nat):wj :=
 {state:=0,wR:=none,env:=[(2,.bw [.int .i64 b.f.x,.int .i64 b.f.y,.int .i64 b.f.z,.int .i64 b.f.k,.aE b.cc.length (b.cc.flatMap Rw.enc),.int .i64 b.bD,.int .i64 b.lift,.int .i64 b.deep,.aE b.ak.length (b.ak.flatMap bB.enc),.str m.name,.aE m.bf.length (m.bf.flatMap aU)]),(3,.bw [.aE s.length (s.flatMap aG.enc)]),(4,.undef),(5,.ref L 3 0 0),(6,.ref L 4 0 0)],params:=[18],zf:=jQ,body:=dr }
def PJ(A B:Abs.aG)(b:cf)(m:cF)(s:List Rock.aG)(σ:SK)(es:List ((Nat×Nat)×Rock.aG)):SK :=
 [A,B,.cells 0 (CL es),.cells 0 [.mf σ.length 2],.cells 0 [.aE (bP b m s).length ((bP b m s).flatMap aU)],.loop (Pn b m s σ.length)]::σ
theorem akr{A B:Abs.aG}{b:cf}{m:cF}{s:List Rock.aG}(h:Fv b m)(hs:Sv b s)(es:List ((Nat×Nat)×Rock.aG))(l:Nat×Nat)(h1:l.1<b.n)(h2:l.2<b.n):
  lim T (.round σ.length 5 [.agg [.int .i64 l.1,.int .i64 l.2]] ([]::PJ A B b m s σ es))=some (.val (.bool true) ([]::PJ A B b m s σ (oZ b m s (bP b m s) es l))):=by
 have hn:=h.bv.n;have hl:=hs.len;have hp1:(bP b m s)[l.1]?=some (kr b m s l.1):=by simp[bP,hl,h1]
 have hp2:(bP b m s)[l.2]?=some (kr b m s l.2):=by simp[bP,hl,h2]
 have a1:=pS hp1;have a2:=pS hp2;have hpl:(bP b m s).length=b.n:=by rw[I6,hl]
 have bp1:=I7 h hs h1;have bp2:=I7 h hs h2;have bw1:=AY h.bv h1;have bw2:=AY h.bv h2;have cw1:=fun σ=>FA (σ:=σ) (m:=m) h.bv h1
 have cw2:=fun σ=>FA (σ:=σ) (m:=m) h.bv h2
 have co1:=fun σ=>Ql (σ:=σ) h.toMv h1
 have co2:=fun σ=>Ql (σ:=σ) h.toMv h2
 have bo1:=h.Hk l.1 h1;have bo2:=h.Hk l.2 h2;obtain⟨x1,m1,m2,m3⟩:=hs.at h1;obtain⟨y1,n1,n2,n3⟩:=hs.at h2;have f1:=cj (f:=aG.enc) (w:=3) (fun _=>rfl) x1;have f2:=cj (f:=aG.enc) (w:=3) (fun _=>rfl) y1;have w1:=fK (n:=kr b m s l.1-weight b l.1) (by omega);have w2:=fK (n:=kr b m s l.1-weight b l.1-kr b m s l.2) (by omega);have w3:=fK (n:=kr b m s l.1-weight b l.1-kr b m s l.2+weight b l.2) (by omega);have hL1:l.1<s.length:=by omega
 have hL2:l.2<s.length:=by omega
 have hE:oZ b m s (bP b m s) es l=oZ b m s (bP b m s) es l:=rfl
 conv at hE=>rhs;unfold oZ IQ
 simp only[hp1,hp2,gv]at hE;generalize oZ b m s (bP b m s) es l=es' at *
 have hmin:0≤min (Hk b m l.2) (Hk b m l.1)∧min (Hk b m l.2) (Hk b m l.1)≤1000:=by omega
 have hmin':0≤min (Hk b m l.1) (Hk b m l.2)∧min (Hk b m l.1) (Hk b m l.2)≤1000:=by omega
 generalize hw1:weight b l.1=W1 at *
 generalize hw2:weight b l.2=W2 at *
 generalize hq1:kr b m s l.1=P1 at *
 generalize hq2:kr b m s l.2=P2 at *
 generalize hD:P1-W1-P2+W2=d at *
 refine KI (lp:=Pn b m s σ.length) (by simp[PJ]) rfl ?_;rw[show(Pn b m s σ.length).zf=jQ from rfl,jQ.eq_1,show(Pn b m s σ.length).body=dr from rfl];by_cases hd:d<0
 ·simp only[hd,if_true]at hE;have b3:=n0 hmin.1 hmin.2 (show 0 ≤ -d by omega) (show -d≤1000000000000 by omega);have w4:=fK (n := -d) (by omega);have d1:=ba (b:=1000) b3.1;have d2:=ba (b:=8) (show 0≤(bM s l.2).m by omega);generalize hX:min (Hk b m l.2) (Hk b m l.1) * -d=X at *
  have w5:=fK (n:=X) (by omega);generalize hY:X.tdiv 1000=Y at *
  generalize hZ:(bM s l.2).m.tdiv 8=Z at *
  have w6:=fK (n:=Y) (by rw[d1];omega);have w7:=fK (n:=Z) (by rw[d2];omega);by_cases hq:0<min Y Z
  ·have hO:=fun σ=>Qm (σ:=σ) (q:=min Y Z) n1 n2 n3 ⟨by omega,by rw[d2];omega⟩
   have hP:=fun S h=>aaE (S:=S) (l:=σ.length) (i:=2) (es:=es) (k:=(l.2,l.1)) (o:=(bM s l.2).out (min Y Z)) h
   rw[if_pos hq]at hE;simp only at hE;subst hE;generalize (bM s l.2).out (min Y Z)=O at *
   simp only[aG.enc]at hO;simp only[aG.enc,kyL]at hP;simp[-length_flatMap,-map_take,yC dr.eq_1,Pn,PJ,Pr,hpl,h1,h2,a1,a2,cw1,cw2,w1,w2,w3,hD,hd,co1,co2,hL1,hL2,f1,f2,w4,w5,w6,w7,hX,hY,hZ,hq,hO,hP]
  ·rw[if_neg hq]at hE;simp only at hE;subst hE;simp[-length_flatMap,-map_take,yC dr.eq_1,Pn,PJ,Pr,hpl,h1,h2,a1,a2,cw1,cw2,w1,w2,w3,hD,hd,co1,co2,hL1,hL2,f1,f2,w4,w5,w6,w7,hX,hY,hZ,hq]
 ·simp only[hd,if_false]at hE;have b3:=n0 hmin'.1 hmin'.2 (show 0≤d by omega) (show d≤1000000000000 by omega);have w4:=fK (n:=d) (by omega);have d1:=ba (b:=1000) b3.1;have d2:=ba (b:=8) (show 0≤(bM s l.1).m by omega);generalize hX:min (Hk b m l.1) (Hk b m l.2)*d=X at *
  have w5:=fK (n:=X) (by omega);generalize hY:X.tdiv 1000=Y at *
  generalize hZ:(bM s l.1).m.tdiv 8=Z at *
  have w6:=fK (n:=Y) (by rw[d1];omega);have w7:=fK (n:=Z) (by rw[d2];omega);by_cases hq:0<min Y Z
  ·have hO:=fun σ=>Qm (σ:=σ) (q:=min Y Z) m1 m2 m3 ⟨by omega,by rw[d2];omega⟩
   have hP:=fun S h=>aaE (S:=S) (l:=σ.length) (i:=2) (es:=es) (k:=l) (o:=(bM s l.1).out (min Y Z)) h
   rw[if_pos hq]at hE;simp only at hE;subst hE;generalize (bM s l.1).out (min Y Z)=O at *
   simp only[aG.enc]at hO;simp only[aG.enc,kyL]at hP;simp[-length_flatMap,-map_take,yC dr.eq_1,Pn,PJ,Pr,hpl,h1,h2,a1,a2,cw1,cw2,w1,w2,w3,hD,hd,co1,co2,hL1,hL2,f1,f2,w4,w5,w6,w7,hX,hY,hZ,hq,hO,hP]
  ·rw[if_neg hq]at hE;simp only at hE;subst hE;simp[-length_flatMap,-map_take,yC dr.eq_1,Pn,PJ,Pr,hpl,h1,h2,a1,a2,cw1,cw2,w1,w2,w3,hD,hd,co1,co2,hL1,hL2,f1,f2,w4,w5,w6,w7,hX,hY,hZ,hq]
theorem abF{A B:Abs.aG}{b:cf}{m:cF}{s:List Rock.aG}(h:Fv b m)(hs:Sv b s):∃X Y Z:Abs.aG,
  lim T (.call true ki [.agg [.int .i64 b.f.x,.int .i64 b.f.y,.int .i64 b.f.z,.int .i64 b.f.k,.aE b.cc.length (b.cc.flatMap Rw.enc),.int .i64 b.bD,.int .i64 b.lift,.int .i64 b.deep,.aE b.ak.length (b.ak.flatMap bB.enc),.str m.name,.aE m.bf.length (m.bf.flatMap aU)],.aE s.length (s.flatMap aG.enc)] ([A,B]::σ))=some (.val (.mf σ.length 2) ([A,B,.cells 0 (CL (vd b m s)),X,Y,Z]::σ)):=by
 refine⟨.cells 0 [.mf σ.length 2],.cells 0 [.aE (bP b m s).length ((bP b m s).flatMap aU)],.loop {Pn b m s σ.length with state:=3 },?_⟩;refine vR BH nE.eq_1 rfl ?_;have hp:=fun σ hσ=>JG (σ:=σ) h hs hσ
 have hl:=Qg (b:=b) h.bv (lv:=σ.length) (j:=5) (N:=σ.length+1) (St:=fun pre=>PJ A B b m s σ (pre.foldl (oZ b m s (bP b m s)) [])) (fun pre=>by simp[PJ])
  (fun pre l h1 h2 _=>by rw[List.foldl_append];exact akr h hs _ l h1 h2)
 have hm:Af ([A,B]::σ) .make []=some (.mf σ.length 2,[A,B,.cells 0 (CL [])]::σ):=by simp[Af,CL]
 simp[-length_flatMap,-map_take,hp,abJ,cq,bg,bj,F7,hm];refine MU (d:=.dQ []) (σ2:=PJ A B b m s σ (vd b m s)) (lp:=Pn b m s σ.length) (by simp;exact⟨rfl,rfl,rfl⟩) ?_ (by simp[PJ]) (by simp[Pn]) ?_
 ·simpa[Pn,PJ,vd]using hl
 ·simp[-length_flatMap,-map_take,Pn,PJ]
end Go.Proofs.YtklfdfnoebnciaaGreatDoor
namespace Go.Proofs.YtklfdfnoebnciaaGreatDoor
open List(length_flatMap map_take)
open Go Go.Abs Go.Rock
def Bc(N:Int)(s:List Rock.aG):Prop:=∀x∈s,sm x N
theorem jZ{x:Rock.aG}{N M:Int}(h:sm x N)(hN:N≤M):sm x M:=by
 obtain⟨h1,h2,h3⟩:=h;exact⟨⟨by omega,by omega⟩,⟨by omega,by omega⟩,⟨by omega,by omega⟩⟩
theorem F2{N:Int}{s:List Rock.aG}(h:Bc N s){i:Nat}(hi:i<s.length):s[i]?=some (bM s i)∧sm (bM s i) N:=by
 have h2:s[i]?=some (bM s i):=by simp[bM,hi]
 exact⟨h2,h _ (ai h2)⟩
theorem Dt{s:List Rock.aG}{i:Nat}{o:Rock.aG}{sign:Int}:(gY s i o sign).length=s.length:=by simp[gY]
theorem yK{N M:Int}{s:List Rock.aG}(h:Bc N s){i:Nat}{o:Rock.aG}{sign:Int}(ho:sm o M)(hs:sign=1∨sign = -1)(hM:0≤M):Bc (N+M) (gY s i o sign):=by
 intro x hx;unfold gY at hx;by_cases hi:i<s.length
 ·rcases List.mem_or_eq_of_mem_set hx with hx | rfl
  ·exact jZ (h x hx) (by omega)
  ·obtain⟨a1,a2,a3⟩:=(F2 h hi).2;obtain⟨b1,b2,b3⟩:=ho;rcases hs with rfl | rfl
   ·exact⟨⟨by simp only[Rock.aG.move];omega,by simp only[Rock.aG.move];omega⟩,⟨by simp only[Rock.aG.move];omega,by simp only[Rock.aG.move];omega⟩,⟨by simp only[Rock.aG.move];omega,by simp only[Rock.aG.move];omega⟩⟩
   ·exact⟨⟨by simp only[Rock.aG.move];omega,by simp only[Rock.aG.move];omega⟩,⟨by simp only[Rock.aG.move];omega,by simp only[Rock.aG.move];omega⟩,⟨by simp only[Rock.aG.move];omega,by simp only[Rock.aG.move];omega⟩⟩
 ·rw[List.set_eq_of_length_le (by omega)]at hx;exact jZ (h x hx) (by omega)
theorem Bj{s:List Rock.aG}{i j:Nat}{o p:Rock.aG}{a c:Int}:gY (gY s i o a) j p c=gY (gY s j p c) i o a:=by
 by_cases hij:i=j
 ·subst hij;by_cases hi:i<s.length
  ·simp only[gY,bM,List.getElem?_set_self hi,gv,List.set_set,Rock.aG.move];congr 2<;>omega
  ·simp only[gY,List.set_eq_of_length_le (show s.length≤i by omega)]
 ·have hji:¬j=i:=fun h=>hij h.symm
  simp only[gY,bM,List.getElem?_set_ne hij,List.getElem?_set_ne hji];rw[List.set_comm _ _ hij]
theorem O7{s:List Rock.aG}{e f:(Nat×Nat)×Rock.aG}:eB (eB s e) f=eB (eB s f) e:=by
 unfold eB;rw[Bj (i:=e.1.2) (j:=f.1.1),Bj (i:=e.1.1) (j:=f.1.1),Bj (i:=e.1.2) (j:=f.1.2),Bj (i:=e.1.1) (j:=f.1.2)]
theorem Kb{s:List Rock.aG}{e:(Nat×Nat)×Rock.aG}:(eB s e).length=s.length:=by simp[eB,Dt]
def Hq(es:List ((Nat×Nat)×Rock.aG))(s:List Rock.aG)(j:Nat):List Rock.aG:=match es[j]? with | some e=>eB s e | none=>s
theorem aba{es:List ((Nat×Nat)×Rock.aG)}{s:List Rock.aG}{i j:Nat}:Hq es (Hq es s i) j=Hq es (Hq es s j) i:=by
 unfold Hq;cases es[i]? <;> cases es[j]? <;> simp[O7]
theorem ac6{es:List ((Nat×Nat)×Rock.aG)}{s:List Rock.aG}{j:Nat}:(Hq es s j).length=s.length:=by
 unfold Hq;split<;>simp[Kb]
theorem Im:∀(es:List ((Nat×Nat)×Rock.aG)) (s:List Rock.aG) (n:Nat),n≤es.length→(List.range n).foldl (Hq es) s=(es.take n).foldl eB s
 |es,s,0,_=>by simp
 |es,s,n+1,h=>by
  obtain⟨e,he⟩:∃e,es[n]?=some e:=gE (by omega);rw[List.range_succ,List.foldl_append,Im es s n (by omega),List.take_add_one,he,List.foldl_append];simp[Hq,he]
theorem ac5{es:List ((Nat×Nat)×Rock.aG)}{s:List Rock.aG}{js:List Nat}(hd:js.Nodup)(hm:∀j,j∈js↔j<es.length):js.foldl (Hq es) s=es.foldl eB s:=by
 have hp:js.Perm (List.range es.length):=(List.perm_ext_iff_of_nodup hd List.nodup_range).2 fun a=>by simp[hm]
 rw[hp.foldl_eq' (fun x _ y _ z=>aba),Im es s es.length (aF _),ah (aF _)]
theorem Pl{b:cf}:(HY b).length≤3*b.n:=by
 have key:∀l:List Nat,(l.flatMap (xF b)).length≤3*l.length:=by
  intro l;induction l with
  |nil=>simp
  |cons i l ih =>
   rw[aQ,bI,aD];have:(xF b i).length≤3:=by
    unfold xF;simp only[bI];split<;>split<;>split<;>simp
   omega
 have:=key (List.range b.n);rw[List.length_range]at this;exact this
theorem aat{b:cf}(h:Bv b){l:Nat×Nat}(hl:l∈HY b):l.1<b.n∧l.2<b.n:=by
 obtain⟨hnn,X1,Y1⟩:=h.nat;obtain⟨i,hi,hh⟩:=List.mem_flatMap.1 hl;have h1:i<b.n:=by simpa using hi
 unfold xF at hh;simp only[aY]at hh;rcases hh with hh | hh | hh
 ·split at hh
  ·rename_i hc;simp at hh;subst hh;exact⟨h1,ajo (W:=b.f.y.toNat*b.f.z.toNat) (by rw[hnn,Nat.mul_assoc]) h1 hc⟩
  ·cases hh
 ·split at hh
  ·rename_i hc;simp at hh;subst hh;exact⟨h1,link2 (Z:=b.f.z.toNat) X1 Y1 hnn h1 hc⟩
  ·cases hh
 ·split at hh
  ·rename_i hc;simp at hh;subst hh;exact⟨h1,hc⟩
  ·cases hh
def PS(b:cf)(e:(Nat×Nat)×Rock.aG):Prop:=(e.1.1<b.n∧e.1.2<b.n)∧sm e.2 1000000000000
theorem L8{x:Rock.aG}{q:Int}(hm:1≤x.m∧x.m≤1000000)(hh:0≤x.h∧x.h≤10000000000)(hk:0≤x.k∧x.k≤1000000000000)(hq:0≤q∧q≤x.m):sm (x.out q) 1000000000000:=by
 have b3:=H6 hm.1 hh hq;have b4:=H6 hm.1 hk hq;exact⟨⟨by simp only[Rock.aG.out];omega,by simp only[Rock.aG.out];omega⟩,⟨by simp only[Rock.aG.out];omega,by simp only[Rock.aG.out];omega⟩,⟨by simp only[Rock.aG.out];omega,by simp only[Rock.aG.out];omega⟩⟩
theorem O6{b:cf}{m:cF}{s:List Rock.aG}(hs:Sv b s){p:List Int}{l:Nat×Nat}(h1:l.1<b.n)(h2:l.2<b.n){e:(Nat×Nat)×Rock.aG}(he:IQ b m s p l=some e):PS b e:=by
 unfold IQ at he;simp only at he;generalize hd:(p[l.1]?).getD 0-weight b l.1-(p[l.2]?).getD 0+weight b l.2=d at he;generalize hl':(if d<0 then(l.2,l.1)else l)=l' at he;generalize hd':(if d<0 then -d else d)=d' at he;have hll:l'.1<b.n∧l'.2<b.n:=by
  rw[← hl'];split<;>exact⟨by assumption,by assumption⟩
 obtain⟨_,m1,m2,m3⟩:=hs.at hll.1;split at he
 ·rename_i hq;simp only[ad]at he;subst he;have d2:=ba (b:=8) (show 0≤(bM s l'.1).m by omega);exact⟨hll,L8 m1 m2 m3 ⟨by omega,by rw[d2];omega⟩⟩
 ·cases he
theorem acP{b:cf}{es:List ((Nat×Nat)×Rock.aG)}{k:Nat×Nat}{o:Rock.aG}(h:∀e∈es,PS b e)(ho:PS b (k,o)):(∀e∈PD es k o,PS b e)∧(PD es k o).length≤es.length+1:=by
 unfold PD;split
 ·constructor
  ·intro e he;rcases List.mem_or_eq_of_mem_set he with he | rfl
   ·exact h e he
   ·exact ho
  ·simp
 ·constructor
  ·intro e he;rcases aY.1 he with he | he
   ·exact h e he
   ·simp at he;subst he;exact ho
  ·simp
theorem Kc{b:cf}{m:cF}{s:List Rock.aG}(h:Bv b)(hs:Sv b s):(∀e∈vd b m s,PS b e)∧(vd b m s).length≤192:=by
 have key:∀(ls:List (Nat×Nat)) (es:List ((Nat×Nat)×Rock.aG)),(∀l∈ls,l.1<b.n∧l.2<b.n)→(∀e∈es,PS b e)→(∀e∈ls.foldl (oZ b m s (bP b m s)) es,PS b e)∧(ls.foldl (oZ b m s (bP b m s)) es).length≤es.length+ls.length:=by
  intro ls;induction ls with
  |nil=>intro es _ h;exact⟨h,by simp⟩
  |cons l ls ih =>
   intro es hl he;have hl0:=hl l (by simp);simp only[List.foldl_cons];have h1:(∀e∈oZ b m s (bP b m s) es l,PS b e)∧(oZ b m s (bP b m s) es l).length≤es.length+1:=by
    unfold oZ;split
    ·rename_i e hfe;exact acP he (O6 hs hl0.1 hl0.2 hfe)
    ·exact⟨he,by omega⟩
   obtain⟨h2,h3⟩:=ih _ (fun l hh=>hl l (by simp[hh])) h1.1;exact⟨h2,by simp only[aD];omega⟩
 obtain⟨h1,h2⟩:=key (HY b) [] (fun l hl=>aat h hl) (by simp);have:=@Pl b;have hn:=h.n;exact⟨h1,by simp only[bh]at h2;unfold vd;omega⟩
theorem Ka{b:cf}{N:Int}{s:List Rock.aG}{e:(Nat×Nat)×Rock.aG}(h:Bc N s)(he:PS b e):Bc (N+2000000000000) (eB s e):=by
 have h1:=yK (i:=e.1.1) (sign := -1) h he.2 (.inr rfl) (by omega);have h2:=yK (i:=e.1.2) (sign:=1) h1 he.2 (.inl rfl) (by omega);unfold eB;rw[show N+2000000000000=N+1000000000000+1000000000000 by omega];exact h2
theorem Ot{b:cf}{es:List ((Nat×Nat)×Rock.aG)}(hes:∀e∈es,PS b e):∀(js:List Nat) (s:List Rock.aG) (N:Int),Bc N s→Bc (N+2000000000000*js.length) (js.foldr (fun j s=>Hq es s j) s)
 |[],s,N,h=>by simpa using h
 |j::js,s,N,h=>by
  have ih:=Ot hes js s N h;simp only[List.foldr_cons,aD];generalize js.foldr (fun j s=>Hq es s j) s=s1 at *
  unfold Hq;split
  ·rename_i e he;have:=Ka ih (hes e (ai he));intro x hx;exact jZ (this x hx) (by push_cast;omega)
  ·intro x hx;exact jZ (ih x hx) (by push_cast;omega)
theorem Sv.Bc{b:cf}{s:List Rock.aG}(h:Sv b s):Bc 1000000000000 s:=by
 intro x hx;obtain⟨h1,h2,h3⟩:=aG.I2.1 (h.ok x hx);exact⟨⟨by omega,by omega⟩,⟨by omega,by omega⟩,⟨by omega,by omega⟩⟩
end Go.Proofs.YtklfdfnoebnciaaGreatDoor
namespace Go.Abs
open List(length_flatMap map_take)
open Go
variable {T:zO}
theorem yq{F:List aG}:∀{σ:SK} {lv:Nat},gj σ lv=some F→lv<σ.length
 |[],lv,h=>by simp[gj]at h
 |s::σ,lv,h=>by
  simp only[gj]at h;split at h
  ·rename_i h1;simp;omega
  ·have:=yq h;simp;omega
section
variable {α:Type} {w:Nat} {enc:α→List D} (hw:∀x,(enc x).length=w) {p:α→Bool} {fv:D} {l:List α} {lv bi v:Nat} {F:List aG}
include hw in
theorem Gp(hF:F[bi]?=some (.cells v (l.flatMap enc)))(hl:l.length≤9223372036854775807)(ht:pw T fv (fun x => .agg (enc x)) p l){σ:SK}(hs:gj σ lv=some F):∀(m i:Nat),i+m=l.length →
  WL T [0,1,7,8] false (Gn true w) [(0,.sl lv bi v 0 l.length w),(1,fv),(7,.int .i64 l.length),(8,.int .i64 i)] σ
   (fun x e σ'=>σ'=σ∧if idxOf p (l.drop i)<0 then x=.exit 0 else x=.ret∧get e 4=.int .i64 (i+idxOf p (l.drop i)))
 |0,i,hi=>by
  obtain⟨h1,h2,h3⟩:=ht;refine aH (Gn.eq_1 _ _) ?_;have:¬i<l.length:=by omega
  have h5:l.drop i=[]:=by simp;omega
  simp[this,h1,h2,h5,idxOf]
 |m+1,i,hi=>by
  have ih:=Gp hF hl ht hs m (i+1) (by omega);obtain⟨h1,h2,h3⟩:=ht;refine aH (Gn.eq_1 _ _) ?_;have h4:i<l.length:=by omega
  obtain⟨x,hx⟩:=gE h4;have h5:=zt (f:=enc) hw hx;have h6:=h3 x (ai hx) σ;have h7:=ga h4 hl;have h8:l.drop i=x::l.drop (i+1):=dh hx;have e1:∀r:List D,(enc x++r).take w=enc x:=fun r=>by rw[← hw x];simp
  have e2:∀r:Nat,w≤(enc x).length+r:=fun r=>by rw[hw];omega
  cases hp:p x
  ·rw[hp]at h6;simp[h4,h1,h2,h5,h6,h7,hs,hF,e1,e2];refine WL.mono (by simpa using ih) ?_;rintro x e σ' ⟨h9,h10⟩;refine⟨h9,?_⟩;rw[h8];simp only[idxOf,hp,ar,if_false];by_cases h11:idxOf p (l.drop (i+1))<0
   ·simpa[h11]using h10
   ·rw[if_neg h11]at h10;rw[if_neg h11,if_neg (by omega)];refine⟨h10.1,?_⟩;rw[h10.2];congr 1;push_cast;omega
  ·rw[hp]at h6;simp[h4,h1,h2,h5,h6,h7,hs,hF,e1,e2,h8,idxOf,hp]
include hw in
theorem LQ{f:Nat}(hT:T f=some (um true w))(hF:F[bi]?=some (.cells v (l.flatMap enc)))(hl:l.length≤9223372036854775807)(ht:pw T fv (fun x => .agg (enc x)) p l){σ:SK}(hs:gj σ lv=some F):
  lim T (.call false f [.sl lv bi v 0 l.length w,fv] σ)=some (.val (.int .i64 (idxOf p l)) σ):=by
 refine au hT (um.eq_1 _ _) rfl ?_;have hlt:=yq hs;have h:=Gp hw hF hl ht (lv:=lv) (F:=F) (σ:=[]::σ) (by simp[gj,hs,show ¬σ.length=lv by omega]) l.length 0 (by simp);obtain⟨h1,h2,h3⟩:=ht;simp[h1,h2];refine WL.mono (by simpa using h) ?_;rintro x e σ' ⟨rfl,h10⟩
 try simp only[aJ]at h10
 by_cases h11:idxOf p l<0
 ·rw[if_pos h11]at h10;subst h10;have:idxOf p l = -1:=by
   cases l with
   |nil=>rfl
   |cons a l =>
    simp only[idxOf]at h11 ⊢;split at h11<;>rename_i ha
    ·omega
    ·rw[if_neg ha];split at h11<;>rename_i hb
     ·rw[if_pos hb]
     ·omega
  simp[this]
 ·rw[if_neg h11]at h10;obtain⟨rfl,h12⟩:=h10
  try simp at h12
  simp[h12]
include hw in
theorem BY{f i:Nat}(hT:T f=some (iR i))(hi:T i=some (um true w))(hF:F[bi]?=some (.cells v (l.flatMap enc)))(hl:l.length≤9223372036854775807)(ht:pw T fv (fun x => .agg (enc x)) p l){σ:SK}(hs:gj σ lv=some F):
  lim T (.call false f [.sl lv bi v 0 l.length w,fv] σ)=some (.val (.bool (su l p)) σ):=by
 refine au hT (iR.eq_1 _) rfl ?_;have hlt:=yq hs;have h:=LQ hw hi hF hl ht (lv:=lv) (F:=F) (σ:=[]::σ) (by simp[gj,hs,show ¬σ.length=lv by omega]);obtain⟨h1,h2,h3⟩:=ht;have h4:decide (0≤idxOf p l)=su l p:=by
  unfold su;have h6:=Ec (p:=p) (l:=l);cases h5:l.any p
  ·have:=h6.2 h5;exact decide_eq_false (by omega)
  ·exact decide_eq_true (by
    have:¬idxOf p l<0:=fun h=>by rw[h6.1 h]at h5;cases h5
    omega)
 simp[h1,h2,h,h4]
include hw in
theorem FY{f g h i:Nat}(hf:T f=some (C7 g h))(hg:T g=some (yd true w))(hh:T h=some (iR i))(hi:T i=some (um true w))
  (hF:F[bi]?=some (.cells v (l.flatMap enc))) (hl:l.length≤9223372036854775807) (ht:pw T fv (fun x => .agg (enc x)) p l) (hcl:fv.cells=some [fv]) {σ:SK} (hs:gj σ lv=some F):
  lim T (.call false f [.sl lv bi v 0 l.length w,fv] σ)=some (.val (.bool (gw l p)) σ):=by
 refine au hf (C7.eq_1 _ _) rfl ?_;have hlt:=yq hs;have h:=BY hw hh hi hF hl (MX (wD w enc hw) hg ht) (lv:=lv) (F:=F) (σ:=[]::σ) (by simp[gj,hs,show ¬σ.length=lv by omega]);obtain⟨h1,h2,h3⟩:=ht;have h4:(su l fun x => !p x) = !gw l p:=by
  unfold su gw;rw[List.all_eq_not_any_not,Bool.not_not]
 simp[h1,h2,h,h4,hcl]
end
end Go.Abs
namespace Go.Proofs.YtklfdfnoebnciaaGreatDoor
open List(length_flatMap map_take)
open Go Go.Abs Go.Rock
variable {σ:SK}
theorem OM{b:cf}{m:cF}{s:List Rock.aG}(h:Bv b){lv bi v:Nat}{F:List Abs.aG}(hF:F[bi]?=some (.cells v (s.flatMap aG.enc)))(hs:gj σ lv=some F)(hl:s.length=b.n):
  lim T (.call false kj [.agg [.int .i64 b.f.x,.int .i64 b.f.y,.int .i64 b.f.z,.int .i64 b.f.k,.aE b.cc.length (b.cc.flatMap Rw.enc),.int .i64 b.bD,.int .i64 b.lift,.int .i64 b.deep,.aE b.ak.length (b.ak.flatMap bB.enc),.str m.name,.aE m.bf.length (m.bf.flatMap aU)],.sl lv bi v 0 s.length 3] σ)=some (.val (.bool (xN b s)) σ):=by
 refine au BI nF.eq_1 rfl ?_;have hlt:=yq hs;have hz:=h.sz;have hn:=h.n;have hsz:=fun σ=>yu (σ:=σ) h
 have ha:=FY (T:=T) (w:=3) (enc:=aG.enc) (fun _=>rfl) (f:=lX) (g:=jU) (h:=eD) (i:=fJ) (l:=s) (p:=Rock.aG.valid) (fv:=.fn iZ [] []) rfl rfl rfl rfl hF (by omega) (pw.fn fun x _ σ=>Le) rfl (lv:=lv) (F:=F) (σ:=[]::σ) (by simp[gj,hs,show ¬σ.length=lv by omega]);unfold xN;have hc3:((b.n:Nat):Int)=b.size:=hz.symm;rw[hl]at ha ⊢;cases hc:gw s Rock.aG.valid<;>simp[-length_flatMap,-map_take,hsz,hl,ha,hc,hc3]
def jsD(js:List Nat):List D:=js.map fun j => .int .i64 (j:Nat)
def PR(n:Nat)(js:List Nat):List Nat:=(List.range n).filter fun j => !(js.contains j)
theorem acx{js:List Nat}{j:Nat}:D.int .i64 (j:Nat)∈jsD js↔j∈js:=by
 simp only[jsD,bN];constructor
 ·rintro⟨a,h1,h2⟩;simp only[D.int.injEq,true_and]at h2;have:a=j:=by omega
  exact this ▸ h1
 ·intro h;exact⟨j,h,rfl⟩
def Hb(b:cf)(m:cF)(s:List Rock.aG)(aN:List Int)(L:Nat):Env :=
 [(1,.aE s.length (s.flatMap aG.enc)),(2,.aE aN.length (aN.flatMap aU)),(3,.bw [.int .i64 b.f.x,.int .i64 b.f.y,.int .i64 b.f.z,.int .i64 b.f.k,.aE b.cc.length (b.cc.flatMap Rw.enc),.int .i64 b.bD,.int .i64 b.lift,.int .i64 b.deep,.aE b.ak.length (b.ak.flatMap bB.enc),.str m.name,.aE m.bf.length (m.bf.flatMap aU)]),(9,.sl L 1 1 0 s.length 3),(23,.mf L 6)]
def stT(A X Y Z:Abs.aG)(σ:SK)(es:List ((Nat×Nat)×Rock.aG))(s:List Rock.aG)(it:Abs.aG):SK :=
 [A,.cells 1 (s.flatMap aG.enc),.cells 0 (CL es),X,Y,Z,it]::σ
def itB(L n:Nat)(js:List Nat):Abs.aG:=.cells 1 (.mf L 2::.int .i64 (n:Nat)::jsD js)
theorem aak{A X Y Z:Abs.aG}{es:List ((Nat×Nat)×Rock.aG)}{s:List Rock.aG}{js:List Nat}:
  ER (stT A X Y Z σ es s (itB σ.length es.length js)) σ.length 6=some (.mf σ.length 2,es.length,jsD js,PR es.length js):=by
 have hl:(CL es).length=es.length:=by simp[CL]
 simp[ER,stT,itB,Ae,hl,PR,acx]
theorem atL{n:Nat}{js:List Nat}{u:Nat}(hu:u∈PR n js):(PR n (u::js)).length<(PR n js).length:=by
 have e:PR n (u::js)=(PR n js).filter fun j => !decide (j=u):=by
  unfold PR;rw[List.filter_filter];congr 1;funext j;simp[List.contains_cons,Bool.not_or]
 rw[e,List.length_filter_lt_length_iff_exists];exact⟨u,hu,by simp⟩
theorem akk{b:cf}{m:cF}{s:List Rock.aG}{aN:List Int}{A X Y Z:Abs.aG}{es:List ((Nat×Nat)×Rock.aG)}{r:R}(hs:Sv b s)(hes:∀e∈es,PS b e)(hel:es.length≤192)
  (hr:WC (lim T) gM ((25,.bool false)::(24,.undef)::Hb b m s aN σ.length) (stT A X Y Z σ es (es.foldl eB s) .dead) fun x e' σ'=>r=.BZ x e' σ'):
  ∀(k:Nat) (js:List Nat),js.Nodup→(∀j∈js,j<es.length)→(PR es.length js).length=k →
   lim T (.iA [1,2,3,9,23] (.t 23) 24 25 0 lW gM (Hb b m s aN σ.length) (stT A X Y Z σ es (js.foldr (fun j s=>Hq es s j) s) (itB σ.length es.length js)))=some r:=by
 intro k;induction k using Nat.strongRecOn with
 |_ k ih =>
 intro js hd hj hk;by_cases hus:PR es.length js=[]
 ·have hall:∀j,j∈js↔j<es.length:=by
   intro j;refine⟨hj j,fun hlt=>?_⟩;have h1:j ∉ PR es.length js:=by rw[hus];simp
   simpa[PR,hlt]using h1
  have hfin:js.foldr (fun j s=>Hq es s j) s=es.foldl eB s:=by
   rw[← ac5 (js:=js.reverse) ((List.reverse_perm js).nodup_iff.2 hd) (fun j=>by simp[hall]),List.foldl_reverse]
  rw[hfin];have hit:=aak (σ:=σ) (A:=A) (X:=X) (Y:=Y) (Z:=Z) (es:=es) (s:=es.foldl eB s) (js:=js);rw[hus]at hit;refine Ps lW.eq_1 rfl (by simp[Hb]) hit ?_;simp[stT,Hb,itB]at hr ⊢;exact hr
 ·have hit:=aak (σ:=σ) (A:=A) (X:=X) (Y:=Y) (Z:=Z) (es:=es) (s:=js.foldr (fun j s=>Hq es s j) s) (js:=js);refine aaC lW.eq_1 rfl (by simp[Hb]) hit hus ?_;intro u hu;have hu2:u<es.length∧u ∉ js:=by simpa[PR]using hu
  obtain⟨e,he⟩:∃e,es[u]?=some e:=⟨_,aK hu2.1⟩;have hf:=hes e (ai he);have hnext:=ih _ (by rw[← hk];exact atL hu) (u::js) (List.nodup_cons.2 ⟨hu2.2,hd⟩) (by intro j hjm;rcases bq.1 hjm with rfl | hjm;exact hu2.1;exact hj j hjm) rfl;have hb:=Ot hes js s 1000000000000 hs.Bc;have hjl:js.length≤192:=by
   have h1:js.length≤es.length:=by
    have:=hd.length_le_of_subset (l₂:=List.range es.length) (fun j hjm=>by simpa using hj j hjm);simpa using this
   omega
  have hlen:(js.foldr (fun j s=>Hq es s j) s).length=b.n:=by
   have:∀js:List Nat,(js.foldr (fun j s=>Hq es s j) s).length=s.length:=by
    intro js;induction js with
    |nil=>rfl
    |cons a l ih=>simp only[List.foldr_cons,ac6];exact ih
   rw[this,hs.len]
  simp only[List.foldr_cons]at hnext;generalize hs1:js.foldr (fun j s=>Hq es s j) s=s1 at *
  have hstp:Hq es s1 u=gY (gY s1 e.1.1 e.2 (-1)) e.1.2 e.2 1:=by simp[Hq,he,eB]
  rw[hstp]at hnext;have hbn:Bc 400000000000000 s1:=fun x hx=>jZ (hb x hx) (by omega)
  have hb1:=yK (i:=e.1.1) (sign := -1) hbn hf.2 (.inr rfl) (by omega);obtain⟨x1,y1⟩:=F2 hbn (i:=e.1.1) (by have:=hf.1.1;omega);obtain⟨x2,y2⟩:=F2 hb1 (i:=e.1.2) (by rw[Dt];have:=hf.1.2;omega);have hM1:∀I,lim T (.call false bV [.ref σ.length 1 1 (e.1.1*3),.agg [.int .i64 e.2.m,.int .i64 e.2.h,.int .i64 e.2.k],.int .i64 (-1)] ([A,.cells 1 (s1.flatMap aG.enc),.cells 0 (CL es),X,Y,Z,I]::σ)) =
    some (.val (.dQ []) ([A,.cells 1 ((gY s1 e.1.1 e.2 (-1)).flatMap aG.enc),.cells 0 (CL es),X,Y,Z,I]::σ)) :=
   fun I=>Fx (F:=[A,.cells 1 (s1.flatMap aG.enc),.cells 0 (CL es),X,Y,Z,I]) (j:=1) rfl x1 (jZ y1 (by omega)) (jZ hf.2 (by omega)) (.inr rfl)
  have hM2:∀I,lim T (.call false bV [.ref σ.length 1 1 (e.1.2*3),.agg [.int .i64 e.2.m,.int .i64 e.2.h,.int .i64 e.2.k],.int .i64 1] ([A,.cells 1 ((gY s1 e.1.1 e.2 (-1)).flatMap aG.enc),.cells 0 (CL es),X,Y,Z,I]::σ)) =
    some (.val (.dQ []) ([A,.cells 1 ((gY (gY s1 e.1.1 e.2 (-1)) e.1.2 e.2 1).flatMap aG.enc),.cells 0 (CL es),X,Y,Z,I]::σ)) :=
   fun I=>Fx (F:=[A,.cells 1 ((gY s1 e.1.1 e.2 (-1)).flatMap aG.enc),.cells 0 (CL es),X,Y,Z,I]) (j:=1) rfl x2 (jZ y2 (by omega)) (jZ hf.2 (by omega)) (.inl rfl)
  have hfe:(CL es)[u]?=some (.dQ [.agg [.int .i64 e.1.1,.int .i64 e.1.2],.agg [.int .i64 e.2.m,.int .i64 e.2.h,.int .i64 e.2.k]]):=by simp[CL,he]
  have hfl:(CL es).length=es.length:=by simp[CL]
  have hE:Af ([A,.cells 1 (s1.flatMap aG.enc),.cells 0 (CL es),X,Y,Z,.cells 1 (.mf σ.length 2::.int .i64 (es.length:Nat)::.int .i64 (u:Nat)::jsD js)]::σ) .ent [.mf σ.length 6] =
    some (.dQ [.agg [.int .i64 e.1.1,.int .i64 e.1.2],.agg [.int .i64 e.2.m,.int .i64 e.2.h,.int .i64 e.2.k]],[A,.cells 1 (s1.flatMap aG.enc),.cells 0 (CL es),X,Y,Z,.cells 1 (.mf σ.length 2::.int .i64 (es.length:Nat)::.int .i64 (u:Nat)::jsD js)]::σ):=by
   simp[Af,Ae,hfl,hfe]
  have hi1:e.1.1<s.length:=by have:=hf.1.1;have:=hs.len;omega
  have hi2:e.1.2<s.length:=by have:=hf.1.2;have:=hs.len;omega
  simp[-length_flatMap,-map_take,Hb,stT,itB,hE,hM1,hM2,hi1,hi2,cq,bg,bj,F7];simpa[Hb,stT,itB,jsD]using hnext
theorem GQ{b:cf}(h:Bv b):∀w∈b.ak,(0≤w.b∧w.b<(b.n:Int))∧(0≤w.h∧w.h≤3000)∧(0≤w.m∧w.m≤1000000):=by
 have key:∀(l:List bB) (u:List Int),ub b.size u l=true→∀w∈l,(0≤w.b∧w.b<(b.n:Int))∧(0≤w.h∧w.h≤3000)∧(0≤w.m∧w.m≤1000000):=by
  intro l;induction l with
  |nil=>intro u _ w hw;cases hw
  |cons a l ih =>
   intro u hu w hw;simp only[ub,bB.ok,ae]at hu;obtain⟨⟨h1,h2,h3,h4⟩,h5⟩:=hu;rcases bq.1 hw with rfl | hw
   ·have hs:=h.sz;have:=aR.1 h1;unfold cf.size at this;exact⟨⟨this.1,by omega⟩,aR.1 h3,aR.1 h4⟩
   ·exact ih _ h5 w hw
 exact key _ _ h.ok
theorem mulR{a r A R:Int}(ha:0≤a∧a≤A)(hr : -R≤r∧r≤R) : -(R*A)≤r*a∧r*a≤R*A:=by
 rcases mj 0 r with h | h
 ·have:=n0 h hr.2 ha.1 ha.2;have h2:=dS (show 0≤R by omega) (show 0≤A by omega);omega
 ·have:=n0 (a := -r) (A:=R) (by omega) (by omega) ha.1 ha.2;rw[Int.neg_mul]at this;have h2:=dS (show 0≤R by omega) (show 0≤A by omega);omega
theorem Kh{w:bB}{r:Int}(hr : -100000≤r∧r≤100000)(h1:0≤w.h∧w.h≤3000)(h2:0≤w.m∧w.m≤1000000):sm (w.given r) 1000000000000:=by
 have b1:=mulR h1 hr;have b2:=mulR h2 hr;exact⟨⟨by simp only[bB.given];omega,by simp only[bB.given];omega⟩,⟨by simp only[bB.given,Int.neg_mul];omega,by simp only[bB.given,Int.neg_mul];omega⟩,⟨by simp only[bB.given,Int.neg_mul];omega,by simp only[bB.given,Int.neg_mul];omega⟩⟩
theorem ZZ{b:cf}{m:cF}(h:Fv b m){i:Nat}(hi:i<b.n):sm (LK b m i) 1000000000000:=by
 have b1:=h.feed i hi;have b2:=h.bv.deep;have b3:=n0 b1.1 b1.2 b2.1 b2.2;exact⟨⟨by simp only[LK];omega,by simp only[LK];omega⟩,⟨by simp only[LK];omega,by simp only[LK];omega⟩,⟨by simp[LK],by simp[LK]⟩⟩
def eG(b:cf)(s s1:List Rock.aG)(aN:List Int)(j:Nat):List Rock.aG:=((b.ak.zip aN).take j).foldl (fun n wr=>ua s n wr.1 wr.2) s1
def l9(b:cf)(m:cF)(s2:List Rock.aG)(i:Nat):List Rock.aG:=(List.range i).foldl (fun n i=>gY n i (LK b m i) 1) s2
theorem DJ{b:cf}{s s1:List Rock.aG}{aN:List Int}{j:Nat}{w:bB}{r:Int}(h1:b.ak[j]?=some w)(h2:aN[j]?=some r):eG b s s1 aN (j+1)=ua s (eG b s s1 aN j) w r:=by
 have:(b.ak.zip aN)[j]?=some (w,r):=by rw[List.getElem?_zip_eq_some];exact⟨h1,h2⟩
 unfold eG;rw[List.take_add_one,this,List.foldl_append];rfl
theorem AE{b:cf}{m:cF}{s2:List Rock.aG}{i:Nat}:l9 b m s2 (i+1)=gY (l9 b m s2 i) i (LK b m i) 1:=by
 unfold l9;rw[List.range_succ,List.foldl_append];rfl
theorem zn{b:cf}{m:cF}{s2:List Rock.aG}:∀i,(l9 b m s2 i).length=s2.length
 |0=>rfl
 |i+1=>by rw[AE,Dt,zn i]
theorem abm{b:cf}{s:List Rock.aG}{aN:List Int}{j:Nat}{w:bB}{r:Int}(h1:b.ak[j]?=some w)(h2:aN[j]?=some r):(dW b s aN)[j]?=some (ru s w r):=by
 have:(b.ak.zip aN)[j]?=some (w,r):=by rw[List.getElem?_zip_eq_some];exact⟨h1,h2⟩
 simp[dW,this]
structure Rv(b:cf)(aN:List Int):Prop where
 len:aN.length=b.ak.length
 ok:∀r∈aN,-100000≤r∧r≤100000
theorem Rv.of{b:cf}{aN:List Int}(h:zB b aN=0):Rv b aN:=by
 unfold zB at h;split at h
 ·rename_i hl;split at h
  ·rename_i ha;exact⟨hl,fun r hr=>aR.1 (jv.1 ha r hr)⟩
  ·cases h
 ·cases h
theorem acF{b:cf}{s next:List Rock.aG}(h:Bv b)(hs:Sv b s){aN:List Int}(hr:Rv b aN){j:Nat}{w:bB}{r:Int}(h1:b.ak[j]?=some w)(h2:aN[j]?=some r){N:Int}(hb:Bc N next):Bc (N+1000000000000) (ua s next w r):=by
 have hw:=GQ h w (ai h1);have hrr:=hr.ok r (ai h2);obtain⟨_,m1,m2,m3⟩:=hs.at (i:=w.b.toNat) (by omega);have d2:=ba (b:=8) (show 0≤(bM s w.b.toNat).m by omega);unfold ua ru;split
 ·exact yK hb (Kh hrr hw.2.1 hw.2.2) (.inl rfl) (by omega)
 ·exact yK hb (L8 m1 m2 m3 ⟨by rw[d2];omega,by rw[d2];omega⟩) (.inr rfl) (by omega)
theorem Jr{s n:List Rock.aG}{w:bB}{r:Int}:(ua s n w r).length=n.length:=by
 unfold ua;split<;>simp[Dt]
theorem zM{b:cf}{s s1:List Rock.aG}(h:Bv b)(hs:Sv b s){aN:List Int}(hr:Rv b aN)(hb:Bc 500000000000000 s1):∀j,j≤aN.length→Bc (500000000000000+1000000000000*j) (eG b s s1 aN j)∧(eG b s s1 aN j).length=s1.length
 |0,_=>⟨by simpa[eG]using hb,by simp[eG]⟩
 |j+1,hj=>by
  obtain⟨r,h2⟩:∃r,aN[j]?=some r:=gE (by omega);obtain⟨w,h1⟩:∃w,b.ak[j]?=some w:=⟨_,aK (by rw[← hr.len];omega)⟩;obtain⟨ih1,ih2⟩:=zM h hs hr hb j (by omega);rw[DJ h1 h2];have h3:=acF h hs hr h1 h2 ih1;exact⟨fun x hx=>jZ (h3 x hx) (by push_cast;omega),by rw[Jr,ih2]⟩
theorem HI{b:cf}{m:cF}{s2:List Rock.aG}(h:Fv b m)(hb:Bc 600000000000000 s2):∀i,i≤b.n→Bc (600000000000000+1000000000000*i) (l9 b m s2 i)
 |0,_=>by simpa[l9]using hb
 |i+1,hi=>by
  have ih:=HI h hb i (by omega);rw[AE];have h3:=yK (i:=i) ih (ZZ h (i:=i) (by omega)) (.inl rfl) (by omega);exact fun x hx=>jZ (h3 x hx) (by push_cast;omega)
theorem ach{b:cf}{j:Nat}{w:bB}(h:b.ak[j]?=some w):((b.ak.flatMap bB.enc).drop (j*3)).take 3=[.int .i64 w.b,.int .i64 w.h,.int .i64 w.m] :=
 cj (f:=bB.enc) (w:=3) (fun _=>rfl) h
theorem MQ{b:cf}{m:cF}{s s1:List Rock.aG}{aN:List Int}{A FL X Y Z W:Abs.aG}(h:Fv b m)(hs:Sv b s)(hr:Rv b aN)(hb:Bc 500000000000000 s1)(hl1:s1.length=s.length):∀(k j v:Nat),j+k=aN.length →
  WL T [1,3,9,12,41,42,43] false kI [(1,.aE s.length (s.flatMap aG.enc)),(3,.bw [.int .i64 b.f.x,.int .i64 b.f.y,.int .i64 b.f.z,.int .i64 b.f.k,.aE b.cc.length (b.cc.flatMap Rw.enc),.int .i64 b.bD,.int .i64 b.lift,.int .i64 b.deep,.aE b.ak.length (b.ak.flatMap bB.enc),.str m.name,.aE m.bf.length (m.bf.flatMap aU)]),(9,.sl σ.length 1 1 0 s.length 3),(12,.sl σ.length 7 v 0 j 3),(41,.aE aN.length (aN.flatMap aU)),(42,.int .i64 aN.length),(43,.int .i64 j)]
   ([A,.cells 1 ((eG b s s1 aN j).flatMap aG.enc),FL,X,Y,Z,W,.cells v (((dW b s aN).take j).flatMap aG.enc)]::σ)
   (fun x e σ'=>x=.exit 2∧get e 3=.bw [.int .i64 b.f.x,.int .i64 b.f.y,.int .i64 b.f.z,.int .i64 b.f.k,.aE b.cc.length (b.cc.flatMap Rw.enc),.int .i64 b.bD,.int .i64 b.lift,.int .i64 b.deep,.aE b.ak.length (b.ak.flatMap bB.enc),.str m.name,.aE m.bf.length (m.bf.flatMap aU)]∧get e 9=.sl σ.length 1 1 0 s.length 3∧get e 12=.sl σ.length 7 (v+k) 0 aN.length 3 ∧
    σ'=[A,.cells 1 ((eG b s s1 aN aN.length).flatMap aG.enc),FL,X,Y,Z,W,.cells (v+k) ((dW b s aN).flatMap aG.enc)]::σ)
 |0,j,v,hj=>by
  refine aH kI.eq_1 ?_;obtain rfl:j=aN.length:=by omega
  have hyl:(dW b s aN).length=aN.length:=by simp[dW,hr.len]
  have h3:(dW b s aN).take aN.length=dW b s aN:=ah (by omega);simp[-length_flatMap,-map_take,h3,cq,bg,bj]
 |k+1,j,v,hj=>by
  refine aH kI.eq_1 ?_;have h1:j<aN.length:=by omega
  have hwl:=h.bv.ak;have hrl:=hr.len;obtain⟨r,hr2⟩:∃r,aN[j]?=some r:=gE (by omega);obtain⟨w,hw1⟩:∃w,b.ak[j]?=some w:=gE (by omega);have hw:=GQ h.bv w (ai hw1);have hrr:=hr.ok r (ai hr2);have hwn:w.b.toNat<b.n:=by omega
  have hlen:=hs.len;obtain⟨x0,m1,m2,m3⟩:=hs.at (i:=w.b.toNat) hwn;obtain⟨ib,il⟩:=zM h.bv hs hr hb j (by omega);obtain⟨x1,y1⟩:=F2 ib (i:=w.b.toNat) (by omega);have h4:=ga h1 (by omega);have a1:=ach hw1;have a2:=pS hr2;have a3:=cj (f:=aG.enc) (w:=3) (fun _=>rfl) x0;have hy:=abm (s:=s) hw1 hr2;have f3:=Bh (f:=aG.enc) hy;have hyl:(dW b s aN).length=aN.length:=by simp[dW,hr.len]
  have f4:=Ff ((dW b s aN).take j);rw[kT,hyl,Nat.min_eq_left (by omega)]at f4;have f6:(((dW b s aN).take j).flatMap aG.enc).take (j*3)=((dW b s aN).take j).flatMap aG.enc:=ah (by omega);have h7:(j+1)*24≤room:=by unfold room;omega
  have ih:=MQ (A:=A) (FL:=FL) (X:=X) (Y:=Y) (Z:=Z) (W:=W) h hs hr hb hl1 k (j+1) (v+1) (by omega);have hsucc:=DJ (s:=s) (s1:=s1) hw1 hr2;have hB0:(0:Int)≤w.b:=hw.1.1;have hB1:w.b<(s.length:Int):=by omega
  have hjw:j<b.ak.length:=by omega
  have d2:=ba (b:=8) (show 0≤(bM s w.b.toNat).m by omega);by_cases hc:r<0
  ·have hg:=fun σ=>abG (σ:=σ) hrr hw.2.1 hw.2.2
   have hM:∀V,lim T (.call false bV [.ref σ.length 1 1 (w.b.toNat*3),.agg [.int .i64 (w.given r).m,.int .i64 (w.given r).h,.int .i64 (w.given r).k],.int .i64 1] ([A,.cells 1 ((eG b s s1 aN j).flatMap aG.enc),FL,X,Y,Z,W,V]::σ)) =
     some (.val (.dQ []) ([A,.cells 1 ((eG b s s1 aN (j+1)).flatMap aG.enc),FL,X,Y,Z,W,V]::σ)):=by
    intro V;rw[hsucc,ua,if_pos hc];exact Fx (F:=[A,.cells 1 ((eG b s s1 aN j).flatMap aG.enc),FL,X,Y,Z,W,V]) (j:=1) rfl x1 (jZ y1 (by omega)) (jZ (Kh hrr hw.2.1 hw.2.2) (by omega)) (.inl rfl)
   have hwy:ru s w r=⟨0,0,0⟩:=by simp[ru,hc]
   rw[hwy]at f3;simp only[bB.enc,aG.enc]at hg;simp[-length_flatMap,-map_take,h1,h4,a1,a2,a3,f4,f6,h7,hB0,hB1,hjw,hc,hg,hM,cq,bg,bj];refine WL.to ih (by simp[cq,bg,bj]) (by simp[← f3]) fun x e σ hh=>by simpa[ea,Nat.add_comm 1 k]using hh
  ·have w7:=fK (n:=(bM s w.b.toNat).m.tdiv 8) (by rw[d2];omega);have hO:=fun σ=>Qm (σ:=σ) (q:=min r ((bM s w.b.toNat).m.tdiv 8)) m1 m2 m3 ⟨by rw[d2];omega,by rw[d2];omega⟩
   have hos:=L8 (q:=min r ((bM s w.b.toNat).m.tdiv 8)) m1 m2 m3 ⟨by rw[d2];omega,by rw[d2];omega⟩;have hwy:ru s w r=(bM s w.b.toNat).out (min r ((bM s w.b.toNat).m.tdiv 8)):=by simp[ru,hc]
   have hsucc':eG b s s1 aN (j+1)=gY (eG b s s1 aN j) w.b.toNat ((bM s w.b.toNat).out (min r ((bM s w.b.toNat).m.tdiv 8))) (-1):=by
    rw[hsucc,ua,if_neg hc,hwy]
   rw[hwy]at f3;generalize hQ:min r ((bM s w.b.toNat).m.tdiv 8)=Q at *
   generalize (bM s w.b.toNat).out Q=O at *
   have hM:∀V,lim T (.call false bV [.ref σ.length 1 1 (w.b.toNat*3),.agg [.int .i64 O.m,.int .i64 O.h,.int .i64 O.k],.int .i64 (-1)] ([A,.cells 1 ((eG b s s1 aN j).flatMap aG.enc),FL,X,Y,Z,W,V]::σ)) =
     some (.val (.dQ []) ([A,.cells 1 ((eG b s s1 aN (j+1)).flatMap aG.enc),FL,X,Y,Z,W,V]::σ)):=by
    intro V;rw[hsucc'];exact Fx (F:=[A,.cells 1 ((eG b s s1 aN j).flatMap aG.enc),FL,X,Y,Z,W,V]) (j:=1) rfl x1 (jZ y1 (by omega)) (jZ hos (by omega)) (.inr rfl)
   simp only[aG.enc]at hO;simp[-length_flatMap,-map_take,h1,h4,a1,a2,a3,f4,f6,h7,hB0,hB1,hjw,hc,w7,hQ,hO,hM,cq,bg,bj];refine WL.to ih (by simp[cq,bg,bj]) (by simp[← f3]) fun x e σ hh=>by simpa[ea,Nat.add_comm 1 k]using hh
theorem QI{b:cf}{m:cF}{s2:List Rock.aG}{A FL X Y Z W V:Abs.aG}{d12:D}(h:Fv b m)(hb:Bc 600000000000000 s2)(hl2:s2.length=b.n)(hd:d12.strip=d12∧d12.calm=d12):∀(k i:Nat),i+k=b.n →
  WL T [3,9,12,93,94] false kJ [(3,.bw [.int .i64 b.f.x,.int .i64 b.f.y,.int .i64 b.f.z,.int .i64 b.f.k,.aE b.cc.length (b.cc.flatMap Rw.enc),.int .i64 b.bD,.int .i64 b.lift,.int .i64 b.deep,.aE b.ak.length (b.ak.flatMap bB.enc),.str m.name,.aE m.bf.length (m.bf.flatMap aU)]),(9,.sl σ.length 1 1 0 b.n 3),(12,d12),(93,.int .i64 b.n),(94,.int .i64 i)]
   ([A,.cells 1 ((l9 b m s2 i).flatMap aG.enc),FL,X,Y,Z,W,V]::σ)
   (fun x e σ'=>x=.exit 4∧get e 3=.bw [.int .i64 b.f.x,.int .i64 b.f.y,.int .i64 b.f.z,.int .i64 b.f.k,.aE b.cc.length (b.cc.flatMap Rw.enc),.int .i64 b.bD,.int .i64 b.lift,.int .i64 b.deep,.aE b.ak.length (b.ak.flatMap bB.enc),.str m.name,.aE m.bf.length (m.bf.flatMap aU)]∧get e 9=.sl σ.length 1 1 0 b.n 3∧get e 12=d12∧σ'=[A,.cells 1 ((l9 b m s2 b.n).flatMap aG.enc),FL,X,Y,Z,W,V]::σ)
 |0,i,hi=>by
  refine aH kJ.eq_1 ?_;obtain rfl:i=b.n:=by omega
  simp[-length_flatMap,-map_take,hd,cq,bg,bj]
 |k+1,i,hi=>by
  refine aH kJ.eq_1 ?_;have h1:i<b.n:=by omega
  have hn:=h.bv.n;have h4:=ga h1 (by omega);have hf:=fun σ=>apK (σ:=σ) h h1
  have ih:=QI (A:=A) (FL:=FL) (X:=X) (Y:=Y) (Z:=Z) (W:=W) (V:=V) h hb hl2 hd k (i+1) (by omega);have ib:=HI h hb i (by omega);obtain⟨x1,y1⟩:=F2 ib (i:=i) (by rw[zn,hl2];omega);have hM:lim T (.call false bV [.ref σ.length 1 1 (i*3),.agg [.int .i64 (LK b m i).m,.int .i64 (LK b m i).h,.int .i64 (LK b m i).k],.int .i64 1] ([A,.cells 1 ((l9 b m s2 i).flatMap aG.enc),FL,X,Y,Z,W,V]::σ)) =
    some (.val (.dQ []) ([A,.cells 1 ((l9 b m s2 (i+1)).flatMap aG.enc),FL,X,Y,Z,W,V]::σ)):=by
   rw[AE];exact Fx (F:=[A,.cells 1 ((l9 b m s2 i).flatMap aG.enc),FL,X,Y,Z,W,V]) (j:=1) rfl x1 (jZ y1 (by omega)) (jZ (ZZ h h1) (by omega)) (.inl rfl)
  simp only[aG.enc]at hf;simp[-length_flatMap,-map_take,h1,h4,hf,hM,hd,cq,bg,bj];refine WL.to ih (by simp[hd,cq,bg,bj]) rfl fun x e σ hh=>hh
theorem N4{b:cf}{m:cF}{s:List Rock.aG}{aN:List Int}(hr:Rv b aN)(hl:s.length=b.n):l9 b m (eG b s ((vd b m s).foldl eB s) aN aN.length) b.n=CD b m s aN:=by
 have:(b.ak.zip aN).take aN.length=b.ak.zip aN:=ah (by rw[List.length_zip];omega);simp only[CD,l9,eG,this,hl]
theorem O8{b:cf}{m:cF}{s:List Rock.aG}(h:Fv b m)(hs:Sv b s):Bc 500000000000000 ((vd b m s).foldl eB s)∧((vd b m s).foldl eB s).length=s.length:=by
 obtain⟨h1,h2⟩:=Kc (m:=m) h.bv hs;have key:∀(es:List ((Nat×Nat)×Rock.aG)) (s:List Rock.aG) (N:Int),(∀e∈es,PS b e)→Bc N s→Bc (N+2000000000000*es.length) (es.foldl eB s)∧(es.foldl eB s).length=s.length:=by
  intro es;induction es with
  |nil=>intro s N _ h;exact⟨by simpa using h,rfl⟩
  |cons e es ih =>
   intro s N he hb;obtain⟨a1,a2⟩:=ih (eB s e) _ (fun x hx=>he x (by simp[hx])) (Ka hb (he e (by simp)));simp only[List.foldl_cons,aD];exact⟨fun x hx=>jZ (a1 x hx) (by push_cast;omega),by rw[a2,Kb]⟩
 obtain⟨a1,a2⟩:=key _ s _ h1 hs.Bc;exact⟨fun x hx=>jZ (a1 x hx) (by omega),a2⟩
theorem aj4{b:cf}{m:cF}{s s1:List Rock.aG}{aN:List Int}{A FL X Y Z W:Abs.aG}(h:Fv b m)(hs:Sv b s)(hr:Rv b aN)(hb:Bc 500000000000000 s1)(hl1:s1.length=s.length):
  WC (lim T) gM ((25,.bool false)::(24,.undef)::Hb b m s aN σ.length) ([A,.cells 1 (s1.flatMap aG.enc),FL,X,Y,Z,W]::σ) fun x e σ' =>
   x=.ret∧σ'=[A,.cells 1 ((l9 b m (eG b s s1 aN aN.length) b.n).flatMap aG.enc),FL,X,Y,Z,W,.cells aN.length ((dW b s aN).flatMap aG.enc)]::σ ∧
   (if xN b (l9 b m (eG b s s1 aN aN.length) b.n)=true then get e 6=.sl σ.length 1 1 0 b.n 3∧get e 7=.sl σ.length 7 aN.length 0 aN.length 3∧get e 8=.int .i64 0
    else get e 6=.aI∧get e 7=.aI∧get e 8=.int .i64 9):=by
 have hl:=hs.len;have hn:=h.bv.n;have hwl:=h.bv.ak;have hrl:=hr.len;obtain⟨wb,wl⟩:=zM h.bv hs hr hb aN.length (aF _);have fl:=zn (b:=b) (m:=m) (s2:=eG b s s1 aN aN.length) b.n;rw[yC gM.eq_1];simp[-length_flatMap,-map_take,Hb,cq,bg,bj];refine WL.to (MQ (σ:=σ) (A:=A) (FL:=FL) (X:=X) (Y:=Y) (Z:=Z) (W:=W) h hs hr hb hl1 aN.length 0 0 (by omega)) (by simp[cq,bg,bj]) (by simp[eG]) ?_;rintro x e σ' ⟨rfl,g3,g9,g12,rfl⟩;rw[hl]at g9;simp[-length_flatMap,-map_take,g3,g9,g12,cq,bg,bj];refine WL.to (QI (σ:=σ) (A:=A) (FL:=FL) (X:=X) (Y:=Y) (Z:=Z) (W:=W) (V:=.cells (0+aN.length) ((dW b s aN).flatMap aG.enc)) (d12:=.sl σ.length 7 (0+aN.length) 0 aN.length 3) h (fun x hx=>jZ (wb x hx) (by omega)) (by rw[wl,hl1,hl]) ⟨rfl,rfl⟩ b.n 0 (by omega)) (by simp[cq,bg,bj]) (by simp[l9]) ?_;rintro x e σ' ⟨rfl,g3,g9,g12,rfl⟩;have hS:=OM (m:=m) (b:=b) (s:=l9 b m (eG b s s1 aN aN.length) b.n) h.bv (lv:=σ.length) (bi:=1) (v:=1) (F:=[A,.cells 1 ((l9 b m (eG b s s1 aN aN.length) b.n).flatMap aG.enc),FL,X,Y,Z,W,.cells (0+aN.length) ((dW b s aN).flatMap aG.enc)]) (σ:=[A,.cells 1 ((l9 b m (eG b s s1 aN aN.length) b.n).flatMap aG.enc),FL,X,Y,Z,W,.cells (0+aN.length) ((dW b s aN).flatMap aG.enc)]::σ) rfl (by simp[gj]) (by rw[fl,wl,hl1,hl]);rw[show(l9 b m (eG b s s1 aN aN.length) b.n).length=b.n by rw[fl,wl,hl1,hl]]at hS;cases hc:xN b (l9 b m (eG b s s1 aN aN.length) b.n)
 ·rw[hc]at hS;simp at hS;simp[-length_flatMap,-map_take,g3,g9,g12,hS,cq,bg,bj]
 ·rw[hc]at hS;simp at hS;simp[-length_flatMap,-map_take,g3,g9,g12,hS,cq,bg,bj]
def abh(b:cf)(m:cF)(s:List Rock.aG)(aN:List Int):D:=match tick b m s aN with
 |some (s',y) => .dQ [.aE s'.length (s'.flatMap aG.enc),.aE y.length (y.flatMap aG.enc),.int .i64 0]
 |none => .dQ [.aI,.aI,.int .i64 9]
theorem aka{b:cf}{m:cF}{s:List Rock.aG}{aN:List Int}(h:Fv b m)(hs:Sv b s)(hr:Rv b aN)(hσ:σ≠[]):
  lim T (.call false lF [.agg [.int .i64 b.f.x,.int .i64 b.f.y,.int .i64 b.f.z,.int .i64 b.f.k,.aE b.cc.length (b.cc.flatMap Rw.enc),.int .i64 b.bD,.int .i64 b.lift,.int .i64 b.deep,.aE b.ak.length (b.ak.flatMap bB.enc),.str m.name,.aE m.bf.length (m.bf.flatMap aU)],.aE s.length (s.flatMap aG.enc),.aE aN.length (aN.flatMap aU)] σ)=some (.val (abh b m s aN) σ):=by
 refine au Cq oK.eq_1 rfl ?_;have hl:=hs.len;have hn:=h.bv.n;have hne:s≠[]:=by intro h0;rw[h0]at hl;simp at hl;omega
 have hC:=abA (σ:=σ) (s:=s) (bs:=[]) (by omega) hne;obtain⟨X,Y,Z,hF⟩:=abF (σ:=σ) (A:=.cells 0 []) (B:=.cells 1 (s.flatMap aG.enc)) h hs;obtain⟨fb,fl⟩:=O8 h hs;obtain⟨x,e',σ',hrun,rfl,rfl,hq⟩:=aj4 (σ:=σ) (A:=.cells 0 []) (FL:=.cells 0 (CL (vd b m s))) (X:=X) (Y:=Y) (Z:=Z) (W:=.dead) h hs hr fb fl;obtain⟨f1,f2⟩:=Kc (m:=m) h.bv hs;have hM:=akk (σ:=σ) (aN:=aN) (m:=m) (A:=.cells 0 []) (X:=X) (Y:=Y) (Z:=Z) (es:=vd b m s) hs f1 f2 (r:=.BZ .ret e' ([.cells 0 [],.cells 1 ((l9 b m (eG b s ((vd b m s).foldl eB s) aN aN.length) b.n).flatMap aG.enc),.cells 0 (CL (vd b m s)),X,Y,Z,.dead,.cells aN.length ((dW b s aN).flatMap aG.enc)]::σ)) ⟨_,_,_,hrun,rfl⟩ _ [] List.nodup_nil (by simp) rfl;simp only[aV,bh,cG]at hC;have hG:Af ([.cells 0 [],.cells 1 (s.flatMap aG.enc),.cells 0 (CL (vd b m s)),X,Y,Z]::σ) .rng [.mf σ.length 2]=some (.mf σ.length 6,[.cells 0 [],.cells 1 (s.flatMap aG.enc),.cells 0 (CL (vd b m s)),X,Y,Z,itB σ.length (vd b m s).length []]::σ):=by
  simp[Af,Ae,itB,jsD,CL]
 simp[-length_flatMap,-map_take,hC,hF,hG,cq,bg,bj,F7];refine⟨_,_,_,by simpa[Hb,stT]using hM,?_⟩;rw[N4 hr hl]at hq ⊢;have hnl:(CD b m s aN).length=b.n:=by
  rw[← N4 hr hl,zn,(zM h.bv hs hr fb aN.length (aF _)).2,fl,hl]
 have hyl:(dW b s aN).length=aN.length:=by simp[dW,hr.len]
 unfold abh tick;cases hc:xN b (CD b m s aN)
 ·rw[hc]at hq;simp at hq;obtain⟨g6,g7,g8⟩:=hq;simp[g6,g7,g8]
 ·rw[hc]at hq;simp only[if_true]at hq;obtain⟨g6,g7,g8⟩:=hq;simp only[if_true];simp[g6,g7,g8];rw[Dh (by simp) (by omega)];simp only[we,yH];rw[← hnl,zU (f:=aG.enc) (l:=CD b m s aN) (by decide) (fun _=>rfl) (fun x=>by simp) hσ (by simp)];simp only[List.set_cons_succ,List.set_cons_zero];rw[← hyl,zU (f:=aG.enc) (l:=dW b s aN) (by decide) (fun _=>rfl) (fun x=>by simp) hσ (by simp)];rw[kV (by simp) (by omega)];exact⟨_,rfl⟩
def xM(s:List Rock.aG):List D:=[.aE s.length (s.flatMap aG.enc)]
theorem Oq(l:List (List Rock.aG)):(l.flatMap xM).length=l.length:=by
 have:=b9 (f:=xM) (w:=1) (fun _=>rfl) l;omega
theorem Sv.next{b:cf}{m:cF}{s:List Rock.aG}{aN:List Int}(h:Bv b){s' y:List Rock.aG}(ht:tick b m s aN=some (s',y)):Sv b s':=by
 unfold tick at ht;split at ht
 ·rename_i hc;simp only[ad,aj]at ht;obtain⟨rfl,_⟩:=ht;exact(Sv.of h).1 hc
 ·cases ht
theorem aaO{n:Nat}(h:n≤1000000):n*24≤room:=by unfold room;omega
theorem HE(l:List (List Rock.aG)):D.bu (l.flatMap xM)=true:=fZ (fun x=>by simp[xM,D.clean,F7]) l
def aom(b:cf)(m:cF)(σ:SK)(r:Option (List (List Rock.aG)×List (List Rock.aG)))(x:Abs.Exit)(e:Env)(σ':SK):Prop:=match r with
 |some (ss,ys)=>∃v u,x=.exit 0∧get e 4=.own 0 [.sl σ.length 2 v 0 ss.length 1,.sl σ.length 1 u 0 ys.length 1]∧σ'=[.cells 0 [],.cells u (ys.flatMap xM),.cells v (ss.flatMap xM)]::σ
 |none=>x=.fx (.tQ 259 (.agg []))∧∃bk,σ'=bk::σ
theorem QM{b:cf}{m:cF}{av:List (List Int)}(h:Fv b m)(hp:av.length≤200)(hr:∀r∈av,Rv b r):∀(k i v u:Nat) (ss ys:List (List Rock.aG)) (s:List Rock.aG),i+k=av.length→ss.length=i+1→ys.length=i→ss[i]?=some s→Sv b s →
  WL T [2,4,14,15,16] false lV [(2,.bw [.int .i64 b.f.x,.int .i64 b.f.y,.int .i64 b.f.z,.int .i64 b.f.k,.aE b.cc.length (b.cc.flatMap Rw.enc),.int .i64 b.bD,.int .i64 b.lift,.int .i64 b.deep,.aE b.ak.length (b.ak.flatMap bB.enc),.str m.name,.aE m.bf.length (m.bf.flatMap aU)]),(4,.own 0 [.sl σ.length 2 v 0 (i+1) 1,.sl σ.length 1 u 0 i 1]),(14,.aE av.length (av.flatMap E9)),(15,.int .i64 av.length),(16,.int .i64 i)]
   ([.cells 0 [],.cells u (ys.flatMap xM),.cells v (ss.flatMap xM)]::σ) (aom b m σ (uV b m ss ys s (av.drop i)))
 |0,i,v,u,ss,ys,s,hi,h1,h2,h3,hs=>by
  refine aH lV.eq_1 ?_;obtain rfl:i=av.length:=by omega
  have h5:av.drop av.length=[]:=az (by omega);simp[-length_flatMap,-map_take,h5,uV,aom];exact⟨v,u,by simp[h1,h2]⟩
 |k+1,i,v,u,ss,ys,s,hi,h1,h2,h3,hs=>by
  refine aH lV.eq_1 ?_;have hlt:i<av.length:=by omega
  have hii:(i:Int)<i+1:=by omega
  obtain⟨r,hx⟩:=gE hlt;have h4:=ga hlt (by omega);have h5:=dh hx;have a1:=cj (f:=E9) (w:=1) (fun _=>rfl) hx;simp only[E9,iw]at a1;have a2:=zt (f:=xM) (w:=1) (fun _=>rfl) h3;simp only[xM,iw,fL]at a2;have hT:=fun σ hσ=>aka (σ:=σ) h hs (hr r (ai hx)) hσ
  rw[h5,uV];unfold abh at hT;cases ht:tick b m s r with
  |none =>
   rw[ht]at hT;simp only at hT;simp[-length_flatMap,-map_take,hlt,hii,h4,a1,a2,hT,E9,aom]
  |some p =>
   obtain⟨s',y⟩:=p;rw[ht]at hT;simp only at hT;have ih:=QM h hp hr k (i+1) (v+1) (u+1) (ss++[s']) (ys++[y]) s' (by omega) (by simp[h1]) (by simp[h2]) (by simp[← h1]) (Sv.next h.bv ht);have l1:=Oq ss;have l2:=Oq ys;rw[h1]at l1;rw[h2]at l2;have f1:(ss.flatMap xM).take (i+1)=ss.flatMap xM:=ah (by omega);have f2:(ys.flatMap xM).take i=ys.flatMap xM:=ah (by omega);have h7:=aaO (n:=i+1) (by omega);have h8:=aaO (n:=i+1+1) (by omega);simp[-length_flatMap,-map_take,hlt,hii,h4,a1,a2,hT,E9,f1,f2,l1,l2,h7,h8];exact WL.to ih (by simp) (by simp[xM]) fun x e σ hh=>hh
theorem MG{b:cf}{m:cF}{av:List (List Int)}(h:Fv b m)(hp:av.length≤200)(hr:∀r∈av,Rv b r)(hσ:σ≠[]){ss ys:List (List Rock.aG)}(hrun:Rock.run b m av=some (ss,ys)):
  lim T (.call false gS [.agg [.int .i64 b.f.x,.int .i64 b.f.y,.int .i64 b.f.z,.int .i64 b.f.k,.aE b.cc.length (b.cc.flatMap Rw.enc),.int .i64 b.bD,.int .i64 b.lift,.int .i64 b.deep,.aE b.ak.length (b.ak.flatMap bB.enc),.str m.name,.aE m.bf.length (m.bf.flatMap aU)],.aE av.length (av.flatMap E9)] σ)=some (.val (.agg [.aE ss.length (ss.flatMap xM),.aE ys.length (ys.flatMap xM)]) σ):=by
 refine au xg mB.eq_1 rfl ?_;have hf:=fun σ hσ=>DL (σ:=σ) h hσ
 simp only[P0]at hf;simp[-length_flatMap,-map_take,hf,cq,bg,bj];refine WL.to (QM (σ:=σ) h hp hr av.length 0 0 0 [dA b m] [] (dA b m) (by omega) rfl rfl rfl (Sv.first h)) (by simp) (by simp[xM]) ?_;rw[aJ,show uV b m [dA b m] [] (dA b m) av=some (ss,ys)from hrun];rintro x e σ' ⟨v,u,rfl,g4,rfl⟩;simp[-length_flatMap,-map_take,g4];have c1:∀x:List Rock.aG,D.bu (xM x)=true:=fun x=>by simp[xM,D.clean,F7]
 rw[IS (by simp) (by omega)];simp only[we,yH];rw[zU (f:=xM) (w:=1) (l:=ss) (by decide) (fun _=>rfl) c1 hσ (by simp)];simp only[List.set_cons_succ,List.set_cons_zero];rw[zU (f:=xM) (w:=1) (l:=ys) (by decide) (fun _=>rfl) c1 hσ (by simp)];exact⟨_,rfl⟩
theorem MF{b:cf}{m:cF}{av:List (List Int)}(h:Fv b m)(hp:av.length≤200)(hr:∀r∈av,Rv b r)(hrun:Rock.run b m av=none):
  lim T (.call false gS [.agg [.int .i64 b.f.x,.int .i64 b.f.y,.int .i64 b.f.z,.int .i64 b.f.k,.aE b.cc.length (b.cc.flatMap Rw.enc),.int .i64 b.bD,.int .i64 b.lift,.int .i64 b.deep,.aE b.ak.length (b.ak.flatMap bB.enc),.str m.name,.aE m.bf.length (m.bf.flatMap aU)],.aE av.length (av.flatMap E9)] σ)=some (.fx (.tQ 259 (.agg [])) σ):=by
 refine dJ xg mB.eq_1 rfl ?_;have hf:=fun σ hσ=>DL (σ:=σ) h hσ
 simp only[P0]at hf;simp[-length_flatMap,-map_take,hf,cq,bg,bj];refine WL.to (QM (σ:=σ) h hp hr av.length 0 0 0 [dA b m] [] (dA b m) (by omega) rfl rfl rfl (Sv.first h)) (by simp) (by simp[xM]) ?_;rw[aJ,show uV b m [dA b m] [] (dA b m) av=none from hrun];rintro x e σ' ⟨rfl,bk,rfl⟩;simp[D.clean]
end Go.Proofs.YtklfdfnoebnciaaGreatDoor
