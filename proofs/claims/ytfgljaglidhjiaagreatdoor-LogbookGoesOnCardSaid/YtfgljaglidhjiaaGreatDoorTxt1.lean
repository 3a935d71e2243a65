import Derived.Test.YtfgljaglidhjiaaGreatDoorTxt0
set_option linter.all false
namespace Go.Proofs.YtfgljaglidhjiaaGreatDoor
open List(length_flatMap map_take)
open Go Go.Abs Go.Rock
variable {σ:SK}
theorem aE.Kl{x:Rock.aE}:x.valid=true↔(1≤x.m∧x.m≤1000000)∧(0≤x.h∧x.h≤10000000000)∧(0≤x.k∧x.k≤1000000000000):=by
 simp[Rock.aE.valid,cT]
structure Sv(b:cz)(s:List Rock.aE):Prop where
 len:s.length=b.n
 ok:∀x∈s,x.valid=true
theorem Sv.of{b:cz}{s:List Rock.aE}(h:Bv b):yC b s=true↔Sv b s:=by
 have hs:=h.sz;have hn:=h.n;unfold yC;simp only[af,au];constructor
 ·rintro⟨h1,h2⟩;exact⟨by unfold cz.size at h1;omega,j7.1 h2⟩
 ·rintro⟨h1,h2⟩;exact⟨by unfold cz.size;omega,j7.2 h2⟩
theorem Sv.at{b:cz}{s:List Rock.aE}(h:Sv b s){i:Nat}(hi:i<b.n):s[i]?=some (bP s i)∧(1≤(bP s i).m∧(bP s i).m≤1000000)∧(0≤(bP s i).h∧(bP s i).h≤10000000000)∧(0≤(bP s i).k∧(bP s i).k≤1000000000000):=by
 have h1:i<s.length:=by have:=h.len;omega
 have h2:s[i]?=some (bP s i):=by simp[bP,h1]
 exact⟨h2,aE.Kl.1 (h.ok _ (aj h2))⟩
theorem Sv.first{b:cz}{m:cU}(h:Fv b m):Sv b (ea b m):=by
 refine⟨BY,fun x hx=>?_⟩;simp only[ea,bR,List.mem_range]at hx;obtain⟨i,hi,rfl⟩:=hx;have b1:=h.hold i hi;have b2:=h.II i hi;have b3:=oV (by omega:0≤hold b m i) b1.2 b2.1 b2.2;exact aE.Kl.2 ⟨⟨by simp only;omega,by simp only;omega⟩,⟨b3.1,by simp only;omega⟩,by simp⟩
theorem afc{r:Rw}(h:r.alone=true):(1≤r.p∧r.p≤10000)∧(0≤r.l∧r.l≤4000):=by
 simp only[Rw.alone,af]at h;exact⟨bf.1 h.2.1,bf.1 h.2.2.1⟩
theorem OJ{s:List Rock.aE}{i:Nat}{x:Rock.aE}{t:List Rw}(hx:s[i]?=some x)(hm:0≤x.m∧x.m≤1000000)(ht:∀r∈t,r.alone=true)(hl:t.length≤1000):∀(n j:Nat) (o:Int),j+n=t.length →
  WL T [1,2,7,34,35,36] false jq [(1,.aH s.length (s.flatMap aE.enc)),(2,.int .i64 i),(7,.int .i64 o),(34,.aH t.length (t.flatMap Rw.enc)),(35,.int .i64 t.length),(36,.int .i64 j)] σ
   (fun x' e σ'=>σ'=σ∧x'=.exit 0∧get e 7=.int .i64 ((t.drop j).foldl (qY x) o))
 |0,j,o,hj=>by
  refine aM jq.eq_1 ?_;have h1:¬j<t.length:=by omega
  have h2:t.drop j=[]:=aA (by omega);simp[-length_flatMap,-map_take,h1,h2]
 |n+1,j,o,hj=>by
  refine aM jq.eq_1 ?_;have h1:j<t.length:=by omega
  obtain⟨r,hr⟩:=gE h1;have hrb:=afc (ht r (aj hr));have h2:=bW (f:=Rw.enc) (w:=5) (fun _=>rfl) hr;have h3:=bW (f:=aE.enc) (w:=3) (fun _=>rfl) hx;have h4:=gN h1 (by omega);have h5:=cq hr;have hi:i<s.length:=(aB.1 hx).1;have b1:=oV hrb.2.1 hrb.2.2 hm.1 hm.2;have w1:=fN (n:=r.l*x.m) (by omega);have ih:=OJ hx hm ht hl n (j+1) (qY x o r) (by omega);rw[h5];simp only[List.foldl_cons];by_cases hc:r.l*x.m≤x.h
  ·have hm2:(if o<r.p then r.p else o)=qY x o r:=by unfold qY;rw[if_pos hc];omega
   simp[-length_flatMap,-map_take,h1,h2,h3,h4,hi,w1,hc];refine WL.to ih (by simp[qY,hc]) rfl fun x e σ hh=>hh
  ·simp[-length_flatMap,-map_take,h1,h2,h3,h4,hi,w1,hc];refine WL.to ih (by simp[qY,hc]) rfl fun x e σ hh=>hh
theorem GQ{b:cz}{m:cU}{s:List Rock.aE}(h:Fv b m)(hs:Sv b s){i:Nat}(hi:i<b.n):
  lim T (.call false fV [.agg [.int .i64 b.f.x,.int .i64 b.f.y,.int .i64 b.f.z,.int .i64 b.f.k,.aH b.ct.length (b.ct.flatMap Rw.enc),.int .i64 b.bK,.int .i64 b.lift,.int .i64 b.deep,.aH b.an.length (b.an.flatMap bI.enc),.str m.name,.aH m.bq.length (m.bq.flatMap aY)],.aH s.length (s.flatMap aE.enc),.int .i64 i] σ)=some (.val (.int .i64 (lr b m s i)) σ):=by
 refine aw zR lI.eq_1 rfl ?_;have hw:=fun σ=>GU (σ:=σ) (m:=m) h.bv hi
 have ho:=fun σ=>Te (σ:=σ) h.toMv hi
 have b1:=h.hold i hi;obtain⟨hx,b2,b3,b4⟩:=hs.at hi;have hil:i<s.length:=by have:=hs.len;omega
 have hst:=h.bv.bK;have b5:=BN h.bv hi;have b6 : -100000000000≤b.bK*((bP s i).m-hold b m i)∧b.bK*((bP s i).m-hold b m i)≤100000000000:=by
  rcases ni (hold b m i) (bP s i).m with hh | hh
  ·have:=oV (a:=b.bK) (b:=(bP s i).m-hold b m i) (A:=100000) (B:=1000000) (by omega) hst.2 (by omega) (by omega);omega
  ·have:=oV (a:=b.bK) (b:=hold b m i-(bP s i).m) (A:=100000) (B:=1000000) (by omega) hst.2 (by omega) (by omega);have e:b.bK*((bP s i).m-hold b m i) = - (b.bK*(hold b m i-(bP s i).m)):=by rw[← Int.mul_neg];congr 1;omega
   omega
 have hd:=fun σ=>ana (σ:=σ) (n:=b.bK*((bP s i).m-hold b m i)) (d:=hold b m i) (by omega) (by omega)
 have b7 : -100000000000≤down (b.bK*((bP s i).m-hold b m i)) (hold b m i)∧down (b.bK*((bP s i).m-hold b m i)) (hold b m i)≤100000000000:=by
  unfold down;constructor
  ·rw[Int.le_ediv_iff_mul_le (by omega)];omega
  ·have:=Int.ediv_le_self (b:=hold b m i) (a:=b.bK*((bP s i).m-hold b m i));rcases ni 0 (b.bK*((bP s i).m-hold b m i))with hh | hh
   ·have:=this hh;omega
   ·have:=Int.ediv_le_of_le_mul (b:=0) (show 0<hold b m i by omega) (by omega:b.bK*((bP s i).m-hold b m i)≤0*hold b m i);omega
 have w1:=fN (n:=(bP s i).m-hold b m i) (by omega);have w2:=fN (n:=b.bK*((bP s i).m-hold b m i)) (by omega);have w3:=fN (n:=weight b i+down (b.bK*((bP s i).m-hold b m i)) (hold b m i)) (by omega);have h3:=bW (f:=aE.enc) (w:=3) (fun _=>rfl) hx;have htab:=h.bv.ct;simp only[kS,af]at htab;have ht:=bf.1 htab.1;simp[-length_flatMap,-map_take,hw,ho,hil,h3,w1,w2,hd,w3];refine WL.to (OJ (σ:=[]::σ) hx ⟨by omega,by omega⟩ (j7.1 htab.2.1) (by omega) b.ct.length 0 (max 0 (weight b i+down (b.bK*((bP s i).m-hold b m i)) (hold b m i))) (by omega)) (by simp) rfl ?_;rintro x e σ' ⟨rfl,rfl,g⟩;simp[-length_flatMap,-map_take,g,lr]
theorem Kp{b:cz}{m:cU}{s:List Rock.aE}:(bT b m s).length=s.length:=by simp[bT]
theorem QJ(l:List Int):(l.flatMap aY).length=l.length:=by
 have:=bX (f:=aY) (w:=1) (fun _=>rfl) l;omega
theorem FK{b:cz}{m:cU}{s:List Rock.aE}(h:Fv b m)(hs:Sv b s):∀(n i v:Nat),i+n=s.length →
  WL T [1,2,4,7,8] false iI [(1,.aH s.length (s.flatMap aE.enc)),(2,.bB [.int .i64 b.f.x,.int .i64 b.f.y,.int .i64 b.f.z,.int .i64 b.f.k,.aH b.ct.length (b.ct.flatMap Rw.enc),.int .i64 b.bK,.int .i64 b.lift,.int .i64 b.deep,.aH b.an.length (b.an.flatMap bI.enc),.str m.name,.aH m.bq.length (m.bq.flatMap aY)]),(4,.sl σ.length 0 v 0 i 1),(7,.int .i64 s.length),(8,.int .i64 i)] ([.cells v (((bT b m s).take i).flatMap aY)]::σ)
   (fun x e σ'=>x=.exit 0∧get e 4=.sl σ.length 0 (v+n) 0 (bT b m s).length 1∧σ'=[.cells (v+n) ((bT b m s).flatMap aY)]::σ)
 |0,i,v,hi=>by
  refine aM iI.eq_1 ?_;have h1:¬i<s.length:=by omega
  have h3:(bT b m s).take i=bT b m s:=ai (by rw[Kp];omega);simp[-length_flatMap,-map_take,h1,h3,Kp];omega
 |n+1,i,v,hi=>by
  refine aM iI.eq_1 ?_;have h1:i<s.length:=by omega
  have hn:=h.bv.n;have hl:=hs.len;have h4:=gN h1 (by omega);have hp:=fun σ=>GQ (σ:=σ) h hs (i:=i) (by omega)
  have ih:=FK h hs n (i+1) (v+1) (by omega);have hx:(bT b m s)[i]?=some (lr b m s i):=by simp[bT,h1]
  have a3:=E9 (f:=aY) hx;have a4:=QJ ((bT b m s).take i);rw[jC,Kp,Nat.min_eq_left (by omega)]at a4;have a6:(((bT b m s).take i).flatMap aY).take i=((bT b m s).take i).flatMap aY:=ai (by omega);have h7:(i+1)*8≤room:=by unfold room;omega
  simp[-length_flatMap,-map_take,h1,h4,hp,a4,a6,h7,cM,bu,bw];refine WL.to ih (by simp[cM,bu,bw]) (by simp[← a3]) fun x e σ hh=>by simpa[dZ,Nat.add_comm 1 n]using hh
theorem K2{b:cz}{m:cU}{s:List Rock.aE}(h:Fv b m)(hs:Sv b s)(hσ:σ≠[]):lim T (.call false ir [.agg [.int .i64 b.f.x,.int .i64 b.f.y,.int .i64 b.f.z,.int .i64 b.f.k,.aH b.ct.length (b.ct.flatMap Rw.enc),.int .i64 b.bK,.int .i64 b.lift,.int .i64 b.deep,.aH b.an.length (b.an.flatMap bI.enc),.str m.name,.aH m.bq.length (m.bq.flatMap aY)],.aH s.length (s.flatMap aE.enc)] σ)=some (.val (.aH (bT b m s).length ((bT b m s).flatMap aY)) σ):=by
 refine aw zl kG.eq_1 rfl ?_;simp[-length_flatMap,-map_take,cM,bu,bw];refine WL.to (FK (σ:=σ) h hs s.length 0 0 (by omega)) (by simp) (by simp) ?_;rintro x e σ' ⟨rfl,g4,rfl⟩;simp[-length_flatMap,-map_take,g4];rw[wG (f:=aY) (by decide) (fun _=>rfl) (fun x=>by simp) hσ (by simp)];simp
theorem M9{x:Rock.aE}:lim T (.call false jM [.agg x.enc] σ)=some (.val (.bool x.valid) σ):=by
 refine aw C4 pr.eq_1 rfl ?_;cases hc1:cT x.m 1 1000000
 ·simp[-length_flatMap,-map_take,dO,Rock.aE.valid,hc1]
 cases hc2:cT x.h 0 10000000000
 ·simp[-length_flatMap,-map_take,dO,Rock.aE.valid,hc1,hc2]
 cases hc3:cT x.k 0 1000000000000
 ·simp[-length_flatMap,-map_take,dO,Rock.aE.valid,hc1,hc2,hc3]
 simp[-length_flatMap,-map_take,dO,Rock.aE.valid,hc1,hc2,hc3]
theorem Js{x q m A:Int}(hm:1≤m)(hx:0≤x∧x≤A)(hq:0≤q∧q≤m):0≤(x*q).tdiv m∧(x*q).tdiv m≤A:=by
 have h1:=fw hx.1 hq.1;rw[bx h1];refine⟨Int.ediv_nonneg h1 (by omega),Int.ediv_le_of_le_mul (by omega) ?_⟩;exact l8 hx.2 hq.2 hq.1 (by omega)
theorem Tm{x:Rock.aE}{q:Int}(hm:1≤x.m∧x.m≤1000000)(hh:0≤x.h∧x.h≤10000000000)(hk:0≤x.k∧x.k≤1000000000000)(hq:0≤q∧q≤x.m):
  lim T (.call false l4 [.agg x.enc,.int .i64 q] σ)=some (.val (.agg (x.out q).enc) σ):=by
 refine aw ET si.eq_1 rfl ?_;have b1:=oV hh.1 hh.2 hq.1 (show q≤1000000 by omega);have b2:=oV hk.1 hk.2 hq.1 (show q≤1000000 by omega);have b3:=Js hm.1 hh hq;have b4:=Js hm.1 hk hq;have w1:=fN (n:=x.h*q) (by omega);have w2:=fN (n:=x.k*q) (by omega);have w3:=fN (n:=(x.h*q).tdiv x.m) (by omega);have w4:=fN (n:=(x.k*q).tdiv x.m) (by omega);have hne:¬x.m=0:=by omega
 simp[-length_flatMap,-map_take,w1,w2,w3,w4,hne,Rock.aE.out]
def sm(x:Rock.aE)(n:Int):Prop:=(-n≤x.m∧x.m≤n)∧(-n≤x.h∧x.h≤n)∧(-n≤x.k∧x.k≤n)
theorem GP{F:List Abs.aE}{j v i:Nat}{s:List Rock.aE}{x o:Rock.aE}{sign:Int}(hF:F[j]?=some (.cells v (s.flatMap aE.enc)))(hx:s[i]?=some x)(h1:sm x 1000000000000000000)(h2:sm o 1000000000000000000)(hs:sign=1∨sign = -1):
  lim T (.call false cj [.ref σ.length j v (i*3),.agg o.enc,.int .i64 sign] (F::σ))=some (.val (.dV []) (F.set j (.cells v ((iV s i o sign).flatMap aE.enc))::σ)):=by
 refine fQ DL rp.eq_1 rfl (by simp) ?_;obtain⟨a1,a2,a3⟩:=h1;obtain⟨c1,c2,c3⟩:=h2;have hi:i<s.length:=(aB.1 hx).1;obtain⟨A,B,hA,hAB⟩:∃A B:List D,A.length=i*3∧s.flatMap aE.enc=A++(x.enc++B):=by
  have hd:=BA (f:=aE.enc) (w:=3) (fun _=>rfl) hx;have hlen:=GA s;refine⟨(s.flatMap aE.enc).take (i*3),(s.flatMap aE.enc).drop (i*3+3),by rw[jC];omega,?_⟩;rw[← hd,List.take_append_drop]
 have hset:(iV s i o sign).flatMap aE.enc=A++((x.move o sign).enc++B):=by
  have h3:=QM (f:=aE.enc) (w:=3) (fun _=>rfl) (x:=x.move o sign) hi;have hblk:bP s i=x:=by simp[bP,hx]
  rw[iV,hblk,← h3,hAB];have e1:(A++(x.enc++B)).take (i*3)=A:=by rw[← hA];simp
  have e2:(A++(x.enc++B)).drop (i*3+3)=B:=by
   rw[← iE,← hA];simp
  rw[e1,e2]
 rw[hAB]at hF;rw[hset];have hj:j<F.length:=(aB.1 hF).1;have gs:∀X:Abs.aE,(F.set j X)[j]?=some X:=fun X=>by simp[hj]
 clear hset hAB hx hj;have t1:∀L:List D,(A++L).take (A.length+1)=A++L.take 1:=fun L=>by rw[List.take_length_add_append]
 have t2:∀L:List D,(A++L).take (A.length+1+1)=A++L.take 2:=fun L=>by rw[dZ,List.take_length_add_append]
 have d2:∀L:List D,(A++L).drop (A.length+1+1)=L.drop 2:=fun L=>by rw[dZ,cV]
 have d1:∀L:List D,(A++L).drop (A.length+1)=L.drop 1:=fun L=>by rw[cV]
 have d3:∀L:List D,(A++L).drop (A.length+1+1+1)=L.drop 3:=fun L=>by rw[dZ,dZ,cV]
 have k1:A.length+1+1≤A.length+(B.length+1+1+1):=by omega
 have k2:A.length+1+1+1≤A.length+(B.length+1+1+1):=by omega
 have k3:A.length+1≤A.length+(B.length+1+1+1):=by omega
 have k4:A.length+2+1≤A.length+(B.length+1+1+1):=by omega
 have d4:∀L:List D,(A++L).drop (A.length+2)=L.drop 2:=fun L=>by rw[cV]
 have d5:∀L:List D,(A++L).drop (A.length+2+1)=L.drop 3:=fun L=>by rw[dZ,cV]
 have t4:∀L:List D,(A++L).take (A.length+2)=A++L.take 2:=fun L=>by rw[List.take_length_add_append]
 have y1:=fN (n:=o.m) (by omega);have y2:=fN (n:=o.h) (by omega);have y3:=fN (n:=o.k) (by omega);have y4:=fN (n := -o.m) (by omega);have y5:=fN (n := -o.h) (by omega);have y6:=fN (n := -o.k) (by omega);rcases hs with rfl | rfl
 ·have w1:=fN (n:=x.m+o.m) (by omega);have w2:=fN (n:=x.h+o.h) (by omega);have w3:=fN (n:=x.k+o.k) (by omega);simp[-length_flatMap,-map_take,hF,gs,← hA,w1,w2,w3,y1,y2,y3,t1,t2,t4,d1,d2,d3,d4,d5,k1,k2,k3,k4,Rock.aE.move]
 ·have w1:=fN (n:=x.m + -o.m) (by omega);have w2:=fN (n:=x.h + -o.h) (by omega);have w3:=fN (n:=x.k + -o.k) (by omega);simp[-length_flatMap,-map_take,hF,gs,← hA,w1,w2,w3,y4,y5,y6,t1,t2,t4,d1,d2,d3,d4,d5,k1,k2,k3,k4,Rock.aE.move]
theorem af3{w:bI}{r:Int}(hr : -100000≤r∧r≤100000)(h1:0≤w.h∧w.h≤3000)(h2:0≤w.m∧w.m≤1000000):
  lim T (.call false nQ [.agg w.enc,.int .i64 r] σ)=some (.val (.agg (w.given r).enc) σ):=by
 refine aw DM rq.eq_1 rfl ?_;have b1 : -300000000≤r*w.h∧r*w.h≤300000000:=by
  rcases ni 0 r with h | h
  ·have:=oV h hr.2 h1.1 h1.2;omega
  ·have:=oV (a := -r) (A:=100000) (by omega) (by omega) h1.1 h1.2;rw[Int.neg_mul]at this;omega
 have b2 : -100000000000≤r*w.m∧r*w.m≤100000000000:=by
  rcases ni 0 r with h | h
  ·have:=oV h hr.2 h2.1 h2.2;omega
  ·have:=oV (a := -r) (A:=100000) (by omega) (by omega) h2.1 h2.2;rw[Int.neg_mul]at this;omega
 have w1:=fN (n := -r) (by omega);have w2:=fN (n := -(r*w.h)) (by omega);have w3:=fN (n := -(r*w.m)) (by omega);simp[-length_flatMap,-map_take,w1,w2,w3,bI.given,Int.neg_mul]
theorem atu{b:cz}{m:cU}(h:Fv b m){i:Nat}(hi:i<b.n):lim T (.call false nS [.agg [.int .i64 b.f.x,.int .i64 b.f.y,.int .i64 b.f.z,.int .i64 b.f.k,.aH b.ct.length (b.ct.flatMap Rw.enc),.int .i64 b.bK,.int .i64 b.lift,.int .i64 b.deep,.aH b.an.length (b.an.flatMap bI.enc),.str m.name,.aH m.bq.length (m.bq.flatMap aY)],.int .i64 i] σ)=some (.val (.agg (NH b m i).enc) σ):=by
 refine aw DQ rA.eq_1 rfl ?_;have hf:=fun σ=>anc (σ:=σ) h.toMv hi
 have b1:=h.feed i hi;have b2:=h.bv.deep;have b3:=oV b1.1 b1.2 b2.1 b2.2;have w1:=fN (n:=feed b m i*b.deep) (by omega);simp[-length_flatMap,-map_take,hf,w1,NH]
theorem afW{s:List Rock.aE}{bs:List Abs.aE}(hl:s.length≤1000000)(hne:s≠[]):lim T (.call true cS [.aH s.length (s.flatMap aE.enc)] (bs::σ)) =
  some (.val (.sl σ.length (bs.length+1) 1 0 s.length 3) ((bs++[.cells 0 [],.cells 1 (s.flatMap aE.enc)])::σ)):=by
 refine tc sD dN.eq_1 rfl ?_;have h7:s.length*24≤room:=by unfold room;omega
 simp[-length_flatMap,-map_take,hne,GA,h7]
theorem af6{b:cz}:lim T (.call false oM [.agg [.int .i64 b.f.x,.int .i64 b.f.y,.int .i64 b.f.z,.int .i64 b.f.k,.aH b.ct.length (b.ct.flatMap Rw.enc),.int .i64 b.bK,.int .i64 b.lift,.int .i64 b.deep,.aH b.an.length (b.an.flatMap bI.enc)]] σ)=some (.val (.fn jJ [] [.bB [.int .i64 b.f.x,.int .i64 b.f.y,.int .i64 b.f.z,.int .i64 b.f.k,.aH b.ct.length (b.ct.flatMap Rw.enc),.int .i64 b.bK,.int .i64 b.lift,.int .i64 b.deep,.aH b.an.length (b.an.flatMap bI.enc)]]) σ):=by
 refine aw EP se.eq_1 rfl ?_;simp[-length_flatMap,-map_take,cM,bu,bw]
theorem Bv.xy{b:cz}(h:Bv b):b.f.x=(b.f.x.toNat:Int)∧b.f.y=(b.f.y.toNat:Int)∧1≤b.f.x.toNat*b.f.y.toNat∧b.f.x.toNat*b.f.y.toNat≤64:=by
 have hx:=h.x;have hy:=h.y;obtain⟨s1,_⟩:=gb.sz h.x h.y h.z;have e1:b.f.x*b.f.y=((b.f.x.toNat*b.f.y.toNat:Nat):Int):=by push_cast;rw[eP (by omega),eP (by omega)]
 rw[e1]at s1;refine⟨by omega,by omega,by omega,by omega⟩
theorem Bv.nat{b:cz}(h:Bv b):b.n=b.f.x.toNat*b.f.y.toNat*b.f.z.toNat∧1≤b.f.x.toNat∧1≤b.f.y.toNat:=by
 have hx:=h.x;have hy:=h.y;have hz:=h.z;have hs:=h.sz;refine⟨?_,by omega,by omega⟩;have:((b.f.x.toNat*b.f.y.toNat*b.f.z.toNat:Nat):Int)=b.f.size:=by
  push_cast;rw[eP (by omega),eP (by omega),eP (by omega)];rfl
 omega
theorem amD{X W i n:Nat}(hn:n=X*W)(hi:i<n)(hc:(i+1)%X≠0):i+1<n:=by
 rcases Nat.lt_or_ge (i+1) n with h | h
 ·exact h
 ·have:i+1=X*W:=by omega
  rw[this,Nat.mul_mod_right]at hc;exact absurd rfl hc
theorem link2{X Y Z i n:Nat}(hX:1≤X)(hY:1≤Y)(hn:n=X*Y*Z)(hi:i<n)(hc:i / X%Y≠Y-1):i+X<n:=by
 have h1:i / X<Y*Z:=by rw[Nat.div_lt_iff_lt_mul hX,Nat.mul_comm,← Nat.mul_assoc];omega
 have h2:i / X+1<Y*Z:=by
  rcases Nat.lt_or_ge (i / X+1) (Y*Z)with h | h
  ·exact h
  ·exfalso
   have h3:i / X+1=Y*Z:=by omega
   have hZ:1≤Z:=by
    rcases Nat.eq_zero_or_pos Z with h0 | h0
    ·subst h0;omega
    ·exact h0
   have h4:i / X=Y*(Z-1)+(Y-1):=by
    have:Y*Z=Y*(Z-1)+Y:=by rw[← Nat.mul_succ];congr 1;omega
    omega
   rw[h4,Nat.mul_add_mod,Nat.mod_eq_of_lt (by omega)]at hc;exact hc rfl
 have h3:i<(i / X+1)*X:=by
  have:=Nat.div_add_mod i X;have h4:=Nat.mod_lt i (show X>0 by omega);rw[jg,Nat.one_mul,Nat.mul_comm (i / X) X];omega
 have h5:(i / X+1)*X+X≤n:=by
  have:(i / X+1+1)*X≤Y*Z*X:=dt _ h2;rw[jg (i / X+1) 1 X,Nat.one_mul,Nat.mul_comm (Y*Z) X,← Nat.mul_assoc]at this;omega
 omega
theorem OH{b:cz}(h:Bv b){lv j N:Nat}{St:List (Nat×Nat)→SK}(hN:∀pre,(St pre).length=N)
  (hR:∀pre,∀l:Nat×Nat,l.1<b.n→l.2<b.n→l.1≠l.2→lim T (.round lv j [.agg [.int .i64 l.1,.int .i64 l.2]] ([]::St pre))=some (.val (.bool true) ([]::St (pre++[l])))):∀(n i:Nat) (pre:List (Nat×Nat)),i+n=b.n →
  WL T [0,1,3,4,13,14] false mM [(0,.l7 lv j),(1,.bB [.int .i64 b.f.x,.int .i64 b.f.y,.int .i64 b.f.z,.int .i64 b.f.k,.aH b.ct.length (b.ct.flatMap Rw.enc),.int .i64 b.bK,.int .i64 b.lift,.int .i64 b.deep,.aH b.an.length (b.an.flatMap bI.enc)]),(3,.int .i64 b.f.x),(4,.int .i64 b.f.y),(13,.int .i64 b.n),(14,.int .i64 i)] ([]::St pre)
   (fun x e σ'=>σ'=[]::St (pre++((List.range b.n).drop i).flatMap (yq b))∧x=.exit 0)
 |0,i,pre,hi=>by
  refine aM mM.eq_1 ?_;have h1:¬i<b.n:=by omega
  have h2:(List.range b.n).drop i=[]:=aA (by simp;omega);simp[-length_flatMap,-map_take,h1,h2]
 |n+1,i,pre,hi=>by
  refine aM mM.eq_1 ?_;have h1:i<b.n:=by omega
  have hn:=h.n;have hx:=h.x;have hy:=h.y;obtain⟨eX,eY,p1,p2⟩:=h.xy;have h4:=gN h1 (by omega);have hs:=fun σ=>zg (σ:=σ) h
  have h5:(List.range b.n).drop i=i::(List.range b.n).drop (i+1):=cq (by simp[h1]);have w1:=fN (n:=b.f.x*b.f.y) (by rw[eX,eY];omega);obtain⟨hnn,X1,Y1⟩:=h.nat;have hx0:¬b.f.x=0:=by omega
  have hy0:¬b.f.y=0:=by omega
  have ih:=fun pre=>OH h hN hR n (i+1) pre (by omega)
  have e1:((i:Int)+1).tmod b.f.x=(((i+1)%b.f.x.toNat:Nat):Int):=by
   conv=>lhs;rw[eX]
   rfl
  have e2:(i:Int) / b.f.x=((i / b.f.x.toNat:Nat):Int):=by
   conv=>lhs;rw[eX]
   rfl
  have e2b:(i:Int).tdiv b.f.x=((i / b.f.x.toNat:Nat):Int):=by
   conv=>lhs;rw[eX]
   rfl
  have e3:((i / b.f.x.toNat:Nat):Int).tmod b.f.y=((i / b.f.x.toNat%b.f.y.toNat:Nat):Int):=by
   conv=>lhs;rw[eY]
   rfl
  have e4:b.f.x*b.f.y=((b.f.x.toNat*b.f.y.toNat:Nat):Int):=by
   conv=>lhs;rw[eX,eY]
   rfl
  have hq:i / b.f.x.toNat≤i:=Nat.div_le_self _ _;have hr1:(i+1)%b.f.x.toNat≤i+1:=Nat.mod_le _ _;have hr2:i / b.f.x.toNat%b.f.y.toNat≤i / b.f.x.toNat:=Nat.mod_le _ _;have l1:=amD (W:=b.f.y.toNat*b.f.z.toNat) (by rw[hnn,Nat.mul_assoc]) h1;have l2:=link2 (Z:=b.f.z.toNat) X1 Y1 hnn h1;have R1:=fun pre hc=>hR pre (i,i+1) h1 (l1 hc) (by simp)
  have R2:=fun pre hc=>hR pre (i,i+b.f.x.toNat) h1 (l2 hc) (by simp;omega)
  have R3:=fun pre hc=>hR pre (i,i+b.f.x.toNat*b.f.y.toNat) h1 hc (by simp;omega)
  have z2:((i+b.f.x.toNat:Nat):Int)=(i:Int)+b.f.x:=by omega
  have z3:((i+b.f.x.toNat*b.f.y.toNat:Nat):Int)=(i:Int)+b.f.x*b.f.y:=by rw[e4];omega
  have z1:((i+1:Nat):Int)=(i:Int)+1:=rfl;simp only[z1,z2,z3]at R1 R2 R3;generalize hA:i / b.f.x.toNat=A at *
  generalize hB:A%b.f.y.toNat=B at *
  generalize hC:(i+1)%b.f.x.toNat=C at *
  generalize hP:b.f.x.toNat*b.f.y.toNat=P at *
  have v1:=fN (n:=(A:Int)) (by omega);have v2:=fN (n:=(B:Int)) (by omega);have v3:=fN (n:=(C:Int)) (by omega);have v4:=fN (n:=b.f.y-1) (by omega);have v5:=fN (n:=(i:Int)+b.f.x) (by omega);have v6:=fN (n:=(i:Int)+b.f.x*b.f.y) (by rw[e4];omega);have v7:=fN (n:=b.f.x*b.f.y) (by rw[e4];omega);have c3:((i:Int)+b.f.x*b.f.y<(b.n:Int))↔(i+P<b.n):=by rw[e4];omega
  have hL:yq b i=(if C≠0 then [(i,i+1)]else [])++((if B≠b.f.y.toNat-1 then [(i,i+b.f.x.toNat)]else [])++(if i+P<b.n then [(i,i+P)]else [])):=by
   unfold yq;rw[hC,hA,hB,hP]
  rw[h5,aS,hL];clear hL hnn l1 l2;have t1:((C:Int)=0)↔(C=0):=by omega
  have t2:((B:Int)=b.f.y-1)↔(B=b.f.y.toNat-1):=by omega
  by_cases k1:C=0<;>by_cases k2:B=b.f.y.toNat-1<;>by_cases k3:i+P<b.n;all_goals
   first | (have u1:=t1.2 k1) | (have u1:=mt t1.1 k1)
   first | (have u2:=t2.2 k2) | (have u2:=mt t2.1 k2)
   have ih':=ih (pre++((if C≠0 then [(i,i+1)]else [])++((if B≠b.f.y.toNat-1 then [(i,i+b.f.x.toNat)]else [])++(if i+P<b.n then [(i,i+P)]else []))));first
    |(rw[if_neg (not_not_intro k1)]at ih' ⊢) | (rw[if_pos k1]at ih' ⊢)
   first
    |(rw[if_neg (not_not_intro k2)]at ih' ⊢) | (rw[if_pos k2]at ih' ⊢)
   first
    |(rw[if_neg k3]at ih' ⊢) | (rw[if_pos k3]at ih' ⊢)
   have g1:=fun pre=>R1 pre
   have g2:=fun pre=>R2 pre
   have g3:=fun pre=>R3 pre
   first | (have g1:=fun pre=>R1 pre k1) | skip
   first | (have g2:=fun pre=>R2 pre k2) | skip
   first | (have g3:=fun pre=>R3 pre k3) | skip
   simp[-length_flatMap,-map_take,h1,h4,hx0,hy0,e1,e2,e2b,e3,v1,v2,v3,v4,v5,v6,v7,c3,u1,u2,k1,k3,hs,g1,g2,g3];refine WL.to ih' (by simp) (by simp) fun x e σ hh=>by simpa using hh
theorem Tg{b:cz}(h:Bv b){lv j N:Nat}{St:List (Nat×Nat)→SK}(hN:∀pre,(St pre).length=N)
  (hR:∀pre,∀l:Nat×Nat,l.1<b.n→l.2<b.n→l.1≠l.2→lim T (.round lv j [.agg [.int .i64 l.1,.int .i64 l.2]] ([]::St pre))=some (.val (.bool true) ([]::St (pre++[l])))):
  lim T (.call false jJ [.l7 lv j,.bB [.int .i64 b.f.x,.int .i64 b.f.y,.int .i64 b.f.z,.int .i64 b.f.k,.aH b.ct.length (b.ct.flatMap Rw.enc),.int .i64 b.bK,.int .i64 b.lift,.int .i64 b.deep,.aH b.an.length (b.an.flatMap bI.enc)]] (St []))=some (.val (.dV []) (St (Jn b))):=by
 refine fQ CY pk.eq_1 rfl (by rw[hN,hN]) ?_;have hs:=fun σ=>zg (σ:=σ) h
 simp[-length_flatMap,-map_take,hs];refine WL.to (OH h hN hR b.n 0 [] (by omega)) (by simp) rfl ?_;rintro x e σ' ⟨rfl,rfl⟩;simp[-length_flatMap,-map_take,Jn]
def DF(es:List ((Nat×Nat)×Rock.aE)):List D:=es.map fun e => .dV [.agg [.int .i64 e.1.1,.int .i64 e.1.2],.agg e.2.enc]
def kyL:Ky:=some (true,[some .i64,some .i64])
theorem avF{a b:Nat×Nat}:tG kyL (.agg [.int .i64 a.1,.int .i64 a.2]) (.agg [.int .i64 b.1,.int .i64 b.2])=some (b == a):=by
 simp only[tG,kyL,D.row,Ac,and_self,if_true,aR,Bool.and_true];congr 1;rw[Bool.eq_iff_iff];simp only[af,beq_iff_eq];constructor
 ·rintro⟨h1,h2⟩;exact Prod.ext (by omega) (by omega)
 ·rintro rfl;exact⟨rfl,rfl⟩
theorem LH{k:Nat×Nat}:∀{es:List ((Nat×Nat)×Rock.aE)},∃r,rM kyL (.agg [.int .i64 k.1,.int .i64 k.2]) (DF es)=some r∧r.map Prod.fst=es.findIdx? (fun e=>e.1 == k)
 |[]=>⟨none,rfl,rfl⟩
 |e::es=>by
  obtain⟨r,h1,h2⟩:=LH (k:=k) (es:=es);simp only[DF,aL]at h1 ⊢;simp only[rM,avF];cases hk:e.1 == k
  ·refine⟨_,by rw[h1];rfl,?_⟩;rw[List.findIdx?_cons,hk,← h2];cases r<;>rfl
  ·exact⟨_,rfl,by rw[List.findIdx?_cons,hk];rfl⟩
theorem aeZ{S:SK}{l i:Nat}{es:List ((Nat×Nat)×Rock.aE)}{k:Nat×Nat}{o:Rock.aE}(h:cells? S l i 0=some (DF es)):
  AY S (.put kyL) [.l7 l i,.agg [.int .i64 k.1,.int .i64 k.2],.agg o.enc]=some (.undef,aV S l i (.cells 0 (DF (SE es k o)))):=by
 obtain⟨r,h1,h2⟩:=LH (k:=k) (es:=es);simp only[AY,AX,h,aR,h1,avF,Option.isSome_some,true_and];rw[if_pos (.inr ⟨by simp[D.clean],by simp[D.clean]⟩)];unfold SE;rw[← h2];cases r with
 |none=>simp[DF]
 |some y=>simp[DF,List.map_set]
theorem HQ{x:Rock.aE}{A:Int}(hA:10000≤A):∀(t:List Rw) (o:Int),(∀r∈t,r.alone=true)→(0≤o∧o≤A)→0≤t.foldl (qY x) o∧t.foldl (qY x) o≤A
 |[],o,_,h=>h
 |r::t,o,ht,h=>by
  have h1:=afc (ht r (by simp));refine HQ hA t _ (fun r hr=>ht r (by simp[hr])) ?_;unfold qY;split<;>omega
theorem Kq{b:cz}{m:cU}{s:List Rock.aE}(h:Fv b m)(hs:Sv b s){i:Nat}(hi:i<b.n):0≤lr b m s i∧lr b m s i≤200000000000:=by
 have htab:=h.bv.ct;simp only[kS,af]at htab;refine HQ (by omega) _ _ (j7.1 htab.2.1) ?_;have b5:=BN h.bv hi;have b1:=h.hold i hi;obtain⟨hx,b2,b3,b4⟩:=hs.at hi;have hst:=h.bv.bK;have b6:b.bK*((bP s i).m-hold b m i)≤100000000000:=by
  rcases ni (hold b m i) (bP s i).m with hh | hh
  ·have:=oV (a:=b.bK) (b:=(bP s i).m-hold b m i) (A:=100000) (B:=1000000) (by omega) hst.2 (by omega) (by omega);omega
  ·have:=oV (a:=b.bK) (b:=hold b m i-(bP s i).m) (A:=100000) (B:=1000000) (by omega) hst.2 (by omega) (by omega);have e:b.bK*((bP s i).m-hold b m i) = - (b.bK*(hold b m i-(bP s i).m)):=by rw[← Int.mul_neg];congr 1;omega
   omega
 have b7:down (b.bK*((bP s i).m-hold b m i)) (hold b m i)≤100000000000:=by
  unfold down;have:=Int.ediv_le_self (b:=hold b m i) (a:=b.bK*((bP s i).m-hold b m i));rcases ni 0 (b.bK*((bP s i).m-hold b m i))with hh | hh
  ·have:=this hh;omega
  ·have:=Int.ediv_le_of_le_mul (b:=0) (show 0<hold b m i by omega) (by omega:b.bK*((bP s i).m-hold b m i)≤0*hold b m i);omega
 omega
theorem xk{O:bM}{c c':cF}(hc:c=c'){e:Env}{σ:SK}{Q:Abs.Exit→Env→SK→Prop}:WC O c e σ Q .mk .mk=WC O c' e σ Q .mk .mk:=by subst hc;rfl
def Sp(b:cz)(m:cU)(s:List Rock.aE)(L:Nat):we :=
 {state:=0,wv:=none,env:=[(2,.bB [.int .i64 b.f.x,.int .i64 b.f.y,.int .i64 b.f.z,.int .i64 b.f.k,.aH b.ct.length (b.ct.flatMap Rw.enc),.int .i64 b.bK,.int .i64 b.lift,.int .i64 b.deep,.aH b.an.length (b.an.flatMap bI.enc),.str m.name,.aH m.bq.length (m.bq.flatMap aY)]),(3,.bB [.aH s.length (s.flatMap aE.enc)]),(4,.undef),(5,.ref L 3 0 0),(6,.ref L 4 0 0)],params:=[18],zd:=kF,body:=dQ }
def SM(A B:Abs.aE)(b:cz)(m:cU)(s:List Rock.aE)(σ:SK)(es:List ((Nat×Nat)×Rock.aE)):SK :=
 [A,B,.cells 0 (DF es),.cells 0 [.l7 σ.length 2],.cells 0 [.aH (bT b m s).length ((bT b m s).flatMap aY)],.loop (Sp b m s σ.length)]::σ
theorem anI{A B:Abs.aE}{b:cz}{m:cU}{s:List Rock.aE}(h:Fv b m)(hs:Sv b s)(es:List ((Nat×Nat)×Rock.aE))(l:Nat×Nat)(h1:l.1<b.n)(h2:l.2<b.n):
  lim T (.round σ.length 5 [.agg [.int .i64 l.1,.int .i64 l.2]] ([]::SM A B b m s σ es))=some (.val (.bool true) ([]::SM A B b m s σ (pU b m s (bT b m s) es l))):=by
 have hn:=h.bv.n;have hl:=hs.len;have hp1:(bT b m s)[l.1]?=some (lr b m s l.1):=by simp[bT,hl,h1]
 have hp2:(bT b m s)[l.2]?=some (lr b m s l.2):=by simp[bT,hl,h2]
 have a1:=rH hp1;have a2:=rH hp2;have hpl:(bT b m s).length=b.n:=by rw[Kp,hl]
 have bp1:=Kq h hs h1;have bp2:=Kq h hs h2;have bw1:=BN h.bv h1;have bw2:=BN h.bv h2;have cw1:=fun σ=>GU (σ:=σ) (m:=m) h.bv h1
 have cw2:=fun σ=>GU (σ:=σ) (m:=m) h.bv h2
 have co1:=fun σ=>Tl (σ:=σ) h.toMv h1
 have co2:=fun σ=>Tl (σ:=σ) h.toMv h2
 have bo1:=h.IA l.1 h1;have bo2:=h.IA l.2 h2;obtain⟨x1,m1,m2,m3⟩:=hs.at h1;obtain⟨y1,n1,n2,n3⟩:=hs.at h2;have f1:=bW (f:=aE.enc) (w:=3) (fun _=>rfl) x1;have f2:=bW (f:=aE.enc) (w:=3) (fun _=>rfl) y1;have w1:=fN (n:=lr b m s l.1-weight b l.1) (by omega);have w2:=fN (n:=lr b m s l.1-weight b l.1-lr b m s l.2) (by omega);have w3:=fN (n:=lr b m s l.1-weight b l.1-lr b m s l.2+weight b l.2) (by omega);have hL1:l.1<s.length:=by omega
 have hL2:l.2<s.length:=by omega
 have hE:pU b m s (bT b m s) es l=pU b m s (bT b m s) es l:=rfl
 conv at hE=>rhs;unfold pU Ka
 simp only[hp1,hp2,ic]at hE;generalize pU b m s (bT b m s) es l=es' at *
 have hmin:0≤min (IA b m l.2) (IA b m l.1)∧min (IA b m l.2) (IA b m l.1)≤1000:=by omega
 have hmin':0≤min (IA b m l.1) (IA b m l.2)∧min (IA b m l.1) (IA b m l.2)≤1000:=by omega
 generalize hw1:weight b l.1=W1 at *
 generalize hw2:weight b l.2=W2 at *
 generalize hq1:lr b m s l.1=P1 at *
 generalize hq2:lr b m s l.2=P2 at *
 generalize hD:P1-W1-P2+W2=d at *
 refine Es (lp:=Sp b m s σ.length) (by simp[SM]) rfl ?_;rw[show(Sp b m s σ.length).zd=kF from rfl,kF.eq_1,show(Sp b m s σ.length).body=dQ from rfl];by_cases hd:d<0
 ·simp only[hd,if_true]at hE;have b3:=oV hmin.1 hmin.2 (show 0 ≤ -d by omega) (show -d≤1000000000000 by omega);have w4:=fN (n := -d) (by omega);have d1:=bx (b:=1000) b3.1;have d2:=bx (b:=8) (show 0≤(bP s l.2).m by omega);generalize hX:min (IA b m l.2) (IA b m l.1) * -d=X at *
  have w5:=fN (n:=X) (by omega);generalize hY:X.tdiv 1000=Y at *
  generalize hZ:(bP s l.2).m.tdiv 8=Z at *
  have w6:=fN (n:=Y) (by rw[d1];omega);have w7:=fN (n:=Z) (by rw[d2];omega);by_cases hq:0<min Y Z
  ·have hO:=fun σ=>Tm (σ:=σ) (q:=min Y Z) n1 n2 n3 ⟨by omega,by rw[d2];omega⟩
   have hP:=fun S h=>aeZ (S:=S) (l:=σ.length) (i:=2) (es:=es) (k:=(l.2,l.1)) (o:=(bP s l.2).out (min Y Z)) h
   rw[if_pos hq]at hE;simp only at hE;subst hE;generalize (bP s l.2).out (min Y Z)=O at *
   simp only[aE.enc]at hO;simp only[aE.enc,kyL]at hP;simp[-length_flatMap,-map_take,xk dQ.eq_1,Sp,SM,Mj,hpl,h1,h2,a1,a2,cw1,cw2,w1,w2,w3,hD,hd,co1,co2,hL1,hL2,f1,f2,w4,w5,w6,w7,hX,hY,hZ,hq,hO,hP]
  ·rw[if_neg hq]at hE;simp only at hE;subst hE;simp[-length_flatMap,-map_take,xk dQ.eq_1,Sp,SM,Mj,hpl,h1,h2,a1,a2,cw1,cw2,w1,w2,w3,hD,hd,co1,co2,hL1,hL2,f1,f2,w4,w5,w6,w7,hX,hY,hZ,hq]
 ·simp only[hd,if_false]at hE;have b3:=oV hmin'.1 hmin'.2 (show 0≤d by omega) (show d≤1000000000000 by omega);have w4:=fN (n:=d) (by omega);have d1:=bx (b:=1000) b3.1;have d2:=bx (b:=8) (show 0≤(bP s l.1).m by omega);generalize hX:min (IA b m l.1) (IA b m l.2)*d=X at *
  have w5:=fN (n:=X) (by omega);generalize hY:X.tdiv 1000=Y at *
  generalize hZ:(bP s l.1).m.tdiv 8=Z at *
  have w6:=fN (n:=Y) (by rw[d1];omega);have w7:=fN (n:=Z) (by rw[d2];omega);by_cases hq:0<min Y Z
  ·have hO:=fun σ=>Tm (σ:=σ) (q:=min Y Z) m1 m2 m3 ⟨by omega,by rw[d2];omega⟩
   have hP:=fun S h=>aeZ (S:=S) (l:=σ.length) (i:=2) (es:=es) (k:=l) (o:=(bP s l.1).out (min Y Z)) h
   rw[if_pos hq]at hE;simp only at hE;subst hE;generalize (bP s l.1).out (min Y Z)=O at *
   simp only[aE.enc]at hO;simp only[aE.enc,kyL]at hP;simp[-length_flatMap,-map_take,xk dQ.eq_1,Sp,SM,Mj,hpl,h1,h2,a1,a2,cw1,cw2,w1,w2,w3,hD,hd,co1,co2,hL1,hL2,f1,f2,w4,w5,w6,w7,hX,hY,hZ,hq,hO,hP]
  ·rw[if_neg hq]at hE;simp only at hE;subst hE;simp[-length_flatMap,-map_take,xk dQ.eq_1,Sp,SM,Mj,hpl,h1,h2,a1,a2,cw1,cw2,w1,w2,w3,hD,hd,co1,co2,hL1,hL2,f1,f2,w4,w5,w6,w7,hX,hY,hZ,hq]
theorem af2{A B:Abs.aE}{b:cz}{m:cU}{s:List Rock.aE}(h:Fv b m)(hs:Sv b s):∃X Y Z:Abs.aE,
  lim T (.call true lg [.agg [.int .i64 b.f.x,.int .i64 b.f.y,.int .i64 b.f.z,.int .i64 b.f.k,.aH b.ct.length (b.ct.flatMap Rw.enc),.int .i64 b.bK,.int .i64 b.lift,.int .i64 b.deep,.aH b.an.length (b.an.flatMap bI.enc),.str m.name,.aH m.bq.length (m.bq.flatMap aY)],.aH s.length (s.flatMap aE.enc)] ([A,B]::σ))=some (.val (.l7 σ.length 2) ([A,B,.cells 0 (DF (vR b m s)),X,Y,Z]::σ)):=by
 refine⟨.cells 0 [.l7 σ.length 2],.cells 0 [.aH (bT b m s).length ((bT b m s).flatMap aY)],.loop {Sp b m s σ.length with state:=3 },?_⟩;refine tc Cq ov.eq_1 rfl ?_;have hp:=fun σ hσ=>K2 (σ:=σ) h hs hσ
 have hl:=Tg (b:=b) h.bv (lv:=σ.length) (j:=5) (N:=σ.length+1) (St:=fun pre=>SM A B b m s σ (pre.foldl (pU b m s (bT b m s)) [])) (fun pre=>by simp[SM])
  (fun pre l h1 h2 _=>by rw[List.foldl_append];exact anI h hs _ l h1 h2)
 have hm:AY ([A,B]::σ) .make []=some (.l7 σ.length 2,[A,B,.cells 0 (DF [])]::σ):=by simp[AY,DF]
 simp[-length_flatMap,-map_take,hp,af6,cM,bu,bw,Hs,hm];refine DU (d:=.dV []) (σ2:=SM A B b m s σ (vR b m s)) (lp:=Sp b m s σ.length) (by simp;exact⟨rfl,rfl,rfl⟩) ?_ (by simp[SM]) (by simp[Sp]) ?_
 ·simpa[Sp,SM,vR]using hl
 ·simp[-length_flatMap,-map_take,Sp,SM]
end Go.Proofs.YtfgljaglidhjiaaGreatDoor
namespace Go.Proofs.YtfgljaglidhjiaaGreatDoor
open List(length_flatMap map_take)
open Go Go.Abs Go.Rock
def BV(N:Int)(s:List Rock.aE):Prop:=∀x∈s,sm x N
theorem kR{x:Rock.aE}{N M:Int}(h:sm x N)(hN:N≤M):sm x M:=by
 obtain⟨h1,h2,h3⟩:=h;exact⟨⟨by omega,by omega⟩,⟨by omega,by omega⟩,⟨by omega,by omega⟩⟩
theorem Hn{N:Int}{s:List Rock.aE}(h:BV N s){i:Nat}(hi:i<s.length):s[i]?=some (bP s i)∧sm (bP s i) N:=by
 have h2:s[i]?=some (bP s i):=by simp[bP,hi]
 exact⟨h2,h _ (aj h2)⟩
theorem El{s:List Rock.aE}{i:Nat}{o:Rock.aE}{sign:Int}:(iV s i o sign).length=s.length:=by simp[iV]
theorem zz{N M:Int}{s:List Rock.aE}(h:BV N s){i:Nat}{o:Rock.aE}{sign:Int}(ho:sm o M)(hs:sign=1∨sign = -1)(hM:0≤M):BV (N+M) (iV s i o sign):=by
 intro x hx;unfold iV at hx;by_cases hi:i<s.length
 ·rcases List.mem_or_eq_of_mem_set hx with hx | rfl
  ·exact kR (h x hx) (by omega)
  ·obtain⟨a1,a2,a3⟩:=(Hn h hi).2;obtain⟨b1,b2,b3⟩:=ho;rcases hs with rfl | rfl
   ·exact⟨⟨by simp only[Rock.aE.move];omega,by simp only[Rock.aE.move];omega⟩,⟨by simp only[Rock.aE.move];omega,by simp only[Rock.aE.move];omega⟩,⟨by simp only[Rock.aE.move];omega,by simp only[Rock.aE.move];omega⟩⟩
   ·exact⟨⟨by simp only[Rock.aE.move];omega,by simp only[Rock.aE.move];omega⟩,⟨by simp only[Rock.aE.move];omega,by simp only[Rock.aE.move];omega⟩,⟨by simp only[Rock.aE.move];omega,by simp only[Rock.aE.move];omega⟩⟩
 ·rw[List.set_eq_of_length_le (by omega)]at hx;exact kR (h x hx) (by omega)
theorem B4{s:List Rock.aE}{i j:Nat}{o p:Rock.aE}{a c:Int}:iV (iV s i o a) j p c=iV (iV s j p c) i o a:=by
 by_cases hij:i=j
 ·subst hij;by_cases hi:i<s.length
  ·simp only[iV,bP,List.getElem?_set_self hi,ic,List.set_set,Rock.aE.move];congr 2<;>omega
  ·simp only[iV,List.set_eq_of_length_le (show s.length≤i by omega)]
 ·have hji:¬j=i:=fun h=>hij h.symm
  simp only[iV,bP,List.getElem?_set_ne hij,List.getElem?_set_ne hji];rw[List.set_comm _ _ hij]
theorem Sc{s:List Rock.aE}{e f:(Nat×Nat)×Rock.aE}:fe (fe s e) f=fe (fe s f) e:=by
 unfold fe;rw[B4 (i:=e.1.2) (j:=f.1.1),B4 (i:=e.1.1) (j:=f.1.1),B4 (i:=e.1.2) (j:=f.1.2),B4 (i:=e.1.1) (j:=f.1.2)]
theorem LM{s:List Rock.aE}{e:(Nat×Nat)×Rock.aE}:(fe s e).length=s.length:=by simp[fe,El]
def IH(es:List ((Nat×Nat)×Rock.aE))(s:List Rock.aE)(j:Nat):List Rock.aE:=match es[j]? with | some e=>fe s e | none=>s
theorem aft{es:List ((Nat×Nat)×Rock.aE)}{s:List Rock.aE}{i j:Nat}:IH es (IH es s i) j=IH es (IH es s j) i:=by
 unfold IH;cases es[i]? <;> cases es[j]? <;> simp[Sc]
theorem ahE{es:List ((Nat×Nat)×Rock.aE)}{s:List Rock.aE}{j:Nat}:(IH es s j).length=s.length:=by
 unfold IH;split<;>simp[LM]
theorem JE:∀(es:List ((Nat×Nat)×Rock.aE)) (s:List Rock.aE) (n:Nat),n≤es.length→(List.range n).foldl (IH es) s=(es.take n).foldl fe s
 |es,s,0,_=>by simp
 |es,s,n+1,h=>by
  obtain⟨e,he⟩:∃e,es[n]?=some e:=gE (by omega);rw[List.range_succ,List.foldl_append,JE es s n (by omega),List.take_add_one,he,List.foldl_append];simp[IH,he]
theorem ahD{es:List ((Nat×Nat)×Rock.aE)}{s:List Rock.aE}{js:List Nat}(hd:js.Nodup)(hm:∀j,j∈js↔j<es.length):js.foldl (IH es) s=es.foldl fe s:=by
 have hp:js.Perm (List.range es.length):=(List.perm_ext_iff_of_nodup hd List.nodup_range).2 fun a=>by simp[hm]
 rw[hp.foldl_eq' (fun x _ y _ z=>aft),JE es s es.length (aI _),ai (aI _)]
theorem Sn{b:cz}:(Jn b).length≤3*b.n:=by
 have key:∀l:List Nat,(l.flatMap (yq b)).length≤3*l.length:=by
  intro l;induction l with
  |nil=>simp
  |cons i l ih =>
   rw[aS,bC,aG];have:(yq b i).length≤3:=by
    unfold yq;simp only[bC];split<;>split<;>split<;>simp
   omega
 have:=key (List.range b.n);rw[List.length_range]at this;exact this
theorem aeO{b:cz}(h:Bv b){l:Nat×Nat}(hl:l∈Jn b):l.1<b.n∧l.2<b.n:=by
 obtain⟨hnn,X1,Y1⟩:=h.nat;obtain⟨i,hi,hh⟩:=List.mem_flatMap.1 hl;have h1:i<b.n:=by simpa using hi
 unfold yq at hh;simp only[ba]at hh;rcases hh with hh | hh | hh
 ·split at hh
  ·rename_i hc;simp at hh;subst hh;exact⟨h1,amD (W:=b.f.y.toNat*b.f.z.toNat) (by rw[hnn,Nat.mul_assoc]) h1 hc⟩
  ·cases hh
 ·split at hh
  ·rename_i hc;simp at hh;subst hh;exact⟨h1,link2 (Z:=b.f.z.toNat) X1 Y1 hnn h1 hc⟩
  ·cases hh
 ·split at hh
  ·rename_i hc;simp at hh;subst hh;exact⟨h1,hc⟩
  ·cases hh
def SV(b:cz)(e:(Nat×Nat)×Rock.aE):Prop:=(e.1.1<b.n∧e.1.2<b.n)∧sm e.2 1000000000000
theorem N5{x:Rock.aE}{q:Int}(hm:1≤x.m∧x.m≤1000000)(hh:0≤x.h∧x.h≤10000000000)(hk:0≤x.k∧x.k≤1000000000000)(hq:0≤q∧q≤x.m):sm (x.out q) 1000000000000:=by
 have b3:=Js hm.1 hh hq;have b4:=Js hm.1 hk hq;exact⟨⟨by simp only[Rock.aE.out];omega,by simp only[Rock.aE.out];omega⟩,⟨by simp only[Rock.aE.out];omega,by simp only[Rock.aE.out];omega⟩,⟨by simp only[Rock.aE.out];omega,by simp only[Rock.aE.out];omega⟩⟩
theorem Sb{b:cz}{m:cU}{s:List Rock.aE}(hs:Sv b s){p:List Int}{l:Nat×Nat}(h1:l.1<b.n)(h2:l.2<b.n){e:(Nat×Nat)×Rock.aE}(he:Ka b m s p l=some e):SV b e:=by
 unfold Ka at he;simp only at he;generalize hd:(p[l.1]?).getD 0-weight b l.1-(p[l.2]?).getD 0+weight b l.2=d at he;generalize hl':(if d<0 then(l.2,l.1)else l)=l' at he;generalize hd':(if d<0 then -d else d)=d' at he;have hll:l'.1<b.n∧l'.2<b.n:=by
  rw[← hl'];split<;>exact⟨by assumption,by assumption⟩
 obtain⟨_,m1,m2,m3⟩:=hs.at hll.1;split at he
 ·rename_i hq;simp only[ae]at he;subst he;have d2:=bx (b:=8) (show 0≤(bP s l'.1).m by omega);exact⟨hll,N5 m1 m2 m3 ⟨by omega,by rw[d2];omega⟩⟩
 ·cases he
theorem ahl{b:cz}{es:List ((Nat×Nat)×Rock.aE)}{k:Nat×Nat}{o:Rock.aE}(h:∀e∈es,SV b e)(ho:SV b (k,o)):(∀e∈SE es k o,SV b e)∧(SE es k o).length≤es.length+1:=by
 unfold SE;split
 ·constructor
  ·intro e he;rcases List.mem_or_eq_of_mem_set he with he | rfl
   ·exact h e he
   ·exact ho
  ·simp
 ·constructor
  ·intro e he;rcases ba.1 he with he | he
   ·exact h e he
   ·simp at he;subst he;exact ho
  ·simp
theorem LN{b:cz}{m:cU}{s:List Rock.aE}(h:Bv b)(hs:Sv b s):(∀e∈vR b m s,SV b e)∧(vR b m s).length≤192:=by
 have key:∀(ls:List (Nat×Nat)) (es:List ((Nat×Nat)×Rock.aE)),(∀l∈ls,l.1<b.n∧l.2<b.n)→(∀e∈es,SV b e)→(∀e∈ls.foldl (pU b m s (bT b m s)) es,SV b e)∧(ls.foldl (pU b m s (bT b m s)) es).length≤es.length+ls.length:=by
  intro ls;induction ls with
  |nil=>intro es _ h;exact⟨h,by simp⟩
  |cons l ls ih =>
   intro es hl he;have hl0:=hl l (by simp);simp only[List.foldl_cons];have h1:(∀e∈pU b m s (bT b m s) es l,SV b e)∧(pU b m s (bT b m s) es l).length≤es.length+1:=by
    unfold pU;split
    ·rename_i e hfe;exact ahl he (Sb hs hl0.1 hl0.2 hfe)
    ·exact⟨he,by omega⟩
   obtain⟨h2,h3⟩:=ih _ (fun l hh=>hl l (by simp[hh])) h1.1;exact⟨h2,by simp only[aG];omega⟩
 obtain⟨h1,h2⟩:=key (Jn b) [] (fun l hl=>aeO h hl) (by simp);have:=@Sn b;have hn:=h.n;exact⟨h1,by simp only[bL]at h2;unfold vR;omega⟩
theorem LL{b:cz}{N:Int}{s:List Rock.aE}{e:(Nat×Nat)×Rock.aE}(h:BV N s)(he:SV b e):BV (N+2000000000000) (fe s e):=by
 have h1:=zz (i:=e.1.1) (sign := -1) h he.2 (.inr rfl) (by omega);have h2:=zz (i:=e.1.2) (sign:=1) h1 he.2 (.inl rfl) (by omega);unfold fe;rw[show N+2000000000000=N+1000000000000+1000000000000 by omega];exact h2
theorem Rj{b:cz}{es:List ((Nat×Nat)×Rock.aE)}(hes:∀e∈es,SV b e):∀(js:List Nat) (s:List Rock.aE) (N:Int),BV N s→BV (N+2000000000000*js.length) (js.foldr (fun j s=>IH es s j) s)
 |[],s,N,h=>by simpa using h
 |j::js,s,N,h=>by
  have ih:=Rj hes js s N h;simp only[List.foldr_cons,aG];generalize js.foldr (fun j s=>IH es s j) s=s1 at *
  unfold IH;split
  ·rename_i e he;have:=LL ih (hes e (aj he));intro x hx;exact kR (this x hx) (by push_cast;omega)
  ·intro x hx;exact kR (ih x hx) (by push_cast;omega)
theorem Sv.BV{b:cz}{s:List Rock.aE}(h:Sv b s):BV 1000000000000 s:=by
 intro x hx;obtain⟨h1,h2,h3⟩:=aE.Kl.1 (h.ok x hx);exact⟨⟨by omega,by omega⟩,⟨by omega,by omega⟩,⟨by omega,by omega⟩⟩
end Go.Proofs.YtfgljaglidhjiaaGreatDoor
namespace Go.Abs
open List(length_flatMap map_take)
open Go
variable {T:yR}
theorem zb{F:List aE}:∀{σ:SK} {lv:Nat},gB σ lv=some F→lv<σ.length
 |[],lv,h=>by simp[gB]at h
 |s::σ,lv,h=>by
  simp only[gB]at h;split at h
  ·rename_i h1;simp;omega
  ·have:=zb h;simp;omega
section
variable {α:Type} {w:Nat} {enc:α→List D} (hw:∀x,(enc x).length=w) {p:α→Bool} {fv:D} {l:List α} {lv bi v:Nat} {F:List aE}
include hw in
theorem HI(hF:F[bi]?=some (.cells v (l.flatMap enc)))(hl:l.length≤9223372036854775807)(ht:rj T fv (fun x => .agg (enc x)) p l){σ:SK}(hs:gB σ lv=some F):∀(m i:Nat),i+m=l.length →
  WL T [0,1,7,8] false (HH true w) [(0,.sl lv bi v 0 l.length w),(1,fv),(7,.int .i64 l.length),(8,.int .i64 i)] σ
   (fun x e σ'=>σ'=σ∧if idxOf p (l.drop i)<0 then x=.exit 0 else x=.ret∧get e 4=.int .i64 (i+idxOf p (l.drop i)))
 |0,i,hi=>by
  obtain⟨h1,h2,h3⟩:=ht;refine aM (HH.eq_1 _ _) ?_;have:¬i<l.length:=by omega
  have h5:l.drop i=[]:=by simp;omega
  simp[this,h1,h2,h5,idxOf]
 |m+1,i,hi=>by
  have ih:=HI hF hl ht hs m (i+1) (by omega);obtain⟨h1,h2,h3⟩:=ht;refine aM (HH.eq_1 _ _) ?_;have h4:i<l.length:=by omega
  obtain⟨x,hx⟩:=gE h4;have h5:=BA (f:=enc) hw hx;have h6:=h3 x (aj hx) σ;have h7:=gN h4 hl;have h8:l.drop i=x::l.drop (i+1):=cq hx;have e1:∀r:List D,(enc x++r).take w=enc x:=fun r=>by rw[← hw x];simp
  have e2:∀r:Nat,w≤(enc x).length+r:=fun r=>by rw[hw];omega
  cases hp:p x
  ·rw[hp]at h6;simp[h4,h1,h2,h5,h6,h7,hs,hF,e1,e2];refine WL.mono (by simpa using ih) ?_;rintro x e σ' ⟨h9,h10⟩;refine⟨h9,?_⟩;rw[h8];simp only[idxOf,hp,av,if_false];by_cases h11:idxOf p (l.drop (i+1))<0
   ·simpa[h11]using h10
   ·rw[if_neg h11]at h10;rw[if_neg h11,if_neg (by omega)];refine⟨h10.1,?_⟩;rw[h10.2];congr 1;push_cast;omega
  ·rw[hp]at h6;simp[h4,h1,h2,h5,h6,h7,hs,hF,e1,e2,h8,idxOf,hp]
include hw in
theorem NP{f:Nat}(hT:T f=some (vb true w))(hF:F[bi]?=some (.cells v (l.flatMap enc)))(hl:l.length≤9223372036854775807)(ht:rj T fv (fun x => .agg (enc x)) p l){σ:SK}(hs:gB σ lv=some F):
  lim T (.call false f [.sl lv bi v 0 l.length w,fv] σ)=some (.val (.int .i64 (idxOf p l)) σ):=by
 refine aw hT (vb.eq_1 _ _) rfl ?_;have hlt:=zb hs;have h:=HI hw hF hl ht (lv:=lv) (F:=F) (σ:=[]::σ) (by simp[gB,hs,show ¬σ.length=lv by omega]) l.length 0 (by simp);obtain⟨h1,h2,h3⟩:=ht;simp[h1,h2];refine WL.mono (by simpa using h) ?_;rintro x e σ' ⟨rfl,h10⟩
 try simp only[aO]at h10
 by_cases h11:idxOf p l<0
 ·rw[if_pos h11]at h10;subst h10;have:idxOf p l = -1:=by
   cases l with
   |nil=>rfl
   |cons a l =>
    simp only[idxOf]at h11 ⊢;split at h11<;>rename_i ha
    ·omega
    ·rw[if_neg ha];split at h11<;>rename_i hb
     ·rw[if_pos hb]
     ·omega
  simp[this]
 ·rw[if_neg h11]at h10;obtain⟨rfl,h12⟩:=h10
  try simp at h12
  simp[h12]
include hw in
theorem CI{f i:Nat}(hT:T f=some (jD i))(hi:T i=some (vb true w))(hF:F[bi]?=some (.cells v (l.flatMap enc)))(hl:l.length≤9223372036854775807)(ht:rj T fv (fun x => .agg (enc x)) p l){σ:SK}(hs:gB σ lv=some F):
  lim T (.call false f [.sl lv bi v 0 l.length w,fv] σ)=some (.val (.bool (sF l p)) σ):=by
 refine aw hT (jD.eq_1 _) rfl ?_;have hlt:=zb hs;have h:=NP hw hi hF hl ht (lv:=lv) (F:=F) (σ:=[]::σ) (by simp[gB,hs,show ¬σ.length=lv by omega]);obtain⟨h1,h2,h3⟩:=ht;have h4:decide (0≤idxOf p l)=sF l p:=by
  unfold sF;have h6:=Fg (p:=p) (l:=l);cases h5:l.any p
  ·have:=h6.2 h5;exact decide_eq_false (by omega)
  ·exact decide_eq_true (by
    have:¬idxOf p l<0:=fun h=>by rw[h6.1 h]at h5;cases h5
    omega)
 simp[h1,h2,h,h4]
include hw in
theorem Hh{f g h i:Nat}(hf:T f=some (DY g h))(hg:T g=some (yS true w))(hh:T h=some (jD i))(hi:T i=some (vb true w))
  (hF:F[bi]?=some (.cells v (l.flatMap enc))) (hl:l.length≤9223372036854775807) (ht:rj T fv (fun x => .agg (enc x)) p l) (hcl:fv.cells=some [fv]) {σ:SK} (hs:gB σ lv=some F):
  lim T (.call false f [.sl lv bi v 0 l.length w,fv] σ)=some (.val (.bool (ie l p)) σ):=by
 refine aw hf (DY.eq_1 _ _) rfl ?_;have hlt:=zb hs;have h:=CI hw hh hi hF hl (OT (xo w enc hw) hg ht) (lv:=lv) (F:=F) (σ:=[]::σ) (by simp[gB,hs,show ¬σ.length=lv by omega]);obtain⟨h1,h2,h3⟩:=ht;have h4:(sF l fun x => !p x) = !ie l p:=by
  unfold sF ie;rw[List.all_eq_not_any_not,Bool.not_not]
 simp[h1,h2,h,h4,hcl]
end
end Go.Abs
namespace Go.Proofs.YtfgljaglidhjiaaGreatDoor
open List(length_flatMap map_take)
open Go Go.Abs Go.Rock
variable {σ:SK}
theorem RH{b:cz}{m:cU}{s:List Rock.aE}(h:Bv b){lv bi v:Nat}{F:List Abs.aE}(hF:F[bi]?=some (.cells v (s.flatMap aE.enc)))(hs:gB σ lv=some F)(hl:s.length=b.n):
  lim T (.call false lh [.agg [.int .i64 b.f.x,.int .i64 b.f.y,.int .i64 b.f.z,.int .i64 b.f.k,.aH b.ct.length (b.ct.flatMap Rw.enc),.int .i64 b.bK,.int .i64 b.lift,.int .i64 b.deep,.aH b.an.length (b.an.flatMap bI.enc),.str m.name,.aH m.bq.length (m.bq.flatMap aY)],.sl lv bi v 0 s.length 3] σ)=some (.val (.bool (yC b s)) σ):=by
 refine aw Cr ow.eq_1 rfl ?_;have hlt:=zb hs;have hz:=h.sz;have hn:=h.n;have hsz:=fun σ=>zg (σ:=σ) h
 have ha:=Hh (T:=T) (w:=3) (enc:=aE.enc) (fun _=>rfl) (f:=mQ) (g:=kL) (h:=fg) (i:=gz) (l:=s) (p:=Rock.aE.valid) (fv:=.fn jM [] []) rfl rfl rfl rfl hF (by omega) (rj.fn fun x _ σ=>M9) rfl (lv:=lv) (F:=F) (σ:=[]::σ) (by simp[gB,hs,show ¬σ.length=lv by omega]);unfold yC;have hc3:((b.n:Nat):Int)=b.size:=hz.symm;rw[hl]at ha ⊢;cases hc:ie s Rock.aE.valid<;>simp[-length_flatMap,-map_take,hsz,hl,ha,hc,hc3]
def jsD(js:List Nat):List D:=js.map fun j => .int .i64 (j:Nat)
def SU(n:Nat)(js:List Nat):List Nat:=(List.range n).filter fun j => !(js.contains j)
theorem agY{js:List Nat}{j:Nat}:D.int .i64 (j:Nat)∈jsD js↔j∈js:=by
 simp only[jsD,bR];constructor
 ·rintro⟨a,h1,h2⟩;simp only[D.int.injEq,true_and]at h2;have:a=j:=by omega
  exact this ▸ h1
 ·intro h;exact⟨j,h,rfl⟩
def It(b:cz)(m:cU)(s:List Rock.aE)(aQ:List Int)(L:Nat):Env :=
 [(1,.aH s.length (s.flatMap aE.enc)),(2,.aH aQ.length (aQ.flatMap aY)),(3,.bB [.int .i64 b.f.x,.int .i64 b.f.y,.int .i64 b.f.z,.int .i64 b.f.k,.aH b.ct.length (b.ct.flatMap Rw.enc),.int .i64 b.bK,.int .i64 b.lift,.int .i64 b.deep,.aH b.an.length (b.an.flatMap bI.enc),.str m.name,.aH m.bq.length (m.bq.flatMap aY)]),(9,.sl L 1 1 0 s.length 3),(23,.l7 L 6)]
def stT(A X Y Z:Abs.aE)(σ:SK)(es:List ((Nat×Nat)×Rock.aE))(s:List Rock.aE)(it:Abs.aE):SK :=
 [A,.cells 1 (s.flatMap aE.enc),.cells 0 (DF es),X,Y,Z,it]::σ
def itB(L n:Nat)(js:List Nat):Abs.aE:=.cells 1 (.l7 L 2::.int .i64 (n:Nat)::jsD js)
theorem aeE{A X Y Z:Abs.aE}{es:List ((Nat×Nat)×Rock.aE)}{s:List Rock.aE}{js:List Nat}:
  F1 (stT A X Y Z σ es s (itB σ.length es.length js)) σ.length 6=some (.l7 σ.length 2,es.length,jsD js,SU es.length js):=by
 have hl:(DF es).length=es.length:=by simp[DF]
 simp[F1,stT,itB,AX,hl,SU,agY]
theorem awI{n:Nat}{js:List Nat}{u:Nat}(hu:u∈SU n js):(SU n (u::js)).length<(SU n js).length:=by
 have e:SU n (u::js)=(SU n js).filter fun j => !decide (j=u):=by
  unfold SU;rw[List.filter_filter];congr 1;funext j;simp[List.contains_cons,Bool.not_or]
 rw[e,List.length_filter_lt_length_iff_exists];exact⟨u,hu,by simp⟩
theorem anB{b:cz}{m:cU}{s:List Rock.aE}{aQ:List Int}{A X Y Z:Abs.aE}{es:List ((Nat×Nat)×Rock.aE)}{r:R}(hs:Sv b s)(hes:∀e∈es,SV b e)(hel:es.length≤192)
  (hr:WC (lim T) iJ ((25,.bool false)::(24,.undef)::It b m s aQ σ.length) (stT A X Y Z σ es (es.foldl fe s) .dead) fun x e' σ'=>r=.CJ x e' σ'):
  ∀(k:Nat) (js:List Nat),js.Nodup→(∀j∈js,j<es.length)→(SU es.length js).length=k →
   lim T (.ji [1,2,3,9,23] (.t 23) 24 25 0 mP iJ (It b m s aQ σ.length) (stT A X Y Z σ es (js.foldr (fun j s=>IH es s j) s) (itB σ.length es.length js)))=some r:=by
 intro k;induction k using Nat.strongRecOn with
 |_ k ih =>
 intro js hd hj hk;by_cases hus:SU es.length js=[]
 ·have hall:∀j,j∈js↔j<es.length:=by
   intro j;refine⟨hj j,fun hlt=>?_⟩;have h1:j ∉ SU es.length js:=by rw[hus];simp
   simpa[SU,hlt]using h1
  have hfin:js.foldr (fun j s=>IH es s j) s=es.foldl fe s:=by
   rw[← ahD (js:=js.reverse) ((List.reverse_perm js).nodup_iff.2 hd) (fun j=>by simp[hall]),List.foldl_reverse]
  rw[hfin];have hit:=aeE (σ:=σ) (A:=A) (X:=X) (Y:=Y) (Z:=Z) (es:=es) (s:=es.foldl fe s) (js:=js);rw[hus]at hit;refine Su mP.eq_1 rfl (by simp[It]) hit ?_;simp[stT,It,itB]at hr ⊢;exact hr
 ·have hit:=aeE (σ:=σ) (A:=A) (X:=X) (Y:=Y) (Z:=Z) (es:=es) (s:=js.foldr (fun j s=>IH es s j) s) (js:=js);refine aeX mP.eq_1 rfl (by simp[It]) hit hus ?_;intro u hu;have hu2:u<es.length∧u ∉ js:=by simpa[SU]using hu
  obtain⟨e,he⟩:∃e,es[u]?=some e:=⟨_,aN hu2.1⟩;have hf:=hes e (aj he);have hnext:=ih _ (by rw[← hk];exact awI hu) (u::js) (List.nodup_cons.2 ⟨hu2.2,hd⟩) (by intro j hjm;rcases bd.1 hjm with rfl | hjm;exact hu2.1;exact hj j hjm) rfl;have hb:=Rj hes js s 1000000000000 hs.BV;have hjl:js.length≤192:=by
   have h1:js.length≤es.length:=by
    have:=hd.length_le_of_subset (l₂:=List.range es.length) (fun j hjm=>by simpa using hj j hjm);simpa using this
   omega
  have hlen:(js.foldr (fun j s=>IH es s j) s).length=b.n:=by
   have:∀js:List Nat,(js.foldr (fun j s=>IH es s j) s).length=s.length:=by
    intro js;induction js with
    |nil=>rfl
    |cons a l ih=>simp only[List.foldr_cons,ahE];exact ih
   rw[this,hs.len]
  simp only[List.foldr_cons]at hnext;generalize hs1:js.foldr (fun j s=>IH es s j) s=s1 at *
  have hstp:IH es s1 u=iV (iV s1 e.1.1 e.2 (-1)) e.1.2 e.2 1:=by simp[IH,he,fe]
  rw[hstp]at hnext;have hbn:BV 400000000000000 s1:=fun x hx=>kR (hb x hx) (by omega)
  have hb1:=zz (i:=e.1.1) (sign := -1) hbn hf.2 (.inr rfl) (by omega);obtain⟨x1,y1⟩:=Hn hbn (i:=e.1.1) (by have:=hf.1.1;omega);obtain⟨x2,y2⟩:=Hn hb1 (i:=e.1.2) (by rw[El];have:=hf.1.2;omega);have hM1:∀I,lim T (.call false cj [.ref σ.length 1 1 (e.1.1*3),.agg [.int .i64 e.2.m,.int .i64 e.2.h,.int .i64 e.2.k],.int .i64 (-1)] ([A,.cells 1 (s1.flatMap aE.enc),.cells 0 (DF es),X,Y,Z,I]::σ)) =
    some (.val (.dV []) ([A,.cells 1 ((iV s1 e.1.1 e.2 (-1)).flatMap aE.enc),.cells 0 (DF es),X,Y,Z,I]::σ)) :=
   fun I=>GP (F:=[A,.cells 1 (s1.flatMap aE.enc),.cells 0 (DF es),X,Y,Z,I]) (j:=1) rfl x1 (kR y1 (by omega)) (kR hf.2 (by omega)) (.inr rfl)
  have hM2:∀I,lim T (.call false cj [.ref σ.length 1 1 (e.1.2*3),.agg [.int .i64 e.2.m,.int .i64 e.2.h,.int .i64 e.2.k],.int .i64 1] ([A,.cells 1 ((iV s1 e.1.1 e.2 (-1)).flatMap aE.enc),.cells 0 (DF es),X,Y,Z,I]::σ)) =
    some (.val (.dV []) ([A,.cells 1 ((iV (iV s1 e.1.1 e.2 (-1)) e.1.2 e.2 1).flatMap aE.enc),.cells 0 (DF es),X,Y,Z,I]::σ)) :=
   fun I=>GP (F:=[A,.cells 1 ((iV s1 e.1.1 e.2 (-1)).flatMap aE.enc),.cells 0 (DF es),X,Y,Z,I]) (j:=1) rfl x2 (kR y2 (by omega)) (kR hf.2 (by omega)) (.inl rfl)
  have hfe:(DF es)[u]?=some (.dV [.agg [.int .i64 e.1.1,.int .i64 e.1.2],.agg [.int .i64 e.2.m,.int .i64 e.2.h,.int .i64 e.2.k]]):=by simp[DF,he]
  have hfl:(DF es).length=es.length:=by simp[DF]
  have hE:AY ([A,.cells 1 (s1.flatMap aE.enc),.cells 0 (DF es),X,Y,Z,.cells 1 (.l7 σ.length 2::.int .i64 (es.length:Nat)::.int .i64 (u:Nat)::jsD js)]::σ) .ent [.l7 σ.length 6] =
    some (.dV [.agg [.int .i64 e.1.1,.int .i64 e.1.2],.agg [.int .i64 e.2.m,.int .i64 e.2.h,.int .i64 e.2.k]],[A,.cells 1 (s1.flatMap aE.enc),.cells 0 (DF es),X,Y,Z,.cells 1 (.l7 σ.length 2::.int .i64 (es.length:Nat)::.int .i64 (u:Nat)::jsD js)]::σ):=by
   simp[AY,AX,hfl,hfe]
  have hi1:e.1.1<s.length:=by have:=hf.1.1;have:=hs.len;omega
  have hi2:e.1.2<s.length:=by have:=hf.1.2;have:=hs.len;omega
  simp[-length_flatMap,-map_take,It,stT,itB,hE,hM1,hM2,hi1,hi2,cM,bu,bw,Hs];simpa[It,stT,itB,jsD]using hnext
theorem Ia{b:cz}(h:Bv b):∀w∈b.an,(0≤w.b∧w.b<(b.n:Int))∧(0≤w.h∧w.h≤3000)∧(0≤w.m∧w.m≤1000000):=by
 have key:∀(l:List bI) (u:List Int),uS b.size u l=true→∀w∈l,(0≤w.b∧w.b<(b.n:Int))∧(0≤w.h∧w.h≤3000)∧(0≤w.m∧w.m≤1000000):=by
  intro l;induction l with
  |nil=>intro u _ w hw;cases hw
  |cons a l ih =>
   intro u hu w hw;simp only[uS,bI.ok,af]at hu;obtain⟨⟨h1,h2,h3,h4⟩,h5⟩:=hu;rcases bd.1 hw with rfl | hw
   ·have hs:=h.sz;have:=bf.1 h1;unfold cz.size at this;exact⟨⟨this.1,by omega⟩,bf.1 h3,bf.1 h4⟩
   ·exact ih _ h5 w hw
 exact key _ _ h.ok
theorem mulR{a r A R:Int}(ha:0≤a∧a≤A)(hr : -R≤r∧r≤R) : -(R*A)≤r*a∧r*a≤R*A:=by
 rcases ni 0 r with h | h
 ·have:=oV h hr.2 ha.1 ha.2;have h2:=fw (show 0≤R by omega) (show 0≤A by omega);omega
 ·have:=oV (a := -r) (A:=R) (by omega) (by omega) ha.1 ha.2;rw[Int.neg_mul]at this;have h2:=fw (show 0≤R by omega) (show 0≤A by omega);omega
theorem LR{w:bI}{r:Int}(hr : -100000≤r∧r≤100000)(h1:0≤w.h∧w.h≤3000)(h2:0≤w.m∧w.m≤1000000):sm (w.given r) 1000000000000:=by
 have b1:=mulR h1 hr;have b2:=mulR h2 hr;exact⟨⟨by simp only[bI.given];omega,by simp only[bI.given];omega⟩,⟨by simp only[bI.given,Int.neg_mul];omega,by simp only[bI.given,Int.neg_mul];omega⟩,⟨by simp only[bI.given,Int.neg_mul];omega,by simp only[bI.given,Int.neg_mul];omega⟩⟩
theorem aen{b:cz}{m:cU}(h:Fv b m){i:Nat}(hi:i<b.n):sm (NH b m i) 1000000000000:=by
 have b1:=h.feed i hi;have b2:=h.bv.deep;have b3:=oV b1.1 b1.2 b2.1 b2.2;exact⟨⟨by simp only[NH];omega,by simp only[NH];omega⟩,⟨by simp only[NH];omega,by simp only[NH];omega⟩,⟨by simp[NH],by simp[NH]⟩⟩
def fj(b:cz)(s s1:List Rock.aE)(aQ:List Int)(j:Nat):List Rock.aE:=((b.an.zip aQ).take j).foldl (fun n wr=>uR s n wr.1 wr.2) s1
def mZ(b:cz)(m:cU)(s2:List Rock.aE)(i:Nat):List Rock.aE:=(List.range i).foldl (fun n i=>iV n i (NH b m i) 1) s2
theorem EF{b:cz}{s s1:List Rock.aE}{aQ:List Int}{j:Nat}{w:bI}{r:Int}(h1:b.an[j]?=some w)(h2:aQ[j]?=some r):fj b s s1 aQ (j+1)=uR s (fj b s s1 aQ j) w r:=by
 have:(b.an.zip aQ)[j]?=some (w,r):=by rw[List.getElem?_zip_eq_some];exact⟨h1,h2⟩
 unfold fj;rw[List.take_add_one,this,List.foldl_append];rfl
theorem Bt{b:cz}{m:cU}{s2:List Rock.aE}{i:Nat}:mZ b m s2 (i+1)=iV (mZ b m s2 i) i (NH b m i) 1:=by
 unfold mZ;rw[List.range_succ,List.foldl_append];rfl
theorem Ad{b:cz}{m:cU}{s2:List Rock.aE}:∀i,(mZ b m s2 i).length=s2.length
 |0=>rfl
 |i+1=>by rw[Bt,El,Ad i]
theorem afG{b:cz}{s:List Rock.aE}{aQ:List Int}{j:Nat}{w:bI}{r:Int}(h1:b.an[j]?=some w)(h2:aQ[j]?=some r):(eI b s aQ)[j]?=some (su s w r):=by
 have:(b.an.zip aQ)[j]?=some (w,r):=by rw[List.getElem?_zip_eq_some];exact⟨h1,h2⟩
 simp[eI,this]
structure Rv(b:cz)(aQ:List Int):Prop where
 len:aQ.length=b.an.length
 ok:∀r∈aQ,-100000≤r∧r≤100000
theorem Rv.of{b:cz}{aQ:List Int}(h:Ap b aQ=0):Rv b aQ:=by
 unfold Ap at h;split at h
 ·rename_i hl;split at h
  ·rename_i ha;exact⟨hl,fun r hr=>bf.1 (j7.1 ha r hr)⟩
  ·cases h
 ·cases h
theorem ahb{b:cz}{s next:List Rock.aE}(h:Bv b)(hs:Sv b s){aQ:List Int}(hr:Rv b aQ){j:Nat}{w:bI}{r:Int}(h1:b.an[j]?=some w)(h2:aQ[j]?=some r){N:Int}(hb:BV N next):BV (N+1000000000000) (uR s next w r):=by
 have hw:=Ia h w (aj h1);have hrr:=hr.ok r (aj h2);obtain⟨_,m1,m2,m3⟩:=hs.at (i:=w.b.toNat) (by omega);have d2:=bx (b:=8) (show 0≤(bP s w.b.toNat).m by omega);unfold uR su;split
 ·exact zz hb (LR hrr hw.2.1 hw.2.2) (.inl rfl) (by omega)
 ·exact zz hb (N5 m1 m2 m3 ⟨by rw[d2];omega,by rw[d2];omega⟩) (.inr rfl) (by omega)
theorem KN{s n:List Rock.aE}{w:bI}{r:Int}:(uR s n w r).length=n.length:=by
 unfold uR;split<;>simp[El]
theorem AB{b:cz}{s s1:List Rock.aE}(h:Bv b)(hs:Sv b s){aQ:List Int}(hr:Rv b aQ)(hb:BV 500000000000000 s1):∀j,j≤aQ.length→BV (500000000000000+1000000000000*j) (fj b s s1 aQ j)∧(fj b s s1 aQ j).length=s1.length
 |0,_=>⟨by simpa[fj]using hb,by simp[fj]⟩
 |j+1,hj=>by
  obtain⟨r,h2⟩:∃r,aQ[j]?=some r:=gE (by omega);obtain⟨w,h1⟩:∃w,b.an[j]?=some w:=⟨_,aN (by rw[← hr.len];omega)⟩;obtain⟨ih1,ih2⟩:=AB h hs hr hb j (by omega);rw[EF h1 h2];have h3:=ahb h hs hr h1 h2 ih1;exact⟨fun x hx=>kR (h3 x hx) (by push_cast;omega),by rw[KN,ih2]⟩
theorem I7{b:cz}{m:cU}{s2:List Rock.aE}(h:Fv b m)(hb:BV 600000000000000 s2):∀i,i≤b.n→BV (600000000000000+1000000000000*i) (mZ b m s2 i)
 |0,_=>by simpa[mZ]using hb
 |i+1,hi=>by
  have ih:=I7 h hb i (by omega);rw[Bt];have h3:=zz (i:=i) ih (aen h (i:=i) (by omega)) (.inl rfl) (by omega);exact fun x hx=>kR (h3 x hx) (by push_cast;omega)
theorem agE{b:cz}{j:Nat}{w:bI}(h:b.an[j]?=some w):((b.an.flatMap bI.enc).drop (j*3)).take 3=[.int .i64 w.b,.int .i64 w.h,.int .i64 w.m] :=
 bW (f:=bI.enc) (w:=3) (fun _=>rfl) h
theorem OM{b:cz}{m:cU}{s s1:List Rock.aE}{aQ:List Int}{A FL X Y Z W:Abs.aE}(h:Fv b m)(hs:Sv b s)(hr:Rv b aQ)(hb:BV 500000000000000 s1)(hl1:s1.length=s.length):∀(k j v:Nat),j+k=aQ.length →
  WL T [1,3,9,12,41,42,43] false lJ [(1,.aH s.length (s.flatMap aE.enc)),(3,.bB [.int .i64 b.f.x,.int .i64 b.f.y,.int .i64 b.f.z,.int .i64 b.f.k,.aH b.ct.length (b.ct.flatMap Rw.enc),.int .i64 b.bK,.int .i64 b.lift,.int .i64 b.deep,.aH b.an.length (b.an.flatMap bI.enc),.str m.name,.aH m.bq.length (m.bq.flatMap aY)]),(9,.sl σ.length 1 1 0 s.length 3),(12,.sl σ.length 7 v 0 j 3),(41,.aH aQ.length (aQ.flatMap aY)),(42,.int .i64 aQ.length),(43,.int .i64 j)]
   ([A,.cells 1 ((fj b s s1 aQ j).flatMap aE.enc),FL,X,Y,Z,W,.cells v (((eI b s aQ).take j).flatMap aE.enc)]::σ)
   (fun x e σ'=>x=.exit 2∧get e 3=.bB [.int .i64 b.f.x,.int .i64 b.f.y,.int .i64 b.f.z,.int .i64 b.f.k,.aH b.ct.length (b.ct.flatMap Rw.enc),.int .i64 b.bK,.int .i64 b.lift,.int .i64 b.deep,.aH b.an.length (b.an.flatMap bI.enc),.str m.name,.aH m.bq.length (m.bq.flatMap aY)]∧get e 9=.sl σ.length 1 1 0 s.length 3∧get e 12=.sl σ.length 7 (v+k) 0 aQ.length 3 ∧
    σ'=[A,.cells 1 ((fj b s s1 aQ aQ.length).flatMap aE.enc),FL,X,Y,Z,W,.cells (v+k) ((eI b s aQ).flatMap aE.enc)]::σ)
 |0,j,v,hj=>by
  refine aM lJ.eq_1 ?_;obtain rfl:j=aQ.length:=by omega
  have hyl:(eI b s aQ).length=aQ.length:=by simp[eI,hr.len]
  have h3:(eI b s aQ).take aQ.length=eI b s aQ:=ai (by omega);simp[-length_flatMap,-map_take,h3,cM,bu,bw]
 |k+1,j,v,hj=>by
  refine aM lJ.eq_1 ?_;have h1:j<aQ.length:=by omega
  have hwl:=h.bv.an;have hrl:=hr.len;obtain⟨r,hr2⟩:∃r,aQ[j]?=some r:=gE (by omega);obtain⟨w,hw1⟩:∃w,b.an[j]?=some w:=gE (by omega);have hw:=Ia h.bv w (aj hw1);have hrr:=hr.ok r (aj hr2);have hwn:w.b.toNat<b.n:=by omega
  have hlen:=hs.len;obtain⟨x0,m1,m2,m3⟩:=hs.at (i:=w.b.toNat) hwn;obtain⟨ib,il⟩:=AB h.bv hs hr hb j (by omega);obtain⟨x1,y1⟩:=Hn ib (i:=w.b.toNat) (by omega);have h4:=gN h1 (by omega);have a1:=agE hw1;have a2:=rH hr2;have a3:=bW (f:=aE.enc) (w:=3) (fun _=>rfl) x0;have hy:=afG (s:=s) hw1 hr2;have f3:=E9 (f:=aE.enc) hy;have hyl:(eI b s aQ).length=aQ.length:=by simp[eI,hr.len]
  have f4:=GA ((eI b s aQ).take j);rw[jC,hyl,Nat.min_eq_left (by omega)]at f4;have f6:(((eI b s aQ).take j).flatMap aE.enc).take (j*3)=((eI b s aQ).take j).flatMap aE.enc:=ai (by omega);have h7:(j+1)*24≤room:=by unfold room;omega
  have ih:=OM (A:=A) (FL:=FL) (X:=X) (Y:=Y) (Z:=Z) (W:=W) h hs hr hb hl1 k (j+1) (v+1) (by omega);have hsucc:=EF (s:=s) (s1:=s1) hw1 hr2;have hB0:(0:Int)≤w.b:=hw.1.1;have hB1:w.b<(s.length:Int):=by omega
  have hjw:j<b.an.length:=by omega
  have d2:=bx (b:=8) (show 0≤(bP s w.b.toNat).m by omega);by_cases hc:r<0
  ·have hg:=fun σ=>af3 (σ:=σ) hrr hw.2.1 hw.2.2
   have hM:∀V,lim T (.call false cj [.ref σ.length 1 1 (w.b.toNat*3),.agg [.int .i64 (w.given r).m,.int .i64 (w.given r).h,.int .i64 (w.given r).k],.int .i64 1] ([A,.cells 1 ((fj b s s1 aQ j).flatMap aE.enc),FL,X,Y,Z,W,V]::σ)) =
     some (.val (.dV []) ([A,.cells 1 ((fj b s s1 aQ (j+1)).flatMap aE.enc),FL,X,Y,Z,W,V]::σ)):=by
    intro V;rw[hsucc,uR,if_pos hc];exact GP (F:=[A,.cells 1 ((fj b s s1 aQ j).flatMap aE.enc),FL,X,Y,Z,W,V]) (j:=1) rfl x1 (kR y1 (by omega)) (kR (LR hrr hw.2.1 hw.2.2) (by omega)) (.inl rfl)
   have hwy:su s w r=⟨0,0,0⟩:=by simp[su,hc]
   rw[hwy]at f3;simp only[bI.enc,aE.enc]at hg;simp[-length_flatMap,-map_take,h1,h4,a1,a2,a3,f4,f6,h7,hB0,hB1,hjw,hc,hg,hM,cM,bu,bw];refine WL.to ih (by simp[cM,bu,bw]) (by simp[← f3]) fun x e σ hh=>by simpa[dZ,Nat.add_comm 1 k]using hh
  ·have w7:=fN (n:=(bP s w.b.toNat).m.tdiv 8) (by rw[d2];omega);have hO:=fun σ=>Tm (σ:=σ) (q:=min r ((bP s w.b.toNat).m.tdiv 8)) m1 m2 m3 ⟨by rw[d2];omega,by rw[d2];omega⟩
   have hos:=N5 (q:=min r ((bP s w.b.toNat).m.tdiv 8)) m1 m2 m3 ⟨by rw[d2];omega,by rw[d2];omega⟩;have hwy:su s w r=(bP s w.b.toNat).out (min r ((bP s w.b.toNat).m.tdiv 8)):=by simp[su,hc]
   have hsucc':fj b s s1 aQ (j+1)=iV (fj b s s1 aQ j) w.b.toNat ((bP s w.b.toNat).out (min r ((bP s w.b.toNat).m.tdiv 8))) (-1):=by
    rw[hsucc,uR,if_neg hc,hwy]
   rw[hwy]at f3;generalize hQ:min r ((bP s w.b.toNat).m.tdiv 8)=Q at *
   generalize (bP s w.b.toNat).out Q=O at *
   have hM:∀V,lim T (.call false cj [.ref σ.length 1 1 (w.b.toNat*3),.agg [.int .i64 O.m,.int .i64 O.h,.int .i64 O.k],.int .i64 (-1)] ([A,.cells 1 ((fj b s s1 aQ j).flatMap aE.enc),FL,X,Y,Z,W,V]::σ)) =
     some (.val (.dV []) ([A,.cells 1 ((fj b s s1 aQ (j+1)).flatMap aE.enc),FL,X,Y,Z,W,V]::σ)):=by
    intro V;rw[hsucc'];exact GP (F:=[A,.cells 1 ((fj b s s1 aQ j).flatMap aE.enc),FL,X,Y,Z,W,V]) (j:=1) rfl x1 (kR y1 (by omega)) (kR hos (by omega)) (.inr rfl)
   simp only[aE.enc]at hO;simp[-length_flatMap,-map_take,h1,h4,a1,a2,a3,f4,f6,h7,hB0,hB1,hjw,hc,w7,hQ,hO,hM,cM,bu,bw];refine WL.to ih (by simp[cM,bu,bw]) (by simp[← f3]) fun x e σ hh=>by simpa[dZ,Nat.add_comm 1 k]using hh
theorem TH{b:cz}{m:cU}{s2:List Rock.aE}{A FL X Y Z W V:Abs.aE}{d12:D}(h:Fv b m)(hb:BV 600000000000000 s2)(hl2:s2.length=b.n)(hd:d12.strip=d12∧d12.calm=d12):∀(k i:Nat),i+k=b.n →
  WL T [3,9,12,93,94] false lK [(3,.bB [.int .i64 b.f.x,.int .i64 b.f.y,.int .i64 b.f.z,.int .i64 b.f.k,.aH b.ct.length (b.ct.flatMap Rw.enc),.int .i64 b.bK,.int .i64 b.lift,.int .i64 b.deep,.aH b.an.length (b.an.flatMap bI.enc),.str m.name,.aH m.bq.length (m.bq.flatMap aY)]),(9,.sl σ.length 1 1 0 b.n 3),(12,d12),(93,.int .i64 b.n),(94,.int .i64 i)]
   ([A,.cells 1 ((mZ b m s2 i).flatMap aE.enc),FL,X,Y,Z,W,V]::σ)
   (fun x e σ'=>x=.exit 4∧get e 3=.bB [.int .i64 b.f.x,.int .i64 b.f.y,.int .i64 b.f.z,.int .i64 b.f.k,.aH b.ct.length (b.ct.flatMap Rw.enc),.int .i64 b.bK,.int .i64 b.lift,.int .i64 b.deep,.aH b.an.length (b.an.flatMap bI.enc),.str m.name,.aH m.bq.length (m.bq.flatMap aY)]∧get e 9=.sl σ.length 1 1 0 b.n 3∧get e 12=d12∧σ'=[A,.cells 1 ((mZ b m s2 b.n).flatMap aE.enc),FL,X,Y,Z,W,V]::σ)
 |0,i,hi=>by
  refine aM lK.eq_1 ?_;obtain rfl:i=b.n:=by omega
  simp[-length_flatMap,-map_take,hd,cM,bu,bw]
 |k+1,i,hi=>by
  refine aM lK.eq_1 ?_;have h1:i<b.n:=by omega
  have hn:=h.bv.n;have h4:=gN h1 (by omega);have hf:=fun σ=>atu (σ:=σ) h h1
  have ih:=TH (A:=A) (FL:=FL) (X:=X) (Y:=Y) (Z:=Z) (W:=W) (V:=V) h hb hl2 hd k (i+1) (by omega);have ib:=I7 h hb i (by omega);obtain⟨x1,y1⟩:=Hn ib (i:=i) (by rw[Ad,hl2];omega);have hM:lim T (.call false cj [.ref σ.length 1 1 (i*3),.agg [.int .i64 (NH b m i).m,.int .i64 (NH b m i).h,.int .i64 (NH b m i).k],.int .i64 1] ([A,.cells 1 ((mZ b m s2 i).flatMap aE.enc),FL,X,Y,Z,W,V]::σ)) =
    some (.val (.dV []) ([A,.cells 1 ((mZ b m s2 (i+1)).flatMap aE.enc),FL,X,Y,Z,W,V]::σ)):=by
   rw[Bt];exact GP (F:=[A,.cells 1 ((mZ b m s2 i).flatMap aE.enc),FL,X,Y,Z,W,V]) (j:=1) rfl x1 (kR y1 (by omega)) (kR (aen h h1) (by omega)) (.inl rfl)
  simp only[aE.enc]at hf;simp[-length_flatMap,-map_take,h1,h4,hf,hM,hd,cM,bu,bw];refine WL.to ih (by simp[hd,cM,bu,bw]) rfl fun x e σ hh=>hh
theorem QY{b:cz}{m:cU}{s:List Rock.aE}{aQ:List Int}(hr:Rv b aQ)(hl:s.length=b.n):mZ b m (fj b s ((vR b m s).foldl fe s) aQ aQ.length) b.n=Dt b m s aQ:=by
 have:(b.an.zip aQ).take aQ.length=b.an.zip aQ:=ai (by rw[List.length_zip];omega);simp only[Dt,mZ,fj,this,hl]
theorem Sd{b:cz}{m:cU}{s:List Rock.aE}(h:Fv b m)(hs:Sv b s):BV 500000000000000 ((vR b m s).foldl fe s)∧((vR b m s).foldl fe s).length=s.length:=by
 obtain⟨h1,h2⟩:=LN (m:=m) h.bv hs;have key:∀(es:List ((Nat×Nat)×Rock.aE)) (s:List Rock.aE) (N:Int),(∀e∈es,SV b e)→BV N s→BV (N+2000000000000*es.length) (es.foldl fe s)∧(es.foldl fe s).length=s.length:=by
  intro es;induction es with
  |nil=>intro s N _ h;exact⟨by simpa using h,rfl⟩
  |cons e es ih =>
   intro s N he hb;obtain⟨a1,a2⟩:=ih (fe s e) _ (fun x hx=>he x (by simp[hx])) (LL hb (he e (by simp)));simp only[List.foldl_cons,aG];exact⟨fun x hx=>kR (a1 x hx) (by push_cast;omega),by rw[a2,LM]⟩
 obtain⟨a1,a2⟩:=key _ s _ h1 hs.BV;exact⟨fun x hx=>kR (a1 x hx) (by omega),a2⟩
theorem anh{b:cz}{m:cU}{s s1:List Rock.aE}{aQ:List Int}{A FL X Y Z W:Abs.aE}(h:Fv b m)(hs:Sv b s)(hr:Rv b aQ)(hb:BV 500000000000000 s1)(hl1:s1.length=s.length):
  WC (lim T) iJ ((25,.bool false)::(24,.undef)::It b m s aQ σ.length) ([A,.cells 1 (s1.flatMap aE.enc),FL,X,Y,Z,W]::σ) fun x e σ' =>
   x=.ret∧σ'=[A,.cells 1 ((mZ b m (fj b s s1 aQ aQ.length) b.n).flatMap aE.enc),FL,X,Y,Z,W,.cells aQ.length ((eI b s aQ).flatMap aE.enc)]::σ ∧
   (if yC b (mZ b m (fj b s s1 aQ aQ.length) b.n)=true then get e 6=.sl σ.length 1 1 0 b.n 3∧get e 7=.sl σ.length 7 aQ.length 0 aQ.length 3∧get e 8=.int .i64 0
    else get e 6=.aK∧get e 7=.aK∧get e 8=.int .i64 9):=by
 have hl:=hs.len;have hn:=h.bv.n;have hwl:=h.bv.an;have hrl:=hr.len;obtain⟨wb,wl⟩:=AB h.bv hs hr hb aQ.length (aI _);have fl:=Ad (b:=b) (m:=m) (s2:=fj b s s1 aQ aQ.length) b.n;rw[xk iJ.eq_1];simp[-length_flatMap,-map_take,It,cM,bu,bw];refine WL.to (OM (σ:=σ) (A:=A) (FL:=FL) (X:=X) (Y:=Y) (Z:=Z) (W:=W) h hs hr hb hl1 aQ.length 0 0 (by omega)) (by simp[cM,bu,bw]) (by simp[fj]) ?_;rintro x e σ' ⟨rfl,g3,g9,g12,rfl⟩;rw[hl]at g9;simp[-length_flatMap,-map_take,g3,g9,g12,cM,bu,bw];refine WL.to (TH (σ:=σ) (A:=A) (FL:=FL) (X:=X) (Y:=Y) (Z:=Z) (W:=W) (V:=.cells (0+aQ.length) ((eI b s aQ).flatMap aE.enc)) (d12:=.sl σ.length 7 (0+aQ.length) 0 aQ.length 3) h (fun x hx=>kR (wb x hx) (by omega)) (by rw[wl,hl1,hl]) ⟨rfl,rfl⟩ b.n 0 (by omega)) (by simp[cM,bu,bw]) (by simp[mZ]) ?_;rintro x e σ' ⟨rfl,g3,g9,g12,rfl⟩;have hS:=RH (m:=m) (b:=b) (s:=mZ b m (fj b s s1 aQ aQ.length) b.n) h.bv (lv:=σ.length) (bi:=1) (v:=1) (F:=[A,.cells 1 ((mZ b m (fj b s s1 aQ aQ.length) b.n).flatMap aE.enc),FL,X,Y,Z,W,.cells (0+aQ.length) ((eI b s aQ).flatMap aE.enc)]) (σ:=[A,.cells 1 ((mZ b m (fj b s s1 aQ aQ.length) b.n).flatMap aE.enc),FL,X,Y,Z,W,.cells (0+aQ.length) ((eI b s aQ).flatMap aE.enc)]::σ) rfl (by simp[gB]) (by rw[fl,wl,hl1,hl]);rw[show(mZ b m (fj b s s1 aQ aQ.length) b.n).length=b.n by rw[fl,wl,hl1,hl]]at hS;cases hc:yC b (mZ b m (fj b s s1 aQ aQ.length) b.n)
 ·rw[hc]at hS;simp at hS;simp[-length_flatMap,-map_take,g3,g9,g12,hS,cM,bu,bw]
 ·rw[hc]at hS;simp at hS;simp[-length_flatMap,-map_take,g3,g9,g12,hS,cM,bu,bw]
def afB(b:cz)(m:cU)(s:List Rock.aE)(aQ:List Int):D:=match tick b m s aQ with
 |some (s',y) => .dV [.aH s'.length (s'.flatMap aE.enc),.aH y.length (y.flatMap aE.enc),.int .i64 0]
 |none => .dV [.aK,.aK,.int .i64 9]
theorem anq{b:cz}{m:cU}{s:List Rock.aE}{aQ:List Int}(h:Fv b m)(hs:Sv b s)(hr:Rv b aQ)(hσ:σ≠[]):
  lim T (.call false my [.agg [.int .i64 b.f.x,.int .i64 b.f.y,.int .i64 b.f.z,.int .i64 b.f.k,.aH b.ct.length (b.ct.flatMap Rw.enc),.int .i64 b.bK,.int .i64 b.lift,.int .i64 b.deep,.aH b.an.length (b.an.flatMap bI.enc),.str m.name,.aH m.bq.length (m.bq.flatMap aY)],.aH s.length (s.flatMap aE.enc),.aH aQ.length (aQ.flatMap aY)] σ)=some (.val (afB b m s aQ) σ):=by
 refine aw Db pH.eq_1 rfl ?_;have hl:=hs.len;have hn:=h.bv.n;have hne:s≠[]:=by intro h0;rw[h0]at hl;simp at hl;omega
 have hC:=afW (σ:=σ) (s:=s) (bs:=[]) (by omega) hne;obtain⟨X,Y,Z,hF⟩:=af2 (σ:=σ) (A:=.cells 0 []) (B:=.cells 1 (s.flatMap aE.enc)) h hs;obtain⟨fb,fl⟩:=Sd h hs;obtain⟨x,e',σ',hrun,rfl,rfl,hq⟩:=anh (σ:=σ) (A:=.cells 0 []) (FL:=.cells 0 (DF (vR b m s))) (X:=X) (Y:=Y) (Z:=Z) (W:=.dead) h hs hr fb fl;obtain⟨f1,f2⟩:=LN (m:=m) h.bv hs;have hM:=anB (σ:=σ) (aQ:=aQ) (m:=m) (A:=.cells 0 []) (X:=X) (Y:=Y) (Z:=Z) (es:=vR b m s) hs f1 f2 (r:=.CJ .ret e' ([.cells 0 [],.cells 1 ((mZ b m (fj b s ((vR b m s).foldl fe s) aQ aQ.length) b.n).flatMap aE.enc),.cells 0 (DF (vR b m s)),X,Y,Z,.dead,.cells aQ.length ((eI b s aQ).flatMap aE.enc)]::σ)) ⟨_,_,_,hrun,rfl⟩ _ [] List.nodup_nil (by simp) rfl;simp only[aX,bL,cZ]at hC;have hG:AY ([.cells 0 [],.cells 1 (s.flatMap aE.enc),.cells 0 (DF (vR b m s)),X,Y,Z]::σ) .rng [.l7 σ.length 2]=some (.l7 σ.length 6,[.cells 0 [],.cells 1 (s.flatMap aE.enc),.cells 0 (DF (vR b m s)),X,Y,Z,itB σ.length (vR b m s).length []]::σ):=by
  simp[AY,AX,itB,jsD,DF]
 simp[-length_flatMap,-map_take,hC,hF,hG,cM,bu,bw,Hs];refine⟨_,_,_,by simpa[It,stT]using hM,?_⟩;rw[QY hr hl]at hq ⊢;have hnl:(Dt b m s aQ).length=b.n:=by
  rw[← QY hr hl,Ad,(AB h.bv hs hr fb aQ.length (aI _)).2,fl,hl]
 have hyl:(eI b s aQ).length=aQ.length:=by simp[eI,hr.len]
 unfold afB tick;cases hc:yC b (Dt b m s aQ)
 ·rw[hc]at hq;simp at hq;obtain⟨g6,g7,g8⟩:=hq;simp[g6,g7,g8]
 ·rw[hc]at hq;simp only[if_true]at hq;obtain⟨g6,g7,g8⟩:=hq;simp only[if_true];simp[g6,g7,g8];rw[Ea (by simp) (by omega)];simp only[BZ,D7];rw[← hnl,wG (f:=aE.enc) (l:=Dt b m s aQ) (by decide) (fun _=>rfl) (fun x=>by simp) hσ (by simp)];simp only[List.set_cons_succ,List.set_cons_zero];rw[← hyl,wG (f:=aE.enc) (l:=eI b s aQ) (by decide) (fun _=>rfl) (fun x=>by simp) hσ (by simp)];rw[qQ (by simp) (by omega)];exact⟨_,rfl⟩
def yB(s:List Rock.aE):List D:=[.aH s.length (s.flatMap aE.enc)]
theorem Ri(l:List (List Rock.aE)):(l.flatMap yB).length=l.length:=by
 have:=bX (f:=yB) (w:=1) (fun _=>rfl) l;omega
theorem Sv.next{b:cz}{m:cU}{s:List Rock.aE}{aQ:List Int}(h:Bv b){s' y:List Rock.aE}(ht:tick b m s aQ=some (s',y)):Sv b s':=by
 unfold tick at ht;split at ht
 ·rename_i hc;simp only[ae,ak]at ht;obtain⟨rfl,_⟩:=ht;exact(Sv.of h).1 hc
 ·cases ht
theorem afb{n:Nat}(h:n≤1000000):n*24≤room:=by unfold room;omega
theorem I2(l:List (List Rock.aE)):D.bJ (l.flatMap yB)=true:=iU (fun x=>by simp[yB,D.clean,Hs]) l
def ar7(b:cz)(m:cU)(σ:SK)(r:Option (List (List Rock.aE)×List (List Rock.aE)))(x:Abs.Exit)(e:Env)(σ':SK):Prop:=match r with
 |some (ss,ys)=>∃v u,x=.exit 0∧get e 4=.own 0 [.sl σ.length 2 v 0 ss.length 1,.sl σ.length 1 u 0 ys.length 1]∧σ'=[.cells 0 [],.cells u (ys.flatMap yB),.cells v (ss.flatMap yB)]::σ
 |none=>x=.gf (.uH 262 (.agg []))∧∃bj,σ'=bj::σ
theorem TL{b:cz}{m:cU}{az:List (List Int)}(h:Fv b m)(hp:az.length≤200)(hr:∀r∈az,Rv b r):∀(k i v u:Nat) (ss ys:List (List Rock.aE)) (s:List Rock.aE),i+k=az.length→ss.length=i+1→ys.length=i→ss[i]?=some s→Sv b s →
  WL T [2,4,14,15,16] false mO [(2,.bB [.int .i64 b.f.x,.int .i64 b.f.y,.int .i64 b.f.z,.int .i64 b.f.k,.aH b.ct.length (b.ct.flatMap Rw.enc),.int .i64 b.bK,.int .i64 b.lift,.int .i64 b.deep,.aH b.an.length (b.an.flatMap bI.enc),.str m.name,.aH m.bq.length (m.bq.flatMap aY)]),(4,.own 0 [.sl σ.length 2 v 0 (i+1) 1,.sl σ.length 1 u 0 i 1]),(14,.aH az.length (az.flatMap Gr)),(15,.int .i64 az.length),(16,.int .i64 i)]
   ([.cells 0 [],.cells u (ys.flatMap yB),.cells v (ss.flatMap yB)]::σ) (ar7 b m σ (vE b m ss ys s (az.drop i)))
 |0,i,v,u,ss,ys,s,hi,h1,h2,h3,hs=>by
  refine aM mO.eq_1 ?_;obtain rfl:i=az.length:=by omega
  have h5:az.drop az.length=[]:=aA (by omega);simp[-length_flatMap,-map_take,h5,vE,ar7];exact⟨v,u,by simp[h1,h2]⟩
 |k+1,i,v,u,ss,ys,s,hi,h1,h2,h3,hs=>by
  refine aM mO.eq_1 ?_;have hlt:i<az.length:=by omega
  have hii:(i:Int)<i+1:=by omega
  obtain⟨r,hx⟩:=gE hlt;have h4:=gN hlt (by omega);have h5:=cq hx;have a1:=bW (f:=Gr) (w:=1) (fun _=>rfl) hx;simp only[Gr,dM]at a1;have a2:=BA (f:=yB) (w:=1) (fun _=>rfl) h3;simp only[yB,dM,cG]at a2;have hT:=fun σ hσ=>anq (σ:=σ) h hs (hr r (aj hx)) hσ
  rw[h5,vE];unfold afB at hT;cases ht:tick b m s r with
  |none =>
   rw[ht]at hT;simp only at hT;simp[-length_flatMap,-map_take,hlt,hii,h4,a1,a2,hT,Gr,ar7]
  |some p =>
   obtain⟨s',y⟩:=p;rw[ht]at hT;simp only at hT;have ih:=TL h hp hr k (i+1) (v+1) (u+1) (ss++[s']) (ys++[y]) s' (by omega) (by simp[h1]) (by simp[h2]) (by simp[← h1]) (Sv.next h.bv ht);have l1:=Ri ss;have l2:=Ri ys;rw[h1]at l1;rw[h2]at l2;have f1:(ss.flatMap yB).take (i+1)=ss.flatMap yB:=ai (by omega);have f2:(ys.flatMap yB).take i=ys.flatMap yB:=ai (by omega);have h7:=afb (n:=i+1) (by omega);have h8:=afb (n:=i+1+1) (by omega);simp[-length_flatMap,-map_take,hlt,hii,h4,a1,a2,hT,Gr,f1,f2,l1,l2,h7,h8];exact WL.to ih (by simp) (by simp[yB]) fun x e σ hh=>hh
theorem OC{b:cz}{m:cU}{az:List (List Int)}(h:Fv b m)(hp:az.length≤200)(hr:∀r∈az,Rv b r)(hσ:σ≠[]){ss ys:List (List Rock.aE)}(hrun:Rock.run b m az=some (ss,ys)):
  lim T (.call false iQ [.agg [.int .i64 b.f.x,.int .i64 b.f.y,.int .i64 b.f.z,.int .i64 b.f.k,.aH b.ct.length (b.ct.flatMap Rw.enc),.int .i64 b.bK,.int .i64 b.lift,.int .i64 b.deep,.aH b.an.length (b.an.flatMap bI.enc),.str m.name,.aH m.bq.length (m.bq.flatMap aY)],.aH az.length (az.flatMap Gr)] σ)=some (.val (.agg [.aH ss.length (ss.flatMap yB),.aH ys.length (ys.flatMap yB)]) σ):=by
 refine aw xY nD.eq_1 rfl ?_;have hf:=fun σ hσ=>EI (σ:=σ) h hσ
 simp only[S4]at hf;simp[-length_flatMap,-map_take,hf,cM,bu,bw];refine WL.to (TL (σ:=σ) h hp hr az.length 0 0 0 [ea b m] [] (ea b m) (by omega) rfl rfl rfl (Sv.first h)) (by simp) (by simp[yB]) ?_;rw[aO,show vE b m [ea b m] [] (ea b m) az=some (ss,ys)from hrun];rintro x e σ' ⟨v,u,rfl,g4,rfl⟩;simp[-length_flatMap,-map_take,g4];have c1:∀x:List Rock.aE,D.bJ (yB x)=true:=fun x=>by simp[yB,D.clean,Hs]
 rw[agN (by simp) (by omega)];simp only[BZ,D7];rw[wG (f:=yB) (w:=1) (l:=ss) (by decide) (fun _=>rfl) c1 hσ (by simp)];simp only[List.set_cons_succ,List.set_cons_zero];rw[wG (f:=yB) (w:=1) (l:=ys) (by decide) (fun _=>rfl) c1 hσ (by simp)];exact⟨_,rfl⟩
theorem OB{b:cz}{m:cU}{az:List (List Int)}(h:Fv b m)(hp:az.length≤200)(hr:∀r∈az,Rv b r)(hrun:Rock.run b m az=none):
  lim T (.call false iQ [.agg [.int .i64 b.f.x,.int .i64 b.f.y,.int .i64 b.f.z,.int .i64 b.f.k,.aH b.ct.length (b.ct.flatMap Rw.enc),.int .i64 b.bK,.int .i64 b.lift,.int .i64 b.deep,.aH b.an.length (b.an.flatMap bI.enc),.str m.name,.aH m.bq.length (m.bq.flatMap aY)],.aH az.length (az.flatMap Gr)] σ)=some (.gf (.uH 262 (.agg [])) σ):=by
 refine ep xY nD.eq_1 rfl ?_;have hf:=fun σ hσ=>EI (σ:=σ) h hσ
 simp only[S4]at hf;simp[-length_flatMap,-map_take,hf,cM,bu,bw];refine WL.to (TL (σ:=σ) h hp hr az.length 0 0 0 [ea b m] [] (ea b m) (by omega) rfl rfl rfl (Sv.first h)) (by simp) (by simp[yB]) ?_;rw[aO,show vE b m [ea b m] [] (ea b m) az=none from hrun];rintro x e σ' ⟨rfl,bj,rfl⟩;simp[D.clean]
end Go.Proofs.YtfgljaglidhjiaaGreatDoor
