import Derived.Test.YtfgljaglidhjiaaGreatDoorTxt0
set_option linter.all false
namespace Go.Proofs.YtfgljaglidhjiaaGreatDoor
open List(length_flatMap map_take)
open Go Go.Abs Go.Rock
variable {σ:SK}
theorem aE.JA{x:Rock.aE}:x.valid=true↔(1≤x.m∧x.m≤1000000)∧(0≤x.h∧x.h≤10000000000)∧(0≤x.k∧x.k≤1000000000000):=by
 simp[Rock.aE.valid,cG]
structure Sv(b:cr)(s:List Rock.aE):Prop where
 len:s.length=b.n
 ok:∀x∈s,x.valid=true
theorem Sv.of{b:cr}{s:List Rock.aE}(h:Bv b):xZ b s=true↔Sv b s:=by
 have hs:=h.sz;have hn:=h.n;unfold xZ;simp only[af,au];constructor
 ·rintro⟨h1,h2⟩;exact⟨by unfold cr.size at h1;omega,jP.1 h2⟩
 ·rintro⟨h1,h2⟩;exact⟨by unfold cr.size;omega,jP.2 h2⟩
theorem Sv.at{b:cr}{s:List Rock.aE}(h:Sv b s){i:Nat}(hi:i<b.n):s[i]?=some (bQ s i)∧(1≤(bQ s i).m∧(bQ s i).m≤1000000)∧(0≤(bQ s i).h∧(bQ s i).h≤10000000000)∧(0≤(bQ s i).k∧(bQ s i).k≤1000000000000):=by
 have h1:i<s.length:=by have:=h.len;omega
 have h2:s[i]?=some (bQ s i):=by simp[bQ,h1]
 exact⟨h2,aE.JA.1 (h.ok _ (ai h2))⟩
theorem Sv.first{b:cr}{m:cN}(h:Fv b m):Sv b (dS b m):=by
 refine⟨BG,fun x hx=>?_⟩;simp only[dS,bK,List.mem_range]at hx;obtain⟨i,hi,rfl⟩:=hx;have b1:=h.hold i hi;have b2:=h.H4 i hi;have b3:=oq (by omega:0≤hold b m i) b1.2 b2.1 b2.2;exact aE.JA.2 ⟨⟨by simp only;omega,by simp only;omega⟩,⟨b3.1,by simp only;omega⟩,by simp⟩
theorem aee{r:Rw}(h:r.alone=true):(1≤r.p∧r.p≤10000)∧(0≤r.l∧r.l≤4000):=by
 simp only[Rw.alone,af]at h;exact⟨ba.1 h.2.1,ba.1 h.2.2.1⟩
theorem Nz{s:List Rock.aE}{i:Nat}{x:Rock.aE}{t:List Rw}(hx:s[i]?=some x)(hm:0≤x.m∧x.m≤1000000)(ht:∀r∈t,r.alone=true)(hl:t.length≤1000):∀(n j:Nat) (o:Int),j+n=t.length →
  WL T [1,2,7,34,35,36] false iX [(1,.aH s.length (s.flatMap aE.enc)),(2,.int .i64 i),(7,.int .i64 o),(34,.aH t.length (t.flatMap Rw.enc)),(35,.int .i64 t.length),(36,.int .i64 j)] σ
   (fun x' e σ'=>σ'=σ∧x'=.exit 0∧get e 7=.int .i64 ((t.drop j).foldl (pD x) o))
 |0,j,o,hj=>by
  refine aN iX.eq_1 ?_;have h1:¬j<t.length:=by omega
  have h2:t.drop j=[]:=aA (by omega);simp[-length_flatMap,-map_take,h1,h2]
 |n+1,j,o,hj=>by
  refine aN iX.eq_1 ?_;have h1:j<t.length:=by omega
  obtain⟨r,hr⟩:=gE h1;have hrb:=aee (ht r (ai hr));have h2:=bR (f:=Rw.enc) (w:=5) (fun _=>rfl) hr;have h3:=bR (f:=aE.enc) (w:=3) (fun _=>rfl) hx;have h4:=gG h1 (by omega);have h5:=cS hr;have hi:i<s.length:=(aC.1 hx).1;have b1:=oq hrb.2.1 hrb.2.2 hm.1 hm.2;have w1:=fR (n:=r.l*x.m) (by omega);have ih:=Nz hx hm ht hl n (j+1) (pD x o r) (by omega);rw[h5];simp only[List.foldl_cons];by_cases hc:r.l*x.m≤x.h
  ·have hm2:(if o<r.p then r.p else o)=pD x o r:=by unfold pD;rw[if_pos hc];omega
   simp[-length_flatMap,-map_take,h1,h2,h3,h4,hi,w1,hc];refine WL.to ih (by simp[pD,hc]) rfl fun x e σ hh=>hh
  ·simp[-length_flatMap,-map_take,h1,h2,h3,h4,hi,w1,hc];refine WL.to ih (by simp[pD,hc]) rfl fun x e σ hh=>hh
theorem Gf{b:cr}{m:cN}{s:List Rock.aE}(h:Fv b m)(hs:Sv b s){i:Nat}(hi:i<b.n):
  lim T (.call false fJ [.agg [.int .i64 b.f.x,.int .i64 b.f.y,.int .i64 b.f.z,.int .i64 b.f.k,.aH b.ck.length (b.ck.flatMap Rw.enc),.int .i64 b.bJ,.int .i64 b.lift,.int .i64 b.deep,.aH b.an.length (b.an.flatMap bG.enc),.str m.name,.aH m.bh.length (m.bh.flatMap aT)],.aH s.length (s.flatMap aE.enc),.int .i64 i] σ)=some (.val (.int .i64 (kQ b m s i)) σ):=by
 refine az zo kZ.eq_1 rfl ?_;have hw:=fun σ=>Gh (σ:=σ) (m:=m) h.bv hi
 have ho:=fun σ=>R8 (σ:=σ) h.toMv hi
 have b1:=h.hold i hi;obtain⟨hx,b2,b3,b4⟩:=hs.at hi;have hil:i<s.length:=by have:=hs.len;omega
 have hst:=h.bv.bJ;have b5:=Bt h.bv hi;have b6 : -100000000000≤b.bJ*((bQ s i).m-hold b m i)∧b.bJ*((bQ s i).m-hold b m i)≤100000000000:=by
  rcases mH (hold b m i) (bQ s i).m with hh | hh
  ·have:=oq (a:=b.bJ) (b:=(bQ s i).m-hold b m i) (A:=100000) (B:=1000000) (by omega) hst.2 (by omega) (by omega);omega
  ·have:=oq (a:=b.bJ) (b:=hold b m i-(bQ s i).m) (A:=100000) (B:=1000000) (by omega) hst.2 (by omega) (by omega);have e:b.bJ*((bQ s i).m-hold b m i) = - (b.bJ*(hold b m i-(bQ s i).m)):=by rw[← Int.mul_neg];congr 1;omega
   omega
 have hd:=fun σ=>al6 (σ:=σ) (n:=b.bJ*((bQ s i).m-hold b m i)) (d:=hold b m i) (by omega) (by omega)
 have b7 : -100000000000≤down (b.bJ*((bQ s i).m-hold b m i)) (hold b m i)∧down (b.bJ*((bQ s i).m-hold b m i)) (hold b m i)≤100000000000:=by
  unfold down;constructor
  ·rw[Int.le_ediv_iff_mul_le (by omega)];omega
  ·have:=Int.ediv_le_self (b:=hold b m i) (a:=b.bJ*((bQ s i).m-hold b m i));rcases mH 0 (b.bJ*((bQ s i).m-hold b m i))with hh | hh
   ·have:=this hh;omega
   ·have:=Int.ediv_le_of_le_mul (b:=0) (show 0<hold b m i by omega) (by omega:b.bJ*((bQ s i).m-hold b m i)≤0*hold b m i);omega
 have w1:=fR (n:=(bQ s i).m-hold b m i) (by omega);have w2:=fR (n:=b.bJ*((bQ s i).m-hold b m i)) (by omega);have w3:=fR (n:=weight b i+down (b.bJ*((bQ s i).m-hold b m i)) (hold b m i)) (by omega);have h3:=bR (f:=aE.enc) (w:=3) (fun _=>rfl) hx;have htab:=h.bv.ck;simp only[ku,af]at htab;have ht:=ba.1 htab.1;simp[-length_flatMap,-map_take,hw,ho,hil,h3,w1,w2,hd,w3];refine WL.to (Nz (σ:=[]::σ) hx ⟨by omega,by omega⟩ (jP.1 htab.2.1) (by omega) b.ck.length 0 (max 0 (weight b i+down (b.bJ*((bQ s i).m-hold b m i)) (hold b m i))) (by omega)) (by simp) rfl ?_;rintro x e σ' ⟨rfl,rfl,g⟩;simp[-length_flatMap,-map_take,g,kQ]
theorem JE{b:cr}{m:cN}{s:List Rock.aE}:(bV b m s).length=s.length:=by simp[bV]
theorem PC(l:List Int):(l.flatMap aT).length=l.length:=by
 have:=bZ (f:=aT) (w:=1) (fun _=>rfl) l;omega
theorem Fc{b:cr}{m:cN}{s:List Rock.aE}(h:Fv b m)(hs:Sv b s):∀(n i v:Nat),i+n=s.length →
  WL T [1,2,4,7,8] false ij [(1,.aH s.length (s.flatMap aE.enc)),(2,.bF [.int .i64 b.f.x,.int .i64 b.f.y,.int .i64 b.f.z,.int .i64 b.f.k,.aH b.ck.length (b.ck.flatMap Rw.enc),.int .i64 b.bJ,.int .i64 b.lift,.int .i64 b.deep,.aH b.an.length (b.an.flatMap bG.enc),.str m.name,.aH m.bh.length (m.bh.flatMap aT)]),(4,.sl σ.length 0 v 0 i 1),(7,.int .i64 s.length),(8,.int .i64 i)] ([.cells v (((bV b m s).take i).flatMap aT)]::σ)
   (fun x e σ'=>x=.exit 0∧get e 4=.sl σ.length 0 (v+n) 0 (bV b m s).length 1∧σ'=[.cells (v+n) ((bV b m s).flatMap aT)]::σ)
 |0,i,v,hi=>by
  refine aN ij.eq_1 ?_;have h1:¬i<s.length:=by omega
  have h3:(bV b m s).take i=bV b m s:=aj (by rw[JE];omega);simp[-length_flatMap,-map_take,h1,h3,JE];omega
 |n+1,i,v,hi=>by
  refine aN ij.eq_1 ?_;have h1:i<s.length:=by omega
  have hn:=h.bv.n;have hl:=hs.len;have h4:=gG h1 (by omega);have hp:=fun σ=>Gf (σ:=σ) h hs (i:=i) (by omega)
  have ih:=Fc h hs n (i+1) (v+1) (by omega);have hx:(bV b m s)[i]?=some (kQ b m s i):=by simp[bV,h1]
  have a3:=EG (f:=aT) hx;have a4:=PC ((bV b m s).take i);rw[lA,JE,Nat.min_eq_left (by omega)]at a4;have a6:(((bV b m s).take i).flatMap aT).take i=((bV b m s).take i).flatMap aT:=aj (by omega);have h7:(i+1)*8≤room:=by unfold room;omega
  simp[-length_flatMap,-map_take,h1,h4,hp,a4,a6,h7,cI,bj,bq];refine WL.to ih (by simp[cI,bj,bq]) (by simp[← a3]) fun x e σ hh=>by simpa[dr,Nat.add_comm 1 n]using hh
theorem Ki{b:cr}{m:cN}{s:List Rock.aE}(h:Fv b m)(hs:Sv b s)(hσ:σ≠[]):lim T (.call false gS [.agg [.int .i64 b.f.x,.int .i64 b.f.y,.int .i64 b.f.z,.int .i64 b.f.k,.aH b.ck.length (b.ck.flatMap Rw.enc),.int .i64 b.bJ,.int .i64 b.lift,.int .i64 b.deep,.aH b.an.length (b.an.flatMap bG.enc),.str m.name,.aH m.bh.length (m.bh.flatMap aT)],.aH s.length (s.flatMap aE.enc)] σ)=some (.val (.aH (bV b m s).length ((bV b m s).flatMap aT)) σ):=by
 refine az yL kf.eq_1 rfl ?_;simp[-length_flatMap,-map_take,cI,bj,bq];refine WL.to (Fc (σ:=σ) h hs s.length 0 0 (by omega)) (by simp) (by simp) ?_;rintro x e σ' ⟨rfl,g4,rfl⟩;simp[-length_flatMap,-map_take,g4];rw[xO (f:=aT) (by decide) (fun _=>rfl) (fun x=>by simp) hσ (by simp)];simp
theorem L8{x:Rock.aE}:lim T (.call false jr [.agg x.enc] σ)=some (.val (.bool x.valid) σ):=by
 refine az CN oM.eq_1 rfl ?_;cases hc1:cG x.m 1 1000000
 ·simp[-length_flatMap,-map_take,dH,Rock.aE.valid,hc1]
 cases hc2:cG x.h 0 10000000000
 ·simp[-length_flatMap,-map_take,dH,Rock.aE.valid,hc1,hc2]
 cases hc3:cG x.k 0 1000000000000
 ·simp[-length_flatMap,-map_take,dH,Rock.aE.valid,hc1,hc2,hc3]
 simp[-length_flatMap,-map_take,dH,Rock.aE.valid,hc1,hc2,hc3]
theorem IJ{x q m A:Int}(hm:1≤m)(hx:0≤x∧x≤A)(hq:0≤q∧q≤m):0≤(x*q).tdiv m∧(x*q).tdiv m≤A:=by
 have h1:=dI hx.1 hq.1;rw[bA h1];refine⟨Int.ediv_nonneg h1 (by omega),Int.ediv_le_of_le_mul (by omega) ?_⟩;exact ic hx.2 hq.2 hq.1 (by omega)
theorem Sh{x:Rock.aE}{q:Int}(hm:1≤x.m∧x.m≤1000000)(hh:0≤x.h∧x.h≤10000000000)(hk:0≤x.k∧x.k≤1000000000000)(hq:0≤q∧q≤x.m):
  lim T (.call false lF [.agg x.enc,.int .i64 q] σ)=some (.val (.agg (x.out q).enc) σ):=by
 refine az Eo rC.eq_1 rfl ?_;have b1:=oq hh.1 hh.2 hq.1 (show q≤1000000 by omega);have b2:=oq hk.1 hk.2 hq.1 (show q≤1000000 by omega);have b3:=IJ hm.1 hh hq;have b4:=IJ hm.1 hk hq;have w1:=fR (n:=x.h*q) (by omega);have w2:=fR (n:=x.k*q) (by omega);have w3:=fR (n:=(x.h*q).tdiv x.m) (by omega);have w4:=fR (n:=(x.k*q).tdiv x.m) (by omega);have hne:¬x.m=0:=by omega
 simp[-length_flatMap,-map_take,w1,w2,w3,w4,hne,Rock.aE.out]
def sm(x:Rock.aE)(n:Int):Prop:=(-n≤x.m∧x.m≤n)∧(-n≤x.h∧x.h≤n)∧(-n≤x.k∧x.k≤n)
theorem Ge{F:List Abs.aE}{j v i:Nat}{s:List Rock.aE}{x o:Rock.aE}{sign:Int}(hF:F[j]?=some (.cells v (s.flatMap aE.enc)))(hx:s[i]?=some x)(h1:sm x 1000000000000000000)(h2:sm o 1000000000000000000)(hs:sign=1∨sign = -1):
  lim T (.call false cj [.ref σ.length j v (i*3),.agg o.enc,.int .i64 sign] (F::σ))=some (.val (.dG []) (F.set j (.cells v ((iE s i o sign).flatMap aE.enc))::σ)):=by
 refine gw Ds pR.eq_1 rfl (by simp) ?_;obtain⟨a1,a2,a3⟩:=h1;obtain⟨c1,c2,c3⟩:=h2;have hi:i<s.length:=(aC.1 hx).1;obtain⟨A,B,hA,hAB⟩:∃A B:List D,A.length=i*3∧s.flatMap aE.enc=A++(x.enc++B):=by
  have hd:=Bi (f:=aE.enc) (w:=3) (fun _=>rfl) hx;have hlen:=F2 s;refine⟨(s.flatMap aE.enc).take (i*3),(s.flatMap aE.enc).drop (i*3+3),by rw[lA];omega,?_⟩;rw[← hd,List.take_append_drop]
 have hset:(iE s i o sign).flatMap aE.enc=A++((x.move o sign).enc++B):=by
  have h3:=PF (f:=aE.enc) (w:=3) (fun _=>rfl) (x:=x.move o sign) hi;have hblk:bQ s i=x:=by simp[bQ,hx]
  rw[iE,hblk,← h3,hAB];have e1:(A++(x.enc++B)).take (i*3)=A:=by rw[← hA];simp
  have e2:(A++(x.enc++B)).drop (i*3+3)=B:=by
   rw[← lG,← hA];simp
  rw[e1,e2]
 rw[hAB]at hF;rw[hset];have hj:j<F.length:=(aC.1 hF).1;have gs:∀X:Abs.aE,(F.set j X)[j]?=some X:=fun X=>by simp[hj]
 clear hset hAB hx hj;have t1:∀L:List D,(A++L).take (A.length+1)=A++L.take 1:=fun L=>by rw[List.take_length_add_append]
 have t2:∀L:List D,(A++L).take (A.length+1+1)=A++L.take 2:=fun L=>by rw[dr,List.take_length_add_append]
 have d2:∀L:List D,(A++L).drop (A.length+1+1)=L.drop 2:=fun L=>by rw[dr,cM]
 have d1:∀L:List D,(A++L).drop (A.length+1)=L.drop 1:=fun L=>by rw[cM]
 have d3:∀L:List D,(A++L).drop (A.length+1+1+1)=L.drop 3:=fun L=>by rw[dr,dr,cM]
 have k1:A.length+1+1≤A.length+(B.length+1+1+1):=by omega
 have k2:A.length+1+1+1≤A.length+(B.length+1+1+1):=by omega
 have k3:A.length+1≤A.length+(B.length+1+1+1):=by omega
 have k4:A.length+2+1≤A.length+(B.length+1+1+1):=by omega
 have d4:∀L:List D,(A++L).drop (A.length+2)=L.drop 2:=fun L=>by rw[cM]
 have d5:∀L:List D,(A++L).drop (A.length+2+1)=L.drop 3:=fun L=>by rw[dr,cM]
 have t4:∀L:List D,(A++L).take (A.length+2)=A++L.take 2:=fun L=>by rw[List.take_length_add_append]
 have y1:=fR (n:=o.m) (by omega);have y2:=fR (n:=o.h) (by omega);have y3:=fR (n:=o.k) (by omega);have y4:=fR (n := -o.m) (by omega);have y5:=fR (n := -o.h) (by omega);have y6:=fR (n := -o.k) (by omega);rcases hs with rfl | rfl
 ·have w1:=fR (n:=x.m+o.m) (by omega);have w2:=fR (n:=x.h+o.h) (by omega);have w3:=fR (n:=x.k+o.k) (by omega);simp[-length_flatMap,-map_take,hF,gs,← hA,w1,w2,w3,y1,y2,y3,t1,t2,t4,d1,d2,d3,d4,d5,k1,k2,k3,k4,Rock.aE.move]
 ·have w1:=fR (n:=x.m + -o.m) (by omega);have w2:=fR (n:=x.h + -o.h) (by omega);have w3:=fR (n:=x.k + -o.k) (by omega);simp[-length_flatMap,-map_take,hF,gs,← hA,w1,w2,w3,y4,y5,y6,t1,t2,t4,d1,d2,d3,d4,d5,k1,k2,k3,k4,Rock.aE.move]
theorem ae2{w:bG}{r:Int}(hr : -100000≤r∧r≤100000)(h1:0≤w.h∧w.h≤3000)(h2:0≤w.m∧w.m≤1000000):
  lim T (.call false nf [.agg w.enc,.int .i64 r] σ)=some (.val (.agg (w.given r).enc) σ):=by
 refine az Dt pS.eq_1 rfl ?_;have b1 : -300000000≤r*w.h∧r*w.h≤300000000:=by
  rcases mH 0 r with h | h
  ·have:=oq h hr.2 h1.1 h1.2;omega
  ·have:=oq (a := -r) (A:=100000) (by omega) (by omega) h1.1 h1.2;rw[Int.neg_mul]at this;omega
 have b2 : -100000000000≤r*w.m∧r*w.m≤100000000000:=by
  rcases mH 0 r with h | h
  ·have:=oq h hr.2 h2.1 h2.2;omega
  ·have:=oq (a := -r) (A:=100000) (by omega) (by omega) h2.1 h2.2;rw[Int.neg_mul]at this;omega
 have w1:=fR (n := -r) (by omega);have w2:=fR (n := -(r*w.h)) (by omega);have w3:=fR (n := -(r*w.m)) (by omega);simp[-length_flatMap,-map_take,w1,w2,w3,bG.given,Int.neg_mul]
theorem asE{b:cr}{m:cN}(h:Fv b m){i:Nat}(hi:i<b.n):lim T (.call false nh [.agg [.int .i64 b.f.x,.int .i64 b.f.y,.int .i64 b.f.z,.int .i64 b.f.k,.aH b.ck.length (b.ck.flatMap Rw.enc),.int .i64 b.bJ,.int .i64 b.lift,.int .i64 b.deep,.aH b.an.length (b.an.flatMap bG.enc),.str m.name,.aH m.bh.length (m.bh.flatMap aT)],.int .i64 i] σ)=some (.val (.agg (MF b m i).enc) σ):=by
 refine az Dx pV.eq_1 rfl ?_;have hf:=fun σ=>al8 (σ:=σ) h.toMv hi
 have b1:=h.feed i hi;have b2:=h.bv.deep;have b3:=oq b1.1 b1.2 b2.1 b2.2;have w1:=fR (n:=feed b m i*b.deep) (by omega);simp[-length_flatMap,-map_take,hf,w1,MF]
theorem aeW{s:List Rock.aE}{bs:List Abs.aE}(hl:s.length≤1000000)(hne:s≠[]):lim T (.call true cK [.aH s.length (s.flatMap aE.enc)] (bs::σ)) =
  some (.val (.sl σ.length (bs.length+1) 1 0 s.length 3) ((bs++[.cells 0 [],.cells 1 (s.flatMap aE.enc)])::σ)):=by
 refine we rR dE.eq_1 rfl ?_;have h7:s.length*24≤room:=by unfold room;omega
 simp[-length_flatMap,-map_take,hne,F2,h7]
theorem ae5{b:cr}:lim T (.call false oc [.agg [.int .i64 b.f.x,.int .i64 b.f.y,.int .i64 b.f.z,.int .i64 b.f.k,.aH b.ck.length (b.ck.flatMap Rw.enc),.int .i64 b.bJ,.int .i64 b.lift,.int .i64 b.deep,.aH b.an.length (b.an.flatMap bG.enc)]] σ)=some (.val (.fn jm [] [.bF [.int .i64 b.f.x,.int .i64 b.f.y,.int .i64 b.f.z,.int .i64 b.f.k,.aH b.ck.length (b.ck.flatMap Rw.enc),.int .i64 b.bJ,.int .i64 b.lift,.int .i64 b.deep,.aH b.an.length (b.an.flatMap bG.enc)]]) σ):=by
 refine az El rz.eq_1 rfl ?_;simp[-length_flatMap,-map_take,cI,bj,bq]
theorem Bv.xy{b:cr}(h:Bv b):b.f.x=(b.f.x.toNat:Int)∧b.f.y=(b.f.y.toNat:Int)∧1≤b.f.x.toNat*b.f.y.toNat∧b.f.x.toNat*b.f.y.toNat≤64:=by
 have hx:=h.x;have hy:=h.y;obtain⟨s1,_⟩:=fP.sz h.x h.y h.z;have e1:b.f.x*b.f.y=((b.f.x.toNat*b.f.y.toNat:Nat):Int):=by push_cast;rw[fT (by omega),fT (by omega)]
 rw[e1]at s1;refine⟨by omega,by omega,by omega,by omega⟩
theorem Bv.nat{b:cr}(h:Bv b):b.n=b.f.x.toNat*b.f.y.toNat*b.f.z.toNat∧1≤b.f.x.toNat∧1≤b.f.y.toNat:=by
 have hx:=h.x;have hy:=h.y;have hz:=h.z;have hs:=h.sz;refine⟨?_,by omega,by omega⟩;have:((b.f.x.toNat*b.f.y.toNat*b.f.z.toNat:Nat):Int)=b.f.size:=by
  push_cast;rw[fT (by omega),fT (by omega),fT (by omega)];rfl
 omega
theorem alx{X W i n:Nat}(hn:n=X*W)(hi:i<n)(hc:(i+1)%X≠0):i+1<n:=by
 rcases Nat.lt_or_ge (i+1) n with h | h
 ·exact h
 ·have:i+1=X*W:=by omega
  rw[this,Nat.mul_mod_right]at hc;exact absurd rfl hc
theorem link2{X Y Z i n:Nat}(hX:1≤X)(hY:1≤Y)(hn:n=X*Y*Z)(hi:i<n)(hc:i / X%Y≠Y-1):i+X<n:=by
 have h1:i / X<Y*Z:=by rw[Nat.div_lt_iff_lt_mul hX,Nat.mul_comm,← Nat.mul_assoc];omega
 have h2:i / X+1<Y*Z:=by
  rcases Nat.lt_or_ge (i / X+1) (Y*Z)with h | h
  ·exact h
  ·exfalso
   have h3:i / X+1=Y*Z:=by omega
   have hZ:1≤Z:=by
    rcases Nat.eq_zero_or_pos Z with h0 | h0
    ·subst h0;omega
    ·exact h0
   have h4:i / X=Y*(Z-1)+(Y-1):=by
    have:Y*Z=Y*(Z-1)+Y:=by rw[← Nat.mul_succ];congr 1;omega
    omega
   rw[h4,Nat.mul_add_mod,Nat.mod_eq_of_lt (by omega)]at hc;exact hc rfl
 have h3:i<(i / X+1)*X:=by
  have:=Nat.div_add_mod i X;have h4:=Nat.mod_lt i (show X>0 by omega);rw[iQ,Nat.one_mul,Nat.mul_comm (i / X) X];omega
 have h5:(i / X+1)*X+X≤n:=by
  have:(i / X+1+1)*X≤Y*Z*X:=di _ h2;rw[iQ (i / X+1) 1 X,Nat.one_mul,Nat.mul_comm (Y*Z) X,← Nat.mul_assoc]at this;omega
 omega
theorem Nx{b:cr}(h:Bv b){lv j N:Nat}{St:List (Nat×Nat)→SK}(hN:∀pre,(St pre).length=N)
  (hR:∀pre,∀l:Nat×Nat,l.1<b.n→l.2<b.n→l.1≠l.2→lim T (.round lv j [.agg [.int .i64 l.1,.int .i64 l.2]] ([]::St pre))=some (.val (.bool true) ([]::St (pre++[l])))):∀(n i:Nat) (pre:List (Nat×Nat)),i+n=b.n →
  WL T [0,1,3,4,13,14] false mc [(0,.mq lv j),(1,.bF [.int .i64 b.f.x,.int .i64 b.f.y,.int .i64 b.f.z,.int .i64 b.f.k,.aH b.ck.length (b.ck.flatMap Rw.enc),.int .i64 b.bJ,.int .i64 b.lift,.int .i64 b.deep,.aH b.an.length (b.an.flatMap bG.enc)]),(3,.int .i64 b.f.x),(4,.int .i64 b.f.y),(13,.int .i64 b.n),(14,.int .i64 i)] ([]::St pre)
   (fun x e σ'=>σ'=[]::St (pre++((List.range b.n).drop i).flatMap (xQ b))∧x=.exit 0)
 |0,i,pre,hi=>by
  refine aN mc.eq_1 ?_;have h1:¬i<b.n:=by omega
  have h2:(List.range b.n).drop i=[]:=aA (by simp;omega);simp[-length_flatMap,-map_take,h1,h2]
 |n+1,i,pre,hi=>by
  refine aN mc.eq_1 ?_;have h1:i<b.n:=by omega
  have hn:=h.n;have hx:=h.x;have hy:=h.y;obtain⟨eX,eY,p1,p2⟩:=h.xy;have h4:=gG h1 (by omega);have hs:=fun σ=>yG (σ:=σ) h
  have h5:(List.range b.n).drop i=i::(List.range b.n).drop (i+1):=cS (by simp[h1]);have w1:=fR (n:=b.f.x*b.f.y) (by rw[eX,eY];omega);obtain⟨hnn,X1,Y1⟩:=h.nat;have hx0:¬b.f.x=0:=by omega
  have hy0:¬b.f.y=0:=by omega
  have ih:=fun pre=>Nx h hN hR n (i+1) pre (by omega)
  have e1:((i:Int)+1).tmod b.f.x=(((i+1)%b.f.x.toNat:Nat):Int):=by
   conv=>lhs;rw[eX]
   rfl
  have e2:(i:Int) / b.f.x=((i / b.f.x.toNat:Nat):Int):=by
   conv=>lhs;rw[eX]
   rfl
  have e2b:(i:Int).tdiv b.f.x=((i / b.f.x.toNat:Nat):Int):=by
   conv=>lhs;rw[eX]
   rfl
  have e3:((i / b.f.x.toNat:Nat):Int).tmod b.f.y=((i / b.f.x.toNat%b.f.y.toNat:Nat):Int):=by
   conv=>lhs;rw[eY]
   rfl
  have e4:b.f.x*b.f.y=((b.f.x.toNat*b.f.y.toNat:Nat):Int):=by
   conv=>lhs;rw[eX,eY]
   rfl
  have hq:i / b.f.x.toNat≤i:=Nat.div_le_self _ _;have hr1:(i+1)%b.f.x.toNat≤i+1:=Nat.mod_le _ _;have hr2:i / b.f.x.toNat%b.f.y.toNat≤i / b.f.x.toNat:=Nat.mod_le _ _;have l1:=alx (W:=b.f.y.toNat*b.f.z.toNat) (by rw[hnn,Nat.mul_assoc]) h1;have l2:=link2 (Z:=b.f.z.toNat) X1 Y1 hnn h1;have R1:=fun pre hc=>hR pre (i,i+1) h1 (l1 hc) (by simp)
  have R2:=fun pre hc=>hR pre (i,i+b.f.x.toNat) h1 (l2 hc) (by simp;omega)
  have R3:=fun pre hc=>hR pre (i,i+b.f.x.toNat*b.f.y.toNat) h1 hc (by simp;omega)
  have z2:((i+b.f.x.toNat:Nat):Int)=(i:Int)+b.f.x:=by omega
  have z3:((i+b.f.x.toNat*b.f.y.toNat:Nat):Int)=(i:Int)+b.f.x*b.f.y:=by rw[e4];omega
  have z1:((i+1:Nat):Int)=(i:Int)+1:=rfl;simp only[z1,z2,z3]at R1 R2 R3;generalize hA:i / b.f.x.toNat=A at *
  generalize hB:A%b.f.y.toNat=B at *
  generalize hC:(i+1)%b.f.x.toNat=C at *
  generalize hP:b.f.x.toNat*b.f.y.toNat=P at *
  have v1:=fR (n:=(A:Int)) (by omega);have v2:=fR (n:=(B:Int)) (by omega);have v3:=fR (n:=(C:Int)) (by omega);have v4:=fR (n:=b.f.y-1) (by omega);have v5:=fR (n:=(i:Int)+b.f.x) (by omega);have v6:=fR (n:=(i:Int)+b.f.x*b.f.y) (by rw[e4];omega);have v7:=fR (n:=b.f.x*b.f.y) (by rw[e4];omega);have c3:((i:Int)+b.f.x*b.f.y<(b.n:Int))↔(i+P<b.n):=by rw[e4];omega
  have hL:xQ b i=(if C≠0 then [(i,i+1)]else [])++((if B≠b.f.y.toNat-1 then [(i,i+b.f.x.toNat)]else [])++(if i+P<b.n then [(i,i+P)]else [])):=by
   unfold xQ;rw[hC,hA,hB,hP]
  rw[h5,aZ,hL];clear hL hnn l1 l2;have t1:((C:Int)=0)↔(C=0):=by omega
  have t2:((B:Int)=b.f.y-1)↔(B=b.f.y.toNat-1):=by omega
  by_cases k1:C=0<;>by_cases k2:B=b.f.y.toNat-1<;>by_cases k3:i+P<b.n;all_goals
   first | (have u1:=t1.2 k1) | (have u1:=mt t1.1 k1)
   first | (have u2:=t2.2 k2) | (have u2:=mt t2.1 k2)
   have ih':=ih (pre++((if C≠0 then [(i,i+1)]else [])++((if B≠b.f.y.toNat-1 then [(i,i+b.f.x.toNat)]else [])++(if i+P<b.n then [(i,i+P)]else []))));first
    |(rw[if_neg (not_not_intro k1)]at ih' ⊢) | (rw[if_pos k1]at ih' ⊢)
   first
    |(rw[if_neg (not_not_intro k2)]at ih' ⊢) | (rw[if_pos k2]at ih' ⊢)
   first
    |(rw[if_neg k3]at ih' ⊢) | (rw[if_pos k3]at ih' ⊢)
   have g1:=fun pre=>R1 pre
   have g2:=fun pre=>R2 pre
   have g3:=fun pre=>R3 pre
   first | (have g1:=fun pre=>R1 pre k1) | skip
   first | (have g2:=fun pre=>R2 pre k2) | skip
   first | (have g3:=fun pre=>R3 pre k3) | skip
   simp[-length_flatMap,-map_take,h1,h4,hx0,hy0,e1,e2,e2b,e3,v1,v2,v3,v4,v5,v6,v7,c3,u1,u2,k1,k3,hs,g1,g2,g3];refine WL.to ih' (by simp) (by simp) fun x e σ hh=>by simpa using hh
theorem Sa{b:cr}(h:Bv b){lv j N:Nat}{St:List (Nat×Nat)→SK}(hN:∀pre,(St pre).length=N)
  (hR:∀pre,∀l:Nat×Nat,l.1<b.n→l.2<b.n→l.1≠l.2→lim T (.round lv j [.agg [.int .i64 l.1,.int .i64 l.2]] ([]::St pre))=some (.val (.bool true) ([]::St (pre++[l])))):
  lim T (.call false jm [.mq lv j,.bF [.int .i64 b.f.x,.int .i64 b.f.y,.int .i64 b.f.z,.int .i64 b.f.k,.aH b.ck.length (b.ck.flatMap Rw.enc),.int .i64 b.bJ,.int .i64 b.lift,.int .i64 b.deep,.aH b.an.length (b.an.flatMap bG.enc)]] (St []))=some (.val (.dG []) (St (IE b))):=by
 refine gw CJ oI.eq_1 rfl (by rw[hN,hN]) ?_;have hs:=fun σ=>yG (σ:=σ) h
 simp[-length_flatMap,-map_take,hs];refine WL.to (Nx h hN hR b.n 0 [] (by omega)) (by simp) rfl ?_;rintro x e σ' ⟨rfl,rfl⟩;simp[-length_flatMap,-map_take,IE]
def Dm(es:List ((Nat×Nat)×Rock.aE)):List D:=es.map fun e => .dG [.agg [.int .i64 e.1.1,.int .i64 e.1.2],.agg e.2.enc]
def kyL:Ky:=some (true,[some .i64,some .i64])
theorem au3{a b:Nat×Nat}:sS kyL (.agg [.int .i64 a.1,.int .i64 a.2]) (.agg [.int .i64 b.1,.int .i64 b.2])=some (b == a):=by
 simp only[sS,kyL,D.row,zK,and_self,if_true,aS,Bool.and_true];congr 1;rw[Bool.eq_iff_iff];simp only[af,beq_iff_eq];constructor
 ·rintro⟨h1,h2⟩;exact Prod.ext (by omega) (by omega)
 ·rintro rfl;exact⟨rfl,rfl⟩
theorem KR{k:Nat×Nat}:∀{es:List ((Nat×Nat)×Rock.aE)},∃r,qT kyL (.agg [.int .i64 k.1,.int .i64 k.2]) (Dm es)=some r∧r.map Prod.fst=es.findIdx? (fun e=>e.1 == k)
 |[]=>⟨none,rfl,rfl⟩
 |e::es=>by
  obtain⟨r,h1,h2⟩:=KR (k:=k) (es:=es);simp only[Dm,aP]at h1 ⊢;simp only[qT,au3];cases hk:e.1 == k
  ·refine⟨_,by rw[h1];rfl,?_⟩;rw[List.findIdx?_cons,hk,← h2];cases r<;>rfl
  ·exact⟨_,rfl,by rw[List.findIdx?_cons,hk];rfl⟩
theorem adZ{S:SK}{l i:Nat}{es:List ((Nat×Nat)×Rock.aE)}{k:Nat×Nat}{o:Rock.aE}(h:cells? S l i 0=some (Dm es)):
  AE S (.put kyL) [.mq l i,.agg [.int .i64 k.1,.int .i64 k.2],.agg o.enc]=some (.undef,aV S l i (.cells 0 (Dm (Rt es k o)))):=by
 obtain⟨r,h1,h2⟩:=KR (k:=k) (es:=es);simp only[AE,AD,h,aS,h1,au3,Option.isSome_some,true_and];rw[if_pos (.inr ⟨by simp[D.clean],by simp[D.clean]⟩)];unfold Rt;rw[← h2];cases r with
 |none=>simp[Dm]
 |some y=>simp[Dm,List.map_set]
theorem He{x:Rock.aE}{A:Int}(hA:10000≤A):∀(t:List Rw) (o:Int),(∀r∈t,r.alone=true)→(0≤o∧o≤A)→0≤t.foldl (pD x) o∧t.foldl (pD x) o≤A
 |[],o,_,h=>h
 |r::t,o,ht,h=>by
  have h1:=aee (ht r (by simp));refine He hA t _ (fun r hr=>ht r (by simp[hr])) ?_;unfold pD;split<;>omega
theorem JF{b:cr}{m:cN}{s:List Rock.aE}(h:Fv b m)(hs:Sv b s){i:Nat}(hi:i<b.n):0≤kQ b m s i∧kQ b m s i≤200000000000:=by
 have htab:=h.bv.ck;simp only[ku,af]at htab;refine He (by omega) _ _ (jP.1 htab.2.1) ?_;have b5:=Bt h.bv hi;have b1:=h.hold i hi;obtain⟨hx,b2,b3,b4⟩:=hs.at hi;have hst:=h.bv.bJ;have b6:b.bJ*((bQ s i).m-hold b m i)≤100000000000:=by
  rcases mH (hold b m i) (bQ s i).m with hh | hh
  ·have:=oq (a:=b.bJ) (b:=(bQ s i).m-hold b m i) (A:=100000) (B:=1000000) (by omega) hst.2 (by omega) (by omega);omega
  ·have:=oq (a:=b.bJ) (b:=hold b m i-(bQ s i).m) (A:=100000) (B:=1000000) (by omega) hst.2 (by omega) (by omega);have e:b.bJ*((bQ s i).m-hold b m i) = - (b.bJ*(hold b m i-(bQ s i).m)):=by rw[← Int.mul_neg];congr 1;omega
   omega
 have b7:down (b.bJ*((bQ s i).m-hold b m i)) (hold b m i)≤100000000000:=by
  unfold down;have:=Int.ediv_le_self (b:=hold b m i) (a:=b.bJ*((bQ s i).m-hold b m i));rcases mH 0 (b.bJ*((bQ s i).m-hold b m i))with hh | hh
  ·have:=this hh;omega
  ·have:=Int.ediv_le_of_le_mul (b:=0) (show 0<hold b m i by omega) (by omega:b.bJ*((bQ s i).m-hold b m i)≤0*hold b m i);omega
 omega
theorem yM{O:bN}{c c':cH}(hc:c=c'){e:Env}{σ:SK}{Q:Abs.Exit→Env→SK→Prop}:WC O c e σ Q .mk .mk=WC O c' e σ Q .mk .mk:=by subst hc;rfl
def Re(b:cr)(m:cN)(s:List Rock.aE)(L:Nat):wE :=
 {state:=0,xf:=none,env:=[(2,.bF [.int .i64 b.f.x,.int .i64 b.f.y,.int .i64 b.f.z,.int .i64 b.f.k,.aH b.ck.length (b.ck.flatMap Rw.enc),.int .i64 b.bJ,.int .i64 b.lift,.int .i64 b.deep,.aH b.an.length (b.an.flatMap bG.enc),.str m.name,.aH m.bh.length (m.bh.flatMap aT)]),(3,.bF [.aH s.length (s.flatMap aE.enc)]),(4,.undef),(5,.ref L 3 0 0),(6,.ref L 4 0 0)],params:=[18],zu:=ke,body:=dK }
def RF(A B:Abs.aE)(b:cr)(m:cN)(s:List Rock.aE)(σ:SK)(es:List ((Nat×Nat)×Rock.aE)):SK :=
 [A,B,.cells 0 (Dm es),.cells 0 [.mq σ.length 2],.cells 0 [.aH (bV b m s).length ((bV b m s).flatMap aT)],.loop (Re b m s σ.length)]::σ
theorem amA{A B:Abs.aE}{b:cr}{m:cN}{s:List Rock.aE}(h:Fv b m)(hs:Sv b s)(es:List ((Nat×Nat)×Rock.aE))(l:Nat×Nat)(h1:l.1<b.n)(h2:l.2<b.n):
  lim T (.round σ.length 5 [.agg [.int .i64 l.1,.int .i64 l.2]] ([]::RF A B b m s σ es))=some (.val (.bool true) ([]::RF A B b m s σ (pg b m s (bV b m s) es l))):=by
 have hn:=h.bv.n;have hl:=hs.len;have hp1:(bV b m s)[l.1]?=some (kQ b m s l.1):=by simp[bV,hl,h1]
 have hp2:(bV b m s)[l.2]?=some (kQ b m s l.2):=by simp[bV,hl,h2]
 have a1:=qB hp1;have a2:=qB hp2;have hpl:(bV b m s).length=b.n:=by rw[JE,hl]
 have bp1:=JF h hs h1;have bp2:=JF h hs h2;have bw1:=Bt h.bv h1;have bw2:=Bt h.bv h2;have cw1:=fun σ=>Gh (σ:=σ) (m:=m) h.bv h1
 have cw2:=fun σ=>Gh (σ:=σ) (m:=m) h.bv h2
 have co1:=fun σ=>Sg (σ:=σ) h.toMv h1
 have co2:=fun σ=>Sg (σ:=σ) h.toMv h2
 have bo1:=h.HW l.1 h1;have bo2:=h.HW l.2 h2;obtain⟨x1,m1,m2,m3⟩:=hs.at h1;obtain⟨y1,n1,n2,n3⟩:=hs.at h2;have f1:=bR (f:=aE.enc) (w:=3) (fun _=>rfl) x1;have f2:=bR (f:=aE.enc) (w:=3) (fun _=>rfl) y1;have w1:=fR (n:=kQ b m s l.1-weight b l.1) (by omega);have w2:=fR (n:=kQ b m s l.1-weight b l.1-kQ b m s l.2) (by omega);have w3:=fR (n:=kQ b m s l.1-weight b l.1-kQ b m s l.2+weight b l.2) (by omega);have hL1:l.1<s.length:=by omega
 have hL2:l.2<s.length:=by omega
 have hE:pg b m s (bV b m s) es l=pg b m s (bV b m s) es l:=rfl
 conv at hE=>rhs;unfold pg Jp
 simp only[hp1,hp2,gP]at hE;generalize pg b m s (bV b m s) es l=es' at *
 have hmin:0≤min (HW b m l.2) (HW b m l.1)∧min (HW b m l.2) (HW b m l.1)≤1000:=by omega
 have hmin':0≤min (HW b m l.1) (HW b m l.2)∧min (HW b m l.1) (HW b m l.2)≤1000:=by omega
 generalize hw1:weight b l.1=W1 at *
 generalize hw2:weight b l.2=W2 at *
 generalize hq1:kQ b m s l.1=P1 at *
 generalize hq2:kQ b m s l.2=P2 at *
 generalize hD:P1-W1-P2+W2=d at *
 refine Lv (lp:=Re b m s σ.length) (by simp[RF]) rfl ?_;rw[show(Re b m s σ.length).zu=ke from rfl,ke.eq_1,show(Re b m s σ.length).body=dK from rfl];by_cases hd:d<0
 ·simp only[hd,if_true]at hE;have b3:=oq hmin.1 hmin.2 (show 0 ≤ -d by omega) (show -d≤1000000000000 by omega);have w4:=fR (n := -d) (by omega);have d1:=bA (b:=1000) b3.1;have d2:=bA (b:=8) (show 0≤(bQ s l.2).m by omega);generalize hX:min (HW b m l.2) (HW b m l.1) * -d=X at *
  have w5:=fR (n:=X) (by omega);generalize hY:X.tdiv 1000=Y at *
  generalize hZ:(bQ s l.2).m.tdiv 8=Z at *
  have w6:=fR (n:=Y) (by rw[d1];omega);have w7:=fR (n:=Z) (by rw[d2];omega);by_cases hq:0<min Y Z
  ·have hO:=fun σ=>Sh (σ:=σ) (q:=min Y Z) n1 n2 n3 ⟨by omega,by rw[d2];omega⟩
   have hP:=fun S h=>adZ (S:=S) (l:=σ.length) (i:=2) (es:=es) (k:=(l.2,l.1)) (o:=(bQ s l.2).out (min Y Z)) h
   rw[if_pos hq]at hE;simp only at hE;subst hE;generalize (bQ s l.2).out (min Y Z)=O at *
   simp only[aE.enc]at hO;simp only[aE.enc,kyL]at hP;simp[-length_flatMap,-map_take,yM dK.eq_1,Re,RF,Rj,hpl,h1,h2,a1,a2,cw1,cw2,w1,w2,w3,hD,hd,co1,co2,hL1,hL2,f1,f2,w4,w5,w6,w7,hX,hY,hZ,hq,hO,hP]
  ·rw[if_neg hq]at hE;simp only at hE;subst hE;simp[-length_flatMap,-map_take,yM dK.eq_1,Re,RF,Rj,hpl,h1,h2,a1,a2,cw1,cw2,w1,w2,w3,hD,hd,co1,co2,hL1,hL2,f1,f2,w4,w5,w6,w7,hX,hY,hZ,hq]
 ·simp only[hd,if_false]at hE;have b3:=oq hmin'.1 hmin'.2 (show 0≤d by omega) (show d≤1000000000000 by omega);have w4:=fR (n:=d) (by omega);have d1:=bA (b:=1000) b3.1;have d2:=bA (b:=8) (show 0≤(bQ s l.1).m by omega);generalize hX:min (HW b m l.1) (HW b m l.2)*d=X at *
  have w5:=fR (n:=X) (by omega);generalize hY:X.tdiv 1000=Y at *
  generalize hZ:(bQ s l.1).m.tdiv 8=Z at *
  have w6:=fR (n:=Y) (by rw[d1];omega);have w7:=fR (n:=Z) (by rw[d2];omega);by_cases hq:0<min Y Z
  ·have hO:=fun σ=>Sh (σ:=σ) (q:=min Y Z) m1 m2 m3 ⟨by omega,by rw[d2];omega⟩
   have hP:=fun S h=>adZ (S:=S) (l:=σ.length) (i:=2) (es:=es) (k:=l) (o:=(bQ s l.1).out (min Y Z)) h
   rw[if_pos hq]at hE;simp only at hE;subst hE;generalize (bQ s l.1).out (min Y Z)=O at *
   simp only[aE.enc]at hO;simp only[aE.enc,kyL]at hP;simp[-length_flatMap,-map_take,yM dK.eq_1,Re,RF,Rj,hpl,h1,h2,a1,a2,cw1,cw2,w1,w2,w3,hD,hd,co1,co2,hL1,hL2,f1,f2,w4,w5,w6,w7,hX,hY,hZ,hq,hO,hP]
  ·rw[if_neg hq]at hE;simp only at hE;subst hE;simp[-length_flatMap,-map_take,yM dK.eq_1,Re,RF,Rj,hpl,h1,h2,a1,a2,cw1,cw2,w1,w2,w3,hD,hd,co1,co2,hL1,hL2,f1,f2,w4,w5,w6,w7,hX,hY,hZ,hq]
theorem ae1{A B:Abs.aE}{b:cr}{m:cN}{s:List Rock.aE}(h:Fv b m)(hs:Sv b s):∃X Y Z:Abs.aE,
  lim T (.call true kK [.agg [.int .i64 b.f.x,.int .i64 b.f.y,.int .i64 b.f.z,.int .i64 b.f.k,.aH b.ck.length (b.ck.flatMap Rw.enc),.int .i64 b.bJ,.int .i64 b.lift,.int .i64 b.deep,.aH b.an.length (b.an.flatMap bG.enc),.str m.name,.aH m.bh.length (m.bh.flatMap aT)],.aH s.length (s.flatMap aE.enc)] ([A,B]::σ))=some (.val (.mq σ.length 2) ([A,B,.cells 0 (Dm (vq b m s)),X,Y,Z]::σ)):=by
 refine⟨.cells 0 [.mq σ.length 2],.cells 0 [.aH (bV b m s).length ((bV b m s).flatMap aT)],.loop {Re b m s σ.length with state:=3 },?_⟩;refine we Cb nO.eq_1 rfl ?_;have hp:=fun σ hσ=>Ki (σ:=σ) h hs hσ
 have hl:=Sa (b:=b) h.bv (lv:=σ.length) (j:=5) (N:=σ.length+1) (St:=fun pre=>RF A B b m s σ (pre.foldl (pg b m s (bV b m s)) [])) (fun pre=>by simp[RF])
  (fun pre l h1 h2 _=>by rw[List.foldl_append];exact amA h hs _ l h1 h2)
 have hm:AE ([A,B]::σ) .make []=some (.mq σ.length 2,[A,B,.cells 0 (Dm [])]::σ):=by simp[AE,Dm]
 simp[-length_flatMap,-map_take,hp,ae5,cI,bj,bq,GL,hm];refine NJ (d:=.dG []) (σ2:=RF A B b m s σ (vq b m s)) (lp:=Re b m s σ.length) (by simp;exact⟨rfl,rfl,rfl⟩) ?_ (by simp[RF]) (by simp[Re]) ?_
 ·simpa[Re,RF,vq]using hl
 ·simp[-length_flatMap,-map_take,Re,RF]
end Go.Proofs.YtfgljaglidhjiaaGreatDoor
namespace Go.Proofs.YtfgljaglidhjiaaGreatDoor
open List(length_flatMap map_take)
open Go Go.Abs Go.Rock
def BC(N:Int)(s:List Rock.aE):Prop:=∀x∈s,sm x N
theorem kr{x:Rock.aE}{N M:Int}(h:sm x N)(hN:N≤M):sm x M:=by
 obtain⟨h1,h2,h3⟩:=h;exact⟨⟨by omega,by omega⟩,⟨by omega,by omega⟩,⟨by omega,by omega⟩⟩
theorem GG{N:Int}{s:List Rock.aE}(h:BC N s){i:Nat}(hi:i<s.length):s[i]?=some (bQ s i)∧sm (bQ s i) N:=by
 have h2:s[i]?=some (bQ s i):=by simp[bQ,hi]
 exact⟨h2,h _ (ai h2)⟩
theorem D0{s:List Rock.aE}{i:Nat}{o:Rock.aE}{sign:Int}:(iE s i o sign).length=s.length:=by simp[iE]
theorem yY{N M:Int}{s:List Rock.aE}(h:BC N s){i:Nat}{o:Rock.aE}{sign:Int}(ho:sm o M)(hs:sign=1∨sign = -1)(hM:0≤M):BC (N+M) (iE s i o sign):=by
 intro x hx;unfold iE at hx;by_cases hi:i<s.length
 ·rcases List.mem_or_eq_of_mem_set hx with hx | rfl
  ·exact kr (h x hx) (by omega)
  ·obtain⟨a1,a2,a3⟩:=(GG h hi).2;obtain⟨b1,b2,b3⟩:=ho;rcases hs with rfl | rfl
   ·exact⟨⟨by simp only[Rock.aE.move];omega,by simp only[Rock.aE.move];omega⟩,⟨by simp only[Rock.aE.move];omega,by simp only[Rock.aE.move];omega⟩,⟨by simp only[Rock.aE.move];omega,by simp only[Rock.aE.move];omega⟩⟩
   ·exact⟨⟨by simp only[Rock.aE.move];omega,by simp only[Rock.aE.move];omega⟩,⟨by simp only[Rock.aE.move];omega,by simp only[Rock.aE.move];omega⟩,⟨by simp only[Rock.aE.move];omega,by simp only[Rock.aE.move];omega⟩⟩
 ·rw[List.set_eq_of_length_le (by omega)]at hx;exact kr (h x hx) (by omega)
theorem BJ{s:List Rock.aE}{i j:Nat}{o p:Rock.aE}{a c:Int}:iE (iE s i o a) j p c=iE (iE s j p c) i o a:=by
 by_cases hij:i=j
 ·subst hij;by_cases hi:i<s.length
  ·simp only[iE,bQ,List.getElem?_set_self hi,gP,List.set_set,Rock.aE.move];congr 2<;>omega
  ·simp only[iE,List.set_eq_of_length_le (show s.length≤i by omega)]
 ·have hji:¬j=i:=fun h=>hij h.symm
  simp only[iE,bQ,List.getElem?_set_ne hij,List.getElem?_set_ne hji];rw[List.set_comm _ _ hij]
theorem QX{s:List Rock.aE}{e f:(Nat×Nat)×Rock.aE}:eV (eV s e) f=eV (eV s f) e:=by
 unfold eV;rw[BJ (i:=e.1.2) (j:=f.1.1),BJ (i:=e.1.1) (j:=f.1.1),BJ (i:=e.1.2) (j:=f.1.2),BJ (i:=e.1.1) (j:=f.1.2)]
theorem KV{s:List Rock.aE}{e:(Nat×Nat)×Rock.aE}:(eV s e).length=s.length:=by simp[eV,D0]
def H3(es:List ((Nat×Nat)×Rock.aE))(s:List Rock.aE)(j:Nat):List Rock.aE:=match es[j]? with | some e=>eV s e | none=>s
theorem aew{es:List ((Nat×Nat)×Rock.aE)}{s:List Rock.aE}{i j:Nat}:H3 es (H3 es s i) j=H3 es (H3 es s j) i:=by
 unfold H3;cases es[i]? <;> cases es[j]? <;> simp[QX]
theorem agt{es:List ((Nat×Nat)×Rock.aE)}{s:List Rock.aE}{j:Nat}:(H3 es s j).length=s.length:=by
 unfold H3;split<;>simp[KV]
theorem IU:∀(es:List ((Nat×Nat)×Rock.aE)) (s:List Rock.aE) (n:Nat),n≤es.length→(List.range n).foldl (H3 es) s=(es.take n).foldl eV s
 |es,s,0,_=>by simp
 |es,s,n+1,h=>by
  obtain⟨e,he⟩:∃e,es[n]?=some e:=gE (by omega);rw[List.range_succ,List.foldl_append,IU es s n (by omega),List.take_add_one,he,List.foldl_append];simp[H3,he]
theorem ags{es:List ((Nat×Nat)×Rock.aE)}{s:List Rock.aE}{js:List Nat}(hd:js.Nodup)(hm:∀j,j∈js↔j<es.length):js.foldl (H3 es) s=es.foldl eV s:=by
 have hp:js.Perm (List.range es.length):=(List.perm_ext_iff_of_nodup hd List.nodup_range).2 fun a=>by simp[hm]
 rw[hp.foldl_eq' (fun x _ y _ z=>aew),IU es s es.length (aJ _),aj (aJ _)]
theorem Rc{b:cr}:(IE b).length≤3*b.n:=by
 have key:∀l:List Nat,(l.flatMap (xQ b)).length≤3*l.length:=by
  intro l;induction l with
  |nil=>simp
  |cons i l ih =>
   rw[aZ,bx,aL];have:(xQ b i).length≤3:=by
    unfold xQ;simp only[bx];split<;>split<;>split<;>simp
   omega
 have:=key (List.range b.n);rw[List.length_range]at this;exact this
theorem adO{b:cr}(h:Bv b){l:Nat×Nat}(hl:l∈IE b):l.1<b.n∧l.2<b.n:=by
 obtain⟨hnn,X1,Y1⟩:=h.nat;obtain⟨i,hi,hh⟩:=List.mem_flatMap.1 hl;have h1:i<b.n:=by simpa using hi
 unfold xQ at hh;simp only[bu]at hh;rcases hh with hh | hh | hh
 ·split at hh
  ·rename_i hc;simp at hh;subst hh;exact⟨h1,alx (W:=b.f.y.toNat*b.f.z.toNat) (by rw[hnn,Nat.mul_assoc]) h1 hc⟩
  ·cases hh
 ·split at hh
  ·rename_i hc;simp at hh;subst hh;exact⟨h1,link2 (Z:=b.f.z.toNat) X1 Y1 hnn h1 hc⟩
  ·cases hh
 ·split at hh
  ·rename_i hc;simp at hh;subst hh;exact⟨h1,hc⟩
  ·cases hh
def RO(b:cr)(e:(Nat×Nat)×Rock.aE):Prop:=(e.1.1<b.n∧e.1.2<b.n)∧sm e.2 1000000000000
theorem MX{x:Rock.aE}{q:Int}(hm:1≤x.m∧x.m≤1000000)(hh:0≤x.h∧x.h≤10000000000)(hk:0≤x.k∧x.k≤1000000000000)(hq:0≤q∧q≤x.m):sm (x.out q) 1000000000000:=by
 have b3:=IJ hm.1 hh hq;have b4:=IJ hm.1 hk hq;exact⟨⟨by simp only[Rock.aE.out];omega,by simp only[Rock.aE.out];omega⟩,⟨by simp only[Rock.aE.out];omega,by simp only[Rock.aE.out];omega⟩,⟨by simp only[Rock.aE.out];omega,by simp only[Rock.aE.out];omega⟩⟩
theorem QW{b:cr}{m:cN}{s:List Rock.aE}(hs:Sv b s){p:List Int}{l:Nat×Nat}(h1:l.1<b.n)(h2:l.2<b.n){e:(Nat×Nat)×Rock.aE}(he:Jp b m s p l=some e):RO b e:=by
 unfold Jp at he;simp only at he;generalize hd:(p[l.1]?).getD 0-weight b l.1-(p[l.2]?).getD 0+weight b l.2=d at he;generalize hl':(if d<0 then(l.2,l.1)else l)=l' at he;generalize hd':(if d<0 then -d else d)=d' at he;have hll:l'.1<b.n∧l'.2<b.n:=by
  rw[← hl'];split<;>exact⟨by assumption,by assumption⟩
 obtain⟨_,m1,m2,m3⟩:=hs.at hll.1;split at he
 ·rename_i hq;simp only[ae]at he;subst he;have d2:=bA (b:=8) (show 0≤(bQ s l'.1).m by omega);exact⟨hll,MX m1 m2 m3 ⟨by omega,by rw[d2];omega⟩⟩
 ·cases he
theorem aga{b:cr}{es:List ((Nat×Nat)×Rock.aE)}{k:Nat×Nat}{o:Rock.aE}(h:∀e∈es,RO b e)(ho:RO b (k,o)):(∀e∈Rt es k o,RO b e)∧(Rt es k o).length≤es.length+1:=by
 unfold Rt;split
 ·constructor
  ·intro e he;rcases List.mem_or_eq_of_mem_set he with he | rfl
   ·exact h e he
   ·exact ho
  ·simp
 ·constructor
  ·intro e he;rcases bu.1 he with he | he
   ·exact h e he
   ·simp at he;subst he;exact ho
  ·simp
theorem KW{b:cr}{m:cN}{s:List Rock.aE}(h:Bv b)(hs:Sv b s):(∀e∈vq b m s,RO b e)∧(vq b m s).length≤192:=by
 have key:∀(ls:List (Nat×Nat)) (es:List ((Nat×Nat)×Rock.aE)),(∀l∈ls,l.1<b.n∧l.2<b.n)→(∀e∈es,RO b e)→(∀e∈ls.foldl (pg b m s (bV b m s)) es,RO b e)∧(ls.foldl (pg b m s (bV b m s)) es).length≤es.length+ls.length:=by
  intro ls;induction ls with
  |nil=>intro es _ h;exact⟨h,by simp⟩
  |cons l ls ih =>
   intro es hl he;have hl0:=hl l (by simp);simp only[List.foldl_cons];have h1:(∀e∈pg b m s (bV b m s) es l,RO b e)∧(pg b m s (bV b m s) es l).length≤es.length+1:=by
    unfold pg;split
    ·rename_i e hfe;exact aga he (QW hs hl0.1 hl0.2 hfe)
    ·exact⟨he,by omega⟩
   obtain⟨h2,h3⟩:=ih _ (fun l hh=>hl l (by simp[hh])) h1.1;exact⟨h2,by simp only[aL];omega⟩
 obtain⟨h1,h2⟩:=key (IE b) [] (fun l hl=>adO h hl) (by simp);have:=@Rc b;have hn:=h.n;exact⟨h1,by simp only[bE]at h2;unfold vq;omega⟩
theorem KU{b:cr}{N:Int}{s:List Rock.aE}{e:(Nat×Nat)×Rock.aE}(h:BC N s)(he:RO b e):BC (N+2000000000000) (eV s e):=by
 have h1:=yY (i:=e.1.1) (sign := -1) h he.2 (.inr rfl) (by omega);have h2:=yY (i:=e.1.2) (sign:=1) h1 he.2 (.inl rfl) (by omega);unfold eV;rw[show N+2000000000000=N+1000000000000+1000000000000 by omega];exact h2
theorem Qc{b:cr}{es:List ((Nat×Nat)×Rock.aE)}(hes:∀e∈es,RO b e):∀(js:List Nat) (s:List Rock.aE) (N:Int),BC N s→BC (N+2000000000000*js.length) (js.foldr (fun j s=>H3 es s j) s)
 |[],s,N,h=>by simpa using h
 |j::js,s,N,h=>by
  have ih:=Qc hes js s N h;simp only[List.foldr_cons,aL];generalize js.foldr (fun j s=>H3 es s j) s=s1 at *
  unfold H3;split
  ·rename_i e he;have:=KU ih (hes e (ai he));intro x hx;exact kr (this x hx) (by push_cast;omega)
  ·intro x hx;exact kr (ih x hx) (by push_cast;omega)
theorem Sv.BC{b:cr}{s:List Rock.aE}(h:Sv b s):BC 1000000000000 s:=by
 intro x hx;obtain⟨h1,h2,h3⟩:=aE.JA.1 (h.ok x hx);exact⟨⟨by omega,by omega⟩,⟨by omega,by omega⟩,⟨by omega,by omega⟩⟩
end Go.Proofs.YtfgljaglidhjiaaGreatDoor
namespace Go.Abs
open List(length_flatMap map_take)
open Go
variable {T:yo}
theorem yD{F:List aE}:∀{σ:SK} {lv:Nat},gh σ lv=some F→lv<σ.length
 |[],lv,h=>by simp[gh]at h
 |s::σ,lv,h=>by
  simp only[gh]at h;split at h
  ·rename_i h1;simp;omega
  ·have:=yD h;simp;omega
section
variable {α:Type} {w:Nat} {enc:α→List D} (hw:∀x,(enc x).length=w) {p:α→Bool} {fv:D} {l:List α} {lv bi v:Nat} {F:List aE}
include hw in
theorem G6(hF:F[bi]?=some (.cells v (l.flatMap enc)))(hl:l.length≤9223372036854775807)(ht:pK T fv (fun x => .agg (enc x)) p l){σ:SK}(hs:gh σ lv=some F):∀(m i:Nat),i+m=l.length →
  WL T [0,1,7,8] false (G5 true w) [(0,.sl lv bi v 0 l.length w),(1,fv),(7,.int .i64 l.length),(8,.int .i64 i)] σ
   (fun x e σ'=>σ'=σ∧if idxOf p (l.drop i)<0 then x=.exit 0 else x=.ret∧get e 4=.int .i64 (i+idxOf p (l.drop i)))
 |0,i,hi=>by
  obtain⟨h1,h2,h3⟩:=ht;refine aN (G5.eq_1 _ _) ?_;have:¬i<l.length:=by omega
  have h5:l.drop i=[]:=by simp;omega
  simp[this,h1,h2,h5,idxOf]
 |m+1,i,hi=>by
  have ih:=G6 hF hl ht hs m (i+1) (by omega);obtain⟨h1,h2,h3⟩:=ht;refine aN (G5.eq_1 _ _) ?_;have h4:i<l.length:=by omega
  obtain⟨x,hx⟩:=gE h4;have h5:=Bi (f:=enc) hw hx;have h6:=h3 x (ai hx) σ;have h7:=gG h4 hl;have h8:l.drop i=x::l.drop (i+1):=cS hx;have e1:∀r:List D,(enc x++r).take w=enc x:=fun r=>by rw[← hw x];simp
  have e2:∀r:Nat,w≤(enc x).length+r:=fun r=>by rw[hw];omega
  cases hp:p x
  ·rw[hp]at h6;simp[h4,h1,h2,h5,h6,h7,hs,hF,e1,e2];refine WL.mono (by simpa using ih) ?_;rintro x e σ' ⟨h9,h10⟩;refine⟨h9,?_⟩;rw[h8];simp only[idxOf,hp,aw,if_false];by_cases h11:idxOf p (l.drop (i+1))<0
   ·simpa[h11]using h10
   ·rw[if_neg h11]at h10;rw[if_neg h11,if_neg (by omega)];refine⟨h10.1,?_⟩;rw[h10.2];congr 1;push_cast;omega
  ·rw[hp]at h6;simp[h4,h1,h2,h5,h6,h7,hs,hF,e1,e2,h8,idxOf,hp]
include hw in
theorem MJ{f:Nat}(hT:T f=some (uB true w))(hF:F[bi]?=some (.cells v (l.flatMap enc)))(hl:l.length≤9223372036854775807)(ht:pK T fv (fun x => .agg (enc x)) p l){σ:SK}(hs:gh σ lv=some F):
  lim T (.call false f [.sl lv bi v 0 l.length w,fv] σ)=some (.val (.int .i64 (idxOf p l)) σ):=by
 refine az hT (uB.eq_1 _ _) rfl ?_;have hlt:=yD hs;have h:=G6 hw hF hl ht (lv:=lv) (F:=F) (σ:=[]::σ) (by simp[gh,hs,show ¬σ.length=lv by omega]) l.length 0 (by simp);obtain⟨h1,h2,h3⟩:=ht;simp[h1,h2];refine WL.mono (by simpa using h) ?_;rintro x e σ' ⟨rfl,h10⟩
 try simp only[aO]at h10
 by_cases h11:idxOf p l<0
 ·rw[if_pos h11]at h10;subst h10;have:idxOf p l = -1:=by
   cases l with
   |nil=>rfl
   |cons a l =>
    simp only[idxOf]at h11 ⊢;split at h11<;>rename_i ha
    ·omega
    ·rw[if_neg ha];split at h11<;>rename_i hb
     ·rw[if_pos hb]
     ·omega
  simp[this]
 ·rw[if_neg h11]at h10;obtain⟨rfl,h12⟩:=h10
  try simp at h12
  simp[h12]
include hw in
theorem Cu{f i:Nat}(hT:T f=some (jg i))(hi:T i=some (uB true w))(hF:F[bi]?=some (.cells v (l.flatMap enc)))(hl:l.length≤9223372036854775807)(ht:pK T fv (fun x => .agg (enc x)) p l){σ:SK}(hs:gh σ lv=some F):
  lim T (.call false f [.sl lv bi v 0 l.length w,fv] σ)=some (.val (.bool (lC l p)) σ):=by
 refine az hT (jg.eq_1 _) rfl ?_;have hlt:=yD hs;have h:=MJ hw hi hF hl ht (lv:=lv) (F:=F) (σ:=[]::σ) (by simp[gh,hs,show ¬σ.length=lv by omega]);obtain⟨h1,h2,h3⟩:=ht;have h4:decide (0≤idxOf p l)=lC l p:=by
  unfold lC;have h6:=EK (p:=p) (l:=l);cases h5:l.any p
  ·have:=h6.2 h5;exact decide_eq_false (by omega)
  ·exact decide_eq_true (by
    have:¬idxOf p l<0:=fun h=>by rw[h6.1 h]at h5;cases h5
    omega)
 simp[h1,h2,h,h4]
include hw in
theorem GB{f g h i:Nat}(hf:T f=some (DD g h))(hg:T g=some (yp true w))(hh:T h=some (jg i))(hi:T i=some (uB true w))
  (hF:F[bi]?=some (.cells v (l.flatMap enc))) (hl:l.length≤9223372036854775807) (ht:pK T fv (fun x => .agg (enc x)) p l) (hcl:fv.cells=some [fv]) {σ:SK} (hs:gh σ lv=some F):
  lim T (.call false f [.sl lv bi v 0 l.length w,fv] σ)=some (.val (.bool (gQ l p)) σ):=by
 refine az hf (DD.eq_1 _ _) rfl ?_;have hlt:=yD hs;have h:=Cu hw hh hi hF hl (NM (wP w enc hw) hg ht) (lv:=lv) (F:=F) (σ:=[]::σ) (by simp[gh,hs,show ¬σ.length=lv by omega]);obtain⟨h1,h2,h3⟩:=ht;have h4:(lC l fun x => !p x) = !gQ l p:=by
  unfold lC gQ;rw[List.all_eq_not_any_not,Bool.not_not]
 simp[h1,h2,h,h4,hcl]
end
end Go.Abs
namespace Go.Proofs.YtfgljaglidhjiaaGreatDoor
open List(length_flatMap map_take)
open Go Go.Abs Go.Rock
variable {σ:SK}
theorem Qy{b:cr}{m:cN}{s:List Rock.aE}(h:Bv b){lv bi v:Nat}{F:List Abs.aE}(hF:F[bi]?=some (.cells v (s.flatMap aE.enc)))(hs:gh σ lv=some F)(hl:s.length=b.n):
  lim T (.call false kL [.agg [.int .i64 b.f.x,.int .i64 b.f.y,.int .i64 b.f.z,.int .i64 b.f.k,.aH b.ck.length (b.ck.flatMap Rw.enc),.int .i64 b.bJ,.int .i64 b.lift,.int .i64 b.deep,.aH b.an.length (b.an.flatMap bG.enc),.str m.name,.aH m.bh.length (m.bh.flatMap aT)],.sl lv bi v 0 s.length 3] σ)=some (.val (.bool (xZ b s)) σ):=by
 refine az Cc nP.eq_1 rfl ?_;have hlt:=yD hs;have hz:=h.sz;have hn:=h.n;have hsz:=fun σ=>yG (σ:=σ) h
 have ha:=GB (T:=T) (w:=3) (enc:=aE.enc) (fun _=>rfl) (f:=mi) (g:=ki) (h:=eZ) (i:=gg) (l:=s) (p:=Rock.aE.valid) (fv:=.fn jr [] []) rfl rfl rfl rfl hF (by omega) (pK.fn fun x _ σ=>L8) rfl (lv:=lv) (F:=F) (σ:=[]::σ) (by simp[gh,hs,show ¬σ.length=lv by omega]);unfold xZ;have hc3:((b.n:Nat):Int)=b.size:=hz.symm;rw[hl]at ha ⊢;cases hc:gQ s Rock.aE.valid<;>simp[-length_flatMap,-map_take,hsz,hl,ha,hc,hc3]
def jsD(js:List Nat):List D:=js.map fun j => .int .i64 (j:Nat)
def RN(n:Nat)(js:List Nat):List Nat:=(List.range n).filter fun j => !(js.contains j)
theorem afP{js:List Nat}{j:Nat}:D.int .i64 (j:Nat)∈jsD js↔j∈js:=by
 simp only[jsD,bK];constructor
 ·rintro⟨a,h1,h2⟩;simp only[D.int.injEq,true_and]at h2;have:a=j:=by omega
  exact this ▸ h1
 ·intro h;exact⟨j,h,rfl⟩
def HP(b:cr)(m:cN)(s:List Rock.aE)(aR:List Int)(L:Nat):Env :=
 [(1,.aH s.length (s.flatMap aE.enc)),(2,.aH aR.length (aR.flatMap aT)),(3,.bF [.int .i64 b.f.x,.int .i64 b.f.y,.int .i64 b.f.z,.int .i64 b.f.k,.aH b.ck.length (b.ck.flatMap Rw.enc),.int .i64 b.bJ,.int .i64 b.lift,.int .i64 b.deep,.aH b.an.length (b.an.flatMap bG.enc),.str m.name,.aH m.bh.length (m.bh.flatMap aT)]),(9,.sl L 1 1 0 s.length 3),(23,.mq L 6)]
def stT(A X Y Z:Abs.aE)(σ:SK)(es:List ((Nat×Nat)×Rock.aE))(s:List Rock.aE)(it:Abs.aE):SK :=
 [A,.cells 1 (s.flatMap aE.enc),.cells 0 (Dm es),X,Y,Z,it]::σ
def itB(L n:Nat)(js:List Nat):Abs.aE:=.cells 1 (.mq L 2::.int .i64 (n:Nat)::jsD js)
theorem adE{A X Y Z:Abs.aE}{es:List ((Nat×Nat)×Rock.aE)}{s:List Rock.aE}{js:List Nat}:
  Fs (stT A X Y Z σ es s (itB σ.length es.length js)) σ.length 6=some (.mq σ.length 2,es.length,jsD js,RN es.length js):=by
 have hl:(Dm es).length=es.length:=by simp[Dm]
 simp[Fs,stT,itB,AD,hl,RN,afP]
theorem av3{n:Nat}{js:List Nat}{u:Nat}(hu:u∈RN n js):(RN n (u::js)).length<(RN n js).length:=by
 have e:RN n (u::js)=(RN n js).filter fun j => !decide (j=u):=by
  unfold RN;rw[List.filter_filter];congr 1;funext j;simp[List.contains_cons,Bool.not_or]
 rw[e,List.length_filter_lt_length_iff_exists];exact⟨u,hu,by simp⟩
theorem amu{b:cr}{m:cN}{s:List Rock.aE}{aR:List Int}{A X Y Z:Abs.aE}{es:List ((Nat×Nat)×Rock.aE)}{r:R}(hs:Sv b s)(hes:∀e∈es,RO b e)(hel:es.length≤192)
  (hr:WC (lim T) iq ((25,.bool false)::(24,.undef)::HP b m s aR σ.length) (stT A X Y Z σ es (es.foldl eV s) .dead) fun x e' σ'=>r=.Cv x e' σ'):
  ∀(k:Nat) (js:List Nat),js.Nodup→(∀j∈js,j<es.length)→(RN es.length js).length=k →
   lim T (.iS [1,2,3,9,23] (.t 23) 24 25 0 mh iq (HP b m s aR σ.length) (stT A X Y Z σ es (js.foldr (fun j s=>H3 es s j) s) (itB σ.length es.length js)))=some r:=by
 intro k;induction k using Nat.strongRecOn with
 |_ k ih =>
 intro js hd hj hk;by_cases hus:RN es.length js=[]
 ·have hall:∀j,j∈js↔j<es.length:=by
   intro j;refine⟨hj j,fun hlt=>?_⟩;have h1:j ∉ RN es.length js:=by rw[hus];simp
   simpa[RN,hlt]using h1
  have hfin:js.foldr (fun j s=>H3 es s j) s=es.foldl eV s:=by
   rw[← ags (js:=js.reverse) ((List.reverse_perm js).nodup_iff.2 hd) (fun j=>by simp[hall]),List.foldl_reverse]
  rw[hfin];have hit:=adE (σ:=σ) (A:=A) (X:=X) (Y:=Y) (Z:=Z) (es:=es) (s:=es.foldl eV s) (js:=js);rw[hus]at hit;refine Rk mh.eq_1 rfl (by simp[HP]) hit ?_;simp[stT,HP,itB]at hr ⊢;exact hr
 ·have hit:=adE (σ:=σ) (A:=A) (X:=X) (Y:=Y) (Z:=Z) (es:=es) (s:=js.foldr (fun j s=>H3 es s j) s) (js:=js);refine adX mh.eq_1 rfl (by simp[HP]) hit hus ?_;intro u hu;have hu2:u<es.length∧u ∉ js:=by simpa[RN]using hu
  obtain⟨e,he⟩:∃e,es[u]?=some e:=⟨_,aI hu2.1⟩;have hf:=hes e (ai he);have hnext:=ih _ (by rw[← hk];exact av3 hu) (u::js) (List.nodup_cons.2 ⟨hu2.2,hd⟩) (by intro j hjm;rcases aW.1 hjm with rfl | hjm;exact hu2.1;exact hj j hjm) rfl;have hb:=Qc hes js s 1000000000000 hs.BC;have hjl:js.length≤192:=by
   have h1:js.length≤es.length:=by
    have:=hd.length_le_of_subset (l₂:=List.range es.length) (fun j hjm=>by simpa using hj j hjm);simpa using this
   omega
  have hlen:(js.foldr (fun j s=>H3 es s j) s).length=b.n:=by
   have:∀js:List Nat,(js.foldr (fun j s=>H3 es s j) s).length=s.length:=by
    intro js;induction js with
    |nil=>rfl
    |cons a l ih=>simp only[List.foldr_cons,agt];exact ih
   rw[this,hs.len]
  simp only[List.foldr_cons]at hnext;generalize hs1:js.foldr (fun j s=>H3 es s j) s=s1 at *
  have hstp:H3 es s1 u=iE (iE s1 e.1.1 e.2 (-1)) e.1.2 e.2 1:=by simp[H3,he,eV]
  rw[hstp]at hnext;have hbn:BC 400000000000000 s1:=fun x hx=>kr (hb x hx) (by omega)
  have hb1:=yY (i:=e.1.1) (sign := -1) hbn hf.2 (.inr rfl) (by omega);obtain⟨x1,y1⟩:=GG hbn (i:=e.1.1) (by have:=hf.1.1;omega);obtain⟨x2,y2⟩:=GG hb1 (i:=e.1.2) (by rw[D0];have:=hf.1.2;omega);have hM1:∀I,lim T (.call false cj [.ref σ.length 1 1 (e.1.1*3),.agg [.int .i64 e.2.m,.int .i64 e.2.h,.int .i64 e.2.k],.int .i64 (-1)] ([A,.cells 1 (s1.flatMap aE.enc),.cells 0 (Dm es),X,Y,Z,I]::σ)) =
    some (.val (.dG []) ([A,.cells 1 ((iE s1 e.1.1 e.2 (-1)).flatMap aE.enc),.cells 0 (Dm es),X,Y,Z,I]::σ)) :=
   fun I=>Ge (F:=[A,.cells 1 (s1.flatMap aE.enc),.cells 0 (Dm es),X,Y,Z,I]) (j:=1) rfl x1 (kr y1 (by omega)) (kr hf.2 (by omega)) (.inr rfl)
  have hM2:∀I,lim T (.call false cj [.ref σ.length 1 1 (e.1.2*3),.agg [.int .i64 e.2.m,.int .i64 e.2.h,.int .i64 e.2.k],.int .i64 1] ([A,.cells 1 ((iE s1 e.1.1 e.2 (-1)).flatMap aE.enc),.cells 0 (Dm es),X,Y,Z,I]::σ)) =
    some (.val (.dG []) ([A,.cells 1 ((iE (iE s1 e.1.1 e.2 (-1)) e.1.2 e.2 1).flatMap aE.enc),.cells 0 (Dm es),X,Y,Z,I]::σ)) :=
   fun I=>Ge (F:=[A,.cells 1 ((iE s1 e.1.1 e.2 (-1)).flatMap aE.enc),.cells 0 (Dm es),X,Y,Z,I]) (j:=1) rfl x2 (kr y2 (by omega)) (kr hf.2 (by omega)) (.inl rfl)
  have hfe:(Dm es)[u]?=some (.dG [.agg [.int .i64 e.1.1,.int .i64 e.1.2],.agg [.int .i64 e.2.m,.int .i64 e.2.h,.int .i64 e.2.k]]):=by simp[Dm,he]
  have hfl:(Dm es).length=es.length:=by simp[Dm]
  have hE:AE ([A,.cells 1 (s1.flatMap aE.enc),.cells 0 (Dm es),X,Y,Z,.cells 1 (.mq σ.length 2::.int .i64 (es.length:Nat)::.int .i64 (u:Nat)::jsD js)]::σ) .ent [.mq σ.length 6] =
    some (.dG [.agg [.int .i64 e.1.1,.int .i64 e.1.2],.agg [.int .i64 e.2.m,.int .i64 e.2.h,.int .i64 e.2.k]],[A,.cells 1 (s1.flatMap aE.enc),.cells 0 (Dm es),X,Y,Z,.cells 1 (.mq σ.length 2::.int .i64 (es.length:Nat)::.int .i64 (u:Nat)::jsD js)]::σ):=by
   simp[AE,AD,hfl,hfe]
  have hi1:e.1.1<s.length:=by have:=hf.1.1;have:=hs.len;omega
  have hi2:e.1.2<s.length:=by have:=hf.1.2;have:=hs.len;omega
  simp[-length_flatMap,-map_take,HP,stT,itB,hE,hM1,hM2,hi1,hi2,cI,bj,bq,GL];simpa[HP,stT,itB,jsD]using hnext
theorem Hx{b:cr}(h:Bv b):∀w∈b.an,(0≤w.b∧w.b<(b.n:Int))∧(0≤w.h∧w.h≤3000)∧(0≤w.m∧w.m≤1000000):=by
 have key:∀(l:List bG) (u:List Int),ug b.size u l=true→∀w∈l,(0≤w.b∧w.b<(b.n:Int))∧(0≤w.h∧w.h≤3000)∧(0≤w.m∧w.m≤1000000):=by
  intro l;induction l with
  |nil=>intro u _ w hw;cases hw
  |cons a l ih =>
   intro u hu w hw;simp only[ug,bG.ok,af]at hu;obtain⟨⟨h1,h2,h3,h4⟩,h5⟩:=hu;rcases aW.1 hw with rfl | hw
   ·have hs:=h.sz;have:=ba.1 h1;unfold cr.size at this;exact⟨⟨this.1,by omega⟩,ba.1 h3,ba.1 h4⟩
   ·exact ih _ h5 w hw
 exact key _ _ h.ok
theorem mulR{a r A R:Int}(ha:0≤a∧a≤A)(hr : -R≤r∧r≤R) : -(R*A)≤r*a∧r*a≤R*A:=by
 rcases mH 0 r with h | h
 ·have:=oq h hr.2 ha.1 ha.2;have h2:=dI (show 0≤R by omega) (show 0≤A by omega);omega
 ·have:=oq (a := -r) (A:=R) (by omega) (by omega) ha.1 ha.2;rw[Int.neg_mul]at this;have h2:=dI (show 0≤R by omega) (show 0≤A by omega);omega
theorem K1{w:bG}{r:Int}(hr : -100000≤r∧r≤100000)(h1:0≤w.h∧w.h≤3000)(h2:0≤w.m∧w.m≤1000000):sm (w.given r) 1000000000000:=by
 have b1:=mulR h1 hr;have b2:=mulR h2 hr;exact⟨⟨by simp only[bG.given];omega,by simp only[bG.given];omega⟩,⟨by simp only[bG.given,Int.neg_mul];omega,by simp only[bG.given,Int.neg_mul];omega⟩,⟨by simp only[bG.given,Int.neg_mul];omega,by simp only[bG.given,Int.neg_mul];omega⟩⟩
theorem adk{b:cr}{m:cN}(h:Fv b m){i:Nat}(hi:i<b.n):sm (MF b m i) 1000000000000:=by
 have b1:=h.feed i hi;have b2:=h.bv.deep;have b3:=oq b1.1 b1.2 b2.1 b2.2;exact⟨⟨by simp only[MF];omega,by simp only[MF];omega⟩,⟨by simp only[MF];omega,by simp only[MF];omega⟩,⟨by simp[MF],by simp[MF]⟩⟩
def fe(b:cr)(s s1:List Rock.aE)(aR:List Int)(j:Nat):List Rock.aE:=((b.an.zip aR).take j).foldl (fun n wr=>uf s n wr.1 wr.2) s1
def mA(b:cr)(m:cN)(s2:List Rock.aE)(i:Nat):List Rock.aE:=(List.range i).foldl (fun n i=>iE n i (MF b m i) 1) s2
theorem Ee{b:cr}{s s1:List Rock.aE}{aR:List Int}{j:Nat}{w:bG}{r:Int}(h1:b.an[j]?=some w)(h2:aR[j]?=some r):fe b s s1 aR (j+1)=uf s (fe b s s1 aR j) w r:=by
 have:(b.an.zip aR)[j]?=some (w,r):=by rw[List.getElem?_zip_eq_some];exact⟨h1,h2⟩
 unfold fe;rw[List.take_add_one,this,List.foldl_append];rfl
theorem Ba{b:cr}{m:cN}{s2:List Rock.aE}{i:Nat}:mA b m s2 (i+1)=iE (mA b m s2 i) i (MF b m i) 1:=by
 unfold mA;rw[List.range_succ,List.foldl_append];rfl
theorem zL{b:cr}{m:cN}{s2:List Rock.aE}:∀i,(mA b m s2 i).length=s2.length
 |0=>rfl
 |i+1=>by rw[Ba,D0,zL i]
theorem aeJ{b:cr}{s:List Rock.aE}{aR:List Int}{j:Nat}{w:bG}{r:Int}(h1:b.an[j]?=some w)(h2:aR[j]?=some r):(eE b s aR)[j]?=some (rJ s w r):=by
 have:(b.an.zip aR)[j]?=some (w,r):=by rw[List.getElem?_zip_eq_some];exact⟨h1,h2⟩
 simp[eE,this]
structure Rv(b:cr)(aR:List Int):Prop where
 len:aR.length=b.an.length
 ok:∀r∈aR,-100000≤r∧r≤100000
theorem Rv.of{b:cr}{aR:List Int}(h:zW b aR=0):Rv b aR:=by
 unfold zW at h;split at h
 ·rename_i hl;split at h
  ·rename_i ha;exact⟨hl,fun r hr=>ba.1 (jP.1 ha r hr)⟩
  ·cases h
 ·cases h
theorem af0{b:cr}{s next:List Rock.aE}(h:Bv b)(hs:Sv b s){aR:List Int}(hr:Rv b aR){j:Nat}{w:bG}{r:Int}(h1:b.an[j]?=some w)(h2:aR[j]?=some r){N:Int}(hb:BC N next):BC (N+1000000000000) (uf s next w r):=by
 have hw:=Hx h w (ai h1);have hrr:=hr.ok r (ai h2);obtain⟨_,m1,m2,m3⟩:=hs.at (i:=w.b.toNat) (by omega);have d2:=bA (b:=8) (show 0≤(bQ s w.b.toNat).m by omega);unfold uf rJ;split
 ·exact yY hb (K1 hrr hw.2.1 hw.2.2) (.inl rfl) (by omega)
 ·exact yY hb (MX m1 m2 m3 ⟨by rw[d2];omega,by rw[d2];omega⟩) (.inr rfl) (by omega)
theorem J2{s n:List Rock.aE}{w:bG}{r:Int}:(uf s n w r).length=n.length:=by
 unfold uf;split<;>simp[D0]
theorem Ae{b:cr}{s s1:List Rock.aE}(h:Bv b)(hs:Sv b s){aR:List Int}(hr:Rv b aR)(hb:BC 500000000000000 s1):∀j,j≤aR.length→BC (500000000000000+1000000000000*j) (fe b s s1 aR j)∧(fe b s s1 aR j).length=s1.length
 |0,_=>⟨by simpa[fe]using hb,by simp[fe]⟩
 |j+1,hj=>by
  obtain⟨r,h2⟩:∃r,aR[j]?=some r:=gE (by omega);obtain⟨w,h1⟩:∃w,b.an[j]?=some w:=⟨_,aI (by rw[← hr.len];omega)⟩;obtain⟨ih1,ih2⟩:=Ae h hs hr hb j (by omega);rw[Ee h1 h2];have h3:=af0 h hs hr h1 h2 ih1;exact⟨fun x hx=>kr (h3 x hx) (by push_cast;omega),by rw[J2,ih2]⟩
theorem Ip{b:cr}{m:cN}{s2:List Rock.aE}(h:Fv b m)(hb:BC 600000000000000 s2):∀i,i≤b.n→BC (600000000000000+1000000000000*i) (mA b m s2 i)
 |0,_=>by simpa[mA]using hb
 |i+1,hi=>by
  have ih:=Ip h hb i (by omega);rw[Ba];have h3:=yY (i:=i) ih (adk h (i:=i) (by omega)) (.inl rfl) (by omega);exact fun x hx=>kr (h3 x hx) (by push_cast;omega)
theorem afB{b:cr}{j:Nat}{w:bG}(h:b.an[j]?=some w):((b.an.flatMap bG.enc).drop (j*3)).take 3=[.int .i64 w.b,.int .i64 w.h,.int .i64 w.m] :=
 bR (f:=bG.enc) (w:=3) (fun _=>rfl) h
theorem ND{b:cr}{m:cN}{s s1:List Rock.aE}{aR:List Int}{A FL X Y Z W:Abs.aE}(h:Fv b m)(hs:Sv b s)(hr:Rv b aR)(hb:BC 500000000000000 s1)(hl1:s1.length=s.length):∀(k j v:Nat),j+k=aR.length →
  WL T [1,3,9,12,41,42,43] false la [(1,.aH s.length (s.flatMap aE.enc)),(3,.bF [.int .i64 b.f.x,.int .i64 b.f.y,.int .i64 b.f.z,.int .i64 b.f.k,.aH b.ck.length (b.ck.flatMap Rw.enc),.int .i64 b.bJ,.int .i64 b.lift,.int .i64 b.deep,.aH b.an.length (b.an.flatMap bG.enc),.str m.name,.aH m.bh.length (m.bh.flatMap aT)]),(9,.sl σ.length 1 1 0 s.length 3),(12,.sl σ.length 7 v 0 j 3),(41,.aH aR.length (aR.flatMap aT)),(42,.int .i64 aR.length),(43,.int .i64 j)]
   ([A,.cells 1 ((fe b s s1 aR j).flatMap aE.enc),FL,X,Y,Z,W,.cells v (((eE b s aR).take j).flatMap aE.enc)]::σ)
   (fun x e σ'=>x=.exit 2∧get e 3=.bF [.int .i64 b.f.x,.int .i64 b.f.y,.int .i64 b.f.z,.int .i64 b.f.k,.aH b.ck.length (b.ck.flatMap Rw.enc),.int .i64 b.bJ,.int .i64 b.lift,.int .i64 b.deep,.aH b.an.length (b.an.flatMap bG.enc),.str m.name,.aH m.bh.length (m.bh.flatMap aT)]∧get e 9=.sl σ.length 1 1 0 s.length 3∧get e 12=.sl σ.length 7 (v+k) 0 aR.length 3 ∧
    σ'=[A,.cells 1 ((fe b s s1 aR aR.length).flatMap aE.enc),FL,X,Y,Z,W,.cells (v+k) ((eE b s aR).flatMap aE.enc)]::σ)
 |0,j,v,hj=>by
  refine aN la.eq_1 ?_;obtain rfl:j=aR.length:=by omega
  have hyl:(eE b s aR).length=aR.length:=by simp[eE,hr.len]
  have h3:(eE b s aR).take aR.length=eE b s aR:=aj (by omega);simp[-length_flatMap,-map_take,h3,cI,bj,bq]
 |k+1,j,v,hj=>by
  refine aN la.eq_1 ?_;have h1:j<aR.length:=by omega
  have hwl:=h.bv.an;have hrl:=hr.len;obtain⟨r,hr2⟩:∃r,aR[j]?=some r:=gE (by omega);obtain⟨w,hw1⟩:∃w,b.an[j]?=some w:=gE (by omega);have hw:=Hx h.bv w (ai hw1);have hrr:=hr.ok r (ai hr2);have hwn:w.b.toNat<b.n:=by omega
  have hlen:=hs.len;obtain⟨x0,m1,m2,m3⟩:=hs.at (i:=w.b.toNat) hwn;obtain⟨ib,il⟩:=Ae h.bv hs hr hb j (by omega);obtain⟨x1,y1⟩:=GG ib (i:=w.b.toNat) (by omega);have h4:=gG h1 (by omega);have a1:=afB hw1;have a2:=qB hr2;have a3:=bR (f:=aE.enc) (w:=3) (fun _=>rfl) x0;have hy:=aeJ (s:=s) hw1 hr2;have f3:=EG (f:=aE.enc) hy;have hyl:(eE b s aR).length=aR.length:=by simp[eE,hr.len]
  have f4:=F2 ((eE b s aR).take j);rw[lA,hyl,Nat.min_eq_left (by omega)]at f4;have f6:(((eE b s aR).take j).flatMap aE.enc).take (j*3)=((eE b s aR).take j).flatMap aE.enc:=aj (by omega);have h7:(j+1)*24≤room:=by unfold room;omega
  have ih:=ND (A:=A) (FL:=FL) (X:=X) (Y:=Y) (Z:=Z) (W:=W) h hs hr hb hl1 k (j+1) (v+1) (by omega);have hsucc:=Ee (s:=s) (s1:=s1) hw1 hr2;have hB0:(0:Int)≤w.b:=hw.1.1;have hB1:w.b<(s.length:Int):=by omega
  have hjw:j<b.an.length:=by omega
  have d2:=bA (b:=8) (show 0≤(bQ s w.b.toNat).m by omega);by_cases hc:r<0
  ·have hg:=fun σ=>ae2 (σ:=σ) hrr hw.2.1 hw.2.2
   have hM:∀V,lim T (.call false cj [.ref σ.length 1 1 (w.b.toNat*3),.agg [.int .i64 (w.given r).m,.int .i64 (w.given r).h,.int .i64 (w.given r).k],.int .i64 1] ([A,.cells 1 ((fe b s s1 aR j).flatMap aE.enc),FL,X,Y,Z,W,V]::σ)) =
     some (.val (.dG []) ([A,.cells 1 ((fe b s s1 aR (j+1)).flatMap aE.enc),FL,X,Y,Z,W,V]::σ)):=by
    intro V;rw[hsucc,uf,if_pos hc];exact Ge (F:=[A,.cells 1 ((fe b s s1 aR j).flatMap aE.enc),FL,X,Y,Z,W,V]) (j:=1) rfl x1 (kr y1 (by omega)) (kr (K1 hrr hw.2.1 hw.2.2) (by omega)) (.inl rfl)
   have hwy:rJ s w r=⟨0,0,0⟩:=by simp[rJ,hc]
   rw[hwy]at f3;simp only[bG.enc,aE.enc]at hg;simp[-length_flatMap,-map_take,h1,h4,a1,a2,a3,f4,f6,h7,hB0,hB1,hjw,hc,hg,hM,cI,bj,bq];refine WL.to ih (by simp[cI,bj,bq]) (by simp[← f3]) fun x e σ hh=>by simpa[dr,Nat.add_comm 1 k]using hh
  ·have w7:=fR (n:=(bQ s w.b.toNat).m.tdiv 8) (by rw[d2];omega);have hO:=fun σ=>Sh (σ:=σ) (q:=min r ((bQ s w.b.toNat).m.tdiv 8)) m1 m2 m3 ⟨by rw[d2];omega,by rw[d2];omega⟩
   have hos:=MX (q:=min r ((bQ s w.b.toNat).m.tdiv 8)) m1 m2 m3 ⟨by rw[d2];omega,by rw[d2];omega⟩;have hwy:rJ s w r=(bQ s w.b.toNat).out (min r ((bQ s w.b.toNat).m.tdiv 8)):=by simp[rJ,hc]
   have hsucc':fe b s s1 aR (j+1)=iE (fe b s s1 aR j) w.b.toNat ((bQ s w.b.toNat).out (min r ((bQ s w.b.toNat).m.tdiv 8))) (-1):=by
    rw[hsucc,uf,if_neg hc,hwy]
   rw[hwy]at f3;generalize hQ:min r ((bQ s w.b.toNat).m.tdiv 8)=Q at *
   generalize (bQ s w.b.toNat).out Q=O at *
   have hM:∀V,lim T (.call false cj [.ref σ.length 1 1 (w.b.toNat*3),.agg [.int .i64 O.m,.int .i64 O.h,.int .i64 O.k],.int .i64 (-1)] ([A,.cells 1 ((fe b s s1 aR j).flatMap aE.enc),FL,X,Y,Z,W,V]::σ)) =
     some (.val (.dG []) ([A,.cells 1 ((fe b s s1 aR (j+1)).flatMap aE.enc),FL,X,Y,Z,W,V]::σ)):=by
    intro V;rw[hsucc'];exact Ge (F:=[A,.cells 1 ((fe b s s1 aR j).flatMap aE.enc),FL,X,Y,Z,W,V]) (j:=1) rfl x1 (kr y1 (by omega)) (kr hos (by omega)) (.inr rfl)
   simp only[aE.enc]at hO;simp[-length_flatMap,-map_take,h1,h4,a1,a2,a3,f4,f6,h7,hB0,hB1,hjw,hc,w7,hQ,hO,hM,cI,bj,bq];refine WL.to ih (by simp[cI,bj,bq]) (by simp[← f3]) fun x e σ hh=>by simpa[dr,Nat.add_comm 1 k]using hh
theorem SD{b:cr}{m:cN}{s2:List Rock.aE}{A FL X Y Z W V:Abs.aE}{d12:D}(h:Fv b m)(hb:BC 600000000000000 s2)(hl2:s2.length=b.n)(hd:d12.strip=d12∧d12.calm=d12):∀(k i:Nat),i+k=b.n →
  WL T [3,9,12,93,94] false lf [(3,.bF [.int .i64 b.f.x,.int .i64 b.f.y,.int .i64 b.f.z,.int .i64 b.f.k,.aH b.ck.length (b.ck.flatMap Rw.enc),.int .i64 b.bJ,.int .i64 b.lift,.int .i64 b.deep,.aH b.an.length (b.an.flatMap bG.enc),.str m.name,.aH m.bh.length (m.bh.flatMap aT)]),(9,.sl σ.length 1 1 0 b.n 3),(12,d12),(93,.int .i64 b.n),(94,.int .i64 i)]
   ([A,.cells 1 ((mA b m s2 i).flatMap aE.enc),FL,X,Y,Z,W,V]::σ)
   (fun x e σ'=>x=.exit 4∧get e 3=.bF [.int .i64 b.f.x,.int .i64 b.f.y,.int .i64 b.f.z,.int .i64 b.f.k,.aH b.ck.length (b.ck.flatMap Rw.enc),.int .i64 b.bJ,.int .i64 b.lift,.int .i64 b.deep,.aH b.an.length (b.an.flatMap bG.enc),.str m.name,.aH m.bh.length (m.bh.flatMap aT)]∧get e 9=.sl σ.length 1 1 0 b.n 3∧get e 12=d12∧σ'=[A,.cells 1 ((mA b m s2 b.n).flatMap aE.enc),FL,X,Y,Z,W,V]::σ)
 |0,i,hi=>by
  refine aN lf.eq_1 ?_;obtain rfl:i=b.n:=by omega
  simp[-length_flatMap,-map_take,hd,cI,bj,bq]
 |k+1,i,hi=>by
  refine aN lf.eq_1 ?_;have h1:i<b.n:=by omega
  have hn:=h.bv.n;have h4:=gG h1 (by omega);have hf:=fun σ=>asE (σ:=σ) h h1
  have ih:=SD (A:=A) (FL:=FL) (X:=X) (Y:=Y) (Z:=Z) (W:=W) (V:=V) h hb hl2 hd k (i+1) (by omega);have ib:=Ip h hb i (by omega);obtain⟨x1,y1⟩:=GG ib (i:=i) (by rw[zL,hl2];omega);have hM:lim T (.call false cj [.ref σ.length 1 1 (i*3),.agg [.int .i64 (MF b m i).m,.int .i64 (MF b m i).h,.int .i64 (MF b m i).k],.int .i64 1] ([A,.cells 1 ((mA b m s2 i).flatMap aE.enc),FL,X,Y,Z,W,V]::σ)) =
    some (.val (.dG []) ([A,.cells 1 ((mA b m s2 (i+1)).flatMap aE.enc),FL,X,Y,Z,W,V]::σ)):=by
   rw[Ba];exact Ge (F:=[A,.cells 1 ((mA b m s2 i).flatMap aE.enc),FL,X,Y,Z,W,V]) (j:=1) rfl x1 (kr y1 (by omega)) (kr (adk h h1) (by omega)) (.inl rfl)
  simp only[aE.enc]at hf;simp[-length_flatMap,-map_take,h1,h4,hf,hM,hd,cI,bj,bq];refine WL.to ih (by simp[hd,cI,bj,bq]) rfl fun x e σ hh=>hh
theorem PQ{b:cr}{m:cN}{s:List Rock.aE}{aR:List Int}(hr:Rv b aR)(hl:s.length=b.n):mA b m (fe b s ((vq b m s).foldl eV s) aR aR.length) b.n=Dc b m s aR:=by
 have:(b.an.zip aR).take aR.length=b.an.zip aR:=aj (by rw[List.length_zip];omega);simp only[Dc,mA,fe,this,hl]
theorem QY{b:cr}{m:cN}{s:List Rock.aE}(h:Fv b m)(hs:Sv b s):BC 500000000000000 ((vq b m s).foldl eV s)∧((vq b m s).foldl eV s).length=s.length:=by
 obtain⟨h1,h2⟩:=KW (m:=m) h.bv hs;have key:∀(es:List ((Nat×Nat)×Rock.aE)) (s:List Rock.aE) (N:Int),(∀e∈es,RO b e)→BC N s→BC (N+2000000000000*es.length) (es.foldl eV s)∧(es.foldl eV s).length=s.length:=by
  intro es;induction es with
  |nil=>intro s N _ h;exact⟨by simpa using h,rfl⟩
  |cons e es ih =>
   intro s N he hb;obtain⟨a1,a2⟩:=ih (eV s e) _ (fun x hx=>he x (by simp[hx])) (KU hb (he e (by simp)));simp only[List.foldl_cons,aL];exact⟨fun x hx=>kr (a1 x hx) (by push_cast;omega),by rw[a2,KV]⟩
 obtain⟨a1,a2⟩:=key _ s _ h1 hs.BC;exact⟨fun x hx=>kr (a1 x hx) (by omega),a2⟩
theorem amd{b:cr}{m:cN}{s s1:List Rock.aE}{aR:List Int}{A FL X Y Z W:Abs.aE}(h:Fv b m)(hs:Sv b s)(hr:Rv b aR)(hb:BC 500000000000000 s1)(hl1:s1.length=s.length):
  WC (lim T) iq ((25,.bool false)::(24,.undef)::HP b m s aR σ.length) ([A,.cells 1 (s1.flatMap aE.enc),FL,X,Y,Z,W]::σ) fun x e σ' =>
   x=.ret∧σ'=[A,.cells 1 ((mA b m (fe b s s1 aR aR.length) b.n).flatMap aE.enc),FL,X,Y,Z,W,.cells aR.length ((eE b s aR).flatMap aE.enc)]::σ ∧
   (if xZ b (mA b m (fe b s s1 aR aR.length) b.n)=true then get e 6=.sl σ.length 1 1 0 b.n 3∧get e 7=.sl σ.length 7 aR.length 0 aR.length 3∧get e 8=.int .i64 0
    else get e 6=.aF∧get e 7=.aF∧get e 8=.int .i64 9):=by
 have hl:=hs.len;have hn:=h.bv.n;have hwl:=h.bv.an;have hrl:=hr.len;obtain⟨wb,wl⟩:=Ae h.bv hs hr hb aR.length (aJ _);have fl:=zL (b:=b) (m:=m) (s2:=fe b s s1 aR aR.length) b.n;rw[yM iq.eq_1];simp[-length_flatMap,-map_take,HP,cI,bj,bq];refine WL.to (ND (σ:=σ) (A:=A) (FL:=FL) (X:=X) (Y:=Y) (Z:=Z) (W:=W) h hs hr hb hl1 aR.length 0 0 (by omega)) (by simp[cI,bj,bq]) (by simp[fe]) ?_;rintro x e σ' ⟨rfl,g3,g9,g12,rfl⟩;rw[hl]at g9;simp[-length_flatMap,-map_take,g3,g9,g12,cI,bj,bq];refine WL.to (SD (σ:=σ) (A:=A) (FL:=FL) (X:=X) (Y:=Y) (Z:=Z) (W:=W) (V:=.cells (0+aR.length) ((eE b s aR).flatMap aE.enc)) (d12:=.sl σ.length 7 (0+aR.length) 0 aR.length 3) h (fun x hx=>kr (wb x hx) (by omega)) (by rw[wl,hl1,hl]) ⟨rfl,rfl⟩ b.n 0 (by omega)) (by simp[cI,bj,bq]) (by simp[mA]) ?_;rintro x e σ' ⟨rfl,g3,g9,g12,rfl⟩;have hS:=Qy (m:=m) (b:=b) (s:=mA b m (fe b s s1 aR aR.length) b.n) h.bv (lv:=σ.length) (bi:=1) (v:=1) (F:=[A,.cells 1 ((mA b m (fe b s s1 aR aR.length) b.n).flatMap aE.enc),FL,X,Y,Z,W,.cells (0+aR.length) ((eE b s aR).flatMap aE.enc)]) (σ:=[A,.cells 1 ((mA b m (fe b s s1 aR aR.length) b.n).flatMap aE.enc),FL,X,Y,Z,W,.cells (0+aR.length) ((eE b s aR).flatMap aE.enc)]::σ) rfl (by simp[gh]) (by rw[fl,wl,hl1,hl]);rw[show(mA b m (fe b s s1 aR aR.length) b.n).length=b.n by rw[fl,wl,hl1,hl]]at hS;cases hc:xZ b (mA b m (fe b s s1 aR aR.length) b.n)
 ·rw[hc]at hS;simp at hS;simp[-length_flatMap,-map_take,g3,g9,g12,hS,cI,bj,bq]
 ·rw[hc]at hS;simp at hS;simp[-length_flatMap,-map_take,g3,g9,g12,hS,cI,bj,bq]
def aeE(b:cr)(m:cN)(s:List Rock.aE)(aR:List Int):D:=match tick b m s aR with
 |some (s',y) => .dG [.aH s'.length (s'.flatMap aE.enc),.aH y.length (y.flatMap aE.enc),.int .i64 0]
 |none => .dG [.aF,.aF,.int .i64 9]
theorem amj{b:cr}{m:cN}{s:List Rock.aE}{aR:List Int}(h:Fv b m)(hs:Sv b s)(hr:Rv b aR)(hσ:σ≠[]):
  lim T (.call false lT [.agg [.int .i64 b.f.x,.int .i64 b.f.y,.int .i64 b.f.z,.int .i64 b.f.k,.aH b.ck.length (b.ck.flatMap Rw.enc),.int .i64 b.bJ,.int .i64 b.lift,.int .i64 b.deep,.aH b.an.length (b.an.flatMap bG.enc),.str m.name,.aH m.bh.length (m.bh.flatMap aT)],.aH s.length (s.flatMap aE.enc),.aH aR.length (aR.flatMap aT)] σ)=some (.val (aeE b m s aR) σ):=by
 refine az CV oW.eq_1 rfl ?_;have hl:=hs.len;have hn:=h.bv.n;have hne:s≠[]:=by intro h0;rw[h0]at hl;simp at hl;omega
 have hC:=aeW (σ:=σ) (s:=s) (bs:=[]) (by omega) hne;obtain⟨X,Y,Z,hF⟩:=ae1 (σ:=σ) (A:=.cells 0 []) (B:=.cells 1 (s.flatMap aE.enc)) h hs;obtain⟨fb,fl⟩:=QY h hs;obtain⟨x,e',σ',hrun,rfl,rfl,hq⟩:=amd (σ:=σ) (A:=.cells 0 []) (FL:=.cells 0 (Dm (vq b m s))) (X:=X) (Y:=Y) (Z:=Z) (W:=.dead) h hs hr fb fl;obtain⟨f1,f2⟩:=KW (m:=m) h.bv hs;have hM:=amu (σ:=σ) (aR:=aR) (m:=m) (A:=.cells 0 []) (X:=X) (Y:=Y) (Z:=Z) (es:=vq b m s) hs f1 f2 (r:=.Cv .ret e' ([.cells 0 [],.cells 1 ((mA b m (fe b s ((vq b m s).foldl eV s) aR aR.length) b.n).flatMap aE.enc),.cells 0 (Dm (vq b m s)),X,Y,Z,.dead,.cells aR.length ((eE b s aR).flatMap aE.enc)]::σ)) ⟨_,_,_,hrun,rfl⟩ _ [] List.nodup_nil (by simp) rfl;simp only[aX,bE,cQ]at hC;have hG:AE ([.cells 0 [],.cells 1 (s.flatMap aE.enc),.cells 0 (Dm (vq b m s)),X,Y,Z]::σ) .rng [.mq σ.length 2]=some (.mq σ.length 6,[.cells 0 [],.cells 1 (s.flatMap aE.enc),.cells 0 (Dm (vq b m s)),X,Y,Z,itB σ.length (vq b m s).length []]::σ):=by
  simp[AE,AD,itB,jsD,Dm]
 simp[-length_flatMap,-map_take,hC,hF,hG,cI,bj,bq,GL];refine⟨_,_,_,by simpa[HP,stT]using hM,?_⟩;rw[PQ hr hl]at hq ⊢;have hnl:(Dc b m s aR).length=b.n:=by
  rw[← PQ hr hl,zL,(Ae h.bv hs hr fb aR.length (aJ _)).2,fl,hl]
 have hyl:(eE b s aR).length=aR.length:=by simp[eE,hr.len]
 unfold aeE tick;cases hc:xZ b (Dc b m s aR)
 ·rw[hc]at hq;simp at hq;obtain⟨g6,g7,g8⟩:=hq;simp[g6,g7,g8]
 ·rw[hc]at hq;simp only[if_true]at hq;obtain⟨g6,g7,g8⟩:=hq;simp only[if_true];simp[g6,g7,g8];rw[BI (by simp) (by omega)];simp only[wA,yV];rw[← hnl,xO (f:=aE.enc) (l:=Dc b m s aR) (by decide) (fun _=>rfl) (fun x=>by simp) hσ (by simp)];simp only[List.set_cons_succ,List.set_cons_zero];rw[← hyl,xO (f:=aE.enc) (l:=eE b s aR) (by decide) (fun _=>rfl) (fun x=>by simp) hσ (by simp)];rw[jj (by simp) (by omega)];exact⟨_,rfl⟩
def wC(s:List Rock.aE):List D:=[.aH s.length (s.flatMap aE.enc)]
theorem Qb(l:List (List Rock.aE)):(l.flatMap wC).length=l.length:=by
 have:=bZ (f:=wC) (w:=1) (fun _=>rfl) l;omega
theorem Sv.next{b:cr}{m:cN}{s:List Rock.aE}{aR:List Int}(h:Bv b){s' y:List Rock.aE}(ht:tick b m s aR=some (s',y)):Sv b s':=by
 unfold tick at ht;split at ht
 ·rename_i hc;simp only[ae,ak]at ht;obtain⟨rfl,_⟩:=ht;exact(Sv.of h).1 hc
 ·cases ht
theorem aed{n:Nat}(h:n≤1000000):n*24≤room:=by unfold room;omega
theorem Ik(l:List (List Rock.aE)):D.bz (l.flatMap wC)=true:=gX (fun x=>by simp[wC,D.clean,GL]) l
def arj(b:cr)(m:cN)(σ:SK)(r:Option (List (List Rock.aE)×List (List Rock.aE)))(x:Abs.Exit)(e:Env)(σ':SK):Prop:=match r with
 |some (ss,ys)=>∃v u,x=.exit 0∧get e 4=.own 0 [.sl σ.length 2 v 0 ss.length 1,.sl σ.length 1 u 0 ys.length 1]∧σ'=[.cells 0 [],.cells u (ys.flatMap wC),.cells v (ss.flatMap wC)]::σ
 |none=>x=.fQ (.tW 262 (.agg []))∧∃bw,σ'=bw::σ
theorem SH{b:cr}{m:cN}{av:List (List Int)}(h:Fv b m)(hp:av.length≤200)(hr:∀r∈av,Rv b r):∀(k i v u:Nat) (ss ys:List (List Rock.aE)) (s:List Rock.aE),i+k=av.length→ss.length=i+1→ys.length=i→ss[i]?=some s→Sv b s →
  WL T [2,4,14,15,16] false mg [(2,.bF [.int .i64 b.f.x,.int .i64 b.f.y,.int .i64 b.f.z,.int .i64 b.f.k,.aH b.ck.length (b.ck.flatMap Rw.enc),.int .i64 b.bJ,.int .i64 b.lift,.int .i64 b.deep,.aH b.an.length (b.an.flatMap bG.enc),.str m.name,.aH m.bh.length (m.bh.flatMap aT)]),(4,.own 0 [.sl σ.length 2 v 0 (i+1) 1,.sl σ.length 1 u 0 i 1]),(14,.aH av.length (av.flatMap FT)),(15,.int .i64 av.length),(16,.int .i64 i)]
   ([.cells 0 [],.cells u (ys.flatMap wC),.cells v (ss.flatMap wC)]::σ) (arj b m σ (ve b m ss ys s (av.drop i)))
 |0,i,v,u,ss,ys,s,hi,h1,h2,h3,hs=>by
  refine aN mg.eq_1 ?_;obtain rfl:i=av.length:=by omega
  have h5:av.drop av.length=[]:=aA (by omega);simp[-length_flatMap,-map_take,h5,ve,arj];exact⟨v,u,by simp[h1,h2]⟩
 |k+1,i,v,u,ss,ys,s,hi,h1,h2,h3,hs=>by
  refine aN mg.eq_1 ?_;have hlt:i<av.length:=by omega
  have hii:(i:Int)<i+1:=by omega
  obtain⟨r,hx⟩:=gE hlt;have h4:=gG hlt (by omega);have h5:=cS hx;have a1:=bR (f:=FT) (w:=1) (fun _=>rfl) hx;simp only[FT,dX]at a1;have a2:=Bi (f:=wC) (w:=1) (fun _=>rfl) h3;simp only[wC,dX,eP]at a2;have hT:=fun σ hσ=>amj (σ:=σ) h hs (hr r (ai hx)) hσ
  rw[h5,ve];unfold aeE at hT;cases ht:tick b m s r with
  |none =>
   rw[ht]at hT;simp only at hT;simp[-length_flatMap,-map_take,hlt,hii,h4,a1,a2,hT,FT,arj]
  |some p =>
   obtain⟨s',y⟩:=p;rw[ht]at hT;simp only at hT;have ih:=SH h hp hr k (i+1) (v+1) (u+1) (ss++[s']) (ys++[y]) s' (by omega) (by simp[h1]) (by simp[h2]) (by simp[← h1]) (Sv.next h.bv ht);have l1:=Qb ss;have l2:=Qb ys;rw[h1]at l1;rw[h2]at l2;have f1:(ss.flatMap wC).take (i+1)=ss.flatMap wC:=aj (by omega);have f2:(ys.flatMap wC).take i=ys.flatMap wC:=aj (by omega);have h7:=aed (n:=i+1) (by omega);have h8:=aed (n:=i+1+1) (by omega);simp[-length_flatMap,-map_take,hlt,hii,h4,a1,a2,hT,FT,f1,f2,l1,l2,h7,h8];exact WL.to ih (by simp) (by simp[wC]) fun x e σ hh=>hh
theorem Nt{b:cr}{m:cN}{av:List (List Int)}(h:Fv b m)(hp:av.length≤200)(hr:∀r∈av,Rv b r)(hσ:σ≠[]){ss ys:List (List Rock.aE)}(hrun:Rock.run b m av=some (ss,ys)):
  lim T (.call false iA [.agg [.int .i64 b.f.x,.int .i64 b.f.y,.int .i64 b.f.z,.int .i64 b.f.k,.aH b.ck.length (b.ck.flatMap Rw.enc),.int .i64 b.bJ,.int .i64 b.lift,.int .i64 b.deep,.aH b.an.length (b.an.flatMap bG.enc),.str m.name,.aH m.bh.length (m.bh.flatMap aT)],.aH av.length (av.flatMap FT)] σ)=some (.val (.agg [.aH ss.length (ss.flatMap wC),.aH ys.length (ys.flatMap wC)]) σ):=by
 refine az xA mR.eq_1 rfl ?_;have hf:=fun σ hσ=>Eg (σ:=σ) h hσ
 simp only[RW]at hf;simp[-length_flatMap,-map_take,hf,cI,bj,bq];refine WL.to (SH (σ:=σ) h hp hr av.length 0 0 0 [dS b m] [] (dS b m) (by omega) rfl rfl rfl (Sv.first h)) (by simp) (by simp[wC]) ?_;rw[aO,show ve b m [dS b m] [] (dS b m) av=some (ss,ys)from hrun];rintro x e σ' ⟨v,u,rfl,g4,rfl⟩;simp[-length_flatMap,-map_take,g4];have c1:∀x:List Rock.aE,D.bz (wC x)=true:=fun x=>by simp[wC,D.clean,GL]
 rw[Pr (by simp) (by omega)];simp only[wA,yV];rw[xO (f:=wC) (w:=1) (l:=ss) (by decide) (fun _=>rfl) c1 hσ (by simp)];simp only[List.set_cons_succ,List.set_cons_zero];rw[xO (f:=wC) (w:=1) (l:=ys) (by decide) (fun _=>rfl) c1 hσ (by simp)];exact⟨_,rfl⟩
theorem Ns{b:cr}{m:cN}{av:List (List Int)}(h:Fv b m)(hp:av.length≤200)(hr:∀r∈av,Rv b r)(hrun:Rock.run b m av=none):
  lim T (.call false iA [.agg [.int .i64 b.f.x,.int .i64 b.f.y,.int .i64 b.f.z,.int .i64 b.f.k,.aH b.ck.length (b.ck.flatMap Rw.enc),.int .i64 b.bJ,.int .i64 b.lift,.int .i64 b.deep,.aH b.an.length (b.an.flatMap bG.enc),.str m.name,.aH m.bh.length (m.bh.flatMap aT)],.aH av.length (av.flatMap FT)] σ)=some (.fQ (.tW 262 (.agg [])) σ):=by
 refine ef xA mR.eq_1 rfl ?_;have hf:=fun σ hσ=>Eg (σ:=σ) h hσ
 simp only[RW]at hf;simp[-length_flatMap,-map_take,hf,cI,bj,bq];refine WL.to (SH (σ:=σ) h hp hr av.length 0 0 0 [dS b m] [] (dS b m) (by omega) rfl rfl rfl (Sv.first h)) (by simp) (by simp[wC]) ?_;rw[aO,show ve b m [dS b m] [] (dS b m) av=none from hrun];rintro x e σ' ⟨rfl,bw,rfl⟩;simp[D.clean]
end Go.Proofs.YtfgljaglidhjiaaGreatDoor
