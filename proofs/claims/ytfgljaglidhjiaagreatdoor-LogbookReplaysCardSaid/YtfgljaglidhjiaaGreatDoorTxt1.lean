import Derived.Test.YtfgljaglidhjiaaGreatDoorTxt0
set_option linter.all false
namespace Go.Proofs.YtfgljaglidhjiaaGreatDoor
open List(length_flatMap map_take)
open Go Go.Abs Go.Rock
variable {σ:SK}
theorem aG.Sg{x:Rock.aG}:x.valid=true↔(1≤x.m∧x.m≤1000000)∧(0≤x.h∧x.h≤10000000000)∧(0≤x.k∧x.k≤1000000000000):=by
 simp[Rock.aG.valid,cV]
structure Sv(b:cC)(s:List Rock.aG):Prop where
 len:s.length=b.n
 ok:∀x∈s,x.valid=true
theorem Sv.of{b:cC}{s:List Rock.aG}(h:Bv b):zY b s=true↔Sv b s:=by
 have hs:=h.sz;have hn:=h.n;unfold zY;simp only[af,aA];constructor
 ·rintro⟨h1,h2⟩;exact⟨by unfold cC.size at h1;omega,ki.1 h2⟩
 ·rintro⟨h1,h2⟩;exact⟨by unfold cC.size;omega,ki.2 h2⟩
theorem Sv.at{b:cC}{s:List Rock.aG}(h:Sv b s){i:Nat}(hi:i<b.n):s[i]?=some (bS s i)∧(1≤(bS s i).m∧(bS s i).m≤1000000)∧(0≤(bS s i).h∧(bS s i).h≤10000000000)∧(0≤(bS s i).k∧(bS s i).k≤1000000000000):=by
 have h1:i<s.length:=by have:=h.len;omega
 have h2:s[i]?=some (bS s i):=by simp[bS,h1]
 exact⟨h2,aG.Sg.1 (h.ok _ (an h2))⟩
theorem Sv.first{b:cC}{m:cX}(h:Fv b m):Sv b (dX b m):=by
 refine⟨E5,fun x hx=>?_⟩;simp only[dX,bU,List.mem_range]at hx;obtain⟨i,hi,rfl⟩:=hx;have b1:=h.hold i hi;have b2:=h.OR i hi;have b3:=pC (by omega:0≤hold b m i) b1.2 b2.1 b2.2;exact aG.Sg.2 ⟨⟨by simp only;omega,by simp only;omega⟩,⟨b3.1,by simp only;omega⟩,by simp⟩
theorem apu{r:Rw}(h:r.alone=true):(1≤r.p∧r.p≤10000)∧(0≤r.l∧r.l≤4000):=by
 simp only[Rw.alone,af]at h;exact⟨bf.1 h.2.1,bf.1 h.2.2.1⟩
theorem age{s:List Rock.aG}{i:Nat}{x:Rock.aG}{t:List Rw}(hx:s[i]?=some x)(hm:0≤x.m∧x.m≤1000000)(ht:∀r∈t,r.alone=true)(hl:t.length≤1000):∀(n j:Nat) (o:Int),j+n=t.length →
  WL T [1,2,7,34,35,36] false ju [(1,.aK s.length (s.flatMap aG.enc)),(2,.int .i64 i),(7,.int .i64 o),(34,.aK t.length (t.flatMap Rw.enc)),(35,.int .i64 t.length),(36,.int .i64 j)] σ
   (fun x' e σ'=>σ'=σ∧x'=.exit 0∧get e 7=.int .i64 ((t.drop j).foldl (rz x) o))
 |0,j,o,hj=>by
  refine aM sE ?_;have h1:¬j<t.length:=by omega
  have h2:t.drop j=[]:=aJ (by omega);simp[-length_flatMap,-map_take,h1,h2]
 |n+1,j,o,hj=>by
  refine aM sE ?_;have h1:j<t.length:=by omega
  obtain⟨r,hr⟩:=gE h1;have hrb:=apu (ht r (an hr));have h2:=bQ (f:=Rw.enc) (w:=5) (fun _=>rfl) hr;have h3:=bQ (f:=aG.enc) (w:=3) (fun _=>rfl) hx;have h4:=fK h1 (by omega);have h5:=dG hr;have hi:i<s.length:=(aF.1 hx).1;have b1:=pC hrb.2.1 hrb.2.2 hm.1 hm.2;have w1:=gQ (n:=r.l*x.m) (by omega);have ih:=age hx hm ht hl n (j+1) (rz x o r) (by omega);rw[h5];simp only[List.foldl_cons];by_cases hc:r.l*x.m≤x.h
  ·have hm2:(if o<r.p then r.p else o)=rz x o r:=by unfold rz;rw[if_pos hc];omega
   simp[-length_flatMap,-map_take,h1,h2,h3,h4,hi,w1,hc];refine WL.to ih (by simp[rz,hc]) rfl fun x e σ hh=>hh
  ·simp[-length_flatMap,-map_take,h1,h2,h3,h4,hi,w1,hc];refine WL.to ih (by simp[rz,hc]) rfl fun x e σ hh=>hh
theorem Mk{b:cC}{m:cX}{s:List Rock.aG}(h:Fv b m)(hs:Sv b s){i:Nat}(hi:i<b.n):
  bw T (.call false fO [.agg [.int .i64 b.f.x,.int .i64 b.f.y,.int .i64 b.f.z,.int .i64 b.f.k,.aK b.cf.length (b.cf.flatMap Rw.enc),.int .i64 b.bJ,.int .i64 b.lift,.int .i64 b.deep,.aK b.av.length (b.av.flatMap bH.enc),.str m.name,.aK m.bg.length (m.bg.flatMap aU)],.aK s.length (s.flatMap aG.enc),.int .i64 i] σ)=some (.val (.int .i64 (mf b m s i)) σ):=by
 refine aD BR Co rfl ?_;have hw:=fun σ=>Mm (σ:=σ) (m:=m) h.bv hi
 have ho:=fun σ=>aiS (σ:=σ) h.toMv hi
 have b1:=h.hold i hi;obtain⟨hx,b2,b3,b4⟩:=hs.at hi;have hil:i<s.length:=by have:=hs.len;omega
 have hst:=h.bv.bJ;have b5:=EV h.bv hi;have b6 : -100000000000≤b.bJ*((bS s i).m-hold b m i)∧b.bJ*((bS s i).m-hold b m i)≤100000000000:=by
  rcases n0 (hold b m i) (bS s i).m with hh | hh
  ·have:=pC (a:=b.bJ) (b:=(bS s i).m-hold b m i) (A:=100000) (B:=1000000) (by omega) hst.2 (by omega) (by omega);omega
  ·have:=pC (a:=b.bJ) (b:=hold b m i-(bS s i).m) (A:=100000) (B:=1000000) (by omega) hst.2 (by omega) (by omega);have e:b.bJ*((bS s i).m-hold b m i) = - (b.bJ*(hold b m i-(bS s i).m)):=by rw[← Int.mul_neg];congr 1;omega
   omega
 have hd:=fun σ=>asZ (σ:=σ) (n:=b.bJ*((bS s i).m-hold b m i)) (d:=hold b m i) (by omega) (by omega)
 have b7 : -100000000000≤down (b.bJ*((bS s i).m-hold b m i)) (hold b m i)∧down (b.bJ*((bS s i).m-hold b m i)) (hold b m i)≤100000000000:=by
  unfold down;constructor
  ·rw[Int.le_ediv_iff_mul_le (by omega)];omega
  ·have:=Int.ediv_le_self (b:=hold b m i) (a:=b.bJ*((bS s i).m-hold b m i));rcases n0 0 (b.bJ*((bS s i).m-hold b m i))with hh | hh
   ·have:=this hh;omega
   ·have:=Int.ediv_le_of_le_mul (b:=0) (show 0<hold b m i by omega) (by omega:b.bJ*((bS s i).m-hold b m i)≤0*hold b m i);omega
 have w1:=gQ (n:=(bS s i).m-hold b m i) (by omega);have w2:=gQ (n:=b.bJ*((bS s i).m-hold b m i)) (by omega);have w3:=gQ (n:=weight b i+down (b.bJ*((bS s i).m-hold b m i)) (hold b m i)) (by omega);have h3:=bQ (f:=aG.enc) (w:=3) (fun _=>rfl) hx;have htab:=h.bv.cf;simp only[lB,af]at htab;have ht:=bf.1 htab.1;simp[-length_flatMap,-map_take,hw,ho,hil,h3,w1,w2,hd,w3];refine WL.to (age (σ:=[]::σ) hx ⟨by omega,by omega⟩ (ki.1 htab.2.1) (by omega) b.cf.length 0 (max 0 (weight b i+down (b.bJ*((bS s i).m-hold b m i)) (hold b m i))) (by omega)) (by simp) rfl ?_;rintro x e σ' ⟨rfl,rfl,g⟩;simp[-length_flatMap,-map_take,g,mf]
theorem Sk{b:cC}{m:cX}{s:List Rock.aG}:(bX b m s).length=s.length:=by simp[bX]
theorem agI(l:List Int):(l.flatMap aU).length=l.length:=by
 have:=bV (f:=aU) (w:=1) (fun _=>rfl) l;omega
theorem KX{b:cC}{m:cX}{s:List Rock.aG}(h:Fv b m)(hs:Sv b s):∀(n i v:Nat),i+n=s.length →
  WL T [1,2,4,7,8] false iL [(1,.aK s.length (s.flatMap aG.enc)),(2,.bE [.int .i64 b.f.x,.int .i64 b.f.y,.int .i64 b.f.z,.int .i64 b.f.k,.aK b.cf.length (b.cf.flatMap Rw.enc),.int .i64 b.bJ,.int .i64 b.lift,.int .i64 b.deep,.aK b.av.length (b.av.flatMap bH.enc),.str m.name,.aK m.bg.length (m.bg.flatMap aU)]),(4,.sl σ.length 0 v 0 i 1),(7,.int .i64 s.length),(8,.int .i64 i)] ([.cells v (((bX b m s).take i).flatMap aU)]::σ)
   (fun x e σ'=>x=.exit 0∧get e 4=.sl σ.length 0 (v+n) 0 (bX b m s).length 1∧σ'=[.cells (v+n) ((bX b m s).flatMap aU)]::σ)
 |0,i,v,hi=>by
  refine aM rQ ?_;have h1:¬i<s.length:=by omega
  have h3:(bX b m s).take i=bX b m s:=ar (by rw[Sk];omega);simp[-length_flatMap,-map_take,h1,h3,Sk];omega
 |n+1,i,v,hi=>by
  refine aM rQ ?_;have h1:i<s.length:=by omega
  have hn:=h.bv.n;have hl:=hs.len;have h4:=fK h1 (by omega);have hp:=fun σ=>Mk (σ:=σ) h hs (i:=i) (by omega)
  have ih:=KX h hs n (i+1) (v+1) (by omega);have hx:(bX b m s)[i]?=some (mf b m s i):=by simp[bX,h1]
  have a3:=Kr (f:=aU) hx;have a4:=agI ((bX b m s).take i);rw[mD,Sk,Nat.min_eq_left (by omega)]at a4;have a6:(((bX b m s).take i).flatMap aU).take i=((bX b m s).take i).flatMap aU:=ar (by omega);have h7:(i+1)*8≤room:=by unfold room;omega
  simp[-length_flatMap,-map_take,h1,h4,hp,a4,a6,h7,cM,bu,bA];refine WL.to ih (by simp[cM,bu,bA]) (by simp[← a3]) fun x e σ hh=>by simpa[dW,Nat.add_comm 1 n]using hh
theorem SZ{b:cC}{m:cX}{s:List Rock.aG}(h:Fv b m)(hs:Sv b s)(hσ:σ≠[]):bw T (.call false ic [.agg [.int .i64 b.f.x,.int .i64 b.f.y,.int .i64 b.f.z,.int .i64 b.f.k,.aK b.cf.length (b.cf.flatMap Rw.enc),.int .i64 b.bJ,.int .i64 b.lift,.int .i64 b.deep,.aK b.av.length (b.av.flatMap bH.enc),.str m.name,.aK m.bg.length (m.bg.flatMap aU)],.aK s.length (s.flatMap aG.enc)] σ)=some (.val (.aK (bX b m s).length ((bX b m s).flatMap aU)) σ):=by
 refine aD AY Bl rfl ?_;simp[-length_flatMap,-map_take,cM,bu,bA];refine WL.to (KX (σ:=σ) h hs s.length 0 0 (by omega)) (by simp) (by simp) ?_;rintro x e σ' ⟨rfl,g4,rfl⟩;simp[-length_flatMap,-map_take,g4];rw[zL (f:=aU) (by decide) (fun _=>rfl) (fun x=>by simp) hσ (by simp)];simp
theorem U2{x:Rock.aG}:bw T (.call false jX [.agg x.enc] σ)=some (.val (.bool x.valid) σ):=by
 refine aD GU HL rfl ?_;cases hc1:cV x.m 1 1000000
 ·simp[-length_flatMap,-map_take,dN,Rock.aG.valid,hc1]
 cases hc2:cV x.h 0 10000000000
 ·simp[-length_flatMap,-map_take,dN,Rock.aG.valid,hc1,hc2]
 cases hc3:cV x.k 0 1000000000000
 ·simp[-length_flatMap,-map_take,dN,Rock.aG.valid,hc1,hc2,hc3]
 simp[-length_flatMap,-map_take,dN,Rock.aG.valid,hc1,hc2,hc3]
theorem Pz{x q m A:Int}(hm:1≤m)(hx:0≤x∧x≤A)(hq:0≤q∧q≤m):0≤(x*q).tdiv m∧(x*q).tdiv m≤A:=by
 have h1:=fq hx.1 hq.1;rw[bC h1];refine⟨Int.ediv_nonneg h1 (by omega),Int.ediv_le_of_le_mul (by omega) ?_⟩;exact mK hx.2 hq.2 hq.1 (by omega)
theorem ai1{x:Rock.aG}{q:Int}(hm:1≤x.m∧x.m≤1000000)(hh:0≤x.h∧x.h≤10000000000)(hk:0≤x.k∧x.k≤1000000000000)(hq:0≤q∧q≤x.m):
  bw T (.call false mI [.agg x.enc,.int .i64 q] σ)=some (.val (.agg (x.out q).enc) σ):=by
 refine aD JK Kg rfl ?_;have b1:=pC hh.1 hh.2 hq.1 (show q≤1000000 by omega);have b2:=pC hk.1 hk.2 hq.1 (show q≤1000000 by omega);have b3:=Pz hm.1 hh hq;have b4:=Pz hm.1 hk hq;have w1:=gQ (n:=x.h*q) (by omega);have w2:=gQ (n:=x.k*q) (by omega);have w3:=gQ (n:=(x.h*q).tdiv x.m) (by omega);have w4:=gQ (n:=(x.k*q).tdiv x.m) (by omega);have hne:¬x.m=0:=by omega
 simp[-length_flatMap,-map_take,w1,w2,w3,w4,hne,Rock.aG.out]
def sm(x:Rock.aG)(n:Int):Prop:=(-n≤x.m∧x.m≤n)∧(-n≤x.h∧x.h≤n)∧(-n≤x.k∧x.k≤n)
theorem Mj{F:List Abs.aG}{j v i:Nat}{s:List Rock.aG}{x o:Rock.aG}{sign:Int}(hF:F[j]?=some (.cells v (s.flatMap aG.enc)))(hx:s[i]?=some x)(h1:sm x 1000000000000000000)(h2:sm o 1000000000000000000)(hs:sign=1∨sign = -1):
  bw T (.call false ck [.ref σ.length j v (i*3),.agg o.enc,.int .i64 sign] (F::σ))=some (.val (.ez []) (F.set j (.cells v ((iY s i o sign).flatMap aG.enc))::σ)):=by
 refine gF Il IV rfl (by simp) ?_;obtain⟨a1,a2,a3⟩:=h1;obtain⟨c1,c2,c3⟩:=h2;have hi:i<s.length:=(aF.1 hx).1;obtain⟨A,B,hA,hAB⟩:∃A B:List D,A.length=i*3∧s.flatMap aG.enc=A++(x.enc++B):=by
  have hd:=HZ (f:=aG.enc) (w:=3) (fun _=>rfl) hx;have hlen:=L6 s;refine⟨(s.flatMap aG.enc).take (i*3),(s.flatMap aG.enc).drop (i*3+3),by rw[mD];omega,?_⟩;rw[← hd,List.take_append_drop]
 have hset:(iY s i o sign).flatMap aG.enc=A++((x.move o sign).enc++B):=by
  have h3:=agL (f:=aG.enc) (w:=3) (fun _=>rfl) (x:=x.move o sign) hi;have hblk:bS s i=x:=by simp[bS,hx]
  rw[iY,hblk,← h3,hAB];have e1:(A++(x.enc++B)).take (i*3)=A:=by rw[← hA];simp
  have e2:(A++(x.enc++B)).drop (i*3+3)=B:=by
   rw[← mL,← hA];simp
  rw[e1,e2]
 rw[hAB]at hF;rw[hset];have hj:j<F.length:=(aF.1 hF).1;have gs:∀X:Abs.aG,(F.set j X)[j]?=some X:=fun X=>by simp[hj]
 clear hset hAB hx hj;have t1:∀L:List D,(A++L).take (A.length+1)=A++L.take 1:=fun L=>by rw[List.take_length_add_append]
 have t2:∀L:List D,(A++L).take (A.length+1+1)=A++L.take 2:=fun L=>by rw[dW,List.take_length_add_append]
 have d2:∀L:List D,(A++L).drop (A.length+1+1)=L.drop 2:=fun L=>by rw[dW,cY]
 have d1:∀L:List D,(A++L).drop (A.length+1)=L.drop 1:=fun L=>by rw[cY]
 have d3:∀L:List D,(A++L).drop (A.length+1+1+1)=L.drop 3:=fun L=>by rw[dW,dW,cY]
 have k1:A.length+1+1≤A.length+(B.length+1+1+1):=by omega
 have k2:A.length+1+1+1≤A.length+(B.length+1+1+1):=by omega
 have k3:A.length+1≤A.length+(B.length+1+1+1):=by omega
 have k4:A.length+2+1≤A.length+(B.length+1+1+1):=by omega
 have d4:∀L:List D,(A++L).drop (A.length+2)=L.drop 2:=fun L=>by rw[cY]
 have d5:∀L:List D,(A++L).drop (A.length+2+1)=L.drop 3:=fun L=>by rw[dW,cY]
 have t4:∀L:List D,(A++L).take (A.length+2)=A++L.take 2:=fun L=>by rw[List.take_length_add_append]
 have y1:=gQ (n:=o.m) (by omega);have y2:=gQ (n:=o.h) (by omega);have y3:=gQ (n:=o.k) (by omega);have y4:=gQ (n := -o.m) (by omega);have y5:=gQ (n := -o.h) (by omega);have y6:=gQ (n := -o.k) (by omega);rcases hs with rfl | rfl
 ·have w1:=gQ (n:=x.m+o.m) (by omega);have w2:=gQ (n:=x.h+o.h) (by omega);have w3:=gQ (n:=x.k+o.k) (by omega);simp[-length_flatMap,-map_take,hF,gs,← hA,w1,w2,w3,y1,y2,y3,t1,t2,t4,d1,d2,d3,d4,d5,k1,k2,k3,k4,Rock.aG.move]
 ·have w1:=gQ (n:=x.m + -o.m) (by omega);have w2:=gQ (n:=x.h + -o.h) (by omega);have w3:=gQ (n:=x.k + -o.k) (by omega);simp[-length_flatMap,-map_take,hF,gs,← hA,w1,w2,w3,y4,y5,y6,t1,t2,t4,d1,d2,d3,d4,d5,k1,k2,k3,k4,Rock.aG.move]
theorem aqj{w:bH}{r:Int}(hr : -100000≤r∧r≤100000)(h1:0≤w.h∧w.h≤3000)(h2:0≤w.m∧w.m≤1000000):
  bw T (.call false oD [.agg w.enc,.int .i64 r] σ)=some (.val (.agg (w.given r).enc) σ):=by
 refine aD Im IW rfl ?_;have b1 : -300000000≤r*w.h∧r*w.h≤300000000:=by
  rcases n0 0 r with h | h
  ·have:=pC h hr.2 h1.1 h1.2;omega
  ·have:=pC (a := -r) (A:=100000) (by omega) (by omega) h1.1 h1.2;rw[Int.neg_mul]at this;omega
 have b2 : -100000000000≤r*w.m∧r*w.m≤100000000000:=by
  rcases n0 0 r with h | h
  ·have:=pC h hr.2 h2.1 h2.2;omega
  ·have:=pC (a := -r) (A:=100000) (by omega) (by omega) h2.1 h2.2;rw[Int.neg_mul]at this;omega
 have w1:=gQ (n := -r) (by omega);have w2:=gQ (n := -(r*w.h)) (by omega);have w3:=gQ (n := -(r*w.m)) (by omega);simp[-length_flatMap,-map_take,w1,w2,w3,bH.given,Int.neg_mul]
theorem azn{b:cC}{m:cX}(h:Fv b m){i:Nat}(hi:i<b.n):bw T (.call false oF [.agg [.int .i64 b.f.x,.int .i64 b.f.y,.int .i64 b.f.z,.int .i64 b.f.k,.aK b.cf.length (b.cf.flatMap Rw.enc),.int .i64 b.bJ,.int .i64 b.lift,.int .i64 b.deep,.aK b.av.length (b.av.flatMap bH.enc),.str m.name,.aK m.bg.length (m.bg.flatMap aU)],.int .i64 i] σ)=some (.val (.agg (fed b m i).enc) σ):=by
 refine aD Ir I0 rfl ?_;have hf:=fun σ=>as1 (σ:=σ) h.toMv hi
 have b1:=h.feed i hi;have b2:=h.bv.deep;have b3:=pC b1.1 b1.2 b2.1 b2.2;have w1:=gQ (n:=feed b m i*b.deep) (by omega);simp[-length_flatMap,-map_take,hf,w1,fed]
theorem aqd{s:List Rock.aG}{bs:List Abs.aG}(hl:s.length≤1000000)(hne:s≠[]):bw T (.call true cT [.aK s.length (s.flatMap aG.enc)] (bs::σ)) =
  some (.val (.sl σ.length (bs.length+1) 1 0 s.length 3) ((bs++[.cells 0 [],.cells 1 (s.flatMap aG.enc)])::σ)):=by
 refine yi sL sP rfl ?_;have h7:s.length*24≤room:=by unfold room;omega
 simp[-length_flatMap,-map_take,hne,L6,h7]
theorem aqm{b:cC}:bw T (.call false pn [.agg [.int .i64 b.f.x,.int .i64 b.f.y,.int .i64 b.f.z,.int .i64 b.f.k,.aK b.cf.length (b.cf.flatMap Rw.enc),.int .i64 b.bJ,.int .i64 b.lift,.int .i64 b.deep,.aK b.av.length (b.av.flatMap bH.enc)]] σ)=some (.val (.fn jU [] [.bE [.int .i64 b.f.x,.int .i64 b.f.y,.int .i64 b.f.z,.int .i64 b.f.k,.aK b.cf.length (b.cf.flatMap Rw.enc),.int .i64 b.bJ,.int .i64 b.lift,.int .i64 b.deep,.aK b.av.length (b.av.flatMap bH.enc)]]) σ):=by
 refine aD JH Kd rfl ?_;simp[-length_flatMap,-map_take,cM,bu,bA]
theorem Bv.xy{b:cC}(h:Bv b):b.f.x=(b.f.x.toNat:Int)∧b.f.y=(b.f.y.toNat:Int)∧1≤b.f.x.toNat*b.f.y.toNat∧b.f.x.toNat*b.f.y.toNat≤64:=by
 have hx:=h.x;have hy:=h.y;obtain⟨s1,_⟩:=fT.sz h.x h.y h.z;have e1:b.f.x*b.f.y=((b.f.x.toNat*b.f.y.toNat:Nat):Int):=by push_cast;rw[eO (by omega),eO (by omega)]
 rw[e1]at s1;refine⟨by omega,by omega,by omega,by omega⟩
theorem Bv.nat{b:cC}(h:Bv b):b.n=b.f.x.toNat*b.f.y.toNat*b.f.z.toNat∧1≤b.f.x.toNat∧1≤b.f.y.toNat:=by
 have hx:=h.x;have hy:=h.y;have hz:=h.z;have hs:=h.sz;refine⟨?_,by omega,by omega⟩;have:((b.f.x.toNat*b.f.y.toNat*b.f.z.toNat:Nat):Int)=b.f.size:=by
  push_cast;rw[eO (by omega),eO (by omega),eO (by omega)];rfl
 omega
theorem asr{X W i n:Nat}(hn:n=X*W)(hi:i<n)(hc:(i+1)%X≠0):i+1<n:=by
 rcases Nat.lt_or_ge (i+1) n with h | h
 ·exact h
 ·have:i+1=X*W:=by omega
  rw[this,Nat.mul_mod_right]at hc;exact absurd rfl hc
theorem link2{X Y Z i n:Nat}(hX:1≤X)(hY:1≤Y)(hn:n=X*Y*Z)(hi:i<n)(hc:i / X%Y≠Y-1):i+X<n:=by
 have h1:i / X<Y*Z:=by rw[Nat.div_lt_iff_lt_mul hX,Nat.mul_comm,← Nat.mul_assoc];omega
 have h2:i / X+1<Y*Z:=by
  rcases Nat.lt_or_ge (i / X+1) (Y*Z)with h | h
  ·exact h
  ·exfalso
   have h3:i / X+1=Y*Z:=by omega
   have hZ:1≤Z:=by
    rcases Nat.eq_zero_or_pos Z with h0 | h0
    ·subst h0;omega
    ·exact h0
   have h4:i / X=Y*(Z-1)+(Y-1):=by
    have:Y*Z=Y*(Z-1)+Y:=by rw[← Nat.mul_succ];congr 1;omega
    omega
   rw[h4,Nat.mul_add_mod,Nat.mod_eq_of_lt (by omega)]at hc;exact hc rfl
 have h3:i<(i / X+1)*X:=by
  have:=Nat.div_add_mod i X;have h4:=Nat.mod_lt i (show X>0 by omega);rw[jl,Nat.one_mul,Nat.mul_comm (i / X) X];omega
 have h5:(i / X+1)*X+X≤n:=by
  have:(i / X+1+1)*X≤Y*Z*X:=dt _ h2;rw[jl (i / X+1) 1 X,Nat.one_mul,Nat.mul_comm (Y*Z) X,← Nat.mul_assoc]at this;omega
 omega
theorem agc{b:cC}(h:Bv b){lv j N:Nat}{St:List (Nat×Nat)→SK}(hN:∀pre,(St pre).length=N)
  (hR:∀pre,∀l:Nat×Nat,l.1<b.n→l.2<b.n→l.1≠l.2→bw T (.round lv j [.agg [.int .i64 l.1,.int .i64 l.2]] ([]::St pre))=some (.val (.bool true) ([]::St (pre++[l])))):∀(n i:Nat) (pre:List (Nat×Nat)),i+n=b.n →
  WL T [0,1,3,4,13,14] false nG [(0,.nO lv j),(1,.bE [.int .i64 b.f.x,.int .i64 b.f.y,.int .i64 b.f.z,.int .i64 b.f.k,.aK b.cf.length (b.cf.flatMap Rw.enc),.int .i64 b.bJ,.int .i64 b.lift,.int .i64 b.deep,.aK b.av.length (b.av.flatMap bH.enc)]),(3,.int .i64 b.f.x),(4,.int .i64 b.f.y),(13,.int .i64 b.n),(14,.int .i64 i)] ([]::St pre)
   (fun x e σ'=>σ'=[]::St (pre++((List.range b.n).drop i).flatMap (zO b))∧x=.exit 0)
 |0,i,pre,hi=>by
  refine aM vM ?_;have h1:¬i<b.n:=by omega
  have h2:(List.range b.n).drop i=[]:=aJ (by simp;omega);simp[-length_flatMap,-map_take,h1,h2]
 |n+1,i,pre,hi=>by
  refine aM vM ?_;have h1:i<b.n:=by omega
  have hn:=h.n;have hx:=h.x;have hy:=h.y;obtain⟨eX,eY,p1,p2⟩:=h.xy;have h4:=fK h1 (by omega);have hs:=fun σ=>AT (σ:=σ) h
  have h5:(List.range b.n).drop i=i::(List.range b.n).drop (i+1):=dG (by simp[h1]);have w1:=gQ (n:=b.f.x*b.f.y) (by rw[eX,eY];omega);obtain⟨hnn,X1,Y1⟩:=h.nat;have hx0:¬b.f.x=0:=by omega
  have hy0:¬b.f.y=0:=by omega
  have ih:=fun pre=>agc h hN hR n (i+1) pre (by omega)
  have e1:((i:Int)+1).tmod b.f.x=(((i+1)%b.f.x.toNat:Nat):Int):=by
   conv=>lhs;rw[eX]
   rfl
  have e2:(i:Int) / b.f.x=((i / b.f.x.toNat:Nat):Int):=by
   conv=>lhs;rw[eX]
   rfl
  have e2b:(i:Int).tdiv b.f.x=((i / b.f.x.toNat:Nat):Int):=by
   conv=>lhs;rw[eX]
   rfl
  have e3:((i / b.f.x.toNat:Nat):Int).tmod b.f.y=((i / b.f.x.toNat%b.f.y.toNat:Nat):Int):=by
   conv=>lhs;rw[eY]
   rfl
  have e4:b.f.x*b.f.y=((b.f.x.toNat*b.f.y.toNat:Nat):Int):=by
   conv=>lhs;rw[eX,eY]
   rfl
  have hq:i / b.f.x.toNat≤i:=Nat.div_le_self _ _;have hr1:(i+1)%b.f.x.toNat≤i+1:=Nat.mod_le _ _;have hr2:i / b.f.x.toNat%b.f.y.toNat≤i / b.f.x.toNat:=Nat.mod_le _ _;have l1:=asr (W:=b.f.y.toNat*b.f.z.toNat) (by rw[hnn,Nat.mul_assoc]) h1;have l2:=link2 (Z:=b.f.z.toNat) X1 Y1 hnn h1;have R1:=fun pre hc=>hR pre (i,i+1) h1 (l1 hc) (by simp)
  have R2:=fun pre hc=>hR pre (i,i+b.f.x.toNat) h1 (l2 hc) (by simp;omega)
  have R3:=fun pre hc=>hR pre (i,i+b.f.x.toNat*b.f.y.toNat) h1 hc (by simp;omega)
  have z2:((i+b.f.x.toNat:Nat):Int)=(i:Int)+b.f.x:=by omega
  have z3:((i+b.f.x.toNat*b.f.y.toNat:Nat):Int)=(i:Int)+b.f.x*b.f.y:=by rw[e4];omega
  have z1:((i+1:Nat):Int)=(i:Int)+1:=rfl;simp only[z1,z2,z3]at R1 R2 R3;generalize hA:i / b.f.x.toNat=A at *
  generalize hB:A%b.f.y.toNat=B at *
  generalize hC:(i+1)%b.f.x.toNat=C at *
  generalize hP:b.f.x.toNat*b.f.y.toNat=P at *
  have v1:=gQ (n:=(A:Int)) (by omega);have v2:=gQ (n:=(B:Int)) (by omega);have v3:=gQ (n:=(C:Int)) (by omega);have v4:=gQ (n:=b.f.y-1) (by omega);have v5:=gQ (n:=(i:Int)+b.f.x) (by omega);have v6:=gQ (n:=(i:Int)+b.f.x*b.f.y) (by rw[e4];omega);have v7:=gQ (n:=b.f.x*b.f.y) (by rw[e4];omega);have c3:((i:Int)+b.f.x*b.f.y<(b.n:Int))↔(i+P<b.n):=by rw[e4];omega
  have hL:zO b i=(if C≠0 then [(i,i+1)]else [])++((if B≠b.f.y.toNat-1 then [(i,i+b.f.x.toNat)]else [])++(if i+P<b.n then [(i,i+P)]else [])):=by
   unfold zO;rw[hC,hA,hB,hP]
  rw[h5,ba,hL];clear hL hnn l1 l2;have t1:((C:Int)=0)↔(C=0):=by omega
  have t2:((B:Int)=b.f.y-1)↔(B=b.f.y.toNat-1):=by omega
  by_cases k1:C=0<;>by_cases k2:B=b.f.y.toNat-1<;>by_cases k3:i+P<b.n;all_goals
   first | (have u1:=t1.2 k1) | (have u1:=mt t1.1 k1)
   first | (have u2:=t2.2 k2) | (have u2:=mt t2.1 k2)
   have ih':=ih (pre++((if C≠0 then [(i,i+1)]else [])++((if B≠b.f.y.toNat-1 then [(i,i+b.f.x.toNat)]else [])++(if i+P<b.n then [(i,i+P)]else []))));first
    |(rw[if_neg (not_not_intro k1)]at ih' ⊢) | (rw[if_pos k1]at ih' ⊢)
   first
    |(rw[if_neg (not_not_intro k2)]at ih' ⊢) | (rw[if_pos k2]at ih' ⊢)
   first
    |(rw[if_neg k3]at ih' ⊢) | (rw[if_pos k3]at ih' ⊢)
   have g1:=fun pre=>R1 pre
   have g2:=fun pre=>R2 pre
   have g3:=fun pre=>R3 pre
   first | (have g1:=fun pre=>R1 pre k1) | skip
   first | (have g2:=fun pre=>R2 pre k2) | skip
   first | (have g3:=fun pre=>R3 pre k3) | skip
   simp[-length_flatMap,-map_take,h1,h4,hx0,hy0,e1,e2,e2b,e3,v1,v2,v3,v4,v5,v6,v7,c3,u1,u2,k1,k3,hs,g1,g2,g3];refine WL.to ih' (by simp) (by simp) fun x e σ hh=>by simpa using hh
theorem aiV{b:cC}(h:Bv b){lv j N:Nat}{St:List (Nat×Nat)→SK}(hN:∀pre,(St pre).length=N)
  (hR:∀pre,∀l:Nat×Nat,l.1<b.n→l.2<b.n→l.1≠l.2→bw T (.round lv j [.agg [.int .i64 l.1,.int .i64 l.2]] ([]::St pre))=some (.val (.bool true) ([]::St (pre++[l])))):
  bw T (.call false jU [.nO lv j,.bE [.int .i64 b.f.x,.int .i64 b.f.y,.int .i64 b.f.z,.int .i64 b.f.k,.aK b.cf.length (b.cf.flatMap Rw.enc),.int .i64 b.bJ,.int .i64 b.lift,.int .i64 b.deep,.aK b.av.length (b.av.flatMap bH.enc)]] (St []))=some (.val (.ez []) (St (Ps b))):=by
 refine gF GP HH rfl (by rw[hN,hN]) ?_;have hs:=fun σ=>AT (σ:=σ) h
 simp[-length_flatMap,-map_take,hs];refine WL.to (agc h hN hR b.n 0 [] (by omega)) (by simp) rfl ?_;rintro x e σ' ⟨rfl,rfl⟩;simp[-length_flatMap,-map_take,Ps]
def Ig(es:List ((Nat×Nat)×Rock.aG)):List D:=es.map fun e => .ez [.agg [.int .i64 e.1.1,.int .i64 e.1.2],.agg e.2.enc]
def kyL:Ky:=some (true,[some .i64,some .i64])
theorem aBr{a b:Nat×Nat}:tV kyL (.agg [.int .i64 a.1,.int .i64 a.2]) (.agg [.int .i64 b.1,.int .i64 b.2])=some (b == a):=by
 simp only[tV,kyL,D.row,AS,and_self,if_true,aT,Bool.and_true];congr 1;rw[Bool.eq_iff_iff];simp only[af,beq_iff_eq];constructor
 ·rintro⟨h1,h2⟩;exact Prod.ext (by omega) (by omega)
 ·rintro rfl;exact⟨rfl,rfl⟩
theorem TN{k:Nat×Nat}:∀{es:List ((Nat×Nat)×Rock.aG)},∃r,sd kyL (.agg [.int .i64 k.1,.int .i64 k.2]) (Ig es)=some r∧r.map Prod.fst=es.findIdx? (fun e=>e.1 == k)
 |[]=>⟨none,rfl,rfl⟩
 |e::es=>by
  obtain⟨r,h1,h2⟩:=TN (k:=k) (es:=es);simp only[Ig,aj]at h1 ⊢;simp only[sd,aBr];cases hk:e.1 == k
  ·refine⟨_,by rw[h1];rfl,?_⟩;rw[List.findIdx?_cons,hk,← h2];cases r<;>rfl
  ·exact⟨_,rfl,by rw[List.findIdx?_cons,hk];rfl⟩
theorem aph{S:SK}{l i:Nat}{es:List ((Nat×Nat)×Rock.aG)}{k:Nat×Nat}{o:Rock.aG}(h:cells? S l i 0=some (Ig es)):
  DE S (.put kyL) [.nO l i,.agg [.int .i64 k.1,.int .i64 k.2],.agg o.enc]=some (.undef,aX S l i (.cells 0 (Ig (ail es k o)))):=by
 obtain⟨r,h1,h2⟩:=TN (k:=k) (es:=es);simp only[DE,DD,h,aT,h1,aBr,Option.isSome_some,true_and];rw[if_pos (.inr ⟨by simp[D.clean],by simp[D.clean]⟩)];unfold ail;rw[← h2];cases r with
 |none=>simp[Ig]
 |some y=>simp[Ig,List.map_set]
theorem NA{x:Rock.aG}{A:Int}(hA:10000≤A):∀(t:List Rw) (o:Int),(∀r∈t,r.alone=true)→(0≤o∧o≤A)→0≤t.foldl (rz x) o∧t.foldl (rz x) o≤A
 |[],o,_,h=>h
 |r::t,o,ht,h=>by
  have h1:=apu (ht r (by simp));refine NA hA t _ (fun r hr=>ht r (by simp[hr])) ?_;unfold rz;split<;>omega
theorem Sl{b:cC}{m:cX}{s:List Rock.aG}(h:Fv b m)(hs:Sv b s){i:Nat}(hi:i<b.n):0≤mf b m s i∧mf b m s i≤200000000000:=by
 have htab:=h.bv.cf;simp only[lB,af]at htab;refine NA (by omega) _ _ (ki.1 htab.2.1) ?_;have b5:=EV h.bv hi;have b1:=h.hold i hi;obtain⟨hx,b2,b3,b4⟩:=hs.at hi;have hst:=h.bv.bJ;have b6:b.bJ*((bS s i).m-hold b m i)≤100000000000:=by
  rcases n0 (hold b m i) (bS s i).m with hh | hh
  ·have:=pC (a:=b.bJ) (b:=(bS s i).m-hold b m i) (A:=100000) (B:=1000000) (by omega) hst.2 (by omega) (by omega);omega
  ·have:=pC (a:=b.bJ) (b:=hold b m i-(bS s i).m) (A:=100000) (B:=1000000) (by omega) hst.2 (by omega) (by omega);have e:b.bJ*((bS s i).m-hold b m i) = - (b.bJ*(hold b m i-(bS s i).m)):=by rw[← Int.mul_neg];congr 1;omega
   omega
 have b7:down (b.bJ*((bS s i).m-hold b m i)) (hold b m i)≤100000000000:=by
  unfold down;have:=Int.ediv_le_self (b:=hold b m i) (a:=b.bJ*((bS s i).m-hold b m i));rcases n0 0 (b.bJ*((bS s i).m-hold b m i))with hh | hh
  ·have:=this hh;omega
  ·have:=Int.ediv_le_of_le_mul (b:=0) (show 0<hold b m i by omega) (by omega:b.bJ*((bS s i).m-hold b m i)≤0*hold b m i);omega
 omega
theorem AZ{O:bR}{c c':cZ}(hc:c=c'){e:Env}{σ:SK}{Q:Abs.Exit→Env→SK→Prop}:WC O c e σ Q .mk .mk=WC O c' e σ Q .mk .mk:=by subst hc;rfl
def lpF(b:cC)(m:cX)(s:List Rock.aG)(L:Nat):yu :=
 {state:=0,ym:=none,env:=[(2,.bE [.int .i64 b.f.x,.int .i64 b.f.y,.int .i64 b.f.z,.int .i64 b.f.k,.aK b.cf.length (b.cf.flatMap Rw.enc),.int .i64 b.bJ,.int .i64 b.lift,.int .i64 b.deep,.aK b.av.length (b.av.flatMap bH.enc),.str m.name,.aK m.bg.length (m.bg.flatMap aU)]),(3,.bE [.aK s.length (s.flatMap aG.enc)]),(4,.undef),(5,.ref L 3 0 0),(6,.ref L 4 0 0)],params:=[18],Cb:=gZ,body:=hJ }
def stF(A B:Abs.aG)(b:cC)(m:cX)(s:List Rock.aG)(σ:SK)(es:List ((Nat×Nat)×Rock.aG)):SK :=
 [A,B,.cells 0 (Ig es),.cells 0 [.nO σ.length 2],.cells 0 [.aK (bX b m s).length ((bX b m s).flatMap aU)],.loop (lpF b m s σ.length)]::σ
theorem atr{A B:Abs.aG}{b:cC}{m:cX}{s:List Rock.aG}(h:Fv b m)(hs:Sv b s)(es:List ((Nat×Nat)×Rock.aG))(l:Nat×Nat)(h1:l.1<b.n)(h2:l.2<b.n):
  bw T (.round σ.length 5 [.agg [.int .i64 l.1,.int .i64 l.2]] ([]::stF A B b m s σ es))=some (.val (.bool true) ([]::stF A B b m s σ (qY b m s (bX b m s) es l))):=by
 have hn:=h.bv.n;have hl:=hs.len;have hp1:(bX b m s)[l.1]?=some (mf b m s l.1):=by simp[bX,hl,h1]
 have hp2:(bX b m s)[l.2]?=some (mf b m s l.2):=by simp[bX,hl,h2]
 have a1:=rI hp1;have a2:=rI hp2;have hpl:(bX b m s).length=b.n:=by rw[Sk,hl]
 have bp1:=Sl h hs h1;have bp2:=Sl h hs h2;have bw1:=EV h.bv h1;have bw2:=EV h.bv h2;have cw1:=fun σ=>Mm (σ:=σ) (m:=m) h.bv h1
 have cw2:=fun σ=>Mm (σ:=σ) (m:=m) h.bv h2
 have co1:=fun σ=>ai0 (σ:=σ) h.toMv h1
 have co2:=fun σ=>ai0 (σ:=σ) h.toMv h2
 have bo1:=h.OL l.1 h1;have bo2:=h.OL l.2 h2;obtain⟨x1,m1,m2,m3⟩:=hs.at h1;obtain⟨y1,n1,n2,n3⟩:=hs.at h2;have f1:=bQ (f:=aG.enc) (w:=3) (fun _=>rfl) x1;have f2:=bQ (f:=aG.enc) (w:=3) (fun _=>rfl) y1;have w1:=gQ (n:=mf b m s l.1-weight b l.1) (by omega);have w2:=gQ (n:=mf b m s l.1-weight b l.1-mf b m s l.2) (by omega);have w3:=gQ (n:=mf b m s l.1-weight b l.1-mf b m s l.2+weight b l.2) (by omega);have hL1:l.1<s.length:=by omega
 have hL2:l.2<s.length:=by omega
 have hE:qY b m s (bX b m s) es l=qY b m s (bX b m s) es l:=rfl
 conv at hE=>rhs;unfold qY R4
 simp only[hp1,hp2,gV]at hE;generalize qY b m s (bX b m s) es l=es' at *
 have hmin:0≤min (OL b m l.2) (OL b m l.1)∧min (OL b m l.2) (OL b m l.1)≤1000:=by omega
 have hmin':0≤min (OL b m l.1) (OL b m l.2)∧min (OL b m l.1) (OL b m l.2)≤1000:=by omega
 generalize hw1:weight b l.1=W1 at *
 generalize hw2:weight b l.2=W2 at *
 generalize hq1:mf b m s l.1=P1 at *
 generalize hq2:mf b m s l.2=P2 at *
 generalize hD:P1-W1-P2+W2=d at *
 refine Ur (lp:=lpF b m s σ.length) (by simp[stF]) rfl ?_;rw[show(lpF b m s σ.length).Cb=gZ from rfl,Bj,show(lpF b m s σ.length).body=hJ from rfl];by_cases hd:d<0
 ·simp only[hd,if_true]at hE;have b3:=pC hmin.1 hmin.2 (show 0 ≤ -d by omega) (show -d≤1000000000000 by omega);have w4:=gQ (n := -d) (by omega);have d1:=bC (b:=1000) b3.1;have d2:=bC (b:=8) (show 0≤(bS s l.2).m by omega);generalize hX:min (OL b m l.2) (OL b m l.1) * -d=X at *
  have w5:=gQ (n:=X) (by omega);generalize hY:X.tdiv 1000=Y at *
  generalize hZ:(bS s l.2).m.tdiv 8=Z at *
  have w6:=gQ (n:=Y) (by rw[d1];omega);have w7:=gQ (n:=Z) (by rw[d2];omega);by_cases hq:0<min Y Z
  ·have hO:=fun σ=>ai1 (σ:=σ) (q:=min Y Z) n1 n2 n3 ⟨by omega,by rw[d2];omega⟩
   have hP:=fun S h=>aph (S:=S) (l:=σ.length) (i:=2) (es:=es) (k:=(l.2,l.1)) (o:=(bS s l.2).out (min Y Z)) h
   rw[if_pos hq]at hE;simp only at hE;subst hE;generalize (bS s l.2).out (min Y Z)=O at *
   simp only[aG.enc]at hO;simp only[aG.enc,kyL]at hP;simp[-length_flatMap,-map_take,AZ kW,lpF,stF,aia,hpl,h1,h2,a1,a2,cw1,cw2,w1,w2,w3,hD,hd,co1,co2,hL1,hL2,f1,f2,w4,w5,w6,w7,hX,hY,hZ,hq,hO,hP]
  ·rw[if_neg hq]at hE;simp only at hE;subst hE;simp[-length_flatMap,-map_take,AZ kW,lpF,stF,aia,hpl,h1,h2,a1,a2,cw1,cw2,w1,w2,w3,hD,hd,co1,co2,hL1,hL2,f1,f2,w4,w5,w6,w7,hX,hY,hZ,hq]
 ·simp only[hd,if_false]at hE;have b3:=pC hmin'.1 hmin'.2 (show 0≤d by omega) (show d≤1000000000000 by omega);have w4:=gQ (n:=d) (by omega);have d1:=bC (b:=1000) b3.1;have d2:=bC (b:=8) (show 0≤(bS s l.1).m by omega);generalize hX:min (OL b m l.1) (OL b m l.2)*d=X at *
  have w5:=gQ (n:=X) (by omega);generalize hY:X.tdiv 1000=Y at *
  generalize hZ:(bS s l.1).m.tdiv 8=Z at *
  have w6:=gQ (n:=Y) (by rw[d1];omega);have w7:=gQ (n:=Z) (by rw[d2];omega);by_cases hq:0<min Y Z
  ·have hO:=fun σ=>ai1 (σ:=σ) (q:=min Y Z) m1 m2 m3 ⟨by omega,by rw[d2];omega⟩
   have hP:=fun S h=>aph (S:=S) (l:=σ.length) (i:=2) (es:=es) (k:=l) (o:=(bS s l.1).out (min Y Z)) h
   rw[if_pos hq]at hE;simp only at hE;subst hE;generalize (bS s l.1).out (min Y Z)=O at *
   simp only[aG.enc]at hO;simp only[aG.enc,kyL]at hP;simp[-length_flatMap,-map_take,AZ kW,lpF,stF,aia,hpl,h1,h2,a1,a2,cw1,cw2,w1,w2,w3,hD,hd,co1,co2,hL1,hL2,f1,f2,w4,w5,w6,w7,hX,hY,hZ,hq,hO,hP]
  ·rw[if_neg hq]at hE;simp only at hE;subst hE;simp[-length_flatMap,-map_take,AZ kW,lpF,stF,aia,hpl,h1,h2,a1,a2,cw1,cw2,w1,w2,w3,hD,hd,co1,co2,hL1,hL2,f1,f2,w4,w5,w6,w7,hX,hY,hZ,hq]
theorem aqi{A B:Abs.aG}{b:cC}{m:cX}{s:List Rock.aG}(h:Fv b m)(hs:Sv b s):∃X Y Z:Abs.aG,
  bw T (.call true l6 [.agg [.int .i64 b.f.x,.int .i64 b.f.y,.int .i64 b.f.z,.int .i64 b.f.k,.aK b.cf.length (b.cf.flatMap Rw.enc),.int .i64 b.bJ,.int .i64 b.lift,.int .i64 b.deep,.aK b.av.length (b.av.flatMap bH.enc),.str m.name,.aK m.bg.length (m.bg.flatMap aU)],.aK s.length (s.flatMap aG.enc)] ([A,B]::σ))=some (.val (.nO σ.length 2) ([A,B,.cells 0 (Ig (xd b m s)),X,Y,Z]::σ)):=by
 refine⟨.cells 0 [.nO σ.length 2],.cells 0 [.aK (bX b m s).length ((bX b m s).flatMap aU)],.loop {lpF b m s σ.length with state:=3 },?_⟩;refine yi FA Gg rfl ?_;have hp:=fun σ hσ=>SZ (σ:=σ) h hs hσ
 have hl:=aiV (b:=b) h.bv (lv:=σ.length) (j:=5) (N:=σ.length+1) (St:=fun pre=>stF A B b m s σ (pre.foldl (qY b m s (bX b m s)) [])) (fun pre=>by simp[stF])
  (fun pre l h1 h2 _=>by rw[List.foldl_append];exact atr h hs _ l h1 h2)
 have hm:DE ([A,B]::σ) .make []=some (.nO σ.length 2,[A,B,.cells 0 (Ig [])]::σ):=by simp[DE,Ig]
 simp[-length_flatMap,-map_take,hp,aqm,cM,bu,bA,M3,hm];refine agn (d:=.ez []) (σ2:=stF A B b m s σ (xd b m s)) (lp:=lpF b m s σ.length) (by simp;exact⟨rfl,rfl,rfl⟩) ?_ (by simp[stF]) (by simp[lpF]) ?_
 ·simpa[lpF,stF,xd]using hl
 ·simp[-length_flatMap,-map_take,lpF,stF]
end Go.Proofs.YtfgljaglidhjiaaGreatDoor
namespace Go.Proofs.YtfgljaglidhjiaaGreatDoor
open List(length_flatMap map_take)
open Go Go.Abs Go.Rock
def E2(N:Int)(s:List Rock.aG):Prop:=∀x∈s,sm x N
theorem lA{x:Rock.aG}{N M:Int}(h:sm x N)(hN:N≤M):sm x M:=by
 obtain⟨h1,h2,h3⟩:=h;exact⟨⟨by omega,by omega⟩,⟨by omega,by omega⟩,⟨by omega,by omega⟩⟩
theorem MX{N:Int}{s:List Rock.aG}(h:E2 N s){i:Nat}(hi:i<s.length):s[i]?=some (bS s i)∧sm (bS s i) N:=by
 have h2:s[i]?=some (bS s i):=by simp[bS,hi]
 exact⟨h2,h _ (an h2)⟩
theorem Jm{s:List Rock.aG}{i:Nat}{o:Rock.aG}{sign:Int}:(iY s i o sign).length=s.length:=by simp[iY]
theorem Bu{N M:Int}{s:List Rock.aG}(h:E2 N s){i:Nat}{o:Rock.aG}{sign:Int}(ho:sm o M)(hs:sign=1∨sign = -1)(hM:0≤M):E2 (N+M) (iY s i o sign):=by
 intro x hx;unfold iY at hx;by_cases hi:i<s.length
 ·rcases List.mem_or_eq_of_mem_set hx with hx | rfl
  ·exact lA (h x hx) (by omega)
  ·obtain⟨a1,a2,a3⟩:=(MX h hi).2;obtain⟨b1,b2,b3⟩:=ho;rcases hs with rfl | rfl
   ·exact⟨⟨by simp only[Rock.aG.move];omega,by simp only[Rock.aG.move];omega⟩,⟨by simp only[Rock.aG.move];omega,by simp only[Rock.aG.move];omega⟩,⟨by simp only[Rock.aG.move];omega,by simp only[Rock.aG.move];omega⟩⟩
   ·exact⟨⟨by simp only[Rock.aG.move];omega,by simp only[Rock.aG.move];omega⟩,⟨by simp only[Rock.aG.move];omega,by simp only[Rock.aG.move];omega⟩,⟨by simp only[Rock.aG.move];omega,by simp only[Rock.aG.move];omega⟩⟩
 ·rw[List.set_eq_of_length_le (by omega)]at hx;exact lA (h x hx) (by omega)
theorem E8{s:List Rock.aG}{i j:Nat}{o p:Rock.aG}{a c:Int}:iY (iY s i o a) j p c=iY (iY s j p c) i o a:=by
 by_cases hij:i=j
 ·subst hij;by_cases hi:i<s.length
  ·simp only[iY,bS,List.getElem?_set_self hi,gV,List.set_set,Rock.aG.move];congr 2<;>omega
  ·simp only[iY,List.set_eq_of_length_le (show s.length≤i by omega)]
 ·have hji:¬j=i:=fun h=>hij h.symm
  simp only[iY,bS,List.getElem?_set_ne hij,List.getElem?_set_ne hji];rw[List.set_comm _ _ hij]
theorem ahV{s:List Rock.aG}{e f:(Nat×Nat)×Rock.aG}:eW (eW s e) f=eW (eW s f) e:=by
 unfold eW;rw[E8 (i:=e.1.2) (j:=f.1.1),E8 (i:=e.1.1) (j:=f.1.1),E8 (i:=e.1.2) (j:=f.1.2),E8 (i:=e.1.1) (j:=f.1.2)]
theorem TS{s:List Rock.aG}{e:(Nat×Nat)×Rock.aG}:(eW s e).length=s.length:=by simp[eW,Jm]
def OQ(es:List ((Nat×Nat)×Rock.aG))(s:List Rock.aG)(j:Nat):List Rock.aG:=match es[j]? with | some e=>eW s e | none=>s
theorem apM{es:List ((Nat×Nat)×Rock.aG)}{s:List Rock.aG}{i j:Nat}:OQ es (OQ es s i) j=OQ es (OQ es s j) i:=by
 unfold OQ;cases es[i]? <;> cases es[j]? <;> simp[ahV]
theorem arQ{es:List ((Nat×Nat)×Rock.aG)}{s:List Rock.aG}{j:Nat}:(OQ es s j).length=s.length:=by
 unfold OQ;split<;>simp[TS]
theorem PI:∀(es:List ((Nat×Nat)×Rock.aG)) (s:List Rock.aG) (n:Nat),n≤es.length→(List.range n).foldl (OQ es) s=(es.take n).foldl eW s
 |es,s,0,_=>by simp
 |es,s,n+1,h=>by
  obtain⟨e,he⟩:∃e,es[n]?=some e:=gE (by omega);rw[List.range_succ,List.foldl_append,PI es s n (by omega),List.take_add_one,he,List.foldl_append];simp[OQ,he]
theorem arP{es:List ((Nat×Nat)×Rock.aG)}{s:List Rock.aG}{js:List Nat}(hd:js.Nodup)(hm:∀j,j∈js↔j<es.length):js.foldl (OQ es) s=es.foldl eW s:=by
 have hp:js.Perm (List.range es.length):=(List.perm_ext_iff_of_nodup hd List.nodup_range).2 fun a=>by simp[hm]
 rw[hp.foldl_eq' (fun x _ y _ z=>apM),PI es s es.length (aL _),ar (aL _)]
theorem ah7{b:cC}:(Ps b).length≤3*b.n:=by
 have key:∀l:List Nat,(l.flatMap (zO b)).length≤3*l.length:=by
  intro l;induction l with
  |nil=>simp
  |cons i l ih =>
   rw[ba,bT,aO];have:(zO b i).length≤3:=by
    unfold zO;simp only[bT];split<;>split<;>split<;>simp
   omega
 have:=key (List.range b.n);rw[List.length_range]at this;exact this
theorem ao4{b:cC}(h:Bv b){l:Nat×Nat}(hl:l∈Ps b):l.1<b.n∧l.2<b.n:=by
 obtain⟨hnn,X1,Y1⟩:=h.nat;obtain⟨i,hi,hh⟩:=List.mem_flatMap.1 hl;have h1:i<b.n:=by simpa using hi
 unfold zO at hh;simp only[bz]at hh;rcases hh with hh | hh | hh
 ·split at hh
  ·rename_i hc;simp at hh;subst hh;exact⟨h1,asr (W:=b.f.y.toNat*b.f.z.toNat) (by rw[hnn,Nat.mul_assoc]) h1 hc⟩
  ·cases hh
 ·split at hh
  ·rename_i hc;simp at hh;subst hh;exact⟨h1,link2 (Z:=b.f.z.toNat) X1 Y1 hnn h1 hc⟩
  ·cases hh
 ·split at hh
  ·rename_i hc;simp at hh;subst hh;exact⟨h1,hc⟩
  ·cases hh
def Flw(b:cC)(e:(Nat×Nat)×Rock.aG):Prop:=(e.1.1<b.n∧e.1.2<b.n)∧sm e.2 1000000000000
theorem afD{x:Rock.aG}{q:Int}(hm:1≤x.m∧x.m≤1000000)(hh:0≤x.h∧x.h≤10000000000)(hk:0≤x.k∧x.k≤1000000000000)(hq:0≤q∧q≤x.m):sm (x.out q) 1000000000000:=by
 have b3:=Pz hm.1 hh hq;have b4:=Pz hm.1 hk hq;exact⟨⟨by simp only[Rock.aG.out];omega,by simp only[Rock.aG.out];omega⟩,⟨by simp only[Rock.aG.out];omega,by simp only[Rock.aG.out];omega⟩,⟨by simp only[Rock.aG.out];omega,by simp only[Rock.aG.out];omega⟩⟩
theorem ahU{b:cC}{m:cX}{s:List Rock.aG}(hs:Sv b s){p:List Int}{l:Nat×Nat}(h1:l.1<b.n)(h2:l.2<b.n){e:(Nat×Nat)×Rock.aG}(he:R4 b m s p l=some e):Flw b e:=by
 unfold R4 at he;simp only at he;generalize hd:(p[l.1]?).getD 0-weight b l.1-(p[l.2]?).getD 0+weight b l.2=d at he;generalize hl':(if d<0 then(l.2,l.1)else l)=l' at he;generalize hd':(if d<0 then -d else d)=d' at he;have hll:l'.1<b.n∧l'.2<b.n:=by
  rw[← hl'];split<;>exact⟨by assumption,by assumption⟩
 obtain⟨_,m1,m2,m3⟩:=hs.at hll.1;split at he
 ·rename_i hq;simp only[ae]at he;subst he;have d2:=bC (b:=8) (show 0≤(bS s l'.1).m by omega);exact⟨hll,afD m1 m2 m3 ⟨by omega,by rw[d2];omega⟩⟩
 ·cases he
theorem arz{b:cC}{es:List ((Nat×Nat)×Rock.aG)}{k:Nat×Nat}{o:Rock.aG}(h:∀e∈es,Flw b e)(ho:Flw b (k,o)):(∀e∈ail es k o,Flw b e)∧(ail es k o).length≤es.length+1:=by
 unfold ail;split
 ·constructor
  ·intro e he;rcases List.mem_or_eq_of_mem_set he with he | rfl
   ·exact h e he
   ·exact ho
  ·simp
 ·constructor
  ·intro e he;rcases bz.1 he with he | he
   ·exact h e he
   ·simp at he;subst he;exact ho
  ·simp
theorem TU{b:cC}{m:cX}{s:List Rock.aG}(h:Bv b)(hs:Sv b s):(∀e∈xd b m s,Flw b e)∧(xd b m s).length≤192:=by
 have key:∀(ls:List (Nat×Nat)) (es:List ((Nat×Nat)×Rock.aG)),(∀l∈ls,l.1<b.n∧l.2<b.n)→(∀e∈es,Flw b e)→(∀e∈ls.foldl (qY b m s (bX b m s)) es,Flw b e)∧(ls.foldl (qY b m s (bX b m s)) es).length≤es.length+ls.length:=by
  intro ls;induction ls with
  |nil=>intro es _ h;exact⟨h,by simp⟩
  |cons l ls ih =>
   intro es hl he;have hl0:=hl l (by simp);simp only[List.foldl_cons];have h1:(∀e∈qY b m s (bX b m s) es l,Flw b e)∧(qY b m s (bX b m s) es l).length≤es.length+1:=by
    unfold qY;split
    ·rename_i e hfe;exact arz he (ahU hs hl0.1 hl0.2 hfe)
    ·exact⟨he,by omega⟩
   obtain⟨h2,h3⟩:=ih _ (fun l hh=>hl l (by simp[hh])) h1.1;exact⟨h2,by simp only[aO];omega⟩
 obtain⟨h1,h2⟩:=key (Ps b) [] (fun l hl=>ao4 h hl) (by simp);have:=@ah7 b;have hn:=h.n;exact⟨h1,by simp only[bO]at h2;unfold xd;omega⟩
theorem TR{b:cC}{N:Int}{s:List Rock.aG}{e:(Nat×Nat)×Rock.aG}(h:E2 N s)(he:Flw b e):E2 (N+2000000000000) (eW s e):=by
 have h1:=Bu (i:=e.1.1) (sign := -1) h he.2 (.inr rfl) (by omega);have h2:=Bu (i:=e.1.2) (sign:=1) h1 he.2 (.inl rfl) (by omega);unfold eW;rw[show N+2000000000000=N+1000000000000+1000000000000 by omega];exact h2
theorem ahd{b:cC}{es:List ((Nat×Nat)×Rock.aG)}(hes:∀e∈es,Flw b e):∀(js:List Nat) (s:List Rock.aG) (N:Int),E2 N s→E2 (N+2000000000000*js.length) (js.foldr (fun j s=>OQ es s j) s)
 |[],s,N,h=>by simpa using h
 |j::js,s,N,h=>by
  have ih:=ahd hes js s N h;simp only[List.foldr_cons,aO];generalize js.foldr (fun j s=>OQ es s j) s=s1 at *
  unfold OQ;split
  ·rename_i e he;have:=TR ih (hes e (an he));intro x hx;exact lA (this x hx) (by push_cast;omega)
  ·intro x hx;exact lA (ih x hx) (by push_cast;omega)
theorem Sv.E2{b:cC}{s:List Rock.aG}(h:Sv b s):E2 1000000000000 s:=by
 intro x hx;obtain⟨h1,h2,h3⟩:=aG.Sg.1 (h.ok x hx);exact⟨⟨by omega,by omega⟩,⟨by omega,by omega⟩,⟨by omega,by omega⟩⟩
end Go.Proofs.YtfgljaglidhjiaaGreatDoor
namespace Go.Abs
open List(length_flatMap map_take)
open Go
variable {T:Ak}
theorem AP{F:List aG}:∀{σ:SK} {lv:Nat},gk σ lv=some F→lv<σ.length
 |[],lv,h=>by simp[gk]at h
 |s::σ,lv,h=>by
  simp only[gk]at h;split at h
  ·rename_i h1;simp;omega
  ·have:=AP h;simp;omega
section
variable {α:Type} {w:Nat} {enc:α→List D} (hw:∀x,(enc x).length=w) {p:α→Bool} {fv:D} {l:List α} {lv bi v:Nat} {F:List aG}
include hw in
theorem Nt(hF:F[bi]?=some (.cells v (l.flatMap enc)))(hl:l.length≤9223372036854775807)(ht:rE T fv (fun x => .agg (enc x)) p l){σ:SK}(hs:gk σ lv=some F):∀(m i:Nat),i+m=l.length →
  WL T [0,1,7,8] false (Ns true w) [(0,.sl lv bi v 0 l.length w),(1,fv),(7,.int .i64 l.length),(8,.int .i64 i)] σ
   (fun x e σ'=>σ'=σ∧if idxOf p (l.drop i)<0 then x=.exit 0 else x=.ret∧get e 4=.int .i64 (i+idxOf p (l.drop i)))
 |0,i,hi=>by
  obtain⟨h1,h2,h3⟩:=ht;refine aM (Ns.eq_1 _ _) ?_;have:¬i<l.length:=by omega
  have h5:l.drop i=[]:=by simp;omega
  simp[this,h1,h2,h5,idxOf]
 |m+1,i,hi=>by
  have ih:=Nt hF hl ht hs m (i+1) (by omega);obtain⟨h1,h2,h3⟩:=ht;refine aM (Ns.eq_1 _ _) ?_;have h4:i<l.length:=by omega
  obtain⟨x,hx⟩:=gE h4;have h5:=HZ (f:=enc) hw hx;have h6:=h3 x (an hx) σ;have h7:=fK h4 hl;have h8:l.drop i=x::l.drop (i+1):=dG hx;have e1:∀r:List D,(enc x++r).take w=enc x:=fun r=>by rw[← hw x];simp
  have e2:∀r:Nat,w≤(enc x).length+r:=fun r=>by rw[hw];omega
  cases hp:p x
  ·rw[hp]at h6;simp[h4,h1,h2,h5,h6,h7,hs,hF,e1,e2];refine WL.mono (by simpa using ih) ?_;rintro x e σ' ⟨h9,h10⟩;refine⟨h9,?_⟩;rw[h8];simp only[idxOf,hp,aB,if_false];by_cases h11:idxOf p (l.drop (i+1))<0
   ·simpa[h11]using h10
   ·rw[if_neg h11]at h10;rw[if_neg h11,if_neg (by omega)];refine⟨h10.1,?_⟩;rw[h10.2];congr 1;push_cast;omega
  ·rw[hp]at h6;simp[h4,h1,h2,h5,h6,h7,hs,hF,e1,e2,h8,idxOf,hp]
include hw in
theorem afp{f:Nat}(hT:T f=some (vT true w))(hF:F[bi]?=some (.cells v (l.flatMap enc)))(hl:l.length≤9223372036854775807)(ht:rE T fv (fun x => .agg (enc x)) p l){σ:SK}(hs:gk σ lv=some F):
  bw T (.call false f [.sl lv bi v 0 l.length w,fv] σ)=some (.val (.int .i64 (idxOf p l)) σ):=by
 refine aD hT (vT.eq_1 _ _) rfl ?_;have hlt:=AP hs;have h:=Nt hw hF hl ht (lv:=lv) (F:=F) (σ:=[]::σ) (by simp[gk,hs,show ¬σ.length=lv by omega]) l.length 0 (by simp);obtain⟨h1,h2,h3⟩:=ht;simp[h1,h2];refine WL.mono (by simpa using h) ?_;rintro x e σ' ⟨rfl,h10⟩
 try simp only[aS]at h10
 by_cases h11:idxOf p l<0
 ·rw[if_pos h11]at h10;subst h10;have:idxOf p l = -1:=by
   cases l with
   |nil=>rfl
   |cons a l =>
    simp only[idxOf]at h11 ⊢;split at h11<;>rename_i ha
    ·omega
    ·rw[if_neg ha];split at h11<;>rename_i hb
     ·rw[if_pos hb]
     ·omega
  simp[this]
 ·rw[if_neg h11]at h10;obtain⟨rfl,h12⟩:=h10
  try simp at h12
  simp[h12]
include hw in
theorem Gw{f i:Nat}(hT:T f=some (jP i))(hi:T i=some (vT true w))(hF:F[bi]?=some (.cells v (l.flatMap enc)))(hl:l.length≤9223372036854775807)(ht:rE T fv (fun x => .agg (enc x)) p l){σ:SK}(hs:gk σ lv=some F):
  bw T (.call false f [.sl lv bi v 0 l.length w,fv] σ)=some (.val (.bool (sN l p)) σ):=by
 refine aD hT (jP.eq_1 _) rfl ?_;have hlt:=AP hs;have h:=afp hw hi hF hl ht (lv:=lv) (F:=F) (σ:=[]::σ) (by simp[gk,hs,show ¬σ.length=lv by omega]);obtain⟨h1,h2,h3⟩:=ht;have h4:decide (0≤idxOf p l)=sN l p:=by
  unfold sN;have h6:=Kw (p:=p) (l:=l);cases h5:l.any p
  ·have:=h6.2 h5;exact decide_eq_false (by omega)
  ·exact decide_eq_true (by
    have:¬idxOf p l<0:=fun h=>by rw[h6.1 h]at h5;cases h5
    omega)
 simp[h1,h2,h,h4]
include hw in
theorem MT{f g h i:Nat}(hf:T f=some (IN g h))(hg:T g=some (Aw true w))(hh:T h=some (jP i))(hi:T i=some (vT true w))
  (hF:F[bi]?=some (.cells v (l.flatMap enc))) (hl:l.length≤9223372036854775807) (ht:rE T fv (fun x => .agg (enc x)) p l) (hcl:fv.cells=some [fv]) {σ:SK} (hs:gk σ lv=some F):
  bw T (.call false f [.sl lv bi v 0 l.length w,fv] σ)=some (.val (.bool (gW l p)) σ):=by
 refine aD hf (IN.eq_1 _ _) rfl ?_;have hlt:=AP hs;have h:=Gw hw hh hi hF hl (agq (yU w enc hw) hg ht) (lv:=lv) (F:=F) (σ:=[]::σ) (by simp[gk,hs,show ¬σ.length=lv by omega]);obtain⟨h1,h2,h3⟩:=ht;have h4:(sN l fun x => !p x) = !gW l p:=by
  unfold sN gW;rw[List.all_eq_not_any_not,Bool.not_not]
 simp[h1,h2,h,h4,hcl]
end
end Go.Abs
namespace Go.Proofs.YtfgljaglidhjiaaGreatDoor
open List(length_flatMap map_take)
open Go Go.Abs Go.Rock
variable {σ:SK}
theorem ahy{b:cC}{m:cX}{s:List Rock.aG}(h:Bv b){lv bi v:Nat}{F:List Abs.aG}(hF:F[bi]?=some (.cells v (s.flatMap aG.enc)))(hs:gk σ lv=some F)(hl:s.length=b.n):
  bw T (.call false l7 [.agg [.int .i64 b.f.x,.int .i64 b.f.y,.int .i64 b.f.z,.int .i64 b.f.k,.aK b.cf.length (b.cf.flatMap Rw.enc),.int .i64 b.bJ,.int .i64 b.lift,.int .i64 b.deep,.aK b.av.length (b.av.flatMap bH.enc),.str m.name,.aK m.bg.length (m.bg.flatMap aU)],.sl lv bi v 0 s.length 3] σ)=some (.val (.bool (zY b s)) σ):=by
 refine aD FB Gh rfl ?_;have hlt:=AP hs;have hz:=h.sz;have hn:=h.n;have hsz:=fun σ=>AT (σ:=σ) h
 have ha:=MT (T:=T) (w:=3) (enc:=aG.enc) (fun _=>rfl) (f:=nK) (g:=lk) (h:=fa) (i:=gj) (l:=s) (p:=Rock.aG.valid) (fv:=.fn jX [] []) rfl rfl rfl rfl hF (by omega) (rE.fn fun x _ σ=>U2) rfl (lv:=lv) (F:=F) (σ:=[]::σ) (by simp[gk,hs,show ¬σ.length=lv by omega]);unfold zY;have hc3:((b.n:Nat):Int)=b.size:=hz.symm;rw[hl]at ha ⊢;cases hc:gW s Rock.aG.valid<;>simp[-length_flatMap,-map_take,hsz,hl,ha,hc,hc3]
def jsD(js:List Nat):List D:=js.map fun j => .int .i64 (j:Nat)
def usL(n:Nat)(js:List Nat):List Nat:=(List.range n).filter fun j => !(js.contains j)
theorem aq9{js:List Nat}{j:Nat}:D.int .i64 (j:Nat)∈jsD js↔j∈js:=by
 simp only[jsD,bU];constructor
 ·rintro⟨a,h1,h2⟩;simp only[D.int.injEq,true_and]at h2;have:a=j:=by omega
  exact this ▸ h1
 ·intro h;exact⟨j,h,rfl⟩
def OE(b:cC)(m:cX)(s:List Rock.aG)(aR:List Int)(L:Nat):Env :=
 [(1,.aK s.length (s.flatMap aG.enc)),(2,.aK aR.length (aR.flatMap aU)),(3,.bE [.int .i64 b.f.x,.int .i64 b.f.y,.int .i64 b.f.z,.int .i64 b.f.k,.aK b.cf.length (b.cf.flatMap Rw.enc),.int .i64 b.bJ,.int .i64 b.lift,.int .i64 b.deep,.aK b.av.length (b.av.flatMap bH.enc),.str m.name,.aK m.bg.length (m.bg.flatMap aU)]),(9,.sl L 1 1 0 s.length 3),(23,.nO L 6)]
def stT(A X Y Z:Abs.aG)(σ:SK)(es:List ((Nat×Nat)×Rock.aG))(s:List Rock.aG)(it:Abs.aG):SK :=
 [A,.cells 1 (s.flatMap aG.enc),.cells 0 (Ig es),X,Y,Z,it]::σ
def itB(L n:Nat)(js:List Nat):Abs.aG:=.cells 1 (.nO L 2::.int .i64 (n:Nat)::jsD js)
theorem aoU{A X Y Z:Abs.aG}{es:List ((Nat×Nat)×Rock.aG)}{s:List Rock.aG}{js:List Nat}:
  Lc (stT A X Y Z σ es s (itB σ.length es.length js)) σ.length 6=some (.nO σ.length 2,es.length,jsD js,usL es.length js):=by
 have hl:(Ig es).length=es.length:=by simp[Ig]
 simp[Lc,stT,itB,DD,hl,usL,aq9]
theorem aCt{n:Nat}{js:List Nat}{u:Nat}(hu:u∈usL n js):(usL n (u::js)).length<(usL n js).length:=by
 have e:usL n (u::js)=(usL n js).filter fun j => !decide (j=u):=by
  unfold usL;rw[List.filter_filter];congr 1;funext j;simp[List.contains_cons,Bool.not_or]
 rw[e,List.length_filter_lt_length_iff_exists];exact⟨u,hu,by simp⟩
theorem atl{b:cC}{m:cX}{s:List Rock.aG}{aR:List Int}{A X Y Z:Abs.aG}{es:List ((Nat×Nat)×Rock.aG)}{r:R}(hs:Sv b s)(hes:∀e∈es,Flw b e)(hel:es.length≤192)
  (hr:WC (bw T) fN ((25,.bool false)::(24,.undef)::OE b m s aR σ.length) (stT A X Y Z σ es (es.foldl eW s) .dead) fun x e' σ'=>r=.Gx x e' σ'):
  ∀(k:Nat) (js:List Nat),js.Nodup→(∀j∈js,j<es.length)→(usL es.length js).length=k →
   bw T (.j7 [1,2,3,9,23] (.t 23) 24 25 0 nJ fN (OE b m s aR σ.length) (stT A X Y Z σ es (js.foldr (fun j s=>OQ es s j) s) (itB σ.length es.length js)))=some r:=by
 intro k;induction k using Nat.strongRecOn with
 |_ k ih =>
 intro js hd hj hk;by_cases hus:usL es.length js=[]
 ·have hall:∀j,j∈js↔j<es.length:=by
   intro j;refine⟨hj j,fun hlt=>?_⟩;have h1:j ∉ usL es.length js:=by rw[hus];simp
   simpa[usL,hlt]using h1
  have hfin:js.foldr (fun j s=>OQ es s j) s=es.foldl eW s:=by
   rw[← arP (js:=js.reverse) ((List.reverse_perm js).nodup_iff.2 hd) (fun j=>by simp[hall]),List.foldl_reverse]
  rw[hfin];have hit:=aoU (σ:=σ) (A:=A) (X:=X) (Y:=Y) (Z:=Z) (es:=es) (s:=es.foldl eW s) (js:=js);rw[hus]at hit;refine aib vP rfl (by simp[OE]) hit ?_;simp[stT,OE,itB]at hr ⊢;exact hr
 ·have hit:=aoU (σ:=σ) (A:=A) (X:=X) (Y:=Y) (Z:=Z) (es:=es) (s:=js.foldr (fun j s=>OQ es s j) s) (js:=js);refine apf vP rfl (by simp[OE]) hit hus ?_;intro u hu;have hu2:u<es.length∧u ∉ js:=by simpa[usL]using hu
  obtain⟨e,he⟩:∃e,es[u]?=some e:=⟨_,aP hu2.1⟩;have hf:=hes e (an he);have hnext:=ih _ (by rw[← hk];exact aCt hu) (u::js) (List.nodup_cons.2 ⟨hu2.2,hd⟩) (by intro j hjm;rcases bq.1 hjm with rfl | hjm;exact hu2.1;exact hj j hjm) rfl;have hb:=ahd hes js s 1000000000000 hs.E2;have hjl:js.length≤192:=by
   have h1:js.length≤es.length:=by
    have:=hd.length_le_of_subset (l₂:=List.range es.length) (fun j hjm=>by simpa using hj j hjm);simpa using this
   omega
  have hlen:(js.foldr (fun j s=>OQ es s j) s).length=b.n:=by
   have:∀js:List Nat,(js.foldr (fun j s=>OQ es s j) s).length=s.length:=by
    intro js;induction js with
    |nil=>rfl
    |cons a l ih=>simp only[List.foldr_cons,arQ];exact ih
   rw[this,hs.len]
  simp only[List.foldr_cons]at hnext;generalize hs1:js.foldr (fun j s=>OQ es s j) s=s1 at *
  have hstp:OQ es s1 u=iY (iY s1 e.1.1 e.2 (-1)) e.1.2 e.2 1:=by simp[OQ,he,eW]
  rw[hstp]at hnext;have hbn:E2 400000000000000 s1:=fun x hx=>lA (hb x hx) (by omega)
  have hb1:=Bu (i:=e.1.1) (sign := -1) hbn hf.2 (.inr rfl) (by omega);obtain⟨x1,y1⟩:=MX hbn (i:=e.1.1) (by have:=hf.1.1;omega);obtain⟨x2,y2⟩:=MX hb1 (i:=e.1.2) (by rw[Jm];have:=hf.1.2;omega);have hM1:∀I,bw T (.call false ck [.ref σ.length 1 1 (e.1.1*3),.agg [.int .i64 e.2.m,.int .i64 e.2.h,.int .i64 e.2.k],.int .i64 (-1)] ([A,.cells 1 (s1.flatMap aG.enc),.cells 0 (Ig es),X,Y,Z,I]::σ)) =
    some (.val (.ez []) ([A,.cells 1 ((iY s1 e.1.1 e.2 (-1)).flatMap aG.enc),.cells 0 (Ig es),X,Y,Z,I]::σ)) :=
   fun I=>Mj (F:=[A,.cells 1 (s1.flatMap aG.enc),.cells 0 (Ig es),X,Y,Z,I]) (j:=1) rfl x1 (lA y1 (by omega)) (lA hf.2 (by omega)) (.inr rfl)
  have hM2:∀I,bw T (.call false ck [.ref σ.length 1 1 (e.1.2*3),.agg [.int .i64 e.2.m,.int .i64 e.2.h,.int .i64 e.2.k],.int .i64 1] ([A,.cells 1 ((iY s1 e.1.1 e.2 (-1)).flatMap aG.enc),.cells 0 (Ig es),X,Y,Z,I]::σ)) =
    some (.val (.ez []) ([A,.cells 1 ((iY (iY s1 e.1.1 e.2 (-1)) e.1.2 e.2 1).flatMap aG.enc),.cells 0 (Ig es),X,Y,Z,I]::σ)) :=
   fun I=>Mj (F:=[A,.cells 1 ((iY s1 e.1.1 e.2 (-1)).flatMap aG.enc),.cells 0 (Ig es),X,Y,Z,I]) (j:=1) rfl x2 (lA y2 (by omega)) (lA hf.2 (by omega)) (.inl rfl)
  have hfe:(Ig es)[u]?=some (.ez [.agg [.int .i64 e.1.1,.int .i64 e.1.2],.agg [.int .i64 e.2.m,.int .i64 e.2.h,.int .i64 e.2.k]]):=by simp[Ig,he]
  have hfl:(Ig es).length=es.length:=by simp[Ig]
  have hE:DE ([A,.cells 1 (s1.flatMap aG.enc),.cells 0 (Ig es),X,Y,Z,.cells 1 (.nO σ.length 2::.int .i64 (es.length:Nat)::.int .i64 (u:Nat)::jsD js)]::σ) .ent [.nO σ.length 6] =
    some (.ez [.agg [.int .i64 e.1.1,.int .i64 e.1.2],.agg [.int .i64 e.2.m,.int .i64 e.2.h,.int .i64 e.2.k]],[A,.cells 1 (s1.flatMap aG.enc),.cells 0 (Ig es),X,Y,Z,.cells 1 (.nO σ.length 2::.int .i64 (es.length:Nat)::.int .i64 (u:Nat)::jsD js)]::σ):=by
   simp[DE,DD,hfl,hfe]
  have hi1:e.1.1<s.length:=by have:=hf.1.1;have:=hs.len;omega
  have hi2:e.1.2<s.length:=by have:=hf.1.2;have:=hs.len;omega
  simp[-length_flatMap,-map_take,OE,stT,itB,hE,hM1,hM2,hi1,hi2,cM,bu,bA,M3];simpa[OE,stT,itB,jsD]using hnext
theorem NT{b:cC}(h:Bv b):∀w∈b.av,(0≤w.b∧w.b<(b.n:Int))∧(0≤w.h∧w.h≤3000)∧(0≤w.m∧w.m≤1000000):=by
 have key:∀(l:List bH) (u:List Int),vy b.size u l=true→∀w∈l,(0≤w.b∧w.b<(b.n:Int))∧(0≤w.h∧w.h≤3000)∧(0≤w.m∧w.m≤1000000):=by
  intro l;induction l with
  |nil=>intro u _ w hw;cases hw
  |cons a l ih =>
   intro u hu w hw;simp only[vy,bH.ok,af]at hu;obtain⟨⟨h1,h2,h3,h4⟩,h5⟩:=hu;rcases bq.1 hw with rfl | hw
   ·have hs:=h.sz;have:=bf.1 h1;unfold cC.size at this;exact⟨⟨this.1,by omega⟩,bf.1 h3,bf.1 h4⟩
   ·exact ih _ h5 w hw
 exact key _ _ h.ok
theorem mulR{a r A R:Int}(ha:0≤a∧a≤A)(hr : -R≤r∧r≤R) : -(R*A)≤r*a∧r*a≤R*A:=by
 rcases n0 0 r with h | h
 ·have:=pC h hr.2 ha.1 ha.2;have h2:=fq (show 0≤R by omega) (show 0≤A by omega);omega
 ·have:=pC (a := -r) (A:=R) (by omega) (by omega) ha.1 ha.2;rw[Int.neg_mul]at this;have h2:=fq (show 0≤R by omega) (show 0≤A by omega);omega
theorem TX{w:bH}{r:Int}(hr : -100000≤r∧r≤100000)(h1:0≤w.h∧w.h≤3000)(h2:0≤w.m∧w.m≤1000000):sm (w.given r) 1000000000000:=by
 have b1:=mulR h1 hr;have b2:=mulR h2 hr;exact⟨⟨by simp only[bH.given];omega,by simp only[bH.given];omega⟩,⟨by simp only[bH.given,Int.neg_mul];omega,by simp only[bH.given,Int.neg_mul];omega⟩,⟨by simp only[bH.given,Int.neg_mul];omega,by simp only[bH.given,Int.neg_mul];omega⟩⟩
theorem aoB{b:cC}{m:cX}(h:Fv b m){i:Nat}(hi:i<b.n):sm (fed b m i) 1000000000000:=by
 have b1:=h.feed i hi;have b2:=h.bv.deep;have b3:=pC b1.1 b1.2 b2.1 b2.2;exact⟨⟨by simp only[fed];omega,by simp only[fed];omega⟩,⟨by simp only[fed];omega,by simp only[fed];omega⟩,⟨by simp[fed],by simp[fed]⟩⟩
def ff(b:cC)(s s1:List Rock.aG)(aR:List Int)(j:Nat):List Rock.aG:=((b.av.zip aR).take j).foldl (fun n wr=>vx s n wr.1 wr.2) s1
def nU(b:cC)(m:cX)(s2:List Rock.aG)(i:Nat):List Rock.aG:=(List.range i).foldl (fun n i=>iY n i (fed b m i) 1) s2
theorem JA{b:cC}{s s1:List Rock.aG}{aR:List Int}{j:Nat}{w:bH}{r:Int}(h1:b.av[j]?=some w)(h2:aR[j]?=some r):ff b s s1 aR (j+1)=vx s (ff b s s1 aR j) w r:=by
 have:(b.av.zip aR)[j]?=some (w,r):=by rw[List.getElem?_zip_eq_some];exact⟨h1,h2⟩
 unfold ff;rw[List.take_add_one,this,List.foldl_append];rfl
theorem EC{b:cC}{m:cX}{s2:List Rock.aG}{i:Nat}:nU b m s2 (i+1)=iY (nU b m s2 i) i (fed b m i) 1:=by
 unfold nU;rw[List.range_succ,List.foldl_append];rfl
theorem Cs{b:cC}{m:cX}{s2:List Rock.aG}:∀i,(nU b m s2 i).length=s2.length
 |0=>rfl
 |i+1=>by rw[EC,Jm,Cs i]
theorem apZ{b:cC}{s:List Rock.aG}{aR:List Int}{j:Nat}{w:bH}{r:Int}(h1:b.av[j]?=some w)(h2:aR[j]?=some r):(eE b s aR)[j]?=some (sC s w r):=by
 have:(b.av.zip aR)[j]?=some (w,r):=by rw[List.getElem?_zip_eq_some];exact⟨h1,h2⟩
 simp[eE,this]
structure Rv(b:cC)(aR:List Int):Prop where
 len:aR.length=b.av.length
 ok:∀r∈aR,-100000≤r∧r≤100000
theorem Rv.of{b:cC}{aR:List Int}(h:AO b aR=0):Rv b aR:=by
 unfold AO at h;split at h
 ·rename_i hl;split at h
  ·rename_i ha;exact⟨hl,fun r hr=>bf.1 (ki.1 ha r hr)⟩
  ·cases h
 ·cases h
theorem aro{b:cC}{s next:List Rock.aG}(h:Bv b)(hs:Sv b s){aR:List Int}(hr:Rv b aR){j:Nat}{w:bH}{r:Int}(h1:b.av[j]?=some w)(h2:aR[j]?=some r){N:Int}(hb:E2 N next):E2 (N+1000000000000) (vx s next w r):=by
 have hw:=NT h w (an h1);have hrr:=hr.ok r (an h2);obtain⟨_,m1,m2,m3⟩:=hs.at (i:=w.b.toNat) (by omega);have d2:=bC (b:=8) (show 0≤(bS s w.b.toNat).m by omega);unfold vx sC;split
 ·exact Bu hb (TX hrr hw.2.1 hw.2.2) (.inl rfl) (by omega)
 ·exact Bu hb (afD m1 m2 m3 ⟨by rw[d2];omega,by rw[d2];omega⟩) (.inr rfl) (by omega)
theorem SJ{s n:List Rock.aG}{w:bH}{r:Int}:(vx s n w r).length=n.length:=by
 unfold vx;split<;>simp[Jm]
theorem CN{b:cC}{s s1:List Rock.aG}(h:Bv b)(hs:Sv b s){aR:List Int}(hr:Rv b aR)(hb:E2 500000000000000 s1):∀j,j≤aR.length→E2 (500000000000000+1000000000000*j) (ff b s s1 aR j)∧(ff b s s1 aR j).length=s1.length
 |0,_=>⟨by simpa[ff]using hb,by simp[ff]⟩
 |j+1,hj=>by
  obtain⟨r,h2⟩:∃r,aR[j]?=some r:=gE (by omega);obtain⟨w,h1⟩:∃w,b.av[j]?=some w:=⟨_,aP (by rw[← hr.len];omega)⟩;obtain⟨ih1,ih2⟩:=CN h hs hr hb j (by omega);rw[JA h1 h2];have h3:=aro h hs hr h1 h2 ih1;exact⟨fun x hx=>lA (h3 x hx) (by push_cast;omega),by rw[SJ,ih2]⟩
theorem Pa{b:cC}{m:cX}{s2:List Rock.aG}(h:Fv b m)(hb:E2 600000000000000 s2):∀i,i≤b.n→E2 (600000000000000+1000000000000*i) (nU b m s2 i)
 |0,_=>by simpa[nU]using hb
 |i+1,hi=>by
  have ih:=Pa h hb i (by omega);rw[EC];have h3:=Bu (i:=i) ih (aoB h (i:=i) (by omega)) (.inl rfl) (by omega);exact fun x hx=>lA (h3 x hx) (by push_cast;omega)
theorem aqR{b:cC}{j:Nat}{w:bH}(h:b.av[j]?=some w):((b.av.flatMap bH.enc).drop (j*3)).take 3=[.int .i64 w.b,.int .i64 w.h,.int .i64 w.m] :=
 bQ (f:=bH.enc) (w:=3) (fun _=>rfl) h
theorem agj{b:cC}{m:cX}{s s1:List Rock.aG}{aR:List Int}{A FL X Y Z W:Abs.aG}(h:Fv b m)(hs:Sv b s)(hr:Rv b aR)(hb:E2 500000000000000 s1)(hl1:s1.length=s.length):∀(k j v:Nat),j+k=aR.length →
  WL T [1,3,9,12,41,42,43] false mq [(1,.aK s.length (s.flatMap aG.enc)),(3,.bE [.int .i64 b.f.x,.int .i64 b.f.y,.int .i64 b.f.z,.int .i64 b.f.k,.aK b.cf.length (b.cf.flatMap Rw.enc),.int .i64 b.bJ,.int .i64 b.lift,.int .i64 b.deep,.aK b.av.length (b.av.flatMap bH.enc),.str m.name,.aK m.bg.length (m.bg.flatMap aU)]),(9,.sl σ.length 1 1 0 s.length 3),(12,.sl σ.length 7 v 0 j 3),(41,.aK aR.length (aR.flatMap aU)),(42,.int .i64 aR.length),(43,.int .i64 j)]
   ([A,.cells 1 ((ff b s s1 aR j).flatMap aG.enc),FL,X,Y,Z,W,.cells v (((eE b s aR).take j).flatMap aG.enc)]::σ)
   (fun x e σ'=>x=.exit 2∧get e 3=.bE [.int .i64 b.f.x,.int .i64 b.f.y,.int .i64 b.f.z,.int .i64 b.f.k,.aK b.cf.length (b.cf.flatMap Rw.enc),.int .i64 b.bJ,.int .i64 b.lift,.int .i64 b.deep,.aK b.av.length (b.av.flatMap bH.enc),.str m.name,.aK m.bg.length (m.bg.flatMap aU)]∧get e 9=.sl σ.length 1 1 0 s.length 3∧get e 12=.sl σ.length 7 (v+k) 0 aR.length 3 ∧
    σ'=[A,.cells 1 ((ff b s s1 aR aR.length).flatMap aG.enc),FL,X,Y,Z,W,.cells (v+k) ((eE b s aR).flatMap aG.enc)]::σ)
 |0,j,v,hj=>by
  refine aM uS ?_;obtain rfl:j=aR.length:=by omega
  have hyl:(eE b s aR).length=aR.length:=by simp[eE,hr.len]
  have h3:(eE b s aR).take aR.length=eE b s aR:=ar (by omega);simp[-length_flatMap,-map_take,h3,cM,bu,bA]
 |k+1,j,v,hj=>by
  refine aM uS ?_;have h1:j<aR.length:=by omega
  have hwl:=h.bv.av;have hrl:=hr.len;obtain⟨r,hr2⟩:∃r,aR[j]?=some r:=gE (by omega);obtain⟨w,hw1⟩:∃w,b.av[j]?=some w:=gE (by omega);have hw:=NT h.bv w (an hw1);have hrr:=hr.ok r (an hr2);have hwn:w.b.toNat<b.n:=by omega
  have hlen:=hs.len;obtain⟨x0,m1,m2,m3⟩:=hs.at (i:=w.b.toNat) hwn;obtain⟨ib,il⟩:=CN h.bv hs hr hb j (by omega);obtain⟨x1,y1⟩:=MX ib (i:=w.b.toNat) (by omega);have h4:=fK h1 (by omega);have a1:=aqR hw1;have a2:=rI hr2;have a3:=bQ (f:=aG.enc) (w:=3) (fun _=>rfl) x0;have hy:=apZ (s:=s) hw1 hr2;have f3:=Kr (f:=aG.enc) hy;have hyl:(eE b s aR).length=aR.length:=by simp[eE,hr.len]
  have f4:=L6 ((eE b s aR).take j);rw[mD,hyl,Nat.min_eq_left (by omega)]at f4;have f6:(((eE b s aR).take j).flatMap aG.enc).take (j*3)=((eE b s aR).take j).flatMap aG.enc:=ar (by omega);have h7:(j+1)*24≤room:=by unfold room;omega
  have ih:=agj (A:=A) (FL:=FL) (X:=X) (Y:=Y) (Z:=Z) (W:=W) h hs hr hb hl1 k (j+1) (v+1) (by omega);have hsucc:=JA (s:=s) (s1:=s1) hw1 hr2;have hB0:(0:Int)≤w.b:=hw.1.1;have hB1:w.b<(s.length:Int):=by omega
  have hjw:j<b.av.length:=by omega
  have d2:=bC (b:=8) (show 0≤(bS s w.b.toNat).m by omega);by_cases hc:r<0
  ·have hg:=fun σ=>aqj (σ:=σ) hrr hw.2.1 hw.2.2
   have hM:∀V,bw T (.call false ck [.ref σ.length 1 1 (w.b.toNat*3),.agg [.int .i64 (w.given r).m,.int .i64 (w.given r).h,.int .i64 (w.given r).k],.int .i64 1] ([A,.cells 1 ((ff b s s1 aR j).flatMap aG.enc),FL,X,Y,Z,W,V]::σ)) =
     some (.val (.ez []) ([A,.cells 1 ((ff b s s1 aR (j+1)).flatMap aG.enc),FL,X,Y,Z,W,V]::σ)):=by
    intro V;rw[hsucc,vx,if_pos hc];exact Mj (F:=[A,.cells 1 ((ff b s s1 aR j).flatMap aG.enc),FL,X,Y,Z,W,V]) (j:=1) rfl x1 (lA y1 (by omega)) (lA (TX hrr hw.2.1 hw.2.2) (by omega)) (.inl rfl)
   have hwy:sC s w r=⟨0,0,0⟩:=by simp[sC,hc]
   rw[hwy]at f3;simp only[bH.enc,aG.enc]at hg;simp[-length_flatMap,-map_take,h1,h4,a1,a2,a3,f4,f6,h7,hB0,hB1,hjw,hc,hg,hM,cM,bu,bA];refine WL.to ih (by simp[cM,bu,bA]) (by simp[← f3]) fun x e σ hh=>by simpa[dW,Nat.add_comm 1 k]using hh
  ·have w7:=gQ (n:=(bS s w.b.toNat).m.tdiv 8) (by rw[d2];omega);have hO:=fun σ=>ai1 (σ:=σ) (q:=min r ((bS s w.b.toNat).m.tdiv 8)) m1 m2 m3 ⟨by rw[d2];omega,by rw[d2];omega⟩
   have hos:=afD (q:=min r ((bS s w.b.toNat).m.tdiv 8)) m1 m2 m3 ⟨by rw[d2];omega,by rw[d2];omega⟩;have hwy:sC s w r=(bS s w.b.toNat).out (min r ((bS s w.b.toNat).m.tdiv 8)):=by simp[sC,hc]
   have hsucc':ff b s s1 aR (j+1)=iY (ff b s s1 aR j) w.b.toNat ((bS s w.b.toNat).out (min r ((bS s w.b.toNat).m.tdiv 8))) (-1):=by
    rw[hsucc,vx,if_neg hc,hwy]
   rw[hwy]at f3;generalize hQ:min r ((bS s w.b.toNat).m.tdiv 8)=Q at *
   generalize (bS s w.b.toNat).out Q=O at *
   have hM:∀V,bw T (.call false ck [.ref σ.length 1 1 (w.b.toNat*3),.agg [.int .i64 O.m,.int .i64 O.h,.int .i64 O.k],.int .i64 (-1)] ([A,.cells 1 ((ff b s s1 aR j).flatMap aG.enc),FL,X,Y,Z,W,V]::σ)) =
     some (.val (.ez []) ([A,.cells 1 ((ff b s s1 aR (j+1)).flatMap aG.enc),FL,X,Y,Z,W,V]::σ)):=by
    intro V;rw[hsucc'];exact Mj (F:=[A,.cells 1 ((ff b s s1 aR j).flatMap aG.enc),FL,X,Y,Z,W,V]) (j:=1) rfl x1 (lA y1 (by omega)) (lA hos (by omega)) (.inr rfl)
   simp only[aG.enc]at hO;simp[-length_flatMap,-map_take,h1,h4,a1,a2,a3,f4,f6,h7,hB0,hB1,hjw,hc,w7,hQ,hO,hM,cM,bu,bA];refine WL.to ih (by simp[cM,bu,bA]) (by simp[← f3]) fun x e σ hh=>by simpa[dW,Nat.add_comm 1 k]using hh
theorem ajn{b:cC}{m:cX}{s2:List Rock.aG}{A FL X Y Z W V:Abs.aG}{d12:D}(h:Fv b m)(hb:E2 600000000000000 s2)(hl2:s2.length=b.n)(hd:d12.strip=d12∧d12.calm=d12):∀(k i:Nat),i+k=b.n →
  WL T [3,9,12,93,94] false mr [(3,.bE [.int .i64 b.f.x,.int .i64 b.f.y,.int .i64 b.f.z,.int .i64 b.f.k,.aK b.cf.length (b.cf.flatMap Rw.enc),.int .i64 b.bJ,.int .i64 b.lift,.int .i64 b.deep,.aK b.av.length (b.av.flatMap bH.enc),.str m.name,.aK m.bg.length (m.bg.flatMap aU)]),(9,.sl σ.length 1 1 0 b.n 3),(12,d12),(93,.int .i64 b.n),(94,.int .i64 i)]
   ([A,.cells 1 ((nU b m s2 i).flatMap aG.enc),FL,X,Y,Z,W,V]::σ)
   (fun x e σ'=>x=.exit 4∧get e 3=.bE [.int .i64 b.f.x,.int .i64 b.f.y,.int .i64 b.f.z,.int .i64 b.f.k,.aK b.cf.length (b.cf.flatMap Rw.enc),.int .i64 b.bJ,.int .i64 b.lift,.int .i64 b.deep,.aK b.av.length (b.av.flatMap bH.enc),.str m.name,.aK m.bg.length (m.bg.flatMap aU)]∧get e 9=.sl σ.length 1 1 0 b.n 3∧get e 12=d12∧σ'=[A,.cells 1 ((nU b m s2 b.n).flatMap aG.enc),FL,X,Y,Z,W,V]::σ)
 |0,i,hi=>by
  refine aM uT ?_;obtain rfl:i=b.n:=by omega
  simp[-length_flatMap,-map_take,hd,cM,bu,bA]
 |k+1,i,hi=>by
  refine aM uT ?_;have h1:i<b.n:=by omega
  have hn:=h.bv.n;have h4:=fK h1 (by omega);have hf:=fun σ=>azn (σ:=σ) h h1
  have ih:=ajn (A:=A) (FL:=FL) (X:=X) (Y:=Y) (Z:=Z) (W:=W) (V:=V) h hb hl2 hd k (i+1) (by omega);have ib:=Pa h hb i (by omega);obtain⟨x1,y1⟩:=MX ib (i:=i) (by rw[Cs,hl2];omega);have hM:bw T (.call false ck [.ref σ.length 1 1 (i*3),.agg [.int .i64 (fed b m i).m,.int .i64 (fed b m i).h,.int .i64 (fed b m i).k],.int .i64 1] ([A,.cells 1 ((nU b m s2 i).flatMap aG.enc),FL,X,Y,Z,W,V]::σ)) =
    some (.val (.ez []) ([A,.cells 1 ((nU b m s2 (i+1)).flatMap aG.enc),FL,X,Y,Z,W,V]::σ)):=by
   rw[EC];exact Mj (F:=[A,.cells 1 ((nU b m s2 i).flatMap aG.enc),FL,X,Y,Z,W,V]) (j:=1) rfl x1 (lA y1 (by omega)) (lA (aoB h h1) (by omega)) (.inl rfl)
  simp only[aG.enc]at hf;simp[-length_flatMap,-map_take,h1,h4,hf,hM,hd,cM,bu,bA];refine WL.to ih (by simp[hd,cM,bu,bA]) rfl fun x e σ hh=>hh
theorem agV{b:cC}{m:cX}{s:List Rock.aG}{aR:List Int}(hr:Rv b aR)(hl:s.length=b.n):nU b m (ff b s ((xd b m s).foldl eW s) aR aR.length) b.n=H5 b m s aR:=by
 have:(b.av.zip aR).take aR.length=b.av.zip aR:=ar (by rw[List.length_zip];omega);simp only[H5,nU,ff,this,hl]
theorem ahW{b:cC}{m:cX}{s:List Rock.aG}(h:Fv b m)(hs:Sv b s):E2 500000000000000 ((xd b m s).foldl eW s)∧((xd b m s).foldl eW s).length=s.length:=by
 obtain⟨h1,h2⟩:=TU (m:=m) h.bv hs;have key:∀(es:List ((Nat×Nat)×Rock.aG)) (s:List Rock.aG) (N:Int),(∀e∈es,Flw b e)→E2 N s→E2 (N+2000000000000*es.length) (es.foldl eW s)∧(es.foldl eW s).length=s.length:=by
  intro es;induction es with
  |nil=>intro s N _ h;exact⟨by simpa using h,rfl⟩
  |cons e es ih =>
   intro s N he hb;obtain⟨a1,a2⟩:=ih (eW s e) _ (fun x hx=>he x (by simp[hx])) (TR hb (he e (by simp)));simp only[List.foldl_cons,aO];exact⟨fun x hx=>lA (a1 x hx) (by push_cast;omega),by rw[a2,TS]⟩
 obtain⟨a1,a2⟩:=key _ s _ h1 hs.E2;exact⟨fun x hx=>lA (a1 x hx) (by omega),a2⟩
theorem as6{b:cC}{m:cX}{s s1:List Rock.aG}{aR:List Int}{A FL X Y Z W:Abs.aG}(h:Fv b m)(hs:Sv b s)(hr:Rv b aR)(hb:E2 500000000000000 s1)(hl1:s1.length=s.length):
  WC (bw T) fN ((25,.bool false)::(24,.undef)::OE b m s aR σ.length) ([A,.cells 1 (s1.flatMap aG.enc),FL,X,Y,Z,W]::σ) fun x e σ' =>
   x=.ret∧σ'=[A,.cells 1 ((nU b m (ff b s s1 aR aR.length) b.n).flatMap aG.enc),FL,X,Y,Z,W,.cells aR.length ((eE b s aR).flatMap aG.enc)]::σ ∧
   (if zY b (nU b m (ff b s s1 aR aR.length) b.n)=true then get e 6=.sl σ.length 1 1 0 b.n 3∧get e 7=.sl σ.length 7 aR.length 0 aR.length 3∧get e 8=.int .i64 0
    else get e 6=.aH∧get e 7=.aH∧get e 8=.int .i64 9):=by
 have hl:=hs.len;have hn:=h.bv.n;have hwl:=h.bv.av;have hrl:=hr.len;obtain⟨wb,wl⟩:=CN h.bv hs hr hb aR.length (aL _);have fl:=Cs (b:=b) (m:=m) (s2:=ff b s s1 aR aR.length) b.n;rw[AZ Cp];simp[-length_flatMap,-map_take,OE,cM,bu,bA];refine WL.to (agj (σ:=σ) (A:=A) (FL:=FL) (X:=X) (Y:=Y) (Z:=Z) (W:=W) h hs hr hb hl1 aR.length 0 0 (by omega)) (by simp[cM,bu,bA]) (by simp[ff]) ?_;rintro x e σ' ⟨rfl,g3,g9,g12,rfl⟩;rw[hl]at g9;simp[-length_flatMap,-map_take,g3,g9,g12,cM,bu,bA];refine WL.to (ajn (σ:=σ) (A:=A) (FL:=FL) (X:=X) (Y:=Y) (Z:=Z) (W:=W) (V:=.cells (0+aR.length) ((eE b s aR).flatMap aG.enc)) (d12:=.sl σ.length 7 (0+aR.length) 0 aR.length 3) h (fun x hx=>lA (wb x hx) (by omega)) (by rw[wl,hl1,hl]) ⟨rfl,rfl⟩ b.n 0 (by omega)) (by simp[cM,bu,bA]) (by simp[nU]) ?_;rintro x e σ' ⟨rfl,g3,g9,g12,rfl⟩;have hS:=ahy (m:=m) (b:=b) (s:=nU b m (ff b s s1 aR aR.length) b.n) h.bv (lv:=σ.length) (bi:=1) (v:=1) (F:=[A,.cells 1 ((nU b m (ff b s s1 aR aR.length) b.n).flatMap aG.enc),FL,X,Y,Z,W,.cells (0+aR.length) ((eE b s aR).flatMap aG.enc)]) (σ:=[A,.cells 1 ((nU b m (ff b s s1 aR aR.length) b.n).flatMap aG.enc),FL,X,Y,Z,W,.cells (0+aR.length) ((eE b s aR).flatMap aG.enc)]::σ) rfl (by simp[gk]) (by rw[fl,wl,hl1,hl]);rw[show(nU b m (ff b s s1 aR aR.length) b.n).length=b.n by rw[fl,wl,hl1,hl]]at hS;cases hc:zY b (nU b m (ff b s s1 aR aR.length) b.n)
 ·rw[hc]at hS;simp at hS;simp[-length_flatMap,-map_take,g3,g9,g12,hS,cM,bu,bA]
 ·rw[hc]at hS;simp at hS;simp[-length_flatMap,-map_take,g3,g9,g12,hS,cM,bu,bA]
def apU(b:cC)(m:cX)(s:List Rock.aG)(aR:List Int):D:=match tick b m s aR with
 |some (s',y) => .ez [.aK s'.length (s'.flatMap aG.enc),.aK y.length (y.flatMap aG.enc),.int .i64 0]
 |none => .ez [.aH,.aH,.int .i64 9]
theorem atb{b:cC}{m:cX}{s:List Rock.aG}{aR:List Int}(h:Fv b m)(hs:Sv b s)(hr:Rv b aR)(hσ:σ≠[]):
  bw T (.call false nE [.agg [.int .i64 b.f.x,.int .i64 b.f.y,.int .i64 b.f.z,.int .i64 b.f.k,.aK b.cf.length (b.cf.flatMap Rw.enc),.int .i64 b.bJ,.int .i64 b.lift,.int .i64 b.deep,.aK b.av.length (b.av.flatMap bH.enc),.str m.name,.aK m.bg.length (m.bg.flatMap aU)],.aK s.length (s.flatMap aG.enc),.aK aR.length (aR.flatMap aU)] σ)=some (.val (apU b m s aR) σ):=by
 refine aD G2 HS rfl ?_;have hl:=hs.len;have hn:=h.bv.n;have hne:s≠[]:=by intro h0;rw[h0]at hl;simp at hl;omega
 have hC:=aqd (σ:=σ) (s:=s) (bs:=[]) (by omega) hne;obtain⟨X,Y,Z,hF⟩:=aqi (σ:=σ) (A:=.cells 0 []) (B:=.cells 1 (s.flatMap aG.enc)) h hs;obtain⟨fb,fl⟩:=ahW h hs;obtain⟨x,e',σ',hrun,rfl,rfl,hq⟩:=as6 (σ:=σ) (A:=.cells 0 []) (FL:=.cells 0 (Ig (xd b m s))) (X:=X) (Y:=Y) (Z:=Z) (W:=.dead) h hs hr fb fl;obtain⟨f1,f2⟩:=TU (m:=m) h.bv hs;have hM:=atl (σ:=σ) (aR:=aR) (m:=m) (A:=.cells 0 []) (X:=X) (Y:=Y) (Z:=Z) (es:=xd b m s) hs f1 f2 (r:=.Gx .ret e' ([.cells 0 [],.cells 1 ((nU b m (ff b s ((xd b m s).foldl eW s) aR aR.length) b.n).flatMap aG.enc),.cells 0 (Ig (xd b m s)),X,Y,Z,.dead,.cells aR.length ((eE b s aR).flatMap aG.enc)]::σ)) ⟨_,_,_,hrun,rfl⟩ _ [] List.nodup_nil (by simp) rfl;simp only[aY,bO,db]at hC;have hG:DE ([.cells 0 [],.cells 1 (s.flatMap aG.enc),.cells 0 (Ig (xd b m s)),X,Y,Z]::σ) .rng [.nO σ.length 2]=some (.nO σ.length 6,[.cells 0 [],.cells 1 (s.flatMap aG.enc),.cells 0 (Ig (xd b m s)),X,Y,Z,itB σ.length (xd b m s).length []]::σ):=by
  simp[DE,DD,itB,jsD,Ig]
 simp[-length_flatMap,-map_take,hC,hF,hG,cM,bu,bA,M3];refine⟨_,_,_,by simpa[OE,stT]using hM,?_⟩;rw[agV hr hl]at hq ⊢;have hnl:(H5 b m s aR).length=b.n:=by
  rw[← agV hr hl,Cs,(CN h.bv hs hr fb aR.length (aL _)).2,fl,hl]
 have hyl:(eE b s aR).length=aR.length:=by simp[eE,hr.len]
 unfold apU tick;cases hc:zY b (H5 b m s aR)
 ·rw[hc]at hq;simp at hq;obtain⟨g6,g7,g8⟩:=hq;simp[g6,g7,g8]
 ·rw[hc]at hq;simp only[if_true]at hq;obtain⟨g6,g7,g8⟩:=hq;simp only[if_true];simp[g6,g7,g8];rw[E7 (by simp) (by omega)];simp only[yq,Br];rw[← hnl,zL (f:=aG.enc) (l:=H5 b m s aR) (by decide) (fun _=>rfl) (fun x=>by simp) hσ (by simp)];simp only[List.set_cons_succ,List.set_cons_zero];rw[← hyl,zL (f:=aG.enc) (l:=eE b s aR) (by decide) (fun _=>rfl) (fun x=>by simp) hσ (by simp)];rw[lh (by simp) (by omega)];exact⟨_,rfl⟩
def zX(s:List Rock.aG):List D:=[.aK s.length (s.flatMap aG.enc)]
theorem ahc(l:List (List Rock.aG)):(l.flatMap zX).length=l.length:=by
 have:=bV (f:=zX) (w:=1) (fun _=>rfl) l;omega
theorem Sv.next{b:cC}{m:cX}{s:List Rock.aG}{aR:List Int}(h:Bv b){s' y:List Rock.aG}(ht:tick b m s aR=some (s',y)):Sv b s':=by
 unfold tick at ht;split at ht
 ·rename_i hc;simp only[ae,au]at ht;obtain⟨rfl,_⟩:=ht;exact(Sv.of h).1 hc
 ·cases ht
theorem apt{n:Nat}(h:n≤1000000):n*24≤room:=by unfold room;omega
theorem O5(l:List (List Rock.aG)):D.bD (l.flatMap zX)=true:=ir (fun x=>by simp[zX,D.clean,M3]) l
def ax2(b:cC)(m:cX)(σ:SK)(r:Option (List (List Rock.aG)×List (List Rock.aG)))(x:Abs.Exit)(e:Env)(σ':SK):Prop:=match r with
 |some (ss,ys)=>∃v u,x=.exit 0∧get e 4=.own 0 [.sl σ.length 2 v 0 ss.length 1,.sl σ.length 1 u 0 ys.length 1]∧σ'=[.cells 0 [],.cells u (ys.flatMap zX),.cells v (ss.flatMap zX)]::σ
 |none=>x=.fU (.vn 262 (.agg []))∧∃bx,σ'=bx::σ
theorem ajs{b:cC}{m:cX}{aC:List (List Int)}(h:Fv b m)(hp:aC.length≤200)(hr:∀r∈aC,Rv b r):∀(k i v u:Nat) (ss ys:List (List Rock.aG)) (s:List Rock.aG),i+k=aC.length→ss.length=i+1→ys.length=i→ss[i]?=some s→Sv b s →
  WL T [2,4,14,15,16] false nI [(2,.bE [.int .i64 b.f.x,.int .i64 b.f.y,.int .i64 b.f.z,.int .i64 b.f.k,.aK b.cf.length (b.cf.flatMap Rw.enc),.int .i64 b.bJ,.int .i64 b.lift,.int .i64 b.deep,.aK b.av.length (b.av.flatMap bH.enc),.str m.name,.aK m.bg.length (m.bg.flatMap aU)]),(4,.own 0 [.sl σ.length 2 v 0 (i+1) 1,.sl σ.length 1 u 0 i 1]),(14,.aK aC.length (aC.flatMap LS)),(15,.int .i64 aC.length),(16,.int .i64 i)]
   ([.cells 0 [],.cells u (ys.flatMap zX),.cells v (ss.flatMap zX)]::σ) (ax2 b m σ (wE b m ss ys s (aC.drop i)))
 |0,i,v,u,ss,ys,s,hi,h1,h2,h3,hs=>by
  refine aM vO ?_;obtain rfl:i=aC.length:=by omega
  have h5:aC.drop aC.length=[]:=aJ (by omega);simp[-length_flatMap,-map_take,h5,wE,ax2];exact⟨v,u,by simp[h1,h2]⟩
 |k+1,i,v,u,ss,ys,s,hi,h1,h2,h3,hs=>by
  refine aM vO ?_;have hlt:i<aC.length:=by omega
  have hii:(i:Int)<i+1:=by omega
  obtain⟨r,hx⟩:=gE hlt;have h4:=fK hlt (by omega);have h5:=dG hx;have a1:=bQ (f:=LS) (w:=1) (fun _=>rfl) hx;simp only[LS,dM]at a1;have a2:=HZ (f:=zX) (w:=1) (fun _=>rfl) h3;simp only[zX,dM,eR]at a2;have hT:=fun σ hσ=>atb (σ:=σ) h hs (hr r (an hx)) hσ
  rw[h5,wE];unfold apU at hT;cases ht:tick b m s r with
  |none =>
   rw[ht]at hT;simp only at hT;simp[-length_flatMap,-map_take,hlt,hii,h4,a1,a2,hT,LS,ax2]
  |some p =>
   obtain⟨s',y⟩:=p;rw[ht]at hT;simp only at hT;have ih:=ajs h hp hr k (i+1) (v+1) (u+1) (ss++[s']) (ys++[y]) s' (by omega) (by simp[h1]) (by simp[h2]) (by simp[← h1]) (Sv.next h.bv ht);have l1:=ahc ss;have l2:=ahc ys;rw[h1]at l1;rw[h2]at l2;have f1:(ss.flatMap zX).take (i+1)=ss.flatMap zX:=ar (by omega);have f2:(ys.flatMap zX).take i=ys.flatMap zX:=ar (by omega);have h7:=apt (n:=i+1) (by omega);have h8:=apt (n:=i+1+1) (by omega);simp[-length_flatMap,-map_take,hlt,hii,h4,a1,a2,hT,LS,f1,f2,l1,l2,h7,h8];exact WL.to ih (by simp) (by simp[zX]) fun x e σ hh=>hh
theorem af7{b:cC}{m:cX}{aC:List (List Int)}(h:Fv b m)(hp:aC.length≤200)(hr:∀r∈aC,Rv b r)(hσ:σ≠[]){ss ys:List (List Rock.aG)}(hrun:Rock.run b m aC=some (ss,ys)):
  bw T (.call false iU [.agg [.int .i64 b.f.x,.int .i64 b.f.y,.int .i64 b.f.z,.int .i64 b.f.k,.aK b.cf.length (b.cf.flatMap Rw.enc),.int .i64 b.bJ,.int .i64 b.lift,.int .i64 b.deep,.aK b.av.length (b.av.flatMap bH.enc),.str m.name,.aK m.bg.length (m.bg.flatMap aU)],.aK aC.length (aC.flatMap LS)] σ)=some (.val (.agg [.aK ss.length (ss.flatMap zX),.aK ys.length (ys.flatMap zX)]) σ):=by
 refine aD zy zD rfl ?_;have hf:=fun σ hσ=>JC (σ:=σ) h hσ
 simp only[stE]at hf;simp[-length_flatMap,-map_take,hf,cM,bu,bA];refine WL.to (ajs (σ:=σ) h hp hr aC.length 0 0 0 [dX b m] [] (dX b m) (by omega) rfl rfl rfl (Sv.first h)) (by simp) (by simp[zX]) ?_;rw[aS,show wE b m [dX b m] [] (dX b m) aC=some (ss,ys)from hrun];rintro x e σ' ⟨v,u,rfl,g4,rfl⟩;simp[-length_flatMap,-map_take,g4];have c1:∀x:List Rock.aG,D.bD (zX x)=true:=fun x=>by simp[zX,D.clean,M3]
 rw[agz (by simp) (by omega)];simp only[yq,Br];rw[zL (f:=zX) (w:=1) (l:=ss) (by decide) (fun _=>rfl) c1 hσ (by simp)];simp only[List.set_cons_succ,List.set_cons_zero];rw[zL (f:=zX) (w:=1) (l:=ys) (by decide) (fun _=>rfl) c1 hσ (by simp)];exact⟨_,rfl⟩
theorem af6{b:cC}{m:cX}{aC:List (List Int)}(h:Fv b m)(hp:aC.length≤200)(hr:∀r∈aC,Rv b r)(hrun:Rock.run b m aC=none):
  bw T (.call false iU [.agg [.int .i64 b.f.x,.int .i64 b.f.y,.int .i64 b.f.z,.int .i64 b.f.k,.aK b.cf.length (b.cf.flatMap Rw.enc),.int .i64 b.bJ,.int .i64 b.lift,.int .i64 b.deep,.aK b.av.length (b.av.flatMap bH.enc),.str m.name,.aK m.bg.length (m.bg.flatMap aU)],.aK aC.length (aC.flatMap LS)] σ)=some (.fU (.vn 262 (.agg [])) σ):=by
 refine eg zy zD rfl ?_;have hf:=fun σ hσ=>JC (σ:=σ) h hσ
 simp only[stE]at hf;simp[-length_flatMap,-map_take,hf,cM,bu,bA];refine WL.to (ajs (σ:=σ) h hp hr aC.length 0 0 0 [dX b m] [] (dX b m) (by omega) rfl rfl rfl (Sv.first h)) (by simp) (by simp[zX]) ?_;rw[aS,show wE b m [dX b m] [] (dX b m) aC=none from hrun];rintro x e σ' ⟨rfl,bx,rfl⟩;simp[D.clean]
end Go.Proofs.YtfgljaglidhjiaaGreatDoor
