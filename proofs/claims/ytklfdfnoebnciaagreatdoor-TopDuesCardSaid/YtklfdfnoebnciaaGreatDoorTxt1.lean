import Derived.Test.YtklfdfnoebnciaaGreatDoorTxt0
set_option linter.all false
namespace Go.Proofs.YtklfdfnoebnciaaGreatDoor
open List(length_flatMap map_take)
section
open Go Go.az Go.aD
variable {J:SK}
theorem aI.Jj{x:aD.aI}:x.valid=true↔(1<=x.m/\x.m<=1000000)/\(0<=x.h/\x.h<=10000000000)/\(0<=x.k/\x.k<=1000000000000):=by
 simp[aD.aI.valid,bT]
structure Sv(b:b9)(s:List aD.aI):Prop where
 len:s.length=b.n
 ok:∀x∈s,x.valid=true
theorem Sv.of{b:b9}{s:List aD.aI}(h:Bv b):xO b s=true↔Sv b s:=by
 have hs:=h.sz;have hn:=h.n;unfold xO;simp only[ae,ao];constructor
 .rintro⟨h1,h2⟩;exact⟨by unfold b9.size at h1;omega,iI.1 h2⟩
 .rintro⟨h1,h2⟩;exact⟨by unfold b9.size;omega,iI.2 h2⟩
theorem Sv.at{b:b9}{s:List aD.aI}(h:Sv b s){i:Nat}(hi:i<b.n):s[i]?=some (bL s i)/\(1<=(bL s i).m/\(bL s i).m<=1000000)/\(0<=(bL s i).h/\(bL s i).h<=10000000000)/\(0<=(bL s i).k/\(bL s i).k<=1000000000000):=by
 have h1:i<s.length:=by have:=h.len;omega
 have h2:s[i]?=some (bL s i):=by simp[bL,h1]
 exact⟨h2,aI.Jj.1 (h.ok _ (ai h2))⟩
theorem Sv.first{b:b9}{m:cq}(h:Fv b m):Sv b (c8 b m):=by
 refine⟨Bm,λx hx=>?_⟩;simp only[c8,bO,List.mem_range]at hx;obtain⟨i,hi,rfl⟩:=hx;have b1:=h.hold i hi;have b2:=h.HE i hi;have b3:=mZ (by omega:0<=hold b m i) b1.2 b2.1 b2.2;exact aI.Jj.2 ⟨⟨by simp only;omega,by simp only;omega⟩,⟨b3.1,by simp only;omega⟩,by simp⟩
theorem RZ{r:Rw}(h:r.alone=true):(1<=r.p/\r.p<=10000)/\(0<=r.l/\r.l<=4000):=by
 simp only[Rw.alone,ae]at h;exact⟨aU.1 h.2.1,aU.1 h.2.2.1⟩
theorem M5{s:List aD.aI}{i:Nat}{x:aD.aI}{t:List Rw}(hx:s[i]?=some x)(hm:0<=x.m/\x.m<=1000000)(ht:∀r∈t,r.alone=true)(hl:t.length<=1000):∀(n j:Nat) (o:Int),j+n=t.length ->
  WL T [1,2,7,34,35,36] false ez [(1,.aG s.length (s.flatMap aI.enc)),(2,.int .i64 i),(7,.int .i64 o),(34,.aG t.length (t.flatMap Rw.enc)),(35,.int .i64 t.length),(36,.int .i64 j)] J
   (λx' e J'=>J'=J/\x'=.exit 0/\get e 7=.int .i64 ((t.drop j).foldl (oJ x) o))
 |0,j,o,hj=>by
  refine aJ ez.eq_1 ?_;have h1:¬j<t.length:=by omega
  have h2:t.drop j=[]:=aA (by omega);simp[-length_flatMap,-map_take,h1,h2]
 |n+1,j,o,hj=>by
  refine aJ ez.eq_1 ?_;have h1:j<t.length:=by omega
  obtain⟨r,hr⟩:=gE h1;have hrb:=RZ (ht r (ai hr));have h2:=cf (f:=Rw.enc) (w:=5) (λ_=>rfl) hr;have h3:=cf (f:=aI.enc) (w:=3) (λ_=>rfl) hx;have h4:=eT h1;have h5:=drop_at hr;have hi:i<s.length:=(aw.1 hx).1;have b1:=mZ hrb.2.1 hrb.2.2 hm.1 hm.2;have w1:=eF (n:=r.l*x.m);have ih:=M5 hx hm ht hl n (j+1) (oJ x o r) (by omega);rw[h5];simp only[List.foldl_cons];by_cases hc:r.l*x.m<=x.h
  .have hm2:(if o<r.p then r.p else o)=oJ x o r:=by unfold oJ;rw[if_pos hc];omega
   simp[-length_flatMap,-map_take,h1,h2,h3,h4,hi,w1,hc];refine WL.to ih (by simp[oJ,hc]) rfl λx e J hh=>hh
  .simp[-length_flatMap,-map_take,h1,h2,h3,h4,hi,w1,hc];refine WL.to ih (by simp[oJ,hc]) rfl λx e J hh=>hh
theorem FM{b:b9}{m:cq}{s:List aD.aI}(h:Fv b m)(hs:Sv b s){i:Nat}(hi:i<b.n):
  lim T (.call false 190 [.agg [.int .i64 b.f.x,.int .i64 b.f.y,.int .i64 b.f.z,.int .i64 b.f.k,.aG b.b8.length (b.b8.flatMap Rw.enc),.int .i64 b.bF,.int .i64 b.lift,.int .i64 b.deep,.aG b.ak.length (b.ak.flatMap bE.enc),.str m.name,.aG m.bg.length (m.bg.flatMap aX)],.aG s.length (s.flatMap aI.enc),.int .i64 i] J)=some (.val (.int .i64 (jG b m s i)) J):=by
 refine au zc jK.eq_1 rfl ?_;have hw:=λJ=>FO (J:=J) (m:=m) h.bv hi
 have ho:=λJ=>PT (J:=J) h.toMv hi
 have b1:=h.hold i hi;obtain⟨hx,b2,b3,b4⟩:=hs.at hi;have hil:i<s.length:=by have:=hs.len;omega
 have hst:=h.bv.bF;have b5:=Ba h.bv hi;have b6 : -100000000000<=b.bF*((bL s i).m-hold b m i)/\b.bF*((bL s i).m-hold b m i)<=100000000000:=by
  rcases kX (hold b m i) (bL s i).m with hh | hh
  .have:=mZ (a:=b.bF) (b:=(bL s i).m-hold b m i) (A:=100000) (B:=1000000) (by omega) hst.2 (by omega) (by omega);omega
  .have:=mZ (a:=b.bF) (b:=hold b m i-(bL s i).m) (A:=100000) (B:=1000000) (by omega) hst.2 (by omega) (by omega);have e:b.bF*((bL s i).m-hold b m i) = - (b.bF*(hold b m i-(bL s i).m)):=by rw[<- Int.mul_neg];congr 1;omega
   omega
 have hd:=λJ=>VN (J:=J) (n:=b.bF*((bL s i).m-hold b m i)) (d:=hold b m i) (by omega) (by omega)
 have b7 : -100000000000<=down (b.bF*((bL s i).m-hold b m i)) (hold b m i)/\down (b.bF*((bL s i).m-hold b m i)) (hold b m i)<=100000000000:=by
  unfold down;constructor
  .rw[Int.le_ediv_iff_mul_le (by omega)];omega
  .have:=Int.ediv_le_self (b:=hold b m i) (a:=b.bF*((bL s i).m-hold b m i));rcases kX 0 (b.bF*((bL s i).m-hold b m i))with hh | hh
   .have:=this hh;omega
   .have:=Int.ediv_le_of_le_mul (b:=0) (show 0<hold b m i by omega) (by omega:b.bF*((bL s i).m-hold b m i)<=0*hold b m i);omega
 have w1:=eF (n:=(bL s i).m-hold b m i);have w2:=eF (n:=b.bF*((bL s i).m-hold b m i));have w3:=eF (n:=weight b i+down (b.bF*((bL s i).m-hold b m i)) (hold b m i));have h3:=cf (f:=aI.enc) (w:=3) (λ_=>rfl) hx;have htab:=h.bv.b8;simp only[jj,ae]at htab;have ht:=aU.1 htab.1;simp[-length_flatMap,-map_take,hw,ho,hil,h3,w1,w2,hd,w3];refine WL.to (M5 (J:=[]::J) hx ⟨by omega,by omega⟩ (iI.1 htab.2.1) (by omega) b.b8.length 0 (max 0 (weight b i+down (b.bF*((bL s i).m-hold b m i)) (hold b m i))) (by omega)) (by simp) rfl ?_;rintro x e J' ⟨rfl,rfl,g⟩;simp[-length_flatMap,-map_take,g,jG]
theorem Jo{b:b9}{m:cq}{s:List aD.aI}:(bP b m s).length=s.length:=by simp[bP]
theorem Nw(l:List Int):(l.flatMap aX).length=l.length:=by
 have:=bZ (f:=aX) (w:=1) (λ_=>rfl) l;omega
theorem EG{b:b9}{m:cq}{s:List aD.aI}(h:Fv b m)(hs:Sv b s):∀(n i v:Nat),i+n=s.length ->
  WL T [1,2,4,7,8] false dT [(1,.aG s.length (s.flatMap aI.enc)),(2,.bu [.int .i64 b.f.x,.int .i64 b.f.y,.int .i64 b.f.z,.int .i64 b.f.k,.aG b.b8.length (b.b8.flatMap Rw.enc),.int .i64 b.bF,.int .i64 b.lift,.int .i64 b.deep,.aG b.ak.length (b.ak.flatMap bE.enc),.str m.name,.aG m.bg.length (m.bg.flatMap aX)]),(4,.sl J.length 0 v 0 i 1),(7,.int .i64 s.length),(8,.int .i64 i)] ([.cells v (((bP b m s).take i).flatMap aX)]::J)
   (λx e J'=>x=.exit 0/\get e 4=.sl J.length 0 (v+n) 0 (bP b m s).length 1/\J'=[.cells (v+n) ((bP b m s).flatMap aX)]::J)
 |0,i,v,hi=>by
  refine aJ dT.eq_1 ?_;have h1:¬i<s.length:=by omega
  have h3:(bP b m s).take i=bP b m s:=ah (by rw[Jo];omega);simp[-length_flatMap,-map_take,h1,h3,Jo];omega
 |n+1,i,v,hi=>by
  refine aJ dT.eq_1 ?_;have h1:i<s.length:=by omega
  have hn:=h.bv.n;have hl:=hs.len;have h4:=eT h1;have hp:=λJ=>FM (J:=J) h hs (i:=i) (by omega)
  have ih:=EG h hs n (i+1) (v+1) (by omega);have hx:(bP b m s)[i]?=some (jG b m s i):=by simp[bP,h1]
  have a3:=Bn (f:=aX) hx;have a4:=Nw ((bP b m s).take i);rw[jV,Jo,Nat.min_eq_left (by omega)]at a4;have a6:(((bP b m s).take i).flatMap aX).take i=((bP b m s).take i).flatMap aX:=ah (by omega);have h7:(i+1)*8<=room:=by unfold room;omega
  simp[-length_flatMap,-map_take,h1,h4,hp,a4,a6,h7,cl,bh,bq];refine WL.to ih (by simp[cl,bh,bq]) (by simp[<- a3]) λx e J hh=>by simpa[dz,Nat.add_comm 1 n]using hh
theorem JX{b:b9}{m:cq}{s:List aD.aI}(h:Fv b m)(hs:Sv b s)(hJ:J≠[]):lim T (.call false 253 [.agg [.int .i64 b.f.x,.int .i64 b.f.y,.int .i64 b.f.z,.int .i64 b.f.k,.aG b.b8.length (b.b8.flatMap Rw.enc),.int .i64 b.bF,.int .i64 b.lift,.int .i64 b.deep,.aG b.ak.length (b.ak.flatMap bE.enc),.str m.name,.aG m.bg.length (m.bg.flatMap aX)],.aG s.length (s.flatMap aI.enc)] J)=some (.val (.aG (bP b m s).length ((bP b m s).flatMap aX)) J):=by
 refine au yC jc.eq_1 rfl ?_;simp[-length_flatMap,-map_take,cl,bh,bq];refine WL.to (EG (J:=J) h hs s.length 0 0 (by omega)) (by simp) (by simp) ?_;rintro x e J' ⟨rfl,g4,rfl⟩;simp[-length_flatMap,-map_take,g4];rw[zX (f:=aX) (by decide) (λ_=>rfl) (λx=>by simp) hJ (by simp)];simp
theorem Lw{x:aD.aI}:lim T (.call false 258 [.agg x.enc] J)=some (.val (.bool x.valid) J):=by
 refine au Co nA.eq_1 rfl ?_;cases hc1:bT x.m 1 1000000
 .simp[-length_flatMap,-map_take,cU,aD.aI.valid,hc1]
 cases hc2:bT x.h 0 10000000000
 .simp[-length_flatMap,-map_take,cU,aD.aI.valid,hc1,hc2]
 cases hc3:bT x.k 0 1000000000000
 .simp[-length_flatMap,-map_take,cU,aD.aI.valid,hc1,hc2,hc3]
 simp[-length_flatMap,-map_take,cU,aD.aI.valid,hc1,hc2,hc3]
theorem Il{x q m A:Int}(hm:1<=m)(hx:0<=x/\x<=A)(hq:0<=q/\q<=m):0<=(x*q).tdiv m/\(x*q).tdiv m<=A:=by
 have h1:=dp hx.1 hq.1;rw[bd h1];refine⟨Int.ediv_nonneg h1 (by omega),Int.ediv_le_of_le_mul (by omega) ?_⟩;exact jZ hx.2 hq.2 hq.1 (by omega)
theorem P3{x:aD.aI}{q:Int}(hm:1<=x.m/\x.m<=1000000)(hh:0<=x.h/\x.h<=10000000000)(hk:0<=x.k/\x.k<=1000000000000)(hq:0<=q/\q<=x.m):
  lim T (.call false 226 [.agg x.enc,.int .i64 q] J)=some (.val (.agg (x.out q).enc) J):=by
 refine au DY qq.eq_1 rfl ?_;have b1:=mZ hh.1 hh.2 hq.1 (show q<=1000000 by omega);have b2:=mZ hk.1 hk.2 hq.1 (show q<=1000000 by omega);have b3:=Il hm.1 hh hq;have b4:=Il hm.1 hk hq;have w1:=eF (n:=x.h*q);have w2:=eF (n:=x.k*q);have w3:=eF (n:=(x.h*q).tdiv x.m);have w4:=eF (n:=(x.k*q).tdiv x.m);have hne:¬x.m=0:=by omega
 simp[-length_flatMap,-map_take,w1,w2,w3,w4,hne,aD.aI.out]
def sm(x:aD.aI)(n:Int):Prop:=(-n<=x.m/\x.m<=n)/\(-n<=x.h/\x.h<=n)/\(-n<=x.k/\x.k<=n)
theorem FK{F:List az.aI}{j v i:Nat}{s:List aD.aI}{x o:aD.aI}{sign:Int}(hF:F[j]?=some (.cells v (s.flatMap aI.enc)))(hx:s[i]?=some x)(h1:sm x 1000000000000000000)(h2:sm o 1000000000000000000)(hs:sign=1\/sign = -1):
  lim T (.call false 224 [.ref J.length j v (i*3),.agg o.enc,.int .i64 sign] (F::J))=some (.val (.dj []) (F.set j (.cells v ((ga s i o sign).flatMap aI.enc))::J)):=by
 refine eQ CZ oU.eq_1 rfl (by simp) ?_;obtain⟨a1,a2,a3⟩:=h1;obtain⟨c1,c2,c3⟩:=h2;have hi:i<s.length:=(aw.1 hx).1;obtain⟨A,B,hA,hAB⟩:∃A B:List D,A.length=i*3/\s.flatMap aI.enc=A++(x.enc++B):=by
  have hd:=zx (f:=aI.enc) (w:=3) (λ_=>rfl) hx;have hlen:=Fs s;refine⟨(s.flatMap aI.enc).take (i*3),(s.flatMap aI.enc).drop (i*3+3),by rw[jV];omega,?_⟩;rw[<- hd,List.take_append_drop]
 have hset:(ga s i o sign).flatMap aI.enc=A++((x.move o sign).enc++B):=by
  have h3:=Nx (f:=aI.enc) (w:=3) (λ_=>rfl) (x:=x.move o sign) hi;have hblk:bL s i=x:=by simp[bL,hx]
  rw[ga,hblk,<- h3,hAB];have e1:(A++(x.enc++B)).take (i*3)=A:=by rw[<- hA];simp
  have e2:(A++(x.enc++B)).drop (i*3+3)=B:=by
   rw[<- eK,<- hA];simp
  rw[e1,e2]
 rw[hAB]at hF;rw[hset];have hj:j<F.length:=(aw.1 hF).1;have gs:∀X:az.aI,(F.set j X)[j]?=some X:=λX=>by simp[hj]
 clear hset hAB hx hj;have t1:∀L:List D,(A++L).take (A.length+1)=A++L.take 1:=λL=>by rw[List.take_length_add_append]
 have t2:∀L:List D,(A++L).take (A.length+1+1)=A++L.take 2:=λL=>by rw[dz,List.take_length_add_append]
 have d2:∀L:List D,(A++L).drop (A.length+1+1)=L.drop 2:=λL=>by rw[dz,cp]
 have d1:∀L:List D,(A++L).drop (A.length+1)=L.drop 1:=λL=>by rw[cp]
 have d3:∀L:List D,(A++L).drop (A.length+1+1+1)=L.drop 3:=λL=>by rw[dz,dz,cp]
 have k1:A.length+1+1<=A.length+(B.length+1+1+1):=by omega
 have k2:A.length+1+1+1<=A.length+(B.length+1+1+1):=by omega
 have k3:A.length+1<=A.length+(B.length+1+1+1):=by omega
 have k4:A.length+2+1<=A.length+(B.length+1+1+1):=by omega
 have d4:∀L:List D,(A++L).drop (A.length+2)=L.drop 2:=λL=>by rw[cp]
 have d5:∀L:List D,(A++L).drop (A.length+2+1)=L.drop 3:=λL=>by rw[dz,cp]
 have t4:∀L:List D,(A++L).take (A.length+2)=A++L.take 2:=λL=>by rw[List.take_length_add_append]
 have y1:=eF (n:=o.m);have y2:=eF (n:=o.h);have y3:=eF (n:=o.k);have y4:=eF (n := -o.m);have y5:=eF (n := -o.h);have y6:=eF (n := -o.k);rcases hs with rfl | rfl
 .have w1:=eF (n:=x.m+o.m);have w2:=eF (n:=x.h+o.h);have w3:=eF (n:=x.k+o.k);simp[-length_flatMap,-map_take,hF,gs,<- hA,w1,w2,w3,y1,y2,y3,t1,t2,t4,d1,d2,d3,d4,d5,k1,k2,k3,k4,aD.aI.move]
 .have w1:=eF (n:=x.m + -o.m);have w2:=eF (n:=x.h + -o.h);have w3:=eF (n:=x.k + -o.k);simp[-length_flatMap,-map_take,hF,gs,<- hA,w1,w2,w3,y4,y5,y6,t1,t2,t4,d1,d2,d3,d4,d5,k1,k2,k3,k4,aD.aI.move]
theorem SZ{w:bE}{r:Int}(hr : -100000<=r/\r<=100000)(h1:0<=w.h/\w.h<=3000)(h2:0<=w.m/\w.m<=1000000):
  lim T (.call false 225 [.agg w.enc,.int .i64 r] J)=some (.val (.agg (w.given r).enc) J):=by
 refine au C0 oV.eq_1 rfl ?_;have b1 : -300000000<=r*w.h/\r*w.h<=300000000:=by
  rcases kX 0 r with h | h
  .have:=mZ h hr.2 h1.1 h1.2;omega
  .have:=mZ (a := -r) (A:=100000) (by omega) (by omega) h1.1 h1.2;rw[Int.neg_mul]at this;omega
 have b2 : -100000000000<=r*w.m/\r*w.m<=100000000000:=by
  rcases kX 0 r with h | h
  .have:=mZ h hr.2 h2.1 h2.2;omega
  .have:=mZ (a := -r) (A:=100000) (by omega) (by omega) h2.1 h2.2;rw[Int.neg_mul]at this;omega
 have w1:=eF (n := -r);have w2:=eF (n := -(r*w.h));have w3:=eF (n := -(r*w.m));simp[-length_flatMap,-map_take,w1,w2,w3,bE.given,Int.neg_mul]
theorem Y8{b:b9}{m:cq}(h:Fv b m){i:Nat}(hi:i<b.n):lim T (.call false 227 [.agg [.int .i64 b.f.x,.int .i64 b.f.y,.int .i64 b.f.z,.int .i64 b.f.k,.aG b.b8.length (b.b8.flatMap Rw.enc),.int .i64 b.bF,.int .i64 b.lift,.int .i64 b.deep,.aG b.ak.length (b.ak.flatMap bE.enc),.str m.name,.aG m.bg.length (m.bg.flatMap aX)],.int .i64 i] J)=some (.val (.agg (L6 b m i).enc) J):=by
 refine au C6 oY.eq_1 rfl ?_;have hf:=λJ=>VP (J:=J) h.toMv hi
 have b1:=h.feed i hi;have b2:=h.bv.deep;have b3:=mZ b1.1 b1.2 b2.1 b2.2;have w1:=eF (n:=feed b m i*b.deep);simp[-length_flatMap,-map_take,hf,w1,L6]
theorem SS{s:List aD.aI}{bs:List az.aI}(hl:s.length<=1000000)(hne:s≠[]):lim T (.call true 222 [.aG s.length (s.flatMap aI.enc)] (bs::J)) =
  some (.val (.sl J.length (bs.length+1) 1 0 s.length 3) ((bs++[.cells 0 [],.cells 1 (s.flatMap aI.enc)])::J)):=by
 refine vO rB cQ.eq_1 rfl ?_;have h7:s.length*24<=room:=by unfold room;omega
 simp[-length_flatMap,-map_take,hne,Fs,h7]
theorem S4{b:b9}:lim T (.call false 254 [.agg [.int .i64 b.f.x,.int .i64 b.f.y,.int .i64 b.f.z,.int .i64 b.f.k,.aG b.b8.length (b.b8.flatMap Rw.enc),.int .i64 b.bF,.int .i64 b.lift,.int .i64 b.deep,.aG b.ak.length (b.ak.flatMap bE.enc)]] J)=some (.val (.fn 266 [] [.bu [.int .i64 b.f.x,.int .i64 b.f.y,.int .i64 b.f.z,.int .i64 b.f.k,.aG b.b8.length (b.b8.flatMap Rw.enc),.int .i64 b.bF,.int .i64 b.lift,.int .i64 b.deep,.aG b.ak.length (b.ak.flatMap bE.enc)]]) J):=by
 refine au DV pZ.eq_1 rfl ?_;simp[-length_flatMap,-map_take,cl,bh,bq]
theorem Bv.xy{b:b9}(h:Bv b):b.f.x=(b.f.x.toNat:Int)/\b.f.y=(b.f.y.toNat:Int)/\1<=b.f.x.toNat*b.f.y.toNat/\b.f.x.toNat*b.f.y.toNat<=64:=by
 have hx:=h.x;have hy:=h.y;obtain⟨s1,_⟩:=eu.sz h.x h.y h.z;have e1:b.f.x*b.f.y=((b.f.x.toNat*b.f.y.toNat:Nat):Int):=by push_cast;rw[eC (by omega),eC (by omega)]
 rw[e1]at s1;refine⟨by omega,by omega,by omega,by omega⟩
theorem Bv.nat{b:b9}(h:Bv b):b.n=b.f.x.toNat*b.f.y.toNat*b.f.z.toNat/\1<=b.f.x.toNat/\1<=b.f.y.toNat:=by
 have hx:=h.x;have hy:=h.y;have hz:=h.z;have hs:=h.sz;refine⟨?_,by omega,by omega⟩;have:((b.f.x.toNat*b.f.y.toNat*b.f.z.toNat:Nat):Int)=b.f.size:=by
  push_cast;rw[eC (by omega),eC (by omega),eC (by omega)];rfl
 omega
theorem Va{X W i n:Nat}(hn:n=X*W)(hi:i<n)(hc:(i+1)%X≠0):i+1<n:=by
 rcases Nat.lt_or_ge (i+1) n with h | h
 .exact h
 .have:i+1=X*W:=by omega
  rw[this,Nat.mul_mod_right]at hc;exact absurd rfl hc
theorem link2{X Y Z i n:Nat}(hX:1<=X)(hY:1<=Y)(hn:n=X*Y*Z)(hi:i<n)(hc:i / X%Y≠Y-1):i+X<n:=by
 have h1:i / X<Y*Z:=by rw[Nat.div_lt_iff_lt_mul hX,Nat.mul_comm,<- Nat.mul_assoc];omega
 have h2:i / X+1<Y*Z:=by
  rcases Nat.lt_or_ge (i / X+1) (Y*Z)with h | h
  .exact h
  .exfalso
   have h3:i / X+1=Y*Z:=by omega
   have hZ:1<=Z:=by
    rcases Nat.eq_zero_or_pos Z with h0 | h0
    .subst h0;omega
    .exact h0
   have h4:i / X=Y*(Z-1)+(Y-1):=by
    have:Y*Z=Y*(Z-1)+Y:=by rw[<- Nat.mul_succ];congr 1;omega
    omega
   rw[h4,Nat.mul_add_mod,Nat.mod_eq_of_lt (by omega)]at hc;exact hc rfl
 have h3:i<(i / X+1)*X:=by
  have:=Nat.div_add_mod i X;have h4:=Nat.mod_lt i (show X>0 by omega);rw[iG,Nat.one_mul,Nat.mul_comm (i / X) X];omega
 have h5:(i / X+1)*X+X<=n:=by
  have:(i / X+1+1)*X<=Y*Z*X:=ct _ h2;rw[iG (i / X+1) 1 X,Nat.one_mul,Nat.mul_comm (Y*Z) X,<- Nat.mul_assoc]at this;omega
 omega
theorem M3{b:b9}(h:Bv b){lv j N:Nat}{St:List (Nat×Nat)->SK}(hN:∀pre,(St pre).length=N)
  (hR:∀pre,∀l:Nat×Nat,l.1<b.n->l.2<b.n->l.1≠l.2->lim T (.round lv j [.agg [.int .i64 l.1,.int .i64 l.2]] ([]::St pre))=some (.val (.bool true) ([]::St (pre++[l])))):∀(n i:Nat) (pre:List (Nat×Nat)),i+n=b.n ->
  WL T [0,1,3,4,13,14] false gR [(0,.kJ lv j),(1,.bu [.int .i64 b.f.x,.int .i64 b.f.y,.int .i64 b.f.z,.int .i64 b.f.k,.aG b.b8.length (b.b8.flatMap Rw.enc),.int .i64 b.bF,.int .i64 b.lift,.int .i64 b.deep,.aG b.ak.length (b.ak.flatMap bE.enc)]),(3,.int .i64 b.f.x),(4,.int .i64 b.f.y),(13,.int .i64 b.n),(14,.int .i64 i)] ([]::St pre)
   (λx e J'=>J'=[]::St (pre++((List.range b.n).drop i).flatMap (xG b))/\x=.exit 0)
 |0,i,pre,hi=>by
  refine aJ gR.eq_1 ?_;have h1:¬i<b.n:=by omega
  have h2:(List.range b.n).drop i=[]:=aA (by simp;omega);simp[-length_flatMap,-map_take,h1,h2]
 |n+1,i,pre,hi=>by
  refine aJ gR.eq_1 ?_;have h1:i<b.n:=by omega
  have hn:=h.n;have hx:=h.x;have hy:=h.y;obtain⟨eX,eY,p1,p2⟩:=h.xy;have h4:=eT h1;have hs:=λJ=>yw (J:=J) h
  have h5:(List.range b.n).drop i=i::(List.range b.n).drop (i+1):=drop_at (by simp[h1]);have w1:=eF (n:=b.f.x*b.f.y) (by rw[eX,eY];omega);obtain⟨hnn,X1,Y1⟩:=h.nat;have hx0:¬b.f.x=0:=by omega
  have hy0:¬b.f.y=0:=by omega
  have ih:=λpre=>M3 h hN hR n (i+1) pre (by omega)
  have e1:((i:Int)+1).tmod b.f.x=(((i+1)%b.f.x.toNat:Nat):Int):=by
   conv=>lhs;rw[eX]
   rfl
  have e2:(i:Int) / b.f.x=((i / b.f.x.toNat:Nat):Int):=by
   conv=>lhs;rw[eX]
   rfl
  have e2b:(i:Int).tdiv b.f.x=((i / b.f.x.toNat:Nat):Int):=by
   conv=>lhs;rw[eX]
   rfl
  have e3:((i / b.f.x.toNat:Nat):Int).tmod b.f.y=((i / b.f.x.toNat%b.f.y.toNat:Nat):Int):=by
   conv=>lhs;rw[eY]
   rfl
  have e4:b.f.x*b.f.y=((b.f.x.toNat*b.f.y.toNat:Nat):Int):=by
   conv=>lhs;rw[eX,eY]
   rfl
  have hq:i / b.f.x.toNat<=i:=Nat.div_le_self _ _;have hr1:(i+1)%b.f.x.toNat<=i+1:=Nat.mod_le _ _;have hr2:i / b.f.x.toNat%b.f.y.toNat<=i / b.f.x.toNat:=Nat.mod_le _ _;have l1:=Va (W:=b.f.y.toNat*b.f.z.toNat) (by rw[hnn,Nat.mul_assoc]) h1;have l2:=link2 (Z:=b.f.z.toNat) X1 Y1 hnn h1;have R1:=λpre hc=>hR pre (i,i+1) h1 (l1 hc) (by simp)
  have R2:=λpre hc=>hR pre (i,i+b.f.x.toNat) h1 (l2 hc) (by simp;omega)
  have R3:=λpre hc=>hR pre (i,i+b.f.x.toNat*b.f.y.toNat) h1 hc (by simp;omega)
  have z2:((i+b.f.x.toNat:Nat):Int)=(i:Int)+b.f.x:=by omega
  have z3:((i+b.f.x.toNat*b.f.y.toNat:Nat):Int)=(i:Int)+b.f.x*b.f.y:=by rw[e4];omega
  have z1:((i+1:Nat):Int)=(i:Int)+1:=rfl;simp only[z1,z2,z3]at R1 R2 R3;generalize hA:i / b.f.x.toNat=A at *
  generalize hB:A%b.f.y.toNat=B at *
  generalize hC:(i+1)%b.f.x.toNat=C at *
  generalize hP:b.f.x.toNat*b.f.y.toNat=P at *
  have v1:=eF (n:=(A:Int));have v2:=eF (n:=(B:Int));have v3:=eF (n:=(C:Int));have v4:=eF (n:=b.f.y-1);have v5:=eF (n:=(i:Int)+b.f.x);have v6:=eF (n:=(i:Int)+b.f.x*b.f.y) (by rw[e4];omega);have v7:=eF (n:=b.f.x*b.f.y) (by rw[e4];omega);have c3:((i:Int)+b.f.x*b.f.y<(b.n:Int))↔(i+P<b.n):=by rw[e4];omega
  have hL:xG b i=(if C≠0 then [(i,i+1)]else [])++((if B≠b.f.y.toNat-1 then [(i,i+b.f.x.toNat)]else [])++(if i+P<b.n then [(i,i+P)]else [])):=by
   unfold xG;rw[hC,hA,hB,hP]
  rw[h5,aT,hL];clear hL hnn l1 l2;have t1:((C:Int)=0)↔(C=0):=by omega
  have t2:((B:Int)=b.f.y-1)↔(B=b.f.y.toNat-1):=by omega
  by_cases k1:C=0<;>by_cases k2:B=b.f.y.toNat-1<;>by_cases k3:i+P<b.n;all_goals
   first | (have u1:=t1.2 k1) | (have u1:=mt t1.1 k1)
   first | (have u2:=t2.2 k2) | (have u2:=mt t2.1 k2)
   have ih':=ih (pre++((if C≠0 then [(i,i+1)]else [])++((if B≠b.f.y.toNat-1 then [(i,i+b.f.x.toNat)]else [])++(if i+P<b.n then [(i,i+P)]else []))));first
    |(rw[if_neg (not_not_intro k1)]at ih' ⊢) | (rw[if_pos k1]at ih' ⊢)
   first
    |(rw[if_neg (not_not_intro k2)]at ih' ⊢) | (rw[if_pos k2]at ih' ⊢)
   first
    |(rw[if_neg k3]at ih' ⊢) | (rw[if_pos k3]at ih' ⊢)
   have g1:=λpre=>R1 pre
   have g2:=λpre=>R2 pre
   have g3:=λpre=>R3 pre
   first | (have g1:=λpre=>R1 pre k1) | skip
   first | (have g2:=λpre=>R2 pre k2) | skip
   first | (have g3:=λpre=>R3 pre k3) | skip
   simp[-length_flatMap,-map_take,h1,h4,hx0,hy0,e1,e2,e2b,e3,v1,v2,v3,v4,v5,v6,v7,c3,u1,u2,k1,k3,hs,g1,g2,g3];refine WL.to ih' (by simp) (by simp) λx e J hh=>by simpa using hh
theorem PV{b:b9}(h:Bv b){lv j N:Nat}{St:List (Nat×Nat)->SK}(hN:∀pre,(St pre).length=N)
  (hR:∀pre,∀l:Nat×Nat,l.1<b.n->l.2<b.n->l.1≠l.2->lim T (.round lv j [.agg [.int .i64 l.1,.int .i64 l.2]] ([]::St pre))=some (.val (.bool true) ([]::St (pre++[l])))):
  lim T (.call false 266 [.kJ lv j,.bu [.int .i64 b.f.x,.int .i64 b.f.y,.int .i64 b.f.z,.int .i64 b.f.k,.aG b.b8.length (b.b8.flatMap Rw.enc),.int .i64 b.bF,.int .i64 b.lift,.int .i64 b.deep,.aG b.ak.length (b.ak.flatMap bE.enc)]] (St []))=some (.val (.dj []) (St (Ic b))):=by
 refine eQ Cj nu.eq_1 rfl (by rw[hN,hN]) ?_;have hs:=λJ=>yw (J:=J) h
 simp[-length_flatMap,-map_take,hs];refine WL.to (M3 h hN hR b.n 0 [] (by omega)) (by simp) rfl ?_;rintro x e J' ⟨rfl,rfl⟩;simp[-length_flatMap,-map_take,Ic]
def CS(es:List ((Nat×Nat)×aD.aI)):List D:=es.map λe => .dj [.agg [.int .i64 e.1.1,.int .i64 e.1.2],.agg e.2.enc]
def YC:Ky:=some (true,[some .i64,some .i64])
theorem Z0{a b:Nat×Nat}:sG YC (.agg [.int .i64 a.1,.int .i64 a.2]) (.agg [.int .i64 b.1,.int .i64 b.2])=some (b == a):=by
 simp only[sG,YC,D.row,zn,and_self,if_true,aQ,Bool.and_true];congr 1;rw[Bool.eq_iff_iff];simp only[ae,beq_iff_eq];constructor
 .rintro⟨h1,h2⟩;exact Prod.ext (by omega) (by omega)
 .rintro rfl;exact⟨rfl,rfl⟩
theorem Ko{k:Nat×Nat}:∀{es:List ((Nat×Nat)×aD.aI)},∃r,pJ YC (.agg [.int .i64 k.1,.int .i64 k.2]) (CS es)=some r/\r.map Prod.fst=es.findIdx? (λe=>e.1 == k)
 |[]=>⟨none,rfl,rfl⟩
 |e::es=>by
  obtain⟨r,h1,h2⟩:=Ko (k:=k) (es:=es);simp only[CS,aN]at h1 ⊢;simp only[pJ,Z0];cases hk:e.1 == k
  .refine⟨_,by rw[h1];rfl,?_⟩;rw[List.findIdx?_cons,hk,<- h2];cases r<;>rfl
  .exact⟨_,rfl,by rw[List.findIdx?_cons,hk];rfl⟩
theorem RE{S:SK}{l i:Nat}{es:List ((Nat×Nat)×aD.aI)}{k:Nat×Nat}{o:aD.aI}(h:cells? S l i 0=some (CS es)):
  Aj S (.put YC) [.kJ l i,.agg [.int .i64 k.1,.int .i64 k.2],.agg o.enc]=some (.undef,aR S l i (.cells 0 (CS (Pl es k o)))):=by
 obtain⟨r,h1,h2⟩:=Ko (k:=k) (es:=es);simp only[Aj,Ai,h,aQ,h1,Z0,Option.isSome_some,true_and];rw[if_pos (.inr ⟨by simp[D.clean],by simp[D.clean]⟩)];unfold Pl;rw[<- h2];cases r with
 |none=>simp[CS]
 |some y=>simp[CS,List.map_set]
theorem GN{x:aD.aI}{A:Int}(hA:10000<=A):∀(t:List Rw) (o:Int),(∀r∈t,r.alone=true)->(0<=o/\o<=A)->0<=t.foldl (oJ x) o/\t.foldl (oJ x) o<=A
 |[],o,_,h=>h
 |r::t,o,ht,h=>by
  have h1:=RZ (ht r (by simp));refine GN hA t _ (λr hr=>ht r (by simp[hr])) ?_;unfold oJ;split<;>omega
theorem Jp{b:b9}{m:cq}{s:List aD.aI}(h:Fv b m)(hs:Sv b s){i:Nat}(hi:i<b.n):0<=jG b m s i/\jG b m s i<=200000000000:=by
 have htab:=h.bv.b8;simp only[jj,ae]at htab;refine GN (by omega) _ _ (iI.1 htab.2.1) ?_;have b5:=Ba h.bv hi;have b1:=h.hold i hi;obtain⟨hx,b2,b3,b4⟩:=hs.at hi;have hst:=h.bv.bF;have b6:b.bF*((bL s i).m-hold b m i)<=100000000000:=by
  rcases kX (hold b m i) (bL s i).m with hh | hh
  .have:=mZ (a:=b.bF) (b:=(bL s i).m-hold b m i) (A:=100000) (B:=1000000) (by omega) hst.2 (by omega) (by omega);omega
  .have:=mZ (a:=b.bF) (b:=hold b m i-(bL s i).m) (A:=100000) (B:=1000000) (by omega) hst.2 (by omega) (by omega);have e:b.bF*((bL s i).m-hold b m i) = - (b.bF*(hold b m i-(bL s i).m)):=by rw[<- Int.mul_neg];congr 1;omega
   omega
 have b7:down (b.bF*((bL s i).m-hold b m i)) (hold b m i)<=100000000000:=by
  unfold down;have:=Int.ediv_le_self (b:=hold b m i) (a:=b.bF*((bL s i).m-hold b m i));rcases kX 0 (b.bF*((bL s i).m-hold b m i))with hh | hh
  .have:=this hh;omega
  .have:=Int.ediv_le_of_le_mul (b:=0) (show 0<hold b m i by omega) (by omega:b.bF*((bL s i).m-hold b m i)<=0*hold b m i);omega
 omega
theorem yD{O:bI}{c c':bX}(hc:c=c'){e:Env}{J:SK}{Q:az.Exit->Env->SK->Prop}:WC O c e J Q .mk .mk=WC O c' e J Q .mk .mk:=by subst hc;rfl
def O6(b:b9)(m:cq)(s:List aD.aI)(L:Nat):wk :=
 {state:=0,wQ:=none,env:=[(2,.bu [.int .i64 b.f.x,.int .i64 b.f.y,.int .i64 b.f.z,.int .i64 b.f.k,.aG b.b8.length (b.b8.flatMap Rw.enc),.int .i64 b.bF,.int .i64 b.lift,.int .i64 b.deep,.aG b.ak.length (b.ak.flatMap bE.enc),.str m.name,.aG m.bg.length (m.bg.flatMap aX)]),(3,.bu [.aG s.length (s.flatMap aI.enc)]),(4,.undef),(5,.ref L 3 0 0),(6,.ref L 4 0 0)],params:=[18],zh:=fx,body:=cu }
def Ps(A B:az.aI)(b:b9)(m:cq)(s:List aD.aI)(J:SK)(es:List ((Nat×Nat)×aD.aI)):SK :=
 [A,B,.cells 0 (CS es),.cells 0 [.kJ J.length 2],.cells 0 [.aG (bP b m s).length ((bP b m s).flatMap aX)],.loop (O6 b m s J.length)]::J
theorem Wi{A B:az.aI}{b:b9}{m:cq}{s:List aD.aI}(h:Fv b m)(hs:Sv b s)(es:List ((Nat×Nat)×aD.aI))(l:Nat×Nat)(h1:l.1<b.n)(h2:l.2<b.n):
  lim T (.round J.length 5 [.agg [.int .i64 l.1,.int .i64 l.2]] ([]::Ps A B b m s J es))=some (.val (.bool true) ([]::Ps A B b m s J (ot b m s (bP b m s) es l))):=by
 have hn:=h.bv.n;have hl:=hs.len;have hp1:(bP b m s)[l.1]?=some (jG b m s l.1):=by simp[bP,hl,h1]
 have hp2:(bP b m s)[l.2]?=some (jG b m s l.2):=by simp[bP,hl,h2]
 have a1:=pv hp1;have a2:=pv hp2;have hpl:(bP b m s).length=b.n:=by rw[Jo,hl]
 have bp1:=Jp h hs h1;have bp2:=Jp h hs h2;have bw1:=Ba h.bv h1;have bw2:=Ba h.bv h2;have cw1:=λJ=>FO (J:=J) (m:=m) h.bv h1
 have cw2:=λJ=>FO (J:=J) (m:=m) h.bv h2
 have co1:=λJ=>P0 (J:=J) h.toMv h1
 have co2:=λJ=>P0 (J:=J) h.toMv h2
 have bo1:=h.Hx l.1 h1;have bo2:=h.Hx l.2 h2;obtain⟨x1,m1,m2,m3⟩:=hs.at h1;obtain⟨y1,n1,n2,n3⟩:=hs.at h2;have f1:=cf (f:=aI.enc) (w:=3) (λ_=>rfl) x1;have f2:=cf (f:=aI.enc) (w:=3) (λ_=>rfl) y1;have w1:=eF (n:=jG b m s l.1-weight b l.1);have w2:=eF (n:=jG b m s l.1-weight b l.1-jG b m s l.2);have w3:=eF (n:=jG b m s l.1-weight b l.1-jG b m s l.2+weight b l.2);have hL1:l.1<s.length:=by omega
 have hL2:l.2<s.length:=by omega
 have hE:ot b m s (bP b m s) es l=ot b m s (bP b m s) es l:=rfl
 conv at hE=>rhs;unfold ot I6
 simp only[hp1,hp2,fj]at hE;generalize ot b m s (bP b m s) es l=es' at *
 have hmin:0<=min (Hx b m l.2) (Hx b m l.1)/\min (Hx b m l.2) (Hx b m l.1)<=1000:=by omega
 have hmin':0<=min (Hx b m l.1) (Hx b m l.2)/\min (Hx b m l.1) (Hx b m l.2)<=1000:=by omega
 generalize hw1:weight b l.1=W1 at *
 generalize hw2:weight b l.2=W2 at *
 generalize hq1:jG b m s l.1=P1 at *
 generalize hq2:jG b m s l.2=P2 at *
 generalize hD:P1-W1-P2+W2=d at *
 refine K0 (lp:=O6 b m s J.length) (by simp[Ps]) rfl ?_;rw[show(O6 b m s J.length).zh=fx from rfl,fx.eq_1,show(O6 b m s J.length).body=cu from rfl];by_cases hd:d<0
 .simp only[hd,if_true]at hE;have b3:=mZ hmin.1 hmin.2 (show 0 <= -d by omega) (show -d<=1000000000000 by omega);have w4:=eF (n := -d);have d1:=bd (b:=1000) b3.1;have d2:=bd (b:=8) (show 0<=(bL s l.2).m by omega);generalize hX:min (Hx b m l.2) (Hx b m l.1) * -d=X at *
  have w5:=eF (n:=X);generalize hY:X.tdiv 1000=Y at *
  generalize hZ:(bL s l.2).m.tdiv 8=Z at *
  have w6:=eF (n:=Y) (by rw[d1];omega);have w7:=eF (n:=Z) (by rw[d2];omega);by_cases hq:0<min Y Z
  .have hO:=λJ=>P3 (J:=J) (q:=min Y Z) n1 n2 n3 ⟨by omega,by rw[d2];omega⟩
   have hP:=λS h=>RE (S:=S) (l:=J.length) (i:=2) (es:=es) (k:=(l.2,l.1)) (o:=(bL s l.2).out (min Y Z)) h
   rw[if_pos hq]at hE;simp only at hE;subst hE;generalize (bL s l.2).out (min Y Z)=O at *
   simp only[aI.enc]at hO;simp only[aI.enc,YC]at hP;simp[-length_flatMap,-map_take,yD cu.eq_1,O6,Ps,Pa,hpl,h1,h2,a1,a2,cw1,cw2,w1,w2,w3,hD,hd,co1,co2,hL1,hL2,f1,f2,w4,w5,w6,w7,hX,hY,hZ,hq,hO,hP]
  .rw[if_neg hq]at hE;simp only at hE;subst hE;simp[-length_flatMap,-map_take,yD cu.eq_1,O6,Ps,Pa,hpl,h1,h2,a1,a2,cw1,cw2,w1,w2,w3,hD,hd,co1,co2,hL1,hL2,f1,f2,w4,w5,w6,w7,hX,hY,hZ,hq]
 .simp only[hd,if_false]at hE;have b3:=mZ hmin'.1 hmin'.2 (show 0<=d by omega) (show d<=1000000000000 by omega);have w4:=eF (n:=d);have d1:=bd (b:=1000) b3.1;have d2:=bd (b:=8) (show 0<=(bL s l.1).m by omega);generalize hX:min (Hx b m l.1) (Hx b m l.2)*d=X at *
  have w5:=eF (n:=X);generalize hY:X.tdiv 1000=Y at *
  generalize hZ:(bL s l.1).m.tdiv 8=Z at *
  have w6:=eF (n:=Y) (by rw[d1];omega);have w7:=eF (n:=Z) (by rw[d2];omega);by_cases hq:0<min Y Z
  .have hO:=λJ=>P3 (J:=J) (q:=min Y Z) m1 m2 m3 ⟨by omega,by rw[d2];omega⟩
   have hP:=λS h=>RE (S:=S) (l:=J.length) (i:=2) (es:=es) (k:=l) (o:=(bL s l.1).out (min Y Z)) h
   rw[if_pos hq]at hE;simp only at hE;subst hE;generalize (bL s l.1).out (min Y Z)=O at *
   simp only[aI.enc]at hO;simp only[aI.enc,YC]at hP;simp[-length_flatMap,-map_take,yD cu.eq_1,O6,Ps,Pa,hpl,h1,h2,a1,a2,cw1,cw2,w1,w2,w3,hD,hd,co1,co2,hL1,hL2,f1,f2,w4,w5,w6,w7,hX,hY,hZ,hq,hO,hP]
  .rw[if_neg hq]at hE;simp only at hE;subst hE;simp[-length_flatMap,-map_take,yD cu.eq_1,O6,Ps,Pa,hpl,h1,h2,a1,a2,cw1,cw2,w1,w2,w3,hD,hd,co1,co2,hL1,hL2,f1,f2,w4,w5,w6,w7,hX,hY,hZ,hq]
theorem SY{A B:az.aI}{b:b9}{m:cq}{s:List aD.aI}(h:Fv b m)(hs:Sv b s):∃X Y Z:az.aI,
  lim T (.call true 223 [.agg [.int .i64 b.f.x,.int .i64 b.f.y,.int .i64 b.f.z,.int .i64 b.f.k,.aG b.b8.length (b.b8.flatMap Rw.enc),.int .i64 b.bF,.int .i64 b.lift,.int .i64 b.deep,.aG b.ak.length (b.ak.flatMap bE.enc),.str m.name,.aG m.bg.length (m.bg.flatMap aX)],.aG s.length (s.flatMap aI.enc)] ([A,B]::J))=some (.val (.kJ J.length 2) ([A,B,.cells 0 (CS (vc b m s)),X,Y,Z]::J)):=by
 refine⟨.cells 0 [.kJ J.length 2],.cells 0 [.aG (bP b m s).length ((bP b m s).flatMap aX)],.loop {O6 b m s J.length with state:=3 },?_⟩;refine vO BL mh.eq_1 rfl ?_;have hp:=λJ hJ=>JX (J:=J) h hs hJ
 have hl:=PV (b:=b) h.bv (lv:=J.length) (j:=5) (N:=J.length+1) (St:=λpre=>Ps A B b m s J (pre.foldl (ot b m s (bP b m s)) [])) (λpre=>by simp[Ps])
  (λpre l h1 h2 _=>by rw[List.foldl_append];exact Wi h hs _ l h1 h2)
 have hm:Aj ([A,B]::J) .make []=some (.kJ J.length 2,[A,B,.cells 0 (CS [])]::J):=by simp[Aj,CS]
 simp[-length_flatMap,-map_take,hp,S4,cl,bh,bq,Gj,hm];refine Nd (d:=.dj []) (J2:=Ps A B b m s J (vc b m s)) (lp:=O6 b m s J.length) (by simp;exact⟨rfl,rfl,rfl⟩) ?_ (by simp[Ps]) (by simp[O6]) ?_
 .simpa[O6,Ps,vc]using hl
 .simp[-length_flatMap,-map_take,O6,Ps]
end
section
open Go Go.az Go.aD
def Bi(N:Int)(s:List aD.aI):Prop:=∀x∈s,sm x N
theorem ji{x:aD.aI}{N M:Int}(h:sm x N)(hN:N<=M):sm x M:=by
 obtain⟨h1,h2,h3⟩:=h;exact⟨⟨by omega,by omega⟩,⟨by omega,by omega⟩,⟨by omega,by omega⟩⟩
theorem Ge{N:Int}{s:List aD.aI}(h:Bi N s){i:Nat}(hi:i<s.length):s[i]?=some (bL s i)/\sm (bL s i) N:=by
 have h2:s[i]?=some (bL s i):=by simp[bL,hi]
 exact⟨h2,h _ (ai h2)⟩
theorem Dx{s:List aD.aI}{i:Nat}{o:aD.aI}{sign:Int}:(ga s i o sign).length=s.length:=by simp[ga]
theorem yM{N M:Int}{s:List aD.aI}(h:Bi N s){i:Nat}{o:aD.aI}{sign:Int}(ho:sm o M)(hs:sign=1\/sign = -1)(hM:0<=M):Bi (N+M) (ga s i o sign):=by
 intro x hx;unfold ga at hx;by_cases hi:i<s.length
 .rcases List.mem_or_eq_of_mem_set hx with hx | rfl
  .exact ji (h x hx) (by omega)
  .obtain⟨a1,a2,a3⟩:=(Ge h hi).2;obtain⟨b1,b2,b3⟩:=ho;rcases hs with rfl | rfl
   .exact⟨⟨by simp only[aD.aI.move];omega,by simp only[aD.aI.move];omega⟩,⟨by simp only[aD.aI.move];omega,by simp only[aD.aI.move];omega⟩,⟨by simp only[aD.aI.move];omega,by simp only[aD.aI.move];omega⟩⟩
   .exact⟨⟨by simp only[aD.aI.move];omega,by simp only[aD.aI.move];omega⟩,⟨by simp only[aD.aI.move];omega,by simp only[aD.aI.move];omega⟩,⟨by simp only[aD.aI.move];omega,by simp only[aD.aI.move];omega⟩⟩
 .rw[List.set_eq_of_length_le (by omega)]at hx;exact ji (h x hx) (by omega)
theorem Bo{s:List aD.aI}{i j:Nat}{o p:aD.aI}{a c:Int}:ga (ga s i o a) j p c=ga (ga s j p c) i o a:=by
 by_cases hij:i=j
 .subst hij;by_cases hi:i<s.length
  .simp only[ga,bL,List.getElem?_set_self hi,fj,List.set_set,aD.aI.move];congr 2<;>omega
  .simp only[ga,List.set_eq_of_length_le (show s.length<=i by omega)]
 .have hji:¬j=i:=λh=>hij h.symm
  simp only[ga,bL,List.getElem?_set_ne hij,List.getElem?_set_ne hji];rw[List.set_comm _ _ hij]
theorem OO{s:List aD.aI}{e f:(Nat×Nat)×aD.aI}:dJ (dJ s e) f=dJ (dJ s f) e:=by
 unfold dJ;rw[Bo (i:=e.1.2) (j:=f.1.1),Bo (i:=e.1.1) (j:=f.1.1),Bo (i:=e.1.2) (j:=f.1.2),Bo (i:=e.1.1) (j:=f.1.2)]
theorem Ks{s:List aD.aI}{e:(Nat×Nat)×aD.aI}:(dJ s e).length=s.length:=by simp[dJ,Dx]
def HD(es:List ((Nat×Nat)×aD.aI))(s:List aD.aI)(j:Nat):List aD.aI:=match es[j]? with | some e=>dJ s e | none=>s
theorem Sp{es:List ((Nat×Nat)×aD.aI)}{s:List aD.aI}{i j:Nat}:HD es (HD es s i) j=HD es (HD es s j) i:=by
 unfold HD;cases es[i]? <;> cases es[j]? <;> simp[OO]
theorem UA{es:List ((Nat×Nat)×aD.aI)}{s:List aD.aI}{j:Nat}:(HD es s j).length=s.length:=by
 unfold HD;split<;>simp[Ks]
theorem IB:∀(es:List ((Nat×Nat)×aD.aI)) (s:List aD.aI) (n:Nat),n<=es.length->(List.range n).foldl (HD es) s=(es.take n).foldl dJ s
 |es,s,0,_=>by simp
 |es,s,n+1,h=>by
  obtain⟨e,he⟩:∃e,es[n]?=some e:=gE (by omega);rw[List.range_succ,List.foldl_append,IB es s n (by omega),List.take_add_one,he,List.foldl_append];simp[HD,he]
theorem Uz{es:List ((Nat×Nat)×aD.aI)}{s:List aD.aI}{js:List Nat}(hd:js.Nodup)(hm:∀j,j∈js↔j<es.length):js.foldl (HD es) s=es.foldl dJ s:=by
 have hp:js.Perm (List.range es.length):=(List.perm_ext_iff_of_nodup hd List.nodup_range).2 λa=>by simp[hm]
 rw[hp.foldl_eq' (λx _ y _ z=>Sp),IB es s es.length (aH _),ah (aH _)]
theorem O4{b:b9}:(Ic b).length<=3*b.n:=by
 have key:∀l:List Nat,(l.flatMap (xG b)).length<=3*l.length:=by
  intro l;induction l with
  |nil=>simp
  |cons i l ih =>
   rw[aT,bJ,aF];have:(xG b i).length<=3:=by
    unfold xG;simp only[bJ];split<;>split<;>split<;>simp
   omega
 have:=key (List.range b.n);rw[List.length_range]at this;exact this
theorem Rp{b:b9}(h:Bv b){l:Nat×Nat}(hl:l∈Ic b):l.1<b.n/\l.2<b.n:=by
 obtain⟨hnn,X1,Y1⟩:=h.nat;obtain⟨i,hi,hh⟩:=List.mem_flatMap.1 hl;have h1:i<b.n:=by simpa using hi
 unfold xG at hh;simp only[aZ]at hh;rcases hh with hh | hh | hh
 .split at hh
  .rename_i hc;simp at hh;subst hh;exact⟨h1,Va (W:=b.f.y.toNat*b.f.z.toNat) (by rw[hnn,Nat.mul_assoc]) h1 hc⟩
  .cases hh
 .split at hh
  .rename_i hc;simp at hh;subst hh;exact⟨h1,link2 (Z:=b.f.z.toNat) X1 Y1 hnn h1 hc⟩
  .cases hh
 .split at hh
  .rename_i hc;simp at hh;subst hh;exact⟨h1,hc⟩
  .cases hh
def PB(b:b9)(e:(Nat×Nat)×aD.aI):Prop:=(e.1.1<b.n/\e.1.2<b.n)/\sm e.2 1000000000000
theorem Mr{x:aD.aI}{q:Int}(hm:1<=x.m/\x.m<=1000000)(hh:0<=x.h/\x.h<=10000000000)(hk:0<=x.k/\x.k<=1000000000000)(hq:0<=q/\q<=x.m):sm (x.out q) 1000000000000:=by
 have b3:=Il hm.1 hh hq;have b4:=Il hm.1 hk hq;exact⟨⟨by simp only[aD.aI.out];omega,by simp only[aD.aI.out];omega⟩,⟨by simp only[aD.aI.out];omega,by simp only[aD.aI.out];omega⟩,⟨by simp only[aD.aI.out];omega,by simp only[aD.aI.out];omega⟩⟩
theorem ON{b:b9}{m:cq}{s:List aD.aI}(hs:Sv b s){p:List Int}{l:Nat×Nat}(h1:l.1<b.n)(h2:l.2<b.n){e:(Nat×Nat)×aD.aI}(he:I6 b m s p l=some e):PB b e:=by
 unfold I6 at he;simp only at he;generalize hd:(p[l.1]?).getD 0-weight b l.1-(p[l.2]?).getD 0+weight b l.2=d at he;generalize hl':(if d<0 then(l.2,l.1)else l)=l' at he;generalize hd':(if d<0 then -d else d)=d' at he;have hll:l'.1<b.n/\l'.2<b.n:=by
  rw[<- hl'];split<;>exact⟨by assumption,by assumption⟩
 obtain⟨_,m1,m2,m3⟩:=hs.at hll.1;split at he
 .rename_i hq;simp only[ad]at he;subst he;have d2:=bd (b:=8) (show 0<=(bL s l'.1).m by omega);exact⟨hll,Mr m1 m2 m3 ⟨by omega,by rw[d2];omega⟩⟩
 .cases he
theorem Uj{b:b9}{es:List ((Nat×Nat)×aD.aI)}{k:Nat×Nat}{o:aD.aI}(h:∀e∈es,PB b e)(ho:PB b (k,o)):(∀e∈Pl es k o,PB b e)/\(Pl es k o).length<=es.length+1:=by
 unfold Pl;split
 .constructor
  .intro e he;rcases List.mem_or_eq_of_mem_set he with he | rfl
   .exact h e he
   .exact ho
  .simp
 .constructor
  .intro e he;rcases aZ.1 he with he | he
   .exact h e he
   .simp at he;subst he;exact ho
  .simp
theorem Kt{b:b9}{m:cq}{s:List aD.aI}(h:Bv b)(hs:Sv b s):(∀e∈vc b m s,PB b e)/\(vc b m s).length<=192:=by
 have key:∀(ls:List (Nat×Nat)) (es:List ((Nat×Nat)×aD.aI)),(∀l∈ls,l.1<b.n/\l.2<b.n)->(∀e∈es,PB b e)->(∀e∈ls.foldl (ot b m s (bP b m s)) es,PB b e)/\(ls.foldl (ot b m s (bP b m s)) es).length<=es.length+ls.length:=by
  intro ls;induction ls with
  |nil=>intro es _ h;exact⟨h,by simp⟩
  |cons l ls ih =>
   intro es hl he;have hl0:=hl l (by simp);simp only[List.foldl_cons];have h1:(∀e∈ot b m s (bP b m s) es l,PB b e)/\(ot b m s (bP b m s) es l).length<=es.length+1:=by
    unfold ot;split
    .rename_i e hfe;exact Uj he (ON hs hl0.1 hl0.2 hfe)
    .exact⟨he,by omega⟩
   obtain⟨h2,h3⟩:=ih _ (λl hh=>hl l (by simp[hh])) h1.1;exact⟨h2,by simp only[aF];omega⟩
 obtain⟨h1,h2⟩:=key (Ic b) [] (λl hl=>Rp h hl) (by simp);have:=@O4 b;have hn:=h.n;exact⟨h1,by simp only[bj]at h2;unfold vc;omega⟩
theorem Kr{b:b9}{N:Int}{s:List aD.aI}{e:(Nat×Nat)×aD.aI}(h:Bi N s)(he:PB b e):Bi (N+2000000000000) (dJ s e):=by
 have h1:=yM (i:=e.1.1) (sign := -1) h he.2 (.inr rfl) (by omega);have h2:=yM (i:=e.1.2) (sign:=1) h1 he.2 (.inl rfl) (by omega);unfold dJ;rw[show N+2000000000000=N+1000000000000+1000000000000 by omega];exact h2
theorem N5{b:b9}{es:List ((Nat×Nat)×aD.aI)}(hes:∀e∈es,PB b e):∀(js:List Nat) (s:List aD.aI) (N:Int),Bi N s->Bi (N+2000000000000*js.length) (js.foldr (λj s=>HD es s j) s)
 |[],s,N,h=>by simpa using h
 |j::js,s,N,h=>by
  have ih:=N5 hes js s N h;simp only[List.foldr_cons,aF];generalize js.foldr (λj s=>HD es s j) s=s1 at *
  unfold HD;split
  .rename_i e he;have:=Kr ih (hes e (ai he));intro x hx;exact ji (this x hx) (by push_cast;omega)
  .intro x hx;exact ji (ih x hx) (by push_cast;omega)
theorem Sv.Bi{b:b9}{s:List aD.aI}(h:Sv b s):Bi 1000000000000 s:=by
 intro x hx;obtain⟨h1,h2,h3⟩:=aI.Jj.1 (h.ok x hx);exact⟨⟨by omega,by omega⟩,⟨by omega,by omega⟩,⟨by omega,by omega⟩⟩
end
end Go.Proofs.YtklfdfnoebnciaaGreatDoor
namespace Go.az
open List(length_flatMap map_take)
open Go
variable {T:zQ}
theorem yr{F:List aI}:∀{J:SK} {lv:Nat},eZ J lv=some F->lv<J.length
 |[],lv,h=>by simp[eZ]at h
 |s::J,lv,h=>by
  simp only[eZ]at h;split at h
  .rename_i h1;simp;omega
  .have:=yr h;simp;omega
section
variable {α:Type} {w:Nat} {enc:α->List D} (hw:∀x,(enc x).length=w) {p:α->Bool} {fv:D} {l:List α} {lv bi v:Nat} {F:List aI}
include hw in
theorem Gz(hF:F[bi]?=some (.cells v (l.flatMap enc)))(hl:l.length<=9223372036854775807)(ht:oP T fv (λx => .agg (enc x)) p l){J:SK}(hs:eZ J lv=some F):∀(m i:Nat),i+m=l.length ->
  WL T [0,1,7,8] false (Gy true w) [(0,.sl lv bi v 0 l.length w),(1,fv),(7,.int .i64 l.length),(8,.int .i64 i)] J
   (λx e J'=>J'=J/\if idxOf p (l.drop i)<0 then x=.exit 0 else x=.ret/\get e 4=.int .i64 (i+idxOf p (l.drop i)))
 |0,i,hi=>by
  obtain⟨h1,h2,h3⟩:=ht;refine aJ (Gy.eq_1 _ _) ?_;have:¬i<l.length:=by omega
  have h5:l.drop i=[]:=by simp;omega
  simp[this,h1,h2,h5,idxOf]
 |m+1,i,hi=>by
  have ih:=Gz hF hl ht hs m (i+1) (by omega);obtain⟨h1,h2,h3⟩:=ht;refine aJ (Gy.eq_1 _ _) ?_;have h4:i<l.length:=by omega
  obtain⟨x,hx⟩:=gE h4;have h5:=zx (f:=enc) hw hx;have h6:=h3 x (ai hx) J;have h7:=eT h4 hl;have h8:l.drop i=x::l.drop (i+1):=drop_at hx;have e1:∀r:List D,(enc x++r).take w=enc x:=λr=>by rw[<- hw x];simp
  have e2:∀r:Nat,w<=(enc x).length+r:=λr=>by rw[hw];omega
  cases hp:p x
  .rw[hp]at h6;simp[h4,h1,h2,h5,h6,h7,hs,hF,e1,e2];refine WL.mono (by simpa using ih) ?_;rintro x e J' ⟨h9,h10⟩;refine⟨h9,?_⟩;rw[h8];simp only[idxOf,hp,ar,if_false];by_cases h11:idxOf p (l.drop (i+1))<0
   .simpa[h11]using h10
   .rw[if_neg h11]at h10;rw[if_neg h11,if_neg (by omega)];refine⟨h10.1,?_⟩;rw[h10.2];congr 1;push_cast;omega
  .rw[hp]at h6;simp[h4,h1,h2,h5,h6,h7,hs,hF,e1,e2,h8,idxOf,hp]
include hw in
theorem Mc{f:Nat}(hT:T f=some (ud true w))(hF:F[bi]?=some (.cells v (l.flatMap enc)))(hl:l.length<=9223372036854775807)(ht:oP T fv (λx => .agg (enc x)) p l){J:SK}(hs:eZ J lv=some F):
  lim T (.call false f [.sl lv bi v 0 l.length w,fv] J)=some (.val (.int .i64 (idxOf p l)) J):=by
 refine au hT (ud.eq_1 _ _) rfl ?_;have hlt:=yr hs;have h:=Gz hw hF hl ht (lv:=lv) (F:=F) (J:=[]::J) (by simp[eZ,hs,show ¬J.length=lv by omega]) l.length 0 (by simp);obtain⟨h1,h2,h3⟩:=ht;simp[h1,h2];refine WL.mono (by simpa using h) ?_;rintro x e J' ⟨rfl,h10⟩
 try simp only[aK]at h10
 by_cases h11:idxOf p l<0
 .rw[if_pos h11]at h10;subst h10;have:idxOf p l = -1:=by
   cases l with
   |nil=>rfl
   |cons a l =>
    simp only[idxOf]at h11 ⊢;split at h11<;>rename_i ha
    .omega
    .rw[if_neg ha];split at h11<;>rename_i hb
     .rw[if_pos hb]
     .omega
  simp[this]
 .rw[if_neg h11]at h10;obtain⟨rfl,h12⟩:=h10
  try simp at h12
  simp[h12]
include hw in
theorem B5{f i:Nat}(hT:T f=some (gZ i))(hi:T i=some (ud true w))(hF:F[bi]?=some (.cells v (l.flatMap enc)))(hl:l.length<=9223372036854775807)(ht:oP T fv (λx => .agg (enc x)) p l){J:SK}(hs:eZ J lv=some F):
  lim T (.call false f [.sl lv bi v 0 l.length w,fv] J)=some (.val (.bool (sB l p)) J):=by
 refine au hT (gZ.eq_1 _) rfl ?_;have hlt:=yr hs;have h:=Mc hw hi hF hl ht (lv:=lv) (F:=F) (J:=[]::J) (by simp[eZ,hs,show ¬J.length=lv by omega]);obtain⟨h1,h2,h3⟩:=ht;have h4:decide (0<=idxOf p l)=sB l p:=by
  unfold sB;have h6:=Ei (p:=p) (l:=l);cases h5:l.any p
  .have:=h6.2 h5;exact decide_eq_false (by omega)
  .exact decide_eq_true (by
    have:¬idxOf p l<0:=λh=>by rw[h6.1 h]at h5;cases h5
    omega)
 simp[h1,h2,h,h4]
include hw in
theorem F9{f g h i:Nat}(hf:T f=some (Dc g h))(hg:T g=some (yd true w))(hh:T h=some (gZ i))(hi:T i=some (ud true w))
  (hF:F[bi]?=some (.cells v (l.flatMap enc))) (hl:l.length<=9223372036854775807) (ht:oP T fv (λx => .agg (enc x)) p l) (hcl:fv.cells=some [fv]) {J:SK} (hs:eZ J lv=some F):
  lim T (.call false f [.sl lv bi v 0 l.length w,fv] J)=some (.val (.bool (fk l p)) J):=by
 refine au hf (Dc.eq_1 _ _) rfl ?_;have hlt:=yr hs;have h:=B5 hw hh hi hF hl (Nh (wE w enc hw) hg ht) (lv:=lv) (F:=F) (J:=[]::J) (by simp[eZ,hs,show ¬J.length=lv by omega]);obtain⟨h1,h2,h3⟩:=ht;have h4:(sB l λx => !p x) = !fk l p:=by
  unfold sB fk;rw[List.all_eq_not_any_not,Bool.not_not]
 simp[h1,h2,h,h4,hcl]
end
end Go.az
namespace Go.Proofs.YtklfdfnoebnciaaGreatDoor
open List(length_flatMap map_take)
open Go Go.az Go.aD
variable {J:SK}
theorem Ot{b:b9}{m:cq}{s:List aD.aI}(h:Bv b){lv bi v:Nat}{F:List az.aI}(hF:F[bi]?=some (.cells v (s.flatMap aI.enc)))(hs:eZ J lv=some F)(hl:s.length=b.n):
  lim T (.call false 228 [.agg [.int .i64 b.f.x,.int .i64 b.f.y,.int .i64 b.f.z,.int .i64 b.f.k,.aG b.b8.length (b.b8.flatMap Rw.enc),.int .i64 b.bF,.int .i64 b.lift,.int .i64 b.deep,.aG b.ak.length (b.ak.flatMap bE.enc),.str m.name,.aG m.bg.length (m.bg.flatMap aX)],.sl lv bi v 0 s.length 3] J)=some (.val (.bool (xO b s)) J):=by
 refine au BM mi.eq_1 rfl ?_;have hlt:=yr hs;have hz:=h.sz;have hn:=h.n;have hsz:=λJ=>yw (J:=J) h
 have ha:=F9 (T:=T) (w:=3) (enc:=aI.enc) (λ_=>rfl) (f:=257) (g:=268) (h:=267) (i:=269) (l:=s) (p:=aD.aI.valid) (fv:=.fn 258 [] []) rfl rfl rfl rfl hF (by omega) (oP.fn λx _ J=>Lw) rfl (lv:=lv) (F:=F) (J:=[]::J) (by simp[eZ,hs,show ¬J.length=lv by omega]);unfold xO;have hc3:((b.n:Nat):Int)=b.size:=hz.symm;rw[hl]at ha ⊢;cases hc:fk s aD.aI.valid<;>simp[-length_flatMap,-map_take,hsz,hl,ha,hc,hc3]
def U9(js:List Nat):List D:=js.map λj => .int .i64 (j:Nat)
def PA(n:Nat)(js:List Nat):List Nat:=(List.range n).filter λj => !(js.contains j)
theorem TW{js:List Nat}{j:Nat}:D.int .i64 (j:Nat)∈U9 js↔j∈js:=by
 simp only[U9,bO];constructor
 .rintro⟨a,h1,h2⟩;simp only[D.int.injEq,true_and]at h2;have:a=j:=by omega
  exact this ▸ h1
 .intro h;exact⟨j,h,rfl⟩
def Hp(b:b9)(m:cq)(s:List aD.aI)(aO:List Int)(L:Nat):Env :=
 [(1,.aG s.length (s.flatMap aI.enc)),(2,.aG aO.length (aO.flatMap aX)),(3,.bu [.int .i64 b.f.x,.int .i64 b.f.y,.int .i64 b.f.z,.int .i64 b.f.k,.aG b.b8.length (b.b8.flatMap Rw.enc),.int .i64 b.bF,.int .i64 b.lift,.int .i64 b.deep,.aG b.ak.length (b.ak.flatMap bE.enc),.str m.name,.aG m.bg.length (m.bg.flatMap aX)]),(9,.sl L 1 1 0 s.length 3),(23,.kJ L 6)]
def VD(A X Y Z:az.aI)(J:SK)(es:List ((Nat×Nat)×aD.aI))(s:List aD.aI)(it:az.aI):SK :=
 [A,.cells 1 (s.flatMap aI.enc),.cells 0 (CS es),X,Y,Z,it]::J
def U7(L n:Nat)(js:List Nat):az.aI:=.cells 1 (.kJ L 2::.int .i64 (n:Nat)::U9 js)
theorem Rc{A X Y Z:az.aI}{es:List ((Nat×Nat)×aD.aI)}{s:List aD.aI}{js:List Nat}:
  EX (VD A X Y Z J es s (U7 J.length es.length js)) J.length 6=some (.kJ J.length 2,es.length,U9 js,PA es.length js):=by
 have hl:(CS es).length=es.length:=by simp[CS]
 simp[EX,VD,U7,Ai,hl,PA,TW]
theorem abc{n:Nat}{js:List Nat}{u:Nat}(hu:u∈PA n js):(PA n (u::js)).length<(PA n js).length:=by
 have e:PA n (u::js)=(PA n js).filter λj => !decide (j=u):=by
  unfold PA;rw[List.filter_filter];congr 1;funext j;simp[List.contains_cons,Bool.not_or]
 rw[e,List.length_filter_lt_length_iff_exists];exact⟨u,hu,by simp⟩
theorem Wa{b:b9}{m:cq}{s:List aD.aI}{aO:List Int}{A X Y Z:az.aI}{es:List ((Nat×Nat)×aD.aI)}{r:R}(hs:Sv b s)(hes:∀e∈es,PB b e)(hel:es.length<=192)
  (hr:WC (lim T) ef ((25,.bool false)::(24,.undef)::Hp b m s aO J.length) (VD A X Y Z J es (es.foldl dJ s) .dead) λx e' J'=>r=.B6 x e' J'):
  ∀(k:Nat) (js:List Nat),js.Nodup->(∀j∈js,j<es.length)->(PA es.length js).length=k ->
   lim T (.gv [1,2,3,9,23] (.t 23) 24 25 0 gU ef (Hp b m s aO J.length) (VD A X Y Z J es (js.foldr (λj s=>HD es s j) s) (U7 J.length es.length js)))=some r:=by
 intro k;induction k using Nat.strongRecOn with
 |_ k ih =>
 intro js hd hj hk;by_cases hus:PA es.length js=[]
 .have hall:∀j,j∈js↔j<es.length:=by
   intro j;refine⟨hj j,λhlt=>?_⟩;have h1:j ∉ PA es.length js:=by rw[hus];simp
   simpa[PA,hlt]using h1
  have hfin:js.foldr (λj s=>HD es s j) s=es.foldl dJ s:=by
   rw[<- Uz (js:=js.reverse) ((List.reverse_perm js).nodup_iff.2 hd) (λj=>by simp[hall]),List.foldl_reverse]
  rw[hfin];have hit:=Rc (J:=J) (A:=A) (X:=X) (Y:=Y) (Z:=Z) (es:=es) (s:=es.foldl dJ s) (js:=js);rw[hus]at hit;refine Pb gU.eq_1 rfl (by simp[Hp]) hit ?_;simp[VD,Hp,U7]at hr ⊢;exact hr
 .have hit:=Rc (J:=J) (A:=A) (X:=X) (Y:=Y) (Z:=Z) (es:=es) (s:=js.foldr (λj s=>HD es s j) s) (js:=js);refine RC gU.eq_1 rfl (by simp[Hp]) hit hus ?_;intro u hu;have hu2:u<es.length/\u ∉ js:=by simpa[PA]using hu
  obtain⟨e,he⟩:∃e,es[u]?=some e:=⟨_,aL hu2.1⟩;have hf:=hes e (ai he);have hnext:=ih _ (by rw[<- hk];exact abc hu) (u::js) (List.nodup_cons.2 ⟨hu2.2,hd⟩) (by intro j hjm;rcases bw.1 hjm with rfl | hjm;exact hu2.1;exact hj j hjm) rfl;have hb:=N5 hes js s 1000000000000 hs.Bi;have hjl:js.length<=192:=by
   have h1:js.length<=es.length:=by
    have:=hd.length_le_of_subset (l₂:=List.range es.length) (λj hjm=>by simpa using hj j hjm);simpa using this
   omega
  have hlen:(js.foldr (λj s=>HD es s j) s).length=b.n:=by
   have:∀js:List Nat,(js.foldr (λj s=>HD es s j) s).length=s.length:=by
    intro js;induction js with
    |nil=>rfl
    |cons a l ih=>simp only[List.foldr_cons,UA];exact ih
   rw[this,hs.len]
  simp only[List.foldr_cons]at hnext;generalize hs1:js.foldr (λj s=>HD es s j) s=s1 at *
  have hstp:HD es s1 u=ga (ga s1 e.1.1 e.2 (-1)) e.1.2 e.2 1:=by simp[HD,he,dJ]
  rw[hstp]at hnext;have hbn:Bi 400000000000000 s1:=λx hx=>ji (hb x hx) (by omega)
  have hb1:=yM (i:=e.1.1) (sign := -1) hbn hf.2 (.inr rfl) (by omega);obtain⟨x1,y1⟩:=Ge hbn (i:=e.1.1) (by have:=hf.1.1;omega);obtain⟨x2,y2⟩:=Ge hb1 (i:=e.1.2) (by rw[Dx];have:=hf.1.2;omega);have hM1:∀I,lim T (.call false 224 [.ref J.length 1 1 (e.1.1*3),.agg [.int .i64 e.2.m,.int .i64 e.2.h,.int .i64 e.2.k],.int .i64 (-1)] ([A,.cells 1 (s1.flatMap aI.enc),.cells 0 (CS es),X,Y,Z,I]::J)) =
    some (.val (.dj []) ([A,.cells 1 ((ga s1 e.1.1 e.2 (-1)).flatMap aI.enc),.cells 0 (CS es),X,Y,Z,I]::J)) :=
   λI=>FK (F:=[A,.cells 1 (s1.flatMap aI.enc),.cells 0 (CS es),X,Y,Z,I]) (j:=1) rfl x1 (ji y1 (by omega)) (ji hf.2 (by omega)) (.inr rfl)
  have hM2:∀I,lim T (.call false 224 [.ref J.length 1 1 (e.1.2*3),.agg [.int .i64 e.2.m,.int .i64 e.2.h,.int .i64 e.2.k],.int .i64 1] ([A,.cells 1 ((ga s1 e.1.1 e.2 (-1)).flatMap aI.enc),.cells 0 (CS es),X,Y,Z,I]::J)) =
    some (.val (.dj []) ([A,.cells 1 ((ga (ga s1 e.1.1 e.2 (-1)) e.1.2 e.2 1).flatMap aI.enc),.cells 0 (CS es),X,Y,Z,I]::J)) :=
   λI=>FK (F:=[A,.cells 1 ((ga s1 e.1.1 e.2 (-1)).flatMap aI.enc),.cells 0 (CS es),X,Y,Z,I]) (j:=1) rfl x2 (ji y2 (by omega)) (ji hf.2 (by omega)) (.inl rfl)
  have hfe:(CS es)[u]?=some (.dj [.agg [.int .i64 e.1.1,.int .i64 e.1.2],.agg [.int .i64 e.2.m,.int .i64 e.2.h,.int .i64 e.2.k]]):=by simp[CS,he]
  have hfl:(CS es).length=es.length:=by simp[CS]
  have hE:Aj ([A,.cells 1 (s1.flatMap aI.enc),.cells 0 (CS es),X,Y,Z,.cells 1 (.kJ J.length 2::.int .i64 (es.length:Nat)::.int .i64 (u:Nat)::U9 js)]::J) .Yn [.kJ J.length 6] =
    some (.dj [.agg [.int .i64 e.1.1,.int .i64 e.1.2],.agg [.int .i64 e.2.m,.int .i64 e.2.h,.int .i64 e.2.k]],[A,.cells 1 (s1.flatMap aI.enc),.cells 0 (CS es),X,Y,Z,.cells 1 (.kJ J.length 2::.int .i64 (es.length:Nat)::.int .i64 (u:Nat)::U9 js)]::J):=by
   simp[Aj,Ai,hfl,hfe]
  have hi1:e.1.1<s.length:=by have:=hf.1.1;have:=hs.len;omega
  have hi2:e.1.2<s.length:=by have:=hf.1.2;have:=hs.len;omega
  simp[-length_flatMap,-map_take,Hp,VD,U7,hE,hM1,hM2,hi1,hi2,cl,bh,bq,Gj];simpa[Hp,VD,U7,U9]using hnext
theorem G4{b:b9}(h:Bv b):∀w∈b.ak,(0<=w.b/\w.b<(b.n:Int))/\(0<=w.h/\w.h<=3000)/\(0<=w.m/\w.m<=1000000):=by
 have key:∀(l:List bE) (u:List Int),tV b.size u l=true->∀w∈l,(0<=w.b/\w.b<(b.n:Int))/\(0<=w.h/\w.h<=3000)/\(0<=w.m/\w.m<=1000000):=by
  intro l;induction l with
  |nil=>intro u _ w hw;cases hw
  |cons a l ih =>
   intro u hu w hw;simp only[tV,bE.ok,ae]at hu;obtain⟨⟨h1,h2,h3,h4⟩,h5⟩:=hu;rcases bw.1 hw with rfl | hw
   .have hs:=h.sz;have:=aU.1 h1;unfold b9.size at this;exact⟨⟨this.1,by omega⟩,aU.1 h3,aU.1 h4⟩
   .exact ih _ h5 w hw
 exact key _ _ h.ok
theorem mulR{a r A R:Int}(ha:0<=a/\a<=A)(hr : -R<=r/\r<=R) : -(R*A)<=r*a/\r*a<=R*A:=by
 rcases kX 0 r with h | h
 .have:=mZ h hr.2 ha.1 ha.2;have h2:=dp (show 0<=R by omega) (show 0<=A by omega);omega
 .have:=mZ (a := -r) (A:=R) (by omega) (by omega) ha.1 ha.2;rw[Int.neg_mul]at this;have h2:=dp (show 0<=R by omega) (show 0<=A by omega);omega
theorem KB{w:bE}{r:Int}(hr : -100000<=r/\r<=100000)(h1:0<=w.h/\w.h<=3000)(h2:0<=w.m/\w.m<=1000000):sm (w.given r) 1000000000000:=by
 have b1:=mulR h1 hr;have b2:=mulR h2 hr;exact⟨⟨by simp only[bE.given];omega,by simp only[bE.given];omega⟩,⟨by simp only[bE.given,Int.neg_mul];omega,by simp only[bE.given,Int.neg_mul];omega⟩,⟨by simp only[bE.given,Int.neg_mul];omega,by simp only[bE.given,Int.neg_mul];omega⟩⟩
theorem QU{b:b9}{m:cq}(h:Fv b m){i:Nat}(hi:i<b.n):sm (L6 b m i) 1000000000000:=by
 have b1:=h.feed i hi;have b2:=h.bv.deep;have b3:=mZ b1.1 b1.2 b2.1 b2.2;exact⟨⟨by simp only[L6];omega,by simp only[L6];omega⟩,⟨by simp only[L6];omega,by simp only[L6];omega⟩,⟨by simp[L6],by simp[L6]⟩⟩
def dL(b:b9)(s s1:List aD.aI)(aO:List Int)(j:Nat):List aD.aI:=((b.ak.zip aO).take j).foldl (λn wr=>tU s n wr.1 wr.2) s1
def kT(b:b9)(m:cq)(s2:List aD.aI)(i:Nat):List aD.aI:=(List.range i).foldl (λn i=>ga n i (L6 b m i) 1) s2
theorem DO{b:b9}{s s1:List aD.aI}{aO:List Int}{j:Nat}{w:bE}{r:Int}(h1:b.ak[j]?=some w)(h2:aO[j]?=some r):dL b s s1 aO (j+1)=tU s (dL b s s1 aO j) w r:=by
 have:(b.ak.zip aO)[j]?=some (w,r):=by rw[List.getElem?_zip_eq_some];exact⟨h1,h2⟩
 unfold dL;rw[List.take_add_one,this,List.foldl_append];rfl
theorem AJ{b:b9}{m:cq}{s2:List aD.aI}{i:Nat}:kT b m s2 (i+1)=ga (kT b m s2 i) i (L6 b m i) 1:=by
 unfold kT;rw[List.range_succ,List.foldl_append];rfl
theorem zp{b:b9}{m:cq}{s2:List aD.aI}:∀i,(kT b m s2 i).length=s2.length
 |0=>rfl
 |i+1=>by rw[AJ,Dx,zp i]
theorem SE{b:b9}{s:List aD.aI}{aO:List Int}{j:Nat}{w:bE}{r:Int}(h1:b.ak[j]?=some w)(h2:aO[j]?=some r):(dr b s aO)[j]?=some (rj s w r):=by
 have:(b.ak.zip aO)[j]?=some (w,r):=by rw[List.getElem?_zip_eq_some];exact⟨h1,h2⟩
 simp[dr,this]
structure Rv(b:b9)(aO:List Int):Prop where
 len:aO.length=b.ak.length
 ok:∀r∈aO,-100000<=r/\r<=100000
theorem Rv.of{b:b9}{aO:List Int}(h:zE b aO=0):Rv b aO:=by
 unfold zE at h;split at h
 .rename_i hl;split at h
  .rename_i ha;exact⟨hl,λr hr=>aU.1 (iI.1 ha r hr)⟩
  .cases h
 .cases h
theorem T5{b:b9}{s next:List aD.aI}(h:Bv b)(hs:Sv b s){aO:List Int}(hr:Rv b aO){j:Nat}{w:bE}{r:Int}(h1:b.ak[j]?=some w)(h2:aO[j]?=some r){N:Int}(hb:Bi N next):Bi (N+1000000000000) (tU s next w r):=by
 have hw:=G4 h w (ai h1);have hrr:=hr.ok r (ai h2);obtain⟨_,m1,m2,m3⟩:=hs.at (i:=w.b.toNat) (by omega);have d2:=bd (b:=8) (show 0<=(bL s w.b.toNat).m by omega);unfold tU rj;split
 .exact yM hb (KB hrr hw.2.1 hw.2.2) (.inl rfl) (by omega)
 .exact yM hb (Mr m1 m2 m3 ⟨by rw[d2];omega,by rw[d2];omega⟩) (.inr rfl) (by omega)
theorem JJ{s n:List aD.aI}{w:bE}{r:Int}:(tU s n w r).length=n.length:=by
 unfold tU;split<;>simp[Dx]
theorem zO{b:b9}{s s1:List aD.aI}(h:Bv b)(hs:Sv b s){aO:List Int}(hr:Rv b aO)(hb:Bi 500000000000000 s1):∀j,j<=aO.length->Bi (500000000000000+1000000000000*j) (dL b s s1 aO j)/\(dL b s s1 aO j).length=s1.length
 |0,_=>⟨by simpa[dL]using hb,by simp[dL]⟩
 |j+1,hj=>by
  obtain⟨r,h2⟩:∃r,aO[j]?=some r:=gE (by omega);obtain⟨w,h1⟩:∃w,b.ak[j]?=some w:=⟨_,aL (by rw[<- hr.len];omega)⟩;obtain⟨ih1,ih2⟩:=zO h hs hr hb j (by omega);rw[DO h1 h2];have h3:=T5 h hs hr h1 h2 ih1;exact⟨λx hx=>ji (h3 x hx) (by push_cast;omega),by rw[JJ,ih2]⟩
theorem HW{b:b9}{m:cq}{s2:List aD.aI}(h:Fv b m)(hb:Bi 600000000000000 s2):∀i,i<=b.n->Bi (600000000000000+1000000000000*i) (kT b m s2 i)
 |0,_=>by simpa[kT]using hb
 |i+1,hi=>by
  have ih:=HW h hb i (by omega);rw[AJ];have h3:=yM (i:=i) ih (QU h (i:=i) (by omega)) (.inl rfl) (by omega);exact λx hx=>ji (h3 x hx) (by push_cast;omega)
theorem TD{b:b9}{j:Nat}{w:bE}(h:b.ak[j]?=some w):((b.ak.flatMap bE.enc).drop (j*3)).take 3=[.int .i64 w.b,.int .i64 w.h,.int .i64 w.m] :=
 cf (f:=bE.enc) (w:=3) (λ_=>rfl) h
theorem M9{b:b9}{m:cq}{s s1:List aD.aI}{aO:List Int}{A FL X Y Z W:az.aI}(h:Fv b m)(hs:Sv b s)(hr:Rv b aO)(hb:Bi 500000000000000 s1)(hl1:s1.length=s.length):∀(k j v:Nat),j+k=aO.length ->
  WL T [1,3,9,12,41,42,43] false fR [(1,.aG s.length (s.flatMap aI.enc)),(3,.bu [.int .i64 b.f.x,.int .i64 b.f.y,.int .i64 b.f.z,.int .i64 b.f.k,.aG b.b8.length (b.b8.flatMap Rw.enc),.int .i64 b.bF,.int .i64 b.lift,.int .i64 b.deep,.aG b.ak.length (b.ak.flatMap bE.enc),.str m.name,.aG m.bg.length (m.bg.flatMap aX)]),(9,.sl J.length 1 1 0 s.length 3),(12,.sl J.length 7 v 0 j 3),(41,.aG aO.length (aO.flatMap aX)),(42,.int .i64 aO.length),(43,.int .i64 j)]
   ([A,.cells 1 ((dL b s s1 aO j).flatMap aI.enc),FL,X,Y,Z,W,.cells v (((dr b s aO).take j).flatMap aI.enc)]::J)
   (λx e J'=>x=.exit 2/\get e 3=.bu [.int .i64 b.f.x,.int .i64 b.f.y,.int .i64 b.f.z,.int .i64 b.f.k,.aG b.b8.length (b.b8.flatMap Rw.enc),.int .i64 b.bF,.int .i64 b.lift,.int .i64 b.deep,.aG b.ak.length (b.ak.flatMap bE.enc),.str m.name,.aG m.bg.length (m.bg.flatMap aX)]/\get e 9=.sl J.length 1 1 0 s.length 3/\get e 12=.sl J.length 7 (v+k) 0 aO.length 3 /\
    J'=[A,.cells 1 ((dL b s s1 aO aO.length).flatMap aI.enc),FL,X,Y,Z,W,.cells (v+k) ((dr b s aO).flatMap aI.enc)]::J)
 |0,j,v,hj=>by
  refine aJ fR.eq_1 ?_;obtain rfl:j=aO.length:=by omega
  have hyl:(dr b s aO).length=aO.length:=by simp[dr,hr.len]
  have h3:(dr b s aO).take aO.length=dr b s aO:=ah (by omega);simp[-length_flatMap,-map_take,h3,cl,bh,bq]
 |k+1,j,v,hj=>by
  refine aJ fR.eq_1 ?_;have h1:j<aO.length:=by omega
  have hwl:=h.bv.ak;have hrl:=hr.len;obtain⟨r,hr2⟩:∃r,aO[j]?=some r:=gE (by omega);obtain⟨w,hw1⟩:∃w,b.ak[j]?=some w:=gE (by omega);have hw:=G4 h.bv w (ai hw1);have hrr:=hr.ok r (ai hr2);have hwn:w.b.toNat<b.n:=by omega
  have hlen:=hs.len;obtain⟨x0,m1,m2,m3⟩:=hs.at (i:=w.b.toNat) hwn;obtain⟨ib,il⟩:=zO h.bv hs hr hb j (by omega);obtain⟨x1,y1⟩:=Ge ib (i:=w.b.toNat) (by omega);have h4:=eT h1;have a1:=TD hw1;have a2:=pv hr2;have a3:=cf (f:=aI.enc) (w:=3) (λ_=>rfl) x0;have hy:=SE (s:=s) hw1 hr2;have f3:=Bn (f:=aI.enc) hy;have hyl:(dr b s aO).length=aO.length:=by simp[dr,hr.len]
  have f4:=Fs ((dr b s aO).take j);rw[jV,hyl,Nat.min_eq_left (by omega)]at f4;have f6:(((dr b s aO).take j).flatMap aI.enc).take (j*3)=((dr b s aO).take j).flatMap aI.enc:=ah (by omega);have h7:(j+1)*24<=room:=by unfold room;omega
  have ih:=M9 (A:=A) (FL:=FL) (X:=X) (Y:=Y) (Z:=Z) (W:=W) h hs hr hb hl1 k (j+1) (v+1) (by omega);have hsucc:=DO (s:=s) (s1:=s1) hw1 hr2;have hB0:(0:Int)<=w.b:=hw.1.1;have hB1:w.b<(s.length:Int):=by omega
  have hjw:j<b.ak.length:=by omega
  have d2:=bd (b:=8) (show 0<=(bL s w.b.toNat).m by omega);by_cases hc:r<0
  .have hg:=λJ=>SZ (J:=J) hrr hw.2.1 hw.2.2
   have hM:∀V,lim T (.call false 224 [.ref J.length 1 1 (w.b.toNat*3),.agg [.int .i64 (w.given r).m,.int .i64 (w.given r).h,.int .i64 (w.given r).k],.int .i64 1] ([A,.cells 1 ((dL b s s1 aO j).flatMap aI.enc),FL,X,Y,Z,W,V]::J)) =
     some (.val (.dj []) ([A,.cells 1 ((dL b s s1 aO (j+1)).flatMap aI.enc),FL,X,Y,Z,W,V]::J)):=by
    intro V;rw[hsucc,tU,if_pos hc];exact FK (F:=[A,.cells 1 ((dL b s s1 aO j).flatMap aI.enc),FL,X,Y,Z,W,V]) (j:=1) rfl x1 (ji y1 (by omega)) (ji (KB hrr hw.2.1 hw.2.2) (by omega)) (.inl rfl)
   have hwy:rj s w r=⟨0,0,0⟩:=by simp[rj,hc]
   rw[hwy]at f3;simp only[bE.enc,aI.enc]at hg;simp[-length_flatMap,-map_take,h1,h4,a1,a2,a3,f4,f6,h7,hB0,hB1,hjw,hc,hg,hM,cl,bh,bq];refine WL.to ih (by simp[cl,bh,bq]) (by simp[<- f3]) λx e J hh=>by simpa[dz,Nat.add_comm 1 k]using hh
  .have w7:=eF (n:=(bL s w.b.toNat).m.tdiv 8) (by rw[d2];omega);have hO:=λJ=>P3 (J:=J) (q:=min r ((bL s w.b.toNat).m.tdiv 8)) m1 m2 m3 ⟨by rw[d2];omega,by rw[d2];omega⟩
   have hos:=Mr (q:=min r ((bL s w.b.toNat).m.tdiv 8)) m1 m2 m3 ⟨by rw[d2];omega,by rw[d2];omega⟩;have hwy:rj s w r=(bL s w.b.toNat).out (min r ((bL s w.b.toNat).m.tdiv 8)):=by simp[rj,hc]
   have hsucc':dL b s s1 aO (j+1)=ga (dL b s s1 aO j) w.b.toNat ((bL s w.b.toNat).out (min r ((bL s w.b.toNat).m.tdiv 8))) (-1):=by
    rw[hsucc,tU,if_neg hc,hwy]
   rw[hwy]at f3;generalize hQ:min r ((bL s w.b.toNat).m.tdiv 8)=Q at *
   generalize (bL s w.b.toNat).out Q=O at *
   have hM:∀V,lim T (.call false 224 [.ref J.length 1 1 (w.b.toNat*3),.agg [.int .i64 O.m,.int .i64 O.h,.int .i64 O.k],.int .i64 (-1)] ([A,.cells 1 ((dL b s s1 aO j).flatMap aI.enc),FL,X,Y,Z,W,V]::J)) =
     some (.val (.dj []) ([A,.cells 1 ((dL b s s1 aO (j+1)).flatMap aI.enc),FL,X,Y,Z,W,V]::J)):=by
    intro V;rw[hsucc'];exact FK (F:=[A,.cells 1 ((dL b s s1 aO j).flatMap aI.enc),FL,X,Y,Z,W,V]) (j:=1) rfl x1 (ji y1 (by omega)) (ji hos (by omega)) (.inr rfl)
   simp only[aI.enc]at hO;simp[-length_flatMap,-map_take,h1,h4,a1,a2,a3,f4,f6,h7,hB0,hB1,hjw,hc,w7,hQ,hO,hM,cl,bh,bq];refine WL.to ih (by simp[cl,bh,bq]) (by simp[<- f3]) λx e J hh=>by simpa[dz,Nat.add_comm 1 k]using hh
theorem Qo{b:b9}{m:cq}{s2:List aD.aI}{A FL X Y Z W V:az.aI}{d12:D}(h:Fv b m)(hb:Bi 600000000000000 s2)(hl2:s2.length=b.n)(hd:d12.strip=d12/\d12.calm=d12):∀(k i:Nat),i+k=b.n ->
  WL T [3,9,12,93,94] false fS [(3,.bu [.int .i64 b.f.x,.int .i64 b.f.y,.int .i64 b.f.z,.int .i64 b.f.k,.aG b.b8.length (b.b8.flatMap Rw.enc),.int .i64 b.bF,.int .i64 b.lift,.int .i64 b.deep,.aG b.ak.length (b.ak.flatMap bE.enc),.str m.name,.aG m.bg.length (m.bg.flatMap aX)]),(9,.sl J.length 1 1 0 b.n 3),(12,d12),(93,.int .i64 b.n),(94,.int .i64 i)]
   ([A,.cells 1 ((kT b m s2 i).flatMap aI.enc),FL,X,Y,Z,W,V]::J)
   (λx e J'=>x=.exit 4/\get e 3=.bu [.int .i64 b.f.x,.int .i64 b.f.y,.int .i64 b.f.z,.int .i64 b.f.k,.aG b.b8.length (b.b8.flatMap Rw.enc),.int .i64 b.bF,.int .i64 b.lift,.int .i64 b.deep,.aG b.ak.length (b.ak.flatMap bE.enc),.str m.name,.aG m.bg.length (m.bg.flatMap aX)]/\get e 9=.sl J.length 1 1 0 b.n 3/\get e 12=d12/\J'=[A,.cells 1 ((kT b m s2 b.n).flatMap aI.enc),FL,X,Y,Z,W,V]::J)
 |0,i,hi=>by
  refine aJ fS.eq_1 ?_;obtain rfl:i=b.n:=by omega
  simp[-length_flatMap,-map_take,hd,cl,bh,bq]
 |k+1,i,hi=>by
  refine aJ fS.eq_1 ?_;have h1:i<b.n:=by omega
  have hn:=h.bv.n;have h4:=eT h1;have hf:=λJ=>Y8 (J:=J) h h1
  have ih:=Qo (A:=A) (FL:=FL) (X:=X) (Y:=Y) (Z:=Z) (W:=W) (V:=V) h hb hl2 hd k (i+1) (by omega);have ib:=HW h hb i (by omega);obtain⟨x1,y1⟩:=Ge ib (i:=i) (by rw[zp,hl2];omega);have hM:lim T (.call false 224 [.ref J.length 1 1 (i*3),.agg [.int .i64 (L6 b m i).m,.int .i64 (L6 b m i).h,.int .i64 (L6 b m i).k],.int .i64 1] ([A,.cells 1 ((kT b m s2 i).flatMap aI.enc),FL,X,Y,Z,W,V]::J)) =
    some (.val (.dj []) ([A,.cells 1 ((kT b m s2 (i+1)).flatMap aI.enc),FL,X,Y,Z,W,V]::J)):=by
   rw[AJ];exact FK (F:=[A,.cells 1 ((kT b m s2 i).flatMap aI.enc),FL,X,Y,Z,W,V]) (j:=1) rfl x1 (ji y1 (by omega)) (ji (QU h h1) (by omega)) (.inl rfl)
  simp only[aI.enc]at hf;simp[-length_flatMap,-map_take,h1,h4,hf,hM,hd,cl,bh,bq];refine WL.to ih (by simp[hd,cl,bh,bq]) rfl λx e J hh=>hh
theorem NK{b:b9}{m:cq}{s:List aD.aI}{aO:List Int}(hr:Rv b aO)(hl:s.length=b.n):kT b m (dL b s ((vc b m s).foldl dJ s) aO aO.length) b.n=CI b m s aO:=by
 have:(b.ak.zip aO).take aO.length=b.ak.zip aO:=ah (by rw[List.length_zip];omega);simp only[CI,kT,dL,this,hl]
theorem OP{b:b9}{m:cq}{s:List aD.aI}(h:Fv b m)(hs:Sv b s):Bi 500000000000000 ((vc b m s).foldl dJ s)/\((vc b m s).foldl dJ s).length=s.length:=by
 obtain⟨h1,h2⟩:=Kt (m:=m) h.bv hs;have key:∀(es:List ((Nat×Nat)×aD.aI)) (s:List aD.aI) (N:Int),(∀e∈es,PB b e)->Bi N s->Bi (N+2000000000000*es.length) (es.foldl dJ s)/\(es.foldl dJ s).length=s.length:=by
  intro es;induction es with
  |nil=>intro s N _ h;exact⟨by simpa using h,rfl⟩
  |cons e es ih =>
   intro s N he hb;obtain⟨a1,a2⟩:=ih (dJ s e) _ (λx hx=>he x (by simp[hx])) (Kr hb (he e (by simp)));simp only[List.foldl_cons,aF];exact⟨λx hx=>ji (a1 x hx) (by push_cast;omega),by rw[a2,Ks]⟩
 obtain⟨a1,a2⟩:=key _ s _ h1 hs.Bi;exact⟨λx hx=>ji (a1 x hx) (by omega),a2⟩
theorem VU{b:b9}{m:cq}{s s1:List aD.aI}{aO:List Int}{A FL X Y Z W:az.aI}(h:Fv b m)(hs:Sv b s)(hr:Rv b aO)(hb:Bi 500000000000000 s1)(hl1:s1.length=s.length):
  WC (lim T) ef ((25,.bool false)::(24,.undef)::Hp b m s aO J.length) ([A,.cells 1 (s1.flatMap aI.enc),FL,X,Y,Z,W]::J) λx e J' =>
   x=.ret/\J'=[A,.cells 1 ((kT b m (dL b s s1 aO aO.length) b.n).flatMap aI.enc),FL,X,Y,Z,W,.cells aO.length ((dr b s aO).flatMap aI.enc)]::J /\
   (if xO b (kT b m (dL b s s1 aO aO.length) b.n)=true then get e 6=.sl J.length 1 1 0 b.n 3/\get e 7=.sl J.length 7 aO.length 0 aO.length 3/\get e 8=.int .i64 0
    else get e 6=.bN/\get e 7=.bN/\get e 8=.int .i64 9):=by
 have hl:=hs.len;have hn:=h.bv.n;have hwl:=h.bv.ak;have hrl:=hr.len;obtain⟨wb,wl⟩:=zO h.bv hs hr hb aO.length (aH _);have fl:=zp (b:=b) (m:=m) (s2:=dL b s s1 aO aO.length) b.n;rw[yD ef.eq_1];simp[-length_flatMap,-map_take,Hp,cl,bh,bq];refine WL.to (M9 (J:=J) (A:=A) (FL:=FL) (X:=X) (Y:=Y) (Z:=Z) (W:=W) h hs hr hb hl1 aO.length 0 0 (by omega)) (by simp[cl,bh,bq]) (by simp[dL]) ?_;rintro x e J' ⟨rfl,g3,g9,g12,rfl⟩;rw[hl]at g9;simp[-length_flatMap,-map_take,g3,g9,g12,cl,bh,bq];refine WL.to (Qo (J:=J) (A:=A) (FL:=FL) (X:=X) (Y:=Y) (Z:=Z) (W:=W) (V:=.cells (0+aO.length) ((dr b s aO).flatMap aI.enc)) (d12:=.sl J.length 7 (0+aO.length) 0 aO.length 3) h (λx hx=>ji (wb x hx) (by omega)) (by rw[wl,hl1,hl]) ⟨rfl,rfl⟩ b.n 0 (by omega)) (by simp[cl,bh,bq]) (by simp[kT]) ?_;rintro x e J' ⟨rfl,g3,g9,g12,rfl⟩;have hS:=Ot (m:=m) (b:=b) (s:=kT b m (dL b s s1 aO aO.length) b.n) h.bv (lv:=J.length) (bi:=1) (v:=1) (F:=[A,.cells 1 ((kT b m (dL b s s1 aO aO.length) b.n).flatMap aI.enc),FL,X,Y,Z,W,.cells (0+aO.length) ((dr b s aO).flatMap aI.enc)]) (J:=[A,.cells 1 ((kT b m (dL b s s1 aO aO.length) b.n).flatMap aI.enc),FL,X,Y,Z,W,.cells (0+aO.length) ((dr b s aO).flatMap aI.enc)]::J) rfl (by simp[eZ]) (by rw[fl,wl,hl1,hl]);rw[show(kT b m (dL b s s1 aO aO.length) b.n).length=b.n by rw[fl,wl,hl1,hl]]at hS;cases hc:xO b (kT b m (dL b s s1 aO aO.length) b.n)
 .rw[hc]at hS;simp at hS;simp[-length_flatMap,-map_take,g3,g9,g12,hS,cl,bh,bq]
 .rw[hc]at hS;simp at hS;simp[-length_flatMap,-map_take,g3,g9,g12,hS,cl,bh,bq]
def Sy(b:b9)(m:cq)(s:List aD.aI)(aO:List Int):D:=match tick b m s aO with
 |some (s',y) => .dj [.aG s'.length (s'.flatMap aI.enc),.aG y.length (y.flatMap aI.enc),.int .i64 0]
 |none => .dj [.bN,.bN,.int .i64 9]
theorem V0{b:b9}{m:cq}{s:List aD.aI}{aO:List Int}(h:Fv b m)(hs:Sv b s)(hr:Rv b aO)(hJ:J≠[]):
  lim T (.call false 186 [.agg [.int .i64 b.f.x,.int .i64 b.f.y,.int .i64 b.f.z,.int .i64 b.f.k,.aG b.b8.length (b.b8.flatMap Rw.enc),.int .i64 b.bF,.int .i64 b.lift,.int .i64 b.deep,.aG b.ak.length (b.ak.flatMap bE.enc),.str m.name,.aG m.bg.length (m.bg.flatMap aX)],.aG s.length (s.flatMap aI.enc),.aG aO.length (aO.flatMap aX)] J)=some (.val (Sy b m s aO) J):=by
 refine au Cv nI.eq_1 rfl ?_;have hl:=hs.len;have hn:=h.bv.n;have hne:s≠[]:=by intro h0;rw[h0]at hl;simp at hl;omega
 have hC:=SS (J:=J) (s:=s) (bs:=[]) (by omega) hne;obtain⟨X,Y,Z,hF⟩:=SY (J:=J) (A:=.cells 0 []) (B:=.cells 1 (s.flatMap aI.enc)) h hs;obtain⟨fb,fl⟩:=OP h hs;obtain⟨x,e',J',hrun,rfl,rfl,hq⟩:=VU (J:=J) (A:=.cells 0 []) (FL:=.cells 0 (CS (vc b m s))) (X:=X) (Y:=Y) (Z:=Z) (W:=.dead) h hs hr fb fl;obtain⟨f1,f2⟩:=Kt (m:=m) h.bv hs;have hM:=Wa (J:=J) (aO:=aO) (m:=m) (A:=.cells 0 []) (X:=X) (Y:=Y) (Z:=Z) (es:=vc b m s) hs f1 f2 (r:=.B6 .ret e' ([.cells 0 [],.cells 1 ((kT b m (dL b s ((vc b m s).foldl dJ s) aO aO.length) b.n).flatMap aI.enc),.cells 0 (CS (vc b m s)),X,Y,Z,.dead,.cells aO.length ((dr b s aO).flatMap aI.enc)]::J)) ⟨_,_,_,hrun,rfl⟩ _ [] List.nodup_nil (by simp) rfl;simp only[aY,bj,cr]at hC;have hG:Aj ([.cells 0 [],.cells 1 (s.flatMap aI.enc),.cells 0 (CS (vc b m s)),X,Y,Z]::J) .rng [.kJ J.length 2]=some (.kJ J.length 6,[.cells 0 [],.cells 1 (s.flatMap aI.enc),.cells 0 (CS (vc b m s)),X,Y,Z,U7 J.length (vc b m s).length []]::J):=by
  simp[Aj,Ai,U7,U9,CS]
 simp[-length_flatMap,-map_take,hC,hF,hG,cl,bh,bq,Gj];refine⟨_,_,_,by simpa[Hp,VD]using hM,?_⟩;rw[NK hr hl]at hq ⊢;have hnl:(CI b m s aO).length=b.n:=by
  rw[<- NK hr hl,zp,(zO h.bv hs hr fb aO.length (aH _)).2,fl,hl]
 have hyl:(dr b s aO).length=aO.length:=by simp[dr,hr.len]
 unfold Sy tick;cases hc:xO b (CI b m s aO)
 .rw[hc]at hq;simp at hq;obtain⟨g6,g7,g8⟩:=hq;simp[g6,g7,g8]
 .rw[hc]at hq;simp only[if_true]at hq;obtain⟨g6,g7,g8⟩:=hq;simp only[if_true];simp[g6,g7,g8];rw[Dl (by simp) (by omega)];simp only[wg,yI];rw[<- hnl,zX (f:=aI.enc) (l:=CI b m s aO) (by decide) (λ_=>rfl) (λx=>by simp) hJ (by simp)];simp only[List.set_cons_succ,List.set_cons_zero];rw[<- hyl,zX (f:=aI.enc) (l:=dr b s aO) (by decide) (λ_=>rfl) (λx=>by simp) hJ (by simp)];rw[jX (by simp) (by omega)];exact⟨_,rfl⟩
def xN(s:List aD.aI):List D:=[.aG s.length (s.flatMap aI.enc)]
theorem N4(l:List (List aD.aI)):(l.flatMap xN).length=l.length:=by
 have:=bZ (f:=xN) (w:=1) (λ_=>rfl) l;omega
theorem Sv.next{b:b9}{m:cq}{s:List aD.aI}{aO:List Int}(h:Bv b){s' y:List aD.aI}(ht:tick b m s aO=some (s',y)):Sv b s':=by
 unfold tick at ht;split at ht
 .rename_i hc;simp only[ad,aj]at ht;obtain⟨rfl,_⟩:=ht;exact(Sv.of h).1 hc
 .cases ht
theorem RY{n:Nat}(h:n<=1000000):n*24<=room:=by unfold room;omega
theorem HS(l:List (List aD.aI)):D.bx (l.flatMap xN)=true:=eS (λx=>by simp[xN,D.clean,Gj]) l
def XJ(b:b9)(m:cq)(J:SK)(r:Option (List (List aD.aI)×List (List aD.aI)))(x:az.Exit)(e:Env)(J':SK):Prop:=match r with
 |some (ss,ys)=>∃v u,x=.exit 0/\get e 4=.own 0 [.sl J.length 2 v 0 ss.length 1,.sl J.length 1 u 0 ys.length 1]/\J'=[.cells 0 [],.cells u (ys.flatMap xN),.cells v (ss.flatMap xN)]::J
 |none=>x=.eA (.tK 259 (.agg []))/\∃bk,J'=bk::J
theorem Qs{b:b9}{m:cq}{av:List (List Int)}(h:Fv b m)(hp:av.length<=200)(hr:∀r∈av,Rv b r):∀(k i v u:Nat) (ss ys:List (List aD.aI)) (s:List aD.aI),i+k=av.length->ss.length=i+1->ys.length=i->ss[i]?=some s->Sv b s ->
  WL T [2,4,14,15,16] false gT [(2,.bu [.int .i64 b.f.x,.int .i64 b.f.y,.int .i64 b.f.z,.int .i64 b.f.k,.aG b.b8.length (b.b8.flatMap Rw.enc),.int .i64 b.bF,.int .i64 b.lift,.int .i64 b.deep,.aG b.ak.length (b.ak.flatMap bE.enc),.str m.name,.aG m.bg.length (m.bg.flatMap aX)]),(4,.own 0 [.sl J.length 2 v 0 (i+1) 1,.sl J.length 1 u 0 i 1]),(14,.aG av.length (av.flatMap Fj)),(15,.int .i64 av.length),(16,.int .i64 i)]
   ([.cells 0 [],.cells u (ys.flatMap xN),.cells v (ss.flatMap xN)]::J) (XJ b m J (uU b m ss ys s (av.drop i)))
 |0,i,v,u,ss,ys,s,hi,h1,h2,h3,hs=>by
  refine aJ gT.eq_1 ?_;obtain rfl:i=av.length:=by omega
  have h5:av.drop av.length=[]:=aA (by omega);simp[-length_flatMap,-map_take,h5,uU,XJ];exact⟨v,u,by simp[h1,h2]⟩
 |k+1,i,v,u,ss,ys,s,hi,h1,h2,h3,hs=>by
  refine aJ gT.eq_1 ?_;have hlt:i<av.length:=by omega
  have hii:(i:Int)<i+1:=by omega
  obtain⟨r,hx⟩:=gE hlt;have h4:=eT hlt;have h5:=drop_at hx;have a1:=cf (f:=Fj) (w:=1) (λ_=>rfl) hx;simp only[Fj,gp]at a1;have a2:=zx (f:=xN) (w:=1) (λ_=>rfl) h3;simp only[xN,gp,eG]at a2;have hT:=λJ hJ=>V0 (J:=J) h hs (hr r (ai hx)) hJ
  rw[h5,uU];unfold Sy at hT;cases ht:tick b m s r with
  |none =>
   rw[ht]at hT;simp only at hT;simp[-length_flatMap,-map_take,hlt,hii,h4,a1,a2,hT,Fj,XJ]
  |some p =>
   obtain⟨s',y⟩:=p;rw[ht]at hT;simp only at hT;have ih:=Qs h hp hr k (i+1) (v+1) (u+1) (ss++[s']) (ys++[y]) s' (by omega) (by simp[h1]) (by simp[h2]) (by simp[<- h1]) (Sv.next h.bv ht);have l1:=N4 ss;have l2:=N4 ys;rw[h1]at l1;rw[h2]at l2;have f1:(ss.flatMap xN).take (i+1)=ss.flatMap xN:=ah (by omega);have f2:(ys.flatMap xN).take i=ys.flatMap xN:=ah (by omega);have h7:=RY (n:=i+1) (by omega);have h8:=RY (n:=i+1+1) (by omega);simp[-length_flatMap,-map_take,hlt,hii,h4,a1,a2,hT,Fj,f1,f2,l1,l2,h7,h8];exact WL.to ih (by simp) (by simp[xN]) λx e J hh=>hh
theorem MY{b:b9}{m:cq}{av:List (List Int)}(h:Fv b m)(hp:av.length<=200)(hr:∀r∈av,Rv b r)(hJ:J≠[]){ss ys:List (List aD.aI)}(hrun:aD.run b m av=some (ss,ys)):
  lim T (.call false 125 [.agg [.int .i64 b.f.x,.int .i64 b.f.y,.int .i64 b.f.z,.int .i64 b.f.k,.aG b.b8.length (b.b8.flatMap Rw.enc),.int .i64 b.bF,.int .i64 b.lift,.int .i64 b.deep,.aG b.ak.length (b.ak.flatMap bE.enc),.str m.name,.aG m.bg.length (m.bg.flatMap aX)],.aG av.length (av.flatMap Fj)] J)=some (.val (.agg [.aG ss.length (ss.flatMap xN),.aG ys.length (ys.flatMap xN)]) J):=by
 refine au xb lk.eq_1 rfl ?_;have hf:=λJ hJ=>DQ (J:=J) h hJ
 simp only[PG]at hf;simp[-length_flatMap,-map_take,hf,cl,bh,bq];refine WL.to (Qs (J:=J) h hp hr av.length 0 0 0 [c8 b m] [] (c8 b m) (by omega) rfl rfl rfl (Sv.first h)) (by simp) (by simp[xN]) ?_;rw[aK,show uU b m [c8 b m] [] (c8 b m) av=some (ss,ys)from hrun];rintro x e J' ⟨v,u,rfl,g4,rfl⟩;simp[-length_flatMap,-map_take,g4];have c1:∀x:List aD.aI,D.bx (xN x)=true:=λx=>by simp[xN,D.clean,Gj]
 rw[I9 (by simp) (by omega)];simp only[wg,yI];rw[zX (f:=xN) (w:=1) (l:=ss) (by decide) (λ_=>rfl) c1 hJ (by simp)];simp only[List.set_cons_succ,List.set_cons_zero];rw[zX (f:=xN) (w:=1) (l:=ys) (by decide) (λ_=>rfl) c1 hJ (by simp)];exact⟨_,rfl⟩
theorem MX{b:b9}{m:cq}{av:List (List Int)}(h:Fv b m)(hp:av.length<=200)(hr:∀r∈av,Rv b r)(hrun:aD.run b m av=none):
  lim T (.call false 125 [.agg [.int .i64 b.f.x,.int .i64 b.f.y,.int .i64 b.f.z,.int .i64 b.f.k,.aG b.b8.length (b.b8.flatMap Rw.enc),.int .i64 b.bF,.int .i64 b.lift,.int .i64 b.deep,.aG b.ak.length (b.ak.flatMap bE.enc),.str m.name,.aG m.bg.length (m.bg.flatMap aX)],.aG av.length (av.flatMap Fj)] J)=some (.eA (.tK 259 (.agg [])) J):=by
 refine di xb lk.eq_1 rfl ?_;have hf:=λJ hJ=>DQ (J:=J) h hJ
 simp only[PG]at hf;simp[-length_flatMap,-map_take,hf,cl,bh,bq];refine WL.to (Qs (J:=J) h hp hr av.length 0 0 0 [c8 b m] [] (c8 b m) (by omega) rfl rfl rfl (Sv.first h)) (by simp) (by simp[xN]) ?_;rw[aK,show uU b m [c8 b m] [] (c8 b m) av=none from hrun];rintro x e J' ⟨rfl,bk,rfl⟩;simp[D.clean]
end Go.Proofs.YtklfdfnoebnciaaGreatDoor
