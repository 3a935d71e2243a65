import Derived.Test.YtklfdfnoebnciaaGreatDoorTxt3
set_option linter.all false
set_option maxRecDepth 100000
namespace Go.Proofs.YtklfdfnoebnciaaGreatDoor
open List(length_flatMap map_take)
open Go Go.az Go.aD
variable {J:SK}
structure Fm(f:eu)(m:cq):Prop where
 fv:f.valid=true
 len:(m.bg.length:Int)=f.k*f.size
 ok:∀v∈m.bg,-100000<=v/\v<=100000
theorem Fm.of{f:eu}{m:cq}(hf:f.valid=true)(h:f.model m=0):Fm f m:=by
 unfold eu.model at h;split at h
 .split at h
  .rename_i h1;exact⟨hf,h1.1,λv hv=>aU.1 (iI.1 h1.2 v hv)⟩
  .cases h
 .cases h
theorem WX{a b A B:Int}(ha : -A<=a/\a<=A)(hb : -B<=b/\b<=B)(hA:0<=A) : -(A*B)<=a*b/\a*b<=A*B:=by
 have key:∀x:Int,0<=x->x<=A -> -(A*B)<=x*b/\x*b<=A*B:=by
  intro x h0 h1;have e1:x*b<=x*B:=Int.mul_le_mul_of_nonneg_left hb.2 h0;have e2:x*(-B)<=x*b:=Int.mul_le_mul_of_nonneg_left hb.1 h0;have e3:x*B<=A*B:=bK h1 (by omega);rw[Int.mul_neg]at e2;omega
 rcases kX 0 a with h | h
 .exact key a h ha.2
 .have:=key (-a) (by omega) (by omega);rw[Int.neg_mul]at this;omega
theorem ab1{f:eu}{m:cq}{x:wY}(hm:Fm f m)(hx:Zg f x):∀(k i:Nat) (acc:Int),i+k=x.bl.length -> -(i*100000000)<=acc/\acc<=i*100000000 ->
  WL T [2,3,4,8,9,10] false jq [(2,.bu [.int .i64 f.x,.int .i64 f.y,.int .i64 f.z,.int .i64 f.k,.int .i64 x.kind,.aG x.bl.length (x.bl.flatMap aX),.aG x.wt.length (x.wt.flatMap aX)]),(3,.bu [.str m.name,.aG m.bg.length (m.bg.flatMap aX)]),(4,.int .i64 acc),(8,.aG x.bl.length (x.bl.flatMap aX)),(9,.int .i64 x.bl.length),(10,.int .i64 i)] J
   (λx' e J'=>J'=J/\x'=.exit 0/\get e 4=.int .i64 (Su m.bg (x.kind*f.size) acc (x.bl.drop i) (x.wt.drop i))):=by
 intro k;induction k with
 |zero =>
  intro i acc hi ha;refine aJ jq.eq_1 ?_;have h1:¬i<x.bl.length:=by omega
  have h2:x.bl.drop i=[]:=aA (by omega);simp[-length_flatMap,-map_take,h1,h2,Su]
 |succ k ih0 =>
  intro i acc hi ha;refine aJ jq.eq_1 ?_;have h1:i<x.bl.length:=by omega
  have hlen:=hx.len;have h1':i<x.wt.length:=by omega
  obtain⟨b,hb⟩:=gE h1;obtain⟨w,hw⟩:=gE h1';obtain⟨q1,q2⟩:=KX hm.fv;obtain⟨z1,z2,z3,z4,z5⟩:=eu.sU.1 hm.fv;obtain⟨s1,s2,s3⟩:=Ld hx.aat hb hw;have hl64:=ID hx.len hx.aat (by omega);have h4:=eT h1;have h5:=drop_at hb;have h6:=drop_at hw;have h2:=pv hb;have h3:=pv hw;have k1:=hx.kind;have k2:0<=x.kind*f.size/\x.kind*f.size+f.size<=f.k*f.size:=by
   refine⟨dp k1.1 (by omega),?_⟩;have:=bK (show x.kind+1<=f.k by omega) (show 0<=f.size by omega);rw[Int.add_mul]at this;omega
  have hvl:=hm.len;obtain⟨j,hj⟩:∃j:Nat,x.kind*f.size+b=j:=⟨(x.kind*f.size+b).toNat,by omega⟩;have hj1:j<m.bg.length:=by omega
  obtain⟨v,hv⟩:=gE hj1;have hvb:=hm.ok v (ai hv);have h7:=pv hv;have hB:=λJ=>HG (J:=J) hm.fv
  have b1:=WX (a:=w) (b:=v) (A:=1000) (B:=100000) (by omega) hvb (by omega);have w1:=eF (n:=x.kind*f.size);have w2:=eF (n:=(j:Int));have w3:=eF (n:=w*v);have w4:=eF (n:=acc+w*v);have ih:=ih0 (i+1) (acc+w*v) (by omega) (by omega);rw[h5,h6,Su,hj];simp only[Int.toNat_natCast,hv,Option.getD_some];simp[-length_flatMap,-map_take,h1,h1',h2,h3,h4,hB,w1,w2,w3,w4,hj,hj1,h7];exact WL.to ih (by simp) rfl λx e J hh=>by simpa[hv]using hh
theorem Th{f:eu}{m:cq}{x:wY}(hm:Fm f m)(hx:Zg f x):lim T (.call false 172 [.agg [.int .i64 f.x,.int .i64 f.y,.int .i64 f.z,.int .i64 f.k,.int .i64 x.kind,.aG x.bl.length (x.bl.flatMap aX),.aG x.wt.length (x.wt.flatMap aX)],.agg [.str m.name,.aG m.bg.length (m.bg.flatMap aX)]] J)=some (.val (.int .i64 (Lm f m x)) J):=by
 refine au DT pX.eq_1 rfl ?_;simp[-length_flatMap,-map_take];refine WL.to (ab1 (J:=[]::J) hm hx x.bl.length 0 0 (by omega) (by simp)) (by simp) rfl ?_;rintro x' e J' ⟨rfl,rfl,g⟩;simp[-length_flatMap,-map_take,g,Lm]
theorem Qh{f:eu}{x:wY}:lim T (.call false 108 [.agg [.int .i64 f.x,.int .i64 f.y,.int .i64 f.z,.int .i64 f.k],.agg x.enc] J)=some (.val (.fn 172 [.agg [.int .i64 f.x,.int .i64 f.y,.int .i64 f.z,.int .i64 f.k,.int .i64 x.kind,.aG x.bl.length (x.bl.flatMap aX),.aG x.wt.length (x.wt.flatMap aX)]] []) J):=by
 refine au Ao lf.eq_1 rfl ?_;simp[-length_flatMap,-map_take,D.clean,bq]
end Go.Proofs.YtklfdfnoebnciaaGreatDoor
namespace Go.gJ
open List(length_flatMap map_take)
open Go Go.az Go.aD
def wC(f:eu)(x:wY):Int:=if f.valid=true then f.measure x else 1
def yq(p:Int×Int):List D:=[.int .i64 p.1,.int .i64 p.2]
def ru(nm:List UInt8)(k lo hi:Int)(ps:List (Int×Int)):wY:=⟨nm,k,ps.map (·.1),ps.map (·.2),lo,hi⟩
end Go.gJ
namespace Go.Proofs.YtklfdfnoebnciaaGreatDoor
open List(length_flatMap map_take)
open Go Go.az Go.aD Go.gJ
variable {J:SK}
theorem JL{f:eu}{x:wY}(hf:f.valid=true)(hn:x.name.length<=1000000000)(hl:x.bl.length<=1000000000):
  lim T (.call false 102 [.bu [.int .i64 f.x,.int .i64 f.y,.int .i64 f.z,.int .i64 f.k],.bu [.aG 1 x.enc]] J)=some (.val (.int .i64 (f.measure x)) J):=by
 refine au yA jb.eq_1 rfl ?_;have h:=λJ=>Lz (J:=J) (f:=f) (l:=[x]) hf (by intro m hm;simp at hm;subst hm;exact⟨hn,by omega⟩) (by simp)
 have he:f.Dw [x]=f.measure x:=by
  simp only[eu.Dw,eu.Df];by_cases h:f.measure x=0<;>simp[h]
 rw[he]at h;simp only[List.length_singleton,aT,cb,cC]at h;simp only[wY.enc]at h ⊢;simp[-length_flatMap,-map_take,h]
theorem EB{f:eu}{x:wY}(hn:x.name.length<=1000000000)(hl:x.bl.length<=1000000000):
  lim T (.call false 72 [.agg [.int .i64 f.x,.int .i64 f.y,.int .i64 f.z,.int .i64 f.k],.aG 1 x.enc] J)=some (.val (.int .i64 (wC f x)) J):=by
 refine au z6 kj.eq_1 rfl ?_;have hC:=λJ=>IH (J:=J) (fs:=[.fn 95 [.agg [.int .i64 f.x,.int .i64 f.y,.int .i64 f.z,.int .i64 f.k]] [],.fn 102 [] [.bu [.int .i64 f.x,.int .i64 f.y,.int .i64 f.z,.int .i64 f.k],.bu [.aG 1 x.enc]]]) (es:=[f.shape,f.measure x]) rfl (by simp) (by simp) (by
  intro i d n hd hn' h0 J;match i with
  |0 =>
   simp at hd hn';subst hd hn';simp[Fp]
  |1 =>
   simp only[List.getElem?_cons_succ,cc,ad]at hd hn';subst hd hn';have h1:f.valid=true:=by
    have:=h0 0 (by omega);simp[eu.shape]at this;exact this
   have hh:=JL (J:=J) h1 hn hl;rw[rH];have h':lim T (.call false 102 ([]++[]++[.bu [.int .i64 f.x,.int .i64 f.y,.int .i64 f.z,.int .i64 f.k],.bu [.aG 1 x.enc]]) J)=_:=hh;rw[h'];rfl
  |i+2=>simp at hd)
 have e1:cA id [f.shape,f.measure x]=wC f x:=by
  simp only[cA,id,wC,eu.shape];by_cases h:f.valid=true
  .by_cases h2:f.measure x=0<;>simp[h,h2]
  .simp[h]
 rw[e1]at hC;simp only[wY.enc,aF,bj]at hC ⊢;simp[-length_flatMap,-map_take,hC]
theorem VK{f:eu}{m:cq}(hf:f.valid=true)(hn:m.name.length<=1000000000)(hl:m.bg.length<=1000000000):
  lim T (.call false 104 [.bu [.int .i64 f.x,.int .i64 f.y,.int .i64 f.z,.int .i64 f.k],.bu [.str m.name,.aG m.bg.length (m.bg.flatMap aX)]] J)=some (.val (.int .i64 (f.model m)) J):=by
 refine au Ha uB.eq_1 rfl ?_;simp[-length_flatMap,-map_take,MV hf hn hl]
theorem VL{f:eu}{x:wY}(hf:f.valid=true)(hn:x.name.length<=1000000000)(hl:x.bl.length<=1000000000):
  lim T (.call false 106 [.bu [.int .i64 f.x,.int .i64 f.y,.int .i64 f.z,.int .i64 f.k],.bu x.enc] J)=some (.val (.int .i64 (f.measure x)) J):=by
 refine au Hb uC.eq_1 rfl ?_;have h:=λJ=>HL (J:=J) (f:=f) (m:=x) hf hn (by omega)
 simp only[wY.enc]at h ⊢;simp[-length_flatMap,-map_take,h]
theorem VI{f:eu}{m:cq}{x:wY}(hf:f.valid=true)(hm:f.model m=0)(hx:f.measure x=0)(hn:m.name.length<=1000000000)(hl:m.bg.length<=1000000000)(hn2:x.name.length<=1000000000)(hl2:x.bl.length<=1000000000):
  lim T (.call false 75 [.agg [.int .i64 f.x,.int .i64 f.y,.int .i64 f.z,.int .i64 f.k],.agg [.str m.name,.aG m.bg.length (m.bg.flatMap aX)],.agg x.enc] J)=some (.val (.dj [.int .i64 (Lm f m x),.int .i64 0]) J):=by
 refine au J4 xj.eq_1 rfl ?_;have hC:=λJ=>IH (J:=J) (fs:=[.fn 95 [.agg [.int .i64 f.x,.int .i64 f.y,.int .i64 f.z,.int .i64 f.k]] [],.fn 104 [] [.bu [.int .i64 f.x,.int .i64 f.y,.int .i64 f.z,.int .i64 f.k],.bu [.str m.name,.aG m.bg.length (m.bg.flatMap aX)]],.fn 106 [] [.bu [.int .i64 f.x,.int .i64 f.y,.int .i64 f.z,.int .i64 f.k],.bu x.enc]]) (es:=[f.shape,f.model m,f.measure x]) rfl (by simp) (by simp) (by
  intro i d n hd hn' h0 J;match i with
  |0 =>
   simp at hd hn';subst hd hn';simp[Fp]
  |1 =>
   simp at hd hn';subst hd hn';simp[VK hf hn hl]
  |2 =>
   simp only[List.getElem?_cons_succ,cc,ad]at hd hn';subst hd hn';have hh:=VL (J:=J) hf hn2 hl2;rw[rH];have h':lim T (.call false 106 ([]++[]++[.bu [.int .i64 f.x,.int .i64 f.y,.int .i64 f.z,.int .i64 f.k],.bu x.enc]) J)=_:=hh;rw[h'];rfl
  |i+3=>simp at hd)
 have e1:cA id [f.shape,f.model m,f.measure x]=0:=by simp[cA,eu.shape,hf,hm,hx]
 rw[e1]at hC;have hW:=λJ=>Qh (J:=J) (f:=f) (x:=x)
 have hS:=λJ=>Th (J:=J) (Fm.of hf hm) (Zg.of hx)
 simp only[wY.enc,aF,bj]at hC hW ⊢;simp[-length_flatMap,-map_take,hC,hW,hS]
theorem NP(l:List (Int×Int)):(l.flatMap yq).length=l.length*2:=bZ (f:=yq) (w:=2) (λ_=>rfl) l
theorem AO(l:List Int):(l.flatMap aX).length=l.length:=by have:=bZ (f:=aX) (w:=1) (λ_=>rfl) l;omega
def Hw(L:Nat)(nm:List UInt8)(k lo hi:Int)(ps:List (Int×Int)):List az.aI :=
 [.cells 0 [.str nm,.int .i64 k,.sl L 1 ps.length 0 ps.length 1,.sl L 2 ps.length 0 ps.length 1,.int .i64 lo,.int .i64 hi],.cells ps.length ((ps.map (·.1)).flatMap aX),.cells ps.length ((ps.map (·.2)).flatMap aX)]
theorem IJ{ps:List (Int×Int)}(hps:ps.length<=1000000){X Y:D}(hx:X.calm=X)(hy:Y.calm=Y){nm:List UInt8}{k lo hi:Int}:∀(m j:Nat),j+m=ps.length ->
  WL T [2,3,6,30,31,32] false ea [(2,X),(3,Y),(6,.ref J.length 0 0 0),(30,.aG (ps.length*2) (ps.flatMap yq)),(31,.int .i64 (ps.length*2)),(32,.int .i64 (j*2))] (Hw J.length nm k lo hi (ps.take j)::J)
   (λx e J'=>x=.exit 0/\get e 2=X/\get e 3=Y/\get e 6=.ref J.length 0 0 0/\get e 1000006=.undef/\J'=Hw J.length nm k lo hi ps::J)
 |0,j,h=>by
  refine aJ ea.eq_1 ?_;have h1:¬j<ps.length:=by omega
  have h2:ps.take j=ps:=ah (by omega);simp[-length_flatMap,-map_take,h1,hx,hy,h2]
 |m+1,j,h=>by
  refine aJ ea.eq_1 ?_;have h1:j<ps.length:=by omega
  have h2:(j:Int)*2<(ps.length:Int)*2:=by omega
  have h3:(j:Int)*2+1<(ps.length:Int)*2:=by omega
  have h0:0<=(j:Int)*2:=by omega
  have h0':0<=(j:Int)*2+1:=by omega
  obtain⟨p,hp⟩:=gE h1;have hd:=zx (f:=yq) (w:=2) (λ_=>rfl) hp;have hd2:(ps.flatMap yq).drop (j*2+1)=.int .i64 p.2::(ps.flatMap yq).drop (j*2+2):=by
   have:=congrArg (List.drop 1) hd;simpa[yq,eK]using this
  have hd1:(ps.flatMap yq).drop (j*2)=.int .i64 p.1::.int .i64 p.2::(ps.flatMap yq).drop (j*2+2):=by simpa[yq]using hd
  have t1:((j:Int)*2).toNat=j*2:=by omega
  have t2:((j:Int)*2+1).toNat=j*2+1:=by omega
  have w1:IntKind.i64.wrap ((j:Int)*2+1)=j*2+1:=eF;have w2:IntKind.i64.wrap ((j:Int)*2+1+1)=j*2+1+1:=eF;have m1:((j:Int)*2).tmod 2=0:=by rw[Int.tmod_eq_emod_of_nonneg (by omega)];omega
  have m2:((j:Int)*2+1).tmod 2=1:=by rw[Int.tmod_eq_emod_of_nonneg (by omega)];omega
  have hl:(ps.take j).length=j:=by simp;omega
  have hr:(j+1)*8<=room:=by unfold room;omega
  have ha:=AO ((ps.take j).map (·.1));have hb:=AO ((ps.take j).map (·.2));simp only[jk,hl]at ha hb;have ta:(((ps.take j).map (·.1)).flatMap aX).take j=((ps.take j).map (·.1)).flatMap aX:=ah (by omega);have tb:(((ps.take j).map (·.2)).flatMap aX).take j=((ps.take j).map (·.2)).flatMap aX:=ah (by omega);have ih:=IJ hps hx hy (nm:=nm) (k:=k) (lo:=lo) (hi:=hi) m (j+1) (by omega);have htk:ps.take (j+1)=ps.take j++[p]:=by rw[List.take_add_one,hp];rfl
  rw[htk]at ih;have hj1:((j+1:Nat):Int)*2=(j:Int)*2+1+1:=by omega
  rw[hj1]at ih;simp[-length_flatMap,-map_take,hx,hy,Hw,hl,h0,h0',h1,h2,h3,t1,t2,hd1,hd2,w1,w2,m1,m2,hr,ha,hb,ta,tb];refine aJ ea.eq_1 ?_;simp[-length_flatMap,-map_take,hx,hy,Hw,hl,h0,h0',h1,h2,h3,t1,t2,hd1,hd2,w1,w2,m1,m2,hr,ha,hb,ta,tb];refine WL.to ih (by simp) (by simp[Hw,hl]) λx e J' hh=>by simpa[Hw]using hh
theorem VS{A F:List az.aI}{b:Bk}{er:List Int}{m:cq}{x:wY}(hf:b.bH.f.valid=true)(hm:b.bH.f.model m=0)(hx:b.bH.f.measure x=0)(hn:m.name.length<=1000000000)(hl:m.bg.length<=1000000000)(hn2:x.name.length<=1000000000)(hl2:x.bl.length<=1000000000):
  lim T (.call false 74 [.agg [.str m.name,.aG m.bg.length (m.bg.flatMap aX)],.bu [.ref J.length 6 0 0],.bu x.enc] ([]::A::F::b.bk J.length er::J))=some (.val (.int .i64 (Lm b.bH.f m x)) ([]::A::F::b.bk J.length er::J)):=by
 refine au Ap lg.eq_1 rfl ?_;have hS:=λJ=>VI (J:=J) hf hm hx hn hl hn2 hl2
 simp only[wY.enc]at hS ⊢;simp[-length_flatMap,-map_take,Bk.bk,Bk.cells,hS]
theorem QJ{x:wY}:D.bx x.enc=true:=by simp[wY.enc,bq]
theorem Np{S:SK}{L:Nat}(hS:S.length=L)(hL:0<L){nm:List UInt8}{k lo hi:Int}{ps:List (Int×Int)}:
  rD L 0 0 (Hw L nm k lo hi ps::S)=(.bu (ru nm k lo hi ps).enc,[.dead,.dead,.dead]::S):=by
 have hne:S≠[]:=by intro h;subst h;simp at hS;omega
 have h1:=zW (f:=aX) (w:=1) (λ_=>rfl) (λ_=>by simp[D.clean]) (l:=ps.map (·.1)) (j:=1) (v:=ps.length) (bs:=[.dead,.cells ps.length ((ps.map (·.1)).flatMap aX),.cells ps.length ((ps.map (·.2)).flatMap aX)]) (J:=S) hne (by simp);have h2:=zW (f:=aX) (w:=1) (λ_=>rfl) (λ_=>by simp[D.clean]) (l:=ps.map (·.2)) (j:=2) (v:=ps.length) (bs:=[.dead,.dead,.cells ps.length ((ps.map (·.2)).flatMap aX)]) (J:=S) hne (by simp);rw[hS]at h1 h2;simp only[jk,List.set_cons_succ,List.set_cons_zero]at h1 h2;simp[rD,Hw,hS,h1,h2,ru]
def EM(b:Bk)(x:wY):Bk×Int:=if b.an=[]then(b,8)else if wC b.bH.f x=0 then(wc b x.lo x.hi λm=>Lm b.bH.f m x,0)else(b,wC b.bH.f x)
theorem VT{F:List az.aI}{b:Bk}{er:List Int}{nm:List UInt8}{k lo hi:Int}{ps:List (Int×Int)}{b':Bk}{e:Int}(hps:ps.length<=1000000)(hnm:nm.length<=1000000000)(hw:b.n9.length=b.an.length)(hml:b.an.length<=40)(hms:∀e∈b.an,b.bH.f.model e.m=0/\e.m.name.length<=1000000000/\e.m.bg.length<=1000000000)(hd:EM b (ru nm k lo hi ps)=(b',e))(he:e=0):
  lim T (.call false 50 [.ref J.length 6 0 0,.str nm,.aG (ps.length*2+3) (.int .i64 k::.int .i64 lo::.int .i64 hi::ps.flatMap yq)] (F::b.bk J.length er::J))=some (.val (.dj []) (F::b'.bk J.length er::J)):=by
 refine eQ wv j2.eq_1 rfl (by simp) ?_;unfold EM at hd;split at hd
 case isTrue=>cases hd;cases he
 rename_i hne;split at hd
 case isFalse=>cases hd;rename_i h;exact absurd he h
 rename_i hck;cases hd;have q0:(0:Int)<(ps.length:Int)*2+3:=by omega
 have q1:(1:Int)<(ps.length:Int)*2+3:=by omega
 have q2:(2:Int)<(ps.length:Int)*2+3:=by omega
 have q3:(3:Int)<=(ps.length:Int)*2+3:=by omega
 have c1:0<b.an.length:=aP.2 hne;have hC:=λJ=>EB (J:=J) (f:=b.bH.f) (x:=ru nm k lo hi ps) hnm (by simp[ru];omega)
 simp only[hck]at hC;have hv:b.bH.f.valid=true/\b.bH.f.measure (ru nm k lo hi ps)=0:=by
  unfold wC at hck;split at hck
  .rename_i h;exact⟨h,hck⟩
  .cases hck
 have hlp:=NP ps;have htp:(ps.flatMap yq).take (ps.length*2)=ps.flatMap yq:=ah (by omega);have hL:=IJ (J:=F::b.bk J.length er::J) hps (X:=.aG (ps.length*2+3) (.int .i64 k::.int .i64 lo::.int .i64 hi::ps.flatMap yq)) (Y:=.bu [.ref J.length 6 0 0]) rfl rfl (nm:=nm) (k:=k) (lo:=lo) (hi:=hi) ps.length 0 (by omega);simp[-length_flatMap,-map_take,Bk.bk,Bk.cells,c1,cg,q0,q1,q2,q3];refine WL.to hL (by simp[htp]) (by simp[Hw,Bk.bk,Bk.cells]) ?_;rintro x e J' ⟨rfl,g2,g3,g6,gu,rfl⟩;have hf:=λS hS=>Np (S:=S) (L:=J.length+1+1) hS (by omega) (nm:=nm) (k:=k) (lo:=lo) (hi:=hi) (ps:=ps)
 have hst:=JZ (J:=J) (A:=[.dead,.dead,.dead]) (F:=F) (b:=b) (er:=er) (lo:=lo) (hi:=hi) (val:=λm=>Lm b.bH.f m (ru nm k lo hi ps)) (fv:=.fn 74 [] [.bu [.ref J.length 6 0 0],.bu (ru nm k lo hi ps).enc]) rfl rfl hw hml (by
  intro i e he _;obtain⟨k1,k2,k3⟩:=hms e he;have h:=VS (J:=J) (A:=[.dead,.dead,.dead]) (F:=F) (er:=er) (b:=b.jn lo hi (λm=>Lm b.bH.f m (ru nm k lo hi ps)) i) (m:=e.m) (x:=ru nm k lo hi ps) hv.1 k1 hv.2 k2 k3 hnm (by simp[ru];omega);rw[rH];have h':lim T (.call false 74 ([]++[.agg [.str e.m.name,.aG e.m.bg.length (e.m.bg.flatMap aX)]]++[.bu [.ref J.length 6 0 0],.bu (ru nm k lo hi ps).enc]) ([]::[.dead,.dead,.dead]::F::(b.jn lo hi (λm=>Lm b.bH.f m (ru nm k lo hi ps)) i).bk J.length er::J))=_:=h;rw[h'];rfl)
 have hcl:=QJ (x:=ru nm k lo hi ps);have e1:(ru nm k lo hi ps).lo=lo:=aB rfl;have e2:(ru nm k lo hi ps).hi=hi:=aB rfl;simp only[Bk.bk,Bk.cells,wY.enc,e1,e2]at hst hC hf hcl;simp[-length_flatMap,-map_take,g2,g3,g6,gu,hf,hC,ng,hst,q1,q2,Bk.bk,Bk.cells,hcl,bq,e1,e2]
theorem S5{F:List az.aI}{b:Bk}{er:List Int}{nm:List UInt8}{k lo hi:Int}{ps:List (Int×Int)}{b':Bk}{e:Int}(hps:ps.length<=1000000)(hnm:nm.length<=1000000000)(hd:EM b (ru nm k lo hi ps)=(b',e))(he:e≠0):
  lim T (.call false 50 [.ref J.length 6 0 0,.str nm,.aG (ps.length*2+3) (.int .i64 k::.int .i64 lo::.int .i64 hi::ps.flatMap yq)] (F::b.bk J.length er::J))=some (.eA (rf e) (F::b.bk J.length er::J)):=by
 refine di wv j2.eq_1 rfl ?_;unfold EM at hd;split at hd
 case isTrue hne =>
  cases hd;simp[-length_flatMap,-map_take,Bk.bk,Bk.cells,hne,cM,D.clean,rf]
 rename_i hne;split at hd
 case isTrue=>cases hd;exact absurd rfl he
 rename_i hck;cases hd;have q0:(0:Int)<(ps.length:Int)*2+3:=by omega
 have q1:(1:Int)<(ps.length:Int)*2+3:=by omega
 have q2:(2:Int)<(ps.length:Int)*2+3:=by omega
 have q3:(3:Int)<=(ps.length:Int)*2+3:=by omega
 have c1:0<b.an.length:=aP.2 hne;have hC:=λJ=>EB (J:=J) (f:=b.bH.f) (x:=ru nm k lo hi ps) hnm (by simp[ru];omega)
 have hM:=λJ=>oM (J:=J) hck
 generalize wC b.bH.f (ru nm k lo hi ps)=err at hC hM hck he ⊢;have hrc:(D.tK 90 (.agg [.int .i64 err])).clean=true:=rfl;have hlp:=NP ps;have htp:(ps.flatMap yq).take (ps.length*2)=ps.flatMap yq:=ah (by omega);have hL:=IJ (J:=F::b.bk J.length er::J) hps (X:=.aG (ps.length*2+3) (.int .i64 k::.int .i64 lo::.int .i64 hi::ps.flatMap yq)) (Y:=.bu [.ref J.length 6 0 0]) rfl rfl (nm:=nm) (k:=k) (lo:=lo) (hi:=hi) ps.length 0 (by omega);simp[-length_flatMap,-map_take,Bk.bk,Bk.cells,c1,cg,q0,q1,q2,q3];refine WL.to hL (by simp[htp]) (by simp[Hw,Bk.bk,Bk.cells]) ?_;rintro x e J' ⟨rfl,g2,g3,g6,gu,rfl⟩;have hf:=λS hS=>Np (S:=S) (L:=J.length+1+1) hS (by omega) (nm:=nm) (k:=k) (lo:=lo) (hi:=hi) (ps:=ps)
 have hcl:=QJ (x:=ru nm k lo hi ps);simp only[Bk.bk,Bk.cells,wY.enc]at hC hf hcl;simp[-length_flatMap,-map_take,g2,g3,g6,gu,hf,hC,hM,q1,q2,Bk.bk,Bk.cells,hcl,bq,rf,hrc]
end Go.Proofs.YtklfdfnoebnciaaGreatDoor
namespace Go.gJ
open List(length_flatMap map_take)
open Go Go.az Go.aD
def bY(l:List kW):List kW:=l.filter (·.left)
end Go.gJ
namespace Go.Proofs.YtklfdfnoebnciaaGreatDoor
open List(length_flatMap map_take)
section
open Go Go.az Go.aD Go.gJ
variable {J:SK}
theorem S3{e:kW}:lim T (.call false 122 [.agg e.enc] J)=some (.val (.bool e.left) J):=by
 refine au Ac kr.eq_1 rfl ?_;simp[-length_flatMap,-map_take]
theorem FP{l:List kW}{lv bi v:Nat}{G:List az.aI}(hG:G[bi]?=some (.cells v (l.flatMap kW.enc)))(hs:eZ J lv=some G)(hl:l.length<=1000000):∀(m i:Nat) (acc:List kW),i+m=l.length->acc.length<=i ->
  WL T [1,4,7,8,9] false cz [(1,.fn 122 [] []),(4,.sl J.length 0 acc.length 0 acc.length 4),(7,.sl lv bi v 0 l.length 4),(8,.int .i64 l.length),(9,.int .i64 i)] ([.cells acc.length (acc.flatMap kW.enc)]::J)
   (λx e J'=>x=.exit 0/\get e 4=.sl J.length 0 (acc++bY (l.drop i)).length 0 (acc++bY (l.drop i)).length 4/\J'=[.cells (acc++bY (l.drop i)).length ((acc++bY (l.drop i)).flatMap kW.enc)]::J)
 |0,i,acc,hi,ha=>by
  refine aJ cz.eq_1 ?_;have h1:¬i<l.length:=by omega
  have h2:l.drop i=[]:=aA (by omega);simp[-length_flatMap,-map_take,h1,h2,bY]
 |m+1,i,acc,hi,ha=>by
  refine aJ cz.eq_1 ?_;have h1:i<l.length:=by omega
  obtain⟨e,he⟩:=gE h1;have hfl:=cf (f:=kW.enc) (w:=4) (λ_=>rfl) he;have hd:=drop_at he;have h4:=eT h1;have hlen:=Dh l;have q:4<=l.length*4-i*4:=by omega
  have hlt:=yr hs;have hlv:¬J.length=lv:=by omega
  have hC:=λJ=>S3 (J:=J) (e:=e)
  simp only[kW.enc]at hC;cases hc:e.left with
  |false =>
   rw[hc]at hC;have ih:=FP hG hs hl m (i+1) acc (by omega) (by omega);simp[-length_flatMap,-map_take,h1,hs,hG,hlv,hfl,hlen,q,h4,hC,hc];exact WL.to ih (by simp) rfl λx e' J' hh=>by rw[hd];simpa[bY,hc]using hh
  |true =>
   rw[hc]at hC;have ih:=FP hG hs hl m (i+1) (acc++[e]) (by omega) (by simp;omega);have hr:(acc.length+1)*56<=room:=by unfold room;omega
   have hal:=Dh acc;have hat:(acc.flatMap kW.enc).take (acc.length*4)=acc.flatMap kW.enc:=ah (by omega);simp[-length_flatMap,-map_take,h1,hs,hG,hlv,hfl,hlen,q,h4,hC,hc,hr,hal,hat];exact WL.to ih (by simp) (by simp[hc]) λx e' J' hh=>by rw[hd];simpa[bY,hc]using hh
theorem PQ{l:List kW}{lv bi v:Nat}{G:List az.aI}(hG:G[bi]?=some (.cells v (l.flatMap kW.enc)))(hs:eZ J lv=some G)(hl:l.length<=1000000)(hJ:J≠[]):
  lim T (.call false 121 [.sl lv bi v 0 l.length 4,.fn 122 [] []] J)=some (.val (.aG (bY l).length ((bY l).flatMap kW.enc)) J):=by
 refine au uf ec.eq_1 rfl ?_;have h:=FP (J:=J) hG hs hl l.length 0 [] (by omega) (by simp);simp only[List.nil_append]at h;simp[-length_flatMap,-map_take];refine WL.to h (by simp) (by simp) ?_;rintro x e J' ⟨rfl,g4,rfl⟩;have hk:=Go.az.zX (f:=kW.enc) (w:=4) (λ_=>rfl) (λ_=>by simp[D.clean,bq]) (l:=bY l) (j:=0) (v:=(bY l).length) (bs:=[.cells (bY l).length ((bY l).flatMap kW.enc)]) (J:=J) hJ (by simp);rw[aK]at g4 ⊢;simp[-length_flatMap,-map_take,g4,hk]
theorem DR{b:Bk}{er:List Int}{S:SK}(hl:b.an.length<=1000000)(hs:eZ S J.length=some (b.bk J.length er)):
  lim T (.call false 78 [.ref J.length 6 0 0] S)=some (.val (.aG (bY b.an).length ((bY b.an).flatMap kW.enc)) S):=by
 refine au BG l9.eq_1 rfl ?_;have hlt:=yr hs;have hne:¬S.length=J.length:=by omega
 have h:=PQ (J:=[]::S) (l:=b.an) (lv:=J.length) (bi:=0) (v:=b.an.length) (G:=b.bk J.length er) (by simp[Bk.bk]) (by simp[eZ,hne,hs]) hl (by simp);have hcl:D.bx ((bY b.an).flatMap kW.enc)=true:=eS (λ_=>by simp[D.clean,bq]) _;have hc6:(b.bk J.length er)[6]?=some (.cells 0 (b.cells J.length)):=by simp[Bk.bk]
 simp[-length_flatMap,-map_take,hne,hs,hc6,Bk.cells,h,hcl]
end
section
open Go Go.az Go.bM
variable {J:SK}
theorem UR{lv:Nat}{G:List az.aI}(hsg:eZ J lv=some G){R:List dA}{l:List Ev}{now may sure:Int}{j:Nat}{r:dA}(hG1:G[1]?=some (.cells R.length (R.flatMap dA.enc)))(hG2:G[2]?=some (.cells l.length (l.flatMap Ev.enc)))(hl:l.length<=200)(hs:∀e∈l,e.sp.length<=2000)(hr:r.ok=true)(hn:bT now 0 1000000=true):∀(m i:Nat) (a b:Nat),i+m=l.length->a+m<=200->b+m<=200 ->
  WL T [1,2,6,7,10,11,12,13,36,37,38,44,45,46] false ic [(1,.sl lv 2 l.length 0 l.length 2),(2,.int .i64 now),(6,.int .u8 may),(7,.int .u8 sure),(10,.own 0 r.enc),(11,.int .i64 a),(12,.int .i64 b),(13,.fn 114 [.agg r.enc] []),
    (36,.sl lv 1 R.length 0 R.length 10),(37,.int .i64 R.length),(38,.int .i64 j),(44,.sl lv 2 l.length 0 l.length 2),(45,.int .i64 l.length),(46,.int .i64 i)] J
   (λx e J'=>x=.exit 3/\J'=J/\get e 1=.sl lv 2 l.length 0 l.length 2/\get e 2=.int .i64 now/\get e 6=.int .u8 may/\get e 7=.int .u8 sure/\get e 10=.own 0 r.enc/\get e 11=.int .i64 (a+Fg (yU r now) (l.drop i):Nat)/\get e 12=.int .i64 (b+Fg (tc r now) (l.drop i):Nat) /\
    get e 36=.sl lv 1 R.length 0 R.length 10/\get e 37=.int .i64 R.length/\get e 38=.int .i64 j)
 |0,i,a,b,hi,ha,hb=>by
  refine aJ ic.eq_1 ?_;have h1:¬i<l.length:=by omega
  have h2:l.drop i=[]:=by simp;omega
  simp[-length_flatMap,-map_take,h1,h2,Fg]
 |m+1,i,a,b,hi,ha,hb=>by
  refine aJ ic.eq_1 ?_;have g1:i<l.length:=by omega
  obtain⟨e,he⟩:=gE g1;have a1:=cf (f:=Ev.enc) (w:=2) (λ_=>rfl) he;have al:(l.flatMap Ev.enc).length=l.length*2:=bZ (f:=Ev.enc) (w:=2) (λ_=>rfl) l;have aq:2<=l.length*2-i*2:=by omega
  have w1:=eT g1;have hr':=GS.1 hr;have hn':=aU.1 hn;have hse:=hs e (ai he);have w2:=eF (n:=now-r.yV);have w3:=eF (n:=(a:Int)+1);have w4:=eF (n:=(b:Int)+1);have hC:∀J,lim T (.call false 115 [.aG e.sp.length (e.sp.flatMap we.enc),.fn 114 [.agg r.enc] []] J)=some (.val (.bool (sB e.sp r.OE)) J):=λJ =>
   contains_of LZ kL mI (by omega) (.fn λs _ J=>JS)
  have hA:=λJ=>@HF J e.sp r.OE (.fn 114 [.agg r.enc] []) (.fn λs _ J=>JS) rfl (by omega)
  simp only[dA.enc]at hC hA;have d1:Fg (yU r now) (l.drop i)=Fg (yU r now) (l.drop (i+1))+(if yU r now e then 1 else 0):=by rw[drop_at he];rfl
  have d2:Fg (tc r now) (l.drop i)=Fg (tc r now) (l.drop (i+1))+(if tc r now e then 1 else 0):=by rw[drop_at he];rfl
  have ih:=λa b=>UR hsg hG1 hG2 (R:=R) (may:=may) (sure:=sure) (j:=j) hl hs hr hn m (i+1) a b (by omega)
  rw[d1,d2];by_cases c1:now<e.tick
  .have e1:yU r now e=false:=by simp[yU,dA.act];omega
   have e2:tc r now e=false:=by simp[tc,dA.act];omega
   simp[-length_flatMap,-map_take,g1,a1,al,aq,hsg,hG1,hG2,w1,c1,e1,e2];exact WL.to (ih a b (by omega) (by omega)) (by simp) rfl λx e J' hh=>by simpa[e1,e2]using hh
  by_cases c2:e.tick<=now-r.yV
  .have e1:yU r now e=false:=by simp[yU,dA.act];omega
   have e2:tc r now e=false:=by simp[tc,dA.act];omega
   simp[-length_flatMap,-map_take,g1,a1,al,aq,hsg,hG1,hG2,w1,w2,c1,c2,e1,e2];exact WL.to (ih a b (by omega) (by omega)) (by simp) rfl λx e J' hh=>by simpa[e1,e2]using hh
  have act:r.act now e=true:=by simp[dA.act];omega
  have e1:yU r now e=sB e.sp r.OE:=by simp[yU,act]
  have e2:tc r now e=fk e.sp r.OE:=by simp[tc,act]
  rw[e1,e2];have k1:∀u v:Nat,u+1+v=u+(v+1):=by intro u v;omega
  cases c3:sB e.sp r.OE<;>cases c4:fk e.sp r.OE<;>simp only[c3,c4]at hC hA
  .simp[-length_flatMap,-map_take,g1,a1,al,aq,hsg,hG1,hG2,w1,w2,c1,c2,hC,hA];exact WL.to (ih a b (by omega) (by omega)) (by simp) rfl λx e J' hh=>by simpa[c3,c4]using hh
  .simp[-length_flatMap,-map_take,g1,a1,al,aq,hsg,hG1,hG2,w1,w2,w4,c1,c2,hC,hA];exact WL.to (ih a (b+1) (by omega) (by omega)) (by simp) rfl λx e J' hh=>by simp only[k1]at hh;simpa[c3,c4]using hh
  .simp[-length_flatMap,-map_take,g1,a1,al,aq,hsg,hG1,hG2,w1,w2,w3,c1,c2,hC,hA];exact WL.to (ih (a+1) b (by omega) (by omega)) (by simp) rfl λx e J' hh=>by simp only[k1]at hh;simpa[c3,c4]using hh
  .simp[-length_flatMap,-map_take,g1,a1,al,aq,hsg,hG1,hG2,w1,w2,w3,w4,c1,c2,hC,hA];exact WL.to (ih (a+1) (b+1) (by omega) (by omega)) (by simp) rfl λx e J' hh=>by simp only[k1]at hh;simpa[c3,c4]using hh
theorem M7{lv:Nat}{G:List az.aI}(hsg:eZ J lv=some G){R:List dA}{l:List Ev}{now:Int}(hR:R.length<=20)(hG1:G[1]?=some (.cells R.length (R.flatMap dA.enc)))(hG2:G[2]?=some (.cells l.length (l.flatMap Ev.enc)))(hl:l.length<=200)(hs:∀e∈l,e.sp.length<=2000)(hr:∀r∈R,r.ok=true)(hn:bT now 0 1000000=true):∀(m j:Nat) (may sure:Int),j+m=R.length ->
  WL T [1,2,6,7,36,37,38] false dU [(1,.sl lv 2 l.length 0 l.length 2),(2,.int .i64 now),(6,.int .u8 may),(7,.int .u8 sure),(36,.sl lv 1 R.length 0 R.length 10),(37,.int .i64 R.length),(38,.int .i64 j)] J
   (λx e J'=>x=.exit 1/\J'=J/\get e 6=.int .u8 (yn (λr=>yU r now) l (R.drop j) may)/\get e 7=.int .u8 (yn (λr=>tc r now) l (R.drop j) sure))
 |0,j,may,sure,hj=>by
  refine aJ dU.eq_1 ?_;have h1:¬j<R.length:=by omega
  have h2:R.drop j=[]:=by simp;omega
  simp[-length_flatMap,-map_take,h1,h2,yn]
 |m+1,j,may,sure,hj=>by
  refine aJ dU.eq_1 ?_;have g1:j<R.length:=by omega
  obtain⟨r,hrj⟩:=gE g1;have a1:=cf (f:=dA.enc) (w:=10) (λ_=>rfl) hrj;have al:(R.flatMap dA.enc).length=R.length*10:=bZ (f:=dA.enc) (w:=10) (λ_=>rfl) R;have aq:10<=R.length*10-j*10:=by omega
  have w1:=eT g1;have hrr:=hr r (ai hrj);have ih:=λmay sure=>M7 hsg hR hG1 hG2 hl hs hr hn m (j+1) may sure (by omega)
  rw[drop_at hrj];simp[-length_flatMap,-map_take,g1,a1,al,aq,hsg,hG1,hG2];refine WL.to (UR hsg hG1 hG2 (J:=J) (R:=R) (l:=l) (now:=now) (may:=may) (sure:=sure) (j:=j) hl hs hrr hn l.length 0 0 0 (by omega) (by omega) (by omega)) (by simp) rfl ?_;rintro x e J' ⟨rfl,rfl,e1,e2,e6,e7,e10,e11,e12,e36,e37,e38⟩;simp only[aK,cr]at e11 e12;simp only[yn];by_cases c1:r.count<=Fg (yU r now) l
  .by_cases c2:r.count<=Fg (tc r now) l
   .simp[-length_flatMap,-map_take,e1,e2,e6,e7,e10,e11,e12,e36,e37,e38,c1,c2,w1];exact WL.to (ih (max may r.OF) (max sure r.OF)) (by simp) rfl λx e J' hh=>by simpa[c1,c2]using hh
   .simp[-length_flatMap,-map_take,e1,e2,e6,e7,e10,e11,e12,e36,e37,e38,c1,c2,w1];exact WL.to (ih (max may r.OF) sure) (by simp) rfl λx e J' hh=>by simpa[c1,c2]using hh
  .by_cases c2:r.count<=Fg (tc r now) l
   .simp[-length_flatMap,-map_take,e1,e2,e6,e7,e10,e11,e12,e36,e37,e38,c1,c2,w1];exact WL.to (ih may (max sure r.OF)) (by simp) rfl λx e J' hh=>by simpa[c1,c2]using hh
   .simp[-length_flatMap,-map_take,e1,e2,e6,e7,e10,e11,e12,e36,e37,e38,c1,c2,w1];exact WL.to (ih may sure) (by simp) rfl λx e J' hh=>by simpa[c1,c2]using hh
theorem PI{lv:Nat}{G:List az.aI}{R:List dA}{l:List Ev}{now:Int}(hsg:eZ J lv=some G)(hG1:G[1]?=some (.cells R.length (R.flatMap dA.enc)))(hG2:G[2]?=some (.cells l.length (l.flatMap Ev.enc)))(hR:R.length<=9223372036854775807)(hl:l.length<=9223372036854775807)(hs:∀e∈l,e.sp.length<=9223372036854775807):
  lim T (.call false 76 [.sl lv 1 R.length 0 R.length 10,.sl lv 2 l.length 0 l.length 2,.int .i64 now] J) =
   some (.val (if oC R l now=0 then .dj [.int .u8 (Rt R l now),.int .u8 (Sw R l now),.int .i64 0]else .dj [.int .u8 0,.int .u8 0,.int .i64 (oC R l now)]) J):=by
 refine au wy mQ.eq_1 rfl ?_;have hlt:=yr hsg;have hne:¬J.length=lv:=by omega
 have hsg':eZ ([]::J) lv=some G:=by simp[eZ,hne,hsg]
 have hAR:=F9 (T:=T) (enc:=dA.enc) (w:=10) (λ_=>rfl) (F:=G) (bi:=1) (v:=R.length) (l:=R) (p:=dA.ok) (fv:=.fn 110 [] []) (f:=109) (g:=174) (h:=173) (i:=217) rfl rfl rfl rfl hG1 hR (.fn λr _ J=>JY) rfl (J:=[]::J) hsg';have hAE:=F9 (T:=T) (enc:=Ev.enc) (w:=2) (λ_=>rfl) (F:=G) (bi:=2) (v:=l.length) (l:=l) (p:=Ev.ok) (fv:=.fn 112 [] []) (f:=111) (g:=177) (h:=176) (i:=218) rfl rfl rfl rfl hG2 hl (.fn λr hr J=>JT (hs r hr)) rfl (J:=[]::J) hsg';by_cases c1:20<R.length
 .have c1':(20:Int)<R.length:=by omega
  simp[-length_flatMap,-map_take,oC,c1,c1']
 have c1':¬(20:Int)<R.length:=by omega
 cases c2:fk R dA.ok
 .simp[-length_flatMap,-map_take,oC,c1,c1',hAR,c2]
 by_cases c3:200<l.length
 .have c3':(200:Int)<l.length:=by omega
  simp[-length_flatMap,-map_take,oC,c1,c1',hAR,c2,c3,c3']
 have c3':¬(200:Int)<l.length:=by omega
 cases c4:fk l Ev.ok
 .simp[-length_flatMap,-map_take,oC,c1,c1',hAR,c2,c3,c3',hAE,c4]
 cases c5:bT now 0 1000000
 .simp[-length_flatMap,-map_take,oC,c1,c1',hAR,c2,c3,c3',hAE,c4,ck,c5]
 have he:oC R l now=0:=by simp[oC,c1,c2,c3,c4,c5]
 rw[if_pos he];simp[-length_flatMap,-map_take,c1',hAR,c2,c3',hAE,c4,ck,c5];refine WL.to (M7 (J:=[]::J) (lv:=lv) (G:=G) hsg' (R:=R) (l:=l) (now:=now) (by omega) hG1 hG2 (by omega) ?_ (iI.1 c2) c5 R.length 0 0 0 (by omega)) (by simp) rfl ?_
 .intro e he;have:=iI.1 c4 e he;simp only[Ev.ok,ae,aU]at this;omega
 .rintro x e J' ⟨rfl,rfl,e6,e7⟩;simp[-length_flatMap,-map_take,e6,e7,Rt,Sw]
end
end Go.Proofs.YtklfdfnoebnciaaGreatDoor
namespace Go.gJ
open List(length_flatMap map_take)
open Go Go.az Go.aD
def vP(b:Bk):Int:=if bM.oC b.rules b.yX b.av.length=0 then bM.Rt b.rules b.yX b.av.length else 0
def CG(b:Bk):Int:=if vP b=0 then b.k0 else if vP b=1 then b.k1 else b.k2
def sK(keep n:Int):Int:=if n<0 then -((-n*keep).tdiv 1000)else n
theorem KT{f:bM.dA->bM.Ev->Bool}{l:List bM.Ev}:∀{R:List bM.dA} {a:Int},(∀r∈R,r.ok=true)->0<=a/\a<=2->0<=bM.yn f l R a/\bM.yn f l R a<=2
 |[],a,_,h=>h
 |r::R,a,hr,h=>by
  have h1:=(bM.GS.1 (hr r (by simp))).2.2.2.2;simp only[bM.yn];refine KT (λr' h'=>hr r' (by simp[h'])) ?_;split
  .rcases h1 with h1 | h1<;>omega
  .exact h
theorem HT{b:Bk}:0<=vP b/\vP b<=2:=by
 unfold vP;split
 .rename_i h;refine KT (λr hr=>?_) (by omega);unfold bM.oC at h;split at h
  .omega
  .split at h
   .omega
   .rename_i h2;exact iI.1 (by simpa using h2) r hr
 .omega
end Go.gJ
namespace Go.Proofs.YtklfdfnoebnciaaGreatDoor
open List(length_flatMap map_take)
section
open Go Go.az Go.aD Go.gJ
variable {J:SK}
theorem JR{b:Bk}{er:List Int}{S:SK}(h1:b.rules.length<=1000000)(h2:b.yX.length<=1000000)(h3:∀e∈b.yX,e.sp.length<=1000000)(hs:eZ S J.length=some (b.bk J.length er)):
  lim T (.call false 79 [.ref J.length 6 0 0] S)=some (.val (.int .u8 (vP b)) S):=by
 refine au Ab kq.eq_1 rfl ?_;have hlt:=yr hs;have hne:¬S.length=J.length:=by omega
 have h:=PI (J:=[]::S) (lv:=J.length) (G:=b.bk J.length er) (R:=b.rules) (l:=b.yX) (now:=b.av.length) (by simp[eZ,hne,hs]) (by simp[Bk.bk]) (by simp[Bk.bk]) (by omega) (by omega) (λe he=>by have:=h3 e he;omega);have hc6:(b.bk J.length er)[6]?=some (.cells 0 (b.cells J.length)):=by simp[Bk.bk]
 unfold vP;by_cases hc:bM.oC b.rules b.yX b.av.length=0
 .rw[if_pos hc]at h;simp[-length_flatMap,-map_take,hne,hs,hc6,Bk.cells,h,hc]
 .rw[if_neg hc]at h;simp[-length_flatMap,-map_take,hne,hs,hc6,Bk.cells,h,hc]
def zF(J:SK)(bp X:D)(keep:Int)(acc rest:List Int)(x:az.Exit)(e:Env)(J':SK):Prop :=
 if fk rest (λn=>bT n (-100000) 100000)=true then
  x=.exit 0/\get e 0=bp/\get e 6=X/\get e 8=.sl J.length 0 (acc++rest.map (sK keep)).length 0 (acc++rest.map (sK keep)).length 1/\J'=[.cells (acc++rest.map (sK keep)).length ((acc++rest.map (sK keep)).flatMap aX)]::J
 else x=.eA (rf 2)/\∃s,J'=s::J
theorem IM{l:List Int}{keep:Int}(hk:0<=keep/\keep<=1000)(hl:l.length<=1000000){bp X:D}(hb:bp.calm=bp)(hx:X.calm=X):∀(m i:Nat) (acc:List Int),i+m=l.length->acc.length=i ->
  WL T [0,6,7,8,49,50,51] false fu [(0,bp),(6,X),(7,.int .i64 keep),(8,.sl J.length 0 i 0 i 1),(49,.aG l.length (l.flatMap aX)),(50,.int .i64 l.length),(51,.int .i64 i)] ([.cells i (acc.flatMap aX)]::J)
   (zF J bp X keep acc (l.drop i))
 |0,i,acc,hi,ha=>by
  refine aJ fu.eq_1 ?_;obtain rfl:i=l.length:=by omega
  have h5:l.drop l.length=[]:=aA (by omega);simp[-length_flatMap,-map_take,h5,zF,ha,hb,hx,fk]
 |m+1,i,acc,hi,ha=>by
  refine aJ fu.eq_1 ?_;have hlt:i<l.length:=by omega
  obtain⟨n,hn⟩:=gE hlt;have h4:=eT hlt;have h5:=drop_at hn;have a1:=cf (f:=aX) (w:=1) (λ_=>rfl) hn;simp only[aX,gp]at a1;rw[h5];have hr:(i+1)*8<=room:=by unfold room;omega
  cases hc:bT n (-100000) 100000 with
  |false =>
   simp[-length_flatMap,-map_take,hlt,a1,hb,hx,dM,hc,cM,zF,fk]
  |true =>
   have hn2:=aU.1 hc;have hcl:(acc.flatMap aX).length=i:=by simp[bZ (f:=aX) (w:=1) (λ_=>rfl),ha]
   have ht:(acc.flatMap aX).take i=acc.flatMap aX:=ah (by omega);have ih:=IM hk hl hb hx m (i+1) (acc++[sK keep n]) (by omega) (by simp[ha]);have fin:∀x e J',zF J bp X keep (acc++[sK keep n]) (l.drop (i+1)) x e J'->zF J bp X keep acc (n::l.drop (i+1)) x e J':=λx e J' hh=>by
    simp only[zF,fk,iA,hc,Bool.true_and,aN,oN,eG]at hh ⊢;exact hh
   by_cases hneg:n<0
   .have e0:IntKind.i64.wrap (-n) = -n:=eF;have p1:0 <= -n*keep:=dp (by omega) hk.1;have p2 : -n*keep<=100000*1000:=jZ (by omega) hk.2 hk.1 (by omega);have e1:IntKind.i64.wrap (-n*keep) = -n*keep:=eF;have e2:(-n*keep).tdiv 1000 = -n*keep / 1000:=bd p1;have e3:IntKind.i64.wrap (-n*keep / 1000) = -n*keep / 1000:=eF;have e4:IntKind.i64.wrap (-(-n*keep / 1000)) = -(-n*keep / 1000):=eF;have e5:sK keep n = -(-n*keep / 1000):=by rw[sK,if_pos hneg,e2]
    rw[e5]at ih fin;generalize hq : -n*keep=q at e1 e2 e3 e4 ih fin;simp[-length_flatMap,-map_take,hlt,a1,hb,hx,dM,hc,cg,hneg,e0,hq,e1,e2,e3,e4,hr,h4,hcl,ht];exact WL.to ih (by simp) (by simp) fin
   .have e5:sK keep n=n:=by rw[sK,if_neg hneg]
    rw[e5]at ih fin;simp[-length_flatMap,-map_take,hlt,a1,hb,hx,dM,hc,cg,hneg,hr,h4,hcl,ht];exact WL.to ih (by simp) (by simp) fin
theorem Jm(l:List (List Int)):(l.flatMap pE).length=l.length:=by have:=bZ (f:=pE) (w:=1) (λ_=>rfl) l;omega
theorem FH{bs:List az.aI}:lim T (.call true 80 [.bN] (bs::J))=some (.val (.sl J.length (bs.length+1) 0 0 0 1) ((bs++[.cells 0 [],.cells 0 []])::J)):=by
 refine vO u0 iP.eq_1 rfl ?_;simp[-length_flatMap,-map_take]
theorem HI{bs:List az.aI}{l:List (List Int)}(hne:l≠[])(hl:l.length<=1000000):lim T (.call true 80 [.aG l.length (l.flatMap pE)] (bs::J)) =
  some (.val (.sl J.length (bs.length+1) 1 0 l.length 1) ((bs++[.cells 0 [],.cells 1 (l.flatMap pE)])::J)):=by
 refine vO u0 iP.eq_1 rfl ?_;have h7:l.length*24<=room:=by unfold room;omega
 simp[-length_flatMap,-map_take,hne,Jm,h7]
theorem Mb:Fj=pE:=rfl
structure Sz(b:Bk):Prop where
 b8:b.bH.b8.length<=1000000000
 ak:b.bH.ak.length<=1000000
 ms:∀e∈b.an,e.m.name.length<=1000000000/\e.m.bg.length<=1000000000
theorem Pj(b:b9)(m:cq)(av:List (List Int)):∃x y,yP b m av=.agg [x,y]/\x.clean=true/\y.clean=true:=by
 unfold yP;split
 .split
  .refine⟨_,_,rfl,?_,?_⟩<;>simp[eS (f:=xN) (λs=>by simp[xN,eS (f:=aD.aI.enc) (λ_=>by simp[D.clean])])]
  .exact⟨_,_,rfl,rfl,rfl⟩
 .exact⟨_,_,rfl,rfl,rfl⟩
theorem IL{b:Bk}{er:List Int}{ls:List kW}{av:List (List Int)}(ht:b.bH.b8≠[])(hz:Sz b)(hm:∀e∈ls,e∈b.an)(hl:ls.length<=1000000)(hp:av.length<=1000000000)(hpl:∀l∈av,l.length<=1000000000){S:SK}(hs:eZ S J.length=some (b.bk J.length er)):∀(m i:Nat),i+m=ls.length ->
  WL T [0,11,80,81,82] false fw [(0,.ref J.length 6 0 0),(11,.aG av.length (av.flatMap pE)),(80,.aG ls.length (ls.flatMap kW.enc)),(81,.int .i64 ls.length),(82,.int .i64 i)] S
   (λx e J'=>J'=S/\if cA (λe=>tP b.bH e.m av) (ls.drop i)=0 then x=.exit 2/\get e 0=.ref J.length 6 0 0/\get e 11=.aG av.length (av.flatMap pE)else x=.eA (rf (cA (λe=>tP b.bH e.m av) (ls.drop i))))
 |0,i,hi=>by
  refine aJ fw.eq_1 ?_;have h1:¬i<ls.length:=by omega
  have h2:ls.drop i=[]:=aA (by omega);simp[-length_flatMap,-map_take,h1,h2,cA]
 |m+1,i,hi=>by
  refine aJ fw.eq_1 ?_;have h1:i<ls.length:=by omega
  obtain⟨e,he⟩:=gE h1;have hem:=hm e (ai he);obtain⟨k1,k2⟩:=hz.ms e hem;have hfl:=cf (f:=kW.enc) (w:=4) (λ_=>rfl) he;have hd:=drop_at he;have h4:=eT h1;have hlt:=yr hs;have hne:S≠[]:=by intro h;subst h;simp at hlt
  have hP:=PJ (J:=S) (b:=b.bH) (m:=e.m) (av:=av) (wq:=nl bE.enc b.bH.ak) tN hz.b8 (by have:=hz.ak;omega) k1 k2 hp hpl hne;have hc6:(b.bk J.length er)[6]?=some (.cells 0 (b.cells J.length)):=by simp[Bk.bk]
  obtain⟨px,py,hx,hx1,hx2⟩:=Pj b.bH e.m av;rw[hx,Mb]at hP;have ih:=IL ht hz hm hl hp hpl hs m (i+1) (by omega);have hlt':=dw (f:=Rw.enc) ht;rw[hd,cA];by_cases hc:tP b.bH e.m av=0
  .rw[hc]at hP;simp[-length_flatMap,-map_take,h1,hfl,h4,hs,hc6,Bk.cells,hlt',hP,hx1,hx2,ng,hc,bq];exact WL.to ih (by simp) rfl λx e' J' hh=>by simpa[hc]using hh
  .have hM:=oM (J:=S) hc;simp[-length_flatMap,-map_take,h1,hfl,h4,hs,hc6,Bk.cells,hlt',hP,hx1,hx2,hM,hc,bq,rf]
def RU(b:Bk)(av:List (List Int)):Bk:={b with av:=av }
def vg(b:Bk)(l:List Int):List (List Int):=b.av++[l.map (sK (CG b))]
def yh(b:Bk)(l:List Int):Bk×Int :=
 if bY b.an=[]then(b,8)else if b.av.length<200 then(if l.length=b.bH.ak.length then(if fk l (λn=>bT n (-100000) 100000)=true then
  (if cA (λe=>tP b.bH e.m (vg b l)) (bY b.an)=0 then(RU b (vg b l),0)else(b,cA (λe=>tP b.bH e.m (vg b l)) (bY b.an)))else(b,2))else(b,1))else(b,3)
theorem QW{f:D->SK->D×SK}{a b:List D}{S:SK}:cn.frzL f (a++b) S=((cn.frzL f a S).1++(cn.frzL f b (cn.frzL f a S).2).1,(cn.frzL f b (cn.frzL f a S).2).2):=by
 induction a generalizing S with
 |nil=>simp
 |cons d a ih=>simp[ih]
theorem QL{l:List (List Int)}:D.bx (l.flatMap pE)=true:=eS (f:=pE) (λx=>by simp[pE,D.clean,bq]) l
theorem H3{S:SK}{L v n:Nat}(hS:S.length=L)(hL:0<L){av:List (List Int)}(hn:n=av.length+1){r:List Int}{M:az.aI}:
  cn 0 16 (.sl L 2 v 0 n 1) ([.cells r.length (r.flatMap aX),M,.cells v (av.flatMap pE++[.sl L 0 r.length 0 r.length 1])]::S)=(.aG n ((av++[r]).flatMap pE),[.dead,M,.dead]::S):=by
 have hne:S≠[]:=by intro h;subst h;simp at hS;omega
 subst hn;have hc:cells? ([az.aI.cells r.length (r.flatMap aX),M,.cells v (av.flatMap pE++[.sl L 0 r.length 0 r.length 1])]::S) L 2 v=some (av.flatMap pE++[.sl L 0 r.length 0 r.length 1]):=by simp[hS]
 rw[QX hL hc];have h3:¬L<=0:=by omega
 have h1:=AL (l:=0) (n:=15) (l':=L) (i:=0) (v:=r.length) (off:=0) (m:=r.length) (w:=1) (J:=[az.aI.cells r.length (r.flatMap aX),M,.dead]::S) (cs:=r.flatMap aX) h3 (by simp[hS]) (by omega);have ht:(r.flatMap aX).take r.length=r.flatMap aX:=ah (by rw[AO];omega);have hp:=Jm av;have ht2:(av.flatMap pE).take (av.length+1)=av.flatMap pE:=ah (by omega);simp[hS,QW,QL,h1,ht,hp,ht2,bq,pE,List.take_append]
theorem Tk{F:List az.aI}{b:Bk}{er:List Int}{nm:List UInt8}{l:List Int}{b':Bk}{e:Int}(ht:b.bH.b8≠[])(hz:Sz b)(hll:l.length<=1000000)(hml:b.an.length<=40)(h1:b.rules.length<=1000000)(h2:b.yX.length<=1000000)(h3:∀e∈b.yX,e.sp.length<=1000000)(hk:bM.pQ b.k0 b.k1 b.k2=true)(hpl:∀l∈b.av,l.length<=1000000000)(hd:yh b l=(b',e))(he:e=0):
  lim T (.call false 54 [.ref J.length 6 0 0,.str nm,.aG l.length (l.flatMap aX)] (F::b.bk J.length er::J))=some (.val (.dj []) (F::b'.bk J.length er::J)):=by
 refine eQ vA jx.eq_1 rfl (by simp) ?_;unfold yh at hd;split at hd
 case isTrue=>cases hd;cases he
 rename_i c1;split at hd
 case isFalse=>cases hd;cases he
 rename_i c2;split at hd
 case isFalse=>cases hd;cases he
 rename_i c3;split at hd
 case isFalse=>cases hd;cases he
 rename_i c4;split at hd
 case isFalse=>cases hd;rename_i h;exact absurd he h
 rename_i c5;cases hd;obtain⟨kp0,kp,hkp,hkp2,hkp3⟩:∃c kp:Int,vP b=c/\CG b=kp/\((c=0/\kp=b.k0)\/(c=1/\kp=b.k1)\/(c=2/\kp=b.k2)):=by
  refine⟨_,_,rfl,rfl,?_⟩;have:=HT (b:=b);unfold CG;split
  .rename_i h;exact .inl ⟨h,rfl⟩
  .split
   .rename_i h;exact .inr (.inl ⟨h,rfl⟩)
   .refine .inr (.inr ⟨by omega,rfl⟩)
 have hkb:0<=kp/\kp<=1000:=by
  simp only[bM.pQ,ae,ao]at hk;rcases hkp3 with⟨_,rfl⟩ | ⟨_,rfl⟩ | ⟨_,rfl⟩<;>omega
 have q1:0<(bY b.an).length:=aP.2 c1;have q2:(b.av.length:Int)<200:=by omega
 have hC:=λS=>JR (J:=J) (b:=b) (er:=er) (S:=S) h1 h2 h3
 have hLf:=λS=>DR (J:=J) (b:=b) (er:=er) (S:=S) (by omega)
 have hR:=IM (J:=F::b.bk J.length er::J) hkb hll (bp:=.ref J.length 6 0 0) (X:=.aG (bY b.an).length ((bY b.an).flatMap kW.enc)) rfl rfl l.length 0 [] (by omega) rfl;rw[aK]at hR;rw[hkp]at hC;simp only[Bk.bk,Bk.cells]at hC hLf;have hw:(b.bH.ak.length:Int)=(l.length:Int):=by omega
 rcases hkp3 with⟨rfl,e2⟩ | ⟨rfl,e2⟩ | ⟨rfl,e2⟩
 all_goals
  subst e2;simp[-length_flatMap,-map_take,Bk.bk,Bk.cells,hLf,q1,q2,hw,hC,cg];refine WL.to hR (by simp) (by simp[Bk.bk,Bk.cells]) ?_;intro x e J' hq;simp only[zF,if_pos c4,List.nil_append]at hq;obtain⟨rfl,g0,g6,g8,rfl⟩:=hq;have hnp:vg b l=b.av++[l.map (sK (CG b))]:=rfl;rw[hkp2]at hnp;rw[hnp]at c5 ⊢;generalize hrs:l.map (sK _)=rs at g8 c5 ⊢;have hrl:rs.length=l.length:=by rw[<- hrs];simp
  have hroom:(b.av.length+1)*24<=room:=by unfold room;omega
  have h24:24<=room:=by unfold room;omega
  have hpel:=Jm b.av;have htk:(b.av.flatMap pE).take b.av.length=b.av.flatMap pE:=ah (by omega);have hfr:=λS v hS=>H3 (S:=S) (L:=J.length+1+1) (v:=v) (n:=b.av.length+1) hS (by omega) (av:=b.av) rfl (r:=rs) (M:=.cells 0 [])
  have hLp:=IL (J:=J) (b:=b) (er:=er) (ls:=bY b.an) (av:=b.av++[rs]) ht hz (λe he=>(cF.1 he).1) (by have:=gM (λe:kW=>e.left) b.an;simp only[bY];omega) (by simp;omega) (by
   intro r hr;rcases aZ.1 hr with hr | hr
   .exact hpl r hr
   .simp at hr;subst hr;omega) (S:=[.dead,.cells 0 [],.dead]::F::b.bk J.length er::J) (by simp[eZ]) (bY b.an).length 0 (by omega)
  rw[aK]at hLp;have hcl:∀k,(D.aG k (b.av.flatMap pE++pE rs)).clean=true:=λk=>by simp[B4,QL,pE,bq]
  have hcl0:∀k,(D.aG k (pE rs)).clean=true:=λk=>by simp[pE,bq]
  have hnl2:=dw (f:=pE) (l:=b.av++[rs]) (by simp);simp only[bJ,aF,bj,dE,aT,cb,cC]at hnl2;by_cases hp0:b.av=[]
  .have hnl:nl pE b.av=.bN:=by simp[nl,hp0]
   have hfr':=hfr;simp only[hp0,bj,cb,List.nil_append,cr]at hfr';simp[-length_flatMap,-map_take,g0,g6,g8,Bk.bk,Bk.cells,hnl,FH,h24,hfr'];refine WL.to hLp (by simp[hp0]) (by simp[Bk.bk,Bk.cells,hnl]) ?_;rintro x e J' ⟨rfl,hh⟩;rw[c5,if_pos rfl]at hh;obtain⟨rfl,j0,j11⟩:=hh;simp[-length_flatMap,-map_take,j0,j11,Bk.bk,Bk.cells,RU,hnl,hnl2,hcl]
  .simp[-length_flatMap,-map_take,g0,g6,g8,Bk.bk,Bk.cells,dw hp0,HI hp0 (by omega:b.av.length<=1000000),hroom,hpel,htk,hfr];refine WL.to hLp (by simp) (by simp[Bk.bk,Bk.cells,dw hp0]) ?_;rintro x e J' ⟨rfl,hh⟩;rw[c5,if_pos rfl]at hh;obtain⟨rfl,j0,j11⟩:=hh;simp[-length_flatMap,-map_take,j0,j11,Bk.bk,Bk.cells,RU,dw hp0,hnl2,hcl]
theorem Qe{F:List az.aI}{b:Bk}{er:List Int}{nm:List UInt8}{l:List Int}{b':Bk}{e:Int}(ht:bY b.an≠[]->b.bH.b8≠[])(hz:Sz b)(hll:l.length<=1000000)(hml:b.an.length<=40)(h1:b.rules.length<=1000000)(h2:b.yX.length<=1000000)(h3:∀e∈b.yX,e.sp.length<=1000000)(hk:bM.pQ b.k0 b.k1 b.k2=true)(hpl:∀l∈b.av,l.length<=1000000000)(hd:yh b l=(b',e))(he:e≠0):
  lim T (.call false 54 [.ref J.length 6 0 0,.str nm,.aG l.length (l.flatMap aX)] (F::b.bk J.length er::J))=some (.eA (rf e) (F::b.bk J.length er::J)):=by
 refine di vA jx.eq_1 rfl ?_;have hLf:=λS=>DR (J:=J) (b:=b) (er:=er) (S:=S) (by omega)
 simp only[Bk.bk,Bk.cells]at hLf;unfold yh at hd;split at hd
 case isTrue c1 =>
  cases hd;simp[-length_flatMap,-map_take,Bk.bk,Bk.cells,hLf,c1,cM,D.clean,rf]
 rename_i c1;have ht:=ht c1;have q1:0<(bY b.an).length:=aP.2 c1;split at hd
 case isFalse c2 =>
  cases hd;have q2:¬(b.av.length:Int)<200:=by omega
  simp[-length_flatMap,-map_take,Bk.bk,Bk.cells,hLf,q1,q2,cg,cM,D.clean,rf]
 rename_i c2;have q2:(b.av.length:Int)<200:=by omega
 split at hd
 case isFalse c3 =>
  cases hd;have q3:((l.length:Int) == (b.bH.ak.length:Int))=false:=by simp;omega
  simp[-length_flatMap,-map_take,Bk.bk,Bk.cells,hLf,q1,q2,q3,cg,cM,D.clean,rf]
 rename_i c3;obtain⟨kp0,kp,hkp,hkp2,hkp3⟩:∃c kp:Int,vP b=c/\CG b=kp/\((c=0/\kp=b.k0)\/(c=1/\kp=b.k1)\/(c=2/\kp=b.k2)):=by
  refine⟨_,_,rfl,rfl,?_⟩;have:=HT (b:=b);unfold CG;split
  .rename_i h;exact .inl ⟨h,rfl⟩
  .split
   .rename_i h;exact .inr (.inl ⟨h,rfl⟩)
   .refine .inr (.inr ⟨by omega,rfl⟩)
 have hkb:0<=kp/\kp<=1000:=by
  simp only[bM.pQ,ae,ao]at hk;rcases hkp3 with⟨_,rfl⟩ | ⟨_,rfl⟩ | ⟨_,rfl⟩<;>omega
 have hC:=λS=>JR (J:=J) (b:=b) (er:=er) (S:=S) h1 h2 h3
 have hR:=IM (J:=F::b.bk J.length er::J) hkb hll (bp:=.ref J.length 6 0 0) (X:=.aG (bY b.an).length ((bY b.an).flatMap kW.enc)) rfl rfl l.length 0 [] (by omega) rfl;rw[aK]at hR;rw[hkp]at hC;simp only[Bk.bk,Bk.cells]at hC;have hw:(b.bH.ak.length:Int)=(l.length:Int):=by omega
 split at hd
 case isFalse c4 =>
  cases hd;have c4':¬fk l (λn=>bT n (-100000) 100000)=true:=c4;rcases hkp3 with⟨rfl,e2⟩ | ⟨rfl,e2⟩ | ⟨rfl,e2⟩
  all_goals
   subst e2;simp[-length_flatMap,-map_take,Bk.bk,Bk.cells,hLf,q1,q2,hw,hC,cg];refine WL.to hR (by simp) (by simp[Bk.bk,Bk.cells]) ?_;intro x e J' hq;simp only[zF,if_neg c4']at hq;obtain⟨rfl,s,rfl⟩:=hq;simp[Bk.bk,Bk.cells,D.clean,rf]
 rename_i c4;split at hd
 case isTrue=>cases hd;exact absurd rfl he
 rename_i c5;cases hd;have hM:=λS=>oM (J:=S) c5
 have he':=c5;rcases hkp3 with⟨rfl,e2⟩ | ⟨rfl,e2⟩ | ⟨rfl,e2⟩
 all_goals
  subst e2;simp[-length_flatMap,-map_take,Bk.bk,Bk.cells,hLf,q1,q2,hw,hC,cg];refine WL.to hR (by simp) (by simp[Bk.bk,Bk.cells]) ?_;intro x e J' hq;simp only[zF,if_pos c4,List.nil_append]at hq;obtain⟨rfl,g0,g6,g8,rfl⟩:=hq;have hnp:vg b l=b.av++[l.map (sK (CG b))]:=rfl;rw[hkp2]at hnp;rw[hnp]at c5 ⊢;generalize hrs:l.map (sK _)=rs at g8 c5 ⊢;have hrl:rs.length=l.length:=by rw[<- hrs];simp
  have hroom:(b.av.length+1)*24<=room:=by unfold room;omega
  have h24:24<=room:=by unfold room;omega
  have hpel:=Jm b.av;have htk:(b.av.flatMap pE).take b.av.length=b.av.flatMap pE:=ah (by omega);have hfr:=λS v hS=>H3 (S:=S) (L:=J.length+1+1) (v:=v) (n:=b.av.length+1) hS (by omega) (av:=b.av) rfl (r:=rs) (M:=.cells 0 [])
  have hLp:=IL (J:=J) (b:=b) (er:=er) (ls:=bY b.an) (av:=b.av++[rs]) ht hz (λe he=>(cF.1 he).1) (by have:=gM (λe:kW=>e.left) b.an;simp only[bY];omega) (by simp;omega) (by
   intro r hr;rcases aZ.1 hr with hr | hr
   .exact hpl r hr
   .simp at hr;subst hr;omega) (S:=[.dead,.cells 0 [],.dead]::F::b.bk J.length er::J) (by simp[eZ]) (bY b.an).length 0 (by omega)
  rw[aK]at hLp;have hcl:∀k,(D.aG k (b.av.flatMap pE++pE rs)).clean=true:=λk=>by simp[B4,QL,pE,bq]
  have hcl0:∀k,(D.aG k (pE rs)).clean=true:=λk=>by simp[pE,bq]
  have hnl2:=dw (f:=pE) (l:=b.av++[rs]) (by simp);simp only[bJ,aF,bj,dE,aT,cb,cC]at hnl2;generalize herr:cA (λe=>tP b.bH e.m (b.av++[rs])) (bY b.an)=err at c5 ⊢;have hrc:(D.tK 90 (.agg [.int .i64 err])).clean=true:=rfl;by_cases hp0:b.av=[]
  .have hnl:nl pE b.av=.bN:=by simp[nl,hp0]
   have hfr':=hfr;simp only[hp0,bj,cb,List.nil_append,cr]at hfr';simp[-length_flatMap,-map_take,g0,g6,g8,Bk.bk,Bk.cells,hnl,FH,h24,hfr'];refine WL.to hLp (by simp[hp0]) (by simp[Bk.bk,Bk.cells,hnl]) ?_;rintro x e J' ⟨rfl,hh⟩;rw[herr,if_neg c5]at hh;subst hh;simp[Bk.bk,Bk.cells,rf,hrc,hnl]
  .simp[-length_flatMap,-map_take,g0,g6,g8,Bk.bk,Bk.cells,dw hp0,HI hp0 (by omega:b.av.length<=1000000),hroom,hpel,htk,hfr];refine WL.to hLp (by simp) (by simp[Bk.bk,Bk.cells,dw hp0]) ?_;rintro x e J' ⟨rfl,hh⟩;rw[herr,if_neg c5]at hh;subst hh;simp[Bk.bk,Bk.cells,rf,hrc,dw hp0]
end
section
open Go Go.az Go.aD
variable {J:SK}
def zN(t:Int×Int×Int):List D:=[.int .i64 t.1,.int .i64 t.2.1,.int .i64 t.2.2]
theorem UL(l:List (Int×Int×Int)):(l.flatMap zN).length=l.length*3:=bZ (f:=zN) (w:=3) (λ_=>rfl) l
theorem Oo{b:b9}{x:vL}{n:Nat}(h:Bv b)(hw:0<=x.pU/\x.pU<=255):
  lim T (.call false 127 [.agg [.int .i64 b.f.x,.int .i64 b.f.y,.int .i64 b.f.z,.int .i64 b.f.k,.aG b.b8.length (b.b8.flatMap Rw.enc),.int .i64 b.bF,.int .i64 b.lift,.int .i64 b.deep,.aG b.ak.length (b.ak.flatMap bE.enc)],.agg x.enc,.int .i64 n] J)=some (.val (.int .i64 (vh b n x)) J):=by
 refine au Cm nw.eq_1 rfl ?_;have hs:=λJ=>yw (J:=J) h
 have hz:=h.sz;have hn:=h.n;have hwl:=h.ak;have w1:=eF (n:=x.pU);have w2:=eF (n:=(b.n:Int)-1);have w3:=eF (n:=(b.ak.length:Int)-1);unfold vh;cases c1:bT x.pU 1 4
 .simp[-length_flatMap,-map_take,cU,w1,c1]
 by_cases c2:x.lo < -10000000000
 .simp[-length_flatMap,-map_take,cU,w1,c1,c2]
 by_cases c3:x.hi<x.lo
 .simp[-length_flatMap,-map_take,cU,w1,c1,c2,c3]
 by_cases c4:10000000000<x.hi
 .simp[-length_flatMap,-map_take,cU,w1,c1,c2,c3,c4]
 have hsz:b.size=(b.n:Int):=hz;by_cases c5:x.pU=1
 .cases c6:bT x.tick 0 n
  .simp[-length_flatMap,-map_take,cU,w1,w2,show bT 1 1 4=true from rfl,c2,c3,c4,c5,c6,hs,cl,bh]
  .cases c7:bT x.idx 0 ((b.n:Int)-1)<;>
    simp[-length_flatMap,-map_take,cU,w1,w2,show bT 1 1 4=true from rfl,c2,c3,c4,c5,c6,c7,hs,hsz,cl,bh]
 .cases c6:bT x.tick 1 n
  .simp[-length_flatMap,-map_take,cU,w1,w3,c1,c2,c3,c4,c5,c6,cl,bh]
  .cases c7:bT x.idx 0 ((b.ak.length:Int)-1)<;>
    simp[-length_flatMap,-map_take,cU,w1,w3,c1,c2,c3,c4,c5,c6,c7,cl,bh]
theorem Tg{lo hi n:Int}(h1 : -10000000000<=lo/\lo<=10000000000)(h2 : -10000000000<=hi/\hi<=10000000000)(hn : -100000000000000<=n/\n<=100000000000000):
  lim T (.call false 129 [.agg [.int .i64 lo,.int .i64 hi],.int .i64 n] J)=some (.val (.int .i64 (AS lo hi n)) J):=by
 refine au C3 oW.eq_1 rfl ?_;have w1:=eF (n:=n-hi);have w2:=eF (n:=n-lo);have w3:=eF (n:=max 0 (n-hi)+min 0 (n-lo));simp[-length_flatMap,-map_take,w1,w2,w3,AS]
theorem Qg{y:aD.aI}(h1:0<=y.m/\y.m<=1000000)(h2:0<=y.h/\y.h<=10000000000):lim T (.call false 236 [.agg y.enc] J)=some (.val (.int .i64 y.Ey) J):=by
 refine au BJ mf.eq_1 rfl ?_;unfold aD.aI.Ey;by_cases c:y.m=0
 .simp[-length_flatMap,-map_take,c]
 .have e:y.h.tdiv y.m=y.h / y.m:=bd h2.1;have b1:0<=y.h / y.m/\y.h / y.m<=y.h:=⟨Int.ediv_nonneg h2.1 h1.1,Int.ediv_le_self _ h2.1⟩;have w1:=eF (n:=y.h.tdiv y.m);simp[-length_flatMap,-map_take,c,w1]
theorem II:lim T (.call false 191 [] J)=some (.val (.agg [.pR,.pR,.fn 235 [] [],.fn 236 [] [],.fn 237 [] []]) J):=by
 refine au IS vT.eq_1 rfl ?_;simp[-length_flatMap,-map_take]
theorem SD{y:aD.aI}(h1:0<=y.m/\y.m<=1000000)(h2:0<=y.h/\y.h<=10000000000):0<=y.Ey/\y.Ey<=10000000000:=by
 unfold aD.aI.Ey;split
 .omega
 .rw[bd h2.1];have b1:0<=y.h / y.m/\y.h / y.m<=y.h:=⟨Int.ediv_nonneg h2.1 h1.1,Int.ediv_le_self _ h2.1⟩;omega
theorem NS{b:b9}{m:cq}{r:RunT}{n:Nat}{x:vL}(h:Fv b m)(hr:J3 b n r.1 r.2)(hx:Tv b n x):0<=vi b m r x/\vi b m r x<=1000000000000:=by
 unfold vi;split
 .rename_i h1;obtain⟨p1,p2,p3⟩:=hx.p h1;have hz:=h.bv.sz;obtain⟨s1,s2⟩:=Vr hr (t:=x.tick.toNat) (by omega);rw[s1];have:=Jp h s2 (i:=x.idx.toNat) (by unfold b9.size at p3;omega);simp only[Option.getD_some];omega
 .rename_i h1;obtain⟨p1,p2,p3⟩:=hx.y h1;obtain⟨y1,y2⟩:=R0 hr (t:=x.tick.toNat-1) (by omega);have y3:=VH y2 (w:=x.idx.toNat) (by omega);obtain⟨g1,g2,g3⟩:=y2.ok _ (ai y3);rw[y1];simp only[Option.getD_some,aD.aI.Le];have:=SD g1 g2;split
  .omega
  .split<;>omega
theorem Tn{b:b9}{m:cq}{r:RunT}{n:Nat}{x:vL}(h:Fv b m)(hr:J3 b n r.1 r.2)(hx:Tv b n x)(hn:n<=200):
  lim T (.call false 130 [.agg [.int .i64 b.f.x,.int .i64 b.f.y,.int .i64 b.f.z,.int .i64 b.f.k,.aG b.b8.length (b.b8.flatMap Rw.enc),.int .i64 b.bF,.int .i64 b.lift,.int .i64 b.deep,.aG b.ak.length (b.ak.flatMap bE.enc),.str m.name,.aG m.bg.length (m.bg.flatMap aX)],.agg [.aG r.1.length (r.1.flatMap xN),.aG r.2.length (r.2.flatMap xN)],.agg x.enc] J)=some (.val (.int .i64 (vi b m r x)) J):=by
 refine au BN mj.eq_1 rfl ?_;unfold vi;have hsl:=hr.sl;have hyl:=hr.yl;by_cases h1:x.pU=1
 .obtain⟨p1,p2,p3⟩:=hx.p h1;have hz:=h.bv.sz;obtain⟨s1,s2⟩:=Vr hr (t:=x.tick.toNat) (by omega);have hP:=λJ=>FM (J:=J) h s2 (i:=x.idx.toNat) (by unfold b9.size at p3;omega)
  rw[eC p2]at hP;have a1:=Sn s1;have e2:x.tick<((n:Int)+1):=by omega
  rw[s1];simp[-length_flatMap,-map_take,h1,hsl,p1.1,e2,a1,hP]
 .obtain⟨p1,p2,p3⟩:=hx.y h1;obtain⟨y1,y2⟩:=R0 hr (t:=x.tick.toNat-1) (by omega);have y3:=VH y2 (w:=x.idx.toNat) (by omega);obtain⟨g1,g2,g3⟩:=y2.ok _ (ai y3);have a1:=Sn y1;have a4:=cf (f:=aI.enc) (w:=3) (λ_=>rfl) y3;have hyw:=y2.len;have w1:=eF (n:=x.tick-1);have e1:0<=x.tick-1:=by omega
  have e2:x.tick-1<(n:Int):=by omega
  have e3:(x.tick-1).toNat=x.tick.toNat-1:=by omega
  have hw:=hx.pU;rw[if_neg h1,y1];have hA:=λJ=>To (J:=J) (x:=bL (rowAt r.2 (x.tick.toNat-1)) x.idx.toNat)
  have hK:=λJ=>Qj (J:=J) (x:=bL (rowAt r.2 (x.tick.toNat-1)) x.idx.toNat)
  simp only[aI.enc]at hA hK;rcases(show x.pU=2\/x.pU=3\/x.pU=4 by omega)with h2 | h2 | h2
  .simp[-length_flatMap,-map_take,h2,hyl,w1,p1.1,e1,e2,e3,a1,a4,II,hA,hyw,p2,p3,aD.aI.Le]
  .have hW:=λJ=>Qg (J:=J) g1 g2
   simp only[aI.enc]at hW;simp[-length_flatMap,-map_take,h2,hyl,w1,p1.1,e1,e2,e3,a1,a4,II,hW,hyw,p2,p3,aD.aI.Le]
  .simp[-length_flatMap,-map_take,h2,hyl,w1,p1.1,e1,e2,e3,a1,a4,II,hK,hyw,p2,p3,aD.aI.Le]
theorem NR{l:List vL}{j:Nat}{m:vL}(h:l[j]?=some m):((l.flatMap vL.enc).drop (j*5)).take 5=m.enc :=
 cf (f:=vL.enc) (w:=5) (λ_=>rfl) h
theorem Ow{A B:az.aI}:lim T (.xe 124 [.ref J.length 2 0 0] (some (.tK 259 (.agg []))) ([A,B,.cells 0 [.int .i64 0]]::J))=some (.val (.dj []) ([A,B,.cells 0 [.int .i64 9]]::J)):=by
 refine AB xZ oH.eq_1 rfl (by simp[-length_flatMap,-map_take,rG];exact⟨rfl,rfl⟩) ?_;simp[-length_flatMap,-map_take]
theorem LW(l:List vL):D.bx (l.flatMap vL.enc)=true:=eS (λx=>by simp) l
theorem I0(l:List (List Int)):D.bx (l.flatMap Fj)=true:=eS (λx=>by simp[Fj,D.clean,bq]) l
theorem AK{l0 L i w n:Nat}{S:SK}(hn:0<n)(h:¬L<=l0)(hc:cells? S L i 0=some []):cn l0 n (.sl L i 0 0 0 w) S=(.aG 0 [],aR S L i .dead):=by
 rw[AL h hc hn];simp
theorem No{l0 L i w:Nat}{S:SK}(h:¬L<=l0)(hc:cells? S L i 0=some []):cn l0 16 (.sl L i 0 0 0 w) S=(.aG 0 [],aR S L i .dead):=AK (by omega) h hc
theorem Qr{b:b9}{l:List cq}{av:List (List Int)}{rd:List vL}(h:Ok b l av)(hl:rd.length<=40)(hw:∀x∈rd,0<=x.pU/\x.pU<=255){A B:az.aI}:∀(k i:Nat),i+k=rd.length ->
  WL T [1,2,3,4,8,9,10,32,33,34] true j3 [(1,.aG l.length (l.flatMap cq.enc)),(2,.aG av.length (av.flatMap Fj)),(3,.aG rd.length (rd.flatMap vL.enc)),(4,.bu [.int .i64 b.f.x,.int .i64 b.f.y,.int .i64 b.f.z,.int .i64 b.f.k,.aG b.b8.length (b.b8.flatMap Rw.enc),.int .i64 b.bF,.int .i64 b.lift,.int .i64 b.deep,.aG b.ak.length (b.ak.flatMap bE.enc)]),(8,.sl J.length 0 0 0 0 1),(9,.sl J.length 1 0 0 0 3),(10,.ref J.length 2 0 0),(32,.aG rd.length (rd.flatMap vL.enc)),(33,.int .i64 rd.length),(34,.int .i64 i)] ([A,B,.cells 0 [.int .i64 0]]::J)
   (λx e J'=>if cA (vh b av.length) (rd.drop i)=0 then x=.exit 0/\J'=[A,B,.cells 0 [.int .i64 0]]::J/\get e 1=.aG l.length (l.flatMap cq.enc)/\get e 2=.aG av.length (av.flatMap Fj)/\get e 3=.aG rd.length (rd.flatMap vL.enc)/\get e 4=.bu [.int .i64 b.f.x,.int .i64 b.f.y,.int .i64 b.f.z,.int .i64 b.f.k,.aG b.b8.length (b.b8.flatMap Rw.enc),.int .i64 b.bF,.int .i64 b.lift,.int .i64 b.deep,.aG b.ak.length (b.ak.flatMap bE.enc)]/\get e 8=.sl J.length 0 0 0 0 1/\get e 9=.sl J.length 1 0 0 0 3/\get e 10=.ref J.length 2 0 0
    else x=.ret/\get e 8=.aG 0 []/\get e 9=.aG 0 []/\get e 10=.ref J.length 2 0 0/\J'=[A,B,.cells 0 [.int .i64 (cA (vh b av.length) (rd.drop i))]]::J):=by
 intro k;induction k with
 |zero =>
  intro i hi;refine Db j3.eq_1 ?_;have h1:¬i<rd.length:=by omega
  have h2:rd.drop i=[]:=aA (by omega);simp[-length_flatMap,-map_take,h1,h2,cA,LV,LW,cl,bh,I0]
 |succ k ih0 =>
  intro i hi;refine Db j3.eq_1 ?_;have h1:i<rd.length:=by omega
  obtain⟨x,hx⟩:=gE h1;have h2:=NR hx;have h4:=eT h1;have h5:=drop_at hx;have hC:=λJ=>Oo (J:=J) (n:=av.length) h.bv (hw x (ai hx))
  simp only[vL.enc]at h2 hC;have ih:=ih0 (i+1) (by omega);rw[h5,cA];by_cases hc:vh b av.length x=0
  .simp[-length_flatMap,-map_take,h1,h2,h4,hC,hc,LV,LW,cl,bh,I0];exact WL.to ih (by simp) (by simp) λx e J hh=>by simpa[hc]using hh
  .simp[-length_flatMap,-map_take,h1,h2,h4,hC,hc,LV,LW,cl,bh,I0];have z:=No (l0:=J.length) (L:=J.length+1) (i:=0) (w:=1) (S:=[.cells 0 [],.cells 0 []]::[A,B,.cells 0 [D.int .i64 (vh b (av.length:Int) x)]]::J) (by omega) (by simp);simp at z;rw[z];simp only[];rw[No (by omega) (by simp)];simp
abbrev UY:=Int×Int×Int
def yT(i n:Nat):Nat->List Int->Nat×List UY->Nat×List UY
 |_,[],st=>st
 |k,v::vs,st=>yT i n (k+1) vs (if v≠0/\st.1=n then(k,st.2++[((i:Int),(k:Int),v)])else st)
theorem GX{i n:Nat}:∀(vs:List Int) (k:Nat) (st:Nat×List UY),st.1≠n->yT i n k vs st=st
 |[],k,st,h=>rfl
 |v::vs,k,st,h=>by
  simp only[yT];rw[if_neg (λhh=>h hh.2)];exact GX vs (k+1) st h
theorem Ix{i n:Nat}:∀(vs:List Int) (k:Nat) (st:Nat×List UY),k+vs.length=n->(st.1≠n->st.1<n)->(yT i n k vs st).2.length<=st.2.length+1/\(yT i n k vs st).1<=n
 |[],k,st,h,hh=>by simp only[yT];exact⟨by omega,Classical.byContradiction λh1=>by have:=hh (by omega);omega⟩
 |v::vs,k,st,h,hh=>by
  simp only[yT];simp only[aF]at h;by_cases hc:v≠0/\st.1=n
  .rw[if_pos hc,GX vs (k+1) _ (by simp only;omega)];simp;omega
  .rw[if_neg hc];exact Ix vs (k+1) st (by omega) hh
def B9(b:b9)(m:cq)(r:RunT)(rd:List vL):List Int:=rd.map λx=>AS x.lo x.hi (vi b m r x)
theorem Ii(b:b9)(m:cq)(r:RunT)(rd:List vL):(B9 b m r rd).length=rd.length:=by simp[B9]
theorem Wc{b:b9}{l:List cq}{av:List (List Int)}{rd:List vL}{rs:List RunT}{m:cq}{r:RunT}{i:Nat}(h:Ok b l av)(hR:Rs b l av.length rs)(hl:rd.length<=40)(hx:∀x∈rd,Tv b av.length x)(hm:l[i]?=some m)(hr:rs[i]?=some r){A B:az.aI}{L10:Nat}{s0:Nat}(hs0:s0<=100):
  ∀(k j:Nat) (st:Nat×List UY),j+k=rd.length->st.1<=rd.length->st.2.length<=s0+j ->
  WL T [3,4,8,9,10,15,16,17,18,51,52,53,60,61,62] false j4 [(3,.aG rd.length (rd.flatMap vL.enc)),(4,.bu [.int .i64 b.f.x,.int .i64 b.f.y,.int .i64 b.f.z,.int .i64 b.f.k,.aG b.b8.length (b.b8.flatMap Rw.enc),.int .i64 b.bF,.int .i64 b.lift,.int .i64 b.deep,.aG b.ak.length (b.ak.flatMap bE.enc)]),(8,.sl J.length 0 L10 0 L10 1),(9,.sl J.length 1 st.2.length 0 st.2.length 3),(10,.ref J.length 2 0 0),(15,.aG rs.length (rs.flatMap CN)),(16,.int .i64 i),(17,.own 0 [.str m.name,.aG m.bg.length (m.bg.flatMap aX)]),(18,.int .i64 st.1),(51,.aG l.length (l.flatMap cq.enc)),(52,.int .i64 l.length),(53,.int .i64 i),(60,.aG rd.length (rd.flatMap vL.enc)),(61,.int .i64 rd.length),(62,.int .i64 j)]
   ([A,.cells st.2.length (st.2.flatMap zN),B]::J)
   (λx e J'=>x=.exit 4/\∃st',st'=yT i rd.length j ((B9 b m r rd).drop j) st/\get e 3=.aG rd.length (rd.flatMap vL.enc)/\get e 4=.bu [.int .i64 b.f.x,.int .i64 b.f.y,.int .i64 b.f.z,.int .i64 b.f.k,.aG b.b8.length (b.b8.flatMap Rw.enc),.int .i64 b.bF,.int .i64 b.lift,.int .i64 b.deep,.aG b.ak.length (b.ak.flatMap bE.enc)]/\get e 8=.sl J.length 0 L10 0 L10 1/\get e 9=.sl J.length 1 st'.2.length 0 st'.2.length 3/\get e 10=.ref J.length 2 0 0/\get e 15=.aG rs.length (rs.flatMap CN)/\get e 16=.int .i64 i/\get e 18=.int .i64 st'.1/\get e 51=.aG l.length (l.flatMap cq.enc)/\get e 52=.int .i64 l.length/\get e 53=.int .i64 i /\
    J'=[A,.cells st'.2.length (st'.2.flatMap zN),B]::J):=by
 intro k;induction k with
 |zero =>
  intro j st hj h1 h2;refine aJ j4.eq_1 ?_;have h3:¬j<rd.length:=by omega
  have h4:(B9 b m r rd).drop j=[]:=aA (by rw[Ii];omega);simp[-length_flatMap,-map_take,h3,h4,yT]
 |succ k ih0 =>
  intro j st hj g1 g2;refine aJ j4.eq_1 ?_;have h1:j<rd.length:=by omega
  obtain⟨x,hxj⟩:=gE h1;have hmm:=ai hm;have hrr:=hR.all r (ai hr);have hxv:=hx x (ai hxj);have h2:=NR hxj;have h4:=eT h1;have hpl:=h.Pk;have hi:i<rs.length:=(aw.1 hr).1;have hV:=λJ=>Tn (J:=J) (h.fv m hmm) hrr hxv hpl
  have hb:=NS (h.fv m hmm) hrr hxv;have hen:=hxv.ends;have hM:=λJ=>Tg (J:=J) (lo:=x.lo) (hi:=x.hi) (n:=vi b m r x) (by omega) (by omega) (by omega)
  have a1:=Ur hr;have e1:(B9 b m r rd)[j]?=some (AS x.lo x.hi (vi b m r x)):=by simp[B9,hxj]
  have h5:=drop_at e1;simp only[vL.enc]at h2 hV;have a7:=UL st.2;have a8:(st.2.flatMap zN).take (st.2.length*3)=st.2.flatMap zN:=ah (by omega);have h8:(st.2.length+1)*24<=room:=by unfold room;omega
  rw[h5,yT];generalize AS x.lo x.hi (vi b m r x)=v at *
  by_cases c1:v=0
  .have ih:=ih0 (j+1) st (by omega) g1 (by omega);simp[-length_flatMap,-map_take,h1,h2,h4,hV,hM,hi,a1,c1,bq,HS,D.clean];exact WL.to ih (by simp) (by simp) λx e J hh=>by simpa[c1]using hh
  .by_cases c2:st.1=rd.length
   .have ih:=ih0 (j+1) (j,st.2++[((i:Int),(j:Int),v)]) (by omega) (by simp only;omega) (by simp;omega);simp[-length_flatMap,-map_take,h1,h2,h4,hV,hM,hi,a1,c1,c2,a7,a8,h8,bq,HS,D.clean];exact WL.to ih (by simp) (by simp[zN]) λx e J hh=>by simpa[c1,c2]using hh
   .have ih:=ih0 (j+1) st (by omega) g1 (by omega);have c3:¬(st.1:Int)=rd.length:=by omega
    simp[-length_flatMap,-map_take,h1,h2,h4,hV,hM,hi,a1,c1,c2,c3,bq,HS,D.clean];exact WL.to ih (by simp) (by simp) λx e J hh=>by simpa[c2]using hh
def GP(b:b9)(rd:List vL):Nat->List (cq×RunT)->List Int×List UY->List Int×List UY
 |_,[],st=>st
 |i,p::t,st=>GP b rd (i+1) t (if(yT i rd.length 0 (B9 b p.1 p.2 rd) (rd.length,st.2)).1=rd.length then st.1++[(i:Int)]else st.1,(yT i rd.length 0 (B9 b p.1 p.2 rd) (rd.length,st.2)).2)
theorem Wb{b:b9}{l:List cq}{av:List (List Int)}{rd:List vL}{rs:List RunT}(h:Ok b l av)(hR:Rs b l av.length rs)(hl:rd.length<=40)(hx:∀x∈rd,Tv b av.length x){B:az.aI}:
  ∀(k i:Nat) (st:List Int×List UY),i+k=l.length->st.1.length<=i->st.2.length<=i ->
  WL T [3,4,8,9,10,15,51,52,53] false j5 [(3,.aG rd.length (rd.flatMap vL.enc)),(4,.bu [.int .i64 b.f.x,.int .i64 b.f.y,.int .i64 b.f.z,.int .i64 b.f.k,.aG b.b8.length (b.b8.flatMap Rw.enc),.int .i64 b.bF,.int .i64 b.lift,.int .i64 b.deep,.aG b.ak.length (b.ak.flatMap bE.enc)]),(8,.sl J.length 0 st.1.length 0 st.1.length 1),(9,.sl J.length 1 st.2.length 0 st.2.length 3),(10,.ref J.length 2 0 0),(15,.aG rs.length (rs.flatMap CN)),(51,.aG l.length (l.flatMap cq.enc)),(52,.int .i64 l.length),(53,.int .i64 i)]
   ([.cells st.1.length (st.1.flatMap aX),.cells st.2.length (st.2.flatMap zN),B]::J)
   (λx e J'=>x=.exit 2/\∃st',st'=GP b rd i ((l.zip rs).drop i) st/\get e 8=.sl J.length 0 st'.1.length 0 st'.1.length 1/\get e 9=.sl J.length 1 st'.2.length 0 st'.2.length 3/\get e 10=.ref J.length 2 0 0 /\
    J'=[.cells st'.1.length (st'.1.flatMap aX),.cells st'.2.length (st'.2.flatMap zN),B]::J):=by
 intro k;induction k with
 |zero =>
  intro i st hi g1 g2;refine aJ j5.eq_1 ?_;have h1:¬i<l.length:=by omega
  have h2:(l.zip rs).drop i=[]:=aA (by rw[List.length_zip];omega);simp[-length_flatMap,-map_take,h1,h2,GP]
 |succ k ih0 =>
  intro i st hi g1 g2;refine aJ j5.eq_1 ?_;have h1:i<l.length:=by omega
  have hlen:=hR.len;have hne:=hR.ne;obtain⟨m,hm⟩:=gE h1;obtain⟨r,hr⟩:∃r,rs[i]?=some r:=gE (by omega);have h2:=ND hm;have h4:=eT h1;have hz:(l.zip rs)[i]?=some (m,r):=by simp[List.getElem?_zip_eq_some,hm,hr]
  have h5:=drop_at hz;have hsl:=Ix (i:=i) (B9 b m r rd) 0 (rd.length,st.2) (n:=rd.length) (by rw[Ii];omega) (by simp);rw[h5,GP];simp[-length_flatMap,-map_take,h1,h2,bq,D.clean];refine WL.to (Wc (J:=J) h hR hl hx hm hr (A:=.cells st.1.length (st.1.flatMap aX)) (B:=B) (L10:=st.1.length) (s0:=50) (by omega) rd.length 0 (rd.length,st.2) (by omega) (by simp) (by simp only;omega)) (by simp) (by simp) ?_;rintro x e J' ⟨rfl,st',hst,q3,q4,q8,q9,q10,q15,q16,q18,q51,q52,q53,rfl⟩;rw[aK]at hst;rw[<- hst];rw[<- hst]at hsl;have a4:=Nw st.1;have a6:(st.1.flatMap aX).take st.1.length=st.1.flatMap aX:=ah (by omega);have h7:(st.1.length+1)*8<=room:=by unfold room;omega
  by_cases hc:st'.1=rd.length
  .have ih:=ih0 (i+1) (st.1++[(i:Int)],st'.2) (by omega) (by simp;omega) (by simp only at hsl ⊢;omega);rw[if_pos hc];simp[-length_flatMap,-map_take,q3,q4,q8,q9,q10,q15,q16,q18,q51,q52,q53,hc,h4,a4,a6,h7];exact WL.to ih (by simp) (by simp) λx e J hh=>by simpa using hh
  .have ih:=ih0 (i+1) (st.1,st'.2) (by omega) (by simp only;omega) (by simp only at hsl ⊢;omega);rw[if_neg hc];have hc':¬(st'.1:Int)=rd.length:=by omega
   simp[-length_flatMap,-map_take,q3,q4,q8,q9,q10,q15,q16,q18,q51,q52,q53,hc,hc',h4];exact WL.to ih (by simp) (by simp) λx e J hh=>by simpa using hh
def MI(b:b9)(l:List cq)(av:List (List Int))(rd:List vL):D :=
 if wR b av.length rd=0 then
  match wU b av l with
  |some rs => .dj [.aG (GP b rd 0 (l.zip rs) ([],[])).1.length ((GP b rd 0 (l.zip rs) ([],[])).1.flatMap aX),.aG (GP b rd 0 (l.zip rs) ([],[])).2.length ((GP b rd 0 (l.zip rs) ([],[])).2.flatMap zN),.int .i64 0]
  |none => .dj [.aG 0 [],.aG 0 [],.int .i64 9]
 else .dj [.aG 0 [],.aG 0 [],.int .i64 (wR b av.length rd)]
theorem Eg{l0 a b:Nat}{k:Int}{A B:List D}{S S1 S2:SK}{d1 d2:D}(h1:cn l0 15 d1 S=(.aG a A,S1))(h2:cn l0 15 d2 S1=(.aG b B,S2)):cn l0 16 (.dj [d1,d2,.int .i64 k]) S=(.dj [.aG a A,.aG b B,.int .i64 k],S2):=by
 by_cases hc:D.clean (.dj [d1,d2,.int .i64 k])=true
 .rw[jX hc (by omega)];simp only[D.clean,D.bx,Bool.and_true,ae]at hc;rw[jX hc.1 (by omega)]at h1;rw[jX hc.2 (by omega)]at h2;cases h1;cases h2;rfl
 .rw[Dl (by simpa using hc) (by omega)];simp only[wg,yI];rw[h1];simp only;rw[h2];simp only;rw[jX (by rfl) (by omega)]
end
section
open Go Go.az Go.aD Go.gJ
variable {J:SK}
theorem Dk{α:Type}{f:α->List D}{l:List α}{v t:Nat}{e:Env}{S:SK}(h:az.get e v=nl f l):az.get (L7 v (nl f l) e S).1 t=if v=t then .aG l.length (l.flatMap f)else az.get e t:=by
 unfold nl at h ⊢;split at h
 .rename_i hl;subst hl;simp
 .rename_i hl;simp[hl];intro hh;subst hh;exact h
theorem Fx{α:Type}{f:α->List D}{l:List α}{v:Nat}{e:Env}{S:SK}:(L7 v (nl f l) e S).2=S:=by
 unfold nl;split<;>simp
theorem Lu{wq:D}{b:b9}{l:List cq}{av:List (List Int)}{rd:List vL}(hwq:wq.vN=.aG b.ak.length (b.ak.flatMap bE.enc))(h:Ok b l av)(hl:rd.length<=1000000000)(hw:∀x∈rd,0<=x.pU/\x.pU<=255)(hJ:J≠[]):
  lim T (.call false 82 [.agg [.int .i64 b.f.x,.int .i64 b.f.y,.int .i64 b.f.z,.int .i64 b.f.k,.aG b.b8.length (b.b8.flatMap Rw.enc),.int .i64 b.bF,.int .i64 b.lift,.int .i64 b.deep,wq],.aG l.length (l.flatMap cq.enc),nl Fj av,.aG rd.length (rd.flatMap vL.enc)] J)=some (.val (MI b l av rd) J):=by
 have h1:=λJ=>Tf (J:=J) h
 unfold MI;by_cases c0:40<rd.length
 .have e1:wR b av.length rd=3:=by simp[wR,c0]
  rw[e1];refine au wx mO.eq_1 rfl ?_;simp[-length_flatMap,-map_take,hwq,Dk,Fx,h1,show(40:Int)<rd.length by omega,cl,bh];have hp:=aP.2 hJ;rw[Eg (AK (by omega) (by omega) (by simp)) (AK (by omega) (by omega) (by simp))];simp
 have e1:wR b av.length rd=cA (vh b av.length) rd:=by simp[wR,c0]
 rw[e1];have c0':¬(40:Int)<rd.length:=by omega
 have hL:=Qr (J:=J) h (by omega) hw (A:=.cells 0 []) (B:=.cells 0 []) rd.length 0 (by omega);rw[aK]at hL;by_cases c1:cA (vh b av.length) rd=0
 .rw[c1]at hL;rw[if_pos c1];have hx:∀x∈rd,Tv b av.length x:=λx hx=>Tv.of (sS c1 x hx)
  refine Ke wx mO.eq_1 rfl rfl ?_;cases hrs:wU b av l with
  |none =>
   have h2:=λJ=>Qb (J:=J) h hrs
   have hX:vo T (.fn 124 [] []) [.ref J.length 2 0 0] (some (.tK 259 (.agg []))) ([.cells 0 [],.cells 0 [],.cells 0 [.int .i64 0]]::J)=some ([.cells 0 [],.cells 0 [],.cells 0 [.int .i64 9]]::J):=ui Ow;simp[-length_flatMap,-map_take,JH,Ah,hwq,Dk,Fx,h1,c0',cl,bh];refine WL.to hL (by simp) (by simp) ?_;intro x e J' hh;rw[if_pos rfl]at hh;obtain⟨rfl,rfl,g1,g2,g3,g4,g8,g9,g10⟩:=hh;simp[-length_flatMap,-map_take,JH,Ah,g1,g2,g3,g4,g8,g9,g10,cl,bh];rw[yD nB.eq_1];simp[-length_flatMap,-map_take,JH,Ah,g1,g2,g3,g4,g8,g9,g10,h2,hX,cl,bh,bq];have hp:=aP.2 hJ;rw[Eg (AK (by omega) (by omega) (by simp)) (AK (by omega) (by omega) (by simp))];simp
  |some rs =>
   have hR:=Rs.of h hrs;have h2:=λJ hJ=>Qc (J:=J) h hJ hrs hR.len
   simp[-length_flatMap,-map_take,JH,Ah,hwq,Dk,Fx,h1,c0',cl,bh];refine WL.to hL (by simp) (by simp) ?_;intro x e J' hh;rw[if_pos rfl]at hh;obtain⟨rfl,rfl,g1,g2,g3,g4,g8,g9,g10⟩:=hh;simp[-length_flatMap,-map_take,JH,Ah,g1,g2,g3,g4,g8,g9,g10,cl,bh];rw[yD nB.eq_1];simp[-length_flatMap,-map_take,JH,Ah,g1,g2,g3,g4,g8,g9,g10,h2,cl,bh,bq];refine WL.to (Wb (J:=J) h hR (by omega) hx (B:=.cells 0 [.int .i64 0]) l.length 0 ([],[]) (by omega) (by simp) (by simp)) (by simp) (by simp) ?_;rintro x e J' ⟨rfl,st,hst,q8,q9,q10,rfl⟩;rw[aK]at hst;rw[<- hst];have hX:vo T (.fn 124 [] []) [.ref J.length 2 0 0] none ([.cells st.1.length (st.1.flatMap aX),.cells st.2.length (st.2.flatMap zN),.cells 0 [.int .i64 0]]::J)=some ([.cells st.1.length (st.1.flatMap aX),.cells st.2.length (st.2.flatMap zN),.cells 0 [.int .i64 0]]::J):=ui F7;simp[-length_flatMap,-map_take,JH,Ah,q8,q9,q10,g10,hX];rw[Eg (zX (n:=15) (f:=aX) (w:=1) (l:=st.1) (by decide) (λ_=>rfl) (λx=>by simp) hJ (by simp)) (zX (n:=15) (f:=zN) (w:=3) (l:=st.2) (by decide) (λ_=>rfl) (λx=>by simp[zN]) hJ (by simp))];simp
 .simp only[c1,if_false];refine au wx mO.eq_1 rfl ?_;simp[-length_flatMap,-map_take,hwq,Dk,Fx,h1,c0',cl,bh];refine WL.to hL (by simp) (by simp) ?_;intro x e J' hh;rw[if_neg c1]at hh;obtain⟨rfl,g8,g9,g10,rfl⟩:=hh;simp[g8,g9,g10]
end
end Go.Proofs.YtklfdfnoebnciaaGreatDoor
