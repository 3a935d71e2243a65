import Derived.Test.YtfgljaglidhjiaaGreatDoorTxt3
import Derived.Test.YtfgljaglidhjiaaGreatDoorTxt2
import Derived.Test.YtfgljaglidhjiaaGreatDoorTxt1
set_option linter.all false
set_option maxRecDepth 100000
namespace Go.Proofs.YtfgljaglidhjiaaGreatDoor
open List(length_flatMap map_take)
open Go Go.Abs Go.Rock
variable {σ:SK}
structure Fm(f:fP)(m:cN):Prop where
 fv:f.valid=true
 len:(m.bh.length:Int)=f.k*f.size
 ok:∀v∈m.bh,-100000≤v∧v≤100000
theorem Fm.of{f:fP}{m:cN}(hf:f.valid=true)(h:f.model m=0):Fm f m:=by
 unfold fP.model at h;split at h
 ·split at h
  ·rename_i h1;exact⟨hf,h1.1,fun v hv=>ba.1 (jP.1 h1.2 v hv)⟩
  ·cases h
 ·cases h
theorem aqC{a b A B:Int}(ha : -A≤a∧a≤A)(hb : -B≤b∧b≤B)(hA:0≤A) : -(A*B)≤a*b∧a*b≤A*B:=by
 have key:∀x:Int,0≤x→x≤A → -(A*B)≤x*b∧x*b≤A*B:=by
  intro x h0 h1;have e1:x*b≤x*B:=Int.mul_le_mul_of_nonneg_left hb.2 h0;have e2:x*(-B)≤x*b:=Int.mul_le_mul_of_nonneg_left hb.1 h0;have e3:x*B≤A*B:=fE h1 (by omega);rw[Int.mul_neg]at e2;omega
 rcases mH 0 a with h | h
 ·exact key a h ha.2
 ·have:=key (-a) (by omega) (by omega);rw[Int.neg_mul]at this;omega
theorem axd{f:fP}{m:cN}{x:xp}(hm:Fm f m)(hx:Mev f x):∀(k i:Nat) (acc:Int),i+k=x.bl.length → -(i*100000000)≤acc∧acc≤i*100000000 →
  WL T [2,3,4,8,9,10] false nH [(2,.bF [.int .i64 f.x,.int .i64 f.y,.int .i64 f.z,.int .i64 f.k,.int .i64 x.kind,.aH x.bl.length (x.bl.flatMap aT),.aH x.wt.length (x.wt.flatMap aT)]),(3,.bF [.str m.name,.aH m.bh.length (m.bh.flatMap aT)]),(4,.int .i64 acc),(8,.aH x.bl.length (x.bl.flatMap aT)),(9,.int .i64 x.bl.length),(10,.int .i64 i)] σ
   (fun x' e σ'=>σ'=σ∧x'=.exit 0∧get e 4=.int .i64 (aeB m.bh (x.kind*f.size) acc (x.bl.drop i) (x.wt.drop i))):=by
 intro k;induction k with
 |zero =>
  intro i acc hi ha;refine aN nH.eq_1 ?_;have h1:¬i<x.bl.length:=by omega
  have h2:x.bl.drop i=[]:=aA (by omega);simp[-length_flatMap,-map_take,h1,h2,aeB]
 |succ k ih0 =>
  intro i acc hi ha;refine aN nH.eq_1 ?_;have h1:i<x.bl.length:=by omega
  have hlen:=hx.len;have h1':i<x.wt.length:=by omega
  obtain⟨b,hb⟩:=gE h1;obtain⟨w,hw⟩:=gE h1';obtain⟨q1,q2⟩:=Lp hm.fv;obtain⟨z1,z2,z3,z4,z5⟩:=fP.tj.1 hm.fv;obtain⟨s1,s2,s3⟩:=LL hx.avo hb hw;have hl64:=IW hx.len hx.avo (by omega);have h4:=gG h1 (by omega);have h5:=cS hb;have h6:=cS hw;have h2:=qB hb;have h3:=qB hw;have k1:=hx.kind;have k2:0≤x.kind*f.size∧x.kind*f.size+f.size≤f.k*f.size:=by
   refine⟨dI k1.1 (by omega),?_⟩;have:=fE (show x.kind+1≤f.k by omega) (show 0≤f.size by omega);rw[Int.add_mul]at this;omega
  have hvl:=hm.len;obtain⟨j,hj⟩:∃j:Nat,x.kind*f.size+b=j:=⟨(x.kind*f.size+b).toNat,by omega⟩;have hj1:j<m.bh.length:=by omega
  obtain⟨v,hv⟩:=gE hj1;have hvb:=hm.ok v (ai hv);have h7:=qB hv;have hB:=fun σ=>H6 (σ:=σ) hm.fv
  have b1:=aqC (a:=w) (b:=v) (A:=1000) (B:=100000) (by omega) hvb (by omega);have w1:=fR (n:=x.kind*f.size) (by omega);have w2:=fR (n:=(j:Int)) (by omega);have w3:=fR (n:=w*v) (by omega);have w4:=fR (n:=acc+w*v) (by omega);have ih:=ih0 (i+1) (acc+w*v) (by omega) (by omega);rw[h5,h6,aeB,hj];simp only[Int.toNat_natCast,hv,gP];simp[-length_flatMap,-map_take,h1,h1',h2,h3,h4,hB,w1,w2,w3,w4,hj,hj1,h7];exact WL.to ih (by simp) rfl fun x e σ hh=>by simpa[hv]using hh
theorem afg{f:fP}{m:cN}{x:xp}(hm:Fm f m)(hx:Mev f x):lim T (.call false lD [.agg [.int .i64 f.x,.int .i64 f.y,.int .i64 f.z,.int .i64 f.k,.int .i64 x.kind,.aH x.bl.length (x.bl.flatMap aT),.aH x.wt.length (x.wt.flatMap aT)],.agg [.str m.name,.aH m.bh.length (m.bh.flatMap aT)]] σ)=some (.val (.int .i64 (LS f m x)) σ):=by
 refine az Ej rn.eq_1 rfl ?_;simp[-length_flatMap,-map_take];refine WL.to (axd (σ:=[]::σ) hm hx x.bl.length 0 0 (by omega) (by simp)) (by simp) rfl ?_;rintro x' e σ' ⟨rfl,rfl,g⟩;simp[-length_flatMap,-map_take,g,LS]
theorem Sy{f:fP}{x:xp}:lim T (.call false jW [.agg [.int .i64 f.x,.int .i64 f.y,.int .i64 f.z,.int .i64 f.k],.agg x.enc] σ)=some (.val (.fn lD [.agg [.int .i64 f.x,.int .i64 f.y,.int .i64 f.z,.int .i64 f.k,.int .i64 x.kind,.aH x.bl.length (x.bl.flatMap aT),.aH x.wt.length (x.wt.flatMap aT)]] []) σ):=by
 refine az AI mL.eq_1 rfl ?_;simp[-length_flatMap,-map_take,D.clean,bq]
end Go.Proofs.YtfgljaglidhjiaaGreatDoor
namespace Go.Book
open List(length_flatMap map_take)
open Go Go.Abs Go.Rock
def wN(f:fP)(x:xp):Int:=if f.valid=true then f.measure x else 1
def yC(p:Int×Int):List D:=[.int .i64 p.1,.int .i64 p.2]
def rN(nm:List UInt8)(k lo hi:Int)(ps:List (Int×Int)):xp:=⟨nm,k,ps.map (·.1),ps.map (·.2),lo,hi⟩
end Go.Book
namespace Go.Proofs.YtfgljaglidhjiaaGreatDoor
open List(length_flatMap map_take)
open Go Go.Abs Go.Rock Go.Book
variable {σ:SK}
theorem J6{f:fP}{x:xp}(hf:f.valid=true)(hn:x.name.length≤1000000000)(hl:x.bl.length≤1000000000):
  lim T (.call false dL [.bF [.int .i64 f.x,.int .i64 f.y,.int .i64 f.z,.int .i64 f.k],.bF [.aH 1 x.enc]] σ)=some (.val (.int .i64 (f.measure x)) σ):=by
 refine az yJ j7.eq_1 rfl ?_;have h:=fun σ=>Mb (σ:=σ) (f:=f) (l:=[x]) hf (by intro m hm;simp at hm;subst hm;exact⟨hn,by omega⟩) (by simp)
 have he:f.DZ [x]=f.measure x:=by
  simp only[fP.DZ,fP.DH];by_cases h:f.measure x=0<;>simp[h]
 rw[he]at h;simp only[List.length_singleton,aZ,dJ,dF]at h;simp only[xp.enc]at h ⊢;simp[-length_flatMap,-map_take,h]
theorem E8{f:fP}{x:xp}(hn:x.name.length≤1000000000)(hl:x.bl.length≤1000000000):
  lim T (.call false jd [.agg [.int .i64 f.x,.int .i64 f.y,.int .i64 f.z,.int .i64 f.k],.aH 1 x.enc] σ)=some (.val (.int .i64 (wN f x)) σ):=by
 refine az Ao lV.eq_1 rfl ?_;have hC:=fun σ=>IZ (σ:=σ) (fs:=[.fn cJ [.agg [.int .i64 f.x,.int .i64 f.y,.int .i64 f.z,.int .i64 f.k]] [],.fn dL [] [.bF [.int .i64 f.x,.int .i64 f.y,.int .i64 f.z,.int .i64 f.k],.bF [.aH 1 x.enc]]]) (es:=[f.shape,f.measure x]) rfl (by simp) (by simp) (by
  intro i d n hd hn' h0 σ;match i with
  |0 =>
   simp at hd hn';subst hd hn';simp[FX]
  |1 =>
   simp only[List.getElem?_cons_succ,cb,ae]at hd hn';subst hd hn';have h1:f.valid=true:=by
    have:=h0 0 (by omega);simp[fP.shape]at this;exact this
   have hh:=J6 (σ:=σ) h1 hn hl;rw[rV];have h':lim T (.call false dL ([]++[]++[.bF [.int .i64 f.x,.int .i64 f.y,.int .i64 f.z,.int .i64 f.k],.bF [.aH 1 x.enc]]) σ)=_:=hh;rw[h'];rfl
  |i+2=>simp at hd)
 have e1:da id [f.shape,f.measure x]=wN f x:=by
  simp only[da,id,wN,fP.shape];by_cases h:f.valid=true
  ·by_cases h2:f.measure x=0<;>simp[h,h2]
  ·simp[h]
 rw[e1]at hC;simp only[xp.enc,aL,bE]at hC ⊢;simp[-length_flatMap,-map_take,hC]
theorem al3{f:fP}{m:cN}(hf:f.valid=true)(hn:m.name.length≤1000000000)(hl:m.bh.length≤1000000000):
  lim T (.call false pz [.bF [.int .i64 f.x,.int .i64 f.y,.int .i64 f.z,.int .i64 f.k],.bF [.str m.name,.aH m.bh.length (m.bh.flatMap aT)]] σ)=some (.val (.int .i64 (f.model m)) σ):=by
 refine az HB uV.eq_1 rfl ?_;simp[-length_flatMap,-map_take,Nq hf hn hl]
theorem al4{f:fP}{x:xp}(hf:f.valid=true)(hn:x.name.length≤1000000000)(hl:x.bl.length≤1000000000):
  lim T (.call false nr [.bF [.int .i64 f.x,.int .i64 f.y,.int .i64 f.z,.int .i64 f.k],.bF x.enc] σ)=some (.val (.int .i64 (f.measure x)) σ):=by
 refine az HC uW.eq_1 rfl ?_;have h:=fun σ=>Ib (σ:=σ) (f:=f) (m:=x) hf hn (by omega)
 simp only[xp.enc]at h ⊢;simp[-length_flatMap,-map_take,h]
theorem al2{f:fP}{m:cN}{x:xp}(hf:f.valid=true)(hm:f.model m=0)(hx:f.measure x=0)(hn:m.name.length≤1000000000)(hl:m.bh.length≤1000000000)(hn2:x.name.length≤1000000000)(hl2:x.bl.length≤1000000000):
  lim T (.call false vt [.agg [.int .i64 f.x,.int .i64 f.y,.int .i64 f.z,.int .i64 f.k],.agg [.str m.name,.aH m.bh.length (m.bh.flatMap aT)],.agg x.enc] σ)=some (.val (.dG [.int .i64 (LS f m x),.int .i64 0]) σ):=by
 refine az Ko xF.eq_1 rfl ?_;have hC:=fun σ=>IZ (σ:=σ) (fs:=[.fn cJ [.agg [.int .i64 f.x,.int .i64 f.y,.int .i64 f.z,.int .i64 f.k]] [],.fn pz [] [.bF [.int .i64 f.x,.int .i64 f.y,.int .i64 f.z,.int .i64 f.k],.bF [.str m.name,.aH m.bh.length (m.bh.flatMap aT)]],.fn nr [] [.bF [.int .i64 f.x,.int .i64 f.y,.int .i64 f.z,.int .i64 f.k],.bF x.enc]]) (es:=[f.shape,f.model m,f.measure x]) rfl (by simp) (by simp) (by
  intro i d n hd hn' h0 σ;match i with
  |0 =>
   simp at hd hn';subst hd hn';simp[FX]
  |1 =>
   simp at hd hn';subst hd hn';simp[al3 hf hn hl]
  |2 =>
   simp only[List.getElem?_cons_succ,cb,ae]at hd hn';subst hd hn';have hh:=al4 (σ:=σ) hf hn2 hl2;rw[rV];have h':lim T (.call false nr ([]++[]++[.bF [.int .i64 f.x,.int .i64 f.y,.int .i64 f.z,.int .i64 f.k],.bF x.enc]) σ)=_:=hh;rw[h'];rfl
  |i+3=>simp at hd)
 have e1:da id [f.shape,f.model m,f.measure x]=0:=by simp[da,fP.shape,hf,hm,hx]
 rw[e1]at hC;have hW:=fun σ=>Sy (σ:=σ) (f:=f) (x:=x)
 have hS:=fun σ=>afg (σ:=σ) (Fm.of hf hm) (Mev.of hx)
 simp only[xp.enc,aL,bE]at hC hW ⊢;simp[-length_flatMap,-map_take,hC,hW,hS]
theorem PV(l:List (Int×Int)):(l.flatMap yC).length=l.length*2:=bZ (f:=yC) (w:=2) (fun _=>rfl) l
theorem Bg(l:List Int):(l.flatMap aT).length=l.length:=by have:=bZ (f:=aT) (w:=1) (fun _=>rfl) l;omega
def HV(L:Nat)(nm:List UInt8)(k lo hi:Int)(ps:List (Int×Int)):List Abs.aE :=
 [.cells 0 [.str nm,.int .i64 k,.sl L 1 ps.length 0 ps.length 1,.sl L 2 ps.length 0 ps.length 1,.int .i64 lo,.int .i64 hi],.cells ps.length ((ps.map (·.1)).flatMap aT),.cells ps.length ((ps.map (·.2)).flatMap aT)]
theorem I1{ps:List (Int×Int)}(hps:ps.length≤1000000){X Y:D}(hx:X.calm=X)(hy:Y.calm=Y){nm:List UInt8}{k lo hi:Int}:∀(m j:Nat),j+m=ps.length →
  WL T [2,3,6,30,31,32] false ig [(2,X),(3,Y),(6,.ref σ.length 0 0 0),(30,.aH (ps.length*2) (ps.flatMap yC)),(31,.int .i64 (ps.length*2)),(32,.int .i64 (j*2))] (HV σ.length nm k lo hi (ps.take j)::σ)
   (fun x e σ'=>x=.exit 0∧get e 2=X∧get e 3=Y∧get e 6=.ref σ.length 0 0 0∧get e 1000006=.undef∧σ'=HV σ.length nm k lo hi ps::σ)
 |0,j,h=>by
  refine aN ig.eq_1 ?_;have h1:¬j<ps.length:=by omega
  have h2:ps.take j=ps:=aj (by omega);simp[-length_flatMap,-map_take,h1,hx,hy,h2]
 |m+1,j,h=>by
  refine aN ig.eq_1 ?_;have h1:j<ps.length:=by omega
  have h2:(j:Int)*2<(ps.length:Int)*2:=by omega
  have h3:(j:Int)*2+1<(ps.length:Int)*2:=by omega
  have h0:0≤(j:Int)*2:=by omega
  have h0':0≤(j:Int)*2+1:=by omega
  obtain⟨p,hp⟩:=gE h1;have hd:=Bi (f:=yC) (w:=2) (fun _=>rfl) hp;have hd2:(ps.flatMap yC).drop (j*2+1)=.int .i64 p.2::(ps.flatMap yC).drop (j*2+2):=by
   have:=congrArg (List.drop 1) hd;simpa[yC,lG]using this
  have hd1:(ps.flatMap yC).drop (j*2)=.int .i64 p.1::.int .i64 p.2::(ps.flatMap yC).drop (j*2+2):=by simpa[yC]using hd
  have t1:((j:Int)*2).toNat=j*2:=by omega
  have t2:((j:Int)*2+1).toNat=j*2+1:=by omega
  have w1:IntKind.i64.wrap ((j:Int)*2+1)=j*2+1:=fR (by omega);have w2:IntKind.i64.wrap ((j:Int)*2+1+1)=j*2+1+1:=fR (by omega);have m1:((j:Int)*2).tmod 2=0:=by rw[Int.tmod_eq_emod_of_nonneg (by omega)];omega
  have m2:((j:Int)*2+1).tmod 2=1:=by rw[Int.tmod_eq_emod_of_nonneg (by omega)];omega
  have hl:(ps.take j).length=j:=by simp;omega
  have hr:(j+1)*8≤room:=by unfold room;omega
  have ha:=Bg ((ps.take j).map (·.1));have hb:=Bg ((ps.take j).map (·.2));simp only[eB,hl]at ha hb;have ta:(((ps.take j).map (·.1)).flatMap aT).take j=((ps.take j).map (·.1)).flatMap aT:=aj (by omega);have tb:(((ps.take j).map (·.2)).flatMap aT).take j=((ps.take j).map (·.2)).flatMap aT:=aj (by omega);have ih:=I1 hps hx hy (nm:=nm) (k:=k) (lo:=lo) (hi:=hi) m (j+1) (by omega);have htk:ps.take (j+1)=ps.take j++[p]:=by rw[List.take_add_one,hp];rfl
  rw[htk]at ih;have hj1:((j+1:Nat):Int)*2=(j:Int)*2+1+1:=by omega
  rw[hj1]at ih;simp[-length_flatMap,-map_take,hx,hy,HV,hl,h0,h0',h1,h2,h3,t1,t2,hd1,hd2,w1,w2,m1,m2,hr,ha,hb,ta,tb];refine aN ig.eq_1 ?_;simp[-length_flatMap,-map_take,hx,hy,HV,hl,h0,h0',h1,h2,h3,t1,t2,hd1,hd2,w1,w2,m1,m2,hr,ha,hb,ta,tb];refine WL.to ih (by simp) (by simp[HV,hl]) fun x e σ' hh=>by simpa[HV]using hh
theorem amb{A F:List Abs.aE}{b:Bk}{er:List Int}{m:cN}{x:xp}(hf:b.bH.f.valid=true)(hm:b.bH.f.model m=0)(hx:b.bH.f.measure x=0)(hn:m.name.length≤1000000000)(hl:m.bh.length≤1000000000)(hn2:x.name.length≤1000000000)(hl2:x.bl.length≤1000000000):
  lim T (.call false fq [.agg [.str m.name,.aH m.bh.length (m.bh.flatMap aT)],.bF [.ref σ.length 6 0 0],.bF x.enc] ([]::A::F::b.bw σ.length er::σ))=some (.val (.int .i64 (LS b.bH.f m x)) ([]::A::F::b.bw σ.length er::σ)):=by
 refine az AK mN.eq_1 rfl ?_;have hS:=fun σ=>al2 (σ:=σ) hf hm hx hn hl hn2 hl2
 simp only[xp.enc]at hS ⊢;simp[-length_flatMap,-map_take,Bk.bw,Bk.cells,hS]
theorem SX{x:xp}:D.bz x.enc=true:=by simp[xp.enc,bq]
theorem Pv{S:SK}{L:Nat}(hS:S.length=L)(hL:0<L){nm:List UInt8}{k lo hi:Int}{ps:List (Int×Int)}:
  DN L 0 0 (HV L nm k lo hi ps::S)=(.bF (rN nm k lo hi ps).enc,[.dead,.dead,.dead]::S):=by
 have hne:S≠[]:=by intro h;subst h;simp at hS;omega
 have h1:=DW (f:=aT) (w:=1) (fun _=>rfl) (fun _=>by simp[D.clean]) (l:=ps.map (·.1)) (j:=1) (v:=ps.length) (bs:=[.dead,.cells ps.length ((ps.map (·.1)).flatMap aT),.cells ps.length ((ps.map (·.2)).flatMap aT)]) (σ:=S) hne (by simp);have h2:=DW (f:=aT) (w:=1) (fun _=>rfl) (fun _=>by simp[D.clean]) (l:=ps.map (·.2)) (j:=2) (v:=ps.length) (bs:=[.dead,.dead,.cells ps.length ((ps.map (·.2)).flatMap aT)]) (σ:=S) hne (by simp);rw[hS]at h1 h2;simp only[eB,List.set_cons_succ,List.set_cons_zero]at h1 h2;simp[DN,HV,hS,h1,h2,rN]
def GU(b:Bk)(x:xp):Bk×Int:=if b.ar=[]then(b,8)else if wN b.bH.f x=0 then(wx b x.lo x.hi fun m=>LS b.bH.f m x,0)else(b,wN b.bH.f x)
theorem amc{F:List Abs.aE}{b:Bk}{er:List Int}{nm:List UInt8}{k lo hi:Int}{ps:List (Int×Int)}{b':Bk}{e:Int}(hps:ps.length≤1000000)(hnm:nm.length≤1000000000)(hw:b.o7.length=b.ar.length)(hml:b.ar.length≤40)(hms:∀e∈b.ar,b.bH.f.model e.m=0∧e.m.name.length≤1000000000∧e.m.bh.length≤1000000000)(hd:GU b (rN nm k lo hi ps)=(b',e))(he:e=0):
  lim T (.call false gL [.ref σ.length 6 0 0,.str nm,.aH (ps.length*2+3) (.int .i64 k::.int .i64 lo::.int .i64 hi::ps.flatMap yC)] (F::b.bw σ.length er::σ))=some (.val (.dG []) (F::b'.bw σ.length er::σ)):=by
 refine gw wH lI.eq_1 rfl (by simp) ?_;unfold GU at hd;split at hd
 case isTrue=>cases hd;cases he
 rename_i hne;split at hd
 case isFalse=>cases hd;rename_i h;exact absurd he h
 rename_i hck;cases hd;have q0:(0:Int)<(ps.length:Int)*2+3:=by omega
 have q1:(1:Int)<(ps.length:Int)*2+3:=by omega
 have q2:(2:Int)<(ps.length:Int)*2+3:=by omega
 have q3:(3:Int)≤(ps.length:Int)*2+3:=by omega
 have c1:0<b.ar.length:=aK.2 hne;have hC:=fun σ=>E8 (σ:=σ) (f:=b.bH.f) (x:=rN nm k lo hi ps) hnm (by simp[rN];omega)
 simp only[hck]at hC;have hv:b.bH.f.valid=true∧b.bH.f.measure (rN nm k lo hi ps)=0:=by
  unfold wN at hck;split at hck
  ·rename_i h;exact⟨h,hck⟩
  ·cases hck
 have hlp:=PV ps;have htp:(ps.flatMap yC).take (ps.length*2)=ps.flatMap yC:=aj (by omega);have hL:=I1 (σ:=F::b.bw σ.length er::σ) hps (X:=.aH (ps.length*2+3) (.int .i64 k::.int .i64 lo::.int .i64 hi::ps.flatMap yC)) (Y:=.bF [.ref σ.length 6 0 0]) rfl rfl (nm:=nm) (k:=k) (lo:=lo) (hi:=hi) ps.length 0 (by omega);simp[-length_flatMap,-map_take,Bk.bw,Bk.cells,c1,cA,q0,q1,q2,q3];refine WL.to hL (by simp[htp]) (by simp[HV,Bk.bw,Bk.cells]) ?_;rintro x e σ' ⟨rfl,g2,g3,g6,gu,rfl⟩;have hf:=fun S hS=>Pv (S:=S) (L:=σ.length+1+1) hS (by omega) (nm:=nm) (k:=k) (lo:=lo) (hi:=hi) (ps:=ps)
 have hst:=Kk (σ:=σ) (A:=[.dead,.dead,.dead]) (F:=F) (b:=b) (er:=er) (lo:=lo) (hi:=hi) (val:=fun m=>LS b.bH.f m (rN nm k lo hi ps)) (fv:=.fn fq [] [.bF [.ref σ.length 6 0 0],.bF (rN nm k lo hi ps).enc]) rfl rfl hw hml (by
  intro i e he _;obtain⟨k1,k2,k3⟩:=hms e he;have h:=amb (σ:=σ) (A:=[.dead,.dead,.dead]) (F:=F) (er:=er) (b:=b.kA lo hi (fun m=>LS b.bH.f m (rN nm k lo hi ps)) i) (m:=e.m) (x:=rN nm k lo hi ps) hv.1 k1 hv.2 k2 k3 hnm (by simp[rN];omega);rw[rV];have h':lim T (.call false fq ([]++[.agg [.str e.m.name,.aH e.m.bh.length (e.m.bh.flatMap aT)]]++[.bF [.ref σ.length 6 0 0],.bF (rN nm k lo hi ps).enc]) ([]::[.dead,.dead,.dead]::F::(b.kA lo hi (fun m=>LS b.bH.f m (rN nm k lo hi ps)) i).bw σ.length er::σ))=_:=h;rw[h'];rfl)
 have hcl:=SX (x:=rN nm k lo hi ps);have e1:(rN nm k lo hi ps).lo=lo:=aD rfl;have e2:(rN nm k lo hi ps).hi=hi:=aD rfl;simp only[Bk.bw,Bk.cells,xp.enc,e1,e2]at hst hC hf hcl;simp[-length_flatMap,-map_take,g2,g3,g6,gu,hf,hC,oB,hst,q1,q2,Bk.bw,Bk.cells,hcl,bq,e1,e2]
theorem ae6{F:List Abs.aE}{b:Bk}{er:List Int}{nm:List UInt8}{k lo hi:Int}{ps:List (Int×Int)}{b':Bk}{e:Int}(hps:ps.length≤1000000)(hnm:nm.length≤1000000000)(hd:GU b (rN nm k lo hi ps)=(b',e))(he:e≠0):
  lim T (.call false gL [.ref σ.length 6 0 0,.str nm,.aH (ps.length*2+3) (.int .i64 k::.int .i64 lo::.int .i64 hi::ps.flatMap yC)] (F::b.bw σ.length er::σ))=some (.fQ (rf e) (F::b.bw σ.length er::σ)):=by
 refine ef wH lI.eq_1 rfl ?_;unfold GU at hd;split at hd
 case isTrue hne =>
  cases hd;simp[-length_flatMap,-map_take,Bk.bw,Bk.cells,hne,dC,D.clean,rf]
 rename_i hne;split at hd
 case isTrue=>cases hd;exact absurd rfl he
 rename_i hck;cases hd;have q0:(0:Int)<(ps.length:Int)*2+3:=by omega
 have q1:(1:Int)<(ps.length:Int)*2+3:=by omega
 have q2:(2:Int)<(ps.length:Int)*2+3:=by omega
 have q3:(3:Int)≤(ps.length:Int)*2+3:=by omega
 have c1:0<b.ar.length:=aK.2 hne;have hC:=fun σ=>E8 (σ:=σ) (f:=b.bH.f) (x:=rN nm k lo hi ps) hnm (by simp[rN];omega)
 have hM:=fun σ=>pI (σ:=σ) hck
 generalize wN b.bH.f (rN nm k lo hi ps)=err at hC hM hck he ⊢;have hrc:(D.tW 311 (.agg [.int .i64 err])).clean=true:=rfl;have hlp:=PV ps;have htp:(ps.flatMap yC).take (ps.length*2)=ps.flatMap yC:=aj (by omega);have hL:=I1 (σ:=F::b.bw σ.length er::σ) hps (X:=.aH (ps.length*2+3) (.int .i64 k::.int .i64 lo::.int .i64 hi::ps.flatMap yC)) (Y:=.bF [.ref σ.length 6 0 0]) rfl rfl (nm:=nm) (k:=k) (lo:=lo) (hi:=hi) ps.length 0 (by omega);simp[-length_flatMap,-map_take,Bk.bw,Bk.cells,c1,cA,q0,q1,q2,q3];refine WL.to hL (by simp[htp]) (by simp[HV,Bk.bw,Bk.cells]) ?_;rintro x e σ' ⟨rfl,g2,g3,g6,gu,rfl⟩;have hf:=fun S hS=>Pv (S:=S) (L:=σ.length+1+1) hS (by omega) (nm:=nm) (k:=k) (lo:=lo) (hi:=hi) (ps:=ps)
 have hcl:=SX (x:=rN nm k lo hi ps);simp only[Bk.bw,Bk.cells,xp.enc]at hC hf hcl;simp[-length_flatMap,-map_take,g2,g3,g6,gu,hf,hC,hM,q1,q2,Bk.bw,Bk.cells,hcl,bq,rf,hrc]
end Go.Proofs.YtfgljaglidhjiaaGreatDoor
namespace Go.Book
open List(length_flatMap map_take)
open Go Go.Abs Go.Rock
def bS(l:List mD):List mD:=l.filter (·.left)
end Go.Book
namespace Go.Proofs.YtfgljaglidhjiaaGreatDoor
open List(length_flatMap map_take)
open Go Go.Abs Go.Rock Go.Book
variable {σ:SK}
theorem ae4{e:mD}:lim T (.call false eQ [.agg e.enc] σ)=some (.val (.bool e.left) σ):=by
 refine az Au l4.eq_1 rfl ?_;simp[-length_flatMap,-map_take]
theorem Gi{l:List mD}{lv bi v:Nat}{G:List Abs.aE}(hG:G[bi]?=some (.cells v (l.flatMap mD.enc)))(hs:gh σ lv=some G)(hl:l.length≤1000000):∀(m i:Nat) (acc:List mD),i+m=l.length→acc.length≤i →
  WL T [1,4,7,8,9] false eF [(1,.fn eQ [] []),(4,.sl σ.length 0 acc.length 0 acc.length 4),(7,.sl lv bi v 0 l.length 4),(8,.int .i64 l.length),(9,.int .i64 i)] ([.cells acc.length (acc.flatMap mD.enc)]::σ)
   (fun x e σ'=>x=.exit 0∧get e 4=.sl σ.length 0 (acc++bS (l.drop i)).length 0 (acc++bS (l.drop i)).length 4∧σ'=[.cells (acc++bS (l.drop i)).length ((acc++bS (l.drop i)).flatMap mD.enc)]::σ)
 |0,i,acc,hi,ha=>by
  refine aN eF.eq_1 ?_;have h1:¬i<l.length:=by omega
  have h2:l.drop i=[]:=aA (by omega);simp[-length_flatMap,-map_take,h1,h2,bS]
 |m+1,i,acc,hi,ha=>by
  refine aN eF.eq_1 ?_;have h1:i<l.length:=by omega
  obtain⟨e,he⟩:=gE h1;have hfl:=bR (f:=mD.enc) (w:=4) (fun _=>rfl) he;have hd:=cS he;have h4:=gG h1 (by omega);have hlen:=DJ l;have q:4≤l.length*4-i*4:=by omega
  have hlt:=yD hs;have hlv:¬σ.length=lv:=by omega
  have hC:=fun σ=>ae4 (σ:=σ) (e:=e)
  simp only[mD.enc]at hC;cases hc:e.left with
  |false =>
   rw[hc]at hC;have ih:=Gi hG hs hl m (i+1) acc (by omega) (by omega);simp[-length_flatMap,-map_take,h1,hs,hG,hlv,hfl,hlen,q,h4,hC,hc];exact WL.to ih (by simp) rfl fun x e' σ' hh=>by rw[hd];simpa[bS,hc]using hh
  |true =>
   rw[hc]at hC;have ih:=Gi hG hs hl m (i+1) (acc++[e]) (by omega) (by simp;omega);have hr:(acc.length+1)*56≤room:=by unfold room;omega
   have hal:=DJ acc;have hat:(acc.flatMap mD.enc).take (acc.length*4)=acc.flatMap mD.enc:=aj (by omega);simp[-length_flatMap,-map_take,h1,hs,hG,hlv,hfl,hlen,q,h4,hC,hc,hr,hal,hat];exact WL.to ih (by simp) (by simp[hc]) fun x e' σ' hh=>by rw[hd];simpa[bS,hc]using hh
theorem R5{l:List mD}{lv bi v:Nat}{G:List Abs.aE}(hG:G[bi]?=some (.cells v (l.flatMap mD.enc)))(hs:gh σ lv=some G)(hl:l.length≤1000000)(hσ:σ≠[]):
  lim T (.call false dN [.sl lv bi v 0 l.length 4,.fn eQ [] []] σ)=some (.val (.aH (bS l).length ((bS l).flatMap mD.enc)) σ):=by
 refine az uC fH.eq_1 rfl ?_;have h:=Gi (σ:=σ) hG hs hl l.length 0 [] (by omega) (by simp);simp only[List.nil_append]at h;simp[-length_flatMap,-map_take];refine WL.to h (by simp) (by simp) ?_;rintro x e σ' ⟨rfl,g4,rfl⟩;have hk:=Go.Abs.xO (f:=mD.enc) (w:=4) (fun _=>rfl) (fun _=>by simp[D.clean,bq]) (l:=bS l) (j:=0) (v:=(bS l).length) (bs:=[.cells (bS l).length ((bS l).flatMap mD.enc)]) (σ:=σ) hσ (by simp);rw[aO]at g4 ⊢;simp[-length_flatMap,-map_take,g4,hk]
theorem Eh{b:Bk}{er:List Int}{S:SK}(hl:b.ar.length≤1000000)(hs:gh S σ.length=some (b.bw σ.length er)):
  lim T (.call false fV [.ref σ.length 6 0 0] S)=some (.val (.aH (bS b.ar).length ((bS b.ar).flatMap mD.enc)) S):=by
 refine az B6 nI.eq_1 rfl ?_;have hlt:=yD hs;have hne:¬S.length=σ.length:=by omega
 have h:=R5 (σ:=[]::S) (l:=b.ar) (lv:=σ.length) (bi:=0) (v:=b.ar.length) (G:=b.bw σ.length er) (by simp[Bk.bw]) (by simp[gh,hne,hs]) hl (by simp);have hcl:D.bz ((bS b.ar).flatMap mD.enc)=true:=gX (fun _=>by simp[D.clean,bq]) _;have hc6:(b.bw σ.length er)[6]?=some (.cells 0 (b.cells σ.length)):=by simp[Bk.bw]
 simp[-length_flatMap,-map_take,hne,hs,hc6,Bk.cells,h,hcl]
end Go.Proofs.YtfgljaglidhjiaaGreatDoor
namespace Go.Proofs.YtfgljaglidhjiaaGreatDoor
open List(length_flatMap map_take)
open Go Go.Abs Go.Trem
variable {σ:SK}
theorem agL{lv:Nat}{G:List Abs.aE}(hsg:gh σ lv=some G){R:List eI}{l:List Ev}{now may sure:Int}{j:Nat}{r:eI}(hG1:G[1]?=some (.cells R.length (R.flatMap eI.enc)))(hG2:G[2]?=some (.cells l.length (l.flatMap Ev.enc)))(hl:l.length≤200)(hs:∀e∈l,e.sp.length≤2000)(hr:r.ok=true)(hn:cG now 0 1000000=true):∀(m i:Nat) (a b:Nat),i+m=l.length→a+m≤200→b+m≤200 →
  WL T [1,2,6,7,10,11,12,13,36,37,38,44,45,46] false lK [(1,.sl lv 2 l.length 0 l.length 2),(2,.int .i64 now),(6,.int .u8 may),(7,.int .u8 sure),(10,.own 0 r.enc),(11,.int .i64 a),(12,.int .i64 b),(13,.fn ed [.agg r.enc] []),
    (36,.sl lv 1 R.length 0 R.length 10),(37,.int .i64 R.length),(38,.int .i64 j),(44,.sl lv 2 l.length 0 l.length 2),(45,.int .i64 l.length),(46,.int .i64 i)] σ
   (fun x e σ'=>x=.exit 3∧σ'=σ∧get e 1=.sl lv 2 l.length 0 l.length 2∧get e 2=.int .i64 now∧get e 6=.int .u8 may∧get e 7=.int .u8 sure∧get e 10=.own 0 r.enc∧get e 11=.int .i64 (a+FP (zd r now) (l.drop i):Nat)∧get e 12=.int .i64 (b+FP (tB r now) (l.drop i):Nat) ∧
    get e 36=.sl lv 1 R.length 0 R.length 10∧get e 37=.int .i64 R.length∧get e 38=.int .i64 j)
 |0,i,a,b,hi,ha,hb=>by
  refine aN lK.eq_1 ?_;have h1:¬i<l.length:=by omega
  have h2:l.drop i=[]:=by simp;omega
  simp[-length_flatMap,-map_take,h1,h2,FP]
 |m+1,i,a,b,hi,ha,hb=>by
  refine aN lK.eq_1 ?_;have g1:i<l.length:=by omega
  obtain⟨e,he⟩:=gE g1;have a1:=bR (f:=Ev.enc) (w:=2) (fun _=>rfl) he;have al:(l.flatMap Ev.enc).length=l.length*2:=bZ (f:=Ev.enc) (w:=2) (fun _=>rfl) l;have aq:2≤l.length*2-i*2:=by omega
  have w1:=gG g1 (by omega);have hr':=Hl.1 hr;have hn':=ba.1 hn;have hse:=hs e (ai he);have w2:=fR (n:=now-r.ze) (by omega);have w3:=fR (n:=(a:Int)+1) (by omega);have w4:=fR (n:=(b:Int)+1) (by omega);have hC:∀σ,lim T (.call false cp [.aH e.sp.length (e.sp.flatMap wy.enc),.fn ed [.agg r.enc] []] σ)=some (.val (.bool (lC e.sp r.QK)) σ):=fun σ =>
   contains_of MD mr nX (by omega) (.fn fun s _ σ=>Kd)
  have hA:=fun σ=>@H5 σ e.sp r.QK (.fn ed [.agg r.enc] []) (.fn fun s _ σ=>Kd) rfl (by omega)
  simp only[eI.enc]at hC hA;have d1:FP (zd r now) (l.drop i)=FP (zd r now) (l.drop (i+1))+(if zd r now e then 1 else 0):=by rw[cS he];rfl
  have d2:FP (tB r now) (l.drop i)=FP (tB r now) (l.drop (i+1))+(if tB r now e then 1 else 0):=by rw[cS he];rfl
  have ih:=fun a b=>agL hsg hG1 hG2 (R:=R) (may:=may) (sure:=sure) (j:=j) hl hs hr hn m (i+1) a b (by omega)
  rw[d1,d2];by_cases c1:now<e.tick
  ·have e1:zd r now e=false:=by simp[zd,eI.act];omega
   have e2:tB r now e=false:=by simp[tB,eI.act];omega
   simp[-length_flatMap,-map_take,g1,a1,al,aq,hsg,hG1,hG2,w1,c1,e1,e2];exact WL.to (ih a b (by omega) (by omega)) (by simp) rfl fun x e σ' hh=>by simpa[e1,e2]using hh
  by_cases c2:e.tick≤now-r.ze
  ·have e1:zd r now e=false:=by simp[zd,eI.act];omega
   have e2:tB r now e=false:=by simp[tB,eI.act];omega
   simp[-length_flatMap,-map_take,g1,a1,al,aq,hsg,hG1,hG2,w1,w2,c1,c2,e1,e2];exact WL.to (ih a b (by omega) (by omega)) (by simp) rfl fun x e σ' hh=>by simpa[e1,e2]using hh
  have act:r.act now e=true:=by simp[eI.act];omega
  have e1:zd r now e=lC e.sp r.QK:=by simp[zd,act]
  have e2:tB r now e=gQ e.sp r.QK:=by simp[tB,act]
  rw[e1,e2];have k1:∀u v:Nat,u+1+v=u+(v+1):=by intro u v;omega
  cases c3:lC e.sp r.QK<;>cases c4:gQ e.sp r.QK<;>simp only[c3,c4]at hC hA
  ·simp[-length_flatMap,-map_take,g1,a1,al,aq,hsg,hG1,hG2,w1,w2,c1,c2,hC,hA];exact WL.to (ih a b (by omega) (by omega)) (by simp) rfl fun x e σ' hh=>by simpa[c3,c4]using hh
  ·simp[-length_flatMap,-map_take,g1,a1,al,aq,hsg,hG1,hG2,w1,w2,w4,c1,c2,hC,hA];exact WL.to (ih a (b+1) (by omega) (by omega)) (by simp) rfl fun x e σ' hh=>by simp only[k1]at hh;simpa[c3,c4]using hh
  ·simp[-length_flatMap,-map_take,g1,a1,al,aq,hsg,hG1,hG2,w1,w2,w3,c1,c2,hC,hA];exact WL.to (ih (a+1) b (by omega) (by omega)) (by simp) rfl fun x e σ' hh=>by simp only[k1]at hh;simpa[c3,c4]using hh
  ·simp[-length_flatMap,-map_take,g1,a1,al,aq,hsg,hG1,hG2,w1,w2,w3,w4,c1,c2,hC,hA];exact WL.to (ih (a+1) (b+1) (by omega) (by omega)) (by simp) rfl fun x e σ' hh=>by simp only[k1]at hh;simpa[c3,c4]using hh
theorem NB{lv:Nat}{G:List Abs.aE}(hsg:gh σ lv=some G){R:List eI}{l:List Ev}{now:Int}(hR:R.length≤20)(hG1:G[1]?=some (.cells R.length (R.flatMap eI.enc)))(hG2:G[2]?=some (.cells l.length (l.flatMap Ev.enc)))(hl:l.length≤200)(hs:∀e∈l,e.sp.length≤2000)(hr:∀r∈R,r.ok=true)(hn:cG now 0 1000000=true):∀(m j:Nat) (may sure:Int),j+m=R.length →
  WL T [1,2,6,7,36,37,38] false gJ [(1,.sl lv 2 l.length 0 l.length 2),(2,.int .i64 now),(6,.int .u8 may),(7,.int .u8 sure),(36,.sl lv 1 R.length 0 R.length 10),(37,.int .i64 R.length),(38,.int .i64 j)] σ
   (fun x e σ'=>x=.exit 1∧σ'=σ∧get e 6=.int .u8 (yz (fun r=>zd r now) l (R.drop j) may)∧get e 7=.int .u8 (yz (fun r=>tB r now) l (R.drop j) sure))
 |0,j,may,sure,hj=>by
  refine aN gJ.eq_1 ?_;have h1:¬j<R.length:=by omega
  have h2:R.drop j=[]:=by simp;omega
  simp[-length_flatMap,-map_take,h1,h2,yz]
 |m+1,j,may,sure,hj=>by
  refine aN gJ.eq_1 ?_;have g1:j<R.length:=by omega
  obtain⟨r,hrj⟩:=gE g1;have a1:=bR (f:=eI.enc) (w:=10) (fun _=>rfl) hrj;have al:(R.flatMap eI.enc).length=R.length*10:=bZ (f:=eI.enc) (w:=10) (fun _=>rfl) R;have aq:10≤R.length*10-j*10:=by omega
  have w1:=gG g1 (by omega);have hrr:=hr r (ai hrj);have ih:=fun may sure=>NB hsg hR hG1 hG2 hl hs hr hn m (j+1) may sure (by omega)
  rw[cS hrj];simp[-length_flatMap,-map_take,g1,a1,al,aq,hsg,hG1,hG2];refine WL.to (agL hsg hG1 hG2 (σ:=σ) (R:=R) (l:=l) (now:=now) (may:=may) (sure:=sure) (j:=j) hl hs hrr hn l.length 0 0 0 (by omega) (by omega) (by omega)) (by simp) rfl ?_;rintro x e σ' ⟨rfl,rfl,e1,e2,e6,e7,e10,e11,e12,e36,e37,e38⟩;simp only[aO,cQ]at e11 e12;simp only[yz];by_cases c1:r.count≤FP (zd r now) l
  ·by_cases c2:r.count≤FP (tB r now) l
   ·simp[-length_flatMap,-map_take,e1,e2,e6,e7,e10,e11,e12,e36,e37,e38,c1,c2,w1];exact WL.to (ih (max may r.QL) (max sure r.QL)) (by simp) rfl fun x e σ' hh=>by simpa[c1,c2]using hh
   ·simp[-length_flatMap,-map_take,e1,e2,e6,e7,e10,e11,e12,e36,e37,e38,c1,c2,w1];exact WL.to (ih (max may r.QL) sure) (by simp) rfl fun x e σ' hh=>by simpa[c1,c2]using hh
  ·by_cases c2:r.count≤FP (tB r now) l
   ·simp[-length_flatMap,-map_take,e1,e2,e6,e7,e10,e11,e12,e36,e37,e38,c1,c2,w1];exact WL.to (ih may (max sure r.QL)) (by simp) rfl fun x e σ' hh=>by simpa[c1,c2]using hh
   ·simp[-length_flatMap,-map_take,e1,e2,e6,e7,e10,e11,e12,e36,e37,e38,c1,c2,w1];exact WL.to (ih may sure) (by simp) rfl fun x e σ' hh=>by simpa[c1,c2]using hh
theorem RX{lv:Nat}{G:List Abs.aE}{R:List eI}{l:List Ev}{now:Int}(hsg:gh σ lv=some G)(hG1:G[1]?=some (.cells R.length (R.flatMap eI.enc)))(hG2:G[2]?=some (.cells l.length (l.flatMap Ev.enc)))(hR:R.length≤9223372036854775807)(hl:l.length≤9223372036854775807)(hs:∀e∈l,e.sp.length≤9223372036854775807):
  lim T (.call false iC [.sl lv 1 R.length 0 R.length 10,.sl lv 2 l.length 0 l.length 2,.int .i64 now] σ) =
   some (.val (if po R l now=0 then .dG [.int .u8 (adR R l now),.int .u8 (aeC R l now),.int .i64 0]else .dG [.int .u8 0,.int .u8 0,.int .i64 (po R l now)]) σ):=by
 refine az wJ n8.eq_1 rfl ?_;have hlt:=yD hsg;have hne:¬σ.length=lv:=by omega
 have hsg':gh ([]::σ) lv=some G:=by simp[gh,hne,hsg]
 have hAR:=GB (T:=T) (enc:=eI.enc) (w:=10) (fun _=>rfl) (F:=G) (bi:=1) (v:=R.length) (l:=R) (p:=eI.ok) (fv:=.fn eM [] []) (f:=dw) (g:=fC) (h:=c8) (i:=dO) rfl rfl rfl rfl hG1 hR (.fn fun r _ σ=>Kj) rfl (σ:=[]::σ) hsg';have hAE:=GB (T:=T) (enc:=Ev.enc) (w:=2) (fun _=>rfl) (F:=G) (bi:=2) (v:=l.length) (l:=l) (p:=Ev.ok) (fv:=.fn ec [] []) (f:=db) (g:=fa) (h:=cU) (i:=dB) rfl rfl rfl rfl hG2 hl (.fn fun r hr σ=>Ke (hs r hr)) rfl (σ:=[]::σ) hsg';by_cases c1:20<R.length
 ·have c1':(20:Int)<R.length:=by omega
  simp[-length_flatMap,-map_take,po,c1,c1']
 have c1':¬(20:Int)<R.length:=by omega
 cases c2:gQ R eI.ok
 ·simp[-length_flatMap,-map_take,po,c1,c1',hAR,c2]
 by_cases c3:200<l.length
 ·have c3':(200:Int)<l.length:=by omega
  simp[-length_flatMap,-map_take,po,c1,c1',hAR,c2,c3,c3']
 have c3':¬(200:Int)<l.length:=by omega
 cases c4:gQ l Ev.ok
 ·simp[-length_flatMap,-map_take,po,c1,c1',hAR,c2,c3,c3',hAE,c4]
 cases c5:cG now 0 1000000
 ·simp[-length_flatMap,-map_take,po,c1,c1',hAR,c2,c3,c3',hAE,c4,gp,c5]
 have he:po R l now=0:=by simp[po,c1,c2,c3,c4,c5]
 rw[if_pos he];simp[-length_flatMap,-map_take,c1',hAR,c2,c3',hAE,c4,gp,c5];refine WL.to (NB (σ:=[]::σ) (lv:=lv) (G:=G) hsg' (R:=R) (l:=l) (now:=now) (by omega) hG1 hG2 (by omega) ?_ (jP.1 c2) c5 R.length 0 0 0 (by omega)) (by simp) rfl ?_
 ·intro e he;have:=jP.1 c4 e he;simp only[Ev.ok,af,ba]at this;omega
 ·rintro x e σ' ⟨rfl,rfl,e6,e7⟩;simp[-length_flatMap,-map_take,e6,e7,adR,aeC]
end Go.Proofs.YtfgljaglidhjiaaGreatDoor
namespace Go.Book
open List(length_flatMap map_take)
open Go Go.Abs Go.Rock
def wg(b:Bk):Int:=if Trem.po b.rules b.zg b.av.length=0 then Trem.adR b.rules b.zg b.av.length else 0
def Da(b:Bk):Int:=if wg b=0 then b.k0 else if wg b=1 then b.k1 else b.k2
def sV(keep n:Int):Int:=if n<0 then -((-n*keep).tdiv 1000)else n
theorem Lk{f:Trem.eI→Trem.Ev→Bool}{l:List Trem.Ev}:∀{R:List Trem.eI} {a:Int},(∀r∈R,r.ok=true)→0≤a∧a≤2→0≤Trem.yz f l R a∧Trem.yz f l R a≤2
 |[],a,_,h=>h
 |r::R,a,hr,h=>by
  have h1:=(Trem.Hl.1 (hr r (by simp))).2.2.2.2;simp only[Trem.yz];refine Lk (fun r' h'=>hr r' (by simp[h'])) ?_;split
  ·rcases h1 with h1 | h1<;>omega
  ·exact h
theorem Il{b:Bk}:0≤wg b∧wg b≤2:=by
 unfold wg;split
 ·rename_i h;refine Lk (fun r hr=>?_) (by omega);unfold Trem.po at h;split at h
  ·omega
  ·split at h
   ·omega
   ·rename_i h2;exact jP.1 (by simpa using h2) r hr
 ·omega
end Go.Book
namespace Go.Proofs.YtfgljaglidhjiaaGreatDoor
open List(length_flatMap map_take)
open Go Go.Abs Go.Rock Go.Book
variable {σ:SK}
theorem Kc{b:Bk}{er:List Int}{S:SK}(h1:b.rules.length≤1000000)(h2:b.zg.length≤1000000)(h3:∀e∈b.zg,e.sp.length≤1000000)(hs:gh S σ.length=some (b.bw σ.length er)):
  lim T (.call false gl [.ref σ.length 6 0 0] S)=some (.val (.int .u8 (wg b)) S):=by
 refine az As lZ.eq_1 rfl ?_;have hlt:=yD hs;have hne:¬S.length=σ.length:=by omega
 have h:=RX (σ:=[]::S) (lv:=σ.length) (G:=b.bw σ.length er) (R:=b.rules) (l:=b.zg) (now:=b.av.length) (by simp[gh,hne,hs]) (by simp[Bk.bw]) (by simp[Bk.bw]) (by omega) (by omega) (fun e he=>by have:=h3 e he;omega);have hc6:(b.bw σ.length er)[6]?=some (.cells 0 (b.cells σ.length)):=by simp[Bk.bw]
 unfold wg;by_cases hc:Trem.po b.rules b.zg b.av.length=0
 ·rw[if_pos hc]at h;simp[-length_flatMap,-map_take,hne,hs,hc6,Bk.cells,h,hc]
 ·rw[if_neg hc]at h;simp[-length_flatMap,-map_take,hne,hs,hc6,Bk.cells,h,hc]
def zX(σ:SK)(bp X:D)(keep:Int)(acc rest:List Int)(x:Abs.Exit)(e:Env)(σ':SK):Prop :=
 if gQ rest (fun n=>cG n (-100000) 100000)=true then
  x=.exit 0∧get e 0=bp∧get e 6=X∧get e 8=.sl σ.length 0 (acc++rest.map (sV keep)).length 0 (acc++rest.map (sV keep)).length 1∧σ'=[.cells (acc++rest.map (sV keep)).length ((acc++rest.map (sV keep)).flatMap aT)]::σ
 else x=.fQ (rf 2)∧∃s,σ'=s::σ
theorem I4{l:List Int}{keep:Int}(hk:0≤keep∧keep≤1000)(hl:l.length≤1000000){bp X:D}(hb:bp.calm=bp)(hx:X.calm=X):∀(m i:Nat) (acc:List Int),i+m=l.length→acc.length=i →
  WL T [0,6,7,8,49,50,51] false kb [(0,bp),(6,X),(7,.int .i64 keep),(8,.sl σ.length 0 i 0 i 1),(49,.aH l.length (l.flatMap aT)),(50,.int .i64 l.length),(51,.int .i64 i)] ([.cells i (acc.flatMap aT)]::σ)
   (zX σ bp X keep acc (l.drop i))
 |0,i,acc,hi,ha=>by
  refine aN kb.eq_1 ?_;obtain rfl:i=l.length:=by omega
  have h5:l.drop l.length=[]:=aA (by omega);simp[-length_flatMap,-map_take,h5,zX,ha,hb,hx,gQ]
 |m+1,i,acc,hi,ha=>by
  refine aN kb.eq_1 ?_;have hlt:i<l.length:=by omega
  obtain⟨n,hn⟩:=gE hlt;have h4:=gG hlt (by omega);have h5:=cS hn;have a1:=bR (f:=aT) (w:=1) (fun _=>rfl) hn;simp only[aT,dX]at a1;rw[h5];have hr:(i+1)*8≤room:=by unfold room;omega
  cases hc:cG n (-100000) 100000 with
  |false =>
   simp[-length_flatMap,-map_take,hlt,a1,hb,hx,ff,hc,dC,zX,gQ]
  |true =>
   have hn2:=ba.1 hc;have hcl:(acc.flatMap aT).length=i:=by simp[bZ (f:=aT) (w:=1) (fun _=>rfl),ha]
   have ht:(acc.flatMap aT).take i=acc.flatMap aT:=aj (by omega);have ih:=I4 hk hl hb hx m (i+1) (acc++[sV keep n]) (by omega) (by simp[ha]);have fin:∀x e σ',zX σ bp X keep (acc++[sV keep n]) (l.drop (i+1)) x e σ'→zX σ bp X keep acc (n::l.drop (i+1)) x e σ':=fun x e σ' hh=>by
    simp only[zX,gQ,jD,hc,Bool.true_and,aP,j5,eP]at hh ⊢;exact hh
   by_cases hneg:n<0
   ·have e0:IntKind.i64.wrap (-n) = -n:=fR (by omega);have p1:0 ≤ -n*keep:=dI (by omega) hk.1;have p2 : -n*keep≤100000*1000:=ic (by omega) hk.2 hk.1 (by omega);have e1:IntKind.i64.wrap (-n*keep) = -n*keep:=fR (by omega);have e2:(-n*keep).tdiv 1000 = -n*keep / 1000:=bA p1;have e3:IntKind.i64.wrap (-n*keep / 1000) = -n*keep / 1000:=fR (by omega);have e4:IntKind.i64.wrap (-(-n*keep / 1000)) = -(-n*keep / 1000):=fR (by omega);have e5:sV keep n = -(-n*keep / 1000):=by rw[sV,if_pos hneg,e2]
    rw[e5]at ih fin;generalize hq : -n*keep=q at e1 e2 e3 e4 ih fin;simp[-length_flatMap,-map_take,hlt,a1,hb,hx,ff,hc,cA,hneg,e0,hq,e1,e2,e3,e4,hr,h4,hcl,ht];exact WL.to ih (by simp) (by simp) fin
   ·have e5:sV keep n=n:=by rw[sV,if_neg hneg]
    rw[e5]at ih fin;simp[-length_flatMap,-map_take,hlt,a1,hb,hx,ff,hc,cA,hneg,hr,h4,hcl,ht];exact WL.to ih (by simp) (by simp) fin
theorem JD(l:List (List Int)):(l.flatMap pE).length=l.length:=by have:=bZ (f:=pE) (w:=1) (fun _=>rfl) l;omega
theorem Gb{bs:List Abs.aE}:lim T (.call true gT [.aF] (bs::σ))=some (.val (.sl σ.length (bs.length+1) 0 0 0 1) ((bs++[.cells 0 [],.cells 0 []])::σ)):=by
 refine we vk jU.eq_1 rfl ?_;simp[-length_flatMap,-map_take]
theorem H8{bs:List Abs.aE}{l:List (List Int)}(hne:l≠[])(hl:l.length≤1000000):lim T (.call true gT [.aH l.length (l.flatMap pE)] (bs::σ)) =
  some (.val (.sl σ.length (bs.length+1) 1 0 l.length 1) ((bs++[.cells 0 [],.cells 1 (l.flatMap pE)])::σ)):=by
 refine we vk jU.eq_1 rfl ?_;have h7:l.length*24≤room:=by unfold room;omega
 simp[-length_flatMap,-map_take,hne,JD,h7]
theorem Jv:FT=pE:=rfl
structure Sz(b:Bk):Prop where
 ck:b.bH.ck.length≤1000000000
 an:b.bH.an.length≤1000000
 ms:∀e∈b.ar,e.m.name.length≤1000000000∧e.m.bh.length≤1000000000
theorem Rr(b:cr)(m:cN)(av:List (List Int)):∃x y,xg b m av=.agg [x,y]∧x.clean=true∧y.clean=true:=by
 unfold xg;split
 ·split
  ·refine⟨_,_,rfl,?_,?_⟩<;>simp[gX (f:=wC) (fun s=>by simp[wC,gX (f:=Rock.aE.enc) (fun _=>by simp[D.clean])])]
  ·exact⟨_,_,rfl,rfl,rfl⟩
 ·exact⟨_,_,rfl,rfl,rfl⟩
theorem I3{b:Bk}{er:List Int}{ls:List mD}{av:List (List Int)}(ht:b.bH.ck≠[])(hz:Sz b)(hm:∀e∈ls,e∈b.ar)(hl:ls.length≤1000000)(hp:av.length≤1000000000)(hpl:∀l∈av,l.length≤1000000000){S:SK}(hs:gh S σ.length=some (b.bw σ.length er)):∀(m i:Nat),i+m=ls.length →
  WL T [0,11,80,81,82] false kc [(0,.ref σ.length 6 0 0),(11,.aH av.length (av.flatMap pE)),(80,.aH ls.length (ls.flatMap mD.enc)),(81,.int .i64 ls.length),(82,.int .i64 i)] S
   (fun x e σ'=>σ'=S∧if da (fun e=>sj b.bH e.m av) (ls.drop i)=0 then x=.exit 2∧get e 0=.ref σ.length 6 0 0∧get e 11=.aH av.length (av.flatMap pE)else x=.fQ (rf (da (fun e=>sj b.bH e.m av) (ls.drop i))))
 |0,i,hi=>by
  refine aN kc.eq_1 ?_;have h1:¬i<ls.length:=by omega
  have h2:ls.drop i=[]:=aA (by omega);simp[-length_flatMap,-map_take,h1,h2,da]
 |m+1,i,hi=>by
  refine aN kc.eq_1 ?_;have h1:i<ls.length:=by omega
  obtain⟨e,he⟩:=gE h1;have hem:=hm e (ai he);obtain⟨k1,k2⟩:=hz.ms e hem;have hfl:=bR (f:=mD.enc) (w:=4) (fun _=>rfl) he;have hd:=cS he;have h4:=gG h1 (by omega);have hlt:=yD hs;have hne:S≠[]:=by intro h;subst h;simp at hlt
  have hP:=L5 (σ:=S) (b:=b.bH) (m:=e.m) (av:=av) (wq:=nl bG.enc b.bH.an) sD hz.ck (by have:=hz.an;omega) k1 k2 hp hpl hne;have hc6:(b.bw σ.length er)[6]?=some (.cells 0 (b.cells σ.length)):=by simp[Bk.bw]
  obtain⟨px,py,hx,hx1,hx2⟩:=Rr b.bH e.m av;rw[hx,Jv]at hP;have ih:=I3 ht hz hm hl hp hpl hs m (i+1) (by omega);have hlt':=eH (f:=Rw.enc) ht;rw[hd,da];by_cases hc:sj b.bH e.m av=0
  ·rw[hc]at hP;simp[-length_flatMap,-map_take,h1,hfl,h4,hs,hc6,Bk.cells,hlt',hP,hx1,hx2,oB,hc,bq];exact WL.to ih (by simp) rfl fun x e' σ' hh=>by simpa[hc]using hh
  ·have hM:=pI (σ:=S) hc;simp[-length_flatMap,-map_take,h1,hfl,h4,hs,hc6,Bk.cells,hlt',hP,hx1,hx2,hM,hc,bq,rf]
def ad9(b:Bk)(av:List (List Int)):Bk:={b with av:=av }
def vy(b:Bk)(l:List Int):List (List Int):=b.av++[l.map (sV (Da b))]
def zH(b:Bk)(l:List Int):Bk×Int :=
 if bS b.ar=[]then(b,8)else if b.av.length<200 then(if l.length=b.bH.an.length then(if gQ l (fun n=>cG n (-100000) 100000)=true then
  (if da (fun e=>sj b.bH e.m (vy b l)) (bS b.ar)=0 then(ad9 b (vy b l),0)else(b,da (fun e=>sj b.bH e.m (vy b l)) (bS b.ar)))else(b,2))else(b,1))else(b,3)
theorem adn{f:D→SK→D×SK}{a b:List D}{S:SK}:cz.frzL f (a++b) S=((cz.frzL f a S).1++(cz.frzL f b (cz.frzL f a S).2).1,(cz.frzL f b (cz.frzL f a S).2).2):=by
 induction a generalizing S with
 |nil=>simp
 |cons d a ih=>simp[ih]
theorem SZ{l:List (List Int)}:D.bz (l.flatMap pE)=true:=gX (f:=pE) (fun x=>by simp[pE,D.clean,bq]) l
theorem Iv{S:SK}{L v n:Nat}(hS:S.length=L)(hL:0<L){av:List (List Int)}(hn:n=av.length+1){r:List Int}{M:Abs.aE}:
  cz 0 16 (.sl L 2 v 0 n 1) ([.cells r.length (r.flatMap aT),M,.cells v (av.flatMap pE++[.sl L 0 r.length 0 r.length 1])]::S)=(.aH n ((av++[r]).flatMap pE),[.dead,M,.dead]::S):=by
 have hne:S≠[]:=by intro h;subst h;simp at hS;omega
 subst hn;have hc:cells? ([Abs.aE.cells r.length (r.flatMap aT),M,.cells v (av.flatMap pE++[.sl L 0 r.length 0 r.length 1])]::S) L 2 v=some (av.flatMap pE++[.sl L 0 r.length 0 r.length 1]):=by simp[hS]
 rw[ado hL hc];have h3:¬L≤0:=by omega
 have h1:=C7 (l:=0) (n:=15) (l':=L) (i:=0) (v:=r.length) (off:=0) (m:=r.length) (w:=1) (σ:=[Abs.aE.cells r.length (r.flatMap aT),M,.dead]::S) (cs:=r.flatMap aT) h3 (by simp[hS]) (by omega);have ht:(r.flatMap aT).take r.length=r.flatMap aT:=aj (by rw[Bg];omega);have hp:=JD av;have ht2:(av.flatMap pE).take (av.length+1)=av.flatMap pE:=aj (by omega);simp[hS,adn,SZ,h1,ht,hp,ht2,bq,pE,List.take_append]
theorem afj{F:List Abs.aE}{b:Bk}{er:List Int}{nm:List UInt8}{l:List Int}{b':Bk}{e:Int}(ht:b.bH.ck≠[])(hz:Sz b)(hll:l.length≤1000000)(hml:b.ar.length≤40)(h1:b.rules.length≤1000000)(h2:b.zg.length≤1000000)(h3:∀e∈b.zg,e.sp.length≤1000000)(hk:Trem.rh b.k0 b.k1 b.k2=true)(hpl:∀l∈b.av,l.length≤1000000000)(hd:zH b l=(b',e))(he:e=0):
  lim T (.call false fZ [.ref σ.length 6 0 0,.str nm,.aH l.length (l.flatMap aT)] (F::b.bw σ.length er::σ))=some (.val (.dG []) (F::b'.bw σ.length er::σ)):=by
 refine gw vQ kG.eq_1 rfl (by simp) ?_;unfold zH at hd;split at hd
 case isTrue=>cases hd;cases he
 rename_i c1;split at hd
 case isFalse=>cases hd;cases he
 rename_i c2;split at hd
 case isFalse=>cases hd;cases he
 rename_i c3;split at hd
 case isFalse=>cases hd;cases he
 rename_i c4;split at hd
 case isFalse=>cases hd;rename_i h;exact absurd he h
 rename_i c5;cases hd;obtain⟨kp0,kp,hkp,hkp2,hkp3⟩:∃c kp:Int,wg b=c∧Da b=kp∧((c=0∧kp=b.k0)∨(c=1∧kp=b.k1)∨(c=2∧kp=b.k2)):=by
  refine⟨_,_,rfl,rfl,?_⟩;have:=Il (b:=b);unfold Da;split
  ·rename_i h;exact .inl ⟨h,rfl⟩
  ·split
   ·rename_i h;exact .inr (.inl ⟨h,rfl⟩)
   ·refine .inr (.inr ⟨by omega,rfl⟩)
 have hkb:0≤kp∧kp≤1000:=by
  simp only[Trem.rh,af,au]at hk;rcases hkp3 with⟨_,rfl⟩ | ⟨_,rfl⟩ | ⟨_,rfl⟩<;>omega
 have q1:0<(bS b.ar).length:=aK.2 c1;have q2:(b.av.length:Int)<200:=by omega
 have hC:=fun S=>Kc (σ:=σ) (b:=b) (er:=er) (S:=S) h1 h2 h3
 have hLf:=fun S=>Eh (σ:=σ) (b:=b) (er:=er) (S:=S) (by omega)
 have hR:=I4 (σ:=F::b.bw σ.length er::σ) hkb hll (bp:=.ref σ.length 6 0 0) (X:=.aH (bS b.ar).length ((bS b.ar).flatMap mD.enc)) rfl rfl l.length 0 [] (by omega) rfl;rw[aO]at hR;rw[hkp]at hC;simp only[Bk.bw,Bk.cells]at hC hLf;have hw:(b.bH.an.length:Int)=(l.length:Int):=by omega
 rcases hkp3 with⟨rfl,e2⟩ | ⟨rfl,e2⟩ | ⟨rfl,e2⟩
 all_goals
  subst e2;simp[-length_flatMap,-map_take,Bk.bw,Bk.cells,hLf,q1,q2,hw,hC,cA];refine WL.to hR (by simp) (by simp[Bk.bw,Bk.cells]) ?_;intro x e σ' hq;simp only[zX,if_pos c4,List.nil_append]at hq;obtain⟨rfl,g0,g6,g8,rfl⟩:=hq;have hnp:vy b l=b.av++[l.map (sV (Da b))]:=rfl;rw[hkp2]at hnp;rw[hnp]at c5 ⊢;generalize hrs:l.map (sV _)=rs at g8 c5 ⊢;have hrl:rs.length=l.length:=by rw[← hrs];simp
  have hroom:(b.av.length+1)*24≤room:=by unfold room;omega
  have h24:24≤room:=by unfold room;omega
  have hpel:=JD b.av;have htk:(b.av.flatMap pE).take b.av.length=b.av.flatMap pE:=aj (by omega);have hfr:=fun S v hS=>Iv (S:=S) (L:=σ.length+1+1) (v:=v) (n:=b.av.length+1) hS (by omega) (av:=b.av) rfl (r:=rs) (M:=.cells 0 [])
  have hLp:=I3 (σ:=σ) (b:=b) (er:=er) (ls:=bS b.ar) (av:=b.av++[rs]) ht hz (fun e he=>(bY.1 he).1) (by have:=jb (fun e:mD=>e.left) b.ar;simp only[bS];omega) (by simp;omega) (by
   intro r hr;rcases bu.1 hr with hr | hr
   ·exact hpl r hr
   ·simp at hr;subst hr;omega) (S:=[.dead,.cells 0 [],.dead]::F::b.bw σ.length er::σ) (by simp[gh]) (bS b.ar).length 0 (by omega)
  rw[aO]at hLp;have hcl:∀k,(D.aH k (b.av.flatMap pE++pE rs)).clean=true:=fun k=>by simp[Ct,SZ,pE,bq]
  have hcl0:∀k,(D.aH k (pE rs)).clean=true:=fun k=>by simp[pE,bq]
  have hnl2:=eH (f:=pE) (l:=b.av++[rs]) (by simp);simp only[bx,aL,bE,iI,aZ,dJ,dF]at hnl2;by_cases hp0:b.av=[]
  ·have hnl:nl pE b.av=.aF:=by simp[nl,hp0]
   have hfr':=hfr;simp only[hp0,bE,dJ,List.nil_append,cQ]at hfr';simp[-length_flatMap,-map_take,g0,g6,g8,Bk.bw,Bk.cells,hnl,Gb,h24,hfr'];refine WL.to hLp (by simp[hp0]) (by simp[Bk.bw,Bk.cells,hnl]) ?_;rintro x e σ' ⟨rfl,hh⟩;rw[c5,if_pos rfl]at hh;obtain⟨rfl,j0,j11⟩:=hh;simp[-length_flatMap,-map_take,j0,j11,Bk.bw,Bk.cells,ad9,hnl,hnl2,hcl]
  ·simp[-length_flatMap,-map_take,g0,g6,g8,Bk.bw,Bk.cells,eH hp0,H8 hp0 (by omega:b.av.length≤1000000),hroom,hpel,htk,hfr];refine WL.to hLp (by simp) (by simp[Bk.bw,Bk.cells,eH hp0]) ?_;rintro x e σ' ⟨rfl,hh⟩;rw[c5,if_pos rfl]at hh;obtain⟨rfl,j0,j11⟩:=hh;simp[-length_flatMap,-map_take,j0,j11,Bk.bw,Bk.cells,ad9,eH hp0,hnl2,hcl]
theorem Su{F:List Abs.aE}{b:Bk}{er:List Int}{nm:List UInt8}{l:List Int}{b':Bk}{e:Int}(ht:bS b.ar≠[]→b.bH.ck≠[])(hz:Sz b)(hll:l.length≤1000000)(hml:b.ar.length≤40)(h1:b.rules.length≤1000000)(h2:b.zg.length≤1000000)(h3:∀e∈b.zg,e.sp.length≤1000000)(hk:Trem.rh b.k0 b.k1 b.k2=true)(hpl:∀l∈b.av,l.length≤1000000000)(hd:zH b l=(b',e))(he:e≠0):
  lim T (.call false fZ [.ref σ.length 6 0 0,.str nm,.aH l.length (l.flatMap aT)] (F::b.bw σ.length er::σ))=some (.fQ (rf e) (F::b.bw σ.length er::σ)):=by
 refine ef vQ kG.eq_1 rfl ?_;have hLf:=fun S=>Eh (σ:=σ) (b:=b) (er:=er) (S:=S) (by omega)
 simp only[Bk.bw,Bk.cells]at hLf;unfold zH at hd;split at hd
 case isTrue c1 =>
  cases hd;simp[-length_flatMap,-map_take,Bk.bw,Bk.cells,hLf,c1,dC,D.clean,rf]
 rename_i c1;have ht:=ht c1;have q1:0<(bS b.ar).length:=aK.2 c1;split at hd
 case isFalse c2 =>
  cases hd;have q2:¬(b.av.length:Int)<200:=by omega
  simp[-length_flatMap,-map_take,Bk.bw,Bk.cells,hLf,q1,q2,cA,dC,D.clean,rf]
 rename_i c2;have q2:(b.av.length:Int)<200:=by omega
 split at hd
 case isFalse c3 =>
  cases hd;have q3:((l.length:Int) == (b.bH.an.length:Int))=false:=by simp;omega
  simp[-length_flatMap,-map_take,Bk.bw,Bk.cells,hLf,q1,q2,q3,cA,dC,D.clean,rf]
 rename_i c3;obtain⟨kp0,kp,hkp,hkp2,hkp3⟩:∃c kp:Int,wg b=c∧Da b=kp∧((c=0∧kp=b.k0)∨(c=1∧kp=b.k1)∨(c=2∧kp=b.k2)):=by
  refine⟨_,_,rfl,rfl,?_⟩;have:=Il (b:=b);unfold Da;split
  ·rename_i h;exact .inl ⟨h,rfl⟩
  ·split
   ·rename_i h;exact .inr (.inl ⟨h,rfl⟩)
   ·refine .inr (.inr ⟨by omega,rfl⟩)
 have hkb:0≤kp∧kp≤1000:=by
  simp only[Trem.rh,af,au]at hk;rcases hkp3 with⟨_,rfl⟩ | ⟨_,rfl⟩ | ⟨_,rfl⟩<;>omega
 have hC:=fun S=>Kc (σ:=σ) (b:=b) (er:=er) (S:=S) h1 h2 h3
 have hR:=I4 (σ:=F::b.bw σ.length er::σ) hkb hll (bp:=.ref σ.length 6 0 0) (X:=.aH (bS b.ar).length ((bS b.ar).flatMap mD.enc)) rfl rfl l.length 0 [] (by omega) rfl;rw[aO]at hR;rw[hkp]at hC;simp only[Bk.bw,Bk.cells]at hC;have hw:(b.bH.an.length:Int)=(l.length:Int):=by omega
 split at hd
 case isFalse c4 =>
  cases hd;have c4':¬gQ l (fun n=>cG n (-100000) 100000)=true:=c4;rcases hkp3 with⟨rfl,e2⟩ | ⟨rfl,e2⟩ | ⟨rfl,e2⟩
  all_goals
   subst e2;simp[-length_flatMap,-map_take,Bk.bw,Bk.cells,hLf,q1,q2,hw,hC,cA];refine WL.to hR (by simp) (by simp[Bk.bw,Bk.cells]) ?_;intro x e σ' hq;simp only[zX,if_neg c4']at hq;obtain⟨rfl,s,rfl⟩:=hq;simp[Bk.bw,Bk.cells,D.clean,rf]
 rename_i c4;split at hd
 case isTrue=>cases hd;exact absurd rfl he
 rename_i c5;cases hd;have hM:=fun S=>pI (σ:=S) c5
 have he':=c5;rcases hkp3 with⟨rfl,e2⟩ | ⟨rfl,e2⟩ | ⟨rfl,e2⟩
 all_goals
  subst e2;simp[-length_flatMap,-map_take,Bk.bw,Bk.cells,hLf,q1,q2,hw,hC,cA];refine WL.to hR (by simp) (by simp[Bk.bw,Bk.cells]) ?_;intro x e σ' hq;simp only[zX,if_pos c4,List.nil_append]at hq;obtain⟨rfl,g0,g6,g8,rfl⟩:=hq;have hnp:vy b l=b.av++[l.map (sV (Da b))]:=rfl;rw[hkp2]at hnp;rw[hnp]at c5 ⊢;generalize hrs:l.map (sV _)=rs at g8 c5 ⊢;have hrl:rs.length=l.length:=by rw[← hrs];simp
  have hroom:(b.av.length+1)*24≤room:=by unfold room;omega
  have h24:24≤room:=by unfold room;omega
  have hpel:=JD b.av;have htk:(b.av.flatMap pE).take b.av.length=b.av.flatMap pE:=aj (by omega);have hfr:=fun S v hS=>Iv (S:=S) (L:=σ.length+1+1) (v:=v) (n:=b.av.length+1) hS (by omega) (av:=b.av) rfl (r:=rs) (M:=.cells 0 [])
  have hLp:=I3 (σ:=σ) (b:=b) (er:=er) (ls:=bS b.ar) (av:=b.av++[rs]) ht hz (fun e he=>(bY.1 he).1) (by have:=jb (fun e:mD=>e.left) b.ar;simp only[bS];omega) (by simp;omega) (by
   intro r hr;rcases bu.1 hr with hr | hr
   ·exact hpl r hr
   ·simp at hr;subst hr;omega) (S:=[.dead,.cells 0 [],.dead]::F::b.bw σ.length er::σ) (by simp[gh]) (bS b.ar).length 0 (by omega)
  rw[aO]at hLp;have hcl:∀k,(D.aH k (b.av.flatMap pE++pE rs)).clean=true:=fun k=>by simp[Ct,SZ,pE,bq]
  have hcl0:∀k,(D.aH k (pE rs)).clean=true:=fun k=>by simp[pE,bq]
  have hnl2:=eH (f:=pE) (l:=b.av++[rs]) (by simp);simp only[bx,aL,bE,iI,aZ,dJ,dF]at hnl2;generalize herr:da (fun e=>sj b.bH e.m (b.av++[rs])) (bS b.ar)=err at c5 ⊢;have hrc:(D.tW 311 (.agg [.int .i64 err])).clean=true:=rfl;by_cases hp0:b.av=[]
  ·have hnl:nl pE b.av=.aF:=by simp[nl,hp0]
   have hfr':=hfr;simp only[hp0,bE,dJ,List.nil_append,cQ]at hfr';simp[-length_flatMap,-map_take,g0,g6,g8,Bk.bw,Bk.cells,hnl,Gb,h24,hfr'];refine WL.to hLp (by simp[hp0]) (by simp[Bk.bw,Bk.cells,hnl]) ?_;rintro x e σ' ⟨rfl,hh⟩;rw[herr,if_neg c5]at hh;subst hh;simp[Bk.bw,Bk.cells,rf,hrc,hnl]
  ·simp[-length_flatMap,-map_take,g0,g6,g8,Bk.bw,Bk.cells,eH hp0,H8 hp0 (by omega:b.av.length≤1000000),hroom,hpel,htk,hfr];refine WL.to hLp (by simp) (by simp[Bk.bw,Bk.cells,eH hp0]) ?_;rintro x e σ' ⟨rfl,hh⟩;rw[herr,if_neg c5]at hh;subst hh;simp[Bk.bw,Bk.cells,rf,hrc,eH hp0]
end Go.Proofs.YtfgljaglidhjiaaGreatDoor
set_option maxRecDepth 100000
namespace Go.Proofs.YtfgljaglidhjiaaGreatDoor
open List(length_flatMap map_take)
open Go Go.Abs Go.Rock
variable {σ:SK}
def Ad(t:Int×Int×Int):List D:=[.int .i64 t.1,.int .i64 t.2.1,.int .i64 t.2.2]
theorem agE(l:List (Int×Int×Int)):(l.flatMap Ad).length=l.length*3:=bZ (f:=Ad) (w:=3) (fun _=>rfl) l
end Go.Proofs.YtfgljaglidhjiaaGreatDoor
set_option maxRecDepth 100000
namespace Go.Proofs.YtfgljaglidhjiaaGreatDoor
open List(length_flatMap map_take)
open Go Go.Abs Go.Rock
variable {σ:SK}
theorem Qw{b:cr}{x:v8}{n:Nat}(h:Bv b)(hw:0≤x.rk∧x.rk≤255):
  lim T (.call false lR [.agg [.int .i64 b.f.x,.int .i64 b.f.y,.int .i64 b.f.z,.int .i64 b.f.k,.aH b.ck.length (b.ck.flatMap Rw.enc),.int .i64 b.bJ,.int .i64 b.lift,.int .i64 b.deep,.aH b.an.length (b.an.flatMap bG.enc)],.agg x.enc,.int .i64 n] σ)=some (.val (.int .i64 (vB b n x)) σ):=by
 refine az CL oK.eq_1 rfl ?_;have hs:=fun σ=>yG (σ:=σ) h
 have hz:=h.sz;have hn:=h.n;have hwl:=h.an;have w1:=fR (n:=x.rk) (by omega);have w2:=fR (n:=(b.n:Int)-1) (by omega);have w3:=fR (n:=(b.an.length:Int)-1) (by omega);unfold vB;cases c1:cG x.rk 1 4
 ·simp[-length_flatMap,-map_take,dH,w1,c1]
 by_cases c2:x.lo < -10000000000
 ·simp[-length_flatMap,-map_take,dH,w1,c1,c2]
 by_cases c3:x.hi<x.lo
 ·simp[-length_flatMap,-map_take,dH,w1,c1,c2,c3]
 by_cases c4:10000000000<x.hi
 ·simp[-length_flatMap,-map_take,dH,w1,c1,c2,c3,c4]
 have hsz:b.size=(b.n:Int):=hz;by_cases c5:x.rk=1
 ·cases c6:cG x.tick 0 n
  ·simp[-length_flatMap,-map_take,dH,w1,w2,show cG 1 1 4=true from rfl,c2,c3,c4,c5,c6,hs,cI,bj]
  ·cases c7:cG x.idx 0 ((b.n:Int)-1)<;>
    simp[-length_flatMap,-map_take,dH,w1,w2,show cG 1 1 4=true from rfl,c2,c3,c4,c5,c6,c7,hs,hsz,cI,bj]
 ·cases c6:cG x.tick 1 n
  ·simp[-length_flatMap,-map_take,dH,w1,w3,c1,c2,c3,c4,c5,c6,cI,bj]
  ·cases c7:cG x.idx 0 ((b.an.length:Int)-1)<;>
    simp[-length_flatMap,-map_take,dH,w1,w3,c1,c2,c3,c4,c5,c6,c7,cI,bj]
theorem aff{lo hi n:Int}(h1 : -10000000000≤lo∧lo≤10000000000)(h2 : -10000000000≤hi∧hi≤10000000000)(hn : -100000000000000≤n∧n≤100000000000000):
  lim T (.call false ng [.agg [.int .i64 lo,.int .i64 hi],.int .i64 n] σ)=some (.val (.int .i64 (Bn lo hi n)) σ):=by
 refine az Du pT.eq_1 rfl ?_;have w1:=fR (n:=n-hi) (by omega);have w2:=fR (n:=n-lo) (by omega);have w3:=fR (n:=max 0 (n-hi)+min 0 (n-lo)) (by omega);simp[-length_flatMap,-map_take,w1,w2,w3,Bn]
theorem Sx{y:Rock.aE}(h1:0≤y.m∧y.m≤1000000)(h2:0≤y.h∧y.h≤10000000000):lim T (.call false iM [.agg y.enc] σ)=some (.val (.int .i64 y.E5) σ):=by
 refine az B9 nM.eq_1 rfl ?_;unfold Rock.aE.E5;by_cases c:y.m=0
 ·simp[-length_flatMap,-map_take,c]
 ·have e:y.h.tdiv y.m=y.h / y.m:=bA h2.1;have b1:0≤y.h / y.m∧y.h / y.m≤y.h:=⟨Int.ediv_nonneg h2.1 h1.1,Int.ediv_le_self _ h2.1⟩;have w1:=fR (n:=y.h.tdiv y.m) (by omega);simp[-length_flatMap,-map_take,c,w1]
theorem I0:lim T (.call false tU [] σ)=some (.val (.agg [.iP,.iP,.fn kh [] [],.fn iM [] [],.fn jt [] []]) σ):=by
 refine az Ja wk.eq_1 rfl ?_;simp[-length_flatMap,-map_take]
theorem aeI{y:Rock.aE}(h1:0≤y.m∧y.m≤1000000)(h2:0≤y.h∧y.h≤10000000000):0≤y.E5∧y.E5≤10000000000:=by
 unfold Rock.aE.E5;split
 ·omega
 ·rw[bA h2.1];have b1:0≤y.h / y.m∧y.h / y.m≤y.h:=⟨Int.ediv_nonneg h2.1 h1.1,Int.ediv_le_self _ h2.1⟩;omega
theorem PY{b:cr}{m:cN}{r:RunT}{n:Nat}{x:v8}(h:Fv b m)(hr:J4 b n r.1 r.2)(hx:Rdv b n x):0≤vC b m r x∧vC b m r x≤1000000000000:=by
 unfold vC;split
 ·rename_i h1;obtain⟨p1,p2,p3⟩:=hx.p h1;have hz:=h.bv.sz;obtain⟨s1,s2⟩:=alN hr (t:=x.tick.toNat) (by omega);rw[s1];have:=JF h s2 (i:=x.idx.toNat) (by unfold cr.size at p3;omega);simp only[gP];omega
 ·rename_i h1;obtain⟨p1,p2,p3⟩:=hx.y h1;obtain⟨y1,y2⟩:=P3 hr (t:=x.tick.toNat-1) (by omega);have y3:=al1 y2 (w:=x.idx.toNat) (by omega);obtain⟨g1,g2,g3⟩:=y2.ok _ (ai y3);rw[y1];simp only[gP,Rock.aE.LM];have:=aeI g1 g2;split
  ·omega
  ·split<;>omega
theorem afl{b:cr}{m:cN}{r:RunT}{n:Nat}{x:v8}(h:Fv b m)(hr:J4 b n r.1 r.2)(hx:Rdv b n x)(hn:n≤200):
  lim T (.call false kM [.agg [.int .i64 b.f.x,.int .i64 b.f.y,.int .i64 b.f.z,.int .i64 b.f.k,.aH b.ck.length (b.ck.flatMap Rw.enc),.int .i64 b.bJ,.int .i64 b.lift,.int .i64 b.deep,.aH b.an.length (b.an.flatMap bG.enc),.str m.name,.aH m.bh.length (m.bh.flatMap aT)],.agg [.aH r.1.length (r.1.flatMap wC),.aH r.2.length (r.2.flatMap wC)],.agg x.enc] σ)=some (.val (.int .i64 (vC b m r x)) σ):=by
 refine az Cd nQ.eq_1 rfl ?_;unfold vC;have hsl:=hr.sl;have hyl:=hr.yl;by_cases h1:x.rk=1
 ·obtain⟨p1,p2,p3⟩:=hx.p h1;have hz:=h.bv.sz;obtain⟨s1,s2⟩:=alN hr (t:=x.tick.toNat) (by omega);have hP:=fun σ=>Gf (σ:=σ) h s2 (i:=x.idx.toNat) (by unfold cr.size at p3;omega)
  rw[fT p2]at hP;have a1:=aev s1;have e2:x.tick<((n:Int)+1):=by omega
  rw[s1];simp[-length_flatMap,-map_take,h1,hsl,p1.1,e2,a1,hP]
 ·obtain⟨p1,p2,p3⟩:=hx.y h1;obtain⟨y1,y2⟩:=P3 hr (t:=x.tick.toNat-1) (by omega);have y3:=al1 y2 (w:=x.idx.toNat) (by omega);obtain⟨g1,g2,g3⟩:=y2.ok _ (ai y3);have a1:=aev y1;have a4:=bR (f:=aE.enc) (w:=3) (fun _=>rfl) y3;have hyw:=y2.len;have w1:=fR (n:=x.tick-1) (by omega);have e1:0≤x.tick-1:=by omega
  have e2:x.tick-1<(n:Int):=by omega
  have e3:(x.tick-1).toNat=x.tick.toNat-1:=by omega
  have hw:=hx.rk;rw[if_neg h1,y1];have hA:=fun σ=>afn (σ:=σ) (x:=bQ (rowAt r.2 (x.tick.toNat-1)) x.idx.toNat)
  have hK:=fun σ=>SB (σ:=σ) (x:=bQ (rowAt r.2 (x.tick.toNat-1)) x.idx.toNat)
  simp only[aE.enc]at hA hK;rcases(show x.rk=2∨x.rk=3∨x.rk=4 by omega)with h2 | h2 | h2
  ·simp[-length_flatMap,-map_take,h2,hyl,w1,p1.1,e1,e2,e3,a1,a4,I0,hA,hyw,p2,p3,Rock.aE.LM]
  ·have hW:=fun σ=>Sx (σ:=σ) g1 g2
   simp only[aE.enc]at hW;simp[-length_flatMap,-map_take,h2,hyl,w1,p1.1,e1,e2,e3,a1,a4,I0,hW,hyw,p2,p3,Rock.aE.LM]
  ·simp[-length_flatMap,-map_take,h2,hyl,w1,p1.1,e1,e2,e3,a1,a4,I0,hK,hyw,p2,p3,Rock.aE.LM]
end Go.Proofs.YtfgljaglidhjiaaGreatDoor
set_option maxRecDepth 100000
namespace Go.Proofs.YtfgljaglidhjiaaGreatDoor
open List(length_flatMap map_take)
open Go Go.Abs Go.Rock
variable {σ:SK}
theorem PX{l:List v8}{j:Nat}{m:v8}(h:l[j]?=some m):((l.flatMap v8.enc).drop (j*5)).take 5=m.enc :=
 bR (f:=v8.enc) (w:=5) (fun _=>rfl) h
theorem QB{A B:Abs.aE}:lim T (.xE fD [.ref σ.length 2 0 0] (some (.tW 262 (.agg []))) ([A,B,.cells 0 [.int .i64 0]]::σ))=some (.val (.dG []) ([A,B,.cells 0 [.int .i64 9]]::σ)):=by
 refine AV yk pw.eq_1 rfl (by simp[-length_flatMap,-map_take,rT];exact⟨rfl,rfl⟩) ?_;simp[-length_flatMap,-map_take]
theorem Mz(l:List v8):D.bz (l.flatMap v8.enc)=true:=gX (fun x=>by simp) l
theorem Jh(l:List (List Int)):D.bz (l.flatMap FT)=true:=gX (fun x=>by simp[FT,D.clean,bq]) l
theorem Bb{l0 L i w n:Nat}{S:SK}(hn:0<n)(h:¬L≤l0)(hc:cells? S L i 0=some []):cz l0 n (.sl L i 0 0 0 w) S=(.aH 0 [],aV S L i .dead):=by
 rw[C7 h hc hn];simp
theorem Ps{l0 L i w:Nat}{S:SK}(h:¬L≤l0)(hc:cells? S L i 0=some []):cz l0 16 (.sl L i 0 0 0 w) S=(.aH 0 [],aV S L i .dead):=Bb (by omega) h hc
theorem SG{b:cr}{l:List cN}{av:List (List Int)}{rd:List v8}(h:Ok b l av)(hl:rd.length≤40)(hw:∀x∈rd,0≤x.rk∧x.rk≤255){A B:Abs.aE}:∀(k i:Nat),i+k=rd.length →
  WL T [1,2,3,4,8,9,10,32,33,34] true oN [(1,.aH l.length (l.flatMap cN.enc)),(2,.aH av.length (av.flatMap FT)),(3,.aH rd.length (rd.flatMap v8.enc)),(4,.bF [.int .i64 b.f.x,.int .i64 b.f.y,.int .i64 b.f.z,.int .i64 b.f.k,.aH b.ck.length (b.ck.flatMap Rw.enc),.int .i64 b.bJ,.int .i64 b.lift,.int .i64 b.deep,.aH b.an.length (b.an.flatMap bG.enc)]),(8,.sl σ.length 0 0 0 0 1),(9,.sl σ.length 1 0 0 0 3),(10,.ref σ.length 2 0 0),(32,.aH rd.length (rd.flatMap v8.enc)),(33,.int .i64 rd.length),(34,.int .i64 i)] ([A,B,.cells 0 [.int .i64 0]]::σ)
   (fun x e σ'=>if da (vB b av.length) (rd.drop i)=0 then x=.exit 0∧σ'=[A,B,.cells 0 [.int .i64 0]]::σ∧get e 1=.aH l.length (l.flatMap cN.enc)∧get e 2=.aH av.length (av.flatMap FT)∧get e 3=.aH rd.length (rd.flatMap v8.enc)∧get e 4=.bF [.int .i64 b.f.x,.int .i64 b.f.y,.int .i64 b.f.z,.int .i64 b.f.k,.aH b.ck.length (b.ck.flatMap Rw.enc),.int .i64 b.bJ,.int .i64 b.lift,.int .i64 b.deep,.aH b.an.length (b.an.flatMap bG.enc)]∧get e 8=.sl σ.length 0 0 0 0 1∧get e 9=.sl σ.length 1 0 0 0 3∧get e 10=.ref σ.length 2 0 0
    else x=.ret∧get e 8=.aH 0 []∧get e 9=.aH 0 []∧get e 10=.ref σ.length 2 0 0∧σ'=[A,B,.cells 0 [.int .i64 (da (vB b av.length) (rd.drop i))]]::σ):=by
 intro k;induction k with
 |zero =>
  intro i hi;refine DC oN.eq_1 ?_;have h1:¬i<rd.length:=by omega
  have h2:rd.drop i=[]:=aA (by omega);simp[-length_flatMap,-map_take,h1,h2,da,My,Mz,cI,bj,Jh]
 |succ k ih0 =>
  intro i hi;refine DC oN.eq_1 ?_;have h1:i<rd.length:=by omega
  obtain⟨x,hx⟩:=gE h1;have h2:=PX hx;have h4:=gG h1 (by omega);have h5:=cS hx;have hC:=fun σ=>Qw (σ:=σ) (n:=av.length) h.bv (hw x (ai hx))
  simp only[v8.enc]at h2 hC;have ih:=ih0 (i+1) (by omega);rw[h5,da];by_cases hc:vB b av.length x=0
  ·simp[-length_flatMap,-map_take,h1,h2,h4,hC,hc,My,Mz,cI,bj,Jh];exact WL.to ih (by simp) (by simp) fun x e σ hh=>by simpa[hc]using hh
  ·simp[-length_flatMap,-map_take,h1,h2,h4,hC,hc,My,Mz,cI,bj,Jh];have z:=Ps (l0:=σ.length) (L:=σ.length+1) (i:=0) (w:=1) (S:=[.cells 0 [],.cells 0 []]::[A,B,.cells 0 [D.int .i64 (vB b (av.length:Int) x)]]::σ) (by omega) (by simp);simp at z;rw[z];simp only[];rw[Ps (by omega) (by simp)];simp
end Go.Proofs.YtfgljaglidhjiaaGreatDoor
set_option maxRecDepth 100000
namespace Go.Proofs.YtfgljaglidhjiaaGreatDoor
open List(length_flatMap map_take)
open Go Go.Abs Go.Rock
variable {σ:SK}
abbrev Tri:=Int×Int×Int
def zb(i n:Nat):Nat→List Int→Nat×List Tri→Nat×List Tri
 |_,[],st=>st
 |k,v::vs,st=>zb i n (k+1) vs (if v≠0∧st.1=n then(k,st.2++[((i:Int),(k:Int),v)])else st)
theorem Ho{i n:Nat}:∀(vs:List Int) (k:Nat) (st:Nat×List Tri),st.1≠n→zb i n k vs st=st
 |[],k,st,h=>rfl
 |v::vs,k,st,h=>by
  simp only[zb];rw[if_neg (fun hh=>h hh.2)];exact Ho vs (k+1) st h
theorem IP{i n:Nat}:∀(vs:List Int) (k:Nat) (st:Nat×List Tri),k+vs.length=n→(st.1≠n→st.1<n)→(zb i n k vs st).2.length≤st.2.length+1∧(zb i n k vs st).1≤n
 |[],k,st,h,hh=>by simp only[zb];exact⟨by omega,Classical.byContradiction fun h1=>by have:=hh (by omega);omega⟩
 |v::vs,k,st,h,hh=>by
  simp only[zb];simp only[aL]at h;by_cases hc:v≠0∧st.1=n
  ·rw[if_pos hc,Ho vs (k+1) _ (by simp only;omega)];simp;omega
  ·rw[if_neg hc];exact IP vs (k+1) st (by omega) hh
def CA(b:cr)(m:cN)(r:RunT)(rd:List v8):List Int:=rd.map fun x=>Bn x.lo x.hi (vC b m r x)
theorem IG(b:cr)(m:cN)(r:RunT)(rd:List v8):(CA b m r rd).length=rd.length:=by simp[CA]
theorem amw{b:cr}{l:List cN}{av:List (List Int)}{rd:List v8}{rs:List RunT}{m:cN}{r:RunT}{i:Nat}(h:Ok b l av)(hR:Rs b l av.length rs)(hl:rd.length≤40)(hx:∀x∈rd,Rdv b av.length x)(hm:l[i]?=some m)(hr:rs[i]?=some r){A B:Abs.aE}{L10:Nat}{s0:Nat}(hs0:s0≤100):
  ∀(k j:Nat) (st:Nat×List Tri),j+k=rd.length→st.1≤rd.length→st.2.length≤s0+j →
  WL T [3,4,8,9,10,15,16,17,18,51,52,53,60,61,62] false oO [(3,.aH rd.length (rd.flatMap v8.enc)),(4,.bF [.int .i64 b.f.x,.int .i64 b.f.y,.int .i64 b.f.z,.int .i64 b.f.k,.aH b.ck.length (b.ck.flatMap Rw.enc),.int .i64 b.bJ,.int .i64 b.lift,.int .i64 b.deep,.aH b.an.length (b.an.flatMap bG.enc)]),(8,.sl σ.length 0 L10 0 L10 1),(9,.sl σ.length 1 st.2.length 0 st.2.length 3),(10,.ref σ.length 2 0 0),(15,.aH rs.length (rs.flatMap Di)),(16,.int .i64 i),(17,.own 0 [.str m.name,.aH m.bh.length (m.bh.flatMap aT)]),(18,.int .i64 st.1),(51,.aH l.length (l.flatMap cN.enc)),(52,.int .i64 l.length),(53,.int .i64 i),(60,.aH rd.length (rd.flatMap v8.enc)),(61,.int .i64 rd.length),(62,.int .i64 j)]
   ([A,.cells st.2.length (st.2.flatMap Ad),B]::σ)
   (fun x e σ'=>x=.exit 4∧∃st',st'=zb i rd.length j ((CA b m r rd).drop j) st∧get e 3=.aH rd.length (rd.flatMap v8.enc)∧get e 4=.bF [.int .i64 b.f.x,.int .i64 b.f.y,.int .i64 b.f.z,.int .i64 b.f.k,.aH b.ck.length (b.ck.flatMap Rw.enc),.int .i64 b.bJ,.int .i64 b.lift,.int .i64 b.deep,.aH b.an.length (b.an.flatMap bG.enc)]∧get e 8=.sl σ.length 0 L10 0 L10 1∧get e 9=.sl σ.length 1 st'.2.length 0 st'.2.length 3∧get e 10=.ref σ.length 2 0 0∧get e 15=.aH rs.length (rs.flatMap Di)∧get e 16=.int .i64 i∧get e 18=.int .i64 st'.1∧get e 51=.aH l.length (l.flatMap cN.enc)∧get e 52=.int .i64 l.length∧get e 53=.int .i64 i ∧
    σ'=[A,.cells st'.2.length (st'.2.flatMap Ad),B]::σ):=by
 intro k;induction k with
 |zero =>
  intro j st hj h1 h2;refine aN oO.eq_1 ?_;have h3:¬j<rd.length:=by omega
  have h4:(CA b m r rd).drop j=[]:=aA (by rw[IG];omega);simp[-length_flatMap,-map_take,h3,h4,zb]
 |succ k ih0 =>
  intro j st hj g1 g2;refine aN oO.eq_1 ?_;have h1:j<rd.length:=by omega
  obtain⟨x,hxj⟩:=gE h1;have hmm:=ai hm;have hrr:=hR.all r (ai hr);have hxv:=hx x (ai hxj);have h2:=PX hxj;have h4:=gG h1 (by omega);have hpl:=h.Ls;have hi:i<rs.length:=(aC.1 hr).1;have hV:=fun σ=>afl (σ:=σ) (h.fv m hmm) hrr hxv hpl
  have hb:=PY (h.fv m hmm) hrr hxv;have hen:=hxv.ends;have hM:=fun σ=>aff (σ:=σ) (lo:=x.lo) (hi:=x.hi) (n:=vC b m r x) (by omega) (by omega) (by omega)
  have a1:=agk hr;have e1:(CA b m r rd)[j]?=some (Bn x.lo x.hi (vC b m r x)):=by simp[CA,hxj]
  have h5:=cS e1;simp only[v8.enc]at h2 hV;have a7:=agE st.2;have a8:(st.2.flatMap Ad).take (st.2.length*3)=st.2.flatMap Ad:=aj (by omega);have h8:(st.2.length+1)*24≤room:=by unfold room;omega
  rw[h5,zb];generalize Bn x.lo x.hi (vC b m r x)=v at *
  by_cases c1:v=0
  ·have ih:=ih0 (j+1) st (by omega) g1 (by omega);simp[-length_flatMap,-map_take,h1,h2,h4,hV,hM,hi,a1,c1,bq,Ik,D.clean];exact WL.to ih (by simp) (by simp) fun x e σ hh=>by simpa[c1]using hh
  ·by_cases c2:st.1=rd.length
   ·have ih:=ih0 (j+1) (j,st.2++[((i:Int),(j:Int),v)]) (by omega) (by simp only;omega) (by simp;omega);simp[-length_flatMap,-map_take,h1,h2,h4,hV,hM,hi,a1,c1,c2,a7,a8,h8,bq,Ik,D.clean];exact WL.to ih (by simp) (by simp[Ad]) fun x e σ hh=>by simpa[c1,c2]using hh
   ·have ih:=ih0 (j+1) st (by omega) g1 (by omega);have c3:¬(st.1:Int)=rd.length:=by omega
    simp[-length_flatMap,-map_take,h1,h2,h4,hV,hM,hi,a1,c1,c2,c3,bq,Ik,D.clean];exact WL.to ih (by simp) (by simp) fun x e σ hh=>by simpa[c2]using hh
end Go.Proofs.YtfgljaglidhjiaaGreatDoor
set_option maxRecDepth 100000
namespace Go.Proofs.YtfgljaglidhjiaaGreatDoor
open List(length_flatMap map_take)
open Go Go.Abs Go.Rock
variable {σ:SK}
def Hg(b:cr)(rd:List v8):Nat→List (cN×RunT)→List Int×List Tri→List Int×List Tri
 |_,[],st=>st
 |i,p::t,st=>Hg b rd (i+1) t (if(zb i rd.length 0 (CA b p.1 p.2 rd) (rd.length,st.2)).1=rd.length then st.1++[(i:Int)]else st.1,(zb i rd.length 0 (CA b p.1 p.2 rd) (rd.length,st.2)).2)
theorem amv{b:cr}{l:List cN}{av:List (List Int)}{rd:List v8}{rs:List RunT}(h:Ok b l av)(hR:Rs b l av.length rs)(hl:rd.length≤40)(hx:∀x∈rd,Rdv b av.length x){B:Abs.aE}:
  ∀(k i:Nat) (st:List Int×List Tri),i+k=l.length→st.1.length≤i→st.2.length≤i →
  WL T [3,4,8,9,10,15,51,52,53] false oP [(3,.aH rd.length (rd.flatMap v8.enc)),(4,.bF [.int .i64 b.f.x,.int .i64 b.f.y,.int .i64 b.f.z,.int .i64 b.f.k,.aH b.ck.length (b.ck.flatMap Rw.enc),.int .i64 b.bJ,.int .i64 b.lift,.int .i64 b.deep,.aH b.an.length (b.an.flatMap bG.enc)]),(8,.sl σ.length 0 st.1.length 0 st.1.length 1),(9,.sl σ.length 1 st.2.length 0 st.2.length 3),(10,.ref σ.length 2 0 0),(15,.aH rs.length (rs.flatMap Di)),(51,.aH l.length (l.flatMap cN.enc)),(52,.int .i64 l.length),(53,.int .i64 i)]
   ([.cells st.1.length (st.1.flatMap aT),.cells st.2.length (st.2.flatMap Ad),B]::σ)
   (fun x e σ'=>x=.exit 2∧∃st',st'=Hg b rd i ((l.zip rs).drop i) st∧get e 8=.sl σ.length 0 st'.1.length 0 st'.1.length 1∧get e 9=.sl σ.length 1 st'.2.length 0 st'.2.length 3∧get e 10=.ref σ.length 2 0 0 ∧
    σ'=[.cells st'.1.length (st'.1.flatMap aT),.cells st'.2.length (st'.2.flatMap Ad),B]::σ):=by
 intro k;induction k with
 |zero =>
  intro i st hi g1 g2;refine aN oP.eq_1 ?_;have h1:¬i<l.length:=by omega
  have h2:(l.zip rs).drop i=[]:=aA (by rw[List.length_zip];omega);simp[-length_flatMap,-map_take,h1,h2,Hg]
 |succ k ih0 =>
  intro i st hi g1 g2;refine aN oP.eq_1 ?_;have h1:i<l.length:=by omega
  have hlen:=hR.len;have hne:=hR.ne;obtain⟨m,hm⟩:=gE h1;obtain⟨r,hr⟩:∃r,rs[i]?=some r:=gE (by omega);have h2:=PJ hm;have h4:=gG h1 (by omega);have hz:(l.zip rs)[i]?=some (m,r):=by simp[List.getElem?_zip_eq_some,hm,hr]
  have h5:=cS hz;have hsl:=IP (i:=i) (CA b m r rd) 0 (rd.length,st.2) (n:=rd.length) (by rw[IG];omega) (by simp);rw[h5,Hg];simp[-length_flatMap,-map_take,h1,h2,bq,D.clean];refine WL.to (amw (σ:=σ) h hR hl hx hm hr (A:=.cells st.1.length (st.1.flatMap aT)) (B:=B) (L10:=st.1.length) (s0:=50) (by omega) rd.length 0 (rd.length,st.2) (by omega) (by simp) (by simp only;omega)) (by simp) (by simp) ?_;rintro x e σ' ⟨rfl,st',hst,q3,q4,q8,q9,q10,q15,q16,q18,q51,q52,q53,rfl⟩;rw[aO]at hst;rw[← hst];rw[← hst]at hsl;have a4:=PC st.1;have a6:(st.1.flatMap aT).take st.1.length=st.1.flatMap aT:=aj (by omega);have h7:(st.1.length+1)*8≤room:=by unfold room;omega
  by_cases hc:st'.1=rd.length
  ·have ih:=ih0 (i+1) (st.1++[(i:Int)],st'.2) (by omega) (by simp;omega) (by simp only at hsl ⊢;omega);rw[if_pos hc];simp[-length_flatMap,-map_take,q3,q4,q8,q9,q10,q15,q16,q18,q51,q52,q53,hc,h4,a4,a6,h7];exact WL.to ih (by simp) (by simp) fun x e σ hh=>by simpa using hh
  ·have ih:=ih0 (i+1) (st.1,st'.2) (by omega) (by simp only;omega) (by simp only at hsl ⊢;omega);rw[if_neg hc];have hc':¬(st'.1:Int)=rd.length:=by omega
   simp[-length_flatMap,-map_take,q3,q4,q8,q9,q10,q15,q16,q18,q51,q52,q53,hc,hc',h4];exact WL.to ih (by simp) (by simp) fun x e σ hh=>by simpa using hh
def Nb(b:cr)(l:List cN)(av:List (List Int))(rd:List v8):D :=
 if xh b av.length rd=0 then
  match xk b av l with
  |some rs => .dG [.aH (Hg b rd 0 (l.zip rs) ([],[])).1.length ((Hg b rd 0 (l.zip rs) ([],[])).1.flatMap aT),.aH (Hg b rd 0 (l.zip rs) ([],[])).2.length ((Hg b rd 0 (l.zip rs) ([],[])).2.flatMap Ad),.int .i64 0]
  |none => .dG [.aH 0 [],.aH 0 [],.int .i64 9]
 else .dG [.aH 0 [],.aH 0 [],.int .i64 (xh b av.length rd)]
theorem EJ{l0 a b:Nat}{k:Int}{A B:List D}{S S1 S2:SK}{d1 d2:D}(h1:cz l0 15 d1 S=(.aH a A,S1))(h2:cz l0 15 d2 S1=(.aH b B,S2)):cz l0 16 (.dG [d1,d2,.int .i64 k]) S=(.dG [.aH a A,.aH b B,.int .i64 k],S2):=by
 by_cases hc:D.clean (.dG [d1,d2,.int .i64 k])=true
 ·rw[jj hc (by omega)];simp only[D.clean,D.bz,Bool.and_true,af]at hc;rw[jj hc.1 (by omega)]at h1;rw[jj hc.2 (by omega)]at h2;cases h1;cases h2;rfl
 ·rw[BI (by simpa using hc) (by omega)];simp only[wA,yV];rw[h1];simp only;rw[h2];simp only;rw[jj (by rfl) (by omega)]
end Go.Proofs.YtfgljaglidhjiaaGreatDoor
set_option maxRecDepth 100000
namespace Go.Proofs.YtfgljaglidhjiaaGreatDoor
open List(length_flatMap map_take)
open Go Go.Abs Go.Rock Go.Book
variable {σ:SK}
theorem DO{α:Type}{f:α→List D}{l:List α}{v t:Nat}{e:Env}{S:SK}(h:Abs.get e v=nl f l):Abs.get (MG v (nl f l) e S).1 t=if v=t then .aH l.length (l.flatMap f)else Abs.get e t:=by
 unfold nl at h ⊢;split at h
 ·rename_i hl;subst hl;simp
 ·rename_i hl;simp[hl];intro hh;subst hh;exact h
theorem F5{α:Type}{f:α→List D}{l:List α}{v:Nat}{e:Env}{S:SK}:(MG v (nl f l) e S).2=S:=by
 unfold nl;split<;>simp
theorem L6{wq:D}{b:cr}{l:List cN}{av:List (List Int)}{rd:List v8}(hwq:wq.wc=.aH b.an.length (b.an.flatMap bG.enc))(h:Ok b l av)(hl:rd.length≤1000000000)(hw:∀x∈rd,0≤x.rk∧x.rk≤255)(hσ:σ≠[]):
  lim T (.call false lS [.agg [.int .i64 b.f.x,.int .i64 b.f.y,.int .i64 b.f.z,.int .i64 b.f.k,.aH b.ck.length (b.ck.flatMap Rw.enc),.int .i64 b.bJ,.int .i64 b.lift,.int .i64 b.deep,wq],.aH l.length (l.flatMap cN.enc),nl FT av,.aH rd.length (rd.flatMap v8.enc)] σ)=some (.val (Nb b l av rd) σ):=by
 have h1:=fun σ=>afe (σ:=σ) h
 unfold Nb;by_cases c0:40<rd.length
 ·have e1:xh b av.length rd=3:=by simp[xh,c0]
  rw[e1];refine az wI nZ.eq_1 rfl ?_;simp[-length_flatMap,-map_take,hwq,DO,F5,h1,show(40:Int)<rd.length by omega,cI,bj];have hp:=aK.2 hσ;rw[EJ (Bb (by omega) (by omega) (by simp)) (Bb (by omega) (by omega) (by simp))];simp
 have e1:xh b av.length rd=da (vB b av.length) rd:=by simp[xh,c0]
 rw[e1];have c0':¬(40:Int)<rd.length:=by omega
 have hL:=SG (σ:=σ) h (by omega) hw (A:=.cells 0 []) (B:=.cells 0 []) rd.length 0 (by omega);rw[aO]at hL;by_cases c1:da (vB b av.length) rd=0
 ·rw[c1]at hL;rw[if_pos c1];have hx:∀x∈rd,Rdv b av.length x:=fun x hx=>Rdv.of (qU c1 x hx)
  refine Kz wI nZ.eq_1 rfl rfl ?_;cases hrs:xk b av l with
  |none =>
   have h2:=fun σ=>Sq (σ:=σ) h hrs
   have hX:vH T (.fn fD [] []) [.ref σ.length 2 0 0] (some (.tW 262 (.agg []))) ([.cells 0 [],.cells 0 [],.cells 0 [.int .i64 0]]::σ)=some ([.cells 0 [],.cells 0 [],.cells 0 [.int .i64 9]]::σ):=uG QB;simp[-length_flatMap,-map_take,JZ,AA,hwq,DO,F5,h1,c0',cI,bj];refine WL.to hL (by simp) (by simp) ?_;intro x e σ' hh;rw[if_pos rfl]at hh;obtain⟨rfl,rfl,g1,g2,g3,g4,g8,g9,g10⟩:=hh;simp[-length_flatMap,-map_take,JZ,AA,g1,g2,g3,g4,g8,g9,g10,cI,bj];rw[yM sJ.eq_1];simp[-length_flatMap,-map_take,JZ,AA,g1,g2,g3,g4,g8,g9,g10,h2,hX,cI,bj,bq];have hp:=aK.2 hσ;rw[EJ (Bb (by omega) (by omega) (by simp)) (Bb (by omega) (by omega) (by simp))];simp
  |some rs =>
   have hR:=Rs.of h hrs;have h2:=fun σ hσ=>Sr (σ:=σ) h hσ hrs hR.len
   simp[-length_flatMap,-map_take,JZ,AA,hwq,DO,F5,h1,c0',cI,bj];refine WL.to hL (by simp) (by simp) ?_;intro x e σ' hh;rw[if_pos rfl]at hh;obtain⟨rfl,rfl,g1,g2,g3,g4,g8,g9,g10⟩:=hh;simp[-length_flatMap,-map_take,JZ,AA,g1,g2,g3,g4,g8,g9,g10,cI,bj];rw[yM sJ.eq_1];simp[-length_flatMap,-map_take,JZ,AA,g1,g2,g3,g4,g8,g9,g10,h2,cI,bj,bq];refine WL.to (amv (σ:=σ) h hR (by omega) hx (B:=.cells 0 [.int .i64 0]) l.length 0 ([],[]) (by omega) (by simp) (by simp)) (by simp) (by simp) ?_;rintro x e σ' ⟨rfl,st,hst,q8,q9,q10,rfl⟩;rw[aO]at hst;rw[← hst];have hX:vH T (.fn fD [] []) [.ref σ.length 2 0 0] none ([.cells st.1.length (st.1.flatMap aT),.cells st.2.length (st.2.flatMap Ad),.cells 0 [.int .i64 0]]::σ)=some ([.cells st.1.length (st.1.flatMap aT),.cells st.2.length (st.2.flatMap Ad),.cells 0 [.int .i64 0]]::σ):=uG Gz;simp[-length_flatMap,-map_take,JZ,AA,q8,q9,q10,g10,hX];rw[EJ (xO (n:=15) (f:=aT) (w:=1) (l:=st.1) (by decide) (fun _=>rfl) (fun x=>by simp) hσ (by simp)) (xO (n:=15) (f:=Ad) (w:=3) (l:=st.2) (by decide) (fun _=>rfl) (fun x=>by simp[Ad]) hσ (by simp))];simp
 ·simp only[c1,if_false];refine az wI nZ.eq_1 rfl ?_;simp[-length_flatMap,-map_take,hwq,DO,F5,h1,c0',cI,bj];refine WL.to hL (by simp) (by simp) ?_;intro x e σ' hh;rw[if_neg c1]at hh;obtain⟨rfl,g8,g9,g10,rfl⟩:=hh;simp[g8,g9,g10]
end Go.Proofs.YtfgljaglidhjiaaGreatDoor
