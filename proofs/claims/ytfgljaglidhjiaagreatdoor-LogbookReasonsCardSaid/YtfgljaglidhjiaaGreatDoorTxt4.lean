import Derived.Test.YtfgljaglidhjiaaGreatDoorTxt3
import Derived.Test.YtfgljaglidhjiaaGreatDoorTxt2
import Derived.Test.YtfgljaglidhjiaaGreatDoorTxt1
set_option linter.all false
set_option maxRecDepth 100000
namespace Go.Proofs.YtfgljaglidhjiaaGreatDoor
open List(length_flatMap map_take)
open Go Go.Abs Go.Rock
variable {σ:SK}
structure Fm(f:fU)(m:cI):Prop where
 fv:f.valid=true
 len:(m.bh.length:Int)=f.k*f.size
 ok:∀v∈m.bh,-100000≤v∧v≤100000
theorem Fm.of{f:fU}{m:cI}(hf:f.valid=true)(h:f.model m=0):Fm f m:=by
 unfold fU.model at h;split at h
 ·split at h
  ·rename_i h1;exact⟨hf,h1.1,fun v hv=>bf.1 (jZ.1 h1.2 v hv)⟩
  ·cases h
 ·cases h
theorem arF{a b A B:Int}(ha : -A≤a∧a≤A)(hb : -B≤b∧b≤B)(hA:0≤A) : -(A*B)≤a*b∧a*b≤A*B:=by
 have key:∀x:Int,0≤x→x≤A → -(A*B)≤x*b∧x*b≤A*B:=by
  intro x h0 h1;have e1:x*b≤x*B:=Int.mul_le_mul_of_nonneg_left hb.2 h0;have e2:x*(-B)≤x*b:=Int.mul_le_mul_of_nonneg_left hb.1 h0;have e3:x*B≤A*B:=fJ h1 (by omega);rw[Int.mul_neg]at e2;omega
 rcases mT 0 a with h | h
 ·exact key a h ha.2
 ·have:=key (-a) (by omega) (by omega);rw[Int.neg_mul]at this;omega
theorem ax1{f:fU}{m:cI}{x:wV}(hm:Fm f m)(hx:Mev f x):∀(k i:Nat) (acc:Int),i+k=x.bl.length → -(i*100000000)≤acc∧acc≤i*100000000 →
  WL T [2,3,4,8,9,10] false nT [(2,.bD [.int .i64 f.x,.int .i64 f.y,.int .i64 f.z,.int .i64 f.k,.int .i64 x.kind,.aI x.bl.length (x.bl.flatMap aS),.aI x.wt.length (x.wt.flatMap aS)]),(3,.bD [.str m.name,.aI m.bh.length (m.bh.flatMap aS)]),(4,.int .i64 acc),(8,.aI x.bl.length (x.bl.flatMap aS)),(9,.int .i64 x.bl.length),(10,.int .i64 i)] σ
   (fun x' e σ'=>σ'=σ∧x'=.exit 0∧get e 4=.int .i64 (ae6 m.bh (x.kind*f.size) acc (x.bl.drop i) (x.wt.drop i))):=by
 intro k;induction k with
 |zero =>
  intro i acc hi ha;refine aN nT.eq_1 ?_;have h1:¬i<x.bl.length:=by omega
  have h2:x.bl.drop i=[]:=aB (by omega);simp[-length_flatMap,-map_take,h1,h2,ae6]
 |succ k ih0 =>
  intro i acc hi ha;refine aN nT.eq_1 ?_;have h1:i<x.bl.length:=by omega
  have hlen:=hx.len;have h1':i<x.wt.length:=by omega
  obtain⟨b,hb⟩:=gE h1;obtain⟨w,hw⟩:=gE h1';obtain⟨q1,q2⟩:=LU hm.fv;obtain⟨z1,z2,z3,z4,z5⟩:=fU.tA.1 hm.fv;obtain⟨s1,s2,s3⟩:=Mm hx.awd hb hw;have hl64:=Jg hx.len hx.awd (by omega);have h4:=gD h1 (by omega);have h5:=cY hb;have h6:=cY hw;have h2:=rh hb;have h3:=rh hw;have k1:=hx.kind;have k2:0≤x.kind*f.size∧x.kind*f.size+f.size≤f.k*f.size:=by
   refine⟨ft k1.1 (by omega),?_⟩;have:=fJ (show x.kind+1≤f.k by omega) (show 0≤f.size by omega);rw[Int.add_mul]at this;omega
  have hvl:=hm.len;obtain⟨j,hj⟩:∃j:Nat,x.kind*f.size+b=j:=⟨(x.kind*f.size+b).toNat,by omega⟩;have hj1:j<m.bh.length:=by omega
  obtain⟨v,hv⟩:=gE hj1;have hvb:=hm.ok v (ai hv);have h7:=rh hv;have hB:=fun σ=>Ir (σ:=σ) hm.fv
  have b1:=arF (a:=w) (b:=v) (A:=1000) (B:=100000) (by omega) hvb (by omega);have w1:=fT (n:=x.kind*f.size) (by omega);have w2:=fT (n:=(j:Int)) (by omega);have w3:=fT (n:=w*v) (by omega);have w4:=fT (n:=acc+w*v) (by omega);have ih:=ih0 (i+1) (acc+w*v) (by omega) (by omega);rw[h5,h6,ae6,hj];simp only[Int.toNat_natCast,hv,gT];simp[-length_flatMap,-map_take,h1,h1',h2,h3,h4,hB,w1,w2,w3,w4,hj,hj1,h7];exact WL.to ih (by simp) rfl fun x e σ hh=>by simpa[hv]using hh
theorem afO{f:fU}{m:cI}{x:wV}(hm:Fm f m)(hx:Mev f x):lim T (.call false lQ [.agg [.int .i64 f.x,.int .i64 f.y,.int .i64 f.z,.int .i64 f.k,.int .i64 x.kind,.aI x.bl.length (x.bl.flatMap aS),.aI x.wt.length (x.wt.flatMap aS)],.agg [.str m.name,.aI m.bh.length (m.bh.flatMap aS)]] σ)=some (.val (.int .i64 (Ip f m x)) σ):=by
 refine aA Ew rG.eq_1 rfl ?_;simp[-length_flatMap,-map_take];refine WL.to (ax1 (σ:=[]::σ) hm hx x.bl.length 0 0 (by omega) (by simp)) (by simp) rfl ?_;rintro x' e σ' ⟨rfl,rfl,g⟩;simp[-length_flatMap,-map_take,g,Ip]
theorem SZ{f:fU}{x:wV}:lim T (.call false ka [.agg [.int .i64 f.x,.int .i64 f.y,.int .i64 f.z,.int .i64 f.k],.agg x.enc] σ)=some (.val (.fn lQ [.agg [.int .i64 f.x,.int .i64 f.y,.int .i64 f.z,.int .i64 f.k,.int .i64 x.kind,.aI x.bl.length (x.bl.flatMap aS),.aI x.wt.length (x.wt.flatMap aS)]] []) σ):=by
 refine aA AZ mW.eq_1 rfl ?_;simp[-length_flatMap,-map_take,D.clean,aY]
end Go.Proofs.YtfgljaglidhjiaaGreatDoor
namespace Go.Book
open List(length_flatMap map_take)
open Go Go.Abs Go.Rock
def si(f:fU)(x:wV):Int:=if f.valid=true then f.measure x else 1
def tG(p:Int×Int):List D:=[.int .i64 p.1,.int .i64 p.2]
def lM(nm:List UInt8)(k lo hi:Int)(ps:List (Int×Int)):wV:=⟨nm,k,ps.map (·.1),ps.map (·.2),lo,hi⟩
end Go.Book
namespace Go.Proofs.YtfgljaglidhjiaaGreatDoor
open List(length_flatMap map_take)
open Go Go.Abs Go.Rock Go.Book
variable {σ:SK}
theorem Ku{f:fU}{x:wV}(hf:f.valid=true)(hn:x.name.length≤1000000000)(hl:x.bl.length≤1000000000):
  lim T (.call false dP [.bD [.int .i64 f.x,.int .i64 f.y,.int .i64 f.z,.int .i64 f.k],.bD [.aI 1 x.enc]] σ)=some (.val (.int .i64 (f.measure x)) σ):=by
 refine aA zd km.eq_1 rfl ?_;have h:=fun σ=>MH (σ:=σ) (f:=f) (l:=[x]) hf (by intro m hm;simp at hm;subst hm;exact⟨hn,by omega⟩) (by simp)
 have he:f.D9 [x]=f.measure x:=by
  simp only[fU.D9,fU.DQ];by_cases h:f.measure x=0<;>simp[h]
 rw[he]at h;simp only[List.length_singleton,aW,dN,dL]at h;simp only[wV.enc]at h ⊢;simp[-length_flatMap,-map_take,h]
theorem Fl{f:fU}{x:wV}(hn:x.name.length≤1000000000)(hl:x.bl.length≤1000000000):
  lim T (.call false jn [.agg [.int .i64 f.x,.int .i64 f.y,.int .i64 f.z,.int .i64 f.k],.aI 1 x.enc] σ)=some (.val (.int .i64 (si f x)) σ):=by
 refine aA AH mf.eq_1 rfl ?_;have hC:=fun σ=>Jj (σ:=σ) (fs:=[.fn cM [.agg [.int .i64 f.x,.int .i64 f.y,.int .i64 f.z,.int .i64 f.k]] [],.fn dP [] [.bD [.int .i64 f.x,.int .i64 f.y,.int .i64 f.z,.int .i64 f.k],.bD [.aI 1 x.enc]]]) (es:=[f.shape,f.measure x]) rfl (by simp) (by simp) (by
  intro i d n hd hn' h0 σ;match i with
  |0 =>
   simp at hd hn';subst hd hn';simp[Gb]
  |1 =>
   simp only[List.getElem?_cons_succ,bY,ae]at hd hn';subst hd hn';have h1:f.valid=true:=by
    have:=h0 0 (by omega);simp[fU.shape]at this;exact this
   have hh:=Ku (σ:=σ) h1 hn hl;rw[rk];have h':lim T (.call false dP ([]++[]++[.bD [.int .i64 f.x,.int .i64 f.y,.int .i64 f.z,.int .i64 f.k],.bD [.aI 1 x.enc]]) σ)=_:=hh;rw[h'];rfl
  |i+2=>simp at hd)
 have e1:db id [f.shape,f.measure x]=si f x:=by
  simp only[db,id,si,fU.shape];by_cases h:f.valid=true
  ·by_cases h2:f.measure x=0<;>simp[h,h2]
  ·simp[h]
 rw[e1]at hC;simp only[wV.enc,aJ,bF]at hC ⊢;simp[-length_flatMap,-map_take,hC]
theorem am5{f:fU}{m:cI}(hf:f.valid=true)(hn:m.name.length≤1000000000)(hl:m.bh.length≤1000000000):
  lim T (.call false pN [.bD [.int .i64 f.x,.int .i64 f.y,.int .i64 f.z,.int .i64 f.k],.bD [.str m.name,.aI m.bh.length (m.bh.flatMap aS)]] σ)=some (.val (.int .i64 (f.model m)) σ):=by
 refine aA HU vf.eq_1 rfl ?_;simp[-length_flatMap,-map_take,NT hf hn hl]
theorem am6{f:fU}{x:wV}(hf:f.valid=true)(hn:x.name.length≤1000000000)(hl:x.bl.length≤1000000000):
  lim T (.call false nG [.bD [.int .i64 f.x,.int .i64 f.y,.int .i64 f.z,.int .i64 f.k],.bD x.enc] σ)=some (.val (.int .i64 (f.measure x)) σ):=by
 refine aA HV vg.eq_1 rfl ?_;have h:=fun σ=>Iw (σ:=σ) (f:=f) (m:=x) hf hn (by omega)
 simp only[wV.enc]at h ⊢;simp[-length_flatMap,-map_take,h]
theorem Sm{f:fU}{m:cI}{x:wV}(hf:f.valid=true)(hm:f.model m=0)(hx:f.measure x=0)(hn:m.name.length≤1000000000)(hl:m.bh.length≤1000000000)(hn2:x.name.length≤1000000000)(hl2:x.bl.length≤1000000000):
  lim T (.call false tv [.agg [.int .i64 f.x,.int .i64 f.y,.int .i64 f.z,.int .i64 f.k],.agg [.str m.name,.aI m.bh.length (m.bh.flatMap aS)],.agg x.enc] σ)=some (.val (.dK [.int .i64 (Ip f m x),.int .i64 0]) σ):=by
 refine aA KQ xZ.eq_1 rfl ?_;have hC:=fun σ=>Jj (σ:=σ) (fs:=[.fn cM [.agg [.int .i64 f.x,.int .i64 f.y,.int .i64 f.z,.int .i64 f.k]] [],.fn pN [] [.bD [.int .i64 f.x,.int .i64 f.y,.int .i64 f.z,.int .i64 f.k],.bD [.str m.name,.aI m.bh.length (m.bh.flatMap aS)]],.fn nG [] [.bD [.int .i64 f.x,.int .i64 f.y,.int .i64 f.z,.int .i64 f.k],.bD x.enc]]) (es:=[f.shape,f.model m,f.measure x]) rfl (by simp) (by simp) (by
  intro i d n hd hn' h0 σ;match i with
  |0 =>
   simp at hd hn';subst hd hn';simp[Gb]
  |1 =>
   simp at hd hn';subst hd hn';simp[am5 hf hn hl]
  |2 =>
   simp only[List.getElem?_cons_succ,bY,ae]at hd hn';subst hd hn';have hh:=am6 (σ:=σ) hf hn2 hl2;rw[rk];have h':lim T (.call false nG ([]++[]++[.bD [.int .i64 f.x,.int .i64 f.y,.int .i64 f.z,.int .i64 f.k],.bD x.enc]) σ)=_:=hh;rw[h'];rfl
  |i+3=>simp at hd)
 have e1:db id [f.shape,f.model m,f.measure x]=0:=by simp[db,fU.shape,hf,hm,hx]
 rw[e1]at hC;have hW:=fun σ=>SZ (σ:=σ) (f:=f) (x:=x)
 have hS:=fun σ=>afO (σ:=σ) (Fm.of hf hm) (Mev.of hx)
 simp only[wV.enc,aJ,bF]at hC hW ⊢;simp[-length_flatMap,-map_take,hC,hW,hS]
theorem Qq(l:List (Int×Int)):(l.flatMap tG).length=l.length*2:=bT (f:=tG) (w:=2) (fun _=>rfl) l
theorem xm(l:List Int):(l.flatMap aS).length=l.length:=by have:=bT (f:=aS) (w:=1) (fun _=>rfl) l;omega
def Ig(L:Nat)(nm:List UInt8)(k lo hi:Int)(ps:List (Int×Int)):List Abs.aE :=
 [.cells 0 [.str nm,.int .i64 k,.sl L 1 ps.length 0 ps.length 1,.sl L 2 ps.length 0 ps.length 1,.int .i64 lo,.int .i64 hi],.cells ps.length ((ps.map (·.1)).flatMap aS),.cells ps.length ((ps.map (·.2)).flatMap aS)]
theorem Jm{ps:List (Int×Int)}(hps:ps.length≤1000000){X Y:D}(hx:X.calm=X)(hy:Y.calm=Y){nm:List UInt8}{k lo hi:Int}:∀(m j:Nat),j+m=ps.length →
  WL T [2,3,6,30,31,32] false iy [(2,X),(3,Y),(6,.ref σ.length 0 0 0),(30,.aI (ps.length*2) (ps.flatMap tG)),(31,.int .i64 (ps.length*2)),(32,.int .i64 (j*2))] (Ig σ.length nm k lo hi (ps.take j)::σ)
   (fun x e σ'=>x=.exit 0∧get e 2=X∧get e 3=Y∧get e 6=.ref σ.length 0 0 0∧get e 1000006=.undef∧σ'=Ig σ.length nm k lo hi ps::σ)
 |0,j,h=>by
  refine aN iy.eq_1 ?_;have h1:¬j<ps.length:=by omega
  have h2:ps.take j=ps:=aj (by omega);simp[-length_flatMap,-map_take,h1,hx,hy,h2]
 |m+1,j,h=>by
  refine aN iy.eq_1 ?_;have h1:j<ps.length:=by omega
  have h2:(j:Int)*2<(ps.length:Int)*2:=by omega
  have h3:(j:Int)*2+1<(ps.length:Int)*2:=by omega
  have h0:0≤(j:Int)*2:=by omega
  have h0':0≤(j:Int)*2+1:=by omega
  obtain⟨p,hp⟩:=gE h1;have hd:=xn (f:=tG) (w:=2) (fun _=>rfl) hp;have hd2:(ps.flatMap tG).drop (j*2+1)=.int .i64 p.2::(ps.flatMap tG).drop (j*2+2):=by
   have:=congrArg (List.drop 1) hd;simpa[tG,ij]using this
  have hd1:(ps.flatMap tG).drop (j*2)=.int .i64 p.1::.int .i64 p.2::(ps.flatMap tG).drop (j*2+2):=by simpa[tG]using hd
  have t1:((j:Int)*2).toNat=j*2:=by omega
  have t2:((j:Int)*2+1).toNat=j*2+1:=by omega
  have w1:IntKind.i64.wrap ((j:Int)*2+1)=j*2+1:=fT (by omega);have w2:IntKind.i64.wrap ((j:Int)*2+1+1)=j*2+1+1:=fT (by omega);have m1:((j:Int)*2).tmod 2=0:=by rw[Int.tmod_eq_emod_of_nonneg (by omega)];omega
  have m2:((j:Int)*2+1).tmod 2=1:=by rw[Int.tmod_eq_emod_of_nonneg (by omega)];omega
  have hl:(ps.take j).length=j:=by simp;omega
  have hr:(j+1)*8≤room:=by unfold room;omega
  have ha:=xm ((ps.take j).map (·.1));have hb:=xm ((ps.take j).map (·.2));simp only[cT,hl]at ha hb;have ta:(((ps.take j).map (·.1)).flatMap aS).take j=((ps.take j).map (·.1)).flatMap aS:=aj (by omega);have tb:(((ps.take j).map (·.2)).flatMap aS).take j=((ps.take j).map (·.2)).flatMap aS:=aj (by omega);have ih:=Jm hps hx hy (nm:=nm) (k:=k) (lo:=lo) (hi:=hi) m (j+1) (by omega);have htk:ps.take (j+1)=ps.take j++[p]:=by rw[List.take_add_one,hp];rfl
  rw[htk]at ih;have hj1:((j+1:Nat):Int)*2=(j:Int)*2+1+1:=by omega
  rw[hj1]at ih;simp[-length_flatMap,-map_take,hx,hy,Ig,hl,h0,h0',h1,h2,h3,t1,t2,hd1,hd2,w1,w2,m1,m2,hr,ha,hb,ta,tb];refine aN iy.eq_1 ?_;simp[-length_flatMap,-map_take,hx,hy,Ig,hl,h0,h0',h1,h2,h3,t1,t2,hd1,hd2,w1,w2,m1,m2,hr,ha,hb,ta,tb];refine WL.to ih (by simp) (by simp[Ig,hl]) fun x e σ' hh=>by simpa[Ig]using hh
theorem ane{A F:List Abs.aE}{b:Bk}{er:List Int}{m:cI}{x:wV}(hf:b.bG.f.valid=true)(hm:b.bG.f.model m=0)(hx:b.bG.f.measure x=0)(hn:m.name.length≤1000000000)(hl:m.bh.length≤1000000000)(hn2:x.name.length≤1000000000)(hl2:x.bl.length≤1000000000):
  lim T (.call false fy [.agg [.str m.name,.aI m.bh.length (m.bh.flatMap aS)],.bD [.ref σ.length 6 0 0],.bD x.enc] ([]::A::F::b.bw σ.length er::σ))=some (.val (.int .i64 (Ip b.bG.f m x)) ([]::A::F::b.bw σ.length er::σ)):=by
 refine aA A7 mX.eq_1 rfl ?_;have hS:=fun σ=>Sm (σ:=σ) hf hm hx hn hl hn2 hl2
 simp only[wV.enc]at hS ⊢;simp[-length_flatMap,-map_take,Bk.bw,Bk.cells,hS]
theorem Tp{x:wV}:D.bg x.enc=true:=by simp[wV.enc,aY]
theorem PY{S:SK}{L:Nat}(hS:S.length=L)(hL:0<L){nm:List UInt8}{k lo hi:Int}{ps:List (Int×Int)}:
  DX L 0 0 (Ig L nm k lo hi ps::S)=(.bD (lM nm k lo hi ps).enc,[.dead,.dead,.dead]::S):=by
 have hne:S≠[]:=by intro h;subst h;simp at hS;omega
 have h1:=BB (f:=aS) (w:=1) (fun _=>rfl) (fun _=>by simp[D.clean]) (l:=ps.map (·.1)) (j:=1) (v:=ps.length) (bs:=[.dead,.cells ps.length ((ps.map (·.1)).flatMap aS),.cells ps.length ((ps.map (·.2)).flatMap aS)]) (σ:=S) hne (by simp);have h2:=BB (f:=aS) (w:=1) (fun _=>rfl) (fun _=>by simp[D.clean]) (l:=ps.map (·.2)) (j:=2) (v:=ps.length) (bs:=[.dead,.dead,.cells ps.length ((ps.map (·.2)).flatMap aS)]) (σ:=S) hne (by simp);rw[hS]at h1 h2;simp only[cT,List.set_cons_succ,List.set_cons_zero]at h1 h2;simp[DX,Ig,hS,h1,h2,lM]
def FA(b:Bk)(x:wV):Bk×Int:=if b.an=[]then(b,8)else if si b.bG.f x=0 then(mE b x.lo x.hi fun m=>Ip b.bG.f m x,0)else(b,si b.bG.f x)
theorem anf{F:List Abs.aE}{b:Bk}{er:List Int}{nm:List UInt8}{k lo hi:Int}{ps:List (Int×Int)}{b':Bk}{e:Int}(hps:ps.length≤1000000)(hnm:nm.length≤1000000000)(hw:b.jt.length=b.an.length)(hml:b.an.length≤40)(hms:∀e∈b.an,b.bG.f.model e.m=0∧e.m.name.length≤1000000000∧e.m.bh.length≤1000000000)(hd:FA b (lM nm k lo hi ps)=(b',e))(he:e=0):
  lim T (.call false gP [.ref σ.length 6 0 0,.str nm,.aI (ps.length*2+3) (.int .i64 k::.int .i64 lo::.int .i64 hi::ps.flatMap tG)] (F::b.bw σ.length er::σ))=some (.val (.dK []) (F::b'.bw σ.length er::σ)):=by
 refine gF wY lV.eq_1 rfl (by simp) ?_;unfold FA at hd;split at hd
 case isTrue=>cases hd;cases he
 rename_i hne;split at hd
 case isFalse=>cases hd;rename_i h;exact absurd he h
 rename_i hck;cases hd;have q0:(0:Int)<(ps.length:Int)*2+3:=by omega
 have q1:(1:Int)<(ps.length:Int)*2+3:=by omega
 have q2:(2:Int)<(ps.length:Int)*2+3:=by omega
 have q3:(3:Int)≤(ps.length:Int)*2+3:=by omega
 have c1:0<b.an.length:=aL.2 hne;have hC:=fun σ=>Fl (σ:=σ) (f:=b.bG.f) (x:=lM nm k lo hi ps) hnm (by simp[lM];omega)
 simp only[hck]at hC;have hv:b.bG.f.valid=true∧b.bG.f.measure (lM nm k lo hi ps)=0:=by
  unfold si at hck;split at hck
  ·rename_i h;exact⟨h,hck⟩
  ·cases hck
 have hlp:=Qq ps;have htp:(ps.flatMap tG).take (ps.length*2)=ps.flatMap tG:=aj (by omega);have hL:=Jm (σ:=F::b.bw σ.length er::σ) hps (X:=.aI (ps.length*2+3) (.int .i64 k::.int .i64 lo::.int .i64 hi::ps.flatMap tG)) (Y:=.bD [.ref σ.length 6 0 0]) rfl rfl (nm:=nm) (k:=k) (lo:=lo) (hi:=hi) ps.length 0 (by omega);simp[-length_flatMap,-map_take,Bk.bw,Bk.cells,c1,cF,q0,q1,q2,q3];refine WL.to hL (by simp[htp]) (by simp[Ig,Bk.bw,Bk.cells]) ?_;rintro x e σ' ⟨rfl,g2,g3,g6,gu,rfl⟩;have hf:=fun S hS=>PY (S:=S) (L:=σ.length+1+1) hS (by omega) (nm:=nm) (k:=k) (lo:=lo) (hi:=hi) (ps:=ps)
 have hst:=KK (σ:=σ) (A:=[.dead,.dead,.dead]) (F:=F) (b:=b) (er:=er) (lo:=lo) (hi:=hi) (val:=fun m=>Ip b.bG.f m (lM nm k lo hi ps)) (fv:=.fn fy [] [.bD [.ref σ.length 6 0 0],.bD (lM nm k lo hi ps).enc]) rfl rfl hw hml (by
  intro i e he _;obtain⟨k1,k2,k3⟩:=hms e he;have h:=ane (σ:=σ) (A:=[.dead,.dead,.dead]) (F:=F) (er:=er) (b:=b.jX lo hi (fun m=>Ip b.bG.f m (lM nm k lo hi ps)) i) (m:=e.m) (x:=lM nm k lo hi ps) hv.1 k1 hv.2 k2 k3 hnm (by simp[lM];omega);rw[rk];have h':lim T (.call false fy ([]++[.agg [.str e.m.name,.aI e.m.bh.length (e.m.bh.flatMap aS)]]++[.bD [.ref σ.length 6 0 0],.bD (lM nm k lo hi ps).enc]) ([]::[.dead,.dead,.dead]::F::(b.jX lo hi (fun m=>Ip b.bG.f m (lM nm k lo hi ps)) i).bw σ.length er::σ))=_:=h;rw[h'];rfl)
 have hcl:=Tp (x:=lM nm k lo hi ps);have e1:(lM nm k lo hi ps).lo=lo:=aD rfl;have e2:(lM nm k lo hi ps).hi=hi:=aD rfl;simp only[Bk.bw,Bk.cells,wV.enc,e1,e2]at hst hC hf hcl;simp[-length_flatMap,-map_take,g2,g3,g6,gu,hf,hC,oO,hst,q1,q2,Bk.bw,Bk.cells,hcl,aY,e1,e2]
theorem afE{F:List Abs.aE}{b:Bk}{er:List Int}{nm:List UInt8}{k lo hi:Int}{ps:List (Int×Int)}{b':Bk}{e:Int}(hps:ps.length≤1000000)(hnm:nm.length≤1000000000)(hd:FA b (lM nm k lo hi ps)=(b',e))(he:e≠0):
  lim T (.call false gP [.ref σ.length 6 0 0,.str nm,.aI (ps.length*2+3) (.int .i64 k::.int .i64 lo::.int .i64 hi::ps.flatMap tG)] (F::b.bw σ.length er::σ))=some (.fY (rf e) (F::b.bw σ.length er::σ)):=by
 refine eh wY lV.eq_1 rfl ?_;unfold FA at hd;split at hd
 case isTrue hne =>
  cases hd;simp[-length_flatMap,-map_take,Bk.bw,Bk.cells,hne,dF,D.clean,rf]
 rename_i hne;split at hd
 case isTrue=>cases hd;exact absurd rfl he
 rename_i hck;cases hd;have q0:(0:Int)<(ps.length:Int)*2+3:=by omega
 have q1:(1:Int)<(ps.length:Int)*2+3:=by omega
 have q2:(2:Int)<(ps.length:Int)*2+3:=by omega
 have q3:(3:Int)≤(ps.length:Int)*2+3:=by omega
 have c1:0<b.an.length:=aL.2 hne;have hC:=fun σ=>Fl (σ:=σ) (f:=b.bG.f) (x:=lM nm k lo hi ps) hnm (by simp[lM];omega)
 have hM:=fun σ=>pU (σ:=σ) hck
 generalize si b.bG.f (lM nm k lo hi ps)=err at hC hM hck he ⊢;have hrc:(D.uj 311 (.agg [.int .i64 err])).clean=true:=rfl;have hlp:=Qq ps;have htp:(ps.flatMap tG).take (ps.length*2)=ps.flatMap tG:=aj (by omega);have hL:=Jm (σ:=F::b.bw σ.length er::σ) hps (X:=.aI (ps.length*2+3) (.int .i64 k::.int .i64 lo::.int .i64 hi::ps.flatMap tG)) (Y:=.bD [.ref σ.length 6 0 0]) rfl rfl (nm:=nm) (k:=k) (lo:=lo) (hi:=hi) ps.length 0 (by omega);simp[-length_flatMap,-map_take,Bk.bw,Bk.cells,c1,cF,q0,q1,q2,q3];refine WL.to hL (by simp[htp]) (by simp[Ig,Bk.bw,Bk.cells]) ?_;rintro x e σ' ⟨rfl,g2,g3,g6,gu,rfl⟩;have hf:=fun S hS=>PY (S:=S) (L:=σ.length+1+1) hS (by omega) (nm:=nm) (k:=k) (lo:=lo) (hi:=hi) (ps:=ps)
 have hcl:=Tp (x:=lM nm k lo hi ps);simp only[Bk.bw,Bk.cells,wV.enc]at hC hf hcl;simp[-length_flatMap,-map_take,g2,g3,g6,gu,hf,hC,hM,q1,q2,Bk.bw,Bk.cells,hcl,aY,rf,hrc]
end Go.Proofs.YtfgljaglidhjiaaGreatDoor
namespace Go.Book
open List(length_flatMap map_take)
open Go Go.Abs Go.Rock
def cp(l:List jb):List jb:=l.filter (·.left)
end Go.Book
namespace Go.Proofs.YtfgljaglidhjiaaGreatDoor
open List(length_flatMap map_take)
open Go Go.Abs Go.Rock Go.Book
variable {σ:SK}
theorem afC{e:jb}:lim T (.call false eS [.agg e.enc] σ)=some (.val (.bool e.left) σ):=by
 refine aA AM mm.eq_1 rfl ?_;simp[-length_flatMap,-map_take]
theorem Gz{l:List jb}{lv bi v:Nat}{G:List Abs.aE}(hG:G[bi]?=some (.cells v (l.flatMap jb.enc)))(hs:fX σ lv=some G)(hl:l.length≤1000000):∀(m i:Nat) (acc:List jb),i+m=l.length→acc.length≤i →
  WL T [1,4,7,8,9] false eI [(1,.fn eS [] []),(4,.sl σ.length 0 acc.length 0 acc.length 4),(7,.sl lv bi v 0 l.length 4),(8,.int .i64 l.length),(9,.int .i64 i)] ([.cells acc.length (acc.flatMap jb.enc)]::σ)
   (fun x e σ'=>x=.exit 0∧get e 4=.sl σ.length 0 (acc++cp (l.drop i)).length 0 (acc++cp (l.drop i)).length 4∧σ'=[.cells (acc++cp (l.drop i)).length ((acc++cp (l.drop i)).flatMap jb.enc)]::σ)
 |0,i,acc,hi,ha=>by
  refine aN eI.eq_1 ?_;have h1:¬i<l.length:=by omega
  have h2:l.drop i=[]:=aB (by omega);simp[-length_flatMap,-map_take,h1,h2,cp]
 |m+1,i,acc,hi,ha=>by
  refine aN eI.eq_1 ?_;have h1:i<l.length:=by omega
  obtain⟨e,he⟩:=gE h1;have hfl:=bS (f:=jb.enc) (w:=4) (fun _=>rfl) he;have hd:=cY he;have h4:=gD h1 (by omega);have hlen:=DS l;have q:4≤l.length*4-i*4:=by omega
  have hlt:=y7 hs;have hlv:¬σ.length=lv:=by omega
  have hC:=fun σ=>afC (σ:=σ) (e:=e)
  simp only[jb.enc]at hC;cases hc:e.left with
  |false =>
   rw[hc]at hC;have ih:=Gz hG hs hl m (i+1) acc (by omega) (by omega);simp[-length_flatMap,-map_take,h1,hs,hG,hlv,hfl,hlen,q,h4,hC,hc];exact WL.to ih (by simp) rfl fun x e' σ' hh=>by rw[hd];simpa[cp,hc]using hh
  |true =>
   rw[hc]at hC;have ih:=Gz hG hs hl m (i+1) (acc++[e]) (by omega) (by simp;omega);have hr:(acc.length+1)*56≤room:=by unfold room;omega
   have hal:=DS acc;have hat:(acc.flatMap jb.enc).take (acc.length*4)=acc.flatMap jb.enc:=aj (by omega);simp[-length_flatMap,-map_take,h1,hs,hG,hlv,hfl,hlen,q,h4,hC,hc,hr,hal,hat];exact WL.to ih (by simp) (by simp[hc]) fun x e' σ' hh=>by rw[hd];simpa[cp,hc]using hh
theorem Sw{l:List jb}{lv bi v:Nat}{G:List Abs.aE}(hG:G[bi]?=some (.cells v (l.flatMap jb.enc)))(hs:fX σ lv=some G)(hl:l.length≤1000000)(hσ:σ≠[]):
  lim T (.call false dR [.sl lv bi v 0 l.length 4,.fn eS [] []] σ)=some (.val (.aI (cp l).length ((cp l).flatMap jb.enc)) σ):=by
 refine aA uR fM.eq_1 rfl ?_;have h:=Gz (σ:=σ) hG hs hl l.length 0 [] (by omega) (by simp);simp only[List.nil_append]at h;simp[-length_flatMap,-map_take];refine WL.to h (by simp) (by simp) ?_;rintro x e σ' ⟨rfl,g4,rfl⟩;have hk:=Go.Abs.yj (f:=jb.enc) (w:=4) (fun _=>rfl) (fun _=>by simp[D.clean,aY]) (l:=cp l) (j:=0) (v:=(cp l).length) (bs:=[.cells (cp l).length ((cp l).flatMap jb.enc)]) (σ:=σ) hσ (by simp);rw[aP]at g4 ⊢;simp[-length_flatMap,-map_take,g4,hk]
theorem Et{b:Bk}{er:List Int}{S:SK}(hl:b.an.length≤1000000)(hs:fX S σ.length=some (b.bw σ.length er)):
  lim T (.call false gb [.ref σ.length 6 0 0] S)=some (.val (.aI (cp b.an).length ((cp b.an).flatMap jb.enc)) S):=by
 refine aA Cl nU.eq_1 rfl ?_;have hlt:=y7 hs;have hne:¬S.length=σ.length:=by omega
 have h:=Sw (σ:=[]::S) (l:=b.an) (lv:=σ.length) (bi:=0) (v:=b.an.length) (G:=b.bw σ.length er) (by simp[Bk.bw]) (by simp[fX,hne,hs]) hl (by simp);have hcl:D.bg ((cp b.an).flatMap jb.enc)=true:=dX (fun _=>by simp[D.clean,aY]) _;have hc6:(b.bw σ.length er)[6]?=some (.cells 0 (b.cells σ.length)):=by simp[Bk.bw]
 simp[-length_flatMap,-map_take,hne,hs,hc6,Bk.cells,h,hcl]
end Go.Proofs.YtfgljaglidhjiaaGreatDoor
namespace Go.Proofs.YtfgljaglidhjiaaGreatDoor
open List(length_flatMap map_take)
open Go Go.Abs Go.Trem
variable {σ:SK}
theorem ahn{lv:Nat}{G:List Abs.aE}(hsg:fX σ lv=some G){R:List eE}{l:List Ev}{now may sure:Int}{j:Nat}{r:eE}(hG1:G[1]?=some (.cells R.length (R.flatMap eE.enc)))(hG2:G[2]?=some (.cells l.length (l.flatMap Ev.enc)))(hl:l.length≤200)(hs:∀e∈l,e.sp.length≤2000)(hr:r.ok=true)(hn:ct now 0 1000000=true):∀(m i:Nat) (a b:Nat),i+m=l.length→a+m≤200→b+m≤200 →
  WL T [1,2,6,7,10,11,12,13,36,37,38,44,45,46] false lX [(1,.sl lv 2 l.length 0 l.length 2),(2,.int .i64 now),(6,.int .u8 may),(7,.int .u8 sure),(10,.own 0 r.enc),(11,.int .i64 a),(12,.int .i64 b),(13,.fn eg [.agg r.enc] []),
    (36,.sl lv 1 R.length 0 R.length 10),(37,.int .i64 R.length),(38,.int .i64 j),(44,.sl lv 2 l.length 0 l.length 2),(45,.int .i64 l.length),(46,.int .i64 i)] σ
   (fun x e σ'=>x=.exit 3∧σ'=σ∧get e 1=.sl lv 2 l.length 0 l.length 2∧get e 2=.int .i64 now∧get e 6=.int .u8 may∧get e 7=.int .u8 sure∧get e 10=.own 0 r.enc∧get e 11=.int .i64 (a+F5 (zE r now) (l.drop i):Nat)∧get e 12=.int .i64 (b+F5 (tM r now) (l.drop i):Nat) ∧
    get e 36=.sl lv 1 R.length 0 R.length 10∧get e 37=.int .i64 R.length∧get e 38=.int .i64 j)
 |0,i,a,b,hi,ha,hb=>by
  refine aN lX.eq_1 ?_;have h1:¬i<l.length:=by omega
  have h2:l.drop i=[]:=by simp;omega
  simp[-length_flatMap,-map_take,h1,h2,F5]
 |m+1,i,a,b,hi,ha,hb=>by
  refine aN lX.eq_1 ?_;have g1:i<l.length:=by omega
  obtain⟨e,he⟩:=gE g1;have a1:=bS (f:=Ev.enc) (w:=2) (fun _=>rfl) he;have al:(l.flatMap Ev.enc).length=l.length*2:=bT (f:=Ev.enc) (w:=2) (fun _=>rfl) l;have aq:2≤l.length*2-i*2:=by omega
  have w1:=gD g1 (by omega);have hr':=HC.1 hr;have hn':=bf.1 hn;have hse:=hs e (ai he);have w2:=fT (n:=now-r.zF) (by omega);have w3:=fT (n:=(a:Int)+1) (by omega);have w4:=fT (n:=(b:Int)+1) (by omega);have hC:∀σ,lim T (.call false ck [.aI e.sp.length (e.sp.flatMap wC.enc),.fn eg [.agg r.enc] []] σ)=some (.val (.bool (sT e.sp r.Q8)) σ):=fun σ =>
   contains_of M5 mI om (by omega) (.fn fun s _ σ=>KD)
  have hA:=fun σ=>@Iq σ e.sp r.Q8 (.fn eg [.agg r.enc] []) (.fn fun s _ σ=>KD) rfl (by omega)
  simp only[eE.enc]at hC hA;have d1:F5 (zE r now) (l.drop i)=F5 (zE r now) (l.drop (i+1))+(if zE r now e then 1 else 0):=by rw[cY he];rfl
  have d2:F5 (tM r now) (l.drop i)=F5 (tM r now) (l.drop (i+1))+(if tM r now e then 1 else 0):=by rw[cY he];rfl
  have ih:=fun a b=>ahn hsg hG1 hG2 (R:=R) (may:=may) (sure:=sure) (j:=j) hl hs hr hn m (i+1) a b (by omega)
  rw[d1,d2];by_cases c1:now<e.tick
  ·have e1:zE r now e=false:=by simp[zE,eE.act];omega
   have e2:tM r now e=false:=by simp[tM,eE.act];omega
   simp[-length_flatMap,-map_take,g1,a1,al,aq,hsg,hG1,hG2,w1,c1,e1,e2];exact WL.to (ih a b (by omega) (by omega)) (by simp) rfl fun x e σ' hh=>by simpa[e1,e2]using hh
  by_cases c2:e.tick≤now-r.zF
  ·have e1:zE r now e=false:=by simp[zE,eE.act];omega
   have e2:tM r now e=false:=by simp[tM,eE.act];omega
   simp[-length_flatMap,-map_take,g1,a1,al,aq,hsg,hG1,hG2,w1,w2,c1,c2,e1,e2];exact WL.to (ih a b (by omega) (by omega)) (by simp) rfl fun x e σ' hh=>by simpa[e1,e2]using hh
  have act:r.act now e=true:=by simp[eE.act];omega
  have e1:zE r now e=sT e.sp r.Q8:=by simp[zE,act]
  have e2:tM r now e=gU e.sp r.Q8:=by simp[tM,act]
  rw[e1,e2];have k1:∀u v:Nat,u+1+v=u+(v+1):=by intro u v;omega
  cases c3:sT e.sp r.Q8<;>cases c4:gU e.sp r.Q8<;>simp only[c3,c4]at hC hA
  ·simp[-length_flatMap,-map_take,g1,a1,al,aq,hsg,hG1,hG2,w1,w2,c1,c2,hC,hA];exact WL.to (ih a b (by omega) (by omega)) (by simp) rfl fun x e σ' hh=>by simpa[c3,c4]using hh
  ·simp[-length_flatMap,-map_take,g1,a1,al,aq,hsg,hG1,hG2,w1,w2,w4,c1,c2,hC,hA];exact WL.to (ih a (b+1) (by omega) (by omega)) (by simp) rfl fun x e σ' hh=>by simp only[k1]at hh;simpa[c3,c4]using hh
  ·simp[-length_flatMap,-map_take,g1,a1,al,aq,hsg,hG1,hG2,w1,w2,w3,c1,c2,hC,hA];exact WL.to (ih (a+1) b (by omega) (by omega)) (by simp) rfl fun x e σ' hh=>by simp only[k1]at hh;simpa[c3,c4]using hh
  ·simp[-length_flatMap,-map_take,g1,a1,al,aq,hsg,hG1,hG2,w1,w2,w3,w4,c1,c2,hC,hA];exact WL.to (ih (a+1) (b+1) (by omega) (by omega)) (by simp) rfl fun x e σ' hh=>by simp only[k1]at hh;simpa[c3,c4]using hh
theorem N4{lv:Nat}{G:List Abs.aE}(hsg:fX σ lv=some G){R:List eE}{l:List Ev}{now:Int}(hR:R.length≤20)(hG1:G[1]?=some (.cells R.length (R.flatMap eE.enc)))(hG2:G[2]?=some (.cells l.length (l.flatMap Ev.enc)))(hl:l.length≤200)(hs:∀e∈l,e.sp.length≤2000)(hr:∀r∈R,r.ok=true)(hn:ct now 0 1000000=true):∀(m j:Nat) (may sure:Int),j+m=R.length →
  WL T [1,2,6,7,36,37,38] false gN [(1,.sl lv 2 l.length 0 l.length 2),(2,.int .i64 now),(6,.int .u8 may),(7,.int .u8 sure),(36,.sl lv 1 R.length 0 R.length 10),(37,.int .i64 R.length),(38,.int .i64 j)] σ
   (fun x e σ'=>x=.exit 1∧σ'=σ∧get e 6=.int .u8 (yX (fun r=>zE r now) l (R.drop j) may)∧get e 7=.int .u8 (yX (fun r=>tM r now) l (R.drop j) sure))
 |0,j,may,sure,hj=>by
  refine aN gN.eq_1 ?_;have h1:¬j<R.length:=by omega
  have h2:R.drop j=[]:=by simp;omega
  simp[-length_flatMap,-map_take,h1,h2,yX]
 |m+1,j,may,sure,hj=>by
  refine aN gN.eq_1 ?_;have g1:j<R.length:=by omega
  obtain⟨r,hrj⟩:=gE g1;have a1:=bS (f:=eE.enc) (w:=10) (fun _=>rfl) hrj;have al:(R.flatMap eE.enc).length=R.length*10:=bT (f:=eE.enc) (w:=10) (fun _=>rfl) R;have aq:10≤R.length*10-j*10:=by omega
  have w1:=gD g1 (by omega);have hrr:=hr r (ai hrj);have ih:=fun may sure=>N4 hsg hR hG1 hG2 hl hs hr hn m (j+1) may sure (by omega)
  rw[cY hrj];simp[-length_flatMap,-map_take,g1,a1,al,aq,hsg,hG1,hG2];refine WL.to (ahn hsg hG1 hG2 (σ:=σ) (R:=R) (l:=l) (now:=now) (may:=may) (sure:=sure) (j:=j) hl hs hrr hn l.length 0 0 0 (by omega) (by omega) (by omega)) (by simp) rfl ?_;rintro x e σ' ⟨rfl,rfl,e1,e2,e6,e7,e10,e11,e12,e36,e37,e38⟩;simp only[aP,cS]at e11 e12;simp only[yX];by_cases c1:r.count≤F5 (zE r now) l
  ·by_cases c2:r.count≤F5 (tM r now) l
   ·simp[-length_flatMap,-map_take,e1,e2,e6,e7,e10,e11,e12,e36,e37,e38,c1,c2,w1];exact WL.to (ih (max may r.Q9) (max sure r.Q9)) (by simp) rfl fun x e σ' hh=>by simpa[c1,c2]using hh
   ·simp[-length_flatMap,-map_take,e1,e2,e6,e7,e10,e11,e12,e36,e37,e38,c1,c2,w1];exact WL.to (ih (max may r.Q9) sure) (by simp) rfl fun x e σ' hh=>by simpa[c1,c2]using hh
  ·by_cases c2:r.count≤F5 (tM r now) l
   ·simp[-length_flatMap,-map_take,e1,e2,e6,e7,e10,e11,e12,e36,e37,e38,c1,c2,w1];exact WL.to (ih may (max sure r.Q9)) (by simp) rfl fun x e σ' hh=>by simpa[c1,c2]using hh
   ·simp[-length_flatMap,-map_take,e1,e2,e6,e7,e10,e11,e12,e36,e37,e38,c1,c2,w1];exact WL.to (ih may sure) (by simp) rfl fun x e σ' hh=>by simpa[c1,c2]using hh
theorem Sn{lv:Nat}{G:List Abs.aE}{R:List eE}{l:List Ev}{now:Int}(hsg:fX σ lv=some G)(hG1:G[1]?=some (.cells R.length (R.flatMap eE.enc)))(hG2:G[2]?=some (.cells l.length (l.flatMap Ev.enc)))(hR:R.length≤9223372036854775807)(hl:l.length≤9223372036854775807)(hs:∀e∈l,e.sp.length≤9223372036854775807):
  lim T (.call false iK [.sl lv 1 R.length 0 R.length 10,.sl lv 2 l.length 0 l.length 2,.int .i64 now] σ) =
   some (.val (if pH R l now=0 then .dK [.int .u8 (aem R l now),.int .u8 (ae7 R l now),.int .i64 0]else .dK [.int .u8 0,.int .u8 0,.int .i64 (pH R l now)]) σ):=by
 refine aA xa ou.eq_1 rfl ?_;have hlt:=y7 hsg;have hne:¬σ.length=lv:=by omega
 have hsg':fX ([]::σ) lv=some G:=by simp[fX,hne,hsg]
 have hAR:=GU (T:=T) (enc:=eE.enc) (w:=10) (fun _=>rfl) (F:=G) (bi:=1) (v:=R.length) (l:=R) (p:=eE.ok) (fv:=.fn eP [] []) (f:=dA) (g:=fH) (h:=da) (i:=dS) rfl rfl rfl rfl hG1 hR (.fn fun r _ σ=>KJ) rfl (σ:=[]::σ) hsg';have hAE:=GU (T:=T) (enc:=Ev.enc) (w:=2) (fun _=>rfl) (F:=G) (bi:=2) (v:=l.length) (l:=l) (p:=Ev.ok) (fv:=.fn ef [] []) (f:=dc) (g:=ff) (h:=cV) (i:=dD) rfl rfl rfl rfl hG2 hl (.fn fun r hr σ=>KE (hs r hr)) rfl (σ:=[]::σ) hsg';by_cases c1:20<R.length
 ·have c1':(20:Int)<R.length:=by omega
  simp[-length_flatMap,-map_take,pH,c1,c1']
 have c1':¬(20:Int)<R.length:=by omega
 cases c2:gU R eE.ok
 ·simp[-length_flatMap,-map_take,pH,c1,c1',hAR,c2]
 by_cases c3:200<l.length
 ·have c3':(200:Int)<l.length:=by omega
  simp[-length_flatMap,-map_take,pH,c1,c1',hAR,c2,c3,c3']
 have c3':¬(200:Int)<l.length:=by omega
 cases c4:gU l Ev.ok
 ·simp[-length_flatMap,-map_take,pH,c1,c1',hAR,c2,c3,c3',hAE,c4]
 cases c5:ct now 0 1000000
 ·simp[-length_flatMap,-map_take,pH,c1,c1',hAR,c2,c3,c3',hAE,c4,gz,c5]
 have he:pH R l now=0:=by simp[pH,c1,c2,c3,c4,c5]
 rw[if_pos he];simp[-length_flatMap,-map_take,c1',hAR,c2,c3',hAE,c4,gz,c5];refine WL.to (N4 (σ:=[]::σ) (lv:=lv) (G:=G) hsg' (R:=R) (l:=l) (now:=now) (by omega) hG1 hG2 (by omega) ?_ (jZ.1 c2) c5 R.length 0 0 0 (by omega)) (by simp) rfl ?_
 ·intro e he;have:=jZ.1 c4 e he;simp only[Ev.ok,af,bf]at this;omega
 ·rintro x e σ' ⟨rfl,rfl,e6,e7⟩;simp[-length_flatMap,-map_take,e6,e7,aem,ae7]
end Go.Proofs.YtfgljaglidhjiaaGreatDoor
namespace Go.Book
open List(length_flatMap map_take)
open Go Go.Abs Go.Rock
def wG(b:Bk):Int:=if Trem.pH b.rules b.zl b.az.length=0 then Trem.aem b.rules b.zl b.az.length else 0
def Dm(b:Bk):Int:=if wG b=0 then b.k0 else if wG b=1 then b.k1 else b.k2
def ti(keep n:Int):Int:=if n<0 then -((-n*keep).tdiv 1000)else n
theorem LM{f:Trem.eE→Trem.Ev→Bool}{l:List Trem.Ev}:∀{R:List Trem.eE} {a:Int},(∀r∈R,r.ok=true)→0≤a∧a≤2→0≤Trem.yX f l R a∧Trem.yX f l R a≤2
 |[],a,_,h=>h
 |r::R,a,hr,h=>by
  have h1:=(Trem.HC.1 (hr r (by simp))).2.2.2.2;simp only[Trem.yX];refine LM (fun r' h'=>hr r' (by simp[h'])) ?_;split
  ·rcases h1 with h1 | h1<;>omega
  ·exact h
theorem IF{b:Bk}:0≤wG b∧wG b≤2:=by
 unfold wG;split
 ·rename_i h;refine LM (fun r hr=>?_) (by omega);unfold Trem.pH at h;split at h
  ·omega
  ·split at h
   ·omega
   ·rename_i h2;exact jZ.1 (by simpa using h2) r hr
 ·omega
end Go.Book
namespace Go.Proofs.YtfgljaglidhjiaaGreatDoor
open List(length_flatMap map_take)
open Go Go.Abs Go.Rock Go.Book
variable {σ:SK}
theorem KC{b:Bk}{er:List Int}{S:SK}(h1:b.rules.length≤1000000)(h2:b.zl.length≤1000000)(h3:∀e∈b.zl,e.sp.length≤1000000)(hs:fX S σ.length=some (b.bw σ.length er)):
  lim T (.call false gv [.ref σ.length 6 0 0] S)=some (.val (.int .u8 (wG b)) S):=by
 refine aA AL mj.eq_1 rfl ?_;have hlt:=y7 hs;have hne:¬S.length=σ.length:=by omega
 have h:=Sn (σ:=[]::S) (lv:=σ.length) (G:=b.bw σ.length er) (R:=b.rules) (l:=b.zl) (now:=b.az.length) (by simp[fX,hne,hs]) (by simp[Bk.bw]) (by simp[Bk.bw]) (by omega) (by omega) (fun e he=>by have:=h3 e he;omega);have hc6:(b.bw σ.length er)[6]?=some (.cells 0 (b.cells σ.length)):=by simp[Bk.bw]
 unfold wG;by_cases hc:Trem.pH b.rules b.zl b.az.length=0
 ·rw[if_pos hc]at h;simp[-length_flatMap,-map_take,hne,hs,hc6,Bk.cells,h,hc]
 ·rw[if_neg hc]at h;simp[-length_flatMap,-map_take,hne,hs,hc6,Bk.cells,h,hc]
def An(σ:SK)(bp X:D)(keep:Int)(acc rest:List Int)(x:Abs.Exit)(e:Env)(σ':SK):Prop :=
 if gU rest (fun n=>ct n (-100000) 100000)=true then
  x=.exit 0∧get e 0=bp∧get e 6=X∧get e 8=.sl σ.length 0 (acc++rest.map (ti keep)).length 0 (acc++rest.map (ti keep)).length 1∧σ'=[.cells (acc++rest.map (ti keep)).length ((acc++rest.map (ti keep)).flatMap aS)]::σ
 else x=.fY (rf 2)∧∃s,σ'=s::σ
theorem Jp{l:List Int}{keep:Int}(hk:0≤keep∧keep≤1000)(hl:l.length≤1000000){bp X:D}(hb:bp.calm=bp)(hx:X.calm=X):∀(m i:Nat) (acc:List Int),i+m=l.length→acc.length=i →
  WL T [0,6,7,8,49,50,51] false ku [(0,bp),(6,X),(7,.int .i64 keep),(8,.sl σ.length 0 i 0 i 1),(49,.aI l.length (l.flatMap aS)),(50,.int .i64 l.length),(51,.int .i64 i)] ([.cells i (acc.flatMap aS)]::σ)
   (An σ bp X keep acc (l.drop i))
 |0,i,acc,hi,ha=>by
  refine aN ku.eq_1 ?_;obtain rfl:i=l.length:=by omega
  have h5:l.drop l.length=[]:=aB (by omega);simp[-length_flatMap,-map_take,h5,An,ha,hb,hx,gU]
 |m+1,i,acc,hi,ha=>by
  refine aN ku.eq_1 ?_;have hlt:i<l.length:=by omega
  obtain⟨n,hn⟩:=gE hlt;have h4:=gD hlt (by omega);have h5:=cY hn;have a1:=bS (f:=aS) (w:=1) (fun _=>rfl) hn;simp only[aS,ea]at a1;rw[h5];have hr:(i+1)*8≤room:=by unfold room;omega
  cases hc:ct n (-100000) 100000 with
  |false =>
   simp[-length_flatMap,-map_take,hlt,a1,hb,hx,fj,hc,dF,An,gU]
  |true =>
   have hn2:=bf.1 hc;have hcl:(acc.flatMap aS).length=i:=by simp[bT (f:=aS) (w:=1) (fun _=>rfl),ha]
   have ht:(acc.flatMap aS).take i=acc.flatMap aS:=aj (by omega);have ih:=Jp hk hl hb hx m (i+1) (acc++[ti keep n]) (by omega) (by simp[ha]);have fin:∀x e σ',An σ bp X keep (acc++[ti keep n]) (l.drop (i+1)) x e σ'→An σ bp X keep acc (n::l.drop (i+1)) x e σ':=fun x e σ' hh=>by
    simp only[An,gU,jO,hc,Bool.true_and,aO,kj,dH]at hh ⊢;exact hh
   by_cases hneg:n<0
   ·have e0:IntKind.i64.wrap (-n) = -n:=fT (by omega);have p1:0 ≤ -n*keep:=ft (by omega) hk.1;have p2 : -n*keep≤100000*1000:=lT (by omega) hk.2 hk.1 (by omega);have e1:IntKind.i64.wrap (-n*keep) = -n*keep:=fT (by omega);have e2:(-n*keep).tdiv 1000 = -n*keep / 1000:=bA p1;have e3:IntKind.i64.wrap (-n*keep / 1000) = -n*keep / 1000:=fT (by omega);have e4:IntKind.i64.wrap (-(-n*keep / 1000)) = -(-n*keep / 1000):=fT (by omega);have e5:ti keep n = -(-n*keep / 1000):=by rw[ti,if_pos hneg,e2]
    rw[e5]at ih fin;generalize hq : -n*keep=q at e1 e2 e3 e4 ih fin;simp[-length_flatMap,-map_take,hlt,a1,hb,hx,fj,hc,cF,hneg,e0,hq,e1,e2,e3,e4,hr,h4,hcl,ht];exact WL.to ih (by simp) (by simp) fin
   ·have e5:ti keep n=n:=by rw[ti,if_neg hneg]
    rw[e5]at ih fin;simp[-length_flatMap,-map_take,hlt,a1,hb,hx,fj,hc,cF,hneg,hr,h4,hcl,ht];exact WL.to ih (by simp) (by simp) fin
theorem J0(l:List (List Int)):(l.flatMap pE).length=l.length:=by have:=bT (f:=pE) (w:=1) (fun _=>rfl) l;omega
theorem Gs{bs:List Abs.aE}:lim T (.call true gX [.aG] (bs::σ))=some (.val (.sl σ.length (bs.length+1) 0 0 0 1) ((bs++[.cells 0 [],.cells 0 []])::σ)):=by
 refine wF vB j8.eq_1 rfl ?_;simp[-length_flatMap,-map_take]
theorem It{bs:List Abs.aE}{l:List (List Int)}(hne:l≠[])(hl:l.length≤1000000):lim T (.call true gX [.aI l.length (l.flatMap pE)] (bs::σ)) =
  some (.val (.sl σ.length (bs.length+1) 1 0 l.length 1) ((bs++[.cells 0 [],.cells 1 (l.flatMap pE)])::σ)):=by
 refine wF vB j8.eq_1 rfl ?_;have h7:l.length*24≤room:=by unfold room;omega
 simp[-length_flatMap,-map_take,hne,J0,h7]
theorem Nb:F7=pE:=rfl
structure Sz(b:Bk):Prop where
 cq:b.bG.cq.length≤1000000000
 ar:b.bG.ar.length≤1000000
 ms:∀e∈b.an,e.m.name.length≤1000000000∧e.m.bh.length≤1000000000
theorem RR(b:cz)(m:cI)(az:List (List Int)):∃x y,zy b m az=.agg [x,y]∧x.clean=true∧y.clean=true:=by
 unfold zy;split
 ·split
  ·refine⟨_,_,rfl,?_,?_⟩<;>simp[dX (f:=yy) (fun s=>by simp[yy,dX (f:=Rock.aE.enc) (fun _=>by simp[D.clean])])]
  ·exact⟨_,_,rfl,rfl,rfl⟩
 ·exact⟨_,_,rfl,rfl,rfl⟩
theorem Jo{b:Bk}{er:List Int}{ls:List jb}{az:List (List Int)}(ht:b.bG.cq≠[])(hz:Sz b)(hm:∀e∈ls,e∈b.an)(hl:ls.length≤1000000)(hp:az.length≤1000000000)(hpl:∀l∈az,l.length≤1000000000){S:SK}(hs:fX S σ.length=some (b.bw σ.length er)):∀(m i:Nat),i+m=ls.length →
  WL T [0,11,80,81,82] false kz [(0,.ref σ.length 6 0 0),(11,.aI az.length (az.flatMap pE)),(80,.aI ls.length (ls.flatMap jb.enc)),(81,.int .i64 ls.length),(82,.int .i64 i)] S
   (fun x e σ'=>σ'=S∧if db (fun e=>ur b.bG e.m az) (ls.drop i)=0 then x=.exit 2∧get e 0=.ref σ.length 6 0 0∧get e 11=.aI az.length (az.flatMap pE)else x=.fY (rf (db (fun e=>ur b.bG e.m az) (ls.drop i))))
 |0,i,hi=>by
  refine aN kz.eq_1 ?_;have h1:¬i<ls.length:=by omega
  have h2:ls.drop i=[]:=aB (by omega);simp[-length_flatMap,-map_take,h1,h2,db]
 |m+1,i,hi=>by
  refine aN kz.eq_1 ?_;have h1:i<ls.length:=by omega
  obtain⟨e,he⟩:=gE h1;have hem:=hm e (ai he);obtain⟨k1,k2⟩:=hz.ms e hem;have hfl:=bS (f:=jb.enc) (w:=4) (fun _=>rfl) he;have hd:=cY he;have h4:=gD h1 (by omega);have hlt:=y7 hs;have hne:S≠[]:=by intro h;subst h;simp at hlt
  have hP:=Sp (σ:=S) (b:=b.bG) (m:=e.m) (az:=az) (wq:=nl bH.enc b.bG.ar) um hz.cq (by have:=hz.ar;omega) k1 k2 hp hpl hne;have hc6:(b.bw σ.length er)[6]?=some (.cells 0 (b.cells σ.length)):=by simp[Bk.bw]
  obtain⟨px,py,hx,hx1,hx2⟩:=RR b.bG e.m az;rw[hx,Nb]at hP;have ih:=Jo ht hz hm hl hp hpl hs m (i+1) (by omega);have hlt':=eK (f:=Rw.enc) ht;rw[hd,db];by_cases hc:ur b.bG e.m az=0
  ·rw[hc]at hP;simp[-length_flatMap,-map_take,h1,hfl,h4,hs,hc6,Bk.cells,hlt',hP,hx1,hx2,oO,hc,aY];exact WL.to ih (by simp) rfl fun x e' σ' hh=>by simpa[hc]using hh
  ·have hM:=pU (σ:=S) hc;simp[-length_flatMap,-map_take,h1,hfl,h4,hs,hc6,Bk.cells,hlt',hP,hx1,hx2,hM,hc,aY,rf]
def aeD(b:Bk)(az:List (List Int)):Bk:={b with az:=az }
def vO(b:Bk)(l:List Int):List (List Int):=b.az++[l.map (ti (Dm b))]
def yR(b:Bk)(l:List Int):Bk×Int :=
 if cp b.an=[]then(b,8)else if b.az.length<200 then(if l.length=b.bG.ar.length then(if gU l (fun n=>ct n (-100000) 100000)=true then
  (if db (fun e=>ur b.bG e.m (vO b l)) (cp b.an)=0 then(aeD b (vO b l),0)else(b,db (fun e=>ur b.bG e.m (vO b l)) (cp b.an)))else(b,2))else(b,1))else(b,3)
theorem adS{f:D→SK→D×SK}{a b:List D}{S:SK}:cr.frzL f (a++b) S=((cr.frzL f a S).1++(cr.frzL f b (cr.frzL f a S).2).1,(cr.frzL f b (cr.frzL f a S).2).2):=by
 induction a generalizing S with
 |nil=>simp
 |cons d a ih=>simp[ih]
theorem Tq{l:List (List Int)}:D.bg (l.flatMap pE)=true:=dX (f:=pE) (fun x=>by simp[pE,D.clean,aY]) l
theorem IP{S:SK}{L v n:Nat}(hS:S.length=L)(hL:0<L){az:List (List Int)}(hn:n=az.length+1){r:List Int}{M:Abs.aE}:
  cr 0 16 (.sl L 2 v 0 n 1) ([.cells r.length (r.flatMap aS),M,.cells v (az.flatMap pE++[.sl L 0 r.length 0 r.length 1])]::S)=(.aI n ((az++[r]).flatMap pE),[.dead,M,.dead]::S):=by
 have hne:S≠[]:=by intro h;subst h;simp at hS;omega
 subst hn;have hc:cells? ([Abs.aE.cells r.length (r.flatMap aS),M,.cells v (az.flatMap pE++[.sl L 0 r.length 0 r.length 1])]::S) L 2 v=some (az.flatMap pE++[.sl L 0 r.length 0 r.length 1]):=by simp[hS]
 rw[adT hL hc];have h3:¬L≤0:=by omega
 have h1:=Dh (l:=0) (n:=15) (l':=L) (i:=0) (v:=r.length) (off:=0) (m:=r.length) (w:=1) (σ:=[Abs.aE.cells r.length (r.flatMap aS),M,.dead]::S) (cs:=r.flatMap aS) h3 (by simp[hS]) (by omega);have ht:(r.flatMap aS).take r.length=r.flatMap aS:=aj (by rw[xm];omega);have hp:=J0 az;have ht2:(az.flatMap pE).take (az.length+1)=az.flatMap pE:=aj (by omega);simp[hS,adS,Tq,h1,ht,hp,ht2,aY,pE,List.take_append]
theorem afR{F:List Abs.aE}{b:Bk}{er:List Int}{nm:List UInt8}{l:List Int}{b':Bk}{e:Int}(ht:b.bG.cq≠[])(hz:Sz b)(hll:l.length≤1000000)(hml:b.an.length≤40)(h1:b.rules.length≤1000000)(h2:b.zl.length≤1000000)(h3:∀e∈b.zl,e.sp.length≤1000000)(hk:Trem.rB b.k0 b.k1 b.k2=true)(hpl:∀l∈b.az,l.length≤1000000000)(hd:yR b l=(b',e))(he:e=0):
  lim T (.call false gi [.ref σ.length 6 0 0,.str nm,.aI l.length (l.flatMap aS)] (F::b.bw σ.length er::σ))=some (.val (.dK []) (F::b'.bw σ.length er::σ)):=by
 refine gF wj kS.eq_1 rfl (by simp) ?_;unfold yR at hd;split at hd
 case isTrue=>cases hd;cases he
 rename_i c1;split at hd
 case isFalse=>cases hd;cases he
 rename_i c2;split at hd
 case isFalse=>cases hd;cases he
 rename_i c3;split at hd
 case isFalse=>cases hd;cases he
 rename_i c4;split at hd
 case isFalse=>cases hd;rename_i h;exact absurd he h
 rename_i c5;cases hd;obtain⟨kp0,kp,hkp,hkp2,hkp3⟩:∃c kp:Int,wG b=c∧Dm b=kp∧((c=0∧kp=b.k0)∨(c=1∧kp=b.k1)∨(c=2∧kp=b.k2)):=by
  refine⟨_,_,rfl,rfl,?_⟩;have:=IF (b:=b);unfold Dm;split
  ·rename_i h;exact .inl ⟨h,rfl⟩
  ·split
   ·rename_i h;exact .inr (.inl ⟨h,rfl⟩)
   ·refine .inr (.inr ⟨by omega,rfl⟩)
 have hkb:0≤kp∧kp≤1000:=by
  simp only[Trem.rB,af,av]at hk;rcases hkp3 with⟨_,rfl⟩ | ⟨_,rfl⟩ | ⟨_,rfl⟩<;>omega
 have q1:0<(cp b.an).length:=aL.2 c1;have q2:(b.az.length:Int)<200:=by omega
 have hC:=fun S=>KC (σ:=σ) (b:=b) (er:=er) (S:=S) h1 h2 h3
 have hLf:=fun S=>Et (σ:=σ) (b:=b) (er:=er) (S:=S) (by omega)
 have hR:=Jp (σ:=F::b.bw σ.length er::σ) hkb hll (bp:=.ref σ.length 6 0 0) (X:=.aI (cp b.an).length ((cp b.an).flatMap jb.enc)) rfl rfl l.length 0 [] (by omega) rfl;rw[aP]at hR;rw[hkp]at hC;simp only[Bk.bw,Bk.cells]at hC hLf;have hw:(b.bG.ar.length:Int)=(l.length:Int):=by omega
 rcases hkp3 with⟨rfl,e2⟩ | ⟨rfl,e2⟩ | ⟨rfl,e2⟩
 all_goals
  subst e2;simp[-length_flatMap,-map_take,Bk.bw,Bk.cells,hLf,q1,q2,hw,hC,cF];refine WL.to hR (by simp) (by simp[Bk.bw,Bk.cells]) ?_;intro x e σ' hq;simp only[An,if_pos c4,List.nil_append]at hq;obtain⟨rfl,g0,g6,g8,rfl⟩:=hq;have hnp:vO b l=b.az++[l.map (ti (Dm b))]:=rfl;rw[hkp2]at hnp;rw[hnp]at c5 ⊢;generalize hrs:l.map (ti _)=rs at g8 c5 ⊢;have hrl:rs.length=l.length:=by rw[← hrs];simp
  have hroom:(b.az.length+1)*24≤room:=by unfold room;omega
  have h24:24≤room:=by unfold room;omega
  have hpel:=J0 b.az;have htk:(b.az.flatMap pE).take b.az.length=b.az.flatMap pE:=aj (by omega);have hfr:=fun S v hS=>IP (S:=S) (L:=σ.length+1+1) (v:=v) (n:=b.az.length+1) hS (by omega) (az:=b.az) rfl (r:=rs) (M:=.cells 0 [])
  have hLp:=Jo (σ:=σ) (b:=b) (er:=er) (ls:=cp b.an) (az:=b.az++[rs]) ht hz (fun e he=>(di.1 he).1) (by have:=jk (fun e:jb=>e.left) b.an;simp only[cp];omega) (by simp;omega) (by
   intro r hr;rcases bx.1 hr with hr | hr
   ·exact hpl r hr
   ·simp at hr;subst hr;omega) (S:=[.dead,.cells 0 [],.dead]::F::b.bw σ.length er::σ) (by simp[fX]) (cp b.an).length 0 (by omega)
  rw[aP]at hLp;have hcl:∀k,(D.aI k (b.az.flatMap pE++pE rs)).clean=true:=fun k=>by simp[CG,Tq,pE,aY]
  have hcl0:∀k,(D.aI k (pE rs)).clean=true:=fun k=>by simp[pE,aY]
  have hnl2:=eK (f:=pE) (l:=b.az++[rs]) (by simp);simp only[bz,aJ,bF,iQ,aW,dN,dL]at hnl2;by_cases hp0:b.az=[]
  ·have hnl:nl pE b.az=.aG:=by simp[nl,hp0]
   have hfr':=hfr;simp only[hp0,bF,dN,List.nil_append,cS]at hfr';simp[-length_flatMap,-map_take,g0,g6,g8,Bk.bw,Bk.cells,hnl,Gs,h24,hfr'];refine WL.to hLp (by simp[hp0]) (by simp[Bk.bw,Bk.cells,hnl]) ?_;rintro x e σ' ⟨rfl,hh⟩;rw[c5,if_pos rfl]at hh;obtain⟨rfl,j0,j11⟩:=hh;simp[-length_flatMap,-map_take,j0,j11,Bk.bw,Bk.cells,aeD,hnl,hnl2,hcl]
  ·simp[-length_flatMap,-map_take,g0,g6,g8,Bk.bw,Bk.cells,eK hp0,It hp0 (by omega:b.az.length≤1000000),hroom,hpel,htk,hfr];refine WL.to hLp (by simp) (by simp[Bk.bw,Bk.cells,eK hp0]) ?_;rintro x e σ' ⟨rfl,hh⟩;rw[c5,if_pos rfl]at hh;obtain⟨rfl,j0,j11⟩:=hh;simp[-length_flatMap,-map_take,j0,j11,Bk.bw,Bk.cells,aeD,eK hp0,hnl2,hcl]
theorem SW{F:List Abs.aE}{b:Bk}{er:List Int}{nm:List UInt8}{l:List Int}{b':Bk}{e:Int}(ht:cp b.an≠[]→b.bG.cq≠[])(hz:Sz b)(hll:l.length≤1000000)(hml:b.an.length≤40)(h1:b.rules.length≤1000000)(h2:b.zl.length≤1000000)(h3:∀e∈b.zl,e.sp.length≤1000000)(hk:Trem.rB b.k0 b.k1 b.k2=true)(hpl:∀l∈b.az,l.length≤1000000000)(hd:yR b l=(b',e))(he:e≠0):
  lim T (.call false gi [.ref σ.length 6 0 0,.str nm,.aI l.length (l.flatMap aS)] (F::b.bw σ.length er::σ))=some (.fY (rf e) (F::b.bw σ.length er::σ)):=by
 refine eh wj kS.eq_1 rfl ?_;have hLf:=fun S=>Et (σ:=σ) (b:=b) (er:=er) (S:=S) (by omega)
 simp only[Bk.bw,Bk.cells]at hLf;unfold yR at hd;split at hd
 case isTrue c1 =>
  cases hd;simp[-length_flatMap,-map_take,Bk.bw,Bk.cells,hLf,c1,dF,D.clean,rf]
 rename_i c1;have ht:=ht c1;have q1:0<(cp b.an).length:=aL.2 c1;split at hd
 case isFalse c2 =>
  cases hd;have q2:¬(b.az.length:Int)<200:=by omega
  simp[-length_flatMap,-map_take,Bk.bw,Bk.cells,hLf,q1,q2,cF,dF,D.clean,rf]
 rename_i c2;have q2:(b.az.length:Int)<200:=by omega
 split at hd
 case isFalse c3 =>
  cases hd;have q3:((l.length:Int) == (b.bG.ar.length:Int))=false:=by simp;omega
  simp[-length_flatMap,-map_take,Bk.bw,Bk.cells,hLf,q1,q2,q3,cF,dF,D.clean,rf]
 rename_i c3;obtain⟨kp0,kp,hkp,hkp2,hkp3⟩:∃c kp:Int,wG b=c∧Dm b=kp∧((c=0∧kp=b.k0)∨(c=1∧kp=b.k1)∨(c=2∧kp=b.k2)):=by
  refine⟨_,_,rfl,rfl,?_⟩;have:=IF (b:=b);unfold Dm;split
  ·rename_i h;exact .inl ⟨h,rfl⟩
  ·split
   ·rename_i h;exact .inr (.inl ⟨h,rfl⟩)
   ·refine .inr (.inr ⟨by omega,rfl⟩)
 have hkb:0≤kp∧kp≤1000:=by
  simp only[Trem.rB,af,av]at hk;rcases hkp3 with⟨_,rfl⟩ | ⟨_,rfl⟩ | ⟨_,rfl⟩<;>omega
 have hC:=fun S=>KC (σ:=σ) (b:=b) (er:=er) (S:=S) h1 h2 h3
 have hR:=Jp (σ:=F::b.bw σ.length er::σ) hkb hll (bp:=.ref σ.length 6 0 0) (X:=.aI (cp b.an).length ((cp b.an).flatMap jb.enc)) rfl rfl l.length 0 [] (by omega) rfl;rw[aP]at hR;rw[hkp]at hC;simp only[Bk.bw,Bk.cells]at hC;have hw:(b.bG.ar.length:Int)=(l.length:Int):=by omega
 split at hd
 case isFalse c4 =>
  cases hd;have c4':¬gU l (fun n=>ct n (-100000) 100000)=true:=c4;rcases hkp3 with⟨rfl,e2⟩ | ⟨rfl,e2⟩ | ⟨rfl,e2⟩
  all_goals
   subst e2;simp[-length_flatMap,-map_take,Bk.bw,Bk.cells,hLf,q1,q2,hw,hC,cF];refine WL.to hR (by simp) (by simp[Bk.bw,Bk.cells]) ?_;intro x e σ' hq;simp only[An,if_neg c4']at hq;obtain⟨rfl,s,rfl⟩:=hq;simp[Bk.bw,Bk.cells,D.clean,rf]
 rename_i c4;split at hd
 case isTrue=>cases hd;exact absurd rfl he
 rename_i c5;cases hd;have hM:=fun S=>pU (σ:=S) c5
 have he':=c5;rcases hkp3 with⟨rfl,e2⟩ | ⟨rfl,e2⟩ | ⟨rfl,e2⟩
 all_goals
  subst e2;simp[-length_flatMap,-map_take,Bk.bw,Bk.cells,hLf,q1,q2,hw,hC,cF];refine WL.to hR (by simp) (by simp[Bk.bw,Bk.cells]) ?_;intro x e σ' hq;simp only[An,if_pos c4,List.nil_append]at hq;obtain⟨rfl,g0,g6,g8,rfl⟩:=hq;have hnp:vO b l=b.az++[l.map (ti (Dm b))]:=rfl;rw[hkp2]at hnp;rw[hnp]at c5 ⊢;generalize hrs:l.map (ti _)=rs at g8 c5 ⊢;have hrl:rs.length=l.length:=by rw[← hrs];simp
  have hroom:(b.az.length+1)*24≤room:=by unfold room;omega
  have h24:24≤room:=by unfold room;omega
  have hpel:=J0 b.az;have htk:(b.az.flatMap pE).take b.az.length=b.az.flatMap pE:=aj (by omega);have hfr:=fun S v hS=>IP (S:=S) (L:=σ.length+1+1) (v:=v) (n:=b.az.length+1) hS (by omega) (az:=b.az) rfl (r:=rs) (M:=.cells 0 [])
  have hLp:=Jo (σ:=σ) (b:=b) (er:=er) (ls:=cp b.an) (az:=b.az++[rs]) ht hz (fun e he=>(di.1 he).1) (by have:=jk (fun e:jb=>e.left) b.an;simp only[cp];omega) (by simp;omega) (by
   intro r hr;rcases bx.1 hr with hr | hr
   ·exact hpl r hr
   ·simp at hr;subst hr;omega) (S:=[.dead,.cells 0 [],.dead]::F::b.bw σ.length er::σ) (by simp[fX]) (cp b.an).length 0 (by omega)
  rw[aP]at hLp;have hcl:∀k,(D.aI k (b.az.flatMap pE++pE rs)).clean=true:=fun k=>by simp[CG,Tq,pE,aY]
  have hcl0:∀k,(D.aI k (pE rs)).clean=true:=fun k=>by simp[pE,aY]
  have hnl2:=eK (f:=pE) (l:=b.az++[rs]) (by simp);simp only[bz,aJ,bF,iQ,aW,dN,dL]at hnl2;generalize herr:db (fun e=>ur b.bG e.m (b.az++[rs])) (cp b.an)=err at c5 ⊢;have hrc:(D.uj 311 (.agg [.int .i64 err])).clean=true:=rfl;by_cases hp0:b.az=[]
  ·have hnl:nl pE b.az=.aG:=by simp[nl,hp0]
   have hfr':=hfr;simp only[hp0,bF,dN,List.nil_append,cS]at hfr';simp[-length_flatMap,-map_take,g0,g6,g8,Bk.bw,Bk.cells,hnl,Gs,h24,hfr'];refine WL.to hLp (by simp[hp0]) (by simp[Bk.bw,Bk.cells,hnl]) ?_;rintro x e σ' ⟨rfl,hh⟩;rw[herr,if_neg c5]at hh;subst hh;simp[Bk.bw,Bk.cells,rf,hrc,hnl]
  ·simp[-length_flatMap,-map_take,g0,g6,g8,Bk.bw,Bk.cells,eK hp0,It hp0 (by omega:b.az.length≤1000000),hroom,hpel,htk,hfr];refine WL.to hLp (by simp) (by simp[Bk.bw,Bk.cells,eK hp0]) ?_;rintro x e σ' ⟨rfl,hh⟩;rw[herr,if_neg c5]at hh;subst hh;simp[Bk.bw,Bk.cells,rf,hrc,eK hp0]
end Go.Proofs.YtfgljaglidhjiaaGreatDoor
set_option maxRecDepth 100000
namespace Go.Proofs.YtfgljaglidhjiaaGreatDoor
open List(length_flatMap map_take)
open Go Go.Abs Go.Rock
variable {σ:SK}
def xJ(t:Int×Int×Int):List D:=[.int .i64 t.1,.int .i64 t.2.1,.int .i64 t.2.2]
theorem ahh(l:List (Int×Int×Int)):(l.flatMap xJ).length=l.length*3:=bT (f:=xJ) (w:=3) (fun _=>rfl) l
end Go.Proofs.YtfgljaglidhjiaaGreatDoor
set_option maxRecDepth 100000
namespace Go.Proofs.YtfgljaglidhjiaaGreatDoor
open List(length_flatMap map_take)
open Go Go.Abs Go.Rock
variable {σ:SK}
theorem QU{b:cz}{x:wa}{n:Nat}(h:Bv b)(hw:0≤x.rD∧x.rD≤255):
  lim T (.call false l9 [.agg [.int .i64 b.f.x,.int .i64 b.f.y,.int .i64 b.f.z,.int .i64 b.f.k,.aI b.cq.length (b.cq.flatMap Rw.enc),.int .i64 b.bJ,.int .i64 b.lift,.int .i64 b.deep,.aI b.ar.length (b.ar.flatMap bH.enc)],.agg x.enc,.int .i64 n] σ)=some (.val (.int .i64 (uw b n x)) σ):=by
 refine aA CY oX.eq_1 rfl ?_;have hs:=fun σ=>za (σ:=σ) h
 have hz:=h.sz;have hn:=h.n;have hwl:=h.ar;have w1:=fT (n:=x.rD) (by omega);have w2:=fT (n:=(b.n:Int)-1) (by omega);have w3:=fT (n:=(b.ar.length:Int)-1) (by omega);unfold uw;cases c1:ct x.rD 1 4
 ·simp[-length_flatMap,-map_take,dM,w1,c1]
 by_cases c2:x.lo < -10000000000
 ·simp[-length_flatMap,-map_take,dM,w1,c1,c2]
 by_cases c3:x.hi<x.lo
 ·simp[-length_flatMap,-map_take,dM,w1,c1,c2,c3]
 by_cases c4:10000000000<x.hi
 ·simp[-length_flatMap,-map_take,dM,w1,c1,c2,c3,c4]
 have hsz:b.size=(b.n:Int):=hz;by_cases c5:x.rD=1
 ·cases c6:ct x.tick 0 n
  ·simp[-length_flatMap,-map_take,dM,w1,w2,show ct 1 1 4=true from rfl,c2,c3,c4,c5,c6,hs,cK,bu]
  ·cases c7:ct x.idx 0 ((b.n:Int)-1)<;>
    simp[-length_flatMap,-map_take,dM,w1,w2,show ct 1 1 4=true from rfl,c2,c3,c4,c5,c6,c7,hs,hsz,cK,bu]
 ·cases c6:ct x.tick 1 n
  ·simp[-length_flatMap,-map_take,dM,w1,w3,c1,c2,c3,c4,c5,c6,cK,bu]
  ·cases c7:ct x.idx 0 ((b.ar.length:Int)-1)<;>
    simp[-length_flatMap,-map_take,dM,w1,w3,c1,c2,c3,c4,c5,c6,c7,cK,bu]
theorem afN{lo hi n:Int}(h1 : -10000000000≤lo∧lo≤10000000000)(h2 : -10000000000≤hi∧hi≤10000000000)(hn : -100000000000000≤n∧n≤100000000000000):
  lim T (.call false nA [.agg [.int .i64 lo,.int .i64 hi],.int .i64 n] σ)=some (.val (.int .i64 (vN lo hi n)) σ):=by
 refine aA DF qG.eq_1 rfl ?_;have w1:=fT (n:=n-hi) (by omega);have w2:=fT (n:=n-lo) (by omega);have w3:=fT (n:=max 0 (n-hi)+min 0 (n-lo)) (by omega);simp[-length_flatMap,-map_take,w1,w2,w3,vN]
theorem SY{y:Rock.aE}(h1:0≤y.m∧y.m≤1000000)(h2:0≤y.h∧y.h≤10000000000):lim T (.call false iU [.agg y.enc] σ)=some (.val (.int .i64 y.Fi) σ):=by
 refine aA Co nY.eq_1 rfl ?_;unfold Rock.aE.Fi;by_cases c:y.m=0
 ·simp[-length_flatMap,-map_take,c]
 ·have e:y.h.tdiv y.m=y.h / y.m:=bA h2.1;have b1:0≤y.h / y.m∧y.h / y.m≤y.h:=⟨Int.ediv_nonneg h2.1 h1.1,Int.ediv_le_self _ h2.1⟩;have w1:=fT (n:=y.h.tdiv y.m) (by omega);simp[-length_flatMap,-map_take,c,w1]
theorem Jl:lim T (.call false uh [] σ)=some (.val (.agg [.iX,.iX,.fn kE [] [],.fn iU [] [],.fn jF [] []]) σ):=by
 refine aA Jv wK.eq_1 rfl ?_;simp[-length_flatMap,-map_take]
theorem afd{y:Rock.aE}(h1:0≤y.m∧y.m≤1000000)(h2:0≤y.h∧y.h≤10000000000):0≤y.Fi∧y.Fi≤10000000000:=by
 unfold Rock.aE.Fi;split
 ·omega
 ·rw[bA h2.1];have b1:0≤y.h / y.m∧y.h / y.m≤y.h:=⟨Int.ediv_nonneg h2.1 h1.1,Int.ediv_le_self _ h2.1⟩;omega
theorem J6{b:cz}{m:cI}{r:RunT}{n:Nat}{x:wa}(h:Fv b m)(hr:Ks b n r.1 r.2)(hx:Rdv b n x):0≤uQ b m r x∧uQ b m r x≤1000000000000:=by
 unfold uQ;split
 ·rename_i h1;obtain⟨p1,p2,p3⟩:=hx.p h1;have hz:=h.bv.sz;obtain⟨s1,s2⟩:=amQ hr (t:=x.tick.toNat) (by omega);rw[s1];have:=J2 h s2 (i:=x.idx.toNat) (by unfold cz.size at p3;omega);simp only[gT];omega
 ·rename_i h1;obtain⟨p1,p2,p3⟩:=hx.y h1;obtain⟨y1,y2⟩:=aeK hr (t:=x.tick.toNat-1) (by omega);have y3:=am3 y2 (w:=x.idx.toNat) (by omega);obtain⟨g1,g2,g3⟩:=y2.ok _ (ai y3);rw[y1];simp only[gT,Rock.aE.Mn];have:=afd g1 g2;split
  ·omega
  ·split<;>omega
theorem afT{b:cz}{m:cI}{r:RunT}{n:Nat}{x:wa}(h:Fv b m)(hr:Ks b n r.1 r.2)(hx:Rdv b n x)(hn:n≤200):
  lim T (.call false kY [.agg [.int .i64 b.f.x,.int .i64 b.f.y,.int .i64 b.f.z,.int .i64 b.f.k,.aI b.cq.length (b.cq.flatMap Rw.enc),.int .i64 b.bJ,.int .i64 b.lift,.int .i64 b.deep,.aI b.ar.length (b.ar.flatMap bH.enc),.str m.name,.aI m.bh.length (m.bh.flatMap aS)],.agg [.aI r.1.length (r.1.flatMap yy),.aI r.2.length (r.2.flatMap yy)],.agg x.enc] σ)=some (.val (.int .i64 (uQ b m r x)) σ):=by
 refine aA Cs oc.eq_1 rfl ?_;unfold uQ;have hsl:=hr.sl;have hyl:=hr.yl;by_cases h1:x.rD=1
 ·obtain⟨p1,p2,p3⟩:=hx.p h1;have hz:=h.bv.sz;obtain⟨s1,s2⟩:=amQ hr (t:=x.tick.toNat) (by omega);have hP:=fun σ=>Gw (σ:=σ) h s2 (i:=x.idx.toNat) (by unfold cz.size at p3;omega)
  rw[eO p2]at hP;have a1:=ae1 s1;have e2:x.tick<((n:Int)+1):=by omega
  rw[s1];simp[-length_flatMap,-map_take,h1,hsl,p1.1,e2,a1,hP]
 ·obtain⟨p1,p2,p3⟩:=hx.y h1;obtain⟨y1,y2⟩:=aeK hr (t:=x.tick.toNat-1) (by omega);have y3:=am3 y2 (w:=x.idx.toNat) (by omega);obtain⟨g1,g2,g3⟩:=y2.ok _ (ai y3);have a1:=ae1 y1;have a4:=bS (f:=aE.enc) (w:=3) (fun _=>rfl) y3;have hyw:=y2.len;have w1:=fT (n:=x.tick-1) (by omega);have e1:0≤x.tick-1:=by omega
  have e2:x.tick-1<(n:Int):=by omega
  have e3:(x.tick-1).toNat=x.tick.toNat-1:=by omega
  have hw:=hx.rD;rw[if_neg h1,y1];have hA:=fun σ=>afV (σ:=σ) (x:=bP (rowAt r.2 (x.tick.toNat-1)) x.idx.toNat)
  have hK:=fun σ=>S3 (σ:=σ) (x:=bP (rowAt r.2 (x.tick.toNat-1)) x.idx.toNat)
  simp only[aE.enc]at hA hK;rcases(show x.rD=2∨x.rD=3∨x.rD=4 by omega)with h2 | h2 | h2
  ·simp[-length_flatMap,-map_take,h2,hyl,w1,p1.1,e1,e2,e3,a1,a4,Jl,hA,hyw,p2,p3,Rock.aE.Mn]
  ·have hW:=fun σ=>SY (σ:=σ) g1 g2
   simp only[aE.enc]at hW;simp[-length_flatMap,-map_take,h2,hyl,w1,p1.1,e1,e2,e3,a1,a4,Jl,hW,hyw,p2,p3,Rock.aE.Mn]
  ·simp[-length_flatMap,-map_take,h2,hyl,w1,p1.1,e1,e2,e3,a1,a4,Jl,hK,hyw,p2,p3,Rock.aE.Mn]
end Go.Proofs.YtfgljaglidhjiaaGreatDoor
set_option maxRecDepth 100000
namespace Go.Proofs.YtfgljaglidhjiaaGreatDoor
open List(length_flatMap map_take)
open Go Go.Abs Go.Rock
variable {σ:SK}
theorem Qs{l:List wa}{j:Nat}{m:wa}(h:l[j]?=some m):((l.flatMap wa.enc).drop (j*5)).take 5=m.enc :=
 bS (f:=wa.enc) (w:=5) (fun _=>rfl) h
theorem QZ{A B:Abs.aE}:lim T (.xU fI [.ref σ.length 2 0 0] (some (.uj 262 (.agg []))) ([A,B,.cells 0 [.int .i64 0]]::σ))=some (.val (.dK []) ([A,B,.cells 0 [.int .i64 9]]::σ)):=by
 refine Bj yK pM.eq_1 rfl (by simp[-length_flatMap,-map_take,sf];exact⟨rfl,rfl⟩) ?_;simp[-length_flatMap,-map_take]
theorem M0(l:List wa):D.bg (l.flatMap wa.enc)=true:=dX (fun x=>by simp) l
theorem JD(l:List (List Int)):D.bg (l.flatMap F7)=true:=dX (fun x=>by simp[F7,D.clean,aY]) l
theorem Bu{l0 L i w n:Nat}{S:SK}(hn:0<n)(h:¬L≤l0)(hc:cells? S L i 0=some []):cr l0 n (.sl L i 0 0 0 w) S=(.aI 0 [],aV S L i .dead):=by
 rw[Dh h hc hn];simp
theorem PX{l0 L i w:Nat}{S:SK}(h:¬L≤l0)(hc:cells? S L i 0=some []):cr l0 16 (.sl L i 0 0 0 w) S=(.aI 0 [],aV S L i .dead):=Bu (by omega) h hc
theorem S9{b:cz}{l:List cI}{az:List (List Int)}{rd:List wa}(h:Ok b l az)(hl:rd.length≤40)(hw:∀x∈rd,0≤x.rD∧x.rD≤255){A B:Abs.aE}:∀(k i:Nat),i+k=rd.length →
  WL T [1,2,3,4,8,9,10,32,33,34] true o4 [(1,.aI l.length (l.flatMap cI.enc)),(2,.aI az.length (az.flatMap F7)),(3,.aI rd.length (rd.flatMap wa.enc)),(4,.bD [.int .i64 b.f.x,.int .i64 b.f.y,.int .i64 b.f.z,.int .i64 b.f.k,.aI b.cq.length (b.cq.flatMap Rw.enc),.int .i64 b.bJ,.int .i64 b.lift,.int .i64 b.deep,.aI b.ar.length (b.ar.flatMap bH.enc)]),(8,.sl σ.length 0 0 0 0 1),(9,.sl σ.length 1 0 0 0 3),(10,.ref σ.length 2 0 0),(32,.aI rd.length (rd.flatMap wa.enc)),(33,.int .i64 rd.length),(34,.int .i64 i)] ([A,B,.cells 0 [.int .i64 0]]::σ)
   (fun x e σ'=>if db (uw b az.length) (rd.drop i)=0 then x=.exit 0∧σ'=[A,B,.cells 0 [.int .i64 0]]::σ∧get e 1=.aI l.length (l.flatMap cI.enc)∧get e 2=.aI az.length (az.flatMap F7)∧get e 3=.aI rd.length (rd.flatMap wa.enc)∧get e 4=.bD [.int .i64 b.f.x,.int .i64 b.f.y,.int .i64 b.f.z,.int .i64 b.f.k,.aI b.cq.length (b.cq.flatMap Rw.enc),.int .i64 b.bJ,.int .i64 b.lift,.int .i64 b.deep,.aI b.ar.length (b.ar.flatMap bH.enc)]∧get e 8=.sl σ.length 0 0 0 0 1∧get e 9=.sl σ.length 1 0 0 0 3∧get e 10=.ref σ.length 2 0 0
    else x=.ret∧get e 8=.aI 0 []∧get e 9=.aI 0 []∧get e 10=.ref σ.length 2 0 0∧σ'=[A,B,.cells 0 [.int .i64 (db (uw b az.length) (rd.drop i))]]::σ):=by
 intro k;induction k with
 |zero =>
  intro i hi;refine zh o4.eq_1 ?_;have h1:¬i<rd.length:=by omega
  have h2:rd.drop i=[]:=aB (by omega);simp[-length_flatMap,-map_take,h1,h2,db,MZ,M0,cK,bu,JD]
 |succ k ih0 =>
  intro i hi;refine zh o4.eq_1 ?_;have h1:i<rd.length:=by omega
  obtain⟨x,hx⟩:=gE h1;have h2:=Qs hx;have h4:=gD h1 (by omega);have h5:=cY hx;have hC:=fun σ=>QU (σ:=σ) (n:=az.length) h.bv (hw x (ai hx))
  simp only[wa.enc]at h2 hC;have ih:=ih0 (i+1) (by omega);rw[h5,db];by_cases hc:uw b az.length x=0
  ·simp[-length_flatMap,-map_take,h1,h2,h4,hC,hc,MZ,M0,cK,bu,JD];exact WL.to ih (by simp) (by simp) fun x e σ hh=>by simpa[hc]using hh
  ·simp[-length_flatMap,-map_take,h1,h2,h4,hC,hc,MZ,M0,cK,bu,JD];have z:=PX (l0:=σ.length) (L:=σ.length+1) (i:=0) (w:=1) (S:=[.cells 0 [],.cells 0 []]::[A,B,.cells 0 [D.int .i64 (uw b (az.length:Int) x)]]::σ) (by omega) (by simp);simp at z;rw[z];simp only[];rw[PX (by omega) (by simp)];simp
end Go.Proofs.YtfgljaglidhjiaaGreatDoor
set_option maxRecDepth 100000
namespace Go.Proofs.YtfgljaglidhjiaaGreatDoor
open List(length_flatMap map_take)
open Go Go.Abs Go.Rock
variable {σ:SK}
abbrev Tri:=Int×Int×Int
def zC(i n:Nat):Nat→List Int→Nat×List Tri→Nat×List Tri
 |_,[],st=>st
 |k,v::vs,st=>zC i n (k+1) vs (if v≠0∧st.1=n then(k,st.2++[((i:Int),(k:Int),v)])else st)
theorem HE{i n:Nat}:∀(vs:List Int) (k:Nat) (st:Nat×List Tri),st.1≠n→zC i n k vs st=st
 |[],k,st,h=>rfl
 |v::vs,k,st,h=>by
  simp only[zC];rw[if_neg (fun hh=>h hh.2)];exact HE vs (k+1) st h
theorem I9{i n:Nat}:∀(vs:List Int) (k:Nat) (st:Nat×List Tri),k+vs.length=n→(st.1≠n→st.1<n)→(zC i n k vs st).2.length≤st.2.length+1∧(zC i n k vs st).1≤n
 |[],k,st,h,hh=>by simp only[zC];exact⟨by omega,Classical.byContradiction fun h1=>by have:=hh (by omega);omega⟩
 |v::vs,k,st,h,hh=>by
  simp only[zC];simp only[aJ]at h;by_cases hc:v≠0∧st.1=n
  ·rw[if_pos hc,HE vs (k+1) _ (by simp only;omega)];simp;omega
  ·rw[if_neg hc];exact I9 vs (k+1) st (by omega) hh
def CN(b:cz)(m:cI)(r:RunT)(rd:List wa):List Int:=rd.map fun x=>vN x.lo x.hi (uQ b m r x)
theorem I1(b:cz)(m:cI)(r:RunT)(rd:List wa):(CN b m r rd).length=rd.length:=by simp[CN]
theorem anz{b:cz}{l:List cI}{az:List (List Int)}{rd:List wa}{rs:List RunT}{m:cI}{r:RunT}{i:Nat}(h:Ok b l az)(hR:Rs b l az.length rs)(hl:rd.length≤40)(hx:∀x∈rd,Rdv b az.length x)(hm:l[i]?=some m)(hr:rs[i]?=some r){A B:Abs.aE}{L10:Nat}{s0:Nat}(hs0:s0≤100):
  ∀(k j:Nat) (st:Nat×List Tri),j+k=rd.length→st.1≤rd.length→st.2.length≤s0+j →
  WL T [3,4,8,9,10,15,16,17,18,51,52,53,60,61,62] false o5 [(3,.aI rd.length (rd.flatMap wa.enc)),(4,.bD [.int .i64 b.f.x,.int .i64 b.f.y,.int .i64 b.f.z,.int .i64 b.f.k,.aI b.cq.length (b.cq.flatMap Rw.enc),.int .i64 b.bJ,.int .i64 b.lift,.int .i64 b.deep,.aI b.ar.length (b.ar.flatMap bH.enc)]),(8,.sl σ.length 0 L10 0 L10 1),(9,.sl σ.length 1 st.2.length 0 st.2.length 3),(10,.ref σ.length 2 0 0),(15,.aI rs.length (rs.flatMap Dv)),(16,.int .i64 i),(17,.own 0 [.str m.name,.aI m.bh.length (m.bh.flatMap aS)]),(18,.int .i64 st.1),(51,.aI l.length (l.flatMap cI.enc)),(52,.int .i64 l.length),(53,.int .i64 i),(60,.aI rd.length (rd.flatMap wa.enc)),(61,.int .i64 rd.length),(62,.int .i64 j)]
   ([A,.cells st.2.length (st.2.flatMap xJ),B]::σ)
   (fun x e σ'=>x=.exit 4∧∃st',st'=zC i rd.length j ((CN b m r rd).drop j) st∧get e 3=.aI rd.length (rd.flatMap wa.enc)∧get e 4=.bD [.int .i64 b.f.x,.int .i64 b.f.y,.int .i64 b.f.z,.int .i64 b.f.k,.aI b.cq.length (b.cq.flatMap Rw.enc),.int .i64 b.bJ,.int .i64 b.lift,.int .i64 b.deep,.aI b.ar.length (b.ar.flatMap bH.enc)]∧get e 8=.sl σ.length 0 L10 0 L10 1∧get e 9=.sl σ.length 1 st'.2.length 0 st'.2.length 3∧get e 10=.ref σ.length 2 0 0∧get e 15=.aI rs.length (rs.flatMap Dv)∧get e 16=.int .i64 i∧get e 18=.int .i64 st'.1∧get e 51=.aI l.length (l.flatMap cI.enc)∧get e 52=.int .i64 l.length∧get e 53=.int .i64 i ∧
    σ'=[A,.cells st'.2.length (st'.2.flatMap xJ),B]::σ):=by
 intro k;induction k with
 |zero =>
  intro j st hj h1 h2;refine aN o5.eq_1 ?_;have h3:¬j<rd.length:=by omega
  have h4:(CN b m r rd).drop j=[]:=aB (by rw[I1];omega);simp[-length_flatMap,-map_take,h3,h4,zC]
 |succ k ih0 =>
  intro j st hj g1 g2;refine aN o5.eq_1 ?_;have h1:j<rd.length:=by omega
  obtain⟨x,hxj⟩:=gE h1;have hmm:=ai hm;have hrr:=hR.all r (ai hr);have hxv:=hx x (ai hxj);have h2:=Qs hxj;have h4:=gD h1 (by omega);have hpl:=h.RS;have hi:i<rs.length:=(au.1 hr).1;have hV:=fun σ=>afT (σ:=σ) (h.fv m hmm) hrr hxv hpl
  have hb:=J6 (h.fv m hmm) hrr hxv;have hen:=hxv.ends;have hM:=fun σ=>afN (σ:=σ) (lo:=x.lo) (hi:=x.hi) (n:=uQ b m r x) (by omega) (by omega) (by omega)
  have a1:=agV hr;have e1:(CN b m r rd)[j]?=some (vN x.lo x.hi (uQ b m r x)):=by simp[CN,hxj]
  have h5:=cY e1;simp only[wa.enc]at h2 hV;have a7:=ahh st.2;have a8:(st.2.flatMap xJ).take (st.2.length*3)=st.2.flatMap xJ:=aj (by omega);have h8:(st.2.length+1)*24≤room:=by unfold room;omega
  rw[h5,zC];generalize vN x.lo x.hi (uQ b m r x)=v at *
  by_cases c1:v=0
  ·have ih:=ih0 (j+1) st (by omega) g1 (by omega);simp[-length_flatMap,-map_take,h1,h2,h4,hV,hM,hi,a1,c1,aY,IE,D.clean];exact WL.to ih (by simp) (by simp) fun x e σ hh=>by simpa[c1]using hh
  ·by_cases c2:st.1=rd.length
   ·have ih:=ih0 (j+1) (j,st.2++[((i:Int),(j:Int),v)]) (by omega) (by simp only;omega) (by simp;omega);simp[-length_flatMap,-map_take,h1,h2,h4,hV,hM,hi,a1,c1,c2,a7,a8,h8,aY,IE,D.clean];exact WL.to ih (by simp) (by simp[xJ]) fun x e σ hh=>by simpa[c1,c2]using hh
   ·have ih:=ih0 (j+1) st (by omega) g1 (by omega);have c3:¬(st.1:Int)=rd.length:=by omega
    simp[-length_flatMap,-map_take,h1,h2,h4,hV,hM,hi,a1,c1,c2,c3,aY,IE,D.clean];exact WL.to ih (by simp) (by simp) fun x e σ hh=>by simpa[c2]using hh
end Go.Proofs.YtfgljaglidhjiaaGreatDoor
set_option maxRecDepth 100000
namespace Go.Proofs.YtfgljaglidhjiaaGreatDoor
open List(length_flatMap map_take)
open Go Go.Abs Go.Rock
variable {σ:SK}
def Hz(b:cz)(rd:List wa):Nat→List (cI×RunT)→List Int×List Tri→List Int×List Tri
 |_,[],st=>st
 |i,p::t,st=>Hz b rd (i+1) t (if(zC i rd.length 0 (CN b p.1 p.2 rd) (rd.length,st.2)).1=rd.length then st.1++[(i:Int)]else st.1,(zC i rd.length 0 (CN b p.1 p.2 rd) (rd.length,st.2)).2)
theorem anx{b:cz}{l:List cI}{az:List (List Int)}{rd:List wa}{rs:List RunT}(h:Ok b l az)(hR:Rs b l az.length rs)(hl:rd.length≤40)(hx:∀x∈rd,Rdv b az.length x){B:Abs.aE}:
  ∀(k i:Nat) (st:List Int×List Tri),i+k=l.length→st.1.length≤i→st.2.length≤i →
  WL T [3,4,8,9,10,15,51,52,53] false o6 [(3,.aI rd.length (rd.flatMap wa.enc)),(4,.bD [.int .i64 b.f.x,.int .i64 b.f.y,.int .i64 b.f.z,.int .i64 b.f.k,.aI b.cq.length (b.cq.flatMap Rw.enc),.int .i64 b.bJ,.int .i64 b.lift,.int .i64 b.deep,.aI b.ar.length (b.ar.flatMap bH.enc)]),(8,.sl σ.length 0 st.1.length 0 st.1.length 1),(9,.sl σ.length 1 st.2.length 0 st.2.length 3),(10,.ref σ.length 2 0 0),(15,.aI rs.length (rs.flatMap Dv)),(51,.aI l.length (l.flatMap cI.enc)),(52,.int .i64 l.length),(53,.int .i64 i)]
   ([.cells st.1.length (st.1.flatMap aS),.cells st.2.length (st.2.flatMap xJ),B]::σ)
   (fun x e σ'=>x=.exit 2∧∃st',st'=Hz b rd i ((l.zip rs).drop i) st∧get e 8=.sl σ.length 0 st'.1.length 0 st'.1.length 1∧get e 9=.sl σ.length 1 st'.2.length 0 st'.2.length 3∧get e 10=.ref σ.length 2 0 0 ∧
    σ'=[.cells st'.1.length (st'.1.flatMap aS),.cells st'.2.length (st'.2.flatMap xJ),B]::σ):=by
 intro k;induction k with
 |zero =>
  intro i st hi g1 g2;refine aN o6.eq_1 ?_;have h1:¬i<l.length:=by omega
  have h2:(l.zip rs).drop i=[]:=aB (by rw[List.length_zip];omega);simp[-length_flatMap,-map_take,h1,h2,Hz]
 |succ k ih0 =>
  intro i st hi g1 g2;refine aN o6.eq_1 ?_;have h1:i<l.length:=by omega
  have hlen:=hR.len;have hne:=hR.ne;obtain⟨m,hm⟩:=gE h1;obtain⟨r,hr⟩:∃r,rs[i]?=some r:=gE (by omega);have h2:=Qf hm;have h4:=gD h1 (by omega);have hz:(l.zip rs)[i]?=some (m,r):=by simp[List.getElem?_zip_eq_some,hm,hr]
  have h5:=cY hz;have hsl:=I9 (i:=i) (CN b m r rd) 0 (rd.length,st.2) (n:=rd.length) (by rw[I1];omega) (by simp);rw[h5,Hz];simp[-length_flatMap,-map_take,h1,h2,aY,D.clean];refine WL.to (anz (σ:=σ) h hR hl hx hm hr (A:=.cells st.1.length (st.1.flatMap aS)) (B:=B) (L10:=st.1.length) (s0:=50) (by omega) rd.length 0 (rd.length,st.2) (by omega) (by simp) (by simp only;omega)) (by simp) (by simp) ?_;rintro x e σ' ⟨rfl,st',hst,q3,q4,q8,q9,q10,q15,q16,q18,q51,q52,q53,rfl⟩;rw[aP]at hst;rw[← hst];rw[← hst]at hsl;have a4:=P7 st.1;have a6:(st.1.flatMap aS).take st.1.length=st.1.flatMap aS:=aj (by omega);have h7:(st.1.length+1)*8≤room:=by unfold room;omega
  by_cases hc:st'.1=rd.length
  ·have ih:=ih0 (i+1) (st.1++[(i:Int)],st'.2) (by omega) (by simp;omega) (by simp only at hsl ⊢;omega);rw[if_pos hc];simp[-length_flatMap,-map_take,q3,q4,q8,q9,q10,q15,q16,q18,q51,q52,q53,hc,h4,a4,a6,h7];exact WL.to ih (by simp) (by simp) fun x e σ hh=>by simpa using hh
  ·have ih:=ih0 (i+1) (st.1,st'.2) (by omega) (by simp only;omega) (by simp only at hsl ⊢;omega);rw[if_neg hc];have hc':¬(st'.1:Int)=rd.length:=by omega
   simp[-length_flatMap,-map_take,q3,q4,q8,q9,q10,q15,q16,q18,q51,q52,q53,hc,hc',h4];exact WL.to ih (by simp) (by simp) fun x e σ hh=>by simpa using hh
def NF(b:cz)(l:List cI)(az:List (List Int))(rd:List wa):D :=
 if xC b az.length rd=0 then
  match xF b az l with
  |some rs => .dK [.aI (Hz b rd 0 (l.zip rs) ([],[])).1.length ((Hz b rd 0 (l.zip rs) ([],[])).1.flatMap aS),.aI (Hz b rd 0 (l.zip rs) ([],[])).2.length ((Hz b rd 0 (l.zip rs) ([],[])).2.flatMap xJ),.int .i64 0]
  |none => .dK [.aI 0 [],.aI 0 [],.int .i64 9]
 else .dK [.aI 0 [],.aI 0 [],.int .i64 (xC b az.length rd)]
theorem EW{l0 a b:Nat}{k:Int}{A B:List D}{S S1 S2:SK}{d1 d2:D}(h1:cr l0 15 d1 S=(.aI a A,S1))(h2:cr l0 15 d2 S1=(.aI b B,S2)):cr l0 16 (.dK [d1,d2,.int .i64 k]) S=(.dK [.aI a A,.aI b B,.int .i64 k],S2):=by
 by_cases hc:D.clean (.dK [d1,d2,.int .i64 k])=true
 ·rw[jx hc (by omega)];simp only[D.clean,D.bg,Bool.and_true,af]at hc;rw[jx hc.1 (by omega)]at h1;rw[jx hc.2 (by omega)]at h2;cases h1;cases h2;rfl
 ·rw[B4 (by simpa using hc) (by omega)];simp only[wQ,zq];rw[h1];simp only;rw[h2];simp only;rw[jx (by rfl) (by omega)]
end Go.Proofs.YtfgljaglidhjiaaGreatDoor
set_option maxRecDepth 100000
namespace Go.Proofs.YtfgljaglidhjiaaGreatDoor
open List(length_flatMap map_take)
open Go Go.Abs Go.Rock Go.Book
variable {σ:SK}
theorem DY{α:Type}{f:α→List D}{l:List α}{v t:Nat}{e:Env}{S:SK}(h:Abs.get e v=nl f l):Abs.get (M8 v (nl f l) e S).1 t=if v=t then .aI l.length (l.flatMap f)else Abs.get e t:=by
 unfold nl at h ⊢;split at h
 ·rename_i hl;subst hl;simp
 ·rename_i hl;simp[hl];intro hh;subst hh;exact h
theorem Gi{α:Type}{f:α→List D}{l:List α}{v:Nat}{e:Env}{S:SK}:(M8 v (nl f l) e S).2=S:=by
 unfold nl;split<;>simp
theorem MC{wq:D}{b:cz}{l:List cI}{az:List (List Int)}{rd:List wa}(hwq:wq.wE=.aI b.ar.length (b.ar.flatMap bH.enc))(h:Ok b l az)(hl:rd.length≤1000000000)(hw:∀x∈rd,0≤x.rD∧x.rD≤255)(hσ:σ≠[]):
  lim T (.call false kc [.agg [.int .i64 b.f.x,.int .i64 b.f.y,.int .i64 b.f.z,.int .i64 b.f.k,.aI b.cq.length (b.cq.flatMap Rw.enc),.int .i64 b.bJ,.int .i64 b.lift,.int .i64 b.deep,wq],.aI l.length (l.flatMap cI.enc),nl F7 az,.aI rd.length (rd.flatMap wa.enc)] σ)=some (.val (NF b l az rd) σ):=by
 have h1:=fun σ=>afM (σ:=σ) h
 unfold NF;by_cases c0:40<rd.length
 ·have e1:xC b az.length rd=3:=by simp[xC,c0]
  rw[e1];refine aA wZ oq.eq_1 rfl ?_;simp[-length_flatMap,-map_take,hwq,DY,Gi,h1,show(40:Int)<rd.length by omega,cK,bu];have hp:=aL.2 hσ;rw[EW (Bu (by omega) (by omega) (by simp)) (Bu (by omega) (by omega) (by simp))];simp
 have e1:xC b az.length rd=db (uw b az.length) rd:=by simp[xC,c0]
 rw[e1];have c0':¬(40:Int)<rd.length:=by omega
 have hL:=S9 (σ:=σ) h (by omega) hw (A:=.cells 0 []) (B:=.cells 0 []) rd.length 0 (by omega);rw[aP]at hL;by_cases c1:db (uw b az.length) rd=0
 ·rw[c1]at hL;rw[if_pos c1];have hx:∀x∈rd,Rdv b az.length x:=fun x hx=>Rdv.of (vH c1 x hx)
  refine KZ wZ oq.eq_1 rfl rfl ?_;cases hrs:xF b az l with
  |none =>
   have h2:=fun σ=>SS (σ:=σ) h hrs
   have hX:vV T (.fn fI [] []) [.ref σ.length 2 0 0] (some (.uj 262 (.agg []))) ([.cells 0 [],.cells 0 [],.cells 0 [.int .i64 0]]::σ)=some ([.cells 0 [],.cells 0 [],.cells 0 [.int .i64 9]]::σ):=uV QZ;simp[-length_flatMap,-map_take,Kn,AS,hwq,DY,Gi,h1,c0',cK,bu];refine WL.to hL (by simp) (by simp) ?_;intro x e σ' hh;rw[if_pos rfl]at hh;obtain⟨rfl,rfl,g1,g2,g3,g4,g8,g9,g10⟩:=hh;simp[-length_flatMap,-map_take,Kn,AS,g1,g2,g3,g4,g8,g9,g10,cK,bu];rw[zg sU.eq_1];simp[-length_flatMap,-map_take,Kn,AS,g1,g2,g3,g4,g8,g9,g10,h2,hX,cK,bu,aY];have hp:=aL.2 hσ;rw[EW (Bu (by omega) (by omega) (by simp)) (Bu (by omega) (by omega) (by simp))];simp
  |some rs =>
   have hR:=Rs.of h hrs;have h2:=fun σ hσ=>SU (σ:=σ) h hσ hrs hR.len
   simp[-length_flatMap,-map_take,Kn,AS,hwq,DY,Gi,h1,c0',cK,bu];refine WL.to hL (by simp) (by simp) ?_;intro x e σ' hh;rw[if_pos rfl]at hh;obtain⟨rfl,rfl,g1,g2,g3,g4,g8,g9,g10⟩:=hh;simp[-length_flatMap,-map_take,Kn,AS,g1,g2,g3,g4,g8,g9,g10,cK,bu];rw[zg sU.eq_1];simp[-length_flatMap,-map_take,Kn,AS,g1,g2,g3,g4,g8,g9,g10,h2,cK,bu,aY];refine WL.to (anx (σ:=σ) h hR (by omega) hx (B:=.cells 0 [.int .i64 0]) l.length 0 ([],[]) (by omega) (by simp) (by simp)) (by simp) (by simp) ?_;rintro x e σ' ⟨rfl,st,hst,q8,q9,q10,rfl⟩;rw[aP]at hst;rw[← hst];have hX:vV T (.fn fI [] []) [.ref σ.length 2 0 0] none ([.cells st.1.length (st.1.flatMap aS),.cells st.2.length (st.2.flatMap xJ),.cells 0 [.int .i64 0]]::σ)=some ([.cells st.1.length (st.1.flatMap aS),.cells st.2.length (st.2.flatMap xJ),.cells 0 [.int .i64 0]]::σ):=uV GR;simp[-length_flatMap,-map_take,Kn,AS,q8,q9,q10,g10,hX];rw[EW (yj (n:=15) (f:=aS) (w:=1) (l:=st.1) (by decide) (fun _=>rfl) (fun x=>by simp) hσ (by simp)) (yj (n:=15) (f:=xJ) (w:=3) (l:=st.2) (by decide) (fun _=>rfl) (fun x=>by simp[xJ]) hσ (by simp))];simp
 ·simp only[c1,if_false];refine aA wZ oq.eq_1 rfl ?_;simp[-length_flatMap,-map_take,hwq,DY,Gi,h1,c0',cK,bu];refine WL.to hL (by simp) (by simp) ?_;intro x e σ' hh;rw[if_neg c1]at hh;obtain⟨rfl,g8,g9,g10,rfl⟩:=hh;simp[g8,g9,g10]
end Go.Proofs.YtfgljaglidhjiaaGreatDoor
