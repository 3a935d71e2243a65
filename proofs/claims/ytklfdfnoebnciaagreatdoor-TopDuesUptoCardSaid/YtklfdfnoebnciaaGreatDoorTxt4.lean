import Derived.Test.YtklfdfnoebnciaaGreatDoorTxt3
import Derived.Test.YtklfdfnoebnciaaGreatDoorTxt2
import Derived.Test.YtklfdfnoebnciaaGreatDoorTxt1
set_option linter.all false
set_option maxRecDepth 100000
namespace Go.Proofs.YtklfdfnoebnciaaGreatDoor
open List(length_flatMap map_take)
open Go Go.Abs Go.Rock
variable {σ:SK}
structure Fm(f:fw)(m:cF):Prop where
 fv:f.valid=true
 len:(m.bf.length:Int)=f.k*f.size
 ok:∀v∈m.bf,-100000≤v∧v≤100000
theorem Fm.of{f:fw}{m:cF}(hf:f.valid=true)(h:f.model m=0):Fm f m:=by
 unfold fw.model at h;split at h
 ·split at h
  ·rename_i h1;exact⟨hf,h1.1,fun v hv=>aR.1 (jv.1 h1.2 v hv)⟩
  ·cases h
 ·cases h
theorem anE{a b A B:Int}(ha : -A≤a∧a≤A)(hb : -B≤b∧b≤B)(hA:0≤A) : -(A*B)≤a*b∧a*b≤A*B:=by
 have key:∀x:Int,0≤x→x≤A → -(A*B)≤x*b∧x*b≤A*B:=by
  intro x h0 h1;have e1:x*b≤x*B:=Int.mul_le_mul_of_nonneg_left hb.2 h0;have e2:x*(-B)≤x*b:=Int.mul_le_mul_of_nonneg_left hb.1 h0;have e3:x*B≤A*B:=bK h1 (by omega);rw[Int.mul_neg]at e2;omega
 rcases mj 0 a with h | h
 ·exact key a h ha.2
 ·have:=key (-a) (by omega) (by omega);rw[Int.neg_mul]at this;omega
theorem auB{f:fw}{m:cF}{x:wZ}(hm:Fm f m)(hx:Mev f x):∀(k i:Nat) (acc:Int),i+k=x.bl.length → -(i*100000000)≤acc∧acc≤i*100000000 →
  WL T [2,3,4,8,9,10] false nu [(2,.bw [.int .i64 f.x,.int .i64 f.y,.int .i64 f.z,.int .i64 f.k,.int .i64 x.kind,.aE x.bl.length (x.bl.flatMap aU),.aE x.wt.length (x.wt.flatMap aU)]),(3,.bw [.str m.name,.aE m.bf.length (m.bf.flatMap aU)]),(4,.int .i64 acc),(8,.aE x.bl.length (x.bl.flatMap aU)),(9,.int .i64 x.bl.length),(10,.int .i64 i)] σ
   (fun x' e σ'=>σ'=σ∧x'=.exit 0∧get e 4=.int .i64 (abe m.bf (x.kind*f.size) acc (x.bl.drop i) (x.wt.drop i))):=by
 intro k;induction k with
 |zero =>
  intro i acc hi ha;refine aH nu.eq_1 ?_;have h1:¬i<x.bl.length:=by omega
  have h2:x.bl.drop i=[]:=az (by omega);simp[-length_flatMap,-map_take,h1,h2,abe]
 |succ k ih0 =>
  intro i acc hi ha;refine aH nu.eq_1 ?_;have h1:i<x.bl.length:=by omega
  have hlen:=hx.len;have h1':i<x.wt.length:=by omega
  obtain⟨b,hb⟩:=gE h1;obtain⟨w,hw⟩:=gE h1';obtain⟨q1,q2⟩:=KF hm.fv;obtain⟨z1,z2,z3,z4,z5⟩:=fw.sX.1 hm.fv;obtain⟨s1,s2,s3⟩:=KV hx.as3 hb hw;have hl64:=Ip hx.len hx.as3 (by omega);have h4:=ga h1 (by omega);have h5:=dh hb;have h6:=dh hw;have h2:=pS hb;have h3:=pS hw;have k1:=hx.kind;have k2:0≤x.kind*f.size∧x.kind*f.size+f.size≤f.k*f.size:=by
   refine⟨dS k1.1 (by omega),?_⟩;have:=bK (show x.kind+1≤f.k by omega) (show 0≤f.size by omega);rw[Int.add_mul]at this;omega
  have hvl:=hm.len;obtain⟨j,hj⟩:∃j:Nat,x.kind*f.size+b=j:=⟨(x.kind*f.size+b).toNat,by omega⟩;have hj1:j<m.bf.length:=by omega
  obtain⟨v,hv⟩:=gE hj1;have hvb:=hm.ok v (ai hv);have h7:=pS hv;have hB:=fun σ=>Ht (σ:=σ) hm.fv
  have b1:=anE (a:=w) (b:=v) (A:=1000) (B:=100000) (by omega) hvb (by omega);have w1:=fK (n:=x.kind*f.size) (by omega);have w2:=fK (n:=(j:Int)) (by omega);have w3:=fK (n:=w*v) (by omega);have w4:=fK (n:=acc+w*v) (by omega);have ih:=ih0 (i+1) (acc+w*v) (by omega) (by omega);rw[h5,h6,abe,hj];simp only[Int.toNat_natCast,hv,gv];simp[-length_flatMap,-map_take,h1,h1',h2,h3,h4,hB,w1,w2,w3,w4,hj,hj1,h7];exact WL.to ih (by simp) rfl fun x e σ hh=>by simpa[hv]using hh
theorem abW{f:fw}{m:cF}{x:wZ}(hm:Fm f m)(hx:Mev f x):lim T (.call false kW [.agg [.int .i64 f.x,.int .i64 f.y,.int .i64 f.z,.int .i64 f.k,.int .i64 x.kind,.aE x.bl.length (x.bl.flatMap aU),.aE x.wt.length (x.wt.flatMap aU)],.agg [.str m.name,.aE m.bf.length (m.bf.flatMap aU)]] σ)=some (.val (.int .i64 (K3 f m x)) σ):=by
 refine au DO qT.eq_1 rfl ?_;simp[-length_flatMap,-map_take];refine WL.to (auB (σ:=[]::σ) hm hx x.bl.length 0 0 (by omega) (by simp)) (by simp) rfl ?_;rintro x' e σ' ⟨rfl,rfl,g⟩;simp[-length_flatMap,-map_take,g,K3]
theorem QC{f:fw}{x:wZ}:lim T (.call false jC [.agg [.int .i64 f.x,.int .i64 f.y,.int .i64 f.z,.int .i64 f.k],.agg x.enc] σ)=some (.val (.fn kW [.agg [.int .i64 f.x,.int .i64 f.y,.int .i64 f.z,.int .i64 f.k,.int .i64 x.kind,.aE x.bl.length (x.bl.flatMap aU),.aE x.wt.length (x.wt.flatMap aU)]] []) σ):=by
 refine au Ak mr.eq_1 rfl ?_;simp[-length_flatMap,-map_take,D.clean,bj]
end Go.Proofs.YtklfdfnoebnciaaGreatDoor
namespace Go.Book
open List(length_flatMap map_take)
open Go Go.Abs Go.Rock
def wB(f:fw)(x:wZ):Int:=if f.valid=true then f.measure x else 1
def yp(p:Int×Int):List D:=[.int .i64 p.1,.int .i64 p.2]
def rD(nm:List UInt8)(k lo hi:Int)(ps:List (Int×Int)):wZ:=⟨nm,k,ps.map (·.1),ps.map (·.2),lo,hi⟩
end Go.Book
namespace Go.Proofs.YtklfdfnoebnciaaGreatDoor
open List(length_flatMap map_take)
open Go Go.Abs Go.Rock Go.Book
variable {σ:SK}
theorem Ju{f:fw}{x:wZ}(hf:f.valid=true)(hn:x.name.length≤1000000000)(hl:x.bl.length≤1000000000):
  lim T (.call false dt [.bw [.int .i64 f.x,.int .i64 f.y,.int .i64 f.z,.int .i64 f.k],.bw [.aE 1 x.enc]] σ)=some (.val (.int .i64 (f.measure x)) σ):=by
 refine au yz jK.eq_1 rfl ?_;have h:=fun σ=>Lh (σ:=σ) (f:=f) (l:=[x]) hf (by intro m hm;simp at hm;subst hm;exact⟨hn,by omega⟩) (by simp)
 have he:f.Ds [x]=f.measure x:=by
  simp only[fw.Ds,fw.Da];by_cases h:f.measure x=0<;>simp[h]
 rw[he]at h;simp only[List.length_singleton,aQ,cg,cS]at h;simp only[wZ.enc]at h ⊢;simp[-length_flatMap,-map_take,h]
theorem Ex{f:fw}{x:wZ}(hn:x.name.length≤1000000000)(hl:x.bl.length≤1000000000):
  lim T (.call false iM [.agg [.int .i64 f.x,.int .i64 f.y,.int .i64 f.z,.int .i64 f.k],.aE 1 x.enc] σ)=some (.val (.int .i64 (wB f x)) σ):=by
 refine au zX lH.eq_1 rfl ?_;have hC:=fun σ=>It (σ:=σ) (fs:=[.fn cr [.agg [.int .i64 f.x,.int .i64 f.y,.int .i64 f.z,.int .i64 f.k]] [],.fn dt [] [.bw [.int .i64 f.x,.int .i64 f.y,.int .i64 f.z,.int .i64 f.k],.bw [.aE 1 x.enc]]]) (es:=[f.shape,f.measure x]) rfl (by simp) (by simp) (by
  intro i d n hd hn' h0 σ;match i with
  |0 =>
   simp at hd hn';subst hd hn';simp[Fc]
  |1 =>
   simp only[List.getElem?_cons_succ,ch,ad]at hd hn';subst hd hn';have h1:f.valid=true:=by
    have:=h0 0 (by omega);simp[fw.shape]at this;exact this
   have hh:=Ju (σ:=σ) h1 hn hl;rw[rK];have h':lim T (.call false dt ([]++[]++[.bw [.int .i64 f.x,.int .i64 f.y,.int .i64 f.z,.int .i64 f.k],.bw [.aE 1 x.enc]]) σ)=_:=hh;rw[h'];rfl
  |i+2=>simp at hd)
 have e1:cN id [f.shape,f.measure x]=wB f x:=by
  simp only[cN,id,wB,fw.shape];by_cases h:f.valid=true
  ·by_cases h2:f.measure x=0<;>simp[h,h2]
  ·simp[h]
 rw[e1]at hC;simp only[wZ.enc,aD,bh]at hC ⊢;simp[-length_flatMap,-map_take,hC]
theorem ajU{f:fw}{m:cF}(hf:f.valid=true)(hn:m.name.length≤1000000000)(hl:m.bf.length≤1000000000):
  lim T (.call false pf [.bw [.int .i64 f.x,.int .i64 f.y,.int .i64 f.z,.int .i64 f.k],.bw [.str m.name,.aE m.bf.length (m.bf.flatMap aU)]] σ)=some (.val (.int .i64 (f.model m)) σ):=by
 refine au GW uJ.eq_1 rfl ?_;simp[-length_flatMap,-map_take,MD hf hn hl]
theorem ajV{f:fw}{x:wZ}(hf:f.valid=true)(hn:x.name.length≤1000000000)(hl:x.bl.length≤1000000000):
  lim T (.call false mU [.bw [.int .i64 f.x,.int .i64 f.y,.int .i64 f.z,.int .i64 f.k],.bw x.enc] σ)=some (.val (.int .i64 (f.measure x)) σ):=by
 refine au GX uK.eq_1 rfl ?_;have h:=fun σ=>Hy (σ:=σ) (f:=f) (m:=x) hf hn (by omega)
 simp only[wZ.enc]at h ⊢;simp[-length_flatMap,-map_take,h]
theorem ajS{f:fw}{m:cF}{x:wZ}(hf:f.valid=true)(hm:f.model m=0)(hx:f.measure x=0)(hn:m.name.length≤1000000000)(hl:m.bf.length≤1000000000)(hn2:x.name.length≤1000000000)(hl2:x.bl.length≤1000000000):
  lim T (.call false ve [.agg [.int .i64 f.x,.int .i64 f.y,.int .i64 f.z,.int .i64 f.k],.agg [.str m.name,.aE m.bf.length (m.bf.flatMap aU)],.agg x.enc] σ)=some (.val (.dQ [.int .i64 (K3 f m x),.int .i64 0]) σ):=by
 refine au JN xo.eq_1 rfl ?_;have hC:=fun σ=>It (σ:=σ) (fs:=[.fn cr [.agg [.int .i64 f.x,.int .i64 f.y,.int .i64 f.z,.int .i64 f.k]] [],.fn pf [] [.bw [.int .i64 f.x,.int .i64 f.y,.int .i64 f.z,.int .i64 f.k],.bw [.str m.name,.aE m.bf.length (m.bf.flatMap aU)]],.fn mU [] [.bw [.int .i64 f.x,.int .i64 f.y,.int .i64 f.z,.int .i64 f.k],.bw x.enc]]) (es:=[f.shape,f.model m,f.measure x]) rfl (by simp) (by simp) (by
  intro i d n hd hn' h0 σ;match i with
  |0 =>
   simp at hd hn';subst hd hn';simp[Fc]
  |1 =>
   simp at hd hn';subst hd hn';simp[ajU hf hn hl]
  |2 =>
   simp only[List.getElem?_cons_succ,ch,ad]at hd hn';subst hd hn';have hh:=ajV (σ:=σ) hf hn2 hl2;rw[rK];have h':lim T (.call false mU ([]++[]++[.bw [.int .i64 f.x,.int .i64 f.y,.int .i64 f.z,.int .i64 f.k],.bw x.enc]) σ)=_:=hh;rw[h'];rfl
  |i+3=>simp at hd)
 have e1:cN id [f.shape,f.model m,f.measure x]=0:=by simp[cN,fw.shape,hf,hm,hx]
 rw[e1]at hC;have hW:=fun σ=>QC (σ:=σ) (f:=f) (x:=x)
 have hS:=fun σ=>abW (σ:=σ) (Fm.of hf hm) (Mev.of hx)
 simp only[wZ.enc,aD,bh]at hC hW ⊢;simp[-length_flatMap,-map_take,hC,hW,hS]
theorem N9(l:List (Int×Int)):(l.flatMap yp).length=l.length*2:=b9 (f:=yp) (w:=2) (fun _=>rfl) l
theorem AL(l:List Int):(l.flatMap aU).length=l.length:=by have:=b9 (f:=aU) (w:=1) (fun _=>rfl) l;omega
def Hj(L:Nat)(nm:List UInt8)(k lo hi:Int)(ps:List (Int×Int)):List Abs.aG :=
 [.cells 0 [.str nm,.int .i64 k,.sl L 1 ps.length 0 ps.length 1,.sl L 2 ps.length 0 ps.length 1,.int .i64 lo,.int .i64 hi],.cells ps.length ((ps.map (·.1)).flatMap aU),.cells ps.length ((ps.map (·.2)).flatMap aU)]
theorem Iv{ps:List (Int×Int)}(hps:ps.length≤1000000){X Y:D}(hx:X.calm=X)(hy:Y.calm=Y){nm:List UInt8}{k lo hi:Int}:∀(m j:Nat),j+m=ps.length →
  WL T [2,3,6,30,31,32] false gK [(2,X),(3,Y),(6,.ref σ.length 0 0 0),(30,.aE (ps.length*2) (ps.flatMap yp)),(31,.int .i64 (ps.length*2)),(32,.int .i64 (j*2))] (Hj σ.length nm k lo hi (ps.take j)::σ)
   (fun x e σ'=>x=.exit 0∧get e 2=X∧get e 3=Y∧get e 6=.ref σ.length 0 0 0∧get e 1000006=.undef∧σ'=Hj σ.length nm k lo hi ps::σ)
 |0,j,h=>by
  refine aH gK.eq_1 ?_;have h1:¬j<ps.length:=by omega
  have h2:ps.take j=ps:=ah (by omega);simp[-length_flatMap,-map_take,h1,hx,hy,h2]
 |m+1,j,h=>by
  refine aH gK.eq_1 ?_;have h1:j<ps.length:=by omega
  have h2:(j:Int)*2<(ps.length:Int)*2:=by omega
  have h3:(j:Int)*2+1<(ps.length:Int)*2:=by omega
  have h0:0≤(j:Int)*2:=by omega
  have h0':0≤(j:Int)*2+1:=by omega
  obtain⟨p,hp⟩:=gE h1;have hd:=zt (f:=yp) (w:=2) (fun _=>rfl) hp;have hd2:(ps.flatMap yp).drop (j*2+1)=.int .i64 p.2::(ps.flatMap yp).drop (j*2+2):=by
   have:=congrArg (List.drop 1) hd;simpa[yp,fQ]using this
  have hd1:(ps.flatMap yp).drop (j*2)=.int .i64 p.1::.int .i64 p.2::(ps.flatMap yp).drop (j*2+2):=by simpa[yp]using hd
  have t1:((j:Int)*2).toNat=j*2:=by omega
  have t2:((j:Int)*2+1).toNat=j*2+1:=by omega
  have w1:IntKind.i64.wrap ((j:Int)*2+1)=j*2+1:=fK (by omega);have w2:IntKind.i64.wrap ((j:Int)*2+1+1)=j*2+1+1:=fK (by omega);have m1:((j:Int)*2).tmod 2=0:=by rw[Int.tmod_eq_emod_of_nonneg (by omega)];omega
  have m2:((j:Int)*2+1).tmod 2=1:=by rw[Int.tmod_eq_emod_of_nonneg (by omega)];omega
  have hl:(ps.take j).length=j:=by simp;omega
  have hr:(j+1)*8≤room:=by unfold room;omega
  have ha:=AL ((ps.take j).map (·.1));have hb:=AL ((ps.take j).map (·.2));simp only[j3,hl]at ha hb;have ta:(((ps.take j).map (·.1)).flatMap aU).take j=((ps.take j).map (·.1)).flatMap aU:=ah (by omega);have tb:(((ps.take j).map (·.2)).flatMap aU).take j=((ps.take j).map (·.2)).flatMap aU:=ah (by omega);have ih:=Iv hps hx hy (nm:=nm) (k:=k) (lo:=lo) (hi:=hi) m (j+1) (by omega);have htk:ps.take (j+1)=ps.take j++[p]:=by rw[List.take_add_one,hp];rfl
  rw[htk]at ih;have hj1:((j+1:Nat):Int)*2=(j:Int)*2+1+1:=by omega
  rw[hj1]at ih;simp[-length_flatMap,-map_take,hx,hy,Hj,hl,h0,h0',h1,h2,h3,t1,t2,hd1,hd2,w1,w2,m1,m2,hr,ha,hb,ta,tb];refine aH gK.eq_1 ?_;simp[-length_flatMap,-map_take,hx,hy,Hj,hl,h0,h0',h1,h2,h3,t1,t2,hd1,hd2,w1,w2,m1,m2,hr,ha,hb,ta,tb];refine WL.to ih (by simp) (by simp[Hj,hl]) fun x e σ' hh=>by simpa[Hj]using hh
theorem aj2{A F:List Abs.aG}{b:Bk}{er:List Int}{m:cF}{x:wZ}(hf:b.bG.f.valid=true)(hm:b.bG.f.model m=0)(hx:b.bG.f.measure x=0)(hn:m.name.length≤1000000000)(hl:m.bf.length≤1000000000)(hn2:x.name.length≤1000000000)(hl2:x.bl.length≤1000000000):
  lim T (.call false eS [.agg [.str m.name,.aE m.bf.length (m.bf.flatMap aU)],.bw [.ref σ.length 6 0 0],.bw x.enc] ([]::A::F::b.bk σ.length er::σ))=some (.val (.int .i64 (K3 b.bG.f m x)) ([]::A::F::b.bk σ.length er::σ)):=by
 refine au Al mu.eq_1 rfl ?_;have hS:=fun σ=>ajS (σ:=σ) hf hm hx hn hl hn2 hl2
 simp only[wZ.enc]at hS ⊢;simp[-length_flatMap,-map_take,Bk.bk,Bk.cells,hS]
theorem Q1{x:wZ}:D.bu x.enc=true:=by simp[wZ.enc,bj]
theorem NM{S:SK}{L:Nat}(hS:S.length=L)(hL:0<L){nm:List UInt8}{k lo hi:Int}{ps:List (Int×Int)}:
  Df L 0 0 (Hj L nm k lo hi ps::S)=(.bw (rD nm k lo hi ps).enc,[.dead,.dead,.dead]::S):=by
 have hne:S≠[]:=by intro h;subst h;simp at hS;omega
 have h1:=zT (f:=aU) (w:=1) (fun _=>rfl) (fun _=>by simp[D.clean]) (l:=ps.map (·.1)) (j:=1) (v:=ps.length) (bs:=[.dead,.cells ps.length ((ps.map (·.1)).flatMap aU),.cells ps.length ((ps.map (·.2)).flatMap aU)]) (σ:=S) hne (by simp);have h2:=zT (f:=aU) (w:=1) (fun _=>rfl) (fun _=>by simp[D.clean]) (l:=ps.map (·.2)) (j:=2) (v:=ps.length) (bs:=[.dead,.dead,.cells ps.length ((ps.map (·.2)).flatMap aU)]) (σ:=S) hne (by simp);rw[hS]at h1 h2;simp only[j3,List.set_cons_succ,List.set_cons_zero]at h1 h2;simp[Df,Hj,hS,h1,h2,rD]
def EI(b:Bk)(x:wZ):Bk×Int:=if b.an=[]then(b,8)else if wB b.bG.f x=0 then(wa b x.lo x.hi fun m=>K3 b.bG.f m x,0)else(b,wB b.bG.f x)
theorem aj3{F:List Abs.aG}{b:Bk}{er:List Int}{nm:List UInt8}{k lo hi:Int}{ps:List (Int×Int)}{b':Bk}{e:Int}(hps:ps.length≤1000000)(hnm:nm.length≤1000000000)(hw:b.oS.length=b.an.length)(hml:b.an.length≤40)(hms:∀e∈b.an,b.bG.f.model e.m=0∧e.m.name.length≤1000000000∧e.m.bf.length≤1000000000)(hd:EI b (rD nm k lo hi ps)=(b',e))(he:e=0):
  lim T (.call false gi [.ref σ.length 6 0 0,.str nm,.aE (ps.length*2+3) (.int .i64 k::.int .i64 lo::.int .i64 hi::ps.flatMap yp)] (F::b.bk σ.length er::σ))=some (.val (.dQ []) (F::b'.bk σ.length er::σ)):=by
 refine fU wu lh.eq_1 rfl (by simp) ?_;unfold EI at hd;split at hd
 case isTrue=>cases hd;cases he
 rename_i hne;split at hd
 case isFalse=>cases hd;rename_i h;exact absurd he h
 rename_i hck;cases hd;have q0:(0:Int)<(ps.length:Int)*2+3:=by omega
 have q1:(1:Int)<(ps.length:Int)*2+3:=by omega
 have q2:(2:Int)<(ps.length:Int)*2+3:=by omega
 have q3:(3:Int)≤(ps.length:Int)*2+3:=by omega
 have c1:0<b.an.length:=aO.2 hne;have hC:=fun σ=>Ex (σ:=σ) (f:=b.bG.f) (x:=rD nm k lo hi ps) hnm (by simp[rD];omega)
 simp only[hck]at hC;have hv:b.bG.f.valid=true∧b.bG.f.measure (rD nm k lo hi ps)=0:=by
  unfold wB at hck;split at hck
  ·rename_i h;exact⟨h,hck⟩
  ·cases hck
 have hlp:=N9 ps;have htp:(ps.flatMap yp).take (ps.length*2)=ps.flatMap yp:=ah (by omega);have hL:=Iv (σ:=F::b.bk σ.length er::σ) hps (X:=.aE (ps.length*2+3) (.int .i64 k::.int .i64 lo::.int .i64 hi::ps.flatMap yp)) (Y:=.bw [.ref σ.length 6 0 0]) rfl rfl (nm:=nm) (k:=k) (lo:=lo) (hi:=hi) ps.length 0 (by omega);simp[-length_flatMap,-map_take,Bk.bk,Bk.cells,c1,cl,q0,q1,q2,q3];refine WL.to hL (by simp[htp]) (by simp[Hj,Bk.bk,Bk.cells]) ?_;rintro x e σ' ⟨rfl,g2,g3,g6,gu,rfl⟩;have hf:=fun S hS=>NM (S:=S) (L:=σ.length+1+1) hS (by omega) (nm:=nm) (k:=k) (lo:=lo) (hi:=hi) (ps:=ps)
 have hst:=JI (σ:=σ) (A:=[.dead,.dead,.dead]) (F:=F) (b:=b) (er:=er) (lo:=lo) (hi:=hi) (val:=fun m=>K3 b.bG.f m (rD nm k lo hi ps)) (fv:=.fn eS [] [.bw [.ref σ.length 6 0 0],.bw (rD nm k lo hi ps).enc]) rfl rfl hw hml (by
  intro i e he _;obtain⟨k1,k2,k3⟩:=hms e he;have h:=aj2 (σ:=σ) (A:=[.dead,.dead,.dead]) (F:=F) (er:=er) (b:=b.j5 lo hi (fun m=>K3 b.bG.f m (rD nm k lo hi ps)) i) (m:=e.m) (x:=rD nm k lo hi ps) hv.1 k1 hv.2 k2 k3 hnm (by simp[rD];omega);rw[rK];have h':lim T (.call false eS ([]++[.agg [.str e.m.name,.aE e.m.bf.length (e.m.bf.flatMap aU)]]++[.bw [.ref σ.length 6 0 0],.bw (rD nm k lo hi ps).enc]) ([]::[.dead,.dead,.dead]::F::(b.j5 lo hi (fun m=>K3 b.bG.f m (rD nm k lo hi ps)) i).bk σ.length er::σ))=_:=h;rw[h'];rfl)
 have hcl:=Q1 (x:=rD nm k lo hi ps);have e1:(rD nm k lo hi ps).lo=lo:=aA rfl;have e2:(rD nm k lo hi ps).hi=hi:=aA rfl;simp only[Bk.bk,Bk.cells,wZ.enc,e1,e2]at hst hC hf hcl;simp[-length_flatMap,-map_take,g2,g3,g6,gu,hf,hC,og,hst,q1,q2,Bk.bk,Bk.cells,hcl,bj,e1,e2]
theorem abK{F:List Abs.aG}{b:Bk}{er:List Int}{nm:List UInt8}{k lo hi:Int}{ps:List (Int×Int)}{b':Bk}{e:Int}(hps:ps.length≤1000000)(hnm:nm.length≤1000000000)(hd:EI b (rD nm k lo hi ps)=(b',e))(he:e≠0):
  lim T (.call false gi [.ref σ.length 6 0 0,.str nm,.aE (ps.length*2+3) (.int .i64 k::.int .i64 lo::.int .i64 hi::ps.flatMap yp)] (F::b.bk σ.length er::σ))=some (.fx (rf e) (F::b.bk σ.length er::σ)):=by
 refine dJ wu lh.eq_1 rfl ?_;unfold EI at hd;split at hd
 case isTrue hne =>
  cases hd;simp[-length_flatMap,-map_take,Bk.bk,Bk.cells,hne,dj,D.clean,rf]
 rename_i hne;split at hd
 case isTrue=>cases hd;exact absurd rfl he
 rename_i hck;cases hd;have q0:(0:Int)<(ps.length:Int)*2+3:=by omega
 have q1:(1:Int)<(ps.length:Int)*2+3:=by omega
 have q2:(2:Int)<(ps.length:Int)*2+3:=by omega
 have q3:(3:Int)≤(ps.length:Int)*2+3:=by omega
 have c1:0<b.an.length:=aO.2 hne;have hC:=fun σ=>Ex (σ:=σ) (f:=b.bG.f) (x:=rD nm k lo hi ps) hnm (by simp[rD];omega)
 have hM:=fun σ=>pq (σ:=σ) hck
 generalize wB b.bG.f (rD nm k lo hi ps)=err at hC hM hck he ⊢;have hrc:(D.tQ 90 (.agg [.int .i64 err])).clean=true:=rfl;have hlp:=N9 ps;have htp:(ps.flatMap yp).take (ps.length*2)=ps.flatMap yp:=ah (by omega);have hL:=Iv (σ:=F::b.bk σ.length er::σ) hps (X:=.aE (ps.length*2+3) (.int .i64 k::.int .i64 lo::.int .i64 hi::ps.flatMap yp)) (Y:=.bw [.ref σ.length 6 0 0]) rfl rfl (nm:=nm) (k:=k) (lo:=lo) (hi:=hi) ps.length 0 (by omega);simp[-length_flatMap,-map_take,Bk.bk,Bk.cells,c1,cl,q0,q1,q2,q3];refine WL.to hL (by simp[htp]) (by simp[Hj,Bk.bk,Bk.cells]) ?_;rintro x e σ' ⟨rfl,g2,g3,g6,gu,rfl⟩;have hf:=fun S hS=>NM (S:=S) (L:=σ.length+1+1) hS (by omega) (nm:=nm) (k:=k) (lo:=lo) (hi:=hi) (ps:=ps)
 have hcl:=Q1 (x:=rD nm k lo hi ps);simp only[Bk.bk,Bk.cells,wZ.enc]at hC hf hcl;simp[-length_flatMap,-map_take,g2,g3,g6,gu,hf,hC,hM,q1,q2,Bk.bk,Bk.cells,hcl,bj,rf,hrc]
end Go.Proofs.YtklfdfnoebnciaaGreatDoor
namespace Go.Book
open List(length_flatMap map_take)
open Go Go.Abs Go.Rock
def bZ(l:List nh):List nh:=l.filter (·.left)
end Go.Book
namespace Go.Proofs.YtklfdfnoebnciaaGreatDoor
open List(length_flatMap map_take)
open Go Go.Abs Go.Rock Go.Book
variable {σ:SK}
theorem abI{e:nh}:lim T (.call false ek [.agg e.enc] σ)=some (.val (.bool e.left) σ):=by
 refine au z8 lN.eq_1 rfl ?_;simp[-length_flatMap,-map_take]
theorem FB{l:List nh}{lv bi v:Nat}{G:List Abs.aG}(hG:G[bi]?=some (.cells v (l.flatMap nh.enc)))(hs:gj σ lv=some G)(hl:l.length≤1000000):∀(m i:Nat) (acc:List nh),i+m=l.length→acc.length≤i →
  WL T [1,4,7,8,9] false dX [(1,.fn ek [] []),(4,.sl σ.length 0 acc.length 0 acc.length 4),(7,.sl lv bi v 0 l.length 4),(8,.int .i64 l.length),(9,.int .i64 i)] ([.cells acc.length (acc.flatMap nh.enc)]::σ)
   (fun x e σ'=>x=.exit 0∧get e 4=.sl σ.length 0 (acc++bZ (l.drop i)).length 0 (acc++bZ (l.drop i)).length 4∧σ'=[.cells (acc++bZ (l.drop i)).length ((acc++bZ (l.drop i)).flatMap nh.enc)]::σ)
 |0,i,acc,hi,ha=>by
  refine aH dX.eq_1 ?_;have h1:¬i<l.length:=by omega
  have h2:l.drop i=[]:=az (by omega);simp[-length_flatMap,-map_take,h1,h2,bZ]
 |m+1,i,acc,hi,ha=>by
  refine aH dX.eq_1 ?_;have h1:i<l.length:=by omega
  obtain⟨e,he⟩:=gE h1;have hfl:=cj (f:=nh.enc) (w:=4) (fun _=>rfl) he;have hd:=dh he;have h4:=ga h1 (by omega);have hlen:=Dc l;have q:4≤l.length*4-i*4:=by omega
  have hlt:=yq hs;have hlv:¬σ.length=lv:=by omega
  have hC:=fun σ=>abI (σ:=σ) (e:=e)
  simp only[nh.enc]at hC;cases hc:e.left with
  |false =>
   rw[hc]at hC;have ih:=FB hG hs hl m (i+1) acc (by omega) (by omega);simp[-length_flatMap,-map_take,h1,hs,hG,hlv,hfl,hlen,q,h4,hC,hc];exact WL.to ih (by simp) rfl fun x e' σ' hh=>by rw[hd];simpa[bZ,hc]using hh
  |true =>
   rw[hc]at hC;have ih:=FB hG hs hl m (i+1) (acc++[e]) (by omega) (by simp;omega);have hr:(acc.length+1)*56≤room:=by unfold room;omega
   have hal:=Dc acc;have hat:(acc.flatMap nh.enc).take (acc.length*4)=acc.flatMap nh.enc:=ah (by omega);simp[-length_flatMap,-map_take,h1,hs,hG,hlv,hfl,hlen,q,h4,hC,hc,hr,hal,hat];exact WL.to ih (by simp) (by simp[hc]) fun x e' σ' hh=>by rw[hd];simpa[bZ,hc]using hh
theorem Qb{l:List nh}{lv bi v:Nat}{G:List Abs.aG}(hG:G[bi]?=some (.cells v (l.flatMap nh.enc)))(hs:gj σ lv=some G)(hl:l.length≤1000000)(hσ:σ≠[]):
  lim T (.call false dw [.sl lv bi v 0 l.length 4,.fn ek [] []] σ)=some (.val (.aE (bZ l).length ((bZ l).flatMap nh.enc)) σ):=by
 refine au uq fj.eq_1 rfl ?_;have h:=FB (σ:=σ) hG hs hl l.length 0 [] (by omega) (by simp);simp only[List.nil_append]at h;simp[-length_flatMap,-map_take];refine WL.to h (by simp) (by simp) ?_;rintro x e σ' ⟨rfl,g4,rfl⟩;have hk:=Go.Abs.zU (f:=nh.enc) (w:=4) (fun _=>rfl) (fun _=>by simp[D.clean,bj]) (l:=bZ l) (j:=0) (v:=(bZ l).length) (bs:=[.cells (bZ l).length ((bZ l).flatMap nh.enc)]) (σ:=σ) hσ (by simp);rw[aJ]at g4 ⊢;simp[-length_flatMap,-map_take,g4,hk]
theorem DM{b:Bk}{er:List Int}{S:SK}(hl:b.an.length≤1000000)(hs:gj S σ.length=some (b.bk σ.length er)):
  lim T (.call false fB [.ref σ.length 6 0 0] S)=some (.val (.aE (bZ b.an).length ((bZ b.an).flatMap nh.enc)) S):=by
 refine au BC nw.eq_1 rfl ?_;have hlt:=yq hs;have hne:¬S.length=σ.length:=by omega
 have h:=Qb (σ:=[]::S) (l:=b.an) (lv:=σ.length) (bi:=0) (v:=b.an.length) (G:=b.bk σ.length er) (by simp[Bk.bk]) (by simp[gj,hne,hs]) hl (by simp);have hcl:D.bu ((bZ b.an).flatMap nh.enc)=true:=fZ (fun _=>by simp[D.clean,bj]) _;have hc6:(b.bk σ.length er)[6]?=some (.cells 0 (b.cells σ.length)):=by simp[Bk.bk]
 simp[-length_flatMap,-map_take,hne,hs,hc6,Bk.cells,h,hcl]
end Go.Proofs.YtklfdfnoebnciaaGreatDoor
namespace Go.Proofs.YtklfdfnoebnciaaGreatDoor
open List(length_flatMap map_take)
open Go Go.Abs Go.Trem
variable {σ:SK}
theorem adp{lv:Nat}{G:List Abs.aG}(hsg:gj σ lv=some G){R:List ec}{l:List Ev}{now may sure:Int}{j:Nat}{r:ec}(hG1:G[1]?=some (.cells R.length (R.flatMap ec.enc)))(hG2:G[2]?=some (.cells l.length (l.flatMap Ev.enc)))(hl:l.length≤200)(hs:∀e∈l,e.sp.length≤2000)(hr:r.ok=true)(hn:bT now 0 1000000=true):∀(m i:Nat) (a b:Nat),i+m=l.length→a+m≤200→b+m≤200 →
  WL T [1,2,6,7,10,11,12,13,36,37,38,44,45,46] false lk [(1,.sl lv 2 l.length 0 l.length 2),(2,.int .i64 now),(6,.int .u8 may),(7,.int .u8 sure),(10,.own 0 r.enc),(11,.int .i64 a),(12,.int .i64 b),(13,.fn dH [.agg r.enc] []),
    (36,.sl lv 1 R.length 0 R.length 10),(37,.int .i64 R.length),(38,.int .i64 j),(44,.sl lv 2 l.length 0 l.length 2),(45,.int .i64 l.length),(46,.int .i64 i)] σ
   (fun x e σ'=>x=.exit 3∧σ'=σ∧get e 1=.sl lv 2 l.length 0 l.length 2∧get e 2=.int .i64 now∧get e 6=.int .u8 may∧get e 7=.int .u8 sure∧get e 10=.own 0 r.enc∧get e 11=.int .i64 (a+E8 (yS r now) (l.drop i):Nat)∧get e 12=.int .i64 (b+E8 (tp r now) (l.drop i):Nat) ∧
    get e 36=.sl lv 1 R.length 0 R.length 10∧get e 37=.int .i64 R.length∧get e 38=.int .i64 j)
 |0,i,a,b,hi,ha,hb=>by
  refine aH lk.eq_1 ?_;have h1:¬i<l.length:=by omega
  have h2:l.drop i=[]:=by simp;omega
  simp[-length_flatMap,-map_take,h1,h2,E8]
 |m+1,i,a,b,hi,ha,hb=>by
  refine aH lk.eq_1 ?_;have g1:i<l.length:=by omega
  obtain⟨e,he⟩:=gE g1;have a1:=cj (f:=Ev.enc) (w:=2) (fun _=>rfl) he;have al:(l.flatMap Ev.enc).length=l.length*2:=b9 (f:=Ev.enc) (w:=2) (fun _=>rfl) l;have aq:2≤l.length*2-i*2:=by omega
  have w1:=ga g1 (by omega);have hr':=GG.1 hr;have hn':=aR.1 hn;have hse:=hs e (ai he);have w2:=fK (n:=now-r.yT) (by omega);have w3:=fK (n:=(a:Int)+1) (by omega);have w4:=fK (n:=(b:Int)+1) (by omega);have hC:∀σ,lim T (.call false b8 [.aE e.sp.length (e.sp.flatMap wc.enc),.fn dH [.agg r.enc] []] σ)=some (.val (.bool (su e.sp r.OV)) σ):=fun σ =>
   contains_of LI l4 nN (by omega) (.fn fun s _ σ=>JB)
  have hA:=fun σ=>@Hs σ e.sp r.OV (.fn dH [.agg r.enc] []) (.fn fun s _ σ=>JB) rfl (by omega)
  simp only[ec.enc]at hC hA;have d1:E8 (yS r now) (l.drop i)=E8 (yS r now) (l.drop (i+1))+(if yS r now e then 1 else 0):=by rw[dh he];rfl
  have d2:E8 (tp r now) (l.drop i)=E8 (tp r now) (l.drop (i+1))+(if tp r now e then 1 else 0):=by rw[dh he];rfl
  have ih:=fun a b=>adp hsg hG1 hG2 (R:=R) (may:=may) (sure:=sure) (j:=j) hl hs hr hn m (i+1) a b (by omega)
  rw[d1,d2];by_cases c1:now<e.tick
  ·have e1:yS r now e=false:=by simp[yS,ec.act];omega
   have e2:tp r now e=false:=by simp[tp,ec.act];omega
   simp[-length_flatMap,-map_take,g1,a1,al,aq,hsg,hG1,hG2,w1,c1,e1,e2];exact WL.to (ih a b (by omega) (by omega)) (by simp) rfl fun x e σ' hh=>by simpa[e1,e2]using hh
  by_cases c2:e.tick≤now-r.yT
  ·have e1:yS r now e=false:=by simp[yS,ec.act];omega
   have e2:tp r now e=false:=by simp[tp,ec.act];omega
   simp[-length_flatMap,-map_take,g1,a1,al,aq,hsg,hG1,hG2,w1,w2,c1,c2,e1,e2];exact WL.to (ih a b (by omega) (by omega)) (by simp) rfl fun x e σ' hh=>by simpa[e1,e2]using hh
  have act:r.act now e=true:=by simp[ec.act];omega
  have e1:yS r now e=su e.sp r.OV:=by simp[yS,act]
  have e2:tp r now e=gw e.sp r.OV:=by simp[tp,act]
  rw[e1,e2];have k1:∀u v:Nat,u+1+v=u+(v+1):=by intro u v;omega
  cases c3:su e.sp r.OV<;>cases c4:gw e.sp r.OV<;>simp only[c3,c4]at hC hA
  ·simp[-length_flatMap,-map_take,g1,a1,al,aq,hsg,hG1,hG2,w1,w2,c1,c2,hC,hA];exact WL.to (ih a b (by omega) (by omega)) (by simp) rfl fun x e σ' hh=>by simpa[c3,c4]using hh
  ·simp[-length_flatMap,-map_take,g1,a1,al,aq,hsg,hG1,hG2,w1,w2,w4,c1,c2,hC,hA];exact WL.to (ih a (b+1) (by omega) (by omega)) (by simp) rfl fun x e σ' hh=>by simp only[k1]at hh;simpa[c3,c4]using hh
  ·simp[-length_flatMap,-map_take,g1,a1,al,aq,hsg,hG1,hG2,w1,w2,w3,c1,c2,hC,hA];exact WL.to (ih (a+1) b (by omega) (by omega)) (by simp) rfl fun x e σ' hh=>by simp only[k1]at hh;simpa[c3,c4]using hh
  ·simp[-length_flatMap,-map_take,g1,a1,al,aq,hsg,hG1,hG2,w1,w2,w3,w4,c1,c2,hC,hA];exact WL.to (ih (a+1) (b+1) (by omega) (by omega)) (by simp) rfl fun x e σ' hh=>by simp only[k1]at hh;simpa[c3,c4]using hh
theorem MO{lv:Nat}{G:List Abs.aG}(hsg:gj σ lv=some G){R:List ec}{l:List Ev}{now:Int}(hR:R.length≤20)(hG1:G[1]?=some (.cells R.length (R.flatMap ec.enc)))(hG2:G[2]?=some (.cells l.length (l.flatMap Ev.enc)))(hl:l.length≤200)(hs:∀e∈l,e.sp.length≤2000)(hr:∀r∈R,r.ok=true)(hn:bT now 0 1000000=true):∀(m j:Nat) (may sure:Int),j+m=R.length →
  WL T [1,2,6,7,36,37,38] false gg [(1,.sl lv 2 l.length 0 l.length 2),(2,.int .i64 now),(6,.int .u8 may),(7,.int .u8 sure),(36,.sl lv 1 R.length 0 R.length 10),(37,.int .i64 R.length),(38,.int .i64 j)] σ
   (fun x e σ'=>x=.exit 1∧σ'=σ∧get e 6=.int .u8 (yn (fun r=>yS r now) l (R.drop j) may)∧get e 7=.int .u8 (yn (fun r=>tp r now) l (R.drop j) sure))
 |0,j,may,sure,hj=>by
  refine aH gg.eq_1 ?_;have h1:¬j<R.length:=by omega
  have h2:R.drop j=[]:=by simp;omega
  simp[-length_flatMap,-map_take,h1,h2,yn]
 |m+1,j,may,sure,hj=>by
  refine aH gg.eq_1 ?_;have g1:j<R.length:=by omega
  obtain⟨r,hrj⟩:=gE g1;have a1:=cj (f:=ec.enc) (w:=10) (fun _=>rfl) hrj;have al:(R.flatMap ec.enc).length=R.length*10:=b9 (f:=ec.enc) (w:=10) (fun _=>rfl) R;have aq:10≤R.length*10-j*10:=by omega
  have w1:=ga g1 (by omega);have hrr:=hr r (ai hrj);have ih:=fun may sure=>MO hsg hR hG1 hG2 hl hs hr hn m (j+1) may sure (by omega)
  rw[dh hrj];simp[-length_flatMap,-map_take,g1,a1,al,aq,hsg,hG1,hG2];refine WL.to (adp hsg hG1 hG2 (σ:=σ) (R:=R) (l:=l) (now:=now) (may:=may) (sure:=sure) (j:=j) hl hs hrr hn l.length 0 0 0 (by omega) (by omega) (by omega)) (by simp) rfl ?_;rintro x e σ' ⟨rfl,rfl,e1,e2,e6,e7,e10,e11,e12,e36,e37,e38⟩;simp only[aJ,cG]at e11 e12;simp only[yn];by_cases c1:r.count≤E8 (yS r now) l
  ·by_cases c2:r.count≤E8 (tp r now) l
   ·simp[-length_flatMap,-map_take,e1,e2,e6,e7,e10,e11,e12,e36,e37,e38,c1,c2,w1];exact WL.to (ih (max may r.OW) (max sure r.OW)) (by simp) rfl fun x e σ' hh=>by simpa[c1,c2]using hh
   ·simp[-length_flatMap,-map_take,e1,e2,e6,e7,e10,e11,e12,e36,e37,e38,c1,c2,w1];exact WL.to (ih (max may r.OW) sure) (by simp) rfl fun x e σ' hh=>by simpa[c1,c2]using hh
  ·by_cases c2:r.count≤E8 (tp r now) l
   ·simp[-length_flatMap,-map_take,e1,e2,e6,e7,e10,e11,e12,e36,e37,e38,c1,c2,w1];exact WL.to (ih may (max sure r.OW)) (by simp) rfl fun x e σ' hh=>by simpa[c1,c2]using hh
   ·simp[-length_flatMap,-map_take,e1,e2,e6,e7,e10,e11,e12,e36,e37,e38,c1,c2,w1];exact WL.to (ih may sure) (by simp) rfl fun x e σ' hh=>by simpa[c1,c2]using hh
theorem P4{lv:Nat}{G:List Abs.aG}{R:List ec}{l:List Ev}{now:Int}(hsg:gj σ lv=some G)(hG1:G[1]?=some (.cells R.length (R.flatMap ec.enc)))(hG2:G[2]?=some (.cells l.length (l.flatMap Ev.enc)))(hR:R.length≤9223372036854775807)(hl:l.length≤9223372036854775807)(hs:∀e∈l,e.sp.length≤9223372036854775807):
  lim T (.call false gV [.sl lv 1 R.length 0 R.length 10,.sl lv 2 l.length 0 l.length 2,.int .i64 now] σ) =
   some (.val (if o8 R l now=0 then .dQ [.int .u8 (aaw R l now),.int .u8 (abf R l now),.int .i64 0]else .dQ [.int .u8 0,.int .u8 0,.int .i64 (o8 R l now)]) σ):=by
 refine au wx nR.eq_1 rfl ?_;have hlt:=yq hsg;have hne:¬σ.length=lv:=by omega
 have hsg':gj ([]::σ) lv=some G:=by simp[gj,hne,hsg]
 have hAR:=FY (T:=T) (enc:=ec.enc) (w:=10) (fun _=>rfl) (F:=G) (bi:=1) (v:=R.length) (l:=R) (p:=ec.ok) (fv:=.fn ei [] []) (f:=de) (g:=ff) (h:=cM) (i:=dz) rfl rfl rfl rfl hG1 hR (.fn fun r _ σ=>JH) rfl (σ:=[]::σ) hsg';have hAE:=FY (T:=T) (enc:=Ev.enc) (w:=2) (fun _=>rfl) (F:=G) (bi:=2) (v:=l.length) (l:=l) (p:=Ev.ok) (fv:=.fn dG [] []) (f:=cQ) (g:=eF) (h:=cJ) (i:=di) rfl rfl rfl rfl hG2 hl (.fn fun r hr σ=>JC (hs r hr)) rfl (σ:=[]::σ) hsg';by_cases c1:20<R.length
 ·have c1':(20:Int)<R.length:=by omega
  simp[-length_flatMap,-map_take,o8,c1,c1']
 have c1':¬(20:Int)<R.length:=by omega
 cases c2:gw R ec.ok
 ·simp[-length_flatMap,-map_take,o8,c1,c1',hAR,c2]
 by_cases c3:200<l.length
 ·have c3':(200:Int)<l.length:=by omega
  simp[-length_flatMap,-map_take,o8,c1,c1',hAR,c2,c3,c3']
 have c3':¬(200:Int)<l.length:=by omega
 cases c4:gw l Ev.ok
 ·simp[-length_flatMap,-map_take,o8,c1,c1',hAR,c2,c3,c3',hAE,c4]
 cases c5:bT now 0 1000000
 ·simp[-length_flatMap,-map_take,o8,c1,c1',hAR,c2,c3,c3',hAE,c4,cp,c5]
 have he:o8 R l now=0:=by simp[o8,c1,c2,c3,c4,c5]
 rw[if_pos he];simp[-length_flatMap,-map_take,c1',hAR,c2,c3',hAE,c4,cp,c5];refine WL.to (MO (σ:=[]::σ) (lv:=lv) (G:=G) hsg' (R:=R) (l:=l) (now:=now) (by omega) hG1 hG2 (by omega) ?_ (jv.1 c2) c5 R.length 0 0 0 (by omega)) (by simp) rfl ?_
 ·intro e he;have:=jv.1 c4 e he;simp only[Ev.ok,ae,aR]at this;omega
 ·rintro x e σ' ⟨rfl,rfl,e6,e7⟩;simp[-length_flatMap,-map_take,e6,e7,aaw,abf]
end Go.Proofs.YtklfdfnoebnciaaGreatDoor
namespace Go.Book
open List(length_flatMap map_take)
open Go Go.Abs Go.Rock
def vS(b:Bk):Int:=if Trem.o8 b.rules b.yV b.av.length=0 then Trem.aaw b.rules b.yV b.av.length else 0
def CB(b:Bk):Int:=if vS b=0 then b.k0 else if vS b=1 then b.k1 else b.k2
def sK(keep n:Int):Int:=if n<0 then -((-n*keep).tdiv 1000)else n
theorem KB{f:Trem.ec→Trem.Ev→Bool}{l:List Trem.Ev}:∀{R:List Trem.ec} {a:Int},(∀r∈R,r.ok=true)→0≤a∧a≤2→0≤Trem.yn f l R a∧Trem.yn f l R a≤2
 |[],a,_,h=>h
 |r::R,a,hr,h=>by
  have h1:=(Trem.GG.1 (hr r (by simp))).2.2.2.2;simp only[Trem.yn];refine KB (fun r' h'=>hr r' (by simp[h'])) ?_;split
  ·rcases h1 with h1 | h1<;>omega
  ·exact h
theorem HF{b:Bk}:0≤vS b∧vS b≤2:=by
 unfold vS;split
 ·rename_i h;refine KB (fun r hr=>?_) (by omega);unfold Trem.o8 at h;split at h
  ·omega
  ·split at h
   ·omega
   ·rename_i h2;exact jv.1 (by simpa using h2) r hr
 ·omega
end Go.Book
namespace Go.Proofs.YtklfdfnoebnciaaGreatDoor
open List(length_flatMap map_take)
open Go Go.Abs Go.Rock Go.Book
variable {σ:SK}
theorem JA{b:Bk}{er:List Int}{S:SK}(h1:b.rules.length≤1000000)(h2:b.yV.length≤1000000)(h3:∀e∈b.yV,e.sp.length≤1000000)(hs:gj S σ.length=some (b.bk σ.length er)):
  lim T (.call false iN [.ref σ.length 6 0 0] S)=some (.val (.int .u8 (vS b)) S):=by
 refine au z7 lM.eq_1 rfl ?_;have hlt:=yq hs;have hne:¬S.length=σ.length:=by omega
 have h:=P4 (σ:=[]::S) (lv:=σ.length) (G:=b.bk σ.length er) (R:=b.rules) (l:=b.yV) (now:=b.av.length) (by simp[gj,hne,hs]) (by simp[Bk.bk]) (by simp[Bk.bk]) (by omega) (by omega) (fun e he=>by have:=h3 e he;omega);have hc6:(b.bk σ.length er)[6]?=some (.cells 0 (b.cells σ.length)):=by simp[Bk.bk]
 unfold vS;by_cases hc:Trem.o8 b.rules b.yV b.av.length=0
 ·rw[if_pos hc]at h;simp[-length_flatMap,-map_take,hne,hs,hc6,Bk.cells,h,hc]
 ·rw[if_neg hc]at h;simp[-length_flatMap,-map_take,hne,hs,hc6,Bk.cells,h,hc]
def zC(σ:SK)(bp X:D)(keep:Int)(acc rest:List Int)(x:Abs.Exit)(e:Env)(σ':SK):Prop :=
 if gw rest (fun n=>bT n (-100000) 100000)=true then
  x=.exit 0∧get e 0=bp∧get e 6=X∧get e 8=.sl σ.length 0 (acc++rest.map (sK keep)).length 0 (acc++rest.map (sK keep)).length 1∧σ'=[.cells (acc++rest.map (sK keep)).length ((acc++rest.map (sK keep)).flatMap aU)]::σ
 else x=.fx (rf 2)∧∃s,σ'=s::σ
theorem Iy{l:List Int}{keep:Int}(hk:0≤keep∧keep≤1000)(hl:l.length≤1000000){bp X:D}(hb:bp.calm=bp)(hx:X.calm=X):∀(m i:Nat) (acc:List Int),i+m=l.length→acc.length=i →
  WL T [0,6,7,8,49,50,51] false jO [(0,bp),(6,X),(7,.int .i64 keep),(8,.sl σ.length 0 i 0 i 1),(49,.aE l.length (l.flatMap aU)),(50,.int .i64 l.length),(51,.int .i64 i)] ([.cells i (acc.flatMap aU)]::σ)
   (zC σ bp X keep acc (l.drop i))
 |0,i,acc,hi,ha=>by
  refine aH jO.eq_1 ?_;obtain rfl:i=l.length:=by omega
  have h5:l.drop l.length=[]:=az (by omega);simp[-length_flatMap,-map_take,h5,zC,ha,hb,hx,gw]
 |m+1,i,acc,hi,ha=>by
  refine aH jO.eq_1 ?_;have hlt:i<l.length:=by omega
  obtain⟨n,hn⟩:=gE hlt;have h4:=ga hlt (by omega);have h5:=dh hn;have a1:=cj (f:=aU) (w:=1) (fun _=>rfl) hn;simp only[aU,iw]at a1;rw[h5];have hr:(i+1)*8≤room:=by unfold room;omega
  cases hc:bT n (-100000) 100000 with
  |false =>
   simp[-length_flatMap,-map_take,hlt,a1,hb,hx,eH,hc,dj,zC,gw]
  |true =>
   have hn2:=aR.1 hc;have hcl:(acc.flatMap aU).length=i:=by simp[b9 (f:=aU) (w:=1) (fun _=>rfl),ha]
   have ht:(acc.flatMap aU).take i=acc.flatMap aU:=ah (by omega);have ih:=Iy hk hl hb hx m (i+1) (acc++[sK keep n]) (by omega) (by simp[ha]);have fin:∀x e σ',zC σ bp X keep (acc++[sK keep n]) (l.drop (i+1)) x e σ'→zC σ bp X keep acc (n::l.drop (i+1)) x e σ':=fun x e σ' hh=>by
    simp only[zC,gw,jk,hc,Bool.true_and,aM,pr,fL]at hh ⊢;exact hh
   by_cases hneg:n<0
   ·have e0:IntKind.i64.wrap (-n) = -n:=fK (by omega);have p1:0 ≤ -n*keep:=dS (by omega) hk.1;have p2 : -n*keep≤100000*1000:=la (by omega) hk.2 hk.1 (by omega);have e1:IntKind.i64.wrap (-n*keep) = -n*keep:=fK (by omega);have e2:(-n*keep).tdiv 1000 = -n*keep / 1000:=ba p1;have e3:IntKind.i64.wrap (-n*keep / 1000) = -n*keep / 1000:=fK (by omega);have e4:IntKind.i64.wrap (-(-n*keep / 1000)) = -(-n*keep / 1000):=fK (by omega);have e5:sK keep n = -(-n*keep / 1000):=by rw[sK,if_pos hneg,e2]
    rw[e5]at ih fin;generalize hq : -n*keep=q at e1 e2 e3 e4 ih fin;simp[-length_flatMap,-map_take,hlt,a1,hb,hx,eH,hc,cl,hneg,e0,hq,e1,e2,e3,e4,hr,h4,hcl,ht];exact WL.to ih (by simp) (by simp) fin
   ·have e5:sK keep n=n:=by rw[sK,if_neg hneg]
    rw[e5]at ih fin;simp[-length_flatMap,-map_take,hlt,a1,hb,hx,eH,hc,cl,hneg,hr,h4,hcl,ht];exact WL.to ih (by simp) (by simp) fin
theorem I5(l:List (List Int)):(l.flatMap pE).length=l.length:=by have:=b9 (f:=pE) (w:=1) (fun _=>rfl) l;omega
theorem Ft{bs:List Abs.aG}:lim T (.call true gB [.aI] (bs::σ))=some (.val (.sl σ.length (bs.length+1) 0 0 0 1) ((bs++[.cells 0 [],.cells 0 []])::σ)):=by
 refine vR u6 jA.eq_1 rfl ?_;simp[-length_flatMap,-map_take]
theorem Hv{bs:List Abs.aG}{l:List (List Int)}(hne:l≠[])(hl:l.length≤1000000):lim T (.call true gB [.aE l.length (l.flatMap pE)] (bs::σ)) =
  some (.val (.sl σ.length (bs.length+1) 1 0 l.length 1) ((bs++[.cells 0 [],.cells 1 (l.flatMap pE)])::σ)):=by
 refine vR u6 jA.eq_1 rfl ?_;have h7:l.length*24≤room:=by unfold room;omega
 simp[-length_flatMap,-map_take,hne,I5,h7]
theorem LP:E9=pE:=rfl
structure Sz(b:Bk):Prop where
 cc:b.bG.cc.length≤1000000000
 ak:b.bG.ak.length≤1000000
 ms:∀e∈b.an,e.m.name.length≤1000000000∧e.m.bf.length≤1000000000
theorem PB(b:cf)(m:cF)(av:List (List Int)):∃x y,yN b m av=.agg [x,y]∧x.clean=true∧y.clean=true:=by
 unfold yN;split
 ·split
  ·refine⟨_,_,rfl,?_,?_⟩<;>simp[fZ (f:=xM) (fun s=>by simp[xM,fZ (f:=Rock.aG.enc) (fun _=>by simp[D.clean])])]
  ·exact⟨_,_,rfl,rfl,rfl⟩
 ·exact⟨_,_,rfl,rfl,rfl⟩
theorem Ix{b:Bk}{er:List Int}{ls:List nh}{av:List (List Int)}(ht:b.bG.cc≠[])(hz:Sz b)(hm:∀e∈ls,e∈b.an)(hl:ls.length≤1000000)(hp:av.length≤1000000000)(hpl:∀l∈av,l.length≤1000000000){S:SK}(hs:gj S σ.length=some (b.bk σ.length er)):∀(m i:Nat),i+m=ls.length →
  WL T [0,11,80,81,82] false jP [(0,.ref σ.length 6 0 0),(11,.aE av.length (av.flatMap pE)),(80,.aE ls.length (ls.flatMap nh.enc)),(81,.int .i64 ls.length),(82,.int .i64 i)] S
   (fun x e σ'=>σ'=S∧if cN (fun e=>tV b.bG e.m av) (ls.drop i)=0 then x=.exit 2∧get e 0=.ref σ.length 6 0 0∧get e 11=.aE av.length (av.flatMap pE)else x=.fx (rf (cN (fun e=>tV b.bG e.m av) (ls.drop i))))
 |0,i,hi=>by
  refine aH jP.eq_1 ?_;have h1:¬i<ls.length:=by omega
  have h2:ls.drop i=[]:=az (by omega);simp[-length_flatMap,-map_take,h1,h2,cN]
 |m+1,i,hi=>by
  refine aH jP.eq_1 ?_;have h1:i<ls.length:=by omega
  obtain⟨e,he⟩:=gE h1;have hem:=hm e (ai he);obtain⟨k1,k2⟩:=hz.ms e hem;have hfl:=cj (f:=nh.enc) (w:=4) (fun _=>rfl) he;have hd:=dh he;have h4:=ga h1 (by omega);have hlt:=yq hs;have hne:S≠[]:=by intro h;subst h;simp at hlt
  have hP:=P5 (σ:=S) (b:=b.bG) (m:=e.m) (av:=av) (wq:=nl bB.enc b.bG.ak) tT hz.cc (by have:=hz.ak;omega) k1 k2 hp hpl hne;have hc6:(b.bk σ.length er)[6]?=some (.cells 0 (b.cells σ.length)):=by simp[Bk.bk]
  obtain⟨px,py,hx,hx1,hx2⟩:=PB b.bG e.m av;rw[hx,LP]at hP;have ih:=Ix ht hz hm hl hp hpl hs m (i+1) (by omega);have hlt':=dZ (f:=Rw.enc) ht;rw[hd,cN];by_cases hc:tV b.bG e.m av=0
  ·rw[hc]at hP;simp[-length_flatMap,-map_take,h1,hfl,h4,hs,hc6,Bk.cells,hlt',hP,hx1,hx2,og,hc,bj];exact WL.to ih (by simp) rfl fun x e' σ' hh=>by simpa[hc]using hh
  ·have hM:=pq (σ:=S) hc;simp[-length_flatMap,-map_take,h1,hfl,h4,hs,hc6,Bk.cells,hlt',hP,hx1,hx2,hM,hc,bj,rf]
def aaL(b:Bk)(av:List (List Int)):Bk:={b with av:=av }
def vi(b:Bk)(l:List Int):List (List Int):=b.av++[l.map (sK (CB b))]
def yh(b:Bk)(l:List Int):Bk×Int :=
 if bZ b.an=[]then(b,8)else if b.av.length<200 then(if l.length=b.bG.ak.length then(if gw l (fun n=>bT n (-100000) 100000)=true then
  (if cN (fun e=>tV b.bG e.m (vi b l)) (bZ b.an)=0 then(aaL b (vi b l),0)else(b,cN (fun e=>tV b.bG e.m (vi b l)) (bZ b.an)))else(b,2))else(b,1))else(b,3)
theorem Z1{f:D→SK→D×SK}{a b:List D}{S:SK}:ck.frzL f (a++b) S=((ck.frzL f a S).1++(ck.frzL f b (ck.frzL f a S).2).1,(ck.frzL f b (ck.frzL f a S).2).2):=by
 induction a generalizing S with
 |nil=>simp
 |cons d a ih=>simp[ih]
theorem Q3{l:List (List Int)}:D.bu (l.flatMap pE)=true:=fZ (f:=pE) (fun x=>by simp[pE,D.clean,bj]) l
theorem HO{S:SK}{L v n:Nat}(hS:S.length=L)(hL:0<L){av:List (List Int)}(hn:n=av.length+1){r:List Int}{M:Abs.aG}:
  ck 0 16 (.sl L 2 v 0 n 1) ([.cells r.length (r.flatMap aU),M,.cells v (av.flatMap pE++[.sl L 0 r.length 0 r.length 1])]::S)=(.aE n ((av++[r]).flatMap pE),[.dead,M,.dead]::S):=by
 have hne:S≠[]:=by intro h;subst h;simp at hS;omega
 subst hn;have hc:cells? ([Abs.aG.cells r.length (r.flatMap aU),M,.cells v (av.flatMap pE++[.sl L 0 r.length 0 r.length 1])]::S) L 2 v=some (av.flatMap pE++[.sl L 0 r.length 0 r.length 1]):=by simp[hS]
 rw[Z2 hL hc];have h3:¬L≤0:=by omega
 have h1:=AG (l:=0) (n:=15) (l':=L) (i:=0) (v:=r.length) (off:=0) (m:=r.length) (w:=1) (σ:=[Abs.aG.cells r.length (r.flatMap aU),M,.dead]::S) (cs:=r.flatMap aU) h3 (by simp[hS]) (by omega);have ht:(r.flatMap aU).take r.length=r.flatMap aU:=ah (by rw[AL];omega);have hp:=I5 av;have ht2:(av.flatMap pE).take (av.length+1)=av.flatMap pE:=ah (by omega);simp[hS,Z1,Q3,h1,ht,hp,ht2,bj,pE,List.take_append]
theorem abZ{F:List Abs.aG}{b:Bk}{er:List Int}{nm:List UInt8}{l:List Int}{b':Bk}{e:Int}(ht:b.bG.cc≠[])(hz:Sz b)(hll:l.length≤1000000)(hml:b.an.length≤40)(h1:b.rules.length≤1000000)(h2:b.yV.length≤1000000)(h3:∀e∈b.yV,e.sp.length≤1000000)(hk:Trem.qG b.k0 b.k1 b.k2=true)(hpl:∀l∈b.av,l.length≤1000000000)(hd:yh b l=(b',e))(he:e=0):
  lim T (.call false fF [.ref σ.length 6 0 0,.str nm,.aE l.length (l.flatMap aU)] (F::b.bk σ.length er::σ))=some (.val (.dQ []) (F::b'.bk σ.length er::σ)):=by
 refine fU vE kb.eq_1 rfl (by simp) ?_;unfold yh at hd;split at hd
 case isTrue=>cases hd;cases he
 rename_i c1;split at hd
 case isFalse=>cases hd;cases he
 rename_i c2;split at hd
 case isFalse=>cases hd;cases he
 rename_i c3;split at hd
 case isFalse=>cases hd;cases he
 rename_i c4;split at hd
 case isFalse=>cases hd;rename_i h;exact absurd he h
 rename_i c5;cases hd;obtain⟨kp0,kp,hkp,hkp2,hkp3⟩:∃c kp:Int,vS b=c∧CB b=kp∧((c=0∧kp=b.k0)∨(c=1∧kp=b.k1)∨(c=2∧kp=b.k2)):=by
  refine⟨_,_,rfl,rfl,?_⟩;have:=HF (b:=b);unfold CB;split
  ·rename_i h;exact .inl ⟨h,rfl⟩
  ·split
   ·rename_i h;exact .inr (.inl ⟨h,rfl⟩)
   ·refine .inr (.inr ⟨by omega,rfl⟩)
 have hkb:0≤kp∧kp≤1000:=by
  simp only[Trem.qG,ae,ao]at hk;rcases hkp3 with⟨_,rfl⟩ | ⟨_,rfl⟩ | ⟨_,rfl⟩<;>omega
 have q1:0<(bZ b.an).length:=aO.2 c1;have q2:(b.av.length:Int)<200:=by omega
 have hC:=fun S=>JA (σ:=σ) (b:=b) (er:=er) (S:=S) h1 h2 h3
 have hLf:=fun S=>DM (σ:=σ) (b:=b) (er:=er) (S:=S) (by omega)
 have hR:=Iy (σ:=F::b.bk σ.length er::σ) hkb hll (bp:=.ref σ.length 6 0 0) (X:=.aE (bZ b.an).length ((bZ b.an).flatMap nh.enc)) rfl rfl l.length 0 [] (by omega) rfl;rw[aJ]at hR;rw[hkp]at hC;simp only[Bk.bk,Bk.cells]at hC hLf;have hw:(b.bG.ak.length:Int)=(l.length:Int):=by omega
 rcases hkp3 with⟨rfl,e2⟩ | ⟨rfl,e2⟩ | ⟨rfl,e2⟩
 all_goals
  subst e2;simp[-length_flatMap,-map_take,Bk.bk,Bk.cells,hLf,q1,q2,hw,hC,cl];refine WL.to hR (by simp) (by simp[Bk.bk,Bk.cells]) ?_;intro x e σ' hq;simp only[zC,if_pos c4,List.nil_append]at hq;obtain⟨rfl,g0,g6,g8,rfl⟩:=hq;have hnp:vi b l=b.av++[l.map (sK (CB b))]:=rfl;rw[hkp2]at hnp;rw[hnp]at c5 ⊢;generalize hrs:l.map (sK _)=rs at g8 c5 ⊢;have hrl:rs.length=l.length:=by rw[← hrs];simp
  have hroom:(b.av.length+1)*24≤room:=by unfold room;omega
  have h24:24≤room:=by unfold room;omega
  have hpel:=I5 b.av;have htk:(b.av.flatMap pE).take b.av.length=b.av.flatMap pE:=ah (by omega);have hfr:=fun S v hS=>HO (S:=S) (L:=σ.length+1+1) (v:=v) (n:=b.av.length+1) hS (by omega) (av:=b.av) rfl (r:=rs) (M:=.cells 0 [])
  have hLp:=Ix (σ:=σ) (b:=b) (er:=er) (ls:=bZ b.an) (av:=b.av++[rs]) ht hz (fun e he=>(cT.1 he).1) (by have:=iK (fun e:nh=>e.left) b.an;simp only[bZ];omega) (by simp;omega) (by
   intro r hr;rcases aY.1 hr with hr | hr
   ·exact hpl r hr
   ·simp at hr;subst hr;omega) (S:=[.dead,.cells 0 [],.dead]::F::b.bk σ.length er::σ) (by simp[gj]) (bZ b.an).length 0 (by omega)
  rw[aJ]at hLp;have hcl:∀k,(D.aE k (b.av.flatMap pE++pE rs)).clean=true:=fun k=>by simp[BX,Q3,pE,bj]
  have hcl0:∀k,(D.aE k (pE rs)).clean=true:=fun k=>by simp[pE,bj]
  have hnl2:=dZ (f:=pE) (l:=b.av++[rs]) (by simp);simp only[bI,aD,bh,eh,aQ,cg,cS]at hnl2;by_cases hp0:b.av=[]
  ·have hnl:nl pE b.av=.aI:=by simp[nl,hp0]
   have hfr':=hfr;simp only[hp0,bh,cg,List.nil_append,cG]at hfr';simp[-length_flatMap,-map_take,g0,g6,g8,Bk.bk,Bk.cells,hnl,Ft,h24,hfr'];refine WL.to hLp (by simp[hp0]) (by simp[Bk.bk,Bk.cells,hnl]) ?_;rintro x e σ' ⟨rfl,hh⟩;rw[c5,if_pos rfl]at hh;obtain⟨rfl,j0,j11⟩:=hh;simp[-length_flatMap,-map_take,j0,j11,Bk.bk,Bk.cells,aaL,hnl,hnl2,hcl]
  ·simp[-length_flatMap,-map_take,g0,g6,g8,Bk.bk,Bk.cells,dZ hp0,Hv hp0 (by omega:b.av.length≤1000000),hroom,hpel,htk,hfr];refine WL.to hLp (by simp) (by simp[Bk.bk,Bk.cells,dZ hp0]) ?_;rintro x e σ' ⟨rfl,hh⟩;rw[c5,if_pos rfl]at hh;obtain⟨rfl,j0,j11⟩:=hh;simp[-length_flatMap,-map_take,j0,j11,Bk.bk,Bk.cells,aaL,dZ hp0,hnl2,hcl]
theorem Qz{F:List Abs.aG}{b:Bk}{er:List Int}{nm:List UInt8}{l:List Int}{b':Bk}{e:Int}(ht:bZ b.an≠[]→b.bG.cc≠[])(hz:Sz b)(hll:l.length≤1000000)(hml:b.an.length≤40)(h1:b.rules.length≤1000000)(h2:b.yV.length≤1000000)(h3:∀e∈b.yV,e.sp.length≤1000000)(hk:Trem.qG b.k0 b.k1 b.k2=true)(hpl:∀l∈b.av,l.length≤1000000000)(hd:yh b l=(b',e))(he:e≠0):
  lim T (.call false fF [.ref σ.length 6 0 0,.str nm,.aE l.length (l.flatMap aU)] (F::b.bk σ.length er::σ))=some (.fx (rf e) (F::b.bk σ.length er::σ)):=by
 refine dJ vE kb.eq_1 rfl ?_;have hLf:=fun S=>DM (σ:=σ) (b:=b) (er:=er) (S:=S) (by omega)
 simp only[Bk.bk,Bk.cells]at hLf;unfold yh at hd;split at hd
 case isTrue c1 =>
  cases hd;simp[-length_flatMap,-map_take,Bk.bk,Bk.cells,hLf,c1,dj,D.clean,rf]
 rename_i c1;have ht:=ht c1;have q1:0<(bZ b.an).length:=aO.2 c1;split at hd
 case isFalse c2 =>
  cases hd;have q2:¬(b.av.length:Int)<200:=by omega
  simp[-length_flatMap,-map_take,Bk.bk,Bk.cells,hLf,q1,q2,cl,dj,D.clean,rf]
 rename_i c2;have q2:(b.av.length:Int)<200:=by omega
 split at hd
 case isFalse c3 =>
  cases hd;have q3:((l.length:Int) == (b.bG.ak.length:Int))=false:=by simp;omega
  simp[-length_flatMap,-map_take,Bk.bk,Bk.cells,hLf,q1,q2,q3,cl,dj,D.clean,rf]
 rename_i c3;obtain⟨kp0,kp,hkp,hkp2,hkp3⟩:∃c kp:Int,vS b=c∧CB b=kp∧((c=0∧kp=b.k0)∨(c=1∧kp=b.k1)∨(c=2∧kp=b.k2)):=by
  refine⟨_,_,rfl,rfl,?_⟩;have:=HF (b:=b);unfold CB;split
  ·rename_i h;exact .inl ⟨h,rfl⟩
  ·split
   ·rename_i h;exact .inr (.inl ⟨h,rfl⟩)
   ·refine .inr (.inr ⟨by omega,rfl⟩)
 have hkb:0≤kp∧kp≤1000:=by
  simp only[Trem.qG,ae,ao]at hk;rcases hkp3 with⟨_,rfl⟩ | ⟨_,rfl⟩ | ⟨_,rfl⟩<;>omega
 have hC:=fun S=>JA (σ:=σ) (b:=b) (er:=er) (S:=S) h1 h2 h3
 have hR:=Iy (σ:=F::b.bk σ.length er::σ) hkb hll (bp:=.ref σ.length 6 0 0) (X:=.aE (bZ b.an).length ((bZ b.an).flatMap nh.enc)) rfl rfl l.length 0 [] (by omega) rfl;rw[aJ]at hR;rw[hkp]at hC;simp only[Bk.bk,Bk.cells]at hC;have hw:(b.bG.ak.length:Int)=(l.length:Int):=by omega
 split at hd
 case isFalse c4 =>
  cases hd;have c4':¬gw l (fun n=>bT n (-100000) 100000)=true:=c4;rcases hkp3 with⟨rfl,e2⟩ | ⟨rfl,e2⟩ | ⟨rfl,e2⟩
  all_goals
   subst e2;simp[-length_flatMap,-map_take,Bk.bk,Bk.cells,hLf,q1,q2,hw,hC,cl];refine WL.to hR (by simp) (by simp[Bk.bk,Bk.cells]) ?_;intro x e σ' hq;simp only[zC,if_neg c4']at hq;obtain⟨rfl,s,rfl⟩:=hq;simp[Bk.bk,Bk.cells,D.clean,rf]
 rename_i c4;split at hd
 case isTrue=>cases hd;exact absurd rfl he
 rename_i c5;cases hd;have hM:=fun S=>pq (σ:=S) c5
 have he':=c5;rcases hkp3 with⟨rfl,e2⟩ | ⟨rfl,e2⟩ | ⟨rfl,e2⟩
 all_goals
  subst e2;simp[-length_flatMap,-map_take,Bk.bk,Bk.cells,hLf,q1,q2,hw,hC,cl];refine WL.to hR (by simp) (by simp[Bk.bk,Bk.cells]) ?_;intro x e σ' hq;simp only[zC,if_pos c4,List.nil_append]at hq;obtain⟨rfl,g0,g6,g8,rfl⟩:=hq;have hnp:vi b l=b.av++[l.map (sK (CB b))]:=rfl;rw[hkp2]at hnp;rw[hnp]at c5 ⊢;generalize hrs:l.map (sK _)=rs at g8 c5 ⊢;have hrl:rs.length=l.length:=by rw[← hrs];simp
  have hroom:(b.av.length+1)*24≤room:=by unfold room;omega
  have h24:24≤room:=by unfold room;omega
  have hpel:=I5 b.av;have htk:(b.av.flatMap pE).take b.av.length=b.av.flatMap pE:=ah (by omega);have hfr:=fun S v hS=>HO (S:=S) (L:=σ.length+1+1) (v:=v) (n:=b.av.length+1) hS (by omega) (av:=b.av) rfl (r:=rs) (M:=.cells 0 [])
  have hLp:=Ix (σ:=σ) (b:=b) (er:=er) (ls:=bZ b.an) (av:=b.av++[rs]) ht hz (fun e he=>(cT.1 he).1) (by have:=iK (fun e:nh=>e.left) b.an;simp only[bZ];omega) (by simp;omega) (by
   intro r hr;rcases aY.1 hr with hr | hr
   ·exact hpl r hr
   ·simp at hr;subst hr;omega) (S:=[.dead,.cells 0 [],.dead]::F::b.bk σ.length er::σ) (by simp[gj]) (bZ b.an).length 0 (by omega)
  rw[aJ]at hLp;have hcl:∀k,(D.aE k (b.av.flatMap pE++pE rs)).clean=true:=fun k=>by simp[BX,Q3,pE,bj]
  have hcl0:∀k,(D.aE k (pE rs)).clean=true:=fun k=>by simp[pE,bj]
  have hnl2:=dZ (f:=pE) (l:=b.av++[rs]) (by simp);simp only[bI,aD,bh,eh,aQ,cg,cS]at hnl2;generalize herr:cN (fun e=>tV b.bG e.m (b.av++[rs])) (bZ b.an)=err at c5 ⊢;have hrc:(D.tQ 90 (.agg [.int .i64 err])).clean=true:=rfl;by_cases hp0:b.av=[]
  ·have hnl:nl pE b.av=.aI:=by simp[nl,hp0]
   have hfr':=hfr;simp only[hp0,bh,cg,List.nil_append,cG]at hfr';simp[-length_flatMap,-map_take,g0,g6,g8,Bk.bk,Bk.cells,hnl,Ft,h24,hfr'];refine WL.to hLp (by simp[hp0]) (by simp[Bk.bk,Bk.cells,hnl]) ?_;rintro x e σ' ⟨rfl,hh⟩;rw[herr,if_neg c5]at hh;subst hh;simp[Bk.bk,Bk.cells,rf,hrc,hnl]
  ·simp[-length_flatMap,-map_take,g0,g6,g8,Bk.bk,Bk.cells,dZ hp0,Hv hp0 (by omega:b.av.length≤1000000),hroom,hpel,htk,hfr];refine WL.to hLp (by simp) (by simp[Bk.bk,Bk.cells,dZ hp0]) ?_;rintro x e σ' ⟨rfl,hh⟩;rw[herr,if_neg c5]at hh;subst hh;simp[Bk.bk,Bk.cells,rf,hrc,dZ hp0]
end Go.Proofs.YtklfdfnoebnciaaGreatDoor
set_option maxRecDepth 100000
namespace Go.Proofs.YtklfdfnoebnciaaGreatDoor
open List(length_flatMap map_take)
open Go Go.Abs Go.Rock
variable {σ:SK}
def zL(t:Int×Int×Int):List D:=[.int .i64 t.1,.int .i64 t.2.1,.int .i64 t.2.2]
theorem adj(l:List (Int×Int×Int)):(l.flatMap zL).length=l.length*3:=b9 (f:=zL) (w:=3) (fun _=>rfl) l
end Go.Proofs.YtklfdfnoebnciaaGreatDoor
set_option maxRecDepth 100000
namespace Go.Proofs.YtklfdfnoebnciaaGreatDoor
open List(length_flatMap map_take)
open Go Go.Abs Go.Rock
variable {σ:SK}
theorem OK{b:cf}{x:vO}{n:Nat}(h:Bv b)(hw:0≤x.qI∧x.qI≤255):
  lim T (.call false lD [.agg [.int .i64 b.f.x,.int .i64 b.f.y,.int .i64 b.f.z,.int .i64 b.f.k,.aE b.cc.length (b.cc.flatMap Rw.enc),.int .i64 b.bD,.int .i64 b.lift,.int .i64 b.deep,.aE b.ak.length (b.ak.flatMap bB.enc)],.agg x.enc,.int .i64 n] σ)=some (.val (.int .i64 (vk b n x)) σ):=by
 refine au Ch ow.eq_1 rfl ?_;have hs:=fun σ=>yu (σ:=σ) h
 have hz:=h.sz;have hn:=h.n;have hwl:=h.ak;have w1:=fK (n:=x.qI) (by omega);have w2:=fK (n:=(b.n:Int)-1) (by omega);have w3:=fK (n:=(b.ak.length:Int)-1) (by omega);unfold vk;cases c1:bT x.qI 1 4
 ·simp[-length_flatMap,-map_take,dp,w1,c1]
 by_cases c2:x.lo < -10000000000
 ·simp[-length_flatMap,-map_take,dp,w1,c1,c2]
 by_cases c3:x.hi<x.lo
 ·simp[-length_flatMap,-map_take,dp,w1,c1,c2,c3]
 by_cases c4:10000000000<x.hi
 ·simp[-length_flatMap,-map_take,dp,w1,c1,c2,c3,c4]
 have hsz:b.size=(b.n:Int):=hz;by_cases c5:x.qI=1
 ·cases c6:bT x.tick 0 n
  ·simp[-length_flatMap,-map_take,dp,w1,w2,show bT 1 1 4=true from rfl,c2,c3,c4,c5,c6,hs,cq,bg]
  ·cases c7:bT x.idx 0 ((b.n:Int)-1)<;>
    simp[-length_flatMap,-map_take,dp,w1,w2,show bT 1 1 4=true from rfl,c2,c3,c4,c5,c6,c7,hs,hsz,cq,bg]
 ·cases c6:bT x.tick 1 n
  ·simp[-length_flatMap,-map_take,dp,w1,w3,c1,c2,c3,c4,c5,c6,cq,bg]
  ·cases c7:bT x.idx 0 ((b.ak.length:Int)-1)<;>
    simp[-length_flatMap,-map_take,dp,w1,w3,c1,c2,c3,c4,c5,c6,c7,cq,bg]
theorem abV{lo hi n:Int}(h1 : -10000000000≤lo∧lo≤10000000000)(h2 : -10000000000≤hi∧hi≤10000000000)(hn : -100000000000000≤n∧n≤100000000000000):
  lim T (.call false mO [.agg [.int .i64 lo,.int .i64 hi],.int .i64 n] σ)=some (.val (.int .i64 (AP lo hi n)) σ):=by
 refine au CW pG.eq_1 rfl ?_;have w1:=fK (n:=n-hi) (by omega);have w2:=fK (n:=n-lo) (by omega);have w3:=fK (n:=max 0 (n-hi)+min 0 (n-lo)) (by omega);simp[-length_flatMap,-map_take,w1,w2,w3,AP]
theorem QB{y:Rock.aG}(h1:0≤y.m∧y.m≤1000000)(h2:0≤y.h∧y.h≤10000000000):lim T (.call false ig [.agg y.enc] σ)=some (.val (.int .i64 y.Et) σ):=by
 refine au BF nC.eq_1 rfl ?_;unfold Rock.aG.Et;by_cases c:y.m=0
 ·simp[-length_flatMap,-map_take,c]
 ·have e:y.h.tdiv y.m=y.h / y.m:=ba h2.1;have b1:0≤y.h / y.m∧y.h / y.m≤y.h:=⟨Int.ediv_nonneg h2.1 h1.1,Int.ediv_le_self _ h2.1⟩;have w1:=fK (n:=y.h.tdiv y.m) (by omega);simp[-length_flatMap,-map_take,c,w1]
theorem Iu:lim T (.call false tO [] σ)=some (.val (.agg [.ir,.ir,.fn jT [] [],.fn ig [] [],.fn ja [] []]) σ):=by
 refine au IC vV.eq_1 rfl ?_;simp[-length_flatMap,-map_take]
theorem abl{y:Rock.aG}(h1:0≤y.m∧y.m≤1000000)(h2:0≤y.h∧y.h≤10000000000):0≤y.Et∧y.Et≤10000000000:=by
 unfold Rock.aG.Et;split
 ·omega
 ·rw[ba h2.1];have b1:0≤y.h / y.m∧y.h / y.m≤y.h:=⟨Int.ediv_nonneg h2.1 h1.1,Int.ediv_le_self _ h2.1⟩;omega
theorem Oc{b:cf}{m:cF}{r:RunT}{n:Nat}{x:vO}(h:Fv b m)(hr:JM b n r.1 r.2)(hx:Rdv b n x):0≤vl b m r x∧vl b m r x≤1000000000000:=by
 unfold vl;split
 ·rename_i h1;obtain⟨p1,p2,p3⟩:=hx.p h1;have hz:=h.bv.sz;obtain⟨s1,s2⟩:=ajC hr (t:=x.tick.toNat) (by omega);rw[s1];have:=I7 h s2 (i:=x.idx.toNat) (by unfold cf.size at p3;omega);simp only[gv];omega
 ·rename_i h1;obtain⟨p1,p2,p3⟩:=hx.y h1;obtain⟨y1,y2⟩:=aaQ hr (t:=x.tick.toNat-1) (by omega);have y3:=ajR y2 (w:=x.idx.toNat) (by omega);obtain⟨g1,g2,g3⟩:=y2.ok _ (ai y3);rw[y1];simp only[gv,Rock.aG.KW];have:=abl g1 g2;split
  ·omega
  ·split<;>omega
theorem ab2{b:cf}{m:cF}{r:RunT}{n:Nat}{x:vO}(h:Fv b m)(hr:JM b n r.1 r.2)(hx:Rdv b n x)(hn:n≤200):
  lim T (.call false kl [.agg [.int .i64 b.f.x,.int .i64 b.f.y,.int .i64 b.f.z,.int .i64 b.f.k,.aE b.cc.length (b.cc.flatMap Rw.enc),.int .i64 b.bD,.int .i64 b.lift,.int .i64 b.deep,.aE b.ak.length (b.ak.flatMap bB.enc),.str m.name,.aE m.bf.length (m.bf.flatMap aU)],.agg [.aE r.1.length (r.1.flatMap xM),.aE r.2.length (r.2.flatMap xM)],.agg x.enc] σ)=some (.val (.int .i64 (vl b m r x)) σ):=by
 refine au BJ nG.eq_1 rfl ?_;unfold vl;have hsl:=hr.sl;have hyl:=hr.yl;by_cases h1:x.qI=1
 ·obtain⟨p1,p2,p3⟩:=hx.p h1;have hz:=h.bv.sz;obtain⟨s1,s2⟩:=ajC hr (t:=x.tick.toNat) (by omega);have hP:=fun σ=>Fy (σ:=σ) h s2 (i:=x.idx.toNat) (by unfold cf.size at p3;omega)
  rw[fy p2]at hP;have a1:=aa9 s1;have e2:x.tick<((n:Int)+1):=by omega
  rw[s1];simp[-length_flatMap,-map_take,h1,hsl,p1.1,e2,a1,hP]
 ·obtain⟨p1,p2,p3⟩:=hx.y h1;obtain⟨y1,y2⟩:=aaQ hr (t:=x.tick.toNat-1) (by omega);have y3:=ajR y2 (w:=x.idx.toNat) (by omega);obtain⟨g1,g2,g3⟩:=y2.ok _ (ai y3);have a1:=aa9 y1;have a4:=cj (f:=aG.enc) (w:=3) (fun _=>rfl) y3;have hyw:=y2.len;have w1:=fK (n:=x.tick-1) (by omega);have e1:0≤x.tick-1:=by omega
  have e2:x.tick-1<(n:Int):=by omega
  have e3:(x.tick-1).toNat=x.tick.toNat-1:=by omega
  have hw:=hx.qI;rw[if_neg h1,y1];have hA:=fun σ=>ab3 (σ:=σ) (x:=bM (rowAt r.2 (x.tick.toNat-1)) x.idx.toNat)
  have hK:=fun σ=>QE (σ:=σ) (x:=bM (rowAt r.2 (x.tick.toNat-1)) x.idx.toNat)
  simp only[aG.enc]at hA hK;rcases(show x.qI=2∨x.qI=3∨x.qI=4 by omega)with h2 | h2 | h2
  ·simp[-length_flatMap,-map_take,h2,hyl,w1,p1.1,e1,e2,e3,a1,a4,Iu,hA,hyw,p2,p3,Rock.aG.KW]
  ·have hW:=fun σ=>QB (σ:=σ) g1 g2
   simp only[aG.enc]at hW;simp[-length_flatMap,-map_take,h2,hyl,w1,p1.1,e1,e2,e3,a1,a4,Iu,hW,hyw,p2,p3,Rock.aG.KW]
  ·simp[-length_flatMap,-map_take,h2,hyl,w1,p1.1,e1,e2,e3,a1,a4,Iu,hK,hyw,p2,p3,Rock.aG.KW]
end Go.Proofs.YtklfdfnoebnciaaGreatDoor
set_option maxRecDepth 100000
namespace Go.Proofs.YtklfdfnoebnciaaGreatDoor
open List(length_flatMap map_take)
open Go Go.Abs Go.Rock
variable {σ:SK}
theorem Ob{l:List vO}{j:Nat}{m:vO}(h:l[j]?=some m):((l.flatMap vO.enc).drop (j*5)).take 5=m.enc :=
 cj (f:=vO.enc) (w:=5) (fun _=>rfl) h
theorem OP{A B:Abs.aG}:lim T (.xj fg [.ref σ.length 2 0 0] (some (.tQ 259 (.agg []))) ([A,B,.cells 0 [.int .i64 0]]::σ))=some (.val (.dQ []) ([A,B,.cells 0 [.int .i64 9]]::σ)):=by
 refine Ax xZ pc.eq_1 rfl (by simp[-length_flatMap,-map_take,rJ];exact⟨rfl,rfl⟩) ?_;simp[-length_flatMap,-map_take]
theorem LF(l:List vO):D.bu (l.flatMap vO.enc)=true:=fZ (fun x=>by simp) l
theorem IJ(l:List (List Int)):D.bu (l.flatMap E9)=true:=fZ (fun x=>by simp[E9,D.clean,bj]) l
theorem AF{l0 L i w n:Nat}{S:SK}(hn:0<n)(h:¬L≤l0)(hc:cells? S L i 0=some []):ck l0 n (.sl L i 0 0 0 w) S=(.aE 0 [],aT S L i .dead):=by
 rw[AG h hc hn];simp
theorem NL{l0 L i w:Nat}{S:SK}(h:¬L≤l0)(hc:cells? S L i 0=some []):ck l0 16 (.sl L i 0 0 0 w) S=(.aE 0 [],aT S L i .dead):=AF (by omega) h hc
theorem QL{b:cf}{l:List cF}{av:List (List Int)}{rd:List vO}(h:Ok b l av)(hl:rd.length≤40)(hw:∀x∈rd,0≤x.qI∧x.qI≤255){A B:Abs.aG}:∀(k i:Nat),i+k=rd.length →
  WL T [1,2,3,4,8,9,10,32,33,34] true oB [(1,.aE l.length (l.flatMap cF.enc)),(2,.aE av.length (av.flatMap E9)),(3,.aE rd.length (rd.flatMap vO.enc)),(4,.bw [.int .i64 b.f.x,.int .i64 b.f.y,.int .i64 b.f.z,.int .i64 b.f.k,.aE b.cc.length (b.cc.flatMap Rw.enc),.int .i64 b.bD,.int .i64 b.lift,.int .i64 b.deep,.aE b.ak.length (b.ak.flatMap bB.enc)]),(8,.sl σ.length 0 0 0 0 1),(9,.sl σ.length 1 0 0 0 3),(10,.ref σ.length 2 0 0),(32,.aE rd.length (rd.flatMap vO.enc)),(33,.int .i64 rd.length),(34,.int .i64 i)] ([A,B,.cells 0 [.int .i64 0]]::σ)
   (fun x e σ'=>if cN (vk b av.length) (rd.drop i)=0 then x=.exit 0∧σ'=[A,B,.cells 0 [.int .i64 0]]::σ∧get e 1=.aE l.length (l.flatMap cF.enc)∧get e 2=.aE av.length (av.flatMap E9)∧get e 3=.aE rd.length (rd.flatMap vO.enc)∧get e 4=.bw [.int .i64 b.f.x,.int .i64 b.f.y,.int .i64 b.f.z,.int .i64 b.f.k,.aE b.cc.length (b.cc.flatMap Rw.enc),.int .i64 b.bD,.int .i64 b.lift,.int .i64 b.deep,.aE b.ak.length (b.ak.flatMap bB.enc)]∧get e 8=.sl σ.length 0 0 0 0 1∧get e 9=.sl σ.length 1 0 0 0 3∧get e 10=.ref σ.length 2 0 0
    else x=.ret∧get e 8=.aE 0 []∧get e 9=.aE 0 []∧get e 10=.ref σ.length 2 0 0∧σ'=[A,B,.cells 0 [.int .i64 (cN (vk b av.length) (rd.drop i))]]::σ):=by
 intro k;induction k with
 |zero =>
  intro i hi;refine C6 oB.eq_1 ?_;have h1:¬i<rd.length:=by omega
  have h2:rd.drop i=[]:=az (by omega);simp[-length_flatMap,-map_take,h1,h2,cN,LD,LF,cq,bg,IJ]
 |succ k ih0 =>
  intro i hi;refine C6 oB.eq_1 ?_;have h1:i<rd.length:=by omega
  obtain⟨x,hx⟩:=gE h1;have h2:=Ob hx;have h4:=ga h1 (by omega);have h5:=dh hx;have hC:=fun σ=>OK (σ:=σ) (n:=av.length) h.bv (hw x (ai hx))
  simp only[vO.enc]at h2 hC;have ih:=ih0 (i+1) (by omega);rw[h5,cN];by_cases hc:vk b av.length x=0
  ·simp[-length_flatMap,-map_take,h1,h2,h4,hC,hc,LD,LF,cq,bg,IJ];exact WL.to ih (by simp) (by simp) fun x e σ hh=>by simpa[hc]using hh
  ·simp[-length_flatMap,-map_take,h1,h2,h4,hC,hc,LD,LF,cq,bg,IJ];have z:=NL (l0:=σ.length) (L:=σ.length+1) (i:=0) (w:=1) (S:=[.cells 0 [],.cells 0 []]::[A,B,.cells 0 [D.int .i64 (vk b (av.length:Int) x)]]::σ) (by omega) (by simp);simp at z;rw[z];simp only[];rw[NL (by omega) (by simp)];simp
end Go.Proofs.YtklfdfnoebnciaaGreatDoor
set_option maxRecDepth 100000
namespace Go.Proofs.YtklfdfnoebnciaaGreatDoor
open List(length_flatMap map_take)
open Go Go.Abs Go.Rock
variable {σ:SK}
abbrev Tri:=Int×Int×Int
def yR(i n:Nat):Nat→List Int→Nat×List Tri→Nat×List Tri
 |_,[],st=>st
 |k,v::vs,st=>yR i n (k+1) vs (if v≠0∧st.1=n then(k,st.2++[((i:Int),(k:Int),v)])else st)
theorem GK{i n:Nat}:∀(vs:List Int) (k:Nat) (st:Nat×List Tri),st.1≠n→yR i n k vs st=st
 |[],k,st,h=>rfl
 |v::vs,k,st,h=>by
  simp only[yR];rw[if_neg (fun hh=>h hh.2)];exact GK vs (k+1) st h
theorem Ii{i n:Nat}:∀(vs:List Int) (k:Nat) (st:Nat×List Tri),k+vs.length=n→(st.1≠n→st.1<n)→(yR i n k vs st).2.length≤st.2.length+1∧(yR i n k vs st).1≤n
 |[],k,st,h,hh=>by simp only[yR];exact⟨by omega,Classical.byContradiction fun h1=>by have:=hh (by omega);omega⟩
 |v::vs,k,st,h,hh=>by
  simp only[yR];simp only[aD]at h;by_cases hc:v≠0∧st.1=n
  ·rw[if_pos hc,GK vs (k+1) _ (by simp only;omega)];simp;omega
  ·rw[if_neg hc];exact Ii vs (k+1) st (by omega) hh
def B5(b:cf)(m:cF)(r:RunT)(rd:List vO):List Int:=rd.map fun x=>AP x.lo x.hi (vl b m r x)
theorem H3(b:cf)(m:cF)(r:RunT)(rd:List vO):(B5 b m r rd).length=rd.length:=by simp[B5]
theorem akm{b:cf}{l:List cF}{av:List (List Int)}{rd:List vO}{rs:List RunT}{m:cF}{r:RunT}{i:Nat}(h:Ok b l av)(hR:Rs b l av.length rs)(hl:rd.length≤40)(hx:∀x∈rd,Rdv b av.length x)(hm:l[i]?=some m)(hr:rs[i]?=some r){A B:Abs.aG}{L10:Nat}{s0:Nat}(hs0:s0≤100):
  ∀(k j:Nat) (st:Nat×List Tri),j+k=rd.length→st.1≤rd.length→st.2.length≤s0+j →
  WL T [3,4,8,9,10,15,16,17,18,51,52,53,60,61,62] false oC [(3,.aE rd.length (rd.flatMap vO.enc)),(4,.bw [.int .i64 b.f.x,.int .i64 b.f.y,.int .i64 b.f.z,.int .i64 b.f.k,.aE b.cc.length (b.cc.flatMap Rw.enc),.int .i64 b.bD,.int .i64 b.lift,.int .i64 b.deep,.aE b.ak.length (b.ak.flatMap bB.enc)]),(8,.sl σ.length 0 L10 0 L10 1),(9,.sl σ.length 1 st.2.length 0 st.2.length 3),(10,.ref σ.length 2 0 0),(15,.aE rs.length (rs.flatMap CI)),(16,.int .i64 i),(17,.own 0 [.str m.name,.aE m.bf.length (m.bf.flatMap aU)]),(18,.int .i64 st.1),(51,.aE l.length (l.flatMap cF.enc)),(52,.int .i64 l.length),(53,.int .i64 i),(60,.aE rd.length (rd.flatMap vO.enc)),(61,.int .i64 rd.length),(62,.int .i64 j)]
   ([A,.cells st.2.length (st.2.flatMap zL),B]::σ)
   (fun x e σ'=>x=.exit 4∧∃st',st'=yR i rd.length j ((B5 b m r rd).drop j) st∧get e 3=.aE rd.length (rd.flatMap vO.enc)∧get e 4=.bw [.int .i64 b.f.x,.int .i64 b.f.y,.int .i64 b.f.z,.int .i64 b.f.k,.aE b.cc.length (b.cc.flatMap Rw.enc),.int .i64 b.bD,.int .i64 b.lift,.int .i64 b.deep,.aE b.ak.length (b.ak.flatMap bB.enc)]∧get e 8=.sl σ.length 0 L10 0 L10 1∧get e 9=.sl σ.length 1 st'.2.length 0 st'.2.length 3∧get e 10=.ref σ.length 2 0 0∧get e 15=.aE rs.length (rs.flatMap CI)∧get e 16=.int .i64 i∧get e 18=.int .i64 st'.1∧get e 51=.aE l.length (l.flatMap cF.enc)∧get e 52=.int .i64 l.length∧get e 53=.int .i64 i ∧
    σ'=[A,.cells st'.2.length (st'.2.flatMap zL),B]::σ):=by
 intro k;induction k with
 |zero =>
  intro j st hj h1 h2;refine aH oC.eq_1 ?_;have h3:¬j<rd.length:=by omega
  have h4:(B5 b m r rd).drop j=[]:=az (by rw[H3];omega);simp[-length_flatMap,-map_take,h3,h4,yR]
 |succ k ih0 =>
  intro j st hj g1 g2;refine aH oC.eq_1 ?_;have h1:j<rd.length:=by omega
  obtain⟨x,hxj⟩:=gE h1;have hmm:=ai hm;have hrr:=hR.all r (ai hr);have hxv:=hx x (ai hxj);have h2:=Ob hxj;have h4:=ga h1 (by omega);have hpl:=h.PC;have hi:i<rs.length:=(aw.1 hr).1;have hV:=fun σ=>ab2 (σ:=σ) (h.fv m hmm) hrr hxv hpl
  have hb:=Oc (h.fv m hmm) hrr hxv;have hen:=hxv.ends;have hM:=fun σ=>abV (σ:=σ) (lo:=x.lo) (hi:=x.hi) (n:=vl b m r x) (by omega) (by omega) (by omega)
  have a1:=acY hr;have e1:(B5 b m r rd)[j]?=some (AP x.lo x.hi (vl b m r x)):=by simp[B5,hxj]
  have h5:=dh e1;simp only[vO.enc]at h2 hV;have a7:=adj st.2;have a8:(st.2.flatMap zL).take (st.2.length*3)=st.2.flatMap zL:=ah (by omega);have h8:(st.2.length+1)*24≤room:=by unfold room;omega
  rw[h5,yR];generalize AP x.lo x.hi (vl b m r x)=v at *
  by_cases c1:v=0
  ·have ih:=ih0 (j+1) st (by omega) g1 (by omega);simp[-length_flatMap,-map_take,h1,h2,h4,hV,hM,hi,a1,c1,bj,HE,D.clean];exact WL.to ih (by simp) (by simp) fun x e σ hh=>by simpa[c1]using hh
  ·by_cases c2:st.1=rd.length
   ·have ih:=ih0 (j+1) (j,st.2++[((i:Int),(j:Int),v)]) (by omega) (by simp only;omega) (by simp;omega);simp[-length_flatMap,-map_take,h1,h2,h4,hV,hM,hi,a1,c1,c2,a7,a8,h8,bj,HE,D.clean];exact WL.to ih (by simp) (by simp[zL]) fun x e σ hh=>by simpa[c1,c2]using hh
   ·have ih:=ih0 (j+1) st (by omega) g1 (by omega);have c3:¬(st.1:Int)=rd.length:=by omega
    simp[-length_flatMap,-map_take,h1,h2,h4,hV,hM,hi,a1,c1,c2,c3,bj,HE,D.clean];exact WL.to ih (by simp) (by simp) fun x e σ hh=>by simpa[c2]using hh
end Go.Proofs.YtklfdfnoebnciaaGreatDoor
set_option maxRecDepth 100000
namespace Go.Proofs.YtklfdfnoebnciaaGreatDoor
open List(length_flatMap map_take)
open Go Go.Abs Go.Rock
variable {σ:SK}
def GC(b:cf)(rd:List vO):Nat→List (cF×RunT)→List Int×List Tri→List Int×List Tri
 |_,[],st=>st
 |i,p::t,st=>GC b rd (i+1) t (if(yR i rd.length 0 (B5 b p.1 p.2 rd) (rd.length,st.2)).1=rd.length then st.1++[(i:Int)]else st.1,(yR i rd.length 0 (B5 b p.1 p.2 rd) (rd.length,st.2)).2)
theorem akl{b:cf}{l:List cF}{av:List (List Int)}{rd:List vO}{rs:List RunT}(h:Ok b l av)(hR:Rs b l av.length rs)(hl:rd.length≤40)(hx:∀x∈rd,Rdv b av.length x){B:Abs.aG}:
  ∀(k i:Nat) (st:List Int×List Tri),i+k=l.length→st.1.length≤i→st.2.length≤i →
  WL T [3,4,8,9,10,15,51,52,53] false oD [(3,.aE rd.length (rd.flatMap vO.enc)),(4,.bw [.int .i64 b.f.x,.int .i64 b.f.y,.int .i64 b.f.z,.int .i64 b.f.k,.aE b.cc.length (b.cc.flatMap Rw.enc),.int .i64 b.bD,.int .i64 b.lift,.int .i64 b.deep,.aE b.ak.length (b.ak.flatMap bB.enc)]),(8,.sl σ.length 0 st.1.length 0 st.1.length 1),(9,.sl σ.length 1 st.2.length 0 st.2.length 3),(10,.ref σ.length 2 0 0),(15,.aE rs.length (rs.flatMap CI)),(51,.aE l.length (l.flatMap cF.enc)),(52,.int .i64 l.length),(53,.int .i64 i)]
   ([.cells st.1.length (st.1.flatMap aU),.cells st.2.length (st.2.flatMap zL),B]::σ)
   (fun x e σ'=>x=.exit 2∧∃st',st'=GC b rd i ((l.zip rs).drop i) st∧get e 8=.sl σ.length 0 st'.1.length 0 st'.1.length 1∧get e 9=.sl σ.length 1 st'.2.length 0 st'.2.length 3∧get e 10=.ref σ.length 2 0 0 ∧
    σ'=[.cells st'.1.length (st'.1.flatMap aU),.cells st'.2.length (st'.2.flatMap zL),B]::σ):=by
 intro k;induction k with
 |zero =>
  intro i st hi g1 g2;refine aH oD.eq_1 ?_;have h1:¬i<l.length:=by omega
  have h2:(l.zip rs).drop i=[]:=az (by rw[List.length_zip];omega);simp[-length_flatMap,-map_take,h1,h2,GC]
 |succ k ih0 =>
  intro i st hi g1 g2;refine aH oD.eq_1 ?_;have h1:i<l.length:=by omega
  have hlen:=hR.len;have hne:=hR.ne;obtain⟨m,hm⟩:=gE h1;obtain⟨r,hr⟩:∃r,rs[i]?=some r:=gE (by omega);have h2:=NZ hm;have h4:=ga h1 (by omega);have hz:(l.zip rs)[i]?=some (m,r):=by simp[List.getElem?_zip_eq_some,hm,hr]
  have h5:=dh hz;have hsl:=Ii (i:=i) (B5 b m r rd) 0 (rd.length,st.2) (n:=rd.length) (by rw[H3];omega) (by simp);rw[h5,GC];simp[-length_flatMap,-map_take,h1,h2,bj,D.clean];refine WL.to (akm (σ:=σ) h hR hl hx hm hr (A:=.cells st.1.length (st.1.flatMap aU)) (B:=B) (L10:=st.1.length) (s0:=50) (by omega) rd.length 0 (rd.length,st.2) (by omega) (by simp) (by simp only;omega)) (by simp) (by simp) ?_;rintro x e σ' ⟨rfl,st',hst,q3,q4,q8,q9,q10,q15,q16,q18,q51,q52,q53,rfl⟩;rw[aJ]at hst;rw[← hst];rw[← hst]at hsl;have a4:=NT st.1;have a6:(st.1.flatMap aU).take st.1.length=st.1.flatMap aU:=ah (by omega);have h7:(st.1.length+1)*8≤room:=by unfold room;omega
  by_cases hc:st'.1=rd.length
  ·have ih:=ih0 (i+1) (st.1++[(i:Int)],st'.2) (by omega) (by simp;omega) (by simp only at hsl ⊢;omega);rw[if_pos hc];simp[-length_flatMap,-map_take,q3,q4,q8,q9,q10,q15,q16,q18,q51,q52,q53,hc,h4,a4,a6,h7];exact WL.to ih (by simp) (by simp) fun x e σ hh=>by simpa using hh
  ·have ih:=ih0 (i+1) (st.1,st'.2) (by omega) (by simp only;omega) (by simp only at hsl ⊢;omega);rw[if_neg hc];have hc':¬(st'.1:Int)=rd.length:=by omega
   simp[-length_flatMap,-map_take,q3,q4,q8,q9,q10,q15,q16,q18,q51,q52,q53,hc,hc',h4];exact WL.to ih (by simp) (by simp) fun x e σ hh=>by simpa using hh
def Mn(b:cf)(l:List cF)(av:List (List Int))(rd:List vO):D :=
 if wS b av.length rd=0 then
  match wV b av l with
  |some rs => .dQ [.aE (GC b rd 0 (l.zip rs) ([],[])).1.length ((GC b rd 0 (l.zip rs) ([],[])).1.flatMap aU),.aE (GC b rd 0 (l.zip rs) ([],[])).2.length ((GC b rd 0 (l.zip rs) ([],[])).2.flatMap zL),.int .i64 0]
  |none => .dQ [.aE 0 [],.aE 0 [],.int .i64 9]
 else .dQ [.aE 0 [],.aE 0 [],.int .i64 (wS b av.length rd)]
theorem Ea{l0 a b:Nat}{k:Int}{A B:List D}{S S1 S2:SK}{d1 d2:D}(h1:ck l0 15 d1 S=(.aE a A,S1))(h2:ck l0 15 d2 S1=(.aE b B,S2)):ck l0 16 (.dQ [d1,d2,.int .i64 k]) S=(.dQ [.aE a A,.aE b B,.int .i64 k],S2):=by
 by_cases hc:D.clean (.dQ [d1,d2,.int .i64 k])=true
 ·rw[kV hc (by omega)];simp only[D.clean,D.bu,Bool.and_true,ae]at hc;rw[kV hc.1 (by omega)]at h1;rw[kV hc.2 (by omega)]at h2;cases h1;cases h2;rfl
 ·rw[Dh (by simpa using hc) (by omega)];simp only[we,yH];rw[h1];simp only;rw[h2];simp only;rw[kV (by rfl) (by omega)]
end Go.Proofs.YtklfdfnoebnciaaGreatDoor
set_option maxRecDepth 100000
namespace Go.Proofs.YtklfdfnoebnciaaGreatDoor
open List(length_flatMap map_take)
open Go Go.Abs Go.Rock Go.Book
variable {σ:SK}
theorem Dg{α:Type}{f:α→List D}{l:List α}{v t:Nat}{e:Env}{S:SK}(h:Abs.get e v=nl f l):Abs.get (LL v (nl f l) e S).1 t=if v=t then .aE l.length (l.flatMap f)else Abs.get e t:=by
 unfold nl at h ⊢;split at h
 ·rename_i hl;subst hl;simp
 ·rename_i hl;simp[hl];intro hh;subst hh;exact h
theorem Fi{α:Type}{f:α→List D}{l:List α}{v:Nat}{e:Env}{S:SK}:(LL v (nl f l) e S).2=S:=by
 unfold nl;split<;>simp
theorem Lc{wq:D}{b:cf}{l:List cF}{av:List (List Int)}{rd:List vO}(hwq:wq.vQ=.aE b.ak.length (b.ak.flatMap bB.enc))(h:Ok b l av)(hl:rd.length≤1000000000)(hw:∀x∈rd,0≤x.qI∧x.qI≤255)(hσ:σ≠[]):
  lim T (.call false lE [.agg [.int .i64 b.f.x,.int .i64 b.f.y,.int .i64 b.f.z,.int .i64 b.f.k,.aE b.cc.length (b.cc.flatMap Rw.enc),.int .i64 b.bD,.int .i64 b.lift,.int .i64 b.deep,wq],.aE l.length (l.flatMap cF.enc),nl E9 av,.aE rd.length (rd.flatMap vO.enc)] σ)=some (.val (Mn b l av rd) σ):=by
 have h1:=fun σ=>abU (σ:=σ) h
 unfold Mn;by_cases c0:40<rd.length
 ·have e1:wS b av.length rd=3:=by simp[wS,c0]
  rw[e1];refine au wv nP.eq_1 rfl ?_;simp[-length_flatMap,-map_take,hwq,Dg,Fi,h1,show(40:Int)<rd.length by omega,cq,bg];have hp:=aO.2 hσ;rw[Ea (AF (by omega) (by omega) (by simp)) (AF (by omega) (by omega) (by simp))];simp
 have e1:wS b av.length rd=cN (vk b av.length) rd:=by simp[wS,c0]
 rw[e1];have c0':¬(40:Int)<rd.length:=by omega
 have hL:=QL (σ:=σ) h (by omega) hw (A:=.cells 0 []) (B:=.cells 0 []) rd.length 0 (by omega);rw[aJ]at hL;by_cases c1:cN (vk b av.length) rd=0
 ·rw[c1]at hL;rw[if_pos c1];have hx:∀x∈rd,Rdv b av.length x:=fun x hx=>Rdv.of (sS c1 x hx)
  refine JX wv nP.eq_1 rfl rfl ?_;cases hrs:wV b av l with
  |none =>
   have h2:=fun σ=>Qw (σ:=σ) h hrs
   have hX:vt T (.fn fg [] []) [.ref σ.length 2 0 0] (some (.tQ 259 (.agg []))) ([.cells 0 [],.cells 0 [],.cells 0 [.int .i64 0]]::σ)=some ([.cells 0 [],.cells 0 [],.cells 0 [.int .i64 9]]::σ):=uy OP;simp[-length_flatMap,-map_take,Jp,Ad,hwq,Dg,Fi,h1,c0',cq,bg];refine WL.to hL (by simp) (by simp) ?_;intro x e σ' hh;rw[if_pos rfl]at hh;obtain⟨rfl,rfl,g1,g2,g3,g4,g8,g9,g10⟩:=hh;simp[-length_flatMap,-map_take,Jp,Ad,g1,g2,g3,g4,g8,g9,g10,cq,bg];rw[yC sw.eq_1];simp[-length_flatMap,-map_take,Jp,Ad,g1,g2,g3,g4,g8,g9,g10,h2,hX,cq,bg,bj];have hp:=aO.2 hσ;rw[Ea (AF (by omega) (by omega) (by simp)) (AF (by omega) (by omega) (by simp))];simp
  |some rs =>
   have hR:=Rs.of h hrs;have h2:=fun σ hσ=>Qx (σ:=σ) h hσ hrs hR.len
   simp[-length_flatMap,-map_take,Jp,Ad,hwq,Dg,Fi,h1,c0',cq,bg];refine WL.to hL (by simp) (by simp) ?_;intro x e σ' hh;rw[if_pos rfl]at hh;obtain⟨rfl,rfl,g1,g2,g3,g4,g8,g9,g10⟩:=hh;simp[-length_flatMap,-map_take,Jp,Ad,g1,g2,g3,g4,g8,g9,g10,cq,bg];rw[yC sw.eq_1];simp[-length_flatMap,-map_take,Jp,Ad,g1,g2,g3,g4,g8,g9,g10,h2,cq,bg,bj];refine WL.to (akl (σ:=σ) h hR (by omega) hx (B:=.cells 0 [.int .i64 0]) l.length 0 ([],[]) (by omega) (by simp) (by simp)) (by simp) (by simp) ?_;rintro x e σ' ⟨rfl,st,hst,q8,q9,q10,rfl⟩;rw[aJ]at hst;rw[← hst];have hX:vt T (.fn fg [] []) [.ref σ.length 2 0 0] none ([.cells st.1.length (st.1.flatMap aU),.cells st.2.length (st.2.flatMap zL),.cells 0 [.int .i64 0]]::σ)=some ([.cells st.1.length (st.1.flatMap aU),.cells st.2.length (st.2.flatMap zL),.cells 0 [.int .i64 0]]::σ):=uy FW;simp[-length_flatMap,-map_take,Jp,Ad,q8,q9,q10,g10,hX];rw[Ea (zU (n:=15) (f:=aU) (w:=1) (l:=st.1) (by decide) (fun _=>rfl) (fun x=>by simp) hσ (by simp)) (zU (n:=15) (f:=zL) (w:=3) (l:=st.2) (by decide) (fun _=>rfl) (fun x=>by simp[zL]) hσ (by simp))];simp
 ·simp only[c1,if_false];refine au wv nP.eq_1 rfl ?_;simp[-length_flatMap,-map_take,hwq,Dg,Fi,h1,c0',cq,bg];refine WL.to hL (by simp) (by simp) ?_;intro x e σ' hh;rw[if_neg c1]at hh;obtain⟨rfl,g8,g9,g10,rfl⟩:=hh;simp[g8,g9,g10]
end Go.Proofs.YtklfdfnoebnciaaGreatDoor
