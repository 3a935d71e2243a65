import Derived.Test.YtfgljaglidhjiaaGreatDoorTxt3
import Derived.Test.YtfgljaglidhjiaaGreatDoorTxt2
import Derived.Test.YtfgljaglidhjiaaGreatDoorTxt1
set_option linter.all false
set_option maxRecDepth 100000
namespace Go.Proofs.YtfgljaglidhjiaaGreatDoor
open List(length_flatMap map_take)
open Go Go.Abs Go.Rock
variable {σ:SK}
structure Fm(f:fT)(m:cX):Prop where
 fv:f.valid=true
 len:(m.bg.length:Int)=f.k*f.size
 ok:∀v∈m.bg,-100000≤v∧v≤100000
theorem Fm.of{f:fT}{m:cX}(hf:f.valid=true)(h:f.model m=0):Fm f m:=by
 unfold fT.model at h;split at h
 ·split at h
  ·rename_i h1;exact⟨hf,h1.1,fun v hv=>bf.1 (ki.1 h1.2 v hv)⟩
  ·cases h
 ·cases h
theorem axn{a b A B:Int}(ha : -A≤a∧a≤A)(hb : -B≤b∧b≤B)(hA:0≤A) : -(A*B)≤a*b∧a*b≤A*B:=by
 have key:∀x:Int,0≤x→x≤A → -(A*B)≤x*b∧x*b≤A*B:=by
  intro x h0 h1;have e1:x*b≤x*B:=Int.mul_le_mul_of_nonneg_left hb.2 h0;have e2:x*(-B)≤x*b:=Int.mul_le_mul_of_nonneg_left hb.1 h0;have e3:x*B≤A*B:=fL h1 (by omega);rw[Int.mul_neg]at e2;omega
 rcases n0 0 a with h | h
 ·exact key a h ha.2
 ·have:=key (-a) (by omega) (by omega);rw[Int.neg_mul]at this;omega
theorem aDE{f:fT}{m:cX}{x:zn}(hm:Fm f m)(hx:Mev f x):∀(k i:Nat) (acc:Int),i+k=x.bl.length → -(i*100000000)≤acc∧acc≤i*100000000 →
  WL T [2,3,4,8,9,10] false oT [(2,.bE [.int .i64 f.x,.int .i64 f.y,.int .i64 f.z,.int .i64 f.k,.int .i64 x.kind,.aK x.bl.length (x.bl.flatMap aU),.aK x.wt.length (x.wt.flatMap aU)]),(3,.bE [.str m.name,.aK m.bg.length (m.bg.flatMap aU)]),(4,.int .i64 acc),(8,.aK x.bl.length (x.bl.flatMap aU)),(9,.int .i64 x.bl.length),(10,.int .i64 i)] σ
   (fun x' e σ'=>σ'=σ∧x'=.exit 0∧get e 4=.int .i64 (apR m.bg (x.kind*f.size) acc (x.bl.drop i) (x.wt.drop i))):=by
 intro k;induction k with
 |zero =>
  intro i acc hi ha;refine aM xN ?_;have h1:¬i<x.bl.length:=by omega
  have h2:x.bl.drop i=[]:=aJ (by omega);simp[-length_flatMap,-map_take,h1,h2,apR]
 |succ k ih0 =>
  intro i acc hi ha;refine aM xN ?_;have h1:i<x.bl.length:=by omega
  have hlen:=hx.len;have h1':i<x.wt.length:=by omega
  obtain⟨b,hb⟩:=gE h1;obtain⟨w,hw⟩:=gE h1';obtain⟨q1,q2⟩:=Ul hm.fv;obtain⟨z1,z2,z3,z4,z5⟩:=fT.ur.1 hm.fv;obtain⟨s1,s2,s3⟩:=UI hx.aBM hb hw;have hl64:=PK hx.len hx.aBM (by omega);have h4:=fK h1 (by omega);have h5:=dG hb;have h6:=dG hw;have h2:=rI hb;have h3:=rI hw;have k1:=hx.kind;have k2:0≤x.kind*f.size∧x.kind*f.size+f.size≤f.k*f.size:=by
   refine⟨fq k1.1 (by omega),?_⟩;have:=fL (show x.kind+1≤f.k by omega) (show 0≤f.size by omega);rw[Int.add_mul]at this;omega
  have hvl:=hm.len;obtain⟨j,hj⟩:∃j:Nat,x.kind*f.size+b=j:=⟨(x.kind*f.size+b).toNat,by omega⟩;have hj1:j<m.bg.length:=by omega
  obtain⟨v,hv⟩:=gE hj1;have hvb:=hm.ok v (an hv);have h7:=rI hv;have hB:=fun σ=>OT (σ:=σ) hm.fv
  have b1:=axn (a:=w) (b:=v) (A:=1000) (B:=100000) (by omega) hvb (by omega);have w1:=gQ (n:=x.kind*f.size) (by omega);have w2:=gQ (n:=(j:Int)) (by omega);have w3:=gQ (n:=w*v) (by omega);have w4:=gQ (n:=acc+w*v) (by omega);have ih:=ih0 (i+1) (acc+w*v) (by omega) (by omega);rw[h5,h6,apR,hj];simp only[Int.toNat_natCast,hv,gV];simp[-length_flatMap,-map_take,h1,h1',h2,h3,h4,hB,w1,w2,w3,w4,hj,hj1,h7];exact WL.to ih (by simp) rfl fun x e σ hh=>by simpa[hv]using hh
theorem aqx{f:fT}{m:cX}{x:zn}(hm:Fm f m)(hx:Mev f x):bw T (.call false mG [.agg [.int .i64 f.x,.int .i64 f.y,.int .i64 f.z,.int .i64 f.k,.int .i64 x.kind,.aK x.bl.length (x.bl.flatMap aU),.aK x.wt.length (x.wt.flatMap aU)],.agg [.str m.name,.aK m.bg.length (m.bg.flatMap aU)]] σ)=some (.val (.int .i64 (UQ f m x)) σ):=by
 refine aD JF Kb rfl ?_;simp[-length_flatMap,-map_take];refine WL.to (aDE (σ:=[]::σ) hm hx x.bl.length 0 0 (by omega) (by simp)) (by simp) rfl ?_;rintro x' e σ' ⟨rfl,rfl,g⟩;simp[-length_flatMap,-map_take,g,UQ]
theorem ajg{f:fT}{x:zn}:bw T (.call false kL [.agg [.int .i64 f.x,.int .i64 f.y,.int .i64 f.z,.int .i64 f.k],.agg x.enc] σ)=some (.val (.fn mG [.agg [.int .i64 f.x,.int .i64 f.y,.int .i64 f.z,.int .i64 f.k,.int .i64 x.kind,.aK x.bl.length (x.bl.flatMap aU),.aK x.wt.length (x.wt.flatMap aU)]] []) σ):=by
 refine aD DI Eg rfl ?_;simp[-length_flatMap,-map_take,D.clean,bA]
end Go.Proofs.YtfgljaglidhjiaaGreatDoor
namespace Go.Book
open List(length_flatMap map_take)
open Go Go.Abs Go.Rock
def yJ(f:fT)(x:zn):Int:=if f.valid=true then f.measure x else 1
def AN(p:Int×Int):List D:=[.int .i64 p.1,.int .i64 p.2]
def sI(nm:List UInt8)(k lo hi:Int)(ps:List (Int×Int)):zn:=⟨nm,k,ps.map (·.1),ps.map (·.2),lo,hi⟩
end Go.Book
namespace Go.Proofs.YtfgljaglidhjiaaGreatDoor
open List(length_flatMap map_take)
open Go Go.Abs Go.Rock Go.Book
variable {σ:SK}
theorem SM{f:fT}{x:zn}(hf:f.valid=true)(hn:x.name.length≤1000000000)(hl:x.bl.length≤1000000000):
  bw T (.call false dQ [.bE [.int .i64 f.x,.int .i64 f.y,.int .i64 f.z,.int .i64 f.k],.bE [.aK 1 x.enc]] σ)=some (.val (.int .i64 (f.measure x)) σ):=by
 refine aD AW Ba rfl ?_;have h:=fun σ=>U6 (σ:=σ) (f:=f) (l:=[x]) hf (by intro m hm;simp at hm;subst hm;exact⟨hn,by omega⟩) (by simp)
 have he:f.Jl [x]=f.measure x:=by
  simp only[fT.Jl,fT.I4];by_cases h:f.measure x=0<;>simp[h]
 rw[he]at h;simp only[List.length_singleton,ba,dO,eB]at h;simp only[zn.enc]at h ⊢;simp[-length_flatMap,-map_take,h]
theorem KT{f:fT}{x:zn}(hn:x.name.length≤1000000000)(hl:x.bl.length≤1000000000):
  bw T (.call false jM [.agg [.int .i64 f.x,.int .i64 f.y,.int .i64 f.z,.int .i64 f.k],.aK 1 x.enc] σ)=some (.val (.int .i64 (yJ f x)) σ):=by
 refine aD CZ Dq rfl ?_;have hC:=fun σ=>PN (σ:=σ) (fs:=[.fn cS [.agg [.int .i64 f.x,.int .i64 f.y,.int .i64 f.z,.int .i64 f.k]] [],.fn dQ [] [.bE [.int .i64 f.x,.int .i64 f.y,.int .i64 f.z,.int .i64 f.k],.bE [.aK 1 x.enc]]]) (es:=[f.shape,f.measure x]) rfl (by simp) (by simp) (by
  intro i d n hd hn' h0 σ;match i with
  |0 =>
   simp at hd hn';subst hd hn';simp[LX]
  |1 =>
   simp only[List.getElem?_cons_succ,cF,ae]at hd hn';subst hd hn';have h1:f.valid=true:=by
    have:=h0 0 (by omega);simp[fT.shape]at this;exact this
   have hh:=SM (σ:=σ) h1 hn hl;rw[sU];have h':bw T (.call false dQ ([]++[]++[.bE [.int .i64 f.x,.int .i64 f.y,.int .i64 f.z,.int .i64 f.k],.bE [.aK 1 x.enc]]) σ)=_:=hh;rw[h'];rfl
  |i+2=>simp at hd)
 have e1:cQ id [f.shape,f.measure x]=yJ f x:=by
  simp only[cQ,id,yJ,fT.shape];by_cases h:f.valid=true
  ·by_cases h2:f.measure x=0<;>simp[h,h2]
  ·simp[h]
 rw[e1]at hC;simp only[zn.enc,aO,bO]at hC ⊢;simp[-length_flatMap,-map_take,hC]
theorem asV{f:fT}{m:cX}(hf:f.valid=true)(hn:m.name.length≤1000000000)(hl:m.bg.length≤1000000000):
  bw T (.call false rn [.bE [.int .i64 f.x,.int .i64 f.y,.int .i64 f.z,.int .i64 f.k],.bE [.str m.name,.aK m.bg.length (m.bg.flatMap aU)]] σ)=some (.val (.int .i64 (f.model m)) σ):=by
 refine aD NX Ou rfl ?_;simp[-length_flatMap,-map_take,af4 hf hn hl]
theorem asW{f:fT}{x:zn}(hf:f.valid=true)(hn:x.name.length≤1000000000)(hl:x.bl.length≤1000000000):
  bw T (.call false oL [.bE [.int .i64 f.x,.int .i64 f.y,.int .i64 f.z,.int .i64 f.k],.bE x.enc] σ)=some (.val (.int .i64 (f.measure x)) σ):=by
 refine aD NY Ov rfl ?_;have h:=fun σ=>OY (σ:=σ) (f:=f) (m:=x) hf hn (by omega)
 simp only[zn.enc]at h ⊢;simp[-length_flatMap,-map_take,h]
theorem asU{f:fT}{m:cX}{x:zn}(hf:f.valid=true)(hm:f.model m=0)(hx:f.measure x=0)(hn:m.name.length≤1000000000)(hl:m.bg.length≤1000000000)(hn2:x.name.length≤1000000000)(hl2:x.bl.length≤1000000000):
  bw T (.call false xe [.agg [.int .i64 f.x,.int .i64 f.y,.int .i64 f.z,.int .i64 f.k],.agg [.str m.name,.aK m.bg.length (m.bg.flatMap aU)],.agg x.enc] σ)=some (.val (.ez [.int .i64 (UQ f m x),.int .i64 0]) σ):=by
 refine aD Ta TG rfl ?_;have hC:=fun σ=>PN (σ:=σ) (fs:=[.fn cS [.agg [.int .i64 f.x,.int .i64 f.y,.int .i64 f.z,.int .i64 f.k]] [],.fn rn [] [.bE [.int .i64 f.x,.int .i64 f.y,.int .i64 f.z,.int .i64 f.k],.bE [.str m.name,.aK m.bg.length (m.bg.flatMap aU)]],.fn oL [] [.bE [.int .i64 f.x,.int .i64 f.y,.int .i64 f.z,.int .i64 f.k],.bE x.enc]]) (es:=[f.shape,f.model m,f.measure x]) rfl (by simp) (by simp) (by
  intro i d n hd hn' h0 σ;match i with
  |0 =>
   simp at hd hn';subst hd hn';simp[LX]
  |1 =>
   simp at hd hn';subst hd hn';simp[asV hf hn hl]
  |2 =>
   simp only[List.getElem?_cons_succ,cF,ae]at hd hn';subst hd hn';have hh:=asW (σ:=σ) hf hn2 hl2;rw[sU];have h':bw T (.call false oL ([]++[]++[.bE [.int .i64 f.x,.int .i64 f.y,.int .i64 f.z,.int .i64 f.k],.bE x.enc]) σ)=_:=hh;rw[h'];rfl
  |i+3=>simp at hd)
 have e1:cQ id [f.shape,f.model m,f.measure x]=0:=by simp[cQ,fT.shape,hf,hm,hx]
 rw[e1]at hC;have hW:=fun σ=>ajg (σ:=σ) (f:=f) (x:=x)
 have hS:=fun σ=>aqx (σ:=σ) (Fm.of hf hm) (Mev.of hx)
 simp only[zn.enc,aO,bO]at hC hW ⊢;simp[-length_flatMap,-map_take,hC,hW,hS]
theorem ag0(l:List (Int×Int)):(l.flatMap AN).length=l.length*2:=bV (f:=AN) (w:=2) (fun _=>rfl) l
theorem EH(l:List Int):(l.flatMap aU).length=l.length:=by have:=bV (f:=aU) (w:=1) (fun _=>rfl) l;omega
def OK(L:Nat)(nm:List UInt8)(k lo hi:Int)(ps:List (Int×Int)):List Abs.aG :=
 [.cells 0 [.str nm,.int .i64 k,.sl L 1 ps.length 0 ps.length 1,.sl L 2 ps.length 0 ps.length 1,.int .i64 lo,.int .i64 hi],.cells ps.length ((ps.map (·.1)).flatMap aU),.cells ps.length ((ps.map (·.2)).flatMap aU)]
theorem PQ{ps:List (Int×Int)}(hps:ps.length≤1000000){X Y:D}(hx:X.calm=X)(hy:Y.calm=Y){nm:List UInt8}{k lo hi:Int}:∀(m j:Nat),j+m=ps.length →
  WL T [2,3,6,30,31,32] false mi [(2,X),(3,Y),(6,.ref σ.length 0 0 0),(30,.aK (ps.length*2) (ps.flatMap AN)),(31,.int .i64 (ps.length*2)),(32,.int .i64 (j*2))] (OK σ.length nm k lo hi (ps.take j)::σ)
   (fun x e σ'=>x=.exit 0∧get e 2=X∧get e 3=Y∧get e 6=.ref σ.length 0 0 0∧get e 1000006=.undef∧σ'=OK σ.length nm k lo hi ps::σ)
 |0,j,h=>by
  refine aM pL ?_;have h1:¬j<ps.length:=by omega
  have h2:ps.take j=ps:=ar (by omega);simp[-length_flatMap,-map_take,h1,hx,hy,h2]
 |m+1,j,h=>by
  refine aM pL ?_;have h1:j<ps.length:=by omega
  have h2:(j:Int)*2<(ps.length:Int)*2:=by omega
  have h3:(j:Int)*2+1<(ps.length:Int)*2:=by omega
  have h0:0≤(j:Int)*2:=by omega
  have h0':0≤(j:Int)*2+1:=by omega
  obtain⟨p,hp⟩:=gE h1;have hd:=HZ (f:=AN) (w:=2) (fun _=>rfl) hp;have hd2:(ps.flatMap AN).drop (j*2+1)=.int .i64 p.2::(ps.flatMap AN).drop (j*2+2):=by
   have:=congrArg (List.drop 1) hd;simpa[AN,mL]using this
  have hd1:(ps.flatMap AN).drop (j*2)=.int .i64 p.1::.int .i64 p.2::(ps.flatMap AN).drop (j*2+2):=by simpa[AN]using hd
  have t1:((j:Int)*2).toNat=j*2:=by omega
  have t2:((j:Int)*2+1).toNat=j*2+1:=by omega
  have w1:IntKind.i64.wrap ((j:Int)*2+1)=j*2+1:=gQ (by omega);have w2:IntKind.i64.wrap ((j:Int)*2+1+1)=j*2+1+1:=gQ (by omega);have m1:((j:Int)*2).tmod 2=0:=by rw[Int.tmod_eq_emod_of_nonneg (by omega)];omega
  have m2:((j:Int)*2+1).tmod 2=1:=by rw[Int.tmod_eq_emod_of_nonneg (by omega)];omega
  have hl:(ps.take j).length=j:=by simp;omega
  have hr:(j+1)*8≤room:=by unfold room;omega
  have ha:=EH ((ps.take j).map (·.1));have hb:=EH ((ps.take j).map (·.2));simp only[dk,hl]at ha hb;have ta:(((ps.take j).map (·.1)).flatMap aU).take j=((ps.take j).map (·.1)).flatMap aU:=ar (by omega);have tb:(((ps.take j).map (·.2)).flatMap aU).take j=((ps.take j).map (·.2)).flatMap aU:=ar (by omega);have ih:=PQ hps hx hy (nm:=nm) (k:=k) (lo:=lo) (hi:=hi) m (j+1) (by omega);have htk:ps.take (j+1)=ps.take j++[p]:=by rw[List.take_add_one,hp];rfl
  rw[htk]at ih;have hj1:((j+1:Nat):Int)*2=(j:Int)*2+1+1:=by omega
  rw[hj1]at ih;simp[-length_flatMap,-map_take,hx,hy,OK,hl,h0,h0',h1,h2,h3,t1,t2,hd1,hd2,w1,w2,m1,m2,hr,ha,hb,ta,tb];refine aM pL ?_;simp[-length_flatMap,-map_take,hx,hy,OK,hl,h0,h0',h1,h2,h3,t1,t2,hd1,hd2,w1,w2,m1,m2,hr,ha,hb,ta,tb];refine WL.to ih (by simp) (by simp[OK,hl]) fun x e σ' hh=>by simpa[OK]using hh
theorem as4{A F:List Abs.aG}{b:Bk}{er:List Int}{m:cX}{x:zn}(hf:b.bL.f.valid=true)(hm:b.bL.f.model m=0)(hx:b.bL.f.measure x=0)(hn:m.name.length≤1000000000)(hl:m.bg.length≤1000000000)(hn2:x.name.length≤1000000000)(hl2:x.bl.length≤1000000000):
  bw T (.call false fx [.agg [.str m.name,.aK m.bg.length (m.bg.flatMap aU)],.bE [.ref σ.length 6 0 0],.bE x.enc] ([]::A::F::b.bx σ.length er::σ))=some (.val (.int .i64 (UQ b.bL.f m x)) ([]::A::F::b.bx σ.length er::σ)):=by
 refine aD DJ Eh rfl ?_;have hS:=fun σ=>asU (σ:=σ) hf hm hx hn hl hn2 hl2
 simp only[zn.enc]at hS ⊢;simp[-length_flatMap,-map_take,Bk.bx,Bk.cells,hS]
theorem ajI{x:zn}:D.bD x.enc=true:=by simp[zn.enc,bA]
theorem agB{S:SK}{L:Nat}(hS:S.length=L)(hL:0<L){nm:List UInt8}{k lo hi:Int}{ps:List (Int×Int)}:
  I9 L 0 0 (OK L nm k lo hi ps::S)=(.bE (sI nm k lo hi ps).enc,[.dead,.dead,.dead]::S):=by
 have hne:S≠[]:=by intro h;subst h;simp at hS;omega
 have h1:=Ji (f:=aU) (w:=1) (fun _=>rfl) (fun _=>by simp[D.clean]) (l:=ps.map (·.1)) (j:=1) (v:=ps.length) (bs:=[.dead,.cells ps.length ((ps.map (·.1)).flatMap aU),.cells ps.length ((ps.map (·.2)).flatMap aU)]) (σ:=S) hne (by simp);have h2:=Ji (f:=aU) (w:=1) (fun _=>rfl) (fun _=>by simp[D.clean]) (l:=ps.map (·.2)) (j:=2) (v:=ps.length) (bs:=[.dead,.dead,.cells ps.length ((ps.map (·.2)).flatMap aU)]) (σ:=S) hne (by simp);rw[hS]at h1 h2;simp only[dk,List.set_cons_succ,List.set_cons_zero]at h1 h2;simp[I9,OK,hS,h1,h2,sI]
def K4(b:Bk)(x:zn):Bk×Int:=if b.az=[]then(b,8)else if yJ b.bL.f x=0 then(tJ b x.lo x.hi fun m=>UQ b.bL.f m x,0)else(b,yJ b.bL.f x)
theorem as5{F:List Abs.aG}{b:Bk}{er:List Int}{nm:List UInt8}{k lo hi:Int}{ps:List (Int×Int)}{b':Bk}{e:Int}(hps:ps.length≤1000000)(hnm:nm.length≤1000000000)(hw:b.pX.length=b.az.length)(hml:b.az.length≤40)(hms:∀e∈b.az,b.bL.f.model e.m=0∧e.m.name.length≤1000000000∧e.m.bg.length≤1000000000)(hd:K4 b (sI nm k lo hi ps)=(b',e))(he:e=0):
  bw T (.call false gO [.ref σ.length 6 0 0,.str nm,.aK (ps.length*2+3) (.int .i64 k::.int .i64 lo::.int .i64 hi::ps.flatMap AN)] (F::b.bx σ.length er::σ))=some (.val (.ez []) (F::b'.bx σ.length er::σ)):=by
 refine gF yz yN rfl (by simp) ?_;unfold K4 at hd;split at hd
 case isTrue=>cases hd;cases he
 rename_i hne;split at hd
 case isFalse=>cases hd;rename_i h;exact absurd he h
 rename_i hck;cases hd;have q0:(0:Int)<(ps.length:Int)*2+3:=by omega
 have q1:(1:Int)<(ps.length:Int)*2+3:=by omega
 have q2:(2:Int)<(ps.length:Int)*2+3:=by omega
 have q3:(3:Int)≤(ps.length:Int)*2+3:=by omega
 have c1:0<b.az.length:=aV.2 hne;have hC:=fun σ=>KT (σ:=σ) (f:=b.bL.f) (x:=sI nm k lo hi ps) hnm (by simp[sI];omega)
 simp only[hck]at hC;have hv:b.bL.f.valid=true∧b.bL.f.measure (sI nm k lo hi ps)=0:=by
  unfold yJ at hck;split at hck
  ·rename_i h;exact⟨h,hck⟩
  ·cases hck
 have hlp:=ag0 ps;have htp:(ps.flatMap AN).take (ps.length*2)=ps.flatMap AN:=ar (by omega);have hL:=PQ (σ:=F::b.bx σ.length er::σ) hps (X:=.aK (ps.length*2+3) (.int .i64 k::.int .i64 lo::.int .i64 hi::ps.flatMap AN)) (Y:=.bE [.ref σ.length 6 0 0]) rfl rfl (nm:=nm) (k:=k) (lo:=lo) (hi:=hi) ps.length 0 (by omega);simp[-length_flatMap,-map_take,Bk.bx,Bk.cells,c1,cH,q0,q1,q2,q3];refine WL.to hL (by simp[htp]) (by simp[OK,Bk.bx,Bk.cells]) ?_;rintro x e σ' ⟨rfl,g2,g3,g6,gu,rfl⟩;have hf:=fun S hS=>agB (S:=S) (L:=σ.length+1+1) hS (by omega) (nm:=nm) (k:=k) (lo:=lo) (hi:=hi) (ps:=ps)
 have hst:=S3 (σ:=σ) (A:=[.dead,.dead,.dead]) (F:=F) (b:=b) (er:=er) (lo:=lo) (hi:=hi) (val:=fun m=>UQ b.bL.f m (sI nm k lo hi ps)) (fv:=.fn fx [] [.bE [.ref σ.length 6 0 0],.bE (sI nm k lo hi ps).enc]) rfl rfl hw hml (by
  intro i e he _;obtain⟨k1,k2,k3⟩:=hms e he;have h:=as4 (σ:=σ) (A:=[.dead,.dead,.dead]) (F:=F) (er:=er) (b:=b.kQ lo hi (fun m=>UQ b.bL.f m (sI nm k lo hi ps)) i) (m:=e.m) (x:=sI nm k lo hi ps) hv.1 k1 hv.2 k2 k3 hnm (by simp[sI];omega);rw[sU];have h':bw T (.call false fx ([]++[.agg [.str e.m.name,.aK e.m.bg.length (e.m.bg.flatMap aU)]]++[.bE [.ref σ.length 6 0 0],.bE (sI nm k lo hi ps).enc]) ([]::[.dead,.dead,.dead]::F::(b.kQ lo hi (fun m=>UQ b.bL.f m (sI nm k lo hi ps)) i).bx σ.length er::σ))=_:=h;rw[h'];rfl)
 have hcl:=ajI (x:=sI nm k lo hi ps);have e1:(sI nm k lo hi ps).lo=lo:=ah rfl;have e2:(sI nm k lo hi ps).hi=hi:=ah rfl;simp only[Bk.bx,Bk.cells,zn.enc,e1,e2]at hst hC hf hcl;simp[-length_flatMap,-map_take,g2,g3,g6,gu,hf,hC,pI,hst,q1,q2,Bk.bx,Bk.cells,hcl,bA,e1,e2]
theorem aqn{F:List Abs.aG}{b:Bk}{er:List Int}{nm:List UInt8}{k lo hi:Int}{ps:List (Int×Int)}{b':Bk}{e:Int}(hps:ps.length≤1000000)(hnm:nm.length≤1000000000)(hd:K4 b (sI nm k lo hi ps)=(b',e))(he:e≠0):
  bw T (.call false gO [.ref σ.length 6 0 0,.str nm,.aK (ps.length*2+3) (.int .i64 k::.int .i64 lo::.int .i64 hi::ps.flatMap AN)] (F::b.bx σ.length er::σ))=some (.fU (rf e) (F::b.bx σ.length er::σ)):=by
 refine eg yz yN rfl ?_;unfold K4 at hd;split at hd
 case isTrue hne =>
  cases hd;simp[-length_flatMap,-map_take,Bk.bx,Bk.cells,hne,dJ,D.clean,rf]
 rename_i hne;split at hd
 case isTrue=>cases hd;exact absurd rfl he
 rename_i hck;cases hd;have q0:(0:Int)<(ps.length:Int)*2+3:=by omega
 have q1:(1:Int)<(ps.length:Int)*2+3:=by omega
 have q2:(2:Int)<(ps.length:Int)*2+3:=by omega
 have q3:(3:Int)≤(ps.length:Int)*2+3:=by omega
 have c1:0<b.az.length:=aV.2 hne;have hC:=fun σ=>KT (σ:=σ) (f:=b.bL.f) (x:=sI nm k lo hi ps) hnm (by simp[sI];omega)
 have hM:=fun σ=>rD (σ:=σ) hck
 generalize yJ b.bL.f (sI nm k lo hi ps)=err at hC hM hck he ⊢;have hrc:(D.vn 311 (.agg [.int .i64 err])).clean=true:=rfl;have hlp:=ag0 ps;have htp:(ps.flatMap AN).take (ps.length*2)=ps.flatMap AN:=ar (by omega);have hL:=PQ (σ:=F::b.bx σ.length er::σ) hps (X:=.aK (ps.length*2+3) (.int .i64 k::.int .i64 lo::.int .i64 hi::ps.flatMap AN)) (Y:=.bE [.ref σ.length 6 0 0]) rfl rfl (nm:=nm) (k:=k) (lo:=lo) (hi:=hi) ps.length 0 (by omega);simp[-length_flatMap,-map_take,Bk.bx,Bk.cells,c1,cH,q0,q1,q2,q3];refine WL.to hL (by simp[htp]) (by simp[OK,Bk.bx,Bk.cells]) ?_;rintro x e σ' ⟨rfl,g2,g3,g6,gu,rfl⟩;have hf:=fun S hS=>agB (S:=S) (L:=σ.length+1+1) hS (by omega) (nm:=nm) (k:=k) (lo:=lo) (hi:=hi) (ps:=ps)
 have hcl:=ajI (x:=sI nm k lo hi ps);simp only[Bk.bx,Bk.cells,zn.enc]at hC hf hcl;simp[-length_flatMap,-map_take,g2,g3,g6,gu,hf,hC,hM,q1,q2,Bk.bx,Bk.cells,hcl,bA,rf,hrc]
end Go.Proofs.YtfgljaglidhjiaaGreatDoor
namespace Go.Book
open List(length_flatMap map_take)
open Go Go.Abs Go.Rock
def bZ(l:List mA):List mA:=l.filter (·.left)
end Go.Book
namespace Go.Proofs.YtfgljaglidhjiaaGreatDoor
open List(length_flatMap map_take)
open Go Go.Abs Go.Rock Go.Book
variable {σ:SK}
theorem aql{e:mA}:bw T (.call false eS [.agg e.enc] σ)=some (.val (.bool e.left) σ):=by
 refine aD C6 Dv rfl ?_;simp[-length_flatMap,-map_take]
theorem Mn{l:List mA}{lv bi v:Nat}{G:List Abs.aG}(hG:G[bi]?=some (.cells v (l.flatMap mA.enc)))(hs:gk σ lv=some G)(hl:l.length≤1000000):∀(m i:Nat) (acc:List mA),i+m=l.length→acc.length≤i →
  WL T [1,4,7,8,9] false eG [(1,.fn eS [] []),(4,.sl σ.length 0 acc.length 0 acc.length 4),(7,.sl lv bi v 0 l.length 4),(8,.int .i64 l.length),(9,.int .i64 i)] ([.cells acc.length (acc.flatMap mA.enc)]::σ)
   (fun x e σ'=>x=.exit 0∧get e 4=.sl σ.length 0 (acc++bZ (l.drop i)).length 0 (acc++bZ (l.drop i)).length 4∧σ'=[.cells (acc++bZ (l.drop i)).length ((acc++bZ (l.drop i)).flatMap mA.enc)]::σ)
 |0,i,acc,hi,ha=>by
  refine aM nQ ?_;have h1:¬i<l.length:=by omega
  have h2:l.drop i=[]:=aJ (by omega);simp[-length_flatMap,-map_take,h1,h2,bZ]
 |m+1,i,acc,hi,ha=>by
  refine aM nQ ?_;have h1:i<l.length:=by omega
  obtain⟨e,he⟩:=gE h1;have hfl:=bQ (f:=mA.enc) (w:=4) (fun _=>rfl) he;have hd:=dG he;have h4:=fK h1 (by omega);have hlen:=I6 l;have q:4≤l.length*4-i*4:=by omega
  have hlt:=AP hs;have hlv:¬σ.length=lv:=by omega
  have hC:=fun σ=>aql (σ:=σ) (e:=e)
  simp only[mA.enc]at hC;cases hc:e.left with
  |false =>
   rw[hc]at hC;have ih:=Mn hG hs hl m (i+1) acc (by omega) (by omega);simp[-length_flatMap,-map_take,h1,hs,hG,hlv,hfl,hlen,q,h4,hC,hc];exact WL.to ih (by simp) rfl fun x e' σ' hh=>by rw[hd];simpa[bZ,hc]using hh
  |true =>
   rw[hc]at hC;have ih:=Mn hG hs hl m (i+1) (acc++[e]) (by omega) (by simp;omega);have hr:(acc.length+1)*56≤room:=by unfold room;omega
   have hal:=I6 acc;have hat:(acc.flatMap mA.enc).take (acc.length*4)=acc.flatMap mA.enc:=ar (by omega);simp[-length_flatMap,-map_take,h1,hs,hG,hlv,hfl,hlen,q,h4,hC,hc,hr,hal,hat];exact WL.to ih (by simp) (by simp[hc]) fun x e' σ' hh=>by rw[hd];simpa[bZ,hc]using hh
theorem aiP{l:List mA}{lv bi v:Nat}{G:List Abs.aG}(hG:G[bi]?=some (.cells v (l.flatMap mA.enc)))(hs:gk σ lv=some G)(hl:l.length≤1000000)(hσ:σ≠[]):
  bw T (.call false dS [.sl lv bi v 0 l.length 4,.fn eS [] []] σ)=some (.val (.aK (bZ l).length ((bZ l).flatMap mA.enc)) σ):=by
 refine aD vV wj rfl ?_;have h:=Mn (σ:=σ) hG hs hl l.length 0 [] (by omega) (by simp);simp only[List.nil_append]at h;simp[-length_flatMap,-map_take];refine WL.to h (by simp) (by simp) ?_;rintro x e σ' ⟨rfl,g4,rfl⟩;have hk:=Go.Abs.zL (f:=mA.enc) (w:=4) (fun _=>rfl) (fun _=>by simp[D.clean,bA]) (l:=bZ l) (j:=0) (v:=(bZ l).length) (bs:=[.cells (bZ l).length ((bZ l).flatMap mA.enc)]) (σ:=σ) hσ (by simp);rw[aS]at g4 ⊢;simp[-length_flatMap,-map_take,g4,hk]
theorem JD{b:Bk}{er:List Int}{S:SK}(hl:b.az.length≤1000000)(hs:gk S σ.length=some (b.bx σ.length er)):
  bw T (.call false fX [.ref σ.length 6 0 0] S)=some (.val (.aK (bZ b.az).length ((bZ b.az).flatMap mA.enc)) S):=by
 refine aD Fu Gb rfl ?_;have hlt:=AP hs;have hne:¬S.length=σ.length:=by omega
 have h:=aiP (σ:=[]::S) (l:=b.az) (lv:=σ.length) (bi:=0) (v:=b.az.length) (G:=b.bx σ.length er) (by simp[Bk.bx]) (by simp[gk,hne,hs]) hl (by simp);have hcl:D.bD ((bZ b.az).flatMap mA.enc)=true:=ir (fun _=>by simp[D.clean,bA]) _;have hc6:(b.bx σ.length er)[6]?=some (.cells 0 (b.cells σ.length)):=by simp[Bk.bx]
 simp[-length_flatMap,-map_take,hne,hs,hc6,Bk.cells,h,hcl]
end Go.Proofs.YtfgljaglidhjiaaGreatDoor
namespace Go.Proofs.YtfgljaglidhjiaaGreatDoor
open List(length_flatMap map_take)
open Go Go.Abs Go.Trem
variable {σ:SK}
theorem ar8{lv:Nat}{G:List Abs.aG}(hsg:gk σ lv=some G){R:List eJ}{l:List Ev}{now may sure:Int}{j:Nat}{r:eJ}(hG1:G[1]?=some (.cells R.length (R.flatMap eJ.enc)))(hG2:G[2]?=some (.cells l.length (l.flatMap Ev.enc)))(hl:l.length≤200)(hs:∀e∈l,e.sp.length≤2000)(hr:r.ok=true)(hn:cV now 0 1000000=true):∀(m i:Nat) (a b:Nat),i+m=l.length→a+m≤200→b+m≤200 →
  WL T [1,2,6,7,10,11,12,13,36,37,38,44,45,46] false pR [(1,.sl lv 2 l.length 0 l.length 2),(2,.int .i64 now),(6,.int .u8 may),(7,.int .u8 sure),(10,.own 0 r.enc),(11,.int .i64 a),(12,.int .i64 b),(13,.fn ef [.agg r.enc] []),
    (36,.sl lv 1 R.length 0 R.length 10),(37,.int .i64 R.length),(38,.int .i64 j),(44,.sl lv 2 l.length 0 l.length 2),(45,.int .i64 l.length),(46,.int .i64 i)] σ
   (fun x e σ'=>x=.exit 3∧σ'=σ∧get e 1=.sl lv 2 l.length 0 l.length 2∧get e 2=.int .i64 now∧get e 6=.int .u8 may∧get e 7=.int .u8 sure∧get e 10=.own 0 r.enc∧get e 11=.int .i64 (a+LJ (BF r now) (l.drop i):Nat)∧get e 12=.int .i64 (b+LJ (uV r now) (l.drop i):Nat) ∧
    get e 36=.sl lv 1 R.length 0 R.length 10∧get e 37=.int .i64 R.length∧get e 38=.int .i64 j)
 |0,i,a,b,hi,ha,hb=>by
  refine aM tN ?_;have h1:¬i<l.length:=by omega
  have h2:l.drop i=[]:=by simp;omega
  simp[-length_flatMap,-map_take,h1,h2,LJ]
 |m+1,i,a,b,hi,ha,hb=>by
  refine aM tN ?_;have g1:i<l.length:=by omega
  obtain⟨e,he⟩:=gE g1;have a1:=bQ (f:=Ev.enc) (w:=2) (fun _=>rfl) he;have al:(l.flatMap Ev.enc).length=l.length*2:=bV (f:=Ev.enc) (w:=2) (fun _=>rfl) l;have aq:2≤l.length*2-i*2:=by omega
  have w1:=fK g1 (by omega);have hr':=NH.1 hr;have hn':=bf.1 hn;have hse:=hs e (an he);have w2:=gQ (n:=now-r.BG) (by omega);have w3:=gQ (n:=(a:Int)+1) (by omega);have w4:=gQ (n:=(b:Int)+1) (by omega);have hC:∀σ,bw T (.call false cz [.aK e.sp.length (e.sp.flatMap yp.enc),.fn ef [.agg r.enc] []] σ)=some (.val (.bool (sN e.sp r.cnt)) σ):=fun σ =>
   contains_of Vu nP oX (by omega) (.fn fun s _ σ=>SU)
  have hA:=fun σ=>@OS σ e.sp r.cnt (.fn ef [.agg r.enc] []) (.fn fun s _ σ=>SU) rfl (by omega)
  simp only[eJ.enc]at hC hA;have d1:LJ (BF r now) (l.drop i)=LJ (BF r now) (l.drop (i+1))+(if BF r now e then 1 else 0):=by rw[dG he];rfl
  have d2:LJ (uV r now) (l.drop i)=LJ (uV r now) (l.drop (i+1))+(if uV r now e then 1 else 0):=by rw[dG he];rfl
  have ih:=fun a b=>ar8 hsg hG1 hG2 (R:=R) (may:=may) (sure:=sure) (j:=j) hl hs hr hn m (i+1) a b (by omega)
  rw[d1,d2];by_cases c1:now<e.tick
  ·have e1:BF r now e=false:=by simp[BF,eJ.act];omega
   have e2:uV r now e=false:=by simp[uV,eJ.act];omega
   simp[-length_flatMap,-map_take,g1,a1,al,aq,hsg,hG1,hG2,w1,c1,e1,e2];exact WL.to (ih a b (by omega) (by omega)) (by simp) rfl fun x e σ' hh=>by simpa[e1,e2]using hh
  by_cases c2:e.tick≤now-r.BG
  ·have e1:BF r now e=false:=by simp[BF,eJ.act];omega
   have e2:uV r now e=false:=by simp[uV,eJ.act];omega
   simp[-length_flatMap,-map_take,g1,a1,al,aq,hsg,hG1,hG2,w1,w2,c1,c2,e1,e2];exact WL.to (ih a b (by omega) (by omega)) (by simp) rfl fun x e σ' hh=>by simpa[e1,e2]using hh
  have act:r.act now e=true:=by simp[eJ.act];omega
  have e1:BF r now e=sN e.sp r.cnt:=by simp[BF,act]
  have e2:uV r now e=gW e.sp r.cnt:=by simp[uV,act]
  rw[e1,e2];have k1:∀u v:Nat,u+1+v=u+(v+1):=by intro u v;omega
  cases c3:sN e.sp r.cnt<;>cases c4:gW e.sp r.cnt<;>simp only[c3,c4]at hC hA
  ·simp[-length_flatMap,-map_take,g1,a1,al,aq,hsg,hG1,hG2,w1,w2,c1,c2,hC,hA];exact WL.to (ih a b (by omega) (by omega)) (by simp) rfl fun x e σ' hh=>by simpa[c3,c4]using hh
  ·simp[-length_flatMap,-map_take,g1,a1,al,aq,hsg,hG1,hG2,w1,w2,w4,c1,c2,hC,hA];exact WL.to (ih a (b+1) (by omega) (by omega)) (by simp) rfl fun x e σ' hh=>by simp only[k1]at hh;simpa[c3,c4]using hh
  ·simp[-length_flatMap,-map_take,g1,a1,al,aq,hsg,hG1,hG2,w1,w2,w3,c1,c2,hC,hA];exact WL.to (ih (a+1) b (by omega) (by omega)) (by simp) rfl fun x e σ' hh=>by simp only[k1]at hh;simpa[c3,c4]using hh
  ·simp[-length_flatMap,-map_take,g1,a1,al,aq,hsg,hG1,hG2,w1,w2,w3,w4,c1,c2,hC,hA];exact WL.to (ih (a+1) (b+1) (by omega) (by omega)) (by simp) rfl fun x e σ' hh=>by simp only[k1]at hh;simpa[c3,c4]using hh
theorem agh{lv:Nat}{G:List Abs.aG}(hsg:gk σ lv=some G){R:List eJ}{l:List Ev}{now:Int}(hR:R.length≤20)(hG1:G[1]?=some (.cells R.length (R.flatMap eJ.enc)))(hG2:G[2]?=some (.cells l.length (l.flatMap Ev.enc)))(hl:l.length≤200)(hs:∀e∈l,e.sp.length≤2000)(hr:∀r∈R,r.ok=true)(hn:cV now 0 1000000=true):∀(m j:Nat) (may sure:Int),j+m=R.length →
  WL T [1,2,6,7,36,37,38] false pS [(1,.sl lv 2 l.length 0 l.length 2),(2,.int .i64 now),(6,.int .u8 may),(7,.int .u8 sure),(36,.sl lv 1 R.length 0 R.length 10),(37,.int .i64 R.length),(38,.int .i64 j)] σ
   (fun x e σ'=>x=.exit 1∧σ'=σ∧get e 6=.int .u8 (AK (fun r=>BF r now) l (R.drop j) may)∧get e 7=.int .u8 (AK (fun r=>uV r now) l (R.drop j) sure))
 |0,j,may,sure,hj=>by
  refine aM mM ?_;have h1:¬j<R.length:=by omega
  have h2:R.drop j=[]:=by simp;omega
  simp[-length_flatMap,-map_take,h1,h2,AK]
 |m+1,j,may,sure,hj=>by
  refine aM mM ?_;have g1:j<R.length:=by omega
  obtain⟨r,hrj⟩:=gE g1;have a1:=bQ (f:=eJ.enc) (w:=10) (fun _=>rfl) hrj;have al:(R.flatMap eJ.enc).length=R.length*10:=bV (f:=eJ.enc) (w:=10) (fun _=>rfl) R;have aq:10≤R.length*10-j*10:=by omega
  have w1:=fK g1 (by omega);have hrr:=hr r (an hrj);have ih:=fun may sure=>agh hsg hR hG1 hG2 hl hs hr hn m (j+1) may sure (by omega)
  rw[dG hrj];simp[-length_flatMap,-map_take,g1,a1,al,aq,hsg,hG1,hG2];refine WL.to (ar8 hsg hG1 hG2 (σ:=σ) (R:=R) (l:=l) (now:=now) (may:=may) (sure:=sure) (j:=j) hl hs hrr hn l.length 0 0 0 (by omega) (by omega) (by omega)) (by simp) rfl ?_;rintro x e σ' ⟨rfl,rfl,e1,e2,e6,e7,e10,e11,e12,e36,e37,e38⟩;simp only[aS,db]at e11 e12;simp only[AK];by_cases c1:r.count≤LJ (BF r now) l
  ·by_cases c2:r.count≤LJ (uV r now) l
   ·simp[-length_flatMap,-map_take,e1,e2,e6,e7,e10,e11,e12,e36,e37,e38,c1,c2,w1];exact WL.to (ih (max may r.col) (max sure r.col)) (by simp) rfl fun x e σ' hh=>by simpa[c1,c2]using hh
   ·simp[-length_flatMap,-map_take,e1,e2,e6,e7,e10,e11,e12,e36,e37,e38,c1,c2,w1];exact WL.to (ih (max may r.col) sure) (by simp) rfl fun x e σ' hh=>by simpa[c1,c2]using hh
  ·by_cases c2:r.count≤LJ (uV r now) l
   ·simp[-length_flatMap,-map_take,e1,e2,e6,e7,e10,e11,e12,e36,e37,e38,c1,c2,w1];exact WL.to (ih may (max sure r.col)) (by simp) rfl fun x e σ' hh=>by simpa[c1,c2]using hh
   ·simp[-length_flatMap,-map_take,e1,e2,e6,e7,e10,e11,e12,e36,e37,e38,c1,c2,w1];exact WL.to (ih may sure) (by simp) rfl fun x e σ' hh=>by simpa[c1,c2]using hh
theorem aiJ{lv:Nat}{G:List Abs.aG}{R:List eJ}{l:List Ev}{now:Int}(hsg:gk σ lv=some G)(hG1:G[1]?=some (.cells R.length (R.flatMap eJ.enc)))(hG2:G[2]?=some (.cells l.length (l.flatMap Ev.enc)))(hR:R.length≤9223372036854775807)(hl:l.length≤9223372036854775807)(hs:∀e∈l,e.sp.length≤9223372036854775807):
  bw T (.call false iW [.sl lv 1 R.length 0 R.length 10,.sl lv 2 l.length 0 l.length 2,.int .i64 now] σ) =
   some (.val (if ri R l now=0 then .ez [.int .u8 (ao7 R l now),.int .u8 (apS R l now),.int .i64 0]else .ez [.int .u8 0,.int .u8 0,.int .i64 (ri R l now)]) σ):=by
 refine aD yB yT rfl ?_;have hlt:=AP hsg;have hne:¬σ.length=lv:=by omega
 have hsg':gk ([]::σ) lv=some G:=by simp[gk,hne,hsg]
 have hAR:=MT (T:=T) (enc:=eJ.enc) (w:=10) (fun _=>rfl) (F:=G) (bi:=1) (v:=R.length) (l:=R) (p:=eJ.ok) (fv:=.fn eP [] []) (f:=dE) (g:=fG) (h:=di) (i:=dT) rfl rfl rfl rfl hG1 hR (.fn fun r _ σ=>S0) rfl (σ:=[]::σ) hsg';have hAE:=MT (T:=T) (enc:=Ev.enc) (w:=2) (fun _=>rfl) (F:=G) (bi:=2) (v:=l.length) (l:=l) (p:=Ev.ok) (fv:=.fn ed [] []) (f:=dj) (g:=fe) (h:=da) (i:=dI) rfl rfl rfl rfl hG2 hl (.fn fun r hr σ=>SV (hs r hr)) rfl (σ:=[]::σ) hsg';by_cases c1:20<R.length
 ·have c1':(20:Int)<R.length:=by omega
  simp[-length_flatMap,-map_take,ri,c1,c1']
 have c1':¬(20:Int)<R.length:=by omega
 cases c2:gW R eJ.ok
 ·simp[-length_flatMap,-map_take,ri,c1,c1',hAR,c2]
 by_cases c3:200<l.length
 ·have c3':(200:Int)<l.length:=by omega
  simp[-length_flatMap,-map_take,ri,c1,c1',hAR,c2,c3,c3']
 have c3':¬(200:Int)<l.length:=by omega
 cases c4:gW l Ev.ok
 ·simp[-length_flatMap,-map_take,ri,c1,c1',hAR,c2,c3,c3',hAE,c4]
 cases c5:cV now 0 1000000
 ·simp[-length_flatMap,-map_take,ri,c1,c1',hAR,c2,c3,c3',hAE,c4,gw,c5]
 have he:ri R l now=0:=by simp[ri,c1,c2,c3,c4,c5]
 rw[if_pos he];simp[-length_flatMap,-map_take,c1',hAR,c2,c3',hAE,c4,gw,c5];refine WL.to (agh (σ:=[]::σ) (lv:=lv) (G:=G) hsg' (R:=R) (l:=l) (now:=now) (by omega) hG1 hG2 (by omega) ?_ (ki.1 c2) c5 R.length 0 0 0 (by omega)) (by simp) rfl ?_
 ·intro e he;have:=ki.1 c4 e he;simp only[Ev.ok,af,bf]at this;omega
 ·rintro x e σ' ⟨rfl,rfl,e6,e7⟩;simp[-length_flatMap,-map_take,e6,e7,ao7,apS]
end Go.Proofs.YtfgljaglidhjiaaGreatDoor
namespace Go.Book
open List(length_flatMap map_take)
open Go Go.Abs Go.Rock
def yj(b:Bk):Int:=if Trem.ri b.rules b.BI b.aC.length=0 then Trem.ao7 b.rules b.BI b.aC.length else 0
def H0(b:Bk):Int:=if yj b=0 then b.k0 else if yj b=1 then b.k1 else b.k2
def tY(keep n:Int):Int:=if n<0 then -((-n*keep).tdiv 1000)else n
theorem Uf{f:Trem.eJ→Trem.Ev→Bool}{l:List Trem.Ev}:∀{R:List Trem.eJ} {a:Int},(∀r∈R,r.ok=true)→0≤a∧a≤2→0≤Trem.AK f l R a∧Trem.AK f l R a≤2
 |[],a,_,h=>h
 |r::R,a,hr,h=>by
  have h1:=(Trem.NH.1 (hr r (by simp))).2.2.2.2;simp only[Trem.AK];refine Uf (fun r' h'=>hr r' (by simp[h'])) ?_;split
  ·rcases h1 with h1 | h1<;>omega
  ·exact h
theorem O6{b:Bk}:0≤yj b∧yj b≤2:=by
 unfold yj;split
 ·rename_i h;refine Uf (fun r hr=>?_) (by omega);unfold Trem.ri at h;split at h
  ·omega
  ·split at h
   ·omega
   ·rename_i h2;exact ki.1 (by simpa using h2) r hr
 ·omega
end Go.Book
namespace Go.Proofs.YtfgljaglidhjiaaGreatDoor
open List(length_flatMap map_take)
open Go Go.Abs Go.Rock Go.Book
variable {σ:SK}
theorem SS{b:Bk}{er:List Int}{S:SK}(h1:b.rules.length≤1000000)(h2:b.BI.length≤1000000)(h3:∀e∈b.BI,e.sp.length≤1000000)(hs:gk S σ.length=some (b.bx σ.length er)):
  bw T (.call false gq [.ref σ.length 6 0 0] S)=some (.val (.int .u8 (yj b)) S):=by
 refine aD C5 Du rfl ?_;have hlt:=AP hs;have hne:¬S.length=σ.length:=by omega
 have h:=aiJ (σ:=[]::S) (lv:=σ.length) (G:=b.bx σ.length er) (R:=b.rules) (l:=b.BI) (now:=b.aC.length) (by simp[gk,hne,hs]) (by simp[Bk.bx]) (by simp[Bk.bx]) (by omega) (by omega) (fun e he=>by have:=h3 e he;omega);have hc6:(b.bx σ.length er)[6]?=some (.cells 0 (b.cells σ.length)):=by simp[Bk.bx]
 unfold yj;by_cases hc:Trem.ri b.rules b.BI b.aC.length=0
 ·rw[if_pos hc]at h;simp[-length_flatMap,-map_take,hne,hs,hc6,Bk.cells,h,hc]
 ·rw[if_neg hc]at h;simp[-length_flatMap,-map_take,hne,hs,hc6,Bk.cells,h,hc]
def CC(σ:SK)(bp X:D)(keep:Int)(acc rest:List Int)(x:Abs.Exit)(e:Env)(σ':SK):Prop :=
 if gW rest (fun n=>cV n (-100000) 100000)=true then
  x=.exit 0∧get e 0=bp∧get e 6=X∧get e 8=.sl σ.length 0 (acc++rest.map (tY keep)).length 0 (acc++rest.map (tY keep)).length 1∧σ'=[.cells (acc++rest.map (tY keep)).length ((acc++rest.map (tY keep)).flatMap aU)]::σ
 else x=.fU (rf 2)∧∃s,σ'=s::σ
theorem PT{l:List Int}{keep:Int}(hk:0≤keep∧keep≤1000)(hl:l.length≤1000000){bp X:D}(hb:bp.calm=bp)(hx:X.calm=X):∀(m i:Nat) (acc:List Int),i+m=l.length→acc.length=i →
  WL T [0,6,7,8,49,50,51] false la [(0,bp),(6,X),(7,.int .i64 keep),(8,.sl σ.length 0 i 0 i 1),(49,.aK l.length (l.flatMap aU)),(50,.int .i64 l.length),(51,.int .i64 i)] ([.cells i (acc.flatMap aU)]::σ)
   (CC σ bp X keep acc (l.drop i))
 |0,i,acc,hi,ha=>by
  refine aM ue ?_;obtain rfl:i=l.length:=by omega
  have h5:l.drop l.length=[]:=aJ (by omega);simp[-length_flatMap,-map_take,h5,CC,ha,hb,hx,gW]
 |m+1,i,acc,hi,ha=>by
  refine aM ue ?_;have hlt:i<l.length:=by omega
  obtain⟨n,hn⟩:=gE hlt;have h4:=fK hlt (by omega);have h5:=dG hn;have a1:=bQ (f:=aU) (w:=1) (fun _=>rfl) hn;simp only[aU,dM]at a1;rw[h5];have hr:(i+1)*8≤room:=by unfold room;omega
  cases hc:cV n (-100000) 100000 with
  |false =>
   simp[-length_flatMap,-map_take,hlt,a1,hb,hx,fg,hc,dJ,CC,gW]
  |true =>
   have hn2:=bf.1 hc;have hcl:(acc.flatMap aU).length=i:=by simp[bV (f:=aU) (w:=1) (fun _=>rfl),ha]
   have ht:(acc.flatMap aU).take i=acc.flatMap aU:=ar (by omega);have ih:=PT hk hl hb hx m (i+1) (acc++[tY keep n]) (by omega) (by simp[ha]);have fin:∀x e σ',CC σ bp X keep (acc++[tY keep n]) (l.drop (i+1)) x e σ'→CC σ bp X keep acc (n::l.drop (i+1)) x e σ':=fun x e σ' hh=>by
    simp only[CC,gW,ka,hc,Bool.true_and,aj,kT,eR]at hh ⊢;exact hh
   by_cases hneg:n<0
   ·have e0:IntKind.i64.wrap (-n) = -n:=gQ (by omega);have p1:0 ≤ -n*keep:=fq (by omega) hk.1;have p2 : -n*keep≤100000*1000:=mK (by omega) hk.2 hk.1 (by omega);have e1:IntKind.i64.wrap (-n*keep) = -n*keep:=gQ (by omega);have e2:(-n*keep).tdiv 1000 = -n*keep / 1000:=bC p1;have e3:IntKind.i64.wrap (-n*keep / 1000) = -n*keep / 1000:=gQ (by omega);have e4:IntKind.i64.wrap (-(-n*keep / 1000)) = -(-n*keep / 1000):=gQ (by omega);have e5:tY keep n = -(-n*keep / 1000):=by rw[tY,if_pos hneg,e2]
    rw[e5]at ih fin;generalize hq : -n*keep=q at e1 e2 e3 e4 ih fin;simp[-length_flatMap,-map_take,hlt,a1,hb,hx,fg,hc,cH,hneg,e0,hq,e1,e2,e3,e4,hr,h4,hcl,ht];exact WL.to ih (by simp) (by simp) fin
   ·have e5:tY keep n=n:=by rw[tY,if_neg hneg]
    rw[e5]at ih fin;simp[-length_flatMap,-map_take,hlt,a1,hb,hx,fg,hc,cH,hneg,hr,h4,hcl,ht];exact WL.to ih (by simp) (by simp) fin
theorem Sj(l:List (List Int)):(l.flatMap pE).length=l.length:=by have:=bV (f:=pE) (w:=1) (fun _=>rfl) l;omega
theorem Mg{bs:List Abs.aG}:bw T (.call true ie [.aH] (bs::σ))=some (.val (.sl σ.length (bs.length+1) 0 0 0 1) ((bs++[.cells 0 [],.cells 0 []])::σ)):=by
 refine yi wK wU rfl ?_;simp[-length_flatMap,-map_take]
theorem OV{bs:List Abs.aG}{l:List (List Int)}(hne:l≠[])(hl:l.length≤1000000):bw T (.call true ie [.aK l.length (l.flatMap pE)] (bs::σ)) =
  some (.val (.sl σ.length (bs.length+1) 1 0 l.length 1) ((bs++[.cells 0 [],.cells 1 (l.flatMap pE)])::σ)):=by
 refine yi wK wU rfl ?_;have h7:l.length*24≤room:=by unfold room;omega
 simp[-length_flatMap,-map_take,hne,Sj,h7]
theorem afo:LS=pE:=rfl
structure Sz(b:Bk):Prop where
 cf:b.bL.cf.length≤1000000000
 av:b.bL.av.length≤1000000
 ms:∀e∈b.az,e.m.name.length≤1000000000∧e.m.bg.length≤1000000000
theorem aij(b:cC)(m:cX)(aC:List (List Int)):∃x y,Bz b m aC=.agg [x,y]∧x.clean=true∧y.clean=true:=by
 unfold Bz;split
 ·split
  ·refine⟨_,_,rfl,?_,?_⟩<;>simp[ir (f:=zX) (fun s=>by simp[zX,ir (f:=Rock.aG.enc) (fun _=>by simp[D.clean])])]
  ·exact⟨_,_,rfl,rfl,rfl⟩
 ·exact⟨_,_,rfl,rfl,rfl⟩
theorem PS{b:Bk}{er:List Int}{ls:List mA}{aC:List (List Int)}(ht:b.bL.cf≠[])(hz:Sz b)(hm:∀e∈ls,e∈b.az)(hl:ls.length≤1000000)(hp:aC.length≤1000000000)(hpl:∀l∈aC,l.length≤1000000000){S:SK}(hs:gk S σ.length=some (b.bx σ.length er)):∀(m i:Nat),i+m=ls.length →
  WL T [0,11,80,81,82] false lf [(0,.ref σ.length 6 0 0),(11,.aK aC.length (aC.flatMap pE)),(80,.aK ls.length (ls.flatMap mA.enc)),(81,.int .i64 ls.length),(82,.int .i64 i)] S
   (fun x e σ'=>σ'=S∧if cQ (fun e=>tE b.bL e.m aC) (ls.drop i)=0 then x=.exit 2∧get e 0=.ref σ.length 6 0 0∧get e 11=.aK aC.length (aC.flatMap pE)else x=.fU (rf (cQ (fun e=>tE b.bL e.m aC) (ls.drop i))))
 |0,i,hi=>by
  refine aM uf ?_;have h1:¬i<ls.length:=by omega
  have h2:ls.drop i=[]:=aJ (by omega);simp[-length_flatMap,-map_take,h1,h2,cQ]
 |m+1,i,hi=>by
  refine aM uf ?_;have h1:i<ls.length:=by omega
  obtain⟨e,he⟩:=gE h1;have hem:=hm e (an he);obtain⟨k1,k2⟩:=hz.ms e hem;have hfl:=bQ (f:=mA.enc) (w:=4) (fun _=>rfl) he;have hd:=dG he;have h4:=fK h1 (by omega);have hlt:=AP hs;have hne:S≠[]:=by intro h;subst h;simp at hlt
  have hP:=aiK (σ:=S) (b:=b.bL) (m:=e.m) (aC:=aC) (wq:=nl bH.enc b.bL.av) vp hz.cf (by have:=hz.av;omega) k1 k2 hp hpl hne;have hc6:(b.bx σ.length er)[6]?=some (.cells 0 (b.cells σ.length)):=by simp[Bk.bx]
  obtain⟨px,py,hx,hx1,hx2⟩:=aij b.bL e.m aC;rw[hx,afo]at hP;have ih:=PS ht hz hm hl hp hpl hs m (i+1) (by omega);have hlt':=eI (f:=Rw.enc) ht;rw[hd,cQ];by_cases hc:tE b.bL e.m aC=0
  ·rw[hc]at hP;simp[-length_flatMap,-map_take,h1,hfl,h4,hs,hc6,Bk.cells,hlt',hP,hx1,hx2,pI,hc,bA];exact WL.to ih (by simp) rfl fun x e' σ' hh=>by simpa[hc]using hh
  ·have hM:=rD (σ:=S) hc;simp[-length_flatMap,-map_take,h1,hfl,h4,hs,hc6,Bk.cells,hlt',hP,hx1,hx2,hM,hc,bA,rf]
def agZ(b:Bk)(aC:List (List Int)):Bk:={b with aC:=aC }
def rj(b:Bk)(l:List Int):List (List Int):=b.aC++[l.map (tY (H0 b))]
def AA(b:Bk)(l:List Int):Bk×Int :=
 if bZ b.az=[]then(b,8)else if b.aC.length<200 then(if l.length=b.bL.av.length then(if gW l (fun n=>cV n (-100000) 100000)=true then
  (if cQ (fun e=>tE b.bL e.m (rj b l)) (bZ b.az)=0 then(agZ b (rj b l),0)else(b,cQ (fun e=>tE b.bL e.m (rj b l)) (bZ b.az)))else(b,2))else(b,1))else(b,3)
theorem aoD{f:D→SK→D×SK}{a b:List D}{S:SK}:cI.frzL f (a++b) S=((cI.frzL f a S).1++(cI.frzL f b (cI.frzL f a S).2).1,(cI.frzL f b (cI.frzL f a S).2).2):=by
 induction a generalizing S with
 |nil=>simp
 |cons d a ih=>simp[ih]
theorem ajK{l:List (List Int)}:D.bD (l.flatMap pE)=true:=ir (f:=pE) (fun x=>by simp[pE,D.clean,bA]) l
theorem Pg{S:SK}{L v n:Nat}(hS:S.length=L)(hL:0<L){aC:List (List Int)}(hn:n=aC.length+1){r:List Int}{M:Abs.aG}:
  cI 0 16 (.sl L 2 v 0 n 1) ([.cells r.length (r.flatMap aU),M,.cells v (aC.flatMap pE++[.sl L 0 r.length 0 r.length 1])]::S)=(.aK n ((aC++[r]).flatMap pE),[.dead,M,.dead]::S):=by
 have hne:S≠[]:=by intro h;subst h;simp at hS;omega
 subst hn;have hc:cells? ([Abs.aG.cells r.length (r.flatMap aU),M,.cells v (aC.flatMap pE++[.sl L 0 r.length 0 r.length 1])]::S) L 2 v=some (aC.flatMap pE++[.sl L 0 r.length 0 r.length 1]):=by simp[hS]
 rw[aoE hL hc];have h3:¬L≤0:=by omega
 have h1:=HW (l:=0) (n:=15) (l':=L) (i:=0) (v:=r.length) (off:=0) (m:=r.length) (w:=1) (σ:=[Abs.aG.cells r.length (r.flatMap aU),M,.dead]::S) (cs:=r.flatMap aU) h3 (by simp[hS]) (by omega);have ht:(r.flatMap aU).take r.length=r.flatMap aU:=ar (by rw[EH];omega);have hp:=Sj aC;have ht2:(aC.flatMap pE).take (aC.length+1)=aC.flatMap pE:=ar (by omega);simp[hS,aoD,ajK,h1,ht,hp,ht2,bA,pE,List.take_append]
theorem aqA{F:List Abs.aG}{b:Bk}{er:List Int}{nm:List UInt8}{l:List Int}{b':Bk}{e:Int}(ht:b.bL.cf≠[])(hz:Sz b)(hll:l.length≤1000000)(hml:b.az.length≤40)(h1:b.rules.length≤1000000)(h2:b.BI.length≤1000000)(h3:∀e∈b.BI,e.sp.length≤1000000)(hk:Trem.sj b.k0 b.k1 b.k2=true)(hpl:∀l∈b.aC,l.length≤1000000000)(hd:AA b l=(b',e))(he:e=0):
  bw T (.call false gb [.ref σ.length 6 0 0,.str nm,.aK l.length (l.flatMap aU)] (F::b.bx σ.length er::σ))=some (.val (.ez []) (F::b'.bx σ.length er::σ)):=by
 refine gF xK xS rfl (by simp) ?_;unfold AA at hd;split at hd
 case isTrue=>cases hd;cases he
 rename_i c1;split at hd
 case isFalse=>cases hd;cases he
 rename_i c2;split at hd
 case isFalse=>cases hd;cases he
 rename_i c3;split at hd
 case isFalse=>cases hd;cases he
 rename_i c4;split at hd
 case isFalse=>cases hd;rename_i h;exact absurd he h
 rename_i c5;cases hd;obtain⟨kp0,kp,hkp,hkp2,hkp3⟩:∃c kp:Int,yj b=c∧H0 b=kp∧((c=0∧kp=b.k0)∨(c=1∧kp=b.k1)∨(c=2∧kp=b.k2)):=by
  refine⟨_,_,rfl,rfl,?_⟩;have:=O6 (b:=b);unfold H0;split
  ·rename_i h;exact .inl ⟨h,rfl⟩
  ·split
   ·rename_i h;exact .inr (.inl ⟨h,rfl⟩)
   ·refine .inr (.inr ⟨by omega,rfl⟩)
 have hkb:0≤kp∧kp≤1000:=by
  simp only[Trem.sj,af,aA]at hk;rcases hkp3 with⟨_,rfl⟩ | ⟨_,rfl⟩ | ⟨_,rfl⟩<;>omega
 have q1:0<(bZ b.az).length:=aV.2 c1;have q2:(b.aC.length:Int)<200:=by omega
 have hC:=fun S=>SS (σ:=σ) (b:=b) (er:=er) (S:=S) h1 h2 h3
 have hLf:=fun S=>JD (σ:=σ) (b:=b) (er:=er) (S:=S) (by omega)
 have hR:=PT (σ:=F::b.bx σ.length er::σ) hkb hll (bp:=.ref σ.length 6 0 0) (X:=.aK (bZ b.az).length ((bZ b.az).flatMap mA.enc)) rfl rfl l.length 0 [] (by omega) rfl;rw[aS]at hR;rw[hkp]at hC;simp only[Bk.bx,Bk.cells]at hC hLf;have hw:(b.bL.av.length:Int)=(l.length:Int):=by omega
 rcases hkp3 with⟨rfl,e2⟩ | ⟨rfl,e2⟩ | ⟨rfl,e2⟩
 all_goals
  subst e2;simp[-length_flatMap,-map_take,Bk.bx,Bk.cells,hLf,q1,q2,hw,hC,cH];refine WL.to hR (by simp) (by simp[Bk.bx,Bk.cells]) ?_;intro x e σ' hq;simp only[CC,if_pos c4,List.nil_append]at hq;obtain⟨rfl,g0,g6,g8,rfl⟩:=hq;have hnp:rj b l=b.aC++[l.map (tY (H0 b))]:=rfl;rw[hkp2]at hnp;rw[hnp]at c5 ⊢;generalize hrs:l.map (tY _)=rs at g8 c5 ⊢;have hrl:rs.length=l.length:=by rw[← hrs];simp
  have hroom:(b.aC.length+1)*24≤room:=by unfold room;omega
  have h24:24≤room:=by unfold room;omega
  have hpel:=Sj b.aC;have htk:(b.aC.flatMap pE).take b.aC.length=b.aC.flatMap pE:=ar (by omega);have hfr:=fun S v hS=>Pg (S:=S) (L:=σ.length+1+1) (v:=v) (n:=b.aC.length+1) hS (by omega) (aC:=b.aC) rfl (r:=rs) (M:=.cells 0 [])
  have hLp:=PS (σ:=σ) (b:=b) (er:=er) (ls:=bZ b.az) (aC:=b.aC++[rs]) ht hz (fun e he=>(dn.1 he).1) (by have:=jz (fun e:mA=>e.left) b.az;simp only[bZ];omega) (by simp;omega) (by
   intro r hr;rcases bz.1 hr with hr | hr
   ·exact hpl r hr
   ·simp at hr;subst hr;omega) (S:=[.dead,.cells 0 [],.dead]::F::b.bx σ.length er::σ) (by simp[gk]) (bZ b.az).length 0 (by omega)
  rw[aS]at hLp;have hcl:∀k,(D.aK k (b.aC.flatMap pE++pE rs)).clean=true:=fun k=>by simp[Gv,ajK,pE,bA]
  have hcl0:∀k,(D.aK k (pE rs)).clean=true:=fun k=>by simp[pE,bA]
  have hnl2:=eI (f:=pE) (l:=b.aC++[rs]) (by simp);simp only[bT,aO,bO,jb,ba,dO,eB]at hnl2;by_cases hp0:b.aC=[]
  ·have hnl:nl pE b.aC=.aH:=by simp[nl,hp0]
   have hfr':=hfr;simp only[hp0,bO,dO,List.nil_append,db]at hfr';simp[-length_flatMap,-map_take,g0,g6,g8,Bk.bx,Bk.cells,hnl,Mg,h24,hfr'];refine WL.to hLp (by simp[hp0]) (by simp[Bk.bx,Bk.cells,hnl]) ?_;rintro x e σ' ⟨rfl,hh⟩;rw[c5,if_pos rfl]at hh;obtain⟨rfl,j0,j11⟩:=hh;simp[-length_flatMap,-map_take,j0,j11,Bk.bx,Bk.cells,agZ,hnl,hnl2,hcl]
  ·simp[-length_flatMap,-map_take,g0,g6,g8,Bk.bx,Bk.cells,eI hp0,OV hp0 (by omega:b.aC.length≤1000000),hroom,hpel,htk,hfr];refine WL.to hLp (by simp) (by simp[Bk.bx,Bk.cells,eI hp0]) ?_;rintro x e σ' ⟨rfl,hh⟩;rw[c5,if_pos rfl]at hh;obtain⟨rfl,j0,j11⟩:=hh;simp[-length_flatMap,-map_take,j0,j11,Bk.bx,Bk.cells,agZ,eI hp0,hnl2,hcl]
theorem ajd{F:List Abs.aG}{b:Bk}{er:List Int}{nm:List UInt8}{l:List Int}{b':Bk}{e:Int}(ht:bZ b.az≠[]→b.bL.cf≠[])(hz:Sz b)(hll:l.length≤1000000)(hml:b.az.length≤40)(h1:b.rules.length≤1000000)(h2:b.BI.length≤1000000)(h3:∀e∈b.BI,e.sp.length≤1000000)(hk:Trem.sj b.k0 b.k1 b.k2=true)(hpl:∀l∈b.aC,l.length≤1000000000)(hd:AA b l=(b',e))(he:e≠0):
  bw T (.call false gb [.ref σ.length 6 0 0,.str nm,.aK l.length (l.flatMap aU)] (F::b.bx σ.length er::σ))=some (.fU (rf e) (F::b.bx σ.length er::σ)):=by
 refine eg xK xS rfl ?_;have hLf:=fun S=>JD (σ:=σ) (b:=b) (er:=er) (S:=S) (by omega)
 simp only[Bk.bx,Bk.cells]at hLf;unfold AA at hd;split at hd
 case isTrue c1 =>
  cases hd;simp[-length_flatMap,-map_take,Bk.bx,Bk.cells,hLf,c1,dJ,D.clean,rf]
 rename_i c1;have ht:=ht c1;have q1:0<(bZ b.az).length:=aV.2 c1;split at hd
 case isFalse c2 =>
  cases hd;have q2:¬(b.aC.length:Int)<200:=by omega
  simp[-length_flatMap,-map_take,Bk.bx,Bk.cells,hLf,q1,q2,cH,dJ,D.clean,rf]
 rename_i c2;have q2:(b.aC.length:Int)<200:=by omega
 split at hd
 case isFalse c3 =>
  cases hd;have q3:((l.length:Int) == (b.bL.av.length:Int))=false:=by simp;omega
  simp[-length_flatMap,-map_take,Bk.bx,Bk.cells,hLf,q1,q2,q3,cH,dJ,D.clean,rf]
 rename_i c3;obtain⟨kp0,kp,hkp,hkp2,hkp3⟩:∃c kp:Int,yj b=c∧H0 b=kp∧((c=0∧kp=b.k0)∨(c=1∧kp=b.k1)∨(c=2∧kp=b.k2)):=by
  refine⟨_,_,rfl,rfl,?_⟩;have:=O6 (b:=b);unfold H0;split
  ·rename_i h;exact .inl ⟨h,rfl⟩
  ·split
   ·rename_i h;exact .inr (.inl ⟨h,rfl⟩)
   ·refine .inr (.inr ⟨by omega,rfl⟩)
 have hkb:0≤kp∧kp≤1000:=by
  simp only[Trem.sj,af,aA]at hk;rcases hkp3 with⟨_,rfl⟩ | ⟨_,rfl⟩ | ⟨_,rfl⟩<;>omega
 have hC:=fun S=>SS (σ:=σ) (b:=b) (er:=er) (S:=S) h1 h2 h3
 have hR:=PT (σ:=F::b.bx σ.length er::σ) hkb hll (bp:=.ref σ.length 6 0 0) (X:=.aK (bZ b.az).length ((bZ b.az).flatMap mA.enc)) rfl rfl l.length 0 [] (by omega) rfl;rw[aS]at hR;rw[hkp]at hC;simp only[Bk.bx,Bk.cells]at hC;have hw:(b.bL.av.length:Int)=(l.length:Int):=by omega
 split at hd
 case isFalse c4 =>
  cases hd;have c4':¬gW l (fun n=>cV n (-100000) 100000)=true:=c4;rcases hkp3 with⟨rfl,e2⟩ | ⟨rfl,e2⟩ | ⟨rfl,e2⟩
  all_goals
   subst e2;simp[-length_flatMap,-map_take,Bk.bx,Bk.cells,hLf,q1,q2,hw,hC,cH];refine WL.to hR (by simp) (by simp[Bk.bx,Bk.cells]) ?_;intro x e σ' hq;simp only[CC,if_neg c4']at hq;obtain⟨rfl,s,rfl⟩:=hq;simp[Bk.bx,Bk.cells,D.clean,rf]
 rename_i c4;split at hd
 case isTrue=>cases hd;exact absurd rfl he
 rename_i c5;cases hd;have hM:=fun S=>rD (σ:=S) c5
 have he':=c5;rcases hkp3 with⟨rfl,e2⟩ | ⟨rfl,e2⟩ | ⟨rfl,e2⟩
 all_goals
  subst e2;simp[-length_flatMap,-map_take,Bk.bx,Bk.cells,hLf,q1,q2,hw,hC,cH];refine WL.to hR (by simp) (by simp[Bk.bx,Bk.cells]) ?_;intro x e σ' hq;simp only[CC,if_pos c4,List.nil_append]at hq;obtain⟨rfl,g0,g6,g8,rfl⟩:=hq;have hnp:rj b l=b.aC++[l.map (tY (H0 b))]:=rfl;rw[hkp2]at hnp;rw[hnp]at c5 ⊢;generalize hrs:l.map (tY _)=rs at g8 c5 ⊢;have hrl:rs.length=l.length:=by rw[← hrs];simp
  have hroom:(b.aC.length+1)*24≤room:=by unfold room;omega
  have h24:24≤room:=by unfold room;omega
  have hpel:=Sj b.aC;have htk:(b.aC.flatMap pE).take b.aC.length=b.aC.flatMap pE:=ar (by omega);have hfr:=fun S v hS=>Pg (S:=S) (L:=σ.length+1+1) (v:=v) (n:=b.aC.length+1) hS (by omega) (aC:=b.aC) rfl (r:=rs) (M:=.cells 0 [])
  have hLp:=PS (σ:=σ) (b:=b) (er:=er) (ls:=bZ b.az) (aC:=b.aC++[rs]) ht hz (fun e he=>(dn.1 he).1) (by have:=jz (fun e:mA=>e.left) b.az;simp only[bZ];omega) (by simp;omega) (by
   intro r hr;rcases bz.1 hr with hr | hr
   ·exact hpl r hr
   ·simp at hr;subst hr;omega) (S:=[.dead,.cells 0 [],.dead]::F::b.bx σ.length er::σ) (by simp[gk]) (bZ b.az).length 0 (by omega)
  rw[aS]at hLp;have hcl:∀k,(D.aK k (b.aC.flatMap pE++pE rs)).clean=true:=fun k=>by simp[Gv,ajK,pE,bA]
  have hcl0:∀k,(D.aK k (pE rs)).clean=true:=fun k=>by simp[pE,bA]
  have hnl2:=eI (f:=pE) (l:=b.aC++[rs]) (by simp);simp only[bT,aO,bO,jb,ba,dO,eB]at hnl2;generalize herr:cQ (fun e=>tE b.bL e.m (b.aC++[rs])) (bZ b.az)=err at c5 ⊢;have hrc:(D.vn 311 (.agg [.int .i64 err])).clean=true:=rfl;by_cases hp0:b.aC=[]
  ·have hnl:nl pE b.aC=.aH:=by simp[nl,hp0]
   have hfr':=hfr;simp only[hp0,bO,dO,List.nil_append,db]at hfr';simp[-length_flatMap,-map_take,g0,g6,g8,Bk.bx,Bk.cells,hnl,Mg,h24,hfr'];refine WL.to hLp (by simp[hp0]) (by simp[Bk.bx,Bk.cells,hnl]) ?_;rintro x e σ' ⟨rfl,hh⟩;rw[herr,if_neg c5]at hh;subst hh;simp[Bk.bx,Bk.cells,rf,hrc,hnl]
  ·simp[-length_flatMap,-map_take,g0,g6,g8,Bk.bx,Bk.cells,eI hp0,OV hp0 (by omega:b.aC.length≤1000000),hroom,hpel,htk,hfr];refine WL.to hLp (by simp) (by simp[Bk.bx,Bk.cells,eI hp0]) ?_;rintro x e σ' ⟨rfl,hh⟩;rw[herr,if_neg c5]at hh;subst hh;simp[Bk.bx,Bk.cells,rf,hrc,eI hp0]
end Go.Proofs.YtfgljaglidhjiaaGreatDoor
set_option maxRecDepth 100000
namespace Go.Proofs.YtfgljaglidhjiaaGreatDoor
open List(length_flatMap map_take)
open Go Go.Abs Go.Rock
variable {σ:SK}
def CM(t:Int×Int×Int):List D:=[.int .i64 t.1,.int .i64 t.2.1,.int .i64 t.2.2]
theorem ar1(l:List (Int×Int×Int)):(l.flatMap CM).length=l.length*3:=bV (f:=CM) (w:=3) (fun _=>rfl) l
end Go.Proofs.YtfgljaglidhjiaaGreatDoor
set_option maxRecDepth 100000
namespace Go.Proofs.YtfgljaglidhjiaaGreatDoor
open List(length_flatMap map_take)
open Go Go.Abs Go.Rock
variable {σ:SK}
theorem ahw{b:cC}{x:yc}{n:Nat}(h:Bv b)(hw:0≤x.sn∧x.sn≤255):
  bw T (.call false nC [.agg [.int .i64 b.f.x,.int .i64 b.f.y,.int .i64 b.f.z,.int .i64 b.f.k,.aK b.cf.length (b.cf.flatMap Rw.enc),.int .i64 b.bJ,.int .i64 b.lift,.int .i64 b.deep,.aK b.av.length (b.av.flatMap bH.enc)],.agg x.enc,.int .i64 n] σ)=some (.val (.int .i64 (xk b n x)) σ):=by
 refine aD GR HJ rfl ?_;have hs:=fun σ=>AT (σ:=σ) h
 have hz:=h.sz;have hn:=h.n;have hwl:=h.av;have w1:=gQ (n:=x.sn) (by omega);have w2:=gQ (n:=(b.n:Int)-1) (by omega);have w3:=gQ (n:=(b.av.length:Int)-1) (by omega);unfold xk;cases c1:cV x.sn 1 4
 ·simp[-length_flatMap,-map_take,dN,w1,c1]
 by_cases c2:x.lo < -10000000000
 ·simp[-length_flatMap,-map_take,dN,w1,c1,c2]
 by_cases c3:x.hi<x.lo
 ·simp[-length_flatMap,-map_take,dN,w1,c1,c2,c3]
 by_cases c4:10000000000<x.hi
 ·simp[-length_flatMap,-map_take,dN,w1,c1,c2,c3,c4]
 have hsz:b.size=(b.n:Int):=hz;by_cases c5:x.sn=1
 ·cases c6:cV x.tick 0 n
  ·simp[-length_flatMap,-map_take,dN,w1,w2,show cV 1 1 4=true from rfl,c2,c3,c4,c5,c6,hs,cM,bu]
  ·cases c7:cV x.idx 0 ((b.n:Int)-1)<;>
    simp[-length_flatMap,-map_take,dN,w1,w2,show cV 1 1 4=true from rfl,c2,c3,c4,c5,c6,c7,hs,hsz,cM,bu]
 ·cases c6:cV x.tick 1 n
  ·simp[-length_flatMap,-map_take,dN,w1,w3,c1,c2,c3,c4,c5,c6,cM,bu]
  ·cases c7:cV x.idx 0 ((b.av.length:Int)-1)<;>
    simp[-length_flatMap,-map_take,dN,w1,w3,c1,c2,c3,c4,c5,c6,c7,cM,bu]
theorem aqv{lo hi n:Int}(h1 : -10000000000≤lo∧lo≤10000000000)(h2 : -10000000000≤hi∧hi≤10000000000)(hn : -100000000000000≤n∧n≤100000000000000):
  bw T (.call false oE [.agg [.int .i64 lo,.int .i64 hi],.int .i64 n] σ)=some (.val (.int .i64 (EL lo hi n)) σ):=by
 refine aD Io IX rfl ?_;have w1:=gQ (n:=n-hi) (by omega);have w2:=gQ (n:=n-lo) (by omega);have w3:=gQ (n:=max 0 (n-hi)+min 0 (n-lo)) (by omega);simp[-length_flatMap,-map_take,w1,w2,w3,EL]
theorem ajf{y:Rock.aG}(h1:0≤y.m∧y.m≤1000000)(h2:0≤y.h∧y.h≤10000000000):bw T (.call false jg [.agg y.enc] σ)=some (.val (.int .i64 y.KQ) σ):=by
 refine aD Fy Ge rfl ?_;unfold Rock.aG.KQ;by_cases c:y.m=0
 ·simp[-length_flatMap,-map_take,c]
 ·have e:y.h.tdiv y.m=y.h / y.m:=bC h2.1;have b1:0≤y.h / y.m∧y.h / y.m≤y.h:=⟨Int.ediv_nonneg h2.1 h1.1,Int.ediv_le_self _ h2.1⟩;have w1:=gQ (n:=y.h.tdiv y.m) (by omega);simp[-length_flatMap,-map_take,c,w1]
theorem PO:bw T (.call false vl [] σ)=some (.val (.agg [.jj,.jj,.fn lj [] [],.fn jg [] [],.fn jY [] []]) σ):=by
 refine aD PZ Qr rfl ?_;simp[-length_flatMap,-map_take]
theorem apY{y:Rock.aG}(h1:0≤y.m∧y.m≤1000000)(h2:0≤y.h∧y.h≤10000000000):0≤y.KQ∧y.KQ≤10000000000:=by
 unfold Rock.aG.KQ;split
 ·omega
 ·rw[bC h2.1];have b1:0≤y.h / y.m∧y.h / y.m≤y.h:=⟨Int.ediv_nonneg h2.1 h1.1,Int.ediv_le_self _ h2.1⟩;omega
theorem ag3{b:cC}{m:cX}{r:RunT}{n:Nat}{x:yc}(h:Fv b m)(hr:S9 b n r.1 r.2)(hx:Rdv b n x):0≤xl b m r x∧xl b m r x≤1000000000000:=by
 unfold xl;split
 ·rename_i h1;obtain⟨p1,p2,p3⟩:=hx.p h1;have hz:=h.bv.sz;obtain⟨s1,s2⟩:=asG hr (t:=x.tick.toNat) (by omega);rw[s1];have:=Sl h s2 (i:=x.idx.toNat) (by unfold cC.size at p3;omega);simp only[gV];omega
 ·rename_i h1;obtain⟨p1,p2,p3⟩:=hx.y h1;obtain⟨y1,y2⟩:=apv hr (t:=x.tick.toNat-1) (by omega);have y3:=asT y2 (w:=x.idx.toNat) (by omega);obtain⟨g1,g2,g3⟩:=y2.ok _ (an y3);rw[y1];simp only[gV,Rock.aG.UJ];have:=apY g1 g2;split
  ·omega
  ·split<;>omega
theorem aqC{b:cC}{m:cX}{r:RunT}{n:Nat}{x:yc}(h:Fv b m)(hr:S9 b n r.1 r.2)(hx:Rdv b n x)(hn:n≤200):
  bw T (.call false l8 [.agg [.int .i64 b.f.x,.int .i64 b.f.y,.int .i64 b.f.z,.int .i64 b.f.k,.aK b.cf.length (b.cf.flatMap Rw.enc),.int .i64 b.bJ,.int .i64 b.lift,.int .i64 b.deep,.aK b.av.length (b.av.flatMap bH.enc),.str m.name,.aK m.bg.length (m.bg.flatMap aU)],.agg [.aK r.1.length (r.1.flatMap zX),.aK r.2.length (r.2.flatMap zX)],.agg x.enc] σ)=some (.val (.int .i64 (xl b m r x)) σ):=by
 refine aD FC Gi rfl ?_;unfold xl;have hsl:=hr.sl;have hyl:=hr.yl;by_cases h1:x.sn=1
 ·obtain⟨p1,p2,p3⟩:=hx.p h1;have hz:=h.bv.sz;obtain⟨s1,s2⟩:=asG hr (t:=x.tick.toNat) (by omega);have hP:=fun σ=>Mk (σ:=σ) h s2 (i:=x.idx.toNat) (by unfold cC.size at p3;omega)
  rw[eO p2]at hP;have a1:=apL s1;have e2:x.tick<((n:Int)+1):=by omega
  rw[s1];simp[-length_flatMap,-map_take,h1,hsl,p1.1,e2,a1,hP]
 ·obtain⟨p1,p2,p3⟩:=hx.y h1;obtain⟨y1,y2⟩:=apv hr (t:=x.tick.toNat-1) (by omega);have y3:=asT y2 (w:=x.idx.toNat) (by omega);obtain⟨g1,g2,g3⟩:=y2.ok _ (an y3);have a1:=apL y1;have a4:=bQ (f:=aG.enc) (w:=3) (fun _=>rfl) y3;have hyw:=y2.len;have w1:=gQ (n:=x.tick-1) (by omega);have e1:0≤x.tick-1:=by omega
  have e2:x.tick-1<(n:Int):=by omega
  have e3:(x.tick-1).toNat=x.tick.toNat-1:=by omega
  have hw:=hx.sn;rw[if_neg h1,y1];have hA:=fun σ=>aqD (σ:=σ) (x:=bS (rowAt r.2 (x.tick.toNat-1)) x.idx.toNat)
  have hK:=fun σ=>aji (σ:=σ) (x:=bS (rowAt r.2 (x.tick.toNat-1)) x.idx.toNat)
  simp only[aG.enc]at hA hK;rcases(show x.sn=2∨x.sn=3∨x.sn=4 by omega)with h2 | h2 | h2
  ·simp[-length_flatMap,-map_take,h2,hyl,w1,p1.1,e1,e2,e3,a1,a4,PO,hA,hyw,p2,p3,Rock.aG.UJ]
  ·have hW:=fun σ=>ajf (σ:=σ) g1 g2
   simp only[aG.enc]at hW;simp[-length_flatMap,-map_take,h2,hyl,w1,p1.1,e1,e2,e3,a1,a4,PO,hW,hyw,p2,p3,Rock.aG.UJ]
  ·simp[-length_flatMap,-map_take,h2,hyl,w1,p1.1,e1,e2,e3,a1,a4,PO,hK,hyw,p2,p3,Rock.aG.UJ]
end Go.Proofs.YtfgljaglidhjiaaGreatDoor
set_option maxRecDepth 100000
namespace Go.Proofs.YtfgljaglidhjiaaGreatDoor
open List(length_flatMap map_take)
open Go Go.Abs Go.Rock
variable {σ:SK}
theorem ag2{l:List yc}{j:Nat}{m:yc}(h:l[j]?=some m):((l.flatMap yc.enc).drop (j*5)).take 5=m.enc :=
 bQ (f:=yc.enc) (w:=5) (fun _=>rfl) h
theorem ahB{A B:Abs.aG}:bw T (.zB fI [.ref σ.length 2 0 0] (some (.vn 262 (.agg []))) ([A,B,.cells 0 [.int .i64 0]]::σ))=some (.val (.ez []) ([A,B,.cells 0 [.int .i64 9]]::σ)):=by
 refine Ed Ah AF rfl (by simp[-length_flatMap,-map_take,sT];exact⟨rfl,rfl⟩) ?_;simp[-length_flatMap,-map_take]
theorem Vr(l:List yc):D.bD (l.flatMap yc.enc)=true:=ir (fun x=>by simp) l
theorem Qh(l:List (List Int)):D.bD (l.flatMap LS)=true:=ir (fun x=>by simp[LS,D.clean,bA]) l
theorem ED{l0 L i w n:Nat}{S:SK}(hn:0<n)(h:¬L≤l0)(hc:cells? S L i 0=some []):cI l0 n (.sl L i 0 0 0 w) S=(.aK 0 [],aX S L i .dead):=by
 rw[HW h hc hn];simp
theorem agA{l0 L i w:Nat}{S:SK}(h:¬L≤l0)(hc:cells? S L i 0=some []):cI l0 16 (.sl L i 0 0 0 w) S=(.aK 0 [],aX S L i .dead):=ED (by omega) h hc
theorem ajr{b:cC}{l:List cX}{aC:List (List Int)}{rd:List yc}(h:Ok b l aC)(hl:rd.length≤40)(hw:∀x∈rd,0≤x.sn∧x.sn≤255){A B:Abs.aG}:∀(k i:Nat),i+k=rd.length →
  WL T [1,2,3,4,8,9,10,32,33,34] true pN [(1,.aK l.length (l.flatMap cX.enc)),(2,.aK aC.length (aC.flatMap LS)),(3,.aK rd.length (rd.flatMap yc.enc)),(4,.bE [.int .i64 b.f.x,.int .i64 b.f.y,.int .i64 b.f.z,.int .i64 b.f.k,.aK b.cf.length (b.cf.flatMap Rw.enc),.int .i64 b.bJ,.int .i64 b.lift,.int .i64 b.deep,.aK b.av.length (b.av.flatMap bH.enc)]),(8,.sl σ.length 0 0 0 0 1),(9,.sl σ.length 1 0 0 0 3),(10,.ref σ.length 2 0 0),(32,.aK rd.length (rd.flatMap yc.enc)),(33,.int .i64 rd.length),(34,.int .i64 i)] ([A,B,.cells 0 [.int .i64 0]]::σ)
   (fun x e σ'=>if cQ (xk b aC.length) (rd.drop i)=0 then x=.exit 0∧σ'=[A,B,.cells 0 [.int .i64 0]]::σ∧get e 1=.aK l.length (l.flatMap cX.enc)∧get e 2=.aK aC.length (aC.flatMap LS)∧get e 3=.aK rd.length (rd.flatMap yc.enc)∧get e 4=.bE [.int .i64 b.f.x,.int .i64 b.f.y,.int .i64 b.f.z,.int .i64 b.f.k,.aK b.cf.length (b.cf.flatMap Rw.enc),.int .i64 b.bJ,.int .i64 b.lift,.int .i64 b.deep,.aK b.av.length (b.av.flatMap bH.enc)]∧get e 8=.sl σ.length 0 0 0 0 1∧get e 9=.sl σ.length 1 0 0 0 3∧get e 10=.ref σ.length 2 0 0
    else x=.ret∧get e 8=.aK 0 []∧get e 9=.aK 0 []∧get e 10=.ref σ.length 2 0 0∧σ'=[A,B,.cells 0 [.int .i64 (cQ (xk b aC.length) (rd.drop i))]]::σ):=by
 intro k;induction k with
 |zero =>
  intro i hi;refine Iw yQ ?_;have h1:¬i<rd.length:=by omega
  have h2:rd.drop i=[]:=aJ (by omega);simp[-length_flatMap,-map_take,h1,h2,cQ,Vq,Vr,cM,bu,Qh]
 |succ k ih0 =>
  intro i hi;refine Iw yQ ?_;have h1:i<rd.length:=by omega
  obtain⟨x,hx⟩:=gE h1;have h2:=ag2 hx;have h4:=fK h1 (by omega);have h5:=dG hx;have hC:=fun σ=>ahw (σ:=σ) (n:=aC.length) h.bv (hw x (an hx))
  simp only[yc.enc]at h2 hC;have ih:=ih0 (i+1) (by omega);rw[h5,cQ];by_cases hc:xk b aC.length x=0
  ·simp[-length_flatMap,-map_take,h1,h2,h4,hC,hc,Vq,Vr,cM,bu,Qh];exact WL.to ih (by simp) (by simp) fun x e σ hh=>by simpa[hc]using hh
  ·simp[-length_flatMap,-map_take,h1,h2,h4,hC,hc,Vq,Vr,cM,bu,Qh];have z:=agA (l0:=σ.length) (L:=σ.length+1) (i:=0) (w:=1) (S:=[.cells 0 [],.cells 0 []]::[A,B,.cells 0 [D.int .i64 (xk b (aC.length:Int) x)]]::σ) (by omega) (by simp);simp at z;rw[z];simp only[];rw[agA (by omega) (by simp)];simp
end Go.Proofs.YtfgljaglidhjiaaGreatDoor
set_option maxRecDepth 100000
namespace Go.Proofs.YtfgljaglidhjiaaGreatDoor
open List(length_flatMap map_take)
open Go Go.Abs Go.Rock
variable {σ:SK}
abbrev Tri:=Int×Int×Int
def BE(i n:Nat):Nat→List Int→Nat×List Tri→Nat×List Tri
 |_,[],st=>st
 |k,v::vs,st=>BE i n (k+1) vs (if v≠0∧st.1=n then(k,st.2++[((i:Int),(k:Int),v)])else st)
theorem NJ{i n:Nat}:∀(vs:List Int) (k:Nat) (st:Nat×List Tri),st.1≠n→BE i n k vs st=st
 |[],k,st,h=>rfl
 |v::vs,k,st,h=>by
  simp only[BE];rw[if_neg (fun hh=>h hh.2)];exact NJ vs (k+1) st h
theorem PE{i n:Nat}:∀(vs:List Int) (k:Nat) (st:Nat×List Tri),k+vs.length=n→(st.1≠n→st.1<n)→(BE i n k vs st).2.length≤st.2.length+1∧(BE i n k vs st).1≤n
 |[],k,st,h,hh=>by simp only[BE];exact⟨by omega,Classical.byContradiction fun h1=>by have:=hh (by omega);omega⟩
 |v::vs,k,st,h,hh=>by
  simp only[BE];simp only[aO]at h;by_cases hc:v≠0∧st.1=n
  ·rw[if_pos hc,NJ vs (k+1) _ (by simp only;omega)];simp;omega
  ·rw[if_neg hc];exact PE vs (k+1) st (by omega) hh
def GF(b:cC)(m:cX)(r:RunT)(rd:List yc):List Int:=rd.map fun x=>EL x.lo x.hi (xl b m r x)
theorem Pw(b:cC)(m:cX)(r:RunT)(rd:List yc):(GF b m r rd).length=rd.length:=by simp[GF]
theorem atn{b:cC}{l:List cX}{aC:List (List Int)}{rd:List yc}{rs:List RunT}{m:cX}{r:RunT}{i:Nat}(h:Ok b l aC)(hR:Rs b l aC.length rs)(hl:rd.length≤40)(hx:∀x∈rd,Rdv b aC.length x)(hm:l[i]?=some m)(hr:rs[i]?=some r){A B:Abs.aG}{L10:Nat}{s0:Nat}(hs0:s0≤100):
  ∀(k j:Nat) (st:Nat×List Tri),j+k=rd.length→st.1≤rd.length→st.2.length≤s0+j →
  WL T [3,4,8,9,10,15,16,17,18,51,52,53,60,61,62] false pO [(3,.aK rd.length (rd.flatMap yc.enc)),(4,.bE [.int .i64 b.f.x,.int .i64 b.f.y,.int .i64 b.f.z,.int .i64 b.f.k,.aK b.cf.length (b.cf.flatMap Rw.enc),.int .i64 b.bJ,.int .i64 b.lift,.int .i64 b.deep,.aK b.av.length (b.av.flatMap bH.enc)]),(8,.sl σ.length 0 L10 0 L10 1),(9,.sl σ.length 1 st.2.length 0 st.2.length 3),(10,.ref σ.length 2 0 0),(15,.aK rs.length (rs.flatMap Ia)),(16,.int .i64 i),(17,.own 0 [.str m.name,.aK m.bg.length (m.bg.flatMap aU)]),(18,.int .i64 st.1),(51,.aK l.length (l.flatMap cX.enc)),(52,.int .i64 l.length),(53,.int .i64 i),(60,.aK rd.length (rd.flatMap yc.enc)),(61,.int .i64 rd.length),(62,.int .i64 j)]
   ([A,.cells st.2.length (st.2.flatMap CM),B]::σ)
   (fun x e σ'=>x=.exit 4∧∃st',st'=BE i rd.length j ((GF b m r rd).drop j) st∧get e 3=.aK rd.length (rd.flatMap yc.enc)∧get e 4=.bE [.int .i64 b.f.x,.int .i64 b.f.y,.int .i64 b.f.z,.int .i64 b.f.k,.aK b.cf.length (b.cf.flatMap Rw.enc),.int .i64 b.bJ,.int .i64 b.lift,.int .i64 b.deep,.aK b.av.length (b.av.flatMap bH.enc)]∧get e 8=.sl σ.length 0 L10 0 L10 1∧get e 9=.sl σ.length 1 st'.2.length 0 st'.2.length 3∧get e 10=.ref σ.length 2 0 0∧get e 15=.aK rs.length (rs.flatMap Ia)∧get e 16=.int .i64 i∧get e 18=.int .i64 st'.1∧get e 51=.aK l.length (l.flatMap cX.enc)∧get e 52=.int .i64 l.length∧get e 53=.int .i64 i ∧
    σ'=[A,.cells st'.2.length (st'.2.flatMap CM),B]::σ):=by
 intro k;induction k with
 |zero =>
  intro j st hj h1 h2;refine aM yR ?_;have h3:¬j<rd.length:=by omega
  have h4:(GF b m r rd).drop j=[]:=aJ (by rw[Pw];omega);simp[-length_flatMap,-map_take,h3,h4,BE]
 |succ k ih0 =>
  intro j st hj g1 g2;refine aM yR ?_;have h1:j<rd.length:=by omega
  obtain⟨x,hxj⟩:=gE h1;have hmm:=an hm;have hrr:=hR.all r (an hr);have hxv:=hx x (an hxj);have h2:=ag2 hxj;have h4:=fK h1 (by omega);have hpl:=h.aik;have hi:i<rs.length:=(aF.1 hr).1;have hV:=fun σ=>aqC (σ:=σ) (h.fv m hmm) hrr hxv hpl
  have hb:=ag3 (h.fv m hmm) hrr hxv;have hen:=hxv.ends;have hM:=fun σ=>aqv (σ:=σ) (lo:=x.lo) (hi:=x.hi) (n:=xl b m r x) (by omega) (by omega) (by omega)
  have a1:=arI hr;have e1:(GF b m r rd)[j]?=some (EL x.lo x.hi (xl b m r x)):=by simp[GF,hxj]
  have h5:=dG e1;simp only[yc.enc]at h2 hV;have a7:=ar1 st.2;have a8:(st.2.flatMap CM).take (st.2.length*3)=st.2.flatMap CM:=ar (by omega);have h8:(st.2.length+1)*24≤room:=by unfold room;omega
  rw[h5,BE];generalize EL x.lo x.hi (xl b m r x)=v at *
  by_cases c1:v=0
  ·have ih:=ih0 (j+1) st (by omega) g1 (by omega);simp[-length_flatMap,-map_take,h1,h2,h4,hV,hM,hi,a1,c1,bA,O5,D.clean];exact WL.to ih (by simp) (by simp) fun x e σ hh=>by simpa[c1]using hh
  ·by_cases c2:st.1=rd.length
   ·have ih:=ih0 (j+1) (j,st.2++[((i:Int),(j:Int),v)]) (by omega) (by simp only;omega) (by simp;omega);simp[-length_flatMap,-map_take,h1,h2,h4,hV,hM,hi,a1,c1,c2,a7,a8,h8,bA,O5,D.clean];exact WL.to ih (by simp) (by simp[CM]) fun x e σ hh=>by simpa[c1,c2]using hh
   ·have ih:=ih0 (j+1) st (by omega) g1 (by omega);have c3:¬(st.1:Int)=rd.length:=by omega
    simp[-length_flatMap,-map_take,h1,h2,h4,hV,hM,hi,a1,c1,c2,c3,bA,O5,D.clean];exact WL.to ih (by simp) (by simp) fun x e σ hh=>by simpa[c2]using hh
end Go.Proofs.YtfgljaglidhjiaaGreatDoor
set_option maxRecDepth 100000
namespace Go.Proofs.YtfgljaglidhjiaaGreatDoor
open List(length_flatMap map_take)
open Go Go.Abs Go.Rock
variable {σ:SK}
def ND(b:cC)(rd:List yc):Nat→List (cX×RunT)→List Int×List Tri→List Int×List Tri
 |_,[],st=>st
 |i,p::t,st=>ND b rd (i+1) t (if(BE i rd.length 0 (GF b p.1 p.2 rd) (rd.length,st.2)).1=rd.length then st.1++[(i:Int)]else st.1,(BE i rd.length 0 (GF b p.1 p.2 rd) (rd.length,st.2)).2)
theorem atm{b:cC}{l:List cX}{aC:List (List Int)}{rd:List yc}{rs:List RunT}(h:Ok b l aC)(hR:Rs b l aC.length rs)(hl:rd.length≤40)(hx:∀x∈rd,Rdv b aC.length x){B:Abs.aG}:
  ∀(k i:Nat) (st:List Int×List Tri),i+k=l.length→st.1.length≤i→st.2.length≤i →
  WL T [3,4,8,9,10,15,51,52,53] false pP [(3,.aK rd.length (rd.flatMap yc.enc)),(4,.bE [.int .i64 b.f.x,.int .i64 b.f.y,.int .i64 b.f.z,.int .i64 b.f.k,.aK b.cf.length (b.cf.flatMap Rw.enc),.int .i64 b.bJ,.int .i64 b.lift,.int .i64 b.deep,.aK b.av.length (b.av.flatMap bH.enc)]),(8,.sl σ.length 0 st.1.length 0 st.1.length 1),(9,.sl σ.length 1 st.2.length 0 st.2.length 3),(10,.ref σ.length 2 0 0),(15,.aK rs.length (rs.flatMap Ia)),(51,.aK l.length (l.flatMap cX.enc)),(52,.int .i64 l.length),(53,.int .i64 i)]
   ([.cells st.1.length (st.1.flatMap aU),.cells st.2.length (st.2.flatMap CM),B]::σ)
   (fun x e σ'=>x=.exit 2∧∃st',st'=ND b rd i ((l.zip rs).drop i) st∧get e 8=.sl σ.length 0 st'.1.length 0 st'.1.length 1∧get e 9=.sl σ.length 1 st'.2.length 0 st'.2.length 3∧get e 10=.ref σ.length 2 0 0 ∧
    σ'=[.cells st'.1.length (st'.1.flatMap aU),.cells st'.2.length (st'.2.flatMap CM),B]::σ):=by
 intro k;induction k with
 |zero =>
  intro i st hi g1 g2;refine aM yS ?_;have h1:¬i<l.length:=by omega
  have h2:(l.zip rs).drop i=[]:=aJ (by rw[List.length_zip];omega);simp[-length_flatMap,-map_take,h1,h2,ND]
 |succ k ih0 =>
  intro i st hi g1 g2;refine aM yS ?_;have h1:i<l.length:=by omega
  have hlen:=hR.len;have hne:=hR.ne;obtain⟨m,hm⟩:=gE h1;obtain⟨r,hr⟩:∃r,rs[i]?=some r:=gE (by omega);have h2:=agP hm;have h4:=fK h1 (by omega);have hz:(l.zip rs)[i]?=some (m,r):=by simp[List.getElem?_zip_eq_some,hm,hr]
  have h5:=dG hz;have hsl:=PE (i:=i) (GF b m r rd) 0 (rd.length,st.2) (n:=rd.length) (by rw[Pw];omega) (by simp);rw[h5,ND];simp[-length_flatMap,-map_take,h1,h2,bA,D.clean];refine WL.to (atn (σ:=σ) h hR hl hx hm hr (A:=.cells st.1.length (st.1.flatMap aU)) (B:=B) (L10:=st.1.length) (s0:=50) (by omega) rd.length 0 (rd.length,st.2) (by omega) (by simp) (by simp only;omega)) (by simp) (by simp) ?_;rintro x e σ' ⟨rfl,st',hst,q3,q4,q8,q9,q10,q15,q16,q18,q51,q52,q53,rfl⟩;rw[aS]at hst;rw[← hst];rw[← hst]at hsl;have a4:=agI st.1;have a6:(st.1.flatMap aU).take st.1.length=st.1.flatMap aU:=ar (by omega);have h7:(st.1.length+1)*8≤room:=by unfold room;omega
  by_cases hc:st'.1=rd.length
  ·have ih:=ih0 (i+1) (st.1++[(i:Int)],st'.2) (by omega) (by simp;omega) (by simp only at hsl ⊢;omega);rw[if_pos hc];simp[-length_flatMap,-map_take,q3,q4,q8,q9,q10,q15,q16,q18,q51,q52,q53,hc,h4,a4,a6,h7];exact WL.to ih (by simp) (by simp) fun x e σ hh=>by simpa using hh
  ·have ih:=ih0 (i+1) (st.1,st'.2) (by omega) (by simp only;omega) (by simp only at hsl ⊢;omega);rw[if_neg hc];have hc':¬(st'.1:Int)=rd.length:=by omega
   simp[-length_flatMap,-map_take,q3,q4,q8,q9,q10,q15,q16,q18,q51,q52,q53,hc,hc',h4];exact WL.to ih (by simp) (by simp) fun x e σ hh=>by simpa using hh
def afS(b:cC)(l:List cX)(aC:List (List Int))(rd:List yc):D :=
 if zh b aC.length rd=0 then
  match zj b aC l with
  |some rs => .ez [.aK (ND b rd 0 (l.zip rs) ([],[])).1.length ((ND b rd 0 (l.zip rs) ([],[])).1.flatMap aU),.aK (ND b rd 0 (l.zip rs) ([],[])).2.length ((ND b rd 0 (l.zip rs) ([],[])).2.flatMap CM),.int .i64 0]
  |none => .ez [.aK 0 [],.aK 0 [],.int .i64 9]
 else .ez [.aK 0 [],.aK 0 [],.int .i64 (zh b aC.length rd)]
theorem Ku{l0 a b:Nat}{k:Int}{A B:List D}{S S1 S2:SK}{d1 d2:D}(h1:cI l0 15 d1 S=(.aK a A,S1))(h2:cI l0 15 d2 S1=(.aK b B,S2)):cI l0 16 (.ez [d1,d2,.int .i64 k]) S=(.ez [.aK a A,.aK b B,.int .i64 k],S2):=by
 by_cases hc:D.clean (.ez [d1,d2,.int .i64 k])=true
 ·rw[lh hc (by omega)];simp only[D.clean,D.bD,Bool.and_true,af]at hc;rw[lh hc.1 (by omega)]at h1;rw[lh hc.2 (by omega)]at h2;cases h1;cases h2;rfl
 ·rw[E7 (by simpa using hc) (by omega)];simp only[yq,Br];rw[h1];simp only;rw[h2];simp only;rw[lh (by rfl) (by omega)]
end Go.Proofs.YtfgljaglidhjiaaGreatDoor
set_option maxRecDepth 100000
namespace Go.Proofs.YtfgljaglidhjiaaGreatDoor
open List(length_flatMap map_take)
open Go Go.Abs Go.Rock Go.Book
variable {σ:SK}
theorem Ja{α:Type}{f:α→List D}{l:List α}{v t:Nat}{e:Env}{S:SK}(h:Abs.get e v=nl f l):Abs.get (afl v (nl f l) e S).1 t=if v=t then .aK l.length (l.flatMap f)else Abs.get e t:=by
 unfold nl at h ⊢;split at h
 ·rename_i hl;subst hl;simp
 ·rename_i hl;simp[hl];intro hh;subst hh;exact h
theorem L9{α:Type}{f:α→List D}{l:List α}{v:Nat}{e:Env}{S:SK}:(afl v (nl f l) e S).2=S:=by
 unfold nl;split<;>simp
theorem U0{wq:D}{b:cC}{l:List cX}{aC:List (List Int)}{rd:List yc}(hwq:wq.yh=.aK b.av.length (b.av.flatMap bH.enc))(h:Ok b l aC)(hl:rd.length≤1000000000)(hw:∀x∈rd,0≤x.sn∧x.sn≤255)(hσ:σ≠[]):
  bw T (.call false nD [.agg [.int .i64 b.f.x,.int .i64 b.f.y,.int .i64 b.f.z,.int .i64 b.f.k,.aK b.cf.length (b.cf.flatMap Rw.enc),.int .i64 b.bJ,.int .i64 b.lift,.int .i64 b.deep,wq],.aK l.length (l.flatMap cX.enc),nl LS aC,.aK rd.length (rd.flatMap yc.enc)] σ)=some (.val (afS b l aC rd) σ):=by
 have h1:=fun σ=>aqu (σ:=σ) h
 unfold afS;by_cases c0:40<rd.length
 ·have e1:zh b aC.length rd=3:=by simp[zh,c0]
  rw[e1];refine aD yA yO rfl ?_;simp[-length_flatMap,-map_take,hwq,Ja,L9,h1,show(40:Int)<rd.length by omega,cM,bu];have hp:=aV.2 hσ;rw[Ku (ED (by omega) (by omega) (by simp)) (ED (by omega) (by omega) (by simp))];simp
 have e1:zh b aC.length rd=cQ (xk b aC.length) rd:=by simp[zh,c0]
 rw[e1];have c0':¬(40:Int)<rd.length:=by omega
 have hL:=ajr (σ:=σ) h (by omega) hw (A:=.cells 0 []) (B:=.cells 0 []) rd.length 0 (by omega);rw[aS]at hL;by_cases c1:cQ (xk b aC.length) rd=0
 ·rw[c1]at hL;rw[if_pos c1];have hx:∀x∈rd,Rdv b aC.length x:=fun x hx=>Rdv.of (uj c1 x hx)
  refine Tq yA yO rfl rfl ?_;cases hrs:zj b aC l with
  |none =>
   have h2:=fun σ=>aja (σ:=σ) h hrs
   have hX:xz T (.fn fI [] []) [.ref σ.length 2 0 0] (some (.vn 262 (.agg []))) ([.cells 0 [],.cells 0 [],.cells 0 [.int .i64 0]]::σ)=some ([.cells 0 [],.cells 0 [],.cells 0 [.int .i64 9]]::σ):=wg ahB;simp[-length_flatMap,-map_take,SH,DB,hwq,Ja,L9,h1,c0',cM,bu];refine WL.to hL (by simp) (by simp) ?_;intro x e σ' hh;rw[if_pos rfl]at hh;obtain⟨rfl,rfl,g1,g2,g3,g4,g8,g9,g10⟩:=hh;simp[-length_flatMap,-map_take,SH,DB,g1,g2,g3,g4,g8,g9,g10,cM,bu];rw[AZ yP];simp[-length_flatMap,-map_take,SH,DB,g1,g2,g3,g4,g8,g9,g10,h2,hX,cM,bu,bA];have hp:=aV.2 hσ;rw[Ku (ED (by omega) (by omega) (by simp)) (ED (by omega) (by omega) (by simp))];simp
  |some rs =>
   have hR:=Rs.of h hrs;have h2:=fun σ hσ=>ajb (σ:=σ) h hσ hrs hR.len
   simp[-length_flatMap,-map_take,SH,DB,hwq,Ja,L9,h1,c0',cM,bu];refine WL.to hL (by simp) (by simp) ?_;intro x e σ' hh;rw[if_pos rfl]at hh;obtain⟨rfl,rfl,g1,g2,g3,g4,g8,g9,g10⟩:=hh;simp[-length_flatMap,-map_take,SH,DB,g1,g2,g3,g4,g8,g9,g10,cM,bu];rw[AZ yP];simp[-length_flatMap,-map_take,SH,DB,g1,g2,g3,g4,g8,g9,g10,h2,cM,bu,bA];refine WL.to (atm (σ:=σ) h hR (by omega) hx (B:=.cells 0 [.int .i64 0]) l.length 0 ([],[]) (by omega) (by simp) (by simp)) (by simp) (by simp) ?_;rintro x e σ' ⟨rfl,st,hst,q8,q9,q10,rfl⟩;rw[aS]at hst;rw[← hst];have hX:xz T (.fn fI [] []) [.ref σ.length 2 0 0] none ([.cells st.1.length (st.1.flatMap aU),.cells st.2.length (st.2.flatMap CM),.cells 0 [.int .i64 0]]::σ)=some ([.cells st.1.length (st.1.flatMap aU),.cells st.2.length (st.2.flatMap CM),.cells 0 [.int .i64 0]]::σ):=wg MG;simp[-length_flatMap,-map_take,SH,DB,q8,q9,q10,g10,hX];rw[Ku (zL (n:=15) (f:=aU) (w:=1) (l:=st.1) (by decide) (fun _=>rfl) (fun x=>by simp) hσ (by simp)) (zL (n:=15) (f:=CM) (w:=3) (l:=st.2) (by decide) (fun _=>rfl) (fun x=>by simp[CM]) hσ (by simp))];simp
 ·simp only[c1,if_false];refine aD yA yO rfl ?_;simp[-length_flatMap,-map_take,hwq,Ja,L9,h1,c0',cM,bu];refine WL.to hL (by simp) (by simp) ?_;intro x e σ' hh;rw[if_neg c1]at hh;obtain⟨rfl,g8,g9,g10,rfl⟩:=hh;simp[g8,g9,g10]
end Go.Proofs.YtfgljaglidhjiaaGreatDoor
