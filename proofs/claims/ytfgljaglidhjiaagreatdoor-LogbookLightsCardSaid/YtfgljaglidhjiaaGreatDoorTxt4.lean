import Derived.Test.YtfgljaglidhjiaaGreatDoorTxt3
import Derived.Test.YtfgljaglidhjiaaGreatDoorTxt2
import Derived.Test.YtfgljaglidhjiaaGreatDoorTxt1
set_option linter.all false
namespace Go.Proofs.YtfgljaglidhjiaaGreatDoor
open List(length_flatMap map_take)
open Go Go.Abs Go.Rock
variable {σ:SK}
theorem Ln{f:fU}(h:f.valid=true):bx T (.call false dr [.agg [.int .i64 f.x,.int .i64 f.y,.int .i64 f.z,.int .i64 f.k]] σ)=some (.val (.int .i64 f.size) σ):=by
 obtain⟨h1,h2,h3,h4,h5⟩:=fU.tj.1 h;exact I6 h1 h2 h3
theorem Wa{f:fU}{bl wt:List Int}(hf:f.valid=true)(hl:bl.length≤9223372036854775807)(hw:bl.length=wt.length):∀(k i:Nat) (last:Int),i+k=bl.length →
  WL T [3,4,9,30,31,32] false kZ [(3,.aI wt.length (wt.flatMap aT)),(4,.bI [.int .i64 f.x,.int .i64 f.y,.int .i64 f.z,.int .i64 f.k]),(9,.int .i64 last),(30,.aI bl.length (bl.flatMap aT)),(31,.int .i64 bl.length),(32,.int .i64 i)] σ
   (fun x e σ'=>σ'=σ∧if CT f.size last (bl.drop i) (wt.drop i)then x=.exit 0 else x=.ret∧get e 8=.bool false)
 |0,i,last,hi=>by
  refine aO kZ.eq_1 ?_;have h1:¬i<bl.length:=by omega
  have h2:bl.drop i=[]:=aB (by omega);simp[-length_flatMap,-map_take,h1,h2,CT]
 |k+1,i,last,hi=>by
  refine aO kZ.eq_1 ?_;have h1:i<bl.length:=by omega
  have h1':i<wt.length:=by omega
  obtain⟨b,hb⟩:=gE h1;obtain⟨w,hw'⟩:∃r,wt[i]?=some r:=⟨_,aJ h1'⟩;have h2:=qQ hb;have h3:=qQ hw';have h4:=gq h1 hl;have h5:=cM hb;have h6:=cM hw';have hB:=fun σ=>Ln (σ:=σ) hf
  have ih:=Wa hf hl hw k (i+1) b (by omega);rw[h5,h6,CT];by_cases c1:b≤last
  ·simp[-length_flatMap,-map_take,h1,h1',h2,h3,h4,hB,gS,c1,show ¬last<b by omega]
  ·by_cases c2:f.size≤b
   ·simp[-length_flatMap,-map_take,h1,h1',h2,h3,h4,hB,gS,c1,c2,show last<b by omega,show ¬b<f.size by omega]
   ·cases c3:cA w (-1000) 1000
    ·simp[-length_flatMap,-map_take,h1,h1',h2,h3,h4,hB,gS,c1,c2,c3,show last<b by omega,show b<f.size by omega]
    ·simp[-length_flatMap,-map_take,h1,h1',h2,h3,h4,hB,gS,c1,c2,c3,show last<b by omega,show b<f.size by omega];exact WL.to ih (by simp) rfl fun x e σ hh=>by simpa[show last<b by omega,show b<f.size by omega]using hh
theorem apH{f:fU}{k:Int}{bl wt:List Int}(hf:f.valid=true)(hl:bl.length≤9223372036854775807)(hk:f.valid=true→True):
  bx T (.call false lT [.agg [.int .i64 f.x,.int .i64 f.y,.int .i64 f.z,.int .i64 f.k],.int .i64 k,.aI bl.length (bl.flatMap aT),.aI wt.length (wt.flatMap aT)] σ)=some (.val (.bool (Kx f k bl wt)) σ):=by
 refine aA El oJ.eq_1 rfl ?_;obtain⟨q1,q2,q3,q4,q5⟩:=fU.tj.1 hf;have w1:=fT (n:=f.k-1) (by omega);unfold Kx;cases c1:cA k 0 (f.k-1)
 ·simp[-length_flatMap,-map_take,gS,w1,c1]
 by_cases c2:1≤bl.length
 rotate_left
 ·have:bl=[]:=bR.1 (by omega);subst this;simp[-length_flatMap,-map_take,gS,w1,c1]
 have c2':¬(bl.length:Int)<1:=by omega
 have c2'':¬bl=[]:=fun h=>by rw[h]at c2;simp at c2
 by_cases c3:bl.length=wt.length
 rotate_left
 ·simp[-length_flatMap,-map_take,gS,w1,c1,c2',c2'',c3,show ¬(bl.length:Int)=wt.length by omega]
 have c4:¬(wt.length:Int)<1:=by omega
 have c5:¬wt=[]:=fun h=>by rw[h]at c3;simp at c3;exact c2'' c3
 simp[-length_flatMap,-map_take,gS,w1,c1,c2,c2',c2'',c3,c4,c5];refine WL.to (Wa (σ:=[]::σ) hf hl c3 bl.length 0 (-1) (by omega)) (by simp[c3]) rfl ?_;rintro x e σ' ⟨rfl,h⟩;simp only[aP]at h;cases hc:CT f.size (-1) bl wt
 ·simp[hc]at h;simp[h]
 ·simp[hc]at h;simp[-length_flatMap,-map_take,h];omega
theorem aim{lo hi:Int}:bx T (.call false lU [.agg [.int .i64 lo,.int .i64 hi]] σ)=some (.val (.bool (JY lo hi)) σ):=by
 refine aA Em oK.eq_1 rfl ?_;unfold JY;by_cases c1 : -10000000000≤lo
 ·by_cases c2:lo≤hi<;>simp[-length_flatMap,-map_take,c1,c2]
 ·simp[-length_flatMap,-map_take,c1]
theorem Lt{f:fU}{m:xS}(hf:f.valid=true)(hn:m.name.length≤1000000000)(hl:m.bl.length≤9223372036854775807):
  bx T (.call false gw [.agg [.int .i64 f.x,.int .i64 f.y,.int .i64 f.z,.int .i64 f.k],.agg m.enc] σ)=some (.val (.int .i64 (f.measure m)) σ):=by
 refine aA Bj l8.eq_1 rfl ?_;have h1:=fun σ=>IP (σ:=σ) hn
 have h2:=fun σ=>apH (σ:=σ) (k:=m.kind) (wt:=m.wt) hf hl (fun _=>trivial)
 unfold fU.measure;cases c1:named m.name
 ·simp[-length_flatMap,-map_take,h1,c1]
 cases c2:Kx f m.kind m.bl m.wt
 ·simp[-length_flatMap,-map_take,h1,h2,c1,c2]
 cases c3:JY m.lo m.hi<;>simp[-length_flatMap,-map_take,h1,h2,aim,c1,c2,c3]
theorem av3{f:fU}{m:xS}(hf:f.valid=true)(hn:m.name.length≤1000000000)(hl:m.bl.length≤9223372036854775807):
  bx T (.call false dD [.agg m.enc,.bI [.int .i64 f.x,.int .i64 f.y,.int .i64 f.z,.int .i64 f.k]] σ)=some (.val (.dM [.str m.name,.int .i64 (f.measure m)]) σ):=by
 refine aA yU jN.eq_1 rfl ?_;have h:=fun σ=>Lt (σ:=σ) hf hn hl
 simp only[xS.enc]at h ⊢;simp[-length_flatMap,-map_take,h]
theorem ajo{l:List xS}{j:Nat}{m:xS}(h:l[j]?=some m):((l.flatMap xS.enc).drop (j*6)).take 6=m.enc :=
 bS (f:=xS.enc) (w:=6) (fun _=>rfl) h
def QK(l:List xS):Prop:=∀m∈l,m.name.length≤1000000000∧m.bl.length≤9223372036854775807
theorem Ra{f:fU}{l:List xS}(hf:f.valid=true)(hs:QK l)(hl:l.length≤1000000000):∀(k i:Nat) (met:List (List UInt8)),i+k=l.length →
  WL T [1,5,11,12,13] false fL [(1,.fn dD [] [.bI [.int .i64 f.x,.int .i64 f.y,.int .i64 f.z,.int .i64 f.k]]),(5,.mB σ.length 0),(11,.aI l.length (l.flatMap xS.enc)),(12,.int .i64 l.length),(13,.int .i64 i)] ([.cells 0 (D2 met)]::σ)
   (fun x e σ'=>∃s,σ'=s::σ∧if f.F6 met (l.drop i)=0 then x=.exit 0 else x=.ret∧get e 4=.int .i64 (f.F6 met (l.drop i)))
 |0,i,met,hi=>by
  refine aO fL.eq_1 ?_;have h1:¬i<l.length:=by omega
  have h2:l.drop i=[]:=aB (by omega);simp[-length_flatMap,-map_take,h1,h2,fU.F6]
 |k+1,i,met,hi=>by
  refine aO fL.eq_1 ?_;have h1:i<l.length:=by omega
  obtain⟨m,hm⟩:=gE h1;have h2:=ajo hm;have h4:=gq h1 (by omega);have h5:=cM hm;obtain⟨hs1,hs2⟩:=hs m (aj hm);have hC:=fun σ=>av3 (σ:=σ) hf hs1 hs2
  simp only[xS.enc]at h2 hC;rw[h5,fU.F6];by_cases hc1:f.measure m=0
  ·have hg:=aoX (S:=[.cells 0 (D2 met)]::σ) (l:=σ.length) (i:=0) (met:=met) (k:=m.name) (by simp);cases hc2:met.contains m.name
   ·rw[hc2]at hg;have hp:=aoY (S:=[.cells 0 (D2 met)]::σ) (l:=σ.length) (i:=0) (met:=met) (k:=m.name) (by simp) hc2;have ih:=Ra hf hs hl k (i+1) (met++[m.name]) (by omega);simp at hp;have hc3:¬m.name∈met:=by simpa using hc2
    simp[-length_flatMap,-map_take,h1,h2,h4,hC,hc1,hg,hp,hc3];exact WL.to ih (by simp) (by simp) fun x e σ' hh=>by simpa[hc1]using hh
   ·rw[hc2]at hg;have hc3:m.name∈met:=by simpa using hc2
    simp[-length_flatMap,-map_take,h1,h2,h4,hC,hc1,hg,hc3]
  ·simp[-length_flatMap,-map_take,h1,h2,h4,hC,hc1]
theorem ail{f:fU}{l:List xS}(hf:f.valid=true)(hs:QK l)(hl:l.length≤1000000000):
  bx T (.call false fu [.aI l.length (l.flatMap xS.enc),.fn dD [] [.bI [.int .i64 f.x,.int .i64 f.y,.int .i64 f.z,.int .i64 f.k]]] σ)=some (.val (.int .i64 (f.F6 [] l)) σ):=by
 refine aA xd ir.eq_1 rfl ?_;have hm:BO ([]::σ) .make []=some (.mB σ.length 0,[.cells 0 (D2 [])]::σ):=by simp[BO,D2]
 simp[-length_flatMap,-map_take,hm];refine WL.to (Ra (σ:=σ) hf hs hl l.length 0 [] (by omega)) (by simp) (by simp) ?_;rintro x e σ' ⟨s,rfl,h⟩;simp only[aP]at h;by_cases hc:f.F6 [] l=0
 ·rw[if_pos hc]at h;subst h;simp[-length_flatMap,-map_take,hc]
 ·rw[if_neg hc]at h;obtain⟨rfl,h⟩:=h;simp[h]
theorem PM{f:fU}{l:List xS}(hf:f.valid=true)(hs:QK l)(hl:l.length≤1000000000):
  bx T (.call false iy [.agg [.int .i64 f.x,.int .i64 f.y,.int .i64 f.z,.int .i64 f.k],.aI l.length (l.flatMap xS.enc)] σ)=some (.val (.int .i64 (f.Gp l)) σ):=by
 refine aA Af kX.eq_1 rfl ?_;unfold fU.Gp;by_cases hc:12<l.length
 ·simp[-length_flatMap,-map_take,hc,show(12:Int)<l.length by omega]
 ·simp[-length_flatMap,-map_take,hc,show ¬(12:Int)<l.length by omega,ail hf hs hl]
end Go.Proofs.YtfgljaglidhjiaaGreatDoor
set_option maxRecDepth 100000
namespace Go.Proofs.YtfgljaglidhjiaaGreatDoor
open List(length_flatMap map_take)
open Go Go.Abs Go.Rock
variable {σ:SK}
structure Fm(f:fU)(m:cU):Prop where
 fv:f.valid=true
 len:(m.bu.length:Int)=f.k*f.size
 ok:∀v∈m.bu,-100000≤v∧v≤100000
theorem Fm.of{f:fU}{m:cU}(hf:f.valid=true)(h:f.model m=0):Fm f m:=by
 unfold fU.model at h;split at h
 ·split at h
  ·rename_i h1;exact⟨hf,h1.1,fun v hv=>ba.1 (fW.1 h1.2 v hv)⟩
  ·cases h
 ·cases h
theorem atX{a b A B:Int}(ha : -A≤a∧a≤A)(hb : -B≤b∧b≤B)(hA:0≤A) : -(A*B)≤a*b∧a*b≤A*B:=by
 have key:∀x:Int,0≤x→x≤A → -(A*B)≤x*b∧x*b≤A*B:=by
  intro x h0 h1;have e1:x*b≤x*B:=Int.mul_le_mul_of_nonneg_left hb.2 h0;have e2:x*(-B)≤x*b:=Int.mul_le_mul_of_nonneg_left hb.1 h0;have e3:x*B≤A*B:=fJ h1 (by omega);rw[Int.mul_neg]at e2;omega
 rcases mN 0 a with h | h
 ·exact key a h ha.2
 ·have:=key (-a) (by omega) (by omega);rw[Int.neg_mul]at this;omega
theorem aAB{f:fU}{m:cU}{x:xS}(hm:Fm f m)(hx:Mev f x):∀(k i:Nat) (acc:Int),i+k=x.bl.length → -(i*100000000)≤acc∧acc≤i*100000000 →
  WL T [2,3,4,8,9,10] false nP [(2,.bI [.int .i64 f.x,.int .i64 f.y,.int .i64 f.z,.int .i64 f.k,.int .i64 x.kind,.aI x.bl.length (x.bl.flatMap aT),.aI x.wt.length (x.wt.flatMap aT)]),(3,.bI [.str m.name,.aI m.bu.length (m.bu.flatMap aT)]),(4,.int .i64 acc),(8,.aI x.bl.length (x.bl.flatMap aT)),(9,.int .i64 x.bl.length),(10,.int .i64 i)] σ
   (fun x' e σ'=>σ'=σ∧x'=.exit 0∧get e 4=.int .i64 (ahW m.bu (x.kind*f.size) acc (x.bl.drop i) (x.wt.drop i))):=by
 intro k;induction k with
 |zero =>
  intro i acc hi ha;refine aO nP.eq_1 ?_;have h1:¬i<x.bl.length:=by omega
  have h2:x.bl.drop i=[]:=aB (by omega);simp[-length_flatMap,-map_take,h1,h2,ahW]
 |succ k ih0 =>
  intro i acc hi ha;refine aO nP.eq_1 ?_;have h1:i<x.bl.length:=by omega
  have hlen:=hx.len;have h1':i<x.wt.length:=by omega
  obtain⟨b,hb⟩:=gE h1;obtain⟨w,hw⟩:=gE h1';obtain⟨q1,q2⟩:=O7 hm.fv;obtain⟨z1,z2,z3,z4,z5⟩:=fU.tj.1 hm.fv;obtain⟨s1,s2,s3⟩:=Pr hx.ayI hb hw;have hl64:=Mi hx.len hx.ayI (by omega);have h4:=gq h1 (by omega);have h5:=cM hb;have h6:=cM hw;have h2:=qQ hb;have h3:=qQ hw;have k1:=hx.kind;have k2:0≤x.kind*f.size∧x.kind*f.size+f.size≤f.k*f.size:=by
   refine⟨eC k1.1 (by omega),?_⟩;have:=fJ (show x.kind+1≤f.k by omega) (show 0≤f.size by omega);rw[Int.add_mul]at this;omega
  have hvl:=hm.len;obtain⟨j,hj⟩:∃j:Nat,x.kind*f.size+b=j:=⟨(x.kind*f.size+b).toNat,by omega⟩;have hj1:j<m.bu.length:=by omega
  obtain⟨v,hv⟩:=gE hj1;have hvb:=hm.ok v (aj hv);have h7:=qQ hv;have hB:=fun σ=>Ln (σ:=σ) hm.fv
  have b1:=atX (a:=w) (b:=v) (A:=1000) (B:=100000) (by omega) hvb (by omega);have w1:=fT (n:=x.kind*f.size) (by omega);have w2:=fT (n:=(j:Int)) (by omega);have w3:=fT (n:=w*v) (by omega);have w4:=fT (n:=acc+w*v) (by omega);have ih:=ih0 (i+1) (acc+w*v) (by omega) (by omega);rw[h5,h6,ahW,hj];simp only[Int.toNat_natCast,hv,gU];simp[-length_flatMap,-map_take,h1,h1',h2,h3,h4,hB,w1,w2,w3,w4,hj,hj1,h7];exact WL.to ih (by simp) rfl fun x e σ hh=>by simpa[hv]using hh
theorem aiE{f:fU}{m:cU}{x:xS}(hm:Fm f m)(hx:Mev f x):bx T (.call false lH [.agg [.int .i64 f.x,.int .i64 f.y,.int .i64 f.z,.int .i64 f.k,.int .i64 x.kind,.aI x.bl.length (x.bl.flatMap aT),.aI x.wt.length (x.wt.flatMap aT)],.agg [.str m.name,.aI m.bu.length (m.bu.flatMap aT)]] σ)=some (.val (.int .i64 (PA f m x)) σ):=by
 refine aA GL rB.eq_1 rfl ?_;simp[-length_flatMap,-map_take];refine WL.to (aAB (σ:=[]::σ) hm hx x.bl.length 0 0 (by omega) (by simp)) (by simp) rfl ?_;rintro x' e σ' ⟨rfl,rfl,g⟩;simp[-length_flatMap,-map_take,g,PA]
theorem VZ{f:fU}{x:xS}:bx T (.call false j3 [.agg [.int .i64 f.x,.int .i64 f.y,.int .i64 f.z,.int .i64 f.k],.agg x.enc] σ)=some (.val (.fn lH [.agg [.int .i64 f.x,.int .i64 f.y,.int .i64 f.z,.int .i64 f.k,.int .i64 x.kind,.aI x.bl.length (x.bl.flatMap aT),.aI x.wt.length (x.wt.flatMap aT)]] []) σ):=by
 refine aA BS mS.eq_1 rfl ?_;simp[-length_flatMap,-map_take,D.clean,bz]
end Go.Proofs.YtfgljaglidhjiaaGreatDoor
namespace Go.Book
open List(length_flatMap map_take)
open Go Go.Abs Go.Rock
def xo(f:fU)(x:xS):Int:=if f.valid=true then f.measure x else 1
def zr(p:Int×Int):List D:=[.int .i64 p.1,.int .i64 p.2]
def rS(nm:List UInt8)(k lo hi:Int)(ps:List (Int×Int)):xS:=⟨nm,k,ps.map (·.1),ps.map (·.2),lo,hi⟩
end Go.Book
namespace Go.Proofs.YtfgljaglidhjiaaGreatDoor
open List(length_flatMap map_take)
open Go Go.Abs Go.Rock Go.Book
variable {σ:SK}
theorem NC{f:fU}{x:xS}(hf:f.valid=true)(hn:x.name.length≤1000000000)(hl:x.bl.length≤1000000000):
  bx T (.call false dT [.bI [.int .i64 f.x,.int .i64 f.y,.int .i64 f.z,.int .i64 f.k],.bI [.aI 1 x.enc]] σ)=some (.val (.int .i64 (f.measure x)) σ):=by
 refine aA zA kc.eq_1 rfl ?_;have h:=fun σ=>PM (σ:=σ) (f:=f) (l:=[x]) hf (by intro m hm;simp at hm;subst hm;exact⟨hn,by omega⟩) (by simp)
 have he:f.Gp [x]=f.measure x:=by
  simp only[fU.Gp,fU.F6];by_cases h:f.measure x=0<;>simp[h]
 rw[he]at h;simp only[List.length_singleton,aZ,dR,dO]at h;simp only[xS.enc]at h ⊢;simp[-length_flatMap,-map_take,h]
theorem HU{f:fU}{x:xS}(hn:x.name.length≤1000000000)(hl:x.bl.length≤1000000000):
  bx T (.call false ji [.agg [.int .i64 f.x,.int .i64 f.y,.int .i64 f.z,.int .i64 f.k],.aI 1 x.enc] σ)=some (.val (.int .i64 (xo f x)) σ):=by
 refine aA Bh l6.eq_1 rfl ?_;have hC:=fun σ=>Ml (σ:=σ) (fs:=[.fn cQ [.agg [.int .i64 f.x,.int .i64 f.y,.int .i64 f.z,.int .i64 f.k]] [],.fn dT [] [.bI [.int .i64 f.x,.int .i64 f.y,.int .i64 f.z,.int .i64 f.k],.bI [.aI 1 x.enc]]]) (es:=[f.shape,f.measure x]) rfl (by simp) (by simp) (by
  intro i d n hd hn' h0 σ;match i with
  |0 =>
   simp at hd hn';subst hd hn';simp[IQ]
  |1 =>
   simp only[List.getElem?_cons_succ,cc,ae]at hd hn';subst hd hn';have h1:f.valid=true:=by
    have:=h0 0 (by omega);simp[fU.shape]at this;exact this
   have hh:=NC (σ:=σ) h1 hn hl;rw[sc];have h':bx T (.call false dT ([]++[]++[.bI [.int .i64 f.x,.int .i64 f.y,.int .i64 f.z,.int .i64 f.k],.bI [.aI 1 x.enc]]) σ)=_:=hh;rw[h'];rfl
  |i+2=>simp at hd)
 have e1:di id [f.shape,f.measure x]=xo f x:=by
  simp only[di,id,xo,fU.shape];by_cases h:f.valid=true
  ·by_cases h2:f.measure x=0<;>simp[h,h2]
  ·simp[h]
 rw[e1]at hC;simp only[xS.enc,aL,bG]at hC ⊢;simp[-length_flatMap,-map_take,hC]
theorem apr{f:fU}{m:cU}(hf:f.valid=true)(hn:m.name.length≤1000000000)(hl:m.bu.length≤1000000000):
  bx T (.call false pG [.bI [.int .i64 f.x,.int .i64 f.y,.int .i64 f.z,.int .i64 f.k],.bI [.str m.name,.aI m.bu.length (m.bu.flatMap aT)]] σ)=some (.val (.int .i64 (f.model m)) σ):=by
 refine aA KE vj.eq_1 rfl ?_;simp[-length_flatMap,-map_take,Q5 hf hn hl]
theorem aps{f:fU}{x:xS}(hf:f.valid=true)(hn:x.name.length≤1000000000)(hl:x.bl.length≤1000000000):
  bx T (.call false nC [.bI [.int .i64 f.x,.int .i64 f.y,.int .i64 f.z,.int .i64 f.k],.bI x.enc] σ)=some (.val (.int .i64 (f.measure x)) σ):=by
 refine aA KF vk.eq_1 rfl ?_;have h:=fun σ=>Lt (σ:=σ) (f:=f) (m:=x) hf hn (by omega)
 simp only[xS.enc]at h ⊢;simp[-length_flatMap,-map_take,h]
theorem apq{f:fU}{m:cU}{x:xS}(hf:f.valid=true)(hm:f.model m=0)(hx:f.measure x=0)(hn:m.name.length≤1000000000)(hl:m.bu.length≤1000000000)(hn2:x.name.length≤1000000000)(hl2:x.bl.length≤1000000000):
  bx T (.call false vN [.agg [.int .i64 f.x,.int .i64 f.y,.int .i64 f.z,.int .i64 f.k],.agg [.str m.name,.aI m.bu.length (m.bu.flatMap aT)],.agg x.enc] σ)=some (.val (.dM [.int .i64 (PA f m x),.int .i64 0]) σ):=by
 refine aA NX yn.eq_1 rfl ?_;have hC:=fun σ=>Ml (σ:=σ) (fs:=[.fn cQ [.agg [.int .i64 f.x,.int .i64 f.y,.int .i64 f.z,.int .i64 f.k]] [],.fn pG [] [.bI [.int .i64 f.x,.int .i64 f.y,.int .i64 f.z,.int .i64 f.k],.bI [.str m.name,.aI m.bu.length (m.bu.flatMap aT)]],.fn nC [] [.bI [.int .i64 f.x,.int .i64 f.y,.int .i64 f.z,.int .i64 f.k],.bI x.enc]]) (es:=[f.shape,f.model m,f.measure x]) rfl (by simp) (by simp) (by
  intro i d n hd hn' h0 σ;match i with
  |0 =>
   simp at hd hn';subst hd hn';simp[IQ]
  |1 =>
   simp at hd hn';subst hd hn';simp[apr hf hn hl]
  |2 =>
   simp only[List.getElem?_cons_succ,cc,ae]at hd hn';subst hd hn';have hh:=aps (σ:=σ) hf hn2 hl2;rw[sc];have h':bx T (.call false nC ([]++[]++[.bI [.int .i64 f.x,.int .i64 f.y,.int .i64 f.z,.int .i64 f.k],.bI x.enc]) σ)=_:=hh;rw[h'];rfl
  |i+3=>simp at hd)
 have e1:di id [f.shape,f.model m,f.measure x]=0:=by simp[di,fU.shape,hf,hm,hx]
 rw[e1]at hC;have hW:=fun σ=>VZ (σ:=σ) (f:=f) (x:=x)
 have hS:=fun σ=>aiE (σ:=σ) (Fm.of hf hm) (Mev.of hx)
 simp only[xS.enc,aL,bG]at hC hW ⊢;simp[-length_flatMap,-map_take,hC,hW,hS]
theorem TH(l:List (Int×Int)):(l.flatMap zr).length=l.length*2:=cm (f:=zr) (w:=2) (fun _=>rfl) l
theorem CF(l:List Int):(l.flatMap aT).length=l.length:=by have:=cm (f:=aT) (w:=1) (fun _=>rfl) l;omega
def Le(L:Nat)(nm:List UInt8)(k lo hi:Int)(ps:List (Int×Int)):List Abs.aF :=
 [.cells 0 [.str nm,.int .i64 k,.sl L 1 ps.length 0 ps.length 1,.sl L 2 ps.length 0 ps.length 1,.int .i64 lo,.int .i64 hi],.cells ps.length ((ps.map (·.1)).flatMap aT),.cells ps.length ((ps.map (·.2)).flatMap aT)]
theorem Mn{ps:List (Int×Int)}(hps:ps.length≤1000000){X Y:D}(hx:X.calm=X)(hy:Y.calm=Y){nm:List UInt8}{k lo hi:Int}:∀(m j:Nat),j+m=ps.length →
  WL T [2,3,6,30,31,32] false iu [(2,X),(3,Y),(6,.ref σ.length 0 0 0),(30,.aI (ps.length*2) (ps.flatMap zr)),(31,.int .i64 (ps.length*2)),(32,.int .i64 (j*2))] (Le σ.length nm k lo hi (ps.take j)::σ)
   (fun x e σ'=>x=.exit 0∧get e 2=X∧get e 3=Y∧get e 6=.ref σ.length 0 0 0∧get e 1000006=.undef∧σ'=Le σ.length nm k lo hi ps::σ)
 |0,j,h=>by
  refine aO iu.eq_1 ?_;have h1:¬j<ps.length:=by omega
  have h2:ps.take j=ps:=ak (by omega);simp[-length_flatMap,-map_take,h1,hx,hy,h2]
 |m+1,j,h=>by
  refine aO iu.eq_1 ?_;have h1:j<ps.length:=by omega
  have h2:(j:Int)*2<(ps.length:Int)*2:=by omega
  have h3:(j:Int)*2+1<(ps.length:Int)*2:=by omega
  have h0:0≤(j:Int)*2:=by omega
  have h0':0≤(j:Int)*2+1:=by omega
  obtain⟨p,hp⟩:=gE h1;have hd:=Fa (f:=zr) (w:=2) (fun _=>rfl) hp;have hd2:(ps.flatMap zr).drop (j*2+1)=.int .i64 p.2::(ps.flatMap zr).drop (j*2+2):=by
   have:=congrArg (List.drop 1) hd;simpa[zr,lM]using this
  have hd1:(ps.flatMap zr).drop (j*2)=.int .i64 p.1::.int .i64 p.2::(ps.flatMap zr).drop (j*2+2):=by simpa[zr]using hd
  have t1:((j:Int)*2).toNat=j*2:=by omega
  have t2:((j:Int)*2+1).toNat=j*2+1:=by omega
  have w1:IntKind.i64.wrap ((j:Int)*2+1)=j*2+1:=fT (by omega);have w2:IntKind.i64.wrap ((j:Int)*2+1+1)=j*2+1+1:=fT (by omega);have m1:((j:Int)*2).tmod 2=0:=by rw[Int.tmod_eq_emod_of_nonneg (by omega)];omega
  have m2:((j:Int)*2+1).tmod 2=1:=by rw[Int.tmod_eq_emod_of_nonneg (by omega)];omega
  have hl:(ps.take j).length=j:=by simp;omega
  have hr:(j+1)*8≤room:=by unfold room;omega
  have ha:=CF ((ps.take j).map (·.1));have hb:=CF ((ps.take j).map (·.2));simp only[dP,hl]at ha hb;have ta:(((ps.take j).map (·.1)).flatMap aT).take j=((ps.take j).map (·.1)).flatMap aT:=ak (by omega);have tb:(((ps.take j).map (·.2)).flatMap aT).take j=((ps.take j).map (·.2)).flatMap aT:=ak (by omega);have ih:=Mn hps hx hy (nm:=nm) (k:=k) (lo:=lo) (hi:=hi) m (j+1) (by omega);have htk:ps.take (j+1)=ps.take j++[p]:=by rw[List.take_add_one,hp];rfl
  rw[htk]at ih;have hj1:((j+1:Nat):Int)*2=(j:Int)*2+1+1:=by omega
  rw[hj1]at ih;simp[-length_flatMap,-map_take,hx,hy,Le,hl,h0,h0',h1,h2,h3,t1,t2,hd1,hd2,w1,w2,m1,m2,hr,ha,hb,ta,tb];refine aO iu.eq_1 ?_;simp[-length_flatMap,-map_take,hx,hy,Le,hl,h0,h0',h1,h2,h3,t1,t2,hd1,hd2,w1,w2,m1,m2,hr,ha,hb,ta,tb];refine WL.to ih (by simp) (by simp[Le,hl]) fun x e σ' hh=>by simpa[Le]using hh
theorem apA{A F:List Abs.aF}{b:Bk}{er:List Int}{m:cU}{x:xS}(hf:b.bO.f.valid=true)(hm:b.bO.f.model m=0)(hx:b.bO.f.measure x=0)(hn:m.name.length≤1000000000)(hl:m.bu.length≤1000000000)(hn2:x.name.length≤1000000000)(hl2:x.bl.length≤1000000000):
  bx T (.call false fx [.agg [.str m.name,.aI m.bu.length (m.bu.flatMap aT)],.bI [.ref σ.length 6 0 0],.bI x.enc] ([]::A::F::b.bA σ.length er::σ))=some (.val (.int .i64 (PA b.bO.f m x)) ([]::A::F::b.bA σ.length er::σ)):=by
 refine aA BU mT.eq_1 rfl ?_;have hS:=fun σ=>apq (σ:=σ) hf hm hx hn hl hn2 hl2
 simp only[xS.enc]at hS ⊢;simp[-length_flatMap,-map_take,Bk.bA,Bk.cells,hS]
theorem Wp{x:xS}:D.bC x.enc=true:=by simp[xS.enc,bz]
theorem Th{S:SK}{L:Nat}(hS:S.length=L)(hL:0<L){nm:List UInt8}{k lo hi:Int}{ps:List (Int×Int)}:
  Gc L 0 0 (Le L nm k lo hi ps::S)=(.bI (rS nm k lo hi ps).enc,[.dead,.dead,.dead]::S):=by
 have hne:S≠[]:=by intro h;subst h;simp at hS;omega
 have h1:=Gl (f:=aT) (w:=1) (fun _=>rfl) (fun _=>by simp[D.clean]) (l:=ps.map (·.1)) (j:=1) (v:=ps.length) (bs:=[.dead,.cells ps.length ((ps.map (·.1)).flatMap aT),.cells ps.length ((ps.map (·.2)).flatMap aT)]) (σ:=S) hne (by simp);have h2:=Gl (f:=aT) (w:=1) (fun _=>rfl) (fun _=>by simp[D.clean]) (l:=ps.map (·.2)) (j:=2) (v:=ps.length) (bs:=[.dead,.dead,.cells ps.length ((ps.map (·.2)).flatMap aT)]) (σ:=S) hne (by simp);rw[hS]at h1 h2;simp only[dP,List.set_cons_succ,List.set_cons_zero]at h1 h2;simp[Gc,Le,hS,h1,h2,rS]
def H6(b:Bk)(x:xS):Bk×Int:=if b.av=[]then(b,8)else if xo b.bO.f x=0 then(wX b x.lo x.hi fun m=>PA b.bO.f m x,0)else(b,xo b.bO.f x)
theorem apB{F:List Abs.aF}{b:Bk}{er:List Int}{nm:List UInt8}{k lo hi:Int}{ps:List (Int×Int)}{b':Bk}{e:Int}(hps:ps.length≤1000000)(hnm:nm.length≤1000000000)(hw:b.pj.length=b.av.length)(hml:b.av.length≤40)(hms:∀e∈b.av,b.bO.f.model e.m=0∧e.m.name.length≤1000000000∧e.m.bu.length≤1000000000)(hd:H6 b (rS nm k lo hi ps)=(b',e))(he:e=0):
  bx T (.call false gQ [.ref σ.length 6 0 0,.str nm,.aI (ps.length*2+3) (.int .i64 k::.int .i64 lo::.int .i64 hi::ps.flatMap zr)] (F::b.bA σ.length er::σ))=some (.val (.dM []) (F::b'.bA σ.length er::σ)):=by
 refine gH xf lO.eq_1 rfl (by simp) ?_;unfold H6 at hd;split at hd
 case isTrue=>cases hd;cases he
 rename_i hne;split at hd
 case isFalse=>cases hd;rename_i h;exact absurd he h
 rename_i hck;cases hd;have q0:(0:Int)<(ps.length:Int)*2+3:=by omega
 have q1:(1:Int)<(ps.length:Int)*2+3:=by omega
 have q2:(2:Int)<(ps.length:Int)*2+3:=by omega
 have q3:(3:Int)≤(ps.length:Int)*2+3:=by omega
 have c1:0<b.av.length:=aN.2 hne;have hC:=fun σ=>HU (σ:=σ) (f:=b.bO.f) (x:=rS nm k lo hi ps) hnm (by simp[rS];omega)
 simp only[hck]at hC;have hv:b.bO.f.valid=true∧b.bO.f.measure (rS nm k lo hi ps)=0:=by
  unfold xo at hck;split at hck
  ·rename_i h;exact⟨h,hck⟩
  ·cases hck
 have hlp:=TH ps;have htp:(ps.flatMap zr).take (ps.length*2)=ps.flatMap zr:=ak (by omega);have hL:=Mn (σ:=F::b.bA σ.length er::σ) hps (X:=.aI (ps.length*2+3) (.int .i64 k::.int .i64 lo::.int .i64 hi::ps.flatMap zr)) (Y:=.bI [.ref σ.length 6 0 0]) rfl rfl (nm:=nm) (k:=k) (lo:=lo) (hi:=hi) ps.length 0 (by omega);simp[-length_flatMap,-map_take,Bk.bA,Bk.cells,c1,cH,q0,q1,q2,q3];refine WL.to hL (by simp[htp]) (by simp[Le,Bk.bA,Bk.cells]) ?_;rintro x e σ' ⟨rfl,g2,g3,g6,gu,rfl⟩;have hf:=fun S hS=>Th (S:=S) (L:=σ.length+1+1) hS (by omega) (nm:=nm) (k:=k) (lo:=lo) (hi:=hi) (ps:=ps)
 have hst:=NQ (σ:=σ) (A:=[.dead,.dead,.dead]) (F:=F) (b:=b) (er:=er) (lo:=lo) (hi:=hi) (val:=fun m=>PA b.bO.f m (rS nm k lo hi ps)) (fv:=.fn fx [] [.bI [.ref σ.length 6 0 0],.bI (rS nm k lo hi ps).enc]) rfl rfl hw hml (by
  intro i e he _;obtain⟨k1,k2,k3⟩:=hms e he;have h:=apA (σ:=σ) (A:=[.dead,.dead,.dead]) (F:=F) (er:=er) (b:=b.kH lo hi (fun m=>PA b.bO.f m (rS nm k lo hi ps)) i) (m:=e.m) (x:=rS nm k lo hi ps) hv.1 k1 hv.2 k2 k3 hnm (by simp[rS];omega);rw[sc];have h':bx T (.call false fx ([]++[.agg [.str e.m.name,.aI e.m.bu.length (e.m.bu.flatMap aT)]]++[.bI [.ref σ.length 6 0 0],.bI (rS nm k lo hi ps).enc]) ([]::[.dead,.dead,.dead]::F::(b.kH lo hi (fun m=>PA b.bO.f m (rS nm k lo hi ps)) i).bA σ.length er::σ))=_:=h;rw[h'];rfl)
 have hcl:=Wp (x:=rS nm k lo hi ps);have e1:(rS nm k lo hi ps).lo=lo:=aE rfl;have e2:(rS nm k lo hi ps).hi=hi:=aE rfl;simp only[Bk.bA,Bk.cells,xS.enc,e1,e2]at hst hC hf hcl;simp[-length_flatMap,-map_take,g2,g3,g6,gu,hf,hC,oG,hst,q1,q2,Bk.bA,Bk.cells,hcl,bz,e1,e2]
theorem aiu{F:List Abs.aF}{b:Bk}{er:List Int}{nm:List UInt8}{k lo hi:Int}{ps:List (Int×Int)}{b':Bk}{e:Int}(hps:ps.length≤1000000)(hnm:nm.length≤1000000000)(hd:H6 b (rS nm k lo hi ps)=(b',e))(he:e≠0):
  bx T (.call false gQ [.ref σ.length 6 0 0,.str nm,.aI (ps.length*2+3) (.int .i64 k::.int .i64 lo::.int .i64 hi::ps.flatMap zr)] (F::b.bA σ.length er::σ))=some (.fX (rf e) (F::b.bA σ.length er::σ)):=by
 refine eg xf lO.eq_1 rfl ?_;unfold H6 at hd;split at hd
 case isTrue hne =>
  cases hd;simp[-length_flatMap,-map_take,Bk.bA,Bk.cells,hne,dI,D.clean,rf]
 rename_i hne;split at hd
 case isTrue=>cases hd;exact absurd rfl he
 rename_i hck;cases hd;have q0:(0:Int)<(ps.length:Int)*2+3:=by omega
 have q1:(1:Int)<(ps.length:Int)*2+3:=by omega
 have q2:(2:Int)<(ps.length:Int)*2+3:=by omega
 have q3:(3:Int)≤(ps.length:Int)*2+3:=by omega
 have c1:0<b.av.length:=aN.2 hne;have hC:=fun σ=>HU (σ:=σ) (f:=b.bO.f) (x:=rS nm k lo hi ps) hnm (by simp[rS];omega)
 have hM:=fun σ=>pO (σ:=σ) hck
 generalize xo b.bO.f (rS nm k lo hi ps)=err at hC hM hck he ⊢;have hrc:(D.ud 311 (.agg [.int .i64 err])).clean=true:=rfl;have hlp:=TH ps;have htp:(ps.flatMap zr).take (ps.length*2)=ps.flatMap zr:=ak (by omega);have hL:=Mn (σ:=F::b.bA σ.length er::σ) hps (X:=.aI (ps.length*2+3) (.int .i64 k::.int .i64 lo::.int .i64 hi::ps.flatMap zr)) (Y:=.bI [.ref σ.length 6 0 0]) rfl rfl (nm:=nm) (k:=k) (lo:=lo) (hi:=hi) ps.length 0 (by omega);simp[-length_flatMap,-map_take,Bk.bA,Bk.cells,c1,cH,q0,q1,q2,q3];refine WL.to hL (by simp[htp]) (by simp[Le,Bk.bA,Bk.cells]) ?_;rintro x e σ' ⟨rfl,g2,g3,g6,gu,rfl⟩;have hf:=fun S hS=>Th (S:=S) (L:=σ.length+1+1) hS (by omega) (nm:=nm) (k:=k) (lo:=lo) (hi:=hi) (ps:=ps)
 have hcl:=Wp (x:=rS nm k lo hi ps);simp only[Bk.bA,Bk.cells,xS.enc]at hC hf hcl;simp[-length_flatMap,-map_take,g2,g3,g6,gu,hf,hC,hM,q1,q2,Bk.bA,Bk.cells,hcl,bz,rf,hrc]
end Go.Proofs.YtfgljaglidhjiaaGreatDoor
namespace Go.Book
open List(length_flatMap map_take)
open Go Go.Abs Go.Rock
def ct(l:List nJ):List nJ:=l.filter (·.left)
end Go.Book
namespace Go.Proofs.YtfgljaglidhjiaaGreatDoor
open List(length_flatMap map_take)
open Go Go.Abs Go.Rock Go.Book
variable {σ:SK}
theorem ais{e:nJ}:bx T (.call false eQ [.agg e.enc] σ)=some (.val (.bool e.left) σ):=by
 refine aA Bo mf.eq_1 rfl ?_;simp[-length_flatMap,-map_take]
theorem Je{l:List nJ}{lv bi v:Nat}{G:List Abs.aF}(hG:G[bi]?=some (.cells v (l.flatMap nJ.enc)))(hs:gr σ lv=some G)(hl:l.length≤1000000):∀(m i:Nat) (acc:List nJ),i+m=l.length→acc.length≤i →
  WL T [1,4,7,8,9] false eG [(1,.fn eQ [] []),(4,.sl σ.length 0 acc.length 0 acc.length 4),(7,.sl lv bi v 0 l.length 4),(8,.int .i64 l.length),(9,.int .i64 i)] ([.cells acc.length (acc.flatMap nJ.enc)]::σ)
   (fun x e σ'=>x=.exit 0∧get e 4=.sl σ.length 0 (acc++ct (l.drop i)).length 0 (acc++ct (l.drop i)).length 4∧σ'=[.cells (acc++ct (l.drop i)).length ((acc++ct (l.drop i)).flatMap nJ.enc)]::σ)
 |0,i,acc,hi,ha=>by
  refine aO eG.eq_1 ?_;have h1:¬i<l.length:=by omega
  have h2:l.drop i=[]:=aB (by omega);simp[-length_flatMap,-map_take,h1,h2,ct]
 |m+1,i,acc,hi,ha=>by
  refine aO eG.eq_1 ?_;have h1:i<l.length:=by omega
  obtain⟨e,he⟩:=gE h1;have hfl:=bS (f:=nJ.enc) (w:=4) (fun _=>rfl) he;have hd:=cM he;have h4:=gq h1 (by omega);have hlen:=F8 l;have q:4≤l.length*4-i*4:=by omega
  have hlt:=zt hs;have hlv:¬σ.length=lv:=by omega
  have hC:=fun σ=>ais (σ:=σ) (e:=e)
  simp only[nJ.enc]at hC;cases hc:e.left with
  |false =>
   rw[hc]at hC;have ih:=Je hG hs hl m (i+1) acc (by omega) (by omega);simp[-length_flatMap,-map_take,h1,hs,hG,hlv,hfl,hlen,q,h4,hC,hc];exact WL.to ih (by simp) rfl fun x e' σ' hh=>by rw[hd];simpa[ct,hc]using hh
  |true =>
   rw[hc]at hC;have ih:=Je hG hs hl m (i+1) (acc++[e]) (by omega) (by simp;omega);have hr:(acc.length+1)*56≤room:=by unfold room;omega
   have hal:=F8 acc;have hat:(acc.flatMap nJ.enc).take (acc.length*4)=acc.flatMap nJ.enc:=ak (by omega);simp[-length_flatMap,-map_take,h1,hs,hG,hlv,hfl,hlen,q,h4,hC,hc,hr,hal,hat];exact WL.to ih (by simp) (by simp[hc]) fun x e' σ' hh=>by rw[hd];simpa[ct,hc]using hh
theorem VA{l:List nJ}{lv bi v:Nat}{G:List Abs.aF}(hG:G[bi]?=some (.cells v (l.flatMap nJ.enc)))(hs:gr σ lv=some G)(hl:l.length≤1000000)(hσ:σ≠[]):
  bx T (.call false dV [.sl lv bi v 0 l.length 4,.fn eQ [] []] σ)=some (.val (.aI (ct l).length ((ct l).flatMap nJ.enc)) σ):=by
 refine aA uP fM.eq_1 rfl ?_;have h:=Je (σ:=σ) hG hs hl l.length 0 [] (by omega) (by simp);simp only[List.nil_append]at h;simp[-length_flatMap,-map_take];refine WL.to h (by simp) (by simp) ?_;rintro x e σ' ⟨rfl,g4,rfl⟩;have hk:=Go.Abs.yz (f:=nJ.enc) (w:=4) (fun _=>rfl) (fun _=>by simp[D.clean,bz]) (l:=ct l) (j:=0) (v:=(ct l).length) (bs:=[.cells (ct l).length ((ct l).flatMap nJ.enc)]) (σ:=σ) hσ (by simp);rw[aP]at g4 ⊢;simp[-length_flatMap,-map_take,g4,hk]
theorem GJ{b:Bk}{er:List Int}{S:SK}(hl:b.av.length≤1000000)(hs:gr S σ.length=some (b.bA σ.length er)):
  bx T (.call false gb [.ref σ.length 6 0 0] S)=some (.val (.aI (ct b.av).length ((ct b.av).flatMap nJ.enc)) S):=by
 refine aA Dt nQ.eq_1 rfl ?_;have hlt:=zt hs;have hne:¬S.length=σ.length:=by omega
 have h:=VA (σ:=[]::S) (l:=b.av) (lv:=σ.length) (bi:=0) (v:=b.av.length) (G:=b.bA σ.length er) (by simp[Bk.bA]) (by simp[gr,hne,hs]) hl (by simp);have hcl:D.bC ((ct b.av).flatMap nJ.enc)=true:=ia (fun _=>by simp[D.clean,bz]) _;have hc6:(b.bA σ.length er)[6]?=some (.cells 0 (b.cells σ.length)):=by simp[Bk.bA]
 simp[-length_flatMap,-map_take,hne,hs,hc6,Bk.cells,h,hcl]
end Go.Proofs.YtfgljaglidhjiaaGreatDoor
namespace Go.Proofs.YtfgljaglidhjiaaGreatDoor
open List(length_flatMap map_take)
open Go Go.Abs Go.Trem
variable {σ:SK}
theorem aj8{lv:Nat}{G:List Abs.aF}(hsg:gr σ lv=some G){R:List dc}{l:List Ev}{now may sure:Int}{j:Nat}{r:dc}(hG1:G[1]?=some (.cells R.length (R.flatMap dc.enc)))(hG2:G[2]?=some (.cells l.length (l.flatMap Ev.enc)))(hl:l.length≤200)(hs:∀e∈l,e.sp.length≤2000)(hr:r.ok=true)(hn:cA now 0 1000000=true):∀(m i:Nat) (a b:Nat),i+m=l.length→a+m≤200→b+m≤200 →
  WL T [1,2,6,7,10,11,12,13,36,37,38,44,45,46] false ft [(1,.sl lv 2 l.length 0 l.length 2),(2,.int .i64 now),(6,.int .u8 may),(7,.int .u8 sure),(10,.own 0 r.enc),(11,.int .i64 a),(12,.int .i64 b),(13,.fn cr [.agg r.enc] []),
    (36,.sl lv 1 R.length 0 R.length 10),(37,.int .i64 R.length),(38,.int .i64 j),(44,.sl lv 2 l.length 0 l.length 2),(45,.int .i64 l.length),(46,.int .i64 i)] σ
   (fun x e σ'=>x=.exit 3∧σ'=σ∧get e 1=.sl lv 2 l.length 0 l.length 2∧get e 2=.int .i64 now∧get e 6=.int .u8 may∧get e 7=.int .u8 sure∧get e 10=.own 0 r.enc∧get e 11=.int .i64 (a+ya (pD r now) (l.drop i):Nat)∧get e 12=.int .i64 (b+ya (jq r now) (l.drop i):Nat) ∧
    get e 36=.sl lv 1 R.length 0 R.length 10∧get e 37=.int .i64 R.length∧get e 38=.int .i64 j)
 |0,i,a,b,hi,ha,hb=>by
  refine aO ft.eq_1 ?_;have h1:¬i<l.length:=by omega
  have h2:l.drop i=[]:=by simp;omega
  simp[-length_flatMap,-map_take,h1,h2,ya]
 |m+1,i,a,b,hi,ha,hb=>by
  refine aO ft.eq_1 ?_;have g1:i<l.length:=by omega
  obtain⟨e,he⟩:=gE g1;have a1:=bS (f:=Ev.enc) (w:=2) (fun _=>rfl) he;have al:(l.flatMap Ev.enc).length=l.length*2:=cm (f:=Ev.enc) (w:=2) (fun _=>rfl) l;have aq:2≤l.length*2-i*2:=by omega
  have w1:=gq g1 (by omega);have hr':=Gv.1 hr;have hn':=ba.1 hn;have hse:=hs e (aj he);have w2:=fT (n:=now-r.xQ) (by omega);have w3:=fT (n:=(a:Int)+1) (by omega);have w4:=fT (n:=(b:Int)+1) (by omega);have hC:∀σ,bx T (.call false bT [.aI e.sp.length (e.sp.flatMap wJ.enc),.fn cr [.agg r.enc] []] σ)=some (.val (.bool (rq e.sp r.MM)) σ):=fun σ =>
   contains_of MU ic jm (by omega) (.fn fun s _ σ=>Ft)
  have hA:=fun σ=>@GH σ e.sp r.MM (.fn cr [.agg r.enc] []) (.fn fun s _ σ=>Ft) rfl (by omega)
  simp only[dc.enc]at hC hA;have d1:ya (pD r now) (l.drop i)=ya (pD r now) (l.drop (i+1))+(if pD r now e then 1 else 0):=by rw[cM he];rfl
  have d2:ya (jq r now) (l.drop i)=ya (jq r now) (l.drop (i+1))+(if jq r now e then 1 else 0):=by rw[cM he];rfl
  have ih:=fun a b=>aj8 hsg hG1 hG2 (R:=R) (may:=may) (sure:=sure) (j:=j) hl hs hr hn m (i+1) a b (by omega)
  rw[d1,d2];by_cases c1:now<e.tick
  ·have e1:pD r now e=false:=by simp[pD,dc.act];omega
   have e2:jq r now e=false:=by simp[jq,dc.act];omega
   simp[-length_flatMap,-map_take,g1,a1,al,aq,hsg,hG1,hG2,w1,c1,e1,e2];exact WL.to (ih a b (by omega) (by omega)) (by simp) rfl fun x e σ' hh=>by simpa[e1,e2]using hh
  by_cases c2:e.tick≤now-r.xQ
  ·have e1:pD r now e=false:=by simp[pD,dc.act];omega
   have e2:jq r now e=false:=by simp[jq,dc.act];omega
   simp[-length_flatMap,-map_take,g1,a1,al,aq,hsg,hG1,hG2,w1,w2,c1,c2,e1,e2];exact WL.to (ih a b (by omega) (by omega)) (by simp) rfl fun x e σ' hh=>by simpa[e1,e2]using hh
  have act:r.act now e=true:=by simp[dc.act];omega
  have e1:pD r now e=rq e.sp r.MM:=by simp[pD,act]
  have e2:jq r now e=fV e.sp r.MM:=by simp[jq,act]
  rw[e1,e2];have k1:∀u v:Nat,u+1+v=u+(v+1):=by intro u v;omega
  cases c3:rq e.sp r.MM<;>cases c4:fV e.sp r.MM<;>simp only[c3,c4]at hC hA
  ·simp[-length_flatMap,-map_take,g1,a1,al,aq,hsg,hG1,hG2,w1,w2,c1,c2,hC,hA];exact WL.to (ih a b (by omega) (by omega)) (by simp) rfl fun x e σ' hh=>by simpa[c3,c4]using hh
  ·simp[-length_flatMap,-map_take,g1,a1,al,aq,hsg,hG1,hG2,w1,w2,w4,c1,c2,hC,hA];exact WL.to (ih a (b+1) (by omega) (by omega)) (by simp) rfl fun x e σ' hh=>by simp only[k1]at hh;simpa[c3,c4]using hh
  ·simp[-length_flatMap,-map_take,g1,a1,al,aq,hsg,hG1,hG2,w1,w2,w3,c1,c2,hC,hA];exact WL.to (ih (a+1) b (by omega) (by omega)) (by simp) rfl fun x e σ' hh=>by simp only[k1]at hh;simpa[c3,c4]using hh
  ·simp[-length_flatMap,-map_take,g1,a1,al,aq,hsg,hG1,hG2,w1,w2,w3,w4,c1,c2,hC,hA];exact WL.to (ih (a+1) (b+1) (by omega) (by omega)) (by simp) rfl fun x e σ' hh=>by simp only[k1]at hh;simpa[c3,c4]using hh
theorem Ri{lv:Nat}{G:List Abs.aF}(hsg:gr σ lv=some G){R:List dc}{l:List Ev}{now:Int}(hR:R.length≤20)(hG1:G[1]?=some (.cells R.length (R.flatMap dc.enc)))(hG2:G[2]?=some (.cells l.length (l.flatMap Ev.enc)))(hl:l.length≤200)(hs:∀e∈l,e.sp.length≤2000)(hr:∀r∈R,r.ok=true)(hn:cA now 0 1000000=true):∀(m j:Nat) (may sure:Int),j+m=R.length →
  WL T [1,2,6,7,36,37,38] false dC [(1,.sl lv 2 l.length 0 l.length 2),(2,.int .i64 now),(6,.int .u8 may),(7,.int .u8 sure),(36,.sl lv 1 R.length 0 R.length 10),(37,.int .i64 R.length),(38,.int .i64 j)] σ
   (fun x e σ'=>x=.exit 1∧σ'=σ∧get e 6=.int .u8 (ue (fun r=>pD r now) l (R.drop j) may)∧get e 7=.int .u8 (ue (fun r=>jq r now) l (R.drop j) sure))
 |0,j,may,sure,hj=>by
  refine aO dC.eq_1 ?_;have h1:¬j<R.length:=by omega
  have h2:R.drop j=[]:=by simp;omega
  simp[-length_flatMap,-map_take,h1,h2,ue]
 |m+1,j,may,sure,hj=>by
  refine aO dC.eq_1 ?_;have g1:j<R.length:=by omega
  obtain⟨r,hrj⟩:=gE g1;have a1:=bS (f:=dc.enc) (w:=10) (fun _=>rfl) hrj;have al:(R.flatMap dc.enc).length=R.length*10:=cm (f:=dc.enc) (w:=10) (fun _=>rfl) R;have aq:10≤R.length*10-j*10:=by omega
  have w1:=gq g1 (by omega);have hrr:=hr r (aj hrj);have ih:=fun may sure=>Ri hsg hR hG1 hG2 hl hs hr hn m (j+1) may sure (by omega)
  rw[cM hrj];simp[-length_flatMap,-map_take,g1,a1,al,aq,hsg,hG1,hG2];refine WL.to (aj8 hsg hG1 hG2 (σ:=σ) (R:=R) (l:=l) (now:=now) (may:=may) (sure:=sure) (j:=j) hl hs hrr hn l.length 0 0 0 (by omega) (by omega) (by omega)) (by simp) rfl ?_;rintro x e σ' ⟨rfl,rfl,e1,e2,e6,e7,e10,e11,e12,e36,e37,e38⟩;simp only[aP,cf]at e11 e12;simp only[ue];by_cases c1:r.count≤ya (pD r now) l
  ·by_cases c2:r.count≤ya (jq r now) l
   ·simp[-length_flatMap,-map_take,e1,e2,e6,e7,e10,e11,e12,e36,e37,e38,c1,c2,w1];exact WL.to (ih (max may r.Oh) (max sure r.Oh)) (by simp) rfl fun x e σ' hh=>by simpa[c1,c2]using hh
   ·simp[-length_flatMap,-map_take,e1,e2,e6,e7,e10,e11,e12,e36,e37,e38,c1,c2,w1];exact WL.to (ih (max may r.Oh) sure) (by simp) rfl fun x e σ' hh=>by simpa[c1,c2]using hh
  ·by_cases c2:r.count≤ya (jq r now) l
   ·simp[-length_flatMap,-map_take,e1,e2,e6,e7,e10,e11,e12,e36,e37,e38,c1,c2,w1];exact WL.to (ih may (max sure r.Oh)) (by simp) rfl fun x e σ' hh=>by simpa[c1,c2]using hh
   ·simp[-length_flatMap,-map_take,e1,e2,e6,e7,e10,e11,e12,e36,e37,e38,c1,c2,w1];exact WL.to (ih may sure) (by simp) rfl fun x e σ' hh=>by simpa[c1,c2]using hh
theorem Vu{lv:Nat}{G:List Abs.aF}{R:List dc}{l:List Ev}{now:Int}(hsg:gr σ lv=some G)(hG1:G[1]?=some (.cells R.length (R.flatMap dc.enc)))(hG2:G[2]?=some (.cells l.length (l.flatMap Ev.enc)))(hR:R.length≤9223372036854775807)(hl:l.length≤9223372036854775807)(hs:∀e∈l,e.sp.length≤9223372036854775807):
  bx T (.call false fF [.sl lv 1 R.length 0 R.length 10,.sl lv 2 l.length 0 l.length 2,.int .i64 now] σ) =
   some (.val (if fa R l now=0 then .dM [.int .u8 (LV R l now),.int .u8 (Kz R l now),.int .i64 0]else .dM [.int .u8 0,.int .u8 0,.int .i64 (fa R l now)]) σ):=by
 refine aA tB lQ.eq_1 rfl ?_;have hlt:=zt hsg;have hne:¬σ.length=lv:=by omega
 have hsg':gr ([]::σ) lv=some G:=by simp[gr,hne,hsg]
 have hAR:=JH (T:=T) (enc:=dc.enc) (w:=10) (fun _=>rfl) (F:=G) (bi:=1) (v:=R.length) (l:=R) (p:=dc.ok) (fv:=.fn eN [] []) (f:=dE) (g:=fH) (h:=dh) (i:=dW) rfl rfl rfl rfl hG1 hR (.fn fun r _ σ=>NP) rfl (σ:=[]::σ) hsg';have hAE:=JH (T:=T) (enc:=Ev.enc) (w:=2) (fun _=>rfl) (F:=G) (bi:=2) (v:=l.length) (l:=l) (p:=Ev.ok) (fv:=.fn ef [] []) (f:=dj) (g:=eZ) (h:=cZ) (i:=dH) rfl rfl rfl rfl hG2 hl (.fn fun r hr σ=>NK (hs r hr)) rfl (σ:=[]::σ) hsg';by_cases c1:20<R.length
 ·have c1':(20:Int)<R.length:=by omega
  simp[-length_flatMap,-map_take,fa,c1,c1']
 have c1':¬(20:Int)<R.length:=by omega
 cases c2:fV R dc.ok
 ·simp[-length_flatMap,-map_take,fa,c1,c1',hAR,c2]
 by_cases c3:200<l.length
 ·have c3':(200:Int)<l.length:=by omega
  simp[-length_flatMap,-map_take,fa,c1,c1',hAR,c2,c3,c3']
 have c3':¬(200:Int)<l.length:=by omega
 cases c4:fV l Ev.ok
 ·simp[-length_flatMap,-map_take,fa,c1,c1',hAR,c2,c3,c3',hAE,c4]
 cases c5:cA now 0 1000000
 ·simp[-length_flatMap,-map_take,fa,c1,c1',hAR,c2,c3,c3',hAE,c4,fq,c5]
 have he:fa R l now=0:=by simp[fa,c1,c2,c3,c4,c5]
 rw[if_pos he];simp[-length_flatMap,-map_take,c1',hAR,c2,c3',hAE,c4,fq,c5];refine WL.to (Ri (σ:=[]::σ) (lv:=lv) (G:=G) hsg' (R:=R) (l:=l) (now:=now) (by omega) hG1 hG2 (by omega) ?_ (fW.1 c2) c5 R.length 0 0 0 (by omega)) (by simp) rfl ?_
 ·intro e he;have:=fW.1 c4 e he;simp only[Ev.ok,af,ba]at this;omega
 ·rintro x e σ' ⟨rfl,rfl,e6,e7⟩;simp[-length_flatMap,-map_take,e6,e7,LV,Kz]
end Go.Proofs.YtfgljaglidhjiaaGreatDoor
namespace Go.Book
open List(length_flatMap map_take)
open Go Go.Abs Go.Rock
def ru(b:Bk):Int:=if Trem.fa b.rules b.wY b.aw.length=0 then Trem.LV b.rules b.wY b.aw.length else 0
def AN(b:Bk):Int:=if ru b=0 then b.k0 else if ru b=1 then b.k1 else b.k2
def kG(keep n:Int):Int:=if n<0 then -((-n*keep).tdiv 1000)else n
theorem O1{f:Trem.dc→Trem.Ev→Bool}{l:List Trem.Ev}:∀{R:List Trem.dc} {a:Int},(∀r∈R,r.ok=true)→0≤a∧a≤2→0≤Trem.ue f l R a∧Trem.ue f l R a≤2
 |[],a,_,h=>h
 |r::R,a,hr,h=>by
  have h1:=(Trem.Gv.1 (hr r (by simp))).2.2.2.2;simp only[Trem.ue];refine O1 (fun r' h'=>hr r' (by simp[h'])) ?_;split
  ·rcases h1 with h1 | h1<;>omega
  ·exact h
theorem Hl{b:Bk}:0≤ru b∧ru b≤2:=by
 unfold ru;split
 ·rename_i h;refine O1 (fun r hr=>?_) (by omega);unfold Trem.fa at h;split at h
  ·omega
  ·split at h
   ·omega
   ·rename_i h2;exact fW.1 (by simpa using h2) r hr
 ·omega
end Go.Book
namespace Go.Proofs.YtfgljaglidhjiaaGreatDoor
open List(length_flatMap map_take)
open Go Go.Abs Go.Rock Go.Book
variable {σ:SK}
theorem NJ{b:Bk}{er:List Int}{S:SK}(h1:b.rules.length≤1000000)(h2:b.wY.length≤1000000)(h3:∀e∈b.wY,e.sp.length≤1000000)(hs:gr S σ.length=some (b.bA σ.length er)):
  bx T (.call false gA [.ref σ.length 6 0 0] S)=some (.val (.int .u8 (ru b)) S):=by
 refine aA Bn mc.eq_1 rfl ?_;have hlt:=zt hs;have hne:¬S.length=σ.length:=by omega
 have h:=Vu (σ:=[]::S) (lv:=σ.length) (G:=b.bA σ.length er) (R:=b.rules) (l:=b.wY) (now:=b.aw.length) (by simp[gr,hne,hs]) (by simp[Bk.bA]) (by simp[Bk.bA]) (by omega) (by omega) (fun e he=>by have:=h3 e he;omega);have hc6:(b.bA σ.length er)[6]?=some (.cells 0 (b.cells σ.length)):=by simp[Bk.bA]
 unfold ru;by_cases hc:Trem.fa b.rules b.wY b.aw.length=0
 ·rw[if_pos hc]at h;simp[-length_flatMap,-map_take,hne,hs,hc6,Bk.cells,h,hc]
 ·rw[if_neg hc]at h;simp[-length_flatMap,-map_take,hne,hs,hc6,Bk.cells,h,hc]
def AU(σ:SK)(bp X:D)(keep:Int)(acc rest:List Int)(x:Abs.Exit)(e:Env)(σ':SK):Prop :=
 if fV rest (fun n=>cA n (-100000) 100000)=true then
  x=.exit 0∧get e 0=bp∧get e 6=X∧get e 8=.sl σ.length 0 (acc++rest.map (kG keep)).length 0 (acc++rest.map (kG keep)).length 1∧σ'=[.cells (acc++rest.map (kG keep)).length ((acc++rest.map (kG keep)).flatMap aT)]::σ
 else x=.fX (rf 2)∧∃s,σ'=s::σ
theorem Mr{l:List Int}{keep:Int}(hk:0≤keep∧keep≤1000)(hl:l.length≤1000000){bp X:D}(hb:bp.calm=bp)(hx:X.calm=X):∀(m i:Nat) (acc:List Int),i+m=l.length→acc.length=i →
  WL T [0,6,7,8,49,50,51] false kh [(0,bp),(6,X),(7,.int .i64 keep),(8,.sl σ.length 0 i 0 i 1),(49,.aI l.length (l.flatMap aT)),(50,.int .i64 l.length),(51,.int .i64 i)] ([.cells i (acc.flatMap aT)]::σ)
   (AU σ bp X keep acc (l.drop i))
 |0,i,acc,hi,ha=>by
  refine aO kh.eq_1 ?_;obtain rfl:i=l.length:=by omega
  have h5:l.drop l.length=[]:=aB (by omega);simp[-length_flatMap,-map_take,h5,AU,ha,hb,hx,fV]
 |m+1,i,acc,hi,ha=>by
  refine aO kh.eq_1 ?_;have hlt:i<l.length:=by omega
  obtain⟨n,hn⟩:=gE hlt;have h4:=gq hlt (by omega);have h5:=cM hn;have a1:=bS (f:=aT) (w:=1) (fun _=>rfl) hn;simp only[aT,dL]at a1;rw[h5];have hr:(i+1)*8≤room:=by unfold room;omega
  cases hc:cA n (-100000) 100000 with
  |false =>
   simp[-length_flatMap,-map_take,hlt,a1,hb,hx,ff,hc,dI,AU,fV]
  |true =>
   have hn2:=ba.1 hc;have hcl:(acc.flatMap aT).length=i:=by simp[cm (f:=aT) (w:=1) (fun _=>rfl),ha]
   have ht:(acc.flatMap aT).take i=acc.flatMap aT:=ak (by omega);have ih:=Mr hk hl hb hx m (i+1) (acc++[kG keep n]) (by omega) (by simp[ha]);have fin:∀x e σ',AU σ bp X keep (acc++[kG keep n]) (l.drop (i+1)) x e σ'→AU σ bp X keep acc (n::l.drop (i+1)) x e σ':=fun x e σ' hh=>by
    simp only[AU,fV,jL,hc,Bool.true_and,aQ,ka,eP]at hh ⊢;exact hh
   by_cases hneg:n<0
   ·have e0:IntKind.i64.wrap (-n) = -n:=fT (by omega);have p1:0 ≤ -n*keep:=eC (by omega) hk.1;have p2 : -n*keep≤100000*1000:=lL (by omega) hk.2 hk.1 (by omega);have e1:IntKind.i64.wrap (-n*keep) = -n*keep:=fT (by omega);have e2:(-n*keep).tdiv 1000 = -n*keep / 1000:=bh p1;have e3:IntKind.i64.wrap (-n*keep / 1000) = -n*keep / 1000:=fT (by omega);have e4:IntKind.i64.wrap (-(-n*keep / 1000)) = -(-n*keep / 1000):=fT (by omega);have e5:kG keep n = -(-n*keep / 1000):=by rw[kG,if_pos hneg,e2]
    rw[e5]at ih fin;generalize hq : -n*keep=q at e1 e2 e3 e4 ih fin;simp[-length_flatMap,-map_take,hlt,a1,hb,hx,ff,hc,cH,hneg,e0,hq,e1,e2,e3,e4,hr,h4,hcl,ht];exact WL.to ih (by simp) (by simp) fin
   ·have e5:kG keep n=n:=by rw[kG,if_neg hneg]
    rw[e5]at ih fin;simp[-length_flatMap,-map_take,hlt,a1,hb,hx,ff,hc,cH,hneg,hr,h4,hcl,ht];exact WL.to ih (by simp) (by simp) fin
theorem M9(l:List (List Int)):(l.flatMap pE).length=l.length:=by have:=cm (f:=pE) (w:=1) (fun _=>rfl) l;omega
theorem I7{bs:List Abs.aF}:bx T (.call true gX [.aG] (bs::σ))=some (.val (.sl σ.length (bs.length+1) 0 0 0 1) ((bs++[.cells 0 [],.cells 0 []])::σ)):=by
 refine wO vE j1.eq_1 rfl ?_;simp[-length_flatMap,-map_take]
theorem Lq{bs:List Abs.aF}{l:List (List Int)}(hne:l≠[])(hl:l.length≤1000000):bx T (.call true gX [.aI l.length (l.flatMap pE)] (bs::σ)) =
  some (.val (.sl σ.length (bs.length+1) 1 0 l.length 1) ((bs++[.cells 0 [],.cells 1 (l.flatMap pE)])::σ)):=by
 refine wO vE j1.eq_1 rfl ?_;have h7:l.length*24≤room:=by unfold room;omega
 simp[-length_flatMap,-map_take,hne,M9,h7]
theorem Qj:IL=pE:=rfl
structure Sz(b:Bk):Prop where
 cz:b.bO.cz.length≤1000000000
 ar:b.bO.ar.length≤1000000
 ms:∀e∈b.av,e.m.name.length≤1000000000∧e.m.bu.length≤1000000000
theorem U2(b:cC)(m:cU)(aw:List (List Int)):∃x y,zX b m aw=.agg [x,y]∧x.clean=true∧y.clean=true:=by
 unfold zX;split
 ·split
  ·refine⟨_,_,rfl,?_,?_⟩<;>simp[ia (f:=yK) (fun s=>by simp[yK,ia (f:=Rock.aF.enc) (fun _=>by simp[D.clean])])]
  ·exact⟨_,_,rfl,rfl,rfl⟩
 ·exact⟨_,_,rfl,rfl,rfl⟩
theorem Mq{b:Bk}{er:List Int}{ls:List nJ}{aw:List (List Int)}(ht:b.bO.cz≠[])(hz:Sz b)(hm:∀e∈ls,e∈b.av)(hl:ls.length≤1000000)(hp:aw.length≤1000000000)(hpl:∀l∈aw,l.length≤1000000000){S:SK}(hs:gr S σ.length=some (b.bA σ.length er)):∀(m i:Nat),i+m=ls.length →
  WL T [0,11,80,81,82] false ki [(0,.ref σ.length 6 0 0),(11,.aI aw.length (aw.flatMap pE)),(80,.aI ls.length (ls.flatMap nJ.enc)),(81,.int .i64 ls.length),(82,.int .i64 i)] S
   (fun x e σ'=>σ'=S∧if di (fun e=>uj b.bO e.m aw) (ls.drop i)=0 then x=.exit 2∧get e 0=.ref σ.length 6 0 0∧get e 11=.aI aw.length (aw.flatMap pE)else x=.fX (rf (di (fun e=>uj b.bO e.m aw) (ls.drop i))))
 |0,i,hi=>by
  refine aO ki.eq_1 ?_;have h1:¬i<ls.length:=by omega
  have h2:ls.drop i=[]:=aB (by omega);simp[-length_flatMap,-map_take,h1,h2,di]
 |m+1,i,hi=>by
  refine aO ki.eq_1 ?_;have h1:i<ls.length:=by omega
  obtain⟨e,he⟩:=gE h1;have hem:=hm e (aj he);obtain⟨k1,k2⟩:=hz.ms e hem;have hfl:=bS (f:=nJ.enc) (w:=4) (fun _=>rfl) he;have hd:=cM he;have h4:=gq h1 (by omega);have hlt:=zt hs;have hne:S≠[]:=by intro h;subst h;simp at hlt
  have hP:=Vv (σ:=S) (b:=b.bO) (m:=e.m) (aw:=aw) (wq:=nl bJ.enc b.bO.ar) ug hz.cz (by have:=hz.ar;omega) k1 k2 hp hpl hne;have hc6:(b.bA σ.length er)[6]?=some (.cells 0 (b.cells σ.length)):=by simp[Bk.bA]
  obtain⟨px,py,hx,hx1,hx2⟩:=U2 b.bO e.m aw;rw[hx,Qj]at hP;have ih:=Mq ht hz hm hl hp hpl hs m (i+1) (by omega);have hlt':=eI (f:=Rw.enc) ht;rw[hd,di];by_cases hc:uj b.bO e.m aw=0
  ·rw[hc]at hP;simp[-length_flatMap,-map_take,h1,hfl,h4,hs,hc6,Bk.cells,hlt',hP,hx1,hx2,oG,hc,bz];exact WL.to ih (by simp) rfl fun x e' σ' hh=>by simpa[hc]using hh
  ·have hM:=pO (σ:=S) hc;simp[-length_flatMap,-map_take,h1,hfl,h4,hs,hc6,Bk.cells,hlt',hP,hx1,hx2,hM,hc,bz,rf]
def ahu(b:Bk)(aw:List (List Int)):Bk:={b with aw:=aw }
def vS(b:Bk)(l:List Int):List (List Int):=b.aw++[l.map (kG (AN b))]
def wg(b:Bk)(l:List Int):Bk×Int :=
 if ct b.av=[]then(b,8)else if b.aw.length<200 then(if l.length=b.bO.ar.length then(if fV l (fun n=>cA n (-100000) 100000)=true then
  (if di (fun e=>uj b.bO e.m (vS b l)) (ct b.av)=0 then(ahu b (vS b l),0)else(b,di (fun e=>uj b.bO e.m (vS b l)) (ct b.av)))else(b,2))else(b,1))else(b,3)
theorem agK{f:D→SK→D×SK}{a b:List D}{S:SK}:cG.frzL f (a++b) S=((cG.frzL f a S).1++(cG.frzL f b (cG.frzL f a S).2).1,(cG.frzL f b (cG.frzL f a S).2).2):=by
 induction a generalizing S with
 |nil=>simp
 |cons d a ih=>simp[ih]
theorem Wr{l:List (List Int)}:D.bC (l.flatMap pE)=true:=ia (f:=pE) (fun x=>by simp[pE,D.clean,bz]) l
theorem LK{S:SK}{L v n:Nat}(hS:S.length=L)(hL:0<L){aw:List (List Int)}(hn:n=aw.length+1){r:List Int}{M:Abs.aF}:
  cG 0 16 (.sl L 2 v 0 n 1) ([.cells r.length (r.flatMap aT),M,.cells v (aw.flatMap pE++[.sl L 0 r.length 0 r.length 1])]::S)=(.aI n ((aw++[r]).flatMap pE),[.dead,M,.dead]::S):=by
 have hne:S≠[]:=by intro h;subst h;simp at hS;omega
 subst hn;have hc:cells? ([Abs.aF.cells r.length (r.flatMap aT),M,.cells v (aw.flatMap pE++[.sl L 0 r.length 0 r.length 1])]::S) L 2 v=some (aw.flatMap pE++[.sl L 0 r.length 0 r.length 1]):=by simp[hS]
 rw[agL hL hc];have h3:¬L≤0:=by omega
 have h1:=E7 (l:=0) (n:=15) (l':=L) (i:=0) (v:=r.length) (off:=0) (m:=r.length) (w:=1) (σ:=[Abs.aF.cells r.length (r.flatMap aT),M,.dead]::S) (cs:=r.flatMap aT) h3 (by simp[hS]) (by omega);have ht:(r.flatMap aT).take r.length=r.flatMap aT:=ak (by rw[CF];omega);have hp:=M9 aw;have ht2:(aw.flatMap pE).take (aw.length+1)=aw.flatMap pE:=ak (by omega);simp[hS,agK,Wr,h1,ht,hp,ht2,bz,pE,List.take_append]
theorem aiH{F:List Abs.aF}{b:Bk}{er:List Int}{nm:List UInt8}{l:List Int}{b':Bk}{e:Int}(ht:b.bO.cz≠[])(hz:Sz b)(hll:l.length≤1000000)(hml:b.av.length≤40)(h1:b.rules.length≤1000000)(h2:b.wY.length≤1000000)(h3:∀e∈b.wY,e.sp.length≤1000000)(hk:Trem.pf b.k0 b.k1 b.k2=true)(hpl:∀l∈b.aw,l.length≤1000000000)(hd:wg b l=(b',e))(he:e=0):
  bx T (.call false gi [.ref σ.length 6 0 0,.str nm,.aI l.length (l.flatMap aT)] (F::b.bA σ.length er::σ))=some (.val (.dM []) (F::b'.bA σ.length er::σ)):=by
 refine gH wz kM.eq_1 rfl (by simp) ?_;unfold wg at hd;split at hd
 case isTrue=>cases hd;cases he
 rename_i c1;split at hd
 case isFalse=>cases hd;cases he
 rename_i c2;split at hd
 case isFalse=>cases hd;cases he
 rename_i c3;split at hd
 case isFalse=>cases hd;cases he
 rename_i c4;split at hd
 case isFalse=>cases hd;rename_i h;exact absurd he h
 rename_i c5;cases hd;obtain⟨kp0,kp,hkp,hkp2,hkp3⟩:∃c kp:Int,ru b=c∧AN b=kp∧((c=0∧kp=b.k0)∨(c=1∧kp=b.k1)∨(c=2∧kp=b.k2)):=by
  refine⟨_,_,rfl,rfl,?_⟩;have:=Hl (b:=b);unfold AN;split
  ·rename_i h;exact .inl ⟨h,rfl⟩
  ·split
   ·rename_i h;exact .inr (.inl ⟨h,rfl⟩)
   ·refine .inr (.inr ⟨by omega,rfl⟩)
 have hkb:0≤kp∧kp≤1000:=by
  simp only[Trem.pf,af,au]at hk;rcases hkp3 with⟨_,rfl⟩ | ⟨_,rfl⟩ | ⟨_,rfl⟩<;>omega
 have q1:0<(ct b.av).length:=aN.2 c1;have q2:(b.aw.length:Int)<200:=by omega
 have hC:=fun S=>NJ (σ:=σ) (b:=b) (er:=er) (S:=S) h1 h2 h3
 have hLf:=fun S=>GJ (σ:=σ) (b:=b) (er:=er) (S:=S) (by omega)
 have hR:=Mr (σ:=F::b.bA σ.length er::σ) hkb hll (bp:=.ref σ.length 6 0 0) (X:=.aI (ct b.av).length ((ct b.av).flatMap nJ.enc)) rfl rfl l.length 0 [] (by omega) rfl;rw[aP]at hR;rw[hkp]at hC;simp only[Bk.bA,Bk.cells]at hC hLf;have hw:(b.bO.ar.length:Int)=(l.length:Int):=by omega
 rcases hkp3 with⟨rfl,e2⟩ | ⟨rfl,e2⟩ | ⟨rfl,e2⟩
 all_goals
  subst e2;simp[-length_flatMap,-map_take,Bk.bA,Bk.cells,hLf,q1,q2,hw,hC,cH];refine WL.to hR (by simp) (by simp[Bk.bA,Bk.cells]) ?_;intro x e σ' hq;simp only[AU,if_pos c4,List.nil_append]at hq;obtain⟨rfl,g0,g6,g8,rfl⟩:=hq;have hnp:vS b l=b.aw++[l.map (kG (AN b))]:=rfl;rw[hkp2]at hnp;rw[hnp]at c5 ⊢;generalize hrs:l.map (kG _)=rs at g8 c5 ⊢;have hrl:rs.length=l.length:=by rw[← hrs];simp
  have hroom:(b.aw.length+1)*24≤room:=by unfold room;omega
  have h24:24≤room:=by unfold room;omega
  have hpel:=M9 b.aw;have htk:(b.aw.flatMap pE).take b.aw.length=b.aw.flatMap pE:=ak (by omega);have hfr:=fun S v hS=>LK (S:=S) (L:=σ.length+1+1) (v:=v) (n:=b.aw.length+1) hS (by omega) (aw:=b.aw) rfl (r:=rs) (M:=.cells 0 [])
  have hLp:=Mq (σ:=σ) (b:=b) (er:=er) (ls:=ct b.av) (aw:=b.aw++[rs]) ht hz (fun e he=>(dk.1 he).1) (by have:=jg (fun e:nJ=>e.left) b.av;simp only[ct];omega) (by simp;omega) (by
   intro r hr;rcases bg.1 hr with hr | hr
   ·exact hpl r hr
   ·simp at hr;subst hr;omega) (S:=[.dead,.cells 0 [],.dead]::F::b.bA σ.length er::σ) (by simp[gr]) (ct b.av).length 0 (by omega)
  rw[aP]at hLp;have hcl:∀k,(D.aI k (b.aw.flatMap pE++pE rs)).clean=true:=fun k=>by simp[D9,Wr,pE,bz]
  have hcl0:∀k,(D.aI k (pE rs)).clean=true:=fun k=>by simp[pE,bz]
  have hnl2:=eI (f:=pE) (l:=b.aw++[rs]) (by simp);simp only[bB,aL,bG,iK,aZ,dR,dO]at hnl2;by_cases hp0:b.aw=[]
  ·have hnl:nl pE b.aw=.aG:=by simp[nl,hp0]
   have hfr':=hfr;simp only[hp0,bG,dR,List.nil_append,cf]at hfr';simp[-length_flatMap,-map_take,g0,g6,g8,Bk.bA,Bk.cells,hnl,I7,h24,hfr'];refine WL.to hLp (by simp[hp0]) (by simp[Bk.bA,Bk.cells,hnl]) ?_;rintro x e σ' ⟨rfl,hh⟩;rw[c5,if_pos rfl]at hh;obtain⟨rfl,j0,j11⟩:=hh;simp[-length_flatMap,-map_take,j0,j11,Bk.bA,Bk.cells,ahu,hnl,hnl2,hcl]
  ·simp[-length_flatMap,-map_take,g0,g6,g8,Bk.bA,Bk.cells,eI hp0,Lq hp0 (by omega:b.aw.length≤1000000),hroom,hpel,htk,hfr];refine WL.to hLp (by simp) (by simp[Bk.bA,Bk.cells,eI hp0]) ?_;rintro x e σ' ⟨rfl,hh⟩;rw[c5,if_pos rfl]at hh;obtain⟨rfl,j0,j11⟩:=hh;simp[-length_flatMap,-map_take,j0,j11,Bk.bA,Bk.cells,ahu,eI hp0,hnl2,hcl]
theorem VW{F:List Abs.aF}{b:Bk}{er:List Int}{nm:List UInt8}{l:List Int}{b':Bk}{e:Int}(ht:ct b.av≠[]→b.bO.cz≠[])(hz:Sz b)(hll:l.length≤1000000)(hml:b.av.length≤40)(h1:b.rules.length≤1000000)(h2:b.wY.length≤1000000)(h3:∀e∈b.wY,e.sp.length≤1000000)(hk:Trem.pf b.k0 b.k1 b.k2=true)(hpl:∀l∈b.aw,l.length≤1000000000)(hd:wg b l=(b',e))(he:e≠0):
  bx T (.call false gi [.ref σ.length 6 0 0,.str nm,.aI l.length (l.flatMap aT)] (F::b.bA σ.length er::σ))=some (.fX (rf e) (F::b.bA σ.length er::σ)):=by
 refine eg wz kM.eq_1 rfl ?_;have hLf:=fun S=>GJ (σ:=σ) (b:=b) (er:=er) (S:=S) (by omega)
 simp only[Bk.bA,Bk.cells]at hLf;unfold wg at hd;split at hd
 case isTrue c1 =>
  cases hd;simp[-length_flatMap,-map_take,Bk.bA,Bk.cells,hLf,c1,dI,D.clean,rf]
 rename_i c1;have ht:=ht c1;have q1:0<(ct b.av).length:=aN.2 c1;split at hd
 case isFalse c2 =>
  cases hd;have q2:¬(b.aw.length:Int)<200:=by omega
  simp[-length_flatMap,-map_take,Bk.bA,Bk.cells,hLf,q1,q2,cH,dI,D.clean,rf]
 rename_i c2;have q2:(b.aw.length:Int)<200:=by omega
 split at hd
 case isFalse c3 =>
  cases hd;have q3:((l.length:Int) == (b.bO.ar.length:Int))=false:=by simp;omega
  simp[-length_flatMap,-map_take,Bk.bA,Bk.cells,hLf,q1,q2,q3,cH,dI,D.clean,rf]
 rename_i c3;obtain⟨kp0,kp,hkp,hkp2,hkp3⟩:∃c kp:Int,ru b=c∧AN b=kp∧((c=0∧kp=b.k0)∨(c=1∧kp=b.k1)∨(c=2∧kp=b.k2)):=by
  refine⟨_,_,rfl,rfl,?_⟩;have:=Hl (b:=b);unfold AN;split
  ·rename_i h;exact .inl ⟨h,rfl⟩
  ·split
   ·rename_i h;exact .inr (.inl ⟨h,rfl⟩)
   ·refine .inr (.inr ⟨by omega,rfl⟩)
 have hkb:0≤kp∧kp≤1000:=by
  simp only[Trem.pf,af,au]at hk;rcases hkp3 with⟨_,rfl⟩ | ⟨_,rfl⟩ | ⟨_,rfl⟩<;>omega
 have hC:=fun S=>NJ (σ:=σ) (b:=b) (er:=er) (S:=S) h1 h2 h3
 have hR:=Mr (σ:=F::b.bA σ.length er::σ) hkb hll (bp:=.ref σ.length 6 0 0) (X:=.aI (ct b.av).length ((ct b.av).flatMap nJ.enc)) rfl rfl l.length 0 [] (by omega) rfl;rw[aP]at hR;rw[hkp]at hC;simp only[Bk.bA,Bk.cells]at hC;have hw:(b.bO.ar.length:Int)=(l.length:Int):=by omega
 split at hd
 case isFalse c4 =>
  cases hd;have c4':¬fV l (fun n=>cA n (-100000) 100000)=true:=c4;rcases hkp3 with⟨rfl,e2⟩ | ⟨rfl,e2⟩ | ⟨rfl,e2⟩
  all_goals
   subst e2;simp[-length_flatMap,-map_take,Bk.bA,Bk.cells,hLf,q1,q2,hw,hC,cH];refine WL.to hR (by simp) (by simp[Bk.bA,Bk.cells]) ?_;intro x e σ' hq;simp only[AU,if_neg c4']at hq;obtain⟨rfl,s,rfl⟩:=hq;simp[Bk.bA,Bk.cells,D.clean,rf]
 rename_i c4;split at hd
 case isTrue=>cases hd;exact absurd rfl he
 rename_i c5;cases hd;have hM:=fun S=>pO (σ:=S) c5
 have he':=c5;rcases hkp3 with⟨rfl,e2⟩ | ⟨rfl,e2⟩ | ⟨rfl,e2⟩
 all_goals
  subst e2;simp[-length_flatMap,-map_take,Bk.bA,Bk.cells,hLf,q1,q2,hw,hC,cH];refine WL.to hR (by simp) (by simp[Bk.bA,Bk.cells]) ?_;intro x e σ' hq;simp only[AU,if_pos c4,List.nil_append]at hq;obtain⟨rfl,g0,g6,g8,rfl⟩:=hq;have hnp:vS b l=b.aw++[l.map (kG (AN b))]:=rfl;rw[hkp2]at hnp;rw[hnp]at c5 ⊢;generalize hrs:l.map (kG _)=rs at g8 c5 ⊢;have hrl:rs.length=l.length:=by rw[← hrs];simp
  have hroom:(b.aw.length+1)*24≤room:=by unfold room;omega
  have h24:24≤room:=by unfold room;omega
  have hpel:=M9 b.aw;have htk:(b.aw.flatMap pE).take b.aw.length=b.aw.flatMap pE:=ak (by omega);have hfr:=fun S v hS=>LK (S:=S) (L:=σ.length+1+1) (v:=v) (n:=b.aw.length+1) hS (by omega) (aw:=b.aw) rfl (r:=rs) (M:=.cells 0 [])
  have hLp:=Mq (σ:=σ) (b:=b) (er:=er) (ls:=ct b.av) (aw:=b.aw++[rs]) ht hz (fun e he=>(dk.1 he).1) (by have:=jg (fun e:nJ=>e.left) b.av;simp only[ct];omega) (by simp;omega) (by
   intro r hr;rcases bg.1 hr with hr | hr
   ·exact hpl r hr
   ·simp at hr;subst hr;omega) (S:=[.dead,.cells 0 [],.dead]::F::b.bA σ.length er::σ) (by simp[gr]) (ct b.av).length 0 (by omega)
  rw[aP]at hLp;have hcl:∀k,(D.aI k (b.aw.flatMap pE++pE rs)).clean=true:=fun k=>by simp[D9,Wr,pE,bz]
  have hcl0:∀k,(D.aI k (pE rs)).clean=true:=fun k=>by simp[pE,bz]
  have hnl2:=eI (f:=pE) (l:=b.aw++[rs]) (by simp);simp only[bB,aL,bG,iK,aZ,dR,dO]at hnl2;generalize herr:di (fun e=>uj b.bO e.m (b.aw++[rs])) (ct b.av)=err at c5 ⊢;have hrc:(D.ud 311 (.agg [.int .i64 err])).clean=true:=rfl;by_cases hp0:b.aw=[]
  ·have hnl:nl pE b.aw=.aG:=by simp[nl,hp0]
   have hfr':=hfr;simp only[hp0,bG,dR,List.nil_append,cf]at hfr';simp[-length_flatMap,-map_take,g0,g6,g8,Bk.bA,Bk.cells,hnl,I7,h24,hfr'];refine WL.to hLp (by simp[hp0]) (by simp[Bk.bA,Bk.cells,hnl]) ?_;rintro x e σ' ⟨rfl,hh⟩;rw[herr,if_neg c5]at hh;subst hh;simp[Bk.bA,Bk.cells,rf,hrc,hnl]
  ·simp[-length_flatMap,-map_take,g0,g6,g8,Bk.bA,Bk.cells,eI hp0,Lq hp0 (by omega:b.aw.length≤1000000),hroom,hpel,htk,hfr];refine WL.to hLp (by simp) (by simp[Bk.bA,Bk.cells,eI hp0]) ?_;rintro x e σ' ⟨rfl,hh⟩;rw[herr,if_neg c5]at hh;subst hh;simp[Bk.bA,Bk.cells,rf,hrc,eI hp0]
end Go.Proofs.YtfgljaglidhjiaaGreatDoor
set_option maxRecDepth 100000
namespace Go.Proofs.YtfgljaglidhjiaaGreatDoor
open List(length_flatMap map_take)
open Go Go.Abs Go.Rock
variable {σ:SK}
def A4(t:Int×Int×Int):List D:=[.int .i64 t.1,.int .i64 t.2.1,.int .i64 t.2.2]
theorem aj2(l:List (Int×Int×Int)):(l.flatMap A4).length=l.length*3:=cm (f:=A4) (w:=3) (fun _=>rfl) l
end Go.Proofs.YtfgljaglidhjiaaGreatDoor
set_option maxRecDepth 100000
namespace Go.Proofs.YtfgljaglidhjiaaGreatDoor
open List(length_flatMap map_take)
open Go Go.Abs Go.Rock
variable {σ:SK}
theorem Ud{b:cC}{x:wI}{n:Nat}(h:Bv b)(hw:0≤x.rn∧x.rn≤255):
  bx T (.call false lX [.agg [.int .i64 b.f.x,.int .i64 b.f.y,.int .i64 b.f.z,.int .i64 b.f.k,.aI b.cz.length (b.cz.flatMap Rw.enc),.int .i64 b.bL,.int .i64 b.lift,.int .i64 b.deep,.aI b.ar.length (b.ar.flatMap bJ.enc)],.agg x.enc,.int .i64 n] σ)=some (.val (.int .i64 (vU b n x)) σ):=by
 refine aA Es oP.eq_1 rfl ?_;have hs:=fun σ=>zx (σ:=σ) h
 have hz:=h.sz;have hn:=h.n;have hwl:=h.ar;have w1:=fT (n:=x.rn) (by omega);have w2:=fT (n:=(b.n:Int)-1) (by omega);have w3:=fT (n:=(b.ar.length:Int)-1) (by omega);unfold vU;cases c1:cA x.rn 1 4
 ·simp[-length_flatMap,-map_take,dQ,w1,c1]
 by_cases c2:x.lo < -10000000000
 ·simp[-length_flatMap,-map_take,dQ,w1,c1,c2]
 by_cases c3:x.hi<x.lo
 ·simp[-length_flatMap,-map_take,dQ,w1,c1,c2,c3]
 by_cases c4:10000000000<x.hi
 ·simp[-length_flatMap,-map_take,dQ,w1,c1,c2,c3,c4]
 have hsz:b.size=(b.n:Int):=hz;by_cases c5:x.rn=1
 ·cases c6:cA x.tick 0 n
  ·simp[-length_flatMap,-map_take,dQ,w1,w2,show cA 1 1 4=true from rfl,c2,c3,c4,c5,c6,hs,cN,bw]
  ·cases c7:cA x.idx 0 ((b.n:Int)-1)<;>
    simp[-length_flatMap,-map_take,dQ,w1,w2,show cA 1 1 4=true from rfl,c2,c3,c4,c5,c6,c7,hs,hsz,cN,bw]
 ·cases c6:cA x.tick 1 n
  ·simp[-length_flatMap,-map_take,dQ,w1,w3,c1,c2,c3,c4,c5,c6,cN,bw]
  ·cases c7:cA x.idx 0 ((b.ar.length:Int)-1)<;>
    simp[-length_flatMap,-map_take,dQ,w1,w3,c1,c2,c3,c4,c5,c6,c7,cN,bw]
theorem aiD{lo hi n:Int}(h1 : -10000000000≤lo∧lo≤10000000000)(h2 : -10000000000≤hi∧hi≤10000000000)(hn : -100000000000000≤n∧n≤100000000000000):
  bx T (.call false nr [.agg [.int .i64 lo,.int .i64 hi],.int .i64 n] σ)=some (.val (.int .i64 (CK lo hi n)) σ):=by
 refine aA FB pY.eq_1 rfl ?_;have w1:=fT (n:=n-hi) (by omega);have w2:=fT (n:=n-lo) (by omega);have w3:=fT (n:=max 0 (n-hi)+min 0 (n-lo)) (by omega);simp[-length_flatMap,-map_take,w1,w2,w3,CK]
theorem VY{y:Rock.aF}(h1:0≤y.m∧y.m≤1000000)(h2:0≤y.h∧y.h≤10000000000):bx T (.call false iP [.agg y.enc] σ)=some (.val (.int .i64 y.HR) σ):=by
 refine aA Dw nU.eq_1 rfl ?_;unfold Rock.aF.HR;by_cases c:y.m=0
 ·simp[-length_flatMap,-map_take,c]
 ·have e:y.h.tdiv y.m=y.h / y.m:=bh h2.1;have b1:0≤y.h / y.m∧y.h / y.m≤y.h:=⟨Int.ediv_nonneg h2.1 h1.1,Int.ediv_le_self _ h2.1⟩;have w1:=fT (n:=y.h.tdiv y.m) (by omega);simp[-length_flatMap,-map_take,c,w1]
theorem Mm:bx T (.call false ub [] σ)=some (.val (.agg [.iS,.iS,.fn kn [] [],.fn iP [] [],.fn jB [] []]) σ):=by
 refine aA My wR.eq_1 rfl ?_;simp[-length_flatMap,-map_take]
theorem ah3{y:Rock.aF}(h1:0≤y.m∧y.m≤1000000)(h2:0≤y.h∧y.h≤10000000000):0≤y.HR∧y.HR≤10000000000:=by
 unfold Rock.aF.HR;split
 ·omega
 ·rw[bh h2.1];have b1:0≤y.h / y.m∧y.h / y.m≤y.h:=⟨Int.ediv_nonneg h2.1 h1.1,Int.ediv_le_self _ h2.1⟩;omega
theorem TK{b:cC}{m:cU}{r:RunT}{n:Nat}{x:wI}(h:Fv b m)(hr:NW b n r.1 r.2)(hx:Rdv b n x):0≤vV b m r x∧vV b m r x≤1000000000000:=by
 unfold vV;split
 ·rename_i h1;obtain⟨p1,p2,p3⟩:=hx.p h1;have hz:=h.bv.sz;obtain⟨s1,s2⟩:=ao8 hr (t:=x.tick.toNat) (by omega);rw[s1];have:=Nb h s2 (i:=x.idx.toNat) (by unfold cC.size at p3;omega);simp only[gU];omega
 ·rename_i h1;obtain⟨p1,p2,p3⟩:=hx.y h1;obtain⟨y1,y2⟩:=ahA hr (t:=x.tick.toNat-1) (by omega);have y3:=apo y2 (w:=x.idx.toNat) (by omega);obtain⟨g1,g2,g3⟩:=y2.ok _ (aj y3);rw[y1];simp only[gU,Rock.aF.Ps];have:=ah3 g1 g2;split
  ·omega
  ·split<;>omega
theorem aiJ{b:cC}{m:cU}{r:RunT}{n:Nat}{x:wI}(h:Fv b m)(hr:NW b n r.1 r.2)(hx:Rdv b n x)(hn:n≤200):
  bx T (.call false kS [.agg [.int .i64 b.f.x,.int .i64 b.f.y,.int .i64 b.f.z,.int .i64 b.f.k,.aI b.cz.length (b.cz.flatMap Rw.enc),.int .i64 b.bL,.int .i64 b.lift,.int .i64 b.deep,.aI b.ar.length (b.ar.flatMap bJ.enc),.str m.name,.aI m.bu.length (m.bu.flatMap aT)],.agg [.aI r.1.length (r.1.flatMap yK),.aI r.2.length (r.2.flatMap yK)],.agg x.enc] σ)=some (.val (.int .i64 (vV b m r x)) σ):=by
 refine aA DA nY.eq_1 rfl ?_;unfold vV;have hsl:=hr.sl;have hyl:=hr.yl;by_cases h1:x.rn=1
 ·obtain⟨p1,p2,p3⟩:=hx.p h1;have hz:=h.bv.sz;obtain⟨s1,s2⟩:=ao8 hr (t:=x.tick.toNat) (by omega);have hP:=fun σ=>Jb (σ:=σ) h s2 (i:=x.idx.toNat) (by unfold cC.size at p3;omega)
  rw[fZ p2]at hP;have a1:=ahR s1;have e2:x.tick<((n:Int)+1):=by omega
  rw[s1];simp[-length_flatMap,-map_take,h1,hsl,p1.1,e2,a1,hP]
 ·obtain⟨p1,p2,p3⟩:=hx.y h1;obtain⟨y1,y2⟩:=ahA hr (t:=x.tick.toNat-1) (by omega);have y3:=apo y2 (w:=x.idx.toNat) (by omega);obtain⟨g1,g2,g3⟩:=y2.ok _ (aj y3);have a1:=ahR y1;have a4:=bS (f:=aF.enc) (w:=3) (fun _=>rfl) y3;have hyw:=y2.len;have w1:=fT (n:=x.tick-1) (by omega);have e1:0≤x.tick-1:=by omega
  have e2:x.tick-1<(n:Int):=by omega
  have e3:(x.tick-1).toNat=x.tick.toNat-1:=by omega
  have hw:=hx.rn;rw[if_neg h1,y1];have hA:=fun σ=>aiL (σ:=σ) (x:=bU (rowAt r.2 (x.tick.toNat-1)) x.idx.toNat)
  have hK:=fun σ=>V1 (σ:=σ) (x:=bU (rowAt r.2 (x.tick.toNat-1)) x.idx.toNat)
  simp only[aF.enc]at hA hK;rcases(show x.rn=2∨x.rn=3∨x.rn=4 by omega)with h2 | h2 | h2
  ·simp[-length_flatMap,-map_take,h2,hyl,w1,p1.1,e1,e2,e3,a1,a4,Mm,hA,hyw,p2,p3,Rock.aF.Ps]
  ·have hW:=fun σ=>VY (σ:=σ) g1 g2
   simp only[aF.enc]at hW;simp[-length_flatMap,-map_take,h2,hyl,w1,p1.1,e1,e2,e3,a1,a4,Mm,hW,hyw,p2,p3,Rock.aF.Ps]
  ·simp[-length_flatMap,-map_take,h2,hyl,w1,p1.1,e1,e2,e3,a1,a4,Mm,hK,hyw,p2,p3,Rock.aF.Ps]
end Go.Proofs.YtfgljaglidhjiaaGreatDoor
set_option maxRecDepth 100000
namespace Go.Proofs.YtfgljaglidhjiaaGreatDoor
open List(length_flatMap map_take)
open Go Go.Abs Go.Rock
variable {σ:SK}
theorem TJ{l:List wI}{j:Nat}{m:wI}(h:l[j]?=some m):((l.flatMap wI.enc).drop (j*5)).take 5=m.enc :=
 bS (f:=wI.enc) (w:=5) (fun _=>rfl) h
theorem Ui{A B:Abs.aF}:bx T (.yh fI [.ref σ.length 2 0 0] (some (.ud 262 (.agg []))) ([A,B,.cells 0 [.int .i64 0]]::σ))=some (.val (.dM []) ([A,B,.cells 0 [.int .i64 9]]::σ)):=by
 refine Cr yW pF.eq_1 rfl (by simp[-length_flatMap,-map_take,rZ];exact⟨rfl,rfl⟩) ?_;simp[-length_flatMap,-map_take]
theorem Qa(l:List wI):D.bC (l.flatMap wI.enc)=true:=ia (fun x=>by simp) l
theorem ML(l:List (List Int)):D.bC (l.flatMap IL)=true:=ia (fun x=>by simp[IL,D.clean,bz]) l
theorem CC{l0 L i w n:Nat}{S:SK}(hn:0<n)(h:¬L≤l0)(hc:cells? S L i 0=some []):cG l0 n (.sl L i 0 0 0 w) S=(.aI 0 [],aW S L i .dead):=by
 rw[E7 h hc hn];simp
theorem Tg{l0 L i w:Nat}{S:SK}(h:¬L≤l0)(hc:cells? S L i 0=some []):cG l0 16 (.sl L i 0 0 0 w) S=(.aI 0 [],aW S L i .dead):=CC (by omega) h hc
theorem V6{b:cC}{l:List cU}{aw:List (List Int)}{rd:List wI}(h:Ok b l aw)(hl:rd.length≤40)(hw:∀x∈rd,0≤x.rn∧x.rn≤255){A B:Abs.aF}:∀(k i:Nat),i+k=rd.length →
  WL T [1,2,3,4,8,9,10,32,33,34] true oS [(1,.aI l.length (l.flatMap cU.enc)),(2,.aI aw.length (aw.flatMap IL)),(3,.aI rd.length (rd.flatMap wI.enc)),(4,.bI [.int .i64 b.f.x,.int .i64 b.f.y,.int .i64 b.f.z,.int .i64 b.f.k,.aI b.cz.length (b.cz.flatMap Rw.enc),.int .i64 b.bL,.int .i64 b.lift,.int .i64 b.deep,.aI b.ar.length (b.ar.flatMap bJ.enc)]),(8,.sl σ.length 0 0 0 0 1),(9,.sl σ.length 1 0 0 0 3),(10,.ref σ.length 2 0 0),(32,.aI rd.length (rd.flatMap wI.enc)),(33,.int .i64 rd.length),(34,.int .i64 i)] ([A,B,.cells 0 [.int .i64 0]]::σ)
   (fun x e σ'=>if di (vU b aw.length) (rd.drop i)=0 then x=.exit 0∧σ'=[A,B,.cells 0 [.int .i64 0]]::σ∧get e 1=.aI l.length (l.flatMap cU.enc)∧get e 2=.aI aw.length (aw.flatMap IL)∧get e 3=.aI rd.length (rd.flatMap wI.enc)∧get e 4=.bI [.int .i64 b.f.x,.int .i64 b.f.y,.int .i64 b.f.z,.int .i64 b.f.k,.aI b.cz.length (b.cz.flatMap Rw.enc),.int .i64 b.bL,.int .i64 b.lift,.int .i64 b.deep,.aI b.ar.length (b.ar.flatMap bJ.enc)]∧get e 8=.sl σ.length 0 0 0 0 1∧get e 9=.sl σ.length 1 0 0 0 3∧get e 10=.ref σ.length 2 0 0
    else x=.ret∧get e 8=.aI 0 []∧get e 9=.aI 0 []∧get e 10=.ref σ.length 2 0 0∧σ'=[A,B,.cells 0 [.int .i64 (di (vU b aw.length) (rd.drop i))]]::σ):=by
 intro k;induction k with
 |zero =>
  intro i hi;refine FK oS.eq_1 ?_;have h1:¬i<rd.length:=by omega
  have h2:rd.drop i=[]:=aB (by omega);simp[-length_flatMap,-map_take,h1,h2,di,P9,Qa,cN,bw,ML]
 |succ k ih0 =>
  intro i hi;refine FK oS.eq_1 ?_;have h1:i<rd.length:=by omega
  obtain⟨x,hx⟩:=gE h1;have h2:=TJ hx;have h4:=gq h1 (by omega);have h5:=cM hx;have hC:=fun σ=>Ud (σ:=σ) (n:=aw.length) h.bv (hw x (aj hx))
  simp only[wI.enc]at h2 hC;have ih:=ih0 (i+1) (by omega);rw[h5,di];by_cases hc:vU b aw.length x=0
  ·simp[-length_flatMap,-map_take,h1,h2,h4,hC,hc,P9,Qa,cN,bw,ML];exact WL.to ih (by simp) (by simp) fun x e σ hh=>by simpa[hc]using hh
  ·simp[-length_flatMap,-map_take,h1,h2,h4,hC,hc,P9,Qa,cN,bw,ML];have z:=Tg (l0:=σ.length) (L:=σ.length+1) (i:=0) (w:=1) (S:=[.cells 0 [],.cells 0 []]::[A,B,.cells 0 [D.int .i64 (vU b (aw.length:Int) x)]]::σ) (by omega) (by simp);simp at z;rw[z];simp only[];rw[Tg (by omega) (by simp)];simp
end Go.Proofs.YtfgljaglidhjiaaGreatDoor
set_option maxRecDepth 100000
namespace Go.Proofs.YtfgljaglidhjiaaGreatDoor
open List(length_flatMap map_take)
open Go Go.Abs Go.Rock
variable {σ:SK}
abbrev Tri:=Int×Int×Int
def z7(i n:Nat):Nat→List Int→Nat×List Tri→Nat×List Tri
 |_,[],st=>st
 |k,v::vs,st=>z7 i n (k+1) vs (if v≠0∧st.1=n then(k,st.2++[((i:Int),(k:Int),v)])else st)
theorem Kn{i n:Nat}:∀(vs:List Int) (k:Nat) (st:Nat×List Tri),st.1≠n→z7 i n k vs st=st
 |[],k,st,h=>rfl
 |v::vs,k,st,h=>by
  simp only[z7];rw[if_neg (fun hh=>h hh.2)];exact Kn vs (k+1) st h
theorem Ma{i n:Nat}:∀(vs:List Int) (k:Nat) (st:Nat×List Tri),k+vs.length=n→(st.1≠n→st.1<n)→(z7 i n k vs st).2.length≤st.2.length+1∧(z7 i n k vs st).1≤n
 |[],k,st,h,hh=>by simp only[z7];exact⟨by omega,Classical.byContradiction fun h1=>by have:=hh (by omega);omega⟩
 |v::vs,k,st,h,hh=>by
  simp only[z7];simp only[aL]at h;by_cases hc:v≠0∧st.1=n
  ·rw[if_pos hc,Kn vs (k+1) _ (by simp only;omega)];simp;omega
  ·rw[if_neg hc];exact Ma vs (k+1) st (by omega) hh
def Eg(b:cC)(m:cU)(r:RunT)(rd:List wI):List Int:=rd.map fun x=>CK x.lo x.hi (vV b m r x)
theorem LX(b:cC)(m:cU)(r:RunT)(rd:List wI):(Eg b m r rd).length=rd.length:=by simp[Eg]
theorem apU{b:cC}{l:List cU}{aw:List (List Int)}{rd:List wI}{rs:List RunT}{m:cU}{r:RunT}{i:Nat}(h:Ok b l aw)(hR:Rs b l aw.length rs)(hl:rd.length≤40)(hx:∀x∈rd,Rdv b aw.length x)(hm:l[i]?=some m)(hr:rs[i]?=some r){A B:Abs.aF}{L10:Nat}{s0:Nat}(hs0:s0≤100):
  ∀(k j:Nat) (st:Nat×List Tri),j+k=rd.length→st.1≤rd.length→st.2.length≤s0+j →
  WL T [3,4,8,9,10,15,16,17,18,51,52,53,60,61,62] false oT [(3,.aI rd.length (rd.flatMap wI.enc)),(4,.bI [.int .i64 b.f.x,.int .i64 b.f.y,.int .i64 b.f.z,.int .i64 b.f.k,.aI b.cz.length (b.cz.flatMap Rw.enc),.int .i64 b.bL,.int .i64 b.lift,.int .i64 b.deep,.aI b.ar.length (b.ar.flatMap bJ.enc)]),(8,.sl σ.length 0 L10 0 L10 1),(9,.sl σ.length 1 st.2.length 0 st.2.length 3),(10,.ref σ.length 2 0 0),(15,.aI rs.length (rs.flatMap Fk)),(16,.int .i64 i),(17,.own 0 [.str m.name,.aI m.bu.length (m.bu.flatMap aT)]),(18,.int .i64 st.1),(51,.aI l.length (l.flatMap cU.enc)),(52,.int .i64 l.length),(53,.int .i64 i),(60,.aI rd.length (rd.flatMap wI.enc)),(61,.int .i64 rd.length),(62,.int .i64 j)]
   ([A,.cells st.2.length (st.2.flatMap A4),B]::σ)
   (fun x e σ'=>x=.exit 4∧∃st',st'=z7 i rd.length j ((Eg b m r rd).drop j) st∧get e 3=.aI rd.length (rd.flatMap wI.enc)∧get e 4=.bI [.int .i64 b.f.x,.int .i64 b.f.y,.int .i64 b.f.z,.int .i64 b.f.k,.aI b.cz.length (b.cz.flatMap Rw.enc),.int .i64 b.bL,.int .i64 b.lift,.int .i64 b.deep,.aI b.ar.length (b.ar.flatMap bJ.enc)]∧get e 8=.sl σ.length 0 L10 0 L10 1∧get e 9=.sl σ.length 1 st'.2.length 0 st'.2.length 3∧get e 10=.ref σ.length 2 0 0∧get e 15=.aI rs.length (rs.flatMap Fk)∧get e 16=.int .i64 i∧get e 18=.int .i64 st'.1∧get e 51=.aI l.length (l.flatMap cU.enc)∧get e 52=.int .i64 l.length∧get e 53=.int .i64 i ∧
    σ'=[A,.cells st'.2.length (st'.2.flatMap A4),B]::σ):=by
 intro k;induction k with
 |zero =>
  intro j st hj h1 h2;refine aO oT.eq_1 ?_;have h3:¬j<rd.length:=by omega
  have h4:(Eg b m r rd).drop j=[]:=aB (by rw[LX];omega);simp[-length_flatMap,-map_take,h3,h4,z7]
 |succ k ih0 =>
  intro j st hj g1 g2;refine aO oT.eq_1 ?_;have h1:j<rd.length:=by omega
  obtain⟨x,hxj⟩:=gE h1;have hmm:=aj hm;have hrr:=hR.all r (aj hr);have hxv:=hx x (aj hxj);have h2:=TJ hxj;have h4:=gq h1 (by omega);have hpl:=h.U3;have hi:i<rs.length:=(aD.1 hr).1;have hV:=fun σ=>aiJ (σ:=σ) (h.fv m hmm) hrr hxv hpl
  have hb:=TK (h.fv m hmm) hrr hxv;have hen:=hxv.ends;have hM:=fun σ=>aiD (σ:=σ) (lo:=x.lo) (hi:=x.hi) (n:=vV b m r x) (by omega) (by omega) (by omega)
  have a1:=ajI hr;have e1:(Eg b m r rd)[j]?=some (CK x.lo x.hi (vV b m r x)):=by simp[Eg,hxj]
  have h5:=cM e1;simp only[wI.enc]at h2 hV;have a7:=aj2 st.2;have a8:(st.2.flatMap A4).take (st.2.length*3)=st.2.flatMap A4:=ak (by omega);have h8:(st.2.length+1)*24≤room:=by unfold room;omega
  rw[h5,z7];generalize CK x.lo x.hi (vV b m r x)=v at *
  by_cases c1:v=0
  ·have ih:=ih0 (j+1) st (by omega) g1 (by omega);simp[-length_flatMap,-map_take,h1,h2,h4,hV,hM,hi,a1,c1,bz,LA,D.clean];exact WL.to ih (by simp) (by simp) fun x e σ hh=>by simpa[c1]using hh
  ·by_cases c2:st.1=rd.length
   ·have ih:=ih0 (j+1) (j,st.2++[((i:Int),(j:Int),v)]) (by omega) (by simp only;omega) (by simp;omega);simp[-length_flatMap,-map_take,h1,h2,h4,hV,hM,hi,a1,c1,c2,a7,a8,h8,bz,LA,D.clean];exact WL.to ih (by simp) (by simp[A4]) fun x e σ hh=>by simpa[c1,c2]using hh
   ·have ih:=ih0 (j+1) st (by omega) g1 (by omega);have c3:¬(st.1:Int)=rd.length:=by omega
    simp[-length_flatMap,-map_take,h1,h2,h4,hV,hM,hi,a1,c1,c2,c3,bz,LA,D.clean];exact WL.to ih (by simp) (by simp) fun x e σ hh=>by simpa[c2]using hh
end Go.Proofs.YtfgljaglidhjiaaGreatDoor
