import Derived.Test.YtcgippbplkagkaaGreatTxt0
set_option linter.all false
namespace Go.Proofs.YtcgippbplkagkaaGreat
open List(length_flatMap map_take)
open Go Go.Abs Go.Rock
variable {σ:SK}
theorem C9{b:bC}(hx:1≤b.f.x∧b.f.x≤8)(hy:1≤b.f.y∧b.f.y≤8)(hz:1≤b.f.z∧b.f.z≤8):bG T (.call false cj [.agg [.int .i64 b.f.x,.int .i64 b.f.y,.int .i64 b.f.z,.int .i64 b.f.k,.aE b.bY.length (b.bY.flatMap Rw.enc),.int .i64 b.aS,.int .i64 b.lift,.int .i64 b.deep,.aE b.af.length (b.af.flatMap aT.enc)]] σ)=some (.val (.int .i64 b.size) σ):=by
 refine aA wD l7.eq_1 rfl ?_;obtain⟨h1,h2⟩:=ej.sz hx hy hz;have w1:=eW (n:=b.f.x*b.f.y) (by omega);have w2:=eW (n:=b.f.x*b.f.y*b.f.z) (by omega);simp[-length_flatMap,-map_take,w1,w2,bC.size,ej.size]
def nh(b:Bool):List D:=[.bool b]
def lT(n:Nat)(af:List aT):Nat→List Bool
 |0=>List.replicate n false
 |i+1=>match af[i]? with
  |some w=>if cK w.b 0 ((n:Int)-1)=true∧(lT n af i)[w.b.toNat]?=some false then(lT n af i).set w.b.toNat true else lT n af i
  |none=>lT n af i
theorem qH{n:Nat}{af:List aT}:∀i,(lT n af i).length=n
 |0=>by simp[lT]
 |i+1=>by
  simp only[lT];split
  ·split
   ·simp[qH i]
   ·exact qH i
  ·exact qH i
def pC(n:Nat)(af:List aT)(i:Nat):Bool :=
 match af[i]? with
 |some w=>cK w.b 0 ((n:Int)-1) && (decide ((lT n af i)[w.b.toNat]?=some false) && (cK w.h 0 3000 && cK w.m 0 1000000))
 |none=>true
def vU(n:Nat)(af:List aT)(σ:SK)(i:Nat):SK:=[.cells 0 ((lT n af i).flatMap nh),.cells 0 [.sl σ.length 0 0 0 n 1]]::σ
theorem F7{l:List Bool}{j:Nat}{x:Bool}(h:l[j]?=some x):((l.flatMap nh).drop j)=.bool x::(l.flatMap nh).drop (j+1):=by
 have:=xN (f:=nh) (w:=1) (fun _=>rfl) h;simpa[nh]using this
theorem Et{l:List Bool}{j:Nat}{x:Bool}(h:j<l.length):(l.flatMap nh).take j++(.bool x::(l.flatMap nh).drop (j+1))=(l.set j x).flatMap nh:=by
 have:=DQ (f:=nh) (w:=1) (fun _=>rfl) (x:=x) h;simpa[nh]using this
theorem Es{l:List Bool}:(l.flatMap nh).length=l.length:=by
 have:=j1 (f:=nh) (w:=1) (fun _=>rfl) l;omega
theorem B7{n:Nat}{af:List aT}(hn:n≤512){i:Nat}{w:aT}(hw:af[i]?=some w):
  bG T (.call false cZ [.agg w.enc,.ref σ.length 1 0 0] ([]::[]::[]::[]::vU n af σ i))=some (.val (.bool (pC n af i)) ([]::[]::[]::[]::vU n af σ (i+1))):=by
 refine mA tT jI.eq_1 rfl (by simp[vU]) ?_;have hlen:=qH (n:=n) (af:=af) i;have w1:=eW (n:=(n:Int)-1) (by omega);have hwp:pC n af i=(cK w.b 0 ((n:Int)-1) && (decide ((lT n af i)[w.b.toNat]?=some false) && (cK w.h 0 3000 && cK w.m 0 1000000))):=by simp[pC,hw]
 have hus:lT n af (i+1)=if cK w.b 0 ((n:Int)-1)=true∧(lT n af i)[w.b.toNat]?=some false then(lT n af i).set w.b.toNat true else lT n af i:=by simp[lT,hw]
 rw[hwp];simp only[vU];generalize lT n af (i+1)=us' at *
 generalize lT n af i=us at *
 cases hc1:cK w.b 0 ((n:Int)-1)
 ·rw[hc1]at hus;simp at hus;subst hus;simp[-length_flatMap,-map_take,dG,w1,hc1]
 ·obtain⟨g1,g2⟩:=bD.1 hc1;have g3:w.b<(n:Int):=by omega
  obtain⟨u,hu⟩:∃u,us[w.b.toNat]?=some u:=⟨_,au (by omega)⟩;have hat:=F7 hu;have hset:=Et (l:=us) (j:=w.b.toNat) (x:=true) (by omega);have hlen2:(us.flatMap nh).length=n:=by rw[Es,hlen]
  have hle:w.b.toNat+1≤n:=by omega
  rw[hc1,hu]at hus;cases u
  ·simp at hus;subst hus;cases hc2:cK w.h 0 3000<;>
    simp[-length_flatMap,-map_take,dG,w1,hc1,hu,g1,g3,hat,hset,hlen2,hle,hc2]
  ·simp at hus;subst hus;simp[-length_flatMap,-map_take,dG,w1,hc1,hu,g1,g3,hat,hlen2]
theorem BU{n:Nat}{af:List aT}:∀{i:Nat},i≤af.length→(∀j,j<i→pC n af j=true)→∀k:Nat,k<n→(lT n af i)[k]?=some (((af.take i).map (·.b)).contains (k:Int))
 |0,_,_,k,hk=>by simp[lT,hk]
 |i+1,hi,h,k,hk=>by
  obtain⟨w,hw⟩:∃w,af[i]?=some w:=gE (by omega);have ih:=BU (i:=i) (by omega) (fun j hj=>h j (by omega));have hp:=h i (by omega);simp only[pC,hw,ak,av]at hp;obtain⟨h1,h2,_⟩:=hp;obtain⟨g1,g2⟩:=bD.1 h1;have ht:af.take (i+1)=af.take i++[w]:=by rw[List.take_add_one,hw];rfl
  simp only[lT,hw];rw[if_pos ⟨h1,h2⟩,ht];rw[List.getElem?_set];by_cases hkw:w.b.toNat=k
  ·subst hkw;have hb:w.b=((w.b.toNat:Nat):Int):=by omega
   simp[qH,hk];right;omega
  ·rw[if_neg hkw,ih k hk];congr 1;have:((k:Int) == w.b)=false:=by simp;omega
   simp[List.contains_append,this];intro hh;omega
theorem sS{n:Nat}{af:List aT}:∀(m i:Nat),i+m=af.length→(∀j,j<i→pC n af j=true) →
  (gR (n:Int) ((af.take i).map (·.b)) (af.drop i)=true↔∀j,i≤j→j<af.length→pC n af j=true)
 |0,i,hi,h=>by
  rw[az (by omega)];simp only[gR,true_iff];intro j h1 h2;omega
 |m+1,i,hi,h=>by
  obtain⟨w,hw⟩:∃w,af[i]?=some w:=gE (by omega);have hu:=BU (n:=n) (i:=i) (by omega) h;have hone:aT.ok (n:Int) ((af.take i).map (·.b)) w=pC n af i:=by
   simp only[pC,hw,aT.ok];cases hc:cK w.b 0 ((n:Int)-1)
   ·rfl
   ·obtain⟨g1,g2⟩:=bD.1 hc;have:=hu w.b.toNat (by omega);rw[this,show((w.b.toNat:Nat):Int)=w.b from by omega];cases((af.take i).map (·.b)).contains w.b<;>simp
  rw[cO hw,gR,hone,ak];have ht:(af.take i).map (·.b)++[w.b]=(af.take (i+1)).map (·.b):=by rw[List.take_add_one,hw];simp
  rw[ht];constructor
  ·rintro⟨h1,h2⟩ j hj1 hj2;by_cases hji:j=i
   ·subst hji;exact h1
   ·refine((sS m (i+1) (by omega) fun j hj=>?_).1 h2) j (by omega) hj2;by_cases hji:j=i
    ·subst hji;exact h1
    ·exact h j (by omega)
  ·intro hh;have h1:=hh i (by omega) (by omega);refine⟨h1,(sS m (i+1) (by omega) fun j hj=>?_).2 fun j hj1 hj2=>hh j (by omega) hj2⟩;by_cases hji:j=i
   ·subst hji;exact h1
   ·exact h j (by omega)
theorem B8{n:Nat}{af:List aT}(hn:n≤512)(hl:af.length≤1000000000):∃s,
  bG T (.call false fe [.aE af.length (af.flatMap aT.enc),.fn cZ [] [.ref σ.length 1 0 0]] ([.cells 0 ((List.replicate n false).flatMap nh),.cells 0 [.sl σ.length 0 0 0 n 1]]::σ)) =
   some (.val (.bool (gR (n:Int) [] af)) (s::σ)):=by
 have h:=DA (sq 3 aT.enc (fun _=>rfl)) (T:=T) (S:=vU n af σ) (fv:=.fn cZ [] [.ref σ.length 1 0 0]) (l:=af) (f:=fe) (g:=gh) (h:=cT) (i:=dC) (p:=pC n af)
  rfl rfl rfl rfl (by omega) rfl rfl rfl (fun i=>by simp[vU]) (fun i x hx=>by
   rw[uK];have:=B7 (σ:=σ) hn hx;show R.aP (bG T (.call false cZ [.agg x.enc,.ref σ.length 1 0 0] _))=_
   rw[this];rfl)
 have he:(!(kV (fun i => !pC n af i) 0 af.length).1)=gR (n:Int) [] af:=by
  have h1:=sS (n:=n) (af:=af) af.length 0 (by omega) (by simp);have h2:=vR (q:=fun i => !pC n af i) (m:=af.length) (i:=0);simp only[List.take_zero,bf,aO]at h1;cases hw:gR (n:Int) [] af
  ·rw[Bool.not_eq_false'];cases hs:(kV (fun i => !pC n af i) 0 af.length).1
   ·have h3:=h2.1 hs;have h4:=h1.2 fun j _ hj=>by have:=h3 j hj;simpa using this
    rw[hw]at h4;cases h4
   ·rfl
  ·rw[dR];refine h2.2 fun j hj=>?_
   have:=h1.1 hw j (by omega) hj;simpa using this
 rw[he]at h;refine⟨[.cells 0 ((lT n af (kV (fun i => !pC n af i) 0 af.length).2).flatMap nh),.cells 0 [.sl σ.length 0 0 0 n 1]],?_⟩;exact h
theorem Fm{b:bC}(h1:b.bY.length≤1000000000)(h2:b.af.length≤1000000000):bG T (.call false jq [.agg [.int .i64 b.f.x,.int .i64 b.f.y,.int .i64 b.f.z,.int .i64 b.f.k,.aE b.bY.length (b.bY.flatMap Rw.enc),.int .i64 b.aS,.int .i64 b.lift,.int .i64 b.deep,.aE b.af.length (b.af.flatMap aT.enc)]] σ)=some (.val (.bool b.valid) σ):=by
 refine aA vq ll.eq_1 rfl ?_;have hT:=fun σ=>zE (σ:=σ) (l:=b.bY) h1
 unfold bC.valid bC.ok1;cases hc1:b.f.valid
 ·simp[-length_flatMap,-map_take,hJ,ej.shape,hc1]
 by_cases hc2:b.f.k<4
 ·simp[-length_flatMap,-map_take,hJ,ej.shape,hc1,hc2,show ¬4≤b.f.k by omega]
 have hc2':4≤b.f.k:=by omega
 cases hc3:oq b.bY
 ·simp[-length_flatMap,-map_take,hJ,ej.shape,hc1,hc2,hT,hc3]
 cases hc4:cK b.aS 1 100000
 ·simp[-length_flatMap,-map_take,hJ,ej.shape,hc1,hc2,hT,hc3,dG,hc4]
 cases hc5:cK b.lift 0 1000
 ·simp[-length_flatMap,-map_take,hJ,ej.shape,hc1,hc2,hT,hc3,dG,hc4,hc5]
 cases hc6:cK b.deep 0 3000
 ·simp[-length_flatMap,-map_take,hJ,ej.shape,hc1,hc2,hT,hc3,dG,hc4,hc5,hc6]
 by_cases hc7:8<b.af.length
 ·simp[-length_flatMap,-map_take,hJ,ej.shape,hc1,hc2,hT,hc3,dG,hc4,hc5,hc6,hc7,show ¬b.af.length≤8 by omega,show(8:Int)<b.af.length by omega]
 obtain⟨g1,g2,g3,g4,g5⟩:=ej.mu.1 hc1;obtain⟨_,g6⟩:=ej.sz g1 g2 g3;have hsz:=fun σ=>C9 (σ:=σ) (b:=b) g1 g2 g3
 have hs:b.size=((b.n:Nat):Int):=by unfold bC.n bC.size ej.size;omega
 have hn:b.n≤512:=by unfold bC.n bC.size ej.size;omega
 have hnil:((List.range b.n).flatMap fun _=>[D.bool false])=(List.replicate b.n false).flatMap nh:=by
  have:∀n,((List.range n).flatMap fun _=>[D.bool false])=(List.replicate n false).flatMap nh:=by
   intro n;induction n with
   |zero=>rfl
   |succ n ih=>rw[List.range_succ,iO,ih,List.replicate_succ'];simp[nh]
  exact this _
 obtain⟨s,hall⟩:=B8 (σ:=σ) (n:=b.n) (af:=b.af) hn h2;rw[← hs]at hall;have hroom:(b.n:Int)≤70368744177664:=by omega
 rw[hs]at hsz;simp[-length_flatMap,-map_take,hJ,ej.shape,hc1,hc2,hT,hc3,dG,hc4,hc5,hc6,show ¬(8:Int)<b.af.length by omega,show b.af.length≤8 by omega,hsz,room,hroom,hnil,hall,hc2']
theorem I6{l:List Int}{i n:Nat}:((l.flatMap bx).drop i).take n=((l.drop i).take n).flatMap bx:=by
 simp only[show bx=fun n=>[D.int .i64 n]from rfl,IW,← List.map_drop,← List.map_take]
theorem nS{l:List Int}{j:Nat}{x:Int}(h:l[j]?=some x):((l.flatMap bx).drop j).take 1=[.int .i64 x]:=by
 have:=cE (f:=bx) (w:=1) (fun _=>rfl) h;simpa using this
theorem bg(l:List Rw):D.bF (l.flatMap Rw.enc)=true:=mR (fun x=>by simp) l
theorem aH(l:List aT):D.bF (l.flatMap aT.enc)=true:=mR (fun x=>by simp) l
theorem aV(l:List Int):D.bF (l.flatMap bx)=true:=mR (fun x=>by simp) l
theorem xA(l:List Rock.aF):D.bF (l.flatMap aF.enc)=true:=mR (fun x=>by simp) l
structure Bv(b:bC):Prop where
 x:1≤b.f.x∧b.f.x≤8
 y:1≤b.f.y∧b.f.y≤8
 z:1≤b.f.z∧b.f.z≤8
 k:4≤b.f.k∧b.f.k≤6
 sz:b.f.size=((b.n:Nat):Int)
 n:1≤b.n∧b.n≤64
 bY:oq b.bY=true
 aS:1≤b.aS∧b.aS≤100000
 lift:0≤b.lift∧b.lift≤1000
 deep:0≤b.deep∧b.deep≤3000
 af:b.af.length≤8
 ok:gR b.size [] b.af=true
theorem Bv.of{b:bC}(h:b.valid=true):Bv b:=by
 simp only[bC.valid,bC.ok1,ak,av]at h;obtain⟨⟨h1,h2,h3,h4,h5,h6,h7⟩,h8⟩:=h;obtain⟨g1,g2,g3,g4,g5⟩:=ej.mu.1 h1;obtain⟨_,g6⟩:=ej.sz g1 g2 g3;refine⟨g1,g2,g3,⟨h2,g5.2⟩,?_,?_,h3,bD.1 h4,bD.1 h5,bD.1 h6,h7,h8⟩
 ·unfold bC.n bC.size ej.size;omega
 ·unfold bC.n bC.size;unfold ej.size at g4 ⊢;omega
theorem Bv.fv{b:bC}(h:Bv b):b.f.valid=true:=ej.mu.2 ⟨h.x,h.y,h.z,by have:=h.sz;have:=h.n;omega,by have:=h.k;omega⟩
structure Mv(b:bC)(m:bV):Prop where
 bv:Bv b
 len:(m.aP.length:Int)=b.f.k*b.f.size
theorem Mv.le{b:bC}{m:bV}(h:Mv b m):4*b.n≤m.aP.length∧m.aP.length≤384:=by
 have h1:=h.bv.k;have h2:=h.bv.sz;have h3:=h.bv.n;have h4:=h.len;have h5:=(vl h1.1 (by omega:(0:Int)≤b.f.size));have h6:=DV (a:=b.f.k) (b:=b.f.size) (A:=6) (B:=64) (by omega) h1.2 (by omega) (by omega);omega
theorem rZ{b:bC}(h:Bv b):bG T (.call false cj [.agg [.int .i64 b.f.x,.int .i64 b.f.y,.int .i64 b.f.z,.int .i64 b.f.k,.aE b.bY.length (b.bY.flatMap Rw.enc),.int .i64 b.aS,.int .i64 b.lift,.int .i64 b.deep,.aE b.af.length (b.af.flatMap aT.enc)]] σ)=some (.val (.int .i64 b.n) σ):=by
 have:=C9 (σ:=σ) (b:=b) h.x h.y h.z;rw[show b.size=((b.n:Nat):Int)from h.sz]at this;exact this
theorem xa{b:bC}{m:bV}(h:Mv b m){k:Nat}(hk:k<4):bG T (.call false cA [.agg [.int .i64 b.f.x,.int .i64 b.f.y,.int .i64 b.f.z,.int .i64 b.f.k,.aE b.bY.length (b.bY.flatMap Rw.enc),.int .i64 b.aS,.int .i64 b.lift,.int .i64 b.deep,.aE b.af.length (b.af.flatMap aT.enc),.str m.name,.aE m.aP.length (m.aP.flatMap bx)],.int .i64 k] σ)=some (.val (.aE b.n ((oc b m k).flatMap bx)) σ):=by
 refine aA tY jN.eq_1 rfl ?_;obtain⟨h1,h2⟩:=h.le;have h3:=h.bv.n;have hs:=fun σ=>rZ (σ:=σ) h.bv
 have e1:(k:Int)*(b.n:Int)=((k*b.n:Nat):Int):=by push_cast;rfl
 have e2:((k:Int)+1)*(b.n:Int)=(((k+1)*b.n:Nat):Int):=by push_cast;rfl
 have b1:(k+1)*b.n≤m.aP.length:=fQ (bW _ (by omega:k+1≤4)) h1;have b2:(k+1)*b.n=k*b.n+b.n:=eS _ _;have w1:=eW (n:=(k:Int)*b.n) (by rw[e1];omega);have w2:=eW (n:=(k:Int)+1) (by omega);have w3:=eW (n:=((k:Int)+1)*b.n) (by rw[e2];omega);have e3:(k+1)*b.n-k*b.n=b.n:=by omega
 have hsub:=I6 (l:=m.aP) (i:=k*b.n) (n:=b.n);have hle:(k:Int)*b.n≤((k:Int)+1)*b.n:=by rw[e1,e2];omega
 simp[-length_flatMap,-map_take,hs,w1,w2,w3];rw[e1,e2];have c1:(0:Int)≤((k*b.n:Nat):Int):=by omega
 have c2:((k*b.n:Nat):Int)≤(((k+1)*b.n:Nat):Int):=by omega
 have c3:(((k+1)*b.n:Nat):Int)≤(m.aP.length:Int):=by omega
 have c4:(0:Int)≤(((k+1)*b.n:Nat):Int):=by omega
 simp only[c1,c2,c3,c4,and_self,if_true,Int.toNat_natCast,Option.bind_some,aM,wO,e3,hsub];simp[-length_flatMap,-map_take,oc,hle,e3,hsub,aV]
theorem zk{b:bC}{m:bV}(h:Mv b m){k:Nat}(hk:k<4):(oc b m k).length=b.n:=by
 obtain⟨h1,h2⟩:=h.le;have b1:(k+1)*b.n≤m.aP.length:=fQ (bW _ (by omega:k+1≤4)) h1;have b2:(k+1)*b.n=k*b.n+b.n:=eS _ _;simp[oc];omega
theorem oP{b:bC}{m:bV}(h:Mv b m){k i:Nat}(hk:k<4)(hi:i<b.n):(oc b m k)[i]?=some (ju b m k i):=by
 obtain⟨h1,h2⟩:=h.le;have b1:(k+1)*b.n≤m.aP.length:=fQ (bW _ (by omega:k+1≤4)) h1;have b2:(k+1)*b.n=k*b.n+b.n:=eS _ _;have h3:k*b.n+i<m.aP.length:=by omega
 simp only[oc,ju,bZ,eG,if_pos hi,au h3,dK]
theorem Fq{b:bC}{m:bV}(h:Mv b m){i:Nat}(hi:i<b.n):bG T (.call false c8 [.agg [.int .i64 b.f.x,.int .i64 b.f.y,.int .i64 b.f.z,.int .i64 b.f.k,.aE b.bY.length (b.bY.flatMap Rw.enc),.int .i64 b.aS,.int .i64 b.lift,.int .i64 b.deep,.aE b.af.length (b.af.flatMap aT.enc),.str m.name,.aE m.aP.length (m.aP.flatMap bx)],.int .i64 i] σ)=some (.val (.int .i64 (hold b m i)) σ):=by
 refine aA tX jM.eq_1 rfl ?_;have hk:=fun σ=>xa (σ:=σ) h (k:=0) (by omega)
 have ha:=nS (oP h (k:=0) (by omega) hi);simp only[Int.ofNat_zero]at hk;simp[-length_flatMap,-map_take,hk,hi,ha,hold]
theorem Fu{b:bC}{m:bV}(h:Mv b m){i:Nat}(hi:i<b.n):bG T (.call false eN [.agg [.int .i64 b.f.x,.int .i64 b.f.y,.int .i64 b.f.z,.int .i64 b.f.k,.aE b.bY.length (b.bY.flatMap Rw.enc),.int .i64 b.aS,.int .i64 b.lift,.int .i64 b.deep,.aE b.af.length (b.af.flatMap aT.enc),.str m.name,.aE m.aP.length (m.aP.flatMap bx)],.int .i64 i] σ)=some (.val (.int .i64 (yL b m i)) σ):=by
 refine aA tZ jO.eq_1 rfl ?_;have hk:=fun σ=>xa (σ:=σ) h (k:=1) (by omega)
 have ha:=nS (oP h (k:=1) (by omega) hi);simp at hk;simp[-length_flatMap,-map_take,hk,hi,ha,yL]
theorem T3{b:bC}{m:bV}(h:Mv b m){i:Nat}(hi:i<b.n):bG T (.call false gF [.agg [.int .i64 b.f.x,.int .i64 b.f.y,.int .i64 b.f.z,.int .i64 b.f.k,.aE b.bY.length (b.bY.flatMap Rw.enc),.int .i64 b.aS,.int .i64 b.lift,.int .i64 b.deep,.aE b.af.length (b.af.flatMap aT.enc),.str m.name,.aE m.aP.length (m.aP.flatMap bx)],.int .i64 i] σ)=some (.val (.int .i64 (yQ b m i)) σ):=by
 refine aA ub jQ.eq_1 rfl ?_;have hk:=fun σ=>xa (σ:=σ) h (k:=2) (by omega)
 have ha:=nS (oP h (k:=2) (by omega) hi);simp at hk;simp[-length_flatMap,-map_take,hk,hi,ha,yQ]
theorem TW{b:bC}{m:bV}(h:Mv b m){i:Nat}(hi:i<b.n):bG T (.call false eM [.agg [.int .i64 b.f.x,.int .i64 b.f.y,.int .i64 b.f.z,.int .i64 b.f.k,.aE b.bY.length (b.bY.flatMap Rw.enc),.int .i64 b.aS,.int .i64 b.lift,.int .i64 b.deep,.aE b.af.length (b.af.flatMap aT.enc),.str m.name,.aE m.aP.length (m.aP.flatMap bx)],.int .i64 i] σ)=some (.val (.int .i64 (feed b m i)) σ):=by
 refine aA tV jK.eq_1 rfl ?_;have hk:=fun σ=>xa (σ:=σ) h (k:=3) (by omega)
 have ha:=nS (oP h (k:=3) (by omega) hi);simp at hk;simp[-length_flatMap,-map_take,hk,hi,ha,feed]
theorem Ke{lo hi n:Int}:bG T (.call false cr [.int .i64 n,.ref σ.length 0 0 0] ([]::[]::[]::[]::[.cells 0 [.int .i64 lo,.int .i64 hi]]::σ))=some (.val (.bool (cK n lo hi)) ([]::[]::[]::[]::[.cells 0 [.int .i64 lo,.int .i64 hi]]::σ)):=by
 refine aA sh iw.eq_1 rfl ?_;simp[-length_flatMap,-map_take,dG]
theorem Ek{b:bC}{m:bV}(h:Mv b m){k:Nat}(hk:k<4){lo hi:Int}:bG T (.call false fa [.aE b.n ((oc b m k).flatMap bx),.fn cr [] [.ref σ.length 0 0 0]] ([.cells 0 [.int .i64 lo,.int .i64 hi]]::σ)) =
  some (.val (.bool (eH (oc b m k) fun n=>cK n lo hi)) ([.cells 0 [.int .i64 lo,.int .i64 hi]]::σ)):=by
 have hl:=zk h hk;have hn:=h.bv.n;have:=Kx (Co .i64) (T:=T) (f:=fa) (g:=jr) (h:=bU) (i:=dj) (l:=oc b m k) (p:=fun n=>cK n lo hi) (fv:=.fn cr [] [.ref σ.length 0 0 0]) (σ:=[.cells 0 [.int .i64 lo,.int .i64 hi]]::σ)
  rfl rfl rfl rfl (by omega) rfl rfl rfl (fun x _=>by
   rw[uK];have:=Ke (σ:=σ) (lo:=lo) (hi:=hi) (n:=x);show R.aP (bG T (.call false cr [.int .i64 x,.ref σ.length 0 0 0] _))=_
   rw[this];rfl)
 rw[hl]at this;exact this
def Aj:Nat→Int×Int
 |0=>(1000,100000)
 |1=>(0,1000)
 |2=>(0,3000)
 |_=>(0,1000)
def pX(b:bC)(m:bV)(i:Nat):Nat→Bool
 |0=>true
 |n+1=>eH (oc b m i) (fun x=>cK x (Aj i).1 (Aj i).2) && pX b m (i+1) n
theorem FI{b:bC}{m:bV}(h:Mv b m):∀(n i:Nat),i+n=4 →
  WL T [1,17,18] true gM [(1,.aK [.int .i64 b.f.x,.int .i64 b.f.y,.int .i64 b.f.z,.int .i64 b.f.k,.aE b.bY.length (b.bY.flatMap Rw.enc),.int .i64 b.aS,.int .i64 b.lift,.int .i64 b.deep,.aE b.af.length (b.af.flatMap aT.enc),.str m.name,.aE m.aP.length (m.aP.flatMap bx)]),(17,.agg [.int .i64 1000,.int .i64 100000,.int .i64 0,.int .i64 1000,.int .i64 0,.int .i64 3000,.int .i64 0,.int .i64 1000]),(18,.int .i64 i)] σ
   (fun x e σ'=>σ'=σ∧if pX b m i n=true then x=.exit 0 else x=.ret∧get e 2=.bool false)
 |0,i,hi=>by
  refine pT gM.eq_1 ?_;obtain rfl:i=4:=by omega
  simp[-length_flatMap,-map_take,pX,bg,aH,aV]
 |n+1,i,hi=>by
  refine pT gM.eq_1 ?_;have hk:i<4:=by omega
  have hK:=fun σ=>xa (σ:=σ) h hk
  have ih:=FI h n (i+1) (by omega);have hA:=Ek (σ:=σ) h hk (lo:=(Aj i).1) (hi:=(Aj i).2);simp only[pX];rcases Bool.eq_false_or_eq_true (eH (oc b m i) (fun x=>cK x (Aj i).1 (Aj i).2))with hc | hc
  ·rw[hc]at hA;obtain rfl | rfl | rfl | rfl:i=0∨i=1∨i=2∨i=3:=by omega
   all_goals
    simp only[Aj]at hA hc ⊢
    try simp at hK
    simp[-length_flatMap,-map_take,hK,hA,hc,bg,aH,aV];exact WL.to ih (by simp[bg,aH,aV]) (by simp[bg,aH,aV]) fun x e σ' hh=>by simpa[hc]using hh
  ·rw[hc]at hA;obtain rfl | rfl | rfl | rfl:i=0∨i=1∨i=2∨i=3:=by omega
   all_goals
    simp only[Aj]at hA hc ⊢
    try simp at hK
    simp[-length_flatMap,-map_take,hK,hA,hc,bg,aH,aV]
theorem Mv.of{b:bC}{m:bV}(h:Bv b)(hc:er b.f [m]=0):Mv b m:=by
 refine⟨h,?_⟩;simp only[er,h.fv,if_true,ej.kT]at hc;have h1:cK (([m]:List bV).length:Nat) 1 40=true:=by simp[cK]
 rw[if_pos h1]at hc;simp only[ej.each]at hc;split at hc
 ·rename_i hm;unfold ej.model at hm;split at hm
  ·split at hm
   ·rename_i hh;exact hh.1
   ·cases hm
  ·cases hm
 ·rename_i hm;exact absurd hc hm
theorem TX{b:bC}{m:bV}(h:Bv b)(hn:m.name.length≤1000000000)(hl:m.aP.length≤1000000000):bG T (.call false gC [.agg [.int .i64 b.f.x,.int .i64 b.f.y,.int .i64 b.f.z,.int .i64 b.f.k,.aE b.bY.length (b.bY.flatMap Rw.enc),.int .i64 b.aS,.int .i64 b.lift,.int .i64 b.deep,.aE b.af.length (b.af.flatMap aT.enc),.str m.name,.aE m.aP.length (m.aP.flatMap bx)]] σ)=some (.val (.bool (fits b m)) σ):=by
 refine aA tW jL.eq_1 rfl ?_;have hC:=fun σ=>tG (σ:=σ) (f:=b.f) (l:=[m]) (by simpa using⟨hn,hl⟩) (by simp)
 simp at hC;by_cases hc:er b.f [m]=0
 ·have hm:=Mv.of h hc;simp[-length_flatMap,-map_take,hC,hc];refine WL.to (FI (σ:=[]::σ) hm 4 0 (by omega)) (by simp) rfl ?_;rintro x e σ' ⟨rfl,hh⟩;have he:pX b m 0 4=fits b m:=by
   simp[pX,fits,hc,Aj]
  rw[he]at hh;cases hf:fits b m
  ·rw[hf]at hh;simp at hh;simp[hh]
  ·rw[hf]at hh;simp at hh;subst hh;simp[-length_flatMap,-map_take]
 ·simp[-length_flatMap,-map_take,hC,hc,fits]
theorem Kl{n:Int}:bG T (.call false eK [.int .i64 n] σ)=some (.val (.bool (cK n (-100000) 100000)) σ):=by
 refine aA tS jH.eq_1 rfl ?_;simp[-length_flatMap,-map_take,dG]
theorem El{l:List Int}{p:Int→Bool}{fv:D}(hl:l.length≤1000000000)(ht:lz T fv (fun n => .int .i64 n) p l)(hc:fv.cells=some [fv]):
  bG T (.call false fa [.aE l.length (l.flatMap bx),fv] σ)=some (.val (.bool (eH l p)) σ) :=
 zP (Co .i64) (f:=fa) (g:=jr) (h:=bU) (i:=dj) (l:=l) (p:=p) (fv:=fv) rfl rfl rfl rfl (by omega) ht hc
theorem Km{b:bC}{l:List Int}(hl:l.length≤1000000000):bG T (.call false jn [.agg [.int .i64 b.f.x,.int .i64 b.f.y,.int .i64 b.f.z,.int .i64 b.f.k,.aE b.bY.length (b.bY.flatMap Rw.enc),.int .i64 b.aS,.int .i64 b.lift,.int .i64 b.deep,.aE b.af.length (b.af.flatMap aT.enc)],.aE l.length (l.flatMap bx)] σ)=some (.val (.int .i64 (kf b l)) σ):=by
 refine aA vp lk.eq_1 rfl ?_;have ha:=fun σ=>El (σ:=σ) (l:=l) (p:=fun n=>cK n (-100000) 100000) (fv:=.fn eK [] []) hl (lz.fn fun x _ σ=>Kl) rfl
 unfold kf;by_cases hc1:l.length=b.af.length
 ·rw[← hc1];cases hc2:eH l (fun n=>cK n (-100000) 100000)<;>simp[-length_flatMap,-map_take,hc1,ha,hc2,hc1 ▸ ha]
 ·simp[-length_flatMap,-map_take,hc1,show ¬(l.length:Int)=b.af.length by omega]
def kK(l:List Int):List D:=[.aE l.length (l.flatMap bx)]
theorem FM{b:bC}{plan:List (List Int)}(hl:plan.length≤1000000000)(hs:∀l∈plan,l.length≤1000000000):∀(m i:Nat),i+m=plan.length →
  WL T [2,11,12,13] false iX [(2,.aK [.int .i64 b.f.x,.int .i64 b.f.y,.int .i64 b.f.z,.int .i64 b.f.k,.aE b.bY.length (b.bY.flatMap Rw.enc),.int .i64 b.aS,.int .i64 b.lift,.int .i64 b.deep,.aE b.af.length (b.af.flatMap aT.enc)]),(11,.aE plan.length (plan.flatMap kK)),(12,.int .i64 plan.length),(13,.int .i64 i)] σ
   (fun x e σ'=>σ'=σ∧if gf (kf b) (plan.drop i)=0 then x=.exit 0 else x=.ret∧get e 4=.int .i64 (gf (kf b) (plan.drop i)))
 |0,i,hi=>by
  refine aB iX.eq_1 ?_;have h1:¬i<plan.length:=by omega
  have h2:plan.drop i=[]:=az (by omega);simp[-length_flatMap,-map_take,h1,h2,gf]
 |m+1,i,hi=>by
  refine aB iX.eq_1 ?_;have h1:i<plan.length:=by omega
  obtain⟨l,hx⟩:=gE h1;have h2:=cE (f:=kK) (w:=1) (fun _=>rfl) hx;simp only[kK,mc]at h2;have h4:=db h1 (by omega);have h5:=cO hx;have hC:=fun σ=>Km (σ:=σ) (b:=b) (l:=l) (hs l (aj hx))
  rw[h5,gf];have ih:=FM (b:=b) hl hs m (i+1) (by omega);by_cases hc:kf b l=0
  ·simp[-length_flatMap,-map_take,h1,h2,h4,hC,hc,kK];exact WL.to ih (by simp[kK]) rfl fun x e σ' hh=>by simpa[hc]using hh
  ·simp[-length_flatMap,-map_take,h1,h2,h4,hC,hc,kK]
theorem TY{b:bC}{plan:List (List Int)}(hl:plan.length≤1000000000)(hs:∀l∈plan,l.length≤1000000000):
  bG T (.call false j3 [.agg [.int .i64 b.f.x,.int .i64 b.f.y,.int .i64 b.f.z,.int .i64 b.f.k,.aE b.bY.length (b.bY.flatMap Rw.enc),.int .i64 b.aS,.int .i64 b.lift,.int .i64 b.deep,.aE b.af.length (b.af.flatMap aT.enc)],.aE plan.length (plan.flatMap kK)] σ)=some (.val (.int .i64 (sG b plan)) σ):=by
 refine aA wC l6.eq_1 rfl ?_;unfold sG;by_cases hc:200<plan.length
 ·simp[-length_flatMap,-map_take,hc,show(200:Int)<plan.length by omega]
 ·simp[-length_flatMap,-map_take,hc,show ¬(200:Int)<plan.length by omega];refine WL.to (FM (σ:=[]::σ) (b:=b) hl hs plan.length 0 (by omega)) (by simp) rfl ?_;rintro x e σ' ⟨rfl,h⟩;simp only[aO]at h;by_cases hc2:gf (kf b) plan=0
  ·rw[if_pos hc2]at h;subst h;simp[-length_flatMap,-map_take,hc2,show plan.length≤200 by omega]
  ·rw[if_neg hc2]at h;obtain⟨rfl,h⟩:=h;simp[h,show ¬200<plan.length by omega]
structure Fv(b:bC)(m:bV):Prop extends Mv b m where
 hold:∀i,i<b.n→1000≤Rock.hold b m i∧Rock.hold b m i≤100000
 yL:∀i,i<b.n→0≤Rock.yL b m i∧Rock.yL b m i≤1000
 yQ:∀i,i<b.n→0≤Rock.yQ b m i∧Rock.yQ b m i≤3000
 feed:∀i,i<b.n→0≤Rock.feed b m i∧Rock.feed b m i≤1000
theorem Fv.of{b:bC}{m:bV}(h:Bd b m=true):Fv b m:=by
 simp only[Bd,fits,ak,av]at h;obtain⟨h1,h2,h3,h4,h5,h6⟩:=h;have hm:=Mv.of (Bv.of h1) h2;have key:∀{k:Nat} {lo hi:Int},k<4→eH (oc b m k) (fun n=>cK n lo hi)=true→∀i,i<b.n→lo≤ju b m k i∧ju b m k i≤hi:=by
  intro k lo hi hk ha i hi';exact bD.1 (jW.1 ha _ (aj (oP hm hk hi')))
 exact⟨hm,key (by omega) h3,key (by omega) h4,key (by omega) h5,key (by omega) h6⟩
theorem sQ{b:bC}(h:Bv b){i:Nat}(hi:i<b.n):0≤weight b i∧weight b i≤64000:=by
 have hl:=h.lift;have hn:=h.n;have hle:i / (b.f.x.toNat*b.f.y.toNat)≤i:=Nat.div_le_self _ _;have hq:=Int.natCast_nonneg (i / (b.f.x.toNat*b.f.y.toNat));have hle2:((i / (b.f.x.toNat*b.f.y.toNat):Nat):Int)≤64:=by
  have:i / (b.f.x.toNat*b.f.y.toNat)≤64:=by omega
  exact Int.ofNat_le.2 this
 unfold weight;exact mq (A:=64) (B:=1000) hq hle2 hl.1 hl.2
theorem xc{b:bC}{m:bV}(h:Bv b){i:Nat}(hi:i<b.n):bG T (.call false da [.agg [.int .i64 b.f.x,.int .i64 b.f.y,.int .i64 b.f.z,.int .i64 b.f.k,.aE b.bY.length (b.bY.flatMap Rw.enc),.int .i64 b.aS,.int .i64 b.lift,.int .i64 b.deep,.aE b.af.length (b.af.flatMap aT.enc),.str m.name,.aE m.aP.length (m.aP.flatMap bx)],.int .i64 i] σ)=some (.val (.int .i64 (weight b i)) σ):=by
 refine aA si iy.eq_1 rfl ?_;have hx:=h.x;have hy:=h.y;have hn:=h.n;obtain⟨s1,_⟩:=ej.sz h.x h.y h.z;have w1:=eW (n:=b.f.x*b.f.y) (by omega);have e1:b.f.x*b.f.y=((b.f.x.toNat*b.f.y.toNat:Nat):Int):=by push_cast;rw[cf (by omega),cf (by omega)]
 have e2:(i:Int) / (b.f.x*b.f.y)=((i / (b.f.x.toNat*b.f.y.toNat):Nat):Int):=by
  rw[e1];rfl
 have hle:i / (b.f.x.toNat*b.f.y.toNat)≤i:=Nat.div_le_self _ _;have hw:=sQ h hi;have hq:(0:Int)≤(i:Int) / (b.f.x*b.f.y):=by rw[e2];exact Int.natCast_nonneg _
 have hq2:(i:Int) / (b.f.x*b.f.y)≤64:=by
  rw[e2];have:i / (b.f.x.toNat*b.f.y.toNat)≤64:=by omega
  exact Int.ofNat_le.2 this
 have w2:=eW (n:=(i:Int) / (b.f.x*b.f.y)) (by omega);have w3:=eW (n:=weight b i) (by omega);have hne:¬b.f.x*b.f.y=0:=by omega
 have hnx:¬b.f.x=0:=by omega
 have hny:¬b.f.y=0:=by omega
 have e3:(i:Int) / (b.f.x*b.f.y)*b.lift=weight b i:=by rw[e2];rfl
 simp[-length_flatMap,-map_take,w1,w2,hne,hnx,hny,e3,w3]
theorem TU{n d:Int}(hn : -200000000000≤n∧n≤200000000000)(hd:1≤d∧d≤100000):bG T (.call false n8 [.int .i64 n,.int .i64 d] σ)=some (.val (.int .i64 (down n d)) σ):=by
 refine aA AR po.eq_1 rfl ?_;have h1:=Int.mul_tdiv_add_tmod n d;have h2:=Int.tmod_lt_of_pos n (show 0<d by omega);have h3:=Int.lt_tmod_of_pos n (show 0<d by omega);unfold down;generalize hq:n.tdiv d=q at *
 generalize n.tmod d=r at *
 have h4:d*q=q*d:=Int.mul_comm _ _;have hb : -200000100001≤q∧q≤200000100001:=by
  rcases jA 0 q with h | h
  ·have:=Int.mul_le_mul_of_nonneg_left hd.1 h;omega
  ·have:=Int.mul_le_mul_of_nonpos_left h hd.1;omega
 have w1:=eW (n:=q) (by omega);have w2:=eW (n:=q*d) (by omega);have w3:=eW (n:=q-1) (by omega);have hne:¬d=0:=by omega
 have key:n / d=if n<q*d then q-1 else q:=by
  split
  ·rename_i hc;refine((Int.ediv_emod_unique (r:=r+d) (show 0<d by omega)).2 ⟨?_,?_,?_⟩).1
   ·rw[Int.mul_sub];omega
   ·omega
   ·omega
  ·rename_i hc;refine((Int.ediv_emod_unique (r:=r) (show 0<d by omega)).2 ⟨?_,?_,?_⟩).1<;>omega
 rw[key];by_cases hc:n<q*d<;>simp[-length_flatMap,-map_take,hq,w1,w2,w3,hne,hc]
theorem qd{α:Type}{f:α→List D}{w n:Nat}(hn:1<n)(hw:∀x,(f x).length=w)(hc:∀x,D.bF (f x)=true){l:List α}{j v:Nat}{bs:List Abs.aF}(hσ:σ≠[])(hj:bs[j]?=some (.cells v (l.flatMap f))):
  cb (σ.length-1) n (.sl σ.length j v 0 l.length w) (bs::σ)=(.aE l.length (l.flatMap f),bs.set j .dead::σ):=by
 have h3:¬σ.length≤σ.length-1:=by have:=oi.2 hσ;omega
 rw[Cs h3 (cs:=l.flatMap f) (by simp[hj]) (by omega)];have h4:0<n-1:=by omega
 simp[Cw hw l,mR hc l,h4]
theorem sZ{b:bC}{m:bV}:(cS b m).length=b.n:=by simp[cS]
theorem wQ(l:List Rock.aF):(l.flatMap aF.enc).length=l.length*3:=j1 (f:=aF.enc) (w:=3) (fun _=>rfl) l
theorem Dj{b:bC}{m:bV}(h:Fv b m):∀(n i v:Nat),i+n=b.n →
  WL T [1,2,6,7] false fX [(1,.aK [.int .i64 b.f.x,.int .i64 b.f.y,.int .i64 b.f.z,.int .i64 b.f.k,.aE b.bY.length (b.bY.flatMap Rw.enc),.int .i64 b.aS,.int .i64 b.lift,.int .i64 b.deep,.aE b.af.length (b.af.flatMap aT.enc),.str m.name,.aE m.aP.length (m.aP.flatMap bx)]),(2,.sl σ.length 0 v 0 i 3),(6,.int .i64 b.n),(7,.int .i64 i)] ([.cells v (((cS b m).take i).flatMap aF.enc)]::σ)
   (fun x e σ'=>x=.exit 0∧get e 2=.sl σ.length 0 (v+n) 0 (cS b m).length 3∧σ'=[.cells (v+n) ((cS b m).flatMap aF.enc)]::σ)
 |0,i,v,hi=>by
  refine aB fX.eq_1 ?_;obtain rfl:i=b.n:=by omega
  have h3:(cS b m).take b.n=cS b m:=aq (by simp[sZ]);simp[-length_flatMap,-map_take,h3,sZ]
 |n+1,i,v,hi=>by
  refine aB fX.eq_1 ?_;have h1:i<b.n:=by omega
  have hn:=h.bv.n;have h4:=db h1 (by omega);have ho:=fun σ=>Fq (σ:=σ) h.toMv h1
  have hw:=fun σ=>T3 (σ:=σ) h.toMv h1
  have b1:=h.hold i h1;have b2:=h.yQ i h1;have b3:=mq (by omega:0≤hold b m i) b1.2 b2.1 b2.2;have w1:=eW (n:=hold b m i*yQ b m i) (by omega);have ih:=Dj h n (i+1) (v+1) (by omega);have hx:(cS b m)[i]?=some ⟨hold b m i,hold b m i*yQ b m i,0⟩:=by simp[cS,h1]
  have a3:=mj (f:=aF.enc) hx;have a4:=wQ ((cS b m).take i);rw[bO,sZ,Nat.min_eq_left (by omega)]at a4;have a6:(((cS b m).take i).flatMap aF.enc).take (i*3)=((cS b m).take i).flatMap aF.enc:=aq (by omega);have h7:(i+1)*24≤room:=by unfold room;omega
  simp[-length_flatMap,-map_take,h1,h4,ho,hw,w1,a4,a6,h7,bg,aH,aV];refine WL.to ih (by simp[bg,aH,aV]) (by simp[← a3]) fun x e σ hh=>by simpa[cH,Nat.add_comm 1 n]using hh
theorem yT{b:bC}{m:bV}(h:Fv b m)(hσ:σ≠[]):bG T (.call false fL [.agg [.int .i64 b.f.x,.int .i64 b.f.y,.int .i64 b.f.z,.int .i64 b.f.k,.aE b.bY.length (b.bY.flatMap Rw.enc),.int .i64 b.aS,.int .i64 b.lift,.int .i64 b.deep,.aE b.af.length (b.af.flatMap aT.enc),.str m.name,.aE m.aP.length (m.aP.flatMap bx)]] σ)=some (.val (stE (cS b m)) σ):=by
 refine aA tz iY.eq_1 rfl ?_;have hs:=fun σ=>rZ (σ:=σ) h.bv
 simp[-length_flatMap,-map_take,hs,bg,aH,aV];refine WL.to (Dj (σ:=σ) h b.n 0 0 (by omega)) (by simp) (by simp) ?_;rintro x e σ' ⟨rfl,g2,rfl⟩;simp[-length_flatMap,-map_take,g2];rw[qd (f:=aF.enc) (by decide) (fun _=>rfl) (fun x=>by simp) hσ (by simp)];simp[stE]
theorem aF.CG{x:Rock.aF}:x.valid=true↔(1≤x.m∧x.m≤1000000)∧(0≤x.h∧x.h≤10000000000)∧(0≤x.k∧x.k≤1000000000000):=by
 simp[Rock.aF.valid,cK]
structure Sv(b:bC)(s:List Rock.aF):Prop where
 len:s.length=b.n
 ok:∀x∈s,x.valid=true
theorem Sv.of{b:bC}{s:List Rock.aF}(h:Bv b):pA b s=true↔Sv b s:=by
 have hs:=h.sz;have hn:=h.n;unfold pA;simp only[ak,av];constructor
 ·rintro⟨h1,h2⟩;exact⟨by unfold bC.size at h1;omega,jW.1 h2⟩
 ·rintro⟨h1,h2⟩;exact⟨by unfold bC.size;omega,jW.2 h2⟩
theorem Sv.at{b:bC}{s:List Rock.aF}(h:Sv b s){i:Nat}(hi:i<b.n):s[i]?=some (aZ s i)∧(1≤(aZ s i).m∧(aZ s i).m≤1000000)∧(0≤(aZ s i).h∧(aZ s i).h≤10000000000)∧(0≤(aZ s i).k∧(aZ s i).k≤1000000000000):=by
 have h1:i<s.length:=by have:=h.len;omega
 have h2:s[i]?=some (aZ s i):=by simp[aZ,h1]
 exact⟨h2,aF.CG.1 (h.ok _ (aj h2))⟩
theorem Sv.first{b:bC}{m:bV}(h:Fv b m):Sv b (cS b m):=by
 refine⟨sZ,fun x hx=>?_⟩;simp only[cS,bp,List.mem_range]at hx;obtain⟨i,hi,rfl⟩:=hx;have b1:=h.hold i hi;have b2:=h.yQ i hi;have b3:=mq (by omega:0≤hold b m i) b1.2 b2.1 b2.2;exact aF.CG.2 ⟨⟨by simp only;omega,by simp only;omega⟩,⟨b3.1,by simp only;omega⟩,by simp⟩
theorem Jx{r:Rw}(h:r.alone=true):(1≤r.p∧r.p≤10000)∧(0≤r.l∧r.l≤4000):=by
 simp only[Rw.alone,ak]at h;exact⟨bD.1 h.2.1,bD.1 h.2.2.1⟩
theorem Dm{s:List Rock.aF}{i:Nat}{x:Rock.aF}{t:List Rw}(hx:s[i]?=some x)(hm:0≤x.m∧x.m≤1000000)(ht:∀r∈t,r.alone=true)(hl:t.length≤1000):∀(n j:Nat) (o:Int),j+n=t.length →
  WL T [1,2,7,34,35,36] false eA [(1,.aE s.length (s.flatMap aF.enc)),(2,.int .i64 i),(7,.int .i64 o),(34,.aE t.length (t.flatMap Rw.enc)),(35,.int .i64 t.length),(36,.int .i64 j)] σ
   (fun x' e σ'=>σ'=σ∧x'=.exit 0∧get e 7=.int .i64 ((t.drop j).foldl (ka x) o))
 |0,j,o,hj=>by
  refine aB eA.eq_1 ?_;have h1:¬j<t.length:=by omega
  have h2:t.drop j=[]:=az (by omega);simp[-length_flatMap,-map_take,h1,h2]
 |n+1,j,o,hj=>by
  refine aB eA.eq_1 ?_;have h1:j<t.length:=by omega
  obtain⟨r,hr⟩:=gE h1;have hrb:=Jx (ht r (aj hr));have h2:=cE (f:=Rw.enc) (w:=5) (fun _=>rfl) hr;have h3:=cE (f:=aF.enc) (w:=3) (fun _=>rfl) hx;have h4:=db h1 (by omega);have h5:=cO hr;have hi:i<s.length:=(an.1 hx).1;have b1:=mq hrb.2.1 hrb.2.2 hm.1 hm.2;have w1:=eW (n:=r.l*x.m) (by omega);have ih:=Dm hx hm ht hl n (j+1) (ka x o r) (by omega);rw[h5];simp only[List.foldl_cons];by_cases hc:r.l*x.m≤x.h
  ·have hm2:(if o<r.p then r.p else o)=ka x o r:=by unfold ka;rw[if_pos hc];omega
   simp[-length_flatMap,-map_take,h1,h2,h3,h4,hi,w1,hc];refine WL.to ih (by simp[ka,hc]) rfl fun x e σ hh=>hh
  ·simp[-length_flatMap,-map_take,h1,h2,h3,h4,hi,w1,hc];refine WL.to ih (by simp[ka,hc]) rfl fun x e σ hh=>hh
theorem B0{b:bC}{m:bV}{s:List Rock.aF}(h:Fv b m)(hs:Sv b s){i:Nat}(hi:i<b.n):
  bG T (.call false dZ [.agg [.int .i64 b.f.x,.int .i64 b.f.y,.int .i64 b.f.z,.int .i64 b.f.k,.aE b.bY.length (b.bY.flatMap Rw.enc),.int .i64 b.aS,.int .i64 b.lift,.int .i64 b.deep,.aE b.af.length (b.af.flatMap aT.enc),.str m.name,.aE m.aP.length (m.aP.flatMap bx)],.aE s.length (s.flatMap aF.enc),.int .i64 i] σ)=some (.val (.int .i64 (gH b m s i)) σ):=by
 refine aA qX fY.eq_1 rfl ?_;have hw:=fun σ=>xc (σ:=σ) (m:=m) h.bv hi
 have ho:=fun σ=>Fq (σ:=σ) h.toMv hi
 have b1:=h.hold i hi;obtain⟨hx,b2,b3,b4⟩:=hs.at hi;have hil:i<s.length:=by have:=hs.len;omega
 have hst:=h.bv.aS;have b5:=sQ h.bv hi;have b6 : -100000000000≤b.aS*((aZ s i).m-hold b m i)∧b.aS*((aZ s i).m-hold b m i)≤100000000000:=by
  rcases jA (hold b m i) (aZ s i).m with hh | hh
  ·have:=mq (a:=b.aS) (b:=(aZ s i).m-hold b m i) (A:=100000) (B:=1000000) (by omega) hst.2 (by omega) (by omega);omega
  ·have:=mq (a:=b.aS) (b:=hold b m i-(aZ s i).m) (A:=100000) (B:=1000000) (by omega) hst.2 (by omega) (by omega);have e:b.aS*((aZ s i).m-hold b m i) = - (b.aS*(hold b m i-(aZ s i).m)):=by rw[← Int.mul_neg];congr 1;omega
   omega
 have hd:=fun σ=>TU (σ:=σ) (n:=b.aS*((aZ s i).m-hold b m i)) (d:=hold b m i) (by omega) (by omega)
 have b7 : -100000000000≤down (b.aS*((aZ s i).m-hold b m i)) (hold b m i)∧down (b.aS*((aZ s i).m-hold b m i)) (hold b m i)≤100000000000:=by
  unfold down;constructor
  ·rw[Int.le_ediv_iff_mul_le (by omega)];omega
  ·have:=Int.ediv_le_self (b:=hold b m i) (a:=b.aS*((aZ s i).m-hold b m i));rcases jA 0 (b.aS*((aZ s i).m-hold b m i))with hh | hh
   ·have:=this hh;omega
   ·have:=Int.ediv_le_of_le_mul (b:=0) (show 0<hold b m i by omega) (by omega:b.aS*((aZ s i).m-hold b m i)≤0*hold b m i);omega
 have w1:=eW (n:=(aZ s i).m-hold b m i) (by omega);have w2:=eW (n:=b.aS*((aZ s i).m-hold b m i)) (by omega);have w3:=eW (n:=weight b i+down (b.aS*((aZ s i).m-hold b m i)) (hold b m i)) (by omega);have h3:=cE (f:=aF.enc) (w:=3) (fun _=>rfl) hx;have htab:=h.bv.bY;simp only[oq,ak]at htab;have ht:=bD.1 htab.1;simp[-length_flatMap,-map_take,hw,ho,hil,h3,w1,w2,hd,w3];refine WL.to (Dm (σ:=[]::σ) hx ⟨by omega,by omega⟩ (jW.1 htab.2.1) (by omega) b.bY.length 0 (max 0 (weight b i+down (b.aS*((aZ s i).m-hold b m i)) (hold b m i))) (by omega)) (by simp) rfl ?_;rintro x e σ' ⟨rfl,rfl,g⟩;simp[-length_flatMap,-map_take,g,gH]
theorem Af{b:bC}{m:bV}{s:List Rock.aF}:(bh b m s).length=s.length:=by simp[bh]
theorem wU(l:List Int):(l.flatMap bx).length=l.length:=by
 have:=j1 (f:=bx) (w:=1) (fun _=>rfl) l;omega
theorem vY{b:bC}{m:bV}{s:List Rock.aF}(h:Fv b m)(hs:Sv b s):∀(n i v:Nat),i+n=s.length →
  WL T [1,2,4,7,8] false dW [(1,.aE s.length (s.flatMap aF.enc)),(2,.aK [.int .i64 b.f.x,.int .i64 b.f.y,.int .i64 b.f.z,.int .i64 b.f.k,.aE b.bY.length (b.bY.flatMap Rw.enc),.int .i64 b.aS,.int .i64 b.lift,.int .i64 b.deep,.aE b.af.length (b.af.flatMap aT.enc),.str m.name,.aE m.aP.length (m.aP.flatMap bx)]),(4,.sl σ.length 0 v 0 i 1),(7,.int .i64 s.length),(8,.int .i64 i)] ([.cells v (((bh b m s).take i).flatMap bx)]::σ)
   (fun x e σ'=>x=.exit 0∧get e 4=.sl σ.length 0 (v+n) 0 (bh b m s).length 1∧σ'=[.cells (v+n) ((bh b m s).flatMap bx)]::σ)
 |0,i,v,hi=>by
  refine aB dW.eq_1 ?_;have h1:¬i<s.length:=by omega
  have h3:(bh b m s).take i=bh b m s:=aq (by rw[Af];omega);simp[-length_flatMap,-map_take,h1,h3,Af];omega
 |n+1,i,v,hi=>by
  refine aB dW.eq_1 ?_;have h1:i<s.length:=by omega
  have hn:=h.bv.n;have hl:=hs.len;have h4:=db h1 (by omega);have hp:=fun σ=>B0 (σ:=σ) h hs (i:=i) (by omega)
  have ih:=vY h hs n (i+1) (v+1) (by omega);have hx:(bh b m s)[i]?=some (gH b m s i):=by simp[bh,h1]
  have a3:=mj (f:=bx) hx;have a4:=wU ((bh b m s).take i);rw[bO,Af,Nat.min_eq_left (by omega)]at a4;have a6:(((bh b m s).take i).flatMap bx).take i=((bh b m s).take i).flatMap bx:=aq (by omega);have h7:(i+1)*8≤room:=by unfold room;omega
  simp[-length_flatMap,-map_take,h1,h4,hp,a4,a6,h7,bg,aH,aV];refine WL.to ih (by simp[bg,aH,aV]) (by simp[← a3]) fun x e σ hh=>by simpa[cH,Nat.add_comm 1 n]using hh
theorem AJ{b:bC}{m:bV}{s:List Rock.aF}(h:Fv b m)(hs:Sv b s)(hσ:σ≠[]):bG T (.call false dN [.agg [.int .i64 b.f.x,.int .i64 b.f.y,.int .i64 b.f.z,.int .i64 b.f.k,.aE b.bY.length (b.bY.flatMap Rw.enc),.int .i64 b.aS,.int .i64 b.lift,.int .i64 b.deep,.aE b.af.length (b.af.flatMap aT.enc),.str m.name,.aE m.aP.length (m.aP.flatMap bx)],.aE s.length (s.flatMap aF.enc)] σ)=some (.val (.aE (bh b m s).length ((bh b m s).flatMap bx)) σ):=by
 refine aA pS fx.eq_1 rfl ?_;simp[-length_flatMap,-map_take,bg,aH,aV];refine WL.to (vY (σ:=σ) h hs s.length 0 0 (by omega)) (by simp) (by simp) ?_;rintro x e σ' ⟨rfl,g4,rfl⟩;simp[-length_flatMap,-map_take,g4];rw[qd (f:=bx) (by decide) (fun _=>rfl) (fun x=>by simp) hσ (by simp)];simp
theorem BZ{x:Rock.aF}:bG T (.call false eL [.agg x.enc] σ)=some (.val (.bool x.valid) σ):=by
 refine aA tU jJ.eq_1 rfl ?_;cases hc1:cK x.m 1 1000000
 ·simp[-length_flatMap,-map_take,dG,Rock.aF.valid,hc1]
 cases hc2:cK x.h 0 10000000000
 ·simp[-length_flatMap,-map_take,dG,Rock.aF.valid,hc1,hc2]
 cases hc3:cK x.k 0 1000000000000
 ·simp[-length_flatMap,-map_take,dG,Rock.aF.valid,hc1,hc2,hc3]
 simp[-length_flatMap,-map_take,dG,Rock.aF.valid,hc1,hc2,hc3]
theorem zr{x q m A:Int}(hm:1≤m)(hx:0≤x∧x≤A)(hq:0≤q∧q≤m):0≤(x*q).tdiv m∧(x*q).tdiv m≤A:=by
 have h1:=oI hx.1 hq.1;rw[bE h1];refine⟨Int.ediv_nonneg h1 (by omega),Int.ediv_le_of_le_mul (by omega) ?_⟩;exact r7 hx.2 hq.2 hq.1 (by omega)
theorem Fw{x:Rock.aF}{q:Int}(hm:1≤x.m∧x.m≤1000000)(hh:0≤x.h∧x.h≤10000000000)(hk:0≤x.k∧x.k≤1000000000000)(hq:0≤q∧q≤x.m):
  bG T (.call false gr [.agg x.enc,.int .i64 q] σ)=some (.val (.agg (x.out q).enc) σ):=by
 refine aA vt ln.eq_1 rfl ?_;have b1:=mq hh.1 hh.2 hq.1 (show q≤1000000 by omega);have b2:=mq hk.1 hk.2 hq.1 (show q≤1000000 by omega);have b3:=zr hm.1 hh hq;have b4:=zr hm.1 hk hq;have w1:=eW (n:=x.h*q) (by omega);have w2:=eW (n:=x.k*q) (by omega);have w3:=eW (n:=(x.h*q).tdiv x.m) (by omega);have w4:=eW (n:=(x.k*q).tdiv x.m) (by omega);have hne:¬x.m=0:=by omega
 simp[-length_flatMap,-map_take,w1,w2,w3,w4,hne,Rock.aF.out]
def sm(x:Rock.aF)(n:Int):Prop:=(-n≤x.m∧x.m≤n)∧(-n≤x.h∧x.h≤n)∧(-n≤x.k∧x.k≤n)
theorem xb{F:List Abs.aF}{j v i:Nat}{s:List Rock.aF}{x o:Rock.aF}{sign:Int}(hF:F[j]?=some (.cells v (s.flatMap aF.enc)))(hx:s[i]?=some x)(h1:sm x 1000000000000000000)(h2:sm o 1000000000000000000)(hs:sign=1∨sign = -1):
  bG T (.call false bB [.ref σ.length j v (i*3),.agg o.enc,.int .i64 sign] (F::σ))=some (.val (.fj []) (F.set j (.cells v ((dE s i o sign).flatMap aF.enc))::σ)):=by
 refine mA uE kD.eq_1 rfl (by simp) ?_;obtain⟨a1,a2,a3⟩:=h1;obtain⟨c1,c2,c3⟩:=h2;have hi:i<s.length:=(an.1 hx).1;obtain⟨A,B,hA,hAB⟩:∃A B:List D,A.length=i*3∧s.flatMap aF.enc=A++(x.enc++B):=by
  have hd:=xN (f:=aF.enc) (w:=3) (fun _=>rfl) hx;have hlen:=wQ s;refine⟨(s.flatMap aF.enc).take (i*3),(s.flatMap aF.enc).drop (i*3+3),by rw[bO];omega,?_⟩;rw[← hd,List.take_append_drop]
 have hset:(dE s i o sign).flatMap aF.enc=A++((x.move o sign).enc++B):=by
  have h3:=DQ (f:=aF.enc) (w:=3) (fun _=>rfl) (x:=x.move o sign) hi;have hblk:aZ s i=x:=by simp[aZ,hx]
  rw[dE,hblk,← h3,hAB];have e1:(A++(x.enc++B)).take (i*3)=A:=by rw[← hA];simp
  have e2:(A++(x.enc++B)).drop (i*3+3)=B:=by
   rw[← gw,← hA];simp
  rw[e1,e2]
 rw[hAB]at hF;rw[hset];have hj:j<F.length:=(an.1 hF).1;have gs:∀X:Abs.aF,(F.set j X)[j]?=some X:=fun X=>by simp[hj]
 clear hset hAB hx hj;have t1:∀L:List D,(A++L).take (A.length+1)=A++L.take 1:=fun L=>by rw[List.take_length_add_append]
 have t2:∀L:List D,(A++L).take (A.length+1+1)=A++L.take 2:=fun L=>by rw[cH,List.take_length_add_append]
 have d2:∀L:List D,(A++L).drop (A.length+1+1)=L.drop 2:=fun L=>by rw[cH,bL]
 have d1:∀L:List D,(A++L).drop (A.length+1)=L.drop 1:=fun L=>by rw[bL]
 have d3:∀L:List D,(A++L).drop (A.length+1+1+1)=L.drop 3:=fun L=>by rw[cH,cH,bL]
 have k1:A.length+1+1≤A.length+(B.length+1+1+1):=by omega
 have k2:A.length+1+1+1≤A.length+(B.length+1+1+1):=by omega
 have k3:A.length+1≤A.length+(B.length+1+1+1):=by omega
 have k4:A.length+2+1≤A.length+(B.length+1+1+1):=by omega
 have d4:∀L:List D,(A++L).drop (A.length+2)=L.drop 2:=fun L=>by rw[bL]
 have d5:∀L:List D,(A++L).drop (A.length+2+1)=L.drop 3:=fun L=>by rw[cH,bL]
 have t4:∀L:List D,(A++L).take (A.length+2)=A++L.take 2:=fun L=>by rw[List.take_length_add_append]
 have y1:=eW (n:=o.m) (by omega);have y2:=eW (n:=o.h) (by omega);have y3:=eW (n:=o.k) (by omega);have y4:=eW (n := -o.m) (by omega);have y5:=eW (n := -o.h) (by omega);have y6:=eW (n := -o.k) (by omega);rcases hs with rfl | rfl
 ·have w1:=eW (n:=x.m+o.m) (by omega);have w2:=eW (n:=x.h+o.h) (by omega);have w3:=eW (n:=x.k+o.k) (by omega);simp[-length_flatMap,-map_take,hF,gs,← hA,w1,w2,w3,y1,y2,y3,t1,t2,t4,d1,d2,d3,d4,d5,k1,k2,k3,k4,Rock.aF.move]
 ·have w1:=eW (n:=x.m + -o.m) (by omega);have w2:=eW (n:=x.h + -o.h) (by omega);have w3:=eW (n:=x.k + -o.k) (by omega);simp[-length_flatMap,-map_take,hF,gs,← hA,w1,w2,w3,y4,y5,y6,t1,t2,t4,d1,d2,d3,d4,d5,k1,k2,k3,k4,Rock.aF.move]
theorem Kg{w:aT}{r:Int}(hr : -100000≤r∧r≤100000)(h1:0≤w.h∧w.h≤3000)(h2:0≤w.m∧w.m≤1000000):
  bG T (.call false iF [.agg w.enc,.int .i64 r] σ)=some (.val (.agg (w.given r).enc) σ):=by
 refine aA uF kF.eq_1 rfl ?_;have b1 : -300000000≤r*w.h∧r*w.h≤300000000:=by
  rcases jA 0 r with h | h
  ·have:=mq h hr.2 h1.1 h1.2;omega
  ·have:=mq (a := -r) (A:=100000) (by omega) (by omega) h1.1 h1.2;rw[Int.neg_mul]at this;omega
 have b2 : -100000000000≤r*w.m∧r*w.m≤100000000000:=by
  rcases jA 0 r with h | h
  ·have:=mq h hr.2 h2.1 h2.2;omega
  ·have:=mq (a := -r) (A:=100000) (by omega) (by omega) h2.1 h2.2;rw[Int.neg_mul]at this;omega
 have w1:=eW (n := -r) (by omega);have w2:=eW (n := -(r*w.h)) (by omega);have w3:=eW (n := -(r*w.m)) (by omega);simp[-length_flatMap,-map_take,w1,w2,w3,aT.given,Int.neg_mul]
theorem Xh{b:bC}{m:bV}(h:Fv b m){i:Nat}(hi:i<b.n):bG T (.call false iG [.agg [.int .i64 b.f.x,.int .i64 b.f.y,.int .i64 b.f.z,.int .i64 b.f.k,.aE b.bY.length (b.bY.flatMap Rw.enc),.int .i64 b.aS,.int .i64 b.lift,.int .i64 b.deep,.aE b.af.length (b.af.flatMap aT.enc),.str m.name,.aE m.aP.length (m.aP.flatMap bx)],.int .i64 i] σ)=some (.val (.agg (Cq b m i).enc) σ):=by
 refine aA uG kG.eq_1 rfl ?_;have hf:=fun σ=>TW (σ:=σ) h.toMv hi
 have b1:=h.feed i hi;have b2:=h.bv.deep;have b3:=mq b1.1 b1.2 b2.1 b2.2;have w1:=eW (n:=feed b m i*b.deep) (by omega);simp[-length_flatMap,-map_take,hf,w1,Cq]
theorem Kb{s:List Rock.aF}{bs:List Abs.aF}(hl:s.length≤1000000)(hne:s≠[]):bG T (.call true bJ [.aE s.length (s.flatMap aF.enc)] (bs::σ)) =
  some (.val (.sl σ.length (bs.length+1) 1 0 s.length 3) ((bs++[.cells 0 [],.cells 1 (s.flatMap aF.enc)])::σ)):=by
 refine uJ lF cg.eq_1 rfl ?_;have h7:s.length*24≤room:=by unfold room;omega
 simp[-length_flatMap,-map_take,hne,wQ,h7]
theorem Kj{b:bC}:bG T (.call false jm [.agg [.int .i64 b.f.x,.int .i64 b.f.y,.int .i64 b.f.z,.int .i64 b.f.k,.aE b.bY.length (b.bY.flatMap Rw.enc),.int .i64 b.aS,.int .i64 b.lift,.int .i64 b.deep,.aE b.af.length (b.af.flatMap aT.enc)]] σ)=some (.val (.fn eJ [] [.aK [.int .i64 b.f.x,.int .i64 b.f.y,.int .i64 b.f.z,.int .i64 b.f.k,.aE b.bY.length (b.bY.flatMap Rw.enc),.int .i64 b.aS,.int .i64 b.lift,.int .i64 b.deep,.aE b.af.length (b.af.flatMap aT.enc)]]) σ):=by
 refine aA vo lj.eq_1 rfl ?_;simp[-length_flatMap,-map_take,bg,aH,aV]
theorem Bv.xy{b:bC}(h:Bv b):b.f.x=(b.f.x.toNat:Int)∧b.f.y=(b.f.y.toNat:Int)∧1≤b.f.x.toNat*b.f.y.toNat∧b.f.x.toNat*b.f.y.toNat≤64:=by
 have hx:=h.x;have hy:=h.y;obtain⟨s1,_⟩:=ej.sz h.x h.y h.z;have e1:b.f.x*b.f.y=((b.f.x.toNat*b.f.y.toNat:Nat):Int):=by push_cast;rw[cf (by omega),cf (by omega)]
 rw[e1]at s1;refine⟨by omega,by omega,by omega,by omega⟩
theorem Bv.nat{b:bC}(h:Bv b):b.n=b.f.x.toNat*b.f.y.toNat*b.f.z.toNat∧1≤b.f.x.toNat∧1≤b.f.y.toNat:=by
 have hx:=h.x;have hy:=h.y;have hz:=h.z;have hs:=h.sz;refine⟨?_,by omega,by omega⟩;have:((b.f.x.toNat*b.f.y.toNat*b.f.z.toNat:Nat):Int)=b.f.size:=by
  push_cast;rw[cf (by omega),cf (by omega),cf (by omega)];rfl
 omega
theorem Tl{X W i n:Nat}(hn:n=X*W)(hi:i<n)(hc:(i+1)%X≠0):i+1<n:=by
 rcases Nat.lt_or_ge (i+1) n with h | h
 ·exact h
 ·have:i+1=X*W:=by omega
  rw[this,Nat.mul_mod_right]at hc;exact absurd rfl hc
theorem link2{X Y Z i n:Nat}(hX:1≤X)(hY:1≤Y)(hn:n=X*Y*Z)(hi:i<n)(hc:i / X%Y≠Y-1):i+X<n:=by
 have h1:i / X<Y*Z:=by rw[Nat.div_lt_iff_lt_mul hX,Nat.mul_comm,← Nat.mul_assoc];omega
 have h2:i / X+1<Y*Z:=by
  rcases Nat.lt_or_ge (i / X+1) (Y*Z)with h | h
  ·exact h
  ·exfalso
   have h3:i / X+1=Y*Z:=by omega
   have hZ:1≤Z:=by
    rcases Nat.eq_zero_or_pos Z with h0 | h0
    ·subst h0;omega
    ·exact h0
   have h4:i / X=Y*(Z-1)+(Y-1):=by
    have:Y*Z=Y*(Z-1)+Y:=by rw[← Nat.mul_succ];congr 1;omega
    omega
   rw[h4,Nat.mul_add_mod,Nat.mod_eq_of_lt (by omega)]at hc;exact hc rfl
 have h3:i<(i / X+1)*X:=by
  have:=Nat.div_add_mod i X;have h4:=Nat.mod_lt i (show X>0 by omega);rw[eo,Nat.one_mul,Nat.mul_comm (i / X) X];omega
 have h5:(i / X+1)*X+X≤n:=by
  have:(i / X+1+1)*X≤Y*Z*X:=bW _ h2;rw[eo (i / X+1) 1 X,Nat.one_mul,Nat.mul_comm (Y*Z) X,← Nat.mul_assoc]at this;omega
 omega
theorem Dk{b:bC}(h:Bv b){lv j N:Nat}{St:List (Nat×Nat)→SK}(hN:∀pre,(St pre).length=N)
  (hR:∀pre,∀l:Nat×Nat,l.1<b.n→l.2<b.n→l.1≠l.2→bG T (.round lv j [.agg [.int .i64 l.1,.int .i64 l.2]] ([]::St pre))=some (.val (.bool true) ([]::St (pre++[l])))):∀(n i:Nat) (pre:List (Nat×Nat)),i+n=b.n →
  WL T [0,1,3,4,13,14] false gL [(0,.iN lv j),(1,.aK [.int .i64 b.f.x,.int .i64 b.f.y,.int .i64 b.f.z,.int .i64 b.f.k,.aE b.bY.length (b.bY.flatMap Rw.enc),.int .i64 b.aS,.int .i64 b.lift,.int .i64 b.deep,.aE b.af.length (b.af.flatMap aT.enc)]),(3,.int .i64 b.f.x),(4,.int .i64 b.f.y),(13,.int .i64 b.n),(14,.int .i64 i)] ([]::St pre)
   (fun x e σ'=>σ'=[]::St (pre++((List.range b.n).drop i).flatMap (oC b))∧x=.exit 0)
 |0,i,pre,hi=>by
  refine aB gL.eq_1 ?_;have h1:¬i<b.n:=by omega
  have h2:(List.range b.n).drop i=[]:=az (by simp;omega);simp[-length_flatMap,-map_take,h1,h2]
 |n+1,i,pre,hi=>by
  refine aB gL.eq_1 ?_;have h1:i<b.n:=by omega
  have hn:=h.n;have hx:=h.x;have hy:=h.y;obtain⟨eX,eY,p1,p2⟩:=h.xy;have h4:=db h1 (by omega);have hs:=fun σ=>rZ (σ:=σ) h
  have h5:(List.range b.n).drop i=i::(List.range b.n).drop (i+1):=cO (by simp[h1]);have w1:=eW (n:=b.f.x*b.f.y) (by rw[eX,eY];omega);obtain⟨hnn,X1,Y1⟩:=h.nat;have hx0:¬b.f.x=0:=by omega
  have hy0:¬b.f.y=0:=by omega
  have ih:=fun pre=>Dk h hN hR n (i+1) pre (by omega)
  have e1:((i:Int)+1).tmod b.f.x=(((i+1)%b.f.x.toNat:Nat):Int):=by
   conv=>lhs;rw[eX]
   rfl
  have e2:(i:Int) / b.f.x=((i / b.f.x.toNat:Nat):Int):=by
   conv=>lhs;rw[eX]
   rfl
  have e2b:(i:Int).tdiv b.f.x=((i / b.f.x.toNat:Nat):Int):=by
   conv=>lhs;rw[eX]
   rfl
  have e3:((i / b.f.x.toNat:Nat):Int).tmod b.f.y=((i / b.f.x.toNat%b.f.y.toNat:Nat):Int):=by
   conv=>lhs;rw[eY]
   rfl
  have e4:b.f.x*b.f.y=((b.f.x.toNat*b.f.y.toNat:Nat):Int):=by
   conv=>lhs;rw[eX,eY]
   rfl
  have hq:i / b.f.x.toNat≤i:=Nat.div_le_self _ _;have hr1:(i+1)%b.f.x.toNat≤i+1:=Nat.mod_le _ _;have hr2:i / b.f.x.toNat%b.f.y.toNat≤i / b.f.x.toNat:=Nat.mod_le _ _;have l1:=Tl (W:=b.f.y.toNat*b.f.z.toNat) (by rw[hnn,Nat.mul_assoc]) h1;have l2:=link2 (Z:=b.f.z.toNat) X1 Y1 hnn h1;have R1:=fun pre hc=>hR pre (i,i+1) h1 (l1 hc) (by simp)
  have R2:=fun pre hc=>hR pre (i,i+b.f.x.toNat) h1 (l2 hc) (by simp;omega)
  have R3:=fun pre hc=>hR pre (i,i+b.f.x.toNat*b.f.y.toNat) h1 hc (by simp;omega)
  have z2:((i+b.f.x.toNat:Nat):Int)=(i:Int)+b.f.x:=by omega
  have z3:((i+b.f.x.toNat*b.f.y.toNat:Nat):Int)=(i:Int)+b.f.x*b.f.y:=by rw[e4];omega
  have z1:((i+1:Nat):Int)=(i:Int)+1:=rfl;simp only[z1,z2,z3]at R1 R2 R3;generalize hA:i / b.f.x.toNat=A at *
  generalize hB:A%b.f.y.toNat=B at *
  generalize hC:(i+1)%b.f.x.toNat=C at *
  generalize hP:b.f.x.toNat*b.f.y.toNat=P at *
  have v1:=eW (n:=(A:Int)) (by omega);have v2:=eW (n:=(B:Int)) (by omega);have v3:=eW (n:=(C:Int)) (by omega);have v4:=eW (n:=b.f.y-1) (by omega);have v5:=eW (n:=(i:Int)+b.f.x) (by omega);have v6:=eW (n:=(i:Int)+b.f.x*b.f.y) (by rw[e4];omega);have v7:=eW (n:=b.f.x*b.f.y) (by rw[e4];omega);have c3:((i:Int)+b.f.x*b.f.y<(b.n:Int))↔(i+P<b.n):=by rw[e4];omega
  have hL:oC b i=(if C≠0 then [(i,i+1)]else [])++((if B≠b.f.y.toNat-1 then [(i,i+b.f.x.toNat)]else [])++(if i+P<b.n then [(i,i+P)]else [])):=by
   unfold oC;rw[hC,hA,hB,hP]
  rw[h5,bk,hL];clear hL hnn l1 l2;have t1:((C:Int)=0)↔(C=0):=by omega
  have t2:((B:Int)=b.f.y-1)↔(B=b.f.y.toNat-1):=by omega
  by_cases k1:C=0<;>by_cases k2:B=b.f.y.toNat-1<;>by_cases k3:i+P<b.n;all_goals
   first | (have u1:=t1.2 k1) | (have u1:=mt t1.1 k1)
   first | (have u2:=t2.2 k2) | (have u2:=mt t2.1 k2)
   have ih':=ih (pre++((if C≠0 then [(i,i+1)]else [])++((if B≠b.f.y.toNat-1 then [(i,i+b.f.x.toNat)]else [])++(if i+P<b.n then [(i,i+P)]else []))));first
    |(rw[if_neg (not_not_intro k1)]at ih' ⊢) | (rw[if_pos k1]at ih' ⊢)
   first
    |(rw[if_neg (not_not_intro k2)]at ih' ⊢) | (rw[if_pos k2]at ih' ⊢)
   first
    |(rw[if_neg k3]at ih' ⊢) | (rw[if_pos k3]at ih' ⊢)
   have g1:=fun pre=>R1 pre
   have g2:=fun pre=>R2 pre
   have g3:=fun pre=>R3 pre
   first | (have g1:=fun pre=>R1 pre k1) | skip
   first | (have g2:=fun pre=>R2 pre k2) | skip
   first | (have g3:=fun pre=>R3 pre k3) | skip
   simp[-length_flatMap,-map_take,h1,h4,hx0,hy0,e1,e2,e2b,e3,v1,v2,v3,v4,v5,v6,v7,c3,u1,u2,k1,k3,hs,g1,g2,g3];refine WL.to ih' (by simp) (by simp) fun x e σ hh=>by simpa using hh
theorem Fs{b:bC}(h:Bv b){lv j N:Nat}{St:List (Nat×Nat)→SK}(hN:∀pre,(St pre).length=N)
  (hR:∀pre,∀l:Nat×Nat,l.1<b.n→l.2<b.n→l.1≠l.2→bG T (.round lv j [.agg [.int .i64 l.1,.int .i64 l.2]] ([]::St pre))=some (.val (.bool true) ([]::St (pre++[l])))):
  bG T (.call false eJ [.iN lv j,.aK [.int .i64 b.f.x,.int .i64 b.f.y,.int .i64 b.f.z,.int .i64 b.f.k,.aE b.bY.length (b.bY.flatMap Rw.enc),.int .i64 b.aS,.int .i64 b.lift,.int .i64 b.deep,.aE b.af.length (b.af.flatMap aT.enc)]] (St []))=some (.val (.fj []) (St (oj b))):=by
 refine mA tR jG.eq_1 rfl (by rw[hN,hN]) ?_;have hs:=fun σ=>rZ (σ:=σ) h
 simp[-length_flatMap,-map_take,hs];refine WL.to (Dk h hN hR b.n 0 [] (by omega)) (by simp) rfl ?_;rintro x e σ' ⟨rfl,rfl⟩;simp[-length_flatMap,-map_take,oj]
def uz(es:List ((Nat×Nat)×Rock.aF)):List D:=es.map fun e => .fj [.agg [.int .i64 e.1.1,.int .i64 e.1.2],.agg e.2.enc]
def WE:Ky:=some (true,[some .i64,some .i64])
theorem Zx{a b:Nat×Nat}:oh WE (.agg [.int .i64 a.1,.int .i64 a.2]) (.agg [.int .i64 b.1,.int .i64 b.2])=some (b == a):=by
 simp only[oh,WE,D.row,pV,and_self,if_true,aM,Bool.and_true];congr 1;rw[Bool.eq_iff_iff];simp only[ak,beq_iff_eq];constructor
 ·rintro⟨h1,h2⟩;exact Prod.ext (by omega) (by omega)
 ·rintro rfl;exact⟨rfl,rfl⟩
theorem A9{k:Nat×Nat}:∀{es:List ((Nat×Nat)×Rock.aF)},∃r,nq WE (.agg [.int .i64 k.1,.int .i64 k.2]) (uz es)=some r∧r.map Prod.fst=es.findIdx? (fun e=>e.1 == k)
 |[]=>⟨none,rfl,rfl⟩
 |e::es=>by
  obtain⟨r,h1,h2⟩:=A9 (k:=k) (es:=es);simp only[uz,aG]at h1 ⊢;simp only[nq,Zx];cases hk:e.1 == k
  ·refine⟨_,by rw[h1];rfl,?_⟩;rw[List.findIdx?_cons,hk,← h2];cases r<;>rfl
  ·exact⟨_,rfl,by rw[List.findIdx?_cons,hk];rfl⟩
theorem Jo{S:SK}{l i:Nat}{es:List ((Nat×Nat)×Rock.aF)}{k:Nat×Nat}{o:Rock.aF}(h:cells? S l i 0=some (uz es)):
  vk S (.put WE) [.iN l i,.agg [.int .i64 k.1,.int .i64 k.2],.agg o.enc]=some (.undef,aN S l i (.cells 0 (uz (BF es k o)))):=by
 obtain⟨r,h1,h2⟩:=A9 (k:=k) (es:=es);simp only[vk,tE,h,aM,h1,Zx,Option.isSome_some,true_and];rw[if_pos (.inr ⟨by simp[D.clean],by simp[D.clean]⟩)];unfold BF;rw[← h2];cases r with
 |none=>simp[uz]
 |some y=>simp[uz,List.map_set]
theorem xY{x:Rock.aF}{A:Int}(hA:10000≤A):∀(t:List Rw) (o:Int),(∀r∈t,r.alone=true)→(0≤o∧o≤A)→0≤t.foldl (ka x) o∧t.foldl (ka x) o≤A
 |[],o,_,h=>h
 |r::t,o,ht,h=>by
  have h1:=Jx (ht r (by simp));refine xY hA t _ (fun r hr=>ht r (by simp[hr])) ?_;unfold ka;split<;>omega
theorem D3{b:bC}{m:bV}{s:List Rock.aF}(h:Fv b m)(hs:Sv b s){i:Nat}(hi:i<b.n):0≤gH b m s i∧gH b m s i≤200000000000:=by
 have htab:=h.bv.bY;simp only[oq,ak]at htab;refine xY (by omega) _ _ (jW.1 htab.2.1) ?_;have b5:=sQ h.bv hi;have b1:=h.hold i hi;obtain⟨hx,b2,b3,b4⟩:=hs.at hi;have hst:=h.bv.aS;have b6:b.aS*((aZ s i).m-hold b m i)≤100000000000:=by
  rcases jA (hold b m i) (aZ s i).m with hh | hh
  ·have:=mq (a:=b.aS) (b:=(aZ s i).m-hold b m i) (A:=100000) (B:=1000000) (by omega) hst.2 (by omega) (by omega);omega
  ·have:=mq (a:=b.aS) (b:=hold b m i-(aZ s i).m) (A:=100000) (B:=1000000) (by omega) hst.2 (by omega) (by omega);have e:b.aS*((aZ s i).m-hold b m i) = - (b.aS*(hold b m i-(aZ s i).m)):=by rw[← Int.mul_neg];congr 1;omega
   omega
 have b7:down (b.aS*((aZ s i).m-hold b m i)) (hold b m i)≤100000000000:=by
  unfold down;have:=Int.ediv_le_self (b:=hold b m i) (a:=b.aS*((aZ s i).m-hold b m i));rcases jA 0 (b.aS*((aZ s i).m-hold b m i))with hh | hh
  ·have:=this hh;omega
  ·have:=Int.ediv_le_of_le_mul (b:=0) (show 0<hold b m i by omega) (by omega:b.aS*((aZ s i).m-hold b m i)≤0*hold b m i);omega
 omega
theorem xj{O:bd}{c c':bQ}(hc:c=c'){e:Env}{σ:SK}{Q:Abs.Exit→Env→SK→Prop}:WC O c e σ Q .mk .mk=WC O c' e σ Q .mk .mk:=by subst hc;rfl
def EI(b:bC)(m:bV)(s:List Rock.aF)(L:Nat):oJ :=
 {state:=0,oV:=none,env:=[(2,.aK [.int .i64 b.f.x,.int .i64 b.f.y,.int .i64 b.f.z,.int .i64 b.f.k,.aE b.bY.length (b.bY.flatMap Rw.enc),.int .i64 b.aS,.int .i64 b.lift,.int .i64 b.deep,.aE b.af.length (b.af.flatMap aT.enc),.str m.name,.aE m.aP.length (m.aP.flatMap bx)]),(3,.aK [.aE s.length (s.flatMap aF.enc)]),(4,.undef),(5,.ref L 3 0 0),(6,.ref L 4 0 0)],params:=[18],q8:=fw,body:=ck }
def E2(A B:Abs.aF)(b:bC)(m:bV)(s:List Rock.aF)(σ:SK)(es:List ((Nat×Nat)×Rock.aF)):SK :=
 [A,B,.cells 0 (uz es),.cells 0 [.iN σ.length 2],.cells 0 [.aE (bh b m s).length ((bh b m s).flatMap bx)],.loop (EI b m s σ.length)]::σ
theorem Uc{A B:Abs.aF}{b:bC}{m:bV}{s:List Rock.aF}(h:Fv b m)(hs:Sv b s)(es:List ((Nat×Nat)×Rock.aF))(l:Nat×Nat)(h1:l.1<b.n)(h2:l.2<b.n):
  bG T (.round σ.length 5 [.agg [.int .i64 l.1,.int .i64 l.2]] ([]::E2 A B b m s σ es))=some (.val (.bool true) ([]::E2 A B b m s σ (iD b m s (bh b m s) es l))):=by
 have hn:=h.bv.n;have hl:=hs.len;have hp1:(bh b m s)[l.1]?=some (gH b m s l.1):=by simp[bh,hl,h1]
 have hp2:(bh b m s)[l.2]?=some (gH b m s l.2):=by simp[bh,hl,h2]
 have a1:=nS hp1;have a2:=nS hp2;have hpl:(bh b m s).length=b.n:=by rw[Af,hl]
 have bp1:=D3 h hs h1;have bp2:=D3 h hs h2;have bw1:=sQ h.bv h1;have bw2:=sQ h.bv h2;have cw1:=fun σ=>xc (σ:=σ) (m:=m) h.bv h1
 have cw2:=fun σ=>xc (σ:=σ) (m:=m) h.bv h2
 have co1:=fun σ=>Fu (σ:=σ) h.toMv h1
 have co2:=fun σ=>Fu (σ:=σ) h.toMv h2
 have bo1:=h.yL l.1 h1;have bo2:=h.yL l.2 h2;obtain⟨x1,m1,m2,m3⟩:=hs.at h1;obtain⟨y1,n1,n2,n3⟩:=hs.at h2;have f1:=cE (f:=aF.enc) (w:=3) (fun _=>rfl) x1;have f2:=cE (f:=aF.enc) (w:=3) (fun _=>rfl) y1;have w1:=eW (n:=gH b m s l.1-weight b l.1) (by omega);have w2:=eW (n:=gH b m s l.1-weight b l.1-gH b m s l.2) (by omega);have w3:=eW (n:=gH b m s l.1-weight b l.1-gH b m s l.2+weight b l.2) (by omega);have hL1:l.1<s.length:=by omega
 have hL2:l.2<s.length:=by omega
 have hE:iD b m s (bh b m s) es l=iD b m s (bh b m s) es l:=rfl
 conv at hE=>rhs;unfold iD vF
 simp only[hp1,hp2,dK]at hE;generalize iD b m s (bh b m s) es l=es' at *
 have hmin:0≤min (yL b m l.2) (yL b m l.1)∧min (yL b m l.2) (yL b m l.1)≤1000:=by omega
 have hmin':0≤min (yL b m l.1) (yL b m l.2)∧min (yL b m l.1) (yL b m l.2)≤1000:=by omega
 generalize hw1:weight b l.1=W1 at *
 generalize hw2:weight b l.2=W2 at *
 generalize hq1:gH b m s l.1=P1 at *
 generalize hq2:gH b m s l.2=P2 at *
 generalize hD:P1-W1-P2+W2=d at *
 refine BG (lp:=EI b m s σ.length) (by simp[E2]) rfl ?_;rw[show(EI b m s σ.length).q8=fw from rfl,fw.eq_1,show(EI b m s σ.length).body=ck from rfl];by_cases hd:d<0
 ·simp only[hd,if_true]at hE;have b3:=mq hmin.1 hmin.2 (show 0 ≤ -d by omega) (show -d≤1000000000000 by omega);have w4:=eW (n := -d) (by omega);have d1:=bE (b:=1000) b3.1;have d2:=bE (b:=8) (show 0≤(aZ s l.2).m by omega);generalize hX:min (yL b m l.2) (yL b m l.1) * -d=X at *
  have w5:=eW (n:=X) (by omega);generalize hY:X.tdiv 1000=Y at *
  generalize hZ:(aZ s l.2).m.tdiv 8=Z at *
  have w6:=eW (n:=Y) (by rw[d1];omega);have w7:=eW (n:=Z) (by rw[d2];omega);by_cases hq:0<min Y Z
  ·have hO:=fun σ=>Fw (σ:=σ) (q:=min Y Z) n1 n2 n3 ⟨by omega,by rw[d2];omega⟩
   have hP:=fun S h=>Jo (S:=S) (l:=σ.length) (i:=2) (es:=es) (k:=(l.2,l.1)) (o:=(aZ s l.2).out (min Y Z)) h
   rw[if_pos hq]at hE;simp only at hE;subst hE;generalize (aZ s l.2).out (min Y Z)=O at *
   simp only[aF.enc]at hO;simp only[aF.enc,WE]at hP;simp[-length_flatMap,-map_take,xj ck.eq_1,EI,E2,EN,hpl,h1,h2,a1,a2,cw1,cw2,w1,w2,w3,hD,hd,co1,co2,hL1,hL2,f1,f2,w4,w5,w6,w7,hX,hY,hZ,hq,hO,hP]
  ·rw[if_neg hq]at hE;simp only at hE;subst hE;simp[-length_flatMap,-map_take,xj ck.eq_1,EI,E2,EN,hpl,h1,h2,a1,a2,cw1,cw2,w1,w2,w3,hD,hd,co1,co2,hL1,hL2,f1,f2,w4,w5,w6,w7,hX,hY,hZ,hq]
 ·simp only[hd,if_false]at hE;have b3:=mq hmin'.1 hmin'.2 (show 0≤d by omega) (show d≤1000000000000 by omega);have w4:=eW (n:=d) (by omega);have d1:=bE (b:=1000) b3.1;have d2:=bE (b:=8) (show 0≤(aZ s l.1).m by omega);generalize hX:min (yL b m l.1) (yL b m l.2)*d=X at *
  have w5:=eW (n:=X) (by omega);generalize hY:X.tdiv 1000=Y at *
  generalize hZ:(aZ s l.1).m.tdiv 8=Z at *
  have w6:=eW (n:=Y) (by rw[d1];omega);have w7:=eW (n:=Z) (by rw[d2];omega);by_cases hq:0<min Y Z
  ·have hO:=fun σ=>Fw (σ:=σ) (q:=min Y Z) m1 m2 m3 ⟨by omega,by rw[d2];omega⟩
   have hP:=fun S h=>Jo (S:=S) (l:=σ.length) (i:=2) (es:=es) (k:=l) (o:=(aZ s l.1).out (min Y Z)) h
   rw[if_pos hq]at hE;simp only at hE;subst hE;generalize (aZ s l.1).out (min Y Z)=O at *
   simp only[aF.enc]at hO;simp only[aF.enc,WE]at hP;simp[-length_flatMap,-map_take,xj ck.eq_1,EI,E2,EN,hpl,h1,h2,a1,a2,cw1,cw2,w1,w2,w3,hD,hd,co1,co2,hL1,hL2,f1,f2,w4,w5,w6,w7,hX,hY,hZ,hq,hO,hP]
  ·rw[if_neg hq]at hE;simp only at hE;subst hE;simp[-length_flatMap,-map_take,xj ck.eq_1,EI,E2,EN,hpl,h1,h2,a1,a2,cw1,cw2,w1,w2,w3,hD,hd,co1,co2,hL1,hL2,f1,f2,w4,w5,w6,w7,hX,hY,hZ,hq]
theorem Kf{A B:Abs.aF}{b:bC}{m:bV}{s:List Rock.aF}(h:Fv b m)(hs:Sv b s):∃X Y Z:Abs.aF,
  bG T (.call true fM [.agg [.int .i64 b.f.x,.int .i64 b.f.y,.int .i64 b.f.z,.int .i64 b.f.k,.aE b.bY.length (b.bY.flatMap Rw.enc),.int .i64 b.aS,.int .i64 b.lift,.int .i64 b.deep,.aE b.af.length (b.af.flatMap aT.enc),.str m.name,.aE m.aP.length (m.aP.flatMap bx)],.aE s.length (s.flatMap aF.enc)] ([A,B]::σ))=some (.val (.iN σ.length 2) ([A,B,.cells 0 (uz (nr b m s)),X,Y,Z]::σ)):=by
 refine⟨.cells 0 [.iN σ.length 2],.cells 0 [.aE (bh b m s).length ((bh b m s).flatMap bx)],.loop {EI b m s σ.length with state:=3 },?_⟩;refine uJ tA iZ.eq_1 rfl ?_;have hp:=fun σ hσ=>AJ (σ:=σ) h hs hσ
 have hl:=Fs (b:=b) h.bv (lv:=σ.length) (j:=5) (N:=σ.length+1) (St:=fun pre=>E2 A B b m s σ (pre.foldl (iD b m s (bh b m s)) [])) (fun pre=>by simp[E2])
  (fun pre l h1 h2 _=>by rw[List.foldl_append];exact Uc h hs _ l h1 h2)
 have hm:vk ([A,B]::σ) .make []=some (.iN σ.length 2,[A,B,.cells 0 (uz [])]::σ):=by simp[vk,uz]
 simp[-length_flatMap,-map_take,hp,Kj,bg,aH,aV,xA,hm];refine Dx (d:=.fj []) (σ2:=E2 A B b m s σ (nr b m s)) (lp:=EI b m s σ.length) (by simp;exact⟨rfl,rfl,rfl⟩) ?_ (by simp[E2]) (by simp[EI]) ?_
 ·simpa[EI,E2,nr]using hl
 ·simp[-length_flatMap,-map_take,EI,E2]
end Go.Proofs.YtcgippbplkagkaaGreat
namespace Go.Proofs.YtcgippbplkagkaaGreat
open List(length_flatMap map_take)
open Go Go.Abs Go.Rock
def rO(N:Int)(s:List Rock.aF):Prop:=∀x∈s,sm x N
theorem fG{x:Rock.aF}{N M:Int}(h:sm x N)(hN:N≤M):sm x M:=by
 obtain⟨h1,h2,h3⟩:=h;exact⟨⟨by omega,by omega⟩,⟨by omega,by omega⟩,⟨by omega,by omega⟩⟩
theorem xp{N:Int}{s:List Rock.aF}(h:rO N s){i:Nat}(hi:i<s.length):s[i]?=some (aZ s i)∧sm (aZ s i) N:=by
 have h2:s[i]?=some (aZ s i):=by simp[aZ,hi]
 exact⟨h2,h _ (aj h2)⟩
theorem u7{s:List Rock.aF}{i:Nat}{o:Rock.aF}{sign:Int}:(dE s i o sign).length=s.length:=by simp[dE]
theorem qq{N M:Int}{s:List Rock.aF}(h:rO N s){i:Nat}{o:Rock.aF}{sign:Int}(ho:sm o M)(hs:sign=1∨sign = -1)(hM:0≤M):rO (N+M) (dE s i o sign):=by
 intro x hx;unfold dE at hx;by_cases hi:i<s.length
 ·rcases List.mem_or_eq_of_mem_set hx with hx | rfl
  ·exact fG (h x hx) (by omega)
  ·obtain⟨a1,a2,a3⟩:=(xp h hi).2;obtain⟨b1,b2,b3⟩:=ho;rcases hs with rfl | rfl
   ·exact⟨⟨by simp only[Rock.aF.move];omega,by simp only[Rock.aF.move];omega⟩,⟨by simp only[Rock.aF.move];omega,by simp only[Rock.aF.move];omega⟩,⟨by simp only[Rock.aF.move];omega,by simp only[Rock.aF.move];omega⟩⟩
   ·exact⟨⟨by simp only[Rock.aF.move];omega,by simp only[Rock.aF.move];omega⟩,⟨by simp only[Rock.aF.move];omega,by simp only[Rock.aF.move];omega⟩,⟨by simp only[Rock.aF.move];omega,by simp only[Rock.aF.move];omega⟩⟩
 ·rw[List.set_eq_of_length_le (by omega)]at hx;exact fG (h x hx) (by omega)
theorem ta{s:List Rock.aF}{i j:Nat}{o p:Rock.aF}{a c:Int}:dE (dE s i o a) j p c=dE (dE s j p c) i o a:=by
 by_cases hij:i=j
 ·subst hij;by_cases hi:i<s.length
  ·simp only[dE,aZ,List.getElem?_set_self hi,dK,List.set_set,Rock.aF.move];congr 2<;>omega
  ·simp only[dE,List.set_eq_of_length_le (show s.length≤i by omega)]
 ·have hji:¬j=i:=fun h=>hij h.symm
  simp only[dE,aZ,List.getElem?_set_ne hij,List.getElem?_set_ne hji];rw[List.set_comm _ _ hij]
theorem EA{s:List Rock.aF}{e f:(Nat×Nat)×Rock.aF}:cP (cP s e) f=cP (cP s f) e:=by
 unfold cP;rw[ta (i:=e.1.2) (j:=f.1.1),ta (i:=e.1.1) (j:=f.1.1),ta (i:=e.1.2) (j:=f.1.2),ta (i:=e.1.1) (j:=f.1.2)]
theorem Bb{s:List Rock.aF}{e:(Nat×Nat)×Rock.aF}:(cP s e).length=s.length:=by simp[cP,u7]
def yP(es:List ((Nat×Nat)×Rock.aF))(s:List Rock.aF)(j:Nat):List Rock.aF:=match es[j]? with | some e=>cP s e | none=>s
theorem JJ{es:List ((Nat×Nat)×Rock.aF)}{s:List Rock.aF}{i j:Nat}:yP es (yP es s i) j=yP es (yP es s j) i:=by
 unfold yP;cases es[i]? <;> cases es[j]? <;> simp[EA]
theorem Lj{es:List ((Nat×Nat)×Rock.aF)}{s:List Rock.aF}{j:Nat}:(yP es s j).length=s.length:=by
 unfold yP;split<;>simp[Bb]
theorem zB:∀(es:List ((Nat×Nat)×Rock.aF)) (s:List Rock.aF) (n:Nat),n≤es.length→(List.range n).foldl (yP es) s=(es.take n).foldl cP s
 |es,s,0,_=>by simp
 |es,s,n+1,h=>by
  obtain⟨e,he⟩:∃e,es[n]?=some e:=gE (by omega);rw[List.range_succ,List.foldl_append,zB es s n (by omega),List.take_add_one,he,List.foldl_append];simp[yP,he]
theorem Li{es:List ((Nat×Nat)×Rock.aF)}{s:List Rock.aF}{js:List Nat}(hd:js.Nodup)(hm:∀j,j∈js↔j<es.length):js.foldl (yP es) s=es.foldl cP s:=by
 have hp:js.Perm (List.range es.length):=(List.perm_ext_iff_of_nodup hd List.nodup_range).2 fun a=>by simp[hm]
 rw[hp.foldl_eq' (fun x _ y _ z=>JJ),zB es s es.length (aw _),aq (aw _)]
theorem EH{b:bC}:(oj b).length≤3*b.n:=by
 have key:∀l:List Nat,(l.flatMap (oC b)).length≤3*l.length:=by
  intro l;induction l with
  |nil=>simp
  |cons i l ih =>
   rw[bk,bS,bq];have:(oC b i).length≤3:=by
    unfold oC;simp only[bS];split<;>split<;>split<;>simp
   omega
 have:=key (List.range b.n);rw[List.length_range]at this;exact this
theorem Jh{b:bC}(h:Bv b){l:Nat×Nat}(hl:l∈oj b):l.1<b.n∧l.2<b.n:=by
 obtain⟨hnn,X1,Y1⟩:=h.nat;obtain⟨i,hi,hh⟩:=List.mem_flatMap.1 hl;have h1:i<b.n:=by simpa using hi
 unfold oC at hh;simp only[aX]at hh;rcases hh with hh | hh | hh
 ·split at hh
  ·rename_i hc;simp at hh;subst hh;exact⟨h1,Tl (W:=b.f.y.toNat*b.f.z.toNat) (by rw[hnn,Nat.mul_assoc]) h1 hc⟩
  ·cases hh
 ·split at hh
  ·rename_i hc;simp at hh;subst hh;exact⟨h1,link2 (Z:=b.f.z.toNat) X1 Y1 hnn h1 hc⟩
  ·cases hh
 ·split at hh
  ·rename_i hc;simp at hh;subst hh;exact⟨h1,hc⟩
  ·cases hh
def E9(b:bC)(e:(Nat×Nat)×Rock.aF):Prop:=(e.1.1<b.n∧e.1.2<b.n)∧sm e.2 1000000000000
theorem CL{x:Rock.aF}{q:Int}(hm:1≤x.m∧x.m≤1000000)(hh:0≤x.h∧x.h≤10000000000)(hk:0≤x.k∧x.k≤1000000000000)(hq:0≤q∧q≤x.m):sm (x.out q) 1000000000000:=by
 have b3:=zr hm.1 hh hq;have b4:=zr hm.1 hk hq;exact⟨⟨by simp only[Rock.aF.out];omega,by simp only[Rock.aF.out];omega⟩,⟨by simp only[Rock.aF.out];omega,by simp only[Rock.aF.out];omega⟩,⟨by simp only[Rock.aF.out];omega,by simp only[Rock.aF.out];omega⟩⟩
theorem Ez{b:bC}{m:bV}{s:List Rock.aF}(hs:Sv b s){p:List Int}{l:Nat×Nat}(h1:l.1<b.n)(h2:l.2<b.n){e:(Nat×Nat)×Rock.aF}(he:vF b m s p l=some e):E9 b e:=by
 unfold vF at he;simp only at he;generalize hd:(p[l.1]?).getD 0-weight b l.1-(p[l.2]?).getD 0+weight b l.2=d at he;generalize hl':(if d<0 then(l.2,l.1)else l)=l' at he;generalize hd':(if d<0 then -d else d)=d' at he;have hll:l'.1<b.n∧l'.2<b.n:=by
  rw[← hl'];split<;>exact⟨by assumption,by assumption⟩
 obtain⟨_,m1,m2,m3⟩:=hs.at hll.1;split at he
 ·rename_i hq;simp only[ae]at he;subst he;have d2:=bE (b:=8) (show 0≤(aZ s l'.1).m by omega);exact⟨hll,CL m1 m2 m3 ⟨by omega,by rw[d2];omega⟩⟩
 ·cases he
theorem K6{b:bC}{es:List ((Nat×Nat)×Rock.aF)}{k:Nat×Nat}{o:Rock.aF}(h:∀e∈es,E9 b e)(ho:E9 b (k,o)):(∀e∈BF es k o,E9 b e)∧(BF es k o).length≤es.length+1:=by
 unfold BF;split
 ·constructor
  ·intro e he;rcases List.mem_or_eq_of_mem_set he with he | rfl
   ·exact h e he
   ·exact ho
  ·simp
 ·constructor
  ·intro e he;rcases aX.1 he with he | he
   ·exact h e he
   ·simp at he;subst he;exact ho
  ·simp
theorem Bc{b:bC}{m:bV}{s:List Rock.aF}(h:Bv b)(hs:Sv b s):(∀e∈nr b m s,E9 b e)∧(nr b m s).length≤192:=by
 have key:∀(ls:List (Nat×Nat)) (es:List ((Nat×Nat)×Rock.aF)),(∀l∈ls,l.1<b.n∧l.2<b.n)→(∀e∈es,E9 b e)→(∀e∈ls.foldl (iD b m s (bh b m s)) es,E9 b e)∧(ls.foldl (iD b m s (bh b m s)) es).length≤es.length+ls.length:=by
  intro ls;induction ls with
  |nil=>intro es _ h;exact⟨h,by simp⟩
  |cons l ls ih =>
   intro es hl he;have hl0:=hl l (by simp);simp only[List.foldl_cons];have h1:(∀e∈iD b m s (bh b m s) es l,E9 b e)∧(iD b m s (bh b m s) es l).length≤es.length+1:=by
    unfold iD;split
    ·rename_i e hfe;exact K6 he (Ez hs hl0.1 hl0.2 hfe)
    ·exact⟨he,by omega⟩
   obtain⟨h2,h3⟩:=ih _ (fun l hh=>hl l (by simp[hh])) h1.1;exact⟨h2,by simp only[bq];omega⟩
 obtain⟨h1,h2⟩:=key (oj b) [] (fun l hl=>Jh h hl) (by simp);have:=@EH b;have hn:=h.n;exact⟨h1,by simp only[ch]at h2;unfold nr;omega⟩
theorem Ba{b:bC}{N:Int}{s:List Rock.aF}{e:(Nat×Nat)×Rock.aF}(h:rO N s)(he:E9 b e):rO (N+2000000000000) (cP s e):=by
 have h1:=qq (i:=e.1.1) (sign := -1) h he.2 (.inr rfl) (by omega);have h2:=qq (i:=e.1.2) (sign:=1) h1 he.2 (.inl rfl) (by omega);unfold cP;rw[show N+2000000000000=N+1000000000000+1000000000000 by omega];exact h2
theorem Ec{b:bC}{es:List ((Nat×Nat)×Rock.aF)}(hes:∀e∈es,E9 b e):∀(js:List Nat) (s:List Rock.aF) (N:Int),rO N s→rO (N+2000000000000*js.length) (js.foldr (fun j s=>yP es s j) s)
 |[],s,N,h=>by simpa using h
 |j::js,s,N,h=>by
  have ih:=Ec hes js s N h;simp only[List.foldr_cons,bq];generalize js.foldr (fun j s=>yP es s j) s=s1 at *
  unfold yP;split
  ·rename_i e he;have:=Ba ih (hes e (aj he));intro x hx;exact fG (this x hx) (by push_cast;omega)
  ·intro x hx;exact fG (ih x hx) (by push_cast;omega)
theorem Sv.rO{b:bC}{s:List Rock.aF}(h:Sv b s):rO 1000000000000 s:=by
 intro x hx;obtain⟨h1,h2,h3⟩:=aF.CG.1 (h.ok x hx);exact⟨⟨by omega,by omega⟩,⟨by omega,by omega⟩,⟨by omega,by omega⟩⟩
end Go.Proofs.YtcgippbplkagkaaGreat
namespace Go.Abs
open List(length_flatMap map_take)
open Go
variable {T:sn}
theorem yf{F:List aF}:∀{σ:SK} {lv:Nat},gv σ lv=some F→lv<σ.length
 |[],lv,h=>by simp[gv]at h
 |s::σ,lv,h=>by
  simp only[gv]at h;split at h
  ·rename_i h1;simp;omega
  ·have:=yf h;simp;omega
section
variable {α:Type} {w:Nat} {enc:α→List D} (hw:∀x,(enc x).length=w) {p:α→Bool} {fv:D} {l:List α} {lv bi v:Nat} {F:List aF}
include hw in
theorem xL(hF:F[bi]?=some (.cells v (l.flatMap enc)))(hl:l.length≤9223372036854775807)(ht:lz T fv (fun x => .agg (enc x)) p l){σ:SK}(hs:gv σ lv=some F):∀(m i:Nat),i+m=l.length →
  WL T [0,1,7,8] false (yI true w) [(0,.sl lv bi v 0 l.length w),(1,fv),(7,.int .i64 l.length),(8,.int .i64 i)] σ
   (fun x e σ'=>σ'=σ∧if idxOf p (l.drop i)<0 then x=.exit 0 else x=.ret∧get e 4=.int .i64 (i+idxOf p (l.drop i)))
 |0,i,hi=>by
  obtain⟨h1,h2,h3⟩:=ht;refine aB (yI.eq_1 _ _) ?_;have:¬i<l.length:=by omega
  have h5:l.drop i=[]:=by simp;omega
  simp[this,h1,h2,h5,idxOf]
 |m+1,i,hi=>by
  have ih:=xL hF hl ht hs m (i+1) (by omega);obtain⟨h1,h2,h3⟩:=ht;refine aB (yI.eq_1 _ _) ?_;have h4:i<l.length:=by omega
  obtain⟨x,hx⟩:=gE h4;have h5:=xN (f:=enc) hw hx;have h6:=h3 x (aj hx) σ;have h7:=db h4 hl;have h8:l.drop i=x::l.drop (i+1):=cO hx;have e1:∀r:List D,(enc x++r).take w=enc x:=fun r=>by rw[← hw x];simp
  have e2:∀r:Nat,w≤(enc x).length+r:=fun r=>by rw[hw];omega
  cases hp:p x
  ·rw[hp]at h6;simp[h4,h1,h2,h5,h6,h7,hs,hF,e1,e2];refine WL.mono (by simpa using ih) ?_;rintro x e σ' ⟨h9,h10⟩;refine⟨h9,?_⟩;rw[h8];simp only[idxOf,hp,al,if_false];by_cases h11:idxOf p (l.drop (i+1))<0
   ·simpa[h11]using h10
   ·rw[if_neg h11]at h10;rw[if_neg h11,if_neg (by omega)];refine⟨h10.1,?_⟩;rw[h10.2];congr 1;push_cast;omega
  ·rw[hp]at h6;simp[h4,h1,h2,h5,h6,h7,hs,hF,e1,e2,h8,idxOf,hp]
include hw in
theorem Cv{f:Nat}(hT:T f=some (pv true w))(hF:F[bi]?=some (.cells v (l.flatMap enc)))(hl:l.length≤9223372036854775807)(ht:lz T fv (fun x => .agg (enc x)) p l){σ:SK}(hs:gv σ lv=some F):
  bG T (.call false f [.sl lv bi v 0 l.length w,fv] σ)=some (.val (.int .i64 (idxOf p l)) σ):=by
 refine aA hT (pv.eq_1 _ _) rfl ?_;have hlt:=yf hs;have h:=xL hw hF hl ht (lv:=lv) (F:=F) (σ:=[]::σ) (by simp[gv,hs,show ¬σ.length=lv by omega]) l.length 0 (by simp);obtain⟨h1,h2,h3⟩:=ht;simp[h1,h2];refine WL.mono (by simpa using h) ?_;rintro x e σ' ⟨rfl,h10⟩
 try simp only[aO]at h10
 by_cases h11:idxOf p l<0
 ·rw[if_pos h11]at h10;subst h10;have:idxOf p l = -1:=by
   cases l with
   |nil=>rfl
   |cons a l =>
    simp only[idxOf]at h11 ⊢;split at h11<;>rename_i ha
    ·omega
    ·rw[if_neg ha];split at h11<;>rename_i hb
     ·rw[if_pos hb]
     ·omega
  simp[this]
 ·rw[if_neg h11]at h10;obtain⟨rfl,h12⟩:=h10
  try simp at h12
  simp[h12]
include hw in
theorem yE{f i:Nat}(hT:T f=some (iJ i))(hi:T i=some (pv true w))(hF:F[bi]?=some (.cells v (l.flatMap enc)))(hl:l.length≤9223372036854775807)(ht:lz T fv (fun x => .agg (enc x)) p l){σ:SK}(hs:gv σ lv=some F):
  bG T (.call false f [.sl lv bi v 0 l.length w,fv] σ)=some (.val (.bool (wF l p)) σ):=by
 refine aA hT (iJ.eq_1 _) rfl ?_;have hlt:=yf hs;have h:=Cv hw hi hF hl ht (lv:=lv) (F:=F) (σ:=[]::σ) (by simp[gv,hs,show ¬σ.length=lv by omega]);obtain⟨h1,h2,h3⟩:=ht;have h4:decide (0≤idxOf p l)=wF l p:=by
  unfold wF;have h6:=vK (p:=p) (l:=l);cases h5:l.any p
  ·have:=h6.2 h5;exact decide_eq_false (by omega)
  ·exact decide_eq_true (by
    have:¬idxOf p l<0:=fun h=>by rw[h6.1 h]at h5;cases h5
    omega)
 simp[h1,h2,h,h4]
include hw in
theorem FZ{f g h i:Nat}(hf:T f=some (xl g h))(hg:T g=some (pH true w))(hh:T h=some (iJ i))(hi:T i=some (pv true w))
  (hF:F[bi]?=some (.cells v (l.flatMap enc))) (hl:l.length≤9223372036854775807) (ht:lz T fv (fun x => .agg (enc x)) p l) (hcl:fv.cells=some [fv]) {σ:SK} (hs:gv σ lv=some F):
  bG T (.call false f [.sl lv bi v 0 l.length w,fv] σ)=some (.val (.bool (eH l p)) σ):=by
 refine aA hf (xl.eq_1 _ _) rfl ?_;have hlt:=yf hs;have h:=yE hw hh hi hF hl (Dz (sq w enc hw) hg ht) (lv:=lv) (F:=F) (σ:=[]::σ) (by simp[gv,hs,show ¬σ.length=lv by omega]);obtain⟨h1,h2,h3⟩:=ht;have h4:(wF l fun x => !p x) = !eH l p:=by
  unfold wF eH;rw[List.all_eq_not_any_not,Bool.not_not]
 simp[h1,h2,h,h4,hcl]
end
end Go.Abs
