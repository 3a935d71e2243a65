import Derived.Test.YtfgljaglidhjiaaGreatDoorTxt2
import Derived.Test.YtfgljaglidhjiaaGreatDoorTxt5
import Derived.Test.YtfgljaglidhjiaaGreatDoorBase20
import Derived.Test.YtfgljaglidhjiaaGreatDoorTab
import Derived.ProofKit
set_option linter.all false
namespace Go.Book
open List(length_flatMap map_take)
open Go Go.Abs Go.Rock
def DU(c:UInt8):Prop:=48≤c.toNat∧c.toNat≤57
instance (c:UInt8):Decidable (DU c):=by unfold DU;infer_instance
def qD:Nat→List UInt8→Option Nat
 |n,[]=>some n
 |n,c::s=>if DU c then qD (10*n+(c.toNat-48)) s else none
def xD(minus:Bool)(d:List UInt8):Option Int :=
 if d.length=0∨9<d.length∨(d.head?=some 48∧(1<d.length∨minus=true))then none
 else(qD 0 d).map fun n:Nat=>(if minus=true then -(n:Int)else(n:Int))
def Af(s:List UInt8):Option Int:=if s.head?=some 45 then xD true (s.drop 1)else xD false s
theorem GQ:∀{a b:List UInt8} {n:Nat},qD n (a++b)=(qD n a).bind fun m=>qD m b
 |[],b,n=>rfl
 |c::a,b,n=>by
  simp only[fF,qD];split
  ·exact GQ
  ·rfl
theorem zB:∀{s:List UInt8} {n m k:Nat},qD n s=some m→n<10^k→m<10^(k+s.length)
 |[],n,m,k,h,hn=>by simp only[qD,ae]at h;subst h;simpa using hn
 |c::s,n,m,k,h,hn=>by
  simp only[qD]at h;split at h
  ·rename_i hd;have hd2:=hd.2;have:=zB (k:=k+1) h (by rw[Nat.pow_succ];omega);simpa[dr,Nat.add_comm 1]using this
  ·cases h
theorem GR:∀{s:List UInt8} {n m:Nat},qD n s=some m→m<1844674407370955161→Lib.parseUint10 n s=.ok m
 |[],n,m,h,hm=>by simp only[qD,ae]at h;subst h;rfl
 |c::s,n,m,h,hm=>by
  simp only[qD]at h;split at h
  ·rename_i hd;have hle:∀{s:List UInt8} {n m:Nat},qD n s=some m→n≤m:=by
    intro s;induction s with
    |nil=>intro n m h;simp only[qD,ae]at h;omega
    |cons c s ih =>
     intro n m h;simp only[qD]at h;split at h
     ·have:=ih h;omega
     ·cases h
   have h1:=hle h;have h2:=GR h hm;unfold Lib.parseUint10;have hd2:=hd.2;have hd1:=hd.1;rw[if_pos (show 48≤c.toNat∧c.toNat≤57 from hd),if_neg (by omega),if_neg (by omega),← h2];congr 1;omega
  ·cases h
theorem S6{k:Nat}(hk:k<10):DU (UInt8.ofNat (48+k))∧(UInt8.ofNat (48+k)).toNat-48=k:=by
 have:(UInt8.ofNat (48+k)).toNat=48+k:=UInt8.toNat_ofNat_of_lt' (by simp[UInt8.size];omega);unfold DU;omega
theorem S5{c:UInt8}(h:DU c):UInt8.ofNat (48+(c.toNat-48))=c:=by
 have:=h.1;rw[show 48+(c.toNat-48)=c.toNat by omega];simp
theorem Jl:∀{k u:Nat},u<10^k→0<k→qD 0 (uH k u)=some u
 |0,u,h,hk=>by omega
 |k+1,u,h,hk=>by
  unfold uH;split
  ·rename_i hu;have h1:=S6 hu;simp only[qD,if_pos h1.1,h1.2,Nat.mul_zero,cQ]
  ·rename_i hu;have hk':0<k:=by
    rcases Nat.eq_zero_or_pos k with rfl | h0
    ·simp at h;omega
    ·exact h0
   have hd:=S6 (k:=u%10) (Nat.mod_lt _ (by omega));rw[GQ,Jl (k:=k) (u:=u / 10) (by rw[Nat.pow_succ]at h;omega) hk'];simp only[Option.bind_some,qD,if_pos hd.1,hd.2,ae];omega
theorem MB:∀{k u:Nat},0<k→uH k u≠[]
 |0,u,hk=>by omega
 |k+1,u,hk=>by
  unfold uH;split<;>simp
theorem Jm:∀{k u m:Nat},u<10^m→0<m→(uH k u).length≤m
 |0,u,m,h,hm=>by simp[uH]
 |k+1,u,m,h,hm=>by
  unfold uH;split
  ·simp;omega
  ·rename_i hu;obtain⟨j,rfl⟩:∃j,m=j+1:=⟨m-1,by omega⟩;have hj:0<j:=by
    rcases Nat.eq_zero_or_pos j with rfl | h0
    ·simp at h;omega
    ·exact h0
   have:=Jm (k:=k) (u:=u / 10) (m:=j) (by rw[Nat.pow_succ]at h;omega) hj;simp;omega
theorem GO:∀{k u:Nat},u<10^k→(uH k u).head?=some 48→u=0
 |0,u,h,hh=>by simp[uH]at hh
 |k+1,u,h,hh=>by
  unfold uH at hh;split at hh
  ·rename_i hu;simp only[List.head?_cons,ae]at hh;have:=congrArg UInt8.toNat hh;simp at this;omega
  ·rename_i hu;have hk:0<k:=by
    rcases Nat.eq_zero_or_pos k with rfl | h0
    ·simp at h;omega
    ·exact h0
   have h1:(uH k (u / 10)).head?=some 48:=by
    cases hd:uH k (u / 10)with
    |nil=>exact absurd hd (MB hk)
    |cons c r=>rw[hd]at hh;simpa using hh
   have:=GO (k:=k) (u:=u / 10) (by rw[Nat.pow_succ]at h;omega) h1;omega
theorem NS:∀{d:List UInt8} {n k:Nat},qD 0 d=some n→d≠[]→(d.head?=some 48→d.length=1)→d.length≤k→uH k n=d:=by
 intro d;induction hl:d.length using Nat.strongRecOn generalizing d with
 |ind m ih =>
  intro n k h hne hz hk;obtain⟨d',c,rfl⟩:∃d' c,d=d'++[c]:=⟨d.dropLast,d.getLast hne,(List.dropLast_concat_getLast hne).symm⟩;rw[GQ]at h;cases h1:qD 0 d' with
  |none=>rw[h1]at h;cases h
  |some q =>
   rw[h1]at h;simp only[Option.bind_some,qD]at h;split at h
   ·rename_i hc;simp only[ae]at h;have hc2:=hc.2;obtain⟨k,rfl⟩:∃j,k=j+1:=⟨k-1,by simp at hl;omega⟩;by_cases hd:d'=[]
    ·subst hd;simp only[qD,ae]at h1;subst h1;have hn:n=c.toNat-48:=by omega
     subst hn;unfold uH;rw[if_pos (by have:=hc.1;omega),S5 hc];rfl
    ·have hh:(d'++[c]).head?=d'.head?:=by
      cases d' with
      |nil=>exact absurd rfl hd
      |cons x r=>rfl
     have hz':d'.head?=some 48→d'.length=1:=by
      intro h2;have h5:=hz (by rw[hh];exact h2);have hp:=aK.2 hd;rw[← hl,bx]at h5;simp only[aL,bE]at h5;omega
     have hnz:d'.head? ≠ some 48:=by
      intro h2;have h5:=hz (by rw[hh];exact h2);have hp:=aK.2 hd;rw[← hl,bx]at h5;simp only[aL,bE]at h5;omega
     have ih1:=ih d'.length (by simp at hl;omega) rfl (n:=q) (k:=k) h1 hd hz' (by simp at hl;omega);have hq:q≠0:=by
      intro h2;subst h2;rw[← ih1]at hnz;have hkp:0<k:=by have:=aK.2 hd;simp at hl;omega
      obtain⟨j,rfl⟩:∃j,k=j+1:=⟨k-1,by omega⟩;simp[uH]at hnz
     unfold uH;have e1:n / 10=q:=by omega
     have e2:n%10=c.toNat-48:=by omega
     rw[if_neg (by omega),e1,e2,ih1,S5 hc]
   ·cases h
theorem Ij{d:List UInt8}{n:Nat}(h:qD 0 d=some n)(hne:d≠[])(hn:n≤999999999):
  rU d=(0,(n:Int))∧rU (45::d)=(0,-(n:Int)):=by
 have hp:=GR h (by omega);have hm:Lib.parseMag d=.ok n:=by unfold Lib.parseMag;rw[if_neg hne];exact hp
 constructor
 ·unfold rU Lib.atoiAll;cases d with
  |nil=>exact absurd rfl hne
  |cons c r =>
   have hc:DU c:=by
    simp only[qD]at h;split at h
    ·assumption
    ·cases h
   have h1:=hc.1;have h2:=hc.2;simp only;rw[if_neg (by omega),hm];simp only;rw[if_neg (by omega),if_neg (by omega),if_neg (by omega)]
 ·unfold rU Lib.atoiAll;simp only;rw[if_pos (Or.inr (by decide)),hm];simp only;rw[if_neg (by simp),if_neg (by omega),if_pos (by decide)]
theorem Ro(s:List UInt8):Dd s=Af s:=by
 have key:∀n,Af s=some n→Dd s=some n:=by
  intro n h;unfold Af at h;split at h
  ·rename_i hm;obtain⟨d,rfl⟩:∃d,s=45::d:=by
    cases s with
    |nil=>simp at hm
    |cons c d=>simp at hm;subst hm;exact⟨d,rfl⟩
   simp only[List.drop_succ_cons,aO]at h;unfold xD at h;split at h
   ·cases h
   rename_i hc;simp only[not_or,not_and]at hc;simp only[ad]at h;obtain⟨m,h1,h2⟩:=h;have hne:d≠[]:=by intro h3;subst h3;simp at hc
   have hb:=zB (k:=0) h1 (by decide);have hlt:m<10^9:=Nat.lt_of_lt_of_le hb (Nat.pow_le_pow_right (by decide) (by omega));have hd:=NS (k:=20) h1 hne (fun h3=>absurd trivial (hc.2.2 h3).2) (by omega);have hm0:m≠0:=by
    intro h3;subst h3;have:d.head?=some 48:=by rw[← hd];rfl
    exact absurd trivial (hc.2.2 this).2
   obtain⟨_,ha⟩:=Ij h1 hne (by omega);unfold Dd;rw[ha];have hi:Bh (-(m:Int))=45::d:=by
    unfold Bh;rw[if_pos (by omega),show(-(m:Int)).natAbs=m by omega,hd]
   rw[if_pos ⟨⟨rfl,hi⟩,by simp[cG];omega⟩];simpa using h2
  ·rename_i hm;unfold xD at h;split at h
   ·cases h
   rename_i hc;simp only[not_or,not_and]at hc;simp only[ad]at h;obtain⟨m,h1,h2⟩:=h;have hne:s≠[]:=by intro h3;subst h3;simp at hc
   have hb:=zB (k:=0) h1 (by decide);have hlt:m<10^9:=Nat.lt_of_lt_of_le hb (Nat.pow_le_pow_right (by decide) (by omega));have hd:=NS (k:=20) h1 hne (fun h3=>by have:=(hc.2.2 h3).1;have:=aK.2 hne;omega) (by omega);obtain⟨ha,_⟩:=Ij h1 hne (by omega);unfold Dd;rw[ha];have hi:Bh (m:Int)=s:=by
    unfold Bh;rw[if_neg (by omega),show((m:Int)).toNat=m by omega,hd]
   rw[if_pos ⟨⟨rfl,hi⟩,by simp[cG];omega⟩];simpa using h2
 cases hn:Dd s with
 |none =>
  cases hw:Af s with
  |none=>rfl
  |some n=>rw[key n hw]at hn;cases hn
 |some n =>
  have h:=hn;unfold Dd at h;split at h
  ·rename_i hc;obtain⟨⟨_,h1⟩,h2⟩:=hc;simp only[ae]at h;rw[h]at h1 h2;simp only[cG,af,au]at h2;suffices Af s=some n from this.symm
   rw[← h1];unfold Bh;split
   ·rename_i hneg;have hlt:n.natAbs<10^9:=by omega
    have hd:=Jl (k:=20) (u:=n.natAbs) (Nat.lt_trans hlt (by decide)) (by decide);have hl:=Jm (k:=20) (u:=n.natAbs) (m:=9) hlt (by decide);have hne:=MB (k:=20) (u:=n.natAbs) (by decide);have hh:(uH 20 n.natAbs).head? ≠ some 48:=fun h3=>by have:=GO (Nat.lt_trans hlt (by decide)) h3;omega
    unfold Af;rw[if_pos (show(45::uH 20 n.natAbs).head?=some 45 from rfl)];simp only[List.drop_succ_cons,aO];unfold xD;rw[if_neg (by simp only[not_or,not_and];exact⟨by have:=aK.2 hne;omega,by omega,fun h3=>absurd h3 hh⟩),hd];simp;omega
   ·rename_i hneg;have hlt:n.toNat<10^9:=by omega
    have hd:=Jl (k:=20) (u:=n.toNat) (Nat.lt_trans hlt (by decide)) (by decide);have hl:=Jm (k:=20) (u:=n.toNat) (m:=9) hlt (by decide);have hne:=MB (k:=20) (u:=n.toNat) (by decide);have hh:(uH 20 n.toNat).head? ≠ some 45:=by
     intro h3;cases hx:uH 20 n.toNat with
     |nil=>exact hne hx
     |cons c r =>
      rw[hx]at hd h3;simp at h3;subst h3;simp[qD,DU]at hd
    have hz:(uH 20 n.toNat).head?=some 48→¬1<(uH 20 n.toNat).length:=by
     intro h3;have h0:=GO (Nat.lt_trans hlt (by decide)) h3;rw[h0];decide
    unfold Af;rw[if_neg hh];unfold xD;rw[if_neg (by simp only[not_or,not_and];exact⟨by have:=aK.2 hne;omega,by omega,fun h3=>⟨hz h3,by simp⟩⟩),hd];simp;omega
  ·cases h
end Go.Book
namespace Go.Book
open List(length_flatMap map_take)
open Go Go.Abs
end Go.Book
namespace Go.Proofs.YtfgljaglidhjiaaGreatDoor
open List(length_flatMap map_take)
section
open Go Go.Abs Go.Book
variable {σ:SK}
def Rp(l:List (List UInt8)):Prop:=l.length≤100∧∀s∈l,s.length≤4000
def amS:Elt (List UInt8):=⟨false,1,ez,fun s => .str s,fun _=>rfl,fun _=>by simp[ez],fun _=>rfl,fun _=>rfl,fun _=>rfl⟩
theorem R4{s:List UInt8}:lim T (.call false iu [.str s] σ)=some (.val (.bool (decide (4000<s.length))) σ):=by
 refine az Dp pL.eq_1 rfl ?_;have e:decide ((4000:Int)<(s.length:Int))=decide (4000<s.length):=by
  by_cases h:4000<s.length
  ·rw[decide_eq_true h,decide_eq_true (by omega)]
  ·rw[decide_eq_false h,decide_eq_false (by omega)]
 simp[-length_flatMap,-map_take,sF,e]
def okB(l:List (List UInt8)):Bool:=decide (l.length≤100) && !lC l (fun s=>decide (4000<s.length))
theorem R0{l:List (List UInt8)}(hl:l.length≤1000000000):lim T (.call false gA [.aH l.length (l.flatMap ez)] σ)=some (.val (.int .i64 (if okB l then 0 else 3)) σ):=by
 refine az FB so.eq_1 rfl ?_;have hC:=fun σ=>contains_of amS (T:=T) (f:=eC) (i:=iY) (l:=l) (p:=fun s=>decide (4000<s.length)) (fv:=.fn iu [] []) rfl rfl (by omega) (pK.fn fun s _ σ=>R4) (σ:=σ)
 have hC':∀σ,lim T (.call false eC [.aH l.length (l.flatMap ez),.fn iu [] []] σ)=some (.val (.bool (lC l (fun s=>decide (4000<s.length)))) σ):=hC;unfold okB;by_cases h1:l.length≤100
 ·have h2:¬(100:Int)<l.length:=by omega
  cases h3:lC l (fun s=>decide (4000<s.length))<;>rw[h3]at hC'<;>simp[-length_flatMap,-map_take,h1,h2,hC']
 ·have h2:(100:Int)<l.length:=by omega
  simp[-length_flatMap,-map_take,h1,h2]
theorem PT{l:List (List UInt8)}:okB l=true↔Rp l:=by
 unfold okB Rp;simp only[af,au,dR];constructor
 ·rintro⟨h1,h2⟩;refine⟨h1,fun s hs=>?_⟩;by_cases h:s.length≤4000
  ·exact h
  ·have h3:lC l (fun s=>decide (4000<s.length))=true:=DE.2 ⟨s,hs,show decide (4000<s.length)=true from decide_eq_true (by omega)⟩;rw[h2]at h3;cases h3
 ·rintro⟨h1,h2⟩;refine⟨h1,?_⟩;cases h:lC l (fun s=>decide (4000<s.length))with
  |false=>rfl
  |true =>
   obtain⟨s,hs,h3⟩:=DE.1 h;have:=h2 s hs;simp only[au]at h3;omega
theorem Sb{l:List (List UInt8)}(hl:l.length≤1000000000)(hσ:σ≠[]):lim T (.call false rH [.aH l.length (l.flatMap ez)] σ)=some (.val (.aH l.length (l.flatMap ez)) σ):=by
 refine az I8 wh.eq_1 rfl ?_;cases l with
 |nil=>simp[-length_flatMap,-map_take]
 |cons s r =>
  have hfl:((s::r).flatMap ez).length=(s::r).length:=by have:=bZ (f:=ez) (w:=1) (fun _=>rfl) (s::r);omega
  have hne:¬(s::r).length=0:=by simp
  generalize s::r=l at hl hfl hne ⊢;have hr:l.length*16≤room:=by unfold room;omega
  have hk:=xO (n:=16) (f:=ez) (w:=1) (l:=l) (j:=1) (v:=0) (bs:=[.cells 0 [],.cells 0 (l.flatMap ez)]) (by decide) (fun _=>rfl) (fun _=>by simp[ez]) hσ (by simp);simp[-length_flatMap,-map_take,hfl,hne,hr];exact⟨_,hk⟩
theorem NA{l:List (List UInt8)}(hl:l.length≤1000000000):∀(m i:Nat),i+m=l.length →
  WL T [0,3] false ru [(0,.aH l.length (l.flatMap ez)),(3,.int .i64 i)] σ
   (fun x e σ'=>σ'=σ∧if lC (l.drop i) (fun s=>decide (4000<s.length))then x=.ret∧get e 2=.bool false else x=.exit 0∧get e 0=.aH l.length (l.flatMap ez))
 |0,i,hi=>by
  refine aN ru.eq_1 ?_;obtain rfl:i=l.length:=by omega
  have h2:l.drop l.length=[]:=aA (by omega);simp[-length_flatMap,-map_take,h2,lC]
 |m+1,i,hi=>by
  refine aN ru.eq_1 ?_;have h1:i<l.length:=by omega
  obtain⟨s,hs⟩:=gE h1;have a1:=bR (f:=ez) (w:=1) (fun _=>rfl) hs;simp only[ez,dX]at a1;have h4:=gG h1 (by omega);rw[cS hs];by_cases hc:4000<s.length
  ·have hc':(4000:Int)<s.length:=by omega
   simp[-length_flatMap,-map_take,sF,h1,a1,hc,hc',lC]
  ·have hc':¬(4000:Int)<s.length:=by omega
   simp[-length_flatMap,-map_take,sF,h1,a1,h4,hc',lC,hc];exact WL.to (NA hl m (i+1) (by omega)) (by simp) rfl fun x e σ' hh=>by simpa[lC,hc]using hh
theorem Qx{l:List (List UInt8)}(hl:l.length≤1000000000):lim T (.call false sh [.aH l.length (l.flatMap ez)] σ)=some (.val (.bool (okB l)) σ):=by
 refine az HJ va.eq_1 rfl ?_;simp[-length_flatMap,-map_take];refine WL.to (NA (σ:=[]::σ) hl l.length 0 (by omega)) (by simp) rfl ?_;rintro x e σ' ⟨rfl,hh⟩;rw[aO]at hh;cases hc:lC l (fun s=>decide (4000<s.length))
 ·rw[hc,if_neg (by simp)]at hh;obtain⟨rfl,g0⟩:=hh;by_cases h1:l.length≤100
  ·have h2:(l.length:Int)≤100:=by omega
   simp[-length_flatMap,-map_take,g0,okB,hc,h1,h2]
  ·have h2:¬(l.length:Int)≤100:=by omega
   simp[-length_flatMap,-map_take,g0,okB,hc,h1,h2]
 ·rw[hc,if_pos rfl]at hh;obtain⟨rfl,g2⟩:=hh;simp[g2,okB,hc]
theorem NF{d:List UInt8}{v:Bool}(hd:d.length≤9):∀(m i n:Nat),i+m=d.length→n<10^i →
  WL T [4,5,6,7] false pQ [(4,.bool v),(5,.str d),(6,.int .i64 n),(7,.int .i64 i)] σ
   (fun x e σ'=>σ'=σ∧match qD n (d.drop i)with
    |some k=>x=.exit 0∧get e 4=.bool v∧get e 6=.int .i64 k
    |none=>x=.ret∧get e 2=.int .i64 0∧get e 3=.bool false)
 |0,i,n,hi,hn=>by
  refine aN pQ.eq_1 ?_;obtain rfl:i=d.length:=by omega
  have h2:d.drop d.length=[]:=aA (by omega);simp[-length_flatMap,-map_take,sF,h2,qD]
 |m+1,i,n,hi,hn=>by
  refine aN pQ.eq_1 ?_;have h1:i<d.length:=by omega
  obtain⟨c,hc⟩:=gE h1;have hcg:d[i]=c:=by have:=aI h1;rw[hc]at this;exact(Option.some.inj this).symm
  have h4:=gG h1 (by omega);rw[cS hc];have hp:10^(i+1)≤10^9:=Nat.pow_le_pow_right (by decide) (by omega);rw[Nat.pow_succ]at hp;have hb:=c.toNat_lt;by_cases h5:c.toNat<48
  ·have h6:(c.toNat:Int)<48:=by omega
   have h7:¬DU c:=by unfold DU;omega
   simp[-length_flatMap,-map_take,sF,h1,hcg,h6,qD,h7]
  ·have h6:¬(c.toNat:Int)<48:=by omega
   by_cases h8:57<c.toNat
   ·have h9:(57:Int)<c.toNat:=by omega
    have h7:¬DU c:=by unfold DU;omega
    simp[-length_flatMap,-map_take,sF,h1,hcg,h6,h9,qD,h7]
   ·have h9:¬(57:Int)<c.toNat:=by omega
    have h7:DU c:=by unfold DU;omega
    have w1:IntKind.i64.wrap (10*(n:Int))=((10*n:Nat):Int):=(fR (by omega)).trans (by omega);have w2:IntKind.u8.wrap ((c.toNat:Int)-48)=((c.toNat-48:Nat):Int):=(wu8 (by omega)).trans (by omega);have w3:IntKind.i64.wrap ((c.toNat-48:Nat):Int)=((c.toNat-48:Nat):Int):=fR (by omega);have w4:IntKind.i64.wrap (10*(n:Int)+((c.toNat-48:Nat):Int))=10*(n:Int)+((c.toNat-48:Nat):Int):=fR (by omega);have ih:=NF (v:=v) hd m (i+1) (10*n+(c.toNat-48)) (by omega) (by rw[Nat.pow_succ];omega);simp[-length_flatMap,-map_take,sF,h1,hcg,h6,h9,qD,if_pos h7,w1,w2,w3,h4];exact WL.to ih (by simp[w4]) rfl fun x e σ' hh=>by rw[if_pos h7];exact hh
theorem afm{s:List UInt8}:lim T (.call false si [.str s] σ)=some (.val (.dG [.int .i64 ((Dd s).getD 0),.bool (Dd s).isSome]) σ):=by
 rw[Ro];refine az HK vb.eq_1 rfl ?_;obtain⟨v,d,hs⟩:∃(v:Bool) (d:List UInt8),(s=45::d∧v=true)∨(s=d∧v=false∧d.head? ≠ some 45):=by
  cases s with
  |nil=>exact⟨false,[],Or.inr ⟨rfl,rfl,by simp⟩⟩
  |cons c r =>
   by_cases h:c=45
   ·subst h;exact⟨true,r,Or.inl ⟨rfl,rfl⟩⟩
   ·exact⟨false,c::r,Or.inr ⟨rfl,rfl,by simpa using h⟩⟩
 have hw:Af s=xD v d:=by
  rcases hs with⟨rfl,rfl⟩ | ⟨rfl,rfl,h⟩
  ·rfl
  ·unfold Af;rw[if_neg h]
 rw[hw];have hL:=fun h9=>NF (σ:=[]::σ) (v:=v) (d:=d) h9 d.length 0 0 (by omega) (by decide)
 have hneg:∀k,qD 0 d=some k→d.length≤9→IntKind.i64.wrap (-(k:Int)) = -(k:Int):=fun k hk h9=>by
  have h1:=zB (k:=0) hk (by decide);have h2:=Nat.lt_of_lt_of_le h1 (Nat.pow_le_pow_right (by decide) (show 0+d.length≤9 by omega));exact fR (by omega)
 by_cases c1:d.length=0
 ·obtain rfl:=bP.1 c1;rcases hs with⟨rfl,rfl⟩ | ⟨rfl,rfl,h⟩<;>simp[-length_flatMap,-map_take,sF,xD]
 have d1:¬(d.length:Int)=0:=by omega
 have hp:0<d.length:=by omega
 have hp1:(0:Int)<d.length:=by omega
 have hp2:(0:Int)<(d.length:Int)+1:=by omega
 have hp3:(1:Int)≤(d.length:Int)+1:=by omega
 obtain⟨c,hc⟩:=gE hp;have hcg:d[0]=c:=by have:=aI hp;rw[hc]at this;exact(Option.some.inj this).symm
 have hh:d.head?=some c:=by rw[List.head?_eq_getElem?,hc]
 rw[hh]at hs;simp only[ne_eq,ae]at hs;by_cases c2:9<d.length
 ·have d2:(9:Int)<d.length:=by omega
  rcases hs with⟨rfl,rfl⟩ | ⟨rfl,rfl,h⟩
  ·simp[-length_flatMap,-map_take,sF,xD,c1,c2,d1,d2,hp3]
  ·have h':¬c.toNat=45:=fun h2=>h (UInt8.toNat_inj.1 h2)
   have h3:((c.toNat:Int) == 45)=false:=by simp;omega
   simp[-length_flatMap,-map_take,sF,xD,c1,c2,d1,d2,hp,hp1,hc,hcg,h3]
 have d2:¬(9:Int)<d.length:=by omega
 have hcz:((c.toNat:Int) == 48)=decide (c=48):=by
  by_cases h:c=48
  ·subst h;rfl
  ·have h':¬c.toNat=48:=fun h2=>h (UInt8.toNat_inj.1 h2)
   simp[h];omega
 have hL:=hL (by omega);rw[aO]at hL;have hone:(1<d.length)=((1:Int)<d.length):=propext ⟨fun h=>by omega,fun h=>by omega⟩;by_cases c3:c=48∧(1<d.length∨v=true)
 ·have hn:xD v d=none:=by unfold xD;rw[hh,if_pos (Or.inr (Or.inr ⟨by rw[c3.1],c3.2⟩))]
  rw[hn];obtain⟨rfl,c4⟩:=c3;rw[hone]at c4;rcases hs with⟨rfl,rfl⟩ | ⟨rfl,rfl,h⟩
  ·by_cases c5:(1:Int)<d.length<;>simp[-length_flatMap,-map_take,sF,c1,c2,d1,d2,hp,hp1,hp3,hc,hcg,c5]
  ·have c4:(1:Int)<s.length:=by simpa using c4
   simp[-length_flatMap,-map_take,sF,c1,c2,d1,d2,hp,hp1,hc,hcg,c4]
 ·have hn:xD v d=(qD 0 d).map fun n:Nat=>(if v=true then -(n:Int)else(n:Int)):=by
   unfold xD;rw[hh,if_neg];rintro(h | h | ⟨h,h2⟩)
   ·exact c1 h
   ·exact c2 h
   ·exact c3 ⟨by simpa using h,h2⟩
  rw[hn];rcases hs with⟨rfl,rfl⟩ | ⟨rfl,rfl,h⟩
  ·have c4:¬c=48:=fun h=>c3 ⟨h,Or.inr rfl⟩
   simp[-length_flatMap,-map_take,sF,c1,c2,d1,d2,hp,hp1,hp3,hc,hcg,hcz,c4];refine WL.to hL (by simp) rfl ?_;rintro x e σ' ⟨rfl,hh⟩;cases hv:qD 0 d with
   |none=>rw[hv]at hh;obtain⟨rfl,g2,g3⟩:=hh;simp[g2,g3]
   |some k=>rw[hv]at hh;obtain⟨rfl,g4,g6⟩:=hh;simp[-length_flatMap,-map_take,g4,g6,hneg k hv (by omega)]
  ·have h':¬c.toNat=45:=fun h2=>h (UInt8.toNat_inj.1 h2)
   have h3:((c.toNat:Int) == 45)=false:=by simp;omega
   have key:∀x e σ',(σ'=[]::σ∧match qD 0 s with
    |some k=>x=Abs.Exit.exit 0∧get e 4=.bool false∧get e 6=.int .i64 k
    |none=>x=.ret∧get e 2=.int .i64 0∧get e 3=.bool false)→True:=fun _ _ _ _=>trivial
   by_cases c4:c=48
   ·have c5:¬(1:Int)<s.length:=fun h=>c3 ⟨c4,Or.inl (by omega)⟩
    subst c4;simp[-length_flatMap,-map_take,sF,c1,c2,d1,d2,hp,hp1,hc,hcg,c5];refine WL.to hL (by simp) rfl ?_;rintro x e σ' ⟨rfl,hh⟩;cases hv:qD 0 s with
    |none=>rw[hv]at hh;obtain⟨rfl,g2,g3⟩:=hh;simp[g2,g3]
    |some k=>rw[hv]at hh;obtain⟨rfl,g4,g6⟩:=hh;simp[-length_flatMap,-map_take,g4,g6]
   ·simp[-length_flatMap,-map_take,sF,c1,c2,d1,d2,hp,hp1,hc,hcg,hcz,h3,c4];refine WL.to hL (by simp) rfl ?_;rintro x e σ' ⟨rfl,hh⟩;cases hv:qD 0 s with
    |none=>rw[hv]at hh;obtain⟨rfl,g2,g3⟩:=hh;simp[g2,g3]
    |some k=>rw[hv]at hh;obtain⟨rfl,g4,g6⟩:=hh;simp[-length_flatMap,-map_take,g4,g6]
end
section
open Go Go.Abs Go.Rock Go.Book
variable {σ:SK}
def glue(c:List UInt8):List (List UInt8)→List (List UInt8)
 |[]=>[c]
 |x::l=>(c++x)::l
theorem K2{l:List (List UInt8)}(h:l≠[]):glue [] l=l:=by
 cases l with
 |nil=>exact absurd rfl h
 |cons x l=>rfl
theorem M7(b c:UInt8)(s:List UInt8):cZ b (c::s)=if c=b then []::cZ b s else glue [c] (cZ b s):=by
 simp only[cZ];split
 ·rfl
 ·cases cZ b s<;>rfl
theorem Q3(a b:List UInt8)(l:List (List UInt8)):glue a (glue b l)=glue (a++b) l:=by
 cases l<;>simp[glue]
theorem I6{s:List UInt8}(hs:s.length≤1000000):∀(m i fr:Nat) (cl:List (List UInt8)),i+m=s.length→fr≤i→cl.length≤i →
  cZ 32 s=cl++glue ((s.drop fr).take (i-fr)) (cZ 32 (s.drop i)) →
  WL T [0,6,7,8] false pO [(0,.str s),(6,.sl σ.length 0 cl.length 0 (cl.length+1) 1),(7,.int .i64 fr),(8,.int .i64 i)] ([.cells cl.length ((cl++[[]]).flatMap ez)]::σ)
   (fun x e σ'=>∃(cl:List (List UInt8)) (fr:Nat),fr≤s.length∧cZ 32 s=cl++[s.drop fr]∧cl.length≤s.length∧x=.exit 0∧get e 0=.str s∧get e 6=.sl σ.length 0 cl.length 0 (cl.length+1) 1∧get e 7=.int .i64 fr∧σ'=[.cells cl.length ((cl++[[]]).flatMap ez)]::σ)
 |0,i,fr,cl,hi,hf,hc,hsp=>by
  refine aN pO.eq_1 ?_;obtain rfl:i=s.length:=by omega
  have h2:s.drop s.length=[]:=aA (by omega);have h3:(s.drop fr).take (s.length-fr)=s.drop fr:=aj (by simp);rw[h2,h3]at hsp;have h4:glue (s.drop fr) (cZ 32 [])=[s.drop fr]:=by simp[cZ,glue]
  rw[h4]at hsp;simp[-length_flatMap,-map_take,sF];exact⟨cl,fr,hf,hsp,hc,by simp⟩
 |m+1,i,fr,cl,hi,hf,hc,hsp=>by
  refine aN pO.eq_1 ?_;have h1:i<s.length:=by omega
  obtain⟨c,hcc⟩:=gE h1;have hcg:s[i]=c:=by have:=aI h1;rw[hcc]at this;exact(Option.some.inj this).symm
  have h4:=gG h1 (by omega);have e1:((i+1:Nat):Int)=(i:Int)+1:=by omega
  rw[cS hcc,M7]at hsp;by_cases c1:c=32
  ·subst c1;rw[if_pos rfl]at hsp;simp only[glue,dF]at hsp;have hw:IntKind.i64.wrap (((cl.length+1:Nat):Int)-1)=(cl.length:Int):=(fR (by omega)).trans (by omega);have hw0:IntKind.i64.wrap (cl.length:Int)=(cl.length:Int):=fR (by omega);have hw1:(cl.length:Int)<(cl.length:Int)+1:=by omega
   have hfl:=bZ (f:=ez) (w:=1) (fun _=>rfl) cl;have hr:(cl.length+1+1)*16≤room:=by unfold room;omega
   rw[dX]at hfl;have hd:((cl.flatMap ez)++[D.str []]).drop (cl.length+1)=[]:=aA (by rw[bx,hfl];simp);have ht:∀y:D,((cl.flatMap ez)++[y]).take (cl.length+1)=(cl.flatMap ez)++[y]:=fun y=>aj (by rw[bx,hfl];simp)
   have hfi:(fr:Int)≤i:=by omega
   have hil:(i:Int)≤s.length:=by omega
   have ih:=I6 hs m (i+1) (i+1) (cl++[(s.drop fr).take (i-fr)]) (by omega) (by omega) (by simp;omega) (by
    rw[Nat.sub_self,List.take_zero,K2 (uT _ _),hsp];simp)
   simp[-length_flatMap,-map_take,sF,h1,hcg,hw0,hw1,hfl,h4,hfi,hil,hr];exact WL.to ih (by simp) (by simp[hd,ht]) fun x e σ' hh=>hh
  ·have h':¬c.toNat=32:=fun h2=>c1 (UInt8.toNat_inj.1 h2)
   have h3:((c.toNat:Int) == 32)=false:=by simp;omega
   rw[if_neg c1,Q3]at hsp;have ih:=I6 hs m (i+1) fr cl (by omega) (by omega) (by omega) (by
    rw[hsp];have:(s.drop fr).take (i+1-fr)=(s.drop fr).take (i-fr)++[c]:=by
     rw[show i+1-fr=(i-fr)+1 by omega,List.take_add_one,eg,show fr+(i-fr)=i by omega,hcc];rfl
    rw[this])
   simp[-length_flatMap,-map_take,sF,h1,hcg,h3,h4];exact WL.to ih (by simp) (by simp) fun x e σ' hh=>hh
theorem FY{a nm:List UInt8}{ws r:List (List UInt8)}{v k:Nat}(hk:ws.drop k=r)(hr:k+r.length≤1000001):∀(m i:Nat) (acc:List Int),i+m=r.length→acc.length=i→oz r=(oz (r.drop i)).map (acc ++ ·) →
  WL T [9,10,11,12,13] false pP [(9,.str a),(10,.sl σ.length 0 v k r.length 1),(11,.str nm),(12,.sl σ.length 1 acc.length 0 acc.length 1),(13,.int .i64 i)] ([.cells v (ws.flatMap ez),.cells acc.length (acc.flatMap aT)]::σ)
   (fun x e σ'=>match oz r with
    |some l=>x=.exit 2∧get e 9=.str a∧get e 11=.str nm∧get e 12=.sl σ.length 1 l.length 0 l.length 1∧σ'=[.cells v (ws.flatMap ez),.cells l.length (l.flatMap aT)]::σ
    |none=>x=.ret∧get e 2=.str []∧get e 3=.str []∧get e 4=.aF∧get e 5=.bool false∧∃b,σ'=b::σ)
 |0,i,acc,hi,ha,hn=>by
  refine aN pP.eq_1 ?_;obtain rfl:i=r.length:=by omega
  have h2:r.drop r.length=[]:=aA (by omega);rw[h2]at hn;simp only[oz,aS,dF]at hn;simp[-length_flatMap,-map_take,hn]
 |m+1,i,acc,hi,ha,hn=>by
  refine aN pP.eq_1 ?_;have h1:i<r.length:=by omega
  obtain⟨s,hs⟩:=gE h1;have hs':ws[k+i]?=some s:=by rw[← hk,eg]at hs;exact hs
  have hdr:=Bi (f:=ez) (w:=1) (fun _=>rfl) hs';simp only[dX,ez,eP]at hdr;have h4:=gG h1 (by omega);rw[cS hs]at hn;have hB:=fun S=>afm (σ:=S) (s:=s)
  cases hv:Dd s with
  |none =>
   rw[hv]at hB;simp only[oz,hv,Option.map_none]at hn;simp[-length_flatMap,-map_take,h1,hdr,hB,hn]
  |some n =>
   rw[hv]at hB;simp only[oz,hv,Option.map_map]at hn;have hfl:=bZ (f:=aT) (w:=1) (fun _=>rfl) acc;rw[dX]at hfl;have tk:(acc.flatMap aT).take i=acc.flatMap aT:=aj (by omega);have hrm:(i+1)*8≤room:=by unfold room;omega
   have ih:=FY (a:=a) (nm:=nm) (v:=v) hk hr m (i+1) (acc++[n]) (by omega) (by simp[ha]) (by
    rw[hn];congr 1;funext l;simp)
   subst ha;simp[-length_flatMap,-map_take,h1,hdr,hB,h4,hfl,tk,hrm];exact WL.to ih (by simp) (by simp[aT]) fun x e σ' hh=>hh
def uA(a:List UInt8)(n:Int):Bool :=
 if(a == [102,105,101,108,100] || (a == [114,101,97,100] || a == [115,101,108,108]))=true then n == 4
 else if(a == [98,101,100] || (a == [119,101,108,108] || a == [107,101,101,112]))=true then n == 3
 else if(a == [114,117,108,101])=true then n == 10
 else if(a == [116,97,98,108,101])=true then n.tmod 5 == 0
 else if(a == [113,117,97,107,101])=true then n.tmod 4 == 0
 else if(a == [108,111,103])=true then decide (3≤n) && n.tmod 2 == 1
 else if(a == [117,110,105,116])=true then n.tmod 2 == 1
 else a == [109,111,100,101,108] || a == [116,105,99,107]
def HX(a nm:List UInt8)(r:List (List UInt8)):D:=match oz r with
 |some l => .dG [.str a,.str nm,.aH l.length (l.flatMap aT),.bool (uA a l.length)]
 |none => .dG [.str [],.str [],.aF,.bool false]
def Ru(a:List UInt8):List (List UInt8)→D
 |[] => .dG [.str [],.str [],.aF,.bool false]
 |nm::r=>HX a nm r
def JJ(s:List UInt8):D:=match cZ 32 s with
 |[] => .aF
 |a::all=>if(a == [109,111,100,101,108] || a == [108,111,103])=true then Ru a all else HX a [] all
theorem ae7{s:List UInt8}(hs:s.length≤1000000)(hσ:σ≠[]):lim T (.call false sf [.str s] σ)=some (.val (JJ s) σ):=by
 refine az HI u7.eq_1 rfl ?_;simp[-length_flatMap,-map_take];refine WL.to (I6 (σ:=σ) hs s.length 0 0 [] (by omega) (by omega) (by simp) (by show cZ 32 s=glue [] (cZ 32 s);rw[K2 (uT _ _)])) (by simp) (by simp) ?_;rintro x e σ' ⟨cl,fr,hf,hsp,hc,rfl,g0,g6,g7,rfl⟩;have hw:IntKind.i64.wrap (((cl.length+1:Nat):Int)-1)=(cl.length:Int):=(fR (by omega)).trans (by omega);have hw0:IntKind.i64.wrap (cl.length:Int)=(cl.length:Int):=fR (by omega);have hw1:(cl.length:Int)<(cl.length:Int)+1:=by omega
 have hfl:=bZ (f:=ez) (w:=1) (fun _=>rfl) cl;have hfs:(fr:Int)≤s.length:=by omega
 have hd:((cl.flatMap ez)++[D.str []]).drop (cl.length+1)=[]:=aA (by rw[bx,hfl];simp);obtain⟨a,all,ha⟩:∃a all,cl++[s.drop fr]=a::all:=by
  cases cl with
  |nil=>exact⟨_,_,rfl⟩
  |cons x l=>exact⟨_,_,rfl⟩
 have hal:all.length=cl.length:=by have:=congrArg List.length ha;simp at this;omega
 have hce:cl.flatMap ez++D.str (s.drop fr)::((cl.flatMap ez)++[D.str []]).drop (cl.length+1)=.str a::all.flatMap ez:=by
  rw[hd];have:=congrArg (List.flatMap ez) ha;simpa[ez]using this
 have h1c:(1:Int)≤(cl.length:Int)+1:=by omega
 have hrp:JJ s=if(a == [109,111,100,101,108] || a == [108,111,103])=true then Ru a all else HX a [] all:=by unfold JJ;rw[hsp,ha]
 rw[hrp];have hfr:∀(b:List Abs.aE) (l:List Int) (nm:List UInt8) (x:Bool),b[1]?=some (.cells l.length (l.flatMap aT))→∃S,cz (σ.length-1) 16 (.dG [.str a,.str nm,.sl σ.length 1 l.length 0 l.length 1,.bool x]) (b::σ)=(.dG [.str a,.str nm,.aH l.length (l.flatMap aT),.bool x],S::σ):=by
  intro b l nm x hb;have f0:=xO (n:=15) (f:=aT) (w:=1) (l:=l) (by decide) (fun _=>rfl) (fun _=>by simp[aT,D.clean]) hσ hb;have h1:∀(s:List UInt8) (S:SK),cz (σ.length-1) 15 (.str s) S=(.str s,S):=fun s S=>jj rfl (by decide)
  have h2:∀(s:Bool) (S:SK),cz (σ.length-1) 15 (.bool s) S=(.bool s,S):=fun s S=>jj rfl (by decide)
  refine⟨b.set 1 .dead,?_⟩;rw[BI (by simp[D.clean,D.bz]) (by omega)];simp only[wA,yV,Nat.reduceSub,h1,h2,f0]
 simp[-length_flatMap,-map_take,sF,g0,g6,g7,hw0,hw1,hfl,hfs,hce,h1c];clear hrp hce hd hsp;rw[← hal];have hal2:all.length≤1000000:=by omega
 by_cases c1:a=[109,111,100,101,108]
 ·subst c1;cases all with
  |nil=>simp[-length_flatMap,-map_take,sF,Ru]
  |cons nm r =>
   have hr2:(2:Nat)+r.length≤1000001:=by simp at hal2;omega
   have hL:=FY (σ:=σ) (a:=[109,111,100,101,108]) (nm:=nm) (ws:=[109,111,100,101,108]::nm::r) (r:=r) (k:=2) (v:=r.length+1) rfl hr2 r.length 0 [] (by omega) rfl (by simp);have hr0:¬(r.length:Int)+1=0:=by omega
   have hr1:(1:Int)≤(r.length:Int)+1:=by omega
   simp[-length_flatMap,-map_take,sF,Ru,hr0,hr1];refine WL.to hL (by simp) (by simp) ?_;intro x e σ' hh;unfold HX;cases hn:oz r with
   |none=>rw[hn]at hh;obtain⟨rfl,g2,g3,g4,g5,b,rfl⟩:=hh;simp[g2,g3,g4,g5]
   |some l =>
    rw[hn]at hh;obtain⟨rfl,g9,g11,g12,rfl⟩:=hh;simp[-length_flatMap,-map_take,sF,g9,g11,g12,uA];exact hfr _ l nm true rfl
 by_cases c2:a=[108,111,103]
 ·subst c2;cases all with
  |nil=>simp[-length_flatMap,-map_take,sF,Ru]
  |cons nm r =>
   have hr2:(2:Nat)+r.length≤1000001:=by simp at hal2;omega
   have hL:=FY (σ:=σ) (a:=[108,111,103]) (nm:=nm) (ws:=[108,111,103]::nm::r) (r:=r) (k:=2) (v:=r.length+1) rfl hr2 r.length 0 [] (by omega) rfl (by simp);have hr0:¬(r.length:Int)+1=0:=by omega
   have hr1:(1:Int)≤(r.length:Int)+1:=by omega
   simp[-length_flatMap,-map_take,sF,Ru,hr0,hr1];refine WL.to hL (by simp) (by simp) ?_;intro x e σ' hh;unfold HX;cases hn:oz r with
   |none=>rw[hn]at hh;obtain⟨rfl,g2,g3,g4,g5,b,rfl⟩:=hh;simp[g2,g3,g4,g5]
   |some l =>
    rw[hn]at hh;obtain⟨rfl,g9,g11,g12,rfl⟩:=hh;by_cases h3:(3:Int)≤l.length
    ·simp[-length_flatMap,-map_take,sF,g9,g11,g12,uA,h3];exact hfr _ l nm _ rfl
    ·simp[-length_flatMap,-map_take,sF,g9,g11,g12,uA,h3];exact hfr _ l nm _ rfl
 have hr2:(1:Nat)+all.length≤1000001:=by omega
 have hL:=FY (σ:=σ) (a:=a) (nm:=[]) (ws:=a::all) (r:=all) (k:=1) (v:=all.length) rfl hr2 all.length 0 [] (by omega) rfl (by simp);have c1':(a == [109,111,100,101,108])=false:=by simpa using c1
 have c2':(a == [108,111,103])=false:=by simpa using c2
 simp[-length_flatMap,-map_take,sF,c1,c2];refine WL.to hL (by simp) (by simp) ?_;intro x e σ' hh;unfold HX;cases hn:oz all with
 |none=>rw[hn]at hh;obtain⟨rfl,g2,g3,g4,g5,b,rfl⟩:=hh;simp[g2,g3,g4,g5,c1,c2]
 |some l =>
  rw[hn]at hh;obtain⟨rfl,g9,g11,g12,rfl⟩:=hh;by_cases w0:a=[102,105,101,108,100]
  ·subst w0;simp[-length_flatMap,-map_take,sF,g9,g11,g12,uA];exact hfr _ l [] _ rfl
  by_cases w1:a=[114,101,97,100]
  ·subst w1;simp[-length_flatMap,-map_take,sF,g9,g11,g12,uA];exact hfr _ l [] _ rfl
  by_cases w2:a=[115,101,108,108]
  ·subst w2;simp[-length_flatMap,-map_take,sF,g9,g11,g12,uA];exact hfr _ l [] _ rfl
  by_cases w3:a=[98,101,100]
  ·subst w3;simp[-length_flatMap,-map_take,sF,g9,g11,g12,uA];exact hfr _ l [] _ rfl
  by_cases w4:a=[119,101,108,108]
  ·subst w4;simp[-length_flatMap,-map_take,sF,g9,g11,g12,uA];exact hfr _ l [] _ rfl
  by_cases w5:a=[107,101,101,112]
  ·subst w5;simp[-length_flatMap,-map_take,sF,g9,g11,g12,uA];exact hfr _ l [] _ rfl
  by_cases w6:a=[114,117,108,101]
  ·subst w6;simp[-length_flatMap,-map_take,sF,g9,g11,g12,uA];exact hfr _ l [] _ rfl
  by_cases w7:a=[116,97,98,108,101]
  ·subst w7;simp[-length_flatMap,-map_take,sF,g9,g11,g12,uA];exact hfr _ l [] _ rfl
  by_cases w8:a=[113,117,97,107,101]
  ·subst w8;simp[-length_flatMap,-map_take,sF,g9,g11,g12,uA];exact hfr _ l [] _ rfl
  by_cases w9:a=[117,110,105,116]
  ·subst w9;simp[-length_flatMap,-map_take,sF,g9,g11,g12,uA];exact hfr _ l [] _ rfl
  by_cases w10:a=[116,105,99,107]
  ·subst w10;simp[-length_flatMap,-map_take,sF,g9,g11,g12,uA];exact hfr _ l [] _ rfl
  simp[-length_flatMap,-map_take,sF,g9,g11,g12,uA,c1,c2,w0,w1,w2,w3,w4,w5,w6,w7,w8,w9,w10];have hz:(a == [109,111,100,101,108] || a == [116,105,99,107])=false:=by simp[c1,w10]
  rw[hz];exact hfr _ l [] _ rfl
end
section
open Go Go.Abs Go.Rock Go.Book
theorem adm{a:List UInt8}{w:Wd}(h:(a,w)∈ot){n:Nat}(hf:EF w n=true):uA a n=true:=by
 have t5:(n:Int).tmod 5=(n:Int)%5:=Int.tmod_eq_emod_of_nonneg (by omega);have t4:(n:Int).tmod 4=(n:Int)%4:=Int.tmod_eq_emod_of_nonneg (by omega);have t2:(n:Int).tmod 2=(n:Int)%2:=Int.tmod_eq_emod_of_nonneg (by omega);have t3:0<(n:Int)-3→((n:Int)-3).tmod 2=((n:Int)-3)%2:=fun h=>Int.tmod_eq_emod_of_nonneg (by omega)
 have t1:0<(n:Int)-1→((n:Int)-1).tmod 2=((n:Int)-1)%2:=fun h=>Int.tmod_eq_emod_of_nonneg (by omega)
 simp only[ot,aW,ak,List.not_mem_nil,or_false]at h;unfold EF at hf;simp only[bX,af,au]at hf;rcases h with⟨rfl,rfl⟩ | ⟨rfl,rfl⟩ | ⟨rfl,rfl⟩ | ⟨rfl,rfl⟩ | ⟨rfl,rfl⟩ | ⟨rfl,rfl⟩ | ⟨rfl,rfl⟩ | ⟨rfl,rfl⟩ | ⟨rfl,rfl⟩ | ⟨rfl,rfl⟩ | ⟨rfl,rfl⟩ | ⟨rfl,rfl⟩ | ⟨rfl,rfl⟩<;>
  simp only[Int.sub_zero,t5,t4]at hf<;>simp[uA,t5,t4,t2]<;>
  (try (rcases hf with hf | ⟨hf,hf2,hf3⟩<;>(try rw[t3 hf]at hf3)<;>(try rw[t1 hf]at hf3)<;>omega))
theorem aeb{s:List UInt8}{w:Wd}{nm:List UInt8}{l:List Int}(h:parse s=some (w,nm,l)):∃a,(a,w)∈ot∧JJ s=.dG [.str a,.str nm,.aH l.length (l.flatMap aT),.bool true]:=by
 unfold parse at h;unfold JJ;cases hsp:cZ 32 s with
 |nil=>rw[hsp]at h;cases h
 |cons a all =>
  rw[hsp]at h;simp only at h ⊢;cases hw:xo a with
  |none=>rw[hw]at h;cases h
  |some v =>
   rw[hw]at h;simp only at h;have hm:=BE hw;have key:∀{nm':List UInt8} {r:List (List UInt8)},tY v nm' r=some (w,nm,l)→v=w∧HX a nm' r=.dG [.str a,.str nm,.aH l.length (l.flatMap aT),.bool true]:=by
    intro nm' r h;unfold tY at h;unfold HX;cases hn:oz r with
    |none=>rw[hn]at h;cases h
    |some ns =>
     rw[hn]at h;simp only at h ⊢;split at h
     ·rename_i hf;cases h;rw[adm hm hf];exact⟨rfl,rfl⟩
     ·cases h
   have hnm:(a == [109,111,100,101,108] || a == [108,111,103])=v.named:=by
    have hm:=hm;simp only[ot,aW,ak,List.not_mem_nil,or_false]at hm;rcases hm with⟨rfl,rfl⟩ | ⟨rfl,rfl⟩ | ⟨rfl,rfl⟩ | ⟨rfl,rfl⟩ | ⟨rfl,rfl⟩ | ⟨rfl,rfl⟩ | ⟨rfl,rfl⟩ | ⟨rfl,rfl⟩ | ⟨rfl,rfl⟩ | ⟨rfl,rfl⟩ | ⟨rfl,rfl⟩ | ⟨rfl,rfl⟩ | ⟨rfl,rfl⟩<;>rfl
   rw[hnm];split at h
   ·rename_i hv;rw[if_pos hv];cases all with
    |nil=>cases h
    |cons n r =>
     obtain⟨rfl,h2⟩:=key h;exact⟨a,hm,h2⟩
   ·rename_i hv;rw[if_neg hv];obtain⟨rfl,h2⟩:=key h;exact⟨a,hm,h2⟩
theorem Hh(a nm:List UInt8)(r:List (List UInt8)):∃x y d f,HX a nm r=.dG [.str x,.str y,d,.bool f]∧(d=.aF∨∃l:List Int,d=.aH l.length (l.flatMap aT)):=by
 unfold HX;cases oz r with
 |none=>exact⟨_,_,_,_,rfl,.inl rfl⟩
 |some l=>exact⟨_,_,_,_,rfl,.inr ⟨l,rfl⟩⟩
theorem Ry(s:List UInt8):∃x y d f,JJ s=.dG [.str x,.str y,d,.bool f]∧(d=.aF∨∃l:List Int,d=.aH l.length (l.flatMap aT)):=by
 unfold JJ;cases hsp:cZ 32 s with
 |nil=>exact absurd hsp (uT _ _)
 |cons a all =>
  simp only;split
  ·cases all with
   |nil=>exact⟨_,_,_,_,rfl,.inl rfl⟩
   |cons n r=>exact Hh _ _ _
  ·exact Hh _ _ _
theorem Hn:∀{l:List (List UInt8)} {b:Bk} {k:Int} {i:Nat} {s:List UInt8},l[i]?=some s →
  (tg b k (l.take (i+1))).1=(pG (tg b k (l.take i)).1 (k+i) s).1∧(tg b k l).2[i]?=some (pG (tg b k (l.take i)).1 (k+i) s).2
 |[],b,k,i,s,h=>by simp at h
 |x::l,b,k,0,s,h=>by
  simp only[cb,ae]at h;subst h;simp[tg]
 |x::l,b,k,i+1,s,h=>by
  have ih:=Hn (l:=l) (b:=(pG b k x).1) (k:=k+1) (i:=i) (s:=s) (by simpa using h);have e:k+1+(i:Int)=k+((i+1:Nat):Int):=by omega
  rw[e]at ih;simpa[tg]using ih
end
section
open Go Go.Abs Go.Rock Go.Book
variable {σ:SK}
def stB(b:Bk):List D:=[.int .i64 b.bH.f.x,.int .i64 b.bH.f.y,.int .i64 b.bH.f.z,.int .i64 b.bH.f.k,nl Rw.enc b.bH.ck,.int .i64 b.bH.bJ,.int .i64 b.bH.lift,.int .i64 b.bH.deep,nl bG.enc b.bH.an,
 .aH b.ar.length (b.ar.flatMap mD.enc),nl pE b.av,.aH b.rules.length (b.rules.flatMap Trem.eI.enc),.aH b.zg.length (b.zg.flatMap Trem.Ev.enc),.int .i64 b.k0,.int .i64 b.k1,.int .i64 b.k2,
 .aH b.dU.length (b.dU.flatMap xx.enc),.aH b.jB.length (b.jB.flatMap LU.enc)]
theorem SY{α:Type}{f:α→List D}(h:∀x,D.bz (f x)=true)(l:List α):(nl f l).clean=true:=by
 unfold nl;split
 ·rfl
 ·simp[D.clean,gX h l]
theorem ko{α:Type}{f:α→List D}{w n:Nat}(hn:1<n)(hw:∀x,(f x).length=w)(hc:∀x,D.bz (f x)=true){l:List α}{j v m:Nat}{bs bs':List Abs.aE}(hσ:σ≠[])(hm:m=l.length)(hj:bs[j]?=some (.cells v (l.flatMap f)))(hb:bs.set j .dead=bs'):
  cz (σ.length-1) n (.sl σ.length j v 0 m w) (bs::σ)=(.aH m (l.flatMap f),bs'::σ):=by
 subst hb;subst hm;exact xO hn hw hc hσ hj
theorem Q0{b:Bk}{er:List Int}(hσ:σ≠[]):cz (σ.length-1) 16 (.dG [.agg ((b.cells σ.length).take 18),.sl σ.length 7 er.length 0 er.length 1,.int .i64 0]) (b.bw σ.length er::σ) =
  (.dG [.agg (stB b),.aH er.length (er.flatMap aT),.int .i64 0],[.dead,.dead,.dead,.dead,.dead,.cells b.o7.length (b.o7.flatMap Mq.enc),.cells 0 (b.cells σ.length),.dead]::σ):=by
 have c1:(nl Rw.enc b.bH.ck).clean=true:=SY (fun _=>by simp[D.clean]) _;have c2:(nl bG.enc b.bH.an).clean=true:=SY (fun _=>by simp[D.clean]) _;have c3:(nl pE b.av).clean=true:=SY (fun x=>by simp[pE,D.clean,bq]) _;have q1:∀x:mD,D.bz x.enc=true:=fun x=>by simp[D.clean,bq]
 have q2:∀x:Trem.eI,D.bz x.enc=true:=fun x=>by simp[D.clean]
 have q3:∀x:Trem.Ev,D.bz x.enc=true:=fun x=>by simp[D.clean,gX (f:=Trem.wy.enc) (fun _=>by simp[D.clean])]
 have q4:∀x:xx,D.bz x.enc=true:=fun x=>by simp[D.clean,gX (f:=Prt.enc) (fun _=>by simp[D.clean])]
 have q5:∀x:LU,D.bz x.enc=true:=fun x=>by simp[D.clean]
 have q6:∀x:Int,D.bz (aT x)=true:=fun x=>by simp[aT,D.clean]
 generalize hA5:Abs.aE.cells b.o7.length (b.o7.flatMap Mq.enc)=A5;generalize hA6:Abs.aE.cells 0 (b.cells σ.length)=A6;have f0:=ko (σ:=σ) (n:=14) (w:=4) (by omega) (fun _=>rfl) q1 (l:=b.ar) (j:=0) (v:=b.ar.length) (bs:=b.bw σ.length er) hσ rfl rfl rfl;have f1:=ko (σ:=σ) (n:=14) (w:=10) (by omega) (fun _=>rfl) q2 (l:=b.rules) (j:=1) (v:=b.rules.length) (bs:=(b.bw σ.length er).set 0 .dead) hσ rfl rfl rfl;have f2:=ko (σ:=σ) (n:=14) (w:=2) (by omega) (fun _=>rfl) q3 (l:=b.zg) (j:=2) (v:=b.zg.length) (bs:=((b.bw σ.length er).set 0 .dead).set 1 .dead) hσ rfl rfl rfl;have f3:=ko (σ:=σ) (n:=14) (w:=2) (by omega) (fun _=>rfl) q4 (l:=b.dU) (j:=3) (v:=b.dU.length) (bs:=(((b.bw σ.length er).set 0 .dead).set 1 .dead).set 2 .dead) hσ rfl rfl rfl;have f4:=ko (σ:=σ) (n:=14) (w:=6) (by omega) (fun _=>rfl) q5 (l:=b.jB) (j:=4) (v:=b.jB.length) (bs:=((((b.bw σ.length er).set 0 .dead).set 1 .dead).set 2 .dead).set 3 .dead) hσ rfl rfl rfl;have f5:=ko (σ:=σ) (n:=15) (w:=1) (by omega) (fun _=>rfl) q6 (l:=er) (j:=7) (v:=er.length) (bs:=(((((b.bw σ.length er).set 0 .dead).set 1 .dead).set 2 .dead).set 3 .dead).set 4 .dead) hσ rfl rfl rfl;have hi:∀(k:Int) (n:Nat) (S:SK),0<n→cz (σ.length-1) n (.int .i64 k) S=(.int .i64 k,S):=fun k n S hn=>jj (by rfl) hn
 rw[BI (by simp[Bk.cells,D.clean,D.bz]) (by omega)];simp only[wA,yV];rw[Pr (by simp[Bk.cells,D.clean]) (by omega)];simp only[Bk.cells,List.take_succ_cons,List.take_zero,wA,yV,Nat.reduceSub];simp only[hi _ 14 _ (by omega),jj c1 (show 0<14 by omega),jj c2 (show 0<14 by omega),jj c3 (show 0<14 by omega),f0,f1,f2,f3,f4,f5,hi _ 15 _ (by omega)];simp only[Bk.bw,List.set_cons_zero,List.set_cons_succ,hA5,stB];rw[← hA6]
theorem agG{lines:List (List UInt8)}(hl:Rp lines)(hσ:σ≠[]):lim T (.call false pC [.aH lines.length (lines.flatMap ez)] σ) =
  some (.val (.dG [.agg (stB (ub lines).1),.aH lines.length ((ub lines).2.flatMap aT),.int .i64 0]) σ):=by
 refine az HF uZ.eq_1 rfl ?_;have hC:=fun S=>R0 (σ:=S) (l:=lines) (by have:=hl.1;omega)
 have hok:okB lines=true:=PT.2 hl;simp only[hok,if_true]at hC;have hR:=amf (σ:=σ) (lines:=lines) hl;have hlen:(ub lines).2.length=lines.length:=BS;have hf:=Q0 (σ:=σ) (b:=(ub lines).1) (er:=(ub lines).2) hσ;rw[hlen]at hf;generalize ub lines=r at hR hlen hf ⊢;obtain⟨b,er⟩:=r;simp only at hR hf hlen ⊢;simp only[Bk.cells,Bk.bw,List.take_succ_cons,List.take_zero]at hf hR;simp[-length_flatMap,-map_take,hC,hR];exact⟨_,hf⟩
theorem Ka{s t:List UInt8}:lim T (.call false lP [.str s,.str t] σ)=some (.val (.bool (decide (t.length≤s.length) && (s.take t.length == t))) σ):=by
 refine az Gq tD.eq_1 rfl ?_;by_cases h:t.length≤s.length
 ·have h':(t.length:Int)≤s.length:=by omega
  simp[-length_flatMap,-map_take,sF,h,h']
 ·have h':¬(t.length:Int)≤s.length:=by omega
  simp[-length_flatMap,-map_take,sF,h,h']
theorem agM{l:List (List UInt8)}(hl:l.length≤9223372036854775807):∀(m i:Nat) (x y z:Int),i+m=l.length →
  WL T [0,3,4,5,6] false sn [(0,.aH l.length (l.flatMap ez)),(3,.int .i64 x),(4,.int .i64 y),(5,.int .i64 z),(6,.int .i64 i)] σ
   (fun x e σ'=>σ'=σ∧x=.exit 0∧get e 0=.aH l.length (l.flatMap ez)∧∃u v w,get e 3=.int .i64 u∧get e 4=.int .i64 v∧get e 5=.int .i64 w)
 |0,i,x,y,z,hi=>by
  refine aN sn.eq_1 ?_;have h1:¬i<l.length:=by omega
  simp[-length_flatMap,-map_take,h1]
 |m+1,i,x,y,z,hi=>by
  refine aN sn.eq_1 ?_;have h1:i<l.length:=by omega
  obtain⟨s,hs⟩:=gE h1;have a1:=bR (f:=ez) (w:=1) (fun _=>rfl) hs;simp only[ez,dX]at a1;have h4:=gG h1 (by omega);have hB:=fun t σ=>@Ka σ s t
  have e1:((i+1:Nat):Int)=(i:Int)+1:=by omega
  have ih:=fun x y z=>agM hl m (i+1) x y z (by omega)
  rw[e1]at ih;rw[e1]at h4;generalize hv:(fun t:List UInt8=>decide (t.length≤s.length) && (s.take t.length == t))=v at hB;have hB':∀t σ,lim T (.call false lP [.str s,.str t] σ)=some (.val (.bool (v t)) σ):=fun t σ=>by rw[← hv];exact Ka
  cases c1:v [109,111,100,101,108]<;>cases c2:v [116,105,99,107]<;>simp[-length_flatMap,-map_take,sF,h1,a1,h4,hB',c1,c2]<;>
   exact WL.to (ih _ _ _) rfl rfl fun x e σ' hh=>by simpa using hh
theorem asC{l:List (List UInt8)}(hl:l.length≤9223372036854775807)(σ:SK):∃v,lim T (.call false vu [.aH l.length (l.flatMap ez)] σ)=some (.val (.bool v) σ)∧(v=true→l.length≤103):=by
 obtain⟨x,e,σ',h1,rfl,rfl,g0,u,v,w,g3,g4,g5⟩:=agM (σ:=[]::σ) hl l.length 0 0 0 0 (by omega);refine⟨decide (v≤4) && (decide (w≤8) && (decide (u≤5000) && (decide ((l.length:Int)≤40) || (decide (u≤400) && decide ((l.length:Int)≤103))))),?_,fun h=>by simp only[af,bX,au]at h;omega⟩;refine az Kp xH.eq_1 rfl ?_;simp[-length_flatMap,-map_take];refine⟨_,_,_,by simpa using h1,?_⟩;by_cases c1:v≤4<;>by_cases c2:w≤8<;>by_cases c3:u≤5000<;>by_cases c4:(l.length:Int)≤40<;>by_cases c5:u≤400<;>by_cases c6:(l.length:Int)≤103<;>
  simp[-length_flatMap,-map_take,g0,g3,g4,g5,c1,c2,c3,c4,c5,c6]
end
end Go.Proofs.YtfgljaglidhjiaaGreatDoor
set_option maxRecDepth 1000000
namespace Go.Proofs.YtfgljaglidhjiaaGreatDoor
open List(length_flatMap map_take)
open Go Go.Abs
def qI(n:Int):D:=.int .i64 n
def GV:D:=(.aH 3 [(qI 100),(qI 101),(qI 419),(qI 2676),(qI 150),(qI 150),(qI 476),(qI 632),(qI 2746),(qI 300),(qI 200),(qI 1555),(qI 852),(qI 2793),(qI 600)])
def cV:aE:=.cells 0 []
def dq2:D:=(.aH 1 [(qI 0),(qI 500),(qI 5)])
def dq3:D:=(.aH 8 [(qI 8000),(qI 8000),(qI 500),(qI 400),(qI 900),(qI 400),(qI 0),(qI 10)])
def QS:D:=(.sl 3 13 0 0 0 6)
def dq5:D:=(.aH 8 [(qI 8000),(qI 8000),(qI 500),(qI 400),(qI 900),(qI 500),(qI 0),(qI 10)])
def QT:D:=(.sl 3 4 0 0 0 6)
def RP:D:=(.sl 3 3 0 0 0 2)
def S8:D:=(.sl 3 12 0 0 0 2)
def dq9:D:=(.sl 3 2 0 0 0 2)
def KH:D:=(.sl 3 14 2 0 2 4)
def KI:D:=(.sl 3 11 0 0 0 2)
def KJ:D:=(.sl 3 1 0 0 0 10)
def amR:D:=(.aH 2 [(.aH 1 [(qI (-50))]),(.aH 1 [(qI 50)])])
def KK:D:=(.sl 3 9 2 0 2 4)
def KL:D:=(.sl 3 5 2 0 2 4)
def KM:D:=(.sl 3 0 2 0 2 4)
def MC:D:=(.sl 3 10 0 0 0 10)
def QQ:D:=(.sl 3 10 1 0 1 10)
def QR:D:=(.sl 3 1 1 0 1 10)
def b0:aE:=.cells 0 [(qI 0),(qI 0),(qI 0),(qI 0),.aF,(qI 0),(qI 0),(qI 0),.aF,(.sl 3 0 0 0 0 4),.aF,KJ,dq9,(qI 1000),(qI 500),(qI 0),RP,QT,(.bool false),(.sl 3 5 0 0 0 4),(qI 0)]
def b1:aE:=.cells 0 [(qI 2),(qI 1),(qI 1),(qI 4),.aF,(qI 0),(qI 0),(qI 0),.aF,(.sl 3 0 0 0 0 4),.aF,KJ,dq9,(qI 1000),(qI 500),(qI 0),RP,QT,(.bool false),(.sl 3 5 0 0 0 4),(qI 0)]
def b2:aE:=.cells 0 [(qI 2),(qI 1),(qI 1),(qI 4),GV,(qI 0),(qI 0),(qI 0),.aF,(.sl 3 0 0 0 0 4),.aF,KJ,dq9,(qI 1000),(qI 500),(qI 0),RP,QT,(.bool false),(.sl 3 5 0 0 0 4),(qI 1)]
def b3:aE:=.cells 0 [(qI 2),(qI 1),(qI 1),(qI 4),GV,(qI 1000),(qI 0),(qI 800),.aF,(.sl 3 0 0 0 0 4),.aF,KJ,dq9,(qI 1000),(qI 500),(qI 0),RP,QT,(.bool true),(.sl 3 5 0 0 0 4),(qI 2)]
def b4:aE:=.cells 3 [(qI 0),(qI 0),(qI 0)]
def b5:aE:=.cells 0 [(qI 2),(qI 1),(qI 1),(qI 4),GV,(qI 1000),(qI 0),(qI 800),dq2,(.sl 3 0 0 0 0 4),.aF,KJ,dq9,(qI 1000),(qI 500),(qI 0),RP,QT,(.bool true),(.sl 3 5 0 0 0 4),(qI 3)]
def b6:aE:=.cells 4 [(qI 0),(qI 0),(qI 0),(qI 0)]
def b7:aE:=.cells 1 [(.str [97]),dq3,(.bool true),(qI 0)]
def b8:aE:=.cells 1 [(qI 0),(qI 0),(qI 0),(qI 0)]
def b9:aE:=.cells 0 [(qI 2),(qI 1),(qI 1),(qI 4),GV,(qI 1000),(qI 0),(qI 800),dq2,(.sl 3 0 1 0 1 4),.aF,KJ,dq9,(qI 1000),(qI 500),(qI 0),RP,QT,(.bool true),(.sl 3 5 1 0 1 4),(qI 4)]
def b10:aE:=.cells 5 [(qI 0),(qI 0),(qI 0),(qI 0),(qI 0)]
def b11:aE:=.cells 2 [(.str [97]),dq3,(.bool true),(qI 0),(.str [98]),dq5,(.bool true),(qI 0)]
def b12:aE:=.cells 2 [(qI 0),(qI 0),(qI 0),(qI 0),(qI 0),(qI 0),(qI 0),(qI 0)]
def b13:aE:=.cells 0 [(qI 2),(qI 1),(qI 1),(qI 4),GV,(qI 1000),(qI 0),(qI 800),dq2,KM,.aF,KJ,dq9,(qI 1000),(qI 500),(qI 0),RP,QT,(.bool true),KL,(qI 5)]
def b14:aE:=.cells 6 [(qI 0),(qI 0),(qI 0),(qI 0),(qI 0),(qI 0)]
def Ay:aE:=.cells 2 [(.str [97]),dq3,(.bool true),(qI 0),(.str [98]),dq5,(.bool false),(qI 6)]
def Az:aE:=.cells 2 [(qI 0),(qI 0),(qI 0),(qI 0),(qI 6),(qI 500),(qI 390),(qI 410)]
def b17:aE:=.cells 0 [(qI 2),(qI 1),(qI 1),(qI 4),GV,(qI 1000),(qI 0),(qI 800),dq2,KM,.aF,KJ,dq9,(qI 1000),(qI 500),(qI 0),RP,QT,(.bool true),KL,(qI 6)]
def b18:aE:=.cells 7 [(qI 0),(qI 0),(qI 0),(qI 0),(qI 0),(qI 0),(qI 0)]
def xq:aE:=.cells 1 [(qI 0),(qI 0),(qI 0),(qI 9),(qI 9),(qI 9),(qI 20),(qI 5),(qI 1),(.int .u8 (1))]
def b20:aE:=.cells 0 [(qI 2),(qI 1),(qI 1),(qI 4),GV,(qI 1000),(qI 0),(qI 800),dq2,KM,.aF,QR,dq9,(qI 1000),(qI 500),(qI 0),RP,QT,(.bool true),KL,(qI 7)]
def b21:aE:=.cells 8 [(qI 0),(qI 0),(qI 0),(qI 0),(qI 0),(qI 0),(qI 0),(qI 0)]
def yF:aE:=.cells 1 [(qI 0),(.aH 1 [(qI 1),(qI 1),(qI 1),(qI 25)])]
def b23:aE:=.cells 0 [(qI 2),(qI 1),(qI 1),(qI 4),GV,(qI 1000),(qI 0),(qI 800),dq2,KM,.aF,QR,(.sl 3 2 1 0 1 2),(qI 1000),(qI 500),(qI 0),RP,QT,(.bool true),KL,(qI 8)]
def b24:aE:=.cells 9 [(qI 0),(qI 0),(qI 0),(qI 0),(qI 0),(qI 0),(qI 0),(qI 0),(qI 0)]
def b25:aE:=.cells 0 [(qI 2),(qI 1),(qI 1),(qI 4),GV,(qI 1000),(qI 0),(qI 800),dq2,KM,(.aH 1 [(.aH 1 [(qI (-50))])]),QR,(.sl 3 2 1 0 1 2),(qI 1000),(qI 500),(qI 0),RP,QT,(.bool true),KL,(qI 9)]
def b26:aE:=.cells 10 [(qI 0),(qI 0),(qI 0),(qI 0),(qI 0),(qI 0),(qI 0),(qI 0),(qI 0),(qI 0)]
def b27:aE:=.cells 0 [(qI 2),(qI 1),(qI 1),(qI 4),GV,(qI 1000),(qI 0),(qI 800),dq2,KM,amR,QR,(.sl 3 2 1 0 1 2),(qI 1000),(qI 500),(qI 0),RP,QT,(.bool true),KL,(qI 10)]
def b28:aE:=.cells 11 [(qI 0),(qI 0),(qI 0),(qI 0),(qI 0),(qI 0),(qI 0),(qI 0),(qI 0),(qI 0),(qI 0)]
def Dl:aE:=.cells 1 [(qI 0),(.aH 1 [(qI 100),(qI 400)])]
def b30:aE:=.cells 0 [(qI 2),(qI 1),(qI 1),(qI 4),GV,(qI 1000),(qI 0),(qI 800),dq2,KM,amR,QR,(.sl 3 2 1 0 1 2),(qI 1000),(qI 500),(qI 0),(.sl 3 3 1 0 1 2),QT,(.bool true),KL,(qI 11)]
def b31:aE:=.cells 12 [(qI 0),(qI 0),(qI 0),(qI 0),(qI 0),(qI 0),(qI 0),(qI 0),(qI 0),(qI 0),(qI 0),(qI 0)]
def FN:aE:=.cells 1 [(qI 2),(qI 0),(qI 4000),(qI 4000),(qI 12000),(qI 12000)]
def FO:aE:=.cells 0 [(qI 2),(qI 1),(qI 1),(qI 4),GV,(qI 1000),(qI 0),(qI 800),dq2,KM,amR,QR,(.sl 3 2 1 0 1 2),(qI 1000),(qI 500),(qI 0),(.sl 3 3 1 0 1 2),(.sl 3 4 1 0 1 6),(.bool true),KL,(qI 12)]
def FZ:aE:=.cells 13 [(qI 0),(qI 0),(qI 0),(qI 0),(qI 0),(qI 0),(qI 0),(qI 0),(qI 0),(qI 0),(qI 0),(qI 0),(qI 0)]
def F0:aE:=.cells 1 [(.str [102,105,101,108,100,32,50,32,49,32,49,32,52]),(.str [116,97,98,108,101,32,49,48,48,32,49,48,49,32,52,49,57,32,50,54,55,54,32,49,53,48,32,49,53,48,32,52,55,54,32,54,51,50,32,50,55,52,54,32,51,48,48,32,50,48,48,32,49,53,53,53,32,56,53,50,32,50,55,57,51,32,54,48,48]),(.str [98,101,100,32,49,48,48,48,32,48,32,56,48,48]),(.str [109,111,100,101,108,32,97,32,56,48,48,48,32,56,48,48,48,32,53,48,48,32,52,48,48,32,57,48,48,32,52,48,48,32,48,32,49,48]),(.str [109,111,100,101,108,32,98,32,56,48,48,48,32,56,48,48,48,32,53,48,48,32,52,48,48,32,57,48,48,32,53,48,48,32,48,32,49,48]),(.str [108,111,103,32,116,49,32,50,32,51,57,48,32,52,49,48,32,49,32,49]),(.str [114,117,108,101,32,48,32,48,32,48,32,57,32,57,32,57,32,50,48,32,53,32,49,32,49]),(.str [113,117,97,107,101,32,49,32,49,32,49,32,50,53]),(.str [116,105,99,107,32,45,49,48,48]),(.str [116,105,99,107,32,53,48]),(.str [117,110,105,116,32,48,32,49,48,48,32,52,48,48]),(.str [115,101,108,108,32,48,32,48,32,48,32,51]),(.str [])]
def b36:aE:=.cells 0 [(qI 0),(qI 0),(qI 0),(qI 0),.aF,(qI 0),(qI 0),(qI 0),.aF,(.sl 3 9 0 0 0 4),.aF,MC,KI,(qI 1000),(qI 500),(qI 0),S8,QS,(.bool false),(.sl 3 14 0 0 0 4),(qI 0)]
def b37:aE:=.cells 0 [(qI 2),(qI 1),(qI 1),(qI 4),.aF,(qI 0),(qI 0),(qI 0),.aF,(.sl 3 9 0 0 0 4),.aF,MC,KI,(qI 1000),(qI 500),(qI 0),S8,QS,(.bool false),(.sl 3 14 0 0 0 4),(qI 0)]
def b38:aE:=.cells 0 [(qI 2),(qI 1),(qI 1),(qI 4),GV,(qI 0),(qI 0),(qI 0),.aF,(.sl 3 9 0 0 0 4),.aF,MC,KI,(qI 1000),(qI 500),(qI 0),S8,QS,(.bool false),(.sl 3 14 0 0 0 4),(qI 1)]
def b39:aE:=.cells 0 [(qI 2),(qI 1),(qI 1),(qI 4),GV,(qI 1000),(qI 0),(qI 800),.aF,(.sl 3 9 0 0 0 4),.aF,MC,KI,(qI 1000),(qI 500),(qI 0),S8,QS,(.bool true),(.sl 3 14 0 0 0 4),(qI 2)]
def b40:aE:=.cells 0 [(qI 2),(qI 1),(qI 1),(qI 4),GV,(qI 1000),(qI 0),(qI 800),.aF,(.sl 3 9 1 0 1 4),.aF,MC,KI,(qI 1000),(qI 500),(qI 0),S8,QS,(.bool true),(.sl 3 14 1 0 1 4),(qI 3)]
def b41:aE:=.cells 0 [(qI 2),(qI 1),(qI 1),(qI 4),GV,(qI 1000),(qI 0),(qI 800),.aF,KK,.aF,MC,KI,(qI 1000),(qI 500),(qI 0),S8,QS,(.bool true),KH,(qI 4)]
def QD:aE:=.cells 2 [(.str [97]),dq3,(.bool true),(qI 0),(.str [98]),dq5,(.bool false),(qI 5)]
def QE:aE:=.cells 2 [(qI 0),(qI 0),(qI 0),(qI 0),(qI 5),(qI 500),(qI 390),(qI 410)]
def b44:aE:=.cells 0 [(qI 2),(qI 1),(qI 1),(qI 4),GV,(qI 1000),(qI 0),(qI 800),.aF,KK,.aF,MC,KI,(qI 1000),(qI 500),(qI 0),S8,QS,(.bool true),KH,(qI 5)]
def b45:aE:=.cells 0 [(qI 2),(qI 1),(qI 1),(qI 4),GV,(qI 1000),(qI 0),(qI 800),.aF,KK,.aF,QQ,KI,(qI 1000),(qI 500),(qI 0),S8,QS,(.bool true),KH,(qI 6)]
def b46:aE:=.cells 0 [(qI 2),(qI 1),(qI 1),(qI 4),GV,(qI 1000),(qI 0),(qI 800),.aF,KK,.aF,QQ,(.sl 3 11 1 0 1 2),(qI 1000),(qI 500),(qI 0),S8,QS,(.bool true),KH,(qI 7)]
def b47:aE:=.cells 0 [(qI 2),(qI 1),(qI 1),(qI 4),GV,(qI 1000),(qI 0),(qI 800),.aF,KK,.aF,QQ,(.sl 3 11 1 0 1 2),(qI 1000),(qI 500),(qI 0),S8,QS,(.bool true),KH,(qI 8)]
def b48:aE:=.cells 9 [(qI 0),(qI 0),(qI 0),(qI 0),(qI 0),(qI 0),(qI 0),(qI 0),(qI 1)]
def b49:aE:=.cells 0 [(qI 2),(qI 1),(qI 1),(qI 4),GV,(qI 1000),(qI 0),(qI 800),.aF,KK,.aF,QQ,(.sl 3 11 1 0 1 2),(qI 1000),(qI 500),(qI 0),S8,QS,(.bool true),KH,(qI 9)]
def b50:aE:=.cells 10 [(qI 0),(qI 0),(qI 0),(qI 0),(qI 0),(qI 0),(qI 0),(qI 0),(qI 1),(qI 1)]
def b51:aE:=.cells 0 [(qI 2),(qI 1),(qI 1),(qI 4),GV,(qI 1000),(qI 0),(qI 800),.aF,KK,.aF,QQ,(.sl 3 11 1 0 1 2),(qI 1000),(qI 500),(qI 0),(.sl 3 12 1 0 1 2),QS,(.bool true),KH,(qI 10)]
def b52:aE:=.cells 11 [(qI 0),(qI 0),(qI 0),(qI 0),(qI 0),(qI 0),(qI 0),(qI 0),(qI 1),(qI 1),(qI 0)]
def b53:aE:=.cells 0 [(qI 2),(qI 1),(qI 1),(qI 4),GV,(qI 1000),(qI 0),(qI 800),.aF,KK,.aF,QQ,(.sl 3 11 1 0 1 2),(qI 1000),(qI 500),(qI 0),(.sl 3 12 1 0 1 2),QS,(.bool true),KH,(qI 11)]
def s0(F G:List aE):SK:=[[cV,cV,cV,cV,cV,cV,b0,cV],[],F,G]
def s1(F G:List aE):SK:=[[cV,cV,cV,cV,cV,cV,b1,cV],[],F,G]
def s2(F G:List aE):SK:=[[cV,cV,cV,cV,cV,cV,b1,.cells 1 [(qI 0)]],[],F,G]
def s3(F G:List aE):SK:=[[cV,cV,cV,cV,cV,cV,b2,.cells 1 [(qI 0)]],[],F,G]
def s4(F G:List aE):SK:=[[cV,cV,cV,cV,cV,cV,b2,.cells 2 [(qI 0),(qI 0)]],[],F,G]
def s5(F G:List aE):SK:=[[cV,cV,cV,cV,cV,cV,b3,.cells 2 [(qI 0),(qI 0)]],[],F,G]
def s6(F G:List aE):SK:=[[cV,cV,cV,cV,cV,cV,b3,b4],[],F,G]
def s7(F G:List aE):SK:=[[cV,cV,cV,cV,cV,cV,b5,b4],[],F,G]
def s8(F G:List aE):SK:=[[cV,cV,cV,cV,cV,cV,b5,b6],[],F,G]
def s9(F G:List aE):SK:=[[b7,cV,cV,cV,cV,b8,b9,b6],[],F,G]
def s10(F G:List aE):SK:=[[b7,cV,cV,cV,cV,b8,b9,b10],[],F,G]
def s11(F G:List aE):SK:=[[b11,cV,cV,cV,cV,b12,b13,b10],[],F,G]
def s12(F G:List aE):SK:=[[b11,cV,cV,cV,cV,b12,b13,b14],[],F,G]
def s13(F G:List aE):SK:=[[Ay,cV,cV,cV,cV,Az,b17,b14],[],F,G]
def s14(F G:List aE):SK:=[[Ay,cV,cV,cV,cV,Az,b17,b18],[],F,G]
def s15(F G:List aE):SK:=[[Ay,xq,cV,cV,cV,Az,b20,b18],[],F,G]
def s16(F G:List aE):SK:=[[Ay,xq,cV,cV,cV,Az,b20,b21],[],F,G]
def s17(F G:List aE):SK:=[[Ay,xq,yF,cV,cV,Az,b23,b21],[],F,G]
def s18(F G:List aE):SK:=[[Ay,xq,yF,cV,cV,Az,b23,b24],[],F,G]
def s19(F G:List aE):SK:=[[Ay,xq,yF,cV,cV,Az,b25,b24],[],F,G]
def s20(F G:List aE):SK:=[[Ay,xq,yF,cV,cV,Az,b25,b26],[],F,G]
def s21(F G:List aE):SK:=[[Ay,xq,yF,cV,cV,Az,b27,b26],[],F,G]
def s22(F G:List aE):SK:=[[Ay,xq,yF,cV,cV,Az,b27,b28],[],F,G]
def s23(F G:List aE):SK:=[[Ay,xq,yF,Dl,cV,Az,b30,b28],[],F,G]
def s24(F G:List aE):SK:=[[Ay,xq,yF,Dl,cV,Az,b30,b31],[],F,G]
def s25(F G:List aE):SK:=[[Ay,xq,yF,Dl,FN,Az,FO,b31],[],F,G]
def s26(F G:List aE):SK:=[[Ay,xq,yF,Dl,FN,Az,FO,FZ,F0,cV,cV,cV,cV,cV,cV,b36,cV],[],F,G]
def s27(F G:List aE):SK:=[[Ay,xq,yF,Dl,FN,Az,FO,FZ,F0,cV,cV,cV,cV,cV,cV,b37,cV],[],F,G]
def s28(F G:List aE):SK:=[[Ay,xq,yF,Dl,FN,Az,FO,FZ,F0,cV,cV,cV,cV,cV,cV,b37,.cells 1 [(qI 0)]],[],F,G]
def s29(F G:List aE):SK:=[[Ay,xq,yF,Dl,FN,Az,FO,FZ,F0,cV,cV,cV,cV,cV,cV,b38,.cells 1 [(qI 0)]],[],F,G]
def s30(F G:List aE):SK:=[[Ay,xq,yF,Dl,FN,Az,FO,FZ,F0,cV,cV,cV,cV,cV,cV,b38,.cells 2 [(qI 0),(qI 0)]],[],F,G]
def s31(F G:List aE):SK:=[[Ay,xq,yF,Dl,FN,Az,FO,FZ,F0,cV,cV,cV,cV,cV,cV,b39,.cells 2 [(qI 0),(qI 0)]],[],F,G]
def s32(F G:List aE):SK:=[[Ay,xq,yF,Dl,FN,Az,FO,FZ,F0,cV,cV,cV,cV,cV,cV,b39,b4],[],F,G]
def s33(F G:List aE):SK:=[[Ay,xq,yF,Dl,FN,Az,FO,FZ,F0,b7,cV,cV,cV,cV,b8,b40,b4],[],F,G]
def s34(F G:List aE):SK:=[[Ay,xq,yF,Dl,FN,Az,FO,FZ,F0,b7,cV,cV,cV,cV,b8,b40,b6],[],F,G]
def s35(F G:List aE):SK:=[[Ay,xq,yF,Dl,FN,Az,FO,FZ,F0,b11,cV,cV,cV,cV,b12,b41,b6],[],F,G]
def s36(F G:List aE):SK:=[[Ay,xq,yF,Dl,FN,Az,FO,FZ,F0,b11,cV,cV,cV,cV,b12,b41,b10],[],F,G]
def s37(F G:List aE):SK:=[[Ay,xq,yF,Dl,FN,Az,FO,FZ,F0,QD,cV,cV,cV,cV,QE,b44,b10],[],F,G]
def s38(F G:List aE):SK:=[[Ay,xq,yF,Dl,FN,Az,FO,FZ,F0,QD,cV,cV,cV,cV,QE,b44,b14],[],F,G]
def s39(F G:List aE):SK:=[[Ay,xq,yF,Dl,FN,Az,FO,FZ,F0,QD,xq,cV,cV,cV,QE,b45,b14],[],F,G]
def s40(F G:List aE):SK:=[[Ay,xq,yF,Dl,FN,Az,FO,FZ,F0,QD,xq,cV,cV,cV,QE,b45,b18],[],F,G]
def s41(F G:List aE):SK:=[[Ay,xq,yF,Dl,FN,Az,FO,FZ,F0,QD,xq,yF,cV,cV,QE,b46,b18],[],F,G]
def s42(F G:List aE):SK:=[[Ay,xq,yF,Dl,FN,Az,FO,FZ,F0,QD,xq,yF,cV,cV,QE,b46,b21],[],F,G]
def s43(F G:List aE):SK:=[[Ay,xq,yF,Dl,FN,Az,FO,FZ,F0,QD,xq,yF,cV,cV,QE,b47,b21],[],F,G]
def s44(F G:List aE):SK:=[[Ay,xq,yF,Dl,FN,Az,FO,FZ,F0,QD,xq,yF,cV,cV,QE,b47,b48],[],F,G]
def s45(F G:List aE):SK:=[[Ay,xq,yF,Dl,FN,Az,FO,FZ,F0,QD,xq,yF,cV,cV,QE,b49,b48],[],F,G]
def s46(F G:List aE):SK:=[[Ay,xq,yF,Dl,FN,Az,FO,FZ,F0,QD,xq,yF,cV,cV,QE,b49,b50],[],F,G]
def s47(F G:List aE):SK:=[[Ay,xq,yF,Dl,FN,Az,FO,FZ,F0,QD,xq,yF,Dl,cV,QE,b51,b50],[],F,G]
def s48(F G:List aE):SK:=[[Ay,xq,yF,Dl,FN,Az,FO,FZ,F0,QD,xq,yF,Dl,cV,QE,b51,b52],[],F,G]
def s49(F G:List aE):SK:=[[Ay,xq,yF,Dl,FN,Az,FO,FZ,F0,QD,xq,yF,Dl,cV,QE,b53,b52],[],F,G]
def wm0(F G:List aE):pF:=⟨aM,[(.ref 3 6 0 0),(qI 0),(.str [102,105,101,108,100,32,50,32,49,32,49,32,52])],s0 F G,(qI 0),s1 F G⟩
def wm1(F G:List aE):pF:=⟨aM,[(.ref 3 6 0 0),(qI 1),(.str [116,97,98,108,101,32,49,48,48,32,49,48,49,32,52,49,57,32,50,54,55,54,32,49,53,48,32,49,53,48,32,52,55,54,32,54,51,50,32,50,55,52,54,32,51,48,48,32,50,48,48,32,49,53,53,53,32,56,53,50,32,50,55,57,51,32,54,48,48])],s2 F G,(qI 0),s3 F G⟩
def wm2(F G:List aE):pF:=⟨aM,[(.ref 3 6 0 0),(qI 2),(.str [98,101,100,32,49,48,48,48,32,48,32,56,48,48])],s4 F G,(qI 0),s5 F G⟩
def wm3(F G:List aE):pF:=⟨aM,[(.ref 3 6 0 0),(qI 3),(.str [119,101,108,108,32,48,32,53,48,48,32,53])],s6 F G,(qI 0),s7 F G⟩
def wm4(F G:List aE):pF:=⟨aM,[(.ref 3 6 0 0),(qI 4),(.str [109,111,100,101,108,32,97,32,56,48,48,48,32,56,48,48,48,32,53,48,48,32,52,48,48,32,57,48,48,32,52,48,48,32,48,32,49,48])],s8 F G,(qI 0),s9 F G⟩
def wm5(F G:List aE):pF:=⟨aM,[(.ref 3 6 0 0),(qI 5),(.str [109,111,100,101,108,32,98,32,56,48,48,48,32,56,48,48,48,32,53,48,48,32,52,48,48,32,57,48,48,32,53,48,48,32,48,32,49,48])],s10 F G,(qI 0),s11 F G⟩
def wm6(F G:List aE):pF:=⟨aM,[(.ref 3 6 0 0),(qI 6),(.str [108,111,103,32,116,49,32,50,32,51,57,48,32,52,49,48,32,49,32,49])],s12 F G,(qI 0),s13 F G⟩
def wm7(F G:List aE):pF:=⟨aM,[(.ref 3 6 0 0),(qI 7),(.str [114,117,108,101,32,48,32,48,32,48,32,57,32,57,32,57,32,50,48,32,53,32,49,32,49])],s14 F G,(qI 0),s15 F G⟩
def wm8(F G:List aE):pF:=⟨aM,[(.ref 3 6 0 0),(qI 8),(.str [113,117,97,107,101,32,49,32,49,32,49,32,50,53])],s16 F G,(qI 0),s17 F G⟩
def wm9(F G:List aE):pF:=⟨aM,[(.ref 3 6 0 0),(qI 9),(.str [116,105,99,107,32,45,49,48,48])],s18 F G,(qI 0),s19 F G⟩
def av6(F G:List aE):pF:=⟨aM,[(.ref 3 6 0 0),(qI 10),(.str [116,105,99,107,32,53,48])],s20 F G,(qI 0),s21 F G⟩
def av7(F G:List aE):pF:=⟨aM,[(.ref 3 6 0 0),(qI 11),(.str [117,110,105,116,32,48,32,49,48,48,32,52,48,48])],s22 F G,(qI 0),s23 F G⟩
def av8(F G:List aE):pF:=⟨aM,[(.ref 3 6 0 0),(qI 12),(.str [115,101,108,108,32,48,32,48,32,48,32,51])],s24 F G,(qI 0),s25 F G⟩
def av9(F G:List aE):pF:=⟨aM,[(.ref 3 15 0 0),(qI 0),(.str [102,105,101,108,100,32,50,32,49,32,49,32,52])],s26 F G,(qI 0),s27 F G⟩
def awa(F G:List aE):pF:=⟨aM,[(.ref 3 15 0 0),(qI 1),(.str [116,97,98,108,101,32,49,48,48,32,49,48,49,32,52,49,57,32,50,54,55,54,32,49,53,48,32,49,53,48,32,52,55,54,32,54,51,50,32,50,55,52,54,32,51,48,48,32,50,48,48,32,49,53,53,53,32,56,53,50,32,50,55,57,51,32,54,48,48])],s28 F G,(qI 0),s29 F G⟩
def awb(F G:List aE):pF:=⟨aM,[(.ref 3 15 0 0),(qI 2),(.str [98,101,100,32,49,48,48,48,32,48,32,56,48,48])],s30 F G,(qI 0),s31 F G⟩
def awc(F G:List aE):pF:=⟨aM,[(.ref 3 15 0 0),(qI 3),(.str [109,111,100,101,108,32,97,32,56,48,48,48,32,56,48,48,48,32,53,48,48,32,52,48,48,32,57,48,48,32,52,48,48,32,48,32,49,48])],s32 F G,(qI 0),s33 F G⟩
def awd(F G:List aE):pF:=⟨aM,[(.ref 3 15 0 0),(qI 4),(.str [109,111,100,101,108,32,98,32,56,48,48,48,32,56,48,48,48,32,53,48,48,32,52,48,48,32,57,48,48,32,53,48,48,32,48,32,49,48])],s34 F G,(qI 0),s35 F G⟩
def awe(F G:List aE):pF:=⟨aM,[(.ref 3 15 0 0),(qI 5),(.str [108,111,103,32,116,49,32,50,32,51,57,48,32,52,49,48,32,49,32,49])],s36 F G,(qI 0),s37 F G⟩
def awf(F G:List aE):pF:=⟨aM,[(.ref 3 15 0 0),(qI 6),(.str [114,117,108,101,32,48,32,48,32,48,32,57,32,57,32,57,32,50,48,32,53,32,49,32,49])],s38 F G,(qI 0),s39 F G⟩
def awg(F G:List aE):pF:=⟨aM,[(.ref 3 15 0 0),(qI 7),(.str [113,117,97,107,101,32,49,32,49,32,49,32,50,53])],s40 F G,(qI 0),s41 F G⟩
def awh(F G:List aE):pF:=⟨aM,[(.ref 3 15 0 0),(qI 8),(.str [116,105,99,107,32,45,49,48,48])],s42 F G,(qI 1),s43 F G⟩
def awi(F G:List aE):pF:=⟨aM,[(.ref 3 15 0 0),(qI 9),(.str [116,105,99,107,32,53,48])],s44 F G,(qI 1),s45 F G⟩
def awj(F G:List aE):pF:=⟨aM,[(.ref 3 15 0 0),(qI 10),(.str [117,110,105,116,32,48,32,49,48,48,32,52,48,48])],s46 F G,(qI 0),s47 F G⟩
def awk(F G:List aE):pF:=⟨aM,[(.ref 3 15 0 0),(qI 11),(.str [115,101,108,108,32,48,32,48,32,48,32,51])],s48 F G,(qI 8),s49 F G⟩
end Go.Proofs.YtfgljaglidhjiaaGreatDoor
set_option maxRecDepth 1000000
namespace Go.Proofs.YtfgljaglidhjiaaGreatDoor
open List(length_flatMap map_take)
open Go Go.Abs
theorem wk0:(wm0 [] []).Ok T:=dA.2 ⟨300,by kernel_rfl⟩
theorem wk5:(wm5 [] []).Ok T:=dA.2 ⟨300,by kernel_rfl⟩
theorem ayf:(av6 [] []).Ok T:=dA.2 ⟨300,by kernel_rfl⟩
theorem ayk:(awb [] []).Ok T:=dA.2 ⟨300,by kernel_rfl⟩
theorem ayp:(awg [] []).Ok T:=dA.2 ⟨300,by kernel_rfl⟩
end Go.Proofs.YtfgljaglidhjiaaGreatDoor
set_option maxRecDepth 1000000
namespace Go.Proofs.YtfgljaglidhjiaaGreatDoor
open List(length_flatMap map_take)
open Go Go.Abs
theorem wk1:(wm1 [] []).Ok T:=dA.2 ⟨300,by kernel_rfl⟩
theorem wk6:(wm6 [] []).Ok T:=dA.2 ⟨300,by kernel_rfl⟩
theorem ayg:(av7 [] []).Ok T:=dA.2 ⟨300,by kernel_rfl⟩
theorem ayl:(awc [] []).Ok T:=dA.2 ⟨300,by kernel_rfl⟩
theorem ayq:(awh [] []).Ok T:=dA.2 ⟨300,by kernel_rfl⟩
end Go.Proofs.YtfgljaglidhjiaaGreatDoor
set_option maxRecDepth 1000000
namespace Go.Proofs.YtfgljaglidhjiaaGreatDoor
open List(length_flatMap map_take)
open Go Go.Abs
theorem wk2:(wm2 [] []).Ok T:=dA.2 ⟨300,by kernel_rfl⟩
theorem wk7:(wm7 [] []).Ok T:=dA.2 ⟨300,by kernel_rfl⟩
theorem ayh:(av8 [] []).Ok T:=dA.2 ⟨300,by kernel_rfl⟩
theorem aym:(awd [] []).Ok T:=dA.2 ⟨300,by kernel_rfl⟩
theorem ayr:(awi [] []).Ok T:=dA.2 ⟨300,by kernel_rfl⟩
end Go.Proofs.YtfgljaglidhjiaaGreatDoor
set_option maxRecDepth 1000000
namespace Go.Proofs.YtfgljaglidhjiaaGreatDoor
open List(length_flatMap map_take)
open Go Go.Abs
theorem wk3:(wm3 [] []).Ok T:=dA.2 ⟨300,by kernel_rfl⟩
theorem wk8:(wm8 [] []).Ok T:=dA.2 ⟨300,by kernel_rfl⟩
theorem ayi:(av9 [] []).Ok T:=dA.2 ⟨300,by kernel_rfl⟩
theorem ayn:(awe [] []).Ok T:=dA.2 ⟨300,by kernel_rfl⟩
theorem ays:(awj [] []).Ok T:=dA.2 ⟨300,by kernel_rfl⟩
end Go.Proofs.YtfgljaglidhjiaaGreatDoor
set_option maxRecDepth 1000000
namespace Go.Proofs.YtfgljaglidhjiaaGreatDoor
open List(length_flatMap map_take)
open Go Go.Abs
theorem wk4:(wm4 [] []).Ok T:=dA.2 ⟨300,by kernel_rfl⟩
theorem wk9:(wm9 [] []).Ok T:=dA.2 ⟨300,by kernel_rfl⟩
theorem ayj:(awa [] []).Ok T:=dA.2 ⟨300,by kernel_rfl⟩
theorem ayo:(awf [] []).Ok T:=dA.2 ⟨300,by kernel_rfl⟩
theorem ayt:(awk [] []).Ok T:=dA.2 ⟨300,by kernel_rfl⟩
end Go.Proofs.YtfgljaglidhjiaaGreatDoor
set_option maxRecDepth 1000000
namespace Go.Proofs.YtfgljaglidhjiaaGreatDoor
open List(length_flatMap map_take)
section
open Go Go.Abs
def aqz:List pF:=[wm0 [] [],wm1 [] [],wm2 [] [],wm3 [] [],wm4 [] [],wm5 [] [],wm6 [] [],wm7 [] [],wm8 [] [],wm9 [] [],av6 [] [],av7 [] [],av8 [] [],av9 [] [],awa [] [],awb [] [],awc [] [],awd [] [],awe [] [],awf [] [],awg [] [],awh [] [],awi [] [],awj [] [],awk [] []]
theorem afX:∀m∈aqz,m.Ok T:=by
 simp only[aqz,aW,List.not_mem_nil,or_false,forall_eq_or_imp,forall_eq];exact⟨wk0,wk1,wk2,wk3,wk4,wk5,wk6,wk7,wk8,wk9,ayf,ayg,ayh,ayi,ayj,ayk,ayl,aym,ayn,ayo,ayp,ayq,ayr,ays,ayt⟩
theorem adD:itM T aqz 120 (.call false pB [] [[],[]])=some (.val (.bool true) [[],[]]):=by kernel_rfl
theorem aeV:lim T (.call false pB [] [[],[]])=some (.val (.bool true) [[],[]]):=PD afX adD
end
section
open Go Go.Abs Go.Rock Go.Book
variable {σ:SK}
theorem agC{l:List (List UInt8)}{n:Nat}(h:Rp l):Rp (l.take n):=⟨by have:=h.1;simp;omega,fun s hs=>h.2 s (dh hs)⟩
theorem aex(l:List (List UInt8))(k:Nat):(l.flatMap ez).take k=(l.take k).flatMap ez:=by rw[← BX,← BX,List.map_take]
theorem wd9{a:List UInt8}{w:Wd}(h:(a,w)∈ot):(a=[116,105,99,107]↔w.k=9)∧(a=[115,101,108,108]↔w.k=12):=by
 simp only[ot,aW,ak,List.not_mem_nil,or_false]at h;rcases h with⟨rfl,rfl⟩ | ⟨rfl,rfl⟩ | ⟨rfl,rfl⟩ | ⟨rfl,rfl⟩ | ⟨rfl,rfl⟩ | ⟨rfl,rfl⟩ | ⟨rfl,rfl⟩ | ⟨rfl,rfl⟩ | ⟨rfl,rfl⟩ | ⟨rfl,rfl⟩ | ⟨rfl,rfl⟩ | ⟨rfl,rfl⟩ | ⟨rfl,rfl⟩<;>simp
theorem Rb{b:Bk}{k:Int}{s:List UInt8}(h:parse s=none):(pG b k s).2=4:=by unfold pG;rw[h]
theorem Rx{W:List UInt8}{K:Nat}(hW:∀{a w},(a,w)∈ot→(a=W↔w.k=K)){l:List (List UInt8)}{i:Nat}{s:List UInt8}{e:Int}(hs:l[i]?=some s)(he:(ub l).2[i]?=some e):
  (∃x y d f,JJ s=.dG [.str x,.str y,d,.bool f]∧(d=.aF∨∃l:List Int,d=.aH l.length (l.flatMap aT))∧(f=true→x=W→e≠0)) ∨
  (∃w nm ns,parse s=some (w,nm,ns)∧w.k=K∧e=0∧JJ s=.dG [.str W,.str nm,.aH ns.length (ns.flatMap aT),.bool true]):=by
 cases hp:parse s with
 |none =>
  left
  obtain⟨x,y,d,f,h1,h2⟩:=Ry s;refine⟨x,y,d,f,h1,h2,fun _ _=>?_⟩;obtain⟨_,h3⟩:=Hn (b:=rO) (k:=0) hs;rw[show(tg rO 0 l).2=(ub l).2 from rfl,he,ae,Rb hp]at h3;omega
 |some q =>
  obtain⟨w,nm,ns⟩:=q;obtain⟨a,h1,h2⟩:=aeb hp;by_cases hk:w.k=K
  ·have ha:=(hW h1).2 hk;subst ha;by_cases h0:e=0
   ·exact .inr ⟨w,nm,ns,rfl,hk,h0,h2⟩
   ·exact .inl ⟨_,_,_,_,h2,.inr ⟨ns,rfl⟩,fun _ _=>h0⟩
  ·exact .inl ⟨_,_,_,_,h2,.inr ⟨ns,rfl⟩,fun _ h=>absurd ((hW h1).1 h) hk⟩
end
section
open Go Go.Abs Go.Rock Go.Book
theorem KY:∀{l:List Int} {a:Int},l.foldl min a≤a∧(∀x∈l,l.foldl min a≤x)∧(l.foldl min a=a∨l.foldl min a∈l)
 |[],a=>⟨Int.le_refl _,by simp,.inl rfl⟩
 |x::l,a=>by
  obtain⟨h1,h2,h3⟩:=KY (l:=l) (a:=min a x);simp only[List.foldl_cons,aW];refine⟨by omega,fun y hy=>?_,?_⟩
  ·rcases hy with rfl | hy
   ·omega
   ·exact h2 y hy
  ·rcases h3 with h3 | h3
   ·by_cases h:a≤x
    ·left;omega
    ·right;left;omega
   ·exact .inr (.inr h3)
theorem KX:∀{l:List Int} {a:Int},a≤l.foldl max a∧(∀x∈l,x≤l.foldl max a)∧(l.foldl max a=a∨l.foldl max a∈l)
 |[],a=>⟨Int.le_refl _,by simp,.inl rfl⟩
 |x::l,a=>by
  obtain⟨h1,h2,h3⟩:=KX (l:=l) (a:=max a x);simp only[List.foldl_cons,aW];refine⟨by omega,fun y hy=>?_,?_⟩
  ·rcases hy with rfl | hy
   ·omega
   ·exact h2 y hy
  ·rcases h3 with h3 | h3
   ·by_cases h:a≤x
    ·right;left;omega
    ·left;omega
   ·exact .inr (.inr h3)
theorem aes{l:List Int}(h:l≠[]):(Cm l∈l∧Ck l∈l)∧∀x∈l,Cm l≤x∧x≤Ck l:=by
 cases l with
 |nil=>exact absurd rfl h
 |cons a l =>
  obtain⟨h1,h2,h3⟩:=KY (l:=l) (a:=a);obtain⟨k1,k2,k3⟩:=KX (l:=l) (a:=a);simp only[Cm,Ck,aW];refine⟨⟨?_,?_⟩,fun x hx=>?_⟩
  ·rcases h3 with h3 | h3<;>simp[h3]
  ·rcases k3 with k3 | k3<;>simp[k3]
  ·rcases hx with rfl | hx
   ·exact⟨h1,k1⟩
   ·exact⟨h2 x hx,k2 x hx⟩
theorem Kv.oks{n:Nat}{b:Bk}(h:Kv n b){e:mD}(he:e∈b.ar):Ok b.bH [e.m] b.av:=by
 have hm:b.ar≠[]:=fun hh=>by rw[hh]at he;cases he
 have:=(h.fit e he).2.1;exact Ok.one (h.ready (h.ms hm)) (h.fit e he).1 h.pl (by omega)
theorem aeo{l:List (List UInt8)}{i:Nat}{s:List UInt8}{w:Wd}{nm:List UInt8}{ns:List Int}(hs:l[i]?=some s)(he:(ub l).2[i]?=some 0)(hp:parse s=some (w,nm,ns))(hw:w.k=12):
  ∃(wi lv u p:Int) (pre:List LU) (c:Bk),(ub (l.take (i+1))).1=c∧ns=[wi,lv,u,p]∧bS c.ar≠[]∧c.av≠[]∧E2 c wi lv u p=true∧BW c wi lv u=0 ∧
   c.jB=pre++[⟨c.av.length,wi,Cm (Br c wi lv u),Ck (Br c wi lv u),Cm (Br c wi lv u)*p,Ck (Br c wi lv u)*p⟩]:=by
 obtain⟨h1,h2⟩:=Hn (b:=rO) (k:=0) hs;unfold ub at he ⊢;rw[h1];rw[he,ae]at h2;generalize (tg rO 0 (l.take i)).1=b at h2;have h2:=h2.symm;unfold pG at h2 ⊢;rw[hp]at h2 ⊢;simp only[hw]at h2 ⊢;generalize {b with at_:=0+(i:Int) }=b at h2 ⊢;unfold yr at h2 ⊢;simp only at h2 ⊢;split at h2
 case h_2=>cases h2
 rename_i wi lv u p;refine⟨wi,lv,u,p,b.jB,P4 b wi p (Br b wi lv u),?_⟩;unfold yq at h2 ⊢;split at h2
 ·cases h2
 rename_i c1;split at h2
 case isFalse=>cases h2
 rename_i c2;split at h2
 case isFalse=>rename_i c3;exact absurd h2 c3
 rename_i c3;rw[if_neg c1,if_pos c2,if_pos c3];exact⟨rfl,rfl,fun h=>c1 (.inl h),fun h=>c1 (.inr h),c2,c3,rfl⟩
end
end Go.Proofs.YtfgljaglidhjiaaGreatDoor
