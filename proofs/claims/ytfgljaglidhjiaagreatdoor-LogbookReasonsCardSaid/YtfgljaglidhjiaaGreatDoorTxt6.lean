import Derived.Test.YtfgljaglidhjiaaGreatDoorTxt2
import Derived.Test.YtfgljaglidhjiaaGreatDoorTxt5
set_option linter.all false
namespace Go.Book
open List(length_flatMap map_take)
open Go Go.Abs Go.Rock
def D5(c:UInt8):Prop:=48≤c.toNat∧c.toNat≤57
instance (c:UInt8):Decidable (D5 c):=by unfold D5;infer_instance
def ri:Nat→List UInt8→Option Nat
 |n,[]=>some n
 |n,c::s=>if D5 c then ri (10*n+(c.toNat-48)) s else none
def xT(minus:Bool)(d:List UInt8):Option Int :=
 if d.length=0∨9<d.length∨(d.head?=some 48∧(1<d.length∨minus=true))then none
 else(ri 0 d).map fun n:Nat=>(if minus=true then -(n:Int)else(n:Int))
def Ax(s:List UInt8):Option Int:=if s.head?=some 45 then xT true (s.drop 1)else xT false s
theorem Ha:∀{a b:List UInt8} {n:Nat},ri n (a++b)=(ri n a).bind fun m=>ri m b
 |[],b,n=>rfl
 |c::a,b,n=>by
  simp only[fK,ri];split
  ·exact Ha
  ·rfl
theorem z8:∀{s:List UInt8} {n m k:Nat},ri n s=some m→n<10^k→m<10^(k+s.length)
 |[],n,m,k,h,hn=>by simp only[ri,ae]at h;subst h;simpa using hn
 |c::s,n,m,k,h,hn=>by
  simp only[ri]at h;split at h
  ·rename_i hd;have hd2:=hd.2;have:=z8 (k:=k+1) h (by rw[Nat.pow_succ];omega);simpa[du,Nat.add_comm 1]using this
  ·cases h
theorem Hb:∀{s:List UInt8} {n m:Nat},ri n s=some m→m<1844674407370955161→Lib.parseUint10 n s=.ok m
 |[],n,m,h,hm=>by simp only[ri,ae]at h;subst h;rfl
 |c::s,n,m,h,hm=>by
  simp only[ri]at h;split at h
  ·rename_i hd;have hle:∀{s:List UInt8} {n m:Nat},ri n s=some m→n≤m:=by
    intro s;induction s with
    |nil=>intro n m h;simp only[ri,ae]at h;omega
    |cons c s ih =>
     intro n m h;simp only[ri]at h;split at h
     ·have:=ih h;omega
     ·cases h
   have h1:=hle h;have h2:=Hb h hm;unfold Lib.parseUint10;have hd2:=hd.2;have hd1:=hd.1;rw[if_pos (show 48≤c.toNat∧c.toNat≤57 from hd),if_neg (by omega),if_neg (by omega),← h2];congr 1;omega
  ·cases h
theorem Tz{k:Nat}(hk:k<10):D5 (UInt8.ofNat (48+k))∧(UInt8.ofNat (48+k)).toNat-48=k:=by
 have:(UInt8.ofNat (48+k)).toNat=48+k:=UInt8.toNat_ofNat_of_lt' (by simp[UInt8.size];omega);unfold D5;omega
theorem Tx{c:UInt8}(h:D5 c):UInt8.ofNat (48+(c.toNat-48))=c:=by
 have:=h.1;rw[show 48+(c.toNat-48)=c.toNat by omega];simp
theorem JI:∀{k u:Nat},u<10^k→0<k→ri 0 (uW k u)=some u
 |0,u,h,hk=>by omega
 |k+1,u,h,hk=>by
  unfold uW;split
  ·rename_i hu;have h1:=Tz hu;simp only[ri,if_pos h1.1,h1.2,Nat.mul_zero,cS]
  ·rename_i hu;have hk':0<k:=by
    rcases Nat.eq_zero_or_pos k with rfl | h0
    ·simp at h;omega
    ·exact h0
   have hd:=Tz (k:=u%10) (Nat.mod_lt _ (by omega));rw[Ha,JI (k:=k) (u:=u / 10) (by rw[Nat.pow_succ]at h;omega) hk'];simp only[Option.bind_some,ri,if_pos hd.1,hd.2,ae];omega
theorem M3:∀{k u:Nat},0<k→uW k u≠[]
 |0,u,hk=>by omega
 |k+1,u,hk=>by
  unfold uW;split<;>simp
theorem JJ:∀{k u m:Nat},u<10^m→0<m→(uW k u).length≤m
 |0,u,m,h,hm=>by simp[uW]
 |k+1,u,m,h,hm=>by
  unfold uW;split
  ·simp;omega
  ·rename_i hu;obtain⟨j,rfl⟩:∃j,m=j+1:=⟨m-1,by omega⟩;have hj:0<j:=by
    rcases Nat.eq_zero_or_pos j with rfl | h0
    ·simp at h;omega
    ·exact h0
   have:=JJ (k:=k) (u:=u / 10) (m:=j) (by rw[Nat.pow_succ]at h;omega) hj;simp;omega
theorem G8:∀{k u:Nat},u<10^k→(uW k u).head?=some 48→u=0
 |0,u,h,hh=>by simp[uW]at hh
 |k+1,u,h,hh=>by
  unfold uW at hh;split at hh
  ·rename_i hu;simp only[List.head?_cons,ae]at hh;have:=congrArg UInt8.toNat hh;simp at this;omega
  ·rename_i hu;have hk:0<k:=by
    rcases Nat.eq_zero_or_pos k with rfl | h0
    ·simp at h;omega
    ·exact h0
   have h1:(uW k (u / 10)).head?=some 48:=by
    cases hd:uW k (u / 10)with
    |nil=>exact absurd hd (M3 hk)
    |cons c r=>rw[hd]at hh;simpa using hh
   have:=G8 (k:=k) (u:=u / 10) (by rw[Nat.pow_succ]at h;omega) h1;omega
theorem Oj:∀{d:List UInt8} {n k:Nat},ri 0 d=some n→d≠[]→(d.head?=some 48→d.length=1)→d.length≤k→uW k n=d:=by
 intro d;induction hl:d.length using Nat.strongRecOn generalizing d with
 |ind m ih =>
  intro n k h hne hz hk;obtain⟨d',c,rfl⟩:∃d' c,d=d'++[c]:=⟨d.dropLast,d.getLast hne,(List.dropLast_concat_getLast hne).symm⟩;rw[Ha]at h;cases h1:ri 0 d' with
  |none=>rw[h1]at h;cases h
  |some q =>
   rw[h1]at h;simp only[Option.bind_some,ri]at h;split at h
   ·rename_i hc;simp only[ae]at h;have hc2:=hc.2;obtain⟨k,rfl⟩:∃j,k=j+1:=⟨k-1,by simp at hl;omega⟩;by_cases hd:d'=[]
    ·subst hd;simp only[ri,ae]at h1;subst h1;have hn:n=c.toNat-48:=by omega
     subst hn;unfold uW;rw[if_pos (by have:=hc.1;omega),Tx hc];rfl
    ·have hh:(d'++[c]).head?=d'.head?:=by
      cases d' with
      |nil=>exact absurd rfl hd
      |cons x r=>rfl
     have hz':d'.head?=some 48→d'.length=1:=by
      intro h2;have h5:=hz (by rw[hh];exact h2);have hp:=aL.2 hd;rw[← hl,bz]at h5;simp only[aJ,bF]at h5;omega
     have hnz:d'.head? ≠ some 48:=by
      intro h2;have h5:=hz (by rw[hh];exact h2);have hp:=aL.2 hd;rw[← hl,bz]at h5;simp only[aJ,bF]at h5;omega
     have ih1:=ih d'.length (by simp at hl;omega) rfl (n:=q) (k:=k) h1 hd hz' (by simp at hl;omega);have hq:q≠0:=by
      intro h2;subst h2;rw[← ih1]at hnz;have hkp:0<k:=by have:=aL.2 hd;simp at hl;omega
      obtain⟨j,rfl⟩:∃j,k=j+1:=⟨k-1,by omega⟩;simp[uW]at hnz
     unfold uW;have e1:n / 10=q:=by omega
     have e2:n%10=c.toNat-48:=by omega
     rw[if_neg (by omega),e1,e2,ih1,Tx hc]
   ·cases h
theorem IC{d:List UInt8}{n:Nat}(h:ri 0 d=some n)(hne:d≠[])(hn:n≤999999999):
  sh d=(0,(n:Int))∧sh (45::d)=(0,-(n:Int)):=by
 have hp:=Hb h (by omega);have hm:Lib.parseMag d=.ok n:=by unfold Lib.parseMag;rw[if_neg hne];exact hp
 constructor
 ·unfold sh Lib.atoiAll;cases d with
  |nil=>exact absurd rfl hne
  |cons c r =>
   have hc:D5 c:=by
    simp only[ri]at h;split at h
    ·assumption
    ·cases h
   have h1:=hc.1;have h2:=hc.2;simp only;rw[if_neg (by omega),hm];simp only;rw[if_neg (by omega),if_neg (by omega),if_neg (by omega)]
 ·unfold sh Lib.atoiAll;simp only;rw[if_pos (Or.inr (by decide)),hm];simp only;rw[if_neg (by simp),if_neg (by omega),if_pos (by decide)]
theorem RP(s:List UInt8):Dq s=Ax s:=by
 have key:∀n,Ax s=some n→Dq s=some n:=by
  intro n h;unfold Ax at h;split at h
  ·rename_i hm;obtain⟨d,rfl⟩:∃d,s=45::d:=by
    cases s with
    |nil=>simp at hm
    |cons c d=>simp at hm;subst hm;exact⟨d,rfl⟩
   simp only[List.drop_succ_cons,aP]at h;unfold xT at h;split at h
   ·cases h
   rename_i hc;simp only[not_or,not_and]at hc;simp only[ad]at h;obtain⟨m,h1,h2⟩:=h;have hne:d≠[]:=by intro h3;subst h3;simp at hc
   have hb:=z8 (k:=0) h1 (by decide);have hlt:m<10^9:=Nat.lt_of_lt_of_le hb (Nat.pow_le_pow_right (by decide) (by omega));have hd:=Oj (k:=20) h1 hne (fun h3=>absurd trivial (hc.2.2 h3).2) (by omega);have hm0:m≠0:=by
    intro h3;subst h3;have:d.head?=some 48:=by rw[← hd];rfl
    exact absurd trivial (hc.2.2 this).2
   obtain⟨_,ha⟩:=IC h1 hne (by omega);unfold Dq;rw[ha];have hi:BA (-(m:Int))=45::d:=by
    unfold BA;rw[if_pos (by omega),show(-(m:Int)).natAbs=m by omega,hd]
   rw[if_pos ⟨⟨rfl,hi⟩,by simp[ct];omega⟩];simpa using h2
  ·rename_i hm;unfold xT at h;split at h
   ·cases h
   rename_i hc;simp only[not_or,not_and]at hc;simp only[ad]at h;obtain⟨m,h1,h2⟩:=h;have hne:s≠[]:=by intro h3;subst h3;simp at hc
   have hb:=z8 (k:=0) h1 (by decide);have hlt:m<10^9:=Nat.lt_of_lt_of_le hb (Nat.pow_le_pow_right (by decide) (by omega));have hd:=Oj (k:=20) h1 hne (fun h3=>by have:=(hc.2.2 h3).1;have:=aL.2 hne;omega) (by omega);obtain⟨ha,_⟩:=IC h1 hne (by omega);unfold Dq;rw[ha];have hi:BA (m:Int)=s:=by
    unfold BA;rw[if_neg (by omega),show((m:Int)).toNat=m by omega,hd]
   rw[if_pos ⟨⟨rfl,hi⟩,by simp[ct];omega⟩];simpa using h2
 cases hn:Dq s with
 |none =>
  cases hw:Ax s with
  |none=>rfl
  |some n=>rw[key n hw]at hn;cases hn
 |some n =>
  have h:=hn;unfold Dq at h;split at h
  ·rename_i hc;obtain⟨⟨_,h1⟩,h2⟩:=hc;simp only[ae]at h;rw[h]at h1 h2;simp only[ct,af,av]at h2;suffices Ax s=some n from this.symm
   rw[← h1];unfold BA;split
   ·rename_i hneg;have hlt:n.natAbs<10^9:=by omega
    have hd:=JI (k:=20) (u:=n.natAbs) (Nat.lt_trans hlt (by decide)) (by decide);have hl:=JJ (k:=20) (u:=n.natAbs) (m:=9) hlt (by decide);have hne:=M3 (k:=20) (u:=n.natAbs) (by decide);have hh:(uW 20 n.natAbs).head? ≠ some 48:=fun h3=>by have:=G8 (Nat.lt_trans hlt (by decide)) h3;omega
    unfold Ax;rw[if_pos (show(45::uW 20 n.natAbs).head?=some 45 from rfl)];simp only[List.drop_succ_cons,aP];unfold xT;rw[if_neg (by simp only[not_or,not_and];exact⟨by have:=aL.2 hne;omega,by omega,fun h3=>absurd h3 hh⟩),hd];simp;omega
   ·rename_i hneg;have hlt:n.toNat<10^9:=by omega
    have hd:=JI (k:=20) (u:=n.toNat) (Nat.lt_trans hlt (by decide)) (by decide);have hl:=JJ (k:=20) (u:=n.toNat) (m:=9) hlt (by decide);have hne:=M3 (k:=20) (u:=n.toNat) (by decide);have hh:(uW 20 n.toNat).head? ≠ some 45:=by
     intro h3;cases hx:uW 20 n.toNat with
     |nil=>exact hne hx
     |cons c r =>
      rw[hx]at hd h3;simp at h3;subst h3;simp[ri,D5]at hd
    have hz:(uW 20 n.toNat).head?=some 48→¬1<(uW 20 n.toNat).length:=by
     intro h3;have h0:=G8 (Nat.lt_trans hlt (by decide)) h3;rw[h0];decide
    unfold Ax;rw[if_neg hh];unfold xT;rw[if_neg (by simp only[not_or,not_and];exact⟨by have:=aL.2 hne;omega,by omega,fun h3=>⟨hz h3,by simp⟩⟩),hd];simp;omega
  ·cases h
end Go.Book
namespace Go.Book
open List(length_flatMap map_take)
open Go Go.Abs
end Go.Book
namespace Go.Proofs.YtfgljaglidhjiaaGreatDoor
open List(length_flatMap map_take)
section
open Go Go.Abs Go.Book
variable {σ:SK}
def Nn(l:List (List UInt8)):Prop:=l.length≤100∧∀s∈l,s.length≤4000
def anW:Elt (List UInt8):=⟨false,1,dh,fun s => .str s,fun _=>rfl,fun _=>by simp[dh],fun _=>rfl,fun _=>rfl,fun _=>rfl⟩
theorem Su{s:List UInt8}:lim T (.call false iE [.str s] σ)=some (.val (.bool (decide (4000<s.length))) σ):=by
 refine aA DA pX.eq_1 rfl ?_;have e:decide ((4000:Int)<(s.length:Int))=decide (4000<s.length):=by
  by_cases h:4000<s.length
  ·rw[decide_eq_true h,decide_eq_true (by omega)]
  ·rw[decide_eq_false h,decide_eq_false (by omega)]
 simp[-length_flatMap,-map_take,rU,e]
def okB(l:List (List UInt8)):Bool:=decide (l.length≤100) && !sT l (fun s=>decide (4000<s.length))
theorem KA{l:List (List UInt8)}(hl:l.length≤1000000000):lim T (.call false gH [.aI l.length (l.flatMap dh)] σ)=some (.val (.int .i64 (if okB l then 0 else 3)) σ):=by
 refine aA FR sH.eq_1 rfl ?_;have hC:=fun σ=>contains_of anW (T:=T) (f:=eF) (i:=jh) (l:=l) (p:=fun s=>decide (4000<s.length)) (fv:=.fn iE [] []) rfl rfl (by omega) (pW.fn fun s _ σ=>Su) (σ:=σ)
 have hC':∀σ,lim T (.call false eF [.aI l.length (l.flatMap dh),.fn iE [] []] σ)=some (.val (.bool (sT l (fun s=>decide (4000<s.length)))) σ):=hC;unfold okB;by_cases h1:l.length≤100
 ·have h2:¬(100:Int)<l.length:=by omega
  cases h3:sT l (fun s=>decide (4000<s.length))<;>rw[h3]at hC'<;>simp[-length_flatMap,-map_take,h1,h2,hC']
 ·have h2:(100:Int)<l.length:=by omega
  simp[-length_flatMap,-map_take,h1,h2]
theorem JW{l:List (List UInt8)}:okB l=true↔Nn l:=by
 unfold okB Nn;simp only[af,av,dU];constructor
 ·rintro⟨h1,h2⟩;refine⟨h1,fun s hs=>?_⟩;by_cases h:s.length≤4000
  ·exact h
  ·have h3:sT l (fun s=>decide (4000<s.length))=true:=GV.2 ⟨s,hs,show decide (4000<s.length)=true from decide_eq_true (by omega)⟩;rw[h2]at h3;cases h3
 ·rintro⟨h1,h2⟩;refine⟨h1,?_⟩;cases h:sT l (fun s=>decide (4000<s.length))with
  |false=>rfl
  |true =>
   obtain⟨s,hs,h3⟩:=GV.1 h;have:=h2 s hs;simp only[av]at h3;omega
theorem Jk{l:List (List UInt8)}(hl:l.length≤1000000000)(hσ:σ≠[]):lim T (.call false nr [.aI l.length (l.flatMap dh)] σ)=some (.val (.aI l.length (l.flatMap dh)) σ):=by
 refine aA Jt wI.eq_1 rfl ?_;cases l with
 |nil=>simp[-length_flatMap,-map_take]
 |cons s r =>
  have hfl:((s::r).flatMap dh).length=(s::r).length:=by have:=bT (f:=dh) (w:=1) (fun _=>rfl) (s::r);omega
  have hne:¬(s::r).length=0:=by simp
  generalize s::r=l at hl hfl hne ⊢;have hr:l.length*16≤room:=by unfold room;omega
  have hk:=yj (n:=16) (f:=dh) (w:=1) (l:=l) (j:=1) (v:=0) (bs:=[.cells 0 [],.cells 0 (l.flatMap dh)]) (by decide) (fun _=>rfl) (fun _=>by simp[dh]) hσ (by simp);simp[-length_flatMap,-map_take,hfl,hne,hr];exact⟨_,hk⟩
theorem N3{l:List (List UInt8)}(hl:l.length≤1000000000):∀(m i:Nat),i+m=l.length →
  WL T [0,3] false rK [(0,.aI l.length (l.flatMap dh)),(3,.int .i64 i)] σ
   (fun x e σ'=>σ'=σ∧if sT (l.drop i) (fun s=>decide (4000<s.length))then x=.ret∧get e 2=.bool false else x=.exit 0∧get e 0=.aI l.length (l.flatMap dh))
 |0,i,hi=>by
  refine aN rK.eq_1 ?_;obtain rfl:i=l.length:=by omega
  have h2:l.drop l.length=[]:=aB (by omega);simp[-length_flatMap,-map_take,h2,sT]
 |m+1,i,hi=>by
  refine aN rK.eq_1 ?_;have h1:i<l.length:=by omega
  obtain⟨s,hs⟩:=gE h1;have a1:=bS (f:=dh) (w:=1) (fun _=>rfl) hs;simp only[dh,ea]at a1;have h4:=gD h1 (by omega);rw[cY hs];by_cases hc:4000<s.length
  ·have hc':(4000:Int)<s.length:=by omega
   simp[-length_flatMap,-map_take,rU,h1,a1,hc,hc',sT]
  ·have hc':¬(4000:Int)<s.length:=by omega
   simp[-length_flatMap,-map_take,rU,h1,a1,h4,hc',sT,hc];exact WL.to (N3 hl m (i+1) (by omega)) (by simp) rfl fun x e σ' hh=>by simpa[sT,hc]using hh
theorem QV{l:List (List UInt8)}(hl:l.length≤1000000000):lim T (.call false sB [.aI l.length (l.flatMap dh)] σ)=some (.val (.bool (okB l)) σ):=by
 refine aA H3 vn.eq_1 rfl ?_;simp[-length_flatMap,-map_take];refine WL.to (N3 (σ:=[]::σ) hl l.length 0 (by omega)) (by simp) rfl ?_;rintro x e σ' ⟨rfl,hh⟩;rw[aP]at hh;cases hc:sT l (fun s=>decide (4000<s.length))
 ·rw[hc,if_neg (by simp)]at hh;obtain⟨rfl,g0⟩:=hh;by_cases h1:l.length≤100
  ·have h2:(l.length:Int)≤100:=by omega
   simp[-length_flatMap,-map_take,g0,okB,hc,h1,h2]
  ·have h2:¬(l.length:Int)≤100:=by omega
   simp[-length_flatMap,-map_take,g0,okB,hc,h1,h2]
 ·rw[hc,if_pos rfl]at hh;obtain⟨rfl,g2⟩:=hh;simp[g2,okB,hc]
theorem N6{d:List UInt8}{v:Bool}(hd:d.length≤9):∀(m i n:Nat),i+m=d.length→n<10^i →
  WL T [4,5,6,7] false qq [(4,.bool v),(5,.str d),(6,.int .i64 n),(7,.int .i64 i)] σ
   (fun x e σ'=>σ'=σ∧match ri n (d.drop i)with
    |some k=>x=.exit 0∧get e 4=.bool v∧get e 6=.int .i64 k
    |none=>x=.ret∧get e 2=.int .i64 0∧get e 3=.bool false)
 |0,i,n,hi,hn=>by
  refine aN qq.eq_1 ?_;obtain rfl:i=d.length:=by omega
  have h2:d.drop d.length=[]:=aB (by omega);simp[-length_flatMap,-map_take,rU,h2,ri]
 |m+1,i,n,hi,hn=>by
  refine aN qq.eq_1 ?_;have h1:i<d.length:=by omega
  obtain⟨c,hc⟩:=gE h1;have hcg:d[i]=c:=by have:=aF h1;rw[hc]at this;exact(Option.some.inj this).symm
  have h4:=gD h1 (by omega);rw[cY hc];have hp:10^(i+1)≤10^9:=Nat.pow_le_pow_right (by decide) (by omega);rw[Nat.pow_succ]at hp;have hb:=c.toNat_lt;by_cases h5:c.toNat<48
  ·have h6:(c.toNat:Int)<48:=by omega
   have h7:¬D5 c:=by unfold D5;omega
   simp[-length_flatMap,-map_take,rU,h1,hcg,h6,ri,h7]
  ·have h6:¬(c.toNat:Int)<48:=by omega
   by_cases h8:57<c.toNat
   ·have h9:(57:Int)<c.toNat:=by omega
    have h7:¬D5 c:=by unfold D5;omega
    simp[-length_flatMap,-map_take,rU,h1,hcg,h6,h9,ri,h7]
   ·have h9:¬(57:Int)<c.toNat:=by omega
    have h7:D5 c:=by unfold D5;omega
    have w1:IntKind.i64.wrap (10*(n:Int))=((10*n:Nat):Int):=(fT (by omega)).trans (by omega);have w2:IntKind.u8.wrap ((c.toNat:Int)-48)=((c.toNat-48:Nat):Int):=(wu8 (by omega)).trans (by omega);have w3:IntKind.i64.wrap ((c.toNat-48:Nat):Int)=((c.toNat-48:Nat):Int):=fT (by omega);have w4:IntKind.i64.wrap (10*(n:Int)+((c.toNat-48:Nat):Int))=10*(n:Int)+((c.toNat-48:Nat):Int):=fT (by omega);have ih:=N6 (v:=v) hd m (i+1) (10*n+(c.toNat-48)) (by omega) (by rw[Nat.pow_succ];omega);simp[-length_flatMap,-map_take,rU,h1,hcg,h6,h9,ri,if_pos h7,w1,w2,w3,h4];exact WL.to ih (by simp[w4]) rfl fun x e σ' hh=>by rw[if_pos h7];exact hh
theorem afU{s:List UInt8}:lim T (.call false sC [.str s] σ)=some (.val (.dK [.int .i64 ((Dq s).getD 0),.bool (Dq s).isSome]) σ):=by
 rw[RP];refine aA H4 vo.eq_1 rfl ?_;obtain⟨v,d,hs⟩:∃(v:Bool) (d:List UInt8),(s=45::d∧v=true)∨(s=d∧v=false∧d.head? ≠ some 45):=by
  cases s with
  |nil=>exact⟨false,[],Or.inr ⟨rfl,rfl,by simp⟩⟩
  |cons c r =>
   by_cases h:c=45
   ·subst h;exact⟨true,r,Or.inl ⟨rfl,rfl⟩⟩
   ·exact⟨false,c::r,Or.inr ⟨rfl,rfl,by simpa using h⟩⟩
 have hw:Ax s=xT v d:=by
  rcases hs with⟨rfl,rfl⟩ | ⟨rfl,rfl,h⟩
  ·rfl
  ·unfold Ax;rw[if_neg h]
 rw[hw];have hL:=fun h9=>N6 (σ:=[]::σ) (v:=v) (d:=d) h9 d.length 0 0 (by omega) (by decide)
 have hneg:∀k,ri 0 d=some k→d.length≤9→IntKind.i64.wrap (-(k:Int)) = -(k:Int):=fun k hk h9=>by
  have h1:=z8 (k:=0) hk (by decide);have h2:=Nat.lt_of_lt_of_le h1 (Nat.pow_le_pow_right (by decide) (show 0+d.length≤9 by omega));exact fT (by omega)
 by_cases c1:d.length=0
 ·obtain rfl:=bM.1 c1;rcases hs with⟨rfl,rfl⟩ | ⟨rfl,rfl,h⟩<;>simp[-length_flatMap,-map_take,rU,xT]
 have d1:¬(d.length:Int)=0:=by omega
 have hp:0<d.length:=by omega
 have hp1:(0:Int)<d.length:=by omega
 have hp2:(0:Int)<(d.length:Int)+1:=by omega
 have hp3:(1:Int)≤(d.length:Int)+1:=by omega
 obtain⟨c,hc⟩:=gE hp;have hcg:d[0]=c:=by have:=aF hp;rw[hc]at this;exact(Option.some.inj this).symm
 have hh:d.head?=some c:=by rw[List.head?_eq_getElem?,hc]
 rw[hh]at hs;simp only[ne_eq,ae]at hs;by_cases c2:9<d.length
 ·have d2:(9:Int)<d.length:=by omega
  rcases hs with⟨rfl,rfl⟩ | ⟨rfl,rfl,h⟩
  ·simp[-length_flatMap,-map_take,rU,xT,c1,c2,d1,d2,hp3]
  ·have h':¬c.toNat=45:=fun h2=>h (UInt8.toNat_inj.1 h2)
   have h3:((c.toNat:Int) == 45)=false:=by simp;omega
   simp[-length_flatMap,-map_take,rU,xT,c1,c2,d1,d2,hp,hp1,hc,hcg,h3]
 have d2:¬(9:Int)<d.length:=by omega
 have hcz:((c.toNat:Int) == 48)=decide (c=48):=by
  by_cases h:c=48
  ·subst h;rfl
  ·have h':¬c.toNat=48:=fun h2=>h (UInt8.toNat_inj.1 h2)
   simp[h];omega
 have hL:=hL (by omega);rw[aP]at hL;have hone:(1<d.length)=((1:Int)<d.length):=propext ⟨fun h=>by omega,fun h=>by omega⟩;by_cases c3:c=48∧(1<d.length∨v=true)
 ·have hn:xT v d=none:=by unfold xT;rw[hh,if_pos (Or.inr (Or.inr ⟨by rw[c3.1],c3.2⟩))]
  rw[hn];obtain⟨rfl,c4⟩:=c3;rw[hone]at c4;rcases hs with⟨rfl,rfl⟩ | ⟨rfl,rfl,h⟩
  ·by_cases c5:(1:Int)<d.length<;>simp[-length_flatMap,-map_take,rU,c1,c2,d1,d2,hp,hp1,hp3,hc,hcg,c5]
  ·have c4:(1:Int)<s.length:=by simpa using c4
   simp[-length_flatMap,-map_take,rU,c1,c2,d1,d2,hp,hp1,hc,hcg,c4]
 ·have hn:xT v d=(ri 0 d).map fun n:Nat=>(if v=true then -(n:Int)else(n:Int)):=by
   unfold xT;rw[hh,if_neg];rintro(h | h | ⟨h,h2⟩)
   ·exact c1 h
   ·exact c2 h
   ·exact c3 ⟨by simpa using h,h2⟩
  rw[hn];rcases hs with⟨rfl,rfl⟩ | ⟨rfl,rfl,h⟩
  ·have c4:¬c=48:=fun h=>c3 ⟨h,Or.inr rfl⟩
   simp[-length_flatMap,-map_take,rU,c1,c2,d1,d2,hp,hp1,hp3,hc,hcg,hcz,c4];refine WL.to hL (by simp) rfl ?_;rintro x e σ' ⟨rfl,hh⟩;cases hv:ri 0 d with
   |none=>rw[hv]at hh;obtain⟨rfl,g2,g3⟩:=hh;simp[g2,g3]
   |some k=>rw[hv]at hh;obtain⟨rfl,g4,g6⟩:=hh;simp[-length_flatMap,-map_take,g4,g6,hneg k hv (by omega)]
  ·have h':¬c.toNat=45:=fun h2=>h (UInt8.toNat_inj.1 h2)
   have h3:((c.toNat:Int) == 45)=false:=by simp;omega
   have key:∀x e σ',(σ'=[]::σ∧match ri 0 s with
    |some k=>x=Abs.Exit.exit 0∧get e 4=.bool false∧get e 6=.int .i64 k
    |none=>x=.ret∧get e 2=.int .i64 0∧get e 3=.bool false)→True:=fun _ _ _ _=>trivial
   by_cases c4:c=48
   ·have c5:¬(1:Int)<s.length:=fun h=>c3 ⟨c4,Or.inl (by omega)⟩
    subst c4;simp[-length_flatMap,-map_take,rU,c1,c2,d1,d2,hp,hp1,hc,hcg,c5];refine WL.to hL (by simp) rfl ?_;rintro x e σ' ⟨rfl,hh⟩;cases hv:ri 0 s with
    |none=>rw[hv]at hh;obtain⟨rfl,g2,g3⟩:=hh;simp[g2,g3]
    |some k=>rw[hv]at hh;obtain⟨rfl,g4,g6⟩:=hh;simp[-length_flatMap,-map_take,g4,g6]
   ·simp[-length_flatMap,-map_take,rU,c1,c2,d1,d2,hp,hp1,hc,hcg,hcz,h3,c4];refine WL.to hL (by simp) rfl ?_;rintro x e σ' ⟨rfl,hh⟩;cases hv:ri 0 s with
    |none=>rw[hv]at hh;obtain⟨rfl,g2,g3⟩:=hh;simp[g2,g3]
    |some k=>rw[hv]at hh;obtain⟨rfl,g4,g6⟩:=hh;simp[-length_flatMap,-map_take,g4,g6]
end
section
open Go Go.Abs Go.Rock Go.Book
variable {σ:SK}
def glue(c:List UInt8):List (List UInt8)→List (List UInt8)
 |[]=>[c]
 |x::l=>(c++x)::l
theorem Lq{l:List (List UInt8)}(h:l≠[]):glue [] l=l:=by
 cases l with
 |nil=>exact absurd rfl h
 |cons x l=>rfl
theorem NA(b c:UInt8)(s:List UInt8):de b (c::s)=if c=b then []::de b s else glue [c] (de b s):=by
 simp only[de];split
 ·rfl
 ·cases de b s<;>rfl
theorem Ru(a b:List UInt8)(l:List (List UInt8)):glue a (glue b l)=glue (a++b) l:=by
 cases l<;>simp[glue]
theorem Jq{s:List UInt8}(hs:s.length≤1000000):∀(m i fr:Nat) (cl:List (List UInt8)),i+m=s.length→fr≤i→cl.length≤i →
  de 32 s=cl++glue ((s.drop fr).take (i-fr)) (de 32 (s.drop i)) →
  WL T [0,6,7,8] false qd [(0,.str s),(6,.sl σ.length 0 cl.length 0 (cl.length+1) 1),(7,.int .i64 fr),(8,.int .i64 i)] ([.cells cl.length ((cl++[[]]).flatMap dh)]::σ)
   (fun x e σ'=>∃(cl:List (List UInt8)) (fr:Nat),fr≤s.length∧de 32 s=cl++[s.drop fr]∧cl.length≤s.length∧x=.exit 0∧get e 0=.str s∧get e 6=.sl σ.length 0 cl.length 0 (cl.length+1) 1∧get e 7=.int .i64 fr∧σ'=[.cells cl.length ((cl++[[]]).flatMap dh)]::σ)
 |0,i,fr,cl,hi,hf,hc,hsp=>by
  refine aN qd.eq_1 ?_;obtain rfl:i=s.length:=by omega
  have h2:s.drop s.length=[]:=aB (by omega);have h3:(s.drop fr).take (s.length-fr)=s.drop fr:=aj (by simp);rw[h2,h3]at hsp;have h4:glue (s.drop fr) (de 32 [])=[s.drop fr]:=by simp[de,glue]
  rw[h4]at hsp;simp[-length_flatMap,-map_take,rU];exact⟨cl,fr,hf,hsp,hc,by simp⟩
 |m+1,i,fr,cl,hi,hf,hc,hsp=>by
  refine aN qd.eq_1 ?_;have h1:i<s.length:=by omega
  obtain⟨c,hcc⟩:=gE h1;have hcg:s[i]=c:=by have:=aF h1;rw[hcc]at this;exact(Option.some.inj this).symm
  have h4:=gD h1 (by omega);have e1:((i+1:Nat):Int)=(i:Int)+1:=by omega
  rw[cY hcc,NA]at hsp;by_cases c1:c=32
  ·subst c1;rw[if_pos rfl]at hsp;simp only[glue,dL]at hsp;have hw:IntKind.i64.wrap (((cl.length+1:Nat):Int)-1)=(cl.length:Int):=(fT (by omega)).trans (by omega);have hw0:IntKind.i64.wrap (cl.length:Int)=(cl.length:Int):=fT (by omega);have hw1:(cl.length:Int)<(cl.length:Int)+1:=by omega
   have hfl:=bT (f:=dh) (w:=1) (fun _=>rfl) cl;have hr:(cl.length+1+1)*16≤room:=by unfold room;omega
   rw[ea]at hfl;have hd:((cl.flatMap dh)++[D.str []]).drop (cl.length+1)=[]:=aB (by rw[bz,hfl];simp);have ht:∀y:D,((cl.flatMap dh)++[y]).take (cl.length+1)=(cl.flatMap dh)++[y]:=fun y=>aj (by rw[bz,hfl];simp)
   have hfi:(fr:Int)≤i:=by omega
   have hil:(i:Int)≤s.length:=by omega
   have ih:=Jq hs m (i+1) (i+1) (cl++[(s.drop fr).take (i-fr)]) (by omega) (by omega) (by simp;omega) (by
    rw[Nat.sub_self,List.take_zero,Lq (wS _ _),hsp];simp)
   simp[-length_flatMap,-map_take,rU,h1,hcg,hw0,hw1,hfl,h4,hfi,hil,hr];exact WL.to ih (by simp) (by simp[hd,ht]) fun x e σ' hh=>hh
  ·have h':¬c.toNat=32:=fun h2=>c1 (UInt8.toNat_inj.1 h2)
   have h3:((c.toNat:Int) == 32)=false:=by simp;omega
   rw[if_neg c1,Ru]at hsp;have ih:=Jq hs m (i+1) fr cl (by omega) (by omega) (by omega) (by
    rw[hsp];have:(s.drop fr).take (i+1-fr)=(s.drop fr).take (i-fr)++[c]:=by
     rw[show i+1-fr=(i-fr)+1 by omega,List.take_add_one,ei,show fr+(i-fr)=i by omega,hcc];rfl
    rw[this])
   simp[-length_flatMap,-map_take,rU,h1,hcg,h3,h4];exact WL.to ih (by simp) (by simp) fun x e σ' hh=>hh
theorem Gc{a nm:List UInt8}{ws r:List (List UInt8)}{v k:Nat}(hk:ws.drop k=r)(hr:k+r.length≤1000001):∀(m i:Nat) (acc:List Int),i+m=r.length→acc.length=i→pJ r=(pJ (r.drop i)).map (acc ++ ·) →
  WL T [9,10,11,12,13] false qh [(9,.str a),(10,.sl σ.length 0 v k r.length 1),(11,.str nm),(12,.sl σ.length 1 acc.length 0 acc.length 1),(13,.int .i64 i)] ([.cells v (ws.flatMap dh),.cells acc.length (acc.flatMap aS)]::σ)
   (fun x e σ'=>match pJ r with
    |some l=>x=.exit 2∧get e 9=.str a∧get e 11=.str nm∧get e 12=.sl σ.length 1 l.length 0 l.length 1∧σ'=[.cells v (ws.flatMap dh),.cells l.length (l.flatMap aS)]::σ
    |none=>x=.ret∧get e 2=.str []∧get e 3=.str []∧get e 4=.aG∧get e 5=.bool false∧∃b,σ'=b::σ)
 |0,i,acc,hi,ha,hn=>by
  refine aN qh.eq_1 ?_;obtain rfl:i=r.length:=by omega
  have h2:r.drop r.length=[]:=aB (by omega);rw[h2]at hn;simp only[pJ,aT,dL]at hn;simp[-length_flatMap,-map_take,hn]
 |m+1,i,acc,hi,ha,hn=>by
  refine aN qh.eq_1 ?_;have h1:i<r.length:=by omega
  obtain⟨s,hs⟩:=gE h1;have hs':ws[k+i]?=some s:=by rw[← hk,ei]at hs;exact hs
  have hdr:=xn (f:=dh) (w:=1) (fun _=>rfl) hs';simp only[ea,dh,dH]at hdr;have h4:=gD h1 (by omega);rw[cY hs]at hn;have hB:=fun S=>afU (σ:=S) (s:=s)
  cases hv:Dq s with
  |none =>
   rw[hv]at hB;simp only[pJ,hv,Option.map_none]at hn;simp[-length_flatMap,-map_take,h1,hdr,hB,hn]
  |some n =>
   rw[hv]at hB;simp only[pJ,hv,Option.map_map]at hn;have hfl:=bT (f:=aS) (w:=1) (fun _=>rfl) acc;rw[ea]at hfl;have tk:(acc.flatMap aS).take i=acc.flatMap aS:=aj (by omega);have hrm:(i+1)*8≤room:=by unfold room;omega
   have ih:=Gc (a:=a) (nm:=nm) (v:=v) hk hr m (i+1) (acc++[n]) (by omega) (by simp[ha]) (by
    rw[hn];congr 1;funext l;simp)
   subst ha;simp[-length_flatMap,-map_take,h1,hdr,hB,h4,hfl,tk,hrm];exact WL.to ih (by simp) (by simp[aS]) fun x e σ' hh=>hh
def uO(a:List UInt8)(n:Int):Bool :=
 if(a == [102,105,101,108,100] || (a == [114,101,97,100] || a == [115,101,108,108]))=true then n == 4
 else if(a == [98,101,100] || (a == [119,101,108,108] || a == [107,101,101,112]))=true then n == 3
 else if(a == [114,117,108,101])=true then n == 10
 else if(a == [116,97,98,108,101])=true then n.tmod 5 == 0
 else if(a == [113,117,97,107,101])=true then n.tmod 4 == 0
 else if(a == [108,111,103])=true then decide (3≤n) && n.tmod 2 == 1
 else if(a == [117,110,105,116])=true then n.tmod 2 == 1
 else a == [109,111,100,101,108] || a == [116,105,99,107]
def LY(a nm:List UInt8)(r:List (List UInt8)):D:=match pJ r with
 |some l => .dK [.str a,.str nm,.aI l.length (l.flatMap aS),.bool (uO a l.length)]
 |none => .dK [.str [],.str [],.aG,.bool false]
def RU(a:List UInt8):List (List UInt8)→D
 |[] => .dK [.str [],.str [],.aG,.bool false]
 |nm::r=>LY a nm r
def aeF(s:List UInt8):D:=match de 32 s with
 |[] => .aG
 |a::all=>if(a == [109,111,100,101,108] || a == [108,111,103])=true then RU a all else LY a [] all
theorem afF{s:List UInt8}(hs:s.length≤1000000)(hσ:σ≠[]):lim T (.call false sA [.str s] σ)=some (.val (aeF s) σ):=by
 refine aA H2 vm.eq_1 rfl ?_;simp[-length_flatMap,-map_take];refine WL.to (Jq (σ:=σ) hs s.length 0 0 [] (by omega) (by omega) (by simp) (by show de 32 s=glue [] (de 32 s);rw[Lq (wS _ _)])) (by simp) (by simp) ?_;rintro x e σ' ⟨cl,fr,hf,hsp,hc,rfl,g0,g6,g7,rfl⟩;have hw:IntKind.i64.wrap (((cl.length+1:Nat):Int)-1)=(cl.length:Int):=(fT (by omega)).trans (by omega);have hw0:IntKind.i64.wrap (cl.length:Int)=(cl.length:Int):=fT (by omega);have hw1:(cl.length:Int)<(cl.length:Int)+1:=by omega
 have hfl:=bT (f:=dh) (w:=1) (fun _=>rfl) cl;have hfs:(fr:Int)≤s.length:=by omega
 have hd:((cl.flatMap dh)++[D.str []]).drop (cl.length+1)=[]:=aB (by rw[bz,hfl];simp);obtain⟨a,all,ha⟩:∃a all,cl++[s.drop fr]=a::all:=by
  cases cl with
  |nil=>exact⟨_,_,rfl⟩
  |cons x l=>exact⟨_,_,rfl⟩
 have hal:all.length=cl.length:=by have:=congrArg List.length ha;simp at this;omega
 have hce:cl.flatMap dh++D.str (s.drop fr)::((cl.flatMap dh)++[D.str []]).drop (cl.length+1)=.str a::all.flatMap dh:=by
  rw[hd];have:=congrArg (List.flatMap dh) ha;simpa[dh]using this
 have h1c:(1:Int)≤(cl.length:Int)+1:=by omega
 have hrp:aeF s=if(a == [109,111,100,101,108] || a == [108,111,103])=true then RU a all else LY a [] all:=by unfold aeF;rw[hsp,ha]
 rw[hrp];have hfr:∀(b:List Abs.aE) (l:List Int) (nm:List UInt8) (x:Bool),b[1]?=some (.cells l.length (l.flatMap aS))→∃S,cr (σ.length-1) 16 (.dK [.str a,.str nm,.sl σ.length 1 l.length 0 l.length 1,.bool x]) (b::σ)=(.dK [.str a,.str nm,.aI l.length (l.flatMap aS),.bool x],S::σ):=by
  intro b l nm x hb;have f0:=yj (n:=15) (f:=aS) (w:=1) (l:=l) (by decide) (fun _=>rfl) (fun _=>by simp[aS,D.clean]) hσ hb;have h1:∀(s:List UInt8) (S:SK),cr (σ.length-1) 15 (.str s) S=(.str s,S):=fun s S=>jx rfl (by decide)
  have h2:∀(s:Bool) (S:SK),cr (σ.length-1) 15 (.bool s) S=(.bool s,S):=fun s S=>jx rfl (by decide)
  refine⟨b.set 1 .dead,?_⟩;rw[B4 (by simp[D.clean,D.bg]) (by omega)];simp only[wQ,zq,Nat.reduceSub,h1,h2,f0]
 simp[-length_flatMap,-map_take,rU,g0,g6,g7,hw0,hw1,hfl,hfs,hce,h1c];clear hrp hce hd hsp;rw[← hal];have hal2:all.length≤1000000:=by omega
 by_cases c1:a=[109,111,100,101,108]
 ·subst c1;cases all with
  |nil=>simp[-length_flatMap,-map_take,rU,RU]
  |cons nm r =>
   have hr2:(2:Nat)+r.length≤1000001:=by simp at hal2;omega
   have hL:=Gc (σ:=σ) (a:=[109,111,100,101,108]) (nm:=nm) (ws:=[109,111,100,101,108]::nm::r) (r:=r) (k:=2) (v:=r.length+1) rfl hr2 r.length 0 [] (by omega) rfl (by simp);have hr0:¬(r.length:Int)+1=0:=by omega
   have hr1:(1:Int)≤(r.length:Int)+1:=by omega
   simp[-length_flatMap,-map_take,rU,RU,hr0,hr1];refine WL.to hL (by simp) (by simp) ?_;intro x e σ' hh;unfold LY;cases hn:pJ r with
   |none=>rw[hn]at hh;obtain⟨rfl,g2,g3,g4,g5,b,rfl⟩:=hh;simp[g2,g3,g4,g5]
   |some l =>
    rw[hn]at hh;obtain⟨rfl,g9,g11,g12,rfl⟩:=hh;simp[-length_flatMap,-map_take,rU,g9,g11,g12,uO];exact hfr _ l nm true rfl
 by_cases c2:a=[108,111,103]
 ·subst c2;cases all with
  |nil=>simp[-length_flatMap,-map_take,rU,RU]
  |cons nm r =>
   have hr2:(2:Nat)+r.length≤1000001:=by simp at hal2;omega
   have hL:=Gc (σ:=σ) (a:=[108,111,103]) (nm:=nm) (ws:=[108,111,103]::nm::r) (r:=r) (k:=2) (v:=r.length+1) rfl hr2 r.length 0 [] (by omega) rfl (by simp);have hr0:¬(r.length:Int)+1=0:=by omega
   have hr1:(1:Int)≤(r.length:Int)+1:=by omega
   simp[-length_flatMap,-map_take,rU,RU,hr0,hr1];refine WL.to hL (by simp) (by simp) ?_;intro x e σ' hh;unfold LY;cases hn:pJ r with
   |none=>rw[hn]at hh;obtain⟨rfl,g2,g3,g4,g5,b,rfl⟩:=hh;simp[g2,g3,g4,g5]
   |some l =>
    rw[hn]at hh;obtain⟨rfl,g9,g11,g12,rfl⟩:=hh;by_cases h3:(3:Int)≤l.length
    ·simp[-length_flatMap,-map_take,rU,g9,g11,g12,uO,h3];exact hfr _ l nm _ rfl
    ·simp[-length_flatMap,-map_take,rU,g9,g11,g12,uO,h3];exact hfr _ l nm _ rfl
 have hr2:(1:Nat)+all.length≤1000001:=by omega
 have hL:=Gc (σ:=σ) (a:=a) (nm:=[]) (ws:=a::all) (r:=all) (k:=1) (v:=all.length) rfl hr2 all.length 0 [] (by omega) rfl (by simp);have c1':(a == [109,111,100,101,108])=false:=by simpa using c1
 have c2':(a == [108,111,103])=false:=by simpa using c2
 simp[-length_flatMap,-map_take,rU,c1,c2];refine WL.to hL (by simp) (by simp) ?_;intro x e σ' hh;unfold LY;cases hn:pJ all with
 |none=>rw[hn]at hh;obtain⟨rfl,g2,g3,g4,g5,b,rfl⟩:=hh;simp[g2,g3,g4,g5,c1,c2]
 |some l =>
  rw[hn]at hh;obtain⟨rfl,g9,g11,g12,rfl⟩:=hh;by_cases w0:a=[102,105,101,108,100]
  ·subst w0;simp[-length_flatMap,-map_take,rU,g9,g11,g12,uO];exact hfr _ l [] _ rfl
  by_cases w1:a=[114,101,97,100]
  ·subst w1;simp[-length_flatMap,-map_take,rU,g9,g11,g12,uO];exact hfr _ l [] _ rfl
  by_cases w2:a=[115,101,108,108]
  ·subst w2;simp[-length_flatMap,-map_take,rU,g9,g11,g12,uO];exact hfr _ l [] _ rfl
  by_cases w3:a=[98,101,100]
  ·subst w3;simp[-length_flatMap,-map_take,rU,g9,g11,g12,uO];exact hfr _ l [] _ rfl
  by_cases w4:a=[119,101,108,108]
  ·subst w4;simp[-length_flatMap,-map_take,rU,g9,g11,g12,uO];exact hfr _ l [] _ rfl
  by_cases w5:a=[107,101,101,112]
  ·subst w5;simp[-length_flatMap,-map_take,rU,g9,g11,g12,uO];exact hfr _ l [] _ rfl
  by_cases w6:a=[114,117,108,101]
  ·subst w6;simp[-length_flatMap,-map_take,rU,g9,g11,g12,uO];exact hfr _ l [] _ rfl
  by_cases w7:a=[116,97,98,108,101]
  ·subst w7;simp[-length_flatMap,-map_take,rU,g9,g11,g12,uO];exact hfr _ l [] _ rfl
  by_cases w8:a=[113,117,97,107,101]
  ·subst w8;simp[-length_flatMap,-map_take,rU,g9,g11,g12,uO];exact hfr _ l [] _ rfl
  by_cases w9:a=[117,110,105,116]
  ·subst w9;simp[-length_flatMap,-map_take,rU,g9,g11,g12,uO];exact hfr _ l [] _ rfl
  by_cases w10:a=[116,105,99,107]
  ·subst w10;simp[-length_flatMap,-map_take,rU,g9,g11,g12,uO];exact hfr _ l [] _ rfl
  simp[-length_flatMap,-map_take,rU,g9,g11,g12,uO,c1,c2,w0,w1,w2,w3,w4,w5,w6,w7,w8,w9,w10];have hz:(a == [109,111,100,101,108] || a == [116,105,99,107])=false:=by simp[c1,w10]
  rw[hz];exact hfr _ l [] _ rfl
end
section
open Go Go.Abs Go.Rock Go.Book
theorem adR{a:List UInt8}{w:Wd}(h:(a,w)∈oN){n:Nat}(hf:ES w n=true):uO a n=true:=by
 have t5:(n:Int).tmod 5=(n:Int)%5:=Int.tmod_eq_emod_of_nonneg (by omega);have t4:(n:Int).tmod 4=(n:Int)%4:=Int.tmod_eq_emod_of_nonneg (by omega);have t2:(n:Int).tmod 2=(n:Int)%2:=Int.tmod_eq_emod_of_nonneg (by omega);have t3:0<(n:Int)-3→((n:Int)-3).tmod 2=((n:Int)-3)%2:=fun h=>Int.tmod_eq_emod_of_nonneg (by omega)
 have t1:0<(n:Int)-1→((n:Int)-1).tmod 2=((n:Int)-1)%2:=fun h=>Int.tmod_eq_emod_of_nonneg (by omega)
 simp only[oN,ba,ak,List.not_mem_nil,or_false]at h;unfold ES at hf;simp only[bX,af,av]at hf;rcases h with⟨rfl,rfl⟩ | ⟨rfl,rfl⟩ | ⟨rfl,rfl⟩ | ⟨rfl,rfl⟩ | ⟨rfl,rfl⟩ | ⟨rfl,rfl⟩ | ⟨rfl,rfl⟩ | ⟨rfl,rfl⟩ | ⟨rfl,rfl⟩ | ⟨rfl,rfl⟩ | ⟨rfl,rfl⟩ | ⟨rfl,rfl⟩ | ⟨rfl,rfl⟩<;>
  simp only[Int.sub_zero,t5,t4]at hf<;>simp[uO,t5,t4,t2]<;>
  (try (rcases hf with hf | ⟨hf,hf2,hf3⟩<;>(try rw[t3 hf]at hf3)<;>(try rw[t1 hf]at hf3)<;>omega))
theorem aeG{s:List UInt8}{w:Wd}{nm:List UInt8}{l:List Int}(h:parse s=some (w,nm,l)):∃a,(a,w)∈oN∧aeF s=.dK [.str a,.str nm,.aI l.length (l.flatMap aS),.bool true]:=by
 unfold parse at h;unfold aeF;cases hsp:de 32 s with
 |nil=>rw[hsp]at h;cases h
 |cons a all =>
  rw[hsp]at h;simp only at h ⊢;cases hw:xK a with
  |none=>rw[hw]at h;cases h
  |some v =>
   rw[hw]at h;simp only at h;have hm:=BX hw;have key:∀{nm':List UInt8} {r:List (List UInt8)},uo v nm' r=some (w,nm,l)→v=w∧LY a nm' r=.dK [.str a,.str nm,.aI l.length (l.flatMap aS),.bool true]:=by
    intro nm' r h;unfold uo at h;unfold LY;cases hn:pJ r with
    |none=>rw[hn]at h;cases h
    |some ns =>
     rw[hn]at h;simp only at h ⊢;split at h
     ·rename_i hf;cases h;rw[adR hm hf];exact⟨rfl,rfl⟩
     ·cases h
   have hnm:(a == [109,111,100,101,108] || a == [108,111,103])=v.named:=by
    have hm:=hm;simp only[oN,ba,ak,List.not_mem_nil,or_false]at hm;rcases hm with⟨rfl,rfl⟩ | ⟨rfl,rfl⟩ | ⟨rfl,rfl⟩ | ⟨rfl,rfl⟩ | ⟨rfl,rfl⟩ | ⟨rfl,rfl⟩ | ⟨rfl,rfl⟩ | ⟨rfl,rfl⟩ | ⟨rfl,rfl⟩ | ⟨rfl,rfl⟩ | ⟨rfl,rfl⟩ | ⟨rfl,rfl⟩ | ⟨rfl,rfl⟩<;>rfl
   rw[hnm];split at h
   ·rename_i hv;rw[if_pos hv];cases all with
    |nil=>cases h
    |cons n r =>
     obtain⟨rfl,h2⟩:=key h;exact⟨a,hm,h2⟩
   ·rename_i hv;rw[if_neg hv];obtain⟨rfl,h2⟩:=key h;exact⟨a,hm,h2⟩
theorem L8:∀{l:List (List UInt8)} {b:Bk} {k:Int} {i:Nat} {s:List UInt8},l[i]?=some s →
  (oI b k (l.take (i+1))).1=(sd (oI b k (l.take i)).1 (k+i) s).1∧(oI b k l).2[i]?=some (sd (oI b k (l.take i)).1 (k+i) s).2
 |[],b,k,i,s,h=>by simp at h
 |x::l,b,k,0,s,h=>by
  simp only[bY,ae]at h;subst h;simp[oI]
 |x::l,b,k,i+1,s,h=>by
  have ih:=L8 (l:=l) (b:=(sd b k x).1) (k:=k+1) (i:=i) (s:=s) (by simpa using h);have e:k+1+(i:Int)=k+((i+1:Nat):Int):=by omega
  rw[e]at ih;simpa[oI]using ih
def Tf(b:Bk)(k:Nat)(nm:List UInt8)(l:List Int)(r:Bk×Int):Prop :=
 (r.1.an=b.an∧r.1.jt=b.jt∧(b.an≠[]→r.1.bG=b.bG)) ∨
 (r.1.an=b.an++[⟨⟨nm,l⟩,true,0⟩]∧r.1.jt=b.jt++[⟨0,0,0,0⟩]∧r.1.bG=b.bG∧∀e∈b.an,e.m.name≠nm) ∨
 (∃kd lo hi q,k=5∧l=kd::lo::hi::q∧si b.bG.f (lM nm kd lo hi (Dj q))=0∧r=(mE b lo hi (fun m=>Ip b.bG.f m (lM nm kd lo hi (Dj q))),0)) ∨
 (∃w i lo hi,k=10∧l=[w,i,lo,hi]∧ct w 0 255=true∧uw b.bG b.az.length ⟨b.az.length,w,i,lo,hi⟩=0∧r=(mE b lo hi (vq b ⟨b.az.length,w,i,lo,hi⟩),0))
theorem Mt{n:Nat}{b:Bk}(hK:Kv n b)(k:Nat)(nm:List UInt8)(l:List Int):Tf b k nm l (vW b k nm l):=by
 have same:∀e,Tf b k nm l (b,e):=fun e => .inl ⟨rfl,rfl,fun _=>rfl⟩
 have any:∀{c:Bk} {e:Int},c.an=b.an→c.jt=b.jt→c.bG=b.bG→Tf b k nm l (c,e):=fun h1 h2 h3 => .inl ⟨h1,h2,fun _=>h3⟩
 unfold vW;split
 ·split
  ·unfold xV;split
   ·rename_i h1;split
    ·exact .inl ⟨rfl,rfl,fun hm=>absurd h1 (JC (hK.ready (hK.ms hm))).2⟩
    ·exact same _
   ·exact same _
  ·exact same _
 ·unfold xY;split
  ·rename_i h1;split
   ·exact .inl ⟨rfl,rfl,fun hm=>absurd h1 (JC (hK.ready (hK.ms hm))).1⟩
   ·exact same _
  ·exact same _
 ·split
  ·unfold Fz;split
   ·exact same _
   ·rename_i h1;split
    ·exact .inl ⟨rfl,rfl,fun hm=>absurd (.inr (.inr (hK.ms hm))) h1⟩
    ·exact same _
  ·exact same _
 ·split
  ·unfold yS;split
   ·rename_i h1;split
    ·exact .inl ⟨rfl,rfl,fun hm=>absurd h1.2 hm⟩
    ·exact same _
   ·exact same _
  ·exact same _
 ·unfold xW;split
  ·split
   ·exact same _
   ·rename_i h1;split
    ·split
     ·refine .inr (.inl ⟨rfl,rfl,rfl,fun e he h=>h1 (GV.2 ⟨e,he,by simp[h]⟩)⟩)
     ·exact same _
    ·exact same _
  ·exact same _
 ·split
  ·unfold FA;split
   ·exact same _
   ·split
    ·rename_i h1;exact .inr (.inr (.inl ⟨_,_,_,_,rfl,rfl,h1,rfl⟩))
    ·exact same _
  ·exact same _
 ·unfold Bl;split
  ·split
   ·split
    ·exact any rfl rfl rfl
    ·exact same _
   ·exact same _
  ·exact same _
 ·split
  ·split
   ·exact any rfl rfl rfl
   ·exact same _
  ·exact same _
 ·unfold xX;split
  ·split
   ·exact any rfl rfl rfl
   ·exact same _
  ·exact same _
 ·unfold yR;split
  ·exact same _
  ·split
   ·split
    ·split
     ·split
      ·exact any rfl rfl rfl
      ·exact same _
     ·exact same _
    ·exact same _
   ·exact same _
 ·split
  ·unfold yP;split
   ·exact same _
   ·split
    ·rename_i h1;split
     ·rename_i h2;exact .inr (.inr (.inr ⟨_,_,_,_,rfl,rfl,h1,h2,rfl⟩))
     ·exact same _
    ·exact same _
  ·exact same _
 ·split
  ·unfold Bm;split
   ·split
    ·exact any rfl rfl rfl
    ·exact same _
   ·exact same _
  ·exact same _
 ·split
  ·unfold yQ;split
   ·exact same _
   ·split
    ·split
     ·exact any rfl rfl rfl
     ·exact same _
    ·exact same _
  ·exact same _
 ·exact same _
def atT(l:List (List UInt8))(f:fU)(e:jb)(v:F1):Prop :=
 ∃(j:Nat) (s:List UInt8) (w:Wd) (nm:List UInt8) (ns:List Int),e.by_=j∧v.line=j∧l[j]?=some s∧(dE l).2[j]?=some 0∧parse s=some (w,nm,ns)∧ct v.value v.lo v.hi=false ∧
 ((w.k=5∧∃kd q,ns=kd::v.lo::v.hi::q∧si f (lM nm kd v.lo v.hi (Dj q))=0∧v.value=Ip f e.m (lM nm kd v.lo v.hi (Dj q))) ∨
  (w.k=10∧∃wh i,ns=[wh,i,v.lo,v.hi]∧ct wh 0 255=true∧uw (dE (l.take j)).1.bG (dE (l.take j)).1.az.length ⟨(dE (l.take j)).1.az.length,wh,i,v.lo,v.hi⟩=0 ∧
   (∃e0∈(dE (l.take j)).1.an,e0.m=e.m∧e0.left=true)∧v.value=vq (dE (l.take j)).1 ⟨(dE (l.take j)).1.az.length,wh,i,v.lo,v.hi⟩ e.m))
def Inv1(l:List (List UInt8))(b:Bk):Prop:=∀(i:Nat) (e:jb) (v:F1),b.an[i]?=some e→b.jt[i]?=some v→(e.left=true→e.by_=0)∧(e.left=false→atT l b.bG.f e v)
def Inv2(b:Bk):Prop:=∀(i j:Nat) (e e':jb),b.an[i]?=some e→b.an[j]?=some e'→e.m.name=e'.m.name→i=j
def FO(b b':Bk):Prop:=∀(i:Nat) (e:jb),b.an[i]?=some e→∃e',b'.an[i]?=some e'∧e'.m=e.m∧(e.left=false→e'=e)
theorem FO.refl(b:Bk):FO b b:=fun i e h=>⟨e,h,rfl,fun _=>rfl⟩
theorem FO.trans{a b c:Bk}(h1:FO a b)(h2:FO b c):FO a c:=by
 intro i e h;obtain⟨e1,k1,k2,k3⟩:=h1 i e h;obtain⟨e2,j1,j2,j3⟩:=h2 i e1 k1;refine⟨e2,j1,j2.trans k2,fun hl=>?_⟩;obtain rfl:=k3 hl;exact j3 hl
theorem HL{b:Bk}{lo hi:Int}{val:cI→Int}{i:Nat}{e:jb}(h:(mE b lo hi val).an[i]?=some e):∃e0,b.an[i]?=some e0∧e=Go.Book.dh b.at_ lo hi val e0:=by
 simp only[mE,Bk.jX,fu,ad]at h;obtain⟨e0,h1,h2⟩:=h;have:=(au.1 h1).1;rw[if_pos this]at h2;exact⟨e0,h1,h2.symm⟩
theorem ahd{b:Bk}{lo hi:Int}{val:cI→Int}{i:Nat}{e:jb}(h:b.an[i]?=some e):(mE b lo hi val).an[i]?=some (Go.Book.dh b.at_ lo hi val e):=by
 have:=(au.1 h).1;simp only[mE,Bk.jX,fu,h,aT,if_pos this]
theorem ae5{b:Bk}{lo hi:Int}{val:cI→Int}{i:Nat}{e:jb}{v:F1}(h:b.an[i]?=some e)(hw:(mE b lo hi val).jt[i]?=some v):∃v0,b.jt[i]?=some v0∧v=if isStr lo hi val e then⟨b.at_,val e.m,lo,hi⟩else v0:=by
 simp only[mE,Bk.jX,fu,ad]at hw;obtain⟨v0,h1,h2⟩:=hw;have:=(au.1 h).1;rw[if_pos this]at h2;simp only[ag6,h]at h2;exact⟨v0,h1,h2.symm⟩
theorem NG{at_ lo hi:Int}{val:cI→Int}{e:jb}:(Go.Book.dh at_ lo hi val e).m=e.m:=by
 unfold Go.Book.dh;split<;>rfl
theorem Gp{α:Type}{l:List α}{x y:α}{i:Nat}(h:(l++[x])[i]?=some y):l[i]?=some y∨(i=l.length∧y=x):=by
 by_cases hi:i<l.length
 ·rw[fW hi]at h;exact .inl h
 ·rw[List.getElem?_append_right (by omega)]at h;cases hk:i-l.length with
  |zero=>rw[hk]at h;simp at h;exact .inr ⟨by omega,h.symm⟩
  |succ k=>rw[hk]at h;simp at h
theorem RB{lo hi:Int}{val:cI→Int}{e:jb}(h:isStr lo hi val e=true):e.left=true∧ct (val e.m) lo hi=false:=by
 simpa[isStr]using h
theorem LA{l:List (List UInt8)}{i n:Nat}{s:List UInt8}(hs:l[i]?=some s)(hK:Kv n (dE (l.take i)).1)(h1:Inv1 l (dE (l.take i)).1)(h2:Inv2 (dE (l.take i)).1):
  Inv1 l (dE (l.take (i+1))).1∧Inv2 (dE (l.take (i+1))).1∧FO (dE (l.take i)).1 (dE (l.take (i+1))).1:=by
 obtain⟨r1,r2⟩:=L8 (b:=nN) (k:=0) hs;rw[show(oI nN 0 (l.take (i+1))).1=(dE (l.take (i+1))).1 from rfl]at r1;rw[r1];rw[show(oI nN 0 l).2=(dE l).2 from rfl]at r2;rw[show(oI nN 0 (l.take i)).1=(dE (l.take i)).1 from rfl]at r2 ⊢;rw[show(0:Int)+(i:Int)=(i:Int)from by omega]at r2 ⊢;unfold sd at r2 ⊢;cases hp:parse s with
 |none=>exact⟨h1,h2,FO.refl _⟩
 |some q =>
 obtain⟨w,nm,ns⟩:=q;rw[hp]at r2;simp only at r2 ⊢;have hW:=Mt (hK.anL i) w.k nm ns;obtain⟨b,hb⟩:∃b,b=(dE (l.take i)).1:=⟨_,rfl⟩;have hb1:({(dE (l.take i)).1 with at_:=(i:Int) }:Bk)={b with at_:=(i:Int) }:=by rw[hb]
 rw[hb1]at hW r2 ⊢;generalize hr:vW {b with at_:=(i:Int) } w.k nm ns=r at hW r2 ⊢;rw[← hb]at h1 h2 hK ⊢;have hwl:=hK.wl;have HK:∀(lo hi:Int) (val:cI→Int),r=(mE {b with at_:=(i:Int) } lo hi val,0) →
   (∀e v,e∈b.an→e.left=true→v.line=(i:Int)→v.value=val e.m→v.lo=lo→v.hi=hi→ct (val e.m) lo hi=false→atT l b.bG.f ⟨e.m,false,i⟩ v) →
   Inv1 l r.1∧Inv2 r.1∧FO b r.1:=by
  intro lo hi val hr hwhy;subst hr;refine⟨?_,?_,?_⟩
  ·intro j e v he hv;obtain⟨e0,k1,k2⟩:=HL he;obtain⟨v0,k3,k4⟩:=ae5 k1 hv;have k5:=h1 j e0 v0 k1 k3;cases hst:isStr lo hi val e0 with
   |false =>
    simp only[Go.Book.dh,hst,aw,if_false]at k2 k4;subst k2;subst k4;exact k5
   |true =>
    obtain⟨m1,m2⟩:=RB hst;simp only[Go.Book.dh,hst,if_true]at k2 k4;subst k2;subst k4;exact⟨fun h=>(by cases h),fun _=>hwhy e0 _ (ai k1) m1 rfl rfl rfl rfl m2⟩
  ·intro j j' e e' he he' hn;obtain⟨e0,k1,k2⟩:=HL he;obtain⟨e0',k1',k2'⟩:=HL he';refine h2 j j' e0 e0' k1 k1' ?_;rw[k2,k2',NG,NG]at hn;exact hn
  ·intro j e he;refine⟨_,ahd (b:={b with at_:=(i:Int) }) he,NG,fun hl=>?_⟩;simp[Go.Book.dh,isStr,hl]
 rcases hW with⟨m1,m2,m3⟩ | ⟨m1,m2,m3,m4⟩ | ⟨kd,lo,hi,q,m1,rfl,m3,m4⟩ | ⟨wh,ix,lo,hi,m1,rfl,m3,m4,m5⟩
 ·simp only at m1 m2 m3;refine⟨?_,?_,?_⟩
  ·intro j e v he hv;rw[m1]at he;rw[m2]at hv;rw[m3 (fun h=>by rw[h]at he;simp at he)];exact h1 j e v he hv
  ·intro j j' e e' he he';rw[m1]at he he';exact h2 j j' e e' he he'
  ·intro j e he;rw[m1];exact⟨e,he,rfl,fun _=>rfl⟩
 ·simp only at m1 m2 m3 m4;refine⟨?_,?_,?_⟩
  ·intro j e v he hv;rw[m1]at he;rw[m2]at hv;rw[m3];rcases Gp he with he | ⟨rfl,rfl⟩
   ·rcases Gp hv with hv | ⟨rfl,rfl⟩
    ·exact h1 j e v he hv
    ·have:=(au.1 he).1;omega
   ·exact⟨fun _=>rfl,fun h=>(by cases h)⟩
  ·intro j j' e e' he he' hn;rw[m1]at he he';rcases Gp he with he | ⟨rfl,rfl⟩<;>rcases Gp he' with he' | ⟨rfl,rfl⟩
   ·exact h2 j j' e e' he he' hn
   ·exact absurd hn (m4 e (ai he))
   ·exact absurd hn.symm (m4 e' (ai he'))
   ·rfl
  ·intro j e he;rw[m1];refine⟨e,?_,rfl,fun _=>rfl⟩;rw[fW (au.1 he).1];exact he
 ·refine HK lo hi _ m4 ?_;intro e v he hl v1 v2 v3 v4 hin;subst v3;subst v4;rw[m4]at r2;refine⟨i,s,w,nm,_,rfl,v1,hs,r2,hp,by rw[v2];exact hin,.inl ⟨m1,kd,q,rfl,m3,v2⟩⟩
 ·refine HK lo hi _ m5 ?_;intro e v he hl v1 v2 v3 v4 hin;subst v3;subst v4;rw[m5]at r2;refine⟨i,s,w,nm,_,rfl,v1,hs,r2,hp,by rw[v2];exact hin,.inr ⟨m1,wh,ix,rfl,m3,?_,?_,?_⟩⟩
  ·rw[← hb];exact m4
  ·rw[← hb];exact⟨e,he,rfl,hl⟩
  ·rw[← hb];exact v2
theorem JR{l:List (List UInt8)}(hl:∀s∈l,s.length≤4000):∀n,n≤l.length→Inv1 l (dE (l.take n)).1∧Inv2 (dE (l.take n)).1
 |0,h=>⟨by intro i e v he;simp[dE,oI,nN]at he,by intro i j e e' he;simp[dE,oI,nN]at he⟩
 |n+1,h=>by
  obtain⟨h1,h2⟩:=JR hl n (by omega);have hK:=vQ (l:=l.take n) (k:=0) Kv.zero fun s hs=>hl s (cm hs)
  obtain⟨k1,k2,_⟩:=LA (aF (show n<l.length by omega)) hK h1 h2;exact⟨k1,k2⟩
theorem Ls{l:List (List UInt8)}(hl:∀s∈l,s.length≤4000){n:Nat}:∀m,n+m≤l.length→FO (dE (l.take n)).1 (dE (l.take (n+m))).1
 |0,h=>FO.refl _
 |m+1,h=>by
  obtain⟨h1,h2⟩:=JR hl (n+m) (by omega);have hK:=vQ (l:=l.take (n+m)) (k:=0) Kv.zero fun s hs=>hl s (cm hs)
  obtain⟨_,_,k3⟩:=LA (aF (show n+m<l.length by omega)) hK h1 h2;exact(Ls hl m (by omega)).trans k3
end
section
open Go Go.Abs Go.Rock Go.Book
variable {σ:SK}
def F9(b:Bk):List D:=[.int .i64 b.bG.f.x,.int .i64 b.bG.f.y,.int .i64 b.bG.f.z,.int .i64 b.bG.f.k,nl Rw.enc b.bG.cq,.int .i64 b.bG.bJ,.int .i64 b.bG.lift,.int .i64 b.bG.deep,nl bH.enc b.bG.ar,
 .aI b.an.length (b.an.flatMap jb.enc),nl pE b.az,.aI b.rules.length (b.rules.flatMap Trem.eE.enc),.aI b.zl.length (b.zl.flatMap Trem.Ev.enc),.int .i64 b.k0,.int .i64 b.k1,.int .i64 b.k2,
 .aI b.fg.length (b.fg.flatMap xQ.enc),.aI b.mK.length (b.mK.flatMap Sd.enc)]
theorem ID{α:Type}{f:α→List D}(h:∀x,D.bg (f x)=true)(l:List α):(nl f l).clean=true:=by
 unfold nl;split
 ·rfl
 ·simp[D.clean,dX h l]
theorem ko{α:Type}{f:α→List D}{w n:Nat}(hn:1<n)(hw:∀x,(f x).length=w)(hc:∀x,D.bg (f x)=true){l:List α}{j v m:Nat}{bs bs':List Abs.aE}(hσ:σ≠[])(hm:m=l.length)(hj:bs[j]?=some (.cells v (l.flatMap f)))(hb:bs.set j .dead=bs'):
  cr (σ.length-1) n (.sl σ.length j v 0 m w) (bs::σ)=(.aI m (l.flatMap f),bs'::σ):=by
 subst hb;subst hm;exact yj hn hw hc hσ hj
theorem Rq{b:Bk}{er:List Int}(hσ:σ≠[]):cr (σ.length-1) 16 (.dK [.agg ((b.cells σ.length).take 18),.sl σ.length 7 er.length 0 er.length 1,.int .i64 0]) (b.bw σ.length er::σ) =
  (.dK [.agg (F9 b),.aI er.length (er.flatMap aS),.int .i64 0],[.dead,.dead,.dead,.dead,.dead,.cells b.jt.length (b.jt.flatMap F1.enc),.cells 0 (b.cells σ.length),.dead]::σ):=by
 have c1:(nl Rw.enc b.bG.cq).clean=true:=ID (fun _=>by simp[D.clean]) _;have c2:(nl bH.enc b.bG.ar).clean=true:=ID (fun _=>by simp[D.clean]) _;have c3:(nl pE b.az).clean=true:=ID (fun x=>by simp[pE,D.clean,aY]) _;have q1:∀x:jb,D.bg x.enc=true:=fun x=>by simp[D.clean,aY]
 have q2:∀x:Trem.eE,D.bg x.enc=true:=fun x=>by simp[D.clean]
 have q3:∀x:Trem.Ev,D.bg x.enc=true:=fun x=>by simp[D.clean,dX (f:=Trem.wC.enc) (fun _=>by simp[D.clean])]
 have q4:∀x:xQ,D.bg x.enc=true:=fun x=>by simp[D.clean,dX (f:=Prt.enc) (fun _=>by simp[D.clean])]
 have q5:∀x:Sd,D.bg x.enc=true:=fun x=>by simp[D.clean]
 have q6:∀x:Int,D.bg (aS x)=true:=fun x=>by simp[aS,D.clean]
 generalize hA5:Abs.aE.cells b.jt.length (b.jt.flatMap F1.enc)=A5;generalize hA6:Abs.aE.cells 0 (b.cells σ.length)=A6;have f0:=ko (σ:=σ) (n:=14) (w:=4) (by omega) (fun _=>rfl) q1 (l:=b.an) (j:=0) (v:=b.an.length) (bs:=b.bw σ.length er) hσ rfl rfl rfl;have f1:=ko (σ:=σ) (n:=14) (w:=10) (by omega) (fun _=>rfl) q2 (l:=b.rules) (j:=1) (v:=b.rules.length) (bs:=(b.bw σ.length er).set 0 .dead) hσ rfl rfl rfl;have f2:=ko (σ:=σ) (n:=14) (w:=2) (by omega) (fun _=>rfl) q3 (l:=b.zl) (j:=2) (v:=b.zl.length) (bs:=((b.bw σ.length er).set 0 .dead).set 1 .dead) hσ rfl rfl rfl;have f3:=ko (σ:=σ) (n:=14) (w:=2) (by omega) (fun _=>rfl) q4 (l:=b.fg) (j:=3) (v:=b.fg.length) (bs:=(((b.bw σ.length er).set 0 .dead).set 1 .dead).set 2 .dead) hσ rfl rfl rfl;have f4:=ko (σ:=σ) (n:=14) (w:=6) (by omega) (fun _=>rfl) q5 (l:=b.mK) (j:=4) (v:=b.mK.length) (bs:=((((b.bw σ.length er).set 0 .dead).set 1 .dead).set 2 .dead).set 3 .dead) hσ rfl rfl rfl;have f5:=ko (σ:=σ) (n:=15) (w:=1) (by omega) (fun _=>rfl) q6 (l:=er) (j:=7) (v:=er.length) (bs:=(((((b.bw σ.length er).set 0 .dead).set 1 .dead).set 2 .dead).set 3 .dead).set 4 .dead) hσ rfl rfl rfl;have hi:∀(k:Int) (n:Nat) (S:SK),0<n→cr (σ.length-1) n (.int .i64 k) S=(.int .i64 k,S):=fun k n S hn=>jx (by rfl) hn
 rw[B4 (by simp[Bk.cells,D.clean,D.bg]) (by omega)];simp only[wQ,zq];rw[PW (by simp[Bk.cells,D.clean]) (by omega)];simp only[Bk.cells,List.take_succ_cons,List.take_zero,wQ,zq,Nat.reduceSub];simp only[hi _ 14 _ (by omega),jx c1 (show 0<14 by omega),jx c2 (show 0<14 by omega),jx c3 (show 0<14 by omega),f0,f1,f2,f3,f4,f5,hi _ 15 _ (by omega)];simp only[Bk.bw,List.set_cons_zero,List.set_cons_succ,hA5,F9];rw[← hA6]
theorem Sq{lines:List (List UInt8)}(hl:Nn lines)(hσ:σ≠[]):lim T (.call false nI [.aI lines.length (lines.flatMap dh)] σ) =
  some (.val (.dK [.agg (F9 (dE lines).1),.aI lines.length ((dE lines).2.flatMap aS),.int .i64 0]) σ):=by
 refine aA HY vj.eq_1 rfl ?_;have hC:=fun S=>KA (σ:=S) (l:=lines) (by have:=hl.1;omega)
 have hok:okB lines=true:=JW.2 hl;simp only[hok,if_true]at hC;have hR:=SR (σ:=σ) (lines:=lines) hl;have hlen:(dE lines).2.length=lines.length:=Fb;have hf:=Rq (σ:=σ) (b:=(dE lines).1) (er:=(dE lines).2) hσ;rw[hlen]at hf;generalize dE lines=r at hR hlen hf ⊢;obtain⟨b,er⟩:=r;simp only at hR hf hlen ⊢;simp only[Bk.cells,Bk.bw,List.take_succ_cons,List.take_zero]at hf hR;simp[-length_flatMap,-map_take,hC,hR];exact⟨_,hf⟩
theorem Kz{s t:List UInt8}:lim T (.call false l7 [.str s,.str t] σ)=some (.val (.bool (decide (t.length≤s.length) && (s.take t.length == t))) σ):=by
 refine aA GH tO.eq_1 rfl ?_;by_cases h:t.length≤s.length
 ·have h':(t.length:Int)≤s.length:=by omega
  simp[-length_flatMap,-map_take,rU,h,h']
 ·have h':¬(t.length:Int)≤s.length:=by omega
  simp[-length_flatMap,-map_take,rU,h,h']
theorem aho{l:List (List UInt8)}(hl:l.length≤9223372036854775807):∀(m i:Nat) (x y z:Int),i+m=l.length →
  WL T [0,3,4,5,6] false sF [(0,.aI l.length (l.flatMap dh)),(3,.int .i64 x),(4,.int .i64 y),(5,.int .i64 z),(6,.int .i64 i)] σ
   (fun x e σ'=>σ'=σ∧x=.exit 0∧get e 0=.aI l.length (l.flatMap dh)∧∃u v w,get e 3=.int .i64 u∧get e 4=.int .i64 v∧get e 5=.int .i64 w)
 |0,i,x,y,z,hi=>by
  refine aN sF.eq_1 ?_;have h1:¬i<l.length:=by omega
  simp[-length_flatMap,-map_take,h1]
 |m+1,i,x,y,z,hi=>by
  refine aN sF.eq_1 ?_;have h1:i<l.length:=by omega
  obtain⟨s,hs⟩:=gE h1;have a1:=bS (f:=dh) (w:=1) (fun _=>rfl) hs;simp only[dh,ea]at a1;have h4:=gD h1 (by omega);have hB:=fun t σ=>@Kz σ s t
  have e1:((i+1:Nat):Int)=(i:Int)+1:=by omega
  have ih:=fun x y z=>aho hl m (i+1) x y z (by omega)
  rw[e1]at ih;rw[e1]at h4;generalize hv:(fun t:List UInt8=>decide (t.length≤s.length) && (s.take t.length == t))=v at hB;have hB':∀t σ,lim T (.call false l7 [.str s,.str t] σ)=some (.val (.bool (v t)) σ):=fun t σ=>by rw[← hv];exact Kz
  cases c1:v [109,111,100,101,108]<;>cases c2:v [116,105,99,107]<;>simp[-length_flatMap,-map_take,rU,h1,a1,h4,hB',c1,c2]<;>
   exact WL.to (ih _ _ _) rfl rfl fun x e σ' hh=>by simpa using hh
theorem atE{l:List (List UInt8)}(hl:l.length≤9223372036854775807)(σ:SK):∃v,lim T (.call false vJ [.aI l.length (l.flatMap dh)] σ)=some (.val (.bool v) σ)∧(v=true→l.length≤103):=by
 obtain⟨x,e,σ',h1,rfl,rfl,g0,u,v,w,g3,g4,g5⟩:=aho (σ:=[]::σ) hl l.length 0 0 0 0 (by omega);refine⟨decide (v≤4) && (decide (w≤8) && (decide (u≤5000) && (decide ((l.length:Int)≤40) || (decide (u≤400) && decide ((l.length:Int)≤103))))),?_,fun h=>by simp only[af,bX,av]at h;omega⟩;refine aA KR yb.eq_1 rfl ?_;simp[-length_flatMap,-map_take];refine⟨_,_,_,by simpa using h1,?_⟩;by_cases c1:v≤4<;>by_cases c2:w≤8<;>by_cases c3:u≤5000<;>by_cases c4:(l.length:Int)≤40<;>by_cases c5:u≤400<;>by_cases c6:(l.length:Int)≤103<;>
  simp[-length_flatMap,-map_take,g0,g3,g4,g5,c1,c2,c3,c4,c5,c6]
end
end Go.Proofs.YtfgljaglidhjiaaGreatDoor
