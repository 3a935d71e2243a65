import Derived.Test.YtanhdobabijmoaaGreatDoorTxt6
set_option linter.all false
set_option maxRecDepth 100000
namespace Go.dk
open List(length_flatMap map_take)
open Go Go.aA Go.aI
def E8(c:UInt8):Prop:=48<=c.toNat/\c.toNat<=57
instance (c:UInt8):Decidable (E8 c):=by unfold E8;infer_instance
def rJ:Nat->List UInt8->Option Nat
 |n,[]=>some n
 |n,c::s=>if E8 c then rJ (10*n+(c.toNat-48)) s else none
def y9(minus:Bool)(d:List UInt8):Option Int :=
 if d.length=0\/9<d.length\/(d.head?=some 48/\(1<d.length\/minus=true))then none
 else(rJ 0 d).map λn:Nat=>(if minus=true then -(n:Int)else(n:Int))
def BG(s:List UInt8):Option Int:=if s.head?=some 45 then y9 true (s.drop 1)else y9 false s
theorem Ix:∀{a b:List UInt8} {n:Nat},rJ n (a++b)=(rJ n a).bind λm=>rJ m b
 |[],b,n=>rfl
 |c::a,b,n=>by
  simp only[cM,rJ];split
  .exact Ix
  .rfl
theorem Bb:∀{s:List UInt8} {n m k:Nat},rJ n s=some m->n<10^k->m<10^(k+s.length)
 |[],n,m,k,h,hn=>by simp only[rJ,ad]at h;subst h;simpa using hn
 |c::s,n,m,k,h,hn=>by
  simp only[rJ]at h;split at h
  .rename_i hd;have hd2:=hd.2;have:=Bb (k:=k+1) h (by rw[Nat.pow_succ];omega);simpa[di,Nat.add_comm 1]using this
  .cases h
theorem Iy:∀{s:List UInt8} {n m:Nat},rJ n s=some m->m<1844674407370955161->Lib.parseUint10 n s=.ok m
 |[],n,m,h,hm=>by simp only[rJ,ad]at h;subst h;rfl
 |c::s,n,m,h,hm=>by
  simp only[rJ]at h;split at h
  .rename_i hd;have hle:∀{s:List UInt8} {n m:Nat},rJ n s=some m->n<=m:=by
    intro s;induction s with
    |nil=>intro n m h;simp only[rJ,ad]at h;omega
    |cons c s ih =>
     intro n m h;simp only[rJ]at h;split at h
     .have:=ih h;omega
     .cases h
   have h1:=hle h;have h2:=Iy h hm;unfold Lib.parseUint10;have hd2:=hd.2;have hd1:=hd.1;rw[if_pos (show 48<=c.toNat/\c.toNat<=57 from hd),if_neg (by omega),if_neg (by omega),<- h2];congr 1;omega
  .cases h
theorem T8{k:Nat}(hk:k<10):E8 (UInt8.ofNat (48+k))/\(UInt8.ofNat (48+k)).toNat-48=k:=by
 have:(UInt8.ofNat (48+k)).toNat=48+k:=UInt8.toNat_ofNat_of_lt' (by simp[UInt8.size];omega);unfold E8;omega
theorem T7{c:UInt8}(h:E8 c):UInt8.ofNat (48+(c.toNat-48))=c:=by
 have:=h.1;rw[show 48+(c.toNat-48)=c.toNat by omega];simp
theorem Lu:∀{k u:Nat},u<10^k->0<k->rJ 0 (kl k u)=some u
 |0,u,h,hk=>by omega
 |k+1,u,h,hk=>by
  unfold kl;split
  .rename_i hu;have h1:=T8 hu;simp only[rJ,if_pos h1.1,h1.2,Nat.mul_zero,cJ]
  .rename_i hu;have hk':0<k:=by
    rcases Nat.eq_zero_or_pos k with rfl | h0
    .simp at h;omega
    .exact h0
   have hd:=T8 (k:=u%10) (Nat.mod_lt _ (by omega));rw[Ix,Lu (k:=k) (u:=u / 10) (by rw[Nat.pow_succ]at h;omega) hk'];simp only[Option.bind_some,rJ,if_pos hd.1,hd.2,ad];omega
theorem OZ:∀{k u:Nat},0<k->kl k u≠[]
 |0,u,hk=>by omega
 |k+1,u,hk=>by
  unfold kl;split<;>simp
theorem Lv:∀{k u m:Nat},u<10^m->0<m->(kl k u).length<=m
 |0,u,m,h,hm=>by simp[kl]
 |k+1,u,m,h,hm=>by
  unfold kl;split
  .simp;omega
  .rename_i hu;obtain⟨j,rfl⟩:∃j,m=j+1:=⟨m-1,by omega⟩;have hj:0<j:=by
    rcases Nat.eq_zero_or_pos j with rfl | h0
    .simp at h;omega
    .exact h0
   have:=Lv (k:=k) (u:=u / 10) (m:=j) (by rw[Nat.pow_succ]at h;omega) hj;simp;omega
theorem Iv:∀{k u:Nat},u<10^k->(kl k u).head?=some 48->u=0
 |0,u,h,hh=>by simp[kl]at hh
 |k+1,u,h,hh=>by
  unfold kl at hh;split at hh
  .rename_i hu;simp only[List.head?_cons,ad]at hh;have:=congrArg UInt8.toNat hh;simp at this;omega
  .rename_i hu;have hk:0<k:=by
    rcases Nat.eq_zero_or_pos k with rfl | h0
    .simp at h;omega
    .exact h0
   have h1:(kl k (u / 10)).head?=some 48:=by
    cases hd:kl k (u / 10)with
    |nil=>exact absurd hd (OZ hk)
    |cons c r=>rw[hd]at hh;simpa using hh
   have:=Iv (k:=k) (u:=u / 10) (by rw[Nat.pow_succ]at h;omega) h1;omega
theorem Qu:∀{d:List UInt8} {n k:Nat},rJ 0 d=some n->d≠[]->(d.head?=some 48->d.length=1)->d.length<=k->kl k n=d:=by
 intro d;induction hl:d.length using Nat.strongRecOn generalizing d with
 |ind m ih =>
  intro n k h hne hz hk;obtain⟨d',c,rfl⟩:∃d' c,d=d'++[c]:=⟨d.dropLast,d.getLast hne,(List.dropLast_concat_getLast hne).symm⟩;rw[Ix]at h;cases h1:rJ 0 d' with
  |none=>rw[h1]at h;cases h
  |some q =>
   rw[h1]at h;simp only[Option.bind_some,rJ]at h;split at h
   .rename_i hc;simp only[ad]at h;have hc2:=hc.2;obtain⟨k,rfl⟩:∃j,k=j+1:=⟨k-1,by simp at hl;omega⟩;by_cases hd:d'=[]
    .subst hd;simp only[rJ,ad]at h1;subst h1;have hn:n=c.toNat-48:=by omega
     subst hn;unfold kl;rw[if_pos (by have:=hc.1;omega),T7 hc];rfl
    .have hh:(d'++[c]).head?=d'.head?:=by
      cases d' with
      |nil=>exact absurd rfl hd
      |cons x r=>rfl
     have hz':d'.head?=some 48->d'.length=1:=by
      intro h2;have h5:=hz (by rw[hh];exact h2);have hp:=aN.2 hd;rw[<- hl,aF]at h5;simp only[av,aV]at h5;omega
     have hnz:d'.head? ≠ some 48:=by
      intro h2;have h5:=hz (by rw[hh];exact h2);have hp:=aN.2 hd;rw[<- hl,aF]at h5;simp only[av,aV]at h5;omega
     have ih1:=ih d'.length (by simp at hl;omega) rfl (n:=q) (k:=k) h1 hd hz' (by simp at hl;omega);have hq:q≠0:=by
      intro h2;subst h2;rw[<- ih1]at hnz;have hkp:0<k:=by have:=aN.2 hd;simp at hl;omega
      obtain⟨j,rfl⟩:∃j,k=j+1:=⟨k-1,by omega⟩;simp[kl]at hnz
     unfold kl;have e1:n / 10=q:=by omega
     have e2:n%10=c.toNat-48:=by omega
     rw[if_neg (by omega),e1,e2,ih1,T7 hc]
   .cases h
theorem Kc{d:List UInt8}{n:Nat}(h:rJ 0 d=some n)(hne:d≠[])(hn:n<=999999999):
  q7 d=(0,(n:Int))/\q7 (45::d)=(0,-(n:Int)):=by
 have hp:=Iy h (by omega);have hm:Lib.parseMag d=.ok n:=by unfold Lib.parseMag;rw[if_neg hne];exact hp
 constructor
 .unfold q7 Lib.atoiAll;cases d with
  |nil=>exact absurd rfl hne
  |cons c r =>
   have hc:E8 c:=by
    simp only[rJ]at h;split at h
    .assumption
    .cases h
   have h1:=hc.1;have h2:=hc.2;simp only;rw[if_neg (by omega),hm];simp only;rw[if_neg (by omega),if_neg (by omega),if_neg (by omega)]
 .unfold q7 Lib.atoiAll;simp only;rw[if_pos (Or.inr (by decide)),hm];simp only;rw[if_neg (by simp),if_neg (by omega),if_pos (by decide)]
theorem Sq(s:List UInt8):El s=BG s:=by
 have key:∀n,BG s=some n->El s=some n:=by
  intro n h;unfold BG at h;split at h
  .rename_i hm;obtain⟨d,rfl⟩:∃d,s=45::d:=by
    cases s with
    |nil=>simp at hm
    |cons c d=>simp at hm;subst hm;exact⟨d,rfl⟩
   simp only[List.drop_succ_cons,aP]at h;unfold y9 at h;split at h
   .cases h
   rename_i hc;simp only[not_or,not_and]at hc;simp only[ab]at h;obtain⟨m,h1,h2⟩:=h;have hne:d≠[]:=by intro h3;subst h3;simp at hc
   have hb:=Bb (k:=0) h1 (by decide);have hlt:m<10^9:=Nat.lt_of_lt_of_le hb (Nat.pow_le_pow_right (by decide) (by omega));have hd:=Qu (k:=20) h1 hne (λh3=>absurd trivial (hc.2.2 h3).2) (by omega);have hm0:m≠0:=by
    intro h3;subst h3;have:d.head?=some 48:=by rw[<- hd];rfl
    exact absurd trivial (hc.2.2 this).2
   obtain⟨_,ha⟩:=Kc h1 hne (by omega);unfold El;rw[ha];have hi:dp (-(m:Int))=45::d:=by
    unfold dp;rw[if_pos (by omega),show(-(m:Int)).natAbs=m by omega,hd]
   rw[if_pos ⟨⟨rfl,hi⟩,by simp[cj];omega⟩];simpa using h2
  .rename_i hm;unfold y9 at h;split at h
   .cases h
   rename_i hc;simp only[not_or,not_and]at hc;simp only[ab]at h;obtain⟨m,h1,h2⟩:=h;have hne:s≠[]:=by intro h3;subst h3;simp at hc
   have hb:=Bb (k:=0) h1 (by decide);have hlt:m<10^9:=Nat.lt_of_lt_of_le hb (Nat.pow_le_pow_right (by decide) (by omega));have hd:=Qu (k:=20) h1 hne (λh3=>by have:=(hc.2.2 h3).1;have:=aN.2 hne;omega) (by omega);obtain⟨ha,_⟩:=Kc h1 hne (by omega);unfold El;rw[ha];have hi:dp (m:Int)=s:=by
    unfold dp;rw[if_neg (by omega),show((m:Int)).toNat=m by omega,hd]
   rw[if_pos ⟨⟨rfl,hi⟩,by simp[cj];omega⟩];simpa using h2
 cases hn:El s with
 |none =>
  cases hw:BG s with
  |none=>rfl
  |some n=>rw[key n hw]at hn;cases hn
 |some n =>
  have h:=hn;unfold El at h;split at h
  .rename_i hc;obtain⟨⟨_,h1⟩,h2⟩:=hc;simp only[ad]at h;rw[h]at h1 h2;simp only[cj,ae,au]at h2;suffices BG s=some n from this.symm
   rw[<- h1];unfold dp;split
   .rename_i hneg;have hlt:n.natAbs<10^9:=by omega
    have hd:=Lu (k:=20) (u:=n.natAbs) (Nat.lt_trans hlt (by decide)) (by decide);have hl:=Lv (k:=20) (u:=n.natAbs) (m:=9) hlt (by decide);have hne:=OZ (k:=20) (u:=n.natAbs) (by decide);have hh:(kl 20 n.natAbs).head? ≠ some 48:=λh3=>by have:=Iv (Nat.lt_trans hlt (by decide)) h3;omega
    unfold BG;rw[if_pos (show(45::kl 20 n.natAbs).head?=some 45 from rfl)];simp only[List.drop_succ_cons,aP];unfold y9;rw[if_neg (by simp only[not_or,not_and];exact⟨by have:=aN.2 hne;omega,by omega,λh3=>absurd h3 hh⟩),hd];simp;omega
   .rename_i hneg;have hlt:n.toNat<10^9:=by omega
    have hd:=Lu (k:=20) (u:=n.toNat) (Nat.lt_trans hlt (by decide)) (by decide);have hl:=Lv (k:=20) (u:=n.toNat) (m:=9) hlt (by decide);have hne:=OZ (k:=20) (u:=n.toNat) (by decide);have hh:(kl 20 n.toNat).head? ≠ some 45:=by
     intro h3;cases hx:kl 20 n.toNat with
     |nil=>exact hne hx
     |cons c r =>
      rw[hx]at hd h3;simp at h3;subst h3;simp[rJ,E8]at hd
    have hz:(kl 20 n.toNat).head?=some 48->¬1<(kl 20 n.toNat).length:=by
     intro h3;have h0:=Iv (Nat.lt_trans hlt (by decide)) h3;rw[h0];decide
    unfold BG;rw[if_neg hh];unfold y9;rw[if_neg (by simp only[not_or,not_and];exact⟨by have:=aN.2 hne;omega,by omega,λh3=>⟨hz h3,by simp⟩⟩),hd];simp;omega
  .cases h
end Go.dk
namespace Go.dk
open List(length_flatMap map_take)
open Go Go.aA
def by8(n:Nat):UInt8:=UInt8.ofNat n
end Go.dk
namespace Go.Proofs.YtanhdobabijmoaaGreatDoor
open List(length_flatMap map_take)
section
open Go Go.aA Go.dk
variable {J:SK}
def XY(l:List (List UInt8)):Prop:=l.length<=100/\∀s∈l,s.length<=4000
def aar:WI (List UInt8):=⟨false,1,dc,λs => .str s,λ_=>rfl,λ_=>by simp[dc],λ_=>rfl,λ_=>rfl,λ_=>rfl⟩
theorem S7{s:List UInt8}:lim T (.call false 30 [.str s] J)=some (.val (.bool (decide (4000<s.length))) J):=by
 refine aw EE rh.eq_1 rfl ?_;have e:decide ((4000:Int)<(s.length:Int))=decide (4000<s.length):=by
  by_cases h:4000<s.length
  .rw[decide_eq_true h,decide_eq_true (by omega)]
  .rw[decide_eq_false h,decide_eq_false (by omega)]
 simp[-length_flatMap,-map_take,lX,e]
def okB(l:List (List UInt8)):Bool:=decide (l.length<=100) && !tV l (λs=>decide (4000<s.length))
theorem S6{l:List (List UInt8)}(hl:l.length<=1000000000):lim T (.call false 14 [.aJ l.length (l.flatMap dc)] J)=some (.val (.int .i64 (if okB l then 0 else 3)) J):=by
 refine aw G1 tE.eq_1 rfl ?_;have hC:=λJ=>contains_of aar (T:=T) (f:=29) (i:=49) (l:=l) (p:=λs=>decide (4000<s.length)) (fv:=.fn 30 [] []) rfl rfl (by omega) (oJ.fn λs _ J=>S7) (J:=J)
 have hC':∀J,lim T (.call false 29 [.aJ l.length (l.flatMap dc),.fn 30 [] []] J)=some (.val (.bool (tV l (λs=>decide (4000<s.length)))) J):=hC;unfold okB;by_cases h1:l.length<=100
 .have h2:¬(100:Int)<l.length:=by omega
  cases h3:tV l (λs=>decide (4000<s.length))<;>rw[h3]at hC'<;>simp[-length_flatMap,-map_take,h1,h2,hC']
 .have h2:(100:Int)<l.length:=by omega
  simp[-length_flatMap,-map_take,h1,h2]
theorem QW{l:List (List UInt8)}:okB l=true↔XY l:=by
 unfold okB XY;simp only[ae,au,cY];constructor
 .rintro⟨h1,h2⟩;refine⟨h1,λs hs=>?_⟩;by_cases h:s.length<=4000
  .exact h
  .have h3:tV l (λs=>decide (4000<s.length))=true:=Ig.2 ⟨s,hs,show decide (4000<s.length)=true from decide_eq_true (by omega)⟩;rw[h2]at h3;cases h3
 .rintro⟨h1,h2⟩;refine⟨h1,?_⟩;cases h:tV l (λs=>decide (4000<s.length))with
  |false=>rfl
  |true =>
   obtain⟨s,hs,h3⟩:=Ig.1 h;have:=h2 s hs;simp only[au]at h3;omega
theorem P8{l:List (List UInt8)}(hl:l.length<=1000000000):∀(m i:Nat),i+m=l.length ->
  WL T [0,3] false ot [(0,.aJ l.length (l.flatMap dc)),(3,.int .i64 i)] J
   (λx e J'=>J'=J/\if tV (l.drop i) (λs=>decide (4000<s.length))then x=.ret/\get e 2=.bool false else x=.exit 0/\get e 0=.aJ l.length (l.flatMap dc))
 |0,i,hi=>by
  refine aH ot.eq_1 ?_;obtain rfl:i=l.length:=by omega
  have h2:l.drop l.length=[]:=aE (by omega);simp[-length_flatMap,-map_take,h2,tV]
 |m+1,i,hi=>by
  refine aH ot.eq_1 ?_;have h1:i<l.length:=by omega
  obtain⟨s,hs⟩:=gE h1;have a1:=bX (f:=dc) (w:=1) (λ_=>rfl) hs;simp only[dc,ec]at a1;have h4:=dJ h1;rw[drop_at hs];by_cases hc:4000<s.length
  .have hc':(4000:Int)<s.length:=by omega
   simp[-length_flatMap,-map_take,lX,h1,a1,hc,hc',tV]
  .have hc':¬(4000:Int)<s.length:=by omega
   simp[-length_flatMap,-map_take,lX,h1,a1,h4,hc',tV,hc];exact WL.to (P8 hl m (i+1) (by omega)) (by simp) rfl λx e J' hh=>by simpa[tV,hc]using hh
theorem Rz{l:List (List UInt8)}(hl:l.length<=1000000000):lim T (.call false 5 [.aJ l.length (l.flatMap dc)] J)=some (.val (.bool (okB l)) J):=by
 refine aw Jx wc.eq_1 rfl ?_;simp[-length_flatMap,-map_take];refine WL.to (P8 (J:=[]::J) hl l.length 0 (by omega)) (by simp) rfl ?_;rintro x e J' ⟨rfl,hh⟩;rw[aP]at hh;cases hc:tV l (λs=>decide (4000<s.length))
 .rw[hc,if_neg (by simp)]at hh;obtain⟨rfl,g0⟩:=hh;by_cases h1:l.length<=100
  .have h2:(l.length:Int)<=100:=by omega
   simp[-length_flatMap,-map_take,g0,okB,hc,h1,h2]
  .have h2:¬(l.length:Int)<=100:=by omega
   simp[-length_flatMap,-map_take,g0,okB,hc,h1,h2]
 .rw[hc,if_pos rfl]at hh;obtain⟨rfl,g2⟩:=hh;simp[g2,okB,hc]
theorem Qc{d:List UInt8}{v:Bool}(hd:d.length<=9):∀(m i n:Nat),i+m=d.length->n<10^i ->
  WL T [4,5,6,7] false mG [(4,.bool v),(5,.str d),(6,.int .i64 n),(7,.int .i64 i)] J
   (λx e J'=>J'=J/\match rJ n (d.drop i)with
    |some k=>x=.exit 0/\get e 4=.bool v/\get e 6=.int .i64 k
    |none=>x=.ret/\get e 2=.int .i64 0/\get e 3=.bool false)
 |0,i,n,hi,hn=>by
  refine aH mG.eq_1 ?_;obtain rfl:i=d.length:=by omega
  have h2:d.drop d.length=[]:=aE (by omega);simp[-length_flatMap,-map_take,lX,h2,rJ]
 |m+1,i,n,hi,hn=>by
  refine aH mG.eq_1 ?_;have h1:i<d.length:=by omega
  obtain⟨c,hc⟩:=gE h1;have hcg:d[i]=c:=by have:=aC h1;rw[hc]at this;exact(Option.some.inj this).symm
  have h4:=dJ h1;rw[drop_at hc];have hp:10^(i+1)<=10^9:=Nat.pow_le_pow_right (by decide) (by omega);rw[Nat.pow_succ]at hp;have hb:=c.toNat_lt;by_cases h5:c.toNat<48
  .have h6:(c.toNat:Int)<48:=by omega
   have h7:¬E8 c:=by unfold E8;omega
   simp[-length_flatMap,-map_take,lX,h1,hcg,h6,rJ,h7]
  .have h6:¬(c.toNat:Int)<48:=by omega
   by_cases h8:57<c.toNat
   .have h9:(57:Int)<c.toNat:=by omega
    have h7:¬E8 c:=by unfold E8;omega
    simp[-length_flatMap,-map_take,lX,h1,hcg,h6,h9,rJ,h7]
   .have h9:¬(57:Int)<c.toNat:=by omega
    have h7:E8 c:=by unfold E8;omega
    have w1:IntKind.i64.wrap (10*(n:Int))=((10*n:Nat):Int):=(eQ).trans (by omega);have w2:IntKind.u8.wrap ((c.toNat:Int)-48)=((c.toNat-48:Nat):Int):=(wu8 (by omega)).trans (by omega);have w3:IntKind.i64.wrap ((c.toNat-48:Nat):Int)=((c.toNat-48:Nat):Int):=eQ;have w4:IntKind.i64.wrap (10*(n:Int)+((c.toNat-48:Nat):Int))=10*(n:Int)+((c.toNat-48:Nat):Int):=eQ;have ih:=Qc (v:=v) hd m (i+1) (10*n+(c.toNat-48)) (by omega) (by rw[Nat.pow_succ];omega);simp[-length_flatMap,-map_take,lX,h1,hcg,h6,h9,rJ,if_pos h7,w1,w2,w3,h4];exact WL.to ih (by simp[w4]) rfl λx e J' hh=>by rw[if_pos h7];exact hh
theorem WB{s:List UInt8}:lim T (.call false 24 [.str s] J)=some (.val (.db [.int .i64 ((El s).getD 0),.bool (El s).isSome]) J):=by
 rw[Sq];refine aw Jy we.eq_1 rfl ?_;obtain⟨v,d,hs⟩:∃(v:Bool) (d:List UInt8),(s=45::d/\v=true)\/(s=d/\v=false/\d.head? ≠ some 45):=by
  cases s with
  |nil=>exact⟨false,[],Or.inr ⟨rfl,rfl,by simp⟩⟩
  |cons c r =>
   by_cases h:c=45
   .subst h;exact⟨true,r,Or.inl ⟨rfl,rfl⟩⟩
   .exact⟨false,c::r,Or.inr ⟨rfl,rfl,by simpa using h⟩⟩
 have hw:BG s=y9 v d:=by
  rcases hs with⟨rfl,rfl⟩ | ⟨rfl,rfl,h⟩
  .rfl
  .unfold BG;rw[if_neg h]
 rw[hw];have hL:=λh9=>Qc (J:=[]::J) (v:=v) (d:=d) h9 d.length 0 0 (by omega) (by decide)
 have hneg:∀k,rJ 0 d=some k->d.length<=9->IntKind.i64.wrap (-(k:Int)) = -(k:Int):=λk hk h9=>by
  have h1:=Bb (k:=0) hk (by decide);have h2:=Nat.lt_of_lt_of_le h1 (Nat.pow_le_pow_right (by decide) (show 0+d.length<=9 by omega));exact eQ
 by_cases c1:d.length=0
 .obtain rfl:=bw.1 c1;rcases hs with⟨rfl,rfl⟩ | ⟨rfl,rfl,h⟩<;>simp[-length_flatMap,-map_take,lX,y9]
 have d1:¬(d.length:Int)=0:=by omega
 have hp:0<d.length:=by omega
 have hp1:(0:Int)<d.length:=by omega
 have hp2:(0:Int)<(d.length:Int)+1:=by omega
 have hp3:(1:Int)<=(d.length:Int)+1:=by omega
 obtain⟨c,hc⟩:=gE hp;have hcg:d[0]=c:=by have:=aC hp;rw[hc]at this;exact(Option.some.inj this).symm
 have hh:d.head?=some c:=by rw[List.head?_eq_getElem?,hc]
 rw[hh]at hs;simp only[ne_eq,ad]at hs;by_cases c2:9<d.length
 .have d2:(9:Int)<d.length:=by omega
  rcases hs with⟨rfl,rfl⟩ | ⟨rfl,rfl,h⟩
  .simp[-length_flatMap,-map_take,lX,y9,c1,c2,d1,d2,hp3]
  .have h':¬c.toNat=45:=λh2=>h (UInt8.toNat_inj.1 h2)
   have h3:((c.toNat:Int) == 45)=false:=by simp;omega
   simp[-length_flatMap,-map_take,lX,y9,c1,c2,d1,d2,hp,hp1,hc,hcg,h3]
 have d2:¬(9:Int)<d.length:=by omega
 have hcz:((c.toNat:Int) == 48)=decide (c=48):=by
  by_cases h:c=48
  .subst h;rfl
  .have h':¬c.toNat=48:=λh2=>h (UInt8.toNat_inj.1 h2)
   simp[h];omega
 have hL:=hL (by omega);rw[aP]at hL;have hone:(1<d.length)=((1:Int)<d.length):=propext ⟨λh=>by omega,λh=>by omega⟩;by_cases c3:c=48/\(1<d.length\/v=true)
 .have hn:y9 v d=none:=by unfold y9;rw[hh,if_pos (Or.inr (Or.inr ⟨by rw[c3.1],c3.2⟩))]
  rw[hn];obtain⟨rfl,c4⟩:=c3;rw[hone]at c4;rcases hs with⟨rfl,rfl⟩ | ⟨rfl,rfl,h⟩
  .by_cases c5:(1:Int)<d.length<;>simp[-length_flatMap,-map_take,lX,c1,c2,d1,d2,hp,hp1,hp3,hc,hcg,c5]
  .have c4:(1:Int)<s.length:=by simpa using c4
   simp[-length_flatMap,-map_take,lX,c1,c2,d1,d2,hp,hp1,hc,hcg,c4]
 .have hn:y9 v d=(rJ 0 d).map λn:Nat=>(if v=true then -(n:Int)else(n:Int)):=by
   unfold y9;rw[hh,if_neg];rintro(h | h | ⟨h,h2⟩)
   .exact c1 h
   .exact c2 h
   .exact c3 ⟨by simpa using h,h2⟩
  rw[hn];rcases hs with⟨rfl,rfl⟩ | ⟨rfl,rfl,h⟩
  .have c4:¬c=48:=λh=>c3 ⟨h,Or.inr rfl⟩
   simp[-length_flatMap,-map_take,lX,c1,c2,d1,d2,hp,hp1,hp3,hc,hcg,hcz,c4];refine WL.to hL (by simp) rfl ?_;rintro x e J' ⟨rfl,hh⟩;cases hv:rJ 0 d with
   |none=>rw[hv]at hh;obtain⟨rfl,g2,g3⟩:=hh;simp[g2,g3]
   |some k=>rw[hv]at hh;obtain⟨rfl,g4,g6⟩:=hh;simp[-length_flatMap,-map_take,g4,g6,hneg k hv (by omega)]
  .have h':¬c.toNat=45:=λh2=>h (UInt8.toNat_inj.1 h2)
   have h3:((c.toNat:Int) == 45)=false:=by simp;omega
   have key:∀x e J',(J'=[]::J/\match rJ 0 s with
    |some k=>x=aA.Exit.exit 0/\get e 4=.bool false/\get e 6=.int .i64 k
    |none=>x=.ret/\get e 2=.int .i64 0/\get e 3=.bool false)->True:=λ_ _ _ _=>trivial
   by_cases c4:c=48
   .have c5:¬(1:Int)<s.length:=λh=>c3 ⟨c4,Or.inl (by omega)⟩
    subst c4;simp[-length_flatMap,-map_take,lX,c1,c2,d1,d2,hp,hp1,hc,hcg,c5];refine WL.to hL (by simp) rfl ?_;rintro x e J' ⟨rfl,hh⟩;cases hv:rJ 0 s with
    |none=>rw[hv]at hh;obtain⟨rfl,g2,g3⟩:=hh;simp[g2,g3]
    |some k=>rw[hv]at hh;obtain⟨rfl,g4,g6⟩:=hh;simp[-length_flatMap,-map_take,g4,g6]
   .simp[-length_flatMap,-map_take,lX,c1,c2,d1,d2,hp,hp1,hc,hcg,hcz,h3,c4];refine WL.to hL (by simp) rfl ?_;rintro x e J' ⟨rfl,hh⟩;cases hv:rJ 0 s with
    |none=>rw[hv]at hh;obtain⟨rfl,g2,g3⟩:=hh;simp[g2,g3]
    |some k=>rw[hv]at hh;obtain⟨rfl,g4,g6⟩:=hh;simp[-length_flatMap,-map_take,g4,g6]
end
section
open Go Go.aA Go.aI Go.dk
variable {J:SK}
def glue(c:List UInt8):List (List UInt8)->List (List UInt8)
 |[]=>[c]
 |x::l=>(c++x)::l
theorem Nj{l:List (List UInt8)}(h:l≠[]):glue [] l=l:=by
 cases l with
 |nil=>exact absurd rfl h
 |cons x l=>rfl
theorem Px(b c:UInt8)(s:List UInt8):bQ b (c::s)=if c=b then []::bQ b s else glue [c] (bQ b s):=by
 simp only[bQ];split
 .rfl
 .cases bQ b s<;>rfl
theorem R0(a b:List UInt8)(l:List (List UInt8)):glue a (glue b l)=glue (a++b) l:=by
 cases l<;>simp[glue]
theorem K9{s:List UInt8}(hs:s.length<=1000000):∀(m i fr:Nat) (cl:List (List UInt8)),i+m=s.length->fr<=i->cl.length<=i ->
  bQ 32 s=cl++glue ((s.drop fr).take (i-fr)) (bQ 32 (s.drop i)) ->
  WL T [0,6,7,8] false mE [(0,.str s),(6,.sl J.length 0 cl.length 0 (cl.length+1) 1),(7,.int .i64 fr),(8,.int .i64 i)] ([.cells cl.length ((cl++[[]]).flatMap dc)]::J)
   (λx e J'=>∃(cl:List (List UInt8)) (fr:Nat),fr<=s.length/\bQ 32 s=cl++[s.drop fr]/\cl.length<=s.length/\x=.exit 0/\get e 0=.str s/\get e 6=.sl J.length 0 cl.length 0 (cl.length+1) 1/\get e 7=.int .i64 fr/\J'=[.cells cl.length ((cl++[[]]).flatMap dc)]::J)
 |0,i,fr,cl,hi,hf,hc,hsp=>by
  refine aH mE.eq_1 ?_;obtain rfl:i=s.length:=by omega
  have h2:s.drop s.length=[]:=aE (by omega);have h3:(s.drop fr).take (s.length-fr)=s.drop fr:=af (by simp);rw[h2,h3]at hsp;have h4:glue (s.drop fr) (bQ 32 [])=[s.drop fr]:=by simp[bQ,glue]
  rw[h4]at hsp;simp[-length_flatMap,-map_take,lX];exact⟨cl,fr,hf,hsp,hc,by simp⟩
 |m+1,i,fr,cl,hi,hf,hc,hsp=>by
  refine aH mE.eq_1 ?_;have h1:i<s.length:=by omega
  obtain⟨c,hcc⟩:=gE h1;have hcg:s[i]=c:=by have:=aC h1;rw[hcc]at this;exact(Option.some.inj this).symm
  have h4:=dJ h1;have e1:((i+1:Nat):Int)=(i:Int)+1:=by omega
  rw[drop_at hcc,Px]at hsp;by_cases c1:c=32
  .subst c1;rw[if_pos rfl]at hsp;simp only[glue,ct]at hsp;have hw:IntKind.i64.wrap (((cl.length+1:Nat):Int)-1)=(cl.length:Int):=(eQ).trans (by omega);have hw0:IntKind.i64.wrap (cl.length:Int)=(cl.length:Int):=eQ;have hw1:(cl.length:Int)<(cl.length:Int)+1:=by omega
   have hfl:=bK (f:=dc) (w:=1) (λ_=>rfl) cl;have hr:(cl.length+1+1)*16<=room:=by unfold room;omega
   rw[ec]at hfl;have hd:((cl.flatMap dc)++[D.str []]).drop (cl.length+1)=[]:=aE (by rw[aF,hfl];simp);have ht:∀y:D,((cl.flatMap dc)++[y]).take (cl.length+1)=(cl.flatMap dc)++[y]:=λy=>af (by rw[aF,hfl];simp)
   have hfi:(fr:Int)<=i:=by omega
   have hil:(i:Int)<=s.length:=by omega
   have ih:=K9 hs m (i+1) (i+1) (cl++[(s.drop fr).take (i-fr)]) (by omega) (by omega) (by simp;omega) (by
    rw[Nat.sub_self,List.take_zero,Nj (vP _ _),hsp];simp)
   simp[-length_flatMap,-map_take,lX,h1,hcg,hw0,hw1,hfl,h4,hfi,hil,hr];exact WL.to ih (by simp) (by simp[hd,ht]) λx e J' hh=>hh
  .have h':¬c.toNat=32:=λh2=>c1 (UInt8.toNat_inj.1 h2)
   have h3:((c.toNat:Int) == 32)=false:=by simp;omega
   rw[if_neg c1,R0]at hsp;have ih:=K9 hs m (i+1) fr cl (by omega) (by omega) (by omega) (by
    rw[hsp];have:(s.drop fr).take (i+1-fr)=(s.drop fr).take (i-fr)++[c]:=by
     rw[show i+1-fr=(i-fr)+1 by omega,List.take_add_one,eE,show fr+(i-fr)=i by omega,hcc];rfl
    rw[this])
   simp[-length_flatMap,-map_take,lX,h1,hcg,h3,h4];exact WL.to ih (by simp) (by simp) λx e J' hh=>hh
theorem Hl{a nm:List UInt8}{ws r:List (List UInt8)}{v k:Nat}(hk:ws.drop k=r)(hr:k+r.length<=1000001):∀(m i:Nat) (acc:List Int),i+m=r.length->acc.length=i->oN r=(oN (r.drop i)).map (acc ++ ·) ->
  WL T [9,10,11,12,13] false mF [(9,.str a),(10,.sl J.length 0 v k r.length 1),(11,.str nm),(12,.sl J.length 1 acc.length 0 acc.length 1),(13,.int .i64 i)] ([.cells v (ws.flatMap dc),.cells acc.length (acc.flatMap aM)]::J)
   (λx e J'=>match oN r with
    |some l=>x=.exit 2/\get e 9=.str a/\get e 11=.str nm/\get e 12=.sl J.length 1 l.length 0 l.length 1/\J'=[.cells v (ws.flatMap dc),.cells l.length (l.flatMap aM)]::J
    |none=>x=.ret/\get e 2=.str []/\get e 3=.str []/\get e 4=.bP/\get e 5=.bool false/\∃b,J'=b::J)
 |0,i,acc,hi,ha,hn=>by
  refine aH mF.eq_1 ?_;obtain rfl:i=r.length:=by omega
  have h2:r.drop r.length=[]:=aE (by omega);rw[h2]at hn;simp only[oN,aX,ct]at hn;simp[-length_flatMap,-map_take,hn]
 |m+1,i,acc,hi,ha,hn=>by
  refine aH mF.eq_1 ?_;have h1:i<r.length:=by omega
  obtain⟨s,hs⟩:=gE h1;have hs':ws[k+i]?=some s:=by rw[<- hk,eE]at hs;exact hs
  have hdr:=zY (f:=dc) (w:=1) (λ_=>rfl) hs';simp only[ec,dc,cf]at hdr;have h4:=dJ h1;rw[drop_at hs]at hn;have hB:=λS=>WB (J:=S) (s:=s)
  cases hv:El s with
  |none =>
   rw[hv]at hB;simp only[oN,hv,Option.map_none]at hn;simp[-length_flatMap,-map_take,h1,hdr,hB,hn]
  |some n =>
   rw[hv]at hB;simp only[oN,hv,Option.map_map]at hn;have hfl:=bK (f:=aM) (w:=1) (λ_=>rfl) acc;rw[ec]at hfl;have tk:(acc.flatMap aM).take i=acc.flatMap aM:=af (by omega);have hrm:(i+1)*8<=room:=by unfold room;omega
   have ih:=Hl (a:=a) (nm:=nm) (v:=v) hk hr m (i+1) (acc++[n]) (by omega) (by simp[ha]) (by
    rw[hn];congr 1;funext l;simp)
   subst ha;simp[-length_flatMap,-map_take,h1,hdr,hB,h4,hfl,tk,hrm];exact WL.to ih (by simp) (by simp[aM]) λx e J' hh=>hh
def vy(a:List UInt8)(n:Int):Bool :=
 if(a == [102,105,101,108,100] || (a == [114,101,97,100] || a == [115,101,108,108]))=true then n == 4
 else if(a == [98,101,100] || (a == [119,101,108,108] || a == [107,101,101,112]))=true then n == 3
 else if(a == [114,117,108,101])=true then n == 10
 else if(a == [116,97,98,108,101])=true then n.tmod 5 == 0
 else if(a == [113,117,97,107,101])=true then n.tmod 4 == 0
 else if(a == [108,111,103])=true then decide (3<=n) && n.tmod 2 == 1
 else if(a == [117,110,105,116])=true then n.tmod 2 == 1
 else a == [109,111,100,101,108] || a == [116,105,99,107]
def JO(a nm:List UInt8)(r:List (List UInt8)):D:=match oN r with
 |some l => .db [.str a,.str nm,.aJ l.length (l.flatMap aM),.bool (vy a l.length)]
 |none => .db [.str [],.str [],.bP,.bool false]
def Sx(a:List UInt8):List (List UInt8)->D
 |[] => .db [.str [],.str [],.bP,.bool false]
 |nm::r=>JO a nm r
def Pn(s:List UInt8):D:=match bQ 32 s with
 |[] => .bP
 |a::all=>if(a == [109,111,100,101,108] || a == [108,111,103])=true then Sx a all else JO a [] all
theorem Wl{s:List UInt8}(hs:s.length<=1000000)(hJ:J≠[]):lim T (.call false 10 [.str s] J)=some (.val (Pn s) J):=by
 refine aw Jw wa.eq_1 rfl ?_;simp[-length_flatMap,-map_take];refine WL.to (K9 (J:=J) hs s.length 0 0 [] (by omega) (by omega) (by simp) (by show bQ 32 s=glue [] (bQ 32 s);rw[Nj (vP _ _)])) (by simp) (by simp) ?_;rintro x e J' ⟨cl,fr,hf,hsp,hc,rfl,g0,g6,g7,rfl⟩;have hw:IntKind.i64.wrap (((cl.length+1:Nat):Int)-1)=(cl.length:Int):=(eQ).trans (by omega);have hw0:IntKind.i64.wrap (cl.length:Int)=(cl.length:Int):=eQ;have hw1:(cl.length:Int)<(cl.length:Int)+1:=by omega
 have hfl:=bK (f:=dc) (w:=1) (λ_=>rfl) cl;have hfs:(fr:Int)<=s.length:=by omega
 have hd:((cl.flatMap dc)++[D.str []]).drop (cl.length+1)=[]:=aE (by rw[aF,hfl];simp);obtain⟨a,all,ha⟩:∃a all,cl++[s.drop fr]=a::all:=by
  cases cl with
  |nil=>exact⟨_,_,rfl⟩
  |cons x l=>exact⟨_,_,rfl⟩
 have hal:all.length=cl.length:=by have:=congrArg List.length ha;simp at this;omega
 have hce:cl.flatMap dc++D.str (s.drop fr)::((cl.flatMap dc)++[D.str []]).drop (cl.length+1)=.str a::all.flatMap dc:=by
  rw[hd];have:=congrArg (List.flatMap dc) ha;simpa[dc]using this
 have h1c:(1:Int)<=(cl.length:Int)+1:=by omega
 have hrp:Pn s=if(a == [109,111,100,101,108] || a == [108,111,103])=true then Sx a all else JO a [] all:=by unfold Pn;rw[hsp,ha]
 rw[hrp];have hfr:∀(b:List aA.aO) (l:List Int) (nm:List UInt8) (x:Bool),b[1]?=some (.cells l.length (l.flatMap aM))->∃S,cC (J.length-1) 16 (.db [.str a,.str nm,.sl J.length 1 l.length 0 l.length 1,.bool x]) (b::J)=(.db [.str a,.str nm,.aJ l.length (l.flatMap aM),.bool x],S::J):=by
  intro b l nm x hb;have f0:=wV (n:=15) (f:=aM) (w:=1) (l:=l) (by decide) (λ_=>rfl) (λ_=>by simp[aM,D.clean]) hJ hb;have h1:∀(s:List UInt8) (S:SK),cC (J.length-1) 15 (.str s) S=(.str s,S):=λs S=>gW rfl (by decide)
  have h2:∀(s:Bool) (S:SK),cC (J.length-1) 15 (.bool s) S=(.bool s,S):=λs S=>gW rfl (by decide)
  refine⟨b.set 1 .dead,?_⟩;rw[Bj (by simp[D.clean,D.bj]) (by omega)];simp only[vH,yA,Nat.reduceSub,h1,h2,f0]
 simp[-length_flatMap,-map_take,lX,g0,g6,g7,hw0,hw1,hfl,hfs,hce,h1c];clear hrp hce hd hsp;rw[<- hal];have hal2:all.length<=1000000:=by omega
 by_cases c1:a=[109,111,100,101,108]
 .subst c1;cases all with
  |nil=>simp[-length_flatMap,-map_take,lX,Sx]
  |cons nm r =>
   have hr2:(2:Nat)+r.length<=1000001:=by simp at hal2;omega
   have hL:=Hl (J:=J) (a:=[109,111,100,101,108]) (nm:=nm) (ws:=[109,111,100,101,108]::nm::r) (r:=r) (k:=2) (v:=r.length+1) rfl hr2 r.length 0 [] (by omega) rfl (by simp);have hr0:¬(r.length:Int)+1=0:=by omega
   have hr1:(1:Int)<=(r.length:Int)+1:=by omega
   simp[-length_flatMap,-map_take,lX,Sx,hr0,hr1];refine WL.to hL (by simp) (by simp) ?_;intro x e J' hh;unfold JO;cases hn:oN r with
   |none=>rw[hn]at hh;obtain⟨rfl,g2,g3,g4,g5,b,rfl⟩:=hh;simp[g2,g3,g4,g5]
   |some l =>
    rw[hn]at hh;obtain⟨rfl,g9,g11,g12,rfl⟩:=hh;simp[-length_flatMap,-map_take,lX,g9,g11,g12,vy];exact hfr _ l nm true rfl
 by_cases c2:a=[108,111,103]
 .subst c2;cases all with
  |nil=>simp[-length_flatMap,-map_take,lX,Sx]
  |cons nm r =>
   have hr2:(2:Nat)+r.length<=1000001:=by simp at hal2;omega
   have hL:=Hl (J:=J) (a:=[108,111,103]) (nm:=nm) (ws:=[108,111,103]::nm::r) (r:=r) (k:=2) (v:=r.length+1) rfl hr2 r.length 0 [] (by omega) rfl (by simp);have hr0:¬(r.length:Int)+1=0:=by omega
   have hr1:(1:Int)<=(r.length:Int)+1:=by omega
   simp[-length_flatMap,-map_take,lX,Sx,hr0,hr1];refine WL.to hL (by simp) (by simp) ?_;intro x e J' hh;unfold JO;cases hn:oN r with
   |none=>rw[hn]at hh;obtain⟨rfl,g2,g3,g4,g5,b,rfl⟩:=hh;simp[g2,g3,g4,g5]
   |some l =>
    rw[hn]at hh;obtain⟨rfl,g9,g11,g12,rfl⟩:=hh;by_cases h3:(3:Int)<=l.length
    .simp[-length_flatMap,-map_take,lX,g9,g11,g12,vy,h3];exact hfr _ l nm _ rfl
    .simp[-length_flatMap,-map_take,lX,g9,g11,g12,vy,h3];exact hfr _ l nm _ rfl
 have hr2:(1:Nat)+all.length<=1000001:=by omega
 have hL:=Hl (J:=J) (a:=a) (nm:=[]) (ws:=a::all) (r:=all) (k:=1) (v:=all.length) rfl hr2 all.length 0 [] (by omega) rfl (by simp);have c1':(a == [109,111,100,101,108])=false:=by simpa using c1
 have c2':(a == [108,111,103])=false:=by simpa using c2
 simp[-length_flatMap,-map_take,lX,c1,c2];refine WL.to hL (by simp) (by simp) ?_;intro x e J' hh;unfold JO;cases hn:oN all with
 |none=>rw[hn]at hh;obtain⟨rfl,g2,g3,g4,g5,b,rfl⟩:=hh;simp[g2,g3,g4,g5,c1,c2]
 |some l =>
  rw[hn]at hh;obtain⟨rfl,g9,g11,g12,rfl⟩:=hh;by_cases w0:a=[102,105,101,108,100]
  .subst w0;simp[-length_flatMap,-map_take,lX,g9,g11,g12,vy];exact hfr _ l [] _ rfl
  by_cases w1:a=[114,101,97,100]
  .subst w1;simp[-length_flatMap,-map_take,lX,g9,g11,g12,vy];exact hfr _ l [] _ rfl
  by_cases w2:a=[115,101,108,108]
  .subst w2;simp[-length_flatMap,-map_take,lX,g9,g11,g12,vy];exact hfr _ l [] _ rfl
  by_cases w3:a=[98,101,100]
  .subst w3;simp[-length_flatMap,-map_take,lX,g9,g11,g12,vy];exact hfr _ l [] _ rfl
  by_cases w4:a=[119,101,108,108]
  .subst w4;simp[-length_flatMap,-map_take,lX,g9,g11,g12,vy];exact hfr _ l [] _ rfl
  by_cases w5:a=[107,101,101,112]
  .subst w5;simp[-length_flatMap,-map_take,lX,g9,g11,g12,vy];exact hfr _ l [] _ rfl
  by_cases w6:a=[114,117,108,101]
  .subst w6;simp[-length_flatMap,-map_take,lX,g9,g11,g12,vy];exact hfr _ l [] _ rfl
  by_cases w7:a=[116,97,98,108,101]
  .subst w7;simp[-length_flatMap,-map_take,lX,g9,g11,g12,vy];exact hfr _ l [] _ rfl
  by_cases w8:a=[113,117,97,107,101]
  .subst w8;simp[-length_flatMap,-map_take,lX,g9,g11,g12,vy];exact hfr _ l [] _ rfl
  by_cases w9:a=[117,110,105,116]
  .subst w9;simp[-length_flatMap,-map_take,lX,g9,g11,g12,vy];exact hfr _ l [] _ rfl
  by_cases w10:a=[116,105,99,107]
  .subst w10;simp[-length_flatMap,-map_take,lX,g9,g11,g12,vy];exact hfr _ l [] _ rfl
  simp[-length_flatMap,-map_take,lX,g9,g11,g12,vy,c1,c2,w0,w1,w2,w3,w4,w5,w6,w7,w8,w9,w10];have hz:(a == [109,111,100,101,108] || a == [116,105,99,107])=false:=by simp[c1,w10]
  rw[hz];exact hfr _ l [] _ rfl
end
section
open Go Go.aA Go.aI Go.dk
theorem Ug{a:List UInt8}{w:Wd}(h:(a,w)∈oP){n:Nat}(hf:F6 w n=true):vy a n=true:=by
 have t5:(n:Int).tmod 5=(n:Int)%5:=Int.tmod_eq_emod_of_nonneg (by omega);have t4:(n:Int).tmod 4=(n:Int)%4:=Int.tmod_eq_emod_of_nonneg (by omega);have t2:(n:Int).tmod 2=(n:Int)%2:=Int.tmod_eq_emod_of_nonneg (by omega);have t3:0<(n:Int)-3->((n:Int)-3).tmod 2=((n:Int)-3)%2:=λh=>Int.tmod_eq_emod_of_nonneg (by omega)
 have t1:0<(n:Int)-1->((n:Int)-1).tmod 2=((n:Int)-1)%2:=λh=>Int.tmod_eq_emod_of_nonneg (by omega)
 simp only[oP,aY,ak,List.not_mem_nil,or_false]at h;unfold F6 at hf;simp only[bY,ae,au]at hf;rcases h with⟨rfl,rfl⟩ | ⟨rfl,rfl⟩ | ⟨rfl,rfl⟩ | ⟨rfl,rfl⟩ | ⟨rfl,rfl⟩ | ⟨rfl,rfl⟩ | ⟨rfl,rfl⟩ | ⟨rfl,rfl⟩ | ⟨rfl,rfl⟩ | ⟨rfl,rfl⟩ | ⟨rfl,rfl⟩ | ⟨rfl,rfl⟩ | ⟨rfl,rfl⟩<;>
  simp only[Int.sub_zero,t5,t4]at hf<;>simp[vy,t5,t4,t2]<;>
  (try (rcases hf with hf | ⟨hf,hf2,hf3⟩<;>(try rw[t3 hf]at hf3)<;>(try rw[t1 hf]at hf3)<;>omega))
theorem Vb{s:List UInt8}{w:Wd}{nm:List UInt8}{l:List Int}(h:parse s=some (w,nm,l)):∃a,(a,w)∈oP/\Pn s=.db [.str a,.str nm,.aJ l.length (l.flatMap aM),.bool true]:=by
 unfold parse at h;unfold Pn;cases hsp:bQ 32 s with
 |nil=>rw[hsp]at h;cases h
 |cons a all =>
  rw[hsp]at h;simp only at h ⊢;cases hw:yS a with
  |none=>rw[hw]at h;cases h
  |some v =>
   rw[hw]at h;simp only at h;have hm:=CZ hw;have key:∀{nm':List UInt8} {r:List (List UInt8)},vd v nm' r=some (w,nm,l)->v=w/\JO a nm' r=.db [.str a,.str nm,.aJ l.length (l.flatMap aM),.bool true]:=by
    intro nm' r h;unfold vd at h;unfold JO;cases hn:oN r with
    |none=>rw[hn]at h;cases h
    |some ns =>
     rw[hn]at h;simp only at h ⊢;split at h
     .rename_i hf;cases h;rw[Ug hm hf];exact⟨rfl,rfl⟩
     .cases h
   have hnm:(a == [109,111,100,101,108] || a == [108,111,103])=v.named:=by
    have hm:=hm;simp only[oP,aY,ak,List.not_mem_nil,or_false]at hm;rcases hm with⟨rfl,rfl⟩ | ⟨rfl,rfl⟩ | ⟨rfl,rfl⟩ | ⟨rfl,rfl⟩ | ⟨rfl,rfl⟩ | ⟨rfl,rfl⟩ | ⟨rfl,rfl⟩ | ⟨rfl,rfl⟩ | ⟨rfl,rfl⟩ | ⟨rfl,rfl⟩ | ⟨rfl,rfl⟩ | ⟨rfl,rfl⟩ | ⟨rfl,rfl⟩<;>rfl
   rw[hnm];split at h
   .rename_i hv;rw[if_pos hv];cases all with
    |nil=>cases h
    |cons n r =>
     obtain⟨rfl,h2⟩:=key h;exact⟨a,hm,h2⟩
   .rename_i hv;rw[if_neg hv];obtain⟨rfl,h2⟩:=key h;exact⟨a,hm,h2⟩
theorem I1(a nm:List UInt8)(r:List (List UInt8)):∃x y d f,JO a nm r=.db [.str x,.str y,d,.bool f]/\(d=.bP\/∃l:List Int,d=.aJ l.length (l.flatMap aM)):=by
 unfold JO;cases oN r with
 |none=>exact⟨_,_,_,_,rfl,.inl rfl⟩
 |some l=>exact⟨_,_,_,_,rfl,.inr ⟨l,rfl⟩⟩
theorem Sy(s:List UInt8):∃x y d f,Pn s=.db [.str x,.str y,d,.bool f]/\(d=.bP\/∃l:List Int,d=.aJ l.length (l.flatMap aM)):=by
 unfold Pn;cases hsp:bQ 32 s with
 |nil=>exact absurd hsp (vP _ _)
 |cons a all =>
  simp only;split
  .cases all with
   |nil=>exact⟨_,_,_,_,rfl,.inl rfl⟩
   |cons n r=>exact I1 _ _ _
  .exact I1 _ _ _
theorem Fp:∀{l:List (List UInt8)} {b:Bk} {k:Int} {i:Nat} {s:List UInt8},l[i]?=some s ->
  (oH b k (l.take (i+1))).1=(qT (oH b k (l.take i)).1 (k+i) s).1/\(oH b k l).2[i]?=some (qT (oH b k (l.take i)).1 (k+i) s).2
 |[],b,k,i,s,h=>by simp at h
 |x::l,b,k,0,s,h=>by
  simp only[bT,ad]at h;subst h;simp[oH]
 |x::l,b,k,i+1,s,h=>by
  have ih:=Fp (l:=l) (b:=(qT b k x).1) (k:=k+1) (i:=i) (s:=s) (by simpa using h);have e:k+1+(i:Int)=k+((i+1:Nat):Int):=by omega
  rw[e]at ih;simpa[oH]using ih
def TQ(b:Bk)(k:Nat)(nm:List UInt8)(l:List Int)(r:Bk×Int):Prop :=
 (r.1.aj=b.aj/\r.1.kN=b.kN/\(b.aj≠[]->r.1.bz=b.bz)) \/
 (r.1.aj=b.aj++[⟨⟨nm,l⟩,true,0⟩]/\r.1.kN=b.kN++[⟨0,0,0,0⟩]/\r.1.bz=b.bz/\∀e∈b.aj,e.m.name≠nm) \/
 (∃kd lo hi q,k=5/\l=kd::lo::hi::q/\rL b.bz.f (jH nm kd lo hi (yV q))=0/\r=(gp b lo hi (λm=>AJ b.bz.f m (jH nm kd lo hi (yV q))),0)) \/
 (∃w i lo hi,k=10/\l=[w,i,lo,hi]/\cj w 0 255=true/\vh b.bz b.aD.length ⟨b.aD.length,w,i,lo,hi⟩=0/\r=(gp b lo hi (xV b ⟨b.aD.length,w,i,lo,hi⟩),0))
theorem GV{n:Nat}{b:Bk}(hK:Kv n b)(k:Nat)(nm:List UInt8)(l:List Int):TQ b k nm l (oR b k nm l):=by
 have same:∀e,TQ b k nm l (b,e):=λe => .inl ⟨rfl,rfl,λ_=>rfl⟩
 have any:∀{c:Bk} {e:Int},c.aj=b.aj->c.kN=b.kN->c.bz=b.bz->TQ b k nm l (c,e):=λh1 h2 h3 => .inl ⟨h1,h2,λ_=>h3⟩
 unfold oR;split
 .split
  .unfold xG;split
   .rename_i h1;split
    .exact .inl ⟨rfl,rfl,λhm=>absurd h1 (Lm (hK.ready (hK.ms hm))).2⟩
    .exact same _
   .exact same _
  .exact same _
 .unfold xI;split
  .rename_i h1;split
   .exact .inl ⟨rfl,rfl,λhm=>absurd h1 (Lm (hK.ready (hK.ms hm))).1⟩
   .exact same _
  .exact same _
 .split
  .unfold EW;split
   .exact same _
   .rename_i h1;split
    .exact .inl ⟨rfl,rfl,λhm=>absurd (.inr (.inr (hK.ms hm))) h1⟩
    .exact same _
  .exact same _
 .split
  .unfold yr;split
   .rename_i h1;split
    .exact .inl ⟨rfl,rfl,λhm=>absurd h1.2 hm⟩
    .exact same _
   .exact same _
  .exact same _
 .unfold za;split
  .split
   .exact same _
   .rename_i h1;split
    .split
     .refine .inr (.inl ⟨rfl,rfl,rfl,λe he h=>h1 (Ig.2 ⟨e,he,by simp[h]⟩)⟩)
     .exact same _
    .exact same _
  .exact same _
 .split
  .unfold DI;split
   .exact same _
   .split
    .rename_i h1;exact .inr (.inr (.inl ⟨_,_,_,_,rfl,rfl,h1,rfl⟩))
    .exact same _
  .exact same _
 .unfold Bc;split
  .split
   .split
    .exact any rfl rfl rfl
    .exact same _
   .exact same _
  .exact same _
 .split
  .split
   .exact any rfl rfl rfl
   .exact same _
  .exact same _
 .unfold xH;split
  .split
   .exact any rfl rfl rfl
   .exact same _
  .exact same _
 .unfold yq;split
  .exact same _
  .split
   .split
    .split
     .split
      .exact any rfl rfl rfl
      .exact same _
     .exact same _
    .exact same _
   .exact same _
 .split
  .unfold yo;split
   .exact same _
   .split
    .rename_i h1;split
     .rename_i h2;exact .inr (.inr (.inr ⟨_,_,_,_,rfl,rfl,h1,h2,rfl⟩))
     .exact same _
    .exact same _
  .exact same _
 .split
  .unfold Be;split
   .split
    .exact any rfl rfl rfl
    .exact same _
   .exact same _
  .exact same _
 .split
  .unfold yp;split
   .exact same _
   .split
    .split
     .exact any rfl rfl rfl
     .exact same _
    .exact same _
  .exact same _
 .exact same _
def ac0(l:List (List UInt8))(f:cU)(e:fK)(v:Mj):Prop :=
 ∃(j:Nat) (s:List UInt8) (w:Wd) (nm:List UInt8) (ns:List Int),e.W7=j/\v.line=j/\l[j]?=some s/\(cH l).2[j]?=some 0/\parse s=some (w,nm,ns)/\cj v.value v.lo v.hi=false /\
 ((w.k=5/\∃kd q,ns=kd::v.lo::v.hi::q/\rL f (jH nm kd v.lo v.hi (yV q))=0/\v.value=AJ f e.m (jH nm kd v.lo v.hi (yV q))) \/
  (w.k=10/\∃wh i,ns=[wh,i,v.lo,v.hi]/\cj wh 0 255=true/\vh (cH (l.take j)).1.bz (cH (l.take j)).1.aD.length ⟨(cH (l.take j)).1.aD.length,wh,i,v.lo,v.hi⟩=0 /\
   (∃e0∈(cH (l.take j)).1.aj,e0.m=e.m/\e0.left=true)/\v.value=xV (cH (l.take j)).1 ⟨(cH (l.take j)).1.aD.length,wh,i,v.lo,v.hi⟩ e.m))
def Inv1(l:List (List UInt8))(b:Bk):Prop:=∀(i:Nat) (e:fK) (v:Mj),b.aj[i]?=some e->b.kN[i]?=some v->(e.left=true->e.W7=0)/\(e.left=false->ac0 l b.bz.f e v)
def Inv2(b:Bk):Prop:=∀(i j:Nat) (e e':fK),b.aj[i]?=some e->b.aj[j]?=some e'->e.m.name=e'.m.name->i=j
def K4(b b':Bk):Prop:=∀(i:Nat) (e:fK),b.aj[i]?=some e->∃e',b'.aj[i]?=some e'/\e'.m=e.m/\(e.left=false->e'=e)
theorem K4.refl(b:Bk):K4 b b:=λi e h=>⟨e,h,rfl,λ_=>rfl⟩
theorem K4.trans{a b c:Bk}(h1:K4 a b)(h2:K4 b c):K4 a c:=by
 intro i e h;obtain⟨e1,k1,k2,k3⟩:=h1 i e h;obtain⟨e2,j1,j2,j3⟩:=h2 i e1 k1;refine⟨e2,j1,j2.trans k2,λhl=>?_⟩;obtain rfl:=k3 hl;exact j3 hl
theorem Fx{b:Bk}{lo hi:Int}{val:bE->Int}{i:Nat}{e:fK}(h:(gp b lo hi val).aj[i]?=some e):∃e0,b.aj[i]?=some e0/\e=Go.dk.dc b.at_ lo hi val e0:=by
 simp only[gp,Bk.jd,eF,ab]at h;obtain⟨e0,h1,h2⟩:=h;have:=(ar.1 h1).1;rw[if_pos this]at h2;exact⟨e0,h1,h2.symm⟩
theorem YA{b:Bk}{lo hi:Int}{val:bE->Int}{i:Nat}{e:fK}(h:b.aj[i]?=some e):(gp b lo hi val).aj[i]?=some (Go.dk.dc b.at_ lo hi val e):=by
 have:=(ar.1 h).1;simp only[gp,Bk.jd,eF,h,aX,if_pos this]
theorem VF{b:Bk}{lo hi:Int}{val:bE->Int}{i:Nat}{e:fK}{v:Mj}(h:b.aj[i]?=some e)(hw:(gp b lo hi val).kN[i]?=some v):∃v0,b.kN[i]?=some v0/\v=if isStr lo hi val e then⟨b.at_,val e.m,lo,hi⟩else v0:=by
 simp only[gp,Bk.jd,eF,ab]at hw;obtain⟨v0,h1,h2⟩:=hw;have:=(ar.1 h).1;rw[if_pos this]at h2;simp only[Yr,h]at h2;exact⟨v0,h1,h2.symm⟩
theorem PC{at_ lo hi:Int}{val:bE->Int}{e:fK}:(Go.dk.dc at_ lo hi val e).m=e.m:=by
 unfold Go.dk.dc;split<;>rfl
theorem Fu{α:Type}{l:List α}{x y:α}{i:Nat}(h:(l++[x])[i]?=some y):l[i]?=some y\/(i=l.length/\y=x):=by
 by_cases hi:i<l.length
 .rw[fj hi]at h;exact .inl h
 .rw[List.getElem?_append_right (by omega)]at h;cases hk:i-l.length with
  |zero=>rw[hk]at h;simp at h;exact .inr ⟨by omega,h.symm⟩
  |succ k=>rw[hk]at h;simp at h
theorem R8{lo hi:Int}{val:bE->Int}{e:fK}(h:isStr lo hi val e=true):e.left=true/\cj (val e.m) lo hi=false:=by
 simpa[isStr]using h
theorem Ur{l:List (List UInt8)}{i n:Nat}{s:List UInt8}(hs:l[i]?=some s)(hK:Kv n (cH (l.take i)).1)(h1:Inv1 l (cH (l.take i)).1)(h2:Inv2 (cH (l.take i)).1):
  Inv1 l (cH (l.take (i+1))).1/\Inv2 (cH (l.take (i+1))).1/\K4 (cH (l.take i)).1 (cH (l.take (i+1))).1:=by
 obtain⟨r1,r2⟩:=Fp (b:=ma) (k:=0) hs;rw[show(oH ma 0 (l.take (i+1))).1=(cH (l.take (i+1))).1 from rfl]at r1;rw[r1];rw[show(oH ma 0 l).2=(cH l).2 from rfl]at r2;rw[show(oH ma 0 (l.take i)).1=(cH (l.take i)).1 from rfl]at r2 ⊢;rw[show(0:Int)+(i:Int)=(i:Int)from by omega]at r2 ⊢;unfold qT at r2 ⊢;cases hp:parse s with
 |none=>exact⟨h1,h2,K4.refl _⟩
 |some q =>
 obtain⟨w,nm,ns⟩:=q;rw[hp]at r2;simp only at r2 ⊢;have hW:=GV (hK.W3 i) w.k nm ns;obtain⟨b,hb⟩:∃b,b=(cH (l.take i)).1:=⟨_,rfl⟩;have hb1:({(cH (l.take i)).1 with at_:=(i:Int) }:Bk)={b with at_:=(i:Int) }:=by rw[hb]
 rw[hb1]at hW r2 ⊢;generalize hr:oR {b with at_:=(i:Int) } w.k nm ns=r at hW r2 ⊢;rw[<- hb]at h1 h2 hK ⊢;have hwl:=hK.wl;have Je:∀(lo hi:Int) (val:bE->Int),r=(gp {b with at_:=(i:Int) } lo hi val,0) ->
   (∀e v,e∈b.aj->e.left=true->v.line=(i:Int)->v.value=val e.m->v.lo=lo->v.hi=hi->cj (val e.m) lo hi=false->ac0 l b.bz.f ⟨e.m,false,i⟩ v) ->
   Inv1 l r.1/\Inv2 r.1/\K4 b r.1:=by
  intro lo hi val hr hwhy;subst hr;refine⟨?_,?_,?_⟩
  .intro j e v he hv;obtain⟨e0,k1,k2⟩:=Fx he;obtain⟨v0,k3,k4⟩:=VF k1 hv;have k5:=h1 j e0 v0 k1 k3;cases hst:isStr lo hi val e0 with
   |false =>
    simp only[Go.dk.dc,hst,az,if_false]at k2 k4;subst k2;subst k4;exact k5
   |true =>
    obtain⟨m1,m2⟩:=R8 hst;simp only[Go.dk.dc,hst,if_true]at k2 k4;subst k2;subst k4;exact⟨λh=>(by cases h),λ_=>hwhy e0 _ (ai k1) m1 rfl rfl rfl rfl m2⟩
  .intro j j' e e' he he' hn;obtain⟨e0,k1,k2⟩:=Fx he;obtain⟨e0',k1',k2'⟩:=Fx he';refine h2 j j' e0 e0' k1 k1' ?_;rw[k2,k2',PC,PC]at hn;exact hn
  .intro j e he;refine⟨_,YA (b:={b with at_:=(i:Int) }) he,PC,λhl=>?_⟩;simp[Go.dk.dc,isStr,hl]
 rcases hW with⟨m1,m2,m3⟩ | ⟨m1,m2,m3,m4⟩ | ⟨kd,lo,hi,q,m1,rfl,m3,m4⟩ | ⟨wh,ix,lo,hi,m1,rfl,m3,m4,m5⟩
 .simp only at m1 m2 m3;refine⟨?_,?_,?_⟩
  .intro j e v he hv;rw[m1]at he;rw[m2]at hv;rw[m3 (λh=>by rw[h]at he;simp at he)];exact h1 j e v he hv
  .intro j j' e e' he he';rw[m1]at he he';exact h2 j j' e e' he he'
  .intro j e he;rw[m1];exact⟨e,he,rfl,λ_=>rfl⟩
 .simp only at m1 m2 m3 m4;refine⟨?_,?_,?_⟩
  .intro j e v he hv;rw[m1]at he;rw[m2]at hv;rw[m3];rcases Fu he with he | ⟨rfl,rfl⟩
   .rcases Fu hv with hv | ⟨rfl,rfl⟩
    .exact h1 j e v he hv
    .have:=(ar.1 he).1;omega
   .exact⟨λ_=>rfl,λh=>(by cases h)⟩
  .intro j j' e e' he he' hn;rw[m1]at he he';rcases Fu he with he | ⟨rfl,rfl⟩<;>rcases Fu he' with he' | ⟨rfl,rfl⟩
   .exact h2 j j' e e' he he' hn
   .exact absurd hn (m4 e (ai he))
   .exact absurd hn.symm (m4 e' (ai he'))
   .rfl
  .intro j e he;rw[m1];refine⟨e,?_,rfl,λ_=>rfl⟩;rw[fj (ar.1 he).1];exact he
 .refine Je lo hi _ m4 ?_;intro e v he hl v1 v2 v3 v4 hin;subst v3;subst v4;rw[m4]at r2;refine⟨i,s,w,nm,_,rfl,v1,hs,r2,hp,by rw[v2];exact hin,.inl ⟨m1,kd,q,rfl,m3,v2⟩⟩
 .refine Je lo hi _ m5 ?_;intro e v he hl v1 v2 v3 v4 hin;subst v3;subst v4;rw[m5]at r2;refine⟨i,s,w,nm,_,rfl,v1,hs,r2,hp,by rw[v2];exact hin,.inr ⟨m1,wh,ix,rfl,m3,?_,?_,?_⟩⟩
  .rw[<- hb];exact m4
  .rw[<- hb];exact⟨e,he,rfl,hl⟩
  .rw[<- hb];exact v2
theorem QH{l:List (List UInt8)}(hl:∀s∈l,s.length<=4000):∀n,n<=l.length->Inv1 l (cH (l.take n)).1/\Inv2 (cH (l.take n)).1
 |0,h=>⟨by intro i e v he;simp[cH,oH,ma]at he,by intro i j e e' he;simp[cH,oH,ma]at he⟩
 |n+1,h=>by
  obtain⟨h1,h2⟩:=QH hl n (by omega);have hK:=Fo (l:=l.take n) (k:=0) Kv.zero λs hs=>hl s (bR hs)
  obtain⟨k1,k2,_⟩:=Ur (aC (show n<l.length by omega)) hK h1 h2;exact⟨k1,k2⟩
def AE(n:Nat):List UInt8:=116::dp n
def IN(s:List UInt8)(L:List mm):List mm :=
 match parse s with
 |none=>L
 |some (w,nm,ns) =>
  if w.k=4 then []else
  if w.k=5 then(if L.length=12 then L else match ns with
   |kd::lo::hi::q=>L++[jH (AE L.length) kd lo hi (yV q)]
   |_=>L)else L
def FF(l:List (List UInt8))(er:List Int):Nat->List mm
 |0=>[]
 |i+1=>match l[i]?,er[i]? with
  |some s,some e=>if e=0 then IN s (FF l er i)else FF l er i
  |_,_=>FF l er i
structure HP(b:Bk)(L:List mm):Prop where
 len:L.length<=12
 nm:∀j x,L[j]?=some x->x.name=AE j
 ok:∀x∈L,b.bz.f.measure x=0
 cj:∀e∈b.aj,e.left=true->∀x∈L,cj (AJ b.bz.f e.m x) x.lo x.hi=true
 ms:L≠[]->b.aj≠[]
theorem VH:∀j,j<12->named (AE j)=true:=by decide
theorem SL{i j:Nat}(hi:i<12)(hj:j<12)(h:AE i=AE j):i=j:=by
 simp only[AE,ig,true_and]at h;have h1:=FW (n:=(i:Int)) (by unfold n7;omega);have h2:=FW (n:=(j:Int)) (by unfold n7;omega);rw[h,h2]at h1;simp only[ak,true_and]at h1;omega
theorem Pd{f:cU}{x:mm}{n:List UInt8}(h:f.measure x=0)(hn:named n=true):f.measure {x with name:=n }=0:=by
 unfold cU.measure at h ⊢;rw[if_pos hn];split at h
 .exact h
 .omega
theorem wt5{b:Bk}{nm:List UInt8}{l:List Int}(h:(oR b 5 nm l).2=0):b.aj≠[]/\∃kd lo hi q,l=kd::lo::hi::q/\rL b.bz.f (jH nm kd lo hi (yV q))=0/\oR b 5 nm l=(gp b lo hi (λm=>AJ b.bz.f m (jH nm kd lo hi (yV q))),0):=by
 unfold oR at h ⊢;simp only at h ⊢;split at h
 .rename_i kd lo hi q;unfold DI at h ⊢;split at h
  .cases h
  .rename_i hm;split at h
   .rename_i hc;refine⟨hm,kd,lo,hi,q,rfl,hc,?_⟩;rw[if_neg hm,if_pos hc];rfl
   .rename_i hc;exact absurd h hc
 .cases h
theorem Jf{b:Bk}{lo hi:Int}{val:bE->Int}:(gp b lo hi val).aj.length=b.aj.length:=by simp[gp,Bk.jd]
theorem abX{b:Bk}{k:Nat}{nm:List UInt8}{l:List Int}(hk:k≠4):(oR b k nm l).1.aj.length=b.aj.length:=by
 unfold oR;split
 .split
  .unfold xG;split<;>(try split)<;>rfl
  .rfl
 .unfold xI;split<;>(try split)<;>rfl
 .split
  .unfold EW;split<;>(try split)<;>rfl
  .rfl
 .split
  .unfold yr;split<;>(try split)<;>rfl
  .rfl
 .exact absurd rfl hk
 .split
  .unfold DI;split
   .rfl
   .split
    .exact Jf
    .rfl
  .rfl
 .unfold Bc;split<;>(try split)<;>(try split)<;>rfl
 .split
  .split<;>rfl
  .rfl
 .unfold xH;split<;>(try split)<;>rfl
 .unfold yq;split
  .rfl
  .split
   .split
    .split
     .split<;>rfl
     .rfl
    .rfl
   .rfl
 .split
  .unfold yo;split
   .rfl
   .split
    .split
     .exact Jf
     .rfl
    .rfl
  .rfl
 .split
  .unfold Be;split<;>(try split)<;>rfl
  .rfl
 .split
  .unfold yp;split
   .rfl
   .split
    .split<;>rfl
    .rfl
  .rfl
 .rfl
structure J5(b b':Bk):Prop where
 ms:b.aj≠[]->b'.aj≠[]
 bz:b.aj≠[]->b'.bz=b.bz
 left:∀e∈b'.aj,e.left=true->∃e0∈b.aj,e0.m=e.m/\e0.left=true
theorem J5.refl(b:Bk):J5 b b:=⟨id,λ_=>rfl,λe he hl=>⟨e,he,rfl,hl⟩⟩
theorem Ex{b:Bk}{lo hi:Int}{val:bE->Int}:J5 b (gp b lo hi val)/\∀e∈(gp b lo hi val).aj,e.left=true->cj (val e.m) lo hi=true:=by
 have key:∀e∈(gp b lo hi val).aj,e.left=true->∃e0∈b.aj,e0.m=e.m/\e0.left=true/\cj (val e.m) lo hi=true:=by
  intro e he hl;obtain⟨i,hi1⟩:=eG he;obtain⟨e0,h1,h2⟩:=Fx hi1;unfold Go.dk.dc at h2;split at h2
  .subst h2;cases hl
  .rename_i hs;subst h2;refine⟨e,ai h1,rfl,hl,?_⟩;simp only[isStr,hl,Bool.true_and,cY,Bool.not_eq_false]at hs;exact hs
 refine⟨⟨λh hh=>h ?_,λ_=>rfl,λe he hl=>?_⟩,λe he hl=>(key e he hl).choose_spec.2.2.2⟩
 .have:=Jf (b:=b) (lo:=lo) (hi:=hi) (val:=val);rw[hh]at this;exact bw.1 this.symm
 .obtain⟨e0,h1,h2,h3,_⟩:=key e he hl;exact⟨e0,h1,h2,h3⟩
theorem PN{n:Nat}{b:Bk}(hK:Kv n b){k:Nat}{nm:List UInt8}{l:List Int}(hk:k≠4):J5 b (oR b k nm l).1:=by
 rcases GV hK k nm l with⟨m1,_,m3⟩ | ⟨m1,_⟩ | ⟨_,_,_,_,_,_,_,m4⟩ | ⟨_,_,_,_,_,_,_,_,m5⟩
 .exact⟨λh=>by rw[m1];exact h,m3,λe he hl=>by rw[m1]at he;exact⟨e,he,rfl,hl⟩⟩
 .have h:=abX (b:=b) (nm:=nm) (l:=l) hk;rw[m1]at h;simp at h
 .rw[m4];exact Ex.1
 .rw[m5];exact Ex.1
theorem HP.Ue{b b':Bk}{L:List mm}(h:HP b L)(hf:J5 b b'):HP b' L:=by
 by_cases hL:L=[]
 .subst hL;exact⟨by simp,by simp,by simp,by simp,by simp⟩
 have hm:=h.ms hL;have hb:=hf.bz hm;refine⟨h.len,h.nm,by rw[hb];exact h.ok,λe he hl x hx=>?_,λ_=>hf.ms hm⟩;obtain⟨e0,h1,h2,h3⟩:=hf.left e he hl;rw[hb,<- h2];exact h.cj e0 h1 h3 x hx
theorem XJ{l:List (List UInt8)}{i n:Nat}{s:List UInt8}(hs:l[i]?=some s)(hK:Kv n (cH (l.take i)).1)(h:HP (cH (l.take i)).1 (FF l (cH l).2 i)):
  HP (cH (l.take (i+1))).1 (FF l (cH l).2 (i+1)):=by
 obtain⟨r1,r2⟩:=Fp (b:=ma) (k:=0) hs;rw[show(oH ma 0 (l.take (i+1))).1=(cH (l.take (i+1))).1 from rfl]at r1;rw[show(oH ma 0 l).2=(cH l).2 from rfl]at r2;rw[show(oH ma 0 (l.take i)).1=(cH (l.take i)).1 from rfl]at r1 r2;rw[show(0:Int)+(i:Int)=(i:Int)from by omega]at r1 r2;rw[r1];simp only[FF,hs,r2];generalize FF l (cH l).2 i=L at h ⊢;generalize (cH (l.take i)).1=b at hK h ⊢;unfold qT at *
 have empty:∀b':Bk,HP b' []:=λb'=>⟨by simp,by simp,by simp,by simp,by simp⟩
 cases hp:parse s with
 |none =>
  simp only[hp];rw[if_neg (by decide)];exact h
 |some p =>
 obtain⟨w,nm,ns⟩:=p;simp only[hp];have hK':=hK.W3 (i:Int);have hb:J5 b {b with at_:=(i:Int) }:=⟨id,λ_=>rfl,λe he hl=>⟨e,he,rfl,hl⟩⟩;have h':=h.Ue hb;generalize ({b with at_:=(i:Int) }:Bk)=b at hK' h' ⊢;by_cases he:(oR b w.k nm ns).2=0
 .rw[if_pos he];unfold IN;rw[hp];simp only;by_cases h4:w.k=4
  .rw[if_pos h4];exact empty _
  rw[if_neg h4];have hf:=PN hK' (nm:=nm) (l:=ns) h4;by_cases h5:w.k=5
  .rw[if_pos h5];have hl:=h'.Ue hf;rw[h5]at he hf hl ⊢;obtain⟨hm,kd,lo,hi,q,rfl,hck,hr⟩:=wt5 he;by_cases h12:L.length=12
   .rw[if_pos h12];exact hl
   rw[if_neg h12];simp only;have hlt:L.length<12:=by have:=h'.len;omega
   have hmz:b.bz.f.measure (jH nm kd lo hi (yV q))=0:=by
    unfold rL at hck;split at hck
    .exact hck
    .cases hck
   have hmt:b.bz.f.measure (jH (AE L.length) kd lo hi (yV q))=0:=Pd hmz (VH _ hlt);have hin:=(Ex (b:=b) (lo:=lo) (hi:=hi) (val:=λm=>AJ b.bz.f m (jH nm kd lo hi (yV q)))).2;have hbd:=hf.bz hm;have hms:=hf.ms hm;rw[hr]at hl hbd hms ⊢;refine⟨by simp;omega,λj x hx=>?_,λx hx=>?_,λe he' hle x hx=>?_,λ_=>hms⟩
   .rcases Fu hx with hx | ⟨rfl,rfl⟩
    .exact hl.nm j x hx
    .rfl
   .simp only[ba,List.mem_singleton]at hx;rcases hx with hx | rfl
    .exact hl.ok x hx
    .rw[hbd];exact hmt
   .simp only[ba,List.mem_singleton]at hx;rcases hx with hx | rfl
    .exact hl.cj e he' hle x hx
    .rw[hbd];exact hin e he' hle
  .rw[if_neg h5];exact h'.Ue hf
 .rw[if_neg he];have:=Kj he;rw[this];exact h'
theorem O9{l:List (List UInt8)}(hl:∀s∈l,s.length<=4000):∀n,n<=l.length->HP (cH (l.take n)).1 (FF l (cH l).2 n)
 |0,h=>⟨by simp[FF],by simp[FF],by simp[FF],by simp[FF],by simp[FF]⟩
 |n+1,h=>by
  have hK:=Fo (l:=l.take n) (k:=0) Kv.zero λs hs=>hl s (bR hs)
  exact XJ (aC (show n<l.length by omega)) hK (O9 hl n (by omega))
theorem Iz{f:cU}:∀{l:List mm} {met:List (List UInt8)},(∀x∈l,f.measure x=0)->l.Pairwise (λa b=>a.name≠b.name)->(∀x∈l,x.name ∉ met)->f.Ct met l=0
 |[],_,_,_,_=>rfl
 |x::l,met,h,hp,hm=>by
  rw[List.pairwise_cons]at hp;simp only[cU.Ct];rw[if_pos (h x (by simp)),if_neg (by simpa using hm x (by simp))];exact Iz (λy hy=>h y (by simp[hy])) hp.2 λy hy=>by
   simp only[ba,List.mem_singleton,not_or];exact⟨hm y (by simp[hy]),λe=>hp.1 y hy e.symm⟩
theorem Kk{f:cU}:∀{l:List bE} {met:List (List UInt8)},(∀x∈l,f.model x=0)->l.Pairwise (λa b=>a.name≠b.name)->(∀x∈l,x.name ∉ met)->f.each met l=0
 |[],_,_,_,_=>rfl
 |x::l,met,h,hp,hm=>by
  rw[List.pairwise_cons]at hp;simp only[cU.each];rw[if_pos (h x (by simp)),if_neg (by simpa using hm x (by simp))];exact Kk (λy hy=>h y (by simp[hy])) hp.2 λy hy=>by
   simp only[ba,List.mem_singleton,not_or];exact⟨hm y (by simp[hy]),λe=>hp.1 y hy e.symm⟩
theorem HP.sd{b:Bk}{L:List mm}(h:HP b L):b.bz.f.sd L=0:=by
 have hlen:=h.len;unfold cU.sd;rw[if_neg (by omega)];refine Iz h.ok ?_ (by simp);rw[List.pairwise_iff_getElem];intro i j hi hj hij he;have h1:=h.nm i _ (aC hi);have h2:=h.nm j _ (aC hj);rw[h1,h2]at he;have:=SL (by omega) (by omega) he;omega
theorem UO{b:Bk}(h:Inv2 b):(b.aj.map fK.m).Pairwise (λa b=>a.name≠b.name):=by
 rw[List.pairwise_iff_getElem];intro i j hi hj hij he;simp only[cV]at hi hj;simp only[List.getElem_map]at he;have:=h i j _ _ (aC hi) (aC hj) he;omega
theorem HP.adB{b:Bk}{L:List mm}(h:HP b L){e:fK}(he:e∈b.aj)(hl:e.left=true):okF b.bz.f L e.m=true:=by
 unfold okF nB;rw[dX];intro n hn;simp only[bN]at hn;obtain⟨x,hx,rfl⟩:=hn;have:=bk.1 (h.cj e he hl x hx);simp only[beq_iff_eq];unfold Fc;rw[if_neg (by omega),if_neg (by omega)]
theorem Nw{α:Type}{p:α->Bool}:∀{l:List α} {k i:Nat} {x:α},l[i]?=some x->p x=true->((k+i:Nat):Int)∈idxs p k l
 |[],_,_,_,h,_=>by simp at h
 |y::l,k,0,x,h,hp=>by
  simp only[bT,ad]at h;subst h;simp[idxs,hp]
 |y::l,k,i+1,x,h,hp=>by
  have:=Nw (l:=l) (k:=k+1) (i:=i) (x:=x) (by simpa using h) hp;simp only[idxs];rw[show k+1+i=k+(i+1)by omega]at this;split
  .exact List.mem_cons_of_mem _ this
  .exact this
end
section
open Go Go.aA Go.aI Go.dk
variable {J:SK}
def Jc(b:Bk):List D:=[.int .i64 b.bz.f.x,.int .i64 b.bz.f.y,.int .i64 b.bz.f.z,.int .i64 b.bz.f.k,nl Rw.enc b.bz.cn,.int .i64 b.bz.bL,.int .i64 b.bz.lift,.int .i64 b.bz.deep,nl bJ.enc b.bz.an,
 .aJ b.aj.length (b.aj.flatMap fK.enc),nl pE b.aD,.aJ b.rules.length (b.rules.flatMap bW.dP.enc),.aJ b.Al.length (b.Al.flatMap bW.Ev.enc),.int .i64 b.k0,.int .i64 b.k1,.int .i64 b.k2,
 .aJ b.ew.length (b.ew.flatMap yY.enc),.aJ b.l9.length (b.l9.flatMap SQ.enc)]
theorem Ke{α:Type}{f:α->List D}(h:∀x,D.bj (f x)=true)(l:List α):(nl f l).clean=true:=by
 unfold nl;split
 .rfl
 .simp[D.clean,cT h l]
theorem ko{α:Type}{f:α->List D}{w n:Nat}(hn:1<n)(hw:∀x,(f x).length=w)(hc:∀x,D.bj (f x)=true){l:List α}{j v m:Nat}{bs bs':List aA.aO}(hJ:J≠[])(hm:m=l.length)(hj:bs[j]?=some (.cells v (l.flatMap f)))(hb:bs.set j .dead=bs'):
  cC (J.length-1) n (.sl J.length j v 0 m w) (bs::J)=(.aJ m (l.flatMap f),bs'::J):=by
 subst hb;subst hm;exact wV hn hw hc hJ hj
theorem RX{b:Bk}{er:List Int}(hJ:J≠[]):cC (J.length-1) 16 (.db [.agg ((b.cells J.length).take 18),.sl J.length 7 er.length 0 er.length 1,.int .i64 0]) (b.bB J.length er::J) =
  (.db [.agg (Jc b),.aJ er.length (er.flatMap aM),.int .i64 0],[.dead,.dead,.dead,.dead,.dead,.cells b.kN.length (b.kN.flatMap Mj.enc),.cells 0 (b.cells J.length),.dead]::J):=by
 have c1:(nl Rw.enc b.bz.cn).clean=true:=Ke (λ_=>by simp[D.clean]) _;have c2:(nl bJ.enc b.bz.an).clean=true:=Ke (λ_=>by simp[D.clean]) _;have c3:(nl pE b.aD).clean=true:=Ke (λx=>by simp[pE,D.clean,bh]) _;have q1:∀x:fK,D.bj x.enc=true:=λx=>by simp[D.clean,bh]
 have q2:∀x:bW.dP,D.bj x.enc=true:=λx=>by simp[D.clean]
 have q3:∀x:bW.Ev,D.bj x.enc=true:=λx=>by simp[D.clean,cT (f:=bW.xC.enc) (λ_=>by simp[D.clean])]
 have q4:∀x:yY,D.bj x.enc=true:=λx=>by simp[D.clean,cT (f:=Prt.enc) (λ_=>by simp[D.clean])]
 have q5:∀x:SQ,D.bj x.enc=true:=λx=>by simp[D.clean]
 have q6:∀x:Int,D.bj (aM x)=true:=λx=>by simp[aM,D.clean]
 generalize hA5:aA.aO.cells b.kN.length (b.kN.flatMap Mj.enc)=A5;generalize hA6:aA.aO.cells 0 (b.cells J.length)=A6;have f0:=ko (J:=J) (n:=14) (w:=4) (by omega) (λ_=>rfl) q1 (l:=b.aj) (j:=0) (v:=b.aj.length) (bs:=b.bB J.length er) hJ rfl rfl rfl;have f1:=ko (J:=J) (n:=14) (w:=10) (by omega) (λ_=>rfl) q2 (l:=b.rules) (j:=1) (v:=b.rules.length) (bs:=(b.bB J.length er).set 0 .dead) hJ rfl rfl rfl;have f2:=ko (J:=J) (n:=14) (w:=2) (by omega) (λ_=>rfl) q3 (l:=b.Al) (j:=2) (v:=b.Al.length) (bs:=((b.bB J.length er).set 0 .dead).set 1 .dead) hJ rfl rfl rfl;have f3:=ko (J:=J) (n:=14) (w:=2) (by omega) (λ_=>rfl) q4 (l:=b.ew) (j:=3) (v:=b.ew.length) (bs:=(((b.bB J.length er).set 0 .dead).set 1 .dead).set 2 .dead) hJ rfl rfl rfl;have f4:=ko (J:=J) (n:=14) (w:=6) (by omega) (λ_=>rfl) q5 (l:=b.l9) (j:=4) (v:=b.l9.length) (bs:=((((b.bB J.length er).set 0 .dead).set 1 .dead).set 2 .dead).set 3 .dead) hJ rfl rfl rfl;have f5:=ko (J:=J) (n:=15) (w:=1) (by omega) (λ_=>rfl) q6 (l:=er) (j:=7) (v:=er.length) (bs:=(((((b.bB J.length er).set 0 .dead).set 1 .dead).set 2 .dead).set 3 .dead).set 4 .dead) hJ rfl rfl rfl;have hi:∀(k:Int) (n:Nat) (S:SK),0<n->cC (J.length-1) n (.int .i64 k) S=(.int .i64 k,S):=λk n S hn=>gW (by rfl) hn
 rw[Bj (by simp[Bk.cells,D.clean,D.bj]) (by omega)];simp only[vH,yA];rw[Qx (by simp[Bk.cells,D.clean]) (by omega)];simp only[Bk.cells,List.take_succ_cons,List.take_zero,vH,yA,Nat.reduceSub];simp only[hi _ 14 _ (by omega),gW c1 (show 0<14 by omega),gW c2 (show 0<14 by omega),gW c3 (show 0<14 by omega),f0,f1,f2,f3,f4,f5,hi _ 15 _ (by omega)];simp only[Bk.bB,List.set_cons_zero,List.set_cons_succ,hA5,Jc];rw[<- hA6]
theorem YG{lines:List (List UInt8)}(hl:XY lines)(hJ:J≠[]):lim T (.call false 7 [.aJ lines.length (lines.flatMap dc)] J) =
  some (.val (.db [.agg (Jc (cH lines).1),.aJ lines.length ((cH lines).2.flatMap aM),.int .i64 0]) J):=by
 refine aw Jt vY.eq_1 rfl ?_;have hC:=λS=>S6 (J:=S) (l:=lines) (by have:=hl.1;omega)
 have hok:okB lines=true:=QW.2 hl;simp only[hok,if_true]at hC;have hR:=ZR (J:=J) (lines:=lines) hl;have hlen:(cH lines).2.length=lines.length:=Dd;have hf:=RX (J:=J) (b:=(cH lines).1) (er:=(cH lines).2) hJ;rw[hlen]at hf;generalize cH lines=r at hR hlen hf ⊢;obtain⟨b,er⟩:=r;simp only at hR hf hlen ⊢;simp only[Bk.cells,Bk.bB,List.take_succ_cons,List.take_zero]at hf hR;simp[-length_flatMap,-map_take,hC,hR];exact⟨_,hf⟩
theorem Mn{s t:List UInt8}:lim T (.call false 13 [.str s,.str t] J)=some (.val (.bool (decide (t.length<=s.length) && (s.take t.length == t))) J):=by
 refine aw HZ uJ.eq_1 rfl ?_;by_cases h:t.length<=s.length
 .have h':(t.length:Int)<=s.length:=by omega
  simp[-length_flatMap,-map_take,lX,h,h']
 .have h':¬(t.length:Int)<=s.length:=by omega
  simp[-length_flatMap,-map_take,lX,h,h']
theorem YO{l:List (List UInt8)}(hl:l.length<=9223372036854775807):∀(m i:Nat) (x y z:Int),i+m=l.length ->
  WL T [0,3,4,5,6] false pQ [(0,.aJ l.length (l.flatMap dc)),(3,.int .i64 x),(4,.int .i64 y),(5,.int .i64 z),(6,.int .i64 i)] J
   (λx e J'=>J'=J/\x=.exit 0/\get e 0=.aJ l.length (l.flatMap dc)/\∃u v w,get e 3=.int .i64 u/\get e 4=.int .i64 v/\get e 5=.int .i64 w)
 |0,i,x,y,z,hi=>by
  refine aH pQ.eq_1 ?_;have h1:¬i<l.length:=by omega
  simp[-length_flatMap,-map_take,h1]
 |m+1,i,x,y,z,hi=>by
  refine aH pQ.eq_1 ?_;have h1:i<l.length:=by omega
  obtain⟨s,hs⟩:=gE h1;have a1:=bX (f:=dc) (w:=1) (λ_=>rfl) hs;simp only[dc,ec]at a1;have h4:=dJ h1;have hB:=λt J=>@Mn J s t
  have e1:((i+1:Nat):Int)=(i:Int)+1:=by omega
  have ih:=λx y z=>YO hl m (i+1) x y z (by omega)
  rw[e1]at ih;rw[e1]at h4;generalize hv:(λt:List UInt8=>decide (t.length<=s.length) && (s.take t.length == t))=v at hB;have hB':∀t J,lim T (.call false 13 [.str s,.str t] J)=some (.val (.bool (v t)) J):=λt J=>by rw[<- hv];exact Mn
  cases c1:v [109,111,100,101,108]<;>cases c2:v [116,105,99,107]<;>simp[-length_flatMap,-map_take,lX,h1,a1,h4,hB',c1,c2]<;>
   exact WL.to (ih _ _ _) rfl rfl λx e J' hh=>by simpa using hh
theorem acN{l:List (List UInt8)}(hl:l.length<=9223372036854775807)(J:SK):∃v,lim T (.call false 4 [.aJ l.length (l.flatMap dc)] J)=some (.val (.bool v) J)/\(v=true->l.length<=103):=by
 obtain⟨x,e,J',h1,rfl,rfl,g0,u,v,w,g3,g4,g5⟩:=YO (J:=[]::J) hl l.length 0 0 0 0 (by omega);refine⟨decide (v<=4) && (decide (w<=8) && (decide (u<=5000) && (decide ((l.length:Int)<=40) || (decide (u<=400) && decide ((l.length:Int)<=103))))),?_,λh=>by simp only[ae,bY,au]at h;omega⟩;refine aw MN ze.eq_1 rfl ?_;simp[-length_flatMap,-map_take];refine⟨_,_,_,by simpa using h1,?_⟩;by_cases c1:v<=4<;>by_cases c2:w<=8<;>by_cases c3:u<=5000<;>by_cases c4:(l.length:Int)<=40<;>by_cases c5:u<=400<;>by_cases c6:(l.length:Int)<=103<;>
  simp[-length_flatMap,-map_take,g0,g3,g4,g5,c1,c2,c3,c4,c5,c6]
end
section
open Go Go.aA Go.aI Go.dk
theorem Kv.oks{n:Nat}{b:Bk}(h:Kv n b){e:fK}(he:e∈b.aj):Ok b.bz [e.m] b.aD:=by
 have hm:b.aj≠[]:=λhh=>by rw[hh]at he;cases he
 have:=(h.fit e he).2.1;exact Ok.one (h.ready (h.ms hm)) (h.fit e he).1 h.pl (by omega)
end
section
open Go Go.aA Go.aI Go.dk
variable {J:SK}
def Sp:List (List UInt8):=[[107,101,101,112,32,57,32,56,32,55]]
theorem XX:(cH Sp).2=[0]/\(cH Sp).1.k0=9/\(cH Sp).1.k1=8/\(cH Sp).1.k2=7:=by
 refine⟨?_,?_,?_,?_⟩<;>kernel_rfl
theorem Wk(hJ:J≠[]):lim T (.call false 6 [] J)=some (.val (.bool true) J):=by
 refine aw MP zg.eq_1 rfl ?_;have hR:=λS hS=>YG (J:=S) (lines:=Sp) ⟨by decide,by decide⟩ hS
 obtain⟨h1,h2,h3,h4⟩:=XX;simp only[Jc,h1,h2,h3,h4]at hR;simp only[Sp,av,aV,aS,bM,dc,aM,cM,List.nil_append]at hR;simp[-length_flatMap,-map_take,hR]
theorem YL{b:Bk}{X0 X4:D}(h0:X0.calm=X0)(h4:X4.calm=X4)(hl:b.aj.length<=40):∀(k i:Nat),i+k=b.aj.length ->
  WL T [0,3,4,6,7] false kY [(0,X0),(3,.own 0 (Jc b)),(4,X4),(6,.sl J.length 0 i 0 i 2),(7,.int .i64 i)] ([.cells i (((b.aj.map fK.m).take i).flatMap bE.enc)]::J)
   (λx e J'=>x=.exit 0/\get e 0=X0/\get e 3=.own 0 (Jc b)/\get e 4=X4/\get e 6=.sl J.length 0 b.aj.length 0 b.aj.length 2/\J'=[.cells b.aj.length ((b.aj.map fK.m).flatMap bE.enc)]::J)
 |0,i,hi=>by
  refine aH kY.eq_1 ?_;obtain rfl:i=b.aj.length:=by omega
  have ht:(b.aj.map fK.m).take b.aj.length=b.aj.map fK.m:=af (by simp);rw[ht];simp only[Jc];simp[-length_flatMap,-map_take,h0,h4]
 |k+1,i,hi=>by
  refine aH kY.eq_1 ?_;have h1:i<b.aj.length:=by omega
  obtain⟨e,he⟩:=gE h1;have a1:=bX (f:=fK.enc) (w:=4) (λ_=>rfl) he;have a2:=bK (f:=fK.enc) (w:=4) (λ_=>rfl) b.aj;have a3:2<=b.aj.length*4-i*4:=by omega
  have a4:=dJ h1;have a5:=bK (f:=bE.enc) (w:=2) (λ_=>rfl) ((b.aj.map fK.m).take i);have a6:((b.aj.map fK.m).take i).length=i:=by simp;omega
  rw[a6]at a5;have a7:(((b.aj.map fK.m).take i).flatMap bE.enc).take (i*2)=((b.aj.map fK.m).take i).flatMap bE.enc:=af (by omega);have hroom:(i+1)*40<=room:=by unfold room;omega
  have ht:(b.aj.map fK.m).take (i+1)=(b.aj.map fK.m).take i++[e.m]:=by rw[List.take_add_one];simp[he]
  have ih:=YL h0 h4 hl k (i+1) (by omega);rw[ht]at ih;have d1:=zY (f:=fK.enc) (w:=4) (λ_=>rfl) he;generalize (b.aj.map fK.m).take i=A at ih a5 a7 ⊢;simp only[fK.enc]at a1 d1;simp only[Jc]at ih ⊢;simp[-length_flatMap,-map_take,h0,h4,h1,d1,a2,a3,a4,a5,a7,hroom];exact WL.to ih (by simp) (by simp) λx e J' hh=>hh
theorem TD{ms:List bE}{i:Nat}{m:bE}(hm:ms[i]?=some m){X0 X3 X4:D}(h0:X0.calm=X0)(h3:X3.calm=X3)(h4:X4.calm=X4)(hl:m.aU.length<=1000000):∀(n k:Nat),k+n=m.aU.length ->
  WL T [0,3,4,6,11,14,15] false kZ [(0,X0),(3,X3),(4,X4),(6,.aJ ms.length (ms.flatMap bE.enc)),(11,.aJ ms.length (ms.flatMap bE.enc)),(14,.int .i64 i),(15,.int .i64 k)] J
   (λx e J'=>x=.exit 4/\get e 0=X0/\get e 3=X3/\get e 4=X4/\get e 6=.aJ ms.length (ms.flatMap bE.enc)/\get e 11=.aJ ms.length (ms.flatMap bE.enc)/\get e 14=.int .i64 i/\J'=J)
 |0,k,hk=>by
  refine aH kZ.eq_1 ?_;have hi:=(ar.1 hm).1;have a1:=bX (f:=bE.enc) (w:=2) (λ_=>rfl) hm;obtain rfl:k=m.aU.length:=by omega
  simp only[bE.enc]at a1;simp[-length_flatMap,-map_take,h0,h3,h4,hi,a1]
 |n+1,k,hk=>by
  refine aH kZ.eq_1 ?_;have hi:=(ar.1 hm).1;have a1:=bX (f:=bE.enc) (w:=2) (λ_=>rfl) hm;have h1:k<m.aU.length:=by omega
  have a4:=dJ h1;obtain⟨v,hv⟩:=gE h1;have a2:=lU hv;have ih:=TD hm h0 h3 h4 hl n (k+1) (by omega);simp only[bE.enc]at a1;simp[-length_flatMap,-map_take,h0,h3,h4,hi,a1,h1,a2,a4];exact WL.to ih (by simp) rfl λx e J' hh=>hh
theorem TE{ms:List bE}{X0 X3 X4:D}(h0:X0.calm=X0)(h3:X3.calm=X3)(h4:X4.calm=X4)(hl:ms.length<=40)(hv:∀m∈ms,m.aU.length<=1000000):∀(n i:Nat),i+n=ms.length ->
  WL T [0,3,4,6,11,14] false la [(0,X0),(3,X3),(4,X4),(6,.aJ ms.length (ms.flatMap bE.enc)),(11,.aJ ms.length (ms.flatMap bE.enc)),(14,.int .i64 i)] J
   (λx e J'=>x=.exit 2/\get e 0=X0/\get e 3=X3/\get e 4=X4/\get e 6=.aJ ms.length (ms.flatMap bE.enc)/\J'=J)
 |0,i,hi=>by
  refine aH la.eq_1 ?_;obtain rfl:i=ms.length:=by omega
  simp[-length_flatMap,-map_take,h0,h3,h4]
 |n+1,i,hi=>by
  refine aH la.eq_1 ?_;have h1:i<ms.length:=by omega
  obtain⟨m,hm⟩:=gE h1;have a1:=bX (f:=bE.enc) (w:=2) (λ_=>rfl) hm;have a4:=dJ h1;have hC:=TD (J:=J) hm h0 h3 h4 (hv m (ai hm)) m.aU.length 0 (by omega);have ih:=TE h0 h3 h4 hl hv n (i+1) (by omega);simp only[bE.enc]at a1;simp[-length_flatMap,-map_take,lX,h0,h3,h4,h1,a1];refine WL.to hC (by simp) rfl ?_;rintro x e J' ⟨rfl,g0,g3,g4,g6,g11,g14,rfl⟩;simp[-length_flatMap,-map_take,g0,g3,g4,g6,g11,g14,a4,h0,h3,h4];exact WL.to ih (by simp) rfl λx e J' hh=>hh
end
end Go.Proofs.YtanhdobabijmoaaGreatDoor
