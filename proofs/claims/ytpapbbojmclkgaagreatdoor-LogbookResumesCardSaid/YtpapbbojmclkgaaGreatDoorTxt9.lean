import Derived.Test.YtpapbbojmclkgaaGreatDoorTxt8
set_option linter.all false
set_option maxRecDepth 100000
namespace Go.cY
open Go Go.aw Go.aD
def HQ(c:UInt8):Prop:=48<=c.toNat/\c.toNat<=57
instance (c:UInt8):Decidable (HQ c):=by unfold HQ;infer_instance
def oG:Nat->List UInt8->Option Nat
 |n,[]=>some n
 |n,c::s=>if HQ c then oG (10*n+(c.toNat-48)) s else none
def Aq(minus:Bool)(d:List UInt8):Option Int :=
 if d.length=0\/9<d.length\/(d.head?=some 48/\(1<d.length\/minus=true))then none
 else(oG 0 d).map λn:Nat=>(if minus=true then -(n:Int)else(n:Int))
def DE(s:List UInt8):Option Int:=if s.head?=some 45 then Aq true (s.drop 1)else Aq false s
theorem Lg:∀{a b:List UInt8} {n:Nat},oG n (a++b)=(oG n a).bind λm=>oG m b
 |[],b,n=>rfl
 |c::a,b,n=>by
  simp only[cF,oG];split
  .exact Lg
  .rfl
theorem C4:∀{s:List UInt8} {n m k:Nat},oG n s=some m->n<10^k->m<10^(k+s.length)
 |[],n,m,k,h,hn=>by simp only[oG,ae]at h;subst h;simpa using hn
 |c::s,n,m,k,h,hn=>by
  simp only[oG]at h;split at h
  .rename_i hd;have hd2:=hd.2;have:=C4 (k:=k+1) h (by rw[Nat.pow_succ];omega);simpa[dO,Nat.add_comm 1]using this
  .cases h
theorem Lh:∀{s:List UInt8} {n m:Nat},oG n s=some m->m<1844674407370955161->Lib.parseUint10 n s=.ok m
 |[],n,m,h,hm=>by simp only[oG,ae]at h;subst h;rfl
 |c::s,n,m,h,hm=>by
  simp only[oG]at h;split at h
  .rename_i hd;have hle:∀{s:List UInt8} {n m:Nat},oG n s=some m->n<=m:=by
    intro s;induction s with
    |nil=>intro n m h;simp only[oG,ae]at h;omega
    |cons c s ih =>
     intro n m h;simp only[oG]at h;split at h
     .have:=ih h;omega
     .cases h
   have h1:=hle h;have h2:=Lh h hm;unfold Lib.parseUint10;have hd2:=hd.2;have hd1:=hd.1;rw[if_pos (show 48<=c.toNat/\c.toNat<=57 from hd),if_neg (by omega),if_neg (by omega),<- h2];congr 1;omega
  .cases h
theorem YN{k:Nat}(hk:k<10):HQ (UInt8.ofNat (48+k))/\(UInt8.ofNat (48+k)).toNat-48=k:=by
 have:(UInt8.ofNat (48+k)).toNat=48+k:=UInt8.toNat_ofNat_of_lt' (by simp[UInt8.size];omega);unfold HQ;omega
theorem YM{c:UInt8}(h:HQ c):UInt8.ofNat (48+(c.toNat-48))=c:=by
 have:=h.1;rw[show 48+(c.toNat-48)=c.toNat by omega];simp
theorem Oq:∀{k u:Nat},u<10^k->0<k->oG 0 (sV k u)=some u
 |0,u,h,hk=>by omega
 |k+1,u,h,hk=>by
  unfold sV;split
  .rename_i hu;have h1:=YN hu;simp only[oG,if_pos h1.1,h1.2,Nat.mul_zero,cr]
  .rename_i hu;have hk':0<k:=by
    rcases Nat.eq_zero_or_pos k with rfl | h0
    .simp at h;omega
    .exact h0
   have hd:=YN (k:=u%10) (Nat.mod_lt _ (by omega));rw[Lg,Oq (k:=k) (u:=u / 10) (by rw[Nat.pow_succ]at h;omega) hk'];simp only[Option.bind_some,oG,if_pos hd.1,hd.2,ae];omega
theorem SD:∀{k u:Nat},0<k->sV k u≠[]
 |0,u,hk=>by omega
 |k+1,u,hk=>by
  unfold sV;split<;>simp
theorem Ot:∀{k u m:Nat},u<10^m->0<m->(sV k u).length<=m
 |0,u,m,h,hm=>by simp[sV]
 |k+1,u,m,h,hm=>by
  unfold sV;split
  .simp;omega
  .rename_i hu;obtain⟨j,rfl⟩:∃j,m=j+1:=⟨m-1,by omega⟩;have hj:0<j:=by
    rcases Nat.eq_zero_or_pos j with rfl | h0
    .simp at h;omega
    .exact h0
   have:=Ot (k:=k) (u:=u / 10) (m:=j) (by rw[Nat.pow_succ]at h;omega) hj;simp;omega
theorem Le:∀{k u:Nat},u<10^k->(sV k u).head?=some 48->u=0
 |0,u,h,hh=>by simp[sV]at hh
 |k+1,u,h,hh=>by
  unfold sV at hh;split at hh
  .rename_i hu;simp only[List.head?_cons,ae]at hh;have:=congrArg UInt8.toNat hh;simp at this;omega
  .rename_i hu;have hk:0<k:=by
    rcases Nat.eq_zero_or_pos k with rfl | h0
    .simp at h;omega
    .exact h0
   have h1:(sV k (u / 10)).head?=some 48:=by
    cases hd:sV k (u / 10)with
    |nil=>exact absurd hd (SD hk)
    |cons c r=>rw[hd]at hh;simpa using hh
   have:=Le (k:=k) (u:=u / 10) (by rw[Nat.pow_succ]at h;omega) h1;omega
theorem Uw:∀{d:List UInt8} {n k:Nat},oG 0 d=some n->d≠[]->(d.head?=some 48->d.length=1)->d.length<=k->sV k n=d:=by
 intro d;induction hl:d.length using Nat.strongRecOn generalizing d with
 |ind m ih =>
  intro n k h hne hz hk;obtain⟨d',c,rfl⟩:∃d' c,d=d'++[c]:=⟨d.dropLast,d.getLast hne,(List.dropLast_concat_getLast hne).symm⟩;rw[Lg]at h;cases h1:oG 0 d' with
  |none=>rw[h1]at h;cases h
  |some q =>
   rw[h1]at h;simp only[Option.bind_some,oG]at h;split at h
   .rename_i hc;simp only[ae]at h;have hc2:=hc.2;obtain⟨k,rfl⟩:∃j,k=j+1:=⟨k-1,by simp at hl;omega⟩;by_cases hd:d'=[]
    .subst hd;simp only[oG,ae]at h1;subst h1;have hn:n=c.toNat-48:=by omega
     subst hn;unfold sV;rw[if_pos (by have:=hc.1;omega),YM hc];rfl
    .have hh:(d'++[c]).head?=d'.head?:=by
      cases d' with
      |nil=>exact absurd rfl hd
      |cons x r=>rfl
     have hz':d'.head?=some 48->d'.length=1:=by
      intro h2;have h5:=hz (by rw[hh];exact h2);have hp:=aG.2 hd;rw[<- hl,aP]at h5;simp only[aB,bd]at h5;omega
     have hnz:d'.head? ≠ some 48:=by
      intro h2;have h5:=hz (by rw[hh];exact h2);have hp:=aG.2 hd;rw[<- hl,aP]at h5;simp only[aB,bd]at h5;omega
     have ih1:=ih d'.length (by simp at hl;omega) rfl (n:=q) (k:=k) h1 hd hz' (by simp at hl;omega);have hq:q≠0:=by
      intro h2;subst h2;rw[<- ih1]at hnz;have hkp:0<k:=by have:=aG.2 hd;simp at hl;omega
      obtain⟨j,rfl⟩:∃j,k=j+1:=⟨k-1,by omega⟩;simp[sV]at hnz
     unfold sV;have e1:n / 10=q:=by omega
     have e2:n%10=c.toNat-48:=by omega
     rw[if_neg (by omega),e1,e2,ih1,YM hc]
   .cases h
theorem M6{d:List UInt8}{n:Nat}(h:oG 0 d=some n)(hne:d≠[])(hn:n<=999999999):
  qX d=(0,(n:Int))/\qX (45::d)=(0,-(n:Int)):=by
 have hp:=Lh h (by omega);have hm:Lib.parseMag d=.ok n:=by unfold Lib.parseMag;rw[if_neg hne];exact hp
 constructor
 .unfold qX Lib.atoiAll;cases d with
  |nil=>exact absurd rfl hne
  |cons c r =>
   have hc:HQ c:=by
    simp only[oG]at h;split at h
    .assumption
    .cases h
   have h1:=hc.1;have h2:=hc.2;simp only;rw[if_neg (by omega),hm];simp only;rw[if_neg (by omega),if_neg (by omega),if_neg (by omega)]
 .unfold qX Lib.atoiAll;simp only;rw[if_pos (Or.inr (by decide)),hm];simp only;rw[if_neg (by simp),if_neg (by omega),if_pos (by decide)]
theorem Wq(s:List UInt8):GP s=DE s:=by
 have key:∀n,DE s=some n->GP s=some n:=by
  intro n h;unfold DE at h;split at h
  .rename_i hm;obtain⟨d,rfl⟩:∃d,s=45::d:=by
    cases s with
    |nil=>simp at hm
    |cons c d=>simp at hm;subst hm;exact⟨d,rfl⟩
   simp only[List.drop_succ_cons,az]at h;unfold Aq at h;split at h
   .cases h
   rename_i hc;simp only[not_or,not_and]at hc;simp only[ad]at h;obtain⟨m,h1,h2⟩:=h;have hne:d≠[]:=by intro h3;subst h3;simp at hc
   have hb:=C4 (k:=0) h1 (by decide);have hlt:m<10^9:=Nat.lt_of_lt_of_le hb (Nat.pow_le_pow_right (by decide) (by omega));have hd:=Uw (k:=20) h1 hne (λh3=>absurd trivial (hc.2.2 h3).2) (by omega);have hm0:m≠0:=by
    intro h3;subst h3;have:d.head?=some 48:=by rw[<- hd];rfl
    exact absurd trivial (hc.2.2 this).2
   obtain⟨_,ha⟩:=M6 h1 hne (by omega);unfold GP;rw[ha];have hi:gW (-(m:Int))=45::d:=by
    unfold gW;rw[if_pos (by omega),show(-(m:Int)).natAbs=m by omega,hd]
   rw[if_pos ⟨⟨rfl,hi⟩,by simp[bI];omega⟩];simpa using h2
  .rename_i hm;unfold Aq at h;split at h
   .cases h
   rename_i hc;simp only[not_or,not_and]at hc;simp only[ad]at h;obtain⟨m,h1,h2⟩:=h;have hne:s≠[]:=by intro h3;subst h3;simp at hc
   have hb:=C4 (k:=0) h1 (by decide);have hlt:m<10^9:=Nat.lt_of_lt_of_le hb (Nat.pow_le_pow_right (by decide) (by omega));have hd:=Uw (k:=20) h1 hne (λh3=>by have:=(hc.2.2 h3).1;have:=aG.2 hne;omega) (by omega);obtain⟨ha,_⟩:=M6 h1 hne (by omega);unfold GP;rw[ha];have hi:gW (m:Int)=s:=by
    unfold gW;rw[if_neg (by omega),show((m:Int)).toNat=m by omega,hd]
   rw[if_pos ⟨⟨rfl,hi⟩,by simp[bI];omega⟩];simpa using h2
 cases hn:GP s with
 |none =>
  cases hw:DE s with
  |none=>rfl
  |some n=>rw[key n hw]at hn;cases hn
 |some n =>
  have h:=hn;unfold GP at h;split at h
  .rename_i hc;obtain⟨⟨_,h1⟩,h2⟩:=hc;simp only[ae]at h;rw[h]at h1 h2;simp only[bI,af,au]at h2;suffices DE s=some n from this.symm
   rw[<- h1];unfold gW;split
   .rename_i hneg;have hlt:n.natAbs<10^9:=by omega
    have hd:=Oq (k:=20) (u:=n.natAbs) (Nat.lt_trans hlt (by decide)) (by decide);have hl:=Ot (k:=20) (u:=n.natAbs) (m:=9) hlt (by decide);have hne:=SD (k:=20) (u:=n.natAbs) (by decide);have hh:(sV 20 n.natAbs).head? ≠ some 48:=λh3=>by have:=Le (Nat.lt_trans hlt (by decide)) h3;omega
    unfold DE;rw[if_pos (show(45::sV 20 n.natAbs).head?=some 45 from rfl)];simp only[List.drop_succ_cons,az];unfold Aq;rw[if_neg (by simp only[not_or,not_and];exact⟨by have:=aG.2 hne;omega,by omega,λh3=>absurd h3 hh⟩),hd];simp;omega
   .rename_i hneg;have hlt:n.toNat<10^9:=by omega
    have hd:=Oq (k:=20) (u:=n.toNat) (Nat.lt_trans hlt (by decide)) (by decide);have hl:=Ot (k:=20) (u:=n.toNat) (m:=9) hlt (by decide);have hne:=SD (k:=20) (u:=n.toNat) (by decide);have hh:(sV 20 n.toNat).head? ≠ some 45:=by
     intro h3;cases hx:sV 20 n.toNat with
     |nil=>exact hne hx
     |cons c r =>
      rw[hx]at hd h3;simp at h3;subst h3;simp[oG,HQ]at hd
    have hz:(sV 20 n.toNat).head?=some 48->¬1<(sV 20 n.toNat).length:=by
     intro h3;have h0:=Le (Nat.lt_trans hlt (by decide)) h3;rw[h0];decide
    unfold DE;rw[if_neg hh];unfold Aq;rw[if_neg (by simp only[not_or,not_and];exact⟨by have:=aG.2 hne;omega,by omega,λh3=>⟨hz h3,by simp⟩⟩),hd];simp;omega
  .cases h
end Go.cY
namespace Go.Proofs.YtpapbbojmclkgaaGreatDoor
section
open Go Go.aw Go.cY
variable {J:SK}
theorem Ug{d:List UInt8}{v:Bool}(hd:d.length<=9):∀(m i n:Nat),i+m=d.length->n<10^i ->
  WL T [4,5,6,7] false tD [(4,.bool v),(5,.str d),(6,.int .i64 n),(7,.int .i64 i)] J
   (λx e J'=>J'=J/\match oG n (d.drop i)with
    |some k=>x=.exit 0/\get e 4=.bool v/\get e 6=.int .i64 k
    |none=>x=.ret/\get e 2=.int .i64 0/\get e 3=.bool false)
 |0,i,n,hi,hn=>by
  refine aK ?_;obtain rfl:i=d.length:=by omega
  have h2:d.drop d.length=[]:=ec;simp[-List.map_take,fO,h2,oG]
 |m+1,i,n,hi,hn=>by
  refine aK ?_;have h1:i<d.length:=by omega
  obtain⟨c,hc⟩:=gE h1;have hcg:d[i]=c:=by have:=aE h1;rw[hc]at this;exact(Option.some.inj this).symm
  have h4:=cj h1;rw[bj hc];have hp:10^(i+1)<=10^9:=Nat.pow_le_pow_right (by decide) (by omega);rw[Nat.pow_succ]at hp;have hb:=c.toNat_lt;by_cases h5:c.toNat<48
  .have h6:(c.toNat:Int)<48:=by omega
   have h7:¬HQ c:=by unfold HQ;omega
   simp[-List.map_take,fO,h1,hcg,h6,oG,h7]
  .have h6:¬(c.toNat:Int)<48:=by omega
   by_cases h8:57<c.toNat
   .have h9:(57:Int)<c.toNat:=by omega
    have h7:¬HQ c:=by unfold HQ;omega
    simp[-List.map_take,fO,h1,hcg,h6,h9,oG,h7]
   .have h9:¬(57:Int)<c.toNat:=by omega
    have h7:HQ c:=by unfold HQ;omega
    have w1:IntKind.i64.wrap (10*(n:Int))=((10*n:Nat):Int):=(bV).trans (by omega);have w2:IntKind.u8.wrap ((c.toNat:Int)-48)=((c.toNat-48:Nat):Int):=(TG (by omega)).trans (by omega);have w3:IntKind.i64.wrap ((c.toNat-48:Nat):Int)=((c.toNat-48:Nat):Int):=bV;have w4:IntKind.i64.wrap (10*(n:Int)+((c.toNat-48:Nat):Int))=10*(n:Int)+((c.toNat-48:Nat):Int):=bV;have ih:=Ug (v:=v) hd m (i+1) (10*n+(c.toNat-48)) (by omega) (by rw[Nat.pow_succ];omega);simp[-List.map_take,fO,h1,hcg,h6,h9,oG,w1,w2,w3,h4];exact WL.to ih (by simp[w4]) rfl λx e J' hh=>by rw[if_pos h7];exact hh
theorem abn{s:List UInt8}:Cl 87 [.str s] (.cS [iI ((GP s).getD 0),.bool (GP s).isSome]) J:=by
 rw[Wq];refine an ?_;obtain⟨v,d,hs⟩:∃(v:Bool) (d:List UInt8),(s=45::d/\v=true)\/(s=d/\v=false/\d.head? ≠ some 45):=by
  cases s with
  |nil=>exact⟨false,[],Or.inr ⟨rfl,rfl,by simp⟩⟩
  |cons c r =>
   by_cases h:c=45
   .subst h;exact⟨true,r,Or.inl ⟨rfl,rfl⟩⟩
   .exact⟨false,c::r,Or.inr ⟨rfl,rfl,by simpa using h⟩⟩
 have hw:DE s=Aq v d:=by
  rcases hs with⟨rfl,rfl⟩ | ⟨rfl,rfl,h⟩
  .rfl
  .unfold DE;rw[if_neg h]
 rw[hw];have hL:=λh9=>Ug (J:=[]::J) (v:=v) (d:=d) h9 d.length 0 0 (by omega) (by decide)
 have hneg:∀k,oG 0 d=some k->d.length<=9->IntKind.i64.wrap (-(k:Int)) = -(k:Int):=λk hk h9=>by
  have h1:=C4 (k:=0) hk (by decide);have h2:=Nat.lt_of_lt_of_le h1 (Nat.pow_le_pow_right (by decide) (show 0+d.length<=9 by omega));exact bV
 by_cases c1:d.length=0
 .obtain rfl:=bg.1 c1;rcases hs with⟨rfl,rfl⟩ | ⟨rfl,rfl,h⟩<;>simp[fO,Aq]
 have⟨d1,hp,hp1,hp2,hp3⟩:¬(d.length:Int)=0/\0<d.length/\(0:Int)<d.length/\(0:Int)<(d.length:Int)+1/\(1:Int)<=(d.length:Int)+1:=by omega
 obtain⟨c,hc⟩:=gE hp;have hcg:d[0]=c:=by have:=aE hp;rw[hc]at this;exact(Option.some.inj this).symm
 have hh:d.head?=some c:=by rw[List.head?_eq_getElem?,hc]
 rw[hh]at hs;simp only[ne_eq,ae]at hs;by_cases c2:9<d.length
 .have d2:(9:Int)<d.length:=by omega
  rcases hs with⟨rfl,rfl⟩ | ⟨rfl,rfl,h⟩
  .simp[fO,Aq,c1,c2,d2,hp3]
  .have h':¬c.toNat=45:=λh2=>h (UInt8.toNat_inj.1 h2)
   have h3:((c.toNat:Int) == 45)=false:=by simp;omega
   simp[fO,Aq,c1,c2,d2,hp,hcg,h3]
 have d2:¬(9:Int)<d.length:=by omega
 have hcz:((c.toNat:Int) == 48)=decide (c=48):=by
  by_cases h:c=48
  .subst h;rfl
  .have h':¬c.toNat=48:=λh2=>h (UInt8.toNat_inj.1 h2)
   simp[h];omega
 have hL:=hL (by omega);rw[az]at hL;have hone:(1<d.length)=((1:Int)<d.length):=propext ⟨λh=>by omega,λh=>by omega⟩;by_cases c3:c=48/\(1<d.length\/v=true)
 .have hn:Aq v d=none:=by unfold Aq;rw[hh,if_pos (Or.inr (Or.inr ⟨by rw[c3.1],c3.2⟩))]
  rw[hn];obtain⟨rfl,c4⟩:=c3;rw[hone]at c4;rcases hs with⟨rfl,rfl⟩ | ⟨rfl,rfl,h⟩
  .by_cases c5:(1:Int)<d.length<;>simp[fO,c1,d2,hp,hp3,hcg,c5]
  .have c4:(1:Int)<s.length:=by simpa using c4
   simp[fO,c1,d2,hp,hcg,c4]
 .have hn:Aq v d=(oG 0 d).map λn:Nat=>(if v=true then -(n:Int)else(n:Int)):=by
   unfold Aq;rw[hh,if_neg];rintro(h | h | ⟨h,h2⟩)
   .exact c1 h
   .exact c2 h
   .exact c3 ⟨by simpa using h,h2⟩
  rw[hn];rcases hs with⟨rfl,rfl⟩ | ⟨rfl,rfl,h⟩
  .have c4:¬c=48:=λh=>c3 ⟨h,Or.inr rfl⟩
   simp[fO,c1,d2,hp,hp3,hcg,hcz,c4];refine WL.tg hL ?_;rintro x e J' ⟨rfl,hh⟩;cases hv:oG 0 d with
   |none=>rw[hv]at hh;obtain⟨rfl,g2,g3⟩:=hh;simp[g2,g3]
   |some k=>rw[hv]at hh;obtain⟨rfl,g4,g6⟩:=hh;simp[g4,g6,hneg k hv (by omega)]
  .have h':¬c.toNat=45:=λh2=>h (UInt8.toNat_inj.1 h2)
   have h3:((c.toNat:Int) == 45)=false:=by simp;omega
   have key:∀x e J',(J'=[]::J/\match oG 0 s with
    |some k=>x=aw.Exit.exit 0/\get e 4=.bool false/\get e 6=.int .i64 k
    |none=>x=.ret/\get e 2=.int .i64 0/\get e 3=.bool false)->True:=λ_ _ _ _=>trivial
   by_cases c4:c=48
   .have c5:¬(1:Int)<s.length:=λh=>c3 ⟨c4,Or.inl (by omega)⟩
    subst c4;simp[fO,c1,d2,hp,hcg,c5];refine WL.tg hL ?_;rintro x e J' ⟨rfl,hh⟩;cases hv:oG 0 s with
    |none=>rw[hv]at hh;obtain⟨rfl,g2,g3⟩:=hh;simp[g2,g3]
    |some k=>rw[hv]at hh;obtain⟨rfl,g4,g6⟩:=hh;simp[g4,g6]
   .simp[fO,c1,d2,hp,hcg,hcz,h3,c4];refine WL.tg hL ?_;rintro x e J' ⟨rfl,hh⟩;cases hv:oG 0 s with
    |none=>rw[hv]at hh;obtain⟨rfl,g2,g3⟩:=hh;simp[g2,g3]
    |some k=>rw[hv]at hh;obtain⟨rfl,g4,g6⟩:=hh;simp[g4,g6]
end
section
open Go Go.aw Go.aD Go.cY
variable {J:SK}
def glue(c:List UInt8):List (List UInt8)->List (List UInt8)
 |[]=>[c]
 |x::l=>(c++x)::l
theorem QM{l:List (List UInt8)}(h:l≠[]):glue [] l=l:=by
 cases l with
 |nil=>exact absurd rfl h
 |cons x l=>rfl
theorem Tl(b c:UInt8)(s:List UInt8):dB b (c::s)=if c=b then []::dB b s else glue [c] (dB b s):=by
 simp only[dB];split
 .rfl
 .cases dB b s<;>rfl
theorem Wa(a b:List UInt8)(l:List (List UInt8)):glue a (glue b l)=glue (a++b) l:=by
 cases l<;>simp[glue]
theorem Oa{s:List UInt8}(hs:s.length<=1000000):∀(m i fr:Nat) (cl:List (List UInt8)),i+m=s.length->fr<=i->cl.length<=i ->
  dB 32 s=cl++glue ((s.drop fr).take (i-fr)) (dB 32 (s.drop i)) ->
  WL T [0,6,7,8] false tz [(0,.str s),(6,.sl J.length 0 cl.length 0 (cl.length+1) 1),(7,iI fr),(8,iI i)] ([.cells cl.length (fM (cl++[[]]) bD)]::J)
   (λx e J'=>∃(cl:List (List UInt8)) (fr:Nat),fr<=s.length/\dB 32 s=cl++[s.drop fr]/\cl.length<=s.length/\x=.exit 0/\get e 0=.str s/\get e 6=.sl J.length 0 cl.length 0 (cl.length+1) 1/\get e 7=iI fr/\J'=[.cells cl.length (fM (cl++[[]]) bD)]::J)
 |0,i,fr,cl,hi,hf,hc,hsp=>by
  refine aK ?_;obtain rfl:i=s.length:=by omega
  have h2:s.drop s.length=[]:=ec;have h3:(s.drop fr).take (s.length-fr)=s.drop fr:=aW (by simp);rw[h2,h3]at hsp;have h4:glue (s.drop fr) (dB 32 [])=[s.drop fr]:=by simp[dB,glue]
  rw[h4]at hsp;simp[fO];exact⟨cl,fr,hf,hsp,hc,by simp⟩
 |m+1,i,fr,cl,hi,hf,hc,hsp=>by
  refine aK ?_;have h1:i<s.length:=by omega
  obtain⟨c,hcc⟩:=gE h1;have hcg:s[i]=c:=by have:=aE h1;rw[hcc]at this;exact(Option.some.inj this).symm
  have h4:=cj h1;have e1:((i+1:Nat):Int)=(i:Int)+1:=by omega
  rw[bj hcc,Tl]at hsp;by_cases c1:c=32
  .subst c1;rw[if_pos rfl]at hsp;simp only[glue,dq]at hsp;have hw:IntKind.i64.wrap (((cl.length+1:Nat):Int)-1)=(cl.length:Int):=(bV).trans (by omega);have hw0:IntKind.i64.wrap (cl.length:Int)=(cl.length:Int):=bV;have hw1:(cl.length:Int)<(cl.length:Int)+1:=by omega
   have hfl:=dF (f:=bD) (w:=1) cl;have hr:(cl.length+1+1)*16<=room:=by unfold room;omega
   rw[bR]at hfl;have hd:((fM cl bD)++[D.str []]).drop (cl.length+1)=[]:=bH (by rw[aP,hfl];simp);have ht:∀y:D,((fM cl bD)++[y]).take (cl.length+1)=(fM cl bD)++[y]:=λy=>aW (by rw[aP,hfl];simp)
   have⟨hfi,hil⟩:(fr:Int)<=i/\(i:Int)<=s.length:=by omega
   have ih:=Oa hs m (i+1) (i+1) (cl++[(s.drop fr).take (i-fr)]) (by omega) (by omega) (by simp;omega) (by
    rw[Nat.sub_self,List.take_zero,QM (sP _ _),hsp];simp)
   simp[fO,h1,hcg,hw0,hw1,hfl,h4,hfi,hil,hr];exact WL.to ih (by simp) (by simp[hd,ht]) λx e J' hh=>hh
  .have h':¬c.toNat=32:=λh2=>c1 (UInt8.toNat_inj.1 h2)
   have h3:((c.toNat:Int) == 32)=false:=by simp;omega
   rw[if_neg c1,Wa]at hsp;have ih:=Oa hs m (i+1) fr cl (by omega) (by omega) (by omega) (by
    rw[hsp];have:(s.drop fr).take (i+1-fr)=(s.drop fr).take (i-fr)++[c]:=by
     rw[show i+1-fr=(i-fr)+1 by omega,List.take_add_one,dN,show fr+(i-fr)=i by omega,hcc];rfl
    rw[this])
   simp[fO,h1,hcg,h3,h4];exact WL.ts ih λx e J' hh=>hh
theorem Kc{a nm:List UInt8}{ws r:List (List UInt8)}{v k:Nat}(hk:ws.drop k=r)(hr:k+r.length<=1000001):∀(m i:Nat) (acc:List Int),i+m=r.length->acc.length=i->mg r=(mg (r.drop i)).map (acc ++ ·) ->
  WL T [9,10,11,12,13] false tA [(9,.str a),(10,.sl J.length 0 v k r.length 1),(11,.str nm),(12,.sl J.length 1 acc.length 0 acc.length 1),(13,iI i)] ([.cells v (fM ws bD),.cells acc.length (fM acc aQ)]::J)
   (λx e J'=>match mg r with
    |some l=>x=.exit 2/\get e 9=.str a/\get e 11=.str nm/\get e 12=.sl J.length 1 l.length 0 l.length 1/\J'=[.cells v (fM ws bD),.cells l.length (fM l aQ)]::J
    |none=>x=.ret/\get e 2=.str []/\get e 3=.str []/\get e 4=.bB/\get e 5=.bool false/\∃b,J'=b::J)
 |0,i,acc,hi,ha,hn=>by
  refine aK ?_;obtain rfl:i=r.length:=by omega
  have h2:r.drop r.length=[]:=ec;rw[h2]at hn;simp only[mg,aZ,dq]at hn;simp[hn]
 |m+1,i,acc,hi,ha,hn=>by
  refine aK ?_;have h1:i<r.length:=by omega
  obtain⟨s,hs⟩:=gE h1;have hs':ws[k+i]?=some s:=by rw[<- hk,dN]at hs;exact hs
  have hdr:=mM (f:=bD) (w:=1) (λ_=>rfl) hs';simp only[bR,bD,cm]at hdr;have h4:=cj h1;rw[bj hs]at hn;have hB:=λS=>abn (J:=S) (s:=s)
  cases hv:GP s with
  |none =>
   rw[hv]at hB;simp only[mg,hv,Option.map_none]at hn;simp[h1,hdr,hB,hn]
  |some n =>
   rw[hv]at hB;simp only[mg,hv,Option.map_map]at hn;have hfl:=dF (f:=aQ) (w:=1) acc;rw[bR]at hfl;have tk:(fM acc aQ).take i=fM acc aQ:=cZ;have hrm:(i+1)*8<=room:=by unfold room;omega
   have ih:=Kc (a:=a) (nm:=nm) (v:=v) hk hr m (i+1) (acc++[n]) (by omega) (by simp[ha]) (by
    rw[hn];congr 1;funext l;simp)
   subst ha;simp[h1,hdr,hB,h4,hfl,tk,hrm];exact WL.to ih (by simp) (by simp[aQ]) λx e J' hh=>hh
def oU(a:List UInt8)(n:Int):Bool :=
 if(a == [102,105,101,108,100] || (a == [114,101,97,100] || a == [115,101,108,108]))=true then n == 4
 else if(a == [98,101,100] || (a == [119,101,108,108] || a == [107,101,101,112]))=true then n == 3
 else if(a == [114,117,108,101])=true then n == 10
 else if(a == [116,97,98,108,101])=true then n.tmod 5 == 0
 else if(a == [113,117,97,107,101])=true then n.tmod 4 == 0
 else if(a == [108,111,103])=true then decide (3<=n) && n.tmod 2 == 1
 else if(a == [117,110,105,116])=true then n.tmod 2 == 1
 else a == [109,111,100,101,108] || a == [116,105,99,107]
def I2(a nm:List UInt8)(r:List (List UInt8)):D:=match mg r with
 |some l => .cS [.str a,.str nm,lF l aQ,.bool (oU a l.length)]
 |none => .cS [.str [],.str [],.bB,.bool false]
def Rh(a:List UInt8):List (List UInt8)->D
 |[] => .cS [.str [],.str [],.bB,.bool false]
 |nm::r=>I2 a nm r
def OX(s:List UInt8):D:=match dB 32 s with
 |[] => .bB
 |a::all=>if(a == [109,111,100,101,108] || a == [108,111,103])=true then Rh a all else I2 a [] all
theorem TM{s:List UInt8}(hs:s.length<=1000000)(hJ:J≠[]):di T (.call false 62 [.str s] J)=some (.val (OX s) J):=by
 refine an ?_;simp[-List.map_take];refine WL.to (Oa (J:=J) hs s.length 0 0 [] (by omega) (by omega) (by simp[]) (by show dB 32 s=glue [] (dB 32 s);rw[QM (sP _ _)])) (by simp[]) (by simp[]) ?_;rintro x e J' ⟨cl,fr,hf,hsp,hc,rfl,g0,g6,g7,rfl⟩;have hw:IntKind.i64.wrap (((cl.length+1:Nat):Int)-1)=(cl.length:Int):=(bV).trans (by omega);have hw0:IntKind.i64.wrap (cl.length:Int)=(cl.length:Int):=bV;have hw1:(cl.length:Int)<(cl.length:Int)+1:=by omega
 have hfl:=dF (f:=bD) (w:=1) cl;have hfs:(fr:Int)<=s.length:=by omega
 have hd:((fM cl bD)++[D.str []]).drop (cl.length+1)=[]:=bH (by rw[aP,hfl];simp[]);obtain⟨a,all,ha⟩:∃a all,cl++[s.drop fr]=a::all:=by
  cases cl with
  |nil=>exact⟨_,_,rfl⟩
  |cons x l=>exact⟨_,_,rfl⟩
 have hal:all.length=cl.length:=by have:=congrArg List.length ha;simp[]at this;omega
 have hce:fM cl bD++D.str (s.drop fr)::((fM cl bD)++[D.str []]).drop (cl.length+1)=.str a::fM all bD:=by
  rw[hd];have:=congrArg (fM · bD) ha;simpa[pF,bD]using this
 have h1c:(1:Int)<=(cl.length:Int)+1:=by omega
 have hrp:OX s=if(a == [109,111,100,101,108] || a == [108,111,103])=true then Rh a all else I2 a [] all:=by unfold OX;rw[hsp,ha]
 rw[hrp];have hfr:∀(b:List aw.aF) (l:List Int) (nm:List UInt8) (x:Bool),b[1]?=some (.cells l.length (fM l aQ))->∃S,cK (J.length-1) 16 (.cS [.str a,.str nm,.sl J.length 1 l.length 0 l.length 1,.bool x]) (b::J)=(.cS [.str a,.str nm,.bZ l.length (fM l aQ),.bool x],S::J):=by
  intro b l nm x hb;have f0:=kb (n:=15) (f:=aQ) (w:=1) (l:=l) (by decide) (λ_=>rfl) (λ_=>by simp[aQ,D.clean]) hJ hb;have h1:∀(s:List UInt8) (S:SK),cK (J.length-1) 15 (.str s) S=(.str s,S):=λs S=>eV rfl (by decide)
  have h2:∀(s:Bool) (S:SK),cK (J.length-1) 15 (.bool s) S=(.bool s,S):=λs S=>eV rfl (by decide)
  refine⟨b.set 1 .dead,?_⟩;rw[pw (by simp[D.clean,D.bh]) (by omega)];simp only[jD,kq,Nat.reduceSub,h1,h2,f0]
 simp[-List.map_take,fO,g0,g6,g7,hw0,hw1,hfl,hfs,hce,h1c];clear hrp hce hd hsp;rw[<- hal];have hal2:all.length<=1000000:=by omega
 by_cases c1:a=[109,111,100,101,108]
 .subst c1;cases all with
  |nil=>simp[-List.map_take,Rh]
  |cons nm r =>
   have hr2:(2:Nat)+r.length<=1000001:=by simp[]at hal2;omega
   have hL:=Kc (J:=J) (a:=[109,111,100,101,108]) (nm:=nm) (ws:=[109,111,100,101,108]::nm::r) (r:=r) (k:=2) (v:=r.length+1) rfl hr2 r.length 0 [] (by omega) rfl (by simp[]);have hr0:¬(r.length:Int)+1=0:=by omega
   have hr1:(1:Int)<=(r.length:Int)+1:=by omega
   simp[-List.map_take,Rh,hr0,hr1];refine WL.to hL (by simp[]) (by simp[]) ?_;intro x e J' hh;unfold I2;cases hn:mg r with
   |none=>rw[hn]at hh;obtain⟨rfl,g2,g3,g4,g5,b,rfl⟩:=hh;simp[g2,g3,g4,g5]
   |some l =>
    rw[hn]at hh;obtain⟨rfl,g9,g11,g12,rfl⟩:=hh;simp[-List.map_take,fO,g9,g11,g12,oU];exact hfr _ l nm true rfl
 by_cases c2:a=[108,111,103]
 .subst c2;cases all with
  |nil=>simp[-List.map_take,Rh]
  |cons nm r =>
   have hr2:(2:Nat)+r.length<=1000001:=by simp[]at hal2;omega
   have hL:=Kc (J:=J) (a:=[108,111,103]) (nm:=nm) (ws:=[108,111,103]::nm::r) (r:=r) (k:=2) (v:=r.length+1) rfl hr2 r.length 0 [] (by omega) rfl (by simp[]);have hr0:¬(r.length:Int)+1=0:=by omega
   have hr1:(1:Int)<=(r.length:Int)+1:=by omega
   simp[-List.map_take,Rh,hr0,hr1];refine WL.to hL (by simp[]) (by simp[]) ?_;intro x e J' hh;unfold I2;cases hn:mg r with
   |none=>rw[hn]at hh;obtain⟨rfl,g2,g3,g4,g5,b,rfl⟩:=hh;simp[g2,g3,g4,g5]
   |some l =>
    rw[hn]at hh;obtain⟨rfl,g9,g11,g12,rfl⟩:=hh;by_cases h3:(3:Int)<=l.length
    .simp[-List.map_take,fO,g9,g11,g12,oU,h3];exact hfr _ l nm _ rfl
    .simp[-List.map_take,fO,g9,g11,g12,oU,h3];exact hfr _ l nm _ rfl
 have hr2:(1:Nat)+all.length<=1000001:=by omega
 have hL:=Kc (J:=J) (a:=a) (nm:=[]) (ws:=a::all) (r:=all) (k:=1) (v:=all.length) rfl hr2 all.length 0 [] (by omega) rfl (by simp[]);have c1':(a == [109,111,100,101,108])=false:=by simpa[pF]using c1
 have c2':(a == [108,111,103])=false:=by simpa[pF]using c2
 simp[-List.map_take,c1,c2];refine WL.to hL (by simp[]) (by simp[]) ?_;intro x e J' hh;unfold I2;cases hn:mg all with
 |none=>rw[hn]at hh;obtain⟨rfl,g2,g3,g4,g5,b,rfl⟩:=hh;simp[g2,g3,g4,g5,c1,c2]
 |some l =>
  rw[hn]at hh;obtain⟨rfl,g9,g11,g12,rfl⟩:=hh;by_cases w0:a=[102,105,101,108,100]
  .subst w0;simp[-List.map_take,fO,g9,g11,g12,oU];exact hfr _ l [] _ rfl
  by_cases w1:a=[114,101,97,100]
  .subst w1;simp[-List.map_take,fO,g9,g11,g12,oU];exact hfr _ l [] _ rfl
  by_cases w2:a=[115,101,108,108]
  .subst w2;simp[-List.map_take,fO,g9,g11,g12,oU];exact hfr _ l [] _ rfl
  by_cases w3:a=[98,101,100]
  .subst w3;simp[-List.map_take,fO,g9,g11,g12,oU];exact hfr _ l [] _ rfl
  by_cases w4:a=[119,101,108,108]
  .subst w4;simp[-List.map_take,fO,g9,g11,g12,oU];exact hfr _ l [] _ rfl
  by_cases w5:a=[107,101,101,112]
  .subst w5;simp[-List.map_take,fO,g9,g11,g12,oU];exact hfr _ l [] _ rfl
  by_cases w6:a=[114,117,108,101]
  .subst w6;simp[-List.map_take,fO,g9,g11,g12,oU];exact hfr _ l [] _ rfl
  by_cases w7:a=[116,97,98,108,101]
  .subst w7;simp[-List.map_take,fO,g9,g11,g12,oU];exact hfr _ l [] _ rfl
  by_cases w8:a=[113,117,97,107,101]
  .subst w8;simp[-List.map_take,fO,g9,g11,g12,oU];exact hfr _ l [] _ rfl
  by_cases w9:a=[117,110,105,116]
  .subst w9;simp[-List.map_take,fO,g9,g11,g12,oU];exact hfr _ l [] _ rfl
  by_cases w10:a=[116,105,99,107]
  .subst w10;simp[-List.map_take,fO,g9,g11,g12,oU];exact hfr _ l [] _ rfl
  simp[-List.map_take,fO,g9,g11,g12,oU,c1,c2,w0,w1,w2,w3,w4,w5,w6,w7,w8,w9,w10];have hz:(a == [109,111,100,101,108] || a == [116,105,99,107])=false:=by simp[c1,w10]
  rw[hz];exact hfr _ l [] _ rfl
end
section
open Go Go.aw Go.aD Go.cY
theorem YV{a:List UInt8}{w:Wd}(h:(a,w)∈lM){n:Nat}(hf:GG w n=true):oU a n=true:=by
 have t5:(n:Int).tmod 5=(n:Int)%5:=Int.tmod_eq_emod_of_nonneg (by omega);have t4:(n:Int).tmod 4=(n:Int)%4:=Int.tmod_eq_emod_of_nonneg (by omega);have t2:(n:Int).tmod 2=(n:Int)%2:=Int.tmod_eq_emod_of_nonneg (by omega);have t3:0<(n:Int)-3->((n:Int)-3).tmod 2=((n:Int)-3)%2:=λh=>Int.tmod_eq_emod_of_nonneg (by omega)
 have t1:0<(n:Int)-1->((n:Int)-1).tmod 2=((n:Int)-1)%2:=λh=>Int.tmod_eq_emod_of_nonneg (by omega)
 simp only[lM,bz,ak,List.not_mem_nil,or_false]at h;unfold GG at hf;simp only[cq,af,au]at hf;rcases h with⟨rfl,rfl⟩ | ⟨rfl,rfl⟩ | ⟨rfl,rfl⟩ | ⟨rfl,rfl⟩ | ⟨rfl,rfl⟩ | ⟨rfl,rfl⟩ | ⟨rfl,rfl⟩ | ⟨rfl,rfl⟩ | ⟨rfl,rfl⟩ | ⟨rfl,rfl⟩ | ⟨rfl,rfl⟩ | ⟨rfl,rfl⟩ | ⟨rfl,rfl⟩<;>
  simp only[Int.sub_zero,t5,t4]at hf<;>simp[oU,t5,t4,t2]<;>
  (try (rcases hf with hf | ⟨hf,hf2,hf3⟩<;>(try rw[t3 hf]at hf3)<;>(try rw[t1 hf]at hf3)<;>omega))
theorem ZP{s:List UInt8}{w:Wd}{nm:List UInt8}{l:List Int}(h:parse s=some (w,nm,l)):∃a,(a,w)∈lM/\OX s=.cS [.str a,.str nm,lF l aQ,.bool true]:=by
 unfold parse at h;unfold OX;cases hsp:dB 32 s with
 |nil=>rw[hsp]at h;cases h
 |cons a all =>
  rw[hsp]at h;simp only at h ⊢;cases hw:yj a with
  |none=>rw[hw]at h;cases h
  |some v =>
   rw[hw]at h;simp only at h;have hm:=Cu hw;have key:∀{nm':List UInt8} {r:List (List UInt8)},qQ v nm' r=some (w,nm,l)->v=w/\I2 a nm' r=.cS [.str a,.str nm,lF l aQ,.bool true]:=by
    intro nm' r h;unfold qQ at h;unfold I2;cases hn:mg r with
    |none=>rw[hn]at h;cases h
    |some ns =>
     rw[hn]at h;simp only at h ⊢;split at h
     .rename_i hf;cases h;rw[YV hm hf];exact⟨rfl,rfl⟩
     .cases h
   have hnm:(a == [109,111,100,101,108] || a == [108,111,103])=v.named:=by
    have hm:=hm;simp only[lM,bz,ak,List.not_mem_nil,or_false]at hm;rcases hm with⟨rfl,rfl⟩ | ⟨rfl,rfl⟩ | ⟨rfl,rfl⟩ | ⟨rfl,rfl⟩ | ⟨rfl,rfl⟩ | ⟨rfl,rfl⟩ | ⟨rfl,rfl⟩ | ⟨rfl,rfl⟩ | ⟨rfl,rfl⟩ | ⟨rfl,rfl⟩ | ⟨rfl,rfl⟩ | ⟨rfl,rfl⟩ | ⟨rfl,rfl⟩<;>rfl
   rw[hnm];split at h
   .rename_i hv;rw[if_pos hv];cases all with
    |nil=>cases h
    |cons n r =>
     obtain⟨rfl,h2⟩:=key h;exact⟨a,hm,h2⟩
   .rename_i hv;rw[if_neg hv];obtain⟨rfl,h2⟩:=key h;exact⟨a,hm,h2⟩
theorem LU(a nm:List UInt8)(r:List (List UInt8)):∃x y d f,I2 a nm r=.cS [.str x,.str y,d,.bool f]/\(d=.bB\/∃l:List Int,d=lF l aQ):=by
 unfold I2;cases mg r with
 |none=>exact⟨_,_,_,_,rfl,.inl rfl⟩
 |some l=>exact⟨_,_,_,_,rfl,.inr ⟨l,rfl⟩⟩
theorem Wx(s:List UInt8):∃x y d f,OX s=.cS [.str x,.str y,d,.bool f]/\(d=.bB\/∃l:List Int,d=lF l aQ):=by
 unfold OX;cases hsp:dB 32 s with
 |nil=>exact absurd hsp (sP _ _)
 |cons a all =>
  simp only;split
  .cases all with
   |nil=>exact⟨_,_,_,_,rfl,.inl rfl⟩
   |cons n r=>exact LU _ _ _
  .exact LU _ _ _
theorem TE{b:Bk}(h:∀r∈b.rules,r.ok=true)(k:Nat)(nm:List UInt8)(l:List Int):∀r∈(iM b k nm l).1.rules,r.ok=true:=by
 unfold iM;split
 .split
  .unfold mY;split
   .split<;>exact h
   .exact h
  .exact h
 .unfold lA;split
  .split<;>exact h
  .exact h
 .split
  .unfold yP;split
   .exact h
   .split<;>exact h
  .exact h
 .split
  .unfold ti;split
   .split<;>exact h
   .exact h
  .exact h
 .unfold pq;split
  .split
   .exact h
   .split
    .split<;>exact h
    .exact h
  .exact h
 .split
  .unfold DK;split
   .exact h
   .split<;>exact h
  .exact h
 .unfold rO;split
  .split
   .split
    .rename_i h2;intro r hr;rcases aU.1 hr with hr | hr
     .exact h r hr
     .rw[List.mem_singleton.1 hr];exact h2
    .exact h
   .exact h
  .exact h
 .split
  .split<;>exact h
  .exact h
 .unfold oo;split
  .split<;>exact h
  .exact h
 .unfold lP;split
  .exact h
  .split
   .split
    .split
     .split<;>exact h
     .exact h
    .exact h
   .exact h
 .split
  .unfold nT;split
   .exact h
   .split
    .split<;>exact h
    .exact h
  .exact h
 .split
  .unfold tf;split
   .split<;>exact h
   .exact h
  .exact h
 .split
  .unfold mr;split
   .exact h
   .split
    .split<;>exact h
    .exact h
  .exact h
 .exact h
end
section
open Go Go.aw Go.aD Go.cY
variable {J:SK}
theorem abQ{a:List UInt8}{w:Wd}(h:(a,w)∈lM){n:Nat}(hf:oU a n=true):GG w n=true:=by
 have t5:(n:Int).tmod 5=(n:Int)%5:=Int.tmod_eq_emod_of_nonneg (by omega);have t4:(n:Int).tmod 4=(n:Int)%4:=Int.tmod_eq_emod_of_nonneg (by omega);have t2:(n:Int).tmod 2=(n:Int)%2:=Int.tmod_eq_emod_of_nonneg (by omega);have t1:(n:Int).tmod 1=(n:Int)%1:=Int.tmod_eq_emod_of_nonneg (by omega);have t3:0<(n:Int)-3->((n:Int)-3).tmod 2=((n:Int)-3)%2:=λh=>Int.tmod_eq_emod_of_nonneg (by omega)
 have t6:0<(n:Int)-1->((n:Int)-1).tmod 2=((n:Int)-1)%2:=λh=>Int.tmod_eq_emod_of_nonneg (by omega)
 simp only[lM,bz,ak,List.not_mem_nil,or_false]at h;unfold GG;simp only[cq,af,au];rcases h with⟨rfl,rfl⟩ | ⟨rfl,rfl⟩ | ⟨rfl,rfl⟩ | ⟨rfl,rfl⟩ | ⟨rfl,rfl⟩ | ⟨rfl,rfl⟩ | ⟨rfl,rfl⟩ | ⟨rfl,rfl⟩ | ⟨rfl,rfl⟩ | ⟨rfl,rfl⟩ | ⟨rfl,rfl⟩ | ⟨rfl,rfl⟩ | ⟨rfl,rfl⟩<;>
  simp[oU,t5,t4,t2]at hf<;>simp only[Int.sub_zero,t5,t4,t1]<;>(try omega)
theorem Lt{s:List UInt8}:∀{l:List (List UInt8×Wd)},DW s l=none->∀p∈l,s≠p.1
 |[],_,p,hp=>by cases hp
 |(k,v)::l,h,p,hp=>by
  simp only[DW]at h;split at h
  .cases h
  .rename_i hne;rcases bz.1 hp with rfl | hp
   .exact hne
   .exact Lt h p hp
theorem ZO{s:List UInt8}(h:parse s=none):∃x y d,OX s=.cS [.str x,.str y,d,.bool false]/\(d=.bB\/∃l:List Int,d=lF l aQ):=by
 obtain⟨x,y,d,f,h1,h2⟩:=Wx s;cases f with
 |false=>exact⟨x,y,d,h1,h2⟩
 |true =>
  exfalso
  unfold parse at h;unfold OX at h1;cases hsp:dB 32 s with
  |nil=>exact absurd hsp (sP _ _)
  |cons a all =>
  rw[hsp]at h h1;simp only at h h1;have key:∀{nm:List UInt8} {r:List (List UInt8)},I2 a nm r=.cS [.str x,.str y,d,.bool true]->∃ns,mg r=some ns/\oU a ns.length=true:=by
   intro nm r hr;unfold I2 at hr;cases hn:mg r with
   |none=>rw[hn]at hr;simp at hr
   |some ns=>rw[hn]at hr;simp at hr;exact⟨ns,rfl,hr.2.2.2⟩
  have fin:∃ns:List Int,oU a ns.length=true:=by
   split at h1
   .cases all with
    |nil=>simp[Rh]at h1
    |cons n r=>obtain⟨ns,_,h⟩:=key h1;exact⟨ns,h⟩
   .obtain⟨ns,_,h⟩:=key h1;exact⟨ns,h⟩
  cases hw:yj a with
  |none =>
   obtain⟨ns,hf⟩:=fin;have g:=Lt hw;simp only[lM,List.forall_mem_cons,List.not_mem_nil,false_implies,implies_true,and_true]at g;obtain⟨g1,g2,g3,g4,g5,g6,g7,g8,g9,g10,g11,g12,g13⟩:=g;simp[oU,g1,g2,g3,g4,g5,g6,g7,g8,g9,g10,g11,g12,g13]at hf
  |some v =>
   rw[hw]at h;have hm:=Cu hw;have hnm:(a == [109,111,100,101,108] || a == [108,111,103])=v.named:=by
    have hm:=hm;simp only[lM,bz,ak,List.not_mem_nil,or_false]at hm;rcases hm with⟨rfl,rfl⟩ | ⟨rfl,rfl⟩ | ⟨rfl,rfl⟩ | ⟨rfl,rfl⟩ | ⟨rfl,rfl⟩ | ⟨rfl,rfl⟩ | ⟨rfl,rfl⟩ | ⟨rfl,rfl⟩ | ⟨rfl,rfl⟩ | ⟨rfl,rfl⟩ | ⟨rfl,rfl⟩ | ⟨rfl,rfl⟩ | ⟨rfl,rfl⟩<;>rfl
   rw[hnm]at h1;simp only at h;have fin2:∀{nm:List UInt8} {r:List (List UInt8)},qQ v nm r=none->I2 a nm r=.cS [.str x,.str y,d,.bool true]->False:=by
    intro nm r hp hr;obtain⟨ns,hn,hf⟩:=key hr;unfold qQ at hp;rw[hn]at hp;simp only at hp;rw[if_pos (abQ hm hf)]at hp;cases hp
   split at h
   .rename_i hv;rw[if_pos hv]at h1;cases all with
    |nil=>simp[Rh]at h1
    |cons n r=>exact fin2 h h1
   .rename_i hv;rw[if_neg hv]at h1;exact fin2 h h1
theorem Kr.VQ{n:Nat}{b:Bk}(h:Kr n b)(k:Int):Kr n {b with at_:=k }:=⟨h.kv.VQ k,h.rok⟩
theorem aa1{b:Bk}{s:List UInt8}{k:Int}(hs:s.length<=4000)(hp:parse s=none):Cl 26 [.agg (cg b),iI k,.str s] (fU (b,4)) J:=by
 refine an ?_;obtain⟨x,y,d,h1,h2⟩:=ZO hp;have hP:=λJ hJ=>TM (J:=J) (s:=s) (by omega) hJ
 have hcl:=mO (b:=b);rw[h1]at hP;rcases h2 with rfl | ⟨l,rfl⟩<;>simp[hP,hcl,eT,eE,fU]
theorem aeu{n:Nat}{b:Bk}{s:List UInt8}{w:Wd}{nm:List UInt8}{l:List Int}(hK:Kr n b)(hn:n<=1000000)(hs:s.length<=4000)(hp:parse s=some (w,nm,l)):
  Cl 26 [.agg (cg b),iI b.at_,.str s] (fU (iM b w.k nm l)) J:=by
 refine an ?_;obtain⟨_,hfit,hnm,hll⟩:=A7 hp;obtain⟨a,ha,h1⟩:=ZP hp;have hP:=λJ hJ=>TM (J:=J) (s:=s) (by omega) hJ
 rw[h1]at hP;have hcl:=mO (b:=b);have hv:=hK.kv;have htl:=Pn hv.dX;have hbv:b.ready=true->Bv b.aT:=λh=>Bv.of (hv.ready h)
 have hwl:b.aT.ar.length<=8:=by
  cases hr:b.ready with
  |true=>exact(hbv hr).ar
  |false=>rw[hv.ar hr];simp
 have hrl:=hv.rules;have hel:=hv.pr;have hul:=hv.cV;have hml:=hv.ml;have nrdy:¬b.aT.valid=true->b.ready=false:=λh=>by
  cases hr:b.ready with
  |true=>exact absurd (hv.ready hr) h
  |false=>rfl
 simp only[lM,bz,ak,List.not_mem_nil,or_false]at ha;rcases ha with⟨rfl,rfl⟩ | ⟨rfl,rfl⟩ | ⟨rfl,rfl⟩ | ⟨rfl,rfl⟩ | ⟨rfl,rfl⟩ | ⟨rfl,rfl⟩ | ⟨rfl,rfl⟩ | ⟨rfl,rfl⟩ | ⟨rfl,rfl⟩ | ⟨rfl,rfl⟩ | ⟨rfl,rfl⟩ | ⟨rfl,rfl⟩ | ⟨rfl,rfl⟩
 .have hl:l.length=4:=by have h:(l.length:Int)=4:=tL hfit rfl;omega
  obtain⟨x,y,z,k,rfl⟩:=Nw hl;have hX:∀J,Cl 63 [.agg (cg b),.str E6,.bZ 4 [iI x,iI y,iI z,iI k]] (fU (iM b 0 nm [x,y,z,k])) J:=λJ=>XH (by omega) λhz=>hv.ar (nrdy λh=>by have:=(Bv.of h).x;omega)
  simp only[fU,E6]at hX;simp[fO,hP,eT,eE,fU,hX];exact⟨_,kH⟩
 .have hl:=(AU hfit (by decide) (by decide)).2;simp only[Int.sub_zero]at hl;obtain⟨h5,h6⟩:=OD (l.length / 5) (l:=l) (by omega);have hlen:(SN l).length*5=l.length:=by omega
  have hX:∀J,J≠[]->Cl 63 [.agg (cg b),.str I8,lF l aQ] (fU (iM b 1 nm l)) J:=λJ hJ=>by
   try simp only[lF]
   rw[<- h5,<- hlen];exact XN (by omega) (by omega) (λhz=>hv.ar (nrdy λh=>vN (Bv.of h).dX hz)) hJ
  simp only[fU,I8]at hX;simp[fO,hP,eT,eE,fU,hX];exact⟨_,kH⟩
 .have hl:l.length=3:=by have h:(l.length:Int)=3:=tL hfit rfl;omega
  obtain⟨x,y,z,rfl⟩:=Nv hl;have hX:∀J,J≠[]->Cl 63 [.agg (cg b),.str LY,.bZ 3 [iI x,iI y,iI z]] (fU (iM b 2 nm [x,y,z])) J:=λJ hJ=>aet (by omega) (by omega) hv.ar hJ
  simp only[fU,LY]at hX;simp[fO,hP,eT,eE,fU,hX];exact⟨_,kH⟩
 .have hl:l.length=3:=by have h:(l.length:Int)=3:=tL hfit rfl;omega
  obtain⟨x,y,z,rfl⟩:=Nv hl;have hX:∀J,J≠[]->Cl 63 [.agg (cg b),.str E7,.bZ 3 [iI x,iI y,iI z]] (fU (iM b 3 nm [x,y,z])) J:=λJ hJ=>abg (by omega) (by omega) (λhr=>vN (hbv hr).dX) hJ
  simp only[fU,E7]at hX;simp[fO,hP,eT,eE,fU,hX];exact⟨_,kH⟩
 .have hX:∀J,J≠[]->Cl 65 [.agg (cg b),.str nm,lF l aQ] (fU (iM b 4 nm l)) J:=λJ hJ=>XL (m:=⟨nm,l⟩) hv.ready (by omega) hv.wl (by simp;omega) (by simp;omega) hJ
  simp only[fU]at hX;simp[fO,hP,eT,eE,fU,hX];exact⟨_,kH⟩
 .obtain⟨hl1,hl2⟩:=AU hfit (by decide) (by decide);simp only at hl1 hl2;obtain⟨k,l,rfl,hl⟩:=xB (n:=l.length-1) (l:=l) (by omega);simp only[aB]at hl1 hl2 hll;obtain⟨lo,l,rfl,hl⟩:=xB (n:=l.length-1) (l:=l) (by omega);simp only[aB]at hl1 hl2 hll;obtain⟨hi,l,rfl,hl⟩:=xB (n:=l.length-1) (l:=l) (by omega);simp only[aB]at hl1 hl2 hll;obtain⟨h5,h6⟩:=HO (l.length / 2) (l:=l) (by omega);have hlen:(IN l).length*2+3=l.length+1+1+1:=by omega
  have hX:∀J,J≠[]->Cl 66 [.agg (cg b),iI b.at_,.str nm,.bZ (l.length+1+1+1) (iI k::iI lo::iI hi::fM l aQ)] (fU (iM b 5 nm (k::lo::hi::l))) J:=λJ hJ=>by
   try simp only[lF]
   rw[<- h5,<- hlen];exact aew (by omega) (by omega) hv.wl hml (λh=>(Bv.of (hK.valid h)).fv) (λe he=>Fm.of (Bv.of (hK.valid λh=>by rw[h]at he;cases he)).fv (LK (hK.valid λh=>by rw[h]at he;cases he) (hv.fit e he).1)) hJ
  simp only[fU]at hX;simp[fO,hP,eT,eE,fU,hX];exact⟨_,kH⟩
 .have hl:l.length=10:=by have h:(l.length:Int)=10:=tL hfit rfl;omega
  obtain⟨x0,x1,x2,x3,x4,x5,x6,x7,x8,x9,rfl⟩:=Zf hl;have hX:∀J,J≠[]->Cl 64 [.agg (cg b),.str L4,.bZ 10 [iI x0,iI x1,iI x2,iI x3,iI x4,iI x5,iI x6,iI x7,iI x8,iI x9]] (fU (iM b 6 nm [x0,x1,x2,x3,x4,x5,x6,x7,x8,x9])) J:=λJ hJ=>aba (by omega) hJ
  simp only[fU,L4]at hX;simp[fO,hP,eT,eE,fU,hX];exact⟨_,kH⟩
 .have hl:l.length=3:=by have h:(l.length:Int)=3:=tL hfit rfl;omega
  obtain⟨x,y,z,rfl⟩:=Nv hl;have hX:∀J,Cl 64 [.agg (cg b),.str RA,.bZ 3 [iI x,iI y,iI z]] (fU (iM b 7 nm [x,y,z])) J:=λJ=>aa6
  simp only[fU,RA]at hX;simp[fO,hP,eT,eE,fU,hX];exact⟨_,kH⟩
 .have hl:=(AU hfit (by decide) (by decide)).2;simp only[Int.sub_zero]at hl;obtain⟨h5,h6⟩:=OC (l.length / 4) (l:=l) (by omega);have hlen:(SM l).length*4=l.length:=by omega
  have hX:∀J,J≠[]->Cl 64 [.agg (cg b),.str LZ,lF l aQ] (fU (iM b 8 nm l)) J:=λJ hJ=>by
   try simp only[lF]
   rw[<- h5,<- hlen];exact XM (by omega) (by omega) hJ
  simp only[fU,LZ]at hX;simp[fO,hP,eT,eE,fU,hX];exact⟨_,kH⟩
 .have hX:∀J,J≠[]->Cl 67 [.agg (cg b),lF l aQ] (fU (iM b 9 nm l)) J:=λJ hJ=>abe hK (by omega) hJ
  simp only[fU]at hX;simp[fO,hP,eT,eE,fU,hX];exact⟨_,kH⟩
 .have hl:l.length=4:=by have h:(l.length:Int)=4:=tL hfit rfl;omega
  obtain⟨w,i,lo,hi,rfl⟩:=Nw hl;have hX:∀J,J≠[]->Cl 68 [.agg (cg b),iI b.at_,.bZ 4 [iI w,iI i,iI lo,iI hi]] (fU (iM b 10 nm [w,i,lo,hi])) J:=λJ hJ=>aa8 hK hJ
  simp only[fU]at hX;simp[fO,hP,eT,eE,fU,hX];exact⟨_,kH⟩
 .obtain⟨hl1,hl2⟩:=AU hfit (by decide) (by decide);simp only at hl1 hl2;obtain⟨i,l,rfl,hl⟩:=xB (n:=l.length-1) (l:=l) (by omega);simp only[aB]at hl1 hl2 hll;obtain⟨h5,h6⟩:=HO (l.length / 2) (l:=l) (by omega);have hlen:((IN l).map Mi).length*2+1=l.length+1:=by simp;omega
  have hX:∀J,J≠[]->Cl 69 [.agg (cg b),.bZ (l.length+1) (iI i::fM l aQ)] (fU (iM b 11 nm (i::l))) J:=λJ hJ=>by
   rw[<- h5,<- hlen,<- UZ];exact abf (u:=⟨i,(IN l).map Mi⟩) (by simp;omega) (by omega) hJ
  simp only[fU]at hX;simp[fO,hP,eT,eE,fU,hX];exact⟨_,kH⟩
 .have hl:l.length=4:=by have h:(l.length:Int)=4:=tL hfit rfl;omega
  obtain⟨w,lv,u,p,rfl⟩:=Nw hl;have hX:∀J,J≠[]->Cl 70 [.agg (cg b),.bZ 4 [iI w,iI lv,iI u,iI p]] (fU (iM b 12 nm [w,lv,u,p])) J:=λJ hJ=>abc hK hn hJ
  simp only[fU]at hX;simp[fO,hP,eT,eE,fU,hX];exact⟨_,kH⟩
theorem adb{n:Nat}{b:Bk}{s:List UInt8}{k:Int}(hK:Kr n b)(hn:n<=1000000)(hs:s.length<=4000):Cl 26 [.agg (cg b),iI k,.str s] (fU (jj b k s)) J:=by
 unfold jj;cases hp:parse s with
 |none=>exact aa1 hs hp
 |some p =>
  obtain⟨w,nm,l⟩:=p;exact aeu (b:={b with at_:=k }) (hK.VQ k) hn hs hp
theorem Kr.line{n:Nat}{b:Bk}(h:Kr n b){s:List UInt8}(hs:s.length<=4000){k:Int}:Kr (n+1) (jj b k s).1:=by
 refine⟨h.kv.line hs,?_⟩;unfold jj;cases parse s with
 |none=>exact h.rok
 |some p=>exact TE (b:={b with at_:=k }) h.rok _ _ _
theorem Kr.zero:Kr 0 gr:=⟨Kv.zero,λr hr=>by cases hr⟩
theorem Rx:∀{l:List (List UInt8)} {b:Bk} {k:Int} {n:Nat},Kr n b->(∀s∈l,s.length<=4000)->Kr (n+l.length) (jz b k l).1
 |[],b,k,n,h,_=>h
 |s::l,b,k,n,h,hs=>by
  have h2:=Rx (l:=l) (k:=k+1) (h.line (hs s (by simp)) (k:=k)) λx hx=>hs x (by simp[hx])
  simp only[jz,aB];rwa[show n+(l.length+1)=n+1+l.length by omega]
theorem XI:Cl 35 [] (.agg (cg gr)) J:=by
 refine an ?_;simp[cg,gr,nl]
end
section
open Go Go.aw Go.aD Go.cY
theorem Ld:∀{k u:Nat},(sV k u).length<=k
 |0,u=>by simp[sV]
 |k+1,u=>by
  unfold sV;split
  .simp
  .have:=@Ld k (u / 10);simp;omega
theorem lq{n:Int}:(gW n).length<=21:=by
 unfold gW;have h1:=@Ld 20 n.natAbs;have h2:=@Ld 20 n.toNat;split<;>simp<;>omega
def I9:List UInt8:=[116,105,99,107,115]
def FE:List UInt8:=[99,111,108,111,117,114]
def Jb:List UInt8:=[119,101,108,108,115]
def wa:List UInt8:=[109,111,100,101,108]
def RB:List UInt8:=[108,101,102,116]
def Ib:List UInt8:=[115,116,114,117,99,107]
def NK:List UInt8:=[115,97,108,101]
def NL:List UInt8:=[116,105,99,107]
def Ja:List UInt8:=[119,101,108,108]
def NM:List UInt8:=[119,111,114,107]
def I7:List UInt8:=[109,111,110,101,121]
def Ic(l:List (List UInt8)):List UInt8:=yg [32] l++[10]
def FV(lo hi:Int):List UInt8:=gW lo++[46,46]++gW hi
def O1(b:Bk):List UInt8:=Ic [I9,gW b.av.length,FE,gW (fp b),Jb,gW b.aT.ar.length]
def H6(e:ep):List UInt8:=if e.left=true then Ic [wa,e.m.name,RB]else Ic [wa,e.m.name,Ib,gW e.Oi]
def Tc(k:Nat)(x:KT):List UInt8:=Ic [NK,gW k,NL,gW x.tick,Ja,gW x.TD,NM,FV x.wlo x.whi,I7,FV x.mlo x.mhi]
def Rl:Nat->List KT->List UInt8
 |_,[]=>[]
 |k,x::l=>Tc k x++Rl (k+1) l
def Dw(b:Bk):List UInt8:=O1 b++fM b.ai H6++Rl 0 b.dA
def i9(n:Int):Prop := -1000000000000000<=n/\n<=1000000000000000
structure Rp(b:Bk):Prop where
 nm:∀e∈b.ai,e.m.name.length<=4000/\i9 e.Oi
 sl:∀x∈b.dA,i9 x.tick/\i9 x.TD/\i9 x.wlo/\i9 x.whi/\i9 x.mlo/\i9 x.mhi
theorem Rp.zero:Rp gr:=⟨by simp[gr],by simp[gr]⟩
theorem Rp.of{b c:Bk}(h:Rp b)(h1:c.ai=b.ai)(h2:c.dA=b.dA):Rp c:=⟨by rw[h1];exact h.nm,by rw[h2];exact h.sl⟩
theorem Rp.Mc{b:Bk}{lo hi:Int}{val:ck->Int}(h:Rp b)(ha:i9 b.at_):Rp (gM b lo hi val):=by
 refine⟨λe he=>?_,h.sl⟩;obtain⟨j,hj⟩:=List.mem_iff_getElem?.1 he;simp only[gM,Bk.gq,jh]at hj;cases hm:b.ai[j]? with
 |none=>rw[hm]at hj;cases hj
 |some x =>
  rw[hm]at hj;have hx:=h.nm x (ah hm);simp only[aZ,ae]at hj;subst hj;split
  .unfold Go.cY.bD;split
   .exact⟨hx.1,ha⟩
   .exact hx
  .exact hx
theorem ac8{n:Nat}{b:Bk}(h:Rp b)(hk:Kv n b)(ha:i9 b.at_)(k:Nat){nm:List UInt8}(hn:nm.length<=4000)(l:List Int):Rp (iM b k nm l).1:=by
 unfold iM;split
 .split
  .unfold mY;(repeat' split);all_goals exact h.of rfl rfl
  .exact h
 .unfold lA;(repeat' split);all_goals exact h.of rfl rfl
 .split
  .unfold yP;(repeat' split);all_goals exact h.of rfl rfl
  .exact h
 .split
  .unfold ti;(repeat' split);all_goals exact h.of rfl rfl
  .exact h
 .unfold pq;split
  .split
   .exact h
   .split
    .split
     .refine⟨λe he=>?_,h.sl⟩;rcases aU.1 he with he | he
      .exact h.nm e he
      .rw[List.mem_singleton.1 he];exact⟨hn,show i9 0 by unfold i9;omega⟩
     .exact h
    .exact h
  .exact h
 .split
  .unfold DK;(repeat' split)
   .exact h
   .exact h.Mc ha
   .exact h
  .exact h
 .unfold rO;(repeat' split);all_goals exact h.of rfl rfl
 .split
  .split<;>exact h.of rfl rfl
  .exact h
 .unfold oo;(repeat' split);all_goals exact h.of rfl rfl
 .unfold lP;(repeat' split);all_goals exact h.of rfl rfl
 .split
  .unfold nT;(repeat' split)
   .exact h
   .exact h.Mc ha
   .exact h
   .exact h
  .exact h
 .split
  .unfold tf;(repeat' split);all_goals exact h.of rfl rfl
  .exact h
 .split
  .rename_i w lv u p;unfold mr;split
   .exact h
   .split
    .rename_i c2;split
     .rename_i c3;have hc2:=c2;simp only[E8,af]at hc2;obtain⟨k1,k2,k3,k4⟩:=hc2;have i1:=aS.1 k1;have i3:=aS.1 k3;have i4:=aS.1 k4;have hbs:∀x∈oi b w lv u,0<=x/\x<=1000000000:=by
       intro x hx;simp only[oi,bO]at hx;obtain⟨e,he,rfl⟩:=hx;exact Pc (by omega) hk.uok (oT c3 e he)
      obtain⟨⟨m1,m2⟩,m3,m4⟩:=Zn (by omega) hbs;have p1:0<=D6 (oi b w lv u)*p:=bF m1 i4.1;have p2:D6 (oi b w lv u)*p<=1000000000*1000:=cA m2 i4.2 i4.1 (by omega);have p3:0<=D4 (oi b w lv u)*p:=bF m3 i4.1;have p4:D4 (oi b w lv u)*p<=1000000000*1000:=cA m4 i4.2 i4.1 (by omega);have hpl:=(kG hk.pl).1;have hwl:b.aT.ar.length<=8:=by
       cases hr:b.ready with
       |true=>exact(Bv.of (hk.ready hr)).ar
       |false=>rw[hk.ar hr];simp
      refine⟨h.nm,λx hx=>?_⟩;rcases aU.1 hx with hx | hx
      .exact h.sl x hx
      .rw[List.mem_singleton.1 hx];simp only[i9];omega
     .exact h
    .exact h
  .exact h
 .exact h
theorem ace{n:Nat}{b:Bk}(h:Rp b)(hk:Kv n b){k:Int}(ha:i9 k){s:List UInt8}(hs:s.length<=4000):Rp (jj b k s).1:=by
 unfold jj;cases hp:parse s with
 |none=>exact h
 |some p =>
  obtain⟨w,nm,l⟩:=p;exact ac8 (b:={b with at_:=k }) (h.of rfl rfl) (hk.VQ k) ha w.k (by have:=(A7 hp).2.2.1;omega) l
theorem Ry:∀{l:List (List UInt8)} {b:Bk} {k:Nat} {n:Nat},Rp b->Kv n b->(∀s∈l,s.length<=4000)->k+l.length<=1000000->Rp (jz b k l).1
 |[],b,k,n,h,hk,hs,hn=>h
 |s::l,b,k,n,h,hk,hs,hn=>by
  have h1:=hs s (by simp);simp only[aB]at hn;have h2:=Ry (l:=l) (k:=k+1) (ace h hk (k:=k) (by unfold i9;omega) h1) (hk.line h1 (k:=k)) (λx hx=>hs x (by simp[hx])) (by omega);simp only[jz];rw[show((k:Int)+1)=((k+1:Nat):Int)by omega];exact h2
end
section
open Go Go.aw Go.aD Go.cY
variable {J:SK}
def Oh(bs:List UInt8):aw.aF:=.cells 2 [iI 115,iI 5,.str bs]
def O6(L:Nat)(b:Bk)(er:List Int)(bs:List UInt8):List aw.aF:=[.cells b.ai.length (fM b.ai ep.enc),.cells b.rules.length (fM b.rules ba.cQ.enc),.cells b.pr.length (fM b.pr ba.Ev.enc),.cells b.cV.length (fM b.cV oF.enc),
 .cells b.dA.length (fM b.dA KT.enc),.cells b.eR.length (fM b.eR Ea.enc),.cells 0 (b.cells L),.cells er.length (fM er aQ),Oh bs]
theorem TR{b:Bk}{er:List Int}{bs:List UInt8}{ds:List D}{xs:List (List UInt8)}{n:Nat}(hx:xD ds=some xs)(hn:n=xs.length)(h1:n<=1000)(h2:(Ic xs).length+bs.length<=1000000):
  di T (.call false 39 [.bZ n ds,.jg J.length 8] (O6 J.length b er bs::J))=some (.val (.cS []) (O6 J.length b er (bs++Ic xs)::J)):=by
 subst hn;refine eZ rfl rfl rfl (by simp) ?_;have hj:(yg [32] xs).length<=1000000:=by simp only[Ic,aP]at h2;omega
 have h3:bs.length+(yg [32] xs++[10]).length<=1000000:=by simp only[Ic]at h2;omega
 have hJ:∀S,Cl 41 [.bZ xs.length ds,.str [32]] (.str (yg [32] xs)) S:=λS=>zR KY KR (by simp[EU,hx,h1,hj])
 have hW:di T (.call false 40 [.jg J.length 8,.str (yg [32] xs++[10])] ([]::O6 J.length b er bs::J))=some (.val (.cS [iI (yg [32] xs++[10]).length,.mQ]) ([]::O6 J.length b er (bs++(yg [32] xs++[10]))::J)) :=
  zR wi wh (by simp[EU,O6,Oh];simp at h3;omega)
 have hq:(yg [32] xs).length<=4611686018427387903:=by omega
 simp[fO,hJ,hW,Ic,hq]
theorem TO{lo hi:Int}(h1:i9 lo)(h2:i9 hi):Cl 44 [.agg [iI lo,iI hi]] (.str (FV lo hi)) J:=by
 refine an ?_;unfold i9 at h1 h2;have a1:=λJ=>xb (J:=J) (n:=lo) (by omega)
 have a2:=λJ=>xb (J:=J) (n:=hi) (by omega)
 have l1:=@lq lo;have l2:=@lq hi;have⟨q1,q2⟩:(gW lo).length<=4611686018427387902/\(gW lo).length+2+(gW hi).length<=4611686018427387904:=by omega
 simp[fO,a1,a2,FV,q1,q2]
theorem Rk{e:ep}(h:e.m.name.length<=4000):(H6 e).length<=5000:=by
 have hil:=@lq e.Oi;unfold H6;split
 .simp only[Ic,yg,cT,mZ,aP,wa,RB,aB,bd];omega
 .simp only[Ic,yg,cT,mZ,aP,wa,Ib,aB,bd];omega
theorem NG:∀{l:List ep},(∀e∈l,e.m.name.length<=4000)->(fM l H6).length<=l.length*5000
 |[],h=>by simp
 |e::l,h=>by
  have h1:=Rk (h e (by simp));have h2:=NG (l:=l) λx hx=>h x (by simp[hx])
  simp only[cT,aP,aB];omega
theorem Yd{b:Bk}{er:List Int}(hr:Rp b)(hl:b.ai.length<=40):∀(m i:Nat) (bs:List UInt8),i+m=b.ai.length->bs.length+m*5000<=300000 ->
  WL T [5,7,8,9,54,55,56] false oM [(5,.ref J.length 6 0 0),(7,.jg J.length 8),(8,.fn 39 [] [.jg J.length 8]),(9,.fn 42 [] []),(54,.sl J.length 0 b.ai.length 0 b.ai.length 4),(55,iI b.ai.length),(56,iI i)] (O6 J.length b er bs::J)
   (λx e J'=>x=.exit 0/\get e 5=.ref J.length 6 0 0/\get e 7=.jg J.length 8/\get e 8=.fn 39 [] [.jg J.length 8]/\get e 9=.fn 42 [] []/\J'=O6 J.length b er (bs++fM (b.ai.drop i) H6)::J)
 |0,i,bs,hi,hb=>by
  refine aK ?_;obtain rfl:i=b.ai.length:=by omega
  simp
 |m+1,i,bs,hi,hb=>by
  refine aK ?_;have h1:i<b.ai.length:=by omega
  obtain⟨e,he⟩:=gE h1;have a1:=bx (f:=ep.enc) (w:=4) he;have h4:=cj h1;have a2:=dF (f:=ep.enc) (w:=4) b.ai;have a3:4<=b.ai.length*4-i*4:=by omega
  obtain⟨n1,n2⟩:=hr.nm e (ah he);unfold i9 at n2;have hI:=λJ=>xb (J:=J) (n:=e.Oi) (by omega)
  have hil:=@lq e.Oi;rw[bj he,cT,<- bX];have hml:=Rk (hr.nm e (ah he)).1;have ih:=Yd hr hl (er:=er) m (i+1) (bs++H6 e) (by omega) (by simp;omega);have hbs:bs.length<=300000:=by omega
  cases hc:e.left
  .have hS:=TR (J:=J) (b:=b) (er:=er) (bs:=bs) (ds:=[.str wa,.str e.m.name,.str Ib,.str (gW e.Oi)]) (n:=4) rfl rfl (by omega) (by have:=hml;simp only[H6,hc]at this;simp at this ⊢;omega);simp only[H6,hc]at ih;simp only[O6,Oh,Bk.cells,wa,Ib]at hS ih ⊢;simp[h1,a1,a2,a3,h4,hI,hc,hS];exact WL.ts ih λx e J' hh=>by simpa[H6,hc,wa,Ib]using hh
  .have hS:=TR (J:=J) (b:=b) (er:=er) (bs:=bs) (ds:=[.str wa,.str e.m.name,.str RB]) (n:=3) rfl rfl (by omega) (by have:=hml;simp only[H6,hc]at this;simp at this ⊢;omega);simp only[H6,hc]at ih;simp only[O6,Oh,Bk.cells,wa,RB]at hS ih ⊢;simp[h1,a1,a2,a3,h4,hc,hS];exact WL.ts ih λx e J' hh=>by simpa[H6,hc,wa,RB]using hh
theorem Nb{lo hi:Int}:(FV lo hi).length<=44:=by
 have h1:=@lq lo;have h2:=@lq hi;simp only[FV,aP,aB,bd];omega
theorem ZQ{k:Nat}{x:KT}:(Tc k x).length<=400:=by
 have q0:=@lq k;have q1:=@lq x.tick;have q2:=@lq x.TD;have q3:=@Nb x.wlo x.whi;have q4:=@Nb x.mlo x.mhi;simp only[Tc,Ic,yg,cT,mZ,aP,NK,NL,Ja,NM,I7,aB,bd];omega
theorem Ye{b:Bk}{er:List Int}(hr:Rp b)(hl:b.dA.length<=1000):∀(m i:Nat) (bs:List UInt8),i+m=b.dA.length->bs.length+m*400<=900000 ->
  WL T [7,8,9,83,84,85] false oN [(7,.jg J.length 8),(8,.fn 39 [] [.jg J.length 8]),(9,.fn 42 [] []),(83,.sl J.length 4 b.dA.length 0 b.dA.length 6),(84,iI b.dA.length),(85,iI i)] (O6 J.length b er bs::J)
   (λx e J'=>x=.exit 2/\get e 7=.jg J.length 8/\J'=O6 J.length b er (bs++Rl i (b.dA.drop i))::J)
 |0,i,bs,hi,hb=>by
  refine aK ?_;obtain rfl:i=b.dA.length:=by omega
  simp[Rl]
 |m+1,i,bs,hi,hb=>by
  refine aK ?_;have h1:i<b.dA.length:=by omega
  obtain⟨x,he⟩:=gE h1;have a1:=bx (f:=KT.enc) (w:=6) he;have h4:=cj h1;have a2:=dF (f:=KT.enc) (w:=6) b.dA;have a3:6<=b.dA.length*6-i*6:=by omega
  obtain⟨n1,n2,n3,n4,n5,n6⟩:=hr.sl x (ah he);have hR1:=λJ=>TO (J:=J) n3 n4
  have hR2:=λJ=>TO (J:=J) n5 n6
  unfold i9 at n1 n2;have hI0:=λJ=>xb (J:=J) (n:=(i:Int)) (by omega)
  have hI1:=λJ=>xb (J:=J) (n:=x.tick) (by omega)
  have hI2:=λJ=>xb (J:=J) (n:=x.TD) (by omega)
  rw[bj he,Rl,<- bX];have hml:=ZQ (k:=i) (x:=x);have ih:=Ye hr hl (er:=er) m (i+1) (bs++Tc i x) (by omega) (by simp;omega);have hbs:bs.length<=900000:=by omega
  have hS:=TR (J:=J) (b:=b) (er:=er) (bs:=bs) (ds:=[.str NK,.str (gW i),.str NL,.str (gW x.tick),.str Ja,.str (gW x.TD),.str NM,.str (FV x.wlo x.whi),.str I7,.str (FV x.mlo x.mhi)]) (xs:=[NK,gW i,NL,gW x.tick,Ja,gW x.TD,NM,FV x.wlo x.whi,I7,FV x.mlo x.mhi]) (n:=10) rfl rfl (by omega) (by have:=hml;simp only[Tc]at this;omega);simp only[Tc]at ih;simp only[O6,Oh,Bk.cells,NK,NL,Ja,NM,I7]at hS ih ⊢;simp[h1,a1,a2,a3,h4,hI0,hI1,hI2,hR1,hR2,hS];exact WL.ts ih λx e J' hh=>by simpa[Tc,NK,NL,Ja,NM,I7]using hh
theorem Vw{b:Bk}{L:Nat}{G:List aw.aF}{S:SK}(h1:b.rules.length<=1000000)(h2:b.pr.length<=1000000)(h3:∀e∈b.pr,e.sp.length<=1000000)(hs:eK S L=some G)(hG1:G[1]?=some (.cells b.rules.length (fM b.rules ba.cQ.enc)))(hG2:G[2]?=some (.cells b.pr.length (fM b.pr ba.Ev.enc)))(hc6:G[6]?=some (.cells 0 (b.cells L))):
  Cl 43 [.ref L 6 0 0] (.int .u8 (fp b)) S:=by
 refine an ?_;have hlt:=z8 hs;have hne:¬S.length=L:=by omega
 have h:=PA (J:=[]::S) (lv:=L) (G:=G) (R:=b.rules) (l:=b.pr) (now:=b.av.length) (by simp[eK,hne,hs]) hG1 hG2 (by omega) (by omega) (λe he=>by have:=h3 e he;omega);unfold fp;by_cases hc:ba.kF b.rules b.pr b.av.length=0
 .rw[if_pos hc]at h;simp[hne,hs,hc6,Bk.cells,h,hc]
 .rw[if_neg hc]at h;simp[hne,hs,hc6,Bk.cells,h,hc]
theorem mpB{S:SK}{t e:Nat}:DY S (.Mp t e) []=(fT S (.cells 2 [iI (t:Nat),iI (e:Nat),.str []])).map λx=>(.jg x.1 x.2.1,x.2.2):=rfl
theorem Xi{lines:List (List UInt8)}(hl:GQ lines):Cl 17 [lF lines bD] (.cS [.str (Dw (fE lines).1),iI 0]) J:=by
 refine an ?_;have hC:=λS=>BZ (J:=S) (l:=lines) (by have:=hl.1;omega)
 have hok:okB lines=true:=Ft.2 hl;simp only[hok,if_true]at hC;have hRun:=XP (J:=J) (lines:=lines) hl;have hK:=H9 (l:=lines) (k:=0) Kv.zero hl.2;have hP:=Ry (l:=lines) (k:=0) Rp.zero Kv.zero hl.2 (by have:=hl.1;omega);rw[show(jz gr ((0:Nat):Int) lines).1=(fE lines).1 from rfl]at hP;rw[show(jz gr 0 lines).1=(fE lines).1 from rfl]at hK;generalize (fE lines).1=b at hRun hK hP ⊢;generalize (fE lines).2=er at hRun;have hpl:=(kG hK.pl).1;have hsl:b.dA.length<=100:=by have:=hK.dA;have:=hl.1;omega
 have hwl:b.aT.ar.length<=8:=by
  cases hr:b.ready with
  |true=>exact(Bv.of (hK.ready hr)).ar
  |false=>rw[hK.ar hr];simp
 have hcb:0<=fp b/\fp b<=255:=by have:=@Fj b;omega
 have hI0:=λJ=>xb (J:=J) (n:=(b.av.length:Int)) (by omega)
 have hI1:=λJ=>xb (J:=J) (n:=fp b) (by omega)
 have hI2:=λJ=>xb (J:=J) (n:=(b.aT.ar.length:Int)) (by omega)
 have hcol:=Vw (b:=b) (L:=J.length) (G:=O6 J.length b er []) (S:=O6 J.length b er []::J) (by have:=hK.rules;omega) (by have:=hK.pr;omega) (λe he=>by have:=hK.L9 e he;simp only[ba.Ev.ok,af,ba.aS]at this;omega) (by simp) rfl rfl rfl;have hhl:(O1 b).length<=1000:=by
  have q0:=@lq b.av.length;have q1:=@lq (fp b);have q2:=@lq b.aT.ar.length;simp only[O1,Ic,yg,cT,mZ,aP,I9,FE,Jb,aB,bd];omega
 have hS:=TR (J:=J) (b:=b) (er:=er) (bs:=[]) (ds:=[.str I9,.str (gW b.av.length),.str FE,.str (gW (fp b)),.str Jb,.str (gW b.aT.ar.length)]) (xs:=[I9,gW b.av.length,FE,gW (fp b),Jb,gW b.aT.ar.length]) (n:=6) rfl rfl (by omega) (by have:=hhl;simp only[O1]at this;simp;omega);have hM:=Yd (J:=J) (er:=er) hP hK.ml b.ai.length 0 (O1 b) (by omega) (by have:=hK.ml;omega);have hcw:=bV (n:=fp b);have n1:=l7 (f:=pE) b.av;have n2:=l7 (f:=bN.enc) b.aT.ar;simp only[O6,Oh,Bk.bC,Bk.cells,I9,FE,Jb]at hS hM hRun hcol;simp[hC,hRun,mpB,hI0,hI1,hI2,hcol,hcw,n1,n2,hS];refine WL.to hM (by simp) (by simp[O1,I9,FE,Jb]) ?_;rintro x e J' ⟨rfl,g5,g7,g8,g9,rfl⟩;have hML:(O1 b++fM b.ai H6).length<=250000:=by
  have h1:=NG (l:=b.ai) λe he=>(hP.nm e he).1
  have h2:=hK.ml;simp only[aP];omega
 have hT:=Ye (J:=J) (er:=er) hP (by omega) b.dA.length 0 (O1 b++fM b.ai H6) (by omega) (by omega);simp only[O6,Oh,Bk.cells]at hT;simp[g5,g7,g8,g9];refine WL.ts hT ?_;rintro x e J' ⟨rfl,g7,rfl⟩;have hne:Dw b≠[]:=by
  intro h;have:=congrArg List.length h;simp[Dw,O1,Ic]at this
 have hB:Cl 45 [.jg J.length 8] (.str (Dw b)) (O6 J.length b er (Dw b)::J):=zR Bn Bj (by simp[EU,O6,Oh,hne]);simp only[Dw,O6,Oh,Bk.cells,bX]at hB ⊢;rw[az];simp[g7,hB]
theorem ae4{a:List aw.aF}{n:Nat}{x:aw.aF}(h:a.length=n):(a++[x])[n]?=some x:=by subst h;simp
theorem abG{a:List aw.aF}{n:Nat}{x y:aw.aF}(h:a.length=n):(a++[x]).set n y=a++[y]:=by subst h;simp
theorem QJ{A:List aw.aF}{b:Bk}{er:List Int}{n:Nat}(hn:er.length=n):∃s,cK J.length 16 (.cS [.ref (J.length+1) 6 0 0,.sl (J.length+1) 7 n 0 n 1]) (b.bC (J.length+1) er::A::J)=(.cS [.undef,.bZ n (fM er aQ)],s::A::J):=by
 subst hn;rw[pw (by rfl) (by omega)];have h1:∀S,cK J.length 15 (.ref (J.length+1) 6 0 0) S=(.undef,S):=λS=>by unfold cK;simp[D.clean]
 have hk:=kb (J:=A::J) (n:=15) (f:=aQ) (w:=1) (l:=er) (j:=7) (v:=er.length) (bs:=b.bC (J.length+1) er) (by decide) (λ_=>rfl) (λx=>by simp[aQ,D.clean]) (by simp) rfl;simp only[aB,Nat.add_sub_cancel]at hk;simp only[jD,kq,Nat.reduceSub,h1,hk];exact⟨_,rfl⟩
theorem Yi{lines:List (List UInt8)}{A:List aw.aF}{cs:List D}{j v:Nat}(hA:A[j]?=some (.cells v cs))(hcl:lines.length<=cs.length)(hcs:∀i s,lines[i]?=some s->∃r,cs.drop i=.str s::r)(hl:ZB lines):∀(m i:Nat) (b:Bk) (er:List Int),i+m=lines.length->er.length=i->Kv i b ->
  WL T [4,5,12,13,14] false mD [(4,.ref (J.length+1) 6 0 0),(5,.sl (J.length+1) 7 i 0 i 1),(12,.sl J.length j v 0 lines.length 1),(13,iI lines.length),(14,iI i)] (b.bC (J.length+1) er::A::J)
   (λx e J'=>x=.exit 0/\get e 4=.ref (J.length+1) 6 0 0/\get e 5=.sl (J.length+1) 7 lines.length 0 lines.length 1/\J'=(jz b i (lines.drop i)).1.bC (J.length+1) (er++(jz b i (lines.drop i)).2)::A::J)
 |0,i,b,er,hi,he,hK=>by
  refine aK ?_;obtain rfl:i=lines.length:=by omega
  have h2:lines.drop lines.length=[]:=ec;simp[h2,jz]
 |m+1,i,b,er,hi,he,hK=>by
  refine aK ?_;have h1:i<lines.length:=by omega
  obtain⟨s,hs⟩:=gE h1;obtain⟨r,hdr⟩:=hcs i s hs;have h4:=cj h1 (by have:=hl.1;omega);have hsl:=hl.2 s (ah hs);have hn:=hl.1;have hC:=N3 (J:=A::J) (b:=b) (er:=er) (s:=s) (k:=i) hK (by omega) hsl;have hK':=hK.line hsl (k:=i);rw[bj hs];simp only[jz];generalize jj b i s=r at hC hK' ⊢;obtain⟨b',e⟩:=r;have ih:=Yi hA hcl hcs hl m (i+1) b' (er++[e]) (by omega) (by simp[he]) hK';have hel:=nN er;have het:(fM er aQ).take i=fM er aQ:=cZ;have hr:(i+1)*8<=room:=by unfold room;omega
  simp only[Bk.bC,Bk.cells,he,aB]at hC;simp[h1,hA,hdr,h4,hC,Bk.bC,Bk.cells,hr,hel,het,he];refine WL.to ih (by simp) (by simp[Bk.bC,Bk.cells,he]) λx e' J' hh=>?_
  have e1:((i+1:Nat):Int)=(i:Int)+1:=by omega
  rw[e1]at hh;simpa[Bk.bC,Bk.cells]using hh
theorem aez{lines:List (List UInt8)}{A:List aw.aF}{cs:List D}{j v:Nat}(hA:A[j]?=some (.cells v cs))(hcl:lines.length<=cs.length)(hcs:∀i s,lines[i]?=some s->∃r,cs.drop i=.str s::r)(hl:ZB lines):Cl 32 [.sl J.length j v 0 lines.length 1] (.cS [.undef,.bZ lines.length (fM (fE lines).2 aQ)]) (A::J):=by
 refine an ?_;have hL:=Yi (J:=J) hA hcl hcs hl lines.length 0 gr [] (by omega) rfl Kv.zero;rw[az]at hL;simp;refine WL.to hL (by simp) (by simp[Bk.bC,Bk.cells,gr,nl]) ?_;rintro x e J' ⟨rfl,g4,g5,rfl⟩;simp[g4,g5,fE];exact QJ (A:=A) (by rw[yG])
theorem aey{lines:List (List UInt8)}(hl:ZB lines)(hJ:J≠[]):Cl 32 [lF lines bD] (.cS [.undef,.bZ lines.length (fM (fE lines).2 aQ)]) J:=by
 obtain⟨A,J,rfl⟩:∃A s,J=A::s:=by cases J with | nil=>exact absurd rfl hJ | cons A s=>exact⟨A,s,rfl⟩
 refine an ?_;have hL:=Sp (J:=A::J) hl lines.length 0 gr [] (by omega) rfl Kv.zero;rw[az]at hL;simp only[aB]at hL;simp;refine WL.to hL (by simp) (by simp[Bk.bC,Bk.cells,gr,nl]) ?_;rintro x e J' ⟨rfl,g4,g5,rfl⟩;simp[g4,g5,fE];exact QJ (A:=A) (by rw[yG])
def FM(w wo:List Int):Nat->Nat->List Int
 |_,0=>[]
 |i,m+1=>(if w[i]?=wo[i-1]? then []else [(i:Int)])++FM w wo (i+1) m
theorem X5{lines:List (List UInt8)}{w wo:List Int}{A:List aw.aF}{n:Nat}(hn:lines.length=n)(hw:w.length=n)(hwo:wo.length+1=n)(hl:n<=100){q:Nat}(hq:A.length=q):∀(m i:Nat) (acc:List Int),i+m=n->1<=i->acc.length+m<=100 ->
  WL T [0,8,10,11,12] false nU [(0,.bZ n (fM lines bD)),(8,.bZ n (fM w aQ)),(10,.bZ (n-1) (fM wo aQ)),(11,.sl J.length q acc.length 0 acc.length 1),(12,iI i)] ((A++[.cells acc.length (fM acc aQ)])::J)
   (λx e J'=>x=.exit 0/\get e 11=.sl J.length q (acc++FM w wo i m).length 0 (acc++FM w wo i m).length 1/\J'=(A++[.cells (acc++FM w wo i m).length (fM (acc++FM w wo i m) aQ)])::J)
 |0,i,acc,hi,h0,ha=>by
  refine aK ?_;obtain rfl:i=n:=by omega
  simp[FM]
 |m+1,i,acc,hi,h0,ha=>by
  refine aK ?_;have⟨h1,h1'⟩:i<n/\i-1<n-1:=by omega
  obtain⟨x,hx⟩:∃s,w[i]?=some s:=gE (by omega);obtain⟨y,hy⟩:∃s,wo[i-1]?=some s:=⟨_,aE (by omega)⟩;have a1:=bx (f:=aQ) (w:=1) hx;have a2:=bx (f:=aQ) (w:=1) hy;simp only[aQ,bR]at a1 a2;have h4:=cj h1;have w1:IntKind.i64.wrap ((i:Int)-1)=((i-1:Nat):Int):=(bV).trans (by omega);have fl:=nN acc;have tk:(fM acc aQ).take acc.length=fM acc aQ:=cZ;have hr:(acc.length+1)*8<=room:=by unfold room;omega
  have b1:=λx=>ae4 (x:=x) hq
  have b2:=λx y=>abG (x:=x) (y:=y) hq
  by_cases hc:x=y
  .subst hc;have hd:FM w wo i (m+1)=FM w wo (i+1) m:=by rw[FM,hx,hy];simp
   rw[hd];simp[h1,h1',a1,a2,h4,w1];exact WL.tg (X5 hn hw hwo hl hq m (i+1) acc (by omega) (by omega) (by omega)) λx e J' hh=>by simpa using hh
  .have hd:FM w wo i (m+1)=(i:Int)::FM w wo (i+1) m:=by rw[FM,hx,hy];simp[hc]
   rw[hd,show acc++(i:Int)::FM w wo (i+1) m=(acc++[(i:Int)])++FM w wo (i+1) m by simp];simp[h1,h1',a1,a2,h4,w1,hc,b1,b2,fl,tk,hr];exact WL.ts (X5 hn hw hwo hl hq m (i+1) (acc++[(i:Int)]) (by omega) (by omega) (by simp;omega)) λx e J' hh=>by simpa using hh
def He(l:List (List UInt8))(k:Nat):List (List UInt8):=l.take k++l.drop (k+1)
def Ki(l:List (List UInt8))(k:Nat):List Int:=FM (fE l).2 (fE (He l k)).2 (k+1) (l.length-(k+1))
theorem CJ(l:List (List UInt8)):fM l bD=l.map .str:=by
 induction l with
 |nil=>rfl
 |cons a l ih=>rw[cT,ih];rfl
theorem Tx(l:List (List UInt8)):xD (l.map .str)=some l:=by
 induction l with
 |nil=>rfl
 |cons a l ih=>simp[xD,ih]
theorem Xp{l:List (List UInt8)}(hne:l≠[])(hl:l.length<=1000000):di T (.call true 38 [lF l bD] ([]::J)) =
  some (.val (.sl J.length 0 1 0 l.length 1) ([.cells 1 (fM l bD)]::J)):=by
 refine mh rfl rfl rfl ?_;have h7:l.length*16<=room:=by unfold room;omega
 have h8:(fM l bD).length=l.length:=by rw[CJ];simp
 simp[hne,h7,h8]
theorem Vk{lines:List (List UInt8)}{k:Nat}(hl:GQ lines)(hk:k<lines.length)(hJ:J≠[]):Cl 14 [lF lines bD,iI k] (.cS [lF (Ki lines k) aQ,iI 0]) J:=by
 refine an ?_;have hC:=λS=>BZ (J:=S) (l:=lines) (by have:=hl.1;omega)
 have hok:okB lines=true:=Ft.2 hl;simp only[hok,if_true]at hC;have hlen:=hl.1;have hRun:=λS hS=>aey (J:=S) (lines:=lines) hl hS
 have hne:lines≠[]:=λh=>by rw[h]at hk;simp at hk
 have hCl:=Xp (J:=J) hne (by omega);have hcl:(He lines k).length=lines.length-1:=by simp[He];omega
 have hck:GQ (He lines k):=⟨by omega,λs hs=>by
  rcases aU.1 hs with h | h
  .exact hl.2 s (dj h)
  .exact hl.2 s (dH h)⟩
 have hD:di T (.call false 37 [.sl J.length 0 1 0 lines.length 1,iI k,iI ((k:Int)+1)] ([.cells 1 (fM lines bD)]::J)) =
   some (.val (.sl J.length 0 1 0 (lines.length-1) 1) ([.cells 1 ((He lines k).map .str++[.str []])]::J)):=zR CT CP (by
  have⟨q1,q2,q3,q4,q5,q6⟩:¬lines.length=0/\lines.length<=1000000/\(k:Int)+1<=lines.length/\((k:Int)+1).toNat-k=1/\((k:Int)+1).toNat=k+1/\(k:Int)<=(k:Int)+1:=by omega
  have e1:(lines.map D.str).take lines.length=lines.map D.str:=aW (by simp);have e2:(lines.map D.str).drop lines.length=[]:=bH (by simp);have e3:=Tx lines;simp[EU,CJ,q1,q2,q3,q5,q6,e1,e2,e3,Bs,He,-List.map_take,-List.map_drop])
 have hS:=λA hA=>aez (J:=J) (lines:=He lines k) (A:=A) (cs:=(He lines k).map .str++[.str []]) (j:=0) (v:=1) hA (by simp) (λi s hi=>by
  have h1:=(aA.1 hi).1;rw[List.drop_append_of_le_length (by simp;omega),<- List.map_drop,bj hi];exact⟨_,rfl⟩) hck
 have hS2:=hS [.cells 1 ((He lines k).map .str++[.str []])] rfl;rw[hcl]at hS2;have hin:bI (k:Int) 0 ((lines.length:Int)-1)=true:=aS.2 ⟨by omega,by omega⟩;have w1:=bV (n:=(lines.length:Int)-1);have w2:=bV (n:=(k:Int)+1);have hw:=@yG lines gr 0;have hwo:=@yG (He lines k) gr 0;rw[hcl]at hwo;have hL:=X5 (J:=J) (lines:=lines) (w:=(fE lines).2) (wo:=(fE (He lines k)).2) (A:=[.cells 1 ((He lines k).map .str++[.str []])]) rfl hw (by show(jz gr 0 (He lines k)).2.length+1=_;omega) (by omega) (q:=1) rfl (lines.length-(k+1)) (k+1) [] (by omega) (by omega) (by simp;omega);simp only[List.nil_append]at hL;rw[show FM (fE lines).2 (fE (He lines k)).2 (k+1) (lines.length-(k+1))=Ki lines k from rfl]at hL;generalize Ki lines k=q at hL ⊢;simp[hC,eU,hRun,hCl,hD,hS2,hin,w1,w2];refine WL.ts hL ?_;rintro x e J' ⟨rfl,g11,rfl⟩;simp[g11];exact⟨_,YX (kb (n:=15) (f:=aQ) (w:=1) (l:=q) (by decide) (λ_=>rfl) (λ_=>by simp[aQ,D.clean]) hJ (by simp))⟩
end
section
open Go Go.aw Go.aD Go.cY
def VM(b b':Bk):Prop:=∀(i:Nat) (e:ep),b.ai[i]?=some e->∃e',b'.ai[i]?=some e'/\e'.m=e.m/\(e.left=false->e'=e)
theorem VM.refl(b:Bk):VM b b:=λi e h=>⟨e,h,rfl,λ_=>rfl⟩
theorem VM.trans{a b c:Bk}(h1:VM a b)(h2:VM b c):VM a c:=by
 intro i e h;obtain⟨e1,k1,k2,k3⟩:=h1 i e h;obtain⟨e2,j1,j2,j3⟩:=h2 i e1 k1;refine⟨e2,j1,j2.trans k2,λhl=>?_⟩;obtain rfl:=k3 hl;exact j3 hl
end
section
open Go Go.aw Go.aD Go.cY
variable {J:SK}
theorem LA{α:Type}{p:α->Bool}:∀(l:List α),(idxOf p l = -1/\∀x∈l,p x=false)\/∃(k:Nat) (x:α),idxOf p l=k/\l[k]?=some x/\p x=true
 |[] => .inl ⟨rfl,by simp⟩
 |a::l=>by
  cases ha:p a with
  |true=>exact .inr ⟨0,a,by simp[idxOf,ha],rfl,ha⟩
  |false =>
   rcases LA (p:=p) l with⟨h1,h2⟩ | ⟨k,x,h1,h2,h3⟩
   .refine .inl ⟨by simp[idxOf,ha,h1],λx hx=>?_⟩;rcases bz.1 hx with rfl | hx
    .exact ha
    .exact h2 x hx
   .refine .inr ⟨k+1,x,?_,by simpa using h2,h3⟩;have:¬(k:Int)<0:=by omega
    simp[idxOf,ha,h1,this]
def RU:Ea:=⟨0,0,0,0⟩
def YT(b:Bk)(nm:List UInt8):D :=
 if idxOf (λe=>e.m.name == nm) b.ai<0 then .cS [.agg RU.enc,iI 5]
 else match b.ai[(idxOf (λe=>e.m.name == nm) b.ai).toNat]?,b.eR[(idxOf (λe=>e.m.name == nm) b.ai).toNat]? with
  |some e,some v=>if e.left then .cS [.agg RU.enc,.int .i64 7]else .cS [.agg v.enc,.int .i64 0]
  |_,_ => .undef
theorem aaA{e:ep}{nm:List UInt8}:Cl 34 [.agg e.enc,.bq [.str nm]] (.bool (e.m.name == nm)) J:=by
 refine an ?_;simp[fO]
theorem VA{b:Bk}{er:List Int}{nm:List UInt8}{S:SK}(hl:b.ai.length<=1000000)(hs:eK S J.length=some (b.bC J.length er)):
  Cl 33 [.sl J.length 0 b.ai.length 0 b.ai.length 4,.fn 34 [] [.bq [.str nm]]] (iI (idxOf (λe=>e.m.name == nm) b.ai)) S :=
 LC (enc:=ep.enc) (w:=4) (λ_=>rfl) (F:=b.bC J.length er) (bi:=0) (v:=b.ai.length) (l:=b.ai) rfl (by simp[Bk.bC]) (by omega)
  ⟨rfl,rfl,λe _ J=>by rw[oI];have h:=aaA (J:=J) (e:=e) (nm:=nm);have h':di T (.call false 34 ([]++[.agg e.enc]++[.bq [.str nm]]) J)=_:=h;rw[h'];rfl⟩ hs
theorem aea{lines:List (List UInt8)}{nm:List UInt8}(hl:GQ lines)(hJ:J≠[]):Cl 10 [lF lines bD,.str nm] (YT (fE lines).1 nm) J:=by
 refine an ?_;have hC:=λS=>BZ (J:=S) (l:=lines) (by have:=hl.1;omega)
 have hok:okB lines=true:=Ft.2 hl;simp only[hok,if_true]at hC;have hR:=XP (J:=J) (lines:=lines) hl;have hK:=H9 (l:=lines) (k:=0) Kv.zero hl.2;rw[show(jz gr 0 lines).1=(fE lines).1 from rfl]at hK;have hml:=hK.ml;have hwl:=hK.wl;generalize fE lines=r at hR hml hwl ⊢;obtain⟨b,er⟩:=r;simp only at hR hml hwl ⊢;have hI:=VA (J:=J) (b:=b) (er:=er) (nm:=nm) (S:=b.bC J.length er::J) (by omega) (by simp[eK]);simp only[Bk.bC,Bk.cells]at hR hI;unfold YT;rcases LA (p:=λe:ep=>e.m.name == nm) b.ai with⟨h1,_⟩ | ⟨k,e,h1,h2,h3⟩
 .rw[h1]at hI ⊢;simp[hC,hR,hI,RU]
 .rw[h1]at hI ⊢;have hk:=(aA.1 h2).1;obtain⟨v,hv⟩:∃v,b.eR[k]?=some v:=gE (by omega);have a1:=bx (f:=ep.enc) (w:=4) h2;have a2:=bx (f:=Ea.enc) (w:=4) hv;have b1:=dF (f:=ep.enc) (w:=4) b.ai;have b2:=dF (f:=Ea.enc) (w:=4) b.eR;have⟨c1,c2⟩:4<=(fM b.ai ep.enc).length-k*4/\4<=(fM b.eR Ea.enc).length-k*4:=by omega
  have d1:=mM (f:=ep.enc) (w:=4) (λ_=>rfl) h2;have⟨n0,n1,n2,hkw⟩:¬(k:Int)<0/\(k:Int)<b.ai.length/\(k:Int)<b.eR.length/\k<b.eR.length:=by omega
  simp only[ep.enc,Ea.enc]at a1 a2 d1;have d3:(fM b.ai ep.enc).drop (k*4+2)=.bool e.left::iI e.Oi::(fM b.ai ep.enc).drop (k*4+4):=by
   have:=congrArg (List.drop 2) d1;simpa[ep.enc,cC]using this
  rw[if_neg n0,Int.toNat_natCast,h2,hv];cases hle:e.left
  .simp[hC,hR,hI,RU,a2,d3,n0,n1,n2,hle,c2]
  .simp[hC,hR,hI,RU,d3,n0,n1,hle]
