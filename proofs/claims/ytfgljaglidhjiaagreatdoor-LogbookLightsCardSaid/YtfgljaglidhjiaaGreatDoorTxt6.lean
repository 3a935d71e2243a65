import Derived.Test.YtfgljaglidhjiaaGreatDoorTxt5
import Derived.Test.YtfgljaglidhjiaaGreatDoorTxt2
import Derived.Test.YtfgljaglidhjiaaGreatDoorBase20
import Derived.Test.YtfgljaglidhjiaaGreatDoorTab
import Derived.ProofKit
set_option linter.all false
namespace Go.Proofs.YtfgljaglidhjiaaGreatDoor
open List(length_flatMap map_take)
open Go Go.Abs Go.Rock Go.Book
variable {σ:SK}
def sy:Bk→Int→List (List UInt8)→Bk×List Int
 |b,_,[]=>(b,[])
 |b,k,s::l=>((sy (oe b k s).1 (k+1) l).1,(oe b k s).2::(sy (oe b k s).1 (k+1) l).2)
def mD(l:List (List UInt8)):Bk×List Int:=sy rp 0 l
theorem z6:∀{l:List (List UInt8)} {b:Bk} {k:Int},(sy b k l).2.length=l.length
 |[],_,_=>rfl
 |s::l,b,k=>by simp[sy,z6 (l:=l)]
def okL(l:List (List UInt8)):Prop:=l.length≤100∧∀s∈l,s.length≤4000
theorem Kk:∀{l:List (List UInt8)} {b:Bk} {k:Int} {n:Nat},Kv n b→(∀s∈l,s.length≤4000)→Kv (n+l.length) (sy b k l).1
 |[],b,k,n,h,_=>h
 |s::l,b,k,n,h,hs=>by
  have h1:=h.line (hs s (by simp)) (k:=k);have h2:=Kk (l:=l) (k:=k+1) h1 fun x hx=>hs x (by simp[hx])
  simp only[sy,aL];rwa[show n+(l.length+1)=n+1+l.length by omega]
theorem V9{lines:List (List UInt8)}(hl:okL lines):∀(m i:Nat) (b:Bk) (er:List Int),i+m=lines.length→er.length=i→Kv i b →
  WL T [4,5,12,13,14] false rC [(4,.ref σ.length 6 0 0),(5,.sl σ.length 7 i 0 i 1),(12,.aI lines.length (lines.flatMap eA)),(13,.int .i64 lines.length),(14,.int .i64 i)] (b.bA σ.length er::σ)
   (fun x e σ'=>x=.exit 0∧get e 4=.ref σ.length 6 0 0∧get e 5=.sl σ.length 7 lines.length 0 lines.length 1∧σ'=(sy b i (lines.drop i)).1.bA σ.length (er++(sy b i (lines.drop i)).2)::σ)
 |0,i,b,er,hi,he,hK=>by
  refine aO rC.eq_1 ?_;obtain rfl:i=lines.length:=by omega
  have h2:lines.drop lines.length=[]:=aB (by omega);simp[-length_flatMap,-map_take,h2,sy]
 |m+1,i,b,er,hi,he,hK=>by
  refine aO rC.eq_1 ?_;have h1:i<lines.length:=by omega
  obtain⟨s,hs⟩:=gE h1;have a1:=bS (f:=eA) (w:=1) (fun _=>rfl) hs;simp only[eA,dL]at a1;have h4:=gq h1 (by have:=hl.1;omega);have hsl:=hl.2 s (aj hs);have hn:=hl.1;have hC:=apy (σ:=σ) (b:=b) (er:=er) (s:=s) (k:=i) hK (by omega) hsl;have hK':=hK.line hsl (k:=i);rw[cM hs];simp only[sy];generalize oe b i s=r at hC hK' ⊢;obtain⟨b',e⟩:=r;have ih:=V9 hl m (i+1) b' (er++[e]) (by omega) (by simp[he]) hK';have hel:=CF er;have het:(er.flatMap aT).take i=er.flatMap aT:=ak (by omega);have hr:(i+1)*8≤room:=by unfold room;omega
  simp only[Bk.bA,Bk.cells,he]at hC;simp[-length_flatMap,-map_take,h1,a1,h4,hC,Bk.bA,Bk.cells,hr,hel,het,he];refine WL.to ih (by simp) (by simp[Bk.bA,Bk.cells,he]) fun x e' σ' hh=>?_
  have e1:((i+1:Nat):Int)=(i:Int)+1:=by omega
  rw[e1]at hh;simpa[Bk.bA,Bk.cells]using hh
theorem apE{lines:List (List UInt8)}(hl:okL lines):bx T (.call true jQ [.aI lines.length (lines.flatMap eA)] ([]::σ)) =
  some (.val (.dM [.ref σ.length 6 0 0,.sl σ.length 7 lines.length 0 lines.length 1]) ((mD lines).1.bA σ.length (mD lines).2::σ)):=by
 refine wO KJ vo.eq_1 rfl ?_;have hL:=V9 (σ:=σ) hl lines.length 0 rp [] (by omega) rfl Kv.zero;rw[aP]at hL;simp[-length_flatMap,-map_take];refine WL.to hL (by simp) (by simp[Bk.bA,Bk.cells,rp,nl]) ?_;rintro x e σ' ⟨rfl,g4,g5,rfl⟩;simp[-length_flatMap,-map_take,g4,g5,mD]
end Go.Proofs.YtfgljaglidhjiaaGreatDoor
namespace Go.Proofs.YtfgljaglidhjiaaGreatDoor
open List(length_flatMap map_take)
open Go Go.Abs Go.Rock Go.Book
def z0(e:nJ):nJ:={e with by_:=0 }
def nmB(b:Bk):Bk:={b with av:=b.av.map z0,pj:=[],at_:=0 }
theorem atV(l:List nJ):(l.map z0).map z0=l.map z0:=by
 rw[List.map_map];rfl
theorem ayu(b:Bk):nmB (nmB b)=nmB b:=by
 simp only[nmB,atV]
def SmQ(x y:Bk×Int):Prop:=x.2=y.2∧nmB x.1=nmB y.1
theorem SmQ.ite{c:Prop}{_:Decidable c}{x y x' y':Bk×Int}(h1:c→SmQ x x')(h2:¬c→SmQ y y'):SmQ (if c then x else y) (if c then x' else y'):=by
 by_cases h:c
 ·rw[if_pos h,if_pos h];exact h1 h
 ·rw[if_neg h,if_neg h];exact h2 h
theorem SmQ.no(b:Bk)(e:Int):SmQ (b,e) (nmB b,e):=⟨rfl,(ayu b).symm⟩
end Go.Proofs.YtfgljaglidhjiaaGreatDoor
namespace Go.Book
open List(length_flatMap map_take)
open Go Go.Abs Go.Rock
def Gj(c:UInt8):Prop:=48≤c.toNat∧c.toNat≤57
instance (c:UInt8):Decidable (Gj c):=by unfold Gj;infer_instance
def qR:Nat→List UInt8→Option Nat
 |n,[]=>some n
 |n,c::s=>if Gj c then qR (10*n+(c.toNat-48)) s else none
def yg(minus:Bool)(d:List UInt8):Option Int :=
 if d.length=0∨9<d.length∨(d.head?=some 48∧(1<d.length∨minus=true))then none
 else(qR 0 d).map fun n:Nat=>(if minus=true then -(n:Int)else(n:Int))
def A8(s:List UInt8):Option Int:=if s.head?=some 45 then yg true (s.drop 1)else yg false s
theorem JV:∀{a b:List UInt8} {n:Nat},qR n (a++b)=(qR n a).bind fun m=>qR m b
 |[],b,n=>rfl
 |c::a,b,n=>by
  simp only[fK,qR];split
  ·exact JV
  ·rfl
theorem AF:∀{s:List UInt8} {n m k:Nat},qR n s=some m→n<10^k→m<10^(k+s.length)
 |[],n,m,k,h,hn=>by simp only[qR,ae]at h;subst h;simpa using hn
 |c::s,n,m,k,h,hn=>by
  simp only[qR]at h;split at h
  ·rename_i hd;have hd2:=hd.2;have:=AF (k:=k+1) h (by rw[Nat.pow_succ];omega);simpa[dA,Nat.add_comm 1]using this
  ·cases h
theorem JW:∀{s:List UInt8} {n m:Nat},qR n s=some m→m<1844674407370955161→Lib.parseUint10 n s=.ok m
 |[],n,m,h,hm=>by simp only[qR,ae]at h;subst h;rfl
 |c::s,n,m,h,hm=>by
  simp only[qR]at h;split at h
  ·rename_i hd;have hle:∀{s:List UInt8} {n m:Nat},qR n s=some m→n≤m:=by
    intro s;induction s with
    |nil=>intro n m h;simp only[qR,ae]at h;omega
    |cons c s ih =>
     intro n m h;simp only[qR]at h;split at h
     ·have:=ih h;omega
     ·cases h
   have h1:=hle h;have h2:=JW h hm;unfold Lib.parseUint10;have hd2:=hd.2;have hd1:=hd.1;rw[if_pos (show 48≤c.toNat∧c.toNat≤57 from hd),if_neg (by omega),if_neg (by omega),← h2];congr 1;omega
  ·cases h
theorem Wx{k:Nat}(hk:k<10):Gj (UInt8.ofNat (48+k))∧(UInt8.ofNat (48+k)).toNat-48=k:=by
 have:(UInt8.ofNat (48+k)).toNat=48+k:=UInt8.toNat_ofNat_of_lt' (by simp[UInt8.size];omega);unfold Gj;omega
theorem Ww{c:UInt8}(h:Gj c):UInt8.ofNat (48+(c.toNat-48))=c:=by
 have:=h.1;rw[show 48+(c.toNat-48)=c.toNat by omega];simp
theorem MQ:∀{k u:Nat},u<10^k→0<k→qR 0 (uY k u)=some u
 |0,u,h,hk=>by omega
 |k+1,u,h,hk=>by
  unfold uY;split
  ·rename_i hu;have h1:=Wx hu;simp only[qR,if_pos h1.1,h1.2,Nat.mul_zero,cf]
  ·rename_i hu;have hk':0<k:=by
    rcases Nat.eq_zero_or_pos k with rfl | h0
    ·simp at h;omega
    ·exact h0
   have hd:=Wx (k:=u%10) (Nat.mod_lt _ (by omega));rw[JV,MQ (k:=k) (u:=u / 10) (by rw[Nat.pow_succ]at h;omega) hk'];simp only[Option.bind_some,qR,if_pos hd.1,hd.2,ae];omega
theorem Qc:∀{k u:Nat},0<k→uY k u≠[]
 |0,u,hk=>by omega
 |k+1,u,hk=>by
  unfold uY;split<;>simp
theorem MR:∀{k u m:Nat},u<10^m→0<m→(uY k u).length≤m
 |0,u,m,h,hm=>by simp[uY]
 |k+1,u,m,h,hm=>by
  unfold uY;split
  ·simp;omega
  ·rename_i hu;obtain⟨j,rfl⟩:∃j,m=j+1:=⟨m-1,by omega⟩;have hj:0<j:=by
    rcases Nat.eq_zero_or_pos j with rfl | h0
    ·simp at h;omega
    ·exact h0
   have:=MR (k:=k) (u:=u / 10) (m:=j) (by rw[Nat.pow_succ]at h;omega) hj;simp;omega
theorem JT:∀{k u:Nat},u<10^k→(uY k u).head?=some 48→u=0
 |0,u,h,hh=>by simp[uY]at hh
 |k+1,u,h,hh=>by
  unfold uY at hh;split at hh
  ·rename_i hu;simp only[List.head?_cons,ae]at hh;have:=congrArg UInt8.toNat hh;simp at this;omega
  ·rename_i hu;have hk:0<k:=by
    rcases Nat.eq_zero_or_pos k with rfl | h0
    ·simp at h;omega
    ·exact h0
   have h1:(uY k (u / 10)).head?=some 48:=by
    cases hd:uY k (u / 10)with
    |nil=>exact absurd hd (Qc hk)
    |cons c r=>rw[hd]at hh;simpa using hh
   have:=JT (k:=k) (u:=u / 10) (by rw[Nat.pow_succ]at h;omega) h1;omega
theorem RA:∀{d:List UInt8} {n k:Nat},qR 0 d=some n→d≠[]→(d.head?=some 48→d.length=1)→d.length≤k→uY k n=d:=by
 intro d;induction hl:d.length using Nat.strongRecOn generalizing d with
 |ind m ih =>
  intro n k h hne hz hk;obtain⟨d',c,rfl⟩:∃d' c,d=d'++[c]:=⟨d.dropLast,d.getLast hne,(List.dropLast_concat_getLast hne).symm⟩;rw[JV]at h;cases h1:qR 0 d' with
  |none=>rw[h1]at h;cases h
  |some q =>
   rw[h1]at h;simp only[Option.bind_some,qR]at h;split at h
   ·rename_i hc;simp only[ae]at h;have hc2:=hc.2;obtain⟨k,rfl⟩:∃j,k=j+1:=⟨k-1,by simp at hl;omega⟩;by_cases hd:d'=[]
    ·subst hd;simp only[qR,ae]at h1;subst h1;have hn:n=c.toNat-48:=by omega
     subst hn;unfold uY;rw[if_pos (by have:=hc.1;omega),Ww hc];rfl
    ·have hh:(d'++[c]).head?=d'.head?:=by
      cases d' with
      |nil=>exact absurd rfl hd
      |cons x r=>rfl
     have hz':d'.head?=some 48→d'.length=1:=by
      intro h2;have h5:=hz (by rw[hh];exact h2);have hp:=aN.2 hd;rw[← hl,bB]at h5;simp only[aL,bG]at h5;omega
     have hnz:d'.head? ≠ some 48:=by
      intro h2;have h5:=hz (by rw[hh];exact h2);have hp:=aN.2 hd;rw[← hl,bB]at h5;simp only[aL,bG]at h5;omega
     have ih1:=ih d'.length (by simp at hl;omega) rfl (n:=q) (k:=k) h1 hd hz' (by simp at hl;omega);have hq:q≠0:=by
      intro h2;subst h2;rw[← ih1]at hnz;have hkp:0<k:=by have:=aN.2 hd;simp at hl;omega
      obtain⟨j,rfl⟩:∃j,k=j+1:=⟨k-1,by omega⟩;simp[uY]at hnz
     unfold uY;have e1:n / 10=q:=by omega
     have e2:n%10=c.toNat-48:=by omega
     rw[if_neg (by omega),e1,e2,ih1,Ww hc]
   ·cases h
theorem Lz{d:List UInt8}{n:Nat}(h:qR 0 d=some n)(hne:d≠[])(hn:n≤999999999):
  sb d=(0,(n:Int))∧sb (45::d)=(0,-(n:Int)):=by
 have hp:=JW h (by omega);have hm:Lib.parseMag d=.ok n:=by unfold Lib.parseMag;rw[if_neg hne];exact hp
 constructor
 ·unfold sb Lib.atoiAll;cases d with
  |nil=>exact absurd rfl hne
  |cons c r =>
   have hc:Gj c:=by
    simp only[qR]at h;split at h
    ·assumption
    ·cases h
   have h1:=hc.1;have h2:=hc.2;simp only;rw[if_neg (by omega),hm];simp only;rw[if_neg (by omega),if_neg (by omega),if_neg (by omega)]
 ·unfold sb Lib.atoiAll;simp only;rw[if_pos (Or.inr (by decide)),hm];simp only;rw[if_neg (by simp),if_neg (by omega),if_pos (by decide)]
theorem UZ(s:List UInt8):Ff s=A8 s:=by
 have key:∀n,A8 s=some n→Ff s=some n:=by
  intro n h;unfold A8 at h;split at h
  ·rename_i hm;obtain⟨d,rfl⟩:∃d,s=45::d:=by
    cases s with
    |nil=>simp at hm
    |cons c d=>simp at hm;subst hm;exact⟨d,rfl⟩
   simp only[List.drop_succ_cons,aP]at h;unfold yg at h;split at h
   ·cases h
   rename_i hc;simp only[not_or,not_and]at hc;simp only[ad]at h;obtain⟨m,h1,h2⟩:=h;have hne:d≠[]:=by intro h3;subst h3;simp at hc
   have hb:=AF (k:=0) h1 (by decide);have hlt:m<10^9:=Nat.lt_of_lt_of_le hb (Nat.pow_le_pow_right (by decide) (by omega));have hd:=RA (k:=20) h1 hne (fun h3=>absurd trivial (hc.2.2 h3).2) (by omega);have hm0:m≠0:=by
    intro h3;subst h3;have:d.head?=some 48:=by rw[← hd];rfl
    exact absurd trivial (hc.2.2 this).2
   obtain⟨_,ha⟩:=Lz h1 hne (by omega);unfold Ff;rw[ha];have hi:CG (-(m:Int))=45::d:=by
    unfold CG;rw[if_pos (by omega),show(-(m:Int)).natAbs=m by omega,hd]
   rw[if_pos ⟨⟨rfl,hi⟩,by simp[cA];omega⟩];simpa using h2
  ·rename_i hm;unfold yg at h;split at h
   ·cases h
   rename_i hc;simp only[not_or,not_and]at hc;simp only[ad]at h;obtain⟨m,h1,h2⟩:=h;have hne:s≠[]:=by intro h3;subst h3;simp at hc
   have hb:=AF (k:=0) h1 (by decide);have hlt:m<10^9:=Nat.lt_of_lt_of_le hb (Nat.pow_le_pow_right (by decide) (by omega));have hd:=RA (k:=20) h1 hne (fun h3=>by have:=(hc.2.2 h3).1;have:=aN.2 hne;omega) (by omega);obtain⟨ha,_⟩:=Lz h1 hne (by omega);unfold Ff;rw[ha];have hi:CG (m:Int)=s:=by
    unfold CG;rw[if_neg (by omega),show((m:Int)).toNat=m by omega,hd]
   rw[if_pos ⟨⟨rfl,hi⟩,by simp[cA];omega⟩];simpa using h2
 cases hn:Ff s with
 |none =>
  cases hw:A8 s with
  |none=>rfl
  |some n=>rw[key n hw]at hn;cases hn
 |some n =>
  have h:=hn;unfold Ff at h;split at h
  ·rename_i hc;obtain⟨⟨_,h1⟩,h2⟩:=hc;simp only[ae]at h;rw[h]at h1 h2;simp only[cA,af,au]at h2;suffices A8 s=some n from this.symm
   rw[← h1];unfold CG;split
   ·rename_i hneg;have hlt:n.natAbs<10^9:=by omega
    have hd:=MQ (k:=20) (u:=n.natAbs) (Nat.lt_trans hlt (by decide)) (by decide);have hl:=MR (k:=20) (u:=n.natAbs) (m:=9) hlt (by decide);have hne:=Qc (k:=20) (u:=n.natAbs) (by decide);have hh:(uY 20 n.natAbs).head? ≠ some 48:=fun h3=>by have:=JT (Nat.lt_trans hlt (by decide)) h3;omega
    unfold A8;rw[if_pos (show(45::uY 20 n.natAbs).head?=some 45 from rfl)];simp only[List.drop_succ_cons,aP];unfold yg;rw[if_neg (by simp only[not_or,not_and];exact⟨by have:=aN.2 hne;omega,by omega,fun h3=>absurd h3 hh⟩),hd];simp;omega
   ·rename_i hneg;have hlt:n.toNat<10^9:=by omega
    have hd:=MQ (k:=20) (u:=n.toNat) (Nat.lt_trans hlt (by decide)) (by decide);have hl:=MR (k:=20) (u:=n.toNat) (m:=9) hlt (by decide);have hne:=Qc (k:=20) (u:=n.toNat) (by decide);have hh:(uY 20 n.toNat).head? ≠ some 45:=by
     intro h3;cases hx:uY 20 n.toNat with
     |nil=>exact hne hx
     |cons c r =>
      rw[hx]at hd h3;simp at h3;subst h3;simp[qR,Gj]at hd
    have hz:(uY 20 n.toNat).head?=some 48→¬1<(uY 20 n.toNat).length:=by
     intro h3;have h0:=JT (Nat.lt_trans hlt (by decide)) h3;rw[h0];decide
    unfold A8;rw[if_neg hh];unfold yg;rw[if_neg (by simp only[not_or,not_and];exact⟨by have:=aN.2 hne;omega,by omega,fun h3=>⟨hz h3,by simp⟩⟩),hd];simp;omega
  ·cases h
end Go.Book
namespace Go.Book
open List(length_flatMap map_take)
open Go Go.Abs
end Go.Book
namespace Go.Proofs.YtfgljaglidhjiaaGreatDoor
open List(length_flatMap map_take)
section
open Go Go.Abs Go.Book
variable {σ:SK}
def U0(l:List (List UInt8)):Prop:=l.length≤100∧∀s∈l,s.length≤4000
def aqe:Elt (List UInt8):=⟨false,1,eA,fun s => .str s,fun _=>rfl,fun _=>by simp[eA],fun _=>rfl,fun _=>rfl,fun _=>rfl⟩
theorem Vz{s:List UInt8}:bx T (.call false iA [.str s] σ)=some (.val (.bool (decide (4000<s.length))) σ):=by
 refine aA Fw pQ.eq_1 rfl ?_;have e:decide ((4000:Int)<(s.length:Int))=decide (4000<s.length):=by
  by_cases h:4000<s.length
  ·rw[decide_eq_true h,decide_eq_true (by omega)]
  ·rw[decide_eq_false h,decide_eq_false (by omega)]
 simp[-length_flatMap,-map_take,sw,e]
def okB(l:List (List UInt8)):Bool:=decide (l.length≤100) && !rq l (fun s=>decide (4000<s.length))
theorem Vy{l:List (List UInt8)}(hl:l.length≤1000000000):bx T (.call false gJ [.aI l.length (l.flatMap eA)] σ)=some (.val (.int .i64 (if okB l then 0 else 3)) σ):=by
 refine aA Im sC.eq_1 rfl ?_;have hC:=fun σ=>contains_of aqe (T:=T) (f:=eD) (i:=jc) (l:=l) (p:=fun s=>decide (4000<s.length)) (fv:=.fn iA [] []) rfl rfl (by omega) (pP.fn fun s _ σ=>Vz) (σ:=σ)
 have hC':∀σ,bx T (.call false eD [.aI l.length (l.flatMap eA),.fn iA [] []] σ)=some (.val (.bool (rq l (fun s=>decide (4000<s.length)))) σ):=hC;unfold okB;by_cases h1:l.length≤100
 ·have h2:¬(100:Int)<l.length:=by omega
  cases h3:rq l (fun s=>decide (4000<s.length))<;>rw[h3]at hC'<;>simp[-length_flatMap,-map_take,h1,h2,hC']
 ·have h2:(100:Int)<l.length:=by omega
  simp[-length_flatMap,-map_take,h1,h2]
theorem TF{l:List (List UInt8)}:okB l=true↔U0 l:=by
 unfold okB U0;simp only[af,au,dX];constructor
 ·rintro⟨h1,h2⟩;refine⟨h1,fun s hs=>?_⟩;by_cases h:s.length≤4000
  ·exact h
  ·have h3:rq l (fun s=>decide (4000<s.length))=true:=N7.2 ⟨s,hs,show decide (4000<s.length)=true from decide_eq_true (by omega)⟩;rw[h2]at h3;cases h3
 ·rintro⟨h1,h2⟩;refine⟨h1,?_⟩;cases h:rq l (fun s=>decide (4000<s.length))with
  |false=>rfl
  |true =>
   obtain⟨s,hs,h3⟩:=N7.1 h;have:=h2 s hs;simp only[au]at h3;omega
theorem PL{l:List (List UInt8)}(hl:l.length≤1000000000)(hσ:σ≠[]):bx T (.call false o9 [.aI l.length (l.flatMap eA)] σ)=some (.val (.aI l.length (l.flatMap eA)) σ):=by
 refine aA Mu wP.eq_1 rfl ?_;cases l with
 |nil=>simp[-length_flatMap,-map_take]
 |cons s r =>
  have hfl:((s::r).flatMap eA).length=(s::r).length:=by have:=cm (f:=eA) (w:=1) (fun _=>rfl) (s::r);omega
  have hne:¬(s::r).length=0:=by simp
  generalize s::r=l at hl hfl hne ⊢;have hr:l.length*16≤room:=by unfold room;omega
  have hk:=yz (n:=16) (f:=eA) (w:=1) (l:=l) (j:=1) (v:=0) (bs:=[.cells 0 [],.cells 0 (l.flatMap eA)]) (by decide) (fun _=>rfl) (fun _=>by simp[eA]) hσ (by simp);simp[-length_flatMap,-map_take,hfl,hne,hr];exact⟨_,hk⟩
theorem Rh{l:List (List UInt8)}(hl:l.length≤1000000000):∀(m i:Nat),i+m=l.length →
  WL T [0,3] false rE [(0,.aI l.length (l.flatMap eA)),(3,.int .i64 i)] σ
   (fun x e σ'=>σ'=σ∧if rq (l.drop i) (fun s=>decide (4000<s.length))then x=.ret∧get e 2=.bool false else x=.exit 0∧get e 0=.aI l.length (l.flatMap eA))
 |0,i,hi=>by
  refine aO rE.eq_1 ?_;obtain rfl:i=l.length:=by omega
  have h2:l.drop l.length=[]:=aB (by omega);simp[-length_flatMap,-map_take,h2,rq]
 |m+1,i,hi=>by
  refine aO rE.eq_1 ?_;have h1:i<l.length:=by omega
  obtain⟨s,hs⟩:=gE h1;have a1:=bS (f:=eA) (w:=1) (fun _=>rfl) hs;simp only[eA,dL]at a1;have h4:=gq h1 (by omega);rw[cM hs];by_cases hc:4000<s.length
  ·have hc':(4000:Int)<s.length:=by omega
   simp[-length_flatMap,-map_take,sw,h1,a1,hc,hc',rq]
  ·have hc':¬(4000:Int)<s.length:=by omega
   simp[-length_flatMap,-map_take,sw,h1,a1,h4,hc',rq,hc];exact WL.to (Rh hl m (i+1) (by omega)) (by simp) rfl fun x e σ' hh=>by simpa[rq,hc]using hh
theorem Ue{l:List (List UInt8)}(hl:l.length≤1000000000):bx T (.call false sr [.aI l.length (l.flatMap eA)] σ)=some (.val (.bool (okB l)) σ):=by
 refine aA KM vt.eq_1 rfl ?_;simp[-length_flatMap,-map_take];refine WL.to (Rh (σ:=[]::σ) hl l.length 0 (by omega)) (by simp) rfl ?_;rintro x e σ' ⟨rfl,hh⟩;rw[aP]at hh;cases hc:rq l (fun s=>decide (4000<s.length))
 ·rw[hc,if_neg (by simp)]at hh;obtain⟨rfl,g0⟩:=hh;by_cases h1:l.length≤100
  ·have h2:(l.length:Int)≤100:=by omega
   simp[-length_flatMap,-map_take,g0,okB,hc,h1,h2]
  ·have h2:¬(l.length:Int)≤100:=by omega
   simp[-length_flatMap,-map_take,g0,okB,hc,h1,h2]
 ·rw[hc,if_pos rfl]at hh;obtain⟨rfl,g2⟩:=hh;simp[g2,okB,hc]
theorem Rk{d:List UInt8}{v:Bool}(hd:d.length≤9):∀(m i n:Nat),i+m=d.length→n<10^i →
  WL T [4,5,6,7] false pV [(4,.bool v),(5,.str d),(6,.int .i64 n),(7,.int .i64 i)] σ
   (fun x e σ'=>σ'=σ∧match qR n (d.drop i)with
    |some k=>x=.exit 0∧get e 4=.bool v∧get e 6=.int .i64 k
    |none=>x=.ret∧get e 2=.int .i64 0∧get e 3=.bool false)
 |0,i,n,hi,hn=>by
  refine aO pV.eq_1 ?_;obtain rfl:i=d.length:=by omega
  have h2:d.drop d.length=[]:=aB (by omega);simp[-length_flatMap,-map_take,sw,h2,qR]
 |m+1,i,n,hi,hn=>by
  refine aO pV.eq_1 ?_;have h1:i<d.length:=by omega
  obtain⟨c,hc⟩:=gE h1;have hcg:d[i]=c:=by have:=aJ h1;rw[hc]at this;exact(Option.some.inj this).symm
  have h4:=gq h1 (by omega);rw[cM hc];have hp:10^(i+1)≤10^9:=Nat.pow_le_pow_right (by decide) (by omega);rw[Nat.pow_succ]at hp;have hb:=c.toNat_lt;by_cases h5:c.toNat<48
  ·have h6:(c.toNat:Int)<48:=by omega
   have h7:¬Gj c:=by unfold Gj;omega
   simp[-length_flatMap,-map_take,sw,h1,hcg,h6,qR,h7]
  ·have h6:¬(c.toNat:Int)<48:=by omega
   by_cases h8:57<c.toNat
   ·have h9:(57:Int)<c.toNat:=by omega
    have h7:¬Gj c:=by unfold Gj;omega
    simp[-length_flatMap,-map_take,sw,h1,hcg,h6,h9,qR,h7]
   ·have h9:¬(57:Int)<c.toNat:=by omega
    have h7:Gj c:=by unfold Gj;omega
    have w1:IntKind.i64.wrap (10*(n:Int))=((10*n:Nat):Int):=(fT (by omega)).trans (by omega);have w2:IntKind.u8.wrap ((c.toNat:Int)-48)=((c.toNat-48:Nat):Int):=(wu8 (by omega)).trans (by omega);have w3:IntKind.i64.wrap ((c.toNat-48:Nat):Int)=((c.toNat-48:Nat):Int):=fT (by omega);have w4:IntKind.i64.wrap (10*(n:Int)+((c.toNat-48:Nat):Int))=10*(n:Int)+((c.toNat-48:Nat):Int):=fT (by omega);have ih:=Rk (v:=v) hd m (i+1) (10*n+(c.toNat-48)) (by omega) (by rw[Nat.pow_succ];omega);simp[-length_flatMap,-map_take,sw,h1,hcg,h6,h9,qR,if_pos h7,w1,w2,w3,h4];exact WL.to ih (by simp[w4]) rfl fun x e σ' hh=>by rw[if_pos h7];exact hh
theorem aiK{s:List UInt8}:bx T (.call false su [.str s] σ)=some (.val (.dM [.int .i64 ((Ff s).getD 0),.bool (Ff s).isSome]) σ):=by
 rw[UZ];refine aA KN vu.eq_1 rfl ?_;obtain⟨v,d,hs⟩:∃(v:Bool) (d:List UInt8),(s=45::d∧v=true)∨(s=d∧v=false∧d.head? ≠ some 45):=by
  cases s with
  |nil=>exact⟨false,[],Or.inr ⟨rfl,rfl,by simp⟩⟩
  |cons c r =>
   by_cases h:c=45
   ·subst h;exact⟨true,r,Or.inl ⟨rfl,rfl⟩⟩
   ·exact⟨false,c::r,Or.inr ⟨rfl,rfl,by simpa using h⟩⟩
 have hw:A8 s=yg v d:=by
  rcases hs with⟨rfl,rfl⟩ | ⟨rfl,rfl,h⟩
  ·rfl
  ·unfold A8;rw[if_neg h]
 rw[hw];have hL:=fun h9=>Rk (σ:=[]::σ) (v:=v) (d:=d) h9 d.length 0 0 (by omega) (by decide)
 have hneg:∀k,qR 0 d=some k→d.length≤9→IntKind.i64.wrap (-(k:Int)) = -(k:Int):=fun k hk h9=>by
  have h1:=AF (k:=0) hk (by decide);have h2:=Nat.lt_of_lt_of_le h1 (Nat.pow_le_pow_right (by decide) (show 0+d.length≤9 by omega));exact fT (by omega)
 by_cases c1:d.length=0
 ·obtain rfl:=bR.1 c1;rcases hs with⟨rfl,rfl⟩ | ⟨rfl,rfl,h⟩<;>simp[-length_flatMap,-map_take,sw,yg]
 have d1:¬(d.length:Int)=0:=by omega
 have hp:0<d.length:=by omega
 have hp1:(0:Int)<d.length:=by omega
 have hp2:(0:Int)<(d.length:Int)+1:=by omega
 have hp3:(1:Int)≤(d.length:Int)+1:=by omega
 obtain⟨c,hc⟩:=gE hp;have hcg:d[0]=c:=by have:=aJ hp;rw[hc]at this;exact(Option.some.inj this).symm
 have hh:d.head?=some c:=by rw[List.head?_eq_getElem?,hc]
 rw[hh]at hs;simp only[ne_eq,ae]at hs;by_cases c2:9<d.length
 ·have d2:(9:Int)<d.length:=by omega
  rcases hs with⟨rfl,rfl⟩ | ⟨rfl,rfl,h⟩
  ·simp[-length_flatMap,-map_take,sw,yg,c1,c2,d1,d2,hp3]
  ·have h':¬c.toNat=45:=fun h2=>h (UInt8.toNat_inj.1 h2)
   have h3:((c.toNat:Int) == 45)=false:=by simp;omega
   simp[-length_flatMap,-map_take,sw,yg,c1,c2,d1,d2,hp,hp1,hc,hcg,h3]
 have d2:¬(9:Int)<d.length:=by omega
 have hcz:((c.toNat:Int) == 48)=decide (c=48):=by
  by_cases h:c=48
  ·subst h;rfl
  ·have h':¬c.toNat=48:=fun h2=>h (UInt8.toNat_inj.1 h2)
   simp[h];omega
 have hL:=hL (by omega);rw[aP]at hL;have hone:(1<d.length)=((1:Int)<d.length):=propext ⟨fun h=>by omega,fun h=>by omega⟩;by_cases c3:c=48∧(1<d.length∨v=true)
 ·have hn:yg v d=none:=by unfold yg;rw[hh,if_pos (Or.inr (Or.inr ⟨by rw[c3.1],c3.2⟩))]
  rw[hn];obtain⟨rfl,c4⟩:=c3;rw[hone]at c4;rcases hs with⟨rfl,rfl⟩ | ⟨rfl,rfl,h⟩
  ·by_cases c5:(1:Int)<d.length<;>simp[-length_flatMap,-map_take,sw,c1,c2,d1,d2,hp,hp1,hp3,hc,hcg,c5]
  ·have c4:(1:Int)<s.length:=by simpa using c4
   simp[-length_flatMap,-map_take,sw,c1,c2,d1,d2,hp,hp1,hc,hcg,c4]
 ·have hn:yg v d=(qR 0 d).map fun n:Nat=>(if v=true then -(n:Int)else(n:Int)):=by
   unfold yg;rw[hh,if_neg];rintro(h | h | ⟨h,h2⟩)
   ·exact c1 h
   ·exact c2 h
   ·exact c3 ⟨by simpa using h,h2⟩
  rw[hn];rcases hs with⟨rfl,rfl⟩ | ⟨rfl,rfl,h⟩
  ·have c4:¬c=48:=fun h=>c3 ⟨h,Or.inr rfl⟩
   simp[-length_flatMap,-map_take,sw,c1,c2,d1,d2,hp,hp1,hp3,hc,hcg,hcz,c4];refine WL.to hL (by simp) rfl ?_;rintro x e σ' ⟨rfl,hh⟩;cases hv:qR 0 d with
   |none=>rw[hv]at hh;obtain⟨rfl,g2,g3⟩:=hh;simp[g2,g3]
   |some k=>rw[hv]at hh;obtain⟨rfl,g4,g6⟩:=hh;simp[-length_flatMap,-map_take,g4,g6,hneg k hv (by omega)]
  ·have h':¬c.toNat=45:=fun h2=>h (UInt8.toNat_inj.1 h2)
   have h3:((c.toNat:Int) == 45)=false:=by simp;omega
   have key:∀x e σ',(σ'=[]::σ∧match qR 0 s with
    |some k=>x=Abs.Exit.exit 0∧get e 4=.bool false∧get e 6=.int .i64 k
    |none=>x=.ret∧get e 2=.int .i64 0∧get e 3=.bool false)→True:=fun _ _ _ _=>trivial
   by_cases c4:c=48
   ·have c5:¬(1:Int)<s.length:=fun h=>c3 ⟨c4,Or.inl (by omega)⟩
    subst c4;simp[-length_flatMap,-map_take,sw,c1,c2,d1,d2,hp,hp1,hc,hcg,c5];refine WL.to hL (by simp) rfl ?_;rintro x e σ' ⟨rfl,hh⟩;cases hv:qR 0 s with
    |none=>rw[hv]at hh;obtain⟨rfl,g2,g3⟩:=hh;simp[g2,g3]
    |some k=>rw[hv]at hh;obtain⟨rfl,g4,g6⟩:=hh;simp[-length_flatMap,-map_take,g4,g6]
   ·simp[-length_flatMap,-map_take,sw,c1,c2,d1,d2,hp,hp1,hc,hcg,hcz,h3,c4];refine WL.to hL (by simp) rfl ?_;rintro x e σ' ⟨rfl,hh⟩;cases hv:qR 0 s with
    |none=>rw[hv]at hh;obtain⟨rfl,g2,g3⟩:=hh;simp[g2,g3]
    |some k=>rw[hv]at hh;obtain⟨rfl,g4,g6⟩:=hh;simp[-length_flatMap,-map_take,g4,g6]
end
section
open Go Go.Abs Go.Rock Go.Book
variable {σ:SK}
def glue(c:List UInt8):List (List UInt8)→List (List UInt8)
 |[]=>[c]
 |x::l=>(c++x)::l
theorem OI{l:List (List UInt8)}(h:l≠[]):glue [] l=l:=by
 cases l with
 |nil=>exact absurd rfl h
 |cons x l=>rfl
theorem QN(b c:UInt8)(s:List UInt8):de b (c::s)=if c=b then []::de b s else glue [c] (de b s):=by
 simp only[de];split
 ·rfl
 ·cases de b s<;>rfl
theorem UH(a b:List UInt8)(l:List (List UInt8)):glue a (glue b l)=glue (a++b) l:=by
 cases l<;>simp[glue]
theorem Ms{s:List UInt8}(hs:s.length≤1000000):∀(m i fr:Nat) (cl:List (List UInt8)),i+m=s.length→fr≤i→cl.length≤i →
  de 32 s=cl++glue ((s.drop fr).take (i-fr)) (de 32 (s.drop i)) →
  WL T [0,6,7,8] false pT [(0,.str s),(6,.sl σ.length 0 cl.length 0 (cl.length+1) 1),(7,.int .i64 fr),(8,.int .i64 i)] ([.cells cl.length ((cl++[[]]).flatMap eA)]::σ)
   (fun x e σ'=>∃(cl:List (List UInt8)) (fr:Nat),fr≤s.length∧de 32 s=cl++[s.drop fr]∧cl.length≤s.length∧x=.exit 0∧get e 0=.str s∧get e 6=.sl σ.length 0 cl.length 0 (cl.length+1) 1∧get e 7=.int .i64 fr∧σ'=[.cells cl.length ((cl++[[]]).flatMap eA)]::σ)
 |0,i,fr,cl,hi,hf,hc,hsp=>by
  refine aO pT.eq_1 ?_;obtain rfl:i=s.length:=by omega
  have h2:s.drop s.length=[]:=aB (by omega);have h3:(s.drop fr).take (s.length-fr)=s.drop fr:=ak (by simp);rw[h2,h3]at hsp;have h4:glue (s.drop fr) (de 32 [])=[s.drop fr]:=by simp[de,glue]
  rw[h4]at hsp;simp[-length_flatMap,-map_take,sw];exact⟨cl,fr,hf,hsp,hc,by simp⟩
 |m+1,i,fr,cl,hi,hf,hc,hsp=>by
  refine aO pT.eq_1 ?_;have h1:i<s.length:=by omega
  obtain⟨c,hcc⟩:=gE h1;have hcg:s[i]=c:=by have:=aJ h1;rw[hcc]at this;exact(Option.some.inj this).symm
  have h4:=gq h1 (by omega);have e1:((i+1:Nat):Int)=(i:Int)+1:=by omega
  rw[cM hcc,QN]at hsp;by_cases c1:c=32
  ·subst c1;rw[if_pos rfl]at hsp;simp only[glue,dO]at hsp;have hw:IntKind.i64.wrap (((cl.length+1:Nat):Int)-1)=(cl.length:Int):=(fT (by omega)).trans (by omega);have hw0:IntKind.i64.wrap (cl.length:Int)=(cl.length:Int):=fT (by omega);have hw1:(cl.length:Int)<(cl.length:Int)+1:=by omega
   have hfl:=cm (f:=eA) (w:=1) (fun _=>rfl) cl;have hr:(cl.length+1+1)*16≤room:=by unfold room;omega
   rw[dL]at hfl;have hd:((cl.flatMap eA)++[D.str []]).drop (cl.length+1)=[]:=aB (by rw[bB,hfl];simp);have ht:∀y:D,((cl.flatMap eA)++[y]).take (cl.length+1)=(cl.flatMap eA)++[y]:=fun y=>ak (by rw[bB,hfl];simp)
   have hfi:(fr:Int)≤i:=by omega
   have hil:(i:Int)≤s.length:=by omega
   have ih:=Ms hs m (i+1) (i+1) (cl++[(s.drop fr).take (i-fr)]) (by omega) (by omega) (by simp;omega) (by
    rw[Nat.sub_self,List.take_zero,OI (vh _ _),hsp];simp)
   simp[-length_flatMap,-map_take,sw,h1,hcg,hw0,hw1,hfl,h4,hfi,hil,hr];exact WL.to ih (by simp) (by simp[hd,ht]) fun x e σ' hh=>hh
  ·have h':¬c.toNat=32:=fun h2=>c1 (UInt8.toNat_inj.1 h2)
   have h3:((c.toNat:Int) == 32)=false:=by simp;omega
   rw[if_neg c1,UH]at hsp;have ih:=Ms hs m (i+1) fr cl (by omega) (by omega) (by omega) (by
    rw[hsp];have:(s.drop fr).take (i+1-fr)=(s.drop fr).take (i-fr)++[c]:=by
     rw[show i+1-fr=(i-fr)+1 by omega,List.take_add_one,eh,show fr+(i-fr)=i by omega,hcc];rfl
    rw[this])
   simp[-length_flatMap,-map_take,sw,h1,hcg,h3,h4];exact WL.to ih (by simp) (by simp) fun x e σ' hh=>hh
theorem IS{a nm:List UInt8}{ws r:List (List UInt8)}{v k:Nat}(hk:ws.drop k=r)(hr:k+r.length≤1000001):∀(m i:Nat) (acc:List Int),i+m=r.length→acc.length=i→oE r=(oE (r.drop i)).map (acc ++ ·) →
  WL T [9,10,11,12,13] false pU [(9,.str a),(10,.sl σ.length 0 v k r.length 1),(11,.str nm),(12,.sl σ.length 1 acc.length 0 acc.length 1),(13,.int .i64 i)] ([.cells v (ws.flatMap eA),.cells acc.length (acc.flatMap aT)]::σ)
   (fun x e σ'=>match oE r with
    |some l=>x=.exit 2∧get e 9=.str a∧get e 11=.str nm∧get e 12=.sl σ.length 1 l.length 0 l.length 1∧σ'=[.cells v (ws.flatMap eA),.cells l.length (l.flatMap aT)]::σ
    |none=>x=.ret∧get e 2=.str []∧get e 3=.str []∧get e 4=.aG∧get e 5=.bool false∧∃b,σ'=b::σ)
 |0,i,acc,hi,ha,hn=>by
  refine aO pU.eq_1 ?_;obtain rfl:i=r.length:=by omega
  have h2:r.drop r.length=[]:=aB (by omega);rw[h2]at hn;simp only[oE,aU,dO]at hn;simp[-length_flatMap,-map_take,hn]
 |m+1,i,acc,hi,ha,hn=>by
  refine aO pU.eq_1 ?_;have h1:i<r.length:=by omega
  obtain⟨s,hs⟩:=gE h1;have hs':ws[k+i]?=some s:=by rw[← hk,eh]at hs;exact hs
  have hdr:=Fa (f:=eA) (w:=1) (fun _=>rfl) hs';simp only[dL,eA,eP]at hdr;have h4:=gq h1 (by omega);rw[cM hs]at hn;have hB:=fun S=>aiK (σ:=S) (s:=s)
  cases hv:Ff s with
  |none =>
   rw[hv]at hB;simp only[oE,hv,Option.map_none]at hn;simp[-length_flatMap,-map_take,h1,hdr,hB,hn]
  |some n =>
   rw[hv]at hB;simp only[oE,hv,Option.map_map]at hn;have hfl:=cm (f:=aT) (w:=1) (fun _=>rfl) acc;rw[dL]at hfl;have tk:(acc.flatMap aT).take i=acc.flatMap aT:=ak (by omega);have hrm:(i+1)*8≤room:=by unfold room;omega
   have ih:=IS (a:=a) (nm:=nm) (v:=v) hk hr m (i+1) (acc++[n]) (by omega) (by simp[ha]) (by
    rw[hn];congr 1;funext l;simp)
   subst ha;simp[-length_flatMap,-map_take,h1,hdr,hB,h4,hfl,tk,hrm];exact WL.to ih (by simp) (by simp[aT]) fun x e σ' hh=>hh
def uM(a:List UInt8)(n:Int):Bool :=
 if(a == [102,105,101,108,100] || (a == [114,101,97,100] || a == [115,101,108,108]))=true then n == 4
 else if(a == [98,101,100] || (a == [119,101,108,108] || a == [107,101,101,112]))=true then n == 3
 else if(a == [114,117,108,101])=true then n == 10
 else if(a == [116,97,98,108,101])=true then n.tmod 5 == 0
 else if(a == [113,117,97,107,101])=true then n.tmod 4 == 0
 else if(a == [108,111,103])=true then decide (3≤n) && n.tmod 2 == 1
 else if(a == [117,110,105,116])=true then n.tmod 2 == 1
 else a == [109,111,100,101,108] || a == [116,105,99,107]
def Lg(a nm:List UInt8)(r:List (List UInt8)):D:=match oE r with
 |some l => .dM [.str a,.str nm,.aI l.length (l.flatMap aT),.bool (uM a l.length)]
 |none => .dM [.str [],.str [],.aG,.bool false]
def U5(a:List UInt8):List (List UInt8)→D
 |[] => .dM [.str [],.str [],.aG,.bool false]
 |nm::r=>Lg a nm r
def Ng(s:List UInt8):D:=match de 32 s with
 |[] => .aG
 |a::all=>if(a == [109,111,100,101,108] || a == [108,111,103])=true then U5 a all else Lg a [] all
theorem aiv{s:List UInt8}(hs:s.length≤1000000)(hσ:σ≠[]):bx T (.call false so [.str s] σ)=some (.val (Ng s) σ):=by
 refine aA KL vq.eq_1 rfl ?_;simp[-length_flatMap,-map_take];refine WL.to (Ms (σ:=σ) hs s.length 0 0 [] (by omega) (by omega) (by simp) (by show de 32 s=glue [] (de 32 s);rw[OI (vh _ _)])) (by simp) (by simp) ?_;rintro x e σ' ⟨cl,fr,hf,hsp,hc,rfl,g0,g6,g7,rfl⟩;have hw:IntKind.i64.wrap (((cl.length+1:Nat):Int)-1)=(cl.length:Int):=(fT (by omega)).trans (by omega);have hw0:IntKind.i64.wrap (cl.length:Int)=(cl.length:Int):=fT (by omega);have hw1:(cl.length:Int)<(cl.length:Int)+1:=by omega
 have hfl:=cm (f:=eA) (w:=1) (fun _=>rfl) cl;have hfs:(fr:Int)≤s.length:=by omega
 have hd:((cl.flatMap eA)++[D.str []]).drop (cl.length+1)=[]:=aB (by rw[bB,hfl];simp);obtain⟨a,all,ha⟩:∃a all,cl++[s.drop fr]=a::all:=by
  cases cl with
  |nil=>exact⟨_,_,rfl⟩
  |cons x l=>exact⟨_,_,rfl⟩
 have hal:all.length=cl.length:=by have:=congrArg List.length ha;simp at this;omega
 have hce:cl.flatMap eA++D.str (s.drop fr)::((cl.flatMap eA)++[D.str []]).drop (cl.length+1)=.str a::all.flatMap eA:=by
  rw[hd];have:=congrArg (List.flatMap eA) ha;simpa[eA]using this
 have h1c:(1:Int)≤(cl.length:Int)+1:=by omega
 have hrp:Ng s=if(a == [109,111,100,101,108] || a == [108,111,103])=true then U5 a all else Lg a [] all:=by unfold Ng;rw[hsp,ha]
 rw[hrp];have hfr:∀(b:List Abs.aF) (l:List Int) (nm:List UInt8) (x:Bool),b[1]?=some (.cells l.length (l.flatMap aT))→∃S,cG (σ.length-1) 16 (.dM [.str a,.str nm,.sl σ.length 1 l.length 0 l.length 1,.bool x]) (b::σ)=(.dM [.str a,.str nm,.aI l.length (l.flatMap aT),.bool x],S::σ):=by
  intro b l nm x hb;have f0:=yz (n:=15) (f:=aT) (w:=1) (l:=l) (by decide) (fun _=>rfl) (fun _=>by simp[aT,D.clean]) hσ hb;have h1:∀(s:List UInt8) (S:SK),cG (σ.length-1) 15 (.str s) S=(.str s,S):=fun s S=>ju rfl (by decide)
  have h2:∀(s:Bool) (S:SK),cG (σ.length-1) 15 (.bool s) S=(.bool s,S):=fun s S=>ju rfl (by decide)
  refine⟨b.set 1 .dead,?_⟩;rw[Da (by simp[D.clean,D.bC]) (by omega)];simp only[wZ,zR,Nat.reduceSub,h1,h2,f0]
 simp[-length_flatMap,-map_take,sw,g0,g6,g7,hw0,hw1,hfl,hfs,hce,h1c];clear hrp hce hd hsp;rw[← hal];have hal2:all.length≤1000000:=by omega
 by_cases c1:a=[109,111,100,101,108]
 ·subst c1;cases all with
  |nil=>simp[-length_flatMap,-map_take,sw,U5]
  |cons nm r =>
   have hr2:(2:Nat)+r.length≤1000001:=by simp at hal2;omega
   have hL:=IS (σ:=σ) (a:=[109,111,100,101,108]) (nm:=nm) (ws:=[109,111,100,101,108]::nm::r) (r:=r) (k:=2) (v:=r.length+1) rfl hr2 r.length 0 [] (by omega) rfl (by simp);have hr0:¬(r.length:Int)+1=0:=by omega
   have hr1:(1:Int)≤(r.length:Int)+1:=by omega
   simp[-length_flatMap,-map_take,sw,U5,hr0,hr1];refine WL.to hL (by simp) (by simp) ?_;intro x e σ' hh;unfold Lg;cases hn:oE r with
   |none=>rw[hn]at hh;obtain⟨rfl,g2,g3,g4,g5,b,rfl⟩:=hh;simp[g2,g3,g4,g5]
   |some l =>
    rw[hn]at hh;obtain⟨rfl,g9,g11,g12,rfl⟩:=hh;simp[-length_flatMap,-map_take,sw,g9,g11,g12,uM];exact hfr _ l nm true rfl
 by_cases c2:a=[108,111,103]
 ·subst c2;cases all with
  |nil=>simp[-length_flatMap,-map_take,sw,U5]
  |cons nm r =>
   have hr2:(2:Nat)+r.length≤1000001:=by simp at hal2;omega
   have hL:=IS (σ:=σ) (a:=[108,111,103]) (nm:=nm) (ws:=[108,111,103]::nm::r) (r:=r) (k:=2) (v:=r.length+1) rfl hr2 r.length 0 [] (by omega) rfl (by simp);have hr0:¬(r.length:Int)+1=0:=by omega
   have hr1:(1:Int)≤(r.length:Int)+1:=by omega
   simp[-length_flatMap,-map_take,sw,U5,hr0,hr1];refine WL.to hL (by simp) (by simp) ?_;intro x e σ' hh;unfold Lg;cases hn:oE r with
   |none=>rw[hn]at hh;obtain⟨rfl,g2,g3,g4,g5,b,rfl⟩:=hh;simp[g2,g3,g4,g5]
   |some l =>
    rw[hn]at hh;obtain⟨rfl,g9,g11,g12,rfl⟩:=hh;by_cases h3:(3:Int)≤l.length
    ·simp[-length_flatMap,-map_take,sw,g9,g11,g12,uM,h3];exact hfr _ l nm _ rfl
    ·simp[-length_flatMap,-map_take,sw,g9,g11,g12,uM,h3];exact hfr _ l nm _ rfl
 have hr2:(1:Nat)+all.length≤1000001:=by omega
 have hL:=IS (σ:=σ) (a:=a) (nm:=[]) (ws:=a::all) (r:=all) (k:=1) (v:=all.length) rfl hr2 all.length 0 [] (by omega) rfl (by simp);have c1':(a == [109,111,100,101,108])=false:=by simpa using c1
 have c2':(a == [108,111,103])=false:=by simpa using c2
 simp[-length_flatMap,-map_take,sw,c1,c2];refine WL.to hL (by simp) (by simp) ?_;intro x e σ' hh;unfold Lg;cases hn:oE all with
 |none=>rw[hn]at hh;obtain⟨rfl,g2,g3,g4,g5,b,rfl⟩:=hh;simp[g2,g3,g4,g5,c1,c2]
 |some l =>
  rw[hn]at hh;obtain⟨rfl,g9,g11,g12,rfl⟩:=hh;by_cases w0:a=[102,105,101,108,100]
  ·subst w0;simp[-length_flatMap,-map_take,sw,g9,g11,g12,uM];exact hfr _ l [] _ rfl
  by_cases w1:a=[114,101,97,100]
  ·subst w1;simp[-length_flatMap,-map_take,sw,g9,g11,g12,uM];exact hfr _ l [] _ rfl
  by_cases w2:a=[115,101,108,108]
  ·subst w2;simp[-length_flatMap,-map_take,sw,g9,g11,g12,uM];exact hfr _ l [] _ rfl
  by_cases w3:a=[98,101,100]
  ·subst w3;simp[-length_flatMap,-map_take,sw,g9,g11,g12,uM];exact hfr _ l [] _ rfl
  by_cases w4:a=[119,101,108,108]
  ·subst w4;simp[-length_flatMap,-map_take,sw,g9,g11,g12,uM];exact hfr _ l [] _ rfl
  by_cases w5:a=[107,101,101,112]
  ·subst w5;simp[-length_flatMap,-map_take,sw,g9,g11,g12,uM];exact hfr _ l [] _ rfl
  by_cases w6:a=[114,117,108,101]
  ·subst w6;simp[-length_flatMap,-map_take,sw,g9,g11,g12,uM];exact hfr _ l [] _ rfl
  by_cases w7:a=[116,97,98,108,101]
  ·subst w7;simp[-length_flatMap,-map_take,sw,g9,g11,g12,uM];exact hfr _ l [] _ rfl
  by_cases w8:a=[113,117,97,107,101]
  ·subst w8;simp[-length_flatMap,-map_take,sw,g9,g11,g12,uM];exact hfr _ l [] _ rfl
  by_cases w9:a=[117,110,105,116]
  ·subst w9;simp[-length_flatMap,-map_take,sw,g9,g11,g12,uM];exact hfr _ l [] _ rfl
  by_cases w10:a=[116,105,99,107]
  ·subst w10;simp[-length_flatMap,-map_take,sw,g9,g11,g12,uM];exact hfr _ l [] _ rfl
  simp[-length_flatMap,-map_take,sw,g9,g11,g12,uM,c1,c2,w0,w1,w2,w3,w4,w5,w6,w7,w8,w9,w10];have hz:(a == [109,111,100,101,108] || a == [116,105,99,107])=false:=by simp[c1,w10]
  rw[hz];exact hfr _ l [] _ rfl
end
section
open Go Go.Abs Go.Rock Go.Book
theorem agJ{a:List UInt8}{w:Wd}(h:(a,w)∈oB){n:Nat}(hf:Hr w n=true):uM a n=true:=by
 have t5:(n:Int).tmod 5=(n:Int)%5:=Int.tmod_eq_emod_of_nonneg (by omega);have t4:(n:Int).tmod 4=(n:Int)%4:=Int.tmod_eq_emod_of_nonneg (by omega);have t2:(n:Int).tmod 2=(n:Int)%2:=Int.tmod_eq_emod_of_nonneg (by omega);have t3:0<(n:Int)-3→((n:Int)-3).tmod 2=((n:Int)-3)%2:=fun h=>Int.tmod_eq_emod_of_nonneg (by omega)
 have t1:0<(n:Int)-1→((n:Int)-1).tmod 2=((n:Int)-1)%2:=fun h=>Int.tmod_eq_emod_of_nonneg (by omega)
 simp only[oB,bf,an,List.not_mem_nil,or_false]at h;unfold Hr at hf;simp only[cb,af,au]at hf;rcases h with⟨rfl,rfl⟩ | ⟨rfl,rfl⟩ | ⟨rfl,rfl⟩ | ⟨rfl,rfl⟩ | ⟨rfl,rfl⟩ | ⟨rfl,rfl⟩ | ⟨rfl,rfl⟩ | ⟨rfl,rfl⟩ | ⟨rfl,rfl⟩ | ⟨rfl,rfl⟩ | ⟨rfl,rfl⟩ | ⟨rfl,rfl⟩ | ⟨rfl,rfl⟩<;>
  simp only[Int.sub_zero,t5,t4]at hf<;>simp[uM,t5,t4,t2]<;>
  (try (rcases hf with hf | ⟨hf,hf2,hf3⟩<;>(try rw[t3 hf]at hf3)<;>(try rw[t1 hf]at hf3)<;>omega))
theorem ahw{s:List UInt8}{w:Wd}{nm:List UInt8}{l:List Int}(h:parse s=some (w,nm,l)):∃a,(a,w)∈oB∧Ng s=.dM [.str a,.str nm,.aI l.length (l.flatMap aT),.bool true]:=by
 unfold parse at h;unfold Ng;cases hsp:de 32 s with
 |nil=>rw[hsp]at h;cases h
 |cons a all =>
  rw[hsp]at h;simp only at h ⊢;cases hw:xR a with
  |none=>rw[hw]at h;cases h
  |some v =>
   rw[hw]at h;simp only at h;have hm:=C6 hw;have key:∀{nm':List UInt8} {r:List (List UInt8)},uh v nm' r=some (w,nm,l)→v=w∧Lg a nm' r=.dM [.str a,.str nm,.aI l.length (l.flatMap aT),.bool true]:=by
    intro nm' r h;unfold uh at h;unfold Lg;cases hn:oE r with
    |none=>rw[hn]at h;cases h
    |some ns =>
     rw[hn]at h;simp only at h ⊢;split at h
     ·rename_i hf;cases h;rw[agJ hm hf];exact⟨rfl,rfl⟩
     ·cases h
   have hnm:(a == [109,111,100,101,108] || a == [108,111,103])=v.named:=by
    have hm:=hm;simp only[oB,bf,an,List.not_mem_nil,or_false]at hm;rcases hm with⟨rfl,rfl⟩ | ⟨rfl,rfl⟩ | ⟨rfl,rfl⟩ | ⟨rfl,rfl⟩ | ⟨rfl,rfl⟩ | ⟨rfl,rfl⟩ | ⟨rfl,rfl⟩ | ⟨rfl,rfl⟩ | ⟨rfl,rfl⟩ | ⟨rfl,rfl⟩ | ⟨rfl,rfl⟩ | ⟨rfl,rfl⟩ | ⟨rfl,rfl⟩<;>rfl
   rw[hnm];split at h
   ·rename_i hv;rw[if_pos hv];cases all with
    |nil=>cases h
    |cons n r =>
     obtain⟨rfl,h2⟩:=key h;exact⟨a,hm,h2⟩
   ·rename_i hv;rw[if_neg hv];obtain⟨rfl,h2⟩:=key h;exact⟨a,hm,h2⟩
theorem Kh(a nm:List UInt8)(r:List (List UInt8)):∃x y d f,Lg a nm r=.dM [.str x,.str y,d,.bool f]∧(d=.aG∨∃l:List Int,d=.aI l.length (l.flatMap aT)):=by
 unfold Lg;cases oE r with
 |none=>exact⟨_,_,_,_,rfl,.inl rfl⟩
 |some l=>exact⟨_,_,_,_,rfl,.inr ⟨l,rfl⟩⟩
theorem U7(s:List UInt8):∃x y d f,Ng s=.dM [.str x,.str y,d,.bool f]∧(d=.aG∨∃l:List Int,d=.aI l.length (l.flatMap aT)):=by
 unfold Ng;cases hsp:de 32 s with
 |nil=>exact absurd hsp (vh _ _)
 |cons a all =>
  simp only;split
  ·cases all with
   |nil=>exact⟨_,_,_,_,rfl,.inl rfl⟩
   |cons n r=>exact Kh _ _ _
  ·exact Kh _ _ _
theorem Q1{b:Bk}(h:∀r∈b.rules,r.ok=true)(k:Nat)(nm:List UInt8)(l:List Int):∀r∈(wh b k nm l).1.rules,r.ok=true:=by
 unfold wh;split
 ·split
  ·unfold yi;split
   ·split<;>exact h
   ·exact h
  ·exact h
 ·unfold ym;split
  ·split<;>exact h
  ·exact h
 ·split
  ·unfold H5;split
   ·exact h
   ·split<;>exact h
  ·exact h
 ·split
  ·unfold zk;split
   ·split<;>exact h
   ·exact h
  ·exact h
 ·unfold yj;split
  ·split
   ·exact h
   ·split
    ·split<;>exact h
    ·exact h
  ·exact h
 ·split
  ·unfold H6;split
   ·exact h
   ·split<;>exact h
  ·exact h
 ·unfold Cs;split
  ·split
   ·split
    ·rename_i h2;intro r hr;rcases bg.1 hr with hr | hr
     ·exact h r hr
     ·rw[List.mem_singleton.1 hr];exact h2
    ·exact h
   ·exact h
  ·exact h
 ·split
  ·split<;>exact h
  ·exact h
 ·unfold yk;split
  ·split<;>exact h
  ·exact h
 ·unfold wg;split
  ·exact h
  ·split
   ·split
    ·split
     ·split<;>exact h
     ·exact h
    ·exact h
   ·exact h
 ·split
  ·unfold zi;split
   ·exact h
   ·split
    ·split<;>exact h
    ·exact h
  ·exact h
 ·split
  ·unfold Ct;split
   ·split<;>exact h
   ·exact h
  ·exact h
 ·split
  ·unfold zj;split
   ·exact h
   ·split
    ·split<;>exact h
    ·exact h
  ·exact h
 ·exact h
theorem Qq{b:Bk}(h:∀r∈b.rules,r.ok=true)(k:Int)(s:List UInt8):∀r∈(oe b k s).1.rules,r.ok=true:=by
 unfold oe;cases parse s with
 |none=>exact h
 |some x=>exact Q1 (b:={b with at_:=k }) h _ _ _
theorem L8:∀{l:List (List UInt8)} {b:Bk} {k:Int},(∀r∈b.rules,r.ok=true)→∀r∈(sy b k l).1.rules,r.ok=true
 |[],b,k,h=>h
 |s::l,b,k,h=>L8 (l:=l) (Qq h k s)
theorem Km:∀{l:List (List UInt8)} {b:Bk} {k:Int} {i:Nat} {s:List UInt8},l[i]?=some s →
  (sy b k (l.take (i+1))).1=(oe (sy b k (l.take i)).1 (k+i) s).1∧(sy b k l).2[i]?=some (oe (sy b k (l.take i)).1 (k+i) s).2
 |[],b,k,i,s,h=>by simp at h
 |x::l,b,k,0,s,h=>by
  simp only[cc,ae]at h;subst h;simp[sy]
 |x::l,b,k,i+1,s,h=>by
  have ih:=Km (l:=l) (b:=(oe b k x).1) (k:=k+1) (i:=i) (s:=s) (by simpa using h);have e:k+1+(i:Int)=k+((i+1:Nat):Int):=by omega
  rw[e]at ih;simpa[sy]using ih
theorem ahZ{l:List (List UInt8)}{i:Nat}{s:List UInt8}{w:Wd}{nm:List UInt8}{ns:List Int}(hl:∀s∈l,s.length≤4000)(hc:l.length≤100)(hs:l[i]?=some s)(he:(mD l).2[i]?=some 0)(hp:parse s=some (w,nm,ns))(hw:w.k=9):
  (mD (l.take (i+1))).1.aw=(mD (l.take i)).1.aw++[ns.map (kG (AN (mD (l.take i)).1))] ∧
  Trem.fa (mD (l.take i)).1.rules (mD (l.take i)).1.wY (mD (l.take i)).1.aw.length=0∧∀n∈ns,-100000≤n∧n≤100000:=by
 obtain⟨h1,h2⟩:=Km (b:=rp) (k:=0) hs;have hKv:=Kk (l:=l.take i) (k:=0) Kv.zero fun s hs=>hl s (cV hs)
 have hru:=L8 (l:=l.take i) (b:=rp) (k:=0) (by intro r hr;cases hr);unfold mD at he ⊢;rw[h1];rw[he,ae]at h2;generalize (sy rp 0 (l.take i)).1=b at h2 hKv hru ⊢;have h2:=h2.symm;unfold oe at h2 ⊢;rw[hp]at h2 ⊢;simp only[hw]at h2 ⊢;have hd:wh {b with at_:=0+(i:Int) } 9 nm ns=wg {b with at_:=0+(i:Int) } ns:=rfl;rw[hd]at h2 ⊢;unfold wg at h2 ⊢;have hpl:=hKv.pl;have hlen:b.aw.length≤200:=by
  unfold uO at hpl;split at hpl
  ·cases hpl
  ·omega
 have hle:Trem.fa b.rules b.wY b.aw.length=0:=by
  unfold Trem.fa;have r1:=hKv.rules;have r2:fV b.rules Trem.dc.ok=true:=fW.2 hru;have r3:=hKv.wY;have r4:fV b.wY Trem.Ev.ok=true:=fW.2 hKv.Kr;have r5:Trem.cA (b.aw.length:Int) 0 1000000=true:=by simp[Trem.cA];omega
  rw[if_neg (by omega),r2,if_neg (by simp),if_neg (by omega),r4,if_neg (by simp),r5,if_neg (by simp)]
 split at h2
 ·cases h2
 rename_i c1;split at h2
 case isFalse=>cases h2
 rename_i c2;split at h2
 case isFalse=>cases h2
 rename_i c3;split at h2
 case isFalse=>cases h2
 rename_i c4;split at h2
 case isFalse=>rename_i c5;exact absurd h2 c5
 rename_i c5;rw[if_neg c1,if_pos c2,if_pos c3,if_pos c4,if_pos c5];exact⟨rfl,hle,fun n hn=>ba.1 (fW.1 c4 n hn)⟩
end
section
open Go Go.Abs Go.Rock Go.Book
variable {σ:SK}
def stB(b:Bk):List D:=[.int .i64 b.bO.f.x,.int .i64 b.bO.f.y,.int .i64 b.bO.f.z,.int .i64 b.bO.f.k,nl Rw.enc b.bO.cz,.int .i64 b.bO.bL,.int .i64 b.bO.lift,.int .i64 b.bO.deep,nl bJ.enc b.bO.ar,
 .aI b.av.length (b.av.flatMap nJ.enc),nl pE b.aw,.aI b.rules.length (b.rules.flatMap Trem.dc.enc),.aI b.wY.length (b.wY.flatMap Trem.Ev.enc),.int .i64 b.k0,.int .i64 b.k1,.int .i64 b.k2,
 .aI b.fg.length (b.fg.flatMap y7.enc),.aI b.nz.length (b.nz.flatMap We.enc)]
theorem Wq{α:Type}{f:α→List D}(h:∀x,D.bC (f x)=true)(l:List α):(nl f l).clean=true:=by
 unfold nl;split
 ·rfl
 ·simp[D.clean,ia h l]
theorem ko{α:Type}{f:α→List D}{w n:Nat}(hn:1<n)(hw:∀x,(f x).length=w)(hc:∀x,D.bC (f x)=true){l:List α}{j v m:Nat}{bs bs':List Abs.aF}(hσ:σ≠[])(hm:m=l.length)(hj:bs[j]?=some (.cells v (l.flatMap f)))(hb:bs.set j .dead=bs'):
  cG (σ.length-1) n (.sl σ.length j v 0 m w) (bs::σ)=(.aI m (l.flatMap f),bs'::σ):=by
 subst hb;subst hm;exact yz hn hw hc hσ hj
theorem UE{b:Bk}{er:List Int}(hσ:σ≠[]):cG (σ.length-1) 16 (.dM [.agg ((b.cells σ.length).take 18),.sl σ.length 7 er.length 0 er.length 1,.int .i64 0]) (b.bA σ.length er::σ) =
  (.dM [.agg (stB b),.aI er.length (er.flatMap aT),.int .i64 0],[.dead,.dead,.dead,.dead,.dead,.cells b.pj.length (b.pj.flatMap P0.enc),.cells 0 (b.cells σ.length),.dead]::σ):=by
 have c1:(nl Rw.enc b.bO.cz).clean=true:=Wq (fun _=>by simp[D.clean]) _;have c2:(nl bJ.enc b.bO.ar).clean=true:=Wq (fun _=>by simp[D.clean]) _;have c3:(nl pE b.aw).clean=true:=Wq (fun x=>by simp[pE,D.clean,bz]) _;have q1:∀x:nJ,D.bC x.enc=true:=fun x=>by simp[D.clean,bz]
 have q2:∀x:Trem.dc,D.bC x.enc=true:=fun x=>by simp[D.clean]
 have q3:∀x:Trem.Ev,D.bC x.enc=true:=fun x=>by simp[D.clean,ia (f:=Trem.wJ.enc) (fun _=>by simp[D.clean])]
 have q4:∀x:y7,D.bC x.enc=true:=fun x=>by simp[D.clean,ia (f:=Prt.enc) (fun _=>by simp[D.clean])]
 have q5:∀x:We,D.bC x.enc=true:=fun x=>by simp[D.clean]
 have q6:∀x:Int,D.bC (aT x)=true:=fun x=>by simp[aT,D.clean]
 generalize hA5:Abs.aF.cells b.pj.length (b.pj.flatMap P0.enc)=A5;generalize hA6:Abs.aF.cells 0 (b.cells σ.length)=A6;have f0:=ko (σ:=σ) (n:=14) (w:=4) (by omega) (fun _=>rfl) q1 (l:=b.av) (j:=0) (v:=b.av.length) (bs:=b.bA σ.length er) hσ rfl rfl rfl;have f1:=ko (σ:=σ) (n:=14) (w:=10) (by omega) (fun _=>rfl) q2 (l:=b.rules) (j:=1) (v:=b.rules.length) (bs:=(b.bA σ.length er).set 0 .dead) hσ rfl rfl rfl;have f2:=ko (σ:=σ) (n:=14) (w:=2) (by omega) (fun _=>rfl) q3 (l:=b.wY) (j:=2) (v:=b.wY.length) (bs:=((b.bA σ.length er).set 0 .dead).set 1 .dead) hσ rfl rfl rfl;have f3:=ko (σ:=σ) (n:=14) (w:=2) (by omega) (fun _=>rfl) q4 (l:=b.fg) (j:=3) (v:=b.fg.length) (bs:=(((b.bA σ.length er).set 0 .dead).set 1 .dead).set 2 .dead) hσ rfl rfl rfl;have f4:=ko (σ:=σ) (n:=14) (w:=6) (by omega) (fun _=>rfl) q5 (l:=b.nz) (j:=4) (v:=b.nz.length) (bs:=((((b.bA σ.length er).set 0 .dead).set 1 .dead).set 2 .dead).set 3 .dead) hσ rfl rfl rfl;have f5:=ko (σ:=σ) (n:=15) (w:=1) (by omega) (fun _=>rfl) q6 (l:=er) (j:=7) (v:=er.length) (bs:=(((((b.bA σ.length er).set 0 .dead).set 1 .dead).set 2 .dead).set 3 .dead).set 4 .dead) hσ rfl rfl rfl;have hi:∀(k:Int) (n:Nat) (S:SK),0<n→cG (σ.length-1) n (.int .i64 k) S=(.int .i64 k,S):=fun k n S hn=>ju (by rfl) hn
 rw[Da (by simp[Bk.cells,D.clean,D.bC]) (by omega)];simp only[wZ,zR];rw[Tf (by simp[Bk.cells,D.clean]) (by omega)];simp only[Bk.cells,List.take_succ_cons,List.take_zero,wZ,zR,Nat.reduceSub];simp only[hi _ 14 _ (by omega),ju c1 (show 0<14 by omega),ju c2 (show 0<14 by omega),ju c3 (show 0<14 by omega),f0,f1,f2,f3,f4,f5,hi _ 15 _ (by omega)];simp only[Bk.bA,List.set_cons_zero,List.set_cons_succ,hA5,stB];rw[← hA6]
theorem Vw{lines:List (List UInt8)}(hl:U0 lines)(hσ:σ≠[]):bx T (.call false nE [.aI lines.length (lines.flatMap eA)] σ) =
  some (.val (.dM [.agg (stB (mD lines).1),.aI lines.length ((mD lines).2.flatMap aT),.int .i64 0]) σ):=by
 refine aA KI vn.eq_1 rfl ?_;have hC:=fun S=>Vy (σ:=S) (l:=lines) (by have:=hl.1;omega)
 have hok:okB lines=true:=TF.2 hl;simp only[hok,if_true]at hC;have hR:=apE (σ:=σ) (lines:=lines) hl;have hlen:(mD lines).2.length=lines.length:=z6;have hf:=UE (σ:=σ) (b:=(mD lines).1) (er:=(mD lines).2) hσ;rw[hlen]at hf;generalize mD lines=r at hR hlen hf ⊢;obtain⟨b,er⟩:=r;simp only at hR hf hlen ⊢;simp only[Bk.cells,Bk.bA,List.take_succ_cons,List.take_zero]at hf hR;simp[-length_flatMap,-map_take,hC,hR];exact⟨_,hf⟩
theorem NH{s t:List UInt8}:bx T (.call false lV [.str s,.str t] σ)=some (.val (.bool (decide (t.length≤s.length) && (s.take t.length == t))) σ):=by
 refine aA Jl tK.eq_1 rfl ?_;by_cases h:t.length≤s.length
 ·have h':(t.length:Int)≤s.length:=by omega
  simp[-length_flatMap,-map_take,sw,h,h']
 ·have h':¬(t.length:Int)≤s.length:=by omega
  simp[-length_flatMap,-map_take,sw,h,h']
theorem aj9{l:List (List UInt8)}(hl:l.length≤9223372036854775807):∀(m i:Nat) (x y z:Int),i+m=l.length →
  WL T [0,3,4,5,6] false sB [(0,.aI l.length (l.flatMap eA)),(3,.int .i64 x),(4,.int .i64 y),(5,.int .i64 z),(6,.int .i64 i)] σ
   (fun x e σ'=>σ'=σ∧x=.exit 0∧get e 0=.aI l.length (l.flatMap eA)∧∃u v w,get e 3=.int .i64 u∧get e 4=.int .i64 v∧get e 5=.int .i64 w)
 |0,i,x,y,z,hi=>by
  refine aO sB.eq_1 ?_;have h1:¬i<l.length:=by omega
  simp[-length_flatMap,-map_take,h1]
 |m+1,i,x,y,z,hi=>by
  refine aO sB.eq_1 ?_;have h1:i<l.length:=by omega
  obtain⟨s,hs⟩:=gE h1;have a1:=bS (f:=eA) (w:=1) (fun _=>rfl) hs;simp only[eA,dL]at a1;have h4:=gq h1 (by omega);have hB:=fun t σ=>@NH σ s t
  have e1:((i+1:Nat):Int)=(i:Int)+1:=by omega
  have ih:=fun x y z=>aj9 hl m (i+1) x y z (by omega)
  rw[e1]at ih;rw[e1]at h4;generalize hv:(fun t:List UInt8=>decide (t.length≤s.length) && (s.take t.length == t))=v at hB;have hB':∀t σ,bx T (.call false lV [.str s,.str t] σ)=some (.val (.bool (v t)) σ):=fun t σ=>by rw[← hv];exact NH
  cases c1:v [109,111,100,101,108]<;>cases c2:v [116,105,99,107]<;>simp[-length_flatMap,-map_take,sw,h1,a1,h4,hB',c1,c2]<;>
   exact WL.to (ih _ _ _) rfl rfl fun x e σ' hh=>by simpa using hh
theorem avX{l:List (List UInt8)}(hl:l.length≤9223372036854775807)(σ:SK):∃v,bx T (.call false vO [.aI l.length (l.flatMap eA)] σ)=some (.val (.bool v) σ)∧(v=true→l.length≤103):=by
 obtain⟨x,e,σ',h1,rfl,rfl,g0,u,v,w,g3,g4,g5⟩:=aj9 (σ:=[]::σ) hl l.length 0 0 0 0 (by omega);refine⟨decide (v≤4) && (decide (w≤8) && (decide (u≤5000) && (decide ((l.length:Int)≤40) || (decide (u≤400) && decide ((l.length:Int)≤103))))),?_,fun h=>by simp only[af,cb,au]at h;omega⟩;refine aA NY yp.eq_1 rfl ?_;simp[-length_flatMap,-map_take];refine⟨_,_,_,by simpa using h1,?_⟩;by_cases c1:v≤4<;>by_cases c2:w≤8<;>by_cases c3:u≤5000<;>by_cases c4:(l.length:Int)≤40<;>by_cases c5:u≤400<;>by_cases c6:(l.length:Int)≤103<;>
  simp[-length_flatMap,-map_take,g0,g3,g4,g5,c1,c2,c3,c4,c5,c6]
end
end Go.Proofs.YtfgljaglidhjiaaGreatDoor
set_option maxRecDepth 1000000
namespace Go.Proofs.YtfgljaglidhjiaaGreatDoor
open List(length_flatMap map_take)
open Go Go.Abs
def qI(n:Int):D:=.int .i64 n
def JX:D:=(.aI 3 [(qI 100),(qI 101),(qI 419),(qI 2676),(qI 150),(qI 150),(qI 476),(qI 632),(qI 2746),(qI 300),(qI 200),(qI 1555),(qI 852),(qI 2793),(qI 600)])
def c8:aF:=.cells 0 []
def dq2:D:=(.aI 1 [(qI 0),(qI 500),(qI 5)])
def dq3:D:=(.aI 8 [(qI 8000),(qI 8000),(qI 500),(qI 400),(qI 900),(qI 400),(qI 0),(qI 10)])
def Uw:D:=(.sl 3 13 0 0 0 6)
def dq5:D:=(.aI 8 [(qI 8000),(qI 8000),(qI 500),(qI 400),(qI 900),(qI 500),(qI 0),(qI 10)])
def Ux:D:=(.sl 3 4 0 0 0 6)
def Vm:D:=(.sl 3 3 0 0 0 2)
def Wz:D:=(.sl 3 12 0 0 0 2)
def dq9:D:=(.sl 3 2 0 0 0 2)
def Om:D:=(.sl 3 14 2 0 2 4)
def On:D:=(.sl 3 11 0 0 0 2)
def Oo:D:=(.sl 3 1 0 0 0 10)
def aqd:D:=(.aI 2 [(.aI 1 [(qI (-50))]),(.aI 1 [(qI 50)])])
def Oq:D:=(.sl 3 9 2 0 2 4)
def Ot:D:=(.sl 3 5 2 0 2 4)
def Ou:D:=(.sl 3 0 2 0 2 4)
def Qd:D:=(.sl 3 10 0 0 0 10)
def Uu:D:=(.sl 3 10 1 0 1 10)
def Uv:D:=(.sl 3 1 1 0 1 10)
def b0:aF:=.cells 0 [(qI 0),(qI 0),(qI 0),(qI 0),.aG,(qI 0),(qI 0),(qI 0),.aG,(.sl 3 0 0 0 0 4),.aG,Oo,dq9,(qI 1000),(qI 500),(qI 0),Vm,Ux,(.bool false),(.sl 3 5 0 0 0 4),(qI 0)]
def b1:aF:=.cells 0 [(qI 2),(qI 1),(qI 1),(qI 4),.aG,(qI 0),(qI 0),(qI 0),.aG,(.sl 3 0 0 0 0 4),.aG,Oo,dq9,(qI 1000),(qI 500),(qI 0),Vm,Ux,(.bool false),(.sl 3 5 0 0 0 4),(qI 0)]
def b2:aF:=.cells 0 [(qI 2),(qI 1),(qI 1),(qI 4),JX,(qI 0),(qI 0),(qI 0),.aG,(.sl 3 0 0 0 0 4),.aG,Oo,dq9,(qI 1000),(qI 500),(qI 0),Vm,Ux,(.bool false),(.sl 3 5 0 0 0 4),(qI 1)]
def b3:aF:=.cells 0 [(qI 2),(qI 1),(qI 1),(qI 4),JX,(qI 1000),(qI 0),(qI 800),.aG,(.sl 3 0 0 0 0 4),.aG,Oo,dq9,(qI 1000),(qI 500),(qI 0),Vm,Ux,(.bool true),(.sl 3 5 0 0 0 4),(qI 2)]
def b4:aF:=.cells 3 [(qI 0),(qI 0),(qI 0)]
def b5:aF:=.cells 0 [(qI 2),(qI 1),(qI 1),(qI 4),JX,(qI 1000),(qI 0),(qI 800),dq2,(.sl 3 0 0 0 0 4),.aG,Oo,dq9,(qI 1000),(qI 500),(qI 0),Vm,Ux,(.bool true),(.sl 3 5 0 0 0 4),(qI 3)]
def b6:aF:=.cells 4 [(qI 0),(qI 0),(qI 0),(qI 0)]
def b7:aF:=.cells 1 [(.str [97]),dq3,(.bool true),(qI 0)]
def b8:aF:=.cells 1 [(qI 0),(qI 0),(qI 0),(qI 0)]
def b9:aF:=.cells 0 [(qI 2),(qI 1),(qI 1),(qI 4),JX,(qI 1000),(qI 0),(qI 800),dq2,(.sl 3 0 1 0 1 4),.aG,Oo,dq9,(qI 1000),(qI 500),(qI 0),Vm,Ux,(.bool true),(.sl 3 5 1 0 1 4),(qI 4)]
def b10:aF:=.cells 5 [(qI 0),(qI 0),(qI 0),(qI 0),(qI 0)]
def b11:aF:=.cells 2 [(.str [97]),dq3,(.bool true),(qI 0),(.str [98]),dq5,(.bool true),(qI 0)]
def b12:aF:=.cells 2 [(qI 0),(qI 0),(qI 0),(qI 0),(qI 0),(qI 0),(qI 0),(qI 0)]
def b13:aF:=.cells 0 [(qI 2),(qI 1),(qI 1),(qI 4),JX,(qI 1000),(qI 0),(qI 800),dq2,Ou,.aG,Oo,dq9,(qI 1000),(qI 500),(qI 0),Vm,Ux,(.bool true),Ot,(qI 5)]
def b14:aF:=.cells 6 [(qI 0),(qI 0),(qI 0),(qI 0),(qI 0),(qI 0)]
def BI:aF:=.cells 2 [(.str [97]),dq3,(.bool true),(qI 0),(.str [98]),dq5,(.bool false),(qI 6)]
def BJ:aF:=.cells 2 [(qI 0),(qI 0),(qI 0),(qI 0),(qI 6),(qI 500),(qI 390),(qI 410)]
def b17:aF:=.cells 0 [(qI 2),(qI 1),(qI 1),(qI 4),JX,(qI 1000),(qI 0),(qI 800),dq2,Ou,.aG,Oo,dq9,(qI 1000),(qI 500),(qI 0),Vm,Ux,(.bool true),Ot,(qI 6)]
def b18:aF:=.cells 7 [(qI 0),(qI 0),(qI 0),(qI 0),(qI 0),(qI 0),(qI 0)]
def xT:aF:=.cells 1 [(qI 0),(qI 0),(qI 0),(qI 9),(qI 9),(qI 9),(qI 20),(qI 5),(qI 1),(.int .u8 (1))]
def b20:aF:=.cells 0 [(qI 2),(qI 1),(qI 1),(qI 4),JX,(qI 1000),(qI 0),(qI 800),dq2,Ou,.aG,Uv,dq9,(qI 1000),(qI 500),(qI 0),Vm,Ux,(.bool true),Ot,(qI 7)]
def b21:aF:=.cells 8 [(qI 0),(qI 0),(qI 0),(qI 0),(qI 0),(qI 0),(qI 0),(qI 0)]
def zw:aF:=.cells 1 [(qI 0),(.aI 1 [(qI 1),(qI 1),(qI 1),(qI 25)])]
def b23:aF:=.cells 0 [(qI 2),(qI 1),(qI 1),(qI 4),JX,(qI 1000),(qI 0),(qI 800),dq2,Ou,.aG,Uv,(.sl 3 2 1 0 1 2),(qI 1000),(qI 500),(qI 0),Vm,Ux,(.bool true),Ot,(qI 8)]
def b24:aF:=.cells 9 [(qI 0),(qI 0),(qI 0),(qI 0),(qI 0),(qI 0),(qI 0),(qI 0),(qI 0)]
def b25:aF:=.cells 0 [(qI 2),(qI 1),(qI 1),(qI 4),JX,(qI 1000),(qI 0),(qI 800),dq2,Ou,(.aI 1 [(.aI 1 [(qI (-50))])]),Uv,(.sl 3 2 1 0 1 2),(qI 1000),(qI 500),(qI 0),Vm,Ux,(.bool true),Ot,(qI 9)]
def b26:aF:=.cells 10 [(qI 0),(qI 0),(qI 0),(qI 0),(qI 0),(qI 0),(qI 0),(qI 0),(qI 0),(qI 0)]
def b27:aF:=.cells 0 [(qI 2),(qI 1),(qI 1),(qI 4),JX,(qI 1000),(qI 0),(qI 800),dq2,Ou,aqd,Uv,(.sl 3 2 1 0 1 2),(qI 1000),(qI 500),(qI 0),Vm,Ux,(.bool true),Ot,(qI 10)]
def b28:aF:=.cells 11 [(qI 0),(qI 0),(qI 0),(qI 0),(qI 0),(qI 0),(qI 0),(qI 0),(qI 0),(qI 0),(qI 0)]
def Fq:aF:=.cells 1 [(qI 0),(.aI 1 [(qI 100),(qI 400)])]
def b30:aF:=.cells 0 [(qI 2),(qI 1),(qI 1),(qI 4),JX,(qI 1000),(qI 0),(qI 800),dq2,Ou,aqd,Uv,(.sl 3 2 1 0 1 2),(qI 1000),(qI 500),(qI 0),(.sl 3 3 1 0 1 2),Ux,(.bool true),Ot,(qI 11)]
def b31:aF:=.cells 12 [(qI 0),(qI 0),(qI 0),(qI 0),(qI 0),(qI 0),(qI 0),(qI 0),(qI 0),(qI 0),(qI 0),(qI 0)]
def II:aF:=.cells 1 [(qI 2),(qI 0),(qI 4000),(qI 4000),(qI 12000),(qI 12000)]
def IJ:aF:=.cells 0 [(qI 2),(qI 1),(qI 1),(qI 4),JX,(qI 1000),(qI 0),(qI 800),dq2,Ou,aqd,Uv,(.sl 3 2 1 0 1 2),(qI 1000),(qI 500),(qI 0),(.sl 3 3 1 0 1 2),(.sl 3 4 1 0 1 6),(.bool true),Ot,(qI 12)]
def IT:aF:=.cells 13 [(qI 0),(qI 0),(qI 0),(qI 0),(qI 0),(qI 0),(qI 0),(qI 0),(qI 0),(qI 0),(qI 0),(qI 0),(qI 0)]
def IU:aF:=.cells 1 [(.str [102,105,101,108,100,32,50,32,49,32,49,32,52]),(.str [116,97,98,108,101,32,49,48,48,32,49,48,49,32,52,49,57,32,50,54,55,54,32,49,53,48,32,49,53,48,32,52,55,54,32,54,51,50,32,50,55,52,54,32,51,48,48,32,50,48,48,32,49,53,53,53,32,56,53,50,32,50,55,57,51,32,54,48,48]),(.str [98,101,100,32,49,48,48,48,32,48,32,56,48,48]),(.str [109,111,100,101,108,32,97,32,56,48,48,48,32,56,48,48,48,32,53,48,48,32,52,48,48,32,57,48,48,32,52,48,48,32,48,32,49,48]),(.str [109,111,100,101,108,32,98,32,56,48,48,48,32,56,48,48,48,32,53,48,48,32,52,48,48,32,57,48,48,32,53,48,48,32,48,32,49,48]),(.str [108,111,103,32,116,49,32,50,32,51,57,48,32,52,49,48,32,49,32,49]),(.str [114,117,108,101,32,48,32,48,32,48,32,57,32,57,32,57,32,50,48,32,53,32,49,32,49]),(.str [113,117,97,107,101,32,49,32,49,32,49,32,50,53]),(.str [116,105,99,107,32,45,49,48,48]),(.str [116,105,99,107,32,53,48]),(.str [117,110,105,116,32,48,32,49,48,48,32,52,48,48]),(.str [115,101,108,108,32,48,32,48,32,48,32,51]),(.str [])]
def b36:aF:=.cells 0 [(qI 0),(qI 0),(qI 0),(qI 0),.aG,(qI 0),(qI 0),(qI 0),.aG,(.sl 3 9 0 0 0 4),.aG,Qd,On,(qI 1000),(qI 500),(qI 0),Wz,Uw,(.bool false),(.sl 3 14 0 0 0 4),(qI 0)]
def b37:aF:=.cells 0 [(qI 2),(qI 1),(qI 1),(qI 4),.aG,(qI 0),(qI 0),(qI 0),.aG,(.sl 3 9 0 0 0 4),.aG,Qd,On,(qI 1000),(qI 500),(qI 0),Wz,Uw,(.bool false),(.sl 3 14 0 0 0 4),(qI 0)]
def b38:aF:=.cells 0 [(qI 2),(qI 1),(qI 1),(qI 4),JX,(qI 0),(qI 0),(qI 0),.aG,(.sl 3 9 0 0 0 4),.aG,Qd,On,(qI 1000),(qI 500),(qI 0),Wz,Uw,(.bool false),(.sl 3 14 0 0 0 4),(qI 1)]
def b39:aF:=.cells 0 [(qI 2),(qI 1),(qI 1),(qI 4),JX,(qI 1000),(qI 0),(qI 800),.aG,(.sl 3 9 0 0 0 4),.aG,Qd,On,(qI 1000),(qI 500),(qI 0),Wz,Uw,(.bool true),(.sl 3 14 0 0 0 4),(qI 2)]
def b40:aF:=.cells 0 [(qI 2),(qI 1),(qI 1),(qI 4),JX,(qI 1000),(qI 0),(qI 800),.aG,(.sl 3 9 1 0 1 4),.aG,Qd,On,(qI 1000),(qI 500),(qI 0),Wz,Uw,(.bool true),(.sl 3 14 1 0 1 4),(qI 3)]
def b41:aF:=.cells 0 [(qI 2),(qI 1),(qI 1),(qI 4),JX,(qI 1000),(qI 0),(qI 800),.aG,Oq,.aG,Qd,On,(qI 1000),(qI 500),(qI 0),Wz,Uw,(.bool true),Om,(qI 4)]
def Uk:aF:=.cells 2 [(.str [97]),dq3,(.bool true),(qI 0),(.str [98]),dq5,(.bool false),(qI 5)]
def Ul:aF:=.cells 2 [(qI 0),(qI 0),(qI 0),(qI 0),(qI 5),(qI 500),(qI 390),(qI 410)]
def b44:aF:=.cells 0 [(qI 2),(qI 1),(qI 1),(qI 4),JX,(qI 1000),(qI 0),(qI 800),.aG,Oq,.aG,Qd,On,(qI 1000),(qI 500),(qI 0),Wz,Uw,(.bool true),Om,(qI 5)]
def b45:aF:=.cells 0 [(qI 2),(qI 1),(qI 1),(qI 4),JX,(qI 1000),(qI 0),(qI 800),.aG,Oq,.aG,Uu,On,(qI 1000),(qI 500),(qI 0),Wz,Uw,(.bool true),Om,(qI 6)]
def b46:aF:=.cells 0 [(qI 2),(qI 1),(qI 1),(qI 4),JX,(qI 1000),(qI 0),(qI 800),.aG,Oq,.aG,Uu,(.sl 3 11 1 0 1 2),(qI 1000),(qI 500),(qI 0),Wz,Uw,(.bool true),Om,(qI 7)]
def b47:aF:=.cells 0 [(qI 2),(qI 1),(qI 1),(qI 4),JX,(qI 1000),(qI 0),(qI 800),.aG,Oq,.aG,Uu,(.sl 3 11 1 0 1 2),(qI 1000),(qI 500),(qI 0),Wz,Uw,(.bool true),Om,(qI 8)]
def b48:aF:=.cells 9 [(qI 0),(qI 0),(qI 0),(qI 0),(qI 0),(qI 0),(qI 0),(qI 0),(qI 1)]
def b49:aF:=.cells 0 [(qI 2),(qI 1),(qI 1),(qI 4),JX,(qI 1000),(qI 0),(qI 800),.aG,Oq,.aG,Uu,(.sl 3 11 1 0 1 2),(qI 1000),(qI 500),(qI 0),Wz,Uw,(.bool true),Om,(qI 9)]
def b50:aF:=.cells 10 [(qI 0),(qI 0),(qI 0),(qI 0),(qI 0),(qI 0),(qI 0),(qI 0),(qI 1),(qI 1)]
def b51:aF:=.cells 0 [(qI 2),(qI 1),(qI 1),(qI 4),JX,(qI 1000),(qI 0),(qI 800),.aG,Oq,.aG,Uu,(.sl 3 11 1 0 1 2),(qI 1000),(qI 500),(qI 0),(.sl 3 12 1 0 1 2),Uw,(.bool true),Om,(qI 10)]
def b52:aF:=.cells 11 [(qI 0),(qI 0),(qI 0),(qI 0),(qI 0),(qI 0),(qI 0),(qI 0),(qI 1),(qI 1),(qI 0)]
def b53:aF:=.cells 0 [(qI 2),(qI 1),(qI 1),(qI 4),JX,(qI 1000),(qI 0),(qI 800),.aG,Oq,.aG,Uu,(.sl 3 11 1 0 1 2),(qI 1000),(qI 500),(qI 0),(.sl 3 12 1 0 1 2),Uw,(.bool true),Om,(qI 11)]
def s0(F G:List aF):SK:=[[c8,c8,c8,c8,c8,c8,b0,c8],[],F,G]
def s1(F G:List aF):SK:=[[c8,c8,c8,c8,c8,c8,b1,c8],[],F,G]
def s2(F G:List aF):SK:=[[c8,c8,c8,c8,c8,c8,b1,.cells 1 [(qI 0)]],[],F,G]
def s3(F G:List aF):SK:=[[c8,c8,c8,c8,c8,c8,b2,.cells 1 [(qI 0)]],[],F,G]
def s4(F G:List aF):SK:=[[c8,c8,c8,c8,c8,c8,b2,.cells 2 [(qI 0),(qI 0)]],[],F,G]
def s5(F G:List aF):SK:=[[c8,c8,c8,c8,c8,c8,b3,.cells 2 [(qI 0),(qI 0)]],[],F,G]
def s6(F G:List aF):SK:=[[c8,c8,c8,c8,c8,c8,b3,b4],[],F,G]
def s7(F G:List aF):SK:=[[c8,c8,c8,c8,c8,c8,b5,b4],[],F,G]
def s8(F G:List aF):SK:=[[c8,c8,c8,c8,c8,c8,b5,b6],[],F,G]
def s9(F G:List aF):SK:=[[b7,c8,c8,c8,c8,b8,b9,b6],[],F,G]
def s10(F G:List aF):SK:=[[b7,c8,c8,c8,c8,b8,b9,b10],[],F,G]
def s11(F G:List aF):SK:=[[b11,c8,c8,c8,c8,b12,b13,b10],[],F,G]
def s12(F G:List aF):SK:=[[b11,c8,c8,c8,c8,b12,b13,b14],[],F,G]
def s13(F G:List aF):SK:=[[BI,c8,c8,c8,c8,BJ,b17,b14],[],F,G]
def s14(F G:List aF):SK:=[[BI,c8,c8,c8,c8,BJ,b17,b18],[],F,G]
def s15(F G:List aF):SK:=[[BI,xT,c8,c8,c8,BJ,b20,b18],[],F,G]
def s16(F G:List aF):SK:=[[BI,xT,c8,c8,c8,BJ,b20,b21],[],F,G]
def s17(F G:List aF):SK:=[[BI,xT,zw,c8,c8,BJ,b23,b21],[],F,G]
def s18(F G:List aF):SK:=[[BI,xT,zw,c8,c8,BJ,b23,b24],[],F,G]
def s19(F G:List aF):SK:=[[BI,xT,zw,c8,c8,BJ,b25,b24],[],F,G]
def s20(F G:List aF):SK:=[[BI,xT,zw,c8,c8,BJ,b25,b26],[],F,G]
def s21(F G:List aF):SK:=[[BI,xT,zw,c8,c8,BJ,b27,b26],[],F,G]
def s22(F G:List aF):SK:=[[BI,xT,zw,c8,c8,BJ,b27,b28],[],F,G]
def s23(F G:List aF):SK:=[[BI,xT,zw,Fq,c8,BJ,b30,b28],[],F,G]
def s24(F G:List aF):SK:=[[BI,xT,zw,Fq,c8,BJ,b30,b31],[],F,G]
def s25(F G:List aF):SK:=[[BI,xT,zw,Fq,II,BJ,IJ,b31],[],F,G]
def s26(F G:List aF):SK:=[[BI,xT,zw,Fq,II,BJ,IJ,IT,IU,c8,c8,c8,c8,c8,c8,b36,c8],[],F,G]
def s27(F G:List aF):SK:=[[BI,xT,zw,Fq,II,BJ,IJ,IT,IU,c8,c8,c8,c8,c8,c8,b37,c8],[],F,G]
def s28(F G:List aF):SK:=[[BI,xT,zw,Fq,II,BJ,IJ,IT,IU,c8,c8,c8,c8,c8,c8,b37,.cells 1 [(qI 0)]],[],F,G]
def s29(F G:List aF):SK:=[[BI,xT,zw,Fq,II,BJ,IJ,IT,IU,c8,c8,c8,c8,c8,c8,b38,.cells 1 [(qI 0)]],[],F,G]
def s30(F G:List aF):SK:=[[BI,xT,zw,Fq,II,BJ,IJ,IT,IU,c8,c8,c8,c8,c8,c8,b38,.cells 2 [(qI 0),(qI 0)]],[],F,G]
def s31(F G:List aF):SK:=[[BI,xT,zw,Fq,II,BJ,IJ,IT,IU,c8,c8,c8,c8,c8,c8,b39,.cells 2 [(qI 0),(qI 0)]],[],F,G]
def s32(F G:List aF):SK:=[[BI,xT,zw,Fq,II,BJ,IJ,IT,IU,c8,c8,c8,c8,c8,c8,b39,b4],[],F,G]
def s33(F G:List aF):SK:=[[BI,xT,zw,Fq,II,BJ,IJ,IT,IU,b7,c8,c8,c8,c8,b8,b40,b4],[],F,G]
def s34(F G:List aF):SK:=[[BI,xT,zw,Fq,II,BJ,IJ,IT,IU,b7,c8,c8,c8,c8,b8,b40,b6],[],F,G]
def s35(F G:List aF):SK:=[[BI,xT,zw,Fq,II,BJ,IJ,IT,IU,b11,c8,c8,c8,c8,b12,b41,b6],[],F,G]
def s36(F G:List aF):SK:=[[BI,xT,zw,Fq,II,BJ,IJ,IT,IU,b11,c8,c8,c8,c8,b12,b41,b10],[],F,G]
def s37(F G:List aF):SK:=[[BI,xT,zw,Fq,II,BJ,IJ,IT,IU,Uk,c8,c8,c8,c8,Ul,b44,b10],[],F,G]
def s38(F G:List aF):SK:=[[BI,xT,zw,Fq,II,BJ,IJ,IT,IU,Uk,c8,c8,c8,c8,Ul,b44,b14],[],F,G]
def s39(F G:List aF):SK:=[[BI,xT,zw,Fq,II,BJ,IJ,IT,IU,Uk,xT,c8,c8,c8,Ul,b45,b14],[],F,G]
def s40(F G:List aF):SK:=[[BI,xT,zw,Fq,II,BJ,IJ,IT,IU,Uk,xT,c8,c8,c8,Ul,b45,b18],[],F,G]
def s41(F G:List aF):SK:=[[BI,xT,zw,Fq,II,BJ,IJ,IT,IU,Uk,xT,zw,c8,c8,Ul,b46,b18],[],F,G]
def s42(F G:List aF):SK:=[[BI,xT,zw,Fq,II,BJ,IJ,IT,IU,Uk,xT,zw,c8,c8,Ul,b46,b21],[],F,G]
def s43(F G:List aF):SK:=[[BI,xT,zw,Fq,II,BJ,IJ,IT,IU,Uk,xT,zw,c8,c8,Ul,b47,b21],[],F,G]
def s44(F G:List aF):SK:=[[BI,xT,zw,Fq,II,BJ,IJ,IT,IU,Uk,xT,zw,c8,c8,Ul,b47,b48],[],F,G]
def s45(F G:List aF):SK:=[[BI,xT,zw,Fq,II,BJ,IJ,IT,IU,Uk,xT,zw,c8,c8,Ul,b49,b48],[],F,G]
def s46(F G:List aF):SK:=[[BI,xT,zw,Fq,II,BJ,IJ,IT,IU,Uk,xT,zw,c8,c8,Ul,b49,b50],[],F,G]
def s47(F G:List aF):SK:=[[BI,xT,zw,Fq,II,BJ,IJ,IT,IU,Uk,xT,zw,Fq,c8,Ul,b51,b50],[],F,G]
def s48(F G:List aF):SK:=[[BI,xT,zw,Fq,II,BJ,IJ,IT,IU,Uk,xT,zw,Fq,c8,Ul,b51,b52],[],F,G]
def s49(F G:List aF):SK:=[[BI,xT,zw,Fq,II,BJ,IJ,IT,IU,Uk,xT,zw,Fq,c8,Ul,b53,b52],[],F,G]
def wm0(F G:List aF):pL:=⟨aM,[(.ref 3 6 0 0),(qI 0),(.str [102,105,101,108,100,32,50,32,49,32,49,32,52])],s0 F G,(qI 0),s1 F G⟩
def wm1(F G:List aF):pL:=⟨aM,[(.ref 3 6 0 0),(qI 1),(.str [116,97,98,108,101,32,49,48,48,32,49,48,49,32,52,49,57,32,50,54,55,54,32,49,53,48,32,49,53,48,32,52,55,54,32,54,51,50,32,50,55,52,54,32,51,48,48,32,50,48,48,32,49,53,53,53,32,56,53,50,32,50,55,57,51,32,54,48,48])],s2 F G,(qI 0),s3 F G⟩
def wm2(F G:List aF):pL:=⟨aM,[(.ref 3 6 0 0),(qI 2),(.str [98,101,100,32,49,48,48,48,32,48,32,56,48,48])],s4 F G,(qI 0),s5 F G⟩
def wm3(F G:List aF):pL:=⟨aM,[(.ref 3 6 0 0),(qI 3),(.str [119,101,108,108,32,48,32,53,48,48,32,53])],s6 F G,(qI 0),s7 F G⟩
def wm4(F G:List aF):pL:=⟨aM,[(.ref 3 6 0 0),(qI 4),(.str [109,111,100,101,108,32,97,32,56,48,48,48,32,56,48,48,48,32,53,48,48,32,52,48,48,32,57,48,48,32,52,48,48,32,48,32,49,48])],s8 F G,(qI 0),s9 F G⟩
def wm5(F G:List aF):pL:=⟨aM,[(.ref 3 6 0 0),(qI 5),(.str [109,111,100,101,108,32,98,32,56,48,48,48,32,56,48,48,48,32,53,48,48,32,52,48,48,32,57,48,48,32,53,48,48,32,48,32,49,48])],s10 F G,(qI 0),s11 F G⟩
def wm6(F G:List aF):pL:=⟨aM,[(.ref 3 6 0 0),(qI 6),(.str [108,111,103,32,116,49,32,50,32,51,57,48,32,52,49,48,32,49,32,49])],s12 F G,(qI 0),s13 F G⟩
def wm7(F G:List aF):pL:=⟨aM,[(.ref 3 6 0 0),(qI 7),(.str [114,117,108,101,32,48,32,48,32,48,32,57,32,57,32,57,32,50,48,32,53,32,49,32,49])],s14 F G,(qI 0),s15 F G⟩
def wm8(F G:List aF):pL:=⟨aM,[(.ref 3 6 0 0),(qI 8),(.str [113,117,97,107,101,32,49,32,49,32,49,32,50,53])],s16 F G,(qI 0),s17 F G⟩
def wm9(F G:List aF):pL:=⟨aM,[(.ref 3 6 0 0),(qI 9),(.str [116,105,99,107,32,45,49,48,48])],s18 F G,(qI 0),s19 F G⟩
def azr(F G:List aF):pL:=⟨aM,[(.ref 3 6 0 0),(qI 10),(.str [116,105,99,107,32,53,48])],s20 F G,(qI 0),s21 F G⟩
def azs(F G:List aF):pL:=⟨aM,[(.ref 3 6 0 0),(qI 11),(.str [117,110,105,116,32,48,32,49,48,48,32,52,48,48])],s22 F G,(qI 0),s23 F G⟩
def azt(F G:List aF):pL:=⟨aM,[(.ref 3 6 0 0),(qI 12),(.str [115,101,108,108,32,48,32,48,32,48,32,51])],s24 F G,(qI 0),s25 F G⟩
def azu(F G:List aF):pL:=⟨aM,[(.ref 3 15 0 0),(qI 0),(.str [102,105,101,108,100,32,50,32,49,32,49,32,52])],s26 F G,(qI 0),s27 F G⟩
def azv(F G:List aF):pL:=⟨aM,[(.ref 3 15 0 0),(qI 1),(.str [116,97,98,108,101,32,49,48,48,32,49,48,49,32,52,49,57,32,50,54,55,54,32,49,53,48,32,49,53,48,32,52,55,54,32,54,51,50,32,50,55,52,54,32,51,48,48,32,50,48,48,32,49,53,53,53,32,56,53,50,32,50,55,57,51,32,54,48,48])],s28 F G,(qI 0),s29 F G⟩
def azw(F G:List aF):pL:=⟨aM,[(.ref 3 15 0 0),(qI 2),(.str [98,101,100,32,49,48,48,48,32,48,32,56,48,48])],s30 F G,(qI 0),s31 F G⟩
def azx(F G:List aF):pL:=⟨aM,[(.ref 3 15 0 0),(qI 3),(.str [109,111,100,101,108,32,97,32,56,48,48,48,32,56,48,48,48,32,53,48,48,32,52,48,48,32,57,48,48,32,52,48,48,32,48,32,49,48])],s32 F G,(qI 0),s33 F G⟩
def azy(F G:List aF):pL:=⟨aM,[(.ref 3 15 0 0),(qI 4),(.str [109,111,100,101,108,32,98,32,56,48,48,48,32,56,48,48,48,32,53,48,48,32,52,48,48,32,57,48,48,32,53,48,48,32,48,32,49,48])],s34 F G,(qI 0),s35 F G⟩
def azz(F G:List aF):pL:=⟨aM,[(.ref 3 15 0 0),(qI 5),(.str [108,111,103,32,116,49,32,50,32,51,57,48,32,52,49,48,32,49,32,49])],s36 F G,(qI 0),s37 F G⟩
def azA(F G:List aF):pL:=⟨aM,[(.ref 3 15 0 0),(qI 6),(.str [114,117,108,101,32,48,32,48,32,48,32,57,32,57,32,57,32,50,48,32,53,32,49,32,49])],s38 F G,(qI 0),s39 F G⟩
def azB(F G:List aF):pL:=⟨aM,[(.ref 3 15 0 0),(qI 7),(.str [113,117,97,107,101,32,49,32,49,32,49,32,50,53])],s40 F G,(qI 0),s41 F G⟩
def azC(F G:List aF):pL:=⟨aM,[(.ref 3 15 0 0),(qI 8),(.str [116,105,99,107,32,45,49,48,48])],s42 F G,(qI 1),s43 F G⟩
def azD(F G:List aF):pL:=⟨aM,[(.ref 3 15 0 0),(qI 9),(.str [116,105,99,107,32,53,48])],s44 F G,(qI 1),s45 F G⟩
def azE(F G:List aF):pL:=⟨aM,[(.ref 3 15 0 0),(qI 10),(.str [117,110,105,116,32,48,32,49,48,48,32,52,48,48])],s46 F G,(qI 0),s47 F G⟩
def azF(F G:List aF):pL:=⟨aM,[(.ref 3 15 0 0),(qI 11),(.str [115,101,108,108,32,48,32,48,32,48,32,51])],s48 F G,(qI 8),s49 F G⟩
end Go.Proofs.YtfgljaglidhjiaaGreatDoor
set_option maxRecDepth 1000000
namespace Go.Proofs.YtfgljaglidhjiaaGreatDoor
open List(length_flatMap map_take)
open Go Go.Abs
theorem wk0:(wm0 [] []).Ok T:=dG.2 ⟨300,by kernel_rfl⟩
theorem wk5:(wm5 [] []).Ok T:=dG.2 ⟨300,by kernel_rfl⟩
theorem aBD:(azr [] []).Ok T:=dG.2 ⟨300,by kernel_rfl⟩
theorem aBI:(azw [] []).Ok T:=dG.2 ⟨300,by kernel_rfl⟩
theorem aBN:(azB [] []).Ok T:=dG.2 ⟨300,by kernel_rfl⟩
end Go.Proofs.YtfgljaglidhjiaaGreatDoor
set_option maxRecDepth 1000000
namespace Go.Proofs.YtfgljaglidhjiaaGreatDoor
open List(length_flatMap map_take)
open Go Go.Abs
theorem wk1:(wm1 [] []).Ok T:=dG.2 ⟨300,by kernel_rfl⟩
theorem wk6:(wm6 [] []).Ok T:=dG.2 ⟨300,by kernel_rfl⟩
theorem aBE:(azs [] []).Ok T:=dG.2 ⟨300,by kernel_rfl⟩
theorem aBJ:(azx [] []).Ok T:=dG.2 ⟨300,by kernel_rfl⟩
theorem aBO:(azC [] []).Ok T:=dG.2 ⟨300,by kernel_rfl⟩
end Go.Proofs.YtfgljaglidhjiaaGreatDoor
