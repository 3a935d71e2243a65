import Derived.Test.YtklfdfnoebnciaaGreatDoorTxt2
import Derived.Test.YtklfdfnoebnciaaGreatDoorTxt5
import Derived.Test.YtklfdfnoebnciaaGreatDoorBase20
import Derived.Test.YtklfdfnoebnciaaGreatDoorTab
import Derived.Test.YtklfdfnoebnciaaGreatDoorBase14
set_option linter.all false
namespace Go.Proofs.YtklfdfnoebnciaaGreatDoor
open List(length_flatMap map_take)
open Go Go.Abs Go.Book
variable {σ:SK}
def acM(l:List (List UInt8)):Prop:=l.length≤100∧∀s∈l,s.length≤4000
def akH:Elt (List UInt8):=⟨false,1,eJ,fun s => .str s,fun _=>rfl,fun _=>by simp[eJ],fun _=>rfl,fun _=>rfl,fun _=>rfl⟩
theorem Qa{s:List UInt8}:lim T (.call false gO [.str s] σ)=some (.val (.bool (decide (4000<s.length))) σ):=by
 refine au CP pz.eq_1 rfl ?_;have e:decide ((4000:Int)<(s.length:Int))=decide (4000<s.length):=by
  by_cases h:4000<s.length
  ·rw[decide_eq_true h,decide_eq_true (by omega)]
  ·rw[decide_eq_false h,decide_eq_false (by omega)]
 simp[-length_flatMap,-map_take,CM,e]
def okB(l:List (List UInt8)):Bool:=decide (l.length≤100) && !su l (fun s=>decide (4000<s.length))
theorem P9{l:List (List UInt8)}(hl:l.length≤1000000000):lim T (.call false o5 [.aE l.length (l.flatMap eJ)] σ)=some (.val (.int .i64 (if okB l then 0 else 3)) σ):=by
 refine au EY sd.eq_1 rfl ?_;have hC:=fun σ=>contains_of akH (T:=T) (f:=dV) (i:=iH) (l:=l) (p:=fun s=>decide (4000<s.length)) (fv:=.fn gO [] []) rfl rfl (by omega) (pw.fn fun s _ σ=>Qa) (σ:=σ)
 have hC':∀σ,lim T (.call false dV [.aE l.length (l.flatMap eJ),.fn gO [] []] σ)=some (.val (.bool (su l (fun s=>decide (4000<s.length)))) σ):=hC;unfold okB;by_cases h1:l.length≤100
 ·have h2:¬(100:Int)<l.length:=by omega
  cases h3:su l (fun s=>decide (4000<s.length))<;>rw[h3]at hC'<;>simp[-length_flatMap,-map_take,h1,h2,hC']
 ·have h2:(100:Int)<l.length:=by omega
  simp[-length_flatMap,-map_take,h1,h2]
theorem N7{l:List (List UInt8)}:okB l=true↔acM l:=by
 unfold okB acM;simp only[ae,ao,cX];constructor
 ·rintro⟨h1,h2⟩;refine⟨h1,fun s hs=>?_⟩;by_cases h:s.length≤4000
  ·exact h
  ·have h3:su l (fun s=>decide (4000<s.length))=true:=JT.2 ⟨s,hs,show decide (4000<s.length)=true from decide_eq_true (by omega)⟩;rw[h2]at h3;cases h3
 ·rintro⟨h1,h2⟩;refine⟨h1,?_⟩;cases h:su l (fun s=>decide (4000<s.length))with
  |false=>rfl
  |true =>
   obtain⟨s,hs,h3⟩:=JT.1 h;have:=h2 s hs;simp only[ao]at h3;omega
theorem MN{l:List (List UInt8)}(hl:l.length≤1000000000):∀(m i:Nat),i+m=l.length →
  WL T [0,3] false qY [(0,.aE l.length (l.flatMap eJ)),(3,.int .i64 i)] σ
   (fun x e σ'=>σ'=σ∧if su (l.drop i) (fun s=>decide (4000<s.length))then x=.ret∧get e 2=.bool false else x=.exit 0∧get e 0=.aE l.length (l.flatMap eJ))
 |0,i,hi=>by
  refine aH qY.eq_1 ?_;obtain rfl:i=l.length:=by omega
  have h2:l.drop l.length=[]:=az (by omega);simp[-length_flatMap,-map_take,h2,su]
 |m+1,i,hi=>by
  refine aH qY.eq_1 ?_;have h1:i<l.length:=by omega
  obtain⟨s,hs⟩:=gE h1;have a1:=cj (f:=eJ) (w:=1) (fun _=>rfl) hs;simp only[eJ,iw]at a1;have h4:=ga h1 (by omega);rw[dh hs];by_cases hc:4000<s.length
  ·have hc':(4000:Int)<s.length:=by omega
   simp[-length_flatMap,-map_take,CM,h1,a1,hc,hc',su]
  ·have hc':¬(4000:Int)<s.length:=by omega
   simp[-length_flatMap,-map_take,CM,h1,a1,h4,hc',su,hc];exact WL.to (MN hl m (i+1) (by omega)) (by simp) rfl fun x e σ' hh=>by simpa[su,hc]using hh
theorem OL{l:List (List UInt8)}(hl:l.length≤1000000000):lim T (.call false rW [.aE l.length (l.flatMap eJ)] σ)=some (.val (.bool (okB l)) σ):=by
 refine au G5 uR.eq_1 rfl ?_;simp[-length_flatMap,-map_take];refine WL.to (MN (σ:=[]::σ) hl l.length 0 (by omega)) (by simp) rfl ?_;rintro x e σ' ⟨rfl,hh⟩;rw[aJ]at hh;cases hc:su l (fun s=>decide (4000<s.length))
 ·rw[hc,if_neg (by simp)]at hh;obtain⟨rfl,g0⟩:=hh;by_cases h1:l.length≤100
  ·have h2:(l.length:Int)≤100:=by omega
   simp[-length_flatMap,-map_take,g0,okB,hc,h1,h2]
  ·have h2:¬(l.length:Int)≤100:=by omega
   simp[-length_flatMap,-map_take,g0,okB,hc,h1,h2]
 ·rw[hc,if_pos rfl]at hh;obtain⟨rfl,g2⟩:=hh;simp[g2,okB,hc]
end Go.Proofs.YtklfdfnoebnciaaGreatDoor
namespace Go.Proofs.YtklfdfnoebnciaaGreatDoor
open List(length_flatMap map_take)
open Go Go.Abs Go.Rock Go.Book
variable {σ:SK}
def stB(b:Bk):List D:=[.int .i64 b.bG.f.x,.int .i64 b.bG.f.y,.int .i64 b.bG.f.z,.int .i64 b.bG.f.k,nl Rw.enc b.bG.cc,.int .i64 b.bG.bD,.int .i64 b.bG.lift,.int .i64 b.bG.deep,nl bB.enc b.bG.ak,
 .aE b.an.length (b.an.flatMap nh.enc),nl pE b.av,.aE b.rules.length (b.rules.flatMap Trem.ec.enc),.aE b.yV.length (b.yV.flatMap Trem.Ev.enc),.int .i64 b.k0,.int .i64 b.k1,.int .i64 b.k2,
 .aE b.dI.length (b.dI.flatMap yc.enc),.aE b.cu.length (b.cu.flatMap GR.enc)]
theorem Q2{α:Type}{f:α→List D}(h:∀x,D.bu (f x)=true)(l:List α):(nl f l).clean=true:=by
 unfold nl;split
 ·rfl
 ·simp[D.clean,fZ h l]
theorem ko{α:Type}{f:α→List D}{w n:Nat}(hn:1<n)(hw:∀x,(f x).length=w)(hc:∀x,D.bu (f x)=true){l:List α}{j v m:Nat}{bs bs':List Abs.aG}(hσ:σ≠[])(hm:m=l.length)(hj:bs[j]?=some (.cells v (l.flatMap f)))(hb:bs.set j .dead=bs'):
  ck (σ.length-1) n (.sl σ.length j v 0 m w) (bs::σ)=(.aE m (l.flatMap f),bs'::σ):=by
 subst hb;subst hm;exact zU hn hw hc hσ hj
theorem Pa{b:Bk}{er:List Int}(hσ:σ≠[]):ck (σ.length-1) 16 (.dQ [.agg ((b.cells σ.length).take 18),.sl σ.length 7 er.length 0 er.length 1,.int .i64 0]) (b.bk σ.length er::σ) =
  (.dQ [.agg (stB b),.aE er.length (er.flatMap aU),.int .i64 0],[.dead,.dead,.dead,.dead,.dead,.cells b.oS.length (b.oS.flatMap Lx.enc),.cells 0 (b.cells σ.length),.dead]::σ):=by
 have c1:(nl Rw.enc b.bG.cc).clean=true:=Q2 (fun _=>by simp[D.clean]) _;have c2:(nl bB.enc b.bG.ak).clean=true:=Q2 (fun _=>by simp[D.clean]) _;have c3:(nl pE b.av).clean=true:=Q2 (fun x=>by simp[pE,D.clean,bj]) _;have q1:∀x:nh,D.bu x.enc=true:=fun x=>by simp[D.clean,bj]
 have q2:∀x:Trem.ec,D.bu x.enc=true:=fun x=>by simp[D.clean]
 have q3:∀x:Trem.Ev,D.bu x.enc=true:=fun x=>by simp[D.clean,fZ (f:=Trem.wc.enc) (fun _=>by simp[D.clean])]
 have q4:∀x:yc,D.bu x.enc=true:=fun x=>by simp[D.clean,fZ (f:=Prt.enc) (fun _=>by simp[D.clean])]
 have q5:∀x:GR,D.bu x.enc=true:=fun x=>by simp[D.clean]
 have q6:∀x:Int,D.bu (aU x)=true:=fun x=>by simp[aU,D.clean]
 generalize hA5:Abs.aG.cells b.oS.length (b.oS.flatMap Lx.enc)=A5;generalize hA6:Abs.aG.cells 0 (b.cells σ.length)=A6;have f0:=ko (σ:=σ) (n:=14) (w:=4) (by omega) (fun _=>rfl) q1 (l:=b.an) (j:=0) (v:=b.an.length) (bs:=b.bk σ.length er) hσ rfl rfl rfl;have f1:=ko (σ:=σ) (n:=14) (w:=10) (by omega) (fun _=>rfl) q2 (l:=b.rules) (j:=1) (v:=b.rules.length) (bs:=(b.bk σ.length er).set 0 .dead) hσ rfl rfl rfl;have f2:=ko (σ:=σ) (n:=14) (w:=2) (by omega) (fun _=>rfl) q3 (l:=b.yV) (j:=2) (v:=b.yV.length) (bs:=((b.bk σ.length er).set 0 .dead).set 1 .dead) hσ rfl rfl rfl;have f3:=ko (σ:=σ) (n:=14) (w:=2) (by omega) (fun _=>rfl) q4 (l:=b.dI) (j:=3) (v:=b.dI.length) (bs:=(((b.bk σ.length er).set 0 .dead).set 1 .dead).set 2 .dead) hσ rfl rfl rfl;have f4:=ko (σ:=σ) (n:=14) (w:=6) (by omega) (fun _=>rfl) q5 (l:=b.cu) (j:=4) (v:=b.cu.length) (bs:=((((b.bk σ.length er).set 0 .dead).set 1 .dead).set 2 .dead).set 3 .dead) hσ rfl rfl rfl;have f5:=ko (σ:=σ) (n:=15) (w:=1) (by omega) (fun _=>rfl) q6 (l:=er) (j:=7) (v:=er.length) (bs:=(((((b.bk σ.length er).set 0 .dead).set 1 .dead).set 2 .dead).set 3 .dead).set 4 .dead) hσ rfl rfl rfl;have hi:∀(k:Int) (n:Nat) (S:SK),0<n→ck (σ.length-1) n (.int .i64 k) S=(.int .i64 k,S):=fun k n S hn=>kV (by rfl) hn
 rw[Dh (by simp[Bk.cells,D.clean,D.bu]) (by omega)];simp only[we,yH];rw[IS (by simp[Bk.cells,D.clean]) (by omega)];simp only[Bk.cells,List.take_succ_cons,List.take_zero,we,yH,Nat.reduceSub];simp only[hi _ 14 _ (by omega),kV c1 (show 0<14 by omega),kV c2 (show 0<14 by omega),kV c3 (show 0<14 by omega),f0,f1,f2,f3,f4,f5,hi _ 15 _ (by omega)];simp only[Bk.bk,List.set_cons_zero,List.set_cons_succ,hA5,stB];rw[← hA6]
theorem P6{lines:List (List UInt8)}(hl:acM lines)(hσ:σ≠[]):lim T (.call false mY [.aE lines.length (lines.flatMap eJ)] σ) =
  some (.val (.dQ [.agg (stB (vn lines).1),.aE lines.length ((vn lines).2.flatMap aU),.int .i64 0]) σ):=by
 refine au G2 uO.eq_1 rfl ?_;have hC:=fun S=>P9 (σ:=S) (l:=lines) (by have:=hl.1;omega)
 have hok:okB lines=true:=N7.2 hl;simp only[hok,if_true]at hC;have hR:=aj6 (σ:=σ) (lines:=lines) hl;have hlen:(vn lines).2.length=lines.length:=Ie;have hf:=Pa (σ:=σ) (b:=(vn lines).1) (er:=(vn lines).2) hσ;rw[hlen]at hf;generalize vn lines=r at hR hlen hf ⊢;obtain⟨b,er⟩:=r;simp only at hR hf hlen ⊢;simp only[Bk.cells,Bk.bk,List.take_succ_cons,List.take_zero]at hf hR;simp[-length_flatMap,-map_take,hC,hR];exact⟨_,hf⟩
theorem Jy{s t:List UInt8}:lim T (.call false lu [.str s,.str t] σ)=some (.val (.bool (decide (t.length≤s.length) && (s.take t.length == t))) σ):=by
 refine au FK tu.eq_1 rfl ?_;by_cases h:t.length≤s.length
 ·have h':(t.length:Int)≤s.length:=by omega
  simp[-length_flatMap,-map_take,CM,h,h']
 ·have h':¬(t.length:Int)≤s.length:=by omega
  simp[-length_flatMap,-map_take,CM,h,h']
theorem adq{l:List (List UInt8)}(hl:l.length≤9223372036854775807):∀(m i:Nat) (x y z:Int),i+m=l.length →
  WL T [0,3,4,5,6] false sb [(0,.aE l.length (l.flatMap eJ)),(3,.int .i64 x),(4,.int .i64 y),(5,.int .i64 z),(6,.int .i64 i)] σ
   (fun x e σ'=>σ'=σ∧x=.exit 0∧get e 0=.aE l.length (l.flatMap eJ)∧∃u v w,get e 3=.int .i64 u∧get e 4=.int .i64 v∧get e 5=.int .i64 w)
 |0,i,x,y,z,hi=>by
  refine aH sb.eq_1 ?_;have h1:¬i<l.length:=by omega
  simp[-length_flatMap,-map_take,h1]
 |m+1,i,x,y,z,hi=>by
  refine aH sb.eq_1 ?_;have h1:i<l.length:=by omega
  obtain⟨s,hs⟩:=gE h1;have a1:=cj (f:=eJ) (w:=1) (fun _=>rfl) hs;simp only[eJ,iw]at a1;have h4:=ga h1 (by omega);have hB:=fun t σ=>@Jy σ s t
  have e1:((i+1:Nat):Int)=(i:Int)+1:=by omega
  have ih:=fun x y z=>adq hl m (i+1) x y z (by omega)
  rw[e1]at ih;rw[e1]at h4;generalize hv:(fun t:List UInt8=>decide (t.length≤s.length) && (s.take t.length == t))=v at hB;have hB':∀t σ,lim T (.call false lu [.str s,.str t] σ)=some (.val (.bool (v t)) σ):=fun t σ=>by rw[← hv];exact Jy
  cases c1:v [109,111,100,101,108]<;>cases c2:v [116,105,99,107]<;>simp[-length_flatMap,-map_take,CM,h1,a1,h4,hB',c1,c2]<;>
   exact WL.to (ih _ _ _) rfl rfl fun x e σ' hh=>by simpa using hh
theorem apI{l:List (List UInt8)}(hl:l.length≤9223372036854775807)(σ:SK):∃v,lim T (.call false vf [.aE l.length (l.flatMap eJ)] σ)=some (.val (.bool v) σ)∧(v=true→l.length≤103):=by
 obtain⟨x,e,σ',h1,rfl,rfl,g0,u,v,w,g3,g4,g5⟩:=adq (σ:=[]::σ) hl l.length 0 0 0 0 (by omega);refine⟨decide (v≤4) && (decide (w≤8) && (decide (u≤5000) && (decide ((l.length:Int)≤40) || (decide (u≤400) && decide ((l.length:Int)≤103))))),?_,fun h=>by simp only[ae,bW,ao]at h;omega⟩;refine au JO xq.eq_1 rfl ?_;simp[-length_flatMap,-map_take];refine⟨_,_,_,by simpa using h1,?_⟩;by_cases c1:v≤4<;>by_cases c2:w≤8<;>by_cases c3:u≤5000<;>by_cases c4:(l.length:Int)≤40<;>by_cases c5:u≤400<;>by_cases c6:(l.length:Int)≤103<;>
  simp[-length_flatMap,-map_take,g0,g3,g4,g5,c1,c2,c3,c4,c5,c6]
end Go.Proofs.YtklfdfnoebnciaaGreatDoor
namespace Go.Lease
open List(length_flatMap map_take)
open Go Go.Abs
@[simp] def aU(n:Int):List D:=[.int .i64 n]
def bT(n lo hi:Int):Bool:=decide (lo≤n) && decide (n≤hi)
theorem aR{n lo hi:Int}:bT n lo hi=true↔lo≤n∧n≤hi:=by simp[bT]
theorem aab{n lo hi:Int}(h:¬(lo≤n∧n≤hi)):bT n lo hi=false:=by
 cases hh:bT n lo hi
 ·rfl
 ·exact absurd (aR.1 hh) h
theorem Ra{α:Type}{l:List α}{i:Nat}{x:α}(hx:l[i]?=some x):l.drop i=x::l.drop (i+1):=by
 obtain⟨h,rfl⟩:=aw.1 hx;exact List.drop_eq_getElem_cons h
structure Gd where
 u:Int
 r:Int
@[simp] theorem Gd.eta(g:Gd):Gd.mk g.u g.r=g:=rfl
@[simp] def Gd.enc(g:Gd):List D:=[.int .i64 g.u,.int .i64 g.r]
structure Rl where
 least:Int
 l:List Gd
def Cy(prev:Int)(g:Gd):Bool:=bT g.u 1 1000000000000 && (bT g.r 0 1000 && !decide (g.u≤prev))
def pP:Int→List Gd→Bool
 |_,[]=>true
 |prev,g::l=>Cy prev g && pP g.u l
def yP(r:Rl):Bool:=pP 0 r.l && (bT r.least 0 1000000000000 && bT r.l.length 1 6)
theorem Di{p:Int}{g:Gd}:Cy p g=true↔(1≤g.u∧g.u≤1000000000000)∧(0≤g.r∧g.r≤1000)∧p<g.u:=by
 simp only[Cy,ae,aR,cX,decide_eq_false_iff_not];omega
def Hm(kg:Int):List Gd→Int→Int→Int
 |[],n,_=>n
 |g::l,n,fr=>Hm kg l (n+max 0 ((if l=[]then kg else min g.u kg)-fr)*g.r) (max fr (if l=[]then kg else min g.u kg))
def Ag(kg:Int):List Gd→Int→Int
 |[],_=>0
 |g::l,fr=>if l=[]∨kg≤g.u then(kg-fr)*g.r else(g.u-fr)*g.r+Ag kg l g.u
theorem Ic{kg:Int}:∀(l:List Gd) (n:Int),Hm kg l n kg=n
 |[],n=>rfl
 |g::l,n=>by
  have h1:max 0 ((if l=[]then kg else min g.u kg)-kg)=0:=by split<;>omega
  have h2:max kg (if l=[]then kg else min g.u kg)=kg:=by split<;>omega
  rw[Hm,h1,h2,Int.zero_mul,Int.add_zero,Ic l n]
theorem Og{kg:Int}:∀(l:List Gd) (n fr:Int),fr≤kg→pP fr l=true→Hm kg l n fr=n+Ag kg l fr
 |[],n,fr,_,_=>by simp[Hm,Ag]
 |g::l,n,fr,h,hg=>by
  simp only[pP,ae]at hg;have h1:=Di.1 hg.1;rw[Hm,Ag];by_cases hl:l=[]
  ·subst hl;simp only[if_true,true_or,Hm];rw[show max 0 (kg-fr)=kg-fr by omega]
  ·rw[if_neg hl];by_cases hk:kg≤g.u
   ·rw[if_pos (Or.inr hk),show min g.u kg=kg by omega,show max fr kg=kg by omega,show max 0 (kg-fr)=kg-fr by omega,Ic]
   ·rw[if_neg (by simp[hl,hk]),show min g.u kg=g.u by omega,show max fr g.u=g.u by omega,show max 0 (g.u-fr)=g.u-fr by omega,Og l _ g.u (by omega) hg.2];omega
theorem Fl{a r:Int}(h0:0≤a)(h:0≤r∧r≤1000):0≤a*r∧a*r≤1000*a:=by
 constructor
 ·exact dS h0 h.1
 ·have:=Int.mul_le_mul_of_nonneg_left h.2 h0;omega
theorem Jf{kg:Int}:∀(l:List Gd) (fr:Int),fr≤kg→pP fr l=true→0≤Ag kg l fr∧Ag kg l fr≤1000*(kg-fr)
 |[],fr,h,_=>by simp[Ag];omega
 |g::l,fr,h,hg=>by
  simp only[pP,ae]at hg;have h1:=Di.1 hg.1;rw[Ag];split
  ·have:=Fl (a:=kg-fr) (by omega) h1.2.1;omega
  ·rename_i hn;simp only[not_or]at hn;have h2:=Fl (a:=g.u-fr) (by omega) h1.2.1;have h3:=Jf (kg:=kg) l g.u (by omega) hg.2;omega
theorem Ib{a b:Int}(hab:a≤b):∀(l:List Gd) (fr:Int),fr≤a→pP fr l=true→Ag a l fr≤Ag b l fr
 |[],fr,_,_=>by simp[Ag]
 |g::l,fr,h,hg=>by
  simp only[pP,ae]at hg;have h1:=Di.1 hg.1;rw[Ag,Ag];by_cases hl:l=[]
  ·rw[if_pos (.inl hl),if_pos (.inl hl)];exact bK (by omega) h1.2.1.1
  ·by_cases ha:a≤g.u
   ·rw[if_pos (.inr ha)];by_cases hb:b≤g.u
    ·rw[if_pos (.inr hb)];exact bK (by omega) h1.2.1.1
    ·rw[if_neg (by simp[hl,hb])];have h2:=bK (show a-fr≤g.u-fr by omega) h1.2.1.1;have h3:=Jf l g.u (by omega:g.u≤b) hg.2;omega
   ·rw[if_neg (by simp[hl,ha]),if_neg (by simp[hl];omega)];have:=Ib hab l g.u (by omega) hg.2;omega
def roy(r:Rl)(kg price:Int):Int:=max r.least (Ag kg r.l 0*price / 1000000)
end Go.Lease
namespace Go.Proofs.YtklfdfnoebnciaaGreatDoor.Ls
open List(length_flatMap map_take)
open Go Go.Abs Go.Lease
variable {σ:SK}
theorem cp{a b c:Int}:lim T (.call false dU [.int .i64 a,.int .i64 b,.int .i64 c] σ)=some (.val (.bool (bT a b c)) σ):=by
 refine au FM tw.eq_1 rfl ?_;by_cases h:b≤a<;>simp[-length_flatMap,-map_take,h,bT]
theorem Is{a b c:Int}:lim T (.call false sD [.int .i64 a,.int .i64 b,.int .i64 c] σ)=some (.val (.bool (bT a b c)) σ):=by
 refine au Lw zm.eq_1 rfl ?_;by_cases h:b≤a<;>simp[-length_flatMap,-map_take,h,bT]
theorem CN{a:Int}:lim T (.call false mX [.int .i64 a] σ)=some (.val (.bool (bT a 0 1000000000000)) σ):=by
 refine au G1 uN.eq_1 rfl ?_;simp[-length_flatMap,-map_take,cp]
def ako(l:List Gd)(i:Nat)(p:Int):Prop:=(i=0→p=0)∧∀j,i=j+1→∃g,l[j]?=some g∧g.u=p
theorem prev_next{l:List Gd}{i:Nat}{g:Gd}(hx:l[i]?=some g):ako l (i+1) g.u:=⟨fun h=>by omega,fun j hj=>⟨g,by rw[show j=i by omega];exact hx,rfl⟩⟩
theorem Eb{l:List Gd}{i:Nat}{x:Gd}(hx:l[i]?=some x):(l.flatMap Gd.enc).drop (i*2)=.int .i64 x.u::.int .i64 x.r::(l.flatMap Gd.enc).drop (i*2+2):=by
 have:=zt (f:=Gd.enc) (w:=2) (fun _=>rfl) hx;simpa using this
theorem MP{r:Rl}(hl:r.l.length≤100):∀(m i:Nat) (p:Int),i+m=r.l.length→ako r.l i p →
  WL T [1,6,7,8] false lL [(1,.bw [.int .i64 r.least,.aE r.l.length (r.l.flatMap Gd.enc)]),(6,.aE r.l.length (r.l.flatMap Gd.enc)),(7,.int .i64 r.l.length),(8,.int .i64 i)] σ
   (fun x e σ'=>σ'=σ∧if pP p (r.l.drop i)then x=.exit 0∧get e 1=.bw [.int .i64 r.least,.aE r.l.length (r.l.flatMap Gd.enc)]else x=.ret∧get e 2=.bool false)
 |0,i,p,hi,hp=>by
  refine aH lL.eq_1 ?_;have h1:¬i<r.l.length:=by omega
  have h2:r.l.drop i=[]:=az (by omega);rw[h2];simp[-length_flatMap,-map_take,h1,pP]
 |m+1,i,p,hi,hp=>by
  refine aH lL.eq_1 ?_;have h1:i<r.l.length:=by omega
  obtain⟨g,hx⟩:=gE h1;have a1:=Eb hx;have w1:=ga h1 (by omega);have ih:=MP hl m (i+1) g.u (by omega) (prev_next hx);rw[Ra hx];have e1:pP p (g::r.l.drop (i+1))=(Cy p g && pP g.u (r.l.drop (i+1))):=rfl;rw[e1];generalize hG:pP g.u (r.l.drop (i+1))=G at *
  cases c1:bT g.u 1 1000000000000
  ·simp[-length_flatMap,-map_take,h1,a1,w1,cp,c1,Cy]
  cases c2:bT g.r 0 1000
  ·simp[-length_flatMap,-map_take,h1,a1,w1,cp,c1,c2,Cy]
  by_cases hz:0<i
  ·obtain⟨j,rfl⟩:∃j,i=j+1:=⟨i-1,by omega⟩;obtain⟨g',hx',rfl⟩:=hp.2 j rfl;have a2:=Eb hx';have hj:j<r.l.length:=by omega
   have w2:IntKind.i64.wrap (((j+1:Nat):Int)-1)=(j:Int):=by rw[show((j+1:Nat):Int)-1=j by omega];exact fK (by omega)
   generalize j+1=i at *
   by_cases c3:g.u≤g'.u
   ·simp[-length_flatMap,-map_take,h1,hj,a1,a2,w1,w2,hz,cp,c1,c2,c3,Cy]
   ·simp[-length_flatMap,-map_take,h1,hj,a1,a2,w1,w2,hz,cp,c1,c2,c3,Cy];refine WL.to ih (by simp) rfl ?_;exact fun x e σ' hh=>by simpa[c1,c2,c3]using hh
  ·have hp0:=hp.1 (by omega);subst hp0;have c3:¬g.u≤0:=by have:=aR.1 c1;omega
   simp[-length_flatMap,-map_take,h1,a1,w1,hz,cp,c1,c2,c3,Cy];refine WL.to ih (by simp) rfl ?_;exact fun x e σ' hh=>by simpa[c1,c2,c3]using hh
theorem ab1{r:Rl}(hl:r.l.length≤100):lim T (.call false lB [.agg [.int .i64 r.least,.aE r.l.length (r.l.flatMap Gd.enc)]] σ)=some (.val (.bool (yP r)) σ):=by
 refine au Cc oo.eq_1 rfl ?_;simp[-length_flatMap,-map_take];refine WL.to (MP (σ:=[]::σ) hl r.l.length 0 0 (by omega) ⟨fun _=>rfl,fun j hj=>by omega⟩) (by simp) rfl ?_;rintro x e σ' ⟨rfl,hh⟩;rw[aJ]at hh;cases hg:pP 0 r.l
 ·rw[hg]at hh;simp only[ar,if_false]at hh;obtain⟨rfl,g2⟩:=hh;simp[g2,yP,hg]
 ·rw[hg]at hh;simp only[if_true]at hh;obtain⟨rfl,g1⟩:=hh;cases c1:bT r.least 0 1000000000000
  ·simp[-length_flatMap,-map_take,g1,CN,cp,c1,yP,hg]
  ·simp[-length_flatMap,-map_take,g1,CN,cp,c1,yP,hg]
theorem EB{r:Rl}(hl:r.l.length≤100):∀(m i:Nat) (p:Int),i+m=r.l.length→ako r.l i p →
  WL T [1,3] false mz [(1,.bw [.int .i64 r.least,.aE r.l.length (r.l.flatMap Gd.enc)]),(3,.int .i64 i)] σ
   (fun x e σ'=>σ'=σ∧if pP p (r.l.drop i)then x=.exit 0∧get e 1=.bw [.int .i64 r.least,.aE r.l.length (r.l.flatMap Gd.enc)]else x=.ret∧get e 2=.bool false)
 |0,i,p,hi,hp=>by
  refine aH mz.eq_1 ?_;have h1:¬i<r.l.length:=by omega
  have h2:r.l.drop i=[]:=az (by omega);rw[h2];simp[-length_flatMap,-map_take,h1,pP]
 |m+1,i,p,hi,hp=>by
  refine aH mz.eq_1 ?_;have h1:i<r.l.length:=by omega
  obtain⟨g,hx⟩:=gE h1;have a1:=Eb hx;have w1:=ga h1 (by omega);have ih:=EB hl m (i+1) g.u (by omega) (prev_next hx);rw[Ra hx];have e1:pP p (g::r.l.drop (i+1))=(Cy p g && pP g.u (r.l.drop (i+1))):=rfl;rw[e1];generalize hG:pP g.u (r.l.drop (i+1))=G at *
  cases c1:bT g.u 1 1000000000000
  ·simp[-length_flatMap,-map_take,h1,a1,w1,Is,c1,Cy]
  cases c2:bT g.r 0 1000
  ·simp[-length_flatMap,-map_take,h1,a1,w1,Is,c1,c2,Cy]
  by_cases hz:0<i
  ·obtain⟨j,rfl⟩:∃j,i=j+1:=⟨i-1,by omega⟩;obtain⟨g',hx',rfl⟩:=hp.2 j rfl;have a2:=Eb hx';have hj:j<r.l.length:=by omega
   have w2:IntKind.i64.wrap (((j+1:Nat):Int)-1)=(j:Int):=by rw[show((j+1:Nat):Int)-1=j by omega];exact fK (by omega)
   generalize j+1=i at *
   by_cases c3:g.u≤g'.u
   ·simp[-length_flatMap,-map_take,h1,hj,a1,a2,w1,w2,hz,Is,c1,c2,c3,Cy]
   ·simp[-length_flatMap,-map_take,h1,hj,a1,a2,w1,w2,hz,Is,c1,c2,c3,Cy];refine WL.to ih (by simp) rfl ?_;exact fun x e σ' hh=>by simpa[c1,c2,c3]using hh
  ·have hp0:=hp.1 (by omega);subst hp0;have c3:¬g.u≤0:=by have:=aR.1 c1;omega
   simp[-length_flatMap,-map_take,h1,a1,w1,hz,Is,c1,c2,c3,Cy];refine WL.to ih (by simp) rfl ?_;exact fun x e σ' hh=>by simpa[c1,c2,c3]using hh
theorem Jx{r:Rl}(hl:r.l.length≤100):lim T (.call false mM [.agg [.int .i64 r.least,.aE r.l.length (r.l.flatMap Gd.enc)]] σ)=some (.val (.bool (yP r)) σ):=by
 refine au CT pC.eq_1 rfl ?_;simp[-length_flatMap,-map_take];refine WL.to (EB (σ:=[]::σ) hl r.l.length 0 0 (by omega) ⟨fun _=>rfl,fun j hj=>by omega⟩) (by simp) rfl ?_;rintro x e σ' ⟨rfl,hh⟩;rw[aJ]at hh;cases hg:pP 0 r.l
 ·rw[hg]at hh;simp only[ar,if_false]at hh;obtain⟨rfl,g2⟩:=hh;simp[g2,yP,hg]
 ·rw[hg]at hh;simp only[if_true]at hh;obtain⟨rfl,g1⟩:=hh;cases c1:bT r.least 0 1000000000000
  ·simp[-length_flatMap,-map_take,g1,Is,c1,yP,hg]
  ·by_cases c2:1≤r.l.length
   ·have c2':(1:Int)≤r.l.length:=by omega
    by_cases c3:(r.l.length:Int)≤6
    ·have c4:bT r.l.length 1 6=true:=aR.2 ⟨c2',c3⟩;simp[-length_flatMap,-map_take,g1,Is,c1,c2,c2',c3,c4,yP,hg]
    ·have c4:bT r.l.length 1 6=false:=aab (by omega);simp[-length_flatMap,-map_take,g1,Is,c1,c2,c2',c3,c4,yP,hg]
   ·have c2':¬(1:Int)≤r.l.length:=by omega
    have c4:bT r.l.length 1 6=false:=aab (by omega);simp[-length_flatMap,-map_take,g1,Is,c1,c2,c2',c4,yP,hg]
theorem QF{r:Rl}(hl:r.l.length≤100000):∀(m j v:Nat),j+m=r.l.length →
  WL T [1,2,3,4] false rZ [(1,.bw [.int .i64 r.least,.aE r.l.length (r.l.flatMap Gd.enc)]),(2,.own 0 [.int .i64 0,.aI]),(3,.own 0 [.int .i64 r.least,.sl σ.length 0 v 0 j 2]),(4,.int .i64 j)]
   ([.cells v ((r.l.take j).flatMap Gd.enc)]::σ)
   (fun x e σ'=>∃v',x=.exit 0∧get e 2=.own 0 [.int .i64 0,.aI]∧get e 3=.own 0 [.int .i64 r.least,.sl σ.length 0 v' 0 r.l.length 2]∧σ'=[.cells v' (r.l.flatMap Gd.enc)]::σ)
 |0,j,v,hi=>by
  refine aH rZ.eq_1 ?_;have h1:¬j<r.l.length:=by omega
  have h3:r.l.take j=r.l:=ah (by omega);have h4:j=r.l.length:=by omega
  subst h4;simp[-length_flatMap,-map_take]
 |m+1,j,v,hi=>by
  refine aH rZ.eq_1 ?_;have h1:j<r.l.length:=by omega
  obtain⟨x,hx⟩:=gE h1;have h2:=Eb hx;have h3:=O5 (f:=Gd.enc) (w:=2) (fun _=>rfl) (Nat.le_of_lt h1);have h4:=Bh (f:=Gd.enc) hx;have h5:=b9 (f:=Gd.enc) (w:=2) (fun _=>rfl) (r.l.take j);have h6:=ga h1 (by omega);have h7:(j+1)*16≤room:=by unfold room;omega
  have h8:min j r.l.length=j:=by omega
  have ih:=QF hl m (j+1) (v+1) (by omega);simp[-length_flatMap,-map_take,h1,h2,h3,h5,h6,h7,h8];refine WL.to ih (by simp) (by simp[← h4]) fun x e σ hh=>hh
theorem ajT{r:Rl}(hl:r.l.length≤100000)(hσ:σ≠[]):lim T (.call false oO [.agg [.int .i64 r.least,.aE r.l.length (r.l.flatMap Gd.enc)]] σ)=some (.val (.agg [.int .i64 r.least,.aE r.l.length (r.l.flatMap Gd.enc)]) σ):=by
 refine au IA vT.eq_1 rfl ?_;simp[-length_flatMap,-map_take];refine WL.to (QF (σ:=σ) hl r.l.length 0 0 (by omega)) (by simp) (by simp) ?_;rintro x e σ' ⟨v',rfl,g2,g3,rfl⟩;simp[-length_flatMap,-map_take,g2,g3];have h3:¬σ.length≤σ.length-1:=by have:=aO.2 hσ;omega
 have h6:=Gq (f:=Gd.enc) (w:=2) (fun _=>rfl) r.l;have h5:D.bu (r.l.flatMap Gd.enc)=true:=fZ (fun x=>by simp) _;rw[IS (by simp) (by omega)];simp only[we,yH];rw[AG h3 (cs:=r.l.flatMap Gd.enc) (by simp) (by omega)];simp[h6,h5]
theorem adu{r:Rl}(hl:r.l.length≤6)(hg:pP 0 r.l=true){kg price:Int}(hk:0≤kg∧kg≤1000000000000):∀(m i:Nat) (p n fr:Int),i+m=r.l.length→pP p (r.l.drop i)=true→0≤fr→fr≤kg→0≤n→n≤1000*fr →
  WL T [1,2,3,8,9,27,28,29] false nv [(1,.int .i64 kg),(2,.int .i64 price),(3,.bw [.int .i64 r.least,.aE r.l.length (r.l.flatMap Gd.enc)]),(8,.int .i64 n),(9,.int .i64 fr),(27,.aE r.l.length (r.l.flatMap Gd.enc)),(28,.int .i64 r.l.length),(29,.int .i64 i)] σ
   (fun x e σ'=>σ'=σ∧x=.exit 1∧get e 2=.int .i64 price∧get e 3=.bw [.int .i64 r.least,.aE r.l.length (r.l.flatMap Gd.enc)]∧get e 8=.int .i64 (Hm kg (r.l.drop i) n fr))
 |0,i,p,n,fr,hi,hd,h0,h1,h2,h3=>by
  refine aH nv.eq_1 ?_;have h4:¬i<r.l.length:=by omega
  have h5:r.l.drop i=[]:=az (by omega);rw[h5];simp[-length_flatMap,-map_take,h4,Hm]
 |m+1,i,p,n,fr,hi,hd,h0,h1,h2,h3=>by
  refine aH nv.eq_1 ?_;have h4:i<r.l.length:=by omega
  obtain⟨g,hx⟩:=gE h4;have a1:=Eb hx;have w1:=ga h4 (by omega);obtain⟨q,hq⟩:∃q,q=(r.l.length:Int)-1:=⟨_,rfl⟩;have w2:IntKind.i64.wrap ((r.l.length:Int)-1)=q:=by rw[hq];exact fK (by omega)
  rw[Ra hx]at hd ⊢;simp only[pP,ae]at hd;have hgd:=Di.1 hd.1;have hlast:(r.l.drop (i+1)=[])↔((i:Int)=q):=by
   rw[List.drop_eq_nil_iff];omega
  rw[Hm];obtain⟨to,hto⟩:∃to,(if r.l.drop (i+1)=[]then kg else min g.u kg)=to:=⟨_,rfl⟩;rw[hto];have hto1:to≤kg:=by rw[← hto];split<;>omega
  have hm:=Fl (a:=max 0 (to-fr)) (by omega) hgd.2.1;have ih:=adu (price:=price) hl hg hk m (i+1) g.u (n+max 0 (to-fr)*g.r) (max fr to) (by omega) hd.2 (by omega) (by omega) (by omega) (by omega);have w3:=fK (n:=to-fr) (by omega);have w4:=fK (n:=max 0 (to-fr)*g.r) (by omega);have w5:=fK (n:=n+max 0 (to-fr)*g.r) (by omega);by_cases hL:(i:Int)=q
  ·rw[if_pos (hlast.2 hL)]at hto;subst hto;rw[← hL]at w2;simp[-length_flatMap,-map_take,h4,a1,w1,w2,w3,w4,w5];refine WL.to ih (by simp) rfl ?_;exact fun x e σ' hh=>hh
  ·rw[if_neg (fun h=>hL (hlast.1 h))]at hto;simp[-length_flatMap,-map_take,h4,a1,w1,w2,hL,hto,w3,w4,w5];refine WL.to ih (by simp) rfl ?_;exact fun x e σ' hh=>hh
theorem atI{a:Int}(h:0≤a):a.tdiv 1000000=a / 1000000:=ba h
theorem aod{r:Rl}(hg:pP 0 r.l=true){kg price:Int}(hk:0≤kg∧kg≤1000000000000)(hp:0≤price∧price≤1000):0≤Ag kg r.l 0*price∧Ag kg r.l 0*price≤1000000000000000000:=by
 have h1:=Jf r.l 0 hk.1 hg;have:=Fl (r:=price) h1.1 hp;omega
def aoc(r:Rl)(kg price:Int):D:=if yP r then(if bT kg 0 1000000000000 && bT price 0 1000 then .dQ [.int .i64 (roy r kg price),.int .i64 0]else .dQ [.int .i64 0,.int .i64 2])else .dQ [.int .i64 0,.int .i64 1]
theorem OA{r:Rl}(hl:r.l.length≤100){kg price:Int}:lim T (.call false iy [.agg [.int .i64 r.least,.aE r.l.length (r.l.flatMap Gd.enc)],.int .i64 kg,.int .i64 price] σ)=some (.val (aoc r kg price) σ):=by
 refine au EX sc.eq_1 rfl ?_;have hV:=fun σ=>@ab1 σ r hl
 unfold aoc;cases c1:yP r
 ·simp[-length_flatMap,-map_take,hV,c1]
 cases c2:bT kg 0 1000000000000
 ·simp[-length_flatMap,-map_take,hV,c1,CN,cp,c2]
 cases c3:bT price 0 1000
 ·simp[-length_flatMap,-map_take,hV,c1,CN,cp,c2,c3]
 simp only[yP,ae,aR]at c1;have hk:=aR.1 c2;have hp:=aR.1 c3;have c1':yP r=true:=by simp only[yP,ae,aR];exact c1
 simp[-length_flatMap,-map_take,hV,c1',CN,cp,c2,c3];refine WL.to (adu (σ:=[]::σ) (price:=price) (by omega) c1.1 hk r.l.length 0 0 0 0 (by omega) c1.1 (by omega) hk.1 (by omega) (by omega)) (by simp) rfl ?_;rintro x e σ' ⟨rfl,rfl,g2,g3,g8⟩;rw[aJ,Og r.l 0 0 hk.1 c1.1,Int.zero_add]at g8;have hb:=aod c1.1 hk hp;have w1:=fK (n:=Ag kg r.l 0*price) (by omega);have w2:=fK (n:=Ag kg r.l 0*price / 1000000) (by omega);have w3:=atI hb.1;simp[-length_flatMap,-map_take,g2,g3,g8,w1,w2,w3,roy]
end Go.Proofs.YtklfdfnoebnciaaGreatDoor.Ls
set_option maxRecDepth 100000
namespace Go.Proofs.YtklfdfnoebnciaaGreatDoor
open List(length_flatMap map_take)
open Go Go.Abs
theorem aai:it T 200 (.call false qB [] [[.dead],[]])=some (.val (.bool true) [[.dead],[]]):=by kernel_rfl
theorem abM:lim T (.call false qB [] [[.dead],[]])=some (.val (.bool true) [[.dead],[]]):=tR.2 ⟨200,aai⟩
theorem aaj:it T 200 (.call false qB [] [[.dead,.dead,.dead],[]])=some (.val (.bool true) [[.dead,.dead,.dead],[]]):=by kernel_rfl
theorem abN:lim T (.call false qB [] [[.dead,.dead,.dead],[]])=some (.val (.bool true) [[.dead,.dead,.dead],[]]):=tR.2 ⟨200,aaj⟩
end Go.Proofs.YtklfdfnoebnciaaGreatDoor
set_option maxRecDepth 100000
namespace Go.Proofs.YtklfdfnoebnciaaGreatDoor
open List(length_flatMap map_take)
section
open Go Go.Abs Go.Rock Go.Book
variable {σ:SK}
def NV:List UInt8:=[107,101,101,112,32,57,32,56,32,55]
theorem aaY:vn [NV]=(⟨⟨⟨0,0,0,0⟩,[],0,0,0,[]⟩,[],[],[],[],9,8,7,[],[],false,[],0⟩,[0]):=by kernel_rfl
theorem abL(hσ:σ≠[]):lim T (.call false sV [] σ)=some (.val (.bool true) σ):=by
 refine au JQ xx.eq_1 rfl ?_;have hR:=P6 (σ:=[]::σ) (lines:=[NV]) ⟨by simp,by simp[NV]⟩ (by simp);rw[aaY]at hR;simp only[NV,stB,nl,aQ,cg,eJ,aU,cS,if_true,aD,bh,cG]at hR;simp[-length_flatMap,-map_take,hR]
open Go.Lease (Rl Gd yP roy)
theorem aaT{r:Rl}(h:yP r=true){a b p:Int}(ha:0≤a)(hab:a≤b)(hp:0≤p):r.least≤roy r a p∧roy r a p≤roy r b p:=by
 simp only[yP,ae]at h;have h1:=Go.Lease.Ib hab r.l 0 ha h.1;have h3:=bK h1 hp;have h4:=Int.ediv_le_ediv (by decide:(0:Int)<1000000) h3;unfold roy;omega
set_option maxHeartbeats 1000000 in
theorem QG{b c:Bk}{r:Rl}{p:Nat}{t:List GR}(hr:yP r=true)(hrl:r.l.length≤10)(hp:p≤1000)(hb:∀x∈b.cu,GJ x)(hc:c.cu=b.cu++t)(hl:b.cu.length≤1000000)(hσ:σ≠[]):∀(m i:Nat),i+m=b.cu.length →
  WL T [5,9,12,15,16] false pN [(5,.bw [.int .i64 r.least,.aE r.l.length (r.l.flatMap Gd.enc)]),(9,.own 0 (stB b)),(12,.own 0 (stB c)),(15,.int .i64 p),(16,.int .i64 i)] σ
   (fun x e σ'=>σ'=σ∧x=.exit 0)
 |0,i,hi=>by
  refine aH pN.eq_1 ?_;have h1:¬i<b.cu.length:=by omega
  simp[-length_flatMap,-map_take,stB,h1]
 |m+1,i,hi=>by
  refine aH pN.eq_1 ?_;have h1:i<b.cu.length:=by omega
  obtain⟨x,hx⟩:=gE h1;have hx2:c.cu[i]?=some x:=by rw[hc,iD h1,hx]
  have h2:i<c.cu.length:=(aw.1 hx2).1;obtain⟨s1,s2,s3⟩:=hb x (ai hx);have d1:=zt (f:=GR.enc) (w:=6) (fun _=>rfl) hx;have d2:=zt (f:=GR.enc) (w:=6) (fun _=>rfl) hx2;simp only[GR.enc]at d1 d2;have e1:(b.cu.flatMap GR.enc).drop (i*6+2)=.int .i64 x.wlo::.int .i64 x.whi::.int .i64 x.mlo::.int .i64 x.mhi::(b.cu.flatMap GR.enc).drop (i*6+6):=by
   have:=congrArg (List.drop 2) d1;simpa[fQ]using this
  have e2:(b.cu.flatMap GR.enc).drop (i*6+2+1)=.int .i64 x.whi::.int .i64 x.mlo::.int .i64 x.mhi::(b.cu.flatMap GR.enc).drop (i*6+6):=by
   have:=congrArg (List.drop 3) d1;simpa[fQ]using this
  have e3:(c.cu.flatMap GR.enc).drop (i*6+2)=.int .i64 x.wlo::.int .i64 x.whi::.int .i64 x.mlo::.int .i64 x.mhi::(c.cu.flatMap GR.enc).drop (i*6+6):=by
   have:=congrArg (List.drop 2) d2;simpa[fQ]using this
  have h4:=ga h1 (by omega);have hY:∀(kg:Int),0≤kg→kg≤1000000000→∀σ,lim T (.call false iy [.agg [.int .i64 r.least,.aE r.l.length (r.l.flatMap Gd.enc)],.int .i64 kg,.int .i64 p] σ)=some (.val (.dQ [.int .i64 (roy r kg p),.int .i64 0]) σ):=fun kg h1 h2 σ=>by
   have:=@Ls.OA σ r (by omega) kg p;unfold Ls.aoc at this;rw[hr,Go.Lease.aR.2 ⟨h1,by omega⟩,Go.Lease.aR.2 ⟨by omega,by omega⟩]at this;exact this
  have hR:=fun σ (hσ:σ≠[])=>@Ls.ajT σ r (by omega) hσ
  have y1:=hY x.wlo s1 (by omega);have y2:=hY x.whi (by omega) s3;obtain⟨m1,m2⟩:=aaT (p:=p) hr s1 s2 (by omega);have n1:¬roy r x.whi p<roy r x.wlo p:=by omega
  have n2:¬roy r x.wlo p<r.least:=by omega
  have ih:=QG hr hrl hp hb hc hl hσ m (i+1) (by omega);simp only[stB]at ih ⊢;simp[-length_flatMap,-map_take,h1,h2,d1,d2,e1,e2,e3,h4,hR,hσ,y1,y2,n1,n2];exact WL.to ih (by simp) (by simp) fun x e σ' hh=>hh
theorem aao{l:List (List UInt8)}{r:Rl}{p:Int}{s:List UInt8}(hl:l.length≤1048576)(hp:0≤p∧p≤65535):
  lim T (.call false rX [.aE l.length (l.flatMap eJ),.agg [.int .i64 r.least,.aE r.l.length (r.l.flatMap Gd.enc)],.int .u16 p,.str s] [[]])=some (.val (.bool true) [[]]):=by
 obtain⟨v,hF,hv⟩:=apI (l:=l++[s]) (by simp;omega) [[.dead],[]];have hN:=fun S hS=>abL (σ:=S) hS
 have O1:=abM;have O3:=abN;have hfl:=b9 (f:=eJ) (w:=1) (fun _=>rfl) l;rw[iw]at hfl;have tk:(l.flatMap eJ).take l.length=l.flatMap eJ:=ah (by omega);have hr1:l.length*16≤room:=by unfold room;omega
 have hr2:(l.length+1)*16≤room:=by unfold room;omega
 simp only[bI,aD,bh,eh,aQ,cg,cS,eJ]at hF;have z1:∀v,ck 0 16 (.sl 1 0 v 0 (l.length+1) 1) [[.cells v (l.flatMap eJ++[.str s])],[]]=(.aE (l.length+1) (l.flatMap eJ++[.str s]),[[.dead],[]]):=fun v=>by
  have:=zT (f:=eJ) (w:=1) (fun _=>rfl) (fun _=>by simp[eJ]) (l:=l++[s]) (j:=0) (v:=v) (bs:=[.cells v ((l++[s]).flatMap eJ)]) (σ:=[[]]) (by simp) rfl;simpa[eJ]using this
 have z2:∀v,ck 0 16 (.sl 1 1 v 0 l.length 1) [[.dead,.cells v (l.flatMap eJ)],[]]=(.aE l.length (l.flatMap eJ),[[.dead,.dead],[]]):=fun v=>by
  have:=zT (f:=eJ) (w:=1) (fun _=>rfl) (fun _=>by simp[eJ]) (l:=l) (j:=1) (v:=v) (bs:=[.dead,.cells v (l.flatMap eJ)]) (σ:=[[]]) (by simp) rfl;simpa[eJ]using this
 have z3:∀v,ck 0 16 (.sl 1 2 v 0 (l.length+1) 1) [[.dead,.dead,.cells v (l.flatMap eJ++[.str s])],[]]=(.aE (l.length+1) (l.flatMap eJ++[.str s]),[[.dead,.dead,.dead],[]]):=fun v=>by
  have:=zT (f:=eJ) (w:=1) (fun _=>rfl) (fun _=>by simp[eJ]) (l:=l++[s]) (j:=2) (v:=v) (bs:=[.dead,.dead,.cells v ((l++[s]).flatMap eJ)]) (σ:=[[]]) (by simp) rfl;simpa[eJ]using this
 refine au G7 uT.eq_1 rfl ?_;cases v
 ·simp[-length_flatMap,-map_take,hF,hN,O1,hfl,tk,hr1,hr2,z1]
 have hv:=hv rfl;simp only[bI,aD,bh]at hv;have hR:=OL (σ:=[[.dead],[]]) (l:=l) (by omega);cases hok:okB l
 ·rw[hok]at hR;simp[-length_flatMap,-map_take,hF,hN,O1,hfl,tk,hr1,hr2,z1,hR]
 rw[hok]at hR;by_cases c1:(39:Int)<l.length
 ·simp[-length_flatMap,-map_take,hF,hN,O1,hfl,tk,hr1,hr2,z1,hR,c1]
 by_cases c2:(100:Int)<s.length
 ·simp[-length_flatMap,-map_take,CM,hF,hN,O1,hfl,tk,hr1,hr2,z1,hR,c1,c2]
 by_cases c3:(10:Int)<r.l.length
 ·simp[-length_flatMap,-map_take,CM,hF,hN,O1,hfl,tk,hr1,hr2,z1,hR,c1,c2,c3]
 have hRR:=fun σ=>@Ls.Jx σ r (by omega)
 cases c4:yP r
 ·simp[-length_flatMap,-map_take,CM,hF,hN,O1,hfl,tk,hr1,hr2,z1,hR,c1,c2,c3,hRR,c4]
 have hk:=N7.1 hok;have hk2:acM (l++[s]):=⟨by simp;omega,fun x hx=>by
  rcases aY.1 hx with hx | hx
  ·exact hk.2 x hx
  ·rw[List.mem_singleton.1 hx];omega⟩
 have hR1:=fun S hS=>P6 (σ:=S) hk hS
 have hR2:=fun S hS=>P6 (σ:=S) hk2 hS
 simp only[bI,aD,bh,eh,aQ,cg,cS,eJ]at hR2;obtain⟨hs1,t,hs2⟩:=LH (l:=l) (s:=s) hk.2;have hK:=GH (l:=l) (k:=0) Kv.zero hk.2;rw[show(vm uo 0 l).1=(vn l).1 from rfl]at hK;have hsl:=hK.cu;generalize (vn l).1=b at hR1 hs1 hs2 hsl;generalize (vn (l++[s])).1=c at hR2 hs2;have w1:IntKind.i64.wrap p=p:=fK (by omega);obtain⟨q,hq,hq2⟩:∃q:Nat,p.tmod 1001=q∧q≤1000:=by
  rw[Int.tmod_eq_emod_of_nonneg hp.1];exact⟨(p%1001).toNat,by omega,by omega⟩
 have w2:IntKind.i64.wrap (q:Int)=q:=fK (by omega);have c5:¬c.cu.length<b.cu.length:=by rw[hs2];simp
 have hL:=QG (σ:=[[.dead,.dead,.dead],[]]) c4 (by omega) hq2 hs1 hs2 (by omega) (by simp) b.cu.length 0 (by omega);simp only[stB]at hR1 hR2 hL;simp[-length_flatMap,-map_take,CM,hF,hN,O1,hfl,tk,hr1,hr2,z1,z2,z3,hR,c1,c2,c3,hRR,c4,c5,hR1,hR2,w1,w2,hq];refine WL.to hL (by simp) (by simp) ?_;rintro x e σ' ⟨rfl,rfl⟩;simp[-length_flatMap,-map_take,hN,O3]
end
section
open Go Go.Abs Go.Book
theorem Of{α:Type}{T:Ty}{w:Nat}{f:α→List D}{Q:α→Prop}(h:∀ds,T.has ds→∃a,ds=f a∧Q a){d:D}(hd:(Ty.slice w T).has [d]):
  ∃l:List α,d=.aE l.length (l.flatMap f)∧l.length≤maxLen∧∀a∈l,Q a:=by
 simp only[Ty.has,j2,and_true]at hd;obtain⟨xs,rfl,hl,hx⟩:=hd;have key:∀xs:List (List D),(∀x∈xs,x.length=w∧T.has x)→∃l:List α,xs.flatten=l.flatMap f∧l.length=xs.length∧∀a∈l,Q a:=by
  intro xs;induction xs with
  |nil=>intro _;exact⟨[],rfl,rfl,by simp⟩
  |cons x xs ih =>
   intro hx;obtain⟨l,h1,h2,h3⟩:=ih fun y hy=>hx y (by simp[hy])
   obtain⟨a,rfl,ha⟩:=h x (hx x (by simp)).2;exact⟨a::l,by simp[h1],by simp[h2],fun b hb=>by
    rcases bq.1 hb with rfl | hb
    ·exact ha
    ·exact h3 b hb⟩
 obtain⟨l,h1,h2,h3⟩:=key xs hx;exact⟨l,by rw[h1,h2],by omega,h3⟩
theorem ac7{ds:List D}(h:Ty.str.has ds):∃s:List UInt8,ds=eJ s∧s.length≤maxLen:=h
end
section
open Go Go.Abs Go.Book
open Go.Lease (Rl Gd)
theorem asB{ds:List D}(h:(Ty.struct [.int .i64,.int .i64]).has ds):∃x:Gd,ds=x.enc∧True:=by
 obtain⟨_,_,rfl,⟨f,rfl,_⟩,_,_,rfl,⟨t,rfl,_⟩,rfl⟩:=h;exact⟨⟨f,t⟩,rfl,trivial⟩
theorem as4{d:D}(h:(Ty.struct [.int .i64,.slice 2 (.struct [.int .i64,.int .i64])]).Pf d):∃r:Rl,d=.agg [.int .i64 r.least,.aE r.l.length (r.l.flatMap Gd.enc)]:=by
 obtain⟨ds,rfl,h⟩:=h;obtain⟨_,_,rfl,⟨w,rfl,_⟩,_,_,rfl,hs,rfl⟩:=h;have hs2:=hs;simp only[Ty.has]at hs2;obtain⟨xs,rfl,_⟩:=hs2;obtain⟨l,h,hl,_⟩:=Of (fun ds h=>asB h) hs;rw[h];exact⟨⟨w,l⟩,rfl⟩
theorem LN(x0 x1 x2 x3:D)(t0:(Ty.slice 1 .str).Pf x0)(t1:(Ty.struct [.int .i64,.slice 2 (.struct [.int .i64,.int .i64])]).Pf x1)(t2:(Ty.int .u16).Pf x2)(t3:Ty.str.Pf x3)(hb:∀n cs,x0=.aE n cs→n≤1048576):
  ∃σ',lim T (.call false rX [x0,x1,x2,x3] [[]])=some (.val (.bool true) σ'):=by
 obtain⟨l,rfl,hl,_⟩:=Of (fun ds h=>ac7 h) t0;obtain⟨r,rfl⟩:=as4 t1;obtain⟨n,h,hw⟩:=t2;cases h;simp only[Lit.wf,ae,ao]at hw;have hw:0≤n∧n≤65535:=hw;obtain⟨s,h,_⟩:=t3;cases h;exact⟨_,aao (hb _ _ rfl) hw⟩
theorem Pm{H:Type}{enc:TypeId×Value→H}{P:Program}{w:World}{base:Nat}{spare:Nat→Bool}{held:Bool}{t e:TypeId}{v:Value}{d:DataW H}{ps:List MemPlace}(ht:P.underlying t=some (.slice e))
  (hd:DataW.Trod enc P w base spare held t v d ps) {n:Nat} {cs:List D} {g:G} (a:bC g (.aE n cs) v):n=0∨∃elems rest,d=.slice elems rest∧elems.length=n:=by
 obtain⟨fuel,hf⟩:=hd;cases a with
 |xe=>exact .inl rfl
 |aE _ _ a' cap vs h1 h2 h3 h4 =>
  rcases DataW.trod_slice ht hf with⟨h,_⟩ | ⟨b,len,c,elems,rest,k,_,h,hx,_,_,_,hel,_⟩
  ·simp[Value.cells]at h
  ·simp only[Value.cells,j2,and_true,Value.slice.injEq]at h;injection hx with hx _
   subst hx;exact .inr ⟨_,_,rfl,by rw[j3,hel,h.2.1]⟩
end
end Go.Proofs.YtklfdfnoebnciaaGreatDoor
