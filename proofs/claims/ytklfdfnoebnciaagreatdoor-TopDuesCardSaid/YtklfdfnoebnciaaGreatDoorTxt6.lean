import Derived.Test.YtklfdfnoebnciaaGreatDoorTxt5
import Derived.Test.YtklfdfnoebnciaaGreatDoorBase15
set_option linter.all false
set_option maxRecDepth 100000
namespace Go.Proofs.YtklfdfnoebnciaaGreatDoor
open List(length_flatMap map_take)
section
open Go Go.az Go.gJ
variable {J:SK}
def Ud(l:List (List UInt8)):Prop:=l.length<=100/\∀s∈l,s.length<=4000
def Wy:Tq (List UInt8):=⟨false,1,dO,λs => .str s,λ_=>rfl,λ_=>by simp[dO],λ_=>rfl,λ_=>rfl,λ_=>rfl⟩
theorem PO{s:List UInt8}:lim T (.call false 24 [.str s] J)=some (.val (.bool (decide (4000<s.length))) J):=by
 refine au CV oQ.eq_1 rfl ?_;have e:decide ((4000:Int)<(s.length:Int))=decide (4000<s.length):=by
  by_cases h:4000<s.length
  .rw[decide_eq_true h,decide_eq_true (by omega)]
  .rw[decide_eq_false h,decide_eq_false (by omega)]
 simp[-length_flatMap,-map_take,CT,e]
def okB(l:List (List UInt8)):Bool:=decide (l.length<=100) && !sB l (λs=>decide (4000<s.length))
theorem PN{l:List (List UInt8)}(hl:l.length<=1000000000):lim T (.call false 15 [.aG l.length (l.flatMap dO)] J)=some (.val (.int .i64 (if okB l then 0 else 3)) J):=by
 refine au E5 sc.eq_1 rfl ?_;have hC:=λJ=>contains_of Wy (T:=T) (f:=23) (i:=31) (l:=l) (p:=λs=>decide (4000<s.length)) (fv:=.fn 24 [] []) rfl rfl (by omega) (oP.fn λs _ J=>PO) (J:=J)
 have hC':∀J,lim T (.call false 23 [.aG l.length (l.flatMap dO),.fn 24 [] []] J)=some (.val (.bool (sB l (λs=>decide (4000<s.length)))) J):=hC;unfold okB;by_cases h1:l.length<=100
 .have h2:¬(100:Int)<l.length:=by omega
  cases h3:sB l (λs=>decide (4000<s.length))<;>rw[h3]at hC'<;>simp[-length_flatMap,-map_take,h1,h2,hC']
 .have h2:(100:Int)<l.length:=by omega
  simp[-length_flatMap,-map_take,h1,h2]
theorem NN{l:List (List UInt8)}:okB l=true↔Ud l:=by
 unfold okB Ud;simp only[ae,ao,cG];constructor
 .rintro⟨h1,h2⟩;refine⟨h1,λs hs=>?_⟩;by_cases h:s.length<=4000
  .exact h
  .have h3:sB l (λs=>decide (4000<s.length))=true:=Ka.2 ⟨s,hs,show decide (4000<s.length)=true from decide_eq_true (by omega)⟩;rw[h2]at h3;cases h3
 .rintro⟨h1,h2⟩;refine⟨h1,?_⟩;cases h:sB l (λs=>decide (4000<s.length))with
  |false=>rfl
  |true =>
   obtain⟨s,hs,h3⟩:=Ka.1 h;have:=h2 s hs;simp only[ao]at h3;omega
theorem M6{l:List (List UInt8)}(hl:l.length<=1000000000):∀(m i:Nat),i+m=l.length ->
  WL T [0,3] false mN [(0,.aG l.length (l.flatMap dO)),(3,.int .i64 i)] J
   (λx e J'=>J'=J/\if sB (l.drop i) (λs=>decide (4000<s.length))then x=.ret/\get e 2=.bool false else x=.exit 0/\get e 0=.aG l.length (l.flatMap dO))
 |0,i,hi=>by
  refine aJ mN.eq_1 ?_;obtain rfl:i=l.length:=by omega
  have h2:l.drop l.length=[]:=aA (by omega);simp[-length_flatMap,-map_take,h2,sB]
 |m+1,i,hi=>by
  refine aJ mN.eq_1 ?_;have h1:i<l.length:=by omega
  obtain⟨s,hs⟩:=gE h1;have a1:=cf (f:=dO) (w:=1) (λ_=>rfl) hs;simp only[dO,gp]at a1;have h4:=eT h1;rw[drop_at hs];by_cases hc:4000<s.length
  .have hc':(4000:Int)<s.length:=by omega
   simp[-length_flatMap,-map_take,CT,h1,a1,hc,hc',sB]
  .have hc':¬(4000:Int)<s.length:=by omega
   simp[-length_flatMap,-map_take,CT,h1,a1,h4,hc',sB,hc];exact WL.to (M6 hl m (i+1) (by omega)) (by simp) rfl λx e J' hh=>by simpa[sB,hc]using hh
theorem Oq{l:List (List UInt8)}(hl:l.length<=1000000000):lim T (.call false 5 [.aG l.length (l.flatMap dO)] J)=some (.val (.bool (okB l)) J):=by
 refine au Hk uJ.eq_1 rfl ?_;simp[-length_flatMap,-map_take];refine WL.to (M6 (J:=[]::J) hl l.length 0 (by omega)) (by simp) rfl ?_;rintro x e J' ⟨rfl,hh⟩;rw[aK]at hh;cases hc:sB l (λs=>decide (4000<s.length))
 .rw[hc,if_neg (by simp)]at hh;obtain⟨rfl,g0⟩:=hh;by_cases h1:l.length<=100
  .have h2:(l.length:Int)<=100:=by omega
   simp[-length_flatMap,-map_take,g0,okB,hc,h1,h2]
  .have h2:¬(l.length:Int)<=100:=by omega
   simp[-length_flatMap,-map_take,g0,okB,hc,h1,h2]
 .rw[hc,if_pos rfl]at hh;obtain⟨rfl,g2⟩:=hh;simp[g2,okB,hc]
end
section
open Go Go.az Go.aD Go.gJ
variable {J:SK}
def Uy(b:Bk):List D:=[.int .i64 b.bH.f.x,.int .i64 b.bH.f.y,.int .i64 b.bH.f.z,.int .i64 b.bH.f.k,nl Rw.enc b.bH.b8,.int .i64 b.bH.bF,.int .i64 b.bH.lift,.int .i64 b.bH.deep,nl bE.enc b.bH.ak,
 .aG b.an.length (b.an.flatMap kW.enc),nl pE b.av,.aG b.rules.length (b.rules.flatMap bM.dA.enc),.aG b.yX.length (b.yX.flatMap bM.Ev.enc),.int .i64 b.k0,.int .i64 b.k1,.int .i64 b.k2,
 .aG b.dc.length (b.dc.flatMap yc.enc),.aG b.cm.length (b.cm.flatMap G5.enc)]
theorem QK{α:Type}{f:α->List D}(h:∀x,D.bx (f x)=true)(l:List α):(nl f l).clean=true:=by
 unfold nl;split
 .rfl
 .simp[D.clean,eS h l]
theorem ko{α:Type}{f:α->List D}{w n:Nat}(hn:1<n)(hw:∀x,(f x).length=w)(hc:∀x,D.bx (f x)=true){l:List α}{j v m:Nat}{bs bs':List az.aI}(hJ:J≠[])(hm:m=l.length)(hj:bs[j]?=some (.cells v (l.flatMap f)))(hb:bs.set j .dead=bs'):
  cn (J.length-1) n (.sl J.length j v 0 m w) (bs::J)=(.aG m (l.flatMap f),bs'::J):=by
 subst hb;subst hm;exact zX hn hw hc hJ hj
theorem OS{b:Bk}{er:List Int}(hJ:J≠[]):cn (J.length-1) 16 (.dj [.agg ((b.cells J.length).take 18),.sl J.length 7 er.length 0 er.length 1,.int .i64 0]) (b.bk J.length er::J) =
  (.dj [.agg (Uy b),.aG er.length (er.flatMap aX),.int .i64 0],[.dead,.dead,.dead,.dead,.dead,.cells b.n9.length (b.n9.flatMap LO.enc),.cells 0 (b.cells J.length),.dead]::J):=by
 have c1:(nl Rw.enc b.bH.b8).clean=true:=QK (λ_=>by simp[D.clean]) _;have c2:(nl bE.enc b.bH.ak).clean=true:=QK (λ_=>by simp[D.clean]) _;have c3:(nl pE b.av).clean=true:=QK (λx=>by simp[pE,D.clean,bq]) _;have q1:∀x:kW,D.bx x.enc=true:=λx=>by simp[D.clean,bq]
 have q2:∀x:bM.dA,D.bx x.enc=true:=λx=>by simp[D.clean]
 have q3:∀x:bM.Ev,D.bx x.enc=true:=λx=>by simp[D.clean,eS (f:=bM.we.enc) (λ_=>by simp[D.clean])]
 have q4:∀x:yc,D.bx x.enc=true:=λx=>by simp[D.clean,eS (f:=Prt.enc) (λ_=>by simp[D.clean])]
 have q5:∀x:G5,D.bx x.enc=true:=λx=>by simp[D.clean]
 have q6:∀x:Int,D.bx (aX x)=true:=λx=>by simp[aX,D.clean]
 generalize hA5:az.aI.cells b.n9.length (b.n9.flatMap LO.enc)=A5;generalize hA6:az.aI.cells 0 (b.cells J.length)=A6;have f0:=ko (J:=J) (n:=14) (w:=4) (by omega) (λ_=>rfl) q1 (l:=b.an) (j:=0) (v:=b.an.length) (bs:=b.bk J.length er) hJ rfl rfl rfl;have f1:=ko (J:=J) (n:=14) (w:=10) (by omega) (λ_=>rfl) q2 (l:=b.rules) (j:=1) (v:=b.rules.length) (bs:=(b.bk J.length er).set 0 .dead) hJ rfl rfl rfl;have f2:=ko (J:=J) (n:=14) (w:=2) (by omega) (λ_=>rfl) q3 (l:=b.yX) (j:=2) (v:=b.yX.length) (bs:=((b.bk J.length er).set 0 .dead).set 1 .dead) hJ rfl rfl rfl;have f3:=ko (J:=J) (n:=14) (w:=2) (by omega) (λ_=>rfl) q4 (l:=b.dc) (j:=3) (v:=b.dc.length) (bs:=(((b.bk J.length er).set 0 .dead).set 1 .dead).set 2 .dead) hJ rfl rfl rfl;have f4:=ko (J:=J) (n:=14) (w:=6) (by omega) (λ_=>rfl) q5 (l:=b.cm) (j:=4) (v:=b.cm.length) (bs:=((((b.bk J.length er).set 0 .dead).set 1 .dead).set 2 .dead).set 3 .dead) hJ rfl rfl rfl;have f5:=ko (J:=J) (n:=15) (w:=1) (by omega) (λ_=>rfl) q6 (l:=er) (j:=7) (v:=er.length) (bs:=(((((b.bk J.length er).set 0 .dead).set 1 .dead).set 2 .dead).set 3 .dead).set 4 .dead) hJ rfl rfl rfl;have hi:∀(k:Int) (n:Nat) (S:SK),0<n->cn (J.length-1) n (.int .i64 k) S=(.int .i64 k,S):=λk n S hn=>jX (by rfl) hn
 rw[Dl (by simp[Bk.cells,D.clean,D.bx]) (by omega)];simp only[wg,yI];rw[I9 (by simp[Bk.cells,D.clean]) (by omega)];simp only[Bk.cells,List.take_succ_cons,List.take_zero,wg,yI,Nat.reduceSub];simp only[hi _ 14 _ (by omega),jX c1 (show 0<14 by omega),jX c2 (show 0<14 by omega),jX c3 (show 0<14 by omega),f0,f1,f2,f3,f4,f5,hi _ 15 _ (by omega)];simp only[Bk.bk,List.set_cons_zero,List.set_cons_succ,hA5,Uy];rw[<- hA6]
theorem PK{lines:List (List UInt8)}(hl:Ud lines)(hJ:J≠[]):lim T (.call false 9 [.aG lines.length (lines.flatMap dO)] J) =
  some (.val (.dj [.agg (Uy (vk lines).1),.aG lines.length ((vk lines).2.flatMap aX),.int .i64 0]) J):=by
 refine au Hg uG.eq_1 rfl ?_;have hC:=λS=>PN (J:=S) (l:=lines) (by have:=hl.1;omega)
 have hok:okB lines=true:=NN.2 hl;simp only[hok,if_true]at hC;have hR:=VW (J:=J) (lines:=lines) hl;have hlen:(vk lines).2.length=lines.length:=Iu;have hf:=OS (J:=J) (b:=(vk lines).1) (er:=(vk lines).2) hJ;rw[hlen]at hf;generalize vk lines=r at hR hlen hf ⊢;obtain⟨b,er⟩:=r;simp only at hR hf hlen ⊢;simp only[Bk.cells,Bk.bk,List.take_succ_cons,List.take_zero]at hf hR;simp[-length_flatMap,-map_take,hC,hR];exact⟨_,hf⟩
theorem JP{s t:List UInt8}:lim T (.call false 12 [.str s,.str t] J)=some (.val (.bool (decide (t.length<=s.length) && (s.take t.length == t))) J):=by
 refine au FX tf.eq_1 rfl ?_;by_cases h:t.length<=s.length
 .have h':(t.length:Int)<=s.length:=by omega
  simp[-length_flatMap,-map_take,CT,h,h']
 .have h':¬(t.length:Int)<=s.length:=by omega
  simp[-length_flatMap,-map_take,CT,h,h']
theorem US{l:List (List UInt8)}(hl:l.length<=9223372036854775807):∀(m i:Nat) (x y z:Int),i+m=l.length ->
  WL T [0,3,4,5,6] false oh [(0,.aG l.length (l.flatMap dO)),(3,.int .i64 x),(4,.int .i64 y),(5,.int .i64 z),(6,.int .i64 i)] J
   (λx e J'=>J'=J/\x=.exit 0/\get e 0=.aG l.length (l.flatMap dO)/\∃u v w,get e 3=.int .i64 u/\get e 4=.int .i64 v/\get e 5=.int .i64 w)
 |0,i,x,y,z,hi=>by
  refine aJ oh.eq_1 ?_;have h1:¬i<l.length:=by omega
  simp[-length_flatMap,-map_take,h1]
 |m+1,i,x,y,z,hi=>by
  refine aJ oh.eq_1 ?_;have h1:i<l.length:=by omega
  obtain⟨s,hs⟩:=gE h1;have a1:=cf (f:=dO) (w:=1) (λ_=>rfl) hs;simp only[dO,gp]at a1;have h4:=eT h1;have hB:=λt J=>@JP J s t
  have e1:((i+1:Nat):Int)=(i:Int)+1:=by omega
  have ih:=λx y z=>US hl m (i+1) x y z (by omega)
  rw[e1]at ih;rw[e1]at h4;generalize hv:(λt:List UInt8=>decide (t.length<=s.length) && (s.take t.length == t))=v at hB;have hB':∀t J,lim T (.call false 12 [.str s,.str t] J)=some (.val (.bool (v t)) J):=λt J=>by rw[<- hv];exact JP
  cases c1:v [109,111,100,101,108]<;>cases c2:v [116,105,99,107]<;>simp[-length_flatMap,-map_take,CT,h1,a1,h4,hB',c1,c2]<;>
   exact WL.to (ih _ _ _) rfl rfl λx e J' hh=>by simpa using hh
theorem Y6{l:List (List UInt8)}(hl:l.length<=9223372036854775807)(J:SK):∃v,lim T (.call false 4 [.aG l.length (l.flatMap dO)] J)=some (.val (.bool v) J)/\(v=true->l.length<=103):=by
 obtain⟨x,e,J',h1,rfl,rfl,g0,u,v,w,g3,g4,g5⟩:=US (J:=[]::J) hl l.length 0 0 0 0 (by omega);refine⟨decide (v<=4) && (decide (w<=8) && (decide (u<=5000) && (decide ((l.length:Int)<=40) || (decide (u<=400) && decide ((l.length:Int)<=103))))),?_,λh=>by simp only[ae,bW,ao]at h;omega⟩;refine au J5 xl.eq_1 rfl ?_;simp[-length_flatMap,-map_take];refine⟨_,_,_,by simpa using h1,?_⟩;by_cases c1:v<=4<;>by_cases c2:w<=8<;>by_cases c3:u<=5000<;>by_cases c4:(l.length:Int)<=40<;>by_cases c5:u<=400<;>by_cases c6:(l.length:Int)<=103<;>
  simp[-length_flatMap,-map_take,g0,g3,g4,g5,c1,c2,c3,c4,c5,c6]
end
end Go.Proofs.YtklfdfnoebnciaaGreatDoor
namespace Go.Lease
open List(length_flatMap map_take)
open Go Go.az
@[simp] def aX(n:Int):List D:=[.int .i64 n]
def bT(n lo hi:Int):Bool:=decide (lo<=n) && decide (n<=hi)
theorem aU{n lo hi:Int}:bT n lo hi=true↔lo<=n/\n<=hi:=by simp[bT]
theorem Q5{n lo hi:Int}(h:¬(lo<=n/\n<=hi)):bT n lo hi=false:=by
 cases hh:bT n lo hi
 .rfl
 .exact absurd (aU.1 hh) h
theorem QS{α:Type}{l:List α}{i:Nat}{x:α}(hx:l[i]?=some x):l.drop i=x::l.drop (i+1):=by
 obtain⟨h,rfl⟩:=aw.1 hx;exact List.drop_eq_getElem_cons h
structure Gd where
 u:Int
 r:Int
@[simp] theorem Gd.eta(g:Gd):Gd.mk g.u g.r=g:=rfl
@[simp] def Gd.enc(g:Gd):List D:=[.int .i64 g.u,.int .i64 g.r]
structure Rl where
 least:Int
 l:List Gd
def CD(prev:Int)(g:Gd):Bool:=bT g.u 1 1000000000000 && (bT g.r 0 1000 && !decide (g.u<=prev))
def pa:Int->List Gd->Bool
 |_,[]=>true
 |prev,g::l=>CD prev g && pa g.u l
def yR(r:Rl):Bool:=pa 0 r.l && (bT r.least 0 1000000000000 && bT r.l.length 1 6)
theorem Dm{p:Int}{g:Gd}:CD p g=true↔(1<=g.u/\g.u<=1000000000000)/\(0<=g.r/\g.r<=1000)/\p<g.u:=by
 simp only[CD,ae,aU,cG,decide_eq_false_iff_not];omega
def HA(kg:Int):List Gd->Int->Int->Int
 |[],n,_=>n
 |g::l,n,fr=>HA kg l (n+max 0 ((if l=[]then kg else min g.u kg)-fr)*g.r) (max fr (if l=[]then kg else min g.u kg))
def Ak(kg:Int):List Gd->Int->Int
 |[],_=>0
 |g::l,fr=>if l=[]\/kg<=g.u then(kg-fr)*g.r else(g.u-fr)*g.r+Ak kg l g.u
theorem It{kg:Int}:∀(l:List Gd) (n:Int),HA kg l n kg=n
 |[],n=>rfl
 |g::l,n=>by
  have h1:max 0 ((if l=[]then kg else min g.u kg)-kg)=0:=by split<;>omega
  have h2:max kg (if l=[]then kg else min g.u kg)=kg:=by split<;>omega
  rw[HA,h1,h2,Int.zero_mul,Int.add_zero,It l n]
theorem NW{kg:Int}:∀(l:List Gd) (n fr:Int),fr<=kg->pa fr l=true->HA kg l n fr=n+Ak kg l fr
 |[],n,fr,_,_=>by simp[HA,Ak]
 |g::l,n,fr,h,hg=>by
  simp only[pa,ae]at hg;have h1:=Dm.1 hg.1;rw[HA,Ak];by_cases hl:l=[]
  .subst hl;simp only[if_true,true_or,HA];rw[show max 0 (kg-fr)=kg-fr by omega]
  .rw[if_neg hl];by_cases hk:kg<=g.u
   .rw[if_pos (Or.inr hk),show min g.u kg=kg by omega,show max fr kg=kg by omega,show max 0 (kg-fr)=kg-fr by omega,It]
   .rw[if_neg (by simp[hl,hk]),show min g.u kg=g.u by omega,show max fr g.u=g.u by omega,show max 0 (g.u-fr)=g.u-fr by omega,NW l _ g.u (by omega) hg.2];omega
theorem FA{a r:Int}(h0:0<=a)(h:0<=r/\r<=1000):0<=a*r/\a*r<=1000*a:=by
 constructor
 .exact dp h0 h.1
 .have:=Int.mul_le_mul_of_nonneg_left h.2 h0;omega
theorem Jx{kg:Int}:∀(l:List Gd) (fr:Int),fr<=kg->pa fr l=true->0<=Ak kg l fr/\Ak kg l fr<=1000*(kg-fr)
 |[],fr,h,_=>by simp[Ak];omega
 |g::l,fr,h,hg=>by
  simp only[pa,ae]at hg;have h1:=Dm.1 hg.1;rw[Ak];split
  .have:=FA (a:=kg-fr) (by omega) h1.2.1;omega
  .rename_i hn;simp only[not_or]at hn;have h2:=FA (a:=g.u-fr) (by omega) h1.2.1;have h3:=Jx (kg:=kg) l g.u (by omega) hg.2;omega
theorem Is{a b:Int}(hab:a<=b):∀(l:List Gd) (fr:Int),fr<=a->pa fr l=true->Ak a l fr<=Ak b l fr
 |[],fr,_,_=>by simp[Ak]
 |g::l,fr,h,hg=>by
  simp only[pa,ae]at hg;have h1:=Dm.1 hg.1;rw[Ak,Ak];by_cases hl:l=[]
  .rw[if_pos (.inl hl),if_pos (.inl hl)];exact bK (by omega) h1.2.1.1
  .by_cases ha:a<=g.u
   .rw[if_pos (.inr ha)];by_cases hb:b<=g.u
    .rw[if_pos (.inr hb)];exact bK (by omega) h1.2.1.1
    .rw[if_neg (by simp[hl,hb])];have h2:=bK (show a-fr<=g.u-fr by omega) h1.2.1.1;have h3:=Jx l g.u (by omega:g.u<=b) hg.2;omega
   .rw[if_neg (by simp[hl,ha]),if_neg (by simp[hl];omega)];have:=Is hab l g.u (by omega) hg.2;omega
def R5(r:Rl)(kg price:Int):Int:=max r.least (Ak kg r.l 0*price / 1000000)
end Go.Lease
namespace Go.Proofs.YtklfdfnoebnciaaGreatDoor.Ls
open List(length_flatMap map_take)
open Go Go.az Go.Lease
variable {J:SK}
theorem ck{a b c:Int}:lim T (.call false 19 [.int .i64 a,.int .i64 b,.int .i64 c] J)=some (.val (.bool (bT a b c)) J):=by
 refine au FY ti.eq_1 rfl ?_;by_cases h:b<=a<;>simp[-length_flatMap,-map_take,h,bT]
theorem IG{a b c:Int}:lim T (.call false 13 [.int .i64 a,.int .i64 b,.int .i64 c] J)=some (.val (.bool (bT a b c)) J):=by
 refine au LN zo.eq_1 rfl ?_;by_cases h:b<=a<;>simp[-length_flatMap,-map_take,h,bT]
theorem CU{a:Int}:lim T (.call false 18 [.int .i64 a] J)=some (.val (.bool (bT a 0 1000000000000)) J):=by
 refine au Hf uF.eq_1 rfl ?_;simp[-length_flatMap,-map_take,ck]
def Wf(l:List Gd)(i:Nat)(p:Int):Prop:=(i=0->p=0)/\∀j,i=j+1->∃g,l[j]?=some g/\g.u=p
theorem prev_next{l:List Gd}{i:Nat}{g:Gd}(hx:l[i]?=some g):Wf l (i+1) g.u:=⟨λh=>by omega,λj hj=>⟨g,by rw[show j=i by omega];exact hx,rfl⟩⟩
theorem Eh{l:List Gd}{i:Nat}{x:Gd}(hx:l[i]?=some x):(l.flatMap Gd.enc).drop (i*2)=.int .i64 x.u::.int .i64 x.r::(l.flatMap Gd.enc).drop (i*2+2):=by
 have:=zx (f:=Gd.enc) (w:=2) (λ_=>rfl) hx;simpa using this
theorem M8{r:Rl}(hl:r.l.length<=100):∀(m i:Nat) (p:Int),i+m=r.l.length->Wf r.l i p ->
  WL T [1,6,7,8] false gN [(1,.bu [.int .i64 r.least,.aG r.l.length (r.l.flatMap Gd.enc)]),(6,.aG r.l.length (r.l.flatMap Gd.enc)),(7,.int .i64 r.l.length),(8,.int .i64 i)] J
   (λx e J'=>J'=J/\if pa p (r.l.drop i)then x=.exit 0/\get e 1=.bu [.int .i64 r.least,.aG r.l.length (r.l.flatMap Gd.enc)]else x=.ret/\get e 2=.bool false)
 |0,i,p,hi,hp=>by
  refine aJ gN.eq_1 ?_;have h1:¬i<r.l.length:=by omega
  have h2:r.l.drop i=[]:=aA (by omega);rw[h2];simp[-length_flatMap,-map_take,h1,pa]
 |m+1,i,p,hi,hp=>by
  refine aJ gN.eq_1 ?_;have h1:i<r.l.length:=by omega
  obtain⟨g,hx⟩:=gE h1;have a1:=Eh hx;have w1:=eT h1;have ih:=M8 hl m (i+1) g.u (by omega) (prev_next hx);rw[QS hx];have e1:pa p (g::r.l.drop (i+1))=(CD p g && pa g.u (r.l.drop (i+1))):=rfl;rw[e1];generalize hG:pa g.u (r.l.drop (i+1))=G at *
  cases c1:bT g.u 1 1000000000000
  .simp[-length_flatMap,-map_take,h1,a1,w1,ck,c1,CD]
  cases c2:bT g.r 0 1000
  .simp[-length_flatMap,-map_take,h1,a1,w1,ck,c1,c2,CD]
  by_cases hz:0<i
  .obtain⟨j,rfl⟩:∃j,i=j+1:=⟨i-1,by omega⟩;obtain⟨g',hx',rfl⟩:=hp.2 j rfl;have a2:=Eh hx';have hj:j<r.l.length:=by omega
   have w2:IntKind.i64.wrap (((j+1:Nat):Int)-1)=(j:Int):=by rw[show((j+1:Nat):Int)-1=j by omega];exact eF
   generalize j+1=i at *
   by_cases c3:g.u<=g'.u
   .simp[-length_flatMap,-map_take,h1,hj,a1,a2,w1,w2,hz,ck,c1,c2,c3,CD]
   .simp[-length_flatMap,-map_take,h1,hj,a1,a2,w1,w2,hz,ck,c1,c2,c3,CD];refine WL.to ih (by simp) rfl ?_;exact λx e J' hh=>by simpa[c1,c2,c3]using hh
  .have hp0:=hp.1 (by omega);subst hp0;have c3:¬g.u<=0:=by have:=aU.1 c1;omega
   simp[-length_flatMap,-map_take,h1,a1,w1,hz,ck,c1,c2,c3,CD];refine WL.to ih (by simp) rfl ?_;exact λx e J' hh=>by simpa[c1,c2,c3]using hh
theorem Tm{r:Rl}(hl:r.l.length<=100):lim T (.call false 17 [.agg [.int .i64 r.least,.aG r.l.length (r.l.flatMap Gd.enc)]] J)=some (.val (.bool (yR r)) J):=by
 refine au Cg nk.eq_1 rfl ?_;simp[-length_flatMap,-map_take];refine WL.to (M8 (J:=[]::J) hl r.l.length 0 0 (by omega) ⟨λ_=>rfl,λj hj=>by omega⟩) (by simp) rfl ?_;rintro x e J' ⟨rfl,hh⟩;rw[aK]at hh;cases hg:pa 0 r.l
 .rw[hg]at hh;simp only[ar,if_false]at hh;obtain⟨rfl,g2⟩:=hh;simp[g2,yR,hg]
 .rw[hg]at hh;simp only[if_true]at hh;obtain⟨rfl,g1⟩:=hh;cases c1:bT r.least 0 1000000000000
  .simp[-length_flatMap,-map_take,g1,CU,ck,c1,yR,hg]
  .simp[-length_flatMap,-map_take,g1,CU,ck,c1,yR,hg]
theorem EF{r:Rl}(hl:r.l.length<=100):∀(m i:Nat) (p:Int),i+m=r.l.length->Wf r.l i p ->
  WL T [1,3] false iO [(1,.bu [.int .i64 r.least,.aG r.l.length (r.l.flatMap Gd.enc)]),(3,.int .i64 i)] J
   (λx e J'=>J'=J/\if pa p (r.l.drop i)then x=.exit 0/\get e 1=.bu [.int .i64 r.least,.aG r.l.length (r.l.flatMap Gd.enc)]else x=.ret/\get e 2=.bool false)
 |0,i,p,hi,hp=>by
  refine aJ iO.eq_1 ?_;have h1:¬i<r.l.length:=by omega
  have h2:r.l.drop i=[]:=aA (by omega);rw[h2];simp[-length_flatMap,-map_take,h1,pa]
 |m+1,i,p,hi,hp=>by
  refine aJ iO.eq_1 ?_;have h1:i<r.l.length:=by omega
  obtain⟨g,hx⟩:=gE h1;have a1:=Eh hx;have w1:=eT h1;have ih:=EF hl m (i+1) g.u (by omega) (prev_next hx);rw[QS hx];have e1:pa p (g::r.l.drop (i+1))=(CD p g && pa g.u (r.l.drop (i+1))):=rfl;rw[e1];generalize hG:pa g.u (r.l.drop (i+1))=G at *
  cases c1:bT g.u 1 1000000000000
  .simp[-length_flatMap,-map_take,h1,a1,w1,IG,c1,CD]
  cases c2:bT g.r 0 1000
  .simp[-length_flatMap,-map_take,h1,a1,w1,IG,c1,c2,CD]
  by_cases hz:0<i
  .obtain⟨j,rfl⟩:∃j,i=j+1:=⟨i-1,by omega⟩;obtain⟨g',hx',rfl⟩:=hp.2 j rfl;have a2:=Eh hx';have hj:j<r.l.length:=by omega
   have w2:IntKind.i64.wrap (((j+1:Nat):Int)-1)=(j:Int):=by rw[show((j+1:Nat):Int)-1=j by omega];exact eF
   generalize j+1=i at *
   by_cases c3:g.u<=g'.u
   .simp[-length_flatMap,-map_take,h1,hj,a1,a2,w1,w2,hz,IG,c1,c2,c3,CD]
   .simp[-length_flatMap,-map_take,h1,hj,a1,a2,w1,w2,hz,IG,c1,c2,c3,CD];refine WL.to ih (by simp) rfl ?_;exact λx e J' hh=>by simpa[c1,c2,c3]using hh
  .have hp0:=hp.1 (by omega);subst hp0;have c3:¬g.u<=0:=by have:=aU.1 c1;omega
   simp[-length_flatMap,-map_take,h1,a1,w1,hz,IG,c1,c2,c3,CD];refine WL.to ih (by simp) rfl ?_;exact λx e J' hh=>by simpa[c1,c2,c3]using hh
theorem JO{r:Rl}(hl:r.l.length<=100):lim T (.call false 6 [.agg [.int .i64 r.least,.aG r.l.length (r.l.flatMap Gd.enc)]] J)=some (.val (.bool (yR r)) J):=by
 refine au CY oT.eq_1 rfl ?_;simp[-length_flatMap,-map_take];refine WL.to (EF (J:=[]::J) hl r.l.length 0 0 (by omega) ⟨λ_=>rfl,λj hj=>by omega⟩) (by simp) rfl ?_;rintro x e J' ⟨rfl,hh⟩;rw[aK]at hh;cases hg:pa 0 r.l
 .rw[hg]at hh;simp only[ar,if_false]at hh;obtain⟨rfl,g2⟩:=hh;simp[g2,yR,hg]
 .rw[hg]at hh;simp only[if_true]at hh;obtain⟨rfl,g1⟩:=hh;cases c1:bT r.least 0 1000000000000
  .simp[-length_flatMap,-map_take,g1,IG,c1,yR,hg]
  .by_cases c2:1<=r.l.length
   .have c2':(1:Int)<=r.l.length:=by omega
    by_cases c3:(r.l.length:Int)<=6
    .have c4:bT r.l.length 1 6=true:=aU.2 ⟨c2',c3⟩;simp[-length_flatMap,-map_take,g1,IG,c1,c2,c2',c3,c4,yR,hg]
    .have c4:bT r.l.length 1 6=false:=Q5 (by omega);simp[-length_flatMap,-map_take,g1,IG,c1,c2,c2',c3,c4,yR,hg]
   .have c2':¬(1:Int)<=r.l.length:=by omega
    have c4:bT r.l.length 1 6=false:=Q5 (by omega);simp[-length_flatMap,-map_take,g1,IG,c1,c2,c2',c4,yR,hg]
theorem Qk{r:Rl}(hl:r.l.length<=100000):∀(m j v:Nat),j+m=r.l.length ->
  WL T [1,2,3,4] false og [(1,.bu [.int .i64 r.least,.aG r.l.length (r.l.flatMap Gd.enc)]),(2,.own 0 [.int .i64 0,.bN]),(3,.own 0 [.int .i64 r.least,.sl J.length 0 v 0 j 2]),(4,.int .i64 j)]
   ([.cells v ((r.l.take j).flatMap Gd.enc)]::J)
   (λx e J'=>∃v',x=.exit 0/\get e 2=.own 0 [.int .i64 0,.bN]/\get e 3=.own 0 [.int .i64 r.least,.sl J.length 0 v' 0 r.l.length 2]/\J'=[.cells v' (r.l.flatMap Gd.enc)]::J)
 |0,j,v,hi=>by
  refine aJ og.eq_1 ?_;have h1:¬j<r.l.length:=by omega
  have h3:r.l.take j=r.l:=ah (by omega);have h4:j=r.l.length:=by omega
  subst h4;simp[-length_flatMap,-map_take]
 |m+1,j,v,hi=>by
  refine aJ og.eq_1 ?_;have h1:j<r.l.length:=by omega
  obtain⟨x,hx⟩:=gE h1;have h2:=Eh hx;have h3:=OM (f:=Gd.enc) (w:=2) (λ_=>rfl) (Nat.le_of_lt h1);have h4:=Bn (f:=Gd.enc) hx;have h5:=bZ (f:=Gd.enc) (w:=2) (λ_=>rfl) (r.l.take j);have h6:=eT h1;have h7:(j+1)*16<=room:=by unfold room;omega
  have h8:min j r.l.length=j:=by omega
  have ih:=Qk hl m (j+1) (v+1) (by omega);simp[-length_flatMap,-map_take,h1,h2,h3,h5,h6,h7,h8];refine WL.to ih (by simp) (by simp[<- h4]) λx e J hh=>hh
theorem VJ{r:Rl}(hl:r.l.length<=100000)(hJ:J≠[]):lim T (.call false 11 [.agg [.int .i64 r.least,.aG r.l.length (r.l.flatMap Gd.enc)]] J)=some (.val (.agg [.int .i64 r.least,.aG r.l.length (r.l.flatMap Gd.enc)]) J):=by
 refine au IP vR.eq_1 rfl ?_;simp[-length_flatMap,-map_take];refine WL.to (Qk (J:=J) hl r.l.length 0 0 (by omega)) (by simp) (by simp) ?_;rintro x e J' ⟨v',rfl,g2,g3,rfl⟩;simp[-length_flatMap,-map_take,g2,g3];have h3:¬J.length<=J.length-1:=by have:=aP.2 hJ;omega
 have h6:=GA (f:=Gd.enc) (w:=2) (λ_=>rfl) r.l;have h5:D.bx (r.l.flatMap Gd.enc)=true:=eS (λx=>by simp) _;rw[I9 (by simp) (by omega)];simp only[wg,yI];rw[AL h3 (cs:=r.l.flatMap Gd.enc) (by simp) (by omega)];simp[h6,h5]
theorem UW{r:Rl}(hl:r.l.length<=6)(hg:pa 0 r.l=true){kg price:Int}(hk:0<=kg/\kg<=1000000000000):∀(m i:Nat) (p n fr:Int),i+m=r.l.length->pa p (r.l.drop i)=true->0<=fr->fr<=kg->0<=n->n<=1000*fr ->
  WL T [1,2,3,8,9,27,28,29] false jr [(1,.int .i64 kg),(2,.int .i64 price),(3,.bu [.int .i64 r.least,.aG r.l.length (r.l.flatMap Gd.enc)]),(8,.int .i64 n),(9,.int .i64 fr),(27,.aG r.l.length (r.l.flatMap Gd.enc)),(28,.int .i64 r.l.length),(29,.int .i64 i)] J
   (λx e J'=>J'=J/\x=.exit 1/\get e 2=.int .i64 price/\get e 3=.bu [.int .i64 r.least,.aG r.l.length (r.l.flatMap Gd.enc)]/\get e 8=.int .i64 (HA kg (r.l.drop i) n fr))
 |0,i,p,n,fr,hi,hd,h0,h1,h2,h3=>by
  refine aJ jr.eq_1 ?_;have h4:¬i<r.l.length:=by omega
  have h5:r.l.drop i=[]:=aA (by omega);rw[h5];simp[-length_flatMap,-map_take,h4,HA]
 |m+1,i,p,n,fr,hi,hd,h0,h1,h2,h3=>by
  refine aJ jr.eq_1 ?_;have h4:i<r.l.length:=by omega
  obtain⟨g,hx⟩:=gE h4;have a1:=Eh hx;have w1:=eT h4;obtain⟨q,hq⟩:∃q,q=(r.l.length:Int)-1:=⟨_,rfl⟩;have w2:IntKind.i64.wrap ((r.l.length:Int)-1)=q:=by rw[hq];exact eF
  rw[QS hx]at hd ⊢;simp only[pa,ae]at hd;have hgd:=Dm.1 hd.1;have hlast:(r.l.drop (i+1)=[])↔((i:Int)=q):=by
   rw[List.drop_eq_nil_iff];omega
  rw[HA];obtain⟨to,hto⟩:∃to,(if r.l.drop (i+1)=[]then kg else min g.u kg)=to:=⟨_,rfl⟩;rw[hto];have hto1:to<=kg:=by rw[<- hto];split<;>omega
  have hm:=FA (a:=max 0 (to-fr)) (by omega) hgd.2.1;have ih:=UW (price:=price) hl hg hk m (i+1) g.u (n+max 0 (to-fr)*g.r) (max fr to) (by omega) hd.2 (by omega) (by omega) (by omega) (by omega);have w3:=eF (n:=to-fr);have w4:=eF (n:=max 0 (to-fr)*g.r);have w5:=eF (n:=n+max 0 (to-fr)*g.r);by_cases hL:(i:Int)=q
  .rw[if_pos (hlast.2 hL)]at hto;subst hto;rw[<- hL]at w2;simp[-length_flatMap,-map_take,h4,a1,w1,w2,w3,w4,w5];refine WL.to ih (by simp) rfl ?_;exact λx e J' hh=>hh
  .rw[if_neg (λh=>hL (hlast.1 h))]at hto;simp[-length_flatMap,-map_take,h4,a1,w1,w2,hL,hto,w3,w4,w5];refine WL.to ih (by simp) rfl ?_;exact λx e J' hh=>hh
theorem aa8{a:Int}(h:0<=a):a.tdiv 1000000=a / 1000000:=bd h
theorem XA{r:Rl}(hg:pa 0 r.l=true){kg price:Int}(hk:0<=kg/\kg<=1000000000000)(hp:0<=price/\price<=1000):0<=Ak kg r.l 0*price/\Ak kg r.l 0*price<=1000000000000000000:=by
 have h1:=Jx r.l 0 hk.1 hg;have:=FA (r:=price) h1.1 hp;omega
def Xz(r:Rl)(kg price:Int):D:=if yR r then(if bT kg 0 1000000000000 && bT price 0 1000 then .dj [.int .i64 (R5 r kg price),.int .i64 0]else .dj [.int .i64 0,.int .i64 2])else .dj [.int .i64 0,.int .i64 1]
theorem Od{r:Rl}(hl:r.l.length<=100){kg price:Int}:lim T (.call false 10 [.agg [.int .i64 r.least,.aG r.l.length (r.l.flatMap Gd.enc)],.int .i64 kg,.int .i64 price] J)=some (.val (Xz r kg price) J):=by
 refine au E4 sb.eq_1 rfl ?_;have hV:=λJ=>@Tm J r hl
 unfold Xz;cases c1:yR r
 .simp[-length_flatMap,-map_take,hV,c1]
 cases c2:bT kg 0 1000000000000
 .simp[-length_flatMap,-map_take,hV,c1,CU,ck,c2]
 cases c3:bT price 0 1000
 .simp[-length_flatMap,-map_take,hV,c1,CU,ck,c2,c3]
 simp only[yR,ae,aU]at c1;have hk:=aU.1 c2;have hp:=aU.1 c3;have c1':yR r=true:=by simp only[yR,ae,aU];exact c1
 simp[-length_flatMap,-map_take,hV,c1',CU,ck,c2,c3];refine WL.to (UW (J:=[]::J) (price:=price) (by omega) c1.1 hk r.l.length 0 0 0 0 (by omega) c1.1 (by omega) hk.1 (by omega) (by omega)) (by simp) rfl ?_;rintro x e J' ⟨rfl,rfl,g2,g3,g8⟩;rw[aK,NW r.l 0 0 hk.1 c1.1,Int.zero_add]at g8;have hb:=XA c1.1 hk hp;have w1:=eF (n:=Ak kg r.l 0*price);have w2:=eF (n:=Ak kg r.l 0*price / 1000000);have w3:=aa8 hb.1;simp[-length_flatMap,-map_take,g2,g3,g8,w1,w2,w3,R5]
end Go.Proofs.YtklfdfnoebnciaaGreatDoor.Ls
namespace Go.Proofs.YtklfdfnoebnciaaGreatDoor
open List(length_flatMap map_take)
section
open Go Go.az
theorem Ra:it T 200 (.call false 8 [] [[.dead],[]])=some (.val (.bool true) [[.dead],[]]):=by kernel_rfl
theorem S7:lim T (.call false 8 [] [[.dead],[]])=some (.val (.bool true) [[.dead],[]]):=tL.2 ⟨200,Ra⟩
theorem Rb:it T 200 (.call false 8 [] [[.dead,.dead,.dead],[]])=some (.val (.bool true) [[.dead,.dead,.dead],[]]):=by kernel_rfl
theorem S8:lim T (.call false 8 [] [[.dead,.dead,.dead],[]])=some (.val (.bool true) [[.dead,.dead,.dead],[]]):=tL.2 ⟨200,Rb⟩
end
section
open Go Go.az Go.aD Go.gJ
variable {J:SK}
def Ny:List UInt8:=[107,101,101,112,32,57,32,56,32,55]
theorem Sb:vk [Ny]=(⟨⟨⟨0,0,0,0⟩,[],0,0,0,[]⟩,[],[],[],[],9,8,7,[],[],false,[],0⟩,[0]):=by kernel_rfl
theorem S6(hJ:J≠[]):lim T (.call false 7 [] J)=some (.val (.bool true) J):=by
 refine au J7 xp.eq_1 rfl ?_;have hR:=PK (J:=[]::J) (lines:=[Ny]) ⟨by simp,by simp[Ny]⟩ (by simp);rw[Sb]at hR;simp only[Ny,Uy,nl,aT,cb,dO,aX,cC,if_true,aF,bj,cr]at hR;simp[-length_flatMap,-map_take,hR]
open Go.Lease (Rl Gd yR R5)
theorem R6{r:Rl}(h:yR r=true){a b p:Int}(ha:0<=a)(hab:a<=b)(hp:0<=p):r.least<=R5 r a p/\R5 r a p<=R5 r b p:=by
 simp only[yR,ae]at h;have h1:=Go.Lease.Is hab r.l 0 ha h.1;have h3:=bK h1 hp;have h4:=Int.ediv_le_ediv (by decide:(0:Int)<1000000) h3;unfold R5;omega
set_option maxHeartbeats 1000000 in
theorem Ql{b c:Bk}{r:Rl}{p:Nat}{t:List G5}(hr:yR r=true)(hrl:r.l.length<=10)(hp:p<=1000)(hb:∀x∈b.cm,GW x)(hc:c.cm=b.cm++t)(hl:b.cm.length<=1000000)(hJ:J≠[]):∀(m i:Nat),i+m=b.cm.length ->
  WL T [5,9,12,15,16] false lC [(5,.bu [.int .i64 r.least,.aG r.l.length (r.l.flatMap Gd.enc)]),(9,.own 0 (Uy b)),(12,.own 0 (Uy c)),(15,.int .i64 p),(16,.int .i64 i)] J
   (λx e J'=>J'=J/\x=.exit 0)
 |0,i,hi=>by
  refine aJ lC.eq_1 ?_;have h1:¬i<b.cm.length:=by omega
  simp[-length_flatMap,-map_take,Uy,h1]
 |m+1,i,hi=>by
  refine aJ lC.eq_1 ?_;have h1:i<b.cm.length:=by omega
  obtain⟨x,hx⟩:=gE h1;have hx2:c.cm[i]?=some x:=by rw[hc,gH h1,hx]
  have h2:i<c.cm.length:=(aw.1 hx2).1;obtain⟨s1,s2,s3⟩:=hb x (ai hx);have d1:=zx (f:=G5.enc) (w:=6) (λ_=>rfl) hx;have d2:=zx (f:=G5.enc) (w:=6) (λ_=>rfl) hx2;simp only[G5.enc]at d1 d2;have e1:(b.cm.flatMap G5.enc).drop (i*6+2)=.int .i64 x.VG::.int .i64 x.VF::.int .i64 x.mlo::.int .i64 x.mhi::(b.cm.flatMap G5.enc).drop (i*6+6):=by
   have:=congrArg (List.drop 2) d1;simpa[eK]using this
  have e2:(b.cm.flatMap G5.enc).drop (i*6+2+1)=.int .i64 x.VF::.int .i64 x.mlo::.int .i64 x.mhi::(b.cm.flatMap G5.enc).drop (i*6+6):=by
   have:=congrArg (List.drop 3) d1;simpa[eK]using this
  have e3:(c.cm.flatMap G5.enc).drop (i*6+2)=.int .i64 x.VG::.int .i64 x.VF::.int .i64 x.mlo::.int .i64 x.mhi::(c.cm.flatMap G5.enc).drop (i*6+6):=by
   have:=congrArg (List.drop 2) d2;simpa[eK]using this
  have h4:=eT h1;have hY:∀(kg:Int),0<=kg->kg<=1000000000->∀J,lim T (.call false 10 [.agg [.int .i64 r.least,.aG r.l.length (r.l.flatMap Gd.enc)],.int .i64 kg,.int .i64 p] J)=some (.val (.dj [.int .i64 (R5 r kg p),.int .i64 0]) J):=λkg h1 h2 J=>by
   have:=@Ls.Od J r (by omega) kg p;unfold Ls.Xz at this;rw[hr,Go.Lease.aU.2 ⟨h1,by omega⟩,Go.Lease.aU.2 ⟨by omega,by omega⟩]at this;exact this
  have hR:=λJ (hJ:J≠[])=>@Ls.VJ J r (by omega) hJ
  have y1:=hY x.VG s1 (by omega);have y2:=hY x.VF (by omega) s3;obtain⟨m1,m2⟩:=R6 (p:=p) hr s1 s2 (by omega);have n1:¬R5 r x.VF p<R5 r x.VG p:=by omega
  have n2:¬R5 r x.VG p<r.least:=by omega
  have ih:=Ql hr hrl hp hb hc hl hJ m (i+1) (by omega);simp only[Uy]at ih ⊢;simp[-length_flatMap,-map_take,h1,h2,d1,d2,e1,e2,e3,h4,hR,hJ,y1,y2,n1,n2];exact WL.to ih (by simp) (by simp) λx e J' hh=>hh
theorem Rj{l:List (List UInt8)}{r:Rl}{p:Int}{s:List UInt8}(hl:l.length*16<=140737488351232)(hp:0<=p/\p<=65535):
  lim T (.call false 3 [.aG l.length (l.flatMap dO),.agg [.int .i64 r.least,.aG r.l.length (r.l.flatMap Gd.enc)],.int .u16 p,.str s] [[]])=some (.val (.bool true) [[]]):=by
 obtain⟨v,hF,hv⟩:=Y6 (l:=l++[s]) (by simp;omega) [[.dead],[]];have hN:=λS hS=>S6 (J:=S) hS
 have O1:=S7;have O3:=S8;have hfl:=bZ (f:=dO) (w:=1) (λ_=>rfl) l;rw[gp]at hfl;have tk:(l.flatMap dO).take l.length=l.flatMap dO:=ah (by omega);have hr1:l.length*16<=room:=by unfold room;omega
 have hr2:(l.length+1)*16<=room:=by unfold room;omega
 simp only[bJ,aF,bj,dE,aT,cb,cC,dO]at hF;have z1:∀v,cn 0 16 (.sl 1 0 v 0 (l.length+1) 1) [[.cells v (l.flatMap dO++[.str s])],[]]=(.aG (l.length+1) (l.flatMap dO++[.str s]),[[.dead],[]]):=λv=>by
  have:=zW (f:=dO) (w:=1) (λ_=>rfl) (λ_=>by simp[dO]) (l:=l++[s]) (j:=0) (v:=v) (bs:=[.cells v ((l++[s]).flatMap dO)]) (J:=[[]]) (by simp) rfl;simpa[dO]using this
 have z2:∀v,cn 0 16 (.sl 1 1 v 0 l.length 1) [[.dead,.cells v (l.flatMap dO)],[]]=(.aG l.length (l.flatMap dO),[[.dead,.dead],[]]):=λv=>by
  have:=zW (f:=dO) (w:=1) (λ_=>rfl) (λ_=>by simp[dO]) (l:=l) (j:=1) (v:=v) (bs:=[.dead,.cells v (l.flatMap dO)]) (J:=[[]]) (by simp) rfl;simpa[dO]using this
 have z3:∀v,cn 0 16 (.sl 1 2 v 0 (l.length+1) 1) [[.dead,.dead,.cells v (l.flatMap dO++[.str s])],[]]=(.aG (l.length+1) (l.flatMap dO++[.str s]),[[.dead,.dead,.dead],[]]):=λv=>by
  have:=zW (f:=dO) (w:=1) (λ_=>rfl) (λ_=>by simp[dO]) (l:=l++[s]) (j:=2) (v:=v) (bs:=[.dead,.dead,.cells v ((l++[s]).flatMap dO)]) (J:=[[]]) (by simp) rfl;simpa[dO]using this
 refine au Hm uL.eq_1 rfl ?_;cases v
 .simp[-length_flatMap,-map_take,hF,hN,O1,hfl,tk,hr1,hr2,z1]
 have hv:=hv rfl;simp only[bJ,aF,bj]at hv;have hR:=Oq (J:=[[.dead],[]]) (l:=l) (by omega);cases hok:okB l
 .rw[hok]at hR;simp[-length_flatMap,-map_take,hF,hN,O1,hfl,tk,hr1,hr2,z1,hR]
 rw[hok]at hR;by_cases c1:(39:Int)<l.length
 .simp[-length_flatMap,-map_take,hF,hN,O1,hfl,tk,hr1,hr2,z1,hR,c1]
 by_cases c2:(100:Int)<s.length
 .simp[-length_flatMap,-map_take,CT,hF,hN,O1,hfl,tk,hr1,hr2,z1,hR,c1,c2]
 by_cases c3:(10:Int)<r.l.length
 .simp[-length_flatMap,-map_take,CT,hF,hN,O1,hfl,tk,hr1,hr2,z1,hR,c1,c2,c3]
 have hRR:=λJ=>@Ls.JO J r (by omega)
 cases c4:yR r
 .simp[-length_flatMap,-map_take,CT,hF,hN,O1,hfl,tk,hr1,hr2,z1,hR,c1,c2,c3,hRR,c4]
 have hk:=NN.1 hok;have hk2:Ud (l++[s]):=⟨by simp;omega,λx hx=>by
  rcases aZ.1 hx with hx | hx
  .exact hk.2 x hx
  .rw[List.mem_singleton.1 hx];omega⟩
 have hR1:=λS hS=>PK (J:=S) hk hS
 have hR2:=λS hS=>PK (J:=S) hk2 hS
 simp only[bJ,aF,bj,dE,aT,cb,cC,dO]at hR2;obtain⟨hs1,t,hs2⟩:=LY (l:=l) (s:=s) hk.2;have hK:=GU (l:=l) (k:=0) Kv.zero hk.2;rw[show(vj ue 0 l).1=(vk l).1 from rfl]at hK;have hsl:=hK.cm;generalize (vk l).1=b at hR1 hs1 hs2 hsl;generalize (vk (l++[s])).1=c at hR2 hs2;have w1:IntKind.i64.wrap p=p:=eF;obtain⟨q,hq,hq2⟩:∃q:Nat,p.tmod 1001=q/\q<=1000:=by
  rw[Int.tmod_eq_emod_of_nonneg hp.1];exact⟨(p%1001).toNat,by omega,by omega⟩
 have w2:IntKind.i64.wrap (q:Int)=q:=eF;have c5:¬c.cm.length<b.cm.length:=by rw[hs2];simp
 have hL:=Ql (J:=[[.dead,.dead,.dead],[]]) c4 (by omega) hq2 hs1 hs2 (by omega) (by simp) b.cm.length 0 (by omega);simp only[Uy]at hR1 hR2 hL;simp[-length_flatMap,-map_take,CT,hF,hN,O1,hfl,tk,hr1,hr2,z1,z2,z3,hR,c1,c2,c3,hRR,c4,c5,hR1,hR2,w1,w2,hq];refine WL.to hL (by simp) (by simp) ?_;rintro x e J' ⟨rfl,rfl⟩;simp[-length_flatMap,-map_take,hN,O3]
end
section
open Go Go.az Go.gJ
theorem NV{α:Type}{T:Ty}{w:Nat}{f:α->List D}{Q:α->Prop}(h:∀ds,T.has ds->∃a,ds=f a/\Q a){d:D}(hd:(Ty.slice w T).has [d]):
  ∃l:List α,d=.aG l.length (l.flatMap f)/\l.length<=maxLen/\∀a∈l,Q a:=by
 simp only[Ty.has,gn,and_true]at hd;obtain⟨xs,rfl,hl,hx⟩:=hd;have key:∀xs:List (List D),(∀x∈xs,x.length=w/\T.has x)->∃l:List α,xs.flatten=l.flatMap f/\l.length=xs.length/\∀a∈l,Q a:=by
  intro xs;induction xs with
  |nil=>intro _;exact⟨[],rfl,rfl,by simp⟩
  |cons x xs ih =>
   intro hx;obtain⟨l,h1,h2,h3⟩:=ih λy hy=>hx y (by simp[hy])
   obtain⟨a,rfl,ha⟩:=h x (hx x (by simp)).2;exact⟨a::l,by simp[h1],by simp[h2],λb hb=>by
    rcases bw.1 hb with rfl | hb
    .exact ha
    .exact h3 b hb⟩
 obtain⟨l,h1,h2,h3⟩:=key xs hx;exact⟨l,by rw[h1,h2],by omega,h3⟩
theorem UB{ds:List D}(h:Ty.str.has ds):∃s:List UInt8,ds=dO s/\s.length<=maxLen:=h
end
section
open Go Go.az Go.gJ
open Go.Lease (Rl Gd)
theorem ZT{ds:List D}(h:(Ty.struct [.int .i64,.int .i64]).has ds):∃x:Gd,ds=x.enc/\True:=by
 obtain⟨_,_,rfl,⟨f,rfl,_⟩,_,_,rfl,⟨t,rfl,_⟩,rfl⟩:=h;exact⟨⟨f,t⟩,rfl,trivial⟩
theorem aau{d:D}(h:(Ty.struct [.int .i64,.slice 2 (.struct [.int .i64,.int .i64])]).OX d):∃r:Rl,d=.agg [.int .i64 r.least,.aG r.l.length (r.l.flatMap Gd.enc)]:=by
 obtain⟨ds,rfl,h⟩:=h;obtain⟨_,_,rfl,⟨w,rfl,_⟩,_,_,rfl,hs,rfl⟩:=h;have hs2:=hs;simp only[Ty.has]at hs2;obtain⟨xs,rfl,_⟩:=hs2;obtain⟨l,h,hl,_⟩:=NV (λds h=>ZT h) hs;rw[h];exact⟨⟨w,l⟩,rfl⟩
theorem L9(x0 x1 x2 x3:D)(t0:(Ty.slice 1 .str).OX x0)(t1:(Ty.struct [.int .i64,.slice 2 (.struct [.int .i64,.int .i64])]).OX x1)(t2:(Ty.int .u16).OX x2)(t3:Ty.str.OX x3)(hb:∀n cs,x0=.aG n cs->n*16<=140737488351232):
  ∃J',lim T (.call false 3 [x0,x1,x2,x3] [[]])=some (.val (.bool true) J'):=by
 obtain⟨l,rfl,hl,_⟩:=NV (λds h=>UB h) t0;obtain⟨r,rfl⟩:=aau t1;obtain⟨n,h,hw⟩:=t2;cases h;simp only[Lit.wf,ae,ao]at hw;have hw:0<=n/\n<=65535:=hw;obtain⟨s,h,_⟩:=t3;cases h;exact⟨_,Rj (hb _ _ rfl) hw⟩
theorem O5{H:Type}{enc:TypeId×Value->H}{P:Program}{w:World}{base:Nat}{spare:Nat->Bool}{held:Bool}{t e:TypeId}{v:Value}{d:DataW H}{ps:List MemPlace}(ht:P.underlying t=some (.slice e))
  (hd:DataW.Trod enc P w base spare held t v d ps) {n:Nat} {cs:List D} {g:G} (a:bB g (.aG n cs) v):n=0\/∃elems rest,d=.slice elems rest/\elems.length=n:=by
 obtain⟨fuel,hf⟩:=hd;cases a with
 |yp=>exact .inl rfl
 |aG _ _ a' cap vs h1 h2 h3 h4 =>
  rcases DataW.trod_slice ht hf with⟨h,_⟩ | ⟨b,len,c,elems,rest,k,_,h,hx,_,_,_,hel,_⟩
  .simp[Value.cells]at h
  .simp only[Value.cells,gn,and_true,Value.slice.injEq]at h;injection hx with hx _
   subst hx;exact .inr ⟨_,_,rfl,by rw[jk,hel,h.2.1]⟩
end
end Go.Proofs.YtklfdfnoebnciaaGreatDoor
