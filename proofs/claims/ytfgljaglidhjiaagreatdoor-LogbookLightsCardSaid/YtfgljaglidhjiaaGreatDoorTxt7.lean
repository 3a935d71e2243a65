import Derived.Test.YtfgljaglidhjiaaGreatDoorTxt6
import Derived.Test.YtfgljaglidhjiaaGreatDoorBase14
set_option linter.all false
set_option maxRecDepth 1000000
namespace Go.Proofs.YtfgljaglidhjiaaGreatDoor
open List(length_flatMap map_take)
open Go Go.Abs
theorem wk2:(wm2 [] []).Ok T:=dG.2 ⟨300,by kernel_rfl⟩
theorem wk7:(wm7 [] []).Ok T:=dG.2 ⟨300,by kernel_rfl⟩
theorem aBF:(azt [] []).Ok T:=dG.2 ⟨300,by kernel_rfl⟩
theorem aBK:(azy [] []).Ok T:=dG.2 ⟨300,by kernel_rfl⟩
theorem aBP:(azD [] []).Ok T:=dG.2 ⟨300,by kernel_rfl⟩
end Go.Proofs.YtfgljaglidhjiaaGreatDoor
set_option maxRecDepth 1000000
namespace Go.Proofs.YtfgljaglidhjiaaGreatDoor
open List(length_flatMap map_take)
open Go Go.Abs
theorem wk3:(wm3 [] []).Ok T:=dG.2 ⟨300,by kernel_rfl⟩
theorem wk8:(wm8 [] []).Ok T:=dG.2 ⟨300,by kernel_rfl⟩
theorem aBG:(azu [] []).Ok T:=dG.2 ⟨300,by kernel_rfl⟩
theorem aBL:(azz [] []).Ok T:=dG.2 ⟨300,by kernel_rfl⟩
theorem aBQ:(azE [] []).Ok T:=dG.2 ⟨300,by kernel_rfl⟩
end Go.Proofs.YtfgljaglidhjiaaGreatDoor
set_option maxRecDepth 1000000
namespace Go.Proofs.YtfgljaglidhjiaaGreatDoor
open List(length_flatMap map_take)
open Go Go.Abs
theorem wk4:(wm4 [] []).Ok T:=dG.2 ⟨300,by kernel_rfl⟩
theorem wk9:(wm9 [] []).Ok T:=dG.2 ⟨300,by kernel_rfl⟩
theorem aBH:(azv [] []).Ok T:=dG.2 ⟨300,by kernel_rfl⟩
theorem aBM:(azA [] []).Ok T:=dG.2 ⟨300,by kernel_rfl⟩
theorem aBR:(azF [] []).Ok T:=dG.2 ⟨300,by kernel_rfl⟩
end Go.Proofs.YtfgljaglidhjiaaGreatDoor
set_option maxRecDepth 1000000
namespace Go.Proofs.YtfgljaglidhjiaaGreatDoor
open List(length_flatMap map_take)
section
open Go Go.Abs
def atU:List pL:=[wm0 [] [],wm1 [] [],wm2 [] [],wm3 [] [],wm4 [] [],wm5 [] [],wm6 [] [],wm7 [] [],wm8 [] [],wm9 [] [],azr [] [],azs [] [],azt [] [],azu [] [],azv [] [],azw [] [],azx [] [],azy [] [],azz [] [],azA [] [],azB [] [],azC [] [],azD [] [],azE [] [],azF [] []]
theorem ajn:∀m∈atU,m.Ok T:=by
 simp only[atU,bf,List.not_mem_nil,or_false,forall_eq_or_imp,forall_eq];exact⟨wk0,wk1,wk2,wk3,wk4,wk5,wk6,wk7,wk8,wk9,aBD,aBE,aBF,aBG,aBH,aBI,aBJ,aBK,aBL,aBM,aBN,aBO,aBP,aBQ,aBR⟩
theorem agZ:itM T atU 120 (.call false pI [] [[],[]])=some (.val (.bool true) [[],[]]):=by kernel_rfl
theorem aij:bx T (.call false pI [] [[],[]])=some (.val (.bool true) [[],[]]):=To ajn agZ
end
section
open Go Go.Abs Go.Rock Go.Book
variable {σ:SK}
theorem TX{l:List (List UInt8)}{n:Nat}(h:U0 l):U0 (l.take n):=⟨by have:=h.1;simp;omega,fun s hs=>h.2 s (cV hs)⟩
theorem Pp(l:List (List UInt8))(k:Nat):(l.flatMap eA).take k=(l.take k).flatMap eA:=by rw[← Dm,← Dm,List.map_take]
theorem QE{keep n:Int}(hk:0≤keep∧keep≤1000)(hn : -100000≤n∧n≤100000)(h:n<0):
  ∃q,kG keep n = -q∧0≤q∧q ≤ -n∧(-n*keep).tdiv 1000=q∧0 ≤ -n*keep ∧ -n*keep≤100000000:=by
 have h1:0 ≤ -n*keep:=eC (by omega) hk.1;have h2 : -n*keep ≤ -n*1000:=Int.mul_le_mul_of_nonneg_left hk.2 (by omega);have h3:(-n*keep).tdiv 1000=(-n*keep) / 1000:=bh h1;refine⟨(-n*keep).tdiv 1000,by rw[kG,if_pos h],?_,?_,rfl,h1,by omega⟩<;>rw[h3]<;>omega
set_option maxRecDepth 100000 in
theorem NT{b c:Bk}{l:List (List UInt8)}{er ls:List Int}{i t:Nat}{may:Int}(hm:(may=0∨may=1)∨may=2)(hk:Trem.pf b.k0 b.k1 b.k2=true)(hls:∀n∈ls,-100000≤n∧n≤100000)(hll:ls.length≤1000000)
  {p:List (List Int)} (hp:c.aw=p++[ls.map (kG (Trem.Hy b.k0 b.k1 b.k2 may))]) (ht:t=p.length):∀(m j:Nat),j+m=ls.length →
  WL T [0,4,6,9,11,14,17,18,21] false iY [(0,.aI l.length (l.flatMap eA)),(4,.aI er.length (er.flatMap aT)),(6,.int .i64 i),(9,.aI ls.length (ls.flatMap aT)),(11,.own 0 (stB b)),(14,.own 0 (stB c)),(17,.int .i64 t),(18,.int .u8 may),(21,.int .i64 j)] σ
   (fun x e σ'=>σ'=σ∧x=.exit 2∧get e 0=.aI l.length (l.flatMap eA)∧get e 4=.aI er.length (er.flatMap aT)∧get e 6=.int .i64 i)
 |0,j,hj=>by
  refine aO iY.eq_1 ?_;have h1:¬j<ls.length:=by omega
  simp[-length_flatMap,-map_take,h1]
 |m+1,j,hj=>by
  refine aO iY.eq_1 ?_;have h1:j<ls.length:=by omega
  obtain⟨n,hn⟩:=gE h1;obtain⟨keep,hkp⟩:∃k,k=Trem.Hy b.k0 b.k1 b.k2 may:=⟨_,rfl⟩;rw[← hkp]at hp;have hr:(ls.map (kG keep))[j]?=some (kG keep n):=by rw[mO,hn];rfl
  have a1:=bS (f:=aT) (w:=1) (fun _=>rfl) hn;have a2:=bS (f:=aT) (w:=1) (fun _=>rfl) hr;have hpt:c.aw[t]?=some (ls.map (kG keep)):=by rw[hp,ht];simp
  have a3:=bS (f:=pE) (w:=1) (fun _=>rfl) hpt;have hpl:t<c.aw.length:=by rw[hp,ht];simp
  have hne:¬c.aw=[]:=by intro h;rw[h]at hpl;simp at hpl
  simp only[aT,pE,dL]at a1 a2 a3;have hkb:0≤keep∧keep≤1000:=by
   rw[hkp];simp only[Trem.pf,af,au]at hk;unfold Trem.Hy;split
   ·omega
   ·split<;>omega
  have h4:=gq h1 (by omega);have hnb:=hls n (aj hn);have ih:=NT (l:=l) (er:=er) (i:=i) hm hk hls hll (by rw[← hkp];exact hp) ht m (j+1) (by omega);simp only[stB,nl,if_neg hne]at ih ⊢;by_cases hneg:n<0
  ·obtain⟨q,q1,q2,q3,q4,q5,q6⟩:=QE hkb hnb hneg;have h0:¬0≤n:=by omega
   rw[q1]at a2;have w1:IntKind.i64.wrap q=q:=fT (by omega);have w2:IntKind.i64.wrap (-n) = -n:=fT (by omega);have w3:IntKind.i64.wrap (-n*keep) = -n*keep:=fT (by omega);have g1:¬(0:Int) < -q:=by omega
   have g2:¬-n<q:=by omega
   have g3:¬q<0:=by omega
   rcases hm with(rfl | rfl) | rfl<;>(simp[-length_flatMap,-map_take,Trem.Hy]at hkp;subst hkp;simp[-length_flatMap,-map_take,h1,a1,a2,a3,h4,hpl,h0,hneg,w1,w2,w3,q4,g1,g2,g3];exact WL.to ih (by simp) (by simp) fun x e σ' hh=>hh)
  ·have h0:0≤n:=by omega
   have e1:kG keep n=n:=by rw[kG,if_neg hneg]
   rw[e1]at a2;simp[-length_flatMap,-map_take,h1,a1,a2,a3,h4,hpl,h0,hneg];exact WL.to ih (by simp) (by simp) fun x e σ' hh=>hh
theorem UN(b:Bk):AN b=Trem.Hy b.k0 b.k1 b.k2 (ru b):=rfl
theorem wd9{a:List UInt8}{w:Wd}(h:(a,w)∈oB):(a=[116,105,99,107]↔w.k=9)∧(a=[115,101,108,108]↔w.k=12):=by
 simp only[oB,bf,an,List.not_mem_nil,or_false]at h;rcases h with⟨rfl,rfl⟩ | ⟨rfl,rfl⟩ | ⟨rfl,rfl⟩ | ⟨rfl,rfl⟩ | ⟨rfl,rfl⟩ | ⟨rfl,rfl⟩ | ⟨rfl,rfl⟩ | ⟨rfl,rfl⟩ | ⟨rfl,rfl⟩ | ⟨rfl,rfl⟩ | ⟨rfl,rfl⟩ | ⟨rfl,rfl⟩ | ⟨rfl,rfl⟩<;>simp
theorem UP{b:Bk}{k:Int}{s:List UInt8}(h:parse s=none):(oe b k s).2=4:=by unfold oe;rw[h]
theorem U6{W:List UInt8}{K:Nat}(hW:∀{a w},(a,w)∈oB→(a=W↔w.k=K)){l:List (List UInt8)}{i:Nat}{s:List UInt8}{e:Int}(hs:l[i]?=some s)(he:(mD l).2[i]?=some e):
  (∃x y d f,Ng s=.dM [.str x,.str y,d,.bool f]∧(d=.aG∨∃l:List Int,d=.aI l.length (l.flatMap aT))∧(f=true→x=W→e≠0)) ∨
  (∃w nm ns,parse s=some (w,nm,ns)∧w.k=K∧e=0∧Ng s=.dM [.str W,.str nm,.aI ns.length (ns.flatMap aT),.bool true]):=by
 cases hp:parse s with
 |none =>
  left
  obtain⟨x,y,d,f,h1,h2⟩:=U7 s;refine⟨x,y,d,f,h1,h2,fun _ _=>?_⟩;obtain⟨_,h3⟩:=Km (b:=rp) (k:=0) hs;rw[show(sy rp 0 l).2=(mD l).2 from rfl,he,ae,UP hp]at h3;omega
 |some q =>
  obtain⟨w,nm,ns⟩:=q;obtain⟨a,h1,h2⟩:=ahw hp;by_cases hk:w.k=K
  ·have ha:=(hW h1).2 hk;subst ha;by_cases h0:e=0
   ·exact .inr ⟨w,nm,ns,rfl,hk,h0,h2⟩
   ·exact .inl ⟨_,_,_,_,h2,.inr ⟨ns,rfl⟩,fun _ _=>h0⟩
  ·exact .inl ⟨_,_,_,_,h2,.inr ⟨ns,rfl⟩,fun _ h=>absurd ((hW h1).1 h) hk⟩
set_option maxRecDepth 100000 in
set_option maxHeartbeats 4000000 in
theorem NS{l:List (List UInt8)}{er:List Int}(hk:U0 l)(her:er=(mD l).2)(hσ:σ≠[]):∀(m i:Nat),i+m=l.length →
  WL T [0,4,6] false iZ [(0,.aI l.length (l.flatMap eA)),(4,.aI er.length (er.flatMap aT)),(6,.int .i64 i)] σ
   (fun x e σ'=>σ'=σ∧x=.exit 0)
 |0,i,hi=>by
  refine aO iZ.eq_1 ?_;have h1:¬i<l.length:=by omega
  simp[-length_flatMap,-map_take,h1]
 |m+1,i,hi=>by
  refine aO iZ.eq_1 ?_;have hll:=hk.1;have h1:i<l.length:=by omega
  have hel:er.length=l.length:=by rw[her];exact z6
  have h1':i<er.length:=by omega
  obtain⟨s,hs⟩:=gE h1;obtain⟨e,hee⟩:=gE h1';have a1:=bS (f:=eA) (w:=1) (fun _=>rfl) hs;have a2:=bS (f:=aT) (w:=1) (fun _=>rfl) hee;simp only[eA,aT,dL]at a1 a2;have h4:=gq h1 (by omega);have hsl:=hk.2 s (aj hs);have hP:=fun S hS=>aiv (σ:=S) (s:=s) (by omega) hS
  have ih:=NS hk her hσ m (i+1) (by omega);have e1:((i+1:Nat):Int)=(i:Int)+1:=by omega
  have hc0:=her ▸ hee;rcases U6 (fun h=>(wd9 h).1) hs hc0 with⟨x,y,d,f,hr,hd,hc⟩ | ⟨w,nm,ns,hp,hw,rfl,hr⟩
  ·rw[hr]at hP;have fin:(f=true∧x=[116,105,99,107]∧¬e=0)∨(f=true∧¬x=[116,105,99,107])∨(f=false∧True):=by
    cases f
    ·exact .inr (.inr ⟨rfl,trivial⟩)
    ·by_cases hx:x=[116,105,99,107]
     ·exact .inl ⟨rfl,hx,hc rfl hx⟩
     ·exact .inr (.inl ⟨rfl,hx⟩)
   rcases hd with rfl | ⟨q,rfl⟩<;>rcases fin with⟨rfl,rfl,h0⟩ | ⟨rfl,h0⟩ | ⟨rfl,h0⟩
   all_goals
    simp[-length_flatMap,-map_take,sw,h1,h1',a1,a2,h4,hP,hσ,h0];exact WL.to ih (by simp) (by simp) fun x e σ' hh=>hh
  ·rw[hr]at hP;obtain⟨hpl,hle,hnb⟩:=ahZ hk.2 hk.1 hs hc0 hp hw;obtain⟨_,_,_,hnl⟩:=CL hp;have tk1:=TX (n:=i) hk;have tk2:=TX (n:=i+1) hk;have tl1:(l.take i).length=i:=by simp;omega
   have tl2:(l.take (i+1)).length=i+1:=by simp;omega
   have hL1:=fun S hS=>PL (σ:=S) (l:=l.take i) (by omega) hS
   have hL2:=fun S hS=>PL (σ:=S) (l:=l.take (i+1)) (by omega) hS
   have hR1:=fun S hS=>Vw (σ:=S) tk1 hS
   have hR2:=fun S hS=>Vw (σ:=S) tk2 hS
   have hKv:=Kk (l:=l.take i) (k:=0) Kv.zero tk1.2;rw[show(sy rp 0 (l.take i)).1=(mD (l.take i)).1 from rfl]at hKv;have hsm1:(mD (l.take i)).2.length=i:=by rw[show(mD (l.take i)).2.length=(l.take i).length from z6,tl1]
   rw[tl1,← Pp]at hL1 hR1;rw[tl2,← Pp]at hL2 hR2;generalize (mD (l.take i)).1=b at hpl hle hR1 hKv;generalize (mD (l.take (i+1))).1=c at hpl hR2;generalize (mD (l.take i)).2=r1 at hR1;generalize (mD (l.take (i+1))).2=r2 at hR2;have hcol:=Hl (b:=b);rw[UN]at hpl;have hcb:ru b=Trem.LV b.rules b.wY b.aw.length:=by unfold ru;rw[if_pos hle]
   have hLi:=fun S=>aih (σ:=S) (R:=b.rules) (l:=b.wY) (now:=b.aw.length) (by have:=hKv.rules;omega) (by have:=hKv.wY;omega) (fun e he=>by
    have h5:=hKv.Kr e he;unfold Trem.Ev.ok at h5;simp only[af]at h5;have h6:=h5.2.1;simp only[Trem.cA,af,au]at h6;omega)
   rw[if_pos hle,← hcb]at hLi;generalize Trem.Kz b.rules b.wY b.aw.length=sure at hLi;generalize ru b=may at hLi hcol hpl;have hm:(may=0∨may=1)∨may=2:=by omega
   have hin:=NT (σ:=σ) (b:=b) (c:=c) (l:=l) (er:=er) (ls:=ns) (i:=i) hm hKv.keep hnb (by omega) hpl rfl ns.length 0 (by omega);have hcl:c.aw.length=b.aw.length+1:=by rw[hpl];simp
   have hcn:¬c.aw=[]:=by intro h;rw[h]at hcl;simp at hcl
   have hrow:c.aw[b.aw.length]?=some (ns.map (kG (Trem.Hy b.k0 b.k1 b.k2 may))):=by rw[hpl];simp
   have a3:=bS (f:=pE) (w:=1) (fun _=>rfl) hrow;simp only[pE,dL,dP]at a3;have hbl:b.aw.length<c.aw.length:=by omega
   have hpl2:=hKv.pl;have hlen:b.aw.length≤200:=by
    unfold uO at hpl2;split at hpl2
    ·cases hpl2
    ·omega
   have w1:IntKind.i64.wrap ((b.aw.length:Int)+1)=(b.aw.length:Int)+1:=fT (by omega);have w2:(c.aw.length:Int)=(b.aw.length:Int)+1:=by omega
   have il:(i:Int)≤l.length:=by omega
   have il2:(i:Int)+1≤l.length:=by omega
   have il0:(0:Int)≤(i:Int)+1:=by omega
   have il3:i≤l.length:=by omega
   have il4:i+1≤l.length:=by omega
   have m2:¬(2:Int)<may:=by omega
   have e1:nl pE b.aw=.aG∧b.aw=[]∨nl pE b.aw=.aI b.aw.length (b.aw.flatMap pE):=by unfold nl;split<;>simp_all
   have e2:nl pE c.aw=.aI c.aw.length (c.aw.flatMap pE):=if_neg hcn;simp only[stB,e2]at hR1 hR2 hin;have w3:(b.aw.length:Int)<(b.aw.length:Int)+1:=by omega
   rcases e1 with⟨e1,hpn⟩ | e1<;>simp only[e1]at hR1 hin
   ·have hb0:b.aw.length=0:=by rw[hpn];rfl
    rw[hb0]at hLi hin a3 hbl w1 w2 hcl;simp only[hcl,cf]at hR2 hin;simp only[cf]at hcl;rw[aP]at a3;have z0:((0:Nat):Int)=0:=rfl;simp only[z0]at hLi;simp[-length_flatMap,-map_take,sw,h1,h1',a1,a2,h4,hP,hσ,hL1,hL2,hR1,hR2,il0,il,il2,il3,il4,hLi,m2,hcl,a3];refine WL.to hin (by simp) (by simp) ?_;rintro x e σ' ⟨rfl,rfl,g0,g4,g6⟩;simp[-length_flatMap,-map_take,h4,g0,g4,g6];exact WL.to ih (by simp) (by simp) fun x e σ' hh=>hh
   ·skip
    simp[-length_flatMap,-map_take,sw,h1,h1',a1,a2,h4,hP,hσ,hL1,hL2,hR1,hR2,il0,il,il2,il3,il4,hLi,m2,w1,w2,w3,hbl,a3,hcl];refine WL.to hin (by simp[hcl]) (by simp) ?_;rintro x e σ' ⟨rfl,rfl,g0,g4,g6⟩;simp[-length_flatMap,-map_take,h4,g0,g4,g6];exact WL.to ih (by simp) (by simp) fun x e σ' hh=>hh
end
section
open Go Go.Abs Go.Book
theorem ajG{α:Type}{T:Ty}{w:Nat}{f:α→List D}{Q:α→Prop}(h:∀ds,T.has ds→∃a,ds=f a∧Q a){d:D}(hd:(Ty.slice w T).has [d]):
  ∃l:List α,d=.aI l.length (l.flatMap f)∧l.length≤maxLen∧∀a∈l,Q a:=by
 simp only[Ty.has,kF,and_true]at hd;obtain⟨xs,rfl,hl,hx⟩:=hd;have key:∀xs:List (List D),(∀x∈xs,x.length=w∧T.has x)→∃l:List α,xs.flatten=l.flatMap f∧l.length=xs.length∧∀a∈l,Q a:=by
  intro xs;induction xs with
  |nil=>intro _;exact⟨[],rfl,rfl,by simp⟩
  |cons x xs ih =>
   intro hx;obtain⟨l,h1,h2,h3⟩:=ih fun y hy=>hx y (by simp[hy])
   obtain⟨a,rfl,ha⟩:=h x (hx x (by simp)).2;exact⟨a::l,by simp[h1],by simp[h2],fun b hb=>by
    rcases bf.1 hb with rfl | hb
    ·exact ha
    ·exact h3 b hb⟩
 obtain⟨l,h1,h2,h3⟩:=key xs hx;exact⟨l,by rw[h1,h2],by omega,h3⟩
theorem ajS{ds:List D}(h:Ty.str.has ds):∃s:List UInt8,ds=eA s∧s.length≤maxLen:=h
end
section
open Go Go.Abs Go.Rock Go.Book
set_option maxRecDepth 100000 in
theorem Ql{l:List (List UInt8)}(hl:l.length≤9223372036854775807):
  bx T (.call false jj [.aI l.length (l.flatMap eA)] [[]])=some (.val (.bool true) [[]]):=by
 obtain⟨v,hF,hv⟩:=avX (l:=l) (by omega) [[],[]];have hA:=aij;refine aA Bm ma.eq_1 rfl ?_;cases v
 ·simp[-length_flatMap,-map_take,hF,hA]
 have hl:l.length≤1000000000:=by have:=hv rfl;omega
 have hR:=Ue (σ:=[[],[]]) (l:=l) hl;cases hok:okB l
 ·rw[hok]at hR;simp[-length_flatMap,-map_take,hF,hR,hA]
 rw[hok]at hR;have hk:=TF.1 hok;have hL:=fun S hS=>PL (σ:=S) (l:=l) hl hS
 have hRun:=fun S hS=>Vw (σ:=S) hk hS
 have hel:(mD l).2.length=l.length:=z6;have hin:=NS (σ:=[[],[]]) hk rfl (by simp) l.length 0 (by omega);rw[hel]at hin;simp only[stB]at hRun;generalize (mD l).1=b at hRun;generalize (mD l).2=er at hRun hin;simp[-length_flatMap,-map_take,hF,hR,hL,hRun];refine WL.to hin (by simp) rfl ?_;rintro x e σ' ⟨rfl,rfl⟩;simp[-length_flatMap,-map_take,hA]
theorem Hw(x0:D)(t0:(Ty.slice 1 .str).ayf x0):∃σ',bx T (.call false jj [x0] [[]])=some (.val (.bool true) σ'):=by
 obtain⟨l,rfl,hl,_⟩:=ajG (fun ds h=>ajS h) t0;have hm:maxLen≤9223372036854775807:=by decide
 exact⟨_,Ql (by omega)⟩
end
end Go.Proofs.YtfgljaglidhjiaaGreatDoor
