import Derived.Test.YtfgljaglidhjiaaGreatDoorTxt2
import Derived.Test.YtfgljaglidhjiaaGreatDoorTxt5
import Derived.Test.YtfgljaglidhjiaaGreatDoorBase20
import Derived.Test.YtfgljaglidhjiaaGreatDoorTab
import Derived.ProofKit
import Derived.Test.YtfgljaglidhjiaaGreatDoorBase14
set_option linter.all false
namespace Go.Proofs.YtfgljaglidhjiaaGreatDoor
open List(length_flatMap map_take)
open Go Go.Abs Go.Book
variable {σ:SK}
def Sf(l:List (List UInt8)):Prop:=l.length≤100∧∀s∈l,s.length≤4000
def atJ:Elt (List UInt8):=⟨false,1,eU,fun s => .str s,fun _=>rfl,fun _=>by simp[eU],fun _=>rfl,fun _=>rfl,fun _=>rfl⟩
theorem aiO{s:List UInt8}:bw T (.call false iQ [.str s] σ)=some (.val (.bool (decide (4000<s.length))) σ):=by
 refine aD Ii IS rfl ?_;have e:decide ((4000:Int)<(s.length:Int))=decide (4000<s.length):=by
  by_cases h:4000<s.length
  ·rw[decide_eq_true h,decide_eq_true (by omega)]
  ·rw[decide_eq_false h,decide_eq_false (by omega)]
 simp[-length_flatMap,-map_take,KF,e]
def okB(l:List (List UInt8)):Bool:=decide (l.length≤100) && !sN l (fun s=>decide (4000<s.length))
theorem SQ{l:List (List UInt8)}(hl:l.length≤1000000000):bw T (.call false fH [.aK l.length (l.flatMap eU)] σ)=some (.val (.int .i64 (if okB l then 0 else 3)) σ):=by
 refine aD Ll LK rfl ?_;have hC:=fun σ=>contains_of atJ (T:=T) (f:=eC) (i:=jv) (l:=l) (p:=fun s=>decide (4000<s.length)) (fv:=.fn iQ [] []) rfl rfl (by omega) (rE.fn fun s _ σ=>aiO) (σ:=σ)
 have hC':∀σ,bw T (.call false eC [.aK l.length (l.flatMap eU),.fn iQ [] []] σ)=some (.val (.bool (sN l (fun s=>decide (4000<s.length)))) σ):=hC;unfold okB;by_cases h1:l.length≤100
 ·have h2:¬(100:Int)<l.length:=by omega
  cases h3:sN l (fun s=>decide (4000<s.length))<;>rw[h3]at hC'<;>simp[-length_flatMap,-map_take,h1,h2,hC']
 ·have h2:(100:Int)<l.length:=by omega
  simp[-length_flatMap,-map_take,h1,h2]
theorem Se{l:List (List UInt8)}:okB l=true↔Sf l:=by
 unfold okB Sf;simp only[af,aA,dU];constructor
 ·rintro⟨h1,h2⟩;refine⟨h1,fun s hs=>?_⟩;by_cases h:s.length≤4000
  ·exact h
  ·have h3:sN l (fun s=>decide (4000<s.length))=true:=Tm.2 ⟨s,hs,show decide (4000<s.length)=true from decide_eq_true (by omega)⟩;rw[h2]at h3;cases h3
 ·rintro⟨h1,h2⟩;refine⟨h1,?_⟩;cases h:sN l (fun s=>decide (4000<s.length))with
  |false=>rfl
  |true =>
   obtain⟨s,hs,h3⟩:=Tm.1 h;have:=h2 s hs;simp only[aA]at h3;omega
theorem U5{l:List (List UInt8)}(hl:l.length≤1000000000)(hσ:σ≠[]):bw T (.call false oz [.aK l.length (l.flatMap eU)] σ)=some (.val (.aK l.length (l.flatMap eU)) σ):=by
 refine aD PX Qp rfl ?_;cases l with
 |nil=>simp[-length_flatMap,-map_take]
 |cons s r =>
  have hfl:((s::r).flatMap eU).length=(s::r).length:=by have:=bV (f:=eU) (w:=1) (fun _=>rfl) (s::r);omega
  have hne:¬(s::r).length=0:=by simp
  generalize s::r=l at hl hfl hne ⊢;have hr:l.length*16≤room:=by unfold room;omega
  have hk:=zL (n:=16) (f:=eU) (w:=1) (l:=l) (j:=1) (v:=0) (bs:=[.cells 0 [],.cells 0 (l.flatMap eU)]) (by decide) (fun _=>rfl) (fun _=>by simp[eU]) hσ (by simp);simp[-length_flatMap,-map_take,hfl,hne,hr];exact⟨_,hk⟩
theorem agf{l:List (List UInt8)}(hl:l.length≤1000000000):∀(m i:Nat),i+m=l.length →
  WL T [0,3] false sA [(0,.aK l.length (l.flatMap eU)),(3,.int .i64 i)] σ
   (fun x e σ'=>σ'=σ∧if sN (l.drop i) (fun s=>decide (4000<s.length))then x=.ret∧get e 2=.bool false else x=.exit 0∧get e 0=.aK l.length (l.flatMap eU))
 |0,i,hi=>by
  refine aM Bi ?_;obtain rfl:i=l.length:=by omega
  have h2:l.drop l.length=[]:=aJ (by omega);simp[-length_flatMap,-map_take,h2,sN]
 |m+1,i,hi=>by
  refine aM Bi ?_;have h1:i<l.length:=by omega
  obtain⟨s,hs⟩:=gE h1;have a1:=bQ (f:=eU) (w:=1) (fun _=>rfl) hs;simp only[eU,dM]at a1;have h4:=fK h1 (by omega);rw[dG hs];by_cases hc:4000<s.length
  ·have hc':(4000:Int)<s.length:=by omega
   simp[-length_flatMap,-map_take,KF,h1,a1,hc,hc',sN]
  ·have hc':¬(4000:Int)<s.length:=by omega
   simp[-length_flatMap,-map_take,KF,h1,a1,h4,hc',sN,hc];exact WL.to (agf hl m (i+1) (by omega)) (by simp) rfl fun x e σ' hh=>by simpa[sN,hc]using hh
theorem ahx{l:List (List UInt8)}(hl:l.length≤1000000000):bw T (.call false tD [.aK l.length (l.flatMap eU)] σ)=some (.val (.bool (okB l)) σ):=by
 refine aD N5 OC rfl ?_;simp[-length_flatMap,-map_take];refine WL.to (agf (σ:=[]::σ) hl l.length 0 (by omega)) (by simp) rfl ?_;rintro x e σ' ⟨rfl,hh⟩;rw[aS]at hh;cases hc:sN l (fun s=>decide (4000<s.length))
 ·rw[hc,if_neg (by simp)]at hh;obtain⟨rfl,g0⟩:=hh;by_cases h1:l.length≤100
  ·have h2:(l.length:Int)≤100:=by omega
   simp[-length_flatMap,-map_take,g0,okB,hc,h1,h2]
  ·have h2:¬(l.length:Int)≤100:=by omega
   simp[-length_flatMap,-map_take,g0,okB,hc,h1,h2]
 ·rw[hc,if_pos rfl]at hh;obtain⟨rfl,g2⟩:=hh;simp[g2,okB,hc]
end Go.Proofs.YtfgljaglidhjiaaGreatDoor
namespace Go.Proofs.YtfgljaglidhjiaaGreatDoor
open List(length_flatMap map_take)
open Go Go.Abs Go.Rock Go.Book
variable {σ:SK}
def Li(b:Bk):List D:=[.int .i64 b.bL.f.x,.int .i64 b.bL.f.y,.int .i64 b.bL.f.z,.int .i64 b.bL.f.k,nl Rw.enc b.bL.cf,.int .i64 b.bL.bJ,.int .i64 b.bL.lift,.int .i64 b.bL.deep,nl bH.enc b.bL.av,
 .aK b.az.length (b.az.flatMap mA.enc),nl pE b.aC,.aK b.rules.length (b.rules.flatMap Trem.eJ.enc),.aK b.BI.length (b.BI.flatMap Trem.Ev.enc),.int .i64 b.k0,.int .i64 b.k1,.int .i64 b.k2,
 .aK b.fh.length (b.fh.flatMap Al.enc),.aK b.j8.length (b.j8.flatMap OZ.enc)]
theorem ajJ{α:Type}{f:α→List D}(h:∀x,D.bD (f x)=true)(l:List α):(nl f l).clean=true:=by
 unfold nl;split
 ·rfl
 ·simp[D.clean,ir h l]
theorem ko{α:Type}{f:α→List D}{w n:Nat}(hn:1<n)(hw:∀x,(f x).length=w)(hc:∀x,D.bD (f x)=true){l:List α}{j v m:Nat}{bs bs':List Abs.aG}(hσ:σ≠[])(hm:m=l.length)(hj:bs[j]?=some (.cells v (l.flatMap f)))(hb:bs.set j .dead=bs'):
  cI (σ.length-1) n (.sl σ.length j v 0 m w) (bs::σ)=(.aK m (l.flatMap f),bs'::σ):=by
 subst hb;subst hm;exact zL hn hw hc hσ hj
theorem ahY{b:Bk}{er:List Int}(hσ:σ≠[]):cI (σ.length-1) 16 (.ez [.agg ((b.cells σ.length).take 18),.sl σ.length 7 er.length 0 er.length 1,.int .i64 0]) (b.bx σ.length er::σ) =
  (.ez [.agg (Li b),.aK er.length (er.flatMap aU),.int .i64 0],[.dead,.dead,.dead,.dead,.dead,.cells b.pX.length (b.pX.flatMap Vj.enc),.cells 0 (b.cells σ.length),.dead]::σ):=by
 have c1:(nl Rw.enc b.bL.cf).clean=true:=ajJ (fun _=>by simp[D.clean]) _;have c2:(nl bH.enc b.bL.av).clean=true:=ajJ (fun _=>by simp[D.clean]) _;have c3:(nl pE b.aC).clean=true:=ajJ (fun x=>by simp[pE,D.clean,bA]) _;have q1:∀x:mA,D.bD x.enc=true:=fun x=>by simp[D.clean,bA]
 have q2:∀x:Trem.eJ,D.bD x.enc=true:=fun x=>by simp[D.clean]
 have q3:∀x:Trem.Ev,D.bD x.enc=true:=fun x=>by simp[D.clean,ir (f:=Trem.yp.enc) (fun _=>by simp[D.clean])]
 have q4:∀x:Al,D.bD x.enc=true:=fun x=>by simp[D.clean,ir (f:=Prt.enc) (fun _=>by simp[D.clean])]
 have q5:∀x:OZ,D.bD x.enc=true:=fun x=>by simp[D.clean]
 have q6:∀x:Int,D.bD (aU x)=true:=fun x=>by simp[aU,D.clean]
 generalize hA5:Abs.aG.cells b.pX.length (b.pX.flatMap Vj.enc)=A5;generalize hA6:Abs.aG.cells 0 (b.cells σ.length)=A6;have f0:=ko (σ:=σ) (n:=14) (w:=4) (by omega) (fun _=>rfl) q1 (l:=b.az) (j:=0) (v:=b.az.length) (bs:=b.bx σ.length er) hσ rfl rfl rfl;have f1:=ko (σ:=σ) (n:=14) (w:=10) (by omega) (fun _=>rfl) q2 (l:=b.rules) (j:=1) (v:=b.rules.length) (bs:=(b.bx σ.length er).set 0 .dead) hσ rfl rfl rfl;have f2:=ko (σ:=σ) (n:=14) (w:=2) (by omega) (fun _=>rfl) q3 (l:=b.BI) (j:=2) (v:=b.BI.length) (bs:=((b.bx σ.length er).set 0 .dead).set 1 .dead) hσ rfl rfl rfl;have f3:=ko (σ:=σ) (n:=14) (w:=2) (by omega) (fun _=>rfl) q4 (l:=b.fh) (j:=3) (v:=b.fh.length) (bs:=(((b.bx σ.length er).set 0 .dead).set 1 .dead).set 2 .dead) hσ rfl rfl rfl;have f4:=ko (σ:=σ) (n:=14) (w:=6) (by omega) (fun _=>rfl) q5 (l:=b.j8) (j:=4) (v:=b.j8.length) (bs:=((((b.bx σ.length er).set 0 .dead).set 1 .dead).set 2 .dead).set 3 .dead) hσ rfl rfl rfl;have f5:=ko (σ:=σ) (n:=15) (w:=1) (by omega) (fun _=>rfl) q6 (l:=er) (j:=7) (v:=er.length) (bs:=(((((b.bx σ.length er).set 0 .dead).set 1 .dead).set 2 .dead).set 3 .dead).set 4 .dead) hσ rfl rfl rfl;have hi:∀(k:Int) (n:Nat) (S:SK),0<n→cI (σ.length-1) n (.int .i64 k) S=(.int .i64 k,S):=fun k n S hn=>lh (by rfl) hn
 rw[E7 (by simp[Bk.cells,D.clean,D.bD]) (by omega)];simp only[yq,Br];rw[agz (by simp[Bk.cells,D.clean]) (by omega)];simp only[Bk.cells,List.take_succ_cons,List.take_zero,yq,Br,Nat.reduceSub];simp only[hi _ 14 _ (by omega),lh c1 (show 0<14 by omega),lh c2 (show 0<14 by omega),lh c3 (show 0<14 by omega),f0,f1,f2,f3,f4,f5,hi _ 15 _ (by omega)];simp only[Bk.bx,List.set_cons_zero,List.set_cons_succ,hA5,Li];rw[← hA6]
theorem aiL{lines:List (List UInt8)}(hl:Sf lines)(hσ:σ≠[]):bw T (.call false oN [.aK lines.length (lines.flatMap eU)] σ) =
  some (.val (.ez [.agg (Li (uo lines).1),.aK lines.length ((uo lines).2.flatMap aU),.int .i64 0]) σ):=by
 refine aD N2 Oz rfl ?_;have hC:=fun S=>SQ (σ:=S) (l:=lines) (by have:=hl.1;omega)
 have hok:okB lines=true:=Se.2 hl;simp only[hok,if_true]at hC;have hR:=ai9 (σ:=σ) (lines:=lines) hl;have hlen:(uo lines).2.length=lines.length:=BD;have hf:=ahY (σ:=σ) (b:=(uo lines).1) (er:=(uo lines).2) hσ;rw[hlen]at hf;generalize uo lines=r at hR hlen hf ⊢;obtain⟨b,er⟩:=r;simp only at hR hf hlen ⊢;simp only[Bk.cells,Bk.bx,List.take_succ_cons,List.take_zero]at hf hR;simp[-length_flatMap,-map_take,hC,hR];exact⟨_,hf⟩
theorem Tj:∀{l:List (List UInt8)} {er:List Int} {i:Nat} {s:List UInt8} {e:Int},l[i]?=some s→er[i]?=some e →
  wN (l.take (i+1)) (er.take (i+1))=wN (l.take i) (er.take i)++(if e=0 then [s]else [])
 |[],er,i,s,e,h1,h2=>by simp at h1
 |_::_,[],i,s,e,h1,h2=>by simp at h2
 |x::l,y::er,0,s,e,h1,h2=>by
  simp at h1 h2;subst h1;subst h2;simp[wN]
 |x::l,y::er,i+1,s,e,h1,h2=>by
  have ih:=Tj (l:=l) (er:=er) (i:=i) (by simpa using h1) (by simpa using h2);simp only[List.take_succ_cons,wN]at ih ⊢;split
  ·rw[ih];rfl
  ·exact ih
theorem ajj{lines:List (List UInt8)}{er:List Int}{A:List Abs.aG}(hl:lines.length≤100)(he:er.length=lines.length)(hA:A.length=8)(h7:A[7]?=some (.cells er.length (er.flatMap aU))):∀(m i:Nat) (acc:List (List UInt8)),i+m=lines.length→acc=wN (lines.take i) (er.take i) →
  WL T [0,7,20,21,22] false mh [(0,.aK lines.length (lines.flatMap eU)),(7,.sl σ.length 8 acc.length 0 acc.length 1),(20,.sl σ.length 7 er.length 0 er.length 1),(21,.int .i64 er.length),(22,.int .i64 i)] ((A++[.cells acc.length (acc.flatMap eU)])::σ)
   (fun x e σ'=>∃acc,acc=wN lines er∧x=.exit 0∧get e 7=.sl σ.length 8 acc.length 0 acc.length 1∧σ'=(A++[.cells acc.length (acc.flatMap eU)])::σ)
 |0,i,acc,hi,ha=>by
  refine aM uO ?_;obtain rfl:i=lines.length:=by omega
  rw[List.take_length,← he,List.take_length]at ha;subst ha;simp[-length_flatMap,-map_take,he]
 |m+1,i,acc,hi,ha=>by
  refine aM uO ?_;have h1:i<lines.length:=by omega
  have h1':i<er.length:=by omega
  obtain⟨s,hs⟩:=gE h1;obtain⟨e,hee⟩:=gE h1';have a1:=bQ (f:=eU) (w:=1) (fun _=>rfl) hs;have a2:=bQ (f:=aU) (w:=1) (fun _=>rfl) hee;simp only[eU,aU,dM]at a1 a2;have hdr:=HZ (f:=aU) (w:=1) (fun _=>rfl) hee;simp only[dM,aU,eR]at hdr;have h4:=fK h1 (by omega);have hsn:=Tj hs hee;have hal:=Qa (l:=lines.take i) (r:=er.take i);rw[← ha]at hal hsn;have hal2:acc.length≤100:=by simp at hal;omega
  have hfl:=bV (f:=eU) (w:=1) (fun _=>rfl) acc;have tk:(acc.flatMap eU).take acc.length=acc.flatMap eU:=ar (by omega);have hr:(acc.length+1)*16≤room:=by unfold room;omega
  have hq:acc.length≤(acc.flatMap eU).length:=by omega
  have hg:(A++[Abs.aG.cells acc.length (acc.flatMap eU)])[8]?=some (.cells acc.length (acc.flatMap eU)):=by rw[List.getElem?_append_right (by omega),hA];rfl
  have hg7:(A++[Abs.aG.cells acc.length (acc.flatMap eU)])[7]?=some (.cells er.length (er.flatMap aU)):=by rw[jq (by omega),h7]
  have hst:∀x:Abs.aG,(A++[Abs.aG.cells acc.length (acc.flatMap eU)]).set 8 x=A++[x]:=fun x=>by rw[List.set_append_right _ _ (by omega),hA];rfl
  by_cases hc:e=0
  ·subst hc;rw[if_pos rfl]at hsn;simp[-length_flatMap,-map_take,h1,h1',a1,a2,hdr,h4,hg,hg7,hst,hr,hq,tk];have ih:=ajj hl he hA h7 m (i+1) (acc++[s]) (by omega) hsn.symm;have e1:((i+1:Nat):Int)=(i:Int)+1:=by omega
   rw[e1]at ih;exact WL.to ih (by simp) (by simp) fun x e σ' hh=>by simpa using hh
  ·rw[if_neg hc,eB]at hsn;simp[-length_flatMap,-map_take,h1,h1',a1,a2,hdr,h4,hg,hg7,hc];have ih:=ajj hl he hA h7 m (i+1) acc (by omega) hsn.symm;have e1:((i+1:Nat):Int)=(i:Int)+1:=by omega
   rw[e1]at ih;exact WL.to ih (by rfl) (by rfl) fun x e σ' hh=>by simpa using hh
theorem UY{lines:List (List UInt8)}(hl:Sf lines)(hσ:σ≠[]):bw T (.call false nA [.aK lines.length (lines.flatMap eU)] σ) =
  some (.val (.ez [.aK (wN lines (uo lines).2).length ((wN lines (uo lines).2).flatMap eU),.int .i64 0]) σ):=by
 refine aD GM HE rfl ?_;have hC:=fun S=>SQ (σ:=S) (l:=lines) (by have:=hl.1;omega)
 have hok:okB lines=true:=Se.2 hl;simp only[hok,if_true]at hC;have hR:=ai9 (σ:=σ) (lines:=lines) hl;have hlen:(uo lines).2.length=lines.length:=BD;generalize uo lines=r at hR hlen ⊢;obtain⟨b,er⟩:=r;simp only at hR hlen ⊢;have hL:=ajj (σ:=σ) (A:=b.bx σ.length er) hl.1 hlen rfl rfl lines.length 0 [] (by omega) (by simp[wN]);have hsl:(b.bx σ.length er).length=8:=rfl;simp[-length_flatMap,-map_take,hC,hR,hsl];refine WL.to hL (by simp[hlen]) (by simp) ?_;rintro x e σ' ⟨acc,rfl,rfl,g7,rfl⟩;simp[-length_flatMap,-map_take,g7];exact⟨_,aoG (zL (n:=15) (f:=eU) (w:=1) (l:=wN lines er) (by decide) (fun _=>rfl) (fun _=>by simp[eU]) hσ (by simp[Bk.bx]))⟩
theorem ajp{a:List Int}(hl:a.length≤1000000000):∀(m i:Nat),i+m=a.length →
  WL T [0,1,5] false tI [(0,.aK a.length (a.flatMap aU)),(1,.aK a.length (a.flatMap aU)),(5,.int .i64 i)] σ (fun x e σ'=>σ'=σ∧x=.exit 0)
 |0,i,hi=>by
  refine aM CU ?_;have h1:¬i<a.length:=by omega
  simp[-length_flatMap,-map_take,h1]
 |m+1,i,hi=>by
  refine aM CU ?_;have h1:i<a.length:=by omega
  obtain⟨x,hx⟩:=gE h1;have a1:=bQ (f:=aU) (w:=1) (fun _=>rfl) hx;simp only[aU,dM]at a1;have h4:=fK h1 (by omega);simp[-length_flatMap,-map_take,h1,a1,h4];exact WL.to (ajp hl m (i+1) (by omega)) (by simp) rfl fun x e σ' hh=>by simpa using hh
theorem aiT{a:List Int}(hl:a.length≤1000000000):bw T (.call false pT [.aK a.length (a.flatMap aU),.aK a.length (a.flatMap aU)] σ)=some (.val (.bool true) σ):=by
 refine aD PW Qo rfl ?_;simp[-length_flatMap,-map_take];refine WL.to (ajp (σ:=[]::σ) hl a.length 0 (by omega)) (by simp) rfl ?_;rintro x e σ' ⟨rfl,rfl⟩;simp[-length_flatMap,-map_take]
theorem agi{a:List OZ}(hl:a.length≤1000000000):∀(m i:Nat),i+m=a.length →
  WL T [0,1,5] false sw [(0,.aK a.length (a.flatMap OZ.enc)),(1,.aK a.length (a.flatMap OZ.enc)),(5,.int .i64 i)] σ (fun x e σ'=>σ'=σ∧x=.exit 0)
 |0,i,hi=>by
  refine aM Bf ?_;have h1:¬i<a.length:=by omega
  simp[-length_flatMap,-map_take,h1]
 |m+1,i,hi=>by
  refine aM Bf ?_;have h1:i<a.length:=by omega
  obtain⟨x,hx⟩:=gE h1;have a1:=bQ (f:=OZ.enc) (w:=6) (fun _=>rfl) hx;have a2:=bV (f:=OZ.enc) (w:=6) (fun _=>rfl) a;have a3:6≤(a.flatMap OZ.enc).length-i*6:=by omega
  have h4:=fK h1 (by omega);simp[-length_flatMap,-map_take,h1,a1,a2,a3,h4];exact WL.to (agi hl m (i+1) (by omega)) (by simp) rfl fun x e σ' hh=>by simpa using hh
theorem aqw{a:List OZ}(hl:a.length≤1000000000):bw T (.call false tB [.aK a.length (a.flatMap OZ.enc),.aK a.length (a.flatMap OZ.enc)] σ)=some (.val (.bool true) σ):=by
 refine aD N1 Oy rfl ?_;simp[-length_flatMap,-map_take];refine WL.to (agi (σ:=[]::σ) hl a.length 0 (by omega)) (by simp) rfl ?_;rintro x e σ' ⟨rfl,rfl⟩;simp[-length_flatMap,-map_take]
theorem SP{s t:List UInt8}:bw T (.call false nz [.str s,.str t] σ)=some (.val (.bool (decide (t.length≤s.length) && (s.take t.length == t))) σ):=by
 refine aD Mw Na rfl ?_;by_cases h:t.length≤s.length
 ·have h':(t.length:Int)≤s.length:=by omega
  simp[-length_flatMap,-map_take,KF,h,h']
 ·have h':¬(t.length:Int)≤s.length:=by omega
  simp[-length_flatMap,-map_take,KF,h,h']
theorem ar9{l:List (List UInt8)}(hl:l.length≤9223372036854775807):∀(m i:Nat) (x y z:Int),i+m=l.length →
  WL T [0,3,4,5,6] false tG [(0,.aK l.length (l.flatMap eU)),(3,.int .i64 x),(4,.int .i64 y),(5,.int .i64 z),(6,.int .i64 i)] σ
   (fun x e σ'=>σ'=σ∧x=.exit 0∧get e 0=.aK l.length (l.flatMap eU)∧∃u v w,get e 3=.int .i64 u∧get e 4=.int .i64 v∧get e 5=.int .i64 w)
 |0,i,x,y,z,hi=>by
  refine aM CS ?_;have h1:¬i<l.length:=by omega
  simp[-length_flatMap,-map_take,h1]
 |m+1,i,x,y,z,hi=>by
  refine aM CS ?_;have h1:i<l.length:=by omega
  obtain⟨s,hs⟩:=gE h1;have a1:=bQ (f:=eU) (w:=1) (fun _=>rfl) hs;simp only[eU,dM]at a1;have h4:=fK h1 (by omega);have hB:=fun t σ=>@SP σ s t
  have e1:((i+1:Nat):Int)=(i:Int)+1:=by omega
  have ih:=fun x y z=>ar9 hl m (i+1) x y z (by omega)
  rw[e1]at ih;rw[e1]at h4;generalize hv:(fun t:List UInt8=>decide (t.length≤s.length) && (s.take t.length == t))=v at hB;have hB':∀t σ,bw T (.call false nz [.str s,.str t] σ)=some (.val (.bool (v t)) σ):=fun t σ=>by rw[← hv];exact SP
  cases c1:v [109,111,100,101,108]<;>cases c2:v [116,105,99,107]<;>simp[-length_flatMap,-map_take,KF,h1,a1,h4,hB',c1,c2]<;>
   exact WL.to (ih _ _ _) rfl rfl fun x e σ' hh=>by simpa using hh
theorem azl{l:List (List UInt8)}(hl:l.length≤9223372036854775807)(σ:SK):∃v,bw T (.call false xf [.aK l.length (l.flatMap eU)] σ)=some (.val (.bool v) σ)∧(v=true→l.length≤103):=by
 obtain⟨x,e,σ',h1,rfl,rfl,g0,u,v,w,g3,g4,g5⟩:=ar9 (σ:=[]::σ) hl l.length 0 0 0 0 (by omega);refine⟨decide (v≤4) && (decide (w≤8) && (decide (u≤5000) && (decide ((l.length:Int)≤40) || (decide (u≤400) && decide ((l.length:Int)≤103))))),?_,fun h=>by simp only[af,cn,aA]at h;omega⟩;refine aD Tb TH rfl ?_;simp[-length_flatMap,-map_take];refine⟨_,_,_,by simpa using h1,?_⟩;by_cases c1:v≤4<;>by_cases c2:w≤8<;>by_cases c3:u≤5000<;>by_cases c4:(l.length:Int)≤40<;>by_cases c5:u≤400<;>by_cases c6:(l.length:Int)≤103<;>
  simp[-length_flatMap,-map_take,g0,g3,g4,g5,c1,c2,c3,c4,c5,c6]
def Ax(b:cC):List D:=[.int .i64 b.f.x,.int .i64 b.f.y,.int .i64 b.f.z,.int .i64 b.f.k,nl Rw.enc b.cf,.int .i64 b.bJ,.int .i64 b.lift,.int .i64 b.deep,nl bH.enc b.av]
theorem ajk{b:cC}(h1:b.cf.length≤1000000000):∀(m i:Nat),i+m=b.cf.length →
  WL T [2,3,5] false tH [(2,.bE (Ax b)),(3,.bE (Ax b)),(5,.int .i64 i)] σ (fun x e σ'=>σ'=σ∧x=.exit 0∧get e 2=.bE (Ax b)∧get e 3=.bE (Ax b))
 |0,i,hi=>by
  refine aM CT ?_;have h1:¬i<b.cf.length:=by omega
  by_cases h0:b.cf=[]
  ·obtain rfl:i=0:=by rw[h0]at hi;simpa using hi
   simp[-length_flatMap,-map_take,Ax,nl,h0]
  ·simp[-length_flatMap,-map_take,Ax,nl,h0,h1]
 |m+1,i,hi=>by
  refine aM CT ?_;have h2:i<b.cf.length:=by omega
  obtain⟨x,hx⟩:=gE h2;have h0:¬b.cf=[]:=by intro h;rw[h]at h2;simp at h2
  have a1:=bQ (f:=Rw.enc) (w:=5) (fun _=>rfl) hx;have a2:=bV (f:=Rw.enc) (w:=5) (fun _=>rfl) b.cf;have a3:5≤(b.cf.flatMap Rw.enc).length-i*5:=by omega
  have h4:=fK h2 (by omega);have ih:=ajk h1 m (i+1) (by omega);simp only[Ax,nl,if_neg h0]at ih;simp[-length_flatMap,-map_take,Ax,nl,h0,h2,a1,a2,a3,h4];exact WL.to ih (by simp) rfl fun x e σ' hh=>by simpa[Ax,nl,h0]using hh
theorem ajl{b:cC}(h1:b.av.length≤1000000000):∀(m i:Nat),i+m=b.av.length →
  WL T [2,3,6] false su [(2,.bE (Ax b)),(3,.bE (Ax b)),(6,.int .i64 i)] σ (fun x e σ'=>σ'=σ∧x=.exit 2)
 |0,i,hi=>by
  refine aM Be ?_;have h1:¬i<b.av.length:=by omega
  by_cases h0:b.av=[]
  ·obtain rfl:i=0:=by rw[h0]at hi;simpa using hi
   simp[-length_flatMap,-map_take,Ax,nl,h0]
  ·simp[-length_flatMap,-map_take,Ax,nl,h0,h1]
 |m+1,i,hi=>by
  refine aM Be ?_;have h2:i<b.av.length:=by omega
  obtain⟨x,hx⟩:=gE h2;have h0:¬b.av=[]:=by intro h;rw[h]at h2;simp at h2
  have a1:=bQ (f:=bH.enc) (w:=3) (fun _=>rfl) hx;have a2:=bV (f:=bH.enc) (w:=3) (fun _=>rfl) b.av;have a3:3≤(b.av.flatMap bH.enc).length-i*3:=by omega
  have h4:=fK h2 (by omega);have ih:=ajl h1 m (i+1) (by omega);simp only[Ax,nl,if_neg h0]at ih;simp[-length_flatMap,-map_take,Ax,nl,h0,h2,a1,a2,a3,h4];exact WL.to ih (by simp) rfl fun x e σ' hh=>by simpa using hh
theorem asY{b:cC}(h1:b.cf.length≤1000000000)(h2:b.av.length≤1000000000):bw T (.call false vg [.agg (Ax b),.agg (Ax b)] σ)=some (.val (.bool true) σ):=by
 refine aD PV Qm rfl ?_;have hT:=ajk (σ:=[]::σ) h1 b.cf.length 0 (by omega);have hW:=ajl (σ:=[]::σ) h2 b.av.length 0 (by omega);have e1:nl Rw.enc b.cf=.aH∧b.cf=[]∨nl Rw.enc b.cf=.aK b.cf.length (b.cf.flatMap Rw.enc):=by unfold nl;split<;>simp_all
 have e2:nl bH.enc b.av=.aH∧b.av=[]∨nl bH.enc b.av=.aK b.av.length (b.av.flatMap bH.enc):=by unfold nl;split<;>simp_all
 have key:∀e:Env,get e 2=.bE (Ax b)→get e 3=.bE (Ax b)→True:=fun _ _ _=>trivial
 simp only[Ax]at hT hW ⊢;rcases e1 with⟨e1,_⟩ | e1<;>rcases e2 with⟨e2,_⟩ | e2<;>rw[e1,e2]at hT hW ⊢
 all_goals
  simp[-length_flatMap,-map_take];refine WL.to hT (by simp) rfl ?_;rintro x e σ' ⟨rfl,rfl,g2,g3⟩;simp[-length_flatMap,-map_take,g2,g3];refine WL.to hW (by simp) rfl ?_;rintro x e σ' ⟨rfl,rfl⟩;simp[-length_flatMap,-map_take]
end Go.Proofs.YtfgljaglidhjiaaGreatDoor
set_option maxRecDepth 1000000
namespace Go.Proofs.YtfgljaglidhjiaaGreatDoor
open List(length_flatMap map_take)
open Go Go.Abs
def qI(n:Int):D:=.int .i64 n
def M8:D:=(.aK 3 [(qI 100),(qI 101),(qI 419),(qI 2676),(qI 150),(qI 150),(qI 476),(qI 632),(qI 2746),(qI 300),(qI 200),(qI 1555),(qI 852),(qI 2793),(qI 600)])
def dc:aG:=.cells 0 []
def dq2:D:=(.aK 1 [(qI 0),(qI 500),(qI 5)])
def dq3:D:=(.aK 8 [(qI 8000),(qI 8000),(qI 500),(qI 400),(qI 900),(qI 400),(qI 0),(qI 10)])
def dq4:D:=(.sl 3 13 0 0 0 6)
def dq5:D:=(.aK 8 [(qI 8000),(qI 8000),(qI 500),(qI 400),(qI 900),(qI 500),(qI 0),(qI 10)])
def dq6:D:=(.sl 3 4 0 0 0 6)
def dq7:D:=(.sl 3 3 0 0 0 2)
def dq8:D:=(.sl 3 12 0 0 0 2)
def dq9:D:=(.sl 3 2 0 0 0 2)
def TA:D:=(.sl 3 14 2 0 2 4)
def TB:D:=(.sl 3 11 0 0 0 2)
def TC:D:=(.sl 3 1 0 0 0 10)
def atI:D:=(.aK 2 [(.aK 1 [(qI (-50))]),(.aK 1 [(qI 50)])])
def TD:D:=(.sl 3 9 2 0 2 4)
def TE:D:=(.sl 3 5 2 0 2 4)
def TF:D:=(.sl 3 0 2 0 2 4)
def Vt:D:=(.sl 3 10 0 0 0 10)
def ahO:D:=(.sl 3 10 1 0 1 10)
def ahP:D:=(.sl 3 1 1 0 1 10)
def b0:aG:=.cells 0 [(qI 0),(qI 0),(qI 0),(qI 0),.aH,(qI 0),(qI 0),(qI 0),.aH,(.sl 3 0 0 0 0 4),.aH,TC,dq9,(qI 1000),(qI 500),(qI 0),dq7,dq6,(.bool false),(.sl 3 5 0 0 0 4),(qI 0)]
def b1:aG:=.cells 0 [(qI 2),(qI 1),(qI 1),(qI 4),.aH,(qI 0),(qI 0),(qI 0),.aH,(.sl 3 0 0 0 0 4),.aH,TC,dq9,(qI 1000),(qI 500),(qI 0),dq7,dq6,(.bool false),(.sl 3 5 0 0 0 4),(qI 0)]
def b2:aG:=.cells 0 [(qI 2),(qI 1),(qI 1),(qI 4),M8,(qI 0),(qI 0),(qI 0),.aH,(.sl 3 0 0 0 0 4),.aH,TC,dq9,(qI 1000),(qI 500),(qI 0),dq7,dq6,(.bool false),(.sl 3 5 0 0 0 4),(qI 1)]
def b3:aG:=.cells 0 [(qI 2),(qI 1),(qI 1),(qI 4),M8,(qI 1000),(qI 0),(qI 800),.aH,(.sl 3 0 0 0 0 4),.aH,TC,dq9,(qI 1000),(qI 500),(qI 0),dq7,dq6,(.bool true),(.sl 3 5 0 0 0 4),(qI 2)]
def b4:aG:=.cells 3 [(qI 0),(qI 0),(qI 0)]
def b5:aG:=.cells 0 [(qI 2),(qI 1),(qI 1),(qI 4),M8,(qI 1000),(qI 0),(qI 800),dq2,(.sl 3 0 0 0 0 4),.aH,TC,dq9,(qI 1000),(qI 500),(qI 0),dq7,dq6,(.bool true),(.sl 3 5 0 0 0 4),(qI 3)]
def b6:aG:=.cells 4 [(qI 0),(qI 0),(qI 0),(qI 0)]
def b7:aG:=.cells 1 [(.str [97]),dq3,(.bool true),(qI 0)]
def b8:aG:=.cells 1 [(qI 0),(qI 0),(qI 0),(qI 0)]
def b9:aG:=.cells 0 [(qI 2),(qI 1),(qI 1),(qI 4),M8,(qI 1000),(qI 0),(qI 800),dq2,(.sl 3 0 1 0 1 4),.aH,TC,dq9,(qI 1000),(qI 500),(qI 0),dq7,dq6,(.bool true),(.sl 3 5 1 0 1 4),(qI 4)]
def b10:aG:=.cells 5 [(qI 0),(qI 0),(qI 0),(qI 0),(qI 0)]
def b11:aG:=.cells 2 [(.str [97]),dq3,(.bool true),(qI 0),(.str [98]),dq5,(.bool true),(qI 0)]
def b12:aG:=.cells 2 [(qI 0),(qI 0),(qI 0),(qI 0),(qI 0),(qI 0),(qI 0),(qI 0)]
def b13:aG:=.cells 0 [(qI 2),(qI 1),(qI 1),(qI 4),M8,(qI 1000),(qI 0),(qI 800),dq2,TF,.aH,TC,dq9,(qI 1000),(qI 500),(qI 0),dq7,dq6,(.bool true),TE,(qI 5)]
def b14:aG:=.cells 6 [(qI 0),(qI 0),(qI 0),(qI 0),(qI 0),(qI 0)]
def Dn:aG:=.cells 2 [(.str [97]),dq3,(.bool true),(qI 0),(.str [98]),dq5,(.bool false),(qI 6)]
def Dp:aG:=.cells 2 [(qI 0),(qI 0),(qI 0),(qI 0),(qI 6),(qI 500),(qI 390),(qI 410)]
def b17:aG:=.cells 0 [(qI 2),(qI 1),(qI 1),(qI 4),M8,(qI 1000),(qI 0),(qI 800),dq2,TF,.aH,TC,dq9,(qI 1000),(qI 500),(qI 0),dq7,dq6,(.bool true),TE,(qI 6)]
def b18:aG:=.cells 7 [(qI 0),(qI 0),(qI 0),(qI 0),(qI 0),(qI 0),(qI 0)]
def zo:aG:=.cells 1 [(qI 0),(qI 0),(qI 0),(qI 9),(qI 9),(qI 9),(qI 20),(qI 5),(qI 1),(.int .u8 (1))]
def b20:aG:=.cells 0 [(qI 2),(qI 1),(qI 1),(qI 4),M8,(qI 1000),(qI 0),(qI 800),dq2,TF,.aH,ahP,dq9,(qI 1000),(qI 500),(qI 0),dq7,dq6,(.bool true),TE,(qI 7)]
def b21:aG:=.cells 8 [(qI 0),(qI 0),(qI 0),(qI 0),(qI 0),(qI 0),(qI 0),(qI 0)]
def AR:aG:=.cells 1 [(qI 0),(.aK 1 [(qI 1),(qI 1),(qI 1),(qI 25)])]
def b23:aG:=.cells 0 [(qI 2),(qI 1),(qI 1),(qI 4),M8,(qI 1000),(qI 0),(qI 800),dq2,TF,.aH,ahP,(.sl 3 2 1 0 1 2),(qI 1000),(qI 500),(qI 0),dq7,dq6,(.bool true),TE,(qI 8)]
def b24:aG:=.cells 9 [(qI 0),(qI 0),(qI 0),(qI 0),(qI 0),(qI 0),(qI 0),(qI 0),(qI 0)]
def b25:aG:=.cells 0 [(qI 2),(qI 1),(qI 1),(qI 4),M8,(qI 1000),(qI 0),(qI 800),dq2,TF,(.aK 1 [(.aK 1 [(qI (-50))])]),ahP,(.sl 3 2 1 0 1 2),(qI 1000),(qI 500),(qI 0),dq7,dq6,(.bool true),TE,(qI 9)]
def b26:aG:=.cells 10 [(qI 0),(qI 0),(qI 0),(qI 0),(qI 0),(qI 0),(qI 0),(qI 0),(qI 0),(qI 0)]
def b27:aG:=.cells 0 [(qI 2),(qI 1),(qI 1),(qI 4),M8,(qI 1000),(qI 0),(qI 800),dq2,TF,atI,ahP,(.sl 3 2 1 0 1 2),(qI 1000),(qI 500),(qI 0),dq7,dq6,(.bool true),TE,(qI 10)]
def b28:aG:=.cells 11 [(qI 0),(qI 0),(qI 0),(qI 0),(qI 0),(qI 0),(qI 0),(qI 0),(qI 0),(qI 0),(qI 0)]
def Ie:aG:=.cells 1 [(qI 0),(.aK 1 [(qI 100),(qI 400)])]
def b30:aG:=.cells 0 [(qI 2),(qI 1),(qI 1),(qI 4),M8,(qI 1000),(qI 0),(qI 800),dq2,TF,atI,ahP,(.sl 3 2 1 0 1 2),(qI 1000),(qI 500),(qI 0),(.sl 3 3 1 0 1 2),dq6,(.bool true),TE,(qI 11)]
def b31:aG:=.cells 12 [(qI 0),(qI 0),(qI 0),(qI 0),(qI 0),(qI 0),(qI 0),(qI 0),(qI 0),(qI 0),(qI 0),(qI 0)]
def LH:aG:=.cells 1 [(qI 2),(qI 0),(qI 4000),(qI 4000),(qI 12000),(qI 12000)]
def LI:aG:=.cells 0 [(qI 2),(qI 1),(qI 1),(qI 4),M8,(qI 1000),(qI 0),(qI 800),dq2,TF,atI,ahP,(.sl 3 2 1 0 1 2),(qI 1000),(qI 500),(qI 0),(.sl 3 3 1 0 1 2),(.sl 3 4 1 0 1 6),(.bool true),TE,(qI 12)]
def LY:aG:=.cells 13 [(qI 0),(qI 0),(qI 0),(qI 0),(qI 0),(qI 0),(qI 0),(qI 0),(qI 0),(qI 0),(qI 0),(qI 0),(qI 0)]
def LZ:aG:=.cells 1 [(.str [102,105,101,108,100,32,50,32,49,32,49,32,52]),(.str [116,97,98,108,101,32,49,48,48,32,49,48,49,32,52,49,57,32,50,54,55,54,32,49,53,48,32,49,53,48,32,52,55,54,32,54,51,50,32,50,55,52,54,32,51,48,48,32,50,48,48,32,49,53,53,53,32,56,53,50,32,50,55,57,51,32,54,48,48]),(.str [98,101,100,32,49,48,48,48,32,48,32,56,48,48]),(.str [109,111,100,101,108,32,97,32,56,48,48,48,32,56,48,48,48,32,53,48,48,32,52,48,48,32,57,48,48,32,52,48,48,32,48,32,49,48]),(.str [109,111,100,101,108,32,98,32,56,48,48,48,32,56,48,48,48,32,53,48,48,32,52,48,48,32,57,48,48,32,53,48,48,32,48,32,49,48]),(.str [108,111,103,32,116,49,32,50,32,51,57,48,32,52,49,48,32,49,32,49]),(.str [114,117,108,101,32,48,32,48,32,48,32,57,32,57,32,57,32,50,48,32,53,32,49,32,49]),(.str [113,117,97,107,101,32,49,32,49,32,49,32,50,53]),(.str [116,105,99,107,32,45,49,48,48]),(.str [116,105,99,107,32,53,48]),(.str [117,110,105,116,32,48,32,49,48,48,32,52,48,48]),(.str [115,101,108,108,32,48,32,48,32,48,32,51]),(.str [])]
def b36:aG:=.cells 0 [(qI 0),(qI 0),(qI 0),(qI 0),.aH,(qI 0),(qI 0),(qI 0),.aH,(.sl 3 9 0 0 0 4),.aH,Vt,TB,(qI 1000),(qI 500),(qI 0),dq8,dq4,(.bool false),(.sl 3 14 0 0 0 4),(qI 0)]
def b37:aG:=.cells 0 [(qI 2),(qI 1),(qI 1),(qI 4),.aH,(qI 0),(qI 0),(qI 0),.aH,(.sl 3 9 0 0 0 4),.aH,Vt,TB,(qI 1000),(qI 500),(qI 0),dq8,dq4,(.bool false),(.sl 3 14 0 0 0 4),(qI 0)]
def b38:aG:=.cells 0 [(qI 2),(qI 1),(qI 1),(qI 4),M8,(qI 0),(qI 0),(qI 0),.aH,(.sl 3 9 0 0 0 4),.aH,Vt,TB,(qI 1000),(qI 500),(qI 0),dq8,dq4,(.bool false),(.sl 3 14 0 0 0 4),(qI 1)]
def b39:aG:=.cells 0 [(qI 2),(qI 1),(qI 1),(qI 4),M8,(qI 1000),(qI 0),(qI 800),.aH,(.sl 3 9 0 0 0 4),.aH,Vt,TB,(qI 1000),(qI 500),(qI 0),dq8,dq4,(.bool true),(.sl 3 14 0 0 0 4),(qI 2)]
def b40:aG:=.cells 0 [(qI 2),(qI 1),(qI 1),(qI 4),M8,(qI 1000),(qI 0),(qI 800),.aH,(.sl 3 9 1 0 1 4),.aH,Vt,TB,(qI 1000),(qI 500),(qI 0),dq8,dq4,(.bool true),(.sl 3 14 1 0 1 4),(qI 3)]
def b41:aG:=.cells 0 [(qI 2),(qI 1),(qI 1),(qI 4),M8,(qI 1000),(qI 0),(qI 800),.aH,TD,.aH,Vt,TB,(qI 1000),(qI 500),(qI 0),dq8,dq4,(.bool true),TA,(qI 4)]
def b42:aG:=.cells 2 [(.str [97]),dq3,(.bool true),(qI 0),(.str [98]),dq5,(.bool false),(qI 5)]
def b43:aG:=.cells 2 [(qI 0),(qI 0),(qI 0),(qI 0),(qI 5),(qI 500),(qI 390),(qI 410)]
def b44:aG:=.cells 0 [(qI 2),(qI 1),(qI 1),(qI 4),M8,(qI 1000),(qI 0),(qI 800),.aH,TD,.aH,Vt,TB,(qI 1000),(qI 500),(qI 0),dq8,dq4,(.bool true),TA,(qI 5)]
def b45:aG:=.cells 0 [(qI 2),(qI 1),(qI 1),(qI 4),M8,(qI 1000),(qI 0),(qI 800),.aH,TD,.aH,ahO,TB,(qI 1000),(qI 500),(qI 0),dq8,dq4,(.bool true),TA,(qI 6)]
def b46:aG:=.cells 0 [(qI 2),(qI 1),(qI 1),(qI 4),M8,(qI 1000),(qI 0),(qI 800),.aH,TD,.aH,ahO,(.sl 3 11 1 0 1 2),(qI 1000),(qI 500),(qI 0),dq8,dq4,(.bool true),TA,(qI 7)]
def b47:aG:=.cells 0 [(qI 2),(qI 1),(qI 1),(qI 4),M8,(qI 1000),(qI 0),(qI 800),.aH,TD,.aH,ahO,(.sl 3 11 1 0 1 2),(qI 1000),(qI 500),(qI 0),dq8,dq4,(.bool true),TA,(qI 8)]
def b48:aG:=.cells 9 [(qI 0),(qI 0),(qI 0),(qI 0),(qI 0),(qI 0),(qI 0),(qI 0),(qI 1)]
def b49:aG:=.cells 0 [(qI 2),(qI 1),(qI 1),(qI 4),M8,(qI 1000),(qI 0),(qI 800),.aH,TD,.aH,ahO,(.sl 3 11 1 0 1 2),(qI 1000),(qI 500),(qI 0),dq8,dq4,(.bool true),TA,(qI 9)]
def b50:aG:=.cells 10 [(qI 0),(qI 0),(qI 0),(qI 0),(qI 0),(qI 0),(qI 0),(qI 0),(qI 1),(qI 1)]
def b51:aG:=.cells 0 [(qI 2),(qI 1),(qI 1),(qI 4),M8,(qI 1000),(qI 0),(qI 800),.aH,TD,.aH,ahO,(.sl 3 11 1 0 1 2),(qI 1000),(qI 500),(qI 0),(.sl 3 12 1 0 1 2),dq4,(.bool true),TA,(qI 10)]
def b52:aG:=.cells 11 [(qI 0),(qI 0),(qI 0),(qI 0),(qI 0),(qI 0),(qI 0),(qI 0),(qI 1),(qI 1),(qI 0)]
def b53:aG:=.cells 0 [(qI 2),(qI 1),(qI 1),(qI 4),M8,(qI 1000),(qI 0),(qI 800),.aH,TD,.aH,ahO,(.sl 3 11 1 0 1 2),(qI 1000),(qI 500),(qI 0),(.sl 3 12 1 0 1 2),dq4,(.bool true),TA,(qI 11)]
def s0(F G:List aG):SK:=[[dc,dc,dc,dc,dc,dc,b0,dc],[],F,G]
def s1(F G:List aG):SK:=[[dc,dc,dc,dc,dc,dc,b1,dc],[],F,G]
def s2(F G:List aG):SK:=[[dc,dc,dc,dc,dc,dc,b1,.cells 1 [(qI 0)]],[],F,G]
def s3(F G:List aG):SK:=[[dc,dc,dc,dc,dc,dc,b2,.cells 1 [(qI 0)]],[],F,G]
def s4(F G:List aG):SK:=[[dc,dc,dc,dc,dc,dc,b2,.cells 2 [(qI 0),(qI 0)]],[],F,G]
def s5(F G:List aG):SK:=[[dc,dc,dc,dc,dc,dc,b3,.cells 2 [(qI 0),(qI 0)]],[],F,G]
def s6(F G:List aG):SK:=[[dc,dc,dc,dc,dc,dc,b3,b4],[],F,G]
def s7(F G:List aG):SK:=[[dc,dc,dc,dc,dc,dc,b5,b4],[],F,G]
def s8(F G:List aG):SK:=[[dc,dc,dc,dc,dc,dc,b5,b6],[],F,G]
def s9(F G:List aG):SK:=[[b7,dc,dc,dc,dc,b8,b9,b6],[],F,G]
def s10(F G:List aG):SK:=[[b7,dc,dc,dc,dc,b8,b9,b10],[],F,G]
def s11(F G:List aG):SK:=[[b11,dc,dc,dc,dc,b12,b13,b10],[],F,G]
def s12(F G:List aG):SK:=[[b11,dc,dc,dc,dc,b12,b13,b14],[],F,G]
def s13(F G:List aG):SK:=[[Dn,dc,dc,dc,dc,Dp,b17,b14],[],F,G]
def s14(F G:List aG):SK:=[[Dn,dc,dc,dc,dc,Dp,b17,b18],[],F,G]
def s15(F G:List aG):SK:=[[Dn,zo,dc,dc,dc,Dp,b20,b18],[],F,G]
def s16(F G:List aG):SK:=[[Dn,zo,dc,dc,dc,Dp,b20,b21],[],F,G]
def s17(F G:List aG):SK:=[[Dn,zo,AR,dc,dc,Dp,b23,b21],[],F,G]
def s18(F G:List aG):SK:=[[Dn,zo,AR,dc,dc,Dp,b23,b24],[],F,G]
def s19(F G:List aG):SK:=[[Dn,zo,AR,dc,dc,Dp,b25,b24],[],F,G]
def s20(F G:List aG):SK:=[[Dn,zo,AR,dc,dc,Dp,b25,b26],[],F,G]
def s21(F G:List aG):SK:=[[Dn,zo,AR,dc,dc,Dp,b27,b26],[],F,G]
def s22(F G:List aG):SK:=[[Dn,zo,AR,dc,dc,Dp,b27,b28],[],F,G]
def s23(F G:List aG):SK:=[[Dn,zo,AR,Ie,dc,Dp,b30,b28],[],F,G]
def s24(F G:List aG):SK:=[[Dn,zo,AR,Ie,dc,Dp,b30,b31],[],F,G]
def s25(F G:List aG):SK:=[[Dn,zo,AR,Ie,LH,Dp,LI,b31],[],F,G]
def s26(F G:List aG):SK:=[[Dn,zo,AR,Ie,LH,Dp,LI,LY,LZ,dc,dc,dc,dc,dc,dc,b36,dc],[],F,G]
def s27(F G:List aG):SK:=[[Dn,zo,AR,Ie,LH,Dp,LI,LY,LZ,dc,dc,dc,dc,dc,dc,b37,dc],[],F,G]
def s28(F G:List aG):SK:=[[Dn,zo,AR,Ie,LH,Dp,LI,LY,LZ,dc,dc,dc,dc,dc,dc,b37,.cells 1 [(qI 0)]],[],F,G]
def s29(F G:List aG):SK:=[[Dn,zo,AR,Ie,LH,Dp,LI,LY,LZ,dc,dc,dc,dc,dc,dc,b38,.cells 1 [(qI 0)]],[],F,G]
def s30(F G:List aG):SK:=[[Dn,zo,AR,Ie,LH,Dp,LI,LY,LZ,dc,dc,dc,dc,dc,dc,b38,.cells 2 [(qI 0),(qI 0)]],[],F,G]
def s31(F G:List aG):SK:=[[Dn,zo,AR,Ie,LH,Dp,LI,LY,LZ,dc,dc,dc,dc,dc,dc,b39,.cells 2 [(qI 0),(qI 0)]],[],F,G]
def s32(F G:List aG):SK:=[[Dn,zo,AR,Ie,LH,Dp,LI,LY,LZ,dc,dc,dc,dc,dc,dc,b39,b4],[],F,G]
def s33(F G:List aG):SK:=[[Dn,zo,AR,Ie,LH,Dp,LI,LY,LZ,b7,dc,dc,dc,dc,b8,b40,b4],[],F,G]
def s34(F G:List aG):SK:=[[Dn,zo,AR,Ie,LH,Dp,LI,LY,LZ,b7,dc,dc,dc,dc,b8,b40,b6],[],F,G]
def s35(F G:List aG):SK:=[[Dn,zo,AR,Ie,LH,Dp,LI,LY,LZ,b11,dc,dc,dc,dc,b12,b41,b6],[],F,G]
def s36(F G:List aG):SK:=[[Dn,zo,AR,Ie,LH,Dp,LI,LY,LZ,b11,dc,dc,dc,dc,b12,b41,b10],[],F,G]
def s37(F G:List aG):SK:=[[Dn,zo,AR,Ie,LH,Dp,LI,LY,LZ,b42,dc,dc,dc,dc,b43,b44,b10],[],F,G]
def s38(F G:List aG):SK:=[[Dn,zo,AR,Ie,LH,Dp,LI,LY,LZ,b42,dc,dc,dc,dc,b43,b44,b14],[],F,G]
def s39(F G:List aG):SK:=[[Dn,zo,AR,Ie,LH,Dp,LI,LY,LZ,b42,zo,dc,dc,dc,b43,b45,b14],[],F,G]
def s40(F G:List aG):SK:=[[Dn,zo,AR,Ie,LH,Dp,LI,LY,LZ,b42,zo,dc,dc,dc,b43,b45,b18],[],F,G]
def s41(F G:List aG):SK:=[[Dn,zo,AR,Ie,LH,Dp,LI,LY,LZ,b42,zo,AR,dc,dc,b43,b46,b18],[],F,G]
def s42(F G:List aG):SK:=[[Dn,zo,AR,Ie,LH,Dp,LI,LY,LZ,b42,zo,AR,dc,dc,b43,b46,b21],[],F,G]
def s43(F G:List aG):SK:=[[Dn,zo,AR,Ie,LH,Dp,LI,LY,LZ,b42,zo,AR,dc,dc,b43,b47,b21],[],F,G]
def s44(F G:List aG):SK:=[[Dn,zo,AR,Ie,LH,Dp,LI,LY,LZ,b42,zo,AR,dc,dc,b43,b47,b48],[],F,G]
def s45(F G:List aG):SK:=[[Dn,zo,AR,Ie,LH,Dp,LI,LY,LZ,b42,zo,AR,dc,dc,b43,b49,b48],[],F,G]
def s46(F G:List aG):SK:=[[Dn,zo,AR,Ie,LH,Dp,LI,LY,LZ,b42,zo,AR,dc,dc,b43,b49,b50],[],F,G]
def s47(F G:List aG):SK:=[[Dn,zo,AR,Ie,LH,Dp,LI,LY,LZ,b42,zo,AR,Ie,dc,b43,b51,b50],[],F,G]
def s48(F G:List aG):SK:=[[Dn,zo,AR,Ie,LH,Dp,LI,LY,LZ,b42,zo,AR,Ie,dc,b43,b51,b52],[],F,G]
def s49(F G:List aG):SK:=[[Dn,zo,AR,Ie,LH,Dp,LI,LY,LZ,b42,zo,AR,Ie,dc,b43,b53,b52],[],F,G]
def wm0(F G:List aG):rA:=⟨aN,[(.ref 3 6 0 0),(qI 0),(.str [102,105,101,108,100,32,50,32,49,32,49,32,52])],s0 F G,(qI 0),s1 F G⟩
def wm1(F G:List aG):rA:=⟨aN,[(.ref 3 6 0 0),(qI 1),(.str [116,97,98,108,101,32,49,48,48,32,49,48,49,32,52,49,57,32,50,54,55,54,32,49,53,48,32,49,53,48,32,52,55,54,32,54,51,50,32,50,55,52,54,32,51,48,48,32,50,48,48,32,49,53,53,53,32,56,53,50,32,50,55,57,51,32,54,48,48])],s2 F G,(qI 0),s3 F G⟩
def wm2(F G:List aG):rA:=⟨aN,[(.ref 3 6 0 0),(qI 2),(.str [98,101,100,32,49,48,48,48,32,48,32,56,48,48])],s4 F G,(qI 0),s5 F G⟩
def wm3(F G:List aG):rA:=⟨aN,[(.ref 3 6 0 0),(qI 3),(.str [119,101,108,108,32,48,32,53,48,48,32,53])],s6 F G,(qI 0),s7 F G⟩
def wm4(F G:List aG):rA:=⟨aN,[(.ref 3 6 0 0),(qI 4),(.str [109,111,100,101,108,32,97,32,56,48,48,48,32,56,48,48,48,32,53,48,48,32,52,48,48,32,57,48,48,32,52,48,48,32,48,32,49,48])],s8 F G,(qI 0),s9 F G⟩
def wm5(F G:List aG):rA:=⟨aN,[(.ref 3 6 0 0),(qI 5),(.str [109,111,100,101,108,32,98,32,56,48,48,48,32,56,48,48,48,32,53,48,48,32,52,48,48,32,57,48,48,32,53,48,48,32,48,32,49,48])],s10 F G,(qI 0),s11 F G⟩
def wm6(F G:List aG):rA:=⟨aN,[(.ref 3 6 0 0),(qI 6),(.str [108,111,103,32,116,49,32,50,32,51,57,48,32,52,49,48,32,49,32,49])],s12 F G,(qI 0),s13 F G⟩
def wm7(F G:List aG):rA:=⟨aN,[(.ref 3 6 0 0),(qI 7),(.str [114,117,108,101,32,48,32,48,32,48,32,57,32,57,32,57,32,50,48,32,53,32,49,32,49])],s14 F G,(qI 0),s15 F G⟩
def wm8(F G:List aG):rA:=⟨aN,[(.ref 3 6 0 0),(qI 8),(.str [113,117,97,107,101,32,49,32,49,32,49,32,50,53])],s16 F G,(qI 0),s17 F G⟩
def wm9(F G:List aG):rA:=⟨aN,[(.ref 3 6 0 0),(qI 9),(.str [116,105,99,107,32,45,49,48,48])],s18 F G,(qI 0),s19 F G⟩
def aCw(F G:List aG):rA:=⟨aN,[(.ref 3 6 0 0),(qI 10),(.str [116,105,99,107,32,53,48])],s20 F G,(qI 0),s21 F G⟩
def aCx(F G:List aG):rA:=⟨aN,[(.ref 3 6 0 0),(qI 11),(.str [117,110,105,116,32,48,32,49,48,48,32,52,48,48])],s22 F G,(qI 0),s23 F G⟩
def aCy(F G:List aG):rA:=⟨aN,[(.ref 3 6 0 0),(qI 12),(.str [115,101,108,108,32,48,32,48,32,48,32,51])],s24 F G,(qI 0),s25 F G⟩
def aCz(F G:List aG):rA:=⟨aN,[(.ref 3 15 0 0),(qI 0),(.str [102,105,101,108,100,32,50,32,49,32,49,32,52])],s26 F G,(qI 0),s27 F G⟩
def aCA(F G:List aG):rA:=⟨aN,[(.ref 3 15 0 0),(qI 1),(.str [116,97,98,108,101,32,49,48,48,32,49,48,49,32,52,49,57,32,50,54,55,54,32,49,53,48,32,49,53,48,32,52,55,54,32,54,51,50,32,50,55,52,54,32,51,48,48,32,50,48,48,32,49,53,53,53,32,56,53,50,32,50,55,57,51,32,54,48,48])],s28 F G,(qI 0),s29 F G⟩
def aCB(F G:List aG):rA:=⟨aN,[(.ref 3 15 0 0),(qI 2),(.str [98,101,100,32,49,48,48,48,32,48,32,56,48,48])],s30 F G,(qI 0),s31 F G⟩
def aCC(F G:List aG):rA:=⟨aN,[(.ref 3 15 0 0),(qI 3),(.str [109,111,100,101,108,32,97,32,56,48,48,48,32,56,48,48,48,32,53,48,48,32,52,48,48,32,57,48,48,32,52,48,48,32,48,32,49,48])],s32 F G,(qI 0),s33 F G⟩
def aCD(F G:List aG):rA:=⟨aN,[(.ref 3 15 0 0),(qI 4),(.str [109,111,100,101,108,32,98,32,56,48,48,48,32,56,48,48,48,32,53,48,48,32,52,48,48,32,57,48,48,32,53,48,48,32,48,32,49,48])],s34 F G,(qI 0),s35 F G⟩
def aCE(F G:List aG):rA:=⟨aN,[(.ref 3 15 0 0),(qI 5),(.str [108,111,103,32,116,49,32,50,32,51,57,48,32,52,49,48,32,49,32,49])],s36 F G,(qI 0),s37 F G⟩
def aCF(F G:List aG):rA:=⟨aN,[(.ref 3 15 0 0),(qI 6),(.str [114,117,108,101,32,48,32,48,32,48,32,57,32,57,32,57,32,50,48,32,53,32,49,32,49])],s38 F G,(qI 0),s39 F G⟩
def aCG(F G:List aG):rA:=⟨aN,[(.ref 3 15 0 0),(qI 7),(.str [113,117,97,107,101,32,49,32,49,32,49,32,50,53])],s40 F G,(qI 0),s41 F G⟩
def aCH(F G:List aG):rA:=⟨aN,[(.ref 3 15 0 0),(qI 8),(.str [116,105,99,107,32,45,49,48,48])],s42 F G,(qI 1),s43 F G⟩
def aCI(F G:List aG):rA:=⟨aN,[(.ref 3 15 0 0),(qI 9),(.str [116,105,99,107,32,53,48])],s44 F G,(qI 1),s45 F G⟩
def aCJ(F G:List aG):rA:=⟨aN,[(.ref 3 15 0 0),(qI 10),(.str [117,110,105,116,32,48,32,49,48,48,32,52,48,48])],s46 F G,(qI 0),s47 F G⟩
def aCK(F G:List aG):rA:=⟨aN,[(.ref 3 15 0 0),(qI 11),(.str [115,101,108,108,32,48,32,48,32,48,32,51])],s48 F G,(qI 8),s49 F G⟩
end Go.Proofs.YtfgljaglidhjiaaGreatDoor
set_option maxRecDepth 1000000
namespace Go.Proofs.YtfgljaglidhjiaaGreatDoor
open List(length_flatMap map_take)
open Go Go.Abs
theorem wk0:(wm0 [] []).Ok T:=dH.2 ⟨300,by kernel_rfl⟩
theorem wk5:(wm5 [] []).Ok T:=dH.2 ⟨300,by kernel_rfl⟩
theorem aEG:(aCw [] []).Ok T:=dH.2 ⟨300,by kernel_rfl⟩
theorem aEL:(aCB [] []).Ok T:=dH.2 ⟨300,by kernel_rfl⟩
theorem aEQ:(aCG [] []).Ok T:=dH.2 ⟨300,by kernel_rfl⟩
end Go.Proofs.YtfgljaglidhjiaaGreatDoor
set_option maxRecDepth 1000000
namespace Go.Proofs.YtfgljaglidhjiaaGreatDoor
open List(length_flatMap map_take)
open Go Go.Abs
theorem wk1:(wm1 [] []).Ok T:=dH.2 ⟨300,by kernel_rfl⟩
theorem wk6:(wm6 [] []).Ok T:=dH.2 ⟨300,by kernel_rfl⟩
theorem aEH:(aCx [] []).Ok T:=dH.2 ⟨300,by kernel_rfl⟩
theorem aEM:(aCC [] []).Ok T:=dH.2 ⟨300,by kernel_rfl⟩
theorem aER:(aCH [] []).Ok T:=dH.2 ⟨300,by kernel_rfl⟩
end Go.Proofs.YtfgljaglidhjiaaGreatDoor
set_option maxRecDepth 1000000
namespace Go.Proofs.YtfgljaglidhjiaaGreatDoor
open List(length_flatMap map_take)
open Go Go.Abs
theorem wk2:(wm2 [] []).Ok T:=dH.2 ⟨300,by kernel_rfl⟩
theorem wk7:(wm7 [] []).Ok T:=dH.2 ⟨300,by kernel_rfl⟩
theorem aEI:(aCy [] []).Ok T:=dH.2 ⟨300,by kernel_rfl⟩
theorem aEN:(aCD [] []).Ok T:=dH.2 ⟨300,by kernel_rfl⟩
theorem aES:(aCI [] []).Ok T:=dH.2 ⟨300,by kernel_rfl⟩
end Go.Proofs.YtfgljaglidhjiaaGreatDoor
set_option maxRecDepth 1000000
namespace Go.Proofs.YtfgljaglidhjiaaGreatDoor
open List(length_flatMap map_take)
open Go Go.Abs
theorem wk3:(wm3 [] []).Ok T:=dH.2 ⟨300,by kernel_rfl⟩
theorem wk8:(wm8 [] []).Ok T:=dH.2 ⟨300,by kernel_rfl⟩
theorem aEJ:(aCz [] []).Ok T:=dH.2 ⟨300,by kernel_rfl⟩
theorem aEO:(aCE [] []).Ok T:=dH.2 ⟨300,by kernel_rfl⟩
theorem aET:(aCJ [] []).Ok T:=dH.2 ⟨300,by kernel_rfl⟩
end Go.Proofs.YtfgljaglidhjiaaGreatDoor
set_option maxRecDepth 1000000
namespace Go.Proofs.YtfgljaglidhjiaaGreatDoor
open List(length_flatMap map_take)
open Go Go.Abs
theorem wk4:(wm4 [] []).Ok T:=dH.2 ⟨300,by kernel_rfl⟩
theorem wk9:(wm9 [] []).Ok T:=dH.2 ⟨300,by kernel_rfl⟩
theorem aEK:(aCA [] []).Ok T:=dH.2 ⟨300,by kernel_rfl⟩
theorem aEP:(aCF [] []).Ok T:=dH.2 ⟨300,by kernel_rfl⟩
theorem aEU:(aCK [] []).Ok T:=dH.2 ⟨300,by kernel_rfl⟩
end Go.Proofs.YtfgljaglidhjiaaGreatDoor
set_option maxRecDepth 1000000
namespace Go.Proofs.YtfgljaglidhjiaaGreatDoor
open List(length_flatMap map_take)
section
open Go Go.Abs
def axl:List rA:=[wm0 [] [],wm1 [] [],wm2 [] [],wm3 [] [],wm4 [] [],wm5 [] [],wm6 [] [],wm7 [] [],wm8 [] [],wm9 [] [],aCw [] [],aCx [] [],aCy [] [],aCz [] [],aCA [] [],aCB [] [],aCC [] [],aCD [] [],aCE [] [],aCF [] [],aCG [] [],aCH [] [],aCI [] [],aCJ [] [],aCK [] []]
theorem arl:∀m∈axl,m.Ok T:=by
 simp only[axl,bq,List.not_mem_nil,or_false,forall_eq_or_imp,forall_eq];exact⟨wk0,wk1,wk2,wk3,wk4,wk5,wk6,wk7,wk8,wk9,aEG,aEH,aEI,aEJ,aEK,aEL,aEM,aEN,aEO,aEP,aEQ,aER,aES,aET,aEU⟩
theorem aoT:itM T axl 120 (.call false rq [] [[],[]])=some (.val (.bool true) [[],[]]):=by kernel_rfl
theorem aqc:bw T (.call false rq [] [[],[]])=some (.val (.bool true) [[],[]]):=agJ arl aoT
end
section
open Go Go.Abs Go.Rock Go.Book
variable {σ:SK}
theorem atv{l:List (List UInt8)}{r:List Int}(h:Sf l):Sf (wN l r):=⟨iB Qa h.1,fun s hs=>h.2 s (Qb hs)⟩
theorem arZ{l:List (List UInt8)}{n:Nat}(h:Sf l):Sf (l.take n):=⟨by have:=h.1;simp;omega,fun s hs=>h.2 s (dr hs)⟩
theorem apN(l:List (List UInt8))(k:Nat):(l.flatMap eU).take k=(l.take k).flatMap eU:=by rw[← Fl,← Fl,List.map_take]
theorem af9{b c:Bk}{er cl:List Int}{k:Nat}{some_:D}(hs:some_.calm=some_)(h0:∀e∈cl,e=0)(hl:cl.length≤1000000000):∀(m i:Nat),i+m=cl.length →
  WL T [5,6,10,11,13,15,17] false iF [(5,.own 0 (Li b)),(6,.aK er.length (er.flatMap aU)),(10,.own 0 (Li c)),(11,.aK cl.length (cl.flatMap aU)),(13,.int .i64 k),(15,some_),(17,.int .i64 i)] σ
   (fun x e σ'=>σ'=σ∧x=.exit 0∧get e 5=.own 0 (Li b)∧get e 6=.aK er.length (er.flatMap aU)∧get e 10=.own 0 (Li c)∧get e 13=.int .i64 k∧get e 15=some_)
 |0,i,hi=>by
  refine aM rM ?_;have h1:¬i<cl.length:=by omega
  simp[-length_flatMap,-map_take,h1,hs]
 |m+1,i,hi=>by
  refine aM rM ?_;have h1:i<cl.length:=by omega
  obtain⟨x,hx⟩:=gE h1;obtain rfl:=h0 x (an hx);have a1:=bQ (f:=aU) (w:=1) (fun _=>rfl) hx;simp only[aU,dM]at a1;have h4:=fK h1 (by omega);simp[-length_flatMap,-map_take,h1,a1,h4,hs];exact WL.to (af9 (b:=b) (c:=c) (er:=er) (k:=k) hs h0 hl m (i+1) (by omega)) (by simp) rfl fun x e σ' hh=>by simpa using hh
theorem aju{b c:Bk}{er sm:List Int}{k:Nat}(hk:k≤er.length)(hsm:sm=er.take k)(hl:er.length≤1000000000):∀(m i:Nat),i+m=k →
  WL T [5,6,10,13,15,18] false iG [(5,.own 0 (Li b)),(6,.aK er.length (er.flatMap aU)),(10,.own 0 (Li c)),(13,.int .i64 k),(15,.aK sm.length (sm.flatMap aU)),(18,.int .i64 i)] σ
   (fun x e σ'=>σ'=σ∧x=.exit 2∧get e 5=.own 0 (Li b)∧get e 10=.own 0 (Li c))
 |0,i,hi=>by
  refine aM rN ?_;have h1:¬i<k:=by omega
  simp[-length_flatMap,-map_take,h1]
 |m+1,i,hi=>by
  refine aM rN ?_;have h1:i<k:=by omega
  have h2:i<er.length:=by omega
  have h3:i<sm.length:=by rw[hsm];simp;omega
  obtain⟨x,hx⟩:=gE h2;have hy:sm[i]?=some x:=by rw[hsm,List.getElem?_take_of_lt h1,hx]
  have a1:=bQ (f:=aU) (w:=1) (fun _=>rfl) hx;have a2:=bQ (f:=aU) (w:=1) (fun _=>rfl) hy;simp only[aU,dM]at a1 a2;have h4:=fK h1 (by omega);simp[-length_flatMap,-map_take,h1,h2,h3,a1,a2,h4];exact WL.to (aju (b:=b) (c:=c) hk hsm hl m (i+1) (by omega)) (by simp) rfl fun x e σ' hh=>by simpa using hh
theorem S5{b c:Bk}(hbc:xp b=xp c)(hl:b.az.length≤40)(hv:∀e∈b.az,e.m.bg.length≤1000000):∀(m i:Nat),i+m=b.az.length →
  WL T [5,10,19] false iH [(5,.own 0 (Li b)),(10,.own 0 (Li c)),(19,.int .i64 i)] σ
   (fun x e σ'=>σ'=σ∧x=.exit 4∧get e 5=.own 0 (Li b)∧get e 10=.own 0 (Li c))
 |0,i,hi=>by
  refine aM rO ?_;have h1:¬i<b.az.length:=by omega
  simp[-length_flatMap,-map_take,Li,h1]
 |m+1,i,hi=>by
  refine aM rO ?_;obtain⟨_,_,_,n1,n2⟩:=asw hbc;have h1:i<b.az.length:=by omega
  have h1':i<c.az.length:=by omega
  obtain⟨x,hx⟩:=gE h1;obtain⟨y,hy⟩:=gE h1';obtain⟨n3,n4⟩:=n2 i x y hx hy;have a1:=bQ (f:=mA.enc) (w:=4) (fun _=>rfl) hx;have a2:=bQ (f:=mA.enc) (w:=4) (fun _=>rfl) hy;have b1:=bV (f:=mA.enc) (w:=4) (fun _=>rfl) b.az;have b2:=bV (f:=mA.enc) (w:=4) (fun _=>rfl) c.az;have h4:=fK h1 (by omega);have hI:=fun S=>aiT (σ:=S) (a:=x.m.bg) (by have:=hv x (an hx);omega)
  have ih:=S5 hbc hl hv m (i+1) (by omega);simp only[mA.enc,← n3,← n4]at a1 a2;simp only[Li]at ih;simp[-length_flatMap,-map_take,KF,Li,h1,h1',a1,a2,h4,hI];exact WL.to ih (by simp) rfl fun x e σ' hh=>by simpa[Li]using hh
theorem S6{b c:Bk}(hbc:b.aC=c.aC)(hl:b.aC.length≤1000000)(hv:∀r∈b.aC,r.length≤1000000):∀(m i:Nat),i+m=b.aC.length →
  WL T [5,10,20] false iI [(5,.own 0 (Li b)),(10,.own 0 (Li c)),(20,.int .i64 i)] σ
   (fun x e σ'=>σ'=σ∧x=.exit 6)
 |0,i,hi=>by
  refine aM rP ?_;have h1:¬i<b.aC.length:=by omega
  by_cases h0:b.aC=[]
  ·obtain rfl:i=0:=by rw[h0]at hi;simpa using hi
   simp[-length_flatMap,-map_take,Li,nl,h0]
  ·simp[-length_flatMap,-map_take,Li,nl,h0,h1]
 |m+1,i,hi=>by
  refine aM rP ?_;have h1:i<b.aC.length:=by omega
  have h0:¬b.aC=[]:=by intro h;rw[h]at h1;simp at h1
  obtain⟨x,hx⟩:=gE h1;have a1:=bQ (f:=pE) (w:=1) (fun _=>rfl) hx;simp only[pE,dM]at a1;have h4:=fK h1 (by omega);have hI:=fun S=>aiT (σ:=S) (a:=x) (by have:=hv x (an hx);omega)
  have ih:=S6 hbc hl hv m (i+1) (by omega);simp only[Li,nl,← hbc,if_neg h0]at ih;simp[-length_flatMap,-map_take,Li,nl,← hbc,h0,h1,a1,h4,hI];exact WL.to ih (by simp) rfl fun x e σ' hh=>by simpa using hh
theorem aiz{n:Nat}{b:Bk}(h:Kv n b):b.bL.av.length≤8:=by
 cases hr:b.ready
 ·rw[h.av hr];simp
 ·exact(Bv.of (h.ready hr)).av
theorem aii{b:cC}{p:List (List Int)}(h:vU b p=0)(hw:b.av.length≤8):p.length≤1000000∧∀r∈p,r.length≤1000000:=by
 unfold vU at h;split at h
 ·cases h
 ·rename_i h1;refine⟨by omega,fun r hr=>?_⟩;have h2:=uj h r hr;unfold AO at h2;by_cases hl:r.length=b.av.length
  ·omega
  ·rw[if_neg hl]at h2;cases h2
set_option maxRecDepth 100000 in
set_option maxHeartbeats 4000000 in
theorem T9{l:List (List UInt8)}{a:Nat}(hl:l.length≤9223372036854775807)(ha:a≤255):
  bw T (.call false iP [.aK l.length (l.flatMap eU),.int .u8 a] [[]])=some (.val (.bool true) [[]]):=by
 obtain⟨v,hF,hv⟩:=azl (l:=l) (by omega) [[],[]];have hA:=aqc;refine aD BP Cm rfl ?_;cases v
 ·simp[-length_flatMap,-map_take,hF,hA]
 have hl:l.length≤1000000000:=by have:=hv rfl;omega
 have hR:=ahx (σ:=[[],[]]) (l:=l) hl;cases hok:okB l
 ·rw[hok]at hR;simp[-length_flatMap,-map_take,hF,hR,hA]
 rw[hok]at hR;have hk:=Se.1 hok;have hlen:=hk.1;have hL:=fun S hS=>U5 (σ:=S) (l:=l) hl hS
 have hRun:=fun S hS=>aiL (σ:=S) hk hS
 have hAcc:=fun S hS=>UY (σ:=S) hk hS
 obtain⟨b,hb⟩:∃b,b=(uo l).1:=⟨_,rfl⟩;obtain⟨er,her⟩:∃b,b=(uo l).2:=⟨_,rfl⟩;have hel:er.length=l.length:=by rw[her];exact BD
 rw[← hb,← her]at hRun;rw[← her]at hAcc;obtain⟨q,hq⟩:∃q,q=wN l er:=⟨_,rfl⟩;have hqk:Sf q:=by rw[hq];exact atv hk
 rw[← hq]at hAcc;have hL2:=fun S hS=>U5 (σ:=S) (l:=q) (by have:=hqk.1;omega) hS
 have hRun2:=fun S hS=>aiL (σ:=S) hqk hS
 obtain⟨c,hc⟩:∃b,b=(uo q).1:=⟨_,rfl⟩;obtain⟨cl,hcl⟩:∃b,b=(uo q).2:=⟨_,rfl⟩;have hcll:cl.length=q.length:=by rw[hcl];exact BD
 rw[← hc,← hcl]at hRun2;obtain⟨hbc,h0⟩:=Qc (l:=l) (b:=ux) (c:=ux) (k:=0) (k':=0) rfl;rw[show(rl ux 0 l).2=er from her.symm,← hq]at hbc h0;have hbc:xp b=xp c:=by rw[hb,hc];exact hbc.symm
 have h0:∀e∈cl,e=0:=by rw[hcl];exact h0
 obtain⟨k,hkk⟩:∃k,k=a%(l.length+1):=⟨_,rfl⟩;have hkl:k≤l.length:=by rw[hkk];have:=Nat.mod_lt a (show 0<l.length+1 by omega);omega
 have htk:=arZ (n:=k) hk;have htl:(l.take k).length=k:=by simp;omega
 have hL3:=fun S hS=>U5 (σ:=S) (l:=l.take k) (by omega) hS
 have hRun3:=fun S hS=>aiL (σ:=S) htk hS
 obtain⟨d,hd⟩:∃b,b=(uo (l.take k)).1:=⟨_,rfl⟩;obtain⟨sm,hsm⟩:∃b,b=(uo (l.take k)).2:=⟨_,rfl⟩;rw[← hd,← hsm]at hRun3;have hsm:sm=er.take k:=by rw[hsm,her];exact Uv
 have hsml:sm.length=k:=by rw[hsm];simp;omega
 rw[htl,← apN]at hL3 hRun3;have hKv:Kv l.length b:=by
  rw[hb];have:=Uu (l:=l) (k:=0) Kv.zero hk.2;simpa[uo]using this
 obtain⟨n1,n2,n3,n4,n5⟩:=asw hbc;have htab:=ahh hKv.cf;have hw8:=aiz hKv;have hpl:=aii hKv.pl hw8;have hwl:b.bL.av.length≤1000000000:=by omega
 have hB:=fun S=>asY (σ:=S) (b:=b.bL) (by omega) hwl
 have hS:=fun S=>aqw (σ:=S) (a:=b.j8) (by have:=hKv.j8;omega)
 have w1:IntKind.i64.wrap (a:Int)=a:=gQ (by omega);have w2:IntKind.i64.wrap ((l.length:Int)+1)=((l.length+1:Nat):Int):=(gQ (by omega)).trans (by omega);have w3:(a:Int).tmod ((l.length+1:Nat):Int)=(k:Int):=by rw[Int.tmod_eq_emod_of_nonneg (by omega),hkk];omega
 have w4:IntKind.i64.wrap (k:Int)=k:=gQ (by omega);have w5:¬(l.length:Int)+1=0:=by omega
 have w6:(a:Int).tmod ((l.length:Int)+1)=(k:Int):=by rw[← w3];rfl
 have k1:(k:Int)≤(l.length:Int):=by omega
 obtain⟨cb,cm,cp,cr,ce,c0,c1,c2,cu,cs,cy,cw,ca⟩:=c;simp only at n1 n2 n3 n4;subst n1 n2 n3;have hne:((b.az.length:Int) != (cm.length:Int))=false:=by simp[n4]
 have L1:=af9 (σ:=[[],[]]) (b:=b) (c:=⟨b.bL,cm,b.aC,cr,ce,c0,c1,c2,cu,b.j8,cy,cw,ca⟩) (er:=er) (cl:=cl) (k:=k) (some_:=.aK sm.length (sm.flatMap aU)) rfl h0 (by have:=hqk.1;omega) cl.length 0 (by omega);have L2:=aju (σ:=[[],[]]) (b:=b) (c:=⟨b.bL,cm,b.aC,cr,ce,c0,c1,c2,cu,b.j8,cy,cw,ca⟩) (er:=er) (sm:=sm) (k:=k) (by omega) hsm (by omega) k 0 (by omega);have L3:=S5 (σ:=[[],[]]) hbc hKv.ml (fun e he=>(hKv.fit e he).2.2) b.az.length 0 (by omega);have L4:=S6 (σ:=[[],[]]) (b:=b) (c:=⟨b.bL,cm,b.aC,cr,ce,c0,c1,c2,cu,b.j8,cy,cw,ca⟩) rfl hpl.1 hpl.2 b.aC.length 0 (by omega);simp only[Ax]at hB;simp only[Li]at hRun hRun2 hRun3 L1 L2 L3 L4;have e1:nl pE b.aC=.aH∧b.aC=[]∨nl pE b.aC=.aK b.aC.length (b.aC.flatMap pE):=by unfold nl;split<;>simp_all
 rw[hcll]at L1;rw[hsml]at L1 L2;rcases e1 with⟨e1,hp⟩ | e1<;>simp only[e1]at hRun hRun2 L1 L2 L3 L4
 all_goals
  simp[-length_flatMap,-map_take,hF,hR,hL,hRun,hAcc,hL2,hRun2,hL3,hRun3,w1,w2,w3,w4,w5,w6,k1,hkl,hel,hne,hB,hS];refine WL.to L1 (by simp[hel,e1]) rfl ?_;rintro x e σ' ⟨rfl,rfl,g5,g6,g10,g13,g15⟩;simp[-length_flatMap,-map_take,g5,g6,g10,g13,g15];refine WL.to L2 (by simp[hel,e1]) rfl ?_;rintro x e σ' ⟨rfl,rfl,g5,g10⟩;simp[-length_flatMap,-map_take,g5,g10];refine WL.to L3 (by simp[e1]) rfl ?_;rintro x e σ' ⟨rfl,rfl,g5,g10⟩;simp[-length_flatMap,-map_take,g5,g10];refine WL.to L4 (by simp[e1]) rfl ?_;rintro x e σ' ⟨rfl,rfl⟩;simp[-length_flatMap,-map_take,hA]
end
section
open Go Go.Abs Go.Book
theorem arG{α:Type}{T:Ty}{w:Nat}{f:α→List D}{Q:α→Prop}(h:∀ds,T.has ds→∃a,ds=f a∧Q a){d:D}(hd:(Ty.slice w T).has [d]):
  ∃l:List α,d=.aK l.length (l.flatMap f)∧l.length≤maxLen∧∀a∈l,Q a:=by
 simp only[Ty.has,lC,and_true]at hd;obtain⟨xs,rfl,hl,hx⟩:=hd;have key:∀xs:List (List D),(∀x∈xs,x.length=w∧T.has x)→∃l:List α,xs.flatten=l.flatMap f∧l.length=xs.length∧∀a∈l,Q a:=by
  intro xs;induction xs with
  |nil=>intro _;exact⟨[],rfl,rfl,by simp⟩
  |cons x xs ih =>
   intro hx;obtain⟨l,h1,h2,h3⟩:=ih fun y hy=>hx y (by simp[hy])
   obtain⟨a,rfl,ha⟩:=h x (hx x (by simp)).2;exact⟨a::l,by simp[h1],by simp[h2],fun b hb=>by
    rcases bq.1 hb with rfl | hb
    ·exact ha
    ·exact h3 b hb⟩
 obtain⟨l,h1,h2,h3⟩:=key xs hx;exact⟨l,by rw[h1,h2],by omega,h3⟩
theorem arR{ds:List D}(h:Ty.str.has ds):∃s:List UInt8,ds=eU s∧s.length≤maxLen:=h
theorem aCq{d:D}(h:(Ty.int .u8).aq7 d):∃n:Nat,d=.int .u8 n∧n≤255:=by
 obtain⟨n,h,hw⟩:=h;cases h;simp only[Lit.wf,af,aA]at hw;have hw:0≤n∧n≤255:=hw;exact⟨n.toNat,by rw[eO hw.1],by omega⟩
theorem Je(x0 x1:D)(t0:(Ty.slice 1 .str).aq7 x0)(t1:(Ty.int .u8).aq7 x1):∃σ',bw T (.call false iP [x0,x1] [[]])=some (.val (.bool true) σ'):=by
 obtain⟨l,rfl,hl,_⟩:=arG (fun ds h=>arR h) t0;obtain⟨a,rfl,ha⟩:=aCq t1;have hm:maxLen≤9223372036854775807:=by decide
 exact⟨_,T9 (by omega) ha⟩
end
end Go.Proofs.YtfgljaglidhjiaaGreatDoor
