import Derived.Test.YtpapbbojmclkgaaGreatDoorTxt8
import Derived.ProofKit
import Derived.Test.YtpapbbojmclkgaaGreatDoorBase14
set_option linter.all false
set_option maxRecDepth 100000
namespace Go.Proofs.YtpapbbojmclkgaaGreatDoor
section
open Go Go.Abs Go.Rock Go.Book
variable {J:SK}
theorem Kr.line{n:Nat}{b:Bk}(h:Kr n b){s:List UInt8}(hs:s.length<=4000){k:Int}:Kr (n+1) (nh b k s).1:=by
 refine⟨h.kv.line hs,?_⟩;unfold nh;cases parse s with
 |none=>exact h.rok
 |some p=>exact Tp (b:={b with at_:=k }) h.rok _ _ _
theorem Kr.zero:Kr 0 iD:=⟨Kv.zero,λr hr=>by cases hr⟩
theorem Rk:∀{l:List (List UInt8)} {b:Bk} {k:Int} {n:Nat},Kr n b->(∀s∈l,s.length<=4000)->Kr (n+l.length) (lC b k l).1
 |[],b,k,n,h,_=>h
 |s::l,b,k,n,h,hs=>by
  have h2:=Rk (l:=l) (k:=k+1) (h.line (hs s (by simp)) (k:=k)) λx hx=>hs x (by simp[hx])
  simp only[lC,aE];rwa[show n+(l.length+1)=n+1+l.length by omega]
theorem Xt:Cl 35 [] (.agg (bW iD)) J:=by
 refine ar ?_;simp[bW,iD,nl]
theorem XZ{lines:List (List UInt8)}(hl:okL lines):∀(m i:Nat) (b:Bk) (er:List Int),i+m=lines.length->er.length=i->Kr i b ->
  WL T [0,2,4,5,6] false pY [(0,lF lines cf),(2,.own 0 zS),(4,.own 0 (bW b)),(5,.sl J.length 0 i 0 i 1),(6,iI i)] ([.cells i (fM er aO)]::J)
   (λx e J'=>x=.exit 0/\get e 2=.own 0 zS/\get e 4=.own 0 (bW (lC b i (lines.drop i)).1)/\get e 5=.sl J.length 0 lines.length 0 lines.length 1/\J'=[.cells lines.length (fM (er++(lC b i (lines.drop i)).2) aO)]::J)
 |0,i,b,er,hi,he,hK=>by
  refine av pY.eq_1 ?_;obtain rfl:i=lines.length:=by omega
  have h2:lines.drop lines.length=[]:=an (by omega);simp[h2,lC]
 |m+1,i,b,er,hi,he,hK=>by
  refine av pY.eq_1 ?_;have h1:i<lines.length:=by omega
  obtain⟨s,hs⟩:=gE h1;have a1:=aP (f:=cf) (w:=1) (λ_=>rfl) hs;simp only[cf,bJ]at a1;have h4:=bO h1 (by have:=hl.1;omega);have hsl:=hl.2 s (ai hs);have hn:=hl.1;have hC:=λJ=>ahV (J:=J) (b:=b) (s:=s) (k:=i) hK (by omega) hsl
  have hK':=hK.line hsl (k:=i);rw[bz hs];simp only[lC,gr]at hC ⊢;generalize nh b i s=r at hC hK' ⊢;obtain⟨b',e⟩:=r;have ih:=XZ hl m (i+1) b' (er++[e]) (by omega) (by simp[he]) hK';have hel:=qY er;have het:(fM er aO).take i=fM er aO:=af (by omega);have hr:(i+1)*8<=room:=by unfold room;omega
  simp[h1,a1,h4,hC,fT,eI,hr,hel,het,he];refine WL.to ih (by simp[fT]) (by simp) λx e' J' hh=>?_
  have e1:((i+1:Nat):Int)=(i:Int)+1:=by omega
  rw[e1]at hh;simpa using hh
theorem aeu{lines:List (List UInt8)}(hl:okL lines)(hJ:J≠[]):Cl 13 [lF lines cf] (.cQ [.agg (bW (ic lines).1),.bZ lines.length (fM (ic lines).2 aO)]) J:=by
 refine ar ?_;have hL:=XZ (J:=J) hl lines.length 0 iD [] (by omega) rfl Kr.zero
 try simp only[lF]at hL
 rw[aC]at hL;simp[Xt,fT];refine WL.to hL (by simp[zS]) (by simp) ?_;rintro x e J' ⟨rfl,g2,g4,g5,rfl⟩;simp[g2,g4,g5,fT,eI,E6,AX,ic];have hlen:(lC iD 0 lines).2.length=lines.length:=rF;have hk:=gG (n:=15) (f:=aO) (w:=1) (l:=(lC iD 0 lines).2) (j:=0) (v:=lines.length) (bs:=[.cells lines.length (fM (lC iD 0 lines).2 aO)]) (by decide) (λ_=>rfl) (λx=>by simp[aO,D.clean]) hJ rfl
 try simp only[lF]at hk
 rw[hlen]at hk;rw[pG (by simp[D.clean]) (by omega)];simp only[ff,gj];rw[de (by simp[D.clean,n8]) (by omega),hk];exact⟨_,rfl⟩
def Fz(b:Bk):List D:=[iI b.aR.f.x,iI b.aR.f.y,iI b.aR.f.z,iI b.aR.f.k,nl Rw.enc b.aR.c9,iI b.aR.cG,iI b.aR.lift,iI b.aR.deep,nl bA.enc b.aR.aw,
 lF b.aj dU.enc,nl pE b.az,lF b.rules Trem.cc.enc,lF b.lL Trem.Ev.enc,iI b.k0,iI b.k1,iI b.k2,
 lF b.cp jD.enc,lF b.cA GG.enc]
theorem Yx{α:Type}{f:α->List D}(h:∀x,D.aW (f x)=true)(l:List α):(nl f l).clean=true:=by
 unfold nl;split
 .rfl
 .simp[D.clean,ef h l]
theorem ko{α:Type}{f:α->List D}{w n:Nat}(hn:1<n)(hw:∀x,(f x).length=w)(hc:∀x,D.aW (f x)=true){l:List α}{j v m:Nat}{bs bs':List Abs.aF}(hJ:J≠[])(hm:m=l.length)(hj:bs[j]?=some (.cells v (fM l f)))(hb:bs.set j .dead=bs'):
  cH (J.length-1) n (.sl J.length j v 0 m w) (bs::J)=(.bZ m (fM l f),bs'::J):=by
 subst hb;subst hm;exact gG hn hw hc hJ hj
theorem VT{b:Bk}{er:List Int}(hJ:J≠[]):cH (J.length-1) 16 (.cQ [.agg ((b.cells J.length).take 18),.sl J.length 7 er.length 0 er.length 1,iI 0]) (b.bD J.length er::J) =
  (.cQ [.agg (Fz b),lF er aO,iI 0],[.dead,.dead,.dead,.dead,.dead,.cells b.eg.length (fM b.eg DW.enc),.cells 0 (b.cells J.length),.dead]::J):=by
 have c1:(nl Rw.enc b.aR.c9).clean=true:=Yx (λ_=>by simp[D.clean]) _;have c2:(nl bA.enc b.aR.aw).clean=true:=Yx (λ_=>by simp[D.clean]) _;have c3:(nl pE b.az).clean=true:=Yx (λx=>by simp[pE,D.clean,kR]) _;have q1:∀x:dU,D.aW x.enc=true:=λx=>by simp[D.clean,kR]
 have q2:∀x:Trem.cc,D.aW x.enc=true:=λx=>by simp[D.clean]
 have q3:∀x:Trem.Ev,D.aW x.enc=true:=λx=>by simp[D.clean,ef (f:=Trem.oc.enc) (λ_=>by simp[D.clean])]
 have q4:∀x:jD,D.aW x.enc=true:=λx=>by simp[D.clean,ef (f:=Prt.enc) (λ_=>by simp[D.clean])]
 have q5:∀x:GG,D.aW x.enc=true:=λx=>by simp[D.clean]
 have q6:∀x:Int,D.aW (aO x)=true:=λx=>by simp[aO,D.clean]
 generalize hA5:Abs.aF.cells b.eg.length (fM b.eg DW.enc)=A5;generalize hA6:Abs.aF.cells 0 (b.cells J.length)=A6;have f0:=ko (J:=J) (n:=14) (w:=4) (by omega) (λ_=>rfl) q1 (l:=b.aj) (j:=0) (v:=b.aj.length) (bs:=b.bD J.length er) hJ rfl rfl rfl;have f1:=ko (J:=J) (n:=14) (w:=10) (by omega) (λ_=>rfl) q2 (l:=b.rules) (j:=1) (v:=b.rules.length) (bs:=(b.bD J.length er).set 0 .dead) hJ rfl rfl rfl;have f2:=ko (J:=J) (n:=14) (w:=2) (by omega) (λ_=>rfl) q3 (l:=b.lL) (j:=2) (v:=b.lL.length) (bs:=((b.bD J.length er).set 0 .dead).set 1 .dead) hJ rfl rfl rfl;have f3:=ko (J:=J) (n:=14) (w:=2) (by omega) (λ_=>rfl) q4 (l:=b.cp) (j:=3) (v:=b.cp.length) (bs:=(((b.bD J.length er).set 0 .dead).set 1 .dead).set 2 .dead) hJ rfl rfl rfl;have f4:=ko (J:=J) (n:=14) (w:=6) (by omega) (λ_=>rfl) q5 (l:=b.cA) (j:=4) (v:=b.cA.length) (bs:=((((b.bD J.length er).set 0 .dead).set 1 .dead).set 2 .dead).set 3 .dead) hJ rfl rfl rfl;have f5:=ko (J:=J) (n:=15) (w:=1) (by omega) (λ_=>rfl) q6 (l:=er) (j:=7) (v:=er.length) (bs:=(((((b.bD J.length er).set 0 .dead).set 1 .dead).set 2 .dead).set 3 .dead).set 4 .dead) hJ rfl rfl rfl;have hi:∀(k:Int) (n:Nat) (S:SK),0<n->cH (J.length-1) n (iI k) S=(iI k,S):=λk n S hn=>de (by rfl) hn
 rw[pG (by simp[Bk.cells,D.clean,D.aW]) (by omega)];simp only[ff,gj];rw[vW (by simp[Bk.cells,D.clean]) (by omega)];simp only[Bk.cells,List.take_succ_cons,List.take_zero,ff,gj,Nat.reduceSub];simp only[hi _ 14 _ (by omega),de c1 (show 0<14 by omega),de c2 (show 0<14 by omega),de c3 (show 0<14 by omega),f0,f1,f2,f3,f4,f5,hi _ 15 _ (by omega)];simp only[Bk.bD,List.set_cons_zero,List.set_cons_succ,hA5,Fz];rw[<- hA6]
theorem ahM{lines:List (List UInt8)}(hl:LI lines)(hJ:J≠[]):Cl 19 [lF lines cf] (.cQ [.agg (Fz (ic lines).1),.bZ lines.length (fM (ic lines).2 aO),iI 0]) J:=by
 refine ar ?_;have hC:=λS=>wz (J:=S) (l:=lines) (by have:=hl.1;omega)
 try simp only[lF,Cl]at hC
 have hok:okB lines=true:=Dm.2 hl;simp only[hok,if_true]at hC;have hR:=NZ (J:=J) (lines:=lines) hl
 try simp only[lF]at hR
 have hlen:(ic lines).2.length=lines.length:=rF;have hf:=VT (J:=J) (b:=(ic lines).1) (er:=(ic lines).2) hJ
 try simp only[lF]at hf
 rw[hlen]at hf;generalize ic lines=r at hR hlen hf ⊢;obtain⟨b,er⟩:=r
 try simp only at hR hf hlen ⊢
 simp only[Bk.cells,Bk.bD,List.take_succ_cons,List.take_zero]at hf hR;simp[hC,hR];exact⟨_,hf⟩
theorem KS:∀{l:List (List UInt8)} {er:List Int} {i:Nat} {s:List UInt8} {e:Int},l[i]?=some s->er[i]?=some e ->
  yj (l.take (i+1)) (er.take (i+1))=yj (l.take i) (er.take i)++(if e=0 then [s]else [])
 |[],er,i,s,e,h1,h2=>by simp at h1
 |_::_,[],i,s,e,h1,h2=>by simp at h2
 |x::l,y::er,0,s,e,h1,h2=>by
  simp at h1 h2;subst h1;subst h2;simp[yj]
 |x::l,y::er,i+1,s,e,h1,h2=>by
  have ih:=KS (l:=l) (er:=er) (i:=i) (by simpa using h1) (by simpa using h2);simp only[List.take_succ_cons,yj]at ih ⊢;split
  .rw[ih];rfl
  .exact ih
theorem XN{lines:List (List UInt8)}{er:List Int}{A:List Abs.aF}(hl:lines.length<=100)(he:er.length=lines.length)(hA:A.length=8)(h7:A[7]?=some (.cells er.length (fM er aO))):∀(m i:Nat) (acc:List (List UInt8)),i+m=lines.length->acc=yj (lines.take i) (er.take i) ->
  WL T [0,7,20,21,22] false gK [(0,lF lines cf),(7,.sl J.length 8 acc.length 0 acc.length 1),(20,.sl J.length 7 er.length 0 er.length 1),(21,iI er.length),(22,iI i)] ((A++[.cells acc.length (fM acc cf)])::J)
   (λx e J'=>∃acc,acc=yj lines er/\x=.exit 0/\get e 7=.sl J.length 8 acc.length 0 acc.length 1/\J'=(A++[.cells acc.length (fM acc cf)])::J)
 |0,i,acc,hi,ha=>by
  refine av gK.eq_1 ?_;obtain rfl:i=lines.length:=by omega
  rw[List.take_length,<- he,List.take_length]at ha;subst ha;simp[he]
 |m+1,i,acc,hi,ha=>by
  refine av gK.eq_1 ?_;have⟨h1,h1'⟩:i<lines.length/\i<er.length:=by omega
  obtain⟨s,hs⟩:=gE h1;obtain⟨e,hee⟩:=gE h1';have a1:=aP (f:=cf) (w:=1) (λ_=>rfl) hs;have a2:=aP (f:=aO) (w:=1) (λ_=>rfl) hee;simp only[cf,aO,bJ]at a1 a2;have hdr:=re (f:=aO) (w:=1) (λ_=>rfl) hee;simp only[bJ,aO,cU]at hdr;have h4:=bO h1;have hsn:=KS hs hee;have hal:=Ka (l:=lines.take i) (r:=er.take i);rw[<- ha]at hal hsn;have hal2:acc.length<=100:=by simp at hal;omega
  have hfl:=bQ (f:=cf) (w:=1) (λ_=>rfl) acc;have tk:(fM acc cf).take acc.length=fM acc cf:=af (by omega);have hr:(acc.length+1)*16<=room:=by unfold room;omega
  have hq:acc.length<=(fM acc cf).length:=by omega
  have hg:(A++[Abs.aF.cells acc.length (fM acc cf)])[8]?=some (.cells acc.length (fM acc cf)):=by rw[List.getElem?_append_right (by omega),hA];rfl
  have hg7:(A++[Abs.aF.cells acc.length (fM acc cf)])[7]?=some (.cells er.length (fM er aO)):=by rw[iK (by omega),h7]
  have hst:∀x:Abs.aF,(A++[Abs.aF.cells acc.length (fM acc cf)]).set 8 x=A++[x]:=λx=>by rw[List.set_append_right _ _ (by omega),hA];rfl
  by_cases hc:e=0
  .subst hc;rw[if_pos rfl]at hsn;simp[h1,h1',a1,hdr,h4,hg,hg7,hst,hr,hq,tk];have ih:=XN hl he hA h7 m (i+1) (acc++[s]) (by omega) hsn.symm;have e1:((i+1:Nat):Int)=(i:Int)+1:=by omega
   rw[e1]at ih;exact WL.to ih (by simp) (by simp) λx e J' hh=>by simpa using hh
  .rw[if_neg hc,cM]at hsn;simp[h1',hdr,h4,hg7,hc];have ih:=XN hl he hA h7 m (i+1) acc (by omega) hsn.symm;have e1:((i+1:Nat):Int)=(i:Int)+1:=by omega
   rw[e1]at ih;exact WL.to ih (by rfl) (by rfl) λx e J' hh=>by simpa using hh
theorem RS{lines:List (List UInt8)}(hl:LI lines)(hJ:J≠[]):Cl 20 [lF lines cf] (.cQ [lF (yj lines (ic lines).2) cf,iI 0]) J:=by
 refine ar ?_;have hC:=λS=>wz (J:=S) (l:=lines) (by have:=hl.1;omega)
 have hok:okB lines=true:=Dm.2 hl;simp only[hok,if_true]at hC;have hR:=NZ (J:=J) (lines:=lines) hl;have hlen:(ic lines).2.length=lines.length:=rF;generalize ic lines=r at hR hlen ⊢;obtain⟨b,er⟩:=r;simp only at hR hlen ⊢;have hL:=XN (J:=J) (A:=b.bD J.length er) hl.1 hlen rfl rfl lines.length 0 [] (by omega) (by simp[yj]);have hsl:(b.bD J.length er).length=8:=rfl;simp[hC,hR,hsl];refine WL.to hL (by simp[hlen]) (by simp) ?_;rintro x e J' ⟨acc,rfl,rfl,g7,rfl⟩;simp[g7];exact⟨_,QB (gG (n:=15) (f:=cf) (w:=1) (l:=yj lines er) (by decide) (λ_=>rfl) (λ_=>by simp[cf]) hJ (by simp[Bk.bD]))⟩
theorem XS{a:List Int}(hl:a.length<=1000000000):∀(m i:Nat),i+m=a.length ->
  WL T [0,1,5] false oO [(0,lF a aO),(1,lF a aO),(5,iI i)] J (λx e J'=>J'=J/\x=.exit 0)
 |0,i,hi=>by
  refine av oO.eq_1 ?_;have h1:¬i<a.length:=by omega
  simp[h1]
 |m+1,i,hi=>by
  refine av oO.eq_1 ?_;have h1:i<a.length:=by omega
  obtain⟨x,hx⟩:=gE h1;have a1:=aP (f:=aO) (w:=1) (λ_=>rfl) hx;simp only[aO,bJ]at a1;have h4:=bO h1;simp[h1,a1,h4];exact WL.to (XS hl m (i+1) (by omega)) (by simp) rfl λx e J' hh=>by simpa using hh
theorem R0{a:List Int}(hl:a.length<=1000000000):Cl 15 [lF a aO,lF a aO] (.bool true) J:=by
 refine ar ?_;simp;refine WL.to (XS (J:=[]::J) hl a.length 0 (by omega)) (by simp) rfl ?_;rintro x e J' ⟨rfl,rfl⟩;simp
theorem PA{s t:List UInt8}:Cl 28 [.str s,.str t] (.bool (decide (t.length<=s.length) && (s.take t.length == t))) J:=by
 refine ar ?_;by_cases h:t.length<=s.length
 .have h':(t.length:Int)<=s.length:=by omega
  simp[ia,h,h']
 .have h':¬(t.length:Int)<=s.length:=by omega
  simp[ia,h,h']
theorem ac8{l:List (List UInt8)}(hl:l.length<=9223372036854775807):∀(m i:Nat) (x y z:Int),i+m=l.length ->
  WL T [0,3,4,5,6] false oM [(0,lF l cf),(3,iI x),(4,iI y),(5,iI z),(6,iI i)] J
   (λx e J'=>J'=J/\x=.exit 0/\get e 0=lF l cf/\∃u v w,get e 3=iI u/\get e 4=iI v/\get e 5=iI w)
 |0,i,x,y,z,hi=>by
  refine av oM.eq_1 ?_;have h1:¬i<l.length:=by omega
  simp[h1]
 |m+1,i,x,y,z,hi=>by
  refine av oM.eq_1 ?_;have h1:i<l.length:=by omega
  obtain⟨s,hs⟩:=gE h1;have a1:=aP (f:=cf) (w:=1) (λ_=>rfl) hs;simp only[cf,bJ]at a1;have h4:=bO h1;have hB:=λt J=>@PA J s t
  have e1:((i+1:Nat):Int)=(i:Int)+1:=by omega
  have ih:=λx y z=>ac8 hl m (i+1) x y z (by omega)
  rw[e1]at ih;rw[e1]at h4;generalize hv:(λt:List UInt8=>decide (t.length<=s.length) && (s.take t.length == t))=v at hB;have hB':∀t J,Cl 28 [.str s,.str t] (.bool (v t)) J:=λt J=>by rw[<- hv];exact PA
  cases c1:v [109,111,100,101,108]<;>cases c2:v [116,105,99,107]<;>simp[ia,h1,a1,h4,hB',c1,c2]<;>
   exact WL.to (ih _ _ _) rfl rfl λx e J' hh=>by simpa using hh
theorem ahL{l:List (List UInt8)}(hl:l.length<=9223372036854775807)(J:SK):∃v,Cl 8 [lF l cf] (.bool v) J/\(v=true->l.length<=103):=by
 obtain⟨x,e,J',h1,rfl,rfl,g0,u,v,w,g3,g4,g5⟩:=ac8 (J:=[]::J) hl l.length 0 0 0 0 (by omega);refine⟨decide (v<=4) && (decide (w<=8) && (decide (u<=5000) && (decide ((l.length:Int)<=40) || (decide (u<=400) && decide ((l.length:Int)<=103))))),?_,λh=>by simp only[ah,cn,aB]at h;omega⟩;refine ar ?_;simp;refine⟨_,_,_,by simpa using h1,?_⟩;by_cases c1:v<=4<;>by_cases c2:w<=8<;>by_cases c3:u<=5000<;>by_cases c4:(l.length:Int)<=40<;>by_cases c5:u<=400<;>by_cases c6:(l.length:Int)<=103<;>
  simp[g0,g3,g4,g5,c1,c2,c3,c4,c5,c6]
def DY(b:bU):List D:=[iI b.f.x,iI b.f.y,iI b.f.z,iI b.f.k,nl Rw.enc b.c9,iI b.cG,iI b.lift,iI b.deep,nl bA.enc b.aw]
theorem W4{t:List Rw}(ht:t.length<=20):dt T (.call true 79 [nl Rw.enc t] ([]::J))=some (.val (.sl J.length 0 t.length 0 t.length 5) ([.cells t.length (fM t Rw.enc)]::J)):=by
 by_cases h:t=[]
 .subst h;refine sF rfl rfl rfl ?_;simp[nl];refine av kN.eq_1 ?_;simp
 .rw[fI h];exact Py ht
theorem aaw{b:bU}(ht:b.c9.length<=20)(hw:b.aw.length<=8)(h0:b.c9=[]->b.aw=[])(hJ:J≠[]):Cl 50 [.agg (DY b)] (.agg (bL b)) J:=by
 by_cases h:b.aw=[]
 .refine ar ?_;have hT:=λJ=>W4 (J:=J) ht
  have hF:=λJ=>Po (J:=J) (f:=b.f)
  have hc:(nl Rw.enc b.c9).clean=true:=sC (λx=>by simp[D.clean]) _;simp only[DY,h,ES];simp[hF,hT];refine av nq.eq_1 ?_;simp;rw[vW (by simp) (by omega)];have hi:∀(k:IntKind) (n:Int) (S:SK),cH (J.length-1) (16-1) (.int k n) S=(.int k n,S):=λk n S=>de rfl (by omega)
  simp only[ff,gj,hi];rw[gG (f:=Rw.enc) (by decide) (λ_=>rfl) (λx=>by simp) hJ (by simp)];simp only[List.set_cons_zero];have hk:=gG (J:=J) (n:=15) (f:=bA.enc) (w:=3) (l:=[]) (j:=1) (v:=0) (bs:=[.dead,.cells 0 []]) (by decide) (λ_=>rfl) (λx=>by simp) hJ rfl;simp only[bd]at hk;rw[hk];exact⟨_,by simp[h];rfl⟩
 .have ht0:b.c9≠[]:=λh'=>h (h0 h')
  simp only[DY,fI h,fI ht0];exact ad8 ht hw hJ
theorem UQ(l:List Trem.cc):(fM l Trem.cc.enc).length=l.length*10:=bQ (f:=Trem.cc.enc) (w:=10) (λ_=>rfl) l
theorem X0{t:List Trem.cc}(ht:t.length<=20):∀(n i:Nat),i+n=t.length ->
  WL T [0,3,4] false nu [(0,nl Trem.cc.enc t),(3,.sl J.length 0 i 0 i 10),(4,iI i)] ([.cells i (fM (t.take i) Trem.cc.enc)]::J)
   (λx e J'=>x=.exit 0/\get e 3=.sl J.length 0 t.length 0 t.length 10/\J'=[.cells t.length (fM t Trem.cc.enc)]::J)
 |0,i,hi=>by
  refine av nu.eq_1 ?_;obtain rfl:i=t.length:=by omega
  have hn:=fS (f:=Trem.cc.enc) t;simp[hn]
 |n+1,i,hi=>by
  refine av nu.eq_1 ?_;have h1:i<t.length:=by omega
  obtain⟨r,hr⟩:=gE h1;have hne:t≠[]:=λh=>by rw[h]at h1;simp at h1
  have h2:=aP (f:=Trem.cc.enc) (w:=10) (λ_=>rfl) hr;have h4:=bO h1;have ih:=X0 ht n (i+1) (by omega);have a3:=l7 (f:=Trem.cc.enc) hr;have a4:=UQ (t.take i);rw[bY,Nat.min_eq_left (by omega)]at a4;have a6:(fM (t.take i) Trem.cc.enc).take (i*10)=fM (t.take i) Trem.cc.enc:=af (by omega);have h7:(i+1)*80<=room:=by unfold room;omega
  have hP:=λJ x y z=>Tr (J:=J) (x:=x) (y:=y) (z:=z)
  rw[fI hne]at ih ⊢;simp[h1,h2,h4,a4,a6,h7,hP];exact WL.to ih (by simp) (by simp[<- a3]) λx e J hh=>hh
theorem WH{t:List Trem.cc}(ht:t.length<=20)(hJ:J≠[]):Cl 53 [nl Trem.cc.enc t] (lF t Trem.cc.enc) J:=by
 refine ar ?_;simp;refine WL.to (X0 (J:=J) ht t.length 0 (by omega)) (by simp) (by simp) ?_;rintro x e J' ⟨rfl,g3,rfl⟩;simp[g3];rw[gG (f:=Trem.cc.enc) (by decide) (λ_=>rfl) (λx=>by simp[D.clean]) hJ (by simp)];simp
theorem TG{u:jD}(hu:u.parts.length<=1000):∀(n i:Nat),i+n=u.parts.length ->
  WL T [1,2,3,4] false oL [(1,.aZ u.enc),(2,.own 0 [iI 0,.bu]),(3,.own 0 [iI u.vo,.sl J.length 0 i 0 i 2]),(4,iI i)] ([.cells i (fM (u.parts.take i) Prt.enc)]::J)
   (λx e J'=>x=.exit 0/\get e 2=.own 0 [iI 0,.bu]/\get e 3=.own 0 [iI u.vo,.sl J.length 0 u.parts.length 0 u.parts.length 2]/\J'=[.cells u.parts.length (fM u.parts Prt.enc)]::J)
 |0,i,hi=>by
  refine av oL.eq_1 ?_;obtain rfl:i=u.parts.length:=by omega
  simp
 |n+1,i,hi=>by
  refine av oL.eq_1 ?_;have h1:i<u.parts.length:=by omega
  obtain⟨r,hr⟩:=gE h1;have h2:=aP (f:=Prt.enc) (w:=2) (λ_=>rfl) hr;have h4:=bO h1;have ih:=TG hu n (i+1) (by omega);have a3:=l7 (f:=Prt.enc) hr;have a4:=Dn (u.parts.take i);rw[bY,Nat.min_eq_left (by omega)]at a4;have a6:(fM (u.parts.take i) Prt.enc).take (i*2)=fM (u.parts.take i) Prt.enc:=af (by omega);have h7:(i+1)*16<=room:=by unfold room;omega
  simp[h1,h2,h4,a4,a6,h7];exact WL.to ih (by simp) (by simp[<- a3]) λx e J hh=>hh
theorem aax{u:jD}(hu:u.parts.length<=1000)(hJ:J≠[]):Cl 81 [.agg u.enc] (.agg u.enc) J:=by
 refine ar ?_;simp[];refine WL.to (TG (J:=J) hu u.parts.length 0 (by omega)) (by simp) (by simp) ?_;rintro x e J' ⟨rfl,g2,g3,rfl⟩;simp[g2,g3];rw[vW (by simp) (by omega)];have hi:∀(k:IntKind) (n:Int) (S:SK),cH (J.length-1) (16-1) (.int k n) S=(.int k n,S):=λk n S=>de rfl (by omega)
 simp only[ff,gj,hi];rw[gG (f:=Prt.enc) (by decide) (λ_=>rfl) (λx=>by simp) hJ (by simp)];exact⟨_,rfl⟩
theorem aae(u:jD):D.aW u.enc=true:=by simp[D.clean,ef (f:=Prt.enc) (λ_=>by simp[D.clean]) u.parts]
theorem PN{t:List jD}(ht:t.length<=10)(hp:∀u∈t,u.parts.length<=1000):∀(n i:Nat),i+n=t.length ->
  WL T [0,3,4] false nr [(0,nl jD.enc t),(3,.sl J.length 0 i 0 i 2),(4,iI i)] ([.cells i (fM (t.take i) jD.enc)]::J)
   (λx e J'=>x=.exit 0/\get e 3=.sl J.length 0 t.length 0 t.length 2/\J'=[.cells t.length (fM t jD.enc)]::J)
 |0,i,hi=>by
  refine av nr.eq_1 ?_;obtain rfl:i=t.length:=by omega
  have hn:=fS (f:=jD.enc) t;simp[hn]
 |n+1,i,hi=>by
  refine av nr.eq_1 ?_;have h1:i<t.length:=by omega
  obtain⟨r,hr⟩:=gE h1;have hne:t≠[]:=λh=>by rw[h]at h1;simp at h1
  have h2:=aP (f:=jD.enc) (w:=2) (λ_=>rfl) hr;have h4:=bO h1;have ih:=PN ht hp n (i+1) (by omega);have a3:=l7 (f:=jD.enc) hr;have a4:=Ii (t.take i);rw[bY,Nat.min_eq_left (by omega)]at a4;have a6:(fM (t.take i) jD.enc).take (i*2)=fM (t.take i) jD.enc:=af (by omega);have h7:(i+1)*32<=room:=by unfold room;omega
  have hC:=λJ hJ=>aax (J:=J) (u:=r) (hp r (ai hr)) hJ
  have hcl:=aae r;simp only[jD.enc]at hC hcl;rw[fI hne]at ih ⊢;simp[h1,h2,h4,a4,a6,h7,hC];exact WL.to ih (by simp) (by simp[<- a3]) λx e J hh=>hh
theorem WI{t:List jD}(ht:t.length<=10)(hp:∀u∈t,u.parts.length<=1000)(hJ:J≠[]):Cl 56 [nl jD.enc t] (lF t jD.enc) J:=by
 refine ar ?_;simp;refine WL.to (PN (J:=J) ht hp t.length 0 (by omega)) (by simp) (by simp) ?_;rintro x e J' ⟨rfl,g3,rfl⟩;simp[g3];rw[gG (f:=jD.enc) (by decide) (λ_=>rfl) aae hJ (by simp)];simp
theorem ado(u:Trem.Ev):D.aW u.enc=true:=by simp[D.clean,ef (f:=Trem.oc.enc) (λ_=>by simp[D.clean]) u.sp]
theorem aik{a:List Abs.aF}{n:Nat}{x:Abs.aF}(h:a.length=n):(a++[x])[n]?=some x:=by subst h;simp
theorem ae4{a:List Abs.aF}{n:Nat}{x y:Abs.aF}(h:a.length=n):(a++[x]).set n y=a++[y]:=by subst h;simp
theorem PM{t:List Trem.Ev}{v:Trem.Ev}{j:Nat}{pr:List Abs.aF}(hj:t[j]?=some v)(hpr:pr.length=j+1)(hv:v.sp.length<=1000000):∀(n i:Nat),i+n=v.sp.length ->
  WL T [0,3,4,5,6] false mf [(0,lF t Trem.Ev.enc),(3,.sl J.length 0 j 0 j 2),(4,iI j),(5,.own 0 [iI v.tick,.sl J.length (j+1) i 0 i 4]),(6,iI i)] ((pr++[.cells i (fM (v.sp.take i) Trem.oc.enc)])::J)
   (λx e J'=>x=.exit 2/\get e 0=lF t Trem.Ev.enc/\get e 3=.sl J.length 0 j 0 j 2/\get e 4=iI j/\get e 5=.own 0 [iI v.tick,.sl J.length (j+1) v.sp.length 0 v.sp.length 4]/\J'=(pr++[.cells v.sp.length (fM v.sp Trem.oc.enc)])::J)
 |0,i,hi=>by
  refine av mf.eq_1 ?_;obtain rfl:i=v.sp.length:=by omega
  have h1:=(aA.1 hj).1;have h2:=aP (f:=Trem.Ev.enc) (w:=2) (λ_=>rfl) hj;simp[h1,h2]
 |n+1,i,hi=>by
  refine av mf.eq_1 ?_;have h1:=(aA.1 hj).1;have h2:=aP (f:=Trem.Ev.enc) (w:=2) (λ_=>rfl) hj;have k1:i<v.sp.length:=by omega
  obtain⟨r,hr⟩:=gE k1;have k2:=aP (f:=Trem.oc.enc) (w:=4) (λ_=>rfl) hr;have h4:=bO k1;have ih:=PM hj hpr hv n (i+1) (by omega);have a3:=l7 (f:=Trem.oc.enc) hr;have a4:=Ig (v.sp.take i);rw[bY,Nat.min_eq_left (by omega)]at a4;have a6:(fM (v.sp.take i) Trem.oc.enc).take (i*4)=fM (v.sp.take i) Trem.oc.enc:=af (by omega);have h7:(i+1)*32<=room:=by unfold room;omega
  have hP:=λJ x y z=>Tr (J:=J) (x:=x) (y:=y) (z:=z)
  have b1:=λx=>aik (x:=x) hpr
  have b2:=λx y=>ae4 (x:=x) (y:=y) hpr
  simp[h1,h2,k1,k2,h4,a4,a6,h7,hP,b1,b2];exact WL.to ih (by simp) (by simp[<- a3]) λx e J hh=>hh
theorem MT{t:List Trem.Ev}(ht:t.length<=200)(hs:∀v∈t,v.sp.length<=1000000)(hJ:J≠[]):∀(n i:Nat),i+n=t.length ->
  WL T [0,3,4] false kS [(0,nl Trem.Ev.enc t),(3,.sl J.length 0 i 0 i 2),(4,iI i)] ((.cells i (fM (t.take i) Trem.Ev.enc)::List.replicate i .dead)::J)
   (λx e J'=>x=.exit 0/\get e 3=.sl J.length 0 t.length 0 t.length 2/\J'=(.cells t.length (fM t Trem.Ev.enc)::List.replicate t.length .dead)::J)
 |0,i,hi=>by
  refine av kS.eq_1 ?_;obtain rfl:i=t.length:=by omega
  have hn:=fS (f:=Trem.Ev.enc) t;simp[hn]
 |n+1,i,hi=>by
  refine av kS.eq_1 ?_;have h1:i<t.length:=by omega
  obtain⟨v,hr⟩:=gE h1;have hne:t≠[]:=λh=>by rw[h]at h1;simp at h1
  have h2:=aP (f:=Trem.Ev.enc) (w:=2) (λ_=>rfl) hr;have h4:=bO h1;have ih:=MT ht hs hJ n (i+1) (by omega);have a3:=l7 (f:=Trem.Ev.enc) hr;have a4:=Ss (t.take i);rw[bY,Nat.min_eq_left (by omega)]at a4;have a6:(fM (t.take i) Trem.Ev.enc).take (i*2)=fM (t.take i) Trem.Ev.enc:=af (by omega);have h7:(i+1)*32<=room:=by unfold room;omega
  have hS:=PM (J:=J) (pr:=.cells i (fM (t.take i) Trem.Ev.enc)::List.replicate i .dead) hr (by simp) (hs v (ai hr)) v.sp.length 0 (by omega);rw[fI hne]at ih ⊢;simp[h1,h2];refine WL.to hS (by simp) (by simp) ?_;rintro x e J' ⟨rfl,g0,g3,g4,g5,rfl⟩;have hf:=pM (f:=Trem.oc.enc) (w:=4) (λ_=>rfl) (λ_=>by simp[D.clean]) (l:=v.sp) (j:=i+1) (v:=v.sp.length) (bs:=.cells i (fM (t.take i) Trem.Ev.enc)::(List.replicate i .dead++[.cells v.sp.length (fM v.sp Trem.oc.enc)])) (J:=J) hJ (by simp);have hcl:=ado v;simp only[Trem.Ev.enc]at hcl;simp[g0,g3,g4,g5,hf,a4,a6,h7,h4];exact WL.to ih (by simp) (by simp[<- a3,List.replicate_succ']) λx e J hh=>hh
theorem U7{t:List Trem.Ev}(ht:t.length<=200)(hs:∀v∈t,v.sp.length<=1000000)(hJ:J≠[]):Cl 54 [nl Trem.Ev.enc t] (lF t Trem.Ev.enc) J:=by
 refine ar ?_;simp;refine WL.to (MT (J:=J) ht hs hJ t.length 0 (by omega)) (by simp) (by simp) ?_;rintro x e J' ⟨rfl,g3,rfl⟩;simp[g3];rw[gG (f:=Trem.Ev.enc) (by decide) (λ_=>rfl) ado hJ (by simp)];simp
theorem Yb{b:Bk}(hr:b.rules.length<=20):∀(m i:Nat),i+m=b.rules.length ->
  WL T [1,2,3,7] false kT [(1,lF b.rules Trem.cc.enc),(2,lF b.lL Trem.Ev.enc),(3,.aZ (Fz b)),(7,iI i)] J (λx e J'=>J'=J/\x=.exit 0/\get e 2=lF b.lL Trem.Ev.enc/\get e 3=.aZ (Fz b))
 |0,i,hi=>by
  refine av kT.eq_1 ?_;obtain rfl:i=b.rules.length:=by omega
  simp
 |m+1,i,hi=>by
  refine av kT.eq_1 ?_;have h2:i<b.rules.length:=by omega
  obtain⟨x,hx⟩:=gE h2;have a1:=aP (f:=Trem.cc.enc) (w:=10) (λ_=>rfl) hx;have a2:=UQ b.rules;have a3:10<=(fM b.rules Trem.cc.enc).length-i*10:=by omega
  have h4:=bO h2;have ih:=Yb hr m (i+1) (by omega);simp only[Fz]at ih;simp[Fz,h2,a1,h4];exact WL.to ih (by simp) rfl λx e J' hh=>by simpa[Fz]using hh
theorem Yc{b:Bk}{v:Trem.Ev}{j:Nat}(hj:b.lL[j]?=some v)(hv:v.sp.length<=1000000):∀(m i:Nat),i+m=v.sp.length ->
  WL T [2,3,8,9] false ke [(2,lF b.lL Trem.Ev.enc),(3,.aZ (Fz b)),(8,iI j),(9,iI i)] J (λx e J'=>J'=J/\x=.exit 4/\get e 2=lF b.lL Trem.Ev.enc/\get e 3=.aZ (Fz b)/\get e 8=iI j)
 |0,i,hi=>by
  refine av ke.eq_1 ?_;obtain rfl:i=v.sp.length:=by omega
  have h1:=(aA.1 hj).1;have h2:=aP (f:=Trem.Ev.enc) (w:=2) (λ_=>rfl) hj;simp[h1,h2]
 |m+1,i,hi=>by
  refine av ke.eq_1 ?_;have h1:=(aA.1 hj).1;have h2:=aP (f:=Trem.Ev.enc) (w:=2) (λ_=>rfl) hj;have k1:i<v.sp.length:=by omega
  obtain⟨x,hx⟩:=gE k1;have a1:=aP (f:=Trem.oc.enc) (w:=4) (λ_=>rfl) hx;have a2:=Ig v.sp;have a3:4<=(fM v.sp Trem.oc.enc).length-i*4:=by omega
  have h4:=bO k1;have ih:=Yc hj hv m (i+1) (by omega);simp only[Fz]at ih;simp[Fz,h1,h2,k1,a1,h4];exact WL.to ih (by simp) rfl λx e J' hh=>by simpa[Fz]using hh
theorem Ya{b:Bk}(hr:b.lL.length<=200)(hs:∀v∈b.lL,v.sp.length<=1000000):∀(m i:Nat),i+m=b.lL.length ->
  WL T [2,3,8] false kf [(2,lF b.lL Trem.Ev.enc),(3,.aZ (Fz b)),(8,iI i)] J (λx e J'=>J'=J/\x=.exit 2)
 |0,i,hi=>by
  refine av kf.eq_1 ?_;obtain rfl:i=b.lL.length:=by omega
  simp
 |m+1,i,hi=>by
  refine av kf.eq_1 ?_;have h2:i<b.lL.length:=by omega
  obtain⟨v,hx⟩:=gE h2;have a1:=aP (f:=Trem.Ev.enc) (w:=2) (λ_=>rfl) hx;have h4:=bO h2;have ih:=Ya hr hs m (i+1) (by omega);have hS:=Yc (J:=J) hx (hs v (ai hx)) v.sp.length 0 (by omega);simp only[Fz]at hS ih;simp[Fz,h2,a1];refine WL.to hS (by simp) rfl ?_;rintro x e J' ⟨rfl,rfl,g2,g3,g8⟩;simp[g2,g3,g8,h4];exact WL.to ih (by simp) rfl λx e J' hh=>hh
theorem Vw{b:Bk}(hr:b.rules.length<=20)(he:b.lL.length<=200)(hs:∀v∈b.lL,v.sp.length<=1000000):Cl 52 [.agg (Fz b),lF b.rules Trem.cc.enc,lF b.lL Trem.Ev.enc] (.bool true) J:=by
 refine ar ?_;have hT:=Yb (J:=[]::J) hr b.rules.length 0 (by omega);have hW:=Ya (J:=[]::J) he hs b.lL.length 0 (by omega);simp only[Fz]at hT hW;simp[Fz];refine WL.to hT (by simp) rfl ?_;rintro x e J' ⟨rfl,rfl,g2,g3⟩;simp[g2,g3];refine WL.to hW (by simp) rfl ?_;rintro x e J' ⟨rfl,rfl⟩;simp
theorem XT{l:List dU}(hl:l.length<=40)(hv:∀e∈l,e.m.dh.length<=1000000):∀(m i:Nat),i+m=l.length ->
  WL T [0,1,5] false kc [(0,lF l dU.enc),(1,nl dU.enc l),(5,iI i)] J (λx e J'=>J'=J/\x=.exit 0)
 |0,i,hi=>by
  refine av kc.eq_1 ?_;obtain rfl:i=l.length:=by omega
  simp
 |m+1,i,hi=>by
  refine av kc.eq_1 ?_;have h2:i<l.length:=by omega
  have hne:l≠[]:=λh=>by rw[h]at h2;simp at h2
  obtain⟨v,hx⟩:=gE h2;have a1:=aP (f:=dU.enc) (w:=4) (λ_=>rfl) hx;have h4:=bO h2;have ih:=XT hl hv m (i+1) (by omega);have hI:=λJ=>R0 (J:=J) (a:=v.m.dh) (by have:=hv v (ai hx);omega)
  rw[fI hne]at ih ⊢;simp[h2,a1,h4,hI,ia];exact WL.to ih (by simp) rfl λx e J' hh=>hh
theorem R5{l:List dU}(hl:l.length<=40)(hv:∀e∈l,e.m.dh.length<=1000000):Cl 51 [lF l dU.enc,nl dU.enc l] (.bool true) J:=by
 refine ar ?_;have hn:=fS (f:=dU.enc) l;simp[hn];refine WL.to (XT (J:=[]::J) hl hv l.length 0 (by omega)) (by simp) rfl ?_;rintro x e J' ⟨rfl,rfl⟩;simp
theorem X8{t:List jD}{v:jD}{j:Nat}(hj:t[j]?=some v)(hv:v.parts.length<=1000):∀(m i:Nat),i+m=v.parts.length ->
  WL T [0,1,5,6] false mg [(0,lF t jD.enc),(1,lF t jD.enc),(5,iI j),(6,iI i)] J (λx e J'=>J'=J/\x=.exit 2/\get e 0=lF t jD.enc/\get e 1=lF t jD.enc/\get e 5=iI j)
 |0,i,hi=>by
  refine av mg.eq_1 ?_;obtain rfl:i=v.parts.length:=by omega
  have h1:=(aA.1 hj).1;have h2:=aP (f:=jD.enc) (w:=2) (λ_=>rfl) hj;simp[h1,h2]
 |m+1,i,hi=>by
  refine av mg.eq_1 ?_;have h1:=(aA.1 hj).1;have h2:=aP (f:=jD.enc) (w:=2) (λ_=>rfl) hj;have k1:i<v.parts.length:=by omega
  obtain⟨x,hx⟩:=gE k1;have a1:=aP (f:=Prt.enc) (w:=2) (λ_=>rfl) hx;have a2:=Dn v.parts;have a3:2<=(fM v.parts Prt.enc).length-i*2:=by omega
  have h4:=bO k1;have ih:=X8 hj hv m (i+1) (by omega);simp[h1,h2,k1,a1,h4];exact WL.to ih (by simp) rfl λx e J' hh=>hh
theorem X7{t:List jD}(ht:t.length<=10)(hs:∀v∈t,v.parts.length<=1000):∀(m i:Nat),i+m=t.length ->
  WL T [0,1,5] false mh [(0,lF t jD.enc),(1,lF t jD.enc),(5,iI i)] J (λx e J'=>J'=J/\x=.exit 0)
 |0,i,hi=>by
  refine av mh.eq_1 ?_;obtain rfl:i=t.length:=by omega
  simp
 |m+1,i,hi=>by
  refine av mh.eq_1 ?_;have h2:i<t.length:=by omega
  obtain⟨v,hx⟩:=gE h2;have a1:=aP (f:=jD.enc) (w:=2) (λ_=>rfl) hx;have h4:=bO h2;have ih:=X7 ht hs m (i+1) (by omega);have hS:=X8 (J:=J) hx (hs v (ai hx)) v.parts.length 0 (by omega);simp[h2,a1];refine WL.to hS (by simp) rfl ?_;rintro x e J' ⟨rfl,rfl,g2,g3,g8⟩;simp[g2,g3,g8,h4];exact WL.to ih (by simp) rfl λx e J' hh=>hh
theorem aeF{t:List jD}(ht:t.length<=10)(hs:∀v∈t,v.parts.length<=1000):Cl 55 [lF t jD.enc,lF t jD.enc] (.bool true) J:=by
 refine ar ?_;simp;refine WL.to (X7 (J:=[]::J) ht hs t.length 0 (by omega)) (by simp) rfl ?_;rintro x e J' ⟨rfl,rfl⟩;simp
def GL(b:bU):List D:=(bL b)
theorem TO{b:bU}(h1:b.c9.length<=1000000000):∀(m i:Nat),i+m=b.c9.length ->
  WL T [2,3,5] false oN [(2,.aZ (DY b)),(3,.aZ (GL b)),(5,iI i)] J (λx e J'=>J'=J/\x=.exit 0/\get e 2=.aZ (DY b)/\get e 3=.aZ (GL b))
 |0,i,hi=>by
  refine av oN.eq_1 ?_;have h1:¬i<b.c9.length:=by omega
  by_cases h0:b.c9=[]
  .obtain rfl:i=0:=by rw[h0]at hi;simpa using hi
   simp[DY,GL,nl,h0]
  .simp[DY,GL,nl,h0,h1]
 |m+1,i,hi=>by
  refine av oN.eq_1 ?_;have h2:i<b.c9.length:=by omega
  obtain⟨x,hx⟩:=gE h2;have h0:¬b.c9=[]:=by intro h;rw[h]at h2;simp at h2
  have a1:=aP (f:=Rw.enc) (w:=5) (λ_=>rfl) hx;have a2:=bQ (f:=Rw.enc) (w:=5) (λ_=>rfl) b.c9;have a3:5<=(fM b.c9 Rw.enc).length-i*5:=by omega
  have h4:=bO h2;have ih:=TO h1 m (i+1) (by omega);simp only[DY,GL,nl,if_neg h0]at ih;simp[DY,GL,nl,h0,h2,a1,h4];exact WL.to ih (by simp) rfl λx e J' hh=>by simpa[DY,GL,nl,h0]using hh
theorem TP{b:bU}(h1:b.aw.length<=1000000000):∀(m i:Nat),i+m=b.aw.length ->
  WL T [2,3,6] false nv [(2,.aZ (DY b)),(3,.aZ (GL b)),(6,iI i)] J (λx e J'=>J'=J/\x=.exit 2)
 |0,i,hi=>by
  refine av nv.eq_1 ?_;have h1:¬i<b.aw.length:=by omega
  by_cases h0:b.aw=[]
  .obtain rfl:i=0:=by rw[h0]at hi;simpa using hi
   simp[DY,GL,nl,h0]
  .simp[DY,GL,nl,h0,h1]
 |m+1,i,hi=>by
  refine av nv.eq_1 ?_;have h2:i<b.aw.length:=by omega
  obtain⟨x,hx⟩:=gE h2;have h0:¬b.aw=[]:=by intro h;rw[h]at h2;simp at h2
  have a1:=aP (f:=bA.enc) (w:=3) (λ_=>rfl) hx;have a2:=bQ (f:=bA.enc) (w:=3) (λ_=>rfl) b.aw;have a3:3<=(fM b.aw bA.enc).length-i*3:=by omega
  have h4:=bO h2;have ih:=TP h1 m (i+1) (by omega);simp only[DY,GL,nl,if_neg h0]at ih;simp[DY,GL,nl,h0,h2,a1,h4];exact WL.to ih (by simp) rfl λx e J' hh=>by simpa using hh
theorem aaG{b:bU}(h1:b.c9.length<=1000000000)(h2:b.aw.length<=1000000000):Cl 49 [.agg (DY b),.agg (GL b)] (.bool true) J:=by
 refine ar ?_;have hT:=TO (J:=[]::J) h1 b.c9.length 0 (by omega);have hW:=TP (J:=[]::J) h2 b.aw.length 0 (by omega);have n1:=fS (f:=Rw.enc) b.c9;have n2:=fS (f:=bA.enc) b.aw;simp only[DY,GL]at hT hW ⊢;simp[n1,n2];refine WL.to hT (by simp) rfl ?_;rintro x e J' ⟨rfl,rfl,g2,g3⟩;simp[g2,g3];refine WL.to hW (by simp) rfl ?_;rintro x e J' ⟨rfl,rfl⟩;simp
structure Szb(b:Bk):Prop where
 c9:b.aR.c9.length<=20
 tw:b.aR.c9=[]->b.aR.aw=[]
 aw:b.aR.aw.length<=8
 ml:b.aj.length<=40
 dh:∀e∈b.aj,e.m.dh.length<=1000000
 rules:b.rules.length<=20
 lL:b.lL.length<=200
 sp:∀v∈b.lL,v.sp.length<=1000000
 cp:b.cp.length<=10
 parts:∀u∈b.cp,u.parts.length<=1000
 az:b.az.length<=200
 row:∀r∈b.az,r.length<=1000
 cA:b.cA.length<=1000000
theorem Szb.of{n:Nat}{b:Bk}(h:Kr n b)(hn:n<=1000000):Szb b:=by
 have hv:=h.kv;have hw:b.aR.aw.length<=8:=by
  cases hr:b.ready with
  |true=>exact(Bv.of (hv.ready hr)).aw
  |false=>rw[hv.aw hr];simp
 refine⟨Ko hv.c9,λht=>?_,hw,hv.ml,λe he=>(hv.fit e he).2.2,hv.rules,hv.lL,λe he=>?_,hv.cp,λu hu=>?_,(ju hv.pl).1,λr hr=>?_,by have:=hv.cA;omega⟩
 .cases hr:b.ready with
  |true=>exact absurd ht (uT (Bv.of (hv.ready hr)).c9)
  |false=>exact hv.aw hr
 .have:=hv.JU e he;simp only[Trem.Ev.ok,ah,Trem.aQ]at this;omega
 .have:=hv.uok u hu;simp only[jD.ok,ah,aQ]at this;omega
 .have:=((ju hv.pl).2 r hr).len;omega
theorem X4{b:Bk}(h:Szb b):∀(m i:Nat),i+m=b.az.length ->
  WL T [2,3,5] false oP [(2,.aZ (Fz b)),(3,.aZ (bW b)),(5,iI i)] J (λx e J'=>J'=J/\x=.exit 0/\get e 2=.aZ (Fz b)/\get e 3=.aZ (bW b))
 |0,i,hi=>by
  refine av oP.eq_1 ?_;obtain rfl:i=b.az.length:=by omega
  have hn:=fS (f:=pE) b.az;simp[Fz,bW,hn]
 |m+1,i,hi=>by
  refine av oP.eq_1 ?_;have h2:i<b.az.length:=by omega
  have hne:b.az≠[]:=λh=>by rw[h]at h2;simp at h2
  obtain⟨x,hx⟩:=gE h2;have a1:=aP (f:=pE) (w:=1) (λ_=>rfl) hx;simp only[pE,bJ]at a1;have h4:=bO h2 (by have:=h.az;omega);have hI:=λJ=>R0 (J:=J) (a:=x) (by have:=h.row x (ai hx);omega)
  have ih:=X4 h m (i+1) (by omega);have hnl:=fI (f:=pE) hne;simp only[Fz,bW,hnl]at ih;simp[Fz,bW,hnl,h2,a1,h4,hI];exact WL.to ih (by simp) rfl λx e J' hh=>by simpa[Fz,bW,hnl]using hh
theorem Vf{x y:Int}:Cl 57 [.agg [iI x,iI y]] (.agg [iI x,iI y]) J:=by
 refine ar ?_;simp
theorem X5{b:Bk}(h:Szb b):∀(m i:Nat),i+m=b.cA.length ->
  WL T [2,3,6] false nw [(2,.aZ (Fz b)),(3,.aZ (bW b)),(6,iI i)] J (λx e J'=>J'=J/\x=.exit 2)
 |0,i,hi=>by
  refine av nw.eq_1 ?_;obtain rfl:i=b.cA.length:=by omega
  have hn:=fS (f:=GG.enc) b.cA;simp[Fz,bW,hn]
 |m+1,i,hi=>by
  refine av nw.eq_1 ?_;have h2:i<b.cA.length:=by omega
  have hne:b.cA≠[]:=λh=>by rw[h]at h2;simp at h2
  obtain⟨x,hx⟩:=gE h2;have a1:=aP (f:=GG.enc) (w:=6) (λ_=>rfl) hx;have a2:=bQ (f:=GG.enc) (w:=6) (λ_=>rfl) b.cA;have a3:6<=(fM b.cA GG.enc).length-i*6:=by omega
  have h4:=bO h2 (by have:=h.cA;omega);have hR:=λJ x y=>Vf (J:=J) (x:=x) (y:=y)
  have ih:=X5 h m (i+1) (by omega);have hnl:=fI (f:=GG.enc) hne;simp only[Fz,bW,hnl]at ih;simp[Fz,bW,hnl,h2,a1,h4,hR];exact WL.to ih (by simp) rfl λx e J' hh=>hh
theorem aez{b:Bk}(h:Szb b)(hJ:J≠[]):Cl 22 [.agg (Fz b),.agg (bW b)] (.bool true) J:=by
 refine ar ?_;have hB:=λJ hJ=>aaw (J:=J) h.c9 h.aw h.tw hJ
 have hB2:=λJ=>aaG (J:=J) (b:=b.aR) (by have:=h.c9;omega) (by have:=h.aw;omega)
 have hM:=λJ=>R5 (J:=J) h.ml h.dh
 have hR:=λJ hJ=>WH (J:=J) h.rules hJ
 have hE:=λJ hJ=>U7 (J:=J) h.lL h.sp hJ
 have hW:=λJ=>Vw (J:=J) h.rules h.lL h.sp
 have hU:=λJ hJ=>WI (J:=J) h.cp h.parts hJ
 have hU2:=λJ=>aeF (J:=J) h.cp h.parts
 have hP:=X4 (J:=[]::J) h b.az.length 0 (by omega);have hS:=X5 (J:=[]::J) h b.cA.length 0 (by omega);have n1:=fS (f:=pE) b.az;have n2:=fS (f:=GG.enc) b.cA;simp only[Fz,bW,DY,GL]at hB hB2 hW hP hS ⊢;simp[hB,hB2,hM,hR,hE,hW,hU,hU2,n1,n2];refine WL.to hP (by simp) rfl ?_;rintro x e J' ⟨rfl,rfl,g2,g3⟩;simp[g2,g3];refine WL.to hS (by simp) rfl ?_;rintro x e J' ⟨rfl,rfl⟩;simp
end
section
open Go Go.Abs Go.Rock Go.Book
theorem K6:∀{k u:Nat},(tR k u).length<=k
 |0,u=>by simp[tR]
 |k+1,u=>by
  unfold tR;split
  .simp
  .have:=@K6 k (u / 10);simp;omega
theorem l8{n:Int}:(iB n).length<=21:=by
 unfold iB;have h1:=@K6 20 n.natAbs;have h2:=@K6 20 n.toNat;split<;>simp<;>omega
def I7:List UInt8:=[116,105,99,107,115]
def Fx:List UInt8:=[99,111,108,111,117,114]
def I9:List UInt8:=[119,101,108,108,115]
def wv:List UInt8:=[109,111,100,101,108]
def Ro:List UInt8:=[108,101,102,116]
def H9:List UInt8:=[115,116,114,117,99,107]
def NH:List UInt8:=[115,97,108,101]
def NI:List UInt8:=[116,105,99,107]
def I8:List UInt8:=[119,101,108,108]
def NJ:List UInt8:=[119,111,114,107]
def I5:List UInt8:=[109,111,110,101,121]
def Ia(l:List (List UInt8)):List UInt8:=xZ [32] l++[10]
def FQ(lo hi:Int):List UInt8:=iB lo++[46,46]++iB hi
def OX(b:Bk):List UInt8:=Ia [I7,iB b.az.length,Fx,iB (eZ b),I9,iB b.aR.aw.length]
def H6(e:dU):List UInt8:=if e.left=true then Ia [wv,e.m.name,Ro]else Ia [wv,e.m.name,H9,iB e.Of]
def SY(k:Nat)(x:GG):List UInt8:=Ia [NH,iB k,NI,iB x.tick,I8,iB x.To,NJ,FQ x.wlo x.whi,I5,FQ x.mlo x.mhi]
def Q9:Nat->List GG->List UInt8
 |_,[]=>[]
 |k,x::l=>SY k x++Q9 (k+1) l
def Dr(b:Bk):List UInt8:=OX b++fM b.aj H6++Q9 0 b.cA
def i9(n:Int):Prop := -1000000000000000<=n/\n<=1000000000000000
structure Rp(b:Bk):Prop where
 nm:∀e∈b.aj,e.m.name.length<=4000/\i9 e.Of
 sl:∀x∈b.cA,i9 x.tick/\i9 x.To/\i9 x.wlo/\i9 x.whi/\i9 x.mlo/\i9 x.mhi
theorem Rp.zero:Rp iD:=⟨by simp[iD],by simp[iD]⟩
theorem Rp.of{b c:Bk}(h:Rp b)(h1:c.aj=b.aj)(h2:c.cA=b.cA):Rp c:=⟨by rw[h1];exact h.nm,by rw[h2];exact h.sl⟩
theorem Rp.L9{b:Bk}{lo hi:Int}{val:cg->Int}(h:Rp b)(ha:i9 b.at_):Rp (ig b lo hi val):=by
 refine⟨λe he=>?_,h.sl⟩;obtain⟨j,hj⟩:=List.mem_iff_getElem?.1 he;simp only[ig,Bk.gF,jE]at hj;cases hm:b.aj[j]? with
 |none=>rw[hm]at hj;cases hj
 |some x =>
  rw[hm]at hj;have hx:=h.nm x (ai hm);simp only[bf,ae]at hj;subst hj;split
  .unfold Go.Book.cf;split
   .exact⟨hx.1,ha⟩
   .exact hx
  .exact hx
theorem ac0{n:Nat}{b:Bk}(h:Rp b)(hk:Kv n b)(ha:i9 b.at_)(k:Nat){nm:List UInt8}(hn:nm.length<=4000)(l:List Int):Rp (jg b k nm l).1:=by
 unfold jg;split
 .split
  .unfold oq;(repeat' split);all_goals exact h.of rfl rfl
  .exact h
 .unfold mc;(repeat' split);all_goals exact h.of rfl rfl
 .split
  .unfold yG;(repeat' split);all_goals exact h.of rfl rfl
  .exact h
 .split
  .unfold ua;(repeat' split);all_goals exact h.of rfl rfl
  .exact h
 .unfold rp;split
  .split
   .exact h
   .split
    .split
     .refine⟨λe he=>?_,h.sl⟩;rcases aU.1 he with he | he
      .exact h.nm e he
      .rw[List.mem_singleton.1 he];exact⟨hn,show i9 0 by unfold i9;omega⟩
     .exact h
    .exact h
  .exact h
 .split
  .unfold DF;(repeat' split)
   .exact h
   .exact h.L9 ha
   .exact h
  .exact h
 .unfold sT;(repeat' split);all_goals exact h.of rfl rfl
 .split
  .split<;>exact h.of rfl rfl
  .exact h
 .unfold pC;(repeat' split);all_goals exact h.of rfl rfl
 .unfold mM;(repeat' split);all_goals exact h.of rfl rfl
 .split
  .unfold pa;(repeat' split)
   .exact h
   .exact h.L9 ha
   .exact h
   .exact h
  .exact h
 .split
  .unfold tZ;(repeat' split);all_goals exact h.of rfl rfl
  .exact h
 .split
  .rename_i w lv u p;unfold ni;split
   .exact h
   .split
    .rename_i c2;split
     .rename_i c3;have hc2:=c2;simp only[E3,ah]at hc2;obtain⟨k1,k2,k3,k4⟩:=hc2;have i1:=aQ.1 k1;have i3:=aQ.1 k3;have i4:=aQ.1 k4;have hbs:∀x∈pv b w lv u,0<=x/\x<=1000000000:=by
       intro x hx;simp only[pv,bI]at hx;obtain⟨e,he,rfl⟩:=hx;exact O8 (by omega) hk.uok (qq c3 e he)
      obtain⟨⟨m1,m2⟩,m3,m4⟩:=Zh (by omega) hbs;have p1:0<=D2 (pv b w lv u)*p:=bB m1 i4.1;have p2:D2 (pv b w lv u)*p<=1000000000*1000:=ct m2 i4.2 i4.1 (by omega);have p3:0<=D1 (pv b w lv u)*p:=bB m3 i4.1;have p4:D1 (pv b w lv u)*p<=1000000000*1000:=ct m4 i4.2 i4.1 (by omega);have hpl:=(ju hk.pl).1;have hwl:b.aR.aw.length<=8:=by
       cases hr:b.ready with
       |true=>exact(Bv.of (hk.ready hr)).aw
       |false=>rw[hk.aw hr];simp
      refine⟨h.nm,λx hx=>?_⟩;rcases aU.1 hx with hx | hx
      .exact h.sl x hx
      .rw[List.mem_singleton.1 hx];simp only[i9];omega
     .exact h
    .exact h
  .exact h
 .exact h
theorem ab4{n:Nat}{b:Bk}(h:Rp b)(hk:Kv n b){k:Int}(ha:i9 k){s:List UInt8}(hs:s.length<=4000):Rp (nh b k s).1:=by
 unfold nh;cases hp:parse s with
 |none=>exact h
 |some p =>
  obtain⟨w,nm,l⟩:=p;exact ac0 (b:={b with at_:=k }) (h.of rfl rfl) (hk.VD k) ha w.k (by have:=(AO hp).2.2.1;omega) l
theorem Rl:∀{l:List (List UInt8)} {b:Bk} {k:Nat} {n:Nat},Rp b->Kv n b->(∀s∈l,s.length<=4000)->k+l.length<=1000000->Rp (lC b k l).1
 |[],b,k,n,h,hk,hs,hn=>h
 |s::l,b,k,n,h,hk,hs,hn=>by
  have h1:=hs s (by simp);simp only[aE]at hn;have h2:=Rl (l:=l) (k:=k+1) (ab4 h hk (k:=k) (by unfold i9;omega) h1) (hk.line h1 (k:=k)) (λx hx=>hs x (by simp[hx])) (by omega);simp only[lC];rw[show((k:Int)+1)=((k+1:Nat):Int)by omega];exact h2
end
section
open Go Go.Abs Go.Rock Go.Book
variable {J:SK}
def Oe(bs:List UInt8):Abs.aF:=.cells 2 [iI 115,iI 5,.str bs]
def O3(L:Nat)(b:Bk)(er:List Int)(bs:List UInt8):List Abs.aF:=[.cells b.aj.length (fM b.aj dU.enc),.cells b.rules.length (fM b.rules Trem.cc.enc),.cells b.lL.length (fM b.lL Trem.Ev.enc),.cells b.cp.length (fM b.cp jD.enc),
 .cells b.cA.length (fM b.cA GG.enc),.cells b.eg.length (fM b.eg DW.enc),.cells 0 (b.cells L),.cells er.length (fM er aO),Oe bs]
theorem TE{b:Bk}{er:List Int}{bs:List UInt8}{ds:List D}{xs:List (List UInt8)}{n:Nat}(hx:xA ds=some xs)(hn:n=xs.length)(h1:n<=1000)(h2:(Ia xs).length+bs.length<=1000000):
  dt T (.call false 39 [.bZ n ds,.j5 J.length 8] (O3 J.length b er bs::J))=some (.val (.cQ []) (O3 J.length b er (bs++Ia xs)::J)):=by
 subst hn;refine fA rfl rfl rfl (by simp) ?_;have hj:(xZ [32] xs).length<=1000000:=by simp only[Ia,aV]at h2;omega
 have h3:bs.length+(xZ [32] xs++[10]).length<=1000000:=by simp only[Ia]at h2;omega
 have hJ:∀S,Cl 41 [.bZ xs.length ds,.str [32]] (.str (xZ [32] xs)) S:=λS=>zG KP KJ (by simp[ER,hx,h1,hj])
 have hW:dt T (.call false 40 [.j5 J.length 8,.str (xZ [32] xs++[10])] ([]::O3 J.length b er bs::J))=some (.val (.cQ [iI (xZ [32] xs++[10]).length,.od]) ([]::O3 J.length b er (bs++(xZ [32] xs++[10]))::J)) :=
  zG wC wB (by simp[ER,O3,Oe];simp at h3;omega)
 have hq:(xZ [32] xs).length<=4611686018427387903:=by omega
 simp[ia,hJ,hW,Ia,hq]
theorem TB{lo hi:Int}(h1:i9 lo)(h2:i9 hi):Cl 44 [.agg [iI lo,iI hi]] (.str (FQ lo hi)) J:=by
 refine ar ?_;unfold i9 at h1 h2;have a1:=λJ=>xl (J:=J) (n:=lo) (by omega)
 have a2:=λJ=>xl (J:=J) (n:=hi) (by omega)
 have l1:=@l8 lo;have l2:=@l8 hi;have⟨q1,q2⟩:(iB lo).length<=4611686018427387902/\(iB lo).length+2+(iB hi).length<=4611686018427387904:=by omega
 simp[ia,a1,a2,FQ,q1,q2]
theorem Q8{e:dU}(h:e.m.name.length<=4000):(H6 e).length<=5000:=by
 have hil:=@l8 e.Of;unfold H6;split
 .simp only[Ia,xZ,di,ot,aV,wv,Ro,aE,bd];omega
 .simp only[Ia,xZ,di,ot,aV,wv,H9,aE,bd];omega
theorem NC:∀{l:List dU},(∀e∈l,e.m.name.length<=4000)->(fM l H6).length<=l.length*5000
 |[],h=>by simp
 |e::l,h=>by
  have h1:=Q8 (h e (by simp));have h2:=NC (l:=l) λx hx=>h x (by simp[hx])
  simp only[di,aV,aE];omega
theorem XW{b:Bk}{er:List Int}(hr:Rp b)(hl:b.aj.length<=40):∀(m i:Nat) (bs:List UInt8),i+m=b.aj.length->bs.length+m*5000<=300000 ->
  WL T [5,7,8,9,54,55,56] false jG [(5,.ref J.length 6 0 0),(7,.j5 J.length 8),(8,.fn 39 [] [.j5 J.length 8]),(9,.fn 42 [] []),(54,.sl J.length 0 b.aj.length 0 b.aj.length 4),(55,iI b.aj.length),(56,iI i)] (O3 J.length b er bs::J)
   (λx e J'=>x=.exit 0/\get e 5=.ref J.length 6 0 0/\get e 7=.j5 J.length 8/\get e 8=.fn 39 [] [.j5 J.length 8]/\get e 9=.fn 42 [] []/\J'=O3 J.length b er (bs++fM (b.aj.drop i) H6)::J)
 |0,i,bs,hi,hb=>by
  refine av jG.eq_1 ?_;obtain rfl:i=b.aj.length:=by omega
  simp
 |m+1,i,bs,hi,hb=>by
  refine av jG.eq_1 ?_;have h1:i<b.aj.length:=by omega
  obtain⟨e,he⟩:=gE h1;have a1:=aP (f:=dU.enc) (w:=4) (λ_=>rfl) he;have h4:=bO h1;have a2:=bQ (f:=dU.enc) (w:=4) (λ_=>rfl) b.aj;have a3:4<=b.aj.length*4-i*4:=by omega
  obtain⟨n1,n2⟩:=hr.nm e (ai he);unfold i9 at n2;have hI:=λJ=>xl (J:=J) (n:=e.Of) (by omega)
  have hil:=@l8 e.Of;rw[bz he,di,<- cS];have hml:=Q8 (hr.nm e (ai he)).1;have ih:=XW hr hl (er:=er) m (i+1) (bs++H6 e) (by omega) (by simp;omega);have hbs:bs.length<=300000:=by omega
  cases hc:e.left
  .have hS:=TE (J:=J) (b:=b) (er:=er) (bs:=bs) (ds:=[.str wv,.str e.m.name,.str H9,.str (iB e.Of)]) (n:=4) rfl rfl (by omega) (by have:=hml;simp only[H6,hc]at this;simp at this ⊢;omega);simp only[H6,hc]at ih;simp only[O3,Oe,Bk.cells,wv,H9]at hS ih ⊢;simp[h1,a1,a2,a3,h4,hI,hc,hS];exact WL.to ih (by simp) (by simp) λx e J' hh=>by simpa[H6,hc,wv,H9]using hh
  .have hS:=TE (J:=J) (b:=b) (er:=er) (bs:=bs) (ds:=[.str wv,.str e.m.name,.str Ro]) (n:=3) rfl rfl (by omega) (by have:=hml;simp only[H6,hc]at this;simp at this ⊢;omega);simp only[H6,hc]at ih;simp only[O3,Oe,Bk.cells,wv,Ro]at hS ih ⊢;simp[h1,a1,a2,a3,h4,hc,hS];exact WL.to ih (by simp) (by simp) λx e J' hh=>by simpa[H6,hc,wv,Ro]using hh
theorem M9{lo hi:Int}:(FQ lo hi).length<=44:=by
 have h1:=@l8 lo;have h2:=@l8 hi;simp only[FQ,aV,aE,bd];omega
theorem ZI{k:Nat}{x:GG}:(SY k x).length<=400:=by
 have q0:=@l8 k;have q1:=@l8 x.tick;have q2:=@l8 x.To;have q3:=@M9 x.wlo x.whi;have q4:=@M9 x.mlo x.mhi;simp only[SY,Ia,xZ,di,ot,aV,NH,NI,I8,NJ,I5,aE,bd];omega
theorem XX{b:Bk}{er:List Int}(hr:Rp b)(hl:b.cA.length<=1000):∀(m i:Nat) (bs:List UInt8),i+m=b.cA.length->bs.length+m*400<=900000 ->
  WL T [7,8,9,83,84,85] false jH [(7,.j5 J.length 8),(8,.fn 39 [] [.j5 J.length 8]),(9,.fn 42 [] []),(83,.sl J.length 4 b.cA.length 0 b.cA.length 6),(84,iI b.cA.length),(85,iI i)] (O3 J.length b er bs::J)
   (λx e J'=>x=.exit 2/\get e 7=.j5 J.length 8/\J'=O3 J.length b er (bs++Q9 i (b.cA.drop i))::J)
 |0,i,bs,hi,hb=>by
  refine av jH.eq_1 ?_;obtain rfl:i=b.cA.length:=by omega
  simp[Q9]
 |m+1,i,bs,hi,hb=>by
  refine av jH.eq_1 ?_;have h1:i<b.cA.length:=by omega
  obtain⟨x,he⟩:=gE h1;have a1:=aP (f:=GG.enc) (w:=6) (λ_=>rfl) he;have h4:=bO h1;have a2:=bQ (f:=GG.enc) (w:=6) (λ_=>rfl) b.cA;have a3:6<=b.cA.length*6-i*6:=by omega
  obtain⟨n1,n2,n3,n4,n5,n6⟩:=hr.sl x (ai he);have hR1:=λJ=>TB (J:=J) n3 n4
  have hR2:=λJ=>TB (J:=J) n5 n6
  unfold i9 at n1 n2;have hI0:=λJ=>xl (J:=J) (n:=(i:Int)) (by omega)
  have hI1:=λJ=>xl (J:=J) (n:=x.tick) (by omega)
  have hI2:=λJ=>xl (J:=J) (n:=x.To) (by omega)
  rw[bz he,Q9,<- cS];have hml:=ZI (k:=i) (x:=x);have ih:=XX hr hl (er:=er) m (i+1) (bs++SY i x) (by omega) (by simp;omega);have hbs:bs.length<=900000:=by omega
  have hS:=TE (J:=J) (b:=b) (er:=er) (bs:=bs) (ds:=[.str NH,.str (iB i),.str NI,.str (iB x.tick),.str I8,.str (iB x.To),.str NJ,.str (FQ x.wlo x.whi),.str I5,.str (FQ x.mlo x.mhi)]) (xs:=[NH,iB i,NI,iB x.tick,I8,iB x.To,NJ,FQ x.wlo x.whi,I5,FQ x.mlo x.mhi]) (n:=10) rfl rfl (by omega) (by have:=hml;simp only[SY]at this;omega);simp only[SY]at ih;simp only[O3,Oe,Bk.cells,NH,NI,I8,NJ,I5]at hS ih ⊢;simp[h1,a1,a2,a3,h4,hI0,hI1,hI2,hR1,hR2,hS];exact WL.to ih (by simp) (by simp) λx e J' hh=>by simpa[SY,NH,NI,I8,NJ,I5]using hh
theorem Vh{b:Bk}{L:Nat}{G:List Abs.aF}{S:SK}(h1:b.rules.length<=1000000)(h2:b.lL.length<=1000000)(h3:∀e∈b.lL,e.sp.length<=1000000)(hs:eT S L=some G)(hG1:G[1]?=some (.cells b.rules.length (fM b.rules Trem.cc.enc)))(hG2:G[2]?=some (.cells b.lL.length (fM b.lL Trem.Ev.enc)))(hc6:G[6]?=some (.cells 0 (b.cells L))):
  Cl 43 [.ref L 6 0 0] (.int .u8 (eZ b)) S:=by
 refine ar ?_;have hlt:=zT hs;have hne:¬S.length=L:=by omega
 have h:=Pr (J:=[]::S) (lv:=L) (G:=G) (R:=b.rules) (l:=b.lL) (now:=b.az.length) (by simp[eT,hne,hs]) hG1 hG2 (by omega) (by omega) (λe he=>by have:=h3 e he;omega);unfold eZ;by_cases hc:Trem.lA b.rules b.lL b.az.length=0
 .rw[if_pos hc]at h;simp[hne,hs,hc6,Bk.cells,h,hc]
 .rw[if_neg hc]at h;simp[hne,hs,hc6,Bk.cells,h,hc]
theorem mpB{S:SK}{t e:Nat}:DT S (.Ml t e) []=(fR S (.cells 2 [iI (t:Nat),iI (e:Nat),.str []])).map λx=>(.j5 x.1 x.2.1,x.2.2):=rfl
theorem W3{lines:List (List UInt8)}(hl:LI lines):Cl 17 [lF lines cf] (.cQ [.str (Dr (ic lines).1),iI 0]) J:=by
 refine ar ?_;have hC:=λS=>wz (J:=S) (l:=lines) (by have:=hl.1;omega)
 have hok:okB lines=true:=Dm.2 hl;simp only[hok,if_true]at hC;have hRun:=NZ (J:=J) (lines:=lines) hl;have hK:=LS (l:=lines) (k:=0) Kv.zero hl.2;have hP:=Rl (l:=lines) (k:=0) Rp.zero Kv.zero hl.2 (by have:=hl.1;omega);rw[show(lC iD ((0:Nat):Int) lines).1=(ic lines).1 from rfl]at hP;rw[show(lC iD 0 lines).1=(ic lines).1 from rfl]at hK;generalize (ic lines).1=b at hRun hK hP ⊢;generalize (ic lines).2=er at hRun;have hpl:=(ju hK.pl).1;have hsl:b.cA.length<=100:=by have:=hK.cA;have:=hl.1;omega
 have hwl:b.aR.aw.length<=8:=by
  cases hr:b.ready with
  |true=>exact(Bv.of (hK.ready hr)).aw
  |false=>rw[hK.aw hr];simp
 have hcb:0<=eZ b/\eZ b<=255:=by have:=@Ff b;omega
 have hI0:=λJ=>xl (J:=J) (n:=(b.az.length:Int)) (by omega)
 have hI1:=λJ=>xl (J:=J) (n:=eZ b) (by omega)
 have hI2:=λJ=>xl (J:=J) (n:=(b.aR.aw.length:Int)) (by omega)
 have hcol:=Vh (b:=b) (L:=J.length) (G:=O3 J.length b er []) (S:=O3 J.length b er []::J) (by have:=hK.rules;omega) (by have:=hK.lL;omega) (λe he=>by have:=hK.JU e he;simp only[Trem.Ev.ok,ah,Trem.aQ]at this;omega) (by simp) rfl rfl rfl;have hhl:(OX b).length<=1000:=by
  have q0:=@l8 b.az.length;have q1:=@l8 (eZ b);have q2:=@l8 b.aR.aw.length;simp only[OX,Ia,xZ,di,ot,aV,I7,Fx,I9,aE,bd];omega
 have hS:=TE (J:=J) (b:=b) (er:=er) (bs:=[]) (ds:=[.str I7,.str (iB b.az.length),.str Fx,.str (iB (eZ b)),.str I9,.str (iB b.aR.aw.length)]) (xs:=[I7,iB b.az.length,Fx,iB (eZ b),I9,iB b.aR.aw.length]) (n:=6) rfl rfl (by omega) (by have:=hhl;simp only[OX]at this;simp;omega);have hM:=XW (J:=J) (er:=er) hP hK.ml b.aj.length 0 (OX b) (by omega) (by have:=hK.ml;omega);have hcw:=cm (n:=eZ b);have n1:=fS (f:=pE) b.az;have n2:=fS (f:=bA.enc) b.aR.aw;simp only[O3,Oe,Bk.bD,Bk.cells,I7,Fx,I9]at hS hM hRun hcol;simp[hC,hRun,mpB,hI0,hI1,hI2,hcol,hcw,n1,n2,hS];refine WL.to hM (by simp) (by simp[OX,I7,Fx,I9]) ?_;rintro x e J' ⟨rfl,g5,g7,g8,g9,rfl⟩;have hML:(OX b++fM b.aj H6).length<=250000:=by
  have h1:=NC (l:=b.aj) λe he=>(hP.nm e he).1
  have h2:=hK.ml;simp only[aV];omega
 have hT:=XX (J:=J) (er:=er) hP (by omega) b.cA.length 0 (OX b++fM b.aj H6) (by omega) (by omega);simp only[O3,Oe,Bk.cells]at hT;simp[g5,g7,g8,g9];refine WL.to hT (by simp) (by simp) ?_;rintro x e J' ⟨rfl,g7,rfl⟩;have hne:Dr b≠[]:=by
  intro h;have:=congrArg List.length h;simp[Dr,OX,Ia]at this
 have hB:Cl 45 [.j5 J.length 8] (.str (Dr b)) (O3 J.length b er (Dr b)::J):=zG A9 AZ (by simp[ER,O3,Oe,hne]);simp only[Dr,O3,Oe,Bk.cells,cS]at hB ⊢;rw[aC];simp[g7,hB]
theorem ae3{a:List Abs.aF}{n:Nat}{x:Abs.aF}(h:a.length=n):(a++[x])[n]?=some x:=by subst h;simp
theorem abx{a:List Abs.aF}{n:Nat}{x y:Abs.aF}(h:a.length=n):(a++[x]).set n y=a++[y]:=by subst h;simp
theorem QC{A:List Abs.aF}{b:Bk}{er:List Int}{n:Nat}(hn:er.length=n):∃s,cH J.length 16 (.cQ [.ref (J.length+1) 6 0 0,.sl (J.length+1) 7 n 0 n 1]) (b.bD (J.length+1) er::A::J)=(.cQ [.undef,.bZ n (fM er aO)],s::A::J):=by
 subst hn;rw[pG (by rfl) (by omega)];have h1:∀S,cH J.length 15 (.ref (J.length+1) 6 0 0) S=(.undef,S):=λS=>by unfold cH;simp[D.clean]
 have hk:=gG (J:=A::J) (n:=15) (f:=aO) (w:=1) (l:=er) (j:=7) (v:=er.length) (bs:=b.bD (J.length+1) er) (by decide) (λ_=>rfl) (λx=>by simp[aO,D.clean]) (by simp) rfl;simp only[aE,Nat.add_sub_cancel]at hk;simp only[ff,gj,Nat.reduceSub,h1,hk];exact⟨_,rfl⟩
theorem X3{lines:List (List UInt8)}{A:List Abs.aF}{cs:List D}{j v:Nat}(hA:A[j]?=some (.cells v cs))(hcl:lines.length<=cs.length)(hcs:∀i s,lines[i]?=some s->∃r,cs.drop i=.str s::r)(hl:okL lines):∀(m i:Nat) (b:Bk) (er:List Int),i+m=lines.length->er.length=i->Kv i b ->
  WL T [4,5,12,13,14] false gg [(4,.ref (J.length+1) 6 0 0),(5,.sl (J.length+1) 7 i 0 i 1),(12,.sl J.length j v 0 lines.length 1),(13,iI lines.length),(14,iI i)] (b.bD (J.length+1) er::A::J)
   (λx e J'=>x=.exit 0/\get e 4=.ref (J.length+1) 6 0 0/\get e 5=.sl (J.length+1) 7 lines.length 0 lines.length 1/\J'=(lC b i (lines.drop i)).1.bD (J.length+1) (er++(lC b i (lines.drop i)).2)::A::J)
 |0,i,b,er,hi,he,hK=>by
  refine av gg.eq_1 ?_;obtain rfl:i=lines.length:=by omega
  have h2:lines.drop lines.length=[]:=an (by omega);simp[h2,lC]
 |m+1,i,b,er,hi,he,hK=>by
  refine av gg.eq_1 ?_;have h1:i<lines.length:=by omega
  obtain⟨s,hs⟩:=gE h1;obtain⟨r,hdr⟩:=hcs i s hs;have h4:=bO h1 (by have:=hl.1;omega);have hsl:=hl.2 s (ai hs);have hn:=hl.1;have hC:=Xe (J:=A::J) (b:=b) (er:=er) (s:=s) (k:=i) hK (by omega) hsl;have hK':=hK.line hsl (k:=i);rw[bz hs];simp only[lC];generalize nh b i s=r at hC hK' ⊢;obtain⟨b',e⟩:=r;have ih:=X3 hA hcl hcs hl m (i+1) b' (er++[e]) (by omega) (by simp[he]) hK';have hel:=qY er;have het:(fM er aO).take i=fM er aO:=af (by omega);have hr:(i+1)*8<=room:=by unfold room;omega
  simp only[Bk.bD,Bk.cells,he,aE]at hC;simp[h1,hA,hdr,h4,hC,Bk.bD,Bk.cells,hr,hel,het,he];refine WL.to ih (by simp) (by simp[Bk.bD,Bk.cells,he]) λx e' J' hh=>?_
  have e1:((i+1:Nat):Int)=(i:Int)+1:=by omega
  rw[e1]at hh;simpa[Bk.bD,Bk.cells]using hh
theorem aex{lines:List (List UInt8)}{A:List Abs.aF}{cs:List D}{j v:Nat}(hA:A[j]?=some (.cells v cs))(hcl:lines.length<=cs.length)(hcs:∀i s,lines[i]?=some s->∃r,cs.drop i=.str s::r)(hl:okL lines):Cl 32 [.sl J.length j v 0 lines.length 1] (.cQ [.undef,.bZ lines.length (fM (ic lines).2 aO)]) (A::J):=by
 refine ar ?_;have hL:=X3 (J:=J) hA hcl hcs hl lines.length 0 iD [] (by omega) rfl Kv.zero;rw[aC]at hL;simp;refine WL.to hL (by simp) (by simp[Bk.bD,Bk.cells,iD,nl]) ?_;rintro x e J' ⟨rfl,g4,g5,rfl⟩;simp[g4,g5,ic];exact QC (A:=A) (by rw[rF])
theorem aew{lines:List (List UInt8)}(hl:okL lines)(hJ:J≠[]):Cl 32 [lF lines cf] (.cQ [.undef,.bZ lines.length (fM (ic lines).2 aO)]) J:=by
 obtain⟨A,J,rfl⟩:∃A s,J=A::s:=by cases J with | nil=>exact absurd rfl hJ | cons A s=>exact⟨A,s,rfl⟩
 refine ar ?_;have hL:=Sf (J:=A::J) hl lines.length 0 iD [] (by omega) rfl Kv.zero;rw[aC]at hL;simp only[aE]at hL;simp;refine WL.to hL (by simp) (by simp[Bk.bD,Bk.cells,iD,nl]) ?_;rintro x e J' ⟨rfl,g4,g5,rfl⟩;simp[g4,g5,ic];exact QC (A:=A) (by rw[rF])
def FH(w wo:List Int):Nat->Nat->List Int
 |_,0=>[]
 |i,m+1=>(if w[i]?=wo[i-1]? then []else [(i:Int)])++FH w wo (i+1) m
theorem XO{lines:List (List UInt8)}{w wo:List Int}{A:List Abs.aF}{n:Nat}(hn:lines.length=n)(hw:w.length=n)(hwo:wo.length+1=n)(hl:n<=100){q:Nat}(hq:A.length=q):∀(m i:Nat) (acc:List Int),i+m=n->1<=i->acc.length+m<=100 ->
  WL T [0,8,10,11,12] false iP [(0,.bZ n (fM lines cf)),(8,.bZ n (fM w aO)),(10,.bZ (n-1) (fM wo aO)),(11,.sl J.length q acc.length 0 acc.length 1),(12,iI i)] ((A++[.cells acc.length (fM acc aO)])::J)
   (λx e J'=>x=.exit 0/\get e 11=.sl J.length q (acc++FH w wo i m).length 0 (acc++FH w wo i m).length 1/\J'=(A++[.cells (acc++FH w wo i m).length (fM (acc++FH w wo i m) aO)])::J)
 |0,i,acc,hi,h0,ha=>by
  refine av iP.eq_1 ?_;obtain rfl:i=n:=by omega
  simp[FH]
 |m+1,i,acc,hi,h0,ha=>by
  refine av iP.eq_1 ?_;have⟨h1,h1'⟩:i<n/\i-1<n-1:=by omega
  obtain⟨x,hx⟩:∃s,w[i]?=some s:=gE (by omega);obtain⟨y,hy⟩:∃s,wo[i-1]?=some s:=⟨_,aK (by omega)⟩;have a1:=aP (f:=aO) (w:=1) (λ_=>rfl) hx;have a2:=aP (f:=aO) (w:=1) (λ_=>rfl) hy;simp only[aO,bJ]at a1 a2;have h4:=bO h1;have w1:IntKind.i64.wrap ((i:Int)-1)=((i-1:Nat):Int):=(cm).trans (by omega);have fl:=qY acc;have tk:(fM acc aO).take acc.length=fM acc aO:=af (by omega);have hr:(acc.length+1)*8<=room:=by unfold room;omega
  have b1:=λx=>ae3 (x:=x) hq
  have b2:=λx y=>abx (x:=x) (y:=y) hq
  by_cases hc:x=y
  .subst hc;have hd:FH w wo i (m+1)=FH w wo (i+1) m:=by rw[FH,hx,hy];simp
   rw[hd];simp[h1,h1',a1,a2,h4,w1];exact WL.to (XO hn hw hwo hl hq m (i+1) acc (by omega) (by omega) (by omega)) (by simp) rfl λx e J' hh=>by simpa using hh
  .have hd:FH w wo i (m+1)=(i:Int)::FH w wo (i+1) m:=by rw[FH,hx,hy];simp[hc]
   rw[hd,show acc++(i:Int)::FH w wo (i+1) m=(acc++[(i:Int)])++FH w wo (i+1) m by simp];simp[h1,h1',a1,a2,h4,w1,hc,b1,b2,fl,tk,hr];exact WL.to (XO hn hw hwo hl hq m (i+1) (acc++[(i:Int)]) (by omega) (by omega) (by simp;omega)) (by simp) (by simp) λx e J' hh=>by simpa using hh
def Hf(l:List (List UInt8))(k:Nat):List (List UInt8):=l.take k++l.drop (k+1)
def Ke(l:List (List UInt8))(k:Nat):List Int:=FH (ic l).2 (ic (Hf l k)).2 (k+1) (l.length-(k+1))
theorem RD(l:List (List UInt8)):fM l cf=l.map .str:=by
 induction l with
 |nil=>rfl
 |cons a l ih=>rw[di,ih];rfl
theorem Tk(l:List (List UInt8)):xA (l.map .str)=some l:=by
 induction l with
 |nil=>rfl
 |cons a l ih=>simp[xA,ih]
theorem W8{l:List (List UInt8)}(hne:l≠[])(hl:l.length<=1000000):dt T (.call true 38 [lF l cf] ([]::J)) =
  some (.val (.sl J.length 0 1 0 l.length 1) ([.cells 1 (fM l cf)]::J)):=by
 refine sF rfl rfl rfl ?_;have h7:l.length*16<=room:=by unfold room;omega
 have h8:(fM l cf).length=l.length:=by rw[RD];simp
 simp[hne,h7,h8]
theorem U5{lines:List (List UInt8)}{k:Nat}(hl:LI lines)(hk:k<lines.length)(hJ:J≠[]):Cl 14 [lF lines cf,iI k] (.cQ [lF (Ke lines k) aO,iI 0]) J:=by
 refine ar ?_;have hC:=λS=>wz (J:=S) (l:=lines) (by have:=hl.1;omega)
 have hok:okB lines=true:=Dm.2 hl;simp only[hok,if_true]at hC;have hlen:=hl.1;have hRun:=λS hS=>aew (J:=S) (lines:=lines) hl hS
 have hne:lines≠[]:=λh=>by rw[h]at hk;simp at hk
 have hCl:=W8 (J:=J) hne (by omega);have hcl:(Hf lines k).length=lines.length-1:=by simp[Hf];omega
 have hck:LI (Hf lines k):=⟨by omega,λs hs=>by
  rcases aU.1 hs with h | h
  .exact hl.2 s (dC h)
  .exact hl.2 s (dB h)⟩
 have hD:dt T (.call false 37 [.sl J.length 0 1 0 lines.length 1,iI k,iI ((k:Int)+1)] ([.cells 1 (fM lines cf)]::J)) =
   some (.val (.sl J.length 0 1 0 (lines.length-1) 1) ([.cells 1 ((Hf lines k).map .str++[.str []])]::J)):=zG CI CF (by
  have⟨q1,q2,q3,q4,q5,q6⟩:¬lines.length=0/\lines.length<=1000000/\(k:Int)+1<=lines.length/\((k:Int)+1).toNat-k=1/\((k:Int)+1).toNat=k+1/\(k:Int)<=(k:Int)+1:=by omega
  have e1:(lines.map D.str).take lines.length=lines.map D.str:=af (by simp);have e2:(lines.map D.str).drop lines.length=[]:=an (by simp);have e3:=Tk lines;simp[ER,RD,q1,q2,q3,q5,q6,e1,e2,e3,Be,Hf,-List.map_take,-List.map_drop])
 have hS:=λA hA=>aex (J:=J) (lines:=Hf lines k) (A:=A) (cs:=(Hf lines k).map .str++[.str []]) (j:=0) (v:=1) hA (by simp) (λi s hi=>by
  have h1:=(aA.1 hi).1;rw[List.drop_append_of_le_length (by simp;omega),<- List.map_drop,bz hi];exact⟨_,rfl⟩) hck
 have hS2:=hS [.cells 1 ((Hf lines k).map .str++[.str []])] rfl;rw[hcl]at hS2;have hin:bF (k:Int) 0 ((lines.length:Int)-1)=true:=aQ.2 ⟨by omega,by omega⟩;have w1:=cm (n:=(lines.length:Int)-1);have w2:=cm (n:=(k:Int)+1);have hw:=@rF lines iD 0;have hwo:=@rF (Hf lines k) iD 0;rw[hcl]at hwo;have hL:=XO (J:=J) (lines:=lines) (w:=(ic lines).2) (wo:=(ic (Hf lines k)).2) (A:=[.cells 1 ((Hf lines k).map .str++[.str []])]) rfl hw (by show(lC iD 0 (Hf lines k)).2.length+1=_;omega) (by omega) (q:=1) rfl (lines.length-(k+1)) (k+1) [] (by omega) (by omega) (by simp;omega);simp only[List.nil_append]at hL;rw[show FH (ic lines).2 (ic (Hf lines k)).2 (k+1) (lines.length-(k+1))=Ke lines k from rfl]at hL;generalize Ke lines k=q at hL ⊢;simp[hC,eL,hRun,hCl,hD,hS2,hin,w1,w2];refine WL.to hL (by simp) (by simp) ?_;rintro x e J' ⟨rfl,g11,rfl⟩;simp[g11];exact⟨_,QB (gG (n:=15) (f:=aO) (w:=1) (l:=q) (by decide) (λ_=>rfl) (λ_=>by simp[aO,D.clean]) hJ (by simp))⟩
end
section
open Go Go.Abs Go.Rock Go.Book
def Vy(b b':Bk):Prop:=∀(i:Nat) (e:dU),b.aj[i]?=some e->∃e',b'.aj[i]?=some e'/\e'.m=e.m/\(e.left=false->e'=e)
theorem Vy.refl(b:Bk):Vy b b:=λi e h=>⟨e,h,rfl,λ_=>rfl⟩
theorem Vy.trans{a b c:Bk}(h1:Vy a b)(h2:Vy b c):Vy a c:=by
 intro i e h;obtain⟨e1,k1,k2,k3⟩:=h1 i e h;obtain⟨e2,j1,j2,j3⟩:=h2 i e1 k1;refine⟨e2,j1,j2.trans k2,λhl=>?_⟩;obtain rfl:=k3 hl;exact j3 hl
end
section
open Go Go.Abs Go.Rock Go.Book
variable {J:SK}
theorem Lv{α:Type}{p:α->Bool}:∀(l:List α),(idxOf p l = -1/\∀x∈l,p x=false)\/∃(k:Nat) (x:α),idxOf p l=k/\l[k]?=some x/\p x=true
 |[] => .inl ⟨rfl,by simp⟩
 |a::l=>by
  cases ha:p a with
  |true=>exact .inr ⟨0,a,by simp[idxOf,ha],rfl,ha⟩
  |false =>
   rcases Lv (p:=p) l with⟨h1,h2⟩ | ⟨k,x,h1,h2,h3⟩
   .refine .inl ⟨by simp[idxOf,ha,h1],λx hx=>?_⟩;rcases bx.1 hx with rfl | hx
    .exact ha
    .exact h2 x hx
   .refine .inr ⟨k+1,x,?_,by simpa using h2,h3⟩;have:¬(k:Int)<0:=by omega
    simp[idxOf,ha,h1,this]
def RL:DW:=⟨0,0,0,0⟩
def YL(b:Bk)(nm:List UInt8):D :=
 if idxOf (λe=>e.m.name == nm) b.aj<0 then .cQ [.agg RL.enc,iI 5]
 else match b.aj[(idxOf (λe=>e.m.name == nm) b.aj).toNat]?,b.eg[(idxOf (λe=>e.m.name == nm) b.aj).toNat]? with
  |some e,some v=>if e.left then .cQ [.agg RL.enc,.int .i64 7]else .cQ [.agg v.enc,.int .i64 0]
  |_,_ => .undef
theorem aau{e:dU}{nm:List UInt8}:Cl 34 [.agg e.enc,.aZ [.str nm]] (.bool (e.m.name == nm)) J:=by
 refine ar ?_;simp[ia]
theorem Vl{b:Bk}{er:List Int}{nm:List UInt8}{S:SK}(hl:b.aj.length<=1000000)(hs:eT S J.length=some (b.bD J.length er)):
  Cl 33 [.sl J.length 0 b.aj.length 0 b.aj.length 4,.fn 34 [] [.aZ [.str nm]]] (iI (idxOf (λe=>e.m.name == nm) b.aj)) S :=
 Lx (enc:=dU.enc) (w:=4) (λ_=>rfl) (F:=b.bD J.length er) (bi:=0) (v:=b.aj.length) (l:=b.aj) rfl (by simp[Bk.bD]) (by omega)
  ⟨rfl,rfl,λe _ J=>by rw[pS];have h:=aau (J:=J) (e:=e) (nm:=nm);have h':dt T (.call false 34 ([]++[.agg e.enc]++[.aZ [.str nm]]) J)=_:=h;rw[h'];rfl⟩ hs
theorem ad7{lines:List (List UInt8)}{nm:List UInt8}(hl:LI lines)(hJ:J≠[]):Cl 10 [lF lines cf,.str nm] (YL (ic lines).1 nm) J:=by
 refine ar ?_;have hC:=λS=>wz (J:=S) (l:=lines) (by have:=hl.1;omega)
 have hok:okB lines=true:=Dm.2 hl;simp only[hok,if_true]at hC;have hR:=NZ (J:=J) (lines:=lines) hl;have hK:=LS (l:=lines) (k:=0) Kv.zero hl.2;rw[show(lC iD 0 lines).1=(ic lines).1 from rfl]at hK;have hml:=hK.ml;have hwl:=hK.wl;generalize ic lines=r at hR hml hwl ⊢;obtain⟨b,er⟩:=r;simp only at hR hml hwl ⊢;have hI:=Vl (J:=J) (b:=b) (er:=er) (nm:=nm) (S:=b.bD J.length er::J) (by omega) (by simp[eT]);simp only[Bk.bD,Bk.cells]at hR hI;unfold YL;rcases Lv (p:=λe:dU=>e.m.name == nm) b.aj with⟨h1,_⟩ | ⟨k,e,h1,h2,h3⟩
 .rw[h1]at hI ⊢;simp[hC,hR,hI,RL]
 .rw[h1]at hI ⊢;have hk:=(aA.1 h2).1;obtain⟨v,hv⟩:∃v,b.eg[k]?=some v:=gE (by omega);have a1:=aP (f:=dU.enc) (w:=4) (λ_=>rfl) h2;have a2:=aP (f:=DW.enc) (w:=4) (λ_=>rfl) hv;have b1:=bQ (f:=dU.enc) (w:=4) (λ_=>rfl) b.aj;have b2:=bQ (f:=DW.enc) (w:=4) (λ_=>rfl) b.eg;have⟨c1,c2⟩:4<=(fM b.aj dU.enc).length-k*4/\4<=(fM b.eg DW.enc).length-k*4:=by omega
  have d1:=re (f:=dU.enc) (w:=4) (λ_=>rfl) h2;have⟨n0,n1,n2,hkw⟩:¬(k:Int)<0/\(k:Int)<b.aj.length/\(k:Int)<b.eg.length/\k<b.eg.length:=by omega
  simp only[dU.enc,DW.enc]at a1 a2 d1;have d3:(fM b.aj dU.enc).drop (k*4+2)=.bool e.left::iI e.Of::(fM b.aj dU.enc).drop (k*4+4):=by
   have:=congrArg (List.drop 2) d1;simpa[dU.enc,dn]using this
  rw[if_neg n0,Int.toNat_natCast,h2,hv];cases hle:e.left
  .simp[hC,hR,hI,RL,a2,d3,n0,n1,n2,hle,c2]
  .simp[hC,hR,hI,RL,d3,n0,n1,hle]
def K5:List (List UInt8):=[[102,105,101,108,100,32,50,32,49,32,49,32,52],[116,97,98,108,101,32,49,48,48,32,49,48,49,32,52,49,57,32,50,54,55,54,32,49,53,48,32,49,53,48,32,52,55,54,32,54,51,50,32,50,55,52,54,32,51,48,48,32,50,48,48,32,49,53,53,53,32,56,53,50,32,50,55,57,51,32,54,48,48],[98,101,100,32,49,48,48,48,32,48,32,56,48,48],[119,101,108,108,32,48,32,53,48,48,32,53],[109,111,100,101,108,32,97,32,56,48,48,48,32,56,48,48,48,32,53,48,48,32,52,48,48,32,57,48,48,32,52,48,48,32,48,32,49,48],[109,111,100,101,108,32,98,32,56,48,48,48,32,56,48,48,48,32,53,48,48,32,52,48,48,32,57,48,48,32,53,48,48,32,48,32,49,48],[108,111,103,32,116,49,32,50,32,51,57,48,32,52,49,48,32,49,32,49],[114,117,108,101,32,48,32,48,32,48,32,57,32,57,32,57,32,50,48,32,53,32,49,32,49],[113,117,97,107,101,32,49,32,49,32,49,32,50,53],[116,105,99,107,32,45,49,48,48],[116,105,99,107,32,53,48],[117,110,105,116,32,48,32,49,48,48,32,52,48,48],[115,101,108,108,32,48,32,48,32,48,32,51]]
def ais:List UInt8:=[116,105,99,107,115,32,50,32,99,111,108,111,117,114,32,49,32,119,101,108,108,115,32,49,10,109,111,100,101,108,32,97,32,108,101,102,116,10,109,111,100,101,108,32,98,32,115,116,114,117,99,107,32,54,10,115,97,108,101,32,48,32,116,105,99,107,32,50,32,119,101,108,108,32,48,32,119,111,114,107,32,52,48,48,48,46,46,52,48,48,48,32,109,111,110,101,121,32,49,50,48,48,48,46,46,49,50,48,48,48,10]
theorem abD:Dr (ic K5).1=ais:=by kernel_rfl
theorem abC:Ke K5 3=[9,10,12]:=by kernel_rfl
theorem YC:YL (ic K5).1 [98]=.cQ [.agg [iI 6,iI 500,iI 390,iI 410],iI 0]:=by kernel_rfl
theorem Sn:LI K5:=⟨by decide,by decide⟩
theorem ahN:Cl 29 [] (.bZ 13 (fM K5 cf)) J:=by
 refine ar ?_;simp[K5,cf]
theorem Pz(J:SK):Cl 9 [] (.bool true) J:=by
 refine pB Mk vV.eq_1 rfl ?_;have hD:=λJ=>ahN (J:=J)
 try simp only[Cl]at hD
 have hR:=λJ=>W3 (J:=J) Sn
 try simp only[lF,Cl]at hR
 have hF:=λS hS=>ad7 (J:=S) (lines:=K5) (nm:=[98]) Sn hS
 try simp only[lF,Cl]at hF
 have hP:=λS hS=>U5 (J:=S) (lines:=K5) (k:=3) Sn (by decide) hS
 try simp only[lF,Cl]at hP
 have hW:∀S,S≠[]->Cl 30 [.bZ 1 [.str [97]]] (.cQ [.bZ 7 [.int .u8 0,.int .u8 1,.int .u8 255,.int .u8 254,.int .u8 97,.int .u8 0,.int .u8 128],iI 0]) S:=λS hS=>aaE (J:=S) (l:=[[97]]) (by decide) hS
 try simp only[Cl]at hW
 rw[abD]at hR;rw[YC]at hF;rw[abC]at hP;have hI:∀J,Cl 15 [.bZ 3 [iI 9,iI 10,iI 12],.bZ 3 [iI 9,iI 10,iI 12]] (.bool true) J:=λJ=>R0 (J:=J) (a:=[9,10,12]) (by decide)
 try simp only[Cl]at hI
 have hP:∀S,S≠[]->Cl 14 [.bZ 13 (fM K5 cf),iI 3] (.cQ [.bZ 3 [iI 9,iI 10,iI 12],iI 0]) S:=hP
 try simp only[Cl]at hP
 rw[show K5.length=13 from rfl]at hR hF;generalize fM K5 cf=dl at hD hR hF hP;have hB:D7 [.int .u8 0,.int .u8 1,.int .u8 255,.int .u8 254,.int .u8 97,.int .u8 0,.int .u8 128]=some [0,1,255,254,97,0,128]:=rfl;simp[ia,WB,hD,hR,hF,hP,hW,hI,hB,ais]
end
section
open Go Go.Abs Go.Book
theorem acA{α:Type}{T:Ty}{w:Nat}{f:α->List D}{Q:α->Prop}(h:∀ds,T.has ds->∃a,ds=f a/\Q a){d:D}(hd:(Ty.slice w T).has [d]):
  ∃l:List α,d=.bZ l.length (fM l f)/\l.length<=maxLen/\∀a∈l,Q a:=by
 simp only[Ty.has,j6,and_true]at hd;obtain⟨xs,rfl,hl,hx⟩:=hd;have key:∀xs:List (List D),(∀x∈xs,x.length=w/\T.has x)->∃l:List α,xs.flatten=fM l f/\l.length=xs.length/\∀a∈l,Q a:=by
  intro xs;induction xs with
  |nil=>intro _;exact⟨[],rfl,rfl,by simp⟩
  |cons x xs ih =>
   intro hx;obtain⟨l,h1,h2,h3⟩:=ih λy hy=>hx y (by simp[hy])
   obtain⟨a,rfl,ha⟩:=h x (hx x (by simp)).2;exact⟨a::l,by simp[h1],by simp[h2],λb hb=>by
    rcases bx.1 hb with rfl | hb
    .exact ha
    .exact h3 b hb⟩
 obtain⟨l,h1,h2,h3⟩:=key xs hx;exact⟨l,by rw[h1,h2],by omega,h3⟩
theorem acN{ds:List D}(h:Ty.str.has ds):∃s:List UInt8,ds=cf s/\s.length<=maxLen:=h
end
end Go.Proofs.YtpapbbojmclkgaaGreatDoor
