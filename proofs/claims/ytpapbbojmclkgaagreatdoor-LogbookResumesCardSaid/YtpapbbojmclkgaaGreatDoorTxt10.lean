import Derived.Test.YtpapbbojmclkgaaGreatDoorTxt9
import Derived.ProofKit
import Derived.Test.YtpapbbojmclkgaaGreatDoorBase14
set_option linter.all false
set_option maxRecDepth 100000
namespace Go.Proofs.YtpapbbojmclkgaaGreatDoor
section
open Go Go.aw Go.aD Go.cY
variable {J:SK}
def Lc:List (List UInt8):=[[102,105,101,108,100,32,50,32,49,32,49,32,52],[116,97,98,108,101,32,49,48,48,32,49,48,49,32,52,49,57,32,50,54,55,54,32,49,53,48,32,49,53,48,32,52,55,54,32,54,51,50,32,50,55,52,54,32,51,48,48,32,50,48,48,32,49,53,53,53,32,56,53,50,32,50,55,57,51,32,54,48,48],[98,101,100,32,49,48,48,48,32,48,32,56,48,48],[119,101,108,108,32,48,32,53,48,48,32,53],[109,111,100,101,108,32,97,32,56,48,48,48,32,56,48,48,48,32,53,48,48,32,52,48,48,32,57,48,48,32,52,48,48,32,48,32,49,48],[109,111,100,101,108,32,98,32,56,48,48,48,32,56,48,48,48,32,53,48,48,32,52,48,48,32,57,48,48,32,53,48,48,32,48,32,49,48],[108,111,103,32,116,49,32,50,32,51,57,48,32,52,49,48,32,49,32,49],[114,117,108,101,32,48,32,48,32,48,32,57,32,57,32,57,32,50,48,32,53,32,49,32,49],[113,117,97,107,101,32,49,32,49,32,49,32,50,53],[116,105,99,107,32,45,49,48,48],[116,105,99,107,32,53,48],[117,110,105,116,32,48,32,49,48,48,32,52,48,48],[115,101,108,108,32,48,32,48,32,48,32,51]]
def ain:List UInt8:=[116,105,99,107,115,32,50,32,99,111,108,111,117,114,32,49,32,119,101,108,108,115,32,49,10,109,111,100,101,108,32,97,32,108,101,102,116,10,109,111,100,101,108,32,98,32,115,116,114,117,99,107,32,54,10,115,97,108,101,32,48,32,116,105,99,107,32,50,32,119,101,108,108,32,48,32,119,111,114,107,32,52,48,48,48,46,46,52,48,48,48,32,109,111,110,101,121,32,49,50,48,48,48,46,46,49,50,48,48,48,10]
theorem abM:Dw (fE Lc).1=ain:=by kernel_rfl
theorem abL:Ki Lc 3=[9,10,12]:=by kernel_rfl
theorem YJ:YT (fE Lc).1 [98]=.cS [.agg [iI 6,iI 500,iI 390,iI 410],iI 0]:=by kernel_rfl
theorem SC:GQ Lc:=⟨by decide,by decide⟩
theorem ahL:Cl 29 [] (.bZ 13 (fM Lc bD)) J:=by
 refine an ?_;simp[Lc,bD]
theorem Xk(J:SK):Cl 9 [] (.bool true) J:=by
 refine mX Mn vQ.eq_1 rfl ?_;have hD:=λJ=>ahL (J:=J)
 try simp only[Cl]at hD
 have hR:=λJ=>Xi (J:=J) SC
 try simp only[lF,Cl]at hR
 have hF:=λS hS=>aea (J:=S) (lines:=Lc) (nm:=[98]) SC hS
 try simp only[lF,Cl]at hF
 have hP:=λS hS=>Vk (J:=S) (lines:=Lc) (k:=3) SC (by decide) hS
 try simp only[lF,Cl]at hP
 have hW:∀S,S≠[]->Cl 30 [.bZ 1 [.str [97]]] (.cS [.bZ 7 [.int .u8 0,.int .u8 1,.int .u8 255,.int .u8 254,.int .u8 97,.int .u8 0,.int .u8 128],iI 0]) S:=λS hS=>aaH (J:=S) (l:=[[97]]) (by decide) hS
 try simp only[Cl]at hW
 rw[abM]at hR;rw[YJ]at hF;rw[abL]at hP;have hI:∀J,Cl 15 [.bZ 3 [iI 9,iI 10,iI 12],.bZ 3 [iI 9,iI 10,iI 12]] (.bool true) J:=λJ=>aep (J:=J) (a:=[9,10,12]) (by decide)
 try simp only[Cl]at hI
 have hP:∀S,S≠[]->Cl 14 [.bZ 13 (fM Lc bD),iI 3] (.cS [.bZ 3 [iI 9,iI 10,iI 12],iI 0]) S:=hP
 try simp only[Cl]at hP
 rw[show Lc.length=13 from rfl]at hR hF;generalize fM Lc bD=dl at hD hR hF hP;have hB:yN [.int .u8 0,.int .u8 1,.int .u8 255,.int .u8 254,.int .u8 97,.int .u8 0,.int .u8 128]=some [0,1,255,254,97,0,128]:=rfl;simp[fO,Pv,hD,hR,hF,hP,hW,hI,hB,ain]
end
section
open Go Go.aw Go.cY
theorem U5{α:Type}{T:Ty}{w:Nat}{f:α->List D}{Q:α->Prop}(h:∀ds,T.has ds->∃a,ds=f a/\Q a){d:D}(hd:(Ty.slice w T).has [d]):
  ∃l:List α,d=.bZ l.length (fM l f)/\l.length<=maxLen/\∀a∈l,Q a:=by
 simp only[Ty.has,fN,and_true]at hd;obtain⟨xs,rfl,hl,hx⟩:=hd;have key:∀xs:List (List D),(∀x∈xs,x.length=w/\T.has x)->∃l:List α,xs.flatten=fM l f/\l.length=xs.length/\∀a∈l,Q a:=by
  intro xs;induction xs with
  |nil=>intro _;exact⟨[],rfl,rfl,by simp⟩
  |cons x xs ih =>
   intro hx;obtain⟨l,h1,h2,h3⟩:=ih λy hy=>hx y (by simp[hy])
   obtain⟨a,rfl,ha⟩:=h x (hx x (by simp)).2;exact⟨a::l,by simp[h1],by simp[h2],λb hb=>by
    rcases bz.1 hb with rfl | hb
    .exact ha
    .exact h3 b hb⟩
 obtain⟨l,h1,h2,h3⟩:=key xs hx;exact⟨l,by rw[h1,h2],by omega,h3⟩
theorem acV{ds:List D}(h:Ty.str.has ds):∃s:List UInt8,ds=bD s/\s.length<=maxLen:=h
end
section
open Go Go.aw Go.aD Go.cY
variable {J:SK}
theorem aa9{b:List UInt8}(hb:b.length<=1000000):
  di T (.call true 24 [.str b] ([]::J))=some (.val (.cS [.sl J.length 0 (cI 100 b).length 0 (cI 100 b).length 1,iI ((cU (cI 100 b)).length:Nat)]) ([.cells (cI 100 b).length (fM (cI 100 b) bD)]::J)):=by
 refine mh rfl rfl rfl ?_;have hL:=abt (J:=J) hb b.length 0 [] (by simp) (by omega) (by simp);simp;refine WL.ts hL ?_;rintro x e J' ⟨more,hm,rfl,g4,g5,rfl⟩;simp only[az,bd,Nat.sub_zero,List.nil_append,cr]at g4 g5 hm;subst hm;simp[g4,g5]
theorem T9{lines:List (List UInt8)}{A:List aw.aF}{L:Nat}(hL:L<J.length)(hA:eK J L=some A)(hA0:A[0]?=some (.cells lines.length (fM lines bD)))(hl:ZB lines):∀(m i:Nat) (b:Bk) (er:List Int),i+m=lines.length->er.length=i->Kr i b ->
  WL T [0,2,4,5,6] false zc [(0,.sl L 0 lines.length 0 lines.length 1),(2,.own 0 zS),(4,.own 0 (cg b)),(5,.sl J.length 0 i 0 i 1),(6,iI i)] ([.cells i (fM er aQ)]::J)
   (λx e J'=>x=.exit 0/\get e 2=.own 0 zS/\get e 4=.own 0 (cg (jz b i (lines.drop i)).1)/\get e 5=.sl J.length 0 lines.length 0 lines.length 1/\J'=[.cells lines.length (fM (er++(jz b i (lines.drop i)).2) aQ)]::J)
 |0,i,b,er,hi,he,hK=>by
  refine aK ?_;obtain rfl:i=lines.length:=by omega
  have h2:lines.drop lines.length=[]:=ec;simp[h2,jz]
 |m+1,i,b,er,hi,he,hK=>by
  refine aK ?_;have h1:i<lines.length:=by omega
  obtain⟨s,hs⟩:=gE h1;have hdr:=mM (f:=bD) (w:=1) (λ_=>rfl) hs;simp only[bR,bD,cm]at hdr;have h4:=cj h1 (by have:=hl.1;omega);have hsl:=hl.2 s (ah hs);have hn:=hl.1;have hC:=λJ=>adb (J:=J) (b:=b) (s:=s) (k:=i) hK (by omega) hsl
  have hK':=hK.line hsl (k:=i);have hne:¬J.length=L:=by omega
  rw[bj hs];simp only[jz,fU]at hC ⊢;generalize jj b i s=r at hC hK' ⊢;obtain⟨b',e⟩:=r;have ih:=T9 hL hA hA0 hl m (i+1) b' (er++[e]) (by omega) (by simp[he]) hK';have hel:=nN er;have het:(fM er aQ).take i=fM er aQ:=cZ;have hr:(i+1)*8<=room:=by unfold room;omega
  simp[h1,hne,hA,hA0,hdr,h4,hC,eT,eE,hr,hel,het,he];refine WL.to ih (by simp[eT]) (by simp) λx e' J' hh=>?_
  have e1:((i+1:Nat):Int)=(i:Int)+1:=by omega
  rw[e1]at hh;simpa using hh
theorem abT{v l i u o n w:Nat}{e:Env}{J:SK}:QH v (.sl l i u o n w) e J=(e,J):=rfl
theorem abb{lines:List (List UInt8)}{A:List aw.aF}{L:Nat}(hL:L<J.length)(hA:eK J L=some A)(hA0:A[0]?=some (.cells lines.length (fM lines bD)))(hl:ZB lines)(hJ:J≠[]):Cl 13 [.sl L 0 lines.length 0 lines.length 1] (.cS [.agg (cg (fE lines).1),.bZ lines.length (fM (fE lines).2 aQ)]) J:=by
 refine mX Qd AE.eq_1 rfl ?_;have hLo:=T9 (J:=J) hL hA hA0 hl lines.length 0 gr [] (by omega) rfl Kr.zero;rw[az]at hLo;simp[XI,eT,abT];refine WL.to hLo (by simp[zS]) (by simp) ?_;rintro x e J' ⟨rfl,g2,g4,g5,rfl⟩;simp[g2,g4,g5,eT,eE,Fb,Bh,fE];have hlen:(jz gr 0 lines).2.length=lines.length:=yG;have hk:=kb (n:=15) (f:=aQ) (w:=1) (l:=(jz gr 0 lines).2) (j:=0) (v:=lines.length) (bs:=[.cells lines.length (fM (jz gr 0 lines).2 aQ)]) (by decide) (λ_=>rfl) (λx=>by simp[aQ,D.clean]) hJ rfl
 try simp only[lF]at hk
 rw[hlen]at hk;rw[pw (by simp[D.clean]) (by omega)];simp only[jD,kq];rw[eV (by simp[D.clean,mO]) (by omega),hk];exact⟨_,rfl⟩
theorem aaV{l:List (List UInt8)}(hl:l.length<=1000000000)(hJ:J≠[]):Cl 11 [lF l bD] (nl bD l) J:=by
 refine an ?_;cases l with
 |nil=>simp[nl]
 |cons s r =>
  have hfl:(fM (s::r) bD).length=(s::r).length:=by rw[CJ];simp
  have hne:¬(s::r).length=0:=by simp
  rw[iF (by simp)];generalize s::r=l at hl hfl hne ⊢;have hr:l.length*16<=room:=by unfold room;omega
  have hk:=kb (n:=16) (f:=bD) (w:=1) (l:=l) (j:=1) (v:=0) (bs:=[.cells 0 [],.cells 0 (fM l bD)]) (by decide) (λ_=>rfl) (λ_=>by simp[bD]) hJ (by simp);simp[hfl,hne,hr];exact⟨_,hk⟩
theorem aaU{ls:List (List UInt8)}(hne:ls≠[])(hl:ls.length<=1000000):
  di T (.call true 11 [.sl J.length 0 ls.length 0 ls.length 1] ([.cells ls.length (fM ls bD)]::J))=some (.val (.sl J.length 2 0 0 ls.length 1) ([.cells ls.length (fM ls bD),.cells 0 [],.cells 0 (fM ls bD)]::J)):=by
 refine mh rfl rfl rfl ?_;have hr:ls.length*16<=room:=by unfold room;omega
 have hfl:(fM ls bD).length=ls.length:=by rw[CJ];simp
 have tk:(fM ls bD).take ls.length=fM ls bD:=cZ;have h0:¬ls.length=0:=λh=>hne (bg.1 h)
 simp[hr,hfl,tk,h0]
theorem PJ:di T (.call true 11 [.sl J.length 0 0 0 0 1] ([.cells 0 []]::J))=some (.val .bB ([.cells 0 [],.cells 0 []]::J)):=by
 refine mh rfl rfl rfl ?_;simp
theorem X8{l:List (List UInt8)}{A:List aw.aF}{cs:List D}{L j v:Nat}(hL:L<J.length)(hA:eK J L=some A)(hAj:A[j]?=some (.cells v cs))(hcs:∀i s,l[i]?=some s->∃r,cs.drop i=.str s::r)(hl:l.length<=9223372036854775807):∀(m i:Nat) (x y z:Int),i+m=l.length ->
  WL T [0,3,4,5,6] false rC [(0,.sl L j v 0 l.length 1),(3,iI x),(4,iI y),(5,iI z),(6,iI i)] J
   (λx e J'=>J'=J/\x=.exit 0/\get e 0=.sl L j v 0 l.length 1/\∃u v w,get e 3=iI u/\get e 4=iI v/\get e 5=iI w)
 |0,i,x,y,z,hi=>by
  refine aK ?_;obtain rfl:i=l.length:=by omega
  simp
 |m+1,i,x,y,z,hi=>by
  refine aK ?_;have h1:i<l.length:=by omega
  obtain⟨s,hs⟩:=gE h1;obtain⟨r,hdr⟩:=hcs i s hs;have h4:=cj h1;have hne:¬J.length=L:=by omega
  have hB:=λt J=>G4 (J:=J) (s:=s) (t:=t)
  have e1:((i+1:Nat):Int)=(i:Int)+1:=by omega
  have ih:=λx y z=>X8 hL hA hAj hcs hl m (i+1) x y z (by omega)
  rw[e1]at ih;rw[e1]at h4;generalize hv:(λt:List UInt8=>decide (t.length<=s.length) && (s.take t.length == t))=v at hB;have hB':∀t J,Cl 28 [.str s,.str t] (.bool (v t)) J:=λt J=>by rw[<- hv];exact G4
  cases c1:v [109,111,100,101,108]<;>cases c2:v [116,105,99,107]<;>simp[fO,h1,hA,hAj,hdr,h4,hB',c1,c2]<;>
   exact WL.to (ih _ _ _) rfl rfl λx e J' hh=>by simpa using hh
theorem W5{l:List (List UInt8)}{A:List aw.aF}{cs:List D}{L j v:Nat}(hL:L<J.length)(hA:eK J L=some A)(hAj:A[j]?=some (.cells v cs))(hcs:∀i s,l[i]?=some s->∃r,cs.drop i=.str s::r)(hl:l.length<=9223372036854775807):∃w,Cl 8 [.sl L j v 0 l.length 1] (.bool w) J/\(w=true->l.length<=103):=by
 have hne:¬J.length=L:=by omega
 obtain⟨x,e,J',h1,rfl,rfl,g0,u,v',w,g3,g4,g5⟩:=X8 (J:=[]::J) (L:=L) (A:=A) (by simp;omega) (by simp[eK,hne,hA]) hAj hcs hl l.length 0 0 0 0 (by omega);refine⟨decide (v'<=4) && (decide (w<=8) && (decide (u<=5000) && (decide ((l.length:Int)<=40) || (decide (u<=400) && decide ((l.length:Int)<=103))))),?_,λh=>by simp only[af,cq,au]at h;omega⟩;refine an ?_;simp;refine⟨_,_,_,by simpa using h1,?_⟩;by_cases c1:v'<=4<;>by_cases c2:w<=8<;>by_cases c3:u<=5000<;>by_cases c4:(l.length:Int)<=40<;>by_cases c5:u<=400<;>by_cases c6:(l.length:Int)<=103<;>
  simp[g0,g3,g4,g5,c1,c2,c3,c4,c5,c6]
theorem aeb:Cl 8 [.bB] (.bool true) J:=by
 refine an ?_;simp;refine aK ?_;simp
theorem Xn:Cl 31 [.bB] (iI 0) J:=by
 refine an ?_;have hC:=λJ=>contains_nil (T:=T) (J:=J) (f:=71) (i:=110) (w:=1) (ag:=false) (fv:=.fn 72 [] []) rfl rfl rfl rfl
 simp[hC]
theorem R6{b:List UInt8}{d:D}(hd:d=lF b bE\/d=.bB/\b=[])(hb:b.length<=1000000)(hJ:J≠[]):
  Cl 25 [d,.bB] (.cS [lF (cU (cI 100 b)) bE,iI 0]) J:=by
 refine an ?_;have hC:=λS=>Xn (J:=S)
 have h4:∀s∈cI 100 b,s.length<=4000:=λs hs=>H5 hs
 have hrl:=@CE 100 b;have hg:ZB (cI 100 b):=⟨hrl,h4⟩;obtain⟨p,hR⟩:=KC (J:=J) hd hb;have hRun:=XQ (J:=J) (A:=Vc J (cI 100 b) (cU (cI 100 b)).length p) rfl hg;generalize cI 100 b=ls at *
 generalize fE ls=r at *
 obtain⟨c,er⟩:=r;simp only at hRun ⊢;have hf:=UB (qs:=ls) (A:=c.bC (J.length+1) er) (R:=(Vc J ls (cU ls).length p).tail) hJ;have hW:=λS hS=>Iv (J:=S) hg hS
 have hlen:¬(100:Int)<ls.length:=by omega
 simp only[Vc,List.tail_cons,stM]at hf;rcases hd with rfl | ⟨rfl,rfl⟩
 all_goals
  simp[hC,hR,hRun];refine aK ?_;simp[Vc,hf,hlen,hW,Uu]
theorem Iw{l:List (List UInt8)}{R:List aw.aF}{X:D}{er:Int}(hX:X.calm=X)(hl:∀s∈l,s.length<=4000)(hn:l.length<=1000):∀(m i n:Nat) (b:Bk) (ls:List (List UInt8)),i+m=l.length->Kr n b->n+m<=2000->ls.length+m<=2000 ->
  WL T [1,5,7,8,9,11] false ke [(1,lF l bD),(5,.sl J.length 0 ls.length 0 ls.length 1),(7,X),(8,iI er),(9,.own 0 (cg b)),(11,iI i)] (stM ls R::J)
   (λx e J'=>∃q,q=Pr b ls (l.drop i)/\x=.exit 0/\q.2.length<=ls.length+m/\get e 5=.sl J.length 0 q.2.length 0 q.2.length 1/\get e 7=X/\get e 8=iI er/\J'=stM q.2 R::J)
 |0,i,n,b,ls,hi,hK,hn1,hn2=>by
  refine aK ?_;obtain rfl:i=l.length:=by omega
  have h2:l.drop l.length=[]:=ec;simp[h2,Pr,hX]
 |m+1,i,n,b,ls,hi,hK,hn1,hn2=>by
  refine aK ?_;have h1:i<l.length:=by omega
  obtain⟨s,hs⟩:=gE h1;have a1:=bx (f:=bD) (w:=1) hs;simp only[bD,bR]at a1;have h4:=cj h1;have hsl:=hl s (ah hs);have hC:=λJ=>adb (J:=J) (b:=b) (s:=s) (k:=ls.length) hK (by omega) hsl
  have hK':=hK.line hsl (k:=ls.length);rw[bj hs];simp only[Pr,fU]at hC ⊢;generalize jj b ls.length s=r at hC hK' ⊢;obtain⟨b',e⟩:=r;have hfl:=dF (f:=bD) (w:=1) ls;have tk:(fM ls bD).take ls.length=fM ls bD:=cZ;have hr:(ls.length+1)*16<=room:=by unfold room;omega
  have⟨hq,e1⟩:ls.length<=(fM ls bD).length/\((i+1:Nat):Int)=(i:Int)+1:=by omega
  by_cases hc:e=0
  .subst hc;have ih:=Iw (R:=R) (er:=er) hX hl hn m (i+1) (n+1) b' (ls++[s]) (by omega) hK' (by omega) (by simp;omega);rw[e1]at ih;simp only[];simp[h1,a1,h4,hC,stM,hr,hq,tk,hX,eT,eE];refine WL.to ih (by simp[eT]) (by simp[stM,bD]) λx e' J' hh=>?_
   obtain⟨q,h1,h2,h3,h4,h5,h6,h7⟩:=hh;exact⟨q,h1,h2,by simp at h3;omega,h4,h5,h6,h7⟩
  .have ih:=Iw (R:=R) (er:=er) hX hl hn m (i+1) (n+1) b' ls (by omega) hK' (by omega) (by omega);rw[e1]at ih;rw[if_neg hc];simp[h1,a1,h4,hC,stM,hc,hX,eT,eE];refine WL.to ih (by simp[eT]) (by simp[stM]) λx e' J' hh=>?_
   obtain⟨q,h1,h2,h3,h4,h5,h6,h7⟩:=hh;exact⟨q,h1,h2,by omega,h4,h5,h6,h7⟩
theorem Q0{b:List UInt8}{l:List (List UInt8)}(hb0:b.length<=9223372036854775807)(hl:l.length<=9223372036854775807):
  Cl 7 [lF b bE,lF l bD] (.bool true) [[]]:=by
 obtain⟨v,hF,hv⟩:=ahK (l:=l) (by omega) [[],[]];have hA:=Xk;refine an ?_;cases v
 .simp[hF,hA]
 have hl:l.length<=1000000000:=by have:=hv rfl;omega
 by_cases hb1:(6000:Int)<b.length
 .have hb1':6000<b.length:=by omega
  simp[hF,hA,hb1]
 have⟨hb1',hb⟩:¬6000<b.length/\b.length<=1000000:=by omega
 have hRec:=aa9 (J:=[[]]) (b:=b) hb;have hrl:=@CE 100 b;have h4:∀s∈cI 100 b,s.length<=4000:=λs hs=>H5 hs
 simp only[List.length_singleton]at hRec;have hRgN:=λS hS=>R6 (J:=S) (b:=b) (d:=lF b bE) (.inl rfl) hb hS
 have hRg:=λhk S hS=>Vt (J:=S) (lines:=l) (b:=b) (d:=lF b bE) (.inl rfl) hb hk hS
 have hRes:∀S,S≠[]->GQ l->Cl 25 [lF b bE,nl bD l] (if(Pr (fE (cI 100 b)).1 (cI 100 b) l).2.length<=100 then .cS [.bZ (cU (Pr (fE (cI 100 b)).1 (cI 100 b) l).2).length (fM (cU (Pr (fE (cI 100 b)).1 (cI 100 b) l).2) bE),iI 0]else .cS [.bB,iI 3]) S:=by
  intro S hS hk;by_cases h0:l=[]
  .subst h0;rw[EV];have hh:(Pr (fE (cI 100 b)).1 (cI 100 b) []).2.length<=100:=hrl;rw[if_pos hh];exact hRgN S hS
  .rw[iF h0];exact hRg hk S hS
 have hNo:okB l=false->∀S,Cl 25 [lF b bE,nl bD l] (.cS [.bB,iI 3]) S:=by
  intro hok S;have h0:l≠[]:=by intro h;subst h;cases hok
  rw[iF h0];exact R7 hl hok
 have hRun:=λA hA=>abb (lines:=cI 100 b) (J:=A::[[]]) (A:=A) (L:=1) (by simp) (by simp) hA ⟨hrl,h4⟩ (by simp)
 have hL:=λS hS=>aaV (J:=S) (l:=l) hl hS
 have hR:=λJ=>VI (J:=J) (l:=l) hl
 have hKr:=Rx (l:=cI 100 b) (k:=0) Kr.zero h4;rw[show(jz gr 0 (cI 100 b)).1=(fE (cI 100 b)).1 from rfl]at hKr;have hll:=hv rfl;have⟨hcpi,hbr⟩:b.length*1<=room/\b.length<=room:=by unfold room;omega
 have key:∀(R:List aw.aF) (a5:D),True:=λ_ _=>trivial
 generalize cI 100 b=ls at *
 have hst:∀R:List aw.aF,.cells ls.length (fM ls bD)::R=stM ls R:=λ_=>rfl
 have hfl:(fM ls bD).length=ls.length:=by rw[CJ];simp
 have hfl2:(fM l bD).length=l.length:=by rw[CJ];simp
 have tk:(fM ls bD).take ls.length=fM ls bD:=cZ;have⟨hr1,hr2⟩:l.length*16<=room/\(ls.length+l.length)*16<=room:=by unfold room;omega
 simp[Pv,G8,Br,hF,hb1,hRec];have h3:(ls=[]/\l=[])\/(ls=[]/\l≠[])\/ls≠[]:=by
  by_cases h1:ls=[]<;>by_cases h2:l=[]<;>simp[h1,h2]
 rcases h3 with⟨h1,h2⟩ | ⟨h1,h2⟩ | h1
 case' inl =>
  have hLi:di T (.call true 11 [.sl 1 0 ls.length 0 ls.length 1] [[.cells ls.length (fM ls bD)],[]])=some (.val .bB [[.cells ls.length (fM ls bD),.cells 0 []],[]]):=by rw[h1];exact PJ (J:=[[]])
  have hz:(∀x,¬x∈l):=by rw[h2];simp
  have hz2:fM l bD=[]:=by rw[h2];rfl
  have hl00:l.length=0:=by rw[h2];rfl
  have hFw:=λJ=>aeb (J:=J)
  have hw:ls.length+l.length<=103:=by rw[h1,h2];simp
  simp[hLi,hl00,hz2,hFw]
 case' inr.inl =>
  have hLi:di T (.call true 11 [.sl 1 0 ls.length 0 ls.length 1] [[.cells ls.length (fM ls bD)],[]])=some (.val .bB [[.cells ls.length (fM ls bD),.cells 0 []],[]]):=by rw[h1];exact PJ (J:=[[]])
  have hl00:¬l.length=0:=λh=>h2 (bg.1 h)
  obtain⟨w,hFw,hw⟩:=W5 (l:=l) (J:=[[.cells ls.length (fM ls bD),.cells 0 [],.cells 0 (fM l bD)],[]]) (L:=1) (A:=[.cells ls.length (fM ls bD),.cells 0 [],.cells 0 (fM l bD)]) (j:=2) (v:=0) (cs:=fM l bD) (by simp) (by simp) rfl (λi s hi=>⟨_,by have:=mM (f:=bD) (w:=1) (λ_=>rfl) hi;simpa[bD]using this⟩) (by omega);cases w
  .simp[hLi,hl00,hfl2,hr1,hFw,hA]
  have hw:ls.length+l.length<=103:=by have:=hw rfl;rw[h1];simpa using this
  simp[hLi,hl00,hfl2,hr1,hFw]
 case' inr.inr =>
  have hLi:=aaU (J:=[[]]) (ls:=ls) h1 (by omega);obtain⟨w,hFw,hw⟩:=W5 (l:=ls++l) (J:=[[.cells ls.length (fM ls bD),.cells 0 [],.cells 1 (fM (ls++l) bD)],[]]) (L:=1) (A:=[.cells ls.length (fM ls bD),.cells 0 [],.cells 1 (fM (ls++l) bD)]) (j:=2) (v:=1) (cs:=fM (ls++l) bD) (by simp) (by simp) rfl (λi s hi=>⟨_,by have:=mM (f:=bD) (w:=1) (λ_=>rfl) hi;simpa[bD]using this⟩) (by simp;omega);simp only[List.length_singleton,aP,ln]at hLi hFw hw;cases w
  .simp[hLi,hfl,hfl2,tk,hr2,hFw,hA]
  have hw:=hw rfl;simp[hLi,hfl,hfl2,tk,hr2,hFw]
 all_goals
  cases hok:okB l
  .have hN:=hNo hok;have hR':=hR;rw[hok]at hR';simp[Br,hbr,hL,hN,hR',hA]
  have hk:=Ft.1 hok;have hRe:=λS hS=>hRes S hS hk
  have hR':=hR;rw[hok]at hR';have hLo:=λR X er hX=>Iw (J:=[[]]) (l:=l) (R:=R) (X:=X) (er:=er) hX hk.2 (by omega) l.length 0 (0+ls.length) (fE ls).1 ls (by omega) hKr (by omega) (by omega)
  rw[az]at hLo;generalize hq:Pr (fE ls).1 ls l=q at hRe hLo;obtain⟨c',qs⟩:=q;have hf:=λR=>o9 (f:=bD) (w:=1) (λ_=>rfl) (λ_=>by simp[bD]) (l:=qs) (j:=0) (v:=qs.length) (bs:=stM qs R) (J:=[[]]) (by simp) rfl
  simp only[List.length_singleton,stM,List.set_cons_zero]at hf;simp only at hRe;by_cases hle:qs.length<=100
  .have hqk:GQ qs:=⟨hle,λs hs=>(OB (b:=(fE ls).1) (ls:=ls) (m:=l) (by rw[hq];exact hs)).elim (h4 s) (hk.2 s)⟩;simp only[if_pos hle]at hRe;simp[Br,hbr,hL,hRe,hR',hRun,eT];refine WL.tg (hLo _ (lF (cU qs) bE) 0 rfl) ?_;rintro x e J' ⟨q,rfl,rfl,hql,g5,g7,g8,rfl⟩;have hB:=λJ=>Xm (J:=J) (l:=qs) hqk
   have hlen:¬(100:Int)<qs.length:=by omega
   simp[fO,Pv,G8,Br,g5,g7,g8,hf,hlen,hB,hA,stM]
  .simp only[if_neg hle]at hRe;simp[Br,hbr,hL,hRe,hR',hRun,eT];refine WL.tg (hLo _ .bB 3 rfl) ?_;rintro x e J' ⟨q,rfl,rfl,hql,g5,g7,g8,rfl⟩;have hlen:(100:Int)<qs.length:=by omega
   simp[g5,g7,g8,hf,hlen,hA,stM]
theorem wf_u8{n:Int}(h:(Lit.int .u8 n).wf=true):0<=n/\n<=255:=by
 simp only[Lit.wf,af,au]at h;exact h
theorem ah1{ds:List D}(h:(Ty.int .u8).has ds):∃b:UInt8,ds=bE b/\True:=by
 obtain⟨n,rfl,hw⟩:=h;have:=wf_u8 hw;refine⟨UInt8.ofNat n.toNat,?_,trivial⟩;simp[bE];omega
theorem HN(x0 x1:D)(t0:(Ty.slice 1 (.int .u8)).afw x0)(t1:(Ty.slice 1 .str).afw x1):∃J',di T (.call false 7 [x0,x1] [[]])=some (.val (.bool true) J'):=by
 obtain⟨b,rfl,hb,_⟩:=U5 (λds h=>ah1 h) t0;obtain⟨l,rfl,hl,_⟩:=U5 (λds h=>acV h) t1;have hm:maxLen<=9223372036854775807:=by decide
 exact⟨_,Q0 (by omega) (by omega)⟩
