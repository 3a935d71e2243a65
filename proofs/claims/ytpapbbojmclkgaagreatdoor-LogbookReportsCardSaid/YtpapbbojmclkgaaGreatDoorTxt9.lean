import Derived.Test.YtpapbbojmclkgaaGreatDoorTxt8
import Derived.ProofKit
import Derived.Test.YtpapbbojmclkgaaGreatDoorBase14
set_option linter.all false
set_option maxRecDepth 100000
namespace Go.Proofs.YtpapbbojmclkgaaGreatDoor
section
open Go Go.Abs Go.Rock Go.Book
variable {J:SK}
theorem Kr.line{n:Nat}{b:Bk}(h:Kr n b){s:List UInt8}(hs:s.length<=4000){k:Int}:Kr (n+1) (mV b k s).1:=by
 refine⟨h.kv.line hs,?_⟩;unfold mV;cases parse s with
 |none=>exact h.rok
 |some p=>exact Sf (b:={b with at_:=k }) h.rok _ _ _
theorem Kr.zero:Kr 0 gY:=⟨Kv.zero,λr hr=>by cases hr⟩
theorem Qh:∀{l:List (List UInt8)} {b:Bk} {k:Int} {n:Nat},Kr n b->(∀s∈l,s.length<=4000)->Kr (n+l.length) (kD b k l).1
 |[],b,k,n,h,_=>h
 |s::l,b,k,n,h,hs=>by
  have h2:=Qh (l:=l) (k:=k+1) (h.line (hs s (by simp)) (k:=k)) λx hx=>hs x (by simp[hx])
  simp only[kD,aE];rwa[show n+(l.length+1)=n+1+l.length by omega]
theorem V0:Cl 35 [] (.agg (bR gY)) J:=by
 refine au ?_;simp[bR,gY,nl]
theorem Wv{lines:List (List UInt8)}(hl:okL lines):∀(m i:Nat) (b:Bk) (er:List Int),i+m=lines.length->er.length=i->Kr i b ->
  WL T [0,2,4,5,6] false pr [(0,lF lines dj),(2,.own 0 zS),(4,.own 0 (bR b)),(5,.sl J.length 0 i 0 i 1),(6,iI i)] ([.cells i (fM er aP)]::J)
   (λx e J'=>x=.exit 0/\get e 2=.own 0 zS/\get e 4=.own 0 (bR (kD b i (lines.drop i)).1)/\get e 5=.sl J.length 0 lines.length 0 lines.length 1/\J'=[.cells lines.length (fM (er++(kD b i (lines.drop i)).2) aP)]::J)
 |0,i,b,er,hi,he,hK=>by
  refine az pr.eq_1 ?_;obtain rfl:i=lines.length:=by omega
  have h2:lines.drop lines.length=[]:=an (by omega);simp[h2,kD]
 |m+1,i,b,er,hi,he,hK=>by
  refine az pr.eq_1 ?_;have h1:i<lines.length:=by omega
  obtain⟨s,hs⟩:=gE h1;have a1:=bd (f:=dj) (w:=1) (λ_=>rfl) hs;simp only[dj,bX]at a1;have h4:=cg h1 (by have:=hl.1;omega);have hsl:=hl.2 s (aj hs);have hn:=hl.1;have hC:=λJ=>age (J:=J) (b:=b) (s:=s) (k:=i) hK (by omega) hsl
  have hK':=hK.line hsl (k:=i);rw[bw hs];simp only[kD,gn]at hC ⊢;generalize mV b i s=r at hC hK' ⊢;obtain⟨b',e⟩:=r;have ih:=Wv hl m (i+1) b' (er++[e]) (by omega) (by simp[he]) hK';have hel:=pO er;have het:(fM er aP).take i=fM er aP:=ah (by omega);have hr:(i+1)*8<=room:=by unfold room;omega
  simp[h1,a1,h4,hC,fR,eF,hr,hel,het,he];refine WL.to ih (by simp[fR]) (by simp) λx e' J' hh=>?_
  have e1:((i+1:Nat):Int)=(i:Int)+1:=by omega
  rw[e1]at hh;simpa using hh
theorem acR{lines:List (List UInt8)}(hl:okL lines)(hJ:J≠[]):Cl 13 [lF lines dj] (.cN [.agg (bR (mo lines).1),.bV lines.length (fM (mo lines).2 aP)]) J:=by
 refine au ?_;have hL:=Wv (J:=J) hl lines.length 0 gY [] (by omega) rfl Kr.zero
 try simp only[lF]at hL
 rw[aB]at hL;simp[V0,fR];refine WL.to hL (by simp[zS]) (by simp) ?_;rintro x e J' ⟨rfl,g2,g4,g5,rfl⟩;simp[g2,g4,g5,fR,eF,Er,As,mo];have hlen:(kD gY 0 lines).2.length=lines.length:=xS;have hk:=lD (n:=15) (f:=aP) (w:=1) (l:=(kD gY 0 lines).2) (j:=0) (v:=lines.length) (bs:=[.cells lines.length (fM (kD gY 0 lines).2 aP)]) (by decide) (λ_=>rfl) (λx=>by simp[aP,D.clean]) hJ rfl
 try simp only[lF]at hk
 rw[hlen]at hk;rw[pZ (by simp[D.clean]) (by omega)];simp only[jP,kR];rw[eL (by simp[D.clean,mm]) (by omega),hk];exact⟨_,rfl⟩
end
section
open Go Go.Abs Go.Rock Go.Book
theorem Dr:∀{k u:Nat},(pk k u).length<=k
 |0,u=>by simp[pk]
 |k+1,u=>by
  unfold pk;split
  .simp
  .have:=@Dr k (u / 10);simp;omega
theorem ep{n:Int}:(fH n).length<=21:=by
 unfold fH;have h1:=@Dr 20 n.natAbs;have h2:=@Dr 20 n.toNat;split<;>simp<;>omega
def Ek:List UInt8:=[116,105,99,107,115]
def Am:List UInt8:=[99,111,108,111,117,114]
def Em:List UInt8:=[119,101,108,108,115]
def sj:List UInt8:=[109,111,100,101,108]
def ML:List UInt8:=[108,101,102,116]
def EP:List UInt8:=[115,116,114,117,99,107]
def KY:List UInt8:=[115,97,108,101]
def KZ:List UInt8:=[116,105,99,107]
def Ge:List UInt8:=[119,101,108,108]
def K0:List UInt8:=[119,111,114,107]
def Gd:List UInt8:=[109,111,110,101,121]
def CJ(l:List (List UInt8)):List UInt8:=rW [32] l++[10]
def CY(lo hi:Int):List UInt8:=fH lo++[46,46]++fH hi
def F8(b:Bk):List UInt8:=CJ [Ek,fH b.aw.length,Am,fH (eg b),Em,fH b.aS.av.length]
def xP(e:dY):List UInt8:=if e.left=true then CJ [sj,e.m.name,ML]else CJ [sj,e.m.name,EP,fH e.L8]
def NW(k:Nat)(x:HA):List UInt8:=CJ [KY,fH k,KZ,fH x.tick,Ge,fH x.QE,K0,CY x.wlo x.whi,Gd,CY x.mlo x.mhi]
def IX:Nat->List HA->List UInt8
 |_,[]=>[]
 |k,x::l=>NW k x++IX (k+1) l
def xQ(b:Bk):List UInt8:=F8 b++fM b.ai xP++IX 0 b.cA
def i9(n:Int):Prop := -1000000000000000<=n/\n<=1000000000000000
structure Rp(b:Bk):Prop where
 nm:∀e∈b.ai,e.m.name.length<=4000/\i9 e.L8
 sl:∀x∈b.cA,i9 x.tick/\i9 x.QE/\i9 x.wlo/\i9 x.whi/\i9 x.mlo/\i9 x.mhi
theorem Rp.zero:Rp gY:=⟨by simp[gY],by simp[gY]⟩
theorem Rp.of{b c:Bk}(h:Rp b)(h1:c.ai=b.ai)(h2:c.cA=b.cA):Rp c:=⟨by rw[h1];exact h.nm,by rw[h2];exact h.sl⟩
theorem Rp.K8{b:Bk}{lo hi:Int}{val:b8->Int}(h:Rp b)(ha:i9 b.at_):Rp (gW b lo hi val):=by
 refine⟨λe he=>?_,h.sl⟩;obtain⟨j,hj⟩:=List.mem_iff_getElem?.1 he;simp only[gW,Bk.gz,ju]at hj;cases hm:b.ai[j]? with
 |none=>rw[hm]at hj;cases hj
 |some x =>
  rw[hm]at hj;have hx:=h.nm x (aj hm);simp only[aZ,ae]at hj;subst hj;split
  .unfold Go.Book.dj;split
   .exact⟨hx.1,ha⟩
   .exact hx
  .exact hx
theorem abm{n:Nat}{b:Bk}(h:Rp b)(hk:Kv n b)(ha:i9 b.at_)(k:Nat){nm:List UInt8}(hn:nm.length<=4000)(l:List Int):Rp (iX b k nm l).1:=by
 unfold iX;split
 .split
  .unfold nQ;(repeat' split);all_goals exact h.of rfl rfl
  .exact h
 .unfold lR;(repeat' split);all_goals exact h.of rfl rfl
 .split
  .unfold ya;(repeat' split);all_goals exact h.of rfl rfl
  .exact h
 .split
  .unfold tE;(repeat' split);all_goals exact h.of rfl rfl
  .exact h
 .unfold pX;split
  .split
   .exact h
   .split
    .split
     .refine⟨λe he=>?_,h.sl⟩;rcases aU.1 he with he | he
      .exact h.nm e he
      .rw[List.mem_singleton.1 he];exact⟨hn,show i9 0 by unfold i9;omega⟩
     .exact h
    .exact h
  .exact h
 .split
  .unfold CX;(repeat' split)
   .exact h
   .exact h.K8 ha
   .exact h
  .exact h
 .unfold sn;(repeat' split);all_goals exact h.of rfl rfl
 .split
  .split<;>exact h.of rfl rfl
  .exact h
 .unfold oU;(repeat' split);all_goals exact h.of rfl rfl
 .unfold mz;(repeat' split);all_goals exact h.of rfl rfl
 .split
  .unfold oH;(repeat' split)
   .exact h
   .exact h.K8 ha
   .exact h
   .exact h
  .exact h
 .split
  .unfold tD;(repeat' split);all_goals exact h.of rfl rfl
  .exact h
 .split
  .rename_i w lv u p;unfold mW;split
   .exact h
   .split
    .rename_i c2;split
     .rename_i c3;have hc2:=c2;simp only[En,af]at hc2;obtain⟨k1,k2,k3,k4⟩:=hc2;have i1:=aR.1 k1;have i3:=aR.1 k3;have i4:=aR.1 k4;have hbs:∀x∈oQ b w lv u,0<=x/\x<=1000000000:=by
       intro x hx;simp only[oQ,bI]at hx;obtain⟨e,he,rfl⟩:=hx;exact N8 (by omega) hk.uok (pB c3 e he)
      obtain⟨⟨m1,m2⟩,m3,m4⟩:=XL (by omega) hbs;have p1:0<=Dj (oQ b w lv u)*p:=bz m1 i4.1;have p2:Dj (oQ b w lv u)*p<=1000000000*1000:=cn m2 i4.2 i4.1 (by omega);have p3:0<=Di (oQ b w lv u)*p:=bz m3 i4.1;have p4:Di (oQ b w lv u)*p<=1000000000*1000:=cn m4 i4.2 i4.1 (by omega);have hpl:=(jX hk.pl).1;have hwl:b.aS.av.length<=8:=by
       cases hr:b.ready with
       |true=>exact(Bv.of (hk.ready hr)).av
       |false=>rw[hk.av hr];simp
      refine⟨h.nm,λx hx=>?_⟩;rcases aU.1 hx with hx | hx
      .exact h.sl x hx
      .rw[List.mem_singleton.1 hx];simp only[i9];omega
     .exact h
    .exact h
  .exact h
 .exact h
theorem aas{n:Nat}{b:Bk}(h:Rp b)(hk:Kv n b){k:Int}(ha:i9 k){s:List UInt8}(hs:s.length<=4000):Rp (mV b k s).1:=by
 unfold mV;cases hp:parse s with
 |none=>exact h
 |some p =>
  obtain⟨w,nm,l⟩:=p;exact abm (b:={b with at_:=k }) (h.of rfl rfl) (hk.Uo k) ha w.k (by have:=(Ai hp).2.2.1;omega) l
theorem KT:∀{l:List (List UInt8)} {b:Bk} {k:Nat} {n:Nat},Rp b->Kv n b->(∀s∈l,s.length<=4000)->k+l.length<=1000000->Rp (kD b k l).1
 |[],b,k,n,h,hk,hs,hn=>h
 |s::l,b,k,n,h,hk,hs,hn=>by
  have h1:=hs s (by simp);simp only[aE]at hn;have h2:=KT (l:=l) (k:=k+1) (aas h hk (k:=k) (by unfold i9;omega) h1) (hk.line h1 (k:=k)) (λx hx=>hs x (by simp[hx])) (by omega);simp only[kD];rw[show((k:Int)+1)=((k+1:Nat):Int)by omega];exact h2
end
section
open Go Go.Abs Go.Rock Go.Book
variable {J:SK}
def Ng(bs:List UInt8):Abs.aG:=.cells 2 [iI 115,iI 5,.str bs]
def N2(L:Nat)(b:Bk)(er:List Int)(bs:List UInt8):List Abs.aG:=[.cells b.ai.length (fM b.ai dY.enc),.cells b.rules.length (fM b.rules Trem.cH.enc),.cells b.pY.length (fM b.pY Trem.Ev.enc),.cells b.cJ.length (fM b.cJ o8.enc),
 .cells b.cA.length (fM b.cA HA.enc),.cells b.eI.length (fM b.eI Dn.enc),.cells 0 (b.cells L),.cells er.length (fM er aP),Ng bs]
theorem Sr{b:Bk}{er:List Int}{bs:List UInt8}{ds:List D}{xs:List (List UInt8)}{n:Nat}(hx:wQ ds=some xs)(hn:n=xs.length)(h1:n<=1000)(h2:(CJ xs).length+bs.length<=1000000):
  dp T (.call false 39 [.bV n ds,.jS J.length 8] (N2 J.length b er bs::J))=some (.val (.cN []) (N2 J.length b er (bs++CJ xs)::J)):=by
 subst hn;refine fx rfl rfl rfl (by simp) ?_;have hj:(rW [32] xs).length<=1000000:=by simp only[CJ,aT]at h2;omega
 have h3:bs.length+(rW [32] xs++[10]).length<=1000000:=by simp only[CJ]at h2;omega
 have hJ:∀S,Cl 41 [.bV xs.length ds,.str [32]] (.str (rW [32] xs)) S:=λS=>zb JS JM (by simp[Ea,hx,h1,hj])
 have hW:dp T (.call false 40 [.jS J.length 8,.str (rW [32] xs++[10])] ([]::N2 J.length b er bs::J))=some (.val (.cN [iI (rW [32] xs++[10]).length,.nJ]) ([]::N2 J.length b er (bs++(rW [32] xs++[10]))::J)) :=
  zb vN vM (by simp[Ea,N2,Ng];simp at h3;omega)
 have hq:(rW [32] xs).length<=4611686018427387903:=by omega
 simp[fS,hJ,hW,CJ,hq]
theorem So{lo hi:Int}(h1:i9 lo)(h2:i9 hi):Cl 44 [.agg [iI lo,iI hi]] (.str (CY lo hi)) J:=by
 refine au ?_;unfold i9 at h1 h2;have a1:=λJ=>wG (J:=J) (n:=lo) (by omega)
 have a2:=λJ=>wG (J:=J) (n:=hi) (by omega)
 have l1:=@ep lo;have l2:=@ep hi;have⟨q1,q2⟩:(fH lo).length<=4611686018427387902/\(fH lo).length+2+(fH hi).length<=4611686018427387904:=by omega
 simp[fS,a1,a2,CY,q1,q2]
theorem KQ{e:dY}(h:e.m.name.length<=4000):(xP e).length<=5000:=by
 have hil:=@ep e.L8;unfold xP;split
 .simp only[CJ,rW,cV,mX,aT,sj,ML,aE,aY];omega
 .simp only[CJ,rW,cV,mX,aT,sj,EP,aE,aY];omega
theorem H5:∀{l:List dY},(∀e∈l,e.m.name.length<=4000)->(fM l xP).length<=l.length*5000
 |[],h=>by simp
 |e::l,h=>by
  have h1:=KQ (h e (by simp));have h2:=H5 (l:=l) λx hx=>h x (by simp[hx])
  simp only[cV,aT,aE];omega
theorem Ws{b:Bk}{er:List Int}(hr:Rp b)(hl:b.ai.length<=40):∀(m i:Nat) (bs:List UInt8),i+m=b.ai.length->bs.length+m*5000<=300000 ->
  WL T [5,7,8,9,54,55,56] false jw [(5,.ref J.length 6 0 0),(7,.jS J.length 8),(8,.fn 39 [] [.jS J.length 8]),(9,.fn 42 [] []),(54,.sl J.length 0 b.ai.length 0 b.ai.length 4),(55,iI b.ai.length),(56,iI i)] (N2 J.length b er bs::J)
   (λx e J'=>x=.exit 0/\get e 5=.ref J.length 6 0 0/\get e 7=.jS J.length 8/\get e 8=.fn 39 [] [.jS J.length 8]/\get e 9=.fn 42 [] []/\J'=N2 J.length b er (bs++fM (b.ai.drop i) xP)::J)
 |0,i,bs,hi,hb=>by
  refine az jw.eq_1 ?_;obtain rfl:i=b.ai.length:=by omega
  simp
 |m+1,i,bs,hi,hb=>by
  refine az jw.eq_1 ?_;have h1:i<b.ai.length:=by omega
  obtain⟨e,he⟩:=gE h1;have a1:=bd (f:=dY.enc) (w:=4) (λ_=>rfl) he;have h4:=cg h1;have a2:=bZ (f:=dY.enc) (w:=4) (λ_=>rfl) b.ai;have a3:4<=b.ai.length*4-i*4:=by omega
  obtain⟨n1,n2⟩:=hr.nm e (aj he);unfold i9 at n2;have hI:=λJ=>wG (J:=J) (n:=e.L8) (by omega)
  have hil:=@ep e.L8;rw[bw he,cV,<- cp];have hml:=KQ (hr.nm e (aj he)).1;have ih:=Ws hr hl (er:=er) m (i+1) (bs++xP e) (by omega) (by simp;omega);have hbs:bs.length<=300000:=by omega
  cases hc:e.left
  .have hS:=Sr (J:=J) (b:=b) (er:=er) (bs:=bs) (ds:=[.str sj,.str e.m.name,.str EP,.str (fH e.L8)]) (n:=4) rfl rfl (by omega) (by have:=hml;simp only[xP,hc]at this;simp at this ⊢;omega);simp only[xP,hc]at ih;simp only[N2,Ng,Bk.cells,sj,EP]at hS ih ⊢;simp[h1,a1,a2,a3,h4,hI,hc,hS];exact WL.to ih (by simp) (by simp) λx e J' hh=>by simpa[xP,hc,sj,EP]using hh
  .have hS:=Sr (J:=J) (b:=b) (er:=er) (bs:=bs) (ds:=[.str sj,.str e.m.name,.str ML]) (n:=3) rfl rfl (by omega) (by have:=hml;simp only[xP,hc]at this;simp at this ⊢;omega);simp only[xP,hc]at ih;simp only[N2,Ng,Bk.cells,sj,ML]at hS ih ⊢;simp[h1,a1,a2,a3,h4,hc,hS];exact WL.to ih (by simp) (by simp) λx e J' hh=>by simpa[xP,hc,sj,ML]using hh
theorem EA{lo hi:Int}:(CY lo hi).length<=44:=by
 have h1:=@ep lo;have h2:=@ep hi;simp only[CY,aT,aE,aY];omega
theorem P8{k:Nat}{x:HA}:(NW k x).length<=400:=by
 have q0:=@ep k;have q1:=@ep x.tick;have q2:=@ep x.QE;have q3:=@EA x.wlo x.whi;have q4:=@EA x.mlo x.mhi;simp only[NW,CJ,rW,cV,mX,aT,KY,KZ,Ge,K0,Gd,aE,aY];omega
theorem Wt{b:Bk}{er:List Int}(hr:Rp b)(hl:b.cA.length<=1000):∀(m i:Nat) (bs:List UInt8),i+m=b.cA.length->bs.length+m*400<=900000 ->
  WL T [7,8,9,83,84,85] false jx [(7,.jS J.length 8),(8,.fn 39 [] [.jS J.length 8]),(9,.fn 42 [] []),(83,.sl J.length 4 b.cA.length 0 b.cA.length 6),(84,iI b.cA.length),(85,iI i)] (N2 J.length b er bs::J)
   (λx e J'=>x=.exit 2/\get e 7=.jS J.length 8/\J'=N2 J.length b er (bs++IX i (b.cA.drop i))::J)
 |0,i,bs,hi,hb=>by
  refine az jx.eq_1 ?_;obtain rfl:i=b.cA.length:=by omega
  simp[IX]
 |m+1,i,bs,hi,hb=>by
  refine az jx.eq_1 ?_;have h1:i<b.cA.length:=by omega
  obtain⟨x,he⟩:=gE h1;have a1:=bd (f:=HA.enc) (w:=6) (λ_=>rfl) he;have h4:=cg h1;have a2:=bZ (f:=HA.enc) (w:=6) (λ_=>rfl) b.cA;have a3:6<=b.cA.length*6-i*6:=by omega
  obtain⟨n1,n2,n3,n4,n5,n6⟩:=hr.sl x (aj he);have hR1:=λJ=>So (J:=J) n3 n4
  have hR2:=λJ=>So (J:=J) n5 n6
  unfold i9 at n1 n2;have hI0:=λJ=>wG (J:=J) (n:=(i:Int)) (by omega)
  have hI1:=λJ=>wG (J:=J) (n:=x.tick) (by omega)
  have hI2:=λJ=>wG (J:=J) (n:=x.QE) (by omega)
  rw[bw he,IX,<- cp];have hml:=P8 (k:=i) (x:=x);have ih:=Wt hr hl (er:=er) m (i+1) (bs++NW i x) (by omega) (by simp;omega);have hbs:bs.length<=900000:=by omega
  have hS:=Sr (J:=J) (b:=b) (er:=er) (bs:=bs) (ds:=[.str KY,.str (fH i),.str KZ,.str (fH x.tick),.str Ge,.str (fH x.QE),.str K0,.str (CY x.wlo x.whi),.str Gd,.str (CY x.mlo x.mhi)]) (xs:=[KY,fH i,KZ,fH x.tick,Ge,fH x.QE,K0,CY x.wlo x.whi,Gd,CY x.mlo x.mhi]) (n:=10) rfl rfl (by omega) (by have:=hml;simp only[NW]at this;omega);simp only[NW]at ih;simp only[N2,Ng,Bk.cells,KY,KZ,Ge,K0,Gd]at hS ih ⊢;simp[h1,a1,a2,a3,h4,hI0,hI1,hI2,hR1,hR2,hS];exact WL.to ih (by simp) (by simp) λx e J' hh=>by simpa[NW,KY,KZ,Ge,K0,Gd]using hh
theorem T2{b:Bk}{L:Nat}{G:List Abs.aG}{S:SK}(h1:b.rules.length<=1000000)(h2:b.pY.length<=1000000)(h3:∀e∈b.pY,e.sp.length<=1000000)(hs:eT S L=some G)(hG1:G[1]?=some (.cells b.rules.length (fM b.rules Trem.cH.enc)))(hG2:G[2]?=some (.cells b.pY.length (fM b.pY Trem.Ev.enc)))(hc6:G[6]?=some (.cells 0 (b.cells L))):
  Cl 43 [.ref L 6 0 0] (.int .u8 (eg b)) S:=by
 refine au ?_;have hlt:=zm hs;have hne:¬S.length=L:=by omega
 have h:=Ov (J:=[]::S) (lv:=L) (G:=G) (R:=b.rules) (l:=b.pY) (now:=b.aw.length) (by simp[eT,hne,hs]) hG1 hG2 (by omega) (by omega) (λe he=>by have:=h3 e he;omega);unfold eg;by_cases hc:Trem.kZ b.rules b.pY b.aw.length=0
 .rw[if_pos hc]at h;simp[hne,hs,hc6,Bk.cells,h,hc]
 .rw[if_neg hc]at h;simp[hne,hs,hc6,Bk.cells,h,hc]
theorem mpB{S:SK}{t e:Nat}:Dd S (.Lj t e) []=(fQ S (.cells 2 [iI (t:Nat),iI (e:Nat),.str []])).map λx=>(.jS x.1 x.2.1,x.2.2):=rfl
theorem Oy{lines:List (List UInt8)}(hl:NI lines):Cl 17 [lF lines dj] (.cN [.str (xQ (mo lines).1),iI 0]) J:=by
 refine au ?_;have hC:=λS=>Dm (J:=S) (l:=lines) (by have:=hl.1;omega)
 have hok:okB lines=true:=Hc.2 hl;simp only[hok,if_true]at hC;have hRun:=V7 (J:=J) (lines:=lines) hl;have hK:=KS (l:=lines) (k:=0) Kv.zero hl.2;have hP:=KT (l:=lines) (k:=0) Rp.zero Kv.zero hl.2 (by have:=hl.1;omega);rw[show(kD gY ((0:Nat):Int) lines).1=(mo lines).1 from rfl]at hP;rw[show(kD gY 0 lines).1=(mo lines).1 from rfl]at hK;generalize (mo lines).1=b at hRun hK hP ⊢;generalize (mo lines).2=er at hRun;have hpl:=(jX hK.pl).1;have hsl:b.cA.length<=100:=by have:=hK.cA;have:=hl.1;omega
 have hwl:b.aS.av.length<=8:=by
  cases hr:b.ready with
  |true=>exact(Bv.of (hK.ready hr)).av
  |false=>rw[hK.av hr];simp
 have hcb:0<=eg b/\eg b<=255:=by have:=@Bh b;omega
 have hI0:=λJ=>wG (J:=J) (n:=(b.aw.length:Int)) (by omega)
 have hI1:=λJ=>wG (J:=J) (n:=eg b) (by omega)
 have hI2:=λJ=>wG (J:=J) (n:=(b.aS.av.length:Int)) (by omega)
 have hcol:=T2 (b:=b) (L:=J.length) (G:=N2 J.length b er []) (S:=N2 J.length b er []::J) (by have:=hK.rules;omega) (by have:=hK.pY;omega) (λe he=>by have:=hK.K5 e he;simp only[Trem.Ev.ok,af,Trem.aR]at this;omega) (by simp) rfl rfl rfl;have hhl:(F8 b).length<=1000:=by
  have q0:=@ep b.aw.length;have q1:=@ep (eg b);have q2:=@ep b.aS.av.length;simp only[F8,CJ,rW,cV,mX,aT,Ek,Am,Em,aE,aY];omega
 have hS:=Sr (J:=J) (b:=b) (er:=er) (bs:=[]) (ds:=[.str Ek,.str (fH b.aw.length),.str Am,.str (fH (eg b)),.str Em,.str (fH b.aS.av.length)]) (xs:=[Ek,fH b.aw.length,Am,fH (eg b),Em,fH b.aS.av.length]) (n:=6) rfl rfl (by omega) (by have:=hhl;simp only[F8]at this;simp;omega);have hM:=Ws (J:=J) (er:=er) hP hK.ml b.ai.length 0 (F8 b) (by omega) (by have:=hK.ml;omega);have hcw:=cb (n:=eg b);have n1:=jW (f:=pE) b.aw;have n2:=jW (f:=bG.enc) b.aS.av;simp only[N2,Ng,Bk.bF,Bk.cells,Ek,Am,Em]at hS hM hRun hcol;simp[hC,hRun,mpB,hI0,hI1,hI2,hcol,hcw,n1,n2,hS];refine WL.to hM (by simp) (by simp[F8,Ek,Am,Em]) ?_;rintro x e J' ⟨rfl,g5,g7,g8,g9,rfl⟩;have hML:(F8 b++fM b.ai xP).length<=250000:=by
  have h1:=H5 (l:=b.ai) λe he=>(hP.nm e he).1
  have h2:=hK.ml;simp only[aT];omega
 have hT:=Wt (J:=J) (er:=er) hP (by omega) b.cA.length 0 (F8 b++fM b.ai xP) (by omega) (by omega);simp only[N2,Ng,Bk.cells]at hT;simp[g5,g7,g8,g9];refine WL.to hT (by simp) (by simp) ?_;rintro x e J' ⟨rfl,g7,rfl⟩;have hne:xQ b≠[]:=by
  intro h;have:=congrArg List.length h;simp[xQ,F8,CJ]at this
 have hB:Cl 45 [.jS J.length 8] (.str (xQ b)) (N2 J.length b er (xQ b)::J):=zb Ay Av (by simp[Ea,N2,Ng,hne]);simp only[xQ,N2,Ng,Bk.cells,cp]at hB ⊢;rw[aB];simp[g7,hB]
theorem QO{lines:List (List UInt8)}(hl:lines.length<=1000000000)(hok:okB lines=false):Cl 17 [lF lines dj] (.cN [.str [],iI 3]) J:=by
 refine au ?_;have hC:=λS=>Dm (J:=S) (l:=lines) hl
 simp only[hok]at hC;simp[hC]
theorem adq{a:List Abs.aG}{n:Nat}{x:Abs.aG}(h:a.length=n):(a++[x])[n]?=some x:=by subst h;simp
theorem ZW{a:List Abs.aG}{n:Nat}{x y:Abs.aG}(h:a.length=n):(a++[x]).set n y=a++[y]:=by subst h;simp
theorem Py{A:List Abs.aG}{b:Bk}{er:List Int}{n:Nat}(hn:er.length=n):∃s,cI J.length 16 (.cN [.ref (J.length+1) 6 0 0,.sl (J.length+1) 7 n 0 n 1]) (b.bF (J.length+1) er::A::J)=(.cN [.undef,.bV n (fM er aP)],s::A::J):=by
 subst hn;rw[pZ (by rfl) (by omega)];have h1:∀S,cI J.length 15 (.ref (J.length+1) 6 0 0) S=(.undef,S):=λS=>by unfold cI;simp[D.clean]
 have hk:=lD (J:=A::J) (n:=15) (f:=aP) (w:=1) (l:=er) (j:=7) (v:=er.length) (bs:=b.bF (J.length+1) er) (by decide) (λ_=>rfl) (λx=>by simp[aP,D.clean]) (by simp) rfl;simp only[aE,Nat.add_sub_cancel]at hk;simp only[jP,kR,Nat.reduceSub,h1,hk];exact⟨_,rfl⟩
theorem Wx{lines:List (List UInt8)}{A:List Abs.aG}{cs:List D}{j v:Nat}(hA:A[j]?=some (.cells v cs))(hcl:lines.length<=cs.length)(hcs:∀i s,lines[i]?=some s->∃r,cs.drop i=.str s::r)(hl:okL lines):∀(m i:Nat) (b:Bk) (er:List Int),i+m=lines.length->er.length=i->Kv i b ->
  WL T [4,5,12,13,14] false gb [(4,.ref (J.length+1) 6 0 0),(5,.sl (J.length+1) 7 i 0 i 1),(12,.sl J.length j v 0 lines.length 1),(13,iI lines.length),(14,iI i)] (b.bF (J.length+1) er::A::J)
   (λx e J'=>x=.exit 0/\get e 4=.ref (J.length+1) 6 0 0/\get e 5=.sl (J.length+1) 7 lines.length 0 lines.length 1/\J'=(kD b i (lines.drop i)).1.bF (J.length+1) (er++(kD b i (lines.drop i)).2)::A::J)
 |0,i,b,er,hi,he,hK=>by
  refine az gb.eq_1 ?_;obtain rfl:i=lines.length:=by omega
  have h2:lines.drop lines.length=[]:=an (by omega);simp[h2,kD]
 |m+1,i,b,er,hi,he,hK=>by
  refine az gb.eq_1 ?_;have h1:i<lines.length:=by omega
  obtain⟨s,hs⟩:=gE h1;obtain⟨r,hdr⟩:=hcs i s hs;have h4:=cg h1 (by have:=hl.1;omega);have hsl:=hl.2 s (aj hs);have hn:=hl.1;have hC:=VM (J:=A::J) (b:=b) (er:=er) (s:=s) (k:=i) hK (by omega) hsl;have hK':=hK.line hsl (k:=i);rw[bw hs];simp only[kD];generalize mV b i s=r at hC hK' ⊢;obtain⟨b',e⟩:=r;have ih:=Wx hA hcl hcs hl m (i+1) b' (er++[e]) (by omega) (by simp[he]) hK';have hel:=pO er;have het:(fM er aP).take i=fM er aP:=ah (by omega);have hr:(i+1)*8<=room:=by unfold room;omega
  simp only[Bk.bF,Bk.cells,he,aE]at hC;simp[h1,hA,hdr,h4,hC,Bk.bF,Bk.cells,hr,hel,het,he];refine WL.to ih (by simp) (by simp[Bk.bF,Bk.cells,he]) λx e' J' hh=>?_
  have e1:((i+1:Nat):Int)=(i:Int)+1:=by omega
  rw[e1]at hh;simpa[Bk.bF,Bk.cells]using hh
theorem acU{lines:List (List UInt8)}{A:List Abs.aG}{cs:List D}{j v:Nat}(hA:A[j]?=some (.cells v cs))(hcl:lines.length<=cs.length)(hcs:∀i s,lines[i]?=some s->∃r,cs.drop i=.str s::r)(hl:okL lines):Cl 32 [.sl J.length j v 0 lines.length 1] (.cN [.undef,.bV lines.length (fM (mo lines).2 aP)]) (A::J):=by
 refine au ?_;have hL:=Wx (J:=J) hA hcl hcs hl lines.length 0 gY [] (by omega) rfl Kv.zero;rw[aB]at hL;simp;refine WL.to hL (by simp) (by simp[Bk.bF,Bk.cells,gY,nl]) ?_;rintro x e J' ⟨rfl,g4,g5,rfl⟩;simp[g4,g5,mo];exact Py (A:=A) (by rw[xS])
theorem acT{lines:List (List UInt8)}(hl:okL lines)(hJ:J≠[]):Cl 32 [lF lines dj] (.cN [.undef,.bV lines.length (fM (mo lines).2 aP)]) J:=by
 obtain⟨A,J,rfl⟩:∃A s,J=A::s:=by cases J with | nil=>exact absurd rfl hJ | cons A s=>exact⟨A,s,rfl⟩
 refine au ?_;have hL:=Q5 (J:=A::J) hl lines.length 0 gY [] (by omega) rfl Kv.zero;rw[aB]at hL;simp only[aE]at hL;simp;refine WL.to hL (by simp) (by simp[Bk.bF,Bk.cells,gY,nl]) ?_;rintro x e J' ⟨rfl,g4,g5,rfl⟩;simp[g4,g5,mo];exact Py (A:=A) (by rw[xS])
def EY(w wo:List Int):Nat->Nat->List Int
 |_,0=>[]
 |i,m+1=>(if w[i]?=wo[i-1]? then []else [(i:Int)])++EY w wo (i+1) m
theorem Wl{lines:List (List UInt8)}{w wo:List Int}{A:List Abs.aG}{n:Nat}(hn:lines.length=n)(hw:w.length=n)(hwo:wo.length+1=n)(hl:n<=100){q:Nat}(hq:A.length=q):∀(m i:Nat) (acc:List Int),i+m=n->1<=i->acc.length+m<=100 ->
  WL T [0,8,10,11,12] false iF [(0,.bV n (fM lines dj)),(8,.bV n (fM w aP)),(10,.bV (n-1) (fM wo aP)),(11,.sl J.length q acc.length 0 acc.length 1),(12,iI i)] ((A++[.cells acc.length (fM acc aP)])::J)
   (λx e J'=>x=.exit 0/\get e 11=.sl J.length q (acc++EY w wo i m).length 0 (acc++EY w wo i m).length 1/\J'=(A++[.cells (acc++EY w wo i m).length (fM (acc++EY w wo i m) aP)])::J)
 |0,i,acc,hi,h0,ha=>by
  refine az iF.eq_1 ?_;obtain rfl:i=n:=by omega
  simp[EY]
 |m+1,i,acc,hi,h0,ha=>by
  refine az iF.eq_1 ?_;have⟨h1,h1'⟩:i<n/\i-1<n-1:=by omega
  obtain⟨x,hx⟩:∃s,w[i]?=some s:=gE (by omega);obtain⟨y,hy⟩:∃s,wo[i-1]?=some s:=⟨_,aJ (by omega)⟩;have a1:=bd (f:=aP) (w:=1) (λ_=>rfl) hx;have a2:=bd (f:=aP) (w:=1) (λ_=>rfl) hy;simp only[aP,bX]at a1 a2;have h4:=cg h1;have w1:IntKind.i64.wrap ((i:Int)-1)=((i-1:Nat):Int):=(cb).trans (by omega);have fl:=pO acc;have tk:(fM acc aP).take acc.length=fM acc aP:=ah (by omega);have hr:(acc.length+1)*8<=room:=by unfold room;omega
  have b1:=λx=>adq (x:=x) hq
  have b2:=λx y=>ZW (x:=x) (y:=y) hq
  by_cases hc:x=y
  .subst hc;have hd:EY w wo i (m+1)=EY w wo (i+1) m:=by rw[EY,hx,hy];simp
   rw[hd];simp[h1,h1',a1,a2,h4,w1];exact WL.to (Wl hn hw hwo hl hq m (i+1) acc (by omega) (by omega) (by omega)) (by simp) rfl λx e J' hh=>by simpa using hh
  .have hd:EY w wo i (m+1)=(i:Int)::EY w wo (i+1) m:=by rw[EY,hx,hy];simp[hc]
   rw[hd,show acc++(i:Int)::EY w wo (i+1) m=(acc++[(i:Int)])++EY w wo (i+1) m by simp];simp[h1,h1',a1,a2,h4,w1,hc,b1,b2,fl,tk,hr];exact WL.to (Wl hn hw hwo hl hq m (i+1) (acc++[(i:Int)]) (by omega) (by omega) (by simp;omega)) (by simp) (by simp) λx e J' hh=>by simpa using hh
def Gq(l:List (List UInt8))(k:Nat):List (List UInt8):=l.take k++l.drop (k+1)
def Jj(l:List (List UInt8))(k:Nat):List Int:=EY (mo l).2 (mo (Gq l k)).2 (k+1) (l.length-(k+1))
theorem Qw(l:List (List UInt8)):fM l dj=l.map .str:=by
 induction l with
 |nil=>rfl
 |cons a l ih=>rw[cV,ih];rfl
theorem Sb(l:List (List UInt8)):wQ (l.map .str)=some l:=by
 induction l with
 |nil=>rfl
 |cons a l ih=>simp[wQ,ih]
theorem VF{l:List (List UInt8)}(hne:l≠[])(hl:l.length<=1000000):dp T (.call true 38 [lF l dj] ([]::J)) =
  some (.val (.sl J.length 0 1 0 l.length 1) ([.cells 1 (fM l dj)]::J)):=by
 refine vw rfl rfl rfl ?_;have h7:l.length*16<=room:=by unfold room;omega
 have h8:(fM l dj).length=l.length:=by rw[Qw];simp
 simp[hne,h7,h8]
theorem TS{lines:List (List UInt8)}{k:Nat}(hl:NI lines)(hk:k<lines.length)(hJ:J≠[]):Cl 14 [lF lines dj,iI k] (.cN [lF (Jj lines k) aP,iI 0]) J:=by
 refine au ?_;have hC:=λS=>Dm (J:=S) (l:=lines) (by have:=hl.1;omega)
 have hok:okB lines=true:=Hc.2 hl;simp only[hok,if_true]at hC;have hlen:=hl.1;have hRun:=λS hS=>acT (J:=S) (lines:=lines) hl hS
 have hne:lines≠[]:=λh=>by rw[h]at hk;simp at hk
 have hCl:=VF (J:=J) hne (by omega);have hcl:(Gq lines k).length=lines.length-1:=by simp[Gq];omega
 have hck:NI (Gq lines k):=⟨by omega,λs hs=>by
  rcases aU.1 hs with h | h
  .exact hl.2 s (dA h)
  .exact hl.2 s (dz h)⟩
 have hD:dp T (.call false 37 [.sl J.length 0 1 0 lines.length 1,iI k,iI ((k:Int)+1)] ([.cells 1 (fM lines dj)]::J)) =
   some (.val (.sl J.length 0 1 0 (lines.length-1) 1) ([.cells 1 ((Gq lines k).map .str++[.str []])]::J)):=zb B0 BX (by
  have⟨q1,q2,q3,q4,q5,q6⟩:¬lines.length=0/\lines.length<=1000000/\(k:Int)+1<=lines.length/\((k:Int)+1).toNat-k=1/\((k:Int)+1).toNat=k+1/\(k:Int)<=(k:Int)+1:=by omega
  have e1:(lines.map D.str).take lines.length=lines.map D.str:=ah (by simp);have e2:(lines.map D.str).drop lines.length=[]:=an (by simp);have e3:=Sb lines;simp[Ea,Qw,q1,q2,q3,q5,q6,e1,e2,e3,AD,Gq,-List.map_take,-List.map_drop])
 have hS:=λA hA=>acU (J:=J) (lines:=Gq lines k) (A:=A) (cs:=(Gq lines k).map .str++[.str []]) (j:=0) (v:=1) hA (by simp) (λi s hi=>by
  have h1:=(aC.1 hi).1;rw[List.drop_append_of_le_length (by simp;omega),<- List.map_drop,bw hi];exact⟨_,rfl⟩) hck
 have hS2:=hS [.cells 1 ((Gq lines k).map .str++[.str []])] rfl;rw[hcl]at hS2;have hin:bC (k:Int) 0 ((lines.length:Int)-1)=true:=aR.2 ⟨by omega,by omega⟩;have w1:=cb (n:=(lines.length:Int)-1);have w2:=cb (n:=(k:Int)+1);have hw:=@xS lines gY 0;have hwo:=@xS (Gq lines k) gY 0;rw[hcl]at hwo;have hL:=Wl (J:=J) (lines:=lines) (w:=(mo lines).2) (wo:=(mo (Gq lines k)).2) (A:=[.cells 1 ((Gq lines k).map .str++[.str []])]) rfl hw (by show(kD gY 0 (Gq lines k)).2.length+1=_;omega) (by omega) (q:=1) rfl (lines.length-(k+1)) (k+1) [] (by omega) (by omega) (by simp;omega);simp only[List.nil_append]at hL;rw[show EY (mo lines).2 (mo (Gq lines k)).2 (k+1) (lines.length-(k+1))=Jj lines k from rfl]at hL;generalize Jj lines k=q at hL ⊢;simp[hC,eK,hRun,hCl,hD,hS2,hin,w1,w2];refine WL.to hL (by simp) (by simp) ?_;rintro x e J' ⟨rfl,g11,rfl⟩;simp[g11];exact⟨_,Xl (lD (n:=15) (f:=aP) (w:=1) (l:=q) (by decide) (λ_=>rfl) (λ_=>by simp[aP,D.clean]) hJ (by simp))⟩
end
section
open Go Go.Abs Go.Rock Go.Book
def Uj(b b':Bk):Prop:=∀(i:Nat) (e:dY),b.ai[i]?=some e->∃e',b'.ai[i]?=some e'/\e'.m=e.m/\(e.left=false->e'=e)
theorem Uj.refl(b:Bk):Uj b b:=λi e h=>⟨e,h,rfl,λ_=>rfl⟩
theorem Uj.trans{a b c:Bk}(h1:Uj a b)(h2:Uj b c):Uj a c:=by
 intro i e h;obtain⟨e1,k1,k2,k3⟩:=h1 i e h;obtain⟨e2,j1,j2,j3⟩:=h2 i e1 k1;refine⟨e2,j1,j2.trans k2,λhl=>?_⟩;obtain rfl:=k3 hl;exact j3 hl
end
section
open Go Go.Abs Go.Rock Go.Book
variable {J:SK}
theorem Wp{a:List Int}(hl:a.length<=1000000000):∀(m i:Nat),i+m=a.length ->
  WL T [0,1,5] false oi [(0,lF a aP),(1,lF a aP),(5,iI i)] J (λx e J'=>J'=J/\x=.exit 0)
 |0,i,hi=>by
  refine az oi.eq_1 ?_;have h1:¬i<a.length:=by omega
  simp[h1]
 |m+1,i,hi=>by
  refine az oi.eq_1 ?_;have h1:i<a.length:=by omega
  obtain⟨x,hx⟩:=gE h1;have a1:=bd (f:=aP) (w:=1) (λ_=>rfl) hx;simp only[aP,bX]at a1;have h4:=cg h1;simp[h1,a1,h4];exact WL.to (Wp hl m (i+1) (by omega)) (by simp) rfl λx e J' hh=>by simpa using hh
theorem acI{a:List Int}(hl:a.length<=1000000000):Cl 15 [lF a aP,lF a aP] (.bool true) J:=by
 refine au ?_;simp;refine WL.to (Wp (J:=[]::J) hl a.length 0 (by omega)) (by simp) rfl ?_;rintro x e J' ⟨rfl,rfl⟩;simp
theorem OB{s t:List UInt8}:Cl 28 [.str s,.str t] (.bool (decide (t.length<=s.length) && (s.take t.length == t))) J:=by
 refine au ?_;by_cases h:t.length<=s.length
 .have h':(t.length:Int)<=s.length:=by omega
  simp[fS,h,h']
 .have h':¬(t.length:Int)<=s.length:=by omega
  simp[fS,h,h']
theorem abu{l:List (List UInt8)}(hl:l.length<=9223372036854775807):∀(m i:Nat) (x y z:Int),i+m=l.length ->
  WL T [0,3,4,5,6] false oh [(0,lF l dj),(3,iI x),(4,iI y),(5,iI z),(6,iI i)] J
   (λx e J'=>J'=J/\x=.exit 0/\get e 0=lF l dj/\∃u v w,get e 3=iI u/\get e 4=iI v/\get e 5=iI w)
 |0,i,x,y,z,hi=>by
  refine az oh.eq_1 ?_;have h1:¬i<l.length:=by omega
  simp[h1]
 |m+1,i,x,y,z,hi=>by
  refine az oh.eq_1 ?_;have h1:i<l.length:=by omega
  obtain⟨s,hs⟩:=gE h1;have a1:=bd (f:=dj) (w:=1) (λ_=>rfl) hs;simp only[dj,bX]at a1;have h4:=cg h1;have hB:=λt J=>@OB J s t
  have e1:((i+1:Nat):Int)=(i:Int)+1:=by omega
  have ih:=λx y z=>abu hl m (i+1) x y z (by omega)
  rw[e1]at ih;rw[e1]at h4;generalize hv:(λt:List UInt8=>decide (t.length<=s.length) && (s.take t.length == t))=v at hB;have hB':∀t J,Cl 28 [.str s,.str t] (.bool (v t)) J:=λt J=>by rw[<- hv];exact OB
  cases c1:v [109,111,100,101,108]<;>cases c2:v [116,105,99,107]<;>simp[fS,h1,a1,h4,hB',c1,c2]<;>
   exact WL.to (ih _ _ _) rfl rfl λx e J' hh=>by simpa using hh
theorem af5{l:List (List UInt8)}(hl:l.length<=9223372036854775807)(J:SK):∃v,Cl 8 [lF l dj] (.bool v) J/\(v=true->l.length<=103):=by
 obtain⟨x,e,J',h1,rfl,rfl,g0,u,v,w,g3,g4,g5⟩:=abu (J:=[]::J) hl l.length 0 0 0 0 (by omega);refine⟨decide (v<=4) && (decide (w<=8) && (decide (u<=5000) && (decide ((l.length:Int)<=40) || (decide (u<=400) && decide ((l.length:Int)<=103))))),?_,λh=>by simp only[af,cj,aA]at h;omega⟩;refine au ?_;simp;refine⟨_,_,_,by simpa using h1,?_⟩;by_cases c1:v<=4<;>by_cases c2:w<=8<;>by_cases c3:u<=5000<;>by_cases c4:(l.length:Int)<=40<;>by_cases c5:u<=400<;>by_cases c6:(l.length:Int)<=103<;>
  simp[g0,g3,g4,g5,c1,c2,c3,c4,c5,c6]
theorem Ku{α:Type}{p:α->Bool}:∀(l:List α),(idxOf p l = -1/\∀x∈l,p x=false)\/∃(k:Nat) (x:α),idxOf p l=k/\l[k]?=some x/\p x=true
 |[] => .inl ⟨rfl,by simp⟩
 |a::l=>by
  cases ha:p a with
  |true=>exact .inr ⟨0,a,by simp[idxOf,ha],rfl,ha⟩
  |false =>
   rcases Ku (p:=p) l with⟨h1,h2⟩ | ⟨k,x,h1,h2,h3⟩
   .refine .inl ⟨by simp[idxOf,ha,h1],λx hx=>?_⟩;rcases bx.1 hx with rfl | hx
    .exact ha
    .exact h2 x hx
   .refine .inr ⟨k+1,x,?_,by simpa using h2,h3⟩;have:¬(k:Int)<0:=by omega
    simp[idxOf,ha,h1,this]
def QF:Dn:=⟨0,0,0,0⟩
def Xg(b:Bk)(nm:List UInt8):D :=
 if idxOf (λe=>e.m.name == nm) b.ai<0 then .cN [.agg QF.enc,iI 5]
 else match b.ai[(idxOf (λe=>e.m.name == nm) b.ai).toNat]?,b.eI[(idxOf (λe=>e.m.name == nm) b.ai).toNat]? with
  |some e,some v=>if e.left then .cN [.agg QF.enc,.int .i64 7]else .cN [.agg v.enc,.int .i64 0]
  |_,_ => .undef
theorem YY{e:dY}{nm:List UInt8}:Cl 34 [.agg e.enc,.bg [.str nm]] (.bool (e.m.name == nm)) J:=by
 refine au ?_;simp[fS]
theorem T6{b:Bk}{er:List Int}{nm:List UInt8}{S:SK}(hl:b.ai.length<=1000000)(hs:eT S J.length=some (b.bF J.length er)):
  Cl 33 [.sl J.length 0 b.ai.length 0 b.ai.length 4,.fn 34 [] [.bg [.str nm]]] (iI (idxOf (λe=>e.m.name == nm) b.ai)) S :=
 Kx (enc:=dY.enc) (w:=4) (λ_=>rfl) (F:=b.bF J.length er) (bi:=0) (v:=b.ai.length) (l:=b.ai) rfl (by simp[Bk.bF]) (by omega)
  ⟨rfl,rfl,λe _ J=>by rw[pf];have h:=YY (J:=J) (e:=e) (nm:=nm);have h':dp T (.call false 34 ([]++[.agg e.enc]++[.bg [.str nm]]) J)=_:=h;rw[h'];rfl⟩ hs
theorem acu{lines:List (List UInt8)}{nm:List UInt8}(hl:NI lines)(hJ:J≠[]):Cl 10 [lF lines dj,.str nm] (Xg (mo lines).1 nm) J:=by
 refine au ?_;have hC:=λS=>Dm (J:=S) (l:=lines) (by have:=hl.1;omega)
 have hok:okB lines=true:=Hc.2 hl;simp only[hok,if_true]at hC;have hR:=V7 (J:=J) (lines:=lines) hl;have hK:=KS (l:=lines) (k:=0) Kv.zero hl.2;rw[show(kD gY 0 lines).1=(mo lines).1 from rfl]at hK;have hml:=hK.ml;have hwl:=hK.wl;generalize mo lines=r at hR hml hwl ⊢;obtain⟨b,er⟩:=r;simp only at hR hml hwl ⊢;have hI:=T6 (J:=J) (b:=b) (er:=er) (nm:=nm) (S:=b.bF J.length er::J) (by omega) (by simp[eT]);simp only[Bk.bF,Bk.cells]at hR hI;unfold Xg;rcases Ku (p:=λe:dY=>e.m.name == nm) b.ai with⟨h1,_⟩ | ⟨k,e,h1,h2,h3⟩
 .rw[h1]at hI ⊢;simp[hC,hR,hI,QF]
 .rw[h1]at hI ⊢;have hk:=(aC.1 h2).1;obtain⟨v,hv⟩:∃v,b.eI[k]?=some v:=gE (by omega);have a1:=bd (f:=dY.enc) (w:=4) (λ_=>rfl) h2;have a2:=bd (f:=Dn.enc) (w:=4) (λ_=>rfl) hv;have b1:=bZ (f:=dY.enc) (w:=4) (λ_=>rfl) b.ai;have b2:=bZ (f:=Dn.enc) (w:=4) (λ_=>rfl) b.eI;have⟨c1,c2⟩:4<=(fM b.ai dY.enc).length-k*4/\4<=(fM b.eI Dn.enc).length-k*4:=by omega
  have d1:=pP (f:=dY.enc) (w:=4) (λ_=>rfl) h2;have⟨n0,n1,n2,hkw⟩:¬(k:Int)<0/\(k:Int)<b.ai.length/\(k:Int)<b.eI.length/\k<b.eI.length:=by omega
  simp only[dY.enc,Dn.enc]at a1 a2 d1;have d3:(fM b.ai dY.enc).drop (k*4+2)=.bool e.left::iI e.L8::(fM b.ai dY.enc).drop (k*4+4):=by
   have:=congrArg (List.drop 2) d1;simpa[dY.enc,dc]using this
  rw[if_neg n0,Int.toNat_natCast,h2,hv];cases hle:e.left
  .simp[hC,hR,hI,QF,a2,d3,n0,n1,n2,hle,c2]
  .simp[hC,hR,hI,QF,d3,n0,n1,hle]
def J6:List (List UInt8):=[[102,105,101,108,100,32,50,32,49,32,49,32,52],[116,97,98,108,101,32,49,48,48,32,49,48,49,32,52,49,57,32,50,54,55,54,32,49,53,48,32,49,53,48,32,52,55,54,32,54,51,50,32,50,55,52,54,32,51,48,48,32,50,48,48,32,49,53,53,53,32,56,53,50,32,50,55,57,51,32,54,48,48],[98,101,100,32,49,48,48,48,32,48,32,56,48,48],[119,101,108,108,32,48,32,53,48,48,32,53],[109,111,100,101,108,32,97,32,56,48,48,48,32,56,48,48,48,32,53,48,48,32,52,48,48,32,57,48,48,32,52,48,48,32,48,32,49,48],[109,111,100,101,108,32,98,32,56,48,48,48,32,56,48,48,48,32,53,48,48,32,52,48,48,32,57,48,48,32,53,48,48,32,48,32,49,48],[108,111,103,32,116,49,32,50,32,51,57,48,32,52,49,48,32,49,32,49],[114,117,108,101,32,48,32,48,32,48,32,57,32,57,32,57,32,50,48,32,53,32,49,32,49],[113,117,97,107,101,32,49,32,49,32,49,32,50,53],[116,105,99,107,32,45,49,48,48],[116,105,99,107,32,53,48],[117,110,105,116,32,48,32,49,48,48,32,52,48,48],[115,101,108,108,32,48,32,48,32,48,32,51]]
def agJ:List UInt8:=[116,105,99,107,115,32,50,32,99,111,108,111,117,114,32,49,32,119,101,108,108,115,32,49,10,109,111,100,101,108,32,97,32,108,101,102,116,10,109,111,100,101,108,32,98,32,115,116,114,117,99,107,32,54,10,115,97,108,101,32,48,32,116,105,99,107,32,50,32,119,101,108,108,32,48,32,119,111,114,107,32,52,48,48,48,46,46,52,48,48,48,32,109,111,110,101,121,32,49,50,48,48,48,46,46,49,50,48,48,48,10]
theorem Z2:xQ (mo J6).1=agJ:=by kernel_rfl
theorem Z1:Jj J6 3=[9,10,12]:=by kernel_rfl
theorem W6:Xg (mo J6).1 [98]=.cN [.agg [iI 6,iI 500,iI 390,iI 410],iI 0]:=by kernel_rfl
theorem Re:NI J6:=⟨by decide,by decide⟩
theorem af6:Cl 29 [] (.bV 13 (fM J6 dj)) J:=by
 refine au ?_;simp[J6,dj]
theorem VC(J:SK):Cl 9 [] (.bool true) J:=by
 refine oT Li vy.eq_1 rfl ?_;have hD:=λJ=>af6 (J:=J)
 try simp only[Cl]at hD
 have hR:=λJ=>Oy (J:=J) Re
 try simp only[lF,Cl]at hR
 have hF:=λS hS=>acu (J:=S) (lines:=J6) (nm:=[98]) Re hS
 try simp only[lF,Cl]at hF
 have hP:=λS hS=>TS (J:=S) (lines:=J6) (k:=3) Re (by decide) hS
 try simp only[lF,Cl]at hP
 have hW:∀S,S≠[]->Cl 30 [.bV 1 [.str [97]]] (.cN [.bV 7 [.int .u8 0,.int .u8 1,.int .u8 255,.int .u8 254,.int .u8 97,.int .u8 0,.int .u8 128],iI 0]) S:=λS hS=>Y6 (J:=S) (l:=[[97]]) (by decide) hS
 try simp only[Cl]at hW
 rw[Z2]at hR;rw[W6]at hF;rw[Z1]at hP;have hI:∀J,Cl 15 [.bV 3 [iI 9,iI 10,iI 12],.bV 3 [iI 9,iI 10,iI 12]] (.bool true) J:=λJ=>acI (J:=J) (a:=[9,10,12]) (by decide)
 try simp only[Cl]at hI
 have hP:∀S,S≠[]->Cl 14 [.bV 13 (fM J6 dj),iI 3] (.cN [.bV 3 [iI 9,iI 10,iI 12],iI 0]) S:=hP
 try simp only[Cl]at hP
 rw[show J6.length=13 from rfl]at hR hF;generalize fM J6 dj=dl at hD hR hF hP;have hB:Cb [.int .u8 0,.int .u8 1,.int .u8 255,.int .u8 254,.int .u8 97,.int .u8 0,.int .u8 128]=some [0,1,255,254,97,0,128]:=rfl;simp[fS,UR,hD,hR,hF,hP,hW,hI,hB,agJ]
end
section
open Go Go.Abs Go.Book
theorem aaV{α:Type}{T:Ty}{w:Nat}{f:α->List D}{Q:α->Prop}(h:∀ds,T.has ds->∃a,ds=f a/\Q a){d:D}(hd:(Ty.slice w T).has [d]):
  ∃l:List α,d=.bV l.length (fM l f)/\l.length<=maxLen/\∀a∈l,Q a:=by
 simp only[Ty.has,jT,and_true]at hd;obtain⟨xs,rfl,hl,hx⟩:=hd;have key:∀xs:List (List D),(∀x∈xs,x.length=w/\T.has x)->∃l:List α,xs.flatten=fM l f/\l.length=xs.length/\∀a∈l,Q a:=by
  intro xs;induction xs with
  |nil=>intro _;exact⟨[],rfl,rfl,by simp⟩
  |cons x xs ih =>
   intro hx;obtain⟨l,h1,h2,h3⟩:=ih λy hy=>hx y (by simp[hy])
   obtain⟨a,rfl,ha⟩:=h x (hx x (by simp)).2;exact⟨a::l,by simp[h1],by simp[h2],λb hb=>by
    rcases bx.1 hb with rfl | hb
    .exact ha
    .exact h3 b hb⟩
 obtain⟨l,h1,h2,h3⟩:=key xs hx;exact⟨l,by rw[h1,h2],by omega,h3⟩
theorem aa8{ds:List D}(h:Ty.str.has ds):∃s:List UInt8,ds=dj s/\s.length<=maxLen:=h
end
section
open Go Go.Abs Go.Rock Go.Book
variable {J:SK}
theorem VG{u:Nat}(h:u<10):Cl 46 [iI u] (.str [UInt8.ofNat (48+u)]) J:=by
 refine au ?_;have hb:Cb [.int .u8 (IntKind.u8.wrap (IntKind.i64.wrap (48+(u:Int))))]=some [UInt8.ofNat (48+u)]:=by
  rcases(show u=0\/u=1\/u=2\/u=3\/u=4\/u=5\/u=6\/u=7\/u=8\/u=9 by omega)with rfl | rfl | rfl | rfl | rfl | rfl | rfl | rfl | rfl | rfl<;>rfl
 have⟨h0,h1⟩:¬(u:Int)<0/\(u:Int)<10:=by omega
 simp[UR,h0,h1,hb]
theorem QT:∀(k u:Nat),u<10^k->0<k->k<=20->u<=9223372036854775807->∀J:SK,Cl 46 [iI u] (.str (pk k u)) J
 |0,u,h,h0,_,_,J=>by omega
 |k+1,u,h,_,hk,hu,J=>by
  have hd:pk (k+1) u=if u<10 then [UInt8.ofNat (48+u)]else pk k (u / 10)++[UInt8.ofNat (48+u%10)]:=rfl
  rw[hd];by_cases h1:u<10
  .rw[if_pos h1];exact VG h1
  rw[if_neg h1];refine au ?_;have⟨h0,h1'⟩:¬(u:Int)<0/\¬(u:Int)<10:=by omega
  have hk0:0<k:=by
   rcases Nat.eq_zero_or_pos k with rfl | h2
   .simp at h;omega
   .exact h2
  have ih:=QT k (u / 10) (by rw[Nat.pow_succ]at h;omega) hk0 (by omega) (by omega);have i1:=λJ=>VG (J:=J) (u:=u%10) (by omega)
  rw[show((u / 10:Nat):Int)=(u:Int) / 10 by omega]at ih;rw[show((u%10:Nat):Int)=(u:Int)%10 by omega]at i1;have w1:=cb (n:=(u:Int) / 10);have w2:=cb (n:=(u:Int)%10);have t1:(u:Int).tmod 10=(u:Int)%10:=Int.tmod_eq_emod_of_nonneg (by omega);have hl:=@Dr k (u / 10);have hl2:(pk k (u / 10)).length<=4611686018427387903:=by omega
  simp[fS,h0,h1',ih,i1,w1,t1,hl2]
theorem tz{n:Int}(h:i9 n):Cl 46 [iI n] (.str (fH n)) J:=by
 unfold i9 at h;unfold fH;by_cases h0:n<0
 .rw[if_pos h0];refine au ?_;have hC:=QT 20 n.natAbs (by omega) (by omega) (by omega) (by omega);rw[show((n.natAbs:Nat):Int) = -n by omega]at hC;have w1:=cb (n := -n);have hl:=@Dr 20 n.natAbs;have hl2:1+(pk 20 n.natAbs).length<=4611686018427387904:=by omega
  simp[fS,h0,hC,w1,hl2]
 .rw[if_neg h0];have hC:=QT 20 n.toNat (by omega) (by omega) (by omega) (by omega) J;rwa[show((n.toNat:Nat):Int)=n by omega]at hC
theorem LP{lo hi:Int}(h1:i9 lo)(h2:i9 hi):Cl 48 [.agg [iI lo,iI hi]] (.str (CY lo hi)) J:=by
 refine au ?_;have a1:=λJ=>tz (J:=J) h1
 have a2:=λJ=>tz (J:=J) h2
 have l1:=@ep lo;have l2:=@ep hi;have⟨q1,q2⟩:(fH lo).length<=4611686018427387902/\(fH lo).length+2+(fH hi).length<=4611686018427387904:=by omega
 simp[fS,a1,a2,CY,q1,q2]
theorem abx{b:Bk}(hr:Rp b)(hl:b.ai.length<=40):∀(m i:Nat) (bs:List UInt8),i+m=b.ai.length->bs.length+m*5000<=300000 ->
  WL T [1,3,4] false lW [(1,.bg (bR b)),(3,.str bs),(4,iI i)] J
   (λx e J'=>J'=J/\x=.exit 0/\get e 1=.bg (bR b)/\get e 3=.str (bs++fM (b.ai.drop i) xP))
 |0,i,bs,hi,hb=>by
  refine az lW.eq_1 ?_;obtain rfl:i=b.ai.length:=by omega
  have hn:=jW (f:=dY.enc) b.ai;simp[bR,hn]
 |m+1,i,bs,hi,hb=>by
  refine az lW.eq_1 ?_;have h1:i<b.ai.length:=by omega
  have hne:b.ai≠[]:=λh=>by rw[h]at h1;simp at h1
  obtain⟨e,he⟩:=gE h1;have a1:=bd (f:=dY.enc) (w:=4) (λ_=>rfl) he;have d1:=pP (f:=dY.enc) (w:=4) (λ_=>rfl) he;have h4:=cg h1;obtain⟨n1,n2⟩:=hr.nm e (aj he);have hI:=λJ=>tz (J:=J) n2
  have hil:=@ep e.L8;rw[bw he,cV,<- cp];have hml:=KQ n1;have ih:=abx hr hl m (i+1) (bs++xP e) (by omega) (by simp;omega);have e1:=jk (f:=dY.enc) hne;simp only[bR,e1]at ih;cases hc:e.left
  .simp only[xP,hc]at ih hml;simp (disch:=omega) [fS,bR,e1,h1,d1,h4,hI,hc,if_pos];simp only[xP];refine WL.to ih (by simp[CJ,rW,sj,EP]) rfl λx e J' hh=>by simpa[bR,e1,xP,hc]using hh
  .simp only[xP,hc]at ih hml;simp (disch:=omega) [fS,bR,e1,h1,d1,h4,hc,if_pos];simp only[xP];refine WL.to ih (by simp[CJ,rW,sj,ML]) rfl λx e J' hh=>by simpa[bR,e1,xP,hc]using hh
theorem aby{b:Bk}(hr:Rp b)(hl:b.cA.length<=1000):∀(m i:Nat) (bs:List UInt8),i+m=b.cA.length->bs.length+m*400<=900000 ->
  WL T [1,3,5] false kH [(1,.bg (bR b)),(3,.str bs),(5,iI i)] J
   (λx e J'=>J'=J/\x=.exit 2/\get e 3=.str (bs++IX i (b.cA.drop i)))
 |0,i,bs,hi,hb=>by
  refine az kH.eq_1 ?_;obtain rfl:i=b.cA.length:=by omega
  have hn:=jW (f:=HA.enc) b.cA;simp[bR,hn,IX]
 |m+1,i,bs,hi,hb=>by
  refine az kH.eq_1 ?_;have h1:i<b.cA.length:=by omega
  have hne:b.cA≠[]:=λh=>by rw[h]at h1;simp at h1
  obtain⟨x,he⟩:=gE h1;have a1:=bd (f:=HA.enc) (w:=6) (λ_=>rfl) he;have a2:=bZ (f:=HA.enc) (w:=6) (λ_=>rfl) b.cA;have a3:6<=b.cA.length*6-i*6:=by omega
  have h4:=cg h1;obtain⟨n1,n2,n3,n4,n5,n6⟩:=hr.sl x (aj he);have hR1:=λJ=>LP (J:=J) n3 n4
  have hR2:=λJ=>LP (J:=J) n5 n6
  have hI0:=λJ=>tz (J:=J) (n:=(i:Int)) (by unfold i9;omega)
  have hI1:=λJ=>tz (J:=J) n1
  have hI2:=λJ=>tz (J:=J) n2
  have q0:=@ep i;have q1:=@ep x.tick;have q2:=@ep x.QE;have q3:=@EA x.wlo x.whi;have q4:=@EA x.mlo x.mhi;rw[bw he,IX,<- cp];have hml:=P8 (k:=i) (x:=x);have ih:=aby hr hl m (i+1) (bs++NW i x) (by omega) (by simp;omega);have e1:=jk (f:=HA.enc) hne;simp only[bR,e1]at ih;have hbs:bs.length<=900000:=by omega
  simp (disch:=omega) [fS,bR,e1,h1,a1,h4,hI0,hI1,hI2,hR1,hR2,if_pos];refine WL.to ih (by simp[NW,CJ,rW,KY,KZ,Ge,K0,Gd]) rfl λx e J' hh=>by simpa using hh
theorem Ue{n:Nat}{b:Bk}(hK:Kr n b)(hP:Rp b)(hn:n<=1000):Cl 18 [.agg (bR b)] (.str (xQ b)) J:=by
 refine au ?_;have hk:=hK.kv;have hpl:=(jX hk.pl).1;have hsl:b.cA.length<=1000:=by have:=hk.cA;omega
 have hwl:b.aS.av.length<=8:=by
  cases hr:b.ready with
  |true=>exact(Bv.of (hk.ready hr)).av
  |false=>rw[hk.av hr];simp
 have hcb:=@Bh b;have hcol:=λJ=>LG (J:=J) hK.lit
 have hI0:=λJ=>tz (J:=J) (n:=(b.aw.length:Int)) (by unfold i9;omega)
 have hI1:=λJ=>tz (J:=J) (n:=eg b) (by unfold i9;omega)
 have hI2:=λJ=>tz (J:=J) (n:=(b.aS.av.length:Int)) (by unfold i9;omega)
 have hcw:=cb (n:=eg b);have n1:=jW (f:=pE) b.aw;have n2:=jW (f:=bG.enc) b.aS.av;have q0:=@ep b.aw.length;have q1:=@ep (eg b);have q2:=@ep b.aS.av.length;have hhl:(F8 b).length<=1000:=by
  simp only[F8,CJ,rW,cV,mX,aT,Ek,Am,Em,aE,aY];omega
 have hML:(F8 b++fM b.ai xP).length<=250000:=by
  have h1:=H5 (l:=b.ai) λe he=>(hP.nm e he).1
  have h2:=hk.ml;simp only[aT];omega
 have hM:=abx (J:=[]::J) hP hk.ml b.ai.length 0 (F8 b) (by omega) (by have:=hk.ml;omega);have hT:=aby (J:=[]::J) hP hsl b.cA.length 0 (F8 b++fM b.ai xP) (by omega) (by omega);have hcl:=mm (b:=b);rw[aB]at hM hT;simp only[bR]at hM hT hcol ⊢;simp (disch:=omega) [fS,hI0,hI1,hI2,hcol,hcw,n1,n2,if_pos];refine WL.to hM (by simp[F8,CJ,rW,Ek,Am,Em]) rfl ?_;rintro x e J' ⟨rfl,rfl,g1,g3⟩;simp[g1,g3];refine WL.to hT (by simp) rfl ?_;rintro x e J' ⟨rfl,rfl,g3⟩;simp[g3,xQ]
theorem PO{l:List (List UInt8)}(hl:l.length<=9223372036854775807):
  Cl 5 [lF l dj] (.bool true) [[]]:=by
 obtain⟨v,hF,hv⟩:=af5 (l:=l) (by omega) [[],[]];have hA:=VC [[],[]];refine au ?_;cases v
 .simp[hF,hA]
 have hl:l.length<=1000000000:=by have:=hv rfl;omega
 have hR:=Ud (J:=[[],[]]) (l:=l) hl;have hL:=λS hS=>acK (J:=S) (l:=l) hl hS
 cases hok:okB l
 .rw[hok]at hR;have h1:=λJ=>QO (J:=J) hl hok
  simp[fS,hF,hL,h1,hR,hA]
 rw[hok]at hR;have hk:=Hc.1 hok;have hK:=Qh (l:=l) (k:=0) Kr.zero hk.2;have hP:=KT (l:=l) (k:=0) Rp.zero Kv.zero hk.2 (by have:=hk.1;omega);rw[show(kD gY ((0:Nat):Int) l).1=(mo l).1 from rfl]at hP;rw[show(kD gY 0 l).1=(mo l).1 from rfl]at hK;have h1:=λJ=>Oy (J:=J) hk
 have h2:=λJ=>Ue (J:=J) hK hP (by have:=hk.1;omega)
 have hRef:=λS hS=>acR (J:=S) (lines:=l) hk hS
 generalize (mo l).1=b at h1 h2 hRef;simp[fS,hF,hL,h1,h2,hR,hRef,hA,fR,eF]
theorem GZ(x0:D)(t0:(Ty.slice 1 .str).ag3 x0):∃J',dp T (.call false 5 [x0] [[]])=some (.val (.bool true) J'):=by
 obtain⟨l,rfl,hl,_⟩:=aaV (λds h=>aa8 h) t0;have hm:maxLen<=9223372036854775807:=by decide
 exact⟨_,PO (by omega)⟩
end
end Go.Proofs.YtpapbbojmclkgaaGreatDoor
