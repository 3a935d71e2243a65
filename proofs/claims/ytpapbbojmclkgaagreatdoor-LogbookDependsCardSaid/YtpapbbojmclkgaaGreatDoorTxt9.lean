import Derived.Test.YtpapbbojmclkgaaGreatDoorTxt8
import Derived.ProofKit
import Derived.Test.YtpapbbojmclkgaaGreatDoorBase14
set_option linter.all false
set_option maxRecDepth 100000
namespace Go.Proofs.YtpapbbojmclkgaaGreatDoor
section
open Go Go.Abs Go.Rock Go.Book
variable {J:SK}
theorem Kr.line{n:Nat}{b:Bk}(h:Kr n b){s:List UInt8}(hs:s.length<=4000){k:Int}:Kr (n+1) (mW b k s).1:=by
 refine⟨h.kv.line hs,?_⟩;unfold mW;cases parse s with
 |none=>exact h.rok
 |some p=>exact R9 (b:={b with at_:=k }) h.rok _ _ _
theorem Kr.zero:Kr 0 fN:=⟨Kv.zero,λr hr=>by cases hr⟩
theorem OA:Cl 35 [] (.agg (bY fN)) J:=by
 refine au ?_;simp[bY,fN,nl]
theorem QV{lines:List (List UInt8)}(hl:okL lines):∀(m i:Nat) (b:Bk) (er:List Int),i+m=lines.length->er.length=i->Kr i b ->
  WL T [0,2,4,5,6] false pA [(0,lF lines cm),(2,.own 0 zS),(4,.own 0 (bY b)),(5,.sl J.length 0 i 0 i 1),(6,iI i)] ([.cells i (fM er aO)]::J)
   (λx e J'=>x=.exit 0/\get e 2=.own 0 zS/\get e 4=.own 0 (bY (lh b i (lines.drop i)).1)/\get e 5=.sl J.length 0 lines.length 0 lines.length 1/\J'=[.cells lines.length (fM (er++(lh b i (lines.drop i)).2) aO)]::J)
 |0,i,b,er,hi,he,hK=>by
  refine aA pA.eq_1 ?_;obtain rfl:i=lines.length:=by omega
  have h2:lines.drop lines.length=[]:=an (by omega);simp[h2,lh]
 |m+1,i,b,er,hi,he,hK=>by
  refine aA pA.eq_1 ?_;have h1:i<lines.length:=by omega
  obtain⟨s,hs⟩:=gE h1;have a1:=bd (f:=cm) (w:=1) (λ_=>rfl) hs;simp only[cm,bS]at a1;have h4:=cg h1 (by have:=hl.1;omega);have hsl:=hl.2 s (aj hs);have hn:=hl.1;have hC:=λJ=>af8 (J:=J) (b:=b) (s:=s) (k:=i) hK (by omega) hsl
  have hK':=hK.line hsl (k:=i);rw[bx hs];simp only[lh,gl]at hC ⊢;generalize mW b i s=r at hC hK' ⊢;obtain⟨b',e⟩:=r;have ih:=QV hl m (i+1) b' (er++[e]) (by omega) (by simp[he]) hK';have hel:=oE er;have het:(fM er aO).take i=fM er aO:=ah (by omega);have hr:(i+1)*8<=room:=by unfold room;omega
  simp[h1,a1,h4,hC,eS,eH,hr,hel,het,he];refine WL.to ih (by simp[eS]) (by simp) λx e' J' hh=>?_
  have e1:((i+1:Nat):Int)=(i:Int)+1:=by omega
  rw[e1]at hh;simpa using hh
theorem V2{lines:List (List UInt8)}(hl:okL lines)(hJ:J≠[]):Cl 13 [lF lines cm] (.cK [.agg (bY (jM lines).1),.bT lines.length (fM (jM lines).2 aO)]) J:=by
 refine au ?_;have hL:=QV (J:=J) hl lines.length 0 fN [] (by omega) rfl Kr.zero
 try simp only[lF]at hL
 rw[aC]at hL;simp[OA,eS];refine WL.to hL (by simp[zS]) (by simp) ?_;rintro x e J' ⟨rfl,g2,g4,g5,rfl⟩;simp[g2,g4,g5,eS,eH,CQ,xV,jM];have hlen:(lh fN 0 lines).2.length=lines.length:=tg;have hk:=ki (n:=15) (f:=aO) (w:=1) (l:=(lh fN 0 lines).2) (j:=0) (v:=lines.length) (bs:=[.cells lines.length (fM (lh fN 0 lines).2 aO)]) (by decide) (λ_=>rfl) (λx=>by simp[aO,D.clean]) hJ rfl
 try simp only[lF]at hk
 rw[hlen]at hk;rw[o4 (by simp[D.clean]) (by omega)];simp only[jb,j9];rw[ek (by simp[D.clean,mo]) (by omega),hk];exact⟨_,rfl⟩
end
section
open Go Go.Abs Go.Rock Go.Book
theorem J0:∀{k u:Nat},(tv k u).length<=k
 |0,u=>by simp[tv]
 |k+1,u=>by
  unfold tv;split
  .simp
  .have:=@J0 k (u / 10);simp;omega
theorem lQ{n:Int}:(ij n).length<=21:=by
 unfold ij;have h1:=@J0 20 n.natAbs;have h2:=@J0 20 n.toNat;split<;>simp<;>omega
def HZ:List UInt8:=[116,105,99,107,115]
def EI:List UInt8:=[99,111,108,111,117,114]
def H2:List UInt8:=[119,101,108,108,115]
def vM:List UInt8:=[109,111,100,101,108]
def Qd:List UInt8:=[108,101,102,116]
def G8:List UInt8:=[115,116,114,117,99,107]
def Mz:List UInt8:=[115,97,108,101]
def MA:List UInt8:=[116,105,99,107]
def H0:List UInt8:=[119,101,108,108]
def MB:List UInt8:=[119,111,114,107]
def HX:List UInt8:=[109,111,110,101,121]
def G9(l:List (List UInt8)):List UInt8:=xz [32] l++[10]
def EY(lo hi:Int):List UInt8:=ij lo++[46,46]++ij hi
def NN(b:Bk):List UInt8:=G9 [HZ,ij b.aw.length,EI,ij (eZ b),H2,ij b.aS.av.length]
def G5(e:ec):List UInt8:=if e.left=true then G9 [vM,e.m.name,Qd]else G9 [vM,e.m.name,G8,ij e.M7]
def RG(k:Nat)(x:JG):List UInt8:=G9 [Mz,ij k,MA,ij x.tick,H0,ij x.R8,MB,EY x.wlo x.whi,HX,EY x.mlo x.mhi]
def PZ:Nat->List JG->List UInt8
 |_,[]=>[]
 |k,x::l=>RG k x++PZ (k+1) l
def CH(b:Bk):List UInt8:=NN b++fM b.ai G5++PZ 0 b.dk
def i9(n:Int):Prop := -1000000000000000<=n/\n<=1000000000000000
structure Rp(b:Bk):Prop where
 nm:∀e∈b.ai,e.m.name.length<=4000/\i9 e.M7
 sl:∀x∈b.dk,i9 x.tick/\i9 x.R8/\i9 x.wlo/\i9 x.whi/\i9 x.mlo/\i9 x.mhi
theorem Rp.zero:Rp fN:=⟨by simp[fN],by simp[fN]⟩
theorem Rp.of{b c:Bk}(h:Rp b)(h1:c.ai=b.ai)(h2:c.dk=b.dk):Rp c:=⟨by rw[h1];exact h.nm,by rw[h2];exact h.sl⟩
theorem Rp.KX{b:Bk}{lo hi:Int}{val:bZ->Int}(h:Rp b)(ha:i9 b.at_):Rp (gU b lo hi val):=by
 refine⟨λe he=>?_,h.sl⟩;obtain⟨j,hj⟩:=List.mem_iff_getElem?.1 he;simp only[gU,Bk.gw,ju]at hj;cases hm:b.ai[j]? with
 |none=>rw[hm]at hj;cases hj
 |some x =>
  rw[hm]at hj;have hx:=h.nm x (aj hm);simp only[aZ,ae]at hj;subst hj;split
  .unfold Go.Book.cm;split
   .exact⟨hx.1,ha⟩
   .exact hx
  .exact hx
theorem abl{n:Nat}{b:Bk}(h:Rp b)(hk:Kv n b)(ha:i9 b.at_)(k:Nat){nm:List UInt8}(hn:nm.length<=4000)(l:List Int):Rp (iX b k nm l).1:=by
 unfold iX;split
 .split
  .unfold nS;(repeat' split);all_goals exact h.of rfl rfl
  .exact h
 .unfold lT;(repeat' split);all_goals exact h.of rfl rfl
 .split
  .unfold yd;(repeat' split);all_goals exact h.of rfl rfl
  .exact h
 .split
  .unfold tF;(repeat' split);all_goals exact h.of rfl rfl
  .exact h
 .unfold pY;split
  .split
   .exact h
   .split
    .split
     .refine⟨λe he=>?_,h.sl⟩;rcases aT.1 he with he | he
      .exact h.nm e he
      .rw[List.mem_singleton.1 he];exact⟨hn,show i9 0 by unfold i9;omega⟩
     .exact h
    .exact h
  .exact h
 .split
  .unfold CX;(repeat' split)
   .exact h
   .exact h.KX ha
   .exact h
  .exact h
 .unfold sk;(repeat' split);all_goals exact h.of rfl rfl
 .split
  .split<;>exact h.of rfl rfl
  .exact h
 .unfold oX;(repeat' split);all_goals exact h.of rfl rfl
 .unfold mz;(repeat' split);all_goals exact h.of rfl rfl
 .split
  .unfold oL;(repeat' split)
   .exact h
   .exact h.KX ha
   .exact h
   .exact h
  .exact h
 .split
  .unfold tE;(repeat' split);all_goals exact h.of rfl rfl
  .exact h
 .split
  .rename_i w lv u p;unfold mX;split
   .exact h
   .split
    .rename_i c2;split
     .rename_i c3;have hc2:=c2;simp only[Eg,af]at hc2;obtain⟨k1,k2,k3,k4⟩:=hc2;have i1:=aP.1 k1;have i3:=aP.1 k3;have i4:=aP.1 k4;have hbs:∀x∈oU b w lv u,0<=x/\x<=1000000000:=by
       intro x hx;simp only[oU,bI]at hx;obtain⟨e,he,rfl⟩:=hx;exact NZ (by omega) hk.uok (pF c3 e he)
      obtain⟨⟨m1,m2⟩,m3,m4⟩:=XK (by omega) hbs;have p1:0<=Di (oU b w lv u)*p:=bA m1 i4.1;have p2:Di (oU b w lv u)*p<=1000000000*1000:=cp m2 i4.2 i4.1 (by omega);have p3:0<=Dh (oU b w lv u)*p:=bA m3 i4.1;have p4:Dh (oU b w lv u)*p<=1000000000*1000:=cp m4 i4.2 i4.1 (by omega);have hpl:=(lf hk.pl).1;have hwl:b.aS.av.length<=8:=by
       cases hr:b.ready with
       |true=>exact(Bv.of (hk.ready hr)).av
       |false=>rw[hk.av hr];simp
      refine⟨h.nm,λx hx=>?_⟩;rcases aT.1 hx with hx | hx
      .exact h.sl x hx
      .rw[List.mem_singleton.1 hx];simp only[i9];omega
     .exact h
    .exact h
  .exact h
 .exact h
theorem aar{n:Nat}{b:Bk}(h:Rp b)(hk:Kv n b){k:Int}(ha:i9 k){s:List UInt8}(hs:s.length<=4000):Rp (mW b k s).1:=by
 unfold mW;cases hp:parse s with
 |none=>exact h
 |some p =>
  obtain⟨w,nm,l⟩:=p;exact abl (b:={b with at_:=k }) (h.of rfl rfl) (hk.Uj k) ha w.k (by have:=(Al hp).2.2.1;omega) l
theorem Qa:∀{l:List (List UInt8)} {b:Bk} {k:Nat} {n:Nat},Rp b->Kv n b->(∀s∈l,s.length<=4000)->k+l.length<=1000000->Rp (lh b k l).1
 |[],b,k,n,h,hk,hs,hn=>h
 |s::l,b,k,n,h,hk,hs,hn=>by
  have h1:=hs s (by simp);simp only[aE]at hn;have h2:=Qa (l:=l) (k:=k+1) (aar h hk (k:=k) (by unfold i9;omega) h1) (hk.line h1 (k:=k)) (λx hx=>hs x (by simp[hx])) (by omega);simp only[lh];rw[show((k:Int)+1)=((k+1:Nat):Int)by omega];exact h2
end
section
open Go Go.Abs Go.Rock Go.Book
variable {J:SK}
def M6(bs:List UInt8):Abs.aG:=.cells 2 [iI 115,iI 5,.str bs]
def NT(L:Nat)(b:Bk)(er:List Int)(bs:List UInt8):List Abs.aG:=[.cells b.ai.length (fM b.ai ec.enc),.cells b.rules.length (fM b.rules Trem.cH.enc),.cells b.pZ.length (fM b.pZ Trem.Ev.enc),.cells b.cI.length (fM b.cI pf.enc),
 .cells b.dk.length (fM b.dk JG.enc),.cells b.eJ.length (fM b.eJ Dl.enc),.cells 0 (b.cells L),.cells er.length (fM er aO),M6 bs]
theorem Sl{b:Bk}{er:List Int}{bs:List UInt8}{ds:List D}{xs:List (List UInt8)}{n:Nat}(hx:wU ds=some xs)(hn:n=xs.length)(h1:n<=1000)(h2:(G9 xs).length+bs.length<=1000000):
  dr T (.call false 39 [.bT n ds,.jU J.length 8] (NT J.length b er bs::J))=some (.val (.cK []) (NT J.length b er (bs++G9 xs)::J)):=by
 subst hn;refine fy rfl rfl rfl (by simp) ?_;have hj:(xz [32] xs).length<=1000000:=by simp only[G9,aV]at h2;omega
 have h3:bs.length+(xz [32] xs++[10]).length<=1000000:=by simp only[G9]at h2;omega
 have hJ:∀S,Cl 41 [.bT xs.length ds,.str [32]] (.str (xz [32] xs)) S:=λS=>zd JL JE (by simp[D4,hx,h1,hj])
 have hW:dr T (.call false 40 [.jU J.length 8,.str (xz [32] xs++[10])] ([]::NT J.length b er bs::J))=some (.val (.cK [iI (xz [32] xs++[10]).length,.nK]) ([]::NT J.length b er (bs++(xz [32] xs++[10]))::J)) :=
  zd vR vQ (by simp[D4,NT,M6];simp at h3;omega)
 have hq:(xz [32] xs).length<=4611686018427387903:=by omega
 simp[ia,hJ,hW,G9,hq]
theorem Si{lo hi:Int}(h1:i9 lo)(h2:i9 hi):Cl 44 [.agg [iI lo,iI hi]] (.str (EY lo hi)) J:=by
 refine au ?_;unfold i9 at h1 h2;have a1:=λJ=>wK (J:=J) (n:=lo) (by omega)
 have a2:=λJ=>wK (J:=J) (n:=hi) (by omega)
 have l1:=@lQ lo;have l2:=@lQ hi;have⟨q1,q2⟩:(ij lo).length<=4611686018427387902/\(ij lo).length+2+(ij hi).length<=4611686018427387904:=by omega
 simp[ia,a1,a2,EY,q1,q2]
theorem PY{e:ec}(h:e.m.name.length<=4000):(G5 e).length<=5000:=by
 have hil:=@lQ e.M7;unfold G5;split
 .simp only[G9,xz,db,mY,aV,vM,Qd,aE,aY];omega
 .simp only[G9,xz,db,mY,aV,vM,G8,aE,aY];omega
theorem Mt:∀{l:List ec},(∀e∈l,e.m.name.length<=4000)->(fM l G5).length<=l.length*5000
 |[],h=>by simp
 |e::l,h=>by
  have h1:=PY (h e (by simp));have h2:=Mt (l:=l) λx hx=>h x (by simp[hx])
  simp only[db,aV,aE];omega
theorem Wq{b:Bk}{er:List Int}(hr:Rp b)(hl:b.ai.length<=40):∀(m i:Nat) (bs:List UInt8),i+m=b.ai.length->bs.length+m*5000<=300000 ->
  WL T [5,7,8,9,54,55,56] false jw [(5,.ref J.length 6 0 0),(7,.jU J.length 8),(8,.fn 39 [] [.jU J.length 8]),(9,.fn 42 [] []),(54,.sl J.length 0 b.ai.length 0 b.ai.length 4),(55,iI b.ai.length),(56,iI i)] (NT J.length b er bs::J)
   (λx e J'=>x=.exit 0/\get e 5=.ref J.length 6 0 0/\get e 7=.jU J.length 8/\get e 8=.fn 39 [] [.jU J.length 8]/\get e 9=.fn 42 [] []/\J'=NT J.length b er (bs++fM (b.ai.drop i) G5)::J)
 |0,i,bs,hi,hb=>by
  refine aA jw.eq_1 ?_;obtain rfl:i=b.ai.length:=by omega
  simp
 |m+1,i,bs,hi,hb=>by
  refine aA jw.eq_1 ?_;have h1:i<b.ai.length:=by omega
  obtain⟨e,he⟩:=gE h1;have a1:=bd (f:=ec.enc) (w:=4) (λ_=>rfl) he;have h4:=cg h1;have a2:=b8 (f:=ec.enc) (w:=4) (λ_=>rfl) b.ai;have a3:4<=b.ai.length*4-i*4:=by omega
  obtain⟨n1,n2⟩:=hr.nm e (aj he);unfold i9 at n2;have hI:=λJ=>wK (J:=J) (n:=e.M7) (by omega)
  have hil:=@lQ e.M7;rw[bx he,db,<- cM];have hml:=PY (hr.nm e (aj he)).1;have ih:=Wq hr hl (er:=er) m (i+1) (bs++G5 e) (by omega) (by simp;omega);have hbs:bs.length<=300000:=by omega
  cases hc:e.left
  .have hS:=Sl (J:=J) (b:=b) (er:=er) (bs:=bs) (ds:=[.str vM,.str e.m.name,.str G8,.str (ij e.M7)]) (n:=4) rfl rfl (by omega) (by have:=hml;simp only[G5,hc]at this;simp at this ⊢;omega);simp only[G5,hc]at ih;simp only[NT,M6,Bk.cells,vM,G8]at hS ih ⊢;simp[h1,a1,a2,a3,h4,hI,hc,hS];exact WL.to ih (by simp) (by simp) λx e J' hh=>by simpa[G5,hc,vM,G8]using hh
  .have hS:=Sl (J:=J) (b:=b) (er:=er) (bs:=bs) (ds:=[.str vM,.str e.m.name,.str Qd]) (n:=3) rfl rfl (by omega) (by have:=hml;simp only[G5,hc]at this;simp at this ⊢;omega);simp only[G5,hc]at ih;simp only[NT,M6,Bk.cells,vM,Qd]at hS ih ⊢;simp[h1,a1,a2,a3,h4,hc,hS];exact WL.to ih (by simp) (by simp) λx e J' hh=>by simpa[G5,hc,vM,Qd]using hh
theorem LV{lo hi:Int}:(EY lo hi).length<=44:=by
 have h1:=@lQ lo;have h2:=@lQ hi;simp only[EY,aV,aE,aY];omega
theorem Yb{k:Nat}{x:JG}:(RG k x).length<=400:=by
 have q0:=@lQ k;have q1:=@lQ x.tick;have q2:=@lQ x.R8;have q3:=@LV x.wlo x.whi;have q4:=@LV x.mlo x.mhi;simp only[RG,G9,xz,db,mY,aV,Mz,MA,H0,MB,HX,aE,aY];omega
theorem Wr{b:Bk}{er:List Int}(hr:Rp b)(hl:b.dk.length<=1000):∀(m i:Nat) (bs:List UInt8),i+m=b.dk.length->bs.length+m*400<=900000 ->
  WL T [7,8,9,83,84,85] false jx [(7,.jU J.length 8),(8,.fn 39 [] [.jU J.length 8]),(9,.fn 42 [] []),(83,.sl J.length 4 b.dk.length 0 b.dk.length 6),(84,iI b.dk.length),(85,iI i)] (NT J.length b er bs::J)
   (λx e J'=>x=.exit 2/\get e 7=.jU J.length 8/\J'=NT J.length b er (bs++PZ i (b.dk.drop i))::J)
 |0,i,bs,hi,hb=>by
  refine aA jx.eq_1 ?_;obtain rfl:i=b.dk.length:=by omega
  simp[PZ]
 |m+1,i,bs,hi,hb=>by
  refine aA jx.eq_1 ?_;have h1:i<b.dk.length:=by omega
  obtain⟨x,he⟩:=gE h1;have a1:=bd (f:=JG.enc) (w:=6) (λ_=>rfl) he;have h4:=cg h1;have a2:=b8 (f:=JG.enc) (w:=6) (λ_=>rfl) b.dk;have a3:6<=b.dk.length*6-i*6:=by omega
  obtain⟨n1,n2,n3,n4,n5,n6⟩:=hr.sl x (aj he);have hR1:=λJ=>Si (J:=J) n3 n4
  have hR2:=λJ=>Si (J:=J) n5 n6
  unfold i9 at n1 n2;have hI0:=λJ=>wK (J:=J) (n:=(i:Int)) (by omega)
  have hI1:=λJ=>wK (J:=J) (n:=x.tick) (by omega)
  have hI2:=λJ=>wK (J:=J) (n:=x.R8) (by omega)
  rw[bx he,PZ,<- cM];have hml:=Yb (k:=i) (x:=x);have ih:=Wr hr hl (er:=er) m (i+1) (bs++RG i x) (by omega) (by simp;omega);have hbs:bs.length<=900000:=by omega
  have hS:=Sl (J:=J) (b:=b) (er:=er) (bs:=bs) (ds:=[.str Mz,.str (ij i),.str MA,.str (ij x.tick),.str H0,.str (ij x.R8),.str MB,.str (EY x.wlo x.whi),.str HX,.str (EY x.mlo x.mhi)]) (xs:=[Mz,ij i,MA,ij x.tick,H0,ij x.R8,MB,EY x.wlo x.whi,HX,EY x.mlo x.mhi]) (n:=10) rfl rfl (by omega) (by have:=hml;simp only[RG]at this;omega);simp only[RG]at ih;simp only[NT,M6,Bk.cells,Mz,MA,H0,MB,HX]at hS ih ⊢;simp[h1,a1,a2,a3,h4,hI0,hI1,hI2,hR1,hR2,hS];exact WL.to ih (by simp) (by simp) λx e J' hh=>by simpa[RG,Mz,MA,H0,MB,HX]using hh
theorem TY{b:Bk}{L:Nat}{G:List Abs.aG}{S:SK}(h1:b.rules.length<=1000000)(h2:b.pZ.length<=1000000)(h3:∀e∈b.pZ,e.sp.length<=1000000)(hs:eT S L=some G)(hG1:G[1]?=some (.cells b.rules.length (fM b.rules Trem.cH.enc)))(hG2:G[2]?=some (.cells b.pZ.length (fM b.pZ Trem.Ev.enc)))(hc6:G[6]?=some (.cells 0 (b.cells L))):
  Cl 43 [.ref L 6 0 0] (.int .u8 (eZ b)) S:=by
 refine au ?_;have hlt:=zo hs;have hne:¬S.length=L:=by omega
 have h:=Oi (J:=[]::S) (lv:=L) (G:=G) (R:=b.rules) (l:=b.pZ) (now:=b.aw.length) (by simp[eT,hne,hs]) hG1 hG2 (by omega) (by omega) (λe he=>by have:=h3 e he;omega);unfold eZ;by_cases hc:Trem.kZ b.rules b.pZ b.aw.length=0
 .rw[if_pos hc]at h;simp[hne,hs,hc6,Bk.cells,h,hc]
 .rw[if_neg hc]at h;simp[hne,hs,hc6,Bk.cells,h,hc]
theorem mpB{S:SK}{t e:Nat}:Dc S (.K8 t e) []=(fR S (.cells 2 [iI (t:Nat),iI (e:Nat),.str []])).map λx=>(.jU x.1 x.2.1,x.2.2):=rfl
theorem Vy{lines:List (List UInt8)}(hl:IZ lines):Cl 17 [lF lines cm] (.cK [.str (CH (jM lines).1),iI 0]) J:=by
 refine au ?_;have hC:=λS=>Bc (J:=S) (l:=lines) (by have:=hl.1;omega)
 have hok:okB lines=true:=Ez.2 hl;simp only[hok,if_true]at hC;have hRun:=V5 (J:=J) (lines:=lines) hl;have hK:=KL (l:=lines) (k:=0) Kv.zero hl.2;have hP:=Qa (l:=lines) (k:=0) Rp.zero Kv.zero hl.2 (by have:=hl.1;omega);rw[show(lh fN ((0:Nat):Int) lines).1=(jM lines).1 from rfl]at hP;rw[show(lh fN 0 lines).1=(jM lines).1 from rfl]at hK;generalize (jM lines).1=b at hRun hK hP ⊢;generalize (jM lines).2=er at hRun;have hpl:=(lf hK.pl).1;have hsl:b.dk.length<=100:=by have:=hK.dk;have:=hl.1;omega
 have hwl:b.aS.av.length<=8:=by
  cases hr:b.ready with
  |true=>exact(Bv.of (hK.ready hr)).av
  |false=>rw[hK.av hr];simp
 have hcb:0<=eZ b/\eZ b<=255:=by have:=@Er b;omega
 have hI0:=λJ=>wK (J:=J) (n:=(b.aw.length:Int)) (by omega)
 have hI1:=λJ=>wK (J:=J) (n:=eZ b) (by omega)
 have hI2:=λJ=>wK (J:=J) (n:=(b.aS.av.length:Int)) (by omega)
 have hcol:=TY (b:=b) (L:=J.length) (G:=NT J.length b er []) (S:=NT J.length b er []::J) (by have:=hK.rules;omega) (by have:=hK.pZ;omega) (λe he=>by have:=hK.KU e he;simp only[Trem.Ev.ok,af,Trem.aP]at this;omega) (by simp) rfl rfl rfl;have hhl:(NN b).length<=1000:=by
  have q0:=@lQ b.aw.length;have q1:=@lQ (eZ b);have q2:=@lQ b.aS.av.length;simp only[NN,G9,xz,db,mY,aV,HZ,EI,H2,aE,aY];omega
 have hS:=Sl (J:=J) (b:=b) (er:=er) (bs:=[]) (ds:=[.str HZ,.str (ij b.aw.length),.str EI,.str (ij (eZ b)),.str H2,.str (ij b.aS.av.length)]) (xs:=[HZ,ij b.aw.length,EI,ij (eZ b),H2,ij b.aS.av.length]) (n:=6) rfl rfl (by omega) (by have:=hhl;simp only[NN]at this;simp;omega);have hM:=Wq (J:=J) (er:=er) hP hK.ml b.ai.length 0 (NN b) (by omega) (by have:=hK.ml;omega);have hcw:=cb (n:=eZ b);have n1:=mJ (f:=pE) b.aw;have n2:=mJ (f:=bH.enc) b.aS.av;simp only[NT,M6,Bk.bF,Bk.cells,HZ,EI,H2]at hS hM hRun hcol;simp[hC,hRun,mpB,hI0,hI1,hI2,hcol,hcw,n1,n2,hS];refine WL.to hM (by simp) (by simp[NN,HZ,EI,H2]) ?_;rintro x e J' ⟨rfl,g5,g7,g8,g9,rfl⟩;have hML:(NN b++fM b.ai G5).length<=250000:=by
  have h1:=Mt (l:=b.ai) λe he=>(hP.nm e he).1
  have h2:=hK.ml;simp only[aV];omega
 have hT:=Wr (J:=J) (er:=er) hP (by omega) b.dk.length 0 (NN b++fM b.ai G5) (by omega) (by omega);simp only[NT,M6,Bk.cells]at hT;simp[g5,g7,g8,g9];refine WL.to hT (by simp) (by simp) ?_;rintro x e J' ⟨rfl,g7,rfl⟩;have hne:CH b≠[]:=by
  intro h;have:=congrArg List.length h;simp[CH,NN,G9]at this
 have hB:Cl 45 [.jU J.length 8] (.str (CH b)) (NT J.length b er (CH b)::J):=zd Az Aw (by simp[D4,NT,M6,hne]);simp only[CH,NT,M6,Bk.cells,cM]at hB ⊢;rw[aC];simp[g7,hB]
theorem WN{a:List Abs.aG}{n:Nat}{x:Abs.aG}(h:a.length=n):(a++[x])[n]?=some x:=by subst h;simp
theorem SU{a:List Abs.aG}{n:Nat}{x y:Abs.aG}(h:a.length=n):(a++[x]).set n y=a++[y]:=by subst h;simp
theorem Pn{A:List Abs.aG}{b:Bk}{er:List Int}{n:Nat}(hn:er.length=n):∃s,cF J.length 16 (.cK [.ref (J.length+1) 6 0 0,.sl (J.length+1) 7 n 0 n 1]) (b.bF (J.length+1) er::A::J)=(.cK [.undef,.bT n (fM er aO)],s::A::J):=by
 subst hn;rw[o4 (by rfl) (by omega)];have h1:∀S,cF J.length 15 (.ref (J.length+1) 6 0 0) S=(.undef,S):=λS=>by unfold cF;simp[D.clean]
 have hk:=ki (J:=A::J) (n:=15) (f:=aO) (w:=1) (l:=er) (j:=7) (v:=er.length) (bs:=b.bF (J.length+1) er) (by decide) (λ_=>rfl) (λx=>by simp[aO,D.clean]) (by simp) rfl;simp only[aE,Nat.add_sub_cancel]at hk;simp only[jb,j9,Nat.reduceSub,h1,hk];exact⟨_,rfl⟩
theorem Wu{lines:List (List UInt8)}{A:List Abs.aG}{cs:List D}{j v:Nat}(hA:A[j]?=some (.cells v cs))(hcl:lines.length<=cs.length)(hcs:∀i s,lines[i]?=some s->∃r,cs.drop i=.str s::r)(hl:okL lines):∀(m i:Nat) (b:Bk) (er:List Int),i+m=lines.length->er.length=i->Kv i b ->
  WL T [4,5,12,13,14] false ga [(4,.ref (J.length+1) 6 0 0),(5,.sl (J.length+1) 7 i 0 i 1),(12,.sl J.length j v 0 lines.length 1),(13,iI lines.length),(14,iI i)] (b.bF (J.length+1) er::A::J)
   (λx e J'=>x=.exit 0/\get e 4=.ref (J.length+1) 6 0 0/\get e 5=.sl (J.length+1) 7 lines.length 0 lines.length 1/\J'=(lh b i (lines.drop i)).1.bF (J.length+1) (er++(lh b i (lines.drop i)).2)::A::J)
 |0,i,b,er,hi,he,hK=>by
  refine aA ga.eq_1 ?_;obtain rfl:i=lines.length:=by omega
  have h2:lines.drop lines.length=[]:=an (by omega);simp[h2,lh]
 |m+1,i,b,er,hi,he,hK=>by
  refine aA ga.eq_1 ?_;have h1:i<lines.length:=by omega
  obtain⟨s,hs⟩:=gE h1;obtain⟨r,hdr⟩:=hcs i s hs;have h4:=cg h1 (by have:=hl.1;omega);have hsl:=hl.2 s (aj hs);have hn:=hl.1;have hC:=VK (J:=A::J) (b:=b) (er:=er) (s:=s) (k:=i) hK (by omega) hsl;have hK':=hK.line hsl (k:=i);rw[bx hs];simp only[lh];generalize mW b i s=r at hC hK' ⊢;obtain⟨b',e⟩:=r;have ih:=Wu hA hcl hcs hl m (i+1) b' (er++[e]) (by omega) (by simp[he]) hK';have hel:=oE er;have het:(fM er aO).take i=fM er aO:=ah (by omega);have hr:(i+1)*8<=room:=by unfold room;omega
  simp only[Bk.bF,Bk.cells,he,aE]at hC;simp[h1,hA,hdr,h4,hC,Bk.bF,Bk.cells,hr,hel,het,he];refine WL.to ih (by simp) (by simp[Bk.bF,Bk.cells,he]) λx e' J' hh=>?_
  have e1:((i+1:Nat):Int)=(i:Int)+1:=by omega
  rw[e1]at hh;simpa[Bk.bF,Bk.cells]using hh
theorem acQ{lines:List (List UInt8)}{A:List Abs.aG}{cs:List D}{j v:Nat}(hA:A[j]?=some (.cells v cs))(hcl:lines.length<=cs.length)(hcs:∀i s,lines[i]?=some s->∃r,cs.drop i=.str s::r)(hl:okL lines):Cl 32 [.sl J.length j v 0 lines.length 1] (.cK [.undef,.bT lines.length (fM (jM lines).2 aO)]) (A::J):=by
 refine au ?_;have hL:=Wu (J:=J) hA hcl hcs hl lines.length 0 fN [] (by omega) rfl Kv.zero;rw[aC]at hL;simp;refine WL.to hL (by simp) (by simp[Bk.bF,Bk.cells,fN,nl]) ?_;rintro x e J' ⟨rfl,g4,g5,rfl⟩;simp[g4,g5,jM];exact Pn (A:=A) (by rw[tg])
theorem acP{lines:List (List UInt8)}(hl:okL lines)(hJ:J≠[]):Cl 32 [lF lines cm] (.cK [.undef,.bT lines.length (fM (jM lines).2 aO)]) J:=by
 obtain⟨A,J,rfl⟩:∃A s,J=A::s:=by cases J with | nil=>exact absurd rfl hJ | cons A s=>exact⟨A,s,rfl⟩
 refine au ?_;have hL:=QW (J:=A::J) hl lines.length 0 fN [] (by omega) rfl Kv.zero;rw[aC]at hL;simp only[aE]at hL;simp;refine WL.to hL (by simp) (by simp[Bk.bF,Bk.cells,fN,nl]) ?_;rintro x e J' ⟨rfl,g4,g5,rfl⟩;simp[g4,g5,jM];exact Pn (A:=A) (by rw[tg])
def pX(w wo:List Int):Nat->Nat->List Int
 |_,0=>[]
 |i,m+1=>(if w[i]?=wo[i-1]? then []else [(i:Int)])++pX w wo (i+1) m
theorem SY{w wo:List Int}:∀{m i:Nat},(pX w wo i m).length<=m
 |0,i=>by simp[pX]
 |m+1,i=>by
  have:=@SY w wo m (i+1);unfold pX;split<;>simp<;>omega
theorem Wj{lines:List (List UInt8)}{w wo:List Int}{A:List Abs.aG}{n:Nat}(hn:lines.length=n)(hw:w.length=n)(hwo:wo.length+1=n)(hl:n<=100){q:Nat}(hq:A.length=q):∀(m i:Nat) (acc:List Int),i+m=n->1<=i->acc.length+m<=100 ->
  WL T [0,8,10,11,12] false iE [(0,.bT n (fM lines cm)),(8,.bT n (fM w aO)),(10,.bT (n-1) (fM wo aO)),(11,.sl J.length q acc.length 0 acc.length 1),(12,iI i)] ((A++[.cells acc.length (fM acc aO)])::J)
   (λx e J'=>x=.exit 0/\get e 11=.sl J.length q (acc++pX w wo i m).length 0 (acc++pX w wo i m).length 1/\J'=(A++[.cells (acc++pX w wo i m).length (fM (acc++pX w wo i m) aO)])::J)
 |0,i,acc,hi,h0,ha=>by
  refine aA iE.eq_1 ?_;obtain rfl:i=n:=by omega
  simp[pX]
 |m+1,i,acc,hi,h0,ha=>by
  refine aA iE.eq_1 ?_;have⟨h1,h1'⟩:i<n/\i-1<n-1:=by omega
  obtain⟨x,hx⟩:∃s,w[i]?=some s:=gE (by omega);obtain⟨y,hy⟩:∃s,wo[i-1]?=some s:=⟨_,aH (by omega)⟩;have a1:=bd (f:=aO) (w:=1) (λ_=>rfl) hx;have a2:=bd (f:=aO) (w:=1) (λ_=>rfl) hy;simp only[aO,bS]at a1 a2;have h4:=cg h1;have w1:IntKind.i64.wrap ((i:Int)-1)=((i-1:Nat):Int):=(cb).trans (by omega);have fl:=oE acc;have tk:(fM acc aO).take acc.length=fM acc aO:=ah (by omega);have hr:(acc.length+1)*8<=room:=by unfold room;omega
  have b1:=λx=>WN (x:=x) hq
  have b2:=λx y=>SU (x:=x) (y:=y) hq
  by_cases hc:x=y
  .subst hc;have hd:pX w wo i (m+1)=pX w wo (i+1) m:=by rw[pX,hx,hy];simp
   rw[hd];simp[h1,h1',a1,a2,h4,w1];exact WL.to (Wj hn hw hwo hl hq m (i+1) acc (by omega) (by omega) (by omega)) (by simp) rfl λx e J' hh=>by simpa using hh
  .have hd:pX w wo i (m+1)=(i:Int)::pX w wo (i+1) m:=by rw[pX,hx,hy];simp[hc]
   rw[hd,show acc++(i:Int)::pX w wo (i+1) m=(acc++[(i:Int)])++pX w wo (i+1) m by simp];simp[h1,h1',a1,a2,h4,w1,hc,b1,b2,fl,tk,hr];exact WL.to (Wj hn hw hwo hl hq m (i+1) (acc++[(i:Int)]) (by omega) (by omega) (by simp;omega)) (by simp) (by simp) λx e J' hh=>by simpa using hh
def tu(l:List (List UInt8))(k:Nat):List (List UInt8):=l.take k++l.drop (k+1)
def vA(l:List (List UInt8))(k:Nat):List Int:=pX (jM l).2 (jM (tu l k)).2 (k+1) (l.length-(k+1))
theorem oG(l:List (List UInt8)):fM l cm=l.map .str:=by
 induction l with
 |nil=>rfl
 |cons a l ih=>rw[db,ih];rfl
theorem R0(l:List (List UInt8)):wU (l.map .str)=some l:=by
 induction l with
 |nil=>rfl
 |cons a l ih=>simp[wU,ih]
theorem VD{l:List (List UInt8)}(hne:l≠[])(hl:l.length<=1000000):dr T (.call true 38 [lF l cm] ([]::J)) =
  some (.val (.sl J.length 0 1 0 l.length 1) ([.cells 1 (fM l cm)]::J)):=by
 refine vy rfl rfl rfl ?_;have h7:l.length*16<=room:=by unfold room;omega
 have h8:(fM l cm).length=l.length:=by rw[oG];simp
 simp[hne,h7,h8]
theorem Lu{lines:List (List UInt8)}{k:Nat}(hl:IZ lines)(hk:k<lines.length)(hJ:J≠[]):Cl 14 [lF lines cm,iI k] (.cK [lF (vA lines k) aO,iI 0]) J:=by
 refine au ?_;have hC:=λS=>Bc (J:=S) (l:=lines) (by have:=hl.1;omega)
 have hok:okB lines=true:=Ez.2 hl;simp only[hok,if_true]at hC;have hlen:=hl.1;have hRun:=λS hS=>acP (J:=S) (lines:=lines) hl hS
 have hne:lines≠[]:=λh=>by rw[h]at hk;simp at hk
 have hCl:=VD (J:=J) hne (by omega);have hcl:(tu lines k).length=lines.length-1:=by simp[tu];omega
 have hck:IZ (tu lines k):=⟨by omega,λs hs=>by
  rcases aT.1 hs with h | h
  .exact hl.2 s (cY h)
  .exact hl.2 s (cX h)⟩
 have hD:dr T (.call false 37 [.sl J.length 0 1 0 lines.length 1,iI k,iI ((k:Int)+1)] ([.cells 1 (fM lines cm)]::J)) =
   some (.val (.sl J.length 0 1 0 (lines.length-1) 1) ([.cells 1 ((tu lines k).map .str++[.str []])]::J)):=zd B5 BY (by
  have⟨q1,q2,q3,q4,q5,q6⟩:¬lines.length=0/\lines.length<=1000000/\(k:Int)+1<=lines.length/\((k:Int)+1).toNat-k=1/\((k:Int)+1).toNat=k+1/\(k:Int)<=(k:Int)+1:=by omega
  have e1:(lines.map D.str).take lines.length=lines.map D.str:=ah (by simp);have e2:(lines.map D.str).drop lines.length=[]:=an (by simp);have e3:=R0 lines;simp[D4,oG,q1,q2,q3,q5,q6,e1,e2,e3,AE,tu,-List.map_take,-List.map_drop])
 have hS:=λA hA=>acQ (J:=J) (lines:=tu lines k) (A:=A) (cs:=(tu lines k).map .str++[.str []]) (j:=0) (v:=1) hA (by simp) (λi s hi=>by
  have h1:=(aB.1 hi).1;rw[List.drop_append_of_le_length (by simp;omega),<- List.map_drop,bx hi];exact⟨_,rfl⟩) hck
 have hS2:=hS [.cells 1 ((tu lines k).map .str++[.str []])] rfl;rw[hcl]at hS2;have hin:bC (k:Int) 0 ((lines.length:Int)-1)=true:=aP.2 ⟨by omega,by omega⟩;have w1:=cb (n:=(lines.length:Int)-1);have w2:=cb (n:=(k:Int)+1);have hw:=@tg lines fN 0;have hwo:=@tg (tu lines k) fN 0;rw[hcl]at hwo;have hL:=Wj (J:=J) (lines:=lines) (w:=(jM lines).2) (wo:=(jM (tu lines k)).2) (A:=[.cells 1 ((tu lines k).map .str++[.str []])]) rfl hw (by show(lh fN 0 (tu lines k)).2.length+1=_;omega) (by omega) (q:=1) rfl (lines.length-(k+1)) (k+1) [] (by omega) (by omega) (by simp;omega);simp only[List.nil_append]at hL;rw[show pX (jM lines).2 (jM (tu lines k)).2 (k+1) (lines.length-(k+1))=vA lines k from rfl]at hL;generalize vA lines k=q at hL ⊢;simp[hC,ej,hRun,hCl,hD,hS2,hin,w1,w2];refine WL.to hL (by simp) (by simp) ?_;rintro x e J' ⟨rfl,g11,rfl⟩;simp[g11];exact⟨_,Xk (ki (n:=15) (f:=aO) (w:=1) (l:=q) (by decide) (λ_=>rfl) (λ_=>by simp[aO,D.clean]) hJ (by simp))⟩
theorem YW{lines:List (List UInt8)}{k:Int}(hl:lines.length<=1000000000)(hok:okB lines=false):Cl 14 [lF lines cm,iI k] (.cK [.bz,iI 3]) J:=by
 refine au ?_;have hC:=λS=>Bc (J:=S) (l:=lines) hl
 simp only[hok]at hC;simp[hC]
theorem Vk{lines:List (List UInt8)}{k:Int}(hl:IZ lines)(hk:bC k 0 ((lines.length:Int)-1)=false):Cl 14 [lF lines cm,iI k] (.cK [.bz,iI 2]) J:=by
 refine au ?_;have hC:=λS=>Bc (J:=S) (l:=lines) (by have:=hl.1;omega)
 have hok:okB lines=true:=Ez.2 hl;simp only[hok,if_true]at hC;have w1:IntKind.i64.wrap ((lines.length:Int)-1)=(lines.length:Int)-1:=cb (by have:=hl.1;omega);simp[hC,ej,w1,hk]
end
section
open Go Go.Abs Go.Rock Go.Book
def Ue(b b':Bk):Prop:=∀(i:Nat) (e:ec),b.ai[i]?=some e->∃e',b'.ai[i]?=some e'/\e'.m=e.m/\(e.left=false->e'=e)
theorem Ue.refl(b:Bk):Ue b b:=λi e h=>⟨e,h,rfl,λ_=>rfl⟩
theorem Ue.trans{a b c:Bk}(h1:Ue a b)(h2:Ue b c):Ue a c:=by
 intro i e h;obtain⟨e1,k1,k2,k3⟩:=h1 i e h;obtain⟨e2,j1,j2,j3⟩:=h2 i e1 k1;refine⟨e2,j1,j2.trans k2,λhl=>?_⟩;obtain rfl:=k3 hl;exact j3 hl
end
section
open Go Go.Abs Go.Rock Go.Book
variable {J:SK}
theorem Wn{a:List Int}(hl:a.length<=1000000000):∀(m i:Nat),i+m=a.length ->
  WL T [0,1,5] false om [(0,lF a aO),(1,lF a aO),(5,iI i)] J (λx e J'=>J'=J/\x=.exit 0)
 |0,i,hi=>by
  refine aA om.eq_1 ?_;have h1:¬i<a.length:=by omega
  simp[h1]
 |m+1,i,hi=>by
  refine aA om.eq_1 ?_;have h1:i<a.length:=by omega
  obtain⟨x,hx⟩:=gE h1;have a1:=bd (f:=aO) (w:=1) (λ_=>rfl) hx;simp only[aO,bS]at a1;have h4:=cg h1;simp[h1,a1,h4];exact WL.to (Wn hl m (i+1) (by omega)) (by simp) rfl λx e J' hh=>by simpa using hh
theorem VI{a:List Int}(hl:a.length<=1000000000):Cl 15 [lF a aO,lF a aO] (.bool true) J:=by
 refine au ?_;simp;refine WL.to (Wn (J:=[]::J) hl a.length 0 (by omega)) (by simp) rfl ?_;rintro x e J' ⟨rfl,rfl⟩;simp
theorem Oo{s t:List UInt8}:Cl 28 [.str s,.str t] (.bool (decide (t.length<=s.length) && (s.take t.length == t))) J:=by
 refine au ?_;by_cases h:t.length<=s.length
 .have h':(t.length:Int)<=s.length:=by omega
  simp[ia,h,h']
 .have h':¬(t.length:Int)<=s.length:=by omega
  simp[ia,h,h']
theorem abt{l:List (List UInt8)}(hl:l.length<=9223372036854775807):∀(m i:Nat) (x y z:Int),i+m=l.length ->
  WL T [0,3,4,5,6] false oj [(0,lF l cm),(3,iI x),(4,iI y),(5,iI z),(6,iI i)] J
   (λx e J'=>J'=J/\x=.exit 0/\get e 0=lF l cm/\∃u v w,get e 3=iI u/\get e 4=iI v/\get e 5=iI w)
 |0,i,x,y,z,hi=>by
  refine aA oj.eq_1 ?_;have h1:¬i<l.length:=by omega
  simp[h1]
 |m+1,i,x,y,z,hi=>by
  refine aA oj.eq_1 ?_;have h1:i<l.length:=by omega
  obtain⟨s,hs⟩:=gE h1;have a1:=bd (f:=cm) (w:=1) (λ_=>rfl) hs;simp only[cm,bS]at a1;have h4:=cg h1;have hB:=λt J=>@Oo J s t
  have e1:((i+1:Nat):Int)=(i:Int)+1:=by omega
  have ih:=λx y z=>abt hl m (i+1) x y z (by omega)
  rw[e1]at ih;rw[e1]at h4;generalize hv:(λt:List UInt8=>decide (t.length<=s.length) && (s.take t.length == t))=v at hB;have hB':∀t J,Cl 28 [.str s,.str t] (.bool (v t)) J:=λt J=>by rw[<- hv];exact Oo
  cases c1:v [109,111,100,101,108]<;>cases c2:v [116,105,99,107]<;>simp[ia,h1,a1,h4,hB',c1,c2]<;>
   exact WL.to (ih _ _ _) rfl rfl λx e J' hh=>by simpa using hh
theorem afZ{l:List (List UInt8)}(hl:l.length<=9223372036854775807)(J:SK):∃v,Cl 8 [lF l cm] (.bool v) J/\(v=true->l.length<=103):=by
 obtain⟨x,e,J',h1,rfl,rfl,g0,u,v,w,g3,g4,g5⟩:=abt (J:=[]::J) hl l.length 0 0 0 0 (by omega);refine⟨decide (v<=4) && (decide (w<=8) && (decide (u<=5000) && (decide ((l.length:Int)<=40) || (decide (u<=400) && decide ((l.length:Int)<=103))))),?_,λh=>by simp only[af,cj,az]at h;omega⟩;refine au ?_;simp;refine⟨_,_,_,by simpa using h1,?_⟩;by_cases c1:v<=4<;>by_cases c2:w<=8<;>by_cases c3:u<=5000<;>by_cases c4:(l.length:Int)<=40<;>by_cases c5:u<=400<;>by_cases c6:(l.length:Int)<=103<;>
  simp[g0,g3,g4,g5,c1,c2,c3,c4,c5,c6]
theorem Kn{α:Type}{p:α->Bool}:∀(l:List α),(idxOf p l = -1/\∀x∈l,p x=false)\/∃(k:Nat) (x:α),idxOf p l=k/\l[k]?=some x/\p x=true
 |[] => .inl ⟨rfl,by simp⟩
 |a::l=>by
  cases ha:p a with
  |true=>exact .inr ⟨0,a,by simp[idxOf,ha],rfl,ha⟩
  |false =>
   rcases Kn (p:=p) l with⟨h1,h2⟩ | ⟨k,x,h1,h2,h3⟩
   .refine .inl ⟨by simp[idxOf,ha,h1],λx hx=>?_⟩;rcases bw.1 hx with rfl | hx
    .exact ha
    .exact h2 x hx
   .refine .inr ⟨k+1,x,?_,by simpa using h2,h3⟩;have:¬(k:Int)<0:=by omega
    simp[idxOf,ha,h1,this]
def Qx:Dl:=⟨0,0,0,0⟩
def Xf(b:Bk)(nm:List UInt8):D :=
 if idxOf (λe=>e.m.name == nm) b.ai<0 then .cK [.agg Qx.enc,iI 5]
 else match b.ai[(idxOf (λe=>e.m.name == nm) b.ai).toNat]?,b.eJ[(idxOf (λe=>e.m.name == nm) b.ai).toNat]? with
  |some e,some v=>if e.left then .cK [.agg Qx.enc,.int .i64 7]else .cK [.agg v.enc,.int .i64 0]
  |_,_ => .undef
theorem YX{e:ec}{nm:List UInt8}:Cl 34 [.agg e.enc,.bg [.str nm]] (.bool (e.m.name == nm)) J:=by
 refine au ?_;simp[ia]
theorem T2{b:Bk}{er:List Int}{nm:List UInt8}{S:SK}(hl:b.ai.length<=1000000)(hs:eT S J.length=some (b.bF J.length er)):
  Cl 33 [.sl J.length 0 b.ai.length 0 b.ai.length 4,.fn 34 [] [.bg [.str nm]]] (iI (idxOf (λe=>e.m.name == nm) b.ai)) S :=
 Kp (enc:=ec.enc) (w:=4) (λ_=>rfl) (F:=b.bF J.length er) (bi:=0) (v:=b.ai.length) (l:=b.ai) rfl (by simp[Bk.bF]) (by omega)
  ⟨rfl,rfl,λe _ J=>by rw[pn];have h:=YX (J:=J) (e:=e) (nm:=nm);have h':dr T (.call false 34 ([]++[.agg e.enc]++[.bg [.str nm]]) J)=_:=h;rw[h'];rfl⟩ hs
theorem acq{lines:List (List UInt8)}{nm:List UInt8}(hl:IZ lines)(hJ:J≠[]):Cl 10 [lF lines cm,.str nm] (Xf (jM lines).1 nm) J:=by
 refine au ?_;have hC:=λS=>Bc (J:=S) (l:=lines) (by have:=hl.1;omega)
 have hok:okB lines=true:=Ez.2 hl;simp only[hok,if_true]at hC;have hR:=V5 (J:=J) (lines:=lines) hl;have hK:=KL (l:=lines) (k:=0) Kv.zero hl.2;rw[show(lh fN 0 lines).1=(jM lines).1 from rfl]at hK;have hml:=hK.ml;have hwl:=hK.wl;generalize jM lines=r at hR hml hwl ⊢;obtain⟨b,er⟩:=r;simp only at hR hml hwl ⊢;have hI:=T2 (J:=J) (b:=b) (er:=er) (nm:=nm) (S:=b.bF J.length er::J) (by omega) (by simp[eT]);simp only[Bk.bF,Bk.cells]at hR hI;unfold Xf;rcases Kn (p:=λe:ec=>e.m.name == nm) b.ai with⟨h1,_⟩ | ⟨k,e,h1,h2,h3⟩
 .rw[h1]at hI ⊢;simp[hC,hR,hI,Qx]
 .rw[h1]at hI ⊢;have hk:=(aB.1 h2).1;obtain⟨v,hv⟩:∃v,b.eJ[k]?=some v:=gE (by omega);have a1:=bd (f:=ec.enc) (w:=4) (λ_=>rfl) h2;have a2:=bd (f:=Dl.enc) (w:=4) (λ_=>rfl) hv;have b1:=b8 (f:=ec.enc) (w:=4) (λ_=>rfl) b.ai;have b2:=b8 (f:=Dl.enc) (w:=4) (λ_=>rfl) b.eJ;have⟨c1,c2⟩:4<=(fM b.ai ec.enc).length-k*4/\4<=(fM b.eJ Dl.enc).length-k*4:=by omega
  have d1:=rD (f:=ec.enc) (w:=4) (λ_=>rfl) h2;have⟨n0,n1,n2,hkw⟩:¬(k:Int)<0/\(k:Int)<b.ai.length/\(k:Int)<b.eJ.length/\k<b.eJ.length:=by omega
  simp only[ec.enc,Dl.enc]at a1 a2 d1;have d3:(fM b.ai ec.enc).drop (k*4+2)=.bool e.left::iI e.M7::(fM b.ai ec.enc).drop (k*4+4):=by
   have:=congrArg (List.drop 2) d1;simpa[ec.enc,dh]using this
  rw[if_neg n0,Int.toNat_natCast,h2,hv];cases hle:e.left
  .simp[hC,hR,hI,Qx,a2,d3,n0,n1,n2,hle,c2]
  .simp[hC,hR,hI,Qx,d3,n0,n1,hle]
def JZ:List (List UInt8):=[[102,105,101,108,100,32,50,32,49,32,49,32,52],[116,97,98,108,101,32,49,48,48,32,49,48,49,32,52,49,57,32,50,54,55,54,32,49,53,48,32,49,53,48,32,52,55,54,32,54,51,50,32,50,55,52,54,32,51,48,48,32,50,48,48,32,49,53,53,53,32,56,53,50,32,50,55,57,51,32,54,48,48],[98,101,100,32,49,48,48,48,32,48,32,56,48,48],[119,101,108,108,32,48,32,53,48,48,32,53],[109,111,100,101,108,32,97,32,56,48,48,48,32,56,48,48,48,32,53,48,48,32,52,48,48,32,57,48,48,32,52,48,48,32,48,32,49,48],[109,111,100,101,108,32,98,32,56,48,48,48,32,56,48,48,48,32,53,48,48,32,52,48,48,32,57,48,48,32,53,48,48,32,48,32,49,48],[108,111,103,32,116,49,32,50,32,51,57,48,32,52,49,48,32,49,32,49],[114,117,108,101,32,48,32,48,32,48,32,57,32,57,32,57,32,50,48,32,53,32,49,32,49],[113,117,97,107,101,32,49,32,49,32,49,32,50,53],[116,105,99,107,32,45,49,48,48],[116,105,99,107,32,53,48],[117,110,105,116,32,48,32,49,48,48,32,52,48,48],[115,101,108,108,32,48,32,48,32,48,32,51]]
def agE:List UInt8:=[116,105,99,107,115,32,50,32,99,111,108,111,117,114,32,49,32,119,101,108,108,115,32,49,10,109,111,100,101,108,32,97,32,108,101,102,116,10,109,111,100,101,108,32,98,32,115,116,114,117,99,107,32,54,10,115,97,108,101,32,48,32,116,105,99,107,32,50,32,119,101,108,108,32,48,32,119,111,114,107,32,52,48,48,48,46,46,52,48,48,48,32,109,111,110,101,121,32,49,50,48,48,48,46,46,49,50,48,48,48,10]
theorem Z1:CH (jM JZ).1=agE:=by kernel_rfl
theorem Z0:vA JZ 3=[9,10,12]:=by kernel_rfl
theorem W5:Xf (jM JZ).1 [98]=.cK [.agg [iI 6,iI 500,iI 390,iI 410],iI 0]:=by kernel_rfl
theorem Q4:IZ JZ:=⟨by decide,by decide⟩
theorem af0:Cl 29 [] (.bT 13 (fM JZ cm)) J:=by
 refine au ?_;simp[JZ,cm]
theorem VA(J:SK):Cl 9 [] (.bool true) J:=by
 refine nR K7 vC.eq_1 rfl ?_;have hD:=λJ=>af0 (J:=J)
 try simp only[Cl]at hD
 have hR:=λJ=>Vy (J:=J) Q4
 try simp only[lF,Cl]at hR
 have hF:=λS hS=>acq (J:=S) (lines:=JZ) (nm:=[98]) Q4 hS
 try simp only[lF,Cl]at hF
 have hP:=λS hS=>Lu (J:=S) (lines:=JZ) (k:=3) Q4 (by decide) hS
 try simp only[lF,Cl]at hP
 have hW:∀S,S≠[]->Cl 30 [.bT 1 [.str [97]]] (.cK [.bT 7 [.int .u8 0,.int .u8 1,.int .u8 255,.int .u8 254,.int .u8 97,.int .u8 0,.int .u8 128],iI 0]) S:=λS hS=>Y5 (J:=S) (l:=[[97]]) (by decide) hS
 try simp only[Cl]at hW
 rw[Z1]at hR;rw[W5]at hF;rw[Z0]at hP;have hI:∀J,Cl 15 [.bT 3 [iI 9,iI 10,iI 12],.bT 3 [iI 9,iI 10,iI 12]] (.bool true) J:=λJ=>VI (J:=J) (a:=[9,10,12]) (by decide)
 try simp only[Cl]at hI
 have hP:∀S,S≠[]->Cl 14 [.bT 13 (fM JZ cm),iI 3] (.cK [.bT 3 [iI 9,iI 10,iI 12],iI 0]) S:=hP
 try simp only[Cl]at hP
 rw[show JZ.length=13 from rfl]at hR hF;generalize fM JZ cm=dl at hD hR hF hP;have hB:Dn [.int .u8 0,.int .u8 1,.int .u8 255,.int .u8 254,.int .u8 97,.int .u8 0,.int .u8 128]=some [0,1,255,254,97,0,128]:=rfl;simp[ia,Vh,hD,hR,hF,hP,hW,hI,hB,agE]
end
section
open Go Go.Abs Go.Book
theorem aaU{α:Type}{T:Ty}{w:Nat}{f:α->List D}{Q:α->Prop}(h:∀ds,T.has ds->∃a,ds=f a/\Q a){d:D}(hd:(Ty.slice w T).has [d]):
  ∃l:List α,d=.bT l.length (fM l f)/\l.length<=maxLen/\∀a∈l,Q a:=by
 simp only[Ty.has,jV,and_true]at hd;obtain⟨xs,rfl,hl,hx⟩:=hd;have key:∀xs:List (List D),(∀x∈xs,x.length=w/\T.has x)->∃l:List α,xs.flatten=fM l f/\l.length=xs.length/\∀a∈l,Q a:=by
  intro xs;induction xs with
  |nil=>intro _;exact⟨[],rfl,rfl,by simp⟩
  |cons x xs ih =>
   intro hx;obtain⟨l,h1,h2,h3⟩:=ih λy hy=>hx y (by simp[hy])
   obtain⟨a,rfl,ha⟩:=h x (hx x (by simp)).2;exact⟨a::l,by simp[h1],by simp[h2],λb hb=>by
    rcases bw.1 hb with rfl | hb
    .exact ha
    .exact h3 b hb⟩
 obtain⟨l,h1,h2,h3⟩:=key xs hx;exact⟨l,by rw[h1,h2],by omega,h3⟩
theorem aa7{ds:List D}(h:Ty.str.has ds):∃s:List UInt8,ds=cm s/\s.length<=maxLen:=h
end
section
open Go Go.Abs Go.Rock Go.Book
variable {J:SK}
theorem MX{lines:List (List UInt8)}{w wo:List Int}{A:List Abs.aG}{n:Nat}(hn:lines.length=n)(hw:w.length=n)(hwo:wo.length+1=n)(hl:n<=100){q:Nat}(hq:A.length=q):∀(m i:Nat) (acc:List Int),i+m=n->1<=i->acc.length+m<=100 ->
  WL T [0,6,8,9,10] false kI [(0,.bT n (fM lines cm)),(6,.bT n (fM w aO)),(8,.bT (n-1) (fM wo aO)),(9,.sl J.length q acc.length 0 acc.length 1),(10,iI i)] ((A++[.cells acc.length (fM acc aO)])::J)
   (λx e J'=>x=.exit 0/\get e 9=.sl J.length q (acc++pX w wo i m).length 0 (acc++pX w wo i m).length 1/\J'=(A++[.cells (acc++pX w wo i m).length (fM (acc++pX w wo i m) aO)])::J)
 |0,i,acc,hi,h0,ha=>by
  refine aA kI.eq_1 ?_;obtain rfl:i=n:=by omega
  simp[pX]
 |m+1,i,acc,hi,h0,ha=>by
  refine aA kI.eq_1 ?_;have⟨h1,h1'⟩:i<n/\i-1<n-1:=by omega
  obtain⟨x,hx⟩:∃s,w[i]?=some s:=gE (by omega);obtain⟨y,hy⟩:∃s,wo[i-1]?=some s:=⟨_,aH (by omega)⟩;have a1:=bd (f:=aO) (w:=1) (λ_=>rfl) hx;have a2:=bd (f:=aO) (w:=1) (λ_=>rfl) hy;simp only[aO,bS]at a1 a2;have h4:=cg h1;have w1:IntKind.i64.wrap ((i:Int)-1)=((i-1:Nat):Int):=(cb).trans (by omega);have fl:=oE acc;have tk:(fM acc aO).take acc.length=fM acc aO:=ah (by omega);have hr:(acc.length+1)*8<=room:=by unfold room;omega
  have b1:=λx=>WN (x:=x) hq
  have b2:=λx y=>SU (x:=x) (y:=y) hq
  by_cases hc:x=y
  .subst hc;have hd:pX w wo i (m+1)=pX w wo (i+1) m:=by rw[pX,hx,hy];simp
   rw[hd];simp[h1,h1',a1,a2,h4,w1];exact WL.to (MX hn hw hwo hl hq m (i+1) acc (by omega) (by omega) (by omega)) (by simp) rfl λx e J' hh=>by simpa using hh
  .have hd:pX w wo i (m+1)=(i:Int)::pX w wo (i+1) m:=by rw[pX,hx,hy];simp[hc]
   rw[hd,show acc++(i:Int)::pX w wo (i+1) m=(acc++[(i:Int)])++pX w wo (i+1) m by simp];simp[h1,h1',a1,a2,h4,w1,hc,b1,b2,fl,tk,hr];exact WL.to (MX hn hw hwo hl hq m (i+1) (acc++[(i:Int)]) (by omega) (by omega) (by simp;omega)) (by simp) (by simp) λx e J' hh=>by simpa using hh
theorem Zv(hJ:J≠[]):Cl 13 [.bz] (.cK [.agg (bY fN),.bT 0 []]) J:=by
 refine au ?_;have hL:=QV (J:=J) (lines:=[]) (by exact⟨by decide,λs hs=>by cases hs⟩) 0 0 fN [] rfl rfl Kr.zero;simp[OA,eS];refine WL.to hL (by simp[zS]) (by simp) ?_;rintro x e J' ⟨rfl,g2,g4,g5,rfl⟩;simp only[List.drop_nil,lh]at g4;simp[g2,g4,g5,eS,eH,CQ,xV,lh];have hk:=ki (J:=J) (n:=15) (f:=aO) (w:=1) (l:=[]) (j:=0) (v:=0) (bs:=[.cells 0 []]) (by decide) (λ_=>rfl) (λx=>by simp[aO,D.clean]) hJ rfl;simp only[aY]at hk;rw[o4 (by simp[D.clean]) (by omega)];simp only[jb,j9];rw[ek (by simp[D.clean,mo]) (by omega),hk];exact⟨_,rfl⟩
theorem acK{lines:List (List UInt8)}{k:Nat}(hl:IZ lines)(hk:k<lines.length)(hJ:J≠[]):Cl 16 [lF lines cm,iI k] (lF (vA lines k) aO) J:=by
 refine nR IV rX.eq_1 rfl ?_;have hlen:=hl.1;have hRun:=λS hS=>V2 (J:=S) (lines:=lines) hl hS
 try simp only[lF,Cl]at hRun
 have hcl:(tu lines k).length=lines.length-1:=by simp[tu];omega
 have hck:IZ (tu lines k):=⟨by omega,λs hs=>by
  rcases aT.1 hs with h | h
  .exact hl.2 s (cY h)
  .exact hl.2 s (cX h)⟩
 have hRun2:=λS hS=>V2 (J:=S) (lines:=tu lines k) hck hS
 try simp only[lF,Cl]at hRun2
 rw[hcl]at hRun2;have w2:=cb (n:=(k:Int)+1);have⟨q3,q4,q6⟩:(k:Int)+1<=lines.length/\(k:Int)<=lines.length/\k<=lines.length:=by omega
 have e1:(fM lines cm).take k=fM (lines.take k) cm:=by rw[oG,oG,List.map_take]
 have e2:(fM lines cm).drop (k+1)=fM (lines.drop (k+1)) cm:=by rw[oG,oG,List.map_drop]
 have e3:(fM (lines.take k) cm).length=k:=by rw[oG];simp;omega
 have hr:k*16<=room:=by unfold room;omega
 have e4:lines.length-(k+1)=(lines.drop (k+1)).length:=by simp
 have e5:fM (lines.drop (k+1)) cm=(lines.drop (k+1)).map .str:=oG _;have e6:(fM (lines.drop (k+1)) cm).take (lines.length-(k+1))=fM (lines.drop (k+1)) cm:=by rw[oG];exact ah (by simp)
 have e7:(fM lines.tail cm).take (lines.length-1)=fM lines.tail cm:=by rw[oG];exact ah (by simp)
 have q7:(0:Int)<=(k:Int)+1:=by omega
 have⟨hr2,hr3⟩:(lines.length-1)*16<=room/\lines.length*16<=room:=by unfold room;omega
 have hdl:=λA w wo a b=>MX (J:=J) (lines:=lines) (w:=w) (wo:=wo) (A:=A) (n:=lines.length) rfl a b (by omega) (q:=1)
 have hw:(jM lines).2.length=lines.length:=@tg lines fN 0;have hwo:(jM (tu lines k)).2.length+1=lines.length:=by have:=@tg (tu lines k) fN 0;show(lh fN 0 (tu lines k)).2.length+1=_;omega
 have hL:=hdl [.dead] (jM lines).2 (jM (tu lines k)).2 hw hwo rfl (lines.length-(k+1)) (k+1) [] (by omega) (by omega) (by simp;omega);simp only[List.nil_append]at hL;rw[show pX (jM lines).2 (jM (tu lines k)).2 (k+1) (lines.length-(k+1))=vA lines k from rfl]at hL;have hend:∀d:List Int,∃s,cF (J.length-1) 16 (.sl J.length 1 d.length 0 d.length 1) ([.dead,.cells d.length (fM d aO)]::J)=(lF d aO,s::J):=λd=>⟨_,ki (f:=aO) (w:=1) (l:=d) (j:=1) (v:=d.length) (bs:=[.dead,.cells d.length (fM d aO)]) (by decide) (λ_=>rfl) (λ_=>by simp[aO,D.clean]) hJ rfl⟩
 try simp only[lF]at hend
 by_cases hk0:k=0
 .subst hk0;have q8:(1:Int)<=lines.length:=by omega
  have hct:tu lines 0=lines.tail:=by simp[tu]
  rw[hct]at hRun2;have f1:(fM lines.tail cm).length=lines.length-1:=by rw[oG];simp
  have hf0:=o9 (J:=J) (f:=cm) (w:=1) (λ_=>rfl) (λ_=>by simp[cm,D.clean]) (l:=lines.tail) (j:=0) (v:=0) (bs:=[.cells 0 (fM lines.tail cm)]) hJ rfl;rw[List.length_tail]at hf0;simp only[List.set_cons_zero]at hf0;by_cases h1:lines.length-1=0
  .have hl1:lines.length=1:=by omega
   have ht:lines.tail=[]:=bq.1 (by rw[List.length_tail];omega);have hq:vA lines 0=[]:=by simp only[vA,hl1];rfl
   have hN:=λS hS=>Zv (J:=S) hS
   try simp only[Cl]at hN
   have hL0:=MX (J:=J) (lines:=lines) (w:=(jM lines).2) (wo:=[]) (A:=[]) (n:=1) hl1 (by omega) rfl (by omega) (q:=0) rfl 0 1 [] (by omega) (by omega) (by simp);simp only[List.nil_append,pX,aY,mY]at hL0;rw[hq];simp only[lF,hl1]at hRun ⊢;simp[hRun,eS,hN];refine WL.to hL0 (by simp) (by simp) ?_;rintro x e J' ⟨rfl,g9,rfl⟩;simp[g9];have hk:=ki (J:=J) (n:=16) (f:=aO) (w:=1) (l:=[]) (j:=0) (v:=0) (bs:=[.cells 0 []]) (by decide) (λ_=>rfl) (λ_=>by simp[aO,D.clean]) hJ rfl
   try simp only[lF]at hk
   exact⟨_,hk⟩
  simp[hRun,eS,e1,e2,hr,e7,q8,hr2,f1,h1,hf0,hRun2];refine WL.to hL (by simp[hct]) (by simp) ?_;rintro x e J' ⟨rfl,g9,rfl⟩;simp[g9];exact hend _
 have f1:(fM (lines.drop (k+1)) cm).length=lines.length-(k+1):=by rw[oG];simp
 have f2:fM (lines.take k) cm++fM (lines.drop (k+1)) cm=fM (tu lines k) cm:=by simp[tu]
 have f3:k+(lines.length-(k+1))=lines.length-1:=by omega
 have f4:(fM (lines.take k) cm).take k=fM (lines.take k) cm:=ah (by omega);have hf0:=o9 (J:=J) (f:=cm) (w:=1) (λ_=>rfl) (λ_=>by simp[cm,D.clean]) (l:=tu lines k) (j:=0) (v:=1) (bs:=[.cells 1 (fM (tu lines k) cm)]) hJ rfl;rw[hcl]at hf0;simp only[List.set_cons_zero]at hf0;simp[hRun,eS,w2,q3,q6,q7,e1,e2,e3,e6,hr,hk0,hr2,f1,f2,f3,f4,hf0,hRun2];refine WL.to hL (by simp) (by simp) ?_;rintro x e J' ⟨rfl,g9,rfl⟩;simp[g9];exact hend _
theorem PF{l:List (List UInt8)}{k:Int}(hl:l.length<=9223372036854775807):
  Cl 4 [lF l cm,iI k] (.bool true) [[]]:=by
 obtain⟨v,hF,hv⟩:=afZ (l:=l) (by omega) [[],[]];have hA:=VA [[],[]];refine au ?_;cases v
 .simp[hF,hA]
 have hl:l.length<=1000000000:=by have:=hv rfl;omega
 have hR:=T9 (J:=[[],[]]) (l:=l) hl;have hL:=λS hS=>acG (J:=S) (l:=l) hl hS
 cases hok:okB l
 .rw[hok]at hR;have h1:=λJ=>YW (J:=J) (k:=k) hl hok
  simp[hF,hL,h1,hR,hA]
 rw[hok]at hR;have hk:=Ez.1 hok;cases hin:bC k 0 ((l.length:Int)-1)
 .have h1:=λJ=>Vk (J:=J) hk hin
  have h2:k<0\/(l.length:Int)<=k:=by
   rcases Int.lt_or_le k 0 with h | h
   .exact .inl h
   .refine .inr (Int.not_lt.1 λh3=>?_);have:bC k 0 ((l.length:Int)-1)=true:=aP.2 ⟨h,by omega⟩;rw[this]at hin;cases hin
  by_cases h3:k<0
  .simp[hF,hL,h1,hR,hA,h3]
  .have h4:(l.length:Int)<=k:=by omega
   simp[hF,hL,h1,hR,hA,h3,h4]
 have hin:=aP.1 hin;obtain⟨k,rfl⟩:∃n:Nat,k=n:=⟨k.toNat,by omega⟩;have hkl:k<l.length:=by omega
 have h1:=λS hS=>Lu (J:=S) hk hkl hS
 have h2:=λS hS=>acK (J:=S) hk hkl hS
 have h3:=λJ=>VI (J:=J) (a:=vA l k) (by have:=@SY (jM l).2 (jM (tu l k)).2 (l.length-(k+1)) (k+1);simp only[vA];omega)
 have⟨h4,h5⟩:¬(k:Int)<0/\¬l.length<=k:=by omega
 simp[hF,hL,h1,h2,h3,hR,hA,h4,h5]
theorem GL(x0 x1:D)(t0:(Ty.slice 1 .str).adM x0)(t1:(Ty.int .i64).adM x1):∃J',dr T (.call false 4 [x0,x1] [[]])=some (.val (.bool true) J'):=by
 obtain⟨l,rfl,hl,_⟩:=aaU (λds h=>aa7 h) t0;obtain⟨n,h,hw⟩:=t1;cases h;have hm:maxLen<=9223372036854775807:=by decide
 exact⟨_,PF (by omega)⟩
end
end Go.Proofs.YtpapbbojmclkgaaGreatDoor
