import Derived.Test.YtpapbbojmclkgaaGreatDoorTxt3
import Derived.Test.YtpapbbojmclkgaaGreatDoorTxt2
set_option linter.all false
set_option maxRecDepth 100000
namespace Go.Proofs.YtpapbbojmclkgaaGreatDoor
open Go Go.Abs Go.Rock Go.Book
variable {J:SK}
@[simp] theorem ah9{α:Type}{f:α->List D}{l:List α}:Ua (nl f l)=some (iI l.length):=by
 unfold nl;split
 .rename_i h;subst h;rfl
 .rfl
@[simp] theorem aha{α:Type}{f:α->List D}{l:List α}:(nl f l).strip=nl f l:=by unfold nl;split<;>rfl
@[simp] theorem ahY{α:Type}{f:α->List D}{l:List α}:(nl f l).calm=nl f l:=by unfold nl;split<;>rfl
theorem NH{x:Trem.Ev}(hs:x.sp.length<=9223372036854775807):Cl pv [.aW,.bY 1 x.enc,iI 0] (.cV [.int .u8 0,.int .u8 0,iI (if x.ok then 0 else 1)]) J:=by
 refine au rfl rfl rfl ?_;have hA:=λJ=>@U3 J [x] (by simp) (by simpa using hs)
 try simp only[lF,Cl]at hA
 have hN:=λJ=>all_nil (T:=T) (J:=J) (fv:=.fn hJ [] []) (f:=ep) (ag:=true) (w:=10) rfl rfl rfl rfl rfl rfl
 simp only[List.length_singleton,eg,rP,cX,da,jl,List.all_nil,Bool.and_true]at hA;have w0:Trem.bA 0 0 1000000=true:=by decide
 cases hr:x.ok
 .rw[hr]at hA;simp only[lF,Trem.Ev.enc]at hA ⊢;simp[hA,hN]
 .rw[hr]at hA;simp only[lF,Trem.Ev.enc]at hA ⊢;simp[hA,hN,iD,w0];refine aB eQ.eq_1 ?_;simp
def spD(L:Nat)(acc:List Trem.pH):D:=.sl L 0 acc.length 0 acc.length 4
def spS(acc:List Trem.pH):List Abs.aD:=[.cells acc.length (fM acc Trem.pH.enc)]
theorem Nu(l:List Trem.pH):(fM l Trem.pH.enc).length=l.length*4:=ch (f:=Trem.pH.enc) (w:=4) (λ_=>rfl) l
theorem Mu{bp:D}(hb1:bp.calm=bp){tk:Int}:∀(rs acc:List Trem.pH),acc.length+rs.length<=1000000 ->
  WL T [0,2,6] false fX [(0,bp),(2,.bY (rs.length*4) (fM rs Trem.pH.enc)),(6,.own 0 [iI tk,spD J.length acc])] (spS acc::J)
   (λx e J'=>x=.exit 0/\get e 0=bp/\get e 6=.own 0 [iI tk,spD J.length (acc++rs)]/\get e 1000006=.undef/\J'=spS (acc++rs)::J)
 |[],acc,h=>by
  refine aB fX.eq_1 ?_;simp[hb1]
 |r::rs,acc,h=>by
  refine aB fX.eq_1 ?_;simp only[aK]at h;have⟨e1,q0,q1,q2,q3,q4⟩:(rs.length+1)*4=rs.length*4+4/\(0:Int)<(rs.length:Int)*4+4/\(1:Int)<(rs.length:Int)*4+4/\(2:Int)<(rs.length:Int)*4+4/\(3:Int)<(rs.length:Int)*4+4/\(4:Int)<=(rs.length:Int)*4+4:=by omega
  have⟨hroom,h32⟩:(acc.length+1)*32<=room/\32<=room:=by unfold room;omega
  have hl:=Nu acc;have ht:(fM acc Trem.pH.enc).take (acc.length*4)=fM acc Trem.pH.enc:=ai (by omega);have hl2:=Nu rs;have ht2:(fM rs Trem.pH.enc).take (rs.length*4)=fM rs Trem.pH.enc:=ai (by omega);simp[hb1,e1,q0,q1,q2,q3,q4,hroom,hl,ht,spD,spS];refine WL.to (Mu hb1 (tk:=tk) rs (acc++[r]) (by simp;omega)) (by simp[ht2,spD]) (by simp[spS]) λx e J' hh=>?_
  simpa[spD,spS]using hh
def DO(b:Bk)(x:Trem.Ev):Bk:={b with sV:=b.sV++[x] }
def oK(b:Bk)(sp:List Trem.pH):Bk×Int:=if b.sV.length<200 then(if Trem.Ev.ok ⟨b.az.length,sp⟩=true then(DO b ⟨b.az.length,sp⟩,0)else(b,1))else(b,3)
theorem Wl(l:List Trem.Ev):(fM l Trem.Ev.enc).length=l.length*2:=ch (f:=Trem.Ev.enc) (w:=2) (λ_=>rfl) l
theorem Wt{S:SK}{L:Nat}(hS:S.length=L)(hL:0<L){sp:List Trem.pH}{tk:Int}:cG.frzL (cG 0 16) [iI tk,spD L sp] (spS sp::S)=([iI tk,lF sp Trem.pH.enc],[.dead]::S):=by
 have hf:=pV (f:=Trem.pH.enc) (w:=4) (λ_=>rfl) (λ_=>by simp[D.clean]) (l:=sp) (j:=0) (v:=sp.length) (bs:=[Abs.aD.cells sp.length (fM sp Trem.pH.enc)]) (J:=S) (by intro h;subst h;simp at hS;omega) (by simp);rw[hS]at hf;simp[spD,spS,hf]
theorem YC{F:List Abs.aD}{b:Bk}{er:List Int}{nm:List UInt8}{sp:List Trem.pH}{b':Bk}{e:Int}(hl:sp.length<=1000000)(hd:oK b sp=(b',e))(he:e=0):
  dj T (.call false jy [.ref J.length 6 0 0,.str nm,.bY (sp.length*4) (fM sp Trem.pH.enc)] (F::b.bH J.length er::J))=some (.val (.cV []) (F::b'.bH J.length er::J)):=by
 refine fJ rfl rfl rfl (by simp) ?_;unfold oK at hd;split at hd
 case isFalse=>cases hd;cases he
 rename_i h1;split at hd
 case isFalse=>cases hd;cases he
 rename_i h2;cases hd;have h1':(b.sV.length:Int)<200:=by omega
 have hC:=λJ=>NH (J:=J) (x:=⟨b.az.length,sp⟩) (by simp;omega)
 simp only[h2,if_true,Trem.Ev.enc]at hC;have hL:=Mu (J:=F::b.bH J.length er::J) (bp:=.ref J.length 6 0 0) rfl (tk:=b.az.length) sp [] (by simpa using hl);have hne:sp≠[]:=by
  intro hh;subst hh;simp[Trem.Ev.ok,Trem.bA]at h2
 simp[Bk.bH,Bk.cells,h1',cK];refine WL.to hL (by simp[spD]) (by simp[Bk.bH,Bk.cells,spS]) ?_;rintro x e J' ⟨rfl,g0,g6,gu,rfl⟩;have hf:=λS hS=>Wt (S:=S) (L:=J.length+1+1) hS (by omega) (sp:=sp) (tk:=b.az.length)
 have w2:(b.sV.length+1)*32<=room:=by unfold room;omega
 have w3:=Wl b.sV;have w4:(fM b.sV Trem.Ev.enc).take (b.sV.length*2)=fM b.sV Trem.Ev.enc:=ai (by omega);have hcl:D.bd (fM sp Trem.pH.enc)=true:=fN (λ_=>by simp[D.clean]) sp;simp only[List.nil_append]at g6;simp[g0,g6,gu,hf,hC,nE,Bk.bH,Bk.cells,DO,w2,w3,w4,hcl]
theorem Tr{F:List Abs.aD}{b:Bk}{er:List Int}{nm:List UInt8}{sp:List Trem.pH}{b':Bk}{e:Int}(hl:sp.length<=1000000)(hd:oK b sp=(b',e))(he:e≠0):
  dj T (.call false jy [.ref J.length 6 0 0,.str nm,.bY (sp.length*4) (fM sp Trem.pH.enc)] (F::b.bH J.length er::J))=some (.ft (rf e) (F::b.bH J.length er::J)):=by
 refine dY rfl rfl rfl ?_;have hM:=λJ=>oI (J:=J) (e:=1) (by decide)
 have hrc:(D.tP 200 (.agg [iI 1])).clean=true:=rfl;unfold oK at hd;split at hd
 case isFalse h1 =>
  cases hd;have h1':¬(b.sV.length:Int)<200:=by omega
  simp[Bk.bH,Bk.cells,h1',dG,D.clean,rf]
 rename_i h1;split at hd
 case isTrue=>cases hd;exact absurd rfl he
 rename_i h2;cases hd;have h1':(b.sV.length:Int)<200:=by omega
 have h2':Trem.Ev.ok ⟨b.az.length,sp⟩=false:=by simpa using h2
 have hC:=λJ=>NH (J:=J) (x:=⟨b.az.length,sp⟩) (by simp;omega)
 simp only[h2',Trem.Ev.enc]at hC;have hL:=Mu (J:=F::b.bH J.length er::J) (bp:=.ref J.length 6 0 0) rfl (tk:=b.az.length) sp [] (by simpa using hl);simp[Bk.bH,Bk.cells,h1',cK];refine WL.to hL (by simp[spD]) (by simp[Bk.bH,Bk.cells,spS]) ?_;rintro x e J' ⟨rfl,g0,g6,gu,rfl⟩;have hf:=λS hS=>Wt (S:=S) (L:=J.length+1+1) hS (by omega) (sp:=sp) (tk:=b.az.length)
 have hcl:D.bd (fM sp Trem.pH.enc)=true:=fN (λ_=>by simp[D.clean]) sp;simp only[List.nil_append]at g6;simp[g0,g6,gu,hf,hC,hM,Bk.bH,Bk.cells,rf,hrc]
theorem DY{a b c:Int}:Cl yu [iI a,iI b,iI c] (.bool (bA a b c)) J:=by
 refine au rfl rfl rfl ?_;by_cases h:b<=a<;>simp[h,bA]
theorem Tz{p:Prt}{last:Int}:dj T (.call false gi [.agg p.enc,.ref J.length 0 0 0] ([]::[]::[]::[]::[.cells 0 [iI last]]::J))=some (.val (.bool (p.ok last)) ([]::[]::[]::[]::[.cells 0 [iI p.kG]]::J)):=by
 refine fJ rfl rfl rfl (by simp) ?_;cases h:bA p.kG 0 last<;>simp[DY,h,Prt.ok]
theorem NZ{u:oW}(hl:u.parts.length<=1000000000):Cl rV [.agg u.enc] (.bool u.ok) J:=by
 refine au rfl rfl rfl ?_;have hA:=My (xJ 2 Prt.enc (λ_=>rfl)) (T:=T) (S:=λi=>[.cells 0 [iI (kM u.parts i)]]::J) (fv:=.fn gi [] [.ref J.length 0 0 0]) (l:=u.parts) (p:=Bi u.parts)
  (f:=j9) (g:=mm) (h:=gP) (i:=jB) rfl rfl rfl rfl (by omega) rfl rfl rfl (λ_=>rfl) (λi x hx=>by
   rw[oY];have h:=Tz (J:=J) (p:=x) (last:=kM u.parts i);have e1:kM u.parts (i+1)=x.kG:=by simp[kM,hx]
   have e2:Bi u.parts i=x.ok (kM u.parts i):=by simp[Bi,hx]
   have h':dj T (.call false gi ([]++[(xJ 2 Prt.enc (λ_=>rfl)).val x]++[.ref J.length 0 0 0]) ([]::[]::[]::[]::[.cells 0 [iI (kM u.parts i)]]::J))=_:=h;rw[h',e1,e2];rfl)
 have hb:(!(oo (λi => !Bi u.parts i) 0 u.parts.length).1)=Ag 1000 u.parts:=by
  have h1:=Ej (q:=λi => !Bi u.parts i) (m:=u.parts.length) (i:=0);have h2:=Ls (l:=u.parts);cases hf:Ag 1000 u.parts
  .cases hs:(oo (λi => !Bi u.parts i) 0 u.parts.length).1
   .have h3:=h1.1 hs;have h4:=h2.2 λj hj=>by simpa using h3 j hj
    rw[hf]at h4;cases h4
   .rfl
  .have h3:=h2.1 hf;have h4:=h1.2 λj hj=>by simp[h3 j hj]
   rw[h4];rfl
 rw[hb]at hA;have e0:kM u.parts 0=1000:=rfl;have hA':dj T (.call false j9 [lF u.parts Prt.enc,.fn gi [] [.ref J.length 0 0 0]] ([.cells 0 [iI 1000]]::J))=_:=hA;cases h1:bA u.wZ 0 5
 .simp[DY,h1,oW.ok]
 cases h2:bA u.parts.length 1 8
 .simp[DY,h1,h2,oW.ok]
 simp[DY,h1,h2,oW.ok,hA']
theorem HM{u:oW}(hl:u.parts.length<=1000000000):Cl tF [.agg u.enc] (iI (if u.ok then 0 else 1)) J:=by
 refine au rfl rfl rfl ?_;have hC:=λJ=>NZ (J:=J) hl
 simp only[oW.enc]at hC ⊢;cases hc:u.ok<;>rw[hc]at hC<;>simp[hC]
def Z1(L:Nat)(acc:List Prt):D:=.sl L 0 acc.length 0 acc.length 2
def Z2(acc:List Prt):List Abs.aD:=[.cells acc.length (fM acc Prt.enc)]
theorem GJ(l:List Prt):(fM l Prt.enc).length=l.length*2:=ch (f:=Prt.enc) (w:=2) (λ_=>rfl) l
theorem Mq{bp:D}(hb1:bp.calm=bp){tk:Int}:∀(rs acc:List Prt),acc.length+rs.length<=1000000 ->
  WL T [0,2,6] false gH [(0,bp),(2,.bY (rs.length*2) (fM rs Prt.enc)),(6,.own 0 [iI tk,Z1 J.length acc])] (Z2 acc::J)
   (λx e J'=>x=.exit 0/\get e 0=bp/\get e 6=.own 0 [iI tk,Z1 J.length (acc++rs)]/\get e 1000006=.undef/\J'=Z2 (acc++rs)::J)
 |[],acc,h=>by
  refine aB gH.eq_1 ?_;simp[hb1]
 |r::rs,acc,h=>by
  refine aB gH.eq_1 ?_;simp only[aK]at h;have⟨e1,q0,q1,q2⟩:(rs.length+1)*2=rs.length*2+2/\(0:Int)<(rs.length:Int)*2+2/\(1:Int)<(rs.length:Int)*2+2/\(2:Int)<=(rs.length:Int)*2+2:=by omega
  have⟨hroom,h32⟩:(acc.length+1)*16<=room/\16<=room:=by unfold room;omega
  have hl:=GJ acc;have ht:(fM acc Prt.enc).take (acc.length*2)=fM acc Prt.enc:=ai (by omega);have hl2:=GJ rs;have ht2:(fM rs Prt.enc).take (rs.length*2)=fM rs Prt.enc:=ai (by omega);simp[hb1,e1,q0,q1,q2,hroom,hl,ht,Z1,Z2];refine WL.to (Mq hb1 (tk:=tk) rs (acc++[r]) (by simp;omega)) (by simp[ht2,Z1]) (by simp[Z2]) λx e J' hh=>?_
  simpa[Z1,Z2]using hh
def Is(b:Bk)(u:oW):Bk:={b with cJ:=b.cJ++[u] }
def sZ(b:Bk)(u:oW):Bk×Int:=if b.cJ.length<10 then(if u.ok=true then(Is b u,0)else(b,1))else(b,3)
theorem I2(l:List oW):(fM l oW.enc).length=l.length*2:=ch (f:=oW.enc) (w:=2) (λ_=>rfl) l
theorem Ws{S:SK}{L:Nat}(hS:S.length=L)(hL:0<L){pt:List Prt}{tk:Int}:cG.frzL (cG 0 16) [iI tk,Z1 L pt] (Z2 pt::S)=([iI tk,lF pt Prt.enc],[.dead]::S):=by
 have hf:=pV (f:=Prt.enc) (w:=2) (λ_=>rfl) (λ_=>by simp[D.clean]) (l:=pt) (j:=0) (v:=pt.length) (bs:=[Abs.aD.cells pt.length (fM pt Prt.enc)]) (J:=S) (by intro h;subst h;simp at hS;omega) (by simp);rw[hS]at hf;simp[Z1,Z2,hf]
theorem acG{l:List Prt}:D.bd (fM l Prt.enc)=true:=fN (λ_=>by simp[D.clean]) l
theorem ab7{F:List Abs.aD}{b:Bk}{er:List Int}{nm:List UInt8}{u:oW}{b':Bk}{e:Int}(hl:u.parts.length<=1000000)(hd:sZ b u=(b',e))(he:e=0):
  dj T (.call false j5 [.ref J.length 6 0 0,.str nm,.bY (u.parts.length*2+1) (iI u.wZ::fM u.parts Prt.enc)] (F::b.bH J.length er::J))=some (.val (.cV []) (F::b'.bH J.length er::J)):=by
 refine fJ rfl rfl rfl (by simp) ?_;unfold sZ at hd;split at hd
 case isFalse=>cases hd;cases he
 rename_i h1;split at hd
 case isFalse=>cases hd;cases he
 rename_i h2;cases hd;have h1':(b.cJ.length:Int)<10:=by omega
 have hC:=λJ=>HM (J:=J) (u:=u) (by omega)
 simp only[h2,if_true,oW.enc]at hC;have hL:=Mq (J:=F::b.bH J.length er::J) (bp:=.ref J.length 6 0 0) rfl (tk:=u.wZ) u.parts [] (by simpa using hl);have hne:u.parts≠[]:=by
  intro hh;simp[oW.ok,bA,hh]at h2
 have⟨q0,q1⟩:(0:Int)<(u.parts.length:Int)*2+1/\(1:Int)<=(u.parts.length:Int)*2+1:=by omega
 have hlp:=GJ u.parts;have htp:(fM u.parts Prt.enc).take (u.parts.length*2)=fM u.parts Prt.enc:=ai (by omega);simp[Bk.bH,Bk.cells,h1',cK,q0,q1];refine WL.to hL (by simp[Z1,htp]) (by simp[Bk.bH,Bk.cells,Z2]) ?_;rintro x e J' ⟨rfl,g0,g6,gu,rfl⟩;have hf:=λS hS=>Ws (S:=S) (L:=J.length+1+1) hS (by omega) (pt:=u.parts) (tk:=u.wZ)
 have w2:(b.cJ.length+1)*32<=room:=by unfold room;omega
 have w3:=I2 b.cJ;have w4:(fM b.cJ oW.enc).take (b.cJ.length*2)=fM b.cJ oW.enc:=ai (by omega);simp only[List.nil_append]at g6;simp[g0,g6,gu,hf,hC,nE,Bk.bH,Bk.cells,Is,w2,w3,w4,acG]
theorem Vy{F:List Abs.aD}{b:Bk}{er:List Int}{nm:List UInt8}{u:oW}{b':Bk}{e:Int}(hl:u.parts.length<=1000000)(hd:sZ b u=(b',e))(he:e≠0):
  dj T (.call false j5 [.ref J.length 6 0 0,.str nm,.bY (u.parts.length*2+1) (iI u.wZ::fM u.parts Prt.enc)] (F::b.bH J.length er::J))=some (.ft (rf e) (F::b.bH J.length er::J)):=by
 refine dY rfl rfl rfl ?_;have hM:=λJ=>oI (J:=J) (e:=1) (by decide)
 have hrc:(D.tP 200 (.agg [iI 1])).clean=true:=rfl;unfold sZ at hd;split at hd
 case isFalse h1 =>
  cases hd;have h1':¬(b.cJ.length:Int)<10:=by omega
  simp[Bk.bH,Bk.cells,h1',dG,D.clean,rf]
 rename_i h1;split at hd
 case isTrue=>cases hd;exact absurd rfl he
 rename_i h2;cases hd;have h1':(b.cJ.length:Int)<10:=by omega
 have h2':u.ok=false:=by simpa using h2
 have hC:=λJ=>HM (J:=J) (u:=u) (by omega)
 simp only[h2',oW.enc]at hC;have hL:=Mq (J:=F::b.bH J.length er::J) (bp:=.ref J.length 6 0 0) rfl (tk:=u.wZ) u.parts [] (by simpa using hl);have⟨q0,q1⟩:(0:Int)<(u.parts.length:Int)*2+1/\(1:Int)<=(u.parts.length:Int)*2+1:=by omega
 have hlp:=GJ u.parts;have htp:(fM u.parts Prt.enc).take (u.parts.length*2)=fM u.parts Prt.enc:=ai (by omega);simp[Bk.bH,Bk.cells,h1',cK,q0,q1];refine WL.to hL (by simp[Z1,htp]) (by simp[Bk.bH,Bk.cells,Z2]) ?_;rintro x e J' ⟨rfl,g0,g6,gu,rfl⟩;have hf:=λS hS=>Ws (S:=S) (L:=J.length+1+1) hS (by omega) (pt:=u.parts) (tk:=u.wZ)
 simp only[List.nil_append]at g6;simp[g6,gu,hf,hC,hM,Bk.bH,Bk.cells,rf,hrc]
def Kx(b:bU)(m:bV):D:=if Bd b m then XN (bX b m)else .aW
theorem PK{b:bU}{m:bV}:(Kx b m).strip=Kx b m:=by unfold Kx;split<;>rfl
theorem Rt{b:bU}{m:bV}{tq wq:D}(htq:tq.pY=lF b.dL Rw.enc)(hwq:wq.pY=lF b.av bG.enc)(h1:b.dL.length<=1000000000)(h2:b.av.length<=1000000000)(hn:m.name.length<=1000000000)(hl:m.dn.length<=1000000000)(hJ:J≠[]):
  Cl Cc [.agg [iI b.f.x,iI b.f.y,iI b.f.z,iI b.f.k,tq,iI b.cz,iI b.lift,iI b.deep,wq],.agg (mL m)] (.cV [Kx b m,iI (if Bd b m then 0 else 1)]) J:=by
 unfold Kx;cases hb:Bd b m
 .refine au rfl rfl rfl ?_;obtain⟨d,hd,hd1,hd2⟩:=Ru (J:=[]::J) h1 h2 hn hl hb;simp[htq,hwq,hd,hd1]
 .refine au rfl rfl rfl ?_;have hd:=λJ=>aaE (J:=J) h1 h2 hn hl hb
  have hf:=λJ hJ=>GX (J:=J) (b:=b) (m:=m) (Fv.of hb) hJ
  have hcl:(XN (bX b m)).clean=true:=by simp[XN,fN (f:=Rock.aD.enc) (λ_=>by simp[D.clean])]
  have hs1:(XN (bX b m)).strip=XN (bX b m):=rfl;have hs2:(XN (bX b m)).calm=XN (bX b m):=rfl;simp[htq,hwq,hd,hf,hs1,hs2,hcl]
theorem Vc{e:dQ}{nm:List UInt8}:Cl gO [.agg e.enc,.bf [.str nm]] (.bool (e.m.name == nm)) J:=by
 refine au rfl rfl rfl ?_;simp[gW]
theorem xn(l:List dQ):(fM l dQ.enc).length=l.length*4:=ch (f:=dQ.enc) (w:=4) (λ_=>rfl) l
theorem Em(l:List Ae):(fM l Ae.enc).length=l.length*4:=ch (f:=Ae.enc) (w:=4) (λ_=>rfl) l
theorem La{b:Bk}{er:List Int}{nm:List UInt8}{S:SK}(hl:b.ah.length<=1000000)(hs:fq S J.length=some (b.bH J.length er)):
  Cl fG [.sl J.length 0 b.ah.length 0 b.ah.length 4,.fn gO [] [.bf [.str nm]]] (.bool (l9 b.ah λe=>e.m.name == nm)) S :=
 Ez (enc:=dQ.enc) (w:=4) (λ_=>rfl) (F:=b.bH J.length er) (bi:=0) (v:=b.ah.length) (l:=b.ah) (i:=eE) rfl rfl (by simp[Bk.bH]) (by omega)
  ⟨rfl,rfl,λe _ J=>by rw[oY];have h:=Vc (J:=J) (e:=e) (nm:=nm);have h':dj T (.call false gO ([]++[.agg e.enc]++[.bf [.str nm]]) J)=_:=h;rw[h'];rfl⟩ hs
def yI(b:Bk)(m:bV):Bk:={b with ah:=b.ah++[⟨m,true,0⟩],dq:=b.dq++[⟨0,0,0,0⟩] }
def pJ(b:Bk)(m:bV):Bk×Int :=
 if b.ready=true/\b.az=[]then
  (if(l9 b.ah λe=>e.m.name == m.name)=true then(b,6)else if b.ah.length<40 then(if Bd b.aQ m=true then(yI b m,0)else(b,1))else(b,3))
 else(b,8)
theorem Vd{F:List Abs.aD}{b:Bk}{er:List Int}{m:bV}{b':Bk}{e:Int}(h1:b.aQ.dL.length<=1000000000)(h2:b.aQ.av.length<=1000000000)(hn:m.name.length<=1000000000)(hl:m.dn.length<=1000000000)(hw:b.dq.length=b.ah.length)(hd:pJ b m=(b',e))(he:e=0):
  dj T (.call false jx [.ref J.length 6 0 0,.str m.name,lF m.dn aT] (F::b.bH J.length er::J))=some (.val (.cV []) (F::b'.bH J.length er::J)):=by
 refine fJ rfl rfl rfl (by simp) ?_;unfold pJ at hd;split at hd
 case isFalse=>cases hd;cases he
 rename_i c0;obtain⟨c1,c2⟩:=c0;split at hd
 case isTrue=>cases hd;cases he
 rename_i c3;split at hd
 case isFalse=>cases hd;cases he
 rename_i c4;split at hd
 case isFalse=>cases hd;cases he
 rename_i c5;cases hd;have c3':(l9 b.ah λe=>e.m.name == m.name)=false:=by simpa using c3
 have c4':(b.ah.length:Int)<40:=by omega
 have hH:=λS=>La (J:=J) (b:=b) (er:=er) (nm:=m.name) (S:=S) (by omega)
 simp only[c3']at hH;have hS:=λS hJ=>Rt (J:=S) (b:=b.aQ) (m:=m) (tq:=nl Rw.enc b.aQ.dL) (wq:=nl bG.enc b.aQ.av) ke ke h1 h2 hn hl hJ
 simp only[c5]at hS;simp only[Bk.bH,Bk.cells]at hH;have w2:(b.ah.length+1)*56<=room:=by unfold room;omega
 have w3:=xn b.ah;have w4:(fM b.ah dQ.enc).take (b.ah.length*4)=fM b.ah dQ.enc:=ai (by omega);have w5:(b.dq.length+1)*32<=room:=by unfold room;omega
 have w6:=Em b.dq;have w7:(fM b.dq Ae.enc).take (b.dq.length*4)=fM b.dq Ae.enc:=ai (by omega);simp[Bk.bH,Bk.cells,c1,c2,hH,c4',hS,PK,Z5,cK,nE,yI,w2,w3,w4,w5,w6,w7,ma]
theorem To{F:List Abs.aD}{b:Bk}{er:List Int}{m:bV}{b':Bk}{e:Int}(h1:b.aQ.dL.length<=1000000000)(h2:b.aQ.av.length<=1000000000)(hn:m.name.length<=1000000000)(hl:m.dn.length<=1000000000)(hml:b.ah.length<=40)(hd:pJ b m=(b',e))(he:e≠0):
  dj T (.call false jx [.ref J.length 6 0 0,.str m.name,lF m.dn aT] (F::b.bH J.length er::J))=some (.ft (rf e) (F::b.bH J.length er::J)):=by
 refine dY rfl rfl rfl ?_;have hM:=λJ=>oI (J:=J) (e:=1) (by decide)
 have hrc:(D.tP 200 (.agg [iI 1])).clean=true:=rfl;unfold pJ at hd;split at hd
 case isFalse c0 =>
  cases hd;cases c1:b.ready with
  |false=>simp[Bk.bH,Bk.cells,c1,dG,D.clean,rf]
  |true =>
   have c2:((b.az.length:Int) == 0)=false:=by simpa using λhh=>c0 ⟨c1,hh⟩
   simp[Bk.bH,Bk.cells,c1,c2,dG,D.clean,rf]
 rename_i c0;obtain⟨c1,c2⟩:=c0;have hH:=λS=>La (J:=J) (b:=b) (er:=er) (nm:=m.name) (S:=S) (by omega)
 split at hd
 case isTrue c3 =>
  cases hd;simp only[c3]at hH;simp only[Bk.bH,Bk.cells]at hH;simp[Bk.bH,Bk.cells,c1,c2,hH,cK,dG,D.clean,rf]
 rename_i c3;have c3':(l9 b.ah λe=>e.m.name == m.name)=false:=by simpa using c3
 simp only[c3']at hH;split at hd
 case isFalse c4 =>
  cases hd;have c4':¬(b.ah.length:Int)<40:=by omega
  simp only[Bk.bH,Bk.cells]at hH;simp[Bk.bH,Bk.cells,c1,c2,hH,c4',cK,dG,D.clean,rf]
 rename_i c4;have c4':(b.ah.length:Int)<40:=by omega
 split at hd
 case isTrue=>cases hd;exact absurd rfl he
 rename_i c5;cases hd;have c5':Bd b.aQ m=false:=by simpa using c5
 have hS:=λS hJ=>Rt (J:=S) (b:=b.aQ) (m:=m) (tq:=nl Rw.enc b.aQ.dL) (wq:=nl bG.enc b.aQ.av) ke ke h1 h2 hn hl hJ
 simp only[c5']at hS;simp only[Bk.bH,Bk.cells]at hH;simp[Bk.bH,Bk.cells,c1,c2,hH,c4',hS,PK,cK,hM,rf,hrc]
end Go.Proofs.YtpapbbojmclkgaaGreatDoor
namespace Go.Book
open Go Go.Abs Go.Rock
def isStr(lo hi:Int)(val:bV->Int)(e:dQ):Bool:=e.left && !bA (val e.m) lo hi
def dP(at_ lo hi:Int)(val:bV->Int)(e:dQ):dQ:=if isStr lo hi val e then⟨e.m,false,at_⟩else e
def aar(at_ lo hi:Int)(val:bV->Int)(ms:List dQ)(j:Nat)(w:Ae):Ae:=match ms[j]? with
 |some e=>if isStr lo hi val e then⟨at_,val e.m,lo,hi⟩else w
 |none=>w
def Bk.fT(b:Bk)(lo hi:Int)(val:bV->Int)(i:Nat):Bk :=
 {b with ah:=b.ah.mapIdx λj e=>if j<i then dP b.at_ lo hi val e else e,dq:=b.dq.mapIdx λj w=>if j<i then aar b.at_ lo hi val b.ah j w else w }
section
variable {b:Bk} {lo hi:Int} {val:bV->Int} {i:Nat}
@[simp] theorem XR:(b.fT lo hi val i).aQ=b.aQ:=aJ rfl
@[simp] theorem UB:(b.fT lo hi val i).az=b.az:=aJ rfl
@[simp] theorem Rh:(b.fT lo hi val i).rules=b.rules:=aJ rfl
@[simp] theorem XS:(b.fT lo hi val i).sV=b.sV:=aJ rfl
@[simp] theorem aau:(b.fT lo hi val i).k0=b.k0:=aJ rfl
@[simp] theorem aav:(b.fT lo hi val i).k1=b.k1:=aJ rfl
@[simp] theorem aaw:(b.fT lo hi val i).k2=b.k2:=aJ rfl
@[simp] theorem Rj:(b.fT lo hi val i).cJ=b.cJ:=aJ rfl
@[simp] theorem Ri:(b.fT lo hi val i).fy=b.fy:=aJ rfl
@[simp] theorem Rf:(b.fT lo hi val i).ready=b.ready:=aJ rfl
@[simp] theorem aat:(b.fT lo hi val i).at_=b.at_:=aJ rfl
end
theorem Mb{b:Bk}{lo hi:Int}{val:bV->Int}:b.fT lo hi val 0=b:=by
 cases b;simp only[Bk.fT,Bk.mk.injEq,true_and,and_true];constructor<;>(apply ez;intro j;simp[eM])
theorem ua{b:Bk}{lo hi:Int}{val:bV->Int}{i:Nat}:(b.fT lo hi val i).ah.length=b.ah.length:=by simp[Bk.fT]
theorem vo{b:Bk}{lo hi:Int}{val:bV->Int}{i:Nat}:(b.fT lo hi val i).dq.length=b.dq.length:=by simp[Bk.fT]
theorem S7{b:Bk}{lo hi:Int}{val:bV->Int}{i:Nat}{e:dQ}(h:b.ah[i]?=some e):(b.fT lo hi val i).ah[i]?=some e:=by simp[Bk.fT,h]
theorem Ma{b:Bk}{lo hi:Int}{val:bV->Int}{i:Nat}{e:dQ}(h:b.ah[i]?=some e)(hs:isStr lo hi val e=true)(hw:b.dq.length=b.ah.length):
  (b.fT lo hi val (i+1)).ah=(b.fT lo hi val i).ah.set i ⟨e.m,false,b.at_⟩/\(b.fT lo hi val (i+1)).dq=(b.fT lo hi val i).dq.set i ⟨b.at_,val e.m,lo,hi⟩:=by
 obtain⟨hi',he⟩:=aA.1 h;constructor
 .apply ez;intro j;simp only[Bk.fT,eM,List.getElem?_set];by_cases hj:i=j
  .subst hj;rw[h];simp[hi',dP,hs]
  .rw[if_neg hj];cases b.ah[j]? with
   |none=>rfl
   |some x=>simp only[aZ];congr 1;by_cases h1:j<i<;>simp[h1]<;>omega
 .apply ez;intro j;simp only[Bk.fT,eM,List.getElem?_set];by_cases hj:i=j
  .subst hj;have:i<b.dq.length:=by omega
   rw[aI this];simp[h,this,aar,hs]
  .rw[if_neg hj];cases b.dq[j]? with
   |none=>rfl
   |some x=>simp only[aZ];congr 1;by_cases h1:j<i<;>simp[h1]<;>omega
theorem El{b:Bk}{lo hi:Int}{val:bV->Int}{i:Nat}{e:dQ}(h:b.ah[i]?=some e)(hs:isStr lo hi val e=false):b.fT lo hi val (i+1)=b.fT lo hi val i:=by
 have h1:(b.fT lo hi val (i+1)).ah=(b.fT lo hi val i).ah:=by
  apply ez;intro j;simp only[Bk.fT,eM];by_cases hj:i=j
  .subst hj;simp[h,dP,hs]
  .cases b.ah[j]? with
   |none=>rfl
   |some x=>simp only[aZ];congr 1;by_cases h1:j<i<;>simp[h1]<;>omega
 have h2:(b.fT lo hi val (i+1)).dq=(b.fT lo hi val i).dq:=by
  apply ez;intro j;simp only[Bk.fT,eM];by_cases hj:i=j
  .subst hj;cases b.dq[i]? with
   |none=>rfl
   |some x=>simp[h,aar,hs]
  .cases b.dq[j]? with
   |none=>rfl
   |some x=>simp only[aZ];congr 1;by_cases h1:j<i<;>simp[h1]<;>omega
 simp only[Bk.fT]at h1 h2 ⊢;rw[h1,h2]
end Go.Book
namespace Go.Proofs.YtpapbbojmclkgaaGreatDoor
section
open Go Go.Abs Go.Rock Go.Book
variable {J:SK}
theorem Ov{α:Type}{f:α->List D}{w k:Nat}{v:D}(hw:∀x,(f x).length=w)(hk:k<w):∀{l:List α} {i:Nat} {x x':α},l[i]?=some x->(f x).set k v=f x'->(fM l f).set (i*w+k) v=fM (l.set i x') f
 |[],i,x,x',h,_=>by simp at h
 |a::l,0,x,x',h,hs=>by
  simp at h;subst h;simp only[eg,List.set_cons_zero,Nat.zero_mul,ck];rw[List.set_append_left _ _ (by rw[hw];exact hk),hs]
 |a::l,i+1,x,x',h,hs=>by
  have ih:=Ov hw hk (l:=l) (i:=i) (by simpa using h) hs;simp only[eg,List.set_cons_succ];have e:=hw a;rw[List.set_append_right _ _ (by rw[e,eC];omega),<- ih];congr 2;rw[e,eC];omega
theorem FU{α:Type}{f:α->List D}{w k:Nat}{v:D}(hw:∀x,(f x).length=w)(hk:k<w){l:List α}{i:Nat}{x x':α}(h:l[i]?=some x)(hs:(f x).set k v=f x'):(fM l f).take (i*w+k)++v::(fM l f).drop (i*w+k+1)=fM (l.set i x') f:=by
 rw[<- Ov hw hk h hs,List.set_eq_take_append_cons_drop,if_pos];rw[ch hw];have h1:=(aA.1 h).1;have:(i+1)*w<=l.length*w:=cU _ h1;rw[eC]at this;omega
theorem Of{A F:List Abs.aD}{b:Bk}{er:List Int}{lo hi:Int}{val:bV->Int}{fv:D}(hf1:fv.strip=fv)(hf2:fv.calm=fv)(hw:b.dq.length=b.ah.length)(hl:b.ah.length<=40)
  (hv:∀i e,e∈b.ah->e.left=true->nV (dj T) false fv [.agg (mL e.m)] ([]::A::F::(b.fT lo hi val i).bH J.length er::J)=some (iI (val e.m),[]::A::F::(b.fT lo hi val i).bH J.length er::J)):∀(m i:Nat),i+m=b.ah.length ->
  WL T [0,2,4,13,14,15] false fh [(0,.ref J.length 6 0 0),(2,fv),(4,.bf [iI lo,iI hi]),(13,.sl J.length 0 b.ah.length 0 b.ah.length 4),(14,iI b.ah.length),(15,iI i)] ([]::A::F::(b.fT lo hi val i).bH J.length er::J)
   (λx e J'=>x=.exit 0/\J'=[]::A::F::(b.fT lo hi val b.ah.length).bH J.length er::J)
 |0,i,h=>by
  refine aB fh.eq_1 ?_;have⟨h1,h2⟩:¬i<b.ah.length/\i=b.ah.length:=by omega
  simp[hf2,h2]
 |m+1,i,h=>by
  refine aB fh.eq_1 ?_;have h1:i<b.ah.length:=by omega
  obtain⟨e,he⟩:=gE h1;have hat:=S7 (lo:=lo) (hi:=hi) (val:=val) he;have hfl:=bu (f:=dQ.enc) (w:=4) (λ_=>rfl) hat;have hml:=ua (b:=b) (lo:=lo) (hi:=hi) (val:=val) (i:=i);have hwl:=vo (b:=b) (lo:=lo) (hi:=hi) (val:=val) (i:=i);have h4:=cr h1 (by omega);have ih:=Of hf1 hf2 hw hl hv m (i+1) (by omega);have hlen:=xn (b.fT lo hi val i).ah;rw[hml]at hlen;have q:4<=b.ah.length*4-i*4:=by omega
  cases hc1:e.left with
  |false =>
   have hst:isStr lo hi val e=false:=by simp[isStr,hc1]
   rw[El he hst]at ih;simp[h1,hf2,Bk.bH,Bk.cells,hml,hwl,hfl,hlen,q,h4,hc1];exact WL.to ih (by simp) (by simp[Bk.bH,Bk.cells,hml,hwl]) λx e J' hh=>by simpa[Bk.bH,Bk.cells,ua,vo]using hh
  |true =>
   have hcall:=hv i e (aj he) hc1;simp only[Bk.bH,Bk.cells,hml,hwl,XR,UB,Rh,XS,aau,aav,aaw,Rj,Ri,Rf,aat]at hcall;cases hc2:bA (val e.m) lo hi with
   |true =>
    have hst:isStr lo hi val e=false:=by simp[isStr,hc2]
    rw[El he hst]at ih;simp[h1,hf1,hf2,Bk.bH,Bk.cells,hml,hwl,hfl,hlen,q,h4,hc1,hcall,eR,hc2];exact WL.to ih (by simp) (by simp[Bk.bH,Bk.cells,hml,hwl]) λx e J' hh=>by simpa[Bk.bH,Bk.cells,ua,vo]using hh
   |false =>
    have hst:isStr lo hi val e=true:=by simp[isStr,hc1,hc2]
    obtain⟨hn1,hn2⟩:=Ma he hst hw;have⟨q2,q3⟩:i*4+2+1<=b.ah.length*4/\i*4+3+1<=b.ah.length*4:=by omega
    have p1:=FU (f:=dQ.enc) (w:=4) (k:=2) (v:=.bool false) (λ_=>rfl) (by omega) (x':=⟨e.m,false,e.PV⟩) hat rfl;have hat2:((b.fT lo hi val i).ah.set i ⟨e.m,false,e.PV⟩)[i]?=some ⟨e.m,false,e.PV⟩:=by simp[hml,h1]
    have p2:=FU (f:=dQ.enc) (w:=4) (k:=3) (v:=iI b.at_) (λ_=>rfl) (by omega) (x':=⟨e.m,false,b.at_⟩) hat2 rfl;rw[List.set_set]at p2;have hl2:=xn ((b.fT lo hi val i).ah.set i ⟨e.m,false,e.PV⟩);rw[List.length_set,hml]at hl2;have⟨h5,q5⟩:i<b.dq.length/\i*4+4<=b.dq.length*4:=by omega
    have hwe:=Em (b.fT lo hi val i).dq;rw[hwl]at hwe;have p3:=LH (f:=Ae.enc) (w:=4) (λ_=>rfl) (l:=(b.fT lo hi val i).dq) (i:=i) (x:=⟨b.at_,val e.m,lo,hi⟩) (by omega);simp only[Ae.enc,cm,List.nil_append]at p3;simp[h1,hf1,hf2,Bk.bH,Bk.cells,hml,hwl,hfl,hlen,q,h4,hc1,hcall,eR,hc2,q2,q3,p1,p2,hl2,h5,q5,hwe,p3];exact WL.to ih (by simp) (by simp[Bk.bH,Bk.cells,hwl,hn1,hn2,hml]) λx e J' hh=>by simpa[Bk.bH,Bk.cells,ua,vo]using hh
def ek(b:Bk)(lo hi:Int)(val:bV->Int):Bk:=b.fT lo hi val b.ah.length
theorem NY{A F:List Abs.aD}{b:Bk}{er:List Int}{lo hi:Int}{val:bV->Int}{fv:D}(hf1:fv.strip=fv)(hf2:fv.calm=fv)(hw:b.dq.length=b.ah.length)(hl:b.ah.length<=40)
  (hv:∀i e,e∈b.ah->e.left=true->nV (dj T) false fv [.agg (mL e.m)] ([]::A::F::(b.fT lo hi val i).bH J.length er::J)=some (iI (val e.m),[]::A::F::(b.fT lo hi val i).bH J.length er::J)):
  dj T (.call false oD [.ref J.length 6 0 0,.agg [iI lo,iI hi],fv] (A::F::b.bH J.length er::J))=some (.val (.cV []) (A::F::(ek b lo hi val).bH J.length er::J)):=by
 refine fJ rfl rfl rfl (by simp) ?_;have h:=Of (A:=A) (F:=F) (er:=er) hf1 hf2 hw hl hv b.ah.length 0 (by omega);rw[Mb]at h;simp[Bk.bH,Bk.cells,hf2];refine WL.to h (by simp) (by simp[Bk.bH,Bk.cells]) ?_;rintro x e J' ⟨rfl,rfl⟩;simp[ek,Bk.bH,Bk.cells]
end
section
open Go Go.Abs Go.Rock
variable {J:SK}
theorem ZN(l:List bV):(fM l bV.enc).length=l.length*2:=ch (f:=bV.enc) (w:=2) (λ_=>rfl) l
theorem V7(l:List bV):D.bd (fM l bV.enc)=true:=fN (λx=>by simp[D.clean,ma]) l
structure Ok(b:bU)(l:List bV)(az:List (List Int)):Prop where
 bv:Bv b
 valid:b.valid=true
 len:1<=l.length/\l.length<=40
 ah:b.f.ah l=0
 fit:∀m∈l,fits b m=true
 fv:∀m∈l,Fv b m
 short:∀m∈l,m.name.length<=1000000000/\m.dn.length<=384
 pl:sJ b az=0
 Uq:az.length<=200
 aF:∀r∈az,Rv b r
theorem ac6{b:bU}{m:bV}(h:Bv b)(hf:fits b m=true):m.name.length<=16:=by
 rw[ML h,af,aw]at hf;have hm:=hf.1;unfold dw.model at hm;split at hm
 .rename_i hn;simp only[named,af]at hn;have:=aS.1 hn.2;omega
 .cases hm
theorem Ok.of{b:bU}{l:List bV}{az:List (List Int)}(h:abr b l az=true):Ok b l az:=by
 simp only[abr,af,aw]at h;obtain⟨h1,h2,h3,h4,h5⟩:=h;have hb:=Bv.of h1;unfold WZ at h3;split at h3
 .rename_i hi;split at h3
  .rename_i hm;split at h3
   .rename_i hf;have hfit:∀m∈l,fits b m=true:=eO.1 hf;have hfv:∀m∈l,Fv b m:=λm hm=>Fv.of (by simp[Bd,h1,hfit m hm])
    exact⟨hb,h1,⟨by have:=aS.1 hi;omega,by omega⟩,hm,hfit,hfv,λm hm=>⟨by have:=ac6 hb (hfit m hm);omega,(hfv m hm).toMv.le.2⟩,h5,by omega,(nR h5).2⟩
   .cases h3
  .cases h3
 .cases h3
theorem Ok.check{b:bU}{l:List bV}{az:List (List Int)}(h:Ok b l az):fW b.f l=0:=by
 simp[fW,h.bv.fv,h.ah]
theorem Vl{b:bU}{m:bV}(h:Bv b)(hn:m.name.length<=1000000000)(hl:m.dn.length<=1000000000):Cl tM [.agg (mL m),.bf (bL b)] (.bool (fits b m)) J:=by
 refine au rfl rfl rfl ?_;have hC:=λJ=>Qa (J:=J) (m:=m) h hn hl
 simp[hC]
theorem Qf{b:bU}{l:List bV}(h:Bv b)(hs:∀m∈l,m.name.length<=1000000000/\m.dn.length<=1000000000)(hl:l.length<=1000000000):
  Cl kb [lF l bV.enc,.fn tM [] [.bf (bL b)]] (.bool (da l (fits b))) J :=
 BK (xJ 2 bV.enc (λ_=>rfl)) (f:=kb) (g:=mq) (h:=gz) (i:=jd) (l:=l) (p:=fits b) rfl rfl rfl rfl (by omega) (oJ.fn λx hx J=>Vl h (hs x hx).1 (hs x hx).2) rfl
theorem YI{b:bU}{l:List bV}{az:List (List Int)}(h:Ok b l az):
  Cl Ce [.agg (bL b),lF l bV.enc,lF az IA] (iI 0) J:=by
 refine au rfl rfl rfl ?_;have hs:∀m∈l,m.name.length<=1000000000/\m.dn.length<=1000000000:=λm hm=>⟨(h.short m hm).1,by have:=(h.short m hm).2;omega⟩
 have hl:=h.len;have htab:=h.bv.dL;have ht:b.dL.length<=1000000000:=by
  simp only[fO,af]at htab;have:=aS.1 htab.1;omega
 have h1:=λJ=>CY (J:=J) (b:=b) ht (by have:=h.bv.av;omega)
 have h2:=λJ=>Ex (J:=J) (f:=b.f) (l:=l) hs (by omega)
 have h3:=λJ=>Qf (J:=J) (l:=l) h.bv hs (by omega)
 have h4:=λJ=>Vj (J:=J) (b:=b) (az:=az) (by have:=h.Uq;omega) (λr hr=>by have:=(h.aF r hr).len;have:=h.bv.av;omega)
 have hi:bA l.length 1 40=true:=aS.2 (by omega);have ha:da l (fits b)=true:=eO.2 h.fit;rw[h.valid]at h1;rw[h.check]at h2;rw[ha]at h3;rw[h.pl]at h4;simp[h1,h2,h3,h4,dM,hi]
abbrev RunT:=List (List Rock.aD)×List (List Rock.aD)
def FI(r:RunT):List D:=[lF r.1 kS,lF r.2 kS]
theorem XD(l:List RunT):(fM l FI).length=l.length*2:=ch (f:=FI) (w:=2) (λ_=>rfl) l
def yT(b:bU)(az:List (List Int)):List bV->Option (List RunT)
 |[]=>some []
 |m::l=>match Rock.run b m az with
  |some r=>(yT b az l).map (r :: ·)
  |none=>none
def PA(n:Nat)(acc:List RunT)(J:SK)(r:Option (List RunT))(x:Abs.Exit)(e:Env)(J':SK):Prop:=match r with
 |some rs=>x=.exit 0/\get e 6=.sl J.length 0 n 0 n 2/\J'=[.cells n (fM (acc++rs) FI)]::J
 |none=>x=.ft (.tP 428 (.agg []))/\∃bH,J'=bH::J
theorem Ql{b:bU}{l:List bV}{az:List (List Int)}(h:Ok b l az):∀(k i:Nat) (acc:List RunT),i+k=l.length->acc.length=i ->
  WL T [2,3,6,9,10,11] false pa [(2,lF az IA),(3,.bf (bL b)),(6,.sl J.length 0 i 0 i 2),(9,lF l bV.enc),(10,iI l.length),(11,iI i)] ([.cells i (fM acc FI)]::J)
   (PA l.length acc J (yT b az (l.drop i)))
 |0,i,acc,hi,ha=>by
  refine aB pa.eq_1 ?_;obtain rfl:i=l.length:=by omega
  have h2:l.drop l.length=[]:=an (by omega);simp[h2,yT,PA]
 |k+1,i,acc,hi,ha=>by
  refine aB pa.eq_1 ?_;have h1:i<l.length:=by omega
  obtain⟨m,hm⟩:=gE h1;have hlen:=h.len;have h2:=Sy hm;have h4:=cr h1 (by omega);have h5:=bD hm;have hmem:=aj hm;have a4:=XD acc;rw[ha]at a4;have a6:(fM acc FI).take (i*2)=fM acc FI:=ai (by omega);have h7:(i+1)*48<=room:=by unfold room;omega
  have hp:az.length<=200:=by have:=h.Uq;omega
  rw[h5,yT];cases hr:Rock.run b m az with
  |none =>
   have hC:=λJ=>RA (J:=J) (h.fv m hmem) hp h.aF hr
   simp[h1,h2,hC,PA]
  |some r =>
   obtain⟨ss,ys⟩:=r;have hC:=λJ hJ=>RB (J:=J) (h.fv m hmem) hp h.aF hJ hr
   have ih:=Ql h k (i+1) (acc++[(ss,ys)]) (by omega) (by simp[ha]);simp[h1,h2,h4,hC,a4,a6,h7];refine WL.to ih (by simp) (by simp[FI]) λx e J' hh=>?_
   cases hq:yT b az (l.drop (i+1))with
   |none=>rw[hq]at hh;simpa[PA]using hh
   |some rs=>rw[hq]at hh;simpa[PA]using hh
theorem Vv{b:bU}{l:List bV}{az:List (List Int)}(h:Ok b l az)(hJ:J≠[]){rs:List RunT}(hr:yT b az l=some rs)(hl:rs.length=l.length):
  Cl zM [.agg (bL b),lF l bV.enc,lF az IA] (lF rs FI) J:=by
 refine au rfl rfl rfl ?_;simp[];refine WL.to (Ql (J:=J) h l.length 0 [] (by omega) rfl) (by simp) (by simp) ?_;rw[aE,hr];rintro x e J' ⟨rfl,g6,rfl⟩;simp[g6];rw[<- hl,nB (f:=FI) (by decide) (λ_=>rfl) (λx=>by simp[FI,D.clean,aaQ]) hJ (by simp)];simp
theorem Vu{b:bU}{l:List bV}{az:List (List Int)}(h:Ok b l az)(hr:yT b az l=none):
  dj T (.call false zM [.agg (bL b),lF l bV.enc,lF az IA] J)=some (.ft (.tP 428 (.agg [])) J):=by
 refine dY rfl rfl rfl ?_;simp[];refine WL.to (Ql (J:=J) h l.length 0 [] (by omega) rfl) (by simp) (by simp) ?_;rw[aE,hr];rintro x e J' ⟨rfl,bH,rfl⟩;simp[D.clean]
theorem LZ{b:bU}{az:List (List Int)}:∀{l:List bV} {rs:List RunT},yT b az l=some rs->rs.length=l.length/\∀(i:Nat) m,l[i]?=some m->∃r,rs[i]?=some r/\Rock.run b m az=some r
 |[],rs,h=>by simp only[yT,ae]at h;subst h;simp
 |m::l,rs,h=>by
  simp only[yT]at h;cases hr:Rock.run b m az with
  |none=>rw[hr]at h;cases h
  |some r =>
   rw[hr]at h;simp only[ad]at h;obtain⟨rs',h1,rfl⟩:=h;obtain⟨g1,g2⟩:=LZ h1;refine⟨by simp[g1],?_⟩;intro i m' hm';cases i with
   |zero=>simp only[cq,ae]at hm';subst hm';exact⟨r,rfl,hr⟩
   |succ i=>simpa using g2 i m' (by simpa using hm')
theorem Y0{x:Rock.aD}:Cl oN [.agg x.enc] (iI x.m) J:=by
 refine au rfl rfl rfl ?_;simp
theorem VC{x:Rock.aD}:Cl nM [.agg x.enc] (iI x.k) J:=by
 refine au rfl rfl rfl ?_;simp
def rowAt(l:List (List Rock.aD))(t:Nat):List Rock.aD:=(l[t]?).getD []
structure Rs(b:bU)(l:List bV)(n:Nat)(rs:List RunT):Prop where
 len:rs.length=l.length
 ne:1<=l.length/\l.length<=40
 n6:n<=200
 av:b.av.length<=8
 bn:1<=b.n/\b.n<=64
 all:∀r∈rs,Lg b n r.1 r.2
 fv:∀m∈l,Fv b m
theorem Ps{b:bU}{n:Nat}{r:RunT}(h:Lg b n r.1 r.2){t:Nat}(ht:t<n):r.2[t]?=some (rowAt r.2 t)/\Yv b (rowAt r.2 t):=by
 have h1:t<r.2.length:=by rw[h.yl];exact ht
 have h2:r.2[t]?=some r.2[t]:=aI h1;have h3:rowAt r.2 t=r.2[t]:=by simp[rowAt,h2]
 rw[h3];exact⟨h2,h.yv _ (List.getElem_mem h1)⟩
theorem Xy{b:bU}{n:Nat}{r:RunT}(h:Lg b n r.1 r.2){t:Nat}(ht:t<=n):r.1[t]?=some (rowAt r.1 t)/\Sv b (rowAt r.1 t):=by
 have h1:t<r.1.length:=by rw[h.sl];omega
 have h2:r.1[t]?=some r.1[t]:=aI h1;have h3:rowAt r.1 t=r.1[t]:=by simp[rowAt,h2]
 rw[h3];exact⟨h2,h.sv _ (List.getElem_mem h1)⟩
theorem S9{b:bU}{y:List Rock.aD}(h:Yv b y){w:Nat}(hw:w<b.av.length):y[w]?=some (aP y w):=by
 have h1:w<y.length:=by rw[h.len];exact hw
 simp[aP,aI h1]
theorem XO{l:List (List Rock.aD)}{t:Nat}{s:List Rock.aD}(h:l[t]?=some s):((fM l kS).drop t).take 1=[lF s aD.enc]:=by
 have:=bu (f:=kS) (w:=1) (λ_=>rfl) h;simpa[kS]using this
theorem aag{l:List RunT}{j:Nat}{r:RunT}(h:l[j]?=some r):((fM l FI).drop (j*2)).take 2=[lF r.1 kS,lF r.2 kS] :=
 bu (f:=FI) (w:=2) (λ_=>rfl) h
end
end Go.Proofs.YtpapbbojmclkgaaGreatDoor
namespace Go.Rock
open Go Go.Abs
def three:List Rw:=[⟨100,101,419,2676,150⟩,⟨150,476,632,2746,300⟩,⟨200,1555,852,2793,600⟩]
end Go.Rock
namespace Go.Proofs.YtpapbbojmclkgaaGreatDoor
open Go Go.Abs Go.Rock
variable {J:SK}
theorem Rs.of{b:bU}{l:List bV}{az:List (List Int)}(h:Ok b l az){rs:List RunT}(hr:yT b az l=some rs):Rs b l az.length rs:=by
 obtain⟨h1,h2⟩:=LZ hr;refine⟨h1,h.len,h.Uq,h.bv.av,h.bv.n,?_,h.fv⟩;intro r hmem;obtain⟨i,hi⟩:=fV hmem;have hlt:i<l.length:=by rw[<- h1];exact(aA.1 hi).1
 obtain⟨m,hm⟩:=gE hlt;obtain⟨r',h3,h4⟩:=h2 i m hm;rw[hi]at h3;cases h3;exact Lg.of (h.fv m (aj hm)) h.aF h4
theorem OL(l:List Nat):(fM l λ_=>[D.bY 0 []])=List.replicate l.length (.bY 0 []):=by
 induction l with
 |nil=>rfl
 |cons a l ih=>rw[eg,ih];rfl
end Go.Proofs.YtpapbbojmclkgaaGreatDoor
namespace Go.Rock
open Go Go.Abs
structure pG where
 name:List UInt8
 kind:Int
 bl:List Int
 wt:List Int
 lo:Int
 hi:Int
structure sT where
 tick:Int
 jP:Int
 idx:Int
 lo:Int
 hi:Int
@[simp] theorem pG.eta(p:pG):pG.mk p.name p.kind p.bl p.wt p.lo p.hi=p:=rfl
@[simp] theorem sT.eta(p:sT):sT.mk p.tick p.jP p.idx p.lo p.hi=p:=rfl
@[simp] def pG.enc(m:pG):List D:=[.str m.name,iI m.kind,lF m.bl aT,lF m.wt aT,iI m.lo,iI m.hi]
@[simp] def sT.enc(x:sT):List D:=[iI x.tick,.int .u8 x.jP,iI x.idx,iI x.lo,iI x.hi]
def yX(n:Int):Int->List Int->List Int->Bool
 |last,b::bl,w::wt=>decide (last<b) && (decide (b<n) && (bA w (-1000) 1000 && yX n b bl wt))
 |_,_,_=>true
def DU(f:dw)(kind:Int)(bl wt:List Int):Bool:=bA kind 0 (f.k-1) && (decide (1<=bl.length) && (decide (bl.length=wt.length) && yX f.size (-1) bl wt))
def C3(lo hi:Int):Bool:=decide (-10000000000<=lo) && (decide (lo<=hi) && decide (hi<=10000000000))
def dw.measure(f:dw)(m:pG):Int:=if named m.name then(if DU f m.kind m.bl m.wt && C3 m.lo m.hi then 0 else 1)else 5
def dw.xI(f:dw)(met:List (List UInt8)):List pG->Int
 |[]=>0
 |m::l=>if f.measure m=0 then(if met.contains m.name then 6 else f.xI (met++[m.name]) l)else f.measure m
def dw.vW(f:dw)(l:List pG):Int:=if 12<l.length then 3 else f.xI [] l
structure Y6(f:dw)(x:pG):Prop where
 name:x.name.length<=16
 kind:0<=x.kind/\x.kind<f.k
 ne:1<=x.bl.length
 len:x.bl.length=x.wt.length
 aac:yX f.size (-1) x.bl x.wt=true
 ends : -10000000000<=x.lo/\x.lo<=x.hi/\x.hi<=10000000000
theorem Y6.of{f:dw}{x:pG}(h:f.measure x=0):Y6 f x:=by
 unfold dw.measure at h;split at h
 .rename_i h1;split at h
  .rename_i h2;simp only[DU,C3,af,aw,aS]at h2;obtain⟨⟨h3,h4,h5,h6⟩,h7,h8,h9⟩:=h2;simp only[named,af]at h1;have:=aS.1 h1.2;exact⟨by omega,by omega,h4,h5,h6,h7,h8,h9⟩
  .cases h
 .cases h
theorem HG{n:Int}:∀{bl wt:List Int} {last:Int},bl.length=wt.length->yX n last bl wt=true->last<n->(bl.length:Int)<=n-1-last
 |[],wt,last,hl,h,hn=>by simp;omega
 |b::bl,[],last,hl,h,hn=>by simp at hl
 |b::bl,w::wt,last,hl,h,hn=>by
  simp only[yX,af,aw]at h;obtain⟨h1,h2,h3,h4⟩:=h;have:=HG (n:=n) (bl:=bl) (wt:=wt) (last:=b) (by simpa using hl) h4 h2;simp only[aK];omega
theorem KF{n:Int}:∀{bl wt:List Int} {last:Int} {i:Nat} {b w:Int},yX n last bl wt=true->bl[i]?=some b->wt[i]?=some w->last<b/\b<n/\(-1000<=w/\w<=1000)
 |[],wt,last,i,b,w,h,hb,hw=>by simp at hb
 |b'::bl,[],last,i,b,w,h,hb,hw=>by simp at hw
 |b'::bl,w'::wt,last,i,b,w,h,hb,hw=>by
  simp only[yX,af,aw]at h;obtain⟨h1,h2,h3,h4⟩:=h;cases i with
  |zero =>
   simp only[cq,ae]at hb hw;subst hb hw;exact⟨h1,h2,aS.1 h3⟩
  |succ i =>
   have:=KF h4 (by simpa using hb) (by simpa using hw);omega
def PN(dn:List Int)(off:Int):Int->List Int->List Int->Int
 |acc,b::bl,w::wt=>PN dn off (acc+w*(dn[(off+b).toNat]?).getD 0) bl wt
 |acc,_,_=>acc
def wB(f:dw)(m:bV)(x:pG):Int:=PN m.dn (x.kind*f.size) 0 x.bl x.wt
def W3(lo hi s:Int):Int:=if hi<s then s-hi else if s<lo then s-lo else 0
def DH(lo hi s:Int):Int:=max 0 (s-hi)+min 0 (s-lo)
theorem QO{lo hi s:Int}(h:lo<=hi):DH lo hi s=W3 lo hi s:=by
 unfold DH W3;split
 .omega
 .split<;>omega
def aD.FK(y:aD):Int:=if y.m=0 then 0 else y.h.tdiv y.m
def aD.Md(y:aD)(jP:Int):Int:=if jP=2 then y.m else if jP=3 then y.FK else y.k
def oR(b:bU)(m:bV)(r:List (List aD)×List (List aD))(x:sT):Int :=
 if x.jP=1 then dk b m ((r.1[x.tick.toNat]?).getD []) x.idx.toNat else aD.Md (aP ((r.2[x.tick.toNat-1]?).getD []) x.idx.toNat) x.jP
def eI(b:bU)(uI:Int)(x:sT):Int :=
 if !bA x.jP 1 4 || (decide (x.lo < -10000000000) || (decide (x.hi<x.lo) || decide (10000000000<x.hi)))then 1
 else if !bA x.tick (if x.jP=1 then 0 else 1) uI || !bA x.idx 0 ((if x.jP=1 then b.size else b.av.length)-1)then 2 else 0
def va(b:bU)(uI:Int)(l:List sT):Int:=if 40<l.length then 3 else bT (eI b uI) l
structure UG(b:bU)(n:Nat)(x:sT):Prop where
 jP:1<=x.jP/\x.jP<=4
 ends : -10000000000<=x.lo/\x.lo<=x.hi/\x.hi<=10000000000
 p:x.jP=1->(0<=x.tick/\x.tick<=n)/\0<=x.idx/\x.idx<b.size
 y:x.jP≠1->(1<=x.tick/\x.tick<=n)/\0<=x.idx/\x.idx<b.av.length
theorem UG.of{b:bU}{n:Nat}{x:sT}(h:eI b n x=0):UG b n x:=by
 unfold eI at h;by_cases h3:x.jP=1
 .rw[if_pos h3,if_pos h3]at h;split at h
  .cases h
  .rename_i h1;simp only[cg,aw,dR,not_or,Bool.not_eq_false,aS]at h1;split at h
   .cases h
   .rename_i h2;simp only[cg,dR,not_or,Bool.not_eq_false,aS]at h2;exact⟨h1.1,by omega,λ_=>by omega,λh=>absurd h3 h⟩
 .rw[if_neg h3,if_neg h3]at h;split at h
  .cases h
  .rename_i h1;simp only[cg,aw,dR,not_or,Bool.not_eq_false,aS]at h1;split at h
   .cases h
   .rename_i h2;simp only[cg,dR,not_or,Bool.not_eq_false,aS]at h2;exact⟨h1.1,by omega,λh=>absurd h h3,λ_=>by omega⟩
end Go.Rock
namespace Go.Proofs.YtpapbbojmclkgaaGreatDoor
open Go Go.Abs Go.Rock
variable {J:SK}
theorem K6{f:dw}(h:f.valid=true):Cl lS [.agg (fL f)] (iI f.size) J:=by
 obtain⟨h1,h2,h3,h4,h5⟩:=dw.nv.1 h;exact I8 h1 h2 h3
theorem VP{f:dw}{bl wt:List Int}(hf:f.valid=true)(hl:bl.length<=9223372036854775807)(hw:bl.length=wt.length):∀(k i:Nat) (last:Int),i+k=bl.length ->
  WL T [3,4,9,30,31,32] false gF [(3,lF wt aT),(4,.bf (fL f)),(9,iI last),(30,lF bl aT),(31,iI bl.length),(32,iI i)] J
   (λx e J'=>J'=J/\if yX f.size last (bl.drop i) (wt.drop i)then x=.exit 0 else x=.ret/\get e 8=.bool false)
 |0,i,last,hi=>by
  refine aB gF.eq_1 ?_;have h1:¬i<bl.length:=by omega
  have h2:bl.drop i=[]:=an (by omega);simp[h1,h2,yX]
 |k+1,i,last,hi=>by
  refine aB gF.eq_1 ?_;have⟨h1,h1'⟩:i<bl.length/\i<wt.length:=by omega
  obtain⟨b,hb⟩:=gE h1;obtain⟨w,hw'⟩:∃r,wt[i]?=some r:=⟨_,aI h1'⟩;have h2:=gr hb;have h3:=gr hw';have h4:=cr h1 hl;have h5:=bD hb;have h6:=bD hw';have hB:=λJ=>K6 (J:=J) hf
  have ih:=VP hf hl hw k (i+1) b (by omega);rw[h5,h6,yX];by_cases c1:b<=last
  .simp[h1,h2,c1,show ¬last<b by omega]
  .by_cases c2:f.size<=b
   .simp[h1,h2,hB,c1,c2,show last<b by omega,show ¬b<f.size by omega]
   .cases c3:bA w (-1000) 1000
    .simp[h1,h1',h2,h3,hB,iV,c1,c2,c3,show last<b by omega,show b<f.size by omega]
    .simp[h1,h1',h2,h3,h4,hB,iV,c1,c2,c3,show last<b by omega,show b<f.size by omega];exact WL.to ih (by simp) rfl λx e J hh=>by simpa[show last<b by omega,show b<f.size by omega]using hh
theorem ab5{f:dw}{k:Int}{bl wt:List Int}(hf:f.valid=true)(hl:bl.length<=9223372036854775807)(hk:f.valid=true->True):
  Cl rS [.agg (fL f),iI k,lF bl aT,lF wt aT] (.bool (DU f k bl wt)) J:=by
 refine au rfl rfl rfl ?_;obtain⟨q1,q2,q3,q4,q5⟩:=dw.nv.1 hf;have w1:=cf (n:=f.k-1) (by omega);unfold DU;cases c1:bA k 0 (f.k-1)
 .simp[iV,w1,c1]
 by_cases c2:1<=bl.length
 rotate_left
 .have:bl=[]:=bw.1 (by omega);subst this;simp[iV,w1,c1]
 have c2':¬(bl.length:Int)<1:=by omega
 have c2'':¬bl=[]:=λh=>by rw[h]at c2;simp at c2
 by_cases c3:bl.length=wt.length
 rotate_left
 .simp[iV,w1,c1,c2',c3,show ¬(bl.length:Int)=wt.length by omega]
 have c4:¬(wt.length:Int)<1:=by omega
 have c5:¬wt=[]:=λh=>by rw[h]at c3;simp at c3;exact c2'' c3
 simp[iV,w1,c1,c3,c4];refine WL.to (VP (J:=[]::J) hf hl c3 bl.length 0 (-1) (by omega)) (by simp[c3]) rfl ?_;rintro x e J' ⟨rfl,h⟩;simp only[aE]at h;cases hc:yX f.size (-1) bl wt
 .simp[hc]at h;simp[h]
 .simp[hc]at h;simp[h];omega
theorem Yq{lo hi:Int}:Cl rT [.agg [iI lo,iI hi]] (.bool (C3 lo hi)) J:=by
 refine au rfl rfl rfl ?_;unfold C3;by_cases c1 : -10000000000<=lo
 .by_cases c2:lo<=hi<;>simp[c1,c2]
 .simp[c1]
theorem Lb{f:dw}{m:pG}(hf:f.valid=true)(hn:m.name.length<=1000000000)(hl:m.bl.length<=9223372036854775807):
  Cl oB [.agg (fL f),.agg m.enc] (iI (f.measure m)) J:=by
 refine au rfl rfl rfl ?_;have h1:=λJ=>IH (J:=J) hn
 have h2:=λJ=>ab5 (J:=J) (k:=m.kind) (wt:=m.wt) hf hl (λ_=>trivial)
 unfold dw.measure;cases c1:named m.name
 .simp[h1,c1]
 cases c2:DU f m.kind m.bl m.wt
 .simp[h1,h2,c1,c2]
 cases c3:C3 m.lo m.hi<;>simp[h1,h2,Yq,c1,c2,c3]
theorem afi{f:dw}{m:pG}(hf:f.valid=true)(hn:m.name.length<=1000000000)(hl:m.bl.length<=9223372036854775807):
  Cl fE [.agg m.enc,.bf (fL f)] (.cV [.str m.name,iI (f.measure m)]) J:=by
 refine au rfl rfl rfl ?_;have h:=λJ=>Lb (J:=J) hf hn hl
 simp only[pG.enc]at h ⊢;simp[h]
theorem IW{l:List pG}{j:Nat}{m:pG}(h:l[j]?=some m):((fM l pG.enc).drop (j*6)).take 6=m.enc :=
 bu (f:=pG.enc) (w:=6) (λ_=>rfl) h
def Q4(l:List pG):Prop:=∀m∈l,m.name.length<=1000000000/\m.bl.length<=9223372036854775807
theorem RJ{f:dw}{l:List pG}(hf:f.valid=true)(hs:Q4 l)(hl:l.length<=1000000000):∀(k i:Nat) (met:List (List UInt8)),i+k=l.length ->
  WL T [1,5,11,12,13] false dO [(1,.fn fE [] [.bf (fL f)]),(5,.kV J.length 0),(11,lF l pG.enc),(12,iI l.length),(13,iI i)] ([.cells 0 (Es met)]::J)
   (λx e J'=>∃s,J'=s::J/\if f.xI met (l.drop i)=0 then x=.exit 0 else x=.ret/\get e 4=iI (f.xI met (l.drop i)))
 |0,i,met,hi=>by
  refine aB dO.eq_1 ?_;have h1:¬i<l.length:=by omega
  have h2:l.drop i=[]:=an (by omega);simp[h1,h2,dw.xI]
 |k+1,i,met,hi=>by
  refine aB dO.eq_1 ?_;have h1:i<l.length:=by omega
  obtain⟨m,hm⟩:=gE h1;have h2:=IW hm;have h4:=cr h1 (by omega);have h5:=bD hm;obtain⟨hs1,hs2⟩:=hs m (aj hm);have hC:=λJ=>afi (J:=J) hf hs1 hs2
  simp only[pG.enc]at h2 hC;rw[h5,dw.xI];by_cases hc1:f.measure m=0
  .have hg:=aa7 (S:=[.cells 0 (Es met)]::J) (l:=J.length) (i:=0) (met:=met) (k:=m.name) (by simp);cases hc2:met.contains m.name
   .rw[hc2]at hg;have hp:=aa8 (S:=[.cells 0 (Es met)]::J) (l:=J.length) (i:=0) (met:=met) (k:=m.name) (by simp) hc2;have ih:=RJ hf hs hl k (i+1) (met++[m.name]) (by omega);simp at hp;have hc3:¬m.name∈met:=by simpa using hc2
    simp[h1,h2,h4,hC,hc1,hg,hp];exact WL.to ih (by simp) (by simp) λx e J' hh=>by simpa[hc1]using hh
   .rw[hc2]at hg;have hc3:m.name∈met:=by simpa using hc2
    simp[h1,h2,hC,hc1,hg]
  .simp[h1,h2,hC,hc1]
theorem Yp{f:dw}{l:List pG}(hf:f.valid=true)(hs:Q4 l)(hl:l.length<=1000000000):
  Cl kH [lF l pG.enc,.fn fE [] [.bf (fL f)]] (iI (f.xI [] l)) J:=by
 refine au rfl rfl rfl ?_;have hm:CW ([]::J) .make []=some (.kV J.length 0,[.cells 0 (Es [])]::J):=by simp[CW,Es]
 simp[hm];refine WL.to (RJ (J:=J) hf hs hl l.length 0 [] (by omega)) (by simp) (by simp) ?_;rintro x e J' ⟨s,rfl,h⟩;simp only[aE]at h;by_cases hc:f.xI [] l=0
 .rw[if_pos hc]at h;subst h;simp[hc]
 .rw[if_neg hc]at h;obtain⟨rfl,h⟩:=h;simp[h]
theorem Qb{f:dw}{l:List pG}(hf:f.valid=true)(hs:Q4 l)(hl:l.length<=1000000000):
  Cl nI [.agg (fL f),lF l pG.enc] (iI (f.vW l)) J:=by
 refine au rfl rfl rfl ?_;unfold dw.vW;by_cases hc:12<l.length
 .simp[hc,show(12:Int)<l.length by omega]
 .simp[hc,show ¬(12:Int)<l.length by omega,Yp hf hs hl]
structure Fm(f:dw)(m:bV):Prop where
 fv:f.valid=true
 len:(m.dn.length:Int)=f.k*f.size
 ok:∀v∈m.dn,-100000<=v/\v<=100000
theorem Fm.of{f:dw}{m:bV}(hf:f.valid=true)(h:f.model m=0):Fm f m:=by
 unfold dw.model at h;split at h
 .split at h
  .rename_i h1;exact⟨hf,h1.1,λv hv=>aS.1 (eO.1 h1.2 v hv)⟩
  .cases h
 .cases h
theorem QP{a b A B:Int}(ha : -A<=a/\a<=A)(hb : -B<=b/\b<=B)(hA:0<=A) : -(A*B)<=a*b/\a*b<=A*B:=by
 have key:∀x:Int,0<=x->x<=A -> -(A*B)<=x*b/\x*b<=A*B:=by
  intro x h0 h1;have e1:x*b<=x*B:=Int.mul_le_mul_of_nonneg_left hb.2 h0;have e2:x*(-B)<=x*b:=Int.mul_le_mul_of_nonneg_left hb.1 h0;have e3:x*B<=A*B:=dN h1 (by omega);rw[Int.mul_neg]at e2;omega
 rcases eS 0 a with h | h
 .exact key a h ha.2
 .have:=key (-a) (by omega) (by omega);rw[Int.neg_mul]at this;omega
theorem aix{f:dw}{m:bV}{x:pG}(hm:Fm f m)(hx:Y6 f x):∀(k i:Nat) (acc:Int),i+k=x.bl.length -> -(i*100000000)<=acc/\acc<=i*100000000 ->
  WL T [2,3,4,8,9,10] false jQ [(2,.bf [iI f.x,iI f.y,iI f.z,iI f.k,iI x.kind,lF x.bl aT,lF x.wt aT]),(3,.bf (mL m)),(4,iI acc),(8,lF x.bl aT),(9,iI x.bl.length),(10,iI i)] J
   (λx' e J'=>J'=J/\x'=.exit 0/\get e 4=iI (PN m.dn (x.kind*f.size) acc (x.bl.drop i) (x.wt.drop i))):=by
 intro k;induction k with
 |zero =>
  intro i acc hi ha;refine aB jQ.eq_1 ?_;have h1:¬i<x.bl.length:=by omega
  have h2:x.bl.drop i=[]:=an (by omega);simp[h1,h2,PN]
 |succ k ih0 =>
  intro i acc hi ha;refine aB jQ.eq_1 ?_;have h1:i<x.bl.length:=by omega
  have hlen:=hx.len;have h1':i<x.wt.length:=by omega
  obtain⟨b,hb⟩:=gE h1;obtain⟨w,hw⟩:=gE h1';obtain⟨q1,q2⟩:=Br hm.fv;obtain⟨z1,z2,z3,z4,z5⟩:=dw.nv.1 hm.fv;obtain⟨s1,s2,s3⟩:=KF hx.aac hb hw;have hl64:=HG hx.len hx.aac (by omega);have h4:=cr h1 (by omega);have h5:=bD hb;have h6:=bD hw;have h2:=gr hb;have h3:=gr hw;have k1:=hx.kind;have k2:0<=x.kind*f.size/\x.kind*f.size+f.size<=f.k*f.size:=by
   refine⟨bF k1.1 (by omega),?_⟩;have:=dN (show x.kind+1<=f.k by omega) (show 0<=f.size by omega);rw[Int.add_mul]at this;omega
  have hvl:=hm.len;obtain⟨j,hj⟩:∃j:Nat,x.kind*f.size+b=j:=⟨(x.kind*f.size+b).toNat,by omega⟩;have hj1:j<m.dn.length:=by omega
  obtain⟨v,hv⟩:=gE hj1;have hvb:=hm.ok v (aj hv);have h7:=gr hv;have hB:=λJ=>K6 (J:=J) hm.fv
  have b1:=QP (a:=w) (b:=v) (A:=1000) (B:=100000) (by omega) hvb (by omega);have w1:=cf (n:=x.kind*f.size) (by omega);have w2:=cf (n:=(j:Int)) (by omega);have w3:=cf (n:=w*v) (by omega);have w4:=cf (n:=acc+w*v) (by omega);have ih:=ih0 (i+1) (acc+w*v) (by omega) (by omega);rw[h5,h6,PN,hj];simp only[Int.toNat_natCast];simp[h1,h1',h2,h3,h4,hB,w1,w2,w3,w4,hj,hj1,h7];exact WL.to ih (by simp) rfl λx e J hh=>by simpa[hv]using hh
theorem YT{f:dw}{m:bV}{x:pG}(hm:Fm f m)(hx:Y6 f x):Cl pK [.agg [iI f.x,iI f.y,iI f.z,iI f.k,iI x.kind,lF x.bl aT,lF x.wt aT],.agg (mL m)] (iI (wB f m x)) J:=by
 refine au rfl rfl rfl ?_;simp;refine WL.to (aix (J:=[]::J) hm hx x.bl.length 0 0 (by omega) (by simp)) (by simp) rfl ?_;rintro x' e J' ⟨rfl,rfl,g⟩;simp[g,wB]
theorem VA{f:dw}{x:pG}:Cl pj [.agg (fL f),.agg x.enc] (.fn pK [.agg [iI f.x,iI f.y,iI f.z,iI f.k,iI x.kind,lF x.bl aT,lF x.wt aT]] []) J:=by
 refine au rfl rfl rfl ?_;simp[D.clean,ma]
end Go.Proofs.YtpapbbojmclkgaaGreatDoor
namespace Go.Book
open Go Go.Abs Go.Rock
def nW(f:dw)(x:pG):Int:=if f.valid=true then f.measure x else 1
def sQ(p:Int×Int):List D:=[iI p.1,iI p.2]
def ed(nm:List UInt8)(k lo hi:Int)(ps:List (Int×Int)):pG:=⟨nm,k,ps.map (·.1),ps.map (·.2),lo,hi⟩
end Go.Book
namespace Go.Proofs.YtpapbbojmclkgaaGreatDoor
open Go Go.Abs Go.Rock Go.Book
variable {J:SK}
theorem NF{f:dw}{x:pG}(hf:f.valid=true)(hn:x.name.length<=1000000000)(hl:x.bl.length<=1000000000):
  Cl gh [.bf (fL f),.bf [.bY 1 x.enc]] (iI (f.measure x)) J:=by
 refine au rfl rfl rfl ?_;have h:=λJ=>Qb (J:=J) (f:=f) (l:=[x]) hf (by intro m hm;simp at hm;subst hm;exact⟨hn,by omega⟩) (by simp)
 try simp only[lF,Cl,fL]at h
 have he:f.vW [x]=f.measure x:=by
  simp only[dw.vW,dw.xI];by_cases h:f.measure x=0<;>simp[h]
 rw[he]at h;simp only[List.length_singleton,eg,rP,cX]at h;simp only[lF,pG.enc]at h ⊢;simp[h]
theorem HL{f:dw}{x:pG}(hn:x.name.length<=1000000000)(hl:x.bl.length<=1000000000):
  Cl oA [.agg (fL f),.bY 1 x.enc] (iI (nW f x)) J:=by
 refine au rfl rfl rfl ?_;have hC:=λJ=>Mk (J:=J) (fs:=[.fn gZ [.agg (fL f)] [],.fn gh [] [.bf (fL f),.bf [.bY 1 x.enc]]]) (es:=[f.shape,f.measure x]) rfl (by simp) (by simp) (by
  intro i d n hd hn' h0 J;match i with
  |0 =>
   simp at hd hn';subst hd hn';simp[II]
  |1 =>
   simp only[List.getElem?_cons_succ,cq,ae]at hd hn';subst hd hn';have h1:f.valid=true:=by
    have:=h0 0 (by omega);simp[dw.shape]at this;exact this
   have hh:=NF (J:=J) h1 hn hl;rw[oY];have h':dj T (.call false gh ([]++[]++[.bf (fL f),.bf [.bY 1 x.enc]]) J)=_:=hh;rw[h'];rfl
  |i+2=>simp at hd)
 have e1:bT id [f.shape,f.measure x]=nW f x:=by
  simp only[bT,id,nW,dw.shape];by_cases h:f.valid=true
  .by_cases h2:f.measure x=0<;>simp[h,h2]
  .simp[h]
 rw[e1]at hC;simp only[pG.enc,aK,bx]at hC ⊢;simp[hC]
theorem abL{f:dw}{m:bV}(hf:f.valid=true)(hn:m.name.length<=1000000000)(hl:m.dn.length<=1000000000):
  Cl vf [.bf (fL f),.bf (mL m)] (iI (f.model m)) J:=by
 refine au rfl rfl rfl ?_;simp[Rx hf hn hl]
theorem abM{f:dw}{x:pG}(hf:f.valid=true)(hn:x.name.length<=1000000000)(hl:x.bl.length<=1000000000):
  Cl rB [.bf (fL f),.bf x.enc] (iI (f.measure x)) J:=by
 refine au rfl rfl rfl ?_;have h:=λJ=>Lb (J:=J) (f:=f) (m:=x) hf hn (by omega)
 simp only[pG.enc]at h ⊢;simp[h]
theorem abC{f:dw}{m:bV}{x:pG}(hf:f.valid=true)(hm:f.model m=0)(hx:f.measure x=0)(hn:m.name.length<=1000000000)(hl:m.dn.length<=1000000000)(hn2:x.name.length<=1000000000)(hl2:x.bl.length<=1000000000):
  Cl Dr [.agg (fL f),.agg (mL m),.agg x.enc] (.cV [iI (wB f m x),iI 0]) J:=by
 refine au rfl rfl rfl ?_;have hC:=λJ=>Mk (J:=J) (fs:=[.fn gZ [.agg (fL f)] [],.fn vf [] [.bf (fL f),.bf (mL m)],.fn rB [] [.bf (fL f),.bf x.enc]]) (es:=[f.shape,f.model m,f.measure x]) rfl (by simp) (by simp) (by
  intro i d n hd hn' h0 J;match i with
  |0 =>
   simp at hd hn';subst hd hn';simp[II]
  |1 =>
   simp at hd hn';subst hd hn';simp[abL hf hn hl]
  |2 =>
   simp only[List.getElem?_cons_succ,cq,ae]at hd hn';subst hd hn';have hh:=abM (J:=J) hf hn2 hl2;rw[oY];have h':dj T (.call false rB ([]++[]++[.bf (fL f),.bf x.enc]) J)=_:=hh;rw[h'];rfl
  |i+3=>simp at hd)
 have e1:bT id [f.shape,f.model m,f.measure x]=0:=by simp[bT,dw.shape,hf,hm,hx]
 rw[e1]at hC;have hW:=λJ=>VA (J:=J) (f:=f) (x:=x)
 have hS:=λJ=>YT (J:=J) (Fm.of hf hm) (Y6.of hx)
 simp only[pG.enc,aK,bx]at hC hW ⊢;simp[hC,hW,hS]
theorem SM(l:List (Int×Int)):(fM l sQ).length=l.length*2:=ch (f:=sQ) (w:=2) (λ_=>rfl) l
theorem tQ(l:List Int):(fM l aT).length=l.length:=by have:=ch (f:=aT) (w:=1) (λ_=>rfl) l;omega
def MV(L:Nat)(nm:List UInt8)(k lo hi:Int)(ps:List (Int×Int)):List Abs.aD :=
 [.cells 0 [.str nm,iI k,.sl L 1 ps.length 0 ps.length 1,.sl L 2 ps.length 0 ps.length 1,iI lo,iI hi],.cells ps.length (fM (ps.map (·.1)) aT),.cells ps.length (fM (ps.map (·.2)) aT)]
theorem Mp{ps:List (Int×Int)}(hps:ps.length<=1000000){X Y:D}(hx:X.calm=X)(hy:Y.calm=Y){nm:List UInt8}{k lo hi:Int}:∀(m j:Nat),j+m=ps.length ->
  WL T [2,3,6,30,31,32] false eU [(2,X),(3,Y),(6,.ref J.length 0 0 0),(30,.bY (ps.length*2) (fM ps sQ)),(31,.int .i64 (ps.length*2)),(32,.int .i64 (j*2))] (MV J.length nm k lo hi (ps.take j)::J)
   (λx e J'=>x=.exit 0/\get e 2=X/\get e 3=Y/\get e 6=.ref J.length 0 0 0/\get e 1000006=.undef/\J'=MV J.length nm k lo hi ps::J)
 |0,j,h=>by
  refine aB eU.eq_1 ?_;have h1:¬j<ps.length:=by omega
  have h2:ps.take j=ps:=ai (by omega);simp[-List.map_take,h1,hx,hy,h2]
 |m+1,j,h=>by
  refine aB eU.eq_1 ?_;have⟨h1,h2,h3,h0,h0'⟩:j<ps.length/\(j:Int)*2<(ps.length:Int)*2/\(j:Int)*2+1<(ps.length:Int)*2/\0<=(j:Int)*2/\0<=(j:Int)*2+1:=by omega
  obtain⟨p,hp⟩:=gE h1;have hd:=pA (f:=sQ) (w:=2) (λ_=>rfl) hp;have hd2:(fM ps sQ).drop (j*2+1)=.int .i64 p.2::(fM ps sQ).drop (j*2+2):=by
   have:=congrArg (List.drop 1) hd;simpa[pO,sQ,cS]using this
  have hd1:(fM ps sQ).drop (j*2)=.int .i64 p.1::.int .i64 p.2::(fM ps sQ).drop (j*2+2):=by simpa[pO,sQ]using hd
  have⟨t1,t2⟩:((j:Int)*2).toNat=j*2/\((j:Int)*2+1).toNat=j*2+1:=by omega
  have w1:=cf (n:=(j:Int)*2+1) (by omega);have w2:=cf (n:=(j:Int)*2+1+1) (by omega);have m1:((j:Int)*2).tmod 2=0:=by rw[Int.tmod_eq_emod_of_nonneg (by omega)];omega
  have m2:((j:Int)*2+1).tmod 2=1:=by rw[Int.tmod_eq_emod_of_nonneg (by omega)];omega
  have hl:(ps.take j).length=j:=by simp[];omega
  have hr:(j+1)*8<=room:=by unfold room;omega
  have ha:=tQ ((ps.take j).map (·.1));have hb:=tQ ((ps.take j).map (·.2));simp only[bE,hl]at ha hb;have ta:(fM ((ps.take j).map (·.1)) aT).take j=fM ((ps.take j).map (·.1)) aT:=ai (by omega);have tb:(fM ((ps.take j).map (·.2)) aT).take j=fM ((ps.take j).map (·.2)) aT:=ai (by omega);have ih:=Mp hps hx hy (nm:=nm) (k:=k) (lo:=lo) (hi:=hi) m (j+1) (by omega);have htk:ps.take (j+1)=ps.take j++[p]:=by rw[List.take_add_one,hp];rfl
  rw[htk]at ih;have hj1:((j+1:Nat):Int)*2=(j:Int)*2+1+1:=by omega
  rw[hj1]at ih;simp[-List.map_take,hx,hy,MV,hl,h0,h1,t1,hd1,w1,m1,hr,ha,ta];refine aB eU.eq_1 ?_;simp[-List.map_take,hx,hy,h0',h3,t2,hd2,w2,m2,hr,hb,tb];refine WL.to ih (by simp[]) (by simp[MV,hl]) λx e J' hh=>by simpa[pO,MV]using hh
theorem abU{A F:List Abs.aD}{b:Bk}{er:List Int}{m:bV}{x:pG}(hf:b.aQ.f.valid=true)(hm:b.aQ.f.model m=0)(hx:b.aQ.f.measure x=0)(hn:m.name.length<=1000000000)(hl:m.dn.length<=1000000000)(hn2:x.name.length<=1000000000)(hl2:x.bl.length<=1000000000):
  Cl jw [.agg (mL m),.bf [.ref J.length 6 0 0],.bf x.enc] (iI (wB b.aQ.f m x)) ([]::A::F::b.bH J.length er::J):=by
 refine au rfl rfl rfl ?_;have hS:=λJ=>abC (J:=J) hf hm hx hn hl hn2 hl2
 simp only[pG.enc]at hS ⊢;simp[Bk.bH,Bk.cells,hS]
theorem V8{x:pG}:D.bd x.enc=true:=by simp[pG.enc,ma]
theorem Sk{S:SK}{L:Nat}(hS:S.length=L)(hL:0<L){nm:List UInt8}{k lo hi:Int}{ps:List (Int×Int)}:
  Gm L 0 0 (MV L nm k lo hi ps::S)=(.bf (ed nm k lo hi ps).enc,[.dead,.dead,.dead]::S):=by
 have hne:S≠[]:=by intro h;subst h;simp at hS;omega
 have h1:=pV (f:=aT) (w:=1) (λ_=>rfl) (λ_=>by simp[D.clean]) (l:=ps.map (·.1)) (j:=1) (v:=ps.length) (bs:=[.dead,.cells ps.length (fM (ps.map (·.1)) aT),.cells ps.length (fM (ps.map (·.2)) aT)]) (J:=S) hne (by simp);have h2:=pV (f:=aT) (w:=1) (λ_=>rfl) (λ_=>by simp[D.clean]) (l:=ps.map (·.2)) (j:=2) (v:=ps.length) (bs:=[.dead,.dead,.cells ps.length (fM (ps.map (·.2)) aT)]) (J:=S) hne (by simp);rw[hS]at h1 h2;simp only[bE,List.set_cons_succ,List.set_cons_zero]at h1 h2;simp[Gm,MV,hS,h1,h2,ed]
def CA(b:Bk)(x:pG):Bk×Int:=if b.ah=[]then(b,8)else if nW b.aQ.f x=0 then(ek b x.lo x.hi λm=>wB b.aQ.f m x,0)else(b,nW b.aQ.f x)
theorem abV{F:List Abs.aD}{b:Bk}{er:List Int}{nm:List UInt8}{k lo hi:Int}{ps:List (Int×Int)}{b':Bk}{e:Int}(hps:ps.length<=1000000)(hnm:nm.length<=1000000000)(hw:b.dq.length=b.ah.length)(hml:b.ah.length<=40)(hms:∀e∈b.ah,b.aQ.f.model e.m=0/\e.m.name.length<=1000000000/\e.m.dn.length<=1000000000)(hd:CA b (ed nm k lo hi ps)=(b',e))(he:e=0):
  dj T (.call false kJ [.ref J.length 6 0 0,.str nm,.bY (ps.length*2+3) (iI k::iI lo::iI hi::fM ps sQ)] (F::b.bH J.length er::J))=some (.val (.cV []) (F::b'.bH J.length er::J)):=by
 refine fJ rfl rfl rfl (by simp) ?_;unfold CA at hd;split at hd
 case isTrue=>cases hd;cases he
 rename_i hne;split at hd
 case isFalse=>cases hd;rename_i h;exact absurd he h
 rename_i hck;cases hd;have⟨q0,q1,q2,q3⟩:(0:Int)<(ps.length:Int)*2+3/\(1:Int)<(ps.length:Int)*2+3/\(2:Int)<(ps.length:Int)*2+3/\(3:Int)<=(ps.length:Int)*2+3:=by omega
 have c1:0<b.ah.length:=aG.2 hne;have hC:=λJ=>HL (J:=J) (f:=b.aQ.f) (x:=ed nm k lo hi ps) hnm (by simp[ed];omega)
 simp only[hck]at hC;have hv:b.aQ.f.valid=true/\b.aQ.f.measure (ed nm k lo hi ps)=0:=by
  unfold nW at hck;split at hck
  .rename_i h;exact⟨h,hck⟩
  .cases hck
 have hlp:=SM ps;have htp:(fM ps sQ).take (ps.length*2)=fM ps sQ:=ai (by omega);have hL:=Mp (J:=F::b.bH J.length er::J) hps (X:=.bY (ps.length*2+3) (iI k::iI lo::iI hi::fM ps sQ)) (Y:=.bf [.ref J.length 6 0 0]) rfl rfl (nm:=nm) (k:=k) (lo:=lo) (hi:=hi) ps.length 0 (by omega);simp[Bk.bH,Bk.cells,c1,cK,q0,q1,q2,q3];refine WL.to hL (by simp[htp]) (by simp[MV,Bk.bH,Bk.cells]) ?_;rintro x e J' ⟨rfl,g2,g3,g6,gu,rfl⟩;have hf:=λS hS=>Sk (S:=S) (L:=J.length+1+1) hS (by omega) (nm:=nm) (k:=k) (lo:=lo) (hi:=hi) (ps:=ps)
 have hst:=NY (J:=J) (A:=[.dead,.dead,.dead]) (F:=F) (b:=b) (er:=er) (lo:=lo) (hi:=hi) (val:=λm=>wB b.aQ.f m (ed nm k lo hi ps)) (fv:=.fn jw [] [.bf [.ref J.length 6 0 0],.bf (ed nm k lo hi ps).enc]) rfl rfl hw hml (by
  intro i e he _;obtain⟨k1,k2,k3⟩:=hms e he;have h:=abU (J:=J) (A:=[.dead,.dead,.dead]) (F:=F) (er:=er) (b:=b.fT lo hi (λm=>wB b.aQ.f m (ed nm k lo hi ps)) i) (m:=e.m) (x:=ed nm k lo hi ps) hv.1 k1 hv.2 k2 k3 hnm (by simp[ed];omega);rw[oY];have h':dj T (.call false jw ([]++[.agg (mL e.m)]++[.bf [.ref J.length 6 0 0],.bf (ed nm k lo hi ps).enc]) ([]::[.dead,.dead,.dead]::F::(b.fT lo hi (λm=>wB b.aQ.f m (ed nm k lo hi ps)) i).bH J.length er::J))=_:=h;rw[h'];rfl)
 have hcl:=V8 (x:=ed nm k lo hi ps);have e1:(ed nm k lo hi ps).lo=lo:=aJ rfl;have e2:(ed nm k lo hi ps).hi=hi:=aJ rfl;simp only[Bk.bH,Bk.cells,pG.enc,e1,e2]at hst hC hf hcl;simp[g2,g3,g6,gu,hf,hC,nE,hst,q1,q2,Bk.bH,Bk.cells,e1,e2]
theorem YA{F:List Abs.aD}{b:Bk}{er:List Int}{nm:List UInt8}{k lo hi:Int}{ps:List (Int×Int)}{b':Bk}{e:Int}(hps:ps.length<=1000000)(hnm:nm.length<=1000000000)(hd:CA b (ed nm k lo hi ps)=(b',e))(he:e≠0):
  dj T (.call false kJ [.ref J.length 6 0 0,.str nm,.bY (ps.length*2+3) (iI k::iI lo::iI hi::fM ps sQ)] (F::b.bH J.length er::J))=some (.ft (rf e) (F::b.bH J.length er::J)):=by
 refine dY rfl rfl rfl ?_;unfold CA at hd;split at hd
 case isTrue hne =>
  cases hd;simp[Bk.bH,Bk.cells,hne,dG,D.clean,rf]
 rename_i hne;split at hd
 case isTrue=>cases hd;exact absurd rfl he
 rename_i hck;cases hd;have⟨q0,q1,q2,q3⟩:(0:Int)<(ps.length:Int)*2+3/\(1:Int)<(ps.length:Int)*2+3/\(2:Int)<(ps.length:Int)*2+3/\(3:Int)<=(ps.length:Int)*2+3:=by omega
 have c1:0<b.ah.length:=aG.2 hne;have hC:=λJ=>HL (J:=J) (f:=b.aQ.f) (x:=ed nm k lo hi ps) hnm (by simp[ed];omega)
 have hM:=λJ=>oI (J:=J) hck
 generalize nW b.aQ.f (ed nm k lo hi ps)=err at hC hM hck he ⊢;have hrc:(D.tP 200 (.agg [iI err])).clean=true:=rfl;have hlp:=SM ps;have htp:(fM ps sQ).take (ps.length*2)=fM ps sQ:=ai (by omega);have hL:=Mp (J:=F::b.bH J.length er::J) hps (X:=.bY (ps.length*2+3) (iI k::iI lo::iI hi::fM ps sQ)) (Y:=.bf [.ref J.length 6 0 0]) rfl rfl (nm:=nm) (k:=k) (lo:=lo) (hi:=hi) ps.length 0 (by omega);simp[Bk.bH,Bk.cells,c1,cK,q0,q1,q2,q3];refine WL.to hL (by simp[htp]) (by simp[MV,Bk.bH,Bk.cells]) ?_;rintro x e J' ⟨rfl,g2,g3,g6,gu,rfl⟩;have hf:=λS hS=>Sk (S:=S) (L:=J.length+1+1) hS (by omega) (nm:=nm) (k:=k) (lo:=lo) (hi:=hi) (ps:=ps)
 have hcl:=V8 (x:=ed nm k lo hi ps);simp only[pG.enc]at hC hf hcl;simp[g3,g6,gu,hf,hC,hM,Bk.bH,Bk.cells,rf,hrc]
end Go.Proofs.YtpapbbojmclkgaaGreatDoor
namespace Go.Book
open Go Go.Abs Go.Rock
def cc(l:List dQ):List dQ:=l.filter (·.left)
end Go.Book
namespace Go.Proofs.YtpapbbojmclkgaaGreatDoor
open Go Go.Abs Go.Rock Go.Book
variable {J:SK}
theorem Yy{e:dQ}:Cl iQ [.agg e.enc] (.bool e.left) J:=by
 refine au rfl rfl rfl ?_;simp
theorem Jg{l:List dQ}{lv bi v:Nat}{G:List Abs.aD}(hG:G[bi]?=some (.cells v (fM l dQ.enc)))(hs:fq J lv=some G)(hl:l.length<=1000000):∀(m i:Nat) (acc:List dQ),i+m=l.length->acc.length<=i ->
  WL T [1,4,7,8,9] false di [(1,.fn iQ [] []),(4,.sl J.length 0 acc.length 0 acc.length 4),(7,.sl lv bi v 0 l.length 4),(8,iI l.length),(9,iI i)] ([.cells acc.length (fM acc dQ.enc)]::J)
   (λx e J'=>x=.exit 0/\get e 4=.sl J.length 0 (acc++cc (l.drop i)).length 0 (acc++cc (l.drop i)).length 4/\J'=[.cells (acc++cc (l.drop i)).length (fM (acc++cc (l.drop i)) dQ.enc)]::J)
 |0,i,acc,hi,ha=>by
  refine aB di.eq_1 ?_;have h1:¬i<l.length:=by omega
  have h2:l.drop i=[]:=an (by omega);simp[h1,h2,cc]
 |m+1,i,acc,hi,ha=>by
  refine aB di.eq_1 ?_;have h1:i<l.length:=by omega
  obtain⟨e,he⟩:=gE h1;have hfl:=bu (f:=dQ.enc) (w:=4) (λ_=>rfl) he;have hd:=bD he;have h4:=cr h1 (by omega);have hlen:=xn l;have q:4<=l.length*4-i*4:=by omega
  have hlt:=AK hs;have hlv:¬J.length=lv:=by omega
  have hC:=λJ=>Yy (J:=J) (e:=e)
  simp only[dQ.enc]at hC;cases hc:e.left with
  |false =>
   rw[hc]at hC;have ih:=Jg hG hs hl m (i+1) acc (by omega) (by omega);simp[h1,hs,hG,hlv,hfl,hlen,q,h4,hC,hc];exact WL.to ih (by simp) rfl λx e' J' hh=>by rw[hd];simpa[cc,hc]using hh
  |true =>
   rw[hc]at hC;have ih:=Jg hG hs hl m (i+1) (acc++[e]) (by omega) (by simp;omega);have hr:(acc.length+1)*56<=room:=by unfold room;omega
   have hal:=xn acc;have hat:(fM acc dQ.enc).take (acc.length*4)=fM acc dQ.enc:=ai (by omega);simp[h1,hs,hG,hlv,hfl,hlen,q,h4,hC,hc,hr,hal,hat];exact WL.to ih (by simp) (by simp[hc]) λx e' J' hh=>by rw[hd];simpa[cc,hc]using hh
theorem U6{l:List dQ}{lv bi v:Nat}{G:List Abs.aD}(hG:G[bi]?=some (.cells v (fM l dQ.enc)))(hs:fq J lv=some G)(hl:l.length<=1000000)(hJ:J≠[]):
  Cl jb [.sl lv bi v 0 l.length 4,.fn iQ [] []] (lF (cc l) dQ.enc) J:=by
 refine au rfl rfl rfl ?_;have h:=Jg (J:=J) hG hs hl l.length 0 [] (by omega) (by simp);simp only[List.nil_append]at h;simp;refine WL.to h (by simp) (by simp) ?_;rintro x e J' ⟨rfl,g4,rfl⟩;have hk:=Go.Abs.nB (f:=dQ.enc) (w:=4) (λ_=>rfl) (λ_=>by simp[D.clean,ma]) (l:=cc l) (j:=0) (v:=(cc l).length) (bs:=[.cells (cc l).length (fM (cc l) dQ.enc)]) (J:=J) hJ (by simp);rw[aE]at g4 ⊢;simp[g4,hk]
theorem GY{b:Bk}{er:List Int}{S:SK}(hl:b.ah.length<=1000000)(hs:fq S J.length=some (b.bH J.length er)):
  Cl qB [.ref J.length 6 0 0] (lF (cc b.ah) dQ.enc) S:=by
 refine au rfl rfl rfl ?_;have hlt:=AK hs;have hne:¬S.length=J.length:=by omega
 have h:=U6 (J:=[]::S) (l:=b.ah) (lv:=J.length) (bi:=0) (v:=b.ah.length) (G:=b.bH J.length er) (by simp[Bk.bH]) (by simp[fq,hne,hs]) hl (by simp);have hcl:D.bd (fM (cc b.ah) dQ.enc)=true:=fN (λ_=>by simp[D.clean,ma]) _;have hc6:(b.bH J.length er)[6]?=some (.cells 0 (b.cells J.length)):=by simp[Bk.bH]
 simp[hne,hs,hc6,Bk.cells,h,hcl]
end Go.Proofs.YtpapbbojmclkgaaGreatDoor
