import Derived.Test.YtpapbbojmclkgaaGreatDoorTxt3
import Derived.Test.YtpapbbojmclkgaaGreatDoorTxt2
set_option linter.all false
set_option maxRecDepth 100000
namespace Go.Proofs.YtpapbbojmclkgaaGreatDoor
open Go Go.Abs Go.Rock Go.Book
variable {J:SK}
@[simp] theorem akv{α:Type}{f:α->List D}{l:List α}:V0 (nl f l)=some (iI l.length):=by
 unfold nl;split
 .rename_i h;subst h;rfl
 .rfl
@[simp] theorem ajS{α:Type}{f:α->List D}{l:List α}:(nl f l).strip=nl f l:=by unfold nl;split<;>rfl
@[simp] theorem akm{α:Type}{f:α->List D}{l:List α}:(nl f l).calm=nl f l:=by unfold nl;split<;>rfl
theorem Pp{x:Trem.Ev}(hs:x.sp.length<=9223372036854775807):Cl 76 [.bu,.bZ 1 x.enc,iI 0] (.cQ [.int .u8 0,.int .u8 0,iI (if x.ok then 0 else 1)]) J:=by
 refine ar ?_;have hA:=λJ=>@W5 J [x] (by simp) (by simpa using hs)
 try simp only[lF,Cl]at hA
 have hN:=λJ=>all_nil (T:=T) (J:=J) (fv:=.fn 115 [] []) (f:=114) (ag:=true) (w:=10) rfl rfl rfl rfl rfl rfl
 simp only[List.length_singleton,di,ot,cM,dq,jy,List.all_nil,Bool.and_true]at hA;have w0:Trem.bF 0 0 1000000=true:=by decide
 cases hr:x.ok
 .rw[hr]at hA;simp only[lF,Trem.Ev.enc]at hA ⊢;simp[hA,hN]
 .rw[hr]at hA;simp only[lF,Trem.Ev.enc]at hA ⊢;simp[hA,hN,iM,w0];refine av eS.eq_1 ?_;simp
def spD(L:Nat)(acc:List Trem.oc):D:=.sl L 0 acc.length 0 acc.length 4
def spS(acc:List Trem.oc):List Abs.aF:=[.cells acc.length (fM acc Trem.oc.enc)]
theorem Ig(l:List Trem.oc):(fM l Trem.oc.enc).length=l.length*4:=bQ (f:=Trem.oc.enc) (w:=4) (λ_=>rfl) l
theorem N8{bp:D}(hb1:bp.calm=bp){tk:Int}:∀(rs acc:List Trem.oc),acc.length+rs.length<=1000000 ->
  WL T [0,2,6] false fY [(0,bp),(2,.bZ (rs.length*4) (fM rs Trem.oc.enc)),(6,.own 0 [iI tk,spD J.length acc])] (spS acc::J)
   (λx e J'=>x=.exit 0/\get e 0=bp/\get e 6=.own 0 [iI tk,spD J.length (acc++rs)]/\get e 1000006=.undef/\J'=spS (acc++rs)::J)
 |[],acc,h=>by
  refine av fY.eq_1 ?_;simp[hb1]
 |r::rs,acc,h=>by
  refine av fY.eq_1 ?_;simp only[aE]at h;have⟨e1,q0,q1,q2,q3,q4⟩:(rs.length+1)*4=rs.length*4+4/\(0:Int)<(rs.length:Int)*4+4/\(1:Int)<(rs.length:Int)*4+4/\(2:Int)<(rs.length:Int)*4+4/\(3:Int)<(rs.length:Int)*4+4/\(4:Int)<=(rs.length:Int)*4+4:=by omega
  have⟨hroom,h32⟩:(acc.length+1)*32<=room/\32<=room:=by unfold room;omega
  have hl:=Ig acc;have ht:(fM acc Trem.oc.enc).take (acc.length*4)=fM acc Trem.oc.enc:=af (by omega);have hl2:=Ig rs;have ht2:(fM rs Trem.oc.enc).take (rs.length*4)=fM rs Trem.oc.enc:=af (by omega);simp[hb1,e1,q0,q1,q2,q3,q4,hroom,hl,ht,spD,spS];refine WL.to (N8 hb1 (tk:=tk) rs (acc++[r]) (by simp;omega)) (by simp[ht2,spD]) (by simp[spS]) λx e J' hh=>?_
  simpa[spD,spS]using hh
def EX(b:Bk)(x:Trem.Ev):Bk:={b with lL:=b.lL++[x] }
def pC(b:Bk)(sp:List Trem.oc):Bk×Int:=if b.lL.length<200 then(if Trem.Ev.ok ⟨b.az.length,sp⟩=true then(EX b ⟨b.az.length,sp⟩,0)else(b,1))else(b,3)
theorem Ss(l:List Trem.Ev):(fM l Trem.Ev.enc).length=l.length*2:=bQ (f:=Trem.Ev.enc) (w:=2) (λ_=>rfl) l
theorem YR{S:SK}{L:Nat}(hS:S.length=L)(hL:0<L){sp:List Trem.oc}{tk:Int}:cH.frzL (cH 0 16) [iI tk,spD L sp] (spS sp::S)=([iI tk,lF sp Trem.oc.enc],[.dead]::S):=by
 have hf:=pM (f:=Trem.oc.enc) (w:=4) (λ_=>rfl) (λ_=>by simp[D.clean]) (l:=sp) (j:=0) (v:=sp.length) (bs:=[Abs.aF.cells sp.length (fM sp Trem.oc.enc)]) (J:=S) (by intro h;subst h;simp at hS;omega) (by simp);rw[hS]at hf;simp[spD,spS,hf]
theorem aaU{F:List Abs.aF}{b:Bk}{er:List Int}{nm:List UInt8}{sp:List Trem.oc}{b':Bk}{e:Int}(hl:sp.length<=1000000)(hd:pC b sp=(b',e))(he:e=0):
  dt T (.call false 168 [.ref J.length 6 0 0,.str nm,.bZ (sp.length*4) (fM sp Trem.oc.enc)] (F::b.bD J.length er::J))=some (.val (.cQ []) (F::b'.bD J.length er::J)):=by
 refine fA rfl rfl rfl (by simp) ?_;unfold pC at hd;split at hd
 case isFalse=>cases hd;cases he
 rename_i h1;split at hd
 case isFalse=>cases hd;cases he
 rename_i h2;cases hd;have h1':(b.lL.length:Int)<200:=by omega
 have hC:=λJ=>Pp (J:=J) (x:=⟨b.az.length,sp⟩) (by simp;omega)
 simp only[h2,if_true,Trem.Ev.enc]at hC;have hL:=N8 (J:=F::b.bD J.length er::J) (bp:=.ref J.length 6 0 0) rfl (tk:=b.az.length) sp [] (by simpa using hl);have hne:sp≠[]:=by
  intro hh;subst hh;simp[Trem.Ev.ok,Trem.bF]at h2
 simp[Bk.bD,Bk.cells,h1',cV];refine WL.to hL (by simp[spD]) (by simp[Bk.bD,Bk.cells,spS]) ?_;rintro x e J' ⟨rfl,g0,g6,gu,rfl⟩;have hf:=λS hS=>YR (S:=S) (L:=J.length+1+1) hS (by omega) (sp:=sp) (tk:=b.az.length)
 have w2:(b.lL.length+1)*32<=room:=by unfold room;omega
 have w3:=Ss b.lL;have w4:(fM b.lL Trem.Ev.enc).take (b.lL.length*2)=fM b.lL Trem.Ev.enc:=af (by omega);have hcl:D.aW (fM sp Trem.oc.enc)=true:=ef (λ_=>by simp[D.clean]) sp;simp only[List.nil_append]at g6;simp[g0,g6,gu,hf,hC,oo,Bk.bD,Bk.cells,EX,w2,w3,w4,hcl]
theorem Vp{F:List Abs.aF}{b:Bk}{er:List Int}{nm:List UInt8}{sp:List Trem.oc}{b':Bk}{e:Int}(hl:sp.length<=1000000)(hd:pC b sp=(b',e))(he:e≠0):
  dt T (.call false 168 [.ref J.length 6 0 0,.str nm,.bZ (sp.length*4) (fM sp Trem.oc.enc)] (F::b.bD J.length er::J))=some (.fw (rf e) (F::b.bD J.length er::J)):=by
 refine dZ rfl rfl rfl ?_;have hM:=λJ=>pw (J:=J) (e:=1) (by decide)
 have hrc:(D.uJ 200 (.agg [iI 1])).clean=true:=rfl;unfold pC at hd;split at hd
 case isFalse h1 =>
  cases hd;have h1':¬(b.lL.length:Int)<200:=by omega
  simp[Bk.bD,Bk.cells,h1',dN,D.clean,rf]
 rename_i h1;split at hd
 case isTrue=>cases hd;exact absurd rfl he
 rename_i h2;cases hd;have h1':(b.lL.length:Int)<200:=by omega
 have h2':Trem.Ev.ok ⟨b.az.length,sp⟩=false:=by simpa using h2
 have hC:=λJ=>Pp (J:=J) (x:=⟨b.az.length,sp⟩) (by simp;omega)
 simp only[h2',Trem.Ev.enc]at hC;have hL:=N8 (J:=F::b.bD J.length er::J) (bp:=.ref J.length 6 0 0) rfl (tk:=b.az.length) sp [] (by simpa using hl);simp[Bk.bD,Bk.cells,h1',cV];refine WL.to hL (by simp[spD]) (by simp[Bk.bD,Bk.cells,spS]) ?_;rintro x e J' ⟨rfl,g0,g6,gu,rfl⟩;have hf:=λS hS=>YR (S:=S) (L:=J.length+1+1) hS (by omega) (sp:=sp) (tk:=b.az.length)
 have hcl:D.aW (fM sp Trem.oc.enc)=true:=ef (λ_=>by simp[D.clean]) sp;simp only[List.nil_append]at g6;simp[g0,g6,gu,hf,hC,hM,Bk.bD,Bk.cells,rf,hrc]
theorem E8{a b c:Int}:Cl 309 [iI a,iI b,iI c] (.bool (bF a b c)) J:=by
 refine ar ?_;by_cases h:b<=a<;>simp[h,bF]
theorem Vv{p:Prt}{last:Int}:dt T (.call false 311 [.agg p.enc,.ref J.length 0 0 0] ([]::[]::[]::[]::[.cells 0 [iI last]]::J))=some (.val (.bool (p.ok last)) ([]::[]::[]::[]::[.cells 0 [iI p.lj]]::J)):=by
 refine fA rfl rfl rfl (by simp) ?_;cases h:bF p.lj 0 last<;>simp[E8,h,Prt.ok]
theorem PL{u:jD}(hl:u.parts.length<=1000000000):Cl 258 [.agg u.enc] (.bool u.ok) J:=by
 refine ar ?_;have hA:=Oa (yI 2 Prt.enc (λ_=>rfl)) (T:=T) (S:=λi=>[.cells 0 [iI (lu u.parts i)]]::J) (fv:=.fn 311 [] [.ref J.length 0 0 0]) (l:=u.parts) (p:=Cn u.parts)
  (f:=310) (g:=349) (h:=348) (i:=367) rfl rfl rfl rfl (by omega) rfl rfl rfl (λ_=>rfl) (λi x hx=>by
   rw[pS];have h:=Vv (J:=J) (p:=x) (last:=lu u.parts i);have e1:lu u.parts (i+1)=x.lj:=by simp[lu,hx]
   have e2:Cn u.parts i=x.ok (lu u.parts i):=by simp[Cn,hx]
   have h':dt T (.call false 311 ([]++[(yI 2 Prt.enc (λ_=>rfl)).val x]++[.ref J.length 0 0 0]) ([]::[]::[]::[]::[.cells 0 [iI (lu u.parts i)]]::J))=_:=h;rw[h',e1,e2];rfl)
 have hb:(!(o5 (λi => !Cn u.parts i) 0 u.parts.length).1)=Bf 1000 u.parts:=by
  have h1:=Fy (q:=λi => !Cn u.parts i) (m:=u.parts.length) (i:=0);have h2:=Na (l:=u.parts);cases hf:Bf 1000 u.parts
  .cases hs:(o5 (λi => !Cn u.parts i) 0 u.parts.length).1
   .have h3:=h1.1 hs;have h4:=h2.2 λj hj=>by simpa using h3 j hj
    rw[hf]at h4;cases h4
   .rfl
  .have h3:=h2.1 hf;have h4:=h1.2 λj hj=>by simp[h3 j hj]
   rw[h4];rfl
 rw[hb]at hA;have e0:lu u.parts 0=1000:=rfl;have hA':dt T (.call false 310 [lF u.parts Prt.enc,.fn 311 [] [.ref J.length 0 0 0]] ([.cells 0 [iI 1000]]::J))=_:=hA;cases h1:bF u.vo 0 5
 .simp[E8,h1,jD.ok]
 cases h2:bF u.parts.length 1 8
 .simp[E8,h1,h2,jD.ok]
 simp[E8,h1,h2,jD.ok,hA']
theorem Ji{u:jD}(hl:u.parts.length<=1000000000):Cl 217 [.agg u.enc] (iI (if u.ok then 0 else 1)) J:=by
 refine ar ?_;have hC:=λJ=>PL (J:=J) hl
 simp only[jD.enc]at hC ⊢;cases hc:u.ok<;>rw[hc]at hC<;>simp[hC]
def ptD(L:Nat)(acc:List Prt):D:=.sl L 0 acc.length 0 acc.length 2
def ptS(acc:List Prt):List Abs.aF:=[.cells acc.length (fM acc Prt.enc)]
theorem Dn(l:List Prt):(fM l Prt.enc).length=l.length*2:=bQ (f:=Prt.enc) (w:=2) (λ_=>rfl) l
theorem N3{bp:D}(hb1:bp.calm=bp){tk:Int}:∀(rs acc:List Prt),acc.length+rs.length<=1000000 ->
  WL T [0,2,6] false gM [(0,bp),(2,.bZ (rs.length*2) (fM rs Prt.enc)),(6,.own 0 [iI tk,ptD J.length acc])] (ptS acc::J)
   (λx e J'=>x=.exit 0/\get e 0=bp/\get e 6=.own 0 [iI tk,ptD J.length (acc++rs)]/\get e 1000006=.undef/\J'=ptS (acc++rs)::J)
 |[],acc,h=>by
  refine av gM.eq_1 ?_;simp[hb1]
 |r::rs,acc,h=>by
  refine av gM.eq_1 ?_;simp only[aE]at h;have⟨e1,q0,q1,q2⟩:(rs.length+1)*2=rs.length*2+2/\(0:Int)<(rs.length:Int)*2+2/\(1:Int)<(rs.length:Int)*2+2/\(2:Int)<=(rs.length:Int)*2+2:=by omega
  have⟨hroom,h32⟩:(acc.length+1)*16<=room/\16<=room:=by unfold room;omega
  have hl:=Dn acc;have ht:(fM acc Prt.enc).take (acc.length*2)=fM acc Prt.enc:=af (by omega);have hl2:=Dn rs;have ht2:(fM rs Prt.enc).take (rs.length*2)=fM rs Prt.enc:=af (by omega);simp[hb1,e1,q0,q1,q2,hroom,hl,ht,ptD,ptS];refine WL.to (N3 hb1 (tk:=tk) rs (acc++[r]) (by simp;omega)) (by simp[ht2,ptD]) (by simp[ptS]) λx e J' hh=>?_
  simpa[ptD,ptS]using hh
def JV(b:Bk)(u:jD):Bk:={b with cp:=b.cp++[u] }
def tZ(b:Bk)(u:jD):Bk×Int:=if b.cp.length<10 then(if u.ok=true then(JV b u,0)else(b,1))else(b,3)
theorem Ii(l:List jD):(fM l jD.enc).length=l.length*2:=bQ (f:=jD.enc) (w:=2) (λ_=>rfl) l
theorem YQ{S:SK}{L:Nat}(hS:S.length=L)(hL:0<L){pt:List Prt}{tk:Int}:cH.frzL (cH 0 16) [iI tk,ptD L pt] (ptS pt::S)=([iI tk,lF pt Prt.enc],[.dead]::S):=by
 have hf:=pM (f:=Prt.enc) (w:=2) (λ_=>rfl) (λ_=>by simp[D.clean]) (l:=pt) (j:=0) (v:=pt.length) (bs:=[Abs.aF.cells pt.length (fM pt Prt.enc)]) (J:=S) (by intro h;subst h;simp at hS;omega) (by simp);rw[hS]at hf;simp[ptD,ptS,hf]
theorem afc{l:List Prt}:D.aW (fM l Prt.enc)=true:=ef (λ_=>by simp[D.clean]) l
theorem aeE{F:List Abs.aF}{b:Bk}{er:List Int}{nm:List UInt8}{u:jD}{b':Bk}{e:Int}(hl:u.parts.length<=1000000)(hd:tZ b u=(b',e))(he:e=0):
  dt T (.call false 171 [.ref J.length 6 0 0,.str nm,.bZ (u.parts.length*2+1) (iI u.vo::fM u.parts Prt.enc)] (F::b.bD J.length er::J))=some (.val (.cQ []) (F::b'.bD J.length er::J)):=by
 refine fA rfl rfl rfl (by simp) ?_;unfold tZ at hd;split at hd
 case isFalse=>cases hd;cases he
 rename_i h1;split at hd
 case isFalse=>cases hd;cases he
 rename_i h2;cases hd;have h1':(b.cp.length:Int)<10:=by omega
 have hC:=λJ=>Ji (J:=J) (u:=u) (by omega)
 simp only[h2,if_true,jD.enc]at hC;have hL:=N3 (J:=F::b.bD J.length er::J) (bp:=.ref J.length 6 0 0) rfl (tk:=u.vo) u.parts [] (by simpa using hl);have hne:u.parts≠[]:=by
  intro hh;simp[jD.ok,bF,hh]at h2
 have⟨q0,q1⟩:(0:Int)<(u.parts.length:Int)*2+1/\(1:Int)<=(u.parts.length:Int)*2+1:=by omega
 have hlp:=Dn u.parts;have htp:(fM u.parts Prt.enc).take (u.parts.length*2)=fM u.parts Prt.enc:=af (by omega);simp[Bk.bD,Bk.cells,h1',cV,q0,q1];refine WL.to hL (by simp[ptD,htp]) (by simp[Bk.bD,Bk.cells,ptS]) ?_;rintro x e J' ⟨rfl,g0,g6,gu,rfl⟩;have hf:=λS hS=>YQ (S:=S) (L:=J.length+1+1) hS (by omega) (pt:=u.parts) (tk:=u.vo)
 have w2:(b.cp.length+1)*32<=room:=by unfold room;omega
 have w3:=Ii b.cp;have w4:(fM b.cp jD.enc).take (b.cp.length*2)=fM b.cp jD.enc:=af (by omega);simp only[List.nil_append]at g6;simp[g0,g6,gu,hf,hC,oo,Bk.bD,Bk.cells,JV,w2,w3,w4,afc]
theorem XF{F:List Abs.aF}{b:Bk}{er:List Int}{nm:List UInt8}{u:jD}{b':Bk}{e:Int}(hl:u.parts.length<=1000000)(hd:tZ b u=(b',e))(he:e≠0):
  dt T (.call false 171 [.ref J.length 6 0 0,.str nm,.bZ (u.parts.length*2+1) (iI u.vo::fM u.parts Prt.enc)] (F::b.bD J.length er::J))=some (.fw (rf e) (F::b.bD J.length er::J)):=by
 refine dZ rfl rfl rfl ?_;have hM:=λJ=>pw (J:=J) (e:=1) (by decide)
 have hrc:(D.uJ 200 (.agg [iI 1])).clean=true:=rfl;unfold tZ at hd;split at hd
 case isFalse h1 =>
  cases hd;have h1':¬(b.cp.length:Int)<10:=by omega
  simp[Bk.bD,Bk.cells,h1',dN,D.clean,rf]
 rename_i h1;split at hd
 case isTrue=>cases hd;exact absurd rfl he
 rename_i h2;cases hd;have h1':(b.cp.length:Int)<10:=by omega
 have h2':u.ok=false:=by simpa using h2
 have hC:=λJ=>Ji (J:=J) (u:=u) (by omega)
 simp only[h2',jD.enc]at hC;have hL:=N3 (J:=F::b.bD J.length er::J) (bp:=.ref J.length 6 0 0) rfl (tk:=u.vo) u.parts [] (by simpa using hl);have⟨q0,q1⟩:(0:Int)<(u.parts.length:Int)*2+1/\(1:Int)<=(u.parts.length:Int)*2+1:=by omega
 have hlp:=Dn u.parts;have htp:(fM u.parts Prt.enc).take (u.parts.length*2)=fM u.parts Prt.enc:=af (by omega);simp[Bk.bD,Bk.cells,h1',cV,q0,q1];refine WL.to hL (by simp[ptD,htp]) (by simp[Bk.bD,Bk.cells,ptS]) ?_;rintro x e J' ⟨rfl,g0,g6,gu,rfl⟩;have hf:=λS hS=>YQ (S:=S) (L:=J.length+1+1) hS (by omega) (pt:=u.parts) (tk:=u.vo)
 simp only[List.nil_append]at g6;simp[g6,gu,hf,hC,hM,Bk.bD,Bk.cells,rf,hrc]
def L7(b:bU)(m:cg):D:=if Bd b m then Z3 (cb b m)else .bu
theorem RB{b:bU}{m:cg}:(L7 b m).strip=L7 b m:=by unfold L7;split<;>rfl
theorem Tv{b:bU}{m:cg}{tq wq:D}(htq:tq.rN=lF b.c9 Rw.enc)(hwq:wq.rN=lF b.aw bA.enc)(h1:b.c9.length<=1000000000)(h2:b.aw.length<=1000000000)(hn:m.name.length<=1000000000)(hl:m.dh.length<=1000000000)(hJ:J≠[]):
  Cl 206 [.agg [iI b.f.x,iI b.f.y,iI b.f.z,iI b.f.k,tq,iI b.cG,iI b.lift,iI b.deep,wq],.agg (mL m)] (.cQ [L7 b m,iI (if Bd b m then 0 else 1)]) J:=by
 unfold L7;cases hb:Bd b m
 .refine ar ?_;obtain⟨d,hd,hd1,hd2⟩:=Tw (J:=[]::J) h1 h2 hn hl hb;simp[htq,hwq,hd,hd1]
 .refine ar ?_;have hd:=λJ=>ac2 (J:=J) h1 h2 hn hl hb
  have hf:=λJ hJ=>Ir (J:=J) (b:=b) (m:=m) (Fv.of hb) hJ
  have hcl:(Z3 (cb b m)).clean=true:=by simp[Z3,ef (f:=Rock.aF.enc) (λ_=>by simp[D.clean])]
  have hs1:(Z3 (cb b m)).strip=Z3 (cb b m):=rfl;have hs2:(Z3 (cb b m)).calm=Z3 (cb b m):=rfl;simp[htq,hwq,hd,hf,hs1,hs2,hcl]
theorem Xg{e:dU}{nm:List UInt8}:Cl 205 [.agg e.enc,.aZ [.str nm]] (.bool (e.m.name == nm)) J:=by
 refine ar ?_;simp[ia]
theorem yn(l:List dU):(fM l dU.enc).length=l.length*4:=bQ (f:=dU.enc) (w:=4) (λ_=>rfl) l
theorem Io(l:List DW):(fM l DW.enc).length=l.length*4:=bQ (f:=DW.enc) (w:=4) (λ_=>rfl) l
theorem MP{b:Bk}{er:List Int}{nm:List UInt8}{S:SK}(hl:b.aj.length<=1000000)(hs:eT S J.length=some (b.bD J.length er)):
  Cl 204 [.sl J.length 0 b.aj.length 0 b.aj.length 4,.fn 205 [] [.aZ [.str nm]]] (.bool (mK b.aj λe=>e.m.name == nm)) S :=
 FO (enc:=dU.enc) (w:=4) (λ_=>rfl) (F:=b.bD J.length er) (bi:=0) (v:=b.aj.length) (l:=b.aj) (i:=33) rfl rfl (by simp[Bk.bD]) (by omega)
  ⟨rfl,rfl,λe _ J=>by rw[pS];have h:=Xg (J:=J) (e:=e) (nm:=nm);have h':dt T (.call false 205 ([]++[.agg e.enc]++[.aZ [.str nm]]) J)=_:=h;rw[h'];rfl⟩ hs
def zE(b:Bk)(m:cg):Bk:={b with aj:=b.aj++[⟨m,true,0⟩],eg:=b.eg++[⟨0,0,0,0⟩] }
def rp(b:Bk)(m:cg):Bk×Int :=
 if b.ready=true/\b.az=[]then
  (if(mK b.aj λe=>e.m.name == m.name)=true then(b,6)else if b.aj.length<40 then(if Bd b.aR m=true then(zE b m,0)else(b,1))else(b,3))
 else(b,8)
theorem Xh{F:List Abs.aF}{b:Bk}{er:List Int}{m:cg}{b':Bk}{e:Int}(h1:b.aR.c9.length<=1000000000)(h2:b.aR.aw.length<=1000000000)(hn:m.name.length<=1000000000)(hl:m.dh.length<=1000000000)(hw:b.eg.length=b.aj.length)(hd:rp b m=(b',e))(he:e=0):
  dt T (.call false 164 [.ref J.length 6 0 0,.str m.name,lF m.dh aO] (F::b.bD J.length er::J))=some (.val (.cQ []) (F::b'.bD J.length er::J)):=by
 refine fA rfl rfl rfl (by simp) ?_;unfold rp at hd;split at hd
 case isFalse=>cases hd;cases he
 rename_i c0;obtain⟨c1,c2⟩:=c0;split at hd
 case isTrue=>cases hd;cases he
 rename_i c3;split at hd
 case isFalse=>cases hd;cases he
 rename_i c4;split at hd
 case isFalse=>cases hd;cases he
 rename_i c5;cases hd;have c3':(mK b.aj λe=>e.m.name == m.name)=false:=by simpa using c3
 have c4':(b.aj.length:Int)<40:=by omega
 have hH:=λS=>MP (J:=J) (b:=b) (er:=er) (nm:=m.name) (S:=S) (by omega)
 simp only[c3']at hH;have hS:=λS hJ=>Tv (J:=S) (b:=b.aR) (m:=m) (tq:=nl Rw.enc b.aR.c9) (wq:=nl bA.enc b.aR.aw) kI kI h1 h2 hn hl hJ
 simp only[c5]at hS;simp only[Bk.bD,Bk.cells]at hH;have w2:(b.aj.length+1)*56<=room:=by unfold room;omega
 have w3:=yn b.aj;have w4:(fM b.aj dU.enc).take (b.aj.length*4)=fM b.aj dU.enc:=af (by omega);have w5:(b.eg.length+1)*32<=room:=by unfold room;omega
 have w6:=Io b.eg;have w7:(fM b.eg DW.enc).take (b.eg.length*4)=fM b.eg DW.enc:=af (by omega);simp[Bk.bD,Bk.cells,c1,c2,hH,c4',hS,RB,acr,cV,oo,zE,w2,w3,w4,w5,w6,w7,kR]
theorem Vm{F:List Abs.aF}{b:Bk}{er:List Int}{m:cg}{b':Bk}{e:Int}(h1:b.aR.c9.length<=1000000000)(h2:b.aR.aw.length<=1000000000)(hn:m.name.length<=1000000000)(hl:m.dh.length<=1000000000)(hml:b.aj.length<=40)(hd:rp b m=(b',e))(he:e≠0):
  dt T (.call false 164 [.ref J.length 6 0 0,.str m.name,lF m.dh aO] (F::b.bD J.length er::J))=some (.fw (rf e) (F::b.bD J.length er::J)):=by
 refine dZ rfl rfl rfl ?_;have hM:=λJ=>pw (J:=J) (e:=1) (by decide)
 have hrc:(D.uJ 200 (.agg [iI 1])).clean=true:=rfl;unfold rp at hd;split at hd
 case isFalse c0 =>
  cases hd;cases c1:b.ready with
  |false=>simp[Bk.bD,Bk.cells,c1,dN,D.clean,rf]
  |true =>
   have c2:((b.az.length:Int) == 0)=false:=by simpa using λhh=>c0 ⟨c1,hh⟩
   simp[Bk.bD,Bk.cells,c1,c2,dN,D.clean,rf]
 rename_i c0;obtain⟨c1,c2⟩:=c0;have hH:=λS=>MP (J:=J) (b:=b) (er:=er) (nm:=m.name) (S:=S) (by omega)
 split at hd
 case isTrue c3 =>
  cases hd;simp only[c3]at hH;simp only[Bk.bD,Bk.cells]at hH;simp[Bk.bD,Bk.cells,c1,c2,hH,cV,dN,D.clean,rf]
 rename_i c3;have c3':(mK b.aj λe=>e.m.name == m.name)=false:=by simpa using c3
 simp only[c3']at hH;split at hd
 case isFalse c4 =>
  cases hd;have c4':¬(b.aj.length:Int)<40:=by omega
  simp only[Bk.bD,Bk.cells]at hH;simp[Bk.bD,Bk.cells,c1,c2,hH,c4',cV,dN,D.clean,rf]
 rename_i c4;have c4':(b.aj.length:Int)<40:=by omega
 split at hd
 case isTrue=>cases hd;exact absurd rfl he
 rename_i c5;cases hd;have c5':Bd b.aR m=false:=by simpa using c5
 have hS:=λS hJ=>Tv (J:=S) (b:=b.aR) (m:=m) (tq:=nl Rw.enc b.aR.c9) (wq:=nl bA.enc b.aR.aw) kI kI h1 h2 hn hl hJ
 simp only[c5']at hS;simp only[Bk.bD,Bk.cells]at hH;simp[Bk.bD,Bk.cells,c1,c2,hH,c4',hS,RB,cV,hM,rf,hrc]
end Go.Proofs.YtpapbbojmclkgaaGreatDoor
namespace Go.Book
open Go Go.Abs Go.Rock
def isStr(lo hi:Int)(val:cg->Int)(e:dU):Bool:=e.left && !bF (val e.m) lo hi
def cf(at_ lo hi:Int)(val:cg->Int)(e:dU):dU:=if isStr lo hi val e then⟨e.m,false,at_⟩else e
def agK(at_ lo hi:Int)(val:cg->Int)(ms:List dU)(j:Nat)(w:DW):DW:=match ms[j]? with
 |some e=>if isStr lo hi val e then⟨at_,val e.m,lo,hi⟩else w
 |none=>w
def Bk.gF(b:Bk)(lo hi:Int)(val:cg->Int)(i:Nat):Bk :=
 {b with aj:=b.aj.mapIdx λj e=>if j<i then cf b.at_ lo hi val e else e,eg:=b.eg.mapIdx λj w=>if j<i then agK b.at_ lo hi val b.aj j w else w }
section
variable {b:Bk} {lo hi:Int} {val:cg->Int} {i:Nat}
@[simp] theorem Z7:(b.gF lo hi val i).aR=b.aR:=aJ rfl
@[simp] theorem Ws:(b.gF lo hi val i).az=b.az:=aJ rfl
@[simp] theorem Th:(b.gF lo hi val i).rules=b.rules:=aJ rfl
@[simp] theorem Z8:(b.gF lo hi val i).lL=b.lL:=aJ rfl
@[simp] theorem acQ:(b.gF lo hi val i).k0=b.k0:=aJ rfl
@[simp] theorem acR:(b.gF lo hi val i).k1=b.k1:=aJ rfl
@[simp] theorem acS:(b.gF lo hi val i).k2=b.k2:=aJ rfl
@[simp] theorem Tj:(b.gF lo hi val i).cp=b.cp:=aJ rfl
@[simp] theorem Ti:(b.gF lo hi val i).cA=b.cA:=aJ rfl
@[simp] theorem Tg:(b.gF lo hi val i).ready=b.ready:=aJ rfl
@[simp] theorem acP:(b.gF lo hi val i).at_=b.at_:=aJ rfl
end
theorem NQ{b:Bk}{lo hi:Int}{val:cg->Int}:b.gF lo hi val 0=b:=by
 cases b;simp only[Bk.gF,Bk.mk.injEq,true_and,and_true];constructor<;>(apply eC;intro j;simp[jE])
theorem uS{b:Bk}{lo hi:Int}{val:cg->Int}{i:Nat}:(b.gF lo hi val i).aj.length=b.aj.length:=by simp[Bk.gF]
theorem wy{b:Bk}{lo hi:Int}{val:cg->Int}{i:Nat}:(b.gF lo hi val i).eg.length=b.eg.length:=by simp[Bk.gF]
theorem U0{b:Bk}{lo hi:Int}{val:cg->Int}{i:Nat}{e:dU}(h:b.aj[i]?=some e):(b.gF lo hi val i).aj[i]?=some e:=by simp[Bk.gF,h]
theorem NP{b:Bk}{lo hi:Int}{val:cg->Int}{i:Nat}{e:dU}(h:b.aj[i]?=some e)(hs:isStr lo hi val e=true)(hw:b.eg.length=b.aj.length):
  (b.gF lo hi val (i+1)).aj=(b.gF lo hi val i).aj.set i ⟨e.m,false,b.at_⟩/\(b.gF lo hi val (i+1)).eg=(b.gF lo hi val i).eg.set i ⟨b.at_,val e.m,lo,hi⟩:=by
 obtain⟨hi',he⟩:=aA.1 h;constructor
 .apply eC;intro j;simp only[Bk.gF,jE,List.getElem?_set];by_cases hj:i=j
  .subst hj;rw[h];simp[hi',cf,hs]
  .rw[if_neg hj];cases b.aj[j]? with
   |none=>rfl
   |some x=>simp only[bf];congr 1;by_cases h1:j<i<;>simp[h1]<;>omega
 .apply eC;intro j;simp only[Bk.gF,jE,List.getElem?_set];by_cases hj:i=j
  .subst hj;have:i<b.eg.length:=by omega
   rw[aK this];simp[h,this,agK,hs]
  .rw[if_neg hj];cases b.eg[j]? with
   |none=>rfl
   |some x=>simp only[bf];congr 1;by_cases h1:j<i<;>simp[h1]<;>omega
theorem FB{b:Bk}{lo hi:Int}{val:cg->Int}{i:Nat}{e:dU}(h:b.aj[i]?=some e)(hs:isStr lo hi val e=false):b.gF lo hi val (i+1)=b.gF lo hi val i:=by
 have h1:(b.gF lo hi val (i+1)).aj=(b.gF lo hi val i).aj:=by
  apply eC;intro j;simp only[Bk.gF,jE];by_cases hj:i=j
  .subst hj;simp[h,cf,hs]
  .cases b.aj[j]? with
   |none=>rfl
   |some x=>simp only[bf];congr 1;by_cases h1:j<i<;>simp[h1]<;>omega
 have h2:(b.gF lo hi val (i+1)).eg=(b.gF lo hi val i).eg:=by
  apply eC;intro j;simp only[Bk.gF,jE];by_cases hj:i=j
  .subst hj;cases b.eg[i]? with
   |none=>rfl
   |some x=>simp[h,agK,hs]
  .cases b.eg[j]? with
   |none=>rfl
   |some x=>simp only[bf];congr 1;by_cases h1:j<i<;>simp[h1]<;>omega
 simp only[Bk.gF]at h1 h2 ⊢;rw[h1,h2]
end Go.Book
namespace Go.Proofs.YtpapbbojmclkgaaGreatDoor
section
open Go Go.Abs Go.Rock Go.Book
variable {J:SK}
theorem Qi{α:Type}{f:α->List D}{w k:Nat}{v:D}(hw:∀x,(f x).length=w)(hk:k<w):∀{l:List α} {i:Nat} {x x':α},l[i]?=some x->(f x).set k v=f x'->(fM l f).set (i*w+k) v=fM (l.set i x') f
 |[],i,x,x',h,_=>by simp at h
 |a::l,0,x,x',h,hs=>by
  simp at h;subst h;simp only[di,List.set_cons_zero,Nat.zero_mul,cz];rw[List.set_append_left _ _ (by rw[hw];exact hk),hs]
 |a::l,i+1,x,x',h,hs=>by
  have ih:=Qi hw hk (l:=l) (i:=i) (by simpa using h) hs;simp only[di,List.set_cons_succ];have e:=hw a;rw[List.set_append_right _ _ (by rw[e,eD];omega),<- ih];congr 2;rw[e,eD];omega
theorem Hc{α:Type}{f:α->List D}{w k:Nat}{v:D}(hw:∀x,(f x).length=w)(hk:k<w){l:List α}{i:Nat}{x x':α}(h:l[i]?=some x)(hs:(f x).set k v=f x'):(fM l f).take (i*w+k)++v::(fM l f).drop (i*w+k+1)=fM (l.set i x') f:=by
 rw[<- Qi hw hk h hs,List.set_eq_take_append_cons_drop,if_pos];rw[bQ hw];have h1:=(aA.1 h).1;have:(i+1)*w<=l.length*w:=db _ h1;rw[eD]at this;omega
theorem P6{A F:List Abs.aF}{b:Bk}{er:List Int}{lo hi:Int}{val:cg->Int}{fv:D}(hf1:fv.strip=fv)(hf2:fv.calm=fv)(hw:b.eg.length=b.aj.length)(hl:b.aj.length<=40)
  (hv:∀i e,e∈b.aj->e.left=true->oK (dt T) false fv [.agg (mL e.m)] ([]::A::F::(b.gF lo hi val i).bD J.length er::J)=some (iI (val e.m),[]::A::F::(b.gF lo hi val i).bD J.length er::J)):∀(m i:Nat),i+m=b.aj.length ->
  WL T [0,2,4,13,14,15] false fm [(0,.ref J.length 6 0 0),(2,fv),(4,.aZ [iI lo,iI hi]),(13,.sl J.length 0 b.aj.length 0 b.aj.length 4),(14,iI b.aj.length),(15,iI i)] ([]::A::F::(b.gF lo hi val i).bD J.length er::J)
   (λx e J'=>x=.exit 0/\J'=[]::A::F::(b.gF lo hi val b.aj.length).bD J.length er::J)
 |0,i,h=>by
  refine av fm.eq_1 ?_;have⟨h1,h2⟩:¬i<b.aj.length/\i=b.aj.length:=by omega
  simp[hf2,h2]
 |m+1,i,h=>by
  refine av fm.eq_1 ?_;have h1:i<b.aj.length:=by omega
  obtain⟨e,he⟩:=gE h1;have hat:=U0 (lo:=lo) (hi:=hi) (val:=val) he;have hfl:=aP (f:=dU.enc) (w:=4) (λ_=>rfl) hat;have hml:=uS (b:=b) (lo:=lo) (hi:=hi) (val:=val) (i:=i);have hwl:=wy (b:=b) (lo:=lo) (hi:=hi) (val:=val) (i:=i);have h4:=bO h1;have ih:=P6 hf1 hf2 hw hl hv m (i+1) (by omega);have hlen:=yn (b.gF lo hi val i).aj;rw[hml]at hlen;have q:4<=b.aj.length*4-i*4:=by omega
  cases hc1:e.left with
  |false =>
   have hst:isStr lo hi val e=false:=by simp[isStr,hc1]
   rw[FB he hst]at ih;simp[h1,hf2,Bk.bD,Bk.cells,hml,hwl,hfl,hlen,q,h4,hc1];exact WL.to ih (by simp) (by simp[Bk.bD,Bk.cells,hml,hwl]) λx e J' hh=>by simpa[Bk.bD,Bk.cells,uS,wy]using hh
  |true =>
   have hcall:=hv i e (ai he) hc1;simp only[Bk.bD,Bk.cells,hml,hwl,Z7,Ws,Th,Z8,acQ,acR,acS,Tj,Ti,Tg,acP]at hcall;cases hc2:bF (val e.m) lo hi with
   |true =>
    have hst:isStr lo hi val e=false:=by simp[isStr,hc2]
    rw[FB he hst]at ih;simp[h1,hf1,hf2,Bk.bD,Bk.cells,hml,hwl,hfl,hlen,q,h4,hc1,hcall,eL,hc2];exact WL.to ih (by simp) (by simp[Bk.bD,Bk.cells,hml,hwl]) λx e J' hh=>by simpa[Bk.bD,Bk.cells,uS,wy]using hh
   |false =>
    have hst:isStr lo hi val e=true:=by simp[isStr,hc1,hc2]
    obtain⟨hn1,hn2⟩:=NP he hst hw;have⟨q2,q3⟩:i*4+2+1<=b.aj.length*4/\i*4+3+1<=b.aj.length*4:=by omega
    have p1:=Hc (f:=dU.enc) (w:=4) (k:=2) (v:=.bool false) (λ_=>rfl) (by omega) (x':=⟨e.m,false,e.Of⟩) hat rfl;have hat2:((b.gF lo hi val i).aj.set i ⟨e.m,false,e.Of⟩)[i]?=some ⟨e.m,false,e.Of⟩:=by simp[hml,h1]
    have p2:=Hc (f:=dU.enc) (w:=4) (k:=3) (v:=iI b.at_) (λ_=>rfl) (by omega) (x':=⟨e.m,false,b.at_⟩) hat2 rfl;rw[List.set_set]at p2;have hl2:=yn ((b.gF lo hi val i).aj.set i ⟨e.m,false,e.Of⟩);rw[List.length_set,hml]at hl2;have⟨h5,q5⟩:i<b.eg.length/\i*4+4<=b.eg.length*4:=by omega
    have hwe:=Io (b.gF lo hi val i).eg;rw[hwl]at hwe;have p3:=No (f:=DW.enc) (w:=4) (λ_=>rfl) (l:=(b.gF lo hi val i).eg) (i:=i) (x:=⟨b.at_,val e.m,lo,hi⟩) (by omega);simp only[DW.enc,cC,List.nil_append]at p3;simp[h1,hf1,hf2,Bk.bD,Bk.cells,hml,hwl,hfl,hlen,q,h4,hc1,hcall,eL,hc2,q2,q3,p1,p2,hl2,h5,q5,hwe,p3];exact WL.to ih (by simp) (by simp[Bk.bD,Bk.cells,hwl,hn1,hn2,hml]) λx e J' hh=>by simpa[Bk.bD,Bk.cells,uS,wy]using hh
def ig(b:Bk)(lo hi:Int)(val:cg->Int):Bk:=b.gF lo hi val b.aj.length
theorem PK{A F:List Abs.aF}{b:Bk}{er:List Int}{lo hi:Int}{val:cg->Int}{fv:D}(hf1:fv.strip=fv)(hf2:fv.calm=fv)(hw:b.eg.length=b.aj.length)(hl:b.aj.length<=40)
  (hv:∀i e,e∈b.aj->e.left=true->oK (dt T) false fv [.agg (mL e.m)] ([]::A::F::(b.gF lo hi val i).bD J.length er::J)=some (iI (val e.m),[]::A::F::(b.gF lo hi val i).bD J.length er::J)):
  dt T (.call false 208 [.ref J.length 6 0 0,.agg [iI lo,iI hi],fv] (A::F::b.bD J.length er::J))=some (.val (.cQ []) (A::F::(ig b lo hi val).bD J.length er::J)):=by
 refine fA rfl rfl rfl (by simp) ?_;have h:=P6 (A:=A) (F:=F) (er:=er) hf1 hf2 hw hl hv b.aj.length 0 (by omega);rw[NQ]at h;simp[Bk.bD,Bk.cells,hf2];refine WL.to h (by simp) (by simp[Bk.bD,Bk.cells]) ?_;rintro x e J' ⟨rfl,rfl⟩;simp[ig,Bk.bD,Bk.cells]
end
section
open Go Go.Abs Go.Rock
variable {J:SK}
theorem ab7(l:List cg):(fM l cg.enc).length=l.length*2:=bQ (f:=cg.enc) (w:=2) (λ_=>rfl) l
theorem Yu(l:List cg):D.aW (fM l cg.enc)=true:=ef (λx=>by simp[D.clean,kR]) l
theorem TN{t:List Rw}(ht:t.length<=20):∀(n i:Nat),i+n=t.length ->
  WL T [0,3,4] false kN [(0,lF t Rw.enc),(3,.sl J.length 0 i 0 i 5),(4,iI i)] ([.cells i (fM (t.take i) Rw.enc)]::J)
   (λx e J'=>x=.exit 0/\get e 3=.sl J.length 0 t.length 0 t.length 5/\J'=[.cells t.length (fM t Rw.enc)]::J)
 |0,i,hi=>by
  refine av kN.eq_1 ?_;obtain rfl:i=t.length:=by omega
  simp
 |n+1,i,hi=>by
  refine av kN.eq_1 ?_;have h1:i<t.length:=by omega
  obtain⟨r,hr⟩:=gE h1;have h2:=aP (f:=Rw.enc) (w:=5) (λ_=>rfl) hr;have h4:=bO h1;have ih:=TN ht n (i+1) (by omega);have a3:=l7 (f:=Rw.enc) hr;have a4:=LV (t.take i);rw[bY,Nat.min_eq_left (by omega)]at a4;have a6:(fM (t.take i) Rw.enc).take (i*5)=fM (t.take i) Rw.enc:=af (by omega);have h7:(i+1)*40<=room:=by unfold room;omega
  simp[h1,h2,h4,a4,a6,h7];exact WL.to ih (by simp) (by simp[<- a3]) λx e J hh=>hh
theorem Py{t:List Rw}(ht:t.length<=20):dt T (.call true 79 [lF t Rw.enc] ([]::J))=some (.val (.sl J.length 0 t.length 0 t.length 5) ([.cells t.length (fM t Rw.enc)]::J)):=by
 refine sF rfl rfl rfl ?_;simp;refine WL.to (TN (J:=J) ht t.length 0 (by omega)) (by simp) (by simp) ?_;rintro x e J' ⟨rfl,g3,rfl⟩;simp[g3]
theorem Po{f:dF}:Cl 78 [.agg (fL f)] (.agg (fL f)) J:=by
 refine ar ?_;simp
def bdD(b:bU)(L i:Nat):List D:=[iI b.f.x,iI b.f.y,iI b.f.z,iI b.f.k,.sl L 0 b.c9.length 0 b.c9.length 5,iI b.cG,iI b.lift,iI b.deep,.sl L 1 i 0 i 3]
theorem ac5{b:bU}(hw:b.aw.length<=8):∀(n i:Nat),i+n=b.aw.length ->
  WL T [1,2,3,4] false nq [(1,.aZ (bL b)),(2,.own 0 [iI 0,iI 0,iI 0,iI 0,.bu,iI 0,iI 0,iI 0,.bu]),(3,.own 0 (bdD b J.length i)),(4,iI i)] ([.cells b.c9.length (fM b.c9 Rw.enc),.cells i (fM (b.aw.take i) bA.enc)]::J)
   (λx e J'=>x=.exit 0/\get e 2=.own 0 [iI 0,iI 0,iI 0,iI 0,.bu,iI 0,iI 0,iI 0,.bu]/\get e 3=.own 0 (bdD b J.length b.aw.length)/\J'=[.cells b.c9.length (fM b.c9 Rw.enc),.cells b.aw.length (fM b.aw bA.enc)]::J)
 |0,i,hi=>by
  refine av nq.eq_1 ?_;obtain rfl:i=b.aw.length:=by omega
  simp[bdD]
 |n+1,i,hi=>by
  refine av nq.eq_1 ?_;have h1:i<b.aw.length:=by omega
  obtain⟨r,hr⟩:=gE h1;have h2:=KY hr;have h4:=bO h1;have ih:=ac5 hw n (i+1) (by omega);have a3:=l7 (f:=bA.enc) hr;have a4:=wD (b.aw.take i);rw[bY,Nat.min_eq_left (by omega)]at a4;have a6:(fM (b.aw.take i) bA.enc).take (i*3)=fM (b.aw.take i) bA.enc:=af (by omega);have h7:(i+1)*24<=room:=by unfold room;omega
  simp only[bdD]at ih ⊢;simp[h1,h2,h4,a4,a6,h7];exact WL.to ih (by simp) (by simp[<- a3]) λx e J hh=>hh
theorem ad8{b:bU}(ht:b.c9.length<=20)(hw:b.aw.length<=8)(hJ:J≠[]):Cl 50 [.agg (bL b)] (.agg (bL b)) J:=by
 refine ar ?_;have hT:=λJ=>Py (J:=J) ht
 have hF:=λJ=>Po (J:=J) (f:=b.f)
 simp[hF,hT];refine WL.to (ac5 (J:=J) hw b.aw.length 0 (by omega)) (by simp[bdD]) (by simp) ?_;rintro x e J' ⟨rfl,g2,g3,rfl⟩;simp[g2,g3,bdD];rw[vW (by simp) (by omega)];have hi:∀(k:IntKind) (n:Int) (S:SK),cH (J.length-1) (16-1) (.int k n) S=(.int k n,S):=λk n S=>de rfl (by omega)
 simp only[ff,gj,hi];rw[gG (f:=Rw.enc) (by decide) (λ_=>rfl) (λx=>by simp) hJ (by simp)];simp only[List.set_cons_zero];rw[gG (f:=bA.enc) (by decide) (λ_=>rfl) (λx=>by simp) hJ (by simp)];exact⟨_,rfl⟩
structure Ok(b:bU)(l:List cg)(az:List (List Int)):Prop where
 bv:Bv b
 valid:b.valid=true
 len:1<=l.length/\l.length<=40
 aj:b.f.aj l=0
 fit:∀m∈l,fits b m=true
 fv:∀m∈l,Fv b m
 short:∀m∈l,m.name.length<=1000000000/\m.dh.length<=384
 pl:tL b az=0
 Wh:az.length<=200
 aG:∀r∈az,Rv b r
theorem afy{b:bU}{m:cg}(h:Bv b)(hf:fits b m=true):m.name.length<=16:=by
 rw[Ou h,ah,aB]at hf;have hm:=hf.1;unfold dF.model at hm;split at hm
 .rename_i hn;simp only[named,ah]at hn;have:=aQ.1 hn.2;omega
 .cases hm
theorem Ok.of{b:bU}{l:List cg}{az:List (List Int)}(h:adW b l az=true):Ok b l az:=by
 simp only[adW,ah,aB]at h;obtain⟨h1,h2,h3,h4,h5⟩:=h;have hb:=Bv.of h1;unfold Zf at h3;split at h3
 .rename_i hi;split at h3
  .rename_i hm;split at h3
   .rename_i hf;have hfit:∀m∈l,fits b m=true:=eQ.1 hf;have hfv:∀m∈l,Fv b m:=λm hm=>Fv.of (by simp[Bd,h1,hfit m hm])
    exact⟨hb,h1,⟨by have:=aQ.1 hi;omega,by omega⟩,hm,hfit,hfv,λm hm=>⟨by have:=afy hb (hfit m hm);omega,(hfv m hm).toMv.le.2⟩,h5,by omega,(ju h5).2⟩
   .cases h3
  .cases h3
 .cases h3
theorem Ok.check{b:bU}{l:List cg}{az:List (List Int)}(h:Ok b l az):fW b.f l=0:=by
 simp[fW,h.bv.fv,h.aj]
theorem Xp{b:bU}{m:cg}(h:Bv b)(hn:m.name.length<=1000000000)(hl:m.dh.length<=1000000000):Cl 306 [.agg (mL m),.aZ (bL b)] (.bool (fits b m)) J:=by
 refine ar ?_;have hC:=λJ=>RZ (J:=J) (m:=m) h hn hl
 simp[hC]
theorem R9{b:bU}{l:List cg}(h:Bv b)(hs:∀m∈l,m.name.length<=1000000000/\m.dh.length<=1000000000)(hl:l.length<=1000000000):
  Cl 305 [lF l cg.enc,.fn 306 [] [.aZ (bL b)]] (.bool (dq l (fits b))) J :=
 CL (yI 2 cg.enc (λ_=>rfl)) (f:=305) (g:=342) (h:=341) (i:=366) (l:=l) (p:=fits b) rfl rfl rfl rfl (by omega) (pA.fn λx hx J=>Xp h (hs x hx).1 (hs x hx).2) rfl
theorem aa0{b:bU}{l:List cg}{az:List (List Int)}(h:Ok b l az):
  Cl 253 [.agg (bL b),lF l cg.enc,lF az J0] (iI 0) J:=by
 refine ar ?_;have hs:∀m∈l,m.name.length<=1000000000/\m.dh.length<=1000000000:=λm hm=>⟨(h.short m hm).1,by have:=(h.short m hm).2;omega⟩
 have hl:=h.len;have htab:=h.bv.c9;have ht:b.c9.length<=1000000000:=by
  simp only[fN,ah]at htab;have:=aQ.1 htab.1;omega
 have h1:=λJ=>D4 (J:=J) (b:=b) ht (by have:=h.bv.aw;omega)
 have h2:=λJ=>FM (J:=J) (f:=b.f) (l:=l) hs (by omega)
 have h3:=λJ=>R9 (J:=J) (l:=l) h.bv hs (by omega)
 have h4:=λJ=>Xn (J:=J) (b:=b) (az:=az) (by have:=h.Wh;omega) (λr hr=>by have:=(h.aG r hr).len;have:=h.bv.aw;omega)
 have hi:bF l.length 1 40=true:=aQ.2 (by omega);have ha:dq l (fits b)=true:=eQ.2 h.fit;rw[h.valid]at h1;rw[h.check]at h2;rw[ha]at h3;rw[h.pl]at h4;simp[h1,h2,h3,h4,dR,hi]
abbrev RunT:=List (List Rock.aF)×List (List Rock.aF)
def G3(r:RunT):List D:=[lF r.1 lI,lF r.2 lI]
theorem ZT(l:List RunT):(fM l G3).length=l.length*2:=bQ (f:=G3) (w:=2) (λ_=>rfl) l
def zR(b:bU)(az:List (List Int)):List cg->Option (List RunT)
 |[]=>some []
 |m::l=>match Rock.run b m az with
  |some r=>(zR b az l).map (r :: ·)
  |none=>none
def Rm(n:Nat)(acc:List RunT)(J:SK)(r:Option (List RunT))(x:Abs.Exit)(e:Env)(J':SK):Prop:=match r with
 |some rs=>x=.exit 0/\get e 6=.sl J.length 0 n 0 n 2/\J'=[.cells n (fM (acc++rs) G3)]::J
 |none=>x=.fw (.uJ 428 (.agg []))/\∃bD,J'=bD::J
theorem Sg{b:bU}{l:List cg}{az:List (List Int)}(h:Ok b l az):∀(k i:Nat) (acc:List RunT),i+k=l.length->acc.length=i ->
  WL T [2,3,6,9,10,11] false qd [(2,lF az J0),(3,.aZ (bL b)),(6,.sl J.length 0 i 0 i 2),(9,lF l cg.enc),(10,iI l.length),(11,iI i)] ([.cells i (fM acc G3)]::J)
   (Rm l.length acc J (zR b az (l.drop i)))
 |0,i,acc,hi,ha=>by
  refine av qd.eq_1 ?_;obtain rfl:i=l.length:=by omega
  have h2:l.drop l.length=[]:=an (by omega);simp[h2,zR,Rm]
 |k+1,i,acc,hi,ha=>by
  refine av qd.eq_1 ?_;have h1:i<l.length:=by omega
  obtain⟨m,hm⟩:=gE h1;have hlen:=h.len;have h2:=Uv hm;have h4:=bO h1;have h5:=bz hm;have hmem:=ai hm;have a4:=ZT acc;rw[ha]at a4;have a6:(fM acc G3).take (i*2)=fM acc G3:=af (by omega);have h7:(i+1)*48<=room:=by unfold room;omega
  have hp:az.length<=200:=by have:=h.Wh;omega
  rw[h5,zR];cases hr:Rock.run b m az with
  |none =>
   have hC:=λJ=>TC (J:=J) (h.fv m hmem) hp h.aG hr
   simp[h1,h2,hC,Rm]
  |some r =>
   obtain⟨ss,ys⟩:=r;have hC:=λJ hJ=>TD (J:=J) (h.fv m hmem) hp h.aG hJ hr
   have ih:=Sg h k (i+1) (acc++[(ss,ys)]) (by omega) (by simp[ha]);simp[h1,h2,h4,hC,a4,a6,h7];refine WL.to ih (by simp) (by simp[G3]) λx e J' hh=>?_
   cases hq:zR b az (l.drop (i+1))with
   |none=>rw[hq]at hh;simpa[Rm]using hh
   |some rs=>rw[hq]at hh;simpa[Rm]using hh
theorem XB{b:bU}{l:List cg}{az:List (List Int)}(h:Ok b l az)(hJ:J≠[]){rs:List RunT}(hr:zR b az l=some rs)(hl:rs.length=l.length):
  Cl 255 [.agg (bL b),lF l cg.enc,lF az J0] (lF rs G3) J:=by
 refine ar ?_;simp[];refine WL.to (Sg (J:=J) h l.length 0 [] (by omega) rfl) (by simp) (by simp) ?_;rw[aC,hr];rintro x e J' ⟨rfl,g6,rfl⟩;simp[g6];rw[<- hl,gG (f:=G3) (by decide) (λ_=>rfl) (λx=>by simp[G3,D.clean,adi]) hJ (by simp)];simp
theorem XA{b:bU}{l:List cg}{az:List (List Int)}(h:Ok b l az)(hr:zR b az l=none):
  dt T (.call false 255 [.agg (bL b),lF l cg.enc,lF az J0] J)=some (.fw (.uJ 428 (.agg [])) J):=by
 refine dZ rfl rfl rfl ?_;simp[];refine WL.to (Sg (J:=J) h l.length 0 [] (by omega) rfl) (by simp) (by simp) ?_;rw[aC,hr];rintro x e J' ⟨rfl,bD,rfl⟩;simp[D.clean]
theorem NG{b:bU}{az:List (List Int)}:∀{l:List cg} {rs:List RunT},zR b az l=some rs->rs.length=l.length/\∀(i:Nat) m,l[i]?=some m->∃r,rs[i]?=some r/\Rock.run b m az=some r
 |[],rs,h=>by simp only[zR,ae]at h;subst h;simp
 |m::l,rs,h=>by
  simp only[zR]at h;cases hr:Rock.run b m az with
  |none=>rw[hr]at h;cases h
  |some r =>
   rw[hr]at h;simp only[ad]at h;obtain⟨rs',h1,rfl⟩:=h;obtain⟨g1,g2⟩:=NG h1;refine⟨by simp[g1],?_⟩;intro i m' hm';cases i with
   |zero=>simp only[cT,ae]at hm';subst hm';exact⟨r,rfl,hr⟩
   |succ i=>simpa using g2 i m' (by simpa using hm')
theorem abi{x:Rock.aF}:Cl 345 [.agg x.enc] (iI x.m) J:=by
 refine ar ?_;simp
theorem XJ{x:Rock.aF}:Cl 347 [.agg x.enc] (iI x.k) J:=by
 refine ar ?_;simp
def rowAt(l:List (List Rock.aF))(t:Nat):List Rock.aF:=(l[t]?).getD []
structure Rs(b:bU)(l:List cg)(n:Nat)(rs:List RunT):Prop where
 len:rs.length=l.length
 ne:1<=l.length/\l.length<=40
 n6:n<=200
 aw:b.aw.length<=8
 bn:1<=b.n/\b.n<=64
 all:∀r∈rs,MX b n r.1 r.2
 fv:∀m∈l,Fv b m
theorem Re{b:bU}{n:Nat}{r:RunT}(h:MX b n r.1 r.2){t:Nat}(ht:t<n):r.2[t]?=some (rowAt r.2 t)/\Yv b (rowAt r.2 t):=by
 have h1:t<r.2.length:=by rw[h.yl];exact ht
 have h2:r.2[t]?=some r.2[t]:=aK h1;have h3:rowAt r.2 t=r.2[t]:=by simp[rowAt,h2]
 rw[h3];exact⟨h2,h.yv _ (List.getElem_mem h1)⟩
theorem ZO{b:bU}{n:Nat}{r:RunT}(h:MX b n r.1 r.2){t:Nat}(ht:t<=n):r.1[t]?=some (rowAt r.1 t)/\Sv b (rowAt r.1 t):=by
 have h1:t<r.1.length:=by rw[h.sl];omega
 have h2:r.1[t]?=some r.1[t]:=aK h1;have h3:rowAt r.1 t=r.1[t]:=by simp[rowAt,h2]
 rw[h3];exact⟨h2,h.sv _ (List.getElem_mem h1)⟩
theorem U3{b:bU}{y:List Rock.aF}(h:Yv b y){w:Nat}(hw:w<b.aw.length):y[w]?=some (aT y w):=by
 have h1:w<y.length:=by rw[h.len];exact hw
 simp[aT,aK h1]
theorem Z4{l:List (List Rock.aF)}{t:Nat}{s:List Rock.aF}(h:l[t]?=some s):((fM l lI).drop t).take 1=[lF s aF.enc]:=by
 have:=aP (f:=lI) (w:=1) (λ_=>rfl) h;simpa[lI]using this
theorem acD{l:List RunT}{j:Nat}{r:RunT}(h:l[j]?=some r):((fM l G3).drop (j*2)).take 2=[lF r.1 lI,lF r.2 lI] :=
 aP (f:=G3) (w:=2) (λ_=>rfl) h
end
end Go.Proofs.YtpapbbojmclkgaaGreatDoor
namespace Go.Rock
open Go Go.Abs
def three:List Rw:=[⟨100,101,419,2676,150⟩,⟨150,476,632,2746,300⟩,⟨200,1555,852,2793,600⟩]
end Go.Rock
namespace Go.Proofs.YtpapbbojmclkgaaGreatDoor
open Go Go.Abs Go.Rock
variable {J:SK}
theorem Rs.of{b:bU}{l:List cg}{az:List (List Int)}(h:Ok b l az){rs:List RunT}(hr:zR b az l=some rs):Rs b l az.length rs:=by
 obtain⟨h1,h2⟩:=NG hr;refine⟨h1,h.len,h.Wh,h.bv.aw,h.bv.n,?_,h.fv⟩;intro r hmem;obtain⟨i,hi⟩:=fV hmem;have hlt:i<l.length:=by rw[<- h1];exact(aA.1 hi).1
 obtain⟨m,hm⟩:=gE hlt;obtain⟨r',h3,h4⟩:=h2 i m hm;rw[hi]at h3;cases h3;exact MX.of (h.fv m (ai hm)) h.aG h4
theorem QB{l u n w:Nat}{k:Int}{S S':SK}{cs:List D}{i:Nat}(h:cH l 15 (.sl u i n 0 n w) S=(.bZ n cs,S')):cH l 16 (.cQ [.sl u i n 0 n w,iI k]) S=(.cQ [.bZ n cs,iI k],S'):=by
 rw[pG (by rfl) (by omega)];simp only[ff,gj];rw[h,de (by rfl) (by omega)]
theorem Qu(l:List Nat):(fM l λ_=>[D.bZ 0 []])=List.replicate l.length (.bZ 0 []):=by
 induction l with
 |nil=>rfl
 |cons a l ih=>rw[di,ih];rfl
end Go.Proofs.YtpapbbojmclkgaaGreatDoor
namespace Go.Rock
open Go Go.Abs
structure rm where
 name:List UInt8
 kind:Int
 bl:List Int
 wt:List Int
 lo:Int
 hi:Int
structure tU where
 tick:Int
 ka:Int
 idx:Int
 lo:Int
 hi:Int
@[simp] theorem rm.eta(p:rm):rm.mk p.name p.kind p.bl p.wt p.lo p.hi=p:=rfl
@[simp] theorem tU.eta(p:tU):tU.mk p.tick p.ka p.idx p.lo p.hi=p:=rfl
@[simp] def rm.enc(m:rm):List D:=[.str m.name,iI m.kind,lF m.bl aO,lF m.wt aO,iI m.lo,iI m.hi]
@[simp] def tU.enc(x:tU):List D:=[iI x.tick,.int .u8 x.ka,iI x.idx,iI x.lo,iI x.hi]
def zX(n:Int):Int->List Int->List Int->Bool
 |last,b::bl,w::wt=>decide (last<b) && (decide (b<n) && (bF w (-1000) 1000 && zX n b bl wt))
 |_,_,_=>true
def E4(f:dF)(kind:Int)(bl wt:List Int):Bool:=bF kind 0 (f.k-1) && (decide (1<=bl.length) && (decide (bl.length=wt.length) && zX f.size (-1) bl wt))
def D9(lo hi:Int):Bool:=decide (-10000000000<=lo) && (decide (lo<=hi) && decide (hi<=10000000000))
def dF.measure(f:dF)(m:rm):Int:=if named m.name then(if E4 f m.kind m.bl m.wt && D9 m.lo m.hi then 0 else 1)else 5
def dF.yH(f:dF)(met:List (List UInt8)):List rm->Int
 |[]=>0
 |m::l=>if f.measure m=0 then(if met.contains m.name then 6 else f.yH (met++[m.name]) l)else f.measure m
def dF.xb(f:dF)(l:List rm):Int:=if 12<l.length then 3 else f.yH [] l
structure Mev(f:dF)(x:rm):Prop where
 name:x.name.length<=16
 kind:0<=x.kind/\x.kind<f.k
 ne:1<=x.bl.length
 len:x.bl.length=x.wt.length
 acz:zX f.size (-1) x.bl x.wt=true
 ends : -10000000000<=x.lo/\x.lo<=x.hi/\x.hi<=10000000000
theorem Mev.of{f:dF}{x:rm}(h:f.measure x=0):Mev f x:=by
 unfold dF.measure at h;split at h
 .rename_i h1;split at h
  .rename_i h2;simp only[E4,D9,ah,aB,aQ]at h2;obtain⟨⟨h3,h4,h5,h6⟩,h7,h8,h9⟩:=h2;simp only[named,ah]at h1;have:=aQ.1 h1.2;exact⟨by omega,by omega,h4,h5,h6,h7,h8,h9⟩
  .cases h
 .cases h
theorem Jc{n:Int}:∀{bl wt:List Int} {last:Int},bl.length=wt.length->zX n last bl wt=true->last<n->(bl.length:Int)<=n-1-last
 |[],wt,last,hl,h,hn=>by simp;omega
 |b::bl,[],last,hl,h,hn=>by simp at hl
 |b::bl,w::wt,last,hl,h,hn=>by
  simp only[zX,ah,aB]at h;obtain⟨h1,h2,h3,h4⟩:=h;have:=Jc (n:=n) (bl:=bl) (wt:=wt) (last:=b) (by simpa using hl) h4 h2;simp only[aE];omega
theorem Md{n:Int}:∀{bl wt:List Int} {last:Int} {i:Nat} {b w:Int},zX n last bl wt=true->bl[i]?=some b->wt[i]?=some w->last<b/\b<n/\(-1000<=w/\w<=1000)
 |[],wt,last,i,b,w,h,hb,hw=>by simp at hb
 |b'::bl,[],last,i,b,w,h,hb,hw=>by simp at hw
 |b'::bl,w'::wt,last,i,b,w,h,hb,hw=>by
  simp only[zX,ah,aB]at h;obtain⟨h1,h2,h3,h4⟩:=h;cases i with
  |zero =>
   simp only[cT,ae]at hb hw;subst hb hw;exact⟨h1,h2,aQ.1 h3⟩
  |succ i =>
   have:=Md h4 (by simpa using hb) (by simpa using hw);omega
def RF(dh:List Int)(off:Int):Int->List Int->List Int->Int
 |acc,b::bl,w::wt=>RF dh off (acc+w*(dh[(off+b).toNat]?).getD 0) bl wt
 |acc,_,_=>acc
def zZ(f:dF)(m:cg)(x:rm):Int:=RF m.dh (x.kind*f.size) 0 x.bl x.wt
def Zi(lo hi s:Int):Int:=if hi<s then s-hi else if s<lo then s-lo else 0
def EO(lo hi s:Int):Int:=max 0 (s-hi)+min 0 (s-lo)
theorem SM{lo hi s:Int}(h:lo<=hi):EO lo hi s=Zi lo hi s:=by
 unfold EO Zi;split
 .omega
 .split<;>omega
def aF.G4(y:aF):Int:=if y.m=0 then 0 else y.h.tdiv y.m
def aF.NS(y:aF)(ka:Int):Int:=if ka=2 then y.m else if ka=3 then y.G4 else y.k
def pN(b:bU)(m:cg)(r:List (List aF)×List (List aF))(x:tU):Int :=
 if x.ka=1 then dA b m ((r.1[x.tick.toNat]?).getD []) x.idx.toNat else aF.NS (aT ((r.2[x.tick.toNat-1]?).getD []) x.idx.toNat) x.ka
def eU(b:bU)(vq:Int)(x:tU):Int :=
 if !bF x.ka 1 4 || (decide (x.lo < -10000000000) || (decide (x.hi<x.lo) || decide (10000000000<x.hi)))then 1
 else if !bF x.tick (if x.ka=1 then 0 else 1) vq || !bF x.idx 0 ((if x.ka=1 then b.size else b.aw.length)-1)then 2 else 0
def vR(b:bU)(vq:Int)(l:List tU):Int:=if 40<l.length then 3 else b8 (eU b vq) l
structure Wx(b:bU)(n:Nat)(x:tU):Prop where
 ka:1<=x.ka/\x.ka<=4
 ends : -10000000000<=x.lo/\x.lo<=x.hi/\x.hi<=10000000000
 p:x.ka=1->(0<=x.tick/\x.tick<=n)/\0<=x.idx/\x.idx<b.size
 y:x.ka≠1->(1<=x.tick/\x.tick<=n)/\0<=x.idx/\x.idx<b.aw.length
theorem Wx.of{b:bU}{n:Nat}{x:tU}(h:eU b n x=0):Wx b n x:=by
 unfold eU at h;by_cases h3:x.ka=1
 .rw[if_pos h3,if_pos h3]at h;split at h
  .cases h
  .rename_i h1;simp only[cn,aB,dV,not_or,Bool.not_eq_false,aQ]at h1;split at h
   .cases h
   .rename_i h2;simp only[cn,dV,not_or,Bool.not_eq_false,aQ]at h2;exact⟨h1.1,by omega,λ_=>by omega,λh=>absurd h3 h⟩
 .rw[if_neg h3,if_neg h3]at h;split at h
  .cases h
  .rename_i h1;simp only[cn,aB,dV,not_or,Bool.not_eq_false,aQ]at h1;split at h
   .cases h
   .rename_i h2;simp only[cn,dV,not_or,Bool.not_eq_false,aQ]at h2;exact⟨h1.1,by omega,λh=>absurd h h3,λ_=>by omega⟩
end Go.Rock
namespace Go.Proofs.YtpapbbojmclkgaaGreatDoor
open Go Go.Abs Go.Rock
variable {J:SK}
theorem ML{f:dF}(h:f.valid=true):Cl 293 [.agg (fL f)] (iI f.size) J:=by
 obtain⟨h1,h2,h3,h4,h5⟩:=dF.n9.1 h;exact Kw h1 h2 h3
theorem X6{f:dF}{bl wt:List Int}(hf:f.valid=true)(hl:bl.length<=9223372036854775807)(hw:bl.length=wt.length):∀(k i:Nat) (last:Int),i+k=bl.length ->
  WL T [3,4,9,30,31,32] false gJ [(3,lF wt aO),(4,.aZ (fL f)),(9,iI last),(30,lF bl aO),(31,iI bl.length),(32,iI i)] J
   (λx e J'=>J'=J/\if zX f.size last (bl.drop i) (wt.drop i)then x=.exit 0 else x=.ret/\get e 8=.bool false)
 |0,i,last,hi=>by
  refine av gJ.eq_1 ?_;have h1:¬i<bl.length:=by omega
  have h2:bl.drop i=[]:=an (by omega);simp[h1,h2,zX]
 |k+1,i,last,hi=>by
  refine av gJ.eq_1 ?_;have⟨h1,h1'⟩:i<bl.length/\i<wt.length:=by omega
  obtain⟨b,hb⟩:=gE h1;obtain⟨w,hw'⟩:∃r,wt[i]?=some r:=⟨_,aK h1'⟩;have h2:=gw hb;have h3:=gw hw';have h4:=bO h1 hl;have h5:=bz hb;have h6:=bz hw';have hB:=λJ=>ML (J:=J) hf
  have ih:=X6 hf hl hw k (i+1) b (by omega);rw[h5,h6,zX];by_cases c1:b<=last
  .simp[h1,h2,c1,show ¬last<b by omega]
  .by_cases c2:f.size<=b
   .simp[h1,h2,hB,c1,c2,show last<b by omega,show ¬b<f.size by omega]
   .cases c3:bF w (-1000) 1000
    .simp[h1,h1',h2,h3,hB,jd,c1,c2,c3,show last<b by omega,show b<f.size by omega]
    .simp[h1,h1',h2,h3,h4,hB,jd,c1,c2,c3,show last<b by omega,show b<f.size by omega];exact WL.to ih (by simp) rfl λx e J hh=>by simpa[show last<b by omega,show b<f.size by omega]using hh
theorem aeC{f:dF}{k:Int}{bl wt:List Int}(hf:f.valid=true)(hl:bl.length<=9223372036854775807)(hk:f.valid=true->True):
  Cl 297 [.agg (fL f),iI k,lF bl aO,lF wt aO] (.bool (E4 f k bl wt)) J:=by
 refine ar ?_;obtain⟨q1,q2,q3,q4,q5⟩:=dF.n9.1 hf;have w1:=cm (n:=f.k-1);unfold E4;cases c1:bF k 0 (f.k-1)
 .simp[jd,w1,c1]
 by_cases c2:1<=bl.length
 rotate_left
 .have:bl=[]:=bw.1 (by omega);subst this;simp[jd,w1,c1]
 have c2':¬(bl.length:Int)<1:=by omega
 have c2'':¬bl=[]:=λh=>by rw[h]at c2;simp at c2
 by_cases c3:bl.length=wt.length
 rotate_left
 .simp[jd,w1,c1,c2',c3,show ¬(bl.length:Int)=wt.length by omega]
 have c4:¬(wt.length:Int)<1:=by omega
 have c5:¬wt=[]:=λh=>by rw[h]at c3;simp at c3;exact c2'' c3
 simp[jd,w1,c1,c3,c4];refine WL.to (X6 (J:=[]::J) hf hl c3 bl.length 0 (-1) (by omega)) (by simp[c3]) rfl ?_;rintro x e J' ⟨rfl,h⟩;simp only[aC]at h;cases hc:zX f.size (-1) bl wt
 .simp[hc]at h;simp[h]
 .simp[hc]at h;simp[h];omega
theorem aaK{lo hi:Int}:Cl 298 [.agg [iI lo,iI hi]] (.bool (D9 lo hi)) J:=by
 refine ar ?_;unfold D9;by_cases c1 : -10000000000<=lo
 .by_cases c2:lo<=hi<;>simp[c1,c2]
 .simp[c1]
theorem MQ{f:dF}{m:rm}(hf:f.valid=true)(hn:m.name.length<=1000000000)(hl:m.bl.length<=9223372036854775807):
  Cl 243 [.agg (fL f),.agg m.enc] (iI (f.measure m)) J:=by
 refine ar ?_;have h1:=λJ=>J6 (J:=J) hn
 have h2:=λJ=>aeC (J:=J) (k:=m.kind) (wt:=m.wt) hf hl (λ_=>trivial)
 unfold dF.measure;cases c1:named m.name
 .simp[h1,c1]
 cases c2:E4 f m.kind m.bl m.wt
 .simp[h1,h2,c1,c2]
 cases c3:D9 m.lo m.hi<;>simp[h1,h2,aaK,c1,c2,c3]
theorem ahT{f:dF}{m:rm}(hf:f.valid=true)(hn:m.name.length<=1000000000)(hl:m.bl.length<=9223372036854775807):
  Cl 291 [.agg m.enc,.aZ (fL f)] (.cQ [.str m.name,iI (f.measure m)]) J:=by
 refine ar ?_;have h:=λJ=>MQ (J:=J) hf hn hl
 simp only[rm.enc]at h ⊢;simp[h]
theorem Kj{l:List rm}{j:Nat}{m:rm}(h:l[j]?=some m):((fM l rm.enc).drop (j*6)).take 6=m.enc :=
 aP (f:=rm.enc) (w:=6) (λ_=>rfl) h
def S6(l:List rm):Prop:=∀m∈l,m.name.length<=1000000000/\m.bl.length<=9223372036854775807
theorem TQ{f:dF}{l:List rm}(hf:f.valid=true)(hs:S6 l)(hl:l.length<=1000000000):∀(k i:Nat) (met:List (List UInt8)),i+k=l.length ->
  WL T [1,5,11,12,13] false dT [(1,.fn 291 [] [.aZ (fL f)]),(5,.j5 J.length 0),(11,lF l rm.enc),(12,iI l.length),(13,iI i)] ([.cells 0 (FI met)]::J)
   (λx e J'=>∃s,J'=s::J/\if f.yH met (l.drop i)=0 then x=.exit 0 else x=.ret/\get e 4=iI (f.yH met (l.drop i)))
 |0,i,met,hi=>by
  refine av dT.eq_1 ?_;have h1:¬i<l.length:=by omega
  have h2:l.drop i=[]:=an (by omega);simp[h1,h2,dF.yH]
 |k+1,i,met,hi=>by
  refine av dT.eq_1 ?_;have h1:i<l.length:=by omega
  obtain⟨m,hm⟩:=gE h1;have h2:=Kj hm;have h4:=bO h1;have h5:=bz hm;obtain⟨hs1,hs2⟩:=hs m (ai hm);have hC:=λJ=>ahT (J:=J) hf hs1 hs2
  simp only[rm.enc]at h2 hC;rw[h5,dF.yH];by_cases hc1:f.measure m=0
  .have hg:=adB (S:=[.cells 0 (FI met)]::J) (l:=J.length) (i:=0) (met:=met) (k:=m.name) (by simp);cases hc2:met.contains m.name
   .rw[hc2]at hg;have hp:=adC (S:=[.cells 0 (FI met)]::J) (l:=J.length) (i:=0) (met:=met) (k:=m.name) (by simp) hc2;have ih:=TQ hf hs hl k (i+1) (met++[m.name]) (by omega);simp at hp;have hc3:¬m.name∈met:=by simpa using hc2
    simp[h1,h2,h4,hC,hc1,hg,hp];exact WL.to ih (by simp) (by simp) λx e J' hh=>by simpa[hc1]using hh
   .rw[hc2]at hg;have hc3:m.name∈met:=by simpa using hc2
    simp[h1,h2,hC,hc1,hg]
  .simp[h1,h2,hC,hc1]
theorem aaI{f:dF}{l:List rm}(hf:f.valid=true)(hs:S6 l)(hl:l.length<=1000000000):
  Cl 290 [lF l rm.enc,.fn 291 [] [.aZ (fL f)]] (iI (f.yH [] l)) J:=by
 refine ar ?_;have hm:DT ([]::J) .make []=some (.j5 J.length 0,[.cells 0 (FI [])]::J):=by simp[DT,FI]
 simp[hm];refine WL.to (TQ (J:=J) hf hs hl l.length 0 [] (by omega)) (by simp) (by simp) ?_;rintro x e J' ⟨s,rfl,h⟩;simp only[aC]at h;by_cases hc:f.yH [] l=0
 .rw[if_pos hc]at h;subst h;simp[hc]
 .rw[if_neg hc]at h;obtain⟨rfl,h⟩:=h;simp[h]
theorem R4{f:dF}{l:List rm}(hf:f.valid=true)(hs:S6 l)(hl:l.length<=1000000000):
  Cl 239 [.agg (fL f),lF l rm.enc] (iI (f.xb l)) J:=by
 refine ar ?_;unfold dF.xb;by_cases hc:12<l.length
 .simp[hc,show(12:Int)<l.length by omega]
 .simp[hc,show ¬(12:Int)<l.length by omega,aaI hf hs hl]
structure Fm(f:dF)(m:cg):Prop where
 fv:f.valid=true
 len:(m.dh.length:Int)=f.k*f.size
 ok:∀v∈m.dh,-100000<=v/\v<=100000
theorem Fm.of{f:dF}{m:cg}(hf:f.valid=true)(h:f.model m=0):Fm f m:=by
 unfold dF.model at h;split at h
 .split at h
  .rename_i h1;exact⟨hf,h1.1,λv hv=>aQ.1 (eQ.1 h1.2 v hv)⟩
  .cases h
 .cases h
theorem SN{a b A B:Int}(ha : -A<=a/\a<=A)(hb : -B<=b/\b<=B)(hA:0<=A) : -(A*B)<=a*b/\a*b<=A*B:=by
 have key:∀x:Int,0<=x->x<=A -> -(A*B)<=x*b/\x*b<=A*B:=by
  intro x h0 h1;have e1:x*b<=x*B:=Int.mul_le_mul_of_nonneg_left hb.2 h0;have e2:x*(-B)<=x*b:=Int.mul_le_mul_of_nonneg_left hb.1 h0;have e3:x*B<=A*B:=dS h1 (by omega);rw[Int.mul_neg]at e2;omega
 rcases eV 0 a with h | h
 .exact key a h ha.2
 .have:=key (-a) (by omega) (by omega);rw[Int.neg_mul]at this;omega
theorem akR{f:dF}{m:cg}{x:rm}(hm:Fm f m)(hx:Mev f x):∀(k i:Nat) (acc:Int),i+k=x.bl.length -> -(i*100000000)<=acc/\acc<=i*100000000 ->
  WL T [2,3,4,8,9,10] false kb [(2,.aZ [iI f.x,iI f.y,iI f.z,iI f.k,iI x.kind,lF x.bl aO,lF x.wt aO]),(3,.aZ (mL m)),(4,iI acc),(8,lF x.bl aO),(9,iI x.bl.length),(10,iI i)] J
   (λx' e J'=>J'=J/\x'=.exit 0/\get e 4=iI (RF m.dh (x.kind*f.size) acc (x.bl.drop i) (x.wt.drop i))):=by
 intro k;induction k with
 |zero =>
  intro i acc hi ha;refine av kb.eq_1 ?_;have h1:¬i<x.bl.length:=by omega
  have h2:x.bl.drop i=[]:=an (by omega);simp[h1,h2,RF]
 |succ k ih0 =>
  intro i acc hi ha;refine av kb.eq_1 ?_;have h1:i<x.bl.length:=by omega
  have hlen:=hx.len;have h1':i<x.wt.length:=by omega
  obtain⟨b,hb⟩:=gE h1;obtain⟨w,hw⟩:=gE h1';obtain⟨q1,q2⟩:=Cs hm.fv;obtain⟨z1,z2,z3,z4,z5⟩:=dF.n9.1 hm.fv;obtain⟨s1,s2,s3⟩:=Md hx.acz hb hw;have hl64:=Jc hx.len hx.acz (by omega);have h4:=bO h1;have h5:=bz hb;have h6:=bz hw;have h2:=gw hb;have h3:=gw hw;have k1:=hx.kind;have k2:0<=x.kind*f.size/\x.kind*f.size+f.size<=f.k*f.size:=by
   refine⟨bB k1.1 (by omega),?_⟩;have:=dS (show x.kind+1<=f.k by omega) (show 0<=f.size by omega);rw[Int.add_mul]at this;omega
  have hvl:=hm.len;obtain⟨j,hj⟩:∃j:Nat,x.kind*f.size+b=j:=⟨(x.kind*f.size+b).toNat,by omega⟩;have hj1:j<m.dh.length:=by omega
  obtain⟨v,hv⟩:=gE hj1;have hvb:=hm.ok v (ai hv);have h7:=gw hv;have hB:=λJ=>ML (J:=J) hm.fv
  have b1:=SN (a:=w) (b:=v) (A:=1000) (B:=100000) (by omega) hvb (by omega);have w1:=cm (n:=x.kind*f.size);have w2:=cm (n:=(j:Int));have w3:=cm (n:=w*v);have w4:=cm (n:=acc+w*v);have ih:=ih0 (i+1) (acc+w*v) (by omega) (by omega);rw[h5,h6,RF,hj];simp only[Int.toNat_natCast];simp[h1,h1',h2,h3,h4,hB,w1,w2,w3,w4,hj,hj1,h7];exact WL.to ih (by simp) rfl λx e J hh=>by simpa[hv]using hh
theorem abb{f:dF}{m:cg}{x:rm}(hm:Fm f m)(hx:Mev f x):Cl 299 [.agg [iI f.x,iI f.y,iI f.z,iI f.k,iI x.kind,lF x.bl aO,lF x.wt aO],.agg (mL m)] (iI (zZ f m x)) J:=by
 refine ar ?_;simp;refine WL.to (akR (J:=[]::J) hm hx x.bl.length 0 0 (by omega) (by simp)) (by simp) rfl ?_;rintro x' e J' ⟨rfl,rfl,g⟩;simp[g,zZ]
theorem XH{f:dF}{x:rm}:Cl 244 [.agg (fL f),.agg x.enc] (.fn 299 [.agg [iI f.x,iI f.y,iI f.z,iI f.k,iI x.kind,lF x.bl aO,lF x.wt aO]] []) J:=by
 refine ar ?_;simp[D.clean,kR]
end Go.Proofs.YtpapbbojmclkgaaGreatDoor
namespace Go.Book
open Go Go.Abs Go.Rock
def si(f:dF)(x:rm):Int:=if f.valid=true then f.measure x else 1
def tS(p:Int×Int):List D:=[iI p.1,iI p.2]
def eM(nm:List UInt8)(k lo hi:Int)(ps:List (Int×Int)):rm:=⟨nm,k,ps.map (·.1),ps.map (·.2),lo,hi⟩
end Go.Book
namespace Go.Proofs.YtpapbbojmclkgaaGreatDoor
open Go Go.Abs Go.Rock Go.Book
variable {J:SK}
theorem Pm{f:dF}{x:rm}(hf:f.valid=true)(hn:x.name.length<=1000000000)(hl:x.bl.length<=1000000000):
  Cl 238 [.aZ (fL f),.aZ [.bZ 1 x.enc]] (iI (f.measure x)) J:=by
 refine ar ?_;have h:=λJ=>R4 (J:=J) (f:=f) (l:=[x]) hf (by intro m hm;simp at hm;subst hm;exact⟨hn,by omega⟩) (by simp)
 try simp only[lF,Cl,fL]at h
 have he:f.xb [x]=f.measure x:=by
  simp only[dF.xb,dF.yH];by_cases h:f.measure x=0<;>simp[h]
 rw[he]at h;simp only[List.length_singleton,di,ot,cM]at h;simp only[lF,rm.enc]at h ⊢;simp[h]
theorem Jh{f:dF}{x:rm}(hn:x.name.length<=1000000000)(hl:x.bl.length<=1000000000):
  Cl 207 [.agg (fL f),.bZ 1 x.enc] (iI (si f x)) J:=by
 refine ar ?_;have hC:=λJ=>NY (J:=J) (fs:=[.fn 232 [.agg (fL f)] [],.fn 238 [] [.aZ (fL f),.aZ [.bZ 1 x.enc]]]) (es:=[f.shape,f.measure x]) rfl (by simp) (by simp) (by
  intro i d n hd hn' h0 J;match i with
  |0 =>
   simp at hd hn';subst hd hn';simp[J7]
  |1 =>
   simp only[List.getElem?_cons_succ,cT,ae]at hd hn';subst hd hn';have h1:f.valid=true:=by
    have:=h0 0 (by omega);simp[dF.shape]at this;exact this
   have hh:=Pm (J:=J) h1 hn hl;rw[pS];have h':dt T (.call false 238 ([]++[]++[.aZ (fL f),.aZ [.bZ 1 x.enc]]) J)=_:=hh;rw[h'];rfl
  |i+2=>simp at hd)
 have e1:b8 id [f.shape,f.measure x]=si f x:=by
  simp only[b8,id,si,dF.shape];by_cases h:f.valid=true
  .by_cases h2:f.measure x=0<;>simp[h,h2]
  .simp[h]
 rw[e1]at hC;simp only[rm.enc,aE,bd]at hC ⊢;simp[hC]
theorem aeg{f:dF}{m:cg}(hf:f.valid=true)(hn:m.name.length<=1000000000)(hl:m.dh.length<=1000000000):
  Cl 240 [.aZ (fL f),.aZ (mL m)] (iI (f.model m)) J:=by
 refine ar ?_;simp[Tx hf hn hl]
theorem aeh{f:dF}{x:rm}(hf:f.valid=true)(hn:x.name.length<=1000000000)(hl:x.bl.length<=1000000000):
  Cl 242 [.aZ (fL f),.aZ x.enc] (iI (f.measure x)) J:=by
 refine ar ?_;have h:=λJ=>MQ (J:=J) (f:=f) (m:=x) hf hn (by omega)
 simp only[rm.enc]at h ⊢;simp[h]
theorem ad6{f:dF}{m:cg}{x:rm}(hf:f.valid=true)(hm:f.model m=0)(hx:f.measure x=0)(hn:m.name.length<=1000000000)(hl:m.dh.length<=1000000000)(hn2:x.name.length<=1000000000)(hl2:x.bl.length<=1000000000):
  Cl 210 [.agg (fL f),.agg (mL m),.agg x.enc] (.cQ [iI (zZ f m x),iI 0]) J:=by
 refine ar ?_;have hC:=λJ=>NY (J:=J) (fs:=[.fn 232 [.agg (fL f)] [],.fn 240 [] [.aZ (fL f),.aZ (mL m)],.fn 242 [] [.aZ (fL f),.aZ x.enc]]) (es:=[f.shape,f.model m,f.measure x]) rfl (by simp) (by simp) (by
  intro i d n hd hn' h0 J;match i with
  |0 =>
   simp at hd hn';subst hd hn';simp[J7]
  |1 =>
   simp at hd hn';subst hd hn';simp[aeg hf hn hl]
  |2 =>
   simp only[List.getElem?_cons_succ,cT,ae]at hd hn';subst hd hn';have hh:=aeh (J:=J) hf hn2 hl2;rw[pS];have h':dt T (.call false 242 ([]++[]++[.aZ (fL f),.aZ x.enc]) J)=_:=hh;rw[h'];rfl
  |i+3=>simp at hd)
 have e1:b8 id [f.shape,f.model m,f.measure x]=0:=by simp[b8,dF.shape,hf,hm,hx]
 rw[e1]at hC;have hW:=λJ=>XH (J:=J) (f:=f) (x:=x)
 have hS:=λJ=>abb (J:=J) (Fm.of hf hm) (Mev.of hx)
 simp only[rm.enc,aE,bd]at hC hW ⊢;simp[hC,hW,hS]
theorem UH(l:List (Int×Int)):(fM l tS).length=l.length*2:=bQ (f:=tS) (w:=2) (λ_=>rfl) l
theorem qY(l:List Int):(fM l aO).length=l.length:=by have:=bQ (f:=aO) (w:=1) (λ_=>rfl) l;omega
def OE(L:Nat)(nm:List UInt8)(k lo hi:Int)(ps:List (Int×Int)):List Abs.aF :=
 [.cells 0 [.str nm,iI k,.sl L 1 ps.length 0 ps.length 1,.sl L 2 ps.length 0 ps.length 1,iI lo,iI hi],.cells ps.length (fM (ps.map (·.1)) aO),.cells ps.length (fM (ps.map (·.2)) aO)]
theorem N2{ps:List (Int×Int)}(hps:ps.length<=1000000){X Y:D}(hx:X.calm=X)(hy:Y.calm=Y){nm:List UInt8}{k lo hi:Int}:∀(m j:Nat),j+m=ps.length ->
  WL T [2,3,6,30,31,32] false fa [(2,X),(3,Y),(6,.ref J.length 0 0 0),(30,.bZ (ps.length*2) (fM ps tS)),(31,.int .i64 (ps.length*2)),(32,.int .i64 (j*2))] (OE J.length nm k lo hi (ps.take j)::J)
   (λx e J'=>x=.exit 0/\get e 2=X/\get e 3=Y/\get e 6=.ref J.length 0 0 0/\get e 1000006=.undef/\J'=OE J.length nm k lo hi ps::J)
 |0,j,h=>by
  refine av fa.eq_1 ?_;have h1:¬j<ps.length:=by omega
  have h2:ps.take j=ps:=af (by omega);simp[-List.map_take,h1,hx,hy,h2]
 |m+1,j,h=>by
  refine av fa.eq_1 ?_;have⟨h1,h2,h3,h0,h0'⟩:j<ps.length/\(j:Int)*2<(ps.length:Int)*2/\(j:Int)*2+1<(ps.length:Int)*2/\0<=(j:Int)*2/\0<=(j:Int)*2+1:=by omega
  obtain⟨p,hp⟩:=gE h1;have hd:=re (f:=tS) (w:=2) (λ_=>rfl) hp;have hd2:(fM ps tS).drop (j*2+1)=.int .i64 p.2::(fM ps tS).drop (j*2+2):=by
   have:=congrArg (List.drop 1) hd;simpa[rC,tS,dn]using this
  have hd1:(fM ps tS).drop (j*2)=.int .i64 p.1::.int .i64 p.2::(fM ps tS).drop (j*2+2):=by simpa[rC,tS]using hd
  have⟨t1,t2⟩:((j:Int)*2).toNat=j*2/\((j:Int)*2+1).toNat=j*2+1:=by omega
  have w1:=cm (n:=(j:Int)*2+1);have w2:=cm (n:=(j:Int)*2+1+1);have m1:((j:Int)*2).tmod 2=0:=by rw[Int.tmod_eq_emod_of_nonneg (by omega)];omega
  have m2:((j:Int)*2+1).tmod 2=1:=by rw[Int.tmod_eq_emod_of_nonneg (by omega)];omega
  have hl:(ps.take j).length=j:=by simp[];omega
  have hr:(j+1)*8<=room:=by unfold room;omega
  have ha:=qY ((ps.take j).map (·.1));have hb:=qY ((ps.take j).map (·.2));simp only[bH,hl]at ha hb;have ta:(fM ((ps.take j).map (·.1)) aO).take j=fM ((ps.take j).map (·.1)) aO:=af (by omega);have tb:(fM ((ps.take j).map (·.2)) aO).take j=fM ((ps.take j).map (·.2)) aO:=af (by omega);have ih:=N2 hps hx hy (nm:=nm) (k:=k) (lo:=lo) (hi:=hi) m (j+1) (by omega);have htk:ps.take (j+1)=ps.take j++[p]:=by rw[List.take_add_one,hp];rfl
  rw[htk]at ih;have hj1:((j+1:Nat):Int)*2=(j:Int)*2+1+1:=by omega
  rw[hj1]at ih;simp[-List.map_take,hx,hy,OE,hl,h0,h1,t1,hd1,w1,m1,hr,ha,ta];refine av fa.eq_1 ?_;simp[-List.map_take,hx,hy,h0',h3,t2,hd2,w2,m2,hr,hb,tb];refine WL.to ih (by simp[]) (by simp[OE,hl]) λx e J' hh=>by simpa[rC,OE]using hh
theorem aeo{A F:List Abs.aF}{b:Bk}{er:List Int}{m:cg}{x:rm}(hf:b.aR.f.valid=true)(hm:b.aR.f.model m=0)(hx:b.aR.f.measure x=0)(hn:m.name.length<=1000000000)(hl:m.dh.length<=1000000000)(hn2:x.name.length<=1000000000)(hl2:x.bl.length<=1000000000):
  Cl 209 [.agg (mL m),.aZ [.ref J.length 6 0 0],.aZ x.enc] (iI (zZ b.aR.f m x)) ([]::A::F::b.bD J.length er::J):=by
 refine ar ?_;have hS:=λJ=>ad6 (J:=J) hf hm hx hn hl hn2 hl2
 simp only[rm.enc]at hS ⊢;simp[Bk.bD,Bk.cells,hS]
theorem Yw{x:rm}:D.aW x.enc=true:=by simp[rm.enc,kR]
theorem Um{S:SK}{L:Nat}(hS:S.length=L)(hL:0<L){nm:List UInt8}{k lo hi:Int}{ps:List (Int×Int)}:
  HK L 0 0 (OE L nm k lo hi ps::S)=(.aZ (eM nm k lo hi ps).enc,[.dead,.dead,.dead]::S):=by
 have hne:S≠[]:=by intro h;subst h;simp at hS;omega
 have h1:=pM (f:=aO) (w:=1) (λ_=>rfl) (λ_=>by simp[D.clean]) (l:=ps.map (·.1)) (j:=1) (v:=ps.length) (bs:=[.dead,.cells ps.length (fM (ps.map (·.1)) aO),.cells ps.length (fM (ps.map (·.2)) aO)]) (J:=S) hne (by simp);have h2:=pM (f:=aO) (w:=1) (λ_=>rfl) (λ_=>by simp[D.clean]) (l:=ps.map (·.2)) (j:=2) (v:=ps.length) (bs:=[.dead,.dead,.cells ps.length (fM (ps.map (·.2)) aO)]) (J:=S) hne (by simp);rw[hS]at h1 h2;simp only[bH,List.set_cons_succ,List.set_cons_zero]at h1 h2;simp[HK,OE,hS,h1,h2,eM]
def DF(b:Bk)(x:rm):Bk×Int:=if b.aj=[]then(b,8)else if si b.aR.f x=0 then(ig b x.lo x.hi λm=>zZ b.aR.f m x,0)else(b,si b.aR.f x)
theorem aep{F:List Abs.aF}{b:Bk}{er:List Int}{nm:List UInt8}{k lo hi:Int}{ps:List (Int×Int)}{b':Bk}{e:Int}(hps:ps.length<=1000000)(hnm:nm.length<=1000000000)(hw:b.eg.length=b.aj.length)(hml:b.aj.length<=40)(hms:∀e∈b.aj,b.aR.f.model e.m=0/\e.m.name.length<=1000000000/\e.m.dh.length<=1000000000)(hd:DF b (eM nm k lo hi ps)=(b',e))(he:e=0):
  dt T (.call false 165 [.ref J.length 6 0 0,.str nm,.bZ (ps.length*2+3) (iI k::iI lo::iI hi::fM ps tS)] (F::b.bD J.length er::J))=some (.val (.cQ []) (F::b'.bD J.length er::J)):=by
 refine fA rfl rfl rfl (by simp) ?_;unfold DF at hd;split at hd
 case isTrue=>cases hd;cases he
 rename_i hne;split at hd
 case isFalse=>cases hd;rename_i h;exact absurd he h
 rename_i hck;cases hd;have⟨q0,q1,q2,q3⟩:(0:Int)<(ps.length:Int)*2+3/\(1:Int)<(ps.length:Int)*2+3/\(2:Int)<(ps.length:Int)*2+3/\(3:Int)<=(ps.length:Int)*2+3:=by omega
 have c1:0<b.aj.length:=aH.2 hne;have hC:=λJ=>Jh (J:=J) (f:=b.aR.f) (x:=eM nm k lo hi ps) hnm (by simp[eM];omega)
 simp only[hck]at hC;have hv:b.aR.f.valid=true/\b.aR.f.measure (eM nm k lo hi ps)=0:=by
  unfold si at hck;split at hck
  .rename_i h;exact⟨h,hck⟩
  .cases hck
 have hlp:=UH ps;have htp:(fM ps tS).take (ps.length*2)=fM ps tS:=af (by omega);have hL:=N2 (J:=F::b.bD J.length er::J) hps (X:=.bZ (ps.length*2+3) (iI k::iI lo::iI hi::fM ps tS)) (Y:=.aZ [.ref J.length 6 0 0]) rfl rfl (nm:=nm) (k:=k) (lo:=lo) (hi:=hi) ps.length 0 (by omega);simp[Bk.bD,Bk.cells,c1,cV,q0,q1,q2,q3];refine WL.to hL (by simp[htp]) (by simp[OE,Bk.bD,Bk.cells]) ?_;rintro x e J' ⟨rfl,g2,g3,g6,gu,rfl⟩;have hf:=λS hS=>Um (S:=S) (L:=J.length+1+1) hS (by omega) (nm:=nm) (k:=k) (lo:=lo) (hi:=hi) (ps:=ps)
 have hst:=PK (J:=J) (A:=[.dead,.dead,.dead]) (F:=F) (b:=b) (er:=er) (lo:=lo) (hi:=hi) (val:=λm=>zZ b.aR.f m (eM nm k lo hi ps)) (fv:=.fn 209 [] [.aZ [.ref J.length 6 0 0],.aZ (eM nm k lo hi ps).enc]) rfl rfl hw hml (by
  intro i e he _;obtain⟨k1,k2,k3⟩:=hms e he;have h:=aeo (J:=J) (A:=[.dead,.dead,.dead]) (F:=F) (er:=er) (b:=b.gF lo hi (λm=>zZ b.aR.f m (eM nm k lo hi ps)) i) (m:=e.m) (x:=eM nm k lo hi ps) hv.1 k1 hv.2 k2 k3 hnm (by simp[eM];omega);rw[pS];have h':dt T (.call false 209 ([]++[.agg (mL e.m)]++[.aZ [.ref J.length 6 0 0],.aZ (eM nm k lo hi ps).enc]) ([]::[.dead,.dead,.dead]::F::(b.gF lo hi (λm=>zZ b.aR.f m (eM nm k lo hi ps)) i).bD J.length er::J))=_:=h;rw[h'];rfl)
 have hcl:=Yw (x:=eM nm k lo hi ps);have e1:(eM nm k lo hi ps).lo=lo:=aJ rfl;have e2:(eM nm k lo hi ps).hi=hi:=aJ rfl;simp only[Bk.bD,Bk.cells,rm.enc,e1,e2]at hst hC hf hcl;simp[g2,g3,g6,gu,hf,hC,oo,hst,q1,q2,Bk.bD,Bk.cells,e1,e2]
theorem aaS{F:List Abs.aF}{b:Bk}{er:List Int}{nm:List UInt8}{k lo hi:Int}{ps:List (Int×Int)}{b':Bk}{e:Int}(hps:ps.length<=1000000)(hnm:nm.length<=1000000000)(hd:DF b (eM nm k lo hi ps)=(b',e))(he:e≠0):
  dt T (.call false 165 [.ref J.length 6 0 0,.str nm,.bZ (ps.length*2+3) (iI k::iI lo::iI hi::fM ps tS)] (F::b.bD J.length er::J))=some (.fw (rf e) (F::b.bD J.length er::J)):=by
 refine dZ rfl rfl rfl ?_;unfold DF at hd;split at hd
 case isTrue hne =>
  cases hd;simp[Bk.bD,Bk.cells,hne,dN,D.clean,rf]
 rename_i hne;split at hd
 case isTrue=>cases hd;exact absurd rfl he
 rename_i hck;cases hd;have⟨q0,q1,q2,q3⟩:(0:Int)<(ps.length:Int)*2+3/\(1:Int)<(ps.length:Int)*2+3/\(2:Int)<(ps.length:Int)*2+3/\(3:Int)<=(ps.length:Int)*2+3:=by omega
 have c1:0<b.aj.length:=aH.2 hne;have hC:=λJ=>Jh (J:=J) (f:=b.aR.f) (x:=eM nm k lo hi ps) hnm (by simp[eM];omega)
 have hM:=λJ=>pw (J:=J) hck
 generalize si b.aR.f (eM nm k lo hi ps)=err at hC hM hck he ⊢;have hrc:(D.uJ 200 (.agg [iI err])).clean=true:=rfl;have hlp:=UH ps;have htp:(fM ps tS).take (ps.length*2)=fM ps tS:=af (by omega);have hL:=N2 (J:=F::b.bD J.length er::J) hps (X:=.bZ (ps.length*2+3) (iI k::iI lo::iI hi::fM ps tS)) (Y:=.aZ [.ref J.length 6 0 0]) rfl rfl (nm:=nm) (k:=k) (lo:=lo) (hi:=hi) ps.length 0 (by omega);simp[Bk.bD,Bk.cells,c1,cV,q0,q1,q2,q3];refine WL.to hL (by simp[htp]) (by simp[OE,Bk.bD,Bk.cells]) ?_;rintro x e J' ⟨rfl,g2,g3,g6,gu,rfl⟩;have hf:=λS hS=>Um (S:=S) (L:=J.length+1+1) hS (by omega) (nm:=nm) (k:=k) (lo:=lo) (hi:=hi) (ps:=ps)
 have hcl:=Yw (x:=eM nm k lo hi ps);simp only[rm.enc]at hC hf hcl;simp[g3,g6,gu,hf,hC,hM,Bk.bD,Bk.cells,rf,hrc]
end Go.Proofs.YtpapbbojmclkgaaGreatDoor
namespace Go.Book
open Go Go.Abs Go.Rock
def cj(l:List dU):List dU:=l.filter (·.left)
end Go.Book
namespace Go.Proofs.YtpapbbojmclkgaaGreatDoor
open Go Go.Abs Go.Rock Go.Book
variable {J:SK}
theorem aaQ{e:dU}:Cl 249 [.agg e.enc] (.bool e.left) J:=by
 refine ar ?_;simp
theorem KF{l:List dU}{lv bi v:Nat}{G:List Abs.aF}(hG:G[bi]?=some (.cells v (fM l dU.enc)))(hs:eT J lv=some G)(hl:l.length<=1000000):∀(m i:Nat) (acc:List dU),i+m=l.length->acc.length<=i ->
  WL T [1,4,7,8,9] false dz [(1,.fn 249 [] []),(4,.sl J.length 0 acc.length 0 acc.length 4),(7,.sl lv bi v 0 l.length 4),(8,iI l.length),(9,iI i)] ([.cells acc.length (fM acc dU.enc)]::J)
   (λx e J'=>x=.exit 0/\get e 4=.sl J.length 0 (acc++cj (l.drop i)).length 0 (acc++cj (l.drop i)).length 4/\J'=[.cells (acc++cj (l.drop i)).length (fM (acc++cj (l.drop i)) dU.enc)]::J)
 |0,i,acc,hi,ha=>by
  refine av dz.eq_1 ?_;have h1:¬i<l.length:=by omega
  have h2:l.drop i=[]:=an (by omega);simp[h1,h2,cj]
 |m+1,i,acc,hi,ha=>by
  refine av dz.eq_1 ?_;have h1:i<l.length:=by omega
  obtain⟨e,he⟩:=gE h1;have hfl:=aP (f:=dU.enc) (w:=4) (λ_=>rfl) he;have hd:=bz he;have h4:=bO h1;have hlen:=yn l;have q:4<=l.length*4-i*4:=by omega
  have hlt:=zT hs;have hlv:¬J.length=lv:=by omega
  have hC:=λJ=>aaQ (J:=J) (e:=e)
  simp only[dU.enc]at hC;cases hc:e.left with
  |false =>
   rw[hc]at hC;have ih:=KF hG hs hl m (i+1) acc (by omega) (by omega);simp[h1,hs,hG,hlv,hfl,hlen,q,h4,hC,hc];exact WL.to ih (by simp) rfl λx e' J' hh=>by rw[hd];simpa[cj,hc]using hh
  |true =>
   rw[hc]at hC;have ih:=KF hG hs hl m (i+1) (acc++[e]) (by omega) (by simp;omega);have hr:(acc.length+1)*56<=room:=by unfold room;omega
   have hal:=yn acc;have hat:(fM acc dU.enc).take (acc.length*4)=fM acc dU.enc:=af (by omega);simp[h1,hs,hG,hlv,hfl,hlen,q,h4,hC,hc,hr,hal,hat];exact WL.to ih (by simp) (by simp[hc]) λx e' J' hh=>by rw[hd];simpa[cj,hc]using hh
theorem W9{l:List dU}{lv bi v:Nat}{G:List Abs.aF}(hG:G[bi]?=some (.cells v (fM l dU.enc)))(hs:eT J lv=some G)(hl:l.length<=1000000)(hJ:J≠[]):
  Cl 248 [.sl lv bi v 0 l.length 4,.fn 249 [] []] (lF (cj l) dU.enc) J:=by
 refine ar ?_;have h:=KF (J:=J) hG hs hl l.length 0 [] (by omega) (by simp);simp only[List.nil_append]at h;simp;refine WL.to h (by simp) (by simp) ?_;rintro x e J' ⟨rfl,g4,rfl⟩;have hk:=Go.Abs.gG (f:=dU.enc) (w:=4) (λ_=>rfl) (λ_=>by simp[D.clean,kR]) (l:=cj l) (j:=0) (v:=(cj l).length) (bs:=[.cells (cj l).length (fM (cj l) dU.enc)]) (J:=J) hJ (by simp);rw[aC]at g4 ⊢;simp[g4,hk]
theorem Is{b:Bk}{er:List Int}{S:SK}(hl:b.aj.length<=1000000)(hs:eT S J.length=some (b.bD J.length er)):
  Cl 212 [.ref J.length 6 0 0] (lF (cj b.aj) dU.enc) S:=by
 refine ar ?_;have hlt:=zT hs;have hne:¬S.length=J.length:=by omega
 have h:=W9 (J:=[]::S) (l:=b.aj) (lv:=J.length) (bi:=0) (v:=b.aj.length) (G:=b.bD J.length er) (by simp[Bk.bD]) (by simp[eT,hne,hs]) hl (by simp);have hcl:D.aW (fM (cj b.aj) dU.enc)=true:=ef (λ_=>by simp[D.clean,kR]) _;have hc6:(b.bD J.length er)[6]?=some (.cells 0 (b.cells J.length)):=by simp[Bk.bD]
 simp[hne,hs,hc6,Bk.cells,h,hcl]
end Go.Proofs.YtpapbbojmclkgaaGreatDoor
