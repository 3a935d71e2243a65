import Derived.Test.YtpapbbojmclkgaaGreatDoorTxt3
import Derived.Test.YtpapbbojmclkgaaGreatDoorTxt2
set_option linter.all false
set_option maxRecDepth 100000
namespace Go.Proofs.YtpapbbojmclkgaaGreatDoor
open Go Go.Abs Go.Rock Go.Book
variable {J:SK}
@[simp] theorem aiH{α:Type}{f:α->List D}{l:List α}:UF (nl f l)=some (iI l.length):=by
 unfold nl;split
 .rename_i h;subst h;rfl
 .rfl
@[simp] theorem ah3{α:Type}{f:α->List D}{l:List α}:(nl f l).strip=nl f l:=by unfold nl;split<;>rfl
@[simp] theorem aiy{α:Type}{f:α->List D}{l:List α}:(nl f l).calm=nl f l:=by unfold nl;split<;>rfl
theorem Og{x:Trem.Ev}(hs:x.sp.length<=9223372036854775807):Cl 76 [.bz,.bT 1 x.enc,iI 0] (.cK [.int .u8 0,.int .u8 0,iI (if x.ok then 0 else 1)]) J:=by
 refine au ?_;have hA:=λJ=>@Vz J [x] (by simp) (by simpa using hs)
 try simp only[lF,Cl]at hA
 have hN:=λJ=>all_nil (T:=T) (J:=J) (fv:=.fn 115 [] []) (f:=114) (ag:=true) (w:=10) rfl rfl rfl rfl rfl rfl
 simp only[List.length_singleton,db,mY,da,dj,jm,List.all_nil,Bool.and_true]at hA;have w0:Trem.bC 0 0 1000000=true:=by decide
 cases hr:x.ok
 .rw[hr]at hA;simp only[lF,Trem.Ev.enc]at hA ⊢;simp[hA,hN]
 .rw[hr]at hA;simp only[lF,Trem.Ev.enc]at hA ⊢;simp[hA,hN,iB,w0];refine aA eR.eq_1 ?_;simp
def spD(L:Nat)(acc:List Trem.pV):D:=.sl L 0 acc.length 0 acc.length 4
def spS(acc:List Trem.pV):List Abs.aG:=[.cells acc.length (fM acc Trem.pV.enc)]
theorem N4(l:List Trem.pV):(fM l Trem.pV.enc).length=l.length*4:=b8 (f:=Trem.pV.enc) (w:=4) (λ_=>rfl) l
theorem MZ{bp:D}(hb1:bp.calm=bp){tk:Int}:∀(rs acc:List Trem.pV),acc.length+rs.length<=1000000 ->
  WL T [0,2,6] false fV [(0,bp),(2,.bT (rs.length*4) (fM rs Trem.pV.enc)),(6,.own 0 [iI tk,spD J.length acc])] (spS acc::J)
   (λx e J'=>x=.exit 0/\get e 0=bp/\get e 6=.own 0 [iI tk,spD J.length (acc++rs)]/\get e 1000006=.undef/\J'=spS (acc++rs)::J)
 |[],acc,h=>by
  refine aA fV.eq_1 ?_;simp[hb1]
 |r::rs,acc,h=>by
  refine aA fV.eq_1 ?_;simp only[aE]at h;have⟨e1,q0,q1,q2,q3,q4⟩:(rs.length+1)*4=rs.length*4+4/\(0:Int)<(rs.length:Int)*4+4/\(1:Int)<(rs.length:Int)*4+4/\(2:Int)<(rs.length:Int)*4+4/\(3:Int)<(rs.length:Int)*4+4/\(4:Int)<=(rs.length:Int)*4+4:=by omega
  have⟨hroom,h32⟩:(acc.length+1)*32<=room/\32<=room:=by unfold room;omega
  have hl:=N4 acc;have ht:(fM acc Trem.pV.enc).take (acc.length*4)=fM acc Trem.pV.enc:=ah (by omega);have hl2:=N4 rs;have ht2:(fM rs Trem.pV.enc).take (rs.length*4)=fM rs Trem.pV.enc:=ah (by omega);simp[hb1,e1,q0,q1,q2,q3,q4,hroom,hl,ht,spD,spS];refine WL.to (MZ hb1 (tk:=tk) rs (acc++[r]) (by simp;omega)) (by simp[ht2,spD]) (by simp[spS]) λx e J' hh=>?_
  simpa[spD,spS]using hh
def Ea(b:Bk)(x:Trem.Ev):Bk:={b with pZ:=b.pZ++[x] }
def oX(b:Bk)(sp:List Trem.pV):Bk×Int:=if b.pZ.length<200 then(if Trem.Ev.ok ⟨b.aw.length,sp⟩=true then(Ea b ⟨b.aw.length,sp⟩,0)else(b,1))else(b,3)
theorem Xc(l:List Trem.Ev):(fM l Trem.Ev.enc).length=l.length*2:=b8 (f:=Trem.Ev.enc) (w:=2) (λ_=>rfl) l
theorem Xm{S:SK}{L:Nat}(hS:S.length=L)(hL:0<L){sp:List Trem.pV}{tk:Int}:cF.frzL (cF 0 16) [iI tk,spD L sp] (spS sp::S)=([iI tk,lF sp Trem.pV.enc],[.dead]::S):=by
 have hf:=o9 (f:=Trem.pV.enc) (w:=4) (λ_=>rfl) (λ_=>by simp[D.clean]) (l:=sp) (j:=0) (v:=sp.length) (bs:=[Abs.aG.cells sp.length (fM sp Trem.pV.enc)]) (J:=S) (by intro h;subst h;simp at hS;omega) (by simp);rw[hS]at hf;simp[spD,spS,hf]
theorem Zj{F:List Abs.aG}{b:Bk}{er:List Int}{nm:List UInt8}{sp:List Trem.pV}{b':Bk}{e:Int}(hl:sp.length<=1000000)(hd:oX b sp=(b',e))(he:e=0):
  dr T (.call false 168 [.ref J.length 6 0 0,.str nm,.bT (sp.length*4) (fM sp Trem.pV.enc)] (F::b.bF J.length er::J))=some (.val (.cK []) (F::b'.bF J.length er::J)):=by
 refine fy rfl rfl rfl (by simp) ?_;unfold oX at hd;split at hd
 case isFalse=>cases hd;cases he
 rename_i h1;split at hd
 case isFalse=>cases hd;cases he
 rename_i h2;cases hd;have h1':(b.pZ.length:Int)<200:=by omega
 have hC:=λJ=>Og (J:=J) (x:=⟨b.aw.length,sp⟩) (by simp;omega)
 simp only[h2,if_true,Trem.Ev.enc]at hC;have hL:=MZ (J:=F::b.bF J.length er::J) (bp:=.ref J.length 6 0 0) rfl (tk:=b.aw.length) sp [] (by simpa using hl);have hne:sp≠[]:=by
  intro hh;subst hh;simp[Trem.Ev.ok,Trem.bC]at h2
 simp[Bk.bF,Bk.cells,h1',cQ];refine WL.to hL (by simp[spD]) (by simp[Bk.bF,Bk.cells,spS]) ?_;rintro x e J' ⟨rfl,g0,g6,gu,rfl⟩;have hf:=λS hS=>Xm (S:=S) (L:=J.length+1+1) hS (by omega) (sp:=sp) (tk:=b.aw.length)
 have w2:(b.pZ.length+1)*32<=room:=by unfold room;omega
 have w3:=Xc b.pZ;have w4:(fM b.pZ Trem.Ev.enc).take (b.pZ.length*2)=fM b.pZ Trem.Ev.enc:=ah (by omega);have hcl:D.bf (fM sp Trem.pV.enc)=true:=fB (λ_=>by simp[D.clean]) sp;simp only[List.nil_append]at g6;simp[g0,g6,gu,hf,hC,nQ,Bk.bF,Bk.cells,Ea,w2,w3,w4,hcl]
theorem T6{F:List Abs.aG}{b:Bk}{er:List Int}{nm:List UInt8}{sp:List Trem.pV}{b':Bk}{e:Int}(hl:sp.length<=1000000)(hd:oX b sp=(b',e))(he:e≠0):
  dr T (.call false 168 [.ref J.length 6 0 0,.str nm,.bT (sp.length*4) (fM sp Trem.pV.enc)] (F::b.bF J.length er::J))=some (.fu (rf e) (F::b.bF J.length er::J)):=by
 refine dX rfl rfl rfl ?_;have hM:=λJ=>oV (J:=J) (e:=1) (by decide)
 have hrc:(D.ui 200 (.agg [iI 1])).clean=true:=rfl;unfold oX at hd;split at hd
 case isFalse h1 =>
  cases hd;have h1':¬(b.pZ.length:Int)<200:=by omega
  simp[Bk.bF,Bk.cells,h1',dM,D.clean,rf]
 rename_i h1;split at hd
 case isTrue=>cases hd;exact absurd rfl he
 rename_i h2;cases hd;have h1':(b.pZ.length:Int)<200:=by omega
 have h2':Trem.Ev.ok ⟨b.aw.length,sp⟩=false:=by simpa using h2
 have hC:=λJ=>Og (J:=J) (x:=⟨b.aw.length,sp⟩) (by simp;omega)
 simp only[h2',Trem.Ev.enc]at hC;have hL:=MZ (J:=F::b.bF J.length er::J) (bp:=.ref J.length 6 0 0) rfl (tk:=b.aw.length) sp [] (by simpa using hl);simp[Bk.bF,Bk.cells,h1',cQ];refine WL.to hL (by simp[spD]) (by simp[Bk.bF,Bk.cells,spS]) ?_;rintro x e J' ⟨rfl,g0,g6,gu,rfl⟩;have hf:=λS hS=>Xm (S:=S) (L:=J.length+1+1) hS (by omega) (sp:=sp) (tk:=b.aw.length)
 have hcl:D.bf (fM sp Trem.pV.enc)=true:=fB (λ_=>by simp[D.clean]) sp;simp only[List.nil_append]at g6;simp[g0,g6,gu,hf,hC,hM,Bk.bF,Bk.cells,rf,hrc]
theorem Ek{a b c:Int}:Cl 309 [iI a,iI b,iI c] (.bool (bC a b c)) J:=by
 refine au ?_;by_cases h:b<=a<;>simp[h,bC]
theorem Uc{p:Prt}{last:Int}:dr T (.call false 311 [.agg p.enc,.ref J.length 0 0 0] ([]::[]::[]::[]::[.cells 0 [iI last]]::J))=some (.val (.bool (p.ok last)) ([]::[]::[]::[]::[.cells 0 [iI p.kS]]::J)):=by
 refine fy rfl rfl rfl (by simp) ?_;cases h:bC p.kS 0 last<;>simp[Ek,h,Prt.ok]
theorem OD{u:pf}(hl:u.parts.length<=1000000000):Cl 258 [.agg u.enc] (.bool u.ok) J:=by
 refine au ?_;have hA:=M1 (yg 2 Prt.enc (λ_=>rfl)) (T:=T) (S:=λi=>[.cells 0 [iI (kY u.parts i)]]::J) (fv:=.fn 311 [] [.ref J.length 0 0 0]) (l:=u.parts) (p:=BF u.parts)
  (f:=310) (g:=349) (h:=348) (i:=367) rfl rfl rfl rfl (by omega) rfl rfl rfl (λ_=>rfl) (λi x hx=>by
   rw[pn];have h:=Uc (J:=J) (p:=x) (last:=kY u.parts i);have e1:kY u.parts (i+1)=x.kS:=by simp[kY,hx]
   have e2:BF u.parts i=x.ok (kY u.parts i):=by simp[BF,hx]
   have h':dr T (.call false 311 ([]++[(yg 2 Prt.enc (λ_=>rfl)).val x]++[.ref J.length 0 0 0]) ([]::[]::[]::[]::[.cells 0 [iI (kY u.parts i)]]::J))=_:=h;rw[h',e1,e2];rfl)
 have hb:(!(oF (λi => !BF u.parts i) 0 u.parts.length).1)=AF 1000 u.parts:=by
  have h1:=EJ (q:=λi => !BF u.parts i) (m:=u.parts.length) (i:=0);have h2:=LW (l:=u.parts);cases hf:AF 1000 u.parts
  .cases hs:(oF (λi => !BF u.parts i) 0 u.parts.length).1
   .have h3:=h1.1 hs;have h4:=h2.2 λj hj=>by simpa using h3 j hj
    rw[hf]at h4;cases h4
   .rfl
  .have h3:=h2.1 hf;have h4:=h1.2 λj hj=>by simp[h3 j hj]
   rw[h4];rfl
 rw[hb]at hA;have e0:kY u.parts 0=1000:=rfl;have hA':dr T (.call false 310 [lF u.parts Prt.enc,.fn 311 [] [.ref J.length 0 0 0]] ([.cells 0 [iI 1000]]::J))=_:=hA;cases h1:bC u.xx 0 5
 .simp[Ek,h1,pf.ok]
 cases h2:bC u.parts.length 1 8
 .simp[Ek,h1,h2,pf.ok]
 simp[Ek,h1,h2,pf.ok,hA']
theorem Ic{u:pf}(hl:u.parts.length<=1000000000):Cl 217 [.agg u.enc] (iI (if u.ok then 0 else 1)) J:=by
 refine au ?_;have hC:=λJ=>OD (J:=J) hl
 simp only[pf.enc]at hC ⊢;cases hc:u.ok<;>rw[hc]at hC<;>simp[hC]
def ptD(L:Nat)(acc:List Prt):D:=.sl L 0 acc.length 0 acc.length 2
def ptS(acc:List Prt):List Abs.aG:=[.cells acc.length (fM acc Prt.enc)]
theorem G3(l:List Prt):(fM l Prt.enc).length=l.length*2:=b8 (f:=Prt.enc) (w:=2) (λ_=>rfl) l
theorem MU{bp:D}(hb1:bp.calm=bp){tk:Int}:∀(rs acc:List Prt),acc.length+rs.length<=1000000 ->
  WL T [0,2,6] false gF [(0,bp),(2,.bT (rs.length*2) (fM rs Prt.enc)),(6,.own 0 [iI tk,ptD J.length acc])] (ptS acc::J)
   (λx e J'=>x=.exit 0/\get e 0=bp/\get e 6=.own 0 [iI tk,ptD J.length (acc++rs)]/\get e 1000006=.undef/\J'=ptS (acc++rs)::J)
 |[],acc,h=>by
  refine aA gF.eq_1 ?_;simp[hb1]
 |r::rs,acc,h=>by
  refine aA gF.eq_1 ?_;simp only[aE]at h;have⟨e1,q0,q1,q2⟩:(rs.length+1)*2=rs.length*2+2/\(0:Int)<(rs.length:Int)*2+2/\(1:Int)<(rs.length:Int)*2+2/\(2:Int)<=(rs.length:Int)*2+2:=by omega
  have⟨hroom,h32⟩:(acc.length+1)*16<=room/\16<=room:=by unfold room;omega
  have hl:=G3 acc;have ht:(fM acc Prt.enc).take (acc.length*2)=fM acc Prt.enc:=ah (by omega);have hl2:=G3 rs;have ht2:(fM rs Prt.enc).take (rs.length*2)=fM rs Prt.enc:=ah (by omega);simp[hb1,e1,q0,q1,q2,hroom,hl,ht,ptD,ptS];refine WL.to (MU hb1 (tk:=tk) rs (acc++[r]) (by simp;omega)) (by simp[ht2,ptD]) (by simp[ptS]) λx e J' hh=>?_
  simpa[ptD,ptS]using hh
def IS(b:Bk)(u:pf):Bk:={b with cI:=b.cI++[u] }
def tE(b:Bk)(u:pf):Bk×Int:=if b.cI.length<10 then(if u.ok=true then(IS b u,0)else(b,1))else(b,3)
theorem Jm(l:List pf):(fM l pf.enc).length=l.length*2:=b8 (f:=pf.enc) (w:=2) (λ_=>rfl) l
theorem Xl{S:SK}{L:Nat}(hS:S.length=L)(hL:0<L){pt:List Prt}{tk:Int}:cF.frzL (cF 0 16) [iI tk,ptD L pt] (ptS pt::S)=([iI tk,lF pt Prt.enc],[.dead]::S):=by
 have hf:=o9 (f:=Prt.enc) (w:=2) (λ_=>rfl) (λ_=>by simp[D.clean]) (l:=pt) (j:=0) (v:=pt.length) (bs:=[Abs.aG.cells pt.length (fM pt Prt.enc)]) (J:=S) (by intro h;subst h;simp at hS;omega) (by simp);rw[hS]at hf;simp[ptD,ptS,hf]
theorem adt{l:List Prt}:D.bf (fM l Prt.enc)=true:=fB (λ_=>by simp[D.clean]) l
theorem acW{F:List Abs.aG}{b:Bk}{er:List Int}{nm:List UInt8}{u:pf}{b':Bk}{e:Int}(hl:u.parts.length<=1000000)(hd:tE b u=(b',e))(he:e=0):
  dr T (.call false 171 [.ref J.length 6 0 0,.str nm,.bT (u.parts.length*2+1) (iI u.xx::fM u.parts Prt.enc)] (F::b.bF J.length er::J))=some (.val (.cK []) (F::b'.bF J.length er::J)):=by
 refine fy rfl rfl rfl (by simp) ?_;unfold tE at hd;split at hd
 case isFalse=>cases hd;cases he
 rename_i h1;split at hd
 case isFalse=>cases hd;cases he
 rename_i h2;cases hd;have h1':(b.cI.length:Int)<10:=by omega
 have hC:=λJ=>Ic (J:=J) (u:=u) (by omega)
 simp only[h2,if_true,pf.enc]at hC;have hL:=MU (J:=F::b.bF J.length er::J) (bp:=.ref J.length 6 0 0) rfl (tk:=u.xx) u.parts [] (by simpa using hl);have hne:u.parts≠[]:=by
  intro hh;simp[pf.ok,bC,hh]at h2
 have⟨q0,q1⟩:(0:Int)<(u.parts.length:Int)*2+1/\(1:Int)<=(u.parts.length:Int)*2+1:=by omega
 have hlp:=G3 u.parts;have htp:(fM u.parts Prt.enc).take (u.parts.length*2)=fM u.parts Prt.enc:=ah (by omega);simp[Bk.bF,Bk.cells,h1',cQ,q0,q1];refine WL.to hL (by simp[ptD,htp]) (by simp[Bk.bF,Bk.cells,ptS]) ?_;rintro x e J' ⟨rfl,g0,g6,gu,rfl⟩;have hf:=λS hS=>Xl (S:=S) (L:=J.length+1+1) hS (by omega) (pt:=u.parts) (tk:=u.xx)
 have w2:(b.cI.length+1)*32<=room:=by unfold room;omega
 have w3:=Jm b.cI;have w4:(fM b.cI pf.enc).take (b.cI.length*2)=fM b.cI pf.enc:=ah (by omega);simp only[List.nil_append]at g6;simp[g0,g6,gu,hf,hC,nQ,Bk.bF,Bk.cells,IS,w2,w3,w4,adt]
theorem Wa{F:List Abs.aG}{b:Bk}{er:List Int}{nm:List UInt8}{u:pf}{b':Bk}{e:Int}(hl:u.parts.length<=1000000)(hd:tE b u=(b',e))(he:e≠0):
  dr T (.call false 171 [.ref J.length 6 0 0,.str nm,.bT (u.parts.length*2+1) (iI u.xx::fM u.parts Prt.enc)] (F::b.bF J.length er::J))=some (.fu (rf e) (F::b.bF J.length er::J)):=by
 refine dX rfl rfl rfl ?_;have hM:=λJ=>oV (J:=J) (e:=1) (by decide)
 have hrc:(D.ui 200 (.agg [iI 1])).clean=true:=rfl;unfold tE at hd;split at hd
 case isFalse h1 =>
  cases hd;have h1':¬(b.cI.length:Int)<10:=by omega
  simp[Bk.bF,Bk.cells,h1',dM,D.clean,rf]
 rename_i h1;split at hd
 case isTrue=>cases hd;exact absurd rfl he
 rename_i h2;cases hd;have h1':(b.cI.length:Int)<10:=by omega
 have h2':u.ok=false:=by simpa using h2
 have hC:=λJ=>Ic (J:=J) (u:=u) (by omega)
 simp only[h2',pf.enc]at hC;have hL:=MU (J:=F::b.bF J.length er::J) (bp:=.ref J.length 6 0 0) rfl (tk:=u.xx) u.parts [] (by simpa using hl);have⟨q0,q1⟩:(0:Int)<(u.parts.length:Int)*2+1/\(1:Int)<=(u.parts.length:Int)*2+1:=by omega
 have hlp:=G3 u.parts;have htp:(fM u.parts Prt.enc).take (u.parts.length*2)=fM u.parts Prt.enc:=ah (by omega);simp[Bk.bF,Bk.cells,h1',cQ,q0,q1];refine WL.to hL (by simp[ptD,htp]) (by simp[Bk.bF,Bk.cells,ptS]) ?_;rintro x e J' ⟨rfl,g0,g6,gu,rfl⟩;have hf:=λS hS=>Xl (S:=S) (L:=J.length+1+1) hS (by omega) (pt:=u.parts) (tk:=u.xx)
 simp only[List.nil_append]at g6;simp[g6,gu,hf,hC,hM,Bk.bF,Bk.cells,rf,hrc]
def KV(b:bV)(m:bZ):D:=if Bd b m then Yy (bX b m)else .bz
theorem Qm{b:bV}{m:bZ}:(KV b m).strip=KV b m:=by unfold KV;split<;>rfl
theorem Sd{b:bV}{m:bZ}{tq wq:D}(htq:tq.qY=lF b.dP Rw.enc)(hwq:wq.qY=lF b.av bH.enc)(h1:b.dP.length<=1000000000)(h2:b.av.length<=1000000000)(hn:m.name.length<=1000000000)(hl:m.dz.length<=1000000000)(hJ:J≠[]):
  Cl 206 [.agg [iI b.f.x,iI b.f.y,iI b.f.z,iI b.f.k,tq,iI b.cA,iI b.lift,iI b.deep,wq],.agg (mL m)] (.cK [KV b m,iI (if Bd b m then 0 else 1)]) J:=by
 unfold KV;cases hb:Bd b m
 .refine au ?_;obtain⟨d,hd,hd1,hd2⟩:=Se (J:=[]::J) h1 h2 hn hl hb;simp[htq,hwq,hd,hd1]
 .refine au ?_;have hd:=λJ=>abn (J:=J) h1 h2 hn hl hb
  have hf:=λJ hJ=>Hm (J:=J) (b:=b) (m:=m) (Fv.of hb) hJ
  have hcl:(Yy (bX b m)).clean=true:=by simp[Yy,fB (f:=Rock.aG.enc) (λ_=>by simp[D.clean])]
  have hs1:(Yy (bX b m)).strip=Yy (bX b m):=rfl;have hs2:(Yy (bX b m)).calm=Yy (bX b m):=rfl;simp[htq,hwq,hd,hf,hs1,hs2,hcl]
theorem VM{e:ec}{nm:List UInt8}:Cl 205 [.agg e.enc,.bg [.str nm]] (.bool (e.m.name == nm)) J:=by
 refine au ?_;simp[ia]
theorem xK(l:List ec):(fM l ec.enc).length=l.length*4:=b8 (f:=ec.enc) (w:=4) (λ_=>rfl) l
theorem Hk(l:List Dl):(fM l Dl.enc).length=l.length*4:=b8 (f:=Dl.enc) (w:=4) (λ_=>rfl) l
theorem LB{b:Bk}{er:List Int}{nm:List UInt8}{S:SK}(hl:b.ai.length<=1000000)(hs:eT S J.length=some (b.bF J.length er)):
  Cl 204 [.sl J.length 0 b.ai.length 0 b.ai.length 4,.fn 205 [] [.bg [.str nm]]] (.bool (mu b.ai λe=>e.m.name == nm)) S :=
 EW (enc:=ec.enc) (w:=4) (λ_=>rfl) (F:=b.bF J.length er) (bi:=0) (v:=b.ai.length) (l:=b.ai) (i:=33) rfl rfl (by simp[Bk.bF]) (by omega)
  ⟨rfl,rfl,λe _ J=>by rw[pn];have h:=VM (J:=J) (e:=e) (nm:=nm);have h':dr T (.call false 205 ([]++[.agg e.enc]++[.bg [.str nm]]) J)=_:=h;rw[h'];rfl⟩ hs
def zb(b:Bk)(m:bZ):Bk:={b with ai:=b.ai++[⟨m,true,0⟩],eJ:=b.eJ++[⟨0,0,0,0⟩] }
def pY(b:Bk)(m:bZ):Bk×Int :=
 if b.ready=true/\b.aw=[]then
  (if(mu b.ai λe=>e.m.name == m.name)=true then(b,6)else if b.ai.length<40 then(if Bd b.aS m=true then(zb b m,0)else(b,1))else(b,3))
 else(b,8)
theorem VN{F:List Abs.aG}{b:Bk}{er:List Int}{m:bZ}{b':Bk}{e:Int}(h1:b.aS.dP.length<=1000000000)(h2:b.aS.av.length<=1000000000)(hn:m.name.length<=1000000000)(hl:m.dz.length<=1000000000)(hw:b.eJ.length=b.ai.length)(hd:pY b m=(b',e))(he:e=0):
  dr T (.call false 164 [.ref J.length 6 0 0,.str m.name,lF m.dz aO] (F::b.bF J.length er::J))=some (.val (.cK []) (F::b'.bF J.length er::J)):=by
 refine fy rfl rfl rfl (by simp) ?_;unfold pY at hd;split at hd
 case isFalse=>cases hd;cases he
 rename_i c0;obtain⟨c1,c2⟩:=c0;split at hd
 case isTrue=>cases hd;cases he
 rename_i c3;split at hd
 case isFalse=>cases hd;cases he
 rename_i c4;split at hd
 case isFalse=>cases hd;cases he
 rename_i c5;cases hd;have c3':(mu b.ai λe=>e.m.name == m.name)=false:=by simpa using c3
 have c4':(b.ai.length:Int)<40:=by omega
 have hH:=λS=>LB (J:=J) (b:=b) (er:=er) (nm:=m.name) (S:=S) (by omega)
 simp only[c3']at hH;have hS:=λS hJ=>Sd (J:=S) (b:=b.aS) (m:=m) (tq:=nl Rw.enc b.aS.dP) (wq:=nl bH.enc b.aS.av) ku ku h1 h2 hn hl hJ
 simp only[c5]at hS;simp only[Bk.bF,Bk.cells]at hH;have w2:(b.ai.length+1)*56<=room:=by unfold room;omega
 have w3:=xK b.ai;have w4:(fM b.ai ec.enc).take (b.ai.length*4)=fM b.ai ec.enc:=ah (by omega);have w5:(b.eJ.length+1)*32<=room:=by unfold room;omega
 have w6:=Hk b.eJ;have w7:(fM b.eJ Dl.enc).take (b.eJ.length*4)=fM b.eJ Dl.enc:=ah (by omega);simp[Bk.bF,Bk.cells,c1,c2,hH,c4',hS,Qm,aaM,cQ,nQ,zb,w2,w3,w4,w5,w6,w7,mw]
theorem T3{F:List Abs.aG}{b:Bk}{er:List Int}{m:bZ}{b':Bk}{e:Int}(h1:b.aS.dP.length<=1000000000)(h2:b.aS.av.length<=1000000000)(hn:m.name.length<=1000000000)(hl:m.dz.length<=1000000000)(hml:b.ai.length<=40)(hd:pY b m=(b',e))(he:e≠0):
  dr T (.call false 164 [.ref J.length 6 0 0,.str m.name,lF m.dz aO] (F::b.bF J.length er::J))=some (.fu (rf e) (F::b.bF J.length er::J)):=by
 refine dX rfl rfl rfl ?_;have hM:=λJ=>oV (J:=J) (e:=1) (by decide)
 have hrc:(D.ui 200 (.agg [iI 1])).clean=true:=rfl;unfold pY at hd;split at hd
 case isFalse c0 =>
  cases hd;cases c1:b.ready with
  |false=>simp[Bk.bF,Bk.cells,c1,dM,D.clean,rf]
  |true =>
   have c2:((b.aw.length:Int) == 0)=false:=by simpa using λhh=>c0 ⟨c1,hh⟩
   simp[Bk.bF,Bk.cells,c1,c2,dM,D.clean,rf]
 rename_i c0;obtain⟨c1,c2⟩:=c0;have hH:=λS=>LB (J:=J) (b:=b) (er:=er) (nm:=m.name) (S:=S) (by omega)
 split at hd
 case isTrue c3 =>
  cases hd;simp only[c3]at hH;simp only[Bk.bF,Bk.cells]at hH;simp[Bk.bF,Bk.cells,c1,c2,hH,cQ,dM,D.clean,rf]
 rename_i c3;have c3':(mu b.ai λe=>e.m.name == m.name)=false:=by simpa using c3
 simp only[c3']at hH;split at hd
 case isFalse c4 =>
  cases hd;have c4':¬(b.ai.length:Int)<40:=by omega
  simp only[Bk.bF,Bk.cells]at hH;simp[Bk.bF,Bk.cells,c1,c2,hH,c4',cQ,dM,D.clean,rf]
 rename_i c4;have c4':(b.ai.length:Int)<40:=by omega
 split at hd
 case isTrue=>cases hd;exact absurd rfl he
 rename_i c5;cases hd;have c5':Bd b.aS m=false:=by simpa using c5
 have hS:=λS hJ=>Sd (J:=S) (b:=b.aS) (m:=m) (tq:=nl Rw.enc b.aS.dP) (wq:=nl bH.enc b.aS.av) ku ku h1 h2 hn hl hJ
 simp only[c5']at hS;simp only[Bk.bF,Bk.cells]at hH;simp[Bk.bF,Bk.cells,c1,c2,hH,c4',hS,Qm,cQ,hM,rf,hrc]
end Go.Proofs.YtpapbbojmclkgaaGreatDoor
namespace Go.Book
open Go Go.Abs Go.Rock
def isStr(lo hi:Int)(val:bZ->Int)(e:ec):Bool:=e.left && !bC (val e.m) lo hi
def cm(at_ lo hi:Int)(val:bZ->Int)(e:ec):ec:=if isStr lo hi val e then⟨e.m,false,at_⟩else e
def ae2(at_ lo hi:Int)(val:bZ->Int)(ms:List ec)(j:Nat)(w:Dl):Dl:=match ms[j]? with
 |some e=>if isStr lo hi val e then⟨at_,val e.m,lo,hi⟩else w
 |none=>w
def Bk.gw(b:Bk)(lo hi:Int)(val:bZ->Int)(i:Nat):Bk :=
 {b with ai:=b.ai.mapIdx λj e=>if j<i then cm b.at_ lo hi val e else e,eJ:=b.eJ.mapIdx λj w=>if j<i then ae2 b.at_ lo hi val b.ai j w else w }
section
variable {b:Bk} {lo hi:Int} {val:bZ->Int} {i:Nat}
@[simp] theorem YC:(b.gw lo hi val i).aS=b.aS:=aK rfl
@[simp] theorem U7:(b.gw lo hi val i).aw=b.aw:=aK rfl
@[simp] theorem RX:(b.gw lo hi val i).rules=b.rules:=aK rfl
@[simp] theorem YD:(b.gw lo hi val i).pZ=b.pZ:=aK rfl
@[simp] theorem aba:(b.gw lo hi val i).k0=b.k0:=aK rfl
@[simp] theorem abb:(b.gw lo hi val i).k1=b.k1:=aK rfl
@[simp] theorem abc:(b.gw lo hi val i).k2=b.k2:=aK rfl
@[simp] theorem RZ:(b.gw lo hi val i).cI=b.cI:=aK rfl
@[simp] theorem RY:(b.gw lo hi val i).dk=b.dk:=aK rfl
@[simp] theorem RW:(b.gw lo hi val i).ready=b.ready:=aK rfl
@[simp] theorem aa9:(b.gw lo hi val i).at_=b.at_:=aK rfl
end
theorem MI{b:Bk}{lo hi:Int}{val:bZ->Int}:b.gw lo hi val 0=b:=by
 cases b;simp only[Bk.gw,Bk.mk.injEq,true_and,and_true];constructor<;>(apply ez;intro j;simp[ju])
theorem uz{b:Bk}{lo hi:Int}{val:bZ->Int}{i:Nat}:(b.gw lo hi val i).ai.length=b.ai.length:=by simp[Bk.gw]
theorem vO{b:Bk}{lo hi:Int}{val:bZ->Int}{i:Nat}:(b.gw lo hi val i).eJ.length=b.eJ.length:=by simp[Bk.gw]
theorem TK{b:Bk}{lo hi:Int}{val:bZ->Int}{i:Nat}{e:ec}(h:b.ai[i]?=some e):(b.gw lo hi val i).ai[i]?=some e:=by simp[Bk.gw,h]
theorem MH{b:Bk}{lo hi:Int}{val:bZ->Int}{i:Nat}{e:ec}(h:b.ai[i]?=some e)(hs:isStr lo hi val e=true)(hw:b.eJ.length=b.ai.length):
  (b.gw lo hi val (i+1)).ai=(b.gw lo hi val i).ai.set i ⟨e.m,false,b.at_⟩/\(b.gw lo hi val (i+1)).eJ=(b.gw lo hi val i).eJ.set i ⟨b.at_,val e.m,lo,hi⟩:=by
 obtain⟨hi',he⟩:=aB.1 h;constructor
 .apply ez;intro j;simp only[Bk.gw,ju,List.getElem?_set];by_cases hj:i=j
  .subst hj;rw[h];simp[hi',cm,hs]
  .rw[if_neg hj];cases b.ai[j]? with
   |none=>rfl
   |some x=>simp only[aZ];congr 1;by_cases h1:j<i<;>simp[h1]<;>omega
 .apply ez;intro j;simp only[Bk.gw,ju,List.getElem?_set];by_cases hj:i=j
  .subst hj;have:i<b.eJ.length:=by omega
   rw[aH this];simp[h,this,ae2,hs]
  .rw[if_neg hj];cases b.eJ[j]? with
   |none=>rfl
   |some x=>simp only[aZ];congr 1;by_cases h1:j<i<;>simp[h1]<;>omega
theorem EL{b:Bk}{lo hi:Int}{val:bZ->Int}{i:Nat}{e:ec}(h:b.ai[i]?=some e)(hs:isStr lo hi val e=false):b.gw lo hi val (i+1)=b.gw lo hi val i:=by
 have h1:(b.gw lo hi val (i+1)).ai=(b.gw lo hi val i).ai:=by
  apply ez;intro j;simp only[Bk.gw,ju];by_cases hj:i=j
  .subst hj;simp[h,cm,hs]
  .cases b.ai[j]? with
   |none=>rfl
   |some x=>simp only[aZ];congr 1;by_cases h1:j<i<;>simp[h1]<;>omega
 have h2:(b.gw lo hi val (i+1)).eJ=(b.gw lo hi val i).eJ:=by
  apply ez;intro j;simp only[Bk.gw,ju];by_cases hj:i=j
  .subst hj;cases b.eJ[i]? with
   |none=>rfl
   |some x=>simp[h,ae2,hs]
  .cases b.eJ[j]? with
   |none=>rfl
   |some x=>simp only[aZ];congr 1;by_cases h1:j<i<;>simp[h1]<;>omega
 simp only[Bk.gw]at h1 h2 ⊢;rw[h1,h2]
end Go.Book
namespace Go.Proofs.YtpapbbojmclkgaaGreatDoor
section
open Go Go.Abs Go.Rock Go.Book
variable {J:SK}
theorem O5{α:Type}{f:α->List D}{w k:Nat}{v:D}(hw:∀x,(f x).length=w)(hk:k<w):∀{l:List α} {i:Nat} {x x':α},l[i]?=some x->(f x).set k v=f x'->(fM l f).set (i*w+k) v=fM (l.set i x') f
 |[],i,x,x',h,_=>by simp at h
 |a::l,0,x,x',h,hs=>by
  simp at h;subst h;simp only[db,List.set_cons_zero,Nat.zero_mul,cq];rw[List.set_append_left _ _ (by rw[hw];exact hk),hs]
 |a::l,i+1,x,x',h,hs=>by
  have ih:=O5 hw hk (l:=l) (i:=i) (by simpa using h) hs;simp only[db,List.set_cons_succ];have e:=hw a;rw[List.set_append_right _ _ (by rw[e,eC];omega),<- ih];congr 2;rw[e,eC];omega
theorem Gc{α:Type}{f:α->List D}{w k:Nat}{v:D}(hw:∀x,(f x).length=w)(hk:k<w){l:List α}{i:Nat}{x x':α}(h:l[i]?=some x)(hs:(f x).set k v=f x'):(fM l f).take (i*w+k)++v::(fM l f).drop (i*w+k+1)=fM (l.set i x') f:=by
 rw[<- O5 hw hk h hs,List.set_eq_take_append_cons_drop,if_pos];rw[b8 hw];have h1:=(aB.1 h).1;have:(i+1)*w<=l.length*w:=cZ _ h1;rw[eC]at this;omega
theorem OT{A F:List Abs.aG}{b:Bk}{er:List Int}{lo hi:Int}{val:bZ->Int}{fv:D}(hf1:fv.strip=fv)(hf2:fv.calm=fv)(hw:b.eJ.length=b.ai.length)(hl:b.ai.length<=40)
  (hv:∀i e,e∈b.ai->e.left=true->oi (dr T) false fv [.agg (mL e.m)] ([]::A::F::(b.gw lo hi val i).bF J.length er::J)=some (iI (val e.m),[]::A::F::(b.gw lo hi val i).bF J.length er::J)):∀(m i:Nat),i+m=b.ai.length ->
  WL T [0,2,4,13,14,15] false fk [(0,.ref J.length 6 0 0),(2,fv),(4,.bg [iI lo,iI hi]),(13,.sl J.length 0 b.ai.length 0 b.ai.length 4),(14,iI b.ai.length),(15,iI i)] ([]::A::F::(b.gw lo hi val i).bF J.length er::J)
   (λx e J'=>x=.exit 0/\J'=[]::A::F::(b.gw lo hi val b.ai.length).bF J.length er::J)
 |0,i,h=>by
  refine aA fk.eq_1 ?_;have⟨h1,h2⟩:¬i<b.ai.length/\i=b.ai.length:=by omega
  simp[hf2,h2]
 |m+1,i,h=>by
  refine aA fk.eq_1 ?_;have h1:i<b.ai.length:=by omega
  obtain⟨e,he⟩:=gE h1;have hat:=TK (lo:=lo) (hi:=hi) (val:=val) he;have hfl:=bd (f:=ec.enc) (w:=4) (λ_=>rfl) hat;have hml:=uz (b:=b) (lo:=lo) (hi:=hi) (val:=val) (i:=i);have hwl:=vO (b:=b) (lo:=lo) (hi:=hi) (val:=val) (i:=i);have h4:=cg h1;have ih:=OT hf1 hf2 hw hl hv m (i+1) (by omega);have hlen:=xK (b.gw lo hi val i).ai;rw[hml]at hlen;have q:4<=b.ai.length*4-i*4:=by omega
  cases hc1:e.left with
  |false =>
   have hst:isStr lo hi val e=false:=by simp[isStr,hc1]
   rw[EL he hst]at ih;simp[h1,hf2,Bk.bF,Bk.cells,hml,hwl,hfl,hlen,q,h4,hc1];exact WL.to ih (by simp) (by simp[Bk.bF,Bk.cells,hml,hwl]) λx e J' hh=>by simpa[Bk.bF,Bk.cells,uz,vO]using hh
  |true =>
   have hcall:=hv i e (aj he) hc1;simp only[Bk.bF,Bk.cells,hml,hwl,YC,U7,RX,YD,aba,abb,abc,RZ,RY,RW,aa9]at hcall;cases hc2:bC (val e.m) lo hi with
   |true =>
    have hst:isStr lo hi val e=false:=by simp[isStr,hc2]
    rw[EL he hst]at ih;simp[h1,hf1,hf2,Bk.bF,Bk.cells,hml,hwl,hfl,hlen,q,h4,hc1,hcall,ej,hc2];exact WL.to ih (by simp) (by simp[Bk.bF,Bk.cells,hml,hwl]) λx e J' hh=>by simpa[Bk.bF,Bk.cells,uz,vO]using hh
   |false =>
    have hst:isStr lo hi val e=true:=by simp[isStr,hc1,hc2]
    obtain⟨hn1,hn2⟩:=MH he hst hw;have⟨q2,q3⟩:i*4+2+1<=b.ai.length*4/\i*4+3+1<=b.ai.length*4:=by omega
    have p1:=Gc (f:=ec.enc) (w:=4) (k:=2) (v:=.bool false) (λ_=>rfl) (by omega) (x':=⟨e.m,false,e.M7⟩) hat rfl;have hat2:((b.gw lo hi val i).ai.set i ⟨e.m,false,e.M7⟩)[i]?=some ⟨e.m,false,e.M7⟩:=by simp[hml,h1]
    have p2:=Gc (f:=ec.enc) (w:=4) (k:=3) (v:=iI b.at_) (λ_=>rfl) (by omega) (x':=⟨e.m,false,b.at_⟩) hat2 rfl;rw[List.set_set]at p2;have hl2:=xK ((b.gw lo hi val i).ai.set i ⟨e.m,false,e.M7⟩);rw[List.length_set,hml]at hl2;have⟨h5,q5⟩:i<b.eJ.length/\i*4+4<=b.eJ.length*4:=by omega
    have hwe:=Hk (b.gw lo hi val i).eJ;rw[hwl]at hwe;have p3:=Md (f:=Dl.enc) (w:=4) (λ_=>rfl) (l:=(b.gw lo hi val i).eJ) (i:=i) (x:=⟨b.at_,val e.m,lo,hi⟩) (by omega);simp only[Dl.enc,cr,List.nil_append]at p3;simp[h1,hf1,hf2,Bk.bF,Bk.cells,hml,hwl,hfl,hlen,q,h4,hc1,hcall,ej,hc2,q2,q3,p1,p2,hl2,h5,q5,hwe,p3];exact WL.to ih (by simp) (by simp[Bk.bF,Bk.cells,hwl,hn1,hn2,hml]) λx e J' hh=>by simpa[Bk.bF,Bk.cells,uz,vO]using hh
def gU(b:Bk)(lo hi:Int)(val:bZ->Int):Bk:=b.gw lo hi val b.ai.length
theorem OC{A F:List Abs.aG}{b:Bk}{er:List Int}{lo hi:Int}{val:bZ->Int}{fv:D}(hf1:fv.strip=fv)(hf2:fv.calm=fv)(hw:b.eJ.length=b.ai.length)(hl:b.ai.length<=40)
  (hv:∀i e,e∈b.ai->e.left=true->oi (dr T) false fv [.agg (mL e.m)] ([]::A::F::(b.gw lo hi val i).bF J.length er::J)=some (iI (val e.m),[]::A::F::(b.gw lo hi val i).bF J.length er::J)):
  dr T (.call false 208 [.ref J.length 6 0 0,.agg [iI lo,iI hi],fv] (A::F::b.bF J.length er::J))=some (.val (.cK []) (A::F::(gU b lo hi val).bF J.length er::J)):=by
 refine fy rfl rfl rfl (by simp) ?_;have h:=OT (A:=A) (F:=F) (er:=er) hf1 hf2 hw hl hv b.ai.length 0 (by omega);rw[MI]at h;simp[Bk.bF,Bk.cells,hf2];refine WL.to h (by simp) (by simp[Bk.bF,Bk.cells]) ?_;rintro x e J' ⟨rfl,rfl⟩;simp[gU,Bk.bF,Bk.cells]
end
section
open Go Go.Abs Go.Rock
variable {J:SK}
theorem aau(l:List bZ):(fM l bZ.enc).length=l.length*2:=b8 (f:=bZ.enc) (w:=2) (λ_=>rfl) l
theorem WX(l:List bZ):D.bf (fM l bZ.enc)=true:=fB (λx=>by simp[D.clean,mw]) l
structure Ok(b:bV)(l:List bZ)(aw:List (List Int)):Prop where
 bv:Bv b
 valid:b.valid=true
 len:1<=l.length/\l.length<=40
 ai:b.f.ai l=0
 fit:∀m∈l,fits b m=true
 fv:∀m∈l,Fv b m
 short:∀m∈l,m.name.length<=1000000000/\m.dz.length<=384
 pl:tf b aw=0
 UW:aw.length<=200
 aF:∀r∈aw,Rv b r
theorem adR{b:bV}{m:bZ}(h:Bv b)(hf:fits b m=true):m.name.length<=16:=by
 rw[Nj h,af,az]at hf;have hm:=hf.1;unfold dD.model at hm;split at hm
 .rename_i hn;simp only[named,af]at hn;have:=aP.1 hn.2;omega
 .cases hm
theorem Ok.of{b:bV}{l:List bZ}{aw:List (List Int)}(h:ace b l aw=true):Ok b l aw:=by
 simp only[ace,af,az]at h;obtain⟨h1,h2,h3,h4,h5⟩:=h;have hb:=Bv.of h1;unfold XI at h3;split at h3
 .rename_i hi;split at h3
  .rename_i hm;split at h3
   .rename_i hf;have hfit:∀m∈l,fits b m=true:=eP.1 hf;have hfv:∀m∈l,Fv b m:=λm hm=>Fv.of (by simp[Bd,h1,hfit m hm])
    exact⟨hb,h1,⟨by have:=aP.1 hi;omega,by omega⟩,hm,hfit,hfv,λm hm=>⟨by have:=adR hb (hfit m hm);omega,(hfv m hm).toMv.le.2⟩,h5,by omega,(lf h5).2⟩
   .cases h3
  .cases h3
 .cases h3
theorem Ok.check{b:bV}{l:List bZ}{aw:List (List Int)}(h:Ok b l aw):fU b.f l=0:=by
 simp[fU,h.bv.fv,h.ai]
theorem VV{b:bV}{m:bZ}(h:Bv b)(hn:m.name.length<=1000000000)(hl:m.dz.length<=1000000000):Cl 306 [.agg (mL m),.bg (bL b)] (.bool (fits b m)) J:=by
 refine au ?_;have hC:=λJ=>QK (J:=J) (m:=m) h hn hl
 simp[hC]
theorem QP{b:bV}{l:List bZ}(h:Bv b)(hs:∀m∈l,m.name.length<=1000000000/\m.dz.length<=1000000000)(hl:l.length<=1000000000):
  Cl 305 [lF l bZ.enc,.fn 306 [] [.bg (bL b)]] (.bool (dj l (fits b))) J :=
 B8 (yg 2 bZ.enc (λ_=>rfl)) (f:=305) (g:=342) (h:=341) (i:=366) (l:=l) (p:=fits b) rfl rfl rfl rfl (by omega) (oW.fn λx hx J=>VV h (hs x hx).1 (hs x hx).2) rfl
theorem Zp{b:bV}{l:List bZ}{aw:List (List Int)}(h:Ok b l aw):
  Cl 253 [.agg (bL b),lF l bZ.enc,lF aw IY] (iI 0) J:=by
 refine au ?_;have hs:∀m∈l,m.name.length<=1000000000/\m.dz.length<=1000000000:=λm hm=>⟨(h.short m hm).1,by have:=(h.short m hm).2;omega⟩
 have hl:=h.len;have htab:=h.bv.dP;have ht:b.dP.length<=1000000000:=by
  simp only[fK,af]at htab;have:=aP.1 htab.1;omega
 have h1:=λJ=>Dk (J:=J) (b:=b) ht (by have:=h.bv.av;omega)
 have h2:=λJ=>EU (J:=J) (f:=b.f) (l:=l) hs (by omega)
 have h3:=λJ=>QP (J:=J) (l:=l) h.bv hs (by omega)
 have h4:=λJ=>VT (J:=J) (b:=b) (aw:=aw) (by have:=h.UW;omega) (λr hr=>by have:=(h.aF r hr).len;have:=h.bv.av;omega)
 have hi:bC l.length 1 40=true:=aP.2 (by omega);have ha:dj l (fits b)=true:=eP.2 h.fit;rw[h.valid]at h1;rw[h.check]at h2;rw[ha]at h3;rw[h.pl]at h4;simp[h1,h2,h3,h4,dQ,hi]
abbrev RunT:=List (List Rock.aG)×List (List Rock.aG)
def F3(r:RunT):List D:=[lF r.1 lq,lF r.2 lq]
theorem Ym(l:List RunT):(fM l F3).length=l.length*2:=b8 (f:=F3) (w:=2) (λ_=>rfl) l
def zn(b:bV)(aw:List (List Int)):List bZ->Option (List RunT)
 |[]=>some []
 |m::l=>match Rock.run b m aw with
  |some r=>(zn b aw l).map (r :: ·)
  |none=>none
def Qb(n:Nat)(acc:List RunT)(J:SK)(r:Option (List RunT))(x:Abs.Exit)(e:Env)(J':SK):Prop:=match r with
 |some rs=>x=.exit 0/\get e 6=.sl J.length 0 n 0 n 2/\J'=[.cells n (fM (acc++rs) F3)]::J
 |none=>x=.fu (.ui 428 (.agg []))/\∃bF,J'=bF::J
theorem QX{b:bV}{l:List bZ}{aw:List (List Int)}(h:Ok b l aw):∀(k i:Nat) (acc:List RunT),i+k=l.length->acc.length=i ->
  WL T [2,3,6,9,10,11] false pC [(2,lF aw IY),(3,.bg (bL b)),(6,.sl J.length 0 i 0 i 2),(9,lF l bZ.enc),(10,iI l.length),(11,iI i)] ([.cells i (fM acc F3)]::J)
   (Qb l.length acc J (zn b aw (l.drop i)))
 |0,i,acc,hi,ha=>by
  refine aA pC.eq_1 ?_;obtain rfl:i=l.length:=by omega
  have h2:l.drop l.length=[]:=an (by omega);simp[h2,zn,Qb]
 |k+1,i,acc,hi,ha=>by
  refine aA pC.eq_1 ?_;have h1:i<l.length:=by omega
  obtain⟨m,hm⟩:=gE h1;have hlen:=h.len;have h2:=Tf hm;have h4:=cg h1;have h5:=bx hm;have hmem:=aj hm;have a4:=Ym acc;rw[ha]at a4;have a6:(fM acc F3).take (i*2)=fM acc F3:=ah (by omega);have h7:(i+1)*48<=room:=by unfold room;omega
  have hp:aw.length<=200:=by have:=h.UW;omega
  rw[h5,zn];cases hr:Rock.run b m aw with
  |none =>
   have hC:=λJ=>Sj (J:=J) (h.fv m hmem) hp h.aF hr
   simp[h1,h2,hC,Qb]
  |some r =>
   obtain⟨ss,ys⟩:=r;have hC:=λJ hJ=>Sk (J:=J) (h.fv m hmem) hp h.aF hJ hr
   have ih:=QX h k (i+1) (acc++[(ss,ys)]) (by omega) (by simp[ha]);simp[h1,h2,h4,hC,a4,a6,h7];refine WL.to ih (by simp) (by simp[F3]) λx e J' hh=>?_
   cases hq:zn b aw (l.drop (i+1))with
   |none=>rw[hq]at hh;simpa[Qb]using hh
   |some rs=>rw[hq]at hh;simpa[Qb]using hh
theorem V7{b:bV}{l:List bZ}{aw:List (List Int)}(h:Ok b l aw)(hJ:J≠[]){rs:List RunT}(hr:zn b aw l=some rs)(hl:rs.length=l.length):
  Cl 255 [.agg (bL b),lF l bZ.enc,lF aw IY] (lF rs F3) J:=by
 refine au ?_;simp[];refine WL.to (QX (J:=J) h l.length 0 [] (by omega) rfl) (by simp) (by simp) ?_;rw[aC,hr];rintro x e J' ⟨rfl,g6,rfl⟩;simp[g6];rw[<- hl,ki (f:=F3) (by decide) (λ_=>rfl) (λx=>by simp[F3,D.clean,abB]) hJ (by simp)];simp
theorem V6{b:bV}{l:List bZ}{aw:List (List Int)}(h:Ok b l aw)(hr:zn b aw l=none):
  dr T (.call false 255 [.agg (bL b),lF l bZ.enc,lF aw IY] J)=some (.fu (.ui 428 (.agg [])) J):=by
 refine dX rfl rfl rfl ?_;simp[];refine WL.to (QX (J:=J) h l.length 0 [] (by omega) rfl) (by simp) (by simp) ?_;rw[aC,hr];rintro x e J' ⟨rfl,bF,rfl⟩;simp[D.clean]
theorem My{b:bV}{aw:List (List Int)}:∀{l:List bZ} {rs:List RunT},zn b aw l=some rs->rs.length=l.length/\∀(i:Nat) m,l[i]?=some m->∃r,rs[i]?=some r/\Rock.run b m aw=some r
 |[],rs,h=>by simp only[zn,ae]at h;subst h;simp
 |m::l,rs,h=>by
  simp only[zn]at h;cases hr:Rock.run b m aw with
  |none=>rw[hr]at h;cases h
  |some r =>
   rw[hr]at h;simp only[ad]at h;obtain⟨rs',h1,rfl⟩:=h;obtain⟨g1,g2⟩:=My h1;refine⟨by simp[g1],?_⟩;intro i m' hm';cases i with
   |zero=>simp only[cN,ae]at hm';subst hm';exact⟨r,rfl,hr⟩
   |succ i=>simpa using g2 i m' (by simpa using hm')
theorem ZI{x:Rock.aG}:Cl 345 [.agg x.enc] (iI x.m) J:=by
 refine au ?_;simp
theorem Wf{x:Rock.aG}:Cl 347 [.agg x.enc] (iI x.k) J:=by
 refine au ?_;simp
def rowAt(l:List (List Rock.aG))(t:Nat):List Rock.aG:=(l[t]?).getD []
structure Rs(b:bV)(l:List bZ)(n:Nat)(rs:List RunT):Prop where
 len:rs.length=l.length
 ne:1<=l.length/\l.length<=40
 n6:n<=200
 av:b.av.length<=8
 bn:1<=b.n/\b.n<=64
 all:∀r∈rs,LJ b n r.1 r.2
 fv:∀m∈l,Fv b m
theorem P5{b:bV}{n:Nat}{r:RunT}(h:LJ b n r.1 r.2){t:Nat}(ht:t<n):r.2[t]?=some (rowAt r.2 t)/\Yv b (rowAt r.2 t):=by
 have h1:t<r.2.length:=by rw[h.yl];exact ht
 have h2:r.2[t]?=some r.2[t]:=aH h1;have h3:rowAt r.2 t=r.2[t]:=by simp[rowAt,h2]
 rw[h3];exact⟨h2,h.yv _ (List.getElem_mem h1)⟩
theorem Yh{b:bV}{n:Nat}{r:RunT}(h:LJ b n r.1 r.2){t:Nat}(ht:t<=n):r.1[t]?=some (rowAt r.1 t)/\Sv b (rowAt r.1 t):=by
 have h1:t<r.1.length:=by rw[h.sl];omega
 have h2:r.1[t]?=some r.1[t]:=aH h1;have h3:rowAt r.1 t=r.1[t]:=by simp[rowAt,h2]
 rw[h3];exact⟨h2,h.sv _ (List.getElem_mem h1)⟩
theorem TM{b:bV}{y:List Rock.aG}(h:Yv b y){w:Nat}(hw:w<b.av.length):y[w]?=some (aR y w):=by
 have h1:w<y.length:=by rw[h.len];exact hw
 simp[aR,aH h1]
theorem Yz{l:List (List Rock.aG)}{t:Nat}{s:List Rock.aG}(h:l[t]?=some s):((fM l lq).drop t).take 1=[lF s aG.enc]:=by
 have:=bd (f:=lq) (w:=1) (λ_=>rfl) h;simpa[lq]using this
theorem aaX{l:List RunT}{j:Nat}{r:RunT}(h:l[j]?=some r):((fM l F3).drop (j*2)).take 2=[lF r.1 lq,lF r.2 lq] :=
 bd (f:=F3) (w:=2) (λ_=>rfl) h
end
end Go.Proofs.YtpapbbojmclkgaaGreatDoor
namespace Go.Rock
open Go Go.Abs
def three:List Rw:=[⟨100,101,419,2676,150⟩,⟨150,476,632,2746,300⟩,⟨200,1555,852,2793,600⟩]
end Go.Rock
namespace Go.Proofs.YtpapbbojmclkgaaGreatDoor
open Go Go.Abs Go.Rock
variable {J:SK}
theorem Rs.of{b:bV}{l:List bZ}{aw:List (List Int)}(h:Ok b l aw){rs:List RunT}(hr:zn b aw l=some rs):Rs b l aw.length rs:=by
 obtain⟨h1,h2⟩:=My hr;refine⟨h1,h.len,h.UW,h.bv.av,h.bv.n,?_,h.fv⟩;intro r hmem;obtain⟨i,hi⟩:=fT hmem;have hlt:i<l.length:=by rw[<- h1];exact(aB.1 hi).1
 obtain⟨m,hm⟩:=gE hlt;obtain⟨r',h3,h4⟩:=h2 i m hm;rw[hi]at h3;cases h3;exact LJ.of (h.fv m (aj hm)) h.aF h4
theorem Xk{l u n w:Nat}{k:Int}{S S':SK}{cs:List D}{i:Nat}(h:cF l 15 (.sl u i n 0 n w) S=(.bT n cs,S')):cF l 16 (.cK [.sl u i n 0 n w,iI k]) S=(.cK [.bT n cs,iI k],S'):=by
 rw[o4 (by rfl) (by omega)];simp only[jb,j9];rw[h,ek (by rfl) (by omega)]
theorem Pf(l:List Nat):(fM l λ_=>[D.bT 0 []])=List.replicate l.length (.bT 0 []):=by
 induction l with
 |nil=>rfl
 |cons a l ih=>rw[db,ih];rfl
end Go.Proofs.YtpapbbojmclkgaaGreatDoor
namespace Go.Rock
open Go Go.Abs
structure pU where
 name:List UInt8
 kind:Int
 bl:List Int
 wt:List Int
 lo:Int
 hi:Int
structure tz where
 tick:Int
 jY:Int
 idx:Int
 lo:Int
 hi:Int
@[simp] theorem pU.eta(p:pU):pU.mk p.name p.kind p.bl p.wt p.lo p.hi=p:=rfl
@[simp] theorem tz.eta(p:tz):tz.mk p.tick p.jY p.idx p.lo p.hi=p:=rfl
@[simp] def pU.enc(m:pU):List D:=[.str m.name,iI m.kind,lF m.bl aO,lF m.wt aO,iI m.lo,iI m.hi]
@[simp] def tz.enc(x:tz):List D:=[iI x.tick,.int .u8 x.jY,iI x.idx,iI x.lo,iI x.hi]
def zt(n:Int):Int->List Int->List Int->Bool
 |last,b::bl,w::wt=>decide (last<b) && (decide (b<n) && (bC w (-1000) 1000 && zt n b bl wt))
 |_,_,_=>true
def Eh(f:dD)(kind:Int)(bl wt:List Int):Bool:=bC kind 0 (f.k-1) && (decide (1<=bl.length) && (decide (bl.length=wt.length) && zt f.size (-1) bl wt))
def Dq(lo hi:Int):Bool:=decide (-10000000000<=lo) && (decide (lo<=hi) && decide (hi<=10000000000))
def dD.measure(f:dD)(m:pU):Int:=if named m.name then(if Eh f m.kind m.bl m.wt && Dq m.lo m.hi then 0 else 1)else 5
def dD.yf(f:dD)(met:List (List UInt8)):List pU->Int
 |[]=>0
 |m::l=>if f.measure m=0 then(if met.contains m.name then 6 else f.yf (met++[m.name]) l)else f.measure m
def dD.wC(f:dD)(l:List pU):Int:=if 12<l.length then 3 else f.yf [] l
structure ZN(f:dD)(x:pU):Prop where
 name:x.name.length<=16
 kind:0<=x.kind/\x.kind<f.k
 ne:1<=x.bl.length
 len:x.bl.length=x.wt.length
 aaT:zt f.size (-1) x.bl x.wt=true
 ends : -10000000000<=x.lo/\x.lo<=x.hi/\x.hi<=10000000000
theorem ZN.of{f:dD}{x:pU}(h:f.measure x=0):ZN f x:=by
 unfold dD.measure at h;split at h
 .rename_i h1;split at h
  .rename_i h2;simp only[Eh,Dq,af,az,aP]at h2;obtain⟨⟨h3,h4,h5,h6⟩,h7,h8,h9⟩:=h2;simp only[named,af]at h1;have:=aP.1 h1.2;exact⟨by omega,by omega,h4,h5,h6,h7,h8,h9⟩
  .cases h
 .cases h
theorem H6{n:Int}:∀{bl wt:List Int} {last:Int},bl.length=wt.length->zt n last bl wt=true->last<n->(bl.length:Int)<=n-1-last
 |[],wt,last,hl,h,hn=>by simp;omega
 |b::bl,[],last,hl,h,hn=>by simp at hl
 |b::bl,w::wt,last,hl,h,hn=>by
  simp only[zt,af,az]at h;obtain⟨h1,h2,h3,h4⟩:=h;have:=H6 (n:=n) (bl:=bl) (wt:=wt) (last:=b) (by simpa using hl) h4 h2;simp only[aE];omega
theorem K1{n:Int}:∀{bl wt:List Int} {last:Int} {i:Nat} {b w:Int},zt n last bl wt=true->bl[i]?=some b->wt[i]?=some w->last<b/\b<n/\(-1000<=w/\w<=1000)
 |[],wt,last,i,b,w,h,hb,hw=>by simp at hb
 |b'::bl,[],last,i,b,w,h,hb,hw=>by simp at hw
 |b'::bl,w'::wt,last,i,b,w,h,hb,hw=>by
  simp only[zt,af,az]at h;obtain⟨h1,h2,h3,h4⟩:=h;cases i with
  |zero =>
   simp only[cN,ae]at hb hw;subst hb hw;exact⟨h1,h2,aP.1 h3⟩
  |succ i =>
   have:=K1 h4 (by simpa using hb) (by simpa using hw);omega
def Qq(dz:List Int)(off:Int):Int->List Int->List Int->Int
 |acc,b::bl,w::wt=>Qq dz off (acc+w*(dz[(off+b).toNat]?).getD 0) bl wt
 |acc,_,_=>acc
def zw(f:dD)(m:bZ)(x:pU):Int:=Qq m.dz (x.kind*f.size) 0 x.bl x.wt
def XL(lo hi s:Int):Int:=if hi<s then s-hi else if s<lo then s-lo else 0
def D2(lo hi s:Int):Int:=max 0 (s-hi)+min 0 (s-lo)
theorem Rt{lo hi s:Int}(h:lo<=hi):D2 lo hi s=XL lo hi s:=by
 unfold D2 XL;split
 .omega
 .split<;>omega
def aG.F4(y:aG):Int:=if y.m=0 then 0 else y.h.tdiv y.m
def aG.MK(y:aG)(jY:Int):Int:=if jY=2 then y.m else if jY=3 then y.F4 else y.k
def pa(b:bV)(m:bZ)(r:List (List aG)×List (List aG))(x:tz):Int :=
 if x.jY=1 then dw b m ((r.1[x.tick.toNat]?).getD []) x.idx.toNat else aG.MK (aR ((r.2[x.tick.toNat-1]?).getD []) x.idx.toNat) x.jY
def eU(b:bV)(uY:Int)(x:tz):Int :=
 if !bC x.jY 1 4 || (decide (x.lo < -10000000000) || (decide (x.hi<x.lo) || decide (10000000000<x.hi)))then 1
 else if !bC x.tick (if x.jY=1 then 0 else 1) uY || !bC x.idx 0 ((if x.jY=1 then b.size else b.av.length)-1)then 2 else 0
def vu(b:bV)(uY:Int)(l:List tz):Int:=if 40<l.length then 3 else bU (eU b uY) l
structure Vc(b:bV)(n:Nat)(x:tz):Prop where
 jY:1<=x.jY/\x.jY<=4
 ends : -10000000000<=x.lo/\x.lo<=x.hi/\x.hi<=10000000000
 p:x.jY=1->(0<=x.tick/\x.tick<=n)/\0<=x.idx/\x.idx<b.size
 y:x.jY≠1->(1<=x.tick/\x.tick<=n)/\0<=x.idx/\x.idx<b.av.length
theorem Vc.of{b:bV}{n:Nat}{x:tz}(h:eU b n x=0):Vc b n x:=by
 unfold eU at h;by_cases h3:x.jY=1
 .rw[if_pos h3,if_pos h3]at h;split at h
  .cases h
  .rename_i h1;simp only[cj,az,dT,not_or,Bool.not_eq_false,aP]at h1;split at h
   .cases h
   .rename_i h2;simp only[cj,dT,not_or,Bool.not_eq_false,aP]at h2;exact⟨h1.1,by omega,λ_=>by omega,λh=>absurd h3 h⟩
 .rw[if_neg h3,if_neg h3]at h;split at h
  .cases h
  .rename_i h1;simp only[cj,az,dT,not_or,Bool.not_eq_false,aP]at h1;split at h
   .cases h
   .rename_i h2;simp only[cj,dT,not_or,Bool.not_eq_false,aP]at h2;exact⟨h1.1,by omega,λh=>absurd h h3,λ_=>by omega⟩
end Go.Rock
namespace Go.Proofs.YtpapbbojmclkgaaGreatDoor
open Go Go.Abs Go.Rock
variable {J:SK}
theorem Lx{f:dD}(h:f.valid=true):Cl 293 [.agg (fL f)] (iI f.size) J:=by
 obtain⟨h1,h2,h3,h4,h5⟩:=dD.nJ.1 h;exact Js h1 h2 h3
theorem Wv{f:dD}{bl wt:List Int}(hf:f.valid=true)(hl:bl.length<=9223372036854775807)(hw:bl.length=wt.length):∀(k i:Nat) (last:Int),i+k=bl.length ->
  WL T [3,4,9,30,31,32] false gA [(3,lF wt aO),(4,.bg (fL f)),(9,iI last),(30,lF bl aO),(31,iI bl.length),(32,iI i)] J
   (λx e J'=>J'=J/\if zt f.size last (bl.drop i) (wt.drop i)then x=.exit 0 else x=.ret/\get e 8=.bool false)
 |0,i,last,hi=>by
  refine aA gA.eq_1 ?_;have h1:¬i<bl.length:=by omega
  have h2:bl.drop i=[]:=an (by omega);simp[h1,h2,zt]
 |k+1,i,last,hi=>by
  refine aA gA.eq_1 ?_;have⟨h1,h1'⟩:i<bl.length/\i<wt.length:=by omega
  obtain⟨b,hb⟩:=gE h1;obtain⟨w,hw'⟩:∃r,wt[i]?=some r:=⟨_,aH h1'⟩;have h2:=gp hb;have h3:=gp hw';have h4:=cg h1 hl;have h5:=bx hb;have h6:=bx hw';have hB:=λJ=>Lx (J:=J) hf
  have ih:=Wv hf hl hw k (i+1) b (by omega);rw[h5,h6,zt];by_cases c1:b<=last
  .simp[h1,h2,c1,show ¬last<b by omega]
  .by_cases c2:f.size<=b
   .simp[h1,h2,hB,c1,c2,show last<b by omega,show ¬b<f.size by omega]
   .cases c3:bC w (-1000) 1000
    .simp[h1,h1',h2,h3,hB,iU,c1,c2,c3,show last<b by omega,show b<f.size by omega]
    .simp[h1,h1',h2,h3,h4,hB,iU,c1,c2,c3,show last<b by omega,show b<f.size by omega];exact WL.to ih (by simp) rfl λx e J hh=>by simpa[show last<b by omega,show b<f.size by omega]using hh
theorem acU{f:dD}{k:Int}{bl wt:List Int}(hf:f.valid=true)(hl:bl.length<=9223372036854775807)(hk:f.valid=true->True):
  Cl 297 [.agg (fL f),iI k,lF bl aO,lF wt aO] (.bool (Eh f k bl wt)) J:=by
 refine au ?_;obtain⟨q1,q2,q3,q4,q5⟩:=dD.nJ.1 hf;have w1:=cb (n:=f.k-1);unfold Eh;cases c1:bC k 0 (f.k-1)
 .simp[iU,w1,c1]
 by_cases c2:1<=bl.length
 rotate_left
 .have:bl=[]:=bq.1 (by omega);subst this;simp[iU,w1,c1]
 have c2':¬(bl.length:Int)<1:=by omega
 have c2'':¬bl=[]:=λh=>by rw[h]at c2;simp at c2
 by_cases c3:bl.length=wt.length
 rotate_left
 .simp[iU,w1,c1,c2',c3,show ¬(bl.length:Int)=wt.length by omega]
 have c4:¬(wt.length:Int)<1:=by omega
 have c5:¬wt=[]:=λh=>by rw[h]at c3;simp at c3;exact c2'' c3
 simp[iU,w1,c1,c3,c4];refine WL.to (Wv (J:=[]::J) hf hl c3 bl.length 0 (-1) (by omega)) (by simp[c3]) rfl ?_;rintro x e J' ⟨rfl,h⟩;simp only[aC]at h;cases hc:zt f.size (-1) bl wt
 .simp[hc]at h;simp[h]
 .simp[hc]at h;simp[h];omega
theorem Y9{lo hi:Int}:Cl 298 [.agg [iI lo,iI hi]] (.bool (Dq lo hi)) J:=by
 refine au ?_;unfold Dq;by_cases c1 : -10000000000<=lo
 .by_cases c2:lo<=hi<;>simp[c1,c2]
 .simp[c1]
theorem LC{f:dD}{m:pU}(hf:f.valid=true)(hn:m.name.length<=1000000000)(hl:m.bl.length<=9223372036854775807):
  Cl 243 [.agg (fL f),.agg m.enc] (iI (f.measure m)) J:=by
 refine au ?_;have h1:=λJ=>I6 (J:=J) hn
 have h2:=λJ=>acU (J:=J) (k:=m.kind) (wt:=m.wt) hf hl (λ_=>trivial)
 unfold dD.measure;cases c1:named m.name
 .simp[h1,c1]
 cases c2:Eh f m.kind m.bl m.wt
 .simp[h1,h2,c1,c2]
 cases c3:Dq m.lo m.hi<;>simp[h1,h2,Y9,c1,c2,c3]
theorem af6{f:dD}{m:pU}(hf:f.valid=true)(hn:m.name.length<=1000000000)(hl:m.bl.length<=9223372036854775807):
  Cl 291 [.agg m.enc,.bg (fL f)] (.cK [.str m.name,iI (f.measure m)]) J:=by
 refine au ?_;have h:=λJ=>LC (J:=J) hf hn hl
 simp only[pU.enc]at h ⊢;simp[h]
theorem Jh{l:List pU}{j:Nat}{m:pU}(h:l[j]?=some m):((fM l pU.enc).drop (j*6)).take 6=m.enc :=
 bd (f:=pU.enc) (w:=6) (λ_=>rfl) h
def RM(l:List pU):Prop:=∀m∈l,m.name.length<=1000000000/\m.bl.length<=9223372036854775807
theorem Su{f:dD}{l:List pU}(hf:f.valid=true)(hs:RM l)(hl:l.length<=1000000000):∀(k i:Nat) (met:List (List UInt8)),i+k=l.length ->
  WL T [1,5,11,12,13] false dS [(1,.fn 291 [] [.bg (fL f)]),(5,.jU J.length 0),(11,lF l pU.enc),(12,iI l.length),(13,iI i)] ([.cells 0 (ER met)]::J)
   (λx e J'=>∃s,J'=s::J/\if f.yf met (l.drop i)=0 then x=.exit 0 else x=.ret/\get e 4=iI (f.yf met (l.drop i)))
 |0,i,met,hi=>by
  refine aA dS.eq_1 ?_;have h1:¬i<l.length:=by omega
  have h2:l.drop i=[]:=an (by omega);simp[h1,h2,dD.yf]
 |k+1,i,met,hi=>by
  refine aA dS.eq_1 ?_;have h1:i<l.length:=by omega
  obtain⟨m,hm⟩:=gE h1;have h2:=Jh hm;have h4:=cg h1;have h5:=bx hm;obtain⟨hs1,hs2⟩:=hs m (aj hm);have hC:=λJ=>af6 (J:=J) hf hs1 hs2
  simp only[pU.enc]at h2 hC;rw[h5,dD.yf];by_cases hc1:f.measure m=0
  .have hg:=abS (S:=[.cells 0 (ER met)]::J) (l:=J.length) (i:=0) (met:=met) (k:=m.name) (by simp);cases hc2:met.contains m.name
   .rw[hc2]at hg;have hp:=abT (S:=[.cells 0 (ER met)]::J) (l:=J.length) (i:=0) (met:=met) (k:=m.name) (by simp) hc2;have ih:=Su hf hs hl k (i+1) (met++[m.name]) (by omega);simp at hp;have hc3:¬m.name∈met:=by simpa using hc2
    simp[h1,h2,h4,hC,hc1,hg,hp];exact WL.to ih (by simp) (by simp) λx e J' hh=>by simpa[hc1]using hh
   .rw[hc2]at hg;have hc3:m.name∈met:=by simpa using hc2
    simp[h1,h2,hC,hc1,hg]
  .simp[h1,h2,hC,hc1]
theorem Y8{f:dD}{l:List pU}(hf:f.valid=true)(hs:RM l)(hl:l.length<=1000000000):
  Cl 290 [lF l pU.enc,.fn 291 [] [.bg (fL f)]] (iI (f.yf [] l)) J:=by
 refine au ?_;have hm:Dc ([]::J) .make []=some (.jU J.length 0,[.cells 0 (ER [])]::J):=by simp[Dc,ER]
 simp[hm];refine WL.to (Su (J:=J) hf hs hl l.length 0 [] (by omega)) (by simp) (by simp) ?_;rintro x e J' ⟨s,rfl,h⟩;simp only[aC]at h;by_cases hc:f.yf [] l=0
 .rw[if_pos hc]at h;subst h;simp[hc]
 .rw[if_neg hc]at h;obtain⟨rfl,h⟩:=h;simp[h]
theorem QL{f:dD}{l:List pU}(hf:f.valid=true)(hs:RM l)(hl:l.length<=1000000000):
  Cl 239 [.agg (fL f),lF l pU.enc] (iI (f.wC l)) J:=by
 refine au ?_;unfold dD.wC;by_cases hc:12<l.length
 .simp[hc,show(12:Int)<l.length by omega]
 .simp[hc,show ¬(12:Int)<l.length by omega,Y8 hf hs hl]
structure Fm(f:dD)(m:bZ):Prop where
 fv:f.valid=true
 len:(m.dz.length:Int)=f.k*f.size
 ok:∀v∈m.dz,-100000<=v/\v<=100000
theorem Fm.of{f:dD}{m:bZ}(hf:f.valid=true)(h:f.model m=0):Fm f m:=by
 unfold dD.model at h;split at h
 .split at h
  .rename_i h1;exact⟨hf,h1.1,λv hv=>aP.1 (eP.1 h1.2 v hv)⟩
  .cases h
 .cases h
theorem Ru{a b A B:Int}(ha : -A<=a/\a<=A)(hb : -B<=b/\b<=B)(hA:0<=A) : -(A*B)<=a*b/\a*b<=A*B:=by
 have key:∀x:Int,0<=x->x<=A -> -(A*B)<=x*b/\x*b<=A*B:=by
  intro x h0 h1;have e1:x*b<=x*B:=Int.mul_le_mul_of_nonneg_left hb.2 h0;have e2:x*(-B)<=x*b:=Int.mul_le_mul_of_nonneg_left hb.1 h0;have e3:x*B<=A*B:=dR h1 (by omega);rw[Int.mul_neg]at e2;omega
 rcases eV 0 a with h | h
 .exact key a h ha.2
 .have:=key (-a) (by omega) (by omega);rw[Int.neg_mul]at this;omega
theorem ai3{f:dD}{m:bZ}{x:pU}(hm:Fm f m)(hx:ZN f x):∀(k i:Nat) (acc:Int),i+k=x.bl.length -> -(i*100000000)<=acc/\acc<=i*100000000 ->
  WL T [2,3,4,8,9,10] false jZ [(2,.bg [iI f.x,iI f.y,iI f.z,iI f.k,iI x.kind,lF x.bl aO,lF x.wt aO]),(3,.bg (mL m)),(4,iI acc),(8,lF x.bl aO),(9,iI x.bl.length),(10,iI i)] J
   (λx' e J'=>J'=J/\x'=.exit 0/\get e 4=iI (Qq m.dz (x.kind*f.size) acc (x.bl.drop i) (x.wt.drop i))):=by
 intro k;induction k with
 |zero =>
  intro i acc hi ha;refine aA jZ.eq_1 ?_;have h1:¬i<x.bl.length:=by omega
  have h2:x.bl.drop i=[]:=an (by omega);simp[h1,h2,Qq]
 |succ k ih0 =>
  intro i acc hi ha;refine aA jZ.eq_1 ?_;have h1:i<x.bl.length:=by omega
  have hlen:=hx.len;have h1':i<x.wt.length:=by omega
  obtain⟨b,hb⟩:=gE h1;obtain⟨w,hw⟩:=gE h1';obtain⟨q1,q2⟩:=BL hm.fv;obtain⟨z1,z2,z3,z4,z5⟩:=dD.nJ.1 hm.fv;obtain⟨s1,s2,s3⟩:=K1 hx.aaT hb hw;have hl64:=H6 hx.len hx.aaT (by omega);have h4:=cg h1;have h5:=bx hb;have h6:=bx hw;have h2:=gp hb;have h3:=gp hw;have k1:=hx.kind;have k2:0<=x.kind*f.size/\x.kind*f.size+f.size<=f.k*f.size:=by
   refine⟨bA k1.1 (by omega),?_⟩;have:=dR (show x.kind+1<=f.k by omega) (show 0<=f.size by omega);rw[Int.add_mul]at this;omega
  have hvl:=hm.len;obtain⟨j,hj⟩:∃j:Nat,x.kind*f.size+b=j:=⟨(x.kind*f.size+b).toNat,by omega⟩;have hj1:j<m.dz.length:=by omega
  obtain⟨v,hv⟩:=gE hj1;have hvb:=hm.ok v (aj hv);have h7:=gp hv;have hB:=λJ=>Lx (J:=J) hm.fv
  have b1:=Ru (a:=w) (b:=v) (A:=1000) (B:=100000) (by omega) hvb (by omega);have w1:=cb (n:=x.kind*f.size);have w2:=cb (n:=(j:Int));have w3:=cb (n:=w*v);have w4:=cb (n:=acc+w*v);have ih:=ih0 (i+1) (acc+w*v) (by omega) (by omega);rw[h5,h6,Qq,hj];simp only[Int.toNat_natCast];simp[h1,h1',h2,h3,h4,hB,w1,w2,w3,w4,hj,hj1,h7];exact WL.to ih (by simp) rfl λx e J hh=>by simpa[hv]using hh
theorem ZB{f:dD}{m:bZ}{x:pU}(hm:Fm f m)(hx:ZN f x):Cl 299 [.agg [iI f.x,iI f.y,iI f.z,iI f.k,iI x.kind,lF x.bl aO,lF x.wt aO],.agg (mL m)] (iI (zw f m x)) J:=by
 refine au ?_;simp;refine WL.to (ai3 (J:=[]::J) hm hx x.bl.length 0 0 (by omega) (by simp)) (by simp) rfl ?_;rintro x' e J' ⟨rfl,rfl,g⟩;simp[g,zw]
theorem Wc{f:dD}{x:pU}:Cl 244 [.agg (fL f),.agg x.enc] (.fn 299 [.agg [iI f.x,iI f.y,iI f.z,iI f.k,iI x.kind,lF x.bl aO,lF x.wt aO]] []) J:=by
 refine au ?_;simp[D.clean,mw]
end Go.Proofs.YtpapbbojmclkgaaGreatDoor
namespace Go.Book
open Go Go.Abs Go.Rock
def rK(f:dD)(x:pU):Int:=if f.valid=true then f.measure x else 1
def tw(p:Int×Int):List D:=[iI p.1,iI p.2]
def eL(nm:List UInt8)(k lo hi:Int)(ps:List (Int×Int)):pU:=⟨nm,k,ps.map (·.1),ps.map (·.2),lo,hi⟩
end Go.Book
namespace Go.Proofs.YtpapbbojmclkgaaGreatDoor
open Go Go.Abs Go.Rock Go.Book
variable {J:SK}
theorem Oe{f:dD}{x:pU}(hf:f.valid=true)(hn:x.name.length<=1000000000)(hl:x.bl.length<=1000000000):
  Cl 238 [.bg (fL f),.bg [.bT 1 x.enc]] (iI (f.measure x)) J:=by
 refine au ?_;have h:=λJ=>QL (J:=J) (f:=f) (l:=[x]) hf (by intro m hm;simp at hm;subst hm;exact⟨hn,by omega⟩) (by simp)
 try simp only[lF,Cl,fL]at h
 have he:f.wC [x]=f.measure x:=by
  simp only[dD.wC,dD.yf];by_cases h:f.measure x=0<;>simp[h]
 rw[he]at h;simp only[List.length_singleton,db,mY,da]at h;simp only[lF,pU.enc]at h ⊢;simp[h]
theorem Ib{f:dD}{x:pU}(hn:x.name.length<=1000000000)(hl:x.bl.length<=1000000000):
  Cl 207 [.agg (fL f),.bT 1 x.enc] (iI (rK f x)) J:=by
 refine au ?_;have hC:=λJ=>MQ (J:=J) (fs:=[.fn 232 [.agg (fL f)] [],.fn 238 [] [.bg (fL f),.bg [.bT 1 x.enc]]]) (es:=[f.shape,f.measure x]) rfl (by simp) (by simp) (by
  intro i d n hd hn' h0 J;match i with
  |0 =>
   simp at hd hn';subst hd hn';simp[I7]
  |1 =>
   simp only[List.getElem?_cons_succ,cN,ae]at hd hn';subst hd hn';have h1:f.valid=true:=by
    have:=h0 0 (by omega);simp[dD.shape]at this;exact this
   have hh:=Oe (J:=J) h1 hn hl;rw[pn];have h':dr T (.call false 238 ([]++[]++[.bg (fL f),.bg [.bT 1 x.enc]]) J)=_:=hh;rw[h'];rfl
  |i+2=>simp at hd)
 have e1:bU id [f.shape,f.measure x]=rK f x:=by
  simp only[bU,id,rK,dD.shape];by_cases h:f.valid=true
  .by_cases h2:f.measure x=0<;>simp[h,h2]
  .simp[h]
 rw[e1]at hC;simp only[pU.enc,aE,aY]at hC ⊢;simp[hC]
theorem acz{f:dD}{m:bZ}(hf:f.valid=true)(hn:m.name.length<=1000000000)(hl:m.dz.length<=1000000000):
  Cl 240 [.bg (fL f),.bg (mL m)] (iI (f.model m)) J:=by
 refine au ?_;simp[Sf hf hn hl]
theorem acA{f:dD}{x:pU}(hf:f.valid=true)(hn:x.name.length<=1000000000)(hl:x.bl.length<=1000000000):
  Cl 242 [.bg (fL f),.bg x.enc] (iI (f.measure x)) J:=by
 refine au ?_;have h:=λJ=>LC (J:=J) (f:=f) (m:=x) hf hn (by omega)
 simp only[pU.enc]at h ⊢;simp[h]
theorem acp{f:dD}{m:bZ}{x:pU}(hf:f.valid=true)(hm:f.model m=0)(hx:f.measure x=0)(hn:m.name.length<=1000000000)(hl:m.dz.length<=1000000000)(hn2:x.name.length<=1000000000)(hl2:x.bl.length<=1000000000):
  Cl 210 [.agg (fL f),.agg (mL m),.agg x.enc] (.cK [iI (zw f m x),iI 0]) J:=by
 refine au ?_;have hC:=λJ=>MQ (J:=J) (fs:=[.fn 232 [.agg (fL f)] [],.fn 240 [] [.bg (fL f),.bg (mL m)],.fn 242 [] [.bg (fL f),.bg x.enc]]) (es:=[f.shape,f.model m,f.measure x]) rfl (by simp) (by simp) (by
  intro i d n hd hn' h0 J;match i with
  |0 =>
   simp at hd hn';subst hd hn';simp[I7]
  |1 =>
   simp at hd hn';subst hd hn';simp[acz hf hn hl]
  |2 =>
   simp only[List.getElem?_cons_succ,cN,ae]at hd hn';subst hd hn';have hh:=acA (J:=J) hf hn2 hl2;rw[pn];have h':dr T (.call false 242 ([]++[]++[.bg (fL f),.bg x.enc]) J)=_:=hh;rw[h'];rfl
  |i+3=>simp at hd)
 have e1:bU id [f.shape,f.model m,f.measure x]=0:=by simp[bU,dD.shape,hf,hm,hx]
 rw[e1]at hC;have hW:=λJ=>Wc (J:=J) (f:=f) (x:=x)
 have hS:=λJ=>ZB (J:=J) (Fm.of hf hm) (ZN.of hx)
 simp only[pU.enc,aE,aY]at hC hW ⊢;simp[hC,hW,hS]
theorem Tr(l:List (Int×Int)):(fM l tw).length=l.length*2:=b8 (f:=tw) (w:=2) (λ_=>rfl) l
theorem oE(l:List Int):(fM l aO).length=l.length:=by have:=b8 (f:=aO) (w:=1) (λ_=>rfl) l;omega
def Nt(L:Nat)(nm:List UInt8)(k lo hi:Int)(ps:List (Int×Int)):List Abs.aG :=
 [.cells 0 [.str nm,iI k,.sl L 1 ps.length 0 ps.length 1,.sl L 2 ps.length 0 ps.length 1,iI lo,iI hi],.cells ps.length (fM (ps.map (·.1)) aO),.cells ps.length (fM (ps.map (·.2)) aO)]
theorem MT{ps:List (Int×Int)}(hps:ps.length<=1000000){X Y:D}(hx:X.calm=X)(hy:Y.calm=Y){nm:List UInt8}{k lo hi:Int}:∀(m j:Nat),j+m=ps.length ->
  WL T [2,3,6,30,31,32] false fa [(2,X),(3,Y),(6,.ref J.length 0 0 0),(30,.bT (ps.length*2) (fM ps tw)),(31,.int .i64 (ps.length*2)),(32,.int .i64 (j*2))] (Nt J.length nm k lo hi (ps.take j)::J)
   (λx e J'=>x=.exit 0/\get e 2=X/\get e 3=Y/\get e 6=.ref J.length 0 0 0/\get e 1000006=.undef/\J'=Nt J.length nm k lo hi ps::J)
 |0,j,h=>by
  refine aA fa.eq_1 ?_;have h1:¬j<ps.length:=by omega
  have h2:ps.take j=ps:=ah (by omega);simp[-List.map_take,h1,hx,hy,h2]
 |m+1,j,h=>by
  refine aA fa.eq_1 ?_;have⟨h1,h2,h3,h0,h0'⟩:j<ps.length/\(j:Int)*2<(ps.length:Int)*2/\(j:Int)*2+1<(ps.length:Int)*2/\0<=(j:Int)*2/\0<=(j:Int)*2+1:=by omega
  obtain⟨p,hp⟩:=gE h1;have hd:=rD (f:=tw) (w:=2) (λ_=>rfl) hp;have hd2:(fM ps tw).drop (j*2+1)=.int .i64 p.2::(fM ps tw).drop (j*2+2):=by
   have:=congrArg (List.drop 1) hd;simpa[qD,tw,dh]using this
  have hd1:(fM ps tw).drop (j*2)=.int .i64 p.1::.int .i64 p.2::(fM ps tw).drop (j*2+2):=by simpa[qD,tw]using hd
  have⟨t1,t2⟩:((j:Int)*2).toNat=j*2/\((j:Int)*2+1).toNat=j*2+1:=by omega
  have w1:=cb (n:=(j:Int)*2+1);have w2:=cb (n:=(j:Int)*2+1+1);have m1:((j:Int)*2).tmod 2=0:=by rw[Int.tmod_eq_emod_of_nonneg (by omega)];omega
  have m2:((j:Int)*2+1).tmod 2=1:=by rw[Int.tmod_eq_emod_of_nonneg (by omega)];omega
  have hl:(ps.take j).length=j:=by simp[];omega
  have hr:(j+1)*8<=room:=by unfold room;omega
  have ha:=oE ((ps.take j).map (·.1));have hb:=oE ((ps.take j).map (·.2));simp only[bG,hl]at ha hb;have ta:(fM ((ps.take j).map (·.1)) aO).take j=fM ((ps.take j).map (·.1)) aO:=ah (by omega);have tb:(fM ((ps.take j).map (·.2)) aO).take j=fM ((ps.take j).map (·.2)) aO:=ah (by omega);have ih:=MT hps hx hy (nm:=nm) (k:=k) (lo:=lo) (hi:=hi) m (j+1) (by omega);have htk:ps.take (j+1)=ps.take j++[p]:=by rw[List.take_add_one,hp];rfl
  rw[htk]at ih;have hj1:((j+1:Nat):Int)*2=(j:Int)*2+1+1:=by omega
  rw[hj1]at ih;simp[-List.map_take,hx,hy,Nt,hl,h0,h1,t1,hd1,w1,m1,hr,ha,ta];refine aA fa.eq_1 ?_;simp[-List.map_take,hx,hy,h0',h3,t2,hd2,w2,m2,hr,hb,tb];refine WL.to ih (by simp[]) (by simp[Nt,hl]) λx e J' hh=>by simpa[qD,Nt]using hh
theorem acH{A F:List Abs.aG}{b:Bk}{er:List Int}{m:bZ}{x:pU}(hf:b.aS.f.valid=true)(hm:b.aS.f.model m=0)(hx:b.aS.f.measure x=0)(hn:m.name.length<=1000000000)(hl:m.dz.length<=1000000000)(hn2:x.name.length<=1000000000)(hl2:x.bl.length<=1000000000):
  Cl 209 [.agg (mL m),.bg [.ref J.length 6 0 0],.bg x.enc] (iI (zw b.aS.f m x)) ([]::A::F::b.bF J.length er::J):=by
 refine au ?_;have hS:=λJ=>acp (J:=J) hf hm hx hn hl hn2 hl2
 simp only[pU.enc]at hS ⊢;simp[Bk.bF,Bk.cells,hS]
theorem WY{x:pU}:D.bf x.enc=true:=by simp[pU.enc,mw]
theorem S6{S:SK}{L:Nat}(hS:S.length=L)(hL:0<L){nm:List UInt8}{k lo hi:Int}{ps:List (Int×Int)}:
  GG L 0 0 (Nt L nm k lo hi ps::S)=(.bg (eL nm k lo hi ps).enc,[.dead,.dead,.dead]::S):=by
 have hne:S≠[]:=by intro h;subst h;simp at hS;omega
 have h1:=o9 (f:=aO) (w:=1) (λ_=>rfl) (λ_=>by simp[D.clean]) (l:=ps.map (·.1)) (j:=1) (v:=ps.length) (bs:=[.dead,.cells ps.length (fM (ps.map (·.1)) aO),.cells ps.length (fM (ps.map (·.2)) aO)]) (J:=S) hne (by simp);have h2:=o9 (f:=aO) (w:=1) (λ_=>rfl) (λ_=>by simp[D.clean]) (l:=ps.map (·.2)) (j:=2) (v:=ps.length) (bs:=[.dead,.dead,.cells ps.length (fM (ps.map (·.2)) aO)]) (J:=S) hne (by simp);rw[hS]at h1 h2;simp only[bG,List.set_cons_succ,List.set_cons_zero]at h1 h2;simp[GG,Nt,hS,h1,h2,eL]
def CX(b:Bk)(x:pU):Bk×Int:=if b.ai=[]then(b,8)else if rK b.aS.f x=0 then(gU b x.lo x.hi λm=>zw b.aS.f m x,0)else(b,rK b.aS.f x)
theorem acI{F:List Abs.aG}{b:Bk}{er:List Int}{nm:List UInt8}{k lo hi:Int}{ps:List (Int×Int)}{b':Bk}{e:Int}(hps:ps.length<=1000000)(hnm:nm.length<=1000000000)(hw:b.eJ.length=b.ai.length)(hml:b.ai.length<=40)(hms:∀e∈b.ai,b.aS.f.model e.m=0/\e.m.name.length<=1000000000/\e.m.dz.length<=1000000000)(hd:CX b (eL nm k lo hi ps)=(b',e))(he:e=0):
  dr T (.call false 165 [.ref J.length 6 0 0,.str nm,.bT (ps.length*2+3) (iI k::iI lo::iI hi::fM ps tw)] (F::b.bF J.length er::J))=some (.val (.cK []) (F::b'.bF J.length er::J)):=by
 refine fy rfl rfl rfl (by simp) ?_;unfold CX at hd;split at hd
 case isTrue=>cases hd;cases he
 rename_i hne;split at hd
 case isFalse=>cases hd;rename_i h;exact absurd he h
 rename_i hck;cases hd;have⟨q0,q1,q2,q3⟩:(0:Int)<(ps.length:Int)*2+3/\(1:Int)<(ps.length:Int)*2+3/\(2:Int)<(ps.length:Int)*2+3/\(3:Int)<=(ps.length:Int)*2+3:=by omega
 have c1:0<b.ai.length:=aI.2 hne;have hC:=λJ=>Ib (J:=J) (f:=b.aS.f) (x:=eL nm k lo hi ps) hnm (by simp[eL];omega)
 simp only[hck]at hC;have hv:b.aS.f.valid=true/\b.aS.f.measure (eL nm k lo hi ps)=0:=by
  unfold rK at hck;split at hck
  .rename_i h;exact⟨h,hck⟩
  .cases hck
 have hlp:=Tr ps;have htp:(fM ps tw).take (ps.length*2)=fM ps tw:=ah (by omega);have hL:=MT (J:=F::b.bF J.length er::J) hps (X:=.bT (ps.length*2+3) (iI k::iI lo::iI hi::fM ps tw)) (Y:=.bg [.ref J.length 6 0 0]) rfl rfl (nm:=nm) (k:=k) (lo:=lo) (hi:=hi) ps.length 0 (by omega);simp[Bk.bF,Bk.cells,c1,cQ,q0,q1,q2,q3];refine WL.to hL (by simp[htp]) (by simp[Nt,Bk.bF,Bk.cells]) ?_;rintro x e J' ⟨rfl,g2,g3,g6,gu,rfl⟩;have hf:=λS hS=>S6 (S:=S) (L:=J.length+1+1) hS (by omega) (nm:=nm) (k:=k) (lo:=lo) (hi:=hi) (ps:=ps)
 have hst:=OC (J:=J) (A:=[.dead,.dead,.dead]) (F:=F) (b:=b) (er:=er) (lo:=lo) (hi:=hi) (val:=λm=>zw b.aS.f m (eL nm k lo hi ps)) (fv:=.fn 209 [] [.bg [.ref J.length 6 0 0],.bg (eL nm k lo hi ps).enc]) rfl rfl hw hml (by
  intro i e he _;obtain⟨k1,k2,k3⟩:=hms e he;have h:=acH (J:=J) (A:=[.dead,.dead,.dead]) (F:=F) (er:=er) (b:=b.gw lo hi (λm=>zw b.aS.f m (eL nm k lo hi ps)) i) (m:=e.m) (x:=eL nm k lo hi ps) hv.1 k1 hv.2 k2 k3 hnm (by simp[eL];omega);rw[pn];have h':dr T (.call false 209 ([]++[.agg (mL e.m)]++[.bg [.ref J.length 6 0 0],.bg (eL nm k lo hi ps).enc]) ([]::[.dead,.dead,.dead]::F::(b.gw lo hi (λm=>zw b.aS.f m (eL nm k lo hi ps)) i).bF J.length er::J))=_:=h;rw[h'];rfl)
 have hcl:=WY (x:=eL nm k lo hi ps);have e1:(eL nm k lo hi ps).lo=lo:=aK rfl;have e2:(eL nm k lo hi ps).hi=hi:=aK rfl;simp only[Bk.bF,Bk.cells,pU.enc,e1,e2]at hst hC hf hcl;simp[g2,g3,g6,gu,hf,hC,nQ,hst,q1,q2,Bk.bF,Bk.cells,e1,e2]
theorem Zh{F:List Abs.aG}{b:Bk}{er:List Int}{nm:List UInt8}{k lo hi:Int}{ps:List (Int×Int)}{b':Bk}{e:Int}(hps:ps.length<=1000000)(hnm:nm.length<=1000000000)(hd:CX b (eL nm k lo hi ps)=(b',e))(he:e≠0):
  dr T (.call false 165 [.ref J.length 6 0 0,.str nm,.bT (ps.length*2+3) (iI k::iI lo::iI hi::fM ps tw)] (F::b.bF J.length er::J))=some (.fu (rf e) (F::b.bF J.length er::J)):=by
 refine dX rfl rfl rfl ?_;unfold CX at hd;split at hd
 case isTrue hne =>
  cases hd;simp[Bk.bF,Bk.cells,hne,dM,D.clean,rf]
 rename_i hne;split at hd
 case isTrue=>cases hd;exact absurd rfl he
 rename_i hck;cases hd;have⟨q0,q1,q2,q3⟩:(0:Int)<(ps.length:Int)*2+3/\(1:Int)<(ps.length:Int)*2+3/\(2:Int)<(ps.length:Int)*2+3/\(3:Int)<=(ps.length:Int)*2+3:=by omega
 have c1:0<b.ai.length:=aI.2 hne;have hC:=λJ=>Ib (J:=J) (f:=b.aS.f) (x:=eL nm k lo hi ps) hnm (by simp[eL];omega)
 have hM:=λJ=>oV (J:=J) hck
 generalize rK b.aS.f (eL nm k lo hi ps)=err at hC hM hck he ⊢;have hrc:(D.ui 200 (.agg [iI err])).clean=true:=rfl;have hlp:=Tr ps;have htp:(fM ps tw).take (ps.length*2)=fM ps tw:=ah (by omega);have hL:=MT (J:=F::b.bF J.length er::J) hps (X:=.bT (ps.length*2+3) (iI k::iI lo::iI hi::fM ps tw)) (Y:=.bg [.ref J.length 6 0 0]) rfl rfl (nm:=nm) (k:=k) (lo:=lo) (hi:=hi) ps.length 0 (by omega);simp[Bk.bF,Bk.cells,c1,cQ,q0,q1,q2,q3];refine WL.to hL (by simp[htp]) (by simp[Nt,Bk.bF,Bk.cells]) ?_;rintro x e J' ⟨rfl,g2,g3,g6,gu,rfl⟩;have hf:=λS hS=>S6 (S:=S) (L:=J.length+1+1) hS (by omega) (nm:=nm) (k:=k) (lo:=lo) (hi:=hi) (ps:=ps)
 have hcl:=WY (x:=eL nm k lo hi ps);simp only[pU.enc]at hC hf hcl;simp[g3,g6,gu,hf,hC,hM,Bk.bF,Bk.cells,rf,hrc]
end Go.Proofs.YtpapbbojmclkgaaGreatDoor
namespace Go.Book
open Go Go.Abs Go.Rock
def cc(l:List ec):List ec:=l.filter (·.left)
end Go.Book
namespace Go.Proofs.YtpapbbojmclkgaaGreatDoor
open Go Go.Abs Go.Rock Go.Book
variable {J:SK}
theorem Zf{e:ec}:Cl 249 [.agg e.enc] (.bool e.left) J:=by
 refine au ?_;simp
theorem JA{l:List ec}{lv bi v:Nat}{G:List Abs.aG}(hG:G[bi]?=some (.cells v (fM l ec.enc)))(hs:eT J lv=some G)(hl:l.length<=1000000):∀(m i:Nat) (acc:List ec),i+m=l.length->acc.length<=i ->
  WL T [1,4,7,8,9] false du [(1,.fn 249 [] []),(4,.sl J.length 0 acc.length 0 acc.length 4),(7,.sl lv bi v 0 l.length 4),(8,iI l.length),(9,iI i)] ([.cells acc.length (fM acc ec.enc)]::J)
   (λx e J'=>x=.exit 0/\get e 4=.sl J.length 0 (acc++cc (l.drop i)).length 0 (acc++cc (l.drop i)).length 4/\J'=[.cells (acc++cc (l.drop i)).length (fM (acc++cc (l.drop i)) ec.enc)]::J)
 |0,i,acc,hi,ha=>by
  refine aA du.eq_1 ?_;have h1:¬i<l.length:=by omega
  have h2:l.drop i=[]:=an (by omega);simp[h1,h2,cc]
 |m+1,i,acc,hi,ha=>by
  refine aA du.eq_1 ?_;have h1:i<l.length:=by omega
  obtain⟨e,he⟩:=gE h1;have hfl:=bd (f:=ec.enc) (w:=4) (λ_=>rfl) he;have hd:=bx he;have h4:=cg h1;have hlen:=xK l;have q:4<=l.length*4-i*4:=by omega
  have hlt:=zo hs;have hlv:¬J.length=lv:=by omega
  have hC:=λJ=>Zf (J:=J) (e:=e)
  simp only[ec.enc]at hC;cases hc:e.left with
  |false =>
   rw[hc]at hC;have ih:=JA hG hs hl m (i+1) acc (by omega) (by omega);simp[h1,hs,hG,hlv,hfl,hlen,q,h4,hC,hc];exact WL.to ih (by simp) rfl λx e' J' hh=>by rw[hd];simpa[cc,hc]using hh
  |true =>
   rw[hc]at hC;have ih:=JA hG hs hl m (i+1) (acc++[e]) (by omega) (by simp;omega);have hr:(acc.length+1)*56<=room:=by unfold room;omega
   have hal:=xK acc;have hat:(fM acc ec.enc).take (acc.length*4)=fM acc ec.enc:=ah (by omega);simp[h1,hs,hG,hlv,hfl,hlen,q,h4,hC,hc,hr,hal,hat];exact WL.to ih (by simp) (by simp[hc]) λx e' J' hh=>by rw[hd];simpa[cc,hc]using hh
theorem VE{l:List ec}{lv bi v:Nat}{G:List Abs.aG}(hG:G[bi]?=some (.cells v (fM l ec.enc)))(hs:eT J lv=some G)(hl:l.length<=1000000)(hJ:J≠[]):
  Cl 248 [.sl lv bi v 0 l.length 4,.fn 249 [] []] (lF (cc l) ec.enc) J:=by
 refine au ?_;have h:=JA (J:=J) hG hs hl l.length 0 [] (by omega) (by simp);simp only[List.nil_append]at h;simp;refine WL.to h (by simp) (by simp) ?_;rintro x e J' ⟨rfl,g4,rfl⟩;have hk:=Go.Abs.ki (f:=ec.enc) (w:=4) (λ_=>rfl) (λ_=>by simp[D.clean,mw]) (l:=cc l) (j:=0) (v:=(cc l).length) (bs:=[.cells (cc l).length (fM (cc l) ec.enc)]) (J:=J) hJ (by simp);rw[aC]at g4 ⊢;simp[g4,hk]
theorem Hn{b:Bk}{er:List Int}{S:SK}(hl:b.ai.length<=1000000)(hs:eT S J.length=some (b.bF J.length er)):
  Cl 212 [.ref J.length 6 0 0] (lF (cc b.ai) ec.enc) S:=by
 refine au ?_;have hlt:=zo hs;have hne:¬S.length=J.length:=by omega
 have h:=VE (J:=[]::S) (l:=b.ai) (lv:=J.length) (bi:=0) (v:=b.ai.length) (G:=b.bF J.length er) (by simp[Bk.bF]) (by simp[eT,hne,hs]) hl (by simp);have hcl:D.bf (fM (cc b.ai) ec.enc)=true:=fB (λ_=>by simp[D.clean,mw]) _;have hc6:(b.bF J.length er)[6]?=some (.cells 0 (b.cells J.length)):=by simp[Bk.bF]
 simp[hne,hs,hc6,Bk.cells,h,hcl]
end Go.Proofs.YtpapbbojmclkgaaGreatDoor
