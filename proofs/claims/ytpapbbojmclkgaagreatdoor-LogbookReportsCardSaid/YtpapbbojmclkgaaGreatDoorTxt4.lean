import Derived.Test.YtpapbbojmclkgaaGreatDoorTxt3
import Derived.Test.YtpapbbojmclkgaaGreatDoorTxt2
set_option linter.all false
set_option maxRecDepth 100000
namespace Go.Proofs.YtpapbbojmclkgaaGreatDoor
open Go Go.Abs Go.Rock Go.Book
variable {J:SK}
@[simp] theorem aiN{α:Type}{f:α->List D}{l:List α}:UK (nl f l)=some (iI l.length):=by
 unfold nl;split
 .rename_i h;subst h;rfl
 .rfl
@[simp] theorem ah9{α:Type}{f:α->List D}{l:List α}:(nl f l).strip=nl f l:=by unfold nl;split<;>rfl
@[simp] theorem aiE{α:Type}{f:α->List D}{l:List α}:(nl f l).calm=nl f l:=by unfold nl;split<;>rfl
theorem Ot{x:Trem.Ev}(hs:x.sp.length<=9223372036854775807):Cl 76 [.bA,.bV 1 x.enc,iI 0] (.cN [.int .u8 0,.int .u8 0,iI (if x.ok then 0 else 1)]) J:=by
 refine au ?_;have hA:=λJ=>@VB J [x] (by simp) (by simpa using hs)
 try simp only[lF,Cl]at hA
 have hN:=λJ=>all_nil (T:=T) (J:=J) (fv:=.fn 115 [] []) (f:=114) (ag:=true) (w:=10) rfl rfl rfl rfl rfl rfl
 simp only[List.length_singleton,cV,mX,c9,dh,jm,List.all_nil,Bool.and_true]at hA;have w0:Trem.bC 0 0 1000000=true:=by decide
 cases hr:x.ok
 .rw[hr]at hA;simp only[lF,Trem.Ev.enc]at hA ⊢;simp[hA,hN]
 .rw[hr]at hA;simp only[lF,Trem.Ev.enc]at hA ⊢;simp[hA,hN,iC,w0];refine az eS.eq_1 ?_;simp
def spD(L:Nat)(acc:List Trem.pV):D:=.sl L 0 acc.length 0 acc.length 4
def spS(acc:List Trem.pV):List Abs.aG:=[.cells acc.length (fM acc Trem.pV.enc)]
theorem Od(l:List Trem.pV):(fM l Trem.pV.enc).length=l.length*4:=bZ (f:=Trem.pV.enc) (w:=4) (λ_=>rfl) l
theorem M9{bp:D}(hb1:bp.calm=bp){tk:Int}:∀(rs acc:List Trem.pV),acc.length+rs.length<=1000000 ->
  WL T [0,2,6] false fW [(0,bp),(2,.bV (rs.length*4) (fM rs Trem.pV.enc)),(6,.own 0 [iI tk,spD J.length acc])] (spS acc::J)
   (λx e J'=>x=.exit 0/\get e 0=bp/\get e 6=.own 0 [iI tk,spD J.length (acc++rs)]/\get e 1000006=.undef/\J'=spS (acc++rs)::J)
 |[],acc,h=>by
  refine az fW.eq_1 ?_;simp[hb1]
 |r::rs,acc,h=>by
  refine az fW.eq_1 ?_;simp only[aE]at h;have⟨e1,q0,q1,q2,q3,q4⟩:(rs.length+1)*4=rs.length*4+4/\(0:Int)<(rs.length:Int)*4+4/\(1:Int)<(rs.length:Int)*4+4/\(2:Int)<(rs.length:Int)*4+4/\(3:Int)<(rs.length:Int)*4+4/\(4:Int)<=(rs.length:Int)*4+4:=by omega
  have⟨hroom,h32⟩:(acc.length+1)*32<=room/\32<=room:=by unfold room;omega
  have hl:=Od acc;have ht:(fM acc Trem.pV.enc).take (acc.length*4)=fM acc Trem.pV.enc:=ah (by omega);have hl2:=Od rs;have ht2:(fM rs Trem.pV.enc).take (rs.length*4)=fM rs Trem.pV.enc:=ah (by omega);simp[hb1,e1,q0,q1,q2,q3,q4,hroom,hl,ht,spD,spS];refine WL.to (M9 hb1 (tk:=tk) rs (acc++[r]) (by simp;omega)) (by simp[ht2,spD]) (by simp[spS]) λx e J' hh=>?_
  simpa[spD,spS]using hh
def Ef(b:Bk)(x:Trem.Ev):Bk:={b with pY:=b.pY++[x] }
def oU(b:Bk)(sp:List Trem.pV):Bk×Int:=if b.pY.length<200 then(if Trem.Ev.ok ⟨b.aw.length,sp⟩=true then(Ef b ⟨b.aw.length,sp⟩,0)else(b,1))else(b,3)
theorem Xd(l:List Trem.Ev):(fM l Trem.Ev.enc).length=l.length*2:=bZ (f:=Trem.Ev.enc) (w:=2) (λ_=>rfl) l
theorem Xn{S:SK}{L:Nat}(hS:S.length=L)(hL:0<L){sp:List Trem.pV}{tk:Int}:cI.frzL (cI 0 16) [iI tk,spD L sp] (spS sp::S)=([iI tk,lF sp Trem.pV.enc],[.dead]::S):=by
 have hf:=qX (f:=Trem.pV.enc) (w:=4) (λ_=>rfl) (λ_=>by simp[D.clean]) (l:=sp) (j:=0) (v:=sp.length) (bs:=[Abs.aG.cells sp.length (fM sp Trem.pV.enc)]) (J:=S) (by intro h;subst h;simp at hS;omega) (by simp);rw[hS]at hf;simp[spD,spS,hf]
theorem Zk{F:List Abs.aG}{b:Bk}{er:List Int}{nm:List UInt8}{sp:List Trem.pV}{b':Bk}{e:Int}(hl:sp.length<=1000000)(hd:oU b sp=(b',e))(he:e=0):
  dp T (.call false 168 [.ref J.length 6 0 0,.str nm,.bV (sp.length*4) (fM sp Trem.pV.enc)] (F::b.bF J.length er::J))=some (.val (.cN []) (F::b'.bF J.length er::J)):=by
 refine fx rfl rfl rfl (by simp) ?_;unfold oU at hd;split at hd
 case isFalse=>cases hd;cases he
 rename_i h1;split at hd
 case isFalse=>cases hd;cases he
 rename_i h2;cases hd;have h1':(b.pY.length:Int)<200:=by omega
 have hC:=λJ=>Ot (J:=J) (x:=⟨b.aw.length,sp⟩) (by simp;omega)
 simp only[h2,if_true,Trem.Ev.enc]at hC;have hL:=M9 (J:=F::b.bF J.length er::J) (bp:=.ref J.length 6 0 0) rfl (tk:=b.aw.length) sp [] (by simpa using hl);have hne:sp≠[]:=by
  intro hh;subst hh;simp[Trem.Ev.ok,Trem.bC]at h2
 simp[Bk.bF,Bk.cells,h1',cQ];refine WL.to hL (by simp[spD]) (by simp[Bk.bF,Bk.cells,spS]) ?_;rintro x e J' ⟨rfl,g0,g6,gu,rfl⟩;have hf:=λS hS=>Xn (S:=S) (L:=J.length+1+1) hS (by omega) (sp:=sp) (tk:=b.aw.length)
 have w2:(b.pY.length+1)*32<=room:=by unfold room;omega
 have w3:=Xd b.pY;have w4:(fM b.pY Trem.Ev.enc).take (b.pY.length*2)=fM b.pY Trem.Ev.enc:=ah (by omega);have hcl:D.bf (fM sp Trem.pV.enc)=true:=fA (λ_=>by simp[D.clean]) sp;simp only[List.nil_append]at g6;simp[g0,g6,gu,hf,hC,nP,Bk.bF,Bk.cells,Ef,w2,w3,w4,hcl]
theorem Ua{F:List Abs.aG}{b:Bk}{er:List Int}{nm:List UInt8}{sp:List Trem.pV}{b':Bk}{e:Int}(hl:sp.length<=1000000)(hd:oU b sp=(b',e))(he:e≠0):
  dp T (.call false 168 [.ref J.length 6 0 0,.str nm,.bV (sp.length*4) (fM sp Trem.pV.enc)] (F::b.bF J.length er::J))=some (.ft (rf e) (F::b.bF J.length er::J)):=by
 refine dX rfl rfl rfl ?_;have hM:=λJ=>oR (J:=J) (e:=1) (by decide)
 have hrc:(D.uh 200 (.agg [iI 1])).clean=true:=rfl;unfold oU at hd;split at hd
 case isFalse h1 =>
  cases hd;have h1':¬(b.pY.length:Int)<200:=by omega
  simp[Bk.bF,Bk.cells,h1',dL,D.clean,rf]
 rename_i h1;split at hd
 case isTrue=>cases hd;exact absurd rfl he
 rename_i h2;cases hd;have h1':(b.pY.length:Int)<200:=by omega
 have h2':Trem.Ev.ok ⟨b.aw.length,sp⟩=false:=by simpa using h2
 have hC:=λJ=>Ot (J:=J) (x:=⟨b.aw.length,sp⟩) (by simp;omega)
 simp only[h2',Trem.Ev.enc]at hC;have hL:=M9 (J:=F::b.bF J.length er::J) (bp:=.ref J.length 6 0 0) rfl (tk:=b.aw.length) sp [] (by simpa using hl);simp[Bk.bF,Bk.cells,h1',cQ];refine WL.to hL (by simp[spD]) (by simp[Bk.bF,Bk.cells,spS]) ?_;rintro x e J' ⟨rfl,g0,g6,gu,rfl⟩;have hf:=λS hS=>Xn (S:=S) (L:=J.length+1+1) hS (by omega) (sp:=sp) (tk:=b.aw.length)
 have hcl:D.bf (fM sp Trem.pV.enc)=true:=fA (λ_=>by simp[D.clean]) sp;simp only[List.nil_append]at g6;simp[g0,g6,gu,hf,hC,hM,Bk.bF,Bk.cells,rf,hrc]
theorem Et{a b c:Int}:Cl 309 [iI a,iI b,iI c] (.bool (bC a b c)) J:=by
 refine au ?_;by_cases h:b<=a<;>simp[h,bC]
theorem Uh{p:Prt}{last:Int}:dp T (.call false 311 [.agg p.enc,.ref J.length 0 0 0] ([]::[]::[]::[]::[.cells 0 [iI last]]::J))=some (.val (.bool (p.ok last)) ([]::[]::[]::[]::[.cells 0 [iI p.kS]]::J)):=by
 refine fx rfl rfl rfl (by simp) ?_;cases h:bC p.kS 0 last<;>simp[Et,h,Prt.ok]
theorem OM{u:o8}(hl:u.parts.length<=1000000000):Cl 258 [.agg u.enc] (.bool u.ok) J:=by
 refine au ?_;have hA:=Nb (yc 2 Prt.enc (λ_=>rfl)) (T:=T) (S:=λi=>[.cells 0 [iI (kY u.parts i)]]::J) (fv:=.fn 311 [] [.ref J.length 0 0 0]) (l:=u.parts) (p:=BE u.parts)
  (f:=310) (g:=349) (h:=348) (i:=367) rfl rfl rfl rfl (by omega) rfl rfl rfl (λ_=>rfl) (λi x hx=>by
   rw[pf];have h:=Uh (J:=J) (p:=x) (last:=kY u.parts i);have e1:kY u.parts (i+1)=x.kS:=by simp[kY,hx]
   have e2:BE u.parts i=x.ok (kY u.parts i):=by simp[BE,hx]
   have h':dp T (.call false 311 ([]++[(yc 2 Prt.enc (λ_=>rfl)).val x]++[.ref J.length 0 0 0]) ([]::[]::[]::[]::[.cells 0 [iI (kY u.parts i)]]::J))=_:=h;rw[h',e1,e2];rfl)
 have hb:(!(oC (λi => !BE u.parts i) 0 u.parts.length).1)=AE 1000 u.parts:=by
  have h1:=ER (q:=λi => !BE u.parts i) (m:=u.parts.length) (i:=0);have h2:=Mc (l:=u.parts);cases hf:AE 1000 u.parts
  .cases hs:(oC (λi => !BE u.parts i) 0 u.parts.length).1
   .have h3:=h1.1 hs;have h4:=h2.2 λj hj=>by simpa using h3 j hj
    rw[hf]at h4;cases h4
   .rfl
  .have h3:=h2.1 hf;have h4:=h1.2 λj hj=>by simp[h3 j hj]
   rw[h4];rfl
 rw[hb]at hA;have e0:kY u.parts 0=1000:=rfl;have hA':dp T (.call false 310 [lF u.parts Prt.enc,.fn 311 [] [.ref J.length 0 0 0]] ([.cells 0 [iI 1000]]::J))=_:=hA;cases h1:bC u.xq 0 5
 .simp[Et,h1,o8.ok]
 cases h2:bC u.parts.length 1 8
 .simp[Et,h1,h2,o8.ok]
 simp[Et,h1,h2,o8.ok,hA']
theorem Im{u:o8}(hl:u.parts.length<=1000000000):Cl 217 [.agg u.enc] (iI (if u.ok then 0 else 1)) J:=by
 refine au ?_;have hC:=λJ=>OM (J:=J) hl
 simp only[o8.enc]at hC ⊢;cases hc:u.ok<;>rw[hc]at hC<;>simp[hC]
def ptD(L:Nat)(acc:List Prt):D:=.sl L 0 acc.length 0 acc.length 2
def ptS(acc:List Prt):List Abs.aG:=[.cells acc.length (fM acc Prt.enc)]
theorem Hj(l:List Prt):(fM l Prt.enc).length=l.length*2:=bZ (f:=Prt.enc) (w:=2) (λ_=>rfl) l
theorem M5{bp:D}(hb1:bp.calm=bp){tk:Int}:∀(rs acc:List Prt),acc.length+rs.length<=1000000 ->
  WL T [0,2,6] false gG [(0,bp),(2,.bV (rs.length*2) (fM rs Prt.enc)),(6,.own 0 [iI tk,ptD J.length acc])] (ptS acc::J)
   (λx e J'=>x=.exit 0/\get e 0=bp/\get e 6=.own 0 [iI tk,ptD J.length (acc++rs)]/\get e 1000006=.undef/\J'=ptS (acc++rs)::J)
 |[],acc,h=>by
  refine az gG.eq_1 ?_;simp[hb1]
 |r::rs,acc,h=>by
  refine az gG.eq_1 ?_;simp only[aE]at h;have⟨e1,q0,q1,q2⟩:(rs.length+1)*2=rs.length*2+2/\(0:Int)<(rs.length:Int)*2+2/\(1:Int)<(rs.length:Int)*2+2/\(2:Int)<=(rs.length:Int)*2+2:=by omega
  have⟨hroom,h32⟩:(acc.length+1)*16<=room/\16<=room:=by unfold room;omega
  have hl:=Hj acc;have ht:(fM acc Prt.enc).take (acc.length*2)=fM acc Prt.enc:=ah (by omega);have hl2:=Hj rs;have ht2:(fM rs Prt.enc).take (rs.length*2)=fM rs Prt.enc:=ah (by omega);simp[hb1,e1,q0,q1,q2,hroom,hl,ht,ptD,ptS];refine WL.to (M5 hb1 (tk:=tk) rs (acc++[r]) (by simp;omega)) (by simp[ht2,ptD]) (by simp[ptS]) λx e J' hh=>?_
  simpa[ptD,ptS]using hh
def I1(b:Bk)(u:o8):Bk:={b with cJ:=b.cJ++[u] }
def tD(b:Bk)(u:o8):Bk×Int:=if b.cJ.length<10 then(if u.ok=true then(I1 b u,0)else(b,1))else(b,3)
theorem Ju(l:List o8):(fM l o8.enc).length=l.length*2:=bZ (f:=o8.enc) (w:=2) (λ_=>rfl) l
theorem Xm{S:SK}{L:Nat}(hS:S.length=L)(hL:0<L){pt:List Prt}{tk:Int}:cI.frzL (cI 0 16) [iI tk,ptD L pt] (ptS pt::S)=([iI tk,lF pt Prt.enc],[.dead]::S):=by
 have hf:=qX (f:=Prt.enc) (w:=2) (λ_=>rfl) (λ_=>by simp[D.clean]) (l:=pt) (j:=0) (v:=pt.length) (bs:=[Abs.aG.cells pt.length (fM pt Prt.enc)]) (J:=S) (by intro h;subst h;simp at hS;omega) (by simp);rw[hS]at hf;simp[ptD,ptS,hf]
theorem adz{l:List Prt}:D.bf (fM l Prt.enc)=true:=fA (λ_=>by simp[D.clean]) l
theorem ac0{F:List Abs.aG}{b:Bk}{er:List Int}{nm:List UInt8}{u:o8}{b':Bk}{e:Int}(hl:u.parts.length<=1000000)(hd:tD b u=(b',e))(he:e=0):
  dp T (.call false 171 [.ref J.length 6 0 0,.str nm,.bV (u.parts.length*2+1) (iI u.xq::fM u.parts Prt.enc)] (F::b.bF J.length er::J))=some (.val (.cN []) (F::b'.bF J.length er::J)):=by
 refine fx rfl rfl rfl (by simp) ?_;unfold tD at hd;split at hd
 case isFalse=>cases hd;cases he
 rename_i h1;split at hd
 case isFalse=>cases hd;cases he
 rename_i h2;cases hd;have h1':(b.cJ.length:Int)<10:=by omega
 have hC:=λJ=>Im (J:=J) (u:=u) (by omega)
 simp only[h2,if_true,o8.enc]at hC;have hL:=M5 (J:=F::b.bF J.length er::J) (bp:=.ref J.length 6 0 0) rfl (tk:=u.xq) u.parts [] (by simpa using hl);have hne:u.parts≠[]:=by
  intro hh;simp[o8.ok,bC,hh]at h2
 have⟨q0,q1⟩:(0:Int)<(u.parts.length:Int)*2+1/\(1:Int)<=(u.parts.length:Int)*2+1:=by omega
 have hlp:=Hj u.parts;have htp:(fM u.parts Prt.enc).take (u.parts.length*2)=fM u.parts Prt.enc:=ah (by omega);simp[Bk.bF,Bk.cells,h1',cQ,q0,q1];refine WL.to hL (by simp[ptD,htp]) (by simp[Bk.bF,Bk.cells,ptS]) ?_;rintro x e J' ⟨rfl,g0,g6,gu,rfl⟩;have hf:=λS hS=>Xm (S:=S) (L:=J.length+1+1) hS (by omega) (pt:=u.parts) (tk:=u.xq)
 have w2:(b.cJ.length+1)*32<=room:=by unfold room;omega
 have w3:=Ju b.cJ;have w4:(fM b.cJ o8.enc).take (b.cJ.length*2)=fM b.cJ o8.enc:=ah (by omega);simp only[List.nil_append]at g6;simp[g0,g6,gu,hf,hC,nP,Bk.bF,Bk.cells,I1,w2,w3,w4,adz]
theorem Wc{F:List Abs.aG}{b:Bk}{er:List Int}{nm:List UInt8}{u:o8}{b':Bk}{e:Int}(hl:u.parts.length<=1000000)(hd:tD b u=(b',e))(he:e≠0):
  dp T (.call false 171 [.ref J.length 6 0 0,.str nm,.bV (u.parts.length*2+1) (iI u.xq::fM u.parts Prt.enc)] (F::b.bF J.length er::J))=some (.ft (rf e) (F::b.bF J.length er::J)):=by
 refine dX rfl rfl rfl ?_;have hM:=λJ=>oR (J:=J) (e:=1) (by decide)
 have hrc:(D.uh 200 (.agg [iI 1])).clean=true:=rfl;unfold tD at hd;split at hd
 case isFalse h1 =>
  cases hd;have h1':¬(b.cJ.length:Int)<10:=by omega
  simp[Bk.bF,Bk.cells,h1',dL,D.clean,rf]
 rename_i h1;split at hd
 case isTrue=>cases hd;exact absurd rfl he
 rename_i h2;cases hd;have h1':(b.cJ.length:Int)<10:=by omega
 have h2':u.ok=false:=by simpa using h2
 have hC:=λJ=>Im (J:=J) (u:=u) (by omega)
 simp only[h2',o8.enc]at hC;have hL:=M5 (J:=F::b.bF J.length er::J) (bp:=.ref J.length 6 0 0) rfl (tk:=u.xq) u.parts [] (by simpa using hl);have⟨q0,q1⟩:(0:Int)<(u.parts.length:Int)*2+1/\(1:Int)<=(u.parts.length:Int)*2+1:=by omega
 have hlp:=Hj u.parts;have htp:(fM u.parts Prt.enc).take (u.parts.length*2)=fM u.parts Prt.enc:=ah (by omega);simp[Bk.bF,Bk.cells,h1',cQ,q0,q1];refine WL.to hL (by simp[ptD,htp]) (by simp[Bk.bF,Bk.cells,ptS]) ?_;rintro x e J' ⟨rfl,g0,g6,gu,rfl⟩;have hf:=λS hS=>Xm (S:=S) (L:=J.length+1+1) hS (by omega) (pt:=u.parts) (tk:=u.xq)
 simp only[List.nil_append]at g6;simp[g6,gu,hf,hC,hM,Bk.bF,Bk.cells,rf,hrc]
def K6(b:bU)(m:b8):D:=if Bd b m then YA (bY b m)else .bA
theorem Qu{b:bU}{m:b8}:(K6 b m).strip=K6 b m:=by unfold K6;split<;>rfl
theorem Sj{b:bU}{m:b8}{tq wq:D}(htq:tq.rh=lF b.dP Rw.enc)(hwq:wq.rh=lF b.av bG.enc)(h1:b.dP.length<=1000000000)(h2:b.av.length<=1000000000)(hn:m.name.length<=1000000000)(hl:m.du.length<=1000000000)(hJ:J≠[]):
  Cl 206 [.agg [iI b.f.x,iI b.f.y,iI b.f.z,iI b.f.k,tq,iI b.cC,iI b.lift,iI b.deep,wq],.agg (mL m)] (.cN [K6 b m,iI (if Bd b m then 0 else 1)]) J:=by
 unfold K6;cases hb:Bd b m
 .refine au ?_;obtain⟨d,hd,hd1,hd2⟩:=Sk (J:=[]::J) h1 h2 hn hl hb;simp[htq,hwq,hd,hd1]
 .refine au ?_;have hd:=λJ=>abo (J:=J) h1 h2 hn hl hb
  have hf:=λJ hJ=>Hx (J:=J) (b:=b) (m:=m) (Fv.of hb) hJ
  have hcl:(YA (bY b m)).clean=true:=by simp[YA,fA (f:=Rock.aG.enc) (λ_=>by simp[D.clean])]
  have hs1:(YA (bY b m)).strip=YA (bY b m):=rfl;have hs2:(YA (bY b m)).calm=YA (bY b m):=rfl;simp[htq,hwq,hd,hf,hs1,hs2,hcl]
theorem VO{e:dY}{nm:List UInt8}:Cl 205 [.agg e.enc,.bg [.str nm]] (.bool (e.m.name == nm)) J:=by
 refine au ?_;simp[fS]
theorem xF(l:List dY):(fM l dY.enc).length=l.length*4:=bZ (f:=dY.enc) (w:=4) (λ_=>rfl) l
theorem Hv(l:List Dn):(fM l Dn.enc).length=l.length*4:=bZ (f:=Dn.enc) (w:=4) (λ_=>rfl) l
theorem LN{b:Bk}{er:List Int}{nm:List UInt8}{S:SK}(hl:b.ai.length<=1000000)(hs:eT S J.length=some (b.bF J.length er)):
  Cl 204 [.sl J.length 0 b.ai.length 0 b.ai.length 4,.fn 205 [] [.bg [.str nm]]] (.bool (mu b.ai λe=>e.m.name == nm)) S :=
 E4 (enc:=dY.enc) (w:=4) (λ_=>rfl) (F:=b.bF J.length er) (bi:=0) (v:=b.ai.length) (l:=b.ai) (i:=33) rfl rfl (by simp[Bk.bF]) (by omega)
  ⟨rfl,rfl,λe _ J=>by rw[pf];have h:=VO (J:=J) (e:=e) (nm:=nm);have h':dp T (.call false 205 ([]++[.agg e.enc]++[.bg [.str nm]]) J)=_:=h;rw[h'];rfl⟩ hs
def y9(b:Bk)(m:b8):Bk:={b with ai:=b.ai++[⟨m,true,0⟩],eI:=b.eI++[⟨0,0,0,0⟩] }
def pX(b:Bk)(m:b8):Bk×Int :=
 if b.ready=true/\b.aw=[]then
  (if(mu b.ai λe=>e.m.name == m.name)=true then(b,6)else if b.ai.length<40 then(if Bd b.aS m=true then(y9 b m,0)else(b,1))else(b,3))
 else(b,8)
theorem VP{F:List Abs.aG}{b:Bk}{er:List Int}{m:b8}{b':Bk}{e:Int}(h1:b.aS.dP.length<=1000000000)(h2:b.aS.av.length<=1000000000)(hn:m.name.length<=1000000000)(hl:m.du.length<=1000000000)(hw:b.eI.length=b.ai.length)(hd:pX b m=(b',e))(he:e=0):
  dp T (.call false 164 [.ref J.length 6 0 0,.str m.name,lF m.du aP] (F::b.bF J.length er::J))=some (.val (.cN []) (F::b'.bF J.length er::J)):=by
 refine fx rfl rfl rfl (by simp) ?_;unfold pX at hd;split at hd
 case isFalse=>cases hd;cases he
 rename_i c0;obtain⟨c1,c2⟩:=c0;split at hd
 case isTrue=>cases hd;cases he
 rename_i c3;split at hd
 case isFalse=>cases hd;cases he
 rename_i c4;split at hd
 case isFalse=>cases hd;cases he
 rename_i c5;cases hd;have c3':(mu b.ai λe=>e.m.name == m.name)=false:=by simpa using c3
 have c4':(b.ai.length:Int)<40:=by omega
 have hH:=λS=>LN (J:=J) (b:=b) (er:=er) (nm:=m.name) (S:=S) (by omega)
 simp only[c3']at hH;have hS:=λS hJ=>Sj (J:=S) (b:=b.aS) (m:=m) (tq:=nl Rw.enc b.aS.dP) (wq:=nl bG.enc b.aS.av) kr kr h1 h2 hn hl hJ
 simp only[c5]at hS;simp only[Bk.bF,Bk.cells]at hH;have w2:(b.ai.length+1)*56<=room:=by unfold room;omega
 have w3:=xF b.ai;have w4:(fM b.ai dY.enc).take (b.ai.length*4)=fM b.ai dY.enc:=ah (by omega);have w5:(b.eI.length+1)*32<=room:=by unfold room;omega
 have w6:=Hv b.eI;have w7:(fM b.eI Dn.enc).take (b.eI.length*4)=fM b.eI Dn.enc:=ah (by omega);simp[Bk.bF,Bk.cells,c1,c2,hH,c4',hS,Qu,aaN,cQ,nP,y9,w2,w3,w4,w5,w6,w7,mw]
theorem T7{F:List Abs.aG}{b:Bk}{er:List Int}{m:b8}{b':Bk}{e:Int}(h1:b.aS.dP.length<=1000000000)(h2:b.aS.av.length<=1000000000)(hn:m.name.length<=1000000000)(hl:m.du.length<=1000000000)(hml:b.ai.length<=40)(hd:pX b m=(b',e))(he:e≠0):
  dp T (.call false 164 [.ref J.length 6 0 0,.str m.name,lF m.du aP] (F::b.bF J.length er::J))=some (.ft (rf e) (F::b.bF J.length er::J)):=by
 refine dX rfl rfl rfl ?_;have hM:=λJ=>oR (J:=J) (e:=1) (by decide)
 have hrc:(D.uh 200 (.agg [iI 1])).clean=true:=rfl;unfold pX at hd;split at hd
 case isFalse c0 =>
  cases hd;cases c1:b.ready with
  |false=>simp[Bk.bF,Bk.cells,c1,dL,D.clean,rf]
  |true =>
   have c2:((b.aw.length:Int) == 0)=false:=by simpa using λhh=>c0 ⟨c1,hh⟩
   simp[Bk.bF,Bk.cells,c1,c2,dL,D.clean,rf]
 rename_i c0;obtain⟨c1,c2⟩:=c0;have hH:=λS=>LN (J:=J) (b:=b) (er:=er) (nm:=m.name) (S:=S) (by omega)
 split at hd
 case isTrue c3 =>
  cases hd;simp only[c3]at hH;simp only[Bk.bF,Bk.cells]at hH;simp[Bk.bF,Bk.cells,c1,c2,hH,cQ,dL,D.clean,rf]
 rename_i c3;have c3':(mu b.ai λe=>e.m.name == m.name)=false:=by simpa using c3
 simp only[c3']at hH;split at hd
 case isFalse c4 =>
  cases hd;have c4':¬(b.ai.length:Int)<40:=by omega
  simp only[Bk.bF,Bk.cells]at hH;simp[Bk.bF,Bk.cells,c1,c2,hH,c4',cQ,dL,D.clean,rf]
 rename_i c4;have c4':(b.ai.length:Int)<40:=by omega
 split at hd
 case isTrue=>cases hd;exact absurd rfl he
 rename_i c5;cases hd;have c5':Bd b.aS m=false:=by simpa using c5
 have hS:=λS hJ=>Sj (J:=S) (b:=b.aS) (m:=m) (tq:=nl Rw.enc b.aS.dP) (wq:=nl bG.enc b.aS.av) kr kr h1 h2 hn hl hJ
 simp only[c5']at hS;simp only[Bk.bF,Bk.cells]at hH;simp[Bk.bF,Bk.cells,c1,c2,hH,c4',hS,Qu,cQ,hM,rf,hrc]
end Go.Proofs.YtpapbbojmclkgaaGreatDoor
namespace Go.Book
open Go Go.Abs Go.Rock
def isStr(lo hi:Int)(val:b8->Int)(e:dY):Bool:=e.left && !bC (val e.m) lo hi
def dj(at_ lo hi:Int)(val:b8->Int)(e:dY):dY:=if isStr lo hi val e then⟨e.m,false,at_⟩else e
def ae9(at_ lo hi:Int)(val:b8->Int)(ms:List dY)(j:Nat)(w:Dn):Dn:=match ms[j]? with
 |some e=>if isStr lo hi val e then⟨at_,val e.m,lo,hi⟩else w
 |none=>w
def Bk.gz(b:Bk)(lo hi:Int)(val:b8->Int)(i:Nat):Bk :=
 {b with ai:=b.ai.mapIdx λj e=>if j<i then dj b.at_ lo hi val e else e,eI:=b.eI.mapIdx λj w=>if j<i then ae9 b.at_ lo hi val b.ai j w else w }
section
variable {b:Bk} {lo hi:Int} {val:b8->Int} {i:Nat}
@[simp] theorem YE:(b.gz lo hi val i).aS=b.aS:=aK rfl
@[simp] theorem Vc:(b.gz lo hi val i).aw=b.aw:=aK rfl
@[simp] theorem R8:(b.gz lo hi val i).rules=b.rules:=aK rfl
@[simp] theorem YF:(b.gz lo hi val i).pY=b.pY:=aK rfl
@[simp] theorem abb:(b.gz lo hi val i).k0=b.k0:=aK rfl
@[simp] theorem abc:(b.gz lo hi val i).k1=b.k1:=aK rfl
@[simp] theorem abd:(b.gz lo hi val i).k2=b.k2:=aK rfl
@[simp] theorem Sa:(b.gz lo hi val i).cJ=b.cJ:=aK rfl
@[simp] theorem R9:(b.gz lo hi val i).cA=b.cA:=aK rfl
@[simp] theorem R7:(b.gz lo hi val i).ready=b.ready:=aK rfl
@[simp] theorem aba:(b.gz lo hi val i).at_=b.at_:=aK rfl
end
theorem MS{b:Bk}{lo hi:Int}{val:b8->Int}:b.gz lo hi val 0=b:=by
 cases b;simp only[Bk.gz,Bk.mk.injEq,true_and,and_true];constructor<;>(apply ez;intro j;simp[ju])
theorem uy{b:Bk}{lo hi:Int}{val:b8->Int}{i:Nat}:(b.gz lo hi val i).ai.length=b.ai.length:=by simp[Bk.gz]
theorem vK{b:Bk}{lo hi:Int}{val:b8->Int}{i:Nat}:(b.gz lo hi val i).eI.length=b.eI.length:=by simp[Bk.gz]
theorem TN{b:Bk}{lo hi:Int}{val:b8->Int}{i:Nat}{e:dY}(h:b.ai[i]?=some e):(b.gz lo hi val i).ai[i]?=some e:=by simp[Bk.gz,h]
theorem MR{b:Bk}{lo hi:Int}{val:b8->Int}{i:Nat}{e:dY}(h:b.ai[i]?=some e)(hs:isStr lo hi val e=true)(hw:b.eI.length=b.ai.length):
  (b.gz lo hi val (i+1)).ai=(b.gz lo hi val i).ai.set i ⟨e.m,false,b.at_⟩/\(b.gz lo hi val (i+1)).eI=(b.gz lo hi val i).eI.set i ⟨b.at_,val e.m,lo,hi⟩:=by
 obtain⟨hi',he⟩:=aC.1 h;constructor
 .apply ez;intro j;simp only[Bk.gz,ju,List.getElem?_set];by_cases hj:i=j
  .subst hj;rw[h];simp[hi',dj,hs]
  .rw[if_neg hj];cases b.ai[j]? with
   |none=>rfl
   |some x=>simp only[aZ];congr 1;by_cases h1:j<i<;>simp[h1]<;>omega
 .apply ez;intro j;simp only[Bk.gz,ju,List.getElem?_set];by_cases hj:i=j
  .subst hj;have:i<b.eI.length:=by omega
   rw[aJ this];simp[h,this,ae9,hs]
  .rw[if_neg hj];cases b.eI[j]? with
   |none=>rfl
   |some x=>simp only[aZ];congr 1;by_cases h1:j<i<;>simp[h1]<;>omega
theorem ET{b:Bk}{lo hi:Int}{val:b8->Int}{i:Nat}{e:dY}(h:b.ai[i]?=some e)(hs:isStr lo hi val e=false):b.gz lo hi val (i+1)=b.gz lo hi val i:=by
 have h1:(b.gz lo hi val (i+1)).ai=(b.gz lo hi val i).ai:=by
  apply ez;intro j;simp only[Bk.gz,ju];by_cases hj:i=j
  .subst hj;simp[h,dj,hs]
  .cases b.ai[j]? with
   |none=>rfl
   |some x=>simp only[aZ];congr 1;by_cases h1:j<i<;>simp[h1]<;>omega
 have h2:(b.gz lo hi val (i+1)).eI=(b.gz lo hi val i).eI:=by
  apply ez;intro j;simp only[Bk.gz,ju];by_cases hj:i=j
  .subst hj;cases b.eI[i]? with
   |none=>rfl
   |some x=>simp[h,ae9,hs]
  .cases b.eI[j]? with
   |none=>rfl
   |some x=>simp only[aZ];congr 1;by_cases h1:j<i<;>simp[h1]<;>omega
 simp only[Bk.gz]at h1 h2 ⊢;rw[h1,h2]
end Go.Book
namespace Go.Proofs.YtpapbbojmclkgaaGreatDoor
section
open Go Go.Abs Go.Rock Go.Book
variable {J:SK}
theorem Pe{α:Type}{f:α->List D}{w k:Nat}{v:D}(hw:∀x,(f x).length=w)(hk:k<w):∀{l:List α} {i:Nat} {x x':α},l[i]?=some x->(f x).set k v=f x'->(fM l f).set (i*w+k) v=fM (l.set i x') f
 |[],i,x,x',h,_=>by simp at h
 |a::l,0,x,x',h,hs=>by
  simp at h;subst h;simp only[cV,List.set_cons_zero,Nat.zero_mul,cq];rw[List.set_append_left _ _ (by rw[hw];exact hk),hs]
 |a::l,i+1,x,x',h,hs=>by
  have ih:=Pe hw hk (l:=l) (i:=i) (by simpa using h) hs;simp only[cV,List.set_cons_succ];have e:=hw a;rw[List.set_append_right _ _ (by rw[e,eC];omega),<- ih];congr 2;rw[e,eC];omega
theorem Gn{α:Type}{f:α->List D}{w k:Nat}{v:D}(hw:∀x,(f x).length=w)(hk:k<w){l:List α}{i:Nat}{x x':α}(h:l[i]?=some x)(hs:(f x).set k v=f x'):(fM l f).take (i*w+k)++v::(fM l f).drop (i*w+k+1)=fM (l.set i x') f:=by
 rw[<- Pe hw hk h hs,List.set_eq_take_append_cons_drop,if_pos];rw[bZ hw];have h1:=(aC.1 h).1;have:(i+1)*w<=l.length*w:=cY _ h1;rw[eC]at this;omega
theorem O2{A F:List Abs.aG}{b:Bk}{er:List Int}{lo hi:Int}{val:b8->Int}{fv:D}(hf1:fv.strip=fv)(hf2:fv.calm=fv)(hw:b.eI.length=b.ai.length)(hl:b.ai.length<=40)
  (hv:∀i e,e∈b.ai->e.left=true->og (dp T) false fv [.agg (mL e.m)] ([]::A::F::(b.gz lo hi val i).bF J.length er::J)=some (iI (val e.m),[]::A::F::(b.gz lo hi val i).bF J.length er::J)):∀(m i:Nat),i+m=b.ai.length ->
  WL T [0,2,4,13,14,15] false fj [(0,.ref J.length 6 0 0),(2,fv),(4,.bg [iI lo,iI hi]),(13,.sl J.length 0 b.ai.length 0 b.ai.length 4),(14,iI b.ai.length),(15,iI i)] ([]::A::F::(b.gz lo hi val i).bF J.length er::J)
   (λx e J'=>x=.exit 0/\J'=[]::A::F::(b.gz lo hi val b.ai.length).bF J.length er::J)
 |0,i,h=>by
  refine az fj.eq_1 ?_;have⟨h1,h2⟩:¬i<b.ai.length/\i=b.ai.length:=by omega
  simp[hf2,h2]
 |m+1,i,h=>by
  refine az fj.eq_1 ?_;have h1:i<b.ai.length:=by omega
  obtain⟨e,he⟩:=gE h1;have hat:=TN (lo:=lo) (hi:=hi) (val:=val) he;have hfl:=bd (f:=dY.enc) (w:=4) (λ_=>rfl) hat;have hml:=uy (b:=b) (lo:=lo) (hi:=hi) (val:=val) (i:=i);have hwl:=vK (b:=b) (lo:=lo) (hi:=hi) (val:=val) (i:=i);have h4:=cg h1;have ih:=O2 hf1 hf2 hw hl hv m (i+1) (by omega);have hlen:=xF (b.gz lo hi val i).ai;rw[hml]at hlen;have q:4<=b.ai.length*4-i*4:=by omega
  cases hc1:e.left with
  |false =>
   have hst:isStr lo hi val e=false:=by simp[isStr,hc1]
   rw[ET he hst]at ih;simp[h1,hf2,Bk.bF,Bk.cells,hml,hwl,hfl,hlen,q,h4,hc1];exact WL.to ih (by simp) (by simp[Bk.bF,Bk.cells,hml,hwl]) λx e J' hh=>by simpa[Bk.bF,Bk.cells,uy,vK]using hh
  |true =>
   have hcall:=hv i e (aj he) hc1;simp only[Bk.bF,Bk.cells,hml,hwl,YE,Vc,R8,YF,abb,abc,abd,Sa,R9,R7,aba]at hcall;cases hc2:bC (val e.m) lo hi with
   |true =>
    have hst:isStr lo hi val e=false:=by simp[isStr,hc2]
    rw[ET he hst]at ih;simp[h1,hf1,hf2,Bk.bF,Bk.cells,hml,hwl,hfl,hlen,q,h4,hc1,hcall,eK,hc2];exact WL.to ih (by simp) (by simp[Bk.bF,Bk.cells,hml,hwl]) λx e J' hh=>by simpa[Bk.bF,Bk.cells,uy,vK]using hh
   |false =>
    have hst:isStr lo hi val e=true:=by simp[isStr,hc1,hc2]
    obtain⟨hn1,hn2⟩:=MR he hst hw;have⟨q2,q3⟩:i*4+2+1<=b.ai.length*4/\i*4+3+1<=b.ai.length*4:=by omega
    have p1:=Gn (f:=dY.enc) (w:=4) (k:=2) (v:=.bool false) (λ_=>rfl) (by omega) (x':=⟨e.m,false,e.L8⟩) hat rfl;have hat2:((b.gz lo hi val i).ai.set i ⟨e.m,false,e.L8⟩)[i]?=some ⟨e.m,false,e.L8⟩:=by simp[hml,h1]
    have p2:=Gn (f:=dY.enc) (w:=4) (k:=3) (v:=iI b.at_) (λ_=>rfl) (by omega) (x':=⟨e.m,false,b.at_⟩) hat2 rfl;rw[List.set_set]at p2;have hl2:=xF ((b.gz lo hi val i).ai.set i ⟨e.m,false,e.L8⟩);rw[List.length_set,hml]at hl2;have⟨h5,q5⟩:i<b.eI.length/\i*4+4<=b.eI.length*4:=by omega
    have hwe:=Hv (b.gz lo hi val i).eI;rw[hwl]at hwe;have p3:=Mr (f:=Dn.enc) (w:=4) (λ_=>rfl) (l:=(b.gz lo hi val i).eI) (i:=i) (x:=⟨b.at_,val e.m,lo,hi⟩) (by omega);simp only[Dn.enc,cr,List.nil_append]at p3;simp[h1,hf1,hf2,Bk.bF,Bk.cells,hml,hwl,hfl,hlen,q,h4,hc1,hcall,eK,hc2,q2,q3,p1,p2,hl2,h5,q5,hwe,p3];exact WL.to ih (by simp) (by simp[Bk.bF,Bk.cells,hwl,hn1,hn2,hml]) λx e J' hh=>by simpa[Bk.bF,Bk.cells,uy,vK]using hh
def gW(b:Bk)(lo hi:Int)(val:b8->Int):Bk:=b.gz lo hi val b.ai.length
theorem OL{A F:List Abs.aG}{b:Bk}{er:List Int}{lo hi:Int}{val:b8->Int}{fv:D}(hf1:fv.strip=fv)(hf2:fv.calm=fv)(hw:b.eI.length=b.ai.length)(hl:b.ai.length<=40)
  (hv:∀i e,e∈b.ai->e.left=true->og (dp T) false fv [.agg (mL e.m)] ([]::A::F::(b.gz lo hi val i).bF J.length er::J)=some (iI (val e.m),[]::A::F::(b.gz lo hi val i).bF J.length er::J)):
  dp T (.call false 208 [.ref J.length 6 0 0,.agg [iI lo,iI hi],fv] (A::F::b.bF J.length er::J))=some (.val (.cN []) (A::F::(gW b lo hi val).bF J.length er::J)):=by
 refine fx rfl rfl rfl (by simp) ?_;have h:=O2 (A:=A) (F:=F) (er:=er) hf1 hf2 hw hl hv b.ai.length 0 (by omega);rw[MS]at h;simp[Bk.bF,Bk.cells,hf2];refine WL.to h (by simp) (by simp[Bk.bF,Bk.cells]) ?_;rintro x e J' ⟨rfl,rfl⟩;simp[gW,Bk.bF,Bk.cells]
end
section
open Go Go.Abs Go.Rock
variable {J:SK}
theorem aav(l:List b8):(fM l b8.enc).length=l.length*2:=bZ (f:=b8.enc) (w:=2) (λ_=>rfl) l
theorem WZ(l:List b8):D.bf (fM l b8.enc)=true:=fA (λx=>by simp[D.clean,mw]) l
structure Ok(b:bU)(l:List b8)(aw:List (List Int)):Prop where
 bv:Bv b
 valid:b.valid=true
 len:1<=l.length/\l.length<=40
 ai:b.f.ai l=0
 fit:∀m∈l,fits b m=true
 fv:∀m∈l,Fv b m
 short:∀m∈l,m.name.length<=1000000000/\m.du.length<=384
 pl:tg b aw=0
 U2:aw.length<=200
 aF:∀r∈aw,Rv b r
theorem adY{b:bU}{m:b8}(h:Bv b)(hf:fits b m=true):m.name.length<=16:=by
 rw[Nr h,af,aA]at hf;have hm:=hf.1;unfold dD.model at hm;split at hm
 .rename_i hn;simp only[named,af]at hn;have:=aR.1 hn.2;omega
 .cases hm
theorem Ok.of{b:bU}{l:List b8}{aw:List (List Int)}(h:ach b l aw=true):Ok b l aw:=by
 simp only[ach,af,aA]at h;obtain⟨h1,h2,h3,h4,h5⟩:=h;have hb:=Bv.of h1;unfold XJ at h3;split at h3
 .rename_i hi;split at h3
  .rename_i hm;split at h3
   .rename_i hf;have hfit:∀m∈l,fits b m=true:=eQ.1 hf;have hfv:∀m∈l,Fv b m:=λm hm=>Fv.of (by simp[Bd,h1,hfit m hm])
    exact⟨hb,h1,⟨by have:=aR.1 hi;omega,by omega⟩,hm,hfit,hfv,λm hm=>⟨by have:=adY hb (hfit m hm);omega,(hfv m hm).toMv.le.2⟩,h5,by omega,(jX h5).2⟩
   .cases h3
  .cases h3
 .cases h3
theorem Ok.check{b:bU}{l:List b8}{aw:List (List Int)}(h:Ok b l aw):fV b.f l=0:=by
 simp[fV,h.bv.fv,h.ai]
theorem VX{b:bU}{m:b8}(h:Bv b)(hn:m.name.length<=1000000000)(hl:m.du.length<=1000000000):Cl 306 [.agg (mL m),.bg (bL b)] (.bool (fits b m)) J:=by
 refine au ?_;have hC:=λJ=>QU (J:=J) (m:=m) h hn hl
 simp[hC]
theorem QZ{b:bU}{l:List b8}(h:Bv b)(hs:∀m∈l,m.name.length<=1000000000/\m.du.length<=1000000000)(hl:l.length<=1000000000):
  Cl 305 [lF l b8.enc,.fn 306 [] [.bg (bL b)]] (.bool (dh l (fits b))) J :=
 B7 (yc 2 b8.enc (λ_=>rfl)) (f:=305) (g:=342) (h:=341) (i:=366) (l:=l) (p:=fits b) rfl rfl rfl rfl (by omega) (oS.fn λx hx J=>VX h (hs x hx).1 (hs x hx).2) rfl
theorem Zq{b:bU}{l:List b8}{aw:List (List Int)}(h:Ok b l aw):
  Cl 253 [.agg (bL b),lF l b8.enc,lF aw I6] (iI 0) J:=by
 refine au ?_;have hs:∀m∈l,m.name.length<=1000000000/\m.du.length<=1000000000:=λm hm=>⟨(h.short m hm).1,by have:=(h.short m hm).2;omega⟩
 have hl:=h.len;have htab:=h.bv.dP;have ht:b.dP.length<=1000000000:=by
  simp only[fK,af]at htab;have:=aR.1 htab.1;omega
 have h1:=λJ=>Dl (J:=J) (b:=b) ht (by have:=h.bv.av;omega)
 have h2:=λJ=>E2 (J:=J) (f:=b.f) (l:=l) hs (by omega)
 have h3:=λJ=>QZ (J:=J) (l:=l) h.bv hs (by omega)
 have h4:=λJ=>VV (J:=J) (b:=b) (aw:=aw) (by have:=h.U2;omega) (λr hr=>by have:=(h.aF r hr).len;have:=h.bv.av;omega)
 have hi:bC l.length 1 40=true:=aR.2 (by omega);have ha:dh l (fits b)=true:=eQ.2 h.fit;rw[h.valid]at h1;rw[h.check]at h2;rw[ha]at h3;rw[h.pl]at h4;simp[h1,h2,h3,h4,dQ,hi]
abbrev RunT:=List (List Rock.aG)×List (List Rock.aG)
def Gc(r:RunT):List D:=[lF r.1 ll,lF r.2 ll]
theorem Yn(l:List RunT):(fM l Gc).length=l.length*2:=bZ (f:=Gc) (w:=2) (λ_=>rfl) l
def zl(b:bU)(aw:List (List Int)):List b8->Option (List RunT)
 |[]=>some []
 |m::l=>match Rock.run b m aw with
  |some r=>(zl b aw l).map (r :: ·)
  |none=>none
def Qi(n:Nat)(acc:List RunT)(J:SK)(r:Option (List RunT))(x:Abs.Exit)(e:Env)(J':SK):Prop:=match r with
 |some rs=>x=.exit 0/\get e 6=.sl J.length 0 n 0 n 2/\J'=[.cells n (fM (acc++rs) Gc)]::J
 |none=>x=.ft (.uh 428 (.agg []))/\∃bF,J'=bF::J
theorem Q6{b:bU}{l:List b8}{aw:List (List Int)}(h:Ok b l aw):∀(k i:Nat) (acc:List RunT),i+k=l.length->acc.length=i ->
  WL T [2,3,6,9,10,11] false pw [(2,lF aw I6),(3,.bg (bL b)),(6,.sl J.length 0 i 0 i 2),(9,lF l b8.enc),(10,iI l.length),(11,iI i)] ([.cells i (fM acc Gc)]::J)
   (Qi l.length acc J (zl b aw (l.drop i)))
 |0,i,acc,hi,ha=>by
  refine az pw.eq_1 ?_;obtain rfl:i=l.length:=by omega
  have h2:l.drop l.length=[]:=an (by omega);simp[h2,zl,Qi]
 |k+1,i,acc,hi,ha=>by
  refine az pw.eq_1 ?_;have h1:i<l.length:=by omega
  obtain⟨m,hm⟩:=gE h1;have hlen:=h.len;have h2:=Tj hm;have h4:=cg h1;have h5:=bw hm;have hmem:=aj hm;have a4:=Yn acc;rw[ha]at a4;have a6:(fM acc Gc).take (i*2)=fM acc Gc:=ah (by omega);have h7:(i+1)*48<=room:=by unfold room;omega
  have hp:aw.length<=200:=by have:=h.U2;omega
  rw[h5,zl];cases hr:Rock.run b m aw with
  |none =>
   have hC:=λJ=>Sp (J:=J) (h.fv m hmem) hp h.aF hr
   simp[h1,h2,hC,Qi]
  |some r =>
   obtain⟨ss,ys⟩:=r;have hC:=λJ hJ=>Sq (J:=J) (h.fv m hmem) hp h.aF hJ hr
   have ih:=Q6 h k (i+1) (acc++[(ss,ys)]) (by omega) (by simp[ha]);simp[h1,h2,h4,hC,a4,a6,h7];refine WL.to ih (by simp) (by simp[Gc]) λx e J' hh=>?_
   cases hq:zl b aw (l.drop (i+1))with
   |none=>rw[hq]at hh;simpa[Qi]using hh
   |some rs=>rw[hq]at hh;simpa[Qi]using hh
theorem V9{b:bU}{l:List b8}{aw:List (List Int)}(h:Ok b l aw)(hJ:J≠[]){rs:List RunT}(hr:zl b aw l=some rs)(hl:rs.length=l.length):
  Cl 255 [.agg (bL b),lF l b8.enc,lF aw I6] (lF rs Gc) J:=by
 refine au ?_;simp[];refine WL.to (Q6 (J:=J) h l.length 0 [] (by omega) rfl) (by simp) (by simp) ?_;rw[aB,hr];rintro x e J' ⟨rfl,g6,rfl⟩;simp[g6];rw[<- hl,lD (f:=Gc) (by decide) (λ_=>rfl) (λx=>by simp[Gc,D.clean,abE]) hJ (by simp)];simp
theorem V8{b:bU}{l:List b8}{aw:List (List Int)}(h:Ok b l aw)(hr:zl b aw l=none):
  dp T (.call false 255 [.agg (bL b),lF l b8.enc,lF aw I6] J)=some (.ft (.uh 428 (.agg [])) J):=by
 refine dX rfl rfl rfl ?_;simp[];refine WL.to (Q6 (J:=J) h l.length 0 [] (by omega) rfl) (by simp) (by simp) ?_;rw[aB,hr];rintro x e J' ⟨rfl,bF,rfl⟩;simp[D.clean]
theorem MK{b:bU}{aw:List (List Int)}:∀{l:List b8} {rs:List RunT},zl b aw l=some rs->rs.length=l.length/\∀(i:Nat) m,l[i]?=some m->∃r,rs[i]?=some r/\Rock.run b m aw=some r
 |[],rs,h=>by simp only[zl,ae]at h;subst h;simp
 |m::l,rs,h=>by
  simp only[zl]at h;cases hr:Rock.run b m aw with
  |none=>rw[hr]at h;cases h
  |some r =>
   rw[hr]at h;simp only[ad]at h;obtain⟨rs',h1,rfl⟩:=h;obtain⟨g1,g2⟩:=MK h1;refine⟨by simp[g1],?_⟩;intro i m' hm';cases i with
   |zero=>simp only[cM,ae]at hm';subst hm';exact⟨r,rfl,hr⟩
   |succ i=>simpa using g2 i m' (by simpa using hm')
theorem ZI{x:Rock.aG}:Cl 345 [.agg x.enc] (iI x.m) J:=by
 refine au ?_;simp
theorem Wh{x:Rock.aG}:Cl 347 [.agg x.enc] (iI x.k) J:=by
 refine au ?_;simp
def rowAt(l:List (List Rock.aG))(t:Nat):List Rock.aG:=(l[t]?).getD []
structure Rs(b:bU)(l:List b8)(n:Nat)(rs:List RunT):Prop where
 len:rs.length=l.length
 ne:1<=l.length/\l.length<=40
 n6:n<=200
 av:b.av.length<=8
 bn:1<=b.n/\b.n<=64
 all:∀r∈rs,LW b n r.1 r.2
 fv:∀m∈l,Fv b m
theorem Qc{b:bU}{n:Nat}{r:RunT}(h:LW b n r.1 r.2){t:Nat}(ht:t<n):r.2[t]?=some (rowAt r.2 t)/\Yv b (rowAt r.2 t):=by
 have h1:t<r.2.length:=by rw[h.yl];exact ht
 have h2:r.2[t]?=some r.2[t]:=aJ h1;have h3:rowAt r.2 t=r.2[t]:=by simp[rowAt,h2]
 rw[h3];exact⟨h2,h.yv _ (List.getElem_mem h1)⟩
theorem Yi{b:bU}{n:Nat}{r:RunT}(h:LW b n r.1 r.2){t:Nat}(ht:t<=n):r.1[t]?=some (rowAt r.1 t)/\Sv b (rowAt r.1 t):=by
 have h1:t<r.1.length:=by rw[h.sl];omega
 have h2:r.1[t]?=some r.1[t]:=aJ h1;have h3:rowAt r.1 t=r.1[t]:=by simp[rowAt,h2]
 rw[h3];exact⟨h2,h.sv _ (List.getElem_mem h1)⟩
theorem TQ{b:bU}{y:List Rock.aG}(h:Yv b y){w:Nat}(hw:w<b.av.length):y[w]?=some (aQ y w):=by
 have h1:w<y.length:=by rw[h.len];exact hw
 simp[aQ,aJ h1]
theorem YB{l:List (List Rock.aG)}{t:Nat}{s:List Rock.aG}(h:l[t]?=some s):((fM l ll).drop t).take 1=[lF s aG.enc]:=by
 have:=bd (f:=ll) (w:=1) (λ_=>rfl) h;simpa[ll]using this
theorem aaY{l:List RunT}{j:Nat}{r:RunT}(h:l[j]?=some r):((fM l Gc).drop (j*2)).take 2=[lF r.1 ll,lF r.2 ll] :=
 bd (f:=Gc) (w:=2) (λ_=>rfl) h
end
end Go.Proofs.YtpapbbojmclkgaaGreatDoor
namespace Go.Rock
open Go Go.Abs
def three:List Rw:=[⟨100,101,419,2676,150⟩,⟨150,476,632,2746,300⟩,⟨200,1555,852,2793,600⟩]
end Go.Rock
namespace Go.Proofs.YtpapbbojmclkgaaGreatDoor
open Go Go.Abs Go.Rock
variable {J:SK}
theorem Rs.of{b:bU}{l:List b8}{aw:List (List Int)}(h:Ok b l aw){rs:List RunT}(hr:zl b aw l=some rs):Rs b l aw.length rs:=by
 obtain⟨h1,h2⟩:=MK hr;refine⟨h1,h.len,h.U2,h.bv.av,h.bv.n,?_,h.fv⟩;intro r hmem;obtain⟨i,hi⟩:=fU hmem;have hlt:i<l.length:=by rw[<- h1];exact(aC.1 hi).1
 obtain⟨m,hm⟩:=gE hlt;obtain⟨r',h3,h4⟩:=h2 i m hm;rw[hi]at h3;cases h3;exact LW.of (h.fv m (aj hm)) h.aF h4
theorem Xl{l u n w:Nat}{k:Int}{S S':SK}{cs:List D}{i:Nat}(h:cI l 15 (.sl u i n 0 n w) S=(.bV n cs,S')):cI l 16 (.cN [.sl u i n 0 n w,iI k]) S=(.cN [.bV n cs,iI k],S'):=by
 rw[pZ (by rfl) (by omega)];simp only[jP,kR];rw[h,eL (by rfl) (by omega)]
theorem Pp(l:List Nat):(fM l λ_=>[D.bV 0 []])=List.replicate l.length (.bV 0 []):=by
 induction l with
 |nil=>rfl
 |cons a l ih=>rw[cV,ih];rfl
end Go.Proofs.YtpapbbojmclkgaaGreatDoor
namespace Go.Rock
open Go Go.Abs
structure pU where
 name:List UInt8
 kind:Int
 bl:List Int
 wt:List Int
 lo:Int
 hi:Int
structure tw where
 tick:Int
 jY:Int
 idx:Int
 lo:Int
 hi:Int
@[simp] theorem pU.eta(p:pU):pU.mk p.name p.kind p.bl p.wt p.lo p.hi=p:=rfl
@[simp] theorem tw.eta(p:tw):tw.mk p.tick p.jY p.idx p.lo p.hi=p:=rfl
@[simp] def pU.enc(m:pU):List D:=[.str m.name,iI m.kind,lF m.bl aP,lF m.wt aP,iI m.lo,iI m.hi]
@[simp] def tw.enc(x:tw):List D:=[iI x.tick,.int .u8 x.jY,iI x.idx,iI x.lo,iI x.hi]
def zq(n:Int):Int->List Int->List Int->Bool
 |last,b::bl,w::wt=>decide (last<b) && (decide (b<n) && (bC w (-1000) 1000 && zq n b bl wt))
 |_,_,_=>true
def Eo(f:dD)(kind:Int)(bl wt:List Int):Bool:=bC kind 0 (f.k-1) && (decide (1<=bl.length) && (decide (bl.length=wt.length) && zq f.size (-1) bl wt))
def Ds(lo hi:Int):Bool:=decide (-10000000000<=lo) && (decide (lo<=hi) && decide (hi<=10000000000))
def dD.measure(f:dD)(m:pU):Int:=if named m.name then(if Eo f m.kind m.bl m.wt && Ds m.lo m.hi then 0 else 1)else 5
def dD.yb(f:dD)(met:List (List UInt8)):List pU->Int
 |[]=>0
 |m::l=>if f.measure m=0 then(if met.contains m.name then 6 else f.yb (met++[m.name]) l)else f.measure m
def dD.wy(f:dD)(l:List pU):Int:=if 12<l.length then 3 else f.yb [] l
structure ZN(f:dD)(x:pU):Prop where
 name:x.name.length<=16
 kind:0<=x.kind/\x.kind<f.k
 ne:1<=x.bl.length
 len:x.bl.length=x.wt.length
 aaU:zq f.size (-1) x.bl x.wt=true
 ends : -10000000000<=x.lo/\x.lo<=x.hi/\x.hi<=10000000000
theorem ZN.of{f:dD}{x:pU}(h:f.measure x=0):ZN f x:=by
 unfold dD.measure at h;split at h
 .rename_i h1;split at h
  .rename_i h2;simp only[Eo,Ds,af,aA,aR]at h2;obtain⟨⟨h3,h4,h5,h6⟩,h7,h8,h9⟩:=h2;simp only[named,af]at h1;have:=aR.1 h1.2;exact⟨by omega,by omega,h4,h5,h6,h7,h8,h9⟩
  .cases h
 .cases h
theorem Ig{n:Int}:∀{bl wt:List Int} {last:Int},bl.length=wt.length->zq n last bl wt=true->last<n->(bl.length:Int)<=n-1-last
 |[],wt,last,hl,h,hn=>by simp;omega
 |b::bl,[],last,hl,h,hn=>by simp at hl
 |b::bl,w::wt,last,hl,h,hn=>by
  simp only[zq,af,aA]at h;obtain⟨h1,h2,h3,h4⟩:=h;have:=Ig (n:=n) (bl:=bl) (wt:=wt) (last:=b) (by simpa using hl) h4 h2;simp only[aE];omega
theorem Lc{n:Int}:∀{bl wt:List Int} {last:Int} {i:Nat} {b w:Int},zq n last bl wt=true->bl[i]?=some b->wt[i]?=some w->last<b/\b<n/\(-1000<=w/\w<=1000)
 |[],wt,last,i,b,w,h,hb,hw=>by simp at hb
 |b'::bl,[],last,i,b,w,h,hb,hw=>by simp at hw
 |b'::bl,w'::wt,last,i,b,w,h,hb,hw=>by
  simp only[zq,af,aA]at h;obtain⟨h1,h2,h3,h4⟩:=h;cases i with
  |zero =>
   simp only[cM,ae]at hb hw;subst hb hw;exact⟨h1,h2,aR.1 h3⟩
  |succ i =>
   have:=Lc h4 (by simpa using hb) (by simpa using hw);omega
def Qy(du:List Int)(off:Int):Int->List Int->List Int->Int
 |acc,b::bl,w::wt=>Qy du off (acc+w*(du[(off+b).toNat]?).getD 0) bl wt
 |acc,_,_=>acc
def zt(f:dD)(m:b8)(x:pU):Int:=Qy m.du (x.kind*f.size) 0 x.bl x.wt
def XM(lo hi s:Int):Int:=if hi<s then s-hi else if s<lo then s-lo else 0
def D8(lo hi s:Int):Int:=max 0 (s-hi)+min 0 (s-lo)
theorem RE{lo hi s:Int}(h:lo<=hi):D8 lo hi s=XM lo hi s:=by
 unfold D8 XM;split
 .omega
 .split<;>omega
def aG.Gf(y:aG):Int:=if y.m=0 then 0 else y.h.tdiv y.m
def aG.MU(y:aG)(jY:Int):Int:=if jY=2 then y.m else if jY=3 then y.Gf else y.k
def o6(b:bU)(m:b8)(r:List (List aG)×List (List aG))(x:tw):Int :=
 if x.jY=1 then dt b m ((r.1[x.tick.toNat]?).getD []) x.idx.toNat else aG.MU (aQ ((r.2[x.tick.toNat-1]?).getD []) x.idx.toNat) x.jY
def eU(b:bU)(uX:Int)(x:tw):Int :=
 if !bC x.jY 1 4 || (decide (x.lo < -10000000000) || (decide (x.hi<x.lo) || decide (10000000000<x.hi)))then 1
 else if !bC x.tick (if x.jY=1 then 0 else 1) uX || !bC x.idx 0 ((if x.jY=1 then b.size else b.av.length)-1)then 2 else 0
def vq(b:bU)(uX:Int)(l:List tw):Int:=if 40<l.length then 3 else bT (eU b uX) l
structure Vh(b:bU)(n:Nat)(x:tw):Prop where
 jY:1<=x.jY/\x.jY<=4
 ends : -10000000000<=x.lo/\x.lo<=x.hi/\x.hi<=10000000000
 p:x.jY=1->(0<=x.tick/\x.tick<=n)/\0<=x.idx/\x.idx<b.size
 y:x.jY≠1->(1<=x.tick/\x.tick<=n)/\0<=x.idx/\x.idx<b.av.length
theorem Vh.of{b:bU}{n:Nat}{x:tw}(h:eU b n x=0):Vh b n x:=by
 unfold eU at h;by_cases h3:x.jY=1
 .rw[if_pos h3,if_pos h3]at h;split at h
  .cases h
  .rename_i h1;simp only[cj,aA,dT,not_or,Bool.not_eq_false,aR]at h1;split at h
   .cases h
   .rename_i h2;simp only[cj,dT,not_or,Bool.not_eq_false,aR]at h2;exact⟨h1.1,by omega,λ_=>by omega,λh=>absurd h3 h⟩
 .rw[if_neg h3,if_neg h3]at h;split at h
  .cases h
  .rename_i h1;simp only[cj,aA,dT,not_or,Bool.not_eq_false,aR]at h1;split at h
   .cases h
   .rename_i h2;simp only[cj,dT,not_or,Bool.not_eq_false,aR]at h2;exact⟨h1.1,by omega,λh=>absurd h h3,λ_=>by omega⟩
end Go.Rock
namespace Go.Proofs.YtpapbbojmclkgaaGreatDoor
open Go Go.Abs Go.Rock
variable {J:SK}
theorem LJ{f:dD}(h:f.valid=true):Cl 293 [.agg (fL f)] (iI f.size) J:=by
 obtain⟨h1,h2,h3,h4,h5⟩:=dD.nI.1 h;exact JA h1 h2 h3
theorem Wy{f:dD}{bl wt:List Int}(hf:f.valid=true)(hl:bl.length<=9223372036854775807)(hw:bl.length=wt.length):∀(k i:Nat) (last:Int),i+k=bl.length ->
  WL T [3,4,9,30,31,32] false gB [(3,lF wt aP),(4,.bg (fL f)),(9,iI last),(30,lF bl aP),(31,iI bl.length),(32,iI i)] J
   (λx e J'=>J'=J/\if zq f.size last (bl.drop i) (wt.drop i)then x=.exit 0 else x=.ret/\get e 8=.bool false)
 |0,i,last,hi=>by
  refine az gB.eq_1 ?_;have h1:¬i<bl.length:=by omega
  have h2:bl.drop i=[]:=an (by omega);simp[h1,h2,zq]
 |k+1,i,last,hi=>by
  refine az gB.eq_1 ?_;have⟨h1,h1'⟩:i<bl.length/\i<wt.length:=by omega
  obtain⟨b,hb⟩:=gE h1;obtain⟨w,hw'⟩:∃r,wt[i]?=some r:=⟨_,aJ h1'⟩;have h2:=gq hb;have h3:=gq hw';have h4:=cg h1 hl;have h5:=bw hb;have h6:=bw hw';have hB:=λJ=>LJ (J:=J) hf
  have ih:=Wy hf hl hw k (i+1) b (by omega);rw[h5,h6,zq];by_cases c1:b<=last
  .simp[h1,h2,c1,show ¬last<b by omega]
  .by_cases c2:f.size<=b
   .simp[h1,h2,hB,c1,c2,show last<b by omega,show ¬b<f.size by omega]
   .cases c3:bC w (-1000) 1000
    .simp[h1,h1',h2,h3,hB,iU,c1,c2,c3,show last<b by omega,show b<f.size by omega]
    .simp[h1,h1',h2,h3,h4,hB,iU,c1,c2,c3,show last<b by omega,show b<f.size by omega];exact WL.to ih (by simp) rfl λx e J hh=>by simpa[show last<b by omega,show b<f.size by omega]using hh
theorem acY{f:dD}{k:Int}{bl wt:List Int}(hf:f.valid=true)(hl:bl.length<=9223372036854775807)(hk:f.valid=true->True):
  Cl 297 [.agg (fL f),iI k,lF bl aP,lF wt aP] (.bool (Eo f k bl wt)) J:=by
 refine au ?_;obtain⟨q1,q2,q3,q4,q5⟩:=dD.nI.1 hf;have w1:=cb (n:=f.k-1);unfold Eo;cases c1:bC k 0 (f.k-1)
 .simp[iU,w1,c1]
 by_cases c2:1<=bl.length
 rotate_left
 .have:bl=[]:=bu.1 (by omega);subst this;simp[iU,w1,c1]
 have c2':¬(bl.length:Int)<1:=by omega
 have c2'':¬bl=[]:=λh=>by rw[h]at c2;simp at c2
 by_cases c3:bl.length=wt.length
 rotate_left
 .simp[iU,w1,c1,c2',c3,show ¬(bl.length:Int)=wt.length by omega]
 have c4:¬(wt.length:Int)<1:=by omega
 have c5:¬wt=[]:=λh=>by rw[h]at c3;simp at c3;exact c2'' c3
 simp[iU,w1,c1,c3,c4];refine WL.to (Wy (J:=[]::J) hf hl c3 bl.length 0 (-1) (by omega)) (by simp[c3]) rfl ?_;rintro x e J' ⟨rfl,h⟩;simp only[aB]at h;cases hc:zq f.size (-1) bl wt
 .simp[hc]at h;simp[h]
 .simp[hc]at h;simp[h];omega
theorem Za{lo hi:Int}:Cl 298 [.agg [iI lo,iI hi]] (.bool (Ds lo hi)) J:=by
 refine au ?_;unfold Ds;by_cases c1 : -10000000000<=lo
 .by_cases c2:lo<=hi<;>simp[c1,c2]
 .simp[c1]
theorem LO{f:dD}{m:pU}(hf:f.valid=true)(hn:m.name.length<=1000000000)(hl:m.bl.length<=9223372036854775807):
  Cl 243 [.agg (fL f),.agg m.enc] (iI (f.measure m)) J:=by
 refine au ?_;have h1:=λJ=>Jc (J:=J) hn
 have h2:=λJ=>acY (J:=J) (k:=m.kind) (wt:=m.wt) hf hl (λ_=>trivial)
 unfold dD.measure;cases c1:named m.name
 .simp[h1,c1]
 cases c2:Eo f m.kind m.bl m.wt
 .simp[h1,h2,c1,c2]
 cases c3:Ds m.lo m.hi<;>simp[h1,h2,Za,c1,c2,c3]
theorem agc{f:dD}{m:pU}(hf:f.valid=true)(hn:m.name.length<=1000000000)(hl:m.bl.length<=9223372036854775807):
  Cl 291 [.agg m.enc,.bg (fL f)] (.cN [.str m.name,iI (f.measure m)]) J:=by
 refine au ?_;have h:=λJ=>LO (J:=J) hf hn hl
 simp only[pU.enc]at h ⊢;simp[h]
theorem Jo{l:List pU}{j:Nat}{m:pU}(h:l[j]?=some m):((fM l pU.enc).drop (j*6)).take 6=m.enc :=
 bd (f:=pU.enc) (w:=6) (λ_=>rfl) h
def RU(l:List pU):Prop:=∀m∈l,m.name.length<=1000000000/\m.bl.length<=9223372036854775807
theorem SC{f:dD}{l:List pU}(hf:f.valid=true)(hs:RU l)(hl:l.length<=1000000000):∀(k i:Nat) (met:List (List UInt8)),i+k=l.length ->
  WL T [1,5,11,12,13] false dS [(1,.fn 291 [] [.bg (fL f)]),(5,.jS J.length 0),(11,lF l pU.enc),(12,iI l.length),(13,iI i)] ([.cells 0 (EZ met)]::J)
   (λx e J'=>∃s,J'=s::J/\if f.yb met (l.drop i)=0 then x=.exit 0 else x=.ret/\get e 4=iI (f.yb met (l.drop i)))
 |0,i,met,hi=>by
  refine az dS.eq_1 ?_;have h1:¬i<l.length:=by omega
  have h2:l.drop i=[]:=an (by omega);simp[h1,h2,dD.yb]
 |k+1,i,met,hi=>by
  refine az dS.eq_1 ?_;have h1:i<l.length:=by omega
  obtain⟨m,hm⟩:=gE h1;have h2:=Jo hm;have h4:=cg h1;have h5:=bw hm;obtain⟨hs1,hs2⟩:=hs m (aj hm);have hC:=λJ=>agc (J:=J) hf hs1 hs2
  simp only[pU.enc]at h2 hC;rw[h5,dD.yb];by_cases hc1:f.measure m=0
  .have hg:=abV (S:=[.cells 0 (EZ met)]::J) (l:=J.length) (i:=0) (met:=met) (k:=m.name) (by simp);cases hc2:met.contains m.name
   .rw[hc2]at hg;have hp:=abW (S:=[.cells 0 (EZ met)]::J) (l:=J.length) (i:=0) (met:=met) (k:=m.name) (by simp) hc2;have ih:=SC hf hs hl k (i+1) (met++[m.name]) (by omega);simp at hp;have hc3:¬m.name∈met:=by simpa using hc2
    simp[h1,h2,h4,hC,hc1,hg,hp];exact WL.to ih (by simp) (by simp) λx e J' hh=>by simpa[hc1]using hh
   .rw[hc2]at hg;have hc3:m.name∈met:=by simpa using hc2
    simp[h1,h2,hC,hc1,hg]
  .simp[h1,h2,hC,hc1]
theorem Y9{f:dD}{l:List pU}(hf:f.valid=true)(hs:RU l)(hl:l.length<=1000000000):
  Cl 290 [lF l pU.enc,.fn 291 [] [.bg (fL f)]] (iI (f.yb [] l)) J:=by
 refine au ?_;have hm:Dd ([]::J) .make []=some (.jS J.length 0,[.cells 0 (EZ [])]::J):=by simp[Dd,EZ]
 simp[hm];refine WL.to (SC (J:=J) hf hs hl l.length 0 [] (by omega)) (by simp) (by simp) ?_;rintro x e J' ⟨s,rfl,h⟩;simp only[aB]at h;by_cases hc:f.yb [] l=0
 .rw[if_pos hc]at h;subst h;simp[hc]
 .rw[if_neg hc]at h;obtain⟨rfl,h⟩:=h;simp[h]
theorem QV{f:dD}{l:List pU}(hf:f.valid=true)(hs:RU l)(hl:l.length<=1000000000):
  Cl 239 [.agg (fL f),lF l pU.enc] (iI (f.wy l)) J:=by
 refine au ?_;unfold dD.wy;by_cases hc:12<l.length
 .simp[hc,show(12:Int)<l.length by omega]
 .simp[hc,show ¬(12:Int)<l.length by omega,Y9 hf hs hl]
structure Fm(f:dD)(m:b8):Prop where
 fv:f.valid=true
 len:(m.du.length:Int)=f.k*f.size
 ok:∀v∈m.du,-100000<=v/\v<=100000
theorem Fm.of{f:dD}{m:b8}(hf:f.valid=true)(h:f.model m=0):Fm f m:=by
 unfold dD.model at h;split at h
 .split at h
  .rename_i h1;exact⟨hf,h1.1,λv hv=>aR.1 (eQ.1 h1.2 v hv)⟩
  .cases h
 .cases h
theorem RF{a b A B:Int}(ha : -A<=a/\a<=A)(hb : -B<=b/\b<=B)(hA:0<=A) : -(A*B)<=a*b/\a*b<=A*B:=by
 have key:∀x:Int,0<=x->x<=A -> -(A*B)<=x*b/\x*b<=A*B:=by
  intro x h0 h1;have e1:x*b<=x*B:=Int.mul_le_mul_of_nonneg_left hb.2 h0;have e2:x*(-B)<=x*b:=Int.mul_le_mul_of_nonneg_left hb.1 h0;have e3:x*B<=A*B:=dR h1 (by omega);rw[Int.mul_neg]at e2;omega
 rcases eV 0 a with h | h
 .exact key a h ha.2
 .have:=key (-a) (by omega) (by omega);rw[Int.neg_mul]at this;omega
theorem ai9{f:dD}{m:b8}{x:pU}(hm:Fm f m)(hx:ZN f x):∀(k i:Nat) (acc:Int),i+k=x.bl.length -> -(i*100000000)<=acc/\acc<=i*100000000 ->
  WL T [2,3,4,8,9,10] false jZ [(2,.bg [iI f.x,iI f.y,iI f.z,iI f.k,iI x.kind,lF x.bl aP,lF x.wt aP]),(3,.bg (mL m)),(4,iI acc),(8,lF x.bl aP),(9,iI x.bl.length),(10,iI i)] J
   (λx' e J'=>J'=J/\x'=.exit 0/\get e 4=iI (Qy m.du (x.kind*f.size) acc (x.bl.drop i) (x.wt.drop i))):=by
 intro k;induction k with
 |zero =>
  intro i acc hi ha;refine az jZ.eq_1 ?_;have h1:¬i<x.bl.length:=by omega
  have h2:x.bl.drop i=[]:=an (by omega);simp[h1,h2,Qy]
 |succ k ih0 =>
  intro i acc hi ha;refine az jZ.eq_1 ?_;have h1:i<x.bl.length:=by omega
  have hlen:=hx.len;have h1':i<x.wt.length:=by omega
  obtain⟨b,hb⟩:=gE h1;obtain⟨w,hw⟩:=gE h1';obtain⟨q1,q2⟩:=BK hm.fv;obtain⟨z1,z2,z3,z4,z5⟩:=dD.nI.1 hm.fv;obtain⟨s1,s2,s3⟩:=Lc hx.aaU hb hw;have hl64:=Ig hx.len hx.aaU (by omega);have h4:=cg h1;have h5:=bw hb;have h6:=bw hw;have h2:=gq hb;have h3:=gq hw;have k1:=hx.kind;have k2:0<=x.kind*f.size/\x.kind*f.size+f.size<=f.k*f.size:=by
   refine⟨bz k1.1 (by omega),?_⟩;have:=dR (show x.kind+1<=f.k by omega) (show 0<=f.size by omega);rw[Int.add_mul]at this;omega
  have hvl:=hm.len;obtain⟨j,hj⟩:∃j:Nat,x.kind*f.size+b=j:=⟨(x.kind*f.size+b).toNat,by omega⟩;have hj1:j<m.du.length:=by omega
  obtain⟨v,hv⟩:=gE hj1;have hvb:=hm.ok v (aj hv);have h7:=gq hv;have hB:=λJ=>LJ (J:=J) hm.fv
  have b1:=RF (a:=w) (b:=v) (A:=1000) (B:=100000) (by omega) hvb (by omega);have w1:=cb (n:=x.kind*f.size);have w2:=cb (n:=(j:Int));have w3:=cb (n:=w*v);have w4:=cb (n:=acc+w*v);have ih:=ih0 (i+1) (acc+w*v) (by omega) (by omega);rw[h5,h6,Qy,hj];simp only[Int.toNat_natCast];simp[h1,h1',h2,h3,h4,hB,w1,w2,w3,w4,hj,hj1,h7];exact WL.to ih (by simp) rfl λx e J hh=>by simpa[hv]using hh
theorem ZB{f:dD}{m:b8}{x:pU}(hm:Fm f m)(hx:ZN f x):Cl 299 [.agg [iI f.x,iI f.y,iI f.z,iI f.k,iI x.kind,lF x.bl aP,lF x.wt aP],.agg (mL m)] (iI (zt f m x)) J:=by
 refine au ?_;simp;refine WL.to (ai9 (J:=[]::J) hm hx x.bl.length 0 0 (by omega) (by simp)) (by simp) rfl ?_;rintro x' e J' ⟨rfl,rfl,g⟩;simp[g,zt]
theorem Wf{f:dD}{x:pU}:Cl 244 [.agg (fL f),.agg x.enc] (.fn 299 [.agg [iI f.x,iI f.y,iI f.z,iI f.k,iI x.kind,lF x.bl aP,lF x.wt aP]] []) J:=by
 refine au ?_;simp[D.clean,mw]
end Go.Proofs.YtpapbbojmclkgaaGreatDoor
namespace Go.Book
open Go Go.Abs Go.Rock
def rL(f:dD)(x:pU):Int:=if f.valid=true then f.measure x else 1
def tu(p:Int×Int):List D:=[iI p.1,iI p.2]
def eM(nm:List UInt8)(k lo hi:Int)(ps:List (Int×Int)):pU:=⟨nm,k,ps.map (·.1),ps.map (·.2),lo,hi⟩
end Go.Book
namespace Go.Proofs.YtpapbbojmclkgaaGreatDoor
open Go Go.Abs Go.Rock Go.Book
variable {J:SK}
theorem Oo{f:dD}{x:pU}(hf:f.valid=true)(hn:x.name.length<=1000000000)(hl:x.bl.length<=1000000000):
  Cl 238 [.bg (fL f),.bg [.bV 1 x.enc]] (iI (f.measure x)) J:=by
 refine au ?_;have h:=λJ=>QV (J:=J) (f:=f) (l:=[x]) hf (by intro m hm;simp at hm;subst hm;exact⟨hn,by omega⟩) (by simp)
 try simp only[lF,Cl,fL]at h
 have he:f.wy [x]=f.measure x:=by
  simp only[dD.wy,dD.yb];by_cases h:f.measure x=0<;>simp[h]
 rw[he]at h;simp only[List.length_singleton,cV,mX,c9]at h;simp only[lF,pU.enc]at h ⊢;simp[h]
theorem Il{f:dD}{x:pU}(hn:x.name.length<=1000000000)(hl:x.bl.length<=1000000000):
  Cl 207 [.agg (fL f),.bV 1 x.enc] (iI (rL f x)) J:=by
 refine au ?_;have hC:=λJ=>M0 (J:=J) (fs:=[.fn 232 [.agg (fL f)] [],.fn 238 [] [.bg (fL f),.bg [.bV 1 x.enc]]]) (es:=[f.shape,f.measure x]) rfl (by simp) (by simp) (by
  intro i d n hd hn' h0 J;match i with
  |0 =>
   simp at hd hn';subst hd hn';simp[Jd]
  |1 =>
   simp only[List.getElem?_cons_succ,cM,ae]at hd hn';subst hd hn';have h1:f.valid=true:=by
    have:=h0 0 (by omega);simp[dD.shape]at this;exact this
   have hh:=Oo (J:=J) h1 hn hl;rw[pf];have h':dp T (.call false 238 ([]++[]++[.bg (fL f),.bg [.bV 1 x.enc]]) J)=_:=hh;rw[h'];rfl
  |i+2=>simp at hd)
 have e1:bT id [f.shape,f.measure x]=rL f x:=by
  simp only[bT,id,rL,dD.shape];by_cases h:f.valid=true
  .by_cases h2:f.measure x=0<;>simp[h,h2]
  .simp[h]
 rw[e1]at hC;simp only[pU.enc,aE,aY]at hC ⊢;simp[hC]
theorem acC{f:dD}{m:b8}(hf:f.valid=true)(hn:m.name.length<=1000000000)(hl:m.du.length<=1000000000):
  Cl 240 [.bg (fL f),.bg (mL m)] (iI (f.model m)) J:=by
 refine au ?_;simp[Sl hf hn hl]
theorem acD{f:dD}{x:pU}(hf:f.valid=true)(hn:x.name.length<=1000000000)(hl:x.bl.length<=1000000000):
  Cl 242 [.bg (fL f),.bg x.enc] (iI (f.measure x)) J:=by
 refine au ?_;have h:=λJ=>LO (J:=J) (f:=f) (m:=x) hf hn (by omega)
 simp only[pU.enc]at h ⊢;simp[h]
theorem acs{f:dD}{m:b8}{x:pU}(hf:f.valid=true)(hm:f.model m=0)(hx:f.measure x=0)(hn:m.name.length<=1000000000)(hl:m.du.length<=1000000000)(hn2:x.name.length<=1000000000)(hl2:x.bl.length<=1000000000):
  Cl 210 [.agg (fL f),.agg (mL m),.agg x.enc] (.cN [iI (zt f m x),iI 0]) J:=by
 refine au ?_;have hC:=λJ=>M0 (J:=J) (fs:=[.fn 232 [.agg (fL f)] [],.fn 240 [] [.bg (fL f),.bg (mL m)],.fn 242 [] [.bg (fL f),.bg x.enc]]) (es:=[f.shape,f.model m,f.measure x]) rfl (by simp) (by simp) (by
  intro i d n hd hn' h0 J;match i with
  |0 =>
   simp at hd hn';subst hd hn';simp[Jd]
  |1 =>
   simp at hd hn';subst hd hn';simp[acC hf hn hl]
  |2 =>
   simp only[List.getElem?_cons_succ,cM,ae]at hd hn';subst hd hn';have hh:=acD (J:=J) hf hn2 hl2;rw[pf];have h':dp T (.call false 242 ([]++[]++[.bg (fL f),.bg x.enc]) J)=_:=hh;rw[h'];rfl
  |i+3=>simp at hd)
 have e1:bT id [f.shape,f.model m,f.measure x]=0:=by simp[bT,dD.shape,hf,hm,hx]
 rw[e1]at hC;have hW:=λJ=>Wf (J:=J) (f:=f) (x:=x)
 have hS:=λJ=>ZB (J:=J) (Fm.of hf hm) (ZN.of hx)
 simp only[pU.enc,aE,aY]at hC hW ⊢;simp[hC,hW,hS]
theorem Tv(l:List (Int×Int)):(fM l tu).length=l.length*2:=bZ (f:=tu) (w:=2) (λ_=>rfl) l
theorem pO(l:List Int):(fM l aP).length=l.length:=by have:=bZ (f:=aP) (w:=1) (λ_=>rfl) l;omega
def NB(L:Nat)(nm:List UInt8)(k lo hi:Int)(ps:List (Int×Int)):List Abs.aG :=
 [.cells 0 [.str nm,iI k,.sl L 1 ps.length 0 ps.length 1,.sl L 2 ps.length 0 ps.length 1,iI lo,iI hi],.cells ps.length (fM (ps.map (·.1)) aP),.cells ps.length (fM (ps.map (·.2)) aP)]
theorem M4{ps:List (Int×Int)}(hps:ps.length<=1000000){X Y:D}(hx:X.calm=X)(hy:Y.calm=Y){nm:List UInt8}{k lo hi:Int}:∀(m j:Nat),j+m=ps.length ->
  WL T [2,3,6,30,31,32] false eZ [(2,X),(3,Y),(6,.ref J.length 0 0 0),(30,.bV (ps.length*2) (fM ps tu)),(31,.int .i64 (ps.length*2)),(32,.int .i64 (j*2))] (NB J.length nm k lo hi (ps.take j)::J)
   (λx e J'=>x=.exit 0/\get e 2=X/\get e 3=Y/\get e 6=.ref J.length 0 0 0/\get e 1000006=.undef/\J'=NB J.length nm k lo hi ps::J)
 |0,j,h=>by
  refine az eZ.eq_1 ?_;have h1:¬j<ps.length:=by omega
  have h2:ps.take j=ps:=ah (by omega);simp[-List.map_take,h1,hx,hy,h2]
 |m+1,j,h=>by
  refine az eZ.eq_1 ?_;have⟨h1,h2,h3,h0,h0'⟩:j<ps.length/\(j:Int)*2<(ps.length:Int)*2/\(j:Int)*2+1<(ps.length:Int)*2/\0<=(j:Int)*2/\0<=(j:Int)*2+1:=by omega
  obtain⟨p,hp⟩:=gE h1;have hd:=pP (f:=tu) (w:=2) (λ_=>rfl) hp;have hd2:(fM ps tu).drop (j*2+1)=.int .i64 p.2::(fM ps tu).drop (j*2+2):=by
   have:=congrArg (List.drop 1) hd;simpa[qG,tu,dc]using this
  have hd1:(fM ps tu).drop (j*2)=.int .i64 p.1::.int .i64 p.2::(fM ps tu).drop (j*2+2):=by simpa[qG,tu]using hd
  have⟨t1,t2⟩:((j:Int)*2).toNat=j*2/\((j:Int)*2+1).toNat=j*2+1:=by omega
  have w1:=cb (n:=(j:Int)*2+1);have w2:=cb (n:=(j:Int)*2+1+1);have m1:((j:Int)*2).tmod 2=0:=by rw[Int.tmod_eq_emod_of_nonneg (by omega)];omega
  have m2:((j:Int)*2+1).tmod 2=1:=by rw[Int.tmod_eq_emod_of_nonneg (by omega)];omega
  have hl:(ps.take j).length=j:=by simp[];omega
  have hr:(j+1)*8<=room:=by unfold room;omega
  have ha:=pO ((ps.take j).map (·.1));have hb:=pO ((ps.take j).map (·.2));simp only[bH,hl]at ha hb;have ta:(fM ((ps.take j).map (·.1)) aP).take j=fM ((ps.take j).map (·.1)) aP:=ah (by omega);have tb:(fM ((ps.take j).map (·.2)) aP).take j=fM ((ps.take j).map (·.2)) aP:=ah (by omega);have ih:=M4 hps hx hy (nm:=nm) (k:=k) (lo:=lo) (hi:=hi) m (j+1) (by omega);have htk:ps.take (j+1)=ps.take j++[p]:=by rw[List.take_add_one,hp];rfl
  rw[htk]at ih;have hj1:((j+1:Nat):Int)*2=(j:Int)*2+1+1:=by omega
  rw[hj1]at ih;simp[-List.map_take,hx,hy,NB,hl,h0,h1,t1,hd1,w1,m1,hr,ha,ta];refine az eZ.eq_1 ?_;simp[-List.map_take,hx,hy,h0',h3,t2,hd2,w2,m2,hr,hb,tb];refine WL.to ih (by simp[]) (by simp[NB,hl]) λx e J' hh=>by simpa[qG,NB]using hh
theorem acL{A F:List Abs.aG}{b:Bk}{er:List Int}{m:b8}{x:pU}(hf:b.aS.f.valid=true)(hm:b.aS.f.model m=0)(hx:b.aS.f.measure x=0)(hn:m.name.length<=1000000000)(hl:m.du.length<=1000000000)(hn2:x.name.length<=1000000000)(hl2:x.bl.length<=1000000000):
  Cl 209 [.agg (mL m),.bg [.ref J.length 6 0 0],.bg x.enc] (iI (zt b.aS.f m x)) ([]::A::F::b.bF J.length er::J):=by
 refine au ?_;have hS:=λJ=>acs (J:=J) hf hm hx hn hl hn2 hl2
 simp only[pU.enc]at hS ⊢;simp[Bk.bF,Bk.cells,hS]
theorem W0{x:pU}:D.bf x.enc=true:=by simp[pU.enc,mw]
theorem Ta{S:SK}{L:Nat}(hS:S.length=L)(hL:0<L){nm:List UInt8}{k lo hi:Int}{ps:List (Int×Int)}:
  GU L 0 0 (NB L nm k lo hi ps::S)=(.bg (eM nm k lo hi ps).enc,[.dead,.dead,.dead]::S):=by
 have hne:S≠[]:=by intro h;subst h;simp at hS;omega
 have h1:=qX (f:=aP) (w:=1) (λ_=>rfl) (λ_=>by simp[D.clean]) (l:=ps.map (·.1)) (j:=1) (v:=ps.length) (bs:=[.dead,.cells ps.length (fM (ps.map (·.1)) aP),.cells ps.length (fM (ps.map (·.2)) aP)]) (J:=S) hne (by simp);have h2:=qX (f:=aP) (w:=1) (λ_=>rfl) (λ_=>by simp[D.clean]) (l:=ps.map (·.2)) (j:=2) (v:=ps.length) (bs:=[.dead,.dead,.cells ps.length (fM (ps.map (·.2)) aP)]) (J:=S) hne (by simp);rw[hS]at h1 h2;simp only[bH,List.set_cons_succ,List.set_cons_zero]at h1 h2;simp[GU,NB,hS,h1,h2,eM]
def CX(b:Bk)(x:pU):Bk×Int:=if b.ai=[]then(b,8)else if rL b.aS.f x=0 then(gW b x.lo x.hi λm=>zt b.aS.f m x,0)else(b,rL b.aS.f x)
theorem acM{F:List Abs.aG}{b:Bk}{er:List Int}{nm:List UInt8}{k lo hi:Int}{ps:List (Int×Int)}{b':Bk}{e:Int}(hps:ps.length<=1000000)(hnm:nm.length<=1000000000)(hw:b.eI.length=b.ai.length)(hml:b.ai.length<=40)(hms:∀e∈b.ai,b.aS.f.model e.m=0/\e.m.name.length<=1000000000/\e.m.du.length<=1000000000)(hd:CX b (eM nm k lo hi ps)=(b',e))(he:e=0):
  dp T (.call false 165 [.ref J.length 6 0 0,.str nm,.bV (ps.length*2+3) (iI k::iI lo::iI hi::fM ps tu)] (F::b.bF J.length er::J))=some (.val (.cN []) (F::b'.bF J.length er::J)):=by
 refine fx rfl rfl rfl (by simp) ?_;unfold CX at hd;split at hd
 case isTrue=>cases hd;cases he
 rename_i hne;split at hd
 case isFalse=>cases hd;rename_i h;exact absurd he h
 rename_i hck;cases hd;have⟨q0,q1,q2,q3⟩:(0:Int)<(ps.length:Int)*2+3/\(1:Int)<(ps.length:Int)*2+3/\(2:Int)<(ps.length:Int)*2+3/\(3:Int)<=(ps.length:Int)*2+3:=by omega
 have c1:0<b.ai.length:=aH.2 hne;have hC:=λJ=>Il (J:=J) (f:=b.aS.f) (x:=eM nm k lo hi ps) hnm (by simp[eM];omega)
 simp only[hck]at hC;have hv:b.aS.f.valid=true/\b.aS.f.measure (eM nm k lo hi ps)=0:=by
  unfold rL at hck;split at hck
  .rename_i h;exact⟨h,hck⟩
  .cases hck
 have hlp:=Tv ps;have htp:(fM ps tu).take (ps.length*2)=fM ps tu:=ah (by omega);have hL:=M4 (J:=F::b.bF J.length er::J) hps (X:=.bV (ps.length*2+3) (iI k::iI lo::iI hi::fM ps tu)) (Y:=.bg [.ref J.length 6 0 0]) rfl rfl (nm:=nm) (k:=k) (lo:=lo) (hi:=hi) ps.length 0 (by omega);simp[Bk.bF,Bk.cells,c1,cQ,q0,q1,q2,q3];refine WL.to hL (by simp[htp]) (by simp[NB,Bk.bF,Bk.cells]) ?_;rintro x e J' ⟨rfl,g2,g3,g6,gu,rfl⟩;have hf:=λS hS=>Ta (S:=S) (L:=J.length+1+1) hS (by omega) (nm:=nm) (k:=k) (lo:=lo) (hi:=hi) (ps:=ps)
 have hst:=OL (J:=J) (A:=[.dead,.dead,.dead]) (F:=F) (b:=b) (er:=er) (lo:=lo) (hi:=hi) (val:=λm=>zt b.aS.f m (eM nm k lo hi ps)) (fv:=.fn 209 [] [.bg [.ref J.length 6 0 0],.bg (eM nm k lo hi ps).enc]) rfl rfl hw hml (by
  intro i e he _;obtain⟨k1,k2,k3⟩:=hms e he;have h:=acL (J:=J) (A:=[.dead,.dead,.dead]) (F:=F) (er:=er) (b:=b.gz lo hi (λm=>zt b.aS.f m (eM nm k lo hi ps)) i) (m:=e.m) (x:=eM nm k lo hi ps) hv.1 k1 hv.2 k2 k3 hnm (by simp[eM];omega);rw[pf];have h':dp T (.call false 209 ([]++[.agg (mL e.m)]++[.bg [.ref J.length 6 0 0],.bg (eM nm k lo hi ps).enc]) ([]::[.dead,.dead,.dead]::F::(b.gz lo hi (λm=>zt b.aS.f m (eM nm k lo hi ps)) i).bF J.length er::J))=_:=h;rw[h'];rfl)
 have hcl:=W0 (x:=eM nm k lo hi ps);have e1:(eM nm k lo hi ps).lo=lo:=aK rfl;have e2:(eM nm k lo hi ps).hi=hi:=aK rfl;simp only[Bk.bF,Bk.cells,pU.enc,e1,e2]at hst hC hf hcl;simp[g2,g3,g6,gu,hf,hC,nP,hst,q1,q2,Bk.bF,Bk.cells,e1,e2]
theorem Zi{F:List Abs.aG}{b:Bk}{er:List Int}{nm:List UInt8}{k lo hi:Int}{ps:List (Int×Int)}{b':Bk}{e:Int}(hps:ps.length<=1000000)(hnm:nm.length<=1000000000)(hd:CX b (eM nm k lo hi ps)=(b',e))(he:e≠0):
  dp T (.call false 165 [.ref J.length 6 0 0,.str nm,.bV (ps.length*2+3) (iI k::iI lo::iI hi::fM ps tu)] (F::b.bF J.length er::J))=some (.ft (rf e) (F::b.bF J.length er::J)):=by
 refine dX rfl rfl rfl ?_;unfold CX at hd;split at hd
 case isTrue hne =>
  cases hd;simp[Bk.bF,Bk.cells,hne,dL,D.clean,rf]
 rename_i hne;split at hd
 case isTrue=>cases hd;exact absurd rfl he
 rename_i hck;cases hd;have⟨q0,q1,q2,q3⟩:(0:Int)<(ps.length:Int)*2+3/\(1:Int)<(ps.length:Int)*2+3/\(2:Int)<(ps.length:Int)*2+3/\(3:Int)<=(ps.length:Int)*2+3:=by omega
 have c1:0<b.ai.length:=aH.2 hne;have hC:=λJ=>Il (J:=J) (f:=b.aS.f) (x:=eM nm k lo hi ps) hnm (by simp[eM];omega)
 have hM:=λJ=>oR (J:=J) hck
 generalize rL b.aS.f (eM nm k lo hi ps)=err at hC hM hck he ⊢;have hrc:(D.uh 200 (.agg [iI err])).clean=true:=rfl;have hlp:=Tv ps;have htp:(fM ps tu).take (ps.length*2)=fM ps tu:=ah (by omega);have hL:=M4 (J:=F::b.bF J.length er::J) hps (X:=.bV (ps.length*2+3) (iI k::iI lo::iI hi::fM ps tu)) (Y:=.bg [.ref J.length 6 0 0]) rfl rfl (nm:=nm) (k:=k) (lo:=lo) (hi:=hi) ps.length 0 (by omega);simp[Bk.bF,Bk.cells,c1,cQ,q0,q1,q2,q3];refine WL.to hL (by simp[htp]) (by simp[NB,Bk.bF,Bk.cells]) ?_;rintro x e J' ⟨rfl,g2,g3,g6,gu,rfl⟩;have hf:=λS hS=>Ta (S:=S) (L:=J.length+1+1) hS (by omega) (nm:=nm) (k:=k) (lo:=lo) (hi:=hi) (ps:=ps)
 have hcl:=W0 (x:=eM nm k lo hi ps);simp only[pU.enc]at hC hf hcl;simp[g3,g6,gu,hf,hC,hM,Bk.bF,Bk.cells,rf,hrc]
end Go.Proofs.YtpapbbojmclkgaaGreatDoor
namespace Go.Book
open Go Go.Abs Go.Rock
def cc(l:List dY):List dY:=l.filter (·.left)
end Go.Book
namespace Go.Proofs.YtpapbbojmclkgaaGreatDoor
open Go Go.Abs Go.Rock Go.Book
variable {J:SK}
theorem Zg{e:dY}:Cl 249 [.agg e.enc] (.bool e.left) J:=by
 refine au ?_;simp
theorem JI{l:List dY}{lv bi v:Nat}{G:List Abs.aG}(hG:G[bi]?=some (.cells v (fM l dY.enc)))(hs:eT J lv=some G)(hl:l.length<=1000000):∀(m i:Nat) (acc:List dY),i+m=l.length->acc.length<=i ->
  WL T [1,4,7,8,9] false dr [(1,.fn 249 [] []),(4,.sl J.length 0 acc.length 0 acc.length 4),(7,.sl lv bi v 0 l.length 4),(8,iI l.length),(9,iI i)] ([.cells acc.length (fM acc dY.enc)]::J)
   (λx e J'=>x=.exit 0/\get e 4=.sl J.length 0 (acc++cc (l.drop i)).length 0 (acc++cc (l.drop i)).length 4/\J'=[.cells (acc++cc (l.drop i)).length (fM (acc++cc (l.drop i)) dY.enc)]::J)
 |0,i,acc,hi,ha=>by
  refine az dr.eq_1 ?_;have h1:¬i<l.length:=by omega
  have h2:l.drop i=[]:=an (by omega);simp[h1,h2,cc]
 |m+1,i,acc,hi,ha=>by
  refine az dr.eq_1 ?_;have h1:i<l.length:=by omega
  obtain⟨e,he⟩:=gE h1;have hfl:=bd (f:=dY.enc) (w:=4) (λ_=>rfl) he;have hd:=bw he;have h4:=cg h1;have hlen:=xF l;have q:4<=l.length*4-i*4:=by omega
  have hlt:=zm hs;have hlv:¬J.length=lv:=by omega
  have hC:=λJ=>Zg (J:=J) (e:=e)
  simp only[dY.enc]at hC;cases hc:e.left with
  |false =>
   rw[hc]at hC;have ih:=JI hG hs hl m (i+1) acc (by omega) (by omega);simp[h1,hs,hG,hlv,hfl,hlen,q,h4,hC,hc];exact WL.to ih (by simp) rfl λx e' J' hh=>by rw[hd];simpa[cc,hc]using hh
  |true =>
   rw[hc]at hC;have ih:=JI hG hs hl m (i+1) (acc++[e]) (by omega) (by simp;omega);have hr:(acc.length+1)*56<=room:=by unfold room;omega
   have hal:=xF acc;have hat:(fM acc dY.enc).take (acc.length*4)=fM acc dY.enc:=ah (by omega);simp[h1,hs,hG,hlv,hfl,hlen,q,h4,hC,hc,hr,hal,hat];exact WL.to ih (by simp) (by simp[hc]) λx e' J' hh=>by rw[hd];simpa[cc,hc]using hh
theorem VH{l:List dY}{lv bi v:Nat}{G:List Abs.aG}(hG:G[bi]?=some (.cells v (fM l dY.enc)))(hs:eT J lv=some G)(hl:l.length<=1000000)(hJ:J≠[]):
  Cl 248 [.sl lv bi v 0 l.length 4,.fn 249 [] []] (lF (cc l) dY.enc) J:=by
 refine au ?_;have h:=JI (J:=J) hG hs hl l.length 0 [] (by omega) (by simp);simp only[List.nil_append]at h;simp;refine WL.to h (by simp) (by simp) ?_;rintro x e J' ⟨rfl,g4,rfl⟩;have hk:=Go.Abs.lD (f:=dY.enc) (w:=4) (λ_=>rfl) (λ_=>by simp[D.clean,mw]) (l:=cc l) (j:=0) (v:=(cc l).length) (bs:=[.cells (cc l).length (fM (cc l) dY.enc)]) (J:=J) hJ (by simp);rw[aB]at g4 ⊢;simp[g4,hk]
theorem Hy{b:Bk}{er:List Int}{S:SK}(hl:b.ai.length<=1000000)(hs:eT S J.length=some (b.bF J.length er)):
  Cl 212 [.ref J.length 6 0 0] (lF (cc b.ai) dY.enc) S:=by
 refine au ?_;have hlt:=zm hs;have hne:¬S.length=J.length:=by omega
 have h:=VH (J:=[]::S) (l:=b.ai) (lv:=J.length) (bi:=0) (v:=b.ai.length) (G:=b.bF J.length er) (by simp[Bk.bF]) (by simp[eT,hne,hs]) hl (by simp);have hcl:D.bf (fM (cc b.ai) dY.enc)=true:=fA (λ_=>by simp[D.clean,mw]) _;have hc6:(b.bF J.length er)[6]?=some (.cells 0 (b.cells J.length)):=by simp[Bk.bF]
 simp[hne,hs,hc6,Bk.cells,h,hcl]
end Go.Proofs.YtpapbbojmclkgaaGreatDoor
