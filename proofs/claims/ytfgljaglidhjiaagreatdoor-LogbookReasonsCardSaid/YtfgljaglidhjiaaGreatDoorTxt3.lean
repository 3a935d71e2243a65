import Derived.Test.YtfgljaglidhjiaaGreatDoorTxt2
import Derived.Test.YtfgljaglidhjiaaGreatDoorTxt0
import Derived.Test.YtfgljaglidhjiaaGreatDoorTxt1
set_option linter.all false
namespace Go.Proofs.YtfgljaglidhjiaaGreatDoor
open List(length_flatMap map_take)
open Go Go.Abs Go.Rock Go.Book
variable {σ:SK}
theorem aeQ(l:List Rw):(l.flatMap Rw.enc).length=l.length*5:=bT (f:=Rw.enc) (w:=5) (fun _=>rfl) l
theorem MQ{bp:D}(hb1:bp.calm=bp):∀(rs acc:List Rw),acc.length+rs.length≤1000000 →
  WL T [0,2,6] false kr [(0,bp),(2,.aI (rs.length*5) (rs.flatMap Rw.enc)),(6,.sl σ.length 0 acc.length 0 acc.length 5)] ([.cells acc.length (acc.flatMap Rw.enc)]::σ)
   (fun x e σ'=>x=.exit 0∧get e 0=bp∧get e 6=.sl σ.length 0 (acc++rs).length 0 (acc++rs).length 5∧σ'=[.cells (acc++rs).length ((acc++rs).flatMap Rw.enc)]::σ)
 |[],acc,h=>by
  refine aN kr.eq_1 ?_;simp[-length_flatMap,-map_take,hb1]
 |r::rs,acc,h=>by
  refine aN kr.eq_1 ?_;simp only[aJ]at h;have e1:(rs.length+1)*5=rs.length*5+5:=by omega
  have q0:(0:Int)<(rs.length:Int)*5+5:=by omega
  have q1:(1:Int)<(rs.length:Int)*5+5:=by omega
  have q2:(2:Int)<(rs.length:Int)*5+5:=by omega
  have q3:(3:Int)<(rs.length:Int)*5+5:=by omega
  have q4:(4:Int)<(rs.length:Int)*5+5:=by omega
  have q5:(5:Int)≤(rs.length:Int)*5+5:=by omega
  have hroom:(acc.length+1)*40≤room:=by unfold room;omega
  have hl:=aeQ acc;have ht:(acc.flatMap Rw.enc).take (acc.length*5)=acc.flatMap Rw.enc:=aj (by omega);have hl2:=aeQ rs;have ht2:(rs.flatMap Rw.enc).take (rs.length*5)=rs.flatMap Rw.enc:=aj (by omega);simp[-length_flatMap,-map_take,hb1,e1,q0,q1,q2,q3,q4,q5,hroom,hl,ht];refine WL.to (MQ hb1 rs (acc++[r]) (by simp;omega)) (by simp[ht2]) (by simp) fun x e σ' hh=>?_
  simpa using hh
def NL(b:Bk)(t:List Rw):Bk:={b with bG:={b.bG with cq:=t } }
def xY(b:Bk)(t:List Rw):Bk×Int:=if b.bG.cq=[]then(if kM t=true then(NL b t,0)else(b,1))else(b,8)
theorem afQ{F:List Abs.aE}{b:Bk}{er:List Int}{nm:List UInt8}{t:List Rw}{b':Bk}{e:Int}(hl:t.length≤1000000)(hd:xY b t=(b',e))(he:e=0):
  lim T (.call false fC [.ref σ.length 6 0 0,.str nm,.aI (t.length*5) (t.flatMap Rw.enc)] (F::b.bw σ.length er::σ))=some (.val (.dK []) (F::b'.bw σ.length er::σ)):=by
 refine gF vA j7.eq_1 rfl (by simp) ?_;unfold xY at hd;split at hd
 case isFalse=>cases hd;cases he
 rename_i h0;split at hd
 case isFalse=>cases hd;cases he
 rename_i h3;cases hd;have hne:t≠[]:=by intro h;subst h;simp[kM,ct]at h3
 have hC:=fun σ=>zJ (σ:=σ) (l:=t) (by omega)
 rw[h3]at hC;have hL:=MQ (σ:=F::b.bw σ.length er::σ) (bp:=.ref σ.length 6 0 0) rfl t [] (by simpa using hl);simp[-length_flatMap,-map_take,Bk.bw,Bk.cells,h0,nl,cF];refine WL.to hL (by simp) (by simp[Bk.bw,Bk.cells,h0,nl]) ?_;rintro x e σ' ⟨rfl,g0,g6,rfl⟩;have hcl:(D.aI t.length (t.flatMap Rw.enc)).clean=true:=by simp[D.clean,cK]
 have hfr:∀S:SK,S.length=σ.length+1+1→cr 0 16 (.sl (σ.length+1+1) 0 t.length 0 t.length 5) ([.cells t.length (t.flatMap Rw.enc)]::S)=(.aI t.length (t.flatMap Rw.enc),[.dead]::S):=by
  intro S hS;have:=BB (f:=Rw.enc) (w:=5) (fun _=>rfl) (fun _=>by simp[D.clean]) (l:=t) (j:=0) (v:=t.length) (bs:=[Abs.aE.cells t.length (t.flatMap Rw.enc)]) (σ:=S) (by intro h;subst h;simp at hS) (by simp);rw[hS]at this;simpa using this
 simp[-length_flatMap,-map_take,g0,g6,hfr,hC,oO,hcl,Bk.bw,Bk.cells,h0,nl,hne,NL];exact⟨rfl,rfl⟩
theorem QX{F:List Abs.aE}{b:Bk}{er:List Int}{nm:List UInt8}{t:List Rw}{b':Bk}{e:Int}(hl:t.length≤1000000)(hd:xY b t=(b',e))(he:e≠0):
  lim T (.call false fC [.ref σ.length 6 0 0,.str nm,.aI (t.length*5) (t.flatMap Rw.enc)] (F::b.bw σ.length er::σ))=some (.fY (rf e) (F::b.bw σ.length er::σ)):=by
 refine eh vA j7.eq_1 rfl ?_;have hM:=fun σ=>pU (σ:=σ) (e:=1) (by decide)
 have hrc:(D.uj 311 (.agg [.int .i64 1])).clean=true:=rfl;unfold xY at hd;split at hd
 case isFalse h0 =>
  cases hd;have h0':((b.bG.cq.length:Int) == 0)=false:=by simpa using h0
  simp[-length_flatMap,-map_take,Bk.bw,Bk.cells,eK h0,h0',dF,D.clean,rf]
 rename_i h0;split at hd
 case isTrue=>cases hd;exact absurd rfl he
 rename_i h3;cases hd;have h3':kM t=false:=by simpa using h3
 have hC:=fun σ=>zJ (σ:=σ) (l:=t) (by omega)
 rw[h3']at hC;have hL:=MQ (σ:=F::b.bw σ.length er::σ) (bp:=.ref σ.length 6 0 0) rfl t [] (by simpa using hl);simp[-length_flatMap,-map_take,Bk.bw,Bk.cells,h0,nl,cF];refine WL.to hL (by simp) (by simp[Bk.bw,Bk.cells,h0,nl]) ?_;rintro x e σ' ⟨rfl,g0,g6,rfl⟩;have hcl:(D.aI t.length (t.flatMap Rw.enc)).clean=true:=by simp[D.clean,cK]
 have hfr:∀S:SK,S.length=σ.length+1+1→cr 0 16 (.sl (σ.length+1+1) 0 t.length 0 t.length 5) ([.cells t.length (t.flatMap Rw.enc)]::S)=(.aI t.length (t.flatMap Rw.enc),[.dead]::S):=by
  intro S hS;have:=BB (f:=Rw.enc) (w:=5) (fun _=>rfl) (fun _=>by simp[D.clean]) (l:=t) (j:=0) (v:=t.length) (bs:=[Abs.aE.cells t.length (t.flatMap Rw.enc)]) (σ:=S) (by intro h;subst h;simp at hS) (by simp);rw[hS]at this;simpa using this
 simp[-length_flatMap,-map_take,g0,g6,hfr,hC,hM,hcl,Bk.bw,Bk.cells,h0,nl,rf,hrc]
@[simp] theorem axJ{α:Type}{f:α→List D}{l:List α}:aeg (nl f l)=some (.int .i64 l.length):=by
 unfold nl;split
 ·rename_i h;subst h;rfl
 ·rfl
@[simp] theorem awM{α:Type}{f:α→List D}{l:List α}:(nl f l).strip=nl f l:=by unfold nl;split<;>rfl
theorem Kw{x:Trem.Ev}(hs:x.sp.length≤9223372036854775807):lim T (.call false iK [.aG,.aI 1 x.enc,.int .i64 0] σ)=some (.val (.dK [.int .u8 0,.int .u8 0,.int .i64 (if x.ok then 0 else 1)]) σ):=by
 refine aA xa ou.eq_1 rfl ?_;have hA:=fun σ=>@Sr σ [x] (by simp) (by simpa using hs)
 have hN:=fun σ=>all_nil (T:=T) (σ:=σ) (fv:=.fn eP [] []) (f:=dA) (ag:=true) (w:=10) rfl rfl rfl rfl rfl rfl
 simp only[List.length_singleton,aW,dN,dL,gU,jO,List.all_nil,Bool.and_true]at hA;have w0:Trem.ct 0 0 1000000=true:=by decide
 cases hr:x.ok
 ·rw[hr]at hA;simp only[Trem.Ev.enc]at hA ⊢;simp[-length_flatMap,-map_take,hA,hN]
 ·rw[hr]at hA;simp only[Trem.Ev.enc]at hA ⊢;simp[-length_flatMap,-map_take,hA,hN,gz,w0];refine aN gN.eq_1 ?_;simp[-length_flatMap,-map_take]
def spD(L:Nat)(acc:List Trem.wC):D:=.sl L 0 acc.length 0 acc.length 4
def spS(acc:List Trem.wC):List Abs.aE:=[.cells acc.length (acc.flatMap Trem.wC.enc)]
theorem QA(l:List Trem.wC):(l.flatMap Trem.wC.enc).length=l.length*4:=bT (f:=Trem.wC.enc) (w:=4) (fun _=>rfl) l
theorem Jr{bp:D}(hb1:bp.calm=bp){tk:Int}:∀(rs acc:List Trem.wC),acc.length+rs.length≤1000000 →
  WL T [0,2,6] false kn [(0,bp),(2,.aI (rs.length*4) (rs.flatMap Trem.wC.enc)),(6,.own 0 [.int .i64 tk,spD σ.length acc])] (spS acc::σ)
   (fun x e σ'=>x=.exit 0∧get e 0=bp∧get e 6=.own 0 [.int .i64 tk,spD σ.length (acc++rs)]∧get e 1000006=.undef∧σ'=spS (acc++rs)::σ)
 |[],acc,h=>by
  refine aN kn.eq_1 ?_;simp[-length_flatMap,-map_take,hb1]
 |r::rs,acc,h=>by
  refine aN kn.eq_1 ?_;simp only[aJ]at h;have e1:(rs.length+1)*4=rs.length*4+4:=by omega
  have q0:(0:Int)<(rs.length:Int)*4+4:=by omega
  have q1:(1:Int)<(rs.length:Int)*4+4:=by omega
  have q2:(2:Int)<(rs.length:Int)*4+4:=by omega
  have q3:(3:Int)<(rs.length:Int)*4+4:=by omega
  have q4:(4:Int)≤(rs.length:Int)*4+4:=by omega
  have hroom:(acc.length+1)*32≤room:=by unfold room;omega
  have h32:32≤room:=by unfold room;omega
  have hl:=QA acc;have ht:(acc.flatMap Trem.wC.enc).take (acc.length*4)=acc.flatMap Trem.wC.enc:=aj (by omega);have hl2:=QA rs;have ht2:(rs.flatMap Trem.wC.enc).take (rs.length*4)=rs.flatMap Trem.wC.enc:=aj (by omega);simp[-length_flatMap,-map_take,hb1,e1,q0,q1,q2,q3,q4,hroom,hl,ht,spD,spS];refine WL.to (Jr hb1 (tk:=tk) rs (acc++[r]) (by simp;omega)) (by simp[ht2,spD,spS]) (by simp[spS]) fun x e σ' hh=>?_
  simpa[spD,spS]using hh
def J4(b:Bk)(x:Trem.Ev):Bk:={b with zl:=b.zl++[x] }
def xX(b:Bk)(sp:List Trem.wC):Bk×Int:=if b.zl.length<200 then(if Trem.Ev.ok ⟨b.az.length,sp⟩=true then(J4 b ⟨b.az.length,sp⟩,0)else(b,1))else(b,3)
theorem an1(l:List Trem.Ev):(l.flatMap Trem.Ev.enc).length=l.length*2:=bT (f:=Trem.Ev.enc) (w:=2) (fun _=>rfl) l
theorem adX{S:SK}{L:Nat}(hS:S.length=L)(hL:0<L){sp:List Trem.wC}{tk:Int}:cr.frzL (cr 0 16) [.int .i64 tk,spD L sp] (spS sp::S)=([.int .i64 tk,.aI sp.length (sp.flatMap Trem.wC.enc)],[.dead]::S):=by
 have hf:=BB (f:=Trem.wC.enc) (w:=4) (fun _=>rfl) (fun _=>by simp[D.clean]) (l:=sp) (j:=0) (v:=sp.length) (bs:=[Abs.aE.cells sp.length (sp.flatMap Trem.wC.enc)]) (σ:=S) (by intro h;subst h;simp at hS;omega) (by simp);rw[hS]at hf;simp[spD,spS,hf]
theorem afH{F:List Abs.aE}{b:Bk}{er:List Int}{nm:List UInt8}{sp:List Trem.wC}{b':Bk}{e:Int}(hl:sp.length≤1000000)(hd:xX b sp=(b',e))(he:e=0):
  lim T (.call false fB [.ref σ.length 6 0 0,.str nm,.aI (sp.length*4) (sp.flatMap Trem.wC.enc)] (F::b.bw σ.length er::σ))=some (.val (.dK []) (F::b'.bw σ.length er::σ)):=by
 refine gF vy j6.eq_1 rfl (by simp) ?_;unfold xX at hd;split at hd
 case isFalse=>cases hd;cases he
 rename_i h1;split at hd
 case isFalse=>cases hd;cases he
 rename_i h2;cases hd;have h1':(b.zl.length:Int)<200:=by omega
 have hC:=fun σ=>Kw (σ:=σ) (x:=⟨b.az.length,sp⟩) (by simp;omega)
 simp only[h2,if_true,Trem.Ev.enc]at hC;have hL:=Jr (σ:=F::b.bw σ.length er::σ) (bp:=.ref σ.length 6 0 0) rfl (tk:=b.az.length) sp [] (by simpa using hl);have hne:sp≠[]:=by
  intro hh;subst hh;simp[Trem.Ev.ok,Trem.ct]at h2
 simp[-length_flatMap,-map_take,Bk.bw,Bk.cells,h1',cF];refine WL.to hL (by simp[spD]) (by simp[Bk.bw,Bk.cells,spS]) ?_;rintro x e σ' ⟨rfl,g0,g6,gu,rfl⟩;have hf:=fun S hS=>adX (S:=S) (L:=σ.length+1+1) hS (by omega) (sp:=sp) (tk:=b.az.length)
 have w2:(b.zl.length+1)*32≤room:=by unfold room;omega
 have w3:=an1 b.zl;have w4:(b.zl.flatMap Trem.Ev.enc).take (b.zl.length*2)=b.zl.flatMap Trem.Ev.enc:=aj (by omega);have hcl:D.bg (sp.flatMap Trem.wC.enc)=true:=dX (fun _=>by simp[D.clean]) sp;simp only[aX]at g6;simp[-length_flatMap,-map_take,g0,g6,gu,hf,hC,oO,Bk.bw,Bk.cells,J4,w2,w3,w4,hcl]
theorem QS{F:List Abs.aE}{b:Bk}{er:List Int}{nm:List UInt8}{sp:List Trem.wC}{b':Bk}{e:Int}(hl:sp.length≤1000000)(hd:xX b sp=(b',e))(he:e≠0):
  lim T (.call false fB [.ref σ.length 6 0 0,.str nm,.aI (sp.length*4) (sp.flatMap Trem.wC.enc)] (F::b.bw σ.length er::σ))=some (.fY (rf e) (F::b.bw σ.length er::σ)):=by
 refine eh vy j6.eq_1 rfl ?_;have hM:=fun σ=>pU (σ:=σ) (e:=1) (by decide)
 have hrc:(D.uj 311 (.agg [.int .i64 1])).clean=true:=rfl;unfold xX at hd;split at hd
 case isFalse h1 =>
  cases hd;have h1':¬(b.zl.length:Int)<200:=by omega
  simp[-length_flatMap,-map_take,Bk.bw,Bk.cells,h1',dF,D.clean,rf]
 rename_i h1;split at hd
 case isTrue=>cases hd;exact absurd rfl he
 rename_i h2;cases hd;have h1':(b.zl.length:Int)<200:=by omega
 have h2':Trem.Ev.ok ⟨b.az.length,sp⟩=false:=by simpa using h2
 have hC:=fun σ=>Kw (σ:=σ) (x:=⟨b.az.length,sp⟩) (by simp;omega)
 simp only[h2',Trem.Ev.enc]at hC;have hL:=Jr (σ:=F::b.bw σ.length er::σ) (bp:=.ref σ.length 6 0 0) rfl (tk:=b.az.length) sp [] (by simpa using hl);simp[-length_flatMap,-map_take,Bk.bw,Bk.cells,h1',cF];refine WL.to hL (by simp[spD]) (by simp[Bk.bw,Bk.cells,spS]) ?_;rintro x e σ' ⟨rfl,g0,g6,gu,rfl⟩;have hf:=fun S hS=>adX (S:=S) (L:=σ.length+1+1) hS (by omega) (sp:=sp) (tk:=b.az.length)
 have hcl:D.bg (sp.flatMap Trem.wC.enc)=true:=dX (fun _=>by simp[D.clean]) sp;simp only[aX]at g6;simp[-length_flatMap,-map_take,g0,g6,gu,hf,hC,hM,Bk.bw,Bk.cells,hcl,rf,hrc]
theorem BQ{a b c:Int}:lim T (.call false kb [.int .i64 a,.int .i64 b,.int .i64 c] σ)=some (.val (.bool (ct a b c)) σ):=by
 refine aA GL tT.eq_1 rfl ?_;by_cases h:b≤a<;>simp[-length_flatMap,-map_take,h,ct]
theorem QY{p:Prt}{last:Int}:lim T (.call false ec [.agg p.enc,.ref σ.length 0 0 0] ([]::[]::[]::[]::[.cells 0 [.int .i64 last]]::σ))=some (.val (.bool (p.ok last)) ([]::[]::[]::[]::[.cells 0 [.int .i64 p.vY]]::σ)):=by
 refine gF A9 mZ.eq_1 rfl (by simp) ?_;cases h:ct p.vY 0 last<;>simp[-length_flatMap,-map_take,BQ,h,Prt.ok]
theorem KL{u:xQ}(hl:u.parts.length≤1000000000):lim T (.call false jA [.agg u.enc] σ)=some (.val (.bool u.ok) σ):=by
 refine aA CV oU.eq_1 rfl ?_;have hA:=Jy (xf 2 Prt.enc (fun _=>rfl)) (T:=T) (S:=fun i=>[.cells 0 [.int .i64 (v8 u.parts i)]]::σ) (fv:=.fn ec [] [.ref σ.length 0 0 0]) (l:=u.parts) (p:=CL u.parts)
  (f:=iF) (g:=jU) (h:=fa) (i:=gl) rfl rfl rfl rfl (by omega) rfl rfl rfl (fun _=>rfl) (fun i x hx=>by
   rw[rk];have h:=QY (σ:=σ) (p:=x) (last:=v8 u.parts i);have e1:v8 u.parts (i+1)=x.vY:=by simp[v8,hx]
   have e2:CL u.parts i=x.ok (v8 u.parts i):=by simp[CL,hx]
   have h':lim T (.call false ec ([]++[(xf 2 Prt.enc (fun _=>rfl)).val x]++[.ref σ.length 0 0 0]) ([]::[]::[]::[]::[.cells 0 [.int .i64 (v8 u.parts i)]]::σ))=_:=h;rw[h',e1,e2];rfl)
 have hb:(!(pK (fun i => !CL u.parts i) 0 u.parts.length).1)=yT 1000 u.parts:=by
  have h1:=Ce (q:=fun i => !CL u.parts i) (m:=u.parts.length) (i:=0);have h2:=Rl (l:=u.parts);cases hf:yT 1000 u.parts
  ·cases hs:(pK (fun i => !CL u.parts i) 0 u.parts.length).1
   ·have h3:=h1.1 hs;have h4:=h2.2 fun j hj=>by simpa using h3 j hj
    rw[hf]at h4;cases h4
   ·rfl
  ·have h3:=h2.1 hf;have h4:=h1.2 fun j hj=>by simp[h3 j hj]
   rw[h4];rfl
 rw[hb]at hA;have e0:v8 u.parts 0=1000:=rfl;have hA':lim T (.call false iF [.aI u.parts.length (u.parts.flatMap Prt.enc),.fn ec [] [.ref σ.length 0 0 0]] ([.cells 0 [.int .i64 1000]]::σ))=_:=hA;cases h1:ct u.D3 0 5
 ·simp[-length_flatMap,-map_take,BQ,h1,xQ.ok]
 cases h2:ct u.parts.length 1 8
 ·simp[-length_flatMap,-map_take,BQ,h1,h2,xQ.ok]
 simp[-length_flatMap,-map_take,BQ,h1,h2,xQ.ok,hA']
theorem Fo{u:xQ}(hl:u.parts.length≤1000000000):lim T (.call false nv [.agg u.enc] σ)=some (.val (.int .i64 (if u.ok then 0 else 1)) σ):=by
 refine aA DB pY.eq_1 rfl ?_;have hC:=fun σ=>KL (σ:=σ) hl
 simp only[xQ.enc]at hC ⊢;cases hc:u.ok<;>rw[hc]at hC<;>simp[-length_flatMap,-map_take,hC]
def ptD(L:Nat)(acc:List Prt):D:=.sl L 0 acc.length 0 acc.length 2
def ptS(acc:List Prt):List Abs.aE:=[.cells acc.length (acc.flatMap Prt.enc)]
theorem Gm(l:List Prt):(l.flatMap Prt.enc).length=l.length*2:=bT (f:=Prt.enc) (w:=2) (fun _=>rfl) l
theorem Jn{bp:D}(hb1:bp.calm=bp){tk:Int}:∀(rs acc:List Prt),acc.length+rs.length≤1000000 →
  WL T [0,2,6] false lu [(0,bp),(2,.aI (rs.length*2) (rs.flatMap Prt.enc)),(6,.own 0 [.int .i64 tk,ptD σ.length acc])] (ptS acc::σ)
   (fun x e σ'=>x=.exit 0∧get e 0=bp∧get e 6=.own 0 [.int .i64 tk,ptD σ.length (acc++rs)]∧get e 1000006=.undef∧σ'=ptS (acc++rs)::σ)
 |[],acc,h=>by
  refine aN lu.eq_1 ?_;simp[-length_flatMap,-map_take,hb1]
 |r::rs,acc,h=>by
  refine aN lu.eq_1 ?_;simp only[aJ]at h;have e1:(rs.length+1)*2=rs.length*2+2:=by omega
  have q0:(0:Int)<(rs.length:Int)*2+2:=by omega
  have q1:(1:Int)<(rs.length:Int)*2+2:=by omega
  have q2:(2:Int)≤(rs.length:Int)*2+2:=by omega
  have hroom:(acc.length+1)*16≤room:=by unfold room;omega
  have h32:16≤room:=by unfold room;omega
  have hl:=Gm acc;have ht:(acc.flatMap Prt.enc).take (acc.length*2)=acc.flatMap Prt.enc:=aj (by omega);have hl2:=Gm rs;have ht2:(rs.flatMap Prt.enc).take (rs.length*2)=rs.flatMap Prt.enc:=aj (by omega);simp[-length_flatMap,-map_take,hb1,e1,q0,q1,q2,hroom,hl,ht,ptD,ptS];refine WL.to (Jn hb1 (tk:=tk) rs (acc++[r]) (by simp;omega)) (by simp[ht2,ptD,ptS]) (by simp[ptS]) fun x e σ' hh=>?_
  simpa[ptD,ptS]using hh
def QF(b:Bk)(u:xQ):Bk:={b with fg:=b.fg++[u] }
def Bm(b:Bk)(u:xQ):Bk×Int:=if b.fg.length<10 then(if u.ok=true then(QF b u,0)else(b,1))else(b,3)
theorem QG(l:List xQ):(l.flatMap xQ.enc).length=l.length*2:=bT (f:=xQ.enc) (w:=2) (fun _=>rfl) l
theorem adW{S:SK}{L:Nat}(hS:S.length=L)(hL:0<L){pt:List Prt}{tk:Int}:cr.frzL (cr 0 16) [.int .i64 tk,ptD L pt] (ptS pt::S)=([.int .i64 tk,.aI pt.length (pt.flatMap Prt.enc)],[.dead]::S):=by
 have hf:=BB (f:=Prt.enc) (w:=2) (fun _=>rfl) (fun _=>by simp[D.clean]) (l:=pt) (j:=0) (v:=pt.length) (bs:=[Abs.aE.cells pt.length (pt.flatMap Prt.enc)]) (σ:=S) (by intro h;subst h;simp at hS;omega) (by simp);rw[hS]at hf;simp[ptD,ptS,hf]
theorem z6{l:List Prt}:D.bg (l.flatMap Prt.enc)=true:=dX (fun _=>by simp[D.clean]) l
theorem anm{F:List Abs.aE}{b:Bk}{er:List Int}{nm:List UInt8}{u:xQ}{b':Bk}{e:Int}(hl:u.parts.length≤1000000)(hd:Bm b u=(b',e))(he:e=0):
  lim T (.call false gj [.ref σ.length 6 0 0,.str nm,.aI (u.parts.length*2+1) (.int .i64 u.D3::u.parts.flatMap Prt.enc)] (F::b.bw σ.length er::σ))=some (.val (.dK []) (F::b'.bw σ.length er::σ)):=by
 refine gF wk kT.eq_1 rfl (by simp) ?_;unfold Bm at hd;split at hd
 case isFalse=>cases hd;cases he
 rename_i h1;split at hd
 case isFalse=>cases hd;cases he
 rename_i h2;cases hd;have h1':(b.fg.length:Int)<10:=by omega
 have hC:=fun σ=>Fo (σ:=σ) (u:=u) (by omega)
 simp only[h2,if_true,xQ.enc]at hC;have hL:=Jn (σ:=F::b.bw σ.length er::σ) (bp:=.ref σ.length 6 0 0) rfl (tk:=u.D3) u.parts [] (by simpa using hl);have hne:u.parts≠[]:=by
  intro hh;simp[xQ.ok,ct,hh]at h2
 have q0:(0:Int)<(u.parts.length:Int)*2+1:=by omega
 have q1:(1:Int)≤(u.parts.length:Int)*2+1:=by omega
 have hlp:=Gm u.parts;have htp:(u.parts.flatMap Prt.enc).take (u.parts.length*2)=u.parts.flatMap Prt.enc:=aj (by omega);simp[-length_flatMap,-map_take,Bk.bw,Bk.cells,h1',cF,q0,q1];refine WL.to hL (by simp[ptD,htp]) (by simp[Bk.bw,Bk.cells,ptS]) ?_;rintro x e σ' ⟨rfl,g0,g6,gu,rfl⟩;have hf:=fun S hS=>adW (S:=S) (L:=σ.length+1+1) hS (by omega) (pt:=u.parts) (tk:=u.D3)
 have w2:(b.fg.length+1)*32≤room:=by unfold room;omega
 have w3:=QG b.fg;have w4:(b.fg.flatMap xQ.enc).take (b.fg.length*2)=b.fg.flatMap xQ.enc:=aj (by omega);simp only[aX]at g6;simp[-length_flatMap,-map_take,g0,g6,gu,hf,hC,oO,Bk.bw,Bk.cells,QF,w2,w3,w4,z6]
theorem SX{F:List Abs.aE}{b:Bk}{er:List Int}{nm:List UInt8}{u:xQ}{b':Bk}{e:Int}(hl:u.parts.length≤1000000)(hd:Bm b u=(b',e))(he:e≠0):
  lim T (.call false gj [.ref σ.length 6 0 0,.str nm,.aI (u.parts.length*2+1) (.int .i64 u.D3::u.parts.flatMap Prt.enc)] (F::b.bw σ.length er::σ))=some (.fY (rf e) (F::b.bw σ.length er::σ)):=by
 refine eh wk kT.eq_1 rfl ?_;have hM:=fun σ=>pU (σ:=σ) (e:=1) (by decide)
 have hrc:(D.uj 311 (.agg [.int .i64 1])).clean=true:=rfl;unfold Bm at hd;split at hd
 case isFalse h1 =>
  cases hd;have h1':¬(b.fg.length:Int)<10:=by omega
  simp[-length_flatMap,-map_take,Bk.bw,Bk.cells,h1',dF,D.clean,rf]
 rename_i h1;split at hd
 case isTrue=>cases hd;exact absurd rfl he
 rename_i h2;cases hd;have h1':(b.fg.length:Int)<10:=by omega
 have h2':u.ok=false:=by simpa using h2
 have hC:=fun σ=>Fo (σ:=σ) (u:=u) (by omega)
 simp only[h2',xQ.enc]at hC;have hL:=Jn (σ:=F::b.bw σ.length er::σ) (bp:=.ref σ.length 6 0 0) rfl (tk:=u.D3) u.parts [] (by simpa using hl);have q0:(0:Int)<(u.parts.length:Int)*2+1:=by omega
 have q1:(1:Int)≤(u.parts.length:Int)*2+1:=by omega
 have hlp:=Gm u.parts;have htp:(u.parts.flatMap Prt.enc).take (u.parts.length*2)=u.parts.flatMap Prt.enc:=aj (by omega);simp[-length_flatMap,-map_take,Bk.bw,Bk.cells,h1',cF,q0,q1];refine WL.to hL (by simp[ptD,htp]) (by simp[Bk.bw,Bk.cells,ptS]) ?_;rintro x e σ' ⟨rfl,g0,g6,gu,rfl⟩;have hf:=fun S hS=>adW (S:=S) (L:=σ.length+1+1) hS (by omega) (pt:=u.parts) (tk:=u.D3)
 simp only[aX]at g6;simp[-length_flatMap,-map_take,g0,g6,gu,hf,hC,hM,Bk.bw,Bk.cells,z6,rf,hrc]
def y8(b:cz)(m:cI):D:=if Bd b m then Sk (dV b m)else .aG
theorem K3{b:cz}{m:cI}:(y8 b m).clean=true:=by
 unfold y8;split
 ·simp[Sk,dX (f:=Rock.aE.enc) (fun _=>by simp[D.clean])]
 ·simp
theorem Mi{b:cz}{m:cI}:(y8 b m).strip=y8 b m:=by unfold y8;split<;>rfl
theorem KY{b:cz}{m:cI}:(y8 b m).calm=y8 b m:=by unfold y8;split<;>rfl
theorem NR{b:cz}{m:cI}{tq wq:D}(htq:tq.wE=.aI b.cq.length (b.cq.flatMap Rw.enc))(hwq:wq.wE=.aI b.ar.length (b.ar.flatMap bH.enc))(h1:b.cq.length≤1000000000)(h2:b.ar.length≤1000000000)(hn:m.name.length≤1000000000)(hl:m.bh.length≤1000000000)(hσ:σ≠[]):
  lim T (.call false uf [.agg [.int .i64 b.f.x,.int .i64 b.f.y,.int .i64 b.f.z,.int .i64 b.f.k,tq,.int .i64 b.bJ,.int .i64 b.lift,.int .i64 b.deep,wq],.agg [.str m.name,.aI m.bh.length (m.bh.flatMap aS)]] σ)=some (.val (.dK [y8 b m,.int .i64 (if Bd b m then 0 else 1)]) σ):=by
 unfold y8;cases hb:Bd b m
 ·refine aA DG tU.eq_1 rfl ?_;obtain⟨d,hd,hd1,hd2⟩:=NS (σ:=[]::σ) h1 h2 hn hl hb;simp[-length_flatMap,-map_take,htq,hwq,hd,hd1,hd2,cK,bu,aY]
 ·refine aA DG tU.eq_1 rfl ?_;have hd:=fun σ=>ahj (σ:=σ) h1 h2 hn hl hb
  have hf:=fun σ hσ=>Es (σ:=σ) (b:=b) (m:=m) (Fv.of hb) hσ
  have hcl:(Sk (dV b m)).clean=true:=by simp[Sk,dX (f:=Rock.aE.enc) (fun _=>by simp[D.clean])]
  have hs1:(Sk (dV b m)).strip=Sk (dV b m):=rfl;have hs2:(Sk (dV b m)).calm=Sk (dV b m):=rfl;simp[-length_flatMap,-map_take,htq,hwq,hd,hf,hs1,hs2,hcl,cK,bu,aY]
theorem SE{e:jb}{nm:List UInt8}:lim T (.call false eu [.agg e.enc,.bD [.str nm]] σ)=some (.val (.bool (e.m.name == nm)) σ):=by
 refine aA zQ lr.eq_1 rfl ?_;simp[-length_flatMap,-map_take,rU]
theorem DS(l:List jb):(l.flatMap jb.enc).length=l.length*4:=bT (f:=jb.enc) (w:=4) (fun _=>rfl) l
theorem QH(l:List F1):(l.flatMap F1.enc).length=l.length*4:=bT (f:=F1.enc) (w:=4) (fun _=>rfl) l
theorem Iv{b:Bk}{er:List Int}{nm:List UInt8}{S:SK}(hl:b.an.length≤1000000)(hs:fX S σ.length=some (b.bw σ.length er)):
  lim T (.call false dW [.sl σ.length 0 b.an.length 0 b.an.length 4,.fn eu [] [.bD [.str nm]]] S)=some (.val (.bool (sT b.an fun e=>e.m.name == nm)) S) :=
 CH (enc:=jb.enc) (w:=4) (fun _=>rfl) (F:=b.bw σ.length er) (bi:=0) (v:=b.an.length) (l:=b.an) (i:=cC) rfl rfl (by simp[Bk.bw]) (by omega)
  ⟨rfl,rfl,fun e _ σ=>by rw[rk];have h:=SE (σ:=σ) (e:=e) (nm:=nm);have h':lim T (.call false eu ([]++[.agg e.enc]++[.bD [.str nm]]) σ)=_:=h;rw[h'];rfl⟩ hs
def E1(b:Bk)(m:cI):Bk:={b with an:=b.an++[⟨m,true,0⟩],jt:=b.jt++[⟨0,0,0,0⟩] }
def xW(b:Bk)(m:cI):Bk×Int :=
 if b.ready=true∧b.az=[]then
  (if(sT b.an fun e=>e.m.name == m.name)=true then(b,6)else if b.an.length<40 then(if Bd b.bG m=true then(E1 b m,0)else(b,1))else(b,3))
 else(b,8)
theorem SF{F:List Abs.aE}{b:Bk}{er:List Int}{m:cI}{b':Bk}{e:Int}(h1:b.bG.cq.length≤1000000000)(h2:b.bG.ar.length≤1000000000)(hn:m.name.length≤1000000000)(hl:m.bh.length≤1000000000)(hw:b.jt.length=b.an.length)(hd:xW b m=(b',e))(he:e=0):
  lim T (.call false fA [.ref σ.length 6 0 0,.str m.name,.aI m.bh.length (m.bh.flatMap aS)] (F::b.bw σ.length er::σ))=some (.val (.dK []) (F::b'.bw σ.length er::σ)):=by
 refine gF vx j5.eq_1 rfl (by simp) ?_;unfold xW at hd;split at hd
 case isFalse=>cases hd;cases he
 rename_i c0;obtain⟨c1,c2⟩:=c0;split at hd
 case isTrue=>cases hd;cases he
 rename_i c3;split at hd
 case isFalse=>cases hd;cases he
 rename_i c4;split at hd
 case isFalse=>cases hd;cases he
 rename_i c5;cases hd;have c3':(sT b.an fun e=>e.m.name == m.name)=false:=by simpa using c3
 have c4':(b.an.length:Int)<40:=by omega
 have hH:=fun S=>Iv (σ:=σ) (b:=b) (er:=er) (nm:=m.name) (S:=S) (by omega)
 simp only[c3']at hH;have hS:=fun S hσ=>NR (σ:=S) (b:=b.bG) (m:=m) (tq:=nl Rw.enc b.bG.cq) (wq:=nl bH.enc b.bG.ar) um um h1 h2 hn hl hσ
 simp only[c5]at hS;simp only[Bk.bw,Bk.cells]at hH;have w2:(b.an.length+1)*56≤room:=by unfold room;omega
 have w3:=DS b.an;have w4:(b.an.flatMap jb.enc).take (b.an.length*4)=b.an.flatMap jb.enc:=aj (by omega);have w5:(b.jt.length+1)*32≤room:=by unfold room;omega
 have w6:=QH b.jt;have w7:(b.jt.flatMap F1.enc).take (b.jt.length*4)=b.jt.flatMap F1.enc:=aj (by omega);simp[-length_flatMap,-map_take,Bk.bw,Bk.cells,c1,c2,hH,c4',hS,K3,Mi,KY,Qr,cF,oO,E1,w2,w3,w4,w5,w6,w7,aY]
theorem QP{F:List Abs.aE}{b:Bk}{er:List Int}{m:cI}{b':Bk}{e:Int}(h1:b.bG.cq.length≤1000000000)(h2:b.bG.ar.length≤1000000000)(hn:m.name.length≤1000000000)(hl:m.bh.length≤1000000000)(hml:b.an.length≤40)(hd:xW b m=(b',e))(he:e≠0):
  lim T (.call false fA [.ref σ.length 6 0 0,.str m.name,.aI m.bh.length (m.bh.flatMap aS)] (F::b.bw σ.length er::σ))=some (.fY (rf e) (F::b.bw σ.length er::σ)):=by
 refine eh vx j5.eq_1 rfl ?_;have hM:=fun σ=>pU (σ:=σ) (e:=1) (by decide)
 have hrc:(D.uj 311 (.agg [.int .i64 1])).clean=true:=rfl;unfold xW at hd;split at hd
 case isFalse c0 =>
  cases hd;cases c1:b.ready with
  |false=>simp[-length_flatMap,-map_take,Bk.bw,Bk.cells,c1,dF,D.clean,rf]
  |true =>
   have c2:((b.az.length:Int) == 0)=false:=by simpa using fun hh=>c0 ⟨c1,hh⟩
   simp[-length_flatMap,-map_take,Bk.bw,Bk.cells,c1,c2,dF,D.clean,rf]
 rename_i c0;obtain⟨c1,c2⟩:=c0;have hH:=fun S=>Iv (σ:=σ) (b:=b) (er:=er) (nm:=m.name) (S:=S) (by omega)
 split at hd
 case isTrue c3 =>
  cases hd;simp only[c3]at hH;simp only[Bk.bw,Bk.cells]at hH;simp[-length_flatMap,-map_take,Bk.bw,Bk.cells,c1,c2,hH,cF,dF,D.clean,rf]
 rename_i c3;have c3':(sT b.an fun e=>e.m.name == m.name)=false:=by simpa using c3
 simp only[c3']at hH;split at hd
 case isFalse c4 =>
  cases hd;have c4':¬(b.an.length:Int)<40:=by omega
  simp only[Bk.bw,Bk.cells]at hH;simp[-length_flatMap,-map_take,Bk.bw,Bk.cells,c1,c2,hH,c4',cF,dF,D.clean,rf]
 rename_i c4;have c4':(b.an.length:Int)<40:=by omega
 split at hd
 case isTrue=>cases hd;exact absurd rfl he
 rename_i c5;cases hd;have c5':Bd b.bG m=false:=by simpa using c5
 have hS:=fun S hσ=>NR (σ:=S) (b:=b.bG) (m:=m) (tq:=nl Rw.enc b.bG.cq) (wq:=nl bH.enc b.bG.ar) um um h1 h2 hn hl hσ
 simp only[c5']at hS;simp only[Bk.bw,Bk.cells]at hH;simp[-length_flatMap,-map_take,Bk.bw,Bk.cells,c1,c2,hH,c4',hS,K3,Mi,KY,Qr,cF,hM,aY,rf,hrc]
end Go.Proofs.YtfgljaglidhjiaaGreatDoor
namespace Go.Book
open List(length_flatMap map_take)
open Go Go.Abs Go.Rock
def isStr(lo hi:Int)(val:cI→Int)(e:jb):Bool:=e.left && !ct (val e.m) lo hi
def dh(at_ lo hi:Int)(val:cI→Int)(e:jb):jb:=if isStr lo hi val e then⟨e.m,false,at_⟩else e
def ag6(at_ lo hi:Int)(val:cI→Int)(ms:List jb)(j:Nat)(w:F1):F1:=match ms[j]? with
 |some e=>if isStr lo hi val e then⟨at_,val e.m,lo,hi⟩else w
 |none=>w
def Bk.jX(b:Bk)(lo hi:Int)(val:cI→Int)(i:Nat):Bk :=
 {b with an:=b.an.mapIdx fun j e=>if j<i then dh b.at_ lo hi val e else e,jt:=b.jt.mapIdx fun j w=>if j<i then ag6 b.at_ lo hi val b.an j w else w }
section
variable {b:Bk} {lo hi:Int} {val:cI→Int} {i:Nat}
@[simp] theorem ae3:(b.jX lo hi val i).bG=b.bG:=aD rfl
@[simp] theorem R7:(b.jX lo hi val i).az=b.az:=aD rfl
@[simp] theorem NI:(b.jX lo hi val i).rules=b.rules:=aD rfl
@[simp] theorem ae4:(b.jX lo hi val i).zl=b.zl:=aD rfl
@[simp] theorem aha:(b.jX lo hi val i).k0=b.k0:=aD rfl
@[simp] theorem ahb:(b.jX lo hi val i).k1=b.k1:=aD rfl
@[simp] theorem ahc:(b.jX lo hi val i).k2=b.k2:=aD rfl
@[simp] theorem NK:(b.jX lo hi val i).fg=b.fg:=aD rfl
@[simp] theorem NJ:(b.jX lo hi val i).mK=b.mK:=aD rfl
@[simp] theorem NH:(b.jX lo hi val i).ready=b.ready:=aD rfl
@[simp] theorem ag8:(b.jX lo hi val i).at_=b.at_:=aD rfl
end
theorem R8{b:Bk}{lo hi:Int}{val:cI→Int}:b.jX lo hi val 0=b:=by
 cases b;simp only[Bk.jX,Bk.mk.injEq,true_and,and_true];constructor<;>(apply eU;intro j;simp[fu])
theorem Ek{b:Bk}{lo hi:Int}{val:cI→Int}{i:Nat}:(b.jX lo hi val i).an.length=b.an.length:=by simp[Bk.jX]
theorem El{b:Bk}{lo hi:Int}{val:cI→Int}{i:Nat}:(b.jX lo hi val i).jt.length=b.jt.length:=by simp[Bk.jX]
theorem ag9{b:Bk}{lo hi:Int}{val:cI→Int}{i:Nat}{e:jb}(h:b.an[i]?=some e):(b.jX lo hi val i).an[i]?=some e:=by simp[Bk.jX,h]
theorem R6{b:Bk}{lo hi:Int}{val:cI→Int}{i:Nat}{e:jb}(h:b.an[i]?=some e)(hs:isStr lo hi val e=true)(hw:b.jt.length=b.an.length):
  (b.jX lo hi val (i+1)).an=(b.jX lo hi val i).an.set i ⟨e.m,false,b.at_⟩∧(b.jX lo hi val (i+1)).jt=(b.jX lo hi val i).jt.set i ⟨b.at_,val e.m,lo,hi⟩:=by
 obtain⟨hi',he⟩:=au.1 h;constructor
 ·apply eU;intro j;simp only[Bk.jX,fu,List.getElem?_set];by_cases hj:i=j
  ·subst hj;rw[h];simp[hi',dh,hs]
  ·rw[if_neg hj];cases b.an[j]? with
   |none=>rfl
   |some x=>simp only[aT];congr 1;by_cases h1:j<i<;>simp[h1]<;>omega
 ·apply eU;intro j;simp only[Bk.jX,fu,List.getElem?_set];by_cases hj:i=j
  ·subst hj;have:i<b.jt.length:=by omega
   rw[aF this];simp[h,this,ag6,hs]
  ·rw[if_neg hj];cases b.jt[j]? with
   |none=>rfl
   |some x=>simp only[aT];congr 1;by_cases h1:j<i<;>simp[h1]<;>omega
theorem Jf{b:Bk}{lo hi:Int}{val:cI→Int}{i:Nat}{e:jb}(h:b.an[i]?=some e)(hs:isStr lo hi val e=false):b.jX lo hi val (i+1)=b.jX lo hi val i:=by
 have h1:(b.jX lo hi val (i+1)).an=(b.jX lo hi val i).an:=by
  apply eU;intro j;simp only[Bk.jX,fu];by_cases hj:i=j
  ·subst hj;simp[h,dh,hs]
  ·cases b.an[j]? with
   |none=>rfl
   |some x=>simp only[aT];congr 1;by_cases h1:j<i<;>simp[h1]<;>omega
 have h2:(b.jX lo hi val (i+1)).jt=(b.jX lo hi val i).jt:=by
  apply eU;intro j;simp only[Bk.jX,fu];by_cases hj:i=j
  ·subst hj;cases b.jt[i]? with
   |none=>rfl
   |some x=>simp[h,ag6,hs]
  ·cases b.jt[j]? with
   |none=>rfl
   |some x=>simp only[aT];congr 1;by_cases h1:j<i<;>simp[h1]<;>omega
 simp only[Bk.jX]at h1 h2 ⊢;rw[h1,h2]
end Go.Book
namespace Go.Proofs.YtfgljaglidhjiaaGreatDoor
open List(length_flatMap map_take)
open Go Go.Abs Go.Rock Go.Book
variable {σ:SK}
theorem K2{α:Type}{f:α→List D}{w k:Nat}{v:D}(hw:∀x,(f x).length=w)(hk:k<w):∀{l:List α} {i:Nat} {x x':α},l[i]?=some x→(f x).set k v=f x'→(l.flatMap f).set (i*w+k) v=(l.set i x').flatMap f
 |[],i,x,x',h,_=>by simp at h
 |a::l,0,x,x',h,hs=>by
  simp at h;subst h;simp only[aW,List.set_cons_zero,Nat.zero_mul,cS];rw[List.set_append_left _ _ (by rw[hw];exact hk),hs]
 |a::l,i+1,x,x',h,hs=>by
  have ih:=K2 hw hk (l:=l) (i:=i) (by simpa using h) hs;simp only[aW,List.set_cons_succ];have e:=hw a;rw[List.set_append_right _ _ (by rw[e,eV];omega),← ih];congr 2;rw[e,eV];omega
theorem K1{α:Type}{f:α→List D}{w k:Nat}{v:D}(hw:∀x,(f x).length=w)(hk:k<w){l:List α}{i:Nat}{x x':α}(h:l[i]?=some x)(hs:(f x).set k v=f x'):(l.flatMap f).take (i*w+k)++v::(l.flatMap f).drop (i*w+k+1)=(l.set i x').flatMap f:=by
 rw[← K2 hw hk h hs,List.set_eq_take_append_cons_drop,if_pos];rw[bT hw];have h1:=(au.1 h).1;have:(i+1)*w≤l.length*w:=dn _ h1;rw[eV]at this;omega
theorem KO{A F:List Abs.aE}{b:Bk}{er:List Int}{lo hi:Int}{val:cI→Int}{fv:D}(hf1:fv.strip=fv)(hf2:fv.calm=fv)(hw:b.jt.length=b.an.length)(hl:b.an.length≤40)
  (hv:∀i e,e∈b.an→e.left=true→pw (lim T) false fv [.agg [.str e.m.name,.aI e.m.bh.length (e.m.bh.flatMap aS)]] ([]::A::F::(b.jX lo hi val i).bw σ.length er::σ)=some (.int .i64 (val e.m),[]::A::F::(b.jX lo hi val i).bw σ.length er::σ)):∀(m i:Nat),i+m=b.an.length →
  WL T [0,2,4,13,14,15] false jf [(0,.ref σ.length 6 0 0),(2,fv),(4,.bD [.int .i64 lo,.int .i64 hi]),(13,.sl σ.length 0 b.an.length 0 b.an.length 4),(14,.int .i64 b.an.length),(15,.int .i64 i)] ([]::A::F::(b.jX lo hi val i).bw σ.length er::σ)
   (fun x e σ'=>x=.exit 0∧σ'=[]::A::F::(b.jX lo hi val b.an.length).bw σ.length er::σ)
 |0,i,h=>by
  refine aN jf.eq_1 ?_;have h1:¬i<b.an.length:=by omega
  have h2:i=b.an.length:=by omega
  simp[-length_flatMap,-map_take,h1,hf1,hf2,h2]
 |m+1,i,h=>by
  refine aN jf.eq_1 ?_;have h1:i<b.an.length:=by omega
  obtain⟨e,he⟩:=gE h1;have hat:=ag9 (lo:=lo) (hi:=hi) (val:=val) he;have hfl:=bS (f:=jb.enc) (w:=4) (fun _=>rfl) hat;have hml:=Ek (b:=b) (lo:=lo) (hi:=hi) (val:=val) (i:=i);have hwl:=El (b:=b) (lo:=lo) (hi:=hi) (val:=val) (i:=i);have h4:=gD h1 (by omega);have ih:=KO hf1 hf2 hw hl hv m (i+1) (by omega);have hlen:=DS (b.jX lo hi val i).an;rw[hml]at hlen;have q:4≤b.an.length*4-i*4:=by omega
  cases hc1:e.left with
  |false =>
   have hst:isStr lo hi val e=false:=by simp[isStr,hc1]
   rw[Jf he hst]at ih;simp[-length_flatMap,-map_take,h1,hf1,hf2,Bk.bw,Bk.cells,hml,hwl,hfl,hlen,q,h4,hc1];exact WL.to ih (by simp) (by simp[Bk.bw,Bk.cells,hml,hwl]) fun x e σ' hh=>by simpa[Bk.bw,Bk.cells,Ek,El]using hh
  |true =>
   have hcall:=hv i e (ai he) hc1;simp only[Bk.bw,Bk.cells,hml,hwl,ae3,R7,NI,ae4,aha,ahb,ahc,NK,NJ,NH,ag8]at hcall;cases hc2:ct (val e.m) lo hi with
   |true =>
    have hst:isStr lo hi val e=false:=by simp[isStr,hc2]
    rw[Jf he hst]at ih;simp[-length_flatMap,-map_take,h1,hf1,hf2,Bk.bw,Bk.cells,hml,hwl,hfl,hlen,q,h4,hc1,hcall,fj,hc2];exact WL.to ih (by simp) (by simp[Bk.bw,Bk.cells,hml,hwl]) fun x e σ' hh=>by simpa[Bk.bw,Bk.cells,Ek,El]using hh
   |false =>
    have hst:isStr lo hi val e=true:=by simp[isStr,hc1,hc2]
    obtain⟨hn1,hn2⟩:=R6 he hst hw;have q2:i*4+2+1≤b.an.length*4:=by omega
    have q3:i*4+3+1≤b.an.length*4:=by omega
    have p1:=K1 (f:=jb.enc) (w:=4) (k:=2) (v:=.bool false) (fun _=>rfl) (by omega) (x':=⟨e.m,false,e.by_⟩) hat rfl;have hat2:((b.jX lo hi val i).an.set i ⟨e.m,false,e.by_⟩)[i]?=some ⟨e.m,false,e.by_⟩:=by simp[hml,h1]
    have p2:=K1 (f:=jb.enc) (w:=4) (k:=3) (v:=.int .i64 b.at_) (fun _=>rfl) (by omega) (x':=⟨e.m,false,b.at_⟩) hat2 rfl;rw[List.set_set]at p2;have hl2:=DS ((b.jX lo hi val i).an.set i ⟨e.m,false,e.by_⟩);rw[List.length_set,hml]at hl2;have h5:i<b.jt.length:=by omega
    have q5:i*4+4≤b.jt.length*4:=by omega
    have hwe:=QH (b.jX lo hi val i).jt;rw[hwl]at hwe;have p3:=Qa (f:=F1.enc) (w:=4) (fun _=>rfl) (l:=(b.jX lo hi val i).jt) (i:=i) (x:=⟨b.at_,val e.m,lo,hi⟩) (by omega);simp only[F1.enc,fK,aX]at p3;simp[-length_flatMap,-map_take,h1,hf1,hf2,Bk.bw,Bk.cells,hml,hwl,hfl,hlen,q,h4,hc1,hcall,fj,hc2,q2,q3,p1,p2,hl2,h5,q5,hwe,p3];exact WL.to ih (by simp) (by simp[Bk.bw,Bk.cells,hwl,hn1,hn2,hml]) fun x e σ' hh=>by simpa[Bk.bw,Bk.cells,Ek,El]using hh
def mE(b:Bk)(lo hi:Int)(val:cI→Int):Bk:=b.jX lo hi val b.an.length
theorem KK{A F:List Abs.aE}{b:Bk}{er:List Int}{lo hi:Int}{val:cI→Int}{fv:D}(hf1:fv.strip=fv)(hf2:fv.calm=fv)(hw:b.jt.length=b.an.length)(hl:b.an.length≤40)
  (hv:∀i e,e∈b.an→e.left=true→pw (lim T) false fv [.agg [.str e.m.name,.aI e.m.bh.length (e.m.bh.flatMap aS)]] ([]::A::F::(b.jX lo hi val i).bw σ.length er::σ)=some (.int .i64 (val e.m),[]::A::F::(b.jX lo hi val i).bw σ.length er::σ)):
  lim T (.call false gw [.ref σ.length 6 0 0,.agg [.int .i64 lo,.int .i64 hi],fv] (A::F::b.bw σ.length er::σ))=some (.val (.dK []) (A::F::(mE b lo hi val).bw σ.length er::σ)):=by
 refine gF AO mq.eq_1 rfl (by simp) ?_;have h:=KO (A:=A) (F:=F) (er:=er) hf1 hf2 hw hl hv b.an.length 0 (by omega);rw[R8]at h;simp[-length_flatMap,-map_take,Bk.bw,Bk.cells,hf1,hf2];refine WL.to h (by simp) (by simp[Bk.bw,Bk.cells]) ?_;rintro x e σ' ⟨rfl,rfl⟩;simp[mE,Bk.bw,Bk.cells]
end Go.Proofs.YtfgljaglidhjiaaGreatDoor
namespace Go.Proofs.YtfgljaglidhjiaaGreatDoor
open List(length_flatMap map_take)
open Go Go.Abs Go.Rock
variable {σ:SK}
structure yH where
 m:Int
 h:Int
 s:Int
 g:Int
@[simp] def yH.enc(x:yH):List D:=[.int .i64 x.m,.int .i64 x.h,.int .i64 x.s,.int .i64 x.g]
def yH.valid(x:yH):Bool:=ct x.m 0 1000000 && (ct x.h 0 (4000*x.m) && (ct x.s 0 (10000*x.m) && ct x.g 0 1000000000))
def jd(r:Rw)(x:yH):Int:=if x.h-x.m*r.l≤0 then 0 else if x.m*r.v≤x.h then x.m else(x.h-x.m*r.l) / (r.v-r.l)
theorem Sy{r:Rw}{x:yH}(hr:0≤r.l∧r.l<r.v∧r.v≤4000)(hm:0≤x.m∧x.m≤1000000)(hh:0≤x.h∧x.h≤4000000000):
  lim T (.call false la [.agg r.enc,.agg x.enc] σ)=some (.val (.int .i64 (jd r x)) σ):=by
 refine aA Cv oi.eq_1 rfl ?_;have b1:=oH hm.1 hm.2 hr.1 (show r.l≤4000 by omega);have b2:=oH hm.1 hm.2 (show 0≤r.v by omega) hr.2.2;have w1:=fT (n:=x.m*r.l) (by omega);have w2:=fT (n:=x.h-x.m*r.l) (by omega);have w3:=fT (n:=x.m*r.v) (by omega);have w4:=fT (n:=r.v-r.l) (by omega);have hd:¬r.v-r.l=0:=by omega
 unfold jd;by_cases c1:x.h-x.m*r.l≤0
 ·simp[-length_flatMap,-map_take,w1,w2,w3,w4,c1]
 ·by_cases c2:x.m*r.v≤x.h
  ·simp[-length_flatMap,-map_take,w1,w2,w3,w4,c1,c2]
  ·have t1:=bA (b:=r.v-r.l) (show 0≤x.h-x.m*r.l by omega);have q1:=Int.ediv_nonneg (a:=x.h-x.m*r.l) (b:=r.v-r.l) (by omega) (by omega);have q2:=Int.ediv_le_self (b:=r.v-r.l) (show 0≤x.h-x.m*r.l by omega);have w5:=fT (n:=(x.h-x.m*r.l) / (r.v-r.l)) (by omega);simp[-length_flatMap,-map_take,w1,w2,w3,w4,c1,c2,hd,t1,w5]
theorem Gx{x:yH}:lim T (.call false gY [.agg x.enc] σ)=some (.val (.bool x.valid) σ):=by
 refine aA Be ni.eq_1 rfl ?_;unfold yH.valid;cases h1:ct x.m 0 1000000
 ·simp[-length_flatMap,-map_take,ki,h1]
 have hm:=bf.1 h1;have w1:=fT (n:=4000*x.m) (by omega);have w2:=fT (n:=10000*x.m) (by omega);cases h2:ct x.h 0 (4000*x.m)
 ·simp[-length_flatMap,-map_take,ki,h1,h2,w1,w2]
 cases h3:ct x.s 0 (10000*x.m)
 ·simp[-length_flatMap,-map_take,ki,h1,h2,h3,w1,w2]
 cases h4:ct x.g 0 1000000000<;>simp[-length_flatMap,-map_take,ki,h1,h2,h3,h4,w1,w2]
theorem atM{t:List Rw}{i:Nat}{r:Rw}(h:t[i]?=some r):lim T (.call false oE [.aI t.length (t.flatMap Rw.enc),.int .i64 i] σ)=some (.val (.agg r.enc) σ):=by
 refine aA EF rR.eq_1 rfl ?_;have h1:i<t.length:=(au.1 h).1;have h2:=bS (f:=Rw.enc) (w:=5) (fun _=>rfl) h;simp[-length_flatMap,-map_take,h1,h2]
theorem ahk{t:List Rw}{n:Int}(hl:t.length≤1000000000):lim T (.call false nC [.aI t.length (t.flatMap Rw.enc),.int .i64 n] σ)=some (.val (.bool (ct n 0 ((t.length:Int)-1))) σ):=by
 refine aA DK qU.eq_1 rfl ?_;have w1:=fT (n:=(t.length:Int)-1) (by omega);simp[-length_flatMap,-map_take,ki,w1]
def wat(r:Rw)(x:yH):Int×Int:=if jd r x=0 then(x.m,x.h)else if jd r x=x.m then(0,0)else(x.m-jd r x,x.h-jd r x*r.v)
def asK(r:Rw)(x:yH):Int:=if jd r x=0 then 0 else if jd r x=x.m then x.h else jd r x*r.v
def awU(r:Rw)(x:yH):Int:=if jd r x=0 then x.g else 0
def asJ(r:Rw)(x:yH):Int:=if jd r x=0 then 0 else x.g
def held(r:Rw)(x:yH):Int:=min x.s ((wat r x).1*r.s)
def parts(r:Rw)(x:yH):List D:=[.int .i64 (jd r x),.int .i64 (asK r x),.int .i64 0,.int .i64 (asJ r x),.int .i64 (wat r x).1,.int .i64 (wat r x).2,.int .i64 (held r x),.int .i64 (awU r x),
 .int .i64 (if 0<(wat r x).1 then max 0 ((wat r x).2-(wat r x).1*r.l)else 0),.int .i64 (x.s-held r x)]
theorem adY{r:Rw}{x:yH}(hr:0≤r.l∧r.l<r.v∧r.v≤4000)(hm:0≤x.m):0≤jd r x∧jd r x≤x.m∧(jd r x≠0→jd r x≠x.m→0≤x.h-jd r x*r.v+x.m*r.v):=by
 have hmv:x.m*r.v=x.m*r.l+x.m*(r.v-r.l):=by rw[← Int.mul_add];congr 1;omega
 have hml:=ft hm hr.1;have key:¬x.h-x.m*r.l≤0→¬x.m*r.v≤x.h→0≤(x.h-x.m*r.l) / (r.v-r.l)∧(x.h-x.m*r.l) / (r.v-r.l)≤x.m:=fun h1 h2=>⟨Int.ediv_nonneg (by omega) (by omega),Int.ediv_le_of_le_mul (by omega) (by omega)⟩
 have h2:0≤jd r x∧jd r x≤x.m:=by
  unfold jd;by_cases c1:x.h-x.m*r.l≤0
  ·rw[if_pos c1];omega
  ·rw[if_neg c1];by_cases c2:x.m*r.v≤x.h
   ·rw[if_pos c2];omega
   ·rw[if_neg c2];exact key c1 c2
 refine⟨h2.1,h2.2,fun h3 _=>?_⟩;have h4:=fJ h2.2 (show 0≤r.v by omega);have h5:¬x.h-x.m*r.l≤0:=by
  intro hh;exact h3 (by unfold jd;rw[if_pos hh])
 omega
theorem atJ{r:Rw}{x:yH}(hr:0≤r.l∧r.l<r.v∧r.v≤4000)(hs:0≤r.s∧r.s≤2000)(hx:x.valid=true):
  lim T (.call false oF [.agg r.enc,.agg x.enc] σ)=some (.val (.agg (parts r x)) σ):=by
 refine aA EG rS.eq_1 rfl ?_;simp only[yH.valid,af,bf]at hx;obtain⟨hm,hh,hsl,hg⟩:=hx;have hF:=fun σ=>Sy (σ:=σ) hr hm ⟨hh.1,by omega⟩
 obtain⟨f1,f2,f3⟩:=adY hr hm.1;have b1:=oH f1 (show jd r x≤1000000 by omega) (show 0≤r.v by omega) hr.2.2;have b2:=oH (show 0≤x.m-jd r x by omega) (show x.m-jd r x≤1000000 by omega) hs.1 hs.2;have b3:=oH (show 0≤x.m-jd r x by omega) (show x.m-jd r x≤1000000 by omega) hr.1 (show r.l≤4000 by omega);have b4:=oH hm.1 hm.2 hs.1 hs.2;have b5:=oH hm.1 hm.2 hr.1 (show r.l≤4000 by omega);simp only[Rw.enc,yH.enc]at hF;unfold parts held asK awU asJ wat;generalize jd r x=m at *
 have w1:=fT (n:=m*r.v) (by omega);have w2:=fT (n:=x.m-m) (by omega);have w3:=fT (n:=x.h-m*r.v) (by omega);have w4:=fT (n:=(x.m-m)*r.s) (by omega);have w5:=fT (n:=(x.m-m)*r.l) (by omega);have w6:=fT (n:=x.h-m*r.v-(x.m-m)*r.l) (by omega);have w7:=fT (n:=x.m*r.s) (by omega);have w8:=fT (n:=x.m*r.l) (by omega);have w9:=fT (n:=x.h-x.m*r.l) (by omega);have v1:=fT (n:=x.s-min x.s (x.m*r.s)) (by omega);have v2:=fT (n:=x.s-min x.s ((x.m-m)*r.s)) (by omega);have v3:=fT (n:=x.s) (by omega);have v4:min x.s 0=0:=by omega
 by_cases c1:m=0
 ·subst c1;by_cases c2:0<x.m
  ·simp[-length_flatMap,-map_take,hF,w7,w8,w9,v1,c2]
  ·simp[-length_flatMap,-map_take,hF,w7,w8,w9,v1,c2]
 ·by_cases c2:m=x.m
  ·subst c2;simp[-length_flatMap,-map_take,hF,c1,v3,v4]
  ·have c3:0<x.m-m:=by omega
   have c4:m<x.m:=by omega
   simp[-length_flatMap,-map_take,hF,c1,c2,c3,c4,w1,w2,w3,w4,w5,w6,v2]
theorem asd{t:List Rw}(ht:kM t=true){i:Nat}{r:Rw}(h:t[i]?=some r):(0≤r.l∧r.l<r.v∧r.v≤4000)∧(0≤r.s∧r.s≤2000):=by
 simp only[kM,af]at ht;have:=jZ.1 ht.2.1 r (ai h);simp only[Rw.alone,af,bf,av]at this;obtain⟨_,_,h3,h4,h5,h6⟩:=this;exact⟨⟨h3.1,h5,h6⟩,h4⟩
theorem afr{t:List Rw}(ht:kM t=true){i:Nat}{r:Rw}(hi:t[i]?=some r){x:yH}(hx:x.valid=true):
  lim T (.call false pQ [.aI t.length (t.flatMap Rw.enc),.int .i64 i,.agg x.enc] σ)=some (.val (.dK [.agg (parts r x),.int .i64 0]) σ):=by
 refine aA CF sw.eq_1 rfl ?_;have hl:t.length≤20:=by
  simp only[kM,af]at ht;have:=bf.1 ht.1;omega
 have hil:i<t.length:=(au.1 hi).1;have h1:=fun σ=>CO (σ:=σ) (t:=t) (by omega)
 have h2:=fun σ=>ahk (σ:=σ) (t:=t) (n:=i) (by omega)
 have h3:=fun σ=>Gx (σ:=σ) (x:=x)
 have h4:=fun σ=>atM (σ:=σ) hi
 obtain⟨r1,r2⟩:=asd ht hi;have h5:=fun σ=>atJ (σ:=σ) r1 r2 hx
 have hin:ct i 0 ((t.length:Int)-1)=true:=bf.2 (by omega);rw[hin]at h2;rw[hx]at h3;rw[ht]at h1;simp only[yH.enc,Rw.enc]at h3 h4 h5;have hp:(parts r x).length=10:=rfl;have hp2:(parts r x).take 10=parts r x:=rfl;have hpc:D.bg (parts r x)=true:=by simp[parts]
 generalize parts r x=P at *
 simp[-length_flatMap,-map_take,h1,h2,h3,h4,h5,hp,hp2];rw[jx (by simp[D.clean,hpc]) (by omega)];exact⟨_,rfl⟩
structure Yv(b:cz)(y:List Rock.aE):Prop where
 len:y.length=b.ar.length
 ok:∀o∈y,(0≤o.m∧o.m≤1000000)∧(0≤o.h∧o.h≤10000000000)∧(0≤o.k∧o.k≤1000000000000)
theorem Yv.of{b:cz}{s:List Rock.aE}{aR:List Int}(h:Bv b)(hs:Sv b s)(hr:Rv b aR):Yv b (eH b s aR):=by
 refine⟨by simp[eH,hr.len],?_⟩;intro o ho;simp only[eH,bR]at ho;obtain⟨⟨w,r⟩,hm,rfl⟩:=ho;have hw:=HP h w (List.of_mem_zip hm).1;have hb:=hr.ok r (List.of_mem_zip hm).2;simp only[rV];split
 ·simp
 ·obtain⟨_,h1,h2,h3⟩:=hs.at (i:=w.b.toNat) (by omega);generalize bP s w.b.toNat=x at *
  have h8:x.m.tdiv 8=x.m / 8:=bA (by omega);have hq:0≤min r (x.m.tdiv 8)∧min r (x.m.tdiv 8)≤x.m:=by omega
  exact⟨⟨hq.1,by simp only[Rock.aE.out];omega⟩,I4 h1.1 h2 hq,I4 h1.1 h3 hq⟩
theorem afa{b:cz}{m:cI}{s:List Rock.aE}{aR:List Int}{s' y:List Rock.aE}(h:Bv b)(hs:Sv b s)(hr:Rv b aR)(ht:tick b m s aR=some (s',y)):Sv b s'∧Yv b y:=by
 refine⟨Sv.next h ht,?_⟩;unfold tick at ht;split at ht
 ·simp only[ae,ak]at ht;rw[← ht.2];exact Yv.of h hs hr
 ·cases ht
structure Ks(b:cz)(n:Nat)(ss ys:List (List Rock.aE)):Prop where
 sl:ss.length=n+1
 yl:ys.length=n
 sv:∀s∈ss,Sv b s
 yv:∀y∈ys,Yv b y
theorem Ks.from{b:cz}{m:cI}(h:Fv b m):∀(az:List (List Int)) (n:Nat) (ss ys:List (List Rock.aE)) (s:List Rock.aE) {ss' ys':List (List Rock.aE)},(∀r∈az,Rv b r)→Ks b n ss ys→Sv b s→vu b m ss ys s az=some (ss',ys')→Ks b (n+az.length) ss' ys'
 |[],n,ss,ys,s,ss',ys',hr,h1,h2,he=>by
  simp only[vu,ae,ak]at he;obtain⟨rfl,rfl⟩:=he;exact h1
 |r::az,n,ss,ys,s,ss',ys',hr,h1,h2,he=>by
  simp only[vu]at he;split at he
  ·rename_i s' y ht;obtain⟨g1,g2⟩:=afa h.bv h2 (hr r (List.mem_cons_self ..)) ht;have:=Ks.from h az (n+1) _ _ _ (fun x hx=>hr x (List.mem_cons_of_mem _ hx)) (⟨by simp[h1.sl],by simp[h1.yl],by
    intro x hx;rcases bx.1 hx with hx | hx
    ·exact h1.sv x hx
    ·rw[List.mem_singleton.1 hx];exact g1,by
    intro x hx;rcases bx.1 hx with hx | hx
    ·exact h1.yv x hx
    ·rw[List.mem_singleton.1 hx];exact g2⟩:Ks b (n+1) (ss++[s']) (ys++[y])) g1 he
   rw[show n+(r::az).length=n+1+az.length by simp;omega];exact this
  ·cases he
theorem Ks.of{b:cz}{m:cI}{az:List (List Int)}{ss ys:List (List Rock.aE)}(h:Fv b m)(hr:∀r∈az,Rv b r)(he:Rock.run b m az=some (ss,ys)):Ks b az.length ss ys:=by
 have:=Ks.from h az 0 _ _ _ hr (⟨rfl,rfl,by simpa using Sv.first h,by simp⟩:Ks b 0 [dV b m] []) (Sv.first h) he;simpa using this
theorem Qf{l:List cI}{j:Nat}{m:cI}(h:l[j]?=some m):((l.flatMap cI.enc).drop (j*2)).take 2=[.str m.name,.aI m.bh.length (m.bh.flatMap aS)] :=
 bS (f:=cI.enc) (w:=2) (fun _=>rfl) h
def adQ(b:cz)(m:cI)(i:Nat):Bool:=ct (vb b m 0 i) 1000 100000 && (ct (vb b m 1 i) 0 1000 && (ct (vb b m 2 i) 0 3000 && ct (vb b m 3 i) 0 1000))
def Lh(b:cz)(m:cI)(i:Nat):Nat→Bool
 |0=>true
 |k+1=>adQ b m i && Lh b m (i+1) k
theorem IL{b:cz}{m:cI}:∀{k i:Nat},Lh b m i k=true↔∀j,i≤j→j<i+k→adQ b m j=true
 |0,i=>by simp[Lh];omega
 |k+1,i=>by
  rw[Lh,af,IL];constructor
  ·intro⟨h1,h2⟩ j h3 h4;by_cases hj:j=i
   ·subst hj;exact h1
   ·exact h2 j (by omega) (by omega)
  ·intro h;exact⟨h i (by omega) (by omega),fun j h3 h4=>h j (by omega) (by omega)⟩
theorem MY{b:cz}{m:cI}(h:Bv b):gV b.f [m]=0↔b.f.model m=0:=by
 simp only[gV,h.fv,if_true,fU.an,fU.each];have h1:ct (([m]:List cI).length:Nat) 1 40=true:=by simp[ct]
 rw[if_pos h1];by_cases hc:b.f.model m=0
 ·simp[hc]
 ·simp[hc]
theorem PT{b:cz}{m:cI}(h:Bv b):fits b m=(decide (b.f.model m=0) && Lh b m 0 b.n):=by
 by_cases hc:b.f.model m=0
 ·have hm:=Mv.of h ((MY h).2 hc);have hcm:=(MY h).2 hc;have key:∀{k:Nat} {lo hi:Int},k<4→(gU (vM b m k) (fun n=>ct n lo hi)=true↔∀i,i<b.n→ct (vb b m k i) lo hi=true):=by
   intro k lo hi hk;rw[jZ];constructor
   ·intro ha i hi';exact ha _ (ai (xo hm hk hi'))
   ·intro ha x hx;obtain⟨i,hi'⟩:=gS hx;have hlt:i<b.n:=by have:=(au.1 hi').1;rwa[IW hm hk]at this
    rw[xo hm hk hlt]at hi';cases hi';exact ha i hlt
  rw[Bool.eq_iff_iff];simp only[fits,hcm,hc,decide_true,Bool.true_and,af,IL,adQ];rw[key (by decide),key (by decide),key (by decide),key (by decide)];constructor
  ·intro⟨h1,h2,h3,h4⟩ j _ hj;exact⟨h1 j (by omega),h2 j (by omega),h3 j (by omega),h4 j (by omega)⟩
  ·intro hh;exact⟨fun i hi=>(hh i (by omega) (by omega)).1,fun i hi=>(hh i (by omega) (by omega)).2.1,fun i hi=>(hh i (by omega) (by omega)).2.2.1,fun i hi=>(hh i (by omega) (by omega)).2.2.2⟩
 ·have hcm:¬gV b.f [m]=0:=fun hh=>hc ((MY h).1 hh)
  simp[fits,hc,hcm]
def aeo(b:cz)(l:List cI):Int:=if ct l.length 1 40 then(if b.f.an l=0 then(if gU l (fits b)then 0 else 1)else 1)else 3
def amV(b:cz)(l:List cI)(az:List (List Int)):Bool:=b.valid && (decide (l.length≤4) && (decide (aeo b l=0) && (decide (az.length≤6) && decide (wx b az=0))))
theorem MZ(l:List cI):D.bg (l.flatMap cI.enc)=true:=dX (fun x=>by simp[D.clean,aY]) l
structure Ok(b:cz)(l:List cI)(az:List (List Int)):Prop where
 bv:Bv b
 valid:b.valid=true
 len:1≤l.length∧l.length≤40
 an:b.f.an l=0
 fit:∀m∈l,fits b m=true
 fv:∀m∈l,Fv b m
 short:∀m∈l,m.name.length≤1000000000∧m.bh.length≤384
 pl:wx b az=0
 RS:az.length≤200
 aR:∀r∈az,Rv b r
theorem arG{b:cz}{m:cI}(h:Bv b)(hf:fits b m=true):m.name.length≤16:=by
 rw[PT h,af,av]at hf;have hm:=hf.1;unfold fU.model at hm;split at hm
 ·rename_i hn;simp only[named,af]at hn;have:=bf.1 hn.2;omega
 ·cases hm
theorem Ok.of{b:cz}{l:List cI}{az:List (List Int)}(h:amV b l az=true):Ok b l az:=by
 simp only[amV,af,av]at h;obtain⟨h1,h2,h3,h4,h5⟩:=h;have hb:=Bv.of h1;unfold aeo at h3;split at h3
 ·rename_i hi;split at h3
  ·rename_i hm;split at h3
   ·rename_i hf;have hfit:∀m∈l,fits b m=true:=jZ.1 hf;have hfv:∀m∈l,Fv b m:=fun m hm=>Fv.of (by simp[Bd,h1,hfit m hm])
    exact⟨hb,h1,⟨by have:=bf.1 hi;omega,by omega⟩,hm,hfit,hfv,fun m hm=>⟨by have:=arG hb (hfit m hm);omega,(hfv m hm).toMv.le.2⟩,h5,by omega,(xB h5).2⟩
   ·cases h3
  ·cases h3
 ·cases h3
theorem Ok.check{b:cz}{l:List cI}{az:List (List Int)}(h:Ok b l az):gV b.f l=0:=by
 simp[gV,h.bv.fv,h.an]
theorem SN{b:cz}{m:cI}(h:Bv b)(hn:m.name.length≤1000000000)(hl:m.bh.length≤1000000000):lim T (.call false oB [.agg [.str m.name,.aI m.bh.length (m.bh.flatMap aS)],.bD [.int .i64 b.f.x,.int .i64 b.f.y,.int .i64 b.f.z,.int .i64 b.f.k,.aI b.cq.length (b.cq.flatMap Rw.enc),.int .i64 b.bJ,.int .i64 b.lift,.int .i64 b.deep,.aI b.ar.length (b.ar.flatMap bH.enc)]] σ)=some (.val (.bool (fits b m)) σ):=by
 refine aA GN tX.eq_1 rfl ?_;have hC:=fun σ=>MG (σ:=σ) (m:=m) h hn hl
 simp[-length_flatMap,-map_take,hC,cK,bu,aY]
theorem ML{b:cz}{l:List cI}(h:Bv b)(hs:∀m∈l,m.name.length≤1000000000∧m.bh.length≤1000000000)(hl:l.length≤1000000000):
  lim T (.call false iH [.aI l.length (l.flatMap cI.enc),.fn oB [] [.bD [.int .i64 b.f.x,.int .i64 b.f.y,.int .i64 b.f.z,.int .i64 b.f.k,.aI b.cq.length (b.cq.flatMap Rw.enc),.int .i64 b.bJ,.int .i64 b.lift,.int .i64 b.deep,.aI b.ar.length (b.ar.flatMap bH.enc)]]] σ)=some (.val (.bool (gU l (fits b))) σ) :=
 zV (xf 2 cI.enc (fun _=>rfl)) (f:=iH) (g:=jW) (h:=eJ) (i:=fQ) (l:=l) (p:=fits b) rfl rfl rfl rfl (by omega) (pW.fn fun x hx σ=>SN h (hs x hx).1 (hs x hx).2) rfl
theorem afM{b:cz}{l:List cI}{az:List (List Int)}(h:Ok b l az):
  lim T (.call false ug [.agg [.int .i64 b.f.x,.int .i64 b.f.y,.int .i64 b.f.z,.int .i64 b.f.k,.aI b.cq.length (b.cq.flatMap Rw.enc),.int .i64 b.bJ,.int .i64 b.lift,.int .i64 b.deep,.aI b.ar.length (b.ar.flatMap bH.enc)],.aI l.length (l.flatMap cI.enc),.aI az.length (az.flatMap F7)] σ)=some (.val (.int .i64 0) σ):=by
 refine aA Ju wJ.eq_1 rfl ?_;have hs:∀m∈l,m.name.length≤1000000000∧m.bh.length≤1000000000:=fun m hm=>⟨(h.short m hm).1,by have:=(h.short m hm).2;omega⟩
 have hl:=h.len;have htab:=h.bv.cq;have ht:b.cq.length≤1000000000:=by
  simp only[kM,af]at htab;have:=bf.1 htab.1;omega
 have h1:=fun σ=>AW (σ:=σ) (b:=b) ht (by have:=h.bv.ar;omega)
 have h2:=fun σ=>CD (σ:=σ) (f:=b.f) (l:=l) hs (by omega)
 have h3:=fun σ=>ML (σ:=σ) (l:=l) h.bv hs (by omega)
 have h4:=fun σ=>SL (σ:=σ) (b:=b) (az:=az) (by have:=h.RS;omega) (fun r hr=>by have:=(h.aR r hr).len;have:=h.bv.ar;omega)
 have hi:ct l.length 1 40=true:=bf.2 (by omega);have ha:gU l (fits b)=true:=jZ.2 h.fit;rw[h.valid]at h1;rw[h.check]at h2;rw[ha]at h3;rw[h.pl]at h4;simp[-length_flatMap,-map_take,h1,h2,h3,h4,dM,hi,cK,bu,aY]
abbrev RunT:=List (List Rock.aE)×List (List Rock.aE)
def Dv(r:RunT):List D:=[.aI r.1.length (r.1.flatMap yy),.aI r.2.length (r.2.flatMap yy)]
theorem aeP(l:List RunT):(l.flatMap Dv).length=l.length*2:=bT (f:=Dv) (w:=2) (fun _=>rfl) l
def xF(b:cz)(az:List (List Int)):List cI→Option (List RunT)
 |[]=>some []
 |m::l=>match Rock.run b m az with
  |some r=>(xF b az l).map (r :: ·)
  |none=>none
def L9(n:Nat)(acc:List RunT)(σ:SK)(r:Option (List RunT))(x:Abs.Exit)(e:Env)(σ':SK):Prop:=match r with
 |some rs=>x=.exit 0∧get e 6=.sl σ.length 0 n 0 n 2∧σ'=[.cells n ((acc++rs).flatMap Dv)]::σ
 |none=>x=.fY (.uj 262 (.agg []))∧∃bw,σ'=bw::σ
theorem MR{b:cz}{l:List cI}{az:List (List Int)}(h:Ok b l az):∀(k i:Nat) (acc:List RunT),i+k=l.length→acc.length=i →
  WL T [2,3,6,9,10,11] false tY [(2,.aI az.length (az.flatMap F7)),(3,.bD [.int .i64 b.f.x,.int .i64 b.f.y,.int .i64 b.f.z,.int .i64 b.f.k,.aI b.cq.length (b.cq.flatMap Rw.enc),.int .i64 b.bJ,.int .i64 b.lift,.int .i64 b.deep,.aI b.ar.length (b.ar.flatMap bH.enc)]),(6,.sl σ.length 0 i 0 i 2),(9,.aI l.length (l.flatMap cI.enc)),(10,.int .i64 l.length),(11,.int .i64 i)] ([.cells i (acc.flatMap Dv)]::σ)
   (L9 l.length acc σ (xF b az (l.drop i)))
 |0,i,acc,hi,ha=>by
  refine aN tY.eq_1 ?_;obtain rfl:i=l.length:=by omega
  have h2:l.drop l.length=[]:=aB (by omega);simp[-length_flatMap,-map_take,h2,xF,L9]
 |k+1,i,acc,hi,ha=>by
  refine aN tY.eq_1 ?_;have h1:i<l.length:=by omega
  obtain⟨m,hm⟩:=gE h1;have hlen:=h.len;have h2:=Qf hm;have h4:=gD h1 (by omega);have h5:=cY hm;have hmem:=ai hm;have a4:=aeP acc;rw[ha]at a4;have a6:(acc.flatMap Dv).take (i*2)=acc.flatMap Dv:=aj (by omega);have h7:(i+1)*48≤room:=by unfold room;omega
  have hp:az.length≤200:=by have:=h.RS;omega
  rw[h5,xF];cases hr:Rock.run b m az with
  |none =>
   have hC:=fun σ=>NV (σ:=σ) (h.fv m hmem) hp h.aR hr
   simp[-length_flatMap,-map_take,h1,h2,h4,hC,L9,cK,bu,aY]
  |some r =>
   obtain⟨ss,ys⟩:=r;have hC:=fun σ hσ=>NW (σ:=σ) (h.fv m hmem) hp h.aR hσ hr
   have ih:=MR h k (i+1) (acc++[(ss,ys)]) (by omega) (by simp[ha]);simp[-length_flatMap,-map_take,h1,h2,h4,hC,a4,a6,h7,cK,bu,aY,D.clean,IE];refine WL.to ih (by simp) (by simp[Dv]) fun x e σ' hh=>?_
   cases hq:xF b az (l.drop (i+1))with
   |none=>rw[hq]at hh;simpa[L9]using hh
   |some rs=>rw[hq]at hh;simpa[L9]using hh
theorem SU{b:cz}{l:List cI}{az:List (List Int)}(h:Ok b l az)(hσ:σ≠[]){rs:List RunT}(hr:xF b az l=some rs)(hl:rs.length=l.length):
  lim T (.call false tx [.agg [.int .i64 b.f.x,.int .i64 b.f.y,.int .i64 b.f.z,.int .i64 b.f.k,.aI b.cq.length (b.cq.flatMap Rw.enc),.int .i64 b.bJ,.int .i64 b.lift,.int .i64 b.deep,.aI b.ar.length (b.ar.flatMap bH.enc)],.aI l.length (l.flatMap cI.enc),.aI az.length (az.flatMap F7)] σ)=some (.val (.aI rs.length (rs.flatMap Dv)) σ):=by
 refine aA Fu vF.eq_1 rfl ?_;simp[-length_flatMap,-map_take,cK,bu,aY];refine WL.to (MR (σ:=σ) h l.length 0 [] (by omega) rfl) (by simp) (by simp) ?_;rw[aP,hr];rintro x e σ' ⟨rfl,g6,rfl⟩;simp[-length_flatMap,-map_take,g6];rw[← hl,yj (f:=Dv) (by decide) (fun _=>rfl) (fun x=>by simp[Dv,D.clean,IE]) hσ (by simp)];simp
theorem SS{b:cz}{l:List cI}{az:List (List Int)}(h:Ok b l az)(hr:xF b az l=none):
  lim T (.call false tx [.agg [.int .i64 b.f.x,.int .i64 b.f.y,.int .i64 b.f.z,.int .i64 b.f.k,.aI b.cq.length (b.cq.flatMap Rw.enc),.int .i64 b.bJ,.int .i64 b.lift,.int .i64 b.deep,.aI b.ar.length (b.ar.flatMap bH.enc)],.aI l.length (l.flatMap cI.enc),.aI az.length (az.flatMap F7)] σ)=some (.fY (.uj 262 (.agg [])) σ):=by
 refine eh Fu vF.eq_1 rfl ?_;simp[-length_flatMap,-map_take,cK,bu,aY];refine WL.to (MR (σ:=σ) h l.length 0 [] (by omega) rfl) (by simp) (by simp) ?_;rw[aP,hr];rintro x e σ' ⟨rfl,bw,rfl⟩;simp[D.clean]
theorem I8{b:cz}{az:List (List Int)}:∀{l:List cI} {rs:List RunT},xF b az l=some rs→rs.length=l.length∧∀(i:Nat) m,l[i]?=some m→∃r,rs[i]?=some r∧Rock.run b m az=some r
 |[],rs,h=>by simp only[xF,ae]at h;subst h;simp
 |m::l,rs,h=>by
  simp only[xF]at h;cases hr:Rock.run b m az with
  |none=>rw[hr]at h;cases h
  |some r =>
   rw[hr]at h;simp only[ad]at h;obtain⟨rs',h1,rfl⟩:=h;obtain⟨g1,g2⟩:=I8 h1;refine⟨by simp[g1],?_⟩;intro i m' hm';cases i with
   |zero=>simp only[bY,ae]at hm';subst hm';exact⟨r,rfl,hr⟩
   |succ i=>simpa using g2 i m' (by simpa using hm')
theorem afV{x:Rock.aE}:lim T (.call false kE [.agg x.enc] σ)=some (.val (.int .i64 x.m) σ):=by
 refine aA DH qH.eq_1 rfl ?_;simp[-length_flatMap,-map_take]
theorem S3{x:Rock.aE}:lim T (.call false jF [.agg x.enc] σ)=some (.val (.int .i64 x.k) σ):=by
 refine aA C3 o7.eq_1 rfl ?_;simp[-length_flatMap,-map_take]
def rowAt(l:List (List Rock.aE))(t:Nat):List Rock.aE:=(l[t]?).getD []
structure Rs(b:cz)(l:List cI)(n:Nat)(rs:List RunT):Prop where
 len:rs.length=l.length
 ne:1≤l.length∧l.length≤40
 n6:n≤200
 ar:b.ar.length≤8
 bn:1≤b.n∧b.n≤64
 all:∀r∈rs,Ks b n r.1 r.2
 fv:∀m∈l,Fv b m
theorem aeK{b:cz}{n:Nat}{r:RunT}(h:Ks b n r.1 r.2){t:Nat}(ht:t<n):r.2[t]?=some (rowAt r.2 t)∧Yv b (rowAt r.2 t):=by
 have h1:t<r.2.length:=by rw[h.yl];exact ht
 have h2:r.2[t]?=some r.2[t]:=aF h1;have h3:rowAt r.2 t=r.2[t]:=by simp[rowAt,h2]
 rw[h3];exact⟨h2,h.yv _ (List.getElem_mem h1)⟩
theorem amQ{b:cz}{n:Nat}{r:RunT}(h:Ks b n r.1 r.2){t:Nat}(ht:t≤n):r.1[t]?=some (rowAt r.1 t)∧Sv b (rowAt r.1 t):=by
 have h1:t<r.1.length:=by rw[h.sl];omega
 have h2:r.1[t]?=some r.1[t]:=aF h1;have h3:rowAt r.1 t=r.1[t]:=by simp[rowAt,h2]
 rw[h3];exact⟨h2,h.sv _ (List.getElem_mem h1)⟩
theorem am3{b:cz}{y:List Rock.aE}(h:Yv b y){w:Nat}(hw:w<b.ar.length):y[w]?=some (bP y w):=by
 have h1:w<y.length:=by rw[h.len];exact hw
 simp[bP,aF h1]
theorem ae1{l:List (List Rock.aE)}{t:Nat}{s:List Rock.aE}(h:l[t]?=some s):((l.flatMap yy).drop t).take 1=[.aI s.length (s.flatMap aE.enc)]:=by
 have:=bS (f:=yy) (w:=1) (fun _=>rfl) h;simpa[yy]using this
theorem agV{l:List RunT}{j:Nat}{r:RunT}(h:l[j]?=some r):((l.flatMap Dv).drop (j*2)).take 2=[.aI r.1.length (r.1.flatMap yy),.aI r.2.length (r.2.flatMap yy)] :=
 bS (f:=Dv) (w:=2) (fun _=>rfl) h
end Go.Proofs.YtfgljaglidhjiaaGreatDoor
namespace Go.Rock
open List(length_flatMap map_take)
open Go Go.Abs
def three:List Rw:=[⟨100,101,419,2676,150⟩,⟨150,476,632,2746,300⟩,⟨200,1555,852,2793,600⟩]
end Go.Rock
namespace Go.Proofs.YtfgljaglidhjiaaGreatDoor
open List(length_flatMap map_take)
open Go Go.Abs Go.Rock
variable {σ:SK}
theorem Rs.of{b:cz}{l:List cI}{az:List (List Int)}(h:Ok b l az){rs:List RunT}(hr:xF b az l=some rs):Rs b l az.length rs:=by
 obtain⟨h1,h2⟩:=I8 hr;refine⟨h1,h.len,h.RS,h.bv.ar,h.bv.n,?_,h.fv⟩;intro r hmem;obtain⟨i,hi⟩:=gS hmem;have hlt:i<l.length:=by rw[← h1];exact(au.1 hi).1
 obtain⟨m,hm⟩:=gE hlt;obtain⟨r',h3,h4⟩:=h2 i m hm;rw[hi]at h3;cases h3;exact Ks.of (h.fv m (ai hm)) h.aR h4
theorem Li(l:List Nat):(l.flatMap fun _=>[D.aI 0 []])=List.replicate l.length (.aI 0 []):=by
 induction l with
 |nil=>rfl
 |cons a l ih=>rw[aW,ih];rfl
end Go.Proofs.YtfgljaglidhjiaaGreatDoor
namespace Go.Rock
open List(length_flatMap map_take)
open Go Go.Abs
structure wV where
 name:List UInt8
 kind:Int
 bl:List Int
 wt:List Int
 lo:Int
 hi:Int
structure wa where
 tick:Int
 rD:Int
 idx:Int
 lo:Int
 hi:Int
@[simp] theorem wV.eta(p:wV):wV.mk p.name p.kind p.bl p.wt p.lo p.hi=p:=rfl
@[simp] theorem wa.eta(p:wa):wa.mk p.tick p.rD p.idx p.lo p.hi=p:=rfl
@[simp] def wV.enc(m:wV):List D:=[.str m.name,.int .i64 m.kind,.aI m.bl.length (m.bl.flatMap aS),.aI m.wt.length (m.wt.flatMap aS),.int .i64 m.lo,.int .i64 m.hi]
@[simp] def wa.enc(x:wa):List D:=[.int .i64 x.tick,.int .u8 x.rD,.int .i64 x.idx,.int .i64 x.lo,.int .i64 x.hi]
def BK(n:Int):Int→List Int→List Int→Bool
 |last,b::bl,w::wt=>decide (last<b) && (decide (b<n) && (ct w (-1000) 1000 && BK n b bl wt))
 |_,_,_=>true
def HO(f:fU)(kind:Int)(bl wt:List Int):Bool:=ct kind 0 (f.k-1) && (decide (1≤bl.length) && (decide (bl.length=wt.length) && BK f.size (-1) bl wt))
def He(lo hi:Int):Bool:=decide (-10000000000≤lo) && (decide (lo≤hi) && decide (hi≤10000000000))
def fU.measure(f:fU)(m:wV):Int:=if named m.name then(if HO f m.kind m.bl m.wt && He m.lo m.hi then 0 else 1)else 5
def fU.DQ(f:fU)(met:List (List UInt8)):List wV→Int
 |[]=>0
 |m::l=>if f.measure m=0 then(if met.contains m.name then 6 else f.DQ (met++[m.name]) l)else f.measure m
def fU.D9(f:fU)(l:List wV):Int:=if 12<l.length then 3 else f.DQ [] l
structure Mev(f:fU)(x:wV):Prop where
 name:x.name.length≤16
 kind:0≤x.kind∧x.kind<f.k
 ne:1≤x.bl.length
 len:x.bl.length=x.wt.length
 awd:BK f.size (-1) x.bl x.wt=true
 ends : -10000000000≤x.lo∧x.lo≤x.hi∧x.hi≤10000000000
theorem Mev.of{f:fU}{x:wV}(h:f.measure x=0):Mev f x:=by
 unfold fU.measure at h;split at h
 ·rename_i h1;split at h
  ·rename_i h2;simp only[HO,He,af,av,bf]at h2;obtain⟨⟨h3,h4,h5,h6⟩,h7,h8,h9⟩:=h2;simp only[named,af]at h1;have:=bf.1 h1.2;exact⟨by omega,by omega,h4,h5,h6,h7,h8,h9⟩
  ·cases h
 ·cases h
theorem Jg{n:Int}:∀{bl wt:List Int} {last:Int},bl.length=wt.length→BK n last bl wt=true→last<n→(bl.length:Int)≤n-1-last
 |[],wt,last,hl,h,hn=>by simp;omega
 |b::bl,[],last,hl,h,hn=>by simp at hl
 |b::bl,w::wt,last,hl,h,hn=>by
  simp only[BK,af,av]at h;obtain⟨h1,h2,h3,h4⟩:=h;have:=Jg (n:=n) (bl:=bl) (wt:=wt) (last:=b) (by simpa using hl) h4 h2;simp only[aJ];omega
theorem Mm{n:Int}:∀{bl wt:List Int} {last:Int} {i:Nat} {b w:Int},BK n last bl wt=true→bl[i]?=some b→wt[i]?=some w→last<b∧b<n∧(-1000≤w∧w≤1000)
 |[],wt,last,i,b,w,h,hb,hw=>by simp at hb
 |b'::bl,[],last,i,b,w,h,hb,hw=>by simp at hw
 |b'::bl,w'::wt,last,i,b,w,h,hb,hw=>by
  simp only[BK,af,av]at h;obtain⟨h1,h2,h3,h4⟩:=h;cases i with
  |zero =>
   simp only[bY,ae]at hb hw;subst hb hw;exact⟨h1,h2,bf.1 h3⟩
  |succ i =>
   have:=Mm h4 (by simpa using hb) (by simpa using hw);omega
def ae6(bh:List Int)(off:Int):Int→List Int→List Int→Int
 |acc,b::bl,w::wt=>ae6 bh off (acc+w*(bh[(off+b).toNat]?).getD 0) bl wt
 |acc,_,_=>acc
def Ip(f:fU)(m:cI)(x:wV):Int:=ae6 m.bh (x.kind*f.size) 0 x.bl x.wt
def aep(lo hi s:Int):Int:=if hi<s then s-hi else if s<lo then s-lo else 0
def vN(lo hi s:Int):Int:=max 0 (s-hi)+min 0 (s-lo)
theorem Nj{lo hi s:Int}(h:lo≤hi):vN lo hi s=aep lo hi s:=by
 unfold vN aep;split
 ·omega
 ·split<;>omega
def aE.Fi(y:aE):Int:=if y.m=0 then 0 else y.h.tdiv y.m
def aE.Mn(y:aE)(rD:Int):Int:=if rD=2 then y.m else if rD=3 then y.Fi else y.k
def uQ(b:cz)(m:cI)(r:List (List aE)×List (List aE))(x:wa):Int :=
 if x.rD=1 then lg b m ((r.1[x.tick.toNat]?).getD []) x.idx.toNat else aE.Mn (bP ((r.2[x.tick.toNat-1]?).getD []) x.idx.toNat) x.rD
def uw(b:cz)(zF:Int)(x:wa):Int :=
 if !ct x.rD 1 4 || (decide (x.lo < -10000000000) || (decide (x.hi<x.lo) || decide (10000000000<x.hi)))then 1
 else if !ct x.tick (if x.rD=1 then 0 else 1) zF || !ct x.idx 0 ((if x.rD=1 then b.size else b.ar.length)-1)then 2 else 0
def xC(b:cz)(zF:Int)(l:List wa):Int:=if 40<l.length then 3 else db (uw b zF) l
structure Rdv(b:cz)(n:Nat)(x:wa):Prop where
 rD:1≤x.rD∧x.rD≤4
 ends : -10000000000≤x.lo∧x.lo≤x.hi∧x.hi≤10000000000
 p:x.rD=1→(0≤x.tick∧x.tick≤n)∧0≤x.idx∧x.idx<b.size
 y:x.rD≠1→(1≤x.tick∧x.tick≤n)∧0≤x.idx∧x.idx<b.ar.length
theorem Rdv.of{b:cz}{n:Nat}{x:wa}(h:uw b n x=0):Rdv b n x:=by
 unfold uw at h;by_cases h3:x.rD=1
 ·rw[if_pos h3,if_pos h3]at h;split at h
  ·cases h
  ·rename_i h1;simp only[bX,av,dU,not_or,Bool.not_eq_false,bf]at h1;split at h
   ·cases h
   ·rename_i h2;simp only[bX,dU,not_or,Bool.not_eq_false,bf]at h2;exact⟨h1.1,by omega,fun _=>by omega,fun h=>absurd h3 h⟩
 ·rw[if_neg h3,if_neg h3]at h;split at h
  ·cases h
  ·rename_i h1;simp only[bX,av,dU,not_or,Bool.not_eq_false,bf]at h1;split at h
   ·cases h
   ·rename_i h2;simp only[bX,dU,not_or,Bool.not_eq_false,bf]at h2;exact⟨h1.1,by omega,fun h=>absurd h h3,fun _=>by omega⟩
end Go.Rock
namespace Go.Proofs.YtfgljaglidhjiaaGreatDoor
open List(length_flatMap map_take)
open Go Go.Abs Go.Rock
variable {σ:SK}
theorem Ir{f:fU}(h:f.valid=true):lim T (.call false dp [.agg [.int .i64 f.x,.int .i64 f.y,.int .i64 f.z,.int .i64 f.k]] σ)=some (.val (.int .i64 f.size) σ):=by
 obtain⟨h1,h2,h3,h4,h5⟩:=fU.tA.1 h;exact Gr h1 h2 h3
theorem Tc{f:fU}{bl wt:List Int}(hf:f.valid=true)(hl:bl.length≤9223372036854775807)(hw:bl.length=wt.length):∀(k i:Nat) (last:Int),i+k=bl.length →
  WL T [3,4,9,30,31,32] false ll [(3,.aI wt.length (wt.flatMap aS)),(4,.bD [.int .i64 f.x,.int .i64 f.y,.int .i64 f.z,.int .i64 f.k]),(9,.int .i64 last),(30,.aI bl.length (bl.flatMap aS)),(31,.int .i64 bl.length),(32,.int .i64 i)] σ
   (fun x e σ'=>σ'=σ∧if BK f.size last (bl.drop i) (wt.drop i)then x=.exit 0 else x=.ret∧get e 8=.bool false)
 |0,i,last,hi=>by
  refine aN ll.eq_1 ?_;have h1:¬i<bl.length:=by omega
  have h2:bl.drop i=[]:=aB (by omega);simp[-length_flatMap,-map_take,h1,h2,BK]
 |k+1,i,last,hi=>by
  refine aN ll.eq_1 ?_;have h1:i<bl.length:=by omega
  have h1':i<wt.length:=by omega
  obtain⟨b,hb⟩:=gE h1;obtain⟨w,hw'⟩:∃r,wt[i]?=some r:=⟨_,aF h1'⟩;have h2:=rh hb;have h3:=rh hw';have h4:=gD h1 hl;have h5:=cY hb;have h6:=cY hw';have hB:=fun σ=>Ir (σ:=σ) hf
  have ih:=Tc hf hl hw k (i+1) b (by omega);rw[h5,h6,BK];by_cases c1:b≤last
  ·simp[-length_flatMap,-map_take,h1,h1',h2,h3,h4,hB,gR,c1,show ¬last<b by omega]
  ·by_cases c2:f.size≤b
   ·simp[-length_flatMap,-map_take,h1,h1',h2,h3,h4,hB,gR,c1,c2,show last<b by omega,show ¬b<f.size by omega]
   ·cases c3:ct w (-1000) 1000
    ·simp[-length_flatMap,-map_take,h1,h1',h2,h3,h4,hB,gR,c1,c2,c3,show last<b by omega,show b<f.size by omega]
    ·simp[-length_flatMap,-map_take,h1,h1',h2,h3,h4,hB,gR,c1,c2,c3,show last<b by omega,show b<f.size by omega];exact WL.to ih (by simp) rfl fun x e σ hh=>by simpa[show last<b by omega,show b<f.size by omega]using hh
theorem ank{f:fU}{k:Int}{bl wt:List Int}(hf:f.valid=true)(hl:bl.length≤9223372036854775807)(hk:f.valid=true→True):
  lim T (.call false l4 [.agg [.int .i64 f.x,.int .i64 f.y,.int .i64 f.z,.int .i64 f.k],.int .i64 k,.aI bl.length (bl.flatMap aS),.aI wt.length (wt.flatMap aS)] σ)=some (.val (.bool (HO f k bl wt)) σ):=by
 refine aA CS oR.eq_1 rfl ?_;obtain⟨q1,q2,q3,q4,q5⟩:=fU.tA.1 hf;have w1:=fT (n:=f.k-1) (by omega);unfold HO;cases c1:ct k 0 (f.k-1)
 ·simp[-length_flatMap,-map_take,gR,w1,c1]
 by_cases c2:1≤bl.length
 rotate_left
 ·have:bl=[]:=bM.1 (by omega);subst this;simp[-length_flatMap,-map_take,gR,w1,c1]
 have c2':¬(bl.length:Int)<1:=by omega
 have c2'':¬bl=[]:=fun h=>by rw[h]at c2;simp at c2
 by_cases c3:bl.length=wt.length
 rotate_left
 ·simp[-length_flatMap,-map_take,gR,w1,c1,c2',c2'',c3,show ¬(bl.length:Int)=wt.length by omega]
 have c4:¬(wt.length:Int)<1:=by omega
 have c5:¬wt=[]:=fun h=>by rw[h]at c3;simp at c3;exact c2'' c3
 simp[-length_flatMap,-map_take,gR,w1,c1,c2,c2',c2'',c3,c4,c5];refine WL.to (Tc (σ:=[]::σ) hf hl c3 bl.length 0 (-1) (by omega)) (by simp[c3]) rfl ?_;rintro x e σ' ⟨rfl,h⟩;simp only[aP]at h;cases hc:BK f.size (-1) bl wt
 ·simp[hc]at h;simp[h]
 ·simp[hc]at h;simp[-length_flatMap,-map_take,h];omega
theorem afw{lo hi:Int}:lim T (.call false l6 [.agg [.int .i64 lo,.int .i64 hi]] σ)=some (.val (.bool (He lo hi)) σ):=by
 refine aA CT oS.eq_1 rfl ?_;unfold He;by_cases c1 : -10000000000≤lo
 ·by_cases c2:lo≤hi<;>simp[-length_flatMap,-map_take,c1,c2]
 ·simp[-length_flatMap,-map_take,c1]
theorem Iw{f:fU}{m:wV}(hf:f.valid=true)(hn:m.name.length≤1000000000)(hl:m.bl.length≤9223372036854775807):
  lim T (.call false gq [.agg [.int .i64 f.x,.int .i64 f.y,.int .i64 f.z,.int .i64 f.k],.agg m.enc] σ)=some (.val (.int .i64 (f.measure m)) σ):=by
 refine aA AJ mh.eq_1 rfl ?_;have h1:=fun σ=>Ga (σ:=σ) hn
 have h2:=fun σ=>ank (σ:=σ) (k:=m.kind) (wt:=m.wt) hf hl (fun _=>trivial)
 unfold fU.measure;cases c1:named m.name
 ·simp[-length_flatMap,-map_take,h1,c1]
 cases c2:HO f m.kind m.bl m.wt
 ·simp[-length_flatMap,-map_take,h1,h2,c1,c2]
 cases c3:He m.lo m.hi<;>simp[-length_flatMap,-map_take,h1,h2,afw,c1,c2,c3]
theorem atK{f:fU}{m:wV}(hf:f.valid=true)(hn:m.name.length≤1000000000)(hl:m.bl.length≤9223372036854775807):
  lim T (.call false dz [.agg m.enc,.bD [.int .i64 f.x,.int .i64 f.y,.int .i64 f.z,.int .i64 f.k]] σ)=some (.val (.dK [.str m.name,.int .i64 (f.measure m)]) σ):=by
 refine aA yI jQ.eq_1 rfl ?_;have h:=fun σ=>Iw (σ:=σ) hf hn hl
 simp only[wV.enc]at h ⊢;simp[-length_flatMap,-map_take,h]
theorem agB{l:List wV}{j:Nat}{m:wV}(h:l[j]?=some m):((l.flatMap wV.enc).drop (j*6)).take 6=m.enc :=
 bS (f:=wV.enc) (w:=6) (fun _=>rfl) h
def Nx(l:List wV):Prop:=∀m∈l,m.name.length≤1000000000∧m.bl.length≤9223372036854775807
theorem NY{f:fU}{l:List wV}(hf:f.valid=true)(hs:Nx l)(hl:l.length≤1000000000):∀(k i:Nat) (met:List (List UInt8)),i+k=l.length →
  WL T [1,5,11,12,13] false fL [(1,.fn dz [] [.bD [.int .i64 f.x,.int .i64 f.y,.int .i64 f.z,.int .i64 f.k]]),(5,.mH σ.length 0),(11,.aI l.length (l.flatMap wV.enc)),(12,.int .i64 l.length),(13,.int .i64 i)] ([.cells 0 (Cz met)]::σ)
   (fun x e σ'=>∃s,σ'=s::σ∧if f.DQ met (l.drop i)=0 then x=.exit 0 else x=.ret∧get e 4=.int .i64 (f.DQ met (l.drop i)))
 |0,i,met,hi=>by
  refine aN fL.eq_1 ?_;have h1:¬i<l.length:=by omega
  have h2:l.drop i=[]:=aB (by omega);simp[-length_flatMap,-map_take,h1,h2,fU.DQ]
 |k+1,i,met,hi=>by
  refine aN fL.eq_1 ?_;have h1:i<l.length:=by omega
  obtain⟨m,hm⟩:=gE h1;have h2:=agB hm;have h4:=gD h1 (by omega);have h5:=cY hm;obtain⟨hs1,hs2⟩:=hs m (ai hm);have hC:=fun σ=>atK (σ:=σ) hf hs1 hs2
  simp only[wV.enc]at h2 hC;rw[h5,fU.DQ];by_cases hc1:f.measure m=0
  ·have hg:=amF (S:=[.cells 0 (Cz met)]::σ) (l:=σ.length) (i:=0) (met:=met) (k:=m.name) (by simp);cases hc2:met.contains m.name
   ·rw[hc2]at hg;have hp:=amG (S:=[.cells 0 (Cz met)]::σ) (l:=σ.length) (i:=0) (met:=met) (k:=m.name) (by simp) hc2;have ih:=NY hf hs hl k (i+1) (met++[m.name]) (by omega);simp at hp;have hc3:¬m.name∈met:=by simpa using hc2
    simp[-length_flatMap,-map_take,h1,h2,h4,hC,hc1,hg,hp,hc3];exact WL.to ih (by simp) (by simp) fun x e σ' hh=>by simpa[hc1]using hh
   ·rw[hc2]at hg;have hc3:m.name∈met:=by simpa using hc2
    simp[-length_flatMap,-map_take,h1,h2,h4,hC,hc1,hg,hc3]
  ·simp[-length_flatMap,-map_take,h1,h2,h4,hC,hc1]
theorem afv{f:fU}{l:List wV}(hf:f.valid=true)(hs:Nx l)(hl:l.length≤1000000000):
  lim T (.call false fw [.aI l.length (l.flatMap wV.enc),.fn dz [] [.bD [.int .i64 f.x,.int .i64 f.y,.int .i64 f.z,.int .i64 f.k]]] σ)=some (.val (.int .i64 (f.DQ [] l)) σ):=by
 refine aA wW iq.eq_1 rfl ?_;have hm:AV ([]::σ) .make []=some (.mH σ.length 0,[.cells 0 (Cz [])]::σ):=by simp[AV,Cz]
 simp[-length_flatMap,-map_take,hm];refine WL.to (NY (σ:=σ) hf hs hl l.length 0 [] (by omega)) (by simp) (by simp) ?_;rintro x e σ' ⟨s,rfl,h⟩;simp only[aP]at h;by_cases hc:f.DQ [] l=0
 ·rw[if_pos hc]at h;subst h;simp[-length_flatMap,-map_take,hc]
 ·rw[if_neg hc]at h;obtain⟨rfl,h⟩:=h;simp[h]
theorem MH{f:fU}{l:List wV}(hf:f.valid=true)(hs:Nx l)(hl:l.length≤1000000000):
  lim T (.call false iC [.agg [.int .i64 f.x,.int .i64 f.y,.int .i64 f.z,.int .i64 f.k],.aI l.length (l.flatMap wV.enc)] σ)=some (.val (.int .i64 (f.D9 l)) σ):=by
 refine aA zN lj.eq_1 rfl ?_;unfold fU.D9;by_cases hc:12<l.length
 ·simp[-length_flatMap,-map_take,hc,show(12:Int)<l.length by omega]
 ·simp[-length_flatMap,-map_take,hc,show ¬(12:Int)<l.length by omega,afv hf hs hl]
end Go.Proofs.YtfgljaglidhjiaaGreatDoor
