import Derived.Test.YtfgljaglidhjiaaGreatDoorTxt2
import Derived.Test.YtfgljaglidhjiaaGreatDoorTxt0
import Derived.Test.YtfgljaglidhjiaaGreatDoorTxt1
set_option linter.all false
namespace Go.Proofs.YtfgljaglidhjiaaGreatDoor
open List(length_flatMap map_take)
open Go Go.Abs Go.Rock Go.Book
variable {σ:SK}
theorem apC(l:List Rw):(l.flatMap Rw.enc).length=l.length*5:=bV (f:=Rw.enc) (w:=5) (fun _=>rfl) l
theorem Vf{bp:D}(hb1:bp.calm=bp):∀(rs acc:List Rw),acc.length+rs.length≤1000000 →
  WL T [0,2,6] false kZ [(0,bp),(2,.aK (rs.length*5) (rs.flatMap Rw.enc)),(6,.sl σ.length 0 acc.length 0 acc.length 5)] ([.cells acc.length (acc.flatMap Rw.enc)]::σ)
   (fun x e σ'=>x=.exit 0∧get e 0=bp∧get e 6=.sl σ.length 0 (acc++rs).length 0 (acc++rs).length 5∧σ'=[.cells (acc++rs).length ((acc++rs).flatMap Rw.enc)]::σ)
 |[],acc,h=>by
  refine aM ud ?_;simp[-length_flatMap,-map_take,hb1]
 |r::rs,acc,h=>by
  refine aM ud ?_;simp only[aO]at h;have e1:(rs.length+1)*5=rs.length*5+5:=by omega
  have q0:(0:Int)<(rs.length:Int)*5+5:=by omega
  have q1:(1:Int)<(rs.length:Int)*5+5:=by omega
  have q2:(2:Int)<(rs.length:Int)*5+5:=by omega
  have q3:(3:Int)<(rs.length:Int)*5+5:=by omega
  have q4:(4:Int)<(rs.length:Int)*5+5:=by omega
  have q5:(5:Int)≤(rs.length:Int)*5+5:=by omega
  have hroom:(acc.length+1)*40≤room:=by unfold room;omega
  have hl:=apC acc;have ht:(acc.flatMap Rw.enc).take (acc.length*5)=acc.flatMap Rw.enc:=ar (by omega);have hl2:=apC rs;have ht2:(rs.flatMap Rw.enc).take (rs.length*5)=rs.flatMap Rw.enc:=ar (by omega);simp[-length_flatMap,-map_take,hb1,e1,q0,q1,q2,q3,q4,q5,hroom,hl,ht];refine WL.to (Vf hb1 rs (acc++[r]) (by simp;omega)) (by simp[ht2]) (by simp) fun x e σ' hh=>?_
  simpa using hh
def SG(b:Bk)(t:List Rw):Bk:={b with bL:={b.bL with cf:=t } }
def Cj(b:Bk)(t:List Rw):Bk×Int:=if b.bL.cf=[]then(if lB t=true then(SG b t,0)else(b,1))else(b,8)
theorem aqz{F:List Abs.aG}{b:Bk}{er:List Int}{nm:List UInt8}{t:List Rw}{b':Bk}{e:Int}(hl:t.length≤1000000)(hd:Cj b t=(b',e))(he:e=0):
  bw T (.call false fB [.ref σ.length 6 0 0,.str nm,.aK (t.length*5) (t.flatMap Rw.enc)] (F::b.bx σ.length er::σ))=some (.val (.ez []) (F::b'.bx σ.length er::σ)):=by
 refine gF wJ wS rfl (by simp) ?_;unfold Cj at hd;split at hd
 case isFalse=>cases hd;cases he
 rename_i h0;split at hd
 case isFalse=>cases hd;cases he
 rename_i h3;cases hd;have hne:t≠[]:=by intro h;subst h;simp[lB,cV]at h3
 have hC:=fun σ=>BK (σ:=σ) (l:=t) (by omega)
 rw[h3]at hC;have hL:=Vf (σ:=F::b.bx σ.length er::σ) (bp:=.ref σ.length 6 0 0) rfl t [] (by simpa using hl);simp[-length_flatMap,-map_take,Bk.bx,Bk.cells,h0,nl,cH];refine WL.to hL (by simp) (by simp[Bk.bx,Bk.cells,h0,nl]) ?_;rintro x e σ' ⟨rfl,g0,g6,rfl⟩;have hcl:(D.aK t.length (t.flatMap Rw.enc)).clean=true:=by simp[D.clean,cM]
 have hfr:∀S:SK,S.length=σ.length+1+1→cI 0 16 (.sl (σ.length+1+1) 0 t.length 0 t.length 5) ([.cells t.length (t.flatMap Rw.enc)]::S)=(.aK t.length (t.flatMap Rw.enc),[.dead]::S):=by
  intro S hS;have:=Ji (f:=Rw.enc) (w:=5) (fun _=>rfl) (fun _=>by simp[D.clean]) (l:=t) (j:=0) (v:=t.length) (bs:=[Abs.aG.cells t.length (t.flatMap Rw.enc)]) (σ:=S) (by intro h;subst h;simp at hS) (by simp);rw[hS]at this;simpa using this
 simp[-length_flatMap,-map_take,g0,g6,hfr,hC,pI,hcl,Bk.bx,Bk.cells,h0,nl,hne,SG];exact⟨rfl,rfl⟩
theorem ahz{F:List Abs.aG}{b:Bk}{er:List Int}{nm:List UInt8}{t:List Rw}{b':Bk}{e:Int}(hl:t.length≤1000000)(hd:Cj b t=(b',e))(he:e≠0):
  bw T (.call false fB [.ref σ.length 6 0 0,.str nm,.aK (t.length*5) (t.flatMap Rw.enc)] (F::b.bx σ.length er::σ))=some (.fU (rf e) (F::b.bx σ.length er::σ)):=by
 refine eg wJ wS rfl ?_;have hM:=fun σ=>rD (σ:=σ) (e:=1) (by decide)
 have hrc:(D.vn 311 (.agg [.int .i64 1])).clean=true:=rfl;unfold Cj at hd;split at hd
 case isFalse h0 =>
  cases hd;have h0':((b.bL.cf.length:Int) == 0)=false:=by simpa using h0
  simp[-length_flatMap,-map_take,Bk.bx,Bk.cells,eI h0,h0',dJ,D.clean,rf]
 rename_i h0;split at hd
 case isTrue=>cases hd;exact absurd rfl he
 rename_i h3;cases hd;have h3':lB t=false:=by simpa using h3
 have hC:=fun σ=>BK (σ:=σ) (l:=t) (by omega)
 rw[h3']at hC;have hL:=Vf (σ:=F::b.bx σ.length er::σ) (bp:=.ref σ.length 6 0 0) rfl t [] (by simpa using hl);simp[-length_flatMap,-map_take,Bk.bx,Bk.cells,h0,nl,cH];refine WL.to hL (by simp) (by simp[Bk.bx,Bk.cells,h0,nl]) ?_;rintro x e σ' ⟨rfl,g0,g6,rfl⟩;have hcl:(D.aK t.length (t.flatMap Rw.enc)).clean=true:=by simp[D.clean,cM]
 have hfr:∀S:SK,S.length=σ.length+1+1→cI 0 16 (.sl (σ.length+1+1) 0 t.length 0 t.length 5) ([.cells t.length (t.flatMap Rw.enc)]::S)=(.aK t.length (t.flatMap Rw.enc),[.dead]::S):=by
  intro S hS;have:=Ji (f:=Rw.enc) (w:=5) (fun _=>rfl) (fun _=>by simp[D.clean]) (l:=t) (j:=0) (v:=t.length) (bs:=[Abs.aG.cells t.length (t.flatMap Rw.enc)]) (σ:=S) (by intro h;subst h;simp at hS) (by simp);rw[hS]at this;simpa using this
 simp[-length_flatMap,-map_take,g0,g6,hfr,hC,hM,hcl,Bk.bx,Bk.cells,h0,nl,rf,hrc]
@[simp] theorem aDl{α:Type}{f:α→List D}{l:List α}:ao1 (nl f l)=some (.int .i64 l.length):=by
 unfold nl;split
 ·rename_i h;subst h;rfl
 ·rfl
@[simp] theorem aCk{α:Type}{f:α→List D}{l:List α}:(nl f l).strip=nl f l:=by unfold nl;split<;>rfl
theorem SN{x:Trem.Ev}(hs:x.sp.length≤9223372036854775807):bw T (.call false iW [.aH,.aK 1 x.enc,.int .i64 0] σ)=some (.val (.ez [.int .u8 0,.int .u8 0,.int .i64 (if x.ok then 0 else 1)]) σ):=by
 refine aD yB yT rfl ?_;have hA:=fun σ=>@aiM σ [x] (by simp) (by simpa using hs)
 have hN:=fun σ=>all_nil (T:=T) (σ:=σ) (fv:=.fn eP [] []) (f:=dE) (ag:=true) (w:=10) rfl rfl rfl rfl rfl rfl
 simp only[List.length_singleton,ba,dO,eB,gW,ka,List.all_nil,Bool.and_true]at hA;have w0:Trem.cV 0 0 1000000=true:=by decide
 cases hr:x.ok
 ·rw[hr]at hA;simp only[Trem.Ev.enc]at hA ⊢;simp[-length_flatMap,-map_take,hA,hN]
 ·rw[hr]at hA;simp only[Trem.Ev.enc]at hA ⊢;simp[-length_flatMap,-map_take,hA,hN,gw,w0];refine aM mM ?_;simp[-length_flatMap,-map_take]
def spD(L:Nat)(acc:List Trem.yp):D:=.sl L 0 acc.length 0 acc.length 4
def spS(acc:List Trem.yp):List Abs.aG:=[.cells acc.length (acc.flatMap Trem.yp.enc)]
theorem ahb(l:List Trem.yp):(l.flatMap Trem.yp.enc).length=l.length*4:=bV (f:=Trem.yp.enc) (w:=4) (fun _=>rfl) l
theorem PU{bp:D}(hb1:bp.calm=bp){tk:Int}:∀(rs acc:List Trem.yp),acc.length+rs.length≤1000000 →
  WL T [0,2,6] false kX [(0,bp),(2,.aK (rs.length*4) (rs.flatMap Trem.yp.enc)),(6,.own 0 [.int .i64 tk,spD σ.length acc])] (spS acc::σ)
   (fun x e σ'=>x=.exit 0∧get e 0=bp∧get e 6=.own 0 [.int .i64 tk,spD σ.length (acc++rs)]∧get e 1000006=.undef∧σ'=spS (acc++rs)::σ)
 |[],acc,h=>by
  refine aM ub ?_;simp[-length_flatMap,-map_take,hb1]
 |r::rs,acc,h=>by
  refine aM ub ?_;simp only[aO]at h;have e1:(rs.length+1)*4=rs.length*4+4:=by omega
  have q0:(0:Int)<(rs.length:Int)*4+4:=by omega
  have q1:(1:Int)<(rs.length:Int)*4+4:=by omega
  have q2:(2:Int)<(rs.length:Int)*4+4:=by omega
  have q3:(3:Int)<(rs.length:Int)*4+4:=by omega
  have q4:(4:Int)≤(rs.length:Int)*4+4:=by omega
  have hroom:(acc.length+1)*32≤room:=by unfold room;omega
  have h32:32≤room:=by unfold room;omega
  have hl:=ahb acc;have ht:(acc.flatMap Trem.yp.enc).take (acc.length*4)=acc.flatMap Trem.yp.enc:=ar (by omega);have hl2:=ahb rs;have ht2:(rs.flatMap Trem.yp.enc).take (rs.length*4)=rs.flatMap Trem.yp.enc:=ar (by omega);simp[-length_flatMap,-map_take,hb1,e1,q0,q1,q2,q3,q4,hroom,hl,ht,spD,spS];refine WL.to (PU hb1 (tk:=tk) rs (acc++[r]) (by simp;omega)) (by simp[ht2,spD,spS]) (by simp[spS]) fun x e σ' hh=>?_
  simpa[spD,spS]using hh
def NC(b:Bk)(x:Trem.Ev):Bk:={b with BI:=b.BI++[x] }
def Ci(b:Bk)(sp:List Trem.yp):Bk×Int:=if b.BI.length<200 then(if Trem.Ev.ok ⟨b.aC.length,sp⟩=true then(NC b ⟨b.aC.length,sp⟩,0)else(b,1))else(b,3)
theorem atO(l:List Trem.Ev):(l.flatMap Trem.Ev.enc).length=l.length*2:=bV (f:=Trem.Ev.enc) (w:=2) (fun _=>rfl) l
theorem aoI{S:SK}{L:Nat}(hS:S.length=L)(hL:0<L){sp:List Trem.yp}{tk:Int}:cI.frzL (cI 0 16) [.int .i64 tk,spD L sp] (spS sp::S)=([.int .i64 tk,.aK sp.length (sp.flatMap Trem.yp.enc)],[.dead]::S):=by
 have hf:=Ji (f:=Trem.yp.enc) (w:=4) (fun _=>rfl) (fun _=>by simp[D.clean]) (l:=sp) (j:=0) (v:=sp.length) (bs:=[Abs.aG.cells sp.length (sp.flatMap Trem.yp.enc)]) (σ:=S) (by intro h;subst h;simp at hS;omega) (by simp);rw[hS]at hf;simp[spD,spS,hf]
theorem aqp{F:List Abs.aG}{b:Bk}{er:List Int}{nm:List UInt8}{sp:List Trem.yp}{b':Bk}{e:Int}(hl:sp.length≤1000000)(hd:Ci b sp=(b',e))(he:e=0):
  bw T (.call false fA [.ref σ.length 6 0 0,.str nm,.aK (sp.length*4) (sp.flatMap Trem.yp.enc)] (F::b.bx σ.length er::σ))=some (.val (.ez []) (F::b'.bx σ.length er::σ)):=by
 refine gF wI wR rfl (by simp) ?_;unfold Ci at hd;split at hd
 case isFalse=>cases hd;cases he
 rename_i h1;split at hd
 case isFalse=>cases hd;cases he
 rename_i h2;cases hd;have h1':(b.BI.length:Int)<200:=by omega
 have hC:=fun σ=>SN (σ:=σ) (x:=⟨b.aC.length,sp⟩) (by simp;omega)
 simp only[h2,if_true,Trem.Ev.enc]at hC;have hL:=PU (σ:=F::b.bx σ.length er::σ) (bp:=.ref σ.length 6 0 0) rfl (tk:=b.aC.length) sp [] (by simpa using hl);have hne:sp≠[]:=by
  intro hh;subst hh;simp[Trem.Ev.ok,Trem.cV]at h2
 simp[-length_flatMap,-map_take,Bk.bx,Bk.cells,h1',cH];refine WL.to hL (by simp[spD]) (by simp[Bk.bx,Bk.cells,spS]) ?_;rintro x e σ' ⟨rfl,g0,g6,gu,rfl⟩;have hf:=fun S hS=>aoI (S:=S) (L:=σ.length+1+1) hS (by omega) (sp:=sp) (tk:=b.aC.length)
 have w2:(b.BI.length+1)*32≤room:=by unfold room;omega
 have w3:=atO b.BI;have w4:(b.BI.flatMap Trem.Ev.enc).take (b.BI.length*2)=b.BI.flatMap Trem.Ev.enc:=ar (by omega);have hcl:D.bD (sp.flatMap Trem.yp.enc)=true:=ir (fun _=>by simp[D.clean]) sp;simp only[aY]at g6;simp[-length_flatMap,-map_take,g0,g6,gu,hf,hC,pI,Bk.bx,Bk.cells,NC,w2,w3,w4,hcl]
theorem ahu{F:List Abs.aG}{b:Bk}{er:List Int}{nm:List UInt8}{sp:List Trem.yp}{b':Bk}{e:Int}(hl:sp.length≤1000000)(hd:Ci b sp=(b',e))(he:e≠0):
  bw T (.call false fA [.ref σ.length 6 0 0,.str nm,.aK (sp.length*4) (sp.flatMap Trem.yp.enc)] (F::b.bx σ.length er::σ))=some (.fU (rf e) (F::b.bx σ.length er::σ)):=by
 refine eg wI wR rfl ?_;have hM:=fun σ=>rD (σ:=σ) (e:=1) (by decide)
 have hrc:(D.vn 311 (.agg [.int .i64 1])).clean=true:=rfl;unfold Ci at hd;split at hd
 case isFalse h1 =>
  cases hd;have h1':¬(b.BI.length:Int)<200:=by omega
  simp[-length_flatMap,-map_take,Bk.bx,Bk.cells,h1',dJ,D.clean,rf]
 rename_i h1;split at hd
 case isTrue=>cases hd;exact absurd rfl he
 rename_i h2;cases hd;have h1':(b.BI.length:Int)<200:=by omega
 have h2':Trem.Ev.ok ⟨b.aC.length,sp⟩=false:=by simpa using h2
 have hC:=fun σ=>SN (σ:=σ) (x:=⟨b.aC.length,sp⟩) (by simp;omega)
 simp only[h2',Trem.Ev.enc]at hC;have hL:=PU (σ:=F::b.bx σ.length er::σ) (bp:=.ref σ.length 6 0 0) rfl (tk:=b.aC.length) sp [] (by simpa using hl);simp[-length_flatMap,-map_take,Bk.bx,Bk.cells,h1',cH];refine WL.to hL (by simp[spD]) (by simp[Bk.bx,Bk.cells,spS]) ?_;rintro x e σ' ⟨rfl,g0,g6,gu,rfl⟩;have hf:=fun S hS=>aoI (S:=S) (L:=σ.length+1+1) hS (by omega) (sp:=sp) (tk:=b.aC.length)
 have hcl:D.bD (sp.flatMap Trem.yp.enc)=true:=ir (fun _=>by simp[D.clean]) sp;simp only[aY]at g6;simp[-length_flatMap,-map_take,g0,g6,gu,hf,hC,hM,Bk.bx,Bk.cells,hcl,rf,hrc]
theorem EY{a b c:Int}:bw T (.call false kM [.int .i64 a,.int .i64 b,.int .i64 c] σ)=some (.val (.bool (cV a b c)) σ):=by
 refine aD MA Nd rfl ?_;by_cases h:b≤a<;>simp[-length_flatMap,-map_take,h,cV]
theorem ahA{p:Prt}{last:Int}:bw T (.call false ea [.agg p.enc,.ref σ.length 0 0 0] ([]::[]::[]::[]::[.cells 0 [.int .i64 last]]::σ))=some (.val (.bool (p.ok last)) ([]::[]::[]::[]::[.cells 0 [.int .i64 p.xB]]::σ)):=by
 refine gF DL Ej rfl (by simp) ?_;cases h:cV p.xB 0 last<;>simp[-length_flatMap,-map_take,EY,h,Prt.ok]
theorem S4{u:Al}(hl:u.parts.length≤1000000000):bw T (.call false jT [.agg u.enc] σ)=some (.val (.bool u.ok) σ):=by
 refine aD GO HG rfl ?_;have hA:=Qe (yU 2 Prt.enc (fun _=>rfl)) (T:=T) (S:=fun i=>[.cells 0 [.int .i64 (xD u.parts i)]]::σ) (fv:=.fn ea [] [.ref σ.length 0 0 0]) (l:=u.parts) (p:=GC u.parts)
  (f:=iR) (g:=kc) (h:=eZ) (i:=gi) rfl rfl rfl rfl (by omega) rfl rfl rfl (fun _=>rfl) (fun i x hx=>by
   rw[sU];have h:=ahA (σ:=σ) (p:=x) (last:=xD u.parts i);have e1:xD u.parts (i+1)=x.xB:=by simp[xD,hx]
   have e2:GC u.parts i=x.ok (xD u.parts i):=by simp[GC,hx]
   have h':bw T (.call false ea ([]++[(yU 2 Prt.enc (fun _=>rfl)).val x]++[.ref σ.length 0 0 0]) ([]::[]::[]::[]::[.cells 0 [.int .i64 (xD u.parts i)]]::σ))=_:=h;rw[h',e1,e2];rfl)
 have hb:(!(rm (fun i => !GC u.parts i) 0 u.parts.length).1)=AG 1000 u.parts:=by
  have h1:=Fj (q:=fun i => !GC u.parts i) (m:=u.parts.length) (i:=0);have h2:=ahT (l:=u.parts);cases hf:AG 1000 u.parts
  ·cases hs:(rm (fun i => !GC u.parts i) 0 u.parts.length).1
   ·have h3:=h1.1 hs;have h4:=h2.2 fun j hj=>by simpa using h3 j hj
    rw[hf]at h4;cases h4
   ·rfl
  ·have h3:=h2.1 hf;have h4:=h1.2 fun j hj=>by simp[h3 j hj]
   rw[h4];rfl
 rw[hb]at hA;have e0:xD u.parts 0=1000:=rfl;have hA':bw T (.call false iR [.aK u.parts.length (u.parts.flatMap Prt.enc),.fn ea [] [.ref σ.length 0 0 0]] ([.cells 0 [.int .i64 1000]]::σ))=_:=hA;cases h1:cV u.Jf 0 5
 ·simp[-length_flatMap,-map_take,EY,h1,Al.ok]
 cases h2:cV u.parts.length 1 8
 ·simp[-length_flatMap,-map_take,EY,h1,h2,Al.ok]
 simp[-length_flatMap,-map_take,EY,h1,h2,Al.ok,hA']
theorem KU{u:Al}(hl:u.parts.length≤1000000000):bw T (.call false oB [.agg u.enc] σ)=some (.val (.int .i64 (if u.ok then 0 else 1)) σ):=by
 refine aD Ij IT rfl ?_;have hC:=fun σ=>S4 (σ:=σ) hl
 simp only[Al.enc]at hC ⊢;cases hc:u.ok<;>rw[hc]at hC<;>simp[-length_flatMap,-map_take,hC]
def ptD(L:Nat)(acc:List Prt):D:=.sl L 0 acc.length 0 acc.length 2
def ptS(acc:List Prt):List Abs.aG:=[.cells acc.length (acc.flatMap Prt.enc)]
theorem Mc(l:List Prt):(l.flatMap Prt.enc).length=l.length*2:=bV (f:=Prt.enc) (w:=2) (fun _=>rfl) l
theorem PR{bp:D}(hb1:bp.calm=bp){tk:Int}:∀(rs acc:List Prt),acc.length+rs.length≤1000000 →
  WL T [0,2,6] false mj [(0,bp),(2,.aK (rs.length*2) (rs.flatMap Prt.enc)),(6,.own 0 [.int .i64 tk,ptD σ.length acc])] (ptS acc::σ)
   (fun x e σ'=>x=.exit 0∧get e 0=bp∧get e 6=.own 0 [.int .i64 tk,ptD σ.length (acc++rs)]∧get e 1000006=.undef∧σ'=ptS (acc++rs)::σ)
 |[],acc,h=>by
  refine aM uP ?_;simp[-length_flatMap,-map_take,hb1]
 |r::rs,acc,h=>by
  refine aM uP ?_;simp only[aO]at h;have e1:(rs.length+1)*2=rs.length*2+2:=by omega
  have q0:(0:Int)<(rs.length:Int)*2+2:=by omega
  have q1:(1:Int)<(rs.length:Int)*2+2:=by omega
  have q2:(2:Int)≤(rs.length:Int)*2+2:=by omega
  have hroom:(acc.length+1)*16≤room:=by unfold room;omega
  have h32:16≤room:=by unfold room;omega
  have hl:=Mc acc;have ht:(acc.flatMap Prt.enc).take (acc.length*2)=acc.flatMap Prt.enc:=ar (by omega);have hl2:=Mc rs;have ht2:(rs.flatMap Prt.enc).take (rs.length*2)=rs.flatMap Prt.enc:=ar (by omega);simp[-length_flatMap,-map_take,hb1,e1,q0,q1,q2,hroom,hl,ht,ptD,ptS];refine WL.to (PR hb1 (tk:=tk) rs (acc++[r]) (by simp;omega)) (by simp[ht2,ptD,ptS]) (by simp[ptS]) fun x e σ' hh=>?_
  simpa[ptD,ptS]using hh
def UM(b:Bk)(u:Al):Bk:={b with fh:=b.fh++[u] }
def HA(b:Bk)(u:Al):Bk×Int:=if b.fh.length<10 then(if u.ok=true then(UM b u,0)else(b,1))else(b,3)
theorem ahi(l:List Al):(l.flatMap Al.enc).length=l.length*2:=bV (f:=Al.enc) (w:=2) (fun _=>rfl) l
theorem aoH{S:SK}{L:Nat}(hS:S.length=L)(hL:0<L){pt:List Prt}{tk:Int}:cI.frzL (cI 0 16) [.int .i64 tk,ptD L pt] (ptS pt::S)=([.int .i64 tk,.aK pt.length (pt.flatMap Prt.enc)],[.dead]::S):=by
 have hf:=Ji (f:=Prt.enc) (w:=2) (fun _=>rfl) (fun _=>by simp[D.clean]) (l:=pt) (j:=0) (v:=pt.length) (bs:=[Abs.aG.cells pt.length (pt.flatMap Prt.enc)]) (σ:=S) (by intro h;subst h;simp at hS;omega) (by simp);rw[hS]at hf;simp[ptD,ptS,hf]
theorem Cf{l:List Prt}:D.bD (l.flatMap Prt.enc)=true:=ir (fun _=>by simp[D.clean]) l
theorem atc{F:List Abs.aG}{b:Bk}{er:List Int}{nm:List UInt8}{u:Al}{b':Bk}{e:Int}(hl:u.parts.length≤1000000)(hd:HA b u=(b',e))(he:e=0):
  bw T (.call false gf [.ref σ.length 6 0 0,.str nm,.aK (u.parts.length*2+1) (.int .i64 u.Jf::u.parts.flatMap Prt.enc)] (F::b.bx σ.length er::σ))=some (.val (.ez []) (F::b'.bx σ.length er::σ)):=by
 refine gF xL xT rfl (by simp) ?_;unfold HA at hd;split at hd
 case isFalse=>cases hd;cases he
 rename_i h1;split at hd
 case isFalse=>cases hd;cases he
 rename_i h2;cases hd;have h1':(b.fh.length:Int)<10:=by omega
 have hC:=fun σ=>KU (σ:=σ) (u:=u) (by omega)
 simp only[h2,if_true,Al.enc]at hC;have hL:=PR (σ:=F::b.bx σ.length er::σ) (bp:=.ref σ.length 6 0 0) rfl (tk:=u.Jf) u.parts [] (by simpa using hl);have hne:u.parts≠[]:=by
  intro hh;simp[Al.ok,cV,hh]at h2
 have q0:(0:Int)<(u.parts.length:Int)*2+1:=by omega
 have q1:(1:Int)≤(u.parts.length:Int)*2+1:=by omega
 have hlp:=Mc u.parts;have htp:(u.parts.flatMap Prt.enc).take (u.parts.length*2)=u.parts.flatMap Prt.enc:=ar (by omega);simp[-length_flatMap,-map_take,Bk.bx,Bk.cells,h1',cH,q0,q1];refine WL.to hL (by simp[ptD,htp]) (by simp[Bk.bx,Bk.cells,ptS]) ?_;rintro x e σ' ⟨rfl,g0,g6,gu,rfl⟩;have hf:=fun S hS=>aoH (S:=S) (L:=σ.length+1+1) hS (by omega) (pt:=u.parts) (tk:=u.Jf)
 have w2:(b.fh.length+1)*32≤room:=by unfold room;omega
 have w3:=ahi b.fh;have w4:(b.fh.flatMap Al.enc).take (b.fh.length*2)=b.fh.flatMap Al.enc:=ar (by omega);simp only[aY]at g6;simp[-length_flatMap,-map_take,g0,g6,gu,hf,hC,pI,Bk.bx,Bk.cells,UM,w2,w3,w4,Cf]
theorem aje{F:List Abs.aG}{b:Bk}{er:List Int}{nm:List UInt8}{u:Al}{b':Bk}{e:Int}(hl:u.parts.length≤1000000)(hd:HA b u=(b',e))(he:e≠0):
  bw T (.call false gf [.ref σ.length 6 0 0,.str nm,.aK (u.parts.length*2+1) (.int .i64 u.Jf::u.parts.flatMap Prt.enc)] (F::b.bx σ.length er::σ))=some (.fU (rf e) (F::b.bx σ.length er::σ)):=by
 refine eg xL xT rfl ?_;have hM:=fun σ=>rD (σ:=σ) (e:=1) (by decide)
 have hrc:(D.vn 311 (.agg [.int .i64 1])).clean=true:=rfl;unfold HA at hd;split at hd
 case isFalse h1 =>
  cases hd;have h1':¬(b.fh.length:Int)<10:=by omega
  simp[-length_flatMap,-map_take,Bk.bx,Bk.cells,h1',dJ,D.clean,rf]
 rename_i h1;split at hd
 case isTrue=>cases hd;exact absurd rfl he
 rename_i h2;cases hd;have h1':(b.fh.length:Int)<10:=by omega
 have h2':u.ok=false:=by simpa using h2
 have hC:=fun σ=>KU (σ:=σ) (u:=u) (by omega)
 simp only[h2',Al.enc]at hC;have hL:=PR (σ:=F::b.bx σ.length er::σ) (bp:=.ref σ.length 6 0 0) rfl (tk:=u.Jf) u.parts [] (by simpa using hl);have q0:(0:Int)<(u.parts.length:Int)*2+1:=by omega
 have q1:(1:Int)≤(u.parts.length:Int)*2+1:=by omega
 have hlp:=Mc u.parts;have htp:(u.parts.flatMap Prt.enc).take (u.parts.length*2)=u.parts.flatMap Prt.enc:=ar (by omega);simp[-length_flatMap,-map_take,Bk.bx,Bk.cells,h1',cH,q0,q1];refine WL.to hL (by simp[ptD,htp]) (by simp[Bk.bx,Bk.cells,ptS]) ?_;rintro x e σ' ⟨rfl,g0,g6,gu,rfl⟩;have hf:=fun S hS=>aoH (S:=S) (L:=σ.length+1+1) hS (by omega) (pt:=u.parts) (tk:=u.Jf)
 simp only[aY]at g6;simp[-length_flatMap,-map_take,g0,g6,gu,hf,hC,hM,Bk.bx,Bk.cells,Cf,rf,hrc]
def AQ(b:cC)(m:cX):D:=if Bd b m then stE (dX b m)else .aH
theorem Tv{b:cC}{m:cX}:(AQ b m).clean=true:=by
 unfold AQ;split
 ·simp[stE,ir (f:=Rock.aG.enc) (fun _=>by simp[D.clean])]
 ·simp
theorem UF{b:cC}{m:cX}:(AQ b m).strip=AQ b m:=by unfold AQ;split<;>rfl
theorem Tp{b:cC}{m:cX}:(AQ b m).calm=AQ b m:=by unfold AQ;split<;>rfl
theorem af2{b:cC}{m:cX}{tq wq:D}(htq:tq.yh=.aK b.cf.length (b.cf.flatMap Rw.enc))(hwq:wq.yh=.aK b.av.length (b.av.flatMap bH.enc))(h1:b.cf.length≤1000000000)(h2:b.av.length≤1000000000)(hn:m.name.length≤1000000000)(hl:m.bg.length≤1000000000)(hσ:σ≠[]):
  bw T (.call false vj [.agg [.int .i64 b.f.x,.int .i64 b.f.y,.int .i64 b.f.z,.int .i64 b.f.k,tq,.int .i64 b.bJ,.int .i64 b.lift,.int .i64 b.deep,wq],.agg [.str m.name,.aK m.bg.length (m.bg.flatMap aU)]] σ)=some (.val (.ez [AQ b m,.int .i64 (if Bd b m then 0 else 1)]) σ):=by
 unfold AQ;cases hb:Bd b m
 ·refine aD Ip IY rfl ?_;obtain⟨d,hd,hd1,hd2⟩:=af3 (σ:=[]::σ) h1 h2 hn hl hb;simp[-length_flatMap,-map_take,htq,hwq,hd,hd1,hd2,cM,bu,bA]
 ·refine aD Ip IY rfl ?_;have hd:=fun σ=>ar4 (σ:=σ) h1 h2 hn hl hb
  have hf:=fun σ hσ=>JC (σ:=σ) (b:=b) (m:=m) (Fv.of hb) hσ
  have hcl:(stE (dX b m)).clean=true:=by simp[stE,ir (f:=Rock.aG.enc) (fun _=>by simp[D.clean])]
  have hs1:(stE (dX b m)).strip=stE (dX b m):=rfl;have hs2:(stE (dX b m)).calm=stE (dX b m):=rfl;simp[-length_flatMap,-map_take,htq,hwq,hd,hf,hs1,hs2,hcl,cM,bu,bA]
theorem aiW{e:mA}{nm:List UInt8}:bw T (.call false ek [.agg e.enc,.bE [.str nm]] σ)=some (.val (.bool (e.m.name == nm)) σ):=by
 refine aD BQ Cn rfl ?_;simp[-length_flatMap,-map_take,KF]
theorem I6(l:List mA):(l.flatMap mA.enc).length=l.length*4:=bV (f:=mA.enc) (w:=4) (fun _=>rfl) l
theorem ahj(l:List Vj):(l.flatMap Vj.enc).length=l.length*4:=bV (f:=Vj.enc) (w:=4) (fun _=>rfl) l
theorem OX{b:Bk}{er:List Int}{nm:List UInt8}{S:SK}(hl:b.az.length≤1000000)(hs:gk S σ.length=some (b.bx σ.length er)):
  bw T (.call false dY [.sl σ.length 0 b.az.length 0 b.az.length 4,.fn ek [] [.bE [.str nm]]] S)=some (.val (.bool (sN b.az fun e=>e.m.name == nm)) S) :=
 Gw (enc:=mA.enc) (w:=4) (fun _=>rfl) (F:=b.bx σ.length er) (bi:=0) (v:=b.az.length) (l:=b.az) (i:=dw) rfl rfl (by simp[Bk.bx]) (by omega)
  ⟨rfl,rfl,fun e _ σ=>by rw[sU];have h:=aiW (σ:=σ) (e:=e) (nm:=nm);have h':bw T (.call false ek ([]++[.agg e.enc]++[.bE [.str nm]]) σ)=_:=h;rw[h'];rfl⟩ hs
def H4(b:Bk)(m:cX):Bk:={b with az:=b.az++[⟨m,true,0⟩],pX:=b.pX++[⟨0,0,0,0⟩] }
def zC(b:Bk)(m:cX):Bk×Int :=
 if b.ready=true∧b.aC=[]then
  (if(sN b.az fun e=>e.m.name == m.name)=true then(b,6)else if b.az.length<40 then(if Bd b.bL m=true then(H4 b m,0)else(b,1))else(b,3))
 else(b,8)
theorem aiX{F:List Abs.aG}{b:Bk}{er:List Int}{m:cX}{b':Bk}{e:Int}(h1:b.bL.cf.length≤1000000000)(h2:b.bL.av.length≤1000000000)(hn:m.name.length≤1000000000)(hl:m.bg.length≤1000000000)(hw:b.pX.length=b.az.length)(hd:zC b m=(b',e))(he:e=0):
  bw T (.call false fy [.ref σ.length 6 0 0,.str m.name,.aK m.bg.length (m.bg.flatMap aU)] (F::b.bx σ.length er::σ))=some (.val (.ez []) (F::b'.bx σ.length er::σ)):=by
 refine gF wH wQ rfl (by simp) ?_;unfold zC at hd;split at hd
 case isFalse=>cases hd;cases he
 rename_i c0;obtain⟨c1,c2⟩:=c0;split at hd
 case isTrue=>cases hd;cases he
 rename_i c3;split at hd
 case isFalse=>cases hd;cases he
 rename_i c4;split at hd
 case isFalse=>cases hd;cases he
 rename_i c5;cases hd;have c3':(sN b.az fun e=>e.m.name == m.name)=false:=by simpa using c3
 have c4':(b.az.length:Int)<40:=by omega
 have hH:=fun S=>OX (σ:=σ) (b:=b) (er:=er) (nm:=m.name) (S:=S) (by omega)
 simp only[c3']at hH;have hS:=fun S hσ=>af2 (σ:=S) (b:=b.bL) (m:=m) (tq:=nl Rw.enc b.bL.cf) (wq:=nl bH.enc b.bL.av) vp vp h1 h2 hn hl hσ
 simp only[c5]at hS;simp only[Bk.bx,Bk.cells]at hH;have w2:(b.az.length+1)*56≤room:=by unfold room;omega
 have w3:=I6 b.az;have w4:(b.az.flatMap mA.enc).take (b.az.length*4)=b.az.flatMap mA.enc:=ar (by omega);have w5:(b.pX.length+1)*32≤room:=by unfold room;omega
 have w6:=ahj b.pX;have w7:(b.pX.flatMap Vj.enc).take (b.pX.length*4)=b.pX.flatMap Vj.enc:=ar (by omega);simp[-length_flatMap,-map_take,Bk.bx,Bk.cells,c1,c2,hH,c4',hS,Tv,UF,Tp,ag1,cH,pI,H4,w2,w3,w4,w5,w6,w7,bA]
theorem ahr{F:List Abs.aG}{b:Bk}{er:List Int}{m:cX}{b':Bk}{e:Int}(h1:b.bL.cf.length≤1000000000)(h2:b.bL.av.length≤1000000000)(hn:m.name.length≤1000000000)(hl:m.bg.length≤1000000000)(hml:b.az.length≤40)(hd:zC b m=(b',e))(he:e≠0):
  bw T (.call false fy [.ref σ.length 6 0 0,.str m.name,.aK m.bg.length (m.bg.flatMap aU)] (F::b.bx σ.length er::σ))=some (.fU (rf e) (F::b.bx σ.length er::σ)):=by
 refine eg wH wQ rfl ?_;have hM:=fun σ=>rD (σ:=σ) (e:=1) (by decide)
 have hrc:(D.vn 311 (.agg [.int .i64 1])).clean=true:=rfl;unfold zC at hd;split at hd
 case isFalse c0 =>
  cases hd;cases c1:b.ready with
  |false=>simp[-length_flatMap,-map_take,Bk.bx,Bk.cells,c1,dJ,D.clean,rf]
  |true =>
   have c2:((b.aC.length:Int) == 0)=false:=by simpa using fun hh=>c0 ⟨c1,hh⟩
   simp[-length_flatMap,-map_take,Bk.bx,Bk.cells,c1,c2,dJ,D.clean,rf]
 rename_i c0;obtain⟨c1,c2⟩:=c0;have hH:=fun S=>OX (σ:=σ) (b:=b) (er:=er) (nm:=m.name) (S:=S) (by omega)
 split at hd
 case isTrue c3 =>
  cases hd;simp only[c3]at hH;simp only[Bk.bx,Bk.cells]at hH;simp[-length_flatMap,-map_take,Bk.bx,Bk.cells,c1,c2,hH,cH,dJ,D.clean,rf]
 rename_i c3;have c3':(sN b.az fun e=>e.m.name == m.name)=false:=by simpa using c3
 simp only[c3']at hH;split at hd
 case isFalse c4 =>
  cases hd;have c4':¬(b.az.length:Int)<40:=by omega
  simp only[Bk.bx,Bk.cells]at hH;simp[-length_flatMap,-map_take,Bk.bx,Bk.cells,c1,c2,hH,c4',cH,dJ,D.clean,rf]
 rename_i c4;have c4':(b.az.length:Int)<40:=by omega
 split at hd
 case isTrue=>cases hd;exact absurd rfl he
 rename_i c5;cases hd;have c5':Bd b.bL m=false:=by simpa using c5
 have hS:=fun S hσ=>af2 (σ:=S) (b:=b.bL) (m:=m) (tq:=nl Rw.enc b.bL.cf) (wq:=nl bH.enc b.bL.av) vp vp h1 h2 hn hl hσ
 simp only[c5']at hS;simp only[Bk.bx,Bk.cells]at hH;simp[-length_flatMap,-map_take,Bk.bx,Bk.cells,c1,c2,hH,c4',hS,Tv,UF,Tp,ag1,cH,hM,bA,rf,hrc]
end Go.Proofs.YtfgljaglidhjiaaGreatDoor
namespace Go.Book
open List(length_flatMap map_take)
open Go Go.Abs Go.Rock
def isStr(lo hi:Int)(val:cX→Int)(e:mA):Bool:=e.left && !cV (val e.m) lo hi
def eU(at_ lo hi:Int)(val:cX→Int)(e:mA):mA:=if isStr lo hi val e then⟨e.m,false,at_⟩else e
def ayp(at_ lo hi:Int)(val:cX→Int)(ms:List mA)(j:Nat)(w:Vj):Vj:=match ms[j]? with
 |some e=>if isStr lo hi val e then⟨at_,val e.m,lo,hi⟩else w
 |none=>w
def Bk.kQ(b:Bk)(lo hi:Int)(val:cX→Int)(i:Nat):Bk :=
 {b with az:=b.az.mapIdx fun j e=>if j<i then eU b.at_ lo hi val e else e,pX:=b.pX.mapIdx fun j w=>if j<i then ayp b.at_ lo hi val b.az j w else w }
section
variable {b:Bk} {lo hi:Int} {val:cX→Int} {i:Nat}
@[simp] theorem apP:(b.kQ lo hi val i).bL=b.bL:=ah rfl
@[simp] theorem aiu:(b.kQ lo hi val i).aC=b.aC:=ah rfl
@[simp] theorem afU:(b.kQ lo hi val i).rules=b.rules:=ah rfl
@[simp] theorem apQ:(b.kQ lo hi val i).BI=b.BI:=ah rfl
@[simp] theorem arV:(b.kQ lo hi val i).k0=b.k0:=ah rfl
@[simp] theorem arW:(b.kQ lo hi val i).k1=b.k1:=ah rfl
@[simp] theorem arX:(b.kQ lo hi val i).k2=b.k2:=ah rfl
@[simp] theorem afW:(b.kQ lo hi val i).fh=b.fh:=ah rfl
@[simp] theorem afV:(b.kQ lo hi val i).j8=b.j8:=ah rfl
@[simp] theorem afT:(b.kQ lo hi val i).ready=b.ready:=ah rfl
@[simp] theorem arT:(b.kQ lo hi val i).at_=b.at_:=ah rfl
end
theorem aiv{b:Bk}{lo hi:Int}{val:cX→Int}:b.kQ lo hi val 0=b:=by
 cases b;simp only[Bk.kQ,Bk.mk.injEq,true_and,and_true];constructor<;>(apply dV;intro j;simp[kh])
theorem Jx{b:Bk}{lo hi:Int}{val:cX→Int}{i:Nat}:(b.kQ lo hi val i).az.length=b.az.length:=by simp[Bk.kQ]
theorem Jy{b:Bk}{lo hi:Int}{val:cX→Int}{i:Nat}:(b.kQ lo hi val i).pX.length=b.pX.length:=by simp[Bk.kQ]
theorem arU{b:Bk}{lo hi:Int}{val:cX→Int}{i:Nat}{e:mA}(h:b.az[i]?=some e):(b.kQ lo hi val i).az[i]?=some e:=by simp[Bk.kQ,h]
theorem ait{b:Bk}{lo hi:Int}{val:cX→Int}{i:Nat}{e:mA}(h:b.az[i]?=some e)(hs:isStr lo hi val e=true)(hw:b.pX.length=b.az.length):
  (b.kQ lo hi val (i+1)).az=(b.kQ lo hi val i).az.set i ⟨e.m,false,b.at_⟩∧(b.kQ lo hi val (i+1)).pX=(b.kQ lo hi val i).pX.set i ⟨b.at_,val e.m,lo,hi⟩:=by
 obtain⟨hi',he⟩:=aF.1 h;constructor
 ·apply dV;intro j;simp only[Bk.kQ,kh,List.getElem?_set];by_cases hj:i=j
  ·subst hj;rw[h];simp[hi',eU,hs]
  ·rw[if_neg hj];cases b.az[j]? with
   |none=>rfl
   |some x=>simp only[aT];congr 1;by_cases h1:j<i<;>simp[h1]<;>omega
 ·apply dV;intro j;simp only[Bk.kQ,kh,List.getElem?_set];by_cases hj:i=j
  ·subst hj;have:i<b.pX.length:=by omega
   rw[aP this];simp[h,this,ayp,hs]
  ·rw[if_neg hj];cases b.pX[j]? with
   |none=>rfl
   |some x=>simp only[aT];congr 1;by_cases h1:j<i<;>simp[h1]<;>omega
theorem PJ{b:Bk}{lo hi:Int}{val:cX→Int}{i:Nat}{e:mA}(h:b.az[i]?=some e)(hs:isStr lo hi val e=false):b.kQ lo hi val (i+1)=b.kQ lo hi val i:=by
 have h1:(b.kQ lo hi val (i+1)).az=(b.kQ lo hi val i).az:=by
  apply dV;intro j;simp only[Bk.kQ,kh];by_cases hj:i=j
  ·subst hj;simp[h,eU,hs]
  ·cases b.az[j]? with
   |none=>rfl
   |some x=>simp only[aT];congr 1;by_cases h1:j<i<;>simp[h1]<;>omega
 have h2:(b.kQ lo hi val (i+1)).pX=(b.kQ lo hi val i).pX:=by
  apply dV;intro j;simp only[Bk.kQ,kh];by_cases hj:i=j
  ·subst hj;cases b.pX[i]? with
   |none=>rfl
   |some x=>simp[h,ayp,hs]
  ·cases b.pX[j]? with
   |none=>rfl
   |some x=>simp only[aT];congr 1;by_cases h1:j<i<;>simp[h1]<;>omega
 simp only[Bk.kQ]at h1 h2 ⊢;rw[h1,h2]
end Go.Book
namespace Go.Proofs.YtfgljaglidhjiaaGreatDoor
open List(length_flatMap map_take)
open Go Go.Abs Go.Rock Go.Book
variable {σ:SK}
theorem Tu{α:Type}{f:α→List D}{w k:Nat}{v:D}(hw:∀x,(f x).length=w)(hk:k<w):∀{l:List α} {i:Nat} {x x':α},l[i]?=some x→(f x).set k v=f x'→(l.flatMap f).set (i*w+k) v=(l.set i x').flatMap f
 |[],i,x,x',h,_=>by simp at h
 |a::l,0,x,x',h,hs=>by
  simp at h;subst h;simp only[ba,List.set_cons_zero,Nat.zero_mul,db];rw[List.set_append_left _ _ (by rw[hw];exact hk),hs]
 |a::l,i+1,x,x',h,hs=>by
  have ih:=Tu hw hk (l:=l) (i:=i) (by simpa using h) hs;simp only[ba,List.set_cons_succ];have e:=hw a;rw[List.set_append_right _ _ (by rw[e,eV];omega),← ih];congr 2;rw[e,eV];omega
theorem Tt{α:Type}{f:α→List D}{w k:Nat}{v:D}(hw:∀x,(f x).length=w)(hk:k<w){l:List α}{i:Nat}{x x':α}(h:l[i]?=some x)(hs:(f x).set k v=f x'):(l.flatMap f).take (i*w+k)++v::(l.flatMap f).drop (i*w+k+1)=(l.set i x').flatMap f:=by
 rw[← Tu hw hk h hs,List.set_eq_take_append_cons_drop,if_pos];rw[bV hw];have h1:=(aF.1 h).1;have:(i+1)*w≤l.length*w:=dt _ h1;rw[eV]at this;omega
theorem S7{A F:List Abs.aG}{b:Bk}{er:List Int}{lo hi:Int}{val:cX→Int}{fv:D}(hf1:fv.strip=fv)(hf2:fv.calm=fv)(hw:b.pX.length=b.az.length)(hl:b.az.length≤40)
  (hv:∀i e,e∈b.az→e.left=true→pZ (bw T) false fv [.agg [.str e.m.name,.aK e.m.bg.length (e.m.bg.flatMap aU)]] ([]::A::F::(b.kQ lo hi val i).bx σ.length er::σ)=some (.int .i64 (val e.m),[]::A::F::(b.kQ lo hi val i).bx σ.length er::σ)):∀(m i:Nat),i+m=b.az.length →
  WL T [0,2,4,13,14,15] false jt [(0,.ref σ.length 6 0 0),(2,fv),(4,.bE [.int .i64 lo,.int .i64 hi]),(13,.sl σ.length 0 b.az.length 0 b.az.length 4),(14,.int .i64 b.az.length),(15,.int .i64 i)] ([]::A::F::(b.kQ lo hi val i).bx σ.length er::σ)
   (fun x e σ'=>x=.exit 0∧σ'=[]::A::F::(b.kQ lo hi val b.az.length).bx σ.length er::σ)
 |0,i,h=>by
  refine aM sD ?_;have h1:¬i<b.az.length:=by omega
  have h2:i=b.az.length:=by omega
  simp[-length_flatMap,-map_take,h1,hf1,hf2,h2]
 |m+1,i,h=>by
  refine aM sD ?_;have h1:i<b.az.length:=by omega
  obtain⟨e,he⟩:=gE h1;have hat:=arU (lo:=lo) (hi:=hi) (val:=val) he;have hfl:=bQ (f:=mA.enc) (w:=4) (fun _=>rfl) hat;have hml:=Jx (b:=b) (lo:=lo) (hi:=hi) (val:=val) (i:=i);have hwl:=Jy (b:=b) (lo:=lo) (hi:=hi) (val:=val) (i:=i);have h4:=fK h1 (by omega);have ih:=S7 hf1 hf2 hw hl hv m (i+1) (by omega);have hlen:=I6 (b.kQ lo hi val i).az;rw[hml]at hlen;have q:4≤b.az.length*4-i*4:=by omega
  cases hc1:e.left with
  |false =>
   have hst:isStr lo hi val e=false:=by simp[isStr,hc1]
   rw[PJ he hst]at ih;simp[-length_flatMap,-map_take,h1,hf1,hf2,Bk.bx,Bk.cells,hml,hwl,hfl,hlen,q,h4,hc1];exact WL.to ih (by simp) (by simp[Bk.bx,Bk.cells,hml,hwl]) fun x e σ' hh=>by simpa[Bk.bx,Bk.cells,Jx,Jy]using hh
  |true =>
   have hcall:=hv i e (an he) hc1;simp only[Bk.bx,Bk.cells,hml,hwl,apP,aiu,afU,apQ,arV,arW,arX,afW,afV,afT,arT]at hcall;cases hc2:cV (val e.m) lo hi with
   |true =>
    have hst:isStr lo hi val e=false:=by simp[isStr,hc2]
    rw[PJ he hst]at ih;simp[-length_flatMap,-map_take,h1,hf1,hf2,Bk.bx,Bk.cells,hml,hwl,hfl,hlen,q,h4,hc1,hcall,fg,hc2];exact WL.to ih (by simp) (by simp[Bk.bx,Bk.cells,hml,hwl]) fun x e σ' hh=>by simpa[Bk.bx,Bk.cells,Jx,Jy]using hh
   |false =>
    have hst:isStr lo hi val e=true:=by simp[isStr,hc1,hc2]
    obtain⟨hn1,hn2⟩:=ait he hst hw;have q2:i*4+2+1≤b.az.length*4:=by omega
    have q3:i*4+3+1≤b.az.length*4:=by omega
    have p1:=Tt (f:=mA.enc) (w:=4) (k:=2) (v:=.bool false) (fun _=>rfl) (by omega) (x':=⟨e.m,false,e.by_⟩) hat rfl;have hat2:((b.kQ lo hi val i).az.set i ⟨e.m,false,e.by_⟩)[i]?=some ⟨e.m,false,e.by_⟩:=by simp[hml,h1]
    have p2:=Tt (f:=mA.enc) (w:=4) (k:=3) (v:=.int .i64 b.at_) (fun _=>rfl) (by omega) (x':=⟨e.m,false,b.at_⟩) hat2 rfl;rw[List.set_set]at p2;have hl2:=I6 ((b.kQ lo hi val i).az.set i ⟨e.m,false,e.by_⟩);rw[List.length_set,hml]at hl2;have h5:i<b.pX.length:=by omega
    have q5:i*4+4≤b.pX.length*4:=by omega
    have hwe:=ahj (b.kQ lo hi val i).pX;rw[hwl]at hwe;have p3:=agL (f:=Vj.enc) (w:=4) (fun _=>rfl) (l:=(b.kQ lo hi val i).pX) (i:=i) (x:=⟨b.at_,val e.m,lo,hi⟩) (by omega);simp only[Vj.enc,gT,aY]at p3;simp[-length_flatMap,-map_take,h1,hf1,hf2,Bk.bx,Bk.cells,hml,hwl,hfl,hlen,q,h4,hc1,hcall,fg,hc2,q2,q3,p1,p2,hl2,h5,q5,hwe,p3];exact WL.to ih (by simp) (by simp[Bk.bx,Bk.cells,hwl,hn1,hn2,hml]) fun x e σ' hh=>by simpa[Bk.bx,Bk.cells,Jx,Jy]using hh
def tJ(b:Bk)(lo hi:Int)(val:cX→Int):Bk:=b.kQ lo hi val b.az.length
theorem S3{A F:List Abs.aG}{b:Bk}{er:List Int}{lo hi:Int}{val:cX→Int}{fv:D}(hf1:fv.strip=fv)(hf2:fv.calm=fv)(hw:b.pX.length=b.az.length)(hl:b.az.length≤40)
  (hv:∀i e,e∈b.az→e.left=true→pZ (bw T) false fv [.agg [.str e.m.name,.aK e.m.bg.length (e.m.bg.flatMap aU)]] ([]::A::F::(b.kQ lo hi val i).bx σ.length er::σ)=some (.int .i64 (val e.m),[]::A::F::(b.kQ lo hi val i).bx σ.length er::σ)):
  bw T (.call false gr [.ref σ.length 6 0 0,.agg [.int .i64 lo,.int .i64 hi],fv] (A::F::b.bx σ.length er::σ))=some (.val (.ez []) (A::F::(tJ b lo hi val).bx σ.length er::σ)):=by
 refine gF C8 Dx rfl (by simp) ?_;have h:=S7 (A:=A) (F:=F) (er:=er) hf1 hf2 hw hl hv b.az.length 0 (by omega);rw[aiv]at h;simp[-length_flatMap,-map_take,Bk.bx,Bk.cells,hf1,hf2];refine WL.to h (by simp) (by simp[Bk.bx,Bk.cells]) ?_;rintro x e σ' ⟨rfl,rfl⟩;simp[tJ,Bk.bx,Bk.cells]
end Go.Proofs.YtfgljaglidhjiaaGreatDoor
namespace Go.Proofs.YtfgljaglidhjiaaGreatDoor
open List(length_flatMap map_take)
open Go Go.Abs Go.Rock
variable {σ:SK}
structure Ae where
 m:Int
 h:Int
 s:Int
 g:Int
@[simp] def Ae.enc(x:Ae):List D:=[.int .i64 x.m,.int .i64 x.h,.int .i64 x.s,.int .i64 x.g]
def Ae.valid(x:Ae):Bool:=cV x.m 0 1000000 && (cV x.h 0 (4000*x.m) && (cV x.s 0 (10000*x.m) && cV x.g 0 1000000000))
def jn(r:Rw)(x:Ae):Int:=if x.h-x.m*r.l≤0 then 0 else if x.m*r.v≤x.h then x.m else(x.h-x.m*r.l) / (r.v-r.l)
theorem aiQ{r:Rw}{x:Ae}(hr:0≤r.l∧r.l<r.v∧r.v≤4000)(hm:0≤x.m∧x.m≤1000000)(hh:0≤x.h∧x.h≤4000000000):
  bw T (.call false ma [.agg r.enc,.agg x.enc] σ)=some (.val (.int .i64 (jn r x)) σ):=by
 refine aD FG Gl rfl ?_;have b1:=pC hm.1 hm.2 hr.1 (show r.l≤4000 by omega);have b2:=pC hm.1 hm.2 (show 0≤r.v by omega) hr.2.2;have w1:=gQ (n:=x.m*r.l) (by omega);have w2:=gQ (n:=x.h-x.m*r.l) (by omega);have w3:=gQ (n:=x.m*r.v) (by omega);have w4:=gQ (n:=r.v-r.l) (by omega);have hd:¬r.v-r.l=0:=by omega
 unfold jn;by_cases c1:x.h-x.m*r.l≤0
 ·simp[-length_flatMap,-map_take,w1,w2,w3,w4,c1]
 ·by_cases c2:x.m*r.v≤x.h
  ·simp[-length_flatMap,-map_take,w1,w2,w3,w4,c1,c2]
  ·have t1:=bC (b:=r.v-r.l) (show 0≤x.h-x.m*r.l by omega);have q1:=Int.ediv_nonneg (a:=x.h-x.m*r.l) (b:=r.v-r.l) (by omega) (by omega);have q2:=Int.ediv_le_self (b:=r.v-r.l) (show 0≤x.h-x.m*r.l by omega);have w5:=gQ (n:=(x.h-x.m*r.l) / (r.v-r.l)) (by omega);simp[-length_flatMap,-map_take,w1,w2,w3,w4,c1,c2,hd,t1,w5]
theorem Ml{x:Ae}:bw T (.call false ig [.agg x.enc] σ)=some (.val (.bool x.valid) σ):=by
 refine aD DP Ep rfl ?_;unfold Ae.valid;cases h1:cV x.m 0 1000000
 ·simp[-length_flatMap,-map_take,kS,h1]
 have hm:=bf.1 h1;have w1:=gQ (n:=4000*x.m) (by omega);have w2:=gQ (n:=10000*x.m) (by omega);cases h2:cV x.h 0 (4000*x.m)
 ·simp[-length_flatMap,-map_take,kS,h1,h2,w1,w2]
 cases h3:cV x.s 0 (10000*x.m)
 ·simp[-length_flatMap,-map_take,kS,h1,h2,h3,w1,w2]
 cases h4:cV x.g 0 1000000000<;>simp[-length_flatMap,-map_take,kS,h1,h2,h3,h4,w1,w2]
theorem azt{t:List Rw}{i:Nat}{r:Rw}(h:t[i]?=some r):bw T (.call false pz [.aK t.length (t.flatMap Rw.enc),.int .i64 i] σ)=some (.val (.agg r.enc) σ):=by
 refine aD JN Kj rfl ?_;have h1:i<t.length:=(aF.1 h).1;have h2:=bQ (f:=Rw.enc) (w:=5) (fun _=>rfl) h;simp[-length_flatMap,-map_take,h1,h2]
theorem ar5{t:List Rw}{n:Int}(hl:t.length≤1000000000):bw T (.call false oG [.aK t.length (t.flatMap Rw.enc),.int .i64 n] σ)=some (.val (.bool (cV n 0 ((t.length:Int)-1))) σ):=by
 refine aD It I2 rfl ?_;have w1:=gQ (n:=(t.length:Int)-1) (by omega);simp[-length_flatMap,-map_take,kS,w1]
def wat(r:Rw)(x:Ae):Int×Int:=if jn r x=0 then(x.m,x.h)else if jn r x=x.m then(0,0)else(x.m-jn r x,x.h-jn r x*r.v)
def ayo(r:Rw)(x:Ae):Int:=if jn r x=0 then 0 else if jn r x=x.m then x.h else jn r x*r.v
def aCv(r:Rw)(x:Ae):Int:=if jn r x=0 then x.g else 0
def ayn(r:Rw)(x:Ae):Int:=if jn r x=0 then 0 else x.g
def held(r:Rw)(x:Ae):Int:=min x.s ((wat r x).1*r.s)
def parts(r:Rw)(x:Ae):List D:=[.int .i64 (jn r x),.int .i64 (ayo r x),.int .i64 0,.int .i64 (ayn r x),.int .i64 (wat r x).1,.int .i64 (wat r x).2,.int .i64 (held r x),.int .i64 (aCv r x),
 .int .i64 (if 0<(wat r x).1 then max 0 ((wat r x).2-(wat r x).1*r.l)else 0),.int .i64 (x.s-held r x)]
theorem aoJ{r:Rw}{x:Ae}(hr:0≤r.l∧r.l<r.v∧r.v≤4000)(hm:0≤x.m):0≤jn r x∧jn r x≤x.m∧(jn r x≠0→jn r x≠x.m→0≤x.h-jn r x*r.v+x.m*r.v):=by
 have hmv:x.m*r.v=x.m*r.l+x.m*(r.v-r.l):=by rw[← Int.mul_add];congr 1;omega
 have hml:=fq hm hr.1;have key:¬x.h-x.m*r.l≤0→¬x.m*r.v≤x.h→0≤(x.h-x.m*r.l) / (r.v-r.l)∧(x.h-x.m*r.l) / (r.v-r.l)≤x.m:=fun h1 h2=>⟨Int.ediv_nonneg (by omega) (by omega),Int.ediv_le_of_le_mul (by omega) (by omega)⟩
 have h2:0≤jn r x∧jn r x≤x.m:=by
  unfold jn;by_cases c1:x.h-x.m*r.l≤0
  ·rw[if_pos c1];omega
  ·rw[if_neg c1];by_cases c2:x.m*r.v≤x.h
   ·rw[if_pos c2];omega
   ·rw[if_neg c2];exact key c1 c2
 refine⟨h2.1,h2.2,fun h3 _=>?_⟩;have h4:=fL h2.2 (show 0≤r.v by omega);have h5:¬x.h-x.m*r.l≤0:=by
  intro hh;exact h3 (by unfold jn;rw[if_pos hh])
 omega
theorem azq{r:Rw}{x:Ae}(hr:0≤r.l∧r.l<r.v∧r.v≤4000)(hs:0≤r.s∧r.s≤2000)(hx:x.valid=true):
  bw T (.call false pA [.agg r.enc,.agg x.enc] σ)=some (.val (.agg (parts r x)) σ):=by
 refine aD JO Kk rfl ?_;simp only[Ae.valid,af,bf]at hx;obtain⟨hm,hh,hsl,hg⟩:=hx;have hF:=fun σ=>aiQ (σ:=σ) hr hm ⟨hh.1,by omega⟩
 obtain⟨f1,f2,f3⟩:=aoJ hr hm.1;have b1:=pC f1 (show jn r x≤1000000 by omega) (show 0≤r.v by omega) hr.2.2;have b2:=pC (show 0≤x.m-jn r x by omega) (show x.m-jn r x≤1000000 by omega) hs.1 hs.2;have b3:=pC (show 0≤x.m-jn r x by omega) (show x.m-jn r x≤1000000 by omega) hr.1 (show r.l≤4000 by omega);have b4:=pC hm.1 hm.2 hs.1 hs.2;have b5:=pC hm.1 hm.2 hr.1 (show r.l≤4000 by omega);simp only[Rw.enc,Ae.enc]at hF;unfold parts held ayo aCv ayn wat;generalize jn r x=m at *
 have w1:=gQ (n:=m*r.v) (by omega);have w2:=gQ (n:=x.m-m) (by omega);have w3:=gQ (n:=x.h-m*r.v) (by omega);have w4:=gQ (n:=(x.m-m)*r.s) (by omega);have w5:=gQ (n:=(x.m-m)*r.l) (by omega);have w6:=gQ (n:=x.h-m*r.v-(x.m-m)*r.l) (by omega);have w7:=gQ (n:=x.m*r.s) (by omega);have w8:=gQ (n:=x.m*r.l) (by omega);have w9:=gQ (n:=x.h-x.m*r.l) (by omega);have v1:=gQ (n:=x.s-min x.s (x.m*r.s)) (by omega);have v2:=gQ (n:=x.s-min x.s ((x.m-m)*r.s)) (by omega);have v3:=gQ (n:=x.s) (by omega);have v4:min x.s 0=0:=by omega
 by_cases c1:m=0
 ·subst c1;by_cases c2:0<x.m
  ·simp[-length_flatMap,-map_take,hF,w7,w8,w9,v1,c2]
  ·simp[-length_flatMap,-map_take,hF,w7,w8,w9,v1,c2]
 ·by_cases c2:m=x.m
  ·subst c2;simp[-length_flatMap,-map_take,hF,c1,v3,v4]
  ·have c3:0<x.m-m:=by omega
   have c4:m<x.m:=by omega
   simp[-length_flatMap,-map_take,hF,c1,c2,c3,c4,w1,w2,w3,w4,w5,w6,v2]
theorem axT{t:List Rw}(ht:lB t=true){i:Nat}{r:Rw}(h:t[i]?=some r):(0≤r.l∧r.l<r.v∧r.v≤4000)∧(0≤r.s∧r.s≤2000):=by
 simp only[lB,af]at ht;have:=ki.1 ht.2.1 r (an h);simp only[Rw.alone,af,bf,aA]at this;obtain⟨_,_,h3,h4,h5,h6⟩:=this;exact⟨⟨h3.1,h5,h6⟩,h4⟩
theorem aqa{t:List Rw}(ht:lB t=true){i:Nat}{r:Rw}(hi:t[i]?=some r){x:Ae}(hx:x.valid=true):
  bw T (.call false ru [.aK t.length (t.flatMap Rw.enc),.int .i64 i,.agg x.enc] σ)=some (.val (.ez [.agg (parts r x),.int .i64 0]) σ):=by
 refine aD Gu Gz rfl ?_;have hl:t.length≤20:=by
  simp only[lB,af]at ht;have:=bf.1 ht.1;omega
 have hil:i<t.length:=(aF.1 hi).1;have h1:=fun σ=>GH (σ:=σ) (t:=t) (by omega)
 have h2:=fun σ=>ar5 (σ:=σ) (t:=t) (n:=i) (by omega)
 have h3:=fun σ=>Ml (σ:=σ) (x:=x)
 have h4:=fun σ=>azt (σ:=σ) hi
 obtain⟨r1,r2⟩:=axT ht hi;have h5:=fun σ=>azq (σ:=σ) r1 r2 hx
 have hin:cV i 0 ((t.length:Int)-1)=true:=bf.2 (by omega);rw[hin]at h2;rw[hx]at h3;rw[ht]at h1;simp only[Ae.enc,Rw.enc]at h3 h4 h5;have hp:(parts r x).length=10:=rfl;have hp2:(parts r x).take 10=parts r x:=rfl;have hpc:D.bD (parts r x)=true:=by simp[parts]
 generalize parts r x=P at *
 simp[-length_flatMap,-map_take,h1,h2,h3,h4,h5,hp,hp2];rw[lh (by simp[D.clean,hpc]) (by omega)];exact⟨_,rfl⟩
structure Yv(b:cC)(y:List Rock.aG):Prop where
 len:y.length=b.av.length
 ok:∀o∈y,(0≤o.m∧o.m≤1000000)∧(0≤o.h∧o.h≤10000000000)∧(0≤o.k∧o.k≤1000000000000)
theorem Yv.of{b:cC}{s:List Rock.aG}{aR:List Int}(h:Bv b)(hs:Sv b s)(hr:Rv b aR):Yv b (eE b s aR):=by
 refine⟨by simp[eE,hr.len],?_⟩;intro o ho;simp only[eE,bU]at ho;obtain⟨⟨w,r⟩,hm,rfl⟩:=ho;have hw:=NT h w (List.of_mem_zip hm).1;have hb:=hr.ok r (List.of_mem_zip hm).2;simp only[sC];split
 ·simp
 ·obtain⟨_,h1,h2,h3⟩:=hs.at (i:=w.b.toNat) (by omega);generalize bS s w.b.toNat=x at *
  have h8:x.m.tdiv 8=x.m / 8:=bC (by omega);have hq:0≤min r (x.m.tdiv 8)∧min r (x.m.tdiv 8)≤x.m:=by omega
  exact⟨⟨hq.1,by simp only[Rock.aG.out];omega⟩,Pz h1.1 h2 hq,Pz h1.1 h3 hq⟩
theorem apV{b:cC}{m:cX}{s:List Rock.aG}{aR:List Int}{s' y:List Rock.aG}(h:Bv b)(hs:Sv b s)(hr:Rv b aR)(ht:tick b m s aR=some (s',y)):Sv b s'∧Yv b y:=by
 refine⟨Sv.next h ht,?_⟩;unfold tick at ht;split at ht
 ·simp only[ae,au]at ht;rw[← ht.2];exact Yv.of h hs hr
 ·cases ht
structure S9(b:cC)(n:Nat)(ss ys:List (List Rock.aG)):Prop where
 sl:ss.length=n+1
 yl:ys.length=n
 sv:∀s∈ss,Sv b s
 yv:∀y∈ys,Yv b y
theorem S9.from{b:cC}{m:cX}(h:Fv b m):∀(aC:List (List Int)) (n:Nat) (ss ys:List (List Rock.aG)) (s:List Rock.aG) {ss' ys':List (List Rock.aG)},(∀r∈aC,Rv b r)→S9 b n ss ys→Sv b s→wE b m ss ys s aC=some (ss',ys')→S9 b (n+aC.length) ss' ys'
 |[],n,ss,ys,s,ss',ys',hr,h1,h2,he=>by
  simp only[wE,ae,au]at he;obtain⟨rfl,rfl⟩:=he;exact h1
 |r::aC,n,ss,ys,s,ss',ys',hr,h1,h2,he=>by
  simp only[wE]at he;split at he
  ·rename_i s' y ht;obtain⟨g1,g2⟩:=apV h.bv h2 (hr r (List.mem_cons_self ..)) ht;have:=S9.from h aC (n+1) _ _ _ (fun x hx=>hr x (List.mem_cons_of_mem _ hx)) (⟨by simp[h1.sl],by simp[h1.yl],by
    intro x hx;rcases bz.1 hx with hx | hx
    ·exact h1.sv x hx
    ·rw[List.mem_singleton.1 hx];exact g1,by
    intro x hx;rcases bz.1 hx with hx | hx
    ·exact h1.yv x hx
    ·rw[List.mem_singleton.1 hx];exact g2⟩:S9 b (n+1) (ss++[s']) (ys++[y])) g1 he
   rw[show n+(r::aC).length=n+1+aC.length by simp;omega];exact this
  ·cases he
theorem S9.of{b:cC}{m:cX}{aC:List (List Int)}{ss ys:List (List Rock.aG)}(h:Fv b m)(hr:∀r∈aC,Rv b r)(he:Rock.run b m aC=some (ss,ys)):S9 b aC.length ss ys:=by
 have:=S9.from h aC 0 _ _ _ hr (⟨rfl,rfl,by simpa using Sv.first h,by simp⟩:S9 b 0 [dX b m] []) (Sv.first h) he;simpa using this
theorem agP{l:List cX}{j:Nat}{m:cX}(h:l[j]?=some m):((l.flatMap cX.enc).drop (j*2)).take 2=[.str m.name,.aK m.bg.length (m.bg.flatMap aU)] :=
 bQ (f:=cX.enc) (w:=2) (fun _=>rfl) h
def aoC(b:cC)(m:cX)(i:Nat):Bool:=cV (wz b m 0 i) 1000 100000 && (cV (wz b m 1 i) 0 1000 && (cV (wz b m 2 i) 0 3000 && cV (wz b m 3 i) 0 1000))
def TP(b:cC)(m:cX)(i:Nat):Nat→Bool
 |0=>true
 |k+1=>aoC b m i && TP b m (i+1) k
theorem Pd{b:cC}{m:cX}:∀{k i:Nat},TP b m i k=true↔∀j,i≤j→j<i+k→aoC b m j=true
 |0,i=>by simp[TP];omega
 |k+1,i=>by
  rw[TP,af,Pd];constructor
  ·intro⟨h1,h2⟩ j h3 h4;by_cases hj:j=i
   ·subst hj;exact h1
   ·exact h2 j (by omega) (by omega)
  ·intro h;exact⟨h i (by omega) (by omega),fun j h3 h4=>h j (by omega) (by omega)⟩
theorem Vp{b:cC}{m:cX}(h:Bv b):gX b.f [m]=0↔b.f.model m=0:=by
 simp only[gX,h.fv,if_true,fT.az,fT.each];have h1:cV (([m]:List cX).length:Nat) 1 40=true:=by simp[cV]
 rw[if_pos h1];by_cases hc:b.f.model m=0
 ·simp[hc]
 ·simp[hc]
theorem agw{b:cC}{m:cX}(h:Bv b):fits b m=(decide (b.f.model m=0) && TP b m 0 b.n):=by
 by_cases hc:b.f.model m=0
 ·have hm:=Mv.of h ((Vp h).2 hc);have hcm:=(Vp h).2 hc;have key:∀{k:Nat} {lo hi:Int},k<4→(gW (xi b m k) (fun n=>cV n lo hi)=true↔∀i,i<b.n→cV (wz b m k i) lo hi=true):=by
   intro k lo hi hk;rw[ki];constructor
   ·intro ha i hi';exact ha _ (an (y9 hm hk hi'))
   ·intro ha x hx;obtain⟨i,hi'⟩:=gU hx;have hlt:i<b.n:=by have:=(aF.1 hi').1;rwa[Pp hm hk]at this
    rw[y9 hm hk hlt]at hi';cases hi';exact ha i hlt
  rw[Bool.eq_iff_iff];simp only[fits,hcm,hc,decide_true,Bool.true_and,af,Pd,aoC];rw[key (by decide),key (by decide),key (by decide),key (by decide)];constructor
  ·intro⟨h1,h2,h3,h4⟩ j _ hj;exact⟨h1 j (by omega),h2 j (by omega),h3 j (by omega),h4 j (by omega)⟩
  ·intro hh;exact⟨fun i hi=>(hh i (by omega) (by omega)).1,fun i hi=>(hh i (by omega) (by omega)).2.1,fun i hi=>(hh i (by omega) (by omega)).2.2.1,fun i hi=>(hh i (by omega) (by omega)).2.2.2⟩
 ·have hcm:¬gX b.f [m]=0:=fun hh=>hc ((Vp h).1 hh)
  simp[fits,hc,hcm]
def ao9(b:cC)(l:List cX):Int:=if cV l.length 1 40 then(if b.f.az l=0 then(if gW l (fits b)then 0 else 1)else 1)else 3
def asL(b:cC)(l:List cX)(aC:List (List Int)):Bool:=b.valid && (decide (l.length≤4) && (decide (ao9 b l=0) && (decide (aC.length≤6) && decide (vU b aC=0))))
theorem Vq(l:List cX):D.bD (l.flatMap cX.enc)=true:=ir (fun x=>by simp[D.clean,bA]) l
structure Ok(b:cC)(l:List cX)(aC:List (List Int)):Prop where
 bv:Bv b
 valid:b.valid=true
 len:1≤l.length∧l.length≤40
 az:b.f.az l=0
 fit:∀m∈l,fits b m=true
 fv:∀m∈l,Fv b m
 short:∀m∈l,m.name.length≤1000000000∧m.bg.length≤384
 pl:vU b aC=0
 aik:aC.length≤200
 aR:∀r∈aC,Rv b r
theorem axo{b:cC}{m:cX}(h:Bv b)(hf:fits b m=true):m.name.length≤16:=by
 rw[agw h,af,aA]at hf;have hm:=hf.1;unfold fT.model at hm;split at hm
 ·rename_i hn;simp only[named,af]at hn;have:=bf.1 hn.2;omega
 ·cases hm
theorem Ok.of{b:cC}{l:List cX}{aC:List (List Int)}(h:asL b l aC=true):Ok b l aC:=by
 simp only[asL,af,aA]at h;obtain⟨h1,h2,h3,h4,h5⟩:=h;have hb:=Bv.of h1;unfold ao9 at h3;split at h3
 ·rename_i hi;split at h3
  ·rename_i hm;split at h3
   ·rename_i hf;have hfit:∀m∈l,fits b m=true:=ki.1 hf;have hfv:∀m∈l,Fv b m:=fun m hm=>Fv.of (by simp[Bd,h1,hfit m hm])
    exact⟨hb,h1,⟨by have:=bf.1 hi;omega,by omega⟩,hm,hfit,hfv,fun m hm=>⟨by have:=axo hb (hfit m hm);omega,(hfv m hm).toMv.le.2⟩,h5,by omega,(Cz h5).2⟩
   ·cases h3
  ·cases h3
 ·cases h3
theorem Ok.check{b:cC}{l:List cX}{aC:List (List Int)}(h:Ok b l aC):gX b.f l=0:=by
 simp[gX,h.bv.fv,h.az]
theorem ai5{b:cC}{m:cX}(h:Bv b)(hn:m.name.length≤1000000000)(hl:m.bg.length≤1000000000):bw T (.call false pr [.agg [.str m.name,.aK m.bg.length (m.bg.flatMap aU)],.bE [.int .i64 b.f.x,.int .i64 b.f.y,.int .i64 b.f.z,.int .i64 b.f.k,.aK b.cf.length (b.cf.flatMap Rw.enc),.int .i64 b.bJ,.int .i64 b.lift,.int .i64 b.deep,.aK b.av.length (b.av.flatMap bH.enc)]] σ)=some (.val (.bool (fits b m)) σ):=by
 refine aD MC Ng rfl ?_;have hC:=fun σ=>U4 (σ:=σ) (m:=m) h hn hl
 simp[-length_flatMap,-map_take,hC,cM,bu,bA]
theorem Va{b:cC}{l:List cX}(h:Bv b)(hs:∀m∈l,m.name.length≤1000000000∧m.bg.length≤1000000000)(hl:l.length≤1000000000):
  bw T (.call false iT [.aK l.length (l.flatMap cX.enc),.fn pr [] [.bE [.int .i64 b.f.x,.int .i64 b.f.y,.int .i64 b.f.z,.int .i64 b.f.k,.aK b.cf.length (b.cf.flatMap Rw.enc),.int .i64 b.bJ,.int .i64 b.lift,.int .i64 b.deep,.aK b.av.length (b.av.flatMap bH.enc)]]] σ)=some (.val (.bool (gW l (fits b))) σ) :=
 Ca (yU 2 cX.enc (fun _=>rfl)) (f:=iT) (g:=kf) (h:=eH) (i:=fQ) (l:=l) (p:=fits b) rfl rfl rfl rfl (by omega) (rE.fn fun x hx σ=>ai5 h (hs x hx).1 (hs x hx).2) rfl
theorem aqu{b:cC}{l:List cX}{aC:List (List Int)}(h:Ok b l aC):
  bw T (.call false vk [.agg [.int .i64 b.f.x,.int .i64 b.f.y,.int .i64 b.f.z,.int .i64 b.f.k,.aK b.cf.length (b.cf.flatMap Rw.enc),.int .i64 b.bJ,.int .i64 b.lift,.int .i64 b.deep,.aK b.av.length (b.av.flatMap bH.enc)],.aK l.length (l.flatMap cX.enc),.aK aC.length (aC.flatMap LS)] σ)=some (.val (.int .i64 0) σ):=by
 refine aD PY Qq rfl ?_;have hs:∀m∈l,m.name.length≤1000000000∧m.bg.length≤1000000000:=fun m hm=>⟨(h.short m hm).1,by have:=(h.short m hm).2;omega⟩
 have hl:=h.len;have htab:=h.bv.cf;have ht:b.cf.length≤1000000000:=by
  simp only[lB,af]at htab;have:=bf.1 htab.1;omega
 have h1:=fun σ=>DF (σ:=σ) (b:=b) ht (by have:=h.bv.av;omega)
 have h2:=fun σ=>Gs (σ:=σ) (f:=b.f) (l:=l) hs (by omega)
 have h3:=fun σ=>Va (σ:=σ) (l:=l) h.bv hs (by omega)
 have h4:=fun σ=>ai3 (σ:=σ) (b:=b) (aC:=aC) (by have:=h.aik;omega) (fun r hr=>by have:=(h.aR r hr).len;have:=h.bv.av;omega)
 have hi:cV l.length 1 40=true:=bf.2 (by omega);have ha:gW l (fits b)=true:=ki.2 h.fit;rw[h.valid]at h1;rw[h.check]at h2;rw[ha]at h3;rw[h.pl]at h4;simp[-length_flatMap,-map_take,h1,h2,h3,h4,dN,hi,cM,bu,bA]
abbrev RunT:=List (List Rock.aG)×List (List Rock.aG)
def Ia(r:RunT):List D:=[.aK r.1.length (r.1.flatMap zX),.aK r.2.length (r.2.flatMap zX)]
theorem apB(l:List RunT):(l.flatMap Ia).length=l.length*2:=bV (f:=Ia) (w:=2) (fun _=>rfl) l
def zj(b:cC)(aC:List (List Int)):List cX→Option (List RunT)
 |[]=>some []
 |m::l=>match Rock.run b m aC with
  |some r=>(zj b aC l).map (r :: ·)
  |none=>none
def Uw(n:Nat)(acc:List RunT)(σ:SK)(r:Option (List RunT))(x:Abs.Exit)(e:Env)(σ':SK):Prop:=match r with
 |some rs=>x=.exit 0∧get e 6=.sl σ.length 0 n 0 n 2∧σ'=[.cells n ((acc++rs).flatMap Ia)]::σ
 |none=>x=.fU (.vn 262 (.agg []))∧∃bx,σ'=bx::σ
theorem Vg{b:cC}{l:List cX}{aC:List (List Int)}(h:Ok b l aC):∀(k i:Nat) (acc:List RunT),i+k=l.length→acc.length=i →
  WL T [2,3,6,9,10,11] false vb [(2,.aK aC.length (aC.flatMap LS)),(3,.bE [.int .i64 b.f.x,.int .i64 b.f.y,.int .i64 b.f.z,.int .i64 b.f.k,.aK b.cf.length (b.cf.flatMap Rw.enc),.int .i64 b.bJ,.int .i64 b.lift,.int .i64 b.deep,.aK b.av.length (b.av.flatMap bH.enc)]),(6,.sl σ.length 0 i 0 i 2),(9,.aK l.length (l.flatMap cX.enc)),(10,.int .i64 l.length),(11,.int .i64 i)] ([.cells i (acc.flatMap Ia)]::σ)
   (Uw l.length acc σ (zj b aC (l.drop i)))
 |0,i,acc,hi,ha=>by
  refine aM Eo ?_;obtain rfl:i=l.length:=by omega
  have h2:l.drop l.length=[]:=aJ (by omega);simp[-length_flatMap,-map_take,h2,zj,Uw]
 |k+1,i,acc,hi,ha=>by
  refine aM Eo ?_;have h1:i<l.length:=by omega
  obtain⟨m,hm⟩:=gE h1;have hlen:=h.len;have h2:=agP hm;have h4:=fK h1 (by omega);have h5:=dG hm;have hmem:=an hm;have a4:=apB acc;rw[ha]at a4;have a6:(acc.flatMap Ia).take (i*2)=acc.flatMap Ia:=ar (by omega);have h7:(i+1)*48≤room:=by unfold room;omega
  have hp:aC.length≤200:=by have:=h.aik;omega
  rw[h5,zj];cases hr:Rock.run b m aC with
  |none =>
   have hC:=fun σ=>af6 (σ:=σ) (h.fv m hmem) hp h.aR hr
   simp[-length_flatMap,-map_take,h1,h2,h4,hC,Uw,cM,bu,bA]
  |some r =>
   obtain⟨ss,ys⟩:=r;have hC:=fun σ hσ=>af7 (σ:=σ) (h.fv m hmem) hp h.aR hσ hr
   have ih:=Vg h k (i+1) (acc++[(ss,ys)]) (by omega) (by simp[ha]);simp[-length_flatMap,-map_take,h1,h2,h4,hC,a4,a6,h7,cM,bu,bA,D.clean,O5];refine WL.to ih (by simp) (by simp[Ia]) fun x e σ' hh=>?_
   cases hq:zj b aC (l.drop (i+1))with
   |none=>rw[hq]at hh;simpa[Uw]using hh
   |some rs=>rw[hq]at hh;simpa[Uw]using hh
theorem ajb{b:cC}{l:List cX}{aC:List (List Int)}(h:Ok b l aC)(hσ:σ≠[]){rs:List RunT}(hr:zj b aC l=some rs)(hl:rs.length=l.length):
  bw T (.call false um [.agg [.int .i64 b.f.x,.int .i64 b.f.y,.int .i64 b.f.z,.int .i64 b.f.k,.aK b.cf.length (b.cf.flatMap Rw.enc),.int .i64 b.bJ,.int .i64 b.lift,.int .i64 b.deep,.aK b.av.length (b.av.flatMap bH.enc)],.aK l.length (l.flatMap cX.enc),.aK aC.length (aC.flatMap LS)] σ)=some (.val (.aK rs.length (rs.flatMap Ia)) σ):=by
 refine aD KZ K5 rfl ?_;simp[-length_flatMap,-map_take,cM,bu,bA];refine WL.to (Vg (σ:=σ) h l.length 0 [] (by omega) rfl) (by simp) (by simp) ?_;rw[aS,hr];rintro x e σ' ⟨rfl,g6,rfl⟩;simp[-length_flatMap,-map_take,g6];rw[← hl,zL (f:=Ia) (by decide) (fun _=>rfl) (fun x=>by simp[Ia,D.clean,O5]) hσ (by simp)];simp
theorem aja{b:cC}{l:List cX}{aC:List (List Int)}(h:Ok b l aC)(hr:zj b aC l=none):
  bw T (.call false um [.agg [.int .i64 b.f.x,.int .i64 b.f.y,.int .i64 b.f.z,.int .i64 b.f.k,.aK b.cf.length (b.cf.flatMap Rw.enc),.int .i64 b.bJ,.int .i64 b.lift,.int .i64 b.deep,.aK b.av.length (b.av.flatMap bH.enc)],.aK l.length (l.flatMap cX.enc),.aK aC.length (aC.flatMap LS)] σ)=some (.fU (.vn 262 (.agg [])) σ):=by
 refine eg KZ K5 rfl ?_;simp[-length_flatMap,-map_take,cM,bu,bA];refine WL.to (Vg (σ:=σ) h l.length 0 [] (by omega) rfl) (by simp) (by simp) ?_;rw[aS,hr];rintro x e σ' ⟨rfl,bx,rfl⟩;simp[D.clean]
theorem PD{b:cC}{aC:List (List Int)}:∀{l:List cX} {rs:List RunT},zj b aC l=some rs→rs.length=l.length∧∀(i:Nat) m,l[i]?=some m→∃r,rs[i]?=some r∧Rock.run b m aC=some r
 |[],rs,h=>by simp only[zj,ae]at h;subst h;simp
 |m::l,rs,h=>by
  simp only[zj]at h;cases hr:Rock.run b m aC with
  |none=>rw[hr]at h;cases h
  |some r =>
   rw[hr]at h;simp only[ad]at h;obtain⟨rs',h1,rfl⟩:=h;obtain⟨g1,g2⟩:=PD h1;refine⟨by simp[g1],?_⟩;intro i m' hm';cases i with
   |zero=>simp only[cF,ae]at hm';subst hm';exact⟨r,rfl,hr⟩
   |succ i=>simpa using g2 i m' (by simpa using hm')
theorem aqD{x:Rock.aG}:bw T (.call false lj [.agg x.enc] σ)=some (.val (.int .i64 x.m) σ):=by
 refine aD Iq IZ rfl ?_;simp[-length_flatMap,-map_take]
theorem aji{x:Rock.aG}:bw T (.call false jY [.agg x.enc] σ)=some (.val (.int .i64 x.k) σ):=by
 refine aD GV HM rfl ?_;simp[-length_flatMap,-map_take]
def rowAt(l:List (List Rock.aG))(t:Nat):List Rock.aG:=(l[t]?).getD []
structure Rs(b:cC)(l:List cX)(n:Nat)(rs:List RunT):Prop where
 len:rs.length=l.length
 ne:1≤l.length∧l.length≤40
 n6:n≤200
 av:b.av.length≤8
 bn:1≤b.n∧b.n≤64
 all:∀r∈rs,S9 b n r.1 r.2
 fv:∀m∈l,Fv b m
theorem apv{b:cC}{n:Nat}{r:RunT}(h:S9 b n r.1 r.2){t:Nat}(ht:t<n):r.2[t]?=some (rowAt r.2 t)∧Yv b (rowAt r.2 t):=by
 have h1:t<r.2.length:=by rw[h.yl];exact ht
 have h2:r.2[t]?=some r.2[t]:=aP h1;have h3:rowAt r.2 t=r.2[t]:=by simp[rowAt,h2]
 rw[h3];exact⟨h2,h.yv _ (List.getElem_mem h1)⟩
theorem asG{b:cC}{n:Nat}{r:RunT}(h:S9 b n r.1 r.2){t:Nat}(ht:t≤n):r.1[t]?=some (rowAt r.1 t)∧Sv b (rowAt r.1 t):=by
 have h1:t<r.1.length:=by rw[h.sl];omega
 have h2:r.1[t]?=some r.1[t]:=aP h1;have h3:rowAt r.1 t=r.1[t]:=by simp[rowAt,h2]
 rw[h3];exact⟨h2,h.sv _ (List.getElem_mem h1)⟩
theorem asT{b:cC}{y:List Rock.aG}(h:Yv b y){w:Nat}(hw:w<b.av.length):y[w]?=some (bS y w):=by
 have h1:w<y.length:=by rw[h.len];exact hw
 simp[bS,aP h1]
theorem apL{l:List (List Rock.aG)}{t:Nat}{s:List Rock.aG}(h:l[t]?=some s):((l.flatMap zX).drop t).take 1=[.aK s.length (s.flatMap aG.enc)]:=by
 have:=bQ (f:=zX) (w:=1) (fun _=>rfl) h;simpa[zX]using this
theorem arI{l:List RunT}{j:Nat}{r:RunT}(h:l[j]?=some r):((l.flatMap Ia).drop (j*2)).take 2=[.aK r.1.length (r.1.flatMap zX),.aK r.2.length (r.2.flatMap zX)] :=
 bQ (f:=Ia) (w:=2) (fun _=>rfl) h
end Go.Proofs.YtfgljaglidhjiaaGreatDoor
namespace Go.Rock
open List(length_flatMap map_take)
open Go Go.Abs
def three:List Rw:=[⟨100,101,419,2676,150⟩,⟨150,476,632,2746,300⟩,⟨200,1555,852,2793,600⟩]
end Go.Rock
namespace Go.Proofs.YtfgljaglidhjiaaGreatDoor
open List(length_flatMap map_take)
open Go Go.Abs Go.Rock
variable {σ:SK}
theorem Rs.of{b:cC}{l:List cX}{aC:List (List Int)}(h:Ok b l aC){rs:List RunT}(hr:zj b aC l=some rs):Rs b l aC.length rs:=by
 obtain⟨h1,h2⟩:=PD hr;refine⟨h1,h.len,h.aik,h.bv.av,h.bv.n,?_,h.fv⟩;intro r hmem;obtain⟨i,hi⟩:=gU hmem;have hlt:i<l.length:=by rw[← h1];exact(aF.1 hi).1
 obtain⟨m,hm⟩:=gE hlt;obtain⟨r',h3,h4⟩:=h2 i m hm;rw[hi]at h3;cases h3;exact S9.of (h.fv m (an hm)) h.aR h4
theorem aoG{l u n w:Nat}{k:Int}{S S':SK}{cs:List D}{i:Nat}(h:cI l 15 (.sl u i n 0 n w) S=(.aK n cs,S')):cI l 16 (.ez [.sl u i n 0 n w,.int .i64 k]) S=(.ez [.aK n cs,.int .i64 k],S'):=by
 rw[E7 (by rfl) (by omega)];simp only[yq,Br];rw[h,lh (by rfl) (by omega)]
theorem TQ(l:List Nat):(l.flatMap fun _=>[D.aK 0 []])=List.replicate l.length (.aK 0 []):=by
 induction l with
 |nil=>rfl
 |cons a l ih=>rw[ba,ih];rfl
end Go.Proofs.YtfgljaglidhjiaaGreatDoor
namespace Go.Rock
open List(length_flatMap map_take)
open Go Go.Abs
structure zn where
 name:List UInt8
 kind:Int
 bl:List Int
 wt:List Int
 lo:Int
 hi:Int
structure yc where
 tick:Int
 sn:Int
 idx:Int
 lo:Int
 hi:Int
@[simp] theorem zn.eta(p:zn):zn.mk p.name p.kind p.bl p.wt p.lo p.hi=p:=rfl
@[simp] theorem yc.eta(p:yc):yc.mk p.tick p.sn p.idx p.lo p.hi=p:=rfl
@[simp] def zn.enc(m:zn):List D:=[.str m.name,.int .i64 m.kind,.aK m.bl.length (m.bl.flatMap aU),.aK m.wt.length (m.wt.flatMap aU),.int .i64 m.lo,.int .i64 m.hi]
@[simp] def yc.enc(x:yc):List D:=[.int .i64 x.tick,.int .u8 x.sn,.int .i64 x.idx,.int .i64 x.lo,.int .i64 x.hi]
def ET(n:Int):Int→List Int→List Int→Bool
 |last,b::bl,w::wt=>decide (last<b) && (decide (b<n) && (cV w (-1000) 1000 && ET n b bl wt))
 |_,_,_=>true
def NS(f:fT)(kind:Int)(bl wt:List Int):Bool:=cV kind 0 (f.k-1) && (decide (1≤bl.length) && (decide (bl.length=wt.length) && ET f.size (-1) bl wt))
def Ni(lo hi:Int):Bool:=decide (-10000000000≤lo) && (decide (lo≤hi) && decide (hi≤10000000000))
def fT.measure(f:fT)(m:zn):Int:=if named m.name then(if NS f m.kind m.bl m.wt && Ni m.lo m.hi then 0 else 1)else 5
def fT.I4(f:fT)(met:List (List UInt8)):List zn→Int
 |[]=>0
 |m::l=>if f.measure m=0 then(if met.contains m.name then 6 else f.I4 (met++[m.name]) l)else f.measure m
def fT.Jl(f:fT)(l:List zn):Int:=if 12<l.length then 3 else f.I4 [] l
structure Mev(f:fT)(x:zn):Prop where
 name:x.name.length≤16
 kind:0≤x.kind∧x.kind<f.k
 ne:1≤x.bl.length
 len:x.bl.length=x.wt.length
 aBM:ET f.size (-1) x.bl x.wt=true
 ends : -10000000000≤x.lo∧x.lo≤x.hi∧x.hi≤10000000000
theorem Mev.of{f:fT}{x:zn}(h:f.measure x=0):Mev f x:=by
 unfold fT.measure at h;split at h
 ·rename_i h1;split at h
  ·rename_i h2;simp only[NS,Ni,af,aA,bf]at h2;obtain⟨⟨h3,h4,h5,h6⟩,h7,h8,h9⟩:=h2;simp only[named,af]at h1;have:=bf.1 h1.2;exact⟨by omega,by omega,h4,h5,h6,h7,h8,h9⟩
  ·cases h
 ·cases h
theorem PK{n:Int}:∀{bl wt:List Int} {last:Int},bl.length=wt.length→ET n last bl wt=true→last<n→(bl.length:Int)≤n-1-last
 |[],wt,last,hl,h,hn=>by simp;omega
 |b::bl,[],last,hl,h,hn=>by simp at hl
 |b::bl,w::wt,last,hl,h,hn=>by
  simp only[ET,af,aA]at h;obtain⟨h1,h2,h3,h4⟩:=h;have:=PK (n:=n) (bl:=bl) (wt:=wt) (last:=b) (by simpa using hl) h4 h2;simp only[aO];omega
theorem UI{n:Int}:∀{bl wt:List Int} {last:Int} {i:Nat} {b w:Int},ET n last bl wt=true→bl[i]?=some b→wt[i]?=some w→last<b∧b<n∧(-1000≤w∧w≤1000)
 |[],wt,last,i,b,w,h,hb,hw=>by simp at hb
 |b'::bl,[],last,i,b,w,h,hb,hw=>by simp at hw
 |b'::bl,w'::wt,last,i,b,w,h,hb,hw=>by
  simp only[ET,af,aA]at h;obtain⟨h1,h2,h3,h4⟩:=h;cases i with
  |zero =>
   simp only[cF,ae]at hb hw;subst hb hw;exact⟨h1,h2,bf.1 h3⟩
  |succ i =>
   have:=UI h4 (by simpa using hb) (by simpa using hw);omega
def apR(bg:List Int)(off:Int):Int→List Int→List Int→Int
 |acc,b::bl,w::wt=>apR bg off (acc+w*(bg[(off+b).toNat]?).getD 0) bl wt
 |acc,_,_=>acc
def UQ(f:fT)(m:cX)(x:zn):Int:=apR m.bg (x.kind*f.size) 0 x.bl x.wt
def apa(lo hi s:Int):Int:=if hi<s then s-hi else if s<lo then s-lo else 0
def EL(lo hi s:Int):Int:=max 0 (s-hi)+min 0 (s-lo)
theorem afw{lo hi s:Int}(h:lo≤hi):EL lo hi s=apa lo hi s:=by
 unfold EL apa;split
 ·omega
 ·split<;>omega
def aG.KQ(y:aG):Int:=if y.m=0 then 0 else y.h.tdiv y.m
def aG.UJ(y:aG)(sn:Int):Int:=if sn=2 then y.m else if sn=3 then y.KQ else y.k
def xl(b:cC)(m:cX)(r:List (List aG)×List (List aG))(x:yc):Int :=
 if x.sn=1 then mf b m ((r.1[x.tick.toNat]?).getD []) x.idx.toNat else aG.UJ (bS ((r.2[x.tick.toNat-1]?).getD []) x.idx.toNat) x.sn
def xk(b:cC)(BG:Int)(x:yc):Int :=
 if !cV x.sn 1 4 || (decide (x.lo < -10000000000) || (decide (x.hi<x.lo) || decide (10000000000<x.hi)))then 1
 else if !cV x.tick (if x.sn=1 then 0 else 1) BG || !cV x.idx 0 ((if x.sn=1 then b.size else b.av.length)-1)then 2 else 0
def zh(b:cC)(BG:Int)(l:List yc):Int:=if 40<l.length then 3 else cQ (xk b BG) l
structure Rdv(b:cC)(n:Nat)(x:yc):Prop where
 sn:1≤x.sn∧x.sn≤4
 ends : -10000000000≤x.lo∧x.lo≤x.hi∧x.hi≤10000000000
 p:x.sn=1→(0≤x.tick∧x.tick≤n)∧0≤x.idx∧x.idx<b.size
 y:x.sn≠1→(1≤x.tick∧x.tick≤n)∧0≤x.idx∧x.idx<b.av.length
theorem Rdv.of{b:cC}{n:Nat}{x:yc}(h:xk b n x=0):Rdv b n x:=by
 unfold xk at h;by_cases h3:x.sn=1
 ·rw[if_pos h3,if_pos h3]at h;split at h
  ·cases h
  ·rename_i h1;simp only[cn,aA,dU,not_or,Bool.not_eq_false,bf]at h1;split at h
   ·cases h
   ·rename_i h2;simp only[cn,dU,not_or,Bool.not_eq_false,bf]at h2;exact⟨h1.1,by omega,fun _=>by omega,fun h=>absurd h3 h⟩
 ·rw[if_neg h3,if_neg h3]at h;split at h
  ·cases h
  ·rename_i h1;simp only[cn,aA,dU,not_or,Bool.not_eq_false,bf]at h1;split at h
   ·cases h
   ·rename_i h2;simp only[cn,dU,not_or,Bool.not_eq_false,bf]at h2;exact⟨h1.1,by omega,fun h=>absurd h h3,fun _=>by omega⟩
end Go.Rock
namespace Go.Proofs.YtfgljaglidhjiaaGreatDoor
open List(length_flatMap map_take)
open Go Go.Abs Go.Rock
variable {σ:SK}
theorem OT{f:fT}(h:f.valid=true):bw T (.call false du [.agg [.int .i64 f.x,.int .i64 f.y,.int .i64 f.z,.int .i64 f.k]] σ)=some (.val (.int .i64 f.size) σ):=by
 obtain⟨h1,h2,h3,h4,h5⟩:=fT.ur.1 h;exact Mf h1 h2 h3
theorem ajv{f:fT}{bl wt:List Int}(hf:f.valid=true)(hl:bl.length≤9223372036854775807)(hw:bl.length=wt.length):∀(k i:Nat) (last:Int),i+k=bl.length →
  WL T [3,4,9,30,31,32] false mg [(3,.aK wt.length (wt.flatMap aU)),(4,.bE [.int .i64 f.x,.int .i64 f.y,.int .i64 f.z,.int .i64 f.k]),(9,.int .i64 last),(30,.aK bl.length (bl.flatMap aU)),(31,.int .i64 bl.length),(32,.int .i64 i)] σ
   (fun x e σ'=>σ'=σ∧if ET f.size last (bl.drop i) (wt.drop i)then x=.exit 0 else x=.ret∧get e 8=.bool false)
 |0,i,last,hi=>by
  refine aM uN ?_;have h1:¬i<bl.length:=by omega
  have h2:bl.drop i=[]:=aJ (by omega);simp[-length_flatMap,-map_take,h1,h2,ET]
 |k+1,i,last,hi=>by
  refine aM uN ?_;have h1:i<bl.length:=by omega
  have h1':i<wt.length:=by omega
  obtain⟨b,hb⟩:=gE h1;obtain⟨w,hw'⟩:∃r,wt[i]?=some r:=⟨_,aP h1'⟩;have h2:=rI hb;have h3:=rI hw';have h4:=fK h1 hl;have h5:=dG hb;have h6:=dG hw';have hB:=fun σ=>OT (σ:=σ) hf
  have ih:=ajv hf hl hw k (i+1) b (by omega);rw[h5,h6,ET];by_cases c1:b≤last
  ·simp[-length_flatMap,-map_take,h1,h1',h2,h3,h4,hB,gS,c1,show ¬last<b by omega]
  ·by_cases c2:f.size≤b
   ·simp[-length_flatMap,-map_take,h1,h1',h2,h3,h4,hB,gS,c1,c2,show last<b by omega,show ¬b<f.size by omega]
   ·cases c3:cV w (-1000) 1000
    ·simp[-length_flatMap,-map_take,h1,h1',h2,h3,h4,hB,gS,c1,c2,c3,show last<b by omega,show b<f.size by omega]
    ·simp[-length_flatMap,-map_take,h1,h1',h2,h3,h4,hB,gS,c1,c2,c3,show last<b by omega,show b<f.size by omega];exact WL.to ih (by simp) rfl fun x e σ hh=>by simpa[show last<b by omega,show b<f.size by omega]using hh
theorem ata{f:fT}{k:Int}{bl wt:List Int}(hf:f.valid=true)(hl:bl.length≤9223372036854775807)(hk:f.valid=true→True):
  bw T (.call false nv [.agg [.int .i64 f.x,.int .i64 f.y,.int .i64 f.z,.int .i64 f.k],.int .i64 k,.aK bl.length (bl.flatMap aU),.aK wt.length (wt.flatMap aU)] σ)=some (.val (.bool (NS f k bl wt)) σ):=by
 refine aD GK HC rfl ?_;obtain⟨q1,q2,q3,q4,q5⟩:=fT.ur.1 hf;have w1:=gQ (n:=f.k-1) (by omega);unfold NS;cases c1:cV k 0 (f.k-1)
 ·simp[-length_flatMap,-map_take,gS,w1,c1]
 by_cases c2:1≤bl.length
 rotate_left
 ·have:bl=[]:=cc.1 (by omega);subst this;simp[-length_flatMap,-map_take,gS,w1,c1]
 have c2':¬(bl.length:Int)<1:=by omega
 have c2'':¬bl=[]:=fun h=>by rw[h]at c2;simp at c2
 by_cases c3:bl.length=wt.length
 rotate_left
 ·simp[-length_flatMap,-map_take,gS,w1,c1,c2',c2'',c3,show ¬(bl.length:Int)=wt.length by omega]
 have c4:¬(wt.length:Int)<1:=by omega
 have c5:¬wt=[]:=fun h=>by rw[h]at c3;simp at c3;exact c2'' c3
 simp[-length_flatMap,-map_take,gS,w1,c1,c2,c2',c2'',c3,c4,c5];refine WL.to (ajv (σ:=[]::σ) hf hl c3 bl.length 0 (-1) (by omega)) (by simp[c3]) rfl ?_;rintro x e σ' ⟨rfl,h⟩;simp only[aS]at h;cases hc:ET f.size (-1) bl wt
 ·simp[hc]at h;simp[h]
 ·simp[hc]at h;simp[-length_flatMap,-map_take,h];omega
theorem aqf{lo hi:Int}:bw T (.call false nw [.agg [.int .i64 lo,.int .i64 hi]] σ)=some (.val (.bool (Ni lo hi)) σ):=by
 refine aD GL HD rfl ?_;unfold Ni;by_cases c1 : -10000000000≤lo
 ·by_cases c2:lo≤hi<;>simp[-length_flatMap,-map_take,c1,c2]
 ·simp[-length_flatMap,-map_take,c1]
theorem OY{f:fT}{m:zn}(hf:f.valid=true)(hn:m.name.length≤1000000000)(hl:m.bl.length≤9223372036854775807):
  bw T (.call false gn [.agg [.int .i64 f.x,.int .i64 f.y,.int .i64 f.z,.int .i64 f.k],.agg m.enc] σ)=some (.val (.int .i64 (f.measure m)) σ):=by
 refine aD C3 Ds rfl ?_;have h1:=fun σ=>LW (σ:=σ) hn
 have h2:=fun σ=>ata (σ:=σ) (k:=m.kind) (wt:=m.wt) hf hl (fun _=>trivial)
 unfold fT.measure;cases c1:named m.name
 ·simp[-length_flatMap,-map_take,h1,c1]
 cases c2:NS f m.kind m.bl m.wt
 ·simp[-length_flatMap,-map_take,h1,h2,c1,c2]
 cases c3:Ni m.lo m.hi<;>simp[-length_flatMap,-map_take,h1,h2,aqf,c1,c2,c3]
theorem azr{f:fT}{m:zn}(hf:f.valid=true)(hn:m.name.length≤1000000000)(hl:m.bl.length≤9223372036854775807):
  bw T (.call false dD [.agg m.enc,.bE [.int .i64 f.x,.int .i64 f.y,.int .i64 f.z,.int .i64 f.k]] σ)=some (.val (.ez [.str m.name,.int .i64 (f.measure m)]) σ):=by
 refine aD Af AD rfl ?_;have h:=fun σ=>OY (σ:=σ) hf hn hl
 simp only[zn.enc]at h ⊢;simp[-length_flatMap,-map_take,h]
theorem arn{l:List zn}{j:Nat}{m:zn}(h:l[j]?=some m):((l.flatMap zn.enc).drop (j*6)).take 6=m.enc :=
 bQ (f:=zn.enc) (w:=6) (fun _=>rfl) h
def afK(l:List zn):Prop:=∀m∈l,m.name.length≤1000000000∧m.bl.length≤9223372036854775807
theorem aga{f:fT}{l:List zn}(hf:f.valid=true)(hs:afK l)(hl:l.length≤1000000000):∀(k i:Nat) (met:List (List UInt8)),i+k=l.length →
  WL T [1,5,11,12,13] false fM [(1,.fn dD [] [.bE [.int .i64 f.x,.int .i64 f.y,.int .i64 f.z,.int .i64 f.k]]),(5,.nO σ.length 0),(11,.aK l.length (l.flatMap zn.enc)),(12,.int .i64 l.length),(13,.int .i64 i)] ([.cells 0 (Gp met)]::σ)
   (fun x e σ'=>∃s,σ'=s::σ∧if f.I4 met (l.drop i)=0 then x=.exit 0 else x=.ret∧get e 4=.int .i64 (f.I4 met (l.drop i)))
 |0,i,met,hi=>by
  refine aM oY ?_;have h1:¬i<l.length:=by omega
  have h2:l.drop i=[]:=aJ (by omega);simp[-length_flatMap,-map_take,h1,h2,fT.I4]
 |k+1,i,met,hi=>by
  refine aM oY ?_;have h1:i<l.length:=by omega
  obtain⟨m,hm⟩:=gE h1;have h2:=arn hm;have h4:=fK h1 (by omega);have h5:=dG hm;obtain⟨hs1,hs2⟩:=hs m (an hm);have hC:=fun σ=>azr (σ:=σ) hf hs1 hs2
  simp only[zn.enc]at h2 hC;rw[h5,fT.I4];by_cases hc1:f.measure m=0
  ·have hg:=asu (S:=[.cells 0 (Gp met)]::σ) (l:=σ.length) (i:=0) (met:=met) (k:=m.name) (by simp);cases hc2:met.contains m.name
   ·rw[hc2]at hg;have hp:=asv (S:=[.cells 0 (Gp met)]::σ) (l:=σ.length) (i:=0) (met:=met) (k:=m.name) (by simp) hc2;have ih:=aga hf hs hl k (i+1) (met++[m.name]) (by omega);simp at hp;have hc3:¬m.name∈met:=by simpa using hc2
    simp[-length_flatMap,-map_take,h1,h2,h4,hC,hc1,hg,hp,hc3];exact WL.to ih (by simp) (by simp) fun x e σ' hh=>by simpa[hc1]using hh
   ·rw[hc2]at hg;have hc3:m.name∈met:=by simpa using hc2
    simp[-length_flatMap,-map_take,h1,h2,h4,hC,hc1,hg,hc3]
  ·simp[-length_flatMap,-map_take,h1,h2,h4,hC,hc1]
theorem aqe{f:fT}{l:List zn}(hf:f.valid=true)(hs:afK l)(hl:l.length≤1000000000):
  bw T (.call false fu [.aK l.length (l.flatMap zn.enc),.fn dD [] [.bE [.int .i64 f.x,.int .i64 f.y,.int .i64 f.z,.int .i64 f.k]]] σ)=some (.val (.int .i64 (f.I4 [] l)) σ):=by
 refine aD yw yL rfl ?_;have hm:DE ([]::σ) .make []=some (.nO σ.length 0,[.cells 0 (Gp [])]::σ):=by simp[DE,Gp]
 simp[-length_flatMap,-map_take,hm];refine WL.to (aga (σ:=σ) hf hs hl l.length 0 [] (by omega)) (by simp) (by simp) ?_;rintro x e σ' ⟨s,rfl,h⟩;simp only[aS]at h;by_cases hc:f.I4 [] l=0
 ·rw[if_pos hc]at h;subst h;simp[-length_flatMap,-map_take,hc]
 ·rw[if_neg hc]at h;obtain⟨rfl,h⟩:=h;simp[h]
theorem U6{f:fT}{l:List zn}(hf:f.valid=true)(hs:afK l)(hl:l.length≤1000000000):
  bw T (.call false iO [.agg [.int .i64 f.x,.int .i64 f.y,.int .i64 f.z,.int .i64 f.k],.aK l.length (l.flatMap zn.enc)] σ)=some (.val (.int .i64 (f.Jl l)) σ):=by
 refine aD BN Ck rfl ?_;unfold fT.Jl;by_cases hc:12<l.length
 ·simp[-length_flatMap,-map_take,hc,show(12:Int)<l.length by omega]
 ·simp[-length_flatMap,-map_take,hc,show ¬(12:Int)<l.length by omega,aqe hf hs hl]
end Go.Proofs.YtfgljaglidhjiaaGreatDoor
