import Derived.Test.YtklfdfnoebnciaaGreatDoorTxt2
import Derived.Test.YtklfdfnoebnciaaGreatDoorTxt0
import Derived.Test.YtklfdfnoebnciaaGreatDoorTxt1
set_option linter.all false
namespace Go.Proofs.YtklfdfnoebnciaaGreatDoor
open List(length_flatMap map_take)
open Go Go.Abs Go.Rock Go.Book
variable {σ:SK}
theorem aaZ(l:List Rw):(l.flatMap Rw.enc).length=l.length*5:=b9 (f:=Rw.enc) (w:=5) (fun _=>rfl) l
theorem Lr{bp:D}(hb1:bp.calm=bp):∀(rs acc:List Rw),acc.length+rs.length≤1000000 →
  WL T [0,2,6] false jN [(0,bp),(2,.aE (rs.length*5) (rs.flatMap Rw.enc)),(6,.sl σ.length 0 acc.length 0 acc.length 5)] ([.cells acc.length (acc.flatMap Rw.enc)]::σ)
   (fun x e σ'=>x=.exit 0∧get e 0=bp∧get e 6=.sl σ.length 0 (acc++rs).length 0 (acc++rs).length 5∧σ'=[.cells (acc++rs).length ((acc++rs).flatMap Rw.enc)]::σ)
 |[],acc,h=>by
  refine aH jN.eq_1 ?_;simp[-length_flatMap,-map_take,hb1]
 |r::rs,acc,h=>by
  refine aH jN.eq_1 ?_;simp only[aD]at h;have e1:(rs.length+1)*5=rs.length*5+5:=by omega
  have q0:(0:Int)<(rs.length:Int)*5+5:=by omega
  have q1:(1:Int)<(rs.length:Int)*5+5:=by omega
  have q2:(2:Int)<(rs.length:Int)*5+5:=by omega
  have q3:(3:Int)<(rs.length:Int)*5+5:=by omega
  have q4:(4:Int)<(rs.length:Int)*5+5:=by omega
  have q5:(5:Int)≤(rs.length:Int)*5+5:=by omega
  have hroom:(acc.length+1)*40≤room:=by unfold room;omega
  have hl:=aaZ acc;have ht:(acc.flatMap Rw.enc).take (acc.length*5)=acc.flatMap Rw.enc:=ah (by omega);have hl2:=aaZ rs;have ht2:(rs.flatMap Rw.enc).take (rs.length*5)=rs.flatMap Rw.enc:=ah (by omega);simp[-length_flatMap,-map_take,hb1,e1,q0,q1,q2,q3,q4,q5,hroom,hl,ht];refine WL.to (Lr hb1 rs (acc++[r]) (by simp;omega)) (by simp[ht2]) (by simp) fun x e σ' hh=>?_
  simpa using hh
def Mu(b:Bk)(t:List Rw):Bk:={b with bG:={b.bG with cc:=t } }
def xn(b:Bk)(t:List Rw):Bk×Int:=if b.bG.cc=[]then(if j1 t=true then(Mu b t,0)else(b,1))else(b,8)
theorem abY{F:List Abs.aG}{b:Bk}{er:List Int}{nm:List UInt8}{t:List Rw}{b':Bk}{e:Int}(hl:t.length≤1000000)(hd:xn b t=(b',e))(he:e=0):
  lim T (.call false eV [.ref σ.length 6 0 0,.str nm,.aE (t.length*5) (t.flatMap Rw.enc)] (F::b.bk σ.length er::σ))=some (.val (.dQ []) (F::b'.bk σ.length er::σ)):=by
 refine fU u0 jz.eq_1 rfl (by simp) ?_;unfold xn at hd;split at hd
 case isFalse=>cases hd;cases he
 rename_i h0;split at hd
 case isFalse=>cases hd;cases he
 rename_i h3;cases hd;have hne:t≠[]:=by intro h;subst h;simp[j1,bT]at h3
 have hC:=fun σ=>yX (σ:=σ) (l:=t) (by omega)
 rw[h3]at hC;have hL:=Lr (σ:=F::b.bk σ.length er::σ) (bp:=.ref σ.length 6 0 0) rfl t [] (by simpa using hl);simp[-length_flatMap,-map_take,Bk.bk,Bk.cells,h0,nl,cl];refine WL.to hL (by simp) (by simp[Bk.bk,Bk.cells,h0,nl]) ?_;rintro x e σ' ⟨rfl,g0,g6,rfl⟩;have hcl:(D.aE t.length (t.flatMap Rw.enc)).clean=true:=by simp[D.clean,cq]
 have hfr:∀S:SK,S.length=σ.length+1+1→ck 0 16 (.sl (σ.length+1+1) 0 t.length 0 t.length 5) ([.cells t.length (t.flatMap Rw.enc)]::S)=(.aE t.length (t.flatMap Rw.enc),[.dead]::S):=by
  intro S hS;have:=zT (f:=Rw.enc) (w:=5) (fun _=>rfl) (fun _=>by simp[D.clean]) (l:=t) (j:=0) (v:=t.length) (bs:=[Abs.aG.cells t.length (t.flatMap Rw.enc)]) (σ:=S) (by intro h;subst h;simp at hS) (by simp);rw[hS]at this;simpa using this
 simp[-length_flatMap,-map_take,g0,g6,hfr,hC,og,hcl,Bk.bk,Bk.cells,h0,nl,hne,Mu];exact⟨rfl,rfl⟩
theorem ON{F:List Abs.aG}{b:Bk}{er:List Int}{nm:List UInt8}{t:List Rw}{b':Bk}{e:Int}(hl:t.length≤1000000)(hd:xn b t=(b',e))(he:e≠0):
  lim T (.call false eV [.ref σ.length 6 0 0,.str nm,.aE (t.length*5) (t.flatMap Rw.enc)] (F::b.bk σ.length er::σ))=some (.fx (rf e) (F::b.bk σ.length er::σ)):=by
 refine dJ u0 jz.eq_1 rfl ?_;have hM:=fun σ=>pq (σ:=σ) (e:=1) (by decide)
 have hrc:(D.tQ 90 (.agg [.int .i64 1])).clean=true:=rfl;unfold xn at hd;split at hd
 case isFalse h0 =>
  cases hd;have h0':((b.bG.cc.length:Int) == 0)=false:=by simpa using h0
  simp[-length_flatMap,-map_take,Bk.bk,Bk.cells,dZ h0,h0',dj,D.clean,rf]
 rename_i h0;split at hd
 case isTrue=>cases hd;exact absurd rfl he
 rename_i h3;cases hd;have h3':j1 t=false:=by simpa using h3
 have hC:=fun σ=>yX (σ:=σ) (l:=t) (by omega)
 rw[h3']at hC;have hL:=Lr (σ:=F::b.bk σ.length er::σ) (bp:=.ref σ.length 6 0 0) rfl t [] (by simpa using hl);simp[-length_flatMap,-map_take,Bk.bk,Bk.cells,h0,nl,cl];refine WL.to hL (by simp) (by simp[Bk.bk,Bk.cells,h0,nl]) ?_;rintro x e σ' ⟨rfl,g0,g6,rfl⟩;have hcl:(D.aE t.length (t.flatMap Rw.enc)).clean=true:=by simp[D.clean,cq]
 have hfr:∀S:SK,S.length=σ.length+1+1→ck 0 16 (.sl (σ.length+1+1) 0 t.length 0 t.length 5) ([.cells t.length (t.flatMap Rw.enc)]::S)=(.aE t.length (t.flatMap Rw.enc),[.dead]::S):=by
  intro S hS;have:=zT (f:=Rw.enc) (w:=5) (fun _=>rfl) (fun _=>by simp[D.clean]) (l:=t) (j:=0) (v:=t.length) (bs:=[Abs.aG.cells t.length (t.flatMap Rw.enc)]) (σ:=S) (by intro h;subst h;simp at hS) (by simp);rw[hS]at this;simpa using this
 simp[-length_flatMap,-map_take,g0,g6,hfr,hC,hM,hcl,Bk.bk,Bk.cells,h0,nl,rf,hrc]
@[simp] theorem aui{α:Type}{f:α→List D}{l:List α}:aaq (nl f l)=some (.int .i64 l.length):=by
 unfold nl;split
 ·rename_i h;subst h;rfl
 ·rfl
@[simp] theorem atE{α:Type}{f:α→List D}{l:List α}:(nl f l).strip=nl f l:=by unfold nl;split<;>rfl
theorem Jv{x:Trem.Ev}(hs:x.sp.length≤9223372036854775807):lim T (.call false gV [.aI,.aE 1 x.enc,.int .i64 0] σ)=some (.val (.dQ [.int .u8 0,.int .u8 0,.int .i64 (if x.ok then 0 else 1)]) σ):=by
 refine au wx nR.eq_1 rfl ?_;have hA:=fun σ=>@P7 σ [x] (by simp) (by simpa using hs)
 have hN:=fun σ=>all_nil (T:=T) (σ:=σ) (fv:=.fn ei [] []) (f:=de) (ag:=true) (w:=10) rfl rfl rfl rfl rfl rfl
 simp only[List.length_singleton,aQ,cg,cS,gw,jk,List.all_nil,Bool.and_true]at hA;have w0:Trem.bT 0 0 1000000=true:=by decide
 cases hr:x.ok
 ·rw[hr]at hA;simp only[Trem.Ev.enc]at hA ⊢;simp[-length_flatMap,-map_take,hA,hN]
 ·rw[hr]at hA;simp only[Trem.Ev.enc]at hA ⊢;simp[-length_flatMap,-map_take,hA,hN,cp,w0];refine aH gg.eq_1 ?_;simp[-length_flatMap,-map_take]
def spD(L:Nat)(acc:List Trem.wc):D:=.sl L 0 acc.length 0 acc.length 4
def spS(acc:List Trem.wc):List Abs.aG:=[.cells acc.length (acc.flatMap Trem.wc.enc)]
theorem Oo(l:List Trem.wc):(l.flatMap Trem.wc.enc).length=l.length*4:=b9 (f:=Trem.wc.enc) (w:=4) (fun _=>rfl) l
theorem Iz{bp:D}(hb1:bp.calm=bp){tk:Int}:∀(rs acc:List Trem.wc),acc.length+rs.length≤1000000 →
  WL T [0,2,6] false jL [(0,bp),(2,.aE (rs.length*4) (rs.flatMap Trem.wc.enc)),(6,.own 0 [.int .i64 tk,spD σ.length acc])] (spS acc::σ)
   (fun x e σ'=>x=.exit 0∧get e 0=bp∧get e 6=.own 0 [.int .i64 tk,spD σ.length (acc++rs)]∧get e 1000006=.undef∧σ'=spS (acc++rs)::σ)
 |[],acc,h=>by
  refine aH jL.eq_1 ?_;simp[-length_flatMap,-map_take,hb1]
 |r::rs,acc,h=>by
  refine aH jL.eq_1 ?_;simp only[aD]at h;have e1:(rs.length+1)*4=rs.length*4+4:=by omega
  have q0:(0:Int)<(rs.length:Int)*4+4:=by omega
  have q1:(1:Int)<(rs.length:Int)*4+4:=by omega
  have q2:(2:Int)<(rs.length:Int)*4+4:=by omega
  have q3:(3:Int)<(rs.length:Int)*4+4:=by omega
  have q4:(4:Int)≤(rs.length:Int)*4+4:=by omega
  have hroom:(acc.length+1)*32≤room:=by unfold room;omega
  have h32:32≤room:=by unfold room;omega
  have hl:=Oo acc;have ht:(acc.flatMap Trem.wc.enc).take (acc.length*4)=acc.flatMap Trem.wc.enc:=ah (by omega);have hl2:=Oo rs;have ht2:(rs.flatMap Trem.wc.enc).take (rs.length*4)=rs.flatMap Trem.wc.enc:=ah (by omega);simp[-length_flatMap,-map_take,hb1,e1,q0,q1,q2,q3,q4,hroom,hl,ht,spD,spS];refine WL.to (Iz hb1 (tk:=tk) rs (acc++[r]) (by simp;omega)) (by simp[ht2,spD,spS]) (by simp[spS]) fun x e σ' hh=>?_
  simpa[spD,spS]using hh
def I9(b:Bk)(x:Trem.Ev):Bk:={b with yV:=b.yV++[x] }
def xm(b:Bk)(sp:List Trem.wc):Bk×Int:=if b.yV.length<200 then(if Trem.Ev.ok ⟨b.av.length,sp⟩=true then(I9 b ⟨b.av.length,sp⟩,0)else(b,1))else(b,3)
theorem akM(l:List Trem.Ev):(l.flatMap Trem.Ev.enc).length=l.length*2:=b9 (f:=Trem.Ev.enc) (w:=2) (fun _=>rfl) l
theorem Z5{S:SK}{L:Nat}(hS:S.length=L)(hL:0<L){sp:List Trem.wc}{tk:Int}:ck.frzL (ck 0 16) [.int .i64 tk,spD L sp] (spS sp::S)=([.int .i64 tk,.aE sp.length (sp.flatMap Trem.wc.enc)],[.dead]::S):=by
 have hf:=zT (f:=Trem.wc.enc) (w:=4) (fun _=>rfl) (fun _=>by simp[D.clean]) (l:=sp) (j:=0) (v:=sp.length) (bs:=[Abs.aG.cells sp.length (sp.flatMap Trem.wc.enc)]) (σ:=S) (by intro h;subst h;simp at hS;omega) (by simp);rw[hS]at hf;simp[spD,spS,hf]
theorem abP{F:List Abs.aG}{b:Bk}{er:List Int}{nm:List UInt8}{sp:List Trem.wc}{b':Bk}{e:Int}(hl:sp.length≤1000000)(hd:xm b sp=(b',e))(he:e=0):
  lim T (.call false eU [.ref σ.length 6 0 0,.str nm,.aE (sp.length*4) (sp.flatMap Trem.wc.enc)] (F::b.bk σ.length er::σ))=some (.val (.dQ []) (F::b'.bk σ.length er::σ)):=by
 refine fU uZ jy.eq_1 rfl (by simp) ?_;unfold xm at hd;split at hd
 case isFalse=>cases hd;cases he
 rename_i h1;split at hd
 case isFalse=>cases hd;cases he
 rename_i h2;cases hd;have h1':(b.yV.length:Int)<200:=by omega
 have hC:=fun σ=>Jv (σ:=σ) (x:=⟨b.av.length,sp⟩) (by simp;omega)
 simp only[h2,if_true,Trem.Ev.enc]at hC;have hL:=Iz (σ:=F::b.bk σ.length er::σ) (bp:=.ref σ.length 6 0 0) rfl (tk:=b.av.length) sp [] (by simpa using hl);have hne:sp≠[]:=by
  intro hh;subst hh;simp[Trem.Ev.ok,Trem.bT]at h2
 simp[-length_flatMap,-map_take,Bk.bk,Bk.cells,h1',cl];refine WL.to hL (by simp[spD]) (by simp[Bk.bk,Bk.cells,spS]) ?_;rintro x e σ' ⟨rfl,g0,g6,gu,rfl⟩;have hf:=fun S hS=>Z5 (S:=S) (L:=σ.length+1+1) hS (by omega) (sp:=sp) (tk:=b.av.length)
 have w2:(b.yV.length+1)*32≤room:=by unfold room;omega
 have w3:=akM b.yV;have w4:(b.yV.flatMap Trem.Ev.enc).take (b.yV.length*2)=b.yV.flatMap Trem.Ev.enc:=ah (by omega);have hcl:D.bu (sp.flatMap Trem.wc.enc)=true:=fZ (fun _=>by simp[D.clean]) sp;simp only[aV]at g6;simp[-length_flatMap,-map_take,g0,g6,gu,hf,hC,og,Bk.bk,Bk.cells,I9,w2,w3,w4,hcl]
theorem OI{F:List Abs.aG}{b:Bk}{er:List Int}{nm:List UInt8}{sp:List Trem.wc}{b':Bk}{e:Int}(hl:sp.length≤1000000)(hd:xm b sp=(b',e))(he:e≠0):
  lim T (.call false eU [.ref σ.length 6 0 0,.str nm,.aE (sp.length*4) (sp.flatMap Trem.wc.enc)] (F::b.bk σ.length er::σ))=some (.fx (rf e) (F::b.bk σ.length er::σ)):=by
 refine dJ uZ jy.eq_1 rfl ?_;have hM:=fun σ=>pq (σ:=σ) (e:=1) (by decide)
 have hrc:(D.tQ 90 (.agg [.int .i64 1])).clean=true:=rfl;unfold xm at hd;split at hd
 case isFalse h1 =>
  cases hd;have h1':¬(b.yV.length:Int)<200:=by omega
  simp[-length_flatMap,-map_take,Bk.bk,Bk.cells,h1',dj,D.clean,rf]
 rename_i h1;split at hd
 case isTrue=>cases hd;exact absurd rfl he
 rename_i h2;cases hd;have h1':(b.yV.length:Int)<200:=by omega
 have h2':Trem.Ev.ok ⟨b.av.length,sp⟩=false:=by simpa using h2
 have hC:=fun σ=>Jv (σ:=σ) (x:=⟨b.av.length,sp⟩) (by simp;omega)
 simp only[h2',Trem.Ev.enc]at hC;have hL:=Iz (σ:=F::b.bk σ.length er::σ) (bp:=.ref σ.length 6 0 0) rfl (tk:=b.av.length) sp [] (by simpa using hl);simp[-length_flatMap,-map_take,Bk.bk,Bk.cells,h1',cl];refine WL.to hL (by simp[spD]) (by simp[Bk.bk,Bk.cells,spS]) ?_;rintro x e σ' ⟨rfl,g0,g6,gu,rfl⟩;have hf:=fun S hS=>Z5 (S:=S) (L:=σ.length+1+1) hS (by omega) (sp:=sp) (tk:=b.av.length)
 have hcl:D.bu (sp.flatMap Trem.wc.enc)=true:=fZ (fun _=>by simp[D.clean]) sp;simp only[aV]at g6;simp[-length_flatMap,-map_take,g0,g6,gu,hf,hC,hM,Bk.bk,Bk.cells,hcl,rf,hrc]
theorem A8{a b c:Int}:lim T (.call false jD [.int .i64 a,.int .i64 b,.int .i64 c] σ)=some (.val (.bool (bT a b c)) σ):=by
 refine au FP tB.eq_1 rfl ?_;by_cases h:b≤a<;>simp[-length_flatMap,-map_take,h,bT]
theorem OO{p:Prt}{last:Int}:lim T (.call false dE [.agg p.enc,.ref σ.length 0 0 0] ([]::[]::[]::[]::[.cells 0 [.int .i64 last]]::σ))=some (.val (.bool (p.ok last)) ([]::[]::[]::[]::[.cells 0 [.int .i64 p.vw]]::σ)):=by
 refine fU An my.eq_1 rfl (by simp) ?_;cases h:bT p.vw 0 last<;>simp[-length_flatMap,-map_take,A8,h,Prt.ok]
theorem JJ{u:yc}(hl:u.parts.length≤1000000000):lim T (.call false iV [.agg u.enc] σ)=some (.val (.bool u.ok) σ):=by
 refine au Ce ot.eq_1 rfl ?_;have hA:=IF (wD 2 Prt.enc (fun _=>rfl)) (T:=T) (S:=fun i=>[.cells 0 [.int .i64 (vx u.parts i)]]::σ) (fv:=.fn dE [] [.ref σ.length 0 0 0]) (l:=u.parts) (p:=B0 u.parts)
  (f:=gP) (g:=jr) (h:=eC) (i:=fI) rfl rfl rfl rfl (by omega) rfl rfl rfl (fun _=>rfl) (fun i x hx=>by
   rw[rK];have h:=OO (σ:=σ) (p:=x) (last:=vx u.parts i);have e1:vx u.parts (i+1)=x.vw:=by simp[vx,hx]
   have e2:B0 u.parts i=x.ok (vx u.parts i):=by simp[B0,hx]
   have h':lim T (.call false dE ([]++[(wD 2 Prt.enc (fun _=>rfl)).val x]++[.ref σ.length 0 0 0]) ([]::[]::[]::[]::[.cells 0 [.int .i64 (vx u.parts i)]]::σ))=_:=h;rw[h',e1,e2];rfl)
 have hb:(!(pa (fun i => !B0 u.parts i) 0 u.parts.length).1)=yj 1000 u.parts:=by
  have h1:=Bt (q:=fun i => !B0 u.parts i) (m:=u.parts.length) (i:=0);have h2:=O4 (l:=u.parts);cases hf:yj 1000 u.parts
  ·cases hs:(pa (fun i => !B0 u.parts i) 0 u.parts.length).1
   ·have h3:=h1.1 hs;have h4:=h2.2 fun j hj=>by simpa using h3 j hj
    rw[hf]at h4;cases h4
   ·rfl
  ·have h3:=h2.1 hf;have h4:=h1.2 fun j hj=>by simp[h3 j hj]
   rw[h4];rfl
 rw[hb]at hA;have e0:vx u.parts 0=1000:=rfl;have hA':lim T (.call false gP [.aE u.parts.length (u.parts.flatMap Prt.enc),.fn dE [] [.ref σ.length 0 0 0]] ([.cells 0 [.int .i64 1000]]::σ))=_:=hA;cases h1:bT u.Dm 0 5
 ·simp[-length_flatMap,-map_take,A8,h1,yc.ok]
 cases h2:bT u.parts.length 1 8
 ·simp[-length_flatMap,-map_take,A8,h1,h2,yc.ok]
 simp[-length_flatMap,-map_take,A8,h1,h2,yc.ok,hA']
theorem Ey{u:yc}(hl:u.parts.length≤1000000000):lim T (.call false mK [.agg u.enc] σ)=some (.val (.int .i64 (if u.ok then 0 else 1)) σ):=by
 refine au CQ pA.eq_1 rfl ?_;have hC:=fun σ=>JJ (σ:=σ) hl
 simp only[yc.enc]at hC ⊢;cases hc:u.ok<;>rw[hc]at hC<;>simp[-length_flatMap,-map_take,hC]
def ptD(L:Nat)(acc:List Prt):D:=.sl L 0 acc.length 0 acc.length 2
def ptS(acc:List Prt):List Abs.aG:=[.cells acc.length (acc.flatMap Prt.enc)]
theorem Fo(l:List Prt):(l.flatMap Prt.enc).length=l.length*2:=b9 (f:=Prt.enc) (w:=2) (fun _=>rfl) l
theorem Iw{bp:D}(hb1:bp.calm=bp){tk:Int}:∀(rs acc:List Prt),acc.length+rs.length≤1000000 →
  WL T [0,2,6] false kE [(0,bp),(2,.aE (rs.length*2) (rs.flatMap Prt.enc)),(6,.own 0 [.int .i64 tk,ptD σ.length acc])] (ptS acc::σ)
   (fun x e σ'=>x=.exit 0∧get e 0=bp∧get e 6=.own 0 [.int .i64 tk,ptD σ.length (acc++rs)]∧get e 1000006=.undef∧σ'=ptS (acc++rs)::σ)
 |[],acc,h=>by
  refine aH kE.eq_1 ?_;simp[-length_flatMap,-map_take,hb1]
 |r::rs,acc,h=>by
  refine aH kE.eq_1 ?_;simp only[aD]at h;have e1:(rs.length+1)*2=rs.length*2+2:=by omega
  have q0:(0:Int)<(rs.length:Int)*2+2:=by omega
  have q1:(1:Int)<(rs.length:Int)*2+2:=by omega
  have q2:(2:Int)≤(rs.length:Int)*2+2:=by omega
  have hroom:(acc.length+1)*16≤room:=by unfold room;omega
  have h32:16≤room:=by unfold room;omega
  have hl:=Fo acc;have ht:(acc.flatMap Prt.enc).take (acc.length*2)=acc.flatMap Prt.enc:=ah (by omega);have hl2:=Fo rs;have ht2:(rs.flatMap Prt.enc).take (rs.length*2)=rs.flatMap Prt.enc:=ah (by omega);simp[-length_flatMap,-map_take,hb1,e1,q0,q1,q2,hroom,hl,ht,ptD,ptS];refine WL.to (Iw hb1 (tk:=tk) rs (acc++[r]) (by simp;omega)) (by simp[ht2,ptD,ptS]) (by simp[ptS]) fun x e σ' hh=>?_
  simpa[ptD,ptS]using hh
def Ow(b:Bk)(u:yc):Bk:={b with dI:=b.dI++[u] }
def Az(b:Bk)(u:yc):Bk×Int:=if b.dI.length<10 then(if u.ok=true then(Ow b u,0)else(b,1))else(b,3)
theorem Ox(l:List yc):(l.flatMap yc.enc).length=l.length*2:=b9 (f:=yc.enc) (w:=2) (fun _=>rfl) l
theorem Z4{S:SK}{L:Nat}(hS:S.length=L)(hL:0<L){pt:List Prt}{tk:Int}:ck.frzL (ck 0 16) [.int .i64 tk,ptD L pt] (ptS pt::S)=([.int .i64 tk,.aE pt.length (pt.flatMap Prt.enc)],[.dead]::S):=by
 have hf:=zT (f:=Prt.enc) (w:=2) (fun _=>rfl) (fun _=>by simp[D.clean]) (l:=pt) (j:=0) (v:=pt.length) (bs:=[Abs.aG.cells pt.length (pt.flatMap Prt.enc)]) (σ:=S) (by intro h;subst h;simp at hS;omega) (by simp);rw[hS]at hf;simp[ptD,ptS,hf]
theorem zj{l:List Prt}:D.bu (l.flatMap Prt.enc)=true:=fZ (fun _=>by simp[D.clean]) l
theorem akb{F:List Abs.aG}{b:Bk}{er:List Int}{nm:List UInt8}{u:yc}{b':Bk}{e:Int}(hl:u.parts.length≤1000000)(hd:Az b u=(b',e))(he:e=0):
  lim T (.call false fG [.ref σ.length 6 0 0,.str nm,.aE (u.parts.length*2+1) (.int .i64 u.Dm::u.parts.flatMap Prt.enc)] (F::b.bk σ.length er::σ))=some (.val (.dQ []) (F::b'.bk σ.length er::σ)):=by
 refine fU vF kc.eq_1 rfl (by simp) ?_;unfold Az at hd;split at hd
 case isFalse=>cases hd;cases he
 rename_i h1;split at hd
 case isFalse=>cases hd;cases he
 rename_i h2;cases hd;have h1':(b.dI.length:Int)<10:=by omega
 have hC:=fun σ=>Ey (σ:=σ) (u:=u) (by omega)
 simp only[h2,if_true,yc.enc]at hC;have hL:=Iw (σ:=F::b.bk σ.length er::σ) (bp:=.ref σ.length 6 0 0) rfl (tk:=u.Dm) u.parts [] (by simpa using hl);have hne:u.parts≠[]:=by
  intro hh;simp[yc.ok,bT,hh]at h2
 have q0:(0:Int)<(u.parts.length:Int)*2+1:=by omega
 have q1:(1:Int)≤(u.parts.length:Int)*2+1:=by omega
 have hlp:=Fo u.parts;have htp:(u.parts.flatMap Prt.enc).take (u.parts.length*2)=u.parts.flatMap Prt.enc:=ah (by omega);simp[-length_flatMap,-map_take,Bk.bk,Bk.cells,h1',cl,q0,q1];refine WL.to hL (by simp[ptD,htp]) (by simp[Bk.bk,Bk.cells,ptS]) ?_;rintro x e σ' ⟨rfl,g0,g6,gu,rfl⟩;have hf:=fun S hS=>Z4 (S:=S) (L:=σ.length+1+1) hS (by omega) (pt:=u.parts) (tk:=u.Dm)
 have w2:(b.dI.length+1)*32≤room:=by unfold room;omega
 have w3:=Ox b.dI;have w4:(b.dI.flatMap yc.enc).take (b.dI.length*2)=b.dI.flatMap yc.enc:=ah (by omega);simp only[aV]at g6;simp[-length_flatMap,-map_take,g0,g6,gu,hf,hC,og,Bk.bk,Bk.cells,Ow,w2,w3,w4,zj]
theorem QA{F:List Abs.aG}{b:Bk}{er:List Int}{nm:List UInt8}{u:yc}{b':Bk}{e:Int}(hl:u.parts.length≤1000000)(hd:Az b u=(b',e))(he:e≠0):
  lim T (.call false fG [.ref σ.length 6 0 0,.str nm,.aE (u.parts.length*2+1) (.int .i64 u.Dm::u.parts.flatMap Prt.enc)] (F::b.bk σ.length er::σ))=some (.fx (rf e) (F::b.bk σ.length er::σ)):=by
 refine dJ vF kc.eq_1 rfl ?_;have hM:=fun σ=>pq (σ:=σ) (e:=1) (by decide)
 have hrc:(D.tQ 90 (.agg [.int .i64 1])).clean=true:=rfl;unfold Az at hd;split at hd
 case isFalse h1 =>
  cases hd;have h1':¬(b.dI.length:Int)<10:=by omega
  simp[-length_flatMap,-map_take,Bk.bk,Bk.cells,h1',dj,D.clean,rf]
 rename_i h1;split at hd
 case isTrue=>cases hd;exact absurd rfl he
 rename_i h2;cases hd;have h1':(b.dI.length:Int)<10:=by omega
 have h2':u.ok=false:=by simpa using h2
 have hC:=fun σ=>Ey (σ:=σ) (u:=u) (by omega)
 simp only[h2',yc.enc]at hC;have hL:=Iw (σ:=F::b.bk σ.length er::σ) (bp:=.ref σ.length 6 0 0) rfl (tk:=u.Dm) u.parts [] (by simpa using hl);have q0:(0:Int)<(u.parts.length:Int)*2+1:=by omega
 have q1:(1:Int)≤(u.parts.length:Int)*2+1:=by omega
 have hlp:=Fo u.parts;have htp:(u.parts.flatMap Prt.enc).take (u.parts.length*2)=u.parts.flatMap Prt.enc:=ah (by omega);simp[-length_flatMap,-map_take,Bk.bk,Bk.cells,h1',cl,q0,q1];refine WL.to hL (by simp[ptD,htp]) (by simp[Bk.bk,Bk.cells,ptS]) ?_;rintro x e σ' ⟨rfl,g0,g6,gu,rfl⟩;have hf:=fun S hS=>Z4 (S:=S) (L:=σ.length+1+1) hS (by omega) (pt:=u.parts) (tk:=u.Dm)
 simp only[aV]at g6;simp[-length_flatMap,-map_take,g0,g6,gu,hf,hC,hM,Bk.bk,Bk.cells,zj,rf,hrc]
def yt(b:cf)(m:cF):D:=if Bd b m then P0 (dA b m)else .aI
theorem J1{b:cf}{m:cF}:(yt b m).clean=true:=by
 unfold yt;split
 ·simp[P0,fZ (f:=Rock.aG.enc) (fun _=>by simp[D.clean])]
 ·simp
theorem KS{b:cf}{m:cF}:(yt b m).strip=yt b m:=by unfold yt;split<;>rfl
theorem JW{b:cf}{m:cF}:(yt b m).calm=yt b m:=by unfold yt;split<;>rfl
theorem MB{b:cf}{m:cF}{tq wq:D}(htq:tq.vQ=.aE b.cc.length (b.cc.flatMap Rw.enc))(hwq:wq.vQ=.aE b.ak.length (b.ak.flatMap bB.enc))(h1:b.cc.length≤1000000000)(h2:b.ak.length≤1000000000)(hn:m.name.length≤1000000000)(hl:m.bf.length≤1000000000)(hσ:σ≠[]):
  lim T (.call false tM [.agg [.int .i64 b.f.x,.int .i64 b.f.y,.int .i64 b.f.z,.int .i64 b.f.k,tq,.int .i64 b.bD,.int .i64 b.lift,.int .i64 b.deep,wq],.agg [.str m.name,.aE m.bf.length (m.bf.flatMap aU)]] σ)=some (.val (.dQ [yt b m,.int .i64 (if Bd b m then 0 else 1)]) σ):=by
 unfold yt;cases hb:Bd b m
 ·refine au CX tC.eq_1 rfl ?_;obtain⟨d,hd,hd1,hd2⟩:=MC (σ:=[]::σ) h1 h2 hn hl hb;simp[-length_flatMap,-map_take,htq,hwq,hd,hd1,hd2,cq,bg,bj]
 ·refine au CX tC.eq_1 rfl ?_;have hd:=fun σ=>adl (σ:=σ) h1 h2 hn hl hb
  have hf:=fun σ hσ=>DL (σ:=σ) (b:=b) (m:=m) (Fv.of hb) hσ
  have hcl:(P0 (dA b m)).clean=true:=by simp[P0,fZ (f:=Rock.aG.enc) (fun _=>by simp[D.clean])]
  have hs1:(P0 (dA b m)).strip=P0 (dA b m):=rfl;have hs2:(P0 (dA b m)).calm=P0 (dA b m):=rfl;simp[-length_flatMap,-map_take,htq,hwq,hd,hf,hs1,hs2,hcl,cq,bg,bj]
theorem Qh{e:nh}{nm:List UInt8}:lim T (.call false dL [.agg e.enc,.bw [.str nm]] σ)=some (.val (.bool (e.m.name == nm)) σ):=by
 refine au y9 kD.eq_1 rfl ?_;simp[-length_flatMap,-map_take,CM]
theorem Dc(l:List nh):(l.flatMap nh.enc).length=l.length*4:=b9 (f:=nh.enc) (w:=4) (fun _=>rfl) l
theorem Oy(l:List Lx):(l.flatMap Lx.enc).length=l.length*4:=b9 (f:=Lx.enc) (w:=4) (fun _=>rfl) l
theorem Hx{b:Bk}{er:List Int}{nm:List UInt8}{S:SK}(hl:b.an.length≤1000000)(hs:gj S σ.length=some (b.bk σ.length er)):
  lim T (.call false dB [.sl σ.length 0 b.an.length 0 b.an.length 4,.fn dL [] [.bw [.str nm]]] S)=some (.val (.bool (su b.an fun e=>e.m.name == nm)) S) :=
 BY (enc:=nh.enc) (w:=4) (fun _=>rfl) (F:=b.bk σ.length er) (bi:=0) (v:=b.an.length) (l:=b.an) (i:=eE) rfl rfl (by simp[Bk.bk]) (by omega)
  ⟨rfl,rfl,fun e _ σ=>by rw[rK];have h:=Qh (σ:=σ) (e:=e) (nm:=nm);have h':lim T (.call false dL ([]++[.agg e.enc]++[.bw [.str nm]]) σ)=_:=h;rw[h'];rfl⟩ hs
def Ee(b:Bk)(m:cF):Bk:={b with an:=b.an++[⟨m,true,0⟩],oS:=b.oS++[⟨0,0,0,0⟩] }
def xl(b:Bk)(m:cF):Bk×Int :=
 if b.ready=true∧b.av=[]then
  (if(su b.an fun e=>e.m.name == m.name)=true then(b,6)else if b.an.length<40 then(if Bd b.bG m=true then(Ee b m,0)else(b,1))else(b,3))
 else(b,8)
theorem Qi{F:List Abs.aG}{b:Bk}{er:List Int}{m:cF}{b':Bk}{e:Int}(h1:b.bG.cc.length≤1000000000)(h2:b.bG.ak.length≤1000000000)(hn:m.name.length≤1000000000)(hl:m.bf.length≤1000000000)(hw:b.oS.length=b.an.length)(hd:xl b m=(b',e))(he:e=0):
  lim T (.call false eT [.ref σ.length 6 0 0,.str m.name,.aE m.bf.length (m.bf.flatMap aU)] (F::b.bk σ.length er::σ))=some (.val (.dQ []) (F::b'.bk σ.length er::σ)):=by
 refine fU uY jx.eq_1 rfl (by simp) ?_;unfold xl at hd;split at hd
 case isFalse=>cases hd;cases he
 rename_i c0;obtain⟨c1,c2⟩:=c0;split at hd
 case isTrue=>cases hd;cases he
 rename_i c3;split at hd
 case isFalse=>cases hd;cases he
 rename_i c4;split at hd
 case isFalse=>cases hd;cases he
 rename_i c5;cases hd;have c3':(su b.an fun e=>e.m.name == m.name)=false:=by simpa using c3
 have c4':(b.an.length:Int)<40:=by omega
 have hH:=fun S=>Hx (σ:=σ) (b:=b) (er:=er) (nm:=m.name) (S:=S) (by omega)
 simp only[c3']at hH;have hS:=fun S hσ=>MB (σ:=S) (b:=b.bG) (m:=m) (tq:=nl Rw.enc b.bG.cc) (wq:=nl bB.enc b.bG.ak) tT tT h1 h2 hn hl hσ
 simp only[c5]at hS;simp only[Bk.bk,Bk.cells]at hH;have w2:(b.an.length+1)*56≤room:=by unfold room;omega
 have w3:=Dc b.an;have w4:(b.an.flatMap nh.enc).take (b.an.length*4)=b.an.flatMap nh.enc:=ah (by omega);have w5:(b.oS.length+1)*32≤room:=by unfold room;omega
 have w6:=Oy b.oS;have w7:(b.oS.flatMap Lx.enc).take (b.oS.length*4)=b.oS.flatMap Lx.enc:=ah (by omega);simp[-length_flatMap,-map_take,Bk.bk,Bk.cells,c1,c2,hH,c4',hS,J1,KS,JW,Oa,cl,og,Ee,w2,w3,w4,w5,w6,w7,bj]
theorem OF{F:List Abs.aG}{b:Bk}{er:List Int}{m:cF}{b':Bk}{e:Int}(h1:b.bG.cc.length≤1000000000)(h2:b.bG.ak.length≤1000000000)(hn:m.name.length≤1000000000)(hl:m.bf.length≤1000000000)(hml:b.an.length≤40)(hd:xl b m=(b',e))(he:e≠0):
  lim T (.call false eT [.ref σ.length 6 0 0,.str m.name,.aE m.bf.length (m.bf.flatMap aU)] (F::b.bk σ.length er::σ))=some (.fx (rf e) (F::b.bk σ.length er::σ)):=by
 refine dJ uY jx.eq_1 rfl ?_;have hM:=fun σ=>pq (σ:=σ) (e:=1) (by decide)
 have hrc:(D.tQ 90 (.agg [.int .i64 1])).clean=true:=rfl;unfold xl at hd;split at hd
 case isFalse c0 =>
  cases hd;cases c1:b.ready with
  |false=>simp[-length_flatMap,-map_take,Bk.bk,Bk.cells,c1,dj,D.clean,rf]
  |true =>
   have c2:((b.av.length:Int) == 0)=false:=by simpa using fun hh=>c0 ⟨c1,hh⟩
   simp[-length_flatMap,-map_take,Bk.bk,Bk.cells,c1,c2,dj,D.clean,rf]
 rename_i c0;obtain⟨c1,c2⟩:=c0;have hH:=fun S=>Hx (σ:=σ) (b:=b) (er:=er) (nm:=m.name) (S:=S) (by omega)
 split at hd
 case isTrue c3 =>
  cases hd;simp only[c3]at hH;simp only[Bk.bk,Bk.cells]at hH;simp[-length_flatMap,-map_take,Bk.bk,Bk.cells,c1,c2,hH,cl,dj,D.clean,rf]
 rename_i c3;have c3':(su b.an fun e=>e.m.name == m.name)=false:=by simpa using c3
 simp only[c3']at hH;split at hd
 case isFalse c4 =>
  cases hd;have c4':¬(b.an.length:Int)<40:=by omega
  simp only[Bk.bk,Bk.cells]at hH;simp[-length_flatMap,-map_take,Bk.bk,Bk.cells,c1,c2,hH,c4',cl,dj,D.clean,rf]
 rename_i c4;have c4':(b.an.length:Int)<40:=by omega
 split at hd
 case isTrue=>cases hd;exact absurd rfl he
 rename_i c5;cases hd;have c5':Bd b.bG m=false:=by simpa using c5
 have hS:=fun S hσ=>MB (σ:=S) (b:=b.bG) (m:=m) (tq:=nl Rw.enc b.bG.cc) (wq:=nl bB.enc b.bG.ak) tT tT h1 h2 hn hl hσ
 simp only[c5']at hS;simp only[Bk.bk,Bk.cells]at hH;simp[-length_flatMap,-map_take,Bk.bk,Bk.cells,c1,c2,hH,c4',hS,J1,KS,JW,Oa,cl,hM,bj,rf,hrc]
end Go.Proofs.YtklfdfnoebnciaaGreatDoor
namespace Go.Book
open List(length_flatMap map_take)
open Go Go.Abs Go.Rock
def isStr(lo hi:Int)(val:cF→Int)(e:nh):Bool:=e.left && !bT (val e.m) lo hi
def eJ(at_ lo hi:Int)(val:cF→Int)(e:nh):nh:=if isStr lo hi val e then⟨e.m,false,at_⟩else e
def aoL(at_ lo hi:Int)(val:cF→Int)(ms:List nh)(j:Nat)(w:Lx):Lx:=match ms[j]? with
 |some e=>if isStr lo hi val e then⟨at_,val e.m,lo,hi⟩else w
 |none=>w
def Bk.j5(b:Bk)(lo hi:Int)(val:cF→Int)(i:Nat):Bk :=
 {b with an:=b.an.mapIdx fun j e=>if j<i then eJ b.at_ lo hi val e else e,oS:=b.oS.mapIdx fun j w=>if j<i then aoL b.at_ lo hi val b.an j w else w }
section
variable {b:Bk} {lo hi:Int} {val:cF→Int} {i:Nat}
@[simp] theorem abc:(b.j5 lo hi val i).bG=b.bG:=aA rfl
@[simp] theorem PM:(b.j5 lo hi val i).av=b.av:=aA rfl
@[simp] theorem Mq:(b.j5 lo hi val i).rules=b.rules:=aA rfl
@[simp] theorem abd:(b.j5 lo hi val i).yV=b.yV:=aA rfl
@[simp] theorem adb:(b.j5 lo hi val i).k0=b.k0:=aA rfl
@[simp] theorem ade:(b.j5 lo hi val i).k1=b.k1:=aA rfl
@[simp] theorem adf:(b.j5 lo hi val i).k2=b.k2:=aA rfl
@[simp] theorem Ms:(b.j5 lo hi val i).dI=b.dI:=aA rfl
@[simp] theorem Mr:(b.j5 lo hi val i).cu=b.cu:=aA rfl
@[simp] theorem Mp:(b.j5 lo hi val i).ready=b.ready:=aA rfl
@[simp] theorem ac9:(b.j5 lo hi val i).at_=b.at_:=aA rfl
end
theorem PN{b:Bk}{lo hi:Int}{val:cF→Int}:b.j5 lo hi val 0=b:=by
 cases b;simp only[Bk.j5,Bk.mk.injEq,true_and,and_true];constructor<;>(apply eu;intro j;simp[mm])
theorem DF{b:Bk}{lo hi:Int}{val:cF→Int}{i:Nat}:(b.j5 lo hi val i).an.length=b.an.length:=by simp[Bk.j5]
theorem DG{b:Bk}{lo hi:Int}{val:cF→Int}{i:Nat}:(b.j5 lo hi val i).oS.length=b.oS.length:=by simp[Bk.j5]
theorem ada{b:Bk}{lo hi:Int}{val:cF→Int}{i:Nat}{e:nh}(h:b.an[i]?=some e):(b.j5 lo hi val i).an[i]?=some e:=by simp[Bk.j5,h]
theorem PL{b:Bk}{lo hi:Int}{val:cF→Int}{i:Nat}{e:nh}(h:b.an[i]?=some e)(hs:isStr lo hi val e=true)(hw:b.oS.length=b.an.length):
  (b.j5 lo hi val (i+1)).an=(b.j5 lo hi val i).an.set i ⟨e.m,false,b.at_⟩∧(b.j5 lo hi val (i+1)).oS=(b.j5 lo hi val i).oS.set i ⟨b.at_,val e.m,lo,hi⟩:=by
 obtain⟨hi',he⟩:=aw.1 h;constructor
 ·apply eu;intro j;simp only[Bk.j5,mm,List.getElem?_set];by_cases hj:i=j
  ·subst hj;rw[h];simp[hi',eJ,hs]
  ·rw[if_neg hj];cases b.an[j]? with
   |none=>rfl
   |some x=>simp only[aS];congr 1;by_cases h1:j<i<;>simp[h1]<;>omega
 ·apply eu;intro j;simp only[Bk.j5,mm,List.getElem?_set];by_cases hj:i=j
  ·subst hj;have:i<b.oS.length:=by omega
   rw[aK this];simp[h,this,aoL,hs]
  ·rw[if_neg hj];cases b.oS[j]? with
   |none=>rfl
   |some x=>simp only[aS];congr 1;by_cases h1:j<i<;>simp[h1]<;>omega
theorem Io{b:Bk}{lo hi:Int}{val:cF→Int}{i:Nat}{e:nh}(h:b.an[i]?=some e)(hs:isStr lo hi val e=false):b.j5 lo hi val (i+1)=b.j5 lo hi val i:=by
 have h1:(b.j5 lo hi val (i+1)).an=(b.j5 lo hi val i).an:=by
  apply eu;intro j;simp only[Bk.j5,mm];by_cases hj:i=j
  ·subst hj;simp[h,eJ,hs]
  ·cases b.an[j]? with
   |none=>rfl
   |some x=>simp only[aS];congr 1;by_cases h1:j<i<;>simp[h1]<;>omega
 have h2:(b.j5 lo hi val (i+1)).oS=(b.j5 lo hi val i).oS:=by
  apply eu;intro j;simp only[Bk.j5,mm];by_cases hj:i=j
  ·subst hj;cases b.oS[i]? with
   |none=>rfl
   |some x=>simp[h,aoL,hs]
  ·cases b.oS[j]? with
   |none=>rfl
   |some x=>simp only[aS];congr 1;by_cases h1:j<i<;>simp[h1]<;>omega
 simp only[Bk.j5]at h1 h2 ⊢;rw[h1,h2]
end Go.Book
namespace Go.Proofs.YtklfdfnoebnciaaGreatDoor
open List(length_flatMap map_take)
open Go Go.Abs Go.Rock Go.Book
variable {σ:SK}
theorem J0{α:Type}{f:α→List D}{w k:Nat}{v:D}(hw:∀x,(f x).length=w)(hk:k<w):∀{l:List α} {i:Nat} {x x':α},l[i]?=some x→(f x).set k v=f x'→(l.flatMap f).set (i*w+k) v=(l.set i x').flatMap f
 |[],i,x,x',h,_=>by simp at h
 |a::l,0,x,x',h,hs=>by
  simp at h;subst h;simp only[aQ,List.set_cons_zero,Nat.zero_mul,cG];rw[List.set_append_left _ _ (by rw[hw];exact hk),hs]
 |a::l,i+1,x,x',h,hs=>by
  have ih:=J0 hw hk (l:=l) (i:=i) (by simpa using h) hs;simp only[aQ,List.set_cons_succ];have e:=hw a;rw[List.set_append_right _ _ (by rw[e,ew];omega),← ih];congr 2;rw[e,ew];omega
theorem JZ{α:Type}{f:α→List D}{w k:Nat}{v:D}(hw:∀x,(f x).length=w)(hk:k<w){l:List α}{i:Nat}{x x':α}(h:l[i]?=some x)(hs:(f x).set k v=f x'):(l.flatMap f).take (i*w+k)++v::(l.flatMap f).drop (i*w+k+1)=(l.set i x').flatMap f:=by
 rw[← J0 hw hk h hs,List.set_eq_take_append_cons_drop,if_pos];rw[b9 hw];have h1:=(aw.1 h).1;have:(i+1)*w≤l.length*w:=cH _ h1;rw[ew]at this;omega
theorem JK{A F:List Abs.aG}{b:Bk}{er:List Int}{lo hi:Int}{val:cF→Int}{fv:D}(hf1:fv.strip=fv)(hf2:fv.calm=fv)(hw:b.oS.length=b.an.length)(hl:b.an.length≤40)
  (hv:∀i e,e∈b.an→e.left=true→oU (lim T) false fv [.agg [.str e.m.name,.aE e.m.bf.length (e.m.bf.flatMap aU)]] ([]::A::F::(b.j5 lo hi val i).bk σ.length er::σ)=some (.int .i64 (val e.m),[]::A::F::(b.j5 lo hi val i).bk σ.length er::σ)):∀(m i:Nat),i+m=b.an.length →
  WL T [0,2,4,13,14,15] false iF [(0,.ref σ.length 6 0 0),(2,fv),(4,.bw [.int .i64 lo,.int .i64 hi]),(13,.sl σ.length 0 b.an.length 0 b.an.length 4),(14,.int .i64 b.an.length),(15,.int .i64 i)] ([]::A::F::(b.j5 lo hi val i).bk σ.length er::σ)
   (fun x e σ'=>x=.exit 0∧σ'=[]::A::F::(b.j5 lo hi val b.an.length).bk σ.length er::σ)
 |0,i,h=>by
  refine aH iF.eq_1 ?_;have h1:¬i<b.an.length:=by omega
  have h2:i=b.an.length:=by omega
  simp[-length_flatMap,-map_take,h1,hf1,hf2,h2]
 |m+1,i,h=>by
  refine aH iF.eq_1 ?_;have h1:i<b.an.length:=by omega
  obtain⟨e,he⟩:=gE h1;have hat:=ada (lo:=lo) (hi:=hi) (val:=val) he;have hfl:=cj (f:=nh.enc) (w:=4) (fun _=>rfl) hat;have hml:=DF (b:=b) (lo:=lo) (hi:=hi) (val:=val) (i:=i);have hwl:=DG (b:=b) (lo:=lo) (hi:=hi) (val:=val) (i:=i);have h4:=ga h1 (by omega);have ih:=JK hf1 hf2 hw hl hv m (i+1) (by omega);have hlen:=Dc (b.j5 lo hi val i).an;rw[hml]at hlen;have q:4≤b.an.length*4-i*4:=by omega
  cases hc1:e.left with
  |false =>
   have hst:isStr lo hi val e=false:=by simp[isStr,hc1]
   rw[Io he hst]at ih;simp[-length_flatMap,-map_take,h1,hf1,hf2,Bk.bk,Bk.cells,hml,hwl,hfl,hlen,q,h4,hc1];exact WL.to ih (by simp) (by simp[Bk.bk,Bk.cells,hml,hwl]) fun x e σ' hh=>by simpa[Bk.bk,Bk.cells,DF,DG]using hh
  |true =>
   have hcall:=hv i e (ai he) hc1;simp only[Bk.bk,Bk.cells,hml,hwl,abc,PM,Mq,abd,adb,ade,adf,Ms,Mr,Mp,ac9]at hcall;cases hc2:bT (val e.m) lo hi with
   |true =>
    have hst:isStr lo hi val e=false:=by simp[isStr,hc2]
    rw[Io he hst]at ih;simp[-length_flatMap,-map_take,h1,hf1,hf2,Bk.bk,Bk.cells,hml,hwl,hfl,hlen,q,h4,hc1,hcall,eH,hc2];exact WL.to ih (by simp) (by simp[Bk.bk,Bk.cells,hml,hwl]) fun x e σ' hh=>by simpa[Bk.bk,Bk.cells,DF,DG]using hh
   |false =>
    have hst:isStr lo hi val e=true:=by simp[isStr,hc1,hc2]
    obtain⟨hn1,hn2⟩:=PL he hst hw;have q2:i*4+2+1≤b.an.length*4:=by omega
    have q3:i*4+3+1≤b.an.length*4:=by omega
    have p1:=JZ (f:=nh.enc) (w:=4) (k:=2) (v:=.bool false) (fun _=>rfl) (by omega) (x':=⟨e.m,false,e.by_⟩) hat rfl;have hat2:((b.j5 lo hi val i).an.set i ⟨e.m,false,e.by_⟩)[i]?=some ⟨e.m,false,e.by_⟩:=by simp[hml,h1]
    have p2:=JZ (f:=nh.enc) (w:=4) (k:=3) (v:=.int .i64 b.at_) (fun _=>rfl) (by omega) (x':=⟨e.m,false,b.at_⟩) hat2 rfl;rw[List.set_set]at p2;have hl2:=Dc ((b.j5 lo hi val i).an.set i ⟨e.m,false,e.by_⟩);rw[List.length_set,hml]at hl2;have h5:i<b.oS.length:=by omega
    have q5:i*4+4≤b.oS.length*4:=by omega
    have hwe:=Oy (b.j5 lo hi val i).oS;rw[hwl]at hwe;have p3:=NU (f:=Lx.enc) (w:=4) (fun _=>rfl) (l:=(b.j5 lo hi val i).oS) (i:=i) (x:=⟨b.at_,val e.m,lo,hi⟩) (by omega);simp only[Lx.enc,gq,aV]at p3;simp[-length_flatMap,-map_take,h1,hf1,hf2,Bk.bk,Bk.cells,hml,hwl,hfl,hlen,q,h4,hc1,hcall,eH,hc2,q2,q3,p1,p2,hl2,h5,q5,hwe,p3];exact WL.to ih (by simp) (by simp[Bk.bk,Bk.cells,hwl,hn1,hn2,hml]) fun x e σ' hh=>by simpa[Bk.bk,Bk.cells,DF,DG]using hh
def wa(b:Bk)(lo hi:Int)(val:cF→Int):Bk:=b.j5 lo hi val b.an.length
theorem JI{A F:List Abs.aG}{b:Bk}{er:List Int}{lo hi:Int}{val:cF→Int}{fv:D}(hf1:fv.strip=fv)(hf2:fv.calm=fv)(hw:b.oS.length=b.an.length)(hl:b.an.length≤40)
  (hv:∀i e,e∈b.an→e.left=true→oU (lim T) false fv [.agg [.str e.m.name,.aE e.m.bf.length (e.m.bf.flatMap aU)]] ([]::A::F::(b.j5 lo hi val i).bk σ.length er::σ)=some (.int .i64 (val e.m),[]::A::F::(b.j5 lo hi val i).bk σ.length er::σ)):
  lim T (.call false fP [.ref σ.length 6 0 0,.agg [.int .i64 lo,.int .i64 hi],fv] (A::F::b.bk σ.length er::σ))=some (.val (.dQ []) (A::F::(wa b lo hi val).bk σ.length er::σ)):=by
 refine fU Ab lP.eq_1 rfl (by simp) ?_;have h:=JK (A:=A) (F:=F) (er:=er) hf1 hf2 hw hl hv b.an.length 0 (by omega);rw[PN]at h;simp[-length_flatMap,-map_take,Bk.bk,Bk.cells,hf1,hf2];refine WL.to h (by simp) (by simp[Bk.bk,Bk.cells]) ?_;rintro x e σ' ⟨rfl,rfl⟩;simp[wa,Bk.bk,Bk.cells]
end Go.Proofs.YtklfdfnoebnciaaGreatDoor
namespace Go.Proofs.YtklfdfnoebnciaaGreatDoor
open List(length_flatMap map_take)
open Go Go.Abs Go.Rock
variable {σ:SK}
structure xW where
 m:Int
 h:Int
 s:Int
 g:Int
@[simp] def xW.enc(x:xW):List D:=[.int .i64 x.m,.int .i64 x.h,.int .i64 x.s,.int .i64 x.g]
def xW.valid(x:xW):Bool:=bT x.m 0 1000000 && (bT x.h 0 (4000*x.m) && (bT x.s 0 (10000*x.m) && bT x.g 0 1000000000))
def iC(r:Rw)(x:xW):Int:=if x.h-x.m*r.l≤0 then 0 else if x.m*r.v≤x.h then x.m else(x.h-x.m*r.l) / (r.v-r.l)
theorem Qc{r:Rw}{x:xW}(hr:0≤r.l∧r.l<r.v∧r.v≤4000)(hm:0≤x.m∧x.m≤1000000)(hh:0≤x.h∧x.h≤4000000000):
  lim T (.call false kn [.agg r.enc,.agg x.enc] σ)=some (.val (.int .i64 (iC r x)) σ):=by
 refine au BM nL.eq_1 rfl ?_;have b1:=n0 hm.1 hm.2 hr.1 (show r.l≤4000 by omega);have b2:=n0 hm.1 hm.2 (show 0≤r.v by omega) hr.2.2;have w1:=fK (n:=x.m*r.l) (by omega);have w2:=fK (n:=x.h-x.m*r.l) (by omega);have w3:=fK (n:=x.m*r.v) (by omega);have w4:=fK (n:=r.v-r.l) (by omega);have hd:¬r.v-r.l=0:=by omega
 unfold iC;by_cases c1:x.h-x.m*r.l≤0
 ·simp[-length_flatMap,-map_take,w1,w2,w3,w4,c1]
 ·by_cases c2:x.m*r.v≤x.h
  ·simp[-length_flatMap,-map_take,w1,w2,w3,w4,c1,c2]
  ·have t1:=ba (b:=r.v-r.l) (show 0≤x.h-x.m*r.l by omega);have q1:=Int.ediv_nonneg (a:=x.h-x.m*r.l) (b:=r.v-r.l) (by omega) (by omega);have q2:=Int.ediv_le_self (b:=r.v-r.l) (show 0≤x.h-x.m*r.l by omega);have w5:=fK (n:=(x.h-x.m*r.l) / (r.v-r.l)) (by omega);simp[-length_flatMap,-map_take,w1,w2,w3,w4,c1,c2,hd,t1,w5]
theorem Fz{x:xW}:lim T (.call false gC [.agg x.enc] σ)=some (.val (.bool x.valid) σ):=by
 refine au Ar mG.eq_1 rfl ?_;unfold xW.valid;cases h1:bT x.m 0 1000000
 ·simp[-length_flatMap,-map_take,jI,h1]
 have hm:=aR.1 h1;have w1:=fK (n:=4000*x.m) (by omega);have w2:=fK (n:=10000*x.m) (by omega);cases h2:bT x.h 0 (4000*x.m)
 ·simp[-length_flatMap,-map_take,jI,h1,h2,w1,w2]
 cases h3:bT x.s 0 (10000*x.m)
 ·simp[-length_flatMap,-map_take,jI,h1,h2,h3,w1,w2]
 cases h4:bT x.g 0 1000000000<;>simp[-length_flatMap,-map_take,jI,h1,h2,h3,h4,w1,w2]
theorem apQ{t:List Rw}{i:Nat}{r:Rw}(h:t[i]?=some r):lim T (.call false nY [.aE t.length (t.flatMap Rw.enc),.int .i64 i] σ)=some (.val (.agg r.enc) σ):=by
 refine au DW rm.eq_1 rfl ?_;have h1:i<t.length:=(aw.1 h).1;have h2:=cj (f:=Rw.enc) (w:=5) (fun _=>rfl) h;simp[-length_flatMap,-map_take,h1,h2]
theorem adm{t:List Rw}{n:Int}(hl:t.length≤1000000000):lim T (.call false mQ [.aE t.length (t.flatMap Rw.enc),.int .i64 n] σ)=some (.val (.bool (bT n 0 ((t.length:Int)-1))) σ):=by
 refine au C3 pM.eq_1 rfl ?_;have w1:=fK (n:=(t.length:Int)-1) (by omega);simp[-length_flatMap,-map_take,jI,w1]
def wat(r:Rw)(x:xW):Int×Int:=if iC r x=0 then(x.m,x.h)else if iC r x=x.m then(0,0)else(x.m-iC r x,x.h-iC r x*r.v)
def aoK(r:Rw)(x:xW):Int:=if iC r x=0 then 0 else if iC r x=x.m then x.h else iC r x*r.v
def atN(r:Rw)(x:xW):Int:=if iC r x=0 then x.g else 0
def aoJ(r:Rw)(x:xW):Int:=if iC r x=0 then 0 else x.g
def held(r:Rw)(x:xW):Int:=min x.s ((wat r x).1*r.s)
def parts(r:Rw)(x:xW):List D:=[.int .i64 (iC r x),.int .i64 (aoK r x),.int .i64 0,.int .i64 (aoJ r x),.int .i64 (wat r x).1,.int .i64 (wat r x).2,.int .i64 (held r x),.int .i64 (atN r x),
 .int .i64 (if 0<(wat r x).1 then max 0 ((wat r x).2-(wat r x).1*r.l)else 0),.int .i64 (x.s-held r x)]
theorem Z6{r:Rw}{x:xW}(hr:0≤r.l∧r.l<r.v∧r.v≤4000)(hm:0≤x.m):0≤iC r x∧iC r x≤x.m∧(iC r x≠0→iC r x≠x.m→0≤x.h-iC r x*r.v+x.m*r.v):=by
 have hmv:x.m*r.v=x.m*r.l+x.m*(r.v-r.l):=by rw[← Int.mul_add];congr 1;omega
 have hml:=dS hm hr.1;have key:¬x.h-x.m*r.l≤0→¬x.m*r.v≤x.h→0≤(x.h-x.m*r.l) / (r.v-r.l)∧(x.h-x.m*r.l) / (r.v-r.l)≤x.m:=fun h1 h2=>⟨Int.ediv_nonneg (by omega) (by omega),Int.ediv_le_of_le_mul (by omega) (by omega)⟩
 have h2:0≤iC r x∧iC r x≤x.m:=by
  unfold iC;by_cases c1:x.h-x.m*r.l≤0
  ·rw[if_pos c1];omega
  ·rw[if_neg c1];by_cases c2:x.m*r.v≤x.h
   ·rw[if_pos c2];omega
   ·rw[if_neg c2];exact key c1 c2
 refine⟨h2.1,h2.2,fun h3 _=>?_⟩;have h4:=bK h2.2 (show 0≤r.v by omega);have h5:¬x.h-x.m*r.l≤0:=by
  intro hh;exact h3 (by unfold iC;rw[if_pos hh])
 omega
theorem apN{r:Rw}{x:xW}(hr:0≤r.l∧r.l<r.v∧r.v≤4000)(hs:0≤r.s∧r.s≤2000)(hx:x.valid=true):
  lim T (.call false nZ [.agg r.enc,.agg x.enc] σ)=some (.val (.agg (parts r x)) σ):=by
 refine au DX rn.eq_1 rfl ?_;simp only[xW.valid,ae,aR]at hx;obtain⟨hm,hh,hsl,hg⟩:=hx;have hF:=fun σ=>Qc (σ:=σ) hr hm ⟨hh.1,by omega⟩
 obtain⟨f1,f2,f3⟩:=Z6 hr hm.1;have b1:=n0 f1 (show iC r x≤1000000 by omega) (show 0≤r.v by omega) hr.2.2;have b2:=n0 (show 0≤x.m-iC r x by omega) (show x.m-iC r x≤1000000 by omega) hs.1 hs.2;have b3:=n0 (show 0≤x.m-iC r x by omega) (show x.m-iC r x≤1000000 by omega) hr.1 (show r.l≤4000 by omega);have b4:=n0 hm.1 hm.2 hs.1 hs.2;have b5:=n0 hm.1 hm.2 hr.1 (show r.l≤4000 by omega);simp only[Rw.enc,xW.enc]at hF;unfold parts held aoK atN aoJ wat;generalize iC r x=m at *
 have w1:=fK (n:=m*r.v) (by omega);have w2:=fK (n:=x.m-m) (by omega);have w3:=fK (n:=x.h-m*r.v) (by omega);have w4:=fK (n:=(x.m-m)*r.s) (by omega);have w5:=fK (n:=(x.m-m)*r.l) (by omega);have w6:=fK (n:=x.h-m*r.v-(x.m-m)*r.l) (by omega);have w7:=fK (n:=x.m*r.s) (by omega);have w8:=fK (n:=x.m*r.l) (by omega);have w9:=fK (n:=x.h-x.m*r.l) (by omega);have v1:=fK (n:=x.s-min x.s (x.m*r.s)) (by omega);have v2:=fK (n:=x.s-min x.s ((x.m-m)*r.s)) (by omega);have v3:=fK (n:=x.s) (by omega);have v4:min x.s 0=0:=by omega
 by_cases c1:m=0
 ·subst c1;by_cases c2:0<x.m
  ·simp[-length_flatMap,-map_take,hF,w7,w8,w9,v1,c2]
  ·simp[-length_flatMap,-map_take,hF,w7,w8,w9,v1,c2]
 ·by_cases c2:m=x.m
  ·subst c2;simp[-length_flatMap,-map_take,hF,c1,v3,v4]
  ·have c3:0<x.m-m:=by omega
   have c4:m<x.m:=by omega
   simp[-length_flatMap,-map_take,hF,c1,c2,c3,c4,w1,w2,w3,w4,w5,w6,v2]
theorem aob{t:List Rw}(ht:j1 t=true){i:Nat}{r:Rw}(h:t[i]?=some r):(0≤r.l∧r.l<r.v∧r.v≤4000)∧(0≤r.s∧r.s≤2000):=by
 simp only[j1,ae]at ht;have:=jv.1 ht.2.1 r (ai h);simp only[Rw.alone,ae,aR,ao]at this;obtain⟨_,_,h3,h4,h5,h6⟩:=this;exact⟨⟨h3.1,h5,h6⟩,h4⟩
theorem aby{t:List Rw}(ht:j1 t=true){i:Nat}{r:Rw}(hi:t[i]?=some r){x:xW}(hx:x.valid=true):
  lim T (.call false pj [.aE t.length (t.flatMap Rw.enc),.int .i64 i,.agg x.enc] σ)=some (.val (.dQ [.agg (parts r x),.int .i64 0]) σ):=by
 refine au BW rT.eq_1 rfl ?_;have hl:t.length≤20:=by
  simp only[j1,ae]at ht;have:=aR.1 ht.1;omega
 have hil:i<t.length:=(aw.1 hi).1;have h1:=fun σ=>B7 (σ:=σ) (t:=t) (by omega)
 have h2:=fun σ=>adm (σ:=σ) (t:=t) (n:=i) (by omega)
 have h3:=fun σ=>Fz (σ:=σ) (x:=x)
 have h4:=fun σ=>apQ (σ:=σ) hi
 obtain⟨r1,r2⟩:=aob ht hi;have h5:=fun σ=>apN (σ:=σ) r1 r2 hx
 have hin:bT i 0 ((t.length:Int)-1)=true:=aR.2 (by omega);rw[hin]at h2;rw[hx]at h3;rw[ht]at h1;simp only[xW.enc,Rw.enc]at h3 h4 h5;have hp:(parts r x).length=10:=rfl;have hp2:(parts r x).take 10=parts r x:=rfl;have hpc:D.bu (parts r x)=true:=by simp[parts]
 generalize parts r x=P at *
 simp[-length_flatMap,-map_take,h1,h2,h3,h4,h5,hp,hp2];rw[kV (by simp[D.clean,hpc]) (by omega)];exact⟨_,rfl⟩
structure Yv(b:cf)(y:List Rock.aG):Prop where
 len:y.length=b.ak.length
 ok:∀o∈y,(0≤o.m∧o.m≤1000000)∧(0≤o.h∧o.h≤10000000000)∧(0≤o.k∧o.k≤1000000000000)
theorem Yv.of{b:cf}{s:List Rock.aG}{aN:List Int}(h:Bv b)(hs:Sv b s)(hr:Rv b aN):Yv b (dW b s aN):=by
 refine⟨by simp[dW,hr.len],?_⟩;intro o ho;simp only[dW,bN]at ho;obtain⟨⟨w,r⟩,hm,rfl⟩:=ho;have hw:=GQ h w (List.of_mem_zip hm).1;have hb:=hr.ok r (List.of_mem_zip hm).2;simp only[ru];split
 ·simp
 ·obtain⟨_,h1,h2,h3⟩:=hs.at (i:=w.b.toNat) (by omega);generalize bM s w.b.toNat=x at *
  have h8:x.m.tdiv 8=x.m / 8:=ba (by omega);have hq:0≤min r (x.m.tdiv 8)∧min r (x.m.tdiv 8)≤x.m:=by omega
  exact⟨⟨hq.1,by simp only[Rock.aG.out];omega⟩,H6 h1.1 h2 hq,H6 h1.1 h3 hq⟩
theorem abi{b:cf}{m:cF}{s:List Rock.aG}{aN:List Int}{s' y:List Rock.aG}(h:Bv b)(hs:Sv b s)(hr:Rv b aN)(ht:tick b m s aN=some (s',y)):Sv b s'∧Yv b y:=by
 refine⟨Sv.next h ht,?_⟩;unfold tick at ht;split at ht
 ·simp only[ad,aj]at ht;rw[← ht.2];exact Yv.of h hs hr
 ·cases ht
structure JM(b:cf)(n:Nat)(ss ys:List (List Rock.aG)):Prop where
 sl:ss.length=n+1
 yl:ys.length=n
 sv:∀s∈ss,Sv b s
 yv:∀y∈ys,Yv b y
theorem JM.from{b:cf}{m:cF}(h:Fv b m):∀(av:List (List Int)) (n:Nat) (ss ys:List (List Rock.aG)) (s:List Rock.aG) {ss' ys':List (List Rock.aG)},(∀r∈av,Rv b r)→JM b n ss ys→Sv b s→uV b m ss ys s av=some (ss',ys')→JM b (n+av.length) ss' ys'
 |[],n,ss,ys,s,ss',ys',hr,h1,h2,he=>by
  simp only[uV,ad,aj]at he;obtain⟨rfl,rfl⟩:=he;exact h1
 |r::av,n,ss,ys,s,ss',ys',hr,h1,h2,he=>by
  simp only[uV]at he;split at he
  ·rename_i s' y ht;obtain⟨g1,g2⟩:=abi h.bv h2 (hr r (List.mem_cons_self ..)) ht;have:=JM.from h av (n+1) _ _ _ (fun x hx=>hr x (List.mem_cons_of_mem _ hx)) (⟨by simp[h1.sl],by simp[h1.yl],by
    intro x hx;rcases aY.1 hx with hx | hx
    ·exact h1.sv x hx
    ·rw[List.mem_singleton.1 hx];exact g1,by
    intro x hx;rcases aY.1 hx with hx | hx
    ·exact h1.yv x hx
    ·rw[List.mem_singleton.1 hx];exact g2⟩:JM b (n+1) (ss++[s']) (ys++[y])) g1 he
   rw[show n+(r::av).length=n+1+av.length by simp;omega];exact this
  ·cases he
theorem JM.of{b:cf}{m:cF}{av:List (List Int)}{ss ys:List (List Rock.aG)}(h:Fv b m)(hr:∀r∈av,Rv b r)(he:Rock.run b m av=some (ss,ys)):JM b av.length ss ys:=by
 have:=JM.from h av 0 _ _ _ hr (⟨rfl,rfl,by simpa using Sv.first h,by simp⟩:JM b 0 [dA b m] []) (Sv.first h) he;simpa using this
theorem NZ{l:List cF}{j:Nat}{m:cF}(h:l[j]?=some m):((l.flatMap cF.enc).drop (j*2)).take 2=[.str m.name,.aE m.bf.length (m.bf.flatMap aU)] :=
 cj (f:=cF.enc) (w:=2) (fun _=>rfl) h
def Z0(b:cf)(m:cF)(i:Nat):Bool:=bT (uE b m 0 i) 1000 100000 && (bT (uE b m 1 i) 0 1000 && (bT (uE b m 2 i) 0 3000 && bT (uE b m 3 i) 0 1000))
def J8(b:cf)(m:cF)(i:Nat):Nat→Bool
 |0=>true
 |k+1=>Z0 b m i && J8 b m (i+1) k
theorem HL{b:cf}{m:cF}:∀{k i:Nat},J8 b m i k=true↔∀j,i≤j→j<i+k→Z0 b m j=true
 |0,i=>by simp[J8];omega
 |k+1,i=>by
  rw[J8,ae,HL];constructor
  ·intro⟨h1,h2⟩ j h3 h4;by_cases hj:j=i
   ·subst hj;exact h1
   ·exact h2 j (by omega) (by omega)
  ·intro h;exact⟨h i (by omega) (by omega),fun j h3 h4=>h j (by omega) (by omega)⟩
theorem LC{b:cf}{m:cF}(h:Bv b):gz b.f [m]=0↔b.f.model m=0:=by
 simp only[gz,h.fv,if_true,fw.an,fw.each];have h1:bT (([m]:List cF).length:Nat) 1 40=true:=by simp[bT]
 rw[if_pos h1];by_cases hc:b.f.model m=0
 ·simp[hc]
 ·simp[hc]
theorem NI{b:cf}{m:cF}(h:Bv b):fits b m=(decide (b.f.model m=0) && J8 b m 0 b.n):=by
 by_cases hc:b.f.model m=0
 ·have hm:=Mv.of h ((LC h).2 hc);have hcm:=(LC h).2 hc;have key:∀{k:Nat} {lo hi:Int},k<4→(gw (vh b m k) (fun n=>bT n lo hi)=true↔∀i,i<b.n→bT (uE b m k i) lo hi=true):=by
   intro k lo hi hk;rw[jv];constructor
   ·intro ha i hi';exact ha _ (ai (wL hm hk hi'))
   ·intro ha x hx;obtain⟨i,hi'⟩:=gr hx;have hlt:i<b.n:=by have:=(aw.1 hi').1;rwa[HV hm hk]at this
    rw[wL hm hk hlt]at hi';cases hi';exact ha i hlt
  rw[Bool.eq_iff_iff];simp only[fits,hcm,hc,decide_true,Bool.true_and,ae,HL,Z0];rw[key (by decide),key (by decide),key (by decide),key (by decide)];constructor
  ·intro⟨h1,h2,h3,h4⟩ j _ hj;exact⟨h1 j (by omega),h2 j (by omega),h3 j (by omega),h4 j (by omega)⟩
  ·intro hh;exact⟨fun i hi=>(hh i (by omega) (by omega)).1,fun i hi=>(hh i (by omega) (by omega)).2.1,fun i hi=>(hh i (by omega) (by omega)).2.2.1,fun i hi=>(hh i (by omega) (by omega)).2.2.2⟩
 ·have hcm:¬gz b.f [m]=0:=fun hh=>hc ((LC h).1 hh)
  simp[fits,hc,hcm]
def aay(b:cf)(l:List cF):Int:=if bT l.length 1 40 then(if b.f.an l=0 then(if gw l (fits b)then 0 else 1)else 1)else 3
def ajH(b:cf)(l:List cF)(av:List (List Int)):Bool:=b.valid && (decide (l.length≤4) && (decide (aay b l=0) && (decide (av.length≤6) && decide (vK b av=0))))
theorem LD(l:List cF):D.bu (l.flatMap cF.enc)=true:=fZ (fun x=>by simp[D.clean,bj]) l
structure Ok(b:cf)(l:List cF)(av:List (List Int)):Prop where
 bv:Bv b
 valid:b.valid=true
 len:1≤l.length∧l.length≤40
 an:b.f.an l=0
 fit:∀m∈l,fits b m=true
 fv:∀m∈l,Fv b m
 short:∀m∈l,m.name.length≤1000000000∧m.bf.length≤384
 pl:vK b av=0
 PC:av.length≤200
 aN:∀r∈av,Rv b r
theorem anF{b:cf}{m:cF}(h:Bv b)(hf:fits b m=true):m.name.length≤16:=by
 rw[NI h,ae,ao]at hf;have hm:=hf.1;unfold fw.model at hm;split at hm
 ·rename_i hn;simp only[named,ae]at hn;have:=aR.1 hn.2;omega
 ·cases hm
theorem Ok.of{b:cf}{l:List cF}{av:List (List Int)}(h:ajH b l av=true):Ok b l av:=by
 simp only[ajH,ae,ao]at h;obtain⟨h1,h2,h3,h4,h5⟩:=h;have hb:=Bv.of h1;unfold aay at h3;split at h3
 ·rename_i hi;split at h3
  ·rename_i hm;split at h3
   ·rename_i hf;have hfit:∀m∈l,fits b m=true:=jv.1 hf;have hfv:∀m∈l,Fv b m:=fun m hm=>Fv.of (by simp[Bd,h1,hfit m hm])
    exact⟨hb,h1,⟨by have:=aR.1 hi;omega,by omega⟩,hm,hfit,hfv,fun m hm=>⟨by have:=anF hb (hfit m hm);omega,(hfv m hm).toMv.le.2⟩,h5,by omega,(zy h5).2⟩
   ·cases h3
  ·cases h3
 ·cases h3
theorem Ok.check{b:cf}{l:List cF}{av:List (List Int)}(h:Ok b l av):gz b.f l=0:=by
 simp[gz,h.bv.fv,h.an]
theorem Qr{b:cf}{m:cF}(h:Bv b)(hn:m.name.length≤1000000000)(hl:m.bf.length≤1000000000):lim T (.call false nV [.agg [.str m.name,.aE m.bf.length (m.bf.flatMap aU)],.bw [.int .i64 b.f.x,.int .i64 b.f.y,.int .i64 b.f.z,.int .i64 b.f.k,.aE b.cc.length (b.cc.flatMap Rw.enc),.int .i64 b.bD,.int .i64 b.lift,.int .i64 b.deep,.aE b.ak.length (b.ak.flatMap bB.enc)]] σ)=some (.val (.bool (fits b m)) σ):=by
 refine au FR tF.eq_1 rfl ?_;have hC:=fun σ=>Lg (σ:=σ) (m:=m) h hn hl
 simp[-length_flatMap,-map_take,hC,cq,bg,bj]
theorem Ll{b:cf}{l:List cF}(h:Bv b)(hs:∀m∈l,m.name.length≤1000000000∧m.bf.length≤1000000000)(hl:l.length≤1000000000):
  lim T (.call false gR [.aE l.length (l.flatMap cF.enc),.fn nV [] [.bw [.int .i64 b.f.x,.int .i64 b.f.y,.int .i64 b.f.z,.int .i64 b.f.k,.aE b.cc.length (b.cc.flatMap Rw.enc),.int .i64 b.bD,.int .i64 b.lift,.int .i64 b.deep,.aE b.ak.length (b.ak.flatMap bB.enc)]]] σ)=some (.val (.bool (gw l (fits b))) σ) :=
 ze (wD 2 cF.enc (fun _=>rfl)) (f:=gR) (g:=ju) (h:=dY) (i:=fp) (l:=l) (p:=fits b) rfl rfl rfl rfl (by omega) (pw.fn fun x hx σ=>Qr h (hs x hx).1 (hs x hx).2) rfl
theorem abU{b:cf}{l:List cF}{av:List (List Int)}(h:Ok b l av):
  lim T (.call false tN [.agg [.int .i64 b.f.x,.int .i64 b.f.y,.int .i64 b.f.z,.int .i64 b.f.k,.aE b.cc.length (b.cc.flatMap Rw.enc),.int .i64 b.bD,.int .i64 b.lift,.int .i64 b.deep,.aE b.ak.length (b.ak.flatMap bB.enc)],.aE l.length (l.flatMap cF.enc),.aE av.length (av.flatMap E9)] σ)=some (.val (.int .i64 0) σ):=by
 refine au IB vU.eq_1 rfl ?_;have hs:∀m∈l,m.name.length≤1000000000∧m.bf.length≤1000000000:=fun m hm=>⟨(h.short m hm).1,by have:=(h.short m hm).2;omega⟩
 have hl:=h.len;have htab:=h.bv.cc;have ht:b.cc.length≤1000000000:=by
  simp only[j1,ae]at htab;have:=aR.1 htab.1;omega
 have h1:=fun σ=>Ah (σ:=σ) (b:=b) ht (by have:=h.bv.ak;omega)
 have h2:=fun σ=>BU (σ:=σ) (f:=b.f) (l:=l) hs (by omega)
 have h3:=fun σ=>Ll (σ:=σ) (l:=l) h.bv hs (by omega)
 have h4:=fun σ=>Qp (σ:=σ) (b:=b) (av:=av) (by have:=h.PC;omega) (fun r hr=>by have:=(h.aN r hr).len;have:=h.bv.ak;omega)
 have hi:bT l.length 1 40=true:=aR.2 (by omega);have ha:gw l (fits b)=true:=jv.2 h.fit;rw[h.valid]at h1;rw[h.check]at h2;rw[ha]at h3;rw[h.pl]at h4;simp[-length_flatMap,-map_take,h1,h2,h3,h4,dp,hi,cq,bg,bj]
abbrev RunT:=List (List Rock.aG)×List (List Rock.aG)
def CI(r:RunT):List D:=[.aE r.1.length (r.1.flatMap xM),.aE r.2.length (r.2.flatMap xM)]
theorem aaX(l:List RunT):(l.flatMap CI).length=l.length*2:=b9 (f:=CI) (w:=2) (fun _=>rfl) l
def wV(b:cf)(av:List (List Int)):List cF→Option (List RunT)
 |[]=>some []
 |m::l=>match Rock.run b m av with
  |some r=>(wV b av l).map (r :: ·)
  |none=>none
def KL(n:Nat)(acc:List RunT)(σ:SK)(r:Option (List RunT))(x:Abs.Exit)(e:Env)(σ':SK):Prop:=match r with
 |some rs=>x=.exit 0∧get e 6=.sl σ.length 0 n 0 n 2∧σ'=[.cells n ((acc++rs).flatMap CI)]::σ
 |none=>x=.fx (.tQ 259 (.agg []))∧∃bk,σ'=bk::σ
theorem Lt{b:cf}{l:List cF}{av:List (List Int)}(h:Ok b l av):∀(k i:Nat) (acc:List RunT),i+k=l.length→acc.length=i →
  WL T [2,3,6,9,10,11] false tG [(2,.aE av.length (av.flatMap E9)),(3,.bw [.int .i64 b.f.x,.int .i64 b.f.y,.int .i64 b.f.z,.int .i64 b.f.k,.aE b.cc.length (b.cc.flatMap Rw.enc),.int .i64 b.bD,.int .i64 b.lift,.int .i64 b.deep,.aE b.ak.length (b.ak.flatMap bB.enc)]),(6,.sl σ.length 0 i 0 i 2),(9,.aE l.length (l.flatMap cF.enc)),(10,.int .i64 l.length),(11,.int .i64 i)] ([.cells i (acc.flatMap CI)]::σ)
   (KL l.length acc σ (wV b av (l.drop i)))
 |0,i,acc,hi,ha=>by
  refine aH tG.eq_1 ?_;obtain rfl:i=l.length:=by omega
  have h2:l.drop l.length=[]:=az (by omega);simp[-length_flatMap,-map_take,h2,wV,KL]
 |k+1,i,acc,hi,ha=>by
  refine aH tG.eq_1 ?_;have h1:i<l.length:=by omega
  obtain⟨m,hm⟩:=gE h1;have hlen:=h.len;have h2:=NZ hm;have h4:=ga h1 (by omega);have h5:=dh hm;have hmem:=ai hm;have a4:=aaX acc;rw[ha]at a4;have a6:(acc.flatMap CI).take (i*2)=acc.flatMap CI:=ah (by omega);have h7:(i+1)*48≤room:=by unfold room;omega
  have hp:av.length≤200:=by have:=h.PC;omega
  rw[h5,wV];cases hr:Rock.run b m av with
  |none =>
   have hC:=fun σ=>MF (σ:=σ) (h.fv m hmem) hp h.aN hr
   simp[-length_flatMap,-map_take,h1,h2,h4,hC,KL,cq,bg,bj]
  |some r =>
   obtain⟨ss,ys⟩:=r;have hC:=fun σ hσ=>MG (σ:=σ) (h.fv m hmem) hp h.aN hσ hr
   have ih:=Lt h k (i+1) (acc++[(ss,ys)]) (by omega) (by simp[ha]);simp[-length_flatMap,-map_take,h1,h2,h4,hC,a4,a6,h7,cq,bg,bj,D.clean,HE];refine WL.to ih (by simp) (by simp[CI]) fun x e σ' hh=>?_
   cases hq:wV b av (l.drop (i+1))with
   |none=>rw[hq]at hh;simpa[KL]using hh
   |some rs=>rw[hq]at hh;simpa[KL]using hh
theorem Qx{b:cf}{l:List cF}{av:List (List Int)}(h:Ok b l av)(hσ:σ≠[]){rs:List RunT}(hr:wV b av l=some rs)(hl:rs.length=l.length):
  lim T (.call false sU [.agg [.int .i64 b.f.x,.int .i64 b.f.y,.int .i64 b.f.z,.int .i64 b.f.k,.aE b.cc.length (b.cc.flatMap Rw.enc),.int .i64 b.bD,.int .i64 b.lift,.int .i64 b.deep,.aE b.ak.length (b.ak.flatMap bB.enc)],.aE l.length (l.flatMap cF.enc),.aE av.length (av.flatMap E9)] σ)=some (.val (.aE rs.length (rs.flatMap CI)) σ):=by
 refine au EE vb.eq_1 rfl ?_;simp[-length_flatMap,-map_take,cq,bg,bj];refine WL.to (Lt (σ:=σ) h l.length 0 [] (by omega) rfl) (by simp) (by simp) ?_;rw[aJ,hr];rintro x e σ' ⟨rfl,g6,rfl⟩;simp[-length_flatMap,-map_take,g6];rw[← hl,zU (f:=CI) (by decide) (fun _=>rfl) (fun x=>by simp[CI,D.clean,HE]) hσ (by simp)];simp
theorem Qw{b:cf}{l:List cF}{av:List (List Int)}(h:Ok b l av)(hr:wV b av l=none):
  lim T (.call false sU [.agg [.int .i64 b.f.x,.int .i64 b.f.y,.int .i64 b.f.z,.int .i64 b.f.k,.aE b.cc.length (b.cc.flatMap Rw.enc),.int .i64 b.bD,.int .i64 b.lift,.int .i64 b.deep,.aE b.ak.length (b.ak.flatMap bB.enc)],.aE l.length (l.flatMap cF.enc),.aE av.length (av.flatMap E9)] σ)=some (.fx (.tQ 259 (.agg [])) σ):=by
 refine dJ EE vb.eq_1 rfl ?_;simp[-length_flatMap,-map_take,cq,bg,bj];refine WL.to (Lt (σ:=σ) h l.length 0 [] (by omega) rfl) (by simp) (by simp) ?_;rw[aJ,hr];rintro x e σ' ⟨rfl,bk,rfl⟩;simp[D.clean]
theorem Ih{b:cf}{av:List (List Int)}:∀{l:List cF} {rs:List RunT},wV b av l=some rs→rs.length=l.length∧∀(i:Nat) m,l[i]?=some m→∃r,rs[i]?=some r∧Rock.run b m av=some r
 |[],rs,h=>by simp only[wV,ad]at h;subst h;simp
 |m::l,rs,h=>by
  simp only[wV]at h;cases hr:Rock.run b m av with
  |none=>rw[hr]at h;cases h
  |some r =>
   rw[hr]at h;simp only[ab]at h;obtain⟨rs',h1,rfl⟩:=h;obtain⟨g1,g2⟩:=Ih h1;refine⟨by simp[g1],?_⟩;intro i m' hm';cases i with
   |zero=>simp only[ch,ad]at hm';subst hm';exact⟨r,rfl,hr⟩
   |succ i=>simpa using g2 i m' (by simpa using hm')
theorem ab3{x:Rock.aG}:lim T (.call false jT [.agg x.enc] σ)=some (.val (.int .i64 x.m) σ):=by
 refine au CY pH.eq_1 rfl ?_;simp[-length_flatMap,-map_take]
theorem QE{x:Rock.aG}:lim T (.call false ja [.agg x.enc] σ)=some (.val (.int .i64 x.k) σ):=by
 refine au Ck oE.eq_1 rfl ?_;simp[-length_flatMap,-map_take]
def rowAt(l:List (List Rock.aG))(t:Nat):List Rock.aG:=(l[t]?).getD []
structure Rs(b:cf)(l:List cF)(n:Nat)(rs:List RunT):Prop where
 len:rs.length=l.length
 ne:1≤l.length∧l.length≤40
 n6:n≤200
 ak:b.ak.length≤8
 bn:1≤b.n∧b.n≤64
 all:∀r∈rs,JM b n r.1 r.2
 fv:∀m∈l,Fv b m
theorem aaQ{b:cf}{n:Nat}{r:RunT}(h:JM b n r.1 r.2){t:Nat}(ht:t<n):r.2[t]?=some (rowAt r.2 t)∧Yv b (rowAt r.2 t):=by
 have h1:t<r.2.length:=by rw[h.yl];exact ht
 have h2:r.2[t]?=some r.2[t]:=aK h1;have h3:rowAt r.2 t=r.2[t]:=by simp[rowAt,h2]
 rw[h3];exact⟨h2,h.yv _ (List.getElem_mem h1)⟩
theorem ajC{b:cf}{n:Nat}{r:RunT}(h:JM b n r.1 r.2){t:Nat}(ht:t≤n):r.1[t]?=some (rowAt r.1 t)∧Sv b (rowAt r.1 t):=by
 have h1:t<r.1.length:=by rw[h.sl];omega
 have h2:r.1[t]?=some r.1[t]:=aK h1;have h3:rowAt r.1 t=r.1[t]:=by simp[rowAt,h2]
 rw[h3];exact⟨h2,h.sv _ (List.getElem_mem h1)⟩
theorem ajR{b:cf}{y:List Rock.aG}(h:Yv b y){w:Nat}(hw:w<b.ak.length):y[w]?=some (bM y w):=by
 have h1:w<y.length:=by rw[h.len];exact hw
 simp[bM,aK h1]
theorem aa9{l:List (List Rock.aG)}{t:Nat}{s:List Rock.aG}(h:l[t]?=some s):((l.flatMap xM).drop t).take 1=[.aE s.length (s.flatMap aG.enc)]:=by
 have:=cj (f:=xM) (w:=1) (fun _=>rfl) h;simpa[xM]using this
theorem acY{l:List RunT}{j:Nat}{r:RunT}(h:l[j]?=some r):((l.flatMap CI).drop (j*2)).take 2=[.aE r.1.length (r.1.flatMap xM),.aE r.2.length (r.2.flatMap xM)] :=
 cj (f:=CI) (w:=2) (fun _=>rfl) h
end Go.Proofs.YtklfdfnoebnciaaGreatDoor
namespace Go.Rock
open List(length_flatMap map_take)
open Go Go.Abs
def three:List Rw:=[⟨100,101,419,2676,150⟩,⟨150,476,632,2746,300⟩,⟨200,1555,852,2793,600⟩]
end Go.Rock
namespace Go.Proofs.YtklfdfnoebnciaaGreatDoor
open List(length_flatMap map_take)
open Go Go.Abs Go.Rock
variable {σ:SK}
theorem Rs.of{b:cf}{l:List cF}{av:List (List Int)}(h:Ok b l av){rs:List RunT}(hr:wV b av l=some rs):Rs b l av.length rs:=by
 obtain⟨h1,h2⟩:=Ih hr;refine⟨h1,h.len,h.PC,h.bv.ak,h.bv.n,?_,h.fv⟩;intro r hmem;obtain⟨i,hi⟩:=gr hmem;have hlt:i<l.length:=by rw[← h1];exact(aw.1 hi).1
 obtain⟨m,hm⟩:=gE hlt;obtain⟨r',h3,h4⟩:=h2 i m hm;rw[hi]at h3;cases h3;exact JM.of (h.fv m (ai hm)) h.aN h4
theorem J9(l:List Nat):(l.flatMap fun _=>[D.aE 0 []])=List.replicate l.length (.aE 0 []):=by
 induction l with
 |nil=>rfl
 |cons a l ih=>rw[aQ,ih];rfl
end Go.Proofs.YtklfdfnoebnciaaGreatDoor
namespace Go.Rock
open List(length_flatMap map_take)
open Go Go.Abs
structure wZ where
 name:List UInt8
 kind:Int
 bl:List Int
 wt:List Int
 lo:Int
 hi:Int
structure vO where
 tick:Int
 qI:Int
 idx:Int
 lo:Int
 hi:Int
@[simp] theorem wZ.eta(p:wZ):wZ.mk p.name p.kind p.bl p.wt p.lo p.hi=p:=rfl
@[simp] theorem vO.eta(p:vO):vO.mk p.tick p.qI p.idx p.lo p.hi=p:=rfl
@[simp] def wZ.enc(m:wZ):List D:=[.str m.name,.int .i64 m.kind,.aE m.bl.length (m.bl.flatMap aU),.aE m.wt.length (m.wt.flatMap aU),.int .i64 m.lo,.int .i64 m.hi]
@[simp] def vO.enc(x:vO):List D:=[.int .i64 x.tick,.int .u8 x.qI,.int .i64 x.idx,.int .i64 x.lo,.int .i64 x.hi]
def AW(n:Int):Int→List Int→List Int→Bool
 |last,b::bl,w::wt=>decide (last<b) && (decide (b<n) && (bT w (-1000) 1000 && AW n b bl wt))
 |_,_,_=>true
def GP(f:fw)(kind:Int)(bl wt:List Int):Bool:=bT kind 0 (f.k-1) && (decide (1≤bl.length) && (decide (bl.length=wt.length) && AW f.size (-1) bl wt))
def Gb(lo hi:Int):Bool:=decide (-10000000000≤lo) && (decide (lo≤hi) && decide (hi≤10000000000))
def fw.measure(f:fw)(m:wZ):Int:=if named m.name then(if GP f m.kind m.bl m.wt && Gb m.lo m.hi then 0 else 1)else 5
def fw.Da(f:fw)(met:List (List UInt8)):List wZ→Int
 |[]=>0
 |m::l=>if f.measure m=0 then(if met.contains m.name then 6 else f.Da (met++[m.name]) l)else f.measure m
def fw.Ds(f:fw)(l:List wZ):Int:=if 12<l.length then 3 else f.Da [] l
structure Mev(f:fw)(x:wZ):Prop where
 name:x.name.length≤16
 kind:0≤x.kind∧x.kind<f.k
 ne:1≤x.bl.length
 len:x.bl.length=x.wt.length
 as3:AW f.size (-1) x.bl x.wt=true
 ends : -10000000000≤x.lo∧x.lo≤x.hi∧x.hi≤10000000000
theorem Mev.of{f:fw}{x:wZ}(h:f.measure x=0):Mev f x:=by
 unfold fw.measure at h;split at h
 ·rename_i h1;split at h
  ·rename_i h2;simp only[GP,Gb,ae,ao,aR]at h2;obtain⟨⟨h3,h4,h5,h6⟩,h7,h8,h9⟩:=h2;simp only[named,ae]at h1;have:=aR.1 h1.2;exact⟨by omega,by omega,h4,h5,h6,h7,h8,h9⟩
  ·cases h
 ·cases h
theorem Ip{n:Int}:∀{bl wt:List Int} {last:Int},bl.length=wt.length→AW n last bl wt=true→last<n→(bl.length:Int)≤n-1-last
 |[],wt,last,hl,h,hn=>by simp;omega
 |b::bl,[],last,hl,h,hn=>by simp at hl
 |b::bl,w::wt,last,hl,h,hn=>by
  simp only[AW,ae,ao]at h;obtain⟨h1,h2,h3,h4⟩:=h;have:=Ip (n:=n) (bl:=bl) (wt:=wt) (last:=b) (by simpa using hl) h4 h2;simp only[aD];omega
theorem KV{n:Int}:∀{bl wt:List Int} {last:Int} {i:Nat} {b w:Int},AW n last bl wt=true→bl[i]?=some b→wt[i]?=some w→last<b∧b<n∧(-1000≤w∧w≤1000)
 |[],wt,last,i,b,w,h,hb,hw=>by simp at hb
 |b'::bl,[],last,i,b,w,h,hb,hw=>by simp at hw
 |b'::bl,w'::wt,last,i,b,w,h,hb,hw=>by
  simp only[AW,ae,ao]at h;obtain⟨h1,h2,h3,h4⟩:=h;cases i with
  |zero =>
   simp only[ch,ad]at hb hw;subst hb hw;exact⟨h1,h2,aR.1 h3⟩
  |succ i =>
   have:=KV h4 (by simpa using hb) (by simpa using hw);omega
def abe(bf:List Int)(off:Int):Int→List Int→List Int→Int
 |acc,b::bl,w::wt=>abe bf off (acc+w*(bf[(off+b).toNat]?).getD 0) bl wt
 |acc,_,_=>acc
def K3(f:fw)(m:cF)(x:wZ):Int:=abe m.bf (x.kind*f.size) 0 x.bl x.wt
def aaz(lo hi s:Int):Int:=if hi<s then s-hi else if s<lo then s-lo else 0
def AP(lo hi s:Int):Int:=max 0 (s-hi)+min 0 (s-lo)
theorem LX{lo hi s:Int}(h:lo≤hi):AP lo hi s=aaz lo hi s:=by
 unfold AP aaz;split
 ·omega
 ·split<;>omega
def aG.Et(y:aG):Int:=if y.m=0 then 0 else y.h.tdiv y.m
def aG.KW(y:aG)(qI:Int):Int:=if qI=2 then y.m else if qI=3 then y.Et else y.k
def vl(b:cf)(m:cF)(r:List (List aG)×List (List aG))(x:vO):Int :=
 if x.qI=1 then kr b m ((r.1[x.tick.toNat]?).getD []) x.idx.toNat else aG.KW (bM ((r.2[x.tick.toNat-1]?).getD []) x.idx.toNat) x.qI
def vk(b:cf)(yT:Int)(x:vO):Int :=
 if !bT x.qI 1 4 || (decide (x.lo < -10000000000) || (decide (x.hi<x.lo) || decide (10000000000<x.hi)))then 1
 else if !bT x.tick (if x.qI=1 then 0 else 1) yT || !bT x.idx 0 ((if x.qI=1 then b.size else b.ak.length)-1)then 2 else 0
def wS(b:cf)(yT:Int)(l:List vO):Int:=if 40<l.length then 3 else cN (vk b yT) l
structure Rdv(b:cf)(n:Nat)(x:vO):Prop where
 qI:1≤x.qI∧x.qI≤4
 ends : -10000000000≤x.lo∧x.lo≤x.hi∧x.hi≤10000000000
 p:x.qI=1→(0≤x.tick∧x.tick≤n)∧0≤x.idx∧x.idx<b.size
 y:x.qI≠1→(1≤x.tick∧x.tick≤n)∧0≤x.idx∧x.idx<b.ak.length
theorem Rdv.of{b:cf}{n:Nat}{x:vO}(h:vk b n x=0):Rdv b n x:=by
 unfold vk at h;by_cases h3:x.qI=1
 ·rw[if_pos h3,if_pos h3]at h;split at h
  ·cases h
  ·rename_i h1;simp only[bW,ao,cX,not_or,Bool.not_eq_false,aR]at h1;split at h
   ·cases h
   ·rename_i h2;simp only[bW,cX,not_or,Bool.not_eq_false,aR]at h2;exact⟨h1.1,by omega,fun _=>by omega,fun h=>absurd h3 h⟩
 ·rw[if_neg h3,if_neg h3]at h;split at h
  ·cases h
  ·rename_i h1;simp only[bW,ao,cX,not_or,Bool.not_eq_false,aR]at h1;split at h
   ·cases h
   ·rename_i h2;simp only[bW,cX,not_or,Bool.not_eq_false,aR]at h2;exact⟨h1.1,by omega,fun h=>absurd h h3,fun _=>by omega⟩
end Go.Rock
namespace Go.Proofs.YtklfdfnoebnciaaGreatDoor
open List(length_flatMap map_take)
open Go Go.Abs Go.Rock
variable {σ:SK}
theorem Ht{f:fw}(h:f.valid=true):lim T (.call false cY [.agg [.int .i64 f.x,.int .i64 f.y,.int .i64 f.z,.int .i64 f.k]] σ)=some (.val (.int .i64 f.size) σ):=by
 obtain⟨h1,h2,h3,h4,h5⟩:=fw.sX.1 h;exact Fs h1 h2 h3
theorem QO{f:fw}{bl wt:List Int}(hf:f.valid=true)(hl:bl.length≤9223372036854775807)(hw:bl.length=wt.length):∀(k i:Nat) (last:Int),i+k=bl.length →
  WL T [3,4,9,30,31,32] false kA [(3,.aE wt.length (wt.flatMap aU)),(4,.bw [.int .i64 f.x,.int .i64 f.y,.int .i64 f.z,.int .i64 f.k]),(9,.int .i64 last),(30,.aE bl.length (bl.flatMap aU)),(31,.int .i64 bl.length),(32,.int .i64 i)] σ
   (fun x e σ'=>σ'=σ∧if AW f.size last (bl.drop i) (wt.drop i)then x=.exit 0 else x=.ret∧get e 8=.bool false)
 |0,i,last,hi=>by
  refine aH kA.eq_1 ?_;have h1:¬i<bl.length:=by omega
  have h2:bl.drop i=[]:=az (by omega);simp[-length_flatMap,-map_take,h1,h2,AW]
 |k+1,i,last,hi=>by
  refine aH kA.eq_1 ?_;have h1:i<bl.length:=by omega
  have h1':i<wt.length:=by omega
  obtain⟨b,hb⟩:=gE h1;obtain⟨w,hw'⟩:∃r,wt[i]?=some r:=⟨_,aK h1'⟩;have h2:=pS hb;have h3:=pS hw';have h4:=ga h1 hl;have h5:=dh hb;have h6:=dh hw';have hB:=fun σ=>Ht (σ:=σ) hf
  have ih:=QO hf hl hw k (i+1) b (by omega);rw[h5,h6,AW];by_cases c1:b≤last
  ·simp[-length_flatMap,-map_take,h1,h1',h2,h3,h4,hB,gn,c1,show ¬last<b by omega]
  ·by_cases c2:f.size≤b
   ·simp[-length_flatMap,-map_take,h1,h1',h2,h3,h4,hB,gn,c1,c2,show last<b by omega,show ¬b<f.size by omega]
   ·cases c3:bT w (-1000) 1000
    ·simp[-length_flatMap,-map_take,h1,h1',h2,h3,h4,hB,gn,c1,c2,c3,show last<b by omega,show b<f.size by omega]
    ·simp[-length_flatMap,-map_take,h1,h1',h2,h3,h4,hB,gn,c1,c2,c3,show last<b by omega,show b<f.size by omega];exact WL.to ih (by simp) rfl fun x e σ hh=>by simpa[show last<b by omega,show b<f.size by omega]using hh
theorem aj9{f:fw}{k:Int}{bl wt:List Int}(hf:f.valid=true)(hl:bl.length≤9223372036854775807)(hk:f.valid=true→True):
  lim T (.call false lq [.agg [.int .i64 f.x,.int .i64 f.y,.int .i64 f.z,.int .i64 f.k],.int .i64 k,.aE bl.length (bl.flatMap aU),.aE wt.length (wt.flatMap aU)] σ)=some (.val (.bool (GP f k bl wt)) σ):=by
 refine au Ca oj.eq_1 rfl ?_;obtain⟨q1,q2,q3,q4,q5⟩:=fw.sX.1 hf;have w1:=fK (n:=f.k-1) (by omega);unfold GP;cases c1:bT k 0 (f.k-1)
 ·simp[-length_flatMap,-map_take,gn,w1,c1]
 by_cases c2:1≤bl.length
 rotate_left
 ·have:bl=[]:=bR.1 (by omega);subst this;simp[-length_flatMap,-map_take,gn,w1,c1]
 have c2':¬(bl.length:Int)<1:=by omega
 have c2'':¬bl=[]:=fun h=>by rw[h]at c2;simp at c2
 by_cases c3:bl.length=wt.length
 rotate_left
 ·simp[-length_flatMap,-map_take,gn,w1,c1,c2',c2'',c3,show ¬(bl.length:Int)=wt.length by omega]
 have c4:¬(wt.length:Int)<1:=by omega
 have c5:¬wt=[]:=fun h=>by rw[h]at c3;simp at c3;exact c2'' c3
 simp[-length_flatMap,-map_take,gn,w1,c1,c2,c2',c2'',c3,c4,c5];refine WL.to (QO (σ:=[]::σ) hf hl c3 bl.length 0 (-1) (by omega)) (by simp[c3]) rfl ?_;rintro x e σ' ⟨rfl,h⟩;simp only[aJ]at h;cases hc:AW f.size (-1) bl wt
 ·simp[hc]at h;simp[h]
 ·simp[hc]at h;simp[-length_flatMap,-map_take,h];omega
theorem abC{lo hi:Int}:lim T (.call false lr [.agg [.int .i64 lo,.int .i64 hi]] σ)=some (.val (.bool (Gb lo hi)) σ):=by
 refine au Cb om.eq_1 rfl ?_;unfold Gb;by_cases c1 : -10000000000≤lo
 ·by_cases c2:lo≤hi<;>simp[-length_flatMap,-map_take,c1,c2]
 ·simp[-length_flatMap,-map_take,c1]
theorem Hy{f:fw}{m:wZ}(hf:f.valid=true)(hn:m.name.length≤1000000000)(hl:m.bl.length≤9223372036854775807):
  lim T (.call false fN [.agg [.int .i64 f.x,.int .i64 f.y,.int .i64 f.z,.int .i64 f.k],.agg m.enc] σ)=some (.val (.int .i64 (f.measure m)) σ):=by
 refine au zZ lJ.eq_1 rfl ?_;have h1:=fun σ=>Fb (σ:=σ) hn
 have h2:=fun σ=>aj9 (σ:=σ) (k:=m.kind) (wt:=m.wt) hf hl (fun _=>trivial)
 unfold fw.measure;cases c1:named m.name
 ·simp[-length_flatMap,-map_take,h1,c1]
 cases c2:GP f m.kind m.bl m.wt
 ·simp[-length_flatMap,-map_take,h1,h2,c1,c2]
 cases c3:Gb m.lo m.hi<;>simp[-length_flatMap,-map_take,h1,h2,abC,c1,c2,c3]
theorem apO{f:fw}{m:wZ}(hf:f.valid=true)(hn:m.name.length≤1000000000)(hl:m.bl.length≤9223372036854775807):
  lim T (.call false dc [.agg m.enc,.bw [.int .i64 f.x,.int .i64 f.y,.int .i64 f.z,.int .i64 f.k]] σ)=some (.val (.dQ [.str m.name,.int .i64 (f.measure m)]) σ):=by
 refine au xX jm.eq_1 rfl ?_;have h:=fun σ=>Hy (σ:=σ) hf hn hl
 simp only[wZ.enc]at h ⊢;simp[-length_flatMap,-map_take,h]
theorem acE{l:List wZ}{j:Nat}{m:wZ}(h:l[j]?=some m):((l.flatMap wZ.enc).drop (j*6)).take 6=m.enc :=
 cj (f:=wZ.enc) (w:=6) (fun _=>rfl) h
def Mf(l:List wZ):Prop:=∀m∈l,m.name.length≤1000000000∧m.bl.length≤9223372036854775807
theorem MI{f:fw}{l:List wZ}(hf:f.valid=true)(hs:Mf l)(hl:l.length≤1000000000):∀(k i:Nat) (met:List (List UInt8)),i+k=l.length →
  WL T [1,5,11,12,13] false fh [(1,.fn dc [] [.bw [.int .i64 f.x,.int .i64 f.y,.int .i64 f.z,.int .i64 f.k]]),(5,.mf σ.length 0),(11,.aE l.length (l.flatMap wZ.enc)),(12,.int .i64 l.length),(13,.int .i64 i)] ([.cells 0 (BQ met)]::σ)
   (fun x e σ'=>∃s,σ'=s::σ∧if f.Da met (l.drop i)=0 then x=.exit 0 else x=.ret∧get e 4=.int .i64 (f.Da met (l.drop i)))
 |0,i,met,hi=>by
  refine aH fh.eq_1 ?_;have h1:¬i<l.length:=by omega
  have h2:l.drop i=[]:=az (by omega);simp[-length_flatMap,-map_take,h1,h2,fw.Da]
 |k+1,i,met,hi=>by
  refine aH fh.eq_1 ?_;have h1:i<l.length:=by omega
  obtain⟨m,hm⟩:=gE h1;have h2:=acE hm;have h4:=ga h1 (by omega);have h5:=dh hm;obtain⟨hs1,hs2⟩:=hs m (ai hm);have hC:=fun σ=>apO (σ:=σ) hf hs1 hs2
  simp only[wZ.enc]at h2 hC;rw[h5,fw.Da];by_cases hc1:f.measure m=0
  ·have hg:=ajr (S:=[.cells 0 (BQ met)]::σ) (l:=σ.length) (i:=0) (met:=met) (k:=m.name) (by simp);cases hc2:met.contains m.name
   ·rw[hc2]at hg;have hp:=ajs (S:=[.cells 0 (BQ met)]::σ) (l:=σ.length) (i:=0) (met:=met) (k:=m.name) (by simp) hc2;have ih:=MI hf hs hl k (i+1) (met++[m.name]) (by omega);simp at hp;have hc3:¬m.name∈met:=by simpa using hc2
    simp[-length_flatMap,-map_take,h1,h2,h4,hC,hc1,hg,hp,hc3];exact WL.to ih (by simp) (by simp) fun x e σ' hh=>by simpa[hc1]using hh
   ·rw[hc2]at hg;have hc3:m.name∈met:=by simpa using hc2
    simp[-length_flatMap,-map_take,h1,h2,h4,hC,hc1,hg,hc3]
  ·simp[-length_flatMap,-map_take,h1,h2,h4,hC,hc1]
theorem abB{f:fw}{l:List wZ}(hf:f.valid=true)(hs:Mf l)(hl:l.length≤1000000000):
  lim T (.call false eQ [.aE l.length (l.flatMap wZ.enc),.fn dc [] [.bw [.int .i64 f.x,.int .i64 f.y,.int .i64 f.z,.int .i64 f.k]]] σ)=some (.val (.int .i64 (f.Da [] l)) σ):=by
 refine au wk gJ.eq_1 rfl ?_;have hm:Af ([]::σ) .make []=some (.mf σ.length 0,[.cells 0 (BQ [])]::σ):=by simp[Af,BQ]
 simp[-length_flatMap,-map_take,hm];refine WL.to (MI (σ:=σ) hf hs hl l.length 0 [] (by omega)) (by simp) (by simp) ?_;rintro x e σ' ⟨s,rfl,h⟩;simp only[aJ]at h;by_cases hc:f.Da [] l=0
 ·rw[if_pos hc]at h;subst h;simp[-length_flatMap,-map_take,hc]
 ·rw[if_neg hc]at h;obtain⟨rfl,h⟩:=h;simp[h]
theorem Lh{f:fw}{l:List wZ}(hf:f.valid=true)(hs:Mf l)(hl:l.length≤1000000000):
  lim T (.call false gN [.agg [.int .i64 f.x,.int .i64 f.y,.int .i64 f.z,.int .i64 f.k],.aE l.length (l.flatMap wZ.enc)] σ)=some (.val (.int .i64 (f.Ds l)) σ):=by
 refine au y7 ku.eq_1 rfl ?_;unfold fw.Ds;by_cases hc:12<l.length
 ·simp[-length_flatMap,-map_take,hc,show(12:Int)<l.length by omega]
 ·simp[-length_flatMap,-map_take,hc,show ¬(12:Int)<l.length by omega,abB hf hs hl]
end Go.Proofs.YtklfdfnoebnciaaGreatDoor
