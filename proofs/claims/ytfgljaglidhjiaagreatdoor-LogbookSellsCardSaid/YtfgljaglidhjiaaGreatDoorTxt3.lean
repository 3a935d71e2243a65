import Derived.Test.YtfgljaglidhjiaaGreatDoorTxt2
import Derived.Test.YtfgljaglidhjiaaGreatDoorTxt0
import Derived.Test.YtfgljaglidhjiaaGreatDoorTxt1
set_option linter.all false
namespace Go.Proofs.YtfgljaglidhjiaaGreatDoor
open List(length_flatMap map_take)
open Go Go.Abs Go.Rock Go.Book
variable {σ:SK}
theorem aek(l:List Rw):(l.flatMap Rw.enc).length=l.length*5:=bZ (f:=Rw.enc) (w:=5) (fun _=>rfl) l
theorem Ml{bp:D}(hb1:bp.calm=bp):∀(rs acc:List Rw),acc.length+rs.length≤1000000 →
  WL T [0,2,6] false ka [(0,bp),(2,.aH (rs.length*5) (rs.flatMap Rw.enc)),(6,.sl σ.length 0 acc.length 0 acc.length 5)] ([.cells acc.length (acc.flatMap Rw.enc)]::σ)
   (fun x e σ'=>x=.exit 0∧get e 0=bp∧get e 6=.sl σ.length 0 (acc++rs).length 0 (acc++rs).length 5∧σ'=[.cells (acc++rs).length ((acc++rs).flatMap Rw.enc)]::σ)
 |[],acc,h=>by
  refine aN ka.eq_1 ?_;simp[-length_flatMap,-map_take,hb1]
 |r::rs,acc,h=>by
  refine aN ka.eq_1 ?_;simp only[aL]at h;have e1:(rs.length+1)*5=rs.length*5+5:=by omega
  have q0:(0:Int)<(rs.length:Int)*5+5:=by omega
  have q1:(1:Int)<(rs.length:Int)*5+5:=by omega
  have q2:(2:Int)<(rs.length:Int)*5+5:=by omega
  have q3:(3:Int)<(rs.length:Int)*5+5:=by omega
  have q4:(4:Int)<(rs.length:Int)*5+5:=by omega
  have q5:(5:Int)≤(rs.length:Int)*5+5:=by omega
  have hroom:(acc.length+1)*40≤room:=by unfold room;omega
  have hl:=aek acc;have ht:(acc.flatMap Rw.enc).take (acc.length*5)=acc.flatMap Rw.enc:=aj (by omega);have hl2:=aek rs;have ht2:(rs.flatMap Rw.enc).take (rs.length*5)=rs.flatMap Rw.enc:=aj (by omega);simp[-length_flatMap,-map_take,hb1,e1,q0,q1,q2,q3,q4,q5,hroom,hl,ht];refine WL.to (Ml hb1 rs (acc++[r]) (by simp;omega)) (by simp[ht2]) (by simp) fun x e σ' hh=>?_
  simpa using hh
def Nh(b:Bk)(t:List Rw):Bk:={b with bH:={b.bH with ck:=t } }
def zG(b:Bk)(t:List Rw):Bk×Int:=if b.bH.ck=[]then(if ku t=true then(Nh b t,0)else(b,1))else(b,8)
theorem afi{F:List Abs.aE}{b:Bk}{er:List Int}{nm:List UInt8}{t:List Rw}{b':Bk}{e:Int}(hl:t.length≤1000000)(hd:zG b t=(b',e))(he:e=0):
  lim T (.call false fw [.ref σ.length 6 0 0,.str nm,.aH (t.length*5) (t.flatMap Rw.enc)] (F::b.bw σ.length er::σ))=some (.val (.dG []) (F::b'.bw σ.length er::σ)):=by
 refine gw vj jT.eq_1 rfl (by simp) ?_;unfold zG at hd;split at hd
 case isFalse=>cases hd;cases he
 rename_i h0;split at hd
 case isFalse=>cases hd;cases he
 rename_i h3;cases hd;have hne:t≠[]:=by intro h;subst h;simp[ku,cG]at h3
 have hC:=fun σ=>zi (σ:=σ) (l:=t) (by omega)
 rw[h3]at hC;have hL:=Ml (σ:=F::b.bw σ.length er::σ) (bp:=.ref σ.length 6 0 0) rfl t [] (by simpa using hl);simp[-length_flatMap,-map_take,Bk.bw,Bk.cells,h0,nl,cA];refine WL.to hL (by simp) (by simp[Bk.bw,Bk.cells,h0,nl]) ?_;rintro x e σ' ⟨rfl,g0,g6,rfl⟩;have hcl:(D.aH t.length (t.flatMap Rw.enc)).clean=true:=by simp[D.clean,cI]
 have hfr:∀S:SK,S.length=σ.length+1+1→cz 0 16 (.sl (σ.length+1+1) 0 t.length 0 t.length 5) ([.cells t.length (t.flatMap Rw.enc)]::S)=(.aH t.length (t.flatMap Rw.enc),[.dead]::S):=by
  intro S hS;have:=DW (f:=Rw.enc) (w:=5) (fun _=>rfl) (fun _=>by simp[D.clean]) (l:=t) (j:=0) (v:=t.length) (bs:=[Abs.aE.cells t.length (t.flatMap Rw.enc)]) (σ:=S) (by intro h;subst h;simp at hS) (by simp);rw[hS]at this;simpa using this
 simp[-length_flatMap,-map_take,g0,g6,hfr,hC,oB,hcl,Bk.bw,Bk.cells,h0,nl,hne,Nh];exact⟨rfl,rfl⟩
theorem Qz{F:List Abs.aE}{b:Bk}{er:List Int}{nm:List UInt8}{t:List Rw}{b':Bk}{e:Int}(hl:t.length≤1000000)(hd:zG b t=(b',e))(he:e≠0):
  lim T (.call false fw [.ref σ.length 6 0 0,.str nm,.aH (t.length*5) (t.flatMap Rw.enc)] (F::b.bw σ.length er::σ))=some (.fQ (rf e) (F::b.bw σ.length er::σ)):=by
 refine ef vj jT.eq_1 rfl ?_;have hM:=fun σ=>pI (σ:=σ) (e:=1) (by decide)
 have hrc:(D.tW 311 (.agg [.int .i64 1])).clean=true:=rfl;unfold zG at hd;split at hd
 case isFalse h0 =>
  cases hd;have h0':((b.bH.ck.length:Int) == 0)=false:=by simpa using h0
  simp[-length_flatMap,-map_take,Bk.bw,Bk.cells,eH h0,h0',dC,D.clean,rf]
 rename_i h0;split at hd
 case isTrue=>cases hd;exact absurd rfl he
 rename_i h3;cases hd;have h3':ku t=false:=by simpa using h3
 have hC:=fun σ=>zi (σ:=σ) (l:=t) (by omega)
 rw[h3']at hC;have hL:=Ml (σ:=F::b.bw σ.length er::σ) (bp:=.ref σ.length 6 0 0) rfl t [] (by simpa using hl);simp[-length_flatMap,-map_take,Bk.bw,Bk.cells,h0,nl,cA];refine WL.to hL (by simp) (by simp[Bk.bw,Bk.cells,h0,nl]) ?_;rintro x e σ' ⟨rfl,g0,g6,rfl⟩;have hcl:(D.aH t.length (t.flatMap Rw.enc)).clean=true:=by simp[D.clean,cI]
 have hfr:∀S:SK,S.length=σ.length+1+1→cz 0 16 (.sl (σ.length+1+1) 0 t.length 0 t.length 5) ([.cells t.length (t.flatMap Rw.enc)]::S)=(.aH t.length (t.flatMap Rw.enc),[.dead]::S):=by
  intro S hS;have:=DW (f:=Rw.enc) (w:=5) (fun _=>rfl) (fun _=>by simp[D.clean]) (l:=t) (j:=0) (v:=t.length) (bs:=[Abs.aE.cells t.length (t.flatMap Rw.enc)]) (σ:=S) (by intro h;subst h;simp at hS) (by simp);rw[hS]at this;simpa using this
 simp[-length_flatMap,-map_take,g0,g6,hfr,hC,hM,hcl,Bk.bw,Bk.cells,h0,nl,rf,hrc]
@[simp] theorem awV{α:Type}{f:α→List D}{l:List α}:adL (nl f l)=some (.int .i64 l.length):=by
 unfold nl;split
 ·rename_i h;subst h;rfl
 ·rfl
@[simp] theorem avX{α:Type}{f:α→List D}{l:List α}:(nl f l).strip=nl f l:=by unfold nl;split<;>rfl
theorem J8{x:Trem.Ev}(hs:x.sp.length≤9223372036854775807):lim T (.call false iC [.aF,.aH 1 x.enc,.int .i64 0] σ)=some (.val (.dG [.int .u8 0,.int .u8 0,.int .i64 (if x.ok then 0 else 1)]) σ):=by
 refine az wJ n8.eq_1 rfl ?_;have hA:=fun σ=>@RY σ [x] (by simp) (by simpa using hs)
 have hN:=fun σ=>all_nil (T:=T) (σ:=σ) (fv:=.fn eM [] []) (f:=dw) (ag:=true) (w:=10) rfl rfl rfl rfl rfl rfl
 simp only[List.length_singleton,aZ,dJ,dF,gQ,jD,List.all_nil,Bool.and_true]at hA;have w0:Trem.cG 0 0 1000000=true:=by decide
 cases hr:x.ok
 ·rw[hr]at hA;simp only[Trem.Ev.enc]at hA ⊢;simp[-length_flatMap,-map_take,hA,hN]
 ·rw[hr]at hA;simp only[Trem.Ev.enc]at hA ⊢;simp[-length_flatMap,-map_take,hA,hN,gp,w0];refine aN gJ.eq_1 ?_;simp[-length_flatMap,-map_take]
def spD(L:Nat)(acc:List Trem.wy):D:=.sl L 0 acc.length 0 acc.length 4
def spS(acc:List Trem.wy):List Abs.aE:=[.cells acc.length (acc.flatMap Trem.wy.enc)]
theorem Qa(l:List Trem.wy):(l.flatMap Trem.wy.enc).length=l.length*4:=bZ (f:=Trem.wy.enc) (w:=4) (fun _=>rfl) l
theorem I7{bp:D}(hb1:bp.calm=bp){tk:Int}:∀(rs acc:List Trem.wy),acc.length+rs.length≤1000000 →
  WL T [0,2,6] false j8 [(0,bp),(2,.aH (rs.length*4) (rs.flatMap Trem.wy.enc)),(6,.own 0 [.int .i64 tk,spD σ.length acc])] (spS acc::σ)
   (fun x e σ'=>x=.exit 0∧get e 0=bp∧get e 6=.own 0 [.int .i64 tk,spD σ.length (acc++rs)]∧get e 1000006=.undef∧σ'=spS (acc++rs)::σ)
 |[],acc,h=>by
  refine aN j8.eq_1 ?_;simp[-length_flatMap,-map_take,hb1]
 |r::rs,acc,h=>by
  refine aN j8.eq_1 ?_;simp only[aL]at h;have e1:(rs.length+1)*4=rs.length*4+4:=by omega
  have q0:(0:Int)<(rs.length:Int)*4+4:=by omega
  have q1:(1:Int)<(rs.length:Int)*4+4:=by omega
  have q2:(2:Int)<(rs.length:Int)*4+4:=by omega
  have q3:(3:Int)<(rs.length:Int)*4+4:=by omega
  have q4:(4:Int)≤(rs.length:Int)*4+4:=by omega
  have hroom:(acc.length+1)*32≤room:=by unfold room;omega
  have h32:32≤room:=by unfold room;omega
  have hl:=Qa acc;have ht:(acc.flatMap Trem.wy.enc).take (acc.length*4)=acc.flatMap Trem.wy.enc:=aj (by omega);have hl2:=Qa rs;have ht2:(rs.flatMap Trem.wy.enc).take (rs.length*4)=rs.flatMap Trem.wy.enc:=aj (by omega);simp[-length_flatMap,-map_take,hb1,e1,q0,q1,q2,q3,q4,hroom,hl,ht,spD,spS];refine WL.to (I7 hb1 (tk:=tk) rs (acc++[r]) (by simp;omega)) (by simp[ht2,spD,spS]) (by simp[spS]) fun x e σ' hh=>?_
  simpa[spD,spS]using hh
def JH(b:Bk)(x:Trem.Ev):Bk:={b with zg:=b.zg++[x] }
def zE(b:Bk)(sp:List Trem.wy):Bk×Int:=if b.zg.length<200 then(if Trem.Ev.ok ⟨b.av.length,sp⟩=true then(JH b ⟨b.av.length,sp⟩,0)else(b,1))else(b,3)
theorem amX(l:List Trem.Ev):(l.flatMap Trem.Ev.enc).length=l.length*2:=bZ (f:=Trem.Ev.enc) (w:=2) (fun _=>rfl) l
theorem ads{S:SK}{L:Nat}(hS:S.length=L)(hL:0<L){sp:List Trem.wy}{tk:Int}:cz.frzL (cz 0 16) [.int .i64 tk,spD L sp] (spS sp::S)=([.int .i64 tk,.aH sp.length (sp.flatMap Trem.wy.enc)],[.dead]::S):=by
 have hf:=DW (f:=Trem.wy.enc) (w:=4) (fun _=>rfl) (fun _=>by simp[D.clean]) (l:=sp) (j:=0) (v:=sp.length) (bs:=[Abs.aE.cells sp.length (sp.flatMap Trem.wy.enc)]) (σ:=S) (by intro h;subst h;simp at hS;omega) (by simp);rw[hS]at hf;simp[spD,spS,hf]
theorem ae9{F:List Abs.aE}{b:Bk}{er:List Int}{nm:List UInt8}{sp:List Trem.wy}{b':Bk}{e:Int}(hl:sp.length≤1000000)(hd:zE b sp=(b',e))(he:e=0):
  lim T (.call false fu [.ref σ.length 6 0 0,.str nm,.aH (sp.length*4) (sp.flatMap Trem.wy.enc)] (F::b.bw σ.length er::σ))=some (.val (.dG []) (F::b'.bw σ.length er::σ)):=by
 refine gw vi jS.eq_1 rfl (by simp) ?_;unfold zE at hd;split at hd
 case isFalse=>cases hd;cases he
 rename_i h1;split at hd
 case isFalse=>cases hd;cases he
 rename_i h2;cases hd;have h1':(b.zg.length:Int)<200:=by omega
 have hC:=fun σ=>J8 (σ:=σ) (x:=⟨b.av.length,sp⟩) (by simp;omega)
 simp only[h2,if_true,Trem.Ev.enc]at hC;have hL:=I7 (σ:=F::b.bw σ.length er::σ) (bp:=.ref σ.length 6 0 0) rfl (tk:=b.av.length) sp [] (by simpa using hl);have hne:sp≠[]:=by
  intro hh;subst hh;simp[Trem.Ev.ok,Trem.cG]at h2
 simp[-length_flatMap,-map_take,Bk.bw,Bk.cells,h1',cA];refine WL.to hL (by simp[spD]) (by simp[Bk.bw,Bk.cells,spS]) ?_;rintro x e σ' ⟨rfl,g0,g6,gu,rfl⟩;have hf:=fun S hS=>ads (S:=S) (L:=σ.length+1+1) hS (by omega) (sp:=sp) (tk:=b.av.length)
 have w2:(b.zg.length+1)*32≤room:=by unfold room;omega
 have w3:=amX b.zg;have w4:(b.zg.flatMap Trem.Ev.enc).take (b.zg.length*2)=b.zg.flatMap Trem.Ev.enc:=aj (by omega);have hcl:D.bz (sp.flatMap Trem.wy.enc)=true:=gX (fun _=>by simp[D.clean]) sp;simp only[aX]at g6;simp[-length_flatMap,-map_take,g0,g6,gu,hf,hC,oB,Bk.bw,Bk.cells,JH,w2,w3,w4,hcl]
theorem Qu{F:List Abs.aE}{b:Bk}{er:List Int}{nm:List UInt8}{sp:List Trem.wy}{b':Bk}{e:Int}(hl:sp.length≤1000000)(hd:zE b sp=(b',e))(he:e≠0):
  lim T (.call false fu [.ref σ.length 6 0 0,.str nm,.aH (sp.length*4) (sp.flatMap Trem.wy.enc)] (F::b.bw σ.length er::σ))=some (.fQ (rf e) (F::b.bw σ.length er::σ)):=by
 refine ef vi jS.eq_1 rfl ?_;have hM:=fun σ=>pI (σ:=σ) (e:=1) (by decide)
 have hrc:(D.tW 311 (.agg [.int .i64 1])).clean=true:=rfl;unfold zE at hd;split at hd
 case isFalse h1 =>
  cases hd;have h1':¬(b.zg.length:Int)<200:=by omega
  simp[-length_flatMap,-map_take,Bk.bw,Bk.cells,h1',dC,D.clean,rf]
 rename_i h1;split at hd
 case isTrue=>cases hd;exact absurd rfl he
 rename_i h2;cases hd;have h1':(b.zg.length:Int)<200:=by omega
 have h2':Trem.Ev.ok ⟨b.av.length,sp⟩=false:=by simpa using h2
 have hC:=fun σ=>J8 (σ:=σ) (x:=⟨b.av.length,sp⟩) (by simp;omega)
 simp only[h2',Trem.Ev.enc]at hC;have hL:=I7 (σ:=F::b.bw σ.length er::σ) (bp:=.ref σ.length 6 0 0) rfl (tk:=b.av.length) sp [] (by simpa using hl);simp[-length_flatMap,-map_take,Bk.bw,Bk.cells,h1',cA];refine WL.to hL (by simp[spD]) (by simp[Bk.bw,Bk.cells,spS]) ?_;rintro x e σ' ⟨rfl,g0,g6,gu,rfl⟩;have hf:=fun S hS=>ads (S:=S) (L:=σ.length+1+1) hS (by omega) (sp:=sp) (tk:=b.av.length)
 have hcl:D.bz (sp.flatMap Trem.wy.enc)=true:=gX (fun _=>by simp[D.clean]) sp;simp only[aX]at g6;simp[-length_flatMap,-map_take,g0,g6,gu,hf,hC,hM,Bk.bw,Bk.cells,hcl,rf,hrc]
theorem By{a b c:Int}:lim T (.call false jY [.int .i64 a,.int .i64 b,.int .i64 c] σ)=some (.val (.bool (cG a b c)) σ):=by
 refine az Gt tH.eq_1 rfl ?_;by_cases h:b≤a<;>simp[-length_flatMap,-map_take,h,cG]
theorem QA{p:Prt}{last:Int}:lim T (.call false dZ [.agg p.enc,.ref σ.length 0 0 0] ([]::[]::[]::[]::[.cells 0 [.int .i64 last]]::σ))=some (.val (.bool (p.ok last)) ([]::[]::[]::[]::[.cells 0 [.int .i64 p.vJ]]::σ)):=by
 refine gw AM mP.eq_1 rfl (by simp) ?_;cases h:cG p.vJ 0 last<;>simp[-length_flatMap,-map_take,By,h,Prt.ok]
theorem Kl{u:xx}(hl:u.parts.length≤1000000000):lim T (.call false jl [.agg u.enc] σ)=some (.val (.bool u.ok) σ):=by
 refine az CI oH.eq_1 rfl ?_;have hA:=Jd (wP 2 Prt.enc (fun _=>rfl)) (T:=T) (S:=fun i=>[.cells 0 [.int .i64 (vL u.parts i)]]::σ) (fv:=.fn dZ [] [.ref σ.length 0 0 0]) (l:=u.parts) (p:=Cy u.parts)
  (f:=iw) (g:=jL) (h:=eW) (i:=gf) rfl rfl rfl rfl (by omega) rfl rfl rfl (fun _=>rfl) (fun i x hx=>by
   rw[rV];have h:=QA (σ:=σ) (p:=x) (last:=vL u.parts i);have e1:vL u.parts (i+1)=x.vJ:=by simp[vL,hx]
   have e2:Cy u.parts i=x.ok (vL u.parts i):=by simp[Cy,hx]
   have h':lim T (.call false dZ ([]++[(wP 2 Prt.enc (fun _=>rfl)).val x]++[.ref σ.length 0 0 0]) ([]::[]::[]::[]::[.cells 0 [.int .i64 (vL u.parts i)]]::σ))=_:=h;rw[h',e1,e2];rfl)
 have hb:(!(pr (fun i => !Cy u.parts i) 0 u.parts.length).1)=yt 1000 u.parts:=by
  have h1:=BV (q:=fun i => !Cy u.parts i) (m:=u.parts.length) (i:=0);have h2:=QV (l:=u.parts);cases hf:yt 1000 u.parts
  ·cases hs:(pr (fun i => !Cy u.parts i) 0 u.parts.length).1
   ·have h3:=h1.1 hs;have h4:=h2.2 fun j hj=>by simpa using h3 j hj
    rw[hf]at h4;cases h4
   ·rfl
  ·have h3:=h2.1 hf;have h4:=h1.2 fun j hj=>by simp[h3 j hj]
   rw[h4];rfl
 rw[hb]at hA;have e0:vL u.parts 0=1000:=rfl;have hA':lim T (.call false iw [.aH u.parts.length (u.parts.flatMap Prt.enc),.fn dZ [] [.ref σ.length 0 0 0]] ([.cells 0 [.int .i64 1000]]::σ))=_:=hA;cases h1:cG u.DS 0 5
 ·simp[-length_flatMap,-map_take,By,h1,xx.ok]
 cases h2:cG u.parts.length 1 8
 ·simp[-length_flatMap,-map_take,By,h1,h2,xx.ok]
 simp[-length_flatMap,-map_take,By,h1,h2,xx.ok,hA']
theorem E9{u:xx}(hl:u.parts.length≤1000000000):lim T (.call false nc [.agg u.enc] σ)=some (.val (.int .i64 (if u.ok then 0 else 1)) σ):=by
 refine az Dq pM.eq_1 rfl ?_;have hC:=fun σ=>Kl (σ:=σ) hl
 simp only[xx.enc]at hC ⊢;cases hc:u.ok<;>rw[hc]at hC<;>simp[-length_flatMap,-map_take,hC]
def ptD(L:Nat)(acc:List Prt):D:=.sl L 0 acc.length 0 acc.length 2
def ptS(acc:List Prt):List Abs.aE:=[.cells acc.length (acc.flatMap Prt.enc)]
theorem F8(l:List Prt):(l.flatMap Prt.enc).length=l.length*2:=bZ (f:=Prt.enc) (w:=2) (fun _=>rfl) l
theorem I2{bp:D}(hb1:bp.calm=bp){tk:Int}:∀(rs acc:List Prt),acc.length+rs.length≤1000000 →
  WL T [0,2,6] false kW [(0,bp),(2,.aH (rs.length*2) (rs.flatMap Prt.enc)),(6,.own 0 [.int .i64 tk,ptD σ.length acc])] (ptS acc::σ)
   (fun x e σ'=>x=.exit 0∧get e 0=bp∧get e 6=.own 0 [.int .i64 tk,ptD σ.length (acc++rs)]∧get e 1000006=.undef∧σ'=ptS (acc++rs)::σ)
 |[],acc,h=>by
  refine aN kW.eq_1 ?_;simp[-length_flatMap,-map_take,hb1]
 |r::rs,acc,h=>by
  refine aN kW.eq_1 ?_;simp only[aL]at h;have e1:(rs.length+1)*2=rs.length*2+2:=by omega
  have q0:(0:Int)<(rs.length:Int)*2+2:=by omega
  have q1:(1:Int)<(rs.length:Int)*2+2:=by omega
  have q2:(2:Int)≤(rs.length:Int)*2+2:=by omega
  have hroom:(acc.length+1)*16≤room:=by unfold room;omega
  have h32:16≤room:=by unfold room;omega
  have hl:=F8 acc;have ht:(acc.flatMap Prt.enc).take (acc.length*2)=acc.flatMap Prt.enc:=aj (by omega);have hl2:=F8 rs;have ht2:(rs.flatMap Prt.enc).take (rs.length*2)=rs.flatMap Prt.enc:=aj (by omega);simp[-length_flatMap,-map_take,hb1,e1,q0,q1,q2,hroom,hl,ht,ptD,ptS];refine WL.to (I2 hb1 (tk:=tk) rs (acc++[r]) (by simp;omega)) (by simp[ht2,ptD,ptS]) (by simp[ptS]) fun x e σ' hh=>?_
  simpa[ptD,ptS]using hh
def Qh(b:Bk)(u:xx):Bk:={b with dU:=b.dU++[u] }
def C5(b:Bk)(u:xx):Bk×Int:=if b.dU.length<10 then(if u.ok=true then(Qh b u,0)else(b,1))else(b,3)
theorem J1(l:List xx):(l.flatMap xx.enc).length=l.length*2:=bZ (f:=xx.enc) (w:=2) (fun _=>rfl) l
theorem adq{S:SK}{L:Nat}(hS:S.length=L)(hL:0<L){pt:List Prt}{tk:Int}:cz.frzL (cz 0 16) [.int .i64 tk,ptD L pt] (ptS pt::S)=([.int .i64 tk,.aH pt.length (pt.flatMap Prt.enc)],[.dead]::S):=by
 have hf:=DW (f:=Prt.enc) (w:=2) (fun _=>rfl) (fun _=>by simp[D.clean]) (l:=pt) (j:=0) (v:=pt.length) (bs:=[Abs.aE.cells pt.length (pt.flatMap Prt.enc)]) (σ:=S) (by intro h;subst h;simp at hS;omega) (by simp);rw[hS]at hf;simp[ptD,ptS,hf]
theorem zz{l:List Prt}:D.bz (l.flatMap Prt.enc)=true:=gX (fun _=>by simp[D.clean]) l
theorem amk{F:List Abs.aE}{b:Bk}{er:List Int}{nm:List UInt8}{u:xx}{b':Bk}{e:Int}(hl:u.parts.length≤1000000)(hd:C5 b u=(b',e))(he:e=0):
  lim T (.call false ga [.ref σ.length 6 0 0,.str nm,.aH (u.parts.length*2+1) (.int .i64 u.DS::u.parts.flatMap Prt.enc)] (F::b.bw σ.length er::σ))=some (.val (.dG []) (F::b'.bw σ.length er::σ)):=by
 refine gw vR kH.eq_1 rfl (by simp) ?_;unfold C5 at hd;split at hd
 case isFalse=>cases hd;cases he
 rename_i h1;split at hd
 case isFalse=>cases hd;cases he
 rename_i h2;cases hd;have h1':(b.dU.length:Int)<10:=by omega
 have hC:=fun σ=>E9 (σ:=σ) (u:=u) (by omega)
 simp only[h2,if_true,xx.enc]at hC;have hL:=I2 (σ:=F::b.bw σ.length er::σ) (bp:=.ref σ.length 6 0 0) rfl (tk:=u.DS) u.parts [] (by simpa using hl);have hne:u.parts≠[]:=by
  intro hh;simp[xx.ok,cG,hh]at h2
 have q0:(0:Int)<(u.parts.length:Int)*2+1:=by omega
 have q1:(1:Int)≤(u.parts.length:Int)*2+1:=by omega
 have hlp:=F8 u.parts;have htp:(u.parts.flatMap Prt.enc).take (u.parts.length*2)=u.parts.flatMap Prt.enc:=aj (by omega);simp[-length_flatMap,-map_take,Bk.bw,Bk.cells,h1',cA,q0,q1];refine WL.to hL (by simp[ptD,htp]) (by simp[Bk.bw,Bk.cells,ptS]) ?_;rintro x e σ' ⟨rfl,g0,g6,gu,rfl⟩;have hf:=fun S hS=>adq (S:=S) (L:=σ.length+1+1) hS (by omega) (pt:=u.parts) (tk:=u.DS)
 have w2:(b.dU.length+1)*32≤room:=by unfold room;omega
 have w3:=J1 b.dU;have w4:(b.dU.flatMap xx.enc).take (b.dU.length*2)=b.dU.flatMap xx.enc:=aj (by omega);simp only[aX]at g6;simp[-length_flatMap,-map_take,g0,g6,gu,hf,hC,oB,Bk.bw,Bk.cells,Qh,w2,w3,w4,zz]
theorem Sw{F:List Abs.aE}{b:Bk}{er:List Int}{nm:List UInt8}{u:xx}{b':Bk}{e:Int}(hl:u.parts.length≤1000000)(hd:C5 b u=(b',e))(he:e≠0):
  lim T (.call false ga [.ref σ.length 6 0 0,.str nm,.aH (u.parts.length*2+1) (.int .i64 u.DS::u.parts.flatMap Prt.enc)] (F::b.bw σ.length er::σ))=some (.fQ (rf e) (F::b.bw σ.length er::σ)):=by
 refine ef vR kH.eq_1 rfl ?_;have hM:=fun σ=>pI (σ:=σ) (e:=1) (by decide)
 have hrc:(D.tW 311 (.agg [.int .i64 1])).clean=true:=rfl;unfold C5 at hd;split at hd
 case isFalse h1 =>
  cases hd;have h1':¬(b.dU.length:Int)<10:=by omega
  simp[-length_flatMap,-map_take,Bk.bw,Bk.cells,h1',dC,D.clean,rf]
 rename_i h1;split at hd
 case isTrue=>cases hd;exact absurd rfl he
 rename_i h2;cases hd;have h1':(b.dU.length:Int)<10:=by omega
 have h2':u.ok=false:=by simpa using h2
 have hC:=fun σ=>E9 (σ:=σ) (u:=u) (by omega)
 simp only[h2',xx.enc]at hC;have hL:=I2 (σ:=F::b.bw σ.length er::σ) (bp:=.ref σ.length 6 0 0) rfl (tk:=u.DS) u.parts [] (by simpa using hl);have q0:(0:Int)<(u.parts.length:Int)*2+1:=by omega
 have q1:(1:Int)≤(u.parts.length:Int)*2+1:=by omega
 have hlp:=F8 u.parts;have htp:(u.parts.flatMap Prt.enc).take (u.parts.length*2)=u.parts.flatMap Prt.enc:=aj (by omega);simp[-length_flatMap,-map_take,Bk.bw,Bk.cells,h1',cA,q0,q1];refine WL.to hL (by simp[ptD,htp]) (by simp[Bk.bw,Bk.cells,ptS]) ?_;rintro x e σ' ⟨rfl,g0,g6,gu,rfl⟩;have hf:=fun S hS=>adq (S:=S) (L:=σ.length+1+1) hS (by omega) (pt:=u.parts) (tk:=u.DS)
 simp only[aX]at g6;simp[-length_flatMap,-map_take,g0,g6,gu,hf,hC,hM,Bk.bw,Bk.cells,zz,rf,hrc]
def yE(b:cr)(m:cN):D:=if Bd b m then RW (dS b m)else .aF
theorem KD{b:cr}{m:cN}:(yE b m).clean=true:=by
 unfold yE;split
 ·simp[RW,gX (f:=Rock.aE.enc) (fun _=>by simp[D.clean])]
 ·simp
theorem LI{b:cr}{m:cN}:(yE b m).strip=yE b m:=by unfold yE;split<;>rfl
theorem Kx{b:cr}{m:cN}:(yE b m).calm=yE b m:=by unfold yE;split<;>rfl
theorem No{b:cr}{m:cN}{tq wq:D}(htq:tq.wc=.aH b.ck.length (b.ck.flatMap Rw.enc))(hwq:wq.wc=.aH b.an.length (b.an.flatMap bG.enc))(h1:b.ck.length≤1000000000)(h2:b.an.length≤1000000000)(hn:m.name.length≤1000000000)(hl:m.bh.length≤1000000000)(hσ:σ≠[]):
  lim T (.call false tS [.agg [.int .i64 b.f.x,.int .i64 b.f.y,.int .i64 b.f.z,.int .i64 b.f.k,tq,.int .i64 b.bJ,.int .i64 b.lift,.int .i64 b.deep,wq],.agg [.str m.name,.aH m.bh.length (m.bh.flatMap aT)]] σ)=some (.val (.dG [yE b m,.int .i64 (if Bd b m then 0 else 1)]) σ):=by
 unfold yE;cases hb:Bd b m
 ·refine az Dv tI.eq_1 rfl ?_;obtain⟨d,hd,hd1,hd2⟩:=Np (σ:=[]::σ) h1 h2 hn hl hb;simp[-length_flatMap,-map_take,htq,hwq,hd,hd1,hd2,cI,bj,bq]
 ·refine az Dv tI.eq_1 rfl ?_;have hd:=fun σ=>agH (σ:=σ) h1 h2 hn hl hb
  have hf:=fun σ hσ=>Eg (σ:=σ) (b:=b) (m:=m) (Fv.of hb) hσ
  have hcl:(RW (dS b m)).clean=true:=by simp[RW,gX (f:=Rock.aE.enc) (fun _=>by simp[D.clean])]
  have hs1:(RW (dS b m)).strip=RW (dS b m):=rfl;have hs2:(RW (dS b m)).calm=RW (dS b m):=rfl;simp[-length_flatMap,-map_take,htq,hwq,hd,hf,hs1,hs2,hcl,cI,bj,bq]
theorem Sc{e:mD}{nm:List UInt8}:lim T (.call false ek [.agg e.enc,.bF [.str nm]] σ)=some (.val (.bool (e.m.name == nm)) σ):=by
 refine az zn kV.eq_1 rfl ?_;simp[-length_flatMap,-map_take,sF]
theorem DJ(l:List mD):(l.flatMap mD.enc).length=l.length*4:=bZ (f:=mD.enc) (w:=4) (fun _=>rfl) l
theorem Qi(l:List Mq):(l.flatMap Mq.enc).length=l.length*4:=bZ (f:=Mq.enc) (w:=4) (fun _=>rfl) l
theorem Ia{b:Bk}{er:List Int}{nm:List UInt8}{S:SK}(hl:b.ar.length≤1000000)(hs:gh S σ.length=some (b.bw σ.length er)):
  lim T (.call false dT [.sl σ.length 0 b.ar.length 0 b.ar.length 4,.fn ek [] [.bF [.str nm]]] S)=some (.val (.bool (lC b.ar fun e=>e.m.name == nm)) S) :=
 Cu (enc:=mD.enc) (w:=4) (fun _=>rfl) (F:=b.bw σ.length er) (bi:=0) (v:=b.ar.length) (l:=b.ar) (i:=dk) rfl rfl (by simp[Bk.bw]) (by omega)
  ⟨rfl,rfl,fun e _ σ=>by rw[rV];have h:=Sc (σ:=σ) (e:=e) (nm:=nm);have h':lim T (.call false ek ([]++[.agg e.enc]++[.bF [.str nm]]) σ)=_:=h;rw[h'];rfl⟩ hs
def EO(b:Bk)(m:cN):Bk:={b with ar:=b.ar++[⟨m,true,0⟩],o7:=b.o7++[⟨0,0,0,0⟩] }
def zD(b:Bk)(m:cN):Bk×Int :=
 if b.ready=true∧b.av=[]then
  (if(lC b.ar fun e=>e.m.name == m.name)=true then(b,6)else if b.ar.length<40 then(if Bd b.bH m=true then(EO b m,0)else(b,1))else(b,3))
 else(b,8)
theorem Sd{F:List Abs.aE}{b:Bk}{er:List Int}{m:cN}{b':Bk}{e:Int}(h1:b.bH.ck.length≤1000000000)(h2:b.bH.an.length≤1000000000)(hn:m.name.length≤1000000000)(hl:m.bh.length≤1000000000)(hw:b.o7.length=b.ar.length)(hd:zD b m=(b',e))(he:e=0):
  lim T (.call false ft [.ref σ.length 6 0 0,.str m.name,.aH m.bh.length (m.bh.flatMap aT)] (F::b.bw σ.length er::σ))=some (.val (.dG []) (F::b'.bw σ.length er::σ)):=by
 refine gw vh jR.eq_1 rfl (by simp) ?_;unfold zD at hd;split at hd
 case isFalse=>cases hd;cases he
 rename_i c0;obtain⟨c1,c2⟩:=c0;split at hd
 case isTrue=>cases hd;cases he
 rename_i c3;split at hd
 case isFalse=>cases hd;cases he
 rename_i c4;split at hd
 case isFalse=>cases hd;cases he
 rename_i c5;cases hd;have c3':(lC b.ar fun e=>e.m.name == m.name)=false:=by simpa using c3
 have c4':(b.ar.length:Int)<40:=by omega
 have hH:=fun S=>Ia (σ:=σ) (b:=b) (er:=er) (nm:=m.name) (S:=S) (by omega)
 simp only[c3']at hH;have hS:=fun S hσ=>No (σ:=S) (b:=b.bH) (m:=m) (tq:=nl Rw.enc b.bH.ck) (wq:=nl bG.enc b.bH.an) sD sD h1 h2 hn hl hσ
 simp only[c5]at hS;simp only[Bk.bw,Bk.cells]at hH;have w2:(b.ar.length+1)*56≤room:=by unfold room;omega
 have w3:=DJ b.ar;have w4:(b.ar.flatMap mD.enc).take (b.ar.length*4)=b.ar.flatMap mD.enc:=aj (by omega);have w5:(b.o7.length+1)*32≤room:=by unfold room;omega
 have w6:=Qi b.o7;have w7:(b.o7.flatMap Mq.enc).take (b.o7.length*4)=b.o7.flatMap Mq.enc:=aj (by omega);simp[-length_flatMap,-map_take,Bk.bw,Bk.cells,c1,c2,hH,c4',hS,KD,LI,Kx,PW,cA,oB,EO,w2,w3,w4,w5,w6,w7,bq]
theorem Qq{F:List Abs.aE}{b:Bk}{er:List Int}{m:cN}{b':Bk}{e:Int}(h1:b.bH.ck.length≤1000000000)(h2:b.bH.an.length≤1000000000)(hn:m.name.length≤1000000000)(hl:m.bh.length≤1000000000)(hml:b.ar.length≤40)(hd:zD b m=(b',e))(he:e≠0):
  lim T (.call false ft [.ref σ.length 6 0 0,.str m.name,.aH m.bh.length (m.bh.flatMap aT)] (F::b.bw σ.length er::σ))=some (.fQ (rf e) (F::b.bw σ.length er::σ)):=by
 refine ef vh jR.eq_1 rfl ?_;have hM:=fun σ=>pI (σ:=σ) (e:=1) (by decide)
 have hrc:(D.tW 311 (.agg [.int .i64 1])).clean=true:=rfl;unfold zD at hd;split at hd
 case isFalse c0 =>
  cases hd;cases c1:b.ready with
  |false=>simp[-length_flatMap,-map_take,Bk.bw,Bk.cells,c1,dC,D.clean,rf]
  |true =>
   have c2:((b.av.length:Int) == 0)=false:=by simpa using fun hh=>c0 ⟨c1,hh⟩
   simp[-length_flatMap,-map_take,Bk.bw,Bk.cells,c1,c2,dC,D.clean,rf]
 rename_i c0;obtain⟨c1,c2⟩:=c0;have hH:=fun S=>Ia (σ:=σ) (b:=b) (er:=er) (nm:=m.name) (S:=S) (by omega)
 split at hd
 case isTrue c3 =>
  cases hd;simp only[c3]at hH;simp only[Bk.bw,Bk.cells]at hH;simp[-length_flatMap,-map_take,Bk.bw,Bk.cells,c1,c2,hH,cA,dC,D.clean,rf]
 rename_i c3;have c3':(lC b.ar fun e=>e.m.name == m.name)=false:=by simpa using c3
 simp only[c3']at hH;split at hd
 case isFalse c4 =>
  cases hd;have c4':¬(b.ar.length:Int)<40:=by omega
  simp only[Bk.bw,Bk.cells]at hH;simp[-length_flatMap,-map_take,Bk.bw,Bk.cells,c1,c2,hH,c4',cA,dC,D.clean,rf]
 rename_i c4;have c4':(b.ar.length:Int)<40:=by omega
 split at hd
 case isTrue=>cases hd;exact absurd rfl he
 rename_i c5;cases hd;have c5':Bd b.bH m=false:=by simpa using c5
 have hS:=fun S hσ=>No (σ:=S) (b:=b.bH) (m:=m) (tq:=nl Rw.enc b.bH.ck) (wq:=nl bG.enc b.bH.an) sD sD h1 h2 hn hl hσ
 simp only[c5']at hS;simp only[Bk.bw,Bk.cells]at hH;simp[-length_flatMap,-map_take,Bk.bw,Bk.cells,c1,c2,hH,c4',hS,KD,LI,Kx,PW,cA,hM,bq,rf,hrc]
end Go.Proofs.YtfgljaglidhjiaaGreatDoor
namespace Go.Book
open List(length_flatMap map_take)
open Go Go.Abs Go.Rock
def isStr(lo hi:Int)(val:cN→Int)(e:mD):Bool:=e.left && !cG (val e.m) lo hi
def ez(at_ lo hi:Int)(val:cN→Int)(e:mD):mD:=if isStr lo hi val e then⟨e.m,false,at_⟩else e
def arH(at_ lo hi:Int)(val:cN→Int)(ms:List mD)(j:Nat)(w:Mq):Mq:=match ms[j]? with
 |some e=>if isStr lo hi val e then⟨at_,val e.m,lo,hi⟩else w
 |none=>w
def Bk.kA(b:Bk)(lo hi:Int)(val:cN→Int)(i:Nat):Bk :=
 {b with ar:=b.ar.mapIdx fun j e=>if j<i then ez b.at_ lo hi val e else e,o7:=b.o7.mapIdx fun j w=>if j<i then arH b.at_ lo hi val b.ar j w else w }
section
variable {b:Bk} {lo hi:Int} {val:cN→Int} {i:Nat}
@[simp] theorem aez:(b.kA lo hi val i).bH=b.bH:=aD rfl
@[simp] theorem RI:(b.kA lo hi val i).av=b.av:=aD rfl
@[simp] theorem Nd:(b.kA lo hi val i).rules=b.rules:=aD rfl
@[simp] theorem aeA:(b.kA lo hi val i).zg=b.zg:=aD rfl
@[simp] theorem agy:(b.kA lo hi val i).k0=b.k0:=aD rfl
@[simp] theorem agz:(b.kA lo hi val i).k1=b.k1:=aD rfl
@[simp] theorem agA:(b.kA lo hi val i).k2=b.k2:=aD rfl
@[simp] theorem Ng:(b.kA lo hi val i).dU=b.dU:=aD rfl
@[simp] theorem Nf:(b.kA lo hi val i).jB=b.jB:=aD rfl
@[simp] theorem Nc:(b.kA lo hi val i).ready=b.ready:=aD rfl
@[simp] theorem agw:(b.kA lo hi val i).at_=b.at_:=aD rfl
end
theorem RJ{b:Bk}{lo hi:Int}{val:cN→Int}:b.kA lo hi val 0=b:=by
 cases b;simp only[Bk.kA,Bk.mk.injEq,true_and,and_true];constructor<;>(apply eS;intro j;simp[mI])
theorem Ea{b:Bk}{lo hi:Int}{val:cN→Int}{i:Nat}:(b.kA lo hi val i).ar.length=b.ar.length:=by simp[Bk.kA]
theorem Eb{b:Bk}{lo hi:Int}{val:cN→Int}{i:Nat}:(b.kA lo hi val i).o7.length=b.o7.length:=by simp[Bk.kA]
theorem agx{b:Bk}{lo hi:Int}{val:cN→Int}{i:Nat}{e:mD}(h:b.ar[i]?=some e):(b.kA lo hi val i).ar[i]?=some e:=by simp[Bk.kA,h]
theorem RH{b:Bk}{lo hi:Int}{val:cN→Int}{i:Nat}{e:mD}(h:b.ar[i]?=some e)(hs:isStr lo hi val e=true)(hw:b.o7.length=b.ar.length):
  (b.kA lo hi val (i+1)).ar=(b.kA lo hi val i).ar.set i ⟨e.m,false,b.at_⟩∧(b.kA lo hi val (i+1)).o7=(b.kA lo hi val i).o7.set i ⟨b.at_,val e.m,lo,hi⟩:=by
 obtain⟨hi',he⟩:=aC.1 h;constructor
 ·apply eS;intro j;simp only[Bk.kA,mI,List.getElem?_set];by_cases hj:i=j
  ·subst hj;rw[h];simp[hi',ez,hs]
  ·rw[if_neg hj];cases b.ar[j]? with
   |none=>rfl
   |some x=>simp only[aS];congr 1;by_cases h1:j<i<;>simp[h1]<;>omega
 ·apply eS;intro j;simp only[Bk.kA,mI,List.getElem?_set];by_cases hj:i=j
  ·subst hj;have:i<b.o7.length:=by omega
   rw[aI this];simp[h,this,arH,hs]
  ·rw[if_neg hj];cases b.o7[j]? with
   |none=>rfl
   |some x=>simp only[aS];congr 1;by_cases h1:j<i<;>simp[h1]<;>omega
theorem IV{b:Bk}{lo hi:Int}{val:cN→Int}{i:Nat}{e:mD}(h:b.ar[i]?=some e)(hs:isStr lo hi val e=false):b.kA lo hi val (i+1)=b.kA lo hi val i:=by
 have h1:(b.kA lo hi val (i+1)).ar=(b.kA lo hi val i).ar:=by
  apply eS;intro j;simp only[Bk.kA,mI];by_cases hj:i=j
  ·subst hj;simp[h,ez,hs]
  ·cases b.ar[j]? with
   |none=>rfl
   |some x=>simp only[aS];congr 1;by_cases h1:j<i<;>simp[h1]<;>omega
 have h2:(b.kA lo hi val (i+1)).o7=(b.kA lo hi val i).o7:=by
  apply eS;intro j;simp only[Bk.kA,mI];by_cases hj:i=j
  ·subst hj;cases b.o7[i]? with
   |none=>rfl
   |some x=>simp[h,arH,hs]
  ·cases b.o7[j]? with
   |none=>rfl
   |some x=>simp only[aS];congr 1;by_cases h1:j<i<;>simp[h1]<;>omega
 simp only[Bk.kA]at h1 h2 ⊢;rw[h1,h2]
end Go.Book
namespace Go.Proofs.YtfgljaglidhjiaaGreatDoor
open List(length_flatMap map_take)
open Go Go.Abs Go.Rock Go.Book
variable {σ:SK}
theorem KC{α:Type}{f:α→List D}{w k:Nat}{v:D}(hw:∀x,(f x).length=w)(hk:k<w):∀{l:List α} {i:Nat} {x x':α},l[i]?=some x→(f x).set k v=f x'→(l.flatMap f).set (i*w+k) v=(l.set i x').flatMap f
 |[],i,x,x',h,_=>by simp at h
 |a::l,0,x,x',h,hs=>by
  simp at h;subst h;simp only[aZ,List.set_cons_zero,Nat.zero_mul,cQ];rw[List.set_append_left _ _ (by rw[hw];exact hk),hs]
 |a::l,i+1,x,x',h,hs=>by
  have ih:=KC hw hk (l:=l) (i:=i) (by simpa using h) hs;simp only[aZ,List.set_cons_succ];have e:=hw a;rw[List.set_append_right _ _ (by rw[e,eT];omega),← ih];congr 2;rw[e,eT];omega
theorem KB{α:Type}{f:α→List D}{w k:Nat}{v:D}(hw:∀x,(f x).length=w)(hk:k<w){l:List α}{i:Nat}{x x':α}(h:l[i]?=some x)(hs:(f x).set k v=f x'):(l.flatMap f).take (i*w+k)++v::(l.flatMap f).drop (i*w+k+1)=(l.set i x').flatMap f:=by
 rw[← KC hw hk h hs,List.set_eq_take_append_cons_drop,if_pos];rw[bZ hw];have h1:=(aC.1 h).1;have:(i+1)*w≤l.length*w:=di _ h1;rw[eT]at this;omega
theorem Km{A F:List Abs.aE}{b:Bk}{er:List Int}{lo hi:Int}{val:cN→Int}{fv:D}(hf1:fv.strip=fv)(hf2:fv.calm=fv)(hw:b.o7.length=b.ar.length)(hl:b.ar.length≤40)
  (hv:∀i e,e∈b.ar→e.left=true→o9 (lim T) false fv [.agg [.str e.m.name,.aH e.m.bh.length (e.m.bh.flatMap aT)]] ([]::A::F::(b.kA lo hi val i).bw σ.length er::σ)=some (.int .i64 (val e.m),[]::A::F::(b.kA lo hi val i).bw σ.length er::σ)):∀(m i:Nat),i+m=b.ar.length →
  WL T [0,2,4,13,14,15] false iW [(0,.ref σ.length 6 0 0),(2,fv),(4,.bF [.int .i64 lo,.int .i64 hi]),(13,.sl σ.length 0 b.ar.length 0 b.ar.length 4),(14,.int .i64 b.ar.length),(15,.int .i64 i)] ([]::A::F::(b.kA lo hi val i).bw σ.length er::σ)
   (fun x e σ'=>x=.exit 0∧σ'=[]::A::F::(b.kA lo hi val b.ar.length).bw σ.length er::σ)
 |0,i,h=>by
  refine aN iW.eq_1 ?_;have h1:¬i<b.ar.length:=by omega
  have h2:i=b.ar.length:=by omega
  simp[-length_flatMap,-map_take,h1,hf1,hf2,h2]
 |m+1,i,h=>by
  refine aN iW.eq_1 ?_;have h1:i<b.ar.length:=by omega
  obtain⟨e,he⟩:=gE h1;have hat:=agx (lo:=lo) (hi:=hi) (val:=val) he;have hfl:=bR (f:=mD.enc) (w:=4) (fun _=>rfl) hat;have hml:=Ea (b:=b) (lo:=lo) (hi:=hi) (val:=val) (i:=i);have hwl:=Eb (b:=b) (lo:=lo) (hi:=hi) (val:=val) (i:=i);have h4:=gG h1 (by omega);have ih:=Km hf1 hf2 hw hl hv m (i+1) (by omega);have hlen:=DJ (b.kA lo hi val i).ar;rw[hml]at hlen;have q:4≤b.ar.length*4-i*4:=by omega
  cases hc1:e.left with
  |false =>
   have hst:isStr lo hi val e=false:=by simp[isStr,hc1]
   rw[IV he hst]at ih;simp[-length_flatMap,-map_take,h1,hf1,hf2,Bk.bw,Bk.cells,hml,hwl,hfl,hlen,q,h4,hc1];exact WL.to ih (by simp) (by simp[Bk.bw,Bk.cells,hml,hwl]) fun x e σ' hh=>by simpa[Bk.bw,Bk.cells,Ea,Eb]using hh
  |true =>
   have hcall:=hv i e (ai he) hc1;simp only[Bk.bw,Bk.cells,hml,hwl,aez,RI,Nd,aeA,agy,agz,agA,Ng,Nf,Nc,agw]at hcall;cases hc2:cG (val e.m) lo hi with
   |true =>
    have hst:isStr lo hi val e=false:=by simp[isStr,hc2]
    rw[IV he hst]at ih;simp[-length_flatMap,-map_take,h1,hf1,hf2,Bk.bw,Bk.cells,hml,hwl,hfl,hlen,q,h4,hc1,hcall,ff,hc2];exact WL.to ih (by simp) (by simp[Bk.bw,Bk.cells,hml,hwl]) fun x e σ' hh=>by simpa[Bk.bw,Bk.cells,Ea,Eb]using hh
   |false =>
    have hst:isStr lo hi val e=true:=by simp[isStr,hc1,hc2]
    obtain⟨hn1,hn2⟩:=RH he hst hw;have q2:i*4+2+1≤b.ar.length*4:=by omega
    have q3:i*4+3+1≤b.ar.length*4:=by omega
    have p1:=KB (f:=mD.enc) (w:=4) (k:=2) (v:=.bool false) (fun _=>rfl) (by omega) (x':=⟨e.m,false,e.by_⟩) hat rfl;have hat2:((b.kA lo hi val i).ar.set i ⟨e.m,false,e.by_⟩)[i]?=some ⟨e.m,false,e.by_⟩:=by simp[hml,h1]
    have p2:=KB (f:=mD.enc) (w:=4) (k:=3) (v:=.int .i64 b.at_) (fun _=>rfl) (by omega) (x':=⟨e.m,false,b.at_⟩) hat2 rfl;rw[List.set_set]at p2;have hl2:=DJ ((b.kA lo hi val i).ar.set i ⟨e.m,false,e.by_⟩);rw[List.length_set,hml]at hl2;have h5:i<b.o7.length:=by omega
    have q5:i*4+4≤b.o7.length*4:=by omega
    have hwe:=Qi (b.kA lo hi val i).o7;rw[hwl]at hwe;have p3:=PF (f:=Mq.enc) (w:=4) (fun _=>rfl) (l:=(b.kA lo hi val i).o7) (i:=i) (x:=⟨b.at_,val e.m,lo,hi⟩) (by omega);simp only[Mq.enc,fF,aX]at p3;simp[-length_flatMap,-map_take,h1,hf1,hf2,Bk.bw,Bk.cells,hml,hwl,hfl,hlen,q,h4,hc1,hcall,ff,hc2,q2,q3,p1,p2,hl2,h5,q5,hwe,p3];exact WL.to ih (by simp) (by simp[Bk.bw,Bk.cells,hwl,hn1,hn2,hml]) fun x e σ' hh=>by simpa[Bk.bw,Bk.cells,Ea,Eb]using hh
def wx(b:Bk)(lo hi:Int)(val:cN→Int):Bk:=b.kA lo hi val b.ar.length
theorem Kk{A F:List Abs.aE}{b:Bk}{er:List Int}{lo hi:Int}{val:cN→Int}{fv:D}(hf1:fv.strip=fv)(hf2:fv.calm=fv)(hw:b.o7.length=b.ar.length)(hl:b.ar.length≤40)
  (hv:∀i e,e∈b.ar→e.left=true→o9 (lim T) false fv [.agg [.str e.m.name,.aH e.m.bh.length (e.m.bh.flatMap aT)]] ([]::A::F::(b.kA lo hi val i).bw σ.length er::σ)=some (.int .i64 (val e.m),[]::A::F::(b.kA lo hi val i).bw σ.length er::σ)):
  lim T (.call false gn [.ref σ.length 6 0 0,.agg [.int .i64 lo,.int .i64 hi],fv] (A::F::b.bw σ.length er::σ))=some (.val (.dG []) (A::F::(wx b lo hi val).bw σ.length er::σ)):=by
 refine gw Aw l7.eq_1 rfl (by simp) ?_;have h:=Km (A:=A) (F:=F) (er:=er) hf1 hf2 hw hl hv b.ar.length 0 (by omega);rw[RJ]at h;simp[-length_flatMap,-map_take,Bk.bw,Bk.cells,hf1,hf2];refine WL.to h (by simp) (by simp[Bk.bw,Bk.cells]) ?_;rintro x e σ' ⟨rfl,rfl⟩;simp[wx,Bk.bw,Bk.cells]
end Go.Proofs.YtfgljaglidhjiaaGreatDoor
namespace Go.Proofs.YtfgljaglidhjiaaGreatDoor
open List(length_flatMap map_take)
open Go Go.Abs Go.Rock
variable {σ:SK}
structure xr where
 m:Int
 h:Int
 s:Int
 g:Int
@[simp] def xr.enc(x:xr):List D:=[.int .i64 x.m,.int .i64 x.h,.int .i64 x.s,.int .i64 x.g]
def xr.valid(x:xr):Bool:=cG x.m 0 1000000 && (cG x.h 0 (4000*x.m) && (cG x.s 0 (10000*x.m) && cG x.g 0 1000000000))
def iU(r:Rw)(x:xr):Int:=if x.h-x.m*r.l≤0 then 0 else if x.m*r.v≤x.h then x.m else(x.h-x.m*r.l) / (r.v-r.l)
theorem R6{r:Rw}{x:xr}(hr:0≤r.l∧r.l<r.v∧r.v≤4000)(hm:0≤x.m∧x.m≤1000000)(hh:0≤x.h∧x.h≤4000000000):
  lim T (.call false kO [.agg r.enc,.agg x.enc] σ)=some (.val (.int .i64 (iU r x)) σ):=by
 refine az Cg nV.eq_1 rfl ?_;have b1:=oq hm.1 hm.2 hr.1 (show r.l≤4000 by omega);have b2:=oq hm.1 hm.2 (show 0≤r.v by omega) hr.2.2;have w1:=fR (n:=x.m*r.l) (by omega);have w2:=fR (n:=x.h-x.m*r.l) (by omega);have w3:=fR (n:=x.m*r.v) (by omega);have w4:=fR (n:=r.v-r.l) (by omega);have hd:¬r.v-r.l=0:=by omega
 unfold iU;by_cases c1:x.h-x.m*r.l≤0
 ·simp[-length_flatMap,-map_take,w1,w2,w3,w4,c1]
 ·by_cases c2:x.m*r.v≤x.h
  ·simp[-length_flatMap,-map_take,w1,w2,w3,w4,c1,c2]
  ·have t1:=bA (b:=r.v-r.l) (show 0≤x.h-x.m*r.l by omega);have q1:=Int.ediv_nonneg (a:=x.h-x.m*r.l) (b:=r.v-r.l) (by omega) (by omega);have q2:=Int.ediv_le_self (b:=r.v-r.l) (show 0≤x.h-x.m*r.l by omega);have w5:=fR (n:=(x.h-x.m*r.l) / (r.v-r.l)) (by omega);simp[-length_flatMap,-map_take,w1,w2,w3,w4,c1,c2,hd,t1,w5]
theorem Gg{x:xr}:lim T (.call false gU [.agg x.enc] σ)=some (.val (.bool x.valid) σ):=by
 refine az AQ mW.eq_1 rfl ?_;unfold xr.valid;cases h1:cG x.m 0 1000000
 ·simp[-length_flatMap,-map_take,j4,h1]
 have hm:=ba.1 h1;have w1:=fR (n:=4000*x.m) (by omega);have w2:=fR (n:=10000*x.m) (by omega);cases h2:cG x.h 0 (4000*x.m)
 ·simp[-length_flatMap,-map_take,j4,h1,h2,w1,w2]
 cases h3:cG x.s 0 (10000*x.m)
 ·simp[-length_flatMap,-map_take,j4,h1,h2,h3,w1,w2]
 cases h4:cG x.g 0 1000000000<;>simp[-length_flatMap,-map_take,j4,h1,h2,h3,h4,w1,w2]
theorem asK{t:List Rw}{i:Nat}{r:Rw}(h:t[i]?=some r):lim T (.call false oj [.aH t.length (t.flatMap Rw.enc),.int .i64 i] σ)=some (.val (.agg r.enc) σ):=by
 refine az Es rF.eq_1 rfl ?_;have h1:i<t.length:=(aC.1 h).1;have h2:=bR (f:=Rw.enc) (w:=5) (fun _=>rfl) h;simp[-length_flatMap,-map_take,h1,h2]
theorem agI{t:List Rw}{n:Int}(hl:t.length≤1000000000):lim T (.call false ni [.aH t.length (t.flatMap Rw.enc),.int .i64 n] σ)=some (.val (.bool (cG n 0 ((t.length:Int)-1))) σ):=by
 refine az Dz pY.eq_1 rfl ?_;have w1:=fR (n:=(t.length:Int)-1) (by omega);simp[-length_flatMap,-map_take,j4,w1]
def wat(r:Rw)(x:xr):Int×Int:=if iU r x=0 then(x.m,x.h)else if iU r x=x.m then(0,0)else(x.m-iU r x,x.h-iU r x*r.v)
def arG(r:Rw)(x:xr):Int:=if iU r x=0 then 0 else if iU r x=x.m then x.h else iU r x*r.v
def av5(r:Rw)(x:xr):Int:=if iU r x=0 then x.g else 0
def arF(r:Rw)(x:xr):Int:=if iU r x=0 then 0 else x.g
def held(r:Rw)(x:xr):Int:=min x.s ((wat r x).1*r.s)
def parts(r:Rw)(x:xr):List D:=[.int .i64 (iU r x),.int .i64 (arG r x),.int .i64 0,.int .i64 (arF r x),.int .i64 (wat r x).1,.int .i64 (wat r x).2,.int .i64 (held r x),.int .i64 (av5 r x),
 .int .i64 (if 0<(wat r x).1 then max 0 ((wat r x).2-(wat r x).1*r.l)else 0),.int .i64 (x.s-held r x)]
theorem adt{r:Rw}{x:xr}(hr:0≤r.l∧r.l<r.v∧r.v≤4000)(hm:0≤x.m):0≤iU r x∧iU r x≤x.m∧(iU r x≠0→iU r x≠x.m→0≤x.h-iU r x*r.v+x.m*r.v):=by
 have hmv:x.m*r.v=x.m*r.l+x.m*(r.v-r.l):=by rw[← Int.mul_add];congr 1;omega
 have hml:=dI hm hr.1;have key:¬x.h-x.m*r.l≤0→¬x.m*r.v≤x.h→0≤(x.h-x.m*r.l) / (r.v-r.l)∧(x.h-x.m*r.l) / (r.v-r.l)≤x.m:=fun h1 h2=>⟨Int.ediv_nonneg (by omega) (by omega),Int.ediv_le_of_le_mul (by omega) (by omega)⟩
 have h2:0≤iU r x∧iU r x≤x.m:=by
  unfold iU;by_cases c1:x.h-x.m*r.l≤0
  ·rw[if_pos c1];omega
  ·rw[if_neg c1];by_cases c2:x.m*r.v≤x.h
   ·rw[if_pos c2];omega
   ·rw[if_neg c2];exact key c1 c2
 refine⟨h2.1,h2.2,fun h3 _=>?_⟩;have h4:=fE h2.2 (show 0≤r.v by omega);have h5:¬x.h-x.m*r.l≤0:=by
  intro hh;exact h3 (by unfold iU;rw[if_pos hh])
 omega
theorem asH{r:Rw}{x:xr}(hr:0≤r.l∧r.l<r.v∧r.v≤4000)(hs:0≤r.s∧r.s≤2000)(hx:x.valid=true):
  lim T (.call false om [.agg r.enc,.agg x.enc] σ)=some (.val (.agg (parts r x)) σ):=by
 refine az Et rG.eq_1 rfl ?_;simp only[xr.valid,af,ba]at hx;obtain⟨hm,hh,hsl,hg⟩:=hx;have hF:=fun σ=>R6 (σ:=σ) hr hm ⟨hh.1,by omega⟩
 obtain⟨f1,f2,f3⟩:=adt hr hm.1;have b1:=oq f1 (show iU r x≤1000000 by omega) (show 0≤r.v by omega) hr.2.2;have b2:=oq (show 0≤x.m-iU r x by omega) (show x.m-iU r x≤1000000 by omega) hs.1 hs.2;have b3:=oq (show 0≤x.m-iU r x by omega) (show x.m-iU r x≤1000000 by omega) hr.1 (show r.l≤4000 by omega);have b4:=oq hm.1 hm.2 hs.1 hs.2;have b5:=oq hm.1 hm.2 hr.1 (show r.l≤4000 by omega);simp only[Rw.enc,xr.enc]at hF;unfold parts held arG av5 arF wat;generalize iU r x=m at *
 have w1:=fR (n:=m*r.v) (by omega);have w2:=fR (n:=x.m-m) (by omega);have w3:=fR (n:=x.h-m*r.v) (by omega);have w4:=fR (n:=(x.m-m)*r.s) (by omega);have w5:=fR (n:=(x.m-m)*r.l) (by omega);have w6:=fR (n:=x.h-m*r.v-(x.m-m)*r.l) (by omega);have w7:=fR (n:=x.m*r.s) (by omega);have w8:=fR (n:=x.m*r.l) (by omega);have w9:=fR (n:=x.h-x.m*r.l) (by omega);have v1:=fR (n:=x.s-min x.s (x.m*r.s)) (by omega);have v2:=fR (n:=x.s-min x.s ((x.m-m)*r.s)) (by omega);have v3:=fR (n:=x.s) (by omega);have v4:min x.s 0=0:=by omega
 by_cases c1:m=0
 ·subst c1;by_cases c2:0<x.m
  ·simp[-length_flatMap,-map_take,hF,w7,w8,w9,v1,c2]
  ·simp[-length_flatMap,-map_take,hF,w7,w8,w9,v1,c2]
 ·by_cases c2:m=x.m
  ·subst c2;simp[-length_flatMap,-map_take,hF,c1,v3,v4]
  ·have c3:0<x.m-m:=by omega
   have c4:m<x.m:=by omega
   simp[-length_flatMap,-map_take,hF,c1,c2,c3,c4,w1,w2,w3,w4,w5,w6,v2]
theorem aq9{t:List Rw}(ht:ku t=true){i:Nat}{r:Rw}(h:t[i]?=some r):(0≤r.l∧r.l<r.v∧r.v≤4000)∧(0≤r.s∧r.s≤2000):=by
 simp only[ku,af]at ht;have:=jP.1 ht.2.1 r (ai h);simp only[Rw.alone,af,ba,au]at this;obtain⟨_,_,h3,h4,h5,h6⟩:=this;exact⟨⟨h3.1,h5,h6⟩,h4⟩
theorem Nn{t:List Rw}(ht:ku t=true){i:Nat}{r:Rw}(hi:t[i]?=some r){x:xr}(hx:x.valid=true):
  lim T (.call false nw [.aH t.length (t.flatMap Rw.enc),.int .i64 i,.agg x.enc] σ)=some (.val (.dG [.agg (parts r x),.int .i64 0]) σ):=by
 refine az Cs sd.eq_1 rfl ?_;have hl:t.length≤20:=by
  simp only[ku,af]at ht;have:=ba.1 ht.1;omega
 have hil:i<t.length:=(aC.1 hi).1;have h1:=fun σ=>CC (σ:=σ) (t:=t) (by omega)
 have h2:=fun σ=>agI (σ:=σ) (t:=t) (n:=i) (by omega)
 have h3:=fun σ=>Gg (σ:=σ) (x:=x)
 have h4:=fun σ=>asK (σ:=σ) hi
 obtain⟨r1,r2⟩:=aq9 ht hi;have h5:=fun σ=>asH (σ:=σ) r1 r2 hx
 have hin:cG i 0 ((t.length:Int)-1)=true:=ba.2 (by omega);rw[hin]at h2;rw[hx]at h3;rw[ht]at h1;simp only[xr.enc,Rw.enc]at h3 h4 h5;have hp:(parts r x).length=10:=rfl;have hp2:(parts r x).take 10=parts r x:=rfl;have hpc:D.bz (parts r x)=true:=by simp[parts]
 generalize parts r x=P at *
 simp[-length_flatMap,-map_take,h1,h2,h3,h4,h5,hp,hp2];rw[jj (by simp[D.clean,hpc]) (by omega)];exact⟨_,rfl⟩
structure Yv(b:cr)(y:List Rock.aE):Prop where
 len:y.length=b.an.length
 ok:∀o∈y,(0≤o.m∧o.m≤1000000)∧(0≤o.h∧o.h≤10000000000)∧(0≤o.k∧o.k≤1000000000000)
theorem Yv.of{b:cr}{s:List Rock.aE}{aR:List Int}(h:Bv b)(hs:Sv b s)(hr:Rv b aR):Yv b (eE b s aR):=by
 refine⟨by simp[eE,hr.len],?_⟩;intro o ho;simp only[eE,bK]at ho;obtain⟨⟨w,r⟩,hm,rfl⟩:=ho;have hw:=Hx h w (List.of_mem_zip hm).1;have hb:=hr.ok r (List.of_mem_zip hm).2;simp only[rJ];split
 ·simp
 ·obtain⟨_,h1,h2,h3⟩:=hs.at (i:=w.b.toNat) (by omega);generalize bQ s w.b.toNat=x at *
  have h8:x.m.tdiv 8=x.m / 8:=bA (by omega);have hq:0≤min r (x.m.tdiv 8)∧min r (x.m.tdiv 8)≤x.m:=by omega
  exact⟨⟨hq.1,by simp only[Rock.aE.out];omega⟩,IJ h1.1 h2 hq,IJ h1.1 h3 hq⟩
theorem aeF{b:cr}{m:cN}{s:List Rock.aE}{aR:List Int}{s' y:List Rock.aE}(h:Bv b)(hs:Sv b s)(hr:Rv b aR)(ht:tick b m s aR=some (s',y)):Sv b s'∧Yv b y:=by
 refine⟨Sv.next h ht,?_⟩;unfold tick at ht;split at ht
 ·simp only[ae,ak]at ht;rw[← ht.2];exact Yv.of h hs hr
 ·cases ht
structure J4(b:cr)(n:Nat)(ss ys:List (List Rock.aE)):Prop where
 sl:ss.length=n+1
 yl:ys.length=n
 sv:∀s∈ss,Sv b s
 yv:∀y∈ys,Yv b y
theorem J4.from{b:cr}{m:cN}(h:Fv b m):∀(av:List (List Int)) (n:Nat) (ss ys:List (List Rock.aE)) (s:List Rock.aE) {ss' ys':List (List Rock.aE)},(∀r∈av,Rv b r)→J4 b n ss ys→Sv b s→ve b m ss ys s av=some (ss',ys')→J4 b (n+av.length) ss' ys'
 |[],n,ss,ys,s,ss',ys',hr,h1,h2,he=>by
  simp only[ve,ae,ak]at he;obtain⟨rfl,rfl⟩:=he;exact h1
 |r::av,n,ss,ys,s,ss',ys',hr,h1,h2,he=>by
  simp only[ve]at he;split at he
  ·rename_i s' y ht;obtain⟨g1,g2⟩:=aeF h.bv h2 (hr r (List.mem_cons_self ..)) ht;have:=J4.from h av (n+1) _ _ _ (fun x hx=>hr x (List.mem_cons_of_mem _ hx)) (⟨by simp[h1.sl],by simp[h1.yl],by
    intro x hx;rcases bu.1 hx with hx | hx
    ·exact h1.sv x hx
    ·rw[List.mem_singleton.1 hx];exact g1,by
    intro x hx;rcases bu.1 hx with hx | hx
    ·exact h1.yv x hx
    ·rw[List.mem_singleton.1 hx];exact g2⟩:J4 b (n+1) (ss++[s']) (ys++[y])) g1 he
   rw[show n+(r::av).length=n+1+av.length by simp;omega];exact this
  ·cases he
theorem J4.of{b:cr}{m:cN}{av:List (List Int)}{ss ys:List (List Rock.aE)}(h:Fv b m)(hr:∀r∈av,Rv b r)(he:Rock.run b m av=some (ss,ys)):J4 b av.length ss ys:=by
 have:=J4.from h av 0 _ _ _ hr (⟨rfl,rfl,by simpa using Sv.first h,by simp⟩:J4 b 0 [dS b m] []) (Sv.first h) he;simpa using this
theorem PJ{l:List cN}{j:Nat}{m:cN}(h:l[j]?=some m):((l.flatMap cN.enc).drop (j*2)).take 2=[.str m.name,.aH m.bh.length (m.bh.flatMap aT)] :=
 bR (f:=cN.enc) (w:=2) (fun _=>rfl) h
def adl(b:cr)(m:cN)(i:Nat):Bool:=cG (uQ b m 0 i) 1000 100000 && (cG (uQ b m 1 i) 0 1000 && (cG (uQ b m 2 i) 0 3000 && cG (uQ b m 3 i) 0 1000))
def KS(b:cr)(m:cN)(i:Nat):Nat→Bool
 |0=>true
 |k+1=>adl b m i && KS b m (i+1) k
theorem Is{b:cr}{m:cN}:∀{k i:Nat},KS b m i k=true↔∀j,i≤j→j<i+k→adl b m j=true
 |0,i=>by simp[KS];omega
 |k+1,i=>by
  rw[KS,af,Is];constructor
  ·intro⟨h1,h2⟩ j h3 h4;by_cases hj:j=i
   ·subst hj;exact h1
   ·exact h2 j (by omega) (by omega)
  ·intro h;exact⟨h i (by omega) (by omega),fun j h3 h4=>h j (by omega) (by omega)⟩
theorem Mw{b:cr}{m:cN}(h:Bv b):gR b.f [m]=0↔b.f.model m=0:=by
 simp only[gR,h.fv,if_true,fP.ar,fP.each];have h1:cG (([m]:List cN).length:Nat) 1 40=true:=by simp[cG]
 rw[if_pos h1];by_cases hc:b.f.model m=0
 ·simp[hc]
 ·simp[hc]
theorem Po{b:cr}{m:cN}(h:Bv b):fits b m=(decide (b.f.model m=0) && KS b m 0 b.n):=by
 by_cases hc:b.f.model m=0
 ·have hm:=Mv.of h ((Mw h).2 hc);have hcm:=(Mw h).2 hc;have key:∀{k:Nat} {lo hi:Int},k<4→(gQ (vx b m k) (fun n=>cG n lo hi)=true↔∀i,i<b.n→cG (uQ b m k i) lo hi=true):=by
   intro k lo hi hk;rw[jP];constructor
   ·intro ha i hi';exact ha _ (ai (wX hm hk hi'))
   ·intro ha x hx;obtain⟨i,hi'⟩:=gO hx;have hlt:i<b.n:=by have:=(aC.1 hi').1;rwa[IB hm hk]at this
    rw[wX hm hk hlt]at hi';cases hi';exact ha i hlt
  rw[Bool.eq_iff_iff];simp only[fits,hcm,hc,decide_true,Bool.true_and,af,Is,adl];rw[key (by decide),key (by decide),key (by decide),key (by decide)];constructor
  ·intro⟨h1,h2,h3,h4⟩ j _ hj;exact⟨h1 j (by omega),h2 j (by omega),h3 j (by omega),h4 j (by omega)⟩
  ·intro hh;exact⟨fun i hi=>(hh i (by omega) (by omega)).1,fun i hi=>(hh i (by omega) (by omega)).2.1,fun i hi=>(hh i (by omega) (by omega)).2.2.1,fun i hi=>(hh i (by omega) (by omega)).2.2.2⟩
 ·have hcm:¬gR b.f [m]=0:=fun hh=>hc ((Mw h).1 hh)
  simp[fits,hc,hcm]
def adT(b:cr)(l:List cN):Int:=if cG l.length 1 40 then(if b.f.ar l=0 then(if gQ l (fits b)then 0 else 1)else 1)else 3
def alS(b:cr)(l:List cN)(av:List (List Int)):Bool:=b.valid && (decide (l.length≤4) && (decide (adT b l=0) && (decide (av.length≤6) && decide (vV b av=0))))
theorem My(l:List cN):D.bz (l.flatMap cN.enc)=true:=gX (fun x=>by simp[D.clean,bq]) l
structure Ok(b:cr)(l:List cN)(av:List (List Int)):Prop where
 bv:Bv b
 valid:b.valid=true
 len:1≤l.length∧l.length≤40
 ar:b.f.ar l=0
 fit:∀m∈l,fits b m=true
 fv:∀m∈l,Fv b m
 short:∀m∈l,m.name.length≤1000000000∧m.bh.length≤384
 pl:vV b av=0
 Ls:av.length≤200
 aR:∀r∈av,Rv b r
theorem aqD{b:cr}{m:cN}(h:Bv b)(hf:fits b m=true):m.name.length≤16:=by
 rw[Po h,af,au]at hf;have hm:=hf.1;unfold fP.model at hm;split at hm
 ·rename_i hn;simp only[named,af]at hn;have:=ba.1 hn.2;omega
 ·cases hm
theorem Ok.of{b:cr}{l:List cN}{av:List (List Int)}(h:alS b l av=true):Ok b l av:=by
 simp only[alS,af,au]at h;obtain⟨h1,h2,h3,h4,h5⟩:=h;have hb:=Bv.of h1;unfold adT at h3;split at h3
 ·rename_i hi;split at h3
  ·rename_i hm;split at h3
   ·rename_i hf;have hfit:∀m∈l,fits b m=true:=jP.1 hf;have hfv:∀m∈l,Fv b m:=fun m hm=>Fv.of (by simp[Bd,h1,hfit m hm])
    exact⟨hb,h1,⟨by have:=ba.1 hi;omega,by omega⟩,hm,hfit,hfv,fun m hm=>⟨by have:=aqD hb (hfit m hm);omega,(hfv m hm).toMv.le.2⟩,h5,by omega,(zU h5).2⟩
   ·cases h3
  ·cases h3
 ·cases h3
theorem Ok.check{b:cr}{l:List cN}{av:List (List Int)}(h:Ok b l av):gR b.f l=0:=by
 simp[gR,h.bv.fv,h.ar]
theorem Sl{b:cr}{m:cN}(h:Bv b)(hn:m.name.length≤1000000000)(hl:m.bh.length≤1000000000):lim T (.call false og [.agg [.str m.name,.aH m.bh.length (m.bh.flatMap aT)],.bF [.int .i64 b.f.x,.int .i64 b.f.y,.int .i64 b.f.z,.int .i64 b.f.k,.aH b.ck.length (b.ck.flatMap Rw.enc),.int .i64 b.bJ,.int .i64 b.lift,.int .i64 b.deep,.aH b.an.length (b.an.flatMap bG.enc)]] σ)=some (.val (.bool (fits b m)) σ):=by
 refine az Gv tL.eq_1 rfl ?_;have hC:=fun σ=>Ma (σ:=σ) (m:=m) h hn hl
 simp[-length_flatMap,-map_take,hC,cI,bj,bq]
theorem Mg{b:cr}{l:List cN}(h:Bv b)(hs:∀m∈l,m.name.length≤1000000000∧m.bh.length≤1000000000)(hl:l.length≤1000000000):
  lim T (.call false iy [.aH l.length (l.flatMap cN.enc),.fn og [] [.bF [.int .i64 b.f.x,.int .i64 b.f.y,.int .i64 b.f.z,.int .i64 b.f.k,.aH b.ck.length (b.ck.flatMap Rw.enc),.int .i64 b.bJ,.int .i64 b.lift,.int .i64 b.deep,.aH b.an.length (b.an.flatMap bG.enc)]]] σ)=some (.val (.bool (gQ l (fits b))) σ) :=
 zt (wP 2 cN.enc (fun _=>rfl)) (f:=iy) (g:=jN) (h:=eG) (i:=fL) (l:=l) (p:=fits b) rfl rfl rfl rfl (by omega) (pK.fn fun x hx σ=>Sl h (hs x hx).1 (hs x hx).2) rfl
theorem afe{b:cr}{l:List cN}{av:List (List Int)}(h:Ok b l av):
  lim T (.call false tT [.agg [.int .i64 b.f.x,.int .i64 b.f.y,.int .i64 b.f.z,.int .i64 b.f.k,.aH b.ck.length (b.ck.flatMap Rw.enc),.int .i64 b.bJ,.int .i64 b.lift,.int .i64 b.deep,.aH b.an.length (b.an.flatMap bG.enc)],.aH l.length (l.flatMap cN.enc),.aH av.length (av.flatMap FT)] σ)=some (.val (.int .i64 0) σ):=by
 refine az I9 wj.eq_1 rfl ?_;have hs:∀m∈l,m.name.length≤1000000000∧m.bh.length≤1000000000:=fun m hm=>⟨(h.short m hm).1,by have:=(h.short m hm).2;omega⟩
 have hl:=h.len;have htab:=h.bv.ck;have ht:b.ck.length≤1000000000:=by
  simp only[ku,af]at htab;have:=ba.1 htab.1;omega
 have h1:=fun σ=>AF (σ:=σ) (b:=b) ht (by have:=h.bv.an;omega)
 have h2:=fun σ=>Cq (σ:=σ) (f:=b.f) (l:=l) hs (by omega)
 have h3:=fun σ=>Mg (σ:=σ) (l:=l) h.bv hs (by omega)
 have h4:=fun σ=>Sj (σ:=σ) (b:=b) (av:=av) (by have:=h.Ls;omega) (fun r hr=>by have:=(h.aR r hr).len;have:=h.bv.an;omega)
 have hi:cG l.length 1 40=true:=ba.2 (by omega);have ha:gQ l (fits b)=true:=jP.2 h.fit;rw[h.valid]at h1;rw[h.check]at h2;rw[ha]at h3;rw[h.pl]at h4;simp[-length_flatMap,-map_take,h1,h2,h3,h4,dH,hi,cI,bj,bq]
abbrev RunT:=List (List Rock.aE)×List (List Rock.aE)
def Di(r:RunT):List D:=[.aH r.1.length (r.1.flatMap wC),.aH r.2.length (r.2.flatMap wC)]
theorem aej(l:List RunT):(l.flatMap Di).length=l.length*2:=bZ (f:=Di) (w:=2) (fun _=>rfl) l
def xk(b:cr)(av:List (List Int)):List cN→Option (List RunT)
 |[]=>some []
 |m::l=>match Rock.run b m av with
  |some r=>(xk b av l).map (r :: ·)
  |none=>none
def Lz(n:Nat)(acc:List RunT)(σ:SK)(r:Option (List RunT))(x:Abs.Exit)(e:Env)(σ':SK):Prop:=match r with
 |some rs=>x=.exit 0∧get e 6=.sl σ.length 0 n 0 n 2∧σ'=[.cells n ((acc++rs).flatMap Di)]::σ
 |none=>x=.fQ (.tW 262 (.agg []))∧∃bw,σ'=bw::σ
theorem Mm{b:cr}{l:List cN}{av:List (List Int)}(h:Ok b l av):∀(k i:Nat) (acc:List RunT),i+k=l.length→acc.length=i →
  WL T [2,3,6,9,10,11] false tM [(2,.aH av.length (av.flatMap FT)),(3,.bF [.int .i64 b.f.x,.int .i64 b.f.y,.int .i64 b.f.z,.int .i64 b.f.k,.aH b.ck.length (b.ck.flatMap Rw.enc),.int .i64 b.bJ,.int .i64 b.lift,.int .i64 b.deep,.aH b.an.length (b.an.flatMap bG.enc)]),(6,.sl σ.length 0 i 0 i 2),(9,.aH l.length (l.flatMap cN.enc)),(10,.int .i64 l.length),(11,.int .i64 i)] ([.cells i (acc.flatMap Di)]::σ)
   (Lz l.length acc σ (xk b av (l.drop i)))
 |0,i,acc,hi,ha=>by
  refine aN tM.eq_1 ?_;obtain rfl:i=l.length:=by omega
  have h2:l.drop l.length=[]:=aA (by omega);simp[-length_flatMap,-map_take,h2,xk,Lz]
 |k+1,i,acc,hi,ha=>by
  refine aN tM.eq_1 ?_;have h1:i<l.length:=by omega
  obtain⟨m,hm⟩:=gE h1;have hlen:=h.len;have h2:=PJ hm;have h4:=gG h1 (by omega);have h5:=cS hm;have hmem:=ai hm;have a4:=aej acc;rw[ha]at a4;have a6:(acc.flatMap Di).take (i*2)=acc.flatMap Di:=aj (by omega);have h7:(i+1)*48≤room:=by unfold room;omega
  have hp:av.length≤200:=by have:=h.Ls;omega
  rw[h5,xk];cases hr:Rock.run b m av with
  |none =>
   have hC:=fun σ=>Ns (σ:=σ) (h.fv m hmem) hp h.aR hr
   simp[-length_flatMap,-map_take,h1,h2,h4,hC,Lz,cI,bj,bq]
  |some r =>
   obtain⟨ss,ys⟩:=r;have hC:=fun σ hσ=>Nt (σ:=σ) (h.fv m hmem) hp h.aR hσ hr
   have ih:=Mm h k (i+1) (acc++[(ss,ys)]) (by omega) (by simp[ha]);simp[-length_flatMap,-map_take,h1,h2,h4,hC,a4,a6,h7,cI,bj,bq,D.clean,Ik];refine WL.to ih (by simp) (by simp[Di]) fun x e σ' hh=>?_
   cases hq:xk b av (l.drop (i+1))with
   |none=>rw[hq]at hh;simpa[Lz]using hh
   |some rs=>rw[hq]at hh;simpa[Lz]using hh
theorem Sr{b:cr}{l:List cN}{av:List (List Int)}(h:Ok b l av)(hσ:σ≠[]){rs:List RunT}(hr:xk b av l=some rs)(hl:rs.length=l.length):
  lim T (.call false td [.agg [.int .i64 b.f.x,.int .i64 b.f.y,.int .i64 b.f.z,.int .i64 b.f.k,.aH b.ck.length (b.ck.flatMap Rw.enc),.int .i64 b.bJ,.int .i64 b.lift,.int .i64 b.deep,.aH b.an.length (b.an.flatMap bG.enc)],.aH l.length (l.flatMap cN.enc),.aH av.length (av.flatMap FT)] σ)=some (.val (.aH rs.length (rs.flatMap Di)) σ):=by
 refine az Ff vo.eq_1 rfl ?_;simp[-length_flatMap,-map_take,cI,bj,bq];refine WL.to (Mm (σ:=σ) h l.length 0 [] (by omega) rfl) (by simp) (by simp) ?_;rw[aO,hr];rintro x e σ' ⟨rfl,g6,rfl⟩;simp[-length_flatMap,-map_take,g6];rw[← hl,xO (f:=Di) (by decide) (fun _=>rfl) (fun x=>by simp[Di,D.clean,Ik]) hσ (by simp)];simp
theorem Sq{b:cr}{l:List cN}{av:List (List Int)}(h:Ok b l av)(hr:xk b av l=none):
  lim T (.call false td [.agg [.int .i64 b.f.x,.int .i64 b.f.y,.int .i64 b.f.z,.int .i64 b.f.k,.aH b.ck.length (b.ck.flatMap Rw.enc),.int .i64 b.bJ,.int .i64 b.lift,.int .i64 b.deep,.aH b.an.length (b.an.flatMap bG.enc)],.aH l.length (l.flatMap cN.enc),.aH av.length (av.flatMap FT)] σ)=some (.fQ (.tW 262 (.agg [])) σ):=by
 refine ef Ff vo.eq_1 rfl ?_;simp[-length_flatMap,-map_take,cI,bj,bq];refine WL.to (Mm (σ:=σ) h l.length 0 [] (by omega) rfl) (by simp) (by simp) ?_;rw[aO,hr];rintro x e σ' ⟨rfl,bw,rfl⟩;simp[D.clean]
theorem IN{b:cr}{av:List (List Int)}:∀{l:List cN} {rs:List RunT},xk b av l=some rs→rs.length=l.length∧∀(i:Nat) m,l[i]?=some m→∃r,rs[i]?=some r∧Rock.run b m av=some r
 |[],rs,h=>by simp only[xk,ae]at h;subst h;simp
 |m::l,rs,h=>by
  simp only[xk]at h;cases hr:Rock.run b m av with
  |none=>rw[hr]at h;cases h
  |some r =>
   rw[hr]at h;simp only[ad]at h;obtain⟨rs',h1,rfl⟩:=h;obtain⟨g1,g2⟩:=IN h1;refine⟨by simp[g1],?_⟩;intro i m' hm';cases i with
   |zero=>simp only[cb,ae]at hm';subst hm';exact⟨r,rfl,hr⟩
   |succ i=>simpa using g2 i m' (by simpa using hm')
theorem afn{x:Rock.aE}:lim T (.call false kh [.agg x.enc] σ)=some (.val (.int .i64 x.m) σ):=by
 refine az Dw pU.eq_1 rfl ?_;simp[-length_flatMap,-map_take]
theorem SB{x:Rock.aE}:lim T (.call false jt [.agg x.enc] σ)=some (.val (.int .i64 x.k) σ):=by
 refine az CO oQ.eq_1 rfl ?_;simp[-length_flatMap,-map_take]
def rowAt(l:List (List Rock.aE))(t:Nat):List Rock.aE:=(l[t]?).getD []
structure Rs(b:cr)(l:List cN)(n:Nat)(rs:List RunT):Prop where
 len:rs.length=l.length
 ne:1≤l.length∧l.length≤40
 n6:n≤200
 an:b.an.length≤8
 bn:1≤b.n∧b.n≤64
 all:∀r∈rs,J4 b n r.1 r.2
 fv:∀m∈l,Fv b m
theorem P3{b:cr}{n:Nat}{r:RunT}(h:J4 b n r.1 r.2){t:Nat}(ht:t<n):r.2[t]?=some (rowAt r.2 t)∧Yv b (rowAt r.2 t):=by
 have h1:t<r.2.length:=by rw[h.yl];exact ht
 have h2:r.2[t]?=some r.2[t]:=aI h1;have h3:rowAt r.2 t=r.2[t]:=by simp[rowAt,h2]
 rw[h3];exact⟨h2,h.yv _ (List.getElem_mem h1)⟩
theorem alN{b:cr}{n:Nat}{r:RunT}(h:J4 b n r.1 r.2){t:Nat}(ht:t≤n):r.1[t]?=some (rowAt r.1 t)∧Sv b (rowAt r.1 t):=by
 have h1:t<r.1.length:=by rw[h.sl];omega
 have h2:r.1[t]?=some r.1[t]:=aI h1;have h3:rowAt r.1 t=r.1[t]:=by simp[rowAt,h2]
 rw[h3];exact⟨h2,h.sv _ (List.getElem_mem h1)⟩
theorem al1{b:cr}{y:List Rock.aE}(h:Yv b y){w:Nat}(hw:w<b.an.length):y[w]?=some (bQ y w):=by
 have h1:w<y.length:=by rw[h.len];exact hw
 simp[bQ,aI h1]
theorem aev{l:List (List Rock.aE)}{t:Nat}{s:List Rock.aE}(h:l[t]?=some s):((l.flatMap wC).drop t).take 1=[.aH s.length (s.flatMap aE.enc)]:=by
 have:=bR (f:=wC) (w:=1) (fun _=>rfl) h;simpa[wC]using this
theorem agk{l:List RunT}{j:Nat}{r:RunT}(h:l[j]?=some r):((l.flatMap Di).drop (j*2)).take 2=[.aH r.1.length (r.1.flatMap wC),.aH r.2.length (r.2.flatMap wC)] :=
 bR (f:=Di) (w:=2) (fun _=>rfl) h
end Go.Proofs.YtfgljaglidhjiaaGreatDoor
namespace Go.Rock
open List(length_flatMap map_take)
open Go Go.Abs
def three:List Rw:=[⟨100,101,419,2676,150⟩,⟨150,476,632,2746,300⟩,⟨200,1555,852,2793,600⟩]
end Go.Rock
namespace Go.Proofs.YtfgljaglidhjiaaGreatDoor
open List(length_flatMap map_take)
open Go Go.Abs Go.Rock
variable {σ:SK}
theorem Rs.of{b:cr}{l:List cN}{av:List (List Int)}(h:Ok b l av){rs:List RunT}(hr:xk b av l=some rs):Rs b l av.length rs:=by
 obtain⟨h1,h2⟩:=IN hr;refine⟨h1,h.len,h.Ls,h.bv.an,h.bv.n,?_,h.fv⟩;intro r hmem;obtain⟨i,hi⟩:=gO hmem;have hlt:i<l.length:=by rw[← h1];exact(aC.1 hi).1
 obtain⟨m,hm⟩:=gE hlt;obtain⟨r',h3,h4⟩:=h2 i m hm;rw[hi]at h3;cases h3;exact J4.of (h.fv m (ai hm)) h.aR h4
theorem KT(l:List Nat):(l.flatMap fun _=>[D.aH 0 []])=List.replicate l.length (.aH 0 []):=by
 induction l with
 |nil=>rfl
 |cons a l ih=>rw[aZ,ih];rfl
end Go.Proofs.YtfgljaglidhjiaaGreatDoor
namespace Go.Rock
open List(length_flatMap map_take)
open Go Go.Abs
structure xp where
 name:List UInt8
 kind:Int
 bl:List Int
 wt:List Int
 lo:Int
 hi:Int
structure v8 where
 tick:Int
 rk:Int
 idx:Int
 lo:Int
 hi:Int
@[simp] theorem xp.eta(p:xp):xp.mk p.name p.kind p.bl p.wt p.lo p.hi=p:=rfl
@[simp] theorem v8.eta(p:v8):v8.mk p.tick p.rk p.idx p.lo p.hi=p:=rfl
@[simp] def xp.enc(m:xp):List D:=[.str m.name,.int .i64 m.kind,.aH m.bl.length (m.bl.flatMap aT),.aH m.wt.length (m.wt.flatMap aT),.int .i64 m.lo,.int .i64 m.hi]
@[simp] def v8.enc(x:v8):List D:=[.int .i64 x.tick,.int .u8 x.rk,.int .i64 x.idx,.int .i64 x.lo,.int .i64 x.hi]
def Bs(n:Int):Int→List Int→List Int→Bool
 |last,b::bl,w::wt=>decide (last<b) && (decide (b<n) && (cG w (-1000) 1000 && Bs n b bl wt))
 |_,_,_=>true
def Hw(f:fP)(kind:Int)(bl wt:List Int):Bool:=cG kind 0 (f.k-1) && (decide (1≤bl.length) && (decide (bl.length=wt.length) && Bs f.size (-1) bl wt))
def GW(lo hi:Int):Bool:=decide (-10000000000≤lo) && (decide (lo≤hi) && decide (hi≤10000000000))
def fP.measure(f:fP)(m:xp):Int:=if named m.name then(if Hw f m.kind m.bl m.wt && GW m.lo m.hi then 0 else 1)else 5
def fP.DH(f:fP)(met:List (List UInt8)):List xp→Int
 |[]=>0
 |m::l=>if f.measure m=0 then(if met.contains m.name then 6 else f.DH (met++[m.name]) l)else f.measure m
def fP.DZ(f:fP)(l:List xp):Int:=if 12<l.length then 3 else f.DH [] l
structure Mev(f:fP)(x:xp):Prop where
 name:x.name.length≤16
 kind:0≤x.kind∧x.kind<f.k
 ne:1≤x.bl.length
 len:x.bl.length=x.wt.length
 avo:Bs f.size (-1) x.bl x.wt=true
 ends : -10000000000≤x.lo∧x.lo≤x.hi∧x.hi≤10000000000
theorem Mev.of{f:fP}{x:xp}(h:f.measure x=0):Mev f x:=by
 unfold fP.measure at h;split at h
 ·rename_i h1;split at h
  ·rename_i h2;simp only[Hw,GW,af,au,ba]at h2;obtain⟨⟨h3,h4,h5,h6⟩,h7,h8,h9⟩:=h2;simp only[named,af]at h1;have:=ba.1 h1.2;exact⟨by omega,by omega,h4,h5,h6,h7,h8,h9⟩
  ·cases h
 ·cases h
theorem IW{n:Int}:∀{bl wt:List Int} {last:Int},bl.length=wt.length→Bs n last bl wt=true→last<n→(bl.length:Int)≤n-1-last
 |[],wt,last,hl,h,hn=>by simp;omega
 |b::bl,[],last,hl,h,hn=>by simp at hl
 |b::bl,w::wt,last,hl,h,hn=>by
  simp only[Bs,af,au]at h;obtain⟨h1,h2,h3,h4⟩:=h;have:=IW (n:=n) (bl:=bl) (wt:=wt) (last:=b) (by simpa using hl) h4 h2;simp only[aL];omega
theorem LL{n:Int}:∀{bl wt:List Int} {last:Int} {i:Nat} {b w:Int},Bs n last bl wt=true→bl[i]?=some b→wt[i]?=some w→last<b∧b<n∧(-1000≤w∧w≤1000)
 |[],wt,last,i,b,w,h,hb,hw=>by simp at hb
 |b'::bl,[],last,i,b,w,h,hb,hw=>by simp at hw
 |b'::bl,w'::wt,last,i,b,w,h,hb,hw=>by
  simp only[Bs,af,au]at h;obtain⟨h1,h2,h3,h4⟩:=h;cases i with
  |zero =>
   simp only[cb,ae]at hb hw;subst hb hw;exact⟨h1,h2,ba.1 h3⟩
  |succ i =>
   have:=LL h4 (by simpa using hb) (by simpa using hw);omega
def aeB(bh:List Int)(off:Int):Int→List Int→List Int→Int
 |acc,b::bl,w::wt=>aeB bh off (acc+w*(bh[(off+b).toNat]?).getD 0) bl wt
 |acc,_,_=>acc
def LS(f:fP)(m:cN)(x:xp):Int:=aeB m.bh (x.kind*f.size) 0 x.bl x.wt
def adU(lo hi s:Int):Int:=if hi<s then s-hi else if s<lo then s-lo else 0
def Bn(lo hi s:Int):Int:=max 0 (s-hi)+min 0 (s-lo)
theorem MQ{lo hi s:Int}(h:lo≤hi):Bn lo hi s=adU lo hi s:=by
 unfold Bn adU;split
 ·omega
 ·split<;>omega
def aE.E5(y:aE):Int:=if y.m=0 then 0 else y.h.tdiv y.m
def aE.LM(y:aE)(rk:Int):Int:=if rk=2 then y.m else if rk=3 then y.E5 else y.k
def vC(b:cr)(m:cN)(r:List (List aE)×List (List aE))(x:v8):Int :=
 if x.rk=1 then kQ b m ((r.1[x.tick.toNat]?).getD []) x.idx.toNat else aE.LM (bQ ((r.2[x.tick.toNat-1]?).getD []) x.idx.toNat) x.rk
def vB(b:cr)(ze:Int)(x:v8):Int :=
 if !cG x.rk 1 4 || (decide (x.lo < -10000000000) || (decide (x.hi<x.lo) || decide (10000000000<x.hi)))then 1
 else if !cG x.tick (if x.rk=1 then 0 else 1) ze || !cG x.idx 0 ((if x.rk=1 then b.size else b.an.length)-1)then 2 else 0
def xh(b:cr)(ze:Int)(l:List v8):Int:=if 40<l.length then 3 else da (vB b ze) l
structure Rdv(b:cr)(n:Nat)(x:v8):Prop where
 rk:1≤x.rk∧x.rk≤4
 ends : -10000000000≤x.lo∧x.lo≤x.hi∧x.hi≤10000000000
 p:x.rk=1→(0≤x.tick∧x.tick≤n)∧0≤x.idx∧x.idx<b.size
 y:x.rk≠1→(1≤x.tick∧x.tick≤n)∧0≤x.idx∧x.idx<b.an.length
theorem Rdv.of{b:cr}{n:Nat}{x:v8}(h:vB b n x=0):Rdv b n x:=by
 unfold vB at h;by_cases h3:x.rk=1
 ·rw[if_pos h3,if_pos h3]at h;split at h
  ·cases h
  ·rename_i h1;simp only[bX,au,dR,not_or,Bool.not_eq_false,ba]at h1;split at h
   ·cases h
   ·rename_i h2;simp only[bX,dR,not_or,Bool.not_eq_false,ba]at h2;exact⟨h1.1,by omega,fun _=>by omega,fun h=>absurd h3 h⟩
 ·rw[if_neg h3,if_neg h3]at h;split at h
  ·cases h
  ·rename_i h1;simp only[bX,au,dR,not_or,Bool.not_eq_false,ba]at h1;split at h
   ·cases h
   ·rename_i h2;simp only[bX,dR,not_or,Bool.not_eq_false,ba]at h2;exact⟨h1.1,by omega,fun h=>absurd h h3,fun _=>by omega⟩
end Go.Rock
namespace Go.Proofs.YtfgljaglidhjiaaGreatDoor
open List(length_flatMap map_take)
open Go Go.Abs Go.Rock
variable {σ:SK}
theorem H6{f:fP}(h:f.valid=true):lim T (.call false dj [.agg [.int .i64 f.x,.int .i64 f.y,.int .i64 f.z,.int .i64 f.k]] σ)=some (.val (.int .i64 f.size) σ):=by
 obtain⟨h1,h2,h3,h4,h5⟩:=fP.tj.1 h;exact Ga h1 h2 h3
theorem SJ{f:fP}{bl wt:List Int}(hf:f.valid=true)(hl:bl.length≤9223372036854775807)(hw:bl.length=wt.length):∀(k i:Nat) (last:Int),i+k=bl.length →
  WL T [3,4,9,30,31,32] false kT [(3,.aH wt.length (wt.flatMap aT)),(4,.bF [.int .i64 f.x,.int .i64 f.y,.int .i64 f.z,.int .i64 f.k]),(9,.int .i64 last),(30,.aH bl.length (bl.flatMap aT)),(31,.int .i64 bl.length),(32,.int .i64 i)] σ
   (fun x e σ'=>σ'=σ∧if Bs f.size last (bl.drop i) (wt.drop i)then x=.exit 0 else x=.ret∧get e 8=.bool false)
 |0,i,last,hi=>by
  refine aN kT.eq_1 ?_;have h1:¬i<bl.length:=by omega
  have h2:bl.drop i=[]:=aA (by omega);simp[-length_flatMap,-map_take,h1,h2,Bs]
 |k+1,i,last,hi=>by
  refine aN kT.eq_1 ?_;have h1:i<bl.length:=by omega
  have h1':i<wt.length:=by omega
  obtain⟨b,hb⟩:=gE h1;obtain⟨w,hw'⟩:∃r,wt[i]?=some r:=⟨_,aI h1'⟩;have h2:=qB hb;have h3:=qB hw';have h4:=gG h1 hl;have h5:=cS hb;have h6:=cS hw';have hB:=fun σ=>H6 (σ:=σ) hf
  have ih:=SJ hf hl hw k (i+1) b (by omega);rw[h5,h6,Bs];by_cases c1:b≤last
  ·simp[-length_flatMap,-map_take,h1,h1',h2,h3,h4,hB,gN,c1,show ¬last<b by omega]
  ·by_cases c2:f.size≤b
   ·simp[-length_flatMap,-map_take,h1,h1',h2,h3,h4,hB,gN,c1,c2,show last<b by omega,show ¬b<f.size by omega]
   ·cases c3:cG w (-1000) 1000
    ·simp[-length_flatMap,-map_take,h1,h1',h2,h3,h4,hB,gN,c1,c2,c3,show last<b by omega,show b<f.size by omega]
    ·simp[-length_flatMap,-map_take,h1,h1',h2,h3,h4,hB,gN,c1,c2,c3,show last<b by omega,show b<f.size by omega];exact WL.to ih (by simp) rfl fun x e σ hh=>by simpa[show last<b by omega,show b<f.size by omega]using hh
theorem ami{f:fP}{k:Int}{bl wt:List Int}(hf:f.valid=true)(hl:bl.length≤9223372036854775807)(hk:f.valid=true→True):
  lim T (.call false lN [.agg [.int .i64 f.x,.int .i64 f.y,.int .i64 f.z,.int .i64 f.k],.int .i64 k,.aH bl.length (bl.flatMap aT),.aH wt.length (wt.flatMap aT)] σ)=some (.val (.bool (Hw f k bl wt)) σ):=by
 refine az CF oE.eq_1 rfl ?_;obtain⟨q1,q2,q3,q4,q5⟩:=fP.tj.1 hf;have w1:=fR (n:=f.k-1) (by omega);unfold Hw;cases c1:cG k 0 (f.k-1)
 ·simp[-length_flatMap,-map_take,gN,w1,c1]
 by_cases c2:1≤bl.length
 rotate_left
 ·have:bl=[]:=bP.1 (by omega);subst this;simp[-length_flatMap,-map_take,gN,w1,c1]
 have c2':¬(bl.length:Int)<1:=by omega
 have c2'':¬bl=[]:=fun h=>by rw[h]at c2;simp at c2
 by_cases c3:bl.length=wt.length
 rotate_left
 ·simp[-length_flatMap,-map_take,gN,w1,c1,c2',c2'',c3,show ¬(bl.length:Int)=wt.length by omega]
 have c4:¬(wt.length:Int)<1:=by omega
 have c5:¬wt=[]:=fun h=>by rw[h]at c3;simp at c3;exact c2'' c3
 simp[-length_flatMap,-map_take,gN,w1,c1,c2,c2',c2'',c3,c4,c5];refine WL.to (SJ (σ:=[]::σ) hf hl c3 bl.length 0 (-1) (by omega)) (by simp[c3]) rfl ?_;rintro x e σ' ⟨rfl,h⟩;simp only[aO]at h;cases hc:Bs f.size (-1) bl wt
 ·simp[hc]at h;simp[h]
 ·simp[hc]at h;simp[-length_flatMap,-map_take,h];omega
theorem aeY{lo hi:Int}:lim T (.call false lO [.agg [.int .i64 lo,.int .i64 hi]] σ)=some (.val (.bool (GW lo hi)) σ):=by
 refine az CG oF.eq_1 rfl ?_;unfold GW;by_cases c1 : -10000000000≤lo
 ·by_cases c2:lo≤hi<;>simp[-length_flatMap,-map_take,c1,c2]
 ·simp[-length_flatMap,-map_take,c1]
theorem Ib{f:fP}{m:xp}(hf:f.valid=true)(hn:m.name.length≤1000000000)(hl:m.bl.length≤9223372036854775807):
  lim T (.call false gj [.agg [.int .i64 f.x,.int .i64 f.y,.int .i64 f.z,.int .i64 f.k],.agg m.enc] σ)=some (.val (.int .i64 (f.measure m)) σ):=by
 refine az Aq lX.eq_1 rfl ?_;have h1:=fun σ=>FW (σ:=σ) hn
 have h2:=fun σ=>ami (σ:=σ) (k:=m.kind) (wt:=m.wt) hf hl (fun _=>trivial)
 unfold fP.measure;cases c1:named m.name
 ·simp[-length_flatMap,-map_take,h1,c1]
 cases c2:Hw f m.kind m.bl m.wt
 ·simp[-length_flatMap,-map_take,h1,h2,c1,c2]
 cases c3:GW m.lo m.hi<;>simp[-length_flatMap,-map_take,h1,h2,aeY,c1,c2,c3]
theorem asI{f:fP}{m:xp}(hf:f.valid=true)(hn:m.name.length≤1000000000)(hl:m.bl.length≤9223372036854775807):
  lim T (.call false du [.agg m.enc,.bF [.int .i64 f.x,.int .i64 f.y,.int .i64 f.z,.int .i64 f.k]] σ)=some (.val (.dG [.str m.name,.int .i64 (f.measure m)]) σ):=by
 refine az yi jF.eq_1 rfl ?_;have h:=fun σ=>Ib (σ:=σ) hf hn hl
 simp only[xp.enc]at h ⊢;simp[-length_flatMap,-map_take,h]
theorem afZ{l:List xp}{j:Nat}{m:xp}(h:l[j]?=some m):((l.flatMap xp.enc).drop (j*6)).take 6=m.enc :=
 bR (f:=xp.enc) (w:=6) (fun _=>rfl) h
def M4(l:List xp):Prop:=∀m∈l,m.name.length≤1000000000∧m.bl.length≤9223372036854775807
theorem Nv{f:fP}{l:List xp}(hf:f.valid=true)(hs:M4 l)(hl:l.length≤1000000000):∀(k i:Nat) (met:List (List UInt8)),i+k=l.length →
  WL T [1,5,11,12,13] false fG [(1,.fn du [] [.bF [.int .i64 f.x,.int .i64 f.y,.int .i64 f.z,.int .i64 f.k]]),(5,.mq σ.length 0),(11,.aH l.length (l.flatMap xp.enc)),(12,.int .i64 l.length),(13,.int .i64 i)] ([.cells 0 (Cl met)]::σ)
   (fun x e σ'=>∃s,σ'=s::σ∧if f.DH met (l.drop i)=0 then x=.exit 0 else x=.ret∧get e 4=.int .i64 (f.DH met (l.drop i)))
 |0,i,met,hi=>by
  refine aN fG.eq_1 ?_;have h1:¬i<l.length:=by omega
  have h2:l.drop i=[]:=aA (by omega);simp[-length_flatMap,-map_take,h1,h2,fP.DH]
 |k+1,i,met,hi=>by
  refine aN fG.eq_1 ?_;have h1:i<l.length:=by omega
  obtain⟨m,hm⟩:=gE h1;have h2:=afZ hm;have h4:=gG h1 (by omega);have h5:=cS hm;obtain⟨hs1,hs2⟩:=hs m (ai hm);have hC:=fun σ=>asI (σ:=σ) hf hs1 hs2
  simp only[xp.enc]at h2 hC;rw[h5,fP.DH];by_cases hc1:f.measure m=0
  ·have hg:=alC (S:=[.cells 0 (Cl met)]::σ) (l:=σ.length) (i:=0) (met:=met) (k:=m.name) (by simp);cases hc2:met.contains m.name
   ·rw[hc2]at hg;have hp:=alD (S:=[.cells 0 (Cl met)]::σ) (l:=σ.length) (i:=0) (met:=met) (k:=m.name) (by simp) hc2;have ih:=Nv hf hs hl k (i+1) (met++[m.name]) (by omega);simp at hp;have hc3:¬m.name∈met:=by simpa using hc2
    simp[-length_flatMap,-map_take,h1,h2,h4,hC,hc1,hg,hp,hc3];exact WL.to ih (by simp) (by simp) fun x e σ' hh=>by simpa[hc1]using hh
   ·rw[hc2]at hg;have hc3:m.name∈met:=by simpa using hc2
    simp[-length_flatMap,-map_take,h1,h2,h4,hC,hc1,hg,hc3]
  ·simp[-length_flatMap,-map_take,h1,h2,h4,hC,hc1]
theorem aeX{f:fP}{l:List xp}(hf:f.valid=true)(hs:M4 l)(hl:l.length≤1000000000):
  lim T (.call false fm [.aH l.length (l.flatMap xp.enc),.fn du [] [.bF [.int .i64 f.x,.int .i64 f.y,.int .i64 f.z,.int .i64 f.k]]] σ)=some (.val (.int .i64 (f.DH [] l)) σ):=by
 refine az wF ie.eq_1 rfl ?_;have hm:AE ([]::σ) .make []=some (.mq σ.length 0,[.cells 0 (Cl [])]::σ):=by simp[AE,Cl]
 simp[-length_flatMap,-map_take,hm];refine WL.to (Nv (σ:=σ) hf hs hl l.length 0 [] (by omega)) (by simp) (by simp) ?_;rintro x e σ' ⟨s,rfl,h⟩;simp only[aO]at h;by_cases hc:f.DH [] l=0
 ·rw[if_pos hc]at h;subst h;simp[-length_flatMap,-map_take,hc]
 ·rw[if_neg hc]at h;obtain⟨rfl,h⟩:=h;simp[h]
theorem Mb{f:fP}{l:List xp}(hf:f.valid=true)(hs:M4 l)(hl:l.length≤1000000000):
  lim T (.call false ir [.agg [.int .i64 f.x,.int .i64 f.y,.int .i64 f.z,.int .i64 f.k],.aH l.length (l.flatMap xp.enc)] σ)=some (.val (.int .i64 (f.DZ l)) σ):=by
 refine az zl kR.eq_1 rfl ?_;unfold fP.DZ;by_cases hc:12<l.length
 ·simp[-length_flatMap,-map_take,hc,show(12:Int)<l.length by omega]
 ·simp[-length_flatMap,-map_take,hc,show ¬(12:Int)<l.length by omega,aeX hf hs hl]
end Go.Proofs.YtfgljaglidhjiaaGreatDoor
