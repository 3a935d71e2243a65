import Derived.Test.YtklfdfnoebnciaaGreatDoorTxt2
set_option linter.all false
namespace Go.Proofs.YtklfdfnoebnciaaGreatDoor
open List(length_flatMap map_take)
open Go Go.az Go.aD Go.gJ
variable {J:SK}
theorem Sc(l:List Rw):(l.flatMap Rw.enc).length=l.length*5:=bZ (f:=Rw.enc) (w:=5) (λ_=>rfl) l
theorem LJ{bp:D}(hb1:bp.calm=bp):∀(rs acc:List Rw),acc.length+rs.length<=1000000 ->
  WL T [0,2,6] false ft [(0,bp),(2,.aG (rs.length*5) (rs.flatMap Rw.enc)),(6,.sl J.length 0 acc.length 0 acc.length 5)] ([.cells acc.length (acc.flatMap Rw.enc)]::J)
   (λx e J'=>x=.exit 0/\get e 0=bp/\get e 6=.sl J.length 0 (acc++rs).length 0 (acc++rs).length 5/\J'=[.cells (acc++rs).length ((acc++rs).flatMap Rw.enc)]::J)
 |[],acc,h=>by
  refine aJ ft.eq_1 ?_;simp[-length_flatMap,-map_take,hb1]
 |r::rs,acc,h=>by
  refine aJ ft.eq_1 ?_;simp only[aF]at h;have e1:(rs.length+1)*5=rs.length*5+5:=by omega
  have q0:(0:Int)<(rs.length:Int)*5+5:=by omega
  have q1:(1:Int)<(rs.length:Int)*5+5:=by omega
  have q2:(2:Int)<(rs.length:Int)*5+5:=by omega
  have q3:(3:Int)<(rs.length:Int)*5+5:=by omega
  have q4:(4:Int)<(rs.length:Int)*5+5:=by omega
  have q5:(5:Int)<=(rs.length:Int)*5+5:=by omega
  have hroom:(acc.length+1)*40<=room:=by unfold room;omega
  have hl:=Sc acc;have ht:(acc.flatMap Rw.enc).take (acc.length*5)=acc.flatMap Rw.enc:=ah (by omega);have hl2:=Sc rs;have ht2:(rs.flatMap Rw.enc).take (rs.length*5)=rs.flatMap Rw.enc:=ah (by omega);simp[-length_flatMap,-map_take,hb1,e1,q0,q1,q2,q3,q4,q5,hroom,hl,ht];refine WL.to (LJ hb1 rs (acc++[r]) (by simp;omega)) (by simp[ht2]) (by simp) λx e J' hh=>?_
  simpa using hh
def MO(b:Bk)(t:List Rw):Bk:={b with bH:={b.bH with b8:=t } }
def xi(b:Bk)(t:List Rw):Bk×Int:=if b.bH.b8=[]then(if jj t=true then(MO b t,0)else(b,1))else(b,8)
theorem Tj{F:List az.aI}{b:Bk}{er:List Int}{nm:List UInt8}{t:List Rw}{b':Bk}{e:Int}(hl:t.length<=1000000)(hd:xi b t=(b',e))(he:e=0):
  lim T (.call false 46 [.ref J.length 6 0 0,.str nm,.aG (t.length*5) (t.flatMap Rw.enc)] (F::b.bk J.length er::J))=some (.val (.dj []) (F::b'.bk J.length er::J)):=by
 refine eQ uZ iM.eq_1 rfl (by simp) ?_;unfold xi at hd;split at hd
 case isFalse=>cases hd;cases he
 rename_i h0;split at hd
 case isFalse=>cases hd;cases he
 rename_i h3;cases hd;have hne:t≠[]:=by intro h;subst h;simp[jj,bT]at h3
 have hC:=λJ=>yZ (J:=J) (l:=t) (by omega)
 rw[h3]at hC;have hL:=LJ (J:=F::b.bk J.length er::J) (bp:=.ref J.length 6 0 0) rfl t [] (by simpa using hl);simp[-length_flatMap,-map_take,Bk.bk,Bk.cells,h0,nl,cg];refine WL.to hL (by simp) (by simp[Bk.bk,Bk.cells,h0,nl]) ?_;rintro x e J' ⟨rfl,g0,g6,rfl⟩;have hcl:(D.aG t.length (t.flatMap Rw.enc)).clean=true:=by simp[D.clean,cl]
 have hfr:∀S:SK,S.length=J.length+1+1->cn 0 16 (.sl (J.length+1+1) 0 t.length 0 t.length 5) ([.cells t.length (t.flatMap Rw.enc)]::S)=(.aG t.length (t.flatMap Rw.enc),[.dead]::S):=by
  intro S hS;have:=zW (f:=Rw.enc) (w:=5) (λ_=>rfl) (λ_=>by simp[D.clean]) (l:=t) (j:=0) (v:=t.length) (bs:=[az.aI.cells t.length (t.flatMap Rw.enc)]) (J:=S) (by intro h;subst h;simp at hS) (by simp);rw[hS]at this;simpa using this
 simp[-length_flatMap,-map_take,g0,g6,hfr,hC,ng,hcl,Bk.bk,Bk.cells,h0,nl,hne,MO];exact⟨rfl,rfl⟩
theorem Ou{F:List az.aI}{b:Bk}{er:List Int}{nm:List UInt8}{t:List Rw}{b':Bk}{e:Int}(hl:t.length<=1000000)(hd:xi b t=(b',e))(he:e≠0):
  lim T (.call false 46 [.ref J.length 6 0 0,.str nm,.aG (t.length*5) (t.flatMap Rw.enc)] (F::b.bk J.length er::J))=some (.eA (rf e) (F::b.bk J.length er::J)):=by
 refine di uZ iM.eq_1 rfl ?_;have hM:=λJ=>oM (J:=J) (e:=1) (by decide)
 have hrc:(D.tK 90 (.agg [.int .i64 1])).clean=true:=rfl;unfold xi at hd;split at hd
 case isFalse h0 =>
  cases hd;have h0':((b.bH.b8.length:Int) == 0)=false:=by simpa using h0
  simp[-length_flatMap,-map_take,Bk.bk,Bk.cells,dw h0,h0',cM,D.clean,rf]
 rename_i h0;split at hd
 case isTrue=>cases hd;exact absurd rfl he
 rename_i h3;cases hd;have h3':jj t=false:=by simpa using h3
 have hC:=λJ=>yZ (J:=J) (l:=t) (by omega)
 rw[h3']at hC;have hL:=LJ (J:=F::b.bk J.length er::J) (bp:=.ref J.length 6 0 0) rfl t [] (by simpa using hl);simp[-length_flatMap,-map_take,Bk.bk,Bk.cells,h0,nl,cg];refine WL.to hL (by simp) (by simp[Bk.bk,Bk.cells,h0,nl]) ?_;rintro x e J' ⟨rfl,g0,g6,rfl⟩;have hcl:(D.aG t.length (t.flatMap Rw.enc)).clean=true:=by simp[D.clean,cl]
 have hfr:∀S:SK,S.length=J.length+1+1->cn 0 16 (.sl (J.length+1+1) 0 t.length 0 t.length 5) ([.cells t.length (t.flatMap Rw.enc)]::S)=(.aG t.length (t.flatMap Rw.enc),[.dead]::S):=by
  intro S hS;have:=zW (f:=Rw.enc) (w:=5) (λ_=>rfl) (λ_=>by simp[D.clean]) (l:=t) (j:=0) (v:=t.length) (bs:=[az.aI.cells t.length (t.flatMap Rw.enc)]) (J:=S) (by intro h;subst h;simp at hS) (by simp);rw[hS]at this;simpa using this
 simp[-length_flatMap,-map_take,g0,g6,hfr,hC,hM,hcl,Bk.bk,Bk.cells,h0,nl,rf,hrc]
@[simp] theorem abI{α:Type}{f:α->List D}{l:List α}:Rm (nl f l)=some (.int .i64 l.length):=by
 unfold nl;split
 .rename_i h;subst h;rfl
 .rfl
@[simp] theorem aa4{α:Type}{f:α->List D}{l:List α}:(nl f l).strip=nl f l:=by unfold nl;split<;>rfl
theorem JM{x:bM.Ev}(hs:x.sp.length<=9223372036854775807):lim T (.call false 76 [.bN,.aG 1 x.enc,.int .i64 0] J)=some (.val (.dj [.int .u8 0,.int .u8 0,.int .i64 (if x.ok then 0 else 1)]) J):=by
 refine au wy mQ.eq_1 rfl ?_;have hA:=λJ=>@PL J [x] (by simp) (by simpa using hs)
 have hN:=λJ=>all_nil (T:=T) (J:=J) (fv:=.fn 110 [] []) (f:=109) (ag:=true) (w:=10) rfl rfl rfl rfl rfl rfl
 simp only[List.length_singleton,aT,cb,cC,fk,iA,List.all_nil,Bool.and_true]at hA;have w0:bM.bT 0 0 1000000=true:=by decide
 cases hr:x.ok
 .rw[hr]at hA;simp only[bM.Ev.enc]at hA ⊢;simp[-length_flatMap,-map_take,hA,hN]
 .rw[hr]at hA;simp only[bM.Ev.enc]at hA ⊢;simp[-length_flatMap,-map_take,hA,hN,ck,w0];refine aJ dU.eq_1 ?_;simp[-length_flatMap,-map_take]
def Ux(L:Nat)(acc:List bM.we):D:=.sl L 0 acc.length 0 acc.length 4
def SM(acc:List bM.we):List az.aI:=[.cells acc.length (acc.flatMap bM.we.enc)]
theorem N3(l:List bM.we):(l.flatMap bM.we.enc).length=l.length*4:=bZ (f:=bM.we.enc) (w:=4) (λ_=>rfl) l
theorem IN{bp:D}(hb1:bp.calm=bp){tk:Int}:∀(rs acc:List bM.we),acc.length+rs.length<=1000000 ->
  WL T [0,2,6] false fp [(0,bp),(2,.aG (rs.length*4) (rs.flatMap bM.we.enc)),(6,.own 0 [.int .i64 tk,Ux J.length acc])] (SM acc::J)
   (λx e J'=>x=.exit 0/\get e 0=bp/\get e 6=.own 0 [.int .i64 tk,Ux J.length (acc++rs)]/\get e 1000006=.undef/\J'=SM (acc++rs)::J)
 |[],acc,h=>by
  refine aJ fp.eq_1 ?_;simp[-length_flatMap,-map_take,hb1]
 |r::rs,acc,h=>by
  refine aJ fp.eq_1 ?_;simp only[aF]at h;have e1:(rs.length+1)*4=rs.length*4+4:=by omega
  have q0:(0:Int)<(rs.length:Int)*4+4:=by omega
  have q1:(1:Int)<(rs.length:Int)*4+4:=by omega
  have q2:(2:Int)<(rs.length:Int)*4+4:=by omega
  have q3:(3:Int)<(rs.length:Int)*4+4:=by omega
  have q4:(4:Int)<=(rs.length:Int)*4+4:=by omega
  have hroom:(acc.length+1)*32<=room:=by unfold room;omega
  have h32:32<=room:=by unfold room;omega
  have hl:=N3 acc;have ht:(acc.flatMap bM.we.enc).take (acc.length*4)=acc.flatMap bM.we.enc:=ah (by omega);have hl2:=N3 rs;have ht2:(rs.flatMap bM.we.enc).take (rs.length*4)=rs.flatMap bM.we.enc:=ah (by omega);simp[-length_flatMap,-map_take,hb1,e1,q0,q1,q2,q3,q4,hroom,hl,ht,Ux,SM];refine WL.to (IN hb1 (tk:=tk) rs (acc++[r]) (by simp;omega)) (by simp[ht2,Ux,SM]) (by simp[SM]) λx e J' hh=>?_
  simpa[Ux,SM]using hh
def Jr(b:Bk)(x:bM.Ev):Bk:={b with yX:=b.yX++[x] }
def xh(b:Bk)(sp:List bM.we):Bk×Int:=if b.yX.length<200 then(if bM.Ev.ok ⟨b.av.length,sp⟩=true then(Jr b ⟨b.av.length,sp⟩,0)else(b,1))else(b,3)
theorem WG(l:List bM.Ev):(l.flatMap bM.Ev.enc).length=l.length*2:=bZ (f:=bM.Ev.enc) (w:=2) (λ_=>rfl) l
theorem Q0{S:SK}{L:Nat}(hS:S.length=L)(hL:0<L){sp:List bM.we}{tk:Int}:cn.frzL (cn 0 16) [.int .i64 tk,Ux L sp] (SM sp::S)=([.int .i64 tk,.aG sp.length (sp.flatMap bM.we.enc)],[.dead]::S):=by
 have hf:=zW (f:=bM.we.enc) (w:=4) (λ_=>rfl) (λ_=>by simp[D.clean]) (l:=sp) (j:=0) (v:=sp.length) (bs:=[az.aI.cells sp.length (sp.flatMap bM.we.enc)]) (J:=S) (by intro h;subst h;simp at hS;omega) (by simp);rw[hS]at hf;simp[Ux,SM,hf]
theorem Ta{F:List az.aI}{b:Bk}{er:List Int}{nm:List UInt8}{sp:List bM.we}{b':Bk}{e:Int}(hl:sp.length<=1000000)(hd:xh b sp=(b',e))(he:e=0):
  lim T (.call false 53 [.ref J.length 6 0 0,.str nm,.aG (sp.length*4) (sp.flatMap bM.we.enc)] (F::b.bk J.length er::J))=some (.val (.dj []) (F::b'.bk J.length er::J)):=by
 refine eQ uY iL.eq_1 rfl (by simp) ?_;unfold xh at hd;split at hd
 case isFalse=>cases hd;cases he
 rename_i h1;split at hd
 case isFalse=>cases hd;cases he
 rename_i h2;cases hd;have h1':(b.yX.length:Int)<200:=by omega
 have hC:=λJ=>JM (J:=J) (x:=⟨b.av.length,sp⟩) (by simp;omega)
 simp only[h2,if_true,bM.Ev.enc]at hC;have hL:=IN (J:=F::b.bk J.length er::J) (bp:=.ref J.length 6 0 0) rfl (tk:=b.av.length) sp [] (by simpa using hl);have hne:sp≠[]:=by
  intro hh;subst hh;simp[bM.Ev.ok,bM.bT]at h2
 simp[-length_flatMap,-map_take,Bk.bk,Bk.cells,h1',cg];refine WL.to hL (by simp[Ux]) (by simp[Bk.bk,Bk.cells,SM]) ?_;rintro x e J' ⟨rfl,g0,g6,gu,rfl⟩;have hf:=λS hS=>Q0 (S:=S) (L:=J.length+1+1) hS (by omega) (sp:=sp) (tk:=b.av.length)
 have w2:(b.yX.length+1)*32<=room:=by unfold room;omega
 have w3:=WG b.yX;have w4:(b.yX.flatMap bM.Ev.enc).take (b.yX.length*2)=b.yX.flatMap bM.Ev.enc:=ah (by omega);have hcl:D.bx (sp.flatMap bM.we.enc)=true:=eS (λ_=>by simp[D.clean]) sp;simp only[aY]at g6;simp[-length_flatMap,-map_take,g0,g6,gu,hf,hC,ng,Bk.bk,Bk.cells,Jr,w2,w3,w4,hcl]
theorem Om{F:List az.aI}{b:Bk}{er:List Int}{nm:List UInt8}{sp:List bM.we}{b':Bk}{e:Int}(hl:sp.length<=1000000)(hd:xh b sp=(b',e))(he:e≠0):
  lim T (.call false 53 [.ref J.length 6 0 0,.str nm,.aG (sp.length*4) (sp.flatMap bM.we.enc)] (F::b.bk J.length er::J))=some (.eA (rf e) (F::b.bk J.length er::J)):=by
 refine di uY iL.eq_1 rfl ?_;have hM:=λJ=>oM (J:=J) (e:=1) (by decide)
 have hrc:(D.tK 90 (.agg [.int .i64 1])).clean=true:=rfl;unfold xh at hd;split at hd
 case isFalse h1 =>
  cases hd;have h1':¬(b.yX.length:Int)<200:=by omega
  simp[-length_flatMap,-map_take,Bk.bk,Bk.cells,h1',cM,D.clean,rf]
 rename_i h1;split at hd
 case isTrue=>cases hd;exact absurd rfl he
 rename_i h2;cases hd;have h1':(b.yX.length:Int)<200:=by omega
 have h2':bM.Ev.ok ⟨b.av.length,sp⟩=false:=by simpa using h2
 have hC:=λJ=>JM (J:=J) (x:=⟨b.av.length,sp⟩) (by simp;omega)
 simp only[h2',bM.Ev.enc]at hC;have hL:=IN (J:=F::b.bk J.length er::J) (bp:=.ref J.length 6 0 0) rfl (tk:=b.av.length) sp [] (by simpa using hl);simp[-length_flatMap,-map_take,Bk.bk,Bk.cells,h1',cg];refine WL.to hL (by simp[Ux]) (by simp[Bk.bk,Bk.cells,SM]) ?_;rintro x e J' ⟨rfl,g0,g6,gu,rfl⟩;have hf:=λS hS=>Q0 (S:=S) (L:=J.length+1+1) hS (by omega) (sp:=sp) (tk:=b.av.length)
 have hcl:D.bx (sp.flatMap bM.we.enc)=true:=eS (λ_=>by simp[D.clean]) sp;simp only[aY]at g6;simp[-length_flatMap,-map_take,g0,g6,gu,hf,hC,hM,Bk.bk,Bk.cells,hcl,rf,hrc]
theorem Be{a b c:Int}:lim T (.call false 192 [.int .i64 a,.int .i64 b,.int .i64 c] J)=some (.val (.bool (bT a b c)) J):=by
 refine au F1 tt.eq_1 rfl ?_;by_cases h:b<=a<;>simp[-length_flatMap,-map_take,h,bT]
theorem Ov{p:Prt}{last:Int}:lim T (.call false 194 [.agg p.enc,.ref J.length 0 0 0] ([]::[]::[]::[]::[.cells 0 [.int .i64 last]]::J))=some (.val (.bool (p.ok last)) ([]::[]::[]::[]::[.cells 0 [.int .i64 p.vq]]::J)):=by
 refine eQ Ar lh.eq_1 rfl (by simp) ?_;cases h:bT p.vq 0 last<;>simp[-length_flatMap,-map_take,Be,h,Prt.ok]
theorem J0{u:yc}(hl:u.parts.length<=1000000000):lim T (.call false 131 [.agg u.enc] J)=some (.val (.bool u.ok) J):=by
 refine au Ci nr.eq_1 rfl ?_;have hA:=IV (wE 2 Prt.enc (λ_=>rfl)) (T:=T) (S:=λi=>[.cells 0 [.int .i64 (vt u.parts i)]]::J) (fv:=.fn 194 [] [.ref J.length 0 0 0]) (l:=u.parts) (p:=B7 u.parts)
  (f:=193) (g:=239) (h:=238) (i:=262) rfl rfl rfl rfl (by omega) rfl rfl rfl (λ_=>rfl) (λi x hx=>by
   rw[rH];have h:=Ov (J:=J) (p:=x) (last:=vt u.parts i);have e1:vt u.parts (i+1)=x.vq:=by simp[vt,hx]
   have e2:B7 u.parts i=x.ok (vt u.parts i):=by simp[B7,hx]
   have h':lim T (.call false 194 ([]++[(wE 2 Prt.enc (λ_=>rfl)).val x]++[.ref J.length 0 0 0]) ([]::[]::[]::[]::[.cells 0 [.int .i64 (vt u.parts i)]]::J))=_:=h;rw[h',e1,e2];rfl)
 have hb:(!(oF (λi => !B7 u.parts i) 0 u.parts.length).1)=yj 1000 u.parts:=by
  have h1:=Bz (q:=λi => !B7 u.parts i) (m:=u.parts.length) (i:=0);have h2:=OL (l:=u.parts);cases hf:yj 1000 u.parts
  .cases hs:(oF (λi => !B7 u.parts i) 0 u.parts.length).1
   .have h3:=h1.1 hs;have h4:=h2.2 λj hj=>by simpa using h3 j hj
    rw[hf]at h4;cases h4
   .rfl
  .have h3:=h2.1 hf;have h4:=h1.2 λj hj=>by simp[h3 j hj]
   rw[h4];rfl
 rw[hb]at hA;have e0:vt u.parts 0=1000:=rfl;have hA':lim T (.call false 193 [.aG u.parts.length (u.parts.flatMap Prt.enc),.fn 194 [] [.ref J.length 0 0 0]] ([.cells 0 [.int .i64 1000]]::J))=_:=hA;cases h1:bT u.Dr 0 5
 .simp[-length_flatMap,-map_take,Be,h1,yc.ok]
 cases h2:bT u.parts.length 1 8
 .simp[-length_flatMap,-map_take,Be,h1,h2,yc.ok]
 simp[-length_flatMap,-map_take,Be,h1,h2,yc.ok,hA']
theorem EC{u:yc}(hl:u.parts.length<=1000000000):lim T (.call false 84 [.agg u.enc] J)=some (.val (.int .i64 (if u.ok then 0 else 1)) J):=by
 refine au CW oR.eq_1 rfl ?_;have hC:=λJ=>J0 (J:=J) hl
 simp only[yc.enc]at hC ⊢;cases hc:u.ok<;>rw[hc]at hC<;>simp[-length_flatMap,-map_take,hC]
def Ui(L:Nat)(acc:List Prt):D:=.sl L 0 acc.length 0 acc.length 2
def SJ(acc:List Prt):List az.aI:=[.cells acc.length (acc.flatMap Prt.enc)]
theorem FC(l:List Prt):(l.flatMap Prt.enc).length=l.length*2:=bZ (f:=Prt.enc) (w:=2) (λ_=>rfl) l
theorem IK{bp:D}(hb1:bp.calm=bp){tk:Int}:∀(rs acc:List Prt),acc.length+rs.length<=1000000 ->
  WL T [0,2,6] false fO [(0,bp),(2,.aG (rs.length*2) (rs.flatMap Prt.enc)),(6,.own 0 [.int .i64 tk,Ui J.length acc])] (SJ acc::J)
   (λx e J'=>x=.exit 0/\get e 0=bp/\get e 6=.own 0 [.int .i64 tk,Ui J.length (acc++rs)]/\get e 1000006=.undef/\J'=SJ (acc++rs)::J)
 |[],acc,h=>by
  refine aJ fO.eq_1 ?_;simp[-length_flatMap,-map_take,hb1]
 |r::rs,acc,h=>by
  refine aJ fO.eq_1 ?_;simp only[aF]at h;have e1:(rs.length+1)*2=rs.length*2+2:=by omega
  have q0:(0:Int)<(rs.length:Int)*2+2:=by omega
  have q1:(1:Int)<(rs.length:Int)*2+2:=by omega
  have q2:(2:Int)<=(rs.length:Int)*2+2:=by omega
  have hroom:(acc.length+1)*16<=room:=by unfold room;omega
  have h32:16<=room:=by unfold room;omega
  have hl:=FC acc;have ht:(acc.flatMap Prt.enc).take (acc.length*2)=acc.flatMap Prt.enc:=ah (by omega);have hl2:=FC rs;have ht2:(rs.flatMap Prt.enc).take (rs.length*2)=rs.flatMap Prt.enc:=ah (by omega);simp[-length_flatMap,-map_take,hb1,e1,q0,q1,q2,hroom,hl,ht,Ui,SJ];refine WL.to (IK hb1 (tk:=tk) rs (acc++[r]) (by simp;omega)) (by simp[ht2,Ui,SJ]) (by simp[SJ]) λx e J' hh=>?_
  simpa[Ui,SJ]using hh
def N9(b:Bk)(u:yc):Bk:={b with dc:=b.dc++[u] }
def AE(b:Bk)(u:yc):Bk×Int:=if b.dc.length<10 then(if u.ok=true then(N9 b u,0)else(b,1))else(b,3)
theorem Oa(l:List yc):(l.flatMap yc.enc).length=l.length*2:=bZ (f:=yc.enc) (w:=2) (λ_=>rfl) l
theorem QZ{S:SK}{L:Nat}(hS:S.length=L)(hL:0<L){pt:List Prt}{tk:Int}:cn.frzL (cn 0 16) [.int .i64 tk,Ui L pt] (SJ pt::S)=([.int .i64 tk,.aG pt.length (pt.flatMap Prt.enc)],[.dead]::S):=by
 have hf:=zW (f:=Prt.enc) (w:=2) (λ_=>rfl) (λ_=>by simp[D.clean]) (l:=pt) (j:=0) (v:=pt.length) (bs:=[az.aI.cells pt.length (pt.flatMap Prt.enc)]) (J:=S) (by intro h;subst h;simp at hS;omega) (by simp);rw[hS]at hf;simp[Ui,SJ,hf]
theorem zl{l:List Prt}:D.bx (l.flatMap Prt.enc)=true:=eS (λ_=>by simp[D.clean]) l
theorem V1{F:List az.aI}{b:Bk}{er:List Int}{nm:List UInt8}{u:yc}{b':Bk}{e:Int}(hl:u.parts.length<=1000000)(hd:AE b u=(b',e))(he:e=0):
  lim T (.call false 56 [.ref J.length 6 0 0,.str nm,.aG (u.parts.length*2+1) (.int .i64 u.Dr::u.parts.flatMap Prt.enc)] (F::b.bk J.length er::J))=some (.val (.dj []) (F::b'.bk J.length er::J)):=by
 refine eQ vB jy.eq_1 rfl (by simp) ?_;unfold AE at hd;split at hd
 case isFalse=>cases hd;cases he
 rename_i h1;split at hd
 case isFalse=>cases hd;cases he
 rename_i h2;cases hd;have h1':(b.dc.length:Int)<10:=by omega
 have hC:=λJ=>EC (J:=J) (u:=u) (by omega)
 simp only[h2,if_true,yc.enc]at hC;have hL:=IK (J:=F::b.bk J.length er::J) (bp:=.ref J.length 6 0 0) rfl (tk:=u.Dr) u.parts [] (by simpa using hl);have hne:u.parts≠[]:=by
  intro hh;simp[yc.ok,bT,hh]at h2
 have q0:(0:Int)<(u.parts.length:Int)*2+1:=by omega
 have q1:(1:Int)<=(u.parts.length:Int)*2+1:=by omega
 have hlp:=FC u.parts;have htp:(u.parts.flatMap Prt.enc).take (u.parts.length*2)=u.parts.flatMap Prt.enc:=ah (by omega);simp[-length_flatMap,-map_take,Bk.bk,Bk.cells,h1',cg,q0,q1];refine WL.to hL (by simp[Ui,htp]) (by simp[Bk.bk,Bk.cells,SJ]) ?_;rintro x e J' ⟨rfl,g0,g6,gu,rfl⟩;have hf:=λS hS=>QZ (S:=S) (L:=J.length+1+1) hS (by omega) (pt:=u.parts) (tk:=u.Dr)
 have w2:(b.dc.length+1)*32<=room:=by unfold room;omega
 have w3:=Oa b.dc;have w4:(b.dc.flatMap yc.enc).take (b.dc.length*2)=b.dc.flatMap yc.enc:=ah (by omega);simp only[aY]at g6;simp[-length_flatMap,-map_take,g0,g6,gu,hf,hC,ng,Bk.bk,Bk.cells,N9,w2,w3,w4,zl]
theorem Qf{F:List az.aI}{b:Bk}{er:List Int}{nm:List UInt8}{u:yc}{b':Bk}{e:Int}(hl:u.parts.length<=1000000)(hd:AE b u=(b',e))(he:e≠0):
  lim T (.call false 56 [.ref J.length 6 0 0,.str nm,.aG (u.parts.length*2+1) (.int .i64 u.Dr::u.parts.flatMap Prt.enc)] (F::b.bk J.length er::J))=some (.eA (rf e) (F::b.bk J.length er::J)):=by
 refine di vB jy.eq_1 rfl ?_;have hM:=λJ=>oM (J:=J) (e:=1) (by decide)
 have hrc:(D.tK 90 (.agg [.int .i64 1])).clean=true:=rfl;unfold AE at hd;split at hd
 case isFalse h1 =>
  cases hd;have h1':¬(b.dc.length:Int)<10:=by omega
  simp[-length_flatMap,-map_take,Bk.bk,Bk.cells,h1',cM,D.clean,rf]
 rename_i h1;split at hd
 case isTrue=>cases hd;exact absurd rfl he
 rename_i h2;cases hd;have h1':(b.dc.length:Int)<10:=by omega
 have h2':u.ok=false:=by simpa using h2
 have hC:=λJ=>EC (J:=J) (u:=u) (by omega)
 simp only[h2',yc.enc]at hC;have hL:=IK (J:=F::b.bk J.length er::J) (bp:=.ref J.length 6 0 0) rfl (tk:=u.Dr) u.parts [] (by simpa using hl);have q0:(0:Int)<(u.parts.length:Int)*2+1:=by omega
 have q1:(1:Int)<=(u.parts.length:Int)*2+1:=by omega
 have hlp:=FC u.parts;have htp:(u.parts.flatMap Prt.enc).take (u.parts.length*2)=u.parts.flatMap Prt.enc:=ah (by omega);simp[-length_flatMap,-map_take,Bk.bk,Bk.cells,h1',cg,q0,q1];refine WL.to hL (by simp[Ui,htp]) (by simp[Bk.bk,Bk.cells,SJ]) ?_;rintro x e J' ⟨rfl,g0,g6,gu,rfl⟩;have hf:=λS hS=>QZ (S:=S) (L:=J.length+1+1) hS (by omega) (pt:=u.parts) (tk:=u.Dr)
 simp only[aY]at g6;simp[-length_flatMap,-map_take,g0,g6,gu,hf,hC,hM,Bk.bk,Bk.cells,zl,rf,hrc]
def yu(b:b9)(m:cq):D:=if Bd b m then PG (c8 b m)else .bN
theorem Ki{b:b9}{m:cq}:(yu b m).clean=true:=by
 unfold yu;split
 .simp[PG,eS (f:=aD.aI.enc) (λ_=>by simp[D.clean])]
 .simp
theorem La{b:b9}{m:cq}:(yu b m).strip=yu b m:=by unfold yu;split<;>rfl
theorem Kd{b:b9}{m:cq}:(yu b m).calm=yu b m:=by unfold yu;split<;>rfl
theorem MT{b:b9}{m:cq}{tq wq:D}(htq:tq.vN=.aG b.b8.length (b.b8.flatMap Rw.enc))(hwq:wq.vN=.aG b.ak.length (b.ak.flatMap bE.enc))(h1:b.b8.length<=1000000000)(h2:b.ak.length<=1000000000)(hn:m.name.length<=1000000000)(hl:m.bg.length<=1000000000)(hJ:J≠[]):
  lim T (.call false 71 [.agg [.int .i64 b.f.x,.int .i64 b.f.y,.int .i64 b.f.z,.int .i64 b.f.k,tq,.int .i64 b.bF,.int .i64 b.lift,.int .i64 b.deep,wq],.agg [.str m.name,.aG m.bg.length (m.bg.flatMap aX)]] J)=some (.val (.dj [yu b m,.int .i64 (if Bd b m then 0 else 1)]) J):=by
 unfold yu;cases hb:Bd b m
 .refine au C4 tv.eq_1 rfl ?_;obtain⟨d,hd,hd1,hd2⟩:=MU (J:=[]::J) h1 h2 hn hl hb;simp[-length_flatMap,-map_take,htq,hwq,hd,hd1,hd2,cl,bh,bq]
 .refine au C4 tv.eq_1 rfl ?_;have hd:=λJ=>UN (J:=J) h1 h2 hn hl hb
  have hf:=λJ hJ=>DQ (J:=J) (b:=b) (m:=m) (Fv.of hb) hJ
  have hcl:(PG (c8 b m)).clean=true:=by simp[PG,eS (f:=aD.aI.enc) (λ_=>by simp[D.clean])]
  have hs1:(PG (c8 b m)).strip=PG (c8 b m):=rfl;have hs2:(PG (c8 b m)).calm=PG (c8 b m):=rfl;simp[-length_flatMap,-map_take,htq,hwq,hd,hf,hs1,hs2,hcl,cl,bh,bq]
theorem PW{e:kW}{nm:List UInt8}:lim T (.call false 70 [.agg e.enc,.bu [.str nm]] J)=some (.val (.bool (e.m.name == nm)) J):=by
 refine au zb jJ.eq_1 rfl ?_;simp[-length_flatMap,-map_take,CT]
theorem Dh(l:List kW):(l.flatMap kW.enc).length=l.length*4:=bZ (f:=kW.enc) (w:=4) (λ_=>rfl) l
theorem Ob(l:List LO):(l.flatMap LO.enc).length=l.length*4:=bZ (f:=LO.enc) (w:=4) (λ_=>rfl) l
theorem HK{b:Bk}{er:List Int}{nm:List UInt8}{S:SK}(hl:b.an.length<=1000000)(hs:eZ S J.length=some (b.bk J.length er)):
  lim T (.call false 69 [.sl J.length 0 b.an.length 0 b.an.length 4,.fn 70 [] [.bu [.str nm]]] S)=some (.val (.bool (sB b.an λe=>e.m.name == nm)) S) :=
 B5 (enc:=kW.enc) (w:=4) (λ_=>rfl) (F:=b.bk J.length er) (bi:=0) (v:=b.an.length) (l:=b.an) (i:=98) rfl rfl (by simp[Bk.bk]) (by omega)
  ⟨rfl,rfl,λe _ J=>by rw[rH];have h:=PW (J:=J) (e:=e) (nm:=nm);have h':lim T (.call false 70 ([]++[.agg e.enc]++[.bu [.str nm]]) J)=_:=h;rw[h'];rfl⟩ hs
def Ek(b:Bk)(m:cq):Bk:={b with an:=b.an++[⟨m,true,0⟩],n9:=b.n9++[⟨0,0,0,0⟩] }
def xg(b:Bk)(m:cq):Bk×Int :=
 if b.ready=true/\b.av=[]then
  (if(sB b.an λe=>e.m.name == m.name)=true then(b,6)else if b.an.length<40 then(if Bd b.bH m=true then(Ek b m,0)else(b,1))else(b,3))
 else(b,8)
theorem PX{F:List az.aI}{b:Bk}{er:List Int}{m:cq}{b':Bk}{e:Int}(h1:b.bH.b8.length<=1000000000)(h2:b.bH.ak.length<=1000000000)(hn:m.name.length<=1000000000)(hl:m.bg.length<=1000000000)(hw:b.n9.length=b.an.length)(hd:xg b m=(b',e))(he:e=0):
  lim T (.call false 49 [.ref J.length 6 0 0,.str m.name,.aG m.bg.length (m.bg.flatMap aX)] (F::b.bk J.length er::J))=some (.val (.dj []) (F::b'.bk J.length er::J)):=by
 refine eQ uX iK.eq_1 rfl (by simp) ?_;unfold xg at hd;split at hd
 case isFalse=>cases hd;cases he
 rename_i c0;obtain⟨c1,c2⟩:=c0;split at hd
 case isTrue=>cases hd;cases he
 rename_i c3;split at hd
 case isFalse=>cases hd;cases he
 rename_i c4;split at hd
 case isFalse=>cases hd;cases he
 rename_i c5;cases hd;have c3':(sB b.an λe=>e.m.name == m.name)=false:=by simpa using c3
 have c4':(b.an.length:Int)<40:=by omega
 have hH:=λS=>HK (J:=J) (b:=b) (er:=er) (nm:=m.name) (S:=S) (by omega)
 simp only[c3']at hH;have hS:=λS hJ=>MT (J:=S) (b:=b.bH) (m:=m) (tq:=nl Rw.enc b.bH.b8) (wq:=nl bE.enc b.bH.ak) tN tN h1 h2 hn hl hJ
 simp only[c5]at hS;simp only[Bk.bk,Bk.cells]at hH;have w2:(b.an.length+1)*56<=room:=by unfold room;omega
 have w3:=Dh b.an;have w4:(b.an.flatMap kW.enc).take (b.an.length*4)=b.an.flatMap kW.enc:=ah (by omega);have w5:(b.n9.length+1)*32<=room:=by unfold room;omega
 have w6:=Ob b.n9;have w7:(b.n9.flatMap LO.enc).take (b.n9.length*4)=b.n9.flatMap LO.enc:=ah (by omega);simp[-length_flatMap,-map_take,Bk.bk,Bk.cells,c1,c2,hH,c4',hS,Ki,La,Kd,NQ,cg,ng,Ek,w2,w3,w4,w5,w6,w7,bq]
theorem Oi{F:List az.aI}{b:Bk}{er:List Int}{m:cq}{b':Bk}{e:Int}(h1:b.bH.b8.length<=1000000000)(h2:b.bH.ak.length<=1000000000)(hn:m.name.length<=1000000000)(hl:m.bg.length<=1000000000)(hml:b.an.length<=40)(hd:xg b m=(b',e))(he:e≠0):
  lim T (.call false 49 [.ref J.length 6 0 0,.str m.name,.aG m.bg.length (m.bg.flatMap aX)] (F::b.bk J.length er::J))=some (.eA (rf e) (F::b.bk J.length er::J)):=by
 refine di uX iK.eq_1 rfl ?_;have hM:=λJ=>oM (J:=J) (e:=1) (by decide)
 have hrc:(D.tK 90 (.agg [.int .i64 1])).clean=true:=rfl;unfold xg at hd;split at hd
 case isFalse c0 =>
  cases hd;cases c1:b.ready with
  |false=>simp[-length_flatMap,-map_take,Bk.bk,Bk.cells,c1,cM,D.clean,rf]
  |true =>
   have c2:((b.av.length:Int) == 0)=false:=by simpa using λhh=>c0 ⟨c1,hh⟩
   simp[-length_flatMap,-map_take,Bk.bk,Bk.cells,c1,c2,cM,D.clean,rf]
 rename_i c0;obtain⟨c1,c2⟩:=c0;have hH:=λS=>HK (J:=J) (b:=b) (er:=er) (nm:=m.name) (S:=S) (by omega)
 split at hd
 case isTrue c3 =>
  cases hd;simp only[c3]at hH;simp only[Bk.bk,Bk.cells]at hH;simp[-length_flatMap,-map_take,Bk.bk,Bk.cells,c1,c2,hH,cg,cM,D.clean,rf]
 rename_i c3;have c3':(sB b.an λe=>e.m.name == m.name)=false:=by simpa using c3
 simp only[c3']at hH;split at hd
 case isFalse c4 =>
  cases hd;have c4':¬(b.an.length:Int)<40:=by omega
  simp only[Bk.bk,Bk.cells]at hH;simp[-length_flatMap,-map_take,Bk.bk,Bk.cells,c1,c2,hH,c4',cg,cM,D.clean,rf]
 rename_i c4;have c4':(b.an.length:Int)<40:=by omega
 split at hd
 case isTrue=>cases hd;exact absurd rfl he
 rename_i c5;cases hd;have c5':Bd b.bH m=false:=by simpa using c5
 have hS:=λS hJ=>MT (J:=S) (b:=b.bH) (m:=m) (tq:=nl Rw.enc b.bH.b8) (wq:=nl bE.enc b.bH.ak) tN tN h1 h2 hn hl hJ
 simp only[c5']at hS;simp only[Bk.bk,Bk.cells]at hH;simp[-length_flatMap,-map_take,Bk.bk,Bk.cells,c1,c2,hH,c4',hS,Ki,La,Kd,NQ,cg,hM,bq,rf,hrc]
end Go.Proofs.YtklfdfnoebnciaaGreatDoor
namespace Go.gJ
open List(length_flatMap map_take)
open Go Go.az Go.aD
def isStr(lo hi:Int)(val:cq->Int)(e:kW):Bool:=e.left && !bT (val e.m) lo hi
def dO(at_ lo hi:Int)(val:cq->Int)(e:kW):kW:=if isStr lo hi val e then⟨e.m,false,at_⟩else e
def X9(at_ lo hi:Int)(val:cq->Int)(ms:List kW)(j:Nat)(w:LO):LO:=match ms[j]? with
 |some e=>if isStr lo hi val e then⟨at_,val e.m,lo,hi⟩else w
 |none=>w
def Bk.jn(b:Bk)(lo hi:Int)(val:cq->Int)(i:Nat):Bk :=
 {b with an:=b.an.mapIdx λj e=>if j<i then dO b.at_ lo hi val e else e,n9:=b.n9.mapIdx λj w=>if j<i then X9 b.at_ lo hi val b.an j w else w }
section
variable {b:Bk} {lo hi:Int} {val:cq->Int} {i:Nat}
@[simp] theorem Sr:(b.jn lo hi val i).bH=b.bH:=aB rfl
@[simp] theorem Px:(b.jn lo hi val i).av=b.av:=aB rfl
@[simp] theorem MK:(b.jn lo hi val i).rules=b.rules:=aB rfl
@[simp] theorem Ss:(b.jn lo hi val i).yX=b.yX:=aB rfl
@[simp] theorem UF:(b.jn lo hi val i).k0=b.k0:=aB rfl
@[simp] theorem UG:(b.jn lo hi val i).k1=b.k1:=aB rfl
@[simp] theorem UH:(b.jn lo hi val i).k2=b.k2:=aB rfl
@[simp] theorem MM:(b.jn lo hi val i).dc=b.dc:=aB rfl
@[simp] theorem ML:(b.jn lo hi val i).cm=b.cm:=aB rfl
@[simp] theorem MJ:(b.jn lo hi val i).ready=b.ready:=aB rfl
@[simp] theorem UD:(b.jn lo hi val i).at_=b.at_:=aB rfl
end
theorem Py{b:Bk}{lo hi:Int}{val:cq->Int}:b.jn lo hi val 0=b:=by
 cases b;simp only[Bk.jn,Bk.mk.injEq,true_and,and_true];constructor<;>(apply dG;intro j;simp[kY])
theorem DK{b:Bk}{lo hi:Int}{val:cq->Int}{i:Nat}:(b.jn lo hi val i).an.length=b.an.length:=by simp[Bk.jn]
theorem DL{b:Bk}{lo hi:Int}{val:cq->Int}{i:Nat}:(b.jn lo hi val i).n9.length=b.n9.length:=by simp[Bk.jn]
theorem UE{b:Bk}{lo hi:Int}{val:cq->Int}{i:Nat}{e:kW}(h:b.an[i]?=some e):(b.jn lo hi val i).an[i]?=some e:=by simp[Bk.jn,h]
theorem Pw{b:Bk}{lo hi:Int}{val:cq->Int}{i:Nat}{e:kW}(h:b.an[i]?=some e)(hs:isStr lo hi val e=true)(hw:b.n9.length=b.an.length):
  (b.jn lo hi val (i+1)).an=(b.jn lo hi val i).an.set i ⟨e.m,false,b.at_⟩/\(b.jn lo hi val (i+1)).n9=(b.jn lo hi val i).n9.set i ⟨b.at_,val e.m,lo,hi⟩:=by
 obtain⟨hi',he⟩:=aw.1 h;constructor
 .apply dG;intro j;simp only[Bk.jn,kY,List.getElem?_set];by_cases hj:i=j
  .subst hj;rw[h];simp[hi',dO,hs]
  .rw[if_neg hj];cases b.an[j]? with
   |none=>rfl
   |some x=>simp only[aQ];congr 1;by_cases h1:j<i<;>simp[h1]<;>omega
 .apply dG;intro j;simp only[Bk.jn,kY,List.getElem?_set];by_cases hj:i=j
  .subst hj;have:i<b.n9.length:=by omega
   rw[aL this];simp[h,this,X9,hs]
  .rw[if_neg hj];cases b.n9[j]? with
   |none=>rfl
   |some x=>simp only[aQ];congr 1;by_cases h1:j<i<;>simp[h1]<;>omega
theorem IC{b:Bk}{lo hi:Int}{val:cq->Int}{i:Nat}{e:kW}(h:b.an[i]?=some e)(hs:isStr lo hi val e=false):b.jn lo hi val (i+1)=b.jn lo hi val i:=by
 have h1:(b.jn lo hi val (i+1)).an=(b.jn lo hi val i).an:=by
  apply dG;intro j;simp only[Bk.jn,kY];by_cases hj:i=j
  .subst hj;simp[h,dO,hs]
  .cases b.an[j]? with
   |none=>rfl
   |some x=>simp only[aQ];congr 1;by_cases h1:j<i<;>simp[h1]<;>omega
 have h2:(b.jn lo hi val (i+1)).n9=(b.jn lo hi val i).n9:=by
  apply dG;intro j;simp only[Bk.jn,kY];by_cases hj:i=j
  .subst hj;cases b.n9[i]? with
   |none=>rfl
   |some x=>simp[h,X9,hs]
  .cases b.n9[j]? with
   |none=>rfl
   |some x=>simp only[aQ];congr 1;by_cases h1:j<i<;>simp[h1]<;>omega
 simp only[Bk.jn]at h1 h2 ⊢;rw[h1,h2]
end Go.gJ
namespace Go.Proofs.YtklfdfnoebnciaaGreatDoor
open List(length_flatMap map_take)
section
open Go Go.az Go.aD Go.gJ
variable {J:SK}
theorem Kh{α:Type}{f:α->List D}{w k:Nat}{v:D}(hw:∀x,(f x).length=w)(hk:k<w):∀{l:List α} {i:Nat} {x x':α},l[i]?=some x->(f x).set k v=f x'->(l.flatMap f).set (i*w+k) v=(l.set i x').flatMap f
 |[],i,x,x',h,_=>by simp at h
 |a::l,0,x,x',h,hs=>by
  simp at h;subst h;simp only[aT,List.set_cons_zero,Nat.zero_mul,cr];rw[List.set_append_left _ _ (by rw[hw];exact hk),hs]
 |a::l,i+1,x,x',h,hs=>by
  have ih:=Kh hw hk (l:=l) (i:=i) (by simpa using h) hs;simp only[aT,List.set_cons_succ];have e:=hw a;rw[List.set_append_right _ _ (by rw[e,dH];omega),<- ih];congr 2;rw[e,dH];omega
theorem Kg{α:Type}{f:α->List D}{w k:Nat}{v:D}(hw:∀x,(f x).length=w)(hk:k<w){l:List α}{i:Nat}{x x':α}(h:l[i]?=some x)(hs:(f x).set k v=f x'):(l.flatMap f).take (i*w+k)++v::(l.flatMap f).drop (i*w+k+1)=(l.set i x').flatMap f:=by
 rw[<- Kh hw hk h hs,List.set_eq_take_append_cons_drop,if_pos];rw[bZ hw];have h1:=(aw.1 h).1;have:(i+1)*w<=l.length*w:=ct _ h1;rw[dH]at this;omega
theorem J1{A F:List az.aI}{b:Bk}{er:List Int}{lo hi:Int}{val:cq->Int}{fv:D}(hf1:fv.strip=fv)(hf2:fv.calm=fv)(hw:b.n9.length=b.an.length)(hl:b.an.length<=40)
  (hv:∀i e,e∈b.an->e.left=true->oe (lim T) false fv [.agg [.str e.m.name,.aG e.m.bg.length (e.m.bg.flatMap aX)]] ([]::A::F::(b.jn lo hi val i).bk J.length er::J)=some (.int .i64 (val e.m),[]::A::F::(b.jn lo hi val i).bk J.length er::J)):∀(m i:Nat),i+m=b.an.length ->
  WL T [0,2,4,13,14,15] false ew [(0,.ref J.length 6 0 0),(2,fv),(4,.bu [.int .i64 lo,.int .i64 hi]),(13,.sl J.length 0 b.an.length 0 b.an.length 4),(14,.int .i64 b.an.length),(15,.int .i64 i)] ([]::A::F::(b.jn lo hi val i).bk J.length er::J)
   (λx e J'=>x=.exit 0/\J'=[]::A::F::(b.jn lo hi val b.an.length).bk J.length er::J)
 |0,i,h=>by
  refine aJ ew.eq_1 ?_;have h1:¬i<b.an.length:=by omega
  have h2:i=b.an.length:=by omega
  simp[-length_flatMap,-map_take,h1,hf1,hf2,h2]
 |m+1,i,h=>by
  refine aJ ew.eq_1 ?_;have h1:i<b.an.length:=by omega
  obtain⟨e,he⟩:=gE h1;have hat:=UE (lo:=lo) (hi:=hi) (val:=val) he;have hfl:=cf (f:=kW.enc) (w:=4) (λ_=>rfl) hat;have hml:=DK (b:=b) (lo:=lo) (hi:=hi) (val:=val) (i:=i);have hwl:=DL (b:=b) (lo:=lo) (hi:=hi) (val:=val) (i:=i);have h4:=eT h1;have ih:=J1 hf1 hf2 hw hl hv m (i+1) (by omega);have hlen:=Dh (b.jn lo hi val i).an;rw[hml]at hlen;have q:4<=b.an.length*4-i*4:=by omega
  cases hc1:e.left with
  |false =>
   have hst:isStr lo hi val e=false:=by simp[isStr,hc1]
   rw[IC he hst]at ih;simp[-length_flatMap,-map_take,h1,hf1,hf2,Bk.bk,Bk.cells,hml,hwl,hfl,hlen,q,h4,hc1];exact WL.to ih (by simp) (by simp[Bk.bk,Bk.cells,hml,hwl]) λx e J' hh=>by simpa[Bk.bk,Bk.cells,DK,DL]using hh
  |true =>
   have hcall:=hv i e (ai he) hc1;simp only[Bk.bk,Bk.cells,hml,hwl,Sr,Px,MK,Ss,UF,UG,UH,MM,ML,MJ,UD]at hcall;cases hc2:bT (val e.m) lo hi with
   |true =>
    have hst:isStr lo hi val e=false:=by simp[isStr,hc2]
    rw[IC he hst]at ih;simp[-length_flatMap,-map_take,h1,hf1,hf2,Bk.bk,Bk.cells,hml,hwl,hfl,hlen,q,h4,hc1,hcall,dM,hc2];exact WL.to ih (by simp) (by simp[Bk.bk,Bk.cells,hml,hwl]) λx e J' hh=>by simpa[Bk.bk,Bk.cells,DK,DL]using hh
   |false =>
    have hst:isStr lo hi val e=true:=by simp[isStr,hc1,hc2]
    obtain⟨hn1,hn2⟩:=Pw he hst hw;have q2:i*4+2+1<=b.an.length*4:=by omega
    have q3:i*4+3+1<=b.an.length*4:=by omega
    have p1:=Kg (f:=kW.enc) (w:=4) (k:=2) (v:=.bool false) (λ_=>rfl) (by omega) (x':=⟨e.m,false,e.Yj⟩) hat rfl;have hat2:((b.jn lo hi val i).an.set i ⟨e.m,false,e.Yj⟩)[i]?=some ⟨e.m,false,e.Yj⟩:=by simp[hml,h1]
    have p2:=Kg (f:=kW.enc) (w:=4) (k:=3) (v:=.int .i64 b.at_) (λ_=>rfl) (by omega) (x':=⟨e.m,false,b.at_⟩) hat2 rfl;rw[List.set_set]at p2;have hl2:=Dh ((b.jn lo hi val i).an.set i ⟨e.m,false,e.Yj⟩);rw[List.length_set,hml]at hl2;have h5:i<b.n9.length:=by omega
    have q5:i*4+4<=b.n9.length*4:=by omega
    have hwe:=Ob (b.jn lo hi val i).n9;rw[hwl]at hwe;have p3:=Nx (f:=LO.enc) (w:=4) (λ_=>rfl) (l:=(b.jn lo hi val i).n9) (i:=i) (x:=⟨b.at_,val e.m,lo,hi⟩) (by omega);simp only[LO.enc,fg,aY]at p3;simp[-length_flatMap,-map_take,h1,hf1,hf2,Bk.bk,Bk.cells,hml,hwl,hfl,hlen,q,h4,hc1,hcall,dM,hc2,q2,q3,p1,p2,hl2,h5,q5,hwe,p3];exact WL.to ih (by simp) (by simp[Bk.bk,Bk.cells,hwl,hn1,hn2,hml]) λx e J' hh=>by simpa[Bk.bk,Bk.cells,DK,DL]using hh
def wc(b:Bk)(lo hi:Int)(val:cq->Int):Bk:=b.jn lo hi val b.an.length
theorem JZ{A F:List az.aI}{b:Bk}{er:List Int}{lo hi:Int}{val:cq->Int}{fv:D}(hf1:fv.strip=fv)(hf2:fv.calm=fv)(hw:b.n9.length=b.an.length)(hl:b.an.length<=40)
  (hv:∀i e,e∈b.an->e.left=true->oe (lim T) false fv [.agg [.str e.m.name,.aG e.m.bg.length (e.m.bg.flatMap aX)]] ([]::A::F::(b.jn lo hi val i).bk J.length er::J)=some (.int .i64 (val e.m),[]::A::F::(b.jn lo hi val i).bk J.length er::J)):
  lim T (.call false 73 [.ref J.length 6 0 0,.agg [.int .i64 lo,.int .i64 hi],fv] (A::F::b.bk J.length er::J))=some (.val (.dj []) (A::F::(wc b lo hi val).bk J.length er::J)):=by
 refine eQ Ae kz.eq_1 rfl (by simp) ?_;have h:=J1 (A:=A) (F:=F) (er:=er) hf1 hf2 hw hl hv b.an.length 0 (by omega);rw[Py]at h;simp[-length_flatMap,-map_take,Bk.bk,Bk.cells,hf1,hf2];refine WL.to h (by simp) (by simp[Bk.bk,Bk.cells]) ?_;rintro x e J' ⟨rfl,rfl⟩;simp[wc,Bk.bk,Bk.cells]
end
section
open Go Go.az Go.aD
variable {J:SK}
structure xW where
 m:Int
 h:Int
 s:Int
 g:Int
@[simp] def xW.enc(x:xW):List D:=[.int .i64 x.m,.int .i64 x.h,.int .i64 x.s,.int .i64 x.g]
def xW.valid(x:xW):Bool:=bT x.m 0 1000000 && (bT x.h 0 (4000*x.m) && (bT x.s 0 (10000*x.m) && bT x.g 0 1000000000))
def gz(r:Rw)(x:xW):Int:=if x.h-x.m*r.l<=0 then 0 else if x.m*r.v<=x.h then x.m else(x.h-x.m*r.l) / (r.v-r.l)
theorem PR{r:Rw}{x:xW}(hr:0<=r.l/\r.l<r.v/\r.v<=4000)(hm:0<=x.m/\x.m<=1000000)(hh:0<=x.h/\x.h<=4000000000):
  lim T (.call false 195 [.agg r.enc,.agg x.enc] J)=some (.val (.int .i64 (gz r x)) J):=by
 refine au BQ mq.eq_1 rfl ?_;have b1:=mZ hm.1 hm.2 hr.1 (show r.l<=4000 by omega);have b2:=mZ hm.1 hm.2 (show 0<=r.v by omega) hr.2.2;have w1:=eF (n:=x.m*r.l);have w2:=eF (n:=x.h-x.m*r.l);have w3:=eF (n:=x.m*r.v);have w4:=eF (n:=r.v-r.l);have hd:¬r.v-r.l=0:=by omega
 unfold gz;by_cases c1:x.h-x.m*r.l<=0
 .simp[-length_flatMap,-map_take,w1,w2,w3,w4,c1]
 .by_cases c2:x.m*r.v<=x.h
  .simp[-length_flatMap,-map_take,w1,w2,w3,w4,c1,c2]
  .have t1:=bd (b:=r.v-r.l) (show 0<=x.h-x.m*r.l by omega);have q1:=Int.ediv_nonneg (a:=x.h-x.m*r.l) (b:=r.v-r.l) (by omega) (by omega);have q2:=Int.ediv_le_self (b:=r.v-r.l) (show 0<=x.h-x.m*r.l by omega);have w5:=eF (n:=(x.h-x.m*r.l) / (r.v-r.l));simp[-length_flatMap,-map_take,w1,w2,w3,w4,c1,c2,hd,t1,w5]
theorem FN{x:xW}:lim T (.call false 133 [.agg x.enc] J)=some (.val (.bool x.valid) J):=by
 refine au Aw lB.eq_1 rfl ?_;unfold xW.valid;cases h1:bT x.m 0 1000000
 .simp[-length_flatMap,-map_take,iZ,h1]
 have hm:=aU.1 h1;have w1:=eF (n:=4000*x.m);have w2:=eF (n:=10000*x.m);cases h2:bT x.h 0 (4000*x.m)
 .simp[-length_flatMap,-map_take,iZ,h1,h2,w1,w2]
 cases h3:bT x.s 0 (10000*x.m)
 .simp[-length_flatMap,-map_take,iZ,h1,h2,h3,w1,w2]
 cases h4:bT x.g 0 1000000000<;>simp[-length_flatMap,-map_take,iZ,h1,h2,h3,h4,w1,w2]
theorem Ze{t:List Rw}{i:Nat}{r:Rw}(h:t[i]?=some r):lim T (.call false 134 [.aG t.length (t.flatMap Rw.enc),.int .i64 i] J)=some (.val (.agg r.enc) J):=by
 refine au D1 qG.eq_1 rfl ?_;have h1:i<t.length:=(aw.1 h).1;have h2:=cf (f:=Rw.enc) (w:=5) (λ_=>rfl) h;simp[-length_flatMap,-map_take,h1,h2]
theorem UO{t:List Rw}{n:Int}(hl:t.length<=1000000000):lim T (.call false 132 [.aG t.length (t.flatMap Rw.enc),.int .i64 n] J)=some (.val (.bool (bT n 0 ((t.length:Int)-1))) J):=by
 refine au C8 o8.eq_1 rfl ?_;have w1:=eF (n:=(t.length:Int)-1);simp[-length_flatMap,-map_take,iZ,w1]
def Yg(r:Rw)(x:xW):Int×Int:=if gz r x=0 then(x.m,x.h)else if gz r x=x.m then(0,0)else(x.m-gz r x,x.h-gz r x*r.v)
def X8(r:Rw)(x:xW):Int:=if gz r x=0 then 0 else if gz r x=x.m then x.h else gz r x*r.v
def abe(r:Rw)(x:xW):Int:=if gz r x=0 then x.g else 0
def X7(r:Rw)(x:xW):Int:=if gz r x=0 then 0 else x.g
def held(r:Rw)(x:xW):Int:=min x.s ((Yg r x).1*r.s)
def parts(r:Rw)(x:xW):List D:=[.int .i64 (gz r x),.int .i64 (X8 r x),.int .i64 0,.int .i64 (X7 r x),.int .i64 (Yg r x).1,.int .i64 (Yg r x).2,.int .i64 (held r x),.int .i64 (abe r x),
 .int .i64 (if 0<(Yg r x).1 then max 0 ((Yg r x).2-(Yg r x).1*r.l)else 0),.int .i64 (x.s-held r x)]
theorem Q1{r:Rw}{x:xW}(hr:0<=r.l/\r.l<r.v/\r.v<=4000)(hm:0<=x.m):0<=gz r x/\gz r x<=x.m/\(gz r x≠0->gz r x≠x.m->0<=x.h-gz r x*r.v+x.m*r.v):=by
 have hmv:x.m*r.v=x.m*r.l+x.m*(r.v-r.l):=by rw[<- Int.mul_add];congr 1;omega
 have hml:=dp hm hr.1;have key:¬x.h-x.m*r.l<=0->¬x.m*r.v<=x.h->0<=(x.h-x.m*r.l) / (r.v-r.l)/\(x.h-x.m*r.l) / (r.v-r.l)<=x.m:=λh1 h2=>⟨Int.ediv_nonneg (by omega) (by omega),Int.ediv_le_of_le_mul (by omega) (by omega)⟩
 have h2:0<=gz r x/\gz r x<=x.m:=by
  unfold gz;by_cases c1:x.h-x.m*r.l<=0
  .rw[if_pos c1];omega
  .rw[if_neg c1];by_cases c2:x.m*r.v<=x.h
   .rw[if_pos c2];omega
   .rw[if_neg c2];exact key c1 c2
 refine⟨h2.1,h2.2,λh3 _=>?_⟩;have h4:=bK h2.2 (show 0<=r.v by omega);have h5:¬x.h-x.m*r.l<=0:=by
  intro hh;exact h3 (by unfold gz;rw[if_pos hh])
 omega
theorem Zb{r:Rw}{x:xW}(hr:0<=r.l/\r.l<r.v/\r.v<=4000)(hs:0<=r.s/\r.s<=2000)(hx:x.valid=true):
  lim T (.call false 135 [.agg r.enc,.agg x.enc] J)=some (.val (.agg (parts r x)) J):=by
 refine au D2 qH.eq_1 rfl ?_;simp only[xW.valid,ae,aU]at hx;obtain⟨hm,hh,hsl,hg⟩:=hx;have hF:=λJ=>PR (J:=J) hr hm ⟨hh.1,by omega⟩
 obtain⟨f1,f2,f3⟩:=Q1 hr hm.1;have b1:=mZ f1 (show gz r x<=1000000 by omega) (show 0<=r.v by omega) hr.2.2;have b2:=mZ (show 0<=x.m-gz r x by omega) (show x.m-gz r x<=1000000 by omega) hs.1 hs.2;have b3:=mZ (show 0<=x.m-gz r x by omega) (show x.m-gz r x<=1000000 by omega) hr.1 (show r.l<=4000 by omega);have b4:=mZ hm.1 hm.2 hs.1 hs.2;have b5:=mZ hm.1 hm.2 hr.1 (show r.l<=4000 by omega);simp only[Rw.enc,xW.enc]at hF;unfold parts held X8 abe X7 Yg;generalize gz r x=m at *
 have w1:=eF (n:=m*r.v);have w2:=eF (n:=x.m-m);have w3:=eF (n:=x.h-m*r.v);have w4:=eF (n:=(x.m-m)*r.s);have w5:=eF (n:=(x.m-m)*r.l);have w6:=eF (n:=x.h-m*r.v-(x.m-m)*r.l);have w7:=eF (n:=x.m*r.s);have w8:=eF (n:=x.m*r.l);have w9:=eF (n:=x.h-x.m*r.l);have v1:=eF (n:=x.s-min x.s (x.m*r.s));have v2:=eF (n:=x.s-min x.s ((x.m-m)*r.s));have v3:=eF (n:=x.s);have v4:min x.s 0=0:=by omega
 by_cases c1:m=0
 .subst c1;by_cases c2:0<x.m
  .simp[-length_flatMap,-map_take,hF,w7,w8,w9,v1,c2]
  .simp[-length_flatMap,-map_take,hF,w7,w8,w9,v1,c2]
 .by_cases c2:m=x.m
  .subst c2;simp[-length_flatMap,-map_take,hF,c1,v3,v4]
  .have c3:0<x.m-m:=by omega
   have c4:m<x.m:=by omega
   simp[-length_flatMap,-map_take,hF,c1,c2,c3,c4,w1,w2,w3,w4,w5,w6,v2]
theorem Xy{t:List Rw}(ht:jj t=true){i:Nat}{r:Rw}(h:t[i]?=some r):(0<=r.l/\r.l<r.v/\r.v<=4000)/\(0<=r.s/\r.s<=2000):=by
 simp only[jj,ae]at ht;have:=iI.1 ht.2.1 r (ai h);simp only[Rw.alone,ae,aU,ao]at this;obtain⟨_,_,h3,h4,h5,h6⟩:=this;exact⟨⟨h3.1,h5,h6⟩,h4⟩
theorem SQ{t:List Rw}(ht:jj t=true){i:Nat}{r:Rw}(hi:t[i]?=some r){x:xW}(hx:x.valid=true):
  lim T (.call false 85 [.aG t.length (t.flatMap Rw.enc),.int .i64 i,.agg x.enc] J)=some (.val (.dj [.agg (parts r x),.int .i64 0]) J):=by
 refine au B0 rP.eq_1 rfl ?_;have hl:t.length<=20:=by
  simp only[jj,ae]at ht;have:=aU.1 ht.1;omega
 have hil:i<t.length:=(aw.1 hi).1;have h1:=λJ=>Cb (J:=J) (t:=t) (by omega)
 have h2:=λJ=>UO (J:=J) (t:=t) (n:=i) (by omega)
 have h3:=λJ=>FN (J:=J) (x:=x)
 have h4:=λJ=>Ze (J:=J) hi
 obtain⟨r1,r2⟩:=Xy ht hi;have h5:=λJ=>Zb (J:=J) r1 r2 hx
 have hin:bT i 0 ((t.length:Int)-1)=true:=aU.2 (by omega);rw[hin]at h2;rw[hx]at h3;rw[ht]at h1;simp only[xW.enc,Rw.enc]at h3 h4 h5;have hp:(parts r x).length=10:=rfl;have hp2:(parts r x).take 10=parts r x:=rfl;have hpc:D.bx (parts r x)=true:=by simp[parts]
 generalize parts r x=P at *
 simp[-length_flatMap,-map_take,h1,h2,h3,h4,h5,hp,hp2];rw[jX (by simp[D.clean,hpc]) (by omega)];exact⟨_,rfl⟩
structure Yv(b:b9)(y:List aD.aI):Prop where
 len:y.length=b.ak.length
 ok:∀o∈y,(0<=o.m/\o.m<=1000000)/\(0<=o.h/\o.h<=10000000000)/\(0<=o.k/\o.k<=1000000000000)
theorem Yv.of{b:b9}{s:List aD.aI}{aO:List Int}(h:Bv b)(hs:Sv b s)(hr:Rv b aO):Yv b (dr b s aO):=by
 refine⟨by simp[dr,hr.len],?_⟩;intro o ho;simp only[dr,bO]at ho;obtain⟨⟨w,r⟩,hm,rfl⟩:=ho;have hw:=G4 h w (List.of_mem_zip hm).1;have hb:=hr.ok r (List.of_mem_zip hm).2;simp only[rj];split
 .simp
 .obtain⟨_,h1,h2,h3⟩:=hs.at (i:=w.b.toNat) (by omega);generalize bL s w.b.toNat=x at *
  have h8:x.m.tdiv 8=x.m / 8:=bd (by omega);have hq:0<=min r (x.m.tdiv 8)/\min r (x.m.tdiv 8)<=x.m:=by omega
  exact⟨⟨hq.1,by simp only[aD.aI.out];omega⟩,Il h1.1 h2 hq,Il h1.1 h3 hq⟩
theorem SA{b:b9}{m:cq}{s:List aD.aI}{aO:List Int}{s' y:List aD.aI}(h:Bv b)(hs:Sv b s)(hr:Rv b aO)(ht:tick b m s aO=some (s',y)):Sv b s'/\Yv b y:=by
 refine⟨Sv.next h ht,?_⟩;unfold tick at ht;split at ht
 .simp only[ad,aj]at ht;rw[<- ht.2];exact Yv.of h hs hr
 .cases ht
structure J3(b:b9)(n:Nat)(ss ys:List (List aD.aI)):Prop where
 sl:ss.length=n+1
 yl:ys.length=n
 sv:∀s∈ss,Sv b s
 yv:∀y∈ys,Yv b y
theorem J3.from{b:b9}{m:cq}(h:Fv b m):∀(av:List (List Int)) (n:Nat) (ss ys:List (List aD.aI)) (s:List aD.aI) {ss' ys':List (List aD.aI)},(∀r∈av,Rv b r)->J3 b n ss ys->Sv b s->uU b m ss ys s av=some (ss',ys')->J3 b (n+av.length) ss' ys'
 |[],n,ss,ys,s,ss',ys',hr,h1,h2,he=>by
  simp only[uU,ad,aj]at he;obtain⟨rfl,rfl⟩:=he;exact h1
 |r::av,n,ss,ys,s,ss',ys',hr,h1,h2,he=>by
  simp only[uU]at he;split at he
  .rename_i s' y ht;obtain⟨g1,g2⟩:=SA h.bv h2 (hr r (List.mem_cons_self ..)) ht;have:=J3.from h av (n+1) _ _ _ (λx hx=>hr x (List.mem_cons_of_mem _ hx)) (⟨by simp[h1.sl],by simp[h1.yl],by
    intro x hx;rcases aZ.1 hx with hx | hx
    .exact h1.sv x hx
    .rw[List.mem_singleton.1 hx];exact g1,by
    intro x hx;rcases aZ.1 hx with hx | hx
    .exact h1.yv x hx
    .rw[List.mem_singleton.1 hx];exact g2⟩:J3 b (n+1) (ss++[s']) (ys++[y])) g1 he
   rw[show n+(r::av).length=n+1+av.length by simp;omega];exact this
  .cases he
theorem J3.of{b:b9}{m:cq}{av:List (List Int)}{ss ys:List (List aD.aI)}(h:Fv b m)(hr:∀r∈av,Rv b r)(he:aD.run b m av=some (ss,ys)):J3 b av.length ss ys:=by
 have:=J3.from h av 0 _ _ _ hr (⟨rfl,rfl,by simpa using Sv.first h,by simp⟩:J3 b 0 [c8 b m] []) (Sv.first h) he;simpa using this
theorem ND{l:List cq}{j:Nat}{m:cq}(h:l[j]?=some m):((l.flatMap cq.enc).drop (j*2)).take 2=[.str m.name,.aG m.bg.length (m.bg.flatMap aX)] :=
 cf (f:=cq.enc) (w:=2) (λ_=>rfl) h
def QV(b:b9)(m:cq)(i:Nat):Bool:=bT (uw b m 0 i) 1000 100000 && (bT (uw b m 1 i) 0 1000 && (bT (uw b m 2 i) 0 3000 && bT (uw b m 3 i) 0 1000))
def Kp(b:b9)(m:cq)(i:Nat):Nat->Bool
 |0=>true
 |k+1=>QV b m i && Kp b m (i+1) k
theorem HZ{b:b9}{m:cq}:∀{k i:Nat},Kp b m i k=true↔∀j,i<=j->j<i+k->QV b m j=true
 |0,i=>by simp[Kp];omega
 |k+1,i=>by
  rw[Kp,ae,HZ];constructor
  .intro⟨h1,h2⟩ j h3 h4;by_cases hj:j=i
   .subst hj;exact h1
   .exact h2 j (by omega) (by omega)
  .intro h;exact⟨h i (by omega) (by omega),λj h3 h4=>h j (by omega) (by omega)⟩
theorem LU{b:b9}{m:cq}(h:Bv b):fm b.f [m]=0↔b.f.model m=0:=by
 simp only[fm,h.fv,if_true,eu.an,eu.each];have h1:bT (([m]:List cq).length:Nat) 1 40=true:=by simp[bT]
 rw[if_pos h1];by_cases hc:b.f.model m=0
 .simp[hc]
 .simp[hc]
theorem Nl{b:b9}{m:cq}(h:Bv b):fits b m=(decide (b.f.model m=0) && Kp b m 0 b.n):=by
 by_cases hc:b.f.model m=0
 .have hm:=Mv.of h ((LU h).2 hc);have hcm:=(LU h).2 hc;have key:∀{k:Nat} {lo hi:Int},k<4->(fk (vf b m k) (λn=>bT n lo hi)=true↔∀i,i<b.n->bT (uw b m k i) lo hi=true):=by
   intro k lo hi hk;rw[iI];constructor
   .intro ha i hi';exact ha _ (ai (wK hm hk hi'))
   .intro ha x hx;obtain⟨i,hi'⟩:=fh hx;have hlt:i<b.n:=by have:=(aw.1 hi').1;rwa[H9 hm hk]at this
    rw[wK hm hk hlt]at hi';cases hi';exact ha i hlt
  rw[Bool.eq_iff_iff];simp only[fits,hcm,hc,decide_true,Bool.true_and,ae,HZ,QV];rw[key (by decide),key (by decide),key (by decide),key (by decide)];constructor
  .intro⟨h1,h2,h3,h4⟩ j _ hj;exact⟨h1 j (by omega),h2 j (by omega),h3 j (by omega),h4 j (by omega)⟩
  .intro hh;exact⟨λi hi=>(hh i (by omega) (by omega)).1,λi hi=>(hh i (by omega) (by omega)).2.1,λi hi=>(hh i (by omega) (by omega)).2.2.1,λi hi=>(hh i (by omega) (by omega)).2.2.2⟩
 .have hcm:¬fm b.f [m]=0:=λhh=>hc ((LU h).1 hh)
  simp[fits,hc,hcm]
def Rx(b:b9)(l:List cq):Int:=if bT l.length 1 40 then(if b.f.an l=0 then(if fk l (fits b)then 0 else 1)else 1)else 3
def Vw(b:b9)(l:List cq)(av:List (List Int)):Bool:=b.valid && (decide (l.length<=4) && (decide (Rx b l=0) && (decide (av.length<=6) && decide (vG b av=0))))
theorem LV(l:List cq):D.bx (l.flatMap cq.enc)=true:=eS (λx=>by simp[D.clean,bq]) l
structure Ok(b:b9)(l:List cq)(av:List (List Int)):Prop where
 bv:Bv b
 valid:b.valid=true
 len:1<=l.length/\l.length<=40
 an:b.f.an l=0
 fit:∀m∈l,fits b m=true
 fv:∀m∈l,Fv b m
 short:∀m∈l,m.name.length<=1000000000/\m.bg.length<=384
 pl:vG b av=0
 Pk:av.length<=200
 aO:∀r∈av,Rv b r
theorem WY{b:b9}{m:cq}(h:Bv b)(hf:fits b m=true):m.name.length<=16:=by
 rw[Nl h,ae,ao]at hf;have hm:=hf.1;unfold eu.model at hm;split at hm
 .rename_i hn;simp only[named,ae]at hn;have:=aU.1 hn.2;omega
 .cases hm
theorem Ok.of{b:b9}{l:List cq}{av:List (List Int)}(h:Vw b l av=true):Ok b l av:=by
 simp only[Vw,ae,ao]at h;obtain⟨h1,h2,h3,h4,h5⟩:=h;have hb:=Bv.of h1;unfold Rx at h3;split at h3
 .rename_i hi;split at h3
  .rename_i hm;split at h3
   .rename_i hf;have hfit:∀m∈l,fits b m=true:=iI.1 hf;have hfv:∀m∈l,Fv b m:=λm hm=>Fv.of (by simp[Bd,h1,hfit m hm])
    exact⟨hb,h1,⟨by have:=aU.1 hi;omega,by omega⟩,hm,hfit,hfv,λm hm=>⟨by have:=WY hb (hfit m hm);omega,(hfv m hm).toMv.le.2⟩,h5,by omega,(zB h5).2⟩
   .cases h3
  .cases h3
 .cases h3
theorem Ok.check{b:b9}{l:List cq}{av:List (List Int)}(h:Ok b l av):fm b.f l=0:=by
 simp[fm,h.bv.fv,h.an]
theorem P7{b:b9}{m:cq}(h:Bv b)(hn:m.name.length<=1000000000)(hl:m.bg.length<=1000000000):lim T (.call false 189 [.agg [.str m.name,.aG m.bg.length (m.bg.flatMap aX)],.bu [.int .i64 b.f.x,.int .i64 b.f.y,.int .i64 b.f.z,.int .i64 b.f.k,.aG b.b8.length (b.b8.flatMap Rw.enc),.int .i64 b.bF,.int .i64 b.lift,.int .i64 b.deep,.aG b.ak.length (b.ak.flatMap bE.enc)]] J)=some (.val (.bool (fits b m)) J):=by
 refine au F3 tz.eq_1 rfl ?_;have hC:=λJ=>Ly (J:=J) (m:=m) h hn hl
 simp[-length_flatMap,-map_take,hC,cl,bh,bq]
theorem LD{b:b9}{l:List cq}(h:Bv b)(hs:∀m∈l,m.name.length<=1000000000/\m.bg.length<=1000000000)(hl:l.length<=1000000000):
  lim T (.call false 188 [.aG l.length (l.flatMap cq.enc),.fn 189 [] [.bu [.int .i64 b.f.x,.int .i64 b.f.y,.int .i64 b.f.z,.int .i64 b.f.k,.aG b.b8.length (b.b8.flatMap Rw.enc),.int .i64 b.bF,.int .i64 b.lift,.int .i64 b.deep,.aG b.ak.length (b.ak.flatMap bE.enc)]]] J)=some (.val (.bool (fk l (fits b))) J) :=
 zg (wE 2 cq.enc (λ_=>rfl)) (f:=188) (g:=232) (h:=231) (i:=261) (l:=l) (p:=fits b) rfl rfl rfl rfl (by omega) (oP.fn λx hx J=>P7 h (hs x hx).1 (hs x hx).2) rfl
theorem Tf{b:b9}{l:List cq}{av:List (List Int)}(h:Ok b l av):
  lim T (.call false 126 [.agg [.int .i64 b.f.x,.int .i64 b.f.y,.int .i64 b.f.z,.int .i64 b.f.k,.aG b.b8.length (b.b8.flatMap Rw.enc),.int .i64 b.bF,.int .i64 b.lift,.int .i64 b.deep,.aG b.ak.length (b.ak.flatMap bE.enc)],.aG l.length (l.flatMap cq.enc),.aG av.length (av.flatMap Fj)] J)=some (.val (.int .i64 0) J):=by
 refine au IQ vS.eq_1 rfl ?_;have hs:∀m∈l,m.name.length<=1000000000/\m.bg.length<=1000000000:=λm hm=>⟨(h.short m hm).1,by have:=(h.short m hm).2;omega⟩
 have hl:=h.len;have htab:=h.bv.b8;have ht:b.b8.length<=1000000000:=by
  simp only[jj,ae]at htab;have:=aU.1 htab.1;omega
 have h1:=λJ=>Al (J:=J) (b:=b) ht (by have:=h.bv.ak;omega)
 have h2:=λJ=>BY (J:=J) (f:=b.f) (l:=l) hs (by omega)
 have h3:=λJ=>LD (J:=J) (l:=l) h.bv hs (by omega)
 have h4:=λJ=>P5 (J:=J) (b:=b) (av:=av) (by have:=h.Pk;omega) (λr hr=>by have:=(h.aO r hr).len;have:=h.bv.ak;omega)
 have hi:bT l.length 1 40=true:=aU.2 (by omega);have ha:fk l (fits b)=true:=iI.2 h.fit;rw[h.valid]at h1;rw[h.check]at h2;rw[ha]at h3;rw[h.pl]at h4;simp[-length_flatMap,-map_take,h1,h2,h3,h4,cU,hi,cl,bh,bq]
abbrev RunT:=List (List aD.aI)×List (List aD.aI)
def CN(r:RunT):List D:=[.aG r.1.length (r.1.flatMap xN),.aG r.2.length (r.2.flatMap xN)]
theorem Sa(l:List RunT):(l.flatMap CN).length=l.length*2:=bZ (f:=CN) (w:=2) (λ_=>rfl) l
def wU(b:b9)(av:List (List Int)):List cq->Option (List RunT)
 |[]=>some []
 |m::l=>match aD.run b m av with
  |some r=>(wU b av l).map (r :: ·)
  |none=>none
def K3(n:Nat)(acc:List RunT)(J:SK)(r:Option (List RunT))(x:az.Exit)(e:Env)(J':SK):Prop:=match r with
 |some rs=>x=.exit 0/\get e 6=.sl J.length 0 n 0 n 2/\J'=[.cells n ((acc++rs).flatMap CN)]::J
 |none=>x=.eA (.tK 259 (.agg []))/\∃bk,J'=bk::J
theorem LK{b:b9}{l:List cq}{av:List (List Int)}(h:Ok b l av):∀(k i:Nat) (acc:List RunT),i+k=l.length->acc.length=i ->
  WL T [2,3,6,9,10,11] false pI [(2,.aG av.length (av.flatMap Fj)),(3,.bu [.int .i64 b.f.x,.int .i64 b.f.y,.int .i64 b.f.z,.int .i64 b.f.k,.aG b.b8.length (b.b8.flatMap Rw.enc),.int .i64 b.bF,.int .i64 b.lift,.int .i64 b.deep,.aG b.ak.length (b.ak.flatMap bE.enc)]),(6,.sl J.length 0 i 0 i 2),(9,.aG l.length (l.flatMap cq.enc)),(10,.int .i64 l.length),(11,.int .i64 i)] ([.cells i (acc.flatMap CN)]::J)
   (K3 l.length acc J (wU b av (l.drop i)))
 |0,i,acc,hi,ha=>by
  refine aJ pI.eq_1 ?_;obtain rfl:i=l.length:=by omega
  have h2:l.drop l.length=[]:=aA (by omega);simp[-length_flatMap,-map_take,h2,wU,K3]
 |k+1,i,acc,hi,ha=>by
  refine aJ pI.eq_1 ?_;have h1:i<l.length:=by omega
  obtain⟨m,hm⟩:=gE h1;have hlen:=h.len;have h2:=ND hm;have h4:=eT h1;have h5:=drop_at hm;have hmem:=ai hm;have a4:=Sa acc;rw[ha]at a4;have a6:(acc.flatMap CN).take (i*2)=acc.flatMap CN:=ah (by omega);have h7:(i+1)*48<=room:=by unfold room;omega
  have hp:av.length<=200:=by have:=h.Pk;omega
  rw[h5,wU];cases hr:aD.run b m av with
  |none =>
   have hC:=λJ=>MX (J:=J) (h.fv m hmem) hp h.aO hr
   simp[-length_flatMap,-map_take,h1,h2,h4,hC,K3,cl,bh,bq]
  |some r =>
   obtain⟨ss,ys⟩:=r;have hC:=λJ hJ=>MY (J:=J) (h.fv m hmem) hp h.aO hJ hr
   have ih:=LK h k (i+1) (acc++[(ss,ys)]) (by omega) (by simp[ha]);simp[-length_flatMap,-map_take,h1,h2,h4,hC,a4,a6,h7,cl,bh,bq,D.clean,HS];refine WL.to ih (by simp) (by simp[CN]) λx e J' hh=>?_
   cases hq:wU b av (l.drop (i+1))with
   |none=>rw[hq]at hh;simpa[K3]using hh
   |some rs=>rw[hq]at hh;simpa[K3]using hh
theorem Qc{b:b9}{l:List cq}{av:List (List Int)}(h:Ok b l av)(hJ:J≠[]){rs:List RunT}(hr:wU b av l=some rs)(hl:rs.length=l.length):
  lim T (.call false 128 [.agg [.int .i64 b.f.x,.int .i64 b.f.y,.int .i64 b.f.z,.int .i64 b.f.k,.aG b.b8.length (b.b8.flatMap Rw.enc),.int .i64 b.bF,.int .i64 b.lift,.int .i64 b.deep,.aG b.ak.length (b.ak.flatMap bE.enc)],.aG l.length (l.flatMap cq.enc),.aG av.length (av.flatMap Fj)] J)=some (.val (.aG rs.length (rs.flatMap CN)) J):=by
 refine au EI va.eq_1 rfl ?_;simp[-length_flatMap,-map_take,cl,bh,bq];refine WL.to (LK (J:=J) h l.length 0 [] (by omega) rfl) (by simp) (by simp) ?_;rw[aK,hr];rintro x e J' ⟨rfl,g6,rfl⟩;simp[-length_flatMap,-map_take,g6];rw[<- hl,zX (f:=CN) (by decide) (λ_=>rfl) (λx=>by simp[CN,D.clean,HS]) hJ (by simp)];simp
theorem Qb{b:b9}{l:List cq}{av:List (List Int)}(h:Ok b l av)(hr:wU b av l=none):
  lim T (.call false 128 [.agg [.int .i64 b.f.x,.int .i64 b.f.y,.int .i64 b.f.z,.int .i64 b.f.k,.aG b.b8.length (b.b8.flatMap Rw.enc),.int .i64 b.bF,.int .i64 b.lift,.int .i64 b.deep,.aG b.ak.length (b.ak.flatMap bE.enc)],.aG l.length (l.flatMap cq.enc),.aG av.length (av.flatMap Fj)] J)=some (.eA (.tK 259 (.agg [])) J):=by
 refine di EI va.eq_1 rfl ?_;simp[-length_flatMap,-map_take,cl,bh,bq];refine WL.to (LK (J:=J) h l.length 0 [] (by omega) rfl) (by simp) (by simp) ?_;rw[aK,hr];rintro x e J' ⟨rfl,bk,rfl⟩;simp[D.clean]
theorem Iw{b:b9}{av:List (List Int)}:∀{l:List cq} {rs:List RunT},wU b av l=some rs->rs.length=l.length/\∀(i:Nat) m,l[i]?=some m->∃r,rs[i]?=some r/\aD.run b m av=some r
 |[],rs,h=>by simp only[wU,ad]at h;subst h;simp
 |m::l,rs,h=>by
  simp only[wU]at h;cases hr:aD.run b m av with
  |none=>rw[hr]at h;cases h
  |some r =>
   rw[hr]at h;simp only[ab]at h;obtain⟨rs',h1,rfl⟩:=h;obtain⟨g1,g2⟩:=Iw h1;refine⟨by simp[g1],?_⟩;intro i m' hm';cases i with
   |zero=>simp only[cc,ad]at hm';subst hm';exact⟨r,rfl,hr⟩
   |succ i=>simpa using g2 i m' (by simpa using hm')
theorem To{x:aD.aI}:lim T (.call false 235 [.agg x.enc] J)=some (.val (.int .i64 x.m) J):=by
 refine au C5 oX.eq_1 rfl ?_;simp[-length_flatMap,-map_take]
theorem Qj{x:aD.aI}:lim T (.call false 237 [.agg x.enc] J)=some (.val (.int .i64 x.k) J):=by
 refine au Cp nC.eq_1 rfl ?_;simp[-length_flatMap,-map_take]
def rowAt(l:List (List aD.aI))(t:Nat):List aD.aI:=(l[t]?).getD []
structure Rs(b:b9)(l:List cq)(n:Nat)(rs:List RunT):Prop where
 len:rs.length=l.length
 ne:1<=l.length/\l.length<=40
 n6:n<=200
 ak:b.ak.length<=8
 bn:1<=b.n/\b.n<=64
 all:∀r∈rs,J3 b n r.1 r.2
 fv:∀m∈l,Fv b m
theorem R0{b:b9}{n:Nat}{r:RunT}(h:J3 b n r.1 r.2){t:Nat}(ht:t<n):r.2[t]?=some (rowAt r.2 t)/\Yv b (rowAt r.2 t):=by
 have h1:t<r.2.length:=by rw[h.yl];exact ht
 have h2:r.2[t]?=some r.2[t]:=aL h1;have h3:rowAt r.2 t=r.2[t]:=by simp[rowAt,h2]
 rw[h3];exact⟨h2,h.yv _ (List.getElem_mem h1)⟩
theorem Vr{b:b9}{n:Nat}{r:RunT}(h:J3 b n r.1 r.2){t:Nat}(ht:t<=n):r.1[t]?=some (rowAt r.1 t)/\Sv b (rowAt r.1 t):=by
 have h1:t<r.1.length:=by rw[h.sl];omega
 have h2:r.1[t]?=some r.1[t]:=aL h1;have h3:rowAt r.1 t=r.1[t]:=by simp[rowAt,h2]
 rw[h3];exact⟨h2,h.sv _ (List.getElem_mem h1)⟩
theorem VH{b:b9}{y:List aD.aI}(h:Yv b y){w:Nat}(hw:w<b.ak.length):y[w]?=some (bL y w):=by
 have h1:w<y.length:=by rw[h.len];exact hw
 simp[bL,aL h1]
theorem Sn{l:List (List aD.aI)}{t:Nat}{s:List aD.aI}(h:l[t]?=some s):((l.flatMap xN).drop t).take 1=[.aG s.length (s.flatMap aI.enc)]:=by
 have:=cf (f:=xN) (w:=1) (λ_=>rfl) h;simpa[xN]using this
theorem Ur{l:List RunT}{j:Nat}{r:RunT}(h:l[j]?=some r):((l.flatMap CN).drop (j*2)).take 2=[.aG r.1.length (r.1.flatMap xN),.aG r.2.length (r.2.flatMap xN)] :=
 cf (f:=CN) (w:=2) (λ_=>rfl) h
end
end Go.Proofs.YtklfdfnoebnciaaGreatDoor
namespace Go.aD
open List(length_flatMap map_take)
open Go Go.az
def three:List Rw:=[⟨100,101,419,2676,150⟩,⟨150,476,632,2746,300⟩,⟨200,1555,852,2793,600⟩]
end Go.aD
namespace Go.Proofs.YtklfdfnoebnciaaGreatDoor
open List(length_flatMap map_take)
open Go Go.az Go.aD
variable {J:SK}
theorem Rs.of{b:b9}{l:List cq}{av:List (List Int)}(h:Ok b l av){rs:List RunT}(hr:wU b av l=some rs):Rs b l av.length rs:=by
 obtain⟨h1,h2⟩:=Iw hr;refine⟨h1,h.len,h.Pk,h.bv.ak,h.bv.n,?_,h.fv⟩;intro r hmem;obtain⟨i,hi⟩:=fh hmem;have hlt:i<l.length:=by rw[<- h1];exact(aw.1 hi).1
 obtain⟨m,hm⟩:=gE hlt;obtain⟨r',h3,h4⟩:=h2 i m hm;rw[hi]at h3;cases h3;exact J3.of (h.fv m (ai hm)) h.aO h4
theorem Kq(l:List Nat):(l.flatMap λ_=>[D.aG 0 []])=List.replicate l.length (.aG 0 []):=by
 induction l with
 |nil=>rfl
 |cons a l ih=>rw[aT,ih];rfl
end Go.Proofs.YtklfdfnoebnciaaGreatDoor
namespace Go.aD
open List(length_flatMap map_take)
open Go Go.az
structure wY where
 name:List UInt8
 kind:Int
 bl:List Int
 wt:List Int
 lo:Int
 hi:Int
structure vL where
 tick:Int
 pU:Int
 idx:Int
 lo:Int
 hi:Int
@[simp] theorem wY.eta(p:wY):wY.mk p.name p.kind p.bl p.wt p.lo p.hi=p:=rfl
@[simp] theorem vL.eta(p:vL):vL.mk p.tick p.pU p.idx p.lo p.hi=p:=rfl
@[simp] def wY.enc(m:wY):List D:=[.str m.name,.int .i64 m.kind,.aG m.bl.length (m.bl.flatMap aX),.aG m.wt.length (m.wt.flatMap aX),.int .i64 m.lo,.int .i64 m.hi]
@[simp] def vL.enc(x:vL):List D:=[.int .i64 x.tick,.int .u8 x.pU,.int .i64 x.idx,.int .i64 x.lo,.int .i64 x.hi]
def A8(n:Int):Int->List Int->List Int->Bool
 |last,b::bl,w::wt=>decide (last<b) && (decide (b<n) && (bT w (-1000) 1000 && A8 n b bl wt))
 |_,_,_=>true
def G3(f:eu)(kind:Int)(bl wt:List Int):Bool:=bT kind 0 (f.k-1) && (decide (1<=bl.length) && (decide (bl.length=wt.length) && A8 f.size (-1) bl wt))
def Gn(lo hi:Int):Bool:=decide (-10000000000<=lo) && (decide (lo<=hi) && decide (hi<=10000000000))
def eu.measure(f:eu)(m:wY):Int:=if named m.name then(if G3 f m.kind m.bl m.wt && Gn m.lo m.hi then 0 else 1)else 5
def eu.Df(f:eu)(met:List (List UInt8)):List wY->Int
 |[]=>0
 |m::l=>if f.measure m=0 then(if met.contains m.name then 6 else f.Df (met++[m.name]) l)else f.measure m
def eu.Dw(f:eu)(l:List wY):Int:=if 12<l.length then 3 else f.Df [] l
structure Zg(f:eu)(x:wY):Prop where
 name:x.name.length<=16
 kind:0<=x.kind/\x.kind<f.k
 ne:1<=x.bl.length
 len:x.bl.length=x.wt.length
 aat:A8 f.size (-1) x.bl x.wt=true
 ends : -10000000000<=x.lo/\x.lo<=x.hi/\x.hi<=10000000000
theorem Zg.of{f:eu}{x:wY}(h:f.measure x=0):Zg f x:=by
 unfold eu.measure at h;split at h
 .rename_i h1;split at h
  .rename_i h2;simp only[G3,Gn,ae,ao,aU]at h2;obtain⟨⟨h3,h4,h5,h6⟩,h7,h8,h9⟩:=h2;simp only[named,ae]at h1;have:=aU.1 h1.2;exact⟨by omega,by omega,h4,h5,h6,h7,h8,h9⟩
  .cases h
 .cases h
theorem ID{n:Int}:∀{bl wt:List Int} {last:Int},bl.length=wt.length->A8 n last bl wt=true->last<n->(bl.length:Int)<=n-1-last
 |[],wt,last,hl,h,hn=>by simp;omega
 |b::bl,[],last,hl,h,hn=>by simp at hl
 |b::bl,w::wt,last,hl,h,hn=>by
  simp only[A8,ae,ao]at h;obtain⟨h1,h2,h3,h4⟩:=h;have:=ID (n:=n) (bl:=bl) (wt:=wt) (last:=b) (by simpa using hl) h4 h2;simp only[aF];omega
theorem Ld{n:Int}:∀{bl wt:List Int} {last:Int} {i:Nat} {b w:Int},A8 n last bl wt=true->bl[i]?=some b->wt[i]?=some w->last<b/\b<n/\(-1000<=w/\w<=1000)
 |[],wt,last,i,b,w,h,hb,hw=>by simp at hb
 |b'::bl,[],last,i,b,w,h,hb,hw=>by simp at hw
 |b'::bl,w'::wt,last,i,b,w,h,hb,hw=>by
  simp only[A8,ae,ao]at h;obtain⟨h1,h2,h3,h4⟩:=h;cases i with
  |zero =>
   simp only[cc,ad]at hb hw;subst hb hw;exact⟨h1,h2,aU.1 h3⟩
  |succ i =>
   have:=Ld h4 (by simpa using hb) (by simpa using hw);omega
def Su(bg:List Int)(off:Int):Int->List Int->List Int->Int
 |acc,b::bl,w::wt=>Su bg off (acc+w*(bg[(off+b).toNat]?).getD 0) bl wt
 |acc,_,_=>acc
def Lm(f:eu)(m:cq)(x:wY):Int:=Su m.bg (x.kind*f.size) 0 x.bl x.wt
def Ry(lo hi s:Int):Int:=if hi<s then s-hi else if s<lo then s-lo else 0
def AS(lo hi s:Int):Int:=max 0 (s-hi)+min 0 (s-lo)
theorem Mj{lo hi s:Int}(h:lo<=hi):AS lo hi s=Ry lo hi s:=by
 unfold AS Ry;split
 .omega
 .split<;>omega
def aI.Ey(y:aI):Int:=if y.m=0 then 0 else y.h.tdiv y.m
def aI.Le(y:aI)(pU:Int):Int:=if pU=2 then y.m else if pU=3 then y.Ey else y.k
def vi(b:b9)(m:cq)(r:List (List aI)×List (List aI))(x:vL):Int :=
 if x.pU=1 then jG b m ((r.1[x.tick.toNat]?).getD []) x.idx.toNat else aI.Le (bL ((r.2[x.tick.toNat-1]?).getD []) x.idx.toNat) x.pU
def vh(b:b9)(yV:Int)(x:vL):Int :=
 if !bT x.pU 1 4 || (decide (x.lo < -10000000000) || (decide (x.hi<x.lo) || decide (10000000000<x.hi)))then 1
 else if !bT x.tick (if x.pU=1 then 0 else 1) yV || !bT x.idx 0 ((if x.pU=1 then b.size else b.ak.length)-1)then 2 else 0
def wR(b:b9)(yV:Int)(l:List vL):Int:=if 40<l.length then 3 else cA (vh b yV) l
structure Tv(b:b9)(n:Nat)(x:vL):Prop where
 pU:1<=x.pU/\x.pU<=4
 ends : -10000000000<=x.lo/\x.lo<=x.hi/\x.hi<=10000000000
 p:x.pU=1->(0<=x.tick/\x.tick<=n)/\0<=x.idx/\x.idx<b.size
 y:x.pU≠1->(1<=x.tick/\x.tick<=n)/\0<=x.idx/\x.idx<b.ak.length
theorem Tv.of{b:b9}{n:Nat}{x:vL}(h:vh b n x=0):Tv b n x:=by
 unfold vh at h;by_cases h3:x.pU=1
 .rw[if_pos h3,if_pos h3]at h;split at h
  .cases h
  .rename_i h1;simp only[bW,ao,cG,not_or,Bool.not_eq_false,aU]at h1;split at h
   .cases h
   .rename_i h2;simp only[bW,cG,not_or,Bool.not_eq_false,aU]at h2;exact⟨h1.1,by omega,λ_=>by omega,λh=>absurd h3 h⟩
 .rw[if_neg h3,if_neg h3]at h;split at h
  .cases h
  .rename_i h1;simp only[bW,ao,cG,not_or,Bool.not_eq_false,aU]at h1;split at h
   .cases h
   .rename_i h2;simp only[bW,cG,not_or,Bool.not_eq_false,aU]at h2;exact⟨h1.1,by omega,λh=>absurd h h3,λ_=>by omega⟩
end Go.aD
namespace Go.Proofs.YtklfdfnoebnciaaGreatDoor
open List(length_flatMap map_take)
open Go Go.az Go.aD
variable {J:SK}
theorem HG{f:eu}(h:f.valid=true):lim T (.call false 166 [.agg [.int .i64 f.x,.int .i64 f.y,.int .i64 f.z,.int .i64 f.k]] J)=some (.val (.int .i64 f.size) J):=by
 obtain⟨h1,h2,h3,h4,h5⟩:=eu.sU.1 h;exact FG h1 h2 h3
theorem Qv{f:eu}{bl wt:List Int}(hf:f.valid=true)(hl:bl.length<=9223372036854775807)(hw:bl.length=wt.length):∀(k i:Nat) (last:Int),i+k=bl.length ->
  WL T [3,4,9,30,31,32] false fL [(3,.aG wt.length (wt.flatMap aX)),(4,.bu [.int .i64 f.x,.int .i64 f.y,.int .i64 f.z,.int .i64 f.k]),(9,.int .i64 last),(30,.aG bl.length (bl.flatMap aX)),(31,.int .i64 bl.length),(32,.int .i64 i)] J
   (λx e J'=>J'=J/\if A8 f.size last (bl.drop i) (wt.drop i)then x=.exit 0 else x=.ret/\get e 8=.bool false)
 |0,i,last,hi=>by
  refine aJ fL.eq_1 ?_;have h1:¬i<bl.length:=by omega
  have h2:bl.drop i=[]:=aA (by omega);simp[-length_flatMap,-map_take,h1,h2,A8]
 |k+1,i,last,hi=>by
  refine aJ fL.eq_1 ?_;have h1:i<bl.length:=by omega
  have h1':i<wt.length:=by omega
  obtain⟨b,hb⟩:=gE h1;obtain⟨w,hw'⟩:∃r,wt[i]?=some r:=⟨_,aL h1'⟩;have h2:=pv hb;have h3:=pv hw';have h4:=eT h1 hl;have h5:=drop_at hb;have h6:=drop_at hw';have hB:=λJ=>HG (J:=J) hf
  have ih:=Qv hf hl hw k (i+1) b (by omega);rw[h5,h6,A8];by_cases c1:b<=last
  .simp[-length_flatMap,-map_take,h1,h1',h2,h3,h4,hB,ff,c1,show ¬last<b by omega]
  .by_cases c2:f.size<=b
   .simp[-length_flatMap,-map_take,h1,h1',h2,h3,h4,hB,ff,c1,c2,show last<b by omega,show ¬b<f.size by omega]
   .cases c3:bT w (-1000) 1000
    .simp[-length_flatMap,-map_take,h1,h1',h2,h3,h4,hB,ff,c1,c2,c3,show last<b by omega,show b<f.size by omega]
    .simp[-length_flatMap,-map_take,h1,h1',h2,h3,h4,hB,ff,c1,c2,c3,show last<b by omega,show b<f.size by omega];exact WL.to ih (by simp) rfl λx e J hh=>by simpa[show last<b by omega,show b<f.size by omega]using hh
theorem VZ{f:eu}{k:Int}{bl wt:List Int}(hf:f.valid=true)(hl:bl.length<=9223372036854775807)(hk:f.valid=true->True):
  lim T (.call false 170 [.agg [.int .i64 f.x,.int .i64 f.y,.int .i64 f.z,.int .i64 f.k],.int .i64 k,.aG bl.length (bl.flatMap aX),.aG wt.length (wt.flatMap aX)] J)=some (.val (.bool (G3 f k bl wt)) J):=by
 refine au Ce ni.eq_1 rfl ?_;obtain⟨q1,q2,q3,q4,q5⟩:=eu.sU.1 hf;have w1:=eF (n:=f.k-1);unfold G3;cases c1:bT k 0 (f.k-1)
 .simp[-length_flatMap,-map_take,ff,w1,c1]
 by_cases c2:1<=bl.length
 rotate_left
 .have:bl=[]:=bR.1 (by omega);subst this;simp[-length_flatMap,-map_take,ff,w1,c1]
 have c2':¬(bl.length:Int)<1:=by omega
 have c2'':¬bl=[]:=λh=>by rw[h]at c2;simp at c2
 by_cases c3:bl.length=wt.length
 rotate_left
 .simp[-length_flatMap,-map_take,ff,w1,c1,c2',c2'',c3,show ¬(bl.length:Int)=wt.length by omega]
 have c4:¬(wt.length:Int)<1:=by omega
 have c5:¬wt=[]:=λh=>by rw[h]at c3;simp at c3;exact c2'' c3
 simp[-length_flatMap,-map_take,ff,w1,c1,c2,c2',c2'',c3,c4,c5];refine WL.to (Qv (J:=[]::J) hf hl c3 bl.length 0 (-1) (by omega)) (by simp[c3]) rfl ?_;rintro x e J' ⟨rfl,h⟩;simp only[aK]at h;cases hc:A8 f.size (-1) bl wt
 .simp[hc]at h;simp[h]
 .simp[hc]at h;simp[-length_flatMap,-map_take,h];omega
theorem SV{lo hi:Int}:lim T (.call false 171 [.agg [.int .i64 lo,.int .i64 hi]] J)=some (.val (.bool (Gn lo hi)) J):=by
 refine au Cf nj.eq_1 rfl ?_;unfold Gn;by_cases c1 : -10000000000<=lo
 .by_cases c2:lo<=hi<;>simp[-length_flatMap,-map_take,c1,c2]
 .simp[-length_flatMap,-map_take,c1]
theorem HL{f:eu}{m:wY}(hf:f.valid=true)(hn:m.name.length<=1000000000)(hl:m.bl.length<=9223372036854775807):
  lim T (.call false 107 [.agg [.int .i64 f.x,.int .i64 f.y,.int .i64 f.z,.int .i64 f.k],.agg m.enc] J)=some (.val (.int .i64 (f.measure m)) J):=by
 refine au z8 km.eq_1 rfl ?_;have h1:=λJ=>Fo (J:=J) hn
 have h2:=λJ=>VZ (J:=J) (k:=m.kind) (wt:=m.wt) hf hl (λ_=>trivial)
 unfold eu.measure;cases c1:named m.name
 .simp[-length_flatMap,-map_take,h1,c1]
 cases c2:G3 f m.kind m.bl m.wt
 .simp[-length_flatMap,-map_take,h1,h2,c1,c2]
 cases c3:Gn m.lo m.hi<;>simp[-length_flatMap,-map_take,h1,h2,SV,c1,c2,c3]
theorem Zc{f:eu}{m:wY}(hf:f.valid=true)(hn:m.name.length<=1000000000)(hl:m.bl.length<=9223372036854775807):
  lim T (.call false 164 [.agg m.enc,.bu [.int .i64 f.x,.int .i64 f.y,.int .i64 f.z,.int .i64 f.k]] J)=some (.val (.dj [.str m.name,.int .i64 (f.measure m)]) J):=by
 refine au xX iC.eq_1 rfl ?_;have h:=λJ=>HL (J:=J) hf hn hl
 simp only[wY.enc]at h ⊢;simp[-length_flatMap,-map_take,h]
theorem T4{l:List wY}{j:Nat}{m:wY}(h:l[j]?=some m):((l.flatMap wY.enc).drop (j*6)).take 6=m.enc :=
 cf (f:=wY.enc) (w:=6) (λ_=>rfl) h
def Mz(l:List wY):Prop:=∀m∈l,m.name.length<=1000000000/\m.bl.length<=9223372036854775807
theorem M0{f:eu}{l:List wY}(hf:f.valid=true)(hs:Mz l)(hl:l.length<=1000000000):∀(k i:Nat) (met:List (List UInt8)),i+k=l.length ->
  WL T [1,5,11,12,13] false cX [(1,.fn 164 [] [.bu [.int .i64 f.x,.int .i64 f.y,.int .i64 f.z,.int .i64 f.k]]),(5,.kJ J.length 0),(11,.aG l.length (l.flatMap wY.enc)),(12,.int .i64 l.length),(13,.int .i64 i)] ([.cells 0 (BV met)]::J)
   (λx e J'=>∃s,J'=s::J/\if f.Df met (l.drop i)=0 then x=.exit 0 else x=.ret/\get e 4=.int .i64 (f.Df met (l.drop i)))
 |0,i,met,hi=>by
  refine aJ cX.eq_1 ?_;have h1:¬i<l.length:=by omega
  have h2:l.drop i=[]:=aA (by omega);simp[-length_flatMap,-map_take,h1,h2,eu.Df]
 |k+1,i,met,hi=>by
  refine aJ cX.eq_1 ?_;have h1:i<l.length:=by omega
  obtain⟨m,hm⟩:=gE h1;have h2:=T4 hm;have h4:=eT h1;have h5:=drop_at hm;obtain⟨hs1,hs2⟩:=hs m (ai hm);have hC:=λJ=>Zc (J:=J) hf hs1 hs2
  simp only[wY.enc]at h2 hC;rw[h5,eu.Df];by_cases hc1:f.measure m=0
  .have hg:=Vd (S:=[.cells 0 (BV met)]::J) (l:=J.length) (i:=0) (met:=met) (k:=m.name) (by simp);cases hc2:met.contains m.name
   .rw[hc2]at hg;have hp:=Ve (S:=[.cells 0 (BV met)]::J) (l:=J.length) (i:=0) (met:=met) (k:=m.name) (by simp) hc2;have ih:=M0 hf hs hl k (i+1) (met++[m.name]) (by omega);simp at hp;have hc3:¬m.name∈met:=by simpa using hc2
    simp[-length_flatMap,-map_take,h1,h2,h4,hC,hc1,hg,hp,hc3];exact WL.to ih (by simp) (by simp) λx e J' hh=>by simpa[hc1]using hh
   .rw[hc2]at hg;have hc3:m.name∈met:=by simpa using hc2
    simp[-length_flatMap,-map_take,h1,h2,h4,hC,hc1,hg,hc3]
  .simp[-length_flatMap,-map_take,h1,h2,h4,hC,hc1]
theorem SU{f:eu}{l:List wY}(hf:f.valid=true)(hs:Mz l)(hl:l.length<=1000000000):
  lim T (.call false 163 [.aG l.length (l.flatMap wY.enc),.fn 164 [] [.bu [.int .i64 f.x,.int .i64 f.y,.int .i64 f.z,.int .i64 f.k]]] J)=some (.val (.int .i64 (f.Df [] l)) J):=by
 refine au wo fM.eq_1 rfl ?_;have hm:Aj ([]::J) .make []=some (.kJ J.length 0,[.cells 0 (BV [])]::J):=by simp[Aj,BV]
 simp[-length_flatMap,-map_take,hm];refine WL.to (M0 (J:=J) hf hs hl l.length 0 [] (by omega)) (by simp) (by simp) ?_;rintro x e J' ⟨s,rfl,h⟩;simp only[aK]at h;by_cases hc:f.Df [] l=0
 .rw[if_pos hc]at h;subst h;simp[-length_flatMap,-map_take,hc]
 .rw[if_neg hc]at h;obtain⟨rfl,h⟩:=h;simp[h]
theorem Lz{f:eu}{l:List wY}(hf:f.valid=true)(hs:Mz l)(hl:l.length<=1000000000):
  lim T (.call false 103 [.agg [.int .i64 f.x,.int .i64 f.y,.int .i64 f.z,.int .i64 f.k],.aG l.length (l.flatMap wY.enc)] J)=some (.val (.int .i64 (f.Dw l)) J):=by
 refine au y9 jH.eq_1 rfl ?_;unfold eu.Dw;by_cases hc:12<l.length
 .simp[-length_flatMap,-map_take,hc,show(12:Int)<l.length by omega]
 .simp[-length_flatMap,-map_take,hc,show ¬(12:Int)<l.length by omega,SU hf hs hl]
end Go.Proofs.YtklfdfnoebnciaaGreatDoor
