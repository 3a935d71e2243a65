import Derived.Test.YtfgljaglidhjiaaGreatDoorTxt2
import Derived.Test.YtfgljaglidhjiaaGreatDoorTxt0
import Derived.Test.YtfgljaglidhjiaaGreatDoorTxt1
set_option linter.all false
namespace Go.Proofs.YtfgljaglidhjiaaGreatDoor
open List(length_flatMap map_take)
open Go Go.Abs Go.Rock Go.Book
variable {σ:SK}
theorem JM(l:List bJ):(l.flatMap bJ.enc).length=l.length*3:=cm (f:=bJ.enc) (w:=3) (fun _=>rfl) l
theorem Lr{bs:List Abs.aF}:bx T (.call true eK [.aG] (bs::σ))=some (.val (.sl σ.length (bs.length+1) 0 0 0 3) ((bs++[.cells 0 [],.cells 0 []])::σ)):=by
 refine wO rX gD.eq_1 rfl ?_;simp[-length_flatMap,-map_take]
theorem NI{bs:List Abs.aF}{l:List bJ}(hne:l≠[])(hl:l.length≤1000000):bx T (.call true eK [.aI l.length (l.flatMap bJ.enc)] (bs::σ)) =
  some (.val (.sl σ.length (bs.length+1) 1 0 l.length 3) ((bs++[.cells 0 [],.cells 1 (l.flatMap bJ.enc)])::σ)):=by
 refine wO rX gD.eq_1 rfl ?_;have h7:l.length*24≤room:=by unfold room;omega
 simp[-length_flatMap,-map_take,hne,JM,h7]
def wF(b:Bk)(x y z:Int):Bk:={b with bO:={b.bO with ar:=b.bO.ar++[⟨x,y,z⟩] } }
def zk(b:Bk)(x y z:Int):Bk×Int :=
 if b.ready=true∧b.av=[]then(if(wF b x y z).bO.valid=true then(wF b x y z,0)else(b,1))else(b,8)
theorem apM{F:List Abs.aF}{b:Bk}{er:List Int}{nm:List UInt8}{x y z:Int}{b':Bk}{e:Int}(ht:b.bO.cz≠[])(h1:b.bO.cz.length≤1000000000)(h2:b.bO.ar.length≤1000000)(hd:zk b x y z=(b',e))(he:e=0):
  bx T (.call false gk [.ref σ.length 6 0 0,.str nm,.aI 3 [.int .i64 x,.int .i64 y,.int .i64 z]] (F::b.bA σ.length er::σ))=some (.val (.dM []) (F::b'.bA σ.length er::σ)):=by
 refine gH wB kO.eq_1 rfl (by simp) ?_;unfold zk at hd;split at hd
 case isFalse=>cases hd;cases he
 rename_i h0;obtain⟨c1,c2⟩:=h0;split at hd
 case isFalse=>cases hd;cases he
 rename_i h3;cases hd;have hC:=fun σ=>Ab (σ:=σ) (b:=(wF b x y z).bO) (tq:=.aI b.bO.cz.length (b.bO.cz.flatMap Rw.enc)) (wq:=.aI (b.bO.ar.length+1) (b.bO.ar.flatMap bJ.enc++[.int .i64 x,.int .i64 y,.int .i64 z])) rfl (by simp[wF,D.wN]) h1 (by simp[wF];omega)
 rw[h3]at hC;simp only[wF]at hC;have hcl:(D.aI b.bO.cz.length (b.bO.cz.flatMap Rw.enc)).clean=true:=by simp[D.clean,cN]
 have hroom:(b.bO.ar.length+1)*24≤room:=by unfold room;omega
 have hlen:=JM b.bO.ar;have htake:(b.bO.ar.flatMap bJ.enc).take (b.bO.ar.length*3)=b.bO.ar.flatMap bJ.enc:=ak (by omega);have hcw:D.bC (b.bO.ar.flatMap bJ.enc++[.int .i64 x,.int .i64 y,.int .i64 z])=true:=by
  have:=bw (b.bO.ar++[⟨x,y,z⟩]);simpa using this
 have hfr:∀(v:Nat) (S:SK),S.length=σ.length+1+1→cG 0 16 (.sl (σ.length+1+1) 1 v 0 (b.bO.ar.length+1) 3) ([.cells 0 [],.cells v (b.bO.ar.flatMap bJ.enc++[.int .i64 x,.int .i64 y,.int .i64 z])]::S) =
   (.aI (b.bO.ar.length+1) (b.bO.ar.flatMap bJ.enc++[.int .i64 x,.int .i64 y,.int .i64 z]),[.cells 0 [],.dead]::S):=by
  intro v S hS;have:=Gl (f:=bJ.enc) (w:=3) (fun _=>rfl) (fun _=>by simp[D.clean]) (l:=b.bO.ar++[⟨x,y,z⟩]) (j:=1) (v:=v) (bs:=[Abs.aF.cells 0 [],.cells v (b.bO.ar.flatMap bJ.enc++[.int .i64 x,.int .i64 y,.int .i64 z])]) (σ:=S) (by intro h;subst h;simp at hS) (by simp);rw[hS]at this;simpa using this
 have h24:24≤room:=by unfold room;omega
 have hcw2:(D.aI (b.bO.ar.length+1) (b.bO.ar.flatMap bJ.enc++[.int .i64 x,.int .i64 y,.int .i64 z])).clean=true:=by simpa[D.clean]using hcw
 by_cases hw:b.bO.ar=[]
 ·have hfr':=hfr;simp only[hw,bG,dR,aX,cf]at hfr' hC;have ht':=eI (f:=Rw.enc) ht;simp only[nl]at ht';simp[-length_flatMap,-map_take,Bk.bA,Bk.cells,c1,c2,ht',hC,hw,nl,cH,oG,Lr,wF,hcl,h24,hfr']
 ·simp[-length_flatMap,-map_take,Bk.bA,Bk.cells,c1,c2,eI ht,eI hw,cH,oG,NI hw h2,wF,hcl,hroom,hlen,htake,hfr,hC,hcw2];simp[nl]
theorem V0{F:List Abs.aF}{b:Bk}{er:List Int}{nm:List UInt8}{x y z:Int}{b':Bk}{e:Int}(ht:b.ready=true→b.bO.cz≠[])(h1:b.bO.cz.length≤1000000000)(h2:b.bO.ar.length≤1000000)(hd:zk b x y z=(b',e))(he:e≠0):
  bx T (.call false gk [.ref σ.length 6 0 0,.str nm,.aI 3 [.int .i64 x,.int .i64 y,.int .i64 z]] (F::b.bA σ.length er::σ))=some (.fX (rf e) (F::b.bA σ.length er::σ)):=by
 refine eg wB kO.eq_1 rfl ?_;have hM:=fun σ=>pO (σ:=σ) (e:=1) (by decide)
 have hrc:(D.ud 311 (.agg [.int .i64 1])).clean=true:=rfl;unfold zk at hd;split at hd
 case isFalse h0 =>
  cases hd;cases c1:b.ready with
  |false=>simp[-length_flatMap,-map_take,Bk.bA,Bk.cells,c1,dI,D.clean,rf]
  |true =>
   have c2:b.av≠[]:=fun hh=>h0 ⟨c1,hh⟩
   have c2':((b.av.length:Int) == 0)=false:=by simpa using c2
   simp[-length_flatMap,-map_take,Bk.bA,Bk.cells,c1,c2',dI,D.clean,rf]
 rename_i h0;obtain⟨c1,c2⟩:=h0;have ht:=ht c1;split at hd
 case isTrue=>cases hd;exact absurd rfl he
 rename_i h3;cases hd;have h3':(wF b x y z).bO.valid=false:=by simpa using h3
 have hC:=fun σ=>Ab (σ:=σ) (b:=(wF b x y z).bO) (tq:=.aI b.bO.cz.length (b.bO.cz.flatMap Rw.enc)) (wq:=.aI (b.bO.ar.length+1) (b.bO.ar.flatMap bJ.enc++[.int .i64 x,.int .i64 y,.int .i64 z])) rfl (by simp[wF,D.wN]) h1 (by simp[wF];omega)
 rw[h3']at hC;simp only[wF]at hC;have hcl:(D.aI b.bO.cz.length (b.bO.cz.flatMap Rw.enc)).clean=true:=by simp[D.clean,cN]
 have hroom:(b.bO.ar.length+1)*24≤room:=by unfold room;omega
 have hlen:=JM b.bO.ar;have htake:(b.bO.ar.flatMap bJ.enc).take (b.bO.ar.length*3)=b.bO.ar.flatMap bJ.enc:=ak (by omega);have hcw:D.bC (b.bO.ar.flatMap bJ.enc++[.int .i64 x,.int .i64 y,.int .i64 z])=true:=by
  have:=bw (b.bO.ar++[⟨x,y,z⟩]);simpa using this
 have hfr:∀(v:Nat) (S:SK),S.length=σ.length+1+1→cG 0 16 (.sl (σ.length+1+1) 1 v 0 (b.bO.ar.length+1) 3) ([.cells 0 [],.cells v (b.bO.ar.flatMap bJ.enc++[.int .i64 x,.int .i64 y,.int .i64 z])]::S) =
   (.aI (b.bO.ar.length+1) (b.bO.ar.flatMap bJ.enc++[.int .i64 x,.int .i64 y,.int .i64 z]),[.cells 0 [],.dead]::S):=by
  intro v S hS;have:=Gl (f:=bJ.enc) (w:=3) (fun _=>rfl) (fun _=>by simp[D.clean]) (l:=b.bO.ar++[⟨x,y,z⟩]) (j:=1) (v:=v) (bs:=[Abs.aF.cells 0 [],.cells v (b.bO.ar.flatMap bJ.enc++[.int .i64 x,.int .i64 y,.int .i64 z])]) (σ:=S) (by intro h;subst h;simp at hS) (by simp);rw[hS]at this;simpa using this
 have h24:24≤room:=by unfold room;omega
 have hcw2:(D.aI (b.bO.ar.length+1) (b.bO.ar.flatMap bJ.enc++[.int .i64 x,.int .i64 y,.int .i64 z])).clean=true:=by simpa[D.clean]using hcw
 by_cases hw:b.bO.ar=[]
 ·have hfr':=hfr;simp only[hw,bG,dR,aX,cf]at hfr' hC;have ht':=eI (f:=Rw.enc) ht;simp only[nl]at ht';simp[-length_flatMap,-map_take,Bk.bA,Bk.cells,c1,c2,ht',hC,hw,nl,cH,hM,Lr,wF,hcl,h24,hfr',rf,hrc]
 ·simp[-length_flatMap,-map_take,Bk.bA,Bk.cells,c1,c2,eI ht,eI hw,cH,hM,NI hw h2,wF,hcl,hroom,hlen,htake,hfr,hC,hcw2,rf,hrc]
theorem ahG(l:List Rw):(l.flatMap Rw.enc).length=l.length*5:=cm (f:=Rw.enc) (w:=5) (fun _=>rfl) l
theorem PW{bp:D}(hb1:bp.calm=bp):∀(rs acc:List Rw),acc.length+rs.length≤1000000 →
  WL T [0,2,6] false kg [(0,bp),(2,.aI (rs.length*5) (rs.flatMap Rw.enc)),(6,.sl σ.length 0 acc.length 0 acc.length 5)] ([.cells acc.length (acc.flatMap Rw.enc)]::σ)
   (fun x e σ'=>x=.exit 0∧get e 0=bp∧get e 6=.sl σ.length 0 (acc++rs).length 0 (acc++rs).length 5∧σ'=[.cells (acc++rs).length ((acc++rs).flatMap Rw.enc)]::σ)
 |[],acc,h=>by
  refine aO kg.eq_1 ?_;simp[-length_flatMap,-map_take,hb1]
 |r::rs,acc,h=>by
  refine aO kg.eq_1 ?_;simp only[aL]at h;have e1:(rs.length+1)*5=rs.length*5+5:=by omega
  have q0:(0:Int)<(rs.length:Int)*5+5:=by omega
  have q1:(1:Int)<(rs.length:Int)*5+5:=by omega
  have q2:(2:Int)<(rs.length:Int)*5+5:=by omega
  have q3:(3:Int)<(rs.length:Int)*5+5:=by omega
  have q4:(4:Int)<(rs.length:Int)*5+5:=by omega
  have q5:(5:Int)≤(rs.length:Int)*5+5:=by omega
  have hroom:(acc.length+1)*40≤room:=by unfold room;omega
  have hl:=ahG acc;have ht:(acc.flatMap Rw.enc).take (acc.length*5)=acc.flatMap Rw.enc:=ak (by omega);have hl2:=ahG rs;have ht2:(rs.flatMap Rw.enc).take (rs.length*5)=rs.flatMap Rw.enc:=ak (by omega);simp[-length_flatMap,-map_take,hb1,e1,q0,q1,q2,q3,q4,q5,hroom,hl,ht];refine WL.to (PW hb1 rs (acc++[r]) (by simp;omega)) (by simp[ht2]) (by simp) fun x e σ' hh=>?_
  simpa using hh
def QX(b:Bk)(t:List Rw):Bk:={b with bO:={b.bO with cz:=t } }
def ym(b:Bk)(t:List Rw):Bk×Int:=if b.bO.cz=[]then(if kE t=true then(QX b t,0)else(b,1))else(b,8)
theorem aiG{F:List Abs.aF}{b:Bk}{er:List Int}{nm:List UInt8}{t:List Rw}{b':Bk}{e:Int}(hl:t.length≤1000000)(hd:ym b t=(b',e))(he:e=0):
  bx T (.call false fB [.ref σ.length 6 0 0,.str nm,.aI (t.length*5) (t.flatMap Rw.enc)] (F::b.bA σ.length er::σ))=some (.val (.dM []) (F::b'.bA σ.length er::σ)):=by
 refine gH vD jZ.eq_1 rfl (by simp) ?_;unfold ym at hd;split at hd
 case isFalse=>cases hd;cases he
 rename_i h0;split at hd
 case isFalse=>cases hd;cases he
 rename_i h3;cases hd;have hne:t≠[]:=by intro h;subst h;simp[kE,cA]at h3
 have hC:=fun σ=>Ac (σ:=σ) (l:=t) (by omega)
 rw[h3]at hC;have hL:=PW (σ:=F::b.bA σ.length er::σ) (bp:=.ref σ.length 6 0 0) rfl t [] (by simpa using hl);simp[-length_flatMap,-map_take,Bk.bA,Bk.cells,h0,nl,cH];refine WL.to hL (by simp) (by simp[Bk.bA,Bk.cells,h0,nl]) ?_;rintro x e σ' ⟨rfl,g0,g6,rfl⟩;have hcl:(D.aI t.length (t.flatMap Rw.enc)).clean=true:=by simp[D.clean,cN]
 have hfr:∀S:SK,S.length=σ.length+1+1→cG 0 16 (.sl (σ.length+1+1) 0 t.length 0 t.length 5) ([.cells t.length (t.flatMap Rw.enc)]::S)=(.aI t.length (t.flatMap Rw.enc),[.dead]::S):=by
  intro S hS;have:=Gl (f:=Rw.enc) (w:=5) (fun _=>rfl) (fun _=>by simp[D.clean]) (l:=t) (j:=0) (v:=t.length) (bs:=[Abs.aF.cells t.length (t.flatMap Rw.enc)]) (σ:=S) (by intro h;subst h;simp at hS) (by simp);rw[hS]at this;simpa using this
 simp[-length_flatMap,-map_take,g0,g6,hfr,hC,oG,hcl,Bk.bA,Bk.cells,h0,nl,hne,QX];exact⟨rfl,rfl⟩
theorem Ug{F:List Abs.aF}{b:Bk}{er:List Int}{nm:List UInt8}{t:List Rw}{b':Bk}{e:Int}(hl:t.length≤1000000)(hd:ym b t=(b',e))(he:e≠0):
  bx T (.call false fB [.ref σ.length 6 0 0,.str nm,.aI (t.length*5) (t.flatMap Rw.enc)] (F::b.bA σ.length er::σ))=some (.fX (rf e) (F::b.bA σ.length er::σ)):=by
 refine eg vD jZ.eq_1 rfl ?_;have hM:=fun σ=>pO (σ:=σ) (e:=1) (by decide)
 have hrc:(D.ud 311 (.agg [.int .i64 1])).clean=true:=rfl;unfold ym at hd;split at hd
 case isFalse h0 =>
  cases hd;have h0':((b.bO.cz.length:Int) == 0)=false:=by simpa using h0
  simp[-length_flatMap,-map_take,Bk.bA,Bk.cells,eI h0,h0',dI,D.clean,rf]
 rename_i h0;split at hd
 case isTrue=>cases hd;exact absurd rfl he
 rename_i h3;cases hd;have h3':kE t=false:=by simpa using h3
 have hC:=fun σ=>Ac (σ:=σ) (l:=t) (by omega)
 rw[h3']at hC;have hL:=PW (σ:=F::b.bA σ.length er::σ) (bp:=.ref σ.length 6 0 0) rfl t [] (by simpa using hl);simp[-length_flatMap,-map_take,Bk.bA,Bk.cells,h0,nl,cH];refine WL.to hL (by simp) (by simp[Bk.bA,Bk.cells,h0,nl]) ?_;rintro x e σ' ⟨rfl,g0,g6,rfl⟩;have hcl:(D.aI t.length (t.flatMap Rw.enc)).clean=true:=by simp[D.clean,cN]
 have hfr:∀S:SK,S.length=σ.length+1+1→cG 0 16 (.sl (σ.length+1+1) 0 t.length 0 t.length 5) ([.cells t.length (t.flatMap Rw.enc)]::S)=(.aI t.length (t.flatMap Rw.enc),[.dead]::S):=by
  intro S hS;have:=Gl (f:=Rw.enc) (w:=5) (fun _=>rfl) (fun _=>by simp[D.clean]) (l:=t) (j:=0) (v:=t.length) (bs:=[Abs.aF.cells t.length (t.flatMap Rw.enc)]) (σ:=S) (by intro h;subst h;simp at hS) (by simp);rw[hS]at this;simpa using this
 simp[-length_flatMap,-map_take,g0,g6,hfr,hC,hM,hcl,Bk.bA,Bk.cells,h0,nl,rf,hrc]
@[simp] theorem aAh{α:Type}{f:α→List D}{l:List α}:ag7 (nl f l)=some (.int .i64 l.length):=by
 unfold nl;split
 ·rename_i h;subst h;rfl
 ·rfl
@[simp] theorem azg{α:Type}{f:α→List D}{l:List α}:(nl f l).strip=nl f l:=by unfold nl;split<;>rfl
theorem ND{x:Trem.Ev}(hs:x.sp.length≤9223372036854775807):bx T (.call false fF [.aG,.aI 1 x.enc,.int .i64 0] σ)=some (.val (.dM [.int .u8 0,.int .u8 0,.int .i64 (if x.ok then 0 else 1)]) σ):=by
 refine aA tB lQ.eq_1 rfl ?_;have hA:=fun σ=>@NG σ [x] (by simp) (by simpa using hs)
 have hN:=fun σ=>all_nil (T:=T) (σ:=σ) (fv:=.fn eN [] []) (f:=dE) (ag:=true) (w:=10) rfl rfl rfl rfl rfl rfl
 simp only[List.length_singleton,aZ,dR,dO,fV,jL,List.all_nil,Bool.and_true]at hA;have w0:Trem.cA 0 0 1000000=true:=by decide
 cases hr:x.ok
 ·rw[hr]at hA;simp only[Trem.Ev.enc]at hA ⊢;simp[-length_flatMap,-map_take,hA,hN]
 ·rw[hr]at hA;simp only[Trem.Ev.enc]at hA ⊢;simp[-length_flatMap,-map_take,hA,hN,fq,w0];refine aO dC.eq_1 ?_;simp[-length_flatMap,-map_take]
def spD(L:Nat)(acc:List Trem.wJ):D:=.sl L 0 acc.length 0 acc.length 4
def spS(acc:List Trem.wJ):List Abs.aF:=[.cells acc.length (acc.flatMap Trem.wJ.enc)]
theorem TR(l:List Trem.wJ):(l.flatMap Trem.wJ.enc).length=l.length*4:=cm (f:=Trem.wJ.enc) (w:=4) (fun _=>rfl) l
theorem Mt{bp:D}(hb1:bp.calm=bp){tk:Int}:∀(rs acc:List Trem.wJ),acc.length+rs.length≤1000000 →
  WL T [0,2,6] false ke [(0,bp),(2,.aI (rs.length*4) (rs.flatMap Trem.wJ.enc)),(6,.own 0 [.int .i64 tk,spD σ.length acc])] (spS acc::σ)
   (fun x e σ'=>x=.exit 0∧get e 0=bp∧get e 6=.own 0 [.int .i64 tk,spD σ.length (acc++rs)]∧get e 1000006=.undef∧σ'=spS (acc++rs)::σ)
 |[],acc,h=>by
  refine aO ke.eq_1 ?_;simp[-length_flatMap,-map_take,hb1]
 |r::rs,acc,h=>by
  refine aO ke.eq_1 ?_;simp only[aL]at h;have e1:(rs.length+1)*4=rs.length*4+4:=by omega
  have q0:(0:Int)<(rs.length:Int)*4+4:=by omega
  have q1:(1:Int)<(rs.length:Int)*4+4:=by omega
  have q2:(2:Int)<(rs.length:Int)*4+4:=by omega
  have q3:(3:Int)<(rs.length:Int)*4+4:=by omega
  have q4:(4:Int)≤(rs.length:Int)*4+4:=by omega
  have hroom:(acc.length+1)*32≤room:=by unfold room;omega
  have h32:32≤room:=by unfold room;omega
  have hl:=TR acc;have ht:(acc.flatMap Trem.wJ.enc).take (acc.length*4)=acc.flatMap Trem.wJ.enc:=ak (by omega);have hl2:=TR rs;have ht2:(rs.flatMap Trem.wJ.enc).take (rs.length*4)=rs.flatMap Trem.wJ.enc:=ak (by omega);simp[-length_flatMap,-map_take,hb1,e1,q0,q1,q2,q3,q4,hroom,hl,ht,spD,spS];refine WL.to (Mt hb1 (tk:=tk) rs (acc++[r]) (by simp;omega)) (by simp[ht2,spD,spS]) (by simp[spS]) fun x e σ' hh=>?_
  simpa[spD,spS]using hh
def Nd(b:Bk)(x:Trem.Ev):Bk:={b with wY:=b.wY++[x] }
def yk(b:Bk)(sp:List Trem.wJ):Bk×Int:=if b.wY.length<200 then(if Trem.Ev.ok ⟨b.aw.length,sp⟩=true then(Nd b ⟨b.aw.length,sp⟩,0)else(b,1))else(b,3)
theorem aqk(l:List Trem.Ev):(l.flatMap Trem.Ev.enc).length=l.length*2:=cm (f:=Trem.Ev.enc) (w:=2) (fun _=>rfl) l
theorem agO{S:SK}{L:Nat}(hS:S.length=L)(hL:0<L){sp:List Trem.wJ}{tk:Int}:cG.frzL (cG 0 16) [.int .i64 tk,spD L sp] (spS sp::S)=([.int .i64 tk,.aI sp.length (sp.flatMap Trem.wJ.enc)],[.dead]::S):=by
 have hf:=Gl (f:=Trem.wJ.enc) (w:=4) (fun _=>rfl) (fun _=>by simp[D.clean]) (l:=sp) (j:=0) (v:=sp.length) (bs:=[Abs.aF.cells sp.length (sp.flatMap Trem.wJ.enc)]) (σ:=S) (by intro h;subst h;simp at hS;omega) (by simp);rw[hS]at hf;simp[spD,spS,hf]
theorem aix{F:List Abs.aF}{b:Bk}{er:List Int}{nm:List UInt8}{sp:List Trem.wJ}{b':Bk}{e:Int}(hl:sp.length≤1000000)(hd:yk b sp=(b',e))(he:e=0):
  bx T (.call false fA [.ref σ.length 6 0 0,.str nm,.aI (sp.length*4) (sp.flatMap Trem.wJ.enc)] (F::b.bA σ.length er::σ))=some (.val (.dM []) (F::b'.bA σ.length er::σ)):=by
 refine gH vC jY.eq_1 rfl (by simp) ?_;unfold yk at hd;split at hd
 case isFalse=>cases hd;cases he
 rename_i h1;split at hd
 case isFalse=>cases hd;cases he
 rename_i h2;cases hd;have h1':(b.wY.length:Int)<200:=by omega
 have hC:=fun σ=>ND (σ:=σ) (x:=⟨b.aw.length,sp⟩) (by simp;omega)
 simp only[h2,if_true,Trem.Ev.enc]at hC;have hL:=Mt (σ:=F::b.bA σ.length er::σ) (bp:=.ref σ.length 6 0 0) rfl (tk:=b.aw.length) sp [] (by simpa using hl);have hne:sp≠[]:=by
  intro hh;subst hh;simp[Trem.Ev.ok,Trem.cA]at h2
 simp[-length_flatMap,-map_take,Bk.bA,Bk.cells,h1',cH];refine WL.to hL (by simp[spD]) (by simp[Bk.bA,Bk.cells,spS]) ?_;rintro x e σ' ⟨rfl,g0,g6,gu,rfl⟩;have hf:=fun S hS=>agO (S:=S) (L:=σ.length+1+1) hS (by omega) (sp:=sp) (tk:=b.aw.length)
 have w2:(b.wY.length+1)*32≤room:=by unfold room;omega
 have w3:=aqk b.wY;have w4:(b.wY.flatMap Trem.Ev.enc).take (b.wY.length*2)=b.wY.flatMap Trem.Ev.enc:=ak (by omega);have hcl:D.bC (sp.flatMap Trem.wJ.enc)=true:=ia (fun _=>by simp[D.clean]) sp;simp only[aX]at g6;simp[-length_flatMap,-map_take,g0,g6,gu,hf,hC,oG,Bk.bA,Bk.cells,Nd,w2,w3,w4,hcl]
theorem Ub{F:List Abs.aF}{b:Bk}{er:List Int}{nm:List UInt8}{sp:List Trem.wJ}{b':Bk}{e:Int}(hl:sp.length≤1000000)(hd:yk b sp=(b',e))(he:e≠0):
  bx T (.call false fA [.ref σ.length 6 0 0,.str nm,.aI (sp.length*4) (sp.flatMap Trem.wJ.enc)] (F::b.bA σ.length er::σ))=some (.fX (rf e) (F::b.bA σ.length er::σ)):=by
 refine eg vC jY.eq_1 rfl ?_;have hM:=fun σ=>pO (σ:=σ) (e:=1) (by decide)
 have hrc:(D.ud 311 (.agg [.int .i64 1])).clean=true:=rfl;unfold yk at hd;split at hd
 case isFalse h1 =>
  cases hd;have h1':¬(b.wY.length:Int)<200:=by omega
  simp[-length_flatMap,-map_take,Bk.bA,Bk.cells,h1',dI,D.clean,rf]
 rename_i h1;split at hd
 case isTrue=>cases hd;exact absurd rfl he
 rename_i h2;cases hd;have h1':(b.wY.length:Int)<200:=by omega
 have h2':Trem.Ev.ok ⟨b.aw.length,sp⟩=false:=by simpa using h2
 have hC:=fun σ=>ND (σ:=σ) (x:=⟨b.aw.length,sp⟩) (by simp;omega)
 simp only[h2',Trem.Ev.enc]at hC;have hL:=Mt (σ:=F::b.bA σ.length er::σ) (bp:=.ref σ.length 6 0 0) rfl (tk:=b.aw.length) sp [] (by simpa using hl);simp[-length_flatMap,-map_take,Bk.bA,Bk.cells,h1',cH];refine WL.to hL (by simp[spD]) (by simp[Bk.bA,Bk.cells,spS]) ?_;rintro x e σ' ⟨rfl,g0,g6,gu,rfl⟩;have hf:=fun S hS=>agO (S:=S) (L:=σ.length+1+1) hS (by omega) (sp:=sp) (tk:=b.aw.length)
 have hcl:D.bC (sp.flatMap Trem.wJ.enc)=true:=ia (fun _=>by simp[D.clean]) sp;simp only[aX]at g6;simp[-length_flatMap,-map_take,g0,g6,gu,hf,hC,hM,Bk.bA,Bk.cells,hcl,rf,hrc]
theorem CY{a b c:Int}:bx T (.call false j4 [.int .i64 a,.int .i64 b,.int .i64 c] σ)=some (.val (.bool (cA a b c)) σ):=by
 refine aA Jo tO.eq_1 rfl ?_;by_cases h:b≤a<;>simp[-length_flatMap,-map_take,h,cA]
theorem Uh{p:Prt}{last:Int}:bx T (.call false ec [.agg p.enc,.ref σ.length 0 0 0] ([]::[]::[]::[]::[.cells 0 [.int .i64 last]]::σ))=some (.val (.bool (p.ok last)) ([]::[]::[]::[]::[.cells 0 [.int .i64 p.wj]]::σ)):=by
 refine gH BW mV.eq_1 rfl (by simp) ?_;cases h:cA p.wj 0 last<;>simp[-length_flatMap,-map_take,CY,h,Prt.ok]
theorem NR{u:y7}(hl:u.parts.length≤1000000000):bx T (.call false jw [.agg u.enc] σ)=some (.val (.bool u.ok) σ):=by
 refine aA Eo oM.eq_1 rfl ?_;have hA:=MH (xq 2 Prt.enc (fun _=>rfl)) (T:=T) (S:=fun i=>[.cells 0 [.int .i64 (wo u.parts i)]]::σ) (fv:=.fn ec [] [.ref σ.length 0 0 0]) (l:=u.parts) (p:=Ee u.parts)
  (f:=iB) (g:=jR) (h:=eV) (i:=gn) rfl rfl rfl rfl (by omega) rfl rfl rfl (fun _=>rfl) (fun i x hx=>by
   rw[sc];have h:=Uh (σ:=σ) (p:=x) (last:=wo u.parts i);have e1:wo u.parts (i+1)=x.wj:=by simp[wo,hx]
   have e2:Ee u.parts i=x.ok (wo u.parts i):=by simp[Ee,hx]
   have h':bx T (.call false ec ([]++[(xq 2 Prt.enc (fun _=>rfl)).val x]++[.ref σ.length 0 0 0]) ([]::[]::[]::[]::[.cells 0 [.int .i64 (wo u.parts i)]]::σ))=_:=h;rw[h',e1,e2];rfl)
 have hb:(!(pC (fun i => !Ee u.parts i) 0 u.parts.length).1)=zl 1000 u.parts:=by
  have h1:=Dl (q:=fun i => !Ee u.parts i) (m:=u.parts.length) (i:=0);have h2:=Uz (l:=u.parts);cases hf:zl 1000 u.parts
  ·cases hs:(pC (fun i => !Ee u.parts i) 0 u.parts.length).1
   ·have h3:=h1.1 hs;have h4:=h2.2 fun j hj=>by simpa using h3 j hj
    rw[hf]at h4;cases h4
   ·rfl
  ·have h3:=h2.1 hf;have h4:=h1.2 fun j hj=>by simp[h3 j hj]
   rw[h4];rfl
 rw[hb]at hA;have e0:wo u.parts 0=1000:=rfl;have hA':bx T (.call false iB [.aI u.parts.length (u.parts.flatMap Prt.enc),.fn ec [] [.ref σ.length 0 0 0]] ([.cells 0 [.int .i64 1000]]::σ))=_:=hA;cases h1:cA u.Gh 0 5
 ·simp[-length_flatMap,-map_take,CY,h1,y7.ok]
 cases h2:cA u.parts.length 1 8
 ·simp[-length_flatMap,-map_take,CY,h1,h2,y7.ok]
 simp[-length_flatMap,-map_take,CY,h1,h2,y7.ok,hA']
theorem HV{u:y7}(hl:u.parts.length≤1000000000):bx T (.call false nj [.agg u.enc] σ)=some (.val (.int .i64 (if u.ok then 0 else 1)) σ):=by
 refine aA Fx pR.eq_1 rfl ?_;have hC:=fun σ=>NR (σ:=σ) hl
 simp only[y7.enc]at hC ⊢;cases hc:u.ok<;>rw[hc]at hC<;>simp[-length_flatMap,-map_take,hC]
def ptD(L:Nat)(acc:List Prt):D:=.sl L 0 acc.length 0 acc.length 2
def ptS(acc:List Prt):List Abs.aF:=[.cells acc.length (acc.flatMap Prt.enc)]
theorem I2(l:List Prt):(l.flatMap Prt.enc).length=l.length*2:=cm (f:=Prt.enc) (w:=2) (fun _=>rfl) l
theorem Mp{bp:D}(hb1:bp.calm=bp){tk:Int}:∀(rs acc:List Prt),acc.length+rs.length≤1000000 →
  WL T [0,2,6] false lg [(0,bp),(2,.aI (rs.length*2) (rs.flatMap Prt.enc)),(6,.own 0 [.int .i64 tk,ptD σ.length acc])] (ptS acc::σ)
   (fun x e σ'=>x=.exit 0∧get e 0=bp∧get e 6=.own 0 [.int .i64 tk,ptD σ.length (acc++rs)]∧get e 1000006=.undef∧σ'=ptS (acc++rs)::σ)
 |[],acc,h=>by
  refine aO lg.eq_1 ?_;simp[-length_flatMap,-map_take,hb1]
 |r::rs,acc,h=>by
  refine aO lg.eq_1 ?_;simp only[aL]at h;have e1:(rs.length+1)*2=rs.length*2+2:=by omega
  have q0:(0:Int)<(rs.length:Int)*2+2:=by omega
  have q1:(1:Int)<(rs.length:Int)*2+2:=by omega
  have q2:(2:Int)≤(rs.length:Int)*2+2:=by omega
  have hroom:(acc.length+1)*16≤room:=by unfold room;omega
  have h32:16≤room:=by unfold room;omega
  have hl:=I2 acc;have ht:(acc.flatMap Prt.enc).take (acc.length*2)=acc.flatMap Prt.enc:=ak (by omega);have hl2:=I2 rs;have ht2:(rs.flatMap Prt.enc).take (rs.length*2)=rs.flatMap Prt.enc:=ak (by omega);simp[-length_flatMap,-map_take,hb1,e1,q0,q1,q2,hroom,hl,ht,ptD,ptS];refine WL.to (Mp hb1 (tk:=tk) rs (acc++[r]) (by simp;omega)) (by simp[ht2,ptD,ptS]) (by simp[ptS]) fun x e σ' hh=>?_
  simpa[ptD,ptS]using hh
def TZ(b:Bk)(u:y7):Bk:={b with fg:=b.fg++[u] }
def Ct(b:Bk)(u:y7):Bk×Int:=if b.fg.length<10 then(if u.ok=true then(TZ b u,0)else(b,1))else(b,3)
theorem T0(l:List y7):(l.flatMap y7.enc).length=l.length*2:=cm (f:=y7.enc) (w:=2) (fun _=>rfl) l
theorem agN{S:SK}{L:Nat}(hS:S.length=L)(hL:0<L){pt:List Prt}{tk:Int}:cG.frzL (cG 0 16) [.int .i64 tk,ptD L pt] (ptS pt::S)=([.int .i64 tk,.aI pt.length (pt.flatMap Prt.enc)],[.dead]::S):=by
 have hf:=Gl (f:=Prt.enc) (w:=2) (fun _=>rfl) (fun _=>by simp[D.clean]) (l:=pt) (j:=0) (v:=pt.length) (bs:=[Abs.aF.cells pt.length (pt.flatMap Prt.enc)]) (σ:=S) (by intro h;subst h;simp at hS;omega) (by simp);rw[hS]at hf;simp[ptD,ptS,hf]
theorem AD{l:List Prt}:D.bC (l.flatMap Prt.enc)=true:=ia (fun _=>by simp[D.clean]) l
theorem apJ{F:List Abs.aF}{b:Bk}{er:List Int}{nm:List UInt8}{u:y7}{b':Bk}{e:Int}(hl:u.parts.length≤1000000)(hd:Ct b u=(b',e))(he:e=0):
  bx T (.call false gj [.ref σ.length 6 0 0,.str nm,.aI (u.parts.length*2+1) (.int .i64 u.Gh::u.parts.flatMap Prt.enc)] (F::b.bA σ.length er::σ))=some (.val (.dM []) (F::b'.bA σ.length er::σ)):=by
 refine gH wA kN.eq_1 rfl (by simp) ?_;unfold Ct at hd;split at hd
 case isFalse=>cases hd;cases he
 rename_i h1;split at hd
 case isFalse=>cases hd;cases he
 rename_i h2;cases hd;have h1':(b.fg.length:Int)<10:=by omega
 have hC:=fun σ=>HV (σ:=σ) (u:=u) (by omega)
 simp only[h2,if_true,y7.enc]at hC;have hL:=Mp (σ:=F::b.bA σ.length er::σ) (bp:=.ref σ.length 6 0 0) rfl (tk:=u.Gh) u.parts [] (by simpa using hl);have hne:u.parts≠[]:=by
  intro hh;simp[y7.ok,cA,hh]at h2
 have q0:(0:Int)<(u.parts.length:Int)*2+1:=by omega
 have q1:(1:Int)≤(u.parts.length:Int)*2+1:=by omega
 have hlp:=I2 u.parts;have htp:(u.parts.flatMap Prt.enc).take (u.parts.length*2)=u.parts.flatMap Prt.enc:=ak (by omega);simp[-length_flatMap,-map_take,Bk.bA,Bk.cells,h1',cH,q0,q1];refine WL.to hL (by simp[ptD,htp]) (by simp[Bk.bA,Bk.cells,ptS]) ?_;rintro x e σ' ⟨rfl,g0,g6,gu,rfl⟩;have hf:=fun S hS=>agN (S:=S) (L:=σ.length+1+1) hS (by omega) (pt:=u.parts) (tk:=u.Gh)
 have w2:(b.fg.length+1)*32≤room:=by unfold room;omega
 have w3:=T0 b.fg;have w4:(b.fg.flatMap y7.enc).take (b.fg.length*2)=b.fg.flatMap y7.enc:=ak (by omega);simp only[aX]at g6;simp[-length_flatMap,-map_take,g0,g6,gu,hf,hC,oG,Bk.bA,Bk.cells,TZ,w2,w3,w4,AD]
theorem VX{F:List Abs.aF}{b:Bk}{er:List Int}{nm:List UInt8}{u:y7}{b':Bk}{e:Int}(hl:u.parts.length≤1000000)(hd:Ct b u=(b',e))(he:e≠0):
  bx T (.call false gj [.ref σ.length 6 0 0,.str nm,.aI (u.parts.length*2+1) (.int .i64 u.Gh::u.parts.flatMap Prt.enc)] (F::b.bA σ.length er::σ))=some (.fX (rf e) (F::b.bA σ.length er::σ)):=by
 refine eg wA kN.eq_1 rfl ?_;have hM:=fun σ=>pO (σ:=σ) (e:=1) (by decide)
 have hrc:(D.ud 311 (.agg [.int .i64 1])).clean=true:=rfl;unfold Ct at hd;split at hd
 case isFalse h1 =>
  cases hd;have h1':¬(b.fg.length:Int)<10:=by omega
  simp[-length_flatMap,-map_take,Bk.bA,Bk.cells,h1',dI,D.clean,rf]
 rename_i h1;split at hd
 case isTrue=>cases hd;exact absurd rfl he
 rename_i h2;cases hd;have h1':(b.fg.length:Int)<10:=by omega
 have h2':u.ok=false:=by simpa using h2
 have hC:=fun σ=>HV (σ:=σ) (u:=u) (by omega)
 simp only[h2',y7.enc]at hC;have hL:=Mp (σ:=F::b.bA σ.length er::σ) (bp:=.ref σ.length 6 0 0) rfl (tk:=u.Gh) u.parts [] (by simpa using hl);have q0:(0:Int)<(u.parts.length:Int)*2+1:=by omega
 have q1:(1:Int)≤(u.parts.length:Int)*2+1:=by omega
 have hlp:=I2 u.parts;have htp:(u.parts.flatMap Prt.enc).take (u.parts.length*2)=u.parts.flatMap Prt.enc:=ak (by omega);simp[-length_flatMap,-map_take,Bk.bA,Bk.cells,h1',cH,q0,q1];refine WL.to hL (by simp[ptD,htp]) (by simp[Bk.bA,Bk.cells,ptS]) ?_;rintro x e σ' ⟨rfl,g0,g6,gu,rfl⟩;have hf:=fun S hS=>agN (S:=S) (L:=σ.length+1+1) hS (by omega) (pt:=u.parts) (tk:=u.Gh)
 simp only[aX]at g6;simp[-length_flatMap,-map_take,g0,g6,gu,hf,hC,hM,Bk.bA,Bk.cells,AD,rf,hrc]
def zu(b:cC)(m:cU):D:=if Bd b m then Vs (dY b m)else .aG
theorem Og{b:cC}{m:cU}:(zu b m).clean=true:=by
 unfold zu;split
 ·simp[Vs,ia (f:=Rock.aF.enc) (fun _=>by simp[D.clean])]
 ·simp
theorem Pn{b:cC}{m:cU}:(zu b m).strip=zu b m:=by unfold zu;split<;>rfl
theorem Ob{b:cC}{m:cU}:(zu b m).calm=zu b m:=by unfold zu;split<;>rfl
theorem Q3{b:cC}{m:cU}{tq wq:D}(htq:tq.wN=.aI b.cz.length (b.cz.flatMap Rw.enc))(hwq:wq.wN=.aI b.ar.length (b.ar.flatMap bJ.enc))(h1:b.cz.length≤1000000000)(h2:b.ar.length≤1000000000)(hn:m.name.length≤1000000000)(hl:m.bu.length≤1000000000)(hσ:σ≠[]):
  bx T (.call false tZ [.agg [.int .i64 b.f.x,.int .i64 b.f.y,.int .i64 b.f.z,.int .i64 b.f.k,tq,.int .i64 b.bL,.int .i64 b.lift,.int .i64 b.deep,wq],.agg [.str m.name,.aI m.bu.length (m.bu.flatMap aT)]] σ)=some (.val (.dM [zu b m,.int .i64 (if Bd b m then 0 else 1)]) σ):=by
 unfold zu;cases hb:Bd b m
 ·refine aA FC tP.eq_1 rfl ?_;obtain⟨d,hd,hd1,hd2⟩:=Q4 (σ:=[]::σ) h1 h2 hn hl hb;simp[-length_flatMap,-map_take,htq,hwq,hd,hd1,hd2,cN,bw,bz]
 ·refine aA FC tP.eq_1 rfl ?_;have hd:=fun σ=>aj4 (σ:=σ) h1 h2 hn hl hb
  have hf:=fun σ hσ=>GI (σ:=σ) (b:=b) (m:=m) (Fv.of hb) hσ
  have hcl:(Vs (dY b m)).clean=true:=by simp[Vs,ia (f:=Rock.aF.enc) (fun _=>by simp[D.clean])]
  have hs1:(Vs (dY b m)).strip=Vs (dY b m):=rfl;have hs2:(Vs (dY b m)).calm=Vs (dY b m):=rfl;simp[-length_flatMap,-map_take,htq,hwq,hd,hf,hs1,hs2,hcl,cN,bw,bz]
theorem VG{e:nJ}{nm:List UInt8}:bx T (.call false eo [.agg e.enc,.bI [.str nm]] σ)=some (.val (.bool (e.m.name == nm)) σ):=by
 refine aA Ah lf.eq_1 rfl ?_;simp[-length_flatMap,-map_take,sw]
theorem F8(l:List nJ):(l.flatMap nJ.enc).length=l.length*4:=cm (f:=nJ.enc) (w:=4) (fun _=>rfl) l
theorem T1(l:List P0):(l.flatMap P0.enc).length=l.length*4:=cm (f:=P0.enc) (w:=4) (fun _=>rfl) l
theorem Ls{b:Bk}{er:List Int}{nm:List UInt8}{S:SK}(hl:b.av.length≤1000000)(hs:gr S σ.length=some (b.bA σ.length er)):
  bx T (.call false dZ [.sl σ.length 0 b.av.length 0 b.av.length 4,.fn eo [] [.bI [.str nm]]] S)=some (.val (.bool (rq b.av fun e=>e.m.name == nm)) S) :=
 Ea (enc:=nJ.enc) (w:=4) (fun _=>rfl) (F:=b.bA σ.length er) (bi:=0) (v:=b.av.length) (l:=b.av) (i:=dt) rfl rfl (by simp[Bk.bA]) (by omega)
  ⟨rfl,rfl,fun e _ σ=>by rw[sc];have h:=VG (σ:=σ) (e:=e) (nm:=nm);have h':bx T (.call false eo ([]++[.agg e.enc]++[.bI [.str nm]]) σ)=_:=h;rw[h'];rfl⟩ hs
def HB(b:Bk)(m:cU):Bk:={b with av:=b.av++[⟨m,true,0⟩],pj:=b.pj++[⟨0,0,0,0⟩] }
def yj(b:Bk)(m:cU):Bk×Int :=
 if b.ready=true∧b.aw=[]then
  (if(rq b.av fun e=>e.m.name == m.name)=true then(b,6)else if b.av.length<40 then(if Bd b.bO m=true then(HB b m,0)else(b,1))else(b,3))
 else(b,8)
theorem VH{F:List Abs.aF}{b:Bk}{er:List Int}{m:cU}{b':Bk}{e:Int}(h1:b.bO.cz.length≤1000000000)(h2:b.bO.ar.length≤1000000000)(hn:m.name.length≤1000000000)(hl:m.bu.length≤1000000000)(hw:b.pj.length=b.av.length)(hd:yj b m=(b',e))(he:e=0):
  bx T (.call false fy [.ref σ.length 6 0 0,.str m.name,.aI m.bu.length (m.bu.flatMap aT)] (F::b.bA σ.length er::σ))=some (.val (.dM []) (F::b'.bA σ.length er::σ)):=by
 refine gH vB jX.eq_1 rfl (by simp) ?_;unfold yj at hd;split at hd
 case isFalse=>cases hd;cases he
 rename_i c0;obtain⟨c1,c2⟩:=c0;split at hd
 case isTrue=>cases hd;cases he
 rename_i c3;split at hd
 case isFalse=>cases hd;cases he
 rename_i c4;split at hd
 case isFalse=>cases hd;cases he
 rename_i c5;cases hd;have c3':(rq b.av fun e=>e.m.name == m.name)=false:=by simpa using c3
 have c4':(b.av.length:Int)<40:=by omega
 have hH:=fun S=>Ls (σ:=σ) (b:=b) (er:=er) (nm:=m.name) (S:=S) (by omega)
 simp only[c3']at hH;have hS:=fun S hσ=>Q3 (σ:=S) (b:=b.bO) (m:=m) (tq:=nl Rw.enc b.bO.cz) (wq:=nl bJ.enc b.bO.ar) ug ug h1 h2 hn hl hσ
 simp only[c5]at hS;simp only[Bk.bA,Bk.cells]at hH;have w2:(b.av.length+1)*56≤room:=by unfold room;omega
 have w3:=F8 b.av;have w4:(b.av.flatMap nJ.enc).take (b.av.length*4)=b.av.flatMap nJ.enc:=ak (by omega);have w5:(b.pj.length+1)*32≤room:=by unfold room;omega
 have w6:=T1 b.pj;have w7:(b.pj.flatMap P0.enc).take (b.pj.length*4)=b.pj.flatMap P0.enc:=ak (by omega);simp[-length_flatMap,-map_take,Bk.bA,Bk.cells,c1,c2,hH,c4',hS,Og,Pn,Ob,TI,cH,oG,HB,w2,w3,w4,w5,w6,w7,bz]
theorem T8{F:List Abs.aF}{b:Bk}{er:List Int}{m:cU}{b':Bk}{e:Int}(h1:b.bO.cz.length≤1000000000)(h2:b.bO.ar.length≤1000000000)(hn:m.name.length≤1000000000)(hl:m.bu.length≤1000000000)(hml:b.av.length≤40)(hd:yj b m=(b',e))(he:e≠0):
  bx T (.call false fy [.ref σ.length 6 0 0,.str m.name,.aI m.bu.length (m.bu.flatMap aT)] (F::b.bA σ.length er::σ))=some (.fX (rf e) (F::b.bA σ.length er::σ)):=by
 refine eg vB jX.eq_1 rfl ?_;have hM:=fun σ=>pO (σ:=σ) (e:=1) (by decide)
 have hrc:(D.ud 311 (.agg [.int .i64 1])).clean=true:=rfl;unfold yj at hd;split at hd
 case isFalse c0 =>
  cases hd;cases c1:b.ready with
  |false=>simp[-length_flatMap,-map_take,Bk.bA,Bk.cells,c1,dI,D.clean,rf]
  |true =>
   have c2:((b.aw.length:Int) == 0)=false:=by simpa using fun hh=>c0 ⟨c1,hh⟩
   simp[-length_flatMap,-map_take,Bk.bA,Bk.cells,c1,c2,dI,D.clean,rf]
 rename_i c0;obtain⟨c1,c2⟩:=c0;have hH:=fun S=>Ls (σ:=σ) (b:=b) (er:=er) (nm:=m.name) (S:=S) (by omega)
 split at hd
 case isTrue c3 =>
  cases hd;simp only[c3]at hH;simp only[Bk.bA,Bk.cells]at hH;simp[-length_flatMap,-map_take,Bk.bA,Bk.cells,c1,c2,hH,cH,dI,D.clean,rf]
 rename_i c3;have c3':(rq b.av fun e=>e.m.name == m.name)=false:=by simpa using c3
 simp only[c3']at hH;split at hd
 case isFalse c4 =>
  cases hd;have c4':¬(b.av.length:Int)<40:=by omega
  simp only[Bk.bA,Bk.cells]at hH;simp[-length_flatMap,-map_take,Bk.bA,Bk.cells,c1,c2,hH,c4',cH,dI,D.clean,rf]
 rename_i c4;have c4':(b.av.length:Int)<40:=by omega
 split at hd
 case isTrue=>cases hd;exact absurd rfl he
 rename_i c5;cases hd;have c5':Bd b.bO m=false:=by simpa using c5
 have hS:=fun S hσ=>Q3 (σ:=S) (b:=b.bO) (m:=m) (tq:=nl Rw.enc b.bO.cz) (wq:=nl bJ.enc b.bO.ar) ug ug h1 h2 hn hl hσ
 simp only[c5']at hS;simp only[Bk.bA,Bk.cells]at hH;simp[-length_flatMap,-map_take,Bk.bA,Bk.cells,c1,c2,hH,c4',hS,Og,Pn,Ob,TI,cH,hM,bz,rf,hrc]
end Go.Proofs.YtfgljaglidhjiaaGreatDoor
namespace Go.Book
open List(length_flatMap map_take)
open Go Go.Abs Go.Rock
def isStr(lo hi:Int)(val:cU→Int)(e:nJ):Bool:=e.left && !cA (val e.m) lo hi
def eA(at_ lo hi:Int)(val:cU→Int)(e:nJ):nJ:=if isStr lo hi val e then⟨e.m,false,at_⟩else e
def au2(at_ lo hi:Int)(val:cU→Int)(ms:List nJ)(j:Nat)(w:P0):P0:=match ms[j]? with
 |some e=>if isStr lo hi val e then⟨at_,val e.m,lo,hi⟩else w
 |none=>w
def Bk.kH(b:Bk)(lo hi:Int)(val:cU→Int)(i:Nat):Bk :=
 {b with av:=b.av.mapIdx fun j e=>if j<i then eA b.at_ lo hi val e else e,pj:=b.pj.mapIdx fun j w=>if j<i then au2 b.at_ lo hi val b.av j w else w }
section
variable {b:Bk} {lo hi:Int} {val:cU→Int} {i:Nat}
@[simp] theorem ahU:(b.kH lo hi val i).bO=b.bO:=aE rfl
@[simp] theorem Vg:(b.kH lo hi val i).aw=b.aw:=aE rfl
@[simp] theorem QU:(b.kH lo hi val i).rules=b.rules:=aE rfl
@[simp] theorem ahV:(b.kH lo hi val i).wY=b.wY:=aE rfl
@[simp] theorem ajW:(b.kH lo hi val i).k0=b.k0:=aE rfl
@[simp] theorem ajX:(b.kH lo hi val i).k1=b.k1:=aE rfl
@[simp] theorem ajY:(b.kH lo hi val i).k2=b.k2:=aE rfl
@[simp] theorem QW:(b.kH lo hi val i).fg=b.fg:=aE rfl
@[simp] theorem QV:(b.kH lo hi val i).nz=b.nz:=aE rfl
@[simp] theorem QT:(b.kH lo hi val i).ready=b.ready:=aE rfl
@[simp] theorem ajU:(b.kH lo hi val i).at_=b.at_:=aE rfl
end
theorem Vh{b:Bk}{lo hi:Int}{val:cU→Int}:b.kH lo hi val 0=b:=by
 cases b;simp only[Bk.kH,Bk.mk.injEq,true_and,and_true];constructor<;>(apply eS;intro j;simp[mP])
theorem GB{b:Bk}{lo hi:Int}{val:cU→Int}{i:Nat}:(b.kH lo hi val i).av.length=b.av.length:=by simp[Bk.kH]
theorem GC{b:Bk}{lo hi:Int}{val:cU→Int}{i:Nat}:(b.kH lo hi val i).pj.length=b.pj.length:=by simp[Bk.kH]
theorem ajV{b:Bk}{lo hi:Int}{val:cU→Int}{i:Nat}{e:nJ}(h:b.av[i]?=some e):(b.kH lo hi val i).av[i]?=some e:=by simp[Bk.kH,h]
theorem Vf{b:Bk}{lo hi:Int}{val:cU→Int}{i:Nat}{e:nJ}(h:b.av[i]?=some e)(hs:isStr lo hi val e=true)(hw:b.pj.length=b.av.length):
  (b.kH lo hi val (i+1)).av=(b.kH lo hi val i).av.set i ⟨e.m,false,b.at_⟩∧(b.kH lo hi val (i+1)).pj=(b.kH lo hi val i).pj.set i ⟨b.at_,val e.m,lo,hi⟩:=by
 obtain⟨hi',he⟩:=aD.1 h;constructor
 ·apply eS;intro j;simp only[Bk.kH,mP,List.getElem?_set];by_cases hj:i=j
  ·subst hj;rw[h];simp[hi',eA,hs]
  ·rw[if_neg hj];cases b.av[j]? with
   |none=>rfl
   |some x=>simp only[aU];congr 1;by_cases h1:j<i<;>simp[h1]<;>omega
 ·apply eS;intro j;simp only[Bk.kH,mP,List.getElem?_set];by_cases hj:i=j
  ·subst hj;have:i<b.pj.length:=by omega
   rw[aJ this];simp[h,this,au2,hs]
  ·rw[if_neg hj];cases b.pj[j]? with
   |none=>rfl
   |some x=>simp only[aU];congr 1;by_cases h1:j<i<;>simp[h1]<;>omega
theorem Mh{b:Bk}{lo hi:Int}{val:cU→Int}{i:Nat}{e:nJ}(h:b.av[i]?=some e)(hs:isStr lo hi val e=false):b.kH lo hi val (i+1)=b.kH lo hi val i:=by
 have h1:(b.kH lo hi val (i+1)).av=(b.kH lo hi val i).av:=by
  apply eS;intro j;simp only[Bk.kH,mP];by_cases hj:i=j
  ·subst hj;simp[h,eA,hs]
  ·cases b.av[j]? with
   |none=>rfl
   |some x=>simp only[aU];congr 1;by_cases h1:j<i<;>simp[h1]<;>omega
 have h2:(b.kH lo hi val (i+1)).pj=(b.kH lo hi val i).pj:=by
  apply eS;intro j;simp only[Bk.kH,mP];by_cases hj:i=j
  ·subst hj;cases b.pj[i]? with
   |none=>rfl
   |some x=>simp[h,au2,hs]
  ·cases b.pj[j]? with
   |none=>rfl
   |some x=>simp only[aU];congr 1;by_cases h1:j<i<;>simp[h1]<;>omega
 simp only[Bk.kH]at h1 h2 ⊢;rw[h1,h2]
end Go.Book
namespace Go.Proofs.YtfgljaglidhjiaaGreatDoor
open List(length_flatMap map_take)
open Go Go.Abs Go.Rock Go.Book
variable {σ:SK}
theorem Of{α:Type}{f:α→List D}{w k:Nat}{v:D}(hw:∀x,(f x).length=w)(hk:k<w):∀{l:List α} {i:Nat} {x x':α},l[i]?=some x→(f x).set k v=f x'→(l.flatMap f).set (i*w+k) v=(l.set i x').flatMap f
 |[],i,x,x',h,_=>by simp at h
 |a::l,0,x,x',h,hs=>by
  simp at h;subst h;simp only[aZ,List.set_cons_zero,Nat.zero_mul,cf];rw[List.set_append_left _ _ (by rw[hw];exact hk),hs]
 |a::l,i+1,x,x',h,hs=>by
  have ih:=Of hw hk (l:=l) (i:=i) (by simpa using h) hs;simp only[aZ,List.set_cons_succ];have e:=hw a;rw[List.set_append_right _ _ (by rw[e,eT];omega),← ih];congr 2;rw[e,eT];omega
theorem Oe{α:Type}{f:α→List D}{w k:Nat}{v:D}(hw:∀x,(f x).length=w)(hk:k<w){l:List α}{i:Nat}{x x':α}(h:l[i]?=some x)(hs:(f x).set k v=f x'):(l.flatMap f).take (i*w+k)++v::(l.flatMap f).drop (i*w+k+1)=(l.set i x').flatMap f:=by
 rw[← Of hw hk h hs,List.set_eq_take_append_cons_drop,if_pos];rw[cm hw];have h1:=(aD.1 h).1;have:(i+1)*w≤l.length*w:=dq _ h1;rw[eT]at this;omega
theorem NU{A F:List Abs.aF}{b:Bk}{er:List Int}{lo hi:Int}{val:cU→Int}{fv:D}(hf1:fv.strip=fv)(hf2:fv.calm=fv)(hw:b.pj.length=b.av.length)(hl:b.av.length≤40)
  (hv:∀i e,e∈b.av→e.left=true→pn (bx T) false fv [.agg [.str e.m.name,.aI e.m.bu.length (e.m.bu.flatMap aT)]] ([]::A::F::(b.kH lo hi val i).bA σ.length er::σ)=some (.int .i64 (val e.m),[]::A::F::(b.kH lo hi val i).bA σ.length er::σ)):∀(m i:Nat),i+m=b.av.length →
  WL T [0,2,4,13,14,15] false ja [(0,.ref σ.length 6 0 0),(2,fv),(4,.bI [.int .i64 lo,.int .i64 hi]),(13,.sl σ.length 0 b.av.length 0 b.av.length 4),(14,.int .i64 b.av.length),(15,.int .i64 i)] ([]::A::F::(b.kH lo hi val i).bA σ.length er::σ)
   (fun x e σ'=>x=.exit 0∧σ'=[]::A::F::(b.kH lo hi val b.av.length).bA σ.length er::σ)
 |0,i,h=>by
  refine aO ja.eq_1 ?_;have h1:¬i<b.av.length:=by omega
  have h2:i=b.av.length:=by omega
  simp[-length_flatMap,-map_take,h1,hf1,hf2,h2]
 |m+1,i,h=>by
  refine aO ja.eq_1 ?_;have h1:i<b.av.length:=by omega
  obtain⟨e,he⟩:=gE h1;have hat:=ajV (lo:=lo) (hi:=hi) (val:=val) he;have hfl:=bS (f:=nJ.enc) (w:=4) (fun _=>rfl) hat;have hml:=GB (b:=b) (lo:=lo) (hi:=hi) (val:=val) (i:=i);have hwl:=GC (b:=b) (lo:=lo) (hi:=hi) (val:=val) (i:=i);have h4:=gq h1 (by omega);have ih:=NU hf1 hf2 hw hl hv m (i+1) (by omega);have hlen:=F8 (b.kH lo hi val i).av;rw[hml]at hlen;have q:4≤b.av.length*4-i*4:=by omega
  cases hc1:e.left with
  |false =>
   have hst:isStr lo hi val e=false:=by simp[isStr,hc1]
   rw[Mh he hst]at ih;simp[-length_flatMap,-map_take,h1,hf1,hf2,Bk.bA,Bk.cells,hml,hwl,hfl,hlen,q,h4,hc1];exact WL.to ih (by simp) (by simp[Bk.bA,Bk.cells,hml,hwl]) fun x e σ' hh=>by simpa[Bk.bA,Bk.cells,GB,GC]using hh
  |true =>
   have hcall:=hv i e (aj he) hc1;simp only[Bk.bA,Bk.cells,hml,hwl,ahU,Vg,QU,ahV,ajW,ajX,ajY,QW,QV,QT,ajU]at hcall;cases hc2:cA (val e.m) lo hi with
   |true =>
    have hst:isStr lo hi val e=false:=by simp[isStr,hc2]
    rw[Mh he hst]at ih;simp[-length_flatMap,-map_take,h1,hf1,hf2,Bk.bA,Bk.cells,hml,hwl,hfl,hlen,q,h4,hc1,hcall,ff,hc2];exact WL.to ih (by simp) (by simp[Bk.bA,Bk.cells,hml,hwl]) fun x e σ' hh=>by simpa[Bk.bA,Bk.cells,GB,GC]using hh
   |false =>
    have hst:isStr lo hi val e=true:=by simp[isStr,hc1,hc2]
    obtain⟨hn1,hn2⟩:=Vf he hst hw;have q2:i*4+2+1≤b.av.length*4:=by omega
    have q3:i*4+3+1≤b.av.length*4:=by omega
    have p1:=Oe (f:=nJ.enc) (w:=4) (k:=2) (v:=.bool false) (fun _=>rfl) (by omega) (x':=⟨e.m,false,e.by_⟩) hat rfl;have hat2:((b.kH lo hi val i).av.set i ⟨e.m,false,e.by_⟩)[i]?=some ⟨e.m,false,e.by_⟩:=by simp[hml,h1]
    have p2:=Oe (f:=nJ.enc) (w:=4) (k:=3) (v:=.int .i64 b.at_) (fun _=>rfl) (by omega) (x':=⟨e.m,false,b.at_⟩) hat2 rfl;rw[List.set_set]at p2;have hl2:=F8 ((b.kH lo hi val i).av.set i ⟨e.m,false,e.by_⟩);rw[List.length_set,hml]at hl2;have h5:i<b.pj.length:=by omega
    have q5:i*4+4≤b.pj.length*4:=by omega
    have hwe:=T1 (b.kH lo hi val i).pj;rw[hwl]at hwe;have p3:=Tq (f:=P0.enc) (w:=4) (fun _=>rfl) (l:=(b.kH lo hi val i).pj) (i:=i) (x:=⟨b.at_,val e.m,lo,hi⟩) (by omega);simp only[P0.enc,fK,aX]at p3;simp[-length_flatMap,-map_take,h1,hf1,hf2,Bk.bA,Bk.cells,hml,hwl,hfl,hlen,q,h4,hc1,hcall,ff,hc2,q2,q3,p1,p2,hl2,h5,q5,hwe,p3];exact WL.to ih (by simp) (by simp[Bk.bA,Bk.cells,hwl,hn1,hn2,hml]) fun x e σ' hh=>by simpa[Bk.bA,Bk.cells,GB,GC]using hh
def wX(b:Bk)(lo hi:Int)(val:cU→Int):Bk:=b.kH lo hi val b.av.length
theorem NQ{A F:List Abs.aF}{b:Bk}{er:List Int}{lo hi:Int}{val:cU→Int}{fv:D}(hf1:fv.strip=fv)(hf2:fv.calm=fv)(hw:b.pj.length=b.av.length)(hl:b.av.length≤40)
  (hv:∀i e,e∈b.av→e.left=true→pn (bx T) false fv [.agg [.str e.m.name,.aI e.m.bu.length (e.m.bu.flatMap aT)]] ([]::A::F::(b.kH lo hi val i).bA σ.length er::σ)=some (.int .i64 (val e.m),[]::A::F::(b.kH lo hi val i).bA σ.length er::σ)):
  bx T (.call false gB [.ref σ.length 6 0 0,.agg [.int .i64 lo,.int .i64 hi],fv] (A::F::b.bA σ.length er::σ))=some (.val (.dM []) (A::F::(wX b lo hi val).bA σ.length er::σ)):=by
 refine gH Bq mh.eq_1 rfl (by simp) ?_;have h:=NU (A:=A) (F:=F) (er:=er) hf1 hf2 hw hl hv b.av.length 0 (by omega);rw[Vh]at h;simp[-length_flatMap,-map_take,Bk.bA,Bk.cells,hf1,hf2];refine WL.to h (by simp) (by simp[Bk.bA,Bk.cells]) ?_;rintro x e σ' ⟨rfl,rfl⟩;simp[wX,Bk.bA,Bk.cells]
end Go.Proofs.YtfgljaglidhjiaaGreatDoor
namespace Go.Proofs.YtfgljaglidhjiaaGreatDoor
open List(length_flatMap map_take)
open Go Go.Abs Go.Rock
variable {σ:SK}
structure yT where
 m:Int
 h:Int
 s:Int
 g:Int
@[simp] def yT.enc(x:yT):List D:=[.int .i64 x.m,.int .i64 x.h,.int .i64 x.s,.int .i64 x.g]
def yT.valid(x:yT):Bool:=cA x.m 0 1000000 && (cA x.h 0 (4000*x.m) && (cA x.s 0 (10000*x.m) && cA x.g 0 1000000000))
def iW(r:Rw)(x:yT):Int:=if x.h-x.m*r.l≤0 then 0 else if x.m*r.v≤x.h then x.m else(x.h-x.m*r.l) / (r.v-r.l)
theorem VB{r:Rw}{x:yT}(hr:0≤r.l∧r.l<r.v∧r.v≤4000)(hm:0≤x.m∧x.m≤1000000)(hh:0≤x.h∧x.h≤4000000000):
  bx T (.call false kU [.agg r.enc,.agg x.enc] σ)=some (.val (.int .i64 (iW r x)) σ):=by
 refine aA DD oc.eq_1 rfl ?_;have b1:=oA hm.1 hm.2 hr.1 (show r.l≤4000 by omega);have b2:=oA hm.1 hm.2 (show 0≤r.v by omega) hr.2.2;have w1:=fT (n:=x.m*r.l) (by omega);have w2:=fT (n:=x.h-x.m*r.l) (by omega);have w3:=fT (n:=x.m*r.v) (by omega);have w4:=fT (n:=r.v-r.l) (by omega);have hd:¬r.v-r.l=0:=by omega
 unfold iW;by_cases c1:x.h-x.m*r.l≤0
 ·simp[-length_flatMap,-map_take,w1,w2,w3,w4,c1]
 ·by_cases c2:x.m*r.v≤x.h
  ·simp[-length_flatMap,-map_take,w1,w2,w3,w4,c1,c2]
  ·have t1:=bh (b:=r.v-r.l) (show 0≤x.h-x.m*r.l by omega);have q1:=Int.ediv_nonneg (a:=x.h-x.m*r.l) (b:=r.v-r.l) (by omega) (by omega);have q2:=Int.ediv_le_self (b:=r.v-r.l) (show 0≤x.h-x.m*r.l by omega);have w5:=fT (n:=(x.h-x.m*r.l) / (r.v-r.l)) (by omega);simp[-length_flatMap,-map_take,w1,w2,w3,w4,c1,c2,hd,t1,w5]
theorem Jc{x:yT}:bx T (.call false gY [.agg x.enc] σ)=some (.val (.bool x.valid) σ):=by
 refine aA B0 nd.eq_1 rfl ?_;unfold yT.valid;cases h1:cA x.m 0 1000000
 ·simp[-length_flatMap,-map_take,j9,h1]
 have hm:=ba.1 h1;have w1:=fT (n:=4000*x.m) (by omega);have w2:=fT (n:=10000*x.m) (by omega);cases h2:cA x.h 0 (4000*x.m)
 ·simp[-length_flatMap,-map_take,j9,h1,h2,w1,w2]
 cases h3:cA x.s 0 (10000*x.m)
 ·simp[-length_flatMap,-map_take,j9,h1,h2,h3,w1,w2]
 cases h4:cA x.g 0 1000000000<;>simp[-length_flatMap,-map_take,j9,h1,h2,h3,h4,w1,w2]
theorem av5{t:List Rw}{i:Nat}{r:Rw}(h:t[i]?=some r):bx T (.call false ov [.aI t.length (t.flatMap Rw.enc),.int .i64 i] σ)=some (.val (.agg r.enc) σ):=by
 refine aA GU rL.eq_1 rfl ?_;have h1:i<t.length:=(aD.1 h).1;have h2:=bS (f:=Rw.enc) (w:=5) (fun _=>rfl) h;simp[-length_flatMap,-map_take,h1,h2]
theorem aj5{t:List Rw}{n:Int}(hl:t.length≤1000000000):bx T (.call false nv [.aI t.length (t.flatMap Rw.enc),.int .i64 n] σ)=some (.val (.bool (cA n 0 ((t.length:Int)-1))) σ):=by
 refine aA FH qB.eq_1 rfl ?_;have w1:=fT (n:=(t.length:Int)-1) (by omega);simp[-length_flatMap,-map_take,j9,w1]
def wat(r:Rw)(x:yT):Int×Int:=if iW r x=0 then(x.m,x.h)else if iW r x=x.m then(0,0)else(x.m-iW r x,x.h-iW r x*r.v)
def au1(r:Rw)(x:yT):Int:=if iW r x=0 then 0 else if iW r x=x.m then x.h else iW r x*r.v
def azq(r:Rw)(x:yT):Int:=if iW r x=0 then x.g else 0
def au0(r:Rw)(x:yT):Int:=if iW r x=0 then 0 else x.g
def held(r:Rw)(x:yT):Int:=min x.s ((wat r x).1*r.s)
def parts(r:Rw)(x:yT):List D:=[.int .i64 (iW r x),.int .i64 (au1 r x),.int .i64 0,.int .i64 (au0 r x),.int .i64 (wat r x).1,.int .i64 (wat r x).2,.int .i64 (held r x),.int .i64 (azq r x),
 .int .i64 (if 0<(wat r x).1 then max 0 ((wat r x).2-(wat r x).1*r.l)else 0),.int .i64 (x.s-held r x)]
theorem agP{r:Rw}{x:yT}(hr:0≤r.l∧r.l<r.v∧r.v≤4000)(hm:0≤x.m):0≤iW r x∧iW r x≤x.m∧(iW r x≠0→iW r x≠x.m→0≤x.h-iW r x*r.v+x.m*r.v):=by
 have hmv:x.m*r.v=x.m*r.l+x.m*(r.v-r.l):=by rw[← Int.mul_add];congr 1;omega
 have hml:=eC hm hr.1;have key:¬x.h-x.m*r.l≤0→¬x.m*r.v≤x.h→0≤(x.h-x.m*r.l) / (r.v-r.l)∧(x.h-x.m*r.l) / (r.v-r.l)≤x.m:=fun h1 h2=>⟨Int.ediv_nonneg (by omega) (by omega),Int.ediv_le_of_le_mul (by omega) (by omega)⟩
 have h2:0≤iW r x∧iW r x≤x.m:=by
  unfold iW;by_cases c1:x.h-x.m*r.l≤0
  ·rw[if_pos c1];omega
  ·rw[if_neg c1];by_cases c2:x.m*r.v≤x.h
   ·rw[if_pos c2];omega
   ·rw[if_neg c2];exact key c1 c2
 refine⟨h2.1,h2.2,fun h3 _=>?_⟩;have h4:=fJ h2.2 (show 0≤r.v by omega);have h5:¬x.h-x.m*r.l≤0:=by
  intro hh;exact h3 (by unfold iW;rw[if_pos hh])
 omega
theorem av2{r:Rw}{x:yT}(hr:0≤r.l∧r.l<r.v∧r.v≤4000)(hs:0≤r.s∧r.s≤2000)(hx:x.valid=true):
  bx T (.call false ow [.agg r.enc,.agg x.enc] σ)=some (.val (.agg (parts r x)) σ):=by
 refine aA GV rM.eq_1 rfl ?_;simp only[yT.valid,af,ba]at hx;obtain⟨hm,hh,hsl,hg⟩:=hx;have hF:=fun σ=>VB (σ:=σ) hr hm ⟨hh.1,by omega⟩
 obtain⟨f1,f2,f3⟩:=agP hr hm.1;have b1:=oA f1 (show iW r x≤1000000 by omega) (show 0≤r.v by omega) hr.2.2;have b2:=oA (show 0≤x.m-iW r x by omega) (show x.m-iW r x≤1000000 by omega) hs.1 hs.2;have b3:=oA (show 0≤x.m-iW r x by omega) (show x.m-iW r x≤1000000 by omega) hr.1 (show r.l≤4000 by omega);have b4:=oA hm.1 hm.2 hs.1 hs.2;have b5:=oA hm.1 hm.2 hr.1 (show r.l≤4000 by omega);simp only[Rw.enc,yT.enc]at hF;unfold parts held au1 azq au0 wat;generalize iW r x=m at *
 have w1:=fT (n:=m*r.v) (by omega);have w2:=fT (n:=x.m-m) (by omega);have w3:=fT (n:=x.h-m*r.v) (by omega);have w4:=fT (n:=(x.m-m)*r.s) (by omega);have w5:=fT (n:=(x.m-m)*r.l) (by omega);have w6:=fT (n:=x.h-m*r.v-(x.m-m)*r.l) (by omega);have w7:=fT (n:=x.m*r.s) (by omega);have w8:=fT (n:=x.m*r.l) (by omega);have w9:=fT (n:=x.h-x.m*r.l) (by omega);have v1:=fT (n:=x.s-min x.s (x.m*r.s)) (by omega);have v2:=fT (n:=x.s-min x.s ((x.m-m)*r.s)) (by omega);have v3:=fT (n:=x.s) (by omega);have v4:min x.s 0=0:=by omega
 by_cases c1:m=0
 ·subst c1;by_cases c2:0<x.m
  ·simp[-length_flatMap,-map_take,hF,w7,w8,w9,v1,c2]
  ·simp[-length_flatMap,-map_take,hF,w7,w8,w9,v1,c2]
 ·by_cases c2:m=x.m
  ·subst c2;simp[-length_flatMap,-map_take,hF,c1,v3,v4]
  ·have c3:0<x.m-m:=by omega
   have c4:m<x.m:=by omega
   simp[-length_flatMap,-map_take,hF,c1,c2,c3,c4,w1,w2,w3,w4,w5,w6,v2]
theorem auw{t:List Rw}(ht:kE t=true){i:Nat}{r:Rw}(h:t[i]?=some r):(0≤r.l∧r.l<r.v∧r.v≤4000)∧(0≤r.s∧r.s≤2000):=by
 simp only[kE,af]at ht;have:=fW.1 ht.2.1 r (aj h);simp only[Rw.alone,af,ba,au]at this;obtain⟨_,_,h3,h4,h5,h6⟩:=this;exact⟨⟨h3.1,h5,h6⟩,h4⟩
theorem aif{t:List Rw}(ht:kE t=true){i:Nat}{r:Rw}(hi:t[i]?=some r){x:yT}(hx:x.valid=true):
  bx T (.call false pJ [.aI t.length (t.flatMap Rw.enc),.int .i64 i,.agg x.enc] σ)=some (.val (.dM [.agg (parts r x),.int .i64 0]) σ):=by
 refine aA D8 sk.eq_1 rfl ?_;have hl:t.length≤20:=by
  simp only[kE,af]at ht;have:=ba.1 ht.1;omega
 have hil:i<t.length:=(aD.1 hi).1;have h1:=fun σ=>Ei (σ:=σ) (t:=t) (by omega)
 have h2:=fun σ=>aj5 (σ:=σ) (t:=t) (n:=i) (by omega)
 have h3:=fun σ=>Jc (σ:=σ) (x:=x)
 have h4:=fun σ=>av5 (σ:=σ) hi
 obtain⟨r1,r2⟩:=auw ht hi;have h5:=fun σ=>av2 (σ:=σ) r1 r2 hx
 have hin:cA i 0 ((t.length:Int)-1)=true:=ba.2 (by omega);rw[hin]at h2;rw[hx]at h3;rw[ht]at h1;simp only[yT.enc,Rw.enc]at h3 h4 h5;have hp:(parts r x).length=10:=rfl;have hp2:(parts r x).take 10=parts r x:=rfl;have hpc:D.bC (parts r x)=true:=by simp[parts]
 generalize parts r x=P at *
 simp[-length_flatMap,-map_take,h1,h2,h3,h4,h5,hp,hp2];rw[ju (by simp[D.clean,hpc]) (by omega)];exact⟨_,rfl⟩
structure Yv(b:cC)(y:List Rock.aF):Prop where
 len:y.length=b.ar.length
 ok:∀o∈y,(0≤o.m∧o.m≤1000000)∧(0≤o.h∧o.h≤10000000000)∧(0≤o.k∧o.k≤1000000000000)
theorem Yv.of{b:cC}{s:List Rock.aF}{aS:List Int}(h:Bv b)(hs:Sv b s)(hr:Rv b aS):Yv b (eF b s aS):=by
 refine⟨by simp[eF,hr.len],?_⟩;intro o ho;simp only[eF,bW]at ho;obtain⟨⟨w,r⟩,hm,rfl⟩:=ho;have hw:=KA h w (List.of_mem_zip hm).1;have hb:=hr.ok r (List.of_mem_zip hm).2;simp only[rO];split
 ·simp
 ·obtain⟨_,h1,h2,h3⟩:=hs.at (i:=w.b.toNat) (by omega);generalize bU s w.b.toNat=x at *
  have h8:x.m.tdiv 8=x.m / 8:=bh (by omega);have hq:0≤min r (x.m.tdiv 8)∧min r (x.m.tdiv 8)≤x.m:=by omega
  exact⟨⟨hq.1,by simp only[Rock.aF.out];omega⟩,L4 h1.1 h2 hq,L4 h1.1 h3 hq⟩
theorem ah0{b:cC}{m:cU}{s:List Rock.aF}{aS:List Int}{s' y:List Rock.aF}(h:Bv b)(hs:Sv b s)(hr:Rv b aS)(ht:tick b m s aS=some (s',y)):Sv b s'∧Yv b y:=by
 refine⟨Sv.next h ht,?_⟩;unfold tick at ht;split at ht
 ·simp only[ae,an]at ht;rw[← ht.2];exact Yv.of h hs hr
 ·cases ht
structure NW(b:cC)(n:Nat)(ss ys:List (List Rock.aF)):Prop where
 sl:ss.length=n+1
 yl:ys.length=n
 sv:∀s∈ss,Sv b s
 yv:∀y∈ys,Yv b y
theorem NW.from{b:cC}{m:cU}(h:Fv b m):∀(aw:List (List Int)) (n:Nat) (ss ys:List (List Rock.aF)) (s:List Rock.aF) {ss' ys':List (List Rock.aF)},(∀r∈aw,Rv b r)→NW b n ss ys→Sv b s→vx b m ss ys s aw=some (ss',ys')→NW b (n+aw.length) ss' ys'
 |[],n,ss,ys,s,ss',ys',hr,h1,h2,he=>by
  simp only[vx,ae,an]at he;obtain⟨rfl,rfl⟩:=he;exact h1
 |r::aw,n,ss,ys,s,ss',ys',hr,h1,h2,he=>by
  simp only[vx]at he;split at he
  ·rename_i s' y ht;obtain⟨g1,g2⟩:=ah0 h.bv h2 (hr r (List.mem_cons_self ..)) ht;have:=NW.from h aw (n+1) _ _ _ (fun x hx=>hr x (List.mem_cons_of_mem _ hx)) (⟨by simp[h1.sl],by simp[h1.yl],by
    intro x hx;rcases bg.1 hx with hx | hx
    ·exact h1.sv x hx
    ·rw[List.mem_singleton.1 hx];exact g1,by
    intro x hx;rcases bg.1 hx with hx | hx
    ·exact h1.yv x hx
    ·rw[List.mem_singleton.1 hx];exact g2⟩:NW b (n+1) (ss++[s']) (ys++[y])) g1 he
   rw[show n+(r::aw).length=n+1+aw.length by simp;omega];exact this
  ·cases he
theorem NW.of{b:cC}{m:cU}{aw:List (List Int)}{ss ys:List (List Rock.aF)}(h:Fv b m)(hr:∀r∈aw,Rv b r)(he:Rock.run b m aw=some (ss,ys)):NW b aw.length ss ys:=by
 have:=NW.from h aw 0 _ _ _ hr (⟨rfl,rfl,by simpa using Sv.first h,by simp⟩:NW b 0 [dY b m] []) (Sv.first h) he;simpa using this
theorem Tv{l:List cU}{j:Nat}{m:cU}(h:l[j]?=some m):((l.flatMap cU.enc).drop (j*2)).take 2=[.str m.name,.aI m.bu.length (m.bu.flatMap aT)] :=
 bS (f:=cU.enc) (w:=2) (fun _=>rfl) h
def agI(b:cC)(m:cU)(i:Nat):Bool:=cA (ve b m 0 i) 1000 100000 && (cA (ve b m 1 i) 0 1000 && (cA (ve b m 2 i) 0 3000 && cA (ve b m 3 i) 0 1000))
def OA(b:cC)(m:cU)(i:Nat):Nat→Bool
 |0=>true
 |k+1=>agI b m i && OA b m (i+1) k
theorem LH{b:cC}{m:cU}:∀{k i:Nat},OA b m i k=true↔∀j,i≤j→j<i+k→agI b m j=true
 |0,i=>by simp[OA];omega
 |k+1,i=>by
  rw[OA,af,LH];constructor
  ·intro⟨h1,h2⟩ j h3 h4;by_cases hj:j=i
   ·subst hj;exact h1
   ·exact h2 j (by omega) (by omega)
  ·intro h;exact⟨h i (by omega) (by omega),fun j h3 h4=>h j (by omega) (by omega)⟩
theorem P8{b:cC}{m:cU}(h:Bv b):gV b.f [m]=0↔b.f.model m=0:=by
 simp only[gV,h.fv,if_true,fU.av,fU.each];have h1:cA (([m]:List cU).length:Nat) 1 40=true:=by simp[cA]
 rw[if_pos h1];by_cases hc:b.f.model m=0
 ·simp[hc]
 ·simp[hc]
theorem Tc{b:cC}{m:cU}(h:Bv b):fits b m=(decide (b.f.model m=0) && OA b m 0 b.n):=by
 by_cases hc:b.f.model m=0
 ·have hm:=Mv.of h ((P8 h).2 hc);have hcm:=(P8 h).2 hc;have key:∀{k:Nat} {lo hi:Int},k<4→(fV (vR b m k) (fun n=>cA n lo hi)=true↔∀i,i<b.n→cA (ve b m k i) lo hi=true):=by
   intro k lo hi hk;rw[fW];constructor
   ·intro ha i hi';exact ha _ (aj (xC hm hk hi'))
   ·intro ha x hx;obtain⟨i,hi'⟩:=gT hx;have hlt:i<b.n:=by have:=(aD.1 hi').1;rwa[LQ hm hk]at this
    rw[xC hm hk hlt]at hi';cases hi';exact ha i hlt
  rw[Bool.eq_iff_iff];simp only[fits,hcm,hc,decide_true,Bool.true_and,af,LH,agI];rw[key (by decide),key (by decide),key (by decide),key (by decide)];constructor
  ·intro⟨h1,h2,h3,h4⟩ j _ hj;exact⟨h1 j (by omega),h2 j (by omega),h3 j (by omega),h4 j (by omega)⟩
  ·intro hh;exact⟨fun i hi=>(hh i (by omega) (by omega)).1,fun i hi=>(hh i (by omega) (by omega)).2.1,fun i hi=>(hh i (by omega) (by omega)).2.2.1,fun i hi=>(hh i (by omega) (by omega)).2.2.2⟩
 ·have hcm:¬gV b.f [m]=0:=fun hh=>hc ((P8 h).1 hh)
  simp[fits,hc,hcm]
def ahe(b:cC)(l:List cU):Int:=if cA l.length 1 40 then(if b.f.av l=0 then(if fV l (fits b)then 0 else 1)else 1)else 3
def apf(b:cC)(l:List cU)(aw:List (List Int)):Bool:=b.valid && (decide (l.length≤4) && (decide (ahe b l=0) && (decide (aw.length≤6) && decide (uO b aw=0))))
theorem P9(l:List cU):D.bC (l.flatMap cU.enc)=true:=ia (fun x=>by simp[D.clean,bz]) l
structure Ok(b:cC)(l:List cU)(aw:List (List Int)):Prop where
 bv:Bv b
 valid:b.valid=true
 len:1≤l.length∧l.length≤40
 av:b.f.av l=0
 fit:∀m∈l,fits b m=true
 fv:∀m∈l,Fv b m
 short:∀m∈l,m.name.length≤1000000000∧m.bu.length≤384
 pl:uO b aw=0
 U3:aw.length≤200
 aS:∀r∈aw,Rv b r
theorem atY{b:cC}{m:cU}(h:Bv b)(hf:fits b m=true):m.name.length≤16:=by
 rw[Tc h,af,au]at hf;have hm:=hf.1;unfold fU.model at hm;split at hm
 ·rename_i hn;simp only[named,af]at hn;have:=ba.1 hn.2;omega
 ·cases hm
theorem Ok.of{b:cC}{l:List cU}{aw:List (List Int)}(h:apf b l aw=true):Ok b l aw:=by
 simp only[apf,af,au]at h;obtain⟨h1,h2,h3,h4,h5⟩:=h;have hb:=Bv.of h1;unfold ahe at h3;split at h3
 ·rename_i hi;split at h3
  ·rename_i hm;split at h3
   ·rename_i hf;have hfit:∀m∈l,fits b m=true:=fW.1 hf;have hfv:∀m∈l,Fv b m:=fun m hm=>Fv.of (by simp[Bd,h1,hfit m hm])
    exact⟨hb,h1,⟨by have:=ba.1 hi;omega,by omega⟩,hm,hfit,hfv,fun m hm=>⟨by have:=atY hb (hfit m hm);omega,(hfv m hm).toMv.le.2⟩,h5,by omega,(AQ h5).2⟩
   ·cases h3
  ·cases h3
 ·cases h3
theorem Ok.check{b:cC}{l:List cU}{aw:List (List Int)}(h:Ok b l aw):gV b.f l=0:=by
 simp[gV,h.bv.fv,h.av]
theorem VP{b:cC}{m:cU}(h:Bv b)(hn:m.name.length≤1000000000)(hl:m.bu.length≤1000000000):bx T (.call false oq [.agg [.str m.name,.aI m.bu.length (m.bu.flatMap aT)],.bI [.int .i64 b.f.x,.int .i64 b.f.y,.int .i64 b.f.z,.int .i64 b.f.k,.aI b.cz.length (b.cz.flatMap Rw.enc),.int .i64 b.bL,.int .i64 b.lift,.int .i64 b.deep,.aI b.ar.length (b.ar.flatMap bJ.enc)]] σ)=some (.val (.bool (fits b m)) σ):=by
 refine aA Jq tS.eq_1 rfl ?_;have hC:=fun σ=>PK (σ:=σ) (m:=m) h hn hl
 simp[-length_flatMap,-map_take,hC,cN,bw,bz]
theorem PR{b:cC}{l:List cU}(h:Bv b)(hs:∀m∈l,m.name.length≤1000000000∧m.bu.length≤1000000000)(hl:l.length≤1000000000):
  bx T (.call false iD [.aI l.length (l.flatMap cU.enc),.fn oq [] [.bI [.int .i64 b.f.x,.int .i64 b.f.y,.int .i64 b.f.z,.int .i64 b.f.k,.aI b.cz.length (b.cz.flatMap Rw.enc),.int .i64 b.bL,.int .i64 b.lift,.int .i64 b.deep,.aI b.ar.length (b.ar.flatMap bJ.enc)]]] σ)=some (.val (.bool (fV l (fits b))) σ) :=
 Ax (xq 2 cU.enc (fun _=>rfl)) (f:=iD) (g:=jT) (h:=eH) (i:=fQ) (l:=l) (p:=fits b) rfl rfl rfl rfl (by omega) (pP.fn fun x hx σ=>VP h (hs x hx).1 (hs x hx).2) rfl
theorem aiC{b:cC}{l:List cU}{aw:List (List Int)}(h:Ok b l aw):
  bx T (.call false ua [.agg [.int .i64 b.f.x,.int .i64 b.f.y,.int .i64 b.f.z,.int .i64 b.f.k,.aI b.cz.length (b.cz.flatMap Rw.enc),.int .i64 b.bL,.int .i64 b.lift,.int .i64 b.deep,.aI b.ar.length (b.ar.flatMap bJ.enc)],.aI l.length (l.flatMap cU.enc),.aI aw.length (aw.flatMap IL)] σ)=some (.val (.int .i64 0) σ):=by
 refine aA Mw wQ.eq_1 rfl ?_;have hs:∀m∈l,m.name.length≤1000000000∧m.bu.length≤1000000000:=fun m hm=>⟨(h.short m hm).1,by have:=(h.short m hm).2;omega⟩
 have hl:=h.len;have htab:=h.bv.cz;have ht:b.cz.length≤1000000000:=by
  simp only[kE,af]at htab;have:=ba.1 htab.1;omega
 have h1:=fun σ=>BP (σ:=σ) (b:=b) ht (by have:=h.bv.ar;omega)
 have h2:=fun σ=>D6 (σ:=σ) (f:=b.f) (l:=l) hs (by omega)
 have h3:=fun σ=>PR (σ:=σ) (l:=l) h.bv hs (by omega)
 have h4:=fun σ=>VN (σ:=σ) (b:=b) (aw:=aw) (by have:=h.U3;omega) (fun r hr=>by have:=(h.aS r hr).len;have:=h.bv.ar;omega)
 have hi:cA l.length 1 40=true:=ba.2 (by omega);have ha:fV l (fits b)=true:=fW.2 h.fit;rw[h.valid]at h1;rw[h.check]at h2;rw[ha]at h3;rw[h.pl]at h4;simp[-length_flatMap,-map_take,h1,h2,h3,h4,dQ,hi,cN,bw,bz]
abbrev RunT:=List (List Rock.aF)×List (List Rock.aF)
def Fk(r:RunT):List D:=[.aI r.1.length (r.1.flatMap yK),.aI r.2.length (r.2.flatMap yK)]
theorem ahF(l:List RunT):(l.flatMap Fk).length=l.length*2:=cm (f:=Fk) (w:=2) (fun _=>rfl) l
def xM(b:cC)(aw:List (List Int)):List cU→Option (List RunT)
 |[]=>some []
 |m::l=>match Rock.run b m aw with
  |some r=>(xM b aw l).map (r :: ·)
  |none=>none
def Pf(n:Nat)(acc:List RunT)(σ:SK)(r:Option (List RunT))(x:Abs.Exit)(e:Env)(σ':SK):Prop:=match r with
 |some rs=>x=.exit 0∧get e 6=.sl σ.length 0 n 0 n 2∧σ'=[.cells n ((acc++rs).flatMap Fk)]::σ
 |none=>x=.fX (.ud 262 (.agg []))∧∃bA,σ'=bA::σ
theorem PX{b:cC}{l:List cU}{aw:List (List Int)}(h:Ok b l aw):∀(k i:Nat) (acc:List RunT),i+k=l.length→acc.length=i →
  WL T [2,3,6,9,10,11] false tT [(2,.aI aw.length (aw.flatMap IL)),(3,.bI [.int .i64 b.f.x,.int .i64 b.f.y,.int .i64 b.f.z,.int .i64 b.f.k,.aI b.cz.length (b.cz.flatMap Rw.enc),.int .i64 b.bL,.int .i64 b.lift,.int .i64 b.deep,.aI b.ar.length (b.ar.flatMap bJ.enc)]),(6,.sl σ.length 0 i 0 i 2),(9,.aI l.length (l.flatMap cU.enc)),(10,.int .i64 l.length),(11,.int .i64 i)] ([.cells i (acc.flatMap Fk)]::σ)
   (Pf l.length acc σ (xM b aw (l.drop i)))
 |0,i,acc,hi,ha=>by
  refine aO tT.eq_1 ?_;obtain rfl:i=l.length:=by omega
  have h2:l.drop l.length=[]:=aB (by omega);simp[-length_flatMap,-map_take,h2,xM,Pf]
 |k+1,i,acc,hi,ha=>by
  refine aO tT.eq_1 ?_;have h1:i<l.length:=by omega
  obtain⟨m,hm⟩:=gE h1;have hlen:=h.len;have h2:=Tv hm;have h4:=gq h1 (by omega);have h5:=cM hm;have hmem:=aj hm;have a4:=ahF acc;rw[ha]at a4;have a6:(acc.flatMap Fk).take (i*2)=acc.flatMap Fk:=ak (by omega);have h7:(i+1)*48≤room:=by unfold room;omega
  have hp:aw.length≤200:=by have:=h.U3;omega
  rw[h5,xM];cases hr:Rock.run b m aw with
  |none =>
   have hC:=fun σ=>Q7 (σ:=σ) (h.fv m hmem) hp h.aS hr
   simp[-length_flatMap,-map_take,h1,h2,h4,hC,Pf,cN,bw,bz]
  |some r =>
   obtain⟨ss,ys⟩:=r;have hC:=fun σ hσ=>Q8 (σ:=σ) (h.fv m hmem) hp h.aS hσ hr
   have ih:=PX h k (i+1) (acc++[(ss,ys)]) (by omega) (by simp[ha]);simp[-length_flatMap,-map_take,h1,h2,h4,hC,a4,a6,h7,cN,bw,bz,D.clean,LA];refine WL.to ih (by simp) (by simp[Fk]) fun x e σ' hh=>?_
   cases hq:xM b aw (l.drop (i+1))with
   |none=>rw[hq]at hh;simpa[Pf]using hh
   |some rs=>rw[hq]at hh;simpa[Pf]using hh
theorem VU{b:cC}{l:List cU}{aw:List (List Int)}(h:Ok b l aw)(hσ:σ≠[]){rs:List RunT}(hr:xM b aw l=some rs)(hl:rs.length=l.length):
  bx T (.call false tg [.agg [.int .i64 b.f.x,.int .i64 b.f.y,.int .i64 b.f.z,.int .i64 b.f.k,.aI b.cz.length (b.cz.flatMap Rw.enc),.int .i64 b.bL,.int .i64 b.lift,.int .i64 b.deep,.aI b.ar.length (b.ar.flatMap bJ.enc)],.aI l.length (l.flatMap cU.enc),.aI aw.length (aw.flatMap IL)] σ)=some (.val (.aI rs.length (rs.flatMap Fk)) σ):=by
 refine aA H0 vJ.eq_1 rfl ?_;simp[-length_flatMap,-map_take,cN,bw,bz];refine WL.to (PX (σ:=σ) h l.length 0 [] (by omega) rfl) (by simp) (by simp) ?_;rw[aP,hr];rintro x e σ' ⟨rfl,g6,rfl⟩;simp[-length_flatMap,-map_take,g6];rw[← hl,yz (f:=Fk) (by decide) (fun _=>rfl) (fun x=>by simp[Fk,D.clean,LA]) hσ (by simp)];simp
theorem VT{b:cC}{l:List cU}{aw:List (List Int)}(h:Ok b l aw)(hr:xM b aw l=none):
  bx T (.call false tg [.agg [.int .i64 b.f.x,.int .i64 b.f.y,.int .i64 b.f.z,.int .i64 b.f.k,.aI b.cz.length (b.cz.flatMap Rw.enc),.int .i64 b.bL,.int .i64 b.lift,.int .i64 b.deep,.aI b.ar.length (b.ar.flatMap bJ.enc)],.aI l.length (l.flatMap cU.enc),.aI aw.length (aw.flatMap IL)] σ)=some (.fX (.ud 262 (.agg [])) σ):=by
 refine eg H0 vJ.eq_1 rfl ?_;simp[-length_flatMap,-map_take,cN,bw,bz];refine WL.to (PX (σ:=σ) h l.length 0 [] (by omega) rfl) (by simp) (by simp) ?_;rw[aP,hr];rintro x e σ' ⟨rfl,bA,rfl⟩;simp[D.clean]
theorem L9{b:cC}{aw:List (List Int)}:∀{l:List cU} {rs:List RunT},xM b aw l=some rs→rs.length=l.length∧∀(i:Nat) m,l[i]?=some m→∃r,rs[i]?=some r∧Rock.run b m aw=some r
 |[],rs,h=>by simp only[xM,ae]at h;subst h;simp
 |m::l,rs,h=>by
  simp only[xM]at h;cases hr:Rock.run b m aw with
  |none=>rw[hr]at h;cases h
  |some r =>
   rw[hr]at h;simp only[ad]at h;obtain⟨rs',h1,rfl⟩:=h;obtain⟨g1,g2⟩:=L9 h1;refine⟨by simp[g1],?_⟩;intro i m' hm';cases i with
   |zero=>simp only[cc,ae]at hm';subst hm';exact⟨r,rfl,hr⟩
   |succ i=>simpa using g2 i m' (by simpa using hm')
theorem aiL{x:Rock.aF}:bx T (.call false kn [.agg x.enc] σ)=some (.val (.int .i64 x.m) σ):=by
 refine aA FE pZ.eq_1 rfl ?_;simp[-length_flatMap,-map_take]
theorem V1{x:Rock.aF}:bx T (.call false jB [.agg x.enc] σ)=some (.val (.int .i64 x.k) σ):=by
 refine aA Ew oV.eq_1 rfl ?_;simp[-length_flatMap,-map_take]
def rowAt(l:List (List Rock.aF))(t:Nat):List Rock.aF:=(l[t]?).getD []
structure Rs(b:cC)(l:List cU)(n:Nat)(rs:List RunT):Prop where
 len:rs.length=l.length
 ne:1≤l.length∧l.length≤40
 n6:n≤200
 ar:b.ar.length≤8
 bn:1≤b.n∧b.n≤64
 all:∀r∈rs,NW b n r.1 r.2
 fv:∀m∈l,Fv b m
theorem ahA{b:cC}{n:Nat}{r:RunT}(h:NW b n r.1 r.2){t:Nat}(ht:t<n):r.2[t]?=some (rowAt r.2 t)∧Yv b (rowAt r.2 t):=by
 have h1:t<r.2.length:=by rw[h.yl];exact ht
 have h2:r.2[t]?=some r.2[t]:=aJ h1;have h3:rowAt r.2 t=r.2[t]:=by simp[rowAt,h2]
 rw[h3];exact⟨h2,h.yv _ (List.getElem_mem h1)⟩
theorem ao8{b:cC}{n:Nat}{r:RunT}(h:NW b n r.1 r.2){t:Nat}(ht:t≤n):r.1[t]?=some (rowAt r.1 t)∧Sv b (rowAt r.1 t):=by
 have h1:t<r.1.length:=by rw[h.sl];omega
 have h2:r.1[t]?=some r.1[t]:=aJ h1;have h3:rowAt r.1 t=r.1[t]:=by simp[rowAt,h2]
 rw[h3];exact⟨h2,h.sv _ (List.getElem_mem h1)⟩
theorem apo{b:cC}{y:List Rock.aF}(h:Yv b y){w:Nat}(hw:w<b.ar.length):y[w]?=some (bU y w):=by
 have h1:w<y.length:=by rw[h.len];exact hw
 simp[bU,aJ h1]
theorem ahR{l:List (List Rock.aF)}{t:Nat}{s:List Rock.aF}(h:l[t]?=some s):((l.flatMap yK).drop t).take 1=[.aI s.length (s.flatMap aF.enc)]:=by
 have:=bS (f:=yK) (w:=1) (fun _=>rfl) h;simpa[yK]using this
theorem ajI{l:List RunT}{j:Nat}{r:RunT}(h:l[j]?=some r):((l.flatMap Fk).drop (j*2)).take 2=[.aI r.1.length (r.1.flatMap yK),.aI r.2.length (r.2.flatMap yK)] :=
 bS (f:=Fk) (w:=2) (fun _=>rfl) h
end Go.Proofs.YtfgljaglidhjiaaGreatDoor
namespace Go.Rock
open List(length_flatMap map_take)
open Go Go.Abs
def three:List Rw:=[⟨100,101,419,2676,150⟩,⟨150,476,632,2746,300⟩,⟨200,1555,852,2793,600⟩]
end Go.Rock
namespace Go.Proofs.YtfgljaglidhjiaaGreatDoor
open List(length_flatMap map_take)
open Go Go.Abs Go.Rock
variable {σ:SK}
theorem Rs.of{b:cC}{l:List cU}{aw:List (List Int)}(h:Ok b l aw){rs:List RunT}(hr:xM b aw l=some rs):Rs b l aw.length rs:=by
 obtain⟨h1,h2⟩:=L9 hr;refine⟨h1,h.len,h.U3,h.bv.ar,h.bv.n,?_,h.fv⟩;intro r hmem;obtain⟨i,hi⟩:=gT hmem;have hlt:i<l.length:=by rw[← h1];exact(aD.1 hi).1
 obtain⟨m,hm⟩:=gE hlt;obtain⟨r',h3,h4⟩:=h2 i m hm;rw[hi]at h3;cases h3;exact NW.of (h.fv m (aj hm)) h.aS h4
theorem OB(l:List Nat):(l.flatMap fun _=>[D.aI 0 []])=List.replicate l.length (.aI 0 []):=by
 induction l with
 |nil=>rfl
 |cons a l ih=>rw[aZ,ih];rfl
end Go.Proofs.YtfgljaglidhjiaaGreatDoor
namespace Go.Rock
open List(length_flatMap map_take)
open Go Go.Abs
structure xS where
 name:List UInt8
 kind:Int
 bl:List Int
 wt:List Int
 lo:Int
 hi:Int
structure wI where
 tick:Int
 rn:Int
 idx:Int
 lo:Int
 hi:Int
@[simp] theorem xS.eta(p:xS):xS.mk p.name p.kind p.bl p.wt p.lo p.hi=p:=rfl
@[simp] theorem wI.eta(p:wI):wI.mk p.tick p.rn p.idx p.lo p.hi=p:=rfl
@[simp] def xS.enc(m:xS):List D:=[.str m.name,.int .i64 m.kind,.aI m.bl.length (m.bl.flatMap aT),.aI m.wt.length (m.wt.flatMap aT),.int .i64 m.lo,.int .i64 m.hi]
@[simp] def wI.enc(x:wI):List D:=[.int .i64 x.tick,.int .u8 x.rn,.int .i64 x.idx,.int .i64 x.lo,.int .i64 x.hi]
def CT(n:Int):Int→List Int→List Int→Bool
 |last,b::bl,w::wt=>decide (last<b) && (decide (b<n) && (cA w (-1000) 1000 && CT n b bl wt))
 |_,_,_=>true
def Kx(f:fU)(kind:Int)(bl wt:List Int):Bool:=cA kind 0 (f.k-1) && (decide (1≤bl.length) && (decide (bl.length=wt.length) && CT f.size (-1) bl wt))
def JY(lo hi:Int):Bool:=decide (-10000000000≤lo) && (decide (lo≤hi) && decide (hi≤10000000000))
def fU.measure(f:fU)(m:xS):Int:=if named m.name then(if Kx f m.kind m.bl m.wt && JY m.lo m.hi then 0 else 1)else 5
def fU.F6(f:fU)(met:List (List UInt8)):List xS→Int
 |[]=>0
 |m::l=>if f.measure m=0 then(if met.contains m.name then 6 else f.F6 (met++[m.name]) l)else f.measure m
def fU.Gp(f:fU)(l:List xS):Int:=if 12<l.length then 3 else f.F6 [] l
structure Mev(f:fU)(x:xS):Prop where
 name:x.name.length≤16
 kind:0≤x.kind∧x.kind<f.k
 ne:1≤x.bl.length
 len:x.bl.length=x.wt.length
 ayI:CT f.size (-1) x.bl x.wt=true
 ends : -10000000000≤x.lo∧x.lo≤x.hi∧x.hi≤10000000000
theorem Mev.of{f:fU}{x:xS}(h:f.measure x=0):Mev f x:=by
 unfold fU.measure at h;split at h
 ·rename_i h1;split at h
  ·rename_i h2;simp only[Kx,JY,af,au,ba]at h2;obtain⟨⟨h3,h4,h5,h6⟩,h7,h8,h9⟩:=h2;simp only[named,af]at h1;have:=ba.1 h1.2;exact⟨by omega,by omega,h4,h5,h6,h7,h8,h9⟩
  ·cases h
 ·cases h
theorem Mi{n:Int}:∀{bl wt:List Int} {last:Int},bl.length=wt.length→CT n last bl wt=true→last<n→(bl.length:Int)≤n-1-last
 |[],wt,last,hl,h,hn=>by simp;omega
 |b::bl,[],last,hl,h,hn=>by simp at hl
 |b::bl,w::wt,last,hl,h,hn=>by
  simp only[CT,af,au]at h;obtain⟨h1,h2,h3,h4⟩:=h;have:=Mi (n:=n) (bl:=bl) (wt:=wt) (last:=b) (by simpa using hl) h4 h2;simp only[aL];omega
theorem Pr{n:Int}:∀{bl wt:List Int} {last:Int} {i:Nat} {b w:Int},CT n last bl wt=true→bl[i]?=some b→wt[i]?=some w→last<b∧b<n∧(-1000≤w∧w≤1000)
 |[],wt,last,i,b,w,h,hb,hw=>by simp at hb
 |b'::bl,[],last,i,b,w,h,hb,hw=>by simp at hw
 |b'::bl,w'::wt,last,i,b,w,h,hb,hw=>by
  simp only[CT,af,au]at h;obtain⟨h1,h2,h3,h4⟩:=h;cases i with
  |zero =>
   simp only[cc,ae]at hb hw;subst hb hw;exact⟨h1,h2,ba.1 h3⟩
  |succ i =>
   have:=Pr h4 (by simpa using hb) (by simpa using hw);omega
def ahW(bu:List Int)(off:Int):Int→List Int→List Int→Int
 |acc,b::bl,w::wt=>ahW bu off (acc+w*(bu[(off+b).toNat]?).getD 0) bl wt
 |acc,_,_=>acc
def PA(f:fU)(m:cU)(x:xS):Int:=ahW m.bu (x.kind*f.size) 0 x.bl x.wt
def ahf(lo hi s:Int):Int:=if hi<s then s-hi else if s<lo then s-lo else 0
def CK(lo hi s:Int):Int:=max 0 (s-hi)+min 0 (s-lo)
theorem Qv{lo hi s:Int}(h:lo≤hi):CK lo hi s=ahf lo hi s:=by
 unfold CK ahf;split
 ·omega
 ·split<;>omega
def aF.HR(y:aF):Int:=if y.m=0 then 0 else y.h.tdiv y.m
def aF.Ps(y:aF)(rn:Int):Int:=if rn=2 then y.m else if rn=3 then y.HR else y.k
def vV(b:cC)(m:cU)(r:List (List aF)×List (List aF))(x:wI):Int :=
 if x.rn=1 then kW b m ((r.1[x.tick.toNat]?).getD []) x.idx.toNat else aF.Ps (bU ((r.2[x.tick.toNat-1]?).getD []) x.idx.toNat) x.rn
def vU(b:cC)(xQ:Int)(x:wI):Int :=
 if !cA x.rn 1 4 || (decide (x.lo < -10000000000) || (decide (x.hi<x.lo) || decide (10000000000<x.hi)))then 1
 else if !cA x.tick (if x.rn=1 then 0 else 1) xQ || !cA x.idx 0 ((if x.rn=1 then b.size else b.ar.length)-1)then 2 else 0
def xK(b:cC)(xQ:Int)(l:List wI):Int:=if 40<l.length then 3 else di (vU b xQ) l
structure Rdv(b:cC)(n:Nat)(x:wI):Prop where
 rn:1≤x.rn∧x.rn≤4
 ends : -10000000000≤x.lo∧x.lo≤x.hi∧x.hi≤10000000000
 p:x.rn=1→(0≤x.tick∧x.tick≤n)∧0≤x.idx∧x.idx<b.size
 y:x.rn≠1→(1≤x.tick∧x.tick≤n)∧0≤x.idx∧x.idx<b.ar.length
theorem Rdv.of{b:cC}{n:Nat}{x:wI}(h:vU b n x=0):Rdv b n x:=by
 unfold vU at h;by_cases h3:x.rn=1
 ·rw[if_pos h3,if_pos h3]at h;split at h
  ·cases h
  ·rename_i h1;simp only[cb,au,dX,not_or,Bool.not_eq_false,ba]at h1;split at h
   ·cases h
   ·rename_i h2;simp only[cb,dX,not_or,Bool.not_eq_false,ba]at h2;exact⟨h1.1,by omega,fun _=>by omega,fun h=>absurd h3 h⟩
 ·rw[if_neg h3,if_neg h3]at h;split at h
  ·cases h
  ·rename_i h1;simp only[cb,au,dX,not_or,Bool.not_eq_false,ba]at h1;split at h
   ·cases h
   ·rename_i h2;simp only[cb,dX,not_or,Bool.not_eq_false,ba]at h2;exact⟨h1.1,by omega,fun h=>absurd h h3,fun _=>by omega⟩
end Go.Rock
