import Derived.Test.YtanhdobabijmoaaGreatDoorTxt2
set_option linter.all false
namespace Go.dk
open List(length_flatMap map_take)
open Go Go.aA Go.aI
structure fK where
 m:bE
 left:Bool
 W7:Int
structure Mj where
 line:Int
 value:Int
 lo:Int
 hi:Int
structure Prt where
 width:Int
 xh:Int
structure yY where
 E6:Int
 parts:List Prt
structure SQ where
 tick:Int
 agV:Int
 wlo:Int
 whi:Int
 mlo:Int
 mhi:Int
structure Bk where
 bz:cp
 aj:List fK
 aD:List (List Int)
 rules:List bW.dP
 Al:List bW.Ev
 k0:Int
 k1:Int
 k2:Int
 ew:List yY
 l9:List SQ
 ready:Bool
 kN:List Mj
 at_:Int
@[simp] def fK.enc(e:fK):List D:=[.str e.m.name,.aJ e.m.aU.length (e.m.aU.flatMap aM),.bool e.left,.int .i64 e.W7]
@[simp] def Mj.enc(e:Mj):List D:=[.int .i64 e.line,.int .i64 e.value,.int .i64 e.lo,.int .i64 e.hi]
@[simp] def Prt.enc(e:Prt):List D:=[.int .i64 e.width,.int .i64 e.xh]
@[simp] def yY.enc(e:yY):List D:=[.int .i64 e.E6,.aJ e.parts.length (e.parts.flatMap Prt.enc)]
@[simp] def SQ.enc(e:SQ):List D:=[.int .i64 e.tick,.int .i64 e.agV,.int .i64 e.wlo,.int .i64 e.whi,.int .i64 e.mlo,.int .i64 e.mhi]
def nl{α:Type}(f:α->List D)(l:List α):D:=if l=[]then .bP else .aJ l.length (l.flatMap f)
def pE(r:List Int):List D:=[.aJ r.length (r.flatMap aM)]
def Bk.cells(L:Nat)(b:Bk):List D:=[.int .i64 b.bz.f.x,.int .i64 b.bz.f.y,.int .i64 b.bz.f.z,.int .i64 b.bz.f.k,nl Rw.enc b.bz.cn,.int .i64 b.bz.bL,.int .i64 b.bz.lift,.int .i64 b.bz.deep,nl bJ.enc b.bz.an,
 .sl L 0 b.aj.length 0 b.aj.length 4,nl pE b.aD,.sl L 1 b.rules.length 0 b.rules.length 10,.sl L 2 b.Al.length 0 b.Al.length 2,.int .i64 b.k0,.int .i64 b.k1,.int .i64 b.k2,
 .sl L 3 b.ew.length 0 b.ew.length 2,.sl L 4 b.l9.length 0 b.l9.length 6,.bool b.ready,.sl L 5 b.kN.length 0 b.kN.length 4,.int .i64 b.at_]
def Bk.bB(L:Nat)(b:Bk)(er:List Int):List aA.aO:=[.cells b.aj.length (b.aj.flatMap fK.enc),.cells b.rules.length (b.rules.flatMap bW.dP.enc),.cells b.Al.length (b.Al.flatMap bW.Ev.enc),.cells b.ew.length (b.ew.flatMap yY.enc),
 .cells b.l9.length (b.l9.flatMap SQ.enc),.cells b.kN.length (b.kN.flatMap Mj.enc),.cells 0 (b.cells L),.cells er.length (er.flatMap aM)]
def ma:Bk:=⟨⟨⟨0,0,0,0⟩,[],0,0,0,[]⟩,[],[],[],[],1000,500,0,[],[],false,[],0⟩
def Prt.ok(last:Int)(p:Prt):Bool:=cj p.xh 0 last && cj p.width 1 100000
def zW:Int->List Prt->Bool
 |_,[]=>true
 |last,p::l=>p.ok last && zW p.xh l
def yY.ok(u:yY):Bool:=cj u.E6 0 5 && (cj u.parts.length 1 8 && zW 1000 u.parts)
def xi(l:List Prt):Nat->Int
 |0=>1000
 |i+1=>match l[i]? with
  |some p=>p.xh
  |none=>0
def DJ(l:List Prt)(i:Nat):Bool:=match l[i]? with
 |some p=>p.ok (xi l i)
 |none=>true
theorem RS{l:List Prt}:zW 1000 l=true↔∀j,j<l.length->DJ l j=true:=by
 have key:∀(r pre:List Prt),l=pre++r->(zW (xi l pre.length) r=true↔∀j,j<r.length->DJ l (pre.length+j)=true):=by
  intro r;induction r with
  |nil=>intro pre h;simp[zW]
  |cons p r ih =>
   intro pre h;have hp:l[pre.length]?=some p:=by rw[h];simp
   have h1:=ih (pre++[p]) (by rw[h];simp);have h2:xi l (pre++[p]).length=p.xh:=by simp[xi,hp]
   rw[h2]at h1;simp only[zW,ae,h1];constructor
   .rintro⟨h3,h4⟩ j hj;cases j with
    |zero=>simpa[DJ,hp]using h3
    |succ j =>
     have:=h4 j (by simpa using hj);rwa[show(pre++[p]).length+j=pre.length+(j+1)by simp;omega]at this
   .intro h3;refine⟨?_,λj hj=>?_⟩
    .have:=h3 0 (by simp);simpa[DJ,hp]using this
    .have:=h3 (j+1) (by simpa using hj);rwa[show(pre++[p]).length+j=pre.length+(j+1)by simp;omega]
 have:=key l [] rfl;simpa[xi]using this
def xG(b:Bk)(x y z k:Int):Bk×Int :=
 if(b.bz.f.x=0/\b.bz.f.y=0)/\b.bz.f.z=0/\b.bz.f.k=0 then
  (if(cU.mk x y z k).valid=true/\4<=k then({b with bz:={b.bz with f:=⟨x,y,z,k⟩ } },0)else(b,1))
 else(b,8)
end Go.dk
namespace Go.aA
open List(length_flatMap map_take)
open Go
variable {T:BJ} {fv:D} {J:SK}
theorem R6{f w:Nat}{ag:Bool}(hT:T f=some (vA ag w))(h1:fv.strip=fv)(h2:fv.calm=fv):lim T (.call false f [.bP,fv] J)=some (.val (.int .i64 (-1)) J):=by
 refine aw hT (vA.eq_1 _ _) rfl ?_;simp[h1,h2];refine aH (IJ.eq_1 _ _) ?_;simp[h1,h2]
theorem contains_nil{f i w:Nat}{ag:Bool}(hT:T f=some (iS i))(hi:T i=some (vA ag w))(h1:fv.strip=fv)(h2:fv.calm=fv):lim T (.call false f [.bP,fv] J)=some (.val (.bool false) J):=by
 refine aw hT (iS.eq_1 _) rfl ?_;simp[h1,h2,R6 hi h1 h2]
theorem all_nil{f g h i w:Nat}{ag:Bool}(hf:T f=some (ET g h))(hh:T h=some (iS i))(hi:T i=some (vA ag w))(h1:fv.strip=fv)(h2:fv.calm=fv)(hcl:fv.cells=some [fv]):
  lim T (.call false f [.bP,fv] J)=some (.val (.bool true) J):=by
 refine aw hf (ET.eq_1 _ _) rfl ?_;have h3:=λJ=>contains_nil (fv:=.fn g [] [.bq [fv]]) (J:=J) hh hi rfl rfl
 simp[h1,h2,h3,hcl]
end Go.aA
namespace Go.Proofs.YtanhdobabijmoaaGreatDoor
open List(length_flatMap map_take)
open Go Go.aA Go.aI Go.dk
variable {J:SK}
theorem Wa{F:List aA.aO}{b:Bk}{er:List Int}{nm:List UInt8}{x y z k:Int}{b':Bk}{e:Int}(hd:xG b x y z k=(b',e))(he:e=0):
  lim T (.call false 95 [.ref J.length 6 0 0,.str nm,.aJ 4 [.int .i64 x,.int .i64 y,.int .i64 z,.int .i64 k]] (F::b.bB J.length er::J))=some (.val (.db []) (F::b'.bB J.length er::J)):=by
 refine dN wG jt.eq_1 rfl (by simp) ?_;unfold xG at hd;split at hd
 case isFalse=>cases hd;cases he
 rename_i h1;split at hd
 case isFalse=>cases hd;cases he
 rename_i h2;cases hd;obtain⟨⟨f1,f2⟩,f3,f4⟩:=h1;have hS:(cU.mk x y z k).shape=0:=by simp[cU.shape,h2.1]
 have hC:=λJ=>jg (J:=J) (f:=⟨x,y,z,k⟩)
 simp only[hS]at hC;simp[-length_flatMap,-map_take,Bk.bB,Bk.cells,f1,f2,f3,f4,cr,hC,h2.2]
theorem Ro{F:List aA.aO}{b:Bk}{er:List Int}{nm:List UInt8}{x y z k:Int}{b':Bk}{e:Int}(hd:xG b x y z k=(b',e))(he:e≠0):
  lim T (.call false 95 [.ref J.length 6 0 0,.str nm,.aJ 4 [.int .i64 x,.int .i64 y,.int .i64 z,.int .i64 k]] (F::b.bB J.length er::J))=some (.fp (rf e) (F::b.bB J.length er::J)):=by
 refine dM wG jt.eq_1 rfl ?_;have hC:=λJ=>jg (J:=J) (f:=⟨x,y,z,k⟩)
 unfold xG at hd;split at hd
 .rename_i h1;obtain⟨⟨f1,f2⟩,f3,f4⟩:=h1;split at hd
  .cases hd;exact absurd rfl he
  rename_i h2;cases hd;by_cases h3:(cU.mk x y z k).valid=true
  .have h4:¬4<=k:=λhh=>h2 ⟨h3,hh⟩
   have hS:(cU.mk x y z k).shape=0:=by simp[cU.shape,h3]
   simp only[hS]at hC;simp[-length_flatMap,-map_take,Bk.bB,Bk.cells,f1,f2,f3,f4,cr,dq,hC,h4,D.clean,rf]
  .have hS:(cU.mk x y z k).shape=1:=by simp[cU.shape,h3]
   simp only[hS]at hC;simp[-length_flatMap,-map_take,Bk.bB,Bk.cells,f1,f2,f3,f4,cr,dq,hC,D.clean,rf]
 .rename_i h1;cases hd;have hz:(b.bz.f.x == 0 && (b.bz.f.y == 0 && (b.bz.f.z == 0 && b.bz.f.k == 0)))=false:=by
   cases hb:(b.bz.f.x == 0 && (b.bz.f.y == 0 && (b.bz.f.z == 0 && b.bz.f.k == 0)))with
   |false=>rfl
   |true =>
    simp only[ae,beq_iff_eq]at hb;exact absurd ⟨⟨hb.1,hb.2.1⟩,hb.2.2.1,hb.2.2.2⟩ h1
  simp[-length_flatMap,-map_take,Bk.bB,Bk.cells,hz,dq,D.clean,rf]
theorem Gy{k0 k1 k2:Int}(hJ:J≠[]):
  lim T (.call false 141 [.bP,.bP,.agg [.int .i64 k0,.int .i64 k1,.int .i64 k2],.int .i64 0] J) =
   some (.val (.db [if bW.sc k0 k1 k2 then .aJ 0 []else .bP,.int .i64 (if bW.sc k0 k1 k2 then 0 else 1)]) J):=by
 refine aw G8 tK.eq_1 rfl ?_;have hA:=λJ=>all_nil (T:=T) (J:=J) (fv:=.fn 182 [] []) (f:=183) (ag:=false) (w:=1) rfl rfl rfl rfl rfl rfl
 have hB:=λJ=>all_nil (T:=T) (J:=J) (fv:=.fn 185 [] []) (f:=184) (ag:=false) (w:=1) rfl rfl rfl rfl rfl rfl
 have hC:bW.TV 0=true:=by decide
 by_cases c1:1000<k0
 .have d1:¬k0<=1000:=by omega
  simp[-length_flatMap,-map_take,bW.sc,hA,hB,HF,hC,c1,d1]
 have d1:k0<=1000:=by omega
 by_cases c2:k0<k1
 .have d2:¬k1<=k0:=by omega
  simp[-length_flatMap,-map_take,bW.sc,hA,hB,HF,hC,c1,c2,d1,d2]
 have d2:k1<=k0:=by omega
 by_cases c3:k1<k2
 .have d3:¬k2<=k1:=by omega
  simp[-length_flatMap,-map_take,bW.sc,hA,hB,HF,hC,c1,c2,c3,d1,d2,d3]
 have d3:k2<=k1:=by omega
 by_cases c4:k2<0
 .have d4:¬0<=k2:=by omega
  simp[-length_flatMap,-map_take,bW.sc,hA,hB,HF,hC,c1,c2,c3,c4,d1,d2,d3,d4]
 have d4:0<=k2:=by omega
 simp[-length_flatMap,-map_take,bW.sc,hA,hB,HF,hC,c1,c2,c3,c4,d1,d2,d3,d4];refine aH s9.eq_1 ?_;simp[-length_flatMap,-map_take,d1,d2,d3,d4];have h3:¬J.length<=J.length-1:=by have:=aN.2 hJ;omega
 refine⟨[.dead],?_⟩;rw[Bj (by simp[D.bj,D.clean]) (by omega)];have h6:=yB (l:=J.length-1) (n:=15) (l':=J.length) (i:=0) (v:=0) (off:=0) (m:=0) (w:=1) (J:=[aA.aO.cells 0 []]::J) (cs:=[]) h3 (by simp) (by omega);simp only[Nat.reduceSub,cC.frzL,h6];simp
def NC(b:Bk)(k0 k1 k2:Int):Bk:={b with k0:=k0,k1:=k1,k2:=k2 }
theorem ZL{F:List aA.aO}{b:Bk}{er:List Int}{nm:List UInt8}{x y z:Int}(h:bW.sc x y z=true):
  lim T (.call false 102 [.ref J.length 6 0 0,.str nm,.aJ 3 [.int .i64 x,.int .i64 y,.int .i64 z]] (F::b.bB J.length er::J))=some (.val (.db []) (F::(NC b x y z).bB J.length er::J)):=by
 refine dN xj j4.eq_1 rfl (by simp) ?_;have hI:=λJ hJ=>Gy (J:=J) (k0:=x) (k1:=y) (k2:=z) hJ
 simp only[h,if_true]at hI;simp[-length_flatMap,-map_take,hI,UG,oQ,Bk.bB,Bk.cells,NC]
theorem Tc{F:List aA.aO}{b:Bk}{er:List Int}{nm:List UInt8}{x y z:Int}(h:bW.sc x y z=false):
  lim T (.call false 102 [.ref J.length 6 0 0,.str nm,.aJ 3 [.int .i64 x,.int .i64 y,.int .i64 z]] (F::b.bB J.length er::J))=some (.fp (rf 1) (F::b.bB J.length er::J)):=by
 refine dM xj j4.eq_1 rfl ?_;have hI:=λJ hJ=>Gy (J:=J) (k0:=x) (k1:=y) (k2:=z) hJ
 simp only[h]at hI;have hM:=λJ=>qX (J:=J) (e:=1) (by decide)
 simp[-length_flatMap,-map_take,hI,UG,hM,Bk.bB,Bk.cells,D.clean,rf]
theorem Mm{r:bW.dP}:lim T (.call false 140 [.aJ 1 r.enc,.bP,.int .i64 0] J)=some (.val (.db [.int .u8 0,.int .u8 0,.int .i64 (if r.ok then 0 else 1)]) J):=by
 refine aw yf ow.eq_1 rfl ?_;have hA:=λJ=>@OA J [r] (by simp)
 have hN:=λJ=>all_nil (T:=T) (J:=J) (fv:=.fn 177 [] []) (f:=176) (ag:=true) (w:=2) rfl rfl rfl rfl rfl rfl
 simp only[List.length_singleton,aS,bM,ct,fL,jh,List.all_nil,Bool.and_true]at hA;have w0:bW.cj 0 0 1000000=true:=by decide
 cases hr:r.ok
 .rw[hr]at hA;simp only[bW.dP.enc]at hA ⊢;simp[-length_flatMap,-map_take,hA]
 .rw[hr]at hA;have hc:=(bW.I4.1 hr).2.2.2.1;have c1:¬r.count<=0:=by omega
  simp only[bW.dP.enc]at hA ⊢;simp[-length_flatMap,-map_take,hA,hN,fC,w0];refine aH eJ.eq_1 ?_;simp[-length_flatMap,-map_take];refine aH iW.eq_1 ?_;simp[-length_flatMap,-map_take,c1];refine aH eJ.eq_1 ?_;simp[-length_flatMap,-map_take,c1]
def Bc(b:Bk)(r:bW.dP)(c:Int):Bk×Int :=
 if b.rules.length<20 then(if cj c 1 2=true then(if r.ok=true then({b with rules:=b.rules++[r] },0)else(b,1))else(b,1))else(b,3)
theorem Vk(l:List bW.dP):(l.flatMap bW.dP.enc).length=l.length*10:=bK (f:=bW.dP.enc) (w:=10) (λ_=>rfl) l
theorem ZQ{F:List aA.aO}{b:Bk}{er:List Int}{nm:List UInt8}{x0 x1 x2 x3 x4 x5 x6 x7 x8 x9:Int}{b':Bk}{e:Int}(hd:Bc b ⟨⟨x0,x1,x2⟩,⟨x3,x4,x5⟩,x6,x7,x8,x9⟩ x9=(b',e))(he:e=0):
  lim T (.call false 101 [.ref J.length 6 0 0,.str nm,.aJ 10 [.int .i64 x0,.int .i64 x1,.int .i64 x2,.int .i64 x3,.int .i64 x4,.int .i64 x5,.int .i64 x6,.int .i64 x7,.int .i64 x8,.int .i64 x9]] (F::b.bB J.length er::J))=some (.val (.db []) (F::b'.bB J.length er::J)):=by
 refine dN xl j6.eq_1 rfl (by simp) ?_;have hL:=λJ=>Mm (J:=J) (r:=⟨⟨x0,x1,x2⟩,⟨x3,x4,x5⟩,x6,x7,x8,x9⟩)
 unfold Bc at hd;split at hd
 case isFalse=>cases hd;cases he
 rename_i h1;split at hd
 case isFalse=>cases hd;cases he
 rename_i h2;split at hd
 case isFalse=>cases hd;cases he
 rename_i h3;cases hd;have h1':(b.rules.length:Int)<20:=by omega
 have h4:=bk.1 h2;have w1:IntKind.u8.wrap x9=x9:=wu8 (by omega);have w2:(b.rules.length+1)*80<=room:=by unfold room;omega
 have w3:=Vk b.rules;have w4:(b.rules.flatMap bW.dP.enc).take (b.rules.length*10)=b.rules.flatMap bW.dP.enc:=af (by omega);simp only[h3,if_true,bW.dP.enc]at hL;simp[-length_flatMap,-map_take,Bk.bB,Bk.cells,h1',eA,h2,cr,w1,hL,oQ,w2,w3,w4]
theorem Tr{F:List aA.aO}{b:Bk}{er:List Int}{nm:List UInt8}{x0 x1 x2 x3 x4 x5 x6 x7 x8 x9:Int}{b':Bk}{e:Int}(hd:Bc b ⟨⟨x0,x1,x2⟩,⟨x3,x4,x5⟩,x6,x7,x8,x9⟩ x9=(b',e))(he:e≠0):
  lim T (.call false 101 [.ref J.length 6 0 0,.str nm,.aJ 10 [.int .i64 x0,.int .i64 x1,.int .i64 x2,.int .i64 x3,.int .i64 x4,.int .i64 x5,.int .i64 x6,.int .i64 x7,.int .i64 x8,.int .i64 x9]] (F::b.bB J.length er::J))=some (.fp (rf e) (F::b.bB J.length er::J)):=by
 refine dM xl j6.eq_1 rfl ?_;have hL:=λJ=>Mm (J:=J) (r:=⟨⟨x0,x1,x2⟩,⟨x3,x4,x5⟩,x6,x7,x8,x9⟩)
 have hM:=λJ=>qX (J:=J) (e:=1) (by decide)
 unfold Bc at hd;split at hd
 .rename_i h1;have h1':(b.rules.length:Int)<20:=by omega
  split at hd
  .rename_i h2;have h4:=bk.1 h2;have w1:IntKind.u8.wrap x9=x9:=wu8 (by omega);split at hd
   .cases hd;exact absurd rfl he
   .rename_i h3;cases hd;have h3':bW.dP.ok ⟨⟨x0,x1,x2⟩,⟨x3,x4,x5⟩,x6,x7,x8,x9⟩=false:=by simpa using h3
    simp only[h3',bW.dP.enc]at hL;simp[-length_flatMap,-map_take,Bk.bB,Bk.cells,h1',eA,h2,cr,w1,hL,hM,D.clean,rf]
  .rename_i h2;cases hd;have h2':cj x9 1 2=false:=by simpa using h2
   simp[-length_flatMap,-map_take,Bk.bB,Bk.cells,h1',eA,h2',cr,dq,D.clean,rf]
 .rename_i h1;cases hd;have h1':¬(b.rules.length:Int)<20:=by omega
  simp[-length_flatMap,-map_take,Bk.bB,Bk.cells,h1',dq,D.clean,rf]
theorem vc{α:Type}{f:α->List D}{l:List α}:(nl f l).xe=.aJ l.length (l.flatMap f):=by
 unfold nl;split
 .rename_i h;subst h;rfl
 .rfl
theorem aal{l:List bJ}:(nl bJ.enc l).clean=true:=by unfold nl;split<;>simp[D.clean,bA]
theorem AK{b:cp}{tq wq:D}(htq:tq.xe=.aJ b.cn.length (b.cn.flatMap Rw.enc))(hwq:wq.xe=.aJ b.an.length (b.an.flatMap bJ.enc))(h1:b.cn.length<=1000000000)(h2:b.an.length<=1000000000):
  lim T (.call false 131 [.agg [.int .i64 b.f.x,.int .i64 b.f.y,.int .i64 b.f.z,.int .i64 b.f.k,tq,.int .i64 b.bL,.int .i64 b.lift,.int .i64 b.deep,wq]] J)=some (.val (.int .i64 (if b.valid then 0 else 1)) J):=by
 refine aw G6 tJ.eq_1 rfl ?_;have hB:=λJ=>B8 (J:=J) (b:=b) h1 h2
 cases hv:b.valid<;>rw[hv]at hB<;>simp[-length_flatMap,-map_take,htq,hwq,hB,cG,bA]
def Ll(b:Bk)(x y z:Int):Bk:={b with bz:={b.bz with bL:=x,lift:=y,deep:=z },ready:=true }
def EW(b:Bk)(x y z:Int):Bk×Int :=
 if((b.bz.f.x=0/\b.bz.f.y=0)/\b.bz.f.z=0/\b.bz.f.k=0)\/b.bz.cn=[]\/b.ready=true then(b,8)
 else if(Ll b x y z).bz.valid=true then(Ll b x y z,0)else(b,1)
theorem IG{f:cU}:(f.x == 0 && (f.y == 0 && (f.z == 0 && f.k == 0)))=decide ((f.x=0/\f.y=0)/\f.z=0/\f.k=0):=by
 by_cases h1:f.x=0<;>by_cases h2:f.y=0<;>by_cases h3:f.z=0<;>by_cases h4:f.k=0<;>simp[h1,h2,h3,h4]
theorem dW{α:Type}{f:α->List D}{l:List α}(h:l≠[]):nl f l=.aJ l.length (l.flatMap f):=if_neg h
theorem ZF{F:List aA.aO}{b:Bk}{er:List Int}{nm:List UInt8}{x y z:Int}{b':Bk}{e:Int}(h1:b.bz.cn.length<=1000000000)(h2:b.bz.an.length<=1000000000)(hd:EW b x y z=(b',e))(he:e=0):
  lim T (.call false 97 [.ref J.length 6 0 0,.str nm,.aJ 3 [.int .i64 x,.int .i64 y,.int .i64 z]] (F::b.bB J.length er::J))=some (.val (.db []) (F::b'.bB J.length er::J)):=by
 refine dN yb kQ.eq_1 rfl (by simp) ?_;unfold EW at hd;split at hd
 case isTrue=>cases hd;cases he
 rename_i h0;split at hd
 case isFalse=>cases hd;cases he
 rename_i h3;cases hd;have c1:(b.bz.f.x == 0 && (b.bz.f.y == 0 && (b.bz.f.z == 0 && b.bz.f.k == 0)))=false:=by rw[IG];simpa using λhh=>h0 (.inl hh)
 have c2:b.bz.cn≠[]:=λhh=>h0 (.inr (.inl hh))
 have c3:b.ready=false:=by cases hr:b.ready with | false=>rfl | true=>exact absurd (.inr (.inr hr)) h0
 have c4:0<b.bz.cn.length:=aN.2 c2;have hcl:(D.aJ b.bz.cn.length (b.bz.cn.flatMap Rw.enc)).clean=true:=by simp[D.clean,cG]
 have hC:=λJ=>AK (J:=J) (b:=(Ll b x y z).bz) (tq:=nl Rw.enc b.bz.cn) (wq:=nl bJ.enc b.bz.an) vc vc h1 h2
 rw[h3]at hC;simp only[dW c2,Ll]at hC;simp[-length_flatMap,-map_take,Bk.bB,Bk.cells,c1,dW c2,c4,c3,cr,oQ,hC,Ll,aal,hcl]
theorem S5{F:List aA.aO}{b:Bk}{er:List Int}{nm:List UInt8}{x y z:Int}{b':Bk}{e:Int}(h1:b.bz.cn.length<=1000000000)(h2:b.bz.an.length<=1000000000)(hd:EW b x y z=(b',e))(he:e≠0):
  lim T (.call false 97 [.ref J.length 6 0 0,.str nm,.aJ 3 [.int .i64 x,.int .i64 y,.int .i64 z]] (F::b.bB J.length er::J))=some (.fp (rf e) (F::b.bB J.length er::J)):=by
 refine dM yb kQ.eq_1 rfl ?_;have hM:=λJ=>qX (J:=J) (e:=1) (by decide)
 unfold EW at hd;split at hd
 .rename_i h0;cases hd;cases c1:(b.bz.f.x == 0 && (b.bz.f.y == 0 && (b.bz.f.z == 0 && b.bz.f.k == 0)))
  .by_cases c2:b.bz.cn=[]
   .simp[-length_flatMap,-map_take,Bk.bB,Bk.cells,c1,c2,nl,dq,D.clean,rf]
   .have c4:0<b.bz.cn.length:=aN.2 c2;have c3:b.ready=true:=by
     rw[IG]at c1;rcases h0 with h | h | h
     .exact absurd h (by simpa using c1)
     .exact absurd h c2
     .exact h
    simp[-length_flatMap,-map_take,Bk.bB,Bk.cells,c1,dW c2,c4,c3,dq,D.clean,rf]
  .simp[-length_flatMap,-map_take,Bk.bB,Bk.cells,c1,dq,D.clean,rf]
 .rename_i h0;split at hd
  .cases hd;exact absurd rfl he
  rename_i h3;cases hd;have c1:(b.bz.f.x == 0 && (b.bz.f.y == 0 && (b.bz.f.z == 0 && b.bz.f.k == 0)))=false:=by rw[IG];simpa using λhh=>h0 (.inl hh)
  have c2:b.bz.cn≠[]:=λhh=>h0 (.inr (.inl hh))
  have c3:b.ready=false:=by cases hr:b.ready with | false=>rfl | true=>exact absurd (.inr (.inr hr)) h0
  have c4:0<b.bz.cn.length:=aN.2 c2;have hC:=λJ=>AK (J:=J) (b:=(Ll b x y z).bz) (tq:=nl Rw.enc b.bz.cn) (wq:=nl bJ.enc b.bz.an) vc vc h1 h2
  have h3':(Ll b x y z).bz.valid=false:=by simpa using h3
  rw[h3']at hC;simp only[dW c2,Ll]at hC;simp[-length_flatMap,-map_take,Bk.bB,Bk.cells,c1,dW c2,c4,c3,cr,hM,hC,D.clean,rf]
theorem Il(l:List bJ):(l.flatMap bJ.enc).length=l.length*3:=bK (f:=bJ.enc) (w:=3) (λ_=>rfl) l
theorem J0{bs:List aA.aO}:lim T (.call true 132 [.bP] (bs::J))=some (.val (.sl J.length (bs.length+1) 0 0 0 3) ((bs++[.cells 0 [],.cells 0 []])::J)):=by
 refine xE tc fG.eq_1 rfl ?_;simp[-length_flatMap,-map_take]
theorem Mp{bs:List aA.aO}{l:List bJ}(hne:l≠[])(hl:l.length<=1000000):lim T (.call true 132 [.aJ l.length (l.flatMap bJ.enc)] (bs::J)) =
  some (.val (.sl J.length (bs.length+1) 1 0 l.length 3) ((bs++[.cells 0 [],.cells 1 (l.flatMap bJ.enc)])::J)):=by
 refine xE tc fG.eq_1 rfl ?_;have h7:l.length*24<=room:=by unfold room;omega
 simp[-length_flatMap,-map_take,hne,Il,h7]
def xx(b:Bk)(x y z:Int):Bk:={b with bz:={b.bz with an:=b.bz.an++[⟨x,y,z⟩] } }
def yr(b:Bk)(x y z:Int):Bk×Int :=
 if b.ready=true/\b.aj=[]then(if(xx b x y z).bz.valid=true then(xx b x y z,0)else(b,1))else(b,8)
theorem ZZ{F:List aA.aO}{b:Bk}{er:List Int}{nm:List UInt8}{x y z:Int}{b':Bk}{e:Int}(ht:b.bz.cn≠[])(h1:b.bz.cn.length<=1000000000)(h2:b.bz.an.length<=1000000)(hd:yr b x y z=(b',e))(he:e=0):
  lim T (.call false 98 [.ref J.length 6 0 0,.str nm,.aJ 3 [.int .i64 x,.int .i64 y,.int .i64 z]] (F::b.bB J.length er::J))=some (.val (.db []) (F::b'.bB J.length er::J)):=by
 refine dN xp ka.eq_1 rfl (by simp) ?_;unfold yr at hd;split at hd
 case isFalse=>cases hd;cases he
 rename_i h0;obtain⟨c1,c2⟩:=h0;split at hd
 case isFalse=>cases hd;cases he
 rename_i h3;cases hd;have hC:=λJ=>AK (J:=J) (b:=(xx b x y z).bz) (tq:=.aJ b.bz.cn.length (b.bz.cn.flatMap Rw.enc)) (wq:=.aJ (b.bz.an.length+1) (b.bz.an.flatMap bJ.enc++[.int .i64 x,.int .i64 y,.int .i64 z])) rfl (by simp[xx,D.xe]) h1 (by simp[xx];omega)
 rw[h3]at hC;simp only[xx]at hC;have hcl:(D.aJ b.bz.cn.length (b.bz.cn.flatMap Rw.enc)).clean=true:=by simp[D.clean,cG]
 have hroom:(b.bz.an.length+1)*24<=room:=by unfold room;omega
 have hlen:=Il b.bz.an;have htake:(b.bz.an.flatMap bJ.enc).take (b.bz.an.length*3)=b.bz.an.flatMap bJ.enc:=af (by omega);have hcw:D.bj (b.bz.an.flatMap bJ.enc++[.int .i64 x,.int .i64 y,.int .i64 z])=true:=by
  have:=bA (b.bz.an++[⟨x,y,z⟩]);simpa using this
 have hfr:∀(v:Nat) (S:SK),S.length=J.length+1+1->cC 0 16 (.sl (J.length+1+1) 1 v 0 (b.bz.an.length+1) 3) ([.cells 0 [],.cells v (b.bz.an.flatMap bJ.enc++[.int .i64 x,.int .i64 y,.int .i64 z])]::S) =
   (.aJ (b.bz.an.length+1) (b.bz.an.flatMap bJ.enc++[.int .i64 x,.int .i64 y,.int .i64 z]),[.cells 0 [],.dead]::S):=by
  intro v S hS;have:=DL (f:=bJ.enc) (w:=3) (λ_=>rfl) (λ_=>by simp[D.clean]) (l:=b.bz.an++[⟨x,y,z⟩]) (j:=1) (v:=v) (bs:=[aA.aO.cells 0 [],.cells v (b.bz.an.flatMap bJ.enc++[.int .i64 x,.int .i64 y,.int .i64 z])]) (J:=S) (by intro h;subst h;simp at hS) (by simp);rw[hS]at this;simpa using this
 have h24:24<=room:=by unfold room;omega
 have hcw2:(D.aJ (b.bz.an.length+1) (b.bz.an.flatMap bJ.enc++[.int .i64 x,.int .i64 y,.int .i64 z])).clean=true:=by simpa[D.clean]using hcw
 by_cases hw:b.bz.an=[]
 .have hfr':=hfr;simp only[hw,aV,bM,aQ,cJ]at hfr' hC;have ht':=dW (f:=Rw.enc) ht;simp only[nl]at ht';simp[-length_flatMap,-map_take,Bk.bB,Bk.cells,c1,c2,ht',hC,hw,nl,cr,oQ,J0,xx,hcl,h24,hfr']
 .simp[-length_flatMap,-map_take,Bk.bB,Bk.cells,c1,c2,dW ht,dW hw,cr,oQ,Mp hw h2,xx,hcl,hroom,hlen,htake,hfr,hC,hcw2];simp[nl]
theorem TA{F:List aA.aO}{b:Bk}{er:List Int}{nm:List UInt8}{x y z:Int}{b':Bk}{e:Int}(ht:b.ready=true->b.bz.cn≠[])(h1:b.bz.cn.length<=1000000000)(h2:b.bz.an.length<=1000000)(hd:yr b x y z=(b',e))(he:e≠0):
  lim T (.call false 98 [.ref J.length 6 0 0,.str nm,.aJ 3 [.int .i64 x,.int .i64 y,.int .i64 z]] (F::b.bB J.length er::J))=some (.fp (rf e) (F::b.bB J.length er::J)):=by
 refine dM xp ka.eq_1 rfl ?_;have hM:=λJ=>qX (J:=J) (e:=1) (by decide)
 have hrc:(D.va 116 (.agg [.int .i64 1])).clean=true:=rfl;unfold yr at hd;split at hd
 case isFalse h0 =>
  cases hd;cases c1:b.ready with
  |false=>simp[-length_flatMap,-map_take,Bk.bB,Bk.cells,c1,dq,D.clean,rf]
  |true =>
   have c2:b.aj≠[]:=λhh=>h0 ⟨c1,hh⟩
   have c2':((b.aj.length:Int) == 0)=false:=by simpa using c2
   simp[-length_flatMap,-map_take,Bk.bB,Bk.cells,c1,c2',dq,D.clean,rf]
 rename_i h0;obtain⟨c1,c2⟩:=h0;have ht:=ht c1;split at hd
 case isTrue=>cases hd;exact absurd rfl he
 rename_i h3;cases hd;have h3':(xx b x y z).bz.valid=false:=by simpa using h3
 have hC:=λJ=>AK (J:=J) (b:=(xx b x y z).bz) (tq:=.aJ b.bz.cn.length (b.bz.cn.flatMap Rw.enc)) (wq:=.aJ (b.bz.an.length+1) (b.bz.an.flatMap bJ.enc++[.int .i64 x,.int .i64 y,.int .i64 z])) rfl (by simp[xx,D.xe]) h1 (by simp[xx];omega)
 rw[h3']at hC;simp only[xx]at hC;have hcl:(D.aJ b.bz.cn.length (b.bz.cn.flatMap Rw.enc)).clean=true:=by simp[D.clean,cG]
 have hroom:(b.bz.an.length+1)*24<=room:=by unfold room;omega
 have hlen:=Il b.bz.an;have htake:(b.bz.an.flatMap bJ.enc).take (b.bz.an.length*3)=b.bz.an.flatMap bJ.enc:=af (by omega);have hcw:D.bj (b.bz.an.flatMap bJ.enc++[.int .i64 x,.int .i64 y,.int .i64 z])=true:=by
  have:=bA (b.bz.an++[⟨x,y,z⟩]);simpa using this
 have hfr:∀(v:Nat) (S:SK),S.length=J.length+1+1->cC 0 16 (.sl (J.length+1+1) 1 v 0 (b.bz.an.length+1) 3) ([.cells 0 [],.cells v (b.bz.an.flatMap bJ.enc++[.int .i64 x,.int .i64 y,.int .i64 z])]::S) =
   (.aJ (b.bz.an.length+1) (b.bz.an.flatMap bJ.enc++[.int .i64 x,.int .i64 y,.int .i64 z]),[.cells 0 [],.dead]::S):=by
  intro v S hS;have:=DL (f:=bJ.enc) (w:=3) (λ_=>rfl) (λ_=>by simp[D.clean]) (l:=b.bz.an++[⟨x,y,z⟩]) (j:=1) (v:=v) (bs:=[aA.aO.cells 0 [],.cells v (b.bz.an.flatMap bJ.enc++[.int .i64 x,.int .i64 y,.int .i64 z])]) (J:=S) (by intro h;subst h;simp at hS) (by simp);rw[hS]at this;simpa using this
 have h24:24<=room:=by unfold room;omega
 have hcw2:(D.aJ (b.bz.an.length+1) (b.bz.an.flatMap bJ.enc++[.int .i64 x,.int .i64 y,.int .i64 z])).clean=true:=by simpa[D.clean]using hcw
 by_cases hw:b.bz.an=[]
 .have hfr':=hfr;simp only[hw,aV,bM,aQ,cJ]at hfr' hC;have ht':=dW (f:=Rw.enc) ht;simp only[nl]at ht';simp[-length_flatMap,-map_take,Bk.bB,Bk.cells,c1,c2,ht',hC,hw,nl,cr,hM,J0,xx,hcl,h24,hfr',rf,hrc]
 .simp[-length_flatMap,-map_take,Bk.bB,Bk.cells,c1,c2,dW ht,dW hw,cr,hM,Mp hw h2,xx,hcl,hroom,hlen,htake,hfr,hC,hcw2,rf,hrc]
theorem Vn(l:List Rw):(l.flatMap Rw.enc).length=l.length*5:=bK (f:=Rw.enc) (w:=5) (λ_=>rfl) l
theorem ON{bp:D}(hb1:bp.calm=bp):∀(rs acc:List Rw),acc.length+rs.length<=1000000 ->
  WL T [0,2,6] false fZ [(0,bp),(2,.aJ (rs.length*5) (rs.flatMap Rw.enc)),(6,.sl J.length 0 acc.length 0 acc.length 5)] ([.cells acc.length (acc.flatMap Rw.enc)]::J)
   (λx e J'=>x=.exit 0/\get e 0=bp/\get e 6=.sl J.length 0 (acc++rs).length 0 (acc++rs).length 5/\J'=[.cells (acc++rs).length ((acc++rs).flatMap Rw.enc)]::J)
 |[],acc,h=>by
  refine aH fZ.eq_1 ?_;simp[-length_flatMap,-map_take,hb1]
 |r::rs,acc,h=>by
  refine aH fZ.eq_1 ?_;simp only[av]at h;have e1:(rs.length+1)*5=rs.length*5+5:=by omega
  have q0:(0:Int)<(rs.length:Int)*5+5:=by omega
  have q1:(1:Int)<(rs.length:Int)*5+5:=by omega
  have q2:(2:Int)<(rs.length:Int)*5+5:=by omega
  have q3:(3:Int)<(rs.length:Int)*5+5:=by omega
  have q4:(4:Int)<(rs.length:Int)*5+5:=by omega
  have q5:(5:Int)<=(rs.length:Int)*5+5:=by omega
  have hroom:(acc.length+1)*40<=room:=by unfold room;omega
  have hl:=Vn acc;have ht:(acc.flatMap Rw.enc).take (acc.length*5)=acc.flatMap Rw.enc:=af (by omega);have hl2:=Vn rs;have ht2:(rs.flatMap Rw.enc).take (rs.length*5)=rs.flatMap Rw.enc:=af (by omega);simp[-length_flatMap,-map_take,hb1,e1,q0,q1,q2,q3,q4,q5,hroom,hl,ht];refine WL.to (ON hb1 rs (acc++[r]) (by simp;omega)) (by simp[ht2]) (by simp) λx e J' hh=>?_
  simpa using hh
def PI(b:Bk)(t:List Rw):Bk:={b with bz:={b.bz with cn:=t } }
def xI(b:Bk)(t:List Rw):Bk×Int:=if b.bz.cn=[]then(if jV t=true then(PI b t,0)else(b,1))else(b,8)
theorem Ww{F:List aA.aO}{b:Bk}{er:List Int}{nm:List UInt8}{t:List Rw}{b':Bk}{e:Int}(hl:t.length<=1000000)(hd:xI b t=(b',e))(he:e=0):
  lim T (.call false 96 [.ref J.length 6 0 0,.str nm,.aJ (t.length*5) (t.flatMap Rw.enc)] (F::b.bB J.length er::J))=some (.val (.db []) (F::b'.bB J.length er::J)):=by
 refine dN wJ jw.eq_1 rfl (by simp) ?_;unfold xI at hd;split at hd
 case isFalse=>cases hd;cases he
 rename_i h0;split at hd
 case isFalse=>cases hd;cases he
 rename_i h3;cases hd;have hne:t≠[]:=by intro h;subst h;simp[jV,cj]at h3
 have hC:=λJ=>AL (J:=J) (l:=t) (by omega)
 rw[h3]at hC;have hL:=ON (J:=F::b.bB J.length er::J) (bp:=.ref J.length 6 0 0) rfl t [] (by simpa using hl);simp[-length_flatMap,-map_take,Bk.bB,Bk.cells,h0,nl,cr];refine WL.to hL (by simp) (by simp[Bk.bB,Bk.cells,h0,nl]) ?_;rintro x e J' ⟨rfl,g0,g6,rfl⟩;have hcl:(D.aJ t.length (t.flatMap Rw.enc)).clean=true:=by simp[D.clean,cG]
 have hfr:∀S:SK,S.length=J.length+1+1->cC 0 16 (.sl (J.length+1+1) 0 t.length 0 t.length 5) ([.cells t.length (t.flatMap Rw.enc)]::S)=(.aJ t.length (t.flatMap Rw.enc),[.dead]::S):=by
  intro S hS;have:=DL (f:=Rw.enc) (w:=5) (λ_=>rfl) (λ_=>by simp[D.clean]) (l:=t) (j:=0) (v:=t.length) (bs:=[aA.aO.cells t.length (t.flatMap Rw.enc)]) (J:=S) (by intro h;subst h;simp at hS) (by simp);rw[hS]at this;simpa using this
 simp[-length_flatMap,-map_take,g0,g6,hfr,hC,oQ,hcl,Bk.bB,Bk.cells,h0,nl,hne,PI];exact⟨rfl,rfl⟩
theorem RB{F:List aA.aO}{b:Bk}{er:List Int}{nm:List UInt8}{t:List Rw}{b':Bk}{e:Int}(hl:t.length<=1000000)(hd:xI b t=(b',e))(he:e≠0):
  lim T (.call false 96 [.ref J.length 6 0 0,.str nm,.aJ (t.length*5) (t.flatMap Rw.enc)] (F::b.bB J.length er::J))=some (.fp (rf e) (F::b.bB J.length er::J)):=by
 refine dM wJ jw.eq_1 rfl ?_;have hM:=λJ=>qX (J:=J) (e:=1) (by decide)
 have hrc:(D.va 116 (.agg [.int .i64 1])).clean=true:=rfl;unfold xI at hd;split at hd
 case isFalse h0 =>
  cases hd;have h0':((b.bz.cn.length:Int) == 0)=false:=by simpa using h0
  simp[-length_flatMap,-map_take,Bk.bB,Bk.cells,dW h0,h0',dq,D.clean,rf]
 rename_i h0;split at hd
 case isTrue=>cases hd;exact absurd rfl he
 rename_i h3;cases hd;have h3':jV t=false:=by simpa using h3
 have hC:=λJ=>AL (J:=J) (l:=t) (by omega)
 rw[h3']at hC;have hL:=ON (J:=F::b.bB J.length er::J) (bp:=.ref J.length 6 0 0) rfl t [] (by simpa using hl);simp[-length_flatMap,-map_take,Bk.bB,Bk.cells,h0,nl,cr];refine WL.to hL (by simp) (by simp[Bk.bB,Bk.cells,h0,nl]) ?_;rintro x e J' ⟨rfl,g0,g6,rfl⟩;have hcl:(D.aJ t.length (t.flatMap Rw.enc)).clean=true:=by simp[D.clean,cG]
 have hfr:∀S:SK,S.length=J.length+1+1->cC 0 16 (.sl (J.length+1+1) 0 t.length 0 t.length 5) ([.cells t.length (t.flatMap Rw.enc)]::S)=(.aJ t.length (t.flatMap Rw.enc),[.dead]::S):=by
  intro S hS;have:=DL (f:=Rw.enc) (w:=5) (λ_=>rfl) (λ_=>by simp[D.clean]) (l:=t) (j:=0) (v:=t.length) (bs:=[aA.aO.cells t.length (t.flatMap Rw.enc)]) (J:=S) (by intro h;subst h;simp at hS) (by simp);rw[hS]at this;simpa using this
 simp[-length_flatMap,-map_take,g0,g6,hfr,hC,hM,hcl,Bk.bB,Bk.cells,h0,nl,rf,hrc]
@[simp] theorem afs{α:Type}{f:α->List D}{l:List α}:Uz (nl f l)=some (.int .i64 l.length):=by
 unfold nl;split
 .rename_i h;subst h;rfl
 .rfl
@[simp] theorem aeP{α:Type}{f:α->List D}{l:List α}:(nl f l).strip=nl f l:=by unfold nl;split<;>rfl
theorem Ml{x:bW.Ev}(hs:x.sp.length<=9223372036854775807):lim T (.call false 140 [.bP,.aJ 1 x.enc,.int .i64 0] J)=some (.val (.db [.int .u8 0,.int .u8 0,.int .i64 (if x.ok then 0 else 1)]) J):=by
 refine aw yf ow.eq_1 rfl ?_;have hA:=λJ=>@S4 J [x] (by simp) (by simpa using hs)
 have hN:=λJ=>all_nil (T:=T) (J:=J) (fv:=.fn 175 [] []) (f:=174) (ag:=true) (w:=10) rfl rfl rfl rfl rfl rfl
 simp only[List.length_singleton,aS,bM,ct,fL,jh,List.all_nil,Bool.and_true]at hA;have w0:bW.cj 0 0 1000000=true:=by decide
 cases hr:x.ok
 .rw[hr]at hA;simp only[bW.Ev.enc]at hA ⊢;simp[-length_flatMap,-map_take,hA,hN]
 .rw[hr]at hA;simp only[bW.Ev.enc]at hA ⊢;simp[-length_flatMap,-map_take,hA,hN,fC,w0];refine aH eJ.eq_1 ?_;simp[-length_flatMap,-map_take]
def Yn(L:Nat)(acc:List bW.xC):D:=.sl L 0 acc.length 0 acc.length 4
def VZ(acc:List bW.xC):List aA.aO:=[.cells acc.length (acc.flatMap bW.xC.enc)]
theorem Q8(l:List bW.xC):(l.flatMap bW.xC.enc).length=l.length*4:=bK (f:=bW.xC.enc) (w:=4) (λ_=>rfl) l
theorem La{bp:D}(hb1:bp.calm=bp){tk:Int}:∀(rs acc:List bW.xC),acc.length+rs.length<=1000000 ->
  WL T [0,2,6] false fX [(0,bp),(2,.aJ (rs.length*4) (rs.flatMap bW.xC.enc)),(6,.own 0 [.int .i64 tk,Yn J.length acc])] (VZ acc::J)
   (λx e J'=>x=.exit 0/\get e 0=bp/\get e 6=.own 0 [.int .i64 tk,Yn J.length (acc++rs)]/\get e 1000006=.undef/\J'=VZ (acc++rs)::J)
 |[],acc,h=>by
  refine aH fX.eq_1 ?_;simp[-length_flatMap,-map_take,hb1]
 |r::rs,acc,h=>by
  refine aH fX.eq_1 ?_;simp only[av]at h;have e1:(rs.length+1)*4=rs.length*4+4:=by omega
  have q0:(0:Int)<(rs.length:Int)*4+4:=by omega
  have q1:(1:Int)<(rs.length:Int)*4+4:=by omega
  have q2:(2:Int)<(rs.length:Int)*4+4:=by omega
  have q3:(3:Int)<(rs.length:Int)*4+4:=by omega
  have q4:(4:Int)<=(rs.length:Int)*4+4:=by omega
  have hroom:(acc.length+1)*32<=room:=by unfold room;omega
  have h32:32<=room:=by unfold room;omega
  have hl:=Q8 acc;have ht:(acc.flatMap bW.xC.enc).take (acc.length*4)=acc.flatMap bW.xC.enc:=af (by omega);have hl2:=Q8 rs;have ht2:(rs.flatMap bW.xC.enc).take (rs.length*4)=rs.flatMap bW.xC.enc:=af (by omega);simp[-length_flatMap,-map_take,hb1,e1,q0,q1,q2,q3,q4,hroom,hl,ht,Yn,VZ];refine WL.to (La hb1 (tk:=tk) rs (acc++[r]) (by simp;omega)) (by simp[ht2,Yn,VZ]) (by simp[VZ]) λx e J' hh=>?_
  simpa[Yn,VZ]using hh
def LS(b:Bk)(x:bW.Ev):Bk:={b with Al:=b.Al++[x] }
def xH(b:Bk)(sp:List bW.xC):Bk×Int:=if b.Al.length<200 then(if bW.Ev.ok ⟨b.aD.length,sp⟩=true then(LS b ⟨b.aD.length,sp⟩,0)else(b,1))else(b,3)
theorem aaw(l:List bW.Ev):(l.flatMap bW.Ev.enc).length=l.length*2:=bK (f:=bW.Ev.enc) (w:=2) (λ_=>rfl) l
theorem Ul{S:SK}{L:Nat}(hS:S.length=L)(hL:0<L){sp:List bW.xC}{tk:Int}:cC.frzL (cC 0 16) [.int .i64 tk,Yn L sp] (VZ sp::S)=([.int .i64 tk,.aJ sp.length (sp.flatMap bW.xC.enc)],[.dead]::S):=by
 have hf:=DL (f:=bW.xC.enc) (w:=4) (λ_=>rfl) (λ_=>by simp[D.clean]) (l:=sp) (j:=0) (v:=sp.length) (bs:=[aA.aO.cells sp.length (sp.flatMap bW.xC.enc)]) (J:=S) (by intro h;subst h;simp at hS;omega) (by simp);rw[hS]at hf;simp[Yn,VZ,hf]
theorem Wn{F:List aA.aO}{b:Bk}{er:List Int}{nm:List UInt8}{sp:List bW.xC}{b':Bk}{e:Int}(hl:sp.length<=1000000)(hd:xH b sp=(b',e))(he:e=0):
  lim T (.call false 103 [.ref J.length 6 0 0,.str nm,.aJ (sp.length*4) (sp.flatMap bW.xC.enc)] (F::b.bB J.length er::J))=some (.val (.db []) (F::b'.bB J.length er::J)):=by
 refine dN wI jv.eq_1 rfl (by simp) ?_;unfold xH at hd;split at hd
 case isFalse=>cases hd;cases he
 rename_i h1;split at hd
 case isFalse=>cases hd;cases he
 rename_i h2;cases hd;have h1':(b.Al.length:Int)<200:=by omega
 have hC:=λJ=>Ml (J:=J) (x:=⟨b.aD.length,sp⟩) (by simp;omega)
 simp only[h2,if_true,bW.Ev.enc]at hC;have hL:=La (J:=F::b.bB J.length er::J) (bp:=.ref J.length 6 0 0) rfl (tk:=b.aD.length) sp [] (by simpa using hl);have hne:sp≠[]:=by
  intro hh;subst hh;simp[bW.Ev.ok,bW.cj]at h2
 simp[-length_flatMap,-map_take,Bk.bB,Bk.cells,h1',cr];refine WL.to hL (by simp[Yn]) (by simp[Bk.bB,Bk.cells,VZ]) ?_;rintro x e J' ⟨rfl,g0,g6,gu,rfl⟩;have hf:=λS hS=>Ul (S:=S) (L:=J.length+1+1) hS (by omega) (sp:=sp) (tk:=b.aD.length)
 have w2:(b.Al.length+1)*32<=room:=by unfold room;omega
 have w3:=aaw b.Al;have w4:(b.Al.flatMap bW.Ev.enc).take (b.Al.length*2)=b.Al.flatMap bW.Ev.enc:=af (by omega);have hcl:D.bj (sp.flatMap bW.xC.enc)=true:=cT (λ_=>by simp[D.clean]) sp;simp only[aQ]at g6;simp[-length_flatMap,-map_take,g0,g6,gu,hf,hC,oQ,Bk.bB,Bk.cells,LS,w2,w3,w4,hcl]
theorem Ru{F:List aA.aO}{b:Bk}{er:List Int}{nm:List UInt8}{sp:List bW.xC}{b':Bk}{e:Int}(hl:sp.length<=1000000)(hd:xH b sp=(b',e))(he:e≠0):
  lim T (.call false 103 [.ref J.length 6 0 0,.str nm,.aJ (sp.length*4) (sp.flatMap bW.xC.enc)] (F::b.bB J.length er::J))=some (.fp (rf e) (F::b.bB J.length er::J)):=by
 refine dM wI jv.eq_1 rfl ?_;have hM:=λJ=>qX (J:=J) (e:=1) (by decide)
 have hrc:(D.va 116 (.agg [.int .i64 1])).clean=true:=rfl;unfold xH at hd;split at hd
 case isFalse h1 =>
  cases hd;have h1':¬(b.Al.length:Int)<200:=by omega
  simp[-length_flatMap,-map_take,Bk.bB,Bk.cells,h1',dq,D.clean,rf]
 rename_i h1;split at hd
 case isTrue=>cases hd;exact absurd rfl he
 rename_i h2;cases hd;have h1':(b.Al.length:Int)<200:=by omega
 have h2':bW.Ev.ok ⟨b.aD.length,sp⟩=false:=by simpa using h2
 have hC:=λJ=>Ml (J:=J) (x:=⟨b.aD.length,sp⟩) (by simp;omega)
 simp only[h2',bW.Ev.enc]at hC;have hL:=La (J:=F::b.bB J.length er::J) (bp:=.ref J.length 6 0 0) rfl (tk:=b.aD.length) sp [] (by simpa using hl);simp[-length_flatMap,-map_take,Bk.bB,Bk.cells,h1',cr];refine WL.to hL (by simp[Yn]) (by simp[Bk.bB,Bk.cells,VZ]) ?_;rintro x e J' ⟨rfl,g0,g6,gu,rfl⟩;have hf:=λS hS=>Ul (S:=S) (L:=J.length+1+1) hS (by omega) (sp:=sp) (tk:=b.aD.length)
 have hcl:D.bj (sp.flatMap bW.xC.enc)=true:=cT (λ_=>by simp[D.clean]) sp;simp only[aQ]at g6;simp[-length_flatMap,-map_take,g0,g6,gu,hf,hC,hM,Bk.bB,Bk.cells,hcl,rf,hrc]
theorem CT{a b c:Int}:lim T (.call false 240 [.int .i64 a,.int .i64 b,.int .i64 c] J)=some (.val (.bool (cj a b c)) J):=by
 refine aw H3 uN.eq_1 rfl ?_;by_cases h:b<=a<;>simp[-length_flatMap,-map_take,h,cj]
theorem RC{p:Prt}{last:Int}:lim T (.call false 242 [.agg p.enc,.ref J.length 0 0 0] ([]::[]::[]::[]::[.cells 0 [.int .i64 last]]::J))=some (.val (.bool (p.ok last)) ([]::[]::[]::[]::[.cells 0 [.int .i64 p.xh]]::J)):=by
 refine dN Cg mD.eq_1 rfl (by simp) ?_;cases h:cj p.xh 0 last<;>simp[-length_flatMap,-map_take,CT,h,Prt.ok]
theorem ME{u:yY}(hl:u.parts.length<=1000000000):lim T (.call false 196 [.agg u.enc] J)=some (.val (.bool u.ok) J):=by
 refine aw DW oX.eq_1 rfl ?_;have hA:=Li (yt 2 Prt.enc (λ_=>rfl)) (T:=T) (S:=λi=>[.cells 0 [.int .i64 (xi u.parts i)]]::J) (fv:=.fn 242 [] [.ref J.length 0 0 0]) (l:=u.parts) (p:=DJ u.parts)
  (f:=241) (g:=275) (h:=274) (i:=289) rfl rfl rfl rfl (by omega) rfl rfl rfl (λ_=>rfl) (λi x hx=>by
   rw[td];have h:=RC (J:=J) (p:=x) (last:=xi u.parts i);have e1:xi u.parts (i+1)=x.xh:=by simp[xi,hx]
   have e2:DJ u.parts i=x.ok (xi u.parts i):=by simp[DJ,hx]
   have h':lim T (.call false 242 ([]++[(yt 2 Prt.enc (λ_=>rfl)).val x]++[.ref J.length 0 0 0]) ([]::[]::[]::[]::[.cells 0 [.int .i64 (xi u.parts i)]]::J))=_:=h;rw[h',e1,e2];rfl)
 have hb:(!(qD (λi => !DJ u.parts i) 0 u.parts.length).1)=zW 1000 u.parts:=by
  have h1:=Df (q:=λi => !DJ u.parts i) (m:=u.parts.length) (i:=0);have h2:=RS (l:=u.parts);cases hf:zW 1000 u.parts
  .cases hs:(qD (λi => !DJ u.parts i) 0 u.parts.length).1
   .have h3:=h1.1 hs;have h4:=h2.2 λj hj=>by simpa using h3 j hj
    rw[hf]at h4;cases h4
   .rfl
  .have h3:=h2.1 hf;have h4:=h1.2 λj hj=>by simp[h3 j hj]
   rw[h4];rfl
 rw[hb]at hA;have e0:xi u.parts 0=1000:=rfl;have hA':lim T (.call false 241 [.aJ u.parts.length (u.parts.flatMap Prt.enc),.fn 242 [] [.ref J.length 0 0 0]] ([.cells 0 [.int .i64 1000]]::J))=_:=hA;cases h1:cj u.E6 0 5
 .simp[-length_flatMap,-map_take,CT,h1,yY.ok]
 cases h2:cj u.parts.length 1 8
 .simp[-length_flatMap,-map_take,CT,h1,h2,yY.ok]
 simp[-length_flatMap,-map_take,CT,h1,h2,yY.ok,hA']
theorem Gx{u:yY}(hl:u.parts.length<=1000000000):lim T (.call false 148 [.agg u.enc] J)=some (.val (.int .i64 (if u.ok then 0 else 1)) J):=by
 refine aw EF ri.eq_1 rfl ?_;have hC:=λJ=>ME (J:=J) hl
 simp only[yY.enc]at hC ⊢;cases hc:u.ok<;>rw[hc]at hC<;>simp[-length_flatMap,-map_take,hC]
def X5(L:Nat)(acc:List Prt):D:=.sl L 0 acc.length 0 acc.length 2
def VW(acc:List Prt):List aA.aO:=[.cells acc.length (acc.flatMap Prt.enc)]
theorem Hv(l:List Prt):(l.flatMap Prt.enc).length=l.length*2:=bK (f:=Prt.enc) (w:=2) (λ_=>rfl) l
theorem K6{bp:D}(hb1:bp.calm=bp){tk:Int}:∀(rs acc:List Prt),acc.length+rs.length<=1000000 ->
  WL T [0,2,6] false gG [(0,bp),(2,.aJ (rs.length*2) (rs.flatMap Prt.enc)),(6,.own 0 [.int .i64 tk,X5 J.length acc])] (VW acc::J)
   (λx e J'=>x=.exit 0/\get e 0=bp/\get e 6=.own 0 [.int .i64 tk,X5 J.length (acc++rs)]/\get e 1000006=.undef/\J'=VW (acc++rs)::J)
 |[],acc,h=>by
  refine aH gG.eq_1 ?_;simp[-length_flatMap,-map_take,hb1]
 |r::rs,acc,h=>by
  refine aH gG.eq_1 ?_;simp only[av]at h;have e1:(rs.length+1)*2=rs.length*2+2:=by omega
  have q0:(0:Int)<(rs.length:Int)*2+2:=by omega
  have q1:(1:Int)<(rs.length:Int)*2+2:=by omega
  have q2:(2:Int)<=(rs.length:Int)*2+2:=by omega
  have hroom:(acc.length+1)*16<=room:=by unfold room;omega
  have h32:16<=room:=by unfold room;omega
  have hl:=Hv acc;have ht:(acc.flatMap Prt.enc).take (acc.length*2)=acc.flatMap Prt.enc:=af (by omega);have hl2:=Hv rs;have ht2:(rs.flatMap Prt.enc).take (rs.length*2)=rs.flatMap Prt.enc:=af (by omega);simp[-length_flatMap,-map_take,hb1,e1,q0,q1,q2,hroom,hl,ht,X5,VW];refine WL.to (K6 hb1 (tk:=tk) rs (acc++[r]) (by simp;omega)) (by simp[ht2,X5,VW]) (by simp[VW]) λx e J' hh=>?_
  simpa[X5,VW]using hh
def Ri(b:Bk)(u:yY):Bk:={b with ew:=b.ew++[u] }
def Be(b:Bk)(u:yY):Bk×Int:=if b.ew.length<10 then(if u.ok=true then(Ri b u,0)else(b,1))else(b,3)
theorem Rj(l:List yY):(l.flatMap yY.enc).length=l.length*2:=bK (f:=yY.enc) (w:=2) (λ_=>rfl) l
theorem Uk{S:SK}{L:Nat}(hS:S.length=L)(hL:0<L){pt:List Prt}{tk:Int}:cC.frzL (cC 0 16) [.int .i64 tk,X5 L pt] (VW pt::S)=([.int .i64 tk,.aJ pt.length (pt.flatMap Prt.enc)],[.dead]::S):=by
 have hf:=DL (f:=Prt.enc) (w:=2) (λ_=>rfl) (λ_=>by simp[D.clean]) (l:=pt) (j:=0) (v:=pt.length) (bs:=[aA.aO.cells pt.length (pt.flatMap Prt.enc)]) (J:=S) (by intro h;subst h;simp at hS;omega) (by simp);rw[hS]at hf;simp[X5,VW,hf]
theorem A9{l:List Prt}:D.bj (l.flatMap Prt.enc)=true:=cT (λ_=>by simp[D.clean]) l
theorem ZW{F:List aA.aO}{b:Bk}{er:List Int}{nm:List UInt8}{u:yY}{b':Bk}{e:Int}(hl:u.parts.length<=1000000)(hd:Be b u=(b',e))(he:e=0):
  lim T (.call false 106 [.ref J.length 6 0 0,.str nm,.aJ (u.parts.length*2+1) (.int .i64 u.E6::u.parts.flatMap Prt.enc)] (F::b.bB J.length er::J))=some (.val (.db []) (F::b'.bB J.length er::J)):=by
 refine dN xo j9.eq_1 rfl (by simp) ?_;unfold Be at hd;split at hd
 case isFalse=>cases hd;cases he
 rename_i h1;split at hd
 case isFalse=>cases hd;cases he
 rename_i h2;cases hd;have h1':(b.ew.length:Int)<10:=by omega
 have hC:=λJ=>Gx (J:=J) (u:=u) (by omega)
 simp only[h2,if_true,yY.enc]at hC;have hL:=K6 (J:=F::b.bB J.length er::J) (bp:=.ref J.length 6 0 0) rfl (tk:=u.E6) u.parts [] (by simpa using hl);have hne:u.parts≠[]:=by
  intro hh;simp[yY.ok,cj,hh]at h2
 have q0:(0:Int)<(u.parts.length:Int)*2+1:=by omega
 have q1:(1:Int)<=(u.parts.length:Int)*2+1:=by omega
 have hlp:=Hv u.parts;have htp:(u.parts.flatMap Prt.enc).take (u.parts.length*2)=u.parts.flatMap Prt.enc:=af (by omega);simp[-length_flatMap,-map_take,Bk.bB,Bk.cells,h1',cr,q0,q1];refine WL.to hL (by simp[X5,htp]) (by simp[Bk.bB,Bk.cells,VW]) ?_;rintro x e J' ⟨rfl,g0,g6,gu,rfl⟩;have hf:=λS hS=>Uk (S:=S) (L:=J.length+1+1) hS (by omega) (pt:=u.parts) (tk:=u.E6)
 have w2:(b.ew.length+1)*32<=room:=by unfold room;omega
 have w3:=Rj b.ew;have w4:(b.ew.flatMap yY.enc).take (b.ew.length*2)=b.ew.flatMap yY.enc:=af (by omega);simp only[aQ]at g6;simp[-length_flatMap,-map_take,g0,g6,gu,hf,hC,oQ,Bk.bB,Bk.cells,Ri,w2,w3,w4,A9]
theorem Tx{F:List aA.aO}{b:Bk}{er:List Int}{nm:List UInt8}{u:yY}{b':Bk}{e:Int}(hl:u.parts.length<=1000000)(hd:Be b u=(b',e))(he:e≠0):
  lim T (.call false 106 [.ref J.length 6 0 0,.str nm,.aJ (u.parts.length*2+1) (.int .i64 u.E6::u.parts.flatMap Prt.enc)] (F::b.bB J.length er::J))=some (.fp (rf e) (F::b.bB J.length er::J)):=by
 refine dM xo j9.eq_1 rfl ?_;have hM:=λJ=>qX (J:=J) (e:=1) (by decide)
 have hrc:(D.va 116 (.agg [.int .i64 1])).clean=true:=rfl;unfold Be at hd;split at hd
 case isFalse h1 =>
  cases hd;have h1':¬(b.ew.length:Int)<10:=by omega
  simp[-length_flatMap,-map_take,Bk.bB,Bk.cells,h1',dq,D.clean,rf]
 rename_i h1;split at hd
 case isTrue=>cases hd;exact absurd rfl he
 rename_i h2;cases hd;have h1':(b.ew.length:Int)<10:=by omega
 have h2':u.ok=false:=by simpa using h2
 have hC:=λJ=>Gx (J:=J) (u:=u) (by omega)
 simp only[h2',yY.enc]at hC;have hL:=K6 (J:=F::b.bB J.length er::J) (bp:=.ref J.length 6 0 0) rfl (tk:=u.E6) u.parts [] (by simpa using hl);have q0:(0:Int)<(u.parts.length:Int)*2+1:=by omega
 have q1:(1:Int)<=(u.parts.length:Int)*2+1:=by omega
 have hlp:=Hv u.parts;have htp:(u.parts.flatMap Prt.enc).take (u.parts.length*2)=u.parts.flatMap Prt.enc:=af (by omega);simp[-length_flatMap,-map_take,Bk.bB,Bk.cells,h1',cr,q0,q1];refine WL.to hL (by simp[X5,htp]) (by simp[Bk.bB,Bk.cells,VW]) ?_;rintro x e J' ⟨rfl,g0,g6,gu,rfl⟩;have hf:=λS hS=>Uk (S:=S) (L:=J.length+1+1) hS (by omega) (pt:=u.parts) (tk:=u.E6)
 simp only[aQ]at g6;simp[-length_flatMap,-map_take,g0,g6,gu,hf,hC,hM,Bk.bB,Bk.cells,A9,rf,hrc]
def Aa(b:cp)(m:bE):D:=if Bd b m then SY (dH b m)else .bP
theorem MY{b:cp}{m:bE}:(Aa b m).clean=true:=by
 unfold Aa;split
 .simp[SY,cT (f:=aI.aO.enc) (λ_=>by simp[D.clean])]
 .simp
theorem Od{b:cp}{m:bE}:(Aa b m).strip=Aa b m:=by unfold Aa;split<;>rfl
theorem MU{b:cp}{m:bE}:(Aa b m).calm=Aa b m:=by unfold Aa;split<;>rfl
theorem PQ{b:cp}{m:bE}{tq wq:D}(htq:tq.xe=.aJ b.cn.length (b.cn.flatMap Rw.enc))(hwq:wq.xe=.aJ b.an.length (b.an.flatMap bJ.enc))(h1:b.cn.length<=1000000000)(h2:b.an.length<=1000000000)(hn:m.name.length<=1000000000)(hl:m.aU.length<=1000000000)(hJ:J≠[]):
  lim T (.call false 135 [.agg [.int .i64 b.f.x,.int .i64 b.f.y,.int .i64 b.f.z,.int .i64 b.f.k,tq,.int .i64 b.bL,.int .i64 b.lift,.int .i64 b.deep,wq],.agg [.str m.name,.aJ m.aU.length (m.aU.flatMap aM)]] J)=some (.val (.db [Aa b m,.int .i64 (if Bd b m then 0 else 1)]) J):=by
 unfold Aa;cases hb:Bd b m
 .refine aw EK uP.eq_1 rfl ?_;obtain⟨d,hd,hd1,hd2⟩:=PR (J:=[]::J) h1 h2 hn hl hb;simp[-length_flatMap,-map_take,htq,hwq,hd,hd1,hd2,cG,bA,bh]
 .refine aw EK uP.eq_1 rfl ?_;have hd:=λJ=>YH (J:=J) h1 h2 hn hl hb
  have hf:=λJ hJ=>FG (J:=J) (b:=b) (m:=m) (Fv.of hb) hJ
  have hcl:(SY (dH b m)).clean=true:=by simp[SY,cT (f:=aI.aO.enc) (λ_=>by simp[D.clean])]
  have hs1:(SY (dH b m)).strip=SY (dH b m):=rfl;have hs2:(SY (dH b m)).calm=SY (dH b m):=rfl;simp[-length_flatMap,-map_take,htq,hwq,hd,hf,hs1,hs2,hcl,cG,bA,bh]
theorem Tf{e:fK}{nm:List UInt8}:lim T (.call false 134 [.agg e.enc,.bq [.str nm]] J)=some (.val (.bool (e.m.name == nm)) J):=by
 refine aw AR kr.eq_1 rfl ?_;simp[-length_flatMap,-map_take,lX]
theorem EY(l:List fK):(l.flatMap fK.enc).length=l.length*4:=bK (f:=fK.enc) (w:=4) (λ_=>rfl) l
theorem Rk(l:List Mj):(l.flatMap Mj.enc).length=l.length*4:=bK (f:=Mj.enc) (w:=4) (λ_=>rfl) l
theorem J2{b:Bk}{er:List Int}{nm:List UInt8}{S:SK}(hl:b.aj.length<=1000000)(hs:fw S J.length=some (b.bB J.length er)):
  lim T (.call false 133 [.sl J.length 0 b.aj.length 0 b.aj.length 4,.fn 134 [] [.bq [.str nm]]] S)=some (.val (.bool (tV b.aj λe=>e.m.name == nm)) S) :=
 DG (enc:=fK.enc) (w:=4) (λ_=>rfl) (F:=b.bB J.length er) (bi:=0) (v:=b.aj.length) (l:=b.aj) (i:=168) rfl rfl (by simp[Bk.bB]) (by omega)
  ⟨rfl,rfl,λe _ J=>by rw[td];have h:=Tf (J:=J) (e:=e) (nm:=nm);have h':lim T (.call false 134 ([]++[.agg e.enc]++[.bq [.str nm]]) J)=_:=h;rw[h'];rfl⟩ hs
def Gd(b:Bk)(m:bE):Bk:={b with aj:=b.aj++[⟨m,true,0⟩],kN:=b.kN++[⟨0,0,0,0⟩] }
def za(b:Bk)(m:bE):Bk×Int :=
 if b.ready=true/\b.aD=[]then
  (if(tV b.aj λe=>e.m.name == m.name)=true then(b,6)else if b.aj.length<40 then(if Bd b.bz m=true then(Gd b m,0)else(b,1))else(b,3))
 else(b,8)
theorem Tg{F:List aA.aO}{b:Bk}{er:List Int}{m:bE}{b':Bk}{e:Int}(h1:b.bz.cn.length<=1000000000)(h2:b.bz.an.length<=1000000000)(hn:m.name.length<=1000000000)(hl:m.aU.length<=1000000000)(hw:b.kN.length=b.aj.length)(hd:za b m=(b',e))(he:e=0):
  lim T (.call false 99 [.ref J.length 6 0 0,.str m.name,.aJ m.aU.length (m.aU.flatMap aM)] (F::b.bB J.length er::J))=some (.val (.db []) (F::b'.bB J.length er::J)):=by
 refine dN wH ju.eq_1 rfl (by simp) ?_;unfold za at hd;split at hd
 case isFalse=>cases hd;cases he
 rename_i c0;obtain⟨c1,c2⟩:=c0;split at hd
 case isTrue=>cases hd;cases he
 rename_i c3;split at hd
 case isFalse=>cases hd;cases he
 rename_i c4;split at hd
 case isFalse=>cases hd;cases he
 rename_i c5;cases hd;have c3':(tV b.aj λe=>e.m.name == m.name)=false:=by simpa using c3
 have c4':(b.aj.length:Int)<40:=by omega
 have hH:=λS=>J2 (J:=J) (b:=b) (er:=er) (nm:=m.name) (S:=S) (by omega)
 simp only[c3']at hH;have hS:=λS hJ=>PQ (J:=S) (b:=b.bz) (m:=m) (tq:=nl Rw.enc b.bz.cn) (wq:=nl bJ.enc b.bz.an) vc vc h1 h2 hn hl hJ
 simp only[c5]at hS;simp only[Bk.bB,Bk.cells]at hH;have w2:(b.aj.length+1)*56<=room:=by unfold room;omega
 have w3:=EY b.aj;have w4:(b.aj.flatMap fK.enc).take (b.aj.length*4)=b.aj.flatMap fK.enc:=af (by omega);have w5:(b.kN.length+1)*32<=room:=by unfold room;omega
 have w6:=Rk b.kN;have w7:(b.kN.flatMap Mj.enc).take (b.kN.length*4)=b.kN.flatMap Mj.enc:=af (by omega);simp[-length_flatMap,-map_take,Bk.bB,Bk.cells,c1,c2,hH,c4',hS,MY,Od,MU,Q0,cr,oQ,Gd,w2,w3,w4,w5,w6,w7,bh]
theorem Rq{F:List aA.aO}{b:Bk}{er:List Int}{m:bE}{b':Bk}{e:Int}(h1:b.bz.cn.length<=1000000000)(h2:b.bz.an.length<=1000000000)(hn:m.name.length<=1000000000)(hl:m.aU.length<=1000000000)(hml:b.aj.length<=40)(hd:za b m=(b',e))(he:e≠0):
  lim T (.call false 99 [.ref J.length 6 0 0,.str m.name,.aJ m.aU.length (m.aU.flatMap aM)] (F::b.bB J.length er::J))=some (.fp (rf e) (F::b.bB J.length er::J)):=by
 refine dM wH ju.eq_1 rfl ?_;have hM:=λJ=>qX (J:=J) (e:=1) (by decide)
 have hrc:(D.va 116 (.agg [.int .i64 1])).clean=true:=rfl;unfold za at hd;split at hd
 case isFalse c0 =>
  cases hd;cases c1:b.ready with
  |false=>simp[-length_flatMap,-map_take,Bk.bB,Bk.cells,c1,dq,D.clean,rf]
  |true =>
   have c2:((b.aD.length:Int) == 0)=false:=by simpa using λhh=>c0 ⟨c1,hh⟩
   simp[-length_flatMap,-map_take,Bk.bB,Bk.cells,c1,c2,dq,D.clean,rf]
 rename_i c0;obtain⟨c1,c2⟩:=c0;have hH:=λS=>J2 (J:=J) (b:=b) (er:=er) (nm:=m.name) (S:=S) (by omega)
 split at hd
 case isTrue c3 =>
  cases hd;simp only[c3]at hH;simp only[Bk.bB,Bk.cells]at hH;simp[-length_flatMap,-map_take,Bk.bB,Bk.cells,c1,c2,hH,cr,dq,D.clean,rf]
 rename_i c3;have c3':(tV b.aj λe=>e.m.name == m.name)=false:=by simpa using c3
 simp only[c3']at hH;split at hd
 case isFalse c4 =>
  cases hd;have c4':¬(b.aj.length:Int)<40:=by omega
  simp only[Bk.bB,Bk.cells]at hH;simp[-length_flatMap,-map_take,Bk.bB,Bk.cells,c1,c2,hH,c4',cr,dq,D.clean,rf]
 rename_i c4;have c4':(b.aj.length:Int)<40:=by omega
 split at hd
 case isTrue=>cases hd;exact absurd rfl he
 rename_i c5;cases hd;have c5':Bd b.bz m=false:=by simpa using c5
 have hS:=λS hJ=>PQ (J:=S) (b:=b.bz) (m:=m) (tq:=nl Rw.enc b.bz.cn) (wq:=nl bJ.enc b.bz.an) vc vc h1 h2 hn hl hJ
 simp only[c5']at hS;simp only[Bk.bB,Bk.cells]at hH;simp[-length_flatMap,-map_take,Bk.bB,Bk.cells,c1,c2,hH,c4',hS,MY,Od,MU,Q0,cr,hM,bh,rf,hrc]
end Go.Proofs.YtanhdobabijmoaaGreatDoor
namespace Go.dk
open List(length_flatMap map_take)
open Go Go.aA Go.aI
def isStr(lo hi:Int)(val:bE->Int)(e:fK):Bool:=e.left && !cj (val e.m) lo hi
def dc(at_ lo hi:Int)(val:bE->Int)(e:fK):fK:=if isStr lo hi val e then⟨e.m,false,at_⟩else e
def Yr(at_ lo hi:Int)(val:bE->Int)(ms:List fK)(j:Nat)(w:Mj):Mj:=match ms[j]? with
 |some e=>if isStr lo hi val e then⟨at_,val e.m,lo,hi⟩else w
 |none=>w
def Bk.jd(b:Bk)(lo hi:Int)(val:bE->Int)(i:Nat):Bk :=
 {b with aj:=b.aj.mapIdx λj e=>if j<i then dc b.at_ lo hi val e else e,kN:=b.kN.mapIdx λj w=>if j<i then Yr b.at_ lo hi val b.aj j w else w }
section
variable {b:Bk} {lo hi:Int} {val:bE->Int} {i:Nat}
@[simp] theorem VD:(b.jd lo hi val i).bz=b.bz:=aG rfl
@[simp] theorem SJ:(b.jd lo hi val i).aD=b.aD:=aG rfl
@[simp] theorem PE:(b.jd lo hi val i).rules=b.rules:=aG rfl
@[simp] theorem VE:(b.jd lo hi val i).Al=b.Al:=aG rfl
@[simp] theorem Yx:(b.jd lo hi val i).k0=b.k0:=aG rfl
@[simp] theorem Yy:(b.jd lo hi val i).k1=b.k1:=aG rfl
@[simp] theorem Yz:(b.jd lo hi val i).k2=b.k2:=aG rfl
@[simp] theorem PG:(b.jd lo hi val i).ew=b.ew:=aG rfl
@[simp] theorem PF:(b.jd lo hi val i).l9=b.l9:=aG rfl
@[simp] theorem PD:(b.jd lo hi val i).ready=b.ready:=aG rfl
@[simp] theorem Yu:(b.jd lo hi val i).at_=b.at_:=aG rfl
end
theorem ahL{b:Bk}{lo hi:Int}{val:bE->Int}:b.jd lo hi val 0=b:=by
 cases b;simp only[Bk.jd,Bk.mk.injEq,true_and,and_true];constructor<;>(apply ei;intro j;simp[eF])
theorem Fy{b:Bk}{lo hi:Int}{val:bE->Int}{i:Nat}:(b.jd lo hi val i).aj.length=b.aj.length:=by simp[Bk.jd]
theorem Fz{b:Bk}{lo hi:Int}{val:bE->Int}{i:Nat}:(b.jd lo hi val i).kN.length=b.kN.length:=by simp[Bk.jd]
theorem Yw{b:Bk}{lo hi:Int}{val:bE->Int}{i:Nat}{e:fK}(h:b.aj[i]?=some e):(b.jd lo hi val i).aj[i]?=some e:=by simp[Bk.jd,h]
theorem SI{b:Bk}{lo hi:Int}{val:bE->Int}{i:Nat}{e:fK}(h:b.aj[i]?=some e)(hs:isStr lo hi val e=true)(hw:b.kN.length=b.aj.length):
  (b.jd lo hi val (i+1)).aj=(b.jd lo hi val i).aj.set i ⟨e.m,false,b.at_⟩/\(b.jd lo hi val (i+1)).kN=(b.jd lo hi val i).kN.set i ⟨b.at_,val e.m,lo,hi⟩:=by
 obtain⟨hi',he⟩:=ar.1 h;constructor
 .apply ei;intro j;simp only[Bk.jd,eF,List.getElem?_set];by_cases hj:i=j
  .subst hj;rw[h];simp[hi',dc,hs]
  .rw[if_neg hj];cases b.aj[j]? with
   |none=>rfl
   |some x=>simp only[aX];congr 1;by_cases h1:j<i<;>simp[h1]<;>omega
 .apply ei;intro j;simp only[Bk.jd,eF,List.getElem?_set];by_cases hj:i=j
  .subst hj;have:i<b.kN.length:=by omega
   rw[aC this];simp[h,this,Yr,hs]
  .rw[if_neg hj];cases b.kN[j]? with
   |none=>rfl
   |some x=>simp only[aX];congr 1;by_cases h1:j<i<;>simp[h1]<;>omega
theorem KX{b:Bk}{lo hi:Int}{val:bE->Int}{i:Nat}{e:fK}(h:b.aj[i]?=some e)(hs:isStr lo hi val e=false):b.jd lo hi val (i+1)=b.jd lo hi val i:=by
 have h1:(b.jd lo hi val (i+1)).aj=(b.jd lo hi val i).aj:=by
  apply ei;intro j;simp only[Bk.jd,eF];by_cases hj:i=j
  .subst hj;simp[h,dc,hs]
  .cases b.aj[j]? with
   |none=>rfl
   |some x=>simp only[aX];congr 1;by_cases h1:j<i<;>simp[h1]<;>omega
 have h2:(b.jd lo hi val (i+1)).kN=(b.jd lo hi val i).kN:=by
  apply ei;intro j;simp only[Bk.jd,eF];by_cases hj:i=j
  .subst hj;cases b.kN[i]? with
   |none=>rfl
   |some x=>simp[h,Yr,hs]
  .cases b.kN[j]? with
   |none=>rfl
   |some x=>simp only[aX];congr 1;by_cases h1:j<i<;>simp[h1]<;>omega
 simp only[Bk.jd]at h1 h2 ⊢;rw[h1,h2]
end Go.dk
namespace Go.Proofs.YtanhdobabijmoaaGreatDoor
open List(length_flatMap map_take)
section
open Go Go.aA Go.aI Go.dk
variable {J:SK}
theorem MX{α:Type}{f:α->List D}{w k:Nat}{v:D}(hw:∀x,(f x).length=w)(hk:k<w):∀{l:List α} {i:Nat} {x x':α},l[i]?=some x->(f x).set k v=f x'->(l.flatMap f).set (i*w+k) v=(l.set i x').flatMap f
 |[],i,x,x',h,_=>by simp at h
 |a::l,0,x,x',h,hs=>by
  simp at h;subst h;simp only[aS,List.set_cons_zero,Nat.zero_mul,cJ];rw[List.set_append_left _ _ (by rw[hw];exact hk),hs]
 |a::l,i+1,x,x',h,hs=>by
  have ih:=MX hw hk (l:=l) (i:=i) (by simpa using h) hs;simp only[aS,List.set_cons_succ];have e:=hw a;rw[List.set_append_right _ _ (by rw[e,cq];omega),<- ih];congr 2;rw[e,cq];omega
theorem MW{α:Type}{f:α->List D}{w k:Nat}{v:D}(hw:∀x,(f x).length=w)(hk:k<w){l:List α}{i:Nat}{x x':α}(h:l[i]?=some x)(hs:(f x).set k v=f x'):(l.flatMap f).take (i*w+k)++v::(l.flatMap f).drop (i*w+k+1)=(l.set i x').flatMap f:=by
 rw[<- MX hw hk h hs,List.set_eq_take_append_cons_drop,if_pos];rw[bK hw];have h1:=(ar.1 h).1;have:(i+1)*w<=l.length*w:=bU _ h1;rw[cq]at this;omega
theorem MI{A F:List aA.aO}{b:Bk}{er:List Int}{lo hi:Int}{val:bE->Int}{fv:D}(hf1:fv.strip=fv)(hf2:fv.calm=fv)(hw:b.kN.length=b.aj.length)(hl:b.aj.length<=40)
  (hv:∀i e,e∈b.aj->e.left=true->pO (lim T) false fv [.agg [.str e.m.name,.aJ e.m.aU.length (e.m.aU.flatMap aM)]] ([]::A::F::(b.jd lo hi val i).bB J.length er::J)=some (.int .i64 (val e.m),[]::A::F::(b.jd lo hi val i).bB J.length er::J)):∀(m i:Nat),i+m=b.aj.length ->
  WL T [0,2,4,13,14,15] false fk [(0,.ref J.length 6 0 0),(2,fv),(4,.bq [.int .i64 lo,.int .i64 hi]),(13,.sl J.length 0 b.aj.length 0 b.aj.length 4),(14,.int .i64 b.aj.length),(15,.int .i64 i)] ([]::A::F::(b.jd lo hi val i).bB J.length er::J)
   (λx e J'=>x=.exit 0/\J'=[]::A::F::(b.jd lo hi val b.aj.length).bB J.length er::J)
 |0,i,h=>by
  refine aH fk.eq_1 ?_;have h1:¬i<b.aj.length:=by omega
  have h2:i=b.aj.length:=by omega
  simp[-length_flatMap,-map_take,h1,hf1,hf2,h2]
 |m+1,i,h=>by
  refine aH fk.eq_1 ?_;have h1:i<b.aj.length:=by omega
  obtain⟨e,he⟩:=gE h1;have hat:=Yw (lo:=lo) (hi:=hi) (val:=val) he;have hfl:=bX (f:=fK.enc) (w:=4) (λ_=>rfl) hat;have hml:=Fy (b:=b) (lo:=lo) (hi:=hi) (val:=val) (i:=i);have hwl:=Fz (b:=b) (lo:=lo) (hi:=hi) (val:=val) (i:=i);have h4:=dJ h1;have ih:=MI hf1 hf2 hw hl hv m (i+1) (by omega);have hlen:=EY (b.jd lo hi val i).aj;rw[hml]at hlen;have q:4<=b.aj.length*4-i*4:=by omega
  cases hc1:e.left with
  |false =>
   have hst:isStr lo hi val e=false:=by simp[isStr,hc1]
   rw[KX he hst]at ih;simp[-length_flatMap,-map_take,h1,hf1,hf2,Bk.bB,Bk.cells,hml,hwl,hfl,hlen,q,h4,hc1];exact WL.to ih (by simp) (by simp[Bk.bB,Bk.cells,hml,hwl]) λx e J' hh=>by simpa[Bk.bB,Bk.cells,Fy,Fz]using hh
  |true =>
   have hcall:=hv i e (ai he) hc1;simp only[Bk.bB,Bk.cells,hml,hwl,VD,SJ,PE,VE,Yx,Yy,Yz,PG,PF,PD,Yu]at hcall;cases hc2:cj (val e.m) lo hi with
   |true =>
    have hst:isStr lo hi val e=false:=by simp[isStr,hc2]
    rw[KX he hst]at ih;simp[-length_flatMap,-map_take,h1,hf1,hf2,Bk.bB,Bk.cells,hml,hwl,hfl,hlen,q,h4,hc1,hcall,eA,hc2];exact WL.to ih (by simp) (by simp[Bk.bB,Bk.cells,hml,hwl]) λx e J' hh=>by simpa[Bk.bB,Bk.cells,Fy,Fz]using hh
   |false =>
    have hst:isStr lo hi val e=true:=by simp[isStr,hc1,hc2]
    obtain⟨hn1,hn2⟩:=SI he hst hw;have q2:i*4+2+1<=b.aj.length*4:=by omega
    have q3:i*4+3+1<=b.aj.length*4:=by omega
    have p1:=MW (f:=fK.enc) (w:=4) (k:=2) (v:=.bool false) (λ_=>rfl) (by omega) (x':=⟨e.m,false,e.W7⟩) hat rfl;have hat2:((b.jd lo hi val i).aj.set i ⟨e.m,false,e.W7⟩)[i]?=some ⟨e.m,false,e.W7⟩:=by simp[hml,h1]
    have p2:=MW (f:=fK.enc) (w:=4) (k:=3) (v:=.int .i64 b.at_) (λ_=>rfl) (by omega) (x':=⟨e.m,false,b.at_⟩) hat2 rfl;rw[List.set_set]at p2;have hl2:=EY ((b.jd lo hi val i).aj.set i ⟨e.m,false,e.W7⟩);rw[List.length_set,hml]at hl2;have h5:i<b.kN.length:=by omega
    have q5:i*4+4<=b.kN.length*4:=by omega
    have hwe:=Rk (b.jd lo hi val i).kN;rw[hwl]at hwe;have p3:=QJ (f:=Mj.enc) (w:=4) (λ_=>rfl) (l:=(b.jd lo hi val i).kN) (i:=i) (x:=⟨b.at_,val e.m,lo,hi⟩) (by omega);simp only[Mj.enc,cM,aQ]at p3;simp[-length_flatMap,-map_take,h1,hf1,hf2,Bk.bB,Bk.cells,hml,hwl,hfl,hlen,q,h4,hc1,hcall,eA,hc2,q2,q3,p1,p2,hl2,h5,q5,hwe,p3];exact WL.to ih (by simp) (by simp[Bk.bB,Bk.cells,hwl,hn1,hn2,hml]) λx e J' hh=>by simpa[Bk.bB,Bk.cells,Fy,Fz]using hh
def gp(b:Bk)(lo hi:Int)(val:bE->Int):Bk:=b.jd lo hi val b.aj.length
theorem MD{A F:List aA.aO}{b:Bk}{er:List Int}{lo hi:Int}{val:bE->Int}{fv:D}(hf1:fv.strip=fv)(hf2:fv.calm=fv)(hw:b.kN.length=b.aj.length)(hl:b.aj.length<=40)
  (hv:∀i e,e∈b.aj->e.left=true->pO (lim T) false fv [.agg [.str e.m.name,.aJ e.m.aU.length (e.m.aU.flatMap aM)]] ([]::A::F::(b.jd lo hi val i).bB J.length er::J)=some (.int .i64 (val e.m),[]::A::F::(b.jd lo hi val i).bB J.length er::J)):
  lim T (.call false 137 [.ref J.length 6 0 0,.agg [.int .i64 lo,.int .i64 hi],fv] (A::F::b.bB J.length er::J))=some (.val (.db []) (A::F::(gp b lo hi val).bB J.length er::J)):=by
 refine dN B0 lM.eq_1 rfl (by simp) ?_;have h:=MI (A:=A) (F:=F) (er:=er) hf1 hf2 hw hl hv b.aj.length 0 (by omega);rw[ahL]at h;simp[-length_flatMap,-map_take,Bk.bB,Bk.cells,hf1,hf2];refine WL.to h (by simp) (by simp[Bk.bB,Bk.cells]) ?_;rintro x e J' ⟨rfl,rfl⟩;simp[gp,Bk.bB,Bk.cells]
end
section
open Go Go.aA Go.aI
variable {J:SK}
structure zN where
 m:Int
 h:Int
 s:Int
 g:Int
@[simp] def zN.enc(x:zN):List D:=[.int .i64 x.m,.int .i64 x.h,.int .i64 x.s,.int .i64 x.g]
def zN.valid(x:zN):Bool:=cj x.m 0 1000000 && (cj x.h 0 (4000*x.m) && (cj x.s 0 (10000*x.m) && cj x.g 0 1000000000))
def iA(r:Rw)(x:zN):Int:=if x.h-x.m*r.l<=0 then 0 else if x.m*r.v<=x.h then x.m else(x.h-x.m*r.l) / (r.v-r.l)
theorem S9{r:Rw}{x:zN}(hr:0<=r.l/\r.l<r.v/\r.v<=4000)(hm:0<=x.m/\x.m<=1000000)(hh:0<=x.h/\x.h<=4000000000):
  lim T (.call false 243 [.agg r.enc,.agg x.enc] J)=some (.val (.int .i64 (iA r x)) J):=by
 refine aw Dx nT.eq_1 rfl ?_;have b1:=oG hm.1 hm.2 hr.1 (show r.l<=4000 by omega);have b2:=oG hm.1 hm.2 (show 0<=r.v by omega) hr.2.2;have w1:=eQ (n:=x.m*r.l);have w2:=eQ (n:=x.h-x.m*r.l);have w3:=eQ (n:=x.m*r.v);have w4:=eQ (n:=r.v-r.l);have hd:¬r.v-r.l=0:=by omega
 unfold iA;by_cases c1:x.h-x.m*r.l<=0
 .simp[-length_flatMap,-map_take,w1,w2,w3,w4,c1]
 .by_cases c2:x.m*r.v<=x.h
  .simp[-length_flatMap,-map_take,w1,w2,w3,w4,c1,c2]
  .have t1:=bC (b:=r.v-r.l) (show 0<=x.h-x.m*r.l by omega);have q1:=Int.ediv_nonneg (a:=x.h-x.m*r.l) (b:=r.v-r.l) (by omega) (by omega);have q2:=Int.ediv_le_self (b:=r.v-r.l) (show 0<=x.h-x.m*r.l by omega);have w5:=eQ (n:=(x.h-x.m*r.l) / (r.v-r.l));simp[-length_flatMap,-map_take,w1,w2,w3,w4,c1,c2,hd,t1,w5]
theorem HK{x:zN}:lim T (.call false 198 [.agg x.enc] J)=some (.val (.bool x.valid) J):=by
 refine aw Cm mP.eq_1 rfl ?_;unfold zN.valid;cases h1:cj x.m 0 1000000
 .simp[-length_flatMap,-map_take,jK,h1]
 have hm:=bk.1 h1;have w1:=eQ (n:=4000*x.m);have w2:=eQ (n:=10000*x.m);cases h2:cj x.h 0 (4000*x.m)
 .simp[-length_flatMap,-map_take,jK,h1,h2,w1,w2]
 cases h3:cj x.s 0 (10000*x.m)
 .simp[-length_flatMap,-map_take,jK,h1,h2,h3,w1,w2]
 cases h4:cj x.g 0 1000000000<;>simp[-length_flatMap,-map_take,jK,h1,h2,h3,h4,w1,w2]
theorem acW{t:List Rw}{i:Nat}{r:Rw}(h:t[i]?=some r):lim T (.call false 199 [.aJ t.length (t.flatMap Rw.enc),.int .i64 i] J)=some (.val (.agg r.enc) J):=by
 refine aw FT sC.eq_1 rfl ?_;have h1:i<t.length:=(ar.1 h).1;have h2:=bX (f:=Rw.enc) (w:=5) (λ_=>rfl) h;simp[-length_flatMap,-map_take,h1,h2]
theorem YI{t:List Rw}{n:Int}(hl:t.length<=1000000000):lim T (.call false 197 [.aJ t.length (t.flatMap Rw.enc),.int .i64 n] J)=some (.val (.bool (cj n 0 ((t.length:Int)-1))) J):=by
 refine aw EO rA.eq_1 rfl ?_;have w1:=eQ (n:=(t.length:Int)-1);simp[-length_flatMap,-map_take,jK,w1]
def wat(r:Rw)(x:zN):Int×Int:=if iA r x=0 then(x.m,x.h)else if iA r x=x.m then(0,0)else(x.m-iA r x,x.h-iA r x*r.v)
def abP(r:Rw)(x:zN):Int:=if iA r x=0 then 0 else if iA r x=x.m then x.h else iA r x*r.v
def aeX(r:Rw)(x:zN):Int:=if iA r x=0 then x.g else 0
def abO(r:Rw)(x:zN):Int:=if iA r x=0 then 0 else x.g
def held(r:Rw)(x:zN):Int:=min x.s ((wat r x).1*r.s)
def parts(r:Rw)(x:zN):List D:=[.int .i64 (iA r x),.int .i64 (abP r x),.int .i64 0,.int .i64 (abO r x),.int .i64 (wat r x).1,.int .i64 (wat r x).2,.int .i64 (held r x),.int .i64 (aeX r x),
 .int .i64 (if 0<(wat r x).1 then max 0 ((wat r x).2-(wat r x).1*r.l)else 0),.int .i64 (x.s-held r x)]
theorem Um{r:Rw}{x:zN}(hr:0<=r.l/\r.l<r.v/\r.v<=4000)(hm:0<=x.m):0<=iA r x/\iA r x<=x.m/\(iA r x≠0->iA r x≠x.m->0<=x.h-iA r x*r.v+x.m*r.v):=by
 have hmv:x.m*r.v=x.m*r.l+x.m*(r.v-r.l):=by rw[<- Int.mul_add];congr 1;omega
 have hml:=cZ hm hr.1;have key:¬x.h-x.m*r.l<=0->¬x.m*r.v<=x.h->0<=(x.h-x.m*r.l) / (r.v-r.l)/\(x.h-x.m*r.l) / (r.v-r.l)<=x.m:=λh1 h2=>⟨Int.ediv_nonneg (by omega) (by omega),Int.ediv_le_of_le_mul (by omega) (by omega)⟩
 have h2:0<=iA r x/\iA r x<=x.m:=by
  unfold iA;by_cases c1:x.h-x.m*r.l<=0
  .rw[if_pos c1];omega
  .rw[if_neg c1];by_cases c2:x.m*r.v<=x.h
   .rw[if_pos c2];omega
   .rw[if_neg c2];exact key c1 c2
 refine⟨h2.1,h2.2,λh3 _=>?_⟩;have h4:=eR h2.2 (show 0<=r.v by omega);have h5:¬x.h-x.m*r.l<=0:=by
  intro hh;exact h3 (by unfold iA;rw[if_pos hh])
 omega
theorem acT{r:Rw}{x:zN}(hr:0<=r.l/\r.l<r.v/\r.v<=4000)(hs:0<=r.s/\r.s<=2000)(hx:x.valid=true):
  lim T (.call false 200 [.agg r.enc,.agg x.enc] J)=some (.val (.agg (parts r x)) J):=by
 refine aw FU sD.eq_1 rfl ?_;simp only[zN.valid,ae,bk]at hx;obtain⟨hm,hh,hsl,hg⟩:=hx;have hF:=λJ=>S9 (J:=J) hr hm ⟨hh.1,by omega⟩
 obtain⟨f1,f2,f3⟩:=Um hr hm.1;have b1:=oG f1 (show iA r x<=1000000 by omega) (show 0<=r.v by omega) hr.2.2;have b2:=oG (show 0<=x.m-iA r x by omega) (show x.m-iA r x<=1000000 by omega) hs.1 hs.2;have b3:=oG (show 0<=x.m-iA r x by omega) (show x.m-iA r x<=1000000 by omega) hr.1 (show r.l<=4000 by omega);have b4:=oG hm.1 hm.2 hs.1 hs.2;have b5:=oG hm.1 hm.2 hr.1 (show r.l<=4000 by omega);simp only[Rw.enc,zN.enc]at hF;unfold parts held abP aeX abO wat;generalize iA r x=m at *
 have w1:=eQ (n:=m*r.v);have w2:=eQ (n:=x.m-m);have w3:=eQ (n:=x.h-m*r.v);have w4:=eQ (n:=(x.m-m)*r.s);have w5:=eQ (n:=(x.m-m)*r.l);have w6:=eQ (n:=x.h-m*r.v-(x.m-m)*r.l);have w7:=eQ (n:=x.m*r.s);have w8:=eQ (n:=x.m*r.l);have w9:=eQ (n:=x.h-x.m*r.l);have v1:=eQ (n:=x.s-min x.s (x.m*r.s));have v2:=eQ (n:=x.s-min x.s ((x.m-m)*r.s));have v3:=eQ (n:=x.s);have v4:min x.s 0=0:=by omega
 by_cases c1:m=0
 .subst c1;by_cases c2:0<x.m
  .simp[-length_flatMap,-map_take,hF,w7,w8,w9,v1,c2]
  .simp[-length_flatMap,-map_take,hF,w7,w8,w9,v1,c2]
 .by_cases c2:m=x.m
  .subst c2;simp[-length_flatMap,-map_take,hF,c1,v3,v4]
  .have c3:0<x.m-m:=by omega
   have c4:m<x.m:=by omega
   simp[-length_flatMap,-map_take,hF,c1,c2,c3,c4,w1,w2,w3,w4,w5,w6,v2]
theorem abj{t:List Rw}(ht:jV t=true){i:Nat}{r:Rw}(h:t[i]?=some r):(0<=r.l/\r.l<r.v/\r.v<=4000)/\(0<=r.s/\r.s<=2000):=by
 simp only[jV,ae]at ht;have:=jq.1 ht.2.1 r (ai h);simp only[Rw.alone,ae,bk,au]at this;obtain⟨_,_,h3,h4,h5,h6⟩:=this;exact⟨⟨h3.1,h5,h6⟩,h4⟩
theorem V2{t:List Rw}(ht:jV t=true){i:Nat}{r:Rw}(hi:t[i]?=some r){x:zN}(hx:x.valid=true):
  lim T (.call false 149 [.aJ t.length (t.flatMap Rw.enc),.int .i64 i,.agg x.enc] J)=some (.val (.db [.agg (parts r x),.int .i64 0]) J):=by
 refine aw DE tt.eq_1 rfl ?_;have hl:t.length<=20:=by
  simp only[jV,ae]at ht;have:=bk.1 ht.1;omega
 have hil:i<t.length:=(ar.1 hi).1;have h1:=λJ=>DP (J:=J) (t:=t) (by omega)
 have h2:=λJ=>YI (J:=J) (t:=t) (n:=i) (by omega)
 have h3:=λJ=>HK (J:=J) (x:=x)
 have h4:=λJ=>acW (J:=J) hi
 obtain⟨r1,r2⟩:=abj ht hi;have h5:=λJ=>acT (J:=J) r1 r2 hx
 have hin:cj i 0 ((t.length:Int)-1)=true:=bk.2 (by omega);rw[hin]at h2;rw[hx]at h3;rw[ht]at h1;simp only[zN.enc,Rw.enc]at h3 h4 h5;have hp:(parts r x).length=10:=rfl;have hp2:(parts r x).take 10=parts r x:=rfl;have hpc:D.bj (parts r x)=true:=by simp[parts]
 generalize parts r x=P at *
 simp[-length_flatMap,-map_take,h1,h2,h3,h4,h5,hp,hp2];rw[gW (by simp[D.clean,hpc]) (by omega)];exact⟨_,rfl⟩
structure Yv(b:cp)(y:List aI.aO):Prop where
 len:y.length=b.an.length
 ok:∀o∈y,(0<=o.m/\o.m<=1000000)/\(0<=o.h/\o.h<=10000000000)/\(0<=o.k/\o.k<=1000000000000)
theorem Yv.of{b:cp}{s:List aI.aO}{aW:List Int}(h:Bv b)(hs:Sv b s)(hr:Rv b aW):Yv b (dR b s aW):=by
 refine⟨by simp[dR,hr.len],?_⟩;intro o ho;simp only[dR,bN]at ho;obtain⟨⟨w,r⟩,hm,rfl⟩:=ho;have hw:=Ji h w (List.of_mem_zip hm).1;have hb:=hr.ok r (List.of_mem_zip hm).2;simp only[sS];split
 .simp
 .obtain⟨_,h1,h2,h3⟩:=hs.at (i:=w.b.toNat) (by omega);generalize bZ s w.b.toNat=x at *
  have h8:x.m.tdiv 8=x.m / 8:=bC (by omega);have hq:0<=min r (x.m.tdiv 8)/\min r (x.m.tdiv 8)<=x.m:=by omega
  exact⟨⟨hq.1,by simp only[aI.aO.out];omega⟩,KM h1.1 h2 hq,KM h1.1 h3 hq⟩
theorem VL{b:cp}{m:bE}{s:List aI.aO}{aW:List Int}{s' y:List aI.aO}(h:Bv b)(hs:Sv b s)(hr:Rv b aW)(ht:tick b m s aW=some (s',y)):Sv b s'/\Yv b y:=by
 refine⟨Sv.next h ht,?_⟩;unfold tick at ht;split at ht
 .simp only[ad,ak]at ht;rw[<- ht.2];exact Yv.of h hs hr
 .cases ht
structure MK(b:cp)(n:Nat)(ss ys:List (List aI.aO)):Prop where
 sl:ss.length=n+1
 yl:ys.length=n
 sv:∀s∈ss,Sv b s
 yv:∀y∈ys,Yv b y
theorem MK.from{b:cp}{m:bE}(h:Fv b m):∀(aD:List (List Int)) (n:Nat) (ss ys:List (List aI.aO)) (s:List aI.aO) {ss' ys':List (List aI.aO)},(∀r∈aD,Rv b r)->MK b n ss ys->Sv b s->wC b m ss ys s aD=some (ss',ys')->MK b (n+aD.length) ss' ys'
 |[],n,ss,ys,s,ss',ys',hr,h1,h2,he=>by
  simp only[wC,ad,ak]at he;obtain⟨rfl,rfl⟩:=he;exact h1
 |r::aD,n,ss,ys,s,ss',ys',hr,h1,h2,he=>by
  simp only[wC]at he;split at he
  .rename_i s' y ht;obtain⟨g1,g2⟩:=VL h.bv h2 (hr r (List.mem_cons_self ..)) ht;have:=MK.from h aD (n+1) _ _ _ (λx hx=>hr x (List.mem_cons_of_mem _ hx)) (⟨by simp[h1.sl],by simp[h1.yl],by
    intro x hx;rcases ba.1 hx with hx | hx
    .exact h1.sv x hx
    .rw[List.mem_singleton.1 hx];exact g1,by
    intro x hx;rcases ba.1 hx with hx | hx
    .exact h1.yv x hx
    .rw[List.mem_singleton.1 hx];exact g2⟩:MK b (n+1) (ss++[s']) (ys++[y])) g1 he
   rw[show n+(r::aD).length=n+1+aD.length by simp;omega];exact this
  .cases he
theorem MK.of{b:cp}{m:bE}{aD:List (List Int)}{ss ys:List (List aI.aO)}(h:Fv b m)(hr:∀r∈aD,Rv b r)(he:aI.run b m aD=some (ss,ys)):MK b aD.length ss ys:=by
 have:=MK.from h aD 0 _ _ _ hr (⟨rfl,rfl,by simpa using Sv.first h,by simp⟩:MK b 0 [dH b m] []) (Sv.first h) he;simpa using this
theorem LH{l:List bE}{j:Nat}{m:bE}(h:l[j]?=some m):((l.flatMap bE.enc).drop (j*2)).take 2=[.str m.name,.aJ m.aU.length (m.aU.flatMap aM)] :=
 bX (f:=bE.enc) (w:=2) (λ_=>rfl) h
def Uf(b:cp)(m:bE)(i:Nat):Bool:=cj (vK b m 0 i) 1000 100000 && (cj (vK b m 1 i) 0 1000 && (cj (vK b m 2 i) 0 3000 && cj (vK b m 3 i) 0 1000))
def M8(b:cp)(m:bE)(i:Nat):Nat->Bool
 |0=>true
 |k+1=>Uf b m i && M8 b m (i+1) k
theorem Ko{b:cp}{m:bE}:∀{k i:Nat},M8 b m i k=true↔∀j,i<=j->j<i+k->Uf b m j=true
 |0,i=>by simp[M8];omega
 |k+1,i=>by
  rw[M8,ae,Ko];constructor
  .intro⟨h1,h2⟩ j h3 h4;by_cases hj:j=i
   .subst hj;exact h1
   .exact h2 j (by omega) (by omega)
  .intro h;exact⟨h i (by omega) (by omega),λj h3 h4=>h j (by omega) (by omega)⟩
theorem OV{b:cp}{m:bE}(h:Bv b):ed b.f [m]=0↔b.f.model m=0:=by
 simp only[ed,h.fv,if_true,cU.aj,cU.each];have h1:cj (([m]:List bE).length:Nat) 1 40=true:=by simp[cj]
 rw[if_pos h1];by_cases hc:b.f.model m=0
 .simp[hc]
 .simp[hc]
theorem Qv{b:cp}{m:bE}(h:Bv b):fits b m=(decide (b.f.model m=0) && M8 b m 0 b.n):=by
 by_cases hc:b.f.model m=0
 .have hm:=Mv.of h ((OV h).2 hc);have hcm:=(OV h).2 hc;have key:∀{k:Nat} {lo hi:Int},k<4->(fL (wW b m k) (λn=>cj n lo hi)=true↔∀i,i<b.n->cj (vK b m k i) lo hi=true):=by
   intro k lo hi hk;rw[jq];constructor
   .intro ha i hi';exact ha _ (ai (yD hm hk hi'))
   .intro ha x hx;obtain⟨i,hi'⟩:=eG hx;have hlt:i<b.n:=by have:=(ar.1 hi').1;rwa[KB hm hk]at this
    rw[yD hm hk hlt]at hi';cases hi';exact ha i hlt
  rw[Bool.eq_iff_iff];simp only[fits,hcm,hc,decide_true,Bool.true_and,ae,Ko,Uf];rw[key (by decide),key (by decide),key (by decide),key (by decide)];constructor
  .intro⟨h1,h2,h3,h4⟩ j _ hj;exact⟨h1 j (by omega),h2 j (by omega),h3 j (by omega),h4 j (by omega)⟩
  .intro hh;exact⟨λi hi=>(hh i (by omega) (by omega)).1,λi hi=>(hh i (by omega) (by omega)).2.1,λi hi=>(hh i (by omega) (by omega)).2.2.1,λi hi=>(hh i (by omega) (by omega)).2.2.2⟩
 .have hcm:¬ed b.f [m]=0:=λhh=>hc ((OV h).1 hh)
  simp[fits,hc,hcm]
def UI(b:cp)(l:List bE):Int:=if cj l.length 1 40 then(if b.f.aj l=0 then(if fL l (fits b)then 0 else 1)else 1)else 3
def Zr(b:cp)(l:List bE)(aD:List (List Int)):Bool:=b.valid && (decide (l.length<=4) && (decide (UI b l=0) && (decide (aD.length<=6) && decide (xu b aD=0))))
theorem OW(l:List bE):D.bj (l.flatMap bE.enc)=true:=cT (λx=>by simp[D.clean,bh]) l
end
end Go.Proofs.YtanhdobabijmoaaGreatDoor
