import Derived.Test.YtfgljaglidhjiaaGreatDoorTxt3
import Derived.Test.YtfgljaglidhjiaaGreatDoorTxt1
import Derived.Test.YtfgljaglidhjiaaGreatDoorTxt2
import Derived.Test.YtfgljaglidhjiaaGreatDoorTxt0
set_option linter.all false
namespace Go.Proofs.YtfgljaglidhjiaaGreatDoor
open List(length_flatMap map_take)
open Go Go.Abs Go.Rock Go.Book
variable {σ:SK}
def zc(b:cz)(m:cU):D:=if Bd b m then S4 (ea b m)else .aK
theorem Ls{b:cz}{m:cU}:(zc b m).clean=true:=by
 unfold zc;split
 ·simp[S4,iU (f:=Rock.aE.enc) (fun _=>by simp[D.clean])]
 ·simp
theorem MI{b:cz}{m:cU}:(zc b m).strip=zc b m:=by unfold zc;split<;>rfl
theorem Lm{b:cz}{m:cU}:(zc b m).calm=zc b m:=by unfold zc;split<;>rfl
theorem Ox{b:cz}{m:cU}{tq wq:D}(htq:tq.wQ=.aH b.ct.length (b.ct.flatMap Rw.enc))(hwq:wq.wQ=.aH b.an.length (b.an.flatMap bI.enc))(h1:b.ct.length≤1000000000)(h2:b.an.length≤1000000000)(hn:m.name.length≤1000000000)(hl:m.bq.length≤1000000000)(hσ:σ≠[]):
  lim T (.call false uD [.agg [.int .i64 b.f.x,.int .i64 b.f.y,.int .i64 b.f.z,.int .i64 b.f.k,tq,.int .i64 b.bK,.int .i64 b.lift,.int .i64 b.deep,wq],.agg [.str m.name,.aH m.bq.length (m.bq.flatMap aY)]] σ)=some (.val (.dV [zc b m,.int .i64 (if Bd b m then 0 else 1)]) σ):=by
 unfold zc;cases hb:Bd b m
 ·refine aw DO uq.eq_1 rfl ?_;obtain⟨d,hd,hd1,hd2⟩:=Oy (σ:=[]::σ) h1 h2 hn hl hb;simp[-length_flatMap,-map_take,htq,hwq,hd,hd1,hd2,cM,bu,bw]
 ·refine aw DO uq.eq_1 rfl ?_;have hd:=fun σ=>ahT (σ:=σ) h1 h2 hn hl hb
  have hf:=fun σ hσ=>EI (σ:=σ) (b:=b) (m:=m) (Fv.of hb) hσ
  have hcl:(S4 (ea b m)).clean=true:=by simp[S4,iU (f:=Rock.aE.enc) (fun _=>by simp[D.clean])]
  have hs1:(S4 (ea b m)).strip=S4 (ea b m):=rfl;have hs2:(S4 (ea b m)).calm=S4 (ea b m):=rfl;simp[-length_flatMap,-map_take,htq,hwq,hd,hf,hs1,hs2,hcl,cM,bu,bw]
theorem Th{e:mS}{nm:List UInt8}:lim T (.call false ez [.agg e.enc,.bB [.str nm]] σ)=some (.val (.bool (e.m.name == nm)) σ):=by
 refine aw zQ lE.eq_1 rfl ?_;simp[-length_flatMap,-map_take,EH]
theorem D3(l:List mS):(l.flatMap mS.enc).length=l.length*4:=bX (f:=mS.enc) (w:=4) (fun _=>rfl) l
theorem Ro(l:List RL):(l.flatMap RL.enc).length=l.length*4:=bX (f:=RL.enc) (w:=4) (fun _=>rfl) l
theorem IP{b:Bk}{er:List Int}{nm:List UInt8}{S:SK}(hl:b.ar.length≤1000000)(hs:gB S σ.length=some (b.bj σ.length er)):
  lim T (.call false ec [.sl σ.length 0 b.ar.length 0 b.ar.length 4,.fn ez [] [.bB [.str nm]]] S)=some (.val (.bool (sF b.ar fun e=>e.m.name == nm)) S) :=
 CI (enc:=mS.enc) (w:=4) (fun _=>rfl) (F:=b.bj σ.length er) (bi:=0) (v:=b.ar.length) (l:=b.ar) (i:=dz) rfl rfl (by simp[Bk.bj]) (by omega)
  ⟨rfl,rfl,fun e _ σ=>by rw[sK];have h:=Th (σ:=σ) (e:=e) (nm:=nm);have h':lim T (.call false ez ([]++[.agg e.enc]++[.bB [.str nm]]) σ)=_:=h;rw[h'];rfl⟩ hs
def Ds(b:Bk)(m:cU):Bk:={b with ar:=b.ar++[⟨m,true,0⟩],rT:=b.rT++[⟨0,0,0,0⟩] }
def yd(b:Bk)(m:cU):Bk×Int :=
 if b.ready=true∧b.az=[]then
  (if(sF b.ar fun e=>e.m.name == m.name)=true then(b,6)else if b.ar.length<40 then(if Bd b.bN m=true then(Ds b m,0)else(b,1))else(b,3))
 else(b,8)
theorem Ti{F:List Abs.aE}{b:Bk}{er:List Int}{m:cU}{b':Bk}{e:Int}(h1:b.bN.ct.length≤1000000000)(h2:b.bN.an.length≤1000000000)(hn:m.name.length≤1000000000)(hl:m.bq.length≤1000000000)(hw:b.rT.length=b.ar.length)(hd:yd b m=(b',e))(he:e=0):
  lim T (.call false fC [.ref σ.length 6 0 0,.str m.name,.aH m.bq.length (m.bq.flatMap aY)] (F::b.bj σ.length er::σ))=some (.val (.dV []) (F::b'.bj σ.length er::σ)):=by
 refine fQ vH ka.eq_1 rfl (by simp) ?_;unfold yd at hd;split at hd
 case isFalse=>cases hd;cases he
 rename_i c0;obtain⟨c1,c2⟩:=c0;split at hd
 case isTrue=>cases hd;cases he
 rename_i c3;split at hd
 case isFalse=>cases hd;cases he
 rename_i c4;split at hd
 case isFalse=>cases hd;cases he
 rename_i c5;cases hd;have c3':(sF b.ar fun e=>e.m.name == m.name)=false:=by simpa using c3
 have c4':(b.ar.length:Int)<40:=by omega
 have hH:=fun S=>IP (σ:=σ) (b:=b) (er:=er) (nm:=m.name) (S:=S) (by omega)
 simp only[c3']at hH;have hS:=fun S hσ=>Ox (σ:=S) (b:=b.bN) (m:=m) (tq:=nl Rw.enc b.bN.ct) (wq:=nl bI.enc b.bN.an) uJ uJ h1 h2 hn hl hσ
 simp only[c5]at hS;simp only[Bk.bj,Bk.cells]at hH;have w2:(b.ar.length+1)*56≤room:=by unfold room;omega
 have w3:=D3 b.ar;have w4:(b.ar.flatMap mS.enc).take (b.ar.length*4)=b.ar.flatMap mS.enc:=ai (by omega);have w5:(b.rT.length+1)*32≤room:=by unfold room;omega
 have w6:=Ro b.rT;have w7:(b.rT.flatMap RL.enc).take (b.rT.length*4)=b.rT.flatMap RL.enc:=ai (by omega);simp[-length_flatMap,-map_take,Bk.bj,Bk.cells,c1,c2,hH,c4',hS,Ls,MI,Lm,Q4,cH,o7,Ds,w2,w3,w4,w5,w6,w7,bw]
theorem RA{F:List Abs.aE}{b:Bk}{er:List Int}{m:cU}{b':Bk}{e:Int}(h1:b.bN.ct.length≤1000000000)(h2:b.bN.an.length≤1000000000)(hn:m.name.length≤1000000000)(hl:m.bq.length≤1000000000)(hml:b.ar.length≤40)(hd:yd b m=(b',e))(he:e≠0):
  lim T (.call false fC [.ref σ.length 6 0 0,.str m.name,.aH m.bq.length (m.bq.flatMap aY)] (F::b.bj σ.length er::σ))=some (.gf (rf e) (F::b.bj σ.length er::σ)):=by
 refine ep vH ka.eq_1 rfl ?_;have hM:=fun σ=>ri (σ:=σ) (e:=1) (by decide)
 have hrc:(D.uH 311 (.agg [.int .i64 1])).clean=true:=rfl;unfold yd at hd;split at hd
 case isFalse c0 =>
  cases hd;cases c1:b.ready with
  |false=>simp[-length_flatMap,-map_take,Bk.bj,Bk.cells,c1,dK,D.clean,rf]
  |true =>
   have c2:((b.az.length:Int) == 0)=false:=by simpa using fun hh=>c0 ⟨c1,hh⟩
   simp[-length_flatMap,-map_take,Bk.bj,Bk.cells,c1,c2,dK,D.clean,rf]
 rename_i c0;obtain⟨c1,c2⟩:=c0;have hH:=fun S=>IP (σ:=σ) (b:=b) (er:=er) (nm:=m.name) (S:=S) (by omega)
 split at hd
 case isTrue c3 =>
  cases hd;simp only[c3]at hH;simp only[Bk.bj,Bk.cells]at hH;simp[-length_flatMap,-map_take,Bk.bj,Bk.cells,c1,c2,hH,cH,dK,D.clean,rf]
 rename_i c3;have c3':(sF b.ar fun e=>e.m.name == m.name)=false:=by simpa using c3
 simp only[c3']at hH;split at hd
 case isFalse c4 =>
  cases hd;have c4':¬(b.ar.length:Int)<40:=by omega
  simp only[Bk.bj,Bk.cells]at hH;simp[-length_flatMap,-map_take,Bk.bj,Bk.cells,c1,c2,hH,c4',cH,dK,D.clean,rf]
 rename_i c4;have c4':(b.ar.length:Int)<40:=by omega
 split at hd
 case isTrue=>cases hd;exact absurd rfl he
 rename_i c5;cases hd;have c5':Bd b.bN m=false:=by simpa using c5
 have hS:=fun S hσ=>Ox (σ:=S) (b:=b.bN) (m:=m) (tq:=nl Rw.enc b.bN.ct) (wq:=nl bI.enc b.bN.an) uJ uJ h1 h2 hn hl hσ
 simp only[c5']at hS;simp only[Bk.bj,Bk.cells]at hH;simp[-length_flatMap,-map_take,Bk.bj,Bk.cells,c1,c2,hH,c4',hS,Ls,MI,Lm,Q4,cH,hM,bw,rf,hrc]
end Go.Proofs.YtfgljaglidhjiaaGreatDoor
namespace Go.Book
open List(length_flatMap map_take)
open Go Go.Abs Go.Rock
def isStr(lo hi:Int)(val:cU→Int)(e:mS):Bool:=e.left && !cT (val e.m) lo hi
def cc(at_ lo hi:Int)(val:cU→Int)(e:mS):mS:=if isStr lo hi val e then⟨e.m,false,at_⟩else e
def asy(at_ lo hi:Int)(val:cU→Int)(ms:List mS)(j:Nat)(w:RL):RL:=match ms[j]? with
 |some e=>if isStr lo hi val e then⟨at_,val e.m,lo,hi⟩else w
 |none=>w
def Bk.km(b:Bk)(lo hi:Int)(val:cU→Int)(i:Nat):Bk :=
 {b with ar:=b.ar.mapIdx fun j e=>if j<i then cc b.at_ lo hi val e else e,rT:=b.rT.mapIdx fun j w=>if j<i then asy b.at_ lo hi val b.ar j w else w }
section
variable {b:Bk} {lo hi:Int} {val:cU→Int} {i:Nat}
@[simp] theorem afw:(b.km lo hi val i).bN=b.bN:=aD rfl
@[simp] theorem SP:(b.km lo hi val i).az=b.az:=aD rfl
@[simp] theorem Om:(b.km lo hi val i).rules=b.rules:=aD rfl
@[simp] theorem afx:(b.km lo hi val i).AZ=b.AZ:=aD rfl
@[simp] theorem ahJ:(b.km lo hi val i).k0=b.k0:=aD rfl
@[simp] theorem ahK:(b.km lo hi val i).k1=b.k1:=aD rfl
@[simp] theorem ahL:(b.km lo hi val i).k2=b.k2:=aD rfl
@[simp] theorem Oo:(b.km lo hi val i).gA=b.gA:=aD rfl
@[simp] theorem On:(b.km lo hi val i).qB=b.qB:=aD rfl
@[simp] theorem Ol:(b.km lo hi val i).ready=b.ready:=aD rfl
@[simp] theorem ahH:(b.km lo hi val i).at_=b.at_:=aD rfl
end
theorem SQ{b:Bk}{lo hi:Int}{val:cU→Int}:b.km lo hi val 0=b:=by
 cases b;simp only[Bk.km,Bk.mk.injEq,true_and,and_true];constructor<;>(apply dY;intro j;simp[j6])
theorem EA{b:Bk}{lo hi:Int}{val:cU→Int}{i:Nat}:(b.km lo hi val i).ar.length=b.ar.length:=by simp[Bk.km]
theorem EB{b:Bk}{lo hi:Int}{val:cU→Int}{i:Nat}:(b.km lo hi val i).rT.length=b.rT.length:=by simp[Bk.km]
theorem ahI{b:Bk}{lo hi:Int}{val:cU→Int}{i:Nat}{e:mS}(h:b.ar[i]?=some e):(b.km lo hi val i).ar[i]?=some e:=by simp[Bk.km,h]
theorem SO{b:Bk}{lo hi:Int}{val:cU→Int}{i:Nat}{e:mS}(h:b.ar[i]?=some e)(hs:isStr lo hi val e=true)(hw:b.rT.length=b.ar.length):
  (b.km lo hi val (i+1)).ar=(b.km lo hi val i).ar.set i ⟨e.m,false,b.at_⟩∧(b.km lo hi val (i+1)).rT=(b.km lo hi val i).rT.set i ⟨b.at_,val e.m,lo,hi⟩:=by
 obtain⟨hi',he⟩:=aB.1 h;constructor
 ·apply dY;intro j;simp only[Bk.km,j6,List.getElem?_set];by_cases hj:i=j
  ·subst hj;rw[h];simp[hi',cc,hs]
  ·rw[if_neg hj];cases b.ar[j]? with
   |none=>rfl
   |some x=>simp only[aR];congr 1;by_cases h1:j<i<;>simp[h1]<;>omega
 ·apply dY;intro j;simp only[Bk.km,j6,List.getElem?_set];by_cases hj:i=j
  ·subst hj;have:i<b.rT.length:=by omega
   rw[aN this];simp[h,this,asy,hs]
  ·rw[if_neg hj];cases b.rT[j]? with
   |none=>rfl
   |some x=>simp only[aR];congr 1;by_cases h1:j<i<;>simp[h1]<;>omega
theorem JF{b:Bk}{lo hi:Int}{val:cU→Int}{i:Nat}{e:mS}(h:b.ar[i]?=some e)(hs:isStr lo hi val e=false):b.km lo hi val (i+1)=b.km lo hi val i:=by
 have h1:(b.km lo hi val (i+1)).ar=(b.km lo hi val i).ar:=by
  apply dY;intro j;simp only[Bk.km,j6];by_cases hj:i=j
  ·subst hj;simp[h,cc,hs]
  ·cases b.ar[j]? with
   |none=>rfl
   |some x=>simp only[aR];congr 1;by_cases h1:j<i<;>simp[h1]<;>omega
 have h2:(b.km lo hi val (i+1)).rT=(b.km lo hi val i).rT:=by
  apply dY;intro j;simp only[Bk.km,j6];by_cases hj:i=j
  ·subst hj;cases b.rT[i]? with
   |none=>rfl
   |some x=>simp[h,asy,hs]
  ·cases b.rT[j]? with
   |none=>rfl
   |some x=>simp only[aR];congr 1;by_cases h1:j<i<;>simp[h1]<;>omega
 simp only[Bk.km]at h1 h2 ⊢;rw[h1,h2]
end Go.Book
namespace Go.Proofs.YtfgljaglidhjiaaGreatDoor
open List(length_flatMap map_take)
open Go Go.Abs Go.Rock Go.Book
variable {σ:SK}
theorem Lr{α:Type}{f:α→List D}{w k:Nat}{v:D}(hw:∀x,(f x).length=w)(hk:k<w):∀{l:List α} {i:Nat} {x x':α},l[i]?=some x→(f x).set k v=f x'→(l.flatMap f).set (i*w+k) v=(l.set i x').flatMap f
 |[],i,x,x',h,_=>by simp at h
 |a::l,0,x,x',h,hs=>by
  simp at h;subst h;simp only[aS,List.set_cons_zero,Nat.zero_mul,cZ];rw[List.set_append_left _ _ (by rw[hw];exact hk),hs]
 |a::l,i+1,x,x',h,hs=>by
  have ih:=Lr hw hk (l:=l) (i:=i) (by simpa using h) hs;simp only[aS,List.set_cons_succ];have e:=hw a;rw[List.set_append_right _ _ (by rw[e,eW];omega),← ih];congr 2;rw[e,eW];omega
theorem Lq{α:Type}{f:α→List D}{w k:Nat}{v:D}(hw:∀x,(f x).length=w)(hk:k<w){l:List α}{i:Nat}{x x':α}(h:l[i]?=some x)(hs:(f x).set k v=f x'):(l.flatMap f).take (i*w+k)++v::(l.flatMap f).drop (i*w+k+1)=(l.set i x').flatMap f:=by
 rw[← Lr hw hk h hs,List.set_eq_take_append_cons_drop,if_pos];rw[bX hw];have h1:=(aB.1 h).1;have:(i+1)*w≤l.length*w:=dt _ h1;rw[eW]at this;omega
theorem K8{A F:List Abs.aE}{b:Bk}{er:List Int}{lo hi:Int}{val:cU→Int}{fv:D}(hf1:fv.strip=fv)(hf2:fv.calm=fv)(hw:b.rT.length=b.ar.length)(hl:b.ar.length≤40)
  (hv:∀i e,e∈b.ar→e.left=true→pQ (lim T) false fv [.agg [.str e.m.name,.aH e.m.bq.length (e.m.bq.flatMap aY)]] ([]::A::F::(b.km lo hi val i).bj σ.length er::σ)=some (.int .i64 (val e.m),[]::A::F::(b.km lo hi val i).bj σ.length er::σ)):∀(m i:Nat),i+m=b.ar.length →
  WL T [0,2,4,13,14,15] false jn [(0,.ref σ.length 6 0 0),(2,fv),(4,.bB [.int .i64 lo,.int .i64 hi]),(13,.sl σ.length 0 b.ar.length 0 b.ar.length 4),(14,.int .i64 b.ar.length),(15,.int .i64 i)] ([]::A::F::(b.km lo hi val i).bj σ.length er::σ)
   (fun x e σ'=>x=.exit 0∧σ'=[]::A::F::(b.km lo hi val b.ar.length).bj σ.length er::σ)
 |0,i,h=>by
  refine aM jn.eq_1 ?_;have h1:¬i<b.ar.length:=by omega
  have h2:i=b.ar.length:=by omega
  simp[-length_flatMap,-map_take,h1,hf1,hf2,h2]
 |m+1,i,h=>by
  refine aM jn.eq_1 ?_;have h1:i<b.ar.length:=by omega
  obtain⟨e,he⟩:=gE h1;have hat:=ahI (lo:=lo) (hi:=hi) (val:=val) he;have hfl:=bW (f:=mS.enc) (w:=4) (fun _=>rfl) hat;have hml:=EA (b:=b) (lo:=lo) (hi:=hi) (val:=val) (i:=i);have hwl:=EB (b:=b) (lo:=lo) (hi:=hi) (val:=val) (i:=i);have h4:=gN h1 (by omega);have ih:=K8 hf1 hf2 hw hl hv m (i+1) (by omega);have hlen:=D3 (b.km lo hi val i).ar;rw[hml]at hlen;have q:4≤b.ar.length*4-i*4:=by omega
  cases hc1:e.left with
  |false =>
   have hst:isStr lo hi val e=false:=by simp[isStr,hc1]
   rw[JF he hst]at ih;simp[-length_flatMap,-map_take,h1,hf1,hf2,Bk.bj,Bk.cells,hml,hwl,hfl,hlen,q,h4,hc1];exact WL.to ih (by simp) (by simp[Bk.bj,Bk.cells,hml,hwl]) fun x e σ' hh=>by simpa[Bk.bj,Bk.cells,EA,EB]using hh
  |true =>
   have hcall:=hv i e (aj he) hc1;simp only[Bk.bj,Bk.cells,hml,hwl,afw,SP,Om,afx,ahJ,ahK,ahL,Oo,On,Ol,ahH]at hcall;cases hc2:cT (val e.m) lo hi with
   |true =>
    have hst:isStr lo hi val e=false:=by simp[isStr,hc2]
    rw[JF he hst]at ih;simp[-length_flatMap,-map_take,h1,hf1,hf2,Bk.bj,Bk.cells,hml,hwl,hfl,hlen,q,h4,hc1,hcall,fk,hc2];exact WL.to ih (by simp) (by simp[Bk.bj,Bk.cells,hml,hwl]) fun x e σ' hh=>by simpa[Bk.bj,Bk.cells,EA,EB]using hh
   |false =>
    have hst:isStr lo hi val e=true:=by simp[isStr,hc1,hc2]
    obtain⟨hn1,hn2⟩:=SO he hst hw;have q2:i*4+2+1≤b.ar.length*4:=by omega
    have q3:i*4+3+1≤b.ar.length*4:=by omega
    have p1:=Lq (f:=mS.enc) (w:=4) (k:=2) (v:=.bool false) (fun _=>rfl) (by omega) (x':=⟨e.m,false,e.by_⟩) hat rfl;have hat2:((b.km lo hi val i).ar.set i ⟨e.m,false,e.by_⟩)[i]?=some ⟨e.m,false,e.by_⟩:=by simp[hml,h1]
    have p2:=Lq (f:=mS.enc) (w:=4) (k:=3) (v:=.int .i64 b.at_) (fun _=>rfl) (by omega) (x':=⟨e.m,false,b.at_⟩) hat2 rfl;rw[List.set_set]at p2;have hl2:=D3 ((b.km lo hi val i).ar.set i ⟨e.m,false,e.by_⟩);rw[List.length_set,hml]at hl2;have h5:i<b.rT.length:=by omega
    have q5:i*4+4≤b.rT.length*4:=by omega
    have hwe:=Ro (b.km lo hi val i).rT;rw[hwl]at hwe;have p3:=QM (f:=RL.enc) (w:=4) (fun _=>rfl) (l:=(b.km lo hi val i).rT) (i:=i) (x:=⟨b.at_,val e.m,lo,hi⟩) (by omega);simp only[RL.enc,fP,List.nil_append]at p3;simp[-length_flatMap,-map_take,h1,hf1,hf2,Bk.bj,Bk.cells,hml,hwl,hfl,hlen,q,h4,hc1,hcall,fk,hc2,q2,q3,p1,p2,hl2,h5,q5,hwe,p3];exact WL.to ih (by simp) (by simp[Bk.bj,Bk.cells,hwl,hn1,hn2,hml]) fun x e σ' hh=>by simpa[Bk.bj,Bk.cells,EA,EB]using hh
def tx(b:Bk)(lo hi:Int)(val:cU→Int):Bk:=b.km lo hi val b.ar.length
theorem K6{A F:List Abs.aE}{b:Bk}{er:List Int}{lo hi:Int}{val:cU→Int}{fv:D}(hf1:fv.strip=fv)(hf2:fv.calm=fv)(hw:b.rT.length=b.ar.length)(hl:b.ar.length≤40)
  (hv:∀i e,e∈b.ar→e.left=true→pQ (lim T) false fv [.agg [.str e.m.name,.aH e.m.bq.length (e.m.bq.flatMap aY)]] ([]::A::F::(b.km lo hi val i).bj σ.length er::σ)=some (.int .i64 (val e.m),[]::A::F::(b.km lo hi val i).bj σ.length er::σ)):
  lim T (.call false gH [.ref σ.length 6 0 0,.agg [.int .i64 lo,.int .i64 hi],fv] (A::F::b.bj σ.length er::σ))=some (.val (.dV []) (A::F::(tx b lo hi val).bj σ.length er::σ)):=by
 refine fQ AR mI.eq_1 rfl (by simp) ?_;have h:=K8 (A:=A) (F:=F) (er:=er) hf1 hf2 hw hl hv b.ar.length 0 (by omega);rw[SQ]at h;simp[-length_flatMap,-map_take,Bk.bj,Bk.cells,hf1,hf2];refine WL.to h (by simp) (by simp[Bk.bj,Bk.cells]) ?_;rintro x e σ' ⟨rfl,rfl⟩;simp[tx,Bk.bj,Bk.cells]
end Go.Proofs.YtfgljaglidhjiaaGreatDoor
namespace Go.Proofs.YtfgljaglidhjiaaGreatDoor
open List(length_flatMap map_take)
open Go Go.Abs Go.Rock
variable {σ:SK}
theorem LK(l:List Nat):(l.flatMap fun _=>[D.aH 0 []])=List.replicate l.length (.aH 0 []):=by
 induction l with
 |nil=>rfl
 |cons a l ih=>rw[aS,ih];rfl
end Go.Proofs.YtfgljaglidhjiaaGreatDoor
namespace Go.Rock
open List(length_flatMap map_take)
open Go Go.Abs
structure xR where
 name:List UInt8
 kind:Int
 bl:List Int
 wt:List Int
 lo:Int
 hi:Int
structure wO where
 tick:Int
 rS:Int
 idx:Int
 lo:Int
 hi:Int
@[simp] theorem xR.eta(p:xR):xR.mk p.name p.kind p.bl p.wt p.lo p.hi=p:=rfl
@[simp] theorem wO.eta(p:wO):wO.mk p.tick p.rS p.idx p.lo p.hi=p:=rfl
@[simp] def xR.enc(m:xR):List D:=[.str m.name,.int .i64 m.kind,.aH m.bl.length (m.bl.flatMap aY),.aH m.wt.length (m.wt.flatMap aY),.int .i64 m.lo,.int .i64 m.hi]
@[simp] def wO.enc(x:wO):List D:=[.int .i64 x.tick,.int .u8 x.rS,.int .i64 x.idx,.int .i64 x.lo,.int .i64 x.hi]
def BL(n:Int):Int→List Int→List Int→Bool
 |last,b::bl,w::wt=>decide (last<b) && (decide (b<n) && (cT w (-1000) 1000 && BL n b bl wt))
 |_,_,_=>true
def H9(f:gb)(kind:Int)(bl wt:List Int):Bool:=cT kind 0 (f.k-1) && (decide (1≤bl.length) && (decide (bl.length=wt.length) && BL f.size (-1) bl wt))
def Hy(lo hi:Int):Bool:=decide (-10000000000≤lo) && (decide (lo≤hi) && decide (hi≤10000000000))
def gb.measure(f:gb)(m:xR):Int:=if named m.name then(if H9 f m.kind m.bl m.wt && Hy m.lo m.hi then 0 else 1)else 5
def gb.D1(f:gb)(met:List (List UInt8)):List xR→Int
 |[]=>0
 |m::l=>if f.measure m=0 then(if met.contains m.name then 6 else f.D1 (met++[m.name]) l)else f.measure m
def gb.Ek(f:gb)(l:List xR):Int:=if 12<l.length then 3 else f.D1 [] l
structure Mev(f:gb)(x:xR):Prop where
 name:x.name.length≤16
 kind:0≤x.kind∧x.kind<f.k
 ne:1≤x.bl.length
 len:x.bl.length=x.wt.length
 av1:BL f.size (-1) x.bl x.wt=true
 ends : -10000000000≤x.lo∧x.lo≤x.hi∧x.hi≤10000000000
theorem Mev.of{f:gb}{x:xR}(h:f.measure x=0):Mev f x:=by
 unfold gb.measure at h;split at h
 ·rename_i h1;split at h
  ·rename_i h2;simp only[H9,Hy,af,au,bf]at h2;obtain⟨⟨h3,h4,h5,h6⟩,h7,h8,h9⟩:=h2;simp only[named,af]at h1;have:=bf.1 h1.2;exact⟨by omega,by omega,h4,h5,h6,h7,h8,h9⟩
  ·cases h
 ·cases h
theorem JG{n:Int}:∀{bl wt:List Int} {last:Int},bl.length=wt.length→BL n last bl wt=true→last<n→(bl.length:Int)≤n-1-last
 |[],wt,last,hl,h,hn=>by simp;omega
 |b::bl,[],last,hl,h,hn=>by simp at hl
 |b::bl,w::wt,last,hl,h,hn=>by
  simp only[BL,af,au]at h;obtain⟨h1,h2,h3,h4⟩:=h;have:=JG (n:=n) (bl:=bl) (wt:=wt) (last:=b) (by simpa using hl) h4 h2;simp only[aG];omega
theorem MN{n:Int}:∀{bl wt:List Int} {last:Int} {i:Nat} {b w:Int},BL n last bl wt=true→bl[i]?=some b→wt[i]?=some w→last<b∧b<n∧(-1000≤w∧w≤1000)
 |[],wt,last,i,b,w,h,hb,hw=>by simp at hb
 |b'::bl,[],last,i,b,w,h,hb,hw=>by simp at hw
 |b'::bl,w'::wt,last,i,b,w,h,hb,hw=>by
  simp only[BL,af,au]at h;obtain⟨h1,h2,h3,h4⟩:=h;cases i with
  |zero =>
   simp only[cA,ae]at hb hw;subst hb hw;exact⟨h1,h2,bf.1 h3⟩
  |succ i =>
   have:=MN h4 (by simpa using hb) (by simpa using hw);omega
def afy(bq:List Int)(off:Int):Int→List Int→List Int→Int
 |acc,b::bl,w::wt=>afy bq off (acc+w*(bq[(off+b).toNat]?).getD 0) bl wt
 |acc,_,_=>acc
def MW(f:gb)(m:cU)(x:xR):Int:=afy m.bq (x.kind*f.size) 0 x.bl x.wt
def aeU(lo hi s:Int):Int:=if hi<s then s-hi else if s<lo then s-lo else 0
def BE(lo hi s:Int):Int:=max 0 (s-hi)+min 0 (s-lo)
theorem NY{lo hi s:Int}(h:lo≤hi):BE lo hi s=aeU lo hi s:=by
 unfold BE aeU;split
 ·omega
 ·split<;>omega
def aE.FC(y:aE):Int:=if y.m=0 then 0 else y.h.tdiv y.m
def aE.MO(y:aE)(rS:Int):Int:=if rS=2 then y.m else if rS=3 then y.FC else y.k
def vY(b:cz)(m:cU)(r:List (List aE)×List (List aE))(x:wO):Int :=
 if x.rS=1 then lr b m ((r.1[x.tick.toNat]?).getD []) x.idx.toNat else aE.MO (bP ((r.2[x.tick.toNat-1]?).getD []) x.idx.toNat) x.rS
def vX(b:cz)(zH:Int)(x:wO):Int :=
 if !cT x.rS 1 4 || (decide (x.lo < -10000000000) || (decide (x.hi<x.lo) || decide (10000000000<x.hi)))then 1
 else if !cT x.tick (if x.rS=1 then 0 else 1) zH || !cT x.idx 0 ((if x.rS=1 then b.size else b.an.length)-1)then 2 else 0
def xJ(b:cz)(zH:Int)(l:List wO):Int:=if 40<l.length then 3 else cN (vX b zH) l
structure Rdv(b:cz)(n:Nat)(x:wO):Prop where
 rS:1≤x.rS∧x.rS≤4
 ends : -10000000000≤x.lo∧x.lo≤x.hi∧x.hi≤10000000000
 p:x.rS=1→(0≤x.tick∧x.tick≤n)∧0≤x.idx∧x.idx<b.size
 y:x.rS≠1→(1≤x.tick∧x.tick≤n)∧0≤x.idx∧x.idx<b.an.length
theorem Rdv.of{b:cz}{n:Nat}{x:wO}(h:vX b n x=0):Rdv b n x:=by
 unfold vX at h;by_cases h3:x.rS=1
 ·rw[if_pos h3,if_pos h3]at h;split at h
  ·cases h
  ·rename_i h1;simp only[ck,au,dW,not_or,Bool.not_eq_false,bf]at h1;split at h
   ·cases h
   ·rename_i h2;simp only[ck,dW,not_or,Bool.not_eq_false,bf]at h2;exact⟨h1.1,by omega,fun _=>by omega,fun h=>absurd h3 h⟩
 ·rw[if_neg h3,if_neg h3]at h;split at h
  ·cases h
  ·rename_i h1;simp only[ck,au,dW,not_or,Bool.not_eq_false,bf]at h1;split at h
   ·cases h
   ·rename_i h2;simp only[ck,dW,not_or,Bool.not_eq_false,bf]at h2;exact⟨h1.1,by omega,fun h=>absurd h h3,fun _=>by omega⟩
end Go.Rock
namespace Go.Proofs.YtfgljaglidhjiaaGreatDoor
open List(length_flatMap map_take)
open Go Go.Abs Go.Rock
variable {σ:SK}
theorem IK{f:gb}(h:f.valid=true):lim T (.call false dw [.agg [.int .i64 f.x,.int .i64 f.y,.int .i64 f.z,.int .i64 f.k]] σ)=some (.val (.int .i64 f.size) σ):=by
 obtain⟨h1,h2,h3,h4,h5⟩:=gb.tT.1 h;exact GK h1 h2 h3
theorem TO{f:gb}{bl wt:List Int}(hf:f.valid=true)(hl:bl.length≤9223372036854775807)(hw:bl.length=wt.length):∀(k i:Nat) (last:Int),i+k=bl.length →
  WL T [3,4,9,30,31,32] false lB [(3,.aH wt.length (wt.flatMap aY)),(4,.bB [.int .i64 f.x,.int .i64 f.y,.int .i64 f.z,.int .i64 f.k]),(9,.int .i64 last),(30,.aH bl.length (bl.flatMap aY)),(31,.int .i64 bl.length),(32,.int .i64 i)] σ
   (fun x e σ'=>σ'=σ∧if BL f.size last (bl.drop i) (wt.drop i)then x=.exit 0 else x=.ret∧get e 8=.bool false)
 |0,i,last,hi=>by
  refine aM lB.eq_1 ?_;have h1:¬i<bl.length:=by omega
  have h2:bl.drop i=[]:=aA (by omega);simp[-length_flatMap,-map_take,h1,h2,BL]
 |k+1,i,last,hi=>by
  refine aM lB.eq_1 ?_;have h1:i<bl.length:=by omega
  have h1':i<wt.length:=by omega
  obtain⟨b,hb⟩:=gE h1;obtain⟨w,hw'⟩:∃r,wt[i]?=some r:=⟨_,aN h1'⟩;have h2:=rH hb;have h3:=rH hw';have h4:=gN h1 hl;have h5:=cq hb;have h6:=cq hw';have hB:=fun σ=>IK (σ:=σ) hf
  have ih:=TO hf hl hw k (i+1) b (by omega);rw[h5,h6,BL];by_cases c1:b≤last
  ·simp[-length_flatMap,-map_take,h1,h1',h2,h3,h4,hB,hJ,c1,show ¬last<b by omega]
  ·by_cases c2:f.size≤b
   ·simp[-length_flatMap,-map_take,h1,h1',h2,h3,h4,hB,hJ,c1,c2,show last<b by omega,show ¬b<f.size by omega]
   ·cases c3:cT w (-1000) 1000
    ·simp[-length_flatMap,-map_take,h1,h1',h2,h3,h4,hB,hJ,c1,c2,c3,show last<b by omega,show b<f.size by omega]
    ·simp[-length_flatMap,-map_take,h1,h1',h2,h3,h4,hB,hJ,c1,c2,c3,show last<b by omega,show b<f.size by omega];exact WL.to ih (by simp) rfl fun x e σ hh=>by simpa[show last<b by omega,show b<f.size by omega]using hh
theorem anp{f:gb}{k:Int}{bl wt:List Int}(hf:f.valid=true)(hl:bl.length≤9223372036854775807)(hk:f.valid=true→True):
  lim T (.call false mj [.agg [.int .i64 f.x,.int .i64 f.y,.int .i64 f.z,.int .i64 f.k],.int .i64 k,.aH bl.length (bl.flatMap aY),.aH wt.length (wt.flatMap aY)] σ)=some (.val (.bool (H9 f k bl wt)) σ):=by
 refine aw CT pa.eq_1 rfl ?_;obtain⟨q1,q2,q3,q4,q5⟩:=gb.tT.1 hf;have w1:=fN (n:=f.k-1) (by omega);unfold H9;cases c1:cT k 0 (f.k-1)
 ·simp[-length_flatMap,-map_take,hJ,w1,c1]
 by_cases c2:1≤bl.length
 rotate_left
 ·have:bl=[]:=bY.1 (by omega);subst this;simp[-length_flatMap,-map_take,hJ,w1,c1]
 have c2':¬(bl.length:Int)<1:=by omega
 have c2'':¬bl=[]:=fun h=>by rw[h]at c2;simp at c2
 by_cases c3:bl.length=wt.length
 rotate_left
 ·simp[-length_flatMap,-map_take,hJ,w1,c1,c2',c2'',c3,show ¬(bl.length:Int)=wt.length by omega]
 have c4:¬(wt.length:Int)<1:=by omega
 have c5:¬wt=[]:=fun h=>by rw[h]at c3;simp at c3;exact c2'' c3
 simp[-length_flatMap,-map_take,hJ,w1,c1,c2,c2',c2'',c3,c4,c5];refine WL.to (TO (σ:=[]::σ) hf hl c3 bl.length 0 (-1) (by omega)) (by simp[c3]) rfl ?_;rintro x e σ' ⟨rfl,h⟩;simp only[aO]at h;cases hc:BL f.size (-1) bl wt
 ·simp[hc]at h;simp[h]
 ·simp[hc]at h;simp[-length_flatMap,-map_take,h];omega
theorem afZ{lo hi:Int}:lim T (.call false mm [.agg [.int .i64 lo,.int .i64 hi]] σ)=some (.val (.bool (Hy lo hi)) σ):=by
 refine aw CU pc.eq_1 rfl ?_;unfold Hy;by_cases c1 : -10000000000≤lo
 ·by_cases c2:lo≤hi<;>simp[-length_flatMap,-map_take,c1,c2]
 ·simp[-length_flatMap,-map_take,c1]
theorem IQ{f:gb}{m:xR}(hf:f.valid=true)(hn:m.name.length≤1000000000)(hl:m.bl.length≤9223372036854775807):
  lim T (.call false gD [.agg [.int .i64 f.x,.int .i64 f.y,.int .i64 f.z,.int .i64 f.k],.agg m.enc] σ)=some (.val (.int .i64 (f.measure m)) σ):=by
 refine aw AL mC.eq_1 rfl ?_;have h1:=fun σ=>Gv (σ:=σ) hn
 have h2:=fun σ=>anp (σ:=σ) (k:=m.kind) (wt:=m.wt) hf hl (fun _=>trivial)
 unfold gb.measure;cases c1:named m.name
 ·simp[-length_flatMap,-map_take,h1,c1]
 cases c2:H9 f m.kind m.bl m.wt
 ·simp[-length_flatMap,-map_take,h1,h2,c1,c2]
 cases c3:Hy m.lo m.hi<;>simp[-length_flatMap,-map_take,h1,h2,afZ,c1,c2,c3]
theorem aty{f:gb}{m:xR}(hf:f.valid=true)(hn:m.name.length≤1000000000)(hl:m.bl.length≤9223372036854775807):
  lim T (.call false dE [.agg m.enc,.bB [.int .i64 f.x,.int .i64 f.y,.int .i64 f.z,.int .i64 f.k]] σ)=some (.val (.dV [.str m.name,.int .i64 (f.measure m)]) σ):=by
 refine aw yM jW.eq_1 rfl ?_;have h:=fun σ=>IQ (σ:=σ) hf hn hl
 simp only[xR.enc]at h ⊢;simp[-length_flatMap,-map_take,h]
theorem aha{l:List xR}{j:Nat}{m:xR}(h:l[j]?=some m):((l.flatMap xR.enc).drop (j*6)).take 6=m.enc :=
 bW (f:=xR.enc) (w:=6) (fun _=>rfl) h
def Oc(l:List xR):Prop:=∀m∈l,m.name.length≤1000000000∧m.bl.length≤9223372036854775807
theorem OE{f:gb}{l:List xR}(hf:f.valid=true)(hs:Oc l)(hl:l.length≤1000000000):∀(k i:Nat) (met:List (List UInt8)),i+k=l.length →
  WL T [1,5,11,12,13] false fR [(1,.fn dE [] [.bB [.int .i64 f.x,.int .i64 f.y,.int .i64 f.z,.int .i64 f.k]]),(5,.l7 σ.length 0),(11,.aH l.length (l.flatMap xR.enc)),(12,.int .i64 l.length),(13,.int .i64 i)] ([.cells 0 (CA met)]::σ)
   (fun x e σ'=>∃s,σ'=s::σ∧if f.D1 met (l.drop i)=0 then x=.exit 0 else x=.ret∧get e 4=.int .i64 (f.D1 met (l.drop i)))
 |0,i,met,hi=>by
  refine aM fR.eq_1 ?_;have h1:¬i<l.length:=by omega
  have h2:l.drop i=[]:=aA (by omega);simp[-length_flatMap,-map_take,h1,h2,gb.D1]
 |k+1,i,met,hi=>by
  refine aM fR.eq_1 ?_;have h1:i<l.length:=by omega
  obtain⟨m,hm⟩:=gE h1;have h2:=aha hm;have h4:=gN h1 (by omega);have h5:=cq hm;obtain⟨hs1,hs2⟩:=hs m (aj hm);have hC:=fun σ=>aty (σ:=σ) hf hs1 hs2
  simp only[xR.enc]at h2 hC;rw[h5,gb.D1];by_cases hc1:f.measure m=0
  ·have hg:=amG (S:=[.cells 0 (CA met)]::σ) (l:=σ.length) (i:=0) (met:=met) (k:=m.name) (by simp);cases hc2:met.contains m.name
   ·rw[hc2]at hg;have hp:=amH (S:=[.cells 0 (CA met)]::σ) (l:=σ.length) (i:=0) (met:=met) (k:=m.name) (by simp) hc2;have ih:=OE hf hs hl k (i+1) (met++[m.name]) (by omega);simp at hp;have hc3:¬m.name∈met:=by simpa using hc2
    simp[-length_flatMap,-map_take,h1,h2,h4,hC,hc1,hg,hp,hc3];exact WL.to ih (by simp) (by simp) fun x e σ' hh=>by simpa[hc1]using hh
   ·rw[hc2]at hg;have hc3:m.name∈met:=by simpa using hc2
    simp[-length_flatMap,-map_take,h1,h2,h4,hC,hc1,hg,hc3]
  ·simp[-length_flatMap,-map_take,h1,h2,h4,hC,hc1]
theorem afX{f:gb}{l:List xR}(hf:f.valid=true)(hs:Oc l)(hl:l.length≤1000000000):
  lim T (.call false fy [.aH l.length (l.flatMap xR.enc),.fn dE [] [.bB [.int .i64 f.x,.int .i64 f.y,.int .i64 f.z,.int .i64 f.k]]] σ)=some (.val (.int .i64 (f.D1 [] l)) σ):=by
 refine aw xd iG.eq_1 rfl ?_;have hm:AY ([]::σ) .make []=some (.l7 σ.length 0,[.cells 0 (CA [])]::σ):=by simp[AY,CA]
 simp[-length_flatMap,-map_take,hm];refine WL.to (OE (σ:=σ) hf hs hl l.length 0 [] (by omega)) (by simp) (by simp) ?_;rintro x e σ' ⟨s,rfl,h⟩;simp only[aO]at h;by_cases hc:f.D1 [] l=0
 ·rw[if_pos hc]at h;subst h;simp[-length_flatMap,-map_take,hc]
 ·rw[if_neg hc]at h;obtain⟨rfl,h⟩:=h;simp[h]
theorem Nf{f:gb}{l:List xR}(hf:f.valid=true)(hs:Oc l)(hl:l.length≤1000000000):
  lim T (.call false iK [.agg [.int .i64 f.x,.int .i64 f.y,.int .i64 f.z,.int .i64 f.k],.aH l.length (l.flatMap xR.enc)] σ)=some (.val (.int .i64 (f.Ek l)) σ):=by
 refine aw zO lu.eq_1 rfl ?_;unfold gb.Ek;by_cases hc:12<l.length
 ·simp[-length_flatMap,-map_take,hc,show(12:Int)<l.length by omega]
 ·simp[-length_flatMap,-map_take,hc,show ¬(12:Int)<l.length by omega,afX hf hs hl]
end Go.Proofs.YtfgljaglidhjiaaGreatDoor
set_option maxRecDepth 100000
namespace Go.Proofs.YtfgljaglidhjiaaGreatDoor
open List(length_flatMap map_take)
open Go Go.Abs Go.Rock
variable {σ:SK}
structure Fm(f:gb)(m:cU):Prop where
 fv:f.valid=true
 len:(m.bq.length:Int)=f.k*f.size
 ok:∀v∈m.bq,-100000≤v∧v≤100000
theorem Fm.of{f:gb}{m:cU}(hf:f.valid=true)(h:f.model m=0):Fm f m:=by
 unfold gb.model at h;split at h
 ·split at h
  ·rename_i h1;exact⟨hf,h1.1,fun v hv=>bf.1 (j7.1 h1.2 v hv)⟩
  ·cases h
 ·cases h
theorem ars{a b A B:Int}(ha : -A≤a∧a≤A)(hb : -B≤b∧b≤B)(hA:0≤A) : -(A*B)≤a*b∧a*b≤A*B:=by
 have key:∀x:Int,0≤x→x≤A → -(A*B)≤x*b∧x*b≤A*B:=by
  intro x h0 h1;have e1:x*b≤x*B:=Int.mul_le_mul_of_nonneg_left hb.2 h0;have e2:x*(-B)≤x*b:=Int.mul_le_mul_of_nonneg_left hb.1 h0;have e3:x*B≤A*B:=fO h1 (by omega);rw[Int.mul_neg]at e2;omega
 rcases ni 0 a with h | h
 ·exact key a h ha.2
 ·have:=key (-a) (by omega) (by omega);rw[Int.neg_mul]at this;omega
theorem axS{f:gb}{m:cU}{x:xR}(hm:Fm f m)(hx:Mev f x):∀(k i:Nat) (acc:Int),i+k=x.bl.length → -(i*100000000)≤acc∧acc≤i*100000000 →
  WL T [2,3,4,8,9,10] false oi [(2,.bB [.int .i64 f.x,.int .i64 f.y,.int .i64 f.z,.int .i64 f.k,.int .i64 x.kind,.aH x.bl.length (x.bl.flatMap aY),.aH x.wt.length (x.wt.flatMap aY)]),(3,.bB [.str m.name,.aH m.bq.length (m.bq.flatMap aY)]),(4,.int .i64 acc),(8,.aH x.bl.length (x.bl.flatMap aY)),(9,.int .i64 x.bl.length),(10,.int .i64 i)] σ
   (fun x' e σ'=>σ'=σ∧x'=.exit 0∧get e 4=.int .i64 (afy m.bq (x.kind*f.size) acc (x.bl.drop i) (x.wt.drop i))):=by
 intro k;induction k with
 |zero =>
  intro i acc hi ha;refine aM oi.eq_1 ?_;have h1:¬i<x.bl.length:=by omega
  have h2:x.bl.drop i=[]:=aA (by omega);simp[-length_flatMap,-map_take,h1,h2,afy]
 |succ k ih0 =>
  intro i acc hi ha;refine aM oi.eq_1 ?_;have h1:i<x.bl.length:=by omega
  have hlen:=hx.len;have h1':i<x.wt.length:=by omega
  obtain⟨b,hb⟩:=gE h1;obtain⟨w,hw⟩:=gE h1';obtain⟨q1,q2⟩:=Mm hm.fv;obtain⟨z1,z2,z3,z4,z5⟩:=gb.tT.1 hm.fv;obtain⟨s1,s2,s3⟩:=MN hx.av1 hb hw;have hl64:=JG hx.len hx.av1 (by omega);have h4:=gN h1 (by omega);have h5:=cq hb;have h6:=cq hw;have h2:=rH hb;have h3:=rH hw;have k1:=hx.kind;have k2:0≤x.kind*f.size∧x.kind*f.size+f.size≤f.k*f.size:=by
   refine⟨fw k1.1 (by omega),?_⟩;have:=fO (show x.kind+1≤f.k by omega) (show 0≤f.size by omega);rw[Int.add_mul]at this;omega
  have hvl:=hm.len;obtain⟨j,hj⟩:∃j:Nat,x.kind*f.size+b=j:=⟨(x.kind*f.size+b).toNat,by omega⟩;have hj1:j<m.bq.length:=by omega
  obtain⟨v,hv⟩:=gE hj1;have hvb:=hm.ok v (aj hv);have h7:=rH hv;have hB:=fun σ=>IK (σ:=σ) hm.fv
  have b1:=ars (a:=w) (b:=v) (A:=1000) (B:=100000) (by omega) hvb (by omega);have w1:=fN (n:=x.kind*f.size) (by omega);have w2:=fN (n:=(j:Int)) (by omega);have w3:=fN (n:=w*v) (by omega);have w4:=fN (n:=acc+w*v) (by omega);have ih:=ih0 (i+1) (acc+w*v) (by omega) (by omega);rw[h5,h6,afy,hj];simp only[Int.toNat_natCast,hv,ic];simp[-length_flatMap,-map_take,h1,h1',h2,h3,h4,hB,w1,w2,w3,w4,hj,hj1,h7];exact WL.to ih (by simp) rfl fun x e σ hh=>by simpa[hv]using hh
theorem agh{f:gb}{m:cU}{x:xR}(hm:Fm f m)(hx:Mev f x):lim T (.call false lW [.agg [.int .i64 f.x,.int .i64 f.y,.int .i64 f.z,.int .i64 f.k,.int .i64 x.kind,.aH x.bl.length (x.bl.flatMap aY),.aH x.wt.length (x.wt.flatMap aY)],.agg [.str m.name,.aH m.bq.length (m.bq.flatMap aY)]] σ)=some (.val (.int .i64 (MW f m x)) σ):=by
 refine aw EL rX.eq_1 rfl ?_;simp[-length_flatMap,-map_take];refine WL.to (axS (σ:=[]::σ) hm hx x.bl.length 0 0 (by omega) (by simp)) (by simp) rfl ?_;rintro x' e σ' ⟨rfl,rfl,g⟩;simp[-length_flatMap,-map_take,g,MW]
theorem TC{f:gb}{x:xR}:lim T (.call false kg [.agg [.int .i64 f.x,.int .i64 f.y,.int .i64 f.z,.int .i64 f.k],.agg x.enc] σ)=some (.val (.fn lW [.agg [.int .i64 f.x,.int .i64 f.y,.int .i64 f.z,.int .i64 f.k,.int .i64 x.kind,.aH x.bl.length (x.bl.flatMap aY),.aH x.wt.length (x.wt.flatMap aY)]] []) σ):=by
 refine aw A8 nr.eq_1 rfl ?_;simp[-length_flatMap,-map_take,D.clean,bw]
end Go.Proofs.YtfgljaglidhjiaaGreatDoor
namespace Go.Book
open List(length_flatMap map_take)
open Go Go.Abs Go.Rock
def xm(f:gb)(x:xR):Int:=if f.valid=true then f.measure x else 1
def za(p:Int×Int):List D:=[.int .i64 p.1,.int .i64 p.2]
def sB(nm:List UInt8)(k lo hi:Int)(ps:List (Int×Int)):xR:=⟨nm,k,ps.map (·.1),ps.map (·.2),lo,hi⟩
end Go.Book
namespace Go.Proofs.YtfgljaglidhjiaaGreatDoor
open List(length_flatMap map_take)
open Go Go.Abs Go.Rock Go.Book
variable {σ:SK}
theorem KQ{f:gb}{x:xR}(hf:f.valid=true)(hn:x.name.length≤1000000000)(hl:x.bl.length≤1000000000):
  lim T (.call false dR [.bB [.int .i64 f.x,.int .i64 f.y,.int .i64 f.z,.int .i64 f.k],.bB [.aH 1 x.enc]] σ)=some (.val (.int .i64 (f.measure x)) σ):=by
 refine aw zj kr.eq_1 rfl ?_;have h:=fun σ=>Nf (σ:=σ) (f:=f) (l:=[x]) hf (by intro m hm;simp at hm;subst hm;exact⟨hn,by omega⟩) (by simp)
 have he:f.Ek [x]=f.measure x:=by
  simp only[gb.Ek,gb.D1];by_cases h:f.measure x=0<;>simp[h]
 rw[he]at h;simp only[List.length_singleton,aS,dP,eE]at h;simp only[xR.enc]at h ⊢;simp[-length_flatMap,-map_take,h]
theorem FG{f:gb}{x:xR}(hn:x.name.length≤1000000000)(hl:x.bl.length≤1000000000):
  lim T (.call false jx [.agg [.int .i64 f.x,.int .i64 f.y,.int .i64 f.z,.int .i64 f.k],.aH 1 x.enc] σ)=some (.val (.int .i64 (xm f x)) σ):=by
 refine aw AJ mA.eq_1 rfl ?_;have hC:=fun σ=>JJ (σ:=σ) (fs:=[.fn cQ [.agg [.int .i64 f.x,.int .i64 f.y,.int .i64 f.z,.int .i64 f.k]] [],.fn dR [] [.bB [.int .i64 f.x,.int .i64 f.y,.int .i64 f.z,.int .i64 f.k],.bB [.aH 1 x.enc]]]) (es:=[f.shape,f.measure x]) rfl (by simp) (by simp) (by
  intro i d n hd hn' h0 σ;match i with
  |0 =>
   simp at hd hn';subst hd hn';simp[Gw]
  |1 =>
   simp only[List.getElem?_cons_succ,cA,ae]at hd hn';subst hd hn';have h1:f.valid=true:=by
    have:=h0 0 (by omega);simp[gb.shape]at this;exact this
   have hh:=KQ (σ:=σ) h1 hn hl;rw[sK];have h':lim T (.call false dR ([]++[]++[.bB [.int .i64 f.x,.int .i64 f.y,.int .i64 f.z,.int .i64 f.k],.bB [.aH 1 x.enc]]) σ)=_:=hh;rw[h'];rfl
  |i+2=>simp at hd)
 have e1:cN id [f.shape,f.measure x]=xm f x:=by
  simp only[cN,id,xm,gb.shape];by_cases h:f.valid=true
  ·by_cases h2:f.measure x=0<;>simp[h,h2]
  ·simp[h]
 rw[e1]at hC;simp only[xR.enc,aG,bL]at hC ⊢;simp[-length_flatMap,-map_take,hC]
theorem am7{f:gb}{m:cU}(hf:f.valid=true)(hn:m.name.length≤1000000000)(hl:m.bq.length≤1000000000):
  lim T (.call false qR [.bB [.int .i64 f.x,.int .i64 f.y,.int .i64 f.z,.int .i64 f.k],.bB [.str m.name,.aH m.bq.length (m.bq.flatMap aY)]] σ)=some (.val (.int .i64 (f.model m)) σ):=by
 refine aw Ih vu.eq_1 rfl ?_;simp[-length_flatMap,-map_take,Oz hf hn hl]
theorem am8{f:gb}{x:xR}(hf:f.valid=true)(hn:x.name.length≤1000000000)(hl:x.bl.length≤1000000000):
  lim T (.call false nX [.bB [.int .i64 f.x,.int .i64 f.y,.int .i64 f.z,.int .i64 f.k],.bB x.enc] σ)=some (.val (.int .i64 (f.measure x)) σ):=by
 refine aw Ii vv.eq_1 rfl ?_;have h:=fun σ=>IQ (σ:=σ) (f:=f) (m:=x) hf hn (by omega)
 simp only[xR.enc]at h ⊢;simp[-length_flatMap,-map_take,h]
theorem am6{f:gb}{m:cU}{x:xR}(hf:f.valid=true)(hm:f.model m=0)(hx:f.measure x=0)(hn:m.name.length≤1000000000)(hl:m.bq.length≤1000000000)(hn2:x.name.length≤1000000000)(hl2:x.bl.length≤1000000000):
  lim T (.call false vS [.agg [.int .i64 f.x,.int .i64 f.y,.int .i64 f.z,.int .i64 f.k],.agg [.str m.name,.aH m.bq.length (m.bq.flatMap aY)],.agg x.enc] σ)=some (.val (.dV [.int .i64 (MW f m x),.int .i64 0]) σ):=by
 refine aw Lb yf.eq_1 rfl ?_;have hC:=fun σ=>JJ (σ:=σ) (fs:=[.fn cQ [.agg [.int .i64 f.x,.int .i64 f.y,.int .i64 f.z,.int .i64 f.k]] [],.fn qR [] [.bB [.int .i64 f.x,.int .i64 f.y,.int .i64 f.z,.int .i64 f.k],.bB [.str m.name,.aH m.bq.length (m.bq.flatMap aY)]],.fn nX [] [.bB [.int .i64 f.x,.int .i64 f.y,.int .i64 f.z,.int .i64 f.k],.bB x.enc]]) (es:=[f.shape,f.model m,f.measure x]) rfl (by simp) (by simp) (by
  intro i d n hd hn' h0 σ;match i with
  |0 =>
   simp at hd hn';subst hd hn';simp[Gw]
  |1 =>
   simp at hd hn';subst hd hn';simp[am7 hf hn hl]
  |2 =>
   simp only[List.getElem?_cons_succ,cA,ae]at hd hn';subst hd hn';have hh:=am8 (σ:=σ) hf hn2 hl2;rw[sK];have h':lim T (.call false nX ([]++[]++[.bB [.int .i64 f.x,.int .i64 f.y,.int .i64 f.z,.int .i64 f.k],.bB x.enc]) σ)=_:=hh;rw[h'];rfl
  |i+3=>simp at hd)
 have e1:cN id [f.shape,f.model m,f.measure x]=0:=by simp[cN,gb.shape,hf,hm,hx]
 rw[e1]at hC;have hW:=fun σ=>TC (σ:=σ) (f:=f) (x:=x)
 have hS:=fun σ=>agh (σ:=σ) (Fm.of hf hm) (Mev.of hx)
 simp only[xR.enc,aG,bL]at hC hW ⊢;simp[-length_flatMap,-map_take,hC,hW,hS]
theorem Q3(l:List (Int×Int)):(l.flatMap za).length=l.length*2:=bX (f:=za) (w:=2) (fun _=>rfl) l
theorem zx(l:List Int):(l.flatMap aY).length=l.length:=by have:=bX (f:=aY) (w:=1) (fun _=>rfl) l;omega
def Iz(L:Nat)(nm:List UInt8)(k lo hi:Int)(ps:List (Int×Int)):List Abs.aE :=
 [.cells 0 [.str nm,.int .i64 k,.sl L 1 ps.length 0 ps.length 1,.sl L 2 ps.length 0 ps.length 1,.int .i64 lo,.int .i64 hi],.cells ps.length ((ps.map (·.1)).flatMap aY),.cells ps.length ((ps.map (·.2)).flatMap aY)]
theorem JL{ps:List (Int×Int)}(hps:ps.length≤1000000){X Y:D}(hx:X.calm=X)(hy:Y.calm=Y){nm:List UInt8}{k lo hi:Int}:∀(m j:Nat),j+m=ps.length →
  WL T [2,3,6,30,31,32] false iH [(2,X),(3,Y),(6,.ref σ.length 0 0 0),(30,.aH (ps.length*2) (ps.flatMap za)),(31,.int .i64 (ps.length*2)),(32,.int .i64 (j*2))] (Iz σ.length nm k lo hi (ps.take j)::σ)
   (fun x e σ'=>x=.exit 0∧get e 2=X∧get e 3=Y∧get e 6=.ref σ.length 0 0 0∧get e 1000006=.undef∧σ'=Iz σ.length nm k lo hi ps::σ)
 |0,j,h=>by
  refine aM iH.eq_1 ?_;have h1:¬j<ps.length:=by omega
  have h2:ps.take j=ps:=ai (by omega);simp[-length_flatMap,-map_take,h1,hx,hy,h2]
 |m+1,j,h=>by
  refine aM iH.eq_1 ?_;have h1:j<ps.length:=by omega
  have h2:(j:Int)*2<(ps.length:Int)*2:=by omega
  have h3:(j:Int)*2+1<(ps.length:Int)*2:=by omega
  have h0:0≤(j:Int)*2:=by omega
  have h0':0≤(j:Int)*2+1:=by omega
  obtain⟨p,hp⟩:=gE h1;have hd:=BA (f:=za) (w:=2) (fun _=>rfl) hp;have hd2:(ps.flatMap za).drop (j*2+1)=.int .i64 p.2::(ps.flatMap za).drop (j*2+2):=by
   have:=congrArg (List.drop 1) hd;simpa[za,iE]using this
  have hd1:(ps.flatMap za).drop (j*2)=.int .i64 p.1::.int .i64 p.2::(ps.flatMap za).drop (j*2+2):=by simpa[za]using hd
  have t1:((j:Int)*2).toNat=j*2:=by omega
  have t2:((j:Int)*2+1).toNat=j*2+1:=by omega
  have w1:IntKind.i64.wrap ((j:Int)*2+1)=j*2+1:=fN (by omega);have w2:IntKind.i64.wrap ((j:Int)*2+1+1)=j*2+1+1:=fN (by omega);have m1:((j:Int)*2).tmod 2=0:=by rw[Int.tmod_eq_emod_of_nonneg (by omega)];omega
  have m2:((j:Int)*2+1).tmod 2=1:=by rw[Int.tmod_eq_emod_of_nonneg (by omega)];omega
  have hl:(ps.take j).length=j:=by simp;omega
  have hr:(j+1)*8≤room:=by unfold room;omega
  have ha:=zx ((ps.take j).map (·.1));have hb:=zx ((ps.take j).map (·.2));simp only[di,hl]at ha hb;have ta:(((ps.take j).map (·.1)).flatMap aY).take j=((ps.take j).map (·.1)).flatMap aY:=ai (by omega);have tb:(((ps.take j).map (·.2)).flatMap aY).take j=((ps.take j).map (·.2)).flatMap aY:=ai (by omega);have ih:=JL hps hx hy (nm:=nm) (k:=k) (lo:=lo) (hi:=hi) m (j+1) (by omega);have htk:ps.take (j+1)=ps.take j++[p]:=by rw[List.take_add_one,hp];rfl
  rw[htk]at ih;have hj1:((j+1:Nat):Int)*2=(j:Int)*2+1+1:=by omega
  rw[hj1]at ih;simp[-length_flatMap,-map_take,hx,hy,Iz,hl,h0,h0',h1,h2,h3,t1,t2,hd1,hd2,w1,w2,m1,m2,hr,ha,hb,ta,tb];refine aM iH.eq_1 ?_;simp[-length_flatMap,-map_take,hx,hy,Iz,hl,h0,h0',h1,h2,h3,t1,t2,hd1,hd2,w1,w2,m1,m2,hr,ha,hb,ta,tb];refine WL.to ih (by simp) (by simp[Iz,hl]) fun x e σ' hh=>by simpa[Iz]using hh
theorem anf{A F:List Abs.aE}{b:Bk}{er:List Int}{m:cU}{x:xR}(hf:b.bN.f.valid=true)(hm:b.bN.f.model m=0)(hx:b.bN.f.measure x=0)(hn:m.name.length≤1000000000)(hl:m.bq.length≤1000000000)(hn2:x.name.length≤1000000000)(hl2:x.bl.length≤1000000000):
  lim T (.call false fB [.agg [.str m.name,.aH m.bq.length (m.bq.flatMap aY)],.bB [.ref σ.length 6 0 0],.bB x.enc] ([]::A::F::b.bj σ.length er::σ))=some (.val (.int .i64 (MW b.bN.f m x)) ([]::A::F::b.bj σ.length er::σ)):=by
 refine aw A9 nv.eq_1 rfl ?_;have hS:=fun σ=>am6 (σ:=σ) hf hm hx hn hl hn2 hl2
 simp only[xR.enc]at hS ⊢;simp[-length_flatMap,-map_take,Bk.bj,Bk.cells,hS]
theorem T2{x:xR}:D.bJ x.enc=true:=by simp[xR.enc,bw]
theorem QB{S:SK}{L:Nat}(hS:S.length=L)(hL:0<L){nm:List UInt8}{k lo hi:Int}{ps:List (Int×Int)}:
  D8 L 0 0 (Iz L nm k lo hi ps::S)=(.bB (sB nm k lo hi ps).enc,[.dead,.dead,.dead]::S):=by
 have hne:S≠[]:=by intro h;subst h;simp at hS;omega
 have h1:=Eh (f:=aY) (w:=1) (fun _=>rfl) (fun _=>by simp[D.clean]) (l:=ps.map (·.1)) (j:=1) (v:=ps.length) (bs:=[.dead,.cells ps.length ((ps.map (·.1)).flatMap aY),.cells ps.length ((ps.map (·.2)).flatMap aY)]) (σ:=S) hne (by simp);have h2:=Eh (f:=aY) (w:=1) (fun _=>rfl) (fun _=>by simp[D.clean]) (l:=ps.map (·.2)) (j:=2) (v:=ps.length) (bs:=[.dead,.dead,.cells ps.length ((ps.map (·.2)).flatMap aY)]) (σ:=S) hne (by simp);rw[hS]at h1 h2;simp only[di,List.set_cons_succ,List.set_cons_zero]at h1 h2;simp[D8,Iz,hS,h1,h2,sB]
def FU(b:Bk)(x:xR):Bk×Int:=if b.ar=[]then(b,8)else if xm b.bN.f x=0 then(tx b x.lo x.hi fun m=>MW b.bN.f m x,0)else(b,xm b.bN.f x)
theorem ang{F:List Abs.aE}{b:Bk}{er:List Int}{nm:List UInt8}{k lo hi:Int}{ps:List (Int×Int)}{b':Bk}{e:Int}(hps:ps.length≤1000000)(hnm:nm.length≤1000000000)(hw:b.rT.length=b.ar.length)(hml:b.ar.length≤40)(hms:∀e∈b.ar,b.bN.f.model e.m=0∧e.m.name.length≤1000000000∧e.m.bq.length≤1000000000)(hd:FU b (sB nm k lo hi ps)=(b',e))(he:e=0):
  lim T (.call false gX [.ref σ.length 6 0 0,.str nm,.aH (ps.length*2+3) (.int .i64 k::.int .i64 lo::.int .i64 hi::ps.flatMap za)] (F::b.bj σ.length er::σ))=some (.val (.dV []) (F::b'.bj σ.length er::σ)):=by
 refine fQ xf mc.eq_1 rfl (by simp) ?_;unfold FU at hd;split at hd
 case isTrue=>cases hd;cases he
 rename_i hne;split at hd
 case isFalse=>cases hd;rename_i h;exact absurd he h
 rename_i hck;cases hd;have q0:(0:Int)<(ps.length:Int)*2+3:=by omega
 have q1:(1:Int)<(ps.length:Int)*2+3:=by omega
 have q2:(2:Int)<(ps.length:Int)*2+3:=by omega
 have q3:(3:Int)≤(ps.length:Int)*2+3:=by omega
 have c1:0<b.ar.length:=aT.2 hne;have hC:=fun σ=>FG (σ:=σ) (f:=b.bN.f) (x:=sB nm k lo hi ps) hnm (by simp[sB];omega)
 simp only[hck]at hC;have hv:b.bN.f.valid=true∧b.bN.f.measure (sB nm k lo hi ps)=0:=by
  unfold xm at hck;split at hck
  ·rename_i h;exact⟨h,hck⟩
  ·cases hck
 have hlp:=Q3 ps;have htp:(ps.flatMap za).take (ps.length*2)=ps.flatMap za:=ai (by omega);have hL:=JL (σ:=F::b.bj σ.length er::σ) hps (X:=.aH (ps.length*2+3) (.int .i64 k::.int .i64 lo::.int .i64 hi::ps.flatMap za)) (Y:=.bB [.ref σ.length 6 0 0]) rfl rfl (nm:=nm) (k:=k) (lo:=lo) (hi:=hi) ps.length 0 (by omega);simp[-length_flatMap,-map_take,Bk.bj,Bk.cells,c1,cH,q0,q1,q2,q3];refine WL.to hL (by simp[htp]) (by simp[Iz,Bk.bj,Bk.cells]) ?_;rintro x e σ' ⟨rfl,g2,g3,g6,gu,rfl⟩;have hf:=fun S hS=>QB (S:=S) (L:=σ.length+1+1) hS (by omega) (nm:=nm) (k:=k) (lo:=lo) (hi:=hi) (ps:=ps)
 have hst:=K6 (σ:=σ) (A:=[.dead,.dead,.dead]) (F:=F) (b:=b) (er:=er) (lo:=lo) (hi:=hi) (val:=fun m=>MW b.bN.f m (sB nm k lo hi ps)) (fv:=.fn fB [] [.bB [.ref σ.length 6 0 0],.bB (sB nm k lo hi ps).enc]) rfl rfl hw hml (by
  intro i e he _;obtain⟨k1,k2,k3⟩:=hms e he;have h:=anf (σ:=σ) (A:=[.dead,.dead,.dead]) (F:=F) (er:=er) (b:=b.km lo hi (fun m=>MW b.bN.f m (sB nm k lo hi ps)) i) (m:=e.m) (x:=sB nm k lo hi ps) hv.1 k1 hv.2 k2 k3 hnm (by simp[sB];omega);rw[sK];have h':lim T (.call false fB ([]++[.agg [.str e.m.name,.aH e.m.bq.length (e.m.bq.flatMap aY)]]++[.bB [.ref σ.length 6 0 0],.bB (sB nm k lo hi ps).enc]) ([]::[.dead,.dead,.dead]::F::(b.km lo hi (fun m=>MW b.bN.f m (sB nm k lo hi ps)) i).bj σ.length er::σ))=_:=h;rw[h'];rfl)
 have hcl:=T2 (x:=sB nm k lo hi ps);have e1:(sB nm k lo hi ps).lo=lo:=aD rfl;have e2:(sB nm k lo hi ps).hi=hi:=aD rfl;simp only[Bk.bj,Bk.cells,xR.enc,e1,e2]at hst hC hf hcl;simp[-length_flatMap,-map_take,g2,g3,g6,gu,hf,hC,o7,hst,q1,q2,Bk.bj,Bk.cells,hcl,bw,e1,e2]
theorem af7{F:List Abs.aE}{b:Bk}{er:List Int}{nm:List UInt8}{k lo hi:Int}{ps:List (Int×Int)}{b':Bk}{e:Int}(hps:ps.length≤1000000)(hnm:nm.length≤1000000000)(hd:FU b (sB nm k lo hi ps)=(b',e))(he:e≠0):
  lim T (.call false gX [.ref σ.length 6 0 0,.str nm,.aH (ps.length*2+3) (.int .i64 k::.int .i64 lo::.int .i64 hi::ps.flatMap za)] (F::b.bj σ.length er::σ))=some (.gf (rf e) (F::b.bj σ.length er::σ)):=by
 refine ep xf mc.eq_1 rfl ?_;unfold FU at hd;split at hd
 case isTrue hne =>
  cases hd;simp[-length_flatMap,-map_take,Bk.bj,Bk.cells,hne,dK,D.clean,rf]
 rename_i hne;split at hd
 case isTrue=>cases hd;exact absurd rfl he
 rename_i hck;cases hd;have q0:(0:Int)<(ps.length:Int)*2+3:=by omega
 have q1:(1:Int)<(ps.length:Int)*2+3:=by omega
 have q2:(2:Int)<(ps.length:Int)*2+3:=by omega
 have q3:(3:Int)≤(ps.length:Int)*2+3:=by omega
 have c1:0<b.ar.length:=aT.2 hne;have hC:=fun σ=>FG (σ:=σ) (f:=b.bN.f) (x:=sB nm k lo hi ps) hnm (by simp[sB];omega)
 have hM:=fun σ=>ri (σ:=σ) hck
 generalize xm b.bN.f (sB nm k lo hi ps)=err at hC hM hck he ⊢;have hrc:(D.uH 311 (.agg [.int .i64 err])).clean=true:=rfl;have hlp:=Q3 ps;have htp:(ps.flatMap za).take (ps.length*2)=ps.flatMap za:=ai (by omega);have hL:=JL (σ:=F::b.bj σ.length er::σ) hps (X:=.aH (ps.length*2+3) (.int .i64 k::.int .i64 lo::.int .i64 hi::ps.flatMap za)) (Y:=.bB [.ref σ.length 6 0 0]) rfl rfl (nm:=nm) (k:=k) (lo:=lo) (hi:=hi) ps.length 0 (by omega);simp[-length_flatMap,-map_take,Bk.bj,Bk.cells,c1,cH,q0,q1,q2,q3];refine WL.to hL (by simp[htp]) (by simp[Iz,Bk.bj,Bk.cells]) ?_;rintro x e σ' ⟨rfl,g2,g3,g6,gu,rfl⟩;have hf:=fun S hS=>QB (S:=S) (L:=σ.length+1+1) hS (by omega) (nm:=nm) (k:=k) (lo:=lo) (hi:=hi) (ps:=ps)
 have hcl:=T2 (x:=sB nm k lo hi ps);simp only[Bk.bj,Bk.cells,xR.enc]at hC hf hcl;simp[-length_flatMap,-map_take,g2,g3,g6,gu,hf,hC,hM,q1,q2,Bk.bj,Bk.cells,hcl,bw,rf,hrc]
end Go.Proofs.YtfgljaglidhjiaaGreatDoor
namespace Go.Book
open List(length_flatMap map_take)
open Go Go.Abs Go.Rock
def bV(l:List mS):List mS:=l.filter (·.left)
end Go.Book
namespace Go.Proofs.YtfgljaglidhjiaaGreatDoor
open List(length_flatMap map_take)
open Go Go.Abs Go.Rock Go.Book
variable {σ:SK}
theorem af5{e:mS}:lim T (.call false eU [.agg e.enc] σ)=some (.val (.bool e.left) σ):=by
 refine aw AP mG.eq_1 rfl ?_;simp[-length_flatMap,-map_take]
theorem GV{l:List mS}{lv bi v:Nat}{G:List Abs.aE}(hG:G[bi]?=some (.cells v (l.flatMap mS.enc)))(hs:gB σ lv=some G)(hl:l.length≤1000000):∀(m i:Nat) (acc:List mS),i+m=l.length→acc.length≤i →
  WL T [1,4,7,8,9] false eJ [(1,.fn eU [] []),(4,.sl σ.length 0 acc.length 0 acc.length 4),(7,.sl lv bi v 0 l.length 4),(8,.int .i64 l.length),(9,.int .i64 i)] ([.cells acc.length (acc.flatMap mS.enc)]::σ)
   (fun x e σ'=>x=.exit 0∧get e 4=.sl σ.length 0 (acc++bV (l.drop i)).length 0 (acc++bV (l.drop i)).length 4∧σ'=[.cells (acc++bV (l.drop i)).length ((acc++bV (l.drop i)).flatMap mS.enc)]::σ)
 |0,i,acc,hi,ha=>by
  refine aM eJ.eq_1 ?_;have h1:¬i<l.length:=by omega
  have h2:l.drop i=[]:=aA (by omega);simp[-length_flatMap,-map_take,h1,h2,bV]
 |m+1,i,acc,hi,ha=>by
  refine aM eJ.eq_1 ?_;have h1:i<l.length:=by omega
  obtain⟨e,he⟩:=gE h1;have hfl:=bW (f:=mS.enc) (w:=4) (fun _=>rfl) he;have hd:=cq he;have h4:=gN h1 (by omega);have hlen:=D3 l;have q:4≤l.length*4-i*4:=by omega
  have hlt:=zb hs;have hlv:¬σ.length=lv:=by omega
  have hC:=fun σ=>af5 (σ:=σ) (e:=e)
  simp only[mS.enc]at hC;cases hc:e.left with
  |false =>
   rw[hc]at hC;have ih:=GV hG hs hl m (i+1) acc (by omega) (by omega);simp[-length_flatMap,-map_take,h1,hs,hG,hlv,hfl,hlen,q,h4,hC,hc];exact WL.to ih (by simp) rfl fun x e' σ' hh=>by rw[hd];simpa[bV,hc]using hh
  |true =>
   rw[hc]at hC;have ih:=GV hG hs hl m (i+1) (acc++[e]) (by omega) (by simp;omega);have hr:(acc.length+1)*56≤room:=by unfold room;omega
   have hal:=D3 acc;have hat:(acc.flatMap mS.enc).take (acc.length*4)=acc.flatMap mS.enc:=ai (by omega);simp[-length_flatMap,-map_take,h1,hs,hG,hlv,hfl,hlen,q,h4,hC,hc,hr,hal,hat];exact WL.to ih (by simp) (by simp[hc]) fun x e' σ' hh=>by rw[hd];simpa[bV,hc]using hh
theorem Tb{l:List mS}{lv bi v:Nat}{G:List Abs.aE}(hG:G[bi]?=some (.cells v (l.flatMap mS.enc)))(hs:gB σ lv=some G)(hl:l.length≤1000000)(hσ:σ≠[]):
  lim T (.call false dT [.sl lv bi v 0 l.length 4,.fn eU [] []] σ)=some (.val (.aH (bV l).length ((bV l).flatMap mS.enc)) σ):=by
 refine aw vc fS.eq_1 rfl ?_;have h:=GV (σ:=σ) hG hs hl l.length 0 [] (by omega) (by simp);simp only[List.nil_append]at h;simp[-length_flatMap,-map_take];refine WL.to h (by simp) (by simp) ?_;rintro x e σ' ⟨rfl,g4,rfl⟩;have hk:=Go.Abs.wG (f:=mS.enc) (w:=4) (fun _=>rfl) (fun _=>by simp[D.clean,bw]) (l:=bV l) (j:=0) (v:=(bV l).length) (bs:=[.cells (bV l).length ((bV l).flatMap mS.enc)]) (σ:=σ) hσ (by simp);rw[aO]at g4 ⊢;simp[-length_flatMap,-map_take,g4,hk]
theorem EJ{b:Bk}{er:List Int}{S:SK}(hl:b.ar.length≤1000000)(hs:gB S σ.length=some (b.bj σ.length er)):
  lim T (.call false gj [.ref σ.length 6 0 0] S)=some (.val (.aH (bV b.ar).length ((bV b.ar).flatMap mS.enc)) S):=by
 refine aw Cl oj.eq_1 rfl ?_;have hlt:=zb hs;have hne:¬S.length=σ.length:=by omega
 have h:=Tb (σ:=[]::S) (l:=b.ar) (lv:=σ.length) (bi:=0) (v:=b.ar.length) (G:=b.bj σ.length er) (by simp[Bk.bj]) (by simp[gB,hne,hs]) hl (by simp);have hcl:D.bJ ((bV b.ar).flatMap mS.enc)=true:=iU (fun _=>by simp[D.clean,bw]) _;have hc6:(b.bj σ.length er)[6]?=some (.cells 0 (b.cells σ.length)):=by simp[Bk.bj]
 simp[-length_flatMap,-map_take,hne,hs,hc6,Bk.cells,h,hcl]
end Go.Proofs.YtfgljaglidhjiaaGreatDoor
namespace Go.Proofs.YtfgljaglidhjiaaGreatDoor
open List(length_flatMap map_take)
open Go Go.Abs Go.Trem
variable {σ:SK}
theorem ahX{lv:Nat}{G:List Abs.aE}(hsg:gB σ lv=some G){R:List eZ}{l:List Ev}{now may sure:Int}{j:Nat}{r:eZ}(hG1:G[1]?=some (.cells R.length (R.flatMap eZ.enc)))(hG2:G[2]?=some (.cells l.length (l.flatMap Ev.enc)))(hl:l.length≤200)(hs:∀e∈l,e.sp.length≤2000)(hr:r.ok=true)(hn:cT now 0 1000000=true):∀(m i:Nat) (a b:Nat),i+m=l.length→a+m≤200→b+m≤200 →
  WL T [1,2,6,7,10,11,12,13,36,37,38,44,45,46] false mg [(1,.sl lv 2 l.length 0 l.length 2),(2,.int .i64 now),(6,.int .u8 may),(7,.int .u8 sure),(10,.own 0 r.enc),(11,.int .i64 a),(12,.int .i64 b),(13,.fn ej [.agg r.enc] []),
    (36,.sl lv 1 R.length 0 R.length 10),(37,.int .i64 R.length),(38,.int .i64 j),(44,.sl lv 2 l.length 0 l.length 2),(45,.int .i64 l.length),(46,.int .i64 i)] σ
   (fun x e σ'=>x=.exit 3∧σ'=σ∧get e 1=.sl lv 2 l.length 0 l.length 2∧get e 2=.int .i64 now∧get e 6=.int .u8 may∧get e 7=.int .u8 sure∧get e 10=.own 0 r.enc∧get e 11=.int .i64 (a+Gp (zG r now) (l.drop i):Nat)∧get e 12=.int .i64 (b+Gp (ug r now) (l.drop i):Nat) ∧
    get e 36=.sl lv 1 R.length 0 R.length 10∧get e 37=.int .i64 R.length∧get e 38=.int .i64 j)
 |0,i,a,b,hi,ha,hb=>by
  refine aM mg.eq_1 ?_;have h1:¬i<l.length:=by omega
  have h2:l.drop i=[]:=by simp;omega
  simp[-length_flatMap,-map_take,h1,h2,Gp]
 |m+1,i,a,b,hi,ha,hb=>by
  refine aM mg.eq_1 ?_;have g1:i<l.length:=by omega
  obtain⟨e,he⟩:=gE g1;have a1:=bW (f:=Ev.enc) (w:=2) (fun _=>rfl) he;have al:(l.flatMap Ev.enc).length=l.length*2:=bX (f:=Ev.enc) (w:=2) (fun _=>rfl) l;have aq:2≤l.length*2-i*2:=by omega
  have w1:=gN g1 (by omega);have hr':=HW.1 hr;have hn':=bf.1 hn;have hse:=hs e (aj he);have w2:=fN (n:=now-r.zH) (by omega);have w3:=fN (n:=(a:Int)+1) (by omega);have w4:=fN (n:=(b:Int)+1) (by omega);have hC:∀σ,lim T (.call false cp [.aH e.sp.length (e.sp.flatMap xc.enc),.fn ej [.agg r.enc] []] σ)=some (.val (.bool (sF e.sp r.RW)) σ):=fun σ =>
   contains_of NF mU oH (by omega) (.fn fun s _ σ=>KX)
  have hA:=fun σ=>@IJ σ e.sp r.RW (.fn ej [.agg r.enc] []) (.fn fun s _ σ=>KX) rfl (by omega)
  simp only[eZ.enc]at hC hA;have d1:Gp (zG r now) (l.drop i)=Gp (zG r now) (l.drop (i+1))+(if zG r now e then 1 else 0):=by rw[cq he];rfl
  have d2:Gp (ug r now) (l.drop i)=Gp (ug r now) (l.drop (i+1))+(if ug r now e then 1 else 0):=by rw[cq he];rfl
  have ih:=fun a b=>ahX hsg hG1 hG2 (R:=R) (may:=may) (sure:=sure) (j:=j) hl hs hr hn m (i+1) a b (by omega)
  rw[d1,d2];by_cases c1:now<e.tick
  ·have e1:zG r now e=false:=by simp[zG,eZ.act];omega
   have e2:ug r now e=false:=by simp[ug,eZ.act];omega
   simp[-length_flatMap,-map_take,g1,a1,al,aq,hsg,hG1,hG2,w1,c1,e1,e2];exact WL.to (ih a b (by omega) (by omega)) (by simp) rfl fun x e σ' hh=>by simpa[e1,e2]using hh
  by_cases c2:e.tick≤now-r.zH
  ·have e1:zG r now e=false:=by simp[zG,eZ.act];omega
   have e2:ug r now e=false:=by simp[ug,eZ.act];omega
   simp[-length_flatMap,-map_take,g1,a1,al,aq,hsg,hG1,hG2,w1,w2,c1,c2,e1,e2];exact WL.to (ih a b (by omega) (by omega)) (by simp) rfl fun x e σ' hh=>by simpa[e1,e2]using hh
  have act:r.act now e=true:=by simp[eZ.act];omega
  have e1:zG r now e=sF e.sp r.RW:=by simp[zG,act]
  have e2:ug r now e=ie e.sp r.RW:=by simp[ug,act]
  rw[e1,e2];have k1:∀u v:Nat,u+1+v=u+(v+1):=by intro u v;omega
  cases c3:sF e.sp r.RW<;>cases c4:ie e.sp r.RW<;>simp only[c3,c4]at hC hA
  ·simp[-length_flatMap,-map_take,g1,a1,al,aq,hsg,hG1,hG2,w1,w2,c1,c2,hC,hA];exact WL.to (ih a b (by omega) (by omega)) (by simp) rfl fun x e σ' hh=>by simpa[c3,c4]using hh
  ·simp[-length_flatMap,-map_take,g1,a1,al,aq,hsg,hG1,hG2,w1,w2,w4,c1,c2,hC,hA];exact WL.to (ih a (b+1) (by omega) (by omega)) (by simp) rfl fun x e σ' hh=>by simp only[k1]at hh;simpa[c3,c4]using hh
  ·simp[-length_flatMap,-map_take,g1,a1,al,aq,hsg,hG1,hG2,w1,w2,w3,c1,c2,hC,hA];exact WL.to (ih (a+1) b (by omega) (by omega)) (by simp) rfl fun x e σ' hh=>by simp only[k1]at hh;simpa[c3,c4]using hh
  ·simp[-length_flatMap,-map_take,g1,a1,al,aq,hsg,hG1,hG2,w1,w2,w3,w4,c1,c2,hC,hA];exact WL.to (ih (a+1) (b+1) (by omega) (by omega)) (by simp) rfl fun x e σ' hh=>by simp only[k1]at hh;simpa[c3,c4]using hh
theorem OL{lv:Nat}{G:List Abs.aE}(hsg:gB σ lv=some G){R:List eZ}{l:List Ev}{now:Int}(hR:R.length≤20)(hG1:G[1]?=some (.cells R.length (R.flatMap eZ.enc)))(hG2:G[2]?=some (.cells l.length (l.flatMap Ev.enc)))(hl:l.length≤200)(hs:∀e∈l,e.sp.length≤2000)(hr:∀r∈R,r.ok=true)(hn:cT now 0 1000000=true):∀(m j:Nat) (may sure:Int),j+m=R.length →
  WL T [1,2,6,7,36,37,38] false gV [(1,.sl lv 2 l.length 0 l.length 2),(2,.int .i64 now),(6,.int .u8 may),(7,.int .u8 sure),(36,.sl lv 1 R.length 0 R.length 10),(37,.int .i64 R.length),(38,.int .i64 j)] σ
   (fun x e σ'=>x=.exit 1∧σ'=σ∧get e 6=.int .u8 (y7 (fun r=>zG r now) l (R.drop j) may)∧get e 7=.int .u8 (y7 (fun r=>ug r now) l (R.drop j) sure))
 |0,j,may,sure,hj=>by
  refine aM gV.eq_1 ?_;have h1:¬j<R.length:=by omega
  have h2:R.drop j=[]:=by simp;omega
  simp[-length_flatMap,-map_take,h1,h2,y7]
 |m+1,j,may,sure,hj=>by
  refine aM gV.eq_1 ?_;have g1:j<R.length:=by omega
  obtain⟨r,hrj⟩:=gE g1;have a1:=bW (f:=eZ.enc) (w:=10) (fun _=>rfl) hrj;have al:(R.flatMap eZ.enc).length=R.length*10:=bX (f:=eZ.enc) (w:=10) (fun _=>rfl) R;have aq:10≤R.length*10-j*10:=by omega
  have w1:=gN g1 (by omega);have hrr:=hr r (aj hrj);have ih:=fun may sure=>OL hsg hR hG1 hG2 hl hs hr hn m (j+1) may sure (by omega)
  rw[cq hrj];simp[-length_flatMap,-map_take,g1,a1,al,aq,hsg,hG1,hG2];refine WL.to (ahX hsg hG1 hG2 (σ:=σ) (R:=R) (l:=l) (now:=now) (may:=may) (sure:=sure) (j:=j) hl hs hrr hn l.length 0 0 0 (by omega) (by omega) (by omega)) (by simp) rfl ?_;rintro x e σ' ⟨rfl,rfl,e1,e2,e6,e7,e10,e11,e12,e36,e37,e38⟩;simp only[aO,cZ]at e11 e12;simp only[y7];by_cases c1:r.count≤Gp (zG r now) l
  ·by_cases c2:r.count≤Gp (ug r now) l
   ·simp[-length_flatMap,-map_take,e1,e2,e6,e7,e10,e11,e12,e36,e37,e38,c1,c2,w1];exact WL.to (ih (max may r.RX) (max sure r.RX)) (by simp) rfl fun x e σ' hh=>by simpa[c1,c2]using hh
   ·simp[-length_flatMap,-map_take,e1,e2,e6,e7,e10,e11,e12,e36,e37,e38,c1,c2,w1];exact WL.to (ih (max may r.RX) sure) (by simp) rfl fun x e σ' hh=>by simpa[c1,c2]using hh
  ·by_cases c2:r.count≤Gp (ug r now) l
   ·simp[-length_flatMap,-map_take,e1,e2,e6,e7,e10,e11,e12,e36,e37,e38,c1,c2,w1];exact WL.to (ih may (max sure r.RX)) (by simp) rfl fun x e σ' hh=>by simpa[c1,c2]using hh
   ·simp[-length_flatMap,-map_take,e1,e2,e6,e7,e10,e11,e12,e36,e37,e38,c1,c2,w1];exact WL.to (ih may sure) (by simp) rfl fun x e σ' hh=>by simpa[c1,c2]using hh
theorem S6{lv:Nat}{G:List Abs.aE}{R:List eZ}{l:List Ev}{now:Int}(hsg:gB σ lv=some G)(hG1:G[1]?=some (.cells R.length (R.flatMap eZ.enc)))(hG2:G[2]?=some (.cells l.length (l.flatMap Ev.enc)))(hR:R.length≤9223372036854775807)(hl:l.length≤9223372036854775807)(hs:∀e∈l,e.sp.length≤9223372036854775807):
  lim T (.call false iS [.sl lv 1 R.length 0 R.length 10,.sl lv 2 l.length 0 l.length 2,.int .i64 now] σ) =
   some (.val (if pZ R l now=0 then .dV [.int .u8 (aeR R l now),.int .u8 (afz R l now),.int .i64 0]else .dV [.int .u8 0,.int .u8 0,.int .i64 (pZ R l now)]) σ):=by
 refine aw xh oL.eq_1 rfl ?_;have hlt:=zb hsg;have hne:¬σ.length=lv:=by omega
 have hsg':gB ([]::σ) lv=some G:=by simp[gB,hne,hsg]
 have hAR:=Hh (T:=T) (enc:=eZ.enc) (w:=10) (fun _=>rfl) (F:=G) (bi:=1) (v:=R.length) (l:=R) (p:=eZ.ok) (fv:=.fn eR [] []) (f:=dF) (g:=fJ) (h:=dc) (i:=dU) rfl rfl rfl rfl hG1 hR (.fn fun r _ σ=>K5) rfl (σ:=[]::σ) hsg';have hAE:=Hh (T:=T) (enc:=Ev.enc) (w:=2) (fun _=>rfl) (F:=G) (bi:=2) (v:=l.length) (l:=l) (p:=Ev.ok) (fv:=.fn ei [] []) (f:=dh) (g:=fh) (h:=cY) (i:=dJ) rfl rfl rfl rfl hG2 hl (.fn fun r hr σ=>KY (hs r hr)) rfl (σ:=[]::σ) hsg';by_cases c1:20<R.length
 ·have c1':(20:Int)<R.length:=by omega
  simp[-length_flatMap,-map_take,pZ,c1,c1']
 have c1':¬(20:Int)<R.length:=by omega
 cases c2:ie R eZ.ok
 ·simp[-length_flatMap,-map_take,pZ,c1,c1',hAR,c2]
 by_cases c3:200<l.length
 ·have c3':(200:Int)<l.length:=by omega
  simp[-length_flatMap,-map_take,pZ,c1,c1',hAR,c2,c3,c3']
 have c3':¬(200:Int)<l.length:=by omega
 cases c4:ie l Ev.ok
 ·simp[-length_flatMap,-map_take,pZ,c1,c1',hAR,c2,c3,c3',hAE,c4]
 cases c5:cT now 0 1000000
 ·simp[-length_flatMap,-map_take,pZ,c1,c1',hAR,c2,c3,c3',hAE,c4,gI,c5]
 have he:pZ R l now=0:=by simp[pZ,c1,c2,c3,c4,c5]
 rw[if_pos he];simp[-length_flatMap,-map_take,c1',hAR,c2,c3',hAE,c4,gI,c5];refine WL.to (OL (σ:=[]::σ) (lv:=lv) (G:=G) hsg' (R:=R) (l:=l) (now:=now) (by omega) hG1 hG2 (by omega) ?_ (j7.1 c2) c5 R.length 0 0 0 (by omega)) (by simp) rfl ?_
 ·intro e he;have:=j7.1 c4 e he;simp only[Ev.ok,af,bf]at this;omega
 ·rintro x e σ' ⟨rfl,rfl,e6,e7⟩;simp[-length_flatMap,-map_take,e6,e7,aeR,afz]
end Go.Proofs.YtfgljaglidhjiaaGreatDoor
namespace Go.Book
open List(length_flatMap map_take)
open Go Go.Abs Go.Rock
def wR(b:Bk):Int:=if Trem.pZ b.rules b.AZ b.az.length=0 then Trem.aeR b.rules b.AZ b.az.length else 0
def Dp(b:Bk):Int:=if wR b=0 then b.k0 else if wR b=1 then b.k1 else b.k2
def tJ(keep n:Int):Int:=if n<0 then -((-n*keep).tdiv 1000)else n
theorem Mf{f:Trem.eZ→Trem.Ev→Bool}{l:List Trem.Ev}:∀{R:List Trem.eZ} {a:Int},(∀r∈R,r.ok=true)→0≤a∧a≤2→0≤Trem.y7 f l R a∧Trem.y7 f l R a≤2
 |[],a,_,h=>h
 |r::R,a,hr,h=>by
  have h1:=(Trem.HW.1 (hr r (by simp))).2.2.2.2;simp only[Trem.y7];refine Mf (fun r' h'=>hr r' (by simp[h'])) ?_;split
  ·rcases h1 with h1 | h1<;>omega
  ·exact h
theorem I3{b:Bk}:0≤wR b∧wR b≤2:=by
 unfold wR;split
 ·rename_i h;refine Mf (fun r hr=>?_) (by omega);unfold Trem.pZ at h;split at h
  ·omega
  ·split at h
   ·omega
   ·rename_i h2;exact j7.1 (by simpa using h2) r hr
 ·omega
end Go.Book
namespace Go.Proofs.YtfgljaglidhjiaaGreatDoor
open List(length_flatMap map_take)
open Go Go.Abs Go.Rock Go.Book
variable {σ:SK}
theorem KW{b:Bk}{er:List Int}{S:SK}(h1:b.rules.length≤1000000)(h2:b.AZ.length≤1000000)(h3:∀e∈b.AZ,e.sp.length≤1000000)(hs:gB S σ.length=some (b.bj σ.length er)):
  lim T (.call false gG [.ref σ.length 6 0 0] S)=some (.val (.int .u8 (wR b)) S):=by
 refine aw AO mF.eq_1 rfl ?_;have hlt:=zb hs;have hne:¬S.length=σ.length:=by omega
 have h:=S6 (σ:=[]::S) (lv:=σ.length) (G:=b.bj σ.length er) (R:=b.rules) (l:=b.AZ) (now:=b.az.length) (by simp[gB,hne,hs]) (by simp[Bk.bj]) (by simp[Bk.bj]) (by omega) (by omega) (fun e he=>by have:=h3 e he;omega);have hc6:(b.bj σ.length er)[6]?=some (.cells 0 (b.cells σ.length)):=by simp[Bk.bj]
 unfold wR;by_cases hc:Trem.pZ b.rules b.AZ b.az.length=0
 ·rw[if_pos hc]at h;simp[-length_flatMap,-map_take,hne,hs,hc6,Bk.cells,h,hc]
 ·rw[if_neg hc]at h;simp[-length_flatMap,-map_take,hne,hs,hc6,Bk.cells,h,hc]
def Aq(σ:SK)(bp X:D)(keep:Int)(acc rest:List Int)(x:Abs.Exit)(e:Env)(σ':SK):Prop :=
 if ie rest (fun n=>cT n (-100000) 100000)=true then
  x=.exit 0∧get e 0=bp∧get e 6=X∧get e 8=.sl σ.length 0 (acc++rest.map (tJ keep)).length 0 (acc++rest.map (tJ keep)).length 1∧σ'=[.cells (acc++rest.map (tJ keep)).length ((acc++rest.map (tJ keep)).flatMap aY)]::σ
 else x=.gf (rf 2)∧∃s,σ'=s::σ
theorem JO{l:List Int}{keep:Int}(hk:0≤keep∧keep≤1000)(hl:l.length≤1000000){bp X:D}(hb:bp.calm=bp)(hx:X.calm=X):∀(m i:Nat) (acc:List Int),i+m=l.length→acc.length=i →
  WL T [0,6,7,8,49,50,51] false kD [(0,bp),(6,X),(7,.int .i64 keep),(8,.sl σ.length 0 i 0 i 1),(49,.aH l.length (l.flatMap aY)),(50,.int .i64 l.length),(51,.int .i64 i)] ([.cells i (acc.flatMap aY)]::σ)
   (Aq σ bp X keep acc (l.drop i))
 |0,i,acc,hi,ha=>by
  refine aM kD.eq_1 ?_;obtain rfl:i=l.length:=by omega
  have h5:l.drop l.length=[]:=aA (by omega);simp[-length_flatMap,-map_take,h5,Aq,ha,hb,hx,ie]
 |m+1,i,acc,hi,ha=>by
  refine aM kD.eq_1 ?_;have hlt:i<l.length:=by omega
  obtain⟨n,hn⟩:=gE hlt;have h4:=gN hlt (by omega);have h5:=cq hn;have a1:=bW (f:=aY) (w:=1) (fun _=>rfl) hn;simp only[aY,dM]at a1;rw[h5];have hr:(i+1)*8≤room:=by unfold room;omega
  cases hc:cT n (-100000) 100000 with
  |false =>
   simp[-length_flatMap,-map_take,hlt,a1,hb,hx,fk,hc,dK,Aq,ie]
  |true =>
   have hn2:=bf.1 hc;have hcl:(acc.flatMap aY).length=i:=by simp[bX (f:=aY) (w:=1) (fun _=>rfl),ha]
   have ht:(acc.flatMap aY).take i=acc.flatMap aY:=ai (by omega);have ih:=JO hk hl hb hx m (i+1) (acc++[tJ keep n]) (by omega) (by simp[ha]);have fin:∀x e σ',Aq σ bp X keep (acc++[tJ keep n]) (l.drop (i+1)) x e σ'→Aq σ bp X keep acc (n::l.drop (i+1)) x e σ':=fun x e σ' hh=>by
    simp only[Aq,ie,jV,hc,Bool.true_and,aL,dX,cG]at hh ⊢;exact hh
   by_cases hneg:n<0
   ·have e0:IntKind.i64.wrap (-n) = -n:=fN (by omega);have p1:0 ≤ -n*keep:=fw (by omega) hk.1;have p2 : -n*keep≤100000*1000:=l8 (by omega) hk.2 hk.1 (by omega);have e1:IntKind.i64.wrap (-n*keep) = -n*keep:=fN (by omega);have e2:(-n*keep).tdiv 1000 = -n*keep / 1000:=bx p1;have e3:IntKind.i64.wrap (-n*keep / 1000) = -n*keep / 1000:=fN (by omega);have e4:IntKind.i64.wrap (-(-n*keep / 1000)) = -(-n*keep / 1000):=fN (by omega);have e5:tJ keep n = -(-n*keep / 1000):=by rw[tJ,if_pos hneg,e2]
    rw[e5]at ih fin;generalize hq : -n*keep=q at e1 e2 e3 e4 ih fin;simp[-length_flatMap,-map_take,hlt,a1,hb,hx,fk,hc,cH,hneg,e0,hq,e1,e2,e3,e4,hr,h4,hcl,ht];exact WL.to ih (by simp) (by simp) fin
   ·have e5:tJ keep n=n:=by rw[tJ,if_neg hneg]
    rw[e5]at ih fin;simp[-length_flatMap,-map_take,hlt,a1,hb,hx,fk,hc,cH,hneg,hr,h4,hcl,ht];exact WL.to ih (by simp) (by simp) fin
theorem Ko(l:List (List Int)):(l.flatMap pE).length=l.length:=by have:=bX (f:=pE) (w:=1) (fun _=>rfl) l;omega
theorem GM{bs:List Abs.aE}:lim T (.call true iu [.aK] (bs::σ))=some (.val (.sl σ.length (bs.length+1) 0 0 0 1) ((bs++[.cells 0 [],.cells 0 []])::σ)):=by
 refine tc vK ke.eq_1 rfl ?_;simp[-length_flatMap,-map_take]
theorem IM{bs:List Abs.aE}{l:List (List Int)}(hne:l≠[])(hl:l.length≤1000000):lim T (.call true iu [.aH l.length (l.flatMap pE)] (bs::σ)) =
  some (.val (.sl σ.length (bs.length+1) 1 0 l.length 1) ((bs++[.cells 0 [],.cells 1 (l.flatMap pE)])::σ)):=by
 refine tc vK ke.eq_1 rfl ?_;have h7:l.length*24≤room:=by unfold room;omega
 simp[-length_flatMap,-map_take,hne,Ko,h7]
theorem NO:Gr=pE:=rfl
structure Sz(b:Bk):Prop where
 ct:b.bN.ct.length≤1000000000
 an:b.bN.an.length≤1000000
 ms:∀e∈b.ar,e.m.name.length≤1000000000∧e.m.bq.length≤1000000000
theorem SC(b:cz)(m:cU)(az:List (List Int)):∃x y,zC b m az=.agg [x,y]∧x.clean=true∧y.clean=true:=by
 unfold zC;split
 ·split
  ·refine⟨_,_,rfl,?_,?_⟩<;>simp[iU (f:=yB) (fun s=>by simp[yB,iU (f:=Rock.aE.enc) (fun _=>by simp[D.clean])])]
  ·exact⟨_,_,rfl,rfl,rfl⟩
 ·exact⟨_,_,rfl,rfl,rfl⟩
theorem JN{b:Bk}{er:List Int}{ls:List mS}{az:List (List Int)}(ht:b.bN.ct≠[])(hz:Sz b)(hm:∀e∈ls,e∈b.ar)(hl:ls.length≤1000000)(hp:az.length≤1000000000)(hpl:∀l∈az,l.length≤1000000000){S:SK}(hs:gB S σ.length=some (b.bj σ.length er)):∀(m i:Nat),i+m=ls.length →
  WL T [0,11,80,81,82] false kE [(0,.ref σ.length 6 0 0),(11,.aH az.length (az.flatMap pE)),(80,.aH ls.length (ls.flatMap mS.enc)),(81,.int .i64 ls.length),(82,.int .i64 i)] S
   (fun x e σ'=>σ'=S∧if cN (fun e=>sY b.bN e.m az) (ls.drop i)=0 then x=.exit 2∧get e 0=.ref σ.length 6 0 0∧get e 11=.aH az.length (az.flatMap pE)else x=.gf (rf (cN (fun e=>sY b.bN e.m az) (ls.drop i))))
 |0,i,hi=>by
  refine aM kE.eq_1 ?_;have h1:¬i<ls.length:=by omega
  have h2:ls.drop i=[]:=aA (by omega);simp[-length_flatMap,-map_take,h1,h2,cN]
 |m+1,i,hi=>by
  refine aM kE.eq_1 ?_;have h1:i<ls.length:=by omega
  obtain⟨e,he⟩:=gE h1;have hem:=hm e (aj he);obtain⟨k1,k2⟩:=hz.ms e hem;have hfl:=bW (f:=mS.enc) (w:=4) (fun _=>rfl) he;have hd:=cq he;have h4:=gN h1 (by omega);have hlt:=zb hs;have hne:S≠[]:=by intro h;subst h;simp at hlt
  have hP:=S7 (σ:=S) (b:=b.bN) (m:=e.m) (az:=az) (wq:=nl bI.enc b.bN.an) uJ hz.ct (by have:=hz.an;omega) k1 k2 hp hpl hne;have hc6:(b.bj σ.length er)[6]?=some (.cells 0 (b.cells σ.length)):=by simp[Bk.bj]
  obtain⟨px,py,hx,hx1,hx2⟩:=SC b.bN e.m az;rw[hx,NO]at hP;have ih:=JN ht hz hm hl hp hpl hs m (i+1) (by omega);have hlt':=eL (f:=Rw.enc) ht;rw[hd,cN];by_cases hc:sY b.bN e.m az=0
  ·rw[hc]at hP;simp[-length_flatMap,-map_take,h1,hfl,h4,hs,hc6,Bk.cells,hlt',hP,hx1,hx2,o7,hc,bw];exact WL.to ih (by simp) rfl fun x e' σ' hh=>by simpa[hc]using hh
  ·have hM:=ri (σ:=S) hc;simp[-length_flatMap,-map_take,h1,hfl,h4,hs,hc6,Bk.cells,hlt',hP,hx1,hx2,hM,hc,bw,rf]
def Q2(b:Bk)(az:List (List Int)):Bk:={b with az:=az }
def qd(b:Bk)(l:List Int):List (List Int):=b.az++[l.map (tJ (Dp b))]
def yV(b:Bk)(l:List Int):Bk×Int :=
 if bV b.ar=[]then(b,8)else if b.az.length<200 then(if l.length=b.bN.an.length then(if ie l (fun n=>cT n (-100000) 100000)=true then
  (if cN (fun e=>sY b.bN e.m (qd b l)) (bV b.ar)=0 then(Q2 b (qd b l),0)else(b,cN (fun e=>sY b.bN e.m (qd b l)) (bV b.ar)))else(b,2))else(b,1))else(b,3)
theorem aep{f:D→SK→D×SK}{a b:List D}{S:SK}:cJ.frzL f (a++b) S=((cJ.frzL f a S).1++(cJ.frzL f b (cJ.frzL f a S).2).1,(cJ.frzL f b (cJ.frzL f a S).2).2):=by
 induction a generalizing S with
 |nil=>simp
 |cons d a ih=>simp[ih]
theorem T3{l:List (List Int)}:D.bJ (l.flatMap pE)=true:=iU (f:=pE) (fun x=>by simp[pE,D.clean,bw]) l
theorem Jc{S:SK}{L v n:Nat}(hS:S.length=L)(hL:0<L){az:List (List Int)}(hn:n=az.length+1){r:List Int}{M:Abs.aE}:
  cJ 0 16 (.sl L 2 v 0 n 1) ([.cells r.length (r.flatMap aY),M,.cells v (az.flatMap pE++[.sl L 0 r.length 0 r.length 1])]::S)=(.aH n ((az++[r]).flatMap pE),[.dead,M,.dead]::S):=by
 have hne:S≠[]:=by intro h;subst h;simp at hS;omega
 subst hn;have hc:cells? ([Abs.aE.cells r.length (r.flatMap aY),M,.cells v (az.flatMap pE++[.sl L 0 r.length 0 r.length 1])]::S) L 2 v=some (az.flatMap pE++[.sl L 0 r.length 0 r.length 1]):=by simp[hS]
 rw[NK hL hc];have h3:¬L≤0:=by omega
 have h1:=Dl (l:=0) (n:=15) (l':=L) (i:=0) (v:=r.length) (off:=0) (m:=r.length) (w:=1) (σ:=[Abs.aE.cells r.length (r.flatMap aY),M,.dead]::S) (cs:=r.flatMap aY) h3 (by simp[hS]) (by omega);have ht:(r.flatMap aY).take r.length=r.flatMap aY:=ai (by rw[zx];omega);have hp:=Ko az;have ht2:(az.flatMap pE).take (az.length+1)=az.flatMap pE:=ai (by omega);simp[hS,aep,T3,h1,ht,hp,ht2,bw,pE,List.take_append]
theorem agk{F:List Abs.aE}{b:Bk}{er:List Int}{nm:List UInt8}{l:List Int}{b':Bk}{e:Int}(ht:b.bN.ct≠[])(hz:Sz b)(hll:l.length≤1000000)(hml:b.ar.length≤40)(h1:b.rules.length≤1000000)(h2:b.AZ.length≤1000000)(h3:∀e∈b.AZ,e.sp.length≤1000000)(hk:Trem.rQ b.k0 b.k1 b.k2=true)(hpl:∀l∈b.az,l.length≤1000000000)(hd:yV b l=(b',e))(he:e=0):
  lim T (.call false gq [.ref σ.length 6 0 0,.str nm,.aH l.length (l.flatMap aY)] (F::b.bj σ.length er::σ))=some (.val (.dV []) (F::b'.bj σ.length er::σ)):=by
 refine fQ wB kX.eq_1 rfl (by simp) ?_;unfold yV at hd;split at hd
 case isTrue=>cases hd;cases he
 rename_i c1;split at hd
 case isFalse=>cases hd;cases he
 rename_i c2;split at hd
 case isFalse=>cases hd;cases he
 rename_i c3;split at hd
 case isFalse=>cases hd;cases he
 rename_i c4;split at hd
 case isFalse=>cases hd;rename_i h;exact absurd he h
 rename_i c5;cases hd;obtain⟨kp0,kp,hkp,hkp2,hkp3⟩:∃c kp:Int,wR b=c∧Dp b=kp∧((c=0∧kp=b.k0)∨(c=1∧kp=b.k1)∨(c=2∧kp=b.k2)):=by
  refine⟨_,_,rfl,rfl,?_⟩;have:=I3 (b:=b);unfold Dp;split
  ·rename_i h;exact .inl ⟨h,rfl⟩
  ·split
   ·rename_i h;exact .inr (.inl ⟨h,rfl⟩)
   ·refine .inr (.inr ⟨by omega,rfl⟩)
 have hkb:0≤kp∧kp≤1000:=by
  simp only[Trem.rQ,af,au]at hk;rcases hkp3 with⟨_,rfl⟩ | ⟨_,rfl⟩ | ⟨_,rfl⟩<;>omega
 have q1:0<(bV b.ar).length:=aT.2 c1;have q2:(b.az.length:Int)<200:=by omega
 have hC:=fun S=>KW (σ:=σ) (b:=b) (er:=er) (S:=S) h1 h2 h3
 have hLf:=fun S=>EJ (σ:=σ) (b:=b) (er:=er) (S:=S) (by omega)
 have hR:=JO (σ:=F::b.bj σ.length er::σ) hkb hll (bp:=.ref σ.length 6 0 0) (X:=.aH (bV b.ar).length ((bV b.ar).flatMap mS.enc)) rfl rfl l.length 0 [] (by omega) rfl;rw[aO]at hR;rw[hkp]at hC;simp only[Bk.bj,Bk.cells]at hC hLf;have hw:(b.bN.an.length:Int)=(l.length:Int):=by omega
 rcases hkp3 with⟨rfl,e2⟩ | ⟨rfl,e2⟩ | ⟨rfl,e2⟩
 all_goals
  subst e2;simp[-length_flatMap,-map_take,Bk.bj,Bk.cells,hLf,q1,q2,hw,hC,cH];refine WL.to hR (by simp) (by simp[Bk.bj,Bk.cells]) ?_;intro x e σ' hq;simp only[Aq,if_pos c4,List.nil_append]at hq;obtain⟨rfl,g0,g6,g8,rfl⟩:=hq;have hnp:qd b l=b.az++[l.map (tJ (Dp b))]:=rfl;rw[hkp2]at hnp;rw[hnp]at c5 ⊢;generalize hrs:l.map (tJ _)=rs at g8 c5 ⊢;have hrl:rs.length=l.length:=by rw[← hrs];simp
  have hroom:(b.az.length+1)*24≤room:=by unfold room;omega
  have h24:24≤room:=by unfold room;omega
  have hpel:=Ko b.az;have htk:(b.az.flatMap pE).take b.az.length=b.az.flatMap pE:=ai (by omega);have hfr:=fun S v hS=>Jc (S:=S) (L:=σ.length+1+1) (v:=v) (n:=b.az.length+1) hS (by omega) (az:=b.az) rfl (r:=rs) (M:=.cells 0 [])
  have hLp:=JN (σ:=σ) (b:=b) (er:=er) (ls:=bV b.ar) (az:=b.az++[rs]) ht hz (fun e he=>(dj.1 he).1) (by have:=jv (fun e:mS=>e.left) b.ar;simp only[bV];omega) (by simp;omega) (by
   intro r hr;rcases ba.1 hr with hr | hr
   ·exact hpl r hr
   ·simp at hr;subst hr;omega) (S:=[.dead,.cells 0 [],.dead]::F::b.bj σ.length er::σ) (by simp[gB]) (bV b.ar).length 0 (by omega)
  rw[aO]at hLp;have hcl:∀k,(D.aH k (b.az.flatMap pE++pE rs)).clean=true:=fun k=>by simp[CH,T3,pE,bw]
  have hcl0:∀k,(D.aH k (pE rs)).clean=true:=fun k=>by simp[pE,bw]
  have hnl2:=eL (f:=pE) (l:=b.az++[rs]) (by simp);simp only[bC,aG,bL,gh,aS,dP,eE]at hnl2;by_cases hp0:b.az=[]
  ·have hnl:nl pE b.az=.aK:=by simp[nl,hp0]
   have hfr':=hfr;simp only[hp0,bL,dP,List.nil_append,cZ]at hfr';simp[-length_flatMap,-map_take,g0,g6,g8,Bk.bj,Bk.cells,hnl,GM,h24,hfr'];refine WL.to hLp (by simp[hp0]) (by simp[Bk.bj,Bk.cells,hnl]) ?_;rintro x e σ' ⟨rfl,hh⟩;rw[c5,if_pos rfl]at hh;obtain⟨rfl,j0,j11⟩:=hh;simp[-length_flatMap,-map_take,j0,j11,Bk.bj,Bk.cells,Q2,hnl,hnl2,hcl]
  ·simp[-length_flatMap,-map_take,g0,g6,g8,Bk.bj,Bk.cells,eL hp0,IM hp0 (by omega:b.az.length≤1000000),hroom,hpel,htk,hfr];refine WL.to hLp (by simp) (by simp[Bk.bj,Bk.cells,eL hp0]) ?_;rintro x e σ' ⟨rfl,hh⟩;rw[c5,if_pos rfl]at hh;obtain⟨rfl,j0,j11⟩:=hh;simp[-length_flatMap,-map_take,j0,j11,Bk.bj,Bk.cells,Q2,eL hp0,hnl2,hcl]
end Go.Proofs.YtfgljaglidhjiaaGreatDoor
