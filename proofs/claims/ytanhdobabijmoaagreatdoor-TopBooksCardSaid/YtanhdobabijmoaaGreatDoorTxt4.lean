import Derived.Test.YtanhdobabijmoaaGreatDoorTxt3
set_option linter.all false
set_option maxRecDepth 100000
namespace Go.Proofs.YtanhdobabijmoaaGreatDoor
open List(length_flatMap map_take)
open Go Go.aA Go.aI
variable {J:SK}
structure Ok(b:cp)(l:List bE)(aD:List (List Int)):Prop where
 bv:Bv b
 valid:b.valid=true
 len:1<=l.length/\l.length<=40
 aj:b.f.aj l=0
 fit:∀m∈l,fits b m=true
 fv:∀m∈l,Fv b m
 short:∀m∈l,m.name.length<=1000000000/\m.aU.length<=384
 pl:xu b aD=0
 Su:aD.length<=200
 aW:∀r∈aD,Rv b r
theorem aaI{b:cp}{m:bE}(h:Bv b)(hf:fits b m=true):m.name.length<=16:=by
 rw[Qv h,ae,au]at hf;have hm:=hf.1;unfold cU.model at hm;split at hm
 .rename_i hn;simp only[named,ae]at hn;have:=bk.1 hn.2;omega
 .cases hm
theorem Ok.of{b:cp}{l:List bE}{aD:List (List Int)}(h:Zr b l aD=true):Ok b l aD:=by
 simp only[Zr,ae,au]at h;obtain⟨h1,h2,h3,h4,h5⟩:=h;have hb:=Bv.of h1;unfold UI at h3;split at h3
 .rename_i hi;split at h3
  .rename_i hm;split at h3
   .rename_i hf;have hfit:∀m∈l,fits b m=true:=jq.1 hf;have hfv:∀m∈l,Fv b m:=λm hm=>Fv.of (by simp[Bd,h1,hfit m hm])
    exact⟨hb,h1,⟨by have:=bk.1 hi;omega,by omega⟩,hm,hfit,hfv,λm hm=>⟨by have:=aaI hb (hfit m hm);omega,(hfv m hm).toMv.le.2⟩,h5,by omega,(Br h5).2⟩
   .cases h3
  .cases h3
 .cases h3
theorem Ok.check{b:cp}{l:List bE}{aD:List (List Int)}(h:Ok b l aD):ed b.f l=0:=by
 simp[ed,h.bv.fv,h.aj]
theorem Tn{b:cp}{m:bE}(h:Bv b)(hn:m.name.length<=1000000000)(hl:m.aU.length<=1000000000):lim T (.call false 237 [.agg [.str m.name,.aJ m.aU.length (m.aU.flatMap aM)],.bq [.int .i64 b.f.x,.int .i64 b.f.y,.int .i64 b.f.z,.int .i64 b.f.k,.aJ b.cn.length (b.cn.flatMap Rw.enc),.int .i64 b.bL,.int .i64 b.lift,.int .i64 b.deep,.aJ b.an.length (b.an.flatMap bJ.enc)]] J)=some (.val (.bool (fits b m)) J):=by
 refine aw H5 uS.eq_1 rfl ?_;have hC:=λJ=>OD (J:=J) (m:=m) h hn hl
 simp[-length_flatMap,-map_take,hC,cG,bA,bh]
theorem OH{b:cp}{l:List bE}(h:Bv b)(hs:∀m∈l,m.name.length<=1000000000/\m.aU.length<=1000000000)(hl:l.length<=1000000000):
  lim T (.call false 236 [.aJ l.length (l.flatMap bE.enc),.fn 237 [] [.bq [.int .i64 b.f.x,.int .i64 b.f.y,.int .i64 b.f.z,.int .i64 b.f.k,.aJ b.cn.length (b.cn.flatMap Rw.enc),.int .i64 b.bL,.int .i64 b.lift,.int .i64 b.deep,.aJ b.an.length (b.an.flatMap bJ.enc)]]] J)=some (.val (.bool (fL l (fits b))) J) :=
 AX (yt 2 bE.enc (λ_=>rfl)) (f:=236) (g:=268) (h:=267) (i:=288) (l:=l) (p:=fits b) rfl rfl rfl rfl (by omega) (oJ.fn λx hx J=>Tn h (hs x hx).1 (hs x hx).2) rfl
theorem Ws{b:cp}{l:List bE}{aD:List (List Int)}(h:Ok b l aD):
  lim T (.call false 191 [.agg [.int .i64 b.f.x,.int .i64 b.f.y,.int .i64 b.f.z,.int .i64 b.f.k,.aJ b.cn.length (b.cn.flatMap Rw.enc),.int .i64 b.bL,.int .i64 b.lift,.int .i64 b.deep,.aJ b.an.length (b.an.flatMap bJ.enc)],.aJ l.length (l.flatMap bE.enc),.aJ aD.length (aD.flatMap Hf)] J)=some (.val (.int .i64 0) J):=by
 refine aw Ld xL.eq_1 rfl ?_;have hs:∀m∈l,m.name.length<=1000000000/\m.aU.length<=1000000000:=λm hm=>⟨(h.short m hm).1,by have:=(h.short m hm).2;omega⟩
 have hl:=h.len;have htab:=h.bv.cn;have ht:b.cn.length<=1000000000:=by
  simp only[jV,ae]at htab;have:=bk.1 htab.1;omega
 have h1:=λJ=>B8 (J:=J) (b:=b) ht (by have:=h.bv.an;omega)
 have h2:=λJ=>zH (J:=J) (f:=b.f) (l:=l) hs (by omega)
 have h3:=λJ=>OH (J:=J) (l:=l) h.bv hs (by omega)
 have h4:=λJ=>Tl (J:=J) (b:=b) (aD:=aD) (by have:=h.Su;omega) (λr hr=>by have:=(h.aW r hr).len;have:=h.bv.an;omega)
 have hi:cj l.length 1 40=true:=bk.2 (by omega);have ha:fL l (fits b)=true:=jq.2 h.fit;rw[h.valid]at h1;rw[h.check]at h2;rw[ha]at h3;rw[h.pl]at h4;simp[-length_flatMap,-map_take,h1,h2,h3,h4,dB,hi,cG,bA,bh]
abbrev RunT:=List (List aI.aO)×List (List aI.aO)
def Et(r:RunT):List D:=[.aJ r.1.length (r.1.flatMap zC),.aJ r.2.length (r.2.flatMap zC)]
theorem Vm(l:List RunT):(l.flatMap Et).length=l.length*2:=bK (f:=Et) (w:=2) (λ_=>rfl) l
def yN(b:cp)(aD:List (List Int)):List bE->Option (List RunT)
 |[]=>some []
 |m::l=>match aI.run b m aD with
  |some r=>(yN b aD l).map (r :: ·)
  |none=>none
def N5(n:Nat)(acc:List RunT)(J:SK)(r:Option (List RunT))(x:aA.Exit)(e:Env)(J':SK):Prop:=match r with
 |some rs=>x=.exit 0/\get e 6=.sl J.length 0 n 0 n 2/\J'=[.cells n ((acc++rs).flatMap Et)]::J
 |none=>x=.fp (.va 313 (.agg []))/\∃bB,J'=bB::J
theorem OO{b:cp}{l:List bE}{aD:List (List Int)}(h:Ok b l aD):∀(k i:Nat) (acc:List RunT),i+k=l.length->acc.length=i ->
  WL T [2,3,6,9,10,11] false rR [(2,.aJ aD.length (aD.flatMap Hf)),(3,.bq [.int .i64 b.f.x,.int .i64 b.f.y,.int .i64 b.f.z,.int .i64 b.f.k,.aJ b.cn.length (b.cn.flatMap Rw.enc),.int .i64 b.bL,.int .i64 b.lift,.int .i64 b.deep,.aJ b.an.length (b.an.flatMap bJ.enc)]),(6,.sl J.length 0 i 0 i 2),(9,.aJ l.length (l.flatMap bE.enc)),(10,.int .i64 l.length),(11,.int .i64 i)] ([.cells i (acc.flatMap Et)]::J)
   (N5 l.length acc J (yN b aD (l.drop i)))
 |0,i,acc,hi,ha=>by
  refine aH rR.eq_1 ?_;obtain rfl:i=l.length:=by omega
  have h2:l.drop l.length=[]:=aE (by omega);simp[-length_flatMap,-map_take,h2,yN,N5]
 |k+1,i,acc,hi,ha=>by
  refine aH rR.eq_1 ?_;have h1:i<l.length:=by omega
  obtain⟨m,hm⟩:=gE h1;have hlen:=h.len;have h2:=LH hm;have h4:=dJ h1;have h5:=drop_at hm;have hmem:=ai hm;have a4:=Vm acc;rw[ha]at a4;have a6:(acc.flatMap Et).take (i*2)=acc.flatMap Et:=af (by omega);have h7:(i+1)*48<=room:=by unfold room;omega
  have hp:aD.length<=200:=by have:=h.Su;omega
  rw[h5,yN];cases hr:aI.run b m aD with
  |none =>
   have hC:=λJ=>PU (J:=J) (h.fv m hmem) hp h.aW hr
   simp[-length_flatMap,-map_take,h1,h2,h4,hC,N5,cG,bA,bh]
  |some r =>
   obtain⟨ss,ys⟩:=r;have hC:=λJ hJ=>PV (J:=J) (h.fv m hmem) hp h.aW hJ hr
   have ih:=OO h k (i+1) (acc++[(ss,ys)]) (by omega) (by simp[ha]);simp[-length_flatMap,-map_take,h1,h2,h4,hC,a4,a6,h7,cG,bA,bh,D.clean,Kf];refine WL.to ih (by simp) (by simp[Et]) λx e J' hh=>?_
   cases hq:yN b aD (l.drop (i+1))with
   |none=>rw[hq]at hh;simpa[N5]using hh
   |some rs=>rw[hq]at hh;simpa[N5]using hh
theorem Tu{b:cp}{l:List bE}{aD:List (List Int)}(h:Ok b l aD)(hJ:J≠[]){rs:List RunT}(hr:yN b aD l=some rs)(hl:rs.length=l.length):
  lim T (.call false 193 [.agg [.int .i64 b.f.x,.int .i64 b.f.y,.int .i64 b.f.z,.int .i64 b.f.k,.aJ b.cn.length (b.cn.flatMap Rw.enc),.int .i64 b.bL,.int .i64 b.lift,.int .i64 b.deep,.aJ b.an.length (b.an.flatMap bJ.enc)],.aJ l.length (l.flatMap bE.enc),.aJ aD.length (aD.flatMap Hf)] J)=some (.val (.aJ rs.length (rs.flatMap Et)) J):=by
 refine aw GC wO.eq_1 rfl ?_;simp[-length_flatMap,-map_take,cG,bA,bh];refine WL.to (OO (J:=J) h l.length 0 [] (by omega) rfl) (by simp) (by simp) ?_;rw[aP,hr];rintro x e J' ⟨rfl,g6,rfl⟩;simp[-length_flatMap,-map_take,g6];rw[<- hl,wV (f:=Et) (by decide) (λ_=>rfl) (λx=>by simp[Et,D.clean,Kf]) hJ (by simp)];simp
theorem Tt{b:cp}{l:List bE}{aD:List (List Int)}(h:Ok b l aD)(hr:yN b aD l=none):
  lim T (.call false 193 [.agg [.int .i64 b.f.x,.int .i64 b.f.y,.int .i64 b.f.z,.int .i64 b.f.k,.aJ b.cn.length (b.cn.flatMap Rw.enc),.int .i64 b.bL,.int .i64 b.lift,.int .i64 b.deep,.aJ b.an.length (b.an.flatMap bJ.enc)],.aJ l.length (l.flatMap bE.enc),.aJ aD.length (aD.flatMap Hf)] J)=some (.fp (.va 313 (.agg [])) J):=by
 refine dM GC wO.eq_1 rfl ?_;simp[-length_flatMap,-map_take,cG,bA,bh];refine WL.to (OO (J:=J) h l.length 0 [] (by omega) rfl) (by simp) (by simp) ?_;rw[aP,hr];rintro x e J' ⟨rfl,bB,rfl⟩;simp[D.clean]
theorem KR{b:cp}{aD:List (List Int)}:∀{l:List bE} {rs:List RunT},yN b aD l=some rs->rs.length=l.length/\∀(i:Nat) m,l[i]?=some m->∃r,rs[i]?=some r/\aI.run b m aD=some r
 |[],rs,h=>by simp only[yN,ad]at h;subst h;simp
 |m::l,rs,h=>by
  simp only[yN]at h;cases hr:aI.run b m aD with
  |none=>rw[hr]at h;cases h
  |some r =>
   rw[hr]at h;simp only[ab]at h;obtain⟨rs',h1,rfl⟩:=h;obtain⟨g1,g2⟩:=KR h1;refine⟨by simp[g1],?_⟩;intro i m' hm';cases i with
   |zero=>simp only[bT,ad]at hm';subst hm';exact⟨r,rfl,hr⟩
   |succ i=>simpa using g2 i m' (by simpa using hm')
theorem WG{x:aI.aO}:lim T (.call false 271 [.agg x.enc] J)=some (.val (.int .i64 x.m) J):=by
 refine aw EL rn.eq_1 rfl ?_;simp[-length_flatMap,-map_take]
theorem TC{x:aI.aO}:lim T (.call false 273 [.agg x.enc] J)=some (.val (.int .i64 x.k) J):=by
 refine aw D2 o8.eq_1 rfl ?_;simp[-length_flatMap,-map_take]
def rowAt(l:List (List aI.aO))(t:Nat):List aI.aO:=(l[t]?).getD []
structure Rs(b:cp)(l:List bE)(n:Nat)(rs:List RunT):Prop where
 len:rs.length=l.length
 ne:1<=l.length/\l.length<=40
 n6:n<=200
 an:b.an.length<=8
 bn:1<=b.n/\b.n<=64
 all:∀r∈rs,MK b n r.1 r.2
 fv:∀m∈l,Fv b m
theorem Vh{b:cp}{n:Nat}{r:RunT}(h:MK b n r.1 r.2){t:Nat}(ht:t<n):r.2[t]?=some (rowAt r.2 t)/\Yv b (rowAt r.2 t):=by
 have h1:t<r.2.length:=by rw[h.yl];exact ht
 have h2:r.2[t]?=some r.2[t]:=aC h1;have h3:rowAt r.2 t=r.2[t]:=by simp[rowAt,h2]
 rw[h3];exact⟨h2,h.yv _ (List.getElem_mem h1)⟩
theorem Zm{b:cp}{n:Nat}{r:RunT}(h:MK b n r.1 r.2){t:Nat}(ht:t<=n):r.1[t]?=some (rowAt r.1 t)/\Sv b (rowAt r.1 t):=by
 have h1:t<r.1.length:=by rw[h.sl];omega
 have h2:r.1[t]?=some r.1[t]:=aC h1;have h3:rowAt r.1 t=r.1[t]:=by simp[rowAt,h2]
 rw[h3];exact⟨h2,h.sv _ (List.getElem_mem h1)⟩
theorem Zz{b:cp}{y:List aI.aO}(h:Yv b y){w:Nat}(hw:w<b.an.length):y[w]?=some (bZ y w):=by
 have h1:w<y.length:=by rw[h.len];exact hw
 simp[bZ,aC h1]
theorem VB{l:List (List aI.aO)}{t:Nat}{s:List aI.aO}(h:l[t]?=some s):((l.flatMap zC).drop t).take 1=[.aJ s.length (s.flatMap aO.enc)]:=by
 have:=bX (f:=zC) (w:=1) (λ_=>rfl) h;simpa[zC]using this
theorem Yf{l:List RunT}{j:Nat}{r:RunT}(h:l[j]?=some r):((l.flatMap Et).drop (j*2)).take 2=[.aJ r.1.length (r.1.flatMap zC),.aJ r.2.length (r.2.flatMap zC)] :=
 bX (f:=Et) (w:=2) (λ_=>rfl) h
end Go.Proofs.YtanhdobabijmoaaGreatDoor
namespace Go.aI
open List(length_flatMap map_take)
open Go Go.aA
def three:List Rw:=[⟨100,101,419,2676,150⟩,⟨150,476,632,2746,300⟩,⟨200,1555,852,2793,600⟩]
end Go.aI
namespace Go.Proofs.YtanhdobabijmoaaGreatDoor
open List(length_flatMap map_take)
open Go Go.aA Go.aI
variable {J:SK}
theorem Rs.of{b:cp}{l:List bE}{aD:List (List Int)}(h:Ok b l aD){rs:List RunT}(hr:yN b aD l=some rs):Rs b l aD.length rs:=by
 obtain⟨h1,h2⟩:=KR hr;refine⟨h1,h.len,h.Su,h.bv.an,h.bv.n,?_,h.fv⟩;intro r hmem;obtain⟨i,hi⟩:=eG hmem;have hlt:i<l.length:=by rw[<- h1];exact(ar.1 hi).1
 obtain⟨m,hm⟩:=gE hlt;obtain⟨r',h3,h4⟩:=h2 i m hm;rw[hi]at h3;cases h3;exact MK.of (h.fv m (ai hm)) h.aW h4
theorem M9(l:List Nat):(l.flatMap λ_=>[D.aJ 0 []])=List.replicate l.length (.aJ 0 []):=by
 induction l with
 |nil=>rfl
 |cons a l ih=>rw[aS,ih];rfl
end Go.Proofs.YtanhdobabijmoaaGreatDoor
namespace Go.aI
open List(length_flatMap map_take)
open Go Go.aA
structure mm where
 name:List UInt8
 kind:Int
 bl:List Int
 wt:List Int
 lo:Int
 hi:Int
structure xB where
 tick:Int
 si:Int
 idx:Int
 lo:Int
 hi:Int
@[simp] theorem mm.eta(p:mm):mm.mk p.name p.kind p.bl p.wt p.lo p.hi=p:=rfl
@[simp] theorem xB.eta(p:xB):xB.mk p.tick p.si p.idx p.lo p.hi=p:=rfl
@[simp] def mm.enc(m:mm):List D:=[.str m.name,.int .i64 m.kind,.aJ m.bl.length (m.bl.flatMap aM),.aJ m.wt.length (m.wt.flatMap aM),.int .i64 m.lo,.int .i64 m.hi]
@[simp] def xB.enc(x:xB):List D:=[.int .i64 x.tick,.int .u8 x.si,.int .i64 x.idx,.int .i64 x.lo,.int .i64 x.hi]
def yR(n:Int):Int->List Int->List Int->Bool
 |last,b::bl,w::wt=>decide (last<b) && (decide (b<n) && (cj w (-1000) 1000 && yR n b bl wt))
 |_,_,_=>true
def Jg(f:cU)(kind:Int)(bl wt:List Int):Bool:=cj kind 0 (f.k-1) && (decide (1<=bl.length) && (decide (bl.length=wt.length) && yR f.size (-1) bl wt))
def IB(lo hi:Int):Bool:=decide (-10000000000<=lo) && (decide (lo<=hi) && decide (hi<=10000000000))
def cU.measure(f:cU)(m:mm):Int:=if named m.name then(if Jg f m.kind m.bl m.wt && IB m.lo m.hi then 0 else 1)else 5
def cU.Ct(f:cU)(met:List (List UInt8)):List mm->Int
 |[]=>0
 |m::l=>if f.measure m=0 then(if met.contains m.name then 6 else f.Ct (met++[m.name]) l)else f.measure m
def cU.sd(f:cU)(l:List mm):Int:=if 12<l.length then 3 else f.Ct [] l
structure SP(f:cU)(x:mm):Prop where
 name:x.name.length<=16
 kind:0<=x.kind/\x.kind<f.k
 ne:1<=x.bl.length
 len:x.bl.length=x.wt.length
 Ve:yR f.size (-1) x.bl x.wt=true
 ends : -10000000000<=x.lo/\x.lo<=x.hi/\x.hi<=10000000000
theorem SP.of{f:cU}{x:mm}(h:f.measure x=0):SP f x:=by
 unfold cU.measure at h;split at h
 .rename_i h1;split at h
  .rename_i h2;simp only[Jg,IB,ae,au,bk]at h2;obtain⟨⟨h3,h4,h5,h6⟩,h7,h8,h9⟩:=h2;simp only[named,ae]at h1;have:=bk.1 h1.2;exact⟨by omega,by omega,h4,h5,h6,h7,h8,h9⟩
  .cases h
 .cases h
theorem Gq{n:Int}:∀{bl wt:List Int} {last:Int},bl.length=wt.length->yR n last bl wt=true->last<n->(bl.length:Int)<=n-1-last
 |[],wt,last,hl,h,hn=>by simp;omega
 |b::bl,[],last,hl,h,hn=>by simp at hl
 |b::bl,w::wt,last,hl,h,hn=>by
  simp only[yR,ae,au]at h;obtain⟨h1,h2,h3,h4⟩:=h;have:=Gq (n:=n) (bl:=bl) (wt:=wt) (last:=b) (by simpa using hl) h4 h2;simp only[av];omega
theorem Og{n:Int}:∀{bl wt:List Int} {last:Int} {i:Nat} {b w:Int},yR n last bl wt=true->bl[i]?=some b->wt[i]?=some w->last<b/\b<n/\(-1000<=w/\w<=1000)
 |[],wt,last,i,b,w,h,hb,hw=>by simp at hb
 |b'::bl,[],last,i,b,w,h,hb,hw=>by simp at hw
 |b'::bl,w'::wt,last,i,b,w,h,hb,hw=>by
  simp only[yR,ae,au]at h;obtain⟨h1,h2,h3,h4⟩:=h;cases i with
  |zero =>
   simp only[bT,ad]at hb hw;subst hb hw;exact⟨h1,h2,bk.1 h3⟩
  |succ i =>
   have:=Og h4 (by simpa using hb) (by simpa using hw);omega
def JT(aU:List Int)(off:Int):Int->List Int->List Int->Int
 |acc,b::bl,w::wt=>JT aU off (acc+w*(aU[(off+b).toNat]?).getD 0) bl wt
 |acc,_,_=>acc
def AJ(f:cU)(m:bE)(x:mm):Int:=JT m.aU (x.kind*f.size) 0 x.bl x.wt
def Fc(lo hi s:Int):Int:=if hi<s then s-hi else if s<lo then s-lo else 0
def CF(lo hi s:Int):Int:=max 0 (s-hi)+min 0 (s-lo)
theorem Pe{lo hi s:Int}(h:lo<=hi):CF lo hi s=Fc lo hi s:=by
 unfold CF Fc;split
 .omega
 .split<;>omega
def nB(f:cU)(m:bE)(l:List mm):List Int:=l.map λx=>Fc x.lo x.hi (AJ f m x)
def okF(f:cU)(l:List mm)(m:bE):Bool:=(nB f m l).all λn=>n == 0
def aO.Gs(y:aO):Int:=if y.m=0 then 0 else y.h.tdiv y.m
def aO.Oi(y:aO)(si:Int):Int:=if si=2 then y.m else if si=3 then y.Gs else y.k
def wZ(b:cp)(m:bE)(r:List (List aO)×List (List aO))(x:xB):Int :=
 if x.si=1 then kj b m ((r.1[x.tick.toNat]?).getD []) x.idx.toNat else aO.Oi (bZ ((r.2[x.tick.toNat-1]?).getD []) x.idx.toNat) x.si
def vh(b:cp)(AF:Int)(x:xB):Int :=
 if !cj x.si 1 4 || (decide (x.lo < -10000000000) || (decide (x.hi<x.lo) || decide (10000000000<x.hi)))then 1
 else if !cj x.tick (if x.si=1 then 0 else 1) AF || !cj x.idx 0 ((if x.si=1 then b.size else b.an.length)-1)then 2 else 0
def yK(b:cp)(AF:Int)(l:List xB):Int:=if 40<l.length then 3 else cQ (vh b AF) l
structure WS(b:cp)(n:Nat)(x:xB):Prop where
 si:1<=x.si/\x.si<=4
 ends : -10000000000<=x.lo/\x.lo<=x.hi/\x.hi<=10000000000
 p:x.si=1->(0<=x.tick/\x.tick<=n)/\0<=x.idx/\x.idx<b.size
 y:x.si≠1->(1<=x.tick/\x.tick<=n)/\0<=x.idx/\x.idx<b.an.length
theorem WS.of{b:cp}{n:Nat}{x:xB}(h:vh b n x=0):WS b n x:=by
 unfold vh at h;by_cases h3:x.si=1
 .rw[if_pos h3,if_pos h3]at h;split at h
  .cases h
  .rename_i h1;simp only[bY,au,cY,not_or,Bool.not_eq_false,bk]at h1;split at h
   .cases h
   .rename_i h2;simp only[bY,cY,not_or,Bool.not_eq_false,bk]at h2;exact⟨h1.1,by omega,λ_=>by omega,λh=>absurd h3 h⟩
 .rw[if_neg h3,if_neg h3]at h;split at h
  .cases h
  .rename_i h1;simp only[bY,au,cY,not_or,Bool.not_eq_false,bk]at h1;split at h
   .cases h
   .rename_i h2;simp only[bY,cY,not_or,Bool.not_eq_false,bk]at h2;exact⟨h1.1,by omega,λh=>absurd h h3,λ_=>by omega⟩
def idxs{α:Type}(p:α->Bool):Nat->List α->List Int
 |_,[]=>[]
 |i,x::l=>if p x then(i:Int)::idxs p (i+1) l else idxs p (i+1) l
theorem Nv{α:Type}{p:α->Bool}:∀{l:List α} {i:Nat},(idxs p i l).length<=l.length
 |[],i=>by simp[idxs]
 |x::l,i=>by
  simp only[idxs];have:=Nv (p:=p) (l:=l) (i:=i+1);split<;>simp<;>omega
end Go.aI
namespace Go.Proofs.YtanhdobabijmoaaGreatDoor
open List(length_flatMap map_take)
open Go Go.aA Go.aI
variable {J:SK}
theorem JX{f:cU}(h:f.valid=true):lim T (.call false 60 [.agg [.int .i64 f.x,.int .i64 f.y,.int .i64 f.z,.int .i64 f.k]] J)=some (.val (.int .i64 f.size) J):=by
 obtain⟨h1,h2,h3,h4,h5⟩:=cU.mo.1 h;exact HD h1 h2 h3
theorem TN{f:cU}{bl wt:List Int}(hf:f.valid=true)(hl:bl.length<=9223372036854775807)(hw:bl.length=wt.length):∀(k i:Nat) (last:Int),i+k=bl.length ->
  WL T [3,4,9,30,31,32] false gA [(3,.aJ wt.length (wt.flatMap aM)),(4,.bq [.int .i64 f.x,.int .i64 f.y,.int .i64 f.z,.int .i64 f.k]),(9,.int .i64 last),(30,.aJ bl.length (bl.flatMap aM)),(31,.int .i64 bl.length),(32,.int .i64 i)] J
   (λx e J'=>J'=J/\if yR f.size last (bl.drop i) (wt.drop i)then x=.exit 0 else x=.ret/\get e 8=.bool false)
 |0,i,last,hi=>by
  refine aH gA.eq_1 ?_;have h1:¬i<bl.length:=by omega
  have h2:bl.drop i=[]:=aE (by omega);simp[-length_flatMap,-map_take,h1,h2,yR]
 |k+1,i,last,hi=>by
  refine aH gA.eq_1 ?_;have h1:i<bl.length:=by omega
  have h1':i<wt.length:=by omega
  obtain⟨b,hb⟩:=gE h1;obtain⟨w,hw'⟩:∃r,wt[i]?=some r:=⟨_,aC h1'⟩;have h2:=lU hb;have h3:=lU hw';have h4:=dJ h1 hl;have h5:=drop_at hb;have h6:=drop_at hw';have hB:=λJ=>JX (J:=J) hf
  have ih:=TN hf hl hw k (i+1) b (by omega);rw[h5,h6,yR];by_cases c1:b<=last
  .simp[-length_flatMap,-map_take,h1,h1',h2,h3,h4,hB,fy,c1,show ¬last<b by omega]
  .by_cases c2:f.size<=b
   .simp[-length_flatMap,-map_take,h1,h1',h2,h3,h4,hB,fy,c1,c2,show last<b by omega,show ¬b<f.size by omega]
   .cases c3:cj w (-1000) 1000
    .simp[-length_flatMap,-map_take,h1,h1',h2,h3,h4,hB,fy,c1,c2,c3,show last<b by omega,show b<f.size by omega]
    .simp[-length_flatMap,-map_take,h1,h1',h2,h3,h4,hB,fy,c1,c2,c3,show last<b by omega,show b<f.size by omega];exact WL.to ih (by simp) rfl λx e J hh=>by simpa[show last<b by omega,show b<f.size by omega]using hh
theorem ZU{f:cU}{k:Int}{bl wt:List Int}(hf:f.valid=true)(hl:bl.length<=9223372036854775807)(hk:f.valid=true->True):
  lim T (.call false 93 [.agg [.int .i64 f.x,.int .i64 f.y,.int .i64 f.z,.int .i64 f.k],.int .i64 k,.aJ bl.length (bl.flatMap aM),.aJ wt.length (wt.flatMap aM)] J)=some (.val (.bool (Jg f k bl wt)) J):=by
 refine aw DS oT.eq_1 rfl ?_;obtain⟨q1,q2,q3,q4,q5⟩:=cU.mo.1 hf;have w1:=eQ (n:=f.k-1);unfold Jg;cases c1:cj k 0 (f.k-1)
 .simp[-length_flatMap,-map_take,fy,w1,c1]
 by_cases c2:1<=bl.length
 rotate_left
 .have:bl=[]:=bw.1 (by omega);subst this;simp[-length_flatMap,-map_take,fy,w1,c1]
 have c2':¬(bl.length:Int)<1:=by omega
 have c2'':¬bl=[]:=λh=>by rw[h]at c2;simp at c2
 by_cases c3:bl.length=wt.length
 rotate_left
 .simp[-length_flatMap,-map_take,fy,w1,c1,c2',c2'',c3,show ¬(bl.length:Int)=wt.length by omega]
 have c4:¬(wt.length:Int)<1:=by omega
 have c5:¬wt=[]:=λh=>by rw[h]at c3;simp at c3;exact c2'' c3
 simp[-length_flatMap,-map_take,fy,w1,c1,c2,c2',c2'',c3,c4,c5];refine WL.to (TN (J:=[]::J) hf hl c3 bl.length 0 (-1) (by omega)) (by simp[c3]) rfl ?_;rintro x e J' ⟨rfl,h⟩;simp only[aP]at h;cases hc:yR f.size (-1) bl wt
 .simp[hc]at h;simp[h]
 .simp[hc]at h;simp[-length_flatMap,-map_take,h];omega
theorem V9{lo hi:Int}:lim T (.call false 94 [.agg [.int .i64 lo,.int .i64 hi]] J)=some (.val (.bool (IB lo hi)) J):=by
 refine aw DT oU.eq_1 rfl ?_;unfold IB;by_cases c1 : -10000000000<=lo
 .by_cases c2:lo<=hi<;>simp[-length_flatMap,-map_take,c1,c2]
 .simp[-length_flatMap,-map_take,c1]
theorem J3{f:cU}{m:mm}(hf:f.valid=true)(hn:m.name.length<=1000000000)(hl:m.bl.length<=9223372036854775807):
  lim T (.call false 69 [.agg [.int .i64 f.x,.int .i64 f.y,.int .i64 f.z,.int .i64 f.k],.agg m.enc] J)=some (.val (.int .i64 (f.measure m)) J):=by
 refine aw BV lH.eq_1 rfl ?_;have h1:=λJ=>EB (J:=J) hn
 have h2:=λJ=>ZU (J:=J) (k:=m.kind) (wt:=m.wt) hf hl (λ_=>trivial)
 unfold cU.measure;cases c1:named m.name
 .simp[-length_flatMap,-map_take,h1,c1]
 cases c2:Jg f m.kind m.bl m.wt
 .simp[-length_flatMap,-map_take,h1,h2,c1,c2]
 cases c3:IB m.lo m.hi<;>simp[-length_flatMap,-map_take,h1,h2,V9,c1,c2,c3]
theorem acU{f:cU}{m:mm}(hf:f.valid=true)(hn:m.name.length<=1000000000)(hl:m.bl.length<=9223372036854775807):
  lim T (.call false 68 [.agg m.enc,.bq [.int .i64 f.x,.int .i64 f.y,.int .i64 f.z,.int .i64 f.k]] J)=some (.val (.db [.str m.name,.int .i64 (f.measure m)]) J):=by
 refine aw zO ji.eq_1 rfl ?_;have h:=λJ=>J3 (J:=J) hf hn hl
 simp only[mm.enc]at h ⊢;simp[-length_flatMap,-map_take,h]
theorem QO{l:List mm}{j:Nat}{m:mm}(h:l[j]?=some m):((l.flatMap mm.enc).drop (j*6)).take 6=m.enc :=
 bX (f:=mm.enc) (w:=6) (λ_=>rfl) h
def Eu(l:List mm):Prop:=∀m∈l,m.name.length<=1000000000/\m.bl.length<=9223372036854775807
theorem PY{f:cU}{l:List mm}(hf:f.valid=true)(hs:Eu l)(hl:l.length<=1000000000):∀(k i:Nat) (met:List (List UInt8)),i+k=l.length ->
  WL T [1,5,11,12,13] false dD [(1,.fn 68 [] [.bq [.int .i64 f.x,.int .i64 f.y,.int .i64 f.z,.int .i64 f.k]]),(5,.jm J.length 0),(11,.aJ l.length (l.flatMap mm.enc)),(12,.int .i64 l.length),(13,.int .i64 i)] ([.cells 0 (DB met)]::J)
   (λx e J'=>∃s,J'=s::J/\if f.Ct met (l.drop i)=0 then x=.exit 0 else x=.ret/\get e 4=.int .i64 (f.Ct met (l.drop i)))
 |0,i,met,hi=>by
  refine aH dD.eq_1 ?_;have h1:¬i<l.length:=by omega
  have h2:l.drop i=[]:=aE (by omega);simp[-length_flatMap,-map_take,h1,h2,cU.Ct]
 |k+1,i,met,hi=>by
  refine aH dD.eq_1 ?_;have h1:i<l.length:=by omega
  obtain⟨m,hm⟩:=gE h1;have h2:=QO hm;have h4:=dJ h1;have h5:=drop_at hm;obtain⟨hs1,hs2⟩:=hs m (ai hm);have hC:=λJ=>acU (J:=J) hf hs1 hs2
  simp only[mm.enc]at h2 hC;rw[h5,cU.Ct];by_cases hc1:f.measure m=0
  .have hg:=Y7 (S:=[.cells 0 (DB met)]::J) (l:=J.length) (i:=0) (met:=met) (k:=m.name) (by simp);cases hc2:met.contains m.name
   .rw[hc2]at hg;have hp:=Y8 (S:=[.cells 0 (DB met)]::J) (l:=J.length) (i:=0) (met:=met) (k:=m.name) (by simp) hc2;have ih:=PY hf hs hl k (i+1) (met++[m.name]) (by omega);simp at hp;have hc3:¬m.name∈met:=by simpa using hc2
    simp[-length_flatMap,-map_take,h1,h2,h4,hC,hc1,hg,hp,hc3];exact WL.to ih (by simp) (by simp) λx e J' hh=>by simpa[hc1]using hh
   .rw[hc2]at hg;have hc3:m.name∈met:=by simpa using hc2
    simp[-length_flatMap,-map_take,h1,h2,h4,hC,hc1,hg,hc3]
  .simp[-length_flatMap,-map_take,h1,h2,h4,hC,hc1]
theorem V8{f:cU}{l:List mm}(hf:f.valid=true)(hs:Eu l)(hl:l.length<=1000000000):
  lim T (.call false 67 [.aJ l.length (l.flatMap mm.enc),.fn 68 [] [.bq [.int .i64 f.x,.int .i64 f.y,.int .i64 f.z,.int .i64 f.k]]] J)=some (.val (.int .i64 (f.Ct [] l)) J):=by
 refine aw ya gB.eq_1 rfl ?_;have hm:BO ([]::J) .make []=some (.jm J.length 0,[.cells 0 (DB [])]::J):=by simp[BO,DB]
 simp[-length_flatMap,-map_take,hm];refine WL.to (PY (J:=J) hf hs hl l.length 0 [] (by omega)) (by simp) (by simp) ?_;rintro x e J' ⟨s,rfl,h⟩;simp only[aP]at h;by_cases hc:f.Ct [] l=0
 .rw[if_pos hc]at h;subst h;simp[-length_flatMap,-map_take,hc]
 .rw[if_neg hc]at h;obtain⟨rfl,h⟩:=h;simp[h]
theorem HH{f:cU}{l:List mm}(hf:f.valid=true)(hs:Eu l)(hl:l.length<=1000000000):
  lim T (.call false 46 [.agg [.int .i64 f.x,.int .i64 f.y,.int .i64 f.z,.int .i64 f.k],.aJ l.length (l.flatMap mm.enc)] J)=some (.val (.int .i64 (f.sd l)) J):=by
 refine aw AO km.eq_1 rfl ?_;unfold cU.sd;by_cases hc:12<l.length
 .simp[-length_flatMap,-map_take,hc,show(12:Int)<l.length by omega]
 .simp[-length_flatMap,-map_take,hc,show ¬(12:Int)<l.length by omega,V8 hf hs hl]
structure Fm(f:cU)(m:bE):Prop where
 fv:f.valid=true
 len:(m.aU.length:Int)=f.k*f.size
 ok:∀v∈m.aU,-100000<=v/\v<=100000
theorem Fm.of{f:cU}{m:bE}(hf:f.valid=true)(h:f.model m=0):Fm f m:=by
 unfold cU.model at h;split at h
 .split at h
  .rename_i h1;exact⟨hf,h1.1,λv hv=>bk.1 (jq.1 h1.2 v hv)⟩
  .cases h
 .cases h
theorem UN{a b A B:Int}(ha : -A<=a/\a<=A)(hb : -B<=b/\b<=B)(hA:0<=A) : -(A*B)<=a*b/\a*b<=A*B:=by
 have key:∀x:Int,0<=x->x<=A -> -(A*B)<=x*b/\x*b<=A*B:=by
  intro x h0 h1;have e1:x*b<=x*B:=Int.mul_le_mul_of_nonneg_left hb.2 h0;have e2:x*(-B)<=x*b:=Int.mul_le_mul_of_nonneg_left hb.1 h0;have e3:x*B<=A*B:=eR h1 (by omega);rw[Int.mul_neg]at e2;omega
 rcases mq 0 a with h | h
 .exact key a h ha.2
 .have:=key (-a) (by omega) (by omega);rw[Int.neg_mul]at this;omega
theorem afK{f:cU}{m:bE}{x:mm}(hm:Fm f m)(hx:SP f x):∀(k i:Nat) (acc:Int),i+k=x.bl.length -> -(i*100000000)<=acc/\acc<=i*100000000 ->
  WL T [2,3,4,8,9,10] false jZ [(2,.bq [.int .i64 f.x,.int .i64 f.y,.int .i64 f.z,.int .i64 f.k,.int .i64 x.kind,.aJ x.bl.length (x.bl.flatMap aM),.aJ x.wt.length (x.wt.flatMap aM)]),(3,.bq [.str m.name,.aJ m.aU.length (m.aU.flatMap aM)]),(4,.int .i64 acc),(8,.aJ x.bl.length (x.bl.flatMap aM)),(9,.int .i64 x.bl.length),(10,.int .i64 i)] J
   (λx' e J'=>J'=J/\x'=.exit 0/\get e 4=.int .i64 (JT m.aU (x.kind*f.size) acc (x.bl.drop i) (x.wt.drop i))):=by
 intro k;induction k with
 |zero =>
  intro i acc hi ha;refine aH jZ.eq_1 ?_;have h1:¬i<x.bl.length:=by omega
  have h2:x.bl.drop i=[]:=aE (by omega);simp[-length_flatMap,-map_take,h1,h2,JT]
 |succ k ih0 =>
  intro i acc hi ha;refine aH jZ.eq_1 ?_;have h1:i<x.bl.length:=by omega
  have hlen:=hx.len;have h1':i<x.wt.length:=by omega
  obtain⟨b,hb⟩:=gE h1;obtain⟨w,hw⟩:=gE h1';obtain⟨q1,q2⟩:=Fe hm.fv;obtain⟨z1,z2,z3,z4,z5⟩:=cU.mo.1 hm.fv;obtain⟨s1,s2,s3⟩:=Og hx.Ve hb hw;have hl64:=Gq hx.len hx.Ve (by omega);have h4:=dJ h1;have h5:=drop_at hb;have h6:=drop_at hw;have h2:=lU hb;have h3:=lU hw;have k1:=hx.kind;have k2:0<=x.kind*f.size/\x.kind*f.size+f.size<=f.k*f.size:=by
   refine⟨cZ k1.1 (by omega),?_⟩;have:=eR (show x.kind+1<=f.k by omega) (show 0<=f.size by omega);rw[Int.add_mul]at this;omega
  have hvl:=hm.len;obtain⟨j,hj⟩:∃j:Nat,x.kind*f.size+b=j:=⟨(x.kind*f.size+b).toNat,by omega⟩;have hj1:j<m.aU.length:=by omega
  obtain⟨v,hv⟩:=gE hj1;have hvb:=hm.ok v (ai hv);have h7:=lU hv;have hB:=λJ=>JX (J:=J) hm.fv
  have b1:=UN (a:=w) (b:=v) (A:=1000) (B:=100000) (by omega) hvb (by omega);have w1:=eQ (n:=x.kind*f.size);have w2:=eQ (n:=(j:Int));have w3:=eQ (n:=w*v);have w4:=eQ (n:=acc+w*v);have ih:=ih0 (i+1) (acc+w*v) (by omega) (by omega);rw[h5,h6,JT,hj];simp only[Int.toNat_natCast,hv,Option.getD_some];simp[-length_flatMap,-map_take,h1,h1',h2,h3,h4,hB,w1,w2,w3,w4,hj,hj1,h7];exact WL.to ih (by simp) rfl λx e J hh=>by simpa[hv]using hh
theorem VQ{f:cU}{m:bE}(hm:Fm f m):∀{bl wt:List Int} {off acc:Int},(∀w∈wt,-1000<=w/\w<=1000) -> -((bl.length:Int)*100000000)+acc<=JT m.aU off acc bl wt/\JT m.aU off acc bl wt<=(bl.length:Int)*100000000+acc
 |[],wt,off,acc,hw=>by simp[JT]
 |b::bl,[],off,acc,hw=>by simp only[JT,av];omega
 |b::bl,w::wt,off,acc,hw=>by
  have ih:=VQ hm (bl:=bl) (wt:=wt) (off:=off) (acc:=acc+w*(m.aU[(off+b).toNat]?).getD 0) (λx hx=>hw x (List.mem_cons_of_mem _ hx));have hb : -100000<=(m.aU[(off+b).toNat]?).getD 0/\(m.aU[(off+b).toNat]?).getD 0<=100000:=by
   cases hc:m.aU[(off+b).toNat]? with
   |none=>simp
   |some v=>exact hm.ok v (ai hc)
  have b1:=UN (a:=w) (A:=1000) (B:=100000) (hw w (List.mem_cons_self ..)) hb (by omega);simp only[JT,av]at ih ⊢;omega
theorem Re{n:Int}:∀{bl wt:List Int} {last:Int},bl.length=wt.length->yR n last bl wt=true->∀w∈wt,-1000<=w/\w<=1000
 |[],wt,last,hl,h,w,hw=>by
  have:wt=[]:=bw.1 (by simpa using hl.symm);subst this;cases hw
 |b::bl,[],last,hl,h,w,hw=>by cases hw
 |b::bl,w'::wt,last,hl,h,w,hw=>by
  simp only[yR,ae,au]at h;obtain⟨h1,h2,h3,h4⟩:=h;rcases aY.1 hw with rfl | hw
  .exact bk.1 h3
  .exact Re (by simpa using hl) h4 w hw
theorem XN{f:cU}{m:bE}{x:mm}(hm:Fm f m)(hx:SP f x) : -10000000000<=AJ f m x/\AJ f m x<=10000000000:=by
 obtain⟨q1,q2⟩:=Fe hm.fv;have hl64:=Gq hx.len hx.Ve (by omega);have:=VQ hm (bl:=x.bl) (wt:=x.wt) (off:=x.kind*f.size) (acc:=0) (Re hx.len hx.Ve);unfold AJ;omega
theorem PW{f:cU}{m:bE}{x:mm}(hm:Fm f m)(hx:SP f x):lim T (.call false 70 [.agg [.int .i64 f.x,.int .i64 f.y,.int .i64 f.z,.int .i64 f.k,.int .i64 x.kind,.aJ x.bl.length (x.bl.flatMap aM),.aJ x.wt.length (x.wt.flatMap aM)],.agg [.str m.name,.aJ m.aU.length (m.aU.flatMap aM)]] J)=some (.val (.int .i64 (AJ f m x)) J):=by
 refine aw FJ sn.eq_1 rfl ?_;simp[-length_flatMap,-map_take];refine WL.to (afK (J:=[]::J) hm hx x.bl.length 0 0 (by omega) (by simp)) (by simp) rfl ?_;rintro x' e J' ⟨rfl,rfl,g⟩;simp[-length_flatMap,-map_take,g,AJ]
theorem MF{f:cU}{x:mm}:lim T (.call false 48 [.agg [.int .i64 f.x,.int .i64 f.y,.int .i64 f.z,.int .i64 f.k],.agg x.enc] J)=some (.val (.fn 70 [.agg [.int .i64 f.x,.int .i64 f.y,.int .i64 f.z,.int .i64 f.k,.int .i64 x.kind,.aJ x.bl.length (x.bl.flatMap aM),.aJ x.wt.length (x.wt.flatMap aM)]] []) J):=by
 refine aw Cc my.eq_1 rfl ?_;simp[-length_flatMap,-map_take,D.clean,bh]
theorem We{lo hi n:Int}(h1 : -10000000000<=lo/\lo<=10000000000)(h2 : -10000000000<=hi/\hi<=10000000000)(hn : -10000000000<=n/\n<=10000000000):
  lim T (.call false 47 [.agg [.int .i64 lo,.int .i64 hi],.int .i64 n] J)=some (.val (.int .i64 (Fc lo hi n)) J):=by
 refine aw DU oV.eq_1 rfl ?_;have w1:=eQ (n:=n-hi);have w2:=eQ (n:=n-lo);unfold Fc;by_cases c1:hi<n
 .simp[-length_flatMap,-map_take,c1,w1]
 .by_cases c2:n<lo<;>simp[-length_flatMap,-map_take,c1,c2,w2]
theorem KI(f:cU)(m:bE)(l:List mm):(nB f m l).length=l.length:=by simp[nB]
theorem MG{f:cU}{m:bE}{l:List mm}(hm:Fm f m)(hl:l.length<=12)(hx:∀x∈l,SP f x):∀(k i:Nat),i+k=l.length ->
  WL T [3,4,7,13,14,15] false fU [(3,.bq [.int .i64 f.x,.int .i64 f.y,.int .i64 f.z,.int .i64 f.k]),(4,.bq [.str m.name,.aJ m.aU.length (m.aU.flatMap aM)]),(7,.sl J.length 0 0 0 l.length 1),(13,.aJ l.length (l.flatMap mm.enc)),(14,.int .i64 l.length),(15,.int .i64 i)]
   ([.cells 0 (((nB f m l).take i++List.replicate (l.length-i) 0).flatMap aM)]::J)
   (λx e J'=>x=.exit 0/\get e 7=.sl J.length 0 0 0 l.length 1/\J'=[.cells 0 ((nB f m l).flatMap aM)]::J)
 |0,i,hi=>by
  refine aH fU.eq_1 ?_;obtain rfl:i=l.length:=by omega
  have h3:(nB f m l).take l.length=nB f m l:=af (by simp[nB]);simp[-length_flatMap,-map_take,h3]
 |k+1,i,hi=>by
  refine aH fU.eq_1 ?_;have h1:i<l.length:=by omega
  obtain⟨x,hxi⟩:=gE h1;have hxv:=hx x (ai hxi);have hs:=XN hm hxv;have hen:=hxv.ends;have h2:=QO hxi;have h4:=dJ h1;have hW:=λJ=>MF (J:=J) (f:=f) (x:=x)
  have hS:=λJ=>PW (J:=J) hm hxv
  have hM:=λJ=>We (J:=J) (lo:=x.lo) (hi:=x.hi) (n:=AJ f m x) (by omega) (by omega) (by omega)
  have ih:=MG hm hl hx k (i+1) (by omega);simp only[mm.enc]at h2 hW;have e1:(nB f m l).take (i+1)=(nB f m l).take i++[Fc x.lo x.hi (AJ f m x)]:=by
   rw[List.take_add_one];simp[nB,hxi]
  have e2:List.replicate (l.length-i) (0:Int)=0::List.replicate (l.length-(i+1)) 0:=by
   rw[show l.length-i=(l.length-(i+1))+1 from by omega];rfl
  have e3:((nB f m l).take i).length=i:=by simp[nB];omega
  have e5:(((nB f m l).take i).flatMap aM).length=i:=by rw[zq,e3]
  have e4:∀(c d:D) (A B:List D),A.length=i->(A++c::B).take i++d::(A++c::B).drop (i+1)=A++d::B:=by
   intro c d A B hA;subst hA;simp
  rw[e2];rw[e1]at ih;have e7:i+1<=(((nB f m l).take i).flatMap aM).length+(((List.replicate (l.length-(i+1)) (0:Int)).flatMap aM).length+1):=by omega
  have e6:=e4 (.int .i64 0) (.int .i64 (Fc x.lo x.hi (AJ f m x))) (((nB f m l).take i).flatMap aM) ((List.replicate (l.length-(i+1)) (0:Int)).flatMap aM) e5;simp[-length_flatMap,-map_take,h1,h2,h4,hW,hS,hM,bh,e6,e7];exact WL.to ih (by simp) (by simp) λx e J hh=>hh
theorem Te{f:cU}{m:bE}{l:List mm}(hm:Fm f m)(hl:l.length<=12)(hx:∀x∈l,SP f x)(hJ:J≠[]):
  lim T (.call false 26 [.agg [.int .i64 f.x,.int .i64 f.y,.int .i64 f.z,.int .i64 f.k],.agg [.str m.name,.aJ m.aU.length (m.aU.flatMap aM)],.aJ l.length (l.flatMap mm.enc)] J)=some (.val (.aJ l.length ((nB f m l).flatMap aM)) J):=by
 refine aw Ca mu.eq_1 rfl ?_;have h1:l.length*8<=room:=by unfold room;omega
 have h2:((List.range l.length).flatMap λ_=>[D.int .i64 0])=(List.replicate l.length (0:Int)).flatMap aM:=by
  induction l.length with
  |zero=>rfl
  |succ n ih=>rw[List.range_succ,List.replicate_succ',cF,cF,ih];rfl
 have h3:(l.length:Int)*8<=room:=by omega
 simp[-length_flatMap,-map_take,h1,h2,h3];refine WL.to (MG (J:=J) hm hl hx l.length 0 (by omega)) (by simp) (by simp) ?_;rintro x e J' ⟨rfl,g7,rfl⟩;simp[-length_flatMap,-map_take,g7];have:=wV (n:=16) (f:=aM) (w:=1) (l:=nB f m l) (j:=0) (v:=0) (bs:=[.cells 0 ((nB f m l).flatMap aM)]) (by decide) (λ_=>rfl) (λx=>by simp) hJ rfl;rw[KI]at this;rw[this];exact⟨_,rfl⟩
theorem afH{n:Int}:lim T (.call false 28 [.int .i64 n] J)=some (.val (.bool (n != 0)) J):=by
 refine aw ED re.eq_1 rfl ?_;by_cases h:n=0<;>simp[-length_flatMap,-map_take,h]
theorem acQ{l:List Int}(hl:l.length<=1000):lim T (.call false 27 [.aJ l.length (l.flatMap aM),.fn 28 [] []] J)=some (.val (.int .i64 (idxOf (λn=>n != 0) l)) J) :=
 Nx (IA .i64) (f:=27) (l:=l) (p:=λn=>n != 0) (fv:=.fn 28 [] []) rfl (by omega) (oJ.fn λx _ J=>afH)
end Go.Proofs.YtanhdobabijmoaaGreatDoor
namespace Go.dk
open List(length_flatMap map_take)
open Go Go.aA Go.aI
def rL(f:cU)(x:mm):Int:=if f.valid=true then f.measure x else 1
def vg(p:Int×Int):List D:=[.int .i64 p.1,.int .i64 p.2]
def jH(nm:List UInt8)(k lo hi:Int)(ps:List (Int×Int)):mm:=⟨nm,k,ps.map (·.1),ps.map (·.2),lo,hi⟩
end Go.dk
namespace Go.Proofs.YtanhdobabijmoaaGreatDoor
open List(length_flatMap map_take)
open Go Go.aA Go.aI Go.dk
variable {J:SK}
theorem Mk{f:cU}{x:mm}(hf:f.valid=true)(hn:x.name.length<=1000000000)(hl:x.bl.length<=1000000000):
  lim T (.call false 171 [.bq [.int .i64 f.x,.int .i64 f.y,.int .i64 f.z,.int .i64 f.k],.bq [.aJ 1 x.enc]] J)=some (.val (.int .i64 (f.measure x)) J):=by
 refine aw Ae jM.eq_1 rfl ?_;have h:=λJ=>HH (J:=J) (f:=f) (l:=[x]) hf (by intro m hm;simp at hm;subst hm;exact⟨hn,by omega⟩) (by simp)
 have he:f.sd [x]=f.measure x:=by
  simp only[cU.sd,cU.Ct];by_cases h:f.measure x=0<;>simp[h]
 rw[he]at h;simp only[List.length_singleton,aS,bM,ct]at h;simp only[mm.enc]at h ⊢;simp[-length_flatMap,-map_take,h]
theorem Gw{f:cU}{x:mm}(hn:x.name.length<=1000000000)(hl:x.bl.length<=1000000000):
  lim T (.call false 136 [.agg [.int .i64 f.x,.int .i64 f.y,.int .i64 f.z,.int .i64 f.k],.aJ 1 x.enc] J)=some (.val (.int .i64 (rL f x)) J):=by
 refine aw BS lF.eq_1 rfl ?_;have hC:=λJ=>Hk (J:=J) (fs:=[.fn 33 [.agg [.int .i64 f.x,.int .i64 f.y,.int .i64 f.z,.int .i64 f.k]] [],.fn 171 [] [.bq [.int .i64 f.x,.int .i64 f.y,.int .i64 f.z,.int .i64 f.k],.bq [.aJ 1 x.enc]]]) (es:=[f.shape,f.measure x]) rfl (by simp) (by simp) (by
  intro i d n hd hn' h0 J;match i with
  |0 =>
   simp at hd hn';subst hd hn';simp[EC]
  |1 =>
   simp only[List.getElem?_cons_succ,bT,ad]at hd hn';subst hd hn';have h1:f.valid=true:=by
    have:=h0 0 (by omega);simp[cU.shape]at this;exact this
   have hh:=Mk (J:=J) h1 hn hl;rw[td];have h':lim T (.call false 171 ([]++[]++[.bq [.int .i64 f.x,.int .i64 f.y,.int .i64 f.z,.int .i64 f.k],.bq [.aJ 1 x.enc]]) J)=_:=hh;rw[h'];rfl
  |i+2=>simp at hd)
 have e1:cQ id [f.shape,f.measure x]=rL f x:=by
  simp only[cQ,id,rL,cU.shape];by_cases h:f.valid=true
  .by_cases h2:f.measure x=0<;>simp[h,h2]
  .simp[h]
 rw[e1]at hC;simp only[mm.enc,av,aV]at hC ⊢;simp[-length_flatMap,-map_take,hC]
theorem ZC{f:cU}{m:bE}(hf:f.valid=true)(hn:m.name.length<=1000000000)(hl:m.aU.length<=1000000000):
  lim T (.call false 172 [.bq [.int .i64 f.x,.int .i64 f.y,.int .i64 f.z,.int .i64 f.k],.bq [.str m.name,.aJ m.aU.length (m.aU.flatMap aM)]] J)=some (.val (.int .i64 (f.model m)) J):=by
 refine aw Jn vS.eq_1 rfl ?_;simp[-length_flatMap,-map_take,PS hf hn hl]
theorem ZD{f:cU}{x:mm}(hf:f.valid=true)(hn:x.name.length<=1000000000)(hl:x.bl.length<=1000000000):
  lim T (.call false 173 [.bq [.int .i64 f.x,.int .i64 f.y,.int .i64 f.z,.int .i64 f.k],.bq x.enc] J)=some (.val (.int .i64 (f.measure x)) J):=by
 refine aw Jo vT.eq_1 rfl ?_;have h:=λJ=>J3 (J:=J) (f:=f) (m:=x) hf hn (by omega)
 simp only[mm.enc]at h ⊢;simp[-length_flatMap,-map_take,h]
theorem ZA{f:cU}{m:bE}{x:mm}(hf:f.valid=true)(hm:f.model m=0)(hx:f.measure x=0)(hn:m.name.length<=1000000000)(hl:m.aU.length<=1000000000)(hn2:x.name.length<=1000000000)(hl2:x.bl.length<=1000000000):
  lim T (.call false 139 [.agg [.int .i64 f.x,.int .i64 f.y,.int .i64 f.z,.int .i64 f.k],.agg [.str m.name,.aJ m.aU.length (m.aU.flatMap aM)],.agg x.enc] J)=some (.val (.db [.int .i64 (AJ f m x),.int .i64 0]) J):=by
 refine aw ML zb.eq_1 rfl ?_;have hC:=λJ=>Hk (J:=J) (fs:=[.fn 33 [.agg [.int .i64 f.x,.int .i64 f.y,.int .i64 f.z,.int .i64 f.k]] [],.fn 172 [] [.bq [.int .i64 f.x,.int .i64 f.y,.int .i64 f.z,.int .i64 f.k],.bq [.str m.name,.aJ m.aU.length (m.aU.flatMap aM)]],.fn 173 [] [.bq [.int .i64 f.x,.int .i64 f.y,.int .i64 f.z,.int .i64 f.k],.bq x.enc]]) (es:=[f.shape,f.model m,f.measure x]) rfl (by simp) (by simp) (by
  intro i d n hd hn' h0 J;match i with
  |0 =>
   simp at hd hn';subst hd hn';simp[EC]
  |1 =>
   simp at hd hn';subst hd hn';simp[ZC hf hn hl]
  |2 =>
   simp only[List.getElem?_cons_succ,bT,ad]at hd hn';subst hd hn';have hh:=ZD (J:=J) hf hn2 hl2;rw[td];have h':lim T (.call false 173 ([]++[]++[.bq [.int .i64 f.x,.int .i64 f.y,.int .i64 f.z,.int .i64 f.k],.bq x.enc]) J)=_:=hh;rw[h'];rfl
  |i+3=>simp at hd)
 have e1:cQ id [f.shape,f.model m,f.measure x]=0:=by simp[cQ,cU.shape,hf,hm,hx]
 rw[e1]at hC;have hW:=λJ=>MF (J:=J) (f:=f) (x:=x)
 have hS:=λJ=>PW (J:=J) (Fm.of hf hm) (SP.of hx)
 simp only[mm.enc,av,aV]at hC hW ⊢;simp[-length_flatMap,-map_take,hC,hW,hS]
theorem QZ(l:List (Int×Int)):(l.flatMap vg).length=l.length*2:=bK (f:=vg) (w:=2) (λ_=>rfl) l
theorem wU(l:List Int):(l.flatMap aM).length=l.length:=by have:=bK (f:=aM) (w:=1) (λ_=>rfl) l;omega
def JL(L:Nat)(nm:List UInt8)(k lo hi:Int)(ps:List (Int×Int)):List aA.aO :=
 [.cells 0 [.str nm,.int .i64 k,.sl L 1 ps.length 0 ps.length 1,.sl L 2 ps.length 0 ps.length 1,.int .i64 lo,.int .i64 hi],.cells ps.length ((ps.map (·.1)).flatMap aM),.cells ps.length ((ps.map (·.2)).flatMap aM)]
theorem K5{ps:List (Int×Int)}(hps:ps.length<=1000000){X Y:D}(hx:X.calm=X)(hy:Y.calm=Y){nm:List UInt8}{k lo hi:Int}:∀(m j:Nat),j+m=ps.length ->
  WL T [2,3,6,30,31,32] false eT [(2,X),(3,Y),(6,.ref J.length 0 0 0),(30,.aJ (ps.length*2) (ps.flatMap vg)),(31,.int .i64 (ps.length*2)),(32,.int .i64 (j*2))] (JL J.length nm k lo hi (ps.take j)::J)
   (λx e J'=>x=.exit 0/\get e 2=X/\get e 3=Y/\get e 6=.ref J.length 0 0 0/\get e 1000006=.undef/\J'=JL J.length nm k lo hi ps::J)
 |0,j,h=>by
  refine aH eT.eq_1 ?_;have h1:¬j<ps.length:=by omega
  have h2:ps.take j=ps:=af (by omega);simp[-length_flatMap,-map_take,h1,hx,hy,h2]
 |m+1,j,h=>by
  refine aH eT.eq_1 ?_;have h1:j<ps.length:=by omega
  have h2:(j:Int)*2<(ps.length:Int)*2:=by omega
  have h3:(j:Int)*2+1<(ps.length:Int)*2:=by omega
  have h0:0<=(j:Int)*2:=by omega
  have h0':0<=(j:Int)*2+1:=by omega
  obtain⟨p,hp⟩:=gE h1;have hd:=zY (f:=vg) (w:=2) (λ_=>rfl) hp;have hd2:(ps.flatMap vg).drop (j*2+1)=.int .i64 p.2::(ps.flatMap vg).drop (j*2+2):=by
   have:=congrArg (List.drop 1) hd;simpa[vg,fD]using this
  have hd1:(ps.flatMap vg).drop (j*2)=.int .i64 p.1::.int .i64 p.2::(ps.flatMap vg).drop (j*2+2):=by simpa[vg]using hd
  have t1:((j:Int)*2).toNat=j*2:=by omega
  have t2:((j:Int)*2+1).toNat=j*2+1:=by omega
  have w1:IntKind.i64.wrap ((j:Int)*2+1)=j*2+1:=eQ;have w2:IntKind.i64.wrap ((j:Int)*2+1+1)=j*2+1+1:=eQ;have m1:((j:Int)*2).tmod 2=0:=by rw[Int.tmod_eq_emod_of_nonneg (by omega)];omega
  have m2:((j:Int)*2+1).tmod 2=1:=by rw[Int.tmod_eq_emod_of_nonneg (by omega)];omega
  have hl:(ps.take j).length=j:=by simp;omega
  have hr:(j+1)*8<=room:=by unfold room;omega
  have ha:=wU ((ps.take j).map (·.1));have hb:=wU ((ps.take j).map (·.2));simp only[cV,hl]at ha hb;have ta:(((ps.take j).map (·.1)).flatMap aM).take j=((ps.take j).map (·.1)).flatMap aM:=af (by omega);have tb:(((ps.take j).map (·.2)).flatMap aM).take j=((ps.take j).map (·.2)).flatMap aM:=af (by omega);have ih:=K5 hps hx hy (nm:=nm) (k:=k) (lo:=lo) (hi:=hi) m (j+1) (by omega);have htk:ps.take (j+1)=ps.take j++[p]:=by rw[List.take_add_one,hp];rfl
  rw[htk]at ih;have hj1:((j+1:Nat):Int)*2=(j:Int)*2+1+1:=by omega
  rw[hj1]at ih;simp[-length_flatMap,-map_take,hx,hy,JL,hl,h0,h0',h1,h2,h3,t1,t2,hd1,hd2,w1,w2,m1,m2,hr,ha,hb,ta,tb];refine aH eT.eq_1 ?_;simp[-length_flatMap,-map_take,hx,hy,JL,hl,h0,h0',h1,h2,h3,t1,t2,hd1,hd2,w1,w2,m1,m2,hr,ha,hb,ta,tb];refine WL.to ih (by simp) (by simp[JL,hl]) λx e J' hh=>by simpa[JL]using hh
theorem ZN{A F:List aA.aO}{b:Bk}{er:List Int}{m:bE}{x:mm}(hf:b.bz.f.valid=true)(hm:b.bz.f.model m=0)(hx:b.bz.f.measure x=0)(hn:m.name.length<=1000000000)(hl:m.aU.length<=1000000000)(hn2:x.name.length<=1000000000)(hl2:x.bl.length<=1000000000):
  lim T (.call false 138 [.agg [.str m.name,.aJ m.aU.length (m.aU.flatMap aM)],.bq [.ref J.length 6 0 0],.bq x.enc] ([]::A::F::b.bB J.length er::J))=some (.val (.int .i64 (AJ b.bz.f m x)) ([]::A::F::b.bB J.length er::J)):=by
 refine aw Ce mC.eq_1 rfl ?_;have hS:=λJ=>ZA (J:=J) hf hm hx hn hl hn2 hl2
 simp only[mm.enc]at hS ⊢;simp[-length_flatMap,-map_take,Bk.bB,Bk.cells,hS]
theorem T2{x:mm}:D.bj x.enc=true:=by simp[mm.enc,bh]
theorem Qz{S:SK}{L:Nat}(hS:S.length=L)(hL:0<L){nm:List UInt8}{k lo hi:Int}{ps:List (Int×Int)}:
  mh L 0 0 (JL L nm k lo hi ps::S)=(.bq (jH nm k lo hi ps).enc,[.dead,.dead,.dead]::S):=by
 have hne:S≠[]:=by intro h;subst h;simp at hS;omega
 have h1:=DL (f:=aM) (w:=1) (λ_=>rfl) (λ_=>by simp[D.clean]) (l:=ps.map (·.1)) (j:=1) (v:=ps.length) (bs:=[.dead,.cells ps.length ((ps.map (·.1)).flatMap aM),.cells ps.length ((ps.map (·.2)).flatMap aM)]) (J:=S) hne (by simp);have h2:=DL (f:=aM) (w:=1) (λ_=>rfl) (λ_=>by simp[D.clean]) (l:=ps.map (·.2)) (j:=2) (v:=ps.length) (bs:=[.dead,.dead,.cells ps.length ((ps.map (·.2)).flatMap aM)]) (J:=S) hne (by simp);rw[hS]at h1 h2;simp only[cV,List.set_cons_succ,List.set_cons_zero]at h1 h2;simp[mh,JL,hS,h1,h2,jH]
def DI(b:Bk)(x:mm):Bk×Int:=if b.aj=[]then(b,8)else if rL b.bz.f x=0 then(gp b x.lo x.hi λm=>AJ b.bz.f m x,0)else(b,rL b.bz.f x)
theorem ZO{F:List aA.aO}{b:Bk}{er:List Int}{nm:List UInt8}{k lo hi:Int}{ps:List (Int×Int)}{b':Bk}{e:Int}(hps:ps.length<=1000000)(hnm:nm.length<=1000000000)(hw:b.kN.length=b.aj.length)(hml:b.aj.length<=40)(hms:∀e∈b.aj,b.bz.f.model e.m=0/\e.m.name.length<=1000000000/\e.m.aU.length<=1000000000)(hd:DI b (jH nm k lo hi ps)=(b',e))(he:e=0):
  lim T (.call false 100 [.ref J.length 6 0 0,.str nm,.aJ (ps.length*2+3) (.int .i64 k::.int .i64 lo::.int .i64 hi::ps.flatMap vg)] (F::b.bB J.length er::J))=some (.val (.db []) (F::b'.bB J.length er::J)):=by
 refine dN yc kR.eq_1 rfl (by simp) ?_;unfold DI at hd;split at hd
 case isTrue=>cases hd;cases he
 rename_i hne;split at hd
 case isFalse=>cases hd;rename_i h;exact absurd he h
 rename_i hck;cases hd;have q0:(0:Int)<(ps.length:Int)*2+3:=by omega
 have q1:(1:Int)<(ps.length:Int)*2+3:=by omega
 have q2:(2:Int)<(ps.length:Int)*2+3:=by omega
 have q3:(3:Int)<=(ps.length:Int)*2+3:=by omega
 have c1:0<b.aj.length:=aN.2 hne;have hC:=λJ=>Gw (J:=J) (f:=b.bz.f) (x:=jH nm k lo hi ps) hnm (by simp[jH];omega)
 simp only[hck]at hC;have hv:b.bz.f.valid=true/\b.bz.f.measure (jH nm k lo hi ps)=0:=by
  unfold rL at hck;split at hck
  .rename_i h;exact⟨h,hck⟩
  .cases hck
 have hlp:=QZ ps;have htp:(ps.flatMap vg).take (ps.length*2)=ps.flatMap vg:=af (by omega);have hL:=K5 (J:=F::b.bB J.length er::J) hps (X:=.aJ (ps.length*2+3) (.int .i64 k::.int .i64 lo::.int .i64 hi::ps.flatMap vg)) (Y:=.bq [.ref J.length 6 0 0]) rfl rfl (nm:=nm) (k:=k) (lo:=lo) (hi:=hi) ps.length 0 (by omega);simp[-length_flatMap,-map_take,Bk.bB,Bk.cells,c1,cr,q0,q1,q2,q3];refine WL.to hL (by simp[htp]) (by simp[JL,Bk.bB,Bk.cells]) ?_;rintro x e J' ⟨rfl,g2,g3,g6,gu,rfl⟩;have hf:=λS hS=>Qz (S:=S) (L:=J.length+1+1) hS (by omega) (nm:=nm) (k:=k) (lo:=lo) (hi:=hi) (ps:=ps)
 have hst:=MD (J:=J) (A:=[.dead,.dead,.dead]) (F:=F) (b:=b) (er:=er) (lo:=lo) (hi:=hi) (val:=λm=>AJ b.bz.f m (jH nm k lo hi ps)) (fv:=.fn 138 [] [.bq [.ref J.length 6 0 0],.bq (jH nm k lo hi ps).enc]) rfl rfl hw hml (by
  intro i e he _;obtain⟨k1,k2,k3⟩:=hms e he;have h:=ZN (J:=J) (A:=[.dead,.dead,.dead]) (F:=F) (er:=er) (b:=b.jd lo hi (λm=>AJ b.bz.f m (jH nm k lo hi ps)) i) (m:=e.m) (x:=jH nm k lo hi ps) hv.1 k1 hv.2 k2 k3 hnm (by simp[jH];omega);rw[td];have h':lim T (.call false 138 ([]++[.agg [.str e.m.name,.aJ e.m.aU.length (e.m.aU.flatMap aM)]]++[.bq [.ref J.length 6 0 0],.bq (jH nm k lo hi ps).enc]) ([]::[.dead,.dead,.dead]::F::(b.jd lo hi (λm=>AJ b.bz.f m (jH nm k lo hi ps)) i).bB J.length er::J))=_:=h;rw[h'];rfl)
 have hcl:=T2 (x:=jH nm k lo hi ps);have e1:(jH nm k lo hi ps).lo=lo:=aG rfl;have e2:(jH nm k lo hi ps).hi=hi:=aG rfl;simp only[Bk.bB,Bk.cells,mm.enc,e1,e2]at hst hC hf hcl;simp[-length_flatMap,-map_take,g2,g3,g6,gu,hf,hC,oQ,hst,q1,q2,Bk.bB,Bk.cells,hcl,bh,e1,e2]
theorem Wj{F:List aA.aO}{b:Bk}{er:List Int}{nm:List UInt8}{k lo hi:Int}{ps:List (Int×Int)}{b':Bk}{e:Int}(hps:ps.length<=1000000)(hnm:nm.length<=1000000000)(hd:DI b (jH nm k lo hi ps)=(b',e))(he:e≠0):
  lim T (.call false 100 [.ref J.length 6 0 0,.str nm,.aJ (ps.length*2+3) (.int .i64 k::.int .i64 lo::.int .i64 hi::ps.flatMap vg)] (F::b.bB J.length er::J))=some (.fp (rf e) (F::b.bB J.length er::J)):=by
 refine dM yc kR.eq_1 rfl ?_;unfold DI at hd;split at hd
 case isTrue hne =>
  cases hd;simp[-length_flatMap,-map_take,Bk.bB,Bk.cells,hne,dq,D.clean,rf]
 rename_i hne;split at hd
 case isTrue=>cases hd;exact absurd rfl he
 rename_i hck;cases hd;have q0:(0:Int)<(ps.length:Int)*2+3:=by omega
 have q1:(1:Int)<(ps.length:Int)*2+3:=by omega
 have q2:(2:Int)<(ps.length:Int)*2+3:=by omega
 have q3:(3:Int)<=(ps.length:Int)*2+3:=by omega
 have c1:0<b.aj.length:=aN.2 hne;have hC:=λJ=>Gw (J:=J) (f:=b.bz.f) (x:=jH nm k lo hi ps) hnm (by simp[jH];omega)
 have hM:=λJ=>qX (J:=J) hck
 generalize rL b.bz.f (jH nm k lo hi ps)=err at hC hM hck he ⊢;have hrc:(D.va 116 (.agg [.int .i64 err])).clean=true:=rfl;have hlp:=QZ ps;have htp:(ps.flatMap vg).take (ps.length*2)=ps.flatMap vg:=af (by omega);have hL:=K5 (J:=F::b.bB J.length er::J) hps (X:=.aJ (ps.length*2+3) (.int .i64 k::.int .i64 lo::.int .i64 hi::ps.flatMap vg)) (Y:=.bq [.ref J.length 6 0 0]) rfl rfl (nm:=nm) (k:=k) (lo:=lo) (hi:=hi) ps.length 0 (by omega);simp[-length_flatMap,-map_take,Bk.bB,Bk.cells,c1,cr,q0,q1,q2,q3];refine WL.to hL (by simp[htp]) (by simp[JL,Bk.bB,Bk.cells]) ?_;rintro x e J' ⟨rfl,g2,g3,g6,gu,rfl⟩;have hf:=λS hS=>Qz (S:=S) (L:=J.length+1+1) hS (by omega) (nm:=nm) (k:=k) (lo:=lo) (hi:=hi) (ps:=ps)
 have hcl:=T2 (x:=jH nm k lo hi ps);simp only[Bk.bB,Bk.cells,mm.enc]at hC hf hcl;simp[-length_flatMap,-map_take,g2,g3,g6,gu,hf,hC,hM,q1,q2,Bk.bB,Bk.cells,hcl,bh,rf,hrc]
end Go.Proofs.YtanhdobabijmoaaGreatDoor
namespace Go.dk
open List(length_flatMap map_take)
open Go Go.aA Go.aI
def cm(l:List fK):List fK:=l.filter (·.left)
end Go.dk
namespace Go.Proofs.YtanhdobabijmoaaGreatDoor
open List(length_flatMap map_take)
section
open Go Go.aA Go.aI Go.dk
variable {J:SK}
theorem Wh{e:fK}:lim T (.call false 187 [.agg e.enc] J)=some (.val (.bool e.left) J):=by
 refine aw BY lK.eq_1 rfl ?_;simp[-length_flatMap,-map_take]
theorem HN{l:List fK}{lv bi v:Nat}{G:List aA.aO}(hG:G[bi]?=some (.cells v (l.flatMap fK.enc)))(hs:fw J lv=some G)(hl:l.length<=1000000):∀(m i:Nat) (acc:List fK),i+m=l.length->acc.length<=i ->
  WL T [1,4,7,8,9] false cS [(1,.fn 187 [] []),(4,.sl J.length 0 acc.length 0 acc.length 4),(7,.sl lv bi v 0 l.length 4),(8,.int .i64 l.length),(9,.int .i64 i)] ([.cells acc.length (acc.flatMap fK.enc)]::J)
   (λx e J'=>x=.exit 0/\get e 4=.sl J.length 0 (acc++cm (l.drop i)).length 0 (acc++cm (l.drop i)).length 4/\J'=[.cells (acc++cm (l.drop i)).length ((acc++cm (l.drop i)).flatMap fK.enc)]::J)
 |0,i,acc,hi,ha=>by
  refine aH cS.eq_1 ?_;have h1:¬i<l.length:=by omega
  have h2:l.drop i=[]:=aE (by omega);simp[-length_flatMap,-map_take,h1,h2,cm]
 |m+1,i,acc,hi,ha=>by
  refine aH cS.eq_1 ?_;have h1:i<l.length:=by omega
  obtain⟨e,he⟩:=gE h1;have hfl:=bX (f:=fK.enc) (w:=4) (λ_=>rfl) he;have hd:=drop_at he;have h4:=dJ h1;have hlen:=EY l;have q:4<=l.length*4-i*4:=by omega
  have hlt:=z8 hs;have hlv:¬J.length=lv:=by omega
  have hC:=λJ=>Wh (J:=J) (e:=e)
  simp only[fK.enc]at hC;cases hc:e.left with
  |false =>
   rw[hc]at hC;have ih:=HN hG hs hl m (i+1) acc (by omega) (by omega);simp[-length_flatMap,-map_take,h1,hs,hG,hlv,hfl,hlen,q,h4,hC,hc];exact WL.to ih (by simp) rfl λx e' J' hh=>by rw[hd];simpa[cm,hc]using hh
  |true =>
   rw[hc]at hC;have ih:=HN hG hs hl m (i+1) (acc++[e]) (by omega) (by simp;omega);have hr:(acc.length+1)*56<=room:=by unfold room;omega
   have hal:=EY acc;have hat:(acc.flatMap fK.enc).take (acc.length*4)=acc.flatMap fK.enc:=af (by omega);simp[-length_flatMap,-map_take,h1,hs,hG,hlv,hfl,hlen,q,h4,hC,hc,hr,hal,hat];exact WL.to ih (by simp) (by simp[hc]) λx e' J' hh=>by rw[hd];simpa[cm,hc]using hh
theorem S8{l:List fK}{lv bi v:Nat}{G:List aA.aO}(hG:G[bi]?=some (.cells v (l.flatMap fK.enc)))(hs:fw J lv=some G)(hl:l.length<=1000000)(hJ:J≠[]):
  lim T (.call false 186 [.sl lv bi v 0 l.length 4,.fn 187 [] []] J)=some (.val (.aJ (cm l).length ((cm l).flatMap fK.enc)) J):=by
 refine aw vB eU.eq_1 rfl ?_;have h:=HN (J:=J) hG hs hl l.length 0 [] (by omega) (by simp);simp only[List.nil_append]at h;simp[-length_flatMap,-map_take];refine WL.to h (by simp) (by simp) ?_;rintro x e J' ⟨rfl,g4,rfl⟩;have hk:=Go.aA.wV (f:=fK.enc) (w:=4) (λ_=>rfl) (λ_=>by simp[D.clean,bh]) (l:=cm l) (j:=0) (v:=(cm l).length) (bs:=[.cells (cm l).length ((cm l).flatMap fK.enc)]) (J:=J) hJ (by simp);rw[aP]at g4 ⊢;simp[-length_flatMap,-map_take,g4,hk]
theorem FH{b:Bk}{er:List Int}{S:SK}(hl:b.aj.length<=1000000)(hs:fw S J.length=some (b.bB J.length er)):
  lim T (.call false 142 [.ref J.length 6 0 0] S)=some (.val (.aJ (cm b.aj).length ((cm b.aj).flatMap fK.enc)) S):=by
 refine aw Dm nJ.eq_1 rfl ?_;have hlt:=z8 hs;have hne:¬S.length=J.length:=by omega
 have h:=S8 (J:=[]::S) (l:=b.aj) (lv:=J.length) (bi:=0) (v:=b.aj.length) (G:=b.bB J.length er) (by simp[Bk.bB]) (by simp[fw,hne,hs]) hl (by simp);have hcl:D.bj ((cm b.aj).flatMap fK.enc)=true:=cT (λ_=>by simp[D.clean,bh]) _;have hc6:(b.bB J.length er)[6]?=some (.cells 0 (b.cells J.length)):=by simp[Bk.bB]
 simp[-length_flatMap,-map_take,hne,hs,hc6,Bk.cells,h,hcl]
end
section
open Go Go.aA Go.bW
variable {J:SK}
theorem YN{lv:Nat}{G:List aA.aO}(hsg:fw J lv=some G){R:List dP}{l:List Ev}{now may sure:Int}{j:Nat}{r:dP}(hG1:G[1]?=some (.cells R.length (R.flatMap dP.enc)))(hG2:G[2]?=some (.cells l.length (l.flatMap Ev.enc)))(hl:l.length<=200)(hs:∀e∈l,e.sp.length<=2000)(hr:r.ok=true)(hn:cj now 0 1000000=true):∀(m i:Nat) (a b:Nat),i+m=l.length->a+m<=200->b+m<=200 ->
  WL T [1,2,6,7,10,11,12,13,36,37,38,44,45,46] false iW [(1,.sl lv 2 l.length 0 l.length 2),(2,.int .i64 now),(6,.int .u8 may),(7,.int .u8 sure),(10,.own 0 r.enc),(11,.int .i64 a),(12,.int .i64 b),(13,.fn 179 [.agg r.enc] []),
    (36,.sl lv 1 R.length 0 R.length 10),(37,.int .i64 R.length),(38,.int .i64 j),(44,.sl lv 2 l.length 0 l.length 2),(45,.int .i64 l.length),(46,.int .i64 i)] J
   (λx e J'=>x=.exit 3/\J'=J/\get e 1=.sl lv 2 l.length 0 l.length 2/\get e 2=.int .i64 now/\get e 6=.int .u8 may/\get e 7=.int .u8 sure/\get e 10=.own 0 r.enc/\get e 11=.int .i64 (a+Hb (AD r now) (l.drop i):Nat)/\get e 12=.int .i64 (b+Hb (uE r now) (l.drop i):Nat) /\
    get e 36=.sl lv 1 R.length 0 R.length 10/\get e 37=.int .i64 R.length/\get e 38=.int .i64 j)
 |0,i,a,b,hi,ha,hb=>by
  refine aH iW.eq_1 ?_;have h1:¬i<l.length:=by omega
  have h2:l.drop i=[]:=by simp;omega
  simp[-length_flatMap,-map_take,h1,h2,Hb]
 |m+1,i,a,b,hi,ha,hb=>by
  refine aH iW.eq_1 ?_;have g1:i<l.length:=by omega
  obtain⟨e,he⟩:=gE g1;have a1:=bX (f:=Ev.enc) (w:=2) (λ_=>rfl) he;have al:(l.flatMap Ev.enc).length=l.length*2:=bK (f:=Ev.enc) (w:=2) (λ_=>rfl) l;have aq:2<=l.length*2-i*2:=by omega
  have w1:=dJ g1;have hr':=I4.1 hr;have hn':=bk.1 hn;have hse:=hs e (ai he);have w2:=eQ (n:=now-r.AF);have w3:=eQ (n:=(a:Int)+1);have w4:=eQ (n:=(b:Int)+1);have hC:∀J,lim T (.call false 180 [.aJ e.sp.length (e.sp.flatMap xC.enc),.fn 179 [.agg r.enc] []] J)=some (.val (.bool (tV e.sp r.RN)) J):=λJ =>
   contains_of O0 lY oi (by omega) (.fn λs _ J=>Mr)
  have hA:=λJ=>@JW J e.sp r.RN (.fn 179 [.agg r.enc] []) (.fn λs _ J=>Mr) rfl (by omega)
  simp only[dP.enc]at hC hA;have d1:Hb (AD r now) (l.drop i)=Hb (AD r now) (l.drop (i+1))+(if AD r now e then 1 else 0):=by rw[drop_at he];rfl
  have d2:Hb (uE r now) (l.drop i)=Hb (uE r now) (l.drop (i+1))+(if uE r now e then 1 else 0):=by rw[drop_at he];rfl
  have ih:=λa b=>YN hsg hG1 hG2 (R:=R) (may:=may) (sure:=sure) (j:=j) hl hs hr hn m (i+1) a b (by omega)
  rw[d1,d2];by_cases c1:now<e.tick
  .have e1:AD r now e=false:=by simp[AD,dP.act];omega
   have e2:uE r now e=false:=by simp[uE,dP.act];omega
   simp[-length_flatMap,-map_take,g1,a1,al,aq,hsg,hG1,hG2,w1,c1,e1,e2];exact WL.to (ih a b (by omega) (by omega)) (by simp) rfl λx e J' hh=>by simpa[e1,e2]using hh
  by_cases c2:e.tick<=now-r.AF
  .have e1:AD r now e=false:=by simp[AD,dP.act];omega
   have e2:uE r now e=false:=by simp[uE,dP.act];omega
   simp[-length_flatMap,-map_take,g1,a1,al,aq,hsg,hG1,hG2,w1,w2,c1,c2,e1,e2];exact WL.to (ih a b (by omega) (by omega)) (by simp) rfl λx e J' hh=>by simpa[e1,e2]using hh
  have act:r.act now e=true:=by simp[dP.act];omega
  have e1:AD r now e=tV e.sp r.RN:=by simp[AD,act]
  have e2:uE r now e=fL e.sp r.RN:=by simp[uE,act]
  rw[e1,e2];have k1:∀u v:Nat,u+1+v=u+(v+1):=by intro u v;omega
  cases c3:tV e.sp r.RN<;>cases c4:fL e.sp r.RN<;>simp only[c3,c4]at hC hA
  .simp[-length_flatMap,-map_take,g1,a1,al,aq,hsg,hG1,hG2,w1,w2,c1,c2,hC,hA];exact WL.to (ih a b (by omega) (by omega)) (by simp) rfl λx e J' hh=>by simpa[c3,c4]using hh
  .simp[-length_flatMap,-map_take,g1,a1,al,aq,hsg,hG1,hG2,w1,w2,w4,c1,c2,hC,hA];exact WL.to (ih a (b+1) (by omega) (by omega)) (by simp) rfl λx e J' hh=>by simp only[k1]at hh;simpa[c3,c4]using hh
  .simp[-length_flatMap,-map_take,g1,a1,al,aq,hsg,hG1,hG2,w1,w2,w3,c1,c2,hC,hA];exact WL.to (ih (a+1) b (by omega) (by omega)) (by simp) rfl λx e J' hh=>by simp only[k1]at hh;simpa[c3,c4]using hh
  .simp[-length_flatMap,-map_take,g1,a1,al,aq,hsg,hG1,hG2,w1,w2,w3,w4,c1,c2,hC,hA];exact WL.to (ih (a+1) (b+1) (by omega) (by omega)) (by simp) rfl λx e J' hh=>by simp only[k1]at hh;simpa[c3,c4]using hh
theorem Qa{lv:Nat}{G:List aA.aO}(hsg:fw J lv=some G){R:List dP}{l:List Ev}{now:Int}(hR:R.length<=20)(hG1:G[1]?=some (.cells R.length (R.flatMap dP.enc)))(hG2:G[2]?=some (.cells l.length (l.flatMap Ev.enc)))(hl:l.length<=200)(hs:∀e∈l,e.sp.length<=2000)(hr:∀r∈R,r.ok=true)(hn:cj now 0 1000000=true):∀(m j:Nat) (may sure:Int),j+m=R.length ->
  WL T [1,2,6,7,36,37,38] false eJ [(1,.sl lv 2 l.length 0 l.length 2),(2,.int .i64 now),(6,.int .u8 may),(7,.int .u8 sure),(36,.sl lv 1 R.length 0 R.length 10),(37,.int .i64 R.length),(38,.int .i64 j)] J
   (λx e J'=>x=.exit 1/\J'=J/\get e 6=.int .u8 (z6 (λr=>AD r now) l (R.drop j) may)/\get e 7=.int .u8 (z6 (λr=>uE r now) l (R.drop j) sure))
 |0,j,may,sure,hj=>by
  refine aH eJ.eq_1 ?_;have h1:¬j<R.length:=by omega
  have h2:R.drop j=[]:=by simp;omega
  simp[-length_flatMap,-map_take,h1,h2,z6]
 |m+1,j,may,sure,hj=>by
  refine aH eJ.eq_1 ?_;have g1:j<R.length:=by omega
  obtain⟨r,hrj⟩:=gE g1;have a1:=bX (f:=dP.enc) (w:=10) (λ_=>rfl) hrj;have al:(R.flatMap dP.enc).length=R.length*10:=bK (f:=dP.enc) (w:=10) (λ_=>rfl) R;have aq:10<=R.length*10-j*10:=by omega
  have w1:=dJ g1;have hrr:=hr r (ai hrj);have ih:=λmay sure=>Qa hsg hR hG1 hG2 hl hs hr hn m (j+1) may sure (by omega)
  rw[drop_at hrj];simp[-length_flatMap,-map_take,g1,a1,al,aq,hsg,hG1,hG2];refine WL.to (YN hsg hG1 hG2 (J:=J) (R:=R) (l:=l) (now:=now) (may:=may) (sure:=sure) (j:=j) hl hs hrr hn l.length 0 0 0 (by omega) (by omega) (by omega)) (by simp) rfl ?_;rintro x e J' ⟨rfl,rfl,e1,e2,e6,e7,e10,e11,e12,e36,e37,e38⟩;simp only[aP,cJ]at e11 e12;simp only[z6];by_cases c1:r.count<=Hb (AD r now) l
  .by_cases c2:r.count<=Hb (uE r now) l
   .simp[-length_flatMap,-map_take,e1,e2,e6,e7,e10,e11,e12,e36,e37,e38,c1,c2,w1];exact WL.to (ih (max may r.RO) (max sure r.RO)) (by simp) rfl λx e J' hh=>by simpa[c1,c2]using hh
   .simp[-length_flatMap,-map_take,e1,e2,e6,e7,e10,e11,e12,e36,e37,e38,c1,c2,w1];exact WL.to (ih (max may r.RO) sure) (by simp) rfl λx e J' hh=>by simpa[c1,c2]using hh
  .by_cases c2:r.count<=Hb (uE r now) l
   .simp[-length_flatMap,-map_take,e1,e2,e6,e7,e10,e11,e12,e36,e37,e38,c1,c2,w1];exact WL.to (ih may (max sure r.RO)) (by simp) rfl λx e J' hh=>by simpa[c1,c2]using hh
   .simp[-length_flatMap,-map_take,e1,e2,e6,e7,e10,e11,e12,e36,e37,e38,c1,c2,w1];exact WL.to (ih may sure) (by simp) rfl λx e J' hh=>by simpa[c1,c2]using hh
theorem S0{lv:Nat}{G:List aA.aO}{R:List dP}{l:List Ev}{now:Int}(hsg:fw J lv=some G)(hG1:G[1]?=some (.cells R.length (R.flatMap dP.enc)))(hG2:G[2]?=some (.cells l.length (l.flatMap Ev.enc)))(hR:R.length<=9223372036854775807)(hl:l.length<=9223372036854775807)(hs:∀e∈l,e.sp.length<=9223372036854775807):
  lim T (.call false 140 [.sl lv 1 R.length 0 R.length 10,.sl lv 2 l.length 0 l.length 2,.int .i64 now] J) =
   some (.val (if qh R l now=0 then .db [.int .u8 (UF R l now),.int .u8 (VG R l now),.int .i64 0]else .db [.int .u8 0,.int .u8 0,.int .i64 (qh R l now)]) J):=by
 refine aw yf ow.eq_1 rfl ?_;have hlt:=z8 hsg;have hne:¬J.length=lv:=by omega
 have hsg':fw ([]::J) lv=some G:=by simp[fw,hne,hsg]
 have hAR:=Ie (T:=T) (enc:=dP.enc) (w:=10) (λ_=>rfl) (F:=G) (bi:=1) (v:=R.length) (l:=R) (p:=dP.ok) (fv:=.fn 175 [] []) (f:=174) (g:=223) (h:=222) (i:=255) rfl rfl rfl rfl hG1 hR (.fn λr _ J=>MC) rfl (J:=[]::J) hsg';have hAE:=Ie (T:=T) (enc:=Ev.enc) (w:=2) (λ_=>rfl) (F:=G) (bi:=2) (v:=l.length) (l:=l) (p:=Ev.ok) (fv:=.fn 177 [] []) (f:=176) (g:=226) (h:=225) (i:=256) rfl rfl rfl rfl hG2 hl (.fn λr hr J=>Ms (hs r hr)) rfl (J:=[]::J) hsg';by_cases c1:20<R.length
 .have c1':(20:Int)<R.length:=by omega
  simp[-length_flatMap,-map_take,qh,c1,c1']
 have c1':¬(20:Int)<R.length:=by omega
 cases c2:fL R dP.ok
 .simp[-length_flatMap,-map_take,qh,c1,c1',hAR,c2]
 by_cases c3:200<l.length
 .have c3':(200:Int)<l.length:=by omega
  simp[-length_flatMap,-map_take,qh,c1,c1',hAR,c2,c3,c3']
 have c3':¬(200:Int)<l.length:=by omega
 cases c4:fL l Ev.ok
 .simp[-length_flatMap,-map_take,qh,c1,c1',hAR,c2,c3,c3',hAE,c4]
 cases c5:cj now 0 1000000
 .simp[-length_flatMap,-map_take,qh,c1,c1',hAR,c2,c3,c3',hAE,c4,fC,c5]
 have he:qh R l now=0:=by simp[qh,c1,c2,c3,c4,c5]
 rw[if_pos he];simp[-length_flatMap,-map_take,c1',hAR,c2,c3',hAE,c4,fC,c5];refine WL.to (Qa (J:=[]::J) (lv:=lv) (G:=G) hsg' (R:=R) (l:=l) (now:=now) (by omega) hG1 hG2 (by omega) ?_ (jq.1 c2) c5 R.length 0 0 0 (by omega)) (by simp) rfl ?_
 .intro e he;have:=jq.1 c4 e he;simp only[Ev.ok,ae,bk]at this;omega
 .rintro x e J' ⟨rfl,rfl,e6,e7⟩;simp[-length_flatMap,-map_take,e6,e7,UF,VG]
end
end Go.Proofs.YtanhdobabijmoaaGreatDoor
namespace Go.dk
open List(length_flatMap map_take)
open Go Go.aA Go.aI
def xF(b:Bk):Int:=if bW.qh b.rules b.Al b.aD.length=0 then bW.UF b.rules b.Al b.aD.length else 0
def Eh(b:Bk):Int:=if xF b=0 then b.k0 else if xF b=1 then b.k1 else b.k2
def ud(keep n:Int):Int:=if n<0 then -((-n*keep).tdiv 1000)else n
theorem NM{f:bW.dP->bW.Ev->Bool}{l:List bW.Ev}:∀{R:List bW.dP} {a:Int},(∀r∈R,r.ok=true)->0<=a/\a<=2->0<=bW.z6 f l R a/\bW.z6 f l R a<=2
 |[],a,_,h=>h
 |r::R,a,hr,h=>by
  have h1:=(bW.I4.1 (hr r (by simp))).2.2.2.2;simp only[bW.z6];refine NM (λr' h'=>hr r' (by simp[h'])) ?_;split
  .rcases h1 with h1 | h1<;>omega
  .exact h
theorem Kg{b:Bk}:0<=xF b/\xF b<=2:=by
 unfold xF;split
 .rename_i h;refine NM (λr hr=>?_) (by omega);unfold bW.qh at h;split at h
  .omega
  .split at h
   .omega
   .rename_i h2;exact jq.1 (by simpa using h2) r hr
 .omega
end Go.dk
namespace Go.Proofs.YtanhdobabijmoaaGreatDoor
open List(length_flatMap map_take)
open Go Go.aA Go.aI Go.dk
variable {J:SK}
theorem Mq{b:Bk}{er:List Int}{S:SK}(h1:b.rules.length<=1000000)(h2:b.Al.length<=1000000)(h3:∀e∈b.Al,e.sp.length<=1000000)(hs:fw S J.length=some (b.bB J.length er)):
  lim T (.call false 143 [.ref J.length 6 0 0] S)=some (.val (.int .u8 (xF b)) S):=by
 refine aw BX lJ.eq_1 rfl ?_;have hlt:=z8 hs;have hne:¬S.length=J.length:=by omega
 have h:=S0 (J:=[]::S) (lv:=J.length) (G:=b.bB J.length er) (R:=b.rules) (l:=b.Al) (now:=b.aD.length) (by simp[fw,hne,hs]) (by simp[Bk.bB]) (by simp[Bk.bB]) (by omega) (by omega) (λe he=>by have:=h3 e he;omega);have hc6:(b.bB J.length er)[6]?=some (.cells 0 (b.cells J.length)):=by simp[Bk.bB]
 unfold xF;by_cases hc:bW.qh b.rules b.Al b.aD.length=0
 .rw[if_pos hc]at h;simp[-length_flatMap,-map_take,hne,hs,hc6,Bk.cells,h,hc]
 .rw[if_neg hc]at h;simp[-length_flatMap,-map_take,hne,hs,hc6,Bk.cells,h,hc]
def Bw(J:SK)(bp X:D)(keep:Int)(acc rest:List Int)(x:aA.Exit)(e:Env)(J':SK):Prop :=
 if fL rest (λn=>cj n (-100000) 100000)=true then
  x=.exit 0/\get e 0=bp/\get e 6=X/\get e 8=.sl J.length 0 (acc++rest.map (ud keep)).length 0 (acc++rest.map (ud keep)).length 1/\J'=[.cells (acc++rest.map (ud keep)).length ((acc++rest.map (ud keep)).flatMap aM)]::J
 else x=.fp (rf 2)/\∃s,J'=s::J
theorem K8{l:List Int}{keep:Int}(hk:0<=keep/\keep<=1000)(hl:l.length<=1000000){bp X:D}(hb:bp.calm=bp)(hx:X.calm=X):∀(m i:Nat) (acc:List Int),i+m=l.length->acc.length=i ->
  WL T [0,6,7,8,49,50,51] false ga [(0,bp),(6,X),(7,.int .i64 keep),(8,.sl J.length 0 i 0 i 1),(49,.aJ l.length (l.flatMap aM)),(50,.int .i64 l.length),(51,.int .i64 i)] ([.cells i (acc.flatMap aM)]::J)
   (Bw J bp X keep acc (l.drop i))
 |0,i,acc,hi,ha=>by
  refine aH ga.eq_1 ?_;obtain rfl:i=l.length:=by omega
  have h5:l.drop l.length=[]:=aE (by omega);simp[-length_flatMap,-map_take,h5,Bw,ha,hb,hx,fL]
 |m+1,i,acc,hi,ha=>by
  refine aH ga.eq_1 ?_;have hlt:i<l.length:=by omega
  obtain⟨n,hn⟩:=gE hlt;have h4:=dJ hlt;have h5:=drop_at hn;have a1:=bX (f:=aM) (w:=1) (λ_=>rfl) hn;simp only[aM,ec]at a1;rw[h5];have hr:(i+1)*8<=room:=by unfold room;omega
  cases hc:cj n (-100000) 100000 with
  |false =>
   simp[-length_flatMap,-map_take,hlt,a1,hb,hx,eA,hc,dq,Bw,fL]
  |true =>
   have hn2:=bk.1 hc;have hcl:(acc.flatMap aM).length=i:=by simp[bK (f:=aM) (w:=1) (λ_=>rfl),ha]
   have ht:(acc.flatMap aM).take i=acc.flatMap aM:=af (by omega);have ih:=K8 hk hl hb hx m (i+1) (acc++[ud keep n]) (by omega) (by simp[ha]);have fin:∀x e J',Bw J bp X keep (acc++[ud keep n]) (l.drop (i+1)) x e J'->Bw J bp X keep acc (n::l.drop (i+1)) x e J':=λx e J' hh=>by
    simp only[Bw,fL,jh,hc,Bool.true_and,aR,c8,cf]at hh ⊢;exact hh
   by_cases hneg:n<0
   .have e0:IntKind.i64.wrap (-n) = -n:=eQ;have p1:0 <= -n*keep:=cZ (by omega) hk.1;have p2 : -n*keep<=100000*1000:=kO (by omega) hk.2 hk.1 (by omega);have e1:IntKind.i64.wrap (-n*keep) = -n*keep:=eQ;have e2:(-n*keep).tdiv 1000 = -n*keep / 1000:=bC p1;have e3:IntKind.i64.wrap (-n*keep / 1000) = -n*keep / 1000:=eQ;have e4:IntKind.i64.wrap (-(-n*keep / 1000)) = -(-n*keep / 1000):=eQ;have e5:ud keep n = -(-n*keep / 1000):=by rw[ud,if_pos hneg,e2]
    rw[e5]at ih fin;generalize hq : -n*keep=q at e1 e2 e3 e4 ih fin;simp[-length_flatMap,-map_take,hlt,a1,hb,hx,eA,hc,cr,hneg,e0,hq,e1,e2,e3,e4,hr,h4,hcl,ht];exact WL.to ih (by simp) (by simp) fin
   .have e5:ud keep n=n:=by rw[ud,if_neg hneg]
    rw[e5]at ih fin;simp[-length_flatMap,-map_take,hlt,a1,hb,hx,eA,hc,cr,hneg,hr,h4,hcl,ht];exact WL.to ih (by simp) (by simp) fin
theorem LO(l:List (List Int)):(l.flatMap pE).length=l.length:=by have:=bK (f:=pE) (w:=1) (λ_=>rfl) l;omega
theorem HE{bs:List aA.aO}:lim T (.call true 144 [.bP] (bs::J))=some (.val (.sl J.length (bs.length+1) 0 0 0 1) ((bs++[.cells 0 [],.cells 0 []])::J)):=by
 refine xE wK jy.eq_1 rfl ?_;simp[-length_flatMap,-map_take]
theorem JZ{bs:List aA.aO}{l:List (List Int)}(hne:l≠[])(hl:l.length<=1000000):lim T (.call true 144 [.aJ l.length (l.flatMap pE)] (bs::J)) =
  some (.val (.sl J.length (bs.length+1) 1 0 l.length 1) ((bs++[.cells 0 [],.cells 1 (l.flatMap pE)])::J)):=by
 refine xE wK jy.eq_1 rfl ?_;have h7:l.length*24<=room:=by unfold room;omega
 simp[-length_flatMap,-map_take,hne,LO,h7]
end Go.Proofs.YtanhdobabijmoaaGreatDoor
