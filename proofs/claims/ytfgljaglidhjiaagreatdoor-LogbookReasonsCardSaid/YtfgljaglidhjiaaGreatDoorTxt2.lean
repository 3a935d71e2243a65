import Derived.Test.YtfgljaglidhjiaaGreatDoorTxt1
import Derived.Test.YtfgljaglidhjiaaGreatDoorTxt0
import Derived.Test.YtfgljaglidhjiaaGreatDoorBase20
import Derived.Test.YtfgljaglidhjiaaGreatDoorTab
set_option linter.all false
namespace Go.Proofs.YtfgljaglidhjiaaGreatDoor
open List(length_flatMap map_take)
open Go Go.Abs Go.Rock
variable {σ:SK}
theorem GR{l i v off:Nat}:lim T (.xU fI [.ref l i v off] none σ)=some (.val (.dK []) σ):=by
 refine Bj yK pM.eq_1 rfl (by simp[-length_flatMap,-map_take,sf];exact⟨rfl,rfl⟩) ?_;simp[-length_flatMap,-map_take]
theorem Tg{F:List Abs.aE}(hF:F=[.cells 0 [.int .i64 0]]):lim T (.xU fI [.ref σ.length 0 0 0] (some (.uj 262 (.agg []))) (F::σ))=some (.val (.dK []) ([.cells 0 [.int .i64 9]]::σ)):=by
 subst hF;refine Bj yK pM.eq_1 rfl (by simp[-length_flatMap,-map_take,sf];exact⟨rfl,rfl⟩) ?_;simp[-length_flatMap,-map_take]
theorem vH{α:Type}{f:α→Int}:∀{l:List α},db f l=0→∀x∈l,f x=0
 |[],_,x,hx=>by cases hx
 |a::l,h,x,hx=>by
  simp only[db]at h;split at h
  ·rename_i ha;rcases ba.1 hx with rfl | hx
   ·exact ha
   ·exact vH h x hx
  ·rename_i ha;exact absurd h ha
theorem xB{b:cz}{az:List (List Int)}(h:wx b az=0):az.length≤200∧∀r∈az,Rv b r:=by
 unfold wx at h;split at h
 ·cases h
 ·exact⟨by omega,fun r hr=>Rv.of (vH h r hr)⟩
def ur(b:cz)(m:cI)(az:List (List Int)):Int:=if Bd b m then(if wx b az=0 then(match Rock.run b m az with | some _=>0 | none=>9)else wx b az)else 1
def zy(b:cz)(m:cI)(az:List (List Int)):D:=if ur b m az=0 then(match Rock.run b m az with | some (ss,ys) => .agg [.aI ss.length (ss.flatMap yy),.aI ys.length (ys.flatMap yy)] | none => .agg [.aG,.aG])else .agg [.aG,.aG]
theorem Sp{b:cz}{m:cI}{az:List (List Int)}{wq:D}(hwq:wq.wE=.aI b.ar.length (b.ar.flatMap bH.enc))(h1:b.cq.length≤1000000000)(h2:b.ar.length≤1000000000)(hn:m.name.length≤1000000000)(hl:m.bh.length≤1000000000)(hp:az.length≤1000000000)(hs:∀l∈az,l.length≤1000000000)(hσ:σ≠[]):
  lim T (.call false tw [.agg [.int .i64 b.f.x,.int .i64 b.f.y,.int .i64 b.f.z,.int .i64 b.f.k,.aI b.cq.length (b.cq.flatMap Rw.enc),.int .i64 b.bJ,.int .i64 b.lift,.int .i64 b.deep,wq],.agg [.str m.name,.aI m.bh.length (m.bh.flatMap aS)],.aI az.length (az.flatMap F7)] σ)=some (.val (.dK [zy b m az,.int .i64 (ur b m az)]) σ):=by
 have hP:=fun σ=>SL (σ:=σ) (b:=b) hp hs
 cases hb:Bd b m
 ·have hE:ur b m az=1:=by simp[ur,hb]
  have hD:zy b m az=.agg [.aG,.aG]:=by simp[zy,hE]
  rw[hD,hE];refine aA Ba tp.eq_1 rfl ?_;obtain⟨d,hB,hd1,hd2⟩:=NS h1 h2 hn hl hb (σ:=[.cells 0 [.int .i64 0]]::σ);simp[-length_flatMap,-map_take,hwq,hB,hd1,cK,bu,aY]
 ·have hB:=fun σ=>ahj (σ:=σ) h1 h2 hn hl hb
  by_cases hq:wx b az=0
  ·obtain⟨p1,p2⟩:=xB hq;simp only[Bd,af]at hb;have hf:Fv b m:=Fv.of (by simp[Bd,hb]);have hb':Bd b m=true:=by simp[Bd,hb]
   refine KZ Ba tp.eq_1 rfl rfl ?_;cases hrun:Rock.run b m az with
   |none =>
    have hE:ur b m az=9:=by simp[ur,hb',hq,hrun]
    have hD:zy b m az=.agg [.aG,.aG]:=by simp[zy,hE]
    have hR:=fun σ=>NV (σ:=σ) hf p1 p2 hrun
    have hX:vV T (.fn fI [] []) [.ref σ.length 0 0 0] (some (.uj 262 (.agg []))) ([.cells 0 [.int .i64 0]]::σ)=some ([.cells 0 [.int .i64 9]]::σ):=uV (Tg rfl);rw[hD,hE];simp[-length_flatMap,-map_take,Kn,AS,hwq,hB,hP,hq,hR,cK,bu,aY];rw[zg xj.eq_1];simp[-length_flatMap,-map_take,Kn,AS,hX,hR,cK,bu,aY]
   |some p =>
    obtain⟨ss,ys⟩:=p;have hE:ur b m az=0:=by simp[ur,hb',hq,hrun]
    have hD:zy b m az=.agg [.aI ss.length (ss.flatMap yy),.aI ys.length (ys.flatMap yy)]:=by simp[zy,hE,hrun]
    have hX:vV T (.fn fI [] []) [.ref σ.length 0 0 0] none ([.cells 0 [.int .i64 0]]::σ)=some ([.cells 0 [.int .i64 0]]::σ):=uV GR;have hR:=fun σ hσ=>NW (σ:=σ) hf p1 p2 hσ hrun
    rw[hD,hE];simp[-length_flatMap,-map_take,Kn,AS,hwq,hB,hP,hq,hR,cK,bu,aY];rw[zg xj.eq_1];simp[-length_flatMap,-map_take,Kn,AS,hX,hR,cK,bu,aY];rw[jx (by simp[D.clean,IE]) (by omega)];exact⟨_,rfl⟩
  ·have hE:ur b m az=wx b az:=by simp[ur,hb,hq]
   have hD:zy b m az=.agg [.aG,.aG]:=by simp[zy,hE,hq]
   rw[hD,hE];refine aA Ba tp.eq_1 rfl ?_;simp[-length_flatMap,-map_take,hwq,hB,hP,hq,cK,bu,aY]
end Go.Proofs.YtfgljaglidhjiaaGreatDoor
namespace Go.Book
open List(length_flatMap map_take)
open Go Go.Abs Go.Rock
def Dq(s:List UInt8):Option Int:=if((sh s).1=0∧BA (sh s).2=s)∧ct (sh s).2 (-999999999) 999999999=true then some (sh s).2 else none
def pJ:List (List UInt8)→Option (List Int)
 |[]=>some []
 |s::l=>match Dq s with
  |some n=>(pJ l).map (n :: ·)
  |none=>none
structure Wd where
 named:Bool
 least:Int
 step:Int
 k:Nat
def oN:List (List UInt8×Wd):=[
 ([102,105,101,108,100],⟨false,4,0,0⟩),([116,97,98,108,101],⟨false,0,5,1⟩),([98,101,100],⟨false,3,0,2⟩),([119,101,108,108],⟨false,3,0,3⟩),
 ([109,111,100,101,108],⟨true,0,1,4⟩),([108,111,103],⟨true,3,2,5⟩),([114,117,108,101],⟨false,10,0,6⟩),([107,101,101,112],⟨false,3,0,7⟩),
 ([113,117,97,107,101],⟨false,0,4,8⟩),([116,105,99,107],⟨false,0,1,9⟩),([114,101,97,100],⟨false,4,0,10⟩),([117,110,105,116],⟨false,1,2,11⟩),([115,101,108,108],⟨false,4,0,12⟩)]
def CM(s:List UInt8):List (List UInt8×Wd)→Option Wd
 |[]=>none
 |(k,w)::l=>if s=k then some w else CM s l
def xK(s:List UInt8):Option Wd:=CM s oN
theorem BX{s:List UInt8}{w:Wd}:∀{l:List (List UInt8×Wd)},CM s l=some w→(s,w)∈l
 |[],h=>by cases h
 |(k,v)::l,h=>by
  simp only[CM]at h;split at h
  ·rename_i e;cases h;subst e;simp
  ·exact List.mem_cons_of_mem _ (BX h)
theorem Ep{s:List UInt8}{w:Wd}(h:xK s=some w):0≤w.least∧w.least≤10∧0≤w.step∧w.step≤5∧w.k<13:=by
 have h1:=BX h;simp only[oN,ba,ak,List.not_mem_nil,or_false]at h1;rcases h1 with⟨_,rfl⟩ | ⟨_,rfl⟩ | ⟨_,rfl⟩ | ⟨_,rfl⟩ | ⟨_,rfl⟩ | ⟨_,rfl⟩ | ⟨_,rfl⟩ | ⟨_,rfl⟩ | ⟨_,rfl⟩ | ⟨_,rfl⟩ | ⟨_,rfl⟩ | ⟨_,rfl⟩ | ⟨_,rfl⟩<;>simp
def ES(w:Wd)(n:Int):Bool:=decide (n-w.least=0) || (decide (0<n-w.least) && (decide (0<w.step) && decide ((n-w.least).tmod w.step=0)))
def uo(w:Wd)(name:List UInt8)(l:List (List UInt8)):Option (Wd×List UInt8×List Int) :=
 match pJ l with
 |some ns=>if ES w ns.length=true then some (w,name,ns)else none
 |none=>none
def parse(s:List UInt8):Option (Wd×List UInt8×List Int) :=
 match de 32 s with
 |[]=>none
 |a::all=>match xK a with
  |none=>none
  |some w=>if w.named=true then(match all with
   |[]=>none
   |n::r=>uo w n r)else uo w [] all
theorem wS(b:UInt8)(s:List UInt8):de b s≠[]:=by
 cases s with
 |nil=>simp[de]
 |cons c r =>
  simp only[de];split
  ·simp
  ·split<;>simp
theorem Ar(b:UInt8):∀s:List UInt8,(de b s).length≤s.length+1
 |[]=>by simp[de]
 |c::r=>by
  have:=Ar b r;simp only[de];split
  ·simp;omega
  ·split
   ·rename_i h;rw[h]at this;simp at this ⊢;omega
   ·simp
end Go.Book
namespace Go.Proofs.YtfgljaglidhjiaaGreatDoor
open List(length_flatMap map_take)
open Go Go.Abs Go.Rock Go.Book
variable {σ:SK}
theorem Hu{T:yN}{kp:Bool}{f k:Nat}{args:List D}{σ:SK}{r:R}(hT:T f=none)(hN:T (1000000+f)=some ⟨k,[],.exit 0⟩)(h:E2 k args σ=some r):lim T (.call kp f args σ)=some r :=
 hJ (by simp[dr,hT,hN,h])
def rf(e:Int):D:=.uj 311 (.agg [.int .i64 e])
theorem cF{e:Int}:lim T (.call false bd [.bool true,.int .i64 e] σ)=some (.val (.dK []) σ):=by
 refine aA CE sj.eq_1 rfl ?_;simp[-length_flatMap,-map_take]
theorem dF{e:Int}:lim T (.call false bd [.bool false,.int .i64 e] σ)=some (.fY (rf e) σ):=by
 refine eh CE sj.eq_1 rfl ?_;simp[-length_flatMap,-map_take,arR,D.clean,rf]
theorem oO:lim T (.call false bU [.int .i64 0] σ)=some (.val (.dK []) σ):=by
 refine aA A8 rn.eq_1 rfl ?_;simp[-length_flatMap,-map_take,cF]
theorem pU{e:Int}(h:e≠0):lim T (.call false bU [.int .i64 e] σ)=some (.fY (rf e) σ):=by
 refine eh A8 rn.eq_1 rfl ?_;have h':(e == 0)=false:=by simpa using h
 simp[-length_flatMap,-map_take,dF,h',D.clean,rf]
theorem fj{a b c:Int}:lim T (.call false cA [.int .i64 a,.int .i64 b,.int .i64 c] σ)=some (.val (.bool (ct a b c)) σ):=by
 refine aA Ey rJ.eq_1 rfl ?_;by_cases h:b≤a<;>simp[-length_flatMap,-map_take,h,ct]
theorem MB{n:Int}(h : -9223372036854775808≤n∧n≤9223372036854775807):lim T (.call false eG [.int .i64 n] σ)=some (.val (.str (BA n)) σ) :=
 Hu GQ GC (by simp[E2,h])
theorem Ji{s:List UInt8}(h:s.length≤1000000):lim T (.call false iJ [.str s] σ)=some (.val (.dK [.int .i64 (sh s).2,if(sh s).1=0 then .pr else .uj 477 .undef]) σ) :=
 Hu GP GB (by simp[E2,h])
theorem BP{s:List UInt8}(h:s.length≤1000000):lim T (.call false gK [.str s,.str [32]] σ)=some (.val (.aI (de 32 s).length ((de 32 s).map .str)) σ) :=
 Hu FY FP (by simp[E2,h])
theorem JA(s:List UInt8) : -9223372036854775808≤(sh s).2∧(sh s).2≤9223372036854775807:=by
 unfold sh;split
 ·rename_i v h;cases s with
  |nil=>cases h
  |cons c r =>
   simp only[Lib.atoiAll]at h;split at h
   ·cases h
   ·cases h
   ·rename_i u hu;split at h
    ·cases h
    ·split at h
     ·cases h
     ·cases h;dsimp only;split<;>omega
 ·simp
 ·simp only[Lib.atoiSat];split<;>simp
theorem SH{s:List UInt8}(hl:s.length≤1000000){n:Int}(h:Dq s=some n):lim T (.call false lR [.str s] σ)=some (.val (.int .i64 n) σ):=by
 unfold Dq at h;simp only[aC,ae]at h;obtain⟨⟨⟨h1,h2⟩,h3⟩,rfl⟩:=h;refine aA ze oo.eq_1 rfl ?_;simp[-length_flatMap,-map_take,Ji hl,h1,MB (JA s),h2,rU,fj,h3,cF]
theorem MI{s:List UInt8}(hl:s.length≤1000000)(h:Dq s=none):lim T (.call false lR [.str s] σ)=some (.fY (rf 4) σ):=by
 refine eh ze oo.eq_1 rfl ?_;unfold Dq at h;simp only[ite_eq_right_iff,reduceCtorEq,imp_false,not_and]at h;by_cases h1:(sh s).1=0
 ·by_cases h2:BA (sh s).2=s
  ·have h3:ct (sh s).2 (-999999999) 999999999=false:=by simpa using h ⟨h1,h2⟩
   simp[-length_flatMap,-map_take,Ji hl,h1,MB (JA s),h2,rU,fj,h3,dF,D.clean,rf]
  ·simp[-length_flatMap,-map_take,Ji hl,h1,MB (JA s),h2,rU,fj,dF,D.clean,rf]
 ·simp[-length_flatMap,-map_take,Ji hl,h1,dF,D.clean,rf]
def I0:List Nat:=[fx,fC,gO,gk,fA,gP,gg,ga,fB,gi,gf,gj,gh]
def MA(w:Wd):List D:=[.bool w.named,.int .i64 w.least,.int .i64 w.step,.fn ((I0[w.k]?).getD 0) [] []]
def jM(l:List (List UInt8×Wd)):List D:=l.map fun p => .dK [.str p.1,.agg (MA p.2)]
theorem Hj{s:List UInt8}:∀{l:List (List UInt8×Wd)},CM s l=none→rq none (.str s) (jM l)=some none
 |[],_=>rfl
 |(k,w)::l,h=>by
  simp only[CM]at h;split at h
  ·cases h
  ·rename_i hk;have hb:(s == k)=false:=by simpa using hk
   have:=Hj h;simp only[jM,aO,rq,td,hb]at this ⊢;rw[this];rfl
theorem IK{s:List UInt8}{w:Wd}:∀{l:List (List UInt8×Wd)},CM s l=some w→∃j,rq none (.str s) (jM l)=some (some (j,.agg (MA w)))
 |[],h=>by cases h
 |(k,v)::l,h=>by
  simp only[CM]at h;split at h
  ·rename_i hk;cases h;subst hk;exact⟨0,by simp[jM,rq,td]⟩
  ·rename_i hk;have hb:(s == k)=false:=by simpa using hk
   obtain⟨j,hj⟩:=IK h;exact⟨j+1,by
    simp only[jM,aO,rq,td,hb]at hj ⊢;rw[hj];rfl⟩
theorem ayT{S:SK}{l i:Nat}{pre:List (List UInt8×Wd)}{k:List UInt8}{w:Wd}(h:cells? S l i 0=some (jM pre))(hn:CM k pre=none)(hl:l+1=S.length):
  AV S (.put none) [.mH l i,.str k,.agg (MA w)]=some (.undef,aV S l i (.cells 0 (jM (pre++[(k,w)])))):=by
 have h1:=Hj hn;simp only[AV,AU,h,aT,h1];simp[td,hl,jM]
theorem Rr{S:SK}{l i:Nat}{s:List UInt8}(h:cells? S l i 0=some (jM oN)):
  AV S (.get none (.agg [.bool false,.int .i64 0,.int .i64 0,.iX]) true) [.mH l i,.str s] =
   some (match xK s with | some w => .dK [.agg (MA w),.bool true] | none => .dK [.agg [.bool false,.int .i64 0,.int .i64 0,.iX],.bool false],S):=by
 simp only[AV,AU,h,aT];cases hw:xK s with
 |none=>rw[Hj hw];simp[td]
 |some w=>obtain⟨j,hj⟩:=IK hw;rw[hj];simp[td]
theorem BR{bs:List Abs.aE}:lim T (.call true pF [] (bs::σ))=some (.val (.mH σ.length bs.length) ((bs++[.cells 0 (jM oN)])::σ)):=by
 refine wF FT sJ.eq_1 rfl ?_;have hm:AV (bs::σ) .make []=some (.mH σ.length bs.length,(bs++[.cells 0 []])::σ):=by simp[AV]
 have hp:∀(pre:List (List UInt8×Wd)) (k:List UInt8) (w:Wd),CM k pre=none→AV ((bs++[.cells 0 (jM pre)])::σ) (.put none) [.mH σ.length bs.length,.str k,.agg (MA w)]=some (.undef,(bs++[.cells 0 (jM (pre++[(k,w)]))])::σ):=by
  intro pre k w hn;have h1:cells? ((bs++[.cells 0 (jM pre)])::σ) σ.length bs.length 0=some (jM pre):=by simp
  have h2:σ.length+1=((bs++[Abs.aE.cells 0 (jM pre)])::σ).length:=by simp
  have h3:=ayT (w:=w) h1 hn h2;refine h3.trans ?_;simp
 have p:=fun(j:Nat) (hj:j<13)=>hp (oN.take j) ((oN[j]?).getD ([],⟨false,0,0,0⟩)).1 ((oN[j]?).getD ([],⟨false,0,0,0⟩)).2
 have p0:=p 0 (by omega) (by decide);have p1:=p 1 (by omega) (by decide);have p2:=p 2 (by omega) (by decide);have p3:=p 3 (by omega) (by decide);have p4:=p 4 (by omega) (by decide);have p5:=p 5 (by omega) (by decide);have p6:=p 6 (by omega) (by decide);have p7:=p 7 (by omega) (by decide);have p8:=p 8 (by omega) (by decide);have p9:=p 9 (by omega) (by decide);have p10:=p 10 (by omega) (by decide);have p11:=p 11 (by omega) (by decide);have p12:=p 12 (by omega) (by decide);simp[oN,jM,MA,I0]at p0 p1 p2 p3 p4 p5 p6 p7 p8 p9 p10 p11 p12;simp[-length_flatMap,-map_take,hm,p0,p1,p2,p3,p4,p5,p6,p7,p8,p9,p10,p11,p12,oN,jM,MA,I0]
@[simp] def dh(s:List UInt8):List D:=[.str s]
def Qo(cs:List D)(name:List UInt8)(M:Abs.aE)(σ:SK)(acc:List Int)(r:Option (List Int))(x:Abs.Exit)(e:Env)(σ':SK):Prop:=match r with
 |some ns=>x=.exit 0∧get e 2=.own 0 cs∧get e 3=.str name∧get e 4=.sl σ.length 0 (acc++ns).length 0 (acc++ns).length 1∧σ'=[.cells (acc++ns).length ((acc++ns).flatMap aS),M]::σ
 |none=>x=.fY (rf 4)∧∃bw,σ'=bw::σ
theorem GA{all:List (List UInt8)}(hs:∀s∈all,s.length≤1000000)(hl:all.length≤1000001){cs:List D}{name:List UInt8}{M:Abs.aE}:∀(k i:Nat) (acc:List Int),i+k=all.length→acc.length=i →
  WL T [2,3,4,35,36,37] false mY [(2,.own 0 cs),(3,.str name),(4,.sl σ.length 0 i 0 i 1),(35,.aI all.length (all.flatMap dh)),(36,.int .i64 all.length),(37,.int .i64 i)]
   ([.cells i (acc.flatMap aS),M]::σ) (Qo cs name M σ acc (pJ (all.drop i)))
 |0,i,acc,hi,ha=>by
  refine aN mY.eq_1 ?_;obtain rfl:i=all.length:=by omega
  have h5:all.drop all.length=[]:=aB (by omega);simp[-length_flatMap,-map_take,h5,pJ,Qo,ha]
 |k+1,i,acc,hi,ha=>by
  refine aN mY.eq_1 ?_;have hlt:i<all.length:=by omega
  have hii:(i:Int)<i+1:=by omega
  obtain⟨s,hx⟩:=gE hlt;have h4:=gD hlt (by omega);have h5:=cY hx;have a1:=bS (f:=dh) (w:=1) (fun _=>rfl) hx;simp only[dh,ea]at a1;have hsl:=hs s (ai hx);rw[h5];simp only[pJ];have hr:(i+1)*8≤room:=by unfold room;omega
  cases hn:Dq s with
  |none =>
   simp[-length_flatMap,-map_take,hlt,a1,MI hsl hn,Qo]
  |some n =>
   have hc:(acc.flatMap aS).length=i:=by simp[bT (f:=aS) (w:=1) (fun _=>rfl),ha]
   have ht:(acc.flatMap aS).take i=acc.flatMap aS:=aj (by omega);simp[-length_flatMap,-map_take,hlt,a1,SH hsl hn,hr,h4,hc,ht];refine WL.to (GA (cs:=cs) (name:=name) (M:=M) hs hl k (i+1) (acc++[n]) (by omega) (by simp[ha])) (by simp) (by simp) fun x e σ' hh=>?_
   cases hm:pJ (all.drop (i+1))with
   |none=>rw[hm]at hh;exact hh
   |some ns=>rw[hm]at hh;simpa[Qo]using hh
theorem zx:∀{l:List (List UInt8)} {ns:List Int},pJ l=some ns→ns.length=l.length
 |[],ns,h=>by simp only[pJ,ae]at h;subst h;rfl
 |s::l,ns,h=>by
  simp only[pJ]at h;split at h
  ·rename_i n hn;simp only[ad]at h;obtain⟨m,h1,rfl⟩:=h;simp[zx h1]
  ·cases h
theorem iP(w:Wd):MA w=[.bool w.named,.int .i64 w.least,.int .i64 w.step,.fn ((I0[w.k]?).getD 0) [] []]:=rfl
theorem Cf(l:List (List UInt8)):l.map D.str=l.flatMap dh:=by induction l with | nil=>rfl | cons s l ih=>simp[ih]
theorem KH{s:List UInt8}(hl:s.length≤1000000){a:List UInt8}{all:List (List UInt8)}(h:de 32 s=a::all)(hw:xK a=none):lim T (.call false dj [.str s] σ)=some (.fY (rf 4) σ):=by
 refine eh lP fN.eq_1 rfl ?_;have hW:=BR (bs:=[.cells 0 []]) (σ:=σ);have hG:=Rr (S:=[Abs.aE.cells 0 [],.cells 0 (jM oN)]::σ) (l:=σ.length) (i:=1) (s:=a) (by simp);rw[hw]at hG;simp[-length_flatMap,-map_take,BP hl,h,hW,hG,dF,D.clean,rf]
def yr(p:Wd×List UInt8×List Int):D:=.dK [.agg (MA p.1),.str p.2.1,.aI p.2.2.length (p.2.2.flatMap aS)]
theorem Gj{a:List D}(ha:D.bg a=true){name:List UInt8}{v:Nat}{ns:List Int}{M:Abs.aE}(hσ:σ≠[]):
  cr (σ.length-1) 16 (.dK [.agg a,.str name,.sl σ.length 0 v 0 ns.length 1]) ([.cells v (ns.flatMap aS),M]::σ)=(.dK [.agg a,.str name,.aI ns.length (ns.flatMap aS)],[.dead,M]::σ):=by
 have h3:¬σ.length≤σ.length-1:=by have:=aL.2 hσ;omega
 rw[B4 (by simp[D.bg,D.clean]) (by omega)];have h4:=jx (l:=σ.length-1) (n:=15) (d:=.agg a) (σ:=[Abs.aE.cells v (ns.flatMap aS),M]::σ) (by simp[D.clean,ha]) (by omega);have h5:=jx (l:=σ.length-1) (n:=15) (d:=.str name) (σ:=[Abs.aE.cells v (ns.flatMap aS),M]::σ) (by simp[D.clean]) (by omega);have h6:=Dh (l:=σ.length-1) (n:=15) (l':=σ.length) (i:=0) (v:=v) (off:=0) (m:=ns.length) (w:=1) (σ:=[Abs.aE.cells v (ns.flatMap aS),M]::σ) (cs:=ns.flatMap aS) h3 (by simp) (by omega);have ht:(ns.flatMap aS).take ns.length=ns.flatMap aS:=by have:=JS (f:=aS) (w:=1) (fun _=>rfl) ns;rwa[ea]at this
 simp only[Nat.reduceSub,cr.frzL,h4,h5,h6];simp[ht,dX (f:=aS) (fun _=>by simp[D.clean]) ns]
theorem QQ{s:List UInt8}(hl:s.length≤1000000){a:List UInt8}{all:List (List UInt8)}(h:de 32 s=a::all)(hs:∀x∈all,x.length≤1000000)(hl2:all.length≤1000001){w:Wd}(hw:xK a=some w)(hn:w.named=false)(hσ:σ≠[]){p:Wd×List UInt8×List Int}(hp:uo w [] all=some p):
  lim T (.call false dj [.str s] σ)=some (.val (yr p) σ):=by
 refine aA lP fN.eq_1 rfl ?_;have hW:=BR (bs:=[.cells 0 []]) (σ:=σ);have hG:=Rr (S:=[Abs.aE.cells 0 [],.cells 0 (jM oN)]::σ) (l:=σ.length) (i:=1) (s:=a) (by simp);rw[hw]at hG;obtain⟨w1,w2,w3,w4,w5⟩:=Ep hw;have hL:=GA (σ:=σ) (cs:=MA w) (name:=[]) (M:=.cells 0 (jM oN)) hs hl2 all.length 0 [] (by omega) rfl;unfold uo at hp;cases hm:pJ all with
 |none=>rw[hm]at hp;cases hp
 |some ns =>
 rw[hm]at hp;simp only[aC,ae]at hp;obtain⟨hf,rfl⟩:=hp;have hlen:=zx hm;simp only[ES,bX,af,av]at hf;have e1:IntKind.i64.wrap ((ns.length:Int)-w.least)=ns.length-w.least:=fT (by omega);rw[aP,hm]at hL;have q1:(1:Int)≤(all.length:Int)+1:=by omega
 have q2:(all.flatMap dh).take all.length=all.flatMap dh:=aj (by rw[bT (f:=dh) (w:=1) (fun _=>rfl)];omega);simp[-length_flatMap,-map_take,BP hl,h,hW,hG,cF,iP,hn,Cf,q1,q2];refine WL.to hL (by simp[iP,hn]) (by simp) ?_;rintro x e σ' ⟨rfl,g2,g3,g4,rfl⟩;have hz:D.bg (MA w)=true:=by simp[MA,D.clean]
 rcases hf with c1 | ⟨c1,c2,c3⟩
 ·simp[-length_flatMap,-map_take,g2,g3,g4,iP,e1,c1,cF,yr];exact⟨_,Gj (by simp[D.clean]) hσ⟩
 ·have c0:¬(ns.length:Int)-w.least=0:=by omega
  have c4:¬w.step=0:=by omega
  have c5:w.least<(ns.length:Int):=by omega
  simp[-length_flatMap,-map_take,g2,g3,g4,iP,e1,c0,c5,c2,c3,c4,cF,yr];exact⟨_,Gj (by simp[D.clean]) hσ⟩
theorem KF{s:List UInt8}(hl:s.length≤1000000){a:List UInt8}{all:List (List UInt8)}(h:de 32 s=a::all)(hs:∀x∈all,x.length≤1000000)(hl2:all.length≤1000001){w:Wd}(hw:xK a=some w)(hn:w.named=false)(hp:uo w [] all=none):
  lim T (.call false dj [.str s] σ)=some (.fY (rf 4) σ):=by
 refine eh lP fN.eq_1 rfl ?_;have hW:=BR (bs:=[.cells 0 []]) (σ:=σ);have hG:=Rr (S:=[Abs.aE.cells 0 [],.cells 0 (jM oN)]::σ) (l:=σ.length) (i:=1) (s:=a) (by simp);rw[hw]at hG;obtain⟨w1,w2,w3,w4,w5⟩:=Ep hw;have hL:=GA (σ:=σ) (cs:=MA w) (name:=[]) (M:=.cells 0 (jM oN)) hs hl2 all.length 0 [] (by omega) rfl;have q1:(1:Int)≤(all.length:Int)+1:=by omega
 have q2:(all.flatMap dh).take all.length=all.flatMap dh:=aj (by rw[bT (f:=dh) (w:=1) (fun _=>rfl)];omega);rw[aP]at hL;simp[-length_flatMap,-map_take,BP hl,h,hW,hG,cF,iP,hn,Cf,q1,q2];refine WL.to hL (by simp[iP,hn]) (by simp) ?_;unfold uo at hp;cases hm:pJ all with
 |none =>
  rintro x e σ' ⟨rfl,bw,rfl⟩;simp[D.clean,rf]
 |some ns =>
 rw[hm]at hp;simp only[ite_eq_right_iff,reduceCtorEq,imp_false]at hp;rintro x e σ' ⟨rfl,g2,g3,g4,rfl⟩;have hlen:=zx hm;have e1:IntKind.i64.wrap ((ns.length:Int)-w.least)=ns.length-w.least:=fT (by omega);simp only[ES,bX,af,av]at hp;have c0:¬(ns.length:Int)-w.least=0:=fun hh=>hp (.inl hh)
 by_cases c1:w.least<(ns.length:Int)
 ·by_cases c2:0<w.step
  ·have c3:¬((ns.length:Int)-w.least).tmod w.step=0:=fun hh=>hp (.inr ⟨by omega,c2,hh⟩)
   have c4:¬w.step=0:=by omega
   have c3':(((ns.length:Int)-w.least).tmod w.step == 0)=false:=by simpa using c3
   have c0':((ns.length:Int)-w.least == 0)=false:=by simpa using c0
   simp[-length_flatMap,-map_take,g2,g3,g4,iP,e1,c0',c1,c2,c3',c4,dF,D.clean,rf]
  ·simp[-length_flatMap,-map_take,g2,g3,g4,iP,e1,c0,c1,c2,dF,D.clean,rf]
 ·simp[-length_flatMap,-map_take,g2,g3,g4,iP,e1,c0,c1,dF,D.clean,rf]
theorem MJ{s:List UInt8}(hl:s.length≤1000000){a:List UInt8}(h:de 32 s=[a]){w:Wd}(hw:xK a=some w)(hn:w.named=true):
  lim T (.call false dj [.str s] σ)=some (.fY (rf 4) σ):=by
 refine eh lP fN.eq_1 rfl ?_;have hW:=BR (bs:=[.cells 0 []]) (σ:=σ);have hG:=Rr (S:=[Abs.aE.cells 0 [],.cells 0 (jM oN)]::σ) (l:=σ.length) (i:=1) (s:=a) (by simp);rw[hw]at hG;obtain⟨w1,w2,w3,w4,w5⟩:=Ep hw;simp[-length_flatMap,-map_take,BP hl,h,hW,hG,cF,dF,iP,hn,D.clean,rf]
theorem QR{s:List UInt8}(hl:s.length≤1000000){a n:List UInt8}{r:List (List UInt8)}(h:de 32 s=a::n::r)(hs:∀x∈r,x.length≤1000000)(hl2:r.length≤1000001){w:Wd}(hw:xK a=some w)(hn:w.named=true)(hσ:σ≠[]){p:Wd×List UInt8×List Int}(hp:uo w n r=some p):
  lim T (.call false dj [.str s] σ)=some (.val (yr p) σ):=by
 refine aA lP fN.eq_1 rfl ?_;have hW:=BR (bs:=[.cells 0 []]) (σ:=σ);have hG:=Rr (S:=[Abs.aE.cells 0 [],.cells 0 (jM oN)]::σ) (l:=σ.length) (i:=1) (s:=a) (by simp);rw[hw]at hG;obtain⟨w1,w2,w3,w4,w5⟩:=Ep hw;have hL:=GA (σ:=σ) (cs:=MA w) (name:=n) (M:=.cells 0 (jM oN)) hs hl2 r.length 0 [] (by omega) rfl;have q1:(1:Int)≤(r.length:Int)+1:=by omega
 have q2:(r.flatMap dh).take r.length=r.flatMap dh:=aj (by rw[bT (f:=dh) (w:=1) (fun _=>rfl)];omega);have q3:(1:Int)≤(r.length:Int)+1+1:=by omega
 have q4:(0:Int)<(r.length:Int)+1:=by omega
 have q6:(0:Int)<(r.length:Int)+1+1:=by omega
 have q5:(r.flatMap dh).take (r.length+1)=r.flatMap dh:=aj (by rw[bT (f:=dh) (w:=1) (fun _=>rfl)];omega);unfold uo at hp;cases hm:pJ r with
 |none=>rw[hm]at hp;cases hp
 |some ns =>
 rw[hm]at hp;simp only[aC,ae]at hp;obtain⟨hf,rfl⟩:=hp;have hlen:=zx hm;simp only[ES,bX,af,av]at hf;have e1:IntKind.i64.wrap ((ns.length:Int)-w.least)=ns.length-w.least:=fT (by omega);rw[aP,hm]at hL;simp[-length_flatMap,-map_take,BP hl,h,hW,hG,cF,iP,hn,Cf,q1,q2,q3,q4,q5,q6];refine WL.to hL (by simp[iP,hn]) (by simp) ?_;rintro x e σ' ⟨rfl,g2,g3,g4,rfl⟩;rcases hf with c1 | ⟨c1,c2,c3⟩
 ·simp[-length_flatMap,-map_take,g2,g3,g4,iP,e1,c1,cF,yr];exact⟨_,Gj (by simp[D.clean]) hσ⟩
 ·have c0:¬(ns.length:Int)-w.least=0:=by omega
  have c4:¬w.step=0:=by omega
  have c5:w.least<(ns.length:Int):=by omega
  simp[-length_flatMap,-map_take,g2,g3,g4,iP,e1,c0,c5,c2,c3,c4,cF,yr];exact⟨_,Gj (by simp[D.clean]) hσ⟩
theorem KG{s:List UInt8}(hl:s.length≤1000000){a n:List UInt8}{r:List (List UInt8)}(h:de 32 s=a::n::r)(hs:∀x∈r,x.length≤1000000)(hl2:r.length≤1000001){w:Wd}(hw:xK a=some w)(hn:w.named=true)(hp:uo w n r=none):
  lim T (.call false dj [.str s] σ)=some (.fY (rf 4) σ):=by
 refine eh lP fN.eq_1 rfl ?_;have hW:=BR (bs:=[.cells 0 []]) (σ:=σ);have hG:=Rr (S:=[Abs.aE.cells 0 [],.cells 0 (jM oN)]::σ) (l:=σ.length) (i:=1) (s:=a) (by simp);rw[hw]at hG;obtain⟨w1,w2,w3,w4,w5⟩:=Ep hw;have hL:=GA (σ:=σ) (cs:=MA w) (name:=n) (M:=.cells 0 (jM oN)) hs hl2 r.length 0 [] (by omega) rfl;have q1:(1:Int)≤(r.length:Int)+1:=by omega
 have q2:(r.flatMap dh).take r.length=r.flatMap dh:=aj (by rw[bT (f:=dh) (w:=1) (fun _=>rfl)];omega);have q3:(1:Int)≤(r.length:Int)+1+1:=by omega
 have q4:(0:Int)<(r.length:Int)+1:=by omega
 have q6:(0:Int)<(r.length:Int)+1+1:=by omega
 have q5:(r.flatMap dh).take (r.length+1)=r.flatMap dh:=aj (by rw[bT (f:=dh) (w:=1) (fun _=>rfl)];omega);rw[aP]at hL;simp[-length_flatMap,-map_take,BP hl,h,hW,hG,cF,iP,hn,Cf,q1,q2,q3,q4,q5,q6];refine WL.to hL (by simp[iP,hn]) (by simp) ?_;unfold uo at hp;cases hm:pJ r with
 |none =>
  rintro x e σ' ⟨rfl,bw,rfl⟩;simp[D.clean,rf]
 |some ns =>
 rw[hm]at hp;simp only[ite_eq_right_iff,reduceCtorEq,imp_false]at hp;rintro x e σ' ⟨rfl,g2,g3,g4,rfl⟩;have hlen:=zx hm;have e1:IntKind.i64.wrap ((ns.length:Int)-w.least)=ns.length-w.least:=fT (by omega);simp only[ES,bX,af,av]at hp;have c0:¬(ns.length:Int)-w.least=0:=fun hh=>hp (.inl hh)
 by_cases c1:w.least<(ns.length:Int)
 ·by_cases c2:0<w.step
  ·have c3:¬((ns.length:Int)-w.least).tmod w.step=0:=fun hh=>hp (.inr ⟨by omega,c2,hh⟩)
   have c4:¬w.step=0:=by omega
   have c3':(((ns.length:Int)-w.least).tmod w.step == 0)=false:=by simpa using c3
   have c0':((ns.length:Int)-w.least == 0)=false:=by simpa using c0
   simp[-length_flatMap,-map_take,g2,g3,g4,iP,e1,c0',c1,c2,c3',c4,dF,D.clean,rf]
  ·simp[-length_flatMap,-map_take,g2,g3,g4,iP,e1,c0,c1,c2,dF,D.clean,rf]
 ·simp[-length_flatMap,-map_take,g2,g3,g4,iP,e1,c0,c1,dF,D.clean,rf]
theorem Ej(b:UInt8):∀(s:List UInt8),∀x∈de b s,x.length≤s.length
 |[],x,hx=>by simp[de]at hx;simp[hx]
 |c::r,x,hx=>by
  have ih:=Ej b r;simp only[de]at hx;split at hx
  ·rcases ba.1 hx with rfl | hx
   ·simp
   ·have:=ih x hx;simp;omega
  ·split at hx
   ·rename_i y l hyl;rcases ba.1 hx with rfl | hx
    ·have:=ih y (by rw[hyl];simp);simp;omega
    ·have:=ih x (by rw[hyl];simp[hx]);simp;omega
   ·rename_i hyl;exact absurd hyl (wS b r)
theorem aBr{s:List UInt8}(hl:s.length≤1000000)(hσ:σ≠[]){p:Wd×List UInt8×List Int}(hp:parse s=some p):lim T (.call false dj [.str s] σ)=some (.val (yr p) σ):=by
 unfold parse at hp;have hlen:=Ar 32 s;have hle:=Ej 32 s;cases h:de 32 s with
 |nil=>exact absurd h (wS 32 s)
 |cons a all =>
 rw[h]at hp hlen hle;simp only[aJ]at hlen;dsimp only at hp;cases hw:xK a with
 |none=>rw[hw]at hp;cases hp
 |some w =>
 rw[hw]at hp;dsimp only at hp;cases hn:w.named with
 |false =>
  rw[hn]at hp;exact QQ hl h (fun x hx=>by have:=hle x (by simp[hx]);omega) (by omega) hw hn hσ (by simpa using hp)
 |true =>
  rw[hn]at hp;simp only[if_true]at hp;cases all with
  |nil=>cases hp
  |cons n r=>exact QR hl h (fun x hx=>by have:=hle x (by simp[hx]);omega) (by simp at hlen;omega) hw hn hσ hp
theorem MK{s:List UInt8}(hl:s.length≤1000000)(hp:parse s=none):lim T (.call false dj [.str s] σ)=some (.fY (rf 4) σ):=by
 unfold parse at hp;have hlen:=Ar 32 s;have hle:=Ej 32 s;cases h:de 32 s with
 |nil=>exact absurd h (wS 32 s)
 |cons a all =>
 rw[h]at hp hlen hle;simp only[aJ]at hlen;dsimp only at hp;cases hw:xK a with
 |none=>exact KH hl h hw
 |some w =>
 rw[hw]at hp;dsimp only at hp;cases hn:w.named with
 |false =>
  rw[hn]at hp;exact KF hl h (fun x hx=>by have:=hle x (by simp[hx]);omega) (by omega) hw hn (by simpa using hp)
 |true =>
  rw[hn]at hp;simp only[if_true]at hp;cases all with
  |nil=>exact MJ hl h hw hn
  |cons n r=>exact KG hl h (fun x hx=>by have:=hle x (by simp[hx]);omega) (by simp at hlen;omega) hw hn hp
end Go.Proofs.YtfgljaglidhjiaaGreatDoor
namespace Go.Trem
open List(length_flatMap map_take)
open Go Go.Abs
structure Pt where
 x:Int
 y:Int
 z:Int
 deriving DecidableEq
structure Rg where
 lo:Int
 hi:Int
 deriving DecidableEq
structure MT where
 p:Pt
 err:Int
structure Net where
 st:List MT
 s0:Rg
 s1:Rg
 low:Pt
 high:Pt
 step:Int
structure Eu where
 st:Int
 ph:Int
 t:Rg
structure Plc where
 p:Pt
 o:Rg
 deriving DecidableEq
structure yD where
 far:Int
 add:Int
structure GF where
 levels:List Int
 rows:List yD
structure zL where
 st:Int
 amt:Int
structure atQ where
 fst:Int
 thn:Int
structure Bet where
 num:Int
 den:Int
 a:Int
 b:Int
 arN:Int
@[simp] theorem Pt.eta(p:Pt):Pt.mk p.x p.y p.z=p:=rfl
@[simp] theorem Rg.eta(p:Rg):Rg.mk p.lo p.hi=p:=rfl
@[simp] theorem MT.eta(p:MT):MT.mk p.p p.err=p:=rfl
@[simp] theorem Net.eta(p:Net):Net.mk p.st p.s0 p.s1 p.low p.high p.step=p:=rfl
@[simp] theorem Eu.eta(p:Eu):Eu.mk p.st p.ph p.t=p:=rfl
@[simp] theorem GF.eta(p:GF):GF.mk p.levels p.rows=p:=rfl
@[simp] theorem zL.eta(p:zL):zL.mk p.st p.amt=p:=rfl
@[simp] theorem yD.eta(p:yD):yD.mk p.far p.add=p:=rfl
@[simp] theorem Bet.eta(p:Bet):Bet.mk p.num p.den p.a p.b p.arN=p:=rfl
@[simp] def Pt.enc(p:Pt):List D:=[.int .i64 p.x,.int .i64 p.y,.int .i64 p.z]
@[simp] def Rg.enc(r:Rg):List D:=[.int .i64 r.lo,.int .i64 r.hi]
@[simp] def MT.enc(s:MT):List D:=[.int .i64 s.p.x,.int .i64 s.p.y,.int .i64 s.p.z,.int .i64 s.err]
@[simp] def Eu.enc(p:Eu):List D:=[.int .i64 p.st,.int .u8 p.ph,.int .i64 p.t.lo,.int .i64 p.t.hi]
@[simp] def Plc.enc(p:Plc):List D:=[.int .i64 p.p.x,.int .i64 p.p.y,.int .i64 p.p.z,.int .i64 p.o.lo,.int .i64 p.o.hi]
@[simp] def yD.enc(p:yD):List D:=[.int .i64 p.far,.int .i64 p.add]
@[simp] def zL.enc(p:zL):List D:=[.int .i64 p.st,.int .i64 p.amt]
@[simp] def atQ.enc(p:atQ):List D:=[.int .i64 p.fst,.int .i64 p.thn]
@[simp] def Bet.enc(b:Bet):List D:=[.int .i64 b.num,.int .i64 b.den,.int .i64 b.a,.int .i64 b.b,.int .i64 b.arN]
@[simp] def aS(n:Int):List D:=[.int .i64 n]
@[simp] def tI(n:Bool):List D:=[.bool n]
@[simp] def Net.enc(n:Net):List D:=[.aI n.st.length (n.st.flatMap MT.enc),.int .i64 n.s0.lo,.int .i64 n.s0.hi,.int .i64 n.s1.lo,.int .i64 n.s1.hi,
 .int .i64 n.low.x,.int .i64 n.low.y,.int .i64 n.low.z,.int .i64 n.high.x,.int .i64 n.high.y,.int .i64 n.high.z,.int .i64 n.step]
@[simp] def GF.enc(s:GF):List D:=[.aI s.levels.length (s.levels.flatMap aS),.aI s.rows.length (s.rows.flatMap yD.enc)]
def ct(n lo hi:Int):Bool:=decide (lo≤n) && decide (n≤hi)
theorem bf{n lo hi:Int}:ct n lo hi=true↔lo≤n∧n≤hi:=by simp[ct]
def Pt.ok(p:Pt):Bool:=ct p.x (-20000) 20000 && (ct p.y (-20000) 20000 && ct p.z (-20000) 20000)
def Bi(a b:Pt):Bool:=a.ok && (b.ok && (decide (a.x≤b.x) && (decide (a.y≤b.y) && decide (a.z≤b.z))))
def MT.ok(s:MT):Bool:=s.p.ok && ct s.err 0 1000
def Rg.ct(r:Rg)(lo hi:Int):Bool:=decide (lo≤r.lo) && (decide (r.lo≤r.hi) && decide (r.hi≤hi))
def steps(n:Net)(lo hi:Int):Int:=(hi-lo).tdiv n.step+1
def Net.pre(n:Net):Bool:=Trem.ct n.st.length 1 12 && (gU n.st MT.ok && (Bi n.low n.high && (Trem.ct n.step 1 20000 && (n.s0.ct 1 2000 && n.s1.ct 1 2000))))
def Net.count(n:Net):Int:=steps n n.low.x n.high.x*steps n n.low.y n.high.y*steps n n.low.z n.high.z
def Net.ok(n:Net):Bool:=n.pre && decide (n.count≤2000)
theorem Pt.JX{p:Pt}:p.ok=true↔(-20000≤p.x∧p.x≤20000)∧(-20000≤p.y∧p.y≤20000)∧(-20000≤p.z∧p.z≤20000):=by
 simp only[Pt.ok,af,bf]
def bsr:Nat→Int→Int→Int→Int
 |0,_,lo,_=>lo
 |f+1,n,lo,hi=>if lo<hi then(if((lo+hi+1) / 2)*((lo+hi+1) / 2)≤n then bsr f n ((lo+hi+1) / 2) hi else bsr f n lo ((lo+hi+1) / 2-1))else lo
def sq(p q:Pt):Int:=(p.x-q.x)*(p.x-q.x)+(p.y-q.y)*(p.y-q.y)+(p.z-q.z)*(p.z-q.z)
def aug(p q:Pt):Int:=bsr 17 (sq p q) 0 70000
def prog(lo hi st:Int):List Int:=(List.range ((hi-lo) / st+1).toNat).map fun(i:Nat)=>lo+i*st
def zs(n:Net)(x y:Int)(z:Int):List Pt:=(prog z n.high.z n.step).map fun z=>⟨x,y,z⟩
def ys(n:Net)(x:Int)(y:Int):List Pt:=(prog y n.high.y n.step).flatMap fun y=>zs n x y n.low.z
def xs(n:Net)(x:Int):List Pt:=(prog x n.high.x n.step).flatMap fun x=>ys n x n.low.y
def ags(n:Net):List Pt:=xs n n.low.x
def Net.stn(n:Net)(i:Int):MT:=n.st.getD i.toNat ⟨⟨0,0,0⟩,0⟩
def Net.Nz(n:Net)(ph:Int):Rg:=if ph=0 then n.s0 else n.s1
def afc(n:Net)(i ph:Int)(p:Pt):Rg:=⟨(n.Nz ph).lo*aug (n.stn i).p p / 1000,((n.Nz ph).hi*(aug (n.stn i).p p+1)+999) / 1000⟩
def Eu.ok(n:Net)(p:Eu):Bool:=Trem.ct p.st 0 (n.st.length-1) && (decide (p.ph<2) && p.t.ct (-100000000) 100000000)
def span(n:Net)(p:Eu)(q:Pt):Rg:=⟨p.t.lo-(n.stn p.st).err-(afc n p.st p.ph q).hi,p.t.hi+(n.stn p.st).err-(afc n p.st p.ph q).lo⟩
def meet(a b:Rg):Rg:=⟨max a.lo b.lo,min a.hi b.hi⟩
def common:List Rg→Rg
 |[]=>⟨0,0⟩
 |r::l=>l.foldl meet r
def Rg.ne(r:Rg):Bool:=decide (r.lo≤r.hi)
end Go.Trem
namespace Go.Proofs.YtfgljaglidhjiaaGreatDoor
open List(length_flatMap map_take)
open Go Go.Abs Go.Trem
variable {σ:SK}
theorem gz{a b c:Int}:lim T (.call false ch [.int .i64 a,.int .i64 b,.int .i64 c] σ)=some (.val (.bool (ct a b c)) σ):=by
 refine aA F0 sQ.eq_1 rfl ?_;by_cases h:b≤a<;>simp[-length_flatMap,-map_take,h,ct]
theorem atL{a:Int}:lim T (.call false eC [.int .i64 a] σ)=some (.val (.bool (ct a (-20000) 20000)) σ):=by
 refine aA zU lG.eq_1 rfl ?_;simp[-length_flatMap,-map_take,gz]
theorem QK{l:List Int}(hl:l.length≤9223372036854775807){fv:D}{p:Int→Bool}(ht:pW T fv (.int .i64) p l)(hc:fv.cells=some [fv]):
  lim T (.call false gZ [.aI l.length (l.flatMap aS),fv] σ)=some (.val (.bool (gU l p)) σ) :=
 zV (JL .i64) EH Dc xM zS hl ht hc
theorem wT{x y z:Int}:lim T (.call false fG [.agg [.int .i64 x,.int .i64 y,.int .i64 z]] σ)=some (.val (.bool (Pt.ok ⟨x,y,z⟩)) σ):=by
 refine aA Bg nk.eq_1 rfl ?_;have h:∀σ,lim T (.call false gZ [.aI 3 [.int .i64 x,.int .i64 y,.int .i64 z],.fn eC [] []] σ)=some (.val (.bool (Pt.ok ⟨x,y,z⟩)) σ):=fun σ=>by
  have:=QK (σ:=σ) (l:=[x,y,z]) (by simp) (fv:=.fn eC [] []) (p:=fun a=>ct a (-20000) 20000) (.fn fun a _ σ=>atL) rfl;simpa[Pt.ok,Bool.and_assoc,gU]using this
 simp[-length_flatMap,-map_take,h]
theorem Is{x y z a b c:Int}:lim T (.call false ui [.agg [.int .i64 x,.int .i64 y,.int .i64 z],.agg [.int .i64 a,.int .i64 b,.int .i64 c]] σ)=some (.val (.bool (Bi ⟨x,y,z⟩ ⟨a,b,c⟩)) σ):=by
 refine aA Jw wM.eq_1 rfl ?_;cases hc1:Pt.ok ⟨x,y,z⟩
 ·simp[-length_flatMap,-map_take,wT,Bi,hc1]
 cases hc2:Pt.ok ⟨a,b,c⟩
 ·simp[-length_flatMap,-map_take,wT,Bi,hc1,hc2]
 by_cases hc3:x≤a
 rotate_left
 ·simp[-length_flatMap,-map_take,wT,Bi,hc1,hc2,hc3]
 by_cases hc4:y≤b
 rotate_left
 ·simp[-length_flatMap,-map_take,wT,Bi,hc1,hc2,hc3,hc4]
 simp[-length_flatMap,-map_take,wT,Bi,hc1,hc2,hc3,hc4]
theorem agF{n:Net}:n.pre=true↔(1≤(n.st.length:Int)∧(n.st.length:Int)≤12)∧gU n.st MT.ok=true∧(n.low.ok=true∧n.high.ok=true∧n.low.x≤n.high.x∧n.low.y≤n.high.y∧n.low.z≤n.high.z) ∧
  (1≤n.step∧n.step≤20000)∧(1≤n.s0.lo∧n.s0.lo≤n.s0.hi∧n.s0.hi≤2000)∧(1≤n.s1.lo∧n.s1.lo≤n.s1.hi∧n.s1.hi≤2000):=by
 simp only[Net.pre,af,bf,Bi,Rg.ct,av]
structure atO(n:Net)(i ph:Int):Prop where
 i0:0≤i
 i1:i<n.st.length
 hph:ph=0∨ph=1
 p:(n.stn i).p.ok=true
 e:0≤(n.stn i).err∧(n.stn i).err≤1000
 s:1≤(n.Nz ph).lo∧(n.Nz ph).lo≤(n.Nz ph).hi∧(n.Nz ph).hi≤2000
 cells:((n.st.flatMap MT.enc).drop (i.toNat*4)).take 4=(n.stn i).enc
theorem aeA{n:Net}(h:n.ok=true){i ph:Int}(hi:ct i 0 (n.st.length-1)=true)(hp:0≤ph)(hp':ph<2):atO n i ph:=by
 simp only[Net.ok,af]at h;have h0:=agF.1 h.1;rw[bf]at hi;have h1:i.toNat<n.st.length:=by omega
 have h2:n.st[i.toNat]?=some (n.stn i):=by
  simp[Net.stn,List.getD,aF h1]
 have h3:=jZ.1 h0.2.1 _ (ai h2);simp only[MT.ok,af,bf]at h3;refine⟨by omega,by omega,by omega,h3.1,h3.2,?_,bS (f:=MT.enc) (w:=4) (fun _=>rfl) h2⟩;unfold Net.Nz;split<;>omega
structure Hd(n:Net)(l:List Eu):Prop where
 ok:n.ok=true
 len:l.length≤60
 all:∀p∈l,Eu.ok n p=true∧0≤p.ph
theorem Hd.aAj{n:Net}{l:List Eu}(h:Hd n l){p:Eu}(hp:p∈l):atO n p.st p.ph:=by
 have h1:=h.all p hp;simp only[Eu.ok,af,av]at h1;exact aeA h.ok h1.1.1 h1.2 h1.1.2.1
end Go.Proofs.YtfgljaglidhjiaaGreatDoor
namespace Go.Trem
open List(length_flatMap map_take)
open Go Go.Abs
theorem D8{α β:Type}{f:α→List β}{c:Nat}{l:List α}(h:∀x∈l,(f x).length=c):(l.flatMap f).length=l.length*c:=by
 induction l with
 |nil=>simp
 |cons a l ih =>
  rw[aW,bz,h a (by simp),ih fun x hx=>h x (by simp[hx]),aJ,eV];omega
end Go.Trem
namespace Go.Proofs.YtfgljaglidhjiaaGreatDoor
open List(length_flatMap map_take)
open Go Go.Abs Go.Trem
variable {σ:SK}
structure Bx(n:Net):Prop where
 st:1≤n.step∧n.step≤20000
 lx : -20000≤n.low.x∧n.low.x≤20000
 ly : -20000≤n.low.y∧n.low.y≤20000
 lz : -20000≤n.low.z∧n.low.z≤20000
 hx:n.low.x≤n.high.x∧n.high.x≤20000
 hy:n.low.y≤n.high.y∧n.high.y≤20000
 hz:n.low.z≤n.high.z∧n.high.z≤20000
 len:(ags n).length≤2000
end Go.Proofs.YtfgljaglidhjiaaGreatDoor
namespace Go.Trem
open List(length_flatMap map_take)
open Go Go.Abs
def awb(l:List Int)(i:Nat):Bool:=decide (i=0) || decide (l.getD (i-1) 0<l.getD i 0)
def awc(l:List Int):Bool:=gU (List.range' 0 l.length) (awb l)
def yD.ok(r:yD):Bool:=ct r.far 0 20000 && ct r.add 0 100
def GF.ok(s:GF):Bool:=ct s.levels.length 1 60 && (gU s.levels (fun n=>ct n 1 1000000000) && (awc s.levels && (ct s.rows.length 1 20 && (decide ((s.rows.getD 0 ⟨0,0⟩).far=0) && (gU s.rows yD.ok && awc (s.rows.map (·.far)))))))
def lvl(l:List Int)(a:Int):Nat:=(l.takeWhile fun x=>decide (x≤a)).length
def zL.ok(n:Net)(r:zL):Bool:=ct r.st 0 (n.st.length-1) && ct r.amt 0 1000000000
end Go.Trem
namespace Go.Proofs.YtfgljaglidhjiaaGreatDoor
open List(length_flatMap map_take)
open Go Go.Abs Go.Trem
variable {σ:SK}
end Go.Proofs.YtfgljaglidhjiaaGreatDoor
namespace Go.Trem
open List(length_flatMap map_take)
open Go Go.Abs
def Bet.ok(b:Bet):Bool:=ct b.den 2 1000 && (ct b.num 1 (b.den-1) && (ct b.b 1 1000 && (ct b.a 0 b.b && ct b.arN 2 1000)))
def next(b:Bet)(c:Int)(hit:Bool):Int:=if hit then min (c*(b.b*b.num+b.a*(b.den-b.num)) / (b.b*b.num)) 1000000000000 else c*(b.b-b.a) / b.b
structure aAf(b:Bet)(c:Int):Prop where
 w1:IntKind.i64.wrap (b.b*b.num)=b.b*b.num
 w2:IntKind.i64.wrap (b.den-b.num)=b.den-b.num
 w3:IntKind.i64.wrap (b.a*(b.den-b.num))=b.a*(b.den-b.num)
 w4:IntKind.i64.wrap (b.b*b.num+b.a*(b.den-b.num))=b.b*b.num+b.a*(b.den-b.num)
 w5:IntKind.i64.wrap (c*(b.b*b.num+b.a*(b.den-b.num)))=c*(b.b*b.num+b.a*(b.den-b.num))
 w6:IntKind.i64.wrap ((c*(b.b*b.num+b.a*(b.den-b.num))).tdiv (b.b*b.num))=c*(b.b*b.num+b.a*(b.den-b.num)) / (b.b*b.num)
 w7:b.b*b.num≠0
 w8:IntKind.i64.wrap (b.b-b.a)=b.b-b.a
 w9:IntKind.i64.wrap (c*(b.b-b.a))=c*(b.b-b.a)
 w10:IntKind.i64.wrap ((c*(b.b-b.a)).tdiv b.b)=c*(b.b-b.a) / b.b
 w11:b.b≠0
 w12:∀h,0≤next b c h∧next b c h≤1000000000000
 w13:min (c*(b.b-b.a) / b.b) 1000000000000=c*(b.b-b.a) / b.b
def rB(k0 k1 k2:Int):Bool:=decide (k0≤1000) && (decide (k1≤k0) && (decide (k2≤k1) && decide (0≤k2)))
def Tj(n:Int):Bool:=ct n 0 1000000000
end Go.Trem
namespace Go.Proofs.YtfgljaglidhjiaaGreatDoor
open List(length_flatMap map_take)
open Go Go.Abs Go.Trem
variable {σ:SK}
theorem Gt{a:Int}:lim T (.call false kI [.int .i64 a] σ)=some (.val (.bool (Tj a)) σ):=by
 refine aA DL qX.eq_1 rfl ?_;simp[-length_flatMap,-map_take,gz,Tj]
structure aAg(p k:Int):Prop where
 w1:IntKind.i64.wrap (p*k)=p*k
 w2:IntKind.i64.wrap ((p*k).tdiv 1000)=p*k / 1000
 w3:0≤p*k / 1000
 w4:p*k / 1000≤1000000000
end Go.Proofs.YtfgljaglidhjiaaGreatDoor
namespace Go.Trem
open List(length_flatMap map_take)
open Go Go.Abs
structure wC where
 p:Pt
 mag:Int
structure Ev where
 tick:Int
 sp:List wC
structure eE where
 lo:Pt
 hi:Pt
 least:Int
 zF:Int
 count:Int
 Q9:Int
@[simp] theorem wC.eta(p:wC):wC.mk p.p p.mag=p:=rfl
@[simp] theorem Ev.eta(p:Ev):Ev.mk p.tick p.sp=p:=rfl
@[simp] theorem eE.eta(p:eE):eE.mk p.lo p.hi p.least p.zF p.count p.Q9=p:=rfl
@[simp] def wC.enc(s:wC):List D:=[.int .i64 s.p.x,.int .i64 s.p.y,.int .i64 s.p.z,.int .i64 s.mag]
@[simp] def Ev.enc(e:Ev):List D:=[.int .i64 e.tick,.aI e.sp.length (e.sp.flatMap wC.enc)]
@[simp] def eE.enc(r:eE):List D:=[.int .i64 r.lo.x,.int .i64 r.lo.y,.int .i64 r.lo.z,.int .i64 r.hi.x,.int .i64 r.hi.y,.int .i64 r.hi.z,.int .i64 r.least,.int .i64 r.zF,.int .i64 r.count,.int .u8 r.Q9]
def M5:Elt wC:=xf 4 wC.enc fun _=>rfl
def aui:Elt Ev:=xf 2 Ev.enc fun _=>rfl
def agc:Elt eE:=xf 10 eE.enc fun _=>rfl
def eE.Q8(r:eE)(s:wC):Bool:=decide (r.least≤s.mag) && (ct s.p.x r.lo.x r.hi.x && (ct s.p.y r.lo.y r.hi.y && ct s.p.z r.lo.z r.hi.z))
def eE.ok(r:eE):Bool:=Bi r.lo r.hi && (ct r.least 0 160 && (ct r.zF 1 1000000 && (ct r.count 1 200 && (r.Q9 == 1 || r.Q9 == 2))))
def wC.ok(s:wC):Bool:=s.p.ok && ct s.mag 0 160
def Ev.ok(e:Ev):Bool:=ct e.tick 0 1000000 && (ct e.sp.length 1 2000 && gU e.sp wC.ok)
def eE.act(r:eE)(now:Int)(e:Ev):Bool:=decide (now-r.zF<e.tick) && decide (e.tick≤now)
def F5(f:Ev→Bool):List Ev→Nat
 |[]=>0
 |e::l=>F5 f l+(if f e then 1 else 0)
def zE(r:eE)(now:Int)(e:Ev):Bool:=r.act now e && sT e.sp r.Q8
def tM(r:eE)(now:Int)(e:Ev):Bool:=r.act now e && gU e.sp r.Q8
def yX(f:eE→Ev→Bool)(l:List Ev):List eE→Int→Int
 |[],a=>a
 |r::R,a=>yX f l R (if r.count≤F5 (f r) l then max a r.Q9 else a)
def aem(R:List eE)(l:List Ev)(now:Int):Int:=yX (fun r=>zE r now) l R 0
def ae7(R:List eE)(l:List Ev)(now:Int):Int:=yX (fun r=>tM r now) l R 0
def pH(R:List eE)(l:List Ev)(now:Int):Int :=
 if 20<R.length then 3 else if gU R eE.ok=false then 1 else if 200<l.length then 3 else if gU l Ev.ok=false then 1 else if ct now 0 1000000=false then 2 else 0
theorem HC{r:eE}:r.ok=true↔Bi r.lo r.hi=true∧(0≤r.least∧r.least≤160)∧(1≤r.zF∧r.zF≤1000000)∧(1≤r.count∧r.count≤200)∧(r.Q9=1∨r.Q9=2):=by
 simp only[eE.ok,af,bf,bX,beq_iff_eq]
end Go.Trem
namespace Go.Proofs.YtfgljaglidhjiaaGreatDoor
open List(length_flatMap map_take)
open Go Go.Abs Go.Trem
variable {σ:SK}
theorem KD{r:eE}{s:wC}:lim T (.call false eg [.agg r.enc,.agg s.enc] σ)=some (.val (.bool (r.Q8 s)) σ):=by
 refine aA Bh nq.eq_1 rfl ?_;by_cases hc1:r.least≤s.mag
 rotate_left
 ·simp[-length_flatMap,-map_take,gz,eE.Q8,hc1]
 cases hc2:ct s.p.x r.lo.x r.hi.x
 ·simp[-length_flatMap,-map_take,gz,eE.Q8,hc1,hc2]
 cases hc3:ct s.p.y r.lo.y r.hi.y
 ·simp[-length_flatMap,-map_take,gz,eE.Q8,hc1,hc2,hc3]
 simp[-length_flatMap,-map_take,gz,eE.Q8,hc1,hc2,hc3]
theorem KJ{r:eE}:lim T (.call false eP [.agg r.enc] σ)=some (.val (.bool r.ok) σ):=by
 refine aA Cw oj.eq_1 rfl ?_;cases hc1:Bi r.lo r.hi
 ·simp[-length_flatMap,-map_take,gz,Is,eE.ok,hc1]
 cases hc2:ct r.least 0 160
 ·simp[-length_flatMap,-map_take,gz,Is,eE.ok,hc1,hc2]
 cases hc3:ct r.zF 1 1000000
 ·simp[-length_flatMap,-map_take,gz,Is,eE.ok,hc1,hc2,hc3]
 cases hc4:ct r.count 1 200
 ·simp[-length_flatMap,-map_take,gz,Is,eE.ok,hc1,hc2,hc3,hc4]
 by_cases hc5:r.Q9=1
 rotate_left
 ·simp[-length_flatMap,-map_take,gz,Is,eE.ok,hc1,hc2,hc3,hc4,hc5]
 simp[-length_flatMap,-map_take,gz,Is,eE.ok,hc1,hc2,hc3,hc4,hc5]
theorem atF{s:wC}:lim T (.call false fS [.agg s.enc] σ)=some (.val (.bool s.ok) σ):=by
 refine aA zT lF.eq_1 rfl ?_;cases hc1:Pt.ok s.p
 ·simp[-length_flatMap,-map_take,gz,wT,wC.ok,hc1]
 simp[-length_flatMap,-map_take,gz,wT,wC.ok,hc1]
theorem Iq{l:List wC}{p:wC→Bool}{fv:D}(ht:pW T fv M5.val p l)(hc:fv.cells=some [fv])(hl:l.length≤9223372036854775807):
  lim T (.call false eN [.aI l.length (l.flatMap wC.enc),fv] σ)=some (.val (.bool (gU l p)) σ) :=
 zV M5 yM xc mI om hl ht hc
theorem KE{e:Ev}(hl:e.sp.length≤9223372036854775807):lim T (.call false ef [.agg e.enc] σ)=some (.val (.bool e.ok) σ):=by
 refine aA Bf nj.eq_1 rfl ?_;have ha:=fun σ=>@Iq σ e.sp wC.ok (.fn fS [] []) (.fn fun s _ σ=>atF) rfl hl
 cases hc1:ct e.tick 0 1000000
 ·simp[-length_flatMap,-map_take,gz,ha,Ev.ok,hc1]
 cases hc2:ct e.sp.length 1 2000
 ·simp[-length_flatMap,-map_take,gz,ha,Ev.ok,hc1,hc2]
 simp[-length_flatMap,-map_take,gz,ha,Ev.ok,hc1,hc2]
theorem MD{R:List eE}(hl:R.length≤9223372036854775807):
  lim T (.call false dA [.aI R.length (R.flatMap eE.enc),.fn eP [] []] σ)=some (.val (.bool (gU R eE.ok)) σ) :=
 zV agc yL xb tC uS hl (.fn fun r _ σ=>KJ) rfl
theorem Sr{l:List Ev}(hl:l.length≤9223372036854775807)(hs:∀e∈l,e.sp.length≤9223372036854775807):
  lim T (.call false dc [.aI l.length (l.flatMap Ev.enc),.fn ef [] []] σ)=some (.val (.bool (gU l Ev.ok)) σ) :=
 zV aui xN wD sS uE hl (.fn fun r hr σ=>KE (hs r hr)) rfl
end Go.Proofs.YtfgljaglidhjiaaGreatDoor
namespace Go.Book
open List(length_flatMap map_take)
open Go Go.Abs Go.Rock
structure jb where
 m:cI
 left:Bool
 by_:Int
structure F1 where
 line:Int
 value:Int
 lo:Int
 hi:Int
structure Prt where
 width:Int
 vY:Int
structure xQ where
 D3:Int
 parts:List Prt
structure Sd where
 tick:Int
 ay3:Int
 wlo:Int
 whi:Int
 mlo:Int
 mhi:Int
structure Bk where
 bG:cz
 an:List jb
 az:List (List Int)
 rules:List Trem.eE
 zl:List Trem.Ev
 k0:Int
 k1:Int
 k2:Int
 fg:List xQ
 mK:List Sd
 ready:Bool
 jt:List F1
 at_:Int
@[simp] def jb.enc(e:jb):List D:=[.str e.m.name,.aI e.m.bh.length (e.m.bh.flatMap aS),.bool e.left,.int .i64 e.by_]
@[simp] def F1.enc(e:F1):List D:=[.int .i64 e.line,.int .i64 e.value,.int .i64 e.lo,.int .i64 e.hi]
@[simp] def Prt.enc(e:Prt):List D:=[.int .i64 e.width,.int .i64 e.vY]
@[simp] def xQ.enc(e:xQ):List D:=[.int .i64 e.D3,.aI e.parts.length (e.parts.flatMap Prt.enc)]
@[simp] def Sd.enc(e:Sd):List D:=[.int .i64 e.tick,.int .i64 e.ay3,.int .i64 e.wlo,.int .i64 e.whi,.int .i64 e.mlo,.int .i64 e.mhi]
def nl{α:Type}(f:α→List D)(l:List α):D:=if l=[]then .aG else .aI l.length (l.flatMap f)
def pE(r:List Int):List D:=[.aI r.length (r.flatMap aS)]
def Bk.cells(L:Nat)(b:Bk):List D:=[.int .i64 b.bG.f.x,.int .i64 b.bG.f.y,.int .i64 b.bG.f.z,.int .i64 b.bG.f.k,nl Rw.enc b.bG.cq,.int .i64 b.bG.bJ,.int .i64 b.bG.lift,.int .i64 b.bG.deep,nl bH.enc b.bG.ar,
 .sl L 0 b.an.length 0 b.an.length 4,nl pE b.az,.sl L 1 b.rules.length 0 b.rules.length 10,.sl L 2 b.zl.length 0 b.zl.length 2,.int .i64 b.k0,.int .i64 b.k1,.int .i64 b.k2,
 .sl L 3 b.fg.length 0 b.fg.length 2,.sl L 4 b.mK.length 0 b.mK.length 6,.bool b.ready,.sl L 5 b.jt.length 0 b.jt.length 4,.int .i64 b.at_]
def Bk.bw(L:Nat)(b:Bk)(er:List Int):List Abs.aE:=[.cells b.an.length (b.an.flatMap jb.enc),.cells b.rules.length (b.rules.flatMap Trem.eE.enc),.cells b.zl.length (b.zl.flatMap Trem.Ev.enc),.cells b.fg.length (b.fg.flatMap xQ.enc),
 .cells b.mK.length (b.mK.flatMap Sd.enc),.cells b.jt.length (b.jt.flatMap F1.enc),.cells 0 (b.cells L),.cells er.length (er.flatMap aS)]
def nN:Bk:=⟨⟨⟨0,0,0,0⟩,[],0,0,0,[]⟩,[],[],[],[],1000,500,0,[],[],false,[],0⟩
def Prt.ok(last:Int)(p:Prt):Bool:=ct p.vY 0 last && ct p.width 1 100000
def yT:Int→List Prt→Bool
 |_,[]=>true
 |last,p::l=>p.ok last && yT p.vY l
def xQ.ok(u:xQ):Bool:=ct u.D3 0 5 && (ct u.parts.length 1 8 && yT 1000 u.parts)
def v8(l:List Prt):Nat→Int
 |0=>1000
 |i+1=>match l[i]? with
  |some p=>p.vY
  |none=>0
def CL(l:List Prt)(i:Nat):Bool:=match l[i]? with
 |some p=>p.ok (v8 l i)
 |none=>true
theorem Rl{l:List Prt}:yT 1000 l=true↔∀j,j<l.length→CL l j=true:=by
 have key:∀(r pre:List Prt),l=pre++r→(yT (v8 l pre.length) r=true↔∀j,j<r.length→CL l (pre.length+j)=true):=by
  intro r;induction r with
  |nil=>intro pre h;simp[yT]
  |cons p r ih =>
   intro pre h;have hp:l[pre.length]?=some p:=by rw[h];simp
   have h1:=ih (pre++[p]) (by rw[h];simp);have h2:v8 l (pre++[p]).length=p.vY:=by simp[v8,hp]
   rw[h2]at h1;simp only[yT,af,h1];constructor
   ·rintro⟨h3,h4⟩ j hj;cases j with
    |zero=>simpa[CL,hp]using h3
    |succ j =>
     have:=h4 j (by simpa using hj);rwa[show(pre++[p]).length+j=pre.length+(j+1)by simp;omega]at this
   ·intro h3;refine⟨?_,fun j hj=>?_⟩
    ·have:=h3 0 (by simp);simpa[CL,hp]using this
    ·have:=h3 (j+1) (by simpa using hj);rwa[show(pre++[p]).length+j=pre.length+(j+1)by simp;omega]
 have:=key l [] rfl;simpa[v8]using this
def xV(b:Bk)(x y z k:Int):Bk×Int :=
 if(b.bG.f.x=0∧b.bG.f.y=0)∧b.bG.f.z=0∧b.bG.f.k=0 then
  (if(fU.mk x y z k).valid=true∧4≤k then({b with bG:={b.bG with f:=⟨x,y,z,k⟩ } },0)else(b,1))
 else(b,8)
end Go.Book
namespace Go.Abs
open List(length_flatMap map_take)
open Go
variable {T:yN} {fv:D} {σ:SK}
theorem Rz{f w:Nat}{ag:Bool}(hT:T f=some (uP ag w))(h1:fv.strip=fv)(h2:fv.calm=fv):lim T (.call false f [.aG,fv] σ)=some (.val (.int .i64 (-1)) σ):=by
 refine aA hT (uP.eq_1 _ _) rfl ?_;simp[h1,h2];refine aN (Hn.eq_1 _ _) ?_;simp[h1,h2]
theorem contains_nil{f i w:Nat}{ag:Bool}(hT:T f=some (ju i))(hi:T i=some (uP ag w))(h1:fv.strip=fv)(h2:fv.calm=fv):lim T (.call false f [.aG,fv] σ)=some (.val (.bool false) σ):=by
 refine aA hT (ju.eq_1 _) rfl ?_;simp[h1,h2,Rz hi h1 h2]
theorem all_nil{f g h i w:Nat}{ag:Bool}(hf:T f=some (DN g h))(hh:T h=some (ju i))(hi:T i=some (uP ag w))(h1:fv.strip=fv)(h2:fv.calm=fv)(hcl:fv.cells=some [fv]):
  lim T (.call false f [.aG,fv] σ)=some (.val (.bool true) σ):=by
 refine aA hf (DN.eq_1 _ _) rfl ?_;have h3:=fun σ=>contains_nil (fv:=.fn g [] [.bD [fv]]) (σ:=σ) hh hi rfl rfl
 simp[h1,h2,h3,hcl]
end Go.Abs
namespace Go.Proofs.YtfgljaglidhjiaaGreatDoor
open List(length_flatMap map_take)
open Go Go.Abs Go.Rock Go.Book
variable {σ:SK}
theorem afx{F:List Abs.aE}{b:Bk}{er:List Int}{nm:List UInt8}{x y z k:Int}{b':Bk}{e:Int}(hd:xV b x y z k=(b',e))(he:e=0):
  lim T (.call false fx [.ref σ.length 6 0 0,.str nm,.aI 4 [.int .i64 x,.int .i64 y,.int .i64 z,.int .i64 k]] (F::b.bw σ.length er::σ))=some (.val (.dK []) (F::b'.bw σ.length er::σ)):=by
 refine gF vw j4.eq_1 rfl (by simp) ?_;unfold xV at hd;split at hd
 case isFalse=>cases hd;cases he
 rename_i h1;split at hd
 case isFalse=>cases hd;cases he
 rename_i h2;cases hd;obtain⟨⟨f1,f2⟩,f3,f4⟩:=h1;have hS:(fU.mk x y z k).shape=0:=by simp[fU.shape,h2.1]
 have hC:=fun σ=>jN (σ:=σ) (f:=⟨x,y,z,k⟩)
 simp only[hS]at hC;simp[-length_flatMap,-map_take,Bk.bw,Bk.cells,f1,f2,f3,f4,cF,hC,h2.2]
theorem QM{F:List Abs.aE}{b:Bk}{er:List Int}{nm:List UInt8}{x y z k:Int}{b':Bk}{e:Int}(hd:xV b x y z k=(b',e))(he:e≠0):
  lim T (.call false fx [.ref σ.length 6 0 0,.str nm,.aI 4 [.int .i64 x,.int .i64 y,.int .i64 z,.int .i64 k]] (F::b.bw σ.length er::σ))=some (.fY (rf e) (F::b.bw σ.length er::σ)):=by
 refine eh vw j4.eq_1 rfl ?_;have hC:=fun σ=>jN (σ:=σ) (f:=⟨x,y,z,k⟩)
 unfold xV at hd;split at hd
 ·rename_i h1;obtain⟨⟨f1,f2⟩,f3,f4⟩:=h1;split at hd
  ·cases hd;exact absurd rfl he
  rename_i h2;cases hd;by_cases h3:(fU.mk x y z k).valid=true
  ·have h4:¬4≤k:=fun hh=>h2 ⟨h3,hh⟩
   have hS:(fU.mk x y z k).shape=0:=by simp[fU.shape,h3]
   simp only[hS]at hC;simp[-length_flatMap,-map_take,Bk.bw,Bk.cells,f1,f2,f3,f4,cF,dF,hC,h4,D.clean,rf]
  ·have hS:(fU.mk x y z k).shape=1:=by simp[fU.shape,h3]
   simp only[hS]at hC;simp[-length_flatMap,-map_take,Bk.bw,Bk.cells,f1,f2,f3,f4,cF,dF,hC,D.clean,rf]
 ·rename_i h1;cases hd;have hz:(b.bG.f.x == 0 && (b.bG.f.y == 0 && (b.bG.f.z == 0 && b.bG.f.k == 0)))=false:=by
   cases hb:(b.bG.f.x == 0 && (b.bG.f.y == 0 && (b.bG.f.z == 0 && b.bG.f.k == 0)))with
   |false=>rfl
   |true =>
    simp only[af,beq_iff_eq]at hb;exact absurd ⟨⟨hb.1,hb.2.1⟩,hb.2.2.1,hb.2.2.2⟩ h1
  simp[-length_flatMap,-map_take,Bk.bw,Bk.cells,hz,dF,D.clean,rf]
theorem Fp{k0 k1 k2:Int}(hσ:σ≠[]):
  lim T (.call false pG [.aG,.aG,.agg [.int .i64 k0,.int .i64 k1,.int .i64 k2],.int .i64 0] σ) =
   some (.val (.dK [if Trem.rB k0 k1 k2 then .aI 0 []else .aG,.int .i64 (if Trem.rB k0 k1 k2 then 0 else 1)]) σ):=by
 refine aA FZ sP.eq_1 rfl ?_;have hA:=fun σ=>all_nil (T:=T) (σ:=σ) (fv:=.fn kI [] []) (f:=gZ) (ag:=false) (w:=1) rfl rfl rfl rfl rfl rfl
 have hB:=fun σ=>all_nil (T:=T) (σ:=σ) (fv:=.fn q7 [] []) (f:=pq) (ag:=false) (w:=1) rfl rfl rfl rfl rfl rfl
 have hC:Trem.Tj 0=true:=by decide
 by_cases c1:1000<k0
 ·have d1:¬k0≤1000:=by omega
  simp[-length_flatMap,-map_take,Trem.rB,hA,hB,Gt,hC,c1,d1]
 have d1:k0≤1000:=by omega
 by_cases c2:k0<k1
 ·have d2:¬k1≤k0:=by omega
  simp[-length_flatMap,-map_take,Trem.rB,hA,hB,Gt,hC,c1,c2,d1,d2]
 have d2:k1≤k0:=by omega
 by_cases c3:k1<k2
 ·have d3:¬k2≤k1:=by omega
  simp[-length_flatMap,-map_take,Trem.rB,hA,hB,Gt,hC,c1,c2,c3,d1,d2,d3]
 have d3:k2≤k1:=by omega
 by_cases c4:k2<0
 ·have d4:¬0≤k2:=by omega
  simp[-length_flatMap,-map_take,Trem.rB,hA,hB,Gt,hC,c1,c2,c3,c4,d1,d2,d3,d4]
 have d4:0≤k2:=by omega
 simp[-length_flatMap,-map_take,Trem.rB,hA,hB,Gt,hC,c1,c2,c3,c4,d1,d2,d3,d4];refine aN wu.eq_1 ?_;simp[-length_flatMap,-map_take,d1,d2,d3,d4];have h3:¬σ.length≤σ.length-1:=by have:=aL.2 hσ;omega
 refine⟨[.dead],?_⟩;rw[B4 (by simp[D.bg,D.clean]) (by omega)];have h6:=Dh (l:=σ.length-1) (n:=15) (l':=σ.length) (i:=0) (v:=0) (off:=0) (m:=0) (w:=1) (σ:=[Abs.aE.cells 0 []]::σ) (cs:=[]) h3 (by simp) (by omega);simp only[Nat.reduceSub,cr.frzL,h6];simp
def LF(b:Bk)(k0 k1 k2:Int):Bk:={b with k0:=k0,k1:=k1,k2:=k2 }
theorem anb{F:List Abs.aE}{b:Bk}{er:List Int}{nm:List UInt8}{x y z:Int}(h:Trem.rB x y z=true):
  lim T (.call false ga [.ref σ.length 6 0 0,.str nm,.aI 3 [.int .i64 x,.int .i64 y,.int .i64 z]] (F::b.bw σ.length er::σ))=some (.val (.dK []) (F::(LF b x y z).bw σ.length er::σ)):=by
 refine gF wc kO.eq_1 rfl (by simp) ?_;have hI:=fun σ hσ=>Fp (σ:=σ) (k0:=x) (k1:=y) (k2:=z) hσ
 simp only[h,if_true]at hI;simp[-length_flatMap,-map_take,hI,meD,oO,Bk.bw,Bk.cells,LF]
theorem SC{F:List Abs.aE}{b:Bk}{er:List Int}{nm:List UInt8}{x y z:Int}(h:Trem.rB x y z=false):
  lim T (.call false ga [.ref σ.length 6 0 0,.str nm,.aI 3 [.int .i64 x,.int .i64 y,.int .i64 z]] (F::b.bw σ.length er::σ))=some (.fY (rf 1) (F::b.bw σ.length er::σ)):=by
 refine eh wc kO.eq_1 rfl ?_;have hI:=fun σ hσ=>Fp (σ:=σ) (k0:=x) (k1:=y) (k2:=z) hσ
 simp only[h]at hI;have hM:=fun σ=>pU (σ:=σ) (e:=1) (by decide)
 simp[-length_flatMap,-map_take,hI,meD,hM,Bk.bw,Bk.cells,D.clean,rf]
theorem Kx{r:Trem.eE}:lim T (.call false iK [.aI 1 r.enc,.aG,.int .i64 0] σ)=some (.val (.dK [.int .u8 0,.int .u8 0,.int .i64 (if r.ok then 0 else 1)]) σ):=by
 refine aA xa ou.eq_1 rfl ?_;have hA:=fun σ=>@MD σ [r] (by simp)
 have hN:=fun σ=>all_nil (T:=T) (σ:=σ) (fv:=.fn ef [] []) (f:=dc) (ag:=true) (w:=2) rfl rfl rfl rfl rfl rfl
 simp only[List.length_singleton,aW,dN,dL,gU,jO,List.all_nil,Bool.and_true]at hA;have w0:Trem.ct 0 0 1000000=true:=by decide
 cases hr:r.ok
 ·rw[hr]at hA;simp only[Trem.eE.enc]at hA ⊢;simp[-length_flatMap,-map_take,hA]
 ·rw[hr]at hA;have hc:=(Trem.HC.1 hr).2.2.2.1;have c1:¬r.count≤0:=by omega
  simp only[Trem.eE.enc]at hA ⊢;simp[-length_flatMap,-map_take,hA,hN,gz,w0];refine aN gN.eq_1 ?_;simp[-length_flatMap,-map_take];refine aN lX.eq_1 ?_;simp[-length_flatMap,-map_take,c1];refine aN gN.eq_1 ?_;simp[-length_flatMap,-map_take,c1]
def Bl(b:Bk)(r:Trem.eE)(c:Int):Bk×Int :=
 if b.rules.length<20 then(if ct c 1 2=true then(if r.ok=true then({b with rules:=b.rules++[r] },0)else(b,1))else(b,1))else(b,3)
theorem aeN(l:List Trem.eE):(l.flatMap Trem.eE.enc).length=l.length*10:=bT (f:=Trem.eE.enc) (w:=10) (fun _=>rfl) l
theorem anh{F:List Abs.aE}{b:Bk}{er:List Int}{nm:List UInt8}{x0 x1 x2 x3 x4 x5 x6 x7 x8 x9:Int}{b':Bk}{e:Int}(hd:Bl b ⟨⟨x0,x1,x2⟩,⟨x3,x4,x5⟩,x6,x7,x8,x9⟩ x9=(b',e))(he:e=0):
  lim T (.call false gg [.ref σ.length 6 0 0,.str nm,.aI 10 [.int .i64 x0,.int .i64 x1,.int .i64 x2,.int .i64 x3,.int .i64 x4,.int .i64 x5,.int .i64 x6,.int .i64 x7,.int .i64 x8,.int .i64 x9]] (F::b.bw σ.length er::σ))=some (.val (.dK []) (F::b'.bw σ.length er::σ)):=by
 refine gF wg kQ.eq_1 rfl (by simp) ?_;have hL:=fun σ=>Kx (σ:=σ) (r:=⟨⟨x0,x1,x2⟩,⟨x3,x4,x5⟩,x6,x7,x8,x9⟩)
 unfold Bl at hd;split at hd
 case isFalse=>cases hd;cases he
 rename_i h1;split at hd
 case isFalse=>cases hd;cases he
 rename_i h2;split at hd
 case isFalse=>cases hd;cases he
 rename_i h3;cases hd;have h1':(b.rules.length:Int)<20:=by omega
 have h4:=bf.1 h2;have w1:IntKind.u8.wrap x9=x9:=wu8 (by omega);have w2:(b.rules.length+1)*80≤room:=by unfold room;omega
 have w3:=aeN b.rules;have w4:(b.rules.flatMap Trem.eE.enc).take (b.rules.length*10)=b.rules.flatMap Trem.eE.enc:=aj (by omega);simp only[h3,if_true,Trem.eE.enc]at hL;simp[-length_flatMap,-map_take,Bk.bw,Bk.cells,h1',fj,h2,cF,w1,hL,oO,w2,w3,w4]
theorem SQ{F:List Abs.aE}{b:Bk}{er:List Int}{nm:List UInt8}{x0 x1 x2 x3 x4 x5 x6 x7 x8 x9:Int}{b':Bk}{e:Int}(hd:Bl b ⟨⟨x0,x1,x2⟩,⟨x3,x4,x5⟩,x6,x7,x8,x9⟩ x9=(b',e))(he:e≠0):
  lim T (.call false gg [.ref σ.length 6 0 0,.str nm,.aI 10 [.int .i64 x0,.int .i64 x1,.int .i64 x2,.int .i64 x3,.int .i64 x4,.int .i64 x5,.int .i64 x6,.int .i64 x7,.int .i64 x8,.int .i64 x9]] (F::b.bw σ.length er::σ))=some (.fY (rf e) (F::b.bw σ.length er::σ)):=by
 refine eh wg kQ.eq_1 rfl ?_;have hL:=fun σ=>Kx (σ:=σ) (r:=⟨⟨x0,x1,x2⟩,⟨x3,x4,x5⟩,x6,x7,x8,x9⟩)
 have hM:=fun σ=>pU (σ:=σ) (e:=1) (by decide)
 unfold Bl at hd;split at hd
 ·rename_i h1;have h1':(b.rules.length:Int)<20:=by omega
  split at hd
  ·rename_i h2;have h4:=bf.1 h2;have w1:IntKind.u8.wrap x9=x9:=wu8 (by omega);split at hd
   ·cases hd;exact absurd rfl he
   ·rename_i h3;cases hd;have h3':Trem.eE.ok ⟨⟨x0,x1,x2⟩,⟨x3,x4,x5⟩,x6,x7,x8,x9⟩=false:=by simpa using h3
    simp only[h3',Trem.eE.enc]at hL;simp[-length_flatMap,-map_take,Bk.bw,Bk.cells,h1',fj,h2,cF,w1,hL,hM,D.clean,rf]
  ·rename_i h2;cases hd;have h2':ct x9 1 2=false:=by simpa using h2
   simp[-length_flatMap,-map_take,Bk.bw,Bk.cells,h1',fj,h2',cF,dF,D.clean,rf]
 ·rename_i h1;cases hd;have h1':¬(b.rules.length:Int)<20:=by omega
  simp[-length_flatMap,-map_take,Bk.bw,Bk.cells,h1',dF,D.clean,rf]
theorem um{α:Type}{f:α→List D}{l:List α}:(nl f l).wE=.aI l.length (l.flatMap f):=by
 unfold nl;split
 ·rename_i h;subst h;rfl
 ·rfl
theorem anO{l:List bH}:(nl bH.enc l).clean=true:=by unfold nl;split<;>simp[D.clean,bu]
theorem zH{b:cz}{tq wq:D}(htq:tq.wE=.aI b.cq.length (b.cq.flatMap Rw.enc))(hwq:wq.wE=.aI b.ar.length (b.ar.flatMap bH.enc))(h1:b.cq.length≤1000000000)(h2:b.ar.length≤1000000000):
  lim T (.call false mS [.agg [.int .i64 b.f.x,.int .i64 b.f.y,.int .i64 b.f.z,.int .i64 b.f.k,tq,.int .i64 b.bJ,.int .i64 b.lift,.int .i64 b.deep,wq]] σ)=some (.val (.int .i64 (if b.valid then 0 else 1)) σ):=by
 refine aA FX sO.eq_1 rfl ?_;have hB:=fun σ=>AW (σ:=σ) (b:=b) h1 h2
 cases hv:b.valid<;>rw[hv]at hB<;>simp[-length_flatMap,-map_take,htq,hwq,hB,cK,bu]
def JB(b:Bk)(x y z:Int):Bk:={b with bG:={b.bG with bJ:=x,lift:=y,deep:=z },ready:=true }
def Fz(b:Bk)(x y z:Int):Bk×Int :=
 if((b.bG.f.x=0∧b.bG.f.y=0)∧b.bG.f.z=0∧b.bG.f.k=0)∨b.bG.cq=[]∨b.ready=true then(b,8)
 else if(JB b x y z).bG.valid=true then(JB b x y z,0)else(b,1)
theorem Hk{f:fU}:(f.x == 0 && (f.y == 0 && (f.z == 0 && f.k == 0)))=decide ((f.x=0∧f.y=0)∧f.z=0∧f.k=0):=by
 by_cases h1:f.x=0<;>by_cases h2:f.y=0<;>by_cases h3:f.z=0<;>by_cases h4:f.k=0<;>simp[h1,h2,h3,h4]
theorem eK{α:Type}{f:α→List D}{l:List α}(h:l≠[]):nl f l=.aI l.length (l.flatMap f):=if_neg h
theorem am7{F:List Abs.aE}{b:Bk}{er:List Int}{nm:List UInt8}{x y z:Int}{b':Bk}{e:Int}(h1:b.bG.cq.length≤1000000000)(h2:b.bG.ar.length≤1000000000)(hd:Fz b x y z=(b',e))(he:e=0):
  lim T (.call false gO [.ref σ.length 6 0 0,.str nm,.aI 3 [.int .i64 x,.int .i64 y,.int .i64 z]] (F::b.bw σ.length er::σ))=some (.val (.dK []) (F::b'.bw σ.length er::σ)):=by
 refine gF wX lU.eq_1 rfl (by simp) ?_;unfold Fz at hd;split at hd
 case isTrue=>cases hd;cases he
 rename_i h0;split at hd
 case isFalse=>cases hd;cases he
 rename_i h3;cases hd;have c1:(b.bG.f.x == 0 && (b.bG.f.y == 0 && (b.bG.f.z == 0 && b.bG.f.k == 0)))=false:=by rw[Hk];simpa using fun hh=>h0 (.inl hh)
 have c2:b.bG.cq≠[]:=fun hh=>h0 (.inr (.inl hh))
 have c3:b.ready=false:=by cases hr:b.ready with | false=>rfl | true=>exact absurd (.inr (.inr hr)) h0
 have c4:0<b.bG.cq.length:=aL.2 c2;have hcl:(D.aI b.bG.cq.length (b.bG.cq.flatMap Rw.enc)).clean=true:=by simp[D.clean,cK]
 have hC:=fun σ=>zH (σ:=σ) (b:=(JB b x y z).bG) (tq:=nl Rw.enc b.bG.cq) (wq:=nl bH.enc b.bG.ar) um um h1 h2
 rw[h3]at hC;simp only[eK c2,JB]at hC;simp[-length_flatMap,-map_take,Bk.bw,Bk.cells,c1,eK c2,c4,c3,cF,oO,hC,JB,anO,hcl]
theorem Ss{F:List Abs.aE}{b:Bk}{er:List Int}{nm:List UInt8}{x y z:Int}{b':Bk}{e:Int}(h1:b.bG.cq.length≤1000000000)(h2:b.bG.ar.length≤1000000000)(hd:Fz b x y z=(b',e))(he:e≠0):
  lim T (.call false gO [.ref σ.length 6 0 0,.str nm,.aI 3 [.int .i64 x,.int .i64 y,.int .i64 z]] (F::b.bw σ.length er::σ))=some (.fY (rf e) (F::b.bw σ.length er::σ)):=by
 refine eh wX lU.eq_1 rfl ?_;have hM:=fun σ=>pU (σ:=σ) (e:=1) (by decide)
 unfold Fz at hd;split at hd
 ·rename_i h0;cases hd;cases c1:(b.bG.f.x == 0 && (b.bG.f.y == 0 && (b.bG.f.z == 0 && b.bG.f.k == 0)))
  ·by_cases c2:b.bG.cq=[]
   ·simp[-length_flatMap,-map_take,Bk.bw,Bk.cells,c1,c2,nl,dF,D.clean,rf]
   ·have c4:0<b.bG.cq.length:=aL.2 c2;have c3:b.ready=true:=by
     rw[Hk]at c1;rcases h0 with h | h | h
     ·exact absurd h (by simpa using c1)
     ·exact absurd h c2
     ·exact h
    simp[-length_flatMap,-map_take,Bk.bw,Bk.cells,c1,eK c2,c4,c3,dF,D.clean,rf]
  ·simp[-length_flatMap,-map_take,Bk.bw,Bk.cells,c1,dF,D.clean,rf]
 ·rename_i h0;split at hd
  ·cases hd;exact absurd rfl he
  rename_i h3;cases hd;have c1:(b.bG.f.x == 0 && (b.bG.f.y == 0 && (b.bG.f.z == 0 && b.bG.f.k == 0)))=false:=by rw[Hk];simpa using fun hh=>h0 (.inl hh)
  have c2:b.bG.cq≠[]:=fun hh=>h0 (.inr (.inl hh))
  have c3:b.ready=false:=by cases hr:b.ready with | false=>rfl | true=>exact absurd (.inr (.inr hr)) h0
  have c4:0<b.bG.cq.length:=aL.2 c2;have hC:=fun σ=>zH (σ:=σ) (b:=(JB b x y z).bG) (tq:=nl Rw.enc b.bG.cq) (wq:=nl bH.enc b.bG.ar) um um h1 h2
  have h3':(JB b x y z).bG.valid=false:=by simpa using h3
  rw[h3']at hC;simp only[eK c2,JB]at hC;simp[-length_flatMap,-map_take,Bk.bw,Bk.cells,c1,eK c2,c4,c3,cF,hM,hC,D.clean,rf]
theorem G1(l:List bH):(l.flatMap bH.enc).length=l.length*3:=bT (f:=bH.enc) (w:=3) (fun _=>rfl) l
theorem Iu{bs:List Abs.aE}:lim T (.call true eL [.aG] (bs::σ))=some (.val (.sl σ.length (bs.length+1) 0 0 0 3) ((bs++[.cells 0 [],.cells 0 []])::σ)):=by
 refine wF se gA.eq_1 rfl ?_;simp[-length_flatMap,-map_take]
theorem KB{bs:List Abs.aE}{l:List bH}(hne:l≠[])(hl:l.length≤1000000):lim T (.call true eL [.aI l.length (l.flatMap bH.enc)] (bs::σ)) =
  some (.val (.sl σ.length (bs.length+1) 1 0 l.length 3) ((bs++[.cells 0 [],.cells 1 (l.flatMap bH.enc)])::σ)):=by
 refine wF se gA.eq_1 rfl ?_;have h7:l.length*24≤room:=by unfold room;omega
 simp[-length_flatMap,-map_take,hne,G1,h7]
def wz(b:Bk)(x y z:Int):Bk:={b with bG:={b.bG with ar:=b.bG.ar++[⟨x,y,z⟩] } }
def yS(b:Bk)(x y z:Int):Bk×Int :=
 if b.ready=true∧b.an=[]then(if(wz b x y z).bG.valid=true then(wz b x y z,0)else(b,1))else(b,8)
theorem anq{F:List Abs.aE}{b:Bk}{er:List Int}{nm:List UInt8}{x y z:Int}{b':Bk}{e:Int}(ht:b.bG.cq≠[])(h1:b.bG.cq.length≤1000000000)(h2:b.bG.ar.length≤1000000)(hd:yS b x y z=(b',e))(he:e=0):
  lim T (.call false gk [.ref σ.length 6 0 0,.str nm,.aI 3 [.int .i64 x,.int .i64 y,.int .i64 z]] (F::b.bw σ.length er::σ))=some (.val (.dK []) (F::b'.bw σ.length er::σ)):=by
 refine gF wo kU.eq_1 rfl (by simp) ?_;unfold yS at hd;split at hd
 case isFalse=>cases hd;cases he
 rename_i h0;obtain⟨c1,c2⟩:=h0;split at hd
 case isFalse=>cases hd;cases he
 rename_i h3;cases hd;have hC:=fun σ=>zH (σ:=σ) (b:=(wz b x y z).bG) (tq:=.aI b.bG.cq.length (b.bG.cq.flatMap Rw.enc)) (wq:=.aI (b.bG.ar.length+1) (b.bG.ar.flatMap bH.enc++[.int .i64 x,.int .i64 y,.int .i64 z])) rfl (by simp[wz,D.wE]) h1 (by simp[wz];omega)
 rw[h3]at hC;simp only[wz]at hC;have hcl:(D.aI b.bG.cq.length (b.bG.cq.flatMap Rw.enc)).clean=true:=by simp[D.clean,cK]
 have hroom:(b.bG.ar.length+1)*24≤room:=by unfold room;omega
 have hlen:=G1 b.bG.ar;have htake:(b.bG.ar.flatMap bH.enc).take (b.bG.ar.length*3)=b.bG.ar.flatMap bH.enc:=aj (by omega);have hcw:D.bg (b.bG.ar.flatMap bH.enc++[.int .i64 x,.int .i64 y,.int .i64 z])=true:=by
  have:=bu (b.bG.ar++[⟨x,y,z⟩]);simpa using this
 have hfr:∀(v:Nat) (S:SK),S.length=σ.length+1+1→cr 0 16 (.sl (σ.length+1+1) 1 v 0 (b.bG.ar.length+1) 3) ([.cells 0 [],.cells v (b.bG.ar.flatMap bH.enc++[.int .i64 x,.int .i64 y,.int .i64 z])]::S) =
   (.aI (b.bG.ar.length+1) (b.bG.ar.flatMap bH.enc++[.int .i64 x,.int .i64 y,.int .i64 z]),[.cells 0 [],.dead]::S):=by
  intro v S hS;have:=BB (f:=bH.enc) (w:=3) (fun _=>rfl) (fun _=>by simp[D.clean]) (l:=b.bG.ar++[⟨x,y,z⟩]) (j:=1) (v:=v) (bs:=[Abs.aE.cells 0 [],.cells v (b.bG.ar.flatMap bH.enc++[.int .i64 x,.int .i64 y,.int .i64 z])]) (σ:=S) (by intro h;subst h;simp at hS) (by simp);rw[hS]at this;simpa using this
 have h24:24≤room:=by unfold room;omega
 have hcw2:(D.aI (b.bG.ar.length+1) (b.bG.ar.flatMap bH.enc++[.int .i64 x,.int .i64 y,.int .i64 z])).clean=true:=by simpa[D.clean]using hcw
 by_cases hw:b.bG.ar=[]
 ·have hfr':=hfr;simp only[hw,bF,dN,aX,cS]at hfr' hC;have ht':=eK (f:=Rw.enc) ht;simp only[nl]at ht';simp[-length_flatMap,-map_take,Bk.bw,Bk.cells,c1,c2,ht',hC,hw,nl,cF,oO,Iu,wz,hcl,h24,hfr']
 ·simp[-length_flatMap,-map_take,Bk.bw,Bk.cells,c1,c2,eK ht,eK hw,cF,oO,KB hw h2,wz,hcl,hroom,hlen,htake,hfr,hC,hcw2];simp[nl]
theorem S0{F:List Abs.aE}{b:Bk}{er:List Int}{nm:List UInt8}{x y z:Int}{b':Bk}{e:Int}(ht:b.ready=true→b.bG.cq≠[])(h1:b.bG.cq.length≤1000000000)(h2:b.bG.ar.length≤1000000)(hd:yS b x y z=(b',e))(he:e≠0):
  lim T (.call false gk [.ref σ.length 6 0 0,.str nm,.aI 3 [.int .i64 x,.int .i64 y,.int .i64 z]] (F::b.bw σ.length er::σ))=some (.fY (rf e) (F::b.bw σ.length er::σ)):=by
 refine eh wo kU.eq_1 rfl ?_;have hM:=fun σ=>pU (σ:=σ) (e:=1) (by decide)
 have hrc:(D.uj 311 (.agg [.int .i64 1])).clean=true:=rfl;unfold yS at hd;split at hd
 case isFalse h0 =>
  cases hd;cases c1:b.ready with
  |false=>simp[-length_flatMap,-map_take,Bk.bw,Bk.cells,c1,dF,D.clean,rf]
  |true =>
   have c2:b.an≠[]:=fun hh=>h0 ⟨c1,hh⟩
   have c2':((b.an.length:Int) == 0)=false:=by simpa using c2
   simp[-length_flatMap,-map_take,Bk.bw,Bk.cells,c1,c2',dF,D.clean,rf]
 rename_i h0;obtain⟨c1,c2⟩:=h0;have ht:=ht c1;split at hd
 case isTrue=>cases hd;exact absurd rfl he
 rename_i h3;cases hd;have h3':(wz b x y z).bG.valid=false:=by simpa using h3
 have hC:=fun σ=>zH (σ:=σ) (b:=(wz b x y z).bG) (tq:=.aI b.bG.cq.length (b.bG.cq.flatMap Rw.enc)) (wq:=.aI (b.bG.ar.length+1) (b.bG.ar.flatMap bH.enc++[.int .i64 x,.int .i64 y,.int .i64 z])) rfl (by simp[wz,D.wE]) h1 (by simp[wz];omega)
 rw[h3']at hC;simp only[wz]at hC;have hcl:(D.aI b.bG.cq.length (b.bG.cq.flatMap Rw.enc)).clean=true:=by simp[D.clean,cK]
 have hroom:(b.bG.ar.length+1)*24≤room:=by unfold room;omega
 have hlen:=G1 b.bG.ar;have htake:(b.bG.ar.flatMap bH.enc).take (b.bG.ar.length*3)=b.bG.ar.flatMap bH.enc:=aj (by omega);have hcw:D.bg (b.bG.ar.flatMap bH.enc++[.int .i64 x,.int .i64 y,.int .i64 z])=true:=by
  have:=bu (b.bG.ar++[⟨x,y,z⟩]);simpa using this
 have hfr:∀(v:Nat) (S:SK),S.length=σ.length+1+1→cr 0 16 (.sl (σ.length+1+1) 1 v 0 (b.bG.ar.length+1) 3) ([.cells 0 [],.cells v (b.bG.ar.flatMap bH.enc++[.int .i64 x,.int .i64 y,.int .i64 z])]::S) =
   (.aI (b.bG.ar.length+1) (b.bG.ar.flatMap bH.enc++[.int .i64 x,.int .i64 y,.int .i64 z]),[.cells 0 [],.dead]::S):=by
  intro v S hS;have:=BB (f:=bH.enc) (w:=3) (fun _=>rfl) (fun _=>by simp[D.clean]) (l:=b.bG.ar++[⟨x,y,z⟩]) (j:=1) (v:=v) (bs:=[Abs.aE.cells 0 [],.cells v (b.bG.ar.flatMap bH.enc++[.int .i64 x,.int .i64 y,.int .i64 z])]) (σ:=S) (by intro h;subst h;simp at hS) (by simp);rw[hS]at this;simpa using this
 have h24:24≤room:=by unfold room;omega
 have hcw2:(D.aI (b.bG.ar.length+1) (b.bG.ar.flatMap bH.enc++[.int .i64 x,.int .i64 y,.int .i64 z])).clean=true:=by simpa[D.clean]using hcw
 by_cases hw:b.bG.ar=[]
 ·have hfr':=hfr;simp only[hw,bF,dN,aX,cS]at hfr' hC;have ht':=eK (f:=Rw.enc) ht;simp only[nl]at ht';simp[-length_flatMap,-map_take,Bk.bw,Bk.cells,c1,c2,ht',hC,hw,nl,cF,hM,Iu,wz,hcl,h24,hfr',rf,hrc]
 ·simp[-length_flatMap,-map_take,Bk.bw,Bk.cells,c1,c2,eK ht,eK hw,cF,hM,KB hw h2,wz,hcl,hroom,hlen,htake,hfr,hC,hcw2,rf,hrc]
end Go.Proofs.YtfgljaglidhjiaaGreatDoor
