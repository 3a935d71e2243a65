import Derived.Test.YtklfdfnoebnciaaGreatDoorTxt1
import Derived.Test.YtklfdfnoebnciaaGreatDoorTxt0
import Derived.Test.YtklfdfnoebnciaaGreatDoorBase20
import Derived.Test.YtklfdfnoebnciaaGreatDoorTab
set_option linter.all false
namespace Go.Proofs.YtklfdfnoebnciaaGreatDoor
open List(length_flatMap map_take)
open Go Go.Abs Go.Rock
variable {σ:SK}
theorem FW{l i v off:Nat}:lim T (.xj fg [.ref l i v off] none σ)=some (.val (.dQ []) σ):=by
 refine Ax xZ pc.eq_1 rfl (by simp[-length_flatMap,-map_take,rJ];exact⟨rfl,rfl⟩) ?_;simp[-length_flatMap,-map_take]
theorem QR{F:List Abs.aG}(hF:F=[.cells 0 [.int .i64 0]]):lim T (.xj fg [.ref σ.length 0 0 0] (some (.tQ 259 (.agg []))) (F::σ))=some (.val (.dQ []) ([.cells 0 [.int .i64 9]]::σ)):=by
 subst hF;refine Ax xZ pc.eq_1 rfl (by simp[-length_flatMap,-map_take,rJ];exact⟨rfl,rfl⟩) ?_;simp[-length_flatMap,-map_take]
theorem sS{α:Type}{f:α→Int}:∀{l:List α},cN f l=0→∀x∈l,f x=0
 |[],_,x,hx=>by cases hx
 |a::l,h,x,hx=>by
  simp only[cN]at h;split at h
  ·rename_i ha;rcases bq.1 hx with rfl | hx
   ·exact ha
   ·exact sS h x hx
  ·rename_i ha;exact absurd h ha
theorem zy{b:cf}{av:List (List Int)}(h:vK b av=0):av.length≤200∧∀r∈av,Rv b r:=by
 unfold vK at h;split at h
 ·cases h
 ·exact⟨by omega,fun r hr=>Rv.of (sS h r hr)⟩
def tV(b:cf)(m:cF)(av:List (List Int)):Int:=if Bd b m then(if vK b av=0 then(match Rock.run b m av with | some _=>0 | none=>9)else vK b av)else 1
def yN(b:cf)(m:cF)(av:List (List Int)):D:=if tV b m av=0 then(match Rock.run b m av with | some (ss,ys) => .agg [.aE ss.length (ss.flatMap xM),.aE ys.length (ys.flatMap xM)] | none => .agg [.aI,.aI])else .agg [.aI,.aI]
theorem P5{b:cf}{m:cF}{av:List (List Int)}{wq:D}(hwq:wq.vQ=.aE b.ak.length (b.ak.flatMap bB.enc))(h1:b.cc.length≤1000000000)(h2:b.ak.length≤1000000000)(hn:m.name.length≤1000000000)(hl:m.bf.length≤1000000000)(hp:av.length≤1000000000)(hs:∀l∈av,l.length≤1000000000)(hσ:σ≠[]):
  lim T (.call false sT [.agg [.int .i64 b.f.x,.int .i64 b.f.y,.int .i64 b.f.z,.int .i64 b.f.k,.aE b.cc.length (b.cc.flatMap Rw.enc),.int .i64 b.bD,.int .i64 b.lift,.int .i64 b.deep,wq],.agg [.str m.name,.aE m.bf.length (m.bf.flatMap aU)],.aE av.length (av.flatMap E9)] σ)=some (.val (.dQ [yN b m av,.int .i64 (tV b m av)]) σ):=by
 have hP:=fun σ=>Qp (σ:=σ) (b:=b) hp hs
 cases hb:Bd b m
 ·have hE:tV b m av=1:=by simp[tV,hb]
  have hD:yN b m av=.agg [.aI,.aI]:=by simp[yN,hE]
  rw[hD,hE];refine au Ao sO.eq_1 rfl ?_;obtain⟨d,hB,hd1,hd2⟩:=MC h1 h2 hn hl hb (σ:=[.cells 0 [.int .i64 0]]::σ);simp[-length_flatMap,-map_take,hwq,hB,hd1,cq,bg,bj]
 ·have hB:=fun σ=>adl (σ:=σ) h1 h2 hn hl hb
  by_cases hq:vK b av=0
  ·obtain⟨p1,p2⟩:=zy hq;simp only[Bd,ae]at hb;have hf:Fv b m:=Fv.of (by simp[Bd,hb]);have hb':Bd b m=true:=by simp[Bd,hb]
   refine JX Ao sO.eq_1 rfl rfl ?_;cases hrun:Rock.run b m av with
   |none =>
    have hE:tV b m av=9:=by simp[tV,hb',hq,hrun]
    have hD:yN b m av=.agg [.aI,.aI]:=by simp[yN,hE]
    have hR:=fun σ=>MF (σ:=σ) hf p1 p2 hrun
    have hX:vt T (.fn fg [] []) [.ref σ.length 0 0 0] (some (.tQ 259 (.agg []))) ([.cells 0 [.int .i64 0]]::σ)=some ([.cells 0 [.int .i64 9]]::σ):=uy (QR rfl);rw[hD,hE];simp[-length_flatMap,-map_take,Jp,Ad,hwq,hB,hP,hq,hR,cq,bg,bj];rw[yC wI.eq_1];simp[-length_flatMap,-map_take,Jp,Ad,hX,hR,cq,bg,bj]
   |some p =>
    obtain⟨ss,ys⟩:=p;have hE:tV b m av=0:=by simp[tV,hb',hq,hrun]
    have hD:yN b m av=.agg [.aE ss.length (ss.flatMap xM),.aE ys.length (ys.flatMap xM)]:=by simp[yN,hE,hrun]
    have hX:vt T (.fn fg [] []) [.ref σ.length 0 0 0] none ([.cells 0 [.int .i64 0]]::σ)=some ([.cells 0 [.int .i64 0]]::σ):=uy FW;have hR:=fun σ hσ=>MG (σ:=σ) hf p1 p2 hσ hrun
    rw[hD,hE];simp[-length_flatMap,-map_take,Jp,Ad,hwq,hB,hP,hq,hR,cq,bg,bj];rw[yC wI.eq_1];simp[-length_flatMap,-map_take,Jp,Ad,hX,hR,cq,bg,bj];rw[kV (by simp[D.clean,HE]) (by omega)];exact⟨_,rfl⟩
  ·have hE:tV b m av=vK b av:=by simp[tV,hb,hq]
   have hD:yN b m av=.agg [.aI,.aI]:=by simp[yN,hE,hq]
   rw[hD,hE];refine au Ao sO.eq_1 rfl ?_;simp[-length_flatMap,-map_take,hwq,hB,hP,hq,cq,bg,bj]
end Go.Proofs.YtklfdfnoebnciaaGreatDoor
namespace Go.Book
open List(length_flatMap map_take)
open Go Go.Abs Go.Rock
def Pz(s:List UInt8):Option Int:=if((u7 s).1=0∧HT (u7 s).2=s)∧bT (u7 s).2 (-999999999) 999999999=true then some (u7 s).2 else none
def xH:List (List UInt8)→Option (List Int)
 |[]=>some []
 |s::l=>match Pz s with
  |some n=>(xH l).map (n :: ·)
  |none=>none
structure Wd where
 named:Bool
 least:Int
 step:Int
 k:Nat
def sY:List (List UInt8×Wd):=[
 ([102,105,101,108,100],⟨false,4,0,0⟩),([116,97,98,108,101],⟨false,0,5,1⟩),([98,101,100],⟨false,3,0,2⟩),([119,101,108,108],⟨false,3,0,3⟩),
 ([109,111,100,101,108],⟨true,0,1,4⟩),([108,111,103],⟨true,3,2,5⟩),([114,117,108,101],⟨false,10,0,6⟩),([107,101,101,112],⟨false,3,0,7⟩),
 ([113,117,97,107,101],⟨false,0,4,8⟩),([116,105,99,107],⟨false,0,1,9⟩),([114,101,97,100],⟨false,4,0,10⟩),([117,110,105,116],⟨false,1,2,11⟩),([115,101,108,108],⟨false,4,0,12⟩)]
def B4(s:List UInt8):List (List UInt8×Wd)→Option Wd
 |[]=>none
 |(k,w)::l=>if s=k then some w else B4 s l
def xR(s:List UInt8):Option Wd:=B4 s sY
theorem D7{s:List UInt8}{w:Wd}:∀{l:List (List UInt8×Wd)},B4 s l=some w→(s,w)∈l
 |[],h=>by cases h
 |(k,v)::l,h=>by
  simp only[B4]at h;split at h
  ·rename_i e;cases h;subst e;simp
  ·exact List.mem_cons_of_mem _ (D7 h)
theorem DK{s:List UInt8}{w:Wd}(h:xR s=some w):0≤w.least∧w.least≤10∧0≤w.step∧w.step≤5∧w.k<13:=by
 have h1:=D7 h;simp only[sY,bq,aj,List.not_mem_nil,or_false]at h1;rcases h1 with⟨_,rfl⟩ | ⟨_,rfl⟩ | ⟨_,rfl⟩ | ⟨_,rfl⟩ | ⟨_,rfl⟩ | ⟨_,rfl⟩ | ⟨_,rfl⟩ | ⟨_,rfl⟩ | ⟨_,rfl⟩ | ⟨_,rfl⟩ | ⟨_,rfl⟩ | ⟨_,rfl⟩ | ⟨_,rfl⟩<;>simp
def Gj(w:Wd)(n:Int):Bool:=decide (n-w.least=0) || (decide (0<n-w.least) && (decide (0<w.step) && decide ((n-w.least).tmod w.step=0)))
def vy(w:Wd)(name:List UInt8)(l:List (List UInt8)):Option (Wd×List UInt8×List Int) :=
 match xH l with
 |some ns=>if Gj w ns.length=true then some (w,name,ns)else none
 |none=>none
def parse(s:List UInt8):Option (Wd×List UInt8×List Int) :=
 match gk 32 s with
 |[]=>none
 |a::all=>match xR a with
  |none=>none
  |some w=>if w.named=true then(match all with
   |[]=>none
   |n::r=>vy w n r)else vy w [] all
theorem Bu(b:UInt8)(s:List UInt8):gk b s≠[]:=by
 cases s with
 |nil=>simp[gk]
 |cons c r =>
  simp only[gk];split
  ·simp
  ·split<;>simp
theorem zH(b:UInt8):∀s:List UInt8,(gk b s).length≤s.length+1
 |[]=>by simp[gk]
 |c::r=>by
  have:=zH b r;simp only[gk];split
  ·simp;omega
  ·split
   ·rename_i h;rw[h]at this;simp at this ⊢;omega
   ·simp
end Go.Book
namespace Go.Proofs.YtklfdfnoebnciaaGreatDoor
open List(length_flatMap map_take)
open Go Go.Abs Go.Rock Go.Book
variable {σ:SK}
theorem Gx{T:zO}{kp:Bool}{f k:Nat}{args:List D}{σ:SK}{r:R}(hT:T f=none)(hN:T (1000000+f)=some ⟨k,[],.exit 0⟩)(h:IZ k args σ=some r):lim T (.call kp f args σ)=some r :=
 gX (by simp[da,hT,hN,h])
def rf(e:Int):D:=.tQ 90 (.agg [.int .i64 e])
theorem cl{e:Int}:lim T (.call false aX [.bool true,.int .i64 e] σ)=some (.val (.dQ []) σ):=by
 refine au BV rM.eq_1 rfl ?_;simp[-length_flatMap,-map_take]
theorem dj{e:Int}:lim T (.call false aX [.bool false,.int .i64 e] σ)=some (.fx (rf e) σ):=by
 refine dJ BV rM.eq_1 rfl ?_;simp[-length_flatMap,-map_take,anP,D.clean,rf]
theorem og:lim T (.call false bO [.int .i64 0] σ)=some (.val (.dQ []) σ):=by
 refine au Am pY.eq_1 rfl ?_;simp[-length_flatMap,-map_take,cl]
theorem pq{e:Int}(h:e≠0):lim T (.call false bO [.int .i64 e] σ)=some (.fx (rf e) σ):=by
 refine dJ Am pY.eq_1 rfl ?_;have h':(e == 0)=false:=by simpa using h
 simp[-length_flatMap,-map_take,dj,h',D.clean,rf]
theorem eH{a b c:Int}:lim T (.call false cI [.int .i64 a,.int .i64 b,.int .i64 c] σ)=some (.val (.bool (bT a b c)) σ):=by
 refine au DP qX.eq_1 rfl ?_;by_cases h:b≤a<;>simp[-length_flatMap,-map_take,h,bT]
theorem Lb{n:Int}(h : -9223372036854775808≤n∧n≤9223372036854775807):lim T (.call false gU [.int .i64 n] σ)=some (.val (.str (HT n)) σ) :=
 Gx FV FF (by simp[IZ,h])
theorem Ir{s:List UInt8}(h:s.length≤1000000):lim T (.call false gT [.str s] σ)=some (.val (.dQ [.int .i64 (u7 s).2,if(u7 s).1=0 then .o9 else .tQ 238 .undef]) σ) :=
 Gx FU FE (by simp[IZ,h])
theorem A7{s:List UInt8}(h:s.length≤1000000):lim T (.call false fY [.str s,.str [32]] σ)=some (.val (.aE (gk 32 s).length ((gk 32 s).map .str)) σ) :=
 Gx E4 EV (by simp[IZ,h])
theorem IH(s:List UInt8) : -9223372036854775808≤(u7 s).2∧(u7 s).2≤9223372036854775807:=by
 unfold u7;split
 ·rename_i v h;cases s with
  |nil=>cases h
  |cons c r =>
   simp only[Lib.atoiAll]at h;split at h
   ·cases h
   ·cases h
   ·rename_i u hu;split at h
    ·cases h
    ·split at h
     ·cases h
     ·cases h;dsimp only;split<;>omega
 ·simp
 ·simp only[Lib.atoiSat];split<;>simp
theorem Qk{s:List UInt8}(hl:s.length≤1000000){n:Int}(h:Pz s=some n):lim T (.call false kX [.str s] σ)=some (.val (.int .i64 n) σ):=by
 unfold Pz at h;simp only[aB,ad]at h;obtain⟨⟨⟨h1,h2⟩,h3⟩,rfl⟩:=h;refine au yA nO.eq_1 rfl ?_;simp[-length_flatMap,-map_take,Ir hl,h1,Lb (IH s),h2,CM,eH,h3,cl]
theorem Li{s:List UInt8}(hl:s.length≤1000000)(h:Pz s=none):lim T (.call false kX [.str s] σ)=some (.fx (rf 4) σ):=by
 refine dJ yA nO.eq_1 rfl ?_;unfold Pz at h;simp only[ite_eq_right_iff,reduceCtorEq,imp_false,not_and]at h;by_cases h1:(u7 s).1=0
 ·by_cases h2:HT (u7 s).2=s
  ·have h3:bT (u7 s).2 (-999999999) 999999999=false:=by simpa using h ⟨h1,h2⟩
   simp[-length_flatMap,-map_take,Ir hl,h1,Lb (IH s),h2,CM,eH,h3,dj,D.clean,rf]
  ·simp[-length_flatMap,-map_take,Ir hl,h1,Lb (IH s),h2,CM,eH,dj,D.clean,rf]
 ·simp[-length_flatMap,-map_take,Ir hl,h1,dj,D.clean,rf]
def H2:List Nat:=[eR,eV,gh,fH,eT,gi,fD,fA,eU,fF,fC,fG,fE]
def La(w:Wd):List D:=[.bool w.named,.int .i64 w.least,.int .i64 w.step,.fn ((H2[w.k]?).getD 0) [] []]
def ji(l:List (List UInt8×Wd)):List D:=l.map fun p => .dQ [.str p.1,.agg (La p.2)]
theorem Gi{s:List UInt8}:∀{l:List (List UInt8×Wd)},B4 s l=none→qd none (.str s) (ji l)=some none
 |[],_=>rfl
 |(k,w)::l,h=>by
  simp only[B4]at h;split at h
  ·cases h
  ·rename_i hk;have hb:(s == k)=false:=by simpa using hk
   have:=Gi h;simp only[ji,aM,qd,sG,hb]at this ⊢;rw[this];rfl
theorem HK{s:List UInt8}{w:Wd}:∀{l:List (List UInt8×Wd)},B4 s l=some w→∃j,qd none (.str s) (ji l)=some (some (j,.agg (La w)))
 |[],h=>by cases h
 |(k,v)::l,h=>by
  simp only[B4]at h;split at h
  ·rename_i hk;cases h;subst hk;exact⟨0,by simp[ji,qd,sG]⟩
  ·rename_i hk;have hb:(s == k)=false:=by simpa using hk
   obtain⟨j,hj⟩:=HK h;exact⟨j+1,by
    simp only[ji,aM,qd,sG,hb]at hj ⊢;rw[hj];rfl⟩
theorem avv{S:SK}{l i:Nat}{pre:List (List UInt8×Wd)}{k:List UInt8}{w:Wd}(h:cells? S l i 0=some (ji pre))(hn:B4 k pre=none)(hl:l+1=S.length):
  Af S (.put none) [.mf l i,.str k,.agg (La w)]=some (.undef,aT S l i (.cells 0 (ji (pre++[(k,w)])))):=by
 have h1:=Gi hn;simp only[Af,Ae,h,aS,h1];simp[sG,hl,ji]
theorem Pb{S:SK}{l i:Nat}{s:List UInt8}(h:cells? S l i 0=some (ji sY)):
  Af S (.get none (.agg [.bool false,.int .i64 0,.int .i64 0,.ir]) true) [.mf l i,.str s] =
   some (match xR s with | some w => .dQ [.agg (La w),.bool true] | none => .dQ [.agg [.bool false,.int .i64 0,.int .i64 0,.ir],.bool false],S):=by
 simp only[Af,Ae,h,aS];cases hw:xR s with
 |none=>rw[Gi hw];simp[sG]
 |some w=>obtain⟨j,hj⟩:=HK hw;rw[hj];simp[sG]
theorem A9{bs:List Abs.aG}:lim T (.call true o6 [] (bs::σ))=some (.val (.mf σ.length bs.length) ((bs++[.cells 0 (ji sY)])::σ)):=by
 refine vR EZ se.eq_1 rfl ?_;have hm:Af (bs::σ) .make []=some (.mf σ.length bs.length,(bs++[.cells 0 []])::σ):=by simp[Af]
 have hp:∀(pre:List (List UInt8×Wd)) (k:List UInt8) (w:Wd),B4 k pre=none→Af ((bs++[.cells 0 (ji pre)])::σ) (.put none) [.mf σ.length bs.length,.str k,.agg (La w)]=some (.undef,(bs++[.cells 0 (ji (pre++[(k,w)]))])::σ):=by
  intro pre k w hn;have h1:cells? ((bs++[.cells 0 (ji pre)])::σ) σ.length bs.length 0=some (ji pre):=by simp
  have h2:σ.length+1=((bs++[Abs.aG.cells 0 (ji pre)])::σ).length:=by simp
  have h3:=avv (w:=w) h1 hn h2;refine h3.trans ?_;simp
 have p:=fun(j:Nat) (hj:j<13)=>hp (sY.take j) ((sY[j]?).getD ([],⟨false,0,0,0⟩)).1 ((sY[j]?).getD ([],⟨false,0,0,0⟩)).2
 have p0:=p 0 (by omega) (by decide);have p1:=p 1 (by omega) (by decide);have p2:=p 2 (by omega) (by decide);have p3:=p 3 (by omega) (by decide);have p4:=p 4 (by omega) (by decide);have p5:=p 5 (by omega) (by decide);have p6:=p 6 (by omega) (by decide);have p7:=p 7 (by omega) (by decide);have p8:=p 8 (by omega) (by decide);have p9:=p 9 (by omega) (by decide);have p10:=p 10 (by omega) (by decide);have p11:=p 11 (by omega) (by decide);have p12:=p 12 (by omega) (by decide);simp[sY,ji,La,H2]at p0 p1 p2 p3 p4 p5 p6 p7 p8 p9 p10 p11 p12;simp[-length_flatMap,-map_take,hm,p0,p1,p2,p3,p4,p5,p6,p7,p8,p9,p10,p11,p12,sY,ji,La,H2]
@[simp] def eJ(s:List UInt8):List D:=[.str s]
def N6(cs:List D)(name:List UInt8)(M:Abs.aG)(σ:SK)(acc:List Int)(r:Option (List Int))(x:Abs.Exit)(e:Env)(σ':SK):Prop:=match r with
 |some ns=>x=.exit 0∧get e 2=.own 0 cs∧get e 3=.str name∧get e 4=.sl σ.length 0 (acc++ns).length 0 (acc++ns).length 1∧σ'=[.cells (acc++ns).length ((acc++ns).flatMap aU),M]::σ
 |none=>x=.fx (rf 4)∧∃bk,σ'=bk::σ
theorem FC{all:List (List UInt8)}(hs:∀s∈all,s.length≤1000000)(hl:all.length≤1000001){cs:List D}{name:List UInt8}{M:Abs.aG}:∀(k i:Nat) (acc:List Int),i+k=all.length→acc.length=i →
  WL T [2,3,4,35,36,37] false mw [(2,.own 0 cs),(3,.str name),(4,.sl σ.length 0 i 0 i 1),(35,.aE all.length (all.flatMap eJ)),(36,.int .i64 all.length),(37,.int .i64 i)]
   ([.cells i (acc.flatMap aU),M]::σ) (N6 cs name M σ acc (xH (all.drop i)))
 |0,i,acc,hi,ha=>by
  refine aH mw.eq_1 ?_;obtain rfl:i=all.length:=by omega
  have h5:all.drop all.length=[]:=az (by omega);simp[-length_flatMap,-map_take,h5,xH,N6,ha]
 |k+1,i,acc,hi,ha=>by
  refine aH mw.eq_1 ?_;have hlt:i<all.length:=by omega
  have hii:(i:Int)<i+1:=by omega
  obtain⟨s,hx⟩:=gE hlt;have h4:=ga hlt (by omega);have h5:=dh hx;have a1:=cj (f:=eJ) (w:=1) (fun _=>rfl) hx;simp only[eJ,iw]at a1;have hsl:=hs s (ai hx);rw[h5];simp only[xH];have hr:(i+1)*8≤room:=by unfold room;omega
  cases hn:Pz s with
  |none =>
   simp[-length_flatMap,-map_take,hlt,a1,Li hsl hn,N6]
  |some n =>
   have hc:(acc.flatMap aU).length=i:=by simp[b9 (f:=aU) (w:=1) (fun _=>rfl),ha]
   have ht:(acc.flatMap aU).take i=acc.flatMap aU:=ah (by omega);simp[-length_flatMap,-map_take,hlt,a1,Qk hsl hn,hr,h4,hc,ht];refine WL.to (FC (cs:=cs) (name:=name) (M:=M) hs hl k (i+1) (acc++[n]) (by omega) (by simp[ha])) (by simp) (by simp) fun x e σ' hh=>?_
   cases hm:xH (all.drop (i+1))with
   |none=>rw[hm]at hh;exact hh
   |some ns=>rw[hm]at hh;simpa[N6]using hh
theorem yM:∀{l:List (List UInt8)} {ns:List Int},xH l=some ns→ns.length=l.length
 |[],ns,h=>by simp only[xH,ad]at h;subst h;rfl
 |s::l,ns,h=>by
  simp only[xH]at h;split at h
  ·rename_i n hn;simp only[ab]at h;obtain⟨m,h1,rfl⟩:=h;simp[yM h1]
  ·cases h
theorem hJ(w:Wd):La w=[.bool w.named,.int .i64 w.least,.int .i64 w.step,.fn ((H2[w.k]?).getD 0) [] []]:=rfl
theorem Fp(l:List (List UInt8)):l.map D.str=l.flatMap eJ:=by induction l with | nil=>rfl | cons s l ih=>simp[ih]
theorem JF{s:List UInt8}(hl:s.length≤1000000){a:List UInt8}{all:List (List UInt8)}(h:gk 32 s=a::all)(hw:xR a=none):lim T (.call false cU [.str s] σ)=some (.fx (rf 4) σ):=by
 refine dJ kU fk.eq_1 rfl ?_;have hW:=A9 (bs:=[.cells 0 []]) (σ:=σ);have hG:=Pb (S:=[Abs.aG.cells 0 [],.cells 0 (ji sY)]::σ) (l:=σ.length) (i:=1) (s:=a) (by simp);rw[hw]at hG;simp[-length_flatMap,-map_take,A7 hl,h,hW,hG,dj,D.clean,rf]
def xI(p:Wd×List UInt8×List Int):D:=.dQ [.agg (La p.1),.str p.2.1,.aE p.2.2.length (p.2.2.flatMap aU)]
theorem Fj{a:List D}(ha:D.bu a=true){name:List UInt8}{v:Nat}{ns:List Int}{M:Abs.aG}(hσ:σ≠[]):
  ck (σ.length-1) 16 (.dQ [.agg a,.str name,.sl σ.length 0 v 0 ns.length 1]) ([.cells v (ns.flatMap aU),M]::σ)=(.dQ [.agg a,.str name,.aE ns.length (ns.flatMap aU)],[.dead,M]::σ):=by
 have h3:¬σ.length≤σ.length-1:=by have:=aO.2 hσ;omega
 rw[Dh (by simp[D.bu,D.clean]) (by omega)];have h4:=kV (l:=σ.length-1) (n:=15) (d:=.agg a) (σ:=[Abs.aG.cells v (ns.flatMap aU),M]::σ) (by simp[D.clean,ha]) (by omega);have h5:=kV (l:=σ.length-1) (n:=15) (d:=.str name) (σ:=[Abs.aG.cells v (ns.flatMap aU),M]::σ) (by simp[D.clean]) (by omega);have h6:=AG (l:=σ.length-1) (n:=15) (l':=σ.length) (i:=0) (v:=v) (off:=0) (m:=ns.length) (w:=1) (σ:=[Abs.aG.cells v (ns.flatMap aU),M]::σ) (cs:=ns.flatMap aU) h3 (by simp) (by omega);have ht:(ns.flatMap aU).take ns.length=ns.flatMap aU:=by have:=Gq (f:=aU) (w:=1) (fun _=>rfl) ns;rwa[iw]at this
 simp only[Nat.reduceSub,ck.frzL,h4,h5,h6];simp[ht,fZ (f:=aU) (fun _=>by simp[D.clean]) ns]
theorem OG{s:List UInt8}(hl:s.length≤1000000){a:List UInt8}{all:List (List UInt8)}(h:gk 32 s=a::all)(hs:∀x∈all,x.length≤1000000)(hl2:all.length≤1000001){w:Wd}(hw:xR a=some w)(hn:w.named=false)(hσ:σ≠[]){p:Wd×List UInt8×List Int}(hp:vy w [] all=some p):
  lim T (.call false cU [.str s] σ)=some (.val (xI p) σ):=by
 refine au kU fk.eq_1 rfl ?_;have hW:=A9 (bs:=[.cells 0 []]) (σ:=σ);have hG:=Pb (S:=[Abs.aG.cells 0 [],.cells 0 (ji sY)]::σ) (l:=σ.length) (i:=1) (s:=a) (by simp);rw[hw]at hG;obtain⟨w1,w2,w3,w4,w5⟩:=DK hw;have hL:=FC (σ:=σ) (cs:=La w) (name:=[]) (M:=.cells 0 (ji sY)) hs hl2 all.length 0 [] (by omega) rfl;unfold vy at hp;cases hm:xH all with
 |none=>rw[hm]at hp;cases hp
 |some ns =>
 rw[hm]at hp;simp only[aB,ad]at hp;obtain⟨hf,rfl⟩:=hp;have hlen:=yM hm;simp only[Gj,bW,ae,ao]at hf;have e1:IntKind.i64.wrap ((ns.length:Int)-w.least)=ns.length-w.least:=fK (by omega);rw[aJ,hm]at hL;have q1:(1:Int)≤(all.length:Int)+1:=by omega
 have q2:(all.flatMap eJ).take all.length=all.flatMap eJ:=ah (by rw[b9 (f:=eJ) (w:=1) (fun _=>rfl)];omega);simp[-length_flatMap,-map_take,A7 hl,h,hW,hG,cl,hJ,hn,Fp,q1,q2];refine WL.to hL (by simp[hJ,hn]) (by simp) ?_;rintro x e σ' ⟨rfl,g2,g3,g4,rfl⟩;have hz:D.bu (La w)=true:=by simp[La,D.clean]
 rcases hf with c1 | ⟨c1,c2,c3⟩
 ·simp[-length_flatMap,-map_take,g2,g3,g4,hJ,e1,c1,cl,xI];exact⟨_,Fj (by simp[D.clean]) hσ⟩
 ·have c0:¬(ns.length:Int)-w.least=0:=by omega
  have c4:¬w.step=0:=by omega
  have c5:w.least<(ns.length:Int):=by omega
  simp[-length_flatMap,-map_take,g2,g3,g4,hJ,e1,c0,c5,c2,c3,c4,cl,xI];exact⟨_,Fj (by simp[D.clean]) hσ⟩
theorem JD{s:List UInt8}(hl:s.length≤1000000){a:List UInt8}{all:List (List UInt8)}(h:gk 32 s=a::all)(hs:∀x∈all,x.length≤1000000)(hl2:all.length≤1000001){w:Wd}(hw:xR a=some w)(hn:w.named=false)(hp:vy w [] all=none):
  lim T (.call false cU [.str s] σ)=some (.fx (rf 4) σ):=by
 refine dJ kU fk.eq_1 rfl ?_;have hW:=A9 (bs:=[.cells 0 []]) (σ:=σ);have hG:=Pb (S:=[Abs.aG.cells 0 [],.cells 0 (ji sY)]::σ) (l:=σ.length) (i:=1) (s:=a) (by simp);rw[hw]at hG;obtain⟨w1,w2,w3,w4,w5⟩:=DK hw;have hL:=FC (σ:=σ) (cs:=La w) (name:=[]) (M:=.cells 0 (ji sY)) hs hl2 all.length 0 [] (by omega) rfl;have q1:(1:Int)≤(all.length:Int)+1:=by omega
 have q2:(all.flatMap eJ).take all.length=all.flatMap eJ:=ah (by rw[b9 (f:=eJ) (w:=1) (fun _=>rfl)];omega);rw[aJ]at hL;simp[-length_flatMap,-map_take,A7 hl,h,hW,hG,cl,hJ,hn,Fp,q1,q2];refine WL.to hL (by simp[hJ,hn]) (by simp) ?_;unfold vy at hp;cases hm:xH all with
 |none =>
  rintro x e σ' ⟨rfl,bk,rfl⟩;simp[D.clean,rf]
 |some ns =>
 rw[hm]at hp;simp only[ite_eq_right_iff,reduceCtorEq,imp_false]at hp;rintro x e σ' ⟨rfl,g2,g3,g4,rfl⟩;have hlen:=yM hm;have e1:IntKind.i64.wrap ((ns.length:Int)-w.least)=ns.length-w.least:=fK (by omega);simp only[Gj,bW,ae,ao]at hp;have c0:¬(ns.length:Int)-w.least=0:=fun hh=>hp (.inl hh)
 by_cases c1:w.least<(ns.length:Int)
 ·by_cases c2:0<w.step
  ·have c3:¬((ns.length:Int)-w.least).tmod w.step=0:=fun hh=>hp (.inr ⟨by omega,c2,hh⟩)
   have c4:¬w.step=0:=by omega
   have c3':(((ns.length:Int)-w.least).tmod w.step == 0)=false:=by simpa using c3
   have c0':((ns.length:Int)-w.least == 0)=false:=by simpa using c0
   simp[-length_flatMap,-map_take,g2,g3,g4,hJ,e1,c0',c1,c2,c3',c4,dj,D.clean,rf]
  ·simp[-length_flatMap,-map_take,g2,g3,g4,hJ,e1,c0,c1,c2,dj,D.clean,rf]
 ·simp[-length_flatMap,-map_take,g2,g3,g4,hJ,e1,c0,c1,dj,D.clean,rf]
theorem Lj{s:List UInt8}(hl:s.length≤1000000){a:List UInt8}(h:gk 32 s=[a]){w:Wd}(hw:xR a=some w)(hn:w.named=true):
  lim T (.call false cU [.str s] σ)=some (.fx (rf 4) σ):=by
 refine dJ kU fk.eq_1 rfl ?_;have hW:=A9 (bs:=[.cells 0 []]) (σ:=σ);have hG:=Pb (S:=[Abs.aG.cells 0 [],.cells 0 (ji sY)]::σ) (l:=σ.length) (i:=1) (s:=a) (by simp);rw[hw]at hG;obtain⟨w1,w2,w3,w4,w5⟩:=DK hw;simp[-length_flatMap,-map_take,A7 hl,h,hW,hG,cl,dj,hJ,hn,D.clean,rf]
theorem OH{s:List UInt8}(hl:s.length≤1000000){a n:List UInt8}{r:List (List UInt8)}(h:gk 32 s=a::n::r)(hs:∀x∈r,x.length≤1000000)(hl2:r.length≤1000001){w:Wd}(hw:xR a=some w)(hn:w.named=true)(hσ:σ≠[]){p:Wd×List UInt8×List Int}(hp:vy w n r=some p):
  lim T (.call false cU [.str s] σ)=some (.val (xI p) σ):=by
 refine au kU fk.eq_1 rfl ?_;have hW:=A9 (bs:=[.cells 0 []]) (σ:=σ);have hG:=Pb (S:=[Abs.aG.cells 0 [],.cells 0 (ji sY)]::σ) (l:=σ.length) (i:=1) (s:=a) (by simp);rw[hw]at hG;obtain⟨w1,w2,w3,w4,w5⟩:=DK hw;have hL:=FC (σ:=σ) (cs:=La w) (name:=n) (M:=.cells 0 (ji sY)) hs hl2 r.length 0 [] (by omega) rfl;have q1:(1:Int)≤(r.length:Int)+1:=by omega
 have q2:(r.flatMap eJ).take r.length=r.flatMap eJ:=ah (by rw[b9 (f:=eJ) (w:=1) (fun _=>rfl)];omega);have q3:(1:Int)≤(r.length:Int)+1+1:=by omega
 have q4:(0:Int)<(r.length:Int)+1:=by omega
 have q6:(0:Int)<(r.length:Int)+1+1:=by omega
 have q5:(r.flatMap eJ).take (r.length+1)=r.flatMap eJ:=ah (by rw[b9 (f:=eJ) (w:=1) (fun _=>rfl)];omega);unfold vy at hp;cases hm:xH r with
 |none=>rw[hm]at hp;cases hp
 |some ns =>
 rw[hm]at hp;simp only[aB,ad]at hp;obtain⟨hf,rfl⟩:=hp;have hlen:=yM hm;simp only[Gj,bW,ae,ao]at hf;have e1:IntKind.i64.wrap ((ns.length:Int)-w.least)=ns.length-w.least:=fK (by omega);rw[aJ,hm]at hL;simp[-length_flatMap,-map_take,A7 hl,h,hW,hG,cl,hJ,hn,Fp,q1,q2,q3,q4,q5,q6];refine WL.to hL (by simp[hJ,hn]) (by simp) ?_;rintro x e σ' ⟨rfl,g2,g3,g4,rfl⟩;rcases hf with c1 | ⟨c1,c2,c3⟩
 ·simp[-length_flatMap,-map_take,g2,g3,g4,hJ,e1,c1,cl,xI];exact⟨_,Fj (by simp[D.clean]) hσ⟩
 ·have c0:¬(ns.length:Int)-w.least=0:=by omega
  have c4:¬w.step=0:=by omega
  have c5:w.least<(ns.length:Int):=by omega
  simp[-length_flatMap,-map_take,g2,g3,g4,hJ,e1,c0,c5,c2,c3,c4,cl,xI];exact⟨_,Fj (by simp[D.clean]) hσ⟩
theorem JE{s:List UInt8}(hl:s.length≤1000000){a n:List UInt8}{r:List (List UInt8)}(h:gk 32 s=a::n::r)(hs:∀x∈r,x.length≤1000000)(hl2:r.length≤1000001){w:Wd}(hw:xR a=some w)(hn:w.named=true)(hp:vy w n r=none):
  lim T (.call false cU [.str s] σ)=some (.fx (rf 4) σ):=by
 refine dJ kU fk.eq_1 rfl ?_;have hW:=A9 (bs:=[.cells 0 []]) (σ:=σ);have hG:=Pb (S:=[Abs.aG.cells 0 [],.cells 0 (ji sY)]::σ) (l:=σ.length) (i:=1) (s:=a) (by simp);rw[hw]at hG;obtain⟨w1,w2,w3,w4,w5⟩:=DK hw;have hL:=FC (σ:=σ) (cs:=La w) (name:=n) (M:=.cells 0 (ji sY)) hs hl2 r.length 0 [] (by omega) rfl;have q1:(1:Int)≤(r.length:Int)+1:=by omega
 have q2:(r.flatMap eJ).take r.length=r.flatMap eJ:=ah (by rw[b9 (f:=eJ) (w:=1) (fun _=>rfl)];omega);have q3:(1:Int)≤(r.length:Int)+1+1:=by omega
 have q4:(0:Int)<(r.length:Int)+1:=by omega
 have q6:(0:Int)<(r.length:Int)+1+1:=by omega
 have q5:(r.flatMap eJ).take (r.length+1)=r.flatMap eJ:=ah (by rw[b9 (f:=eJ) (w:=1) (fun _=>rfl)];omega);rw[aJ]at hL;simp[-length_flatMap,-map_take,A7 hl,h,hW,hG,cl,hJ,hn,Fp,q1,q2,q3,q4,q5,q6];refine WL.to hL (by simp[hJ,hn]) (by simp) ?_;unfold vy at hp;cases hm:xH r with
 |none =>
  rintro x e σ' ⟨rfl,bk,rfl⟩;simp[D.clean,rf]
 |some ns =>
 rw[hm]at hp;simp only[ite_eq_right_iff,reduceCtorEq,imp_false]at hp;rintro x e σ' ⟨rfl,g2,g3,g4,rfl⟩;have hlen:=yM hm;have e1:IntKind.i64.wrap ((ns.length:Int)-w.least)=ns.length-w.least:=fK (by omega);simp only[Gj,bW,ae,ao]at hp;have c0:¬(ns.length:Int)-w.least=0:=fun hh=>hp (.inl hh)
 by_cases c1:w.least<(ns.length:Int)
 ·by_cases c2:0<w.step
  ·have c3:¬((ns.length:Int)-w.least).tmod w.step=0:=fun hh=>hp (.inr ⟨by omega,c2,hh⟩)
   have c4:¬w.step=0:=by omega
   have c3':(((ns.length:Int)-w.least).tmod w.step == 0)=false:=by simpa using c3
   have c0':((ns.length:Int)-w.least == 0)=false:=by simpa using c0
   simp[-length_flatMap,-map_take,g2,g3,g4,hJ,e1,c0',c1,c2,c3',c4,dj,D.clean,rf]
  ·simp[-length_flatMap,-map_take,g2,g3,g4,hJ,e1,c0,c1,c2,dj,D.clean,rf]
 ·simp[-length_flatMap,-map_take,g2,g3,g4,hJ,e1,c0,c1,dj,D.clean,rf]
theorem DE(b:UInt8):∀(s:List UInt8),∀x∈gk b s,x.length≤s.length
 |[],x,hx=>by simp[gk]at hx;simp[hx]
 |c::r,x,hx=>by
  have ih:=DE b r;simp only[gk]at hx;split at hx
  ·rcases bq.1 hx with rfl | hx
   ·simp
   ·have:=ih x hx;simp;omega
  ·split at hx
   ·rename_i y l hyl;rcases bq.1 hx with rfl | hx
    ·have:=ih y (by rw[hyl];simp);simp;omega
    ·have:=ih x (by rw[hyl];simp[hx]);simp;omega
   ·rename_i hyl;exact absurd hyl (Bu b r)
theorem Qo{s:List UInt8}(hl:s.length≤1000000)(hσ:σ≠[]){p:Wd×List UInt8×List Int}(hp:parse s=some p):lim T (.call false cU [.str s] σ)=some (.val (xI p) σ):=by
 unfold parse at hp;have hlen:=zH 32 s;have hle:=DE 32 s;cases h:gk 32 s with
 |nil=>exact absurd h (Bu 32 s)
 |cons a all =>
 rw[h]at hp hlen hle;simp only[aD]at hlen;dsimp only at hp;cases hw:xR a with
 |none=>rw[hw]at hp;cases hp
 |some w =>
 rw[hw]at hp;dsimp only at hp;cases hn:w.named with
 |false =>
  rw[hn]at hp;exact OG hl h (fun x hx=>by have:=hle x (by simp[hx]);omega) (by omega) hw hn hσ (by simpa using hp)
 |true =>
  rw[hn]at hp;simp only[if_true]at hp;cases all with
  |nil=>cases hp
  |cons n r=>exact OH hl h (fun x hx=>by have:=hle x (by simp[hx]);omega) (by simp at hlen;omega) hw hn hσ hp
theorem Lk{s:List UInt8}(hl:s.length≤1000000)(hp:parse s=none):lim T (.call false cU [.str s] σ)=some (.fx (rf 4) σ):=by
 unfold parse at hp;have hlen:=zH 32 s;have hle:=DE 32 s;cases h:gk 32 s with
 |nil=>exact absurd h (Bu 32 s)
 |cons a all =>
 rw[h]at hp hlen hle;simp only[aD]at hlen;dsimp only at hp;cases hw:xR a with
 |none=>exact JF hl h hw
 |some w =>
 rw[hw]at hp;dsimp only at hp;cases hn:w.named with
 |false =>
  rw[hn]at hp;exact JD hl h (fun x hx=>by have:=hle x (by simp[hx]);omega) (by omega) hw hn (by simpa using hp)
 |true =>
  rw[hn]at hp;simp only[if_true]at hp;cases all with
  |nil=>exact Lj hl h hw hn
  |cons n r=>exact JE hl h (fun x hx=>by have:=hle x (by simp[hx]);omega) (by simp at hlen;omega) hw hn hp
end Go.Proofs.YtklfdfnoebnciaaGreatDoor
namespace Go.Trem
open List(length_flatMap map_take)
open Go Go.Abs
structure Pt where
 x:Int
 y:Int
 z:Int
 deriving DecidableEq
structure Rg where
 lo:Int
 hi:Int
 deriving DecidableEq
structure Lv where
 p:Pt
 err:Int
structure Net where
 st:List Lv
 s0:Rg
 s1:Rg
 low:Pt
 high:Pt
 step:Int
structure DN where
 st:Int
 ph:Int
 t:Rg
structure Plc where
 p:Pt
 o:Rg
 deriving DecidableEq
structure xS where
 far:Int
 add:Int
structure FI where
 levels:List Int
 rows:List xS
structure yY where
 st:Int
 amt:Int
structure apT where
 fst:Int
 thn:Int
structure Bet where
 num:Int
 den:Int
 a:Int
 b:Int
 anL:Int
@[simp] theorem Pt.eta(p:Pt):Pt.mk p.x p.y p.z=p:=rfl
@[simp] theorem Rg.eta(p:Rg):Rg.mk p.lo p.hi=p:=rfl
@[simp] theorem Lv.eta(p:Lv):Lv.mk p.p p.err=p:=rfl
@[simp] theorem Net.eta(p:Net):Net.mk p.st p.s0 p.s1 p.low p.high p.step=p:=rfl
@[simp] theorem DN.eta(p:DN):DN.mk p.st p.ph p.t=p:=rfl
@[simp] theorem FI.eta(p:FI):FI.mk p.levels p.rows=p:=rfl
@[simp] theorem yY.eta(p:yY):yY.mk p.st p.amt=p:=rfl
@[simp] theorem xS.eta(p:xS):xS.mk p.far p.add=p:=rfl
@[simp] theorem Bet.eta(p:Bet):Bet.mk p.num p.den p.a p.b p.anL=p:=rfl
@[simp] def Pt.enc(p:Pt):List D:=[.int .i64 p.x,.int .i64 p.y,.int .i64 p.z]
@[simp] def Rg.enc(r:Rg):List D:=[.int .i64 r.lo,.int .i64 r.hi]
@[simp] def Lv.enc(s:Lv):List D:=[.int .i64 s.p.x,.int .i64 s.p.y,.int .i64 s.p.z,.int .i64 s.err]
@[simp] def DN.enc(p:DN):List D:=[.int .i64 p.st,.int .u8 p.ph,.int .i64 p.t.lo,.int .i64 p.t.hi]
@[simp] def Plc.enc(p:Plc):List D:=[.int .i64 p.p.x,.int .i64 p.p.y,.int .i64 p.p.z,.int .i64 p.o.lo,.int .i64 p.o.hi]
@[simp] def xS.enc(p:xS):List D:=[.int .i64 p.far,.int .i64 p.add]
@[simp] def yY.enc(p:yY):List D:=[.int .i64 p.st,.int .i64 p.amt]
@[simp] def apT.enc(p:apT):List D:=[.int .i64 p.fst,.int .i64 p.thn]
@[simp] def Bet.enc(b:Bet):List D:=[.int .i64 b.num,.int .i64 b.den,.int .i64 b.a,.int .i64 b.b,.int .i64 b.anL]
@[simp] def aU(n:Int):List D:=[.int .i64 n]
@[simp] def tg(n:Bool):List D:=[.bool n]
@[simp] def Net.enc(n:Net):List D:=[.aE n.st.length (n.st.flatMap Lv.enc),.int .i64 n.s0.lo,.int .i64 n.s0.hi,.int .i64 n.s1.lo,.int .i64 n.s1.hi,
 .int .i64 n.low.x,.int .i64 n.low.y,.int .i64 n.low.z,.int .i64 n.high.x,.int .i64 n.high.y,.int .i64 n.high.z,.int .i64 n.step]
@[simp] def FI.enc(s:FI):List D:=[.aE s.levels.length (s.levels.flatMap aU),.aE s.rows.length (s.rows.flatMap xS.enc)]
def bT(n lo hi:Int):Bool:=decide (lo≤n) && decide (n≤hi)
theorem aR{n lo hi:Int}:bT n lo hi=true↔lo≤n∧n≤hi:=by simp[bT]
def Pt.ok(p:Pt):Bool:=bT p.x (-20000) 20000 && (bT p.y (-20000) 20000 && bT p.z (-20000) 20000)
def Aw(a b:Pt):Bool:=a.ok && (b.ok && (decide (a.x≤b.x) && (decide (a.y≤b.y) && decide (a.z≤b.z))))
def Lv.ok(s:Lv):Bool:=s.p.ok && bT s.err 0 1000
def Rg.bT(r:Rg)(lo hi:Int):Bool:=decide (lo≤r.lo) && (decide (r.lo≤r.hi) && decide (r.hi≤hi))
def steps(n:Net)(lo hi:Int):Int:=(hi-lo).tdiv n.step+1
def Net.pre(n:Net):Bool:=Trem.bT n.st.length 1 12 && (gw n.st Lv.ok && (Aw n.low n.high && (Trem.bT n.step 1 20000 && (n.s0.bT 1 2000 && n.s1.bT 1 2000))))
def Net.count(n:Net):Int:=steps n n.low.x n.high.x*steps n n.low.y n.high.y*steps n n.low.z n.high.z
def Net.ok(n:Net):Bool:=n.pre && decide (n.count≤2000)
theorem Pt.I2{p:Pt}:p.ok=true↔(-20000≤p.x∧p.x≤20000)∧(-20000≤p.y∧p.y≤20000)∧(-20000≤p.z∧p.z≤20000):=by
 simp only[Pt.ok,ae,aR]
def bsr:Nat→Int→Int→Int→Int
 |0,_,lo,_=>lo
 |f+1,n,lo,hi=>if lo<hi then(if((lo+hi+1) / 2)*((lo+hi+1) / 2)≤n then bsr f n ((lo+hi+1) / 2) hi else bsr f n lo ((lo+hi+1) / 2-1))else lo
def sq(p q:Pt):Int:=(p.x-q.x)*(p.x-q.x)+(p.y-q.y)*(p.y-q.y)+(p.z-q.z)*(p.z-q.z)
def aqf(p q:Pt):Int:=bsr 17 (sq p q) 0 70000
def prog(lo hi st:Int):List Int:=(List.range ((hi-lo) / st+1).toNat).map fun(i:Nat)=>lo+i*st
def zs(n:Net)(x y:Int)(z:Int):List Pt:=(prog z n.high.z n.step).map fun z=>⟨x,y,z⟩
def ys(n:Net)(x:Int)(y:Int):List Pt:=(prog y n.high.y n.step).flatMap fun y=>zs n x y n.low.z
def xs(n:Net)(x:Int):List Pt:=(prog x n.high.x n.step).flatMap fun x=>ys n x n.low.y
def acy(n:Net):List Pt:=xs n n.low.x
def Net.stn(n:Net)(i:Int):Lv:=n.st.getD i.toNat ⟨⟨0,0,0⟩,0⟩
def Net.Mh(n:Net)(ph:Int):Rg:=if ph=0 then n.s0 else n.s1
def abk(n:Net)(i ph:Int)(p:Pt):Rg:=⟨(n.Mh ph).lo*aqf (n.stn i).p p / 1000,((n.Mh ph).hi*(aqf (n.stn i).p p+1)+999) / 1000⟩
def DN.ok(n:Net)(p:DN):Bool:=Trem.bT p.st 0 (n.st.length-1) && (decide (p.ph<2) && p.t.bT (-100000000) 100000000)
def span(n:Net)(p:DN)(q:Pt):Rg:=⟨p.t.lo-(n.stn p.st).err-(abk n p.st p.ph q).hi,p.t.hi+(n.stn p.st).err-(abk n p.st p.ph q).lo⟩
def meet(a b:Rg):Rg:=⟨max a.lo b.lo,min a.hi b.hi⟩
def common:List Rg→Rg
 |[]=>⟨0,0⟩
 |r::l=>l.foldl meet r
def Rg.ne(r:Rg):Bool:=decide (r.lo≤r.hi)
end Go.Trem
namespace Go.Proofs.YtklfdfnoebnciaaGreatDoor
open List(length_flatMap map_take)
open Go Go.Abs Go.Trem
variable {σ:SK}
theorem cp{a b c:Int}:lim T (.call false bX [.int .i64 a,.int .i64 b,.int .i64 c] σ)=some (.val (.bool (bT a b c)) σ):=by
 refine au E6 sn.eq_1 rfl ?_;by_cases h:b≤a<;>simp[-length_flatMap,-map_take,h,bT]
theorem apP{a:Int}:lim T (.call false dP [.int .i64 a] σ)=some (.val (.bool (bT a (-20000) 20000)) σ):=by
 refine au zd kL.eq_1 rfl ?_;simp[-length_flatMap,-map_take,cp]
theorem OB{l:List Int}(hl:l.length≤9223372036854775807){fv:D}{p:Int→Bool}(ht:pw T fv (.int .i64) p l)(hc:fv.cells=some [fv]):
  lim T (.call false gD [.aE l.length (l.flatMap aU),fv] σ)=some (.val (.bool (gw l p)) σ) :=
 ze (IP .i64) DY Ct xa zb hl ht hc
theorem wh{x y z:Int}:lim T (.call false fe [.agg [.int .i64 x,.int .i64 y,.int .i64 z]] σ)=some (.val (.bool (Pt.ok ⟨x,y,z⟩)) σ):=by
 refine au Au mI.eq_1 rfl ?_;have h:∀σ,lim T (.call false gD [.aE 3 [.int .i64 x,.int .i64 y,.int .i64 z],.fn dP [] []] σ)=some (.val (.bool (Pt.ok ⟨x,y,z⟩)) σ):=fun σ=>by
  have:=OB (σ:=σ) (l:=[x,y,z]) (by simp) (fv:=.fn dP [] []) (p:=fun a=>bT a (-20000) 20000) (.fn fun a _ σ=>apP) rfl;simpa[Pt.ok,Bool.and_assoc,gw]using this
 simp[-length_flatMap,-map_take,h]
theorem Hu{x y z a b c:Int}:lim T (.call false tP [.agg [.int .i64 x,.int .i64 y,.int .i64 z],.agg [.int .i64 a,.int .i64 b,.int .i64 c]] σ)=some (.val (.bool (Aw ⟨x,y,z⟩ ⟨a,b,c⟩)) σ):=by
 refine au ID vY.eq_1 rfl ?_;cases hc1:Pt.ok ⟨x,y,z⟩
 ·simp[-length_flatMap,-map_take,wh,Aw,hc1]
 cases hc2:Pt.ok ⟨a,b,c⟩
 ·simp[-length_flatMap,-map_take,wh,Aw,hc1,hc2]
 by_cases hc3:x≤a
 rotate_left
 ·simp[-length_flatMap,-map_take,wh,Aw,hc1,hc2,hc3]
 by_cases hc4:y≤b
 rotate_left
 ·simp[-length_flatMap,-map_take,wh,Aw,hc1,hc2,hc3,hc4]
 simp[-length_flatMap,-map_take,wh,Aw,hc1,hc2,hc3,hc4]
theorem acH{n:Net}:n.pre=true↔(1≤(n.st.length:Int)∧(n.st.length:Int)≤12)∧gw n.st Lv.ok=true∧(n.low.ok=true∧n.high.ok=true∧n.low.x≤n.high.x∧n.low.y≤n.high.y∧n.low.z≤n.high.z) ∧
  (1≤n.step∧n.step≤20000)∧(1≤n.s0.lo∧n.s0.lo≤n.s0.hi∧n.s0.hi≤2000)∧(1≤n.s1.lo∧n.s1.lo≤n.s1.hi∧n.s1.hi≤2000):=by
 simp only[Net.pre,ae,aR,Aw,Rg.bT,ao]
structure apR(n:Net)(i ph:Int):Prop where
 i0:0≤i
 i1:i<n.st.length
 hph:ph=0∨ph=1
 p:(n.stn i).p.ok=true
 e:0≤(n.stn i).err∧(n.stn i).err≤1000
 s:1≤(n.Mh ph).lo∧(n.Mh ph).lo≤(n.Mh ph).hi∧(n.Mh ph).hi≤2000
 cells:((n.st.flatMap Lv.enc).drop (i.toNat*4)).take 4=(n.stn i).enc
theorem aaI{n:Net}(h:n.ok=true){i ph:Int}(hi:bT i 0 (n.st.length-1)=true)(hp:0≤ph)(hp':ph<2):apR n i ph:=by
 simp only[Net.ok,ae]at h;have h0:=acH.1 h.1;rw[aR]at hi;have h1:i.toNat<n.st.length:=by omega
 have h2:n.st[i.toNat]?=some (n.stn i):=by
  simp[Net.stn,List.getD,aK h1]
 have h3:=jv.1 h0.2.1 _ (ai h2);simp only[Lv.ok,ae,aR]at h3;refine⟨by omega,by omega,by omega,h3.1,h3.2,?_,cj (f:=Lv.enc) (w:=4) (fun _=>rfl) h2⟩;unfold Net.Mh;split<;>omega
structure Hd(n:Net)(l:List DN):Prop where
 ok:n.ok=true
 len:l.length≤60
 all:∀p∈l,DN.ok n p=true∧0≤p.ph
theorem Hd.av7{n:Net}{l:List DN}(h:Hd n l){p:DN}(hp:p∈l):apR n p.st p.ph:=by
 have h1:=h.all p hp;simp only[DN.ok,ae,ao]at h1;exact aaI h.ok h1.1.1 h1.2 h1.1.2.1
end Go.Proofs.YtklfdfnoebnciaaGreatDoor
namespace Go.Trem
open List(length_flatMap map_take)
open Go Go.Abs
theorem Dr{α β:Type}{f:α→List β}{c:Nat}{l:List α}(h:∀x∈l,(f x).length=c):(l.flatMap f).length=l.length*c:=by
 induction l with
 |nil=>simp
 |cons a l ih =>
  rw[aQ,bI,h a (by simp),ih fun x hx=>h x (by simp[hx]),aD,ew];omega
end Go.Trem
namespace Go.Proofs.YtklfdfnoebnciaaGreatDoor
open List(length_flatMap map_take)
open Go Go.Abs Go.Trem
variable {σ:SK}
structure Bx(n:Net):Prop where
 st:1≤n.step∧n.step≤20000
 lx : -20000≤n.low.x∧n.low.x≤20000
 ly : -20000≤n.low.y∧n.low.y≤20000
 lz : -20000≤n.low.z∧n.low.z≤20000
 hx:n.low.x≤n.high.x∧n.high.x≤20000
 hy:n.low.y≤n.high.y∧n.high.y≤20000
 hz:n.low.z≤n.high.z∧n.high.z≤20000
 len:(acy n).length≤2000
end Go.Proofs.YtklfdfnoebnciaaGreatDoor
namespace Go.Trem
open List(length_flatMap map_take)
open Go Go.Abs
def as1(l:List Int)(i:Nat):Bool:=decide (i=0) || decide (l.getD (i-1) 0<l.getD i 0)
def as2(l:List Int):Bool:=gw (List.range' 0 l.length) (as1 l)
def xS.ok(r:xS):Bool:=bT r.far 0 20000 && bT r.add 0 100
def FI.ok(s:FI):Bool:=bT s.levels.length 1 60 && (gw s.levels (fun n=>bT n 1 1000000000) && (as2 s.levels && (bT s.rows.length 1 20 && (decide ((s.rows.getD 0 ⟨0,0⟩).far=0) && (gw s.rows xS.ok && as2 (s.rows.map (·.far)))))))
def lvl(l:List Int)(a:Int):Nat:=(l.takeWhile fun x=>decide (x≤a)).length
def yY.ok(n:Net)(r:yY):Bool:=bT r.st 0 (n.st.length-1) && bT r.amt 0 1000000000
end Go.Trem
namespace Go.Proofs.YtklfdfnoebnciaaGreatDoor
open List(length_flatMap map_take)
open Go Go.Abs Go.Trem
variable {σ:SK}
end Go.Proofs.YtklfdfnoebnciaaGreatDoor
namespace Go.Trem
open List(length_flatMap map_take)
open Go Go.Abs
def Bet.ok(b:Bet):Bool:=bT b.den 2 1000 && (bT b.num 1 (b.den-1) && (bT b.b 1 1000 && (bT b.a 0 b.b && bT b.anL 2 1000)))
def next(b:Bet)(c:Int)(hit:Bool):Int:=if hit then min (c*(b.b*b.num+b.a*(b.den-b.num)) / (b.b*b.num)) 1000000000000 else c*(b.b-b.a) / b.b
structure av5(b:Bet)(c:Int):Prop where
 w1:IntKind.i64.wrap (b.b*b.num)=b.b*b.num
 w2:IntKind.i64.wrap (b.den-b.num)=b.den-b.num
 w3:IntKind.i64.wrap (b.a*(b.den-b.num))=b.a*(b.den-b.num)
 w4:IntKind.i64.wrap (b.b*b.num+b.a*(b.den-b.num))=b.b*b.num+b.a*(b.den-b.num)
 w5:IntKind.i64.wrap (c*(b.b*b.num+b.a*(b.den-b.num)))=c*(b.b*b.num+b.a*(b.den-b.num))
 w6:IntKind.i64.wrap ((c*(b.b*b.num+b.a*(b.den-b.num))).tdiv (b.b*b.num))=c*(b.b*b.num+b.a*(b.den-b.num)) / (b.b*b.num)
 w7:b.b*b.num≠0
 w8:IntKind.i64.wrap (b.b-b.a)=b.b-b.a
 w9:IntKind.i64.wrap (c*(b.b-b.a))=c*(b.b-b.a)
 w10:IntKind.i64.wrap ((c*(b.b-b.a)).tdiv b.b)=c*(b.b-b.a) / b.b
 w11:b.b≠0
 w12:∀h,0≤next b c h∧next b c h≤1000000000000
 w13:min (c*(b.b-b.a) / b.b) 1000000000000=c*(b.b-b.a) / b.b
def qG(k0 k1 k2:Int):Bool:=decide (k0≤1000) && (decide (k1≤k0) && (decide (k2≤k1) && decide (0≤k2)))
def QU(n:Int):Bool:=bT n 0 1000000000
end Go.Trem
namespace Go.Proofs.YtklfdfnoebnciaaGreatDoor
open List(length_flatMap map_take)
open Go Go.Abs Go.Trem
variable {σ:SK}
theorem Fu{a:Int}:lim T (.call false jX [.int .i64 a] σ)=some (.val (.bool (QU a)) σ):=by
 refine au C4 pO.eq_1 rfl ?_;simp[-length_flatMap,-map_take,cp,QU]
structure av6(p k:Int):Prop where
 w1:IntKind.i64.wrap (p*k)=p*k
 w2:IntKind.i64.wrap ((p*k).tdiv 1000)=p*k / 1000
 w3:0≤p*k / 1000
 w4:p*k / 1000≤1000000000
end Go.Proofs.YtklfdfnoebnciaaGreatDoor
namespace Go.Trem
open List(length_flatMap map_take)
open Go Go.Abs
structure wc where
 p:Pt
 mag:Int
structure Ev where
 tick:Int
 sp:List wc
structure ec where
 lo:Pt
 hi:Pt
 least:Int
 yT:Int
 count:Int
 OW:Int
@[simp] theorem wc.eta(p:wc):wc.mk p.p p.mag=p:=rfl
@[simp] theorem Ev.eta(p:Ev):Ev.mk p.tick p.sp=p:=rfl
@[simp] theorem ec.eta(p:ec):ec.mk p.lo p.hi p.least p.yT p.count p.OW=p:=rfl
@[simp] def wc.enc(s:wc):List D:=[.int .i64 s.p.x,.int .i64 s.p.y,.int .i64 s.p.z,.int .i64 s.mag]
@[simp] def Ev.enc(e:Ev):List D:=[.int .i64 e.tick,.aE e.sp.length (e.sp.flatMap wc.enc)]
@[simp] def ec.enc(r:ec):List D:=[.int .i64 r.lo.x,.int .i64 r.lo.y,.int .i64 r.lo.z,.int .i64 r.hi.x,.int .i64 r.hi.y,.int .i64 r.hi.z,.int .i64 r.least,.int .i64 r.yT,.int .i64 r.count,.int .u8 r.OW]
def LI:Elt wc:=wD 4 wc.enc fun _=>rfl
def aqh:Elt Ev:=wD 2 Ev.enc fun _=>rfl
def acj:Elt ec:=wD 10 ec.enc fun _=>rfl
def ec.OV(r:ec)(s:wc):Bool:=decide (r.least≤s.mag) && (bT s.p.x r.lo.x r.hi.x && (bT s.p.y r.lo.y r.hi.y && bT s.p.z r.lo.z r.hi.z))
def ec.ok(r:ec):Bool:=Aw r.lo r.hi && (bT r.least 0 160 && (bT r.yT 1 1000000 && (bT r.count 1 200 && (r.OW == 1 || r.OW == 2))))
def wc.ok(s:wc):Bool:=s.p.ok && bT s.mag 0 160
def Ev.ok(e:Ev):Bool:=bT e.tick 0 1000000 && (bT e.sp.length 1 2000 && gw e.sp wc.ok)
def ec.act(r:ec)(now:Int)(e:Ev):Bool:=decide (now-r.yT<e.tick) && decide (e.tick≤now)
def E8(f:Ev→Bool):List Ev→Nat
 |[]=>0
 |e::l=>E8 f l+(if f e then 1 else 0)
def yS(r:ec)(now:Int)(e:Ev):Bool:=r.act now e && su e.sp r.OV
def tp(r:ec)(now:Int)(e:Ev):Bool:=r.act now e && gw e.sp r.OV
def yn(f:ec→Ev→Bool)(l:List Ev):List ec→Int→Int
 |[],a=>a
 |r::R,a=>yn f l R (if r.count≤E8 (f r) l then max a r.OW else a)
def aaw(R:List ec)(l:List Ev)(now:Int):Int:=yn (fun r=>yS r now) l R 0
def abf(R:List ec)(l:List Ev)(now:Int):Int:=yn (fun r=>tp r now) l R 0
def o8(R:List ec)(l:List Ev)(now:Int):Int :=
 if 20<R.length then 3 else if gw R ec.ok=false then 1 else if 200<l.length then 3 else if gw l Ev.ok=false then 1 else if bT now 0 1000000=false then 2 else 0
theorem GG{r:ec}:r.ok=true↔Aw r.lo r.hi=true∧(0≤r.least∧r.least≤160)∧(1≤r.yT∧r.yT≤1000000)∧(1≤r.count∧r.count≤200)∧(r.OW=1∨r.OW=2):=by
 simp only[ec.ok,ae,aR,bW,beq_iff_eq]
end Go.Trem
namespace Go.Proofs.YtklfdfnoebnciaaGreatDoor
open List(length_flatMap map_take)
open Go Go.Abs Go.Trem
variable {σ:SK}
theorem JB{r:ec}{s:wc}:lim T (.call false dH [.agg r.enc,.agg s.enc] σ)=some (.val (.bool (r.OV s)) σ):=by
 refine au Av mJ.eq_1 rfl ?_;by_cases hc1:r.least≤s.mag
 rotate_left
 ·simp[-length_flatMap,-map_take,cp,ec.OV,hc1]
 cases hc2:bT s.p.x r.lo.x r.hi.x
 ·simp[-length_flatMap,-map_take,cp,ec.OV,hc1,hc2]
 cases hc3:bT s.p.y r.lo.y r.hi.y
 ·simp[-length_flatMap,-map_take,cp,ec.OV,hc1,hc2,hc3]
 simp[-length_flatMap,-map_take,cp,ec.OV,hc1,hc2,hc3]
theorem JH{r:ec}:lim T (.call false ei [.agg r.enc] σ)=some (.val (.bool r.ok) σ):=by
 refine au BN nM.eq_1 rfl ?_;cases hc1:Aw r.lo r.hi
 ·simp[-length_flatMap,-map_take,cp,Hu,ec.ok,hc1]
 cases hc2:bT r.least 0 160
 ·simp[-length_flatMap,-map_take,cp,Hu,ec.ok,hc1,hc2]
 cases hc3:bT r.yT 1 1000000
 ·simp[-length_flatMap,-map_take,cp,Hu,ec.ok,hc1,hc2,hc3]
 cases hc4:bT r.count 1 200
 ·simp[-length_flatMap,-map_take,cp,Hu,ec.ok,hc1,hc2,hc3,hc4]
 by_cases hc5:r.OW=1
 rotate_left
 ·simp[-length_flatMap,-map_take,cp,Hu,ec.ok,hc1,hc2,hc3,hc4,hc5]
 simp[-length_flatMap,-map_take,cp,Hu,ec.ok,hc1,hc2,hc3,hc4,hc5]
theorem apJ{s:wc}:lim T (.call false ft [.agg s.enc] σ)=some (.val (.bool s.ok) σ):=by
 refine au zc kK.eq_1 rfl ?_;cases hc1:Pt.ok s.p
 ·simp[-length_flatMap,-map_take,cp,wh,wc.ok,hc1]
 simp[-length_flatMap,-map_take,cp,wh,wc.ok,hc1]
theorem Hs{l:List wc}{p:wc→Bool}{fv:D}(ht:pw T fv LI.val p l)(hc:fv.cells=some [fv])(hl:l.length≤9223372036854775807):
  lim T (.call false ef [.aE l.length (l.flatMap wc.enc),fv] σ)=some (.val (.bool (gw l p)) σ) :=
 ze LI yb wz l4 nN hl ht hc
theorem JC{e:Ev}(hl:e.sp.length≤9223372036854775807):lim T (.call false dG [.agg e.enc] σ)=some (.val (.bool e.ok) σ):=by
 refine au As mH.eq_1 rfl ?_;have ha:=fun σ=>@Hs σ e.sp wc.ok (.fn ft [] []) (.fn fun s _ σ=>apJ) rfl hl
 cases hc1:bT e.tick 0 1000000
 ·simp[-length_flatMap,-map_take,cp,ha,Ev.ok,hc1]
 cases hc2:bT e.sp.length 1 2000
 ·simp[-length_flatMap,-map_take,cp,ha,Ev.ok,hc1,hc2]
 simp[-length_flatMap,-map_take,cp,ha,Ev.ok,hc1,hc2]
theorem Ld{R:List ec}(hl:R.length≤9223372036854775807):
  lim T (.call false de [.aE R.length (R.flatMap ec.enc),.fn ei [] []] σ)=some (.val (.bool (gw R ec.ok)) σ) :=
 ze acj ya wy s9 ur hl (.fn fun r _ σ=>JH) rfl
theorem P7{l:List Ev}(hl:l.length≤9223372036854775807)(hs:∀e∈l,e.sp.length≤9223372036854775807):
  lim T (.call false cQ [.aE l.length (l.flatMap Ev.enc),.fn dG [] []] σ)=some (.val (.bool (gw l Ev.ok)) σ) :=
 ze aqh xb vP sr ud hl (.fn fun r hr σ=>JC (hs r hr)) rfl
end Go.Proofs.YtklfdfnoebnciaaGreatDoor
namespace Go.Book
open List(length_flatMap map_take)
open Go Go.Abs Go.Rock
structure nh where
 m:cF
 left:Bool
 by_:Int
structure Lx where
 line:Int
 value:Int
 lo:Int
 hi:Int
structure Prt where
 width:Int
 vw:Int
structure yc where
 Dm:Int
 parts:List Prt
structure GR where
 tick:Int
 avF:Int
 wlo:Int
 whi:Int
 mlo:Int
 mhi:Int
structure Bk where
 bG:cf
 an:List nh
 av:List (List Int)
 rules:List Trem.ec
 yV:List Trem.Ev
 k0:Int
 k1:Int
 k2:Int
 dI:List yc
 cu:List GR
 ready:Bool
 oS:List Lx
 at_:Int
@[simp] def nh.enc(e:nh):List D:=[.str e.m.name,.aE e.m.bf.length (e.m.bf.flatMap aU),.bool e.left,.int .i64 e.by_]
@[simp] def Lx.enc(e:Lx):List D:=[.int .i64 e.line,.int .i64 e.value,.int .i64 e.lo,.int .i64 e.hi]
@[simp] def Prt.enc(e:Prt):List D:=[.int .i64 e.width,.int .i64 e.vw]
@[simp] def yc.enc(e:yc):List D:=[.int .i64 e.Dm,.aE e.parts.length (e.parts.flatMap Prt.enc)]
@[simp] def GR.enc(e:GR):List D:=[.int .i64 e.tick,.int .i64 e.avF,.int .i64 e.wlo,.int .i64 e.whi,.int .i64 e.mlo,.int .i64 e.mhi]
def nl{α:Type}(f:α→List D)(l:List α):D:=if l=[]then .aI else .aE l.length (l.flatMap f)
def pE(r:List Int):List D:=[.aE r.length (r.flatMap aU)]
def Bk.cells(L:Nat)(b:Bk):List D:=[.int .i64 b.bG.f.x,.int .i64 b.bG.f.y,.int .i64 b.bG.f.z,.int .i64 b.bG.f.k,nl Rw.enc b.bG.cc,.int .i64 b.bG.bD,.int .i64 b.bG.lift,.int .i64 b.bG.deep,nl bB.enc b.bG.ak,
 .sl L 0 b.an.length 0 b.an.length 4,nl pE b.av,.sl L 1 b.rules.length 0 b.rules.length 10,.sl L 2 b.yV.length 0 b.yV.length 2,.int .i64 b.k0,.int .i64 b.k1,.int .i64 b.k2,
 .sl L 3 b.dI.length 0 b.dI.length 2,.sl L 4 b.cu.length 0 b.cu.length 6,.bool b.ready,.sl L 5 b.oS.length 0 b.oS.length 4,.int .i64 b.at_]
def Bk.bk(L:Nat)(b:Bk)(er:List Int):List Abs.aG:=[.cells b.an.length (b.an.flatMap nh.enc),.cells b.rules.length (b.rules.flatMap Trem.ec.enc),.cells b.yV.length (b.yV.flatMap Trem.Ev.enc),.cells b.dI.length (b.dI.flatMap yc.enc),
 .cells b.cu.length (b.cu.flatMap GR.enc),.cells b.oS.length (b.oS.flatMap Lx.enc),.cells 0 (b.cells L),.cells er.length (er.flatMap aU)]
def uo:Bk:=⟨⟨⟨0,0,0,0⟩,[],0,0,0,[]⟩,[],[],[],[],1000,500,0,[],[],false,[],0⟩
def Prt.ok(last:Int)(p:Prt):Bool:=bT p.vw 0 last && bT p.width 1 100000
def yj:Int→List Prt→Bool
 |_,[]=>true
 |last,p::l=>p.ok last && yj p.vw l
def yc.ok(u:yc):Bool:=bT u.Dm 0 5 && (bT u.parts.length 1 8 && yj 1000 u.parts)
def vx(l:List Prt):Nat→Int
 |0=>1000
 |i+1=>match l[i]? with
  |some p=>p.vw
  |none=>0
def B0(l:List Prt)(i:Nat):Bool:=match l[i]? with
 |some p=>p.ok (vx l i)
 |none=>true
theorem O4{l:List Prt}:yj 1000 l=true↔∀j,j<l.length→B0 l j=true:=by
 have key:∀(r pre:List Prt),l=pre++r→(yj (vx l pre.length) r=true↔∀j,j<r.length→B0 l (pre.length+j)=true):=by
  intro r;induction r with
  |nil=>intro pre h;simp[yj]
  |cons p r ih =>
   intro pre h;have hp:l[pre.length]?=some p:=by rw[h];simp
   have h1:=ih (pre++[p]) (by rw[h];simp);have h2:vx l (pre++[p]).length=p.vw:=by simp[vx,hp]
   rw[h2]at h1;simp only[yj,ae,h1];constructor
   ·rintro⟨h3,h4⟩ j hj;cases j with
    |zero=>simpa[B0,hp]using h3
    |succ j =>
     have:=h4 j (by simpa using hj);rwa[show(pre++[p]).length+j=pre.length+(j+1)by simp;omega]at this
   ·intro h3;refine⟨?_,fun j hj=>?_⟩
    ·have:=h3 0 (by simp);simpa[B0,hp]using this
    ·have:=h3 (j+1) (by simpa using hj);rwa[show(pre++[p]).length+j=pre.length+(j+1)by simp;omega]
 have:=key l [] rfl;simpa[vx]using this
def xk(b:Bk)(x y z k:Int):Bk×Int :=
 if(b.bG.f.x=0∧b.bG.f.y=0)∧b.bG.f.z=0∧b.bG.f.k=0 then
  (if(fw.mk x y z k).valid=true∧4≤k then({b with bG:={b.bG with f:=⟨x,y,z,k⟩ } },0)else(b,1))
 else(b,8)
end Go.Book
namespace Go.Abs
open List(length_flatMap map_take)
open Go
variable {T:zO} {fv:D} {σ:SK}
theorem Pg{f w:Nat}{ag:Bool}(hT:T f=some (um ag w))(h1:fv.strip=fv)(h2:fv.calm=fv):lim T (.call false f [.aI,fv] σ)=some (.val (.int .i64 (-1)) σ):=by
 refine au hT (um.eq_1 _ _) rfl ?_;simp[h1,h2];refine aH (Gn.eq_1 _ _) ?_;simp[h1,h2]
theorem contains_nil{f i w:Nat}{ag:Bool}(hT:T f=some (iR i))(hi:T i=some (um ag w))(h1:fv.strip=fv)(h2:fv.calm=fv):lim T (.call false f [.aI,fv] σ)=some (.val (.bool false) σ):=by
 refine au hT (iR.eq_1 _) rfl ?_;simp[h1,h2,Pg hi h1 h2]
theorem all_nil{f g h i w:Nat}{ag:Bool}(hf:T f=some (C7 g h))(hh:T h=some (iR i))(hi:T i=some (um ag w))(h1:fv.strip=fv)(h2:fv.calm=fv)(hcl:fv.cells=some [fv]):
  lim T (.call false f [.aI,fv] σ)=some (.val (.bool true) σ):=by
 refine au hf (C7.eq_1 _ _) rfl ?_;have h3:=fun σ=>contains_nil (fv:=.fn g [] [.bw [fv]]) (σ:=σ) hh hi rfl rfl
 simp[h1,h2,h3,hcl]
end Go.Abs
namespace Go.Proofs.YtklfdfnoebnciaaGreatDoor
open List(length_flatMap map_take)
open Go Go.Abs Go.Rock Go.Book
variable {σ:SK}
theorem abD{F:List Abs.aG}{b:Bk}{er:List Int}{nm:List UInt8}{x y z k:Int}{b':Bk}{e:Int}(hd:xk b x y z k=(b',e))(he:e=0):
  lim T (.call false eR [.ref σ.length 6 0 0,.str nm,.aE 4 [.int .i64 x,.int .i64 y,.int .i64 z,.int .i64 k]] (F::b.bk σ.length er::σ))=some (.val (.dQ []) (F::b'.bk σ.length er::σ)):=by
 refine fU uX jw.eq_1 rfl (by simp) ?_;unfold xk at hd;split at hd
 case isFalse=>cases hd;cases he
 rename_i h1;split at hd
 case isFalse=>cases hd;cases he
 rename_i h2;cases hd;obtain⟨⟨f1,f2⟩,f3,f4⟩:=h1;have hS:(fw.mk x y z k).shape=0:=by simp[fw.shape,h2.1]
 have hC:=fun σ=>jj (σ:=σ) (f:=⟨x,y,z,k⟩)
 simp only[hS]at hC;simp[-length_flatMap,-map_take,Bk.bk,Bk.cells,f1,f2,f3,f4,cl,hC,h2.2]
theorem OD{F:List Abs.aG}{b:Bk}{er:List Int}{nm:List UInt8}{x y z k:Int}{b':Bk}{e:Int}(hd:xk b x y z k=(b',e))(he:e≠0):
  lim T (.call false eR [.ref σ.length 6 0 0,.str nm,.aE 4 [.int .i64 x,.int .i64 y,.int .i64 z,.int .i64 k]] (F::b.bk σ.length er::σ))=some (.fx (rf e) (F::b.bk σ.length er::σ)):=by
 refine dJ uX jw.eq_1 rfl ?_;have hC:=fun σ=>jj (σ:=σ) (f:=⟨x,y,z,k⟩)
 unfold xk at hd;split at hd
 ·rename_i h1;obtain⟨⟨f1,f2⟩,f3,f4⟩:=h1;split at hd
  ·cases hd;exact absurd rfl he
  rename_i h2;cases hd;by_cases h3:(fw.mk x y z k).valid=true
  ·have h4:¬4≤k:=fun hh=>h2 ⟨h3,hh⟩
   have hS:(fw.mk x y z k).shape=0:=by simp[fw.shape,h3]
   simp only[hS]at hC;simp[-length_flatMap,-map_take,Bk.bk,Bk.cells,f1,f2,f3,f4,cl,dj,hC,h4,D.clean,rf]
  ·have hS:(fw.mk x y z k).shape=1:=by simp[fw.shape,h3]
   simp only[hS]at hC;simp[-length_flatMap,-map_take,Bk.bk,Bk.cells,f1,f2,f3,f4,cl,dj,hC,D.clean,rf]
 ·rename_i h1;cases hd;have hz:(b.bG.f.x == 0 && (b.bG.f.y == 0 && (b.bG.f.z == 0 && b.bG.f.k == 0)))=false:=by
   cases hb:(b.bG.f.x == 0 && (b.bG.f.y == 0 && (b.bG.f.z == 0 && b.bG.f.k == 0)))with
   |false=>rfl
   |true =>
    simp only[ae,beq_iff_eq]at hb;exact absurd ⟨⟨hb.1,hb.2.1⟩,hb.2.2.1,hb.2.2.2⟩ h1
  simp[-length_flatMap,-map_take,Bk.bk,Bk.cells,hz,dj,D.clean,rf]
theorem Ez{k0 k1 k2:Int}(hσ:σ≠[]):
  lim T (.call false o7 [.aI,.aI,.agg [.int .i64 k0,.int .i64 k1,.int .i64 k2],.int .i64 0] σ) =
   some (.val (.dQ [if Trem.qG k0 k1 k2 then .aE 0 []else .aI,.int .i64 (if Trem.qG k0 k1 k2 then 0 else 1)]) σ):=by
 refine au E5 sk.eq_1 rfl ?_;have hA:=fun σ=>all_nil (T:=T) (σ:=σ) (fv:=.fn jX [] []) (f:=gD) (ag:=false) (w:=1) rfl rfl rfl rfl rfl rfl
 have hB:=fun σ=>all_nil (T:=T) (σ:=σ) (fv:=.fn pR [] []) (f:=oR) (ag:=false) (w:=1) rfl rfl rfl rfl rfl rfl
 have hC:Trem.QU 0=true:=by decide
 by_cases c1:1000<k0
 ·have d1:¬k0≤1000:=by omega
  simp[-length_flatMap,-map_take,Trem.qG,hA,hB,Fu,hC,c1,d1]
 have d1:k0≤1000:=by omega
 by_cases c2:k0<k1
 ·have d2:¬k1≤k0:=by omega
  simp[-length_flatMap,-map_take,Trem.qG,hA,hB,Fu,hC,c1,c2,d1,d2]
 have d2:k1≤k0:=by omega
 by_cases c3:k1<k2
 ·have d3:¬k2≤k1:=by omega
  simp[-length_flatMap,-map_take,Trem.qG,hA,hB,Fu,hC,c1,c2,c3,d1,d2,d3]
 have d3:k2≤k1:=by omega
 by_cases c4:k2<0
 ·have d4:¬0≤k2:=by omega
  simp[-length_flatMap,-map_take,Trem.qG,hA,hB,Fu,hC,c1,c2,c3,c4,d1,d2,d3,d4]
 have d4:0≤k2:=by omega
 simp[-length_flatMap,-map_take,Trem.qG,hA,hB,Fu,hC,c1,c2,c3,c4,d1,d2,d3,d4];refine aH vI.eq_1 ?_;simp[-length_flatMap,-map_take,d1,d2,d3,d4];have h3:¬σ.length≤σ.length-1:=by have:=aO.2 hσ;omega
 refine⟨[.dead],?_⟩;rw[Dh (by simp[D.bu,D.clean]) (by omega)];have h6:=AG (l:=σ.length-1) (n:=15) (l':=σ.length) (i:=0) (v:=0) (off:=0) (m:=0) (w:=1) (σ:=[Abs.aG.cells 0 []]::σ) (cs:=[]) h3 (by simp) (by omega);simp only[Nat.reduceSub,ck.frzL,h6];simp
def Kt(b:Bk)(k0 k1 k2:Int):Bk:={b with k0:=k0,k1:=k1,k2:=k2 }
theorem aj0{F:List Abs.aG}{b:Bk}{er:List Int}{nm:List UInt8}{x y z:Int}(h:Trem.qG x y z=true):
  lim T (.call false fA [.ref σ.length 6 0 0,.str nm,.aE 3 [.int .i64 x,.int .i64 y,.int .i64 z]] (F::b.bk σ.length er::σ))=some (.val (.dQ []) (F::(Kt b x y z).bk σ.length er::σ)):=by
 refine fU vA j7.eq_1 rfl (by simp) ?_;have hI:=fun σ hσ=>Ez (σ:=σ) (k0:=x) (k1:=y) (k2:=z) hσ
 simp only[h,if_true]at hI;simp[-length_flatMap,-map_take,hI,meD,og,Bk.bk,Bk.cells,Kt]
theorem Qf{F:List Abs.aG}{b:Bk}{er:List Int}{nm:List UInt8}{x y z:Int}(h:Trem.qG x y z=false):
  lim T (.call false fA [.ref σ.length 6 0 0,.str nm,.aE 3 [.int .i64 x,.int .i64 y,.int .i64 z]] (F::b.bk σ.length er::σ))=some (.fx (rf 1) (F::b.bk σ.length er::σ)):=by
 refine dJ vA j7.eq_1 rfl ?_;have hI:=fun σ hσ=>Ez (σ:=σ) (k0:=x) (k1:=y) (k2:=z) hσ
 simp only[h]at hI;have hM:=fun σ=>pq (σ:=σ) (e:=1) (by decide)
 simp[-length_flatMap,-map_take,hI,meD,hM,Bk.bk,Bk.cells,D.clean,rf]
theorem Jw{r:Trem.ec}:lim T (.call false gV [.aE 1 r.enc,.aI,.int .i64 0] σ)=some (.val (.dQ [.int .u8 0,.int .u8 0,.int .i64 (if r.ok then 0 else 1)]) σ):=by
 refine au wx nR.eq_1 rfl ?_;have hA:=fun σ=>@Ld σ [r] (by simp)
 have hN:=fun σ=>all_nil (T:=T) (σ:=σ) (fv:=.fn dG [] []) (f:=cQ) (ag:=true) (w:=2) rfl rfl rfl rfl rfl rfl
 simp only[List.length_singleton,aQ,cg,cS,gw,jk,List.all_nil,Bool.and_true]at hA;have w0:Trem.bT 0 0 1000000=true:=by decide
 cases hr:r.ok
 ·rw[hr]at hA;simp only[Trem.ec.enc]at hA ⊢;simp[-length_flatMap,-map_take,hA]
 ·rw[hr]at hA;have hc:=(Trem.GG.1 hr).2.2.2.1;have c1:¬r.count≤0:=by omega
  simp only[Trem.ec.enc]at hA ⊢;simp[-length_flatMap,-map_take,hA,hN,cp,w0];refine aH gg.eq_1 ?_;simp[-length_flatMap,-map_take];refine aH lk.eq_1 ?_;simp[-length_flatMap,-map_take,c1];refine aH gg.eq_1 ?_;simp[-length_flatMap,-map_take,c1]
def Ay(b:Bk)(r:Trem.ec)(c:Int):Bk×Int :=
 if b.rules.length<20 then(if bT c 1 2=true then(if r.ok=true then({b with rules:=b.rules++[r] },0)else(b,1))else(b,1))else(b,3)
theorem aaV(l:List Trem.ec):(l.flatMap Trem.ec.enc).length=l.length*10:=b9 (f:=Trem.ec.enc) (w:=10) (fun _=>rfl) l
theorem aj5{F:List Abs.aG}{b:Bk}{er:List Int}{nm:List UInt8}{x0 x1 x2 x3 x4 x5 x6 x7 x8 x9:Int}{b':Bk}{e:Int}(hd:Ay b ⟨⟨x0,x1,x2⟩,⟨x3,x4,x5⟩,x6,x7,x8,x9⟩ x9=(b',e))(he:e=0):
  lim T (.call false fD [.ref σ.length 6 0 0,.str nm,.aE 10 [.int .i64 x0,.int .i64 x1,.int .i64 x2,.int .i64 x3,.int .i64 x4,.int .i64 x5,.int .i64 x6,.int .i64 x7,.int .i64 x8,.int .i64 x9]] (F::b.bk σ.length er::σ))=some (.val (.dQ []) (F::b'.bk σ.length er::σ)):=by
 refine fU vC j9.eq_1 rfl (by simp) ?_;have hL:=fun σ=>Jw (σ:=σ) (r:=⟨⟨x0,x1,x2⟩,⟨x3,x4,x5⟩,x6,x7,x8,x9⟩)
 unfold Ay at hd;split at hd
 case isFalse=>cases hd;cases he
 rename_i h1;split at hd
 case isFalse=>cases hd;cases he
 rename_i h2;split at hd
 case isFalse=>cases hd;cases he
 rename_i h3;cases hd;have h1':(b.rules.length:Int)<20:=by omega
 have h4:=aR.1 h2;have w1:IntKind.u8.wrap x9=x9:=wu8 (by omega);have w2:(b.rules.length+1)*80≤room:=by unfold room;omega
 have w3:=aaV b.rules;have w4:(b.rules.flatMap Trem.ec.enc).take (b.rules.length*10)=b.rules.flatMap Trem.ec.enc:=ah (by omega);simp only[h3,if_true,Trem.ec.enc]at hL;simp[-length_flatMap,-map_take,Bk.bk,Bk.cells,h1',eH,h2,cl,w1,hL,og,w2,w3,w4]
theorem Qv{F:List Abs.aG}{b:Bk}{er:List Int}{nm:List UInt8}{x0 x1 x2 x3 x4 x5 x6 x7 x8 x9:Int}{b':Bk}{e:Int}(hd:Ay b ⟨⟨x0,x1,x2⟩,⟨x3,x4,x5⟩,x6,x7,x8,x9⟩ x9=(b',e))(he:e≠0):
  lim T (.call false fD [.ref σ.length 6 0 0,.str nm,.aE 10 [.int .i64 x0,.int .i64 x1,.int .i64 x2,.int .i64 x3,.int .i64 x4,.int .i64 x5,.int .i64 x6,.int .i64 x7,.int .i64 x8,.int .i64 x9]] (F::b.bk σ.length er::σ))=some (.fx (rf e) (F::b.bk σ.length er::σ)):=by
 refine dJ vC j9.eq_1 rfl ?_;have hL:=fun σ=>Jw (σ:=σ) (r:=⟨⟨x0,x1,x2⟩,⟨x3,x4,x5⟩,x6,x7,x8,x9⟩)
 have hM:=fun σ=>pq (σ:=σ) (e:=1) (by decide)
 unfold Ay at hd;split at hd
 ·rename_i h1;have h1':(b.rules.length:Int)<20:=by omega
  split at hd
  ·rename_i h2;have h4:=aR.1 h2;have w1:IntKind.u8.wrap x9=x9:=wu8 (by omega);split at hd
   ·cases hd;exact absurd rfl he
   ·rename_i h3;cases hd;have h3':Trem.ec.ok ⟨⟨x0,x1,x2⟩,⟨x3,x4,x5⟩,x6,x7,x8,x9⟩=false:=by simpa using h3
    simp only[h3',Trem.ec.enc]at hL;simp[-length_flatMap,-map_take,Bk.bk,Bk.cells,h1',eH,h2,cl,w1,hL,hM,D.clean,rf]
  ·rename_i h2;cases hd;have h2':bT x9 1 2=false:=by simpa using h2
   simp[-length_flatMap,-map_take,Bk.bk,Bk.cells,h1',eH,h2',cl,dj,D.clean,rf]
 ·rename_i h1;cases hd;have h1':¬(b.rules.length:Int)<20:=by omega
  simp[-length_flatMap,-map_take,Bk.bk,Bk.cells,h1',dj,D.clean,rf]
theorem tT{α:Type}{f:α→List D}{l:List α}:(nl f l).vQ=.aE l.length (l.flatMap f):=by
 unfold nl;split
 ·rename_i h;subst h;rfl
 ·rfl
theorem akA{l:List bB}:(nl bB.enc l).clean=true:=by unfold nl;split<;>simp[D.clean,bg]
theorem yW{b:cf}{tq wq:D}(htq:tq.vQ=.aE b.cc.length (b.cc.flatMap Rw.enc))(hwq:wq.vQ=.aE b.ak.length (b.ak.flatMap bB.enc))(h1:b.cc.length≤1000000000)(h2:b.ak.length≤1000000000):
  lim T (.call false mi [.agg [.int .i64 b.f.x,.int .i64 b.f.y,.int .i64 b.f.z,.int .i64 b.f.k,tq,.int .i64 b.bD,.int .i64 b.lift,.int .i64 b.deep,wq]] σ)=some (.val (.int .i64 (if b.valid then 0 else 1)) σ):=by
 refine au E3 sj.eq_1 rfl ?_;have hB:=fun σ=>Ah (σ:=σ) (b:=b) h1 h2
 cases hv:b.valid<;>rw[hv]at hB<;>simp[-length_flatMap,-map_take,htq,hwq,hB,cq,bg]
def II(b:Bk)(x y z:Int):Bk:={b with bG:={b.bG with bD:=x,lift:=y,deep:=z },ready:=true }
def EH(b:Bk)(x y z:Int):Bk×Int :=
 if((b.bG.f.x=0∧b.bG.f.y=0)∧b.bG.f.z=0∧b.bG.f.k=0)∨b.bG.cc=[]∨b.ready=true then(b,8)
 else if(II b x y z).bG.valid=true then(II b x y z,0)else(b,1)
theorem Gk{f:fw}:(f.x == 0 && (f.y == 0 && (f.z == 0 && f.k == 0)))=decide ((f.x=0∧f.y=0)∧f.z=0∧f.k=0):=by
 by_cases h1:f.x=0<;>by_cases h2:f.y=0<;>by_cases h3:f.z=0<;>by_cases h4:f.k=0<;>simp[h1,h2,h3,h4]
theorem dZ{α:Type}{f:α→List D}{l:List α}(h:l≠[]):nl f l=.aE l.length (l.flatMap f):=if_neg h
theorem ajW{F:List Abs.aG}{b:Bk}{er:List Int}{nm:List UInt8}{x y z:Int}{b':Bk}{e:Int}(h1:b.bG.cc.length≤1000000000)(h2:b.bG.ak.length≤1000000000)(hd:EH b x y z=(b',e))(he:e=0):
  lim T (.call false gh [.ref σ.length 6 0 0,.str nm,.aE 3 [.int .i64 x,.int .i64 y,.int .i64 z]] (F::b.bk σ.length er::σ))=some (.val (.dQ []) (F::b'.bk σ.length er::σ)):=by
 refine fU wo lg.eq_1 rfl (by simp) ?_;unfold EH at hd;split at hd
 case isTrue=>cases hd;cases he
 rename_i h0;split at hd
 case isFalse=>cases hd;cases he
 rename_i h3;cases hd;have c1:(b.bG.f.x == 0 && (b.bG.f.y == 0 && (b.bG.f.z == 0 && b.bG.f.k == 0)))=false:=by rw[Gk];simpa using fun hh=>h0 (.inl hh)
 have c2:b.bG.cc≠[]:=fun hh=>h0 (.inr (.inl hh))
 have c3:b.ready=false:=by cases hr:b.ready with | false=>rfl | true=>exact absurd (.inr (.inr hr)) h0
 have c4:0<b.bG.cc.length:=aO.2 c2;have hcl:(D.aE b.bG.cc.length (b.bG.cc.flatMap Rw.enc)).clean=true:=by simp[D.clean,cq]
 have hC:=fun σ=>yW (σ:=σ) (b:=(II b x y z).bG) (tq:=nl Rw.enc b.bG.cc) (wq:=nl bB.enc b.bG.ak) tT tT h1 h2
 rw[h3]at hC;simp only[dZ c2,II]at hC;simp[-length_flatMap,-map_take,Bk.bk,Bk.cells,c1,dZ c2,c4,c3,cl,og,hC,II,akA,hcl]
theorem P8{F:List Abs.aG}{b:Bk}{er:List Int}{nm:List UInt8}{x y z:Int}{b':Bk}{e:Int}(h1:b.bG.cc.length≤1000000000)(h2:b.bG.ak.length≤1000000000)(hd:EH b x y z=(b',e))(he:e≠0):
  lim T (.call false gh [.ref σ.length 6 0 0,.str nm,.aE 3 [.int .i64 x,.int .i64 y,.int .i64 z]] (F::b.bk σ.length er::σ))=some (.fx (rf e) (F::b.bk σ.length er::σ)):=by
 refine dJ wo lg.eq_1 rfl ?_;have hM:=fun σ=>pq (σ:=σ) (e:=1) (by decide)
 unfold EH at hd;split at hd
 ·rename_i h0;cases hd;cases c1:(b.bG.f.x == 0 && (b.bG.f.y == 0 && (b.bG.f.z == 0 && b.bG.f.k == 0)))
  ·by_cases c2:b.bG.cc=[]
   ·simp[-length_flatMap,-map_take,Bk.bk,Bk.cells,c1,c2,nl,dj,D.clean,rf]
   ·have c4:0<b.bG.cc.length:=aO.2 c2;have c3:b.ready=true:=by
     rw[Gk]at c1;rcases h0 with h | h | h
     ·exact absurd h (by simpa using c1)
     ·exact absurd h c2
     ·exact h
    simp[-length_flatMap,-map_take,Bk.bk,Bk.cells,c1,dZ c2,c4,c3,dj,D.clean,rf]
  ·simp[-length_flatMap,-map_take,Bk.bk,Bk.cells,c1,dj,D.clean,rf]
 ·rename_i h0;split at hd
  ·cases hd;exact absurd rfl he
  rename_i h3;cases hd;have c1:(b.bG.f.x == 0 && (b.bG.f.y == 0 && (b.bG.f.z == 0 && b.bG.f.k == 0)))=false:=by rw[Gk];simpa using fun hh=>h0 (.inl hh)
  have c2:b.bG.cc≠[]:=fun hh=>h0 (.inr (.inl hh))
  have c3:b.ready=false:=by cases hr:b.ready with | false=>rfl | true=>exact absurd (.inr (.inr hr)) h0
  have c4:0<b.bG.cc.length:=aO.2 c2;have hC:=fun σ=>yW (σ:=σ) (b:=(II b x y z).bG) (tq:=nl Rw.enc b.bG.cc) (wq:=nl bB.enc b.bG.ak) tT tT h1 h2
  have h3':(II b x y z).bG.valid=false:=by simpa using h3
  rw[h3']at hC;simp only[dZ c2,II]at hC;simp[-length_flatMap,-map_take,Bk.bk,Bk.cells,c1,dZ c2,c4,c3,cl,hM,hC,D.clean,rf]
theorem F3(l:List bB):(l.flatMap bB.enc).length=l.length*3:=b9 (f:=bB.enc) (w:=3) (fun _=>rfl) l
theorem Hw{bs:List Abs.aG}:lim T (.call true ed [.aI] (bs::σ))=some (.val (.sl σ.length (bs.length+1) 0 0 0 3) ((bs++[.cells 0 [],.cells 0 []])::σ)):=by
 refine vR rI fR.eq_1 rfl ?_;simp[-length_flatMap,-map_take]
theorem Jz{bs:List Abs.aG}{l:List bB}(hne:l≠[])(hl:l.length≤1000000):lim T (.call true ed [.aE l.length (l.flatMap bB.enc)] (bs::σ)) =
  some (.val (.sl σ.length (bs.length+1) 1 0 l.length 3) ((bs++[.cells 0 [],.cells 1 (l.flatMap bB.enc)])::σ)):=by
 refine vR rI fR.eq_1 rfl ?_;have h7:l.length*24≤room:=by unfold room;omega
 simp[-length_flatMap,-map_take,hne,F3,h7]
def vM(b:Bk)(x y z:Int):Bk:={b with bG:={b.bG with ak:=b.bG.ak++[⟨x,y,z⟩] } }
def yi(b:Bk)(x y z:Int):Bk×Int :=
 if b.ready=true∧b.an=[]then(if(vM b x y z).bG.valid=true then(vM b x y z,0)else(b,1))else(b,8)
theorem ake{F:List Abs.aG}{b:Bk}{er:List Int}{nm:List UInt8}{x y z:Int}{b':Bk}{e:Int}(ht:b.bG.cc≠[])(h1:b.bG.cc.length≤1000000000)(h2:b.bG.ak.length≤1000000)(hd:yi b x y z=(b',e))(he:e=0):
  lim T (.call false fH [.ref σ.length 6 0 0,.str nm,.aE 3 [.int .i64 x,.int .i64 y,.int .i64 z]] (F::b.bk σ.length er::σ))=some (.val (.dQ []) (F::b'.bk σ.length er::σ)):=by
 refine fU vG ke.eq_1 rfl (by simp) ?_;unfold yi at hd;split at hd
 case isFalse=>cases hd;cases he
 rename_i h0;obtain⟨c1,c2⟩:=h0;split at hd
 case isFalse=>cases hd;cases he
 rename_i h3;cases hd;have hC:=fun σ=>yW (σ:=σ) (b:=(vM b x y z).bG) (tq:=.aE b.bG.cc.length (b.bG.cc.flatMap Rw.enc)) (wq:=.aE (b.bG.ak.length+1) (b.bG.ak.flatMap bB.enc++[.int .i64 x,.int .i64 y,.int .i64 z])) rfl (by simp[vM,D.vQ]) h1 (by simp[vM];omega)
 rw[h3]at hC;simp only[vM]at hC;have hcl:(D.aE b.bG.cc.length (b.bG.cc.flatMap Rw.enc)).clean=true:=by simp[D.clean,cq]
 have hroom:(b.bG.ak.length+1)*24≤room:=by unfold room;omega
 have hlen:=F3 b.bG.ak;have htake:(b.bG.ak.flatMap bB.enc).take (b.bG.ak.length*3)=b.bG.ak.flatMap bB.enc:=ah (by omega);have hcw:D.bu (b.bG.ak.flatMap bB.enc++[.int .i64 x,.int .i64 y,.int .i64 z])=true:=by
  have:=bg (b.bG.ak++[⟨x,y,z⟩]);simpa using this
 have hfr:∀(v:Nat) (S:SK),S.length=σ.length+1+1→ck 0 16 (.sl (σ.length+1+1) 1 v 0 (b.bG.ak.length+1) 3) ([.cells 0 [],.cells v (b.bG.ak.flatMap bB.enc++[.int .i64 x,.int .i64 y,.int .i64 z])]::S) =
   (.aE (b.bG.ak.length+1) (b.bG.ak.flatMap bB.enc++[.int .i64 x,.int .i64 y,.int .i64 z]),[.cells 0 [],.dead]::S):=by
  intro v S hS;have:=zT (f:=bB.enc) (w:=3) (fun _=>rfl) (fun _=>by simp[D.clean]) (l:=b.bG.ak++[⟨x,y,z⟩]) (j:=1) (v:=v) (bs:=[Abs.aG.cells 0 [],.cells v (b.bG.ak.flatMap bB.enc++[.int .i64 x,.int .i64 y,.int .i64 z])]) (σ:=S) (by intro h;subst h;simp at hS) (by simp);rw[hS]at this;simpa using this
 have h24:24≤room:=by unfold room;omega
 have hcw2:(D.aE (b.bG.ak.length+1) (b.bG.ak.flatMap bB.enc++[.int .i64 x,.int .i64 y,.int .i64 z])).clean=true:=by simpa[D.clean]using hcw
 by_cases hw:b.bG.ak=[]
 ·have hfr':=hfr;simp only[hw,bh,cg,aV,cG]at hfr' hC;have ht':=dZ (f:=Rw.enc) ht;simp only[nl]at ht';simp[-length_flatMap,-map_take,Bk.bk,Bk.cells,c1,c2,ht',hC,hw,nl,cl,og,Hw,vM,hcl,h24,hfr']
 ·simp[-length_flatMap,-map_take,Bk.bk,Bk.cells,c1,c2,dZ ht,dZ hw,cl,og,Jz hw h2,vM,hcl,hroom,hlen,htake,hfr,hC,hcw2];simp[nl]
theorem QD{F:List Abs.aG}{b:Bk}{er:List Int}{nm:List UInt8}{x y z:Int}{b':Bk}{e:Int}(ht:b.ready=true→b.bG.cc≠[])(h1:b.bG.cc.length≤1000000000)(h2:b.bG.ak.length≤1000000)(hd:yi b x y z=(b',e))(he:e≠0):
  lim T (.call false fH [.ref σ.length 6 0 0,.str nm,.aE 3 [.int .i64 x,.int .i64 y,.int .i64 z]] (F::b.bk σ.length er::σ))=some (.fx (rf e) (F::b.bk σ.length er::σ)):=by
 refine dJ vG ke.eq_1 rfl ?_;have hM:=fun σ=>pq (σ:=σ) (e:=1) (by decide)
 have hrc:(D.tQ 90 (.agg [.int .i64 1])).clean=true:=rfl;unfold yi at hd;split at hd
 case isFalse h0 =>
  cases hd;cases c1:b.ready with
  |false=>simp[-length_flatMap,-map_take,Bk.bk,Bk.cells,c1,dj,D.clean,rf]
  |true =>
   have c2:b.an≠[]:=fun hh=>h0 ⟨c1,hh⟩
   have c2':((b.an.length:Int) == 0)=false:=by simpa using c2
   simp[-length_flatMap,-map_take,Bk.bk,Bk.cells,c1,c2',dj,D.clean,rf]
 rename_i h0;obtain⟨c1,c2⟩:=h0;have ht:=ht c1;split at hd
 case isTrue=>cases hd;exact absurd rfl he
 rename_i h3;cases hd;have h3':(vM b x y z).bG.valid=false:=by simpa using h3
 have hC:=fun σ=>yW (σ:=σ) (b:=(vM b x y z).bG) (tq:=.aE b.bG.cc.length (b.bG.cc.flatMap Rw.enc)) (wq:=.aE (b.bG.ak.length+1) (b.bG.ak.flatMap bB.enc++[.int .i64 x,.int .i64 y,.int .i64 z])) rfl (by simp[vM,D.vQ]) h1 (by simp[vM];omega)
 rw[h3']at hC;simp only[vM]at hC;have hcl:(D.aE b.bG.cc.length (b.bG.cc.flatMap Rw.enc)).clean=true:=by simp[D.clean,cq]
 have hroom:(b.bG.ak.length+1)*24≤room:=by unfold room;omega
 have hlen:=F3 b.bG.ak;have htake:(b.bG.ak.flatMap bB.enc).take (b.bG.ak.length*3)=b.bG.ak.flatMap bB.enc:=ah (by omega);have hcw:D.bu (b.bG.ak.flatMap bB.enc++[.int .i64 x,.int .i64 y,.int .i64 z])=true:=by
  have:=bg (b.bG.ak++[⟨x,y,z⟩]);simpa using this
 have hfr:∀(v:Nat) (S:SK),S.length=σ.length+1+1→ck 0 16 (.sl (σ.length+1+1) 1 v 0 (b.bG.ak.length+1) 3) ([.cells 0 [],.cells v (b.bG.ak.flatMap bB.enc++[.int .i64 x,.int .i64 y,.int .i64 z])]::S) =
   (.aE (b.bG.ak.length+1) (b.bG.ak.flatMap bB.enc++[.int .i64 x,.int .i64 y,.int .i64 z]),[.cells 0 [],.dead]::S):=by
  intro v S hS;have:=zT (f:=bB.enc) (w:=3) (fun _=>rfl) (fun _=>by simp[D.clean]) (l:=b.bG.ak++[⟨x,y,z⟩]) (j:=1) (v:=v) (bs:=[Abs.aG.cells 0 [],.cells v (b.bG.ak.flatMap bB.enc++[.int .i64 x,.int .i64 y,.int .i64 z])]) (σ:=S) (by intro h;subst h;simp at hS) (by simp);rw[hS]at this;simpa using this
 have h24:24≤room:=by unfold room;omega
 have hcw2:(D.aE (b.bG.ak.length+1) (b.bG.ak.flatMap bB.enc++[.int .i64 x,.int .i64 y,.int .i64 z])).clean=true:=by simpa[D.clean]using hcw
 by_cases hw:b.bG.ak=[]
 ·have hfr':=hfr;simp only[hw,bh,cg,aV,cG]at hfr' hC;have ht':=dZ (f:=Rw.enc) ht;simp only[nl]at ht';simp[-length_flatMap,-map_take,Bk.bk,Bk.cells,c1,c2,ht',hC,hw,nl,cl,hM,Hw,vM,hcl,h24,hfr',rf,hrc]
 ·simp[-length_flatMap,-map_take,Bk.bk,Bk.cells,c1,c2,dZ ht,dZ hw,cl,hM,Jz hw h2,vM,hcl,hroom,hlen,htake,hfr,hC,hcw2,rf,hrc]
end Go.Proofs.YtklfdfnoebnciaaGreatDoor
