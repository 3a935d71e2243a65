import Derived.Test.YtfgljaglidhjiaaGreatDoorTxt1
import Derived.Test.YtfgljaglidhjiaaGreatDoorTxt0
import Derived.Test.YtfgljaglidhjiaaGreatDoorBase20
import Derived.Test.YtfgljaglidhjiaaGreatDoorTab
set_option linter.all false
namespace Go.Proofs.YtfgljaglidhjiaaGreatDoor
open List(length_flatMap map_take)
open Go Go.Abs Go.Rock
variable {σ:SK}
theorem Gz{l i v off:Nat}:lim T (.xE fD [.ref l i v off] none σ)=some (.val (.dG []) σ):=by
 refine AV yk pw.eq_1 rfl (by simp[-length_flatMap,-map_take,rT];exact⟨rfl,rfl⟩) ?_;simp[-length_flatMap,-map_take]
theorem SM{F:List Abs.aE}(hF:F=[.cells 0 [.int .i64 0]]):lim T (.xE fD [.ref σ.length 0 0 0] (some (.tW 262 (.agg []))) (F::σ))=some (.val (.dG []) ([.cells 0 [.int .i64 9]]::σ)):=by
 subst hF;refine AV yk pw.eq_1 rfl (by simp[-length_flatMap,-map_take,rT];exact⟨rfl,rfl⟩) ?_;simp[-length_flatMap,-map_take]
theorem qU{α:Type}{f:α→Int}:∀{l:List α},da f l=0→∀x∈l,f x=0
 |[],_,x,hx=>by cases hx
 |a::l,h,x,hx=>by
  simp only[da]at h;split at h
  ·rename_i ha;rcases aW.1 hx with rfl | hx
   ·exact ha
   ·exact qU h x hx
  ·rename_i ha;exact absurd h ha
theorem zU{b:cr}{av:List (List Int)}(h:vV b av=0):av.length≤200∧∀r∈av,Rv b r:=by
 unfold vV at h;split at h
 ·cases h
 ·exact⟨by omega,fun r hr=>Rv.of (qU h r hr)⟩
def sj(b:cr)(m:cN)(av:List (List Int)):Int:=if Bd b m then(if vV b av=0 then(match Rock.run b m av with | some _=>0 | none=>9)else vV b av)else 1
def xg(b:cr)(m:cN)(av:List (List Int)):D:=if sj b m av=0 then(match Rock.run b m av with | some (ss,ys) => .agg [.aH ss.length (ss.flatMap wC),.aH ys.length (ys.flatMap wC)] | none => .agg [.aF,.aF])else .agg [.aF,.aF]
theorem L5{b:cr}{m:cN}{av:List (List Int)}{wq:D}(hwq:wq.wc=.aH b.an.length (b.an.flatMap bG.enc))(h1:b.ck.length≤1000000000)(h2:b.an.length≤1000000000)(hn:m.name.length≤1000000000)(hl:m.bh.length≤1000000000)(hp:av.length≤1000000000)(hs:∀l∈av,l.length≤1000000000)(hσ:σ≠[]):
  lim T (.call false qY [.agg [.int .i64 b.f.x,.int .i64 b.f.y,.int .i64 b.f.z,.int .i64 b.f.k,.aH b.ck.length (b.ck.flatMap Rw.enc),.int .i64 b.bJ,.int .i64 b.lift,.int .i64 b.deep,wq],.agg [.str m.name,.aH m.bh.length (m.bh.flatMap aT)],.aH av.length (av.flatMap FT)] σ)=some (.val (.dG [xg b m av,.int .i64 (sj b m av)]) σ):=by
 have hP:=fun σ=>Sj (σ:=σ) (b:=b) hp hs
 cases hb:Bd b m
 ·have hE:sj b m av=1:=by simp[sj,hb]
  have hD:xg b m av=.agg [.aF,.aF]:=by simp[xg,hE]
  rw[hD,hE];refine az AN sY.eq_1 rfl ?_;obtain⟨d,hB,hd1,hd2⟩:=Np h1 h2 hn hl hb (σ:=[.cells 0 [.int .i64 0]]::σ);simp[-length_flatMap,-map_take,hwq,hB,hd1,cI,bj,bq]
 ·have hB:=fun σ=>agH (σ:=σ) h1 h2 hn hl hb
  by_cases hq:vV b av=0
  ·obtain⟨p1,p2⟩:=zU hq;simp only[Bd,af]at hb;have hf:Fv b m:=Fv.of (by simp[Bd,hb]);have hb':Bd b m=true:=by simp[Bd,hb]
   refine Kz AN sY.eq_1 rfl rfl ?_;cases hrun:Rock.run b m av with
   |none =>
    have hE:sj b m av=9:=by simp[sj,hb',hq,hrun]
    have hD:xg b m av=.agg [.aF,.aF]:=by simp[xg,hE]
    have hR:=fun σ=>Ns (σ:=σ) hf p1 p2 hrun
    have hX:vH T (.fn fD [] []) [.ref σ.length 0 0 0] (some (.tW 262 (.agg []))) ([.cells 0 [.int .i64 0]]::σ)=some ([.cells 0 [.int .i64 9]]::σ):=uG (SM rfl);rw[hD,hE];simp[-length_flatMap,-map_take,JZ,AA,hwq,hB,hP,hq,hR,cI,bj,bq];rw[yM wT.eq_1];simp[-length_flatMap,-map_take,JZ,AA,hX,hR,cI,bj,bq]
   |some p =>
    obtain⟨ss,ys⟩:=p;have hE:sj b m av=0:=by simp[sj,hb',hq,hrun]
    have hD:xg b m av=.agg [.aH ss.length (ss.flatMap wC),.aH ys.length (ys.flatMap wC)]:=by simp[xg,hE,hrun]
    have hX:vH T (.fn fD [] []) [.ref σ.length 0 0 0] none ([.cells 0 [.int .i64 0]]::σ)=some ([.cells 0 [.int .i64 0]]::σ):=uG Gz;have hR:=fun σ hσ=>Nt (σ:=σ) hf p1 p2 hσ hrun
    rw[hD,hE];simp[-length_flatMap,-map_take,JZ,AA,hwq,hB,hP,hq,hR,cI,bj,bq];rw[yM wT.eq_1];simp[-length_flatMap,-map_take,JZ,AA,hX,hR,cI,bj,bq];rw[jj (by simp[D.clean,Ik]) (by omega)];exact⟨_,rfl⟩
  ·have hE:sj b m av=vV b av:=by simp[sj,hb,hq]
   have hD:xg b m av=.agg [.aF,.aF]:=by simp[xg,hE,hq]
   rw[hD,hE];refine az AN sY.eq_1 rfl ?_;simp[-length_flatMap,-map_take,hwq,hB,hP,hq,cI,bj,bq]
end Go.Proofs.YtfgljaglidhjiaaGreatDoor
namespace Go.Book
open List(length_flatMap map_take)
open Go Go.Abs Go.Rock
def Dd(s:List UInt8):Option Int:=if((rU s).1=0∧Bh (rU s).2=s)∧cG (rU s).2 (-999999999) 999999999=true then some (rU s).2 else none
def oz:List (List UInt8)→Option (List Int)
 |[]=>some []
 |s::l=>match Dd s with
  |some n=>(oz l).map (n :: ·)
  |none=>none
structure Wd where
 named:Bool
 least:Int
 step:Int
 k:Nat
def ot:List (List UInt8×Wd):=[
 ([102,105,101,108,100],⟨false,4,0,0⟩),([116,97,98,108,101],⟨false,0,5,1⟩),([98,101,100],⟨false,3,0,2⟩),([119,101,108,108],⟨false,3,0,3⟩),
 ([109,111,100,101,108],⟨true,0,1,4⟩),([108,111,103],⟨true,3,2,5⟩),([114,117,108,101],⟨false,10,0,6⟩),([107,101,101,112],⟨false,3,0,7⟩),
 ([113,117,97,107,101],⟨false,0,4,8⟩),([116,105,99,107],⟨false,0,1,9⟩),([114,101,97,100],⟨false,4,0,10⟩),([117,110,105,116],⟨false,1,2,11⟩),([115,101,108,108],⟨false,4,0,12⟩)]
def Cz(s:List UInt8):List (List UInt8×Wd)→Option Wd
 |[]=>none
 |(k,w)::l=>if s=k then some w else Cz s l
def xo(s:List UInt8):Option Wd:=Cz s ot
theorem BE{s:List UInt8}{w:Wd}:∀{l:List (List UInt8×Wd)},Cz s l=some w→(s,w)∈l
 |[],h=>by cases h
 |(k,v)::l,h=>by
  simp only[Cz]at h;split at h
  ·rename_i e;cases h;subst e;simp
  ·exact List.mem_cons_of_mem _ (BE h)
theorem Ef{s:List UInt8}{w:Wd}(h:xo s=some w):0≤w.least∧w.least≤10∧0≤w.step∧w.step≤5∧w.k<13:=by
 have h1:=BE h;simp only[ot,aW,ak,List.not_mem_nil,or_false]at h1;rcases h1 with⟨_,rfl⟩ | ⟨_,rfl⟩ | ⟨_,rfl⟩ | ⟨_,rfl⟩ | ⟨_,rfl⟩ | ⟨_,rfl⟩ | ⟨_,rfl⟩ | ⟨_,rfl⟩ | ⟨_,rfl⟩ | ⟨_,rfl⟩ | ⟨_,rfl⟩ | ⟨_,rfl⟩ | ⟨_,rfl⟩<;>simp
def EF(w:Wd)(n:Int):Bool:=decide (n-w.least=0) || (decide (0<n-w.least) && (decide (0<w.step) && decide ((n-w.least).tmod w.step=0)))
def tY(w:Wd)(name:List UInt8)(l:List (List UInt8)):Option (Wd×List UInt8×List Int) :=
 match oz l with
 |some ns=>if EF w ns.length=true then some (w,name,ns)else none
 |none=>none
def parse(s:List UInt8):Option (Wd×List UInt8×List Int) :=
 match cZ 32 s with
 |[]=>none
 |a::all=>match xo a with
  |none=>none
  |some w=>if w.named=true then(match all with
   |[]=>none
   |n::r=>tY w n r)else tY w [] all
theorem uT(b:UInt8)(s:List UInt8):cZ b s≠[]:=by
 cases s with
 |nil=>simp[cZ]
 |cons c r =>
  simp only[cZ];split
  ·simp
  ·split<;>simp
theorem z8(b:UInt8):∀s:List UInt8,(cZ b s).length≤s.length+1
 |[]=>by simp[cZ]
 |c::r=>by
  have:=z8 b r;simp only[cZ];split
  ·simp;omega
  ·split
   ·rename_i h;rw[h]at this;simp at this ⊢;omega
   ·simp
end Go.Book
namespace Go.Proofs.YtfgljaglidhjiaaGreatDoor
open List(length_flatMap map_take)
open Go Go.Abs Go.Rock Go.Book
variable {σ:SK}
theorem Ha{T:yo}{kp:Bool}{f k:Nat}{args:List D}{σ:SK}{r:R}(hT:T f=none)(hN:T (1000000+f)=some ⟨k,[],.exit 0⟩)(h:EP k args σ=some r):lim T (.call kp f args σ)=some r :=
 gW (by simp[dp,hT,hN,h])
def rf(e:Int):D:=.tW 311 (.agg [.int .i64 e])
theorem cA{e:Int}:lim T (.call false bd [.bool true,.int .i64 e] σ)=some (.val (.dG []) σ):=by
 refine az Cr rW.eq_1 rfl ?_;simp[-length_flatMap,-map_take]
theorem dC{e:Int}:lim T (.call false bd [.bool false,.int .i64 e] σ)=some (.fQ (rf e) σ):=by
 refine ef Cr rW.eq_1 rfl ?_;simp[-length_flatMap,-map_take,aqO,D.clean,rf]
theorem oB:lim T (.call false bU [.int .i64 0] σ)=some (.val (.dG []) σ):=by
 refine az AL qQ.eq_1 rfl ?_;simp[-length_flatMap,-map_take,cA]
theorem pI{e:Int}(h:e≠0):lim T (.call false bU [.int .i64 e] σ)=some (.fQ (rf e) σ):=by
 refine ef AL qQ.eq_1 rfl ?_;have h':(e == 0)=false:=by simpa using h
 simp[-length_flatMap,-map_take,dC,h',D.clean,rf]
theorem ff{a b c:Int}:lim T (.call false ct [.int .i64 a,.int .i64 b,.int .i64 c] σ)=some (.val (.bool (cG a b c)) σ):=by
 refine az Ek rq.eq_1 rfl ?_;by_cases h:b≤a<;>simp[-length_flatMap,-map_take,h,cG]
theorem L4{n:Int}(h : -9223372036854775808≤n∧n≤9223372036854775807):lim T (.call false eD [.int .i64 n] σ)=some (.val (.str (Bh n)) σ) :=
 Ha Gy Gl (by simp[EP,h])
theorem IY{s:List UInt8}(h:s.length≤1000000):lim T (.call false iB [.str s] σ)=some (.val (.dG [.int .i64 (rU s).2,if(rU s).1=0 then .o6 else .tW 477 .undef]) σ) :=
 Ha Gx Gk (by simp[EP,h])
theorem Bw{s:List UInt8}(h:s.length≤1000000):lim T (.call false gD [.str s,.str [32]] σ)=some (.val (.aH (cZ 32 s).length ((cZ 32 s).map .str)) σ) :=
 Ha FI Fz (by simp[EP,h])
theorem Jf(s:List UInt8) : -9223372036854775808≤(rU s).2∧(rU s).2≤9223372036854775807:=by
 unfold rU;split
 ·rename_i v h;cases s with
  |nil=>cases h
  |cons c r =>
   simp only[Lib.atoiAll]at h;split at h
   ·cases h
   ·cases h
   ·rename_i u hu;split at h
    ·cases h
    ·split at h
     ·cases h
     ·cases h;dsimp only;split<;>omega
 ·simp
 ·simp only[Lib.atoiSat];split<;>simp
theorem Sf{s:List UInt8}(hl:s.length≤1000000){n:Int}(h:Dd s=some n):lim T (.call false lE [.str s] σ)=some (.val (.int .i64 n) σ):=by
 unfold Dd at h;simp only[aB,ae]at h;obtain⟨⟨⟨h1,h2⟩,h3⟩,rfl⟩:=h;refine az yK nY.eq_1 rfl ?_;simp[-length_flatMap,-map_take,IY hl,h1,L4 (Jf s),h2,sF,ff,h3,cA]
theorem Mc{s:List UInt8}(hl:s.length≤1000000)(h:Dd s=none):lim T (.call false lE [.str s] σ)=some (.fQ (rf 4) σ):=by
 refine ef yK nY.eq_1 rfl ?_;unfold Dd at h;simp only[ite_eq_right_iff,reduceCtorEq,imp_false,not_and]at h;by_cases h1:(rU s).1=0
 ·by_cases h2:Bh (rU s).2=s
  ·have h3:cG (rU s).2 (-999999999) 999999999=false:=by simpa using h ⟨h1,h2⟩
   simp[-length_flatMap,-map_take,IY hl,h1,L4 (Jf s),h2,sF,ff,h3,dC,D.clean,rf]
  ·simp[-length_flatMap,-map_take,IY hl,h1,L4 (Jf s),h2,sF,ff,dC,D.clean,rf]
 ·simp[-length_flatMap,-map_take,IY hl,h1,dC,D.clean,rf]
def IF:List Nat:=[fp,fw,gK,gb,ft,gL,fX,fU,fu,fZ,fW,ga,fY]
def LZ(w:Wd):List D:=[.bool w.named,.int .i64 w.least,.int .i64 w.step,.fn ((IF[w.k]?).getD 0) [] []]
def jA(l:List (List UInt8×Wd)):List D:=l.map fun p => .dG [.str p.1,.agg (LZ p.2)]
theorem G1{s:List UInt8}:∀{l:List (List UInt8×Wd)},Cz s l=none→qT none (.str s) (jA l)=some none
 |[],_=>rfl
 |(k,w)::l,h=>by
  simp only[Cz]at h;split at h
  ·cases h
  ·rename_i hk;have hb:(s == k)=false:=by simpa using hk
   have:=G1 h;simp only[jA,aP,qT,sS,hb]at this ⊢;rw[this];rfl
theorem Ir{s:List UInt8}{w:Wd}:∀{l:List (List UInt8×Wd)},Cz s l=some w→∃j,qT none (.str s) (jA l)=some (some (j,.agg (LZ w)))
 |[],h=>by cases h
 |(k,v)::l,h=>by
  simp only[Cz]at h;split at h
  ·rename_i hk;cases h;subst hk;exact⟨0,by simp[jA,qT,sS]⟩
  ·rename_i hk;have hb:(s == k)=false:=by simpa using hk
   obtain⟨j,hj⟩:=Ir h;exact⟨j+1,by
    simp only[jA,aP,qT,sS,hb]at hj ⊢;rw[hj];rfl⟩
theorem ax5{S:SK}{l i:Nat}{pre:List (List UInt8×Wd)}{k:List UInt8}{w:Wd}(h:cells? S l i 0=some (jA pre))(hn:Cz k pre=none)(hl:l+1=S.length):
  AE S (.put none) [.mq l i,.str k,.agg (LZ w)]=some (.undef,aV S l i (.cells 0 (jA (pre++[(k,w)])))):=by
 have h1:=G1 hn;simp only[AE,AD,h,aS,h1];simp[sS,hl,jA]
theorem Q1{S:SK}{l i:Nat}{s:List UInt8}(h:cells? S l i 0=some (jA ot)):
  AE S (.get none (.agg [.bool false,.int .i64 0,.int .i64 0,.iP]) true) [.mq l i,.str s] =
   some (match xo s with | some w => .dG [.agg (LZ w),.bool true] | none => .dG [.agg [.bool false,.int .i64 0,.int .i64 0,.iP],.bool false],S):=by
 simp only[AE,AD,h,aS];cases hw:xo s with
 |none=>rw[G1 hw];simp[sS]
 |some w=>obtain⟨j,hj⟩:=Ir hw;rw[hj];simp[sS]
theorem Bz{bs:List Abs.aE}:lim T (.call true pk [] (bs::σ))=some (.val (.mq σ.length bs.length) ((bs++[.cells 0 (jA ot)])::σ)):=by
 refine we FC sr.eq_1 rfl ?_;have hm:AE (bs::σ) .make []=some (.mq σ.length bs.length,(bs++[.cells 0 []])::σ):=by simp[AE]
 have hp:∀(pre:List (List UInt8×Wd)) (k:List UInt8) (w:Wd),Cz k pre=none→AE ((bs++[.cells 0 (jA pre)])::σ) (.put none) [.mq σ.length bs.length,.str k,.agg (LZ w)]=some (.undef,(bs++[.cells 0 (jA (pre++[(k,w)]))])::σ):=by
  intro pre k w hn;have h1:cells? ((bs++[.cells 0 (jA pre)])::σ) σ.length bs.length 0=some (jA pre):=by simp
  have h2:σ.length+1=((bs++[Abs.aE.cells 0 (jA pre)])::σ).length:=by simp
  have h3:=ax5 (w:=w) h1 hn h2;refine h3.trans ?_;simp
 have p:=fun(j:Nat) (hj:j<13)=>hp (ot.take j) ((ot[j]?).getD ([],⟨false,0,0,0⟩)).1 ((ot[j]?).getD ([],⟨false,0,0,0⟩)).2
 have p0:=p 0 (by omega) (by decide);have p1:=p 1 (by omega) (by decide);have p2:=p 2 (by omega) (by decide);have p3:=p 3 (by omega) (by decide);have p4:=p 4 (by omega) (by decide);have p5:=p 5 (by omega) (by decide);have p6:=p 6 (by omega) (by decide);have p7:=p 7 (by omega) (by decide);have p8:=p 8 (by omega) (by decide);have p9:=p 9 (by omega) (by decide);have p10:=p 10 (by omega) (by decide);have p11:=p 11 (by omega) (by decide);have p12:=p 12 (by omega) (by decide);simp[ot,jA,LZ,IF]at p0 p1 p2 p3 p4 p5 p6 p7 p8 p9 p10 p11 p12;simp[-length_flatMap,-map_take,hm,p0,p1,p2,p3,p4,p5,p6,p7,p8,p9,p10,p11,p12,ot,jA,LZ,IF]
@[simp] def ez(s:List UInt8):List D:=[.str s]
def PS(cs:List D)(name:List UInt8)(M:Abs.aE)(σ:SK)(acc:List Int)(r:Option (List Int))(x:Abs.Exit)(e:Env)(σ':SK):Prop:=match r with
 |some ns=>x=.exit 0∧get e 2=.own 0 cs∧get e 3=.str name∧get e 4=.sl σ.length 0 (acc++ns).length 0 (acc++ns).length 1∧σ'=[.cells (acc++ns).length ((acc++ns).flatMap aT),M]::σ
 |none=>x=.fQ (rf 4)∧∃bw,σ'=bw::σ
theorem Gj{all:List (List UInt8)}(hs:∀s∈all,s.length≤1000000)(hl:all.length≤1000001){cs:List D}{name:List UInt8}{M:Abs.aE}:∀(k i:Nat) (acc:List Int),i+k=all.length→acc.length=i →
  WL T [2,3,4,35,36,37] false mO [(2,.own 0 cs),(3,.str name),(4,.sl σ.length 0 i 0 i 1),(35,.aH all.length (all.flatMap ez)),(36,.int .i64 all.length),(37,.int .i64 i)]
   ([.cells i (acc.flatMap aT),M]::σ) (PS cs name M σ acc (oz (all.drop i)))
 |0,i,acc,hi,ha=>by
  refine aN mO.eq_1 ?_;obtain rfl:i=all.length:=by omega
  have h5:all.drop all.length=[]:=aA (by omega);simp[-length_flatMap,-map_take,h5,oz,PS,ha]
 |k+1,i,acc,hi,ha=>by
  refine aN mO.eq_1 ?_;have hlt:i<all.length:=by omega
  have hii:(i:Int)<i+1:=by omega
  obtain⟨s,hx⟩:=gE hlt;have h4:=gG hlt (by omega);have h5:=cS hx;have a1:=bR (f:=ez) (w:=1) (fun _=>rfl) hx;simp only[ez,dX]at a1;have hsl:=hs s (ai hx);rw[h5];simp only[oz];have hr:(i+1)*8≤room:=by unfold room;omega
  cases hn:Dd s with
  |none =>
   simp[-length_flatMap,-map_take,hlt,a1,Mc hsl hn,PS]
  |some n =>
   have hc:(acc.flatMap aT).length=i:=by simp[bZ (f:=aT) (w:=1) (fun _=>rfl),ha]
   have ht:(acc.flatMap aT).take i=acc.flatMap aT:=aj (by omega);simp[-length_flatMap,-map_take,hlt,a1,Sf hsl hn,hr,h4,hc,ht];refine WL.to (Gj (cs:=cs) (name:=name) (M:=M) hs hl k (i+1) (acc++[n]) (by omega) (by simp[ha])) (by simp) (by simp) fun x e σ' hh=>?_
   cases hm:oz (all.drop (i+1))with
   |none=>rw[hm]at hh;exact hh
   |some ns=>rw[hm]at hh;simpa[PS]using hh
theorem y7:∀{l:List (List UInt8)} {ns:List Int},oz l=some ns→ns.length=l.length
 |[],ns,h=>by simp only[oz,ae]at h;subst h;rfl
 |s::l,ns,h=>by
  simp only[oz]at h;split at h
  ·rename_i n hn;simp only[ad]at h;obtain⟨m,h1,rfl⟩:=h;simp[y7 h1]
  ·cases h
theorem iH(w:Wd):LZ w=[.bool w.named,.int .i64 w.least,.int .i64 w.step,.fn ((IF[w.k]?).getD 0) [] []]:=rfl
theorem BX(l:List (List UInt8)):l.map D.str=l.flatMap ez:=by induction l with | nil=>rfl | cons s l ih=>simp[ih]
theorem Kh{s:List UInt8}(hl:s.length≤1000000){a:List UInt8}{all:List (List UInt8)}(h:cZ 32 s=a::all)(hw:xo a=none):lim T (.call false dc [.str s] σ)=some (.fQ (rf 4) σ):=by
 refine ef lB fI.eq_1 rfl ?_;have hW:=Bz (bs:=[.cells 0 []]) (σ:=σ);have hG:=Q1 (S:=[Abs.aE.cells 0 [],.cells 0 (jA ot)]::σ) (l:=σ.length) (i:=1) (s:=a) (by simp);rw[hw]at hG;simp[-length_flatMap,-map_take,Bw hl,h,hW,hG,dC,D.clean,rf]
def xU(p:Wd×List UInt8×List Int):D:=.dG [.agg (LZ p.1),.str p.2.1,.aH p.2.2.length (p.2.2.flatMap aT)]
theorem F6{a:List D}(ha:D.bz a=true){name:List UInt8}{v:Nat}{ns:List Int}{M:Abs.aE}(hσ:σ≠[]):
  cz (σ.length-1) 16 (.dG [.agg a,.str name,.sl σ.length 0 v 0 ns.length 1]) ([.cells v (ns.flatMap aT),M]::σ)=(.dG [.agg a,.str name,.aH ns.length (ns.flatMap aT)],[.dead,M]::σ):=by
 have h3:¬σ.length≤σ.length-1:=by have:=aK.2 hσ;omega
 rw[BI (by simp[D.bz,D.clean]) (by omega)];have h4:=jj (l:=σ.length-1) (n:=15) (d:=.agg a) (σ:=[Abs.aE.cells v (ns.flatMap aT),M]::σ) (by simp[D.clean,ha]) (by omega);have h5:=jj (l:=σ.length-1) (n:=15) (d:=.str name) (σ:=[Abs.aE.cells v (ns.flatMap aT),M]::σ) (by simp[D.clean]) (by omega);have h6:=C7 (l:=σ.length-1) (n:=15) (l':=σ.length) (i:=0) (v:=v) (off:=0) (m:=ns.length) (w:=1) (σ:=[Abs.aE.cells v (ns.flatMap aT),M]::σ) (cs:=ns.flatMap aT) h3 (by simp) (by omega);have ht:(ns.flatMap aT).take ns.length=ns.flatMap aT:=by have:=Jw (f:=aT) (w:=1) (fun _=>rfl) ns;rwa[dX]at this
 simp only[Nat.reduceSub,cz.frzL,h4,h5,h6];simp[ht,gX (f:=aT) (fun _=>by simp[D.clean]) ns]
theorem Qr{s:List UInt8}(hl:s.length≤1000000){a:List UInt8}{all:List (List UInt8)}(h:cZ 32 s=a::all)(hs:∀x∈all,x.length≤1000000)(hl2:all.length≤1000001){w:Wd}(hw:xo a=some w)(hn:w.named=false)(hσ:σ≠[]){p:Wd×List UInt8×List Int}(hp:tY w [] all=some p):
  lim T (.call false dc [.str s] σ)=some (.val (xU p) σ):=by
 refine az lB fI.eq_1 rfl ?_;have hW:=Bz (bs:=[.cells 0 []]) (σ:=σ);have hG:=Q1 (S:=[Abs.aE.cells 0 [],.cells 0 (jA ot)]::σ) (l:=σ.length) (i:=1) (s:=a) (by simp);rw[hw]at hG;obtain⟨w1,w2,w3,w4,w5⟩:=Ef hw;have hL:=Gj (σ:=σ) (cs:=LZ w) (name:=[]) (M:=.cells 0 (jA ot)) hs hl2 all.length 0 [] (by omega) rfl;unfold tY at hp;cases hm:oz all with
 |none=>rw[hm]at hp;cases hp
 |some ns =>
 rw[hm]at hp;simp only[aB,ae]at hp;obtain⟨hf,rfl⟩:=hp;have hlen:=y7 hm;simp only[EF,bX,af,au]at hf;have e1:IntKind.i64.wrap ((ns.length:Int)-w.least)=ns.length-w.least:=fR (by omega);rw[aO,hm]at hL;have q1:(1:Int)≤(all.length:Int)+1:=by omega
 have q2:(all.flatMap ez).take all.length=all.flatMap ez:=aj (by rw[bZ (f:=ez) (w:=1) (fun _=>rfl)];omega);simp[-length_flatMap,-map_take,Bw hl,h,hW,hG,cA,iH,hn,BX,q1,q2];refine WL.to hL (by simp[iH,hn]) (by simp) ?_;rintro x e σ' ⟨rfl,g2,g3,g4,rfl⟩;have hz:D.bz (LZ w)=true:=by simp[LZ,D.clean]
 rcases hf with c1 | ⟨c1,c2,c3⟩
 ·simp[-length_flatMap,-map_take,g2,g3,g4,iH,e1,c1,cA,xU];exact⟨_,F6 (by simp[D.clean]) hσ⟩
 ·have c0:¬(ns.length:Int)-w.least=0:=by omega
  have c4:¬w.step=0:=by omega
  have c5:w.least<(ns.length:Int):=by omega
  simp[-length_flatMap,-map_take,g2,g3,g4,iH,e1,c0,c5,c2,c3,c4,cA,xU];exact⟨_,F6 (by simp[D.clean]) hσ⟩
theorem Kf{s:List UInt8}(hl:s.length≤1000000){a:List UInt8}{all:List (List UInt8)}(h:cZ 32 s=a::all)(hs:∀x∈all,x.length≤1000000)(hl2:all.length≤1000001){w:Wd}(hw:xo a=some w)(hn:w.named=false)(hp:tY w [] all=none):
  lim T (.call false dc [.str s] σ)=some (.fQ (rf 4) σ):=by
 refine ef lB fI.eq_1 rfl ?_;have hW:=Bz (bs:=[.cells 0 []]) (σ:=σ);have hG:=Q1 (S:=[Abs.aE.cells 0 [],.cells 0 (jA ot)]::σ) (l:=σ.length) (i:=1) (s:=a) (by simp);rw[hw]at hG;obtain⟨w1,w2,w3,w4,w5⟩:=Ef hw;have hL:=Gj (σ:=σ) (cs:=LZ w) (name:=[]) (M:=.cells 0 (jA ot)) hs hl2 all.length 0 [] (by omega) rfl;have q1:(1:Int)≤(all.length:Int)+1:=by omega
 have q2:(all.flatMap ez).take all.length=all.flatMap ez:=aj (by rw[bZ (f:=ez) (w:=1) (fun _=>rfl)];omega);rw[aO]at hL;simp[-length_flatMap,-map_take,Bw hl,h,hW,hG,cA,iH,hn,BX,q1,q2];refine WL.to hL (by simp[iH,hn]) (by simp) ?_;unfold tY at hp;cases hm:oz all with
 |none =>
  rintro x e σ' ⟨rfl,bw,rfl⟩;simp[D.clean,rf]
 |some ns =>
 rw[hm]at hp;simp only[ite_eq_right_iff,reduceCtorEq,imp_false]at hp;rintro x e σ' ⟨rfl,g2,g3,g4,rfl⟩;have hlen:=y7 hm;have e1:IntKind.i64.wrap ((ns.length:Int)-w.least)=ns.length-w.least:=fR (by omega);simp only[EF,bX,af,au]at hp;have c0:¬(ns.length:Int)-w.least=0:=fun hh=>hp (.inl hh)
 by_cases c1:w.least<(ns.length:Int)
 ·by_cases c2:0<w.step
  ·have c3:¬((ns.length:Int)-w.least).tmod w.step=0:=fun hh=>hp (.inr ⟨by omega,c2,hh⟩)
   have c4:¬w.step=0:=by omega
   have c3':(((ns.length:Int)-w.least).tmod w.step == 0)=false:=by simpa using c3
   have c0':((ns.length:Int)-w.least == 0)=false:=by simpa using c0
   simp[-length_flatMap,-map_take,g2,g3,g4,iH,e1,c0',c1,c2,c3',c4,dC,D.clean,rf]
  ·simp[-length_flatMap,-map_take,g2,g3,g4,iH,e1,c0,c1,c2,dC,D.clean,rf]
 ·simp[-length_flatMap,-map_take,g2,g3,g4,iH,e1,c0,c1,dC,D.clean,rf]
theorem Md{s:List UInt8}(hl:s.length≤1000000){a:List UInt8}(h:cZ 32 s=[a]){w:Wd}(hw:xo a=some w)(hn:w.named=true):
  lim T (.call false dc [.str s] σ)=some (.fQ (rf 4) σ):=by
 refine ef lB fI.eq_1 rfl ?_;have hW:=Bz (bs:=[.cells 0 []]) (σ:=σ);have hG:=Q1 (S:=[Abs.aE.cells 0 [],.cells 0 (jA ot)]::σ) (l:=σ.length) (i:=1) (s:=a) (by simp);rw[hw]at hG;obtain⟨w1,w2,w3,w4,w5⟩:=Ef hw;simp[-length_flatMap,-map_take,Bw hl,h,hW,hG,cA,dC,iH,hn,D.clean,rf]
theorem Qs{s:List UInt8}(hl:s.length≤1000000){a n:List UInt8}{r:List (List UInt8)}(h:cZ 32 s=a::n::r)(hs:∀x∈r,x.length≤1000000)(hl2:r.length≤1000001){w:Wd}(hw:xo a=some w)(hn:w.named=true)(hσ:σ≠[]){p:Wd×List UInt8×List Int}(hp:tY w n r=some p):
  lim T (.call false dc [.str s] σ)=some (.val (xU p) σ):=by
 refine az lB fI.eq_1 rfl ?_;have hW:=Bz (bs:=[.cells 0 []]) (σ:=σ);have hG:=Q1 (S:=[Abs.aE.cells 0 [],.cells 0 (jA ot)]::σ) (l:=σ.length) (i:=1) (s:=a) (by simp);rw[hw]at hG;obtain⟨w1,w2,w3,w4,w5⟩:=Ef hw;have hL:=Gj (σ:=σ) (cs:=LZ w) (name:=n) (M:=.cells 0 (jA ot)) hs hl2 r.length 0 [] (by omega) rfl;have q1:(1:Int)≤(r.length:Int)+1:=by omega
 have q2:(r.flatMap ez).take r.length=r.flatMap ez:=aj (by rw[bZ (f:=ez) (w:=1) (fun _=>rfl)];omega);have q3:(1:Int)≤(r.length:Int)+1+1:=by omega
 have q4:(0:Int)<(r.length:Int)+1:=by omega
 have q6:(0:Int)<(r.length:Int)+1+1:=by omega
 have q5:(r.flatMap ez).take (r.length+1)=r.flatMap ez:=aj (by rw[bZ (f:=ez) (w:=1) (fun _=>rfl)];omega);unfold tY at hp;cases hm:oz r with
 |none=>rw[hm]at hp;cases hp
 |some ns =>
 rw[hm]at hp;simp only[aB,ae]at hp;obtain⟨hf,rfl⟩:=hp;have hlen:=y7 hm;simp only[EF,bX,af,au]at hf;have e1:IntKind.i64.wrap ((ns.length:Int)-w.least)=ns.length-w.least:=fR (by omega);rw[aO,hm]at hL;simp[-length_flatMap,-map_take,Bw hl,h,hW,hG,cA,iH,hn,BX,q1,q2,q3,q4,q5,q6];refine WL.to hL (by simp[iH,hn]) (by simp) ?_;rintro x e σ' ⟨rfl,g2,g3,g4,rfl⟩;rcases hf with c1 | ⟨c1,c2,c3⟩
 ·simp[-length_flatMap,-map_take,g2,g3,g4,iH,e1,c1,cA,xU];exact⟨_,F6 (by simp[D.clean]) hσ⟩
 ·have c0:¬(ns.length:Int)-w.least=0:=by omega
  have c4:¬w.step=0:=by omega
  have c5:w.least<(ns.length:Int):=by omega
  simp[-length_flatMap,-map_take,g2,g3,g4,iH,e1,c0,c5,c2,c3,c4,cA,xU];exact⟨_,F6 (by simp[D.clean]) hσ⟩
theorem Kg{s:List UInt8}(hl:s.length≤1000000){a n:List UInt8}{r:List (List UInt8)}(h:cZ 32 s=a::n::r)(hs:∀x∈r,x.length≤1000000)(hl2:r.length≤1000001){w:Wd}(hw:xo a=some w)(hn:w.named=true)(hp:tY w n r=none):
  lim T (.call false dc [.str s] σ)=some (.fQ (rf 4) σ):=by
 refine ef lB fI.eq_1 rfl ?_;have hW:=Bz (bs:=[.cells 0 []]) (σ:=σ);have hG:=Q1 (S:=[Abs.aE.cells 0 [],.cells 0 (jA ot)]::σ) (l:=σ.length) (i:=1) (s:=a) (by simp);rw[hw]at hG;obtain⟨w1,w2,w3,w4,w5⟩:=Ef hw;have hL:=Gj (σ:=σ) (cs:=LZ w) (name:=n) (M:=.cells 0 (jA ot)) hs hl2 r.length 0 [] (by omega) rfl;have q1:(1:Int)≤(r.length:Int)+1:=by omega
 have q2:(r.flatMap ez).take r.length=r.flatMap ez:=aj (by rw[bZ (f:=ez) (w:=1) (fun _=>rfl)];omega);have q3:(1:Int)≤(r.length:Int)+1+1:=by omega
 have q4:(0:Int)<(r.length:Int)+1:=by omega
 have q6:(0:Int)<(r.length:Int)+1+1:=by omega
 have q5:(r.flatMap ez).take (r.length+1)=r.flatMap ez:=aj (by rw[bZ (f:=ez) (w:=1) (fun _=>rfl)];omega);rw[aO]at hL;simp[-length_flatMap,-map_take,Bw hl,h,hW,hG,cA,iH,hn,BX,q1,q2,q3,q4,q5,q6];refine WL.to hL (by simp[iH,hn]) (by simp) ?_;unfold tY at hp;cases hm:oz r with
 |none =>
  rintro x e σ' ⟨rfl,bw,rfl⟩;simp[D.clean,rf]
 |some ns =>
 rw[hm]at hp;simp only[ite_eq_right_iff,reduceCtorEq,imp_false]at hp;rintro x e σ' ⟨rfl,g2,g3,g4,rfl⟩;have hlen:=y7 hm;have e1:IntKind.i64.wrap ((ns.length:Int)-w.least)=ns.length-w.least:=fR (by omega);simp only[EF,bX,af,au]at hp;have c0:¬(ns.length:Int)-w.least=0:=fun hh=>hp (.inl hh)
 by_cases c1:w.least<(ns.length:Int)
 ·by_cases c2:0<w.step
  ·have c3:¬((ns.length:Int)-w.least).tmod w.step=0:=fun hh=>hp (.inr ⟨by omega,c2,hh⟩)
   have c4:¬w.step=0:=by omega
   have c3':(((ns.length:Int)-w.least).tmod w.step == 0)=false:=by simpa using c3
   have c0':((ns.length:Int)-w.least == 0)=false:=by simpa using c0
   simp[-length_flatMap,-map_take,g2,g3,g4,iH,e1,c0',c1,c2,c3',c4,dC,D.clean,rf]
  ·simp[-length_flatMap,-map_take,g2,g3,g4,iH,e1,c0,c1,c2,dC,D.clean,rf]
 ·simp[-length_flatMap,-map_take,g2,g3,g4,iH,e1,c0,c1,dC,D.clean,rf]
theorem D9(b:UInt8):∀(s:List UInt8),∀x∈cZ b s,x.length≤s.length
 |[],x,hx=>by simp[cZ]at hx;simp[hx]
 |c::r,x,hx=>by
  have ih:=D9 b r;simp only[cZ]at hx;split at hx
  ·rcases aW.1 hx with rfl | hx
   ·simp
   ·have:=ih x hx;simp;omega
  ·split at hx
   ·rename_i y l hyl;rcases aW.1 hx with rfl | hx
    ·have:=ih y (by rw[hyl];simp);simp;omega
    ·have:=ih x (by rw[hyl];simp[hx]);simp;omega
   ·rename_i hyl;exact absurd hyl (uT b r)
theorem Si{s:List UInt8}(hl:s.length≤1000000)(hσ:σ≠[]){p:Wd×List UInt8×List Int}(hp:parse s=some p):lim T (.call false dc [.str s] σ)=some (.val (xU p) σ):=by
 unfold parse at hp;have hlen:=z8 32 s;have hle:=D9 32 s;cases h:cZ 32 s with
 |nil=>exact absurd h (uT 32 s)
 |cons a all =>
 rw[h]at hp hlen hle;simp only[aL]at hlen;dsimp only at hp;cases hw:xo a with
 |none=>rw[hw]at hp;cases hp
 |some w =>
 rw[hw]at hp;dsimp only at hp;cases hn:w.named with
 |false =>
  rw[hn]at hp;exact Qr hl h (fun x hx=>by have:=hle x (by simp[hx]);omega) (by omega) hw hn hσ (by simpa using hp)
 |true =>
  rw[hn]at hp;simp only[if_true]at hp;cases all with
  |nil=>cases hp
  |cons n r=>exact Qs hl h (fun x hx=>by have:=hle x (by simp[hx]);omega) (by simp at hlen;omega) hw hn hσ hp
theorem Mf{s:List UInt8}(hl:s.length≤1000000)(hp:parse s=none):lim T (.call false dc [.str s] σ)=some (.fQ (rf 4) σ):=by
 unfold parse at hp;have hlen:=z8 32 s;have hle:=D9 32 s;cases h:cZ 32 s with
 |nil=>exact absurd h (uT 32 s)
 |cons a all =>
 rw[h]at hp hlen hle;simp only[aL]at hlen;dsimp only at hp;cases hw:xo a with
 |none=>exact Kh hl h hw
 |some w =>
 rw[hw]at hp;dsimp only at hp;cases hn:w.named with
 |false =>
  rw[hn]at hp;exact Kf hl h (fun x hx=>by have:=hle x (by simp[hx]);omega) (by omega) hw hn (by simpa using hp)
 |true =>
  rw[hn]at hp;simp only[if_true]at hp;cases all with
  |nil=>exact Md hl h hw hn
  |cons n r=>exact Kg hl h (fun x hx=>by have:=hle x (by simp[hx]);omega) (by simp at hlen;omega) hw hn hp
end Go.Proofs.YtfgljaglidhjiaaGreatDoor
namespace Go.Trem
open List(length_flatMap map_take)
open Go Go.Abs
structure Pt where
 x:Int
 y:Int
 z:Int
 deriving DecidableEq
structure Rg where
 lo:Int
 hi:Int
 deriving DecidableEq
structure Mp where
 p:Pt
 err:Int
structure Net where
 st:List Mp
 s0:Rg
 s1:Rg
 low:Pt
 high:Pt
 step:Int
structure Ei where
 st:Int
 ph:Int
 t:Rg
structure Plc where
 p:Pt
 o:Rg
 deriving DecidableEq
structure yd where
 far:Int
 add:Int
structure Gn where
 levels:List Int
 rows:List yd
structure zj where
 st:Int
 amt:Int
structure asO where
 fst:Int
 thn:Int
structure Bet where
 num:Int
 den:Int
 a:Int
 b:Int
 aqK:Int
@[simp] theorem Pt.eta(p:Pt):Pt.mk p.x p.y p.z=p:=rfl
@[simp] theorem Rg.eta(p:Rg):Rg.mk p.lo p.hi=p:=rfl
@[simp] theorem Mp.eta(p:Mp):Mp.mk p.p p.err=p:=rfl
@[simp] theorem Net.eta(p:Net):Net.mk p.st p.s0 p.s1 p.low p.high p.step=p:=rfl
@[simp] theorem Ei.eta(p:Ei):Ei.mk p.st p.ph p.t=p:=rfl
@[simp] theorem Gn.eta(p:Gn):Gn.mk p.levels p.rows=p:=rfl
@[simp] theorem zj.eta(p:zj):zj.mk p.st p.amt=p:=rfl
@[simp] theorem yd.eta(p:yd):yd.mk p.far p.add=p:=rfl
@[simp] theorem Bet.eta(p:Bet):Bet.mk p.num p.den p.a p.b p.aqK=p:=rfl
@[simp] def Pt.enc(p:Pt):List D:=[.int .i64 p.x,.int .i64 p.y,.int .i64 p.z]
@[simp] def Rg.enc(r:Rg):List D:=[.int .i64 r.lo,.int .i64 r.hi]
@[simp] def Mp.enc(s:Mp):List D:=[.int .i64 s.p.x,.int .i64 s.p.y,.int .i64 s.p.z,.int .i64 s.err]
@[simp] def Ei.enc(p:Ei):List D:=[.int .i64 p.st,.int .u8 p.ph,.int .i64 p.t.lo,.int .i64 p.t.hi]
@[simp] def Plc.enc(p:Plc):List D:=[.int .i64 p.p.x,.int .i64 p.p.y,.int .i64 p.p.z,.int .i64 p.o.lo,.int .i64 p.o.hi]
@[simp] def yd.enc(p:yd):List D:=[.int .i64 p.far,.int .i64 p.add]
@[simp] def zj.enc(p:zj):List D:=[.int .i64 p.st,.int .i64 p.amt]
@[simp] def asO.enc(p:asO):List D:=[.int .i64 p.fst,.int .i64 p.thn]
@[simp] def Bet.enc(b:Bet):List D:=[.int .i64 b.num,.int .i64 b.den,.int .i64 b.a,.int .i64 b.b,.int .i64 b.aqK]
@[simp] def aT(n:Int):List D:=[.int .i64 n]
@[simp] def tw(n:Bool):List D:=[.bool n]
@[simp] def Net.enc(n:Net):List D:=[.aH n.st.length (n.st.flatMap Mp.enc),.int .i64 n.s0.lo,.int .i64 n.s0.hi,.int .i64 n.s1.lo,.int .i64 n.s1.hi,
 .int .i64 n.low.x,.int .i64 n.low.y,.int .i64 n.low.z,.int .i64 n.high.x,.int .i64 n.high.y,.int .i64 n.high.z,.int .i64 n.step]
@[simp] def Gn.enc(s:Gn):List D:=[.aH s.levels.length (s.levels.flatMap aT),.aH s.rows.length (s.rows.flatMap yd.enc)]
def cG(n lo hi:Int):Bool:=decide (lo≤n) && decide (n≤hi)
theorem ba{n lo hi:Int}:cG n lo hi=true↔lo≤n∧n≤hi:=by simp[cG]
def Pt.ok(p:Pt):Bool:=cG p.x (-20000) 20000 && (cG p.y (-20000) 20000 && cG p.z (-20000) 20000)
def AU(a b:Pt):Bool:=a.ok && (b.ok && (decide (a.x≤b.x) && (decide (a.y≤b.y) && decide (a.z≤b.z))))
def Mp.ok(s:Mp):Bool:=s.p.ok && cG s.err 0 1000
def Rg.cG(r:Rg)(lo hi:Int):Bool:=decide (lo≤r.lo) && (decide (r.lo≤r.hi) && decide (r.hi≤hi))
def steps(n:Net)(lo hi:Int):Int:=(hi-lo).tdiv n.step+1
def Net.pre(n:Net):Bool:=Trem.cG n.st.length 1 12 && (gQ n.st Mp.ok && (AU n.low n.high && (Trem.cG n.step 1 20000 && (n.s0.cG 1 2000 && n.s1.cG 1 2000))))
def Net.count(n:Net):Int:=steps n n.low.x n.high.x*steps n n.low.y n.high.y*steps n n.low.z n.high.z
def Net.ok(n:Net):Bool:=n.pre && decide (n.count≤2000)
theorem Pt.JA{p:Pt}:p.ok=true↔(-20000≤p.x∧p.x≤20000)∧(-20000≤p.y∧p.y≤20000)∧(-20000≤p.z∧p.z≤20000):=by
 simp only[Pt.ok,af,ba]
def bsr:Nat→Int→Int→Int→Int
 |0,_,lo,_=>lo
 |f+1,n,lo,hi=>if lo<hi then(if((lo+hi+1) / 2)*((lo+hi+1) / 2)≤n then bsr f n ((lo+hi+1) / 2) hi else bsr f n lo ((lo+hi+1) / 2-1))else lo
def sq(p q:Pt):Int:=(p.x-q.x)*(p.x-q.x)+(p.y-q.y)*(p.y-q.y)+(p.z-q.z)*(p.z-q.z)
def atb(p q:Pt):Int:=bsr 17 (sq p q) 0 70000
def prog(lo hi st:Int):List Int:=(List.range ((hi-lo) / st+1).toNat).map fun(i:Nat)=>lo+i*st
def zs(n:Net)(x y:Int)(z:Int):List Pt:=(prog z n.high.z n.step).map fun z=>⟨x,y,z⟩
def ys(n:Net)(x:Int)(y:Int):List Pt:=(prog y n.high.y n.step).flatMap fun y=>zs n x y n.low.z
def xs(n:Net)(x:Int):List Pt:=(prog x n.high.x n.step).flatMap fun x=>ys n x n.low.y
def afQ(n:Net):List Pt:=xs n n.low.x
def Net.stn(n:Net)(i:Int):Mp:=n.st.getD i.toNat ⟨⟨0,0,0⟩,0⟩
def Net.M6(n:Net)(ph:Int):Rg:=if ph=0 then n.s0 else n.s1
def aeH(n:Net)(i ph:Int)(p:Pt):Rg:=⟨(n.M6 ph).lo*atb (n.stn i).p p / 1000,((n.M6 ph).hi*(atb (n.stn i).p p+1)+999) / 1000⟩
def Ei.ok(n:Net)(p:Ei):Bool:=Trem.cG p.st 0 (n.st.length-1) && (decide (p.ph<2) && p.t.cG (-100000000) 100000000)
def span(n:Net)(p:Ei)(q:Pt):Rg:=⟨p.t.lo-(n.stn p.st).err-(aeH n p.st p.ph q).hi,p.t.hi+(n.stn p.st).err-(aeH n p.st p.ph q).lo⟩
def meet(a b:Rg):Rg:=⟨max a.lo b.lo,min a.hi b.hi⟩
def common:List Rg→Rg
 |[]=>⟨0,0⟩
 |r::l=>l.foldl meet r
def Rg.ne(r:Rg):Bool:=decide (r.lo≤r.hi)
end Go.Trem
namespace Go.Proofs.YtfgljaglidhjiaaGreatDoor
open List(length_flatMap map_take)
open Go Go.Abs Go.Trem
variable {σ:SK}
theorem gp{a b c:Int}:lim T (.call false cm [.int .i64 a,.int .i64 b,.int .i64 c] σ)=some (.val (.bool (cG a b c)) σ):=by
 refine az FK sC.eq_1 rfl ?_;by_cases h:b≤a<;>simp[-length_flatMap,-map_take,h,cG]
theorem asJ{a:Int}:lim T (.call false ew [.int .i64 a] σ)=some (.val (.bool (cG a (-20000) 20000)) σ):=by
 refine az zr lh.eq_1 rfl ?_;simp[-length_flatMap,-map_take,gp]
theorem Ql{l:List Int}(hl:l.length≤9223372036854775807){fv:D}{p:Int→Bool}(ht:pK T fv (.int .i64) p l)(hc:fv.cells=some [fv]):
  lim T (.call false gV [.aH l.length (l.flatMap aT),fv] σ)=some (.val (.bool (gQ l p)) σ) :=
 zt (Jo .i64) Eu CY xu zp hl ht hc
theorem wD{x y z:Int}:lim T (.call false fB [.agg [.int .i64 x,.int .i64 y,.int .i64 z]] σ)=some (.val (.bool (Pt.ok ⟨x,y,z⟩)) σ):=by
 refine az AS mY.eq_1 rfl ?_;have h:∀σ,lim T (.call false gV [.aH 3 [.int .i64 x,.int .i64 y,.int .i64 z],.fn ew [] []] σ)=some (.val (.bool (Pt.ok ⟨x,y,z⟩)) σ):=fun σ=>by
  have:=Ql (σ:=σ) (l:=[x,y,z]) (by simp) (fv:=.fn ew [] []) (p:=fun a=>cG a (-20000) 20000) (.fn fun a _ σ=>asJ) rfl;simpa[Pt.ok,Bool.and_assoc,gQ]using this
 simp[-length_flatMap,-map_take,h]
theorem H7{x y z a b c:Int}:lim T (.call false tV [.agg [.int .i64 x,.int .i64 y,.int .i64 z],.agg [.int .i64 a,.int .i64 b,.int .i64 c]] σ)=some (.val (.bool (AU ⟨x,y,z⟩ ⟨a,b,c⟩)) σ):=by
 refine az Jb wu.eq_1 rfl ?_;cases hc1:Pt.ok ⟨x,y,z⟩
 ·simp[-length_flatMap,-map_take,wD,AU,hc1]
 cases hc2:Pt.ok ⟨a,b,c⟩
 ·simp[-length_flatMap,-map_take,wD,AU,hc1,hc2]
 by_cases hc3:x≤a
 rotate_left
 ·simp[-length_flatMap,-map_take,wD,AU,hc1,hc2,hc3]
 by_cases hc4:y≤b
 rotate_left
 ·simp[-length_flatMap,-map_take,wD,AU,hc1,hc2,hc3,hc4]
 simp[-length_flatMap,-map_take,wD,AU,hc1,hc2,hc3,hc4]
theorem af3{n:Net}:n.pre=true↔(1≤(n.st.length:Int)∧(n.st.length:Int)≤12)∧gQ n.st Mp.ok=true∧(n.low.ok=true∧n.high.ok=true∧n.low.x≤n.high.x∧n.low.y≤n.high.y∧n.low.z≤n.high.z) ∧
  (1≤n.step∧n.step≤20000)∧(1≤n.s0.lo∧n.s0.lo≤n.s0.hi∧n.s0.hi≤2000)∧(1≤n.s1.lo∧n.s1.lo≤n.s1.hi∧n.s1.hi≤2000):=by
 simp only[Net.pre,af,ba,AU,Rg.cG,au]
structure asM(n:Net)(i ph:Int):Prop where
 i0:0≤i
 i1:i<n.st.length
 hph:ph=0∨ph=1
 p:(n.stn i).p.ok=true
 e:0≤(n.stn i).err∧(n.stn i).err≤1000
 s:1≤(n.M6 ph).lo∧(n.M6 ph).lo≤(n.M6 ph).hi∧(n.M6 ph).hi≤2000
 cells:((n.st.flatMap Mp.enc).drop (i.toNat*4)).take 4=(n.stn i).enc
theorem ad5{n:Net}(h:n.ok=true){i ph:Int}(hi:cG i 0 (n.st.length-1)=true)(hp:0≤ph)(hp':ph<2):asM n i ph:=by
 simp only[Net.ok,af]at h;have h0:=af3.1 h.1;rw[ba]at hi;have h1:i.toNat<n.st.length:=by omega
 have h2:n.st[i.toNat]?=some (n.stn i):=by
  simp[Net.stn,List.getD,aI h1]
 have h3:=jP.1 h0.2.1 _ (ai h2);simp only[Mp.ok,af,ba]at h3;refine⟨by omega,by omega,by omega,h3.1,h3.2,?_,bR (f:=Mp.enc) (w:=4) (fun _=>rfl) h2⟩;unfold Net.M6;split<;>omega
structure Hd(n:Net)(l:List Ei):Prop where
 ok:n.ok=true
 len:l.length≤60
 all:∀p∈l,Ei.ok n p=true∧0≤p.ph
theorem Hd.azu{n:Net}{l:List Ei}(h:Hd n l){p:Ei}(hp:p∈l):asM n p.st p.ph:=by
 have h1:=h.all p hp;simp only[Ei.ok,af,au]at h1;exact ad5 h.ok h1.1.1 h1.2 h1.1.2.1
end Go.Proofs.YtfgljaglidhjiaaGreatDoor
namespace Go.Trem
open List(length_flatMap map_take)
open Go Go.Abs
theorem DY{α β:Type}{f:α→List β}{c:Nat}{l:List α}(h:∀x∈l,(f x).length=c):(l.flatMap f).length=l.length*c:=by
 induction l with
 |nil=>simp
 |cons a l ih =>
  rw[aZ,bx,h a (by simp),ih fun x hx=>h x (by simp[hx]),aL,eT];omega
end Go.Trem
namespace Go.Proofs.YtfgljaglidhjiaaGreatDoor
open List(length_flatMap map_take)
open Go Go.Abs Go.Trem
variable {σ:SK}
structure Bx(n:Net):Prop where
 st:1≤n.step∧n.step≤20000
 lx : -20000≤n.low.x∧n.low.x≤20000
 ly : -20000≤n.low.y∧n.low.y≤20000
 lz : -20000≤n.low.z∧n.low.z≤20000
 hx:n.low.x≤n.high.x∧n.high.x≤20000
 hy:n.low.y≤n.high.y∧n.high.y≤20000
 hz:n.low.z≤n.high.z∧n.high.z≤20000
 len:(afQ n).length≤2000
end Go.Proofs.YtfgljaglidhjiaaGreatDoor
namespace Go.Trem
open List(length_flatMap map_take)
open Go Go.Abs
def avm(l:List Int)(i:Nat):Bool:=decide (i=0) || decide (l.getD (i-1) 0<l.getD i 0)
def avn(l:List Int):Bool:=gQ (List.range' 0 l.length) (avm l)
def yd.ok(r:yd):Bool:=cG r.far 0 20000 && cG r.add 0 100
def Gn.ok(s:Gn):Bool:=cG s.levels.length 1 60 && (gQ s.levels (fun n=>cG n 1 1000000000) && (avn s.levels && (cG s.rows.length 1 20 && (decide ((s.rows.getD 0 ⟨0,0⟩).far=0) && (gQ s.rows yd.ok && avn (s.rows.map (·.far)))))))
def lvl(l:List Int)(a:Int):Nat:=(l.takeWhile fun x=>decide (x≤a)).length
def zj.ok(n:Net)(r:zj):Bool:=cG r.st 0 (n.st.length-1) && cG r.amt 0 1000000000
end Go.Trem
namespace Go.Proofs.YtfgljaglidhjiaaGreatDoor
open List(length_flatMap map_take)
open Go Go.Abs Go.Trem
variable {σ:SK}
end Go.Proofs.YtfgljaglidhjiaaGreatDoor
namespace Go.Trem
open List(length_flatMap map_take)
open Go Go.Abs
def Bet.ok(b:Bet):Bool:=cG b.den 2 1000 && (cG b.num 1 (b.den-1) && (cG b.b 1 1000 && (cG b.a 0 b.b && cG b.aqK 2 1000)))
def next(b:Bet)(c:Int)(hit:Bool):Int:=if hit then min (c*(b.b*b.num+b.a*(b.den-b.num)) / (b.b*b.num)) 1000000000000 else c*(b.b-b.a) / b.b
structure azq(b:Bet)(c:Int):Prop where
 w1:IntKind.i64.wrap (b.b*b.num)=b.b*b.num
 w2:IntKind.i64.wrap (b.den-b.num)=b.den-b.num
 w3:IntKind.i64.wrap (b.a*(b.den-b.num))=b.a*(b.den-b.num)
 w4:IntKind.i64.wrap (b.b*b.num+b.a*(b.den-b.num))=b.b*b.num+b.a*(b.den-b.num)
 w5:IntKind.i64.wrap (c*(b.b*b.num+b.a*(b.den-b.num)))=c*(b.b*b.num+b.a*(b.den-b.num))
 w6:IntKind.i64.wrap ((c*(b.b*b.num+b.a*(b.den-b.num))).tdiv (b.b*b.num))=c*(b.b*b.num+b.a*(b.den-b.num)) / (b.b*b.num)
 w7:b.b*b.num≠0
 w8:IntKind.i64.wrap (b.b-b.a)=b.b-b.a
 w9:IntKind.i64.wrap (c*(b.b-b.a))=c*(b.b-b.a)
 w10:IntKind.i64.wrap ((c*(b.b-b.a)).tdiv b.b)=c*(b.b-b.a) / b.b
 w11:b.b≠0
 w12:∀h,0≤next b c h∧next b c h≤1000000000000
 w13:min (c*(b.b-b.a) / b.b) 1000000000000=c*(b.b-b.a) / b.b
def rh(k0 k1 k2:Int):Bool:=decide (k0≤1000) && (decide (k1≤k0) && (decide (k2≤k1) && decide (0≤k2)))
def SP(n:Int):Bool:=cG n 0 1000000000
end Go.Trem
namespace Go.Proofs.YtfgljaglidhjiaaGreatDoor
open List(length_flatMap map_take)
open Go Go.Abs Go.Trem
variable {σ:SK}
theorem Gc{a:Int}:lim T (.call false km [.int .i64 a] σ)=some (.val (.bool (SP a)) σ):=by
 refine az DA pZ.eq_1 rfl ?_;simp[-length_flatMap,-map_take,gp,SP]
structure azr(p k:Int):Prop where
 w1:IntKind.i64.wrap (p*k)=p*k
 w2:IntKind.i64.wrap ((p*k).tdiv 1000)=p*k / 1000
 w3:0≤p*k / 1000
 w4:p*k / 1000≤1000000000
end Go.Proofs.YtfgljaglidhjiaaGreatDoor
namespace Go.Trem
open List(length_flatMap map_take)
open Go Go.Abs
structure wy where
 p:Pt
 mag:Int
structure Ev where
 tick:Int
 sp:List wy
structure eI where
 lo:Pt
 hi:Pt
 least:Int
 ze:Int
 count:Int
 QL:Int
@[simp] theorem wy.eta(p:wy):wy.mk p.p p.mag=p:=rfl
@[simp] theorem Ev.eta(p:Ev):Ev.mk p.tick p.sp=p:=rfl
@[simp] theorem eI.eta(p:eI):eI.mk p.lo p.hi p.least p.ze p.count p.QL=p:=rfl
@[simp] def wy.enc(s:wy):List D:=[.int .i64 s.p.x,.int .i64 s.p.y,.int .i64 s.p.z,.int .i64 s.mag]
@[simp] def Ev.enc(e:Ev):List D:=[.int .i64 e.tick,.aH e.sp.length (e.sp.flatMap wy.enc)]
@[simp] def eI.enc(r:eI):List D:=[.int .i64 r.lo.x,.int .i64 r.lo.y,.int .i64 r.lo.z,.int .i64 r.hi.x,.int .i64 r.hi.y,.int .i64 r.hi.z,.int .i64 r.least,.int .i64 r.ze,.int .i64 r.count,.int .u8 r.QL]
def MD:Elt wy:=wP 4 wy.enc fun _=>rfl
def atd:Elt Ev:=wP 2 Ev.enc fun _=>rfl
def afE:Elt eI:=wP 10 eI.enc fun _=>rfl
def eI.QK(r:eI)(s:wy):Bool:=decide (r.least≤s.mag) && (cG s.p.x r.lo.x r.hi.x && (cG s.p.y r.lo.y r.hi.y && cG s.p.z r.lo.z r.hi.z))
def eI.ok(r:eI):Bool:=AU r.lo r.hi && (cG r.least 0 160 && (cG r.ze 1 1000000 && (cG r.count 1 200 && (r.QL == 1 || r.QL == 2))))
def wy.ok(s:wy):Bool:=s.p.ok && cG s.mag 0 160
def Ev.ok(e:Ev):Bool:=cG e.tick 0 1000000 && (cG e.sp.length 1 2000 && gQ e.sp wy.ok)
def eI.act(r:eI)(now:Int)(e:Ev):Bool:=decide (now-r.ze<e.tick) && decide (e.tick≤now)
def FP(f:Ev→Bool):List Ev→Nat
 |[]=>0
 |e::l=>FP f l+(if f e then 1 else 0)
def zd(r:eI)(now:Int)(e:Ev):Bool:=r.act now e && lC e.sp r.QK
def tB(r:eI)(now:Int)(e:Ev):Bool:=r.act now e && gQ e.sp r.QK
def yz(f:eI→Ev→Bool)(l:List Ev):List eI→Int→Int
 |[],a=>a
 |r::R,a=>yz f l R (if r.count≤FP (f r) l then max a r.QL else a)
def adR(R:List eI)(l:List Ev)(now:Int):Int:=yz (fun r=>zd r now) l R 0
def aeC(R:List eI)(l:List Ev)(now:Int):Int:=yz (fun r=>tB r now) l R 0
def po(R:List eI)(l:List Ev)(now:Int):Int :=
 if 20<R.length then 3 else if gQ R eI.ok=false then 1 else if 200<l.length then 3 else if gQ l Ev.ok=false then 1 else if cG now 0 1000000=false then 2 else 0
theorem Hl{r:eI}:r.ok=true↔AU r.lo r.hi=true∧(0≤r.least∧r.least≤160)∧(1≤r.ze∧r.ze≤1000000)∧(1≤r.count∧r.count≤200)∧(r.QL=1∨r.QL=2):=by
 simp only[eI.ok,af,ba,bX,beq_iff_eq]
end Go.Trem
namespace Go.Proofs.YtfgljaglidhjiaaGreatDoor
open List(length_flatMap map_take)
open Go Go.Abs Go.Trem
variable {σ:SK}
theorem Kd{r:eI}{s:wy}:lim T (.call false ed [.agg r.enc,.agg s.enc] σ)=some (.val (.bool (r.QK s)) σ):=by
 refine az AT mZ.eq_1 rfl ?_;by_cases hc1:r.least≤s.mag
 rotate_left
 ·simp[-length_flatMap,-map_take,gp,eI.QK,hc1]
 cases hc2:cG s.p.x r.lo.x r.hi.x
 ·simp[-length_flatMap,-map_take,gp,eI.QK,hc1,hc2]
 cases hc3:cG s.p.y r.lo.y r.hi.y
 ·simp[-length_flatMap,-map_take,gp,eI.QK,hc1,hc2,hc3]
 simp[-length_flatMap,-map_take,gp,eI.QK,hc1,hc2,hc3]
theorem Kj{r:eI}:lim T (.call false eM [.agg r.enc] σ)=some (.val (.bool r.ok) σ):=by
 refine az Ch nW.eq_1 rfl ?_;cases hc1:AU r.lo r.hi
 ·simp[-length_flatMap,-map_take,gp,H7,eI.ok,hc1]
 cases hc2:cG r.least 0 160
 ·simp[-length_flatMap,-map_take,gp,H7,eI.ok,hc1,hc2]
 cases hc3:cG r.ze 1 1000000
 ·simp[-length_flatMap,-map_take,gp,H7,eI.ok,hc1,hc2,hc3]
 cases hc4:cG r.count 1 200
 ·simp[-length_flatMap,-map_take,gp,H7,eI.ok,hc1,hc2,hc3,hc4]
 by_cases hc5:r.QL=1
 rotate_left
 ·simp[-length_flatMap,-map_take,gp,H7,eI.ok,hc1,hc2,hc3,hc4,hc5]
 simp[-length_flatMap,-map_take,gp,H7,eI.ok,hc1,hc2,hc3,hc4,hc5]
theorem asD{s:wy}:lim T (.call false fN [.agg s.enc] σ)=some (.val (.bool s.ok) σ):=by
 refine az zq lg.eq_1 rfl ?_;cases hc1:Pt.ok s.p
 ·simp[-length_flatMap,-map_take,gp,wD,wy.ok,hc1]
 simp[-length_flatMap,-map_take,gp,wD,wy.ok,hc1]
theorem H5{l:List wy}{p:wy→Bool}{fv:D}(ht:pK T fv MD.val p l)(hc:fv.cells=some [fv])(hl:l.length≤9223372036854775807):
  lim T (.call false eL [.aH l.length (l.flatMap wy.enc),fv] σ)=some (.val (.bool (gQ l p)) σ) :=
 zt MD yn wL mr nX hl ht hc
theorem Ke{e:Ev}(hl:e.sp.length≤9223372036854775807):lim T (.call false ec [.agg e.enc] σ)=some (.val (.bool e.ok) σ):=by
 refine az AR mX.eq_1 rfl ?_;have ha:=fun σ=>@H5 σ e.sp wy.ok (.fn fN [] []) (.fn fun s _ σ=>asD) rfl hl
 cases hc1:cG e.tick 0 1000000
 ·simp[-length_flatMap,-map_take,gp,ha,Ev.ok,hc1]
 cases hc2:cG e.sp.length 1 2000
 ·simp[-length_flatMap,-map_take,gp,ha,Ev.ok,hc1,hc2]
 simp[-length_flatMap,-map_take,gp,ha,Ev.ok,hc1,hc2]
theorem L7{R:List eI}(hl:R.length≤9223372036854775807):
  lim T (.call false dw [.aH R.length (R.flatMap eI.enc),.fn eM [] []] σ)=some (.val (.bool (gQ R eI.ok)) σ) :=
 zt afE ym wK tp uD hl (.fn fun r _ σ=>Kj) rfl
theorem RY{l:List Ev}(hl:l.length≤9223372036854775807)(hs:∀e∈l,e.sp.length≤9223372036854775807):
  lim T (.call false db [.aH l.length (l.flatMap Ev.enc),.fn ec [] []] σ)=some (.val (.bool (gQ l Ev.ok)) σ) :=
 zt atd xw wa sH ui hl (.fn fun r hr σ=>Ke (hs r hr)) rfl
end Go.Proofs.YtfgljaglidhjiaaGreatDoor
namespace Go.Book
open List(length_flatMap map_take)
open Go Go.Abs Go.Rock
structure mD where
 m:cN
 left:Bool
 by_:Int
structure Mq where
 line:Int
 value:Int
 lo:Int
 hi:Int
structure Prt where
 width:Int
 vJ:Int
structure xx where
 DS:Int
 parts:List Prt
structure LU where
 tick:Int
 aye:Int
 wlo:Int
 whi:Int
 mlo:Int
 mhi:Int
structure Bk where
 bH:cr
 ar:List mD
 av:List (List Int)
 rules:List Trem.eI
 zg:List Trem.Ev
 k0:Int
 k1:Int
 k2:Int
 dU:List xx
 jB:List LU
 ready:Bool
 o7:List Mq
 at_:Int
@[simp] def mD.enc(e:mD):List D:=[.str e.m.name,.aH e.m.bh.length (e.m.bh.flatMap aT),.bool e.left,.int .i64 e.by_]
@[simp] def Mq.enc(e:Mq):List D:=[.int .i64 e.line,.int .i64 e.value,.int .i64 e.lo,.int .i64 e.hi]
@[simp] def Prt.enc(e:Prt):List D:=[.int .i64 e.width,.int .i64 e.vJ]
@[simp] def xx.enc(e:xx):List D:=[.int .i64 e.DS,.aH e.parts.length (e.parts.flatMap Prt.enc)]
@[simp] def LU.enc(e:LU):List D:=[.int .i64 e.tick,.int .i64 e.aye,.int .i64 e.wlo,.int .i64 e.whi,.int .i64 e.mlo,.int .i64 e.mhi]
def nl{α:Type}(f:α→List D)(l:List α):D:=if l=[]then .aF else .aH l.length (l.flatMap f)
def pE(r:List Int):List D:=[.aH r.length (r.flatMap aT)]
def Bk.cells(L:Nat)(b:Bk):List D:=[.int .i64 b.bH.f.x,.int .i64 b.bH.f.y,.int .i64 b.bH.f.z,.int .i64 b.bH.f.k,nl Rw.enc b.bH.ck,.int .i64 b.bH.bJ,.int .i64 b.bH.lift,.int .i64 b.bH.deep,nl bG.enc b.bH.an,
 .sl L 0 b.ar.length 0 b.ar.length 4,nl pE b.av,.sl L 1 b.rules.length 0 b.rules.length 10,.sl L 2 b.zg.length 0 b.zg.length 2,.int .i64 b.k0,.int .i64 b.k1,.int .i64 b.k2,
 .sl L 3 b.dU.length 0 b.dU.length 2,.sl L 4 b.jB.length 0 b.jB.length 6,.bool b.ready,.sl L 5 b.o7.length 0 b.o7.length 4,.int .i64 b.at_]
def Bk.bw(L:Nat)(b:Bk)(er:List Int):List Abs.aE:=[.cells b.ar.length (b.ar.flatMap mD.enc),.cells b.rules.length (b.rules.flatMap Trem.eI.enc),.cells b.zg.length (b.zg.flatMap Trem.Ev.enc),.cells b.dU.length (b.dU.flatMap xx.enc),
 .cells b.jB.length (b.jB.flatMap LU.enc),.cells b.o7.length (b.o7.flatMap Mq.enc),.cells 0 (b.cells L),.cells er.length (er.flatMap aT)]
def rO:Bk:=⟨⟨⟨0,0,0,0⟩,[],0,0,0,[]⟩,[],[],[],[],1000,500,0,[],[],false,[],0⟩
def Prt.ok(last:Int)(p:Prt):Bool:=cG p.vJ 0 last && cG p.width 1 100000
def yt:Int→List Prt→Bool
 |_,[]=>true
 |last,p::l=>p.ok last && yt p.vJ l
def xx.ok(u:xx):Bool:=cG u.DS 0 5 && (cG u.parts.length 1 8 && yt 1000 u.parts)
def vL(l:List Prt):Nat→Int
 |0=>1000
 |i+1=>match l[i]? with
  |some p=>p.vJ
  |none=>0
def Cy(l:List Prt)(i:Nat):Bool:=match l[i]? with
 |some p=>p.ok (vL l i)
 |none=>true
theorem QV{l:List Prt}:yt 1000 l=true↔∀j,j<l.length→Cy l j=true:=by
 have key:∀(r pre:List Prt),l=pre++r→(yt (vL l pre.length) r=true↔∀j,j<r.length→Cy l (pre.length+j)=true):=by
  intro r;induction r with
  |nil=>intro pre h;simp[yt]
  |cons p r ih =>
   intro pre h;have hp:l[pre.length]?=some p:=by rw[h];simp
   have h1:=ih (pre++[p]) (by rw[h];simp);have h2:vL l (pre++[p]).length=p.vJ:=by simp[vL,hp]
   rw[h2]at h1;simp only[yt,af,h1];constructor
   ·rintro⟨h3,h4⟩ j hj;cases j with
    |zero=>simpa[Cy,hp]using h3
    |succ j =>
     have:=h4 j (by simpa using hj);rwa[show(pre++[p]).length+j=pre.length+(j+1)by simp;omega]at this
   ·intro h3;refine⟨?_,fun j hj=>?_⟩
    ·have:=h3 0 (by simp);simpa[Cy,hp]using this
    ·have:=h3 (j+1) (by simpa using hj);rwa[show(pre++[p]).length+j=pre.length+(j+1)by simp;omega]
 have:=key l [] rfl;simpa[vL]using this
def zC(b:Bk)(x y z k:Int):Bk×Int :=
 if(b.bH.f.x=0∧b.bH.f.y=0)∧b.bH.f.z=0∧b.bH.f.k=0 then
  (if(fP.mk x y z k).valid=true∧4≤k then({b with bH:={b.bH with f:=⟨x,y,z,k⟩ } },0)else(b,1))
 else(b,8)
end Go.Book
namespace Go.Abs
open List(length_flatMap map_take)
open Go
variable {T:yo} {fv:D} {σ:SK}
theorem Q6{f w:Nat}{ag:Bool}(hT:T f=some (uB ag w))(h1:fv.strip=fv)(h2:fv.calm=fv):lim T (.call false f [.aF,fv] σ)=some (.val (.int .i64 (-1)) σ):=by
 refine az hT (uB.eq_1 _ _) rfl ?_;simp[h1,h2];refine aN (G5.eq_1 _ _) ?_;simp[h1,h2]
theorem contains_nil{f i w:Nat}{ag:Bool}(hT:T f=some (jg i))(hi:T i=some (uB ag w))(h1:fv.strip=fv)(h2:fv.calm=fv):lim T (.call false f [.aF,fv] σ)=some (.val (.bool false) σ):=by
 refine az hT (jg.eq_1 _) rfl ?_;simp[h1,h2,Q6 hi h1 h2]
theorem all_nil{f g h i w:Nat}{ag:Bool}(hf:T f=some (DD g h))(hh:T h=some (jg i))(hi:T i=some (uB ag w))(h1:fv.strip=fv)(h2:fv.calm=fv)(hcl:fv.cells=some [fv]):
  lim T (.call false f [.aF,fv] σ)=some (.val (.bool true) σ):=by
 refine az hf (DD.eq_1 _ _) rfl ?_;have h3:=fun σ=>contains_nil (fv:=.fn g [] [.bF [fv]]) (σ:=σ) hh hi rfl rfl
 simp[h1,h2,h3,hcl]
end Go.Abs
namespace Go.Proofs.YtfgljaglidhjiaaGreatDoor
open List(length_flatMap map_take)
open Go Go.Abs Go.Rock Go.Book
variable {σ:SK}
theorem aeZ{F:List Abs.aE}{b:Bk}{er:List Int}{nm:List UInt8}{x y z k:Int}{b':Bk}{e:Int}(hd:zC b x y z k=(b',e))(he:e=0):
  lim T (.call false fp [.ref σ.length 6 0 0,.str nm,.aH 4 [.int .i64 x,.int .i64 y,.int .i64 z,.int .i64 k]] (F::b.bw σ.length er::σ))=some (.val (.dG []) (F::b'.bw σ.length er::σ)):=by
 refine gw vg jQ.eq_1 rfl (by simp) ?_;unfold zC at hd;split at hd
 case isFalse=>cases hd;cases he
 rename_i h1;split at hd
 case isFalse=>cases hd;cases he
 rename_i h2;cases hd;obtain⟨⟨f1,f2⟩,f3,f4⟩:=h1;have hS:(fP.mk x y z k).shape=0:=by simp[fP.shape,h2.1]
 have hC:=fun σ=>jC (σ:=σ) (f:=⟨x,y,z,k⟩)
 simp only[hS]at hC;simp[-length_flatMap,-map_take,Bk.bw,Bk.cells,f1,f2,f3,f4,cA,hC,h2.2]
theorem Qo{F:List Abs.aE}{b:Bk}{er:List Int}{nm:List UInt8}{x y z k:Int}{b':Bk}{e:Int}(hd:zC b x y z k=(b',e))(he:e≠0):
  lim T (.call false fp [.ref σ.length 6 0 0,.str nm,.aH 4 [.int .i64 x,.int .i64 y,.int .i64 z,.int .i64 k]] (F::b.bw σ.length er::σ))=some (.fQ (rf e) (F::b.bw σ.length er::σ)):=by
 refine ef vg jQ.eq_1 rfl ?_;have hC:=fun σ=>jC (σ:=σ) (f:=⟨x,y,z,k⟩)
 unfold zC at hd;split at hd
 ·rename_i h1;obtain⟨⟨f1,f2⟩,f3,f4⟩:=h1;split at hd
  ·cases hd;exact absurd rfl he
  rename_i h2;cases hd;by_cases h3:(fP.mk x y z k).valid=true
  ·have h4:¬4≤k:=fun hh=>h2 ⟨h3,hh⟩
   have hS:(fP.mk x y z k).shape=0:=by simp[fP.shape,h3]
   simp only[hS]at hC;simp[-length_flatMap,-map_take,Bk.bw,Bk.cells,f1,f2,f3,f4,cA,dC,hC,h4,D.clean,rf]
  ·have hS:(fP.mk x y z k).shape=1:=by simp[fP.shape,h3]
   simp only[hS]at hC;simp[-length_flatMap,-map_take,Bk.bw,Bk.cells,f1,f2,f3,f4,cA,dC,hC,D.clean,rf]
 ·rename_i h1;cases hd;have hz:(b.bH.f.x == 0 && (b.bH.f.y == 0 && (b.bH.f.z == 0 && b.bH.f.k == 0)))=false:=by
   cases hb:(b.bH.f.x == 0 && (b.bH.f.y == 0 && (b.bH.f.z == 0 && b.bH.f.k == 0)))with
   |false=>rfl
   |true =>
    simp only[af,beq_iff_eq]at hb;exact absurd ⟨⟨hb.1,hb.2.1⟩,hb.2.2.1,hb.2.2.2⟩ h1
  simp[-length_flatMap,-map_take,Bk.bw,Bk.cells,hz,dC,D.clean,rf]
theorem Fa{k0 k1 k2:Int}(hσ:σ≠[]):
  lim T (.call false pn [.aF,.aF,.agg [.int .i64 k0,.int .i64 k1,.int .i64 k2],.int .i64 0] σ) =
   some (.val (.dG [if Trem.rh k0 k1 k2 then .aH 0 []else .aF,.int .i64 (if Trem.rh k0 k1 k2 then 0 else 1)]) σ):=by
 refine az FJ sB.eq_1 rfl ?_;have hA:=fun σ=>all_nil (T:=T) (σ:=σ) (fv:=.fn km [] []) (f:=gV) (ag:=false) (w:=1) rfl rfl rfl rfl rfl rfl
 have hB:=fun σ=>all_nil (T:=T) (σ:=σ) (fv:=.fn qh [] []) (f:=o5) (ag:=false) (w:=1) rfl rfl rfl rfl rfl rfl
 have hC:Trem.SP 0=true:=by decide
 by_cases c1:1000<k0
 ·have d1:¬k0≤1000:=by omega
  simp[-length_flatMap,-map_take,Trem.rh,hA,hB,Gc,hC,c1,d1]
 have d1:k0≤1000:=by omega
 by_cases c2:k0<k1
 ·have d2:¬k1≤k0:=by omega
  simp[-length_flatMap,-map_take,Trem.rh,hA,hB,Gc,hC,c1,c2,d1,d2]
 have d2:k1≤k0:=by omega
 by_cases c3:k1<k2
 ·have d3:¬k2≤k1:=by omega
  simp[-length_flatMap,-map_take,Trem.rh,hA,hB,Gc,hC,c1,c2,c3,d1,d2,d3]
 have d3:k2≤k1:=by omega
 by_cases c4:k2<0
 ·have d4:¬0≤k2:=by omega
  simp[-length_flatMap,-map_take,Trem.rh,hA,hB,Gc,hC,c1,c2,c3,c4,d1,d2,d3,d4]
 have d4:0≤k2:=by omega
 simp[-length_flatMap,-map_take,Trem.rh,hA,hB,Gc,hC,c1,c2,c3,c4,d1,d2,d3,d4];refine aN vT.eq_1 ?_;simp[-length_flatMap,-map_take,d1,d2,d3,d4];have h3:¬σ.length≤σ.length-1:=by have:=aK.2 hσ;omega
 refine⟨[.dead],?_⟩;rw[BI (by simp[D.bz,D.clean]) (by omega)];have h6:=C7 (l:=σ.length-1) (n:=15) (l':=σ.length) (i:=0) (v:=0) (off:=0) (m:=0) (w:=1) (σ:=[Abs.aE.cells 0 []]::σ) (cs:=[]) h3 (by simp) (by omega);simp only[Nat.reduceSub,cz.frzL,h6];simp
def Le(b:Bk)(k0 k1 k2:Int):Bk:={b with k0:=k0,k1:=k1,k2:=k2 }
theorem al9{F:List Abs.aE}{b:Bk}{er:List Int}{nm:List UInt8}{x y z:Int}(h:Trem.rh x y z=true):
  lim T (.call false fU [.ref σ.length 6 0 0,.str nm,.aH 3 [.int .i64 x,.int .i64 y,.int .i64 z]] (F::b.bw σ.length er::σ))=some (.val (.dG []) (F::(Le b x y z).bw σ.length er::σ)):=by
 refine gw vM kB.eq_1 rfl (by simp) ?_;have hI:=fun σ hσ=>Fa (σ:=σ) (k0:=x) (k1:=y) (k2:=z) hσ
 simp only[h,if_true]at hI;simp[-length_flatMap,-map_take,hI,meD,oB,Bk.bw,Bk.cells,Le]
theorem R9{F:List Abs.aE}{b:Bk}{er:List Int}{nm:List UInt8}{x y z:Int}(h:Trem.rh x y z=false):
  lim T (.call false fU [.ref σ.length 6 0 0,.str nm,.aH 3 [.int .i64 x,.int .i64 y,.int .i64 z]] (F::b.bw σ.length er::σ))=some (.fQ (rf 1) (F::b.bw σ.length er::σ)):=by
 refine ef vM kB.eq_1 rfl ?_;have hI:=fun σ hσ=>Fa (σ:=σ) (k0:=x) (k1:=y) (k2:=z) hσ
 simp only[h]at hI;have hM:=fun σ=>pI (σ:=σ) (e:=1) (by decide)
 simp[-length_flatMap,-map_take,hI,meD,hM,Bk.bw,Bk.cells,D.clean,rf]
theorem J9{r:Trem.eI}:lim T (.call false iC [.aH 1 r.enc,.aF,.int .i64 0] σ)=some (.val (.dG [.int .u8 0,.int .u8 0,.int .i64 (if r.ok then 0 else 1)]) σ):=by
 refine az wJ n8.eq_1 rfl ?_;have hA:=fun σ=>@L7 σ [r] (by simp)
 have hN:=fun σ=>all_nil (T:=T) (σ:=σ) (fv:=.fn ec [] []) (f:=db) (ag:=true) (w:=2) rfl rfl rfl rfl rfl rfl
 simp only[List.length_singleton,aZ,dJ,dF,gQ,jD,List.all_nil,Bool.and_true]at hA;have w0:Trem.cG 0 0 1000000=true:=by decide
 cases hr:r.ok
 ·rw[hr]at hA;simp only[Trem.eI.enc]at hA ⊢;simp[-length_flatMap,-map_take,hA]
 ·rw[hr]at hA;have hc:=(Trem.Hl.1 hr).2.2.2.1;have c1:¬r.count≤0:=by omega
  simp only[Trem.eI.enc]at hA ⊢;simp[-length_flatMap,-map_take,hA,hN,gp,w0];refine aN gJ.eq_1 ?_;simp[-length_flatMap,-map_take];refine aN lK.eq_1 ?_;simp[-length_flatMap,-map_take,c1];refine aN gJ.eq_1 ?_;simp[-length_flatMap,-map_take,c1]
def C4(b:Bk)(r:Trem.eI)(c:Int):Bk×Int :=
 if b.rules.length<20 then(if cG c 1 2=true then(if r.ok=true then({b with rules:=b.rules++[r] },0)else(b,1))else(b,1))else(b,3)
theorem aeh(l:List Trem.eI):(l.flatMap Trem.eI.enc).length=l.length*10:=bZ (f:=Trem.eI.enc) (w:=10) (fun _=>rfl) l
theorem ame{F:List Abs.aE}{b:Bk}{er:List Int}{nm:List UInt8}{x0 x1 x2 x3 x4 x5 x6 x7 x8 x9:Int}{b':Bk}{e:Int}(hd:C4 b ⟨⟨x0,x1,x2⟩,⟨x3,x4,x5⟩,x6,x7,x8,x9⟩ x9=(b',e))(he:e=0):
  lim T (.call false fX [.ref σ.length 6 0 0,.str nm,.aH 10 [.int .i64 x0,.int .i64 x1,.int .i64 x2,.int .i64 x3,.int .i64 x4,.int .i64 x5,.int .i64 x6,.int .i64 x7,.int .i64 x8,.int .i64 x9]] (F::b.bw σ.length er::σ))=some (.val (.dG []) (F::b'.bw σ.length er::σ)):=by
 refine gw vO kE.eq_1 rfl (by simp) ?_;have hL:=fun σ=>J9 (σ:=σ) (r:=⟨⟨x0,x1,x2⟩,⟨x3,x4,x5⟩,x6,x7,x8,x9⟩)
 unfold C4 at hd;split at hd
 case isFalse=>cases hd;cases he
 rename_i h1;split at hd
 case isFalse=>cases hd;cases he
 rename_i h2;split at hd
 case isFalse=>cases hd;cases he
 rename_i h3;cases hd;have h1':(b.rules.length:Int)<20:=by omega
 have h4:=ba.1 h2;have w1:IntKind.u8.wrap x9=x9:=wu8 (by omega);have w2:(b.rules.length+1)*80≤room:=by unfold room;omega
 have w3:=aeh b.rules;have w4:(b.rules.flatMap Trem.eI.enc).take (b.rules.length*10)=b.rules.flatMap Trem.eI.enc:=aj (by omega);simp only[h3,if_true,Trem.eI.enc]at hL;simp[-length_flatMap,-map_take,Bk.bw,Bk.cells,h1',ff,h2,cA,w1,hL,oB,w2,w3,w4]
theorem Sp{F:List Abs.aE}{b:Bk}{er:List Int}{nm:List UInt8}{x0 x1 x2 x3 x4 x5 x6 x7 x8 x9:Int}{b':Bk}{e:Int}(hd:C4 b ⟨⟨x0,x1,x2⟩,⟨x3,x4,x5⟩,x6,x7,x8,x9⟩ x9=(b',e))(he:e≠0):
  lim T (.call false fX [.ref σ.length 6 0 0,.str nm,.aH 10 [.int .i64 x0,.int .i64 x1,.int .i64 x2,.int .i64 x3,.int .i64 x4,.int .i64 x5,.int .i64 x6,.int .i64 x7,.int .i64 x8,.int .i64 x9]] (F::b.bw σ.length er::σ))=some (.fQ (rf e) (F::b.bw σ.length er::σ)):=by
 refine ef vO kE.eq_1 rfl ?_;have hL:=fun σ=>J9 (σ:=σ) (r:=⟨⟨x0,x1,x2⟩,⟨x3,x4,x5⟩,x6,x7,x8,x9⟩)
 have hM:=fun σ=>pI (σ:=σ) (e:=1) (by decide)
 unfold C4 at hd;split at hd
 ·rename_i h1;have h1':(b.rules.length:Int)<20:=by omega
  split at hd
  ·rename_i h2;have h4:=ba.1 h2;have w1:IntKind.u8.wrap x9=x9:=wu8 (by omega);split at hd
   ·cases hd;exact absurd rfl he
   ·rename_i h3;cases hd;have h3':Trem.eI.ok ⟨⟨x0,x1,x2⟩,⟨x3,x4,x5⟩,x6,x7,x8,x9⟩=false:=by simpa using h3
    simp only[h3',Trem.eI.enc]at hL;simp[-length_flatMap,-map_take,Bk.bw,Bk.cells,h1',ff,h2,cA,w1,hL,hM,D.clean,rf]
  ·rename_i h2;cases hd;have h2':cG x9 1 2=false:=by simpa using h2
   simp[-length_flatMap,-map_take,Bk.bw,Bk.cells,h1',ff,h2',cA,dC,D.clean,rf]
 ·rename_i h1;cases hd;have h1':¬(b.rules.length:Int)<20:=by omega
  simp[-length_flatMap,-map_take,Bk.bw,Bk.cells,h1',dC,D.clean,rf]
theorem sD{α:Type}{f:α→List D}{l:List α}:(nl f l).wc=.aH l.length (l.flatMap f):=by
 unfold nl;split
 ·rename_i h;subst h;rfl
 ·rfl
theorem amK{l:List bG}:(nl bG.enc l).clean=true:=by unfold nl;split<;>simp[D.clean,bj]
theorem zh{b:cr}{tq wq:D}(htq:tq.wc=.aH b.ck.length (b.ck.flatMap Rw.enc))(hwq:wq.wc=.aH b.an.length (b.an.flatMap bG.enc))(h1:b.ck.length≤1000000000)(h2:b.an.length≤1000000000):
  lim T (.call false mG [.agg [.int .i64 b.f.x,.int .i64 b.f.y,.int .i64 b.f.z,.int .i64 b.f.k,tq,.int .i64 b.bJ,.int .i64 b.lift,.int .i64 b.deep,wq]] σ)=some (.val (.int .i64 (if b.valid then 0 else 1)) σ):=by
 refine az FH sA.eq_1 rfl ?_;have hB:=fun σ=>AF (σ:=σ) (b:=b) h1 h2
 cases hv:b.valid<;>rw[hv]at hB<;>simp[-length_flatMap,-map_take,htq,hwq,hB,cI,bj]
def Jg(b:Bk)(x y z:Int):Bk:={b with bH:={b.bH with bJ:=x,lift:=y,deep:=z },ready:=true }
def GS(b:Bk)(x y z:Int):Bk×Int :=
 if((b.bH.f.x=0∧b.bH.f.y=0)∧b.bH.f.z=0∧b.bH.f.k=0)∨b.bH.ck=[]∨b.ready=true then(b,8)
 else if(Jg b x y z).bH.valid=true then(Jg b x y z,0)else(b,1)
theorem G2{f:fP}:(f.x == 0 && (f.y == 0 && (f.z == 0 && f.k == 0)))=decide ((f.x=0∧f.y=0)∧f.z=0∧f.k=0):=by
 by_cases h1:f.x=0<;>by_cases h2:f.y=0<;>by_cases h3:f.z=0<;>by_cases h4:f.k=0<;>simp[h1,h2,h3,h4]
theorem eH{α:Type}{f:α→List D}{l:List α}(h:l≠[]):nl f l=.aH l.length (l.flatMap f):=if_neg h
theorem al5{F:List Abs.aE}{b:Bk}{er:List Int}{nm:List UInt8}{x y z:Int}{b':Bk}{e:Int}(h1:b.bH.ck.length≤1000000000)(h2:b.bH.an.length≤1000000000)(hd:GS b x y z=(b',e))(he:e=0):
  lim T (.call false gK [.ref σ.length 6 0 0,.str nm,.aH 3 [.int .i64 x,.int .i64 y,.int .i64 z]] (F::b.bw σ.length er::σ))=some (.val (.dG []) (F::b'.bw σ.length er::σ)):=by
 refine gw wG lH.eq_1 rfl (by simp) ?_;unfold GS at hd;split at hd
 case isTrue=>cases hd;cases he
 rename_i h0;split at hd
 case isFalse=>cases hd;cases he
 rename_i h3;cases hd;have c1:(b.bH.f.x == 0 && (b.bH.f.y == 0 && (b.bH.f.z == 0 && b.bH.f.k == 0)))=false:=by rw[G2];simpa using fun hh=>h0 (.inl hh)
 have c2:b.bH.ck≠[]:=fun hh=>h0 (.inr (.inl hh))
 have c3:b.ready=false:=by cases hr:b.ready with | false=>rfl | true=>exact absurd (.inr (.inr hr)) h0
 have c4:0<b.bH.ck.length:=aK.2 c2;have hcl:(D.aH b.bH.ck.length (b.bH.ck.flatMap Rw.enc)).clean=true:=by simp[D.clean,cI]
 have hC:=fun σ=>zh (σ:=σ) (b:=(Jg b x y z).bH) (tq:=nl Rw.enc b.bH.ck) (wq:=nl bG.enc b.bH.an) sD sD h1 h2
 rw[h3]at hC;simp only[eH c2,Jg]at hC;simp[-length_flatMap,-map_take,Bk.bw,Bk.cells,c1,eH c2,c4,c3,cA,oB,hC,Jg,amK,hcl]
theorem RZ{F:List Abs.aE}{b:Bk}{er:List Int}{nm:List UInt8}{x y z:Int}{b':Bk}{e:Int}(h1:b.bH.ck.length≤1000000000)(h2:b.bH.an.length≤1000000000)(hd:GS b x y z=(b',e))(he:e≠0):
  lim T (.call false gK [.ref σ.length 6 0 0,.str nm,.aH 3 [.int .i64 x,.int .i64 y,.int .i64 z]] (F::b.bw σ.length er::σ))=some (.fQ (rf e) (F::b.bw σ.length er::σ)):=by
 refine ef wG lH.eq_1 rfl ?_;have hM:=fun σ=>pI (σ:=σ) (e:=1) (by decide)
 unfold GS at hd;split at hd
 ·rename_i h0;cases hd;cases c1:(b.bH.f.x == 0 && (b.bH.f.y == 0 && (b.bH.f.z == 0 && b.bH.f.k == 0)))
  ·by_cases c2:b.bH.ck=[]
   ·simp[-length_flatMap,-map_take,Bk.bw,Bk.cells,c1,c2,nl,dC,D.clean,rf]
   ·have c4:0<b.bH.ck.length:=aK.2 c2;have c3:b.ready=true:=by
     rw[G2]at c1;rcases h0 with h | h | h
     ·exact absurd h (by simpa using c1)
     ·exact absurd h c2
     ·exact h
    simp[-length_flatMap,-map_take,Bk.bw,Bk.cells,c1,eH c2,c4,c3,dC,D.clean,rf]
  ·simp[-length_flatMap,-map_take,Bk.bw,Bk.cells,c1,dC,D.clean,rf]
 ·rename_i h0;split at hd
  ·cases hd;exact absurd rfl he
  rename_i h3;cases hd;have c1:(b.bH.f.x == 0 && (b.bH.f.y == 0 && (b.bH.f.z == 0 && b.bH.f.k == 0)))=false:=by rw[G2];simpa using fun hh=>h0 (.inl hh)
  have c2:b.bH.ck≠[]:=fun hh=>h0 (.inr (.inl hh))
  have c3:b.ready=false:=by cases hr:b.ready with | false=>rfl | true=>exact absurd (.inr (.inr hr)) h0
  have c4:0<b.bH.ck.length:=aK.2 c2;have hC:=fun σ=>zh (σ:=σ) (b:=(Jg b x y z).bH) (tq:=nl Rw.enc b.bH.ck) (wq:=nl bG.enc b.bH.an) sD sD h1 h2
  have h3':(Jg b x y z).bH.valid=false:=by simpa using h3
  rw[h3']at hC;simp only[eH c2,Jg]at hC;simp[-length_flatMap,-map_take,Bk.bw,Bk.cells,c1,eH c2,c4,c3,cA,hM,hC,D.clean,rf]
theorem GH(l:List bG):(l.flatMap bG.enc).length=l.length*3:=bZ (f:=bG.enc) (w:=3) (fun _=>rfl) l
theorem H9{bs:List Abs.aE}:lim T (.call true eJ [.aF] (bs::σ))=some (.val (.sl σ.length (bs.length+1) 0 0 0 3) ((bs++[.cells 0 [],.cells 0 []])::σ)):=by
 refine we rS gq.eq_1 rfl ?_;simp[-length_flatMap,-map_take]
theorem Kb{bs:List Abs.aE}{l:List bG}(hne:l≠[])(hl:l.length≤1000000):lim T (.call true eJ [.aH l.length (l.flatMap bG.enc)] (bs::σ)) =
  some (.val (.sl σ.length (bs.length+1) 1 0 l.length 3) ((bs++[.cells 0 [],.cells 1 (l.flatMap bG.enc)])::σ)):=by
 refine we rS gq.eq_1 rfl ?_;have h7:l.length*24≤room:=by unfold room;omega
 simp[-length_flatMap,-map_take,hne,GH,h7]
def vX(b:Bk)(x y z:Int):Bk:={b with bH:={b.bH with an:=b.bH.an++[⟨x,y,z⟩] } }
def zJ(b:Bk)(x y z:Int):Bk×Int :=
 if b.ready=true∧b.ar=[]then(if(vX b x y z).bH.valid=true then(vX b x y z,0)else(b,1))else(b,8)
theorem amn{F:List Abs.aE}{b:Bk}{er:List Int}{nm:List UInt8}{x y z:Int}{b':Bk}{e:Int}(ht:b.bH.ck≠[])(h1:b.bH.ck.length≤1000000000)(h2:b.bH.an.length≤1000000)(hd:zJ b x y z=(b',e))(he:e=0):
  lim T (.call false gb [.ref σ.length 6 0 0,.str nm,.aH 3 [.int .i64 x,.int .i64 y,.int .i64 z]] (F::b.bw σ.length er::σ))=some (.val (.dG []) (F::b'.bw σ.length er::σ)):=by
 refine gw vS kI.eq_1 rfl (by simp) ?_;unfold zJ at hd;split at hd
 case isFalse=>cases hd;cases he
 rename_i h0;obtain⟨c1,c2⟩:=h0;split at hd
 case isFalse=>cases hd;cases he
 rename_i h3;cases hd;have hC:=fun σ=>zh (σ:=σ) (b:=(vX b x y z).bH) (tq:=.aH b.bH.ck.length (b.bH.ck.flatMap Rw.enc)) (wq:=.aH (b.bH.an.length+1) (b.bH.an.flatMap bG.enc++[.int .i64 x,.int .i64 y,.int .i64 z])) rfl (by simp[vX,D.wc]) h1 (by simp[vX];omega)
 rw[h3]at hC;simp only[vX]at hC;have hcl:(D.aH b.bH.ck.length (b.bH.ck.flatMap Rw.enc)).clean=true:=by simp[D.clean,cI]
 have hroom:(b.bH.an.length+1)*24≤room:=by unfold room;omega
 have hlen:=GH b.bH.an;have htake:(b.bH.an.flatMap bG.enc).take (b.bH.an.length*3)=b.bH.an.flatMap bG.enc:=aj (by omega);have hcw:D.bz (b.bH.an.flatMap bG.enc++[.int .i64 x,.int .i64 y,.int .i64 z])=true:=by
  have:=bj (b.bH.an++[⟨x,y,z⟩]);simpa using this
 have hfr:∀(v:Nat) (S:SK),S.length=σ.length+1+1→cz 0 16 (.sl (σ.length+1+1) 1 v 0 (b.bH.an.length+1) 3) ([.cells 0 [],.cells v (b.bH.an.flatMap bG.enc++[.int .i64 x,.int .i64 y,.int .i64 z])]::S) =
   (.aH (b.bH.an.length+1) (b.bH.an.flatMap bG.enc++[.int .i64 x,.int .i64 y,.int .i64 z]),[.cells 0 [],.dead]::S):=by
  intro v S hS;have:=DW (f:=bG.enc) (w:=3) (fun _=>rfl) (fun _=>by simp[D.clean]) (l:=b.bH.an++[⟨x,y,z⟩]) (j:=1) (v:=v) (bs:=[Abs.aE.cells 0 [],.cells v (b.bH.an.flatMap bG.enc++[.int .i64 x,.int .i64 y,.int .i64 z])]) (σ:=S) (by intro h;subst h;simp at hS) (by simp);rw[hS]at this;simpa using this
 have h24:24≤room:=by unfold room;omega
 have hcw2:(D.aH (b.bH.an.length+1) (b.bH.an.flatMap bG.enc++[.int .i64 x,.int .i64 y,.int .i64 z])).clean=true:=by simpa[D.clean]using hcw
 by_cases hw:b.bH.an=[]
 ·have hfr':=hfr;simp only[hw,bE,dJ,aX,cQ]at hfr' hC;have ht':=eH (f:=Rw.enc) ht;simp only[nl]at ht';simp[-length_flatMap,-map_take,Bk.bw,Bk.cells,c1,c2,ht',hC,hw,nl,cA,oB,H9,vX,hcl,h24,hfr']
 ·simp[-length_flatMap,-map_take,Bk.bw,Bk.cells,c1,c2,eH ht,eH hw,cA,oB,Kb hw h2,vX,hcl,hroom,hlen,htake,hfr,hC,hcw2];simp[nl]
theorem SA{F:List Abs.aE}{b:Bk}{er:List Int}{nm:List UInt8}{x y z:Int}{b':Bk}{e:Int}(ht:b.ready=true→b.bH.ck≠[])(h1:b.bH.ck.length≤1000000000)(h2:b.bH.an.length≤1000000)(hd:zJ b x y z=(b',e))(he:e≠0):
  lim T (.call false gb [.ref σ.length 6 0 0,.str nm,.aH 3 [.int .i64 x,.int .i64 y,.int .i64 z]] (F::b.bw σ.length er::σ))=some (.fQ (rf e) (F::b.bw σ.length er::σ)):=by
 refine ef vS kI.eq_1 rfl ?_;have hM:=fun σ=>pI (σ:=σ) (e:=1) (by decide)
 have hrc:(D.tW 311 (.agg [.int .i64 1])).clean=true:=rfl;unfold zJ at hd;split at hd
 case isFalse h0 =>
  cases hd;cases c1:b.ready with
  |false=>simp[-length_flatMap,-map_take,Bk.bw,Bk.cells,c1,dC,D.clean,rf]
  |true =>
   have c2:b.ar≠[]:=fun hh=>h0 ⟨c1,hh⟩
   have c2':((b.ar.length:Int) == 0)=false:=by simpa using c2
   simp[-length_flatMap,-map_take,Bk.bw,Bk.cells,c1,c2',dC,D.clean,rf]
 rename_i h0;obtain⟨c1,c2⟩:=h0;have ht:=ht c1;split at hd
 case isTrue=>cases hd;exact absurd rfl he
 rename_i h3;cases hd;have h3':(vX b x y z).bH.valid=false:=by simpa using h3
 have hC:=fun σ=>zh (σ:=σ) (b:=(vX b x y z).bH) (tq:=.aH b.bH.ck.length (b.bH.ck.flatMap Rw.enc)) (wq:=.aH (b.bH.an.length+1) (b.bH.an.flatMap bG.enc++[.int .i64 x,.int .i64 y,.int .i64 z])) rfl (by simp[vX,D.wc]) h1 (by simp[vX];omega)
 rw[h3']at hC;simp only[vX]at hC;have hcl:(D.aH b.bH.ck.length (b.bH.ck.flatMap Rw.enc)).clean=true:=by simp[D.clean,cI]
 have hroom:(b.bH.an.length+1)*24≤room:=by unfold room;omega
 have hlen:=GH b.bH.an;have htake:(b.bH.an.flatMap bG.enc).take (b.bH.an.length*3)=b.bH.an.flatMap bG.enc:=aj (by omega);have hcw:D.bz (b.bH.an.flatMap bG.enc++[.int .i64 x,.int .i64 y,.int .i64 z])=true:=by
  have:=bj (b.bH.an++[⟨x,y,z⟩]);simpa using this
 have hfr:∀(v:Nat) (S:SK),S.length=σ.length+1+1→cz 0 16 (.sl (σ.length+1+1) 1 v 0 (b.bH.an.length+1) 3) ([.cells 0 [],.cells v (b.bH.an.flatMap bG.enc++[.int .i64 x,.int .i64 y,.int .i64 z])]::S) =
   (.aH (b.bH.an.length+1) (b.bH.an.flatMap bG.enc++[.int .i64 x,.int .i64 y,.int .i64 z]),[.cells 0 [],.dead]::S):=by
  intro v S hS;have:=DW (f:=bG.enc) (w:=3) (fun _=>rfl) (fun _=>by simp[D.clean]) (l:=b.bH.an++[⟨x,y,z⟩]) (j:=1) (v:=v) (bs:=[Abs.aE.cells 0 [],.cells v (b.bH.an.flatMap bG.enc++[.int .i64 x,.int .i64 y,.int .i64 z])]) (σ:=S) (by intro h;subst h;simp at hS) (by simp);rw[hS]at this;simpa using this
 have h24:24≤room:=by unfold room;omega
 have hcw2:(D.aH (b.bH.an.length+1) (b.bH.an.flatMap bG.enc++[.int .i64 x,.int .i64 y,.int .i64 z])).clean=true:=by simpa[D.clean]using hcw
 by_cases hw:b.bH.an=[]
 ·have hfr':=hfr;simp only[hw,bE,dJ,aX,cQ]at hfr' hC;have ht':=eH (f:=Rw.enc) ht;simp only[nl]at ht';simp[-length_flatMap,-map_take,Bk.bw,Bk.cells,c1,c2,ht',hC,hw,nl,cA,hM,H9,vX,hcl,h24,hfr',rf,hrc]
 ·simp[-length_flatMap,-map_take,Bk.bw,Bk.cells,c1,c2,eH ht,eH hw,cA,hM,Kb hw h2,vX,hcl,hroom,hlen,htake,hfr,hC,hcw2,rf,hrc]
end Go.Proofs.YtfgljaglidhjiaaGreatDoor
