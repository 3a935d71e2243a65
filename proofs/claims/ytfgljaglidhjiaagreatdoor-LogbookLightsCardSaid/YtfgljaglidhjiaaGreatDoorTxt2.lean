import Derived.Test.YtfgljaglidhjiaaGreatDoorTxt1
import Derived.Test.YtfgljaglidhjiaaGreatDoorTxt0
import Derived.Test.YtfgljaglidhjiaaGreatDoorBase20
import Derived.Test.YtfgljaglidhjiaaGreatDoorTab
set_option linter.all false
namespace Go.Proofs.YtfgljaglidhjiaaGreatDoor
open List(length_flatMap map_take)
open Go Go.Abs Go.Rock
variable {σ:SK}
theorem Ju{l i v off:Nat}:bx T (.yh fI [.ref l i v off] none σ)=some (.val (.dM []) σ):=by
 refine Cr yW pF.eq_1 rfl (by simp[-length_flatMap,-map_take,rZ];exact⟨rfl,rfl⟩) ?_;simp[-length_flatMap,-map_take]
theorem Wf{F:List Abs.aF}(hF:F=[.cells 0 [.int .i64 0]]):bx T (.yh fI [.ref σ.length 0 0 0] (some (.ud 262 (.agg []))) (F::σ))=some (.val (.dM []) ([.cells 0 [.int .i64 9]]::σ)):=by
 subst hF;refine Cr yW pF.eq_1 rfl (by simp[-length_flatMap,-map_take,rZ];exact⟨rfl,rfl⟩) ?_;simp[-length_flatMap,-map_take]
theorem vL{α:Type}{f:α→Int}:∀{l:List α},di f l=0→∀x∈l,f x=0
 |[],_,x,hx=>by cases hx
 |a::l,h,x,hx=>by
  simp only[di]at h;split at h
  ·rename_i ha;rcases bf.1 hx with rfl | hx
   ·exact ha
   ·exact vL h x hx
  ·rename_i ha;exact absurd h ha
theorem AQ{b:cC}{aw:List (List Int)}(h:uO b aw=0):aw.length≤200∧∀r∈aw,Rv b r:=by
 unfold uO at h;split at h
 ·cases h
 ·exact⟨by omega,fun r hr=>Rv.of (vL h r hr)⟩
def uj(b:cC)(m:cU)(aw:List (List Int)):Int:=if Bd b m then(if uO b aw=0 then(match Rock.run b m aw with | some _=>0 | none=>9)else uO b aw)else 1
def zX(b:cC)(m:cU)(aw:List (List Int)):D:=if uj b m aw=0 then(match Rock.run b m aw with | some (ss,ys) => .agg [.aI ss.length (ss.flatMap yK),.aI ys.length (ys.flatMap yK)] | none => .agg [.aG,.aG])else .agg [.aG,.aG]
theorem Vv{b:cC}{m:cU}{aw:List (List Int)}{wq:D}(hwq:wq.wN=.aI b.ar.length (b.ar.flatMap bJ.enc))(h1:b.cz.length≤1000000000)(h2:b.ar.length≤1000000000)(hn:m.name.length≤1000000000)(hl:m.bu.length≤1000000000)(hp:aw.length≤1000000000)(hs:∀l∈aw,l.length≤1000000000)(hσ:σ≠[]):
  bx T (.call false tf [.agg [.int .i64 b.f.x,.int .i64 b.f.y,.int .i64 b.f.z,.int .i64 b.f.k,.aI b.cz.length (b.cz.flatMap Rw.enc),.int .i64 b.bL,.int .i64 b.lift,.int .i64 b.deep,wq],.agg [.str m.name,.aI m.bu.length (m.bu.flatMap aT)],.aI aw.length (aw.flatMap IL)] σ)=some (.val (.dM [zX b m aw,.int .i64 (uj b m aw)]) σ):=by
 have hP:=fun σ=>VN (σ:=σ) (b:=b) hp hs
 cases hb:Bd b m
 ·have hE:uj b m aw=1:=by simp[uj,hb]
  have hD:zX b m aw=.agg [.aG,.aG]:=by simp[zX,hE]
  rw[hD,hE];refine aA BX sZ.eq_1 rfl ?_;obtain⟨d,hB,hd1,hd2⟩:=Q4 h1 h2 hn hl hb (σ:=[.cells 0 [.int .i64 0]]::σ);simp[-length_flatMap,-map_take,hwq,hB,hd1,cN,bw,bz]
 ·have hB:=fun σ=>aj4 (σ:=σ) h1 h2 hn hl hb
  by_cases hq:uO b aw=0
  ·obtain⟨p1,p2⟩:=AQ hq;simp only[Bd,af]at hb;have hf:Fv b m:=Fv.of (by simp[Bd,hb]);have hb':Bd b m=true:=by simp[Bd,hb]
   refine Oc BX sZ.eq_1 rfl rfl ?_;cases hrun:Rock.run b m aw with
   |none =>
    have hE:uj b m aw=9:=by simp[uj,hb',hq,hrun]
    have hD:zX b m aw=.agg [.aG,.aG]:=by simp[zX,hE]
    have hR:=fun σ=>Q7 (σ:=σ) hf p1 p2 hrun
    have hX:we T (.fn fI [] []) [.ref σ.length 0 0 0] (some (.ud 262 (.agg []))) ([.cells 0 [.int .i64 0]]::σ)=some ([.cells 0 [.int .i64 9]]::σ):=uX (Wf rfl);rw[hD,hE];simp[-length_flatMap,-map_take,Nw,BK,hwq,hB,hP,hq,hR,cN,bw,bz];rw[zD xx.eq_1];simp[-length_flatMap,-map_take,Nw,BK,hX,hR,cN,bw,bz]
   |some p =>
    obtain⟨ss,ys⟩:=p;have hE:uj b m aw=0:=by simp[uj,hb',hq,hrun]
    have hD:zX b m aw=.agg [.aI ss.length (ss.flatMap yK),.aI ys.length (ys.flatMap yK)]:=by simp[zX,hE,hrun]
    have hX:we T (.fn fI [] []) [.ref σ.length 0 0 0] none ([.cells 0 [.int .i64 0]]::σ)=some ([.cells 0 [.int .i64 0]]::σ):=uX Ju;have hR:=fun σ hσ=>Q8 (σ:=σ) hf p1 p2 hσ hrun
    rw[hD,hE];simp[-length_flatMap,-map_take,Nw,BK,hwq,hB,hP,hq,hR,cN,bw,bz];rw[zD xx.eq_1];simp[-length_flatMap,-map_take,Nw,BK,hX,hR,cN,bw,bz];rw[ju (by simp[D.clean,LA]) (by omega)];exact⟨_,rfl⟩
  ·have hE:uj b m aw=uO b aw:=by simp[uj,hb,hq]
   have hD:zX b m aw=.agg [.aG,.aG]:=by simp[zX,hE,hq]
   rw[hD,hE];refine aA BX sZ.eq_1 rfl ?_;simp[-length_flatMap,-map_take,hwq,hB,hP,hq,cN,bw,bz]
end Go.Proofs.YtfgljaglidhjiaaGreatDoor
namespace Go.Book
open List(length_flatMap map_take)
open Go Go.Abs Go.Rock
def Ff(s:List UInt8):Option Int:=if((sb s).1=0∧CG (sb s).2=s)∧cA (sb s).2 (-999999999) 999999999=true then some (sb s).2 else none
def oE:List (List UInt8)→Option (List Int)
 |[]=>some []
 |s::l=>match Ff s with
  |some n=>(oE l).map (n :: ·)
  |none=>none
structure Wd where
 named:Bool
 least:Int
 step:Int
 k:Nat
def oB:List (List UInt8×Wd):=[
 ([102,105,101,108,100],⟨false,4,0,0⟩),([116,97,98,108,101],⟨false,0,5,1⟩),([98,101,100],⟨false,3,0,2⟩),([119,101,108,108],⟨false,3,0,3⟩),
 ([109,111,100,101,108],⟨true,0,1,4⟩),([108,111,103],⟨true,3,2,5⟩),([114,117,108,101],⟨false,10,0,6⟩),([107,101,101,112],⟨false,3,0,7⟩),
 ([113,117,97,107,101],⟨false,0,4,8⟩),([116,105,99,107],⟨false,0,1,9⟩),([114,101,97,100],⟨false,4,0,10⟩),([117,110,105,116],⟨false,1,2,11⟩),([115,101,108,108],⟨false,4,0,12⟩)]
def Ef(s:List UInt8):List (List UInt8×Wd)→Option Wd
 |[]=>none
 |(k,w)::l=>if s=k then some w else Ef s l
def xR(s:List UInt8):Option Wd:=Ef s oB
theorem C6{s:List UInt8}{w:Wd}:∀{l:List (List UInt8×Wd)},Ef s l=some w→(s,w)∈l
 |[],h=>by cases h
 |(k,v)::l,h=>by
  simp only[Ef]at h;split at h
  ·rename_i e;cases h;subst e;simp
  ·exact List.mem_cons_of_mem _ (C6 h)
theorem GG{s:List UInt8}{w:Wd}(h:xR s=some w):0≤w.least∧w.least≤10∧0≤w.step∧w.step≤5∧w.k<13:=by
 have h1:=C6 h;simp only[oB,bf,an,List.not_mem_nil,or_false]at h1;rcases h1 with⟨_,rfl⟩ | ⟨_,rfl⟩ | ⟨_,rfl⟩ | ⟨_,rfl⟩ | ⟨_,rfl⟩ | ⟨_,rfl⟩ | ⟨_,rfl⟩ | ⟨_,rfl⟩ | ⟨_,rfl⟩ | ⟨_,rfl⟩ | ⟨_,rfl⟩ | ⟨_,rfl⟩ | ⟨_,rfl⟩<;>simp
def Hr(w:Wd)(n:Int):Bool:=decide (n-w.least=0) || (decide (0<n-w.least) && (decide (0<w.step) && decide ((n-w.least).tmod w.step=0)))
def uh(w:Wd)(name:List UInt8)(l:List (List UInt8)):Option (Wd×List UInt8×List Int) :=
 match oE l with
 |some ns=>if Hr w ns.length=true then some (w,name,ns)else none
 |none=>none
def parse(s:List UInt8):Option (Wd×List UInt8×List Int) :=
 match de 32 s with
 |[]=>none
 |a::all=>match xR a with
  |none=>none
  |some w=>if w.named=true then(match all with
   |[]=>none
   |n::r=>uh w n r)else uh w [] all
theorem vh(b:UInt8)(s:List UInt8):de b s≠[]:=by
 cases s with
 |nil=>simp[de]
 |cons c r =>
  simp only[de];split
  ·simp
  ·split<;>simp
theorem AZ(b:UInt8):∀s:List UInt8,(de b s).length≤s.length+1
 |[]=>by simp[de]
 |c::r=>by
  have:=AZ b r;simp only[de];split
  ·simp;omega
  ·split
   ·rename_i h;rw[h]at this;simp at this ⊢;omega
   ·simp
end Go.Book
namespace Go.Proofs.YtfgljaglidhjiaaGreatDoor
open List(length_flatMap map_take)
open Go Go.Abs Go.Rock Go.Book
variable {σ:SK}
theorem Kb{T:yZ}{kp:Bool}{f k:Nat}{args:List D}{σ:SK}{r:R}(hT:T f=none)(hN:T (1000000+f)=some ⟨k,[],.exit 0⟩)(h:HC k args σ=some r):bx T (.call kp f args σ)=some r :=
 hJ (by simp[dw,hT,hN,h])
def rf(e:Int):D:=.ud 311 (.agg [.int .i64 e])
theorem cH{e:Int}:bx T (.call false bd [.bool true,.int .i64 e] σ)=some (.val (.dM []) σ):=by
 refine aA D7 sd.eq_1 rfl ?_;simp[-length_flatMap,-map_take]
theorem dI{e:Int}:bx T (.call false bd [.bool false,.int .i64 e] σ)=some (.fX (rf e) σ):=by
 refine eg D7 sd.eq_1 rfl ?_;simp[-length_flatMap,-map_take,aub,D.clean,rf]
theorem oG:bx T (.call false bX [.int .i64 0] σ)=some (.val (.dM []) σ):=by
 refine aA BV qY.eq_1 rfl ?_;simp[-length_flatMap,-map_take,cH]
theorem pO{e:Int}(h:e≠0):bx T (.call false bX [.int .i64 e] σ)=some (.fX (rf e) σ):=by
 refine eg BV qY.eq_1 rfl ?_;have h':(e == 0)=false:=by simpa using h
 simp[-length_flatMap,-map_take,dI,h',D.clean,rf]
theorem ff{a b c:Int}:bx T (.call false cF [.int .i64 a,.int .i64 b,.int .i64 c] σ)=some (.val (.bool (cA a b c)) σ):=by
 refine aA GM rD.eq_1 rfl ?_;by_cases h:b≤a<;>simp[-length_flatMap,-map_take,h,cA]
theorem PG{n:Int}(h : -9223372036854775808≤n∧n≤9223372036854775807):bx T (.call false eE [.int .i64 n] σ)=some (.val (.str (CG n)) σ) :=
 Kb Jt Jh (by simp[HC,h])
theorem Mk{s:List UInt8}(h:s.length≤1000000):bx T (.call false iF [.str s] σ)=some (.val (.dM [.int .i64 (sb s).2,if(sb s).1=0 then .pg else .ud 477 .undef]) σ) :=
 Kb Js Jg (by simp[HC,h])
theorem CX{s:List UInt8}(h:s.length≤1000000):bx T (.call false gM [.str s,.str [32]] σ)=some (.val (.aI (de 32 s).length ((de 32 s).map .str)) σ) :=
 Kb It Ik (by simp[HC,h])
theorem MJ(s:List UInt8) : -9223372036854775808≤(sb s).2∧(sb s).2≤9223372036854775807:=by
 unfold sb;split
 ·rename_i v h;cases s with
  |nil=>cases h
  |cons c r =>
   simp only[Lib.atoiAll]at h;split at h
   ·cases h
   ·cases h
   ·rename_i u hu;split at h
    ·cases h
    ·split at h
     ·cases h
     ·cases h;dsimp only;split<;>omega
 ·simp
 ·simp only[Lib.atoiSat];split<;>simp
theorem VJ{s:List UInt8}(hl:s.length≤1000000){n:Int}(h:Ff s=some n):bx T (.call false lI [.str s] σ)=some (.val (.int .i64 n) σ):=by
 unfold Ff at h;simp only[aC,ae]at h;obtain⟨⟨⟨h1,h2⟩,h3⟩,rfl⟩:=h;refine aA zB og.eq_1 rfl ?_;simp[-length_flatMap,-map_take,Mk hl,h1,PG (MJ s),h2,sw,ff,h3,cH]
theorem PN{s:List UInt8}(hl:s.length≤1000000)(h:Ff s=none):bx T (.call false lI [.str s] σ)=some (.fX (rf 4) σ):=by
 refine eg zB og.eq_1 rfl ?_;unfold Ff at h;simp only[ite_eq_right_iff,reduceCtorEq,imp_false,not_and]at h;by_cases h1:(sb s).1=0
 ·by_cases h2:CG (sb s).2=s
  ·have h3:cA (sb s).2 (-999999999) 999999999=false:=by simpa using h ⟨h1,h2⟩
   simp[-length_flatMap,-map_take,Mk hl,h1,PG (MJ s),h2,sw,ff,h3,dI,D.clean,rf]
  ·simp[-length_flatMap,-map_take,Mk hl,h1,PG (MJ s),h2,sw,ff,dI,D.clean,rf]
 ·simp[-length_flatMap,-map_take,Mk hl,h1,dI,D.clean,rf]
def LW:List Nat:=[fw,fB,gP,gk,fy,gQ,gg,ga,fA,gi,gf,gj,gh]
def PF(w:Wd):List D:=[.bool w.named,.int .i64 w.least,.int .i64 w.step,.fn ((LW[w.k]?).getD 0) [] []]
def jI(l:List (List UInt8×Wd)):List D:=l.map fun p => .dM [.str p.1,.agg (PF p.2)]
theorem J2{s:List UInt8}:∀{l:List (List UInt8×Wd)},Ef s l=none→re none (.str s) (jI l)=some none
 |[],_=>rfl
 |(k,w)::l,h=>by
  simp only[Ef]at h;split at h
  ·cases h
  ·rename_i hk;have hb:(s == k)=false:=by simpa using hk
   have:=J2 h;simp only[jI,aQ,re,sU,hb]at this ⊢;rw[this];rfl
theorem LG{s:List UInt8}{w:Wd}:∀{l:List (List UInt8×Wd)},Ef s l=some w→∃j,re none (.str s) (jI l)=some (some (j,.agg (PF w)))
 |[],h=>by cases h
 |(k,v)::l,h=>by
  simp only[Ef]at h;split at h
  ·rename_i hk;cases h;subst hk;exact⟨0,by simp[jI,re,sU]⟩
  ·rename_i hk;have hb:(s == k)=false:=by simpa using hk
   obtain⟨j,hj⟩:=LG h;exact⟨j+1,by
    simp only[jI,aQ,re,sU,hb]at hj ⊢;rw[hj];rfl⟩
theorem aBu{S:SK}{l i:Nat}{pre:List (List UInt8×Wd)}{k:List UInt8}{w:Wd}(h:cells? S l i 0=some (jI pre))(hn:Ef k pre=none)(hl:l+1=S.length):
  BO S (.put none) [.mB l i,.str k,.agg (PF w)]=some (.undef,aW S l i (.cells 0 (jI (pre++[(k,w)])))):=by
 have h1:=J2 hn;simp only[BO,BN,h,aU,h1];simp[sU,hl,jI]
theorem UF{S:SK}{l i:Nat}{s:List UInt8}(h:cells? S l i 0=some (jI oB)):
  BO S (.get none (.agg [.bool false,.int .i64 0,.int .i64 0,.iS]) true) [.mB l i,.str s] =
   some (match xR s with | some w => .dM [.agg (PF w),.bool true] | none => .dM [.agg [.bool false,.int .i64 0,.int .i64 0,.iS],.bool false],S):=by
 simp only[BO,BN,h,aU];cases hw:xR s with
 |none=>rw[J2 hw];simp[sU]
 |some w=>obtain⟨j,hj⟩:=LG hw;rw[hj];simp[sU]
theorem CZ{bs:List Abs.aF}:bx T (.call true pz [] (bs::σ))=some (.val (.mB σ.length bs.length) ((bs++[.cells 0 (jI oB)])::σ)):=by
 refine wO Io sD.eq_1 rfl ?_;have hm:BO (bs::σ) .make []=some (.mB σ.length bs.length,(bs++[.cells 0 []])::σ):=by simp[BO]
 have hp:∀(pre:List (List UInt8×Wd)) (k:List UInt8) (w:Wd),Ef k pre=none→BO ((bs++[.cells 0 (jI pre)])::σ) (.put none) [.mB σ.length bs.length,.str k,.agg (PF w)]=some (.undef,(bs++[.cells 0 (jI (pre++[(k,w)]))])::σ):=by
  intro pre k w hn;have h1:cells? ((bs++[.cells 0 (jI pre)])::σ) σ.length bs.length 0=some (jI pre):=by simp
  have h2:σ.length+1=((bs++[Abs.aF.cells 0 (jI pre)])::σ).length:=by simp
  have h3:=aBu (w:=w) h1 hn h2;refine h3.trans ?_;simp
 have p:=fun(j:Nat) (hj:j<13)=>hp (oB.take j) ((oB[j]?).getD ([],⟨false,0,0,0⟩)).1 ((oB[j]?).getD ([],⟨false,0,0,0⟩)).2
 have p0:=p 0 (by omega) (by decide);have p1:=p 1 (by omega) (by decide);have p2:=p 2 (by omega) (by decide);have p3:=p 3 (by omega) (by decide);have p4:=p 4 (by omega) (by decide);have p5:=p 5 (by omega) (by decide);have p6:=p 6 (by omega) (by decide);have p7:=p 7 (by omega) (by decide);have p8:=p 8 (by omega) (by decide);have p9:=p 9 (by omega) (by decide);have p10:=p 10 (by omega) (by decide);have p11:=p 11 (by omega) (by decide);have p12:=p 12 (by omega) (by decide);simp[oB,jI,PF,LW]at p0 p1 p2 p3 p4 p5 p6 p7 p8 p9 p10 p11 p12;simp[-length_flatMap,-map_take,hm,p0,p1,p2,p3,p4,p5,p6,p7,p8,p9,p10,p11,p12,oB,jI,PF,LW]
@[simp] def eA(s:List UInt8):List D:=[.str s]
def TE(cs:List D)(name:List UInt8)(M:Abs.aF)(σ:SK)(acc:List Int)(r:Option (List Int))(x:Abs.Exit)(e:Env)(σ':SK):Prop:=match r with
 |some ns=>x=.exit 0∧get e 2=.own 0 cs∧get e 3=.str name∧get e 4=.sl σ.length 0 (acc++ns).length 0 (acc++ns).length 1∧σ'=[.cells (acc++ns).length ((acc++ns).flatMap aT),M]::σ
 |none=>x=.fX (rf 4)∧∃bA,σ'=bA::σ
theorem Jf{all:List (List UInt8)}(hs:∀s∈all,s.length≤1000000)(hl:all.length≤1000001){cs:List D}{name:List UInt8}{M:Abs.aF}:∀(k i:Nat) (acc:List Int),i+k=all.length→acc.length=i →
  WL T [2,3,4,35,36,37] false mU [(2,.own 0 cs),(3,.str name),(4,.sl σ.length 0 i 0 i 1),(35,.aI all.length (all.flatMap eA)),(36,.int .i64 all.length),(37,.int .i64 i)]
   ([.cells i (acc.flatMap aT),M]::σ) (TE cs name M σ acc (oE (all.drop i)))
 |0,i,acc,hi,ha=>by
  refine aO mU.eq_1 ?_;obtain rfl:i=all.length:=by omega
  have h5:all.drop all.length=[]:=aB (by omega);simp[-length_flatMap,-map_take,h5,oE,TE,ha]
 |k+1,i,acc,hi,ha=>by
  refine aO mU.eq_1 ?_;have hlt:i<all.length:=by omega
  have hii:(i:Int)<i+1:=by omega
  obtain⟨s,hx⟩:=gE hlt;have h4:=gq hlt (by omega);have h5:=cM hx;have a1:=bS (f:=eA) (w:=1) (fun _=>rfl) hx;simp only[eA,dL]at a1;have hsl:=hs s (aj hx);rw[h5];simp only[oE];have hr:(i+1)*8≤room:=by unfold room;omega
  cases hn:Ff s with
  |none =>
   simp[-length_flatMap,-map_take,hlt,a1,PN hsl hn,TE]
  |some n =>
   have hc:(acc.flatMap aT).length=i:=by simp[cm (f:=aT) (w:=1) (fun _=>rfl),ha]
   have ht:(acc.flatMap aT).take i=acc.flatMap aT:=ak (by omega);simp[-length_flatMap,-map_take,hlt,a1,VJ hsl hn,hr,h4,hc,ht];refine WL.to (Jf (cs:=cs) (name:=name) (M:=M) hs hl k (i+1) (acc++[n]) (by omega) (by simp[ha])) (by simp) (by simp) fun x e σ' hh=>?_
   cases hm:oE (all.drop (i+1))with
   |none=>rw[hm]at hh;exact hh
   |some ns=>rw[hm]at hh;simpa[TE]using hh
theorem zW:∀{l:List (List UInt8)} {ns:List Int},oE l=some ns→ns.length=l.length
 |[],ns,h=>by simp only[oE,ae]at h;subst h;rfl
 |s::l,ns,h=>by
  simp only[oE]at h;split at h
  ·rename_i n hn;simp only[ad]at h;obtain⟨m,h1,rfl⟩:=h;simp[zW h1]
  ·cases h
theorem iJ(w:Wd):PF w=[.bool w.named,.int .i64 w.least,.int .i64 w.step,.fn ((LW[w.k]?).getD 0) [] []]:=rfl
theorem Dm(l:List (List UInt8)):l.map D.str=l.flatMap eA:=by induction l with | nil=>rfl | cons s l ih=>simp[ih]
theorem NN{s:List UInt8}(hl:s.length≤1000000){a:List UInt8}{all:List (List UInt8)}(h:de 32 s=a::all)(hw:xR a=none):bx T (.call false dn [.str s] σ)=some (.fX (rf 4) σ):=by
 refine eg lG fN.eq_1 rfl ?_;have hW:=CZ (bs:=[.cells 0 []]) (σ:=σ);have hG:=UF (S:=[Abs.aF.cells 0 [],.cells 0 (jI oB)]::σ) (l:=σ.length) (i:=1) (s:=a) (by simp);rw[hw]at hG;simp[-length_flatMap,-map_take,CX hl,h,hW,hG,dI,D.clean,rf]
def yG(p:Wd×List UInt8×List Int):D:=.dM [.agg (PF p.1),.str p.2.1,.aI p.2.2.length (p.2.2.flatMap aT)]
theorem I0{a:List D}(ha:D.bC a=true){name:List UInt8}{v:Nat}{ns:List Int}{M:Abs.aF}(hσ:σ≠[]):
  cG (σ.length-1) 16 (.dM [.agg a,.str name,.sl σ.length 0 v 0 ns.length 1]) ([.cells v (ns.flatMap aT),M]::σ)=(.dM [.agg a,.str name,.aI ns.length (ns.flatMap aT)],[.dead,M]::σ):=by
 have h3:¬σ.length≤σ.length-1:=by have:=aN.2 hσ;omega
 rw[Da (by simp[D.bC,D.clean]) (by omega)];have h4:=ju (l:=σ.length-1) (n:=15) (d:=.agg a) (σ:=[Abs.aF.cells v (ns.flatMap aT),M]::σ) (by simp[D.clean,ha]) (by omega);have h5:=ju (l:=σ.length-1) (n:=15) (d:=.str name) (σ:=[Abs.aF.cells v (ns.flatMap aT),M]::σ) (by simp[D.clean]) (by omega);have h6:=E7 (l:=σ.length-1) (n:=15) (l':=σ.length) (i:=0) (v:=v) (off:=0) (m:=ns.length) (w:=1) (σ:=[Abs.aF.cells v (ns.flatMap aT),M]::σ) (cs:=ns.flatMap aT) h3 (by simp) (by omega);have ht:(ns.flatMap aT).take ns.length=ns.flatMap aT:=by have:=M1 (f:=aT) (w:=1) (fun _=>rfl) ns;rwa[dL]at this
 simp only[Nat.reduceSub,cG.frzL,h4,h5,h6];simp[ht,ia (f:=aT) (fun _=>by simp[D.clean]) ns]
theorem T9{s:List UInt8}(hl:s.length≤1000000){a:List UInt8}{all:List (List UInt8)}(h:de 32 s=a::all)(hs:∀x∈all,x.length≤1000000)(hl2:all.length≤1000001){w:Wd}(hw:xR a=some w)(hn:w.named=false)(hσ:σ≠[]){p:Wd×List UInt8×List Int}(hp:uh w [] all=some p):
  bx T (.call false dn [.str s] σ)=some (.val (yG p) σ):=by
 refine aA lG fN.eq_1 rfl ?_;have hW:=CZ (bs:=[.cells 0 []]) (σ:=σ);have hG:=UF (S:=[Abs.aF.cells 0 [],.cells 0 (jI oB)]::σ) (l:=σ.length) (i:=1) (s:=a) (by simp);rw[hw]at hG;obtain⟨w1,w2,w3,w4,w5⟩:=GG hw;have hL:=Jf (σ:=σ) (cs:=PF w) (name:=[]) (M:=.cells 0 (jI oB)) hs hl2 all.length 0 [] (by omega) rfl;unfold uh at hp;cases hm:oE all with
 |none=>rw[hm]at hp;cases hp
 |some ns =>
 rw[hm]at hp;simp only[aC,ae]at hp;obtain⟨hf,rfl⟩:=hp;have hlen:=zW hm;simp only[Hr,cb,af,au]at hf;have e1:IntKind.i64.wrap ((ns.length:Int)-w.least)=ns.length-w.least:=fT (by omega);rw[aP,hm]at hL;have q1:(1:Int)≤(all.length:Int)+1:=by omega
 have q2:(all.flatMap eA).take all.length=all.flatMap eA:=ak (by rw[cm (f:=eA) (w:=1) (fun _=>rfl)];omega);simp[-length_flatMap,-map_take,CX hl,h,hW,hG,cH,iJ,hn,Dm,q1,q2];refine WL.to hL (by simp[iJ,hn]) (by simp) ?_;rintro x e σ' ⟨rfl,g2,g3,g4,rfl⟩;have hz:D.bC (PF w)=true:=by simp[PF,D.clean]
 rcases hf with c1 | ⟨c1,c2,c3⟩
 ·simp[-length_flatMap,-map_take,g2,g3,g4,iJ,e1,c1,cH,yG];exact⟨_,I0 (by simp[D.clean]) hσ⟩
 ·have c0:¬(ns.length:Int)-w.least=0:=by omega
  have c4:¬w.step=0:=by omega
  have c5:w.least<(ns.length:Int):=by omega
  simp[-length_flatMap,-map_take,g2,g3,g4,iJ,e1,c0,c5,c2,c3,c4,cH,yG];exact⟨_,I0 (by simp[D.clean]) hσ⟩
theorem NL{s:List UInt8}(hl:s.length≤1000000){a:List UInt8}{all:List (List UInt8)}(h:de 32 s=a::all)(hs:∀x∈all,x.length≤1000000)(hl2:all.length≤1000001){w:Wd}(hw:xR a=some w)(hn:w.named=false)(hp:uh w [] all=none):
  bx T (.call false dn [.str s] σ)=some (.fX (rf 4) σ):=by
 refine eg lG fN.eq_1 rfl ?_;have hW:=CZ (bs:=[.cells 0 []]) (σ:=σ);have hG:=UF (S:=[Abs.aF.cells 0 [],.cells 0 (jI oB)]::σ) (l:=σ.length) (i:=1) (s:=a) (by simp);rw[hw]at hG;obtain⟨w1,w2,w3,w4,w5⟩:=GG hw;have hL:=Jf (σ:=σ) (cs:=PF w) (name:=[]) (M:=.cells 0 (jI oB)) hs hl2 all.length 0 [] (by omega) rfl;have q1:(1:Int)≤(all.length:Int)+1:=by omega
 have q2:(all.flatMap eA).take all.length=all.flatMap eA:=ak (by rw[cm (f:=eA) (w:=1) (fun _=>rfl)];omega);rw[aP]at hL;simp[-length_flatMap,-map_take,CX hl,h,hW,hG,cH,iJ,hn,Dm,q1,q2];refine WL.to hL (by simp[iJ,hn]) (by simp) ?_;unfold uh at hp;cases hm:oE all with
 |none =>
  rintro x e σ' ⟨rfl,bA,rfl⟩;simp[D.clean,rf]
 |some ns =>
 rw[hm]at hp;simp only[ite_eq_right_iff,reduceCtorEq,imp_false]at hp;rintro x e σ' ⟨rfl,g2,g3,g4,rfl⟩;have hlen:=zW hm;have e1:IntKind.i64.wrap ((ns.length:Int)-w.least)=ns.length-w.least:=fT (by omega);simp only[Hr,cb,af,au]at hp;have c0:¬(ns.length:Int)-w.least=0:=fun hh=>hp (.inl hh)
 by_cases c1:w.least<(ns.length:Int)
 ·by_cases c2:0<w.step
  ·have c3:¬((ns.length:Int)-w.least).tmod w.step=0:=fun hh=>hp (.inr ⟨by omega,c2,hh⟩)
   have c4:¬w.step=0:=by omega
   have c3':(((ns.length:Int)-w.least).tmod w.step == 0)=false:=by simpa using c3
   have c0':((ns.length:Int)-w.least == 0)=false:=by simpa using c0
   simp[-length_flatMap,-map_take,g2,g3,g4,iJ,e1,c0',c1,c2,c3',c4,dI,D.clean,rf]
  ·simp[-length_flatMap,-map_take,g2,g3,g4,iJ,e1,c0,c1,c2,dI,D.clean,rf]
 ·simp[-length_flatMap,-map_take,g2,g3,g4,iJ,e1,c0,c1,dI,D.clean,rf]
theorem PO{s:List UInt8}(hl:s.length≤1000000){a:List UInt8}(h:de 32 s=[a]){w:Wd}(hw:xR a=some w)(hn:w.named=true):
  bx T (.call false dn [.str s] σ)=some (.fX (rf 4) σ):=by
 refine eg lG fN.eq_1 rfl ?_;have hW:=CZ (bs:=[.cells 0 []]) (σ:=σ);have hG:=UF (S:=[Abs.aF.cells 0 [],.cells 0 (jI oB)]::σ) (l:=σ.length) (i:=1) (s:=a) (by simp);rw[hw]at hG;obtain⟨w1,w2,w3,w4,w5⟩:=GG hw;simp[-length_flatMap,-map_take,CX hl,h,hW,hG,cH,dI,iJ,hn,D.clean,rf]
theorem Ua{s:List UInt8}(hl:s.length≤1000000){a n:List UInt8}{r:List (List UInt8)}(h:de 32 s=a::n::r)(hs:∀x∈r,x.length≤1000000)(hl2:r.length≤1000001){w:Wd}(hw:xR a=some w)(hn:w.named=true)(hσ:σ≠[]){p:Wd×List UInt8×List Int}(hp:uh w n r=some p):
  bx T (.call false dn [.str s] σ)=some (.val (yG p) σ):=by
 refine aA lG fN.eq_1 rfl ?_;have hW:=CZ (bs:=[.cells 0 []]) (σ:=σ);have hG:=UF (S:=[Abs.aF.cells 0 [],.cells 0 (jI oB)]::σ) (l:=σ.length) (i:=1) (s:=a) (by simp);rw[hw]at hG;obtain⟨w1,w2,w3,w4,w5⟩:=GG hw;have hL:=Jf (σ:=σ) (cs:=PF w) (name:=n) (M:=.cells 0 (jI oB)) hs hl2 r.length 0 [] (by omega) rfl;have q1:(1:Int)≤(r.length:Int)+1:=by omega
 have q2:(r.flatMap eA).take r.length=r.flatMap eA:=ak (by rw[cm (f:=eA) (w:=1) (fun _=>rfl)];omega);have q3:(1:Int)≤(r.length:Int)+1+1:=by omega
 have q4:(0:Int)<(r.length:Int)+1:=by omega
 have q6:(0:Int)<(r.length:Int)+1+1:=by omega
 have q5:(r.flatMap eA).take (r.length+1)=r.flatMap eA:=ak (by rw[cm (f:=eA) (w:=1) (fun _=>rfl)];omega);unfold uh at hp;cases hm:oE r with
 |none=>rw[hm]at hp;cases hp
 |some ns =>
 rw[hm]at hp;simp only[aC,ae]at hp;obtain⟨hf,rfl⟩:=hp;have hlen:=zW hm;simp only[Hr,cb,af,au]at hf;have e1:IntKind.i64.wrap ((ns.length:Int)-w.least)=ns.length-w.least:=fT (by omega);rw[aP,hm]at hL;simp[-length_flatMap,-map_take,CX hl,h,hW,hG,cH,iJ,hn,Dm,q1,q2,q3,q4,q5,q6];refine WL.to hL (by simp[iJ,hn]) (by simp) ?_;rintro x e σ' ⟨rfl,g2,g3,g4,rfl⟩;rcases hf with c1 | ⟨c1,c2,c3⟩
 ·simp[-length_flatMap,-map_take,g2,g3,g4,iJ,e1,c1,cH,yG];exact⟨_,I0 (by simp[D.clean]) hσ⟩
 ·have c0:¬(ns.length:Int)-w.least=0:=by omega
  have c4:¬w.step=0:=by omega
  have c5:w.least<(ns.length:Int):=by omega
  simp[-length_flatMap,-map_take,g2,g3,g4,iJ,e1,c0,c5,c2,c3,c4,cH,yG];exact⟨_,I0 (by simp[D.clean]) hσ⟩
theorem NM{s:List UInt8}(hl:s.length≤1000000){a n:List UInt8}{r:List (List UInt8)}(h:de 32 s=a::n::r)(hs:∀x∈r,x.length≤1000000)(hl2:r.length≤1000001){w:Wd}(hw:xR a=some w)(hn:w.named=true)(hp:uh w n r=none):
  bx T (.call false dn [.str s] σ)=some (.fX (rf 4) σ):=by
 refine eg lG fN.eq_1 rfl ?_;have hW:=CZ (bs:=[.cells 0 []]) (σ:=σ);have hG:=UF (S:=[Abs.aF.cells 0 [],.cells 0 (jI oB)]::σ) (l:=σ.length) (i:=1) (s:=a) (by simp);rw[hw]at hG;obtain⟨w1,w2,w3,w4,w5⟩:=GG hw;have hL:=Jf (σ:=σ) (cs:=PF w) (name:=n) (M:=.cells 0 (jI oB)) hs hl2 r.length 0 [] (by omega) rfl;have q1:(1:Int)≤(r.length:Int)+1:=by omega
 have q2:(r.flatMap eA).take r.length=r.flatMap eA:=ak (by rw[cm (f:=eA) (w:=1) (fun _=>rfl)];omega);have q3:(1:Int)≤(r.length:Int)+1+1:=by omega
 have q4:(0:Int)<(r.length:Int)+1:=by omega
 have q6:(0:Int)<(r.length:Int)+1+1:=by omega
 have q5:(r.flatMap eA).take (r.length+1)=r.flatMap eA:=ak (by rw[cm (f:=eA) (w:=1) (fun _=>rfl)];omega);rw[aP]at hL;simp[-length_flatMap,-map_take,CX hl,h,hW,hG,cH,iJ,hn,Dm,q1,q2,q3,q4,q5,q6];refine WL.to hL (by simp[iJ,hn]) (by simp) ?_;unfold uh at hp;cases hm:oE r with
 |none =>
  rintro x e σ' ⟨rfl,bA,rfl⟩;simp[D.clean,rf]
 |some ns =>
 rw[hm]at hp;simp only[ite_eq_right_iff,reduceCtorEq,imp_false]at hp;rintro x e σ' ⟨rfl,g2,g3,g4,rfl⟩;have hlen:=zW hm;have e1:IntKind.i64.wrap ((ns.length:Int)-w.least)=ns.length-w.least:=fT (by omega);simp only[Hr,cb,af,au]at hp;have c0:¬(ns.length:Int)-w.least=0:=fun hh=>hp (.inl hh)
 by_cases c1:w.least<(ns.length:Int)
 ·by_cases c2:0<w.step
  ·have c3:¬((ns.length:Int)-w.least).tmod w.step=0:=fun hh=>hp (.inr ⟨by omega,c2,hh⟩)
   have c4:¬w.step=0:=by omega
   have c3':(((ns.length:Int)-w.least).tmod w.step == 0)=false:=by simpa using c3
   have c0':((ns.length:Int)-w.least == 0)=false:=by simpa using c0
   simp[-length_flatMap,-map_take,g2,g3,g4,iJ,e1,c0',c1,c2,c3',c4,dI,D.clean,rf]
  ·simp[-length_flatMap,-map_take,g2,g3,g4,iJ,e1,c0,c1,c2,dI,D.clean,rf]
 ·simp[-length_flatMap,-map_take,g2,g3,g4,iJ,e1,c0,c1,dI,D.clean,rf]
theorem GA(b:UInt8):∀(s:List UInt8),∀x∈de b s,x.length≤s.length
 |[],x,hx=>by simp[de]at hx;simp[hx]
 |c::r,x,hx=>by
  have ih:=GA b r;simp only[de]at hx;split at hx
  ·rcases bf.1 hx with rfl | hx
   ·simp
   ·have:=ih x hx;simp;omega
  ·split at hx
   ·rename_i y l hyl;rcases bf.1 hx with rfl | hx
    ·have:=ih y (by rw[hyl];simp);simp;omega
    ·have:=ih x (by rw[hyl];simp[hx]);simp;omega
   ·rename_i hyl;exact absurd hyl (vh b r)
theorem VM{s:List UInt8}(hl:s.length≤1000000)(hσ:σ≠[]){p:Wd×List UInt8×List Int}(hp:parse s=some p):bx T (.call false dn [.str s] σ)=some (.val (yG p) σ):=by
 unfold parse at hp;have hlen:=AZ 32 s;have hle:=GA 32 s;cases h:de 32 s with
 |nil=>exact absurd h (vh 32 s)
 |cons a all =>
 rw[h]at hp hlen hle;simp only[aL]at hlen;dsimp only at hp;cases hw:xR a with
 |none=>rw[hw]at hp;cases hp
 |some w =>
 rw[hw]at hp;dsimp only at hp;cases hn:w.named with
 |false =>
  rw[hn]at hp;exact T9 hl h (fun x hx=>by have:=hle x (by simp[hx]);omega) (by omega) hw hn hσ (by simpa using hp)
 |true =>
  rw[hn]at hp;simp only[if_true]at hp;cases all with
  |nil=>cases hp
  |cons n r=>exact Ua hl h (fun x hx=>by have:=hle x (by simp[hx]);omega) (by simp at hlen;omega) hw hn hσ hp
theorem PQ{s:List UInt8}(hl:s.length≤1000000)(hp:parse s=none):bx T (.call false dn [.str s] σ)=some (.fX (rf 4) σ):=by
 unfold parse at hp;have hlen:=AZ 32 s;have hle:=GA 32 s;cases h:de 32 s with
 |nil=>exact absurd h (vh 32 s)
 |cons a all =>
 rw[h]at hp hlen hle;simp only[aL]at hlen;dsimp only at hp;cases hw:xR a with
 |none=>exact NN hl h hw
 |some w =>
 rw[hw]at hp;dsimp only at hp;cases hn:w.named with
 |false =>
  rw[hn]at hp;exact NL hl h (fun x hx=>by have:=hle x (by simp[hx]);omega) (by omega) hw hn (by simpa using hp)
 |true =>
  rw[hn]at hp;simp only[if_true]at hp;cases all with
  |nil=>exact PO hl h hw hn
  |cons n r=>exact NM hl h (fun x hx=>by have:=hle x (by simp[hx]);omega) (by simp at hlen;omega) hw hn hp
end Go.Proofs.YtfgljaglidhjiaaGreatDoor
namespace Go.Trem
open List(length_flatMap map_take)
open Go Go.Abs
structure Pt where
 x:Int
 y:Int
 z:Int
 deriving DecidableEq
structure Rg where
 lo:Int
 hi:Int
 deriving DecidableEq
structure PZ where
 p:Pt
 err:Int
structure Net where
 st:List PZ
 s0:Rg
 s1:Rg
 low:Pt
 high:Pt
 step:Int
structure GK where
 st:Int
 ph:Int
 t:Rg
structure Plc where
 p:Pt
 o:Rg
 deriving DecidableEq
structure yP where
 far:Int
 add:Int
structure Jj where
 levels:List Int
 rows:List yP
structure Ad where
 st:Int
 amt:Int
structure awa where
 fst:Int
 thn:Int
structure Bet where
 num:Int
 den:Int
 a:Int
 b:Int
 at5:Int
@[simp] theorem Pt.eta(p:Pt):Pt.mk p.x p.y p.z=p:=rfl
@[simp] theorem Rg.eta(p:Rg):Rg.mk p.lo p.hi=p:=rfl
@[simp] theorem PZ.eta(p:PZ):PZ.mk p.p p.err=p:=rfl
@[simp] theorem Net.eta(p:Net):Net.mk p.st p.s0 p.s1 p.low p.high p.step=p:=rfl
@[simp] theorem GK.eta(p:GK):GK.mk p.st p.ph p.t=p:=rfl
@[simp] theorem Jj.eta(p:Jj):Jj.mk p.levels p.rows=p:=rfl
@[simp] theorem Ad.eta(p:Ad):Ad.mk p.st p.amt=p:=rfl
@[simp] theorem yP.eta(p:yP):yP.mk p.far p.add=p:=rfl
@[simp] theorem Bet.eta(p:Bet):Bet.mk p.num p.den p.a p.b p.at5=p:=rfl
@[simp] def Pt.enc(p:Pt):List D:=[.int .i64 p.x,.int .i64 p.y,.int .i64 p.z]
@[simp] def Rg.enc(r:Rg):List D:=[.int .i64 r.lo,.int .i64 r.hi]
@[simp] def PZ.enc(s:PZ):List D:=[.int .i64 s.p.x,.int .i64 s.p.y,.int .i64 s.p.z,.int .i64 s.err]
@[simp] def GK.enc(p:GK):List D:=[.int .i64 p.st,.int .u8 p.ph,.int .i64 p.t.lo,.int .i64 p.t.hi]
@[simp] def Plc.enc(p:Plc):List D:=[.int .i64 p.p.x,.int .i64 p.p.y,.int .i64 p.p.z,.int .i64 p.o.lo,.int .i64 p.o.hi]
@[simp] def yP.enc(p:yP):List D:=[.int .i64 p.far,.int .i64 p.add]
@[simp] def Ad.enc(p:Ad):List D:=[.int .i64 p.st,.int .i64 p.amt]
@[simp] def awa.enc(p:awa):List D:=[.int .i64 p.fst,.int .i64 p.thn]
@[simp] def Bet.enc(b:Bet):List D:=[.int .i64 b.num,.int .i64 b.den,.int .i64 b.a,.int .i64 b.b,.int .i64 b.at5]
@[simp] def aT(n:Int):List D:=[.int .i64 n]
@[simp] def tF(n:Bool):List D:=[.bool n]
@[simp] def Net.enc(n:Net):List D:=[.aI n.st.length (n.st.flatMap PZ.enc),.int .i64 n.s0.lo,.int .i64 n.s0.hi,.int .i64 n.s1.lo,.int .i64 n.s1.hi,
 .int .i64 n.low.x,.int .i64 n.low.y,.int .i64 n.low.z,.int .i64 n.high.x,.int .i64 n.high.y,.int .i64 n.high.z,.int .i64 n.step]
@[simp] def Jj.enc(s:Jj):List D:=[.aI s.levels.length (s.levels.flatMap aT),.aI s.rows.length (s.rows.flatMap yP.enc)]
def cA(n lo hi:Int):Bool:=decide (lo≤n) && decide (n≤hi)
theorem ba{n lo hi:Int}:cA n lo hi=true↔lo≤n∧n≤hi:=by simp[cA]
def Pt.ok(p:Pt):Bool:=cA p.x (-20000) 20000 && (cA p.y (-20000) 20000 && cA p.z (-20000) 20000)
def Cq(a b:Pt):Bool:=a.ok && (b.ok && (decide (a.x≤b.x) && (decide (a.y≤b.y) && decide (a.z≤b.z))))
def PZ.ok(s:PZ):Bool:=s.p.ok && cA s.err 0 1000
def Rg.cA(r:Rg)(lo hi:Int):Bool:=decide (lo≤r.lo) && (decide (r.lo≤r.hi) && decide (r.hi≤hi))
def steps(n:Net)(lo hi:Int):Int:=(hi-lo).tdiv n.step+1
def Net.pre(n:Net):Bool:=Trem.cA n.st.length 1 12 && (fV n.st PZ.ok && (Cq n.low n.high && (Trem.cA n.step 1 20000 && (n.s0.cA 1 2000 && n.s1.cA 1 2000))))
def Net.count(n:Net):Int:=steps n n.low.x n.high.x*steps n n.low.y n.high.y*steps n n.low.z n.high.z
def Net.ok(n:Net):Bool:=n.pre && decide (n.count≤2000)
theorem Pt.M6{p:Pt}:p.ok=true↔(-20000≤p.x∧p.x≤20000)∧(-20000≤p.y∧p.y≤20000)∧(-20000≤p.z∧p.z≤20000):=by
 simp only[Pt.ok,af,ba]
def bsr:Nat→Int→Int→Int→Int
 |0,_,lo,_=>lo
 |f+1,n,lo,hi=>if lo<hi then(if((lo+hi+1) / 2)*((lo+hi+1) / 2)≤n then bsr f n ((lo+hi+1) / 2) hi else bsr f n lo ((lo+hi+1) / 2-1))else lo
def sq(p q:Pt):Int:=(p.x-q.x)*(p.x-q.x)+(p.y-q.y)*(p.y-q.y)+(p.z-q.z)*(p.z-q.z)
def awz(p q:Pt):Int:=bsr 17 (sq p q) 0 70000
def prog(lo hi st:Int):List Int:=(List.range ((hi-lo) / st+1).toNat).map fun(i:Nat)=>lo+i*st
def zs(n:Net)(x y:Int)(z:Int):List Pt:=(prog z n.high.z n.step).map fun z=>⟨x,y,z⟩
def ys(n:Net)(x:Int)(y:Int):List Pt:=(prog y n.high.y n.step).flatMap fun y=>zs n x y n.low.z
def xs(n:Net)(x:Int):List Pt:=(prog x n.high.x n.step).flatMap fun x=>ys n x n.low.y
def ajg(n:Net):List Pt:=xs n n.low.x
def Net.stn(n:Net)(i:Int):PZ:=n.st.getD i.toNat ⟨⟨0,0,0⟩,0⟩
def Net.QM(n:Net)(ph:Int):Rg:=if ph=0 then n.s0 else n.s1
def ah2(n:Net)(i ph:Int)(p:Pt):Rg:=⟨(n.QM ph).lo*awz (n.stn i).p p / 1000,((n.QM ph).hi*(awz (n.stn i).p p+1)+999) / 1000⟩
def GK.ok(n:Net)(p:GK):Bool:=Trem.cA p.st 0 (n.st.length-1) && (decide (p.ph<2) && p.t.cA (-100000000) 100000000)
def span(n:Net)(p:GK)(q:Pt):Rg:=⟨p.t.lo-(n.stn p.st).err-(ah2 n p.st p.ph q).hi,p.t.hi+(n.stn p.st).err-(ah2 n p.st p.ph q).lo⟩
def meet(a b:Rg):Rg:=⟨max a.lo b.lo,min a.hi b.hi⟩
def common:List Rg→Rg
 |[]=>⟨0,0⟩
 |r::l=>l.foldl meet r
def Rg.ne(r:Rg):Bool:=decide (r.lo≤r.hi)
end Go.Trem
namespace Go.Proofs.YtfgljaglidhjiaaGreatDoor
open List(length_flatMap map_take)
open Go Go.Abs Go.Trem
variable {σ:SK}
theorem fq{a b c:Int}:bx T (.call false cn [.int .i64 a,.int .i64 b,.int .i64 c] σ)=some (.val (.bool (cA a b c)) σ):=by
 refine aA Iv sJ.eq_1 rfl ?_;by_cases h:b≤a<;>simp[-length_flatMap,-map_take,h,cA]
theorem av4{a:Int}:bx T (.call false ez [.int .i64 a] σ)=some (.val (.bool (cA a (-20000) 20000)) σ):=by
 refine aA Al lr.eq_1 rfl ?_;simp[-length_flatMap,-map_take,fq]
theorem T4{l:List Int}(hl:l.length≤9223372036854775807){fv:D}{p:Int→Bool}(ht:pP T fv (.int .i64) p l)(hc:fv.cells=some [fv]):
  bx T (.call false gZ [.aI l.length (l.flatMap aT),fv] σ)=some (.val (.bool (fV l p)) σ) :=
 Ax (MT .i64) GW EF xV Aj hl ht hc
theorem xb{x y z:Int}:bx T (.call false fG [.agg [.int .i64 x,.int .i64 y,.int .i64 z]] σ)=some (.val (.bool (Pt.ok ⟨x,y,z⟩)) σ):=by
 refine aA B5 ng.eq_1 rfl ?_;have h:∀σ,bx T (.call false gZ [.aI 3 [.int .i64 x,.int .i64 y,.int .i64 z],.fn ez [] []] σ)=some (.val (.bool (Pt.ok ⟨x,y,z⟩)) σ):=fun σ=>by
  have:=T4 (σ:=σ) (l:=[x,y,z]) (by simp) (fv:=.fn ez [] []) (p:=fun a=>cA a (-20000) 20000) (.fn fun a _ σ=>av4) rfl;simpa[Pt.ok,Bool.and_assoc,fV]using this
 simp[-length_flatMap,-map_take,h]
theorem Lp{x y z a b c:Int}:bx T (.call false uc [.agg [.int .i64 x,.int .i64 y,.int .i64 z],.agg [.int .i64 a,.int .i64 b,.int .i64 c]] σ)=some (.val (.bool (Cq ⟨x,y,z⟩ ⟨a,b,c⟩)) σ):=by
 refine aA Mz wT.eq_1 rfl ?_;cases hc1:Pt.ok ⟨x,y,z⟩
 ·simp[-length_flatMap,-map_take,xb,Cq,hc1]
 cases hc2:Pt.ok ⟨a,b,c⟩
 ·simp[-length_flatMap,-map_take,xb,Cq,hc1,hc2]
 by_cases hc3:x≤a
 rotate_left
 ·simp[-length_flatMap,-map_take,xb,Cq,hc1,hc2,hc3]
 by_cases hc4:y≤b
 rotate_left
 ·simp[-length_flatMap,-map_take,xb,Cq,hc1,hc2,hc3,hc4]
 simp[-length_flatMap,-map_take,xb,Cq,hc1,hc2,hc3,hc4]
theorem ajs{n:Net}:n.pre=true↔(1≤(n.st.length:Int)∧(n.st.length:Int)≤12)∧fV n.st PZ.ok=true∧(n.low.ok=true∧n.high.ok=true∧n.low.x≤n.high.x∧n.low.y≤n.high.y∧n.low.z≤n.high.z) ∧
  (1≤n.step∧n.step≤20000)∧(1≤n.s0.lo∧n.s0.lo≤n.s0.hi∧n.s0.hi≤2000)∧(1≤n.s1.lo∧n.s1.lo≤n.s1.hi∧n.s1.hi≤2000):=by
 simp only[Net.pre,af,ba,Cq,Rg.cA,au]
structure av7(n:Net)(i ph:Int):Prop where
 i0:0≤i
 i1:i<n.st.length
 hph:ph=0∨ph=1
 p:(n.stn i).p.ok=true
 e:0≤(n.stn i).err∧(n.stn i).err≤1000
 s:1≤(n.QM ph).lo∧(n.QM ph).lo≤(n.QM ph).hi∧(n.QM ph).hi≤2000
 cells:((n.st.flatMap PZ.enc).drop (i.toNat*4)).take 4=(n.stn i).enc
theorem ahq{n:Net}(h:n.ok=true){i ph:Int}(hi:cA i 0 (n.st.length-1)=true)(hp:0≤ph)(hp':ph<2):av7 n i ph:=by
 simp only[Net.ok,af]at h;have h0:=ajs.1 h.1;rw[ba]at hi;have h1:i.toNat<n.st.length:=by omega
 have h2:n.st[i.toNat]?=some (n.stn i):=by
  simp[Net.stn,List.getD,aJ h1]
 have h3:=fW.1 h0.2.1 _ (aj h2);simp only[PZ.ok,af,ba]at h3;refine⟨by omega,by omega,by omega,h3.1,h3.2,?_,bS (f:=PZ.enc) (w:=4) (fun _=>rfl) h2⟩;unfold Net.QM;split<;>omega
structure Hd(n:Net)(l:List GK):Prop where
 ok:n.ok=true
 len:l.length≤60
 all:∀p∈l,GK.ok n p=true∧0≤p.ph
theorem Hd.aCS{n:Net}{l:List GK}(h:Hd n l){p:GK}(hp:p∈l):av7 n p.st p.ph:=by
 have h1:=h.all p hp;simp only[GK.ok,af,au]at h1;exact ahq h.ok h1.1.1 h1.2 h1.1.2.1
end Go.Proofs.YtfgljaglidhjiaaGreatDoor
namespace Go.Trem
open List(length_flatMap map_take)
open Go Go.Abs
theorem Gn{α β:Type}{f:α→List β}{c:Nat}{l:List α}(h:∀x∈l,(f x).length=c):(l.flatMap f).length=l.length*c:=by
 induction l with
 |nil=>simp
 |cons a l ih =>
  rw[aZ,bB,h a (by simp),ih fun x hx=>h x (by simp[hx]),aL,eT];omega
end Go.Trem
namespace Go.Proofs.YtfgljaglidhjiaaGreatDoor
open List(length_flatMap map_take)
open Go Go.Abs Go.Trem
variable {σ:SK}
structure Bx(n:Net):Prop where
 st:1≤n.step∧n.step≤20000
 lx : -20000≤n.low.x∧n.low.x≤20000
 ly : -20000≤n.low.y∧n.low.y≤20000
 lz : -20000≤n.low.z∧n.low.z≤20000
 hx:n.low.x≤n.high.x∧n.high.x≤20000
 hy:n.low.y≤n.high.y∧n.high.y≤20000
 hz:n.low.z≤n.high.z∧n.high.z≤20000
 len:(ajg n).length≤2000
end Go.Proofs.YtfgljaglidhjiaaGreatDoor
namespace Go.Trem
open List(length_flatMap map_take)
open Go Go.Abs
def ayG(l:List Int)(i:Nat):Bool:=decide (i=0) || decide (l.getD (i-1) 0<l.getD i 0)
def ayH(l:List Int):Bool:=fV (List.range' 0 l.length) (ayG l)
def yP.ok(r:yP):Bool:=cA r.far 0 20000 && cA r.add 0 100
def Jj.ok(s:Jj):Bool:=cA s.levels.length 1 60 && (fV s.levels (fun n=>cA n 1 1000000000) && (ayH s.levels && (cA s.rows.length 1 20 && (decide ((s.rows.getD 0 ⟨0,0⟩).far=0) && (fV s.rows yP.ok && ayH (s.rows.map (·.far)))))))
def lvl(l:List Int)(a:Int):Nat:=(l.takeWhile fun x=>decide (x≤a)).length
def Ad.ok(n:Net)(r:Ad):Bool:=cA r.st 0 (n.st.length-1) && cA r.amt 0 1000000000
end Go.Trem
namespace Go.Proofs.YtfgljaglidhjiaaGreatDoor
open List(length_flatMap map_take)
open Go Go.Abs Go.Trem
variable {σ:SK}
end Go.Proofs.YtfgljaglidhjiaaGreatDoor
namespace Go.Trem
open List(length_flatMap map_take)
open Go Go.Abs
def Bet.ok(b:Bet):Bool:=cA b.den 2 1000 && (cA b.num 1 (b.den-1) && (cA b.b 1 1000 && (cA b.a 0 b.b && cA b.at5 2 1000)))
def next(b:Bet)(c:Int)(hit:Bool):Int:=if hit then min (c*(b.b*b.num+b.a*(b.den-b.num)) / (b.b*b.num)) 1000000000000 else c*(b.b-b.a) / b.b
structure aCO(b:Bet)(c:Int):Prop where
 w1:IntKind.i64.wrap (b.b*b.num)=b.b*b.num
 w2:IntKind.i64.wrap (b.den-b.num)=b.den-b.num
 w3:IntKind.i64.wrap (b.a*(b.den-b.num))=b.a*(b.den-b.num)
 w4:IntKind.i64.wrap (b.b*b.num+b.a*(b.den-b.num))=b.b*b.num+b.a*(b.den-b.num)
 w5:IntKind.i64.wrap (c*(b.b*b.num+b.a*(b.den-b.num)))=c*(b.b*b.num+b.a*(b.den-b.num))
 w6:IntKind.i64.wrap ((c*(b.b*b.num+b.a*(b.den-b.num))).tdiv (b.b*b.num))=c*(b.b*b.num+b.a*(b.den-b.num)) / (b.b*b.num)
 w7:b.b*b.num≠0
 w8:IntKind.i64.wrap (b.b-b.a)=b.b-b.a
 w9:IntKind.i64.wrap (c*(b.b-b.a))=c*(b.b-b.a)
 w10:IntKind.i64.wrap ((c*(b.b-b.a)).tdiv b.b)=c*(b.b-b.a) / b.b
 w11:b.b≠0
 w12:∀h,0≤next b c h∧next b c h≤1000000000000
 w13:min (c*(b.b-b.a) / b.b) 1000000000000=c*(b.b-b.a) / b.b
def Hy(k0 k1 k2:Int)(c:Int):Int:=if c=0 then k0 else if c=1 then k1 else k2
def pf(k0 k1 k2:Int):Bool:=decide (k0≤1000) && (decide (k1≤k0) && (decide (k2≤k1) && decide (0≤k2)))
def Wi(n:Int):Bool:=cA n 0 1000000000
end Go.Trem
namespace Go.Proofs.YtfgljaglidhjiaaGreatDoor
open List(length_flatMap map_take)
open Go Go.Abs Go.Trem
variable {σ:SK}
theorem I8{a:Int}:bx T (.call false kz [.int .i64 a] σ)=some (.val (.bool (Wi a)) σ):=by
 refine aA FI qD.eq_1 rfl ?_;simp[-length_flatMap,-map_take,fq,Wi]
structure aCP(p k:Int):Prop where
 w1:IntKind.i64.wrap (p*k)=p*k
 w2:IntKind.i64.wrap ((p*k).tdiv 1000)=p*k / 1000
 w3:0≤p*k / 1000
 w4:p*k / 1000≤1000000000
end Go.Proofs.YtfgljaglidhjiaaGreatDoor
namespace Go.Trem
open List(length_flatMap map_take)
open Go Go.Abs
structure wJ where
 p:Pt
 mag:Int
structure Ev where
 tick:Int
 sp:List wJ
structure dc where
 lo:Pt
 hi:Pt
 least:Int
 xQ:Int
 count:Int
 Oh:Int
@[simp] theorem wJ.eta(p:wJ):wJ.mk p.p p.mag=p:=rfl
@[simp] theorem Ev.eta(p:Ev):Ev.mk p.tick p.sp=p:=rfl
@[simp] theorem dc.eta(p:dc):dc.mk p.lo p.hi p.least p.xQ p.count p.Oh=p:=rfl
@[simp] def wJ.enc(s:wJ):List D:=[.int .i64 s.p.x,.int .i64 s.p.y,.int .i64 s.p.z,.int .i64 s.mag]
@[simp] def Ev.enc(e:Ev):List D:=[.int .i64 e.tick,.aI e.sp.length (e.sp.flatMap wJ.enc)]
@[simp] def dc.enc(r:dc):List D:=[.int .i64 r.lo.x,.int .i64 r.lo.y,.int .i64 r.lo.z,.int .i64 r.hi.x,.int .i64 r.hi.y,.int .i64 r.hi.z,.int .i64 r.least,.int .i64 r.xQ,.int .i64 r.count,.int .u8 r.Oh]
def MU:Elt wJ:=xq 4 wJ.enc fun _=>rfl
def awB:Elt Ev:=xq 2 Ev.enc fun _=>rfl
def ai3:Elt dc:=xq 10 dc.enc fun _=>rfl
def dc.MM(r:dc)(s:wJ):Bool:=decide (r.least≤s.mag) && (cA s.p.x r.lo.x r.hi.x && (cA s.p.y r.lo.y r.hi.y && cA s.p.z r.lo.z r.hi.z))
def dc.ok(r:dc):Bool:=Cq r.lo r.hi && (cA r.least 0 160 && (cA r.xQ 1 1000000 && (cA r.count 1 200 && (r.Oh == 1 || r.Oh == 2))))
def wJ.ok(s:wJ):Bool:=s.p.ok && cA s.mag 0 160
def Ev.ok(e:Ev):Bool:=cA e.tick 0 1000000 && (cA e.sp.length 1 2000 && fV e.sp wJ.ok)
def dc.act(r:dc)(now:Int)(e:Ev):Bool:=decide (now-r.xQ<e.tick) && decide (e.tick≤now)
def ya(f:Ev→Bool):List Ev→Nat
 |[]=>0
 |e::l=>ya f l+(if f e then 1 else 0)
def pD(r:dc)(now:Int)(e:Ev):Bool:=r.act now e && rq e.sp r.MM
def jq(r:dc)(now:Int)(e:Ev):Bool:=r.act now e && fV e.sp r.MM
def ue(f:dc→Ev→Bool)(l:List Ev):List dc→Int→Int
 |[],a=>a
 |r::R,a=>ue f l R (if r.count≤ya (f r) l then max a r.Oh else a)
def LV(R:List dc)(l:List Ev)(now:Int):Int:=ue (fun r=>pD r now) l R 0
def Kz(R:List dc)(l:List Ev)(now:Int):Int:=ue (fun r=>jq r now) l R 0
def fa(R:List dc)(l:List Ev)(now:Int):Int :=
 if 20<R.length then 3 else if fV R dc.ok=false then 1 else if 200<l.length then 3 else if fV l Ev.ok=false then 1 else if cA now 0 1000000=false then 2 else 0
theorem Gv{r:dc}:r.ok=true↔Cq r.lo r.hi=true∧(0≤r.least∧r.least≤160)∧(1≤r.xQ∧r.xQ≤1000000)∧(1≤r.count∧r.count≤200)∧(r.Oh=1∨r.Oh=2):=by
 simp only[dc.ok,af,ba,cb,beq_iff_eq]
end Go.Trem
namespace Go.Proofs.YtfgljaglidhjiaaGreatDoor
open List(length_flatMap map_take)
open Go Go.Abs Go.Trem
variable {σ:SK}
theorem Ft{r:dc}{s:wJ}:bx T (.call false cr [.agg r.enc,.agg s.enc] σ)=some (.val (.bool (r.MM s)) σ):=by
 refine aA B6 nh.eq_1 rfl ?_;by_cases hc1:r.least≤s.mag
 rotate_left
 ·simp[-length_flatMap,-map_take,fq,dc.MM,hc1]
 cases hc2:cA s.p.x r.lo.x r.hi.x
 ·simp[-length_flatMap,-map_take,fq,dc.MM,hc1,hc2]
 cases hc3:cA s.p.y r.lo.y r.hi.y
 ·simp[-length_flatMap,-map_take,fq,dc.MM,hc1,hc2,hc3]
 simp[-length_flatMap,-map_take,fq,dc.MM,hc1,hc2,hc3]
theorem NP{r:dc}:bx T (.call false eN [.agg r.enc] σ)=some (.val (.bool r.ok) σ):=by
 refine aA DE od.eq_1 rfl ?_;cases hc1:Cq r.lo r.hi
 ·simp[-length_flatMap,-map_take,fq,Lp,dc.ok,hc1]
 cases hc2:cA r.least 0 160
 ·simp[-length_flatMap,-map_take,fq,Lp,dc.ok,hc1,hc2]
 cases hc3:cA r.xQ 1 1000000
 ·simp[-length_flatMap,-map_take,fq,Lp,dc.ok,hc1,hc2,hc3]
 cases hc4:cA r.count 1 200
 ·simp[-length_flatMap,-map_take,fq,Lp,dc.ok,hc1,hc2,hc3,hc4]
 by_cases hc5:r.Oh=1
 rotate_left
 ·simp[-length_flatMap,-map_take,fq,Lp,dc.ok,hc1,hc2,hc3,hc4,hc5]
 simp[-length_flatMap,-map_take,fq,Lp,dc.ok,hc1,hc2,hc3,hc4,hc5]
theorem avY{s:wJ}:bx T (.call false fS [.agg s.enc] σ)=some (.val (.bool s.ok) σ):=by
 refine aA Ak lq.eq_1 rfl ?_;cases hc1:Pt.ok s.p
 ·simp[-length_flatMap,-map_take,fq,xb,wJ.ok,hc1]
 simp[-length_flatMap,-map_take,fq,xb,wJ.ok,hc1]
theorem GH{l:List wJ}{p:wJ→Bool}{fv:D}(ht:pP T fv MU.val p l)(hc:fv.cells=some [fv])(hl:l.length≤9223372036854775807):
  bx T (.call false eM [.aI l.length (l.flatMap wJ.enc),fv] σ)=some (.val (.bool (fV l p)) σ) :=
 Ax MU yY xi ic jm hl ht hc
theorem NK{e:Ev}(hl:e.sp.length≤9223372036854775807):bx T (.call false ef [.agg e.enc] σ)=some (.val (.bool e.ok) σ):=by
 refine aA B4 nf.eq_1 rfl ?_;have ha:=fun σ=>@GH σ e.sp wJ.ok (.fn fS [] []) (.fn fun s _ σ=>avY) rfl hl
 cases hc1:cA e.tick 0 1000000
 ·simp[-length_flatMap,-map_take,fq,ha,Ev.ok,hc1]
 cases hc2:cA e.sp.length 1 2000
 ·simp[-length_flatMap,-map_take,fq,ha,Ev.ok,hc1,hc2]
 simp[-length_flatMap,-map_take,fq,ha,Ev.ok,hc1,hc2]
theorem I5{R:List dc}(hl:R.length≤9223372036854775807):
  bx T (.call false dE [.aI R.length (R.flatMap dc.enc),.fn eN [] []] σ)=some (.val (.bool (fV R dc.ok)) σ) :=
 Ax ai3 yX xh tp uQ hl (.fn fun r _ σ=>NP) rfl
theorem NG{l:List Ev}(hl:l.length≤9223372036854775807)(hs:∀e∈l,e.sp.length≤9223372036854775807):
  bx T (.call false dj [.aI l.length (l.flatMap Ev.enc),.fn ef [] []] σ)=some (.val (.bool (fV l Ev.ok)) σ) :=
 Ax awB xW wK sK ux hl (.fn fun r hr σ=>NK (hs r hr)) rfl
theorem av8{R:List dc}{l:List Ev}{now may sure:Int}{j:Nat}{r:dc}(hl:l.length≤200)(hs:∀e∈l,e.sp.length≤2000)(hr:r.ok=true)(hn:cA now 0 1000000=true):∀(m i:Nat) (a b:Nat),i+m=l.length→a+m≤200→b+m≤200 →
  WL T [1,2,6,7,10,11,12,13,36,37,38,44,45,46] false ft [(1,.aI l.length (l.flatMap Ev.enc)),(2,.int .i64 now),(6,.int .u8 may),(7,.int .u8 sure),(10,.own 0 r.enc),(11,.int .i64 a),(12,.int .i64 b),(13,.fn cr [.agg r.enc] []),
    (36,.aI R.length (R.flatMap dc.enc)),(37,.int .i64 R.length),(38,.int .i64 j),(44,.aI l.length (l.flatMap Ev.enc)),(45,.int .i64 l.length),(46,.int .i64 i)] σ
   (fun x e σ'=>x=.exit 3∧σ'=σ∧get e 1=.aI l.length (l.flatMap Ev.enc)∧get e 2=.int .i64 now∧get e 6=.int .u8 may∧get e 7=.int .u8 sure∧get e 10=.own 0 r.enc∧get e 11=.int .i64 (a+ya (pD r now) (l.drop i):Nat)∧get e 12=.int .i64 (b+ya (jq r now) (l.drop i):Nat) ∧
    get e 36=.aI R.length (R.flatMap dc.enc)∧get e 37=.int .i64 R.length∧get e 38=.int .i64 j)
 |0,i,a,b,hi,ha,hb=>by
  refine aO ft.eq_1 ?_;have h1:¬i<l.length:=by omega
  have h2:l.drop i=[]:=by simp;omega
  simp[-length_flatMap,-map_take,h1,h2,ya]
 |m+1,i,a,b,hi,ha,hb=>by
  refine aO ft.eq_1 ?_;have g1:i<l.length:=by omega
  obtain⟨e,he⟩:=gE g1;have a1:=bS (f:=Ev.enc) (w:=2) (fun _=>rfl) he;have w1:=gq g1 (by omega);have hr':=Gv.1 hr;have hn':=ba.1 hn;have hse:=hs e (aj he);have w2:=fT (n:=now-r.xQ) (by omega);have w3:=fT (n:=(a:Int)+1) (by omega);have w4:=fT (n:=(b:Int)+1) (by omega);have hC:∀σ,bx T (.call false bT [.aI e.sp.length (e.sp.flatMap wJ.enc),.fn cr [.agg r.enc] []] σ)=some (.val (.bool (rq e.sp r.MM)) σ):=fun σ =>
   contains_of MU ic jm (by omega) (.fn fun s _ σ=>Ft)
  have hA:=fun σ=>@GH σ e.sp r.MM (.fn cr [.agg r.enc] []) (.fn fun s _ σ=>Ft) rfl (by omega)
  simp only[dc.enc]at hC hA;have d1:ya (pD r now) (l.drop i)=ya (pD r now) (l.drop (i+1))+(if pD r now e then 1 else 0):=by rw[cM he];rfl
  have d2:ya (jq r now) (l.drop i)=ya (jq r now) (l.drop (i+1))+(if jq r now e then 1 else 0):=by rw[cM he];rfl
  have ih:=fun a b=>av8 (R:=R) (may:=may) (sure:=sure) (j:=j) hl hs hr hn m (i+1) a b (by omega)
  rw[d1,d2];by_cases c1:now<e.tick
  ·have e1:pD r now e=false:=by simp[pD,dc.act];omega
   have e2:jq r now e=false:=by simp[jq,dc.act];omega
   simp[-length_flatMap,-map_take,g1,a1,w1,c1,e1,e2];exact WL.to (ih a b (by omega) (by omega)) (by simp) rfl fun x e σ' hh=>by simpa[e1,e2]using hh
  by_cases c2:e.tick≤now-r.xQ
  ·have e1:pD r now e=false:=by simp[pD,dc.act];omega
   have e2:jq r now e=false:=by simp[jq,dc.act];omega
   simp[-length_flatMap,-map_take,g1,a1,w1,w2,c1,c2,e1,e2];exact WL.to (ih a b (by omega) (by omega)) (by simp) rfl fun x e σ' hh=>by simpa[e1,e2]using hh
  have act:r.act now e=true:=by simp[dc.act];omega
  have e1:pD r now e=rq e.sp r.MM:=by simp[pD,act]
  have e2:jq r now e=fV e.sp r.MM:=by simp[jq,act]
  rw[e1,e2];have k1:∀u v:Nat,u+1+v=u+(v+1):=by intro u v;omega
  cases c3:rq e.sp r.MM<;>cases c4:fV e.sp r.MM<;>simp only[c3,c4]at hC hA
  ·simp[-length_flatMap,-map_take,g1,a1,w1,w2,c1,c2,hC,hA];exact WL.to (ih a b (by omega) (by omega)) (by simp) rfl fun x e σ' hh=>by simpa[c3,c4]using hh
  ·simp[-length_flatMap,-map_take,g1,a1,w1,w2,w4,c1,c2,hC,hA];exact WL.to (ih a (b+1) (by omega) (by omega)) (by simp) rfl fun x e σ' hh=>by simp only[k1]at hh;simpa[c3,c4]using hh
  ·simp[-length_flatMap,-map_take,g1,a1,w1,w2,w3,c1,c2,hC,hA];exact WL.to (ih (a+1) b (by omega) (by omega)) (by simp) rfl fun x e σ' hh=>by simp only[k1]at hh;simpa[c3,c4]using hh
  ·simp[-length_flatMap,-map_take,g1,a1,w1,w2,w3,w4,c1,c2,hC,hA];exact WL.to (ih (a+1) (b+1) (by omega) (by omega)) (by simp) rfl fun x e σ' hh=>by simp only[k1]at hh;simpa[c3,c4]using hh
theorem V7{R:List dc}{l:List Ev}{now:Int}(hR:R.length≤20)(hl:l.length≤200)(hs:∀e∈l,e.sp.length≤2000)(hr:∀r∈R,r.ok=true)(hn:cA now 0 1000000=true):∀(m j:Nat) (may sure:Int),j+m=R.length →
  WL T [1,2,6,7,36,37,38] false dC [(1,.aI l.length (l.flatMap Ev.enc)),(2,.int .i64 now),(6,.int .u8 may),(7,.int .u8 sure),(36,.aI R.length (R.flatMap dc.enc)),(37,.int .i64 R.length),(38,.int .i64 j)] σ
   (fun x e σ'=>x=.exit 1∧σ'=σ∧get e 6=.int .u8 (ue (fun r=>pD r now) l (R.drop j) may)∧get e 7=.int .u8 (ue (fun r=>jq r now) l (R.drop j) sure))
 |0,j,may,sure,hj=>by
  refine aO dC.eq_1 ?_;have h1:¬j<R.length:=by omega
  have h2:R.drop j=[]:=by simp;omega
  simp[-length_flatMap,-map_take,h1,h2,ue]
 |m+1,j,may,sure,hj=>by
  refine aO dC.eq_1 ?_;have g1:j<R.length:=by omega
  obtain⟨r,hrj⟩:=gE g1;have a1:=bS (f:=dc.enc) (w:=10) (fun _=>rfl) hrj;have w1:=gq g1 (by omega);have hrr:=hr r (aj hrj);have ih:=fun may sure=>V7 hR hl hs hr hn m (j+1) may sure (by omega)
  rw[cM hrj];simp[-length_flatMap,-map_take,g1,a1];refine WL.to (av8 (σ:=σ) (R:=R) (l:=l) (now:=now) (may:=may) (sure:=sure) (j:=j) hl hs hrr hn l.length 0 0 0 (by omega) (by omega) (by omega)) (by simp) rfl ?_;rintro x e σ' ⟨rfl,rfl,e1,e2,e6,e7,e10,e11,e12,e36,e37,e38⟩;simp only[aP,cf]at e11 e12;simp only[ue];by_cases c1:r.count≤ya (pD r now) l
  ·by_cases c2:r.count≤ya (jq r now) l
   ·simp[-length_flatMap,-map_take,e1,e2,e6,e7,e10,e11,e12,e36,e37,e38,c1,c2,w1];exact WL.to (ih (max may r.Oh) (max sure r.Oh)) (by simp) rfl fun x e σ' hh=>by simpa[c1,c2]using hh
   ·simp[-length_flatMap,-map_take,e1,e2,e6,e7,e10,e11,e12,e36,e37,e38,c1,c2,w1];exact WL.to (ih (max may r.Oh) sure) (by simp) rfl fun x e σ' hh=>by simpa[c1,c2]using hh
  ·by_cases c2:r.count≤ya (jq r now) l
   ·simp[-length_flatMap,-map_take,e1,e2,e6,e7,e10,e11,e12,e36,e37,e38,c1,c2,w1];exact WL.to (ih may (max sure r.Oh)) (by simp) rfl fun x e σ' hh=>by simpa[c1,c2]using hh
   ·simp[-length_flatMap,-map_take,e1,e2,e6,e7,e10,e11,e12,e36,e37,e38,c1,c2,w1];exact WL.to (ih may sure) (by simp) rfl fun x e σ' hh=>by simpa[c1,c2]using hh
theorem aih{R:List dc}{l:List Ev}{now:Int}(hR:R.length≤9223372036854775807)(hl:l.length≤9223372036854775807)(hs:∀e∈l,e.sp.length≤9223372036854775807):
  bx T (.call false fF [.aI R.length (R.flatMap dc.enc),.aI l.length (l.flatMap Ev.enc),.int .i64 now] σ) =
   some (.val (if fa R l now=0 then .dM [.int .u8 (LV R l now),.int .u8 (Kz R l now),.int .i64 0]else .dM [.int .u8 0,.int .u8 0,.int .i64 (fa R l now)]) σ):=by
 refine aA tB lQ.eq_1 rfl ?_;have hAR:=fun σ=>@I5 σ R hR
 have hAE:=fun σ=>@NG σ l hl hs
 by_cases c1:20<R.length
 ·have c1':(20:Int)<R.length:=by omega
  simp[-length_flatMap,-map_take,fa,c1,c1']
 have c1':¬(20:Int)<R.length:=by omega
 cases c2:fV R dc.ok
 ·simp[-length_flatMap,-map_take,fa,c1,c1',hAR,c2]
 by_cases c3:200<l.length
 ·have c3':(200:Int)<l.length:=by omega
  simp[-length_flatMap,-map_take,fa,c1,c1',hAR,c2,c3,c3']
 have c3':¬(200:Int)<l.length:=by omega
 cases c4:fV l Ev.ok
 ·simp[-length_flatMap,-map_take,fa,c1,c1',hAR,c2,c3,c3',hAE,c4]
 cases c5:cA now 0 1000000
 ·simp[-length_flatMap,-map_take,fa,c1,c1',hAR,c2,c3,c3',hAE,c4,fq,c5]
 have he:fa R l now=0:=by simp[fa,c1,c2,c3,c4,c5]
 rw[if_pos he];simp[-length_flatMap,-map_take,c1',hAR,c2,c3',hAE,c4,fq,c5];refine WL.to (V7 (σ:=[]::σ) (R:=R) (l:=l) (now:=now) (by omega) (by omega) ?_ (fW.1 c2) c5 R.length 0 0 0 (by omega)) (by simp) rfl ?_
 ·intro e he;have:=fW.1 c4 e he;simp only[Ev.ok,af,ba]at this;omega
 ·rintro x e σ' ⟨rfl,rfl,e6,e7⟩;simp[-length_flatMap,-map_take,e6,e7,LV,Kz]
end Go.Proofs.YtfgljaglidhjiaaGreatDoor
namespace Go.Book
open List(length_flatMap map_take)
open Go Go.Abs Go.Rock
structure nJ where
 m:cU
 left:Bool
 by_:Int
structure P0 where
 line:Int
 value:Int
 lo:Int
 hi:Int
structure Prt where
 width:Int
 wj:Int
structure y7 where
 Gh:Int
 parts:List Prt
structure We where
 tick:Int
 aBC:Int
 wlo:Int
 whi:Int
 mlo:Int
 mhi:Int
structure Bk where
 bO:cC
 av:List nJ
 aw:List (List Int)
 rules:List Trem.dc
 wY:List Trem.Ev
 k0:Int
 k1:Int
 k2:Int
 fg:List y7
 nz:List We
 ready:Bool
 pj:List P0
 at_:Int
@[simp] def nJ.enc(e:nJ):List D:=[.str e.m.name,.aI e.m.bu.length (e.m.bu.flatMap aT),.bool e.left,.int .i64 e.by_]
@[simp] def P0.enc(e:P0):List D:=[.int .i64 e.line,.int .i64 e.value,.int .i64 e.lo,.int .i64 e.hi]
@[simp] def Prt.enc(e:Prt):List D:=[.int .i64 e.width,.int .i64 e.wj]
@[simp] def y7.enc(e:y7):List D:=[.int .i64 e.Gh,.aI e.parts.length (e.parts.flatMap Prt.enc)]
@[simp] def We.enc(e:We):List D:=[.int .i64 e.tick,.int .i64 e.aBC,.int .i64 e.wlo,.int .i64 e.whi,.int .i64 e.mlo,.int .i64 e.mhi]
def nl{α:Type}(f:α→List D)(l:List α):D:=if l=[]then .aG else .aI l.length (l.flatMap f)
def pE(r:List Int):List D:=[.aI r.length (r.flatMap aT)]
def Bk.cells(L:Nat)(b:Bk):List D:=[.int .i64 b.bO.f.x,.int .i64 b.bO.f.y,.int .i64 b.bO.f.z,.int .i64 b.bO.f.k,nl Rw.enc b.bO.cz,.int .i64 b.bO.bL,.int .i64 b.bO.lift,.int .i64 b.bO.deep,nl bJ.enc b.bO.ar,
 .sl L 0 b.av.length 0 b.av.length 4,nl pE b.aw,.sl L 1 b.rules.length 0 b.rules.length 10,.sl L 2 b.wY.length 0 b.wY.length 2,.int .i64 b.k0,.int .i64 b.k1,.int .i64 b.k2,
 .sl L 3 b.fg.length 0 b.fg.length 2,.sl L 4 b.nz.length 0 b.nz.length 6,.bool b.ready,.sl L 5 b.pj.length 0 b.pj.length 4,.int .i64 b.at_]
def Bk.bA(L:Nat)(b:Bk)(er:List Int):List Abs.aF:=[.cells b.av.length (b.av.flatMap nJ.enc),.cells b.rules.length (b.rules.flatMap Trem.dc.enc),.cells b.wY.length (b.wY.flatMap Trem.Ev.enc),.cells b.fg.length (b.fg.flatMap y7.enc),
 .cells b.nz.length (b.nz.flatMap We.enc),.cells b.pj.length (b.pj.flatMap P0.enc),.cells 0 (b.cells L),.cells er.length (er.flatMap aT)]
def rp:Bk:=⟨⟨⟨0,0,0,0⟩,[],0,0,0,[]⟩,[],[],[],[],1000,500,0,[],[],false,[],0⟩
def Prt.ok(last:Int)(p:Prt):Bool:=cA p.wj 0 last && cA p.width 1 100000
def zl:Int→List Prt→Bool
 |_,[]=>true
 |last,p::l=>p.ok last && zl p.wj l
def y7.ok(u:y7):Bool:=cA u.Gh 0 5 && (cA u.parts.length 1 8 && zl 1000 u.parts)
def wo(l:List Prt):Nat→Int
 |0=>1000
 |i+1=>match l[i]? with
  |some p=>p.wj
  |none=>0
def Ee(l:List Prt)(i:Nat):Bool:=match l[i]? with
 |some p=>p.ok (wo l i)
 |none=>true
theorem Uz{l:List Prt}:zl 1000 l=true↔∀j,j<l.length→Ee l j=true:=by
 have key:∀(r pre:List Prt),l=pre++r→(zl (wo l pre.length) r=true↔∀j,j<r.length→Ee l (pre.length+j)=true):=by
  intro r;induction r with
  |nil=>intro pre h;simp[zl]
  |cons p r ih =>
   intro pre h;have hp:l[pre.length]?=some p:=by rw[h];simp
   have h1:=ih (pre++[p]) (by rw[h];simp);have h2:wo l (pre++[p]).length=p.wj:=by simp[wo,hp]
   rw[h2]at h1;simp only[zl,af,h1];constructor
   ·rintro⟨h3,h4⟩ j hj;cases j with
    |zero=>simpa[Ee,hp]using h3
    |succ j =>
     have:=h4 j (by simpa using hj);rwa[show(pre++[p]).length+j=pre.length+(j+1)by simp;omega]at this
   ·intro h3;refine⟨?_,fun j hj=>?_⟩
    ·have:=h3 0 (by simp);simpa[Ee,hp]using this
    ·have:=h3 (j+1) (by simpa using hj);rwa[show(pre++[p]).length+j=pre.length+(j+1)by simp;omega]
 have:=key l [] rfl;simpa[wo]using this
def yi(b:Bk)(x y z k:Int):Bk×Int :=
 if(b.bO.f.x=0∧b.bO.f.y=0)∧b.bO.f.z=0∧b.bO.f.k=0 then
  (if(fU.mk x y z k).valid=true∧4≤k then({b with bO:={b.bO with f:=⟨x,y,z,k⟩ } },0)else(b,1))
 else(b,8)
end Go.Book
namespace Go.Abs
open List(length_flatMap map_take)
open Go
variable {T:yZ} {fv:D} {σ:SK}
theorem UK{f w:Nat}{ag:Bool}(hT:T f=some (uN ag w))(h1:fv.strip=fv)(h2:fv.calm=fv):bx T (.call false f [.aG,fv] σ)=some (.val (.int .i64 (-1)) σ):=by
 refine aA hT (uN.eq_1 _ _) rfl ?_;simp[h1,h2];refine aO (J6.eq_1 _ _) ?_;simp[h1,h2]
theorem contains_nil{f i w:Nat}{ag:Bool}(hT:T f=some (jn i))(hi:T i=some (uN ag w))(h1:fv.strip=fv)(h2:fv.calm=fv):bx T (.call false f [.aG,fv] σ)=some (.val (.bool false) σ):=by
 refine aA hT (jn.eq_1 _) rfl ?_;simp[h1,h2,UK hi h1 h2]
theorem all_nil{f g h i w:Nat}{ag:Bool}(hf:T f=some (F3 g h))(hh:T h=some (jn i))(hi:T i=some (uN ag w))(h1:fv.strip=fv)(h2:fv.calm=fv)(hcl:fv.cells=some [fv]):
  bx T (.call false f [.aG,fv] σ)=some (.val (.bool true) σ):=by
 refine aA hf (F3.eq_1 _ _) rfl ?_;have h3:=fun σ=>contains_nil (fv:=.fn g [] [.bI [fv]]) (σ:=σ) hh hi rfl rfl
 simp[h1,h2,h3,hcl]
end Go.Abs
namespace Go.Proofs.YtfgljaglidhjiaaGreatDoor
open List(length_flatMap map_take)
open Go Go.Abs Go.Rock Go.Book
variable {σ:SK}
theorem ain{F:List Abs.aF}{b:Bk}{er:List Int}{nm:List UInt8}{x y z k:Int}{b':Bk}{e:Int}(hd:yi b x y z k=(b',e))(he:e=0):
  bx T (.call false fw [.ref σ.length 6 0 0,.str nm,.aI 4 [.int .i64 x,.int .i64 y,.int .i64 z,.int .i64 k]] (F::b.bA σ.length er::σ))=some (.val (.dM []) (F::b'.bA σ.length er::σ)):=by
 refine gH vA jW.eq_1 rfl (by simp) ?_;unfold yi at hd;split at hd
 case isFalse=>cases hd;cases he
 rename_i h1;split at hd
 case isFalse=>cases hd;cases he
 rename_i h2;cases hd;obtain⟨⟨f1,f2⟩,f3,f4⟩:=h1;have hS:(fU.mk x y z k).shape=0:=by simp[fU.shape,h2.1]
 have hC:=fun σ=>jK (σ:=σ) (f:=⟨x,y,z,k⟩)
 simp only[hS]at hC;simp[-length_flatMap,-map_take,Bk.bA,Bk.cells,f1,f2,f3,f4,cH,hC,h2.2]
theorem T6{F:List Abs.aF}{b:Bk}{er:List Int}{nm:List UInt8}{x y z k:Int}{b':Bk}{e:Int}(hd:yi b x y z k=(b',e))(he:e≠0):
  bx T (.call false fw [.ref σ.length 6 0 0,.str nm,.aI 4 [.int .i64 x,.int .i64 y,.int .i64 z,.int .i64 k]] (F::b.bA σ.length er::σ))=some (.fX (rf e) (F::b.bA σ.length er::σ)):=by
 refine eg vA jW.eq_1 rfl ?_;have hC:=fun σ=>jK (σ:=σ) (f:=⟨x,y,z,k⟩)
 unfold yi at hd;split at hd
 ·rename_i h1;obtain⟨⟨f1,f2⟩,f3,f4⟩:=h1;split at hd
  ·cases hd;exact absurd rfl he
  rename_i h2;cases hd;by_cases h3:(fU.mk x y z k).valid=true
  ·have h4:¬4≤k:=fun hh=>h2 ⟨h3,hh⟩
   have hS:(fU.mk x y z k).shape=0:=by simp[fU.shape,h3]
   simp only[hS]at hC;simp[-length_flatMap,-map_take,Bk.bA,Bk.cells,f1,f2,f3,f4,cH,dI,hC,h4,D.clean,rf]
  ·have hS:(fU.mk x y z k).shape=1:=by simp[fU.shape,h3]
   simp only[hS]at hC;simp[-length_flatMap,-map_take,Bk.bA,Bk.cells,f1,f2,f3,f4,cH,dI,hC,D.clean,rf]
 ·rename_i h1;cases hd;have hz:(b.bO.f.x == 0 && (b.bO.f.y == 0 && (b.bO.f.z == 0 && b.bO.f.k == 0)))=false:=by
   cases hb:(b.bO.f.x == 0 && (b.bO.f.y == 0 && (b.bO.f.z == 0 && b.bO.f.k == 0)))with
   |false=>rfl
   |true =>
    simp only[af,beq_iff_eq]at hb;exact absurd ⟨⟨hb.1,hb.2.1⟩,hb.2.2.1,hb.2.2.2⟩ h1
  simp[-length_flatMap,-map_take,Bk.bA,Bk.cells,hz,dI,D.clean,rf]
theorem HW{k0 k1 k2:Int}(hσ:σ≠[]):
  bx T (.call false pA [.aG,.aG,.agg [.int .i64 k0,.int .i64 k1,.int .i64 k2],.int .i64 0] σ) =
   some (.val (.dM [if Trem.pf k0 k1 k2 then .aI 0 []else .aG,.int .i64 (if Trem.pf k0 k1 k2 then 0 else 1)]) σ):=by
 refine aA Iu sI.eq_1 rfl ?_;have hA:=fun σ=>all_nil (T:=T) (σ:=σ) (fv:=.fn kz [] []) (f:=gZ) (ag:=false) (w:=1) rfl rfl rfl rfl rfl rfl
 have hB:=fun σ=>all_nil (T:=T) (σ:=σ) (fv:=.fn qH [] []) (f:=pc) (ag:=false) (w:=1) rfl rfl rfl rfl rfl rfl
 have hC:Trem.Wi 0=true:=by decide
 by_cases c1:1000<k0
 ·have d1:¬k0≤1000:=by omega
  simp[-length_flatMap,-map_take,Trem.pf,hA,hB,I8,hC,c1,d1]
 have d1:k0≤1000:=by omega
 by_cases c2:k0<k1
 ·have d2:¬k1≤k0:=by omega
  simp[-length_flatMap,-map_take,Trem.pf,hA,hB,I8,hC,c1,c2,d1,d2]
 have d2:k1≤k0:=by omega
 by_cases c3:k1<k2
 ·have d3:¬k2≤k1:=by omega
  simp[-length_flatMap,-map_take,Trem.pf,hA,hB,I8,hC,c1,c2,c3,d1,d2,d3]
 have d3:k2≤k1:=by omega
 by_cases c4:k2<0
 ·have d4:¬0≤k2:=by omega
  simp[-length_flatMap,-map_take,Trem.pf,hA,hB,I8,hC,c1,c2,c3,c4,d1,d2,d3,d4]
 have d4:0≤k2:=by omega
 simp[-length_flatMap,-map_take,Trem.pf,hA,hB,I8,hC,c1,c2,c3,c4,d1,d2,d3,d4];refine aO wC.eq_1 ?_;simp[-length_flatMap,-map_take,d1,d2,d3,d4];have h3:¬σ.length≤σ.length-1:=by have:=aN.2 hσ;omega
 refine⟨[.dead],?_⟩;rw[Da (by simp[D.bC,D.clean]) (by omega)];have h6:=E7 (l:=σ.length-1) (n:=15) (l':=σ.length) (i:=0) (v:=0) (off:=0) (m:=0) (w:=1) (σ:=[Abs.aF.cells 0 []]::σ) (cs:=[]) h3 (by simp) (by omega);simp only[Nat.reduceSub,cG.frzL,h6];simp
def OV(b:Bk)(k0 k1 k2:Int):Bk:={b with k0:=k0,k1:=k1,k2:=k2 }
theorem apx{F:List Abs.aF}{b:Bk}{er:List Int}{nm:List UInt8}{x y z:Int}(h:Trem.pf x y z=true):
  bx T (.call false ga [.ref σ.length 6 0 0,.str nm,.aI 3 [.int .i64 x,.int .i64 y,.int .i64 z]] (F::b.bA σ.length er::σ))=some (.val (.dM []) (F::(OV b x y z).bA σ.length er::σ)):=by
 refine gH wu kI.eq_1 rfl (by simp) ?_;have hI:=fun σ hσ=>HW (σ:=σ) (k0:=x) (k1:=y) (k2:=z) hσ
 simp only[h,if_true]at hI;simp[-length_flatMap,-map_take,hI,meD,oG,Bk.bA,Bk.cells,OV]
theorem VE{F:List Abs.aF}{b:Bk}{er:List Int}{nm:List UInt8}{x y z:Int}(h:Trem.pf x y z=false):
  bx T (.call false ga [.ref σ.length 6 0 0,.str nm,.aI 3 [.int .i64 x,.int .i64 y,.int .i64 z]] (F::b.bA σ.length er::σ))=some (.fX (rf 1) (F::b.bA σ.length er::σ)):=by
 refine eg wu kI.eq_1 rfl ?_;have hI:=fun σ hσ=>HW (σ:=σ) (k0:=x) (k1:=y) (k2:=z) hσ
 simp only[h]at hI;have hM:=fun σ=>pO (σ:=σ) (e:=1) (by decide)
 simp[-length_flatMap,-map_take,hI,meD,hM,Bk.bA,Bk.cells,D.clean,rf]
theorem NF{r:Trem.dc}:bx T (.call false fF [.aI 1 r.enc,.aG,.int .i64 0] σ)=some (.val (.dM [.int .u8 0,.int .u8 0,.int .i64 (if r.ok then 0 else 1)]) σ):=by
 refine aA tB lQ.eq_1 rfl ?_;have hA:=fun σ=>@I5 σ [r] (by simp)
 have hN:=fun σ=>all_nil (T:=T) (σ:=σ) (fv:=.fn ef [] []) (f:=dj) (ag:=true) (w:=2) rfl rfl rfl rfl rfl rfl
 simp only[List.length_singleton,aZ,dR,dO,fV,jL,List.all_nil,Bool.and_true]at hA;have w0:Trem.cA 0 0 1000000=true:=by decide
 cases hr:r.ok
 ·rw[hr]at hA;simp only[Trem.dc.enc]at hA ⊢;simp[-length_flatMap,-map_take,hA]
 ·rw[hr]at hA;have hc:=(Trem.Gv.1 hr).2.2.2.1;have c1:¬r.count≤0:=by omega
  simp only[Trem.dc.enc]at hA ⊢;simp[-length_flatMap,-map_take,hA,hN,fq,w0];refine aO dC.eq_1 ?_;simp[-length_flatMap,-map_take];refine aO ft.eq_1 ?_;simp[-length_flatMap,-map_take,c1];refine aO dC.eq_1 ?_;simp[-length_flatMap,-map_take,c1]
def Cs(b:Bk)(r:Trem.dc)(c:Int):Bk×Int :=
 if b.rules.length<20 then(if cA c 1 2=true then(if r.ok=true then({b with rules:=b.rules++[r] },0)else(b,1))else(b,1))else(b,3)
theorem ahD(l:List Trem.dc):(l.flatMap Trem.dc.enc).length=l.length*10:=cm (f:=Trem.dc.enc) (w:=10) (fun _=>rfl) l
theorem apD{F:List Abs.aF}{b:Bk}{er:List Int}{nm:List UInt8}{x0 x1 x2 x3 x4 x5 x6 x7 x8 x9:Int}{b':Bk}{e:Int}(hd:Cs b ⟨⟨x0,x1,x2⟩,⟨x3,x4,x5⟩,x6,x7,x8,x9⟩ x9=(b',e))(he:e=0):
  bx T (.call false gg [.ref σ.length 6 0 0,.str nm,.aI 10 [.int .i64 x0,.int .i64 x1,.int .i64 x2,.int .i64 x3,.int .i64 x4,.int .i64 x5,.int .i64 x6,.int .i64 x7,.int .i64 x8,.int .i64 x9]] (F::b.bA σ.length er::σ))=some (.val (.dM []) (F::b'.bA σ.length er::σ)):=by
 refine gH wx kK.eq_1 rfl (by simp) ?_;have hL:=fun σ=>NF (σ:=σ) (r:=⟨⟨x0,x1,x2⟩,⟨x3,x4,x5⟩,x6,x7,x8,x9⟩)
 unfold Cs at hd;split at hd
 case isFalse=>cases hd;cases he
 rename_i h1;split at hd
 case isFalse=>cases hd;cases he
 rename_i h2;split at hd
 case isFalse=>cases hd;cases he
 rename_i h3;cases hd;have h1':(b.rules.length:Int)<20:=by omega
 have h4:=ba.1 h2;have w1:IntKind.u8.wrap x9=x9:=wu8 (by omega);have w2:(b.rules.length+1)*80≤room:=by unfold room;omega
 have w3:=ahD b.rules;have w4:(b.rules.flatMap Trem.dc.enc).take (b.rules.length*10)=b.rules.flatMap Trem.dc.enc:=ak (by omega);simp only[h3,if_true,Trem.dc.enc]at hL;simp[-length_flatMap,-map_take,Bk.bA,Bk.cells,h1',ff,h2,cH,w1,hL,oG,w2,w3,w4]
theorem VS{F:List Abs.aF}{b:Bk}{er:List Int}{nm:List UInt8}{x0 x1 x2 x3 x4 x5 x6 x7 x8 x9:Int}{b':Bk}{e:Int}(hd:Cs b ⟨⟨x0,x1,x2⟩,⟨x3,x4,x5⟩,x6,x7,x8,x9⟩ x9=(b',e))(he:e≠0):
  bx T (.call false gg [.ref σ.length 6 0 0,.str nm,.aI 10 [.int .i64 x0,.int .i64 x1,.int .i64 x2,.int .i64 x3,.int .i64 x4,.int .i64 x5,.int .i64 x6,.int .i64 x7,.int .i64 x8,.int .i64 x9]] (F::b.bA σ.length er::σ))=some (.fX (rf e) (F::b.bA σ.length er::σ)):=by
 refine eg wx kK.eq_1 rfl ?_;have hL:=fun σ=>NF (σ:=σ) (r:=⟨⟨x0,x1,x2⟩,⟨x3,x4,x5⟩,x6,x7,x8,x9⟩)
 have hM:=fun σ=>pO (σ:=σ) (e:=1) (by decide)
 unfold Cs at hd;split at hd
 ·rename_i h1;have h1':(b.rules.length:Int)<20:=by omega
  split at hd
  ·rename_i h2;have h4:=ba.1 h2;have w1:IntKind.u8.wrap x9=x9:=wu8 (by omega);split at hd
   ·cases hd;exact absurd rfl he
   ·rename_i h3;cases hd;have h3':Trem.dc.ok ⟨⟨x0,x1,x2⟩,⟨x3,x4,x5⟩,x6,x7,x8,x9⟩=false:=by simpa using h3
    simp only[h3',Trem.dc.enc]at hL;simp[-length_flatMap,-map_take,Bk.bA,Bk.cells,h1',ff,h2,cH,w1,hL,hM,D.clean,rf]
  ·rename_i h2;cases hd;have h2':cA x9 1 2=false:=by simpa using h2
   simp[-length_flatMap,-map_take,Bk.bA,Bk.cells,h1',ff,h2',cH,dI,D.clean,rf]
 ·rename_i h1;cases hd;have h1':¬(b.rules.length:Int)<20:=by omega
  simp[-length_flatMap,-map_take,Bk.bA,Bk.cells,h1',dI,D.clean,rf]
theorem ug{α:Type}{f:α→List D}{l:List α}:(nl f l).wN=.aI l.length (l.flatMap f):=by
 unfold nl;split
 ·rename_i h;subst h;rfl
 ·rfl
theorem ap8{l:List bJ}:(nl bJ.enc l).clean=true:=by unfold nl;split<;>simp[D.clean,bw]
theorem Ab{b:cC}{tq wq:D}(htq:tq.wN=.aI b.cz.length (b.cz.flatMap Rw.enc))(hwq:wq.wN=.aI b.ar.length (b.ar.flatMap bJ.enc))(h1:b.cz.length≤1000000000)(h2:b.ar.length≤1000000000):
  bx T (.call false mM [.agg [.int .i64 b.f.x,.int .i64 b.f.y,.int .i64 b.f.z,.int .i64 b.f.k,tq,.int .i64 b.bL,.int .i64 b.lift,.int .i64 b.deep,wq]] σ)=some (.val (.int .i64 (if b.valid then 0 else 1)) σ):=by
 refine aA Is sH.eq_1 rfl ?_;have hB:=fun σ=>BP (σ:=σ) (b:=b) h1 h2
 cases hv:b.valid<;>rw[hv]at hB<;>simp[-length_flatMap,-map_take,htq,hwq,hB,cN,bw]
def MK(b:Bk)(x y z:Int):Bk:={b with bO:={b.bO with bL:=x,lift:=y,deep:=z },ready:=true }
def H5(b:Bk)(x y z:Int):Bk×Int :=
 if((b.bO.f.x=0∧b.bO.f.y=0)∧b.bO.f.z=0∧b.bO.f.k=0)∨b.bO.cz=[]∨b.ready=true then(b,8)
 else if(MK b x y z).bO.valid=true then(MK b x y z,0)else(b,1)
theorem J3{f:fU}:(f.x == 0 && (f.y == 0 && (f.z == 0 && f.k == 0)))=decide ((f.x=0∧f.y=0)∧f.z=0∧f.k=0):=by
 by_cases h1:f.x=0<;>by_cases h2:f.y=0<;>by_cases h3:f.z=0<;>by_cases h4:f.k=0<;>simp[h1,h2,h3,h4]
theorem eI{α:Type}{f:α→List D}{l:List α}(h:l≠[]):nl f l=.aI l.length (l.flatMap f):=if_neg h
theorem apt{F:List Abs.aF}{b:Bk}{er:List Int}{nm:List UInt8}{x y z:Int}{b':Bk}{e:Int}(h1:b.bO.cz.length≤1000000000)(h2:b.bO.ar.length≤1000000000)(hd:H5 b x y z=(b',e))(he:e=0):
  bx T (.call false gP [.ref σ.length 6 0 0,.str nm,.aI 3 [.int .i64 x,.int .i64 y,.int .i64 z]] (F::b.bA σ.length er::σ))=some (.val (.dM []) (F::b'.bA σ.length er::σ)):=by
 refine gH xe lN.eq_1 rfl (by simp) ?_;unfold H5 at hd;split at hd
 case isTrue=>cases hd;cases he
 rename_i h0;split at hd
 case isFalse=>cases hd;cases he
 rename_i h3;cases hd;have c1:(b.bO.f.x == 0 && (b.bO.f.y == 0 && (b.bO.f.z == 0 && b.bO.f.k == 0)))=false:=by rw[J3];simpa using fun hh=>h0 (.inl hh)
 have c2:b.bO.cz≠[]:=fun hh=>h0 (.inr (.inl hh))
 have c3:b.ready=false:=by cases hr:b.ready with | false=>rfl | true=>exact absurd (.inr (.inr hr)) h0
 have c4:0<b.bO.cz.length:=aN.2 c2;have hcl:(D.aI b.bO.cz.length (b.bO.cz.flatMap Rw.enc)).clean=true:=by simp[D.clean,cN]
 have hC:=fun σ=>Ab (σ:=σ) (b:=(MK b x y z).bO) (tq:=nl Rw.enc b.bO.cz) (wq:=nl bJ.enc b.bO.ar) ug ug h1 h2
 rw[h3]at hC;simp only[eI c2,MK]at hC;simp[-length_flatMap,-map_take,Bk.bA,Bk.cells,c1,eI c2,c4,c3,cH,oG,hC,MK,ap8,hcl]
theorem Vx{F:List Abs.aF}{b:Bk}{er:List Int}{nm:List UInt8}{x y z:Int}{b':Bk}{e:Int}(h1:b.bO.cz.length≤1000000000)(h2:b.bO.ar.length≤1000000000)(hd:H5 b x y z=(b',e))(he:e≠0):
  bx T (.call false gP [.ref σ.length 6 0 0,.str nm,.aI 3 [.int .i64 x,.int .i64 y,.int .i64 z]] (F::b.bA σ.length er::σ))=some (.fX (rf e) (F::b.bA σ.length er::σ)):=by
 refine eg xe lN.eq_1 rfl ?_;have hM:=fun σ=>pO (σ:=σ) (e:=1) (by decide)
 unfold H5 at hd;split at hd
 ·rename_i h0;cases hd;cases c1:(b.bO.f.x == 0 && (b.bO.f.y == 0 && (b.bO.f.z == 0 && b.bO.f.k == 0)))
  ·by_cases c2:b.bO.cz=[]
   ·simp[-length_flatMap,-map_take,Bk.bA,Bk.cells,c1,c2,nl,dI,D.clean,rf]
   ·have c4:0<b.bO.cz.length:=aN.2 c2;have c3:b.ready=true:=by
     rw[J3]at c1;rcases h0 with h | h | h
     ·exact absurd h (by simpa using c1)
     ·exact absurd h c2
     ·exact h
    simp[-length_flatMap,-map_take,Bk.bA,Bk.cells,c1,eI c2,c4,c3,dI,D.clean,rf]
  ·simp[-length_flatMap,-map_take,Bk.bA,Bk.cells,c1,dI,D.clean,rf]
 ·rename_i h0;split at hd
  ·cases hd;exact absurd rfl he
  rename_i h3;cases hd;have c1:(b.bO.f.x == 0 && (b.bO.f.y == 0 && (b.bO.f.z == 0 && b.bO.f.k == 0)))=false:=by rw[J3];simpa using fun hh=>h0 (.inl hh)
  have c2:b.bO.cz≠[]:=fun hh=>h0 (.inr (.inl hh))
  have c3:b.ready=false:=by cases hr:b.ready with | false=>rfl | true=>exact absurd (.inr (.inr hr)) h0
  have c4:0<b.bO.cz.length:=aN.2 c2;have hC:=fun σ=>Ab (σ:=σ) (b:=(MK b x y z).bO) (tq:=nl Rw.enc b.bO.cz) (wq:=nl bJ.enc b.bO.ar) ug ug h1 h2
  have h3':(MK b x y z).bO.valid=false:=by simpa using h3
  rw[h3']at hC;simp only[eI c2,MK]at hC;simp[-length_flatMap,-map_take,Bk.bA,Bk.cells,c1,eI c2,c4,c3,cH,hM,hC,D.clean,rf]
end Go.Proofs.YtfgljaglidhjiaaGreatDoor
