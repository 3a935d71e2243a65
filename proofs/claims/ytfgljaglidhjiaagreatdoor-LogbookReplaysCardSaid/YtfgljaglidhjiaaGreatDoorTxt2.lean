import Derived.Test.YtfgljaglidhjiaaGreatDoorTxt1
import Derived.Test.YtfgljaglidhjiaaGreatDoorTxt0
import Derived.Test.YtfgljaglidhjiaaGreatDoorBase20
import Derived.Test.YtfgljaglidhjiaaGreatDoorTab
set_option linter.all false
namespace Go.Proofs.YtfgljaglidhjiaaGreatDoor
open List(length_flatMap map_take)
open Go Go.Abs Go.Rock
variable {σ:SK}
theorem MG{l i v off:Nat}:bw T (.zB fI [.ref l i v off] none σ)=some (.val (.ez []) σ):=by
 refine Ed Ah AF rfl (by simp[-length_flatMap,-map_take,sT];exact⟨rfl,rfl⟩) ?_;simp[-length_flatMap,-map_take]
theorem ajy{F:List Abs.aG}(hF:F=[.cells 0 [.int .i64 0]]):bw T (.zB fI [.ref σ.length 0 0 0] (some (.vn 262 (.agg []))) (F::σ))=some (.val (.ez []) ([.cells 0 [.int .i64 9]]::σ)):=by
 subst hF;refine Ed Ah AF rfl (by simp[-length_flatMap,-map_take,sT];exact⟨rfl,rfl⟩) ?_;simp[-length_flatMap,-map_take]
theorem uj{α:Type}{f:α→Int}:∀{l:List α},cQ f l=0→∀x∈l,f x=0
 |[],_,x,hx=>by cases hx
 |a::l,h,x,hx=>by
  simp only[cQ]at h;split at h
  ·rename_i ha;rcases bq.1 hx with rfl | hx
   ·exact ha
   ·exact uj h x hx
  ·rename_i ha;exact absurd h ha
theorem Cz{b:cC}{aC:List (List Int)}(h:vU b aC=0):aC.length≤200∧∀r∈aC,Rv b r:=by
 unfold vU at h;split at h
 ·cases h
 ·exact⟨by omega,fun r hr=>Rv.of (uj h r hr)⟩
def tE(b:cC)(m:cX)(aC:List (List Int)):Int:=if Bd b m then(if vU b aC=0 then(match Rock.run b m aC with | some _=>0 | none=>9)else vU b aC)else 1
def Bz(b:cC)(m:cX)(aC:List (List Int)):D:=if tE b m aC=0 then(match Rock.run b m aC with | some (ss,ys) => .agg [.aK ss.length (ss.flatMap zX),.aK ys.length (ys.flatMap zX)] | none => .agg [.aH,.aH])else .agg [.aH,.aH]
theorem aiK{b:cC}{m:cX}{aC:List (List Int)}{wq:D}(hwq:wq.yh=.aK b.av.length (b.av.flatMap bH.enc))(h1:b.cf.length≤1000000000)(h2:b.av.length≤1000000000)(hn:m.name.length≤1000000000)(hl:m.bg.length≤1000000000)(hp:aC.length≤1000000000)(hs:∀l∈aC,l.length≤1000000000)(hσ:σ≠[]):
  bw T (.call false uk [.agg [.int .i64 b.f.x,.int .i64 b.f.y,.int .i64 b.f.z,.int .i64 b.f.k,.aK b.cf.length (b.cf.flatMap Rw.enc),.int .i64 b.bJ,.int .i64 b.lift,.int .i64 b.deep,wq],.agg [.str m.name,.aK m.bg.length (m.bg.flatMap aU)],.aK aC.length (aC.flatMap LS)] σ)=some (.val (.ez [Bz b m aC,.int .i64 (tE b m aC)]) σ):=by
 have hP:=fun σ=>ai3 (σ:=σ) (b:=b) hp hs
 cases hb:Bd b m
 ·have hE:tE b m aC=1:=by simp[tE,hb]
  have hD:Bz b m aC=.agg [.aH,.aH]:=by simp[Bz,hE]
  rw[hD,hE];refine aD DM Ek rfl ?_;obtain⟨d,hB,hd1,hd2⟩:=af3 h1 h2 hn hl hb (σ:=[.cells 0 [.int .i64 0]]::σ);simp[-length_flatMap,-map_take,hwq,hB,hd1,cM,bu,bA]
 ·have hB:=fun σ=>ar4 (σ:=σ) h1 h2 hn hl hb
  by_cases hq:vU b aC=0
  ·obtain⟨p1,p2⟩:=Cz hq;simp only[Bd,af]at hb;have hf:Fv b m:=Fv.of (by simp[Bd,hb]);have hb':Bd b m=true:=by simp[Bd,hb]
   refine Tq DM Ek rfl rfl ?_;cases hrun:Rock.run b m aC with
   |none =>
    have hE:tE b m aC=9:=by simp[tE,hb',hq,hrun]
    have hD:Bz b m aC=.agg [.aH,.aH]:=by simp[Bz,hE]
    have hR:=fun σ=>af6 (σ:=σ) hf p1 p2 hrun
    have hX:xz T (.fn fI [] []) [.ref σ.length 0 0 0] (some (.vn 262 (.agg []))) ([.cells 0 [.int .i64 0]]::σ)=some ([.cells 0 [.int .i64 9]]::σ):=wg (ajy rfl);rw[hD,hE];simp[-length_flatMap,-map_take,SH,DB,hwq,hB,hP,hq,hR,cM,bu,bA];rw[AZ El];simp[-length_flatMap,-map_take,SH,DB,hX,hR,cM,bu,bA]
   |some p =>
    obtain⟨ss,ys⟩:=p;have hE:tE b m aC=0:=by simp[tE,hb',hq,hrun]
    have hD:Bz b m aC=.agg [.aK ss.length (ss.flatMap zX),.aK ys.length (ys.flatMap zX)]:=by simp[Bz,hE,hrun]
    have hX:xz T (.fn fI [] []) [.ref σ.length 0 0 0] none ([.cells 0 [.int .i64 0]]::σ)=some ([.cells 0 [.int .i64 0]]::σ):=wg MG;have hR:=fun σ hσ=>af7 (σ:=σ) hf p1 p2 hσ hrun
    rw[hD,hE];simp[-length_flatMap,-map_take,SH,DB,hwq,hB,hP,hq,hR,cM,bu,bA];rw[AZ El];simp[-length_flatMap,-map_take,SH,DB,hX,hR,cM,bu,bA];rw[lh (by simp[D.clean,O5]) (by omega)];exact⟨_,rfl⟩
  ·have hE:tE b m aC=vU b aC:=by simp[tE,hb,hq]
   have hD:Bz b m aC=.agg [.aH,.aH]:=by simp[Bz,hE,hq]
   rw[hD,hE];refine aD DM Ek rfl ?_;simp[-length_flatMap,-map_take,hwq,hB,hP,hq,cM,bu,bA]
end Go.Proofs.YtfgljaglidhjiaaGreatDoor
namespace Go.Book
open List(length_flatMap map_take)
open Go Go.Abs Go.Rock
def aif(s:List UInt8):Option Int:=if((wO s).1=0∧Pm (wO s).2=s)∧cV (wO s).2 (-999999999) 999999999=true then some (wO s).2 else none
def zS:List (List UInt8)→Option (List Int)
 |[]=>some []
 |s::l=>match aif s with
  |some n=>(zS l).map (n :: ·)
  |none=>none
structure Wd where
 named:Bool
 least:Int
 step:Int
 k:Nat
def uw:List (List UInt8×Wd):=[
 ([102,105,101,108,100],⟨false,4,0,0⟩),([116,97,98,108,101],⟨false,0,5,1⟩),([98,101,100],⟨false,3,0,2⟩),([119,101,108,108],⟨false,3,0,3⟩),
 ([109,111,100,101,108],⟨true,0,1,4⟩),([108,111,103],⟨true,3,2,5⟩),([114,117,108,101],⟨false,10,0,6⟩),([107,101,101,112],⟨false,3,0,7⟩),
 ([113,117,97,107,101],⟨false,0,4,8⟩),([116,105,99,107],⟨false,0,1,9⟩),([114,101,97,100],⟨false,4,0,10⟩),([117,110,105,116],⟨false,1,2,11⟩),([115,101,108,108],⟨false,4,0,12⟩)]
def GD(s:List UInt8):List (List UInt8×Wd)→Option Wd
 |[]=>none
 |(k,w)::l=>if s=k then some w else GD s l
def z8(s:List UInt8):Option Wd:=GD s uw
theorem Kq{s:List UInt8}{w:Wd}:∀{l:List (List UInt8×Wd)},GD s l=some w→(s,w)∈l
 |[],h=>by cases h
 |(k,v)::l,h=>by
  simp only[GD]at h;split at h
  ·rename_i e;cases h;subst e;simp
  ·exact List.mem_cons_of_mem _ (Kq h)
theorem JB{s:List UInt8}{w:Wd}(h:z8 s=some w):0≤w.least∧w.least≤10∧0≤w.step∧w.step≤5∧w.k<13:=by
 have h1:=Kq h;simp only[uw,bq,au,List.not_mem_nil,or_false]at h1;rcases h1 with⟨_,rfl⟩ | ⟨_,rfl⟩ | ⟨_,rfl⟩ | ⟨_,rfl⟩ | ⟨_,rfl⟩ | ⟨_,rfl⟩ | ⟨_,rfl⟩ | ⟨_,rfl⟩ | ⟨_,rfl⟩ | ⟨_,rfl⟩ | ⟨_,rfl⟩ | ⟨_,rfl⟩ | ⟨_,rfl⟩<;>simp
def No(w:Wd)(n:Int):Bool:=decide (n-w.least=0) || (decide (0<n-w.least) && (decide (0<w.step) && decide ((n-w.least).tmod w.step=0)))
def xF(w:Wd)(name:List UInt8)(l:List (List UInt8)):Option (Wd×List UInt8×List Int) :=
 match zS l with
 |some ns=>if No w ns.length=true then some (w,name,ns)else none
 |none=>none
def parse(s:List UInt8):Option (Wd×List UInt8×List Int) :=
 match gP 32 s with
 |[]=>none
 |a::all=>match z8 a with
  |none=>none
  |some w=>if w.named=true then(match all with
   |[]=>none
   |n::r=>xF w n r)else xF w [] all
theorem Fk(b:UInt8)(s:List UInt8):gP b s≠[]:=by
 cases s with
 |nil=>simp[gP]
 |cons c r =>
  simp only[gP];split
  ·simp
  ·split<;>simp
theorem CI(b:UInt8):∀s:List UInt8,(gP b s).length≤s.length+1
 |[]=>by simp[gP]
 |c::r=>by
  have:=CI b r;simp only[gP];split
  ·simp;omega
  ·split
   ·rename_i h;rw[h]at this;simp at this ⊢;omega
   ·simp
end Go.Book
namespace Go.Proofs.YtfgljaglidhjiaaGreatDoor
open List(length_flatMap map_take)
open Go Go.Abs Go.Rock Go.Book
variable {σ:SK}
theorem Nx{T:Ak}{kp:Bool}{f k:Nat}{args:List D}{σ:SK}{r:R}(hT:T f=none)(hN:T (1000000+f)=some ⟨k,[],.exit 0⟩)(h:KA k args σ=some r):bw T (.call kp f args σ)=some r :=
 iq (by simp[dA,hT,hN,h])
def rf(e:Int):D:=.vn 311 (.agg [.int .i64 e])
theorem cH{e:Int}:bw T (.call false bd [.bool true,.int .i64 e] σ)=some (.val (.ez []) σ):=by
 refine aD Gt Gy rfl ?_;simp[-length_flatMap,-map_take]
theorem dJ{e:Int}:bw T (.call false bd [.bool false,.int .i64 e] σ)=some (.fU (rf e) σ):=by
 refine eg Gt Gy rfl ?_;simp[-length_flatMap,-map_take,axy,D.clean,rf]
theorem pI:bw T (.call false bW [.int .i64 0] σ)=some (.val (.ez []) σ):=by
 refine aD DK Ei rfl ?_;simp[-length_flatMap,-map_take,cH]
theorem rD{e:Int}(h:e≠0):bw T (.call false bW [.int .i64 e] σ)=some (.fU (rf e) σ):=by
 refine eg DK Ei rfl ?_;have h':(e == 0)=false:=by simpa using h
 simp[-length_flatMap,-map_take,dJ,h',D.clean,rf]
theorem fg{a b c:Int}:bw T (.call false cG [.int .i64 a,.int .i64 b,.int .i64 c] σ)=some (.val (.bool (cV a b c)) σ):=by
 refine aD JG Kc rfl ?_;by_cases h:b≤a<;>simp[-length_flatMap,-map_take,h,cV]
theorem UZ{n:Int}(h : -9223372036854775808≤n∧n≤9223372036854775807):bw T (.call false eD [.int .i64 n] σ)=some (.val (.str (Pm n)) σ) :=
 Nx MF Mr (by simp[KA,h])
theorem PM{s:List UInt8}(h:s.length≤1000000):bw T (.call false iV [.str s] σ)=some (.val (.ez [.int .i64 (wO s).2,if(wO s).1=0 then .pW else .vn 477 .undef]) σ) :=
 Nx ME Mq (by simp[KA,h])
theorem EX{s:List UInt8}(h:s.length≤1000000):bw T (.call false gJ [.str s,.str [32]] σ)=some (.val (.aK (gP 32 s).length ((gP 32 s).map .str)) σ) :=
 Nx Ls Lj (by simp[KA,h])
theorem Qg(s:List UInt8) : -9223372036854775808≤(wO s).2∧(wO s).2≤9223372036854775807:=by
 unfold wO;split
 ·rename_i v h;cases s with
  |nil=>cases h
  |cons c r =>
   simp only[Lib.atoiAll]at h;split at h
   ·cases h
   ·cases h
   ·rename_i u hu;split at h
    ·cases h
    ·split at h
     ·cases h
     ·cases h;dsimp only;split<;>omega
 ·simp
 ·simp only[Lib.atoiSat];split<;>simp
theorem aiZ{s:List UInt8}(hl:s.length≤1000000){n:Int}(h:aif s=some n):bw T (.call false mH [.str s] σ)=some (.val (.int .i64 n) σ):=by
 unfold aif at h;simp only[aE,ae]at h;obtain⟨⟨⟨h1,h2⟩,h3⟩,rfl⟩:=h;refine aD AX Bg rfl ?_;simp[-length_flatMap,-map_take,PM hl,h1,UZ (Qg s),h2,KF,fg,h3,cH]
theorem U7{s:List UInt8}(hl:s.length≤1000000)(h:aif s=none):bw T (.call false mH [.str s] σ)=some (.fU (rf 4) σ):=by
 refine eg AX Bg rfl ?_;unfold aif at h;simp only[ite_eq_right_iff,reduceCtorEq,imp_false,not_and]at h;by_cases h1:(wO s).1=0
 ·by_cases h2:Pm (wO s).2=s
  ·have h3:cV (wO s).2 (-999999999) 999999999=false:=by simpa using h ⟨h1,h2⟩
   simp[-length_flatMap,-map_take,PM hl,h1,UZ (Qg s),h2,KF,fg,h3,dJ,D.clean,rf]
  ·simp[-length_flatMap,-map_take,PM hl,h1,UZ (Qg s),h2,KF,fg,dJ,D.clean,rf]
 ·simp[-length_flatMap,-map_take,PM hl,h1,dJ,D.clean,rf]
def Pv:List Nat:=[fw,fB,gN,gg,fy,gO,fZ,fW,fA,gb,fY,gf,ga]
def UX(w:Wd):List D:=[.bool w.named,.int .i64 w.least,.int .i64 w.step,.fn ((Pv[w.k]?).getD 0) [] []]
def j6(l:List (List UInt8×Wd)):List D:=l.map fun p => .ez [.str p.1,.agg (UX p.2)]
theorem Nn{s:List UInt8}:∀{l:List (List UInt8×Wd)},GD s l=none→sd none (.str s) (j6 l)=some none
 |[],_=>rfl
 |(k,w)::l,h=>by
  simp only[GD]at h;split at h
  ·cases h
  ·rename_i hk;have hb:(s == k)=false:=by simpa using hk
   have:=Nn h;simp only[j6,aj,sd,tV,hb]at this ⊢;rw[this];rfl
theorem Pc{s:List UInt8}{w:Wd}:∀{l:List (List UInt8×Wd)},GD s l=some w→∃j,sd none (.str s) (j6 l)=some (some (j,.agg (UX w)))
 |[],h=>by cases h
 |(k,v)::l,h=>by
  simp only[GD]at h;split at h
  ·rename_i hk;cases h;subst hk;exact⟨0,by simp[j6,sd,tV]⟩
  ·rename_i hk;have hb:(s == k)=false:=by simpa using hk
   obtain⟨j,hj⟩:=Pc h;exact⟨j+1,by
    simp only[j6,aj,sd,tV,hb]at hj ⊢;rw[hj];rfl⟩
theorem aEx{S:SK}{l i:Nat}{pre:List (List UInt8×Wd)}{k:List UInt8}{w:Wd}(h:cells? S l i 0=some (j6 pre))(hn:GD k pre=none)(hl:l+1=S.length):
  DE S (.put none) [.nO l i,.str k,.agg (UX w)]=some (.undef,aX S l i (.cells 0 (j6 (pre++[(k,w)])))):=by
 have h1:=Nn hn;simp only[DE,DD,h,aT,h1];simp[tV,hl,j6]
theorem ahZ{S:SK}{l i:Nat}{s:List UInt8}(h:cells? S l i 0=some (j6 uw)):
  DE S (.get none (.agg [.bool false,.int .i64 0,.int .i64 0,.jj]) true) [.nO l i,.str s] =
   some (match z8 s with | some w => .ez [.agg (UX w),.bool true] | none => .ez [.agg [.bool false,.int .i64 0,.int .i64 0,.jj],.bool false],S):=by
 simp only[DE,DD,h,aT];cases hw:z8 s with
 |none=>rw[Nn hw];simp[tV]
 |some w=>obtain⟨j,hj⟩:=Pc hw;rw[hj];simp[tV]
theorem EZ{bs:List Abs.aG}:bw T (.call true re [] (bs::σ))=some (.val (.nO σ.length bs.length) ((bs++[.cells 0 (j6 uw)])::σ)):=by
 refine yi Lm LL rfl ?_;have hm:DE (bs::σ) .make []=some (.nO σ.length bs.length,(bs++[.cells 0 []])::σ):=by simp[DE]
 have hp:∀(pre:List (List UInt8×Wd)) (k:List UInt8) (w:Wd),GD k pre=none→DE ((bs++[.cells 0 (j6 pre)])::σ) (.put none) [.nO σ.length bs.length,.str k,.agg (UX w)]=some (.undef,(bs++[.cells 0 (j6 (pre++[(k,w)]))])::σ):=by
  intro pre k w hn;have h1:cells? ((bs++[.cells 0 (j6 pre)])::σ) σ.length bs.length 0=some (j6 pre):=by simp
  have h2:σ.length+1=((bs++[Abs.aG.cells 0 (j6 pre)])::σ).length:=by simp
  have h3:=aEx (w:=w) h1 hn h2;refine h3.trans ?_;simp
 have p:=fun(j:Nat) (hj:j<13)=>hp (uw.take j) ((uw[j]?).getD ([],⟨false,0,0,0⟩)).1 ((uw[j]?).getD ([],⟨false,0,0,0⟩)).2
 have p0:=p 0 (by omega) (by decide);have p1:=p 1 (by omega) (by decide);have p2:=p 2 (by omega) (by decide);have p3:=p 3 (by omega) (by decide);have p4:=p 4 (by omega) (by decide);have p5:=p 5 (by omega) (by decide);have p6:=p 6 (by omega) (by decide);have p7:=p 7 (by omega) (by decide);have p8:=p 8 (by omega) (by decide);have p9:=p 9 (by omega) (by decide);have p10:=p 10 (by omega) (by decide);have p11:=p 11 (by omega) (by decide);have p12:=p 12 (by omega) (by decide);simp[uw,j6,UX,Pv]at p0 p1 p2 p3 p4 p5 p6 p7 p8 p9 p10 p11 p12;simp[-length_flatMap,-map_take,hm,p0,p1,p2,p3,p4,p5,p6,p7,p8,p9,p10,p11,p12,uw,j6,UX,Pv]
@[simp] def eU(s:List UInt8):List D:=[.str s]
def agX(cs:List D)(name:List UInt8)(M:Abs.aG)(σ:SK)(acc:List Int)(r:Option (List Int))(x:Abs.Exit)(e:Env)(σ':SK):Prop:=match r with
 |some ns=>x=.exit 0∧get e 2=.own 0 cs∧get e 3=.str name∧get e 4=.sl σ.length 0 (acc++ns).length 0 (acc++ns).length 1∧σ'=[.cells (acc++ns).length ((acc++ns).flatMap aU),M]::σ
 |none=>x=.fU (rf 4)∧∃bx,σ'=bx::σ
theorem Mp{all:List (List UInt8)}(hs:∀s∈all,s.length≤1000000)(hl:all.length≤1000001){cs:List D}{name:List UInt8}{M:Abs.aG}:∀(k i:Nat) (acc:List Int),i+k=all.length→acc.length=i →
  WL T [2,3,4,35,36,37] false n9 [(2,.own 0 cs),(3,.str name),(4,.sl σ.length 0 i 0 i 1),(35,.aK all.length (all.flatMap eU)),(36,.int .i64 all.length),(37,.int .i64 i)]
   ([.cells i (acc.flatMap aU),M]::σ) (agX cs name M σ acc (zS (all.drop i)))
 |0,i,acc,hi,ha=>by
  refine aM wT ?_;obtain rfl:i=all.length:=by omega
  have h5:all.drop all.length=[]:=aJ (by omega);simp[-length_flatMap,-map_take,h5,zS,agX,ha]
 |k+1,i,acc,hi,ha=>by
  refine aM wT ?_;have hlt:i<all.length:=by omega
  have hii:(i:Int)<i+1:=by omega
  obtain⟨s,hx⟩:=gE hlt;have h4:=fK hlt (by omega);have h5:=dG hx;have a1:=bQ (f:=eU) (w:=1) (fun _=>rfl) hx;simp only[eU,dM]at a1;have hsl:=hs s (an hx);rw[h5];simp only[zS];have hr:(i+1)*8≤room:=by unfold room;omega
  cases hn:aif s with
  |none =>
   simp[-length_flatMap,-map_take,hlt,a1,U7 hsl hn,agX]
  |some n =>
   have hc:(acc.flatMap aU).length=i:=by simp[bV (f:=aU) (w:=1) (fun _=>rfl),ha]
   have ht:(acc.flatMap aU).take i=acc.flatMap aU:=ar (by omega);simp[-length_flatMap,-map_take,hlt,a1,aiZ hsl hn,hr,h4,hc,ht];refine WL.to (Mp (cs:=cs) (name:=name) (M:=M) hs hl k (i+1) (acc++[n]) (by omega) (by simp[ha])) (by simp) (by simp) fun x e σ' hh=>?_
   cases hm:zS (all.drop (i+1))with
   |none=>rw[hm]at hh;exact hh
   |some ns=>rw[hm]at hh;simpa[agX]using hh
theorem By:∀{l:List (List UInt8)} {ns:List Int},zS l=some ns→ns.length=l.length
 |[],ns,h=>by simp only[zS,ae]at h;subst h;rfl
 |s::l,ns,h=>by
  simp only[zS]at h;split at h
  ·rename_i n hn;simp only[ad]at h;obtain⟨m,h1,rfl⟩:=h;simp[By h1]
  ·cases h
theorem ja(w:Wd):UX w=[.bool w.named,.int .i64 w.least,.int .i64 w.step,.fn ((Pv[w.k]?).getD 0) [] []]:=rfl
theorem Fl(l:List (List UInt8)):l.map D.str=l.flatMap eU:=by induction l with | nil=>rfl | cons s l ih=>simp[ih]
theorem SY{s:List UInt8}(hl:s.length≤1000000){a:List UInt8}{all:List (List UInt8)}(h:gP 32 s=a::all)(hw:z8 a=none):bw T (.call false dp [.str s] σ)=some (.fU (rf 4) σ):=by
 refine eg mE mF rfl ?_;have hW:=EZ (bs:=[.cells 0 []]) (σ:=σ);have hG:=ahZ (S:=[Abs.aG.cells 0 [],.cells 0 (j6 uw)]::σ) (l:=σ.length) (i:=1) (s:=a) (by simp);rw[hw]at hG;simp[-length_flatMap,-map_take,EX hl,h,hW,hG,dJ,D.clean,rf]
def zT(p:Wd×List UInt8×List Int):D:=.ez [.agg (UX p.1),.str p.2.1,.aK p.2.2.length (p.2.2.flatMap aU)]
theorem Ma{a:List D}(ha:D.bD a=true){name:List UInt8}{v:Nat}{ns:List Int}{M:Abs.aG}(hσ:σ≠[]):
  cI (σ.length-1) 16 (.ez [.agg a,.str name,.sl σ.length 0 v 0 ns.length 1]) ([.cells v (ns.flatMap aU),M]::σ)=(.ez [.agg a,.str name,.aK ns.length (ns.flatMap aU)],[.dead,M]::σ):=by
 have h3:¬σ.length≤σ.length-1:=by have:=aV.2 hσ;omega
 rw[E7 (by simp[D.bD,D.clean]) (by omega)];have h4:=lh (l:=σ.length-1) (n:=15) (d:=.agg a) (σ:=[Abs.aG.cells v (ns.flatMap aU),M]::σ) (by simp[D.clean,ha]) (by omega);have h5:=lh (l:=σ.length-1) (n:=15) (d:=.str name) (σ:=[Abs.aG.cells v (ns.flatMap aU),M]::σ) (by simp[D.clean]) (by omega);have h6:=HW (l:=σ.length-1) (n:=15) (l':=σ.length) (i:=0) (v:=v) (off:=0) (m:=ns.length) (w:=1) (σ:=[Abs.aG.cells v (ns.flatMap aU),M]::σ) (cs:=ns.flatMap aU) h3 (by simp) (by omega);have ht:(ns.flatMap aU).take ns.length=ns.flatMap aU:=by have:=Sa (f:=aU) (w:=1) (fun _=>rfl) ns;rwa[dM]at this
 simp only[Nat.reduceSub,cI.frzL,h4,h5,h6];simp[ht,ir (f:=aU) (fun _=>by simp[D.clean]) ns]
theorem ahs{s:List UInt8}(hl:s.length≤1000000){a:List UInt8}{all:List (List UInt8)}(h:gP 32 s=a::all)(hs:∀x∈all,x.length≤1000000)(hl2:all.length≤1000001){w:Wd}(hw:z8 a=some w)(hn:w.named=false)(hσ:σ≠[]){p:Wd×List UInt8×List Int}(hp:xF w [] all=some p):
  bw T (.call false dp [.str s] σ)=some (.val (zT p) σ):=by
 refine aD mE mF rfl ?_;have hW:=EZ (bs:=[.cells 0 []]) (σ:=σ);have hG:=ahZ (S:=[Abs.aG.cells 0 [],.cells 0 (j6 uw)]::σ) (l:=σ.length) (i:=1) (s:=a) (by simp);rw[hw]at hG;obtain⟨w1,w2,w3,w4,w5⟩:=JB hw;have hL:=Mp (σ:=σ) (cs:=UX w) (name:=[]) (M:=.cells 0 (j6 uw)) hs hl2 all.length 0 [] (by omega) rfl;unfold xF at hp;cases hm:zS all with
 |none=>rw[hm]at hp;cases hp
 |some ns =>
 rw[hm]at hp;simp only[aE,ae]at hp;obtain⟨hf,rfl⟩:=hp;have hlen:=By hm;simp only[No,cn,af,aA]at hf;have e1:IntKind.i64.wrap ((ns.length:Int)-w.least)=ns.length-w.least:=gQ (by omega);rw[aS,hm]at hL;have q1:(1:Int)≤(all.length:Int)+1:=by omega
 have q2:(all.flatMap eU).take all.length=all.flatMap eU:=ar (by rw[bV (f:=eU) (w:=1) (fun _=>rfl)];omega);simp[-length_flatMap,-map_take,EX hl,h,hW,hG,cH,ja,hn,Fl,q1,q2];refine WL.to hL (by simp[ja,hn]) (by simp) ?_;rintro x e σ' ⟨rfl,g2,g3,g4,rfl⟩;have hz:D.bD (UX w)=true:=by simp[UX,D.clean]
 rcases hf with c1 | ⟨c1,c2,c3⟩
 ·simp[-length_flatMap,-map_take,g2,g3,g4,ja,e1,c1,cH,zT];exact⟨_,Ma (by simp[D.clean]) hσ⟩
 ·have c0:¬(ns.length:Int)-w.least=0:=by omega
  have c4:¬w.step=0:=by omega
  have c5:w.least<(ns.length:Int):=by omega
  simp[-length_flatMap,-map_take,g2,g3,g4,ja,e1,c0,c5,c2,c3,c4,cH,zT];exact⟨_,Ma (by simp[D.clean]) hσ⟩
theorem SW{s:List UInt8}(hl:s.length≤1000000){a:List UInt8}{all:List (List UInt8)}(h:gP 32 s=a::all)(hs:∀x∈all,x.length≤1000000)(hl2:all.length≤1000001){w:Wd}(hw:z8 a=some w)(hn:w.named=false)(hp:xF w [] all=none):
  bw T (.call false dp [.str s] σ)=some (.fU (rf 4) σ):=by
 refine eg mE mF rfl ?_;have hW:=EZ (bs:=[.cells 0 []]) (σ:=σ);have hG:=ahZ (S:=[Abs.aG.cells 0 [],.cells 0 (j6 uw)]::σ) (l:=σ.length) (i:=1) (s:=a) (by simp);rw[hw]at hG;obtain⟨w1,w2,w3,w4,w5⟩:=JB hw;have hL:=Mp (σ:=σ) (cs:=UX w) (name:=[]) (M:=.cells 0 (j6 uw)) hs hl2 all.length 0 [] (by omega) rfl;have q1:(1:Int)≤(all.length:Int)+1:=by omega
 have q2:(all.flatMap eU).take all.length=all.flatMap eU:=ar (by rw[bV (f:=eU) (w:=1) (fun _=>rfl)];omega);rw[aS]at hL;simp[-length_flatMap,-map_take,EX hl,h,hW,hG,cH,ja,hn,Fl,q1,q2];refine WL.to hL (by simp[ja,hn]) (by simp) ?_;unfold xF at hp;cases hm:zS all with
 |none =>
  rintro x e σ' ⟨rfl,bx,rfl⟩;simp[D.clean,rf]
 |some ns =>
 rw[hm]at hp;simp only[ite_eq_right_iff,reduceCtorEq,imp_false]at hp;rintro x e σ' ⟨rfl,g2,g3,g4,rfl⟩;have hlen:=By hm;have e1:IntKind.i64.wrap ((ns.length:Int)-w.least)=ns.length-w.least:=gQ (by omega);simp only[No,cn,af,aA]at hp;have c0:¬(ns.length:Int)-w.least=0:=fun hh=>hp (.inl hh)
 by_cases c1:w.least<(ns.length:Int)
 ·by_cases c2:0<w.step
  ·have c3:¬((ns.length:Int)-w.least).tmod w.step=0:=fun hh=>hp (.inr ⟨by omega,c2,hh⟩)
   have c4:¬w.step=0:=by omega
   have c3':(((ns.length:Int)-w.least).tmod w.step == 0)=false:=by simpa using c3
   have c0':((ns.length:Int)-w.least == 0)=false:=by simpa using c0
   simp[-length_flatMap,-map_take,g2,g3,g4,ja,e1,c0',c1,c2,c3',c4,dJ,D.clean,rf]
  ·simp[-length_flatMap,-map_take,g2,g3,g4,ja,e1,c0,c1,c2,dJ,D.clean,rf]
 ·simp[-length_flatMap,-map_take,g2,g3,g4,ja,e1,c0,c1,dJ,D.clean,rf]
theorem U8{s:List UInt8}(hl:s.length≤1000000){a:List UInt8}(h:gP 32 s=[a]){w:Wd}(hw:z8 a=some w)(hn:w.named=true):
  bw T (.call false dp [.str s] σ)=some (.fU (rf 4) σ):=by
 refine eg mE mF rfl ?_;have hW:=EZ (bs:=[.cells 0 []]) (σ:=σ);have hG:=ahZ (S:=[Abs.aG.cells 0 [],.cells 0 (j6 uw)]::σ) (l:=σ.length) (i:=1) (s:=a) (by simp);rw[hw]at hG;obtain⟨w1,w2,w3,w4,w5⟩:=JB hw;simp[-length_flatMap,-map_take,EX hl,h,hW,hG,cH,dJ,ja,hn,D.clean,rf]
theorem aht{s:List UInt8}(hl:s.length≤1000000){a n:List UInt8}{r:List (List UInt8)}(h:gP 32 s=a::n::r)(hs:∀x∈r,x.length≤1000000)(hl2:r.length≤1000001){w:Wd}(hw:z8 a=some w)(hn:w.named=true)(hσ:σ≠[]){p:Wd×List UInt8×List Int}(hp:xF w n r=some p):
  bw T (.call false dp [.str s] σ)=some (.val (zT p) σ):=by
 refine aD mE mF rfl ?_;have hW:=EZ (bs:=[.cells 0 []]) (σ:=σ);have hG:=ahZ (S:=[Abs.aG.cells 0 [],.cells 0 (j6 uw)]::σ) (l:=σ.length) (i:=1) (s:=a) (by simp);rw[hw]at hG;obtain⟨w1,w2,w3,w4,w5⟩:=JB hw;have hL:=Mp (σ:=σ) (cs:=UX w) (name:=n) (M:=.cells 0 (j6 uw)) hs hl2 r.length 0 [] (by omega) rfl;have q1:(1:Int)≤(r.length:Int)+1:=by omega
 have q2:(r.flatMap eU).take r.length=r.flatMap eU:=ar (by rw[bV (f:=eU) (w:=1) (fun _=>rfl)];omega);have q3:(1:Int)≤(r.length:Int)+1+1:=by omega
 have q4:(0:Int)<(r.length:Int)+1:=by omega
 have q6:(0:Int)<(r.length:Int)+1+1:=by omega
 have q5:(r.flatMap eU).take (r.length+1)=r.flatMap eU:=ar (by rw[bV (f:=eU) (w:=1) (fun _=>rfl)];omega);unfold xF at hp;cases hm:zS r with
 |none=>rw[hm]at hp;cases hp
 |some ns =>
 rw[hm]at hp;simp only[aE,ae]at hp;obtain⟨hf,rfl⟩:=hp;have hlen:=By hm;simp only[No,cn,af,aA]at hf;have e1:IntKind.i64.wrap ((ns.length:Int)-w.least)=ns.length-w.least:=gQ (by omega);rw[aS,hm]at hL;simp[-length_flatMap,-map_take,EX hl,h,hW,hG,cH,ja,hn,Fl,q1,q2,q3,q4,q5,q6];refine WL.to hL (by simp[ja,hn]) (by simp) ?_;rintro x e σ' ⟨rfl,g2,g3,g4,rfl⟩;rcases hf with c1 | ⟨c1,c2,c3⟩
 ·simp[-length_flatMap,-map_take,g2,g3,g4,ja,e1,c1,cH,zT];exact⟨_,Ma (by simp[D.clean]) hσ⟩
 ·have c0:¬(ns.length:Int)-w.least=0:=by omega
  have c4:¬w.step=0:=by omega
  have c5:w.least<(ns.length:Int):=by omega
  simp[-length_flatMap,-map_take,g2,g3,g4,ja,e1,c0,c5,c2,c3,c4,cH,zT];exact⟨_,Ma (by simp[D.clean]) hσ⟩
theorem SX{s:List UInt8}(hl:s.length≤1000000){a n:List UInt8}{r:List (List UInt8)}(h:gP 32 s=a::n::r)(hs:∀x∈r,x.length≤1000000)(hl2:r.length≤1000001){w:Wd}(hw:z8 a=some w)(hn:w.named=true)(hp:xF w n r=none):
  bw T (.call false dp [.str s] σ)=some (.fU (rf 4) σ):=by
 refine eg mE mF rfl ?_;have hW:=EZ (bs:=[.cells 0 []]) (σ:=σ);have hG:=ahZ (S:=[Abs.aG.cells 0 [],.cells 0 (j6 uw)]::σ) (l:=σ.length) (i:=1) (s:=a) (by simp);rw[hw]at hG;obtain⟨w1,w2,w3,w4,w5⟩:=JB hw;have hL:=Mp (σ:=σ) (cs:=UX w) (name:=n) (M:=.cells 0 (j6 uw)) hs hl2 r.length 0 [] (by omega) rfl;have q1:(1:Int)≤(r.length:Int)+1:=by omega
 have q2:(r.flatMap eU).take r.length=r.flatMap eU:=ar (by rw[bV (f:=eU) (w:=1) (fun _=>rfl)];omega);have q3:(1:Int)≤(r.length:Int)+1+1:=by omega
 have q4:(0:Int)<(r.length:Int)+1:=by omega
 have q6:(0:Int)<(r.length:Int)+1+1:=by omega
 have q5:(r.flatMap eU).take (r.length+1)=r.flatMap eU:=ar (by rw[bV (f:=eU) (w:=1) (fun _=>rfl)];omega);rw[aS]at hL;simp[-length_flatMap,-map_take,EX hl,h,hW,hG,cH,ja,hn,Fl,q1,q2,q3,q4,q5,q6];refine WL.to hL (by simp[ja,hn]) (by simp) ?_;unfold xF at hp;cases hm:zS r with
 |none =>
  rintro x e σ' ⟨rfl,bx,rfl⟩;simp[D.clean,rf]
 |some ns =>
 rw[hm]at hp;simp only[ite_eq_right_iff,reduceCtorEq,imp_false]at hp;rintro x e σ' ⟨rfl,g2,g3,g4,rfl⟩;have hlen:=By hm;have e1:IntKind.i64.wrap ((ns.length:Int)-w.least)=ns.length-w.least:=gQ (by omega);simp only[No,cn,af,aA]at hp;have c0:¬(ns.length:Int)-w.least=0:=fun hh=>hp (.inl hh)
 by_cases c1:w.least<(ns.length:Int)
 ·by_cases c2:0<w.step
  ·have c3:¬((ns.length:Int)-w.least).tmod w.step=0:=fun hh=>hp (.inr ⟨by omega,c2,hh⟩)
   have c4:¬w.step=0:=by omega
   have c3':(((ns.length:Int)-w.least).tmod w.step == 0)=false:=by simpa using c3
   have c0':((ns.length:Int)-w.least == 0)=false:=by simpa using c0
   simp[-length_flatMap,-map_take,g2,g3,g4,ja,e1,c0',c1,c2,c3',c4,dJ,D.clean,rf]
  ·simp[-length_flatMap,-map_take,g2,g3,g4,ja,e1,c0,c1,c2,dJ,D.clean,rf]
 ·simp[-length_flatMap,-map_take,g2,g3,g4,ja,e1,c0,c1,dJ,D.clean,rf]
theorem Jw(b:UInt8):∀(s:List UInt8),∀x∈gP b s,x.length≤s.length
 |[],x,hx=>by simp[gP]at hx;simp[hx]
 |c::r,x,hx=>by
  have ih:=Jw b r;simp only[gP]at hx;split at hx
  ·rcases bq.1 hx with rfl | hx
   ·simp
   ·have:=ih x hx;simp;omega
  ·split at hx
   ·rename_i y l hyl;rcases bq.1 hx with rfl | hx
    ·have:=ih y (by rw[hyl];simp);simp;omega
    ·have:=ih x (by rw[hyl];simp[hx]);simp;omega
   ·rename_i hyl;exact absurd hyl (Fk b r)
theorem ai2{s:List UInt8}(hl:s.length≤1000000)(hσ:σ≠[]){p:Wd×List UInt8×List Int}(hp:parse s=some p):bw T (.call false dp [.str s] σ)=some (.val (zT p) σ):=by
 unfold parse at hp;have hlen:=CI 32 s;have hle:=Jw 32 s;cases h:gP 32 s with
 |nil=>exact absurd h (Fk 32 s)
 |cons a all =>
 rw[h]at hp hlen hle;simp only[aO]at hlen;dsimp only at hp;cases hw:z8 a with
 |none=>rw[hw]at hp;cases hp
 |some w =>
 rw[hw]at hp;dsimp only at hp;cases hn:w.named with
 |false =>
  rw[hn]at hp;exact ahs hl h (fun x hx=>by have:=hle x (by simp[hx]);omega) (by omega) hw hn hσ (by simpa using hp)
 |true =>
  rw[hn]at hp;simp only[if_true]at hp;cases all with
  |nil=>cases hp
  |cons n r=>exact aht hl h (fun x hx=>by have:=hle x (by simp[hx]);omega) (by simp at hlen;omega) hw hn hσ hp
theorem U9{s:List UInt8}(hl:s.length≤1000000)(hp:parse s=none):bw T (.call false dp [.str s] σ)=some (.fU (rf 4) σ):=by
 unfold parse at hp;have hlen:=CI 32 s;have hle:=Jw 32 s;cases h:gP 32 s with
 |nil=>exact absurd h (Fk 32 s)
 |cons a all =>
 rw[h]at hp hlen hle;simp only[aO]at hlen;dsimp only at hp;cases hw:z8 a with
 |none=>exact SY hl h hw
 |some w =>
 rw[hw]at hp;dsimp only at hp;cases hn:w.named with
 |false =>
  rw[hn]at hp;exact SW hl h (fun x hx=>by have:=hle x (by simp[hx]);omega) (by omega) hw hn (by simpa using hp)
 |true =>
  rw[hn]at hp;simp only[if_true]at hp;cases all with
  |nil=>exact U8 hl h hw hn
  |cons n r=>exact SX hl h (fun x hx=>by have:=hle x (by simp[hx]);omega) (by simp at hlen;omega) hw hn hp
end Go.Proofs.YtfgljaglidhjiaaGreatDoor
namespace Go.Trem
open List(length_flatMap map_take)
open Go Go.Abs
structure Pt where
 x:Int
 y:Int
 z:Int
 deriving DecidableEq
structure Rg where
 lo:Int
 hi:Int
 deriving DecidableEq
structure Vi where
 p:Pt
 err:Int
structure Net where
 st:List Vi
 s0:Rg
 s1:Rg
 low:Pt
 high:Pt
 step:Int
structure JE where
 st:Int
 ph:Int
 t:Rg
structure Plc where
 p:Pt
 o:Rg
 deriving DecidableEq
structure Aa where
 far:Int
 add:Int
structure Mt where
 levels:List Int
 rows:List Aa
structure BL where
 st:Int
 amt:Int
structure azx where
 fst:Int
 thn:Int
structure Bet where
 num:Int
 den:Int
 a:Int
 b:Int
 axu:Int
@[simp] theorem Pt.eta(p:Pt):Pt.mk p.x p.y p.z=p:=rfl
@[simp] theorem Rg.eta(p:Rg):Rg.mk p.lo p.hi=p:=rfl
@[simp] theorem Vi.eta(p:Vi):Vi.mk p.p p.err=p:=rfl
@[simp] theorem Net.eta(p:Net):Net.mk p.st p.s0 p.s1 p.low p.high p.step=p:=rfl
@[simp] theorem JE.eta(p:JE):JE.mk p.st p.ph p.t=p:=rfl
@[simp] theorem Mt.eta(p:Mt):Mt.mk p.levels p.rows=p:=rfl
@[simp] theorem BL.eta(p:BL):BL.mk p.st p.amt=p:=rfl
@[simp] theorem Aa.eta(p:Aa):Aa.mk p.far p.add=p:=rfl
@[simp] theorem Bet.eta(p:Bet):Bet.mk p.num p.den p.a p.b p.axu=p:=rfl
@[simp] def Pt.enc(p:Pt):List D:=[.int .i64 p.x,.int .i64 p.y,.int .i64 p.z]
@[simp] def Rg.enc(r:Rg):List D:=[.int .i64 r.lo,.int .i64 r.hi]
@[simp] def Vi.enc(s:Vi):List D:=[.int .i64 s.p.x,.int .i64 s.p.y,.int .i64 s.p.z,.int .i64 s.err]
@[simp] def JE.enc(p:JE):List D:=[.int .i64 p.st,.int .u8 p.ph,.int .i64 p.t.lo,.int .i64 p.t.hi]
@[simp] def Plc.enc(p:Plc):List D:=[.int .i64 p.p.x,.int .i64 p.p.y,.int .i64 p.p.z,.int .i64 p.o.lo,.int .i64 p.o.hi]
@[simp] def Aa.enc(p:Aa):List D:=[.int .i64 p.far,.int .i64 p.add]
@[simp] def BL.enc(p:BL):List D:=[.int .i64 p.st,.int .i64 p.amt]
@[simp] def azx.enc(p:azx):List D:=[.int .i64 p.fst,.int .i64 p.thn]
@[simp] def Bet.enc(b:Bet):List D:=[.int .i64 b.num,.int .i64 b.den,.int .i64 b.a,.int .i64 b.b,.int .i64 b.axu]
@[simp] def aU(n:Int):List D:=[.int .i64 n]
@[simp] def uK(n:Bool):List D:=[.bool n]
@[simp] def Net.enc(n:Net):List D:=[.aK n.st.length (n.st.flatMap Vi.enc),.int .i64 n.s0.lo,.int .i64 n.s0.hi,.int .i64 n.s1.lo,.int .i64 n.s1.hi,
 .int .i64 n.low.x,.int .i64 n.low.y,.int .i64 n.low.z,.int .i64 n.high.x,.int .i64 n.high.y,.int .i64 n.high.z,.int .i64 n.step]
@[simp] def Mt.enc(s:Mt):List D:=[.aK s.levels.length (s.levels.flatMap aU),.aK s.rows.length (s.rows.flatMap Aa.enc)]
def cV(n lo hi:Int):Bool:=decide (lo≤n) && decide (n≤hi)
theorem bf{n lo hi:Int}:cV n lo hi=true↔lo≤n∧n≤hi:=by simp[cV]
def Pt.ok(p:Pt):Bool:=cV p.x (-20000) 20000 && (cV p.y (-20000) 20000 && cV p.z (-20000) 20000)
def Ec(a b:Pt):Bool:=a.ok && (b.ok && (decide (a.x≤b.x) && (decide (a.y≤b.y) && decide (a.z≤b.z))))
def Vi.ok(s:Vi):Bool:=s.p.ok && cV s.err 0 1000
def Rg.cV(r:Rg)(lo hi:Int):Bool:=decide (lo≤r.lo) && (decide (r.lo≤r.hi) && decide (r.hi≤hi))
def steps(n:Net)(lo hi:Int):Int:=(hi-lo).tdiv n.step+1
def Net.pre(n:Net):Bool:=Trem.cV n.st.length 1 12 && (gW n.st Vi.ok && (Ec n.low n.high && (Trem.cV n.step 1 20000 && (n.s0.cV 1 2000 && n.s1.cV 1 2000))))
def Net.count(n:Net):Int:=steps n n.low.x n.high.x*steps n n.low.y n.high.y*steps n n.low.z n.high.z
def Net.ok(n:Net):Bool:=n.pre && decide (n.count≤2000)
theorem Pt.Sg{p:Pt}:p.ok=true↔(-20000≤p.x∧p.x≤20000)∧(-20000≤p.y∧p.y≤20000)∧(-20000≤p.z∧p.z≤20000):=by
 simp only[Pt.ok,af,bf]
def bsr:Nat→Int→Int→Int→Int
 |0,_,lo,_=>lo
 |f+1,n,lo,hi=>if lo<hi then(if((lo+hi+1) / 2)*((lo+hi+1) / 2)≤n then bsr f n ((lo+hi+1) / 2) hi else bsr f n lo ((lo+hi+1) / 2-1))else lo
def sq(p q:Pt):Int:=(p.x-q.x)*(p.x-q.x)+(p.y-q.y)*(p.y-q.y)+(p.z-q.z)*(p.z-q.z)
def azW(p q:Pt):Int:=bsr 17 (sq p q) 0 70000
def prog(lo hi st:Int):List Int:=(List.range ((hi-lo) / st+1).toNat).map fun(i:Nat)=>lo+i*st
def zs(n:Net)(x y:Int)(z:Int):List Pt:=(prog z n.high.z n.step).map fun z=>⟨x,y,z⟩
def ys(n:Net)(x:Int)(y:Int):List Pt:=(prog y n.high.y n.step).flatMap fun y=>zs n x y n.low.z
def xs(n:Net)(x:Int):List Pt:=(prog x n.high.x n.step).flatMap fun x=>ys n x n.low.y
def ara(n:Net):List Pt:=xs n n.low.x
def Net.stn(n:Net)(i:Int):Vi:=n.st.getD i.toNat ⟨⟨0,0,0⟩,0⟩
def Net.afM(n:Net)(ph:Int):Rg:=if ph=0 then n.s0 else n.s1
def apX(n:Net)(i ph:Int)(p:Pt):Rg:=⟨(n.afM ph).lo*azW (n.stn i).p p / 1000,((n.afM ph).hi*(azW (n.stn i).p p+1)+999) / 1000⟩
def JE.ok(n:Net)(p:JE):Bool:=Trem.cV p.st 0 (n.st.length-1) && (decide (p.ph<2) && p.t.cV (-100000000) 100000000)
def span(n:Net)(p:JE)(q:Pt):Rg:=⟨p.t.lo-(n.stn p.st).err-(apX n p.st p.ph q).hi,p.t.hi+(n.stn p.st).err-(apX n p.st p.ph q).lo⟩
def meet(a b:Rg):Rg:=⟨max a.lo b.lo,min a.hi b.hi⟩
def common:List Rg→Rg
 |[]=>⟨0,0⟩
 |r::l=>l.foldl meet r
def Rg.ne(r:Rg):Bool:=decide (r.lo≤r.hi)
end Go.Trem
namespace Go.Proofs.YtfgljaglidhjiaaGreatDoor
open List(length_flatMap map_take)
open Go Go.Abs Go.Trem
variable {σ:SK}
theorem gw{a b c:Int}:bw T (.call false cq [.int .i64 a,.int .i64 b,.int .i64 c] σ)=some (.val (.bool (cV a b c)) σ):=by
 refine aD Lu LR rfl ?_;by_cases h:b≤a<;>simp[-length_flatMap,-map_take,h,cV]
theorem azs{a:Int}:bw T (.call false ew [.int .i64 a] σ)=some (.val (.bool (cV a (-20000) 20000)) σ):=by
 refine aD BV Cr rfl ?_;simp[-length_flatMap,-map_take,gw]
theorem ahn{l:List Int}(hl:l.length≤9223372036854775807){fv:D}{p:Int→Bool}(ht:rE T fv (.int .i64) p l)(hc:fv.cells=some [fv]):
  bw T (.call false ij [.aK l.length (l.flatMap aU),fv] σ)=some (.val (.bool (gW l p)) σ) :=
 Ca (Qu .i64) JP G5 zq BS hl ht hc
theorem yt{x y z:Int}:bw T (.call false fF [.agg [.int .i64 x,.int .i64 y,.int .i64 z]] σ)=some (.val (.bool (Pt.ok ⟨x,y,z⟩)) σ):=by
 refine aD DR Es rfl ?_;have h:∀σ,bw T (.call false ij [.aK 3 [.int .i64 x,.int .i64 y,.int .i64 z],.fn ew [] []] σ)=some (.val (.bool (Pt.ok ⟨x,y,z⟩)) σ):=fun σ=>by
  have:=ahn (σ:=σ) (l:=[x,y,z]) (by simp) (fv:=.fn ew [] []) (p:=fun a=>cV a (-20000) 20000) (.fn fun a _ σ=>azs) rfl;simpa[Pt.ok,Bool.and_assoc,gW]using this
 simp[-length_flatMap,-map_take,h]
theorem OU{x y z a b c:Int}:bw T (.call false vm [.agg [.int .i64 x,.int .i64 y,.int .i64 z],.agg [.int .i64 a,.int .i64 b,.int .i64 c]] σ)=some (.val (.bool (Ec ⟨x,y,z⟩ ⟨a,b,c⟩)) σ):=by
 refine aD P0 Qs rfl ?_;cases hc1:Pt.ok ⟨x,y,z⟩
 ·simp[-length_flatMap,-map_take,yt,Ec,hc1]
 cases hc2:Pt.ok ⟨a,b,c⟩
 ·simp[-length_flatMap,-map_take,yt,Ec,hc1,hc2]
 by_cases hc3:x≤a
 rotate_left
 ·simp[-length_flatMap,-map_take,yt,Ec,hc1,hc2,hc3]
 by_cases hc4:y≤b
 rotate_left
 ·simp[-length_flatMap,-map_take,yt,Ec,hc1,hc2,hc3,hc4]
 simp[-length_flatMap,-map_take,yt,Ec,hc1,hc2,hc3,hc4]
theorem ars{n:Net}:n.pre=true↔(1≤(n.st.length:Int)∧(n.st.length:Int)≤12)∧gW n.st Vi.ok=true∧(n.low.ok=true∧n.high.ok=true∧n.low.x≤n.high.x∧n.low.y≤n.high.y∧n.low.z≤n.high.z) ∧
  (1≤n.step∧n.step≤20000)∧(1≤n.s0.lo∧n.s0.lo≤n.s0.hi∧n.s0.hi≤2000)∧(1≤n.s1.lo∧n.s1.lo≤n.s1.hi∧n.s1.hi≤2000):=by
 simp only[Net.pre,af,bf,Ec,Rg.cV,aA]
structure azv(n:Net)(i ph:Int):Prop where
 i0:0≤i
 i1:i<n.st.length
 hph:ph=0∨ph=1
 p:(n.stn i).p.ok=true
 e:0≤(n.stn i).err∧(n.stn i).err≤1000
 s:1≤(n.afM ph).lo∧(n.afM ph).lo≤(n.afM ph).hi∧(n.afM ph).hi≤2000
 cells:((n.st.flatMap Vi.enc).drop (i.toNat*4)).take 4=(n.stn i).enc
theorem apn{n:Net}(h:n.ok=true){i ph:Int}(hi:cV i 0 (n.st.length-1)=true)(hp:0≤ph)(hp':ph<2):azv n i ph:=by
 simp only[Net.ok,af]at h;have h0:=ars.1 h.1;rw[bf]at hi;have h1:i.toNat<n.st.length:=by omega
 have h2:n.st[i.toNat]?=some (n.stn i):=by
  simp[Net.stn,List.getD,aP h1]
 have h3:=ki.1 h0.2.1 _ (an h2);simp only[Vi.ok,af,bf]at h3;refine⟨by omega,by omega,by omega,h3.1,h3.2,?_,bQ (f:=Vi.enc) (w:=4) (fun _=>rfl) h2⟩;unfold Net.afM;split<;>omega
structure Hd(n:Net)(l:List JE):Prop where
 ok:n.ok=true
 len:l.length≤60
 all:∀p∈l,JE.ok n p=true∧0≤p.ph
theorem Hd.aHE{n:Net}{l:List JE}(h:Hd n l){p:JE}(hp:p∈l):azv n p.st p.ph:=by
 have h1:=h.all p hp;simp only[JE.ok,af,aA]at h1;exact apn h.ok h1.1.1 h1.2 h1.1.2.1
end Go.Proofs.YtfgljaglidhjiaaGreatDoor
namespace Go.Trem
open List(length_flatMap map_take)
open Go Go.Abs
theorem Jk{α β:Type}{f:α→List β}{c:Nat}{l:List α}(h:∀x∈l,(f x).length=c):(l.flatMap f).length=l.length*c:=by
 induction l with
 |nil=>simp
 |cons a l ih =>
  rw[ba,bT,h a (by simp),ih fun x hx=>h x (by simp[hx]),aO,eV];omega
end Go.Trem
namespace Go.Proofs.YtfgljaglidhjiaaGreatDoor
open List(length_flatMap map_take)
open Go Go.Abs Go.Trem
variable {σ:SK}
structure Bx(n:Net):Prop where
 st:1≤n.step∧n.step≤20000
 lx : -20000≤n.low.x∧n.low.x≤20000
 ly : -20000≤n.low.y∧n.low.y≤20000
 lz : -20000≤n.low.z∧n.low.z≤20000
 hx:n.low.x≤n.high.x∧n.high.x≤20000
 hy:n.low.y≤n.high.y∧n.high.y≤20000
 hz:n.low.z≤n.high.z∧n.high.z≤20000
 len:(ara n).length≤2000
end Go.Proofs.YtfgljaglidhjiaaGreatDoor
namespace Go.Trem
open List(length_flatMap map_take)
open Go Go.Abs
def aBK(l:List Int)(i:Nat):Bool:=decide (i=0) || decide (l.getD (i-1) 0<l.getD i 0)
def aBL(l:List Int):Bool:=gW (List.range' 0 l.length) (aBK l)
def Aa.ok(r:Aa):Bool:=cV r.far 0 20000 && cV r.add 0 100
def Mt.ok(s:Mt):Bool:=cV s.levels.length 1 60 && (gW s.levels (fun n=>cV n 1 1000000000) && (aBL s.levels && (cV s.rows.length 1 20 && (decide ((s.rows.getD 0 ⟨0,0⟩).far=0) && (gW s.rows Aa.ok && aBL (s.rows.map (·.far)))))))
def lvl(l:List Int)(a:Int):Nat:=(l.takeWhile fun x=>decide (x≤a)).length
def BL.ok(n:Net)(r:BL):Bool:=cV r.st 0 (n.st.length-1) && cV r.amt 0 1000000000
end Go.Trem
namespace Go.Proofs.YtfgljaglidhjiaaGreatDoor
open List(length_flatMap map_take)
open Go Go.Abs Go.Trem
variable {σ:SK}
end Go.Proofs.YtfgljaglidhjiaaGreatDoor
namespace Go.Trem
open List(length_flatMap map_take)
open Go Go.Abs
def Bet.ok(b:Bet):Bool:=cV b.den 2 1000 && (cV b.num 1 (b.den-1) && (cV b.b 1 1000 && (cV b.a 0 b.b && cV b.axu 2 1000)))
def next(b:Bet)(c:Int)(hit:Bool):Int:=if hit then min (c*(b.b*b.num+b.a*(b.den-b.num)) / (b.b*b.num)) 1000000000000 else c*(b.b-b.a) / b.b
structure aFR(b:Bet)(c:Int):Prop where
 w1:IntKind.i64.wrap (b.b*b.num)=b.b*b.num
 w2:IntKind.i64.wrap (b.den-b.num)=b.den-b.num
 w3:IntKind.i64.wrap (b.a*(b.den-b.num))=b.a*(b.den-b.num)
 w4:IntKind.i64.wrap (b.b*b.num+b.a*(b.den-b.num))=b.b*b.num+b.a*(b.den-b.num)
 w5:IntKind.i64.wrap (c*(b.b*b.num+b.a*(b.den-b.num)))=c*(b.b*b.num+b.a*(b.den-b.num))
 w6:IntKind.i64.wrap ((c*(b.b*b.num+b.a*(b.den-b.num))).tdiv (b.b*b.num))=c*(b.b*b.num+b.a*(b.den-b.num)) / (b.b*b.num)
 w7:b.b*b.num≠0
 w8:IntKind.i64.wrap (b.b-b.a)=b.b-b.a
 w9:IntKind.i64.wrap (c*(b.b-b.a))=c*(b.b-b.a)
 w10:IntKind.i64.wrap ((c*(b.b-b.a)).tdiv b.b)=c*(b.b-b.a) / b.b
 w11:b.b≠0
 w12:∀h,0≤next b c h∧next b c h≤1000000000000
 w13:min (c*(b.b-b.a) / b.b) 1000000000000=c*(b.b-b.a) / b.b
def sj(k0 k1 k2:Int):Bool:=decide (k0≤1000) && (decide (k1≤k0) && (decide (k2≤k1) && decide (0≤k2)))
def ajB(n:Int):Bool:=cV n 0 1000000000
end Go.Trem
namespace Go.Proofs.YtfgljaglidhjiaaGreatDoor
open List(length_flatMap map_take)
open Go Go.Abs Go.Trem
variable {σ:SK}
theorem Mh{a:Int}:bw T (.call false lq [.int .i64 a] σ)=some (.val (.bool (ajB a)) σ):=by
 refine aD Iu I3 rfl ?_;simp[-length_flatMap,-map_take,gw,ajB]
structure aFS(p k:Int):Prop where
 w1:IntKind.i64.wrap (p*k)=p*k
 w2:IntKind.i64.wrap ((p*k).tdiv 1000)=p*k / 1000
 w3:0≤p*k / 1000
 w4:p*k / 1000≤1000000000
end Go.Proofs.YtfgljaglidhjiaaGreatDoor
namespace Go.Trem
open List(length_flatMap map_take)
open Go Go.Abs
structure yp where
 p:Pt
 mag:Int
structure Ev where
 tick:Int
 sp:List yp
structure eJ where
 lo:Pt
 hi:Pt
 least:Int
 BG:Int
 count:Int
 col:Int
@[simp] theorem yp.eta(p:yp):yp.mk p.p p.mag=p:=rfl
@[simp] theorem Ev.eta(p:Ev):Ev.mk p.tick p.sp=p:=rfl
@[simp] theorem eJ.eta(p:eJ):eJ.mk p.lo p.hi p.least p.BG p.count p.col=p:=rfl
@[simp] def yp.enc(s:yp):List D:=[.int .i64 s.p.x,.int .i64 s.p.y,.int .i64 s.p.z,.int .i64 s.mag]
@[simp] def Ev.enc(e:Ev):List D:=[.int .i64 e.tick,.aK e.sp.length (e.sp.flatMap yp.enc)]
@[simp] def eJ.enc(r:eJ):List D:=[.int .i64 r.lo.x,.int .i64 r.lo.y,.int .i64 r.lo.z,.int .i64 r.hi.x,.int .i64 r.hi.y,.int .i64 r.hi.z,.int .i64 r.least,.int .i64 r.BG,.int .i64 r.count,.int .u8 r.col]
def Vu:Elt yp:=yU 4 yp.enc fun _=>rfl
def az0:Elt Ev:=yU 2 Ev.enc fun _=>rfl
def aqV:Elt eJ:=yU 10 eJ.enc fun _=>rfl
def eJ.cnt(r:eJ)(s:yp):Bool:=decide (r.least≤s.mag) && (cV s.p.x r.lo.x r.hi.x && (cV s.p.y r.lo.y r.hi.y && cV s.p.z r.lo.z r.hi.z))
def eJ.ok(r:eJ):Bool:=Ec r.lo r.hi && (cV r.least 0 160 && (cV r.BG 1 1000000 && (cV r.count 1 200 && (r.col == 1 || r.col == 2))))
def yp.ok(s:yp):Bool:=s.p.ok && cV s.mag 0 160
def Ev.ok(e:Ev):Bool:=cV e.tick 0 1000000 && (cV e.sp.length 1 2000 && gW e.sp yp.ok)
def eJ.act(r:eJ)(now:Int)(e:Ev):Bool:=decide (now-r.BG<e.tick) && decide (e.tick≤now)
def LJ(f:Ev→Bool):List Ev→Nat
 |[]=>0
 |e::l=>LJ f l+(if f e then 1 else 0)
def BF(r:eJ)(now:Int)(e:Ev):Bool:=r.act now e && sN e.sp r.cnt
def uV(r:eJ)(now:Int)(e:Ev):Bool:=r.act now e && gW e.sp r.cnt
def AK(f:eJ→Ev→Bool)(l:List Ev):List eJ→Int→Int
 |[],a=>a
 |r::R,a=>AK f l R (if r.count≤LJ (f r) l then max a r.col else a)
def ao7(R:List eJ)(l:List Ev)(now:Int):Int:=AK (fun r=>BF r now) l R 0
def apS(R:List eJ)(l:List Ev)(now:Int):Int:=AK (fun r=>uV r now) l R 0
def ri(R:List eJ)(l:List Ev)(now:Int):Int :=
 if 20<R.length then 3 else if gW R eJ.ok=false then 1 else if 200<l.length then 3 else if gW l Ev.ok=false then 1 else if cV now 0 1000000=false then 2 else 0
theorem NH{r:eJ}:r.ok=true↔Ec r.lo r.hi=true∧(0≤r.least∧r.least≤160)∧(1≤r.BG∧r.BG≤1000000)∧(1≤r.count∧r.count≤200)∧(r.col=1∨r.col=2):=by
 simp only[eJ.ok,af,bf,cn,beq_iff_eq]
end Go.Trem
namespace Go.Proofs.YtfgljaglidhjiaaGreatDoor
open List(length_flatMap map_take)
open Go Go.Abs Go.Trem
variable {σ:SK}
theorem SU{r:eJ}{s:yp}:bw T (.call false ef [.agg r.enc,.agg s.enc] σ)=some (.val (.bool (r.cnt s)) σ):=by
 refine aD DS Et rfl ?_;by_cases hc1:r.least≤s.mag
 rotate_left
 ·simp[-length_flatMap,-map_take,gw,eJ.cnt,hc1]
 cases hc2:cV s.p.x r.lo.x r.hi.x
 ·simp[-length_flatMap,-map_take,gw,eJ.cnt,hc1,hc2]
 cases hc3:cV s.p.y r.lo.y r.hi.y
 ·simp[-length_flatMap,-map_take,gw,eJ.cnt,hc1,hc2,hc3]
 simp[-length_flatMap,-map_take,gw,eJ.cnt,hc1,hc2,hc3]
theorem S0{r:eJ}:bw T (.call false eP [.agg r.enc] σ)=some (.val (.bool r.ok) σ):=by
 refine aD FH Gn rfl ?_;cases hc1:Ec r.lo r.hi
 ·simp[-length_flatMap,-map_take,gw,OU,eJ.ok,hc1]
 cases hc2:cV r.least 0 160
 ·simp[-length_flatMap,-map_take,gw,OU,eJ.ok,hc1,hc2]
 cases hc3:cV r.BG 1 1000000
 ·simp[-length_flatMap,-map_take,gw,OU,eJ.ok,hc1,hc2,hc3]
 cases hc4:cV r.count 1 200
 ·simp[-length_flatMap,-map_take,gw,OU,eJ.ok,hc1,hc2,hc3,hc4]
 by_cases hc5:r.col=1
 rotate_left
 ·simp[-length_flatMap,-map_take,gw,OU,eJ.ok,hc1,hc2,hc3,hc4,hc5]
 simp[-length_flatMap,-map_take,gw,OU,eJ.ok,hc1,hc2,hc3,hc4,hc5]
theorem azm{s:yp}:bw T (.call false fS [.agg s.enc] σ)=some (.val (.bool s.ok) σ):=by
 refine aD BU Cq rfl ?_;cases hc1:Pt.ok s.p
 ·simp[-length_flatMap,-map_take,gw,yt,yp.ok,hc1]
 simp[-length_flatMap,-map_take,gw,yt,yp.ok,hc1]
theorem OS{l:List yp}{p:yp→Bool}{fv:D}(ht:rE T fv Vu.val p l)(hc:fv.cells=some [fv])(hl:l.length≤9223372036854775807):
  bw T (.call false eN [.aK l.length (l.flatMap yp.enc),fv] σ)=some (.val (.bool (gW l p)) σ) :=
 Ca Vu Aj yD nP oX hl ht hc
theorem SV{e:Ev}(hl:e.sp.length≤9223372036854775807):bw T (.call false ed [.agg e.enc] σ)=some (.val (.bool e.ok) σ):=by
 refine aD DQ Er rfl ?_;have ha:=fun σ=>@OS σ e.sp yp.ok (.fn fS [] []) (.fn fun s _ σ=>azm) rfl hl
 cases hc1:cV e.tick 0 1000000
 ·simp[-length_flatMap,-map_take,gw,ha,Ev.ok,hc1]
 cases hc2:cV e.sp.length 1 2000
 ·simp[-length_flatMap,-map_take,gw,ha,Ev.ok,hc1,hc2]
 simp[-length_flatMap,-map_take,gw,ha,Ev.ok,hc1,hc2]
theorem U1{R:List eJ}(hl:R.length≤9223372036854775807):
  bw T (.call false dE [.aK R.length (R.flatMap eJ.enc),.fn eP [] []] σ)=some (.val (.bool (gW R eJ.ok)) σ) :=
 Ca aqV Ai yC uz vW hl (.fn fun r _ σ=>S0) rfl
theorem aiM{l:List Ev}(hl:l.length≤9223372036854775807)(hs:∀e∈l,e.sp.length≤9223372036854775807):
  bw T (.call false dj [.aK l.length (l.flatMap Ev.enc),.fn ed [] []] σ)=some (.val (.bool (gW l Ev.ok)) σ) :=
 Ca az0 zr yd tK vA hl (.fn fun r hr σ=>SV (hs r hr)) rfl
end Go.Proofs.YtfgljaglidhjiaaGreatDoor
namespace Go.Book
open List(length_flatMap map_take)
open Go Go.Abs Go.Rock
structure mA where
 m:cX
 left:Bool
 by_:Int
structure Vj where
 line:Int
 value:Int
 lo:Int
 hi:Int
structure Prt where
 width:Int
 xB:Int
structure Al where
 Jf:Int
 parts:List Prt
structure OZ where
 tick:Int
 aEF:Int
 wlo:Int
 whi:Int
 mlo:Int
 mhi:Int
structure Bk where
 bL:cC
 az:List mA
 aC:List (List Int)
 rules:List Trem.eJ
 BI:List Trem.Ev
 k0:Int
 k1:Int
 k2:Int
 fh:List Al
 j8:List OZ
 ready:Bool
 pX:List Vj
 at_:Int
@[simp] def mA.enc(e:mA):List D:=[.str e.m.name,.aK e.m.bg.length (e.m.bg.flatMap aU),.bool e.left,.int .i64 e.by_]
@[simp] def Vj.enc(e:Vj):List D:=[.int .i64 e.line,.int .i64 e.value,.int .i64 e.lo,.int .i64 e.hi]
@[simp] def Prt.enc(e:Prt):List D:=[.int .i64 e.width,.int .i64 e.xB]
@[simp] def Al.enc(e:Al):List D:=[.int .i64 e.Jf,.aK e.parts.length (e.parts.flatMap Prt.enc)]
@[simp] def OZ.enc(e:OZ):List D:=[.int .i64 e.tick,.int .i64 e.aEF,.int .i64 e.wlo,.int .i64 e.whi,.int .i64 e.mlo,.int .i64 e.mhi]
def nl{α:Type}(f:α→List D)(l:List α):D:=if l=[]then .aH else .aK l.length (l.flatMap f)
def pE(r:List Int):List D:=[.aK r.length (r.flatMap aU)]
def Bk.cells(L:Nat)(b:Bk):List D:=[.int .i64 b.bL.f.x,.int .i64 b.bL.f.y,.int .i64 b.bL.f.z,.int .i64 b.bL.f.k,nl Rw.enc b.bL.cf,.int .i64 b.bL.bJ,.int .i64 b.bL.lift,.int .i64 b.bL.deep,nl bH.enc b.bL.av,
 .sl L 0 b.az.length 0 b.az.length 4,nl pE b.aC,.sl L 1 b.rules.length 0 b.rules.length 10,.sl L 2 b.BI.length 0 b.BI.length 2,.int .i64 b.k0,.int .i64 b.k1,.int .i64 b.k2,
 .sl L 3 b.fh.length 0 b.fh.length 2,.sl L 4 b.j8.length 0 b.j8.length 6,.bool b.ready,.sl L 5 b.pX.length 0 b.pX.length 4,.int .i64 b.at_]
def Bk.bx(L:Nat)(b:Bk)(er:List Int):List Abs.aG:=[.cells b.az.length (b.az.flatMap mA.enc),.cells b.rules.length (b.rules.flatMap Trem.eJ.enc),.cells b.BI.length (b.BI.flatMap Trem.Ev.enc),.cells b.fh.length (b.fh.flatMap Al.enc),
 .cells b.j8.length (b.j8.flatMap OZ.enc),.cells b.pX.length (b.pX.flatMap Vj.enc),.cells 0 (b.cells L),.cells er.length (er.flatMap aU)]
def ux:Bk:=⟨⟨⟨0,0,0,0⟩,[],0,0,0,[]⟩,[],[],[],[],1000,500,0,[],[],false,[],0⟩
def Prt.ok(last:Int)(p:Prt):Bool:=cV p.xB 0 last && cV p.width 1 100000
def AG:Int→List Prt→Bool
 |_,[]=>true
 |last,p::l=>p.ok last && AG p.xB l
def Al.ok(u:Al):Bool:=cV u.Jf 0 5 && (cV u.parts.length 1 8 && AG 1000 u.parts)
def xD(l:List Prt):Nat→Int
 |0=>1000
 |i+1=>match l[i]? with
  |some p=>p.xB
  |none=>0
def GC(l:List Prt)(i:Nat):Bool:=match l[i]? with
 |some p=>p.ok (xD l i)
 |none=>true
theorem ahT{l:List Prt}:AG 1000 l=true↔∀j,j<l.length→GC l j=true:=by
 have key:∀(r pre:List Prt),l=pre++r→(AG (xD l pre.length) r=true↔∀j,j<r.length→GC l (pre.length+j)=true):=by
  intro r;induction r with
  |nil=>intro pre h;simp[AG]
  |cons p r ih =>
   intro pre h;have hp:l[pre.length]?=some p:=by rw[h];simp
   have h1:=ih (pre++[p]) (by rw[h];simp);have h2:xD l (pre++[p]).length=p.xB:=by simp[xD,hp]
   rw[h2]at h1;simp only[AG,af,h1];constructor
   ·rintro⟨h3,h4⟩ j hj;cases j with
    |zero=>simpa[GC,hp]using h3
    |succ j =>
     have:=h4 j (by simpa using hj);rwa[show(pre++[p]).length+j=pre.length+(j+1)by simp;omega]at this
   ·intro h3;refine⟨?_,fun j hj=>?_⟩
    ·have:=h3 0 (by simp);simpa[GC,hp]using this
    ·have:=h3 (j+1) (by simpa using hj);rwa[show(pre++[p]).length+j=pre.length+(j+1)by simp;omega]
 have:=key l [] rfl;simpa[xD]using this
def Ch(b:Bk)(x y z k:Int):Bk×Int :=
 if(b.bL.f.x=0∧b.bL.f.y=0)∧b.bL.f.z=0∧b.bL.f.k=0 then
  (if(fT.mk x y z k).valid=true∧4≤k then({b with bL:={b.bL with f:=⟨x,y,z,k⟩ } },0)else(b,1))
 else(b,8)
end Go.Book
namespace Go.Abs
open List(length_flatMap map_take)
open Go
variable {T:Ak} {fv:D} {σ:SK}
theorem ah3{f w:Nat}{ag:Bool}(hT:T f=some (vT ag w))(h1:fv.strip=fv)(h2:fv.calm=fv):bw T (.call false f [.aH,fv] σ)=some (.val (.int .i64 (-1)) σ):=by
 refine aD hT (vT.eq_1 _ _) rfl ?_;simp[h1,h2];refine aM (Ns.eq_1 _ _) ?_;simp[h1,h2]
theorem contains_nil{f i w:Nat}{ag:Bool}(hT:T f=some (jP i))(hi:T i=some (vT ag w))(h1:fv.strip=fv)(h2:fv.calm=fv):bw T (.call false f [.aH,fv] σ)=some (.val (.bool false) σ):=by
 refine aD hT (jP.eq_1 _) rfl ?_;simp[h1,h2,ah3 hi h1 h2]
theorem all_nil{f g h i w:Nat}{ag:Bool}(hf:T f=some (IN g h))(hh:T h=some (jP i))(hi:T i=some (vT ag w))(h1:fv.strip=fv)(h2:fv.calm=fv)(hcl:fv.cells=some [fv]):
  bw T (.call false f [.aH,fv] σ)=some (.val (.bool true) σ):=by
 refine aD hf (IN.eq_1 _ _) rfl ?_;have h3:=fun σ=>contains_nil (fv:=.fn g [] [.bE [fv]]) (σ:=σ) hh hi rfl rfl
 simp[h1,h2,h3,hcl]
end Go.Abs
namespace Go.Proofs.YtfgljaglidhjiaaGreatDoor
open List(length_flatMap map_take)
open Go Go.Abs Go.Rock Go.Book
variable {σ:SK}
theorem aqg{F:List Abs.aG}{b:Bk}{er:List Int}{nm:List UInt8}{x y z k:Int}{b':Bk}{e:Int}(hd:Ch b x y z k=(b',e))(he:e=0):
  bw T (.call false fw [.ref σ.length 6 0 0,.str nm,.aK 4 [.int .i64 x,.int .i64 y,.int .i64 z,.int .i64 k]] (F::b.bx σ.length er::σ))=some (.val (.ez []) (F::b'.bx σ.length er::σ)):=by
 refine gF wG wP rfl (by simp) ?_;unfold Ch at hd;split at hd
 case isFalse=>cases hd;cases he
 rename_i h1;split at hd
 case isFalse=>cases hd;cases he
 rename_i h2;cases hd;obtain⟨⟨f1,f2⟩,f3,f4⟩:=h1;have hS:(fT.mk x y z k).shape=0:=by simp[fT.shape,h2.1]
 have hC:=fun σ=>j9 (σ:=σ) (f:=⟨x,y,z,k⟩)
 simp only[hS]at hC;simp[-length_flatMap,-map_take,Bk.bx,Bk.cells,f1,f2,f3,f4,cH,hC,h2.2]
theorem ahp{F:List Abs.aG}{b:Bk}{er:List Int}{nm:List UInt8}{x y z k:Int}{b':Bk}{e:Int}(hd:Ch b x y z k=(b',e))(he:e≠0):
  bw T (.call false fw [.ref σ.length 6 0 0,.str nm,.aK 4 [.int .i64 x,.int .i64 y,.int .i64 z,.int .i64 k]] (F::b.bx σ.length er::σ))=some (.fU (rf e) (F::b.bx σ.length er::σ)):=by
 refine eg wG wP rfl ?_;have hC:=fun σ=>j9 (σ:=σ) (f:=⟨x,y,z,k⟩)
 unfold Ch at hd;split at hd
 ·rename_i h1;obtain⟨⟨f1,f2⟩,f3,f4⟩:=h1;split at hd
  ·cases hd;exact absurd rfl he
  rename_i h2;cases hd;by_cases h3:(fT.mk x y z k).valid=true
  ·have h4:¬4≤k:=fun hh=>h2 ⟨h3,hh⟩
   have hS:(fT.mk x y z k).shape=0:=by simp[fT.shape,h3]
   simp only[hS]at hC;simp[-length_flatMap,-map_take,Bk.bx,Bk.cells,f1,f2,f3,f4,cH,dJ,hC,h4,D.clean,rf]
  ·have hS:(fT.mk x y z k).shape=1:=by simp[fT.shape,h3]
   simp only[hS]at hC;simp[-length_flatMap,-map_take,Bk.bx,Bk.cells,f1,f2,f3,f4,cH,dJ,hC,D.clean,rf]
 ·rename_i h1;cases hd;have hz:(b.bL.f.x == 0 && (b.bL.f.y == 0 && (b.bL.f.z == 0 && b.bL.f.k == 0)))=false:=by
   cases hb:(b.bL.f.x == 0 && (b.bL.f.y == 0 && (b.bL.f.z == 0 && b.bL.f.k == 0)))with
   |false=>rfl
   |true =>
    simp only[af,beq_iff_eq]at hb;exact absurd ⟨⟨hb.1,hb.2.1⟩,hb.2.2.1,hb.2.2.2⟩ h1
  simp[-length_flatMap,-map_take,Bk.bx,Bk.cells,hz,dJ,D.clean,rf]
theorem KV{k0 k1 k2:Int}(hσ:σ≠[]):
  bw T (.call false rh [.aH,.aH,.agg [.int .i64 k0,.int .i64 k1,.int .i64 k2],.int .i64 0] σ) =
   some (.val (.ez [if Trem.sj k0 k1 k2 then .aK 0 []else .aH,.int .i64 (if Trem.sj k0 k1 k2 then 0 else 1)]) σ):=by
 refine aD Lt LQ rfl ?_;have hA:=fun σ=>all_nil (T:=T) (σ:=σ) (fv:=.fn lq [] []) (f:=ij) (ag:=false) (w:=1) rfl rfl rfl rfl rfl rfl
 have hB:=fun σ=>all_nil (T:=T) (σ:=σ) (fv:=.fn rH [] []) (f:=pV) (ag:=false) (w:=1) rfl rfl rfl rfl rfl rfl
 have hC:Trem.ajB 0=true:=by decide
 by_cases c1:1000<k0
 ·have d1:¬k0≤1000:=by omega
  simp[-length_flatMap,-map_take,Trem.sj,hA,hB,Mh,hC,c1,d1]
 have d1:k0≤1000:=by omega
 by_cases c2:k0<k1
 ·have d2:¬k1≤k0:=by omega
  simp[-length_flatMap,-map_take,Trem.sj,hA,hB,Mh,hC,c1,c2,d1,d2]
 have d2:k1≤k0:=by omega
 by_cases c3:k1<k2
 ·have d3:¬k2≤k1:=by omega
  simp[-length_flatMap,-map_take,Trem.sj,hA,hB,Mh,hC,c1,c2,c3,d1,d2,d3]
 have d3:k2≤k1:=by omega
 by_cases c4:k2<0
 ·have d4:¬0≤k2:=by omega
  simp[-length_flatMap,-map_take,Trem.sj,hA,hB,Mh,hC,c1,c2,c3,c4,d1,d2,d3,d4]
 have d4:0≤k2:=by omega
 simp[-length_flatMap,-map_take,Trem.sj,hA,hB,Mh,hC,c1,c2,c3,c4,d1,d2,d3,d4];refine aM Gm ?_;simp[-length_flatMap,-map_take,d1,d2,d3,d4];have h3:¬σ.length≤σ.length-1:=by have:=aV.2 hσ;omega
 refine⟨[.dead],?_⟩;rw[E7 (by simp[D.bD,D.clean]) (by omega)];have h6:=HW (l:=σ.length-1) (n:=15) (l':=σ.length) (i:=0) (v:=0) (off:=0) (m:=0) (w:=1) (σ:=[Abs.aG.cells 0 []]::σ) (cs:=[]) h3 (by simp) (by omega);simp only[Nat.reduceSub,cI.frzL,h6];simp
def Pn(b:Bk)(k0 k1 k2:Int):Bk:={b with k0:=k0,k1:=k1,k2:=k2 }
theorem as2{F:List Abs.aG}{b:Bk}{er:List Int}{nm:List UInt8}{x y z:Int}(h:Trem.sj x y z=true):
  bw T (.call false fW [.ref σ.length 6 0 0,.str nm,.aK 3 [.int .i64 x,.int .i64 y,.int .i64 z]] (F::b.bx σ.length er::σ))=some (.val (.ez []) (F::(Pn b x y z).bx σ.length er::σ)):=by
 refine gF xG xO rfl (by simp) ?_;have hI:=fun σ hσ=>KV (σ:=σ) (k0:=x) (k1:=y) (k2:=z) hσ
 simp only[h,if_true]at hI;simp[-length_flatMap,-map_take,hI,meD,pI,Bk.bx,Bk.cells,Pn]
theorem aiU{F:List Abs.aG}{b:Bk}{er:List Int}{nm:List UInt8}{x y z:Int}(h:Trem.sj x y z=false):
  bw T (.call false fW [.ref σ.length 6 0 0,.str nm,.aK 3 [.int .i64 x,.int .i64 y,.int .i64 z]] (F::b.bx σ.length er::σ))=some (.fU (rf 1) (F::b.bx σ.length er::σ)):=by
 refine eg xG xO rfl ?_;have hI:=fun σ hσ=>KV (σ:=σ) (k0:=x) (k1:=y) (k2:=z) hσ
 simp only[h]at hI;have hM:=fun σ=>rD (σ:=σ) (e:=1) (by decide)
 simp[-length_flatMap,-map_take,hI,meD,hM,Bk.bx,Bk.cells,D.clean,rf]
theorem SO{r:Trem.eJ}:bw T (.call false iW [.aK 1 r.enc,.aH,.int .i64 0] σ)=some (.val (.ez [.int .u8 0,.int .u8 0,.int .i64 (if r.ok then 0 else 1)]) σ):=by
 refine aD yB yT rfl ?_;have hA:=fun σ=>@U1 σ [r] (by simp)
 have hN:=fun σ=>all_nil (T:=T) (σ:=σ) (fv:=.fn ed [] []) (f:=dj) (ag:=true) (w:=2) rfl rfl rfl rfl rfl rfl
 simp only[List.length_singleton,ba,dO,eB,gW,ka,List.all_nil,Bool.and_true]at hA;have w0:Trem.cV 0 0 1000000=true:=by decide
 cases hr:r.ok
 ·rw[hr]at hA;simp only[Trem.eJ.enc]at hA ⊢;simp[-length_flatMap,-map_take,hA]
 ·rw[hr]at hA;have hc:=(Trem.NH.1 hr).2.2.2.1;have c1:¬r.count≤0:=by omega
  simp only[Trem.eJ.enc]at hA ⊢;simp[-length_flatMap,-map_take,hA,hN,gw,w0];refine aM mM ?_;simp[-length_flatMap,-map_take];refine aM tN ?_;simp[-length_flatMap,-map_take,c1];refine aM mM ?_;simp[-length_flatMap,-map_take,c1]
def Hz(b:Bk)(r:Trem.eJ)(c:Int):Bk×Int :=
 if b.rules.length<20 then(if cV c 1 2=true then(if r.ok=true then({b with rules:=b.rules++[r] },0)else(b,1))else(b,1))else(b,3)
theorem apy(l:List Trem.eJ):(l.flatMap Trem.eJ.enc).length=l.length*10:=bV (f:=Trem.eJ.enc) (w:=10) (fun _=>rfl) l
theorem as7{F:List Abs.aG}{b:Bk}{er:List Int}{nm:List UInt8}{x0 x1 x2 x3 x4 x5 x6 x7 x8 x9:Int}{b':Bk}{e:Int}(hd:Hz b ⟨⟨x0,x1,x2⟩,⟨x3,x4,x5⟩,x6,x7,x8,x9⟩ x9=(b',e))(he:e=0):
  bw T (.call false fZ [.ref σ.length 6 0 0,.str nm,.aK 10 [.int .i64 x0,.int .i64 x1,.int .i64 x2,.int .i64 x3,.int .i64 x4,.int .i64 x5,.int .i64 x6,.int .i64 x7,.int .i64 x8,.int .i64 x9]] (F::b.bx σ.length er::σ))=some (.val (.ez []) (F::b'.bx σ.length er::σ)):=by
 refine gF xI xQ rfl (by simp) ?_;have hL:=fun σ=>SO (σ:=σ) (r:=⟨⟨x0,x1,x2⟩,⟨x3,x4,x5⟩,x6,x7,x8,x9⟩)
 unfold Hz at hd;split at hd
 case isFalse=>cases hd;cases he
 rename_i h1;split at hd
 case isFalse=>cases hd;cases he
 rename_i h2;split at hd
 case isFalse=>cases hd;cases he
 rename_i h3;cases hd;have h1':(b.rules.length:Int)<20:=by omega
 have h4:=bf.1 h2;have w1:IntKind.u8.wrap x9=x9:=wu8 (by omega);have w2:(b.rules.length+1)*80≤room:=by unfold room;omega
 have w3:=apy b.rules;have w4:(b.rules.flatMap Trem.eJ.enc).take (b.rules.length*10)=b.rules.flatMap Trem.eJ.enc:=ar (by omega);simp only[h3,if_true,Trem.eJ.enc]at hL;simp[-length_flatMap,-map_take,Bk.bx,Bk.cells,h1',fg,h2,cH,w1,hL,pI,w2,w3,w4]
theorem ai8{F:List Abs.aG}{b:Bk}{er:List Int}{nm:List UInt8}{x0 x1 x2 x3 x4 x5 x6 x7 x8 x9:Int}{b':Bk}{e:Int}(hd:Hz b ⟨⟨x0,x1,x2⟩,⟨x3,x4,x5⟩,x6,x7,x8,x9⟩ x9=(b',e))(he:e≠0):
  bw T (.call false fZ [.ref σ.length 6 0 0,.str nm,.aK 10 [.int .i64 x0,.int .i64 x1,.int .i64 x2,.int .i64 x3,.int .i64 x4,.int .i64 x5,.int .i64 x6,.int .i64 x7,.int .i64 x8,.int .i64 x9]] (F::b.bx σ.length er::σ))=some (.fU (rf e) (F::b.bx σ.length er::σ)):=by
 refine eg xI xQ rfl ?_;have hL:=fun σ=>SO (σ:=σ) (r:=⟨⟨x0,x1,x2⟩,⟨x3,x4,x5⟩,x6,x7,x8,x9⟩)
 have hM:=fun σ=>rD (σ:=σ) (e:=1) (by decide)
 unfold Hz at hd;split at hd
 ·rename_i h1;have h1':(b.rules.length:Int)<20:=by omega
  split at hd
  ·rename_i h2;have h4:=bf.1 h2;have w1:IntKind.u8.wrap x9=x9:=wu8 (by omega);split at hd
   ·cases hd;exact absurd rfl he
   ·rename_i h3;cases hd;have h3':Trem.eJ.ok ⟨⟨x0,x1,x2⟩,⟨x3,x4,x5⟩,x6,x7,x8,x9⟩=false:=by simpa using h3
    simp only[h3',Trem.eJ.enc]at hL;simp[-length_flatMap,-map_take,Bk.bx,Bk.cells,h1',fg,h2,cH,w1,hL,hM,D.clean,rf]
  ·rename_i h2;cases hd;have h2':cV x9 1 2=false:=by simpa using h2
   simp[-length_flatMap,-map_take,Bk.bx,Bk.cells,h1',fg,h2',cH,dJ,D.clean,rf]
 ·rename_i h1;cases hd;have h1':¬(b.rules.length:Int)<20:=by omega
  simp[-length_flatMap,-map_take,Bk.bx,Bk.cells,h1',dJ,D.clean,rf]
theorem vp{α:Type}{f:α→List D}{l:List α}:(nl f l).yh=.aK l.length (l.flatMap f):=by
 unfold nl;split
 ·rename_i h;subst h;rfl
 ·rfl
theorem atD{l:List bH}:(nl bH.enc l).clean=true:=by unfold nl;split<;>simp[D.clean,bu]
theorem BJ{b:cC}{tq wq:D}(htq:tq.yh=.aK b.cf.length (b.cf.flatMap Rw.enc))(hwq:wq.yh=.aK b.av.length (b.av.flatMap bH.enc))(h1:b.cf.length≤1000000000)(h2:b.av.length≤1000000000):
  bw T (.call false nZ [.agg [.int .i64 b.f.x,.int .i64 b.f.y,.int .i64 b.f.z,.int .i64 b.f.k,tq,.int .i64 b.bJ,.int .i64 b.lift,.int .i64 b.deep,wq]] σ)=some (.val (.int .i64 (if b.valid then 0 else 1)) σ):=by
 refine aD Lr LP rfl ?_;have hB:=fun σ=>DF (σ:=σ) (b:=b) h1 h2
 cases hv:b.valid<;>rw[hv]at hB<;>simp[-length_flatMap,-map_take,htq,hwq,hB,cM,bu]
def Oo(b:Bk)(x y z:Int):Bk:={b with bL:={b.bL with bJ:=x,lift:=y,deep:=z },ready:=true }
def M7(b:Bk)(x y z:Int):Bk×Int :=
 if((b.bL.f.x=0∧b.bL.f.y=0)∧b.bL.f.z=0∧b.bL.f.k=0)∨b.bL.cf=[]∨b.ready=true then(b,8)
 else if(Oo b x y z).bL.valid=true then(Oo b x y z,0)else(b,1)
theorem Np{f:fT}:(f.x == 0 && (f.y == 0 && (f.z == 0 && f.k == 0)))=decide ((f.x=0∧f.y=0)∧f.z=0∧f.k=0):=by
 by_cases h1:f.x=0<;>by_cases h2:f.y=0<;>by_cases h3:f.z=0<;>by_cases h4:f.k=0<;>simp[h1,h2,h3,h4]
theorem eI{α:Type}{f:α→List D}{l:List α}(h:l≠[]):nl f l=.aK l.length (l.flatMap f):=if_neg h
theorem asX{F:List Abs.aG}{b:Bk}{er:List Int}{nm:List UInt8}{x y z:Int}{b':Bk}{e:Int}(h1:b.bL.cf.length≤1000000000)(h2:b.bL.av.length≤1000000000)(hd:M7 b x y z=(b',e))(he:e=0):
  bw T (.call false gN [.ref σ.length 6 0 0,.str nm,.aK 3 [.int .i64 x,.int .i64 y,.int .i64 z]] (F::b.bx σ.length er::σ))=some (.val (.ez []) (F::b'.bx σ.length er::σ)):=by
 refine gF yy yM rfl (by simp) ?_;unfold M7 at hd;split at hd
 case isTrue=>cases hd;cases he
 rename_i h0;split at hd
 case isFalse=>cases hd;cases he
 rename_i h3;cases hd;have c1:(b.bL.f.x == 0 && (b.bL.f.y == 0 && (b.bL.f.z == 0 && b.bL.f.k == 0)))=false:=by rw[Np];simpa using fun hh=>h0 (.inl hh)
 have c2:b.bL.cf≠[]:=fun hh=>h0 (.inr (.inl hh))
 have c3:b.ready=false:=by cases hr:b.ready with | false=>rfl | true=>exact absurd (.inr (.inr hr)) h0
 have c4:0<b.bL.cf.length:=aV.2 c2;have hcl:(D.aK b.bL.cf.length (b.bL.cf.flatMap Rw.enc)).clean=true:=by simp[D.clean,cM]
 have hC:=fun σ=>BJ (σ:=σ) (b:=(Oo b x y z).bL) (tq:=nl Rw.enc b.bL.cf) (wq:=nl bH.enc b.bL.av) vp vp h1 h2
 rw[h3]at hC;simp only[eI c2,Oo]at hC;simp[-length_flatMap,-map_take,Bk.bx,Bk.cells,c1,eI c2,c4,c3,cH,pI,hC,Oo,atD,hcl]
theorem aiN{F:List Abs.aG}{b:Bk}{er:List Int}{nm:List UInt8}{x y z:Int}{b':Bk}{e:Int}(h1:b.bL.cf.length≤1000000000)(h2:b.bL.av.length≤1000000000)(hd:M7 b x y z=(b',e))(he:e≠0):
  bw T (.call false gN [.ref σ.length 6 0 0,.str nm,.aK 3 [.int .i64 x,.int .i64 y,.int .i64 z]] (F::b.bx σ.length er::σ))=some (.fU (rf e) (F::b.bx σ.length er::σ)):=by
 refine eg yy yM rfl ?_;have hM:=fun σ=>rD (σ:=σ) (e:=1) (by decide)
 unfold M7 at hd;split at hd
 ·rename_i h0;cases hd;cases c1:(b.bL.f.x == 0 && (b.bL.f.y == 0 && (b.bL.f.z == 0 && b.bL.f.k == 0)))
  ·by_cases c2:b.bL.cf=[]
   ·simp[-length_flatMap,-map_take,Bk.bx,Bk.cells,c1,c2,nl,dJ,D.clean,rf]
   ·have c4:0<b.bL.cf.length:=aV.2 c2;have c3:b.ready=true:=by
     rw[Np]at c1;rcases h0 with h | h | h
     ·exact absurd h (by simpa using c1)
     ·exact absurd h c2
     ·exact h
    simp[-length_flatMap,-map_take,Bk.bx,Bk.cells,c1,eI c2,c4,c3,dJ,D.clean,rf]
  ·simp[-length_flatMap,-map_take,Bk.bx,Bk.cells,c1,dJ,D.clean,rf]
 ·rename_i h0;split at hd
  ·cases hd;exact absurd rfl he
  rename_i h3;cases hd;have c1:(b.bL.f.x == 0 && (b.bL.f.y == 0 && (b.bL.f.z == 0 && b.bL.f.k == 0)))=false:=by rw[Np];simpa using fun hh=>h0 (.inl hh)
  have c2:b.bL.cf≠[]:=fun hh=>h0 (.inr (.inl hh))
  have c3:b.ready=false:=by cases hr:b.ready with | false=>rfl | true=>exact absurd (.inr (.inr hr)) h0
  have c4:0<b.bL.cf.length:=aV.2 c2;have hC:=fun σ=>BJ (σ:=σ) (b:=(Oo b x y z).bL) (tq:=nl Rw.enc b.bL.cf) (wq:=nl bH.enc b.bL.av) vp vp h1 h2
  have h3':(Oo b x y z).bL.valid=false:=by simpa using h3
  rw[h3']at hC;simp only[eI c2,Oo]at hC;simp[-length_flatMap,-map_take,Bk.bx,Bk.cells,c1,eI c2,c4,c3,cH,hM,hC,D.clean,rf]
theorem MY(l:List bH):(l.flatMap bH.enc).length=l.length*3:=bV (f:=bH.enc) (w:=3) (fun _=>rfl) l
theorem OW{bs:List Abs.aG}:bw T (.call true eL [.aH] (bs::σ))=some (.val (.sl σ.length (bs.length+1) 0 0 0 3) ((bs++[.cells 0 [],.cells 0 []])::σ)):=by
 refine yi sR sW rfl ?_;simp[-length_flatMap,-map_take]
theorem SR{bs:List Abs.aG}{l:List bH}(hne:l≠[])(hl:l.length≤1000000):bw T (.call true eL [.aK l.length (l.flatMap bH.enc)] (bs::σ)) =
  some (.val (.sl σ.length (bs.length+1) 1 0 l.length 3) ((bs++[.cells 0 [],.cells 1 (l.flatMap bH.enc)])::σ)):=by
 refine yi sR sW rfl ?_;have h7:l.length*24≤room:=by unfold room;omega
 simp[-length_flatMap,-map_take,hne,MY,h7]
def xo(b:Bk)(x y z:Int):Bk:={b with bL:={b.bL with av:=b.bL.av++[⟨x,y,z⟩] } }
def AB(b:Bk)(x y z:Int):Bk×Int :=
 if b.ready=true∧b.az=[]then(if(xo b x y z).bL.valid=true then(xo b x y z,0)else(b,1))else(b,8)
theorem atf{F:List Abs.aG}{b:Bk}{er:List Int}{nm:List UInt8}{x y z:Int}{b':Bk}{e:Int}(ht:b.bL.cf≠[])(h1:b.bL.cf.length≤1000000000)(h2:b.bL.av.length≤1000000)(hd:AB b x y z=(b',e))(he:e=0):
  bw T (.call false gg [.ref σ.length 6 0 0,.str nm,.aK 3 [.int .i64 x,.int .i64 y,.int .i64 z]] (F::b.bx σ.length er::σ))=some (.val (.ez []) (F::b'.bx σ.length er::σ)):=by
 refine gF xM xU rfl (by simp) ?_;unfold AB at hd;split at hd
 case isFalse=>cases hd;cases he
 rename_i h0;obtain⟨c1,c2⟩:=h0;split at hd
 case isFalse=>cases hd;cases he
 rename_i h3;cases hd;have hC:=fun σ=>BJ (σ:=σ) (b:=(xo b x y z).bL) (tq:=.aK b.bL.cf.length (b.bL.cf.flatMap Rw.enc)) (wq:=.aK (b.bL.av.length+1) (b.bL.av.flatMap bH.enc++[.int .i64 x,.int .i64 y,.int .i64 z])) rfl (by simp[xo,D.yh]) h1 (by simp[xo];omega)
 rw[h3]at hC;simp only[xo]at hC;have hcl:(D.aK b.bL.cf.length (b.bL.cf.flatMap Rw.enc)).clean=true:=by simp[D.clean,cM]
 have hroom:(b.bL.av.length+1)*24≤room:=by unfold room;omega
 have hlen:=MY b.bL.av;have htake:(b.bL.av.flatMap bH.enc).take (b.bL.av.length*3)=b.bL.av.flatMap bH.enc:=ar (by omega);have hcw:D.bD (b.bL.av.flatMap bH.enc++[.int .i64 x,.int .i64 y,.int .i64 z])=true:=by
  have:=bu (b.bL.av++[⟨x,y,z⟩]);simpa using this
 have hfr:∀(v:Nat) (S:SK),S.length=σ.length+1+1→cI 0 16 (.sl (σ.length+1+1) 1 v 0 (b.bL.av.length+1) 3) ([.cells 0 [],.cells v (b.bL.av.flatMap bH.enc++[.int .i64 x,.int .i64 y,.int .i64 z])]::S) =
   (.aK (b.bL.av.length+1) (b.bL.av.flatMap bH.enc++[.int .i64 x,.int .i64 y,.int .i64 z]),[.cells 0 [],.dead]::S):=by
  intro v S hS;have:=Ji (f:=bH.enc) (w:=3) (fun _=>rfl) (fun _=>by simp[D.clean]) (l:=b.bL.av++[⟨x,y,z⟩]) (j:=1) (v:=v) (bs:=[Abs.aG.cells 0 [],.cells v (b.bL.av.flatMap bH.enc++[.int .i64 x,.int .i64 y,.int .i64 z])]) (σ:=S) (by intro h;subst h;simp at hS) (by simp);rw[hS]at this;simpa using this
 have h24:24≤room:=by unfold room;omega
 have hcw2:(D.aK (b.bL.av.length+1) (b.bL.av.flatMap bH.enc++[.int .i64 x,.int .i64 y,.int .i64 z])).clean=true:=by simpa[D.clean]using hcw
 by_cases hw:b.bL.av=[]
 ·have hfr':=hfr;simp only[hw,bO,dO,aY,db]at hfr' hC;have ht':=eI (f:=Rw.enc) ht;simp only[nl]at ht';simp[-length_flatMap,-map_take,Bk.bx,Bk.cells,c1,c2,ht',hC,hw,nl,cH,pI,OW,xo,hcl,h24,hfr']
 ·simp[-length_flatMap,-map_take,Bk.bx,Bk.cells,c1,c2,eI ht,eI hw,cH,pI,SR hw h2,xo,hcl,hroom,hlen,htake,hfr,hC,hcw2];simp[nl]
theorem ajh{F:List Abs.aG}{b:Bk}{er:List Int}{nm:List UInt8}{x y z:Int}{b':Bk}{e:Int}(ht:b.ready=true→b.bL.cf≠[])(h1:b.bL.cf.length≤1000000000)(h2:b.bL.av.length≤1000000)(hd:AB b x y z=(b',e))(he:e≠0):
  bw T (.call false gg [.ref σ.length 6 0 0,.str nm,.aK 3 [.int .i64 x,.int .i64 y,.int .i64 z]] (F::b.bx σ.length er::σ))=some (.fU (rf e) (F::b.bx σ.length er::σ)):=by
 refine eg xM xU rfl ?_;have hM:=fun σ=>rD (σ:=σ) (e:=1) (by decide)
 have hrc:(D.vn 311 (.agg [.int .i64 1])).clean=true:=rfl;unfold AB at hd;split at hd
 case isFalse h0 =>
  cases hd;cases c1:b.ready with
  |false=>simp[-length_flatMap,-map_take,Bk.bx,Bk.cells,c1,dJ,D.clean,rf]
  |true =>
   have c2:b.az≠[]:=fun hh=>h0 ⟨c1,hh⟩
   have c2':((b.az.length:Int) == 0)=false:=by simpa using c2
   simp[-length_flatMap,-map_take,Bk.bx,Bk.cells,c1,c2',dJ,D.clean,rf]
 rename_i h0;obtain⟨c1,c2⟩:=h0;have ht:=ht c1;split at hd
 case isTrue=>cases hd;exact absurd rfl he
 rename_i h3;cases hd;have h3':(xo b x y z).bL.valid=false:=by simpa using h3
 have hC:=fun σ=>BJ (σ:=σ) (b:=(xo b x y z).bL) (tq:=.aK b.bL.cf.length (b.bL.cf.flatMap Rw.enc)) (wq:=.aK (b.bL.av.length+1) (b.bL.av.flatMap bH.enc++[.int .i64 x,.int .i64 y,.int .i64 z])) rfl (by simp[xo,D.yh]) h1 (by simp[xo];omega)
 rw[h3']at hC;simp only[xo]at hC;have hcl:(D.aK b.bL.cf.length (b.bL.cf.flatMap Rw.enc)).clean=true:=by simp[D.clean,cM]
 have hroom:(b.bL.av.length+1)*24≤room:=by unfold room;omega
 have hlen:=MY b.bL.av;have htake:(b.bL.av.flatMap bH.enc).take (b.bL.av.length*3)=b.bL.av.flatMap bH.enc:=ar (by omega);have hcw:D.bD (b.bL.av.flatMap bH.enc++[.int .i64 x,.int .i64 y,.int .i64 z])=true:=by
  have:=bu (b.bL.av++[⟨x,y,z⟩]);simpa using this
 have hfr:∀(v:Nat) (S:SK),S.length=σ.length+1+1→cI 0 16 (.sl (σ.length+1+1) 1 v 0 (b.bL.av.length+1) 3) ([.cells 0 [],.cells v (b.bL.av.flatMap bH.enc++[.int .i64 x,.int .i64 y,.int .i64 z])]::S) =
   (.aK (b.bL.av.length+1) (b.bL.av.flatMap bH.enc++[.int .i64 x,.int .i64 y,.int .i64 z]),[.cells 0 [],.dead]::S):=by
  intro v S hS;have:=Ji (f:=bH.enc) (w:=3) (fun _=>rfl) (fun _=>by simp[D.clean]) (l:=b.bL.av++[⟨x,y,z⟩]) (j:=1) (v:=v) (bs:=[Abs.aG.cells 0 [],.cells v (b.bL.av.flatMap bH.enc++[.int .i64 x,.int .i64 y,.int .i64 z])]) (σ:=S) (by intro h;subst h;simp at hS) (by simp);rw[hS]at this;simpa using this
 have h24:24≤room:=by unfold room;omega
 have hcw2:(D.aK (b.bL.av.length+1) (b.bL.av.flatMap bH.enc++[.int .i64 x,.int .i64 y,.int .i64 z])).clean=true:=by simpa[D.clean]using hcw
 by_cases hw:b.bL.av=[]
 ·have hfr':=hfr;simp only[hw,bO,dO,aY,db]at hfr' hC;have ht':=eI (f:=Rw.enc) ht;simp only[nl]at ht';simp[-length_flatMap,-map_take,Bk.bx,Bk.cells,c1,c2,ht',hC,hw,nl,cH,hM,OW,xo,hcl,h24,hfr',rf,hrc]
 ·simp[-length_flatMap,-map_take,Bk.bx,Bk.cells,c1,c2,eI ht,eI hw,cH,hM,SR hw h2,xo,hcl,hroom,hlen,htake,hfr,hC,hcw2,rf,hrc]
end Go.Proofs.YtfgljaglidhjiaaGreatDoor
