import Derived.Test.YtfgljaglidhjiaaGreatDoorTxt2
import Derived.Test.YtfgljaglidhjiaaGreatDoorBase20
import Derived.Test.YtfgljaglidhjiaaGreatDoorTab
import Derived.Test.YtfgljaglidhjiaaGreatDoorTxt0
set_option linter.all false
namespace Go.Proofs.YtfgljaglidhjiaaGreatDoor
open List(length_flatMap map_take)
open Go Go.Abs Go.Rock Go.Book
variable {σ:SK}
def yw(p:Wd×List UInt8×List Int):D:=.dV [.agg (M3 p.1),.str p.2.1,.aH p.2.2.length (p.2.2.flatMap aY)]
theorem GG{a:List D}(ha:D.bJ a=true){name:List UInt8}{v:Nat}{ns:List Int}{M:Abs.aE}(hσ:σ≠[]):
  cJ (σ.length-1) 16 (.dV [.agg a,.str name,.sl σ.length 0 v 0 ns.length 1]) ([.cells v (ns.flatMap aY),M]::σ)=(.dV [.agg a,.str name,.aH ns.length (ns.flatMap aY)],[.dead,M]::σ):=by
 have h3:¬σ.length≤σ.length-1:=by have:=aT.2 hσ;omega
 rw[Ea (by simp[D.bJ,D.clean]) (by omega)];have h4:=qQ (l:=σ.length-1) (n:=15) (d:=.agg a) (σ:=[Abs.aE.cells v (ns.flatMap aY),M]::σ) (by simp[D.clean,ha]) (by omega);have h5:=qQ (l:=σ.length-1) (n:=15) (d:=.str name) (σ:=[Abs.aE.cells v (ns.flatMap aY),M]::σ) (by simp[D.clean]) (by omega);have h6:=Dl (l:=σ.length-1) (n:=15) (l':=σ.length) (i:=0) (v:=v) (off:=0) (m:=ns.length) (w:=1) (σ:=[Abs.aE.cells v (ns.flatMap aY),M]::σ) (cs:=ns.flatMap aY) h3 (by simp) (by omega);have ht:(ns.flatMap aY).take ns.length=ns.flatMap aY:=by have:=Kh (f:=aY) (w:=1) (fun _=>rfl) ns;rwa[dM]at this
 simp only[Nat.reduceSub,cJ.frzL,h4,h5,h6];simp[ht,iU (f:=aY) (fun _=>by simp[D.clean]) ns]
theorem RB{s:List UInt8}(hl:s.length≤1000000){a:List UInt8}{all:List (List UInt8)}(h:gY 32 s=a::all)(hs:∀x∈all,x.length≤1000000)(hl2:all.length≤1000001){w:Wd}(hw:yH a=some w)(hn:w.named=false)(hσ:σ≠[]){p:Wd×List UInt8×List Int}(hp:wu w [] all=some p):
  lim T (.call false dk [.str s] σ)=some (.val (yw p) σ):=by
 refine aw lV fT.eq_1 rfl ?_;have hW:=BR (bs:=[.cells 0 []]) (σ:=σ);have hG:=Sf (S:=[Abs.aE.cells 0 [],.cells 0 (jT tU)]::σ) (l:=σ.length) (i:=1) (s:=a) (by simp);rw[hw]at hG;obtain⟨w1,w2,w3,w4,w5⟩:=EG hw;have hL:=GW (σ:=σ) (cs:=M3 w) (name:=[]) (M:=.cells 0 (jT tU)) hs hl2 all.length 0 [] (by omega) rfl;unfold wu at hp;cases hm:yu all with
 |none=>rw[hm]at hp;cases hp
 |some ns =>
 rw[hm]at hp;simp only[aC,ae]at hp;obtain⟨hf,rfl⟩:=hp;have hlen:=zB hm;simp only[HD,ck,af,au]at hf;have e1:IntKind.i64.wrap ((ns.length:Int)-w.least)=ns.length-w.least:=fN (by omega);rw[aO,hm]at hL;have q1:(1:Int)≤(all.length:Int)+1:=by omega
 have q2:(all.flatMap cc).take all.length=all.flatMap cc:=ai (by rw[bX (f:=cc) (w:=1) (fun _=>rfl)];omega);simp[-length_flatMap,-map_take,BP hl,h,hW,hG,cH,iZ,hn,yE,q1,q2];refine WL.to hL (by simp[iZ,hn]) (by simp) ?_;rintro x e σ' ⟨rfl,g2,g3,g4,rfl⟩;have hz:D.bJ (M3 w)=true:=by simp[M3,D.clean]
 rcases hf with c1 | ⟨c1,c2,c3⟩
 ·simp[-length_flatMap,-map_take,g2,g3,g4,iZ,e1,c1,cH,yw];exact⟨_,GG (by simp[D.clean]) hσ⟩
 ·have c0:¬(ns.length:Int)-w.least=0:=by omega
  have c4:¬w.step=0:=by omega
  have c5:w.least<(ns.length:Int):=by omega
  simp[-length_flatMap,-map_take,g2,g3,g4,iZ,e1,c0,c5,c2,c3,c4,cH,yw];exact⟨_,GG (by simp[D.clean]) hσ⟩
theorem KZ{s:List UInt8}(hl:s.length≤1000000){a:List UInt8}{all:List (List UInt8)}(h:gY 32 s=a::all)(hs:∀x∈all,x.length≤1000000)(hl2:all.length≤1000001){w:Wd}(hw:yH a=some w)(hn:w.named=false)(hp:wu w [] all=none):
  lim T (.call false dk [.str s] σ)=some (.gf (rf 4) σ):=by
 refine ep lV fT.eq_1 rfl ?_;have hW:=BR (bs:=[.cells 0 []]) (σ:=σ);have hG:=Sf (S:=[Abs.aE.cells 0 [],.cells 0 (jT tU)]::σ) (l:=σ.length) (i:=1) (s:=a) (by simp);rw[hw]at hG;obtain⟨w1,w2,w3,w4,w5⟩:=EG hw;have hL:=GW (σ:=σ) (cs:=M3 w) (name:=[]) (M:=.cells 0 (jT tU)) hs hl2 all.length 0 [] (by omega) rfl;have q1:(1:Int)≤(all.length:Int)+1:=by omega
 have q2:(all.flatMap cc).take all.length=all.flatMap cc:=ai (by rw[bX (f:=cc) (w:=1) (fun _=>rfl)];omega);rw[aO]at hL;simp[-length_flatMap,-map_take,BP hl,h,hW,hG,cH,iZ,hn,yE,q1,q2];refine WL.to hL (by simp[iZ,hn]) (by simp) ?_;unfold wu at hp;cases hm:yu all with
 |none =>
  rintro x e σ' ⟨rfl,bj,rfl⟩;simp[D.clean,rf]
 |some ns =>
 rw[hm]at hp;simp only[ite_eq_right_iff,reduceCtorEq,imp_false]at hp;rintro x e σ' ⟨rfl,g2,g3,g4,rfl⟩;have hlen:=zB hm;have e1:IntKind.i64.wrap ((ns.length:Int)-w.least)=ns.length-w.least:=fN (by omega);simp only[HD,ck,af,au]at hp;have c0:¬(ns.length:Int)-w.least=0:=fun hh=>hp (.inl hh)
 by_cases c1:w.least<(ns.length:Int)
 ·by_cases c2:0<w.step
  ·have c3:¬((ns.length:Int)-w.least).tmod w.step=0:=fun hh=>hp (.inr ⟨by omega,c2,hh⟩)
   have c4:¬w.step=0:=by omega
   have c3':(((ns.length:Int)-w.least).tmod w.step == 0)=false:=by simpa using c3
   have c0':((ns.length:Int)-w.least == 0)=false:=by simpa using c0
   simp[-length_flatMap,-map_take,g2,g3,g4,iZ,e1,c0',c1,c2,c3',c4,dK,D.clean,rf]
  ·simp[-length_flatMap,-map_take,g2,g3,g4,iZ,e1,c0,c1,c2,dK,D.clean,rf]
 ·simp[-length_flatMap,-map_take,g2,g3,g4,iZ,e1,c0,c1,dK,D.clean,rf]
theorem Nh{s:List UInt8}(hl:s.length≤1000000){a:List UInt8}(h:gY 32 s=[a]){w:Wd}(hw:yH a=some w)(hn:w.named=true):
  lim T (.call false dk [.str s] σ)=some (.gf (rf 4) σ):=by
 refine ep lV fT.eq_1 rfl ?_;have hW:=BR (bs:=[.cells 0 []]) (σ:=σ);have hG:=Sf (S:=[Abs.aE.cells 0 [],.cells 0 (jT tU)]::σ) (l:=σ.length) (i:=1) (s:=a) (by simp);rw[hw]at hG;obtain⟨w1,w2,w3,w4,w5⟩:=EG hw;simp[-length_flatMap,-map_take,BP hl,h,hW,hG,cH,dK,iZ,hn,D.clean,rf]
theorem RC{s:List UInt8}(hl:s.length≤1000000){a n:List UInt8}{r:List (List UInt8)}(h:gY 32 s=a::n::r)(hs:∀x∈r,x.length≤1000000)(hl2:r.length≤1000001){w:Wd}(hw:yH a=some w)(hn:w.named=true)(hσ:σ≠[]){p:Wd×List UInt8×List Int}(hp:wu w n r=some p):
  lim T (.call false dk [.str s] σ)=some (.val (yw p) σ):=by
 refine aw lV fT.eq_1 rfl ?_;have hW:=BR (bs:=[.cells 0 []]) (σ:=σ);have hG:=Sf (S:=[Abs.aE.cells 0 [],.cells 0 (jT tU)]::σ) (l:=σ.length) (i:=1) (s:=a) (by simp);rw[hw]at hG;obtain⟨w1,w2,w3,w4,w5⟩:=EG hw;have hL:=GW (σ:=σ) (cs:=M3 w) (name:=n) (M:=.cells 0 (jT tU)) hs hl2 r.length 0 [] (by omega) rfl;have q1:(1:Int)≤(r.length:Int)+1:=by omega
 have q2:(r.flatMap cc).take r.length=r.flatMap cc:=ai (by rw[bX (f:=cc) (w:=1) (fun _=>rfl)];omega);have q3:(1:Int)≤(r.length:Int)+1+1:=by omega
 have q4:(0:Int)<(r.length:Int)+1:=by omega
 have q6:(0:Int)<(r.length:Int)+1+1:=by omega
 have q5:(r.flatMap cc).take (r.length+1)=r.flatMap cc:=ai (by rw[bX (f:=cc) (w:=1) (fun _=>rfl)];omega);unfold wu at hp;cases hm:yu r with
 |none=>rw[hm]at hp;cases hp
 |some ns =>
 rw[hm]at hp;simp only[aC,ae]at hp;obtain⟨hf,rfl⟩:=hp;have hlen:=zB hm;simp only[HD,ck,af,au]at hf;have e1:IntKind.i64.wrap ((ns.length:Int)-w.least)=ns.length-w.least:=fN (by omega);rw[aO,hm]at hL;simp[-length_flatMap,-map_take,BP hl,h,hW,hG,cH,iZ,hn,yE,q1,q2,q3,q4,q5,q6];refine WL.to hL (by simp[iZ,hn]) (by simp) ?_;rintro x e σ' ⟨rfl,g2,g3,g4,rfl⟩;rcases hf with c1 | ⟨c1,c2,c3⟩
 ·simp[-length_flatMap,-map_take,g2,g3,g4,iZ,e1,c1,cH,yw];exact⟨_,GG (by simp[D.clean]) hσ⟩
 ·have c0:¬(ns.length:Int)-w.least=0:=by omega
  have c4:¬w.step=0:=by omega
  have c5:w.least<(ns.length:Int):=by omega
  simp[-length_flatMap,-map_take,g2,g3,g4,iZ,e1,c0,c5,c2,c3,c4,cH,yw];exact⟨_,GG (by simp[D.clean]) hσ⟩
theorem K0{s:List UInt8}(hl:s.length≤1000000){a n:List UInt8}{r:List (List UInt8)}(h:gY 32 s=a::n::r)(hs:∀x∈r,x.length≤1000000)(hl2:r.length≤1000001){w:Wd}(hw:yH a=some w)(hn:w.named=true)(hp:wu w n r=none):
  lim T (.call false dk [.str s] σ)=some (.gf (rf 4) σ):=by
 refine ep lV fT.eq_1 rfl ?_;have hW:=BR (bs:=[.cells 0 []]) (σ:=σ);have hG:=Sf (S:=[Abs.aE.cells 0 [],.cells 0 (jT tU)]::σ) (l:=σ.length) (i:=1) (s:=a) (by simp);rw[hw]at hG;obtain⟨w1,w2,w3,w4,w5⟩:=EG hw;have hL:=GW (σ:=σ) (cs:=M3 w) (name:=n) (M:=.cells 0 (jT tU)) hs hl2 r.length 0 [] (by omega) rfl;have q1:(1:Int)≤(r.length:Int)+1:=by omega
 have q2:(r.flatMap cc).take r.length=r.flatMap cc:=ai (by rw[bX (f:=cc) (w:=1) (fun _=>rfl)];omega);have q3:(1:Int)≤(r.length:Int)+1+1:=by omega
 have q4:(0:Int)<(r.length:Int)+1:=by omega
 have q6:(0:Int)<(r.length:Int)+1+1:=by omega
 have q5:(r.flatMap cc).take (r.length+1)=r.flatMap cc:=ai (by rw[bX (f:=cc) (w:=1) (fun _=>rfl)];omega);rw[aO]at hL;simp[-length_flatMap,-map_take,BP hl,h,hW,hG,cH,iZ,hn,yE,q1,q2,q3,q4,q5,q6];refine WL.to hL (by simp[iZ,hn]) (by simp) ?_;unfold wu at hp;cases hm:yu r with
 |none =>
  rintro x e σ' ⟨rfl,bj,rfl⟩;simp[D.clean,rf]
 |some ns =>
 rw[hm]at hp;simp only[ite_eq_right_iff,reduceCtorEq,imp_false]at hp;rintro x e σ' ⟨rfl,g2,g3,g4,rfl⟩;have hlen:=zB hm;have e1:IntKind.i64.wrap ((ns.length:Int)-w.least)=ns.length-w.least:=fN (by omega);simp only[HD,ck,af,au]at hp;have c0:¬(ns.length:Int)-w.least=0:=fun hh=>hp (.inl hh)
 by_cases c1:w.least<(ns.length:Int)
 ·by_cases c2:0<w.step
  ·have c3:¬((ns.length:Int)-w.least).tmod w.step=0:=fun hh=>hp (.inr ⟨by omega,c2,hh⟩)
   have c4:¬w.step=0:=by omega
   have c3':(((ns.length:Int)-w.least).tmod w.step == 0)=false:=by simpa using c3
   have c0':((ns.length:Int)-w.least == 0)=false:=by simpa using c0
   simp[-length_flatMap,-map_take,g2,g3,g4,iZ,e1,c0',c1,c2,c3',c4,dK,D.clean,rf]
  ·simp[-length_flatMap,-map_take,g2,g3,g4,iZ,e1,c0,c1,c2,dK,D.clean,rf]
 ·simp[-length_flatMap,-map_take,g2,g3,g4,iZ,e1,c0,c1,dK,D.clean,rf]
theorem Ez(b:UInt8):∀(s:List UInt8),∀x∈gY b s,x.length≤s.length
 |[],x,hx=>by simp[gY]at hx;simp[hx]
 |c::r,x,hx=>by
  have ih:=Ez b r;simp only[gY]at hx;split at hx
  ·rcases bd.1 hx with rfl | hx
   ·simp
   ·have:=ih x hx;simp;omega
  ·split at hx
   ·rename_i y l hyl;rcases bd.1 hx with rfl | hx
    ·have:=ih y (by rw[hyl];simp);simp;omega
    ·have:=ih x (by rw[hyl];simp[hx]);simp;omega
   ·rename_i hyl;exact absurd hyl (Cf b r)
theorem Tn{s:List UInt8}(hl:s.length≤1000000)(hσ:σ≠[]){p:Wd×List UInt8×List Int}(hp:parse s=some p):lim T (.call false dk [.str s] σ)=some (.val (yw p) σ):=by
 unfold parse at hp;have hlen:=Aw 32 s;have hle:=Ez 32 s;cases h:gY 32 s with
 |nil=>exact absurd h (Cf 32 s)
 |cons a all =>
 rw[h]at hp hlen hle;simp only[aG]at hlen;dsimp only at hp;cases hw:yH a with
 |none=>rw[hw]at hp;cases hp
 |some w =>
 rw[hw]at hp;dsimp only at hp;cases hn:w.named with
 |false =>
  rw[hn]at hp;exact RB hl h (fun x hx=>by have:=hle x (by simp[hx]);omega) (by omega) hw hn hσ (by simpa using hp)
 |true =>
  rw[hn]at hp;simp only[if_true]at hp;cases all with
  |nil=>cases hp
  |cons n r=>exact RC hl h (fun x hx=>by have:=hle x (by simp[hx]);omega) (by simp at hlen;omega) hw hn hσ hp
theorem Ni{s:List UInt8}(hl:s.length≤1000000)(hp:parse s=none):lim T (.call false dk [.str s] σ)=some (.gf (rf 4) σ):=by
 unfold parse at hp;have hlen:=Aw 32 s;have hle:=Ez 32 s;cases h:gY 32 s with
 |nil=>exact absurd h (Cf 32 s)
 |cons a all =>
 rw[h]at hp hlen hle;simp only[aG]at hlen;dsimp only at hp;cases hw:yH a with
 |none=>exact K1 hl h hw
 |some w =>
 rw[hw]at hp;dsimp only at hp;cases hn:w.named with
 |false =>
  rw[hn]at hp;exact KZ hl h (fun x hx=>by have:=hle x (by simp[hx]);omega) (by omega) hw hn (by simpa using hp)
 |true =>
  rw[hn]at hp;simp only[if_true]at hp;cases all with
  |nil=>exact Nh hl h hw hn
  |cons n r=>exact K0 hl h (fun x hx=>by have:=hle x (by simp[hx]);omega) (by simp at hlen;omega) hw hn hp
end Go.Proofs.YtfgljaglidhjiaaGreatDoor
namespace Go.Trem
open List(length_flatMap map_take)
open Go Go.Abs
structure Pt where
 x:Int
 y:Int
 z:Int
 deriving DecidableEq
structure Rg where
 lo:Int
 hi:Int
 deriving DecidableEq
structure Nt where
 p:Pt
 err:Int
structure Net where
 st:List Nt
 s0:Rg
 s1:Rg
 low:Pt
 high:Pt
 step:Int
structure EK where
 st:Int
 ph:Int
 t:Rg
structure Plc where
 p:Pt
 o:Rg
 deriving DecidableEq
structure yI where
 far:Int
 add:Int
structure G2 where
 levels:List Int
 rows:List yI
structure zM where
 st:Int
 amt:Int
structure atE where
 fst:Int
 thn:Int
structure Bet where
 num:Int
 den:Int
 a:Int
 b:Int
 arz:Int
@[simp] theorem Pt.eta(p:Pt):Pt.mk p.x p.y p.z=p:=rfl
@[simp] theorem Rg.eta(p:Rg):Rg.mk p.lo p.hi=p:=rfl
@[simp] theorem Nt.eta(p:Nt):Nt.mk p.p p.err=p:=rfl
@[simp] theorem Net.eta(p:Net):Net.mk p.st p.s0 p.s1 p.low p.high p.step=p:=rfl
@[simp] theorem EK.eta(p:EK):EK.mk p.st p.ph p.t=p:=rfl
@[simp] theorem G2.eta(p:G2):G2.mk p.levels p.rows=p:=rfl
@[simp] theorem zM.eta(p:zM):zM.mk p.st p.amt=p:=rfl
@[simp] theorem yI.eta(p:yI):yI.mk p.far p.add=p:=rfl
@[simp] theorem Bet.eta(p:Bet):Bet.mk p.num p.den p.a p.b p.arz=p:=rfl
@[simp] def Pt.enc(p:Pt):List D:=[.int .i64 p.x,.int .i64 p.y,.int .i64 p.z]
@[simp] def Rg.enc(r:Rg):List D:=[.int .i64 r.lo,.int .i64 r.hi]
@[simp] def Nt.enc(s:Nt):List D:=[.int .i64 s.p.x,.int .i64 s.p.y,.int .i64 s.p.z,.int .i64 s.err]
@[simp] def EK.enc(p:EK):List D:=[.int .i64 p.st,.int .u8 p.ph,.int .i64 p.t.lo,.int .i64 p.t.hi]
@[simp] def Plc.enc(p:Plc):List D:=[.int .i64 p.p.x,.int .i64 p.p.y,.int .i64 p.p.z,.int .i64 p.o.lo,.int .i64 p.o.hi]
@[simp] def yI.enc(p:yI):List D:=[.int .i64 p.far,.int .i64 p.add]
@[simp] def zM.enc(p:zM):List D:=[.int .i64 p.st,.int .i64 p.amt]
@[simp] def atE.enc(p:atE):List D:=[.int .i64 p.fst,.int .i64 p.thn]
@[simp] def Bet.enc(b:Bet):List D:=[.int .i64 b.num,.int .i64 b.den,.int .i64 b.a,.int .i64 b.b,.int .i64 b.arz]
@[simp] def aY(n:Int):List D:=[.int .i64 n]
@[simp] def ud(n:Bool):List D:=[.bool n]
@[simp] def Net.enc(n:Net):List D:=[.aH n.st.length (n.st.flatMap Nt.enc),.int .i64 n.s0.lo,.int .i64 n.s0.hi,.int .i64 n.s1.lo,.int .i64 n.s1.hi,
 .int .i64 n.low.x,.int .i64 n.low.y,.int .i64 n.low.z,.int .i64 n.high.x,.int .i64 n.high.y,.int .i64 n.high.z,.int .i64 n.step]
@[simp] def G2.enc(s:G2):List D:=[.aH s.levels.length (s.levels.flatMap aY),.aH s.rows.length (s.rows.flatMap yI.enc)]
def cT(n lo hi:Int):Bool:=decide (lo≤n) && decide (n≤hi)
theorem bf{n lo hi:Int}:cT n lo hi=true↔lo≤n∧n≤hi:=by simp[cT]
def Pt.ok(p:Pt):Bool:=cT p.x (-20000) 20000 && (cT p.y (-20000) 20000 && cT p.z (-20000) 20000)
def Bl(a b:Pt):Bool:=a.ok && (b.ok && (decide (a.x≤b.x) && (decide (a.y≤b.y) && decide (a.z≤b.z))))
def Nt.ok(s:Nt):Bool:=s.p.ok && cT s.err 0 1000
def Rg.cT(r:Rg)(lo hi:Int):Bool:=decide (lo≤r.lo) && (decide (r.lo≤r.hi) && decide (r.hi≤hi))
def steps(n:Net)(lo hi:Int):Int:=(hi-lo).tdiv n.step+1
def Net.pre(n:Net):Bool:=Trem.cT n.st.length 1 12 && (ie n.st Nt.ok && (Bl n.low n.high && (Trem.cT n.step 1 20000 && (n.s0.cT 1 2000 && n.s1.cT 1 2000))))
def Net.count(n:Net):Int:=steps n n.low.x n.high.x*steps n n.low.y n.high.y*steps n n.low.z n.high.z
def Net.ok(n:Net):Bool:=n.pre && decide (n.count≤2000)
theorem Pt.Kl{p:Pt}:p.ok=true↔(-20000≤p.x∧p.x≤20000)∧(-20000≤p.y∧p.y≤20000)∧(-20000≤p.z∧p.z≤20000):=by
 simp only[Pt.ok,af,bf]
def bsr:Nat→Int→Int→Int→Int
 |0,_,lo,_=>lo
 |f+1,n,lo,hi=>if lo<hi then(if((lo+hi+1) / 2)*((lo+hi+1) / 2)≤n then bsr f n ((lo+hi+1) / 2) hi else bsr f n lo ((lo+hi+1) / 2-1))else lo
def sq(p q:Pt):Int:=(p.x-q.x)*(p.x-q.x)+(p.y-q.y)*(p.y-q.y)+(p.z-q.z)*(p.z-q.z)
def at4(p q:Pt):Int:=bsr 17 (sq p q) 0 70000
def prog(lo hi st:Int):List Int:=(List.range ((hi-lo) / st+1).toNat).map fun(i:Nat)=>lo+i*st
def zs(n:Net)(x y:Int)(z:Int):List Pt:=(prog z n.high.z n.step).map fun z=>⟨x,y,z⟩
def ys(n:Net)(x:Int)(y:Int):List Pt:=(prog y n.high.y n.step).flatMap fun y=>zs n x y n.low.z
def xs(n:Net)(x:Int):List Pt:=(prog x n.high.x n.step).flatMap fun x=>ys n x n.low.y
def agZ(n:Net):List Pt:=xs n n.low.x
def Net.stn(n:Net)(i:Int):Nt:=n.st.getD i.toNat ⟨⟨0,0,0⟩,0⟩
def Net.Oe(n:Net)(ph:Int):Rg:=if ph=0 then n.s0 else n.s1
def afE(n:Net)(i ph:Int)(p:Pt):Rg:=⟨(n.Oe ph).lo*at4 (n.stn i).p p / 1000,((n.Oe ph).hi*(at4 (n.stn i).p p+1)+999) / 1000⟩
def EK.ok(n:Net)(p:EK):Bool:=Trem.cT p.st 0 (n.st.length-1) && (decide (p.ph<2) && p.t.cT (-100000000) 100000000)
def span(n:Net)(p:EK)(q:Pt):Rg:=⟨p.t.lo-(n.stn p.st).err-(afE n p.st p.ph q).hi,p.t.hi+(n.stn p.st).err-(afE n p.st p.ph q).lo⟩
def meet(a b:Rg):Rg:=⟨max a.lo b.lo,min a.hi b.hi⟩
def common:List Rg→Rg
 |[]=>⟨0,0⟩
 |r::l=>l.foldl meet r
def Rg.ne(r:Rg):Bool:=decide (r.lo≤r.hi)
end Go.Trem
namespace Go.Proofs.YtfgljaglidhjiaaGreatDoor
open List(length_flatMap map_take)
open Go Go.Abs Go.Trem
variable {σ:SK}
theorem gI{a b c:Int}:lim T (.call false cm [.int .i64 a,.int .i64 b,.int .i64 c] σ)=some (.val (.bool (cT a b c)) σ):=by
 refine aw Gk tw.eq_1 rfl ?_;by_cases h:b≤a<;>simp[-length_flatMap,-map_take,h,cT]
theorem atz{a:Int}:lim T (.call false eD [.int .i64 a] σ)=some (.val (.bool (cT a (-20000) 20000)) σ):=by
 refine aw zU lN.eq_1 rfl ?_;simp[-length_flatMap,-map_take,gI]
theorem Ru{l:List Int}(hl:l.length≤9223372036854775807){fv:D}{p:Int→Bool}(ht:rj T fv (.int .i64) p l)(hc:fv.cells=some [fv]):
  lim T (.call false ix [.aH l.length (l.flatMap aY),fv] σ)=some (.val (.bool (ie l p)) σ) :=
 zV (J9 .i64) EY De xT zS hl ht hc
theorem xb{x y z:Int}:lim T (.call false fI [.agg [.int .i64 x,.int .i64 y,.int .i64 z]] σ)=some (.val (.bool (Pt.ok ⟨x,y,z⟩)) σ):=by
 refine aw Bi nK.eq_1 rfl ?_;have h:∀σ,lim T (.call false ix [.aH 3 [.int .i64 x,.int .i64 y,.int .i64 z],.fn eD [] []] σ)=some (.val (.bool (Pt.ok ⟨x,y,z⟩)) σ):=fun σ=>by
  have:=Ru (σ:=σ) (l:=[x,y,z]) (by simp) (fv:=.fn eD [] []) (p:=fun a=>cT a (-20000) 20000) (.fn fun a _ σ=>atz) rfl;simpa[Pt.ok,Bool.and_assoc,ie]using this
 simp[-length_flatMap,-map_take,h]
theorem IL{x y z a b c:Int}:lim T (.call false uG [.agg [.int .i64 x,.int .i64 y,.int .i64 z],.agg [.int .i64 a,.int .i64 b,.int .i64 c]] σ)=some (.val (.bool (Bl ⟨x,y,z⟩ ⟨a,b,c⟩)) σ):=by
 refine aw JT wW.eq_1 rfl ?_;cases hc1:Pt.ok ⟨x,y,z⟩
 ·simp[-length_flatMap,-map_take,xb,Bl,hc1]
 cases hc2:Pt.ok ⟨a,b,c⟩
 ·simp[-length_flatMap,-map_take,xb,Bl,hc1,hc2]
 by_cases hc3:x≤a
 rotate_left
 ·simp[-length_flatMap,-map_take,xb,Bl,hc1,hc2,hc3]
 by_cases hc4:y≤b
 rotate_left
 ·simp[-length_flatMap,-map_take,xb,Bl,hc1,hc2,hc3,hc4]
 simp[-length_flatMap,-map_take,xb,Bl,hc1,hc2,hc3,hc4]
theorem ahe{n:Net}:n.pre=true↔(1≤(n.st.length:Int)∧(n.st.length:Int)≤12)∧ie n.st Nt.ok=true∧(n.low.ok=true∧n.high.ok=true∧n.low.x≤n.high.x∧n.low.y≤n.high.y∧n.low.z≤n.high.z) ∧
  (1≤n.step∧n.step≤20000)∧(1≤n.s0.lo∧n.s0.lo≤n.s0.hi∧n.s0.hi≤2000)∧(1≤n.s1.lo∧n.s1.lo≤n.s1.hi∧n.s1.hi≤2000):=by
 simp only[Net.pre,af,bf,Bl,Rg.cT,au]
structure atC(n:Net)(i ph:Int):Prop where
 i0:0≤i
 i1:i<n.st.length
 hph:ph=0∨ph=1
 p:(n.stn i).p.ok=true
 e:0≤(n.stn i).err∧(n.stn i).err≤1000
 s:1≤(n.Oe ph).lo∧(n.Oe ph).lo≤(n.Oe ph).hi∧(n.Oe ph).hi≤2000
 cells:((n.st.flatMap Nt.enc).drop (i.toNat*4)).take 4=(n.stn i).enc
theorem ae5{n:Net}(h:n.ok=true){i ph:Int}(hi:cT i 0 (n.st.length-1)=true)(hp:0≤ph)(hp':ph<2):atC n i ph:=by
 simp only[Net.ok,af]at h;have h0:=ahe.1 h.1;rw[bf]at hi;have h1:i.toNat<n.st.length:=by omega
 have h2:n.st[i.toNat]?=some (n.stn i):=by
  simp[Net.stn,List.getD,aN h1]
 have h3:=j7.1 h0.2.1 _ (aj h2);simp only[Nt.ok,af,bf]at h3;refine⟨by omega,by omega,by omega,h3.1,h3.2,?_,bW (f:=Nt.enc) (w:=4) (fun _=>rfl) h2⟩;unfold Net.Oe;split<;>omega
structure Hd(n:Net)(l:List EK):Prop where
 ok:n.ok=true
 len:l.length≤60
 all:∀p∈l,EK.ok n p=true∧0≤p.ph
theorem Hd.aAb{n:Net}{l:List EK}(h:Hd n l){p:EK}(hp:p∈l):atC n p.st p.ph:=by
 have h1:=h.all p hp;simp only[EK.ok,af,au]at h1;exact ae5 h.ok h1.1.1 h1.2 h1.1.2.1
end Go.Proofs.YtfgljaglidhjiaaGreatDoor
namespace Go.Trem
open List(length_flatMap map_take)
open Go Go.Abs
theorem Ej{α β:Type}{f:α→List β}{c:Nat}{l:List α}(h:∀x∈l,(f x).length=c):(l.flatMap f).length=l.length*c:=by
 induction l with
 |nil=>simp
 |cons a l ih =>
  rw[aS,bC,h a (by simp),ih fun x hx=>h x (by simp[hx]),aG,eW];omega
end Go.Trem
namespace Go.Proofs.YtfgljaglidhjiaaGreatDoor
open List(length_flatMap map_take)
open Go Go.Abs Go.Trem
variable {σ:SK}
structure Bx(n:Net):Prop where
 st:1≤n.step∧n.step≤20000
 lx : -20000≤n.low.x∧n.low.x≤20000
 ly : -20000≤n.low.y∧n.low.y≤20000
 lz : -20000≤n.low.z∧n.low.z≤20000
 hx:n.low.x≤n.high.x∧n.high.x≤20000
 hy:n.low.y≤n.high.y∧n.high.y≤20000
 hz:n.low.z≤n.high.z∧n.high.z≤20000
 len:(agZ n).length≤2000
end Go.Proofs.YtfgljaglidhjiaaGreatDoor
namespace Go.Trem
open List(length_flatMap map_take)
open Go Go.Abs
def avZ(l:List Int)(i:Nat):Bool:=decide (i=0) || decide (l.getD (i-1) 0<l.getD i 0)
def av0(l:List Int):Bool:=ie (List.range' 0 l.length) (avZ l)
def yI.ok(r:yI):Bool:=cT r.far 0 20000 && cT r.add 0 100
def G2.ok(s:G2):Bool:=cT s.levels.length 1 60 && (ie s.levels (fun n=>cT n 1 1000000000) && (av0 s.levels && (cT s.rows.length 1 20 && (decide ((s.rows.getD 0 ⟨0,0⟩).far=0) && (ie s.rows yI.ok && av0 (s.rows.map (·.far)))))))
def lvl(l:List Int)(a:Int):Nat:=(l.takeWhile fun x=>decide (x≤a)).length
def zM.ok(n:Net)(r:zM):Bool:=cT r.st 0 (n.st.length-1) && cT r.amt 0 1000000000
end Go.Trem
namespace Go.Proofs.YtfgljaglidhjiaaGreatDoor
open List(length_flatMap map_take)
open Go Go.Abs Go.Trem
variable {σ:SK}
end Go.Proofs.YtfgljaglidhjiaaGreatDoor
namespace Go.Trem
open List(length_flatMap map_take)
open Go Go.Abs
def Bet.ok(b:Bet):Bool:=cT b.den 2 1000 && (cT b.num 1 (b.den-1) && (cT b.b 1 1000 && (cT b.a 0 b.b && cT b.arz 2 1000)))
def next(b:Bet)(c:Int)(hit:Bool):Int:=if hit then min (c*(b.b*b.num+b.a*(b.den-b.num)) / (b.b*b.num)) 1000000000000 else c*(b.b-b.a) / b.b
structure az7(b:Bet)(c:Int):Prop where
 w1:IntKind.i64.wrap (b.b*b.num)=b.b*b.num
 w2:IntKind.i64.wrap (b.den-b.num)=b.den-b.num
 w3:IntKind.i64.wrap (b.a*(b.den-b.num))=b.a*(b.den-b.num)
 w4:IntKind.i64.wrap (b.b*b.num+b.a*(b.den-b.num))=b.b*b.num+b.a*(b.den-b.num)
 w5:IntKind.i64.wrap (c*(b.b*b.num+b.a*(b.den-b.num)))=c*(b.b*b.num+b.a*(b.den-b.num))
 w6:IntKind.i64.wrap ((c*(b.b*b.num+b.a*(b.den-b.num))).tdiv (b.b*b.num))=c*(b.b*b.num+b.a*(b.den-b.num)) / (b.b*b.num)
 w7:b.b*b.num≠0
 w8:IntKind.i64.wrap (b.b-b.a)=b.b-b.a
 w9:IntKind.i64.wrap (c*(b.b-b.a))=c*(b.b-b.a)
 w10:IntKind.i64.wrap ((c*(b.b-b.a)).tdiv b.b)=c*(b.b-b.a) / b.b
 w11:b.b≠0
 w12:∀h,0≤next b c h∧next b c h≤1000000000000
 w13:min (c*(b.b-b.a) / b.b) 1000000000000=c*(b.b-b.a) / b.b
def rQ(k0 k1 k2:Int):Bool:=decide (k0≤1000) && (decide (k1≤k0) && (decide (k2≤k1) && decide (0≤k2)))
def TV(n:Int):Bool:=cT n 0 1000000000
end Go.Trem
namespace Go.Proofs.YtfgljaglidhjiaaGreatDoor
open List(length_flatMap map_take)
open Go Go.Abs Go.Trem
variable {σ:SK}
theorem GN{a:Int}:lim T (.call false kO [.int .i64 a] σ)=some (.val (.bool (TV a)) σ):=by
 refine aw DT rE.eq_1 rfl ?_;simp[-length_flatMap,-map_take,gI,TV]
structure az8(p k:Int):Prop where
 w1:IntKind.i64.wrap (p*k)=p*k
 w2:IntKind.i64.wrap ((p*k).tdiv 1000)=p*k / 1000
 w3:0≤p*k / 1000
 w4:p*k / 1000≤1000000000
end Go.Proofs.YtfgljaglidhjiaaGreatDoor
namespace Go.Trem
open List(length_flatMap map_take)
open Go Go.Abs
structure xc where
 p:Pt
 mag:Int
structure Ev where
 tick:Int
 sp:List xc
structure eZ where
 lo:Pt
 hi:Pt
 least:Int
 zH:Int
 count:Int
 RX:Int
@[simp] theorem xc.eta(p:xc):xc.mk p.p p.mag=p:=rfl
@[simp] theorem Ev.eta(p:Ev):Ev.mk p.tick p.sp=p:=rfl
@[simp] theorem eZ.eta(p:eZ):eZ.mk p.lo p.hi p.least p.zH p.count p.RX=p:=rfl
@[simp] def xc.enc(s:xc):List D:=[.int .i64 s.p.x,.int .i64 s.p.y,.int .i64 s.p.z,.int .i64 s.mag]
@[simp] def Ev.enc(e:Ev):List D:=[.int .i64 e.tick,.aH e.sp.length (e.sp.flatMap xc.enc)]
@[simp] def eZ.enc(r:eZ):List D:=[.int .i64 r.lo.x,.int .i64 r.lo.y,.int .i64 r.lo.z,.int .i64 r.hi.x,.int .i64 r.hi.y,.int .i64 r.hi.z,.int .i64 r.least,.int .i64 r.zH,.int .i64 r.count,.int .u8 r.RX]
def NF:Elt xc:=xo 4 xc.enc fun _=>rfl
def at6:Elt Ev:=xo 2 Ev.enc fun _=>rfl
def agI:Elt eZ:=xo 10 eZ.enc fun _=>rfl
def eZ.RW(r:eZ)(s:xc):Bool:=decide (r.least≤s.mag) && (cT s.p.x r.lo.x r.hi.x && (cT s.p.y r.lo.y r.hi.y && cT s.p.z r.lo.z r.hi.z))
def eZ.ok(r:eZ):Bool:=Bl r.lo r.hi && (cT r.least 0 160 && (cT r.zH 1 1000000 && (cT r.count 1 200 && (r.RX == 1 || r.RX == 2))))
def xc.ok(s:xc):Bool:=s.p.ok && cT s.mag 0 160
def Ev.ok(e:Ev):Bool:=cT e.tick 0 1000000 && (cT e.sp.length 1 2000 && ie e.sp xc.ok)
def eZ.act(r:eZ)(now:Int)(e:Ev):Bool:=decide (now-r.zH<e.tick) && decide (e.tick≤now)
def Gp(f:Ev→Bool):List Ev→Nat
 |[]=>0
 |e::l=>Gp f l+(if f e then 1 else 0)
def zG(r:eZ)(now:Int)(e:Ev):Bool:=r.act now e && sF e.sp r.RW
def ug(r:eZ)(now:Int)(e:Ev):Bool:=r.act now e && ie e.sp r.RW
def y7(f:eZ→Ev→Bool)(l:List Ev):List eZ→Int→Int
 |[],a=>a
 |r::R,a=>y7 f l R (if r.count≤Gp (f r) l then max a r.RX else a)
def aeR(R:List eZ)(l:List Ev)(now:Int):Int:=y7 (fun r=>zG r now) l R 0
def afz(R:List eZ)(l:List Ev)(now:Int):Int:=y7 (fun r=>ug r now) l R 0
def pZ(R:List eZ)(l:List Ev)(now:Int):Int :=
 if 20<R.length then 3 else if ie R eZ.ok=false then 1 else if 200<l.length then 3 else if ie l Ev.ok=false then 1 else if cT now 0 1000000=false then 2 else 0
theorem HW{r:eZ}:r.ok=true↔Bl r.lo r.hi=true∧(0≤r.least∧r.least≤160)∧(1≤r.zH∧r.zH≤1000000)∧(1≤r.count∧r.count≤200)∧(r.RX=1∨r.RX=2):=by
 simp only[eZ.ok,af,bf,ck,beq_iff_eq]
end Go.Trem
namespace Go.Proofs.YtfgljaglidhjiaaGreatDoor
open List(length_flatMap map_take)
open Go Go.Abs Go.Trem
variable {σ:SK}
theorem KX{r:eZ}{s:xc}:lim T (.call false ej [.agg r.enc,.agg s.enc] σ)=some (.val (.bool (r.RW s)) σ):=by
 refine aw Bj nL.eq_1 rfl ?_;by_cases hc1:r.least≤s.mag
 rotate_left
 ·simp[-length_flatMap,-map_take,gI,eZ.RW,hc1]
 cases hc2:cT s.p.x r.lo.x r.hi.x
 ·simp[-length_flatMap,-map_take,gI,eZ.RW,hc1,hc2]
 cases hc3:cT s.p.y r.lo.y r.hi.y
 ·simp[-length_flatMap,-map_take,gI,eZ.RW,hc1,hc2,hc3]
 simp[-length_flatMap,-map_take,gI,eZ.RW,hc1,hc2,hc3]
theorem K5{r:eZ}:lim T (.call false eR [.agg r.enc] σ)=some (.val (.bool r.ok) σ):=by
 refine aw Cx oG.eq_1 rfl ?_;cases hc1:Bl r.lo r.hi
 ·simp[-length_flatMap,-map_take,gI,IL,eZ.ok,hc1]
 cases hc2:cT r.least 0 160
 ·simp[-length_flatMap,-map_take,gI,IL,eZ.ok,hc1,hc2]
 cases hc3:cT r.zH 1 1000000
 ·simp[-length_flatMap,-map_take,gI,IL,eZ.ok,hc1,hc2,hc3]
 cases hc4:cT r.count 1 200
 ·simp[-length_flatMap,-map_take,gI,IL,eZ.ok,hc1,hc2,hc3,hc4]
 by_cases hc5:r.RX=1
 rotate_left
 ·simp[-length_flatMap,-map_take,gI,IL,eZ.ok,hc1,hc2,hc3,hc4,hc5]
 simp[-length_flatMap,-map_take,gI,IL,eZ.ok,hc1,hc2,hc3,hc4,hc5]
theorem att{s:xc}:lim T (.call false fZ [.agg s.enc] σ)=some (.val (.bool s.ok) σ):=by
 refine aw zT lM.eq_1 rfl ?_;cases hc1:Pt.ok s.p
 ·simp[-length_flatMap,-map_take,gI,xb,xc.ok,hc1]
 simp[-length_flatMap,-map_take,gI,xb,xc.ok,hc1]
theorem IJ{l:List xc}{p:xc→Bool}{fv:D}(ht:rj T fv NF.val p l)(hc:fv.cells=some [fv])(hl:l.length≤9223372036854775807):
  lim T (.call false eO [.aH l.length (l.flatMap xc.enc),fv] σ)=some (.val (.bool (ie l p)) σ) :=
 zV NF yQ xj mU oH hl ht hc
theorem KY{e:Ev}(hl:e.sp.length≤9223372036854775807):lim T (.call false ei [.agg e.enc] σ)=some (.val (.bool e.ok) σ):=by
 refine aw Bh nJ.eq_1 rfl ?_;have ha:=fun σ=>@IJ σ e.sp xc.ok (.fn fZ [] []) (.fn fun s _ σ=>att) rfl hl
 cases hc1:cT e.tick 0 1000000
 ·simp[-length_flatMap,-map_take,gI,ha,Ev.ok,hc1]
 cases hc2:cT e.sp.length 1 2000
 ·simp[-length_flatMap,-map_take,gI,ha,Ev.ok,hc1,hc2]
 simp[-length_flatMap,-map_take,gI,ha,Ev.ok,hc1,hc2]
theorem M8{R:List eZ}(hl:R.length≤9223372036854775807):
  lim T (.call false dF [.aH R.length (R.flatMap eZ.enc),.fn eR [] []] σ)=some (.val (.bool (ie R eZ.ok)) σ) :=
 zV agI yP xi tW vd hl (.fn fun r _ σ=>K5) rfl
theorem S8{l:List Ev}(hl:l.length≤9223372036854775807)(hs:∀e∈l,e.sp.length≤9223372036854775807):
  lim T (.call false dh [.aH l.length (l.flatMap Ev.enc),.fn ei [] []] σ)=some (.val (.bool (ie l Ev.ok)) σ) :=
 zV at6 xU wP tz uT hl (.fn fun r hr σ=>KY (hs r hr)) rfl
end Go.Proofs.YtfgljaglidhjiaaGreatDoor
namespace Go.Book
open List(length_flatMap map_take)
open Go Go.Abs Go.Rock
structure mS where
 m:cU
 left:Bool
 by_:Int
structure RL where
 line:Int
 value:Int
 lo:Int
 hi:Int
structure Prt where
 width:Int
 wj:Int
structure zm where
 Ee:Int
 parts:List Prt
structure Sal where
 tick:Int
 ayW:Int
 wlo:Int
 whi:Int
 mlo:Int
 mhi:Int
structure Bk where
 bN:cz
 ar:List mS
 az:List (List Int)
 rules:List Trem.eZ
 AZ:List Trem.Ev
 k0:Int
 k1:Int
 k2:Int
 gA:List zm
 qB:List Sal
 ready:Bool
 rT:List RL
 at_:Int
@[simp] def mS.enc(e:mS):List D:=[.str e.m.name,.aH e.m.bq.length (e.m.bq.flatMap aY),.bool e.left,.int .i64 e.by_]
@[simp] def RL.enc(e:RL):List D:=[.int .i64 e.line,.int .i64 e.value,.int .i64 e.lo,.int .i64 e.hi]
@[simp] def Prt.enc(e:Prt):List D:=[.int .i64 e.width,.int .i64 e.wj]
@[simp] def zm.enc(e:zm):List D:=[.int .i64 e.Ee,.aH e.parts.length (e.parts.flatMap Prt.enc)]
@[simp] def Sal.enc(e:Sal):List D:=[.int .i64 e.tick,.int .i64 e.ayW,.int .i64 e.wlo,.int .i64 e.whi,.int .i64 e.mlo,.int .i64 e.mhi]
def nl{α:Type}(f:α→List D)(l:List α):D:=if l=[]then .aK else .aH l.length (l.flatMap f)
def pE(r:List Int):List D:=[.aH r.length (r.flatMap aY)]
def Bk.cells(L:Nat)(b:Bk):List D:=[.int .i64 b.bN.f.x,.int .i64 b.bN.f.y,.int .i64 b.bN.f.z,.int .i64 b.bN.f.k,nl Rw.enc b.bN.ct,.int .i64 b.bN.bK,.int .i64 b.bN.lift,.int .i64 b.bN.deep,nl bI.enc b.bN.an,
 .sl L 0 b.ar.length 0 b.ar.length 4,nl pE b.az,.sl L 1 b.rules.length 0 b.rules.length 10,.sl L 2 b.AZ.length 0 b.AZ.length 2,.int .i64 b.k0,.int .i64 b.k1,.int .i64 b.k2,
 .sl L 3 b.gA.length 0 b.gA.length 2,.sl L 4 b.qB.length 0 b.qB.length 6,.bool b.ready,.sl L 5 b.rT.length 0 b.rT.length 4,.int .i64 b.at_]
def Bk.bj(L:Nat)(b:Bk)(er:List Int):List Abs.aE:=[.cells b.ar.length (b.ar.flatMap mS.enc),.cells b.rules.length (b.rules.flatMap Trem.eZ.enc),.cells b.AZ.length (b.AZ.flatMap Trem.Ev.enc),.cells b.gA.length (b.gA.flatMap zm.enc),
 .cells b.qB.length (b.qB.flatMap Sal.enc),.cells b.rT.length (b.rT.flatMap RL.enc),.cells 0 (b.cells L),.cells er.length (er.flatMap aY)]
def o6:Bk:=⟨⟨⟨0,0,0,0⟩,[],0,0,0,[]⟩,[],[],[],[],1000,500,0,[],[],false,[],0⟩
def Prt.ok(last:Int)(p:Prt):Bool:=cT p.wj 0 last && cT p.width 1 100000
def yX:Int→List Prt→Bool
 |_,[]=>true
 |last,p::l=>p.ok last && yX p.wj l
def zm.ok(u:zm):Bool:=cT u.Ee 0 5 && (cT u.parts.length 1 8 && yX 1000 u.parts)
def wk(l:List Prt):Nat→Int
 |0=>1000
 |i+1=>match l[i]? with
  |some p=>p.wj
  |none=>0
def CL(l:List Prt)(i:Nat):Bool:=match l[i]? with
 |some p=>p.ok (wk l i)
 |none=>true
theorem Sa{l:List Prt}:yX 1000 l=true↔∀j,j<l.length→CL l j=true:=by
 have key:∀(r pre:List Prt),l=pre++r→(yX (wk l pre.length) r=true↔∀j,j<r.length→CL l (pre.length+j)=true):=by
  intro r;induction r with
  |nil=>intro pre h;simp[yX]
  |cons p r ih =>
   intro pre h;have hp:l[pre.length]?=some p:=by rw[h];simp
   have h1:=ih (pre++[p]) (by rw[h];simp);have h2:wk l (pre++[p]).length=p.wj:=by simp[wk,hp]
   rw[h2]at h1;simp only[yX,af,h1];constructor
   ·rintro⟨h3,h4⟩ j hj;cases j with
    |zero=>simpa[CL,hp]using h3
    |succ j =>
     have:=h4 j (by simpa using hj);rwa[show(pre++[p]).length+j=pre.length+(j+1)by simp;omega]at this
   ·intro h3;refine⟨?_,fun j hj=>?_⟩
    ·have:=h3 0 (by simp);simpa[CL,hp]using this
    ·have:=h3 (j+1) (by simpa using hj);rwa[show(pre++[p]).length+j=pre.length+(j+1)by simp;omega]
 have:=key l [] rfl;simpa[wk]using this
def z8(b:Bk)(x y z k:Int):Bk×Int :=
 if(b.bN.f.x=0∧b.bN.f.y=0)∧b.bN.f.z=0∧b.bN.f.k=0 then
  (if(gb.mk x y z k).valid=true∧4≤k then({b with bN:={b.bN with f:=⟨x,y,z,k⟩ } },0)else(b,1))
 else(b,8)
end Go.Book
namespace Go.Abs
open List(length_flatMap map_take)
open Go
variable {T:yR} {fv:D} {σ:SK}
theorem Sj{f w:Nat}{ag:Bool}(hT:T f=some (vb ag w))(h1:fv.strip=fv)(h2:fv.calm=fv):lim T (.call false f [.aK,fv] σ)=some (.val (.int .i64 (-1)) σ):=by
 refine aw hT (vb.eq_1 _ _) rfl ?_;simp[h1,h2];refine aM (HH.eq_1 _ _) ?_;simp[h1,h2]
theorem contains_nil{f i w:Nat}{ag:Bool}(hT:T f=some (jD i))(hi:T i=some (vb ag w))(h1:fv.strip=fv)(h2:fv.calm=fv):lim T (.call false f [.aK,fv] σ)=some (.val (.bool false) σ):=by
 refine aw hT (jD.eq_1 _) rfl ?_;simp[h1,h2,Sj hi h1 h2]
theorem all_nil{f g h i w:Nat}{ag:Bool}(hf:T f=some (DY g h))(hh:T h=some (jD i))(hi:T i=some (vb ag w))(h1:fv.strip=fv)(h2:fv.calm=fv)(hcl:fv.cells=some [fv]):
  lim T (.call false f [.aK,fv] σ)=some (.val (.bool true) σ):=by
 refine aw hf (DY.eq_1 _ _) rfl ?_;have h3:=fun σ=>contains_nil (fv:=.fn g [] [.bB [fv]]) (σ:=σ) hh hi rfl rfl
 simp[h1,h2,h3,hcl]
end Go.Abs
namespace Go.Proofs.YtfgljaglidhjiaaGreatDoor
open List(length_flatMap map_take)
open Go Go.Abs Go.Rock Go.Book
variable {σ:SK}
theorem af0{F:List Abs.aE}{b:Bk}{er:List Int}{nm:List UInt8}{x y z k:Int}{b':Bk}{e:Int}(hd:z8 b x y z k=(b',e))(he:e=0):
  lim T (.call false fA [.ref σ.length 6 0 0,.str nm,.aH 4 [.int .i64 x,.int .i64 y,.int .i64 z,.int .i64 k]] (F::b.bj σ.length er::σ))=some (.val (.dV []) (F::b'.bj σ.length er::σ)):=by
 refine fQ vG j9.eq_1 rfl (by simp) ?_;unfold z8 at hd;split at hd
 case isFalse=>cases hd;cases he
 rename_i h1;split at hd
 case isFalse=>cases hd;cases he
 rename_i h2;cases hd;obtain⟨⟨f1,f2⟩,f3,f4⟩:=h1;have hS:(gb.mk x y z k).shape=0:=by simp[gb.shape,h2.1]
 have hC:=fun σ=>jU (σ:=σ) (f:=⟨x,y,z,k⟩)
 simp only[hS]at hC;simp[-length_flatMap,-map_take,Bk.bj,Bk.cells,f1,f2,f3,f4,cH,hC,h2.2]
theorem Ry{F:List Abs.aE}{b:Bk}{er:List Int}{nm:List UInt8}{x y z k:Int}{b':Bk}{e:Int}(hd:z8 b x y z k=(b',e))(he:e≠0):
  lim T (.call false fA [.ref σ.length 6 0 0,.str nm,.aH 4 [.int .i64 x,.int .i64 y,.int .i64 z,.int .i64 k]] (F::b.bj σ.length er::σ))=some (.gf (rf e) (F::b.bj σ.length er::σ)):=by
 refine ep vG j9.eq_1 rfl ?_;have hC:=fun σ=>jU (σ:=σ) (f:=⟨x,y,z,k⟩)
 unfold z8 at hd;split at hd
 ·rename_i h1;obtain⟨⟨f1,f2⟩,f3,f4⟩:=h1;split at hd
  ·cases hd;exact absurd rfl he
  rename_i h2;cases hd;by_cases h3:(gb.mk x y z k).valid=true
  ·have h4:¬4≤k:=fun hh=>h2 ⟨h3,hh⟩
   have hS:(gb.mk x y z k).shape=0:=by simp[gb.shape,h3]
   simp only[hS]at hC;simp[-length_flatMap,-map_take,Bk.bj,Bk.cells,f1,f2,f3,f4,cH,dK,hC,h4,D.clean,rf]
  ·have hS:(gb.mk x y z k).shape=1:=by simp[gb.shape,h3]
   simp only[hS]at hC;simp[-length_flatMap,-map_take,Bk.bj,Bk.cells,f1,f2,f3,f4,cH,dK,hC,D.clean,rf]
 ·rename_i h1;cases hd;have hz:(b.bN.f.x == 0 && (b.bN.f.y == 0 && (b.bN.f.z == 0 && b.bN.f.k == 0)))=false:=by
   cases hb:(b.bN.f.x == 0 && (b.bN.f.y == 0 && (b.bN.f.z == 0 && b.bN.f.k == 0)))with
   |false=>rfl
   |true =>
    simp only[af,beq_iff_eq]at hb;exact absurd ⟨⟨hb.1,hb.2.1⟩,hb.2.2.1,hb.2.2.2⟩ h1
  simp[-length_flatMap,-map_take,Bk.bj,Bk.cells,hz,dK,D.clean,rf]
theorem FI{k0 k1 k2:Int}(hσ:σ≠[]):
  lim T (.call false pY [.aK,.aK,.agg [.int .i64 k0,.int .i64 k1,.int .i64 k2],.int .i64 0] σ) =
   some (.val (.dV [if Trem.rQ k0 k1 k2 then .aH 0 []else .aK,.int .i64 (if Trem.rQ k0 k1 k2 then 0 else 1)]) σ):=by
 refine aw Gj tv.eq_1 rfl ?_;have hA:=fun σ=>all_nil (T:=T) (σ:=σ) (fv:=.fn kO [] []) (f:=ix) (ag:=false) (w:=1) rfl rfl rfl rfl rfl rfl
 have hB:=fun σ=>all_nil (T:=T) (σ:=σ) (fv:=.fn rG [] []) (f:=pM) (ag:=false) (w:=1) rfl rfl rfl rfl rfl rfl
 have hC:Trem.TV 0=true:=by decide
 by_cases c1:1000<k0
 ·have d1:¬k0≤1000:=by omega
  simp[-length_flatMap,-map_take,Trem.rQ,hA,hB,GN,hC,c1,d1]
 have d1:k0≤1000:=by omega
 by_cases c2:k0<k1
 ·have d2:¬k1≤k0:=by omega
  simp[-length_flatMap,-map_take,Trem.rQ,hA,hB,GN,hC,c1,c2,d1,d2]
 have d2:k1≤k0:=by omega
 by_cases c3:k1<k2
 ·have d3:¬k2≤k1:=by omega
  simp[-length_flatMap,-map_take,Trem.rQ,hA,hB,GN,hC,c1,c2,c3,d1,d2,d3]
 have d3:k2≤k1:=by omega
 by_cases c4:k2<0
 ·have d4:¬0≤k2:=by omega
  simp[-length_flatMap,-map_take,Trem.rQ,hA,hB,GN,hC,c1,c2,c3,c4,d1,d2,d3,d4]
 have d4:0≤k2:=by omega
 simp[-length_flatMap,-map_take,Trem.rQ,hA,hB,GN,hC,c1,c2,c3,c4,d1,d2,d3,d4];refine aM wF.eq_1 ?_;simp[-length_flatMap,-map_take,d1,d2,d3,d4];have h3:¬σ.length≤σ.length-1:=by have:=aT.2 hσ;omega
 refine⟨[.dead],?_⟩;rw[Ea (by simp[D.bJ,D.clean]) (by omega)];have h6:=Dl (l:=σ.length-1) (n:=15) (l':=σ.length) (i:=0) (v:=0) (off:=0) (m:=0) (w:=1) (σ:=[Abs.aE.cells 0 []]::σ) (cs:=[]) h3 (by simp) (by omega);simp only[Nat.reduceSub,cJ.frzL,h6];simp
def Ji(b:Bk)(k0 k1 k2:Int):Bk:={b with k0:=k0,k1:=k1,k2:=k2 }
theorem ane{F:List Abs.aE}{b:Bk}{er:List Int}{nm:List UInt8}{x y z:Int}(h:Trem.rQ x y z=true):
  lim T (.call false gi [.ref σ.length 6 0 0,.str nm,.aH 3 [.int .i64 x,.int .i64 y,.int .i64 z]] (F::b.bj σ.length er::σ))=some (.val (.dV []) (F::(Ji b x y z).bj σ.length er::σ)):=by
 refine fQ wx kT.eq_1 rfl (by simp) ?_;have hI:=fun σ hσ=>FI (σ:=σ) (k0:=x) (k1:=y) (k2:=z) hσ
 simp only[h,if_true]at hI;simp[-length_flatMap,-map_take,hI,NX,o7,Bk.bj,Bk.cells,Ji]
theorem Tf{F:List Abs.aE}{b:Bk}{er:List Int}{nm:List UInt8}{x y z:Int}(h:Trem.rQ x y z=false):
  lim T (.call false gi [.ref σ.length 6 0 0,.str nm,.aH 3 [.int .i64 x,.int .i64 y,.int .i64 z]] (F::b.bj σ.length er::σ))=some (.gf (rf 1) (F::b.bj σ.length er::σ)):=by
 refine ep wx kT.eq_1 rfl ?_;have hI:=fun σ hσ=>FI (σ:=σ) (k0:=x) (k1:=y) (k2:=z) hσ
 simp only[h]at hI;have hM:=fun σ=>ri (σ:=σ) (e:=1) (by decide)
 simp[-length_flatMap,-map_take,hI,NX,hM,Bk.bj,Bk.cells,D.clean,rf]
theorem KS{r:Trem.eZ}:lim T (.call false iS [.aH 1 r.enc,.aK,.int .i64 0] σ)=some (.val (.dV [.int .u8 0,.int .u8 0,.int .i64 (if r.ok then 0 else 1)]) σ):=by
 refine aw xh oL.eq_1 rfl ?_;have hA:=fun σ=>@M8 σ [r] (by simp)
 have hN:=fun σ=>all_nil (T:=T) (σ:=σ) (fv:=.fn ei [] []) (f:=dh) (ag:=true) (w:=2) rfl rfl rfl rfl rfl rfl
 simp only[List.length_singleton,aS,dP,eE,ie,jV,List.all_nil,Bool.and_true]at hA;have w0:Trem.cT 0 0 1000000=true:=by decide
 cases hr:r.ok
 ·rw[hr]at hA;simp only[Trem.eZ.enc]at hA ⊢;simp[-length_flatMap,-map_take,hA]
 ·rw[hr]at hA;have hc:=(Trem.HW.1 hr).2.2.2.1;have c1:¬r.count≤0:=by omega
  simp only[Trem.eZ.enc]at hA ⊢;simp[-length_flatMap,-map_take,hA,hN,gI,w0];refine aM gV.eq_1 ?_;simp[-length_flatMap,-map_take];refine aM mg.eq_1 ?_;simp[-length_flatMap,-map_take,c1];refine aM gV.eq_1 ?_;simp[-length_flatMap,-map_take,c1]
def Di(b:Bk)(r:Trem.eZ)(c:Int):Bk×Int :=
 if b.rules.length<20 then(if cT c 1 2=true then(if r.ok=true then({b with rules:=b.rules++[r] },0)else(b,1))else(b,1))else(b,3)
theorem afg(l:List Trem.eZ):(l.flatMap Trem.eZ.enc).length=l.length*10:=bX (f:=Trem.eZ.enc) (w:=10) (fun _=>rfl) l
theorem ani{F:List Abs.aE}{b:Bk}{er:List Int}{nm:List UInt8}{x0 x1 x2 x3 x4 x5 x6 x7 x8 x9:Int}{b':Bk}{e:Int}(hd:Di b ⟨⟨x0,x1,x2⟩,⟨x3,x4,x5⟩,x6,x7,x8,x9⟩ x9=(b',e))(he:e=0):
  lim T (.call false gn [.ref σ.length 6 0 0,.str nm,.aH 10 [.int .i64 x0,.int .i64 x1,.int .i64 x2,.int .i64 x3,.int .i64 x4,.int .i64 x5,.int .i64 x6,.int .i64 x7,.int .i64 x8,.int .i64 x9]] (F::b.bj σ.length er::σ))=some (.val (.dV []) (F::b'.bj σ.length er::σ)):=by
 refine fQ wz kV.eq_1 rfl (by simp) ?_;have hL:=fun σ=>KS (σ:=σ) (r:=⟨⟨x0,x1,x2⟩,⟨x3,x4,x5⟩,x6,x7,x8,x9⟩)
 unfold Di at hd;split at hd
 case isFalse=>cases hd;cases he
 rename_i h1;split at hd
 case isFalse=>cases hd;cases he
 rename_i h2;split at hd
 case isFalse=>cases hd;cases he
 rename_i h3;cases hd;have h1':(b.rules.length:Int)<20:=by omega
 have h4:=bf.1 h2;have w1:IntKind.u8.wrap x9=x9:=wu8 (by omega);have w2:(b.rules.length+1)*80≤room:=by unfold room;omega
 have w3:=afg b.rules;have w4:(b.rules.flatMap Trem.eZ.enc).take (b.rules.length*10)=b.rules.flatMap Trem.eZ.enc:=ai (by omega);simp only[h3,if_true,Trem.eZ.enc]at hL;simp[-length_flatMap,-map_take,Bk.bj,Bk.cells,h1',fk,h2,cH,w1,hL,o7,w2,w3,w4]
theorem Tu{F:List Abs.aE}{b:Bk}{er:List Int}{nm:List UInt8}{x0 x1 x2 x3 x4 x5 x6 x7 x8 x9:Int}{b':Bk}{e:Int}(hd:Di b ⟨⟨x0,x1,x2⟩,⟨x3,x4,x5⟩,x6,x7,x8,x9⟩ x9=(b',e))(he:e≠0):
  lim T (.call false gn [.ref σ.length 6 0 0,.str nm,.aH 10 [.int .i64 x0,.int .i64 x1,.int .i64 x2,.int .i64 x3,.int .i64 x4,.int .i64 x5,.int .i64 x6,.int .i64 x7,.int .i64 x8,.int .i64 x9]] (F::b.bj σ.length er::σ))=some (.gf (rf e) (F::b.bj σ.length er::σ)):=by
 refine ep wz kV.eq_1 rfl ?_;have hL:=fun σ=>KS (σ:=σ) (r:=⟨⟨x0,x1,x2⟩,⟨x3,x4,x5⟩,x6,x7,x8,x9⟩)
 have hM:=fun σ=>ri (σ:=σ) (e:=1) (by decide)
 unfold Di at hd;split at hd
 ·rename_i h1;have h1':(b.rules.length:Int)<20:=by omega
  split at hd
  ·rename_i h2;have h4:=bf.1 h2;have w1:IntKind.u8.wrap x9=x9:=wu8 (by omega);split at hd
   ·cases hd;exact absurd rfl he
   ·rename_i h3;cases hd;have h3':Trem.eZ.ok ⟨⟨x0,x1,x2⟩,⟨x3,x4,x5⟩,x6,x7,x8,x9⟩=false:=by simpa using h3
    simp only[h3',Trem.eZ.enc]at hL;simp[-length_flatMap,-map_take,Bk.bj,Bk.cells,h1',fk,h2,cH,w1,hL,hM,D.clean,rf]
  ·rename_i h2;cases hd;have h2':cT x9 1 2=false:=by simpa using h2
   simp[-length_flatMap,-map_take,Bk.bj,Bk.cells,h1',fk,h2',cH,dK,D.clean,rf]
 ·rename_i h1;cases hd;have h1':¬(b.rules.length:Int)<20:=by omega
  simp[-length_flatMap,-map_take,Bk.bj,Bk.cells,h1',dK,D.clean,rf]
theorem uJ{α:Type}{f:α→List D}{l:List α}:(nl f l).wQ=.aH l.length (l.flatMap f):=by
 unfold nl;split
 ·rename_i h;subst h;rfl
 ·rfl
theorem anU{l:List bI}:(nl bI.enc l).clean=true:=by unfold nl;split<;>simp[D.clean,bu]
theorem zK{b:cz}{tq wq:D}(htq:tq.wQ=.aH b.ct.length (b.ct.flatMap Rw.enc))(hwq:wq.wQ=.aH b.an.length (b.an.flatMap bI.enc))(h1:b.ct.length≤1000000000)(h2:b.an.length≤1000000000):
  lim T (.call false nh [.agg [.int .i64 b.f.x,.int .i64 b.f.y,.int .i64 b.f.z,.int .i64 b.f.k,tq,.int .i64 b.bK,.int .i64 b.lift,.int .i64 b.deep,wq]] σ)=some (.val (.int .i64 (if b.valid then 0 else 1)) σ):=by
 refine aw Gh tu.eq_1 rfl ?_;have hB:=fun σ=>A5 (σ:=σ) (b:=b) h1 h2
 cases hv:b.valid<;>rw[hv]at hB<;>simp[-length_flatMap,-map_take,htq,hwq,hB,cM,bu]
def Iq(b:Bk)(x y z:Int):Bk:={b with bN:={b.bN with bK:=x,lift:=y,deep:=z },ready:=true }
def Hw(b:Bk)(x y z:Int):Bk×Int :=
 if((b.bN.f.x=0∧b.bN.f.y=0)∧b.bN.f.z=0∧b.bN.f.k=0)∨b.bN.ct=[]∨b.ready=true then(b,8)
 else if(Iq b x y z).bN.valid=true then(Iq b x y z,0)else(b,1)
theorem HE{f:gb}:(f.x == 0 && (f.y == 0 && (f.z == 0 && f.k == 0)))=decide ((f.x=0∧f.y=0)∧f.z=0∧f.k=0):=by
 by_cases h1:f.x=0<;>by_cases h2:f.y=0<;>by_cases h3:f.z=0<;>by_cases h4:f.k=0<;>simp[h1,h2,h3,h4]
theorem eL{α:Type}{f:α→List D}{l:List α}(h:l≠[]):nl f l=.aH l.length (l.flatMap f):=if_neg h
theorem am9{F:List Abs.aE}{b:Bk}{er:List Int}{nm:List UInt8}{x y z:Int}{b':Bk}{e:Int}(h1:b.bN.ct.length≤1000000000)(h2:b.bN.an.length≤1000000000)(hd:Hw b x y z=(b',e))(he:e=0):
  lim T (.call false gW [.ref σ.length 6 0 0,.str nm,.aH 3 [.int .i64 x,.int .i64 y,.int .i64 z]] (F::b.bj σ.length er::σ))=some (.val (.dV []) (F::b'.bj σ.length er::σ)):=by
 refine fQ xe ma.eq_1 rfl (by simp) ?_;unfold Hw at hd;split at hd
 case isTrue=>cases hd;cases he
 rename_i h0;split at hd
 case isFalse=>cases hd;cases he
 rename_i h3;cases hd;have c1:(b.bN.f.x == 0 && (b.bN.f.y == 0 && (b.bN.f.z == 0 && b.bN.f.k == 0)))=false:=by rw[HE];simpa using fun hh=>h0 (.inl hh)
 have c2:b.bN.ct≠[]:=fun hh=>h0 (.inr (.inl hh))
 have c3:b.ready=false:=by cases hr:b.ready with | false=>rfl | true=>exact absurd (.inr (.inr hr)) h0
 have c4:0<b.bN.ct.length:=aT.2 c2;have hcl:(D.aH b.bN.ct.length (b.bN.ct.flatMap Rw.enc)).clean=true:=by simp[D.clean,cM]
 have hC:=fun σ=>zK (σ:=σ) (b:=(Iq b x y z).bN) (tq:=nl Rw.enc b.bN.ct) (wq:=nl bI.enc b.bN.an) uJ uJ h1 h2
 rw[h3]at hC;simp only[eL c2,Iq]at hC;simp[-length_flatMap,-map_take,Bk.bj,Bk.cells,c1,eL c2,c4,c3,cH,o7,hC,Iq,anU,hcl]
theorem S9{F:List Abs.aE}{b:Bk}{er:List Int}{nm:List UInt8}{x y z:Int}{b':Bk}{e:Int}(h1:b.bN.ct.length≤1000000000)(h2:b.bN.an.length≤1000000000)(hd:Hw b x y z=(b',e))(he:e≠0):
  lim T (.call false gW [.ref σ.length 6 0 0,.str nm,.aH 3 [.int .i64 x,.int .i64 y,.int .i64 z]] (F::b.bj σ.length er::σ))=some (.gf (rf e) (F::b.bj σ.length er::σ)):=by
 refine ep xe ma.eq_1 rfl ?_;have hM:=fun σ=>ri (σ:=σ) (e:=1) (by decide)
 unfold Hw at hd;split at hd
 ·rename_i h0;cases hd;cases c1:(b.bN.f.x == 0 && (b.bN.f.y == 0 && (b.bN.f.z == 0 && b.bN.f.k == 0)))
  ·by_cases c2:b.bN.ct=[]
   ·simp[-length_flatMap,-map_take,Bk.bj,Bk.cells,c1,c2,nl,dK,D.clean,rf]
   ·have c4:0<b.bN.ct.length:=aT.2 c2;have c3:b.ready=true:=by
     rw[HE]at c1;rcases h0 with h | h | h
     ·exact absurd h (by simpa using c1)
     ·exact absurd h c2
     ·exact h
    simp[-length_flatMap,-map_take,Bk.bj,Bk.cells,c1,eL c2,c4,c3,dK,D.clean,rf]
  ·simp[-length_flatMap,-map_take,Bk.bj,Bk.cells,c1,dK,D.clean,rf]
 ·rename_i h0;split at hd
  ·cases hd;exact absurd rfl he
  rename_i h3;cases hd;have c1:(b.bN.f.x == 0 && (b.bN.f.y == 0 && (b.bN.f.z == 0 && b.bN.f.k == 0)))=false:=by rw[HE];simpa using fun hh=>h0 (.inl hh)
  have c2:b.bN.ct≠[]:=fun hh=>h0 (.inr (.inl hh))
  have c3:b.ready=false:=by cases hr:b.ready with | false=>rfl | true=>exact absurd (.inr (.inr hr)) h0
  have c4:0<b.bN.ct.length:=aT.2 c2;have hC:=fun σ=>zK (σ:=σ) (b:=(Iq b x y z).bN) (tq:=nl Rw.enc b.bN.ct) (wq:=nl bI.enc b.bN.an) uJ uJ h1 h2
  have h3':(Iq b x y z).bN.valid=false:=by simpa using h3
  rw[h3']at hC;simp only[eL c2,Iq]at hC;simp[-length_flatMap,-map_take,Bk.bj,Bk.cells,c1,eL c2,c4,c3,cH,hM,hC,D.clean,rf]
theorem IN{bs:List Abs.aE}:lim T (.call true eM [.aK] (bs::σ))=some (.val (.sl σ.length (bs.length+1) 0 0 0 3) ((bs++[.cells 0 [],.cells 0 []])::σ)):=by
 refine tc sH gJ.eq_1 rfl ?_;simp[-length_flatMap,-map_take]
theorem KV{bs:List Abs.aE}{l:List bI}(hne:l≠[])(hl:l.length≤1000000):lim T (.call true eM [.aH l.length (l.flatMap bI.enc)] (bs::σ)) =
  some (.val (.sl σ.length (bs.length+1) 1 0 l.length 3) ((bs++[.cells 0 [],.cells 1 (l.flatMap bI.enc)])::σ)):=by
 refine tc sH gJ.eq_1 rfl ?_;have h7:l.length*24≤room:=by unfold room;omega
 simp[-length_flatMap,-map_take,hne,Ho,h7]
def wa(b:Bk)(x y z:Int):Bk:={b with bN:={b.bN with an:=b.bN.an++[⟨x,y,z⟩] } }
def yW(b:Bk)(x y z:Int):Bk×Int :=
 if b.ready=true∧b.ar=[]then(if(wa b x y z).bN.valid=true then(wa b x y z,0)else(b,1))else(b,8)
theorem anu{F:List Abs.aE}{b:Bk}{er:List Int}{nm:List UInt8}{x y z:Int}{b':Bk}{e:Int}(ht:b.bN.ct≠[])(h1:b.bN.ct.length≤1000000000)(h2:b.bN.an.length≤1000000)(hd:yW b x y z=(b',e))(he:e=0):
  lim T (.call false gv [.ref σ.length 6 0 0,.str nm,.aH 3 [.int .i64 x,.int .i64 y,.int .i64 z]] (F::b.bj σ.length er::σ))=some (.val (.dV []) (F::b'.bj σ.length er::σ)):=by
 refine fQ wD kZ.eq_1 rfl (by simp) ?_;unfold yW at hd;split at hd
 case isFalse=>cases hd;cases he
 rename_i h0;obtain⟨c1,c2⟩:=h0;split at hd
 case isFalse=>cases hd;cases he
 rename_i h3;cases hd;have hC:=fun σ=>zK (σ:=σ) (b:=(wa b x y z).bN) (tq:=.aH b.bN.ct.length (b.bN.ct.flatMap Rw.enc)) (wq:=.aH (b.bN.an.length+1) (b.bN.an.flatMap bI.enc++[.int .i64 x,.int .i64 y,.int .i64 z])) rfl (by simp[wa,D.wQ]) h1 (by simp[wa];omega)
 rw[h3]at hC;simp only[wa]at hC;have hcl:(D.aH b.bN.ct.length (b.bN.ct.flatMap Rw.enc)).clean=true:=by simp[D.clean,cM]
 have hroom:(b.bN.an.length+1)*24≤room:=by unfold room;omega
 have hlen:=Ho b.bN.an;have htake:(b.bN.an.flatMap bI.enc).take (b.bN.an.length*3)=b.bN.an.flatMap bI.enc:=ai (by omega);have hcw:D.bJ (b.bN.an.flatMap bI.enc++[.int .i64 x,.int .i64 y,.int .i64 z])=true:=by
  have:=bu (b.bN.an++[⟨x,y,z⟩]);simpa using this
 have hfr:∀(v:Nat) (S:SK),S.length=σ.length+1+1→cJ 0 16 (.sl (σ.length+1+1) 1 v 0 (b.bN.an.length+1) 3) ([.cells 0 [],.cells v (b.bN.an.flatMap bI.enc++[.int .i64 x,.int .i64 y,.int .i64 z])]::S) =
   (.aH (b.bN.an.length+1) (b.bN.an.flatMap bI.enc++[.int .i64 x,.int .i64 y,.int .i64 z]),[.cells 0 [],.dead]::S):=by
  intro v S hS;have:=Eh (f:=bI.enc) (w:=3) (fun _=>rfl) (fun _=>by simp[D.clean]) (l:=b.bN.an++[⟨x,y,z⟩]) (j:=1) (v:=v) (bs:=[Abs.aE.cells 0 [],.cells v (b.bN.an.flatMap bI.enc++[.int .i64 x,.int .i64 y,.int .i64 z])]) (σ:=S) (by intro h;subst h;simp at hS) (by simp);rw[hS]at this;simpa using this
 have h24:24≤room:=by unfold room;omega
 have hcw2:(D.aH (b.bN.an.length+1) (b.bN.an.flatMap bI.enc++[.int .i64 x,.int .i64 y,.int .i64 z])).clean=true:=by simpa[D.clean]using hcw
 by_cases hw:b.bN.an=[]
 ·have hfr':=hfr;simp only[hw,bL,dP,aX,cZ]at hfr' hC;have ht':=eL (f:=Rw.enc) ht;simp only[nl]at ht';simp[-length_flatMap,-map_take,Bk.bj,Bk.cells,c1,c2,ht',hC,hw,nl,cH,o7,IN,wa,hcl,h24,hfr']
 ·simp[-length_flatMap,-map_take,Bk.bj,Bk.cells,c1,c2,eL ht,eL hw,cH,o7,KV hw h2,wa,hcl,hroom,hlen,htake,hfr,hC,hcw2];simp[nl]
theorem TD{F:List Abs.aE}{b:Bk}{er:List Int}{nm:List UInt8}{x y z:Int}{b':Bk}{e:Int}(ht:b.ready=true→b.bN.ct≠[])(h1:b.bN.ct.length≤1000000000)(h2:b.bN.an.length≤1000000)(hd:yW b x y z=(b',e))(he:e≠0):
  lim T (.call false gv [.ref σ.length 6 0 0,.str nm,.aH 3 [.int .i64 x,.int .i64 y,.int .i64 z]] (F::b.bj σ.length er::σ))=some (.gf (rf e) (F::b.bj σ.length er::σ)):=by
 refine ep wD kZ.eq_1 rfl ?_;have hM:=fun σ=>ri (σ:=σ) (e:=1) (by decide)
 have hrc:(D.uH 311 (.agg [.int .i64 1])).clean=true:=rfl;unfold yW at hd;split at hd
 case isFalse h0 =>
  cases hd;cases c1:b.ready with
  |false=>simp[-length_flatMap,-map_take,Bk.bj,Bk.cells,c1,dK,D.clean,rf]
  |true =>
   have c2:b.ar≠[]:=fun hh=>h0 ⟨c1,hh⟩
   have c2':((b.ar.length:Int) == 0)=false:=by simpa using c2
   simp[-length_flatMap,-map_take,Bk.bj,Bk.cells,c1,c2',dK,D.clean,rf]
 rename_i h0;obtain⟨c1,c2⟩:=h0;have ht:=ht c1;split at hd
 case isTrue=>cases hd;exact absurd rfl he
 rename_i h3;cases hd;have h3':(wa b x y z).bN.valid=false:=by simpa using h3
 have hC:=fun σ=>zK (σ:=σ) (b:=(wa b x y z).bN) (tq:=.aH b.bN.ct.length (b.bN.ct.flatMap Rw.enc)) (wq:=.aH (b.bN.an.length+1) (b.bN.an.flatMap bI.enc++[.int .i64 x,.int .i64 y,.int .i64 z])) rfl (by simp[wa,D.wQ]) h1 (by simp[wa];omega)
 rw[h3']at hC;simp only[wa]at hC;have hcl:(D.aH b.bN.ct.length (b.bN.ct.flatMap Rw.enc)).clean=true:=by simp[D.clean,cM]
 have hroom:(b.bN.an.length+1)*24≤room:=by unfold room;omega
 have hlen:=Ho b.bN.an;have htake:(b.bN.an.flatMap bI.enc).take (b.bN.an.length*3)=b.bN.an.flatMap bI.enc:=ai (by omega);have hcw:D.bJ (b.bN.an.flatMap bI.enc++[.int .i64 x,.int .i64 y,.int .i64 z])=true:=by
  have:=bu (b.bN.an++[⟨x,y,z⟩]);simpa using this
 have hfr:∀(v:Nat) (S:SK),S.length=σ.length+1+1→cJ 0 16 (.sl (σ.length+1+1) 1 v 0 (b.bN.an.length+1) 3) ([.cells 0 [],.cells v (b.bN.an.flatMap bI.enc++[.int .i64 x,.int .i64 y,.int .i64 z])]::S) =
   (.aH (b.bN.an.length+1) (b.bN.an.flatMap bI.enc++[.int .i64 x,.int .i64 y,.int .i64 z]),[.cells 0 [],.dead]::S):=by
  intro v S hS;have:=Eh (f:=bI.enc) (w:=3) (fun _=>rfl) (fun _=>by simp[D.clean]) (l:=b.bN.an++[⟨x,y,z⟩]) (j:=1) (v:=v) (bs:=[Abs.aE.cells 0 [],.cells v (b.bN.an.flatMap bI.enc++[.int .i64 x,.int .i64 y,.int .i64 z])]) (σ:=S) (by intro h;subst h;simp at hS) (by simp);rw[hS]at this;simpa using this
 have h24:24≤room:=by unfold room;omega
 have hcw2:(D.aH (b.bN.an.length+1) (b.bN.an.flatMap bI.enc++[.int .i64 x,.int .i64 y,.int .i64 z])).clean=true:=by simpa[D.clean]using hcw
 by_cases hw:b.bN.an=[]
 ·have hfr':=hfr;simp only[hw,bL,dP,aX,cZ]at hfr' hC;have ht':=eL (f:=Rw.enc) ht;simp only[nl]at ht';simp[-length_flatMap,-map_take,Bk.bj,Bk.cells,c1,c2,ht',hC,hw,nl,cH,hM,IN,wa,hcl,h24,hfr',rf,hrc]
 ·simp[-length_flatMap,-map_take,Bk.bj,Bk.cells,c1,c2,eL ht,eL hw,cH,hM,KV hw h2,wa,hcl,hroom,hlen,htake,hfr,hC,hcw2,rf,hrc]
theorem Nq{bp:D}(hb1:bp.calm=bp):∀(rs acc:List Rw),acc.length+rs.length≤1000000 →
  WL T [0,2,6] false kB [(0,bp),(2,.aH (rs.length*5) (rs.flatMap Rw.enc)),(6,.sl σ.length 0 acc.length 0 acc.length 5)] ([.cells acc.length (acc.flatMap Rw.enc)]::σ)
   (fun x e σ'=>x=.exit 0∧get e 0=bp∧get e 6=.sl σ.length 0 (acc++rs).length 0 (acc++rs).length 5∧σ'=[.cells (acc++rs).length ((acc++rs).flatMap Rw.enc)]::σ)
 |[],acc,h=>by
  refine aM kB.eq_1 ?_;simp[-length_flatMap,-map_take,hb1]
 |r::rs,acc,h=>by
  refine aM kB.eq_1 ?_;simp only[aG]at h;have e1:(rs.length+1)*5=rs.length*5+5:=by omega
  have q0:(0:Int)<(rs.length:Int)*5+5:=by omega
  have q1:(1:Int)<(rs.length:Int)*5+5:=by omega
  have q2:(2:Int)<(rs.length:Int)*5+5:=by omega
  have q3:(3:Int)<(rs.length:Int)*5+5:=by omega
  have q4:(4:Int)<(rs.length:Int)*5+5:=by omega
  have q5:(5:Int)≤(rs.length:Int)*5+5:=by omega
  have hroom:(acc.length+1)*40≤room:=by unfold room;omega
  have hl:=afj acc;have ht:(acc.flatMap Rw.enc).take (acc.length*5)=acc.flatMap Rw.enc:=ai (by omega);have hl2:=afj rs;have ht2:(rs.flatMap Rw.enc).take (rs.length*5)=rs.flatMap Rw.enc:=ai (by omega);simp[-length_flatMap,-map_take,hb1,e1,q0,q1,q2,q3,q4,q5,hroom,hl,ht];refine WL.to (Nq hb1 rs (acc++[r]) (by simp;omega)) (by simp[ht2]) (by simp) fun x e σ' hh=>?_
  simpa using hh
def KK(b:Bk)(t:List Rw):Bk:={b with bN:={b.bN with ct:=t } }
def Ab(b:Bk)(t:List Rw):Bk×Int:=if b.bN.ct=[]then(if kS t=true then(KK b t,0)else(b,1))else(b,8)
theorem agj{F:List Abs.aE}{b:Bk}{er:List Int}{nm:List UInt8}{t:List Rw}{b':Bk}{e:Int}(hl:t.length≤1000000)(hd:Ab b t=(b',e))(he:e=0):
  lim T (.call false fE [.ref σ.length 6 0 0,.str nm,.aH (t.length*5) (t.flatMap Rw.enc)] (F::b.bj σ.length er::σ))=some (.val (.dV []) (F::b'.bj σ.length er::σ)):=by
 refine fQ vJ kc.eq_1 rfl (by simp) ?_;unfold Ab at hd;split at hd
 case isFalse=>cases hd;cases he
 rename_i h0;split at hd
 case isFalse=>cases hd;cases he
 rename_i h3;cases hd;have hne:t≠[]:=by intro h;subst h;simp[kS,cT]at h3
 have hC:=fun σ=>zL (σ:=σ) (l:=t) (by omega)
 rw[h3]at hC;have hL:=Nq (σ:=F::b.bj σ.length er::σ) (bp:=.ref σ.length 6 0 0) rfl t [] (by simpa using hl);simp[-length_flatMap,-map_take,Bk.bj,Bk.cells,h0,nl,cH];refine WL.to hL (by simp) (by simp[Bk.bj,Bk.cells,h0,nl]) ?_;rintro x e σ' ⟨rfl,g0,g6,rfl⟩;have hcl:(D.aH t.length (t.flatMap Rw.enc)).clean=true:=by simp[D.clean,cM]
 have hfr:∀S:SK,S.length=σ.length+1+1→cJ 0 16 (.sl (σ.length+1+1) 0 t.length 0 t.length 5) ([.cells t.length (t.flatMap Rw.enc)]::S)=(.aH t.length (t.flatMap Rw.enc),[.dead]::S):=by
  intro S hS;have:=Eh (f:=Rw.enc) (w:=5) (fun _=>rfl) (fun _=>by simp[D.clean]) (l:=t) (j:=0) (v:=t.length) (bs:=[Abs.aE.cells t.length (t.flatMap Rw.enc)]) (σ:=S) (by intro h;subst h;simp at hS) (by simp);rw[hS]at this;simpa using this
 simp[-length_flatMap,-map_take,g0,g6,hfr,hC,o7,hcl,Bk.bj,Bk.cells,h0,nl,hne,KK];exact⟨rfl,rfl⟩
theorem RI{F:List Abs.aE}{b:Bk}{er:List Int}{nm:List UInt8}{t:List Rw}{b':Bk}{e:Int}(hl:t.length≤1000000)(hd:Ab b t=(b',e))(he:e≠0):
  lim T (.call false fE [.ref σ.length 6 0 0,.str nm,.aH (t.length*5) (t.flatMap Rw.enc)] (F::b.bj σ.length er::σ))=some (.gf (rf e) (F::b.bj σ.length er::σ)):=by
 refine ep vJ kc.eq_1 rfl ?_;have hM:=fun σ=>ri (σ:=σ) (e:=1) (by decide)
 have hrc:(D.uH 311 (.agg [.int .i64 1])).clean=true:=rfl;unfold Ab at hd;split at hd
 case isFalse h0 =>
  cases hd;have h0':((b.bN.ct.length:Int) == 0)=false:=by simpa using h0
  simp[-length_flatMap,-map_take,Bk.bj,Bk.cells,eL h0,h0',dK,D.clean,rf]
 rename_i h0;split at hd
 case isTrue=>cases hd;exact absurd rfl he
 rename_i h3;cases hd;have h3':kS t=false:=by simpa using h3
 have hC:=fun σ=>zL (σ:=σ) (l:=t) (by omega)
 rw[h3']at hC;have hL:=Nq (σ:=F::b.bj σ.length er::σ) (bp:=.ref σ.length 6 0 0) rfl t [] (by simpa using hl);simp[-length_flatMap,-map_take,Bk.bj,Bk.cells,h0,nl,cH];refine WL.to hL (by simp) (by simp[Bk.bj,Bk.cells,h0,nl]) ?_;rintro x e σ' ⟨rfl,g0,g6,rfl⟩;have hcl:(D.aH t.length (t.flatMap Rw.enc)).clean=true:=by simp[D.clean,cM]
 have hfr:∀S:SK,S.length=σ.length+1+1→cJ 0 16 (.sl (σ.length+1+1) 0 t.length 0 t.length 5) ([.cells t.length (t.flatMap Rw.enc)]::S)=(.aH t.length (t.flatMap Rw.enc),[.dead]::S):=by
  intro S hS;have:=Eh (f:=Rw.enc) (w:=5) (fun _=>rfl) (fun _=>by simp[D.clean]) (l:=t) (j:=0) (v:=t.length) (bs:=[Abs.aE.cells t.length (t.flatMap Rw.enc)]) (σ:=S) (by intro h;subst h;simp at hS) (by simp);rw[hS]at this;simpa using this
 simp[-length_flatMap,-map_take,g0,g6,hfr,hC,hM,hcl,Bk.bj,Bk.cells,h0,nl,rf,hrc]
@[simp] theorem axB{α:Type}{f:α→List D}{l:List α}:aeL (nl f l)=some (.int .i64 l.length):=by
 unfold nl;split
 ·rename_i h;subst h;rfl
 ·rfl
@[simp] theorem awB{α:Type}{f:α→List D}{l:List α}:(nl f l).strip=nl f l:=by unfold nl;split<;>rfl
theorem KR{x:Trem.Ev}(hs:x.sp.length≤9223372036854775807):lim T (.call false iS [.aK,.aH 1 x.enc,.int .i64 0] σ)=some (.val (.dV [.int .u8 0,.int .u8 0,.int .i64 (if x.ok then 0 else 1)]) σ):=by
 refine aw xh oL.eq_1 rfl ?_;have hA:=fun σ=>@S8 σ [x] (by simp) (by simpa using hs)
 have hN:=fun σ=>all_nil (T:=T) (σ:=σ) (fv:=.fn eR [] []) (f:=dF) (ag:=true) (w:=10) rfl rfl rfl rfl rfl rfl
 simp only[List.length_singleton,aS,dP,eE,ie,jV,List.all_nil,Bool.and_true]at hA;have w0:Trem.cT 0 0 1000000=true:=by decide
 cases hr:x.ok
 ·rw[hr]at hA;simp only[Trem.Ev.enc]at hA ⊢;simp[-length_flatMap,-map_take,hA,hN]
 ·rw[hr]at hA;simp only[Trem.Ev.enc]at hA ⊢;simp[-length_flatMap,-map_take,hA,hN,gI,w0];refine aM gV.eq_1 ?_;simp[-length_flatMap,-map_take]
def spD(L:Nat)(acc:List Trem.xc):D:=.sl L 0 acc.length 0 acc.length 4
def spS(acc:List Trem.xc):List Abs.aE:=[.cells acc.length (acc.flatMap Trem.xc.enc)]
theorem Rh(l:List Trem.xc):(l.flatMap Trem.xc.enc).length=l.length*4:=bX (f:=Trem.xc.enc) (w:=4) (fun _=>rfl) l
theorem JP{bp:D}(hb1:bp.calm=bp){tk:Int}:∀(rs acc:List Trem.xc),acc.length+rs.length≤1000000 →
  WL T [0,2,6] false kz [(0,bp),(2,.aH (rs.length*4) (rs.flatMap Trem.xc.enc)),(6,.own 0 [.int .i64 tk,spD σ.length acc])] (spS acc::σ)
   (fun x e σ'=>x=.exit 0∧get e 0=bp∧get e 6=.own 0 [.int .i64 tk,spD σ.length (acc++rs)]∧get e 1000006=.undef∧σ'=spS (acc++rs)::σ)
 |[],acc,h=>by
  refine aM kz.eq_1 ?_;simp[-length_flatMap,-map_take,hb1]
 |r::rs,acc,h=>by
  refine aM kz.eq_1 ?_;simp only[aG]at h;have e1:(rs.length+1)*4=rs.length*4+4:=by omega
  have q0:(0:Int)<(rs.length:Int)*4+4:=by omega
  have q1:(1:Int)<(rs.length:Int)*4+4:=by omega
  have q2:(2:Int)<(rs.length:Int)*4+4:=by omega
  have q3:(3:Int)<(rs.length:Int)*4+4:=by omega
  have q4:(4:Int)≤(rs.length:Int)*4+4:=by omega
  have hroom:(acc.length+1)*32≤room:=by unfold room;omega
  have h32:32≤room:=by unfold room;omega
  have hl:=Rh acc;have ht:(acc.flatMap Trem.xc.enc).take (acc.length*4)=acc.flatMap Trem.xc.enc:=ai (by omega);have hl2:=Rh rs;have ht2:(rs.flatMap Trem.xc.enc).take (rs.length*4)=rs.flatMap Trem.xc.enc:=ai (by omega);simp[-length_flatMap,-map_take,hb1,e1,q0,q1,q2,q3,q4,hroom,hl,ht,spD,spS];refine WL.to (JP hb1 (tk:=tk) rs (acc++[r]) (by simp;omega)) (by simp[ht2,spD,spS]) (by simp[spS]) fun x e σ' hh=>?_
  simpa[spD,spS]using hh
def HS(b:Bk)(x:Trem.Ev):Bk:={b with AZ:=b.AZ++[x] }
def Aa(b:Bk)(sp:List Trem.xc):Bk×Int:=if b.AZ.length<200 then(if Trem.Ev.ok ⟨b.az.length,sp⟩=true then(HS b ⟨b.az.length,sp⟩,0)else(b,1))else(b,3)
theorem an8(l:List Trem.Ev):(l.flatMap Trem.Ev.enc).length=l.length*2:=bX (f:=Trem.Ev.enc) (w:=2) (fun _=>rfl) l
theorem aes{S:SK}{L:Nat}(hS:S.length=L)(hL:0<L){sp:List Trem.xc}{tk:Int}:cJ.frzL (cJ 0 16) [.int .i64 tk,spD L sp] (spS sp::S)=([.int .i64 tk,.aH sp.length (sp.flatMap Trem.xc.enc)],[.dead]::S):=by
 have hf:=Eh (f:=Trem.xc.enc) (w:=4) (fun _=>rfl) (fun _=>by simp[D.clean]) (l:=sp) (j:=0) (v:=sp.length) (bs:=[Abs.aE.cells sp.length (sp.flatMap Trem.xc.enc)]) (σ:=S) (by intro h;subst h;simp at hS;omega) (by simp);rw[hS]at hf;simp[spD,spS,hf]
theorem af9{F:List Abs.aE}{b:Bk}{er:List Int}{nm:List UInt8}{sp:List Trem.xc}{b':Bk}{e:Int}(hl:sp.length≤1000000)(hd:Aa b sp=(b',e))(he:e=0):
  lim T (.call false fD [.ref σ.length 6 0 0,.str nm,.aH (sp.length*4) (sp.flatMap Trem.xc.enc)] (F::b.bj σ.length er::σ))=some (.val (.dV []) (F::b'.bj σ.length er::σ)):=by
 refine fQ vI kb.eq_1 rfl (by simp) ?_;unfold Aa at hd;split at hd
 case isFalse=>cases hd;cases he
 rename_i h1;split at hd
 case isFalse=>cases hd;cases he
 rename_i h2;cases hd;have h1':(b.AZ.length:Int)<200:=by omega
 have hC:=fun σ=>KR (σ:=σ) (x:=⟨b.az.length,sp⟩) (by simp;omega)
 simp only[h2,if_true,Trem.Ev.enc]at hC;have hL:=JP (σ:=F::b.bj σ.length er::σ) (bp:=.ref σ.length 6 0 0) rfl (tk:=b.az.length) sp [] (by simpa using hl);have hne:sp≠[]:=by
  intro hh;subst hh;simp[Trem.Ev.ok,Trem.cT]at h2
 simp[-length_flatMap,-map_take,Bk.bj,Bk.cells,h1',cH];refine WL.to hL (by simp[spD]) (by simp[Bk.bj,Bk.cells,spS]) ?_;rintro x e σ' ⟨rfl,g0,g6,gu,rfl⟩;have hf:=fun S hS=>aes (S:=S) (L:=σ.length+1+1) hS (by omega) (sp:=sp) (tk:=b.az.length)
 have w2:(b.AZ.length+1)*32≤room:=by unfold room;omega
 have w3:=an8 b.AZ;have w4:(b.AZ.flatMap Trem.Ev.enc).take (b.AZ.length*2)=b.AZ.flatMap Trem.Ev.enc:=ai (by omega);have hcl:D.bJ (sp.flatMap Trem.xc.enc)=true:=iU (fun _=>by simp[D.clean]) sp;simp only[aX]at g6;simp[-length_flatMap,-map_take,g0,g6,gu,hf,hC,o7,Bk.bj,Bk.cells,HS,w2,w3,w4,hcl]
theorem RD{F:List Abs.aE}{b:Bk}{er:List Int}{nm:List UInt8}{sp:List Trem.xc}{b':Bk}{e:Int}(hl:sp.length≤1000000)(hd:Aa b sp=(b',e))(he:e≠0):
  lim T (.call false fD [.ref σ.length 6 0 0,.str nm,.aH (sp.length*4) (sp.flatMap Trem.xc.enc)] (F::b.bj σ.length er::σ))=some (.gf (rf e) (F::b.bj σ.length er::σ)):=by
 refine ep vI kb.eq_1 rfl ?_;have hM:=fun σ=>ri (σ:=σ) (e:=1) (by decide)
 have hrc:(D.uH 311 (.agg [.int .i64 1])).clean=true:=rfl;unfold Aa at hd;split at hd
 case isFalse h1 =>
  cases hd;have h1':¬(b.AZ.length:Int)<200:=by omega
  simp[-length_flatMap,-map_take,Bk.bj,Bk.cells,h1',dK,D.clean,rf]
 rename_i h1;split at hd
 case isTrue=>cases hd;exact absurd rfl he
 rename_i h2;cases hd;have h1':(b.AZ.length:Int)<200:=by omega
 have h2':Trem.Ev.ok ⟨b.az.length,sp⟩=false:=by simpa using h2
 have hC:=fun σ=>KR (σ:=σ) (x:=⟨b.az.length,sp⟩) (by simp;omega)
 simp only[h2',Trem.Ev.enc]at hC;have hL:=JP (σ:=F::b.bj σ.length er::σ) (bp:=.ref σ.length 6 0 0) rfl (tk:=b.az.length) sp [] (by simpa using hl);simp[-length_flatMap,-map_take,Bk.bj,Bk.cells,h1',cH];refine WL.to hL (by simp[spD]) (by simp[Bk.bj,Bk.cells,spS]) ?_;rintro x e σ' ⟨rfl,g0,g6,gu,rfl⟩;have hf:=fun S hS=>aes (S:=S) (L:=σ.length+1+1) hS (by omega) (sp:=sp) (tk:=b.az.length)
 have hcl:D.bJ (sp.flatMap Trem.xc.enc)=true:=iU (fun _=>by simp[D.clean]) sp;simp only[aX]at g6;simp[-length_flatMap,-map_take,g0,g6,gu,hf,hC,hM,Bk.bj,Bk.cells,hcl,rf,hrc]
theorem BQ{a b c:Int}:lim T (.call false kh [.int .i64 a,.int .i64 b,.int .i64 c] σ)=some (.val (.bool (cT a b c)) σ):=by
 refine aw G7 uo.eq_1 rfl ?_;by_cases h:b≤a<;>simp[-length_flatMap,-map_take,h,cT]
theorem RJ{p:Prt}{last:Int}:lim T (.call false eg [.agg p.enc,.ref σ.length 0 0 0] ([]::[]::[]::[]::[.cells 0 [.int .i64 last]]::σ))=some (.val (.bool (p.ok last)) ([]::[]::[]::[]::[.cells 0 [.int .i64 p.wj]]::σ)):=by
 refine fQ Bb nB.eq_1 rfl (by simp) ?_;cases h:cT p.wj 0 last<;>simp[-length_flatMap,-map_take,BQ,h,Prt.ok]
theorem K7{u:zm}(hl:u.parts.length≤1000000000):lim T (.call false jI [.agg u.enc] σ)=some (.val (.bool u.ok) σ):=by
 refine aw CX pj.eq_1 rfl ?_;have hA:=JY (xo 2 Prt.enc (fun _=>rfl)) (T:=T) (S:=fun i=>[.cells 0 [.int .i64 (wk u.parts i)]]::σ) (fv:=.fn eg [] [.ref σ.length 0 0 0]) (l:=u.parts) (p:=CL u.parts)
  (f:=iN) (g:=jZ) (h:=ff) (i:=gw) rfl rfl rfl rfl (by omega) rfl rfl rfl (fun _=>rfl) (fun i x hx=>by
   rw[sK];have h:=RJ (σ:=σ) (p:=x) (last:=wk u.parts i);have e1:wk u.parts (i+1)=x.wj:=by simp[wk,hx]
   have e2:CL u.parts i=x.ok (wk u.parts i):=by simp[CL,hx]
   have h':lim T (.call false eg ([]++[(xo 2 Prt.enc (fun _=>rfl)).val x]++[.ref σ.length 0 0 0]) ([]::[]::[]::[]::[.cells 0 [.int .i64 (wk u.parts i)]]::σ))=_:=h;rw[h',e1,e2];rfl)
 have hb:(!(qD (fun i => !CL u.parts i) 0 u.parts.length).1)=yX 1000 u.parts:=by
  have h1:=Ce (q:=fun i => !CL u.parts i) (m:=u.parts.length) (i:=0);have h2:=Sa (l:=u.parts);cases hf:yX 1000 u.parts
  ·cases hs:(qD (fun i => !CL u.parts i) 0 u.parts.length).1
   ·have h3:=h1.1 hs;have h4:=h2.2 fun j hj=>by simpa using h3 j hj
    rw[hf]at h4;cases h4
   ·rfl
  ·have h3:=h2.1 hf;have h4:=h1.2 fun j hj=>by simp[h3 j hj]
   rw[h4];rfl
 rw[hb]at hA;have e0:wk u.parts 0=1000:=rfl;have hA':lim T (.call false iN [.aH u.parts.length (u.parts.flatMap Prt.enc),.fn eg [] [.ref σ.length 0 0 0]] ([.cells 0 [.int .i64 1000]]::σ))=_:=hA;cases h1:cT u.Ee 0 5
 ·simp[-length_flatMap,-map_take,BQ,h1,zm.ok]
 cases h2:cT u.parts.length 1 8
 ·simp[-length_flatMap,-map_take,BQ,h1,h2,zm.ok]
 simp[-length_flatMap,-map_take,BQ,h1,h2,zm.ok,hA']
theorem FH{u:zm}(hl:u.parts.length≤1000000000):lim T (.call false nO [.agg u.enc] σ)=some (.val (.int .i64 (if u.ok then 0 else 1)) σ):=by
 refine aw DJ rm.eq_1 rfl ?_;have hC:=fun σ=>K7 (σ:=σ) hl
 simp only[zm.enc]at hC ⊢;cases hc:u.ok<;>rw[hc]at hC<;>simp[-length_flatMap,-map_take,hC]
def ptD(L:Nat)(acc:List Prt):D:=.sl L 0 acc.length 0 acc.length 2
def ptS(acc:List Prt):List Abs.aE:=[.cells acc.length (acc.flatMap Prt.enc)]
theorem GI(l:List Prt):(l.flatMap Prt.enc).length=l.length*2:=bX (f:=Prt.enc) (w:=2) (fun _=>rfl) l
theorem JM{bp:D}(hb1:bp.calm=bp){tk:Int}:∀(rs acc:List Prt),acc.length+rs.length≤1000000 →
  WL T [0,2,6] false lF [(0,bp),(2,.aH (rs.length*2) (rs.flatMap Prt.enc)),(6,.own 0 [.int .i64 tk,ptD σ.length acc])] (ptS acc::σ)
   (fun x e σ'=>x=.exit 0∧get e 0=bp∧get e 6=.own 0 [.int .i64 tk,ptD σ.length (acc++rs)]∧get e 1000006=.undef∧σ'=ptS (acc++rs)::σ)
 |[],acc,h=>by
  refine aM lF.eq_1 ?_;simp[-length_flatMap,-map_take,hb1]
 |r::rs,acc,h=>by
  refine aM lF.eq_1 ?_;simp only[aG]at h;have e1:(rs.length+1)*2=rs.length*2+2:=by omega
  have q0:(0:Int)<(rs.length:Int)*2+2:=by omega
  have q1:(1:Int)<(rs.length:Int)*2+2:=by omega
  have q2:(2:Int)≤(rs.length:Int)*2+2:=by omega
  have hroom:(acc.length+1)*16≤room:=by unfold room;omega
  have h32:16≤room:=by unfold room;omega
  have hl:=GI acc;have ht:(acc.flatMap Prt.enc).take (acc.length*2)=acc.flatMap Prt.enc:=ai (by omega);have hl2:=GI rs;have ht2:(rs.flatMap Prt.enc).take (rs.length*2)=rs.flatMap Prt.enc:=ai (by omega);simp[-length_flatMap,-map_take,hb1,e1,q0,q1,q2,hroom,hl,ht,ptD,ptS];refine WL.to (JM hb1 (tk:=tk) rs (acc++[r]) (by simp;omega)) (by simp[ht2,ptD,ptS]) (by simp[ptS]) fun x e σ' hh=>?_
  simpa[ptD,ptS]using hh
def MS(b:Bk)(u:zm):Bk:={b with gA:=b.gA++[u] }
def Dj(b:Bk)(u:zm):Bk×Int:=if b.gA.length<10 then(if u.ok=true then(MS b u,0)else(b,1))else(b,3)
theorem Rn(l:List zm):(l.flatMap zm.enc).length=l.length*2:=bX (f:=zm.enc) (w:=2) (fun _=>rfl) l
theorem aer{S:SK}{L:Nat}(hS:S.length=L)(hL:0<L){pt:List Prt}{tk:Int}:cJ.frzL (cJ 0 16) [.int .i64 tk,ptD L pt] (ptS pt::S)=([.int .i64 tk,.aH pt.length (pt.flatMap Prt.enc)],[.dead]::S):=by
 have hf:=Eh (f:=Prt.enc) (w:=2) (fun _=>rfl) (fun _=>by simp[D.clean]) (l:=pt) (j:=0) (v:=pt.length) (bs:=[Abs.aE.cells pt.length (pt.flatMap Prt.enc)]) (σ:=S) (by intro h;subst h;simp at hS;omega) (by simp);rw[hS]at hf;simp[ptD,ptS,hf]
theorem z6{l:List Prt}:D.bJ (l.flatMap Prt.enc)=true:=iU (fun _=>by simp[D.clean]) l
theorem anr{F:List Abs.aE}{b:Bk}{er:List Int}{nm:List UInt8}{u:zm}{b':Bk}{e:Int}(hl:u.parts.length≤1000000)(hd:Dj b u=(b',e))(he:e=0):
  lim T (.call false gr [.ref σ.length 6 0 0,.str nm,.aH (u.parts.length*2+1) (.int .i64 u.Ee::u.parts.flatMap Prt.enc)] (F::b.bj σ.length er::σ))=some (.val (.dV []) (F::b'.bj σ.length er::σ)):=by
 refine fQ wC kY.eq_1 rfl (by simp) ?_;unfold Dj at hd;split at hd
 case isFalse=>cases hd;cases he
 rename_i h1;split at hd
 case isFalse=>cases hd;cases he
 rename_i h2;cases hd;have h1':(b.gA.length:Int)<10:=by omega
 have hC:=fun σ=>FH (σ:=σ) (u:=u) (by omega)
 simp only[h2,if_true,zm.enc]at hC;have hL:=JM (σ:=F::b.bj σ.length er::σ) (bp:=.ref σ.length 6 0 0) rfl (tk:=u.Ee) u.parts [] (by simpa using hl);have hne:u.parts≠[]:=by
  intro hh;simp[zm.ok,cT,hh]at h2
 have q0:(0:Int)<(u.parts.length:Int)*2+1:=by omega
 have q1:(1:Int)≤(u.parts.length:Int)*2+1:=by omega
 have hlp:=GI u.parts;have htp:(u.parts.flatMap Prt.enc).take (u.parts.length*2)=u.parts.flatMap Prt.enc:=ai (by omega);simp[-length_flatMap,-map_take,Bk.bj,Bk.cells,h1',cH,q0,q1];refine WL.to hL (by simp[ptD,htp]) (by simp[Bk.bj,Bk.cells,ptS]) ?_;rintro x e σ' ⟨rfl,g0,g6,gu,rfl⟩;have hf:=fun S hS=>aer (S:=S) (L:=σ.length+1+1) hS (by omega) (pt:=u.parts) (tk:=u.Ee)
 have w2:(b.gA.length+1)*32≤room:=by unfold room;omega
 have w3:=Rn b.gA;have w4:(b.gA.flatMap zm.enc).take (b.gA.length*2)=b.gA.flatMap zm.enc:=ai (by omega);simp only[aX]at g6;simp[-length_flatMap,-map_take,g0,g6,gu,hf,hC,o7,Bk.bj,Bk.cells,MS,w2,w3,w4,z6]
theorem TA{F:List Abs.aE}{b:Bk}{er:List Int}{nm:List UInt8}{u:zm}{b':Bk}{e:Int}(hl:u.parts.length≤1000000)(hd:Dj b u=(b',e))(he:e≠0):
  lim T (.call false gr [.ref σ.length 6 0 0,.str nm,.aH (u.parts.length*2+1) (.int .i64 u.Ee::u.parts.flatMap Prt.enc)] (F::b.bj σ.length er::σ))=some (.gf (rf e) (F::b.bj σ.length er::σ)):=by
 refine ep wC kY.eq_1 rfl ?_;have hM:=fun σ=>ri (σ:=σ) (e:=1) (by decide)
 have hrc:(D.uH 311 (.agg [.int .i64 1])).clean=true:=rfl;unfold Dj at hd;split at hd
 case isFalse h1 =>
  cases hd;have h1':¬(b.gA.length:Int)<10:=by omega
  simp[-length_flatMap,-map_take,Bk.bj,Bk.cells,h1',dK,D.clean,rf]
 rename_i h1;split at hd
 case isTrue=>cases hd;exact absurd rfl he
 rename_i h2;cases hd;have h1':(b.gA.length:Int)<10:=by omega
 have h2':u.ok=false:=by simpa using h2
 have hC:=fun σ=>FH (σ:=σ) (u:=u) (by omega)
 simp only[h2',zm.enc]at hC;have hL:=JM (σ:=F::b.bj σ.length er::σ) (bp:=.ref σ.length 6 0 0) rfl (tk:=u.Ee) u.parts [] (by simpa using hl);have q0:(0:Int)<(u.parts.length:Int)*2+1:=by omega
 have q1:(1:Int)≤(u.parts.length:Int)*2+1:=by omega
 have hlp:=GI u.parts;have htp:(u.parts.flatMap Prt.enc).take (u.parts.length*2)=u.parts.flatMap Prt.enc:=ai (by omega);simp[-length_flatMap,-map_take,Bk.bj,Bk.cells,h1',cH,q0,q1];refine WL.to hL (by simp[ptD,htp]) (by simp[Bk.bj,Bk.cells,ptS]) ?_;rintro x e σ' ⟨rfl,g0,g6,gu,rfl⟩;have hf:=fun S hS=>aer (S:=S) (L:=σ.length+1+1) hS (by omega) (pt:=u.parts) (tk:=u.Ee)
 simp only[aX]at g6;simp[-length_flatMap,-map_take,g0,g6,gu,hf,hC,hM,Bk.bj,Bk.cells,z6,rf,hrc]
end Go.Proofs.YtfgljaglidhjiaaGreatDoor
