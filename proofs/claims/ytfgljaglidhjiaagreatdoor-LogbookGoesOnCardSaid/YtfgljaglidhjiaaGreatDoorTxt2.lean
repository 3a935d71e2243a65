import Derived.Test.YtfgljaglidhjiaaGreatDoorTxt1
import Derived.Test.YtfgljaglidhjiaaGreatDoorTxt0
set_option linter.all false
namespace Go.Proofs.YtfgljaglidhjiaaGreatDoor
open List(length_flatMap map_take)
open Go Go.Abs Go.Rock
variable {σ:SK}
theorem He{l i v off:Nat}:lim T (.yc fL [.ref l i v off] none σ)=some (.val (.dV []) σ):=by
 refine Bm yO qH.eq_1 rfl (by simp[-length_flatMap,-map_take,sJ];exact⟨rfl,rfl⟩) ?_;simp[-length_flatMap,-map_take]
theorem TR{F:List Abs.aE}(hF:F=[.cells 0 [.int .i64 0]]):lim T (.yc fL [.ref σ.length 0 0 0] (some (.uH 262 (.agg []))) (F::σ))=some (.val (.dV []) ([.cells 0 [.int .i64 9]]::σ)):=by
 subst hF;refine Bm yO qH.eq_1 rfl (by simp[-length_flatMap,-map_take,sJ];exact⟨rfl,rfl⟩) ?_;simp[-length_flatMap,-map_take]
theorem vQ{α:Type}{f:α→Int}:∀{l:List α},cN f l=0→∀x∈l,f x=0
 |[],_,x,hx=>by cases hx
 |a::l,h,x,hx=>by
  simp only[cN]at h;split at h
  ·rename_i ha;rcases bd.1 hx with rfl | hx
   ·exact ha
   ·exact vQ h x hx
  ·rename_i ha;exact absurd h ha
theorem Am{b:cz}{az:List (List Int)}(h:wI b az=0):az.length≤200∧∀r∈az,Rv b r:=by
 unfold wI at h;split at h
 ·cases h
 ·exact⟨by omega,fun r hr=>Rv.of (vQ h r hr)⟩
def sY(b:cz)(m:cU)(az:List (List Int)):Int:=if Bd b m then(if wI b az=0 then(match Rock.run b m az with | some _=>0 | none=>9)else wI b az)else 1
def zC(b:cz)(m:cU)(az:List (List Int)):D:=if sY b m az=0 then(match Rock.run b m az with | some (ss,ys) => .agg [.aH ss.length (ss.flatMap yB),.aH ys.length (ys.flatMap yB)] | none => .agg [.aK,.aK])else .agg [.aK,.aK]
theorem S7{b:cz}{m:cU}{az:List (List Int)}{wq:D}(hwq:wq.wQ=.aH b.an.length (b.an.flatMap bI.enc))(h1:b.ct.length≤1000000000)(h2:b.an.length≤1000000000)(hn:m.name.length≤1000000000)(hl:m.bq.length≤1000000000)(hp:az.length≤1000000000)(hs:∀l∈az,l.length≤1000000000)(hσ:σ≠[]):
  lim T (.call false tQ [.agg [.int .i64 b.f.x,.int .i64 b.f.y,.int .i64 b.f.z,.int .i64 b.f.k,.aH b.ct.length (b.ct.flatMap Rw.enc),.int .i64 b.bK,.int .i64 b.lift,.int .i64 b.deep,wq],.agg [.str m.name,.aH m.bq.length (m.bq.flatMap aY)],.aH az.length (az.flatMap Gr)] σ)=some (.val (.dV [zC b m az,.int .i64 (sY b m az)]) σ):=by
 have hP:=fun σ=>To (σ:=σ) (b:=b) hp hs
 cases hb:Bd b m
 ·have hE:sY b m az=1:=by simp[sY,hb]
  have hD:zC b m az=.agg [.aK,.aK]:=by simp[zC,hE]
  rw[hD,hE];refine aw Bc tN.eq_1 rfl ?_;obtain⟨d,hB,hd1,hd2⟩:=Oy h1 h2 hn hl hb (σ:=[.cells 0 [.int .i64 0]]::σ);simp[-length_flatMap,-map_take,hwq,hB,hd1,cM,bu,bw]
 ·have hB:=fun σ=>ahT (σ:=σ) h1 h2 hn hl hb
  by_cases hq:wI b az=0
  ·obtain⟨p1,p2⟩:=Am hq;simp only[Bd,af]at hb;have hf:Fv b m:=Fv.of (by simp[Bd,hb]);have hb':Bd b m=true:=by simp[Bd,hb]
   refine Ln Bc tN.eq_1 rfl rfl ?_;cases hrun:Rock.run b m az with
   |none =>
    have hE:sY b m az=9:=by simp[sY,hb',hq,hrun]
    have hD:zC b m az=.agg [.aK,.aK]:=by simp[zC,hE]
    have hR:=fun σ=>OB (σ:=σ) hf p1 p2 hrun
    have hX:wh T (.fn fL [] []) [.ref σ.length 0 0 0] (some (.uH 262 (.agg []))) ([.cells 0 [.int .i64 0]]::σ)=some ([.cells 0 [.int .i64 9]]::σ):=vf (TR rfl);rw[hD,hE];simp[-length_flatMap,-map_take,KL,AV,hwq,hB,hP,hq,hR,cM,bu,bw];rw[xk xu.eq_1];simp[-length_flatMap,-map_take,KL,AV,hX,hR,cM,bu,bw]
   |some p =>
    obtain⟨ss,ys⟩:=p;have hE:sY b m az=0:=by simp[sY,hb',hq,hrun]
    have hD:zC b m az=.agg [.aH ss.length (ss.flatMap yB),.aH ys.length (ys.flatMap yB)]:=by simp[zC,hE,hrun]
    have hX:wh T (.fn fL [] []) [.ref σ.length 0 0 0] none ([.cells 0 [.int .i64 0]]::σ)=some ([.cells 0 [.int .i64 0]]::σ):=vf He;have hR:=fun σ hσ=>OC (σ:=σ) hf p1 p2 hσ hrun
    rw[hD,hE];simp[-length_flatMap,-map_take,KL,AV,hwq,hB,hP,hq,hR,cM,bu,bw];rw[xk xu.eq_1];simp[-length_flatMap,-map_take,KL,AV,hX,hR,cM,bu,bw];rw[qQ (by simp[D.clean,I2]) (by omega)];exact⟨_,rfl⟩
  ·have hE:sY b m az=wI b az:=by simp[sY,hb,hq]
   have hD:zC b m az=.agg [.aK,.aK]:=by simp[zC,hE,hq]
   rw[hD,hE];refine aw Bc tN.eq_1 rfl ?_;simp[-length_flatMap,-map_take,hwq,hB,hP,hq,cM,bu,bw]
end Go.Proofs.YtfgljaglidhjiaaGreatDoor
namespace Go.Book
open List(length_flatMap map_take)
open Go Go.Abs Go.Rock
def SA(s:List UInt8):Option Int:=if((vL s).1=0∧Jh (vL s).2=s)∧cT (vL s).2 (-999999999) 999999999=true then some (vL s).2 else none
def yu:List (List UInt8)→Option (List Int)
 |[]=>some []
 |s::l=>match SA s with
  |some n=>(yu l).map (n :: ·)
  |none=>none
structure Wd where
 named:Bool
 least:Int
 step:Int
 k:Nat
def tU:List (List UInt8×Wd):=[
 ([102,105,101,108,100],⟨false,4,0,0⟩),([116,97,98,108,101],⟨false,0,5,1⟩),([98,101,100],⟨false,3,0,2⟩),([119,101,108,108],⟨false,3,0,3⟩),
 ([109,111,100,101,108],⟨true,0,1,4⟩),([108,111,103],⟨true,3,2,5⟩),([114,117,108,101],⟨false,10,0,6⟩),([107,101,101,112],⟨false,3,0,7⟩),
 ([113,117,97,107,101],⟨false,0,4,8⟩),([116,105,99,107],⟨false,0,1,9⟩),([114,101,97,100],⟨false,4,0,10⟩),([117,110,105,116],⟨false,1,2,11⟩),([115,101,108,108],⟨false,4,0,12⟩)]
def CM(s:List UInt8):List (List UInt8×Wd)→Option Wd
 |[]=>none
 |(k,w)::l=>if s=k then some w else CM s l
def yH(s:List UInt8):Option Wd:=CM s tU
theorem E8{s:List UInt8}{w:Wd}:∀{l:List (List UInt8×Wd)},CM s l=some w→(s,w)∈l
 |[],h=>by cases h
 |(k,v)::l,h=>by
  simp only[CM]at h;split at h
  ·rename_i e;cases h;subst e;simp
  ·exact List.mem_cons_of_mem _ (E8 h)
theorem EG{s:List UInt8}{w:Wd}(h:yH s=some w):0≤w.least∧w.least≤10∧0≤w.step∧w.step≤5∧w.k<13:=by
 have h1:=E8 h;simp only[tU,bd,ak,List.not_mem_nil,or_false]at h1;rcases h1 with⟨_,rfl⟩ | ⟨_,rfl⟩ | ⟨_,rfl⟩ | ⟨_,rfl⟩ | ⟨_,rfl⟩ | ⟨_,rfl⟩ | ⟨_,rfl⟩ | ⟨_,rfl⟩ | ⟨_,rfl⟩ | ⟨_,rfl⟩ | ⟨_,rfl⟩ | ⟨_,rfl⟩ | ⟨_,rfl⟩<;>simp
def HD(w:Wd)(n:Int):Bool:=decide (n-w.least=0) || (decide (0<n-w.least) && (decide (0<w.step) && decide ((n-w.least).tmod w.step=0)))
def wu(w:Wd)(name:List UInt8)(l:List (List UInt8)):Option (Wd×List UInt8×List Int) :=
 match yu l with
 |some ns=>if HD w ns.length=true then some (w,name,ns)else none
 |none=>none
def parse(s:List UInt8):Option (Wd×List UInt8×List Int) :=
 match gY 32 s with
 |[]=>none
 |a::all=>match yH a with
  |none=>none
  |some w=>if w.named=true then(match all with
   |[]=>none
   |n::r=>wu w n r)else wu w [] all
theorem Cf(b:UInt8)(s:List UInt8):gY b s≠[]:=by
 cases s with
 |nil=>simp[gY]
 |cons c r =>
  simp only[gY];split
  ·simp
  ·split<;>simp
theorem Aw(b:UInt8):∀s:List UInt8,(gY b s).length≤s.length+1
 |[]=>by simp[gY]
 |c::r=>by
  have:=Aw b r;simp only[gY];split
  ·simp;omega
  ·split
   ·rename_i h;rw[h]at this;simp at this ⊢;omega
   ·simp
end Go.Book
namespace Go.Book
open List(length_flatMap map_take)
open Go Go.Abs
def bE(b:UInt8):List D:=[.int .u8 b.toNat]
theorem strCells_eq(s:List UInt8):strCells s=s.flatMap bE:=by
 induction s with
 |nil=>rfl
 |cons b s ih=>simp only[strCells,aL,aS,bE,cG]at ih ⊢;rw[ih]
def uQ:Nat→List UInt8→Nat
 |n,[]=>n
 |n,c::s=>uQ ((31*n+c.toNat)%65521) s
def Gu(s:List UInt8):Nat:=uQ 1 s
theorem H8:∀{s:List UInt8} {n:Nat},n<65521→uQ n s<65521
 |[],n,h=>h
 |c::s,n,h=>H8 (s:=s) (Nat.mod_lt _ (by omega))
theorem KJ{s:List UInt8}:Gu s<65521:=H8 (by omega)
def FQ(n:Nat):UInt8:=UInt8.ofNat n
theorem vq{n:Nat}(h:n<256):(FQ n).toNat=n:=by simp[FQ];omega
def L4(n:Nat):List UInt8:=[FQ (n / 256),FQ (n%256),FQ (255-n / 256),FQ (255-n%256)]
def EC(s:List UInt8):List UInt8:=[FQ (Gu s / 256),FQ (Gu s%256)]
def l6(s:List UInt8):List UInt8:=L4 s.length++s++EC s
theorem qq(s:List UInt8):(l6 s).length=s.length+6:=by simp[l6,L4,EC]
def du(l:List (List UInt8)):List UInt8:=l.flatMap l6
def wJ(b:List UInt8):Option (List UInt8×List UInt8) :=
 match b with
 |x::y::r =>
  if 6≤b.length∧x.toNat*256+y.toNat≤4000∧x.toNat*256+y.toNat+6≤b.length then
   (if l6 ((b.drop 4).take (x.toNat*256+y.toNat))=b.take (x.toNat*256+y.toNat+6)then some ((b.drop 4).take (x.toNat*256+y.toNat),b.drop (x.toNat*256+y.toNat+6))else none)
  else none
 |_=>none
theorem DC{b s r:List UInt8}(h:wJ b=some (s,r)):b=l6 s++r∧s.length≤4000:=by
 unfold wJ at h;split at h
 ·rename_i x y t;split at h
  ·rename_i h1;split at h
   ·rename_i h2;cases h;obtain⟨h3,h4,h5⟩:=h1;refine⟨?_,by simp;omega⟩;rw[h2,List.take_append_drop]
   ·cases h
  ·cases h
 ·cases h
theorem SF{s:List UInt8}:∃x y r,l6 s=x::y::r∧(s.length<65536→x.toNat*256+y.toNat=s.length):=by
 refine⟨_,_,_,rfl,fun h=>?_⟩;rw[vq (by omega),vq (by omega)];omega
theorem JC{s r:List UInt8}(h:s.length≤4000):wJ (l6 s++r)=some (s,r):=by
 obtain⟨x,y,t,he,hn⟩:=SF (s:=s);have hn:=hn (by omega);have hl:=qq s;have h1:((l6 s++r).drop 4).take s.length=s:=by
  have:l6 s=L4 s.length++(s++EC s):=by simp[l6]
  rw[this,dX,show(4:Nat)=(L4 s.length).length from rfl,List.drop_left,dX,List.take_left]
 have h2:(l6 s++r).take (s.length+6)=l6 s:=by rw[← hl,List.take_left]
 have h3:(l6 s++r).drop (s.length+6)=r:=by rw[← hl,List.drop_left]
 have hb:l6 s++r=x::y::(t++r):=by rw[he];rfl
 unfold wJ;split
 ·rename_i x' y' r' hb';rw[hb]at hb';cases hb';rw[hn];have h4:6≤(l6 s++r).length∧s.length≤4000∧s.length+6≤(l6 s++r).length:=by simp[hl];omega
  rw[if_pos h4,h1,h2,h3,if_pos rfl]
 ·rename_i hno;exact absurd hb (hno x y (t++r))
def eH:Nat→List UInt8→List (List UInt8)
 |0,_=>[]
 |n+1,b=>match wJ b with
  |some (s,r)=>s::eH n r
  |none=>[]
end Go.Book
namespace Go.Proofs.YtfgljaglidhjiaaGreatDoor
open List(length_flatMap map_take)
section
open Go Go.Abs Go.Rock Go.Book
variable {σ:SK}
theorem HM{T:yR}{kp:Bool}{f k:Nat}{args:List D}{σ:SK}{r:R}(hT:T f=none)(hN:T (1000000+f)=some ⟨k,[],.exit 0⟩)(h:Fj k args σ=some r):lim T (.call kp f args σ)=some r :=
 iy (by simp[dB,hT,hN,h])
def rf(e:Int):D:=.uH 311 (.agg [.int .i64 e])
theorem cH{e:Int}:lim T (.call false aZ [.bool true,.int .i64 e] σ)=some (.val (.dV []) σ):=by
 refine aw CE sM.eq_1 rfl ?_;simp[-length_flatMap,-map_take]
theorem dK{e:Int}:lim T (.call false aZ [.bool false,.int .i64 e] σ)=some (.gf (rf e) σ):=by
 refine ep CE sM.eq_1 rfl ?_;simp[-length_flatMap,-map_take,arD,D.clean,rf]
theorem o7:lim T (.call false bS [.int .i64 0] σ)=some (.val (.dV []) σ):=by
 refine aw Ba rK.eq_1 rfl ?_;simp[-length_flatMap,-map_take,cH]
theorem ri{e:Int}(h:e≠0):lim T (.call false bS [.int .i64 e] σ)=some (.gf (rf e) σ):=by
 refine ep Ba rK.eq_1 rfl ?_;have h':(e == 0)=false:=by simpa using h
 simp[-length_flatMap,-map_take,dK,h',D.clean,rf]
theorem fk{a b c:Int}:lim T (.call false cC [.int .i64 a,.int .i64 b,.int .i64 c] σ)=some (.val (.bool (cT a b c)) σ):=by
 refine aw EO sc.eq_1 rfl ?_;by_cases h:b≤a<;>simp[-length_flatMap,-map_take,h,cT]
theorem M5{n:Int}(h : -9223372036854775808≤n∧n≤9223372036854775807):lim T (.call false eG [.int .i64 n] σ)=some (.val (.str (Jh n)) σ) :=
 HM Hc GZ (by simp[Fj,h])
theorem JI{s:List UInt8}(h:s.length≤1000000):lim T (.call false iR [.str s] σ)=some (.val (.dV [.int .i64 (vL s).2,if(vL s).1=0 then .pN else .uH 477 .undef]) σ) :=
 HM Hb GY (by simp[Fj,h])
theorem BP{s:List UInt8}(h:s.length≤1000000):lim T (.call false gS [.str s,.str [32]] σ)=some (.val (.aH (gY 32 s).length ((gY 32 s).map .str)) σ) :=
 HM Gi F9 (by simp[Fj,h])
theorem J0(s:List UInt8) : -9223372036854775808≤(vL s).2∧(vL s).2≤9223372036854775807:=by
 unfold vL;split
 ·rename_i v h;cases s with
  |nil=>cases h
  |cons c r =>
   simp only[Lib.atoiAll]at h;split at h
   ·cases h
   ·cases h
   ·rename_i u hu;split at h
    ·cases h
    ·split at h
     ·cases h
     ·cases h;dsimp only;split<;>omega
 ·simp
 ·simp only[Lib.atoiSat];split<;>simp
theorem Tk{s:List UInt8}(hl:s.length≤1000000){n:Int}(h:SA s=some n):lim T (.call false lY [.str s] σ)=some (.val (.int .i64 n) σ):=by
 unfold SA at h;simp only[aC,ae]at h;obtain⟨⟨⟨h1,h2⟩,h3⟩,rfl⟩:=h;refine aw zk oI.eq_1 rfl ?_;simp[-length_flatMap,-map_take,JI hl,h1,M5 (J0 s),h2,EH,fk,h3,cH]
theorem Ng{s:List UInt8}(hl:s.length≤1000000)(h:SA s=none):lim T (.call false lY [.str s] σ)=some (.gf (rf 4) σ):=by
 refine ep zk oI.eq_1 rfl ?_;unfold SA at h;simp only[ite_eq_right_iff,reduceCtorEq,imp_false,not_and]at h;by_cases h1:(vL s).1=0
 ·by_cases h2:Jh (vL s).2=s
  ·have h3:cT (vL s).2 (-999999999) 999999999=false:=by simpa using h ⟨h1,h2⟩
   simp[-length_flatMap,-map_take,JI hl,h1,M5 (J0 s),h2,EH,fk,h3,dK,D.clean,rf]
  ·simp[-length_flatMap,-map_take,JI hl,h1,M5 (J0 s),h2,EH,fk,dK,D.clean,rf]
 ·simp[-length_flatMap,-map_take,JI hl,h1,dK,D.clean,rf]
def Jo:List Nat:=[fA,fE,gW,gv,fC,gX,gn,gi,fD,gq,gk,gr,gp]
def M3(w:Wd):List D:=[.bool w.named,.int .i64 w.least,.int .i64 w.step,.fn ((Jo[w.k]?).getD 0) [] []]
def jT(l:List (List UInt8×Wd)):List D:=l.map fun p => .dV [.str p.1,.agg (M3 p.2)]
theorem HC{s:List UInt8}:∀{l:List (List UInt8×Wd)},CM s l=none→rM none (.str s) (jT l)=some none
 |[],_=>rfl
 |(k,w)::l,h=>by
  simp only[CM]at h;split at h
  ·cases h
  ·rename_i hk;have hb:(s == k)=false:=by simpa using hk
   have:=HC h;simp only[jT,aL,rM,tG,hb]at this ⊢;rw[this];rfl
theorem I9{s:List UInt8}{w:Wd}:∀{l:List (List UInt8×Wd)},CM s l=some w→∃j,rM none (.str s) (jT l)=some (some (j,.agg (M3 w)))
 |[],h=>by cases h
 |(k,v)::l,h=>by
  simp only[CM]at h;split at h
  ·rename_i hk;cases h;subst hk;exact⟨0,by simp[jT,rM,tG]⟩
  ·rename_i hk;have hb:(s == k)=false:=by simpa using hk
   obtain⟨j,hj⟩:=I9 h;exact⟨j+1,by
    simp only[jT,aL,rM,tG,hb]at hj ⊢;rw[hj];rfl⟩
theorem ayO{S:SK}{l i:Nat}{pre:List (List UInt8×Wd)}{k:List UInt8}{w:Wd}(h:cells? S l i 0=some (jT pre))(hn:CM k pre=none)(hl:l+1=S.length):
  AY S (.put none) [.l7 l i,.str k,.agg (M3 w)]=some (.undef,aV S l i (.cells 0 (jT (pre++[(k,w)])))):=by
 have h1:=HC hn;simp only[AY,AX,h,aR,h1];simp[tG,hl,jT]
theorem Sf{S:SK}{l i:Nat}{s:List UInt8}(h:cells? S l i 0=some (jT tU)):
  AY S (.get none (.agg [.bool false,.int .i64 0,.int .i64 0,.iW]) true) [.l7 l i,.str s] =
   some (match yH s with | some w => .dV [.agg (M3 w),.bool true] | none => .dV [.agg [.bool false,.int .i64 0,.int .i64 0,.iW],.bool false],S):=by
 simp only[AY,AX,h,aR];cases hw:yH s with
 |none=>rw[HC hw];simp[tG]
 |some w=>obtain⟨j,hj⟩:=I9 hw;rw[hj];simp[tG]
theorem BR{bs:List Abs.aE}:lim T (.call true pX [] (bs::σ))=some (.val (.l7 σ.length bs.length) ((bs++[.cells 0 (jT tU)])::σ)):=by
 refine tc Gd tj.eq_1 rfl ?_;have hm:AY (bs::σ) .make []=some (.l7 σ.length bs.length,(bs++[.cells 0 []])::σ):=by simp[AY]
 have hp:∀(pre:List (List UInt8×Wd)) (k:List UInt8) (w:Wd),CM k pre=none→AY ((bs++[.cells 0 (jT pre)])::σ) (.put none) [.l7 σ.length bs.length,.str k,.agg (M3 w)]=some (.undef,(bs++[.cells 0 (jT (pre++[(k,w)]))])::σ):=by
  intro pre k w hn;have h1:cells? ((bs++[.cells 0 (jT pre)])::σ) σ.length bs.length 0=some (jT pre):=by simp
  have h2:σ.length+1=((bs++[Abs.aE.cells 0 (jT pre)])::σ).length:=by simp
  have h3:=ayO (w:=w) h1 hn h2;refine h3.trans ?_;simp
 have p:=fun(j:Nat) (hj:j<13)=>hp (tU.take j) ((tU[j]?).getD ([],⟨false,0,0,0⟩)).1 ((tU[j]?).getD ([],⟨false,0,0,0⟩)).2
 have p0:=p 0 (by omega) (by decide);have p1:=p 1 (by omega) (by decide);have p2:=p 2 (by omega) (by decide);have p3:=p 3 (by omega) (by decide);have p4:=p 4 (by omega) (by decide);have p5:=p 5 (by omega) (by decide);have p6:=p 6 (by omega) (by decide);have p7:=p 7 (by omega) (by decide);have p8:=p 8 (by omega) (by decide);have p9:=p 9 (by omega) (by decide);have p10:=p 10 (by omega) (by decide);have p11:=p 11 (by omega) (by decide);have p12:=p 12 (by omega) (by decide);simp[tU,jT,M3,Jo]at p0 p1 p2 p3 p4 p5 p6 p7 p8 p9 p10 p11 p12;simp[-length_flatMap,-map_take,hm,p0,p1,p2,p3,p4,p5,p6,p7,p8,p9,p10,p11,p12,tU,jT,M3,Jo]
@[simp] def cc(s:List UInt8):List D:=[.str s]
def Q0(cs:List D)(name:List UInt8)(M:Abs.aE)(σ:SK)(acc:List Int)(r:Option (List Int))(x:Abs.Exit)(e:Env)(σ':SK):Prop:=match r with
 |some ns=>x=.exit 0∧get e 2=.own 0 cs∧get e 3=.str name∧get e 4=.sl σ.length 0 (acc++ns).length 0 (acc++ns).length 1∧σ'=[.cells (acc++ns).length ((acc++ns).flatMap aY),M]::σ
 |none=>x=.gf (rf 4)∧∃bj,σ'=bj::σ
theorem GW{all:List (List UInt8)}(hs:∀s∈all,s.length≤1000000)(hl:all.length≤1000001){cs:List D}{name:List UInt8}{M:Abs.aE}:∀(k i:Nat) (acc:List Int),i+k=all.length→acc.length=i →
  WL T [2,3,4,35,36,37] false nw [(2,.own 0 cs),(3,.str name),(4,.sl σ.length 0 i 0 i 1),(35,.aH all.length (all.flatMap cc)),(36,.int .i64 all.length),(37,.int .i64 i)]
   ([.cells i (acc.flatMap aY),M]::σ) (Q0 cs name M σ acc (yu (all.drop i)))
 |0,i,acc,hi,ha=>by
  refine aM nw.eq_1 ?_;obtain rfl:i=all.length:=by omega
  have h5:all.drop all.length=[]:=aA (by omega);simp[-length_flatMap,-map_take,h5,yu,Q0,ha]
 |k+1,i,acc,hi,ha=>by
  refine aM nw.eq_1 ?_;have hlt:i<all.length:=by omega
  have hii:(i:Int)<i+1:=by omega
  obtain⟨s,hx⟩:=gE hlt;have h4:=gN hlt (by omega);have h5:=cq hx;have a1:=bW (f:=cc) (w:=1) (fun _=>rfl) hx;simp only[cc,dM]at a1;have hsl:=hs s (aj hx);rw[h5];simp only[yu];have hr:(i+1)*8≤room:=by unfold room;omega
  cases hn:SA s with
  |none =>
   simp[-length_flatMap,-map_take,hlt,a1,Ng hsl hn,Q0]
  |some n =>
   have hc:(acc.flatMap aY).length=i:=by simp[bX (f:=aY) (w:=1) (fun _=>rfl),ha]
   have ht:(acc.flatMap aY).take i=acc.flatMap aY:=ai (by omega);simp[-length_flatMap,-map_take,hlt,a1,Tk hsl hn,hr,h4,hc,ht];refine WL.to (GW (cs:=cs) (name:=name) (M:=M) hs hl k (i+1) (acc++[n]) (by omega) (by simp[ha])) (by simp) (by simp) fun x e σ' hh=>?_
   cases hm:yu (all.drop (i+1))with
   |none=>rw[hm]at hh;exact hh
   |some ns=>rw[hm]at hh;simpa[Q0]using hh
theorem zB:∀{l:List (List UInt8)} {ns:List Int},yu l=some ns→ns.length=l.length
 |[],ns,h=>by simp only[yu,ae]at h;subst h;rfl
 |s::l,ns,h=>by
  simp only[yu]at h;split at h
  ·rename_i n hn;simp only[ad]at h;obtain⟨m,h1,rfl⟩:=h;simp[zB h1]
  ·cases h
theorem iZ(w:Wd):M3 w=[.bool w.named,.int .i64 w.least,.int .i64 w.step,.fn ((Jo[w.k]?).getD 0) [] []]:=rfl
theorem yE(l:List (List UInt8)):l.map D.str=l.flatMap cc:=by induction l with | nil=>rfl | cons s l ih=>simp[ih]
theorem K1{s:List UInt8}(hl:s.length≤1000000){a:List UInt8}{all:List (List UInt8)}(h:gY 32 s=a::all)(hw:yH a=none):lim T (.call false dk [.str s] σ)=some (.gf (rf 4) σ):=by
 refine ep lV fT.eq_1 rfl ?_;have hW:=BR (bs:=[.cells 0 []]) (σ:=σ);have hG:=Sf (S:=[Abs.aE.cells 0 [],.cells 0 (jT tU)]::σ) (l:=σ.length) (i:=1) (s:=a) (by simp);rw[hw]at hG;simp[-length_flatMap,-map_take,BP hl,h,hW,hG,dK,D.clean,rf]
end
section
open Go Go.Abs Go.Book
variable {σ:SK}
def HO(l:List (List UInt8)):Prop:=l.length≤100∧∀s∈l,s.length≤4000
theorem EZ(l:List UInt8):(l.flatMap bE).length=l.length:=by have:=bX (f:=bE) (w:=1) (fun _=>rfl) l;omega
theorem I1{l:List UInt8}:D.bJ (l.flatMap bE)=true:=iU (f:=bE) (fun x=>by simp[bE,D.clean]) l
theorem Lj{l:List UInt8}{i:Nat}{b:UInt8}(h:l[i]?=some b):((l.flatMap bE).drop i).take 1=[.int .u8 b.toNat]:=by
 have:=bW (f:=bE) (w:=1) (fun _=>rfl) h;rwa[dM]at this
theorem FP(b:UInt8):b.toNat<256:=b.toNat_lt
theorem ah1{s:List UInt8}(hl:s.length≤1000000):∀(m i n:Nat),i+m=s.length→n<65521 →
  WL T [3,7,8,9] false sb [(3,.int .i64 n),(7,.aH s.length (s.flatMap bE)),(8,.int .i64 s.length),(9,.int .i64 i)] σ
   (fun x e σ'=>x=.exit 0∧σ'=σ∧get e 3=.int .i64 (uQ n (s.drop i)))
 |0,i,n,hi,hn=>by
  refine aM sb.eq_1 ?_;have h1:¬i<s.length:=by omega
  have h2:s.drop i=[]:=aA (by omega);simp[-length_flatMap,-map_take,h1,h2,uQ]
 |m+1,i,n,hi,hn=>by
  refine aM sb.eq_1 ?_;have h1:i<s.length:=by omega
  obtain⟨c,hc⟩:=gE h1;have a1:=Lj hc;have h4:=gN h1 (by omega);have hb:=FP c;have w0:IntKind.i64.wrap (c.toNat:Int)=c.toNat:=fN (by omega);have w1:IntKind.i64.wrap (31*(n:Int))=31*n:=fN (by omega);have w2:IntKind.i64.wrap (31*(n:Int)+c.toNat)=31*n+c.toNat:=fN (by omega);have w3:(31*(n:Int)+c.toNat).tmod 65521=(((31*n+c.toNat)%65521:Nat):Int):=by rw[Int.tmod_eq_emod_of_nonneg (by omega)];omega
  rw[cq hc,uQ];simp[-length_flatMap,-map_take,h1,a1,h4,w0,w1,w2,w3];exact WL.to (ah1 hl m (i+1) ((31*n+c.toNat)%65521) (by omega) (Nat.mod_lt _ (by omega))) (by simp) rfl fun x e σ' hh=>by simpa using hh
theorem ano{s:List UInt8}(hl:s.length≤1000000):lim T (.call false sV [.str s] σ)=some (.val (.int .i64 (Gu s)) σ):=by
 refine aw Il vy.eq_1 rfl ?_;simp[-length_flatMap,-map_take,NX,strCells_eq];refine WL.to (ah1 (σ:=[]::σ) hl s.length 0 1 (by omega) (by omega)) (by simp) rfl ?_;rintro x e σ' ⟨rfl,rfl,g3⟩;simp[-length_flatMap,-map_take,g3,Gu]
theorem K3{s:List UInt8}(hl:s.length≤4000)(hσ:σ≠[]):lim T (.call false lZ [.str s] σ)=some (.val (.aH (l6 s).length ((l6 s).flatMap bE)) σ):=by
 refine aw EN rZ.eq_1 rfl ?_;have hS:=fun σ=>ano (σ:=σ) (s:=s) (by omega)
 have hb:=KJ (s:=s);obtain⟨h,hh⟩:∃h,h=s.length / 256:=⟨_,rfl⟩;obtain⟨lo,hlo⟩:∃h,h=s.length%256:=⟨_,rfl⟩;obtain⟨ch,hch⟩:∃h,h=Gu s / 256:=⟨_,rfl⟩;obtain⟨cl,hcl⟩:∃h,h=Gu s%256:=⟨_,rfl⟩;have hrec:l6 s=[FQ h,FQ lo,FQ (255-h),FQ (255-lo)]++s++[FQ ch,FQ cl]:=by rw[hh,hlo,hch,hcl];rfl
 have e8:(2:Int)^min 8 IntKind.i64.bits=256:=by decide
 have f1:(s.length:Int).fdiv 256=(h:Int):=by rw[Int.fdiv_eq_ediv_of_nonneg _ (by omega)];omega
 have f2:(Gu s:Int).fdiv 256=(ch:Int):=by rw[Int.fdiv_eq_ediv_of_nonneg _ (by omega)];omega
 have w1:IntKind.u8.wrap (h:Int)=h:=wu8 (by omega);have w2:IntKind.u8.wrap (s.length:Int)=lo:=by
  show(s.length:Int)%256=_
  omega
 have w3:IntKind.u8.wrap (ch:Int)=ch:=wu8 (by omega);have w4:IntKind.u8.wrap (Gu s:Int)=cl:=by
  show(Gu s:Int)%256=_
  omega
 have y1:(FQ h).toNat=h:=vq (by omega);have y2:(FQ lo).toNat=lo:=vq (by omega);have y3:(FQ (255-h)).toNat=255-h:=vq (by omega);have y4:(FQ (255-lo)).toNat=255-lo:=vq (by omega);have y5:(FQ ch).toNat=ch:=vq (by omega);have y6:(FQ cl).toNat=cl:=vq (by omega);obtain⟨h',hh'⟩:∃x,x=255-h:=⟨_,rfl⟩;obtain⟨lo',hlo'⟩:∃x,x=255-lo:=⟨_,rfl⟩;have x1:=MR (n:=h) (by omega);have x2:=MR (n:=lo) (by omega);rw[← hh']at x1 y3 hrec;rw[← hlo']at x2 y4 hrec;have r1:4+s.length≤room:=by unfold room;omega
 have r2:4+s.length+2≤room:=by unfold room;omega
 have hbl:=EZ s;have q1:4+s.length≤s.length+1+1+1+1:=by omega
 have tk:List.take (4+s.length) (D.int .u8 h::.int .u8 lo::.int .u8 h'::.int .u8 lo'::s.flatMap bE)=D.int .u8 h::.int .u8 lo::.int .u8 h'::.int .u8 lo'::s.flatMap bE:=ai (by simp only[aG,EZ];omega);have hrl:(l6 s).length=4+s.length+2:=by rw[qq];omega
 have hrE:(l6 s).flatMap bE=D.int .u8 h::.int .u8 lo::.int .u8 h'::.int .u8 lo'::(s.flatMap bE++[.int .u8 ch,.int .u8 cl]):=by rw[hrec];simp[bE,y1,y2,y3,y4,y5,y6]
 have hk:=Go.Abs.wG (f:=bE) (w:=1) (fun _=>rfl) (fun _=>by simp[bE,D.clean]) (l:=l6 s) (j:=0) (v:=2) (bs:=[.cells 2 ((l6 s).flatMap bE)]) (σ:=σ) hσ (by simp);rw[hrl,hrE]at hk;rw[hrl,hrE];simp[-length_flatMap,-map_take,EH,hS,e8,f1,f2,w1,w2,w3,w4,x1,x2,strCells_eq,r1,r2,hbl,q1,tk];exact⟨_,hk⟩
theorem IU{l:List (List UInt8)}(hl:HO l):∀(m i:Nat) (acc:List UInt8),i+m=l.length→acc.length≤4006*i →
  WL T [2,5,6,7] false nA [(2,.sl σ.length 0 i 0 acc.length 1),(5,.aH l.length (l.flatMap cc)),(6,.int .i64 l.length),(7,.int .i64 i)] ([.cells i (acc.flatMap bE)]::σ)
   (fun x e σ'=>x=.exit 0∧get e 2=.sl σ.length 0 l.length 0 (acc++du (l.drop i)).length 1∧σ'=[.cells l.length ((acc++du (l.drop i)).flatMap bE)]::σ)
 |0,i,acc,hi,ha=>by
  refine aM nA.eq_1 ?_;obtain rfl:i=l.length:=by omega
  have h2:l.drop l.length=[]:=aA (by omega);simp[-length_flatMap,-map_take,h2,du]
 |m+1,i,acc,hi,ha=>by
  refine aM nA.eq_1 ?_;have h1:i<l.length:=by omega
  obtain⟨s,hs⟩:=gE h1;have a1:=bW (f:=cc) (w:=1) (fun _=>rfl) hs;simp only[cc,dM]at a1;have h4:=gN h1 (by have:=hl.1;omega);have hsl:=hl.2 s (aj hs);have hC:=fun S hS=>K3 (σ:=S) hsl hS
  have hrl:=qq s;have hbl:=EZ acc;have hbl2:=EZ (l6 s);have hr:acc.length+(l6 s).length≤room:=by have:=hl.1;unfold room;omega
  have tk:(acc.flatMap bE).take acc.length=acc.flatMap bE:=ai (by omega);have ih:=IU hl m (i+1) (acc++l6 s) (by omega) (by simp;omega);rw[cq hs];have hbk:du (s::l.drop (i+1))=l6 s++du (l.drop (i+1)):=rfl;rw[hbk];simp[-length_flatMap,-map_take,h1,a1,h4,hC,hr,hbl,hbl2,tk];exact WL.to ih (by simp) (by simp) fun x e σ' hh=>by simpa using hh
theorem IT{l:List (List UInt8)}(hl:HO l)(hσ:σ≠[]):lim T (.call false kJ [.aH l.length (l.flatMap cc)] σ)=some (.val (.aH (du l).length ((du l).flatMap bE)) σ):=by
 refine aw DI rl.eq_1 rfl ?_;have hL:=IU (σ:=σ) hl l.length 0 [] (by omega) (by simp);simp[-length_flatMap,-map_take];refine WL.to hL (by simp) (by simp) ?_;rintro x e σ' ⟨rfl,g2,rfl⟩;simp only[aO,aX]at g2;have hk:=Go.Abs.wG (f:=bE) (w:=1) (fun _=>rfl) (fun _=>by simp[bE,D.clean]) (l:=du l) (j:=0) (v:=l.length) (bs:=[.cells l.length ((du l).flatMap bE)]) (σ:=σ) hσ (by simp);simp[-length_flatMap,-map_take,g2,hk]
def an1:Elt (List UInt8):=⟨false,1,cc,fun s => .str s,fun _=>rfl,fun _=>by simp[cc],fun _=>rfl,fun _=>rfl,fun _=>rfl⟩
theorem Ta{s:List UInt8}:lim T (.call false iM [.str s] σ)=some (.val (.bool (decide (4000<s.length))) σ):=by
 refine aw DH rk.eq_1 rfl ?_;have e:decide ((4000:Int)<(s.length:Int))=decide (4000<s.length):=by
  by_cases h:4000<s.length
  ·rw[decide_eq_true h,decide_eq_true (by omega)]
  ·rw[decide_eq_false h,decide_eq_false (by omega)]
 simp[-length_flatMap,-map_take,EH,e]
def okB(l:List (List UInt8)):Bool:=decide (l.length≤100) && !sF l (fun s=>decide (4000<s.length))
theorem GL{l:List (List UInt8)}(hl:l.length≤1000000000):lim T (.call false fK [.aH l.length (l.flatMap cc)] σ)=some (.val (.int .i64 (if okB l then 0 else 3)) σ):=by
 refine aw Gc ti.eq_1 rfl ?_;have hC:=fun σ=>contains_of an1 (T:=T) (f:=eF) (i:=jr) (l:=l) (p:=fun s=>decide (4000<s.length)) (fv:=.fn iM [] []) rfl rfl (by omega) (rj.fn fun s _ σ=>Ta) (σ:=σ)
 have hC':∀σ,lim T (.call false eF [.aH l.length (l.flatMap cc),.fn iM [] []] σ)=some (.val (.bool (sF l (fun s=>decide (4000<s.length)))) σ):=hC;unfold okB;by_cases h1:l.length≤100
 ·have h2:¬(100:Int)<l.length:=by omega
  cases h3:sF l (fun s=>decide (4000<s.length))<;>rw[h3]at hC'<;>simp[-length_flatMap,-map_take,h1,h2,hC']
 ·have h2:(100:Int)<l.length:=by omega
  simp[-length_flatMap,-map_take,h1,h2]
theorem En{l:List (List UInt8)}:okB l=true↔HO l:=by
 unfold okB HO;simp only[af,au,dW];constructor
 ·rintro⟨h1,h2⟩;refine⟨h1,fun s hs=>?_⟩;by_cases h:s.length≤4000
  ·exact h
  ·have h3:sF l (fun s=>decide (4000<s.length))=true:=Lh.2 ⟨s,hs,show decide (4000<s.length)=true from decide_eq_true (by omega)⟩;rw[h2]at h3;cases h3
 ·rintro⟨h1,h2⟩;refine⟨h1,?_⟩;cases h:sF l (fun s=>decide (4000<s.length))with
  |false=>rfl
  |true =>
   obtain⟨s,hs,h3⟩:=Lh.1 h;have:=h2 s hs;simp only[au]at h3;omega
theorem afT{l:List (List UInt8)}(hl:l.length≤1000000000)(hσ:σ≠[]):
  lim T (.call false nd [.aH l.length (l.flatMap cc)] σ)=some (.val (.dV [if okB l then .aH (du l).length ((du l).flatMap bE)else .aK,.int .i64 (if okB l then 0 else 3)]) σ):=by
 refine aw Gb tg.eq_1 rfl ?_;have h1:=fun σ=>GL (σ:=σ) hl
 cases hc:okB l
 ·rw[hc]at h1;simp[-length_flatMap,-map_take,h1]
 ·rw[hc]at h1;have h2:=fun S hS=>IT (σ:=S) (En.1 hc) hS
  simp[-length_flatMap,-map_take,h1,h2,I1]
end
section
open Go Go.Abs Go.Rock
variable {σ:SK}
structure yL where
 m:Int
 h:Int
 s:Int
 g:Int
@[simp] def yL.enc(x:yL):List D:=[.int .i64 x.m,.int .i64 x.h,.int .i64 x.s,.int .i64 x.g]
def yL.valid(x:yL):Bool:=cT x.m 0 1000000 && (cT x.h 0 (4000*x.m) && (cT x.s 0 (10000*x.m) && cT x.g 0 1000000000))
def jk(r:Rw)(x:yL):Int:=if x.h-x.m*r.l≤0 then 0 else if x.m*r.v≤x.h then x.m else(x.h-x.m*r.l) / (r.v-r.l)
theorem Tc{r:Rw}{x:yL}(hr:0≤r.l∧r.l<r.v∧r.v≤4000)(hm:0≤x.m∧x.m≤1000000)(hh:0≤x.h∧x.h≤4000000000):
  lim T (.call false ln [.agg r.enc,.agg x.enc] σ)=some (.val (.int .i64 (jk r x)) σ):=by
 refine aw Cw oF.eq_1 rfl ?_;have b1:=oV hm.1 hm.2 hr.1 (show r.l≤4000 by omega);have b2:=oV hm.1 hm.2 (show 0≤r.v by omega) hr.2.2;have w1:=fN (n:=x.m*r.l) (by omega);have w2:=fN (n:=x.h-x.m*r.l) (by omega);have w3:=fN (n:=x.m*r.v) (by omega);have w4:=fN (n:=r.v-r.l) (by omega);have hd:¬r.v-r.l=0:=by omega
 unfold jk;by_cases c1:x.h-x.m*r.l≤0
 ·simp[-length_flatMap,-map_take,w1,w2,w3,w4,c1]
 ·by_cases c2:x.m*r.v≤x.h
  ·simp[-length_flatMap,-map_take,w1,w2,w3,w4,c1,c2]
  ·have t1:=bx (b:=r.v-r.l) (show 0≤x.h-x.m*r.l by omega);have q1:=Int.ediv_nonneg (a:=x.h-x.m*r.l) (b:=r.v-r.l) (by omega) (by omega);have q2:=Int.ediv_le_self (b:=r.v-r.l) (show 0≤x.h-x.m*r.l by omega);have w5:=fN (n:=(x.h-x.m*r.l) / (r.v-r.l)) (by omega);simp[-length_flatMap,-map_take,w1,w2,w3,w4,c1,c2,hd,t1,w5]
theorem GS{x:yL}:lim T (.call false iw [.agg x.enc] σ)=some (.val (.bool x.valid) σ):=by
 refine aw Bg nI.eq_1 rfl ?_;unfold yL.valid;cases h1:cT x.m 0 1000000
 ·simp[-length_flatMap,-map_take,ko,h1]
 have hm:=bf.1 h1;have w1:=fN (n:=4000*x.m) (by omega);have w2:=fN (n:=10000*x.m) (by omega);cases h2:cT x.h 0 (4000*x.m)
 ·simp[-length_flatMap,-map_take,ko,h1,h2,w1,w2]
 cases h3:cT x.s 0 (10000*x.m)
 ·simp[-length_flatMap,-map_take,ko,h1,h2,h3,w1,w2]
 cases h4:cT x.g 0 1000000000<;>simp[-length_flatMap,-map_take,ko,h1,h2,h3,h4,w1,w2]
theorem atA{t:List Rw}{i:Nat}{r:Rw}(h:t[i]?=some r):lim T (.call false oS [.aH t.length (t.flatMap Rw.enc),.int .i64 i] σ)=some (.val (.agg r.enc) σ):=by
 refine aw EW sn.eq_1 rfl ?_;have h1:i<t.length:=(aB.1 h).1;have h2:=bW (f:=Rw.enc) (w:=5) (fun _=>rfl) h;simp[-length_flatMap,-map_take,h1,h2]
theorem ahU{t:List Rw}{n:Int}(hl:t.length≤1000000000):lim T (.call false nT [.aH t.length (t.flatMap Rw.enc),.int .i64 n] σ)=some (.val (.bool (cT n 0 ((t.length:Int)-1))) σ):=by
 refine aw DS rD.eq_1 rfl ?_;have w1:=fN (n:=(t.length:Int)-1) (by omega);simp[-length_flatMap,-map_take,ko,w1]
def wat(r:Rw)(x:yL):Int×Int:=if jk r x=0 then(x.m,x.h)else if jk r x=x.m then(0,0)else(x.m-jk r x,x.h-jk r x*r.v)
def asx(r:Rw)(x:yL):Int:=if jk r x=0 then 0 else if jk r x=x.m then x.h else jk r x*r.v
def awK(r:Rw)(x:yL):Int:=if jk r x=0 then x.g else 0
def asw(r:Rw)(x:yL):Int:=if jk r x=0 then 0 else x.g
def held(r:Rw)(x:yL):Int:=min x.s ((wat r x).1*r.s)
def parts(r:Rw)(x:yL):List D:=[.int .i64 (jk r x),.int .i64 (asx r x),.int .i64 0,.int .i64 (asw r x),.int .i64 (wat r x).1,.int .i64 (wat r x).2,.int .i64 (held r x),.int .i64 (awK r x),
 .int .i64 (if 0<(wat r x).1 then max 0 ((wat r x).2-(wat r x).1*r.l)else 0),.int .i64 (x.s-held r x)]
theorem aet{r:Rw}{x:yL}(hr:0≤r.l∧r.l<r.v∧r.v≤4000)(hm:0≤x.m):0≤jk r x∧jk r x≤x.m∧(jk r x≠0→jk r x≠x.m→0≤x.h-jk r x*r.v+x.m*r.v):=by
 have hmv:x.m*r.v=x.m*r.l+x.m*(r.v-r.l):=by rw[← Int.mul_add];congr 1;omega
 have hml:=fw hm hr.1;have key:¬x.h-x.m*r.l≤0→¬x.m*r.v≤x.h→0≤(x.h-x.m*r.l) / (r.v-r.l)∧(x.h-x.m*r.l) / (r.v-r.l)≤x.m:=fun h1 h2=>⟨Int.ediv_nonneg (by omega) (by omega),Int.ediv_le_of_le_mul (by omega) (by omega)⟩
 have h2:0≤jk r x∧jk r x≤x.m:=by
  unfold jk;by_cases c1:x.h-x.m*r.l≤0
  ·rw[if_pos c1];omega
  ·rw[if_neg c1];by_cases c2:x.m*r.v≤x.h
   ·rw[if_pos c2];omega
   ·rw[if_neg c2];exact key c1 c2
 refine⟨h2.1,h2.2,fun h3 _=>?_⟩;have h4:=fO h2.2 (show 0≤r.v by omega);have h5:¬x.h-x.m*r.l≤0:=by
  intro hh;exact h3 (by unfold jk;rw[if_pos hh])
 omega
theorem atx{r:Rw}{x:yL}(hr:0≤r.l∧r.l<r.v∧r.v≤4000)(hs:0≤r.s∧r.s≤2000)(hx:x.valid=true):
  lim T (.call false oT [.agg r.enc,.agg x.enc] σ)=some (.val (.agg (parts r x)) σ):=by
 refine aw EX so.eq_1 rfl ?_;simp only[yL.valid,af,bf]at hx;obtain⟨hm,hh,hsl,hg⟩:=hx;have hF:=fun σ=>Tc (σ:=σ) hr hm ⟨hh.1,by omega⟩
 obtain⟨f1,f2,f3⟩:=aet hr hm.1;have b1:=oV f1 (show jk r x≤1000000 by omega) (show 0≤r.v by omega) hr.2.2;have b2:=oV (show 0≤x.m-jk r x by omega) (show x.m-jk r x≤1000000 by omega) hs.1 hs.2;have b3:=oV (show 0≤x.m-jk r x by omega) (show x.m-jk r x≤1000000 by omega) hr.1 (show r.l≤4000 by omega);have b4:=oV hm.1 hm.2 hs.1 hs.2;have b5:=oV hm.1 hm.2 hr.1 (show r.l≤4000 by omega);simp only[Rw.enc,yL.enc]at hF;unfold parts held asx awK asw wat;generalize jk r x=m at *
 have w1:=fN (n:=m*r.v) (by omega);have w2:=fN (n:=x.m-m) (by omega);have w3:=fN (n:=x.h-m*r.v) (by omega);have w4:=fN (n:=(x.m-m)*r.s) (by omega);have w5:=fN (n:=(x.m-m)*r.l) (by omega);have w6:=fN (n:=x.h-m*r.v-(x.m-m)*r.l) (by omega);have w7:=fN (n:=x.m*r.s) (by omega);have w8:=fN (n:=x.m*r.l) (by omega);have w9:=fN (n:=x.h-x.m*r.l) (by omega);have v1:=fN (n:=x.s-min x.s (x.m*r.s)) (by omega);have v2:=fN (n:=x.s-min x.s ((x.m-m)*r.s)) (by omega);have v3:=fN (n:=x.s) (by omega);have v4:min x.s 0=0:=by omega
 by_cases c1:m=0
 ·subst c1;by_cases c2:0<x.m
  ·simp[-length_flatMap,-map_take,hF,w7,w8,w9,v1,c2]
  ·simp[-length_flatMap,-map_take,hF,w7,w8,w9,v1,c2]
 ·by_cases c2:m=x.m
  ·subst c2;simp[-length_flatMap,-map_take,hF,c1,v3,v4]
  ·have c3:0<x.m-m:=by omega
   have c4:m<x.m:=by omega
   simp[-length_flatMap,-map_take,hF,c1,c2,c3,c4,w1,w2,w3,w4,w5,w6,v2]
theorem arY{t:List Rw}(ht:kS t=true){i:Nat}{r:Rw}(h:t[i]?=some r):(0≤r.l∧r.l<r.v∧r.v≤4000)∧(0≤r.s∧r.s≤2000):=by
 simp only[kS,af]at ht;have:=j7.1 ht.2.1 r (aj h);simp only[Rw.alone,af,bf,au]at this;obtain⟨_,_,h3,h4,h5,h6⟩:=this;exact⟨⟨h3.1,h5,h6⟩,h4⟩
theorem afS{t:List Rw}(ht:kS t=true){i:Nat}{r:Rw}(hi:t[i]?=some r){x:yL}(hx:x.valid=true):
  lim T (.call false qX [.aH t.length (t.flatMap Rw.enc),.int .i64 i,.agg x.enc] σ)=some (.val (.dV [.agg (parts r x),.int .i64 0]) σ):=by
 refine aw CG sU.eq_1 rfl ?_;have hl:t.length≤20:=by
  simp only[kS,af]at ht;have:=bf.1 ht.1;omega
 have hil:i<t.length:=(aB.1 hi).1;have h1:=fun σ=>CP (σ:=σ) (t:=t) (by omega)
 have h2:=fun σ=>ahU (σ:=σ) (t:=t) (n:=i) (by omega)
 have h3:=fun σ=>GS (σ:=σ) (x:=x)
 have h4:=fun σ=>atA (σ:=σ) hi
 obtain⟨r1,r2⟩:=arY ht hi;have h5:=fun σ=>atx (σ:=σ) r1 r2 hx
 have hin:cT i 0 ((t.length:Int)-1)=true:=bf.2 (by omega);rw[hin]at h2;rw[hx]at h3;rw[ht]at h1;simp only[yL.enc,Rw.enc]at h3 h4 h5;have hp:(parts r x).length=10:=rfl;have hp2:(parts r x).take 10=parts r x:=rfl;have hpc:D.bJ (parts r x)=true:=by simp[parts]
 generalize parts r x=P at *
 simp[-length_flatMap,-map_take,h1,h2,h3,h4,h5,hp,hp2];rw[qQ (by simp[D.clean,hpc]) (by omega)];exact⟨_,rfl⟩
structure Yv(b:cz)(y:List Rock.aE):Prop where
 len:y.length=b.an.length
 ok:∀o∈y,(0≤o.m∧o.m≤1000000)∧(0≤o.h∧o.h≤10000000000)∧(0≤o.k∧o.k≤1000000000000)
theorem Yv.of{b:cz}{s:List Rock.aE}{aQ:List Int}(h:Bv b)(hs:Sv b s)(hr:Rv b aQ):Yv b (eI b s aQ):=by
 refine⟨by simp[eI,hr.len],?_⟩;intro o ho;simp only[eI,bR]at ho;obtain⟨⟨w,r⟩,hm,rfl⟩:=ho;have hw:=Ia h w (List.of_mem_zip hm).1;have hb:=hr.ok r (List.of_mem_zip hm).2;simp only[su];split
 ·simp
 ·obtain⟨_,h1,h2,h3⟩:=hs.at (i:=w.b.toNat) (by omega);generalize bP s w.b.toNat=x at *
  have h8:x.m.tdiv 8=x.m / 8:=bx (by omega);have hq:0≤min r (x.m.tdiv 8)∧min r (x.m.tdiv 8)≤x.m:=by omega
  exact⟨⟨hq.1,by simp only[Rock.aE.out];omega⟩,Js h1.1 h2 hq,Js h1.1 h3 hq⟩
theorem afC{b:cz}{m:cU}{s:List Rock.aE}{aQ:List Int}{s' y:List Rock.aE}(h:Bv b)(hs:Sv b s)(hr:Rv b aQ)(ht:tick b m s aQ=some (s',y)):Sv b s'∧Yv b y:=by
 refine⟨Sv.next h ht,?_⟩;unfold tick at ht;split at ht
 ·simp only[ae,ak]at ht;rw[← ht.2];exact Yv.of h hs hr
 ·cases ht
structure La(b:cz)(n:Nat)(ss ys:List (List Rock.aE)):Prop where
 sl:ss.length=n+1
 yl:ys.length=n
 sv:∀s∈ss,Sv b s
 yv:∀y∈ys,Yv b y
theorem La.from{b:cz}{m:cU}(h:Fv b m):∀(az:List (List Int)) (n:Nat) (ss ys:List (List Rock.aE)) (s:List Rock.aE) {ss' ys':List (List Rock.aE)},(∀r∈az,Rv b r)→La b n ss ys→Sv b s→vE b m ss ys s az=some (ss',ys')→La b (n+az.length) ss' ys'
 |[],n,ss,ys,s,ss',ys',hr,h1,h2,he=>by
  simp only[vE,ae,ak]at he;obtain⟨rfl,rfl⟩:=he;exact h1
 |r::az,n,ss,ys,s,ss',ys',hr,h1,h2,he=>by
  simp only[vE]at he;split at he
  ·rename_i s' y ht;obtain⟨g1,g2⟩:=afC h.bv h2 (hr r (List.mem_cons_self ..)) ht;have:=La.from h az (n+1) _ _ _ (fun x hx=>hr x (List.mem_cons_of_mem _ hx)) (⟨by simp[h1.sl],by simp[h1.yl],by
    intro x hx;rcases ba.1 hx with hx | hx
    ·exact h1.sv x hx
    ·rw[List.mem_singleton.1 hx];exact g1,by
    intro x hx;rcases ba.1 hx with hx | hx
    ·exact h1.yv x hx
    ·rw[List.mem_singleton.1 hx];exact g2⟩:La b (n+1) (ss++[s']) (ys++[y])) g1 he
   rw[show n+(r::az).length=n+1+az.length by simp;omega];exact this
  ·cases he
theorem La.of{b:cz}{m:cU}{az:List (List Int)}{ss ys:List (List Rock.aE)}(h:Fv b m)(hr:∀r∈az,Rv b r)(he:Rock.run b m az=some (ss,ys)):La b az.length ss ys:=by
 have:=La.from h az 0 _ _ _ hr (⟨rfl,rfl,by simpa using Sv.first h,by simp⟩:La b 0 [ea b m] []) (Sv.first h) he;simpa using this
theorem QS{l:List cU}{j:Nat}{m:cU}(h:l[j]?=some m):((l.flatMap cU.enc).drop (j*2)).take 2=[.str m.name,.aH m.bq.length (m.bq.flatMap aY)] :=
 bW (f:=cU.enc) (w:=2) (fun _=>rfl) h
def aeo(b:cz)(m:cU)(i:Nat):Bool:=cT (vn b m 0 i) 1000 100000 && (cT (vn b m 1 i) 0 1000 && (cT (vn b m 2 i) 0 3000 && cT (vn b m 3 i) 0 1000))
def LJ(b:cz)(m:cU)(i:Nat):Nat→Bool
 |0=>true
 |k+1=>aeo b m i && LJ b m (i+1) k
theorem Ja{b:cz}{m:cU}:∀{k i:Nat},LJ b m i k=true↔∀j,i≤j→j<i+k→aeo b m j=true
 |0,i=>by simp[LJ];omega
 |k+1,i=>by
  rw[LJ,af,Ja];constructor
  ·intro⟨h1,h2⟩ j h3 h4;by_cases hj:j=i
   ·subst hj;exact h1
   ·exact h2 j (by omega) (by omega)
  ·intro h;exact⟨h i (by omega) (by omega),fun j h3 h4=>h j (by omega) (by omega)⟩
theorem Nz{b:cz}{m:cU}(h:Bv b):ig b.f [m]=0↔b.f.model m=0:=by
 simp only[ig,h.fv,if_true,gb.ar,gb.each];have h1:cT (([m]:List cU).length:Nat) 1 40=true:=by simp[cT]
 rw[if_pos h1];by_cases hc:b.f.model m=0
 ·simp[hc]
 ·simp[hc]
theorem Qy{b:cz}{m:cU}(h:Bv b):fits b m=(decide (b.f.model m=0) && LJ b m 0 b.n):=by
 by_cases hc:b.f.model m=0
 ·have hm:=Mv.of h ((Nz h).2 hc);have hcm:=(Nz h).2 hc;have key:∀{k:Nat} {lo hi:Int},k<4→(ie (vW b m k) (fun n=>cT n lo hi)=true↔∀i,i<b.n→cT (vn b m k i) lo hi=true):=by
   intro k lo hi hk;rw[j7];constructor
   ·intro ha i hi';exact ha _ (aj (xA hm hk hi'))
   ·intro ha x hx;obtain⟨i,hi'⟩:=ia hx;have hlt:i<b.n:=by have:=(aB.1 hi').1;rwa[Jk hm hk]at this
    rw[xA hm hk hlt]at hi';cases hi';exact ha i hlt
  rw[Bool.eq_iff_iff];simp only[fits,hcm,hc,decide_true,Bool.true_and,af,Ja,aeo];rw[key (by decide),key (by decide),key (by decide),key (by decide)];constructor
  ·intro⟨h1,h2,h3,h4⟩ j _ hj;exact⟨h1 j (by omega),h2 j (by omega),h3 j (by omega),h4 j (by omega)⟩
  ·intro hh;exact⟨fun i hi=>(hh i (by omega) (by omega)).1,fun i hi=>(hh i (by omega) (by omega)).2.1,fun i hi=>(hh i (by omega) (by omega)).2.2.1,fun i hi=>(hh i (by omega) (by omega)).2.2.2⟩
 ·have hcm:¬ig b.f [m]=0:=fun hh=>hc ((Nz h).1 hh)
  simp[fits,hc,hcm]
def aeT(b:cz)(l:List cU):Int:=if cT l.length 1 40 then(if b.f.ar l=0 then(if ie l (fits b)then 0 else 1)else 1)else 3
def amX(b:cz)(l:List cU)(az:List (List Int)):Bool:=b.valid && (decide (l.length≤4) && (decide (aeT b l=0) && (decide (az.length≤6) && decide (wI b az=0))))
theorem afj(l:List Rw):(l.flatMap Rw.enc).length=l.length*5:=bX (f:=Rw.enc) (w:=5) (fun _=>rfl) l
theorem Ho(l:List bI):(l.flatMap bI.enc).length=l.length*3:=bX (f:=bI.enc) (w:=3) (fun _=>rfl) l
theorem NA(l:List cU):D.bJ (l.flatMap cU.enc)=true:=iU (fun x=>by simp[D.clean,bw]) l
structure Ok(b:cz)(l:List cU)(az:List (List Int)):Prop where
 bv:Bv b
 valid:b.valid=true
 len:1≤l.length∧l.length≤40
 ar:b.f.ar l=0
 fit:∀m∈l,fits b m=true
 fv:∀m∈l,Fv b m
 short:∀m∈l,m.name.length≤1000000000∧m.bq.length≤384
 pl:wI b az=0
 SD:az.length≤200
 aQ:∀r∈az,Rv b r
theorem art{b:cz}{m:cU}(h:Bv b)(hf:fits b m=true):m.name.length≤16:=by
 rw[Qy h,af,au]at hf;have hm:=hf.1;unfold gb.model at hm;split at hm
 ·rename_i hn;simp only[named,af]at hn;have:=bf.1 hn.2;omega
 ·cases hm
theorem Ok.of{b:cz}{l:List cU}{az:List (List Int)}(h:amX b l az=true):Ok b l az:=by
 simp only[amX,af,au]at h;obtain⟨h1,h2,h3,h4,h5⟩:=h;have hb:=Bv.of h1;unfold aeT at h3;split at h3
 ·rename_i hi;split at h3
  ·rename_i hm;split at h3
   ·rename_i hf;have hfit:∀m∈l,fits b m=true:=j7.1 hf;have hfv:∀m∈l,Fv b m:=fun m hm=>Fv.of (by simp[Bd,h1,hfit m hm])
    exact⟨hb,h1,⟨by have:=bf.1 hi;omega,by omega⟩,hm,hfit,hfv,fun m hm=>⟨by have:=art hb (hfit m hm);omega,(hfv m hm).toMv.le.2⟩,h5,by omega,(Am h5).2⟩
   ·cases h3
  ·cases h3
 ·cases h3
theorem Ok.check{b:cz}{l:List cU}{az:List (List Int)}(h:Ok b l az):ig b.f l=0:=by
 simp[ig,h.bv.fv,h.ar]
theorem Tq{b:cz}{m:cU}(h:Bv b)(hn:m.name.length≤1000000000)(hl:m.bq.length≤1000000000):lim T (.call false oP [.agg [.str m.name,.aH m.bq.length (m.bq.flatMap aY)],.bB [.int .i64 b.f.x,.int .i64 b.f.y,.int .i64 b.f.z,.int .i64 b.f.k,.aH b.ct.length (b.ct.flatMap Rw.enc),.int .i64 b.bK,.int .i64 b.lift,.int .i64 b.deep,.aH b.an.length (b.an.flatMap bI.enc)]] σ)=some (.val (.bool (fits b m)) σ):=by
 refine aw G9 ux.eq_1 rfl ?_;have hC:=fun σ=>Nb (σ:=σ) (m:=m) h hn hl
 simp[-length_flatMap,-map_take,hC,cM,bu,bw]
theorem Nj{b:cz}{l:List cU}(h:Bv b)(hs:∀m∈l,m.name.length≤1000000000∧m.bq.length≤1000000000)(hl:l.length≤1000000000):
  lim T (.call false iP [.aH l.length (l.flatMap cU.enc),.fn oP [] [.bB [.int .i64 b.f.x,.int .i64 b.f.y,.int .i64 b.f.z,.int .i64 b.f.k,.aH b.ct.length (b.ct.flatMap Rw.enc),.int .i64 b.bK,.int .i64 b.lift,.int .i64 b.deep,.aH b.an.length (b.an.flatMap bI.enc)]]] σ)=some (.val (.bool (ie l (fits b))) σ) :=
 zV (xo 2 cU.enc (fun _=>rfl)) (f:=iP) (g:=j5) (h:=eK) (i:=fX) (l:=l) (p:=fits b) rfl rfl rfl rfl (by omega) (rj.fn fun x hx σ=>Tq h (hs x hx).1 (hs x hx).2) rfl
theorem age{b:cz}{l:List cU}{az:List (List Int)}(h:Ok b l az):
  lim T (.call false uE [.agg [.int .i64 b.f.x,.int .i64 b.f.y,.int .i64 b.f.z,.int .i64 b.f.k,.aH b.ct.length (b.ct.flatMap Rw.enc),.int .i64 b.bK,.int .i64 b.lift,.int .i64 b.deep,.aH b.an.length (b.an.flatMap bI.enc)],.aH l.length (l.flatMap cU.enc),.aH az.length (az.flatMap Gr)] σ)=some (.val (.int .i64 0) σ):=by
 refine aw JR wT.eq_1 rfl ?_;have hs:∀m∈l,m.name.length≤1000000000∧m.bq.length≤1000000000:=fun m hm=>⟨(h.short m hm).1,by have:=(h.short m hm).2;omega⟩
 have hl:=h.len;have htab:=h.bv.ct;have ht:b.ct.length≤1000000000:=by
  simp only[kS,af]at htab;have:=bf.1 htab.1;omega
 have h1:=fun σ=>A5 (σ:=σ) (b:=b) ht (by have:=h.bv.an;omega)
 have h2:=fun σ=>CD (σ:=σ) (f:=b.f) (l:=l) hs (by omega)
 have h3:=fun σ=>Nj (σ:=σ) (l:=l) h.bv hs (by omega)
 have h4:=fun σ=>To (σ:=σ) (b:=b) (az:=az) (by have:=h.SD;omega) (fun r hr=>by have:=(h.aQ r hr).len;have:=h.bv.an;omega)
 have hi:cT l.length 1 40=true:=bf.2 (by omega);have ha:ie l (fits b)=true:=j7.2 h.fit;rw[h.valid]at h1;rw[h.check]at h2;rw[ha]at h3;rw[h.pl]at h4;simp[-length_flatMap,-map_take,h1,h2,h3,h4,dO,hi,cM,bu,bw]
abbrev RunT:=List (List Rock.aE)×List (List Rock.aE)
def Dz(r:RunT):List D:=[.aH r.1.length (r.1.flatMap yB),.aH r.2.length (r.2.flatMap yB)]
theorem afi(l:List RunT):(l.flatMap Dz).length=l.length*2:=bX (f:=Dz) (w:=2) (fun _=>rfl) l
def xN(b:cz)(az:List (List Int)):List cU→Option (List RunT)
 |[]=>some []
 |m::l=>match Rock.run b m az with
  |some r=>(xN b az l).map (r :: ·)
  |none=>none
def MA(n:Nat)(acc:List RunT)(σ:SK)(r:Option (List RunT))(x:Abs.Exit)(e:Env)(σ':SK):Prop:=match r with
 |some rs=>x=.exit 0∧get e 6=.sl σ.length 0 n 0 n 2∧σ'=[.cells n ((acc++rs).flatMap Dz)]::σ
 |none=>x=.gf (.uH 262 (.agg []))∧∃bj,σ'=bj::σ
theorem Nr{b:cz}{l:List cU}{az:List (List Int)}(h:Ok b l az):∀(k i:Nat) (acc:List RunT),i+k=l.length→acc.length=i →
  WL T [2,3,6,9,10,11] false uy [(2,.aH az.length (az.flatMap Gr)),(3,.bB [.int .i64 b.f.x,.int .i64 b.f.y,.int .i64 b.f.z,.int .i64 b.f.k,.aH b.ct.length (b.ct.flatMap Rw.enc),.int .i64 b.bK,.int .i64 b.lift,.int .i64 b.deep,.aH b.an.length (b.an.flatMap bI.enc)]),(6,.sl σ.length 0 i 0 i 2),(9,.aH l.length (l.flatMap cU.enc)),(10,.int .i64 l.length),(11,.int .i64 i)] ([.cells i (acc.flatMap Dz)]::σ)
   (MA l.length acc σ (xN b az (l.drop i)))
 |0,i,acc,hi,ha=>by
  refine aM uy.eq_1 ?_;obtain rfl:i=l.length:=by omega
  have h2:l.drop l.length=[]:=aA (by omega);simp[-length_flatMap,-map_take,h2,xN,MA]
 |k+1,i,acc,hi,ha=>by
  refine aM uy.eq_1 ?_;have h1:i<l.length:=by omega
  obtain⟨m,hm⟩:=gE h1;have hlen:=h.len;have h2:=QS hm;have h4:=gN h1 (by omega);have h5:=cq hm;have hmem:=aj hm;have a4:=afi acc;rw[ha]at a4;have a6:(acc.flatMap Dz).take (i*2)=acc.flatMap Dz:=ai (by omega);have h7:(i+1)*48≤room:=by unfold room;omega
  have hp:az.length≤200:=by have:=h.SD;omega
  rw[h5,xN];cases hr:Rock.run b m az with
  |none =>
   have hC:=fun σ=>OB (σ:=σ) (h.fv m hmem) hp h.aQ hr
   simp[-length_flatMap,-map_take,h1,h2,h4,hC,MA,cM,bu,bw]
  |some r =>
   obtain⟨ss,ys⟩:=r;have hC:=fun σ hσ=>OC (σ:=σ) (h.fv m hmem) hp h.aQ hσ hr
   have ih:=Nr h k (i+1) (acc++[(ss,ys)]) (by omega) (by simp[ha]);simp[-length_flatMap,-map_take,h1,h2,h4,hC,a4,a6,h7,cM,bu,bw,D.clean,I2];refine WL.to ih (by simp) (by simp[Dz]) fun x e σ' hh=>?_
   cases hq:xN b az (l.drop (i+1))with
   |none=>rw[hq]at hh;simpa[MA]using hh
   |some rs=>rw[hq]at hh;simpa[MA]using hh
theorem Tw{b:cz}{l:List cU}{az:List (List Int)}(h:Ok b l az)(hσ:σ≠[]){rs:List RunT}(hr:xN b az l=some rs)(hl:rs.length=l.length):
  lim T (.call false tR [.agg [.int .i64 b.f.x,.int .i64 b.f.y,.int .i64 b.f.z,.int .i64 b.f.k,.aH b.ct.length (b.ct.flatMap Rw.enc),.int .i64 b.bK,.int .i64 b.lift,.int .i64 b.deep,.aH b.an.length (b.an.flatMap bI.enc)],.aH l.length (l.flatMap cU.enc),.aH az.length (az.flatMap Gr)] σ)=some (.val (.aH rs.length (rs.flatMap Dz)) σ):=by
 refine aw FN vO.eq_1 rfl ?_;simp[-length_flatMap,-map_take,cM,bu,bw];refine WL.to (Nr (σ:=σ) h l.length 0 [] (by omega) rfl) (by simp) (by simp) ?_;rw[aO,hr];rintro x e σ' ⟨rfl,g6,rfl⟩;simp[-length_flatMap,-map_take,g6];rw[← hl,wG (f:=Dz) (by decide) (fun _=>rfl) (fun x=>by simp[Dz,D.clean,I2]) hσ (by simp)];simp
theorem Tv{b:cz}{l:List cU}{az:List (List Int)}(h:Ok b l az)(hr:xN b az l=none):
  lim T (.call false tR [.agg [.int .i64 b.f.x,.int .i64 b.f.y,.int .i64 b.f.z,.int .i64 b.f.k,.aH b.ct.length (b.ct.flatMap Rw.enc),.int .i64 b.bK,.int .i64 b.lift,.int .i64 b.deep,.aH b.an.length (b.an.flatMap bI.enc)],.aH l.length (l.flatMap cU.enc),.aH az.length (az.flatMap Gr)] σ)=some (.gf (.uH 262 (.agg [])) σ):=by
 refine ep FN vO.eq_1 rfl ?_;simp[-length_flatMap,-map_take,cM,bu,bw];refine WL.to (Nr (σ:=σ) h l.length 0 [] (by omega) rfl) (by simp) (by simp) ?_;rw[aO,hr];rintro x e σ' ⟨rfl,bj,rfl⟩;simp[D.clean]
theorem Jw{b:cz}{az:List (List Int)}:∀{l:List cU} {rs:List RunT},xN b az l=some rs→rs.length=l.length∧∀(i:Nat) m,l[i]?=some m→∃r,rs[i]?=some r∧Rock.run b m az=some r
 |[],rs,h=>by simp only[xN,ae]at h;subst h;simp
 |m::l,rs,h=>by
  simp only[xN]at h;cases hr:Rock.run b m az with
  |none=>rw[hr]at h;cases h
  |some r =>
   rw[hr]at h;simp only[ad]at h;obtain⟨rs',h1,rfl⟩:=h;obtain⟨g1,g2⟩:=Jw h1;refine⟨by simp[g1],?_⟩;intro i m' hm';cases i with
   |zero=>simp only[cA,ae]at hm';subst hm';exact⟨r,rfl,hr⟩
   |succ i=>simpa using g2 i m' (by simpa using hm')
theorem agn{x:Rock.aE}:lim T (.call false kK [.agg x.enc] σ)=some (.val (.int .i64 x.m) σ):=by
 refine aw DP rz.eq_1 rfl ?_;simp[-length_flatMap,-map_take]
theorem TE{x:Rock.aE}:lim T (.call false jN [.agg x.enc] σ)=some (.val (.int .i64 x.k) σ):=by
 refine aw C5 pA.eq_1 rfl ?_;simp[-length_flatMap,-map_take]
def rowAt(l:List (List Rock.aE))(t:Nat):List Rock.aE:=(l[t]?).getD []
structure Rs(b:cz)(l:List cU)(n:Nat)(rs:List RunT):Prop where
 len:rs.length=l.length
 ne:1≤l.length∧l.length≤40
 n6:n≤200
 an:b.an.length≤8
 bn:1≤b.n∧b.n≤64
 all:∀r∈rs,La b n r.1 r.2
 fv:∀m∈l,Fv b m
theorem afd{b:cz}{n:Nat}{r:RunT}(h:La b n r.1 r.2){t:Nat}(ht:t<n):r.2[t]?=some (rowAt r.2 t)∧Yv b (rowAt r.2 t):=by
 have h1:t<r.2.length:=by rw[h.yl];exact ht
 have h2:r.2[t]?=some r.2[t]:=aN h1;have h3:rowAt r.2 t=r.2[t]:=by simp[rowAt,h2]
 rw[h3];exact⟨h2,h.yv _ (List.getElem_mem h1)⟩
theorem amS{b:cz}{n:Nat}{r:RunT}(h:La b n r.1 r.2){t:Nat}(ht:t≤n):r.1[t]?=some (rowAt r.1 t)∧Sv b (rowAt r.1 t):=by
 have h1:t<r.1.length:=by rw[h.sl];omega
 have h2:r.1[t]?=some r.1[t]:=aN h1;have h3:rowAt r.1 t=r.1[t]:=by simp[rowAt,h2]
 rw[h3];exact⟨h2,h.sv _ (List.getElem_mem h1)⟩
theorem am5{b:cz}{y:List Rock.aE}(h:Yv b y){w:Nat}(hw:w<b.an.length):y[w]?=some (bP y w):=by
 have h1:w<y.length:=by rw[h.len];exact hw
 simp[bP,aN h1]
theorem afs{l:List (List Rock.aE)}{t:Nat}{s:List Rock.aE}(h:l[t]?=some s):((l.flatMap yB).drop t).take 1=[.aH s.length (s.flatMap aE.enc)]:=by
 have:=bW (f:=yB) (w:=1) (fun _=>rfl) h;simpa[yB]using this
theorem ahu{l:List RunT}{j:Nat}{r:RunT}(h:l[j]?=some r):((l.flatMap Dz).drop (j*2)).take 2=[.aH r.1.length (r.1.flatMap yB),.aH r.2.length (r.2.flatMap yB)] :=
 bW (f:=Dz) (w:=2) (fun _=>rfl) h
end
end Go.Proofs.YtfgljaglidhjiaaGreatDoor
namespace Go.Rock
open List(length_flatMap map_take)
open Go Go.Abs
def three:List Rw:=[⟨100,101,419,2676,150⟩,⟨150,476,632,2746,300⟩,⟨200,1555,852,2793,600⟩]
end Go.Rock
namespace Go.Proofs.YtfgljaglidhjiaaGreatDoor
open List(length_flatMap map_take)
open Go Go.Abs Go.Rock
variable {σ:SK}
theorem Rs.of{b:cz}{l:List cU}{az:List (List Int)}(h:Ok b l az){rs:List RunT}(hr:xN b az l=some rs):Rs b l az.length rs:=by
 obtain⟨h1,h2⟩:=Jw hr;refine⟨h1,h.len,h.SD,h.bv.an,h.bv.n,?_,h.fv⟩;intro r hmem;obtain⟨i,hi⟩:=ia hmem;have hlt:i<l.length:=by rw[← h1];exact(aB.1 hi).1
 obtain⟨m,hm⟩:=gE hlt;obtain⟨r',h3,h4⟩:=h2 i m hm;rw[hi]at h3;cases h3;exact La.of (h.fv m (aj hm)) h.aQ h4
theorem LQ{l u n w:Nat}{k:Int}{S S':SK}{cs:List D}{i:Nat}(h:cJ l 15 (.sl u i n 0 n w) S=(.aH n cs,S')):cJ l 16 (.dV [.sl u i n 0 n w,.int .i64 k]) S=(.dV [.aH n cs,.int .i64 k],S'):=by
 rw[Ea (by rfl) (by omega)];simp only[BZ,D7];rw[h,qQ (by rfl) (by omega)]
end Go.Proofs.YtfgljaglidhjiaaGreatDoor
namespace Go.Proofs.YtfgljaglidhjiaaGreatDoor
open List(length_flatMap map_take)
open Go Go.Abs Go.Book
variable {σ:SK}
theorem J1(l:List UInt8):l.flatMap bE=l.map fun b=>D.int .u8 b.toNat:=by
 induction l with
 |nil=>rfl
 |cons b l ih=>simp only[aS,aL,ih];rfl
theorem OW(l:List UInt8)(k:Nat):(l.flatMap bE).drop k=(l.drop k).flatMap bE:=by rw[J1,J1,List.map_drop]
theorem J2(l:List UInt8)(k:Nat):(l.flatMap bE).take k=(l.take k).flatMap bE:=by rw[J1,J1,List.map_take]
theorem Hl:∀l:List UInt8,zX (l.flatMap bE)=some l
 |[]=>rfl
 |b::l=>by
  simp only[aS,bE,cG,zX,Hl l,aR,ae,gO,and_true];simp
theorem OF{a b:List UInt8}(hab:a.length=b.length)(hl:a.length≤1000000):∀(m i:Nat),i+m=a.length →
  WL T [0,1,12,13] false lL [(0,.aH a.length (a.flatMap bE)),(1,.aH b.length (b.flatMap bE)),(12,.int .i64 a.length),(13,.int .i64 i)] σ
   (fun x e σ'=>σ'=σ∧if a.drop i=b.drop i then x=.exit 0 else x=.ret∧get e 4=.bool false)
 |0,i,hi=>by
  refine aM lL.eq_1 ?_;have h1:¬i<a.length:=by omega
  have h2:a.drop i=[]:=aA (by omega);have h3:b.drop i=[]:=aA (by omega);simp[-length_flatMap,-map_take,h1,h2,h3]
 |m+1,i,hi=>by
  refine aM lL.eq_1 ?_;have h1:i<a.length:=by omega
  have h1':i<b.length:=by omega
  obtain⟨x,hx⟩:=gE h1;obtain⟨y,hy⟩:=gE h1';have a1:=Lj hx;have a2:=Lj hy;have h4:=gN h1 (by omega);rw[cq hx,cq hy];by_cases hc:x=y
  ·subst hc;simp[-length_flatMap,-map_take,h1,h1',a1,a2,h4];exact WL.to (OF hab hl m (i+1) (by omega)) (by simp) rfl fun x e σ' hh=>by simpa using hh
  ·have hc':((x.toNat:Int) != y.toNat)=true:=by
    simp only[bne_iff_ne,ne_eq];intro h;exact hc (UInt8.toNat_inj.1 (by omega))
   simp[-length_flatMap,-map_take,h1,h1',a1,a2,hc,hc']
theorem afY{a b:List UInt8}(hl:a.length≤1000000):lim T (.call false lk [.aH a.length (a.flatMap bE),.aH b.length (b.flatMap bE)] σ)=some (.val (.bool (a == b)) σ):=by
 refine aw Ct oA.eq_1 rfl ?_;by_cases h:a.length=b.length
 ·have h':(a.length:Int)=b.length:=by omega
  simp[-length_flatMap,-map_take,h];refine WL.to (OF (σ:=[]::σ) h hl a.length 0 (by omega)) (by simp[h]) rfl ?_;rintro x e σ' ⟨rfl,hh⟩;simp only[aO]at hh;by_cases he:a=b
  ·rw[if_pos he]at hh;subst hh;simp[-length_flatMap,-map_take,he]
  ·rw[if_neg he]at hh;obtain⟨rfl,g4⟩:=hh;have he':(a == b)=false:=by simpa using he
   simp[g4,he']
 ·have h1:((a.length:Int) != b.length)=true:=by simp;omega
  have he:(a == b)=false:=by simp;intro hh;exact h (by rw[hh])
  simp[-length_flatMap,-map_take,h1,he]
theorem IS{b:List UInt8}:lim T (.call false kI [.aH b.length (b.flatMap bE)] σ)=some (.val (.fn eQ [] [.bB [.aH b.length (b.flatMap bE)]]) σ):=by
 refine aw xX nz.eq_1 rfl ?_;simp[-length_flatMap,-map_take,I1]
theorem ae7{x y:Nat}(hx:x<256)(hy:y<256):IntKind.i64.wrap (((((x:Int)*256)%2^IntKind.i64.bits).toNat ||| y%2^IntKind.i64.bits:Nat):Int)=((x*256+y:Nat):Int):=by
 have h1:(((x:Int)*256)%2^IntKind.i64.bits).toNat=x*256:=by
  rw[show(2:Int)^IntKind.i64.bits=18446744073709551616 from by decide];omega
 have h2:y%2^IntKind.i64.bits=y:=by
  rw[show 2^IntKind.i64.bits=18446744073709551616 from by decide];omega
 have h3:x*256 ||| y=x*256+y:=by
  have:=Nat.two_pow_add_eq_or_of_lt (i:=8) (b:=y) hy x;rw[show x*256=2^8*x by omega,← this]
 rw[h1,h2,h3];exact fN (by omega)
def Ib(L:Nat)(p:Bool):we:={state:=if p then 2 else 0,wv:=if p then some (.exit 0)else none,env:=[(2,.ref L 1 0 0),(3,.ref L 2 0 0)],params:=[8,9],zd:=ij,body:=iq }
def DB(σ:SK)(ls:List (List UInt8))(w:Int)(p:Bool):SK :=
 [.cells ls.length (ls.flatMap cc),.cells 0 [.sl σ.length 0 ls.length 0 ls.length 1],.cells 0 [.int .i64 w],.loop (Ib σ.length p)]::σ
theorem atF{ls:List (List UInt8)}{w k:Int}{s:List UInt8}(hl:ls.length<100):
  lim T (.round σ.length 3 [.int .i64 k,.str s] ([]::DB σ ls w false))=some (.val (.bool true) ([]::DB σ (ls++[s]) k false)):=by
 refine Es (lp:=Ib σ.length false) (by simp[DB]) rfl ?_;rw[show(Ib σ.length false).zd=ij from rfl,ij.eq_1,show(Ib σ.length false).body=iq from rfl];have h1:((ls.length:Int) == 100)=false:=by simp;omega
 have hr:(ls.length+1)*16≤room:=by unfold room;omega
 have hsl:(ls.flatMap cc).length=ls.length:=by have:=bX (f:=cc) (w:=1) (fun _=>rfl) ls;omega
 have tk:(ls.flatMap cc).take ls.length=ls.flatMap cc:=ai (by omega);simp[-length_flatMap,-map_take,xk iq.eq_1,Ib,DB,Mj,h1,hr,hsl,tk,cc]
theorem agu{ls:List (List UInt8)}{w k:Int}{s:List UInt8}(hl:ls.length=100):
  lim T (.round σ.length 3 [.int .i64 k,.str s] ([]::DB σ ls w false))=some (.val (.bool false) ([]::DB σ ls w true)):=by
 refine Es (lp:=Ib σ.length false) (by simp[DB]) rfl ?_;rw[show(Ib σ.length false).zd=ij from rfl,ij.eq_1,show(Ib σ.length false).body=iq from rfl];simp[-length_flatMap,-map_take,xk iq.eq_1,Ib,DB,Mj,hl]
theorem MK{t:List UInt8}(h:t.length<6):wJ t=none:=by
 unfold wJ;split
 ·rw[if_neg (by omega)]
 ·rfl
theorem BI{n:Nat}{t:List UInt8}(h:wJ t=none):eH n t=[]:=by
 cases n with
 |zero=>rfl
 |succ n=>simp[eH,h]
def N7(σ:SK)(ls more:List (List UInt8))(k:Nat)(x:Abs.Exit)(σ':SK):Prop :=
 (x=.exit 0∨x=.ret)∧∃p,σ'=[]::DB σ (ls++more) (k+(du more).length:Nat) p
set_option maxHeartbeats 2000000 in
theorem anC{b:List UInt8}(hb:b.length≤1000000):∀(m k:Nat) (ls:List (List UInt8)),(b.drop k).length≤m→k≤b.length→ls.length≤100 →
  WL T [0,1,3] false fU [(0,.l7 σ.length 3),(1,.bB [.aH b.length (b.flatMap bE)]),(3,.int .i64 k)] ([]::DB σ ls k false)
   (fun x e σ'=>N7 σ ls (eH (100-ls.length) (b.drop k)) k x σ'):=by
 intro m;induction m with
 |zero =>
  intro k ls hm hk hl;refine aM fU.eq_1 ?_;have h1:(b.length:Int)-k<6:=by simp at hm;omega
  have w1:IntKind.i64.wrap ((b.length:Int)-k)=b.length-k:=fN (by omega);have h1':¬(6:Int)≤(b.length:Int)-k:=by omega
  have hs:=BI (n:=100-ls.length) (MK (t:=b.drop k) (by omega));rw[hs];simp[-length_flatMap,-map_take,w1,h1',N7,du]
 |succ m ih =>
  intro k ls hm hk hl;refine aM fU.eq_1 ?_;have w1:IntKind.i64.wrap ((b.length:Int)-k)=b.length-k:=fN (by omega);by_cases c1:6≤b.length-k
  ·have h1:(6:Int)≤(b.length:Int)-k:=by omega
   have hk0:k<b.length:=by omega
   have hk1:k+1<b.length:=by omega
   obtain⟨x,hx⟩:=gE hk0;obtain⟨y,hy⟩:∃y,b[k+1]?=some y:=⟨_,aN hk1⟩;have a1:=Lj hx;have a2:=Lj hy;have hdr:b.drop k=x::y::b.drop (k+2):=by rw[cq hx,cq hy]
   have v1:IntKind.i64.wrap (x.toNat:Int)=x.toNat:=fN (by have:=FP x;omega);have v2:IntKind.i64.wrap (y.toNat:Int)=y.toNat:=fN (by have:=FP y;omega);have e8:(2:Int)^min 8 IntKind.i64.bits=256:=by decide
   have v3:IntKind.i64.wrap ((x.toNat:Int)*256)=x.toNat*256:=fN (by have:=FP x;omega);have v4:=ae7 (FP x) (FP y);have hxl:=FP x;have hyl:=FP y;obtain⟨n,hn⟩:∃n,n=x.toNat*256+y.toNat:=⟨_,rfl⟩;rw[← hn]at v4;have hnl:n≤65535:=by omega
   have u1:IntKind.i64.wrap ((k:Int)+1)=k+1:=fN (by omega);have u2:IntKind.i64.wrap ((k:Int)+4)=k+4:=fN (by omega);have u3:IntKind.i64.wrap ((k:Int)+4+n)=k+4+n:=fN (by omega);have u4:IntKind.i64.wrap ((k:Int)+4+n+2)=k+4+n+2:=fN (by omega);have u5:IntKind.i64.wrap ((k:Int)+4+n+2-2)=k+4+n:=(fN (by omega)).trans (by omega);have t1:((k:Int)+1).toNat=k+1:=by omega
   have z1:0≤(k:Int)+1:=by omega
   have z2:(k:Int)+1<b.length:=by omega
   have hdl:(b.drop k).length=b.length-k:=by simp
   have hstep:wJ (b.drop k)=if n≤4000∧n+6≤b.length-k then(if l6 ((b.drop (k+4)).take n)=(b.drop k).take (n+6)then some ((b.drop (k+4)).take n,b.drop (k+n+6))else none)else none:=by
    have e4:(b.drop k).drop 4=b.drop (k+4):=by rw[iE]
    have e5:(b.drop k).drop (n+6)=b.drop (k+n+6):=by rw[iE];congr 1
    unfold wJ;split
    ·rename_i x' y' r' hq;rw[hdr]at hq;cases hq;rw[← hn,hdl,e4,e5];by_cases hc:n≤4000∧n+6≤b.length-k
     ·rw[if_pos hc,if_pos ⟨c1,hc⟩]
     ·rw[if_neg hc,if_neg (fun h=>hc h.2)]
    ·rename_i hno;exact absurd hdr (hno _ _ _)
   by_cases c2:n≤4000
   ·have c2':¬(4000:Int)<n:=by omega
    have c2'':(n:Int)≤4000:=by omega
    by_cases c3:n+6≤b.length-k
    ·have c3':¬(b.length:Int)<(k:Int)+4+n+2:=by omega
     rw[if_pos ⟨c2,c3⟩]at hstep;have s1:((k:Int)+4).toNat=k+4:=by omega
     have s2:((k:Int)+4+n).toNat=k+4+n:=by omega
     have s3:((k:Int)+4+n+2).toNat=k+4+n+2:=by omega
     have s4:(0:Int)≤(k:Int)+4:=by omega
     have s5:(k:Int)+4≤(k:Int)+4+n:=by omega
     have s6:(k:Int)+4+n≤b.length:=by omega
     have s7:(k:Int)≤(k:Int)+4+n+2:=by omega
     have s8:(k:Int)+4+n+2≤b.length:=by omega
     have s9:(0:Int)≤(k:Int)+4+n:=by omega
     have s10:(0:Int)≤(k:Int)+4+n+2:=by omega
     have d1:k+4+n-(k+4)=n:=by omega
     have d2:k+4+n+2-k=n+6:=by omega
     have d3:k≤k+4+n+2:=by omega
     obtain⟨line,hline⟩:∃l,l=(b.drop (k+4)).take n:=⟨_,rfl⟩;rw[← hline]at hstep;have hll:line.length=n:=by rw[hline];simp;omega
     have g1:((b.flatMap bE).drop (k+4)).take n=line.flatMap bE:=by rw[OW,J2,hline]
     have g2:((b.flatMap bE).drop k).take (n+6)=((b.drop k).take (n+6)).flatMap bE:=by rw[OW,J2]
     have gl:((b.drop k).take (n+6)).length=n+6:=by simp;omega
     have g3:elems ([]::DB σ ls k false) 1 (.aH n (line.flatMap bE))=some (n,line.flatMap bE):=by rw[R8,if_pos (by rw[EZ,hll];omega)]
     have g4:=Hl line;have hC:=fun S hS=>K3 (σ:=S) (s:=line) (by omega) hS
     have hE:=fun S=>afY (σ:=S) (a:=l6 line) (b:=(b.drop k).take (n+6)) (by rw[qq];omega)
     rw[gl]at hE;by_cases c4:l6 line=(b.drop k).take (n+6)
     ·rw[if_pos c4]at hstep;have c4':(l6 line == (b.drop k).take (n+6))=true:=by simpa using c4
      simp only[c4']at hE;by_cases c5:ls.length=100
      ·have hR:=agu (σ:=σ) (w:=k) (k:=(k:Int)+4+n+2) (s:=line) c5;have hz:eH (100-ls.length) (b.drop k)=[]:=by rw[c5];rfl
       rw[hz];simp[-length_flatMap,-map_take,w1,h1,a1,a2,hk0,hk1,u1,u2,u3,u4,u5,t1,z1,z2,v1,v2,e8,v3,v4,c2',c2'',c3',s1,s2,s3,s4,s5,s6,s7,s8,s9,s10,d1,d2,d3,g1,g2,NX,g3,g4,hC,hE,hR,N7,du]
      ·have hR:=atF (σ:=σ) (ls:=ls) (w:=k) (k:=(k:Int)+4+n+2) (s:=line) (by omega);have hz:eH (100-ls.length) (b.drop k)=line::eH (100-(ls++[line]).length) (b.drop (k+n+6)):=by
        have hx:100-ls.length=(100-(ls++[line]).length)+1:=by simp;omega
        rw[hx,eH,hstep]
       rw[hz];have ih':=ih (k+n+6) (ls++[line]) (by simp;omega) (by omega) (by simp;omega);have ek:((k+n+6:Nat):Int)=(k:Int)+4+n+2:=by omega
       rw[ek]at ih';simp[-length_flatMap,-map_take,w1,h1,a1,a2,hk0,hk1,u1,u2,u3,u4,u5,t1,z1,z2,v1,v2,e8,v3,v4,c2',c2'',c3',s1,s2,s3,s4,s5,s6,s7,s8,s9,s10,d1,d2,d3,g1,g2,NX,g3,g4,hC,hE,hR];refine WL.to ih' (by simp) rfl fun x e σ' hh=>?_
       generalize eH (100-(ls++[line]).length) (b.drop (k+n+6))=more at hh ⊢;obtain⟨hh1,p,hh2⟩:=hh;refine⟨hh1,p,?_⟩;rw[hh2];have e1:k+n+6+(du more).length=k+(du (line::more)).length:=by
        simp only[du,aS,bC,qq,hll];omega
       rw[e1];simp
     ·rw[if_neg c4]at hstep;rw[BI hstep];have c4':(l6 line == (b.drop k).take (n+6))=false:=by simpa using c4
      rw[c4']at hE;simp[-length_flatMap,-map_take,w1,h1,a1,a2,hk0,hk1,u1,u2,u3,u4,u5,t1,z1,z2,v1,v2,e8,v3,v4,c2',c2'',c3',s1,s2,s3,s4,s5,s6,s7,s8,s9,s10,d1,d2,d3,g1,g2,NX,g3,g4,hC,hE,N7,du]
      trace_state
    ·have c3':(b.length:Int)<(k:Int)+4+n+2:=by omega
     rw[if_neg (fun h=>c3 h.2)]at hstep;rw[BI hstep];simp[-length_flatMap,-map_take,w1,h1,a1,a2,hk0,hk1,u1,u2,u3,u4,t1,z1,z2,v1,v2,e8,v3,v4,c2',c2'',c3',N7,du]
   ·have c2':(4000:Int)<n:=by omega
    have c2'':¬(n:Int)≤4000:=by omega
    rw[if_neg (fun h=>c2 h.1)]at hstep;rw[BI hstep];simp[-length_flatMap,-map_take,w1,h1,a1,a2,hk0,hk1,u1,u2,u3,u4,t1,z1,z2,v1,v2,e8,v3,v4,c2',c2'',N7,du]
  ·have h1':¬(6:Int)≤(b.length:Int)-k:=by omega
   have hs:=BI (n:=100-ls.length) (MK (t:=b.drop k) (by simp;omega));rw[hs];simp[-length_flatMap,-map_take,w1,h1',N7,du]
theorem GR{b:List UInt8}(hb:b.length≤1000000):∃p,lim T (.call false eQ [.l7 σ.length 3,.bB [.aH b.length (b.flatMap bE)]] (DB σ [] 0 false))=some (.val (.dV []) (DB σ (eH 100 b) (du (eH 100 b)).length p)):=by
 have h:=anC (σ:=σ) hb b.length 0 [] (by simp) (by omega) (by simp);obtain⟨x,e,σ',h1,hx,p,rfl⟩:=h;refine⟨p,?_⟩;refine fQ wE la.eq_1 rfl (by simp[DB]) ?_;simp[-length_flatMap,-map_take];refine⟨_,_,_,by simpa using h1,?_⟩;rcases hx with rfl | rfl<;>simp[-length_flatMap,-map_take]
theorem Rt{b:List UInt8}(hb:b.length≤1000000)(hσ:σ≠[]):
  lim T (.call false iL [.aH b.length (b.flatMap bE)] σ)=some (.val (.dV [.aH (eH 100 b).length ((eH 100 b).flatMap cc),.int .i64 ((du (eH 100 b)).length:Nat)]) σ):=by
 refine aw uc ku.eq_1 rfl ?_;have hR:=fun σ=>IS (σ:=σ) (b:=b)
 obtain⟨p,h1⟩:=GR (σ:=σ) hb;simp[-length_flatMap,-map_take,hR,I1];refine DU (d:=.dV []) (σ2:=DB σ (eH 100 b) (du (eH 100 b)).length p) (lp:=Ib σ.length p) (by simp;exact⟨rfl,rfl,rfl⟩) ?_ (by simp[DB]) (by cases p<;>simp[Ib]) ?_
 ·simpa[DB,Ib]using h1
 ·cases p<;>simp[-length_flatMap,-map_take,DB,Ib];all_goals exact⟨_,LQ (wG (n:=15) (f:=cc) (w:=1) (l:=eH 100 b) (by decide) (fun _=>rfl) (fun _=>by simp[cc]) hσ (by simp))⟩
end Go.Proofs.YtfgljaglidhjiaaGreatDoor
