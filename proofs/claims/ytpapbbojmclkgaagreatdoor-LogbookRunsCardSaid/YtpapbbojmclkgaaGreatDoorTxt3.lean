import Derived.Test.YtpapbbojmclkgaaGreatDoorTxt1
set_option linter.all false
namespace Go.Proofs.YtpapbbojmclkgaaGreatDoor
open Go Go.Abs Go.Rock
variable {J:SK}
theorem KQ{l i v off:Nat}:dt T (.Ag 251 [.ref l i v off] none J)=some (.val (.cQ []) J):=by
 refine D8 rfl rfl rfl (by simp[sf];exact⟨rfl,rfl⟩) ?_;simp
theorem Ye{F:List Abs.aF}(hF:F=[.cells 0 [iI 0]]):dt T (.Ag 251 [.ref J.length 0 0 0] (some (.uJ 428 (.agg []))) (F::J))=some (.val (.cQ []) ([.cells 0 [iI 9]]::J)):=by
 subst hF;refine D8 rfl rfl rfl (by simp[sf];exact⟨rfl,rfl⟩) ?_;simp
theorem qq{α:Type}{f:α->Int}:∀{l:List α},b8 f l=0->∀x∈l,f x=0
 |[],_,x,hx=>by cases hx
 |a::l,h,x,hx=>by
  simp only[b8]at h;split at h
  .rename_i ha;rcases bx.1 hx with rfl | hx
   .exact ha
   .exact qq h x hx
  .rename_i ha;exact absurd h ha
theorem ju{b:bU}{az:List (List Int)}(h:tL b az=0):az.length<=200/\∀r∈az,Rv b r:=by
 unfold tL at h;split at h
 .cases h
 .exact⟨by omega,λr hr=>Rv.of (qq h r hr)⟩
def lS(b:bU)(m:cg)(az:List (List Int)):Int:=if Bd b m then(if tL b az=0 then(match Rock.run b m az with | some _=>0 | none=>9)else tL b az)else 1
def Cv(b:bU)(m:cg)(az:List (List Int)):D:=if lS b m az=0 then(match Rock.run b m az with | some (ss,ys) => .agg [lF ss lI,lF ys lI] | none => .agg [.bu,.bu])else .agg [.bu,.bu]
theorem WJ{b:bU}{m:cg}{az:List (List Int)}{wq:D}(hwq:wq.rN=lF b.aw bA.enc)(h1:b.c9.length<=1000000000)(h2:b.aw.length<=1000000000)(hn:m.name.length<=1000000000)(hl:m.dh.length<=1000000000)(hp:az.length<=1000000000)(hs:∀l∈az,l.length<=1000000000)(hJ:J≠[]):
  Cl 214 [.agg [iI b.f.x,iI b.f.y,iI b.f.z,iI b.f.k,lF b.c9 Rw.enc,iI b.cG,iI b.lift,iI b.deep,wq],.agg (mL m),lF az J0] (.cQ [Cv b m az,iI (lS b m az)]) J:=by
 have hP:=λJ=>Xn (J:=J) (b:=b) hp hs
 cases hb:Bd b m
 .have hE:lS b m az=1:=by simp[lS,hb]
  have hD:Cv b m az=.agg [.bu,.bu]:=by simp[Cv,hE]
  rw[hD,hE];refine ar ?_;obtain⟨d,hB,hd1,hd2⟩:=Tw h1 h2 hn hl hb (J:=[.cells 0 [iI 0]]::J);simp[hwq,hB,hd1]
 .have hB:=λJ=>ac2 (J:=J) h1 h2 hn hl hb
  by_cases hq:tL b az=0
  .obtain⟨p1,p2⟩:=ju hq;simp only[Bd,ah]at hb;have hf:Fv b m:=Fv.of (by simp[Bd,hb]);have hb':Bd b m=true:=by simp[Bd,hb]
   refine Qg Qa As.eq_1 rfl rfl ?_;cases hrun:Rock.run b m az with
   |none =>
    have hE:lS b m az=9:=by simp[lS,hb',hq,hrun]
    have hD:Cv b m az=.agg [.bu,.bu]:=by simp[Cv,hE]
    have hR:=λJ=>TC (J:=J) hf p1 p2 hrun
    have hX:xo T (.fn 251 [] []) [.ref J.length 0 0 0] (some (.uJ 428 (.agg []))) ([.cells 0 [iI 0]]::J)=some ([.cells 0 [iI 9]]::J):=vw (Ye rfl);rw[hD,hE];simp[toD,hwq,hB,hP,hq];rw[BW ug.eq_1];simp[Qm,hX,hR]
   |some p =>
    obtain⟨ss,ys⟩:=p;have hE:lS b m az=0:=by simp[lS,hb',hq,hrun]
    have hD:Cv b m az=.agg [lF ss lI,lF ys lI]:=by simp[Cv,hE,hrun]
    have hX:xo T (.fn 251 [] []) [.ref J.length 0 0 0] none ([.cells 0 [iI 0]]::J)=some ([.cells 0 [iI 0]]::J):=vw KQ;have hR:=λJ hJ=>TD (J:=J) hf p1 p2 hJ hrun
    rw[hD,hE];simp[toD,hwq,hB,hP,hq];rw[BW ug.eq_1];simp[Qm,hX,hR];rw[de (by simp[D.clean,adi]) (by omega)];exact⟨_,rfl⟩
  .have hE:lS b m az=tL b az:=by simp[lS,hb,hq]
   have hD:Cv b m az=.agg [.bu,.bu]:=by simp[Cv,hE,hq]
   rw[hD,hE];refine ar ?_;simp[hwq,hB,hP,hq]
end Go.Proofs.YtpapbbojmclkgaaGreatDoor
namespace Go.Book
open Go Go.Abs Go.Rock
def GW(s:List UInt8):Option Int:=if((sh s).1=0/\iB (sh s).2=s)/\bF (sh s).2 (-999999999) 999999999=true then some (sh s).2 else none
def m7:List (List UInt8)->Option (List Int)
 |[]=>some []
 |s::l=>match GW s with
  |some n=>(m7 l).map (n :: ·)
  |none=>none
structure Wd where
 named:Bool
 least:Int
 step:Int
 k:Nat
def mJ:List (List UInt8×Wd):=[
 ([102,105,101,108,100],⟨false,4,0,0⟩),([116,97,98,108,101],⟨false,0,5,1⟩),([98,101,100],⟨false,3,0,2⟩),([119,101,108,108],⟨false,3,0,3⟩),
 ([109,111,100,101,108],⟨true,0,1,4⟩),([108,111,103],⟨true,3,2,5⟩),([114,117,108,101],⟨false,10,0,6⟩),([107,101,101,112],⟨false,3,0,7⟩),
 ([113,117,97,107,101],⟨false,0,4,8⟩),([116,105,99,107],⟨false,0,1,9⟩),([114,101,97,100],⟨false,4,0,10⟩),([117,110,105,116],⟨false,1,2,11⟩),([115,101,108,108],⟨false,4,0,12⟩)]
def DR(s:List UInt8):List (List UInt8×Wd)->Option Wd
 |[]=>none
 |(k,w)::l=>if s=k then some w else DR s l
def yc(s:List UInt8):Option Wd:=DR s mJ
theorem Co{s:List UInt8}{w:Wd}:∀{l:List (List UInt8×Wd)},DR s l=some w->(s,w)∈l
 |[],h=>by cases h
 |(k,v)::l,h=>by
  simp only[DR]at h;split at h
  .rename_i e;cases h;subst e;simp
  .exact List.mem_cons_of_mem _ (Co h)
theorem Ip{s:List UInt8}{w:Wd}(h:yc s=some w):0<=w.least/\w.least<=10/\0<=w.step/\w.step<=5/\w.k<13:=by
 have h1:=Co h;simp only[mJ,bx,au,List.not_mem_nil,or_false]at h1;rcases h1 with⟨_,rfl⟩ | ⟨_,rfl⟩ | ⟨_,rfl⟩ | ⟨_,rfl⟩ | ⟨_,rfl⟩ | ⟨_,rfl⟩ | ⟨_,rfl⟩ | ⟨_,rfl⟩ | ⟨_,rfl⟩ | ⟨_,rfl⟩ | ⟨_,rfl⟩ | ⟨_,rfl⟩ | ⟨_,rfl⟩<;>simp
def GO(w:Wd)(n:Int):Bool:=decide (n-w.least=0) || (decide (0<n-w.least) && (decide (0<w.step) && decide ((n-w.least).tmod w.step=0)))
def sc(w:Wd)(name:List UInt8)(l:List (List UInt8)):Option (Wd×List UInt8×List Int) :=
 match m7 l with
 |some ns=>if GO w ns.length=true then some (w,name,ns)else none
 |none=>none
def parse(s:List UInt8):Option (Wd×List UInt8×List Int) :=
 match dr 32 s with
 |[]=>none
 |a::all=>match yc a with
  |none=>none
  |some w=>if w.named=true then(match all with
   |[]=>none
   |n::r=>sc w n r)else sc w [] all
theorem tO(b:UInt8)(s:List UInt8):dr b s≠[]:=by
 cases s with
 |nil=>simp[dr]
 |cons c r =>
  simp only[dr];split
  .simp
  .split<;>simp
theorem Dv(b:UInt8):∀s:List UInt8,(dr b s).length<=s.length+1
 |[]=>by simp[dr]
 |c::r=>by
  have:=Dv b r;simp only[dr];split
  .simp;omega
  .split
   .rename_i h;rw[h]at this;simp at this ⊢;omega
   .simp
end Go.Book
namespace Go.Proofs.YtpapbbojmclkgaaGreatDoor
open Go Go.Abs Go.Rock Go.Book
variable {J:SK}
theorem zG{T:DB}{kp:Bool}{f k:Nat}{args:List D}{J:SK}{r:R}(hT:T f=none)(hN:T (1000000+f)=some ⟨k,[],.exit 0⟩)(h:ER k args J=some r):dt T (.call kp f args J)=some r :=
 gZ (by simp[dH,hT,hN,h])
def rf(e:Int):D:=.uJ 200 (.agg [iI e])
theorem cV{e:Int}:Cl 127 [.bool true,iI e] (.cQ []) J:=by
 refine ar ?_;simp
theorem dN{e:Int}:dt T (.call false 127 [.bool false,iI e] J)=some (.fw (rf e) J):=by
 refine dZ rfl rfl rfl ?_;simp[afO,D.clean,rf]
theorem oo:Cl 200 [iI 0] (.cQ []) J:=by
 refine ar ?_;simp[cV]
theorem pw{e:Int}(h:e≠0):dt T (.call false 200 [iI e] J)=some (.fw (rf e) J):=by
 refine dZ rfl rfl rfl ?_;have h':(e == 0)=false:=by simpa using h
 simp[dN,h',D.clean,rf]
theorem eL{a b c:Int}:Cl 36 [iI a,iI b,iI c] (.bool (bF a b c)) J:=by
 refine ar ?_;by_cases h:b<=a<;>simp[h,bF]
theorem xl{n:Int}(h : -9223372036854775808<=n/\n<=9223372036854775807):Cl 42 [iI n] (.str (iB n)) J :=
 zG KO KI (by simp[ER,h])
theorem NT{s:List UInt8}(h:s.length<=1000000):Cl 173 [.str s] (.cQ [iI (sh s).2,if(sh s).1=0 then .od else .uJ 408 .undef]) J :=
 zG KN KH (by simp[ER,h])
theorem E7{s:List UInt8}(h:s.length<=1000000):Cl 125 [.str s,.str [32]] (.bZ (dr 32 s).length ((dr 32 s).map .str)) J :=
 zG JY JW (by simp[ER,h])
theorem Oc(s:List UInt8) : -9223372036854775808<=(sh s).2/\(sh s).2<=9223372036854775807:=by
 unfold sh;split
 .rename_i v h;cases s with
  |nil=>cases h
  |cons c r =>
   simp only[Lib.atoiAll]at h;split at h
   .cases h
   .cases h
   .rename_i u hu;split at h
    .cases h
    .split at h
     .cases h
     .cases h;dsimp only;split<;>omega
 .simp
 .simp only[Lib.atoiSat];split<;>simp
theorem Xj{s:List UInt8}(hl:s.length<=1000000){n:Int}(h:GW s=some n):Cl 128 [.str s] (iI n) J:=by
 unfold GW at h;simp only[aI,ae]at h;obtain⟨⟨⟨h1,h2⟩,h3⟩,rfl⟩:=h;refine ar ?_;simp[NT hl,h1,xl (Oc s),h2,ia,eL,h3,cV]
theorem R6{s:List UInt8}(hl:s.length<=1000000)(h:GW s=none):dt T (.call false 128 [.str s] J)=some (.fw (rf 4) J):=by
 refine dZ rfl rfl rfl ?_;unfold GW at h;simp only[ite_eq_right_iff,reduceCtorEq,imp_false,not_and]at h;by_cases h1:(sh s).1=0
 .by_cases h2:iB (sh s).2=s
  .have h3:bF (sh s).2 (-999999999) 999999999=false:=by simpa using h ⟨h1,h2⟩
   simp[NT hl,h1,xl (Oc s),h2,ia,eL,h3,dN,D.clean,rf]
  .simp[NT hl,h1,xl (Oc s),h2,ia,dN,D.clean,rf]
 .simp[NT hl,h1,dN,D.clean,rf]
def Nx:List Nat:=[160,161,162,163,164,165,166,167,168,169,170,171,172]
def RR(w:Wd):List D:=[.bool w.named,iI w.least,iI w.step,.fn ((Nx[w.k]?).getD 0) [] []]
def jw(l:List (List UInt8×Wd)):List D:=l.map λp => .cQ [.str p.1,.agg (RR p.2)]
theorem Lk{s:List UInt8}:∀{l:List (List UInt8×Wd)},DR s l=none->qh none (.str s) (jw l)=some none
 |[],_=>rfl
 |(k,w)::l,h=>by
  simp only[DR]at h;split at h
  .cases h
  .rename_i hk;have hb:(s == k)=false:=by simpa using hk
   have:=Lk h;simp only[jw,aM,qh,tA,hb]at this ⊢;rw[this];rfl
theorem Nf{s:List UInt8}{w:Wd}:∀{l:List (List UInt8×Wd)},DR s l=some w->∃j,qh none (.str s) (jw l)=some (some (j,.agg (RR w)))
 |[],h=>by cases h
 |(k,v)::l,h=>by
  simp only[DR]at h;split at h
  .rename_i hk;cases h;subst hk;exact⟨0,by simp[jw,qh,tA]⟩
  .rename_i hk;have hb:(s == k)=false:=by simpa using hk
   obtain⟨j,hj⟩:=Nf h;exact⟨j+1,by
    simp only[jw,aM,qh,tA,hb]at hj ⊢;rw[hj];rfl⟩
theorem alR{S:SK}{l i:Nat}{pre:List (List UInt8×Wd)}{k:List UInt8}{w:Wd}(h:cells? S l i 0=some (jw pre))(hn:DR k pre=none)(hl:l+1=S.length):
  DT S (.put none) [.j5 l i,.str k,.agg (RR w)]=some (.undef,bj S l i (.cells 0 (jw (pre++[(k,w)])))):=by
 have h1:=Lk hn;simp only[DT,DZ,h,bf,h1];simp[tA,hl,jw]
theorem VU{S:SK}{l i:Nat}{s:List UInt8}(h:cells? S l i 0=some (jw mJ)):
  DT S (.get none (.agg [.bool false,iI 0,iI 0,.ri]) true) [.j5 l i,.str s] =
   some (match yc s with | some w => .cQ [.agg (RR w),.bool true] | none => .cQ [.agg [.bool false,iI 0,iI 0,.ri],.bool false],S):=by
 simp only[DT,DZ,h,bf];cases hw:yc s with
 |none=>rw[Lk hw];simp[tA]
 |some w=>obtain⟨j,hj⟩:=Nf hw;rw[hj];simp[tA]
theorem E9{bs:List Abs.aF}:dt T (.call true 126 [] (bs::J))=some (.val (.j5 J.length bs.length) ((bs++[.cells 0 (jw mJ)])::J)):=by
 refine sF rfl rfl rfl ?_;have hm:DT (bs::J) .make []=some (.j5 J.length bs.length,(bs++[.cells 0 []])::J):=by simp[DT]
 have hp:∀(pre:List (List UInt8×Wd)) (k:List UInt8) (w:Wd),DR k pre=none->DT ((bs++[.cells 0 (jw pre)])::J) (.put none) [.j5 J.length bs.length,.str k,.agg (RR w)]=some (.undef,(bs++[.cells 0 (jw (pre++[(k,w)]))])::J):=by
  intro pre k w hn;have h1:cells? ((bs++[.cells 0 (jw pre)])::J) J.length bs.length 0=some (jw pre):=by simp
  have h2:J.length+1=((bs++[Abs.aF.cells 0 (jw pre)])::J).length:=by simp
  have h3:=alR (w:=w) h1 hn h2;refine h3.trans ?_;simp
 have p:=λ(j:Nat) (hj:j<13)=>hp (mJ.take j) ((mJ[j]?).getD ([],⟨false,0,0,0⟩)).1 ((mJ[j]?).getD ([],⟨false,0,0,0⟩)).2
 have p0:=p 0 (by omega) (by decide);have p1:=p 1 (by omega) (by decide);have p2:=p 2 (by omega) (by decide);have p3:=p 3 (by omega) (by decide);have p4:=p 4 (by omega) (by decide);have p5:=p 5 (by omega) (by decide);have p6:=p 6 (by omega) (by decide);have p7:=p 7 (by omega) (by decide);have p8:=p 8 (by omega) (by decide);have p9:=p 9 (by omega) (by decide);have p10:=p 10 (by omega) (by decide);have p11:=p 11 (by omega) (by decide);have p12:=p 12 (by omega) (by decide);simp[mJ,jw,RR,Nx]at p0 p1 p2 p3 p4 p5 p6 p7 p8 p9 p10 p11 p12;simp[hm,p0,p1,p2,p3,p4,p5,p6,p7,p8,p9,p10,p11,p12,mJ,jw,RR,Nx]
@[simp] def cf(s:List UInt8):List D:=[.str s]
def UC(cs:List D)(name:List UInt8)(M:Abs.aF)(J:SK)(acc:List Int)(r:Option (List Int))(x:Abs.Exit)(e:Env)(J':SK):Prop:=match r with
 |some ns=>x=.exit 0/\get e 2=.own 0 cs/\get e 3=.str name/\get e 4=.sl J.length 0 (acc++ns).length 0 (acc++ns).length 1/\J'=[.cells (acc++ns).length (fM (acc++ns) aO),M]::J
 |none=>x=.fw (rf 4)/\∃bD,J'=bD::J
theorem KG{all:List (List UInt8)}(hs:∀s∈all,s.length<=1000000)(hl:all.length<=1000001){cs:List D}{name:List UInt8}{M:Abs.aF}:∀(k i:Nat) (acc:List Int),i+k=all.length->acc.length=i ->
  WL T [2,3,4,35,36,37] false jI [(2,.own 0 cs),(3,.str name),(4,.sl J.length 0 i 0 i 1),(35,lF all cf),(36,iI all.length),(37,iI i)]
   ([.cells i (fM acc aO),M]::J) (UC cs name M J acc (m7 (all.drop i)))
 |0,i,acc,hi,ha=>by
  refine av jI.eq_1 ?_;obtain rfl:i=all.length:=by omega
  have h5:all.drop all.length=[]:=an (by omega);simp[h5,m7,UC,ha]
 |k+1,i,acc,hi,ha=>by
  refine av jI.eq_1 ?_;have⟨hlt,hii⟩:i<all.length/\(i:Int)<i+1:=by omega
  obtain⟨s,hx⟩:=gE hlt;have h4:=bO hlt;have h5:=bz hx;have a1:=aP (f:=cf) (w:=1) (λ_=>rfl) hx;simp only[cf,bJ]at a1;have hsl:=hs s (ai hx);rw[h5];simp only[m7];have hr:(i+1)*8<=room:=by unfold room;omega
  cases hn:GW s with
  |none =>
   simp[hlt,a1,R6 hsl hn,UC]
  |some n =>
   have hc:(fM acc aO).length=i:=by simp[bQ (f:=aO) (w:=1) (λ_=>rfl),ha]
   have ht:(fM acc aO).take i=fM acc aO:=af (by omega);simp[hlt,a1,Xj hsl hn,hr,h4,hc,ht];refine WL.to (KG (cs:=cs) (name:=name) (M:=M) hs hl k (i+1) (acc++[n]) (by omega) (by simp[ha])) (by simp) (by simp) λx e J' hh=>?_
   cases hm:m7 (all.drop (i+1))with
   |none=>rw[hm]at hh;exact hh
   |some ns=>rw[hm]at hh;simpa[UC]using hh
theorem Cu:∀{l:List (List UInt8)} {ns:List Int},m7 l=some ns->ns.length=l.length
 |[],ns,h=>by simp only[m7,ae]at h;subst h;rfl
 |s::l,ns,h=>by
  simp only[m7]at h;split at h
  .rename_i n hn;simp only[ad]at h;obtain⟨m,h1,rfl⟩:=h;simp[Cu h1]
  .cases h
theorem ij(w:Wd):RR w=[.bool w.named,iI w.least,iI w.step,.fn ((Nx[w.k]?).getD 0) [] []]:=rfl
theorem Kn(l:List (List UInt8)):l.map D.str=fM l cf:=by induction l with | nil=>rfl | cons s l ih=>simp[ih]
theorem PH{s:List UInt8}(hl:s.length<=1000000){a:List UInt8}{all:List (List UInt8)}(h:dr 32 s=a::all)(hw:yc a=none):dt T (.call false 85 [.str s] J)=some (.fw (rf 4) J):=by
 refine dZ rfl rfl rfl ?_;have hW:=E9 (bs:=[.cells 0 []]) (J:=J);have hG:=VU (S:=[Abs.aF.cells 0 [],.cells 0 (jw mJ)]::J) (l:=J.length) (i:=1) (s:=a) (by simp);rw[hw]at hG;simp[E7 hl,h,hW,hG,dN,D.clean,rf]
def AP(p:Wd×List UInt8×List Int):D:=.cQ [.agg (RR p.1),.str p.2.1,lF p.2.2 aO]
theorem Kh{a:List D}(ha:D.aW a=true){name:List UInt8}{v:Nat}{ns:List Int}{M:Abs.aF}(hJ:J≠[]):
  cH (J.length-1) 16 (.cQ [.agg a,.str name,.sl J.length 0 v 0 ns.length 1]) ([.cells v (fM ns aO),M]::J)=(.cQ [.agg a,.str name,lF ns aO],[.dead,M]::J):=by
 have h3:¬J.length<=J.length-1:=by have:=aH.2 hJ;omega
 rw[pG (by simp[D.aW,D.clean]) (by omega)];have h4:=de (l:=J.length-1) (n:=15) (d:=.agg a) (J:=[Abs.aF.cells v (fM ns aO),M]::J) (by simp[D.clean,ha]) (by omega);have h5:=de (l:=J.length-1) (n:=15) (d:=.str name) (J:=[Abs.aF.cells v (fM ns aO),M]::J) (by simp[D.clean]) (by omega);have h6:=GP (l:=J.length-1) (n:=15) (l':=J.length) (i:=0) (v:=v) (off:=0) (m:=ns.length) (w:=1) (J:=[Abs.aF.cells v (fM ns aO),M]::J) (cs:=fM ns aO) h3 (by simp) (by omega);have ht:(fM ns aO).take ns.length=fM ns aO:=by have:=OC (f:=aO) (w:=1) (λ_=>rfl) ns;rwa[bJ]at this
 simp only[Nat.reduceSub,cH.frzL,h4,h5,h6];simp[ht,ef (f:=aO) (λ_=>by simp[D.clean]) ns]
theorem Vn{s:List UInt8}(hl:s.length<=1000000){a:List UInt8}{all:List (List UInt8)}(h:dr 32 s=a::all)(hs:∀x∈all,x.length<=1000000)(hl2:all.length<=1000001){w:Wd}(hw:yc a=some w)(hn:w.named=false)(hJ:J≠[]){p:Wd×List UInt8×List Int}(hp:sc w [] all=some p):
  Cl 85 [.str s] (AP p) J:=by
 refine ar ?_;have hW:=E9 (bs:=[.cells 0 []]) (J:=J);have hG:=VU (S:=[Abs.aF.cells 0 [],.cells 0 (jw mJ)]::J) (l:=J.length) (i:=1) (s:=a) (by simp);rw[hw]at hG;obtain⟨w1,w2,w3,w4,w5⟩:=Ip hw;have hL:=KG (J:=J) (cs:=RR w) (name:=[]) (M:=.cells 0 (jw mJ)) hs hl2 all.length 0 [] (by omega) rfl;unfold sc at hp;cases hm:m7 all with
 |none=>rw[hm]at hp;cases hp
 |some ns =>
 rw[hm]at hp;simp only[aI,ae]at hp;obtain⟨hf,rfl⟩:=hp;have hlen:=Cu hm;simp only[GO,cn,ah,aB]at hf;have e1:=cm (n:=(ns.length:Int)-w.least);rw[aC,hm]at hL;have q1:(1:Int)<=(all.length:Int)+1:=by omega
 have q2:(fM all cf).take all.length=fM all cf:=af (by rw[bQ (f:=cf) (w:=1) (λ_=>rfl)];omega);simp[E7 hl,h,hW,hG,cV,ij,hn,Kn,q1,q2];refine WL.to hL (by simp[ij,hn]) (by simp) ?_;rintro x e J' ⟨rfl,g2,g3,g4,rfl⟩;have hz:D.aW (RR w)=true:=by simp[RR,D.clean]
 rcases hf with c1 | ⟨c1,c2,c3⟩
 .simp[g2,g3,g4,ij,c1,cV,AP];exact⟨_,Kh (by simp[D.clean]) hJ⟩
 .have⟨c0,c4,c5⟩:¬(ns.length:Int)-w.least=0/\¬w.step=0/\w.least<(ns.length:Int):=by omega
  simp[g2,g3,g4,ij,e1,c0,c5,c2,c3,c4,cV,AP];exact⟨_,Kh (by simp[D.clean]) hJ⟩
theorem PF{s:List UInt8}(hl:s.length<=1000000){a:List UInt8}{all:List (List UInt8)}(h:dr 32 s=a::all)(hs:∀x∈all,x.length<=1000000)(hl2:all.length<=1000001){w:Wd}(hw:yc a=some w)(hn:w.named=false)(hp:sc w [] all=none):
  dt T (.call false 85 [.str s] J)=some (.fw (rf 4) J):=by
 refine dZ rfl rfl rfl ?_;have hW:=E9 (bs:=[.cells 0 []]) (J:=J);have hG:=VU (S:=[Abs.aF.cells 0 [],.cells 0 (jw mJ)]::J) (l:=J.length) (i:=1) (s:=a) (by simp);rw[hw]at hG;obtain⟨w1,w2,w3,w4,w5⟩:=Ip hw;have hL:=KG (J:=J) (cs:=RR w) (name:=[]) (M:=.cells 0 (jw mJ)) hs hl2 all.length 0 [] (by omega) rfl;have q1:(1:Int)<=(all.length:Int)+1:=by omega
 have q2:(fM all cf).take all.length=fM all cf:=af (by rw[bQ (f:=cf) (w:=1) (λ_=>rfl)];omega);rw[aC]at hL;simp[E7 hl,h,hW,hG,cV,ij,hn,Kn,q1,q2];refine WL.to hL (by simp[ij,hn]) (by simp) ?_;unfold sc at hp;cases hm:m7 all with
 |none =>
  rintro x e J' ⟨rfl,bD,rfl⟩;simp[D.clean,rf]
 |some ns =>
 rw[hm]at hp;simp only[ite_eq_right_iff,reduceCtorEq,imp_false]at hp;rintro x e J' ⟨rfl,g2,g3,g4,rfl⟩;have hlen:=Cu hm;have e1:=cm (n:=(ns.length:Int)-w.least);simp only[GO,cn,ah,aB]at hp;have c0:¬(ns.length:Int)-w.least=0:=λhh=>hp (.inl hh)
 by_cases c1:w.least<(ns.length:Int)
 .by_cases c2:0<w.step
  .have c3:¬((ns.length:Int)-w.least).tmod w.step=0:=λhh=>hp (.inr ⟨by omega,c2,hh⟩)
   have c4:¬w.step=0:=by omega
   have c3':(((ns.length:Int)-w.least).tmod w.step == 0)=false:=by simpa using c3
   have c0':((ns.length:Int)-w.least == 0)=false:=by simpa using c0
   simp[g2,g3,g4,ij,e1,c0',c1,c2,c3',c4,dN,D.clean,rf]
  .simp[g2,g3,g4,ij,e1,c0,c1,c2,dN,D.clean,rf]
 .simp[g2,g3,g4,ij,e1,c0,c1,dN,D.clean,rf]
theorem R7{s:List UInt8}(hl:s.length<=1000000){a:List UInt8}(h:dr 32 s=[a]){w:Wd}(hw:yc a=some w)(hn:w.named=true):
  dt T (.call false 85 [.str s] J)=some (.fw (rf 4) J):=by
 refine dZ rfl rfl rfl ?_;have hW:=E9 (bs:=[.cells 0 []]) (J:=J);have hG:=VU (S:=[Abs.aF.cells 0 [],.cells 0 (jw mJ)]::J) (l:=J.length) (i:=1) (s:=a) (by simp);rw[hw]at hG;obtain⟨w1,w2,w3,w4,w5⟩:=Ip hw;simp[E7 hl,h,hW,hG,cV,dN,ij,hn,D.clean,rf]
theorem Vo{s:List UInt8}(hl:s.length<=1000000){a n:List UInt8}{r:List (List UInt8)}(h:dr 32 s=a::n::r)(hs:∀x∈r,x.length<=1000000)(hl2:r.length<=1000001){w:Wd}(hw:yc a=some w)(hn:w.named=true)(hJ:J≠[]){p:Wd×List UInt8×List Int}(hp:sc w n r=some p):
  Cl 85 [.str s] (AP p) J:=by
 refine ar ?_;have hW:=E9 (bs:=[.cells 0 []]) (J:=J);have hG:=VU (S:=[Abs.aF.cells 0 [],.cells 0 (jw mJ)]::J) (l:=J.length) (i:=1) (s:=a) (by simp);rw[hw]at hG;obtain⟨w1,w2,w3,w4,w5⟩:=Ip hw;have hL:=KG (J:=J) (cs:=RR w) (name:=n) (M:=.cells 0 (jw mJ)) hs hl2 r.length 0 [] (by omega) rfl;have q1:(1:Int)<=(r.length:Int)+1:=by omega
 have q2:(fM r cf).take r.length=fM r cf:=af (by rw[bQ (f:=cf) (w:=1) (λ_=>rfl)];omega);have⟨q3,q4,q6⟩:(1:Int)<=(r.length:Int)+1+1/\(0:Int)<(r.length:Int)+1/\(0:Int)<(r.length:Int)+1+1:=by omega
 have q5:(fM r cf).take (r.length+1)=fM r cf:=af (by rw[bQ (f:=cf) (w:=1) (λ_=>rfl)];omega);unfold sc at hp;cases hm:m7 r with
 |none=>rw[hm]at hp;cases hp
 |some ns =>
 rw[hm]at hp;simp only[aI,ae]at hp;obtain⟨hf,rfl⟩:=hp;have hlen:=Cu hm;simp only[GO,cn,ah,aB]at hf;have e1:=cm (n:=(ns.length:Int)-w.least);rw[aC,hm]at hL;simp[E7 hl,h,hW,hG,cV,ij,hn,Kn,q1,q2,q3,q4,q6];refine WL.to hL (by simp[ij,hn]) (by simp) ?_;rintro x e J' ⟨rfl,g2,g3,g4,rfl⟩;rcases hf with c1 | ⟨c1,c2,c3⟩
 .simp[g2,g3,g4,ij,c1,cV,AP];exact⟨_,Kh (by simp[D.clean]) hJ⟩
 .have⟨c0,c4,c5⟩:¬(ns.length:Int)-w.least=0/\¬w.step=0/\w.least<(ns.length:Int):=by omega
  simp[g2,g3,g4,ij,e1,c0,c5,c2,c3,c4,cV,AP];exact⟨_,Kh (by simp[D.clean]) hJ⟩
theorem PG{s:List UInt8}(hl:s.length<=1000000){a n:List UInt8}{r:List (List UInt8)}(h:dr 32 s=a::n::r)(hs:∀x∈r,x.length<=1000000)(hl2:r.length<=1000001){w:Wd}(hw:yc a=some w)(hn:w.named=true)(hp:sc w n r=none):
  dt T (.call false 85 [.str s] J)=some (.fw (rf 4) J):=by
 refine dZ rfl rfl rfl ?_;have hW:=E9 (bs:=[.cells 0 []]) (J:=J);have hG:=VU (S:=[Abs.aF.cells 0 [],.cells 0 (jw mJ)]::J) (l:=J.length) (i:=1) (s:=a) (by simp);rw[hw]at hG;obtain⟨w1,w2,w3,w4,w5⟩:=Ip hw;have hL:=KG (J:=J) (cs:=RR w) (name:=n) (M:=.cells 0 (jw mJ)) hs hl2 r.length 0 [] (by omega) rfl;have q1:(1:Int)<=(r.length:Int)+1:=by omega
 have q2:(fM r cf).take r.length=fM r cf:=af (by rw[bQ (f:=cf) (w:=1) (λ_=>rfl)];omega);have⟨q3,q4,q6⟩:(1:Int)<=(r.length:Int)+1+1/\(0:Int)<(r.length:Int)+1/\(0:Int)<(r.length:Int)+1+1:=by omega
 have q5:(fM r cf).take (r.length+1)=fM r cf:=af (by rw[bQ (f:=cf) (w:=1) (λ_=>rfl)];omega);rw[aC]at hL;simp[E7 hl,h,hW,hG,cV,ij,hn,Kn,q1,q2,q3,q4,q6];refine WL.to hL (by simp[ij,hn]) (by simp) ?_;unfold sc at hp;cases hm:m7 r with
 |none =>
  rintro x e J' ⟨rfl,bD,rfl⟩;simp[D.clean,rf]
 |some ns =>
 rw[hm]at hp;simp only[ite_eq_right_iff,reduceCtorEq,imp_false]at hp;rintro x e J' ⟨rfl,g2,g3,g4,rfl⟩;have hlen:=Cu hm;have e1:=cm (n:=(ns.length:Int)-w.least);simp only[GO,cn,ah,aB]at hp;have c0:¬(ns.length:Int)-w.least=0:=λhh=>hp (.inl hh)
 by_cases c1:w.least<(ns.length:Int)
 .by_cases c2:0<w.step
  .have c3:¬((ns.length:Int)-w.least).tmod w.step=0:=λhh=>hp (.inr ⟨by omega,c2,hh⟩)
   have c4:¬w.step=0:=by omega
   have c3':(((ns.length:Int)-w.least).tmod w.step == 0)=false:=by simpa using c3
   have c0':((ns.length:Int)-w.least == 0)=false:=by simpa using c0
   simp[g2,g3,g4,ij,e1,c0',c1,c2,c3',c4,dN,D.clean,rf]
  .simp[g2,g3,g4,ij,e1,c0,c1,c2,dN,D.clean,rf]
 .simp[g2,g3,g4,ij,e1,c0,c1,dN,D.clean,rf]
theorem Ie(b:UInt8):∀(s:List UInt8),∀x∈dr b s,x.length<=s.length
 |[],x,hx=>by simp[dr]at hx;simp[hx]
 |c::r,x,hx=>by
  have ih:=Ie b r;simp only[dr]at hx;split at hx
  .rcases bx.1 hx with rfl | hx
   .simp
   .have:=ih x hx;simp;omega
  .split at hx
   .rename_i y l hyl;rcases bx.1 hx with rfl | hx
    .have:=ih y (by rw[hyl];simp);simp;omega
    .have:=ih x (by rw[hyl];simp[hx]);simp;omega
   .rename_i hyl;exact absurd hyl (tO b r)
theorem Xm{s:List UInt8}(hl:s.length<=1000000)(hJ:J≠[]){p:Wd×List UInt8×List Int}(hp:parse s=some p):Cl 85 [.str s] (AP p) J:=by
 unfold parse at hp;have hlen:=Dv 32 s;have hle:=Ie 32 s;cases h:dr 32 s with
 |nil=>exact absurd h (tO 32 s)
 |cons a all =>
 rw[h]at hp hlen hle;simp only[aE]at hlen;dsimp only at hp;cases hw:yc a with
 |none=>rw[hw]at hp;cases hp
 |some w =>
 rw[hw]at hp;dsimp only at hp;cases hn:w.named with
 |false =>
  rw[hn]at hp;exact Vn hl h (λx hx=>by have:=hle x (by simp[hx]);omega) (by omega) hw hn hJ (by simpa using hp)
 |true =>
  rw[hn]at hp;simp only[if_true]at hp;cases all with
  |nil=>cases hp
  |cons n r=>exact Vo hl h (λx hx=>by have:=hle x (by simp[hx]);omega) (by simp at hlen;omega) hw hn hJ hp
theorem R8{s:List UInt8}(hl:s.length<=1000000)(hp:parse s=none):dt T (.call false 85 [.str s] J)=some (.fw (rf 4) J):=by
 unfold parse at hp;have hlen:=Dv 32 s;have hle:=Ie 32 s;cases h:dr 32 s with
 |nil=>exact absurd h (tO 32 s)
 |cons a all =>
 rw[h]at hp hlen hle;simp only[aE]at hlen;dsimp only at hp;cases hw:yc a with
 |none=>exact PH hl h hw
 |some w =>
 rw[hw]at hp;dsimp only at hp;cases hn:w.named with
 |false =>
  rw[hn]at hp;exact PF hl h (λx hx=>by have:=hle x (by simp[hx]);omega) (by omega) hw hn (by simpa using hp)
 |true =>
  rw[hn]at hp;simp only[if_true]at hp;cases all with
  |nil=>exact R7 hl h hw hn
  |cons n r=>exact PG hl h (λx hx=>by have:=hle x (by simp[hx]);omega) (by simp at hlen;omega) hw hn hp
end Go.Proofs.YtpapbbojmclkgaaGreatDoor
namespace Go.Trem
open Go Go.Abs
structure Pt where
 x:Int
 y:Int
 z:Int
 deriving DecidableEq
structure Rg where
 lo:Int
 hi:Int
 deriving DecidableEq
structure Si where
 p:Pt
 err:Int
structure Net where
 st:List Si
 s0:Rg
 s1:Rg
 low:Pt
 high:Pt
 step:Int
structure It where
 st:Int
 ph:Int
 t:Rg
structure Plc where
 p:Pt
 o:Rg
 deriving DecidableEq
structure AY where
 far:Int
 add:Int
structure KL where
 levels:List Int
 rows:List AY
structure CG where
 st:Int
 amt:Int
structure ah0 where
 fst:Int
 thn:Int
structure Bet where
 num:Int
 den:Int
 a:Int
 b:Int
 afI:Int
@[simp] theorem Pt.eta(p:Pt):Pt.mk p.x p.y p.z=p:=rfl
@[simp] theorem Rg.eta(p:Rg):Rg.mk p.lo p.hi=p:=rfl
@[simp] theorem Si.eta(p:Si):Si.mk p.p p.err=p:=rfl
@[simp] theorem Net.eta(p:Net):Net.mk p.st p.s0 p.s1 p.low p.high p.step=p:=rfl
@[simp] theorem It.eta(p:It):It.mk p.st p.ph p.t=p:=rfl
@[simp] theorem KL.eta(p:KL):KL.mk p.levels p.rows=p:=rfl
@[simp] theorem CG.eta(p:CG):CG.mk p.st p.amt=p:=rfl
@[simp] theorem AY.eta(p:AY):AY.mk p.far p.add=p:=rfl
@[simp] theorem Bet.eta(p:Bet):Bet.mk p.num p.den p.a p.b p.afI=p:=rfl
@[simp] def Pt.enc(p:Pt):List D:=[iI p.x,iI p.y,iI p.z]
@[simp] def Rg.enc(r:Rg):List D:=[iI r.lo,iI r.hi]
@[simp] def Si.enc(s:Si):List D:=[iI s.p.x,iI s.p.y,iI s.p.z,iI s.err]
@[simp] def It.enc(p:It):List D:=[iI p.st,.int .u8 p.ph,iI p.t.lo,iI p.t.hi]
@[simp] def Plc.enc(p:Plc):List D:=[iI p.p.x,iI p.p.y,iI p.p.z,iI p.o.lo,iI p.o.hi]
@[simp] def AY.enc(p:AY):List D:=[iI p.far,iI p.add]
@[simp] def CG.enc(p:CG):List D:=[iI p.st,iI p.amt]
@[simp] def ah0.enc(p:ah0):List D:=[iI p.fst,iI p.thn]
@[simp] def Bet.enc(b:Bet):List D:=[iI b.num,iI b.den,iI b.a,iI b.b,iI b.afI]
@[simp] def aO(n:Int):List D:=[iI n]
@[simp] def tX(n:Bool):List D:=[.bool n]
@[simp] def Net.enc(n:Net):List D:=[.bZ n.st.length (fM n.st Si.enc),iI n.s0.lo,iI n.s0.hi,iI n.s1.lo,iI n.s1.hi,
 iI n.low.x,iI n.low.y,iI n.low.z,iI n.high.x,iI n.high.y,iI n.high.z,iI n.step]
@[simp] def KL.enc(s:KL):List D:=[.bZ s.levels.length (fM s.levels aO),.bZ s.rows.length (fM s.rows AY.enc)]
def bF(n lo hi:Int):Bool:=decide (lo<=n) && decide (n<=hi)
theorem aQ{n lo hi:Int}:bF n lo hi=true↔lo<=n/\n<=hi:=by simp[bF]
def Pt.ok(p:Pt):Bool:=bF p.x (-20000) 20000 && (bF p.y (-20000) 20000 && bF p.z (-20000) 20000)
def uZ(a b:Pt):Bool:=a.ok && (b.ok && (decide (a.x<=b.x) && (decide (a.y<=b.y) && decide (a.z<=b.z))))
def Si.ok(s:Si):Bool:=s.p.ok && bF s.err 0 1000
def Rg.bF(r:Rg)(lo hi:Int):Bool:=decide (lo<=r.lo) && (decide (r.lo<=r.hi) && decide (r.hi<=hi))
def steps(n:Net)(lo hi:Int):Int:=(hi-lo).tdiv n.step+1
def Net.pre(n:Net):Bool:=Trem.bF n.st.length 1 12 && (dq n.st Si.ok && (uZ n.low n.high && (Trem.bF n.step 1 20000 && (n.s0.bF 1 2000 && n.s1.bF 1 2000))))
def Net.count(n:Net):Int:=steps n n.low.x n.high.x*steps n n.low.y n.high.y*steps n n.low.z n.high.z
def Net.ok(n:Net):Bool:=n.pre && decide (n.count<=2000)
theorem Pt.OK{p:Pt}:p.ok=true↔(-20000<=p.x/\p.x<=20000)/\(-20000<=p.y/\p.y<=20000)/\(-20000<=p.z/\p.z<=20000):=by
 simp only[Pt.ok,ah,aQ]
def bsr:Nat->Int->Int->Int->Int
 |0,_,lo,_=>lo
 |f+1,n,lo,hi=>if lo<hi then(if((lo+hi+1) / 2)*((lo+hi+1) / 2)<=n then bsr f n ((lo+hi+1) / 2) hi else bsr f n lo ((lo+hi+1) / 2-1))else lo
def sq(p q:Pt):Int:=(p.x-q.x)*(p.x-q.x)+(p.y-q.y)*(p.y-q.y)+(p.z-q.z)*(p.z-q.z)
def ait(p q:Pt):Int:=bsr 17 (sq p q) 0 70000
def prog(lo hi st:Int):List Int:=(List.range ((hi-lo) / st+1).toNat).map λ(i:Nat)=>lo+i*st
def zs(n:Net)(x y:Int)(z:Int):List Pt:=(prog z n.high.z n.step).map λz=>⟨x,y,z⟩
def ys(n:Net)(x:Int)(y:Int):List Pt:=fM (prog y n.high.y n.step) λy=>zs n x y n.low.z
def xs(n:Net)(x:Int):List Pt:=fM (prog x n.high.x n.step) λx=>ys n x n.low.y
def abX(n:Net):List Pt:=xs n n.low.x
def Net.stn(n:Net)(i:Int):Si:=n.st.getD i.toNat ⟨⟨0,0,0⟩,0⟩
def Net.S8(n:Net)(ph:Int):Rg:=if ph=0 then n.s0 else n.s1
def aad(n:Net)(i ph:Int)(p:Pt):Rg:=⟨(n.S8 ph).lo*ait (n.stn i).p p / 1000,((n.S8 ph).hi*(ait (n.stn i).p p+1)+999) / 1000⟩
def It.ok(n:Net)(p:It):Bool:=Trem.bF p.st 0 (n.st.length-1) && (decide (p.ph<2) && p.t.bF (-100000000) 100000000)
def span(n:Net)(p:It)(q:Pt):Rg:=⟨p.t.lo-(n.stn p.st).err-(aad n p.st p.ph q).hi,p.t.hi+(n.stn p.st).err-(aad n p.st p.ph q).lo⟩
def meet(a b:Rg):Rg:=⟨max a.lo b.lo,min a.hi b.hi⟩
def common:List Rg->Rg
 |[]=>⟨0,0⟩
 |r::l=>l.foldl meet r
def Rg.ne(r:Rg):Bool:=decide (r.lo<=r.hi)
end Go.Trem
namespace Go.Proofs.YtpapbbojmclkgaaGreatDoor
open Go Go.Abs Go.Trem
variable {J:SK}
theorem iM{a b c:Int}:Cl 118 [iI a,iI b,iI c] (.bool (bF a b c)) J:=by
 refine ar ?_;by_cases h:b<=a<;>simp[h,bF]
theorem yf{a b c:Int}:Cl 133 [iI a,iI b,iI c] (.bool (bF a b c)) J:=by
 refine ar ?_;by_cases h:b<=a<;>simp[h,bF]
theorem ahU{a:Int}:Cl 194 [iI a] (.bool (bF a (-20000) 20000)) J:=by
 refine ar ?_;simp[iM]
theorem Vg{l:List Int}(hl:l.length<=9223372036854775807){fv:D}{p:Int->Bool}(ht:pA T fv (.int .i64) p l)(hc:fv.cells=some [fv]):
  Cl 193 [lF l aO,fv] (.bool (dq l p)) J :=
 CL (Oq .i64) Iu GI z6 CJ hl ht hc
theorem yA{x y z:Int}:Cl 155 [.agg [iI x,iI y,iI z]] (.bool (Pt.ok ⟨x,y,z⟩)) J:=by
 refine ar ?_;have h:∀J,Cl 193 [.bZ 3 [iI x,iI y,iI z],.fn 194 [] []] (.bool (Pt.ok ⟨x,y,z⟩)) J:=λJ=>by
  have:=Vg (J:=J) (l:=[x,y,z]) (by simp) (fv:=.fn 194 [] []) (p:=λa=>bF a (-20000) 20000) (.fn λa _ J=>ahU) rfl;simpa[Pt.ok,Bool.and_assoc,dq]using this
 simp[h]
theorem Jj{x y z:Int}:Cl 134 [.agg [iI x,iI y,iI z]] (.bool (Pt.ok ⟨x,y,z⟩)) J:=by
 refine ar ?_;cases hc1:bF x (-20000) 20000
 .simp[yf,Pt.ok,hc1]
 cases hc2:bF y (-20000) 20000
 .simp[yf,Pt.ok,hc1,hc2]
 simp[yf,Pt.ok,hc1,hc2]
theorem MM{x y z a b c:Int}:Cl 151 [.agg [iI x,iI y,iI z],.agg [iI a,iI b,iI c]] (.bool (uZ ⟨x,y,z⟩ ⟨a,b,c⟩)) J:=by
 refine ar ?_;cases hc1:Pt.ok ⟨x,y,z⟩
 .simp[yA,uZ,hc1]
 cases hc2:Pt.ok ⟨a,b,c⟩
 .simp[yA,uZ,hc1,hc2]
 by_cases hc3:x<=a
 rotate_left
 .simp[yA,uZ,hc1,hc2,hc3]
 by_cases hc4:y<=b
 rotate_left
 .simp[yA,uZ,hc1,hc2,hc3,hc4]
 simp[yA,uZ,hc1,hc2,hc3,hc4]
theorem MI{x y z a b c:Int}:Cl 132 [.agg [iI x,iI y,iI z],.agg [iI a,iI b,iI c]] (.bool (uZ ⟨x,y,z⟩ ⟨a,b,c⟩)) J:=by
 refine ar ?_;cases hc1:Pt.ok ⟨x,y,z⟩
 .simp[Jj,uZ,hc1]
 cases hc2:Pt.ok ⟨a,b,c⟩
 .simp[Jj,uZ,hc1,hc2]
 by_cases hc3:x<=a
 rotate_left
 .simp[Jj,uZ,hc1,hc2,hc3]
 by_cases hc4:y<=b
 rotate_left
 .simp[Jj,uZ,hc1,hc2,hc3,hc4]
 simp[Jj,uZ,hc1,hc2,hc3,hc4]
theorem ace{n:Net}:n.pre=true↔(1<=(n.st.length:Int)/\(n.st.length:Int)<=12)/\dq n.st Si.ok=true/\(n.low.ok=true/\n.high.ok=true/\n.low.x<=n.high.x/\n.low.y<=n.high.y/\n.low.z<=n.high.z) /\
  (1<=n.step/\n.step<=20000)/\(1<=n.s0.lo/\n.s0.lo<=n.s0.hi/\n.s0.hi<=2000)/\(1<=n.s1.lo/\n.s1.lo<=n.s1.hi/\n.s1.hi<=2000):=by
 simp only[Net.pre,ah,aQ,uZ,Rg.bF,aB]
structure ahY(n:Net)(i ph:Int):Prop where
 i0:0<=i
 i1:i<n.st.length
 hph:ph=0\/ph=1
 p:(n.stn i).p.ok=true
 e:0<=(n.stn i).err/\(n.stn i).err<=1000
 s:1<=(n.S8 ph).lo/\(n.S8 ph).lo<=(n.S8 ph).hi/\(n.S8 ph).hi<=2000
 cells:((fM n.st Si.enc).drop (i.toNat*4)).take 4=(n.stn i).enc
theorem Zt{n:Net}(h:n.ok=true){i ph:Int}(hi:bF i 0 (n.st.length-1)=true)(hp:0<=ph)(hp':ph<2):ahY n i ph:=by
 simp only[Net.ok,ah]at h;have h0:=ace.1 h.1;rw[aQ]at hi;have h1:i.toNat<n.st.length:=by omega
 have h2:n.st[i.toNat]?=some (n.stn i):=by
  simp[Net.stn,List.getD,aK h1]
 have h3:=eQ.1 h0.2.1 _ (ai h2);simp only[Si.ok,ah,aQ]at h3;refine⟨by omega,by omega,by omega,h3.1,h3.2,?_,aP (f:=Si.enc) (w:=4) (λ_=>rfl) h2⟩;unfold Net.S8;split<;>omega
structure Hd(n:Net)(l:List It):Prop where
 ok:n.ok=true
 len:l.length<=60
 all:∀p∈l,It.ok n p=true/\0<=p.ph
theorem Hd.amv{n:Net}{l:List It}(h:Hd n l){p:It}(hp:p∈l):ahY n p.st p.ph:=by
 have h1:=h.all p hp;simp only[It.ok,ah,aB]at h1;exact Zt h.ok h1.1.1 h1.2 h1.1.2.1
theorem Tr{x y z:Int}:Cl 80 [.agg [iI x,iI y,iI z]] (.agg [iI x,iI y,iI z]) J:=by
 refine ar ?_;simp
end Go.Proofs.YtpapbbojmclkgaaGreatDoor
namespace Go.Trem
open Go Go.Abs
theorem HW{α β:Type}{f:α->List β}{c:Nat}{l:List α}(h:∀x∈l,(f x).length=c):(fM l f).length=l.length*c:=by
 induction l with
 |nil=>simp
 |cons a l ih =>
  rw[di,aV,h a (by simp),ih λx hx=>h x (by simp[hx]),aE,eD];omega
end Go.Trem
namespace Go.Proofs.YtpapbbojmclkgaaGreatDoor
open Go Go.Abs Go.Trem
variable {J:SK}
structure Bx(n:Net):Prop where
 st:1<=n.step/\n.step<=20000
 lx : -20000<=n.low.x/\n.low.x<=20000
 ly : -20000<=n.low.y/\n.low.y<=20000
 lz : -20000<=n.low.z/\n.low.z<=20000
 hx:n.low.x<=n.high.x/\n.high.x<=20000
 hy:n.low.y<=n.high.y/\n.high.y<=20000
 hz:n.low.z<=n.high.z/\n.high.z<=20000
 len:(abX n).length<=2000
end Go.Proofs.YtpapbbojmclkgaaGreatDoor
namespace Go.Trem
open Go Go.Abs
def aji(l:List Int)(i:Nat):Bool:=decide (i=0) || decide (l.getD (i-1) 0<l.getD i 0)
def ajj(l:List Int):Bool:=dq (List.range' 0 l.length) (aji l)
def AY.ok(r:AY):Bool:=bF r.far 0 20000 && bF r.add 0 100
def KL.ok(s:KL):Bool:=bF s.levels.length 1 60 && (dq s.levels (λn=>bF n 1 1000000000) && (ajj s.levels && (bF s.rows.length 1 20 && (decide ((s.rows.getD 0 ⟨0,0⟩).far=0) && (dq s.rows AY.ok && ajj (s.rows.map (·.far)))))))
def lvl(l:List Int)(a:Int):Nat:=(l.takeWhile λx=>decide (x<=a)).length
def CG.ok(n:Net)(r:CG):Bool:=bF r.st 0 (n.st.length-1) && bF r.amt 0 1000000000
end Go.Trem
namespace Go.Proofs.YtpapbbojmclkgaaGreatDoor
open Go Go.Abs Go.Trem
variable {J:SK}
end Go.Proofs.YtpapbbojmclkgaaGreatDoor
namespace Go.Trem
open Go Go.Abs
def Bet.ok(b:Bet):Bool:=bF b.den 2 1000 && (bF b.num 1 (b.den-1) && (bF b.b 1 1000 && (bF b.a 0 b.b && bF b.afI 2 1000)))
def next(b:Bet)(c:Int)(hit:Bool):Int:=if hit then min (c*(b.b*b.num+b.a*(b.den-b.num)) / (b.b*b.num)) 1000000000000 else c*(b.b-b.a) / b.b
structure amr(b:Bet)(c:Int):Prop where
 w1:IntKind.i64.wrap (b.b*b.num)=b.b*b.num
 w2:IntKind.i64.wrap (b.den-b.num)=b.den-b.num
 w3:IntKind.i64.wrap (b.a*(b.den-b.num))=b.a*(b.den-b.num)
 w4:IntKind.i64.wrap (b.b*b.num+b.a*(b.den-b.num))=b.b*b.num+b.a*(b.den-b.num)
 w5:IntKind.i64.wrap (c*(b.b*b.num+b.a*(b.den-b.num)))=c*(b.b*b.num+b.a*(b.den-b.num))
 w6:IntKind.i64.wrap ((c*(b.b*b.num+b.a*(b.den-b.num))).tdiv (b.b*b.num))=c*(b.b*b.num+b.a*(b.den-b.num)) / (b.b*b.num)
 w7:b.b*b.num≠0
 w8:IntKind.i64.wrap (b.b-b.a)=b.b-b.a
 w9:IntKind.i64.wrap (c*(b.b-b.a))=c*(b.b-b.a)
 w10:IntKind.i64.wrap ((c*(b.b-b.a)).tdiv b.b)=c*(b.b-b.a) / b.b
 w11:b.b≠0
 w12:∀h,0<=next b c h/\next b c h<=1000000000000
 w13:min (c*(b.b-b.a) / b.b) 1000000000000=c*(b.b-b.a) / b.b
def fy(k0 k1 k2:Int):Bool:=decide (k0<=1000) && (decide (k1<=k0) && (decide (k2<=k1) && decide (0<=k2)))
def Yi(n:Int):Bool:=bF n 0 1000000000
theorem abT{o:List Int}{i:Nat}(hi:i<o.length)(v:Int):(fM o aO).take i++(iI v::(fM o aO).drop (i+1))=fM (o.set i v) aO:=by
 induction o generalizing i with
 |nil=>simp at hi
 |cons a o ih =>
  cases i with
  |zero=>simp
  |succ i=>simp at hi;simpa using ih hi
theorem Wv(n:Nat):(fM (List.range n) λ_=>[iI 0])=fM (List.replicate n (0:Int)) aO:=by
 induction n with
 |zero=>rfl
 |succ n ih=>rw[List.range_succ,o7,ih,List.replicate_succ',o7];rfl
end Go.Trem
namespace Go.Proofs.YtpapbbojmclkgaaGreatDoor
open Go Go.Abs Go.Trem
variable {J:SK}
theorem Kz{a:Int}:Cl 245 [iI a] (.bool (Yi a)) J:=by
 refine ar ?_;simp[iM,Yi]
structure ams(p k:Int):Prop where
 w1:IntKind.i64.wrap (p*k)=p*k
 w2:IntKind.i64.wrap ((p*k).tdiv 1000)=p*k / 1000
 w3:0<=p*k / 1000
 w4:p*k / 1000<=1000000000
theorem ZY{acc:List Int}{k:Nat}{v:Int}:(acc++List.replicate (k+1) 0).set acc.length v=(acc++[v])++List.replicate k 0:=by
 rw[List.set_append_right _ _ (aN _)];simp[List.replicate_succ]
end Go.Proofs.YtpapbbojmclkgaaGreatDoor
namespace Go.Trem
open Go Go.Abs
structure oc where
 p:Pt
 mag:Int
structure Ev where
 tick:Int
 sp:List oc
structure cc where
 lo:Pt
 hi:Pt
 least:Int
 vq:Int
 count:Int
 Oh:Int
@[simp] theorem oc.eta(p:oc):oc.mk p.p p.mag=p:=rfl
@[simp] theorem Ev.eta(p:Ev):Ev.mk p.tick p.sp=p:=rfl
@[simp] theorem cc.eta(p:cc):cc.mk p.lo p.hi p.least p.vq p.count p.Oh=p:=rfl
@[simp] def oc.enc(s:oc):List D:=[iI s.p.x,iI s.p.y,iI s.p.z,iI s.mag]
@[simp] def Ev.enc(e:Ev):List D:=[iI e.tick,lF e.sp oc.enc]
@[simp] def cc.enc(r:cc):List D:=[iI r.lo.x,iI r.lo.y,iI r.lo.z,iI r.hi.x,iI r.hi.y,iI r.hi.z,iI r.least,iI r.vq,iI r.count,.int .u8 r.Oh]
def Sp:Elt oc:=yI 4 oc.enc λ_=>rfl
def aiv:Elt Ev:=yI 2 Ev.enc λ_=>rfl
def abE:Elt cc:=yI 10 cc.enc λ_=>rfl
def cc.Kc(r:cc)(s:oc):Bool:=decide (r.least<=s.mag) && (bF s.p.x r.lo.x r.hi.x && (bF s.p.y r.lo.y r.hi.y && bF s.p.z r.lo.z r.hi.z))
def cc.ok(r:cc):Bool:=uZ r.lo r.hi && (bF r.least 0 160 && (bF r.vq 1 1000000 && (bF r.count 1 200 && (r.Oh == 1 || r.Oh == 2))))
def oc.ok(s:oc):Bool:=s.p.ok && bF s.mag 0 160
def Ev.ok(e:Ev):Bool:=bF e.tick 0 1000000 && (bF e.sp.length 1 2000 && dq e.sp oc.ok)
def cc.act(r:cc)(now:Int)(e:Ev):Bool:=decide (now-r.vq<e.tick) && decide (e.tick<=now)
def z8(f:Ev->Bool):List Ev->Nat
 |[]=>0
 |e::l=>z8 f l+(if f e then 1 else 0)
def tN(r:cc)(now:Int)(e:Ev):Bool:=r.act now e && mK e.sp r.Kc
def mN(r:cc)(now:Int)(e:Ev):Bool:=r.act now e && dq e.sp r.Kc
def vP(f:cc->Ev->Bool)(l:List Ev):List cc->Int->Int
 |[],a=>a
 |r::R,a=>vP f l R (if r.count<=z8 (f r) l then max a r.Oh else a)
def Nw(R:List cc)(l:List Ev)(now:Int):Int:=vP (λr=>tN r now) l R 0
def Ph(R:List cc)(l:List Ev)(now:Int):Int:=vP (λr=>mN r now) l R 0
def lA(R:List cc)(l:List Ev)(now:Int):Int :=
 if 20<R.length then 3 else if dq R cc.ok=false then 1 else if 200<l.length then 3 else if dq l Ev.ok=false then 1 else if bF now 0 1000000=false then 2 else 0
theorem zP{r:cc}:r.ok=true↔uZ r.lo r.hi=true/\(0<=r.least/\r.least<=160)/\(1<=r.vq/\r.vq<=1000000)/\(1<=r.count/\r.count<=200)/\(r.Oh=1\/r.Oh=2):=by
 simp only[cc.ok,ah,aQ,cn,beq_iff_eq]
end Go.Trem
namespace Go.Proofs.YtpapbbojmclkgaaGreatDoor
open Go Go.Abs Go.Trem
variable {J:SK}
theorem PD{r:cc}{s:oc}:Cl 119 [.agg r.enc,.agg s.enc] (.bool (r.Kc s)) J:=by
 refine ar ?_;by_cases hc1:r.least<=s.mag
 rotate_left
 .simp[cc.Kc,hc1]
 cases hc2:bF s.p.x r.lo.x r.hi.x
 .simp[iM,cc.Kc,hc1,hc2]
 cases hc3:bF s.p.y r.lo.y r.hi.y
 .simp[iM,cc.Kc,hc1,hc2,hc3]
 simp[iM,cc.Kc,hc1,hc2,hc3]
theorem PJ{r:cc}:Cl 115 [.agg r.enc] (.bool r.ok) J:=by
 refine ar ?_;cases hc1:uZ r.lo r.hi
 .simp[MM,cc.ok,hc1]
 cases hc2:bF r.least 0 160
 .simp[iM,MM,cc.ok,hc1,hc2]
 cases hc3:bF r.vq 1 1000000
 .simp[iM,MM,cc.ok,hc1,hc2,hc3]
 cases hc4:bF r.count 1 200
 .simp[iM,MM,cc.ok,hc1,hc2,hc3,hc4]
 by_cases hc5:r.Oh=1
 rotate_left
 .simp[iM,MM,cc.ok,hc1,hc2,hc3,hc4,hc5]
 simp[iM,MM,cc.ok,hc1,hc2,hc3,hc4,hc5]
theorem ahO{s:oc}:Cl 154 [.agg s.enc] (.bool s.ok) J:=by
 refine ar ?_;cases hc1:Pt.ok s.p
 .simp[yA,oc.ok,hc1]
 simp[iM,yA,oc.ok,hc1]
theorem MK{l:List oc}{p:oc->Bool}{fv:D}(ht:pA T fv Sp.val p l)(hc:fv.cells=some [fv])(hl:l.length<=9223372036854775807):
  Cl 121 [lF l oc.enc,fv] (.bool (dq l p)) J :=
 CL Sp Bb yD lM ng hl ht hc
theorem PE{e:Ev}(hl:e.sp.length<=9223372036854775807):Cl 117 [.agg e.enc] (.bool e.ok) J:=by
 refine ar ?_;have ha:=λJ=>@MK J e.sp oc.ok (.fn 154 [] []) (.fn λs _ J=>ahO) rfl hl
 cases hc1:bF e.tick 0 1000000
 .simp[iM,Ev.ok,hc1]
 cases hc2:bF e.sp.length 1 2000
 .simp[iM,Ev.ok,hc1,hc2]
 simp[iM,ha,Ev.ok,hc1,hc2]
theorem RW{R:List cc}(hl:R.length<=9223372036854775807):
  Cl 114 [lF R cc.enc,.fn 115 [] []] (.bool (dq R cc.ok)) J :=
 CL abE Ba yC tQ vt hl (.fn λr _ J=>PJ) rfl
theorem W5{l:List Ev}(hl:l.length<=9223372036854775807)(hs:∀e∈l,e.sp.length<=9223372036854775807):
  Cl 116 [lF l Ev.enc,.fn 117 [] []] (.bool (dq l Ev.ok)) J :=
 CL aiv z7 yi sS uV hl (.fn λr hr J=>PE (hs r hr)) rfl
end Go.Proofs.YtpapbbojmclkgaaGreatDoor
namespace Go.Book
open Go Go.Abs Go.Rock
structure dU where
 m:cg
 left:Bool
 Of:Int
structure DW where
 line:Int
 value:Int
 lo:Int
 hi:Int
structure Prt where
 width:Int
 lj:Int
structure jD where
 vo:Int
 parts:List Prt
structure GG where
 tick:Int
 To:Int
 wlo:Int
 whi:Int
 mlo:Int
 mhi:Int
structure Bk where
 aR:bU
 aj:List dU
 az:List (List Int)
 rules:List Trem.cc
 lL:List Trem.Ev
 k0:Int
 k1:Int
 k2:Int
 cp:List jD
 cA:List GG
 ready:Bool
 eg:List DW
 at_:Int
@[simp] def dU.enc(e:dU):List D:=[.str e.m.name,lF e.m.dh aO,.bool e.left,iI e.Of]
@[simp] def DW.enc(e:DW):List D:=[iI e.line,iI e.value,iI e.lo,iI e.hi]
@[simp] def Prt.enc(e:Prt):List D:=[iI e.width,iI e.lj]
@[simp] def jD.enc(e:jD):List D:=[iI e.vo,lF e.parts Prt.enc]
@[simp] def GG.enc(e:GG):List D:=[iI e.tick,iI e.To,iI e.wlo,iI e.whi,iI e.mlo,iI e.mhi]
def nl{α:Type}(f:α->List D)(l:List α):D:=if l=[]then .bu else lF l f
def pE(r:List Int):List D:=[lF r aO]
def Bk.cells(L:Nat)(b:Bk):List D:=[iI b.aR.f.x,iI b.aR.f.y,iI b.aR.f.z,iI b.aR.f.k,nl Rw.enc b.aR.c9,iI b.aR.cG,iI b.aR.lift,iI b.aR.deep,nl bA.enc b.aR.aw,
 .sl L 0 b.aj.length 0 b.aj.length 4,nl pE b.az,.sl L 1 b.rules.length 0 b.rules.length 10,.sl L 2 b.lL.length 0 b.lL.length 2,iI b.k0,iI b.k1,iI b.k2,
 .sl L 3 b.cp.length 0 b.cp.length 2,.sl L 4 b.cA.length 0 b.cA.length 6,.bool b.ready,.sl L 5 b.eg.length 0 b.eg.length 4,iI b.at_]
def Bk.bD(L:Nat)(b:Bk)(er:List Int):List Abs.aF:=[.cells b.aj.length (fM b.aj dU.enc),.cells b.rules.length (fM b.rules Trem.cc.enc),.cells b.lL.length (fM b.lL Trem.Ev.enc),.cells b.cp.length (fM b.cp jD.enc),
 .cells b.cA.length (fM b.cA GG.enc),.cells b.eg.length (fM b.eg DW.enc),.cells 0 (b.cells L),.cells er.length (fM er aO)]
def iD:Bk:=⟨⟨⟨0,0,0,0⟩,[],0,0,0,[]⟩,[],[],[],[],1000,500,0,[],[],false,[],0⟩
def Prt.ok(last:Int)(p:Prt):Bool:=bF p.lj 0 last && bF p.width 1 100000
def Bf:Int->List Prt->Bool
 |_,[]=>true
 |last,p::l=>p.ok last && Bf p.lj l
def jD.ok(u:jD):Bool:=bF u.vo 0 5 && (bF u.parts.length 1 8 && Bf 1000 u.parts)
def lu(l:List Prt):Nat->Int
 |0=>1000
 |i+1=>match l[i]? with
  |some p=>p.lj
  |none=>0
def Cn(l:List Prt)(i:Nat):Bool:=match l[i]? with
 |some p=>p.ok (lu l i)
 |none=>true
theorem Na{l:List Prt}:Bf 1000 l=true↔∀j,j<l.length->Cn l j=true:=by
 have key:∀(r pre:List Prt),l=pre++r->(Bf (lu l pre.length) r=true↔∀j,j<r.length->Cn l (pre.length+j)=true):=by
  intro r;induction r with
  |nil=>intro pre h;simp[Bf]
  |cons p r ih =>
   intro pre h;have hp:l[pre.length]?=some p:=by rw[h];simp
   have h1:=ih (pre++[p]) (by rw[h];simp);have h2:lu l (pre++[p]).length=p.lj:=by simp[lu,hp]
   rw[h2]at h1;simp only[Bf,ah,h1];constructor
   .rintro⟨h3,h4⟩ j hj;cases j with
    |zero=>simpa[Cn,hp]using h3
    |succ j =>
     have:=h4 j (by simpa using hj);rwa[show(pre++[p]).length+j=pre.length+(j+1)by simp;omega]at this
   .intro h3;refine⟨?_,λj hj=>?_⟩
    .have:=h3 0 (by simp);simpa[Cn,hp]using this
    .have:=h3 (j+1) (by simpa using hj);rwa[show(pre++[p]).length+j=pre.length+(j+1)by simp;omega]
 have:=key l [] rfl;simpa[lu]using this
def oq(b:Bk)(x y z k:Int):Bk×Int :=
 if(b.aR.f.x=0/\b.aR.f.y=0)/\b.aR.f.z=0/\b.aR.f.k=0 then
  (if(dF.mk x y z k).valid=true/\4<=k then({b with aR:={b.aR with f:=⟨x,y,z,k⟩ } },0)else(b,1))
 else(b,8)
end Go.Book
namespace Go.Abs
open Go
variable {T:DB} {fv:D} {J:SK}
theorem VX{f w:Nat}{ag:Bool}(hT:T f=some (vn ag w))(h1:fv.strip=fv)(h2:fv.calm=fv):dt T (.call false f [.bu,fv] J)=some (.val (iI (-1)) J):=by
 refine pB hT (vn.eq_1 _ _) rfl ?_;simp[h2];refine av (Lu.eq_1 _ _) ?_;simp[h2]
theorem contains_nil{f i w:Nat}{ag:Bool}(hT:T f=some (jf i))(hi:T i=some (vn ag w))(h1:fv.strip=fv)(h2:fv.calm=fv):dt T (.call false f [.bu,fv] J)=some (.val (.bool false) J):=by
 refine pB hT (jf.eq_1 _) rfl ?_;simp[h1,h2,VX hi h1 h2]
theorem all_nil{f g h i w:Nat}{ag:Bool}(hf:T f=some (G8 g h))(hh:T h=some (jf i))(hi:T i=some (vn ag w))(h1:fv.strip=fv)(h2:fv.calm=fv)(hcl:fv.cells=some [fv]):
  dt T (.call false f [.bu,fv] J)=some (.val (.bool true) J):=by
 refine pB hf (G8.eq_1 _ _) rfl ?_;have h3:=λJ=>contains_nil (fv:=.fn g [] [.aZ [fv]]) (J:=J) hh hi rfl rfl
 simp[h1,h3,hcl]
end Go.Abs
namespace Go.Proofs.YtpapbbojmclkgaaGreatDoor
open Go Go.Abs Go.Rock Go.Book
variable {J:SK}
theorem aaL{F:List Abs.aF}{b:Bk}{er:List Int}{nm:List UInt8}{x y z k:Int}{b':Bk}{e:Int}(hd:oq b x y z k=(b',e))(he:e=0):
  dt T (.call false 160 [.ref J.length 6 0 0,.str nm,.bZ 4 [iI x,iI y,iI z,iI k]] (F::b.bD J.length er::J))=some (.val (.cQ []) (F::b'.bD J.length er::J)):=by
 refine fA rfl rfl rfl (by simp) ?_;unfold oq at hd;split at hd
 case isFalse=>cases hd;cases he
 rename_i h1;split at hd
 case isFalse=>cases hd;cases he
 rename_i h2;cases hd;obtain⟨⟨f1,f2⟩,f3,f4⟩:=h1;have hS:(dF.mk x y z k).shape=0:=by simp[dF.shape,h2.1]
 have hC:=λJ=>jx (J:=J) (f:=⟨x,y,z,k⟩)
 simp only[hS]at hC;simp[Bk.bD,Bk.cells,f1,f2,f3,f4,cV,hC,h2.2]
theorem Vj{F:List Abs.aF}{b:Bk}{er:List Int}{nm:List UInt8}{x y z k:Int}{b':Bk}{e:Int}(hd:oq b x y z k=(b',e))(he:e≠0):
  dt T (.call false 160 [.ref J.length 6 0 0,.str nm,.bZ 4 [iI x,iI y,iI z,iI k]] (F::b.bD J.length er::J))=some (.fw (rf e) (F::b.bD J.length er::J)):=by
 refine dZ rfl rfl rfl ?_;have hC:=λJ=>jx (J:=J) (f:=⟨x,y,z,k⟩)
 unfold oq at hd;split at hd
 .rename_i h1;obtain⟨⟨f1,f2⟩,f3,f4⟩:=h1;split at hd
  .cases hd;exact absurd rfl he
  rename_i h2;cases hd;by_cases h3:(dF.mk x y z k).valid=true
  .have h4:¬4<=k:=λhh=>h2 ⟨h3,hh⟩
   have hS:(dF.mk x y z k).shape=0:=by simp[dF.shape,h3]
   simp only[hS]at hC;simp[Bk.bD,Bk.cells,f1,f2,f3,f4,cV,dN,hC,h4,D.clean,rf]
  .have hS:(dF.mk x y z k).shape=1:=by simp[dF.shape,h3]
   simp only[hS]at hC;simp[Bk.bD,Bk.cells,f1,f2,f3,f4,cV,dN,hC,D.clean,rf]
 .rename_i h1;cases hd;have hz:(b.aR.f.x == 0 && (b.aR.f.y == 0 && (b.aR.f.z == 0 && b.aR.f.k == 0)))=false:=by
   cases hb:(b.aR.f.x == 0 && (b.aR.f.y == 0 && (b.aR.f.z == 0 && b.aR.f.k == 0)))with
   |false=>rfl
   |true =>
    simp only[ah,beq_iff_eq]at hb;exact absurd ⟨⟨hb.1,hb.2.1⟩,hb.2.2.1,hb.2.2.2⟩ h1
  simp[Bk.bD,Bk.cells,hz,dN,D.clean,rf]
theorem Jk{k0 k1 k2:Int}(hJ:J≠[]):
  Cl 211 [.bu,.bu,.agg [iI k0,iI k1,iI k2],iI 0] (.cQ [if Trem.fy k0 k1 k2 then .bZ 0 []else .bu,iI (if Trem.fy k0 k1 k2 then 0 else 1)]) J:=by
 refine ar ?_;have hA:=λJ=>all_nil (T:=T) (J:=J) (fv:=.fn 245 [] []) (f:=193) (ag:=false) (w:=1) rfl rfl rfl rfl rfl rfl
 have hB:=λJ=>all_nil (T:=T) (J:=J) (fv:=.fn 247 [] []) (f:=246) (ag:=false) (w:=1) rfl rfl rfl rfl rfl rfl
 have hC:Trem.Yi 0=true:=by decide
 by_cases c1:1000<k0
 .have d1:¬k0<=1000:=by omega
  simp[Trem.fy,hA,hB,Kz,hC,c1,d1]
 have d1:k0<=1000:=by omega
 by_cases c2:k0<k1
 .have d2:¬k1<=k0:=by omega
  simp[Trem.fy,hA,hB,Kz,hC,c1,c2,d1,d2]
 have d2:k1<=k0:=by omega
 by_cases c3:k1<k2
 .have d3:¬k2<=k1:=by omega
  simp[Trem.fy,hA,hB,Kz,hC,c1,c2,c3,d1,d2,d3]
 have d3:k2<=k1:=by omega
 by_cases c4:k2<0
 .have d4:¬0<=k2:=by omega
  simp[Trem.fy,hA,hB,Kz,hC,c1,c2,c3,c4,d1,d2,d3,d4]
 have d4:0<=k2:=by omega
 simp[Trem.fy,hA,hB,Kz,hC,c1,c2,c3,c4,d1,d2,d3,d4];refine av rO.eq_1 ?_;simp[d1,d2,d3,d4];have h3:¬J.length<=J.length-1:=by have:=aH.2 hJ;omega
 refine⟨[.dead],?_⟩;rw[pG (by simp[D.aW,D.clean]) (by omega)];have h6:=GP (l:=J.length-1) (n:=15) (l':=J.length) (i:=0) (v:=0) (off:=0) (m:=0) (w:=1) (J:=[Abs.aF.cells 0 []]::J) (cs:=[]) h3 (by simp) (by omega);simp only[Nat.reduceSub,cH.frzL,h6];simp
def Ly(b:Bk)(k0 k1 k2:Int):Bk:={b with k0:=k0,k1:=k1,k2:=k2 }
theorem aem{F:List Abs.aF}{b:Bk}{er:List Int}{nm:List UInt8}{x y z:Int}(h:Trem.fy x y z=true):
  dt T (.call false 167 [.ref J.length 6 0 0,.str nm,.bZ 3 [iI x,iI y,iI z]] (F::b.bD J.length er::J))=some (.val (.cQ []) (F::(Ly b x y z).bD J.length er::J)):=by
 refine fA rfl rfl rfl (by simp) ?_;have hI:=λJ hJ=>Jk (J:=J) (k0:=x) (k1:=y) (k2:=z) hJ
 simp only[h,if_true]at hI;simp[hI,WB,oo,Bk.bD,Bk.cells,Ly]
theorem Xd{F:List Abs.aF}{b:Bk}{er:List Int}{nm:List UInt8}{x y z:Int}(h:Trem.fy x y z=false):
  dt T (.call false 167 [.ref J.length 6 0 0,.str nm,.bZ 3 [iI x,iI y,iI z]] (F::b.bD J.length er::J))=some (.fw (rf 1) (F::b.bD J.length er::J)):=by
 refine dZ rfl rfl rfl ?_;have hI:=λJ hJ=>Jk (J:=J) (k0:=x) (k1:=y) (k2:=z) hJ
 simp only[h]at hI;have hM:=λJ=>pw (J:=J) (e:=1) (by decide)
 simp[hI,WB,hM,Bk.bD,Bk.cells,D.clean,rf]
theorem Pq{r:Trem.cc}:Cl 76 [.bZ 1 r.enc,.bu,iI 0] (.cQ [.int .u8 0,.int .u8 0,iI (if r.ok then 0 else 1)]) J:=by
 refine ar ?_;have hA:=λJ=>@RW J [r] (by simp)
 try simp only[lF,Cl]at hA
 have hN:=λJ=>all_nil (T:=T) (J:=J) (fv:=.fn 117 [] []) (f:=116) (ag:=true) (w:=2) rfl rfl rfl rfl rfl rfl
 simp only[List.length_singleton,di,ot,cM,dq,jy,List.all_nil,Bool.and_true]at hA;have w0:Trem.bF 0 0 1000000=true:=by decide
 cases hr:r.ok
 .rw[hr]at hA;simp only[Trem.cc.enc]at hA ⊢;simp[hA]
 .rw[hr]at hA;have hc:=(Trem.zP.1 hr).2.2.2.1;have c1:¬r.count<=0:=by omega
  simp only[Trem.cc.enc]at hA ⊢;simp[hA,hN,iM,w0];refine av eS.eq_1 ?_;simp;refine av jj.eq_1 ?_;simp[c1];refine av eS.eq_1 ?_;simp[]
def sT(b:Bk)(r:Trem.cc)(c:Int):Bk×Int :=
 if b.rules.length<20 then(if bF c 1 2=true then(if r.ok=true then({b with rules:=b.rules++[r] },0)else(b,1))else(b,1))else(b,3)
theorem Ri(l:List Trem.cc):(fM l Trem.cc.enc).length=l.length*10:=bQ (f:=Trem.cc.enc) (w:=10) (λ_=>rfl) l
theorem aev{F:List Abs.aF}{b:Bk}{er:List Int}{nm:List UInt8}{x0 x1 x2 x3 x4 x5 x6 x7 x8 x9:Int}{b':Bk}{e:Int}(hd:sT b ⟨⟨x0,x1,x2⟩,⟨x3,x4,x5⟩,x6,x7,x8,x9⟩ x9=(b',e))(he:e=0):
  dt T (.call false 166 [.ref J.length 6 0 0,.str nm,.bZ 10 [iI x0,iI x1,iI x2,iI x3,iI x4,iI x5,iI x6,iI x7,iI x8,iI x9]] (F::b.bD J.length er::J))=some (.val (.cQ []) (F::b'.bD J.length er::J)):=by
 refine fA rfl rfl rfl (by simp) ?_;have hL:=λJ=>Pq (J:=J) (r:=⟨⟨x0,x1,x2⟩,⟨x3,x4,x5⟩,x6,x7,x8,x9⟩)
 unfold sT at hd;split at hd
 case isFalse=>cases hd;cases he
 rename_i h1;split at hd
 case isFalse=>cases hd;cases he
 rename_i h2;split at hd
 case isFalse=>cases hd;cases he
 rename_i h3;cases hd;have h1':(b.rules.length:Int)<20:=by omega
 have h4:=aQ.1 h2;have w1:IntKind.u8.wrap x9=x9:=wu8 (by omega);have w2:(b.rules.length+1)*80<=room:=by unfold room;omega
 have w3:=Ri b.rules;have w4:(fM b.rules Trem.cc.enc).take (b.rules.length*10)=fM b.rules Trem.cc.enc:=af (by omega);simp only[h3,if_true,Trem.cc.enc]at hL;simp[Bk.bD,Bk.cells,h1',eL,h2,cV,w1,hL,oo,w2,w3,w4]
theorem Xz{F:List Abs.aF}{b:Bk}{er:List Int}{nm:List UInt8}{x0 x1 x2 x3 x4 x5 x6 x7 x8 x9:Int}{b':Bk}{e:Int}(hd:sT b ⟨⟨x0,x1,x2⟩,⟨x3,x4,x5⟩,x6,x7,x8,x9⟩ x9=(b',e))(he:e≠0):
  dt T (.call false 166 [.ref J.length 6 0 0,.str nm,.bZ 10 [iI x0,iI x1,iI x2,iI x3,iI x4,iI x5,iI x6,iI x7,iI x8,iI x9]] (F::b.bD J.length er::J))=some (.fw (rf e) (F::b.bD J.length er::J)):=by
 refine dZ rfl rfl rfl ?_;have hL:=λJ=>Pq (J:=J) (r:=⟨⟨x0,x1,x2⟩,⟨x3,x4,x5⟩,x6,x7,x8,x9⟩)
 have hM:=λJ=>pw (J:=J) (e:=1) (by decide)
 unfold sT at hd;split at hd
 .rename_i h1;have h1':(b.rules.length:Int)<20:=by omega
  split at hd
  .rename_i h2;have h4:=aQ.1 h2;have w1:IntKind.u8.wrap x9=x9:=wu8 (by omega);split at hd
   .cases hd;exact absurd rfl he
   .rename_i h3;cases hd;have h3':Trem.cc.ok ⟨⟨x0,x1,x2⟩,⟨x3,x4,x5⟩,x6,x7,x8,x9⟩=false:=by simpa using h3
    simp only[h3',Trem.cc.enc]at hL;simp[Bk.bD,Bk.cells,h1',eL,h2,cV,w1,hL,hM,D.clean,rf]
  .rename_i h2;cases hd;have h2':bF x9 1 2=false:=by simpa using h2
   simp[Bk.bD,Bk.cells,h1',eL,h2',cV,dN,D.clean,rf]
 .rename_i h1;cases hd;have h1':¬(b.rules.length:Int)<20:=by omega
  simp[Bk.bD,Bk.cells,h1',dN,D.clean,rf]
theorem kI{α:Type}{f:α->List D}{l:List α}:(nl f l).rN=lF l f:=by
 unfold nl;split
 .rename_i h;subst h;rfl
 .rfl
theorem afb{l:List bA}:(nl bA.enc l).clean=true:=by unfold nl;split<;>simp[D.clean,yk]
theorem CD{b:bU}{tq wq:D}(htq:tq.rN=lF b.c9 Rw.enc)(hwq:wq.rN=lF b.aw bA.enc)(h1:b.c9.length<=1000000000)(h2:b.aw.length<=1000000000):
  Cl 202 [.agg [iI b.f.x,iI b.f.y,iI b.f.z,iI b.f.k,tq,iI b.cG,iI b.lift,iI b.deep,wq]] (iI (if b.valid then 0 else 1)) J:=by
 refine ar ?_;have hB:=λJ=>D4 (J:=J) (b:=b) h1 h2
 cases hv:b.valid<;>rw[hv]at hB<;>simp[htq,hwq,hB]
def DX(b:Bk)(x y z:Int):Bk:={b with aR:={b.aR with cG:=x,lift:=y,deep:=z },ready:=true }
def yG(b:Bk)(x y z:Int):Bk×Int :=
 if((b.aR.f.x=0/\b.aR.f.y=0)/\b.aR.f.z=0/\b.aR.f.k=0)\/b.aR.c9=[]\/b.ready=true then(b,8)
 else if(DX b x y z).aR.valid=true then(DX b x y z,0)else(b,1)
theorem Ln{f:dF}:(f.x == 0 && (f.y == 0 && (f.z == 0 && f.k == 0)))=decide ((f.x=0/\f.y=0)/\f.z=0/\f.k=0):=by
 by_cases h1:f.x=0<;>by_cases h2:f.y=0<;>by_cases h3:f.z=0<;>by_cases h4:f.k=0<;>simp[h1,h2,h3,h4]
theorem eo{α:Type}{f:α->List D}{l:List α}(h:l≠[]):nl f l=lF l f:=if_neg h
theorem aei{F:List Abs.aF}{b:Bk}{er:List Int}{nm:List UInt8}{x y z:Int}{b':Bk}{e:Int}(h1:b.aR.c9.length<=1000000000)(h2:b.aR.aw.length<=1000000000)(hd:yG b x y z=(b',e))(he:e=0):
  dt T (.call false 162 [.ref J.length 6 0 0,.str nm,.bZ 3 [iI x,iI y,iI z]] (F::b.bD J.length er::J))=some (.val (.cQ []) (F::b'.bD J.length er::J)):=by
 refine fA rfl rfl rfl (by simp) ?_;unfold yG at hd;split at hd
 case isTrue=>cases hd;cases he
 rename_i h0;split at hd
 case isFalse=>cases hd;cases he
 rename_i h3;cases hd;have c1:(b.aR.f.x == 0 && (b.aR.f.y == 0 && (b.aR.f.z == 0 && b.aR.f.k == 0)))=false:=by rw[Ln];simpa using λhh=>h0 (.inl hh)
 have c2:b.aR.c9≠[]:=λhh=>h0 (.inr (.inl hh))
 have c3:b.ready=false:=by cases hr:b.ready with | false=>rfl | true=>exact absurd (.inr (.inr hr)) h0
 have c4:0<b.aR.c9.length:=aH.2 c2;have hcl:(D.bZ b.aR.c9.length (fM b.aR.c9 Rw.enc)).clean=true:=by simp[D.clean,DE]
 have hC:=λJ=>CD (J:=J) (b:=(DX b x y z).aR) (tq:=nl Rw.enc b.aR.c9) (wq:=nl bA.enc b.aR.aw) kI kI h1 h2
 rw[h3]at hC;simp only[eo c2,DX]at hC;simp[Bk.bD,Bk.cells,c1,eo c2,c4,c3,cV,oo,hC,DX,afb,hcl]
theorem W6{F:List Abs.aF}{b:Bk}{er:List Int}{nm:List UInt8}{x y z:Int}{b':Bk}{e:Int}(h1:b.aR.c9.length<=1000000000)(h2:b.aR.aw.length<=1000000000)(hd:yG b x y z=(b',e))(he:e≠0):
  dt T (.call false 162 [.ref J.length 6 0 0,.str nm,.bZ 3 [iI x,iI y,iI z]] (F::b.bD J.length er::J))=some (.fw (rf e) (F::b.bD J.length er::J)):=by
 refine dZ rfl rfl rfl ?_;have hM:=λJ=>pw (J:=J) (e:=1) (by decide)
 unfold yG at hd;split at hd
 .rename_i h0;cases hd;cases c1:(b.aR.f.x == 0 && (b.aR.f.y == 0 && (b.aR.f.z == 0 && b.aR.f.k == 0)))
  .by_cases c2:b.aR.c9=[]
   .simp[Bk.bD,Bk.cells,c1,c2,nl,dN,D.clean,rf]
   .have c4:0<b.aR.c9.length:=aH.2 c2;have c3:b.ready=true:=by
     rw[Ln]at c1;rcases h0 with h | h | h
     .exact absurd h (by simpa using c1)
     .exact absurd h c2
     .exact h
    simp[Bk.bD,Bk.cells,c1,eo c2,c4,c3,dN,D.clean,rf]
  .simp[Bk.bD,Bk.cells,c1,dN,D.clean,rf]
 .rename_i h0;split at hd
  .cases hd;exact absurd rfl he
  rename_i h3;cases hd;have c1:(b.aR.f.x == 0 && (b.aR.f.y == 0 && (b.aR.f.z == 0 && b.aR.f.k == 0)))=false:=by rw[Ln];simpa using λhh=>h0 (.inl hh)
  have c2:b.aR.c9≠[]:=λhh=>h0 (.inr (.inl hh))
  have c3:b.ready=false:=by cases hr:b.ready with | false=>rfl | true=>exact absurd (.inr (.inr hr)) h0
  have c4:0<b.aR.c9.length:=aH.2 c2;have hC:=λJ=>CD (J:=J) (b:=(DX b x y z).aR) (tq:=nl Rw.enc b.aR.c9) (wq:=nl bA.enc b.aR.aw) kI kI h1 h2
  have h3':(DX b x y z).aR.valid=false:=by simpa using h3
  rw[h3']at hC;simp only[eo c2,DX]at hC;simp[Bk.bD,Bk.cells,c1,eo c2,c4,c3,cV,hM,hC,D.clean,rf]
theorem wD(l:List bA):(fM l bA.enc).length=l.length*3:=bQ (f:=bA.enc) (w:=3) (λ_=>rfl) l
theorem MO{bs:List Abs.aF}:dt T (.call true 203 [.bu] (bs::J))=some (.val (.sl J.length (bs.length+1) 0 0 0 3) ((bs++[.cells 0 [],.cells 0 []])::J)):=by
 refine sF rfl rfl rfl ?_;simp
theorem PB{bs:List Abs.aF}{l:List bA}(hne:l≠[])(hl:l.length<=1000000):dt T (.call true 203 [lF l bA.enc] (bs::J)) =
  some (.val (.sl J.length (bs.length+1) 1 0 l.length 3) ((bs++[.cells 0 [],.cells 1 (fM l bA.enc)])::J)):=by
 refine sF rfl rfl rfl ?_;have h7:l.length*24<=room:=by unfold room;omega
 simp[hne,wD,h7]
def om(b:Bk)(x y z:Int):Bk:={b with aR:={b.aR with aw:=b.aR.aw++[⟨x,y,z⟩] } }
def ua(b:Bk)(x y z:Int):Bk×Int :=
 if b.ready=true/\b.aj=[]then(if(om b x y z).aR.valid=true then(om b x y z,0)else(b,1))else(b,8)
theorem aeI{F:List Abs.aF}{b:Bk}{er:List Int}{nm:List UInt8}{x y z:Int}{b':Bk}{e:Int}(ht:b.aR.c9≠[])(h1:b.aR.c9.length<=1000000000)(h2:b.aR.aw.length<=1000000)(hd:ua b x y z=(b',e))(he:e=0):
  dt T (.call false 163 [.ref J.length 6 0 0,.str nm,.bZ 3 [iI x,iI y,iI z]] (F::b.bD J.length er::J))=some (.val (.cQ []) (F::b'.bD J.length er::J)):=by
 refine fA rfl rfl rfl (by simp) ?_;unfold ua at hd;split at hd
 case isFalse=>cases hd;cases he
 rename_i h0;obtain⟨c1,c2⟩:=h0;split at hd
 case isFalse=>cases hd;cases he
 rename_i h3;cases hd;have hC:=λJ=>CD (J:=J) (b:=(om b x y z).aR) (tq:=.bZ b.aR.c9.length (fM b.aR.c9 Rw.enc)) (wq:=.bZ (b.aR.aw.length+1) (fM b.aR.aw bA.enc++[iI x,iI y,iI z])) rfl (by simp[om,D.rN]) h1 (by simp[om];omega)
 rw[h3]at hC;simp only[om]at hC;have hcl:(D.bZ b.aR.c9.length (fM b.aR.c9 Rw.enc)).clean=true:=by simp[D.clean,DE]
 have hroom:(b.aR.aw.length+1)*24<=room:=by unfold room;omega
 have hlen:=wD b.aR.aw;have htake:(fM b.aR.aw bA.enc).take (b.aR.aw.length*3)=fM b.aR.aw bA.enc:=af (by omega);have hcw:D.aW (fM b.aR.aw bA.enc++[iI x,iI y,iI z])=true:=by
  have:=yk (b.aR.aw++[⟨x,y,z⟩]);simpa using this
 have hfr:∀(v:Nat) (S:SK),S.length=J.length+1+1->cH 0 16 (.sl (J.length+1+1) 1 v 0 (b.aR.aw.length+1) 3) ([.cells 0 [],.cells v (fM b.aR.aw bA.enc++[iI x,iI y,iI z])]::S) =
   (.bZ (b.aR.aw.length+1) (fM b.aR.aw bA.enc++[iI x,iI y,iI z]),[.cells 0 [],.dead]::S):=by
  intro v S hS;have:=pM (f:=bA.enc) (w:=3) (λ_=>rfl) (λ_=>by simp[D.clean]) (l:=b.aR.aw++[⟨x,y,z⟩]) (j:=1) (v:=v) (bs:=[Abs.aF.cells 0 [],.cells v (fM b.aR.aw bA.enc++[iI x,iI y,iI z])]) (J:=S) (by intro h;subst h;simp at hS) (by simp);rw[hS]at this;simpa using this
 have h24:24<=room:=by unfold room;omega
 have hcw2:(D.bZ (b.aR.aw.length+1) (fM b.aR.aw bA.enc++[iI x,iI y,iI z])).clean=true:=by simpa[D.clean]using hcw
 by_cases hw:b.aR.aw=[]
 .have hfr':=hfr;simp only[hw,bd,ot,aY,cz]at hfr' hC;have ht':=eo (f:=Rw.enc) ht;simp only[nl]at ht';simp[Bk.bD,Bk.cells,c1,c2,ht',hC,hw,nl,cV,oo,MO,om,hcl,h24,hfr']
 .simp[Bk.bD,Bk.cells,c1,c2,eo ht,eo hw,cV,oo,PB hw h2,om,hcl,hroom,hlen,htake,hfr,hC,hcw2];simp[nl]
theorem XI{F:List Abs.aF}{b:Bk}{er:List Int}{nm:List UInt8}{x y z:Int}{b':Bk}{e:Int}(ht:b.ready=true->b.aR.c9≠[])(h1:b.aR.c9.length<=1000000000)(h2:b.aR.aw.length<=1000000)(hd:ua b x y z=(b',e))(he:e≠0):
  dt T (.call false 163 [.ref J.length 6 0 0,.str nm,.bZ 3 [iI x,iI y,iI z]] (F::b.bD J.length er::J))=some (.fw (rf e) (F::b.bD J.length er::J)):=by
 refine dZ rfl rfl rfl ?_;have hM:=λJ=>pw (J:=J) (e:=1) (by decide)
 have hrc:(D.uJ 200 (.agg [iI 1])).clean=true:=rfl;unfold ua at hd;split at hd
 case isFalse h0 =>
  cases hd;cases c1:b.ready with
  |false=>simp[Bk.bD,Bk.cells,c1,dN,D.clean,rf]
  |true =>
   have c2:b.aj≠[]:=λhh=>h0 ⟨c1,hh⟩
   have c2':((b.aj.length:Int) == 0)=false:=by simpa using c2
   simp[Bk.bD,Bk.cells,c1,c2',dN,D.clean,rf]
 rename_i h0;obtain⟨c1,c2⟩:=h0;have ht:=ht c1;split at hd
 case isTrue=>cases hd;exact absurd rfl he
 rename_i h3;cases hd;have h3':(om b x y z).aR.valid=false:=by simpa using h3
 have hC:=λJ=>CD (J:=J) (b:=(om b x y z).aR) (tq:=.bZ b.aR.c9.length (fM b.aR.c9 Rw.enc)) (wq:=.bZ (b.aR.aw.length+1) (fM b.aR.aw bA.enc++[iI x,iI y,iI z])) rfl (by simp[om,D.rN]) h1 (by simp[om];omega)
 rw[h3']at hC;simp only[om]at hC;have hcl:(D.bZ b.aR.c9.length (fM b.aR.c9 Rw.enc)).clean=true:=by simp[D.clean,DE]
 have hroom:(b.aR.aw.length+1)*24<=room:=by unfold room;omega
 have hlen:=wD b.aR.aw;have htake:(fM b.aR.aw bA.enc).take (b.aR.aw.length*3)=fM b.aR.aw bA.enc:=af (by omega);have hcw:D.aW (fM b.aR.aw bA.enc++[iI x,iI y,iI z])=true:=by
  have:=yk (b.aR.aw++[⟨x,y,z⟩]);simpa using this
 have hfr:∀(v:Nat) (S:SK),S.length=J.length+1+1->cH 0 16 (.sl (J.length+1+1) 1 v 0 (b.aR.aw.length+1) 3) ([.cells 0 [],.cells v (fM b.aR.aw bA.enc++[iI x,iI y,iI z])]::S) =
   (.bZ (b.aR.aw.length+1) (fM b.aR.aw bA.enc++[iI x,iI y,iI z]),[.cells 0 [],.dead]::S):=by
  intro v S hS;have:=pM (f:=bA.enc) (w:=3) (λ_=>rfl) (λ_=>by simp[D.clean]) (l:=b.aR.aw++[⟨x,y,z⟩]) (j:=1) (v:=v) (bs:=[Abs.aF.cells 0 [],.cells v (fM b.aR.aw bA.enc++[iI x,iI y,iI z])]) (J:=S) (by intro h;subst h;simp at hS) (by simp);rw[hS]at this;simpa using this
 have h24:24<=room:=by unfold room;omega
 have hcw2:(D.bZ (b.aR.aw.length+1) (fM b.aR.aw bA.enc++[iI x,iI y,iI z])).clean=true:=by simpa[D.clean]using hcw
 by_cases hw:b.aR.aw=[]
 .have hfr':=hfr;simp only[hw,bd,ot,aY,cz]at hfr' hC;have ht':=eo (f:=Rw.enc) ht;simp only[nl]at ht';simp[Bk.bD,Bk.cells,c1,c2,ht',hC,hw,nl,cV,hM,MO,hcl,h24,hfr',rf,hrc]
 .simp[Bk.bD,Bk.cells,c1,c2,eo ht,eo hw,cV,hM,PB hw h2,hcl,hroom,hlen,htake,hfr,hC,rf,hrc]
theorem LV(l:List Rw):(fM l Rw.enc).length=l.length*5:=bQ (f:=Rw.enc) (w:=5) (λ_=>rfl) l
theorem Se{bp:D}(hb1:bp.calm=bp):∀(rs acc:List Rw),acc.length+rs.length<=1000000 ->
  WL T [0,2,6] false ga [(0,bp),(2,.bZ (rs.length*5) (fM rs Rw.enc)),(6,.sl J.length 0 acc.length 0 acc.length 5)] ([.cells acc.length (fM acc Rw.enc)]::J)
   (λx e J'=>x=.exit 0/\get e 0=bp/\get e 6=.sl J.length 0 (acc++rs).length 0 (acc++rs).length 5/\J'=[.cells (acc++rs).length (fM (acc++rs) Rw.enc)]::J)
 |[],acc,h=>by
  refine av ga.eq_1 ?_;simp[hb1]
 |r::rs,acc,h=>by
  refine av ga.eq_1 ?_;simp only[aE]at h;have⟨e1,q0,q1,q2,q3,q4⟩:(rs.length+1)*5=rs.length*5+5/\(0:Int)<(rs.length:Int)*5+5/\(1:Int)<(rs.length:Int)*5+5/\(2:Int)<(rs.length:Int)*5+5/\(3:Int)<(rs.length:Int)*5+5/\(4:Int)<(rs.length:Int)*5+5:=by omega
  have q5:(5:Int)<=(rs.length:Int)*5+5:=by omega
  have hroom:(acc.length+1)*40<=room:=by unfold room;omega
  have hl:=LV acc;have ht:(fM acc Rw.enc).take (acc.length*5)=fM acc Rw.enc:=af (by omega);have hl2:=LV rs;have ht2:(fM rs Rw.enc).take (rs.length*5)=fM rs Rw.enc:=af (by omega);simp[hb1,e1,q0,q1,q2,q3,q4,q5,hroom,hl,ht];refine WL.to (Se hb1 rs (acc++[r]) (by simp;omega)) (by simp[ht2]) (by simp) λx e J' hh=>?_
  simpa using hh
def Jd(b:Bk)(t:List Rw):Bk:={b with aR:={b.aR with c9:=t } }
def mc(b:Bk)(t:List Rw):Bk×Int:=if b.aR.c9=[]then(if fN t=true then(Jd b t,0)else(b,1))else(b,8)
theorem abd{F:List Abs.aF}{b:Bk}{er:List Int}{nm:List UInt8}{t:List Rw}{b':Bk}{e:Int}(hl:t.length<=1000000)(hd:mc b t=(b',e))(he:e=0):
  dt T (.call false 161 [.ref J.length 6 0 0,.str nm,.bZ (t.length*5) (fM t Rw.enc)] (F::b.bD J.length er::J))=some (.val (.cQ []) (F::b'.bD J.length er::J)):=by
 refine fA rfl rfl rfl (by simp) ?_;unfold mc at hd;split at hd
 case isFalse=>cases hd;cases he
 rename_i h0;split at hd
 case isFalse=>cases hd;cases he
 rename_i h3;cases hd;have hne:t≠[]:=by intro h;subst h;simp[fN,bF]at h3
 have hC:=λJ=>CE (J:=J) (l:=t) (by omega)
 rw[h3]at hC;have hL:=Se (J:=F::b.bD J.length er::J) (bp:=.ref J.length 6 0 0) rfl t [] (by simpa using hl);simp[Bk.bD,Bk.cells,h0,nl,cV];refine WL.to hL (by simp) (by simp[Bk.bD,Bk.cells,h0,nl]) ?_;rintro x e J' ⟨rfl,g0,g6,rfl⟩;have hcl:(D.bZ t.length (fM t Rw.enc)).clean=true:=by simp[D.clean,DE]
 have hfr:∀S:SK,S.length=J.length+1+1->cH 0 16 (.sl (J.length+1+1) 0 t.length 0 t.length 5) ([.cells t.length (fM t Rw.enc)]::S)=(.bZ t.length (fM t Rw.enc),[.dead]::S):=by
  intro S hS;have:=pM (f:=Rw.enc) (w:=5) (λ_=>rfl) (λ_=>by simp[D.clean]) (l:=t) (j:=0) (v:=t.length) (bs:=[Abs.aF.cells t.length (fM t Rw.enc)]) (J:=S) (by intro h;subst h;simp at hS) (by simp);rw[hS]at this;simpa using this
 simp[g0,g6,hfr,hC,oo,hcl,Bk.bD,Bk.cells,h0,nl,hne,Jd];exact⟨rfl,rfl⟩
theorem Vu{F:List Abs.aF}{b:Bk}{er:List Int}{nm:List UInt8}{t:List Rw}{b':Bk}{e:Int}(hl:t.length<=1000000)(hd:mc b t=(b',e))(he:e≠0):
  dt T (.call false 161 [.ref J.length 6 0 0,.str nm,.bZ (t.length*5) (fM t Rw.enc)] (F::b.bD J.length er::J))=some (.fw (rf e) (F::b.bD J.length er::J)):=by
 refine dZ rfl rfl rfl ?_;have hM:=λJ=>pw (J:=J) (e:=1) (by decide)
 have hrc:(D.uJ 200 (.agg [iI 1])).clean=true:=rfl;unfold mc at hd;split at hd
 case isFalse h0 =>
  cases hd;have h0':((b.aR.c9.length:Int) == 0)=false:=by simpa using h0
  simp[Bk.bD,Bk.cells,eo h0,h0',dN,D.clean,rf]
 rename_i h0;split at hd
 case isTrue=>cases hd;exact absurd rfl he
 rename_i h3;cases hd;have h3':fN t=false:=by simpa using h3
 have hC:=λJ=>CE (J:=J) (l:=t) (by omega)
 rw[h3']at hC;have hL:=Se (J:=F::b.bD J.length er::J) (bp:=.ref J.length 6 0 0) rfl t [] (by simpa using hl);simp[Bk.bD,Bk.cells,h0,nl,cV];refine WL.to hL (by simp) (by simp[Bk.bD,Bk.cells,h0,nl]) ?_;rintro x e J' ⟨rfl,g0,g6,rfl⟩;have hcl:(D.bZ t.length (fM t Rw.enc)).clean=true:=by simp[D.clean,DE]
 have hfr:∀S:SK,S.length=J.length+1+1->cH 0 16 (.sl (J.length+1+1) 0 t.length 0 t.length 5) ([.cells t.length (fM t Rw.enc)]::S)=(.bZ t.length (fM t Rw.enc),[.dead]::S):=by
  intro S hS;have:=pM (f:=Rw.enc) (w:=5) (λ_=>rfl) (λ_=>by simp[D.clean]) (l:=t) (j:=0) (v:=t.length) (bs:=[Abs.aF.cells t.length (fM t Rw.enc)]) (J:=S) (by intro h;subst h;simp at hS) (by simp);rw[hS]at this;simpa using this
 simp[g6,hfr,hC,hM,Bk.bD,Bk.cells,h0,nl,rf,hrc]
end Go.Proofs.YtpapbbojmclkgaaGreatDoor
