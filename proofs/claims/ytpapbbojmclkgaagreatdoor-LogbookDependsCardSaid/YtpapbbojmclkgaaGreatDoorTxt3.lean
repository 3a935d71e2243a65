import Derived.Test.YtpapbbojmclkgaaGreatDoorTxt1
set_option linter.all false
namespace Go.Proofs.YtpapbbojmclkgaaGreatDoor
open Go Go.Abs Go.Rock
variable {J:SK}
theorem JM{l i v off:Nat}:dr T (.zG 251 [.ref l i v off] none J)=some (.val (.cK []) J):=by
 refine Dp rfl rfl rfl (by simp[rI];exact⟨rfl,rfl⟩) ?_;simp
theorem Wy{F:List Abs.aG}(hF:F=[.cells 0 [iI 0]]):dr T (.zG 251 [.ref J.length 0 0 0] (some (.ui 428 (.agg []))) (F::J))=some (.val (.cK []) ([.cells 0 [iI 9]]::J)):=by
 subst hF;refine Dp rfl rfl rfl (by simp[rI];exact⟨rfl,rfl⟩) ?_;simp
theorem pF{α:Type}{f:α->Int}:∀{l:List α},bU f l=0->∀x∈l,f x=0
 |[],_,x,hx=>by cases hx
 |a::l,h,x,hx=>by
  simp only[bU]at h;split at h
  .rename_i ha;rcases bw.1 hx with rfl | hx
   .exact ha
   .exact pF h x hx
  .rename_i ha;exact absurd h ha
theorem lf{b:bV}{aw:List (List Int)}(h:tf b aw=0):aw.length<=200/\∀r∈aw,Rv b r:=by
 unfold tf at h;split at h
 .cases h
 .exact⟨by omega,λr hr=>Rv.of (pF h r hr)⟩
def lH(b:bV)(m:bZ)(aw:List (List Int)):Int:=if Bd b m then(if tf b aw=0 then(match Rock.run b m aw with | some _=>0 | none=>9)else tf b aw)else 1
def BO(b:bV)(m:bZ)(aw:List (List Int)):D:=if lH b m aw=0 then(match Rock.run b m aw with | some (ss,ys) => .agg [lF ss lq,lF ys lq] | none => .agg [.bz,.bz])else .agg [.bz,.bz]
theorem Vm{b:bV}{m:bZ}{aw:List (List Int)}{wq:D}(hwq:wq.qY=lF b.av bH.enc)(h1:b.dP.length<=1000000000)(h2:b.av.length<=1000000000)(hn:m.name.length<=1000000000)(hl:m.dz.length<=1000000000)(hp:aw.length<=1000000000)(hs:∀l∈aw,l.length<=1000000000)(hJ:J≠[]):
  Cl 214 [.agg [iI b.f.x,iI b.f.y,iI b.f.z,iI b.f.k,lF b.dP Rw.enc,iI b.cA,iI b.lift,iI b.deep,wq],.agg (mL m),lF aw IY] (.cK [BO b m aw,iI (lH b m aw)]) J:=by
 have hP:=λJ=>VT (J:=J) (b:=b) hp hs
 cases hb:Bd b m
 .have hE:lH b m aw=1:=by simp[lH,hb]
  have hD:BO b m aw=.agg [.bz,.bz]:=by simp[BO,hE]
  rw[hD,hE];refine au ?_;obtain⟨d,hB,hd1,hd2⟩:=Se h1 h2 hn hl hb (J:=[.cells 0 [iI 0]]::J);simp[hwq,hB,hd1]
 .have hB:=λJ=>abn (J:=J) h1 h2 hn hl hb
  by_cases hq:tf b aw=0
  .obtain⟨p1,p2⟩:=lf hq;simp only[Bd,af]at hb;have hf:Fv b m:=Fv.of (by simp[Bd,hb]);have hb':Bd b m=true:=by simp[Bd,hb]
   refine O3 OW zU.eq_1 rfl rfl ?_;cases hrun:Rock.run b m aw with
   |none =>
    have hE:lH b m aw=9:=by simp[lH,hb',hq,hrun]
    have hD:BO b m aw=.agg [.bz,.bz]:=by simp[BO,hE]
    have hR:=λJ=>Sj (J:=J) hf p1 p2 hrun
    have hX:wN T (.fn 251 [] []) [.ref J.length 0 0 0] (some (.ui 428 (.agg []))) ([.cells 0 [iI 0]]::J)=some ([.cells 0 [iI 9]]::J):=u7 (Wy rfl);rw[hD,hE];simp[toD,hwq,hB,hP,hq];rw[Bh tM.eq_1];simp[O9,hX,hR]
   |some p =>
    obtain⟨ss,ys⟩:=p;have hE:lH b m aw=0:=by simp[lH,hb',hq,hrun]
    have hD:BO b m aw=.agg [lF ss lq,lF ys lq]:=by simp[BO,hE,hrun]
    have hX:wN T (.fn 251 [] []) [.ref J.length 0 0 0] none ([.cells 0 [iI 0]]::J)=some ([.cells 0 [iI 0]]::J):=u7 JM;have hR:=λJ hJ=>Sk (J:=J) hf p1 p2 hJ hrun
    rw[hD,hE];simp[toD,hwq,hB,hP,hq];rw[Bh tM.eq_1];simp[O9,hX,hR];rw[ek (by simp[D.clean,abB]) (by omega)];exact⟨_,rfl⟩
  .have hE:lH b m aw=tf b aw:=by simp[lH,hb,hq]
   have hD:BO b m aw=.agg [.bz,.bz]:=by simp[BO,hE,hq]
   rw[hD,hE];refine au ?_;simp[hwq,hB,hP,hq]
end Go.Proofs.YtpapbbojmclkgaaGreatDoor
namespace Go.Book
open Go Go.Abs Go.Rock
def FX(s:List UInt8):Option Int:=if((rJ s).1=0/\ij (rJ s).2=s)/\bC (rJ s).2 (-999999999) 999999999=true then some (rJ s).2 else none
def mQ:List (List UInt8)->Option (List Int)
 |[]=>some []
 |s::l=>match FX s with
  |some n=>(mQ l).map (n :: ·)
  |none=>none
structure Wd where
 named:Bool
 least:Int
 step:Int
 k:Nat
def mr:List (List UInt8×Wd):=[
 ([102,105,101,108,100],⟨false,4,0,0⟩),([116,97,98,108,101],⟨false,0,5,1⟩),([98,101,100],⟨false,3,0,2⟩),([119,101,108,108],⟨false,3,0,3⟩),
 ([109,111,100,101,108],⟨true,0,1,4⟩),([108,111,103],⟨true,3,2,5⟩),([114,117,108,101],⟨false,10,0,6⟩),([107,101,101,112],⟨false,3,0,7⟩),
 ([113,117,97,107,101],⟨false,0,4,8⟩),([116,105,99,107],⟨false,0,1,9⟩),([114,101,97,100],⟨false,4,0,10⟩),([117,110,105,116],⟨false,1,2,11⟩),([115,101,108,108],⟨false,4,0,12⟩)]
def Da(s:List UInt8):List (List UInt8×Wd)->Option Wd
 |[]=>none
 |(k,w)::l=>if s=k then some w else Da s l
def xC(s:List UInt8):Option Wd:=Da s mr
theorem BG{s:List UInt8}{w:Wd}:∀{l:List (List UInt8×Wd)},Da s l=some w->(s,w)∈l
 |[],h=>by cases h
 |(k,v)::l,h=>by
  simp only[Da]at h;split at h
  .rename_i e;cases h;subst e;simp
  .exact List.mem_cons_of_mem _ (BG h)
theorem Hl{s:List UInt8}{w:Wd}(h:xC s=some w):0<=w.least/\w.least<=10/\0<=w.step/\w.step<=5/\w.k<13:=by
 have h1:=BG h;simp only[mr,bw,ar,List.not_mem_nil,or_false]at h1;rcases h1 with⟨_,rfl⟩ | ⟨_,rfl⟩ | ⟨_,rfl⟩ | ⟨_,rfl⟩ | ⟨_,rfl⟩ | ⟨_,rfl⟩ | ⟨_,rfl⟩ | ⟨_,rfl⟩ | ⟨_,rfl⟩ | ⟨_,rfl⟩ | ⟨_,rfl⟩ | ⟨_,rfl⟩ | ⟨_,rfl⟩<;>simp
def FO(w:Wd)(n:Int):Bool:=decide (n-w.least=0) || (decide (0<n-w.least) && (decide (0<w.step) && decide ((n-w.least).tmod w.step=0)))
def rF(w:Wd)(name:List UInt8)(l:List (List UInt8)):Option (Wd×List UInt8×List Int) :=
 match mQ l with
 |some ns=>if FO w ns.length=true then some (w,name,ns)else none
 |none=>none
def parse(s:List UInt8):Option (Wd×List UInt8×List Int) :=
 match dn 32 s with
 |[]=>none
 |a::all=>match xC a with
  |none=>none
  |some w=>if w.named=true then(match all with
   |[]=>none
   |n::r=>rF w n r)else rF w [] all
theorem tn(b:UInt8)(s:List UInt8):dn b s≠[]:=by
 cases s with
 |nil=>simp[dn]
 |cons c r =>
  simp only[dn];split
  .simp
  .split<;>simp
theorem CL(b:UInt8):∀s:List UInt8,(dn b s).length<=s.length+1
 |[]=>by simp[dn]
 |c::r=>by
  have:=CL b r;simp only[dn];split
  .simp;omega
  .split
   .rename_i h;rw[h]at this;simp at this ⊢;omega
   .simp
end Go.Book
namespace Go.Proofs.YtpapbbojmclkgaaGreatDoor
open Go Go.Abs Go.Rock Go.Book
variable {J:SK}
theorem zd{T:CT}{kp:Bool}{f k:Nat}{args:List D}{J:SK}{r:R}(hT:T f=none)(hN:T (1000000+f)=some ⟨k,[],.exit 0⟩)(h:D4 k args J=some r):dr T (.call kp f args J)=some r :=
 gS (by simp[dF,hT,hN,h])
def rf(e:Int):D:=.ui 200 (.agg [iI e])
theorem cQ{e:Int}:Cl 127 [.bool true,iI e] (.cK []) J:=by
 refine au ?_;simp
theorem dM{e:Int}:dr T (.call false 127 [.bool false,iI e] J)=some (.fu (rf e) J):=by
 refine dX rfl rfl rfl ?_;simp[ad7,D.clean,rf]
theorem nQ:Cl 200 [iI 0] (.cK []) J:=by
 refine au ?_;simp[cQ]
theorem oV{e:Int}(h:e≠0):dr T (.call false 200 [iI e] J)=some (.fu (rf e) J):=by
 refine dX rfl rfl rfl ?_;have h':(e == 0)=false:=by simpa using h
 simp[dM,h',D.clean,rf]
theorem ej{a b c:Int}:Cl 36 [iI a,iI b,iI c] (.bool (bC a b c)) J:=by
 refine au ?_;by_cases h:b<=a<;>simp[h,bC]
theorem wK{n:Int}(h : -9223372036854775808<=n/\n<=9223372036854775807):Cl 42 [iI n] (.str (ij n)) J :=
 zd JK JD (by simp[D4,h])
theorem ML{s:List UInt8}(h:s.length<=1000000):Cl 173 [.str s] (.cK [iI (rJ s).2,if(rJ s).1=0 then .nK else .ui 408 .undef]) J :=
 zd JJ JC (by simp[D4,h])
theorem Ej{s:List UInt8}(h:s.length<=1000000):Cl 125 [.str s,.str [32]] (.bT (dn 32 s).length ((dn 32 s).map .str)) J :=
 zd IW IT (by simp[D4,h])
theorem M4(s:List UInt8) : -9223372036854775808<=(rJ s).2/\(rJ s).2<=9223372036854775807:=by
 unfold rJ;split
 .rename_i v h;cases s with
  |nil=>cases h
  |cons c r =>
   simp only[Lib.atoiAll]at h;split at h
   .cases h
   .cases h
   .rename_i u hu;split at h
    .cases h
    .split at h
     .cases h
     .cases h;dsimp only;split<;>omega
 .simp
 .simp only[Lib.atoiSat];split<;>simp
theorem VP{s:List UInt8}(hl:s.length<=1000000){n:Int}(h:FX s=some n):Cl 128 [.str s] (iI n) J:=by
 unfold FX at h;simp only[aJ,ae]at h;obtain⟨⟨⟨h1,h2⟩,h3⟩,rfl⟩:=h;refine au ?_;simp[ML hl,h1,wK (M4 s),h2,ia,ej,h3,cQ]
theorem QM{s:List UInt8}(hl:s.length<=1000000)(h:FX s=none):dr T (.call false 128 [.str s] J)=some (.fu (rf 4) J):=by
 refine dX rfl rfl rfl ?_;unfold FX at h;simp only[ite_eq_right_iff,reduceCtorEq,imp_false,not_and]at h;by_cases h1:(rJ s).1=0
 .by_cases h2:ij (rJ s).2=s
  .have h3:bC (rJ s).2 (-999999999) 999999999=false:=by simpa using h ⟨h1,h2⟩
   simp[ML hl,h1,wK (M4 s),h2,ia,ej,h3,dM,D.clean,rf]
  .simp[ML hl,h1,wK (M4 s),h2,ia,dM,D.clean,rf]
 .simp[ML hl,h1,dM,D.clean,rf]
def Mn:List Nat:=[160,161,162,163,164,165,166,167,168,169,170,171,172]
def QD(w:Wd):List D:=[.bool w.named,iI w.least,iI w.step,.fn ((Mn[w.k]?).getD 0) [] []]
def jk(l:List (List UInt8×Wd)):List D:=l.map λp => .cK [.str p.1,.agg (QD p.2)]
theorem Ke{s:List UInt8}:∀{l:List (List UInt8×Wd)},Da s l=none->pD none (.str s) (jk l)=some none
 |[],_=>rfl
 |(k,w)::l,h=>by
  simp only[Da]at h;split at h
  .cases h
  .rename_i hk;have hb:(s == k)=false:=by simpa using hk
   have:=Ke h;simp only[jk,aM,pD,sS,hb]at this ⊢;rw[this];rfl
theorem L4{s:List UInt8}{w:Wd}:∀{l:List (List UInt8×Wd)},Da s l=some w->∃j,pD none (.str s) (jk l)=some (some (j,.agg (QD w)))
 |[],h=>by cases h
 |(k,v)::l,h=>by
  simp only[Da]at h;split at h
  .rename_i hk;cases h;subst hk;exact⟨0,by simp[jk,pD,sS]⟩
  .rename_i hk;have hb:(s == k)=false:=by simpa using hk
   obtain⟨j,hj⟩:=L4 h;exact⟨j+1,by
    simp only[jk,aM,pD,sS,hb]at hj ⊢;rw[hj];rfl⟩
theorem aj1{S:SK}{l i:Nat}{pre:List (List UInt8×Wd)}{k:List UInt8}{w:Wd}(h:cells? S l i 0=some (jk pre))(hn:Da k pre=none)(hl:l+1=S.length):
  Dc S (.put none) [.jU l i,.str k,.agg (QD w)]=some (.undef,bj S l i (.cells 0 (jk (pre++[(k,w)])))):=by
 have h1:=Ke hn;simp only[Dc,Dg,h,aZ,h1];simp[sS,hl,jk]
theorem Uz{S:SK}{l i:Nat}{s:List UInt8}(h:cells? S l i 0=some (jk mr)):
  Dc S (.get none (.agg [.bool false,iI 0,iI 0,.pR]) true) [.jU l i,.str s] =
   some (match xC s with | some w => .cK [.agg (QD w),.bool true] | none => .cK [.agg [.bool false,iI 0,iI 0,.pR],.bool false],S):=by
 simp only[Dc,Dg,h,aZ];cases hw:xC s with
 |none=>rw[Ke hw];simp[sS]
 |some w=>obtain⟨j,hj⟩:=L4 hw;rw[hj];simp[sS]
theorem El{bs:List Abs.aG}:dr T (.call true 126 [] (bs::J))=some (.val (.jU J.length bs.length) ((bs++[.cells 0 (jk mr)])::J)):=by
 refine vy rfl rfl rfl ?_;have hm:Dc (bs::J) .make []=some (.jU J.length bs.length,(bs++[.cells 0 []])::J):=by simp[Dc]
 have hp:∀(pre:List (List UInt8×Wd)) (k:List UInt8) (w:Wd),Da k pre=none->Dc ((bs++[.cells 0 (jk pre)])::J) (.put none) [.jU J.length bs.length,.str k,.agg (QD w)]=some (.undef,(bs++[.cells 0 (jk (pre++[(k,w)]))])::J):=by
  intro pre k w hn;have h1:cells? ((bs++[.cells 0 (jk pre)])::J) J.length bs.length 0=some (jk pre):=by simp
  have h2:J.length+1=((bs++[Abs.aG.cells 0 (jk pre)])::J).length:=by simp
  have h3:=aj1 (w:=w) h1 hn h2;refine h3.trans ?_;simp
 have p:=λ(j:Nat) (hj:j<13)=>hp (mr.take j) ((mr[j]?).getD ([],⟨false,0,0,0⟩)).1 ((mr[j]?).getD ([],⟨false,0,0,0⟩)).2
 have p0:=p 0 (by omega) (by decide);have p1:=p 1 (by omega) (by decide);have p2:=p 2 (by omega) (by decide);have p3:=p 3 (by omega) (by decide);have p4:=p 4 (by omega) (by decide);have p5:=p 5 (by omega) (by decide);have p6:=p 6 (by omega) (by decide);have p7:=p 7 (by omega) (by decide);have p8:=p 8 (by omega) (by decide);have p9:=p 9 (by omega) (by decide);have p10:=p 10 (by omega) (by decide);have p11:=p 11 (by omega) (by decide);have p12:=p 12 (by omega) (by decide);simp[mr,jk,QD,Mn]at p0 p1 p2 p3 p4 p5 p6 p7 p8 p9 p10 p11 p12;simp[hm,p0,p1,p2,p3,p4,p5,p6,p7,p8,p9,p10,p11,p12,mr,jk,QD,Mn]
@[simp] def cm(s:List UInt8):List D:=[.str s]
def Tm(cs:List D)(name:List UInt8)(M:Abs.aG)(J:SK)(acc:List Int)(r:Option (List Int))(x:Abs.Exit)(e:Env)(J':SK):Prop:=match r with
 |some ns=>x=.exit 0/\get e 2=.own 0 cs/\get e 3=.str name/\get e 4=.sl J.length 0 (acc++ns).length 0 (acc++ns).length 1/\J'=[.cells (acc++ns).length (fM (acc++ns) aO),M]::J
 |none=>x=.fu (rf 4)/\∃bF,J'=bF::J
theorem JB{all:List (List UInt8)}(hs:∀s∈all,s.length<=1000000)(hl:all.length<=1000001){cs:List D}{name:List UInt8}{M:Abs.aG}:∀(k i:Nat) (acc:List Int),i+k=all.length->acc.length=i ->
  WL T [2,3,4,35,36,37] false jy [(2,.own 0 cs),(3,.str name),(4,.sl J.length 0 i 0 i 1),(35,lF all cm),(36,iI all.length),(37,iI i)]
   ([.cells i (fM acc aO),M]::J) (Tm cs name M J acc (mQ (all.drop i)))
 |0,i,acc,hi,ha=>by
  refine aA jy.eq_1 ?_;obtain rfl:i=all.length:=by omega
  have h5:all.drop all.length=[]:=an (by omega);simp[h5,mQ,Tm,ha]
 |k+1,i,acc,hi,ha=>by
  refine aA jy.eq_1 ?_;have⟨hlt,hii⟩:i<all.length/\(i:Int)<i+1:=by omega
  obtain⟨s,hx⟩:=gE hlt;have h4:=cg hlt;have h5:=bx hx;have a1:=bd (f:=cm) (w:=1) (λ_=>rfl) hx;simp only[cm,bS]at a1;have hsl:=hs s (aj hx);rw[h5];simp only[mQ];have hr:(i+1)*8<=room:=by unfold room;omega
  cases hn:FX s with
  |none =>
   simp[hlt,a1,QM hsl hn,Tm]
  |some n =>
   have hc:(fM acc aO).length=i:=by simp[b8 (f:=aO) (w:=1) (λ_=>rfl),ha]
   have ht:(fM acc aO).take i=fM acc aO:=ah (by omega);simp[hlt,a1,VP hsl hn,hr,h4,hc,ht];refine WL.to (JB (cs:=cs) (name:=name) (M:=M) hs hl k (i+1) (acc++[n]) (by omega) (by simp[ha])) (by simp) (by simp) λx e J' hh=>?_
   cases hm:mQ (all.drop (i+1))with
   |none=>rw[hm]at hh;exact hh
   |some ns=>rw[hm]at hh;simpa[Tm]using hh
theorem BN:∀{l:List (List UInt8)} {ns:List Int},mQ l=some ns->ns.length=l.length
 |[],ns,h=>by simp only[mQ,ae]at h;subst h;rfl
 |s::l,ns,h=>by
  simp only[mQ]at h;split at h
  .rename_i n hn;simp only[ad]at h;obtain⟨m,h1,rfl⟩:=h;simp[BN h1]
  .cases h
theorem gV(w:Wd):QD w=[.bool w.named,iI w.least,iI w.step,.fn ((Mn[w.k]?).getD 0) [] []]:=rfl
theorem Jl(l:List (List UInt8)):l.map D.str=fM l cm:=by induction l with | nil=>rfl | cons s l ih=>simp[ih]
theorem Oy{s:List UInt8}(hl:s.length<=1000000){a:List UInt8}{all:List (List UInt8)}(h:dn 32 s=a::all)(hw:xC a=none):dr T (.call false 85 [.str s] J)=some (.fu (rf 4) J):=by
 refine dX rfl rfl rfl ?_;have hW:=El (bs:=[.cells 0 []]) (J:=J);have hG:=Uz (S:=[Abs.aG.cells 0 [],.cells 0 (jk mr)]::J) (l:=J.length) (i:=1) (s:=a) (by simp);rw[hw]at hG;simp[Ej hl,h,hW,hG,dM,D.clean,rf]
def Am(p:Wd×List UInt8×List Int):D:=.cK [.agg (QD p.1),.str p.2.1,lF p.2.2 aO]
theorem Jf{a:List D}(ha:D.bf a=true){name:List UInt8}{v:Nat}{ns:List Int}{M:Abs.aG}(hJ:J≠[]):
  cF (J.length-1) 16 (.cK [.agg a,.str name,.sl J.length 0 v 0 ns.length 1]) ([.cells v (fM ns aO),M]::J)=(.cK [.agg a,.str name,lF ns aO],[.dead,M]::J):=by
 have h3:¬J.length<=J.length-1:=by have:=aI.2 hJ;omega
 rw[o4 (by simp[D.bf,D.clean]) (by omega)];have h4:=ek (l:=J.length-1) (n:=15) (d:=.agg a) (J:=[Abs.aG.cells v (fM ns aO),M]::J) (by simp[D.clean,ha]) (by omega);have h5:=ek (l:=J.length-1) (n:=15) (d:=.str name) (J:=[Abs.aG.cells v (fM ns aO),M]::J) (by simp[D.clean]) (by omega);have h6:=FP (l:=J.length-1) (n:=15) (l':=J.length) (i:=0) (v:=v) (off:=0) (m:=ns.length) (w:=1) (J:=[Abs.aG.cells v (fM ns aO),M]::J) (cs:=fM ns aO) h3 (by simp) (by omega);have ht:(fM ns aO).take ns.length=fM ns aO:=by have:=Nr (f:=aO) (w:=1) (λ_=>rfl) ns;rwa[bS]at this
 simp only[Nat.reduceSub,cF.frzL,h4,h5,h6];simp[ht,fB (f:=aO) (λ_=>by simp[D.clean]) ns]
theorem T4{s:List UInt8}(hl:s.length<=1000000){a:List UInt8}{all:List (List UInt8)}(h:dn 32 s=a::all)(hs:∀x∈all,x.length<=1000000)(hl2:all.length<=1000001){w:Wd}(hw:xC a=some w)(hn:w.named=false)(hJ:J≠[]){p:Wd×List UInt8×List Int}(hp:rF w [] all=some p):
  Cl 85 [.str s] (Am p) J:=by
 refine au ?_;have hW:=El (bs:=[.cells 0 []]) (J:=J);have hG:=Uz (S:=[Abs.aG.cells 0 [],.cells 0 (jk mr)]::J) (l:=J.length) (i:=1) (s:=a) (by simp);rw[hw]at hG;obtain⟨w1,w2,w3,w4,w5⟩:=Hl hw;have hL:=JB (J:=J) (cs:=QD w) (name:=[]) (M:=.cells 0 (jk mr)) hs hl2 all.length 0 [] (by omega) rfl;unfold rF at hp;cases hm:mQ all with
 |none=>rw[hm]at hp;cases hp
 |some ns =>
 rw[hm]at hp;simp only[aJ,ae]at hp;obtain⟨hf,rfl⟩:=hp;have hlen:=BN hm;simp only[FO,cj,af,az]at hf;have e1:=cb (n:=(ns.length:Int)-w.least);rw[aC,hm]at hL;have q1:(1:Int)<=(all.length:Int)+1:=by omega
 have q2:(fM all cm).take all.length=fM all cm:=ah (by rw[b8 (f:=cm) (w:=1) (λ_=>rfl)];omega);simp[Ej hl,h,hW,hG,cQ,gV,hn,Jl,q1,q2];refine WL.to hL (by simp[gV,hn]) (by simp) ?_;rintro x e J' ⟨rfl,g2,g3,g4,rfl⟩;have hz:D.bf (QD w)=true:=by simp[QD,D.clean]
 rcases hf with c1 | ⟨c1,c2,c3⟩
 .simp[g2,g3,g4,gV,c1,cQ,Am];exact⟨_,Jf (by simp[D.clean]) hJ⟩
 .have⟨c0,c4,c5⟩:¬(ns.length:Int)-w.least=0/\¬w.step=0/\w.least<(ns.length:Int):=by omega
  simp[g2,g3,g4,gV,e1,c0,c5,c2,c3,c4,cQ,Am];exact⟨_,Jf (by simp[D.clean]) hJ⟩
theorem Ow{s:List UInt8}(hl:s.length<=1000000){a:List UInt8}{all:List (List UInt8)}(h:dn 32 s=a::all)(hs:∀x∈all,x.length<=1000000)(hl2:all.length<=1000001){w:Wd}(hw:xC a=some w)(hn:w.named=false)(hp:rF w [] all=none):
  dr T (.call false 85 [.str s] J)=some (.fu (rf 4) J):=by
 refine dX rfl rfl rfl ?_;have hW:=El (bs:=[.cells 0 []]) (J:=J);have hG:=Uz (S:=[Abs.aG.cells 0 [],.cells 0 (jk mr)]::J) (l:=J.length) (i:=1) (s:=a) (by simp);rw[hw]at hG;obtain⟨w1,w2,w3,w4,w5⟩:=Hl hw;have hL:=JB (J:=J) (cs:=QD w) (name:=[]) (M:=.cells 0 (jk mr)) hs hl2 all.length 0 [] (by omega) rfl;have q1:(1:Int)<=(all.length:Int)+1:=by omega
 have q2:(fM all cm).take all.length=fM all cm:=ah (by rw[b8 (f:=cm) (w:=1) (λ_=>rfl)];omega);rw[aC]at hL;simp[Ej hl,h,hW,hG,cQ,gV,hn,Jl,q1,q2];refine WL.to hL (by simp[gV,hn]) (by simp) ?_;unfold rF at hp;cases hm:mQ all with
 |none =>
  rintro x e J' ⟨rfl,bF,rfl⟩;simp[D.clean,rf]
 |some ns =>
 rw[hm]at hp;simp only[ite_eq_right_iff,reduceCtorEq,imp_false]at hp;rintro x e J' ⟨rfl,g2,g3,g4,rfl⟩;have hlen:=BN hm;have e1:=cb (n:=(ns.length:Int)-w.least);simp only[FO,cj,af,az]at hp;have c0:¬(ns.length:Int)-w.least=0:=λhh=>hp (.inl hh)
 by_cases c1:w.least<(ns.length:Int)
 .by_cases c2:0<w.step
  .have c3:¬((ns.length:Int)-w.least).tmod w.step=0:=λhh=>hp (.inr ⟨by omega,c2,hh⟩)
   have c4:¬w.step=0:=by omega
   have c3':(((ns.length:Int)-w.least).tmod w.step == 0)=false:=by simpa using c3
   have c0':((ns.length:Int)-w.least == 0)=false:=by simpa using c0
   simp[g2,g3,g4,gV,e1,c0',c1,c2,c3',c4,dM,D.clean,rf]
  .simp[g2,g3,g4,gV,e1,c0,c1,c2,dM,D.clean,rf]
 .simp[g2,g3,g4,gV,e1,c0,c1,dM,D.clean,rf]
theorem QN{s:List UInt8}(hl:s.length<=1000000){a:List UInt8}(h:dn 32 s=[a]){w:Wd}(hw:xC a=some w)(hn:w.named=true):
  dr T (.call false 85 [.str s] J)=some (.fu (rf 4) J):=by
 refine dX rfl rfl rfl ?_;have hW:=El (bs:=[.cells 0 []]) (J:=J);have hG:=Uz (S:=[Abs.aG.cells 0 [],.cells 0 (jk mr)]::J) (l:=J.length) (i:=1) (s:=a) (by simp);rw[hw]at hG;obtain⟨w1,w2,w3,w4,w5⟩:=Hl hw;simp[Ej hl,h,hW,hG,cQ,dM,gV,hn,D.clean,rf]
theorem T5{s:List UInt8}(hl:s.length<=1000000){a n:List UInt8}{r:List (List UInt8)}(h:dn 32 s=a::n::r)(hs:∀x∈r,x.length<=1000000)(hl2:r.length<=1000001){w:Wd}(hw:xC a=some w)(hn:w.named=true)(hJ:J≠[]){p:Wd×List UInt8×List Int}(hp:rF w n r=some p):
  Cl 85 [.str s] (Am p) J:=by
 refine au ?_;have hW:=El (bs:=[.cells 0 []]) (J:=J);have hG:=Uz (S:=[Abs.aG.cells 0 [],.cells 0 (jk mr)]::J) (l:=J.length) (i:=1) (s:=a) (by simp);rw[hw]at hG;obtain⟨w1,w2,w3,w4,w5⟩:=Hl hw;have hL:=JB (J:=J) (cs:=QD w) (name:=n) (M:=.cells 0 (jk mr)) hs hl2 r.length 0 [] (by omega) rfl;have q1:(1:Int)<=(r.length:Int)+1:=by omega
 have q2:(fM r cm).take r.length=fM r cm:=ah (by rw[b8 (f:=cm) (w:=1) (λ_=>rfl)];omega);have⟨q3,q4,q6⟩:(1:Int)<=(r.length:Int)+1+1/\(0:Int)<(r.length:Int)+1/\(0:Int)<(r.length:Int)+1+1:=by omega
 have q5:(fM r cm).take (r.length+1)=fM r cm:=ah (by rw[b8 (f:=cm) (w:=1) (λ_=>rfl)];omega);unfold rF at hp;cases hm:mQ r with
 |none=>rw[hm]at hp;cases hp
 |some ns =>
 rw[hm]at hp;simp only[aJ,ae]at hp;obtain⟨hf,rfl⟩:=hp;have hlen:=BN hm;simp only[FO,cj,af,az]at hf;have e1:=cb (n:=(ns.length:Int)-w.least);rw[aC,hm]at hL;simp[Ej hl,h,hW,hG,cQ,gV,hn,Jl,q1,q2,q3,q4,q6];refine WL.to hL (by simp[gV,hn]) (by simp) ?_;rintro x e J' ⟨rfl,g2,g3,g4,rfl⟩;rcases hf with c1 | ⟨c1,c2,c3⟩
 .simp[g2,g3,g4,gV,c1,cQ,Am];exact⟨_,Jf (by simp[D.clean]) hJ⟩
 .have⟨c0,c4,c5⟩:¬(ns.length:Int)-w.least=0/\¬w.step=0/\w.least<(ns.length:Int):=by omega
  simp[g2,g3,g4,gV,e1,c0,c5,c2,c3,c4,cQ,Am];exact⟨_,Jf (by simp[D.clean]) hJ⟩
theorem Ox{s:List UInt8}(hl:s.length<=1000000){a n:List UInt8}{r:List (List UInt8)}(h:dn 32 s=a::n::r)(hs:∀x∈r,x.length<=1000000)(hl2:r.length<=1000001){w:Wd}(hw:xC a=some w)(hn:w.named=true)(hp:rF w n r=none):
  dr T (.call false 85 [.str s] J)=some (.fu (rf 4) J):=by
 refine dX rfl rfl rfl ?_;have hW:=El (bs:=[.cells 0 []]) (J:=J);have hG:=Uz (S:=[Abs.aG.cells 0 [],.cells 0 (jk mr)]::J) (l:=J.length) (i:=1) (s:=a) (by simp);rw[hw]at hG;obtain⟨w1,w2,w3,w4,w5⟩:=Hl hw;have hL:=JB (J:=J) (cs:=QD w) (name:=n) (M:=.cells 0 (jk mr)) hs hl2 r.length 0 [] (by omega) rfl;have q1:(1:Int)<=(r.length:Int)+1:=by omega
 have q2:(fM r cm).take r.length=fM r cm:=ah (by rw[b8 (f:=cm) (w:=1) (λ_=>rfl)];omega);have⟨q3,q4,q6⟩:(1:Int)<=(r.length:Int)+1+1/\(0:Int)<(r.length:Int)+1/\(0:Int)<(r.length:Int)+1+1:=by omega
 have q5:(fM r cm).take (r.length+1)=fM r cm:=ah (by rw[b8 (f:=cm) (w:=1) (λ_=>rfl)];omega);rw[aC]at hL;simp[Ej hl,h,hW,hG,cQ,gV,hn,Jl,q1,q2,q3,q4,q6];refine WL.to hL (by simp[gV,hn]) (by simp) ?_;unfold rF at hp;cases hm:mQ r with
 |none =>
  rintro x e J' ⟨rfl,bF,rfl⟩;simp[D.clean,rf]
 |some ns =>
 rw[hm]at hp;simp only[ite_eq_right_iff,reduceCtorEq,imp_false]at hp;rintro x e J' ⟨rfl,g2,g3,g4,rfl⟩;have hlen:=BN hm;have e1:=cb (n:=(ns.length:Int)-w.least);simp only[FO,cj,af,az]at hp;have c0:¬(ns.length:Int)-w.least=0:=λhh=>hp (.inl hh)
 by_cases c1:w.least<(ns.length:Int)
 .by_cases c2:0<w.step
  .have c3:¬((ns.length:Int)-w.least).tmod w.step=0:=λhh=>hp (.inr ⟨by omega,c2,hh⟩)
   have c4:¬w.step=0:=by omega
   have c3':(((ns.length:Int)-w.least).tmod w.step == 0)=false:=by simpa using c3
   have c0':((ns.length:Int)-w.least == 0)=false:=by simpa using c0
   simp[g2,g3,g4,gV,e1,c0',c1,c2,c3',c4,dM,D.clean,rf]
  .simp[g2,g3,g4,gV,e1,c0,c1,c2,dM,D.clean,rf]
 .simp[g2,g3,g4,gV,e1,c0,c1,dM,D.clean,rf]
theorem Hc(b:UInt8):∀(s:List UInt8),∀x∈dn b s,x.length<=s.length
 |[],x,hx=>by simp[dn]at hx;simp[hx]
 |c::r,x,hx=>by
  have ih:=Hc b r;simp only[dn]at hx;split at hx
  .rcases bw.1 hx with rfl | hx
   .simp
   .have:=ih x hx;simp;omega
  .split at hx
   .rename_i y l hyl;rcases bw.1 hx with rfl | hx
    .have:=ih y (by rw[hyl];simp);simp;omega
    .have:=ih x (by rw[hyl];simp[hx]);simp;omega
   .rename_i hyl;exact absurd hyl (tn b r)
theorem VS{s:List UInt8}(hl:s.length<=1000000)(hJ:J≠[]){p:Wd×List UInt8×List Int}(hp:parse s=some p):Cl 85 [.str s] (Am p) J:=by
 unfold parse at hp;have hlen:=CL 32 s;have hle:=Hc 32 s;cases h:dn 32 s with
 |nil=>exact absurd h (tn 32 s)
 |cons a all =>
 rw[h]at hp hlen hle;simp only[aE]at hlen;dsimp only at hp;cases hw:xC a with
 |none=>rw[hw]at hp;cases hp
 |some w =>
 rw[hw]at hp;dsimp only at hp;cases hn:w.named with
 |false =>
  rw[hn]at hp;exact T4 hl h (λx hx=>by have:=hle x (by simp[hx]);omega) (by omega) hw hn hJ (by simpa using hp)
 |true =>
  rw[hn]at hp;simp only[if_true]at hp;cases all with
  |nil=>cases hp
  |cons n r=>exact T5 hl h (λx hx=>by have:=hle x (by simp[hx]);omega) (by simp at hlen;omega) hw hn hJ hp
theorem QO{s:List UInt8}(hl:s.length<=1000000)(hp:parse s=none):dr T (.call false 85 [.str s] J)=some (.fu (rf 4) J):=by
 unfold parse at hp;have hlen:=CL 32 s;have hle:=Hc 32 s;cases h:dn 32 s with
 |nil=>exact absurd h (tn 32 s)
 |cons a all =>
 rw[h]at hp hlen hle;simp only[aE]at hlen;dsimp only at hp;cases hw:xC a with
 |none=>exact Oy hl h hw
 |some w =>
 rw[hw]at hp;dsimp only at hp;cases hn:w.named with
 |false =>
  rw[hn]at hp;exact Ow hl h (λx hx=>by have:=hle x (by simp[hx]);omega) (by omega) hw hn (by simpa using hp)
 |true =>
  rw[hn]at hp;simp only[if_true]at hp;cases all with
  |nil=>exact QN hl h hw hn
  |cons n r=>exact Ox hl h (λx hx=>by have:=hle x (by simp[hx]);omega) (by simp at hlen;omega) hw hn hp
end Go.Proofs.YtpapbbojmclkgaaGreatDoor
namespace Go.Trem
open Go Go.Abs
structure Pt where
 x:Int
 y:Int
 z:Int
 deriving DecidableEq
structure Rg where
 lo:Int
 hi:Int
 deriving DecidableEq
structure QZ where
 p:Pt
 err:Int
structure Net where
 st:List QZ
 s0:Rg
 s1:Rg
 low:Pt
 high:Pt
 step:Int
structure Ho where
 st:Int
 ph:Int
 t:Rg
structure Plc where
 p:Pt
 o:Rg
 deriving DecidableEq
structure Av where
 far:Int
 add:Int
structure JH where
 levels:List Int
 rows:List Av
structure BZ where
 st:Int
 amt:Int
structure agd where
 fst:Int
 thn:Int
structure YV where
 num:Int
 den:Int
 a:Int
 b:Int
 ad1:Int
@[simp] theorem Pt.eta(p:Pt):Pt.mk p.x p.y p.z=p:=rfl
@[simp] theorem Rg.eta(p:Rg):Rg.mk p.lo p.hi=p:=rfl
@[simp] theorem QZ.eta(p:QZ):QZ.mk p.p p.err=p:=rfl
@[simp] theorem Net.eta(p:Net):Net.mk p.st p.s0 p.s1 p.low p.high p.step=p:=rfl
@[simp] theorem Ho.eta(p:Ho):Ho.mk p.st p.ph p.t=p:=rfl
@[simp] theorem JH.eta(p:JH):JH.mk p.levels p.rows=p:=rfl
@[simp] theorem BZ.eta(p:BZ):BZ.mk p.st p.amt=p:=rfl
@[simp] theorem Av.eta(p:Av):Av.mk p.far p.add=p:=rfl
@[simp] theorem YV.eta(p:YV):YV.mk p.num p.den p.a p.b p.ad1=p:=rfl
@[simp] def Pt.enc(p:Pt):List D:=[iI p.x,iI p.y,iI p.z]
@[simp] def Rg.enc(r:Rg):List D:=[iI r.lo,iI r.hi]
@[simp] def QZ.enc(s:QZ):List D:=[iI s.p.x,iI s.p.y,iI s.p.z,iI s.err]
@[simp] def Ho.enc(p:Ho):List D:=[iI p.st,.int .u8 p.ph,iI p.t.lo,iI p.t.hi]
@[simp] def Plc.enc(p:Plc):List D:=[iI p.p.x,iI p.p.y,iI p.p.z,iI p.o.lo,iI p.o.hi]
@[simp] def Av.enc(p:Av):List D:=[iI p.far,iI p.add]
@[simp] def BZ.enc(p:BZ):List D:=[iI p.st,iI p.amt]
@[simp] def agd.enc(p:agd):List D:=[iI p.fst,iI p.thn]
@[simp] def YV.enc(b:YV):List D:=[iI b.num,iI b.den,iI b.a,iI b.b,iI b.ad1]
@[simp] def aO(n:Int):List D:=[iI n]
@[simp] def tC(n:Bool):List D:=[.bool n]
@[simp] def Net.enc(n:Net):List D:=[.bT n.st.length (fM n.st QZ.enc),iI n.s0.lo,iI n.s0.hi,iI n.s1.lo,iI n.s1.hi,
 iI n.low.x,iI n.low.y,iI n.low.z,iI n.high.x,iI n.high.y,iI n.high.z,iI n.step]
@[simp] def JH.enc(s:JH):List D:=[.bT s.levels.length (fM s.levels aO),.bT s.rows.length (fM s.rows Av.enc)]
def bC(n lo hi:Int):Bool:=decide (lo<=n) && decide (n<=hi)
theorem aP{n lo hi:Int}:bC n lo hi=true↔lo<=n/\n<=hi:=by simp[bC]
def Pt.ok(p:Pt):Bool:=bC p.x (-20000) 20000 && (bC p.y (-20000) 20000 && bC p.z (-20000) 20000)
def uF(a b:Pt):Bool:=a.ok && (b.ok && (decide (a.x<=b.x) && (decide (a.y<=b.y) && decide (a.z<=b.z))))
def QZ.ok(s:QZ):Bool:=s.p.ok && bC s.err 0 1000
def Rg.bC(r:Rg)(lo hi:Int):Bool:=decide (lo<=r.lo) && (decide (r.lo<=r.hi) && decide (r.hi<=hi))
def steps(n:Net)(lo hi:Int):Int:=(hi-lo).tdiv n.step+1
def Net.pre(n:Net):Bool:=Trem.bC n.st.length 1 12 && (dj n.st QZ.ok && (uF n.low n.high && (Trem.bC n.step 1 20000 && (n.s0.bC 1 2000 && n.s1.bC 1 2000))))
def Net.count(n:Net):Int:=steps n n.low.x n.high.x*steps n n.low.y n.high.y*steps n n.low.z n.high.z
def Net.ok(n:Net):Bool:=n.pre && decide (n.count<=2000)
theorem Pt.Nz{p:Pt}:p.ok=true↔(-20000<=p.x/\p.x<=20000)/\(-20000<=p.y/\p.y<=20000)/\(-20000<=p.z/\p.z<=20000):=by
 simp only[Pt.ok,af,aP]
def bsr:Nat->Int->Int->Int->Int
 |0,_,lo,_=>lo
 |f+1,n,lo,hi=>if lo<hi then(if((lo+hi+1) / 2)*((lo+hi+1) / 2)<=n then bsr f n ((lo+hi+1) / 2) hi else bsr f n lo ((lo+hi+1) / 2-1))else lo
def sq(p q:Pt):Int:=(p.x-q.x)*(p.x-q.x)+(p.y-q.y)*(p.y-q.y)+(p.z-q.z)*(p.z-q.z)
def agF(p q:Pt):Int:=bsr 17 (sq p q) 0 70000
def prog(lo hi st:Int):List Int:=(List.range ((hi-lo) / st+1).toNat).map λ(i:Nat)=>lo+i*st
def zs(n:Net)(x y:Int)(z:Int):List Pt:=(prog z n.high.z n.step).map λz=>⟨x,y,z⟩
def ys(n:Net)(x:Int)(y:Int):List Pt:=fM (prog y n.high.y n.step) λy=>zs n x y n.low.z
def xs(n:Net)(x:Int):List Pt:=fM (prog x n.high.x n.step) λx=>ys n x n.low.y
def aak(n:Net):List Pt:=xs n n.low.x
def Net.YT(n:Net)(i:Int):QZ:=n.st.getD i.toNat ⟨⟨0,0,0⟩,0⟩
def Net.RO(n:Net)(ph:Int):Rg:=if ph=0 then n.s0 else n.s1
def YI(n:Net)(i ph:Int)(p:Pt):Rg:=⟨(n.RO ph).lo*agF (n.YT i).p p / 1000,((n.RO ph).hi*(agF (n.YT i).p p+1)+999) / 1000⟩
def Ho.ok(n:Net)(p:Ho):Bool:=Trem.bC p.st 0 (n.st.length-1) && (decide (p.ph<2) && p.t.bC (-100000000) 100000000)
def span(n:Net)(p:Ho)(q:Pt):Rg:=⟨p.t.lo-(n.YT p.st).err-(YI n p.st p.ph q).hi,p.t.hi+(n.YT p.st).err-(YI n p.st p.ph q).lo⟩
def meet(a b:Rg):Rg:=⟨max a.lo b.lo,min a.hi b.hi⟩
def common:List Rg->Rg
 |[]=>⟨0,0⟩
 |r::l=>l.foldl meet r
def Rg.ne(r:Rg):Bool:=decide (r.lo<=r.hi)
end Go.Trem
namespace Go.Proofs.YtpapbbojmclkgaaGreatDoor
open Go Go.Abs Go.Trem
variable {J:SK}
theorem iB{a b c:Int}:Cl 118 [iI a,iI b,iI c] (.bool (bC a b c)) J:=by
 refine au ?_;by_cases h:b<=a<;>simp[h,bC]
theorem xE{a b c:Int}:Cl 133 [iI a,iI b,iI c] (.bool (bC a b c)) J:=by
 refine au ?_;by_cases h:b<=a<;>simp[h,bC]
theorem af7{a:Int}:Cl 194 [iI a] (.bool (bC a (-20000) 20000)) J:=by
 refine au ?_;simp[iB]
theorem TX{l:List Int}(hl:l.length<=9223372036854775807){fv:D}{p:Int->Bool}(ht:oW T fv (.int .i64) p l)(hc:fv.cells=some [fv]):
  Cl 193 [lF l aO,fv] (.bool (dj l p)) J :=
 B8 (Nh .i64) Hp FI zx B6 hl ht hc
theorem xW{x y z:Int}:Cl 155 [.agg [iI x,iI y,iI z]] (.bool (Pt.ok ⟨x,y,z⟩)) J:=by
 refine au ?_;have h:∀J,Cl 193 [.bT 3 [iI x,iI y,iI z],.fn 194 [] []] (.bool (Pt.ok ⟨x,y,z⟩)) J:=λJ=>by
  have:=TX (J:=J) (l:=[x,y,z]) (by simp) (fv:=.fn 194 [] []) (p:=λa=>bC a (-20000) 20000) (.fn λa _ J=>af7) rfl;simpa[Pt.ok,Bool.and_assoc,dj]using this
 simp[h]
theorem Ie{x y z:Int}:Cl 134 [.agg [iI x,iI y,iI z]] (.bool (Pt.ok ⟨x,y,z⟩)) J:=by
 refine au ?_;cases hc1:bC x (-20000) 20000
 .simp[xE,Pt.ok,hc1]
 cases hc2:bC y (-20000) 20000
 .simp[xE,Pt.ok,hc1,hc2]
 simp[xE,Pt.ok,hc1,hc2]
theorem Ly{x y z a b c:Int}:Cl 151 [.agg [iI x,iI y,iI z],.agg [iI a,iI b,iI c]] (.bool (uF ⟨x,y,z⟩ ⟨a,b,c⟩)) J:=by
 refine au ?_;cases hc1:Pt.ok ⟨x,y,z⟩
 .simp[xW,uF,hc1]
 cases hc2:Pt.ok ⟨a,b,c⟩
 .simp[xW,uF,hc1,hc2]
 by_cases hc3:x<=a
 rotate_left
 .simp[xW,uF,hc1,hc2,hc3]
 by_cases hc4:y<=b
 rotate_left
 .simp[xW,uF,hc1,hc2,hc3,hc4]
 simp[xW,uF,hc1,hc2,hc3,hc4]
theorem Lt{x y z a b c:Int}:Cl 132 [.agg [iI x,iI y,iI z],.agg [iI a,iI b,iI c]] (.bool (uF ⟨x,y,z⟩ ⟨a,b,c⟩)) J:=by
 refine au ?_;cases hc1:Pt.ok ⟨x,y,z⟩
 .simp[Ie,uF,hc1]
 cases hc2:Pt.ok ⟨a,b,c⟩
 .simp[Ie,uF,hc1,hc2]
 by_cases hc3:x<=a
 rotate_left
 .simp[Ie,uF,hc1,hc2,hc3]
 by_cases hc4:y<=b
 rotate_left
 .simp[Ie,uF,hc1,hc2,hc3,hc4]
 simp[Ie,uF,hc1,hc2,hc3,hc4]
theorem aaA{n:Net}:n.pre=true↔(1<=(n.st.length:Int)/\(n.st.length:Int)<=12)/\dj n.st QZ.ok=true/\(n.low.ok=true/\n.high.ok=true/\n.low.x<=n.high.x/\n.low.y<=n.high.y/\n.low.z<=n.high.z) /\
  (1<=n.step/\n.step<=20000)/\(1<=n.s0.lo/\n.s0.lo<=n.s0.hi/\n.s0.hi<=2000)/\(1<=n.s1.lo/\n.s1.lo<=n.s1.hi/\n.s1.hi<=2000):=by
 simp only[Net.pre,af,aP,uF,Rg.bC,az]
structure agb(n:Net)(i ph:Int):Prop where
 i0:0<=i
 i1:i<n.st.length
 hph:ph=0\/ph=1
 p:(n.YT i).p.ok=true
 e:0<=(n.YT i).err/\(n.YT i).err<=1000
 s:1<=(n.RO ph).lo/\(n.RO ph).lo<=(n.RO ph).hi/\(n.RO ph).hi<=2000
 cells:((fM n.st QZ.enc).drop (i.toNat*4)).take 4=(n.YT i).enc
theorem XW{n:Net}(h:n.ok=true){i ph:Int}(hi:bC i 0 (n.st.length-1)=true)(hp:0<=ph)(hp':ph<2):agb n i ph:=by
 simp only[Net.ok,af]at h;have h0:=aaA.1 h.1;rw[aP]at hi;have h1:i.toNat<n.st.length:=by omega
 have h2:n.st[i.toNat]?=some (n.YT i):=by
  simp[Net.YT,List.getD,aH h1]
 have h3:=eP.1 h0.2.1 _ (aj h2);simp only[QZ.ok,af,aP]at h3;refine⟨by omega,by omega,by omega,h3.1,h3.2,?_,bd (f:=QZ.enc) (w:=4) (λ_=>rfl) h2⟩;unfold Net.RO;split<;>omega
structure Hd(n:Net)(l:List Ho):Prop where
 ok:n.ok=true
 len:l.length<=60
 all:∀p∈l,Ho.ok n p=true/\0<=p.ph
theorem Hd.akE{n:Net}{l:List Ho}(h:Hd n l){p:Ho}(hp:p∈l):agb n p.st p.ph:=by
 have h1:=h.all p hp;simp only[Ho.ok,af,az]at h1;exact XW h.ok h1.1.1 h1.2 h1.1.2.1
end Go.Proofs.YtpapbbojmclkgaaGreatDoor
namespace Go.Trem
open Go Go.Abs
theorem GU{α β:Type}{f:α->List β}{c:Nat}{l:List α}(h:∀x∈l,(f x).length=c):(fM l f).length=l.length*c:=by
 induction l with
 |nil=>simp
 |cons a l ih =>
  rw[db,aV,h a (by simp),ih λx hx=>h x (by simp[hx]),aE,eC];omega
end Go.Trem
namespace Go.Proofs.YtpapbbojmclkgaaGreatDoor
open Go Go.Abs Go.Trem
variable {J:SK}
structure Bx(n:Net):Prop where
 st:1<=n.step/\n.step<=20000
 lx : -20000<=n.low.x/\n.low.x<=20000
 ly : -20000<=n.low.y/\n.low.y<=20000
 lz : -20000<=n.low.z/\n.low.z<=20000
 hx:n.low.x<=n.high.x/\n.high.x<=20000
 hy:n.low.y<=n.high.y/\n.high.y<=20000
 hz:n.low.z<=n.high.z/\n.high.z<=20000
 len:(aak n).length<=2000
end Go.Proofs.YtpapbbojmclkgaaGreatDoor
namespace Go.Trem
open Go Go.Abs
def aht(l:List Int)(i:Nat):Bool:=decide (i=0) || decide (l.getD (i-1) 0<l.getD i 0)
def ahu(l:List Int):Bool:=dj (List.range' 0 l.length) (aht l)
def Av.ok(r:Av):Bool:=bC r.far 0 20000 && bC r.add 0 100
def JH.ok(s:JH):Bool:=bC s.levels.length 1 60 && (dj s.levels (λn=>bC n 1 1000000000) && (ahu s.levels && (bC s.rows.length 1 20 && (decide ((s.rows.getD 0 ⟨0,0⟩).far=0) && (dj s.rows Av.ok && ahu (s.rows.map (·.far)))))))
def lvl(l:List Int)(a:Int):Nat:=(l.takeWhile λx=>decide (x<=a)).length
def BZ.ok(n:Net)(r:BZ):Bool:=bC r.st 0 (n.st.length-1) && bC r.amt 0 1000000000
end Go.Trem
namespace Go.Proofs.YtpapbbojmclkgaaGreatDoor
open Go Go.Abs Go.Trem
variable {J:SK}
end Go.Proofs.YtpapbbojmclkgaaGreatDoor
namespace Go.Trem
open Go Go.Abs
def YV.ok(b:YV):Bool:=bC b.den 2 1000 && (bC b.num 1 (b.den-1) && (bC b.b 1 1000 && (bC b.a 0 b.b && bC b.ad1 2 1000)))
def next(b:YV)(c:Int)(hit:Bool):Int:=if hit then min (c*(b.b*b.num+b.a*(b.den-b.num)) / (b.b*b.num)) 1000000000000 else c*(b.b-b.a) / b.b
structure akB(b:YV)(c:Int):Prop where
 w1:IntKind.i64.wrap (b.b*b.num)=b.b*b.num
 w2:IntKind.i64.wrap (b.den-b.num)=b.den-b.num
 w3:IntKind.i64.wrap (b.a*(b.den-b.num))=b.a*(b.den-b.num)
 w4:IntKind.i64.wrap (b.b*b.num+b.a*(b.den-b.num))=b.b*b.num+b.a*(b.den-b.num)
 w5:IntKind.i64.wrap (c*(b.b*b.num+b.a*(b.den-b.num)))=c*(b.b*b.num+b.a*(b.den-b.num))
 w6:IntKind.i64.wrap ((c*(b.b*b.num+b.a*(b.den-b.num))).tdiv (b.b*b.num))=c*(b.b*b.num+b.a*(b.den-b.num)) / (b.b*b.num)
 w7:b.b*b.num≠0
 w8:IntKind.i64.wrap (b.b-b.a)=b.b-b.a
 w9:IntKind.i64.wrap (c*(b.b-b.a))=c*(b.b-b.a)
 w10:IntKind.i64.wrap ((c*(b.b-b.a)).tdiv b.b)=c*(b.b-b.a) / b.b
 w11:b.b≠0
 w12:∀h,0<=next b c h/\next b c h<=1000000000000
 w13:min (c*(b.b-b.a) / b.b) 1000000000000=c*(b.b-b.a) / b.b
def fx(k0 k1 k2:Int):Bool:=decide (k0<=1000) && (decide (k1<=k0) && (decide (k2<=k1) && decide (0<=k2)))
def WE(n:Int):Bool:=bC n 0 1000000000
theorem aag{o:List Int}{i:Nat}(hi:i<o.length)(v:Int):(fM o aO).take i++(iI v::(fM o aO).drop (i+1))=fM (o.set i v) aO:=by
 induction o generalizing i with
 |nil=>simp at hi
 |cons a o ih =>
  cases i with
  |zero=>simp
  |succ i=>simp at hi;simpa using ih hi
theorem Va(n:Nat):(fM (List.range n) λ_=>[iI 0])=fM (List.replicate n (0:Int)) aO:=by
 induction n with
 |zero=>rfl
 |succ n ih=>rw[List.range_succ,oI,ih,List.replicate_succ',oI];rfl
end Go.Trem
namespace Go.Proofs.YtpapbbojmclkgaaGreatDoor
open Go Go.Abs Go.Trem
variable {J:SK}
theorem Ju{a:Int}:Cl 245 [iI a] (.bool (WE a)) J:=by
 refine au ?_;simp[iB,WE]
structure akC(p k:Int):Prop where
 w1:IntKind.i64.wrap (p*k)=p*k
 w2:IntKind.i64.wrap ((p*k).tdiv 1000)=p*k / 1000
 w3:0<=p*k / 1000
 w4:p*k / 1000<=1000000000
theorem Yr{acc:List Int}{k:Nat}{v:Int}:(acc++List.replicate (k+1) 0).set acc.length v=(acc++[v])++List.replicate k 0:=by
 rw[List.set_append_right _ _ (aN _)];simp[List.replicate_succ]
end Go.Proofs.YtpapbbojmclkgaaGreatDoor
namespace Go.Trem
open Go Go.Abs
structure pV where
 p:Pt
 mag:Int
structure Ev where
 tick:Int
 sp:List pV
structure cH where
 lo:Pt
 hi:Pt
 least:Int
 uY:Int
 count:Int
 M9:Int
@[simp] theorem pV.eta(p:pV):pV.mk p.p p.mag=p:=rfl
@[simp] theorem Ev.eta(p:Ev):Ev.mk p.tick p.sp=p:=rfl
@[simp] theorem cH.eta(p:cH):cH.mk p.lo p.hi p.least p.uY p.count p.M9=p:=rfl
@[simp] def pV.enc(s:pV):List D:=[iI s.p.x,iI s.p.y,iI s.p.z,iI s.mag]
@[simp] def Ev.enc(e:Ev):List D:=[iI e.tick,lF e.sp pV.enc]
@[simp] def cH.enc(r:cH):List D:=[iI r.lo.x,iI r.lo.y,iI r.lo.z,iI r.hi.x,iI r.hi.y,iI r.hi.z,iI r.least,iI r.uY,iI r.count,.int .u8 r.M9]
def Q6:ZK pV:=yg 4 pV.enc λ_=>rfl
def agH:ZK Ev:=yg 2 Ev.enc λ_=>rfl
def Z2:ZK cH:=yg 10 cH.enc λ_=>rfl
def cH.Jb(r:cH)(s:pV):Bool:=decide (r.least<=s.mag) && (bC s.p.x r.lo.x r.hi.x && (bC s.p.y r.lo.y r.hi.y && bC s.p.z r.lo.z r.hi.z))
def cH.ok(r:cH):Bool:=uF r.lo r.hi && (bC r.least 0 160 && (bC r.uY 1 1000000 && (bC r.count 1 200 && (r.M9 == 1 || r.M9 == 2))))
def pV.ok(s:pV):Bool:=s.p.ok && bC s.mag 0 160
def Ev.ok(e:Ev):Bool:=bC e.tick 0 1000000 && (bC e.sp.length 1 2000 && dj e.sp pV.ok)
def cH.act(r:cH)(now:Int)(e:Ev):Bool:=decide (now-r.uY<e.tick) && decide (e.tick<=now)
def zz(f:Ev->Bool):List Ev->Nat
 |[]=>0
 |e::l=>zz f l+(if f e then 1 else 0)
def tj(r:cH)(now:Int)(e:Ev):Bool:=r.act now e && mu e.sp r.Jb
def mA(r:cH)(now:Int)(e:Ev):Bool:=r.act now e && dj e.sp r.Jb
def vq(f:cH->Ev->Bool)(l:List Ev):List cH->Int->Int
 |[],a=>a
 |r::R,a=>vq f l R (if r.count<=zz (f r) l then max a r.M9 else a)
def Mm(R:List cH)(l:List Ev)(now:Int):Int:=vq (λr=>tj r now) l R 0
def N9(R:List cH)(l:List Ev)(now:Int):Int:=vq (λr=>mA r now) l R 0
def kZ(R:List cH)(l:List Ev)(now:Int):Int :=
 if 20<R.length then 3 else if dj R cH.ok=false then 1 else if 200<l.length then 3 else if dj l Ev.ok=false then 1 else if bC now 0 1000000=false then 2 else 0
theorem zl{r:cH}:r.ok=true↔uF r.lo r.hi=true/\(0<=r.least/\r.least<=160)/\(1<=r.uY/\r.uY<=1000000)/\(1<=r.count/\r.count<=200)/\(r.M9=1\/r.M9=2):=by
 simp only[cH.ok,af,aP,cj,beq_iff_eq]
end Go.Trem
namespace Go.Proofs.YtpapbbojmclkgaaGreatDoor
open Go Go.Abs Go.Trem
variable {J:SK}
theorem Ou{r:cH}{s:pV}:Cl 119 [.agg r.enc,.agg s.enc] (.bool (r.Jb s)) J:=by
 refine au ?_;by_cases hc1:r.least<=s.mag
 rotate_left
 .simp[cH.Jb,hc1]
 cases hc2:bC s.p.x r.lo.x r.hi.x
 .simp[iB,cH.Jb,hc1,hc2]
 cases hc3:bC s.p.y r.lo.y r.hi.y
 .simp[iB,cH.Jb,hc1,hc2,hc3]
 simp[iB,cH.Jb,hc1,hc2,hc3]
theorem OB{r:cH}:Cl 115 [.agg r.enc] (.bool r.ok) J:=by
 refine au ?_;cases hc1:uF r.lo r.hi
 .simp[Ly,cH.ok,hc1]
 cases hc2:bC r.least 0 160
 .simp[iB,Ly,cH.ok,hc1,hc2]
 cases hc3:bC r.uY 1 1000000
 .simp[iB,Ly,cH.ok,hc1,hc2,hc3]
 cases hc4:bC r.count 1 200
 .simp[iB,Ly,cH.ok,hc1,hc2,hc3,hc4]
 by_cases hc5:r.M9=1
 rotate_left
 .simp[iB,Ly,cH.ok,hc1,hc2,hc3,hc4,hc5]
 simp[iB,Ly,cH.ok,hc1,hc2,hc3,hc4,hc5]
theorem af1{s:pV}:Cl 154 [.agg s.enc] (.bool s.ok) J:=by
 refine au ?_;cases hc1:Pt.ok s.p
 .simp[xW,pV.ok,hc1]
 simp[iB,xW,pV.ok,hc1]
theorem Lw{l:List pV}{p:pV->Bool}{fv:D}(ht:oW T fv Q6.val p l)(hc:fv.cells=some [fv])(hl:l.length<=9223372036854775807):
  Cl 121 [lF l pV.enc,fv] (.bool (dj l p)) J :=
 B8 Q6 AB xZ lA mV hl ht hc
theorem Ov{e:Ev}(hl:e.sp.length<=9223372036854775807):Cl 117 [.agg e.enc] (.bool e.ok) J:=by
 refine au ?_;have ha:=λJ=>@Lw J e.sp pV.ok (.fn 154 [] []) (.fn λs _ J=>af1) rfl hl
 cases hc1:bC e.tick 0 1000000
 .simp[iB,Ev.ok,hc1]
 cases hc2:bC e.sp.length 1 2000
 .simp[iB,Ev.ok,hc1,hc2]
 simp[iB,ha,Ev.ok,hc1,hc2]
theorem QH{R:List cH}(hl:R.length<=9223372036854775807):
  Cl 114 [lF R cH.enc,.fn 115 [] []] (.bool (dj R cH.ok)) J :=
 B8 Z2 AA xY tt uZ hl (.fn λr _ J=>OB) rfl
theorem Vz{l:List Ev}(hl:l.length<=9223372036854775807)(hs:∀e∈l,e.sp.length<=9223372036854775807):
  Cl 116 [lF l Ev.enc,.fn 117 [] []] (.bool (dj l Ev.ok)) J :=
 B8 agH zy xH sj uB hl (.fn λr hr J=>Ov (hs r hr)) rfl
end Go.Proofs.YtpapbbojmclkgaaGreatDoor
namespace Go.Book
open Go Go.Abs Go.Rock
structure ec where
 m:bZ
 left:Bool
 M7:Int
structure Dl where
 line:Int
 value:Int
 lo:Int
 hi:Int
structure Prt where
 width:Int
 kS:Int
structure pf where
 xx:Int
 parts:List Prt
structure JG where
 tick:Int
 R8:Int
 wlo:Int
 whi:Int
 mlo:Int
 mhi:Int
structure Bk where
 aS:bV
 ai:List ec
 aw:List (List Int)
 rules:List Trem.cH
 pZ:List Trem.Ev
 k0:Int
 k1:Int
 k2:Int
 cI:List pf
 dk:List JG
 ready:Bool
 eJ:List Dl
 at_:Int
@[simp] def ec.enc(e:ec):List D:=[.str e.m.name,lF e.m.dz aO,.bool e.left,iI e.M7]
@[simp] def Dl.enc(e:Dl):List D:=[iI e.line,iI e.value,iI e.lo,iI e.hi]
@[simp] def Prt.enc(e:Prt):List D:=[iI e.width,iI e.kS]
@[simp] def pf.enc(e:pf):List D:=[iI e.xx,lF e.parts Prt.enc]
@[simp] def JG.enc(e:JG):List D:=[iI e.tick,iI e.R8,iI e.wlo,iI e.whi,iI e.mlo,iI e.mhi]
def nl{α:Type}(f:α->List D)(l:List α):D:=if l=[]then .bz else lF l f
def pE(r:List Int):List D:=[lF r aO]
def Bk.cells(L:Nat)(b:Bk):List D:=[iI b.aS.f.x,iI b.aS.f.y,iI b.aS.f.z,iI b.aS.f.k,nl Rw.enc b.aS.dP,iI b.aS.cA,iI b.aS.lift,iI b.aS.deep,nl bH.enc b.aS.av,
 .sl L 0 b.ai.length 0 b.ai.length 4,nl pE b.aw,.sl L 1 b.rules.length 0 b.rules.length 10,.sl L 2 b.pZ.length 0 b.pZ.length 2,iI b.k0,iI b.k1,iI b.k2,
 .sl L 3 b.cI.length 0 b.cI.length 2,.sl L 4 b.dk.length 0 b.dk.length 6,.bool b.ready,.sl L 5 b.eJ.length 0 b.eJ.length 4,iI b.at_]
def Bk.bF(L:Nat)(b:Bk)(er:List Int):List Abs.aG:=[.cells b.ai.length (fM b.ai ec.enc),.cells b.rules.length (fM b.rules Trem.cH.enc),.cells b.pZ.length (fM b.pZ Trem.Ev.enc),.cells b.cI.length (fM b.cI pf.enc),
 .cells b.dk.length (fM b.dk JG.enc),.cells b.eJ.length (fM b.eJ Dl.enc),.cells 0 (b.cells L),.cells er.length (fM er aO)]
def fN:Bk:=⟨⟨⟨0,0,0,0⟩,[],0,0,0,[]⟩,[],[],[],[],1000,500,0,[],[],false,[],0⟩
def Prt.ok(last:Int)(p:Prt):Bool:=bC p.kS 0 last && bC p.width 1 100000
def AF:Int->List Prt->Bool
 |_,[]=>true
 |last,p::l=>p.ok last && AF p.kS l
def pf.ok(u:pf):Bool:=bC u.xx 0 5 && (bC u.parts.length 1 8 && AF 1000 u.parts)
def kY(l:List Prt):Nat->Int
 |0=>1000
 |i+1=>match l[i]? with
  |some p=>p.kS
  |none=>0
def BF(l:List Prt)(i:Nat):Bool:=match l[i]? with
 |some p=>p.ok (kY l i)
 |none=>true
theorem LW{l:List Prt}:AF 1000 l=true↔∀j,j<l.length->BF l j=true:=by
 have key:∀(r pre:List Prt),l=pre++r->(AF (kY l pre.length) r=true↔∀j,j<r.length->BF l (pre.length+j)=true):=by
  intro r;induction r with
  |nil=>intro pre h;simp[AF]
  |cons p r ih =>
   intro pre h;have hp:l[pre.length]?=some p:=by rw[h];simp
   have h1:=ih (pre++[p]) (by rw[h];simp);have h2:kY l (pre++[p]).length=p.kS:=by simp[kY,hp]
   rw[h2]at h1;simp only[AF,af,h1];constructor
   .rintro⟨h3,h4⟩ j hj;cases j with
    |zero=>simpa[BF,hp]using h3
    |succ j =>
     have:=h4 j (by simpa using hj);rwa[show(pre++[p]).length+j=pre.length+(j+1)by simp;omega]at this
   .intro h3;refine⟨?_,λj hj=>?_⟩
    .have:=h3 0 (by simp);simpa[BF,hp]using this
    .have:=h3 (j+1) (by simpa using hj);rwa[show(pre++[p]).length+j=pre.length+(j+1)by simp;omega]
 have:=key l [] rfl;simpa[kY]using this
def nS(b:Bk)(x y z k:Int):Bk×Int :=
 if(b.aS.f.x=0/\b.aS.f.y=0)/\b.aS.f.z=0/\b.aS.f.k=0 then
  (if(dD.mk x y z k).valid=true/\4<=k then({b with aS:={b.aS with f:=⟨x,y,z,k⟩ } },0)else(b,1))
 else(b,8)
end Go.Book
namespace Go.Abs
open Go
variable {T:CT} {fv:D} {J:SK}
theorem UC{f w:Nat}{ag:Bool}(hT:T f=some (uW ag w))(h1:fv.strip=fv)(h2:fv.calm=fv):dr T (.call false f [.bz,fv] J)=some (.val (iI (-1)) J):=by
 refine nR hT (uW.eq_1 _ _) rfl ?_;simp[h2];refine aA (Km.eq_1 _ _) ?_;simp[h2]
theorem contains_nil{f i w:Nat}{ag:Bool}(hT:T f=some (iW i))(hi:T i=some (uW ag w))(h1:fv.strip=fv)(h2:fv.calm=fv):dr T (.call false f [.bz,fv] J)=some (.val (.bool false) J):=by
 refine nR hT (iW.eq_1 _) rfl ?_;simp[h1,h2,UC hi h1 h2]
theorem all_nil{f g h i w:Nat}{ag:Bool}(hf:T f=some (F8 g h))(hh:T h=some (iW i))(hi:T i=some (uW ag w))(h1:fv.strip=fv)(h2:fv.calm=fv)(hcl:fv.cells=some [fv]):
  dr T (.call false f [.bz,fv] J)=some (.val (.bool true) J):=by
 refine nR hf (F8.eq_1 _ _) rfl ?_;have h3:=λJ=>contains_nil (fv:=.fn g [] [.bg [fv]]) (J:=J) hh hi rfl rfl
 simp[h1,h3,hcl]
end Go.Abs
namespace Go.Proofs.YtpapbbojmclkgaaGreatDoor
open Go Go.Abs Go.Rock Go.Book
variable {J:SK}
theorem Za{F:List Abs.aG}{b:Bk}{er:List Int}{nm:List UInt8}{x y z k:Int}{b':Bk}{e:Int}(hd:nS b x y z k=(b',e))(he:e=0):
  dr T (.call false 160 [.ref J.length 6 0 0,.str nm,.bT 4 [iI x,iI y,iI z,iI k]] (F::b.bF J.length er::J))=some (.val (.cK []) (F::b'.bF J.length er::J)):=by
 refine fy rfl rfl rfl (by simp) ?_;unfold nS at hd;split at hd
 case isFalse=>cases hd;cases he
 rename_i h1;split at hd
 case isFalse=>cases hd;cases he
 rename_i h2;cases hd;obtain⟨⟨f1,f2⟩,f3,f4⟩:=h1;have hS:(dD.mk x y z k).shape=0:=by simp[dD.shape,h2.1]
 have hC:=λJ=>jl (J:=J) (f:=⟨x,y,z,k⟩)
 simp only[hS]at hC;simp[Bk.bF,Bk.cells,f1,f2,f3,f4,cQ,hC,h2.2]
theorem T0{F:List Abs.aG}{b:Bk}{er:List Int}{nm:List UInt8}{x y z k:Int}{b':Bk}{e:Int}(hd:nS b x y z k=(b',e))(he:e≠0):
  dr T (.call false 160 [.ref J.length 6 0 0,.str nm,.bT 4 [iI x,iI y,iI z,iI k]] (F::b.bF J.length er::J))=some (.fu (rf e) (F::b.bF J.length er::J)):=by
 refine dX rfl rfl rfl ?_;have hC:=λJ=>jl (J:=J) (f:=⟨x,y,z,k⟩)
 unfold nS at hd;split at hd
 .rename_i h1;obtain⟨⟨f1,f2⟩,f3,f4⟩:=h1;split at hd
  .cases hd;exact absurd rfl he
  rename_i h2;cases hd;by_cases h3:(dD.mk x y z k).valid=true
  .have h4:¬4<=k:=λhh=>h2 ⟨h3,hh⟩
   have hS:(dD.mk x y z k).shape=0:=by simp[dD.shape,h3]
   simp only[hS]at hC;simp[Bk.bF,Bk.cells,f1,f2,f3,f4,cQ,dM,hC,h4,D.clean,rf]
  .have hS:(dD.mk x y z k).shape=1:=by simp[dD.shape,h3]
   simp only[hS]at hC;simp[Bk.bF,Bk.cells,f1,f2,f3,f4,cQ,dM,hC,D.clean,rf]
 .rename_i h1;cases hd;have hz:(b.aS.f.x == 0 && (b.aS.f.y == 0 && (b.aS.f.z == 0 && b.aS.f.k == 0)))=false:=by
   cases hb:(b.aS.f.x == 0 && (b.aS.f.y == 0 && (b.aS.f.z == 0 && b.aS.f.k == 0)))with
   |false=>rfl
   |true =>
    simp only[af,beq_iff_eq]at hb;exact absurd ⟨⟨hb.1,hb.2.1⟩,hb.2.2.1,hb.2.2.2⟩ h1
  simp[Bk.bF,Bk.cells,hz,dM,D.clean,rf]
theorem Ig{k0 k1 k2:Int}(hJ:J≠[]):
  Cl 211 [.bz,.bz,.agg [iI k0,iI k1,iI k2],iI 0] (.cK [if Trem.fx k0 k1 k2 then .bT 0 []else .bz,iI (if Trem.fx k0 k1 k2 then 0 else 1)]) J:=by
 refine au ?_;have hA:=λJ=>all_nil (T:=T) (J:=J) (fv:=.fn 245 [] []) (f:=193) (ag:=false) (w:=1) rfl rfl rfl rfl rfl rfl
 have hB:=λJ=>all_nil (T:=T) (J:=J) (fv:=.fn 247 [] []) (f:=246) (ag:=false) (w:=1) rfl rfl rfl rfl rfl rfl
 have hC:Trem.WE 0=true:=by decide
 by_cases c1:1000<k0
 .have d1:¬k0<=1000:=by omega
  simp[Trem.fx,hA,hB,Ju,hC,c1,d1]
 have d1:k0<=1000:=by omega
 by_cases c2:k0<k1
 .have d2:¬k1<=k0:=by omega
  simp[Trem.fx,hA,hB,Ju,hC,c1,c2,d1,d2]
 have d2:k1<=k0:=by omega
 by_cases c3:k1<k2
 .have d3:¬k2<=k1:=by omega
  simp[Trem.fx,hA,hB,Ju,hC,c1,c2,c3,d1,d2,d3]
 have d3:k2<=k1:=by omega
 by_cases c4:k2<0
 .have d4:¬0<=k2:=by omega
  simp[Trem.fx,hA,hB,Ju,hC,c1,c2,c3,c4,d1,d2,d3,d4]
 have d4:0<=k2:=by omega
 simp[Trem.fx,hA,hB,Ju,hC,c1,c2,c3,c4,d1,d2,d3,d4];refine aA re.eq_1 ?_;simp[d1,d2,d3,d4];have h3:¬J.length<=J.length-1:=by have:=aI.2 hJ;omega
 refine⟨[.dead],?_⟩;rw[o4 (by simp[D.bf,D.clean]) (by omega)];have h6:=FP (l:=J.length-1) (n:=15) (l':=J.length) (i:=0) (v:=0) (off:=0) (m:=0) (w:=1) (J:=[Abs.aG.cells 0 []]::J) (cs:=[]) h3 (by simp) (by omega);simp only[Nat.reduceSub,cF.frzL,h6];simp
def Kq(b:Bk)(k0 k1 k2:Int):Bk:={b with k0:=k0,k1:=k1,k2:=k2 }
theorem acF{F:List Abs.aG}{b:Bk}{er:List Int}{nm:List UInt8}{x y z:Int}(h:Trem.fx x y z=true):
  dr T (.call false 167 [.ref J.length 6 0 0,.str nm,.bT 3 [iI x,iI y,iI z]] (F::b.bF J.length er::J))=some (.val (.cK []) (F::(Kq b x y z).bF J.length er::J)):=by
 refine fy rfl rfl rfl (by simp) ?_;have hI:=λJ hJ=>Ig (J:=J) (k0:=x) (k1:=y) (k2:=z) hJ
 simp only[h,if_true]at hI;simp[hI,Vh,nQ,Bk.bF,Bk.cells,Kq]
theorem VJ{F:List Abs.aG}{b:Bk}{er:List Int}{nm:List UInt8}{x y z:Int}(h:Trem.fx x y z=false):
  dr T (.call false 167 [.ref J.length 6 0 0,.str nm,.bT 3 [iI x,iI y,iI z]] (F::b.bF J.length er::J))=some (.fu (rf 1) (F::b.bF J.length er::J)):=by
 refine dX rfl rfl rfl ?_;have hI:=λJ hJ=>Ig (J:=J) (k0:=x) (k1:=y) (k2:=z) hJ
 simp only[h]at hI;have hM:=λJ=>oV (J:=J) (e:=1) (by decide)
 simp[hI,Vh,hM,Bk.bF,Bk.cells,D.clean,rf]
theorem Oh{r:Trem.cH}:Cl 76 [.bT 1 r.enc,.bz,iI 0] (.cK [.int .u8 0,.int .u8 0,iI (if r.ok then 0 else 1)]) J:=by
 refine au ?_;have hA:=λJ=>@QH J [r] (by simp)
 try simp only[lF,Cl]at hA
 have hN:=λJ=>all_nil (T:=T) (J:=J) (fv:=.fn 117 [] []) (f:=116) (ag:=true) (w:=2) rfl rfl rfl rfl rfl rfl
 simp only[List.length_singleton,db,mY,da,dj,jm,List.all_nil,Bool.and_true]at hA;have w0:Trem.bC 0 0 1000000=true:=by decide
 cases hr:r.ok
 .rw[hr]at hA;simp only[Trem.cH.enc]at hA ⊢;simp[hA]
 .rw[hr]at hA;have hc:=(Trem.zl.1 hr).2.2.2.1;have c1:¬r.count<=0:=by omega
  simp only[Trem.cH.enc]at hA ⊢;simp[hA,hN,iB,w0];refine aA eR.eq_1 ?_;simp;refine aA ja.eq_1 ?_;simp[c1];refine aA eR.eq_1 ?_;simp[]
def sk(b:Bk)(r:Trem.cH)(c:Int):Bk×Int :=
 if b.rules.length<20 then(if bC c 1 2=true then(if r.ok=true then({b with rules:=b.rules++[r] },0)else(b,1))else(b,1))else(b,3)
theorem P8(l:List Trem.cH):(fM l Trem.cH.enc).length=l.length*10:=b8 (f:=Trem.cH.enc) (w:=10) (λ_=>rfl) l
theorem acO{F:List Abs.aG}{b:Bk}{er:List Int}{nm:List UInt8}{x0 x1 x2 x3 x4 x5 x6 x7 x8 x9:Int}{b':Bk}{e:Int}(hd:sk b ⟨⟨x0,x1,x2⟩,⟨x3,x4,x5⟩,x6,x7,x8,x9⟩ x9=(b',e))(he:e=0):
  dr T (.call false 166 [.ref J.length 6 0 0,.str nm,.bT 10 [iI x0,iI x1,iI x2,iI x3,iI x4,iI x5,iI x6,iI x7,iI x8,iI x9]] (F::b.bF J.length er::J))=some (.val (.cK []) (F::b'.bF J.length er::J)):=by
 refine fy rfl rfl rfl (by simp) ?_;have hL:=λJ=>Oh (J:=J) (r:=⟨⟨x0,x1,x2⟩,⟨x3,x4,x5⟩,x6,x7,x8,x9⟩)
 unfold sk at hd;split at hd
 case isFalse=>cases hd;cases he
 rename_i h1;split at hd
 case isFalse=>cases hd;cases he
 rename_i h2;split at hd
 case isFalse=>cases hd;cases he
 rename_i h3;cases hd;have h1':(b.rules.length:Int)<20:=by omega
 have h4:=aP.1 h2;have w1:IntKind.u8.wrap x9=x9:=wu8 (by omega);have w2:(b.rules.length+1)*80<=room:=by unfold room;omega
 have w3:=P8 b.rules;have w4:(fM b.rules Trem.cH.enc).take (b.rules.length*10)=fM b.rules Trem.cH.enc:=ah (by omega);simp only[h3,if_true,Trem.cH.enc]at hL;simp[Bk.bF,Bk.cells,h1',ej,h2,cQ,w1,hL,nQ,w2,w3,w4]
theorem V4{F:List Abs.aG}{b:Bk}{er:List Int}{nm:List UInt8}{x0 x1 x2 x3 x4 x5 x6 x7 x8 x9:Int}{b':Bk}{e:Int}(hd:sk b ⟨⟨x0,x1,x2⟩,⟨x3,x4,x5⟩,x6,x7,x8,x9⟩ x9=(b',e))(he:e≠0):
  dr T (.call false 166 [.ref J.length 6 0 0,.str nm,.bT 10 [iI x0,iI x1,iI x2,iI x3,iI x4,iI x5,iI x6,iI x7,iI x8,iI x9]] (F::b.bF J.length er::J))=some (.fu (rf e) (F::b.bF J.length er::J)):=by
 refine dX rfl rfl rfl ?_;have hL:=λJ=>Oh (J:=J) (r:=⟨⟨x0,x1,x2⟩,⟨x3,x4,x5⟩,x6,x7,x8,x9⟩)
 have hM:=λJ=>oV (J:=J) (e:=1) (by decide)
 unfold sk at hd;split at hd
 .rename_i h1;have h1':(b.rules.length:Int)<20:=by omega
  split at hd
  .rename_i h2;have h4:=aP.1 h2;have w1:IntKind.u8.wrap x9=x9:=wu8 (by omega);split at hd
   .cases hd;exact absurd rfl he
   .rename_i h3;cases hd;have h3':Trem.cH.ok ⟨⟨x0,x1,x2⟩,⟨x3,x4,x5⟩,x6,x7,x8,x9⟩=false:=by simpa using h3
    simp only[h3',Trem.cH.enc]at hL;simp[Bk.bF,Bk.cells,h1',ej,h2,cQ,w1,hL,hM,D.clean,rf]
  .rename_i h2;cases hd;have h2':bC x9 1 2=false:=by simpa using h2
   simp[Bk.bF,Bk.cells,h1',ej,h2',cQ,dM,D.clean,rf]
 .rename_i h1;cases hd;have h1':¬(b.rules.length:Int)<20:=by omega
  simp[Bk.bF,Bk.cells,h1',dM,D.clean,rf]
theorem ku{α:Type}{f:α->List D}{l:List α}:(nl f l).qY=lF l f:=by
 unfold nl;split
 .rename_i h;subst h;rfl
 .rfl
theorem ads{l:List bH}:(nl bH.enc l).clean=true:=by unfold nl;split<;>simp[D.clean,xI]
theorem BW{b:bV}{tq wq:D}(htq:tq.qY=lF b.dP Rw.enc)(hwq:wq.qY=lF b.av bH.enc)(h1:b.dP.length<=1000000000)(h2:b.av.length<=1000000000):
  Cl 202 [.agg [iI b.f.x,iI b.f.y,iI b.f.z,iI b.f.k,tq,iI b.cA,iI b.lift,iI b.deep,wq]] (iI (if b.valid then 0 else 1)) J:=by
 refine au ?_;have hB:=λJ=>Dk (J:=J) (b:=b) h1 h2
 cases hv:b.valid<;>rw[hv]at hB<;>simp[htq,hwq,hB]
def Df(b:Bk)(x y z:Int):Bk:={b with aS:={b.aS with cA:=x,lift:=y,deep:=z },ready:=true }
def yd(b:Bk)(x y z:Int):Bk×Int :=
 if((b.aS.f.x=0/\b.aS.f.y=0)/\b.aS.f.z=0/\b.aS.f.k=0)\/b.aS.dP=[]\/b.ready=true then(b,8)
 else if(Df b x y z).aS.valid=true then(Df b x y z,0)else(b,1)
theorem Kh{f:dD}:(f.x == 0 && (f.y == 0 && (f.z == 0 && f.k == 0)))=decide ((f.x=0/\f.y=0)/\f.z=0/\f.k=0):=by
 by_cases h1:f.x=0<;>by_cases h2:f.y=0<;>by_cases h3:f.z=0<;>by_cases h4:f.k=0<;>simp[h1,h2,h3,h4]
theorem ei{α:Type}{f:α->List D}{l:List α}(h:l≠[]):nl f l=lF l f:=if_neg h
theorem acB{F:List Abs.aG}{b:Bk}{er:List Int}{nm:List UInt8}{x y z:Int}{b':Bk}{e:Int}(h1:b.aS.dP.length<=1000000000)(h2:b.aS.av.length<=1000000000)(hd:yd b x y z=(b',e))(he:e=0):
  dr T (.call false 162 [.ref J.length 6 0 0,.str nm,.bT 3 [iI x,iI y,iI z]] (F::b.bF J.length er::J))=some (.val (.cK []) (F::b'.bF J.length er::J)):=by
 refine fy rfl rfl rfl (by simp) ?_;unfold yd at hd;split at hd
 case isTrue=>cases hd;cases he
 rename_i h0;split at hd
 case isFalse=>cases hd;cases he
 rename_i h3;cases hd;have c1:(b.aS.f.x == 0 && (b.aS.f.y == 0 && (b.aS.f.z == 0 && b.aS.f.k == 0)))=false:=by rw[Kh];simpa using λhh=>h0 (.inl hh)
 have c2:b.aS.dP≠[]:=λhh=>h0 (.inr (.inl hh))
 have c3:b.ready=false:=by cases hr:b.ready with | false=>rfl | true=>exact absurd (.inr (.inr hr)) h0
 have c4:0<b.aS.dP.length:=aI.2 c2;have hcl:(D.bT b.aS.dP.length (fM b.aS.dP Rw.enc)).clean=true:=by simp[D.clean,CW]
 have hC:=λJ=>BW (J:=J) (b:=(Df b x y z).aS) (tq:=nl Rw.enc b.aS.dP) (wq:=nl bH.enc b.aS.av) ku ku h1 h2
 rw[h3]at hC;simp only[ei c2,Df]at hC;simp[Bk.bF,Bk.cells,c1,ei c2,c4,c3,cQ,nQ,hC,Df,ads,hcl]
theorem VB{F:List Abs.aG}{b:Bk}{er:List Int}{nm:List UInt8}{x y z:Int}{b':Bk}{e:Int}(h1:b.aS.dP.length<=1000000000)(h2:b.aS.av.length<=1000000000)(hd:yd b x y z=(b',e))(he:e≠0):
  dr T (.call false 162 [.ref J.length 6 0 0,.str nm,.bT 3 [iI x,iI y,iI z]] (F::b.bF J.length er::J))=some (.fu (rf e) (F::b.bF J.length er::J)):=by
 refine dX rfl rfl rfl ?_;have hM:=λJ=>oV (J:=J) (e:=1) (by decide)
 unfold yd at hd;split at hd
 .rename_i h0;cases hd;cases c1:(b.aS.f.x == 0 && (b.aS.f.y == 0 && (b.aS.f.z == 0 && b.aS.f.k == 0)))
  .by_cases c2:b.aS.dP=[]
   .simp[Bk.bF,Bk.cells,c1,c2,nl,dM,D.clean,rf]
   .have c4:0<b.aS.dP.length:=aI.2 c2;have c3:b.ready=true:=by
     rw[Kh]at c1;rcases h0 with h | h | h
     .exact absurd h (by simpa using c1)
     .exact absurd h c2
     .exact h
    simp[Bk.bF,Bk.cells,c1,ei c2,c4,c3,dM,D.clean,rf]
  .simp[Bk.bF,Bk.cells,c1,dM,D.clean,rf]
 .rename_i h0;split at hd
  .cases hd;exact absurd rfl he
  rename_i h3;cases hd;have c1:(b.aS.f.x == 0 && (b.aS.f.y == 0 && (b.aS.f.z == 0 && b.aS.f.k == 0)))=false:=by rw[Kh];simpa using λhh=>h0 (.inl hh)
  have c2:b.aS.dP≠[]:=λhh=>h0 (.inr (.inl hh))
  have c3:b.ready=false:=by cases hr:b.ready with | false=>rfl | true=>exact absurd (.inr (.inr hr)) h0
  have c4:0<b.aS.dP.length:=aI.2 c2;have hC:=λJ=>BW (J:=J) (b:=(Df b x y z).aS) (tq:=nl Rw.enc b.aS.dP) (wq:=nl bH.enc b.aS.av) ku ku h1 h2
  have h3':(Df b x y z).aS.valid=false:=by simpa using h3
  rw[h3']at hC;simp only[ei c2,Df]at hC;simp[Bk.bF,Bk.cells,c1,ei c2,c4,c3,cQ,hM,hC,D.clean,rf]
theorem yb(l:List bH):(fM l bH.enc).length=l.length*3:=b8 (f:=bH.enc) (w:=3) (λ_=>rfl) l
theorem LA{bs:List Abs.aG}:dr T (.call true 203 [.bz] (bs::J))=some (.val (.sl J.length (bs.length+1) 0 0 0 3) ((bs++[.cells 0 [],.cells 0 []])::J)):=by
 refine vy rfl rfl rfl ?_;simp
theorem Oq{bs:List Abs.aG}{l:List bH}(hne:l≠[])(hl:l.length<=1000000):dr T (.call true 203 [lF l bH.enc] (bs::J)) =
  some (.val (.sl J.length (bs.length+1) 1 0 l.length 3) ((bs++[.cells 0 [],.cells 1 (fM l bH.enc)])::J)):=by
 refine vy rfl rfl rfl ?_;have h7:l.length*24<=room:=by unfold room;omega
 simp[hne,yb,h7]
def nP(b:Bk)(x y z:Int):Bk:={b with aS:={b.aS with av:=b.aS.av++[⟨x,y,z⟩] } }
def tF(b:Bk)(x y z:Int):Bk×Int :=
 if b.ready=true/\b.ai=[]then(if(nP b x y z).aS.valid=true then(nP b x y z,0)else(b,1))else(b,8)
theorem acZ{F:List Abs.aG}{b:Bk}{er:List Int}{nm:List UInt8}{x y z:Int}{b':Bk}{e:Int}(ht:b.aS.dP≠[])(h1:b.aS.dP.length<=1000000000)(h2:b.aS.av.length<=1000000)(hd:tF b x y z=(b',e))(he:e=0):
  dr T (.call false 163 [.ref J.length 6 0 0,.str nm,.bT 3 [iI x,iI y,iI z]] (F::b.bF J.length er::J))=some (.val (.cK []) (F::b'.bF J.length er::J)):=by
 refine fy rfl rfl rfl (by simp) ?_;unfold tF at hd;split at hd
 case isFalse=>cases hd;cases he
 rename_i h0;obtain⟨c1,c2⟩:=h0;split at hd
 case isFalse=>cases hd;cases he
 rename_i h3;cases hd;have hC:=λJ=>BW (J:=J) (b:=(nP b x y z).aS) (tq:=.bT b.aS.dP.length (fM b.aS.dP Rw.enc)) (wq:=.bT (b.aS.av.length+1) (fM b.aS.av bH.enc++[iI x,iI y,iI z])) rfl (by simp[nP,D.qY]) h1 (by simp[nP];omega)
 rw[h3]at hC;simp only[nP]at hC;have hcl:(D.bT b.aS.dP.length (fM b.aS.dP Rw.enc)).clean=true:=by simp[D.clean,CW]
 have hroom:(b.aS.av.length+1)*24<=room:=by unfold room;omega
 have hlen:=yb b.aS.av;have htake:(fM b.aS.av bH.enc).take (b.aS.av.length*3)=fM b.aS.av bH.enc:=ah (by omega);have hcw:D.bf (fM b.aS.av bH.enc++[iI x,iI y,iI z])=true:=by
  have:=xI (b.aS.av++[⟨x,y,z⟩]);simpa using this
 have hfr:∀(v:Nat) (S:SK),S.length=J.length+1+1->cF 0 16 (.sl (J.length+1+1) 1 v 0 (b.aS.av.length+1) 3) ([.cells 0 [],.cells v (fM b.aS.av bH.enc++[iI x,iI y,iI z])]::S) =
   (.bT (b.aS.av.length+1) (fM b.aS.av bH.enc++[iI x,iI y,iI z]),[.cells 0 [],.dead]::S):=by
  intro v S hS;have:=o9 (f:=bH.enc) (w:=3) (λ_=>rfl) (λ_=>by simp[D.clean]) (l:=b.aS.av++[⟨x,y,z⟩]) (j:=1) (v:=v) (bs:=[Abs.aG.cells 0 [],.cells v (fM b.aS.av bH.enc++[iI x,iI y,iI z])]) (J:=S) (by intro h;subst h;simp at hS) (by simp);rw[hS]at this;simpa using this
 have h24:24<=room:=by unfold room;omega
 have hcw2:(D.bT (b.aS.av.length+1) (fM b.aS.av bH.enc++[iI x,iI y,iI z])).clean=true:=by simpa[D.clean]using hcw
 by_cases hw:b.aS.av=[]
 .have hfr':=hfr;simp only[hw,aY,mY,aU,cq]at hfr' hC;have ht':=ei (f:=Rw.enc) ht;simp only[nl]at ht';simp[Bk.bF,Bk.cells,c1,c2,ht',hC,hw,nl,cQ,nQ,LA,nP,hcl,h24,hfr']
 .simp[Bk.bF,Bk.cells,c1,c2,ei ht,ei hw,cQ,nQ,Oq hw h2,nP,hcl,hroom,hlen,htake,hfr,hC,hcw2];simp[nl]
theorem We{F:List Abs.aG}{b:Bk}{er:List Int}{nm:List UInt8}{x y z:Int}{b':Bk}{e:Int}(ht:b.ready=true->b.aS.dP≠[])(h1:b.aS.dP.length<=1000000000)(h2:b.aS.av.length<=1000000)(hd:tF b x y z=(b',e))(he:e≠0):
  dr T (.call false 163 [.ref J.length 6 0 0,.str nm,.bT 3 [iI x,iI y,iI z]] (F::b.bF J.length er::J))=some (.fu (rf e) (F::b.bF J.length er::J)):=by
 refine dX rfl rfl rfl ?_;have hM:=λJ=>oV (J:=J) (e:=1) (by decide)
 have hrc:(D.ui 200 (.agg [iI 1])).clean=true:=rfl;unfold tF at hd;split at hd
 case isFalse h0 =>
  cases hd;cases c1:b.ready with
  |false=>simp[Bk.bF,Bk.cells,c1,dM,D.clean,rf]
  |true =>
   have c2:b.ai≠[]:=λhh=>h0 ⟨c1,hh⟩
   have c2':((b.ai.length:Int) == 0)=false:=by simpa using c2
   simp[Bk.bF,Bk.cells,c1,c2',dM,D.clean,rf]
 rename_i h0;obtain⟨c1,c2⟩:=h0;have ht:=ht c1;split at hd
 case isTrue=>cases hd;exact absurd rfl he
 rename_i h3;cases hd;have h3':(nP b x y z).aS.valid=false:=by simpa using h3
 have hC:=λJ=>BW (J:=J) (b:=(nP b x y z).aS) (tq:=.bT b.aS.dP.length (fM b.aS.dP Rw.enc)) (wq:=.bT (b.aS.av.length+1) (fM b.aS.av bH.enc++[iI x,iI y,iI z])) rfl (by simp[nP,D.qY]) h1 (by simp[nP];omega)
 rw[h3']at hC;simp only[nP]at hC;have hcl:(D.bT b.aS.dP.length (fM b.aS.dP Rw.enc)).clean=true:=by simp[D.clean,CW]
 have hroom:(b.aS.av.length+1)*24<=room:=by unfold room;omega
 have hlen:=yb b.aS.av;have htake:(fM b.aS.av bH.enc).take (b.aS.av.length*3)=fM b.aS.av bH.enc:=ah (by omega);have hcw:D.bf (fM b.aS.av bH.enc++[iI x,iI y,iI z])=true:=by
  have:=xI (b.aS.av++[⟨x,y,z⟩]);simpa using this
 have hfr:∀(v:Nat) (S:SK),S.length=J.length+1+1->cF 0 16 (.sl (J.length+1+1) 1 v 0 (b.aS.av.length+1) 3) ([.cells 0 [],.cells v (fM b.aS.av bH.enc++[iI x,iI y,iI z])]::S) =
   (.bT (b.aS.av.length+1) (fM b.aS.av bH.enc++[iI x,iI y,iI z]),[.cells 0 [],.dead]::S):=by
  intro v S hS;have:=o9 (f:=bH.enc) (w:=3) (λ_=>rfl) (λ_=>by simp[D.clean]) (l:=b.aS.av++[⟨x,y,z⟩]) (j:=1) (v:=v) (bs:=[Abs.aG.cells 0 [],.cells v (fM b.aS.av bH.enc++[iI x,iI y,iI z])]) (J:=S) (by intro h;subst h;simp at hS) (by simp);rw[hS]at this;simpa using this
 have h24:24<=room:=by unfold room;omega
 have hcw2:(D.bT (b.aS.av.length+1) (fM b.aS.av bH.enc++[iI x,iI y,iI z])).clean=true:=by simpa[D.clean]using hcw
 by_cases hw:b.aS.av=[]
 .have hfr':=hfr;simp only[hw,aY,mY,aU,cq]at hfr' hC;have ht':=ei (f:=Rw.enc) ht;simp only[nl]at ht';simp[Bk.bF,Bk.cells,c1,c2,ht',hC,hw,nl,cQ,hM,LA,hcl,h24,hfr',rf,hrc]
 .simp[Bk.bF,Bk.cells,c1,c2,ei ht,ei hw,cQ,hM,Oq hw h2,hcl,hroom,hlen,htake,hfr,hC,rf,hrc]
theorem NV(l:List Rw):(fM l Rw.enc).length=l.length*5:=b8 (f:=Rw.enc) (w:=5) (λ_=>rfl) l
theorem QU{bp:D}(hb1:bp.calm=bp):∀(rs acc:List Rw),acc.length+rs.length<=1000000 ->
  WL T [0,2,6] false fX [(0,bp),(2,.bT (rs.length*5) (fM rs Rw.enc)),(6,.sl J.length 0 acc.length 0 acc.length 5)] ([.cells acc.length (fM acc Rw.enc)]::J)
   (λx e J'=>x=.exit 0/\get e 0=bp/\get e 6=.sl J.length 0 (acc++rs).length 0 (acc++rs).length 5/\J'=[.cells (acc++rs).length (fM (acc++rs) Rw.enc)]::J)
 |[],acc,h=>by
  refine aA fX.eq_1 ?_;simp[hb1]
 |r::rs,acc,h=>by
  refine aA fX.eq_1 ?_;simp only[aE]at h;have⟨e1,q0,q1,q2,q3,q4⟩:(rs.length+1)*5=rs.length*5+5/\(0:Int)<(rs.length:Int)*5+5/\(1:Int)<(rs.length:Int)*5+5/\(2:Int)<(rs.length:Int)*5+5/\(3:Int)<(rs.length:Int)*5+5/\(4:Int)<(rs.length:Int)*5+5:=by omega
  have q5:(5:Int)<=(rs.length:Int)*5+5:=by omega
  have hroom:(acc.length+1)*40<=room:=by unfold room;omega
  have hl:=NV acc;have ht:(fM acc Rw.enc).take (acc.length*5)=fM acc Rw.enc:=ah (by omega);have hl2:=NV rs;have ht2:(fM rs Rw.enc).take (rs.length*5)=fM rs Rw.enc:=ah (by omega);simp[hb1,e1,q0,q1,q2,q3,q4,q5,hroom,hl,ht];refine WL.to (QU hb1 rs (acc++[r]) (by simp;omega)) (by simp[ht2]) (by simp) λx e J' hh=>?_
  simpa using hh
def H7(b:Bk)(t:List Rw):Bk:={b with aS:={b.aS with dP:=t } }
def lT(b:Bk)(t:List Rw):Bk×Int:=if b.aS.dP=[]then(if fK t=true then(H7 b t,0)else(b,1))else(b,8)
theorem ZD{F:List Abs.aG}{b:Bk}{er:List Int}{nm:List UInt8}{t:List Rw}{b':Bk}{e:Int}(hl:t.length<=1000000)(hd:lT b t=(b',e))(he:e=0):
  dr T (.call false 161 [.ref J.length 6 0 0,.str nm,.bT (t.length*5) (fM t Rw.enc)] (F::b.bF J.length er::J))=some (.val (.cK []) (F::b'.bF J.length er::J)):=by
 refine fy rfl rfl rfl (by simp) ?_;unfold lT at hd;split at hd
 case isFalse=>cases hd;cases he
 rename_i h0;split at hd
 case isFalse=>cases hd;cases he
 rename_i h3;cases hd;have hne:t≠[]:=by intro h;subst h;simp[fK,bC]at h3
 have hC:=λJ=>BX (J:=J) (l:=t) (by omega)
 rw[h3]at hC;have hL:=QU (J:=F::b.bF J.length er::J) (bp:=.ref J.length 6 0 0) rfl t [] (by simpa using hl);simp[Bk.bF,Bk.cells,h0,nl,cQ];refine WL.to hL (by simp) (by simp[Bk.bF,Bk.cells,h0,nl]) ?_;rintro x e J' ⟨rfl,g0,g6,rfl⟩;have hcl:(D.bT t.length (fM t Rw.enc)).clean=true:=by simp[D.clean,CW]
 have hfr:∀S:SK,S.length=J.length+1+1->cF 0 16 (.sl (J.length+1+1) 0 t.length 0 t.length 5) ([.cells t.length (fM t Rw.enc)]::S)=(.bT t.length (fM t Rw.enc),[.dead]::S):=by
  intro S hS;have:=o9 (f:=Rw.enc) (w:=5) (λ_=>rfl) (λ_=>by simp[D.clean]) (l:=t) (j:=0) (v:=t.length) (bs:=[Abs.aG.cells t.length (fM t Rw.enc)]) (J:=S) (by intro h;subst h;simp at hS) (by simp);rw[hS]at this;simpa using this
 simp[g0,g6,hfr,hC,nQ,hcl,Bk.bF,Bk.cells,h0,nl,hne,H7];exact⟨rfl,rfl⟩
theorem Ub{F:List Abs.aG}{b:Bk}{er:List Int}{nm:List UInt8}{t:List Rw}{b':Bk}{e:Int}(hl:t.length<=1000000)(hd:lT b t=(b',e))(he:e≠0):
  dr T (.call false 161 [.ref J.length 6 0 0,.str nm,.bT (t.length*5) (fM t Rw.enc)] (F::b.bF J.length er::J))=some (.fu (rf e) (F::b.bF J.length er::J)):=by
 refine dX rfl rfl rfl ?_;have hM:=λJ=>oV (J:=J) (e:=1) (by decide)
 have hrc:(D.ui 200 (.agg [iI 1])).clean=true:=rfl;unfold lT at hd;split at hd
 case isFalse h0 =>
  cases hd;have h0':((b.aS.dP.length:Int) == 0)=false:=by simpa using h0
  simp[Bk.bF,Bk.cells,ei h0,h0',dM,D.clean,rf]
 rename_i h0;split at hd
 case isTrue=>cases hd;exact absurd rfl he
 rename_i h3;cases hd;have h3':fK t=false:=by simpa using h3
 have hC:=λJ=>BX (J:=J) (l:=t) (by omega)
 rw[h3']at hC;have hL:=QU (J:=F::b.bF J.length er::J) (bp:=.ref J.length 6 0 0) rfl t [] (by simpa using hl);simp[Bk.bF,Bk.cells,h0,nl,cQ];refine WL.to hL (by simp) (by simp[Bk.bF,Bk.cells,h0,nl]) ?_;rintro x e J' ⟨rfl,g0,g6,rfl⟩;have hcl:(D.bT t.length (fM t Rw.enc)).clean=true:=by simp[D.clean,CW]
 have hfr:∀S:SK,S.length=J.length+1+1->cF 0 16 (.sl (J.length+1+1) 0 t.length 0 t.length 5) ([.cells t.length (fM t Rw.enc)]::S)=(.bT t.length (fM t Rw.enc),[.dead]::S):=by
  intro S hS;have:=o9 (f:=Rw.enc) (w:=5) (λ_=>rfl) (λ_=>by simp[D.clean]) (l:=t) (j:=0) (v:=t.length) (bs:=[Abs.aG.cells t.length (fM t Rw.enc)]) (J:=S) (by intro h;subst h;simp at hS) (by simp);rw[hS]at this;simpa using this
 simp[g6,hfr,hC,hM,Bk.bF,Bk.cells,h0,nl,rf,hrc]
end Go.Proofs.YtpapbbojmclkgaaGreatDoor
