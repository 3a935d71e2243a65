import Derived.Test.YtpapbbojmclkgaaGreatDoorTxt1
set_option linter.all false
namespace Go.Proofs.YtpapbbojmclkgaaGreatDoor
open Go Go.Abs Go.Rock
variable {J:SK}
theorem Jp{l i v off:Nat}:dj T (.zg fF [.ref l i v off] none J)=some (.val (.cV []) J):=by
 refine C0 rfl rfl rfl (by simp[ri];exact⟨rfl,rfl⟩) ?_;simp
theorem VT{F:List Abs.aD}(hF:F=[.cells 0 [iI 0]]):dj T (.zg fF [.ref J.length 0 0 0] (some (.tP 428 (.agg []))) (F::J))=some (.val (.cV []) ([.cells 0 [iI 9]]::J)):=by
 subst hF;refine C0 rfl rfl rfl (by simp[ri];exact⟨rfl,rfl⟩) ?_;simp
theorem sG{α:Type}{f:α->Int}:∀{l:List α},bT f l=0->∀x∈l,f x=0
 |[],_,x,hx=>by cases hx
 |a::l,h,x,hx=>by
  simp only[bT]at h;split at h
  .rename_i ha;rcases bj.1 hx with rfl | hx
   .exact ha
   .exact sG h x hx
  .rename_i ha;exact absurd h ha
theorem nR{b:bU}{az:List (List Int)}(h:sJ b az=0):az.length<=200/\∀r∈az,Rv b r:=by
 unfold sJ at h;split at h
 .cases h
 .exact⟨by omega,λr hr=>Rv.of (sG h r hr)⟩
def lg(b:bU)(m:bV)(az:List (List Int)):Int:=if Bd b m then(if sJ b az=0 then(match Rock.run b m az with | some _=>0 | none=>9)else sJ b az)else 1
def Bu(b:bU)(m:bV)(az:List (List Int)):D:=if lg b m az=0 then(match Rock.run b m az with | some (ss,ys) => .agg [lF ss kS,lF ys kS] | none => .agg [.aW,.aW])else .agg [.aW,.aW]
theorem UQ{b:bU}{m:bV}{az:List (List Int)}{wq:D}(hwq:wq.pY=lF b.av bG.enc)(h1:b.dL.length<=1000000000)(h2:b.av.length<=1000000000)(hn:m.name.length<=1000000000)(hl:m.dn.length<=1000000000)(hp:az.length<=1000000000)(hs:∀l∈az,l.length<=1000000000)(hJ:J≠[]):
  Cl zL [.agg [iI b.f.x,iI b.f.y,iI b.f.z,iI b.f.k,lF b.dL Rw.enc,iI b.cz,iI b.lift,iI b.deep,wq],.agg (mL m),lF az IA] (.cV [Bu b m az,iI (lg b m az)]) J:=by
 have hP:=λJ=>Vj (J:=J) (b:=b) hp hs
 cases hb:Bd b m
 .have hE:lg b m az=1:=by simp[lg,hb]
  have hD:Bu b m az=.agg [.aW,.aW]:=by simp[Bu,hE]
  rw[hD,hE];refine au rfl rfl rfl ?_;obtain⟨d,hB,hd1,hd2⟩:=Ru h1 h2 hn hl hb (J:=[.cells 0 [iI 0]]::J);simp[hwq,hB,hd1]
 .have hB:=λJ=>aaE (J:=J) h1 h2 hn hl hb
  by_cases hq:sJ b az=0
  .obtain⟨p1,p2⟩:=nR hq;simp only[Bd,af]at hb;have hf:Fv b m:=Fv.of (by simp[Bd,hb]);have hb':Bd b m=true:=by simp[Bd,hb]
   refine Ot Oj zt.eq_1 rfl rfl ?_;cases hrun:Rock.run b m az with
   |none =>
    have hE:lg b m az=9:=by simp[lg,hb',hq,hrun]
    have hD:Bu b m az=.agg [.aW,.aW]:=by simp[Bu,hE]
    have hR:=λJ=>RA (J:=J) hf p1 p2 hrun
    have hX:wk T (.fn fF [] []) [.ref J.length 0 0 0] (some (.tP 428 (.agg []))) ([.cells 0 [iI 0]]::J)=some ([.cells 0 [iI 9]]::J):=uL (VT rfl);rw[hD,hE];simp[toD,hwq,hB,hP,hq];rw[AP tn.eq_1];simp[OF,hX,hR]
   |some p =>
    obtain⟨ss,ys⟩:=p;have hE:lg b m az=0:=by simp[lg,hb',hq,hrun]
    have hD:Bu b m az=.agg [lF ss kS,lF ys kS]:=by simp[Bu,hE,hrun]
    have hX:wk T (.fn fF [] []) [.ref J.length 0 0 0] none ([.cells 0 [iI 0]]::J)=some ([.cells 0 [iI 0]]::J):=uL Jp;have hR:=λJ hJ=>RB (J:=J) hf p1 p2 hJ hrun
    rw[hD,hE];simp[toD,hwq,hB,hP,hq];rw[AP tn.eq_1];simp[OF,hX,hR];rw[eW (by simp[D.clean,aaQ]) (by omega)];exact⟨_,rfl⟩
  .have hE:lg b m az=sJ b az:=by simp[lg,hb,hq]
   have hD:Bu b m az=.agg [.aW,.aW]:=by simp[Bu,hE,hq]
   rw[hD,hE];refine au rfl rfl rfl ?_;simp[hwq,hB,hP,hq]
end Go.Proofs.YtpapbbojmclkgaaGreatDoor
namespace Go.Book
open Go Go.Abs Go.Rock
def FB(s:List UInt8):Option Int:=if((rj s).1=0/\DD (rj s).2=s)/\bA (rj s).2 (-999999999) 999999999=true then some (rj s).2 else none
def mD:List (List UInt8)->Option (List Int)
 |[]=>some []
 |s::l=>match FB s with
  |some n=>(mD l).map (n :: ·)
  |none=>none
structure Wd where
 named:Bool
 least:Int
 step:Int
 k:Nat
def l8:List (List UInt8×Wd):=[
 ([102,105,101,108,100],⟨false,4,0,0⟩),([116,97,98,108,101],⟨false,0,5,1⟩),([98,101,100],⟨false,3,0,2⟩),([119,101,108,108],⟨false,3,0,3⟩),
 ([109,111,100,101,108],⟨true,0,1,4⟩),([108,111,103],⟨true,3,2,5⟩),([114,117,108,101],⟨false,10,0,6⟩),([107,101,101,112],⟨false,3,0,7⟩),
 ([113,117,97,107,101],⟨false,0,4,8⟩),([116,105,99,107],⟨false,0,1,9⟩),([114,101,97,100],⟨false,4,0,10⟩),([117,110,105,116],⟨false,1,2,11⟩),([115,101,108,108],⟨false,4,0,12⟩)]
def CM(s:List UInt8):List (List UInt8×Wd)->Option Wd
 |[]=>none
 |(k,w)::l=>if s=k then some w else CM s l
def xc(s:List UInt8):Option Wd:=CM s l8
theorem Bj{s:List UInt8}{w:Wd}:∀{l:List (List UInt8×Wd)},CM s l=some w->(s,w)∈l
 |[],h=>by cases h
 |(k,v)::l,h=>by
  simp only[CM]at h;split at h
  .rename_i e;cases h;subst e;simp
  .exact List.mem_cons_of_mem _ (Bj h)
theorem GW{s:List UInt8}{w:Wd}(h:xc s=some w):0<=w.least/\w.least<=10/\0<=w.step/\w.step<=5/\w.k<13:=by
 have h1:=Bj h;simp only[l8,bj,ar,List.not_mem_nil,or_false]at h1;rcases h1 with⟨_,rfl⟩ | ⟨_,rfl⟩ | ⟨_,rfl⟩ | ⟨_,rfl⟩ | ⟨_,rfl⟩ | ⟨_,rfl⟩ | ⟨_,rfl⟩ | ⟨_,rfl⟩ | ⟨_,rfl⟩ | ⟨_,rfl⟩ | ⟨_,rfl⟩ | ⟨_,rfl⟩ | ⟨_,rfl⟩<;>simp
def Fq(w:Wd)(n:Int):Bool:=decide (n-w.least=0) || (decide (0<n-w.least) && (decide (0<w.step) && decide ((n-w.least).tmod w.step=0)))
def qY(w:Wd)(name:List UInt8)(l:List (List UInt8)):Option (Wd×List UInt8×List Int) :=
 match mD l with
 |some ns=>if Fq w ns.length=true then some (w,name,ns)else none
 |none=>none
def parse(s:List UInt8):Option (Wd×List UInt8×List Int) :=
 match db 32 s with
 |[]=>none
 |a::all=>match xc a with
  |none=>none
  |some w=>if w.named=true then(match all with
   |[]=>none
   |n::r=>qY w n r)else qY w [] all
theorem sN(b:UInt8)(s:List UInt8):db b s≠[]:=by
 cases s with
 |nil=>simp[db]
 |cons c r =>
  simp only[db];split
  .simp
  .split<;>simp
theorem Cq(b:UInt8):∀s:List UInt8,(db b s).length<=s.length+1
 |[]=>by simp[db]
 |c::r=>by
  have:=Cq b r;simp only[db];split
  .simp;omega
  .split
   .rename_i h;rw[h]at this;simp at this ⊢;omega
   .simp
end Go.Book
namespace Go.Proofs.YtpapbbojmclkgaaGreatDoor
open Go Go.Abs Go.Rock Go.Book
variable {J:SK}
theorem Kb{T:Ad}{kp:Bool}{f k:Nat}{args:List D}{J:SK}{r:R}(hT:T f=none)(hN:T (1000000+f)=some ⟨k,[],.exit 0⟩)(h:Hp k args J=some r):dj T (.call kp f args J)=some r :=
 gn (by simp[du,hT,hN,h])
def rf(e:Int):D:=.tP 200 (.agg [iI e])
theorem cK{e:Int}:Cl vg [.bool true,iI e] (.cV []) J:=by
 refine au rfl rfl rfl ?_;simp
theorem dG{e:Int}:dj T (.call false vg [.bool false,iI e] J)=some (.ft (rf e) J):=by
 refine dY rfl rfl rfl ?_;simp[ado,D.clean,rf]
theorem nE:Cl tE [iI 0] (.cV []) J:=by
 refine au rfl rfl rfl ?_;simp[cK]
theorem oI{e:Int}(h:e≠0):dj T (.call false tE [iI e] J)=some (.ft (rf e) J):=by
 refine dY rfl rfl rfl ?_;have h':(e == 0)=false:=by simpa using h
 simp[dG,h',D.clean,rf]
theorem eR{a b c:Int}:Cl pM [iI a,iI b,iI c] (.bool (bA a b c)) J:=by
 refine au rfl rfl rfl ?_;by_cases h:b<=a<;>simp[h,bA]
theorem P3{n:Int}(h : -9223372036854775808<=n/\n<=9223372036854775807):Cl gS [iI n] (.str (DD n)) J :=
 Kb Jo Jj (by simp[Hp,h])
theorem Mf{s:List UInt8}(h:s.length<=1000000):Cl jD [.str s] (.cV [iI (rj s).2,if(rj s).1=0 then .nQ else .tP 408 .undef]) J :=
 Kb Jn Ji (by simp[Hp,h])
theorem DX{s:List UInt8}(h:s.length<=1000000):Cl ij [.str s,.str [32]] (.bY (db 32 s).length ((db 32 s).map .str)) J :=
 Kb Iv It (by simp[Hp,h])
theorem MA(s:List UInt8) : -9223372036854775808<=(rj s).2/\(rj s).2<=9223372036854775807:=by
 unfold rj;split
 .rename_i v h;cases s with
  |nil=>cases h
  |cons c r =>
   simp only[Lib.atoiAll]at h;split at h
   .cases h
   .cases h
   .rename_i u hu;split at h
    .cases h
    .split at h
     .cases h
     .cases h;dsimp only;split<;>omega
 .simp
 .simp only[Lib.atoiSat];split<;>simp
theorem Vf{s:List UInt8}(hl:s.length<=1000000){n:Int}(h:FB s=some n):Cl pL [.str s] (iI n) J:=by
 unfold FB at h;simp only[aH,ae]at h;obtain⟨⟨⟨h1,h2⟩,h3⟩,rfl⟩:=h;refine au rfl rfl rfl ?_;simp[Mf hl,h1,P3 (MA s),h2,gW,eR,h3,cK]
theorem Qc{s:List UInt8}(hl:s.length<=1000000)(h:FB s=none):dj T (.call false pL [.str s] J)=some (.ft (rf 4) J):=by
 refine dY rfl rfl rfl ?_;unfold FB at h;simp only[ite_eq_right_iff,reduceCtorEq,imp_false,not_and]at h;by_cases h1:(rj s).1=0
 .by_cases h2:DD (rj s).2=s
  .have h3:bA (rj s).2 (-999999999) 999999999=false:=by simpa using h ⟨h1,h2⟩
   simp[Mf hl,h1,P3 (MA s),h2,gW,eR,h3,dG,D.clean,rf]
  .simp[Mf hl,h1,P3 (MA s),h2,gW,dG,D.clean,rf]
 .simp[Mf hl,h1,dG,D.clean,rf]
def LQ:List Nat:=[jv,jz,kI,j6,jx,kJ,jY,jW,jy,j4,jX,j5,jZ]
def P0(w:Wd):List D:=[.bool w.named,iI w.least,iI w.step,.fn ((LQ[w.k]?).getD 0) [] []]
def ji(l:List (List UInt8×Wd)):List D:=l.map λp => .cV [.str p.1,.agg (P0 p.2)]
theorem JT{s:List UInt8}:∀{l:List (List UInt8×Wd)},CM s l=none->pc none (.str s) (ji l)=some none
 |[],_=>rfl
 |(k,w)::l,h=>by
  simp only[CM]at h;split at h
  .cases h
  .rename_i hk;have hb:(s == k)=false:=by simpa using hk
   have:=JT h;simp only[ji,aN,pc,so,hb]at this ⊢;rw[this];rfl
theorem Lx{s:List UInt8}{w:Wd}:∀{l:List (List UInt8×Wd)},CM s l=some w->∃j,pc none (.str s) (ji l)=some (some (j,.agg (P0 w)))
 |[],h=>by cases h
 |(k,v)::l,h=>by
  simp only[CM]at h;split at h
  .rename_i hk;cases h;subst hk;exact⟨0,by simp[ji,pc,so]⟩
  .rename_i hk;have hb:(s == k)=false:=by simpa using hk
   obtain⟨j,hj⟩:=Lx h;exact⟨j+1,by
    simp only[ji,aN,pc,so,hb]at hj ⊢;rw[hj];rfl⟩
theorem aju{S:SK}{l i:Nat}{pre:List (List UInt8×Wd)}{k:List UInt8}{w:Wd}(h:cells? S l i 0=some (ji pre))(hn:CM k pre=none)(hl:l+1=S.length):
  CW S (.put none) [.kV l i,.str k,.agg (P0 w)]=some (.undef,bh S l i (.cells 0 (ji (pre++[(k,w)])))):=by
 have h1:=JT hn;simp only[CW,CV,h,aZ,h1];simp[so,hl,ji]
theorem T2{S:SK}{l i:Nat}{s:List UInt8}(h:cells? S l i 0=some (ji l8)):
  CW S (.get none (.agg [.bool false,iI 0,iI 0,.pC]) true) [.kV l i,.str s] =
   some (match xc s with | some w => .cV [.agg (P0 w),.bool true] | none => .cV [.agg [.bool false,iI 0,iI 0,.pC],.bool false],S):=by
 simp only[CW,CV,h,aZ];cases hw:xc s with
 |none=>rw[JT hw];simp[so]
 |some w=>obtain⟨j,hj⟩:=Lx hw;rw[hj];simp[so]
theorem DZ{bs:List Abs.aD}:dj T (.call true rI [] (bs::J))=some (.val (.kV J.length bs.length) ((bs++[.cells 0 (ji l8)])::J)):=by
 refine xk rfl rfl rfl ?_;have hm:CW (bs::J) .make []=some (.kV J.length bs.length,(bs++[.cells 0 []])::J):=by simp[CW]
 have hp:∀(pre:List (List UInt8×Wd)) (k:List UInt8) (w:Wd),CM k pre=none->CW ((bs++[.cells 0 (ji pre)])::J) (.put none) [.kV J.length bs.length,.str k,.agg (P0 w)]=some (.undef,(bs++[.cells 0 (ji (pre++[(k,w)]))])::J):=by
  intro pre k w hn;have h1:cells? ((bs++[.cells 0 (ji pre)])::J) J.length bs.length 0=some (ji pre):=by simp
  have h2:J.length+1=((bs++[Abs.aD.cells 0 (ji pre)])::J).length:=by simp
  have h3:=aju (w:=w) h1 hn h2;refine h3.trans ?_;simp
 have p:=λ(j:Nat) (hj:j<13)=>hp (l8.take j) ((l8[j]?).getD ([],⟨false,0,0,0⟩)).1 ((l8[j]?).getD ([],⟨false,0,0,0⟩)).2
 have p0:=p 0 (by omega) (by decide);have p1:=p 1 (by omega) (by decide);have p2:=p 2 (by omega) (by decide);have p3:=p 3 (by omega) (by decide);have p4:=p 4 (by omega) (by decide);have p5:=p 5 (by omega) (by decide);have p6:=p 6 (by omega) (by decide);have p7:=p 7 (by omega) (by decide);have p8:=p 8 (by omega) (by decide);have p9:=p 9 (by omega) (by decide);have p10:=p 10 (by omega) (by decide);have p11:=p 11 (by omega) (by decide);have p12:=p 12 (by omega) (by decide);simp[l8,ji,P0,LQ]at p0 p1 p2 p3 p4 p5 p6 p7 p8 p9 p10 p11 p12;simp[hm,p0,p1,p2,p3,p4,p5,p6,p7,p8,p9,p10,p11,p12,l8,ji,P0,LQ]
@[simp] def dP(s:List UInt8):List D:=[.str s]
def SG(cs:List D)(name:List UInt8)(M:Abs.aD)(J:SK)(acc:List Int)(r:Option (List Int))(x:Abs.Exit)(e:Env)(J':SK):Prop:=match r with
 |some ns=>x=.exit 0/\get e 2=.own 0 cs/\get e 3=.str name/\get e 4=.sl J.length 0 (acc++ns).length 0 (acc++ns).length 1/\J'=[.cells (acc++ns).length (fM (acc++ns) aT),M]::J
 |none=>x=.ft (rf 4)/\∃bH,J'=bH::J
theorem Jh{all:List (List UInt8)}(hs:∀s∈all,s.length<=1000000)(hl:all.length<=1000001){cs:List D}{name:List UInt8}{M:Abs.aD}:∀(k i:Nat) (acc:List Int),i+k=all.length->acc.length=i ->
  WL T [2,3,4,35,36,37] false ju [(2,.own 0 cs),(3,.str name),(4,.sl J.length 0 i 0 i 1),(35,lF all dP),(36,iI all.length),(37,iI i)]
   ([.cells i (fM acc aT),M]::J) (SG cs name M J acc (mD (all.drop i)))
 |0,i,acc,hi,ha=>by
  refine aB ju.eq_1 ?_;obtain rfl:i=all.length:=by omega
  have h5:all.drop all.length=[]:=an (by omega);simp[h5,mD,SG,ha]
 |k+1,i,acc,hi,ha=>by
  refine aB ju.eq_1 ?_;have⟨hlt,hii⟩:i<all.length/\(i:Int)<i+1:=by omega
  obtain⟨s,hx⟩:=gE hlt;have h4:=cr hlt (by omega);have h5:=bD hx;have a1:=bu (f:=dP) (w:=1) (λ_=>rfl) hx;simp only[dP,cp]at a1;have hsl:=hs s (aj hx);rw[h5];simp only[mD];have hr:(i+1)*8<=room:=by unfold room;omega
  cases hn:FB s with
  |none =>
   simp[hlt,a1,Qc hsl hn,SG]
  |some n =>
   have hc:(fM acc aT).length=i:=by simp[ch (f:=aT) (w:=1) (λ_=>rfl),ha]
   have ht:(fM acc aT).take i=fM acc aT:=ai (by omega);simp[hlt,a1,Vf hsl hn,hr,h4,hc,ht];refine WL.to (Jh (cs:=cs) (name:=name) (M:=M) hs hl k (i+1) (acc++[n]) (by omega) (by simp[ha])) (by simp) (by simp) λx e J' hh=>?_
   cases hm:mD (all.drop (i+1))with
   |none=>rw[hm]at hh;exact hh
   |some ns=>rw[hm]at hh;simpa[SG]using hh
theorem Bt:∀{l:List (List UInt8)} {ns:List Int},mD l=some ns->ns.length=l.length
 |[],ns,h=>by simp only[mD,ae]at h;subst h;rfl
 |s::l,ns,h=>by
  simp only[mD]at h;split at h
  .rename_i n hn;simp only[ad]at h;obtain⟨m,h1,rfl⟩:=h;simp[Bt h1]
  .cases h
theorem gY(w:Wd):P0 w=[.bool w.named,iI w.least,iI w.step,.fn ((LQ[w.k]?).getD 0) [] []]:=rfl
theorem I1(l:List (List UInt8)):l.map D.str=fM l dP:=by induction l with | nil=>rfl | cons s l ih=>simp[ih]
theorem NV{s:List UInt8}(hl:s.length<=1000000){a:List UInt8}{all:List (List UInt8)}(h:db 32 s=a::all)(hw:xc a=none):dj T (.call false eo [.str s] J)=some (.ft (rf 4) J):=by
 refine dY rfl rfl rfl ?_;have hW:=DZ (bs:=[.cells 0 []]) (J:=J);have hG:=T2 (S:=[Abs.aD.cells 0 [],.cells 0 (ji l8)]::J) (l:=J.length) (i:=1) (s:=a) (by simp);rw[hw]at hG;simp[DX hl,h,hW,hG,dG,D.clean,rf]
def zQ(p:Wd×List UInt8×List Int):D:=.cV [.agg (P0 p.1),.str p.2.1,lF p.2.2 aT]
theorem IU{a:List D}(ha:D.bd a=true){name:List UInt8}{v:Nat}{ns:List Int}{M:Abs.aD}(hJ:J≠[]):
  cG (J.length-1) 16 (.cV [.agg a,.str name,.sl J.length 0 v 0 ns.length 1]) ([.cells v (fM ns aT),M]::J)=(.cV [.agg a,.str name,lF ns aT],[.dead,M]::J):=by
 have h3:¬J.length<=J.length-1:=by have:=aG.2 hJ;omega
 rw[tA (by simp[D.bd,D.clean]) (by omega)];have h4:=eW (l:=J.length-1) (n:=15) (d:=.agg a) (J:=[Abs.aD.cells v (fM ns aT),M]::J) (by simp[D.clean,ha]) (by omega);have h5:=eW (l:=J.length-1) (n:=15) (d:=.str name) (J:=[Abs.aD.cells v (fM ns aT),M]::J) (by simp[D.clean]) (by omega);have h6:=Fs (l:=J.length-1) (n:=15) (l':=J.length) (i:=0) (v:=v) (off:=0) (m:=ns.length) (w:=1) (J:=[Abs.aD.cells v (fM ns aT),M]::J) (cs:=fM ns aT) h3 (by simp) (by omega);have ht:(fM ns aT).take ns.length=fM ns aT:=by have:=MT (f:=aT) (w:=1) (λ_=>rfl) ns;rwa[cp]at this
 simp only[Nat.reduceSub,cG.frzL,h4,h5,h6];simp[ht,fN (f:=aT) (λ_=>by simp[D.clean]) ns]
theorem Tp{s:List UInt8}(hl:s.length<=1000000){a:List UInt8}{all:List (List UInt8)}(h:db 32 s=a::all)(hs:∀x∈all,x.length<=1000000)(hl2:all.length<=1000001){w:Wd}(hw:xc a=some w)(hn:w.named=false)(hJ:J≠[]){p:Wd×List UInt8×List Int}(hp:qY w [] all=some p):
  Cl eo [.str s] (zQ p) J:=by
 refine au rfl rfl rfl ?_;have hW:=DZ (bs:=[.cells 0 []]) (J:=J);have hG:=T2 (S:=[Abs.aD.cells 0 [],.cells 0 (ji l8)]::J) (l:=J.length) (i:=1) (s:=a) (by simp);rw[hw]at hG;obtain⟨w1,w2,w3,w4,w5⟩:=GW hw;have hL:=Jh (J:=J) (cs:=P0 w) (name:=[]) (M:=.cells 0 (ji l8)) hs hl2 all.length 0 [] (by omega) rfl;unfold qY at hp;cases hm:mD all with
 |none=>rw[hm]at hp;cases hp
 |some ns =>
 rw[hm]at hp;simp only[aH,ae]at hp;obtain⟨hf,rfl⟩:=hp;have hlen:=Bt hm;simp only[Fq,cg,af,aw]at hf;have e1:=cf (n:=(ns.length:Int)-w.least) (by omega);rw[aE,hm]at hL;have q1:(1:Int)<=(all.length:Int)+1:=by omega
 have q2:(fM all dP).take all.length=fM all dP:=ai (by rw[ch (f:=dP) (w:=1) (λ_=>rfl)];omega);simp[DX hl,h,hW,hG,cK,gY,hn,I1,q1,q2];refine WL.to hL (by simp[gY,hn]) (by simp) ?_;rintro x e J' ⟨rfl,g2,g3,g4,rfl⟩;have hz:D.bd (P0 w)=true:=by simp[P0,D.clean]
 rcases hf with c1 | ⟨c1,c2,c3⟩
 .simp[g2,g3,g4,gY,c1,cK,zQ];exact⟨_,IU (by simp[D.clean]) hJ⟩
 .have⟨c0,c4,c5⟩:¬(ns.length:Int)-w.least=0/\¬w.step=0/\w.least<(ns.length:Int):=by omega
  simp[g2,g3,g4,gY,e1,c0,c5,c2,c3,c4,cK,zQ];exact⟨_,IU (by simp[D.clean]) hJ⟩
theorem NT{s:List UInt8}(hl:s.length<=1000000){a:List UInt8}{all:List (List UInt8)}(h:db 32 s=a::all)(hs:∀x∈all,x.length<=1000000)(hl2:all.length<=1000001){w:Wd}(hw:xc a=some w)(hn:w.named=false)(hp:qY w [] all=none):
  dj T (.call false eo [.str s] J)=some (.ft (rf 4) J):=by
 refine dY rfl rfl rfl ?_;have hW:=DZ (bs:=[.cells 0 []]) (J:=J);have hG:=T2 (S:=[Abs.aD.cells 0 [],.cells 0 (ji l8)]::J) (l:=J.length) (i:=1) (s:=a) (by simp);rw[hw]at hG;obtain⟨w1,w2,w3,w4,w5⟩:=GW hw;have hL:=Jh (J:=J) (cs:=P0 w) (name:=[]) (M:=.cells 0 (ji l8)) hs hl2 all.length 0 [] (by omega) rfl;have q1:(1:Int)<=(all.length:Int)+1:=by omega
 have q2:(fM all dP).take all.length=fM all dP:=ai (by rw[ch (f:=dP) (w:=1) (λ_=>rfl)];omega);rw[aE]at hL;simp[DX hl,h,hW,hG,cK,gY,hn,I1,q1,q2];refine WL.to hL (by simp[gY,hn]) (by simp) ?_;unfold qY at hp;cases hm:mD all with
 |none =>
  rintro x e J' ⟨rfl,bH,rfl⟩;simp[D.clean,rf]
 |some ns =>
 rw[hm]at hp;simp only[ite_eq_right_iff,reduceCtorEq,imp_false]at hp;rintro x e J' ⟨rfl,g2,g3,g4,rfl⟩;have hlen:=Bt hm;have e1:=cf (n:=(ns.length:Int)-w.least) (by omega);simp only[Fq,cg,af,aw]at hp;have c0:¬(ns.length:Int)-w.least=0:=λhh=>hp (.inl hh)
 by_cases c1:w.least<(ns.length:Int)
 .by_cases c2:0<w.step
  .have c3:¬((ns.length:Int)-w.least).tmod w.step=0:=λhh=>hp (.inr ⟨by omega,c2,hh⟩)
   have c4:¬w.step=0:=by omega
   have c3':(((ns.length:Int)-w.least).tmod w.step == 0)=false:=by simpa using c3
   have c0':((ns.length:Int)-w.least == 0)=false:=by simpa using c0
   simp[g2,g3,g4,gY,e1,c0',c1,c2,c3',c4,dG,D.clean,rf]
  .simp[g2,g3,g4,gY,e1,c0,c1,c2,dG,D.clean,rf]
 .simp[g2,g3,g4,gY,e1,c0,c1,dG,D.clean,rf]
theorem Qd{s:List UInt8}(hl:s.length<=1000000){a:List UInt8}(h:db 32 s=[a]){w:Wd}(hw:xc a=some w)(hn:w.named=true):
  dj T (.call false eo [.str s] J)=some (.ft (rf 4) J):=by
 refine dY rfl rfl rfl ?_;have hW:=DZ (bs:=[.cells 0 []]) (J:=J);have hG:=T2 (S:=[Abs.aD.cells 0 [],.cells 0 (ji l8)]::J) (l:=J.length) (i:=1) (s:=a) (by simp);rw[hw]at hG;obtain⟨w1,w2,w3,w4,w5⟩:=GW hw;simp[DX hl,h,hW,hG,cK,dG,gY,hn,D.clean,rf]
theorem Tq{s:List UInt8}(hl:s.length<=1000000){a n:List UInt8}{r:List (List UInt8)}(h:db 32 s=a::n::r)(hs:∀x∈r,x.length<=1000000)(hl2:r.length<=1000001){w:Wd}(hw:xc a=some w)(hn:w.named=true)(hJ:J≠[]){p:Wd×List UInt8×List Int}(hp:qY w n r=some p):
  Cl eo [.str s] (zQ p) J:=by
 refine au rfl rfl rfl ?_;have hW:=DZ (bs:=[.cells 0 []]) (J:=J);have hG:=T2 (S:=[Abs.aD.cells 0 [],.cells 0 (ji l8)]::J) (l:=J.length) (i:=1) (s:=a) (by simp);rw[hw]at hG;obtain⟨w1,w2,w3,w4,w5⟩:=GW hw;have hL:=Jh (J:=J) (cs:=P0 w) (name:=n) (M:=.cells 0 (ji l8)) hs hl2 r.length 0 [] (by omega) rfl;have q1:(1:Int)<=(r.length:Int)+1:=by omega
 have q2:(fM r dP).take r.length=fM r dP:=ai (by rw[ch (f:=dP) (w:=1) (λ_=>rfl)];omega);have⟨q3,q4,q6⟩:(1:Int)<=(r.length:Int)+1+1/\(0:Int)<(r.length:Int)+1/\(0:Int)<(r.length:Int)+1+1:=by omega
 have q5:(fM r dP).take (r.length+1)=fM r dP:=ai (by rw[ch (f:=dP) (w:=1) (λ_=>rfl)];omega);unfold qY at hp;cases hm:mD r with
 |none=>rw[hm]at hp;cases hp
 |some ns =>
 rw[hm]at hp;simp only[aH,ae]at hp;obtain⟨hf,rfl⟩:=hp;have hlen:=Bt hm;simp only[Fq,cg,af,aw]at hf;have e1:=cf (n:=(ns.length:Int)-w.least) (by omega);rw[aE,hm]at hL;simp[DX hl,h,hW,hG,cK,gY,hn,I1,q1,q2,q3,q4,q6];refine WL.to hL (by simp[gY,hn]) (by simp) ?_;rintro x e J' ⟨rfl,g2,g3,g4,rfl⟩;rcases hf with c1 | ⟨c1,c2,c3⟩
 .simp[g2,g3,g4,gY,c1,cK,zQ];exact⟨_,IU (by simp[D.clean]) hJ⟩
 .have⟨c0,c4,c5⟩:¬(ns.length:Int)-w.least=0/\¬w.step=0/\w.least<(ns.length:Int):=by omega
  simp[g2,g3,g4,gY,e1,c0,c5,c2,c3,c4,cK,zQ];exact⟨_,IU (by simp[D.clean]) hJ⟩
theorem NU{s:List UInt8}(hl:s.length<=1000000){a n:List UInt8}{r:List (List UInt8)}(h:db 32 s=a::n::r)(hs:∀x∈r,x.length<=1000000)(hl2:r.length<=1000001){w:Wd}(hw:xc a=some w)(hn:w.named=true)(hp:qY w n r=none):
  dj T (.call false eo [.str s] J)=some (.ft (rf 4) J):=by
 refine dY rfl rfl rfl ?_;have hW:=DZ (bs:=[.cells 0 []]) (J:=J);have hG:=T2 (S:=[Abs.aD.cells 0 [],.cells 0 (ji l8)]::J) (l:=J.length) (i:=1) (s:=a) (by simp);rw[hw]at hG;obtain⟨w1,w2,w3,w4,w5⟩:=GW hw;have hL:=Jh (J:=J) (cs:=P0 w) (name:=n) (M:=.cells 0 (ji l8)) hs hl2 r.length 0 [] (by omega) rfl;have q1:(1:Int)<=(r.length:Int)+1:=by omega
 have q2:(fM r dP).take r.length=fM r dP:=ai (by rw[ch (f:=dP) (w:=1) (λ_=>rfl)];omega);have⟨q3,q4,q6⟩:(1:Int)<=(r.length:Int)+1+1/\(0:Int)<(r.length:Int)+1/\(0:Int)<(r.length:Int)+1+1:=by omega
 have q5:(fM r dP).take (r.length+1)=fM r dP:=ai (by rw[ch (f:=dP) (w:=1) (λ_=>rfl)];omega);rw[aE]at hL;simp[DX hl,h,hW,hG,cK,gY,hn,I1,q1,q2,q3,q4,q6];refine WL.to hL (by simp[gY,hn]) (by simp) ?_;unfold qY at hp;cases hm:mD r with
 |none =>
  rintro x e J' ⟨rfl,bH,rfl⟩;simp[D.clean,rf]
 |some ns =>
 rw[hm]at hp;simp only[ite_eq_right_iff,reduceCtorEq,imp_false]at hp;rintro x e J' ⟨rfl,g2,g3,g4,rfl⟩;have hlen:=Bt hm;have e1:=cf (n:=(ns.length:Int)-w.least) (by omega);simp only[Fq,cg,af,aw]at hp;have c0:¬(ns.length:Int)-w.least=0:=λhh=>hp (.inl hh)
 by_cases c1:w.least<(ns.length:Int)
 .by_cases c2:0<w.step
  .have c3:¬((ns.length:Int)-w.least).tmod w.step=0:=λhh=>hp (.inr ⟨by omega,c2,hh⟩)
   have c4:¬w.step=0:=by omega
   have c3':(((ns.length:Int)-w.least).tmod w.step == 0)=false:=by simpa using c3
   have c0':((ns.length:Int)-w.least == 0)=false:=by simpa using c0
   simp[g2,g3,g4,gY,e1,c0',c1,c2,c3',c4,dG,D.clean,rf]
  .simp[g2,g3,g4,gY,e1,c0,c1,c2,dG,D.clean,rf]
 .simp[g2,g3,g4,gY,e1,c0,c1,dG,D.clean,rf]
theorem GP(b:UInt8):∀(s:List UInt8),∀x∈db b s,x.length<=s.length
 |[],x,hx=>by simp[db]at hx;simp[hx]
 |c::r,x,hx=>by
  have ih:=GP b r;simp only[db]at hx;split at hx
  .rcases bj.1 hx with rfl | hx
   .simp
   .have:=ih x hx;simp;omega
  .split at hx
   .rename_i y l hyl;rcases bj.1 hx with rfl | hx
    .have:=ih y (by rw[hyl];simp);simp;omega
    .have:=ih x (by rw[hyl];simp[hx]);simp;omega
   .rename_i hyl;exact absurd hyl (sN b r)
theorem Vi{s:List UInt8}(hl:s.length<=1000000)(hJ:J≠[]){p:Wd×List UInt8×List Int}(hp:parse s=some p):Cl eo [.str s] (zQ p) J:=by
 unfold parse at hp;have hlen:=Cq 32 s;have hle:=GP 32 s;cases h:db 32 s with
 |nil=>exact absurd h (sN 32 s)
 |cons a all =>
 rw[h]at hp hlen hle;simp only[aK]at hlen;dsimp only at hp;cases hw:xc a with
 |none=>rw[hw]at hp;cases hp
 |some w =>
 rw[hw]at hp;dsimp only at hp;cases hn:w.named with
 |false =>
  rw[hn]at hp;exact Tp hl h (λx hx=>by have:=hle x (by simp[hx]);omega) (by omega) hw hn hJ (by simpa using hp)
 |true =>
  rw[hn]at hp;simp only[if_true]at hp;cases all with
  |nil=>cases hp
  |cons n r=>exact Tq hl h (λx hx=>by have:=hle x (by simp[hx]);omega) (by simp at hlen;omega) hw hn hJ hp
theorem Qe{s:List UInt8}(hl:s.length<=1000000)(hp:parse s=none):dj T (.call false eo [.str s] J)=some (.ft (rf 4) J):=by
 unfold parse at hp;have hlen:=Cq 32 s;have hle:=GP 32 s;cases h:db 32 s with
 |nil=>exact absurd h (sN 32 s)
 |cons a all =>
 rw[h]at hp hlen hle;simp only[aK]at hlen;dsimp only at hp;cases hw:xc a with
 |none=>exact NV hl h hw
 |some w =>
 rw[hw]at hp;dsimp only at hp;cases hn:w.named with
 |false =>
  rw[hn]at hp;exact NT hl h (λx hx=>by have:=hle x (by simp[hx]);omega) (by omega) hw hn (by simpa using hp)
 |true =>
  rw[hn]at hp;simp only[if_true]at hp;cases all with
  |nil=>exact Qd hl h hw hn
  |cons n r=>exact NU hl h (λx hx=>by have:=hle x (by simp[hx]);omega) (by simp at hlen;omega) hw hn hp
end Go.Proofs.YtpapbbojmclkgaaGreatDoor
namespace Go.Trem
open Go Go.Abs
structure Pt where
 x:Int
 y:Int
 z:Int
 deriving DecidableEq
structure Rg where
 lo:Int
 hi:Int
 deriving DecidableEq
structure Qo where
 p:Pt
 err:Int
structure Net where
 st:List Qo
 s0:Rg
 s1:Rg
 low:Pt
 high:Pt
 step:Int
structure GZ where
 st:Int
 ph:Int
 t:Rg
structure Plc where
 p:Pt
 o:Rg
 deriving DecidableEq
structure z7 where
 far:Int
 add:Int
structure Jl where
 levels:List Int
 rows:List z7
structure BG where
 st:Int
 amt:Int
structure afp where
 fst:Int
 thn:Int
structure Ye where
 num:Int
 den:Int
 a:Int
 b:Int
 adi:Int
@[simp] theorem Pt.eta(p:Pt):Pt.mk p.x p.y p.z=p:=rfl
@[simp] theorem Rg.eta(p:Rg):Rg.mk p.lo p.hi=p:=rfl
@[simp] theorem Qo.eta(p:Qo):Qo.mk p.p p.err=p:=rfl
@[simp] theorem Net.eta(p:Net):Net.mk p.st p.s0 p.s1 p.low p.high p.step=p:=rfl
@[simp] theorem GZ.eta(p:GZ):GZ.mk p.st p.ph p.t=p:=rfl
@[simp] theorem Jl.eta(p:Jl):Jl.mk p.levels p.rows=p:=rfl
@[simp] theorem BG.eta(p:BG):BG.mk p.st p.amt=p:=rfl
@[simp] theorem z7.eta(p:z7):z7.mk p.far p.add=p:=rfl
@[simp] theorem Ye.eta(p:Ye):Ye.mk p.num p.den p.a p.b p.adi=p:=rfl
@[simp] def Pt.enc(p:Pt):List D:=[iI p.x,iI p.y,iI p.z]
@[simp] def Rg.enc(r:Rg):List D:=[iI r.lo,iI r.hi]
@[simp] def Qo.enc(s:Qo):List D:=[iI s.p.x,iI s.p.y,iI s.p.z,iI s.err]
@[simp] def GZ.enc(p:GZ):List D:=[iI p.st,.int .u8 p.ph,iI p.t.lo,iI p.t.hi]
@[simp] def Plc.enc(p:Plc):List D:=[iI p.p.x,iI p.p.y,iI p.p.z,iI p.o.lo,iI p.o.hi]
@[simp] def z7.enc(p:z7):List D:=[iI p.far,iI p.add]
@[simp] def BG.enc(p:BG):List D:=[iI p.st,iI p.amt]
@[simp] def afp.enc(p:afp):List D:=[iI p.fst,iI p.thn]
@[simp] def Ye.enc(b:Ye):List D:=[iI b.num,iI b.den,iI b.a,iI b.b,iI b.adi]
@[simp] def aT(n:Int):List D:=[iI n]
@[simp] def sX(n:Bool):List D:=[.bool n]
@[simp] def Net.enc(n:Net):List D:=[.bY n.st.length (fM n.st Qo.enc),iI n.s0.lo,iI n.s0.hi,iI n.s1.lo,iI n.s1.hi,
 iI n.low.x,iI n.low.y,iI n.low.z,iI n.high.x,iI n.high.y,iI n.high.z,iI n.step]
@[simp] def Jl.enc(s:Jl):List D:=[.bY s.levels.length (fM s.levels aT),.bY s.rows.length (fM s.rows z7.enc)]
def bA(n lo hi:Int):Bool:=decide (lo<=n) && decide (n<=hi)
theorem aS{n lo hi:Int}:bA n lo hi=true↔lo<=n/\n<=hi:=by simp[bA]
def Pt.ok(p:Pt):Bool:=bA p.x (-20000) 20000 && (bA p.y (-20000) 20000 && bA p.z (-20000) 20000)
def ug(a b:Pt):Bool:=a.ok && (b.ok && (decide (a.x<=b.x) && (decide (a.y<=b.y) && decide (a.z<=b.z))))
def Qo.ok(s:Qo):Bool:=s.p.ok && bA s.err 0 1000
def Rg.bA(r:Rg)(lo hi:Int):Bool:=decide (lo<=r.lo) && (decide (r.lo<=r.hi) && decide (r.hi<=hi))
def steps(n:Net)(lo hi:Int):Int:=(hi-lo).tdiv n.step+1
def Net.pre(n:Net):Bool:=Trem.bA n.st.length 1 12 && (da n.st Qo.ok && (ug n.low n.high && (Trem.bA n.step 1 20000 && (n.s0.bA 1 2000 && n.s1.bA 1 2000))))
def Net.count(n:Net):Int:=steps n n.low.x n.high.x*steps n n.low.y n.high.y*steps n n.low.z n.high.z
def Net.ok(n:Net):Bool:=n.pre && decide (n.count<=2000)
theorem Pt.M1{p:Pt}:p.ok=true↔(-20000<=p.x/\p.x<=20000)/\(-20000<=p.y/\p.y<=20000)/\(-20000<=p.z/\p.z<=20000):=by
 simp only[Pt.ok,af,aS]
def bsr:Nat->Int->Int->Int->Int
 |0,_,lo,_=>lo
 |f+1,n,lo,hi=>if lo<hi then(if((lo+hi+1) / 2)*((lo+hi+1) / 2)<=n then bsr f n ((lo+hi+1) / 2) hi else bsr f n lo ((lo+hi+1) / 2-1))else lo
def sq(p q:Pt):Int:=(p.x-q.x)*(p.x-q.x)+(p.y-q.y)*(p.y-q.y)+(p.z-q.z)*(p.z-q.z)
def afM(p q:Pt):Int:=bsr 17 (sq p q) 0 70000
def prog(lo hi st:Int):List Int:=(List.range ((hi-lo) / st+1).toNat).map λ(i:Nat)=>lo+i*st
def zs(n:Net)(x y:Int)(z:Int):List Pt:=(prog z n.high.z n.step).map λz=>⟨x,y,z⟩
def ys(n:Net)(x:Int)(y:Int):List Pt:=fM (prog y n.high.y n.step) λy=>zs n x y n.low.z
def xs(n:Net)(x:Int):List Pt:=fM (prog x n.high.x n.step) λx=>ys n x n.low.y
def ZD(n:Net):List Pt:=xs n n.low.x
def Net.Yc(n:Net)(i:Int):Qo:=n.st.getD i.toNat ⟨⟨0,0,0⟩,0⟩
def Net.Q6(n:Net)(ph:Int):Rg:=if ph=0 then n.s0 else n.s1
def XY(n:Net)(i ph:Int)(p:Pt):Rg:=⟨(n.Q6 ph).lo*afM (n.Yc i).p p / 1000,((n.Q6 ph).hi*(afM (n.Yc i).p p+1)+999) / 1000⟩
def GZ.ok(n:Net)(p:GZ):Bool:=Trem.bA p.st 0 (n.st.length-1) && (decide (p.ph<2) && p.t.bA (-100000000) 100000000)
def span(n:Net)(p:GZ)(q:Pt):Rg:=⟨p.t.lo-(n.Yc p.st).err-(XY n p.st p.ph q).hi,p.t.hi+(n.Yc p.st).err-(XY n p.st p.ph q).lo⟩
def meet(a b:Rg):Rg:=⟨max a.lo b.lo,min a.hi b.hi⟩
def common:List Rg->Rg
 |[]=>⟨0,0⟩
 |r::l=>l.foldl meet r
def Rg.ne(r:Rg):Bool:=decide (r.lo<=r.hi)
end Go.Trem
namespace Go.Proofs.YtpapbbojmclkgaaGreatDoor
open Go Go.Abs Go.Trem
variable {J:SK}
theorem iD{a b c:Int}:Cl wy [iI a,iI b,iI c] (.bool (bA a b c)) J:=by
 refine au rfl rfl rfl ?_;by_cases h:b<=a<;>simp[h,bA]
theorem xe{a b c:Int}:Cl Fx [iI a,iI b,iI c] (.bool (bA a b c)) J:=by
 refine au rfl rfl rfl ?_;by_cases h:b<=a<;>simp[h,bA]
theorem afj{a:Int}:Cl gT [iI a] (.bool (bA a (-20000) 20000)) J:=by
 refine au rfl rfl rfl ?_;simp[iD]
theorem Tj{l:List Int}(hl:l.length<=9223372036854775807){fv:D}{p:Int->Bool}(ht:oJ T fv (.int .i64) p l)(hc:fv.cells=some [fv]):
  Cl ko [lF l aT,fv] (.bool (da l p)) J :=
 BK (MK .i64) G1 Fi y7 BI hl ht hc
theorem xA{x y z:Int}:Cl pw [.agg [iI x,iI y,iI z]] (.bool (Pt.ok ⟨x,y,z⟩)) J:=by
 refine au rfl rfl rfl ?_;have h:∀J,Cl ko [.bY 3 [iI x,iI y,iI z],.fn gT [] []] (.bool (Pt.ok ⟨x,y,z⟩)) J:=λJ=>by
  have:=Tj (J:=J) (l:=[x,y,z]) (by simp) (fv:=.fn gT [] []) (p:=λa=>bA a (-20000) 20000) (.fn λa _ J=>afj) rfl;simpa[Pt.ok,Bool.and_assoc,da]using this
 simp[h]
theorem HN{x y z:Int}:Cl Dy [.agg [iI x,iI y,iI z]] (.bool (Pt.ok ⟨x,y,z⟩)) J:=by
 refine au rfl rfl rfl ?_;cases hc1:bA x (-20000) 20000
 .simp[xe,Pt.ok,hc1]
 cases hc2:bA y (-20000) 20000
 .simp[xe,Pt.ok,hc1,hc2]
 simp[xe,Pt.ok,hc1,hc2]
theorem K7{x y z a b c:Int}:Cl Cf [.agg [iI x,iI y,iI z],.agg [iI a,iI b,iI c]] (.bool (ug ⟨x,y,z⟩ ⟨a,b,c⟩)) J:=by
 refine au rfl rfl rfl ?_;cases hc1:Pt.ok ⟨x,y,z⟩
 .simp[xA,ug,hc1]
 cases hc2:Pt.ok ⟨a,b,c⟩
 .simp[xA,ug,hc1,hc2]
 by_cases hc3:x<=a
 rotate_left
 .simp[xA,ug,hc1,hc2,hc3]
 by_cases hc4:y<=b
 rotate_left
 .simp[xA,ug,hc1,hc2,hc3,hc4]
 simp[xA,ug,hc1,hc2,hc3,hc4]
theorem K3{x y z a b c:Int}:Cl Dx [.agg [iI x,iI y,iI z],.agg [iI a,iI b,iI c]] (.bool (ug ⟨x,y,z⟩ ⟨a,b,c⟩)) J:=by
 refine au rfl rfl rfl ?_;cases hc1:Pt.ok ⟨x,y,z⟩
 .simp[HN,ug,hc1]
 cases hc2:Pt.ok ⟨a,b,c⟩
 .simp[HN,ug,hc1,hc2]
 by_cases hc3:x<=a
 rotate_left
 .simp[HN,ug,hc1,hc2,hc3]
 by_cases hc4:y<=b
 rotate_left
 .simp[HN,ug,hc1,hc2,hc3,hc4]
 simp[HN,ug,hc1,hc2,hc3,hc4]
theorem ZT{n:Net}:n.pre=true↔(1<=(n.st.length:Int)/\(n.st.length:Int)<=12)/\da n.st Qo.ok=true/\(n.low.ok=true/\n.high.ok=true/\n.low.x<=n.high.x/\n.low.y<=n.high.y/\n.low.z<=n.high.z) /\
  (1<=n.step/\n.step<=20000)/\(1<=n.s0.lo/\n.s0.lo<=n.s0.hi/\n.s0.hi<=2000)/\(1<=n.s1.lo/\n.s1.lo<=n.s1.hi/\n.s1.hi<=2000):=by
 simp only[Net.pre,af,aS,ug,Rg.bA,aw]
structure afn(n:Net)(i ph:Int):Prop where
 i0:0<=i
 i1:i<n.st.length
 hph:ph=0\/ph=1
 p:(n.Yc i).p.ok=true
 e:0<=(n.Yc i).err/\(n.Yc i).err<=1000
 s:1<=(n.Q6 ph).lo/\(n.Q6 ph).lo<=(n.Q6 ph).hi/\(n.Q6 ph).hi<=2000
 cells:((fM n.st Qo.enc).drop (i.toNat*4)).take 4=(n.Yc i).enc
theorem Xe{n:Net}(h:n.ok=true){i ph:Int}(hi:bA i 0 (n.st.length-1)=true)(hp:0<=ph)(hp':ph<2):afn n i ph:=by
 simp only[Net.ok,af]at h;have h0:=ZT.1 h.1;rw[aS]at hi;have h1:i.toNat<n.st.length:=by omega
 have h2:n.st[i.toNat]?=some (n.Yc i):=by
  simp[Net.Yc,List.getD,aI h1]
 have h3:=eO.1 h0.2.1 _ (aj h2);simp only[Qo.ok,af,aS]at h3;refine⟨by omega,by omega,by omega,h3.1,h3.2,?_,bu (f:=Qo.enc) (w:=4) (λ_=>rfl) h2⟩;unfold Net.Q6;split<;>omega
structure Hd(n:Net)(l:List GZ):Prop where
 ok:n.ok=true
 len:l.length<=60
 all:∀p∈l,GZ.ok n p=true/\0<=p.ph
theorem Hd.akZ{n:Net}{l:List GZ}(h:Hd n l){p:GZ}(hp:p∈l):afn n p.st p.ph:=by
 have h1:=h.all p hp;simp only[GZ.ok,af,aw]at h1;exact Xe h.ok h1.1.1 h1.2 h1.1.2.1
end Go.Proofs.YtpapbbojmclkgaaGreatDoor
namespace Go.Trem
open Go Go.Abs
theorem GA{α β:Type}{f:α->List β}{c:Nat}{l:List α}(h:∀x∈l,(f x).length=c):(fM l f).length=l.length*c:=by
 induction l with
 |nil=>simp
 |cons a l ih =>
  rw[eg,bB,h a (by simp),ih λx hx=>h x (by simp[hx]),aK,eC];omega
end Go.Trem
namespace Go.Proofs.YtpapbbojmclkgaaGreatDoor
open Go Go.Abs Go.Trem
variable {J:SK}
structure Bx(n:Net):Prop where
 st:1<=n.step/\n.step<=20000
 lx : -20000<=n.low.x/\n.low.x<=20000
 ly : -20000<=n.low.y/\n.low.y<=20000
 lz : -20000<=n.low.z/\n.low.z<=20000
 hx:n.low.x<=n.high.x/\n.high.x<=20000
 hy:n.low.y<=n.high.y/\n.high.y<=20000
 hz:n.low.z<=n.high.z/\n.high.z<=20000
 len:(ZD n).length<=2000
end Go.Proofs.YtpapbbojmclkgaaGreatDoor
namespace Go.Trem
open Go Go.Abs
def agA(l:List Int)(i:Nat):Bool:=decide (i=0) || decide (l.getD (i-1) 0<l.getD i 0)
def agB(l:List Int):Bool:=da (List.range' 0 l.length) (agA l)
def z7.ok(r:z7):Bool:=bA r.far 0 20000 && bA r.add 0 100
def Jl.ok(s:Jl):Bool:=bA s.levels.length 1 60 && (da s.levels (λn=>bA n 1 1000000000) && (agB s.levels && (bA s.rows.length 1 20 && (decide ((s.rows.getD 0 ⟨0,0⟩).far=0) && (da s.rows z7.ok && agB (s.rows.map (·.far)))))))
def lvl(l:List Int)(a:Int):Nat:=(l.takeWhile λx=>decide (x<=a)).length
def BG.ok(n:Net)(r:BG):Bool:=bA r.st 0 (n.st.length-1) && bA r.amt 0 1000000000
end Go.Trem
namespace Go.Proofs.YtpapbbojmclkgaaGreatDoor
open Go Go.Abs Go.Trem
variable {J:SK}
end Go.Proofs.YtpapbbojmclkgaaGreatDoor
namespace Go.Trem
open Go Go.Abs
def Ye.ok(b:Ye):Bool:=bA b.den 2 1000 && (bA b.num 1 (b.den-1) && (bA b.b 1 1000 && (bA b.a 0 b.b && bA b.adi 2 1000)))
def next(b:Ye)(c:Int)(hit:Bool):Int:=if hit then min (c*(b.b*b.num+b.a*(b.den-b.num)) / (b.b*b.num)) 1000000000000 else c*(b.b-b.a) / b.b
structure akU(b:Ye)(c:Int):Prop where
 w1:IntKind.i64.wrap (b.b*b.num)=b.b*b.num
 w2:IntKind.i64.wrap (b.den-b.num)=b.den-b.num
 w3:IntKind.i64.wrap (b.a*(b.den-b.num))=b.a*(b.den-b.num)
 w4:IntKind.i64.wrap (b.b*b.num+b.a*(b.den-b.num))=b.b*b.num+b.a*(b.den-b.num)
 w5:IntKind.i64.wrap (c*(b.b*b.num+b.a*(b.den-b.num)))=c*(b.b*b.num+b.a*(b.den-b.num))
 w6:IntKind.i64.wrap ((c*(b.b*b.num+b.a*(b.den-b.num))).tdiv (b.b*b.num))=c*(b.b*b.num+b.a*(b.den-b.num)) / (b.b*b.num)
 w7:b.b*b.num≠0
 w8:IntKind.i64.wrap (b.b-b.a)=b.b-b.a
 w9:IntKind.i64.wrap (c*(b.b-b.a))=c*(b.b-b.a)
 w10:IntKind.i64.wrap ((c*(b.b-b.a)).tdiv b.b)=c*(b.b-b.a) / b.b
 w11:b.b≠0
 w12:∀h,0<=next b c h/\next b c h<=1000000000000
 w13:min (c*(b.b-b.a) / b.b) 1000000000000=c*(b.b-b.a) / b.b
def fw(k0 k1 k2:Int):Bool:=decide (k0<=1000) && (decide (k1<=k0) && (decide (k2<=k1) && decide (0<=k2)))
def VX(n:Int):Bool:=bA n 0 1000000000
theorem Zz{o:List Int}{i:Nat}(hi:i<o.length)(v:Int):(fM o aT).take i++(iI v::(fM o aT).drop (i+1))=fM (o.set i v) aT:=by
 induction o generalizing i with
 |nil=>simp at hi
 |cons a o ih =>
  cases i with
  |zero=>simp
  |succ i=>simp at hi;simpa using ih hi
theorem UE(n:Nat):(fM (List.range n) λ_=>[iI 0])=fM (List.replicate n (0:Int)) aT:=by
 induction n with
 |zero=>rfl
 |succ n ih=>rw[List.range_succ,ot,ih,List.replicate_succ',ot];rfl
end Go.Trem
namespace Go.Proofs.YtpapbbojmclkgaaGreatDoor
open Go Go.Abs Go.Trem
variable {J:SK}
theorem Ja{a:Int}:Cl lX [iI a] (.bool (VX a)) J:=by
 refine au rfl rfl rfl ?_;simp[iD,VX]
structure akV(p k:Int):Prop where
 w1:IntKind.i64.wrap (p*k)=p*k
 w2:IntKind.i64.wrap ((p*k).tdiv 1000)=p*k / 1000
 w3:0<=p*k / 1000
 w4:p*k / 1000<=1000000000
theorem XI{acc:List Int}{k:Nat}{v:Int}:(acc++List.replicate (k+1) 0).set acc.length v=(acc++[v])++List.replicate k 0:=by
 rw[List.set_append_right _ _ (aL _)];simp[List.replicate_succ]
end Go.Proofs.YtpapbbojmclkgaaGreatDoor
namespace Go.Trem
open Go Go.Abs
structure pH where
 p:Pt
 mag:Int
structure Ev where
 tick:Int
 sp:List pH
structure cF where
 lo:Pt
 hi:Pt
 least:Int
 uI:Int
 count:Int
 MD:Int
@[simp] theorem pH.eta(p:pH):pH.mk p.p p.mag=p:=rfl
@[simp] theorem Ev.eta(p:Ev):Ev.mk p.tick p.sp=p:=rfl
@[simp] theorem cF.eta(p:cF):cF.mk p.lo p.hi p.least p.uI p.count p.MD=p:=rfl
@[simp] def pH.enc(s:pH):List D:=[iI s.p.x,iI s.p.y,iI s.p.z,iI s.mag]
@[simp] def Ev.enc(e:Ev):List D:=[iI e.tick,lF e.sp pH.enc]
@[simp] def cF.enc(r:cF):List D:=[iI r.lo.x,iI r.lo.y,iI r.lo.z,iI r.hi.x,iI r.hi.y,iI r.hi.z,iI r.least,iI r.uI,iI r.count,.int .u8 r.MD]
def Qw:Y3 pH:=xJ 4 pH.enc λ_=>rfl
def afO:Y3 Ev:=xJ 2 Ev.enc λ_=>rfl
def Zk:Y3 cF:=xJ 10 cF.enc λ_=>rfl
def cF.IP(r:cF)(s:pH):Bool:=decide (r.least<=s.mag) && (bA s.p.x r.lo.x r.hi.x && (bA s.p.y r.lo.y r.hi.y && bA s.p.z r.lo.z r.hi.z))
def cF.ok(r:cF):Bool:=ug r.lo r.hi && (bA r.least 0 160 && (bA r.uI 1 1000000 && (bA r.count 1 200 && (r.MD == 1 || r.MD == 2))))
def pH.ok(s:pH):Bool:=s.p.ok && bA s.mag 0 160
def Ev.ok(e:Ev):Bool:=bA e.tick 0 1000000 && (bA e.sp.length 1 2000 && da e.sp pH.ok)
def cF.act(r:cF)(now:Int)(e:Ev):Bool:=decide (now-r.uI<e.tick) && decide (e.tick<=now)
def y9(f:Ev->Bool):List Ev->Nat
 |[]=>0
 |e::l=>y9 f l+(if f e then 1 else 0)
def sM(r:cF)(now:Int)(e:Ev):Bool:=r.act now e && l9 e.sp r.IP
def mg(r:cF)(now:Int)(e:Ev):Bool:=r.act now e && da e.sp r.IP
def u6(f:cF->Ev->Bool)(l:List Ev):List cF->Int->Int
 |[],a=>a
 |r::R,a=>u6 f l R (if r.count<=y9 (f r) l then max a r.MD else a)
def LP(R:List cF)(l:List Ev)(now:Int):Int:=u6 (λr=>sM r now) l R 0
def Nz(R:List cF)(l:List Ev)(now:Int):Int:=u6 (λr=>mg r now) l R 0
def lY(R:List cF)(l:List Ev)(now:Int):Int :=
 if 20<R.length then 3 else if da R cF.ok=false then 1 else if 200<l.length then 3 else if da l Ev.ok=false then 1 else if bA now 0 1000000=false then 2 else 0
theorem yR{r:cF}:r.ok=true↔ug r.lo r.hi=true/\(0<=r.least/\r.least<=160)/\(1<=r.uI/\r.uI<=1000000)/\(1<=r.count/\r.count<=200)/\(r.MD=1\/r.MD=2):=by
 simp only[cF.ok,af,aS,cg,beq_iff_eq]
end Go.Trem
namespace Go.Proofs.YtpapbbojmclkgaaGreatDoor
open Go Go.Abs Go.Trem
variable {J:SK}
theorem NR{r:cF}{s:pH}:Cl gl [.agg r.enc,.agg s.enc] (.bool (r.IP s)) J:=by
 refine au rfl rfl rfl ?_;by_cases hc1:r.least<=s.mag
 rotate_left
 .simp[cF.IP,hc1]
 cases hc2:bA s.p.x r.lo.x r.hi.x
 .simp[iD,cF.IP,hc1,hc2]
 cases hc3:bA s.p.y r.lo.y r.hi.y
 .simp[iD,cF.IP,hc1,hc2,hc3]
 simp[iD,cF.IP,hc1,hc2,hc3]
theorem NX{r:cF}:Cl hJ [.agg r.enc] (.bool r.ok) J:=by
 refine au rfl rfl rfl ?_;cases hc1:ug r.lo r.hi
 .simp[K7,cF.ok,hc1]
 cases hc2:bA r.least 0 160
 .simp[iD,K7,cF.ok,hc1,hc2]
 cases hc3:bA r.uI 1 1000000
 .simp[iD,K7,cF.ok,hc1,hc2,hc3]
 cases hc4:bA r.count 1 200
 .simp[iD,K7,cF.ok,hc1,hc2,hc3,hc4]
 by_cases hc5:r.MD=1
 rotate_left
 .simp[iD,K7,cF.ok,hc1,hc2,hc3,hc4,hc5]
 simp[iD,K7,cF.ok,hc1,hc2,hc3,hc4,hc5]
theorem afd{s:pH}:Cl kc [.agg s.enc] (.bool s.ok) J:=by
 refine au rfl rfl rfl ?_;cases hc1:Pt.ok s.p
 .simp[xA,pH.ok,hc1]
 simp[iD,xA,pH.ok,hc1]
theorem K5{l:List pH}{p:pH->Bool}{fv:D}(ht:oJ T fv Qw.val p l)(hc:fv.cells=some [fv])(hl:l.length<=9223372036854775807):
  Cl jq [lF l pH.enc,fv] (.bool (da l p)) J :=
 BK Qw Ac xD kW mH hl ht hc
theorem NS{e:Ev}(hl:e.sp.length<=9223372036854775807):Cl gk [.agg e.enc] (.bool e.ok) J:=by
 refine au rfl rfl rfl ?_;have ha:=λJ=>@K5 J e.sp pH.ok (.fn kc [] []) (.fn λs _ J=>afd) rfl hl
 cases hc1:bA e.tick 0 1000000
 .simp[iD,Ev.ok,hc1]
 cases hc2:bA e.sp.length 1 2000
 .simp[iD,Ev.ok,hc1,hc2]
 simp[iD,ha,Ev.ok,hc1,hc2]
theorem P7{R:List cF}(hl:R.length<=9223372036854775807):
  Cl ep [lF R cF.enc,.fn hJ [] []] (.bool (da R cF.ok)) J :=
 BK Zk Ab xC sP uJ hl (.fn λr _ J=>NX) rfl
theorem U3{l:List Ev}(hl:l.length<=9223372036854775807)(hs:∀e∈l,e.sp.length<=9223372036854775807):
  Cl dX [lF l Ev.enc,.fn gk [] []] (.bool (da l Ev.ok)) J :=
 BK afO y8 xj rN uc hl (.fn λr hr J=>NS (hs r hr)) rfl
end Go.Proofs.YtpapbbojmclkgaaGreatDoor
namespace Go.Book
open Go Go.Abs Go.Rock
structure dQ where
 m:bV
 left:Bool
 PV:Int
structure Ae where
 line:Int
 value:Int
 lo:Int
 hi:Int
structure Prt where
 width:Int
 kG:Int
structure oW where
 wZ:Int
 parts:List Prt
structure Oh where
 tick:Int
 ajE:Int
 wlo:Int
 whi:Int
 mlo:Int
 mhi:Int
structure Bk where
 aQ:bU
 ah:List dQ
 az:List (List Int)
 rules:List Trem.cF
 sV:List Trem.Ev
 k0:Int
 k1:Int
 k2:Int
 cJ:List oW
 fy:List Oh
 ready:Bool
 dq:List Ae
 at_:Int
@[simp] def dQ.enc(e:dQ):List D:=[.str e.m.name,lF e.m.dn aT,.bool e.left,iI e.PV]
@[simp] def Ae.enc(e:Ae):List D:=[iI e.line,iI e.value,iI e.lo,iI e.hi]
@[simp] def Prt.enc(e:Prt):List D:=[iI e.width,iI e.kG]
@[simp] def oW.enc(e:oW):List D:=[iI e.wZ,lF e.parts Prt.enc]
@[simp] def Oh.enc(e:Oh):List D:=[iI e.tick,iI e.ajE,iI e.wlo,iI e.whi,iI e.mlo,iI e.mhi]
def nl{α:Type}(f:α->List D)(l:List α):D:=if l=[]then .aW else lF l f
def pE(r:List Int):List D:=[lF r aT]
def Bk.cells(L:Nat)(b:Bk):List D:=[iI b.aQ.f.x,iI b.aQ.f.y,iI b.aQ.f.z,iI b.aQ.f.k,nl Rw.enc b.aQ.dL,iI b.aQ.cz,iI b.aQ.lift,iI b.aQ.deep,nl bG.enc b.aQ.av,
 .sl L 0 b.ah.length 0 b.ah.length 4,nl pE b.az,.sl L 1 b.rules.length 0 b.rules.length 10,.sl L 2 b.sV.length 0 b.sV.length 2,iI b.k0,iI b.k1,iI b.k2,
 .sl L 3 b.cJ.length 0 b.cJ.length 2,.sl L 4 b.fy.length 0 b.fy.length 6,.bool b.ready,.sl L 5 b.dq.length 0 b.dq.length 4,iI b.at_]
def Bk.bH(L:Nat)(b:Bk)(er:List Int):List Abs.aD:=[.cells b.ah.length (fM b.ah dQ.enc),.cells b.rules.length (fM b.rules Trem.cF.enc),.cells b.sV.length (fM b.sV Trem.Ev.enc),.cells b.cJ.length (fM b.cJ oW.enc),
 .cells b.fy.length (fM b.fy Oh.enc),.cells b.dq.length (fM b.dq Ae.enc),.cells 0 (b.cells L),.cells er.length (fM er aT)]
def kl:Bk:=⟨⟨⟨0,0,0,0⟩,[],0,0,0,[]⟩,[],[],[],[],1000,500,0,[],[],false,[],0⟩
def Prt.ok(last:Int)(p:Prt):Bool:=bA p.kG 0 last && bA p.width 1 100000
def Ag:Int->List Prt->Bool
 |_,[]=>true
 |last,p::l=>p.ok last && Ag p.kG l
def oW.ok(u:oW):Bool:=bA u.wZ 0 5 && (bA u.parts.length 1 8 && Ag 1000 u.parts)
def kM(l:List Prt):Nat->Int
 |0=>1000
 |i+1=>match l[i]? with
  |some p=>p.kG
  |none=>0
def Bi(l:List Prt)(i:Nat):Bool:=match l[i]? with
 |some p=>p.ok (kM l i)
 |none=>true
theorem Ls{l:List Prt}:Ag 1000 l=true↔∀j,j<l.length->Bi l j=true:=by
 have key:∀(r pre:List Prt),l=pre++r->(Ag (kM l pre.length) r=true↔∀j,j<r.length->Bi l (pre.length+j)=true):=by
  intro r;induction r with
  |nil=>intro pre h;simp[Ag]
  |cons p r ih =>
   intro pre h;have hp:l[pre.length]?=some p:=by rw[h];simp
   have h1:=ih (pre++[p]) (by rw[h];simp);have h2:kM l (pre++[p]).length=p.kG:=by simp[kM,hp]
   rw[h2]at h1;simp only[Ag,af,h1];constructor
   .rintro⟨h3,h4⟩ j hj;cases j with
    |zero=>simpa[Bi,hp]using h3
    |succ j =>
     have:=h4 j (by simpa using hj);rwa[show(pre++[p]).length+j=pre.length+(j+1)by simp;omega]at this
   .intro h3;refine⟨?_,λj hj=>?_⟩
    .have:=h3 0 (by simp);simpa[Bi,hp]using this
    .have:=h3 (j+1) (by simpa using hj);rwa[show(pre++[p]).length+j=pre.length+(j+1)by simp;omega]
 have:=key l [] rfl;simpa[kM]using this
def nF(b:Bk)(x y z k:Int):Bk×Int :=
 if(b.aQ.f.x=0/\b.aQ.f.y=0)/\b.aQ.f.z=0/\b.aQ.f.k=0 then
  (if(dw.mk x y z k).valid=true/\4<=k then({b with aQ:={b.aQ with f:=⟨x,y,z,k⟩ } },0)else(b,1))
 else(b,8)
end Go.Book
namespace Go.Abs
open Go
variable {T:Ad} {fv:D} {J:SK}
theorem T5{f w:Nat}{ag:Bool}(hT:T f=some (uG ag w))(h1:fv.strip=fv)(h2:fv.calm=fv):dj T (.call false f [.aW,fv] J)=some (.val (iI (-1)) J):=by
 refine au hT (uG.eq_1 _ _) rfl ?_;simp[h2];refine aB (J1.eq_1 _ _) ?_;simp[h2]
theorem contains_nil{f i w:Nat}{ag:Bool}(hT:T f=some (iX i))(hi:T i=some (uG ag w))(h1:fv.strip=fv)(h2:fv.calm=fv):dj T (.call false f [.aW,fv] J)=some (.val (.bool false) J):=by
 refine au hT (iX.eq_1 _) rfl ?_;simp[h1,h2,T5 hi h1 h2]
theorem all_nil{f g h i w:Nat}{ag:Bool}(hf:T f=some (FQ g h))(hh:T h=some (iX i))(hi:T i=some (uG ag w))(h1:fv.strip=fv)(h2:fv.calm=fv)(hcl:fv.cells=some [fv]):
  dj T (.call false f [.aW,fv] J)=some (.val (.bool true) J):=by
 refine au hf (FQ.eq_1 _ _) rfl ?_;have h3:=λJ=>contains_nil (fv:=.fn g [] [.bf [fv]]) (J:=J) hh hi rfl rfl
 simp[h1,h3,hcl]
end Go.Abs
namespace Go.Proofs.YtpapbbojmclkgaaGreatDoor
open Go Go.Abs Go.Rock Go.Book
variable {J:SK}
theorem Yr{F:List Abs.aD}{b:Bk}{er:List Int}{nm:List UInt8}{x y z k:Int}{b':Bk}{e:Int}(hd:nF b x y z k=(b',e))(he:e=0):
  dj T (.call false jv [.ref J.length 6 0 0,.str nm,.bY 4 [iI x,iI y,iI z,iI k]] (F::b.bH J.length er::J))=some (.val (.cV []) (F::b'.bH J.length er::J)):=by
 refine fJ rfl rfl rfl (by simp) ?_;unfold nF at hd;split at hd
 case isFalse=>cases hd;cases he
 rename_i h1;split at hd
 case isFalse=>cases hd;cases he
 rename_i h2;cases hd;obtain⟨⟨f1,f2⟩,f3,f4⟩:=h1;have hS:(dw.mk x y z k).shape=0:=by simp[dw.shape,h2.1]
 have hC:=λJ=>jk (J:=J) (f:=⟨x,y,z,k⟩)
 simp only[hS]at hC;simp[Bk.bH,Bk.cells,f1,f2,f3,f4,cK,hC,h2.2]
theorem Tl{F:List Abs.aD}{b:Bk}{er:List Int}{nm:List UInt8}{x y z k:Int}{b':Bk}{e:Int}(hd:nF b x y z k=(b',e))(he:e≠0):
  dj T (.call false jv [.ref J.length 6 0 0,.str nm,.bY 4 [iI x,iI y,iI z,iI k]] (F::b.bH J.length er::J))=some (.ft (rf e) (F::b.bH J.length er::J)):=by
 refine dY rfl rfl rfl ?_;have hC:=λJ=>jk (J:=J) (f:=⟨x,y,z,k⟩)
 unfold nF at hd;split at hd
 .rename_i h1;obtain⟨⟨f1,f2⟩,f3,f4⟩:=h1;split at hd
  .cases hd;exact absurd rfl he
  rename_i h2;cases hd;by_cases h3:(dw.mk x y z k).valid=true
  .have h4:¬4<=k:=λhh=>h2 ⟨h3,hh⟩
   have hS:(dw.mk x y z k).shape=0:=by simp[dw.shape,h3]
   simp only[hS]at hC;simp[Bk.bH,Bk.cells,f1,f2,f3,f4,cK,dG,hC,h4,D.clean,rf]
  .have hS:(dw.mk x y z k).shape=1:=by simp[dw.shape,h3]
   simp only[hS]at hC;simp[Bk.bH,Bk.cells,f1,f2,f3,f4,cK,dG,hC,D.clean,rf]
 .rename_i h1;cases hd;have hz:(b.aQ.f.x == 0 && (b.aQ.f.y == 0 && (b.aQ.f.z == 0 && b.aQ.f.k == 0)))=false:=by
   cases hb:(b.aQ.f.x == 0 && (b.aQ.f.y == 0 && (b.aQ.f.z == 0 && b.aQ.f.k == 0)))with
   |false=>rfl
   |true =>
    simp only[af,beq_iff_eq]at hb;exact absurd ⟨⟨hb.1,hb.2.1⟩,hb.2.2.1,hb.2.2.2⟩ h1
  simp[Bk.bH,Bk.cells,hz,dG,D.clean,rf]
theorem HO{k0 k1 k2:Int}(hJ:J≠[]):
  Cl wx [.aW,.aW,.agg [iI k0,iI k1,iI k2],iI 0] (.cV [if Trem.fw k0 k1 k2 then .bY 0 []else .aW,iI (if Trem.fw k0 k1 k2 then 0 else 1)]) J:=by
 refine au rfl rfl rfl ?_;have hA:=λJ=>all_nil (T:=T) (J:=J) (fv:=.fn lX [] []) (f:=ko) (ag:=false) (w:=1) rfl rfl rfl rfl rfl rfl
 have hB:=λJ=>all_nil (T:=T) (J:=J) (fv:=.fn tO [] []) (f:=sn) (ag:=false) (w:=1) rfl rfl rfl rfl rfl rfl
 have hC:Trem.VX 0=true:=by decide
 by_cases c1:1000<k0
 .have d1:¬k0<=1000:=by omega
  simp[Trem.fw,hA,hB,Ja,hC,c1,d1]
 have d1:k0<=1000:=by omega
 by_cases c2:k0<k1
 .have d2:¬k1<=k0:=by omega
  simp[Trem.fw,hA,hB,Ja,hC,c1,c2,d1,d2]
 have d2:k1<=k0:=by omega
 by_cases c3:k1<k2
 .have d3:¬k2<=k1:=by omega
  simp[Trem.fw,hA,hB,Ja,hC,c1,c2,c3,d1,d2,d3]
 have d3:k2<=k1:=by omega
 by_cases c4:k2<0
 .have d4:¬0<=k2:=by omega
  simp[Trem.fw,hA,hB,Ja,hC,c1,c2,c3,c4,d1,d2,d3,d4]
 have d4:0<=k2:=by omega
 simp[Trem.fw,hA,hB,Ja,hC,c1,c2,c3,c4,d1,d2,d3,d4];refine aB pZ.eq_1 ?_;simp[d1,d2,d3,d4];have h3:¬J.length<=J.length-1:=by have:=aG.2 hJ;omega
 refine⟨[.dead],?_⟩;rw[tA (by simp[D.bd,D.clean]) (by omega)];have h6:=Fs (l:=J.length-1) (n:=15) (l':=J.length) (i:=0) (v:=0) (off:=0) (m:=0) (w:=1) (J:=[Abs.aD.cells 0 []]::J) (cs:=[]) h3 (by simp) (by omega);simp only[Nat.reduceSub,cG.frzL,h6];simp
def J4(b:Bk)(k0 k1 k2:Int):Bk:={b with k0:=k0,k1:=k1,k2:=k2 }
theorem abR{F:List Abs.aD}{b:Bk}{er:List Int}{nm:List UInt8}{x y z:Int}(h:Trem.fw x y z=true):
  dj T (.call false jW [.ref J.length 6 0 0,.str nm,.bY 3 [iI x,iI y,iI z]] (F::b.bH J.length er::J))=some (.val (.cV []) (F::(J4 b x y z).bH J.length er::J)):=by
 refine fJ rfl rfl rfl (by simp) ?_;have hI:=λJ hJ=>HO (J:=J) (k0:=x) (k1:=y) (k2:=z) hJ
 simp only[h,if_true]at hI;simp[hI,X8,nE,Bk.bH,Bk.cells,J4]
theorem Va{F:List Abs.aD}{b:Bk}{er:List Int}{nm:List UInt8}{x y z:Int}(h:Trem.fw x y z=false):
  dj T (.call false jW [.ref J.length 6 0 0,.str nm,.bY 3 [iI x,iI y,iI z]] (F::b.bH J.length er::J))=some (.ft (rf 1) (F::b.bH J.length er::J)):=by
 refine dY rfl rfl rfl ?_;have hI:=λJ hJ=>HO (J:=J) (k0:=x) (k1:=y) (k2:=z) hJ
 simp only[h]at hI;have hM:=λJ=>oI (J:=J) (e:=1) (by decide)
 simp[hI,X8,hM,Bk.bH,Bk.cells,D.clean,rf]
theorem NI{r:Trem.cF}:Cl pv [.bY 1 r.enc,.aW,iI 0] (.cV [.int .u8 0,.int .u8 0,iI (if r.ok then 0 else 1)]) J:=by
 refine au rfl rfl rfl ?_;have hA:=λJ=>@P7 J [r] (by simp)
 try simp only[lF,Cl]at hA
 have hN:=λJ=>all_nil (T:=T) (J:=J) (fv:=.fn gk [] []) (f:=dX) (ag:=true) (w:=2) rfl rfl rfl rfl rfl rfl
 simp only[List.length_singleton,eg,rP,cX,da,jl,List.all_nil,Bool.and_true]at hA;have w0:Trem.bA 0 0 1000000=true:=by decide
 cases hr:r.ok
 .rw[hr]at hA;simp only[Trem.cF.enc]at hA ⊢;simp[hA]
 .rw[hr]at hA;have hc:=(Trem.yR.1 hr).2.2.2.1;have c1:¬r.count<=0:=by omega
  simp only[Trem.cF.enc]at hA ⊢;simp[hA,hN,iD,w0];refine aB eQ.eq_1 ?_;simp;refine aB ja.eq_1 ?_;simp[c1];refine aB eQ.eq_1 ?_;simp[]
def rO(b:Bk)(r:Trem.cF)(c:Int):Bk×Int :=
 if b.rules.length<20 then(if bA c 1 2=true then(if r.ok=true then({b with rules:=b.rules++[r] },0)else(b,1))else(b,1))else(b,3)
theorem Px(l:List Trem.cF):(fM l Trem.cF.enc).length=l.length*10:=ch (f:=Trem.cF.enc) (w:=10) (λ_=>rfl) l
theorem ab1{F:List Abs.aD}{b:Bk}{er:List Int}{nm:List UInt8}{x0 x1 x2 x3 x4 x5 x6 x7 x8 x9:Int}{b':Bk}{e:Int}(hd:rO b ⟨⟨x0,x1,x2⟩,⟨x3,x4,x5⟩,x6,x7,x8,x9⟩ x9=(b',e))(he:e=0):
  dj T (.call false jY [.ref J.length 6 0 0,.str nm,.bY 10 [iI x0,iI x1,iI x2,iI x3,iI x4,iI x5,iI x6,iI x7,iI x8,iI x9]] (F::b.bH J.length er::J))=some (.val (.cV []) (F::b'.bH J.length er::J)):=by
 refine fJ rfl rfl rfl (by simp) ?_;have hL:=λJ=>NI (J:=J) (r:=⟨⟨x0,x1,x2⟩,⟨x3,x4,x5⟩,x6,x7,x8,x9⟩)
 unfold rO at hd;split at hd
 case isFalse=>cases hd;cases he
 rename_i h1;split at hd
 case isFalse=>cases hd;cases he
 rename_i h2;split at hd
 case isFalse=>cases hd;cases he
 rename_i h3;cases hd;have h1':(b.rules.length:Int)<20:=by omega
 have h4:=aS.1 h2;have w1:IntKind.u8.wrap x9=x9:=wu8 (by omega);have w2:(b.rules.length+1)*80<=room:=by unfold room;omega
 have w3:=Px b.rules;have w4:(fM b.rules Trem.cF.enc).take (b.rules.length*10)=fM b.rules Trem.cF.enc:=ai (by omega);simp only[h3,if_true,Trem.cF.enc]at hL;simp[Bk.bH,Bk.cells,h1',eR,h2,cK,w1,hL,nE,w2,w3,w4]
theorem Vt{F:List Abs.aD}{b:Bk}{er:List Int}{nm:List UInt8}{x0 x1 x2 x3 x4 x5 x6 x7 x8 x9:Int}{b':Bk}{e:Int}(hd:rO b ⟨⟨x0,x1,x2⟩,⟨x3,x4,x5⟩,x6,x7,x8,x9⟩ x9=(b',e))(he:e≠0):
  dj T (.call false jY [.ref J.length 6 0 0,.str nm,.bY 10 [iI x0,iI x1,iI x2,iI x3,iI x4,iI x5,iI x6,iI x7,iI x8,iI x9]] (F::b.bH J.length er::J))=some (.ft (rf e) (F::b.bH J.length er::J)):=by
 refine dY rfl rfl rfl ?_;have hL:=λJ=>NI (J:=J) (r:=⟨⟨x0,x1,x2⟩,⟨x3,x4,x5⟩,x6,x7,x8,x9⟩)
 have hM:=λJ=>oI (J:=J) (e:=1) (by decide)
 unfold rO at hd;split at hd
 .rename_i h1;have h1':(b.rules.length:Int)<20:=by omega
  split at hd
  .rename_i h2;have h4:=aS.1 h2;have w1:IntKind.u8.wrap x9=x9:=wu8 (by omega);split at hd
   .cases hd;exact absurd rfl he
   .rename_i h3;cases hd;have h3':Trem.cF.ok ⟨⟨x0,x1,x2⟩,⟨x3,x4,x5⟩,x6,x7,x8,x9⟩=false:=by simpa using h3
    simp only[h3',Trem.cF.enc]at hL;simp[Bk.bH,Bk.cells,h1',eR,h2,cK,w1,hL,hM,D.clean,rf]
  .rename_i h2;cases hd;have h2':bA x9 1 2=false:=by simpa using h2
   simp[Bk.bH,Bk.cells,h1',eR,h2',cK,dG,D.clean,rf]
 .rename_i h1;cases hd;have h1':¬(b.rules.length:Int)<20:=by omega
  simp[Bk.bH,Bk.cells,h1',dG,D.clean,rf]
theorem ke{α:Type}{f:α->List D}{l:List α}:(nl f l).pY=lF l f:=by
 unfold nl;split
 .rename_i h;subst h;rfl
 .rfl
theorem acF{l:List bG}:(nl bG.enc l).clean=true:=by unfold nl;split<;>simp[D.clean,xl]
theorem BE{b:bU}{tq wq:D}(htq:tq.pY=lF b.dL Rw.enc)(hwq:wq.pY=lF b.av bG.enc)(h1:b.dL.length<=1000000000)(h2:b.av.length<=1000000000):
  Cl wv [.agg [iI b.f.x,iI b.f.y,iI b.f.z,iI b.f.k,tq,iI b.cz,iI b.lift,iI b.deep,wq]] (iI (if b.valid then 0 else 1)) J:=by
 refine au rfl rfl rfl ?_;have hB:=λJ=>CY (J:=J) (b:=b) h1 h2
 cases hv:b.valid<;>rw[hv]at hB<;>simp[htq,hwq,hB]
def CU(b:Bk)(x y z:Int):Bk:={b with aQ:={b.aQ with cz:=x,lift:=y,deep:=z },ready:=true }
def xH(b:Bk)(x y z:Int):Bk×Int :=
 if((b.aQ.f.x=0/\b.aQ.f.y=0)/\b.aQ.f.z=0/\b.aQ.f.k=0)\/b.aQ.dL=[]\/b.ready=true then(b,8)
 else if(CU b x y z).aQ.valid=true then(CU b x y z,0)else(b,1)
theorem JW{f:dw}:(f.x == 0 && (f.y == 0 && (f.z == 0 && f.k == 0)))=decide ((f.x=0/\f.y=0)/\f.z=0/\f.k=0):=by
 by_cases h1:f.x=0<;>by_cases h2:f.y=0<;>by_cases h3:f.z=0<;>by_cases h4:f.k=0<;>simp[h1,h2,h3,h4]
theorem ej{α:Type}{f:α->List D}{l:List α}(h:l≠[]):nl f l=lF l f:=if_neg h
theorem abN{F:List Abs.aD}{b:Bk}{er:List Int}{nm:List UInt8}{x y z:Int}{b':Bk}{e:Int}(h1:b.aQ.dL.length<=1000000000)(h2:b.aQ.av.length<=1000000000)(hd:xH b x y z=(b',e))(he:e=0):
  dj T (.call false kI [.ref J.length 6 0 0,.str nm,.bY 3 [iI x,iI y,iI z]] (F::b.bH J.length er::J))=some (.val (.cV []) (F::b'.bH J.length er::J)):=by
 refine fJ rfl rfl rfl (by simp) ?_;unfold xH at hd;split at hd
 case isTrue=>cases hd;cases he
 rename_i h0;split at hd
 case isFalse=>cases hd;cases he
 rename_i h3;cases hd;have c1:(b.aQ.f.x == 0 && (b.aQ.f.y == 0 && (b.aQ.f.z == 0 && b.aQ.f.k == 0)))=false:=by rw[JW];simpa using λhh=>h0 (.inl hh)
 have c2:b.aQ.dL≠[]:=λhh=>h0 (.inr (.inl hh))
 have c3:b.ready=false:=by cases hr:b.ready with | false=>rfl | true=>exact absurd (.inr (.inr hr)) h0
 have c4:0<b.aQ.dL.length:=aG.2 c2;have hcl:(D.bY b.aQ.dL.length (fM b.aQ.dL Rw.enc)).clean=true:=by simp[D.clean,Cz]
 have hC:=λJ=>BE (J:=J) (b:=(CU b x y z).aQ) (tq:=nl Rw.enc b.aQ.dL) (wq:=nl bG.enc b.aQ.av) ke ke h1 h2
 rw[h3]at hC;simp only[ej c2,CU]at hC;simp[Bk.bH,Bk.cells,c1,ej c2,c4,c3,cK,nE,hC,CU,acF,hcl]
theorem U4{F:List Abs.aD}{b:Bk}{er:List Int}{nm:List UInt8}{x y z:Int}{b':Bk}{e:Int}(h1:b.aQ.dL.length<=1000000000)(h2:b.aQ.av.length<=1000000000)(hd:xH b x y z=(b',e))(he:e≠0):
  dj T (.call false kI [.ref J.length 6 0 0,.str nm,.bY 3 [iI x,iI y,iI z]] (F::b.bH J.length er::J))=some (.ft (rf e) (F::b.bH J.length er::J)):=by
 refine dY rfl rfl rfl ?_;have hM:=λJ=>oI (J:=J) (e:=1) (by decide)
 unfold xH at hd;split at hd
 .rename_i h0;cases hd;cases c1:(b.aQ.f.x == 0 && (b.aQ.f.y == 0 && (b.aQ.f.z == 0 && b.aQ.f.k == 0)))
  .by_cases c2:b.aQ.dL=[]
   .simp[Bk.bH,Bk.cells,c1,c2,nl,dG,D.clean,rf]
   .have c4:0<b.aQ.dL.length:=aG.2 c2;have c3:b.ready=true:=by
     rw[JW]at c1;rcases h0 with h | h | h
     .exact absurd h (by simpa using c1)
     .exact absurd h c2
     .exact h
    simp[Bk.bH,Bk.cells,c1,ej c2,c4,c3,dG,D.clean,rf]
  .simp[Bk.bH,Bk.cells,c1,dG,D.clean,rf]
 .rename_i h0;split at hd
  .cases hd;exact absurd rfl he
  rename_i h3;cases hd;have c1:(b.aQ.f.x == 0 && (b.aQ.f.y == 0 && (b.aQ.f.z == 0 && b.aQ.f.k == 0)))=false:=by rw[JW];simpa using λhh=>h0 (.inl hh)
  have c2:b.aQ.dL≠[]:=λhh=>h0 (.inr (.inl hh))
  have c3:b.ready=false:=by cases hr:b.ready with | false=>rfl | true=>exact absurd (.inr (.inr hr)) h0
  have c4:0<b.aQ.dL.length:=aG.2 c2;have hC:=λJ=>BE (J:=J) (b:=(CU b x y z).aQ) (tq:=nl Rw.enc b.aQ.dL) (wq:=nl bG.enc b.aQ.av) ke ke h1 h2
  have h3':(CU b x y z).aQ.valid=false:=by simpa using h3
  rw[h3']at hC;simp only[ej c2,CU]at hC;simp[Bk.bH,Bk.cells,c1,ej c2,c4,c3,cK,hM,hC,D.clean,rf]
theorem xF(l:List bG):(fM l bG.enc).length=l.length*3:=ch (f:=bG.enc) (w:=3) (λ_=>rfl) l
theorem K9{bs:List Abs.aD}:dj T (.call true jn [.aW] (bs::J))=some (.val (.sl J.length (bs.length+1) 0 0 0 3) ((bs++[.cells 0 [],.cells 0 []])::J)):=by
 refine xk rfl rfl rfl ?_;simp
theorem NP{bs:List Abs.aD}{l:List bG}(hne:l≠[])(hl:l.length<=1000000):dj T (.call true jn [lF l bG.enc] (bs::J)) =
  some (.val (.sl J.length (bs.length+1) 1 0 l.length 3) ((bs++[.cells 0 [],.cells 1 (fM l bG.enc)])::J)):=by
 refine xk rfl rfl rfl ?_;have h7:l.length*24<=room:=by unfold room;omega
 simp[hne,xF,h7]
def nD(b:Bk)(x y z:Int):Bk:={b with aQ:={b.aQ with av:=b.aQ.av++[⟨x,y,z⟩] } }
def tc(b:Bk)(x y z:Int):Bk×Int :=
 if b.ready=true/\b.ah=[]then(if(nD b x y z).aQ.valid=true then(nD b x y z,0)else(b,1))else(b,8)
theorem aca{F:List Abs.aD}{b:Bk}{er:List Int}{nm:List UInt8}{x y z:Int}{b':Bk}{e:Int}(ht:b.aQ.dL≠[])(h1:b.aQ.dL.length<=1000000000)(h2:b.aQ.av.length<=1000000)(hd:tc b x y z=(b',e))(he:e=0):
  dj T (.call false j6 [.ref J.length 6 0 0,.str nm,.bY 3 [iI x,iI y,iI z]] (F::b.bH J.length er::J))=some (.val (.cV []) (F::b'.bH J.length er::J)):=by
 refine fJ rfl rfl rfl (by simp) ?_;unfold tc at hd;split at hd
 case isFalse=>cases hd;cases he
 rename_i h0;obtain⟨c1,c2⟩:=h0;split at hd
 case isFalse=>cases hd;cases he
 rename_i h3;cases hd;have hC:=λJ=>BE (J:=J) (b:=(nD b x y z).aQ) (tq:=.bY b.aQ.dL.length (fM b.aQ.dL Rw.enc)) (wq:=.bY (b.aQ.av.length+1) (fM b.aQ.av bG.enc++[iI x,iI y,iI z])) rfl (by simp[nD,D.pY]) h1 (by simp[nD];omega)
 rw[h3]at hC;simp only[nD]at hC;have hcl:(D.bY b.aQ.dL.length (fM b.aQ.dL Rw.enc)).clean=true:=by simp[D.clean,Cz]
 have hroom:(b.aQ.av.length+1)*24<=room:=by unfold room;omega
 have hlen:=xF b.aQ.av;have htake:(fM b.aQ.av bG.enc).take (b.aQ.av.length*3)=fM b.aQ.av bG.enc:=ai (by omega);have hcw:D.bd (fM b.aQ.av bG.enc++[iI x,iI y,iI z])=true:=by
  have:=xl (b.aQ.av++[⟨x,y,z⟩]);simpa using this
 have hfr:∀(v:Nat) (S:SK),S.length=J.length+1+1->cG 0 16 (.sl (J.length+1+1) 1 v 0 (b.aQ.av.length+1) 3) ([.cells 0 [],.cells v (fM b.aQ.av bG.enc++[iI x,iI y,iI z])]::S) =
   (.bY (b.aQ.av.length+1) (fM b.aQ.av bG.enc++[iI x,iI y,iI z]),[.cells 0 [],.dead]::S):=by
  intro v S hS;have:=pV (f:=bG.enc) (w:=3) (λ_=>rfl) (λ_=>by simp[D.clean]) (l:=b.aQ.av++[⟨x,y,z⟩]) (j:=1) (v:=v) (bs:=[Abs.aD.cells 0 [],.cells v (fM b.aQ.av bG.enc++[iI x,iI y,iI z])]) (J:=S) (by intro h;subst h;simp at hS) (by simp);rw[hS]at this;simpa using this
 have h24:24<=room:=by unfold room;omega
 have hcw2:(D.bY (b.aQ.av.length+1) (fM b.aQ.av bG.enc++[iI x,iI y,iI z])).clean=true:=by simpa[D.clean]using hcw
 by_cases hw:b.aQ.av=[]
 .have hfr':=hfr;simp only[hw,bx,rP,aY,ck]at hfr' hC;have ht':=ej (f:=Rw.enc) ht;simp only[nl]at ht';simp[Bk.bH,Bk.cells,c1,c2,ht',hC,hw,nl,cK,nE,K9,nD,hcl,h24,hfr']
 .simp[Bk.bH,Bk.cells,c1,c2,ej ht,ej hw,cK,nE,NP hw h2,nD,hcl,hroom,hlen,htake,hfr,hC,hcw2];simp[nl]
theorem VB{F:List Abs.aD}{b:Bk}{er:List Int}{nm:List UInt8}{x y z:Int}{b':Bk}{e:Int}(ht:b.ready=true->b.aQ.dL≠[])(h1:b.aQ.dL.length<=1000000000)(h2:b.aQ.av.length<=1000000)(hd:tc b x y z=(b',e))(he:e≠0):
  dj T (.call false j6 [.ref J.length 6 0 0,.str nm,.bY 3 [iI x,iI y,iI z]] (F::b.bH J.length er::J))=some (.ft (rf e) (F::b.bH J.length er::J)):=by
 refine dY rfl rfl rfl ?_;have hM:=λJ=>oI (J:=J) (e:=1) (by decide)
 have hrc:(D.tP 200 (.agg [iI 1])).clean=true:=rfl;unfold tc at hd;split at hd
 case isFalse h0 =>
  cases hd;cases c1:b.ready with
  |false=>simp[Bk.bH,Bk.cells,c1,dG,D.clean,rf]
  |true =>
   have c2:b.ah≠[]:=λhh=>h0 ⟨c1,hh⟩
   have c2':((b.ah.length:Int) == 0)=false:=by simpa using c2
   simp[Bk.bH,Bk.cells,c1,c2',dG,D.clean,rf]
 rename_i h0;obtain⟨c1,c2⟩:=h0;have ht:=ht c1;split at hd
 case isTrue=>cases hd;exact absurd rfl he
 rename_i h3;cases hd;have h3':(nD b x y z).aQ.valid=false:=by simpa using h3
 have hC:=λJ=>BE (J:=J) (b:=(nD b x y z).aQ) (tq:=.bY b.aQ.dL.length (fM b.aQ.dL Rw.enc)) (wq:=.bY (b.aQ.av.length+1) (fM b.aQ.av bG.enc++[iI x,iI y,iI z])) rfl (by simp[nD,D.pY]) h1 (by simp[nD];omega)
 rw[h3']at hC;simp only[nD]at hC;have hcl:(D.bY b.aQ.dL.length (fM b.aQ.dL Rw.enc)).clean=true:=by simp[D.clean,Cz]
 have hroom:(b.aQ.av.length+1)*24<=room:=by unfold room;omega
 have hlen:=xF b.aQ.av;have htake:(fM b.aQ.av bG.enc).take (b.aQ.av.length*3)=fM b.aQ.av bG.enc:=ai (by omega);have hcw:D.bd (fM b.aQ.av bG.enc++[iI x,iI y,iI z])=true:=by
  have:=xl (b.aQ.av++[⟨x,y,z⟩]);simpa using this
 have hfr:∀(v:Nat) (S:SK),S.length=J.length+1+1->cG 0 16 (.sl (J.length+1+1) 1 v 0 (b.aQ.av.length+1) 3) ([.cells 0 [],.cells v (fM b.aQ.av bG.enc++[iI x,iI y,iI z])]::S) =
   (.bY (b.aQ.av.length+1) (fM b.aQ.av bG.enc++[iI x,iI y,iI z]),[.cells 0 [],.dead]::S):=by
  intro v S hS;have:=pV (f:=bG.enc) (w:=3) (λ_=>rfl) (λ_=>by simp[D.clean]) (l:=b.aQ.av++[⟨x,y,z⟩]) (j:=1) (v:=v) (bs:=[Abs.aD.cells 0 [],.cells v (fM b.aQ.av bG.enc++[iI x,iI y,iI z])]) (J:=S) (by intro h;subst h;simp at hS) (by simp);rw[hS]at this;simpa using this
 have h24:24<=room:=by unfold room;omega
 have hcw2:(D.bY (b.aQ.av.length+1) (fM b.aQ.av bG.enc++[iI x,iI y,iI z])).clean=true:=by simpa[D.clean]using hcw
 by_cases hw:b.aQ.av=[]
 .have hfr':=hfr;simp only[hw,bx,rP,aY,ck]at hfr' hC;have ht':=ej (f:=Rw.enc) ht;simp only[nl]at ht';simp[Bk.bH,Bk.cells,c1,c2,ht',hC,hw,nl,cK,hM,K9,hcl,h24,hfr',rf,hrc]
 .simp[Bk.bH,Bk.cells,c1,c2,ej ht,ej hw,cK,hM,NP hw h2,hcl,hroom,hlen,htake,hfr,hC,rf,hrc]
theorem Nm(l:List Rw):(fM l Rw.enc).length=l.length*5:=ch (f:=Rw.enc) (w:=5) (λ_=>rfl) l
theorem Qk{bp:D}(hb1:bp.calm=bp):∀(rs acc:List Rw),acc.length+rs.length<=1000000 ->
  WL T [0,2,6] false fZ [(0,bp),(2,.bY (rs.length*5) (fM rs Rw.enc)),(6,.sl J.length 0 acc.length 0 acc.length 5)] ([.cells acc.length (fM acc Rw.enc)]::J)
   (λx e J'=>x=.exit 0/\get e 0=bp/\get e 6=.sl J.length 0 (acc++rs).length 0 (acc++rs).length 5/\J'=[.cells (acc++rs).length (fM (acc++rs) Rw.enc)]::J)
 |[],acc,h=>by
  refine aB fZ.eq_1 ?_;simp[hb1]
 |r::rs,acc,h=>by
  refine aB fZ.eq_1 ?_;simp only[aK]at h;have⟨e1,q0,q1,q2,q3,q4⟩:(rs.length+1)*5=rs.length*5+5/\(0:Int)<(rs.length:Int)*5+5/\(1:Int)<(rs.length:Int)*5+5/\(2:Int)<(rs.length:Int)*5+5/\(3:Int)<(rs.length:Int)*5+5/\(4:Int)<(rs.length:Int)*5+5:=by omega
  have q5:(5:Int)<=(rs.length:Int)*5+5:=by omega
  have hroom:(acc.length+1)*40<=room:=by unfold room;omega
  have hl:=Nm acc;have ht:(fM acc Rw.enc).take (acc.length*5)=fM acc Rw.enc:=ai (by omega);have hl2:=Nm rs;have ht2:(fM rs Rw.enc).take (rs.length*5)=fM rs Rw.enc:=ai (by omega);simp[hb1,e1,q0,q1,q2,q3,q4,q5,hroom,hl,ht];refine WL.to (Qk hb1 rs (acc++[r]) (by simp;omega)) (by simp[ht2]) (by simp) λx e J' hh=>?_
  simpa using hh
def HH(b:Bk)(t:List Rw):Bk:={b with aQ:={b.aQ with dL:=t } }
def lE(b:Bk)(t:List Rw):Bk×Int:=if b.aQ.dL=[]then(if fO t=true then(HH b t,0)else(b,1))else(b,8)
theorem YV{F:List Abs.aD}{b:Bk}{er:List Int}{nm:List UInt8}{t:List Rw}{b':Bk}{e:Int}(hl:t.length<=1000000)(hd:lE b t=(b',e))(he:e=0):
  dj T (.call false jz [.ref J.length 6 0 0,.str nm,.bY (t.length*5) (fM t Rw.enc)] (F::b.bH J.length er::J))=some (.val (.cV []) (F::b'.bH J.length er::J)):=by
 refine fJ rfl rfl rfl (by simp) ?_;unfold lE at hd;split at hd
 case isFalse=>cases hd;cases he
 rename_i h0;split at hd
 case isFalse=>cases hd;cases he
 rename_i h3;cases hd;have hne:t≠[]:=by intro h;subst h;simp[fO,bA]at h3
 have hC:=λJ=>BF (J:=J) (l:=t) (by omega)
 rw[h3]at hC;have hL:=Qk (J:=F::b.bH J.length er::J) (bp:=.ref J.length 6 0 0) rfl t [] (by simpa using hl);simp[Bk.bH,Bk.cells,h0,nl,cK];refine WL.to hL (by simp) (by simp[Bk.bH,Bk.cells,h0,nl]) ?_;rintro x e J' ⟨rfl,g0,g6,rfl⟩;have hcl:(D.bY t.length (fM t Rw.enc)).clean=true:=by simp[D.clean,Cz]
 have hfr:∀S:SK,S.length=J.length+1+1->cG 0 16 (.sl (J.length+1+1) 0 t.length 0 t.length 5) ([.cells t.length (fM t Rw.enc)]::S)=(.bY t.length (fM t Rw.enc),[.dead]::S):=by
  intro S hS;have:=pV (f:=Rw.enc) (w:=5) (λ_=>rfl) (λ_=>by simp[D.clean]) (l:=t) (j:=0) (v:=t.length) (bs:=[Abs.aD.cells t.length (fM t Rw.enc)]) (J:=S) (by intro h;subst h;simp at hS) (by simp);rw[hS]at this;simpa using this
 simp[g0,g6,hfr,hC,nE,hcl,Bk.bH,Bk.cells,h0,nl,hne,HH];exact⟨rfl,rfl⟩
theorem Tx{F:List Abs.aD}{b:Bk}{er:List Int}{nm:List UInt8}{t:List Rw}{b':Bk}{e:Int}(hl:t.length<=1000000)(hd:lE b t=(b',e))(he:e≠0):
  dj T (.call false jz [.ref J.length 6 0 0,.str nm,.bY (t.length*5) (fM t Rw.enc)] (F::b.bH J.length er::J))=some (.ft (rf e) (F::b.bH J.length er::J)):=by
 refine dY rfl rfl rfl ?_;have hM:=λJ=>oI (J:=J) (e:=1) (by decide)
 have hrc:(D.tP 200 (.agg [iI 1])).clean=true:=rfl;unfold lE at hd;split at hd
 case isFalse h0 =>
  cases hd;have h0':((b.aQ.dL.length:Int) == 0)=false:=by simpa using h0
  simp[Bk.bH,Bk.cells,ej h0,h0',dG,D.clean,rf]
 rename_i h0;split at hd
 case isTrue=>cases hd;exact absurd rfl he
 rename_i h3;cases hd;have h3':fO t=false:=by simpa using h3
 have hC:=λJ=>BF (J:=J) (l:=t) (by omega)
 rw[h3']at hC;have hL:=Qk (J:=F::b.bH J.length er::J) (bp:=.ref J.length 6 0 0) rfl t [] (by simpa using hl);simp[Bk.bH,Bk.cells,h0,nl,cK];refine WL.to hL (by simp) (by simp[Bk.bH,Bk.cells,h0,nl]) ?_;rintro x e J' ⟨rfl,g0,g6,rfl⟩;have hcl:(D.bY t.length (fM t Rw.enc)).clean=true:=by simp[D.clean,Cz]
 have hfr:∀S:SK,S.length=J.length+1+1->cG 0 16 (.sl (J.length+1+1) 0 t.length 0 t.length 5) ([.cells t.length (fM t Rw.enc)]::S)=(.bY t.length (fM t Rw.enc),[.dead]::S):=by
  intro S hS;have:=pV (f:=Rw.enc) (w:=5) (λ_=>rfl) (λ_=>by simp[D.clean]) (l:=t) (j:=0) (v:=t.length) (bs:=[Abs.aD.cells t.length (fM t Rw.enc)]) (J:=S) (by intro h;subst h;simp at hS) (by simp);rw[hS]at this;simpa using this
 simp[g6,hfr,hC,hM,Bk.bH,Bk.cells,h0,nl,rf,hrc]
end Go.Proofs.YtpapbbojmclkgaaGreatDoor
