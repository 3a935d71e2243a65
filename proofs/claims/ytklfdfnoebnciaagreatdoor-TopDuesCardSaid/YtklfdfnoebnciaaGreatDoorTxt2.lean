import Derived.Test.YtklfdfnoebnciaaGreatDoorTxt1
set_option linter.all false
namespace Go.Proofs.YtklfdfnoebnciaaGreatDoor
open List(length_flatMap map_take)
open Go Go.az Go.aD
variable {J:SK}
theorem F7{l i v off:Nat}:lim T (.xe 124 [.ref l i v off] none J)=some (.val (.dj []) J):=by
 refine AB xZ oH.eq_1 rfl (by simp[-length_flatMap,-map_take,rG];exact⟨rfl,rfl⟩) ?_;simp[-length_flatMap,-map_take]
theorem Qy{F:List az.aI}(hF:F=[.cells 0 [.int .i64 0]]):lim T (.xe 124 [.ref J.length 0 0 0] (some (.tK 259 (.agg []))) (F::J))=some (.val (.dj []) ([.cells 0 [.int .i64 9]]::J)):=by
 subst hF;refine AB xZ oH.eq_1 rfl (by simp[-length_flatMap,-map_take,rG];exact⟨rfl,rfl⟩) ?_;simp[-length_flatMap,-map_take]
theorem sS{α:Type}{f:α->Int}:∀{l:List α},cA f l=0->∀x∈l,f x=0
 |[],_,x,hx=>by cases hx
 |a::l,h,x,hx=>by
  simp only[cA]at h;split at h
  .rename_i ha;rcases bw.1 hx with rfl | hx
   .exact ha
   .exact sS h x hx
  .rename_i ha;exact absurd h ha
theorem zB{b:b9}{av:List (List Int)}(h:vG b av=0):av.length<=200/\∀r∈av,Rv b r:=by
 unfold vG at h;split at h
 .cases h
 .exact⟨by omega,λr hr=>Rv.of (sS h r hr)⟩
def tP(b:b9)(m:cq)(av:List (List Int)):Int:=if Bd b m then(if vG b av=0 then(match aD.run b m av with | some _=>0 | none=>9)else vG b av)else 1
def yP(b:b9)(m:cq)(av:List (List Int)):D:=if tP b m av=0 then(match aD.run b m av with | some (ss,ys) => .agg [.aG ss.length (ss.flatMap xN),.aG ys.length (ys.flatMap xN)] | none => .agg [.bN,.bN])else .agg [.bN,.bN]
theorem PJ{b:b9}{m:cq}{av:List (List Int)}{wq:D}(hwq:wq.vN=.aG b.ak.length (b.ak.flatMap bE.enc))(h1:b.b8.length<=1000000000)(h2:b.ak.length<=1000000000)(hn:m.name.length<=1000000000)(hl:m.bg.length<=1000000000)(hp:av.length<=1000000000)(hs:∀l∈av,l.length<=1000000000)(hJ:J≠[]):
  lim T (.call false 81 [.agg [.int .i64 b.f.x,.int .i64 b.f.y,.int .i64 b.f.z,.int .i64 b.f.k,.aG b.b8.length (b.b8.flatMap Rw.enc),.int .i64 b.bF,.int .i64 b.lift,.int .i64 b.deep,wq],.agg [.str m.name,.aG m.bg.length (m.bg.flatMap aX)],.aG av.length (av.flatMap Fj)] J)=some (.val (.dj [yP b m av,.int .i64 (tP b m av)]) J):=by
 have hP:=λJ=>P5 (J:=J) (b:=b) hp hs
 cases hb:Bd b m
 .have hE:tP b m av=1:=by simp[tP,hb]
  have hD:yP b m av=.agg [.bN,.bN]:=by simp[yP,hE]
  rw[hD,hE];refine au As sO.eq_1 rfl ?_;obtain⟨d,hB,hd1,hd2⟩:=MU h1 h2 hn hl hb (J:=[.cells 0 [.int .i64 0]]::J);simp[-length_flatMap,-map_take,hwq,hB,hd1,cl,bh,bq]
 .have hB:=λJ=>UN (J:=J) h1 h2 hn hl hb
  by_cases hq:vG b av=0
  .obtain⟨p1,p2⟩:=zB hq;simp only[Bd,ae]at hb;have hf:Fv b m:=Fv.of (by simp[Bd,hb]);have hb':Bd b m=true:=by simp[Bd,hb]
   refine Ke As sO.eq_1 rfl rfl ?_;cases hrun:aD.run b m av with
   |none =>
    have hE:tP b m av=9:=by simp[tP,hb',hq,hrun]
    have hD:yP b m av=.agg [.bN,.bN]:=by simp[yP,hE]
    have hR:=λJ=>MX (J:=J) hf p1 p2 hrun
    have hX:vo T (.fn 124 [] []) [.ref J.length 0 0 0] (some (.tK 259 (.agg []))) ([.cells 0 [.int .i64 0]]::J)=some ([.cells 0 [.int .i64 9]]::J):=ui (Qy rfl);rw[hD,hE];simp[-length_flatMap,-map_take,JH,Ah,hwq,hB,hP,hq,hR,cl,bh,bq];rw[yD tu.eq_1];simp[-length_flatMap,-map_take,JH,Ah,hX,hR,cl,bh,bq]
   |some p =>
    obtain⟨ss,ys⟩:=p;have hE:tP b m av=0:=by simp[tP,hb',hq,hrun]
    have hD:yP b m av=.agg [.aG ss.length (ss.flatMap xN),.aG ys.length (ys.flatMap xN)]:=by simp[yP,hE,hrun]
    have hX:vo T (.fn 124 [] []) [.ref J.length 0 0 0] none ([.cells 0 [.int .i64 0]]::J)=some ([.cells 0 [.int .i64 0]]::J):=ui F7;have hR:=λJ hJ=>MY (J:=J) hf p1 p2 hJ hrun
    rw[hD,hE];simp[-length_flatMap,-map_take,JH,Ah,hwq,hB,hP,hq,hR,cl,bh,bq];rw[yD tu.eq_1];simp[-length_flatMap,-map_take,JH,Ah,hX,hR,cl,bh,bq];rw[jX (by simp[D.clean,HS]) (by omega)];exact⟨_,rfl⟩
  .have hE:tP b m av=vG b av:=by simp[tP,hb,hq]
   have hD:yP b m av=.agg [.bN,.bN]:=by simp[yP,hE,hq]
   rw[hD,hE];refine au As sO.eq_1 rfl ?_;simp[-length_flatMap,-map_take,hwq,hB,hP,hq,cl,bh,bq]
end Go.Proofs.YtklfdfnoebnciaaGreatDoor
namespace Go.gJ
open List(length_flatMap map_take)
open Go Go.az Go.aD
def Pf(s:List UInt8):Option Int:=if((u6 s).1=0/\H7 (u6 s).2=s)/\bT (u6 s).2 (-999999999) 999999999=true then some (u6 s).2 else none
def xI:List (List UInt8)->Option (List Int)
 |[]=>some []
 |s::l=>match Pf s with
  |some n=>(xI l).map (n :: ·)
  |none=>none
structure Wd where
 named:Bool
 least:Int
 step:Int
 k:Nat
def sV:List (List UInt8×Wd):=[
 ([102,105,101,108,100],⟨false,4,0,0⟩),([116,97,98,108,101],⟨false,0,5,1⟩),([98,101,100],⟨false,3,0,2⟩),([119,101,108,108],⟨false,3,0,3⟩),
 ([109,111,100,101,108],⟨true,0,1,4⟩),([108,111,103],⟨true,3,2,5⟩),([114,117,108,101],⟨false,10,0,6⟩),([107,101,101,112],⟨false,3,0,7⟩),
 ([113,117,97,107,101],⟨false,0,4,8⟩),([116,105,99,107],⟨false,0,1,9⟩),([114,101,97,100],⟨false,4,0,10⟩),([117,110,105,116],⟨false,1,2,11⟩),([115,101,108,108],⟨false,4,0,12⟩)]
def B8(s:List UInt8):List (List UInt8×Wd)->Option Wd
 |[]=>none
 |(k,w)::l=>if s=k then some w else B8 s l
def xS(s:List UInt8):Option Wd:=B8 s sV
theorem Ec{s:List UInt8}{w:Wd}:∀{l:List (List UInt8×Wd)},B8 s l=some w->(s,w)∈l
 |[],h=>by cases h
 |(k,v)::l,h=>by
  simp only[B8]at h;split at h
  .rename_i e;cases h;subst e;simp
  .exact List.mem_cons_of_mem _ (Ec h)
theorem DP{s:List UInt8}{w:Wd}(h:xS s=some w):0<=w.least/\w.least<=10/\0<=w.step/\w.step<=5/\w.k<13:=by
 have h1:=Ec h;simp only[sV,bw,aj,List.not_mem_nil,or_false]at h1;rcases h1 with⟨_,rfl⟩ | ⟨_,rfl⟩ | ⟨_,rfl⟩ | ⟨_,rfl⟩ | ⟨_,rfl⟩ | ⟨_,rfl⟩ | ⟨_,rfl⟩ | ⟨_,rfl⟩ | ⟨_,rfl⟩ | ⟨_,rfl⟩ | ⟨_,rfl⟩ | ⟨_,rfl⟩ | ⟨_,rfl⟩<;>simp
def Gu(w:Wd)(n:Int):Bool:=decide (n-w.least=0) || (decide (0<n-w.least) && (decide (0<w.step) && decide ((n-w.least).tmod w.step=0)))
def vu(w:Wd)(name:List UInt8)(l:List (List UInt8)):Option (Wd×List UInt8×List Int) :=
 match xI l with
 |some ns=>if Gu w ns.length=true then some (w,name,ns)else none
 |none=>none
def parse(s:List UInt8):Option (Wd×List UInt8×List Int) :=
 match fa 32 s with
 |[]=>none
 |a::all=>match xS a with
  |none=>none
  |some w=>if w.named=true then(match all with
   |[]=>none
   |n::r=>vu w n r)else vu w [] all
theorem BA(b:UInt8)(s:List UInt8):fa b s≠[]:=by
 cases s with
 |nil=>simp[fa]
 |cons c r =>
  simp only[fa];split
  .simp
  .split<;>simp
theorem zK(b:UInt8):∀s:List UInt8,(fa b s).length<=s.length+1
 |[]=>by simp[fa]
 |c::r=>by
  have:=zK b r;simp only[fa];split
  .simp;omega
  .split
   .rename_i h;rw[h]at this;simp at this ⊢;omega
   .simp
end Go.gJ
namespace Go.Proofs.YtklfdfnoebnciaaGreatDoor
open List(length_flatMap map_take)
open Go Go.az Go.aD Go.gJ
variable {J:SK}
theorem GI{T:zQ}{kp:Bool}{f k:Nat}{args:List D}{J:SK}{r:R}(hT:T f=none)(hN:T (1000000+f)=some ⟨k,[],.exit 0⟩)(h:Jg k args J=some r):lim T (.call kp f args J)=some r :=
 fZ (by simp[cI,hT,hN,h])
def rf(e:Int):D:=.tK 90 (.agg [.int .i64 e])
theorem cg{e:Int}:lim T (.call false 40 [.bool true,.int .i64 e] J)=some (.val (.dj []) J):=by
 refine au BZ rJ.eq_1 rfl ?_;simp[-length_flatMap,-map_take]
theorem cM{e:Int}:lim T (.call false 40 [.bool false,.int .i64 e] J)=some (.eA (rf e) J):=by
 refine di BZ rJ.eq_1 rfl ?_;simp[-length_flatMap,-map_take,Xa,D.clean,rf]
theorem ng:lim T (.call false 65 [.int .i64 0] J)=some (.val (.dj []) J):=by
 refine au Aq pG.eq_1 rfl ?_;simp[-length_flatMap,-map_take,cg]
theorem oM{e:Int}(h:e≠0):lim T (.call false 65 [.int .i64 e] J)=some (.eA (rf e) J):=by
 refine di Aq pG.eq_1 rfl ?_;have h':(e == 0)=false:=by simpa using h
 simp[-length_flatMap,-map_take,cM,h',D.clean,rf]
theorem dM{a b c:Int}:lim T (.call false 60 [.int .i64 a,.int .i64 b,.int .i64 c] J)=some (.val (.bool (bT a b c)) J):=by
 refine au DU pY.eq_1 rfl ?_;by_cases h:b<=a<;>simp[-length_flatMap,-map_take,h,bT]
theorem Lt{n:Int}(h : -9223372036854775808<=n/\n<=9223372036854775807):lim T (.call false 59 [.int .i64 n] J)=some (.val (.str (H7 n)) J) :=
 GI F6 FT (by simp[Jg,h])
theorem IF{s:List UInt8}(h:s.length<=1000000):lim T (.call false 58 [.str s] J)=some (.val (.dj [.int .i64 (u6 s).2,if(u6 s).1=0 then .oD else .tK 238 .undef]) J) :=
 GI F5 FR (by simp[Jg,h])
theorem Bc{s:List UInt8}(h:s.length<=1000000):lim T (.call false 38 [.str s,.str [32]] J)=some (.val (.aG (fa 32 s).length ((fa 32 s).map .str)) J) :=
 GI Fb E1 (by simp[Jg,h])
theorem IX(s:List UInt8) : -9223372036854775808<=(u6 s).2/\(u6 s).2<=9223372036854775807:=by
 unfold u6;split
 .rename_i v h;cases s with
  |nil=>cases h
  |cons c r =>
   simp only[Lib.atoiAll]at h;split at h
   .cases h
   .cases h
   .rename_i u hu;split at h
    .cases h
    .split at h
     .cases h
     .cases h;dsimp only;split<;>omega
 .simp
 .simp only[Lib.atoiSat];split<;>simp
theorem PZ{s:List UInt8}(hl:s.length<=1000000){n:Int}(h:Pf s=some n):lim T (.call false 41 [.str s] J)=some (.val (.int .i64 n) J):=by
 unfold Pf at h;simp only[aC,ad]at h;obtain⟨⟨⟨h1,h2⟩,h3⟩,rfl⟩:=h;refine au yB mL.eq_1 rfl ?_;simp[-length_flatMap,-map_take,IF hl,h1,Lt (IX s),h2,CT,dM,h3,cg]
theorem LA{s:List UInt8}(hl:s.length<=1000000)(h:Pf s=none):lim T (.call false 41 [.str s] J)=some (.eA (rf 4) J):=by
 refine di yB mL.eq_1 rfl ?_;unfold Pf at h;simp only[ite_eq_right_iff,reduceCtorEq,imp_false,not_and]at h;by_cases h1:(u6 s).1=0
 .by_cases h2:H7 (u6 s).2=s
  .have h3:bT (u6 s).2 (-999999999) 999999999=false:=by simpa using h ⟨h1,h2⟩
   simp[-length_flatMap,-map_take,IF hl,h1,Lt (IX s),h2,CT,dM,h3,cM,D.clean,rf]
  .simp[-length_flatMap,-map_take,IF hl,h1,Lt (IX s),h2,CT,dM,cM,D.clean,rf]
 .simp[-length_flatMap,-map_take,IF hl,h1,cM,D.clean,rf]
def Ih:List Nat:=[45,46,47,48,49,50,51,52,53,54,55,56,57]
def Lr(w:Wd):List D:=[.bool w.named,.int .i64 w.least,.int .i64 w.step,.fn ((Ih[w.k]?).getD 0) [] []]
def iw(l:List (List UInt8×Wd)):List D:=l.map λp => .dj [.str p.1,.agg (Lr p.2)]
theorem Gt{s:List UInt8}:∀{l:List (List UInt8×Wd)},B8 s l=none->pJ none (.str s) (iw l)=some none
 |[],_=>rfl
 |(k,w)::l,h=>by
  simp only[B8]at h;split at h
  .cases h
  .rename_i hk;have hb:(s == k)=false:=by simpa using hk
   have:=Gt h;simp only[iw,aN,pJ,sG,hb]at this ⊢;rw[this];rfl
theorem HY{s:List UInt8}{w:Wd}:∀{l:List (List UInt8×Wd)},B8 s l=some w->∃j,pJ none (.str s) (iw l)=some (some (j,.agg (Lr w)))
 |[],h=>by cases h
 |(k,v)::l,h=>by
  simp only[B8]at h;split at h
  .rename_i hk;cases h;subst hk;exact⟨0,by simp[iw,pJ,sG]⟩
  .rename_i hk;have hb:(s == k)=false:=by simpa using hk
   obtain⟨j,hj⟩:=HY h;exact⟨j+1,by
    simp only[iw,aN,pJ,sG,hb]at hj ⊢;rw[hj];rfl⟩
theorem acY{S:SK}{l i:Nat}{pre:List (List UInt8×Wd)}{k:List UInt8}{w:Wd}(h:cells? S l i 0=some (iw pre))(hn:B8 k pre=none)(hl:l+1=S.length):
  Aj S (.put none) [.kJ l i,.str k,.agg (Lr w)]=some (.undef,aR S l i (.cells 0 (iw (pre++[(k,w)])))):=by
 have h1:=Gt hn;simp only[Aj,Ai,h,aQ,h1];simp[sG,hl,iw]
theorem OT{S:SK}{l i:Nat}{s:List UInt8}(h:cells? S l i 0=some (iw sV)):
  Aj S (.get none (.agg [.bool false,.int .i64 0,.int .i64 0,.pR]) true) [.kJ l i,.str s] =
   some (match xS s with | some w => .dj [.agg (Lr w),.bool true] | none => .dj [.agg [.bool false,.int .i64 0,.int .i64 0,.pR],.bool false],S):=by
 simp only[Aj,Ai,h,aQ];cases hw:xS s with
 |none=>rw[Gt hw];simp[sG]
 |some w=>obtain⟨j,hj⟩:=HY hw;rw[hj];simp[sG]
theorem Bf{bs:List az.aI}:lim T (.call true 39 [] (bs::J))=some (.val (.kJ J.length bs.length) ((bs++[.cells 0 (iw sV)])::J)):=by
 refine vO E6 sd.eq_1 rfl ?_;have hm:Aj (bs::J) .make []=some (.kJ J.length bs.length,(bs++[.cells 0 []])::J):=by simp[Aj]
 have hp:∀(pre:List (List UInt8×Wd)) (k:List UInt8) (w:Wd),B8 k pre=none->Aj ((bs++[.cells 0 (iw pre)])::J) (.put none) [.kJ J.length bs.length,.str k,.agg (Lr w)]=some (.undef,(bs++[.cells 0 (iw (pre++[(k,w)]))])::J):=by
  intro pre k w hn;have h1:cells? ((bs++[.cells 0 (iw pre)])::J) J.length bs.length 0=some (iw pre):=by simp
  have h2:J.length+1=((bs++[az.aI.cells 0 (iw pre)])::J).length:=by simp
  have h3:=acY (w:=w) h1 hn h2;refine h3.trans ?_;simp
 have p:=λ(j:Nat) (hj:j<13)=>hp (sV.take j) ((sV[j]?).getD ([],⟨false,0,0,0⟩)).1 ((sV[j]?).getD ([],⟨false,0,0,0⟩)).2
 have p0:=p 0 (by omega) (by decide);have p1:=p 1 (by omega) (by decide);have p2:=p 2 (by omega) (by decide);have p3:=p 3 (by omega) (by decide);have p4:=p 4 (by omega) (by decide);have p5:=p 5 (by omega) (by decide);have p6:=p 6 (by omega) (by decide);have p7:=p 7 (by omega) (by decide);have p8:=p 8 (by omega) (by decide);have p9:=p 9 (by omega) (by decide);have p10:=p 10 (by omega) (by decide);have p11:=p 11 (by omega) (by decide);have p12:=p 12 (by omega) (by decide);simp[sV,iw,Lr,Ih]at p0 p1 p2 p3 p4 p5 p6 p7 p8 p9 p10 p11 p12;simp[-length_flatMap,-map_take,hm,p0,p1,p2,p3,p4,p5,p6,p7,p8,p9,p10,p11,p12,sV,iw,Lr,Ih]
@[simp] def dO(s:List UInt8):List D:=[.str s]
def NM(cs:List D)(name:List UInt8)(M:az.aI)(J:SK)(acc:List Int)(r:Option (List Int))(x:az.Exit)(e:Env)(J':SK):Prop:=match r with
 |some ns=>x=.exit 0/\get e 2=.own 0 cs/\get e 3=.str name/\get e 4=.sl J.length 0 (acc++ns).length 0 (acc++ns).length 1/\J'=[.cells (acc++ns).length ((acc++ns).flatMap aX),M]::J
 |none=>x=.eA (rf 4)/\∃bk,J'=bk::J
theorem FQ{all:List (List UInt8)}(hs:∀s∈all,s.length<=1000000)(hl:all.length<=1000001){cs:List D}{name:List UInt8}{M:az.aI}:∀(k i:Nat) (acc:List Int),i+k=all.length->acc.length=i ->
  WL T [2,3,4,35,36,37] false iN [(2,.own 0 cs),(3,.str name),(4,.sl J.length 0 i 0 i 1),(35,.aG all.length (all.flatMap dO)),(36,.int .i64 all.length),(37,.int .i64 i)]
   ([.cells i (acc.flatMap aX),M]::J) (NM cs name M J acc (xI (all.drop i)))
 |0,i,acc,hi,ha=>by
  refine aJ iN.eq_1 ?_;obtain rfl:i=all.length:=by omega
  have h5:all.drop all.length=[]:=aA (by omega);simp[-length_flatMap,-map_take,h5,xI,NM,ha]
 |k+1,i,acc,hi,ha=>by
  refine aJ iN.eq_1 ?_;have hlt:i<all.length:=by omega
  have hii:(i:Int)<i+1:=by omega
  obtain⟨s,hx⟩:=gE hlt;have h4:=eT hlt;have h5:=drop_at hx;have a1:=cf (f:=dO) (w:=1) (λ_=>rfl) hx;simp only[dO,gp]at a1;have hsl:=hs s (ai hx);rw[h5];simp only[xI];have hr:(i+1)*8<=room:=by unfold room;omega
  cases hn:Pf s with
  |none =>
   simp[-length_flatMap,-map_take,hlt,a1,LA hsl hn,NM]
  |some n =>
   have hc:(acc.flatMap aX).length=i:=by simp[bZ (f:=aX) (w:=1) (λ_=>rfl),ha]
   have ht:(acc.flatMap aX).take i=acc.flatMap aX:=ah (by omega);simp[-length_flatMap,-map_take,hlt,a1,PZ hsl hn,hr,h4,hc,ht];refine WL.to (FQ (cs:=cs) (name:=name) (M:=M) hs hl k (i+1) (acc++[n]) (by omega) (by simp[ha])) (by simp) (by simp) λx e J' hh=>?_
   cases hm:xI (all.drop (i+1))with
   |none=>rw[hm]at hh;exact hh
   |some ns=>rw[hm]at hh;simpa[NM]using hh
theorem yO:∀{l:List (List UInt8)} {ns:List Int},xI l=some ns->ns.length=l.length
 |[],ns,h=>by simp only[xI,ad]at h;subst h;rfl
 |s::l,ns,h=>by
  simp only[xI]at h;split at h
  .rename_i n hn;simp only[ab]at h;obtain⟨m,h1,rfl⟩:=h;simp[yO h1]
  .cases h
theorem gb(w:Wd):Lr w=[.bool w.named,.int .i64 w.least,.int .i64 w.step,.fn ((Ih[w.k]?).getD 0) [] []]:=rfl
theorem FE(l:List (List UInt8)):l.map D.str=l.flatMap dO:=by induction l with | nil=>rfl | cons s l ih=>simp[ih]
theorem JW{s:List UInt8}(hl:s.length<=1000000){a:List UInt8}{all:List (List UInt8)}(h:fa 32 s=a::all)(hw:xS a=none):lim T (.call false 33 [.str s] J)=some (.eA (rf 4) J):=by
 refine di jW ed.eq_1 rfl ?_;have hW:=Bf (bs:=[.cells 0 []]) (J:=J);have hG:=OT (S:=[az.aI.cells 0 [],.cells 0 (iw sV)]::J) (l:=J.length) (i:=1) (s:=a) (by simp);rw[hw]at hG;simp[-length_flatMap,-map_take,Bc hl,h,hW,hG,cM,D.clean,rf]
def xJ(p:Wd×List UInt8×List Int):D:=.dj [.agg (Lr p.1),.str p.2.1,.aG p.2.2.length (p.2.2.flatMap aX)]
theorem Fy{a:List D}(ha:D.bx a=true){name:List UInt8}{v:Nat}{ns:List Int}{M:az.aI}(hJ:J≠[]):
  cn (J.length-1) 16 (.dj [.agg a,.str name,.sl J.length 0 v 0 ns.length 1]) ([.cells v (ns.flatMap aX),M]::J)=(.dj [.agg a,.str name,.aG ns.length (ns.flatMap aX)],[.dead,M]::J):=by
 have h3:¬J.length<=J.length-1:=by have:=aP.2 hJ;omega
 rw[Dl (by simp[D.bx,D.clean]) (by omega)];have h4:=jX (l:=J.length-1) (n:=15) (d:=.agg a) (J:=[az.aI.cells v (ns.flatMap aX),M]::J) (by simp[D.clean,ha]) (by omega);have h5:=jX (l:=J.length-1) (n:=15) (d:=.str name) (J:=[az.aI.cells v (ns.flatMap aX),M]::J) (by simp[D.clean]) (by omega);have h6:=AL (l:=J.length-1) (n:=15) (l':=J.length) (i:=0) (v:=v) (off:=0) (m:=ns.length) (w:=1) (J:=[az.aI.cells v (ns.flatMap aX),M]::J) (cs:=ns.flatMap aX) h3 (by simp) (by omega);have ht:(ns.flatMap aX).take ns.length=ns.flatMap aX:=by have:=GA (f:=aX) (w:=1) (λ_=>rfl) ns;rwa[gp]at this
 simp only[Nat.reduceSub,cn.frzL,h4,h5,h6];simp[ht,eS (f:=aX) (λ_=>by simp[D.clean]) ns]
theorem Oj{s:List UInt8}(hl:s.length<=1000000){a:List UInt8}{all:List (List UInt8)}(h:fa 32 s=a::all)(hs:∀x∈all,x.length<=1000000)(hl2:all.length<=1000001){w:Wd}(hw:xS a=some w)(hn:w.named=false)(hJ:J≠[]){p:Wd×List UInt8×List Int}(hp:vu w [] all=some p):
  lim T (.call false 33 [.str s] J)=some (.val (xJ p) J):=by
 refine au jW ed.eq_1 rfl ?_;have hW:=Bf (bs:=[.cells 0 []]) (J:=J);have hG:=OT (S:=[az.aI.cells 0 [],.cells 0 (iw sV)]::J) (l:=J.length) (i:=1) (s:=a) (by simp);rw[hw]at hG;obtain⟨w1,w2,w3,w4,w5⟩:=DP hw;have hL:=FQ (J:=J) (cs:=Lr w) (name:=[]) (M:=.cells 0 (iw sV)) hs hl2 all.length 0 [] (by omega) rfl;unfold vu at hp;cases hm:xI all with
 |none=>rw[hm]at hp;cases hp
 |some ns =>
 rw[hm]at hp;simp only[aC,ad]at hp;obtain⟨hf,rfl⟩:=hp;have hlen:=yO hm;simp only[Gu,bW,ae,ao]at hf;have e1:IntKind.i64.wrap ((ns.length:Int)-w.least)=ns.length-w.least:=eF;rw[aK,hm]at hL;have q1:(1:Int)<=(all.length:Int)+1:=by omega
 have q2:(all.flatMap dO).take all.length=all.flatMap dO:=ah (by rw[bZ (f:=dO) (w:=1) (λ_=>rfl)];omega);simp[-length_flatMap,-map_take,Bc hl,h,hW,hG,cg,gb,hn,FE,q1,q2];refine WL.to hL (by simp[gb,hn]) (by simp) ?_;rintro x e J' ⟨rfl,g2,g3,g4,rfl⟩;have hz:D.bx (Lr w)=true:=by simp[Lr,D.clean]
 rcases hf with c1 | ⟨c1,c2,c3⟩
 .simp[-length_flatMap,-map_take,g2,g3,g4,gb,e1,c1,cg,xJ];exact⟨_,Fy (by simp[D.clean]) hJ⟩
 .have c0:¬(ns.length:Int)-w.least=0:=by omega
  have c4:¬w.step=0:=by omega
  have c5:w.least<(ns.length:Int):=by omega
  simp[-length_flatMap,-map_take,g2,g3,g4,gb,e1,c0,c5,c2,c3,c4,cg,xJ];exact⟨_,Fy (by simp[D.clean]) hJ⟩
theorem JU{s:List UInt8}(hl:s.length<=1000000){a:List UInt8}{all:List (List UInt8)}(h:fa 32 s=a::all)(hs:∀x∈all,x.length<=1000000)(hl2:all.length<=1000001){w:Wd}(hw:xS a=some w)(hn:w.named=false)(hp:vu w [] all=none):
  lim T (.call false 33 [.str s] J)=some (.eA (rf 4) J):=by
 refine di jW ed.eq_1 rfl ?_;have hW:=Bf (bs:=[.cells 0 []]) (J:=J);have hG:=OT (S:=[az.aI.cells 0 [],.cells 0 (iw sV)]::J) (l:=J.length) (i:=1) (s:=a) (by simp);rw[hw]at hG;obtain⟨w1,w2,w3,w4,w5⟩:=DP hw;have hL:=FQ (J:=J) (cs:=Lr w) (name:=[]) (M:=.cells 0 (iw sV)) hs hl2 all.length 0 [] (by omega) rfl;have q1:(1:Int)<=(all.length:Int)+1:=by omega
 have q2:(all.flatMap dO).take all.length=all.flatMap dO:=ah (by rw[bZ (f:=dO) (w:=1) (λ_=>rfl)];omega);rw[aK]at hL;simp[-length_flatMap,-map_take,Bc hl,h,hW,hG,cg,gb,hn,FE,q1,q2];refine WL.to hL (by simp[gb,hn]) (by simp) ?_;unfold vu at hp;cases hm:xI all with
 |none =>
  rintro x e J' ⟨rfl,bk,rfl⟩;simp[D.clean,rf]
 |some ns =>
 rw[hm]at hp;simp only[ite_eq_right_iff,reduceCtorEq,imp_false]at hp;rintro x e J' ⟨rfl,g2,g3,g4,rfl⟩;have hlen:=yO hm;have e1:IntKind.i64.wrap ((ns.length:Int)-w.least)=ns.length-w.least:=eF;simp only[Gu,bW,ae,ao]at hp;have c0:¬(ns.length:Int)-w.least=0:=λhh=>hp (.inl hh)
 by_cases c1:w.least<(ns.length:Int)
 .by_cases c2:0<w.step
  .have c3:¬((ns.length:Int)-w.least).tmod w.step=0:=λhh=>hp (.inr ⟨by omega,c2,hh⟩)
   have c4:¬w.step=0:=by omega
   have c3':(((ns.length:Int)-w.least).tmod w.step == 0)=false:=by simpa using c3
   have c0':((ns.length:Int)-w.least == 0)=false:=by simpa using c0
   simp[-length_flatMap,-map_take,g2,g3,g4,gb,e1,c0',c1,c2,c3',c4,cM,D.clean,rf]
  .simp[-length_flatMap,-map_take,g2,g3,g4,gb,e1,c0,c1,c2,cM,D.clean,rf]
 .simp[-length_flatMap,-map_take,g2,g3,g4,gb,e1,c0,c1,cM,D.clean,rf]
theorem LB{s:List UInt8}(hl:s.length<=1000000){a:List UInt8}(h:fa 32 s=[a]){w:Wd}(hw:xS a=some w)(hn:w.named=true):
  lim T (.call false 33 [.str s] J)=some (.eA (rf 4) J):=by
 refine di jW ed.eq_1 rfl ?_;have hW:=Bf (bs:=[.cells 0 []]) (J:=J);have hG:=OT (S:=[az.aI.cells 0 [],.cells 0 (iw sV)]::J) (l:=J.length) (i:=1) (s:=a) (by simp);rw[hw]at hG;obtain⟨w1,w2,w3,w4,w5⟩:=DP hw;simp[-length_flatMap,-map_take,Bc hl,h,hW,hG,cg,cM,gb,hn,D.clean,rf]
theorem Ol{s:List UInt8}(hl:s.length<=1000000){a n:List UInt8}{r:List (List UInt8)}(h:fa 32 s=a::n::r)(hs:∀x∈r,x.length<=1000000)(hl2:r.length<=1000001){w:Wd}(hw:xS a=some w)(hn:w.named=true)(hJ:J≠[]){p:Wd×List UInt8×List Int}(hp:vu w n r=some p):
  lim T (.call false 33 [.str s] J)=some (.val (xJ p) J):=by
 refine au jW ed.eq_1 rfl ?_;have hW:=Bf (bs:=[.cells 0 []]) (J:=J);have hG:=OT (S:=[az.aI.cells 0 [],.cells 0 (iw sV)]::J) (l:=J.length) (i:=1) (s:=a) (by simp);rw[hw]at hG;obtain⟨w1,w2,w3,w4,w5⟩:=DP hw;have hL:=FQ (J:=J) (cs:=Lr w) (name:=n) (M:=.cells 0 (iw sV)) hs hl2 r.length 0 [] (by omega) rfl;have q1:(1:Int)<=(r.length:Int)+1:=by omega
 have q2:(r.flatMap dO).take r.length=r.flatMap dO:=ah (by rw[bZ (f:=dO) (w:=1) (λ_=>rfl)];omega);have q3:(1:Int)<=(r.length:Int)+1+1:=by omega
 have q4:(0:Int)<(r.length:Int)+1:=by omega
 have q6:(0:Int)<(r.length:Int)+1+1:=by omega
 have q5:(r.flatMap dO).take (r.length+1)=r.flatMap dO:=ah (by rw[bZ (f:=dO) (w:=1) (λ_=>rfl)];omega);unfold vu at hp;cases hm:xI r with
 |none=>rw[hm]at hp;cases hp
 |some ns =>
 rw[hm]at hp;simp only[aC,ad]at hp;obtain⟨hf,rfl⟩:=hp;have hlen:=yO hm;simp only[Gu,bW,ae,ao]at hf;have e1:IntKind.i64.wrap ((ns.length:Int)-w.least)=ns.length-w.least:=eF;rw[aK,hm]at hL;simp[-length_flatMap,-map_take,Bc hl,h,hW,hG,cg,gb,hn,FE,q1,q2,q3,q4,q5,q6];refine WL.to hL (by simp[gb,hn]) (by simp) ?_;rintro x e J' ⟨rfl,g2,g3,g4,rfl⟩;rcases hf with c1 | ⟨c1,c2,c3⟩
 .simp[-length_flatMap,-map_take,g2,g3,g4,gb,e1,c1,cg,xJ];exact⟨_,Fy (by simp[D.clean]) hJ⟩
 .have c0:¬(ns.length:Int)-w.least=0:=by omega
  have c4:¬w.step=0:=by omega
  have c5:w.least<(ns.length:Int):=by omega
  simp[-length_flatMap,-map_take,g2,g3,g4,gb,e1,c0,c5,c2,c3,c4,cg,xJ];exact⟨_,Fy (by simp[D.clean]) hJ⟩
theorem JV{s:List UInt8}(hl:s.length<=1000000){a n:List UInt8}{r:List (List UInt8)}(h:fa 32 s=a::n::r)(hs:∀x∈r,x.length<=1000000)(hl2:r.length<=1000001){w:Wd}(hw:xS a=some w)(hn:w.named=true)(hp:vu w n r=none):
  lim T (.call false 33 [.str s] J)=some (.eA (rf 4) J):=by
 refine di jW ed.eq_1 rfl ?_;have hW:=Bf (bs:=[.cells 0 []]) (J:=J);have hG:=OT (S:=[az.aI.cells 0 [],.cells 0 (iw sV)]::J) (l:=J.length) (i:=1) (s:=a) (by simp);rw[hw]at hG;obtain⟨w1,w2,w3,w4,w5⟩:=DP hw;have hL:=FQ (J:=J) (cs:=Lr w) (name:=n) (M:=.cells 0 (iw sV)) hs hl2 r.length 0 [] (by omega) rfl;have q1:(1:Int)<=(r.length:Int)+1:=by omega
 have q2:(r.flatMap dO).take r.length=r.flatMap dO:=ah (by rw[bZ (f:=dO) (w:=1) (λ_=>rfl)];omega);have q3:(1:Int)<=(r.length:Int)+1+1:=by omega
 have q4:(0:Int)<(r.length:Int)+1:=by omega
 have q6:(0:Int)<(r.length:Int)+1+1:=by omega
 have q5:(r.flatMap dO).take (r.length+1)=r.flatMap dO:=ah (by rw[bZ (f:=dO) (w:=1) (λ_=>rfl)];omega);rw[aK]at hL;simp[-length_flatMap,-map_take,Bc hl,h,hW,hG,cg,gb,hn,FE,q1,q2,q3,q4,q5,q6];refine WL.to hL (by simp[gb,hn]) (by simp) ?_;unfold vu at hp;cases hm:xI r with
 |none =>
  rintro x e J' ⟨rfl,bk,rfl⟩;simp[D.clean,rf]
 |some ns =>
 rw[hm]at hp;simp only[ite_eq_right_iff,reduceCtorEq,imp_false]at hp;rintro x e J' ⟨rfl,g2,g3,g4,rfl⟩;have hlen:=yO hm;have e1:IntKind.i64.wrap ((ns.length:Int)-w.least)=ns.length-w.least:=eF;simp only[Gu,bW,ae,ao]at hp;have c0:¬(ns.length:Int)-w.least=0:=λhh=>hp (.inl hh)
 by_cases c1:w.least<(ns.length:Int)
 .by_cases c2:0<w.step
  .have c3:¬((ns.length:Int)-w.least).tmod w.step=0:=λhh=>hp (.inr ⟨by omega,c2,hh⟩)
   have c4:¬w.step=0:=by omega
   have c3':(((ns.length:Int)-w.least).tmod w.step == 0)=false:=by simpa using c3
   have c0':((ns.length:Int)-w.least == 0)=false:=by simpa using c0
   simp[-length_flatMap,-map_take,g2,g3,g4,gb,e1,c0',c1,c2,c3',c4,cM,D.clean,rf]
  .simp[-length_flatMap,-map_take,g2,g3,g4,gb,e1,c0,c1,c2,cM,D.clean,rf]
 .simp[-length_flatMap,-map_take,g2,g3,g4,gb,e1,c0,c1,cM,D.clean,rf]
theorem DJ(b:UInt8):∀(s:List UInt8),∀x∈fa b s,x.length<=s.length
 |[],x,hx=>by simp[fa]at hx;simp[hx]
 |c::r,x,hx=>by
  have ih:=DJ b r;simp only[fa]at hx;split at hx
  .rcases bw.1 hx with rfl | hx
   .simp
   .have:=ih x hx;simp;omega
  .split at hx
   .rename_i y l hyl;rcases bw.1 hx with rfl | hx
    .have:=ih y (by rw[hyl];simp);simp;omega
    .have:=ih x (by rw[hyl];simp[hx]);simp;omega
   .rename_i hyl;exact absurd hyl (BA b r)
theorem P4{s:List UInt8}(hl:s.length<=1000000)(hJ:J≠[]){p:Wd×List UInt8×List Int}(hp:parse s=some p):lim T (.call false 33 [.str s] J)=some (.val (xJ p) J):=by
 unfold parse at hp;have hlen:=zK 32 s;have hle:=DJ 32 s;cases h:fa 32 s with
 |nil=>exact absurd h (BA 32 s)
 |cons a all =>
 rw[h]at hp hlen hle;simp only[aF]at hlen;dsimp only at hp;cases hw:xS a with
 |none=>rw[hw]at hp;cases hp
 |some w =>
 rw[hw]at hp;dsimp only at hp;cases hn:w.named with
 |false =>
  rw[hn]at hp;exact Oj hl h (λx hx=>by have:=hle x (by simp[hx]);omega) (by omega) hw hn hJ (by simpa using hp)
 |true =>
  rw[hn]at hp;simp only[if_true]at hp;cases all with
  |nil=>cases hp
  |cons n r=>exact Ol hl h (λx hx=>by have:=hle x (by simp[hx]);omega) (by simp at hlen;omega) hw hn hJ hp
theorem LC{s:List UInt8}(hl:s.length<=1000000)(hp:parse s=none):lim T (.call false 33 [.str s] J)=some (.eA (rf 4) J):=by
 unfold parse at hp;have hlen:=zK 32 s;have hle:=DJ 32 s;cases h:fa 32 s with
 |nil=>exact absurd h (BA 32 s)
 |cons a all =>
 rw[h]at hp hlen hle;simp only[aF]at hlen;dsimp only at hp;cases hw:xS a with
 |none=>exact JW hl h hw
 |some w =>
 rw[hw]at hp;dsimp only at hp;cases hn:w.named with
 |false =>
  rw[hn]at hp;exact JU hl h (λx hx=>by have:=hle x (by simp[hx]);omega) (by omega) hw hn (by simpa using hp)
 |true =>
  rw[hn]at hp;simp only[if_true]at hp;cases all with
  |nil=>exact LB hl h hw hn
  |cons n r=>exact JV hl h (λx hx=>by have:=hle x (by simp[hx]);omega) (by simp at hlen;omega) hw hn hp
end Go.Proofs.YtklfdfnoebnciaaGreatDoor
namespace Go.bM
open List(length_flatMap map_take)
open Go Go.az
structure Pt where
 x:Int
 y:Int
 z:Int
 deriving DecidableEq
structure Rg where
 lo:Int
 hi:Int
 deriving DecidableEq
structure LM where
 p:Pt
 err:Int
structure Net where
 st:List LM
 s0:Rg
 s1:Rg
 low:Pt
 high:Pt
 step:Int
structure DS where
 st:Int
 ph:Int
 t:Rg
structure Plc where
 p:Pt
 o:Rg
 deriving DecidableEq
structure xT where
 U5:Int
 add:Int
structure FV where
 levels:List Int
 rows:List xT
structure y7 where
 st:Int
 amt:Int
structure Zh where
 fst:Int
 thn:Int
structure SP where
 num:Int
 den:Int
 a:Int
 b:Int
 W6:Int
@[simp] theorem Pt.eta(p:Pt):Pt.mk p.x p.y p.z=p:=rfl
@[simp] theorem Rg.eta(p:Rg):Rg.mk p.lo p.hi=p:=rfl
@[simp] theorem LM.eta(p:LM):LM.mk p.p p.err=p:=rfl
@[simp] theorem Net.eta(p:Net):Net.mk p.st p.s0 p.s1 p.low p.high p.step=p:=rfl
@[simp] theorem DS.eta(p:DS):DS.mk p.st p.ph p.t=p:=rfl
@[simp] theorem FV.eta(p:FV):FV.mk p.levels p.rows=p:=rfl
@[simp] theorem y7.eta(p:y7):y7.mk p.st p.amt=p:=rfl
@[simp] theorem xT.eta(p:xT):xT.mk p.U5 p.add=p:=rfl
@[simp] theorem SP.eta(p:SP):SP.mk p.num p.den p.a p.b p.W6=p:=rfl
@[simp] def Pt.enc(p:Pt):List D:=[.int .i64 p.x,.int .i64 p.y,.int .i64 p.z]
@[simp] def Rg.enc(r:Rg):List D:=[.int .i64 r.lo,.int .i64 r.hi]
@[simp] def LM.enc(s:LM):List D:=[.int .i64 s.p.x,.int .i64 s.p.y,.int .i64 s.p.z,.int .i64 s.err]
@[simp] def DS.enc(p:DS):List D:=[.int .i64 p.st,.int .u8 p.ph,.int .i64 p.t.lo,.int .i64 p.t.hi]
@[simp] def Plc.enc(p:Plc):List D:=[.int .i64 p.p.x,.int .i64 p.p.y,.int .i64 p.p.z,.int .i64 p.o.lo,.int .i64 p.o.hi]
@[simp] def xT.enc(p:xT):List D:=[.int .i64 p.U5,.int .i64 p.add]
@[simp] def y7.enc(p:y7):List D:=[.int .i64 p.st,.int .i64 p.amt]
@[simp] def Zh.enc(p:Zh):List D:=[.int .i64 p.fst,.int .i64 p.thn]
@[simp] def SP.enc(b:SP):List D:=[.int .i64 b.num,.int .i64 b.den,.int .i64 b.a,.int .i64 b.b,.int .i64 b.W6]
@[simp] def aX(n:Int):List D:=[.int .i64 n]
@[simp] def sY(n:Bool):List D:=[.bool n]
@[simp] def Net.enc(n:Net):List D:=[.aG n.st.length (n.st.flatMap LM.enc),.int .i64 n.s0.lo,.int .i64 n.s0.hi,.int .i64 n.s1.lo,.int .i64 n.s1.hi,
 .int .i64 n.low.x,.int .i64 n.low.y,.int .i64 n.low.z,.int .i64 n.high.x,.int .i64 n.high.y,.int .i64 n.high.z,.int .i64 n.step]
@[simp] def FV.enc(s:FV):List D:=[.aG s.levels.length (s.levels.flatMap aX),.aG s.rows.length (s.rows.flatMap xT.enc)]
def bT(n lo hi:Int):Bool:=decide (lo<=n) && decide (n<=hi)
theorem aU{n lo hi:Int}:bT n lo hi=true↔lo<=n/\n<=hi:=by simp[bT]
def Pt.ok(p:Pt):Bool:=bT p.x (-20000) 20000 && (bT p.y (-20000) 20000 && bT p.z (-20000) 20000)
def AA(a b:Pt):Bool:=a.ok && (b.ok && (decide (a.x<=b.x) && (decide (a.y<=b.y) && decide (a.z<=b.z))))
def LM.ok(s:LM):Bool:=s.p.ok && bT s.err 0 1000
def Rg.bT(r:Rg)(lo hi:Int):Bool:=decide (lo<=r.lo) && (decide (r.lo<=r.hi) && decide (r.hi<=hi))
def steps(n:Net)(lo hi:Int):Int:=(hi-lo).tdiv n.step+1
def Net.pre(n:Net):Bool:=bM.bT n.st.length 1 12 && (fk n.st LM.ok && (AA n.low n.high && (bM.bT n.step 1 20000 && (n.s0.bT 1 2000 && n.s1.bT 1 2000))))
def Net.count(n:Net):Int:=steps n n.low.x n.high.x*steps n n.low.y n.high.y*steps n n.low.z n.high.z
def Net.ok(n:Net):Bool:=n.pre && decide (n.count<=2000)
theorem Pt.Jj{p:Pt}:p.ok=true↔(-20000<=p.x/\p.x<=20000)/\(-20000<=p.y/\p.y<=20000)/\(-20000<=p.z/\p.z<=20000):=by
 simp only[Pt.ok,ae,aU]
def bsr:Nat->Int->Int->Int->Int
 |0,_,lo,_=>lo
 |f+1,n,lo,hi=>if lo<hi then(if((lo+hi+1) / 2)*((lo+hi+1) / 2)<=n then bsr f n ((lo+hi+1) / 2) hi else bsr f n lo ((lo+hi+1) / 2-1))else lo
def sq(p q:Pt):Int:=(p.x-q.x)*(p.x-q.x)+(p.y-q.y)*(p.y-q.y)+(p.z-q.z)*(p.z-q.z)
def ZC(p q:Pt):Int:=bsr 17 (sq p q) 0 70000
def prog(lo hi st:Int):List Int:=(List.range ((hi-lo) / st+1).toNat).map λ(i:Nat)=>lo+i*st
def zs(n:Net)(x y:Int)(z:Int):List Pt:=(prog z n.high.z n.step).map λz=>⟨x,y,z⟩
def ys(n:Net)(x:Int)(y:Int):List Pt:=(prog y n.high.y n.step).flatMap λy=>zs n x y n.low.z
def xs(n:Net)(x:Int):List Pt:=(prog x n.high.x n.step).flatMap λx=>ys n x n.low.y
def TX(n:Net):List Pt:=xs n n.low.x
def Net.SN(n:Net)(i:Int):LM:=n.st.getD i.toNat ⟨⟨0,0,0⟩,0⟩
def Net.MC(n:Net)(ph:Int):Rg:=if ph=0 then n.s0 else n.s1
def SC(n:Net)(i ph:Int)(p:Pt):Rg:=⟨(n.MC ph).lo*ZC (n.SN i).p p / 1000,((n.MC ph).hi*(ZC (n.SN i).p p+1)+999) / 1000⟩
def DS.ok(n:Net)(p:DS):Bool:=bM.bT p.st 0 (n.st.length-1) && (decide (p.ph<2) && p.t.bT (-100000000) 100000000)
def span(n:Net)(p:DS)(q:Pt):Rg:=⟨p.t.lo-(n.SN p.st).err-(SC n p.st p.ph q).hi,p.t.hi+(n.SN p.st).err-(SC n p.st p.ph q).lo⟩
def meet(a b:Rg):Rg:=⟨max a.lo b.lo,min a.hi b.hi⟩
def common:List Rg->Rg
 |[]=>⟨0,0⟩
 |r::l=>l.foldl meet r
def Rg.ne(r:Rg):Bool:=decide (r.lo<=r.hi)
end Go.bM
namespace Go.Proofs.YtklfdfnoebnciaaGreatDoor
open List(length_flatMap map_take)
open Go Go.az Go.bM
variable {J:SK}
theorem ck{a b c:Int}:lim T (.call false 113 [.int .i64 a,.int .i64 b,.int .i64 c] J)=some (.val (.bool (bT a b c)) J):=by
 refine au Fe sk.eq_1 rfl ?_;by_cases h:b<=a<;>simp[-length_flatMap,-map_take,h,bT]
theorem Zd{a:Int}:lim T (.call false 219 [.int .i64 a] J)=some (.val (.bool (bT a (-20000) 20000)) J):=by
 refine au zf jM.eq_1 rfl ?_;simp[-length_flatMap,-map_take,ck]
theorem Oe{l:List Int}(hl:l.length<=9223372036854775807){fv:D}{p:Int->Bool}(ht:oP T fv (.int .i64) p l)(hc:fv.cells=some [fv]):
  lim T (.call false 118 [.aG l.length (l.flatMap aX),fv] J)=some (.val (.bool (fk l p)) J) :=
 zg (I5 .i64) D3 Cy wZ zd hl ht hc
theorem wi{x y z:Int}:lim T (.call false 179 [.agg [.int .i64 x,.int .i64 y,.int .i64 z]] J)=some (.val (.bool (Pt.ok ⟨x,y,z⟩)) J):=by
 refine au Ay lE.eq_1 rfl ?_;have h:∀J,lim T (.call false 118 [.aG 3 [.int .i64 x,.int .i64 y,.int .i64 z],.fn 219 [] []] J)=some (.val (.bool (Pt.ok ⟨x,y,z⟩)) J):=λJ=>by
  have:=Oe (J:=J) (l:=[x,y,z]) (by simp) (fv:=.fn 219 [] []) (p:=λa=>bT a (-20000) 20000) (.fn λa _ J=>Zd) rfl;simpa[Pt.ok,Bool.and_assoc,fk]using this
 simp[-length_flatMap,-map_take,h]
theorem HH{x y z a b c:Int}:lim T (.call false 175 [.agg [.int .i64 x,.int .i64 y,.int .i64 z],.agg [.int .i64 a,.int .i64 b,.int .i64 c]] J)=some (.val (.bool (AA ⟨x,y,z⟩ ⟨a,b,c⟩)) J):=by
 refine au IT vU.eq_1 rfl ?_;cases hc1:Pt.ok ⟨x,y,z⟩
 .simp[-length_flatMap,-map_take,wi,AA,hc1]
 cases hc2:Pt.ok ⟨a,b,c⟩
 .simp[-length_flatMap,-map_take,wi,AA,hc1,hc2]
 by_cases hc3:x<=a
 rotate_left
 .simp[-length_flatMap,-map_take,wi,AA,hc1,hc2,hc3]
 by_cases hc4:y<=b
 rotate_left
 .simp[-length_flatMap,-map_take,wi,AA,hc1,hc2,hc3,hc4]
 simp[-length_flatMap,-map_take,wi,AA,hc1,hc2,hc3,hc4]
theorem T8{n:Net}:n.pre=true↔(1<=(n.st.length:Int)/\(n.st.length:Int)<=12)/\fk n.st LM.ok=true/\(n.low.ok=true/\n.high.ok=true/\n.low.x<=n.high.x/\n.low.y<=n.high.y/\n.low.z<=n.high.z) /\
  (1<=n.step/\n.step<=20000)/\(1<=n.s0.lo/\n.s0.lo<=n.s0.hi/\n.s0.hi<=2000)/\(1<=n.s1.lo/\n.s1.lo<=n.s1.hi/\n.s1.hi<=2000):=by
 simp only[Net.pre,ae,aU,AA,Rg.bT,ao]
structure Zf(n:Net)(i ph:Int):Prop where
 i0:0<=i
 i1:i<n.st.length
 hph:ph=0\/ph=1
 p:(n.SN i).p.ok=true
 e:0<=(n.SN i).err/\(n.SN i).err<=1000
 s:1<=(n.MC ph).lo/\(n.MC ph).lo<=(n.MC ph).hi/\(n.MC ph).hi<=2000
 cells:((n.st.flatMap LM.enc).drop (i.toNat*4)).take 4=(n.SN i).enc
theorem RI{n:Net}(h:n.ok=true){i ph:Int}(hi:bT i 0 (n.st.length-1)=true)(hp:0<=ph)(hp':ph<2):Zf n i ph:=by
 simp only[Net.ok,ae]at h;have h0:=T8.1 h.1;rw[aU]at hi;have h1:i.toNat<n.st.length:=by omega
 have h2:n.st[i.toNat]?=some (n.SN i):=by
  simp[Net.SN,List.getD,aL h1]
 have h3:=iI.1 h0.2.1 _ (ai h2);simp only[LM.ok,ae,aU]at h3;refine⟨by omega,by omega,by omega,h3.1,h3.2,?_,cf (f:=LM.enc) (w:=4) (λ_=>rfl) h2⟩;unfold Net.MC;split<;>omega
structure Hd(n:Net)(l:List DS):Prop where
 ok:n.ok=true
 len:l.length<=60
 all:∀p∈l,DS.ok n p=true/\0<=p.ph
theorem Hd.adF{n:Net}{l:List DS}(h:Hd n l){p:DS}(hp:p∈l):Zf n p.st p.ph:=by
 have h1:=h.all p hp;simp only[DS.ok,ae,ao]at h1;exact RI h.ok h1.1.1 h1.2 h1.1.2.1
end Go.Proofs.YtklfdfnoebnciaaGreatDoor
namespace Go.bM
open List(length_flatMap map_take)
open Go Go.az
theorem Dv{α β:Type}{f:α->List β}{c:Nat}{l:List α}(h:∀x∈l,(f x).length=c):(l.flatMap f).length=l.length*c:=by
 induction l with
 |nil=>simp
 |cons a l ih =>
  rw[aT,bJ,h a (by simp),ih λx hx=>h x (by simp[hx]),aF,dH];omega
end Go.bM
namespace Go.Proofs.YtklfdfnoebnciaaGreatDoor
open List(length_flatMap map_take)
open Go Go.az Go.bM
variable {J:SK}
structure Bx(n:Net):Prop where
 st:1<=n.step/\n.step<=20000
 lx : -20000<=n.low.x/\n.low.x<=20000
 ly : -20000<=n.low.y/\n.low.y<=20000
 lz : -20000<=n.low.z/\n.low.z<=20000
 hx:n.low.x<=n.high.x/\n.high.x<=20000
 hy:n.low.y<=n.high.y/\n.high.y<=20000
 hz:n.low.z<=n.high.z/\n.high.z<=20000
 len:(TX n).length<=2000
end Go.Proofs.YtklfdfnoebnciaaGreatDoor
namespace Go.bM
open List(length_flatMap map_take)
open Go Go.az
def aar(l:List Int)(i:Nat):Bool:=decide (i=0) || decide (l.getD (i-1) 0<l.getD i 0)
def aas(l:List Int):Bool:=fk (List.range' 0 l.length) (aar l)
def xT.ok(r:xT):Bool:=bT r.U5 0 20000 && bT r.add 0 100
def FV.ok(s:FV):Bool:=bT s.levels.length 1 60 && (fk s.levels (λn=>bT n 1 1000000000) && (aas s.levels && (bT s.rows.length 1 20 && (decide ((s.rows.getD 0 ⟨0,0⟩).U5=0) && (fk s.rows xT.ok && aas (s.rows.map (·.U5)))))))
def lvl(l:List Int)(a:Int):Nat:=(l.takeWhile λx=>decide (x<=a)).length
def y7.ok(n:Net)(r:y7):Bool:=bT r.st 0 (n.st.length-1) && bT r.amt 0 1000000000
end Go.bM
namespace Go.Proofs.YtklfdfnoebnciaaGreatDoor
open List(length_flatMap map_take)
open Go Go.az Go.bM
variable {J:SK}
end Go.Proofs.YtklfdfnoebnciaaGreatDoor
namespace Go.bM
open List(length_flatMap map_take)
open Go Go.az
def SP.ok(b:SP):Bool:=bT b.den 2 1000 && (bT b.num 1 (b.den-1) && (bT b.b 1 1000 && (bT b.a 0 b.b && bT b.W6 2 1000)))
def next(b:SP)(c:Int)(hit:Bool):Int:=if hit then min (c*(b.b*b.num+b.a*(b.den-b.num)) / (b.b*b.num)) 1000000000000 else c*(b.b-b.a) / b.b
structure adC(b:SP)(c:Int):Prop where
 w1:IntKind.i64.wrap (b.b*b.num)=b.b*b.num
 w2:IntKind.i64.wrap (b.den-b.num)=b.den-b.num
 w3:IntKind.i64.wrap (b.a*(b.den-b.num))=b.a*(b.den-b.num)
 w4:IntKind.i64.wrap (b.b*b.num+b.a*(b.den-b.num))=b.b*b.num+b.a*(b.den-b.num)
 w5:IntKind.i64.wrap (c*(b.b*b.num+b.a*(b.den-b.num)))=c*(b.b*b.num+b.a*(b.den-b.num))
 w6:IntKind.i64.wrap ((c*(b.b*b.num+b.a*(b.den-b.num))).tdiv (b.b*b.num))=c*(b.b*b.num+b.a*(b.den-b.num)) / (b.b*b.num)
 w7:b.b*b.num≠0
 w8:IntKind.i64.wrap (b.b-b.a)=b.b-b.a
 w9:IntKind.i64.wrap (c*(b.b-b.a))=c*(b.b-b.a)
 w10:IntKind.i64.wrap ((c*(b.b-b.a)).tdiv b.b)=c*(b.b-b.a) / b.b
 w11:b.b≠0
 w12:∀h,0<=next b c h/\next b c h<=1000000000000
 w13:min (c*(b.b-b.a) / b.b) 1000000000000=c*(b.b-b.a) / b.b
def pQ(k0 k1 k2:Int):Bool:=decide (k0<=1000) && (decide (k1<=k0) && (decide (k2<=k1) && decide (0<=k2)))
def QB(n:Int):Bool:=bT n 0 1000000000
end Go.bM
namespace Go.Proofs.YtklfdfnoebnciaaGreatDoor
open List(length_flatMap map_take)
open Go Go.az Go.bM
variable {J:SK}
theorem FI{a:Int}:lim T (.call false 117 [.int .i64 a] J)=some (.val (.bool (QB a)) J):=by
 refine au C9 o9.eq_1 rfl ?_;simp[-length_flatMap,-map_take,ck,QB]
structure adD(p k:Int):Prop where
 w1:IntKind.i64.wrap (p*k)=p*k
 w2:IntKind.i64.wrap ((p*k).tdiv 1000)=p*k / 1000
 w3:0<=p*k / 1000
 w4:p*k / 1000<=1000000000
end Go.Proofs.YtklfdfnoebnciaaGreatDoor
namespace Go.bM
open List(length_flatMap map_take)
open Go Go.az
structure we where
 p:Pt
 Z2:Int
structure Ev where
 tick:Int
 sp:List we
structure dA where
 lo:Pt
 hi:Pt
 least:Int
 yV:Int
 count:Int
 OF:Int
@[simp] theorem we.eta(p:we):we.mk p.p p.Z2=p:=rfl
@[simp] theorem Ev.eta(p:Ev):Ev.mk p.tick p.sp=p:=rfl
@[simp] theorem dA.eta(p:dA):dA.mk p.lo p.hi p.least p.yV p.count p.OF=p:=rfl
@[simp] def we.enc(s:we):List D:=[.int .i64 s.p.x,.int .i64 s.p.y,.int .i64 s.p.z,.int .i64 s.Z2]
@[simp] def Ev.enc(e:Ev):List D:=[.int .i64 e.tick,.aG e.sp.length (e.sp.flatMap we.enc)]
@[simp] def dA.enc(r:dA):List D:=[.int .i64 r.lo.x,.int .i64 r.lo.y,.int .i64 r.lo.z,.int .i64 r.hi.x,.int .i64 r.hi.y,.int .i64 r.hi.z,.int .i64 r.least,.int .i64 r.yV,.int .i64 r.count,.int .u8 r.OF]
def LZ:Tq we:=wE 4 we.enc λ_=>rfl
def ZE:Tq Ev:=wE 2 Ev.enc λ_=>rfl
def TH:Tq dA:=wE 10 dA.enc λ_=>rfl
def dA.OE(r:dA)(s:we):Bool:=decide (r.least<=s.Z2) && (bT s.p.x r.lo.x r.hi.x && (bT s.p.y r.lo.y r.hi.y && bT s.p.z r.lo.z r.hi.z))
def dA.ok(r:dA):Bool:=AA r.lo r.hi && (bT r.least 0 160 && (bT r.yV 1 1000000 && (bT r.count 1 200 && (r.OF == 1 || r.OF == 2))))
def we.ok(s:we):Bool:=s.p.ok && bT s.Z2 0 160
def Ev.ok(e:Ev):Bool:=bT e.tick 0 1000000 && (bT e.sp.length 1 2000 && fk e.sp we.ok)
def dA.act(r:dA)(now:Int)(e:Ev):Bool:=decide (now-r.yV<e.tick) && decide (e.tick<=now)
def Fg(f:Ev->Bool):List Ev->Nat
 |[]=>0
 |e::l=>Fg f l+(if f e then 1 else 0)
def yU(r:dA)(now:Int)(e:Ev):Bool:=r.act now e && sB e.sp r.OE
def tc(r:dA)(now:Int)(e:Ev):Bool:=r.act now e && fk e.sp r.OE
def yn(f:dA->Ev->Bool)(l:List Ev):List dA->Int->Int
 |[],a=>a
 |r::R,a=>yn f l R (if r.count<=Fg (f r) l then max a r.OF else a)
def Rt(R:List dA)(l:List Ev)(now:Int):Int:=yn (λr=>yU r now) l R 0
def Sw(R:List dA)(l:List Ev)(now:Int):Int:=yn (λr=>tc r now) l R 0
def oC(R:List dA)(l:List Ev)(now:Int):Int :=
 if 20<R.length then 3 else if fk R dA.ok=false then 1 else if 200<l.length then 3 else if fk l Ev.ok=false then 1 else if bT now 0 1000000=false then 2 else 0
theorem GS{r:dA}:r.ok=true↔AA r.lo r.hi=true/\(0<=r.least/\r.least<=160)/\(1<=r.yV/\r.yV<=1000000)/\(1<=r.count/\r.count<=200)/\(r.OF=1\/r.OF=2):=by
 simp only[dA.ok,ae,aU,bW,beq_iff_eq]
end Go.bM
namespace Go.Proofs.YtklfdfnoebnciaaGreatDoor
open List(length_flatMap map_take)
open Go Go.az Go.bM
variable {J:SK}
theorem JS{r:dA}{s:we}:lim T (.call false 114 [.agg r.enc,.agg s.enc] J)=some (.val (.bool (r.OE s)) J):=by
 refine au Az lF.eq_1 rfl ?_;by_cases hc1:r.least<=s.Z2
 rotate_left
 .simp[-length_flatMap,-map_take,ck,dA.OE,hc1]
 cases hc2:bT s.p.x r.lo.x r.hi.x
 .simp[-length_flatMap,-map_take,ck,dA.OE,hc1,hc2]
 cases hc3:bT s.p.y r.lo.y r.hi.y
 .simp[-length_flatMap,-map_take,ck,dA.OE,hc1,hc2,hc3]
 simp[-length_flatMap,-map_take,ck,dA.OE,hc1,hc2,hc3]
theorem JY{r:dA}:lim T (.call false 110 [.agg r.enc] J)=some (.val (.bool r.ok) J):=by
 refine au BR mr.eq_1 rfl ?_;cases hc1:AA r.lo r.hi
 .simp[-length_flatMap,-map_take,ck,HH,dA.ok,hc1]
 cases hc2:bT r.least 0 160
 .simp[-length_flatMap,-map_take,ck,HH,dA.ok,hc1,hc2]
 cases hc3:bT r.yV 1 1000000
 .simp[-length_flatMap,-map_take,ck,HH,dA.ok,hc1,hc2,hc3]
 cases hc4:bT r.count 1 200
 .simp[-length_flatMap,-map_take,ck,HH,dA.ok,hc1,hc2,hc3,hc4]
 by_cases hc5:r.OF=1
 rotate_left
 .simp[-length_flatMap,-map_take,ck,HH,dA.ok,hc1,hc2,hc3,hc4,hc5]
 simp[-length_flatMap,-map_take,ck,HH,dA.ok,hc1,hc2,hc3,hc4,hc5]
theorem Y7{s:we}:lim T (.call false 178 [.agg s.enc] J)=some (.val (.bool s.ok) J):=by
 refine au ze jL.eq_1 rfl ?_;cases hc1:Pt.ok s.p
 .simp[-length_flatMap,-map_take,ck,wi,we.ok,hc1]
 simp[-length_flatMap,-map_take,ck,wi,we.ok,hc1]
theorem HF{l:List we}{p:we->Bool}{fv:D}(ht:oP T fv LZ.val p l)(hc:fv.cells=some [fv])(hl:l.length<=9223372036854775807):
  lim T (.call false 116 [.aG l.length (l.flatMap we.enc),fv] J)=some (.val (.bool (fk l p)) J) :=
 zg LZ yb wA kL mI hl ht hc
theorem JT{e:Ev}(hl:e.sp.length<=9223372036854775807):lim T (.call false 112 [.agg e.enc] J)=some (.val (.bool e.ok) J):=by
 refine au Ax lD.eq_1 rfl ?_;have ha:=λJ=>@HF J e.sp we.ok (.fn 178 [] []) (.fn λs _ J=>Y7) rfl hl
 cases hc1:bT e.tick 0 1000000
 .simp[-length_flatMap,-map_take,ck,ha,Ev.ok,hc1]
 cases hc2:bT e.sp.length 1 2000
 .simp[-length_flatMap,-map_take,ck,ha,Ev.ok,hc1,hc2]
 simp[-length_flatMap,-map_take,ck,ha,Ev.ok,hc1,hc2]
theorem Lv{R:List dA}(hl:R.length<=9223372036854775807):
  lim T (.call false 109 [.aG R.length (R.flatMap dA.enc),.fn 110 [] []] J)=some (.val (.bool (fk R dA.ok)) J) :=
 zg TH ya wz sX ug hl (.fn λr _ J=>JY) rfl
theorem PL{l:List Ev}(hl:l.length<=9223372036854775807)(hs:∀e∈l,e.sp.length<=9223372036854775807):
  lim T (.call false 111 [.aG l.length (l.flatMap Ev.enc),.fn 112 [] []] J)=some (.val (.bool (fk l Ev.ok)) J) :=
 zg ZE xa vM sA tX hl (.fn λr hr J=>JT (hs r hr)) rfl
end Go.Proofs.YtklfdfnoebnciaaGreatDoor
namespace Go.gJ
open List(length_flatMap map_take)
open Go Go.az Go.aD
structure kW where
 m:cq
 left:Bool
 Yj:Int
structure LO where
 line:Int
 value:Int
 lo:Int
 hi:Int
structure Prt where
 width:Int
 vq:Int
structure yc where
 Dr:Int
 parts:List Prt
structure G5 where
 tick:Int
 ac8:Int
 VG:Int
 VF:Int
 mlo:Int
 mhi:Int
structure Bk where
 bH:b9
 an:List kW
 av:List (List Int)
 rules:List bM.dA
 yX:List bM.Ev
 k0:Int
 k1:Int
 k2:Int
 dc:List yc
 cm:List G5
 ready:Bool
 n9:List LO
 at_:Int
@[simp] def kW.enc(e:kW):List D:=[.str e.m.name,.aG e.m.bg.length (e.m.bg.flatMap aX),.bool e.left,.int .i64 e.Yj]
@[simp] def LO.enc(e:LO):List D:=[.int .i64 e.line,.int .i64 e.value,.int .i64 e.lo,.int .i64 e.hi]
@[simp] def Prt.enc(e:Prt):List D:=[.int .i64 e.width,.int .i64 e.vq]
@[simp] def yc.enc(e:yc):List D:=[.int .i64 e.Dr,.aG e.parts.length (e.parts.flatMap Prt.enc)]
@[simp] def G5.enc(e:G5):List D:=[.int .i64 e.tick,.int .i64 e.ac8,.int .i64 e.VG,.int .i64 e.VF,.int .i64 e.mlo,.int .i64 e.mhi]
def nl{α:Type}(f:α->List D)(l:List α):D:=if l=[]then .bN else .aG l.length (l.flatMap f)
def pE(r:List Int):List D:=[.aG r.length (r.flatMap aX)]
def Bk.cells(L:Nat)(b:Bk):List D:=[.int .i64 b.bH.f.x,.int .i64 b.bH.f.y,.int .i64 b.bH.f.z,.int .i64 b.bH.f.k,nl Rw.enc b.bH.b8,.int .i64 b.bH.bF,.int .i64 b.bH.lift,.int .i64 b.bH.deep,nl bE.enc b.bH.ak,
 .sl L 0 b.an.length 0 b.an.length 4,nl pE b.av,.sl L 1 b.rules.length 0 b.rules.length 10,.sl L 2 b.yX.length 0 b.yX.length 2,.int .i64 b.k0,.int .i64 b.k1,.int .i64 b.k2,
 .sl L 3 b.dc.length 0 b.dc.length 2,.sl L 4 b.cm.length 0 b.cm.length 6,.bool b.ready,.sl L 5 b.n9.length 0 b.n9.length 4,.int .i64 b.at_]
def Bk.bk(L:Nat)(b:Bk)(er:List Int):List az.aI:=[.cells b.an.length (b.an.flatMap kW.enc),.cells b.rules.length (b.rules.flatMap bM.dA.enc),.cells b.yX.length (b.yX.flatMap bM.Ev.enc),.cells b.dc.length (b.dc.flatMap yc.enc),
 .cells b.cm.length (b.cm.flatMap G5.enc),.cells b.n9.length (b.n9.flatMap LO.enc),.cells 0 (b.cells L),.cells er.length (er.flatMap aX)]
def ue:Bk:=⟨⟨⟨0,0,0,0⟩,[],0,0,0,[]⟩,[],[],[],[],1000,500,0,[],[],false,[],0⟩
def Prt.ok(last:Int)(p:Prt):Bool:=bT p.vq 0 last && bT p.width 1 100000
def yj:Int->List Prt->Bool
 |_,[]=>true
 |last,p::l=>p.ok last && yj p.vq l
def yc.ok(u:yc):Bool:=bT u.Dr 0 5 && (bT u.parts.length 1 8 && yj 1000 u.parts)
def vt(l:List Prt):Nat->Int
 |0=>1000
 |i+1=>match l[i]? with
  |some p=>p.vq
  |none=>0
def B7(l:List Prt)(i:Nat):Bool:=match l[i]? with
 |some p=>p.ok (vt l i)
 |none=>true
theorem OL{l:List Prt}:yj 1000 l=true↔∀j,j<l.length->B7 l j=true:=by
 have key:∀(r pre:List Prt),l=pre++r->(yj (vt l pre.length) r=true↔∀j,j<r.length->B7 l (pre.length+j)=true):=by
  intro r;induction r with
  |nil=>intro pre h;simp[yj]
  |cons p r ih =>
   intro pre h;have hp:l[pre.length]?=some p:=by rw[h];simp
   have h1:=ih (pre++[p]) (by rw[h];simp);have h2:vt l (pre++[p]).length=p.vq:=by simp[vt,hp]
   rw[h2]at h1;simp only[yj,ae,h1];constructor
   .rintro⟨h3,h4⟩ j hj;cases j with
    |zero=>simpa[B7,hp]using h3
    |succ j =>
     have:=h4 j (by simpa using hj);rwa[show(pre++[p]).length+j=pre.length+(j+1)by simp;omega]at this
   .intro h3;refine⟨?_,λj hj=>?_⟩
    .have:=h3 0 (by simp);simpa[B7,hp]using this
    .have:=h3 (j+1) (by simpa using hj);rwa[show(pre++[p]).length+j=pre.length+(j+1)by simp;omega]
 have:=key l [] rfl;simpa[vt]using this
def xf(b:Bk)(x y z k:Int):Bk×Int :=
 if(b.bH.f.x=0/\b.bH.f.y=0)/\b.bH.f.z=0/\b.bH.f.k=0 then
  (if(eu.mk x y z k).valid=true/\4<=k then({b with bH:={b.bH with f:=⟨x,y,z,k⟩ } },0)else(b,1))
 else(b,8)
end Go.gJ
namespace Go.az
open List(length_flatMap map_take)
open Go
variable {T:zQ} {fv:D} {J:SK}
theorem OY{f w:Nat}{ag:Bool}(hT:T f=some (ud ag w))(h1:fv.strip=fv)(h2:fv.calm=fv):lim T (.call false f [.bN,fv] J)=some (.val (.int .i64 (-1)) J):=by
 refine au hT (ud.eq_1 _ _) rfl ?_;simp[h1,h2];refine aJ (Gy.eq_1 _ _) ?_;simp[h1,h2]
theorem contains_nil{f i w:Nat}{ag:Bool}(hT:T f=some (gZ i))(hi:T i=some (ud ag w))(h1:fv.strip=fv)(h2:fv.calm=fv):lim T (.call false f [.bN,fv] J)=some (.val (.bool false) J):=by
 refine au hT (gZ.eq_1 _) rfl ?_;simp[h1,h2,OY hi h1 h2]
theorem all_nil{f g h i w:Nat}{ag:Bool}(hf:T f=some (Dc g h))(hh:T h=some (gZ i))(hi:T i=some (ud ag w))(h1:fv.strip=fv)(h2:fv.calm=fv)(hcl:fv.cells=some [fv]):
  lim T (.call false f [.bN,fv] J)=some (.val (.bool true) J):=by
 refine au hf (Dc.eq_1 _ _) rfl ?_;have h3:=λJ=>contains_nil (fv:=.fn g [] [.bu [fv]]) (J:=J) hh hi rfl rfl
 simp[h1,h2,h3,hcl]
end Go.az
namespace Go.Proofs.YtklfdfnoebnciaaGreatDoor
open List(length_flatMap map_take)
open Go Go.az Go.aD Go.gJ
variable {J:SK}
theorem SW{F:List az.aI}{b:Bk}{er:List Int}{nm:List UInt8}{x y z k:Int}{b':Bk}{e:Int}(hd:xf b x y z k=(b',e))(he:e=0):
  lim T (.call false 45 [.ref J.length 6 0 0,.str nm,.aG 4 [.int .i64 x,.int .i64 y,.int .i64 z,.int .i64 k]] (F::b.bk J.length er::J))=some (.val (.dj []) (F::b'.bk J.length er::J)):=by
 refine eQ uW iJ.eq_1 rfl (by simp) ?_;unfold xf at hd;split at hd
 case isFalse=>cases hd;cases he
 rename_i h1;split at hd
 case isFalse=>cases hd;cases he
 rename_i h2;cases hd;obtain⟨⟨f1,f2⟩,f3,f4⟩:=h1;have hS:(eu.mk x y z k).shape=0:=by simp[eu.shape,h2.1]
 have hC:=λJ=>iy (J:=J) (f:=⟨x,y,z,k⟩)
 simp only[hS]at hC;simp[-length_flatMap,-map_take,Bk.bk,Bk.cells,f1,f2,f3,f4,cg,hC,h2.2]
theorem Og{F:List az.aI}{b:Bk}{er:List Int}{nm:List UInt8}{x y z k:Int}{b':Bk}{e:Int}(hd:xf b x y z k=(b',e))(he:e≠0):
  lim T (.call false 45 [.ref J.length 6 0 0,.str nm,.aG 4 [.int .i64 x,.int .i64 y,.int .i64 z,.int .i64 k]] (F::b.bk J.length er::J))=some (.eA (rf e) (F::b.bk J.length er::J)):=by
 refine di uW iJ.eq_1 rfl ?_;have hC:=λJ=>iy (J:=J) (f:=⟨x,y,z,k⟩)
 unfold xf at hd;split at hd
 .rename_i h1;obtain⟨⟨f1,f2⟩,f3,f4⟩:=h1;split at hd
  .cases hd;exact absurd rfl he
  rename_i h2;cases hd;by_cases h3:(eu.mk x y z k).valid=true
  .have h4:¬4<=k:=λhh=>h2 ⟨h3,hh⟩
   have hS:(eu.mk x y z k).shape=0:=by simp[eu.shape,h3]
   simp only[hS]at hC;simp[-length_flatMap,-map_take,Bk.bk,Bk.cells,f1,f2,f3,f4,cg,cM,hC,h4,D.clean,rf]
  .have hS:(eu.mk x y z k).shape=1:=by simp[eu.shape,h3]
   simp only[hS]at hC;simp[-length_flatMap,-map_take,Bk.bk,Bk.cells,f1,f2,f3,f4,cg,cM,hC,D.clean,rf]
 .rename_i h1;cases hd;have hz:(b.bH.f.x == 0 && (b.bH.f.y == 0 && (b.bH.f.z == 0 && b.bH.f.k == 0)))=false:=by
   cases hb:(b.bH.f.x == 0 && (b.bH.f.y == 0 && (b.bH.f.z == 0 && b.bH.f.k == 0)))with
   |false=>rfl
   |true =>
    simp only[ae,beq_iff_eq]at hb;exact absurd ⟨⟨hb.1,hb.2.1⟩,hb.2.2.1,hb.2.2.2⟩ h1
  simp[-length_flatMap,-map_take,Bk.bk,Bk.cells,hz,cM,D.clean,rf]
theorem ED{k0 k1 k2:Int}(hJ:J≠[]):
  lim T (.call false 77 [.bN,.bN,.agg [.int .i64 k0,.int .i64 k1,.int .i64 k2],.int .i64 0] J) =
   some (.val (.dj [if bM.pQ k0 k1 k2 then .aG 0 []else .bN,.int .i64 (if bM.pQ k0 k1 k2 then 0 else 1)]) J):=by
 refine au Fc sj.eq_1 rfl ?_;have hA:=λJ=>all_nil (T:=T) (J:=J) (fv:=.fn 117 [] []) (f:=118) (ag:=false) (w:=1) rfl rfl rfl rfl rfl rfl
 have hB:=λJ=>all_nil (T:=T) (J:=J) (fv:=.fn 120 [] []) (f:=119) (ag:=false) (w:=1) rfl rfl rfl rfl rfl rfl
 have hC:bM.QB 0=true:=by decide
 by_cases c1:1000<k0
 .have d1:¬k0<=1000:=by omega
  simp[-length_flatMap,-map_take,bM.pQ,hA,hB,FI,hC,c1,d1]
 have d1:k0<=1000:=by omega
 by_cases c2:k0<k1
 .have d2:¬k1<=k0:=by omega
  simp[-length_flatMap,-map_take,bM.pQ,hA,hB,FI,hC,c1,c2,d1,d2]
 have d2:k1<=k0:=by omega
 by_cases c3:k1<k2
 .have d3:¬k2<=k1:=by omega
  simp[-length_flatMap,-map_take,bM.pQ,hA,hB,FI,hC,c1,c2,c3,d1,d2,d3]
 have d3:k2<=k1:=by omega
 by_cases c4:k2<0
 .have d4:¬0<=k2:=by omega
  simp[-length_flatMap,-map_take,bM.pQ,hA,hB,FI,hC,c1,c2,c3,c4,d1,d2,d3,d4]
 have d4:0<=k2:=by omega
 simp[-length_flatMap,-map_take,bM.pQ,hA,hB,FI,hC,c1,c2,c3,c4,d1,d2,d3,d4];refine aJ rC.eq_1 ?_;simp[-length_flatMap,-map_take,d1,d2,d3,d4];have h3:¬J.length<=J.length-1:=by have:=aP.2 hJ;omega
 refine⟨[.dead],?_⟩;rw[Dl (by simp[D.bx,D.clean]) (by omega)];have h6:=AL (l:=J.length-1) (n:=15) (l':=J.length) (i:=0) (v:=0) (off:=0) (m:=0) (w:=1) (J:=[az.aI.cells 0 []]::J) (cs:=[]) h3 (by simp) (by omega);simp only[Nat.reduceSub,cn.frzL,h6];simp
def KN(b:Bk)(k0 k1 k2:Int):Bk:={b with k0:=k0,k1:=k1,k2:=k2 }
theorem VQ{F:List az.aI}{b:Bk}{er:List Int}{nm:List UInt8}{x y z:Int}(h:bM.pQ x y z=true):
  lim T (.call false 52 [.ref J.length 6 0 0,.str nm,.aG 3 [.int .i64 x,.int .i64 y,.int .i64 z]] (F::b.bk J.length er::J))=some (.val (.dj []) (F::(KN b x y z).bk J.length er::J)):=by
 refine eQ vv jt.eq_1 rfl (by simp) ?_;have hI:=λJ hJ=>ED (J:=J) (k0:=x) (k1:=y) (k2:=z) hJ
 simp only[h,if_true]at hI;simp[-length_flatMap,-map_take,hI,SI,ng,Bk.bk,Bk.cells,KN]
theorem PU{F:List az.aI}{b:Bk}{er:List Int}{nm:List UInt8}{x y z:Int}(h:bM.pQ x y z=false):
  lim T (.call false 52 [.ref J.length 6 0 0,.str nm,.aG 3 [.int .i64 x,.int .i64 y,.int .i64 z]] (F::b.bk J.length er::J))=some (.eA (rf 1) (F::b.bk J.length er::J)):=by
 refine di vv jt.eq_1 rfl ?_;have hI:=λJ hJ=>ED (J:=J) (k0:=x) (k1:=y) (k2:=z) hJ
 simp only[h]at hI;have hM:=λJ=>oM (J:=J) (e:=1) (by decide)
 simp[-length_flatMap,-map_take,hI,SI,hM,Bk.bk,Bk.cells,D.clean,rf]
theorem JN{r:bM.dA}:lim T (.call false 76 [.aG 1 r.enc,.bN,.int .i64 0] J)=some (.val (.dj [.int .u8 0,.int .u8 0,.int .i64 (if r.ok then 0 else 1)]) J):=by
 refine au wy mQ.eq_1 rfl ?_;have hA:=λJ=>@Lv J [r] (by simp)
 have hN:=λJ=>all_nil (T:=T) (J:=J) (fv:=.fn 112 [] []) (f:=111) (ag:=true) (w:=2) rfl rfl rfl rfl rfl rfl
 simp only[List.length_singleton,aT,cb,cC,fk,iA,List.all_nil,Bool.and_true]at hA;have w0:bM.bT 0 0 1000000=true:=by decide
 cases hr:r.ok
 .rw[hr]at hA;simp only[bM.dA.enc]at hA ⊢;simp[-length_flatMap,-map_take,hA]
 .rw[hr]at hA;have hc:=(bM.GS.1 hr).2.2.2.1;have c1:¬r.count<=0:=by omega
  simp only[bM.dA.enc]at hA ⊢;simp[-length_flatMap,-map_take,hA,hN,ck,w0];refine aJ dU.eq_1 ?_;simp[-length_flatMap,-map_take];refine aJ ic.eq_1 ?_;simp[-length_flatMap,-map_take,c1];refine aJ dU.eq_1 ?_;simp[-length_flatMap,-map_take,c1]
def AD(b:Bk)(r:bM.dA)(c:Int):Bk×Int :=
 if b.rules.length<20 then(if bT c 1 2=true then(if r.ok=true then({b with rules:=b.rules++[r] },0)else(b,1))else(b,1))else(b,3)
theorem R8(l:List bM.dA):(l.flatMap bM.dA.enc).length=l.length*10:=bZ (f:=bM.dA.enc) (w:=10) (λ_=>rfl) l
theorem VV{F:List az.aI}{b:Bk}{er:List Int}{nm:List UInt8}{x0 x1 x2 x3 x4 x5 x6 x7 x8 x9:Int}{b':Bk}{e:Int}(hd:AD b ⟨⟨x0,x1,x2⟩,⟨x3,x4,x5⟩,x6,x7,x8,x9⟩ x9=(b',e))(he:e=0):
  lim T (.call false 51 [.ref J.length 6 0 0,.str nm,.aG 10 [.int .i64 x0,.int .i64 x1,.int .i64 x2,.int .i64 x3,.int .i64 x4,.int .i64 x5,.int .i64 x6,.int .i64 x7,.int .i64 x8,.int .i64 x9]] (F::b.bk J.length er::J))=some (.val (.dj []) (F::b'.bk J.length er::J)):=by
 refine eQ vx jv.eq_1 rfl (by simp) ?_;have hL:=λJ=>JN (J:=J) (r:=⟨⟨x0,x1,x2⟩,⟨x3,x4,x5⟩,x6,x7,x8,x9⟩)
 unfold AD at hd;split at hd
 case isFalse=>cases hd;cases he
 rename_i h1;split at hd
 case isFalse=>cases hd;cases he
 rename_i h2;split at hd
 case isFalse=>cases hd;cases he
 rename_i h3;cases hd;have h1':(b.rules.length:Int)<20:=by omega
 have h4:=aU.1 h2;have w1:IntKind.u8.wrap x9=x9:=wu8 (by omega);have w2:(b.rules.length+1)*80<=room:=by unfold room;omega
 have w3:=R8 b.rules;have w4:(b.rules.flatMap bM.dA.enc).take (b.rules.length*10)=b.rules.flatMap bM.dA.enc:=ah (by omega);simp only[h3,if_true,bM.dA.enc]at hL;simp[-length_flatMap,-map_take,Bk.bk,Bk.cells,h1',dM,h2,cg,w1,hL,ng,w2,w3,w4]
theorem Qa{F:List az.aI}{b:Bk}{er:List Int}{nm:List UInt8}{x0 x1 x2 x3 x4 x5 x6 x7 x8 x9:Int}{b':Bk}{e:Int}(hd:AD b ⟨⟨x0,x1,x2⟩,⟨x3,x4,x5⟩,x6,x7,x8,x9⟩ x9=(b',e))(he:e≠0):
  lim T (.call false 51 [.ref J.length 6 0 0,.str nm,.aG 10 [.int .i64 x0,.int .i64 x1,.int .i64 x2,.int .i64 x3,.int .i64 x4,.int .i64 x5,.int .i64 x6,.int .i64 x7,.int .i64 x8,.int .i64 x9]] (F::b.bk J.length er::J))=some (.eA (rf e) (F::b.bk J.length er::J)):=by
 refine di vx jv.eq_1 rfl ?_;have hL:=λJ=>JN (J:=J) (r:=⟨⟨x0,x1,x2⟩,⟨x3,x4,x5⟩,x6,x7,x8,x9⟩)
 have hM:=λJ=>oM (J:=J) (e:=1) (by decide)
 unfold AD at hd;split at hd
 .rename_i h1;have h1':(b.rules.length:Int)<20:=by omega
  split at hd
  .rename_i h2;have h4:=aU.1 h2;have w1:IntKind.u8.wrap x9=x9:=wu8 (by omega);split at hd
   .cases hd;exact absurd rfl he
   .rename_i h3;cases hd;have h3':bM.dA.ok ⟨⟨x0,x1,x2⟩,⟨x3,x4,x5⟩,x6,x7,x8,x9⟩=false:=by simpa using h3
    simp only[h3',bM.dA.enc]at hL;simp[-length_flatMap,-map_take,Bk.bk,Bk.cells,h1',dM,h2,cg,w1,hL,hM,D.clean,rf]
  .rename_i h2;cases hd;have h2':bT x9 1 2=false:=by simpa using h2
   simp[-length_flatMap,-map_take,Bk.bk,Bk.cells,h1',dM,h2',cg,cM,D.clean,rf]
 .rename_i h1;cases hd;have h1':¬(b.rules.length:Int)<20:=by omega
  simp[-length_flatMap,-map_take,Bk.bk,Bk.cells,h1',cM,D.clean,rf]
theorem tN{α:Type}{f:α->List D}{l:List α}:(nl f l).vN=.aG l.length (l.flatMap f):=by
 unfold nl;split
 .rename_i h;subst h;rfl
 .rfl
theorem Wr{l:List bE}:(nl bE.enc l).clean=true:=by unfold nl;split<;>simp[D.clean,bh]
theorem yY{b:b9}{tq wq:D}(htq:tq.vN=.aG b.b8.length (b.b8.flatMap Rw.enc))(hwq:wq.vN=.aG b.ak.length (b.ak.flatMap bE.enc))(h1:b.b8.length<=1000000000)(h2:b.ak.length<=1000000000):
  lim T (.call false 67 [.agg [.int .i64 b.f.x,.int .i64 b.f.y,.int .i64 b.f.z,.int .i64 b.f.k,tq,.int .i64 b.bF,.int .i64 b.lift,.int .i64 b.deep,wq]] J)=some (.val (.int .i64 (if b.valid then 0 else 1)) J):=by
 refine au Fa si.eq_1 rfl ?_;have hB:=λJ=>Al (J:=J) (b:=b) h1 h2
 cases hv:b.valid<;>rw[hv]at hB<;>simp[-length_flatMap,-map_take,htq,hwq,hB,cl,bh]
def IY(b:Bk)(x y z:Int):Bk:={b with bH:={b.bH with bF:=x,lift:=y,deep:=z },ready:=true }
def EL(b:Bk)(x y z:Int):Bk×Int :=
 if((b.bH.f.x=0/\b.bH.f.y=0)/\b.bH.f.z=0/\b.bH.f.k=0)\/b.bH.b8=[]\/b.ready=true then(b,8)
 else if(IY b x y z).bH.valid=true then(IY b x y z,0)else(b,1)
theorem Gv{f:eu}:(f.x == 0 && (f.y == 0 && (f.z == 0 && f.k == 0)))=decide ((f.x=0/\f.y=0)/\f.z=0/\f.k=0):=by
 by_cases h1:f.x=0<;>by_cases h2:f.y=0<;>by_cases h3:f.z=0<;>by_cases h4:f.k=0<;>simp[h1,h2,h3,h4]
theorem dw{α:Type}{f:α->List D}{l:List α}(h:l≠[]):nl f l=.aG l.length (l.flatMap f):=if_neg h
theorem VM{F:List az.aI}{b:Bk}{er:List Int}{nm:List UInt8}{x y z:Int}{b':Bk}{e:Int}(h1:b.bH.b8.length<=1000000000)(h2:b.bH.ak.length<=1000000000)(hd:EL b x y z=(b',e))(he:e=0):
  lim T (.call false 47 [.ref J.length 6 0 0,.str nm,.aG 3 [.int .i64 x,.int .i64 y,.int .i64 z]] (F::b.bk J.length er::J))=some (.val (.dj []) (F::b'.bk J.length er::J)):=by
 refine eQ wu j1.eq_1 rfl (by simp) ?_;unfold EL at hd;split at hd
 case isTrue=>cases hd;cases he
 rename_i h0;split at hd
 case isFalse=>cases hd;cases he
 rename_i h3;cases hd;have c1:(b.bH.f.x == 0 && (b.bH.f.y == 0 && (b.bH.f.z == 0 && b.bH.f.k == 0)))=false:=by rw[Gv];simpa using λhh=>h0 (.inl hh)
 have c2:b.bH.b8≠[]:=λhh=>h0 (.inr (.inl hh))
 have c3:b.ready=false:=by cases hr:b.ready with | false=>rfl | true=>exact absurd (.inr (.inr hr)) h0
 have c4:0<b.bH.b8.length:=aP.2 c2;have hcl:(D.aG b.bH.b8.length (b.bH.b8.flatMap Rw.enc)).clean=true:=by simp[D.clean,cl]
 have hC:=λJ=>yY (J:=J) (b:=(IY b x y z).bH) (tq:=nl Rw.enc b.bH.b8) (wq:=nl bE.enc b.bH.ak) tN tN h1 h2
 rw[h3]at hC;simp only[dw c2,IY]at hC;simp[-length_flatMap,-map_take,Bk.bk,Bk.cells,c1,dw c2,c4,c3,cg,ng,hC,IY,Wr,hcl]
theorem PM{F:List az.aI}{b:Bk}{er:List Int}{nm:List UInt8}{x y z:Int}{b':Bk}{e:Int}(h1:b.bH.b8.length<=1000000000)(h2:b.bH.ak.length<=1000000000)(hd:EL b x y z=(b',e))(he:e≠0):
  lim T (.call false 47 [.ref J.length 6 0 0,.str nm,.aG 3 [.int .i64 x,.int .i64 y,.int .i64 z]] (F::b.bk J.length er::J))=some (.eA (rf e) (F::b.bk J.length er::J)):=by
 refine di wu j1.eq_1 rfl ?_;have hM:=λJ=>oM (J:=J) (e:=1) (by decide)
 unfold EL at hd;split at hd
 .rename_i h0;cases hd;cases c1:(b.bH.f.x == 0 && (b.bH.f.y == 0 && (b.bH.f.z == 0 && b.bH.f.k == 0)))
  .by_cases c2:b.bH.b8=[]
   .simp[-length_flatMap,-map_take,Bk.bk,Bk.cells,c1,c2,nl,cM,D.clean,rf]
   .have c4:0<b.bH.b8.length:=aP.2 c2;have c3:b.ready=true:=by
     rw[Gv]at c1;rcases h0 with h | h | h
     .exact absurd h (by simpa using c1)
     .exact absurd h c2
     .exact h
    simp[-length_flatMap,-map_take,Bk.bk,Bk.cells,c1,dw c2,c4,c3,cM,D.clean,rf]
  .simp[-length_flatMap,-map_take,Bk.bk,Bk.cells,c1,cM,D.clean,rf]
 .rename_i h0;split at hd
  .cases hd;exact absurd rfl he
  rename_i h3;cases hd;have c1:(b.bH.f.x == 0 && (b.bH.f.y == 0 && (b.bH.f.z == 0 && b.bH.f.k == 0)))=false:=by rw[Gv];simpa using λhh=>h0 (.inl hh)
  have c2:b.bH.b8≠[]:=λhh=>h0 (.inr (.inl hh))
  have c3:b.ready=false:=by cases hr:b.ready with | false=>rfl | true=>exact absurd (.inr (.inr hr)) h0
  have c4:0<b.bH.b8.length:=aP.2 c2;have hC:=λJ=>yY (J:=J) (b:=(IY b x y z).bH) (tq:=nl Rw.enc b.bH.b8) (wq:=nl bE.enc b.bH.ak) tN tN h1 h2
  have h3':(IY b x y z).bH.valid=false:=by simpa using h3
  rw[h3']at hC;simp only[dw c2,IY]at hC;simp[-length_flatMap,-map_take,Bk.bk,Bk.cells,c1,dw c2,c4,c3,cg,hM,hC,D.clean,rf]
theorem Gf(l:List bE):(l.flatMap bE.enc).length=l.length*3:=bZ (f:=bE.enc) (w:=3) (λ_=>rfl) l
theorem HJ{bs:List az.aI}:lim T (.call true 68 [.bN] (bs::J))=some (.val (.sl J.length (bs.length+1) 0 0 0 3) ((bs++[.cells 0 [],.cells 0 []])::J)):=by
 refine vO rF eM.eq_1 rfl ?_;simp[-length_flatMap,-map_take]
theorem JQ{bs:List az.aI}{l:List bE}(hne:l≠[])(hl:l.length<=1000000):lim T (.call true 68 [.aG l.length (l.flatMap bE.enc)] (bs::J)) =
  some (.val (.sl J.length (bs.length+1) 1 0 l.length 3) ((bs++[.cells 0 [],.cells 1 (l.flatMap bE.enc)])::J)):=by
 refine vO rF eM.eq_1 rfl ?_;have h7:l.length*24<=room:=by unfold room;omega
 simp[-length_flatMap,-map_take,hne,Gf,h7]
def vI(b:Bk)(x y z:Int):Bk:={b with bH:={b.bH with ak:=b.bH.ak++[⟨x,y,z⟩] } }
def yi(b:Bk)(x y z:Int):Bk×Int :=
 if b.ready=true/\b.an=[]then(if(vI b x y z).bH.valid=true then(vI b x y z,0)else(b,1))else(b,8)
theorem V4{F:List az.aI}{b:Bk}{er:List Int}{nm:List UInt8}{x y z:Int}{b':Bk}{e:Int}(ht:b.bH.b8≠[])(h1:b.bH.b8.length<=1000000000)(h2:b.bH.ak.length<=1000000)(hd:yi b x y z=(b',e))(he:e=0):
  lim T (.call false 48 [.ref J.length 6 0 0,.str nm,.aG 3 [.int .i64 x,.int .i64 y,.int .i64 z]] (F::b.bk J.length er::J))=some (.val (.dj []) (F::b'.bk J.length er::J)):=by
 refine eQ vC jz.eq_1 rfl (by simp) ?_;unfold yi at hd;split at hd
 case isFalse=>cases hd;cases he
 rename_i h0;obtain⟨c1,c2⟩:=h0;split at hd
 case isFalse=>cases hd;cases he
 rename_i h3;cases hd;have hC:=λJ=>yY (J:=J) (b:=(vI b x y z).bH) (tq:=.aG b.bH.b8.length (b.bH.b8.flatMap Rw.enc)) (wq:=.aG (b.bH.ak.length+1) (b.bH.ak.flatMap bE.enc++[.int .i64 x,.int .i64 y,.int .i64 z])) rfl (by simp[vI,D.vN]) h1 (by simp[vI];omega)
 rw[h3]at hC;simp only[vI]at hC;have hcl:(D.aG b.bH.b8.length (b.bH.b8.flatMap Rw.enc)).clean=true:=by simp[D.clean,cl]
 have hroom:(b.bH.ak.length+1)*24<=room:=by unfold room;omega
 have hlen:=Gf b.bH.ak;have htake:(b.bH.ak.flatMap bE.enc).take (b.bH.ak.length*3)=b.bH.ak.flatMap bE.enc:=ah (by omega);have hcw:D.bx (b.bH.ak.flatMap bE.enc++[.int .i64 x,.int .i64 y,.int .i64 z])=true:=by
  have:=bh (b.bH.ak++[⟨x,y,z⟩]);simpa using this
 have hfr:∀(v:Nat) (S:SK),S.length=J.length+1+1->cn 0 16 (.sl (J.length+1+1) 1 v 0 (b.bH.ak.length+1) 3) ([.cells 0 [],.cells v (b.bH.ak.flatMap bE.enc++[.int .i64 x,.int .i64 y,.int .i64 z])]::S) =
   (.aG (b.bH.ak.length+1) (b.bH.ak.flatMap bE.enc++[.int .i64 x,.int .i64 y,.int .i64 z]),[.cells 0 [],.dead]::S):=by
  intro v S hS;have:=zW (f:=bE.enc) (w:=3) (λ_=>rfl) (λ_=>by simp[D.clean]) (l:=b.bH.ak++[⟨x,y,z⟩]) (j:=1) (v:=v) (bs:=[az.aI.cells 0 [],.cells v (b.bH.ak.flatMap bE.enc++[.int .i64 x,.int .i64 y,.int .i64 z])]) (J:=S) (by intro h;subst h;simp at hS) (by simp);rw[hS]at this;simpa using this
 have h24:24<=room:=by unfold room;omega
 have hcw2:(D.aG (b.bH.ak.length+1) (b.bH.ak.flatMap bE.enc++[.int .i64 x,.int .i64 y,.int .i64 z])).clean=true:=by simpa[D.clean]using hcw
 by_cases hw:b.bH.ak=[]
 .have hfr':=hfr;simp only[hw,bj,cb,aY,cr]at hfr' hC;have ht':=dw (f:=Rw.enc) ht;simp only[nl]at ht';simp[-length_flatMap,-map_take,Bk.bk,Bk.cells,c1,c2,ht',hC,hw,nl,cg,ng,HJ,vI,hcl,h24,hfr']
 .simp[-length_flatMap,-map_take,Bk.bk,Bk.cells,c1,c2,dw ht,dw hw,cg,ng,JQ hw h2,vI,hcl,hroom,hlen,htake,hfr,hC,hcw2];simp[nl]
theorem Qi{F:List az.aI}{b:Bk}{er:List Int}{nm:List UInt8}{x y z:Int}{b':Bk}{e:Int}(ht:b.ready=true->b.bH.b8≠[])(h1:b.bH.b8.length<=1000000000)(h2:b.bH.ak.length<=1000000)(hd:yi b x y z=(b',e))(he:e≠0):
  lim T (.call false 48 [.ref J.length 6 0 0,.str nm,.aG 3 [.int .i64 x,.int .i64 y,.int .i64 z]] (F::b.bk J.length er::J))=some (.eA (rf e) (F::b.bk J.length er::J)):=by
 refine di vC jz.eq_1 rfl ?_;have hM:=λJ=>oM (J:=J) (e:=1) (by decide)
 have hrc:(D.tK 90 (.agg [.int .i64 1])).clean=true:=rfl;unfold yi at hd;split at hd
 case isFalse h0 =>
  cases hd;cases c1:b.ready with
  |false=>simp[-length_flatMap,-map_take,Bk.bk,Bk.cells,c1,cM,D.clean,rf]
  |true =>
   have c2:b.an≠[]:=λhh=>h0 ⟨c1,hh⟩
   have c2':((b.an.length:Int) == 0)=false:=by simpa using c2
   simp[-length_flatMap,-map_take,Bk.bk,Bk.cells,c1,c2',cM,D.clean,rf]
 rename_i h0;obtain⟨c1,c2⟩:=h0;have ht:=ht c1;split at hd
 case isTrue=>cases hd;exact absurd rfl he
 rename_i h3;cases hd;have h3':(vI b x y z).bH.valid=false:=by simpa using h3
 have hC:=λJ=>yY (J:=J) (b:=(vI b x y z).bH) (tq:=.aG b.bH.b8.length (b.bH.b8.flatMap Rw.enc)) (wq:=.aG (b.bH.ak.length+1) (b.bH.ak.flatMap bE.enc++[.int .i64 x,.int .i64 y,.int .i64 z])) rfl (by simp[vI,D.vN]) h1 (by simp[vI];omega)
 rw[h3']at hC;simp only[vI]at hC;have hcl:(D.aG b.bH.b8.length (b.bH.b8.flatMap Rw.enc)).clean=true:=by simp[D.clean,cl]
 have hroom:(b.bH.ak.length+1)*24<=room:=by unfold room;omega
 have hlen:=Gf b.bH.ak;have htake:(b.bH.ak.flatMap bE.enc).take (b.bH.ak.length*3)=b.bH.ak.flatMap bE.enc:=ah (by omega);have hcw:D.bx (b.bH.ak.flatMap bE.enc++[.int .i64 x,.int .i64 y,.int .i64 z])=true:=by
  have:=bh (b.bH.ak++[⟨x,y,z⟩]);simpa using this
 have hfr:∀(v:Nat) (S:SK),S.length=J.length+1+1->cn 0 16 (.sl (J.length+1+1) 1 v 0 (b.bH.ak.length+1) 3) ([.cells 0 [],.cells v (b.bH.ak.flatMap bE.enc++[.int .i64 x,.int .i64 y,.int .i64 z])]::S) =
   (.aG (b.bH.ak.length+1) (b.bH.ak.flatMap bE.enc++[.int .i64 x,.int .i64 y,.int .i64 z]),[.cells 0 [],.dead]::S):=by
  intro v S hS;have:=zW (f:=bE.enc) (w:=3) (λ_=>rfl) (λ_=>by simp[D.clean]) (l:=b.bH.ak++[⟨x,y,z⟩]) (j:=1) (v:=v) (bs:=[az.aI.cells 0 [],.cells v (b.bH.ak.flatMap bE.enc++[.int .i64 x,.int .i64 y,.int .i64 z])]) (J:=S) (by intro h;subst h;simp at hS) (by simp);rw[hS]at this;simpa using this
 have h24:24<=room:=by unfold room;omega
 have hcw2:(D.aG (b.bH.ak.length+1) (b.bH.ak.flatMap bE.enc++[.int .i64 x,.int .i64 y,.int .i64 z])).clean=true:=by simpa[D.clean]using hcw
 by_cases hw:b.bH.ak=[]
 .have hfr':=hfr;simp only[hw,bj,cb,aY,cr]at hfr' hC;have ht':=dw (f:=Rw.enc) ht;simp only[nl]at ht';simp[-length_flatMap,-map_take,Bk.bk,Bk.cells,c1,c2,ht',hC,hw,nl,cg,hM,HJ,vI,hcl,h24,hfr',rf,hrc]
 .simp[-length_flatMap,-map_take,Bk.bk,Bk.cells,c1,c2,dw ht,dw hw,cg,hM,JQ hw h2,vI,hcl,hroom,hlen,htake,hfr,hC,hcw2,rf,hrc]
end Go.Proofs.YtklfdfnoebnciaaGreatDoor
