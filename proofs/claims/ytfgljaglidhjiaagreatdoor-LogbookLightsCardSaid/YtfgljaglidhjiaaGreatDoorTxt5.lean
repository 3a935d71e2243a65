import Derived.Test.YtfgljaglidhjiaaGreatDoorTxt4
import Derived.Test.YtfgljaglidhjiaaGreatDoorTxt3
set_option linter.all false
set_option maxRecDepth 100000
namespace Go.Proofs.YtfgljaglidhjiaaGreatDoor
open List(length_flatMap map_take)
open Go Go.Abs Go.Rock
variable {σ:SK}
def Kg(b:cC)(rd:List wI):Nat→List (cU×RunT)→List Int×List Tri→List Int×List Tri
 |_,[],st=>st
 |i,p::t,st=>Kg b rd (i+1) t (if(z7 i rd.length 0 (Eg b p.1 p.2 rd) (rd.length,st.2)).1=rd.length then st.1++[(i:Int)]else st.1,(z7 i rd.length 0 (Eg b p.1 p.2 rd) (rd.length,st.2)).2)
theorem apT{b:cC}{l:List cU}{aw:List (List Int)}{rd:List wI}{rs:List RunT}(h:Ok b l aw)(hR:Rs b l aw.length rs)(hl:rd.length≤40)(hx:∀x∈rd,Rdv b aw.length x){B:Abs.aF}:
  ∀(k i:Nat) (st:List Int×List Tri),i+k=l.length→st.1.length≤i→st.2.length≤i →
  WL T [3,4,8,9,10,15,51,52,53] false oU [(3,.aI rd.length (rd.flatMap wI.enc)),(4,.bI [.int .i64 b.f.x,.int .i64 b.f.y,.int .i64 b.f.z,.int .i64 b.f.k,.aI b.cz.length (b.cz.flatMap Rw.enc),.int .i64 b.bL,.int .i64 b.lift,.int .i64 b.deep,.aI b.ar.length (b.ar.flatMap bJ.enc)]),(8,.sl σ.length 0 st.1.length 0 st.1.length 1),(9,.sl σ.length 1 st.2.length 0 st.2.length 3),(10,.ref σ.length 2 0 0),(15,.aI rs.length (rs.flatMap Fk)),(51,.aI l.length (l.flatMap cU.enc)),(52,.int .i64 l.length),(53,.int .i64 i)]
   ([.cells st.1.length (st.1.flatMap aT),.cells st.2.length (st.2.flatMap A4),B]::σ)
   (fun x e σ'=>x=.exit 2∧∃st',st'=Kg b rd i ((l.zip rs).drop i) st∧get e 8=.sl σ.length 0 st'.1.length 0 st'.1.length 1∧get e 9=.sl σ.length 1 st'.2.length 0 st'.2.length 3∧get e 10=.ref σ.length 2 0 0 ∧
    σ'=[.cells st'.1.length (st'.1.flatMap aT),.cells st'.2.length (st'.2.flatMap A4),B]::σ):=by
 intro k;induction k with
 |zero =>
  intro i st hi g1 g2;refine aO oU.eq_1 ?_;have h1:¬i<l.length:=by omega
  have h2:(l.zip rs).drop i=[]:=aB (by rw[List.length_zip];omega);simp[-length_flatMap,-map_take,h1,h2,Kg]
 |succ k ih0 =>
  intro i st hi g1 g2;refine aO oU.eq_1 ?_;have h1:i<l.length:=by omega
  have hlen:=hR.len;have hne:=hR.ne;obtain⟨m,hm⟩:=gE h1;obtain⟨r,hr⟩:∃r,rs[i]?=some r:=gE (by omega);have h2:=Tv hm;have h4:=gq h1 (by omega);have hz:(l.zip rs)[i]?=some (m,r):=by simp[List.getElem?_zip_eq_some,hm,hr]
  have h5:=cM hz;have hsl:=Ma (i:=i) (Eg b m r rd) 0 (rd.length,st.2) (n:=rd.length) (by rw[LX];omega) (by simp);rw[h5,Kg];simp[-length_flatMap,-map_take,h1,h2,bz,D.clean];refine WL.to (apU (σ:=σ) h hR hl hx hm hr (A:=.cells st.1.length (st.1.flatMap aT)) (B:=B) (L10:=st.1.length) (s0:=50) (by omega) rd.length 0 (rd.length,st.2) (by omega) (by simp) (by simp only;omega)) (by simp) (by simp) ?_;rintro x e σ' ⟨rfl,st',hst,q3,q4,q8,q9,q10,q15,q16,q18,q51,q52,q53,rfl⟩;rw[aP]at hst;rw[← hst];rw[← hst]at hsl;have a4:=Tn st.1;have a6:(st.1.flatMap aT).take st.1.length=st.1.flatMap aT:=ak (by omega);have h7:(st.1.length+1)*8≤room:=by unfold room;omega
  by_cases hc:st'.1=rd.length
  ·have ih:=ih0 (i+1) (st.1++[(i:Int)],st'.2) (by omega) (by simp;omega) (by simp only at hsl ⊢;omega);rw[if_pos hc];simp[-length_flatMap,-map_take,q3,q4,q8,q9,q10,q15,q16,q18,q51,q52,q53,hc,h4,a4,a6,h7];exact WL.to ih (by simp) (by simp) fun x e σ hh=>by simpa using hh
  ·have ih:=ih0 (i+1) (st.1,st'.2) (by omega) (by simp only;omega) (by simp only at hsl ⊢;omega);rw[if_neg hc];have hc':¬(st'.1:Int)=rd.length:=by omega
   simp[-length_flatMap,-map_take,q3,q4,q8,q9,q10,q15,q16,q18,q51,q52,q53,hc,hc',h4];exact WL.to ih (by simp) (by simp) fun x e σ hh=>by simpa using hh
def QS(b:cC)(l:List cU)(aw:List (List Int))(rd:List wI):D :=
 if xK b aw.length rd=0 then
  match xM b aw l with
  |some rs => .dM [.aI (Kg b rd 0 (l.zip rs) ([],[])).1.length ((Kg b rd 0 (l.zip rs) ([],[])).1.flatMap aT),.aI (Kg b rd 0 (l.zip rs) ([],[])).2.length ((Kg b rd 0 (l.zip rs) ([],[])).2.flatMap A4),.int .i64 0]
  |none => .dM [.aI 0 [],.aI 0 [],.int .i64 9]
 else .dM [.aI 0 [],.aI 0 [],.int .i64 (xK b aw.length rd)]
theorem Hv{l0 a b:Nat}{k:Int}{A B:List D}{S S1 S2:SK}{d1 d2:D}(h1:cG l0 15 d1 S=(.aI a A,S1))(h2:cG l0 15 d2 S1=(.aI b B,S2)):cG l0 16 (.dM [d1,d2,.int .i64 k]) S=(.dM [.aI a A,.aI b B,.int .i64 k],S2):=by
 by_cases hc:D.clean (.dM [d1,d2,.int .i64 k])=true
 ·rw[ju hc (by omega)];simp only[D.clean,D.bC,Bool.and_true,af]at hc;rw[ju hc.1 (by omega)]at h1;rw[ju hc.2 (by omega)]at h2;cases h1;cases h2;rfl
 ·rw[Da (by simpa using hc) (by omega)];simp only[wZ,zR];rw[h1];simp only;rw[h2];simp only;rw[ju (by rfl) (by omega)]
end Go.Proofs.YtfgljaglidhjiaaGreatDoor
set_option maxRecDepth 100000
namespace Go.Proofs.YtfgljaglidhjiaaGreatDoor
open List(length_flatMap map_take)
open Go Go.Abs Go.Rock Go.Book
variable {σ:SK}
theorem Gd{α:Type}{f:α→List D}{l:List α}{v t:Nat}{e:Env}{S:SK}(h:Abs.get e v=nl f l):Abs.get (Qg v (nl f l) e S).1 t=if v=t then .aI l.length (l.flatMap f)else Abs.get e t:=by
 unfold nl at h ⊢;split at h
 ·rename_i hl;subst hl;simp
 ·rename_i hl;simp[hl];intro hh;subst hh;exact h
theorem IZ{α:Type}{f:α→List D}{l:List α}{v:Nat}{e:Env}{S:SK}:(Qg v (nl f l) e S).2=S:=by
 unfold nl;split<;>simp
theorem PH{wq:D}{b:cC}{l:List cU}{aw:List (List Int)}{rd:List wI}(hwq:wq.wN=.aI b.ar.length (b.ar.flatMap bJ.enc))(h:Ok b l aw)(hl:rd.length≤1000000000)(hw:∀x∈rd,0≤x.rn∧x.rn≤255)(hσ:σ≠[]):
  bx T (.call false lY [.agg [.int .i64 b.f.x,.int .i64 b.f.y,.int .i64 b.f.z,.int .i64 b.f.k,.aI b.cz.length (b.cz.flatMap Rw.enc),.int .i64 b.bL,.int .i64 b.lift,.int .i64 b.deep,wq],.aI l.length (l.flatMap cU.enc),nl IL aw,.aI rd.length (rd.flatMap wI.enc)] σ)=some (.val (QS b l aw rd) σ):=by
 have h1:=fun σ=>aiC (σ:=σ) h
 unfold QS;by_cases c0:40<rd.length
 ·have e1:xK b aw.length rd=3:=by simp[xK,c0]
  rw[e1];refine aA xg oh.eq_1 rfl ?_;simp[-length_flatMap,-map_take,hwq,Gd,IZ,h1,show(40:Int)<rd.length by omega,cN,bw];have hp:=aN.2 hσ;rw[Hv (CC (by omega) (by omega) (by simp)) (CC (by omega) (by omega) (by simp))];simp
 have e1:xK b aw.length rd=di (vU b aw.length) rd:=by simp[xK,c0]
 rw[e1];have c0':¬(40:Int)<rd.length:=by omega
 have hL:=V6 (σ:=σ) h (by omega) hw (A:=.cells 0 []) (B:=.cells 0 []) rd.length 0 (by omega);rw[aP]at hL;by_cases c1:di (vU b aw.length) rd=0
 ·rw[c1]at hL;rw[if_pos c1];have hx:∀x∈rd,Rdv b aw.length x:=fun x hx=>Rdv.of (vL c1 x hx)
  refine Oc xg oh.eq_1 rfl rfl ?_;cases hrs:xM b aw l with
  |none =>
   have h2:=fun σ=>VT (σ:=σ) h hrs
   have hX:we T (.fn fI [] []) [.ref σ.length 2 0 0] (some (.ud 262 (.agg []))) ([.cells 0 [],.cells 0 [],.cells 0 [.int .i64 0]]::σ)=some ([.cells 0 [],.cells 0 [],.cells 0 [.int .i64 9]]::σ):=uX Ui;simp[-length_flatMap,-map_take,Nw,BK,hwq,Gd,IZ,h1,c0',cN,bw];refine WL.to hL (by simp) (by simp) ?_;intro x e σ' hh;rw[if_pos rfl]at hh;obtain⟨rfl,rfl,g1,g2,g3,g4,g8,g9,g10⟩:=hh;simp[-length_flatMap,-map_take,Nw,BK,g1,g2,g3,g4,g8,g9,g10,cN,bw];rw[zD sN.eq_1];simp[-length_flatMap,-map_take,Nw,BK,g1,g2,g3,g4,g8,g9,g10,h2,hX,cN,bw,bz];have hp:=aN.2 hσ;rw[Hv (CC (by omega) (by omega) (by simp)) (CC (by omega) (by omega) (by simp))];simp
  |some rs =>
   have hR:=Rs.of h hrs;have h2:=fun σ hσ=>VU (σ:=σ) h hσ hrs hR.len
   simp[-length_flatMap,-map_take,Nw,BK,hwq,Gd,IZ,h1,c0',cN,bw];refine WL.to hL (by simp) (by simp) ?_;intro x e σ' hh;rw[if_pos rfl]at hh;obtain⟨rfl,rfl,g1,g2,g3,g4,g8,g9,g10⟩:=hh;simp[-length_flatMap,-map_take,Nw,BK,g1,g2,g3,g4,g8,g9,g10,cN,bw];rw[zD sN.eq_1];simp[-length_flatMap,-map_take,Nw,BK,g1,g2,g3,g4,g8,g9,g10,h2,cN,bw,bz];refine WL.to (apT (σ:=σ) h hR (by omega) hx (B:=.cells 0 [.int .i64 0]) l.length 0 ([],[]) (by omega) (by simp) (by simp)) (by simp) (by simp) ?_;rintro x e σ' ⟨rfl,st,hst,q8,q9,q10,rfl⟩;rw[aP]at hst;rw[← hst];have hX:we T (.fn fI [] []) [.ref σ.length 2 0 0] none ([.cells st.1.length (st.1.flatMap aT),.cells st.2.length (st.2.flatMap A4),.cells 0 [.int .i64 0]]::σ)=some ([.cells st.1.length (st.1.flatMap aT),.cells st.2.length (st.2.flatMap A4),.cells 0 [.int .i64 0]]::σ):=uX Ju;simp[-length_flatMap,-map_take,Nw,BK,q8,q9,q10,g10,hX];rw[Hv (yz (n:=15) (f:=aT) (w:=1) (l:=st.1) (by decide) (fun _=>rfl) (fun x=>by simp) hσ (by simp)) (yz (n:=15) (f:=A4) (w:=3) (l:=st.2) (by decide) (fun _=>rfl) (fun x=>by simp[A4]) hσ (by simp))];simp
 ·simp only[c1,if_false];refine aA xg oh.eq_1 rfl ?_;simp[-length_flatMap,-map_take,hwq,Gd,IZ,h1,c0',cN,bw];refine WL.to hL (by simp) (by simp) ?_;intro x e σ' hh;rw[if_neg c1]at hh;obtain⟨rfl,g8,g9,g10,rfl⟩:=hh;simp[g8,g9,g10]
end Go.Proofs.YtfgljaglidhjiaaGreatDoor
namespace Go.Book
open List(length_flatMap map_take)
open Go Go.Abs Go.Rock
def Pz(lo hi s:Int):Int:=if hi<s∨s<lo then s else lo
end Go.Book
namespace Go.Proofs.YtfgljaglidhjiaaGreatDoor
open List(length_flatMap map_take)
open Go Go.Abs Go.Rock Go.Book
variable {σ:SK}
def AV(b:Bk)(x:wI)(m:cU):Int:=match Rock.run b.bO m b.aw with
 |some r=>Pz x.lo x.hi (vV b.bO m r x)
 |none=>x.lo
theorem TW{b:cC}{m:cU}{aw:List (List Int)}{x:wI}{r:RunT}(hr:xK b aw.length [x]=0)(hrun:Rock.run b m aw=some r):
  ∃n A,QS b [m] aw [x]=.dM [.aI n A,.aI (if CK x.lo x.hi (vV b m r x)=0 then 0 else 1) (if CK x.lo x.hi (vV b m r x)=0 then []else A4 (0,0,CK x.lo x.hi (vV b m r x))),.int .i64 0]∧D.bC A=true:=by
 have h1:xM b aw [m]=some [r]:=by simp[xM,hrun]
 refine⟨(Kg b [x] 0 [(m,r)] ([],[])).1.length,(Kg b [x] 0 [(m,r)] ([],[])).1.flatMap aT,?_,bz _⟩;unfold QS;rw[if_pos hr,h1];by_cases hz:CK x.lo x.hi (vV b m r x)=0<;>simp[Kg,z7,Eg,hz]
theorem ajT{b:cC}{m:cU}{aw:List (List Int)}{x:wI}(hr:xK b aw.length [x]≠0):QS b [m] aw [x]=.dM [.aI 0 [],.aI 0 [],.int .i64 (xK b aw.length [x])]:=by
 unfold QS;rw[if_neg hr]
theorem Dg{b:cC}{n:Int}{x:wI}:xK b n [x]=vU b n x:=by
 simp only[xK,aL,bG,di];by_cases h:vU b n x=0<;>simp[h]
theorem Eh{b:Bk}{m:cU}{x:wI}(ht:b.bO.cz≠[])(hok:Ok b.bO [m] b.aw)(hw:0≤x.rn∧x.rn≤255)(hσ:σ≠[]):
  bx T (.call false lY [.agg [.int .i64 b.bO.f.x,.int .i64 b.bO.f.y,.int .i64 b.bO.f.z,.int .i64 b.bO.f.k,nl Rw.enc b.bO.cz,.int .i64 b.bO.bL,.int .i64 b.bO.lift,.int .i64 b.bO.deep,nl bJ.enc b.bO.ar],.aI 1 [.str m.name,.aI m.bu.length (m.bu.flatMap aT)],nl pE b.aw,.aI 1 x.enc] σ)=some (.val (QS b.bO [m] b.aw [x]) σ):=by
 have h:=PH (σ:=σ) (wq:=nl bJ.enc b.bO.ar) ug hok (rd:=[x]) (by simp) (by intro y hy;simp at hy;subst hy;exact hw) hσ;rw[eI ht];simpa[Qj]using h
theorem aiA{F:List Abs.aF}{b:Bk}{er:List Int}{m:cU}{x:wI}{w:Int}{r:RunT}(ht:b.bO.cz≠[])(hok:Ok b.bO [m] b.aw)(hw:0≤x.rn∧x.rn≤255)(hr:vU b.bO b.aw.length x=0)(hrun:Rock.run b.bO m b.aw=some r):
  bx T (.call false eR [.agg [.str m.name,.aI m.bu.length (m.bu.flatMap aT)],.bI [.ref σ.length 6 0 0],.ref (σ.length+1+1) 0 0 0,.bI [.aI 4 [.int .i64 w,.int .i64 x.idx,.int .i64 x.lo,.int .i64 x.hi]]] ([]::[.cells 0 x.enc]::F::b.bA σ.length er::σ))=some (.val (.int .i64 (AV b x m)) ([]::[.cells 0 x.enc]::F::b.bA σ.length er::σ)):=by
 refine aA Bp mg.eq_1 rfl ?_;have hS:=fun S hS=>Eh (σ:=S) ht hok hw hS
 obtain⟨n,A,h1,hA⟩:=TW (b:=b.bO) (m:=m) (aw:=b.aw) (x:=x) (by rw[Dg];exact hr) hrun;rw[h1]at hS;have hd:=Rdv.of hr;have hb:=TK (hok.fv m (by simp)) (NW.of (hok.fv m (by simp)) hok.aS hrun) hd;obtain⟨e1,e2,e3⟩:=hd.ends;have hv:AV b x m=Pz x.lo x.hi (vV b.bO m r x):=by simp[AV,hrun]
 rw[hv];have hm:=Qv (lo:=x.lo) (hi:=x.hi) (s:=vV b.bO m r x) e2;generalize vV b.bO m r x=s at *
 simp only[wI.enc]at hS ⊢;unfold ahf at hm;by_cases c1:x.hi<s
 ·rw[if_pos c1]at hm;have c2:¬s-x.hi=0:=by omega
  have c3:0<s-x.hi:=by omega
  have w1:IntKind.i64.wrap (x.hi+(s-x.hi))=s:=by rw[show x.hi+(s-x.hi)=s by omega];exact fT (by omega)
  have hq:Pz x.lo x.hi s=s:=by simp[Pz,c1]
  rw[hm]at hS;simp[-length_flatMap,-map_take,Bk.bA,Bk.cells,hS,c1,(show ¬s≤x.hi by omega),c2,c3,w1,hq,A4,hA]
 ·rw[if_neg c1]at hm;by_cases c4:s<x.lo
  ·rw[if_pos c4]at hm;have c2:¬s-x.lo=0:=by omega
   have c3:¬0<s-x.lo:=by omega
   have w1:IntKind.i64.wrap (x.lo+(s-x.lo))=s:=by rw[show x.lo+(s-x.lo)=s by omega];exact fT (by omega)
   have hq:Pz x.lo x.hi s=s:=by simp[Pz,c4]
   rw[hm]at hS;simp[-length_flatMap,-map_take,Bk.bA,Bk.cells,hS,(show ¬x.lo<s by omega),c2,c3,w1,hq,A4,hA]
  ·rw[if_neg c4]at hm;have hq:Pz x.lo x.hi s=x.lo:=by simp[Pz,c1,c4]
   rw[hm]at hS;simp[-length_flatMap,-map_take,Bk.bA,Bk.cells,hS,hq,hA]
def zi(b:Bk)(x:wI):Bk×Int :=
 if ct b.av=[]then(b,8)else if cA x.rn 0 255=true then(if vU b.bO b.aw.length x=0 then(wX b x.lo x.hi (AV b x),0)else(b,vU b.bO b.aw.length x))else(b,1)
theorem aiB{F:List Abs.aF}{b:Bk}{er:List Int}{nm:List UInt8}{w i lo hi:Int}{b':Bk}{e:Int}(ht:b.bO.cz≠[])(hw:b.pj.length=b.av.length)(hml:b.av.length≤40)(hok:∀e∈b.av,Ok b.bO [e.m] b.aw)(hrun:∀e∈b.av,e.left=true→∃r,Rock.run b.bO e.m b.aw=some r)(hd:zi b ⟨b.aw.length,w,i,lo,hi⟩=(b',e))(he:e=0):
  bx T (.call false gf [.ref σ.length 6 0 0,.str nm,.aI 4 [.int .i64 w,.int .i64 i,.int .i64 lo,.int .i64 hi]] (F::b.bA σ.length er::σ))=some (.val (.dM []) (F::b'.bA σ.length er::σ)):=by
 refine gH wv kJ.eq_1 rfl (by simp) ?_;unfold zi at hd;split at hd
 case isTrue=>cases hd;cases he
 rename_i c1;split at hd
 case isFalse=>cases hd;cases he
 rename_i c2;split at hd
 case isFalse=>cases hd;rename_i h;exact absurd he h
 rename_i c3;cases hd;have c2i:=ba.1 c2;have q1:0<(ct b.av).length:=aN.2 c1;have hLf:=fun S=>GJ (σ:=σ) (b:=b) (er:=er) (S:=S) (by omega)
 obtain⟨e0,ls,hls⟩:∃e0 ls,ct b.av=e0::ls:=by
  cases h:ct b.av with
  |nil=>exact absurd h c1
  |cons a l=>exact⟨a,l,rfl⟩
 have he0:e0∈b.av∧e0.left=true:=dk.1 (show e0∈ct b.av by rw[hls];simp);obtain⟨r0,hr0⟩:=hrun e0 he0.1 he0.2;have w1:IntKind.u8.wrap w=w:=wu8 (by omega);have hS:=fun S hS=>Eh (σ:=S) (x:=⟨b.aw.length,w,i,lo,hi⟩) ht (hok e0 he0.1) (by simpa using c2i) hS
 obtain⟨n,A,h1,hA⟩:=TW (b:=b.bO) (m:=e0.m) (aw:=b.aw) (x:=⟨b.aw.length,w,i,lo,hi⟩) (by rw[Dg];exact c3) hr0;rw[h1]at hS;have hst:=NQ (σ:=σ) (A:=[.cells 0 (wI.enc ⟨b.aw.length,w,i,lo,hi⟩)]) (F:=F) (b:=b) (er:=er) (lo:=lo) (hi:=hi) (val:=AV b ⟨b.aw.length,w,i,lo,hi⟩) (fv:=.fn eR [] [.bI [.ref σ.length 6 0 0],.ref (σ.length+1+1) 0 0 0,.bI [.aI 4 [.int .i64 w,.int .i64 i,.int .i64 lo,.int .i64 hi]]]) rfl rfl hw hml (by
  intro k e he hl;obtain⟨r,hr⟩:=hrun e he hl;have h:=aiA (σ:=σ) (F:=F) (er:=er) (b:=b.kH lo hi (AV b ⟨b.aw.length,w,i,lo,hi⟩) k) (m:=e.m) (x:=⟨b.aw.length,w,i,lo,hi⟩) (w:=w) ht (hok e he) (by simpa using c2i) c3 hr;rw[sc];have h':bx T (.call false eR ([]++[.agg [.str e.m.name,.aI e.m.bu.length (e.m.bu.flatMap aT)]]++[.bI [.ref σ.length 6 0 0],.ref (σ.length+1+1) 0 0 0,.bI [.aI 4 [.int .i64 w,.int .i64 i,.int .i64 lo,.int .i64 hi]]]) ([]::[.cells 0 (wI.enc ⟨b.aw.length,w,i,lo,hi⟩)]::F::(b.kH lo hi (AV b ⟨b.aw.length,w,i,lo,hi⟩) k).bA σ.length er::σ))=_:=h;rw[h'];rfl)
 rw[hls]at hLf;simp only[Bk.bA,Bk.cells,wI.enc]at hst hLf hS;have hcl:∀T,D.bC (if T=0 then []else A4 (0,0,T))=true:=fun T=>by split<;>simp[A4]
 simp[-length_flatMap,-map_take,Bk.bA,Bk.cells,hLf,cH,ff,c2,w1,hS,oG,hA,hcl,hst,bz]
theorem VO{F:List Abs.aF}{b:Bk}{er:List Int}{nm:List UInt8}{w i lo hi:Int}{b':Bk}{e:Int}(ht:ct b.av≠[]→b.bO.cz≠[])(hml:b.av.length≤40)(hok:∀e∈b.av,Ok b.bO [e.m] b.aw)(hd:zi b ⟨b.aw.length,w,i,lo,hi⟩=(b',e))(he:e≠0):
  bx T (.call false gf [.ref σ.length 6 0 0,.str nm,.aI 4 [.int .i64 w,.int .i64 i,.int .i64 lo,.int .i64 hi]] (F::b.bA σ.length er::σ))=some (.fX (rf e) (F::b.bA σ.length er::σ)):=by
 refine eg wv kJ.eq_1 rfl ?_;have hLf:=fun S=>GJ (σ:=σ) (b:=b) (er:=er) (S:=S) (by omega)
 simp only[Bk.bA,Bk.cells]at hLf;unfold zi at hd;split at hd
 case isTrue c1 =>
  cases hd;simp[-length_flatMap,-map_take,Bk.bA,Bk.cells,hLf,c1,dI,D.clean,rf]
 rename_i c1;have ht:=ht c1;have q1:0<(ct b.av).length:=aN.2 c1;split at hd
 case isFalse c2 =>
  cases hd;have c2':cA w 0 255=false:=by simpa using c2
  simp[-length_flatMap,-map_take,Bk.bA,Bk.cells,hLf,q1,ff,c2',cH,dI,D.clean,rf]
 rename_i c2;have c2i:=ba.1 c2;split at hd
 case isTrue=>cases hd;exact absurd rfl he
 rename_i c3;cases hd;obtain⟨e0,ls,hls⟩:∃e0 ls,ct b.av=e0::ls:=by
  cases h:ct b.av with
  |nil=>exact absurd h c1
  |cons a l=>exact⟨a,l,rfl⟩
 have he0:e0∈b.av∧e0.left=true:=dk.1 (show e0∈ct b.av by rw[hls];simp);have w1:IntKind.u8.wrap w=w:=wu8 (by omega);have hS:=fun S hS=>Eh (σ:=S) (x:=⟨b.aw.length,w,i,lo,hi⟩) ht (hok e0 he0.1) (by simpa using c2i) hS
 rw[ajT (by rw[Dg];exact c3),Dg]at hS;have hM:=fun σ=>pO (σ:=σ) c3
 generalize vU b.bO b.aw.length ⟨b.aw.length,w,i,lo,hi⟩=err at hS hM c3 he ⊢;have hrc:(D.ud 311 (.agg [.int .i64 err])).clean=true:=rfl;rw[hls]at hLf;simp only[wI.enc]at hS;simp[-length_flatMap,-map_take,Bk.bA,Bk.cells,hLf,cH,ff,c2,w1,hS,hM,bz,rf,hrc]
end Go.Proofs.YtfgljaglidhjiaaGreatDoor
namespace Go.Book
open List(length_flatMap map_take)
open Go Go.Abs Go.Rock
def P7:List Prt→Int
 |[]=>0
 |p::l=>p.width+P7 l
def AR:List Prt→Int→Int
 |[],_=>0
 |p::l,m=>p.wj*min m p.width+AR l (m-min m p.width)
def L6:List Prt→Int→Int
 |[],m=>m
 |p::l,m=>L6 l (m-min m p.width)
def Fl(l:List Prt):Prop:=∀p∈l,(0≤p.wj∧p.wj≤1000)∧1≤p.width∧p.width≤100000
theorem CA:∀{l:List Prt} {last:Int},last≤1000→zl last l=true→Fl l
 |[],_,_,_=>by intro p hp;cases hp
 |q::l,last,hl,h=>by
  simp only[zl,Prt.ok,af,ba]at h;intro p hp;rcases bf.1 hp with rfl | hp
  ·omega
  ·exact CA (by omega) h.2 p hp
theorem QD:∀{l:List Prt} {m:Int},Fl l→0≤m→0≤AR l m∧AR l m≤1000*m
 |[],m,_,hm=>by simp[AR];omega
 |p::l,m,h,hm=>by
  have h1:=h p (by simp);have h2:=QD (l:=l) (m:=m-min m p.width) (fun q hq=>h q (by simp[hq])) (by omega);have h3:0≤p.wj*min m p.width:=eC h1.1.1 (by omega);have h4:p.wj*min m p.width≤1000*min m p.width:=fJ h1.1.2 (by omega);simp only[AR];omega
end Go.Book
namespace Go.Proofs.YtfgljaglidhjiaaGreatDoor
open List(length_flatMap map_take)
open Go Go.Abs Go.Rock Go.Book
variable {σ:SK}
theorem aj7{l:List Prt}(hs:Fl l)(hl:l.length≤8):∀(m i:Nat) (out:Int),i+m=l.length→0≤out→out≤100000*i →
  WL T [2,6,7,8] false jP [(2,.int .i64 out),(6,.aI l.length (l.flatMap Prt.enc)),(7,.int .i64 l.length),(8,.int .i64 i)] σ
   (fun x e σ'=>x=.exit 0∧σ'=σ∧get e 2=.int .i64 (out+P7 (l.drop i)))
 |0,i,out,hi,h0,ho=>by
  refine aO jP.eq_1 ?_;have h1:¬i<l.length:=by omega
  have h2:l.drop i=[]:=aB (by omega);simp[-length_flatMap,-map_take,h1,h2,P7]
 |m+1,i,out,hi,h0,ho=>by
  refine aO jP.eq_1 ?_;have h1:i<l.length:=by omega
  obtain⟨p,hp⟩:=gE h1;have hfl:=bS (f:=Prt.enc) (w:=2) (fun _=>rfl) hp;have hd:=cM hp;have h4:=gq h1 (by omega);have hb:=hs p (aj hp);have w1:IntKind.i64.wrap (out+p.width)=out+p.width:=fT (by omega);have ih:=aj7 hs hl m (i+1) (out+p.width) (by omega) (by omega) (by omega);rw[hd,P7];simp[-length_flatMap,-map_take,h1,hfl,h4,w1];exact WL.to ih (by simp) rfl fun x e σ' hh=>by simpa[Int.add_assoc]using hh
theorem PJ{u:y7}(hs:Fl u.parts)(hl:u.parts.length≤8):bx T (.call false jk [.agg u.enc] σ)=some (.val (.int .i64 (P7 u.parts)) σ):=by
 refine aA Br mi.eq_1 rfl ?_;simp[-length_flatMap,-map_take,AD];refine WL.to (aj7 (σ:=[]::σ) hs hl u.parts.length 0 0 (by omega) (by omega) (by omega)) (by simp) rfl ?_;rintro x e σ' ⟨rfl,rfl,g2⟩;simp[-length_flatMap,-map_take,g2]
def lpP(L:Nat):xc:={state:=0,wU:=none,env:=[(4,.ref L 0 0 0)],params:=[10,11],Ay:=mj,body:=mm }
def Pm(σ:SK)(out mass:Int):SK:=[.cells 0 [.int .i64 out],.cells 0 [.int .i64 mass],.loop (lpP σ.length)]::σ
theorem aiQ{p:Prt}{out mass m:Int}(hp:(0≤p.wj∧p.wj≤1000)∧1≤p.width∧p.width≤100000)(hm:0≤m∧m≤1000000)(ho:0≤out∧out≤1000000000000):
  bx T (.round σ.length 2 [.agg p.enc,.int .i64 m] ([]::Pm σ out mass))=some (.val (.bool true) ([]::Pm σ (out+p.wj*m) mass)):=by
 have q1:0≤p.wj*m:=eC hp.1.1 hm.1;have q2:p.wj*m≤1000*1000000:=lL hp.1.2 hm.2 hm.1 (by omega);have w1:IntKind.i64.wrap (p.wj*m)=p.wj*m:=fT (by omega);have w2:IntKind.i64.wrap (out+p.wj*m)=out+p.wj*m:=fT (by omega);refine Pc (lp:=lpP σ.length) (by simp[Pm]) rfl ?_;rw[show(lpP σ.length).Ay=mj from rfl,mj.eq_1,show(lpP σ.length).body=mm from rfl];simp[-length_flatMap,-map_take,zD mm.eq_1,lpP,Pm,UT,w1,w2]
theorem Wb{l:List Prt}(hs:Fl l)(hl:l.length≤8):∀(k i:Nat) (out m:Int),i+k=l.length→0≤m→m≤1000000→0≤out→out≤1000000000*i →
  WL T [0,2,8,9,10] false lh [(0,.mB σ.length 2),(2,.ref σ.length 1 0 0),(8,.aI l.length (l.flatMap Prt.enc)),(9,.int .i64 l.length),(10,.int .i64 i)] ([]::Pm σ out m)
   (fun x e σ'=>x=.exit 0∧σ'=[]::Pm σ (out+AR (l.drop i) m) (L6 (l.drop i) m))
 |0,i,out,m,hi,hm,hm2,h0,ho=>by
  refine aO lh.eq_1 ?_;have h1:¬i<l.length:=by omega
  have h2:l.drop i=[]:=aB (by omega);simp[-length_flatMap,-map_take,h1,h2,AR,L6]
 |k+1,i,out,m,hi,hm,hm2,h0,ho=>by
  refine aO lh.eq_1 ?_;have h1:i<l.length:=by omega
  obtain⟨p,hp⟩:=gE h1;have hfl:=bS (f:=Prt.enc) (w:=2) (fun _=>rfl) hp;have hd:=cM hp;have h4:=gq h1 (by omega);have hb:=hs p (aj hp);have hmn:0≤min m p.width∧min m p.width≤m:=by omega
  have hR:=aiQ (σ:=σ) (p:=p) (out:=out) (mass:=m) (m:=min m p.width) hb (by omega) (by omega);have q1:0≤p.wj*min m p.width:=eC hb.1.1 hmn.1;have q2:p.wj*min m p.width≤1000*1000000:=lL hb.1.2 (by omega) hmn.1 (by omega);have w1:IntKind.i64.wrap (m-min m p.width)=m-min m p.width:=fT (by omega);have ih:=Wb hs hl k (i+1) (out+p.wj*min m p.width) (m-min m p.width) (by omega) (by omega) (by omega) (by omega) (by omega);rw[hd,AR,L6];simp only[Pm,Prt.enc]at hR;simp[-length_flatMap,-map_take,h1,hfl,h4,Pm,hR,w1];exact WL.to ih (by simp) (by simp[Pm]) fun x e σ' hh=>by simpa[Int.add_assoc,Pm]using hh
theorem apK{u:y7}{mass:Int}{bs:List Abs.aF}:bx T (.call true nk [.agg u.enc,.int .i64 mass] (bs::σ))=some (.val (.fn iO [] [.bI u.enc,.ref σ.length bs.length 0 0]) ((bs++[.cells 0 [.int .i64 mass]])::σ)):=by
 refine wO Fy pS.eq_1 rfl ?_;simp[-length_flatMap,-map_take,AD]
theorem aiI{u:y7}{out m:Int}(hs:Fl u.parts)(hl:u.parts.length≤8)(hm:0≤m∧m≤1000000)(h0:0≤out∧out≤0):
  bx T (.call false iO [.mB σ.length 2,.bI u.enc,.ref σ.length 1 0 0] (Pm σ out m))=some (.val (.dM []) (Pm σ (out+AR u.parts m) (L6 u.parts m))):=by
 refine gH Dv nS.eq_1 rfl (by simp[Pm]) ?_;have h:=Wb (σ:=σ) hs hl u.parts.length 0 out m (by omega) hm.1 hm.2 h0.1 (by omega);rw[aP]at h;simp[-length_flatMap,-map_take];refine WL.to h (by simp) (by simp) ?_;rintro x e σ' ⟨rfl,rfl⟩;simp
theorem aiw{u:y7}{m:Int}(hs:Fl u.parts)(hl:u.parts.length≤8)(hm:0≤m∧m≤1000000):
  bx T (.call false lW [.agg u.enc,.int .i64 m] σ)=some (.val (.int .i64 (AR u.parts m)) σ):=by
 refine aA En oL.eq_1 rfl ?_;have hU:=fun bs=>apK (σ:=σ) (u:=u) (mass:=m) (bs:=bs)
 have h1:=aiI (σ:=σ) (u:=u) (out:=0) hs hl hm (by omega);simp only[y7.enc]at hU h1 ⊢;simp[-length_flatMap,-map_take,hU,AD];refine Ro (d:=.dM []) (σ2:=Pm σ (0+AR u.parts m) (L6 u.parts m)) (lp:=lpP σ.length) (by simp;exact⟨rfl,rfl,rfl⟩) ?_ (by simp[Pm]) (by simp[lpP]) ?_
 ·simpa[Pm,lpP]using h1
 ·simp[-length_flatMap,-map_take,Pm,lpP]
def Ow(u:y7)(s:yT):Int:=if s.valid=true then(if P7 u.parts<s.m then 2 else if s.h<AR u.parts s.m then 9 else 0)else 1
theorem KB{s:yT}:bx T (.call false kT [.agg s.enc] σ)=some (.val (.int .i64 (if s.valid then 0 else 1)) σ):=by
 refine aA DB n8.eq_1 rfl ?_;have h:=fun σ=>Jc (σ:=σ) (x:=s)
 simp only[yT.enc]at h ⊢;cases hc:s.valid<;>rw[hc]at h<;>simp[-length_flatMap,-map_take,h]
theorem VQ{s:yT}:bx T (.call false mK [.agg s.enc] σ)=some (.val (.bool s.valid) σ):=by
 refine aA Ip sE.eq_1 rfl ?_;have h:=fun σ=>KB (σ:=σ) (s:=s)
 simp only[yT.enc]at h ⊢;cases hc:s.valid<;>rw[hc]at h<;>simp[-length_flatMap,-map_take,h]
theorem VR{s:yT}:bx T (.call false sn [.aI 1 s.enc] σ)=some (.val (.bool s.valid) σ):=by
 refine aA KK vp.eq_1 rfl ?_;have h:=fun σ=>Ax (xq 4 yT.enc (fun _=>rfl)) (T:=T) (σ:=σ) (f:=jS) (g:=iC) (h:=eu) (i:=fm) (l:=[s]) (p:=yT.valid) (fv:=.fn mK [] []) rfl rfl rfl rfl (by simp) (pP.fn fun x _ σ=>VQ) rfl
 simp only[xq,List.length_singleton,aZ,dR,dO,fV,jL,List.all_nil,Bool.and_true]at h;simp only[yT.enc]at h ⊢;simp[-length_flatMap,-map_take,h]
def ai5(u:y7)(s:yT):D:=if Ow u s=0 then .dM [.agg [.int .i64 s.m,.int .i64 (s.h-AR u.parts s.m),.int .i64 s.s,.int .i64 s.g],.int .i64 (AR u.parts s.m),.int .i64 0]else .dM [.agg [.int .i64 0,.int .i64 0,.int .i64 0,.int .i64 0],.int .i64 0,.int .i64 (Ow u s)]
theorem Vt{u:y7}{s:yT}(hu:u.ok=true):bx T (.call false ri [.agg u.enc,.agg s.enc] σ)=some (.val (ai5 u s) σ):=by
 refine aA Jn tM.eq_1 rfl ?_;have hok:=hu;simp only[y7.ok,af,ba]at hok;have hl:u.parts.length≤8:=by omega
 have hs:=CA (by omega) hok.2.2;have hV:=fun σ=>NR (σ:=σ) (u:=u) (by omega)
 have hR:=fun σ=>VR (σ:=σ) (s:=s)
 have hC:=fun σ=>PJ (σ:=σ) hs hl
 rw[hu]at hV;simp only[y7.enc,yT.enc]at hV hR hC ⊢;unfold ai5 Ow;cases c1:s.valid
 ·rw[c1]at hR;simp[-length_flatMap,-map_take,hV,hR,AD]
 rw[c1]at hR;simp only[yT.valid,af,ba]at c1;by_cases c2:P7 u.parts<s.m
 ·simp[-length_flatMap,-map_take,hV,hR,hC,c2,AD]
 have hP:=fun σ=>aiw (σ:=σ) (m:=s.m) hs hl c1.1
 simp only[y7.enc]at hP;have hb:=QD hs c1.1.1;by_cases c3:s.h<AR u.parts s.m
 ·simp[-length_flatMap,-map_take,hV,hR,hC,hP,c2,c3,AD]
 have w1:IntKind.i64.wrap (s.h-AR u.parts s.m)=s.h-AR u.parts s.m:=fT (by omega);simp[-length_flatMap,-map_take,hV,hR,hC,hP,c2,c3,w1,AD]
theorem T3{t:List Rw}(ht:kE t=true){i:Nat}{r:Rw}(hi:t[i]?=some r){x:yT}(hx:x.valid=false):
  bx T (.call false pJ [.aI t.length (t.flatMap Rw.enc),.int .i64 i,.agg x.enc] σ)=some (.val (.dM [.agg (List.replicate 10 (.int .i64 0)),.int .i64 1]) σ):=by
 refine aA D8 sk.eq_1 rfl ?_;have hl:t.length≤20:=by
  simp only[kE,af]at ht;have:=ba.1 ht.1;omega
 have hil:i<t.length:=(aD.1 hi).1;have h1:=fun σ=>Ei (σ:=σ) (t:=t) (by omega)
 have h2:=fun σ=>aj5 (σ:=σ) (t:=t) (n:=i) (by omega)
 have h3:=fun σ=>Jc (σ:=σ) (x:=x)
 have hin:cA i 0 ((t.length:Int)-1)=true:=ba.2 (by omega);rw[hin]at h2;rw[hx]at h3;rw[ht]at h1;simp only[yT.enc]at h3;simp[-length_flatMap,-map_take,h1,h2,h3,List.replicate]
def O5:List Int→Int
 |[]=>0
 |x::l=>l.foldl min x
def O4:List Int→Int
 |[]=>0
 |x::l=>l.foldl max x
theorem akb{l:List Int}(hl:l.length≤1000000):∀(m i:Nat) (a:Int),i+m=l.length →
  WL T [0,3,4] false n0 [(0,.aI l.length (l.flatMap aT)),(3,.int .i64 a),(4,.int .i64 i)] σ (fun x e σ'=>x=.exit 0∧σ'=σ∧get e 3=.int .i64 ((l.drop i).foldl min a))
 |0,i,a,hi=>by
  refine aO n0.eq_1 ?_;have h1:¬i<l.length:=by omega
  have h2:l.drop i=[]:=aB (by omega);simp[-length_flatMap,-map_take,h1,h2]
 |m+1,i,a,hi=>by
  refine aO n0.eq_1 ?_;have h1:i<l.length:=by omega
  obtain⟨n,hn⟩:=gE h1;have a1:=qQ hn;have h4:=gq h1 (by omega);rw[cM hn];simp[-length_flatMap,-map_take,h1,a1,h4];exact WL.to (akb hl m (i+1) (min a n) (by omega)) (by simp) rfl fun x e σ' hh=>by simpa using hh
theorem av1{l:List Int}(hne:l≠[])(hl:l.length≤1000000):bx T (.call false ou [.aI l.length (l.flatMap aT)] σ)=some (.val (.int .i64 (O5 l)) σ):=by
 refine aA GS rK.eq_1 rfl ?_;have h0:0<l.length:=aN.2 hne;obtain⟨x,r,rfl⟩:∃x r,l=x::r:=by
  cases l with
  |nil=>exact absurd rfl hne
  |cons x r=>exact⟨x,r,rfl⟩
 have h1:¬((r.length:Int)+1<1):=by omega
 have h2:(0:Int)<(r.length:Int)+1:=by omega
 simp[-length_flatMap,-map_take,h1,h2];refine WL.to (akb (σ:=[]::σ) hl r.length 1 x (by simp;omega)) (by simp) rfl ?_;rintro x e σ' ⟨rfl,rfl,g3⟩;simp[-length_flatMap,-map_take,g3,O5]
theorem aka{l:List Int}(hl:l.length≤1000000):∀(m i:Nat) (a:Int),i+m=l.length →
  WL T [0,3,4] false nZ [(0,.aI l.length (l.flatMap aT)),(3,.int .i64 a),(4,.int .i64 i)] σ (fun x e σ'=>x=.exit 0∧σ'=σ∧get e 3=.int .i64 ((l.drop i).foldl max a))
 |0,i,a,hi=>by
  refine aO nZ.eq_1 ?_;have h1:¬i<l.length:=by omega
  have h2:l.drop i=[]:=aB (by omega);simp[-length_flatMap,-map_take,h1,h2]
 |m+1,i,a,hi=>by
  refine aO nZ.eq_1 ?_;have h1:i<l.length:=by omega
  obtain⟨n,hn⟩:=gE h1;have a1:=qQ hn;have h4:=gq h1 (by omega);rw[cM hn];simp[-length_flatMap,-map_take,h1,a1,h4];exact WL.to (aka hl m (i+1) (max a n) (by omega)) (by simp) rfl fun x e σ' hh=>by simpa using hh
theorem av0{l:List Int}(hne:l≠[])(hl:l.length≤1000000):bx T (.call false ot [.aI l.length (l.flatMap aT)] σ)=some (.val (.int .i64 (O4 l)) σ):=by
 refine aA GR rJ.eq_1 rfl ?_;have h0:0<l.length:=aN.2 hne;obtain⟨x,r,rfl⟩:∃x r,l=x::r:=by
  cases l with
  |nil=>exact absurd rfl hne
  |cons x r=>exact⟨x,r,rfl⟩
 have h1:¬((r.length:Int)+1<1):=by omega
 have h2:(0:Int)<(r.length:Int)+1:=by omega
 simp[-length_flatMap,-map_take,h1,h2];refine WL.to (aka (σ:=[]::σ) hl r.length 1 x (by simp;omega)) (by simp) rfl ?_;rintro x e σ' ⟨rfl,rfl,g3⟩;simp[-length_flatMap,-map_take,g3,O4]
theorem apG{l:List Int}(hne:l≠[])(hl:l.length≤1000000):bx T (.call false rh [.aI l.length (l.flatMap aT)] σ)=some (.val (.agg [.int .i64 (O5 l),.int .i64 (O4 l)]) σ):=by
 refine aA Jm tL.eq_1 rfl ?_;have h1:=fun σ=>av1 (σ:=σ) hne hl
 have h2:=fun σ=>av0 (σ:=σ) hne hl
 simp[-length_flatMap,-map_take,h1,h2]
end Go.Proofs.YtfgljaglidhjiaaGreatDoor
set_option maxRecDepth 100000
namespace Go.Proofs.YtfgljaglidhjiaaGreatDoor
open List(length_flatMap map_take)
open Go Go.Abs Go.Rock Go.Book
variable {σ:SK}
def azI:Rw:=⟨0,0,0,0,0⟩
def azJ:y7:=⟨0,[]⟩
def rowOf(b:Bk)(lv:Nat):Rw:=(b.bO.cz[lv]?).getD azI
def CU(b:Bk)(u:Nat):y7:=(b.fg[u]?).getD azJ
def yA(b:Bk)(r:RunT)(w:Nat):yT:=⟨(bU (rowAt r.2 (b.aw.length-1)) w).m,(bU (rowAt r.2 (b.aw.length-1)) w).h,0,0⟩
def wW(r:Rw)(x:yT):yT:=⟨iW r x,au1 r x,0,au0 r x⟩
def CS(b:Bk)(w lv u:Nat)(m:cU):Int:=match Rock.run b.bO m b.aw with
 |some r=>if(yA b r w).valid=true then Ow (CU b u) (wW (rowOf b lv) (yA b r w))else 1
 |none=>9
def xN(b:Bk)(w lv u:Nat)(m:cU):Int:=match Rock.run b.bO m b.aw with
 |some r=>AR (CU b u).parts (wW (rowOf b lv) (yA b r w)).m
 |none=>0
def Gz(b:Bk)(σ:SK)(w lv u:Nat)(price:Int)(acc:List Int)(rest:List nJ)(x:Abs.Exit)(e:Env)(σ':SK):Prop :=
 if di (fun e=>CS b w lv u e.m) rest=0 then
  x=.exit 0∧get e 0=.ref (σ.length-1-1) 6 0 0∧get e 7=.int .i64 w∧get e 10=.int .i64 price∧get e 11=.sl σ.length 0 (acc++rest.map fun e=>xN b w lv u e.m).length 0 (acc++rest.map fun e=>xN b w lv u e.m).length 1 ∧
   σ'=[.cells (acc++rest.map fun e=>xN b w lv u e.m).length ((acc++rest.map fun e=>xN b w lv u e.m).flatMap aT)]::σ
 else x=.fX (rf (di (fun e=>CS b w lv u e.m) rest))∧∃s,σ'=s::σ
theorem PY{F:List Abs.aF}{b:Bk}{er:List Int}{ls:List nJ}{w lv u:Nat}{price:Int}(ht:kE b.bO.cz=true)(hok:∀e∈ls,Ok b.bO [e.m] b.aw)(hrun:∀e∈ls,∃r,Rock.run b.bO e.m b.aw=some r)(hp:b.aw≠[])(hl:ls.length≤1000000)
  (hw:w<b.bO.ar.length) (hlv:lv<b.bO.cz.length) (hu:u<b.fg.length) (huk:∀x∈b.fg,x.ok=true):∀(m i:Nat) (acc:List Int),i+m=ls.length→acc.length=i →
  WL T [0,7,8,9,10,11,86,87,88] false kf [(0,.ref σ.length 6 0 0),(7,.int .i64 w),(8,.int .i64 lv),(9,.int .i64 u),(10,.int .i64 price),(11,.sl (F::b.bA σ.length er::σ).length 0 i 0 i 1),(86,.aI ls.length (ls.flatMap nJ.enc)),(87,.int .i64 ls.length),(88,.int .i64 i)] ([.cells i (acc.flatMap aT)]::F::b.bA σ.length er::σ)
   (Gz b (F::b.bA σ.length er::σ) w lv u price acc (ls.drop i))
 |0,i,acc,hi,ha=>by
  refine aO kf.eq_1 ?_;obtain rfl:i=ls.length:=by omega
  have h5:ls.drop ls.length=[]:=aB (by omega);simp[-length_flatMap,-map_take,h5,Gz,ha,di]
 |m+1,i,acc,hi,ha=>by
  refine aO kf.eq_1 ?_;have h1:i<ls.length:=by omega
  obtain⟨e,he⟩:=gE h1;have hem:=aj he;have hO:=hok e hem;obtain⟨r,hr⟩:=hrun e hem;have hfl:=bS (f:=nJ.enc) (w:=4) (fun _=>rfl) he;have h4:=gq h1 (by omega);have htl:b.bO.cz.length≤20:=by
   simp only[kE,af]at ht;have:=ba.1 ht.1;omega
  have hE:uj b.bO e.m b.aw=0:=by
   have hfit:=hO.fit e.m (by simp);simp[uj,Bd,hO.valid,hfit,hO.pl,hr]
  have hD:zX b.bO e.m b.aw=.agg [.aI r.1.length (r.1.flatMap yK),.aI r.2.length (r.2.flatMap yK)]:=by
   obtain⟨r1,r2⟩:=r;simp[zX,hE,hr]
  have hsh:=hO.short e.m (by simp);have hP:=fun S hS=>Vv (σ:=S) (b:=b.bO) (m:=e.m) (aw:=b.aw) (wq:=nl bJ.enc b.bO.ar) ug (by omega) (by have:=hO.bv.ar;omega) (by omega) (by omega) (by have:=hO.U3;omega) (fun l hl=>by have:=(hO.aS l hl).len;have:=hO.bv.ar;omega) hS
  rw[hE,hD,Qj]at hP;have htn:b.bO.cz≠[]:=by intro hh;rw[hh]at hlv;simp at hlv
  have hRun:=NW.of (hO.fv e.m (by simp)) hO.aS hr;have hpl:0<b.aw.length:=aN.2 hp;have hpl2:=hO.U3;obtain⟨hrow,hY⟩:=ahA hRun (t:=b.aw.length-1) (by omega);have f1:=bS (f:=yK) (w:=1) (fun _=>rfl) hrow;rw[dL]at f1;have hyw:(rowAt r.2 (b.aw.length-1))[w]?=some (bU (rowAt r.2 (b.aw.length-1)) w):=by
   have:w<(rowAt r.2 (b.aw.length-1)).length:=by rw[hY.len];exact hw
   simp[bU,this]
  have f2:=bS (f:=Rock.aF.enc) (w:=3) (fun _=>rfl) hyw;have hyl:=hY.len;have w1:IntKind.i64.wrap ((b.aw.length:Int)-1)=b.aw.length-1:=fT (by omega);have t1:((b.aw.length:Int)-1).toNat=b.aw.length-1:=by omega
  have q1:(1:Int)≤b.aw.length:=by omega
  have q2:(b.aw.length:Int)-1<r.2.length:=by rw[hRun.yl];omega
  have hrw:b.bO.cz[lv]?=some (rowOf b lv):=by simp[rowOf,hlv]
  have hun:b.fg[u]?=some (CU b u):=by simp[CU,hu]
  have f3:=bS (f:=y7.enc) (w:=2) (fun _=>rfl) hun;have hul:=T0 b.fg;have q3:2≤b.fg.length*2-u*2:=by omega
  have hX:=fun σ=>Vt (σ:=σ) (u:=CU b u) (s:=wW (rowOf b lv) (yA b r w)) (huk _ (aj hun))
  rw[cM he];have hs0:CS b w lv u e.m=if(yA b r w).valid=true then Ow (CU b u) (wW (rowOf b lv) (yA b r w))else 1:=by simp[CS,hr]
  cases c1:(yA b r w).valid with
  |false =>
   have hF:=fun σ=>T3 (σ:=σ) ht hrw c1
   have hM:=fun σ=>pO (σ:=σ) (e:=1) (by decide)
   have hs1:CS b w lv u e.m=1:=by rw[hs0,c1];rfl
   simp only[yT.enc,yA,List.replicate]at hF;simp[-length_flatMap,-map_take,h1,hfl,h4,Bk.bA,Bk.cells,eI htn,eI hp,hP,oG,bz,f1,f2,w1,t1,q1,q2,hyl,hw,hF,hM,hs1,yK,Gz,di]
  |true =>
   have hF:=fun σ=>aif (σ:=σ) ht hrw c1
   simp only[yT.enc,yA]at hF;have hs1:CS b w lv u e.m=Ow (CU b u) (wW (rowOf b lv) (yA b r w)):=by rw[hs0,c1];rfl
   have hv1:xN b w lv u e.m=AR (CU b u).parts (wW (rowOf b lv) (yA b r w)).m:=by simp[xN,hr]
   by_cases c2:Ow (CU b u) (wW (rowOf b lv) (yA b r w))=0
   ·have hacc:=CF acc;have hta:(acc.flatMap aT).take i=acc.flatMap aT:=ak (by omega);have hroom:(i+1)*8≤room:=by unfold room;omega
    have ih:=PY (F:=F) (er:=er) (price:=price) ht hok hrun hp hl hw hlv hu huk m (i+1) (acc++[xN b w lv u e.m]) (by omega) (by simp[ha]);have fin:∀x e' σ',Gz b (F::b.bA σ.length er::σ) w lv u price (acc++[xN b w lv u e.m]) (ls.drop (i+1)) x e' σ'→Gz b (F::b.bA σ.length er::σ) w lv u price acc (e::ls.drop (i+1)) x e' σ':=fun x e' σ' hh=>by
     have hz:CS b w lv u e.m=0:=by rw[hs1,c2]
     simp only[Gz,di,hz,if_true,aQ,ka,eP]at hh ⊢;exact hh
    unfold ai5 at hX;rw[if_pos c2,← hv1]at hX;simp only[y7.enc,yT.enc,wW,yA]at hX f3;simp[-length_flatMap,-map_take,h1,hfl,h4,Bk.bA,Bk.cells,eI htn,eI hp,hP,oG,bz,f1,f2,w1,t1,q1,q2,hyl,hw,hF,yK,parts,hu,f3,hul,q3,hX,hroom,hacc,hta,ha];exact WL.to ih (by simp) (by simp[Bk.bA,Bk.cells,eI htn,eI hp]) fin
   ·unfold ai5 at hX;rw[if_neg c2]at hX;have hM:=fun σ=>pO (σ:=σ) c2
    have hz:CS b w lv u e.m≠0:=by rw[hs1];exact c2
    rw[← hs1]at hX hM;simp only[y7.enc,yT.enc,wW,yA]at hX f3;simp[-length_flatMap,-map_take,h1,hfl,h4,Bk.bA,Bk.cells,eI htn,eI hp,hP,oG,bz,f1,f2,w1,t1,q1,q2,hyl,hw,hF,yK,parts,hu,f3,hul,q3,hX,hM,hz,Gz,di]
def ahK(b:Bk)(w price:Int)(ws:List Int):Bk:={b with nz:=b.nz++[⟨b.aw.length,w,O5 ws,O4 ws,O5 ws*price,O4 ws*price⟩] }
def Nq(b:Bk)(w lv u price:Int):Bool:=cA w 0 ((b.bO.ar.length:Int)-1) && (cA lv 0 ((b.bO.cz.length:Int)-1) && (cA u 0 ((b.fg.length:Int)-1) && cA price 0 1000))
def I3(b:Bk)(w lv u:Int):Int:=di (fun e=>CS b w.toNat lv.toNat u.toNat e.m) (ct b.av)
def ahL(b:Bk)(w lv u:Int):List Int:=(ct b.av).map fun e=>xN b w.toNat lv.toNat u.toNat e.m
def zj(b:Bk)(w lv u price:Int):Bk×Int :=
 if ct b.av=[]∨b.aw=[]then(b,8)else if Nq b w lv u price=true then(if I3 b w lv u=0 then(ahK b w price (ahL b w lv u),0)else(b,I3 b w lv u))else(b,2)
theorem ajK(l:List We):(l.flatMap We.enc).length=l.length*6:=cm (f:=We.enc) (w:=6) (fun _=>rfl) l
theorem Ia{c d:Int}:∀{l:List Int} {a:Int},(c≤a∧a≤d)→(∀x∈l,c≤x∧x≤d)→c≤l.foldl min a∧l.foldl min a≤d
 |[],a,h,_=>h
 |x::l,a,h,hl=>by
  have h1:=hl x (by simp);exact Ia (l:=l) (a:=min a x) (by omega) fun y hy=>hl y (by simp[hy])
theorem H9{c d:Int}:∀{l:List Int} {a:Int},(c≤a∧a≤d)→(∀x∈l,c≤x∧x≤d)→c≤l.foldl max a∧l.foldl max a≤d
 |[],a,h,_=>h
 |x::l,a,h,hl=>by
  have h1:=hl x (by simp);exact H9 (l:=l) (a:=max a x) (by omega) fun y hy=>hl y (by simp[hy])
theorem ayq{c d:Int}{l:List Int}(h0:c≤0∧0≤d)(hl:∀x∈l,c≤x∧x≤d):(c≤O5 l∧O5 l≤d)∧(c≤O4 l∧O4 l≤d):=by
 cases l with
 |nil=>exact⟨h0,h0⟩
 |cons x l=>exact⟨Ia (hl x (by simp)) fun y hy=>hl y (by simp[hy]),H9 (hl x (by simp)) fun y hy=>hl y (by simp[hy])⟩
theorem ajL{b:Bk}{w lv u:Nat}{m:cU}(hu:u<b.fg.length)(huk:∀x∈b.fg,x.ok=true)(hE:CS b w lv u m=0):0≤xN b w lv u m∧xN b w lv u m≤1000000000:=by
 have hun:b.fg[u]?=some (CU b u):=by simp[CU,hu]
 have hok:=huk _ (aj hun);simp only[y7.ok,af,ba]at hok;have hs:=CA (by omega) hok.2.2;unfold CS at hE;unfold xN;cases hr:Rock.run b.bO m b.aw with
 |none=>simp
 |some r =>
  rw[hr]at hE;simp only at hE ⊢;split at hE
  ·unfold Ow at hE;split at hE
   ·rename_i hv;simp only[yT.valid,af,ba]at hv;have:=QD hs hv.1.1;omega
   ·cases hE
  ·cases hE
theorem aiF{F:List Abs.aF}{b:Bk}{er:List Int}{nm:List UInt8}{w lv u price:Int}{b':Bk}{e:Int}(ht:kE b.bO.cz=true)(hml:b.av.length≤40)(hok:∀e∈b.av,Ok b.bO [e.m] b.aw)(hrun:∀e∈b.av,e.left=true→∃r,Rock.run b.bO e.m b.aw=some r)(huk:∀x∈b.fg,x.ok=true)(hul:b.fg.length≤10)(hwl:b.bO.ar.length≤1000000)(hsl:b.nz.length≤1000000)(hd:zj b w lv u price=(b',e))(he:e=0):
  bx T (.call false gh [.ref σ.length 6 0 0,.str nm,.aI 4 [.int .i64 w,.int .i64 lv,.int .i64 u,.int .i64 price]] (F::b.bA σ.length er::σ))=some (.val (.dM []) (F::b'.bA σ.length er::σ)):=by
 refine gH wy kL.eq_1 rfl (by simp) ?_;unfold zj at hd;split at hd
 case isTrue=>cases hd;cases he
 rename_i c1;split at hd
 case isFalse=>cases hd;cases he
 rename_i c2;split at hd
 case isFalse=>cases hd;rename_i h;exact absurd he h
 rename_i c3;cases hd;have htl:b.bO.cz.length≤20:=by
  simp only[kE,af]at ht;have:=ba.1 ht.1;omega
 have c1a:ct b.av≠[]:=fun h=>c1 (.inl h)
 have c1b:b.aw≠[]:=fun h=>c1 (.inr h)
 have q1:0<(ct b.av).length:=aN.2 c1a;have q2:0<b.aw.length:=aN.2 c1b;have hLf:=fun S=>GJ (σ:=σ) (b:=b) (er:=er) (S:=S) (by omega)
 simp only[Bk.bA,Bk.cells]at hLf;have hc2:=c2;simp only[Nq,af]at hc2;obtain⟨k1,k2,k3,k4⟩:=hc2;have i1:=ba.1 k1;have i2:=ba.1 k2;have i3:=ba.1 k3;have i4:=ba.1 k4;obtain⟨w,rfl⟩:∃n:Nat,w=n:=⟨w.toNat,by omega⟩;obtain⟨lv,rfl⟩:∃n:Nat,lv=n:=⟨lv.toNat,by omega⟩;obtain⟨u,rfl⟩:∃n:Nat,u=n:=⟨u.toNat,by omega⟩;simp only[I3,ahL,Int.toNat_natCast]at c3 ⊢;have w1:IntKind.i64.wrap ((b.bO.ar.length:Int)-1)=b.bO.ar.length-1:=fT (by omega);have w2:IntKind.i64.wrap ((b.bO.cz.length:Int)-1)=b.bO.cz.length-1:=fT (by omega);have w3:IntKind.i64.wrap ((b.fg.length:Int)-1)=b.fg.length-1:=fT (by omega);have hL:=PY (σ:=σ) (F:=F) (er:=er) (ls:=ct b.av) (w:=w) (lv:=lv) (u:=u) (price:=price) ht (fun e he=>hok e (dk.1 he).1) (fun e he=>hrun e (dk.1 he).1 (dk.1 he).2) c1b (by have:=jg (fun e:nJ=>e.left) b.av;simp only[ct];omega) (by omega) (by omega) (by omega) huk (ct b.av).length 0 [] (by omega) rfl;rw[aP]at hL;simp[-length_flatMap,-map_take,Bk.bA,Bk.cells,hLf,q1,q2,cH,ff,w1,w2,w3,k1,k2,k3,k4];refine WL.to hL (by simp) (by simp[Bk.bA,Bk.cells]) ?_;intro x e σ' hq;simp only[Gz,if_pos c3,List.nil_append]at hq;obtain⟨rfl,g0,g7,g10,g11,rfl⟩:=hq;have hbs:∀x∈(ct b.av).map (fun e=>xN b w lv u e.m),0≤x∧x≤1000000000:=by
  intro x hx;simp only[bW]at hx;obtain⟨e,he,rfl⟩:=hx;exact ajL (by omega) huk (vL c3 e he)
 have hwl2:((ct b.av).map (fun e=>xN b w lv u e.m)).length=(ct b.av).length:=by simp
 have hlm:(ct b.av).length≤40:=by have:=jg (fun e:nJ=>e.left) b.av;simp only[ct];omega
 generalize hws:(ct b.av).map (fun e=>xN b w lv u e.m)=ws at *
 have hwne:ws≠[]:=by intro hh;rw[hh]at hwl2;simp at hwl2;omega
 obtain⟨⟨m1,m2⟩,m3,m4⟩:=ayq (by omega) hbs;have hSp:=fun σ=>apG (σ:=σ) hwne (by omega)
 generalize hlo:O5 ws=lo at *
 generalize hhi:O4 ws=hi at *
 have p1:0≤lo*price:=eC m1 i4.1;have p2:lo*price≤1000000000*1000:=lL m2 i4.2 i4.1 (by omega);have p3:0≤hi*price:=eC m3 i4.1;have p4:hi*price≤1000000000*1000:=lL m4 i4.2 i4.1 (by omega);have w4:IntKind.i64.wrap (lo*price)=lo*price:=fT (by omega);have w5:IntKind.i64.wrap (hi*price)=hi*price:=fT (by omega);have hfr:∀S:SK,S.length=σ.length+1+1→cG 0 16 (.sl (σ.length+1+1) 0 ws.length 0 ws.length 1) ([.cells ws.length (ws.flatMap aT)]::S)=(.aI ws.length (ws.flatMap aT),[.dead]::S):=by
  intro S hS;have:=Gl (f:=aT) (w:=1) (fun _=>rfl) (fun _=>by simp[D.clean]) (l:=ws) (j:=0) (v:=ws.length) (bs:=[Abs.aF.cells ws.length (ws.flatMap aT)]) (σ:=S) (by intro h;subst h;simp at hS) (by simp);rw[hS]at this;simpa using this
 have r2:(b.nz.length+1)*48≤room:=by unfold room;omega
 have r3:=ajK b.nz;have r4:(b.nz.flatMap We.enc).take (b.nz.length*6)=b.nz.flatMap We.enc:=ak (by omega);simp[-length_flatMap,-map_take,g0,g7,g10,g11,hfr,hSp,Bk.bA,Bk.cells,w4,w5,r2,r3,r4,ahK,bz,hlo,hhi]
theorem VV{F:List Abs.aF}{b:Bk}{er:List Int}{nm:List UInt8}{w lv u price:Int}{b':Bk}{e:Int}(ht:ct b.av≠[]→kE b.bO.cz=true)(hml:b.av.length≤40)(hok:∀e∈b.av,Ok b.bO [e.m] b.aw)(hrun:∀e∈b.av,e.left=true→∃r,Rock.run b.bO e.m b.aw=some r)(huk:∀x∈b.fg,x.ok=true)(hul:b.fg.length≤10)(hwl:b.bO.ar.length≤1000000)(hsl:b.nz.length≤1000000)(hd:zj b w lv u price=(b',e))(he:e≠0):
  bx T (.call false gh [.ref σ.length 6 0 0,.str nm,.aI 4 [.int .i64 w,.int .i64 lv,.int .i64 u,.int .i64 price]] (F::b.bA σ.length er::σ))=some (.fX (rf e) (F::b.bA σ.length er::σ)):=by
 refine eg wy kL.eq_1 rfl ?_;have hLf:=fun S=>GJ (σ:=σ) (b:=b) (er:=er) (S:=S) (by omega)
 simp only[Bk.bA,Bk.cells]at hLf;unfold zj at hd;split at hd
 case isTrue c1 =>
  cases hd;by_cases c1a:ct b.av=[]
  ·simp[-length_flatMap,-map_take,Bk.bA,Bk.cells,hLf,c1a,dI,D.clean,rf]
  ·have q1:0<(ct b.av).length:=aN.2 c1a;have c1b:b.aw=[]:=c1.resolve_left c1a;simp[-length_flatMap,-map_take,Bk.bA,Bk.cells,hLf,q1,c1b,dI,D.clean,rf]
 rename_i c1;have c1a:ct b.av≠[]:=fun h=>c1 (.inl h)
 have c1b:b.aw≠[]:=fun h=>c1 (.inr h)
 have ht:=ht c1a;have htl:b.bO.cz.length≤20:=by
  simp only[kE,af]at ht;have:=ba.1 ht.1;omega
 have q1:0<(ct b.av).length:=aN.2 c1a;have q2:0<b.aw.length:=aN.2 c1b;have w1:IntKind.i64.wrap ((b.bO.ar.length:Int)-1)=b.bO.ar.length-1:=fT (by omega);have w2:IntKind.i64.wrap ((b.bO.cz.length:Int)-1)=b.bO.cz.length-1:=fT (by omega);have w3:IntKind.i64.wrap ((b.fg.length:Int)-1)=b.fg.length-1:=fT (by omega);split at hd
 case isFalse c2 =>
  cases hd;simp only[Nq]at c2;cases k1:cA w 0 ((b.bO.ar.length:Int)-1)
  ·simp[-length_flatMap,-map_take,Bk.bA,Bk.cells,hLf,q1,q2,cH,ff,w1,w2,w3,k1,dI,D.clean,rf]
  cases k2:cA lv 0 ((b.bO.cz.length:Int)-1)
  ·simp[-length_flatMap,-map_take,Bk.bA,Bk.cells,hLf,q1,q2,cH,ff,w1,w2,w3,k1,k2,dI,D.clean,rf]
  cases k3:cA u 0 ((b.fg.length:Int)-1)
  ·simp[-length_flatMap,-map_take,Bk.bA,Bk.cells,hLf,q1,q2,cH,ff,w1,w2,w3,k1,k2,k3,dI,D.clean,rf]
  cases k4:cA price 0 1000
  ·simp[-length_flatMap,-map_take,Bk.bA,Bk.cells,hLf,q1,q2,cH,ff,w1,w2,w3,k1,k2,k3,k4,dI,D.clean,rf]
  ·exact absurd (by simp[k1,k2,k3,k4]) c2
 rename_i c2;split at hd
 case isTrue=>cases hd;exact absurd rfl he
 rename_i c3;cases hd;have hc2:=c2;simp only[Nq,af]at hc2;obtain⟨k1,k2,k3,k4⟩:=hc2;have i1:=ba.1 k1;have i2:=ba.1 k2;have i3:=ba.1 k3;obtain⟨w,rfl⟩:∃n:Nat,w=n:=⟨w.toNat,by omega⟩;obtain⟨lv,rfl⟩:∃n:Nat,lv=n:=⟨lv.toNat,by omega⟩;obtain⟨u,rfl⟩:∃n:Nat,u=n:=⟨u.toNat,by omega⟩;simp only[I3,Int.toNat_natCast]at c3 ⊢;have hL:=PY (σ:=σ) (F:=F) (er:=er) (ls:=ct b.av) (w:=w) (lv:=lv) (u:=u) (price:=price) ht (fun e he=>hok e (dk.1 he).1) (fun e he=>hrun e (dk.1 he).1 (dk.1 he).2) c1b (by have:=jg (fun e:nJ=>e.left) b.av;simp only[ct];omega) (by omega) (by omega) (by omega) huk (ct b.av).length 0 [] (by omega) rfl;rw[aP]at hL;simp[-length_flatMap,-map_take,Bk.bA,Bk.cells,hLf,q1,q2,cH,ff,w1,w2,w3,k1,k2,k3,k4];refine WL.to hL (by simp) (by simp[Bk.bA,Bk.cells]) ?_;intro x e σ' hq;simp only[Gz,if_neg c3]at hq;obtain⟨rfl,s,rfl⟩:=hq;simp[Bk.bA,Bk.cells,D.clean,rf]
def UJ:List Int→List Rw
 |a::b::c::d::e::l=>⟨a,b,c,d,e⟩::UJ l
 |_=>[]
def UI:List Int→List Trem.wJ
 |a::b::c::d::l=>⟨⟨a,b,c⟩,d⟩::UI l
 |_=>[]
def Lb:List Int→List (Int×Int)
 |a::b::l=>(a,b)::Lb l
 |_=>[]
theorem Tl:∀(m:Nat) {l:List Int},l.length=m*5→(UJ l).flatMap Rw.enc=l.flatMap aT∧(UJ l).length=m
 |0,l,h=>by
  have:l=[]:=bR.1 (by omega);subst this;exact⟨rfl,rfl⟩
 |m+1,l,h=>by
  match l,h with
  |a::b::c::d::e::l,h =>
   have ih:=Tl m (l:=l) (by simp at h;omega);simp[UJ,ih.1,ih.2,aT]
  |[],h=>simp at h
  |[_],h=>simp at h;omega
  |[_,_],h=>simp at h;omega
  |[_,_,_],h=>simp at h;omega
  |[_,_,_,_],h=>simp at h;omega
theorem Tk:∀(m:Nat) {l:List Int},l.length=m*4→(UI l).flatMap Trem.wJ.enc=l.flatMap aT∧(UI l).length=m
 |0,l,h=>by
  have:l=[]:=bR.1 (by omega);subst this;exact⟨rfl,rfl⟩
 |m+1,l,h=>by
  match l,h with
  |a::b::c::d::l,h =>
   have ih:=Tk m (l:=l) (by simp at h;omega);simp[UI,ih.1,ih.2,aT]
  |[],h=>simp at h
  |[_],h=>simp at h;omega
  |[_,_],h=>simp at h;omega
  |[_,_,_],h=>simp at h;omega
theorem MX:∀(m:Nat) {l:List Int},l.length=m*2→(Lb l).flatMap zr=l.flatMap aT∧(Lb l).length=m
 |0,l,h=>by
  have:l=[]:=bR.1 (by omega);subst this;exact⟨rfl,rfl⟩
 |m+1,l,h=>by
  match l,h with
  |a::b::l,h =>
   have ih:=MX m (l:=l) (by simp at h;omega);simp[Lb,ih.1,ih.2,aT,zr]
  |[],h=>simp at h
  |[_],h=>simp at h;omega
def Pw(p:Int×Int):Prt:=⟨p.1,p.2⟩
theorem ajx(l:List (Int×Int)):(l.map Pw).flatMap Prt.enc=l.flatMap zr:=by
 induction l with
 |nil=>rfl
 |cons p l ih=>simp only[aQ,aZ,ih];rfl
def ahC:List Int→Trem.dc
 |[x0,x1,x2,x3,x4,x5,x6,x7,x8,x9]=>⟨⟨x0,x1,x2⟩,⟨x3,x4,x5⟩,x6,x7,x8,x9⟩
 |_=>⟨⟨0,0,0⟩,⟨0,0,0⟩,0,0,0,0⟩
def wh(b:Bk)(k:Nat)(nm:List UInt8)(l:List Int):Bk×Int :=
 match k with
 |0=>match l with
  |[x,y,z,k]=>yi b x y z k
  |_=>(b,4)
 |1=>ym b (UJ l)
 |2=>match l with
  |[x,y,z]=>H5 b x y z
  |_=>(b,4)
 |3=>match l with
  |[x,y,z]=>zk b x y z
  |_=>(b,4)
 |4=>yj b ⟨nm,l⟩
 |5=>match l with
  |k::lo::hi::r=>H6 b (rS nm k lo hi (Lb r))
  |_=>(b,4)
 |6=>Cs b (ahC l) (ahC l).Oh
 |7=>match l with
  |[x,y,z]=>if Trem.pf x y z=true then(OV b x y z,0)else(b,1)
  |_=>(b,4)
 |8=>yk b (UI l)
 |9=>wg b l
 |10=>match l with
  |[w,i,lo,hi]=>zi b ⟨b.aw.length,w,i,lo,hi⟩
  |_=>(b,4)
 |11=>match l with
  |i::r=>Ct b ⟨i,(Lb r).map Pw⟩
  |_=>(b,4)
 |12=>match l with
  |[w,lv,u,p]=>zj b w lv u p
  |_=>(b,4)
 |_=>(b,4)
def oe(b:Bk)(n:Int)(s:List UInt8):Bk×Int:=match parse s with
 |some (w,nm,l)=>wh {b with at_:=n } w.k nm l
 |none=>(b,4)
structure Kv(n:Nat)(b:Bk):Prop where
 cz:b.bO.cz=[]∨kE b.bO.cz=true
 ready:b.ready=true→b.bO.valid=true
 ar:b.ready=false→b.bO.ar=[]
 ms:b.av≠[]→b.ready=true
 ml:b.av.length≤40
 wl:b.pj.length=b.av.length
 fit:∀e∈b.av,Bd b.bO e.m=true∧e.m.name.length≤1000000∧e.m.bu.length≤1000000
 pm:b.aw≠[]→b.av≠[]
 pl:uO b.bO b.aw=0
 CN:∀e∈b.av,e.left=true→∃r,Rock.run b.bO e.m b.aw=some r
 rules:b.rules.length≤20
 wY:b.wY.length≤200
 Kr:∀e∈b.wY,e.ok=true
 keep:Trem.pf b.k0 b.k1 b.k2=true
 fg:b.fg.length≤10
 uok:∀u∈b.fg,u.ok=true
 nz:b.nz.length≤n
theorem aj0{t:List Rw}(h:t=[]∨kE t=true):t.length≤20:=by
 rcases h with rfl | h
 ·simp
 ·simp only[kE,af]at h;have:=ba.1 h.1;omega
theorem Fo{t:List Rw}(h:kE t=true):t≠[]:=by
 intro hh;subst hh;simp[kE,cA]at h
theorem CL{s:List UInt8}{w:Wd}{nm:List UInt8}{l:List Int}(h:parse s=some (w,nm,l)):(∃a,xR a=some w)∧Hr w l.length=true∧nm.length≤s.length∧l.length≤s.length+1:=by
 have hlen:=AZ 32 s;have hle:=GA 32 s;unfold parse at h;cases hsp:de 32 s with
 |nil=>exact absurd hsp (vh 32 s)
 |cons a all =>
 rw[hsp]at h hlen hle;simp only[aL]at hlen;simp only at h;cases hw:xR a with
 |none=>rw[hw]at h;cases h
 |some w0 =>
 rw[hw]at h;simp only at h;have key:∀nm0 (l0:List (List UInt8)),uh w0 nm0 l0=some (w,nm,l)→w0=w∧nm0=nm∧Hr w l.length=true∧l.length=l0.length:=by
  intro nm0 l0 hp;unfold uh at hp;cases hm:oE l0 with
  |none=>rw[hm]at hp;cases hp
  |some ns =>
   rw[hm]at hp;simp only[aC,ae,an]at hp;obtain⟨hf,rfl,rfl,rfl⟩:=hp;exact⟨rfl,rfl,hf,zW hm⟩
 split at h
 ·cases all with
  |nil=>cases h
  |cons n r =>
   obtain⟨rfl,rfl,h3,h4⟩:=key n r h;refine⟨⟨a,hw⟩,h3,hle n (by simp),?_⟩;simp at hlen;omega
 ·obtain⟨rfl,rfl,h3,h4⟩:=key [] all h;exact⟨⟨a,hw⟩,h3,by simp,by omega⟩
def doR(F:List Abs.aF)(b:Bk)(er:List Int)(σ:SK)(r:Bk×Int):R:=if r.2=0 then .val (.dM []) (F::r.1.bA σ.length er::σ)else .fX (rf r.2) (F::b.bA σ.length er::σ)
theorem u0{F:List Abs.aF}{b:Bk}{er:List Int}{r:Bk×Int}{q:Q}(h1:∀b' e,r=(b',e)→e=0→bx T q=some (.val (.dM []) (F::b'.bA σ.length er::σ)))(h2:∀b' e,r=(b',e)→e≠0→bx T q=some (.fX (rf e) (F::b.bA σ.length er::σ))):
  bx T q=some (doR F b er σ r):=by
 obtain⟨b',e⟩:=r;unfold doR;by_cases he:e=0
 ·rw[if_pos he];exact h1 b' e rfl he
 ·rw[if_neg he];exact h2 b' e rfl he
theorem zo{l:List Int}{n:Nat}(h:l.length=n+1):∃a r,l=a::r∧r.length=n:=by
 cases l with
 |nil=>simp at h
 |cons a r=>exact⟨a,r,rfl,by simpa using h⟩
theorem ag8{l:List Int}(h:l.length=3):∃a0 a1 a2,l=[a0,a1,a2]:=by
 obtain⟨a0,r0,e0,h0⟩:=zo (n:=2) h;obtain⟨a1,r1,e1,h1⟩:=zo (n:=1) h0;obtain⟨a2,r2,e2,h2⟩:=zo (n:=0) h1;have e:=bR.1 h2;exact⟨a0,a1,a2,by rw[e0,e1,e2,e]⟩
theorem ag9{l:List Int}(h:l.length=4):∃a0 a1 a2 a3,l=[a0,a1,a2,a3]:=by
 obtain⟨a0,r0,e0,h0⟩:=zo (n:=3) h;obtain⟨a1,r1,e1,h1⟩:=zo (n:=2) h0;obtain⟨a2,r2,e2,h2⟩:=zo (n:=1) h1;obtain⟨a3,r3,e3,h3⟩:=zo (n:=0) h2;have e:=bR.1 h3;exact⟨a0,a1,a2,a3,by rw[e0,e1,e2,e3,e]⟩
theorem atT{l:List Int}(h:l.length=10):∃a0 a1 a2 a3 a4 a5 a6 a7 a8 a9,l=[a0,a1,a2,a3,a4,a5,a6,a7,a8,a9]:=by
 obtain⟨a0,r0,e0,h0⟩:=zo (n:=9) h;obtain⟨a1,r1,e1,h1⟩:=zo (n:=8) h0;obtain⟨a2,r2,e2,h2⟩:=zo (n:=7) h1;obtain⟨a3,r3,e3,h3⟩:=zo (n:=6) h2;obtain⟨a4,r4,e4,h4⟩:=zo (n:=5) h3;obtain⟨a5,r5,e5,h5⟩:=zo (n:=4) h4;obtain⟨a6,r6,e6,h6⟩:=zo (n:=3) h5;obtain⟨a7,r7,e7,h7⟩:=zo (n:=2) h6;obtain⟨a8,r8,e8,h8⟩:=zo (n:=1) h7;obtain⟨a9,r9,e9,h9⟩:=zo (n:=0) h8;have e:=bR.1 h9;exact⟨a0,a1,a2,a3,a4,a5,a6,a7,a8,a9,by rw[e0,e1,e2,e3,e4,e5,e6,e7,e8,e9,e]⟩
theorem E6{w:Wd}{n:Nat}(h:Hr w n=true)(hs:w.step=0):(n:Int)=w.least:=by
 simp only[Hr,cb,af,au]at h;omega
theorem IX{w:Wd}{n:Nat}(h:Hr w n=true)(hs:0<w.step)(hl:0≤w.least):w.least≤n∧((n:Int)-w.least)%w.step=0:=by
 simp only[Hr,cb,af,au]at h;rcases h with h | ⟨h1,h2,h3⟩
 ·refine⟨by omega,?_⟩;rw[h];simp
 ·refine⟨by omega,?_⟩;rwa[Int.tmod_eq_emod_of_nonneg (by omega)]at h3
theorem Ok.one{b:cC}{m:cU}{aw:List (List Int)}(hb:b.valid=true)(hf:Bd b m=true)(hp:uO b aw=0)(hn:m.name.length≤1000000000):Ok b [m] aw:=by
 have hbv:=Bv.of hb;have hfit:fits b m=true:=by simp only[Bd,af]at hf;exact hf.2
 have hfv:=Fv.of hf;have hm:b.f.av [m]=0:=by
  have h:=hfit;simp only[fits,af,au]at h;have h1:=h.1;unfold gV at h1;rw[if_pos hbv.fv]at h1;exact h1
 obtain⟨p1,p2⟩:=AQ hp;exact⟨hbv,hb,by simp,hm,by simpa using hfit,by simpa using hfv,by intro x hx;simp at hx;subst hx;exact⟨hn,hfv.toMv.le.2⟩,hp,p1,p2⟩
theorem Qw{b:cC}{m:cU}(hb:b.valid=true)(hf:Bd b m=true):b.f.model m=0:=by
 have hfit:fits b m=true:=by simp only[Bd,af]at hf;exact hf.2
 rw[Tc (Bv.of hb),af,au]at hfit;exact hfit.1
theorem aAy{F:List Abs.aF}{b:Bk}{er:List Int}{s:List UInt8}{w:Wd}{nm:List UInt8}{l:List Int}{n:Nat}(hK:Kv n b)(hn:n≤1000000)(hp:parse s=some (w,nm,l))(hs:s.length≤4000):
  bx T (.call false ((LW[w.k]?).getD 0) [.ref σ.length 6 0 0,.str nm,.aI l.length (l.flatMap aT)] (F::b.bA σ.length er::σ))=some (doR F b er σ (wh b w.k nm l)):=by
 obtain⟨⟨a,ha⟩,hfit,hnm,hll⟩:=CL hp;have htl:=aj0 hK.cz;have hv:b.ready=true→Bv b.bO:=fun h=>Bv.of (hK.ready h)
 have hrt:b.ready=true→kE b.bO.cz=true:=fun h=>(hv h).cz
 have hwl:b.bO.ar.length≤8:=by
  cases hr:b.ready with
  |true=>exact(hv hr).ar
  |false=>rw[hK.ar hr];simp
 have hmr:b.av≠[]→kE b.bO.cz=true:=fun h=>hrt (hK.ms h)
 have hlm:ct b.av≠[]→b.av≠[]:=fun h hh=>h (by rw[hh];rfl)
 have hz:Sz b:=⟨by omega,by omega,fun e he=>⟨by have:=(hK.fit e he).2.1;omega,by have:=(hK.fit e he).2.2;omega⟩⟩;have hplz:=AQ hK.pl;have hbv:b.av≠[]→b.bO.valid=true:=fun h=>hK.ready (hK.ms h)
 have hne:∀e∈b.av,b.av≠[]:=fun e he hh=>by rw[hh]at he;cases he
 have hok:∀e∈b.av,Ok b.bO [e.m] b.aw:=fun e he=>Ok.one (hbv (hne e he)) (hK.fit e he).1 hK.pl (hz.ms e he).1
 have hfm:∀e∈b.av,b.bO.f.model e.m=0:=fun e he=>Qw (hbv (hne e he)) (hK.fit e he).1
 have hsp:∀e∈b.wY,e.sp.length≤1000000:=fun e he=>by
  have:=hK.Kr e he;simp only[Trem.Ev.ok,af]at this;have:=Trem.ba.1 this.2.1;omega
 have h1:=C6 ha;simp only[oB,bf,an,List.not_mem_nil,or_false]at h1;rcases h1 with⟨_,rfl⟩ | ⟨_,rfl⟩ | ⟨_,rfl⟩ | ⟨_,rfl⟩ | ⟨_,rfl⟩ | ⟨_,rfl⟩ | ⟨_,rfl⟩ | ⟨_,rfl⟩ | ⟨_,rfl⟩ | ⟨_,rfl⟩ | ⟨_,rfl⟩ | ⟨_,rfl⟩ | ⟨_,rfl⟩
 ·have hl:l.length=4:=by
   have h:(l.length:Int)=4:=E6 hfit rfl;omega
  obtain⟨x,y,z,k,rfl⟩:=ag9 hl;exact u0 (fun b' e hd he=>ain hd he) (fun b' e hd he=>T6 hd he)
 ·have hl:=(IX hfit (by decide) (by decide)).2;simp only[Int.sub_zero]at hl;obtain⟨h5,h6⟩:=Tl (l.length / 5) (l:=l) (by omega);have hlen:(UJ l).length*5=l.length:=by omega
  rw[← h5,← hlen];exact u0 (fun b' e hd he=>aiG (by omega) hd he) (fun b' e hd he=>Ug (by omega) hd he)
 ·have hl:l.length=3:=by
   have h:(l.length:Int)=3:=E6 hfit rfl;omega
  obtain⟨x,y,z,rfl⟩:=ag8 hl;exact u0 (fun b' e hd he=>apt (by omega) (by omega) hd he) (fun b' e hd he=>Vx (by omega) (by omega) hd he)
 ·have hl:l.length=3:=by
   have h:(l.length:Int)=3:=E6 hfit rfl;omega
  obtain⟨x,y,z,rfl⟩:=ag8 hl;refine u0 (fun b' e hd he=>?_) (fun b' e hd he=>V0 (fun h=>Fo (hrt h)) (by omega) (by omega) hd he);have hr:b.ready=true:=by
   have hd2:zk b x y z=(b',e):=hd;unfold zk at hd2;split at hd2
   ·rename_i h;exact h.1
   ·cases hd2;cases he
  exact apM (Fo (hrt hr)) (by omega) (by omega) hd he
 ·exact u0 (fun b' e hd he=>VH (m:=⟨nm,l⟩) (by omega) (by omega) (by simp;omega) (by simp;omega) hK.wl hd he) (fun b' e hd he=>T8 (m:=⟨nm,l⟩) (by omega) (by omega) (by simp;omega) (by simp;omega) hK.ml hd he)
 ·obtain⟨hl1,hl2⟩:=IX hfit (by decide) (by decide);simp only at hl1 hl2;obtain⟨k,l,rfl,hl⟩:=zo (n:=l.length-1) (l:=l) (by omega);simp only[aL]at hl1 hl2 hll;obtain⟨lo,l,rfl,hl⟩:=zo (n:=l.length-1) (l:=l) (by omega);simp only[aL]at hl1 hl2 hll;obtain⟨hi,l,rfl,hl⟩:=zo (n:=l.length-1) (l:=l) (by omega);simp only[aL]at hl1 hl2 hll;obtain⟨h5,h6⟩:=MX (l.length / 2) (l:=l) (by omega);have hlen:(Lb l).length*2+3=l.length+1+1+1:=by omega
  simp only[aZ,aL,aT,eP];rw[← h5,← hlen];refine u0 (fun b' e hd he=>apB (by omega) (by omega) hK.wl hK.ml (fun e he=>⟨hfm e he,hz.ms e he⟩) hd he) (fun b' e hd he=>aiu (by omega) (by omega) hd he)
 ·have hl:l.length=10:=by
   have h:(l.length:Int)=10:=E6 hfit rfl;omega
  obtain⟨x0,x1,x2,x3,x4,x5,x6,x7,x8,x9,rfl⟩:=atT hl;exact u0 (fun b' e hd he=>apD hd he) (fun b' e hd he=>VS hd he)
 ·have hl:l.length=3:=by
   have h:(l.length:Int)=3:=E6 hfit rfl;omega
  obtain⟨x,y,z,rfl⟩:=ag8 hl;refine u0 (fun b' e hd he=>?_) (fun b' e hd he=>?_)
  ·have hd2:(if Trem.pf x y z=true then(OV b x y z,0)else(b,1))=(b',e):=hd;split at hd2
   ·rename_i h;cases hd2;exact apx h
   ·cases hd2;cases he
  ·have hd2:(if Trem.pf x y z=true then(OV b x y z,0)else(b,1))=(b',e):=hd;split at hd2
   ·cases hd2;exact absurd rfl he
   ·rename_i h;cases hd2;exact VE (by simpa using h)
 ·have hl:=(IX hfit (by decide) (by decide)).2;simp only[Int.sub_zero]at hl;obtain⟨h5,h6⟩:=Tk (l.length / 4) (l:=l) (by omega);have hlen:(UI l).length*4=l.length:=by omega
  rw[← h5,← hlen];exact u0 (fun b' e hd he=>aix (by omega) hd he) (fun b' e hd he=>Ub (by omega) hd he)
 ·have hpl:∀r∈b.aw,r.length≤1000000000:=fun r hr=>by have:=(hplz.2 r hr).len;omega
  refine u0 (fun b' e hd he=>?_) (fun b' e hd he=>VW (fun h=>Fo (hmr (hlm h))) hz (by omega) hK.ml (by have:=hK.rules;omega) (by have:=hK.wY;omega) hsp hK.keep hpl hd he);have hr:ct b.av≠[]:=by
   have hd2:wg b l=(b',e):=hd;unfold wg at hd2;split at hd2
   ·cases hd2;cases he
   ·rename_i h;exact h
  exact aiH (Fo (hmr (hlm hr))) hz (by omega) hK.ml (by have:=hK.rules;omega) (by have:=hK.wY;omega) hsp hK.keep hpl hd he
 ·have hl:l.length=4:=by
   have h:(l.length:Int)=4:=E6 hfit rfl;omega
  obtain⟨w,i,lo,hi,rfl⟩:=ag9 hl;refine u0 (fun b' e hd he=>?_) (fun b' e hd he=>VO (fun h=>Fo (hmr (hlm h))) hK.ml hok hd he);have hr:ct b.av≠[]:=by
   have hd2:zi b ⟨b.aw.length,w,i,lo,hi⟩=(b',e):=hd;unfold zi at hd2;split at hd2
   ·cases hd2;cases he
   ·rename_i h;exact h
  exact aiB (Fo (hmr (hlm hr))) hK.wl hK.ml hok hK.CN hd he
 ·obtain⟨hl1,hl2⟩:=IX hfit (by decide) (by decide);simp only at hl1 hl2;obtain⟨i,l,rfl,hl⟩:=zo (n:=l.length-1) (l:=l) (by omega);simp only[aL]at hl1 hl2 hll;obtain⟨h5,h6⟩:=MX (l.length / 2) (l:=l) (by omega);have hlen:((Lb l).map Pw).length*2+1=l.length+1:=by simp;omega
  simp only[aZ,aL,aT,eP];rw[← h5,← hlen,← ajx];exact u0 (fun b' e hd he=>apJ (u:=⟨i,(Lb l).map Pw⟩) (by simp;omega) hd he) (fun b' e hd he=>VX (u:=⟨i,(Lb l).map Pw⟩) (by simp;omega) hd he)
 ·have hl:l.length=4:=by
   have h:(l.length:Int)=4:=E6 hfit rfl;omega
  obtain⟨w,i,lo,hi,rfl⟩:=ag9 hl;refine u0 (fun b' e hd he=>?_) (fun b' e hd he=>VV (fun h=>hmr (hlm h)) hK.ml hok hK.CN hK.uok hK.fg (by omega) (by have:=hK.nz;omega) hd he);have hr:ct b.av≠[]:=by
   have hd2:zj b w i lo hi=(b',e):=hd;unfold zj at hd2;split at hd2
   ·cases hd2;cases he
   ·rename_i h;exact fun hh=>h (.inl hh)
  exact aiF (hmr (hlm hr)) hK.ml hok hK.CN hK.uok hK.fg (by omega) (by have:=hK.nz;omega) hd he
end Go.Proofs.YtfgljaglidhjiaaGreatDoor
namespace Go.Proofs.YtfgljaglidhjiaaGreatDoor
open List(length_flatMap map_take)
open Go Go.Abs Go.Rock Go.Book
theorem Kv.le{n m:Nat}{b:Bk}(h:Kv n b)(hn:n≤m):Kv m b:={h with nz:=jM h.nz hn }
theorem Kv.zero:Kv 0 rp:=by
 refine⟨.inl rfl,by simp[rp],fun _=>rfl,by simp[rp],by simp[rp],rfl,by simp[rp],by simp[rp],?_,by simp[rp],by simp[rp],by simp[rp],by simp[rp],by decide,by simp[rp],by simp[rp],by simp[rp]⟩;simp[rp,uO,di]
theorem Df{b:cC}:uO b []=0:=by simp[uO,di]
theorem Wl{b:cC}(h:b.valid=true):b.cz≠[]∧¬((b.f.x=0∧b.f.y=0)∧b.f.z=0∧b.f.k=0):=by
 have hv:=Bv.of h;refine⟨Fo hv.cz,fun hh=>?_⟩;have:=hv.x;omega
theorem Kv.M4{n:Nat}{b:Bk}(h:Kv n b)(hm:b.av=[]):b.aw=[]:=by
 by_cases hp:b.aw=[]
 ·exact hp
 ·exact absurd hm (h.pm hp)
theorem Kv.Kc{n:Nat}{b:Bk}(h:Kv n b)(hr:b.ready=false):b.av=[]:=by
 by_cases hp:b.av=[]
 ·exact hp
 ·rw[h.ms hp]at hr;cases hr
theorem Kv.awc{n:Nat}{b:Bk}(h:Kv n b)(k:Int):Kv n {b with at_:=k }:={h with }
theorem ajJ{b:cC}{m:cU}:∃r,Rock.run b m []=some r:=⟨_,rfl⟩
theorem TV{b:Bk}{lo hi:Int}{val:cU→Int}{x:nJ}(h:x∈(wX b lo hi val).av):∃e∈b.av,x.m=e.m∧(x.left=true→e.left=true):=by
 simp only[wX,Bk.kH,List.mem_mapIdx]at h;obtain⟨i,hi,rfl⟩:=h;refine⟨b.av[i],List.getElem_mem hi,?_⟩;rw[if_pos hi];unfold Go.Book.eA;split<;>simp
theorem Kv.ahT{n:Nat}{b:Bk}(h:Kv n b){lo hi:Int}{val:cU→Int}:Kv n (wX b lo hi val):=by
 have hl:(wX b lo hi val).av.length=b.av.length:=GB;have hn:(wX b lo hi val).av=[]↔b.av=[]:=by rw[← bR,hl,bR]
 refine {cz:=h.cz,ready:=h.ready,ar:=h.ar,ms:=fun hh=>h.ms (fun h2=>hh (hn.2 h2)),ml:=by rw[hl];exact h.ml,wl:=by rw[hl,← h.wl];exact GC,fit:=fun x hx=>?_,pm:=fun hh h2=>h.pm hh (hn.1 h2),pl:=h.pl,CN:=fun x hx hxl=>?_,rules:=h.rules,wY:=h.wY,Kr:=h.Kr,keep:=h.keep,fg:=h.fg,uok:=h.uok,nz:=h.nz }
 ·obtain⟨e,he,h1,_⟩:=TV hx;rw[h1];exact h.fit e he
 ·obtain⟨e,he,h1,h2⟩:=TV hx;rw[h1];exact h.CN e he (h2 hxl)
theorem O0{l:List nJ}{e:nJ}(h:e∈ct l):e∈l∧e.left=true:=dk.1 h
theorem Kv.word{n:Nat}{b:Bk}(h:Kv n b){s:List UInt8}{w:Wd}{nm:List UInt8}{l:List Int}(hp:parse s=some (w,nm,l))(hs:s.length≤4000):Kv (n+1) (wh b w.k nm l).1:=by
 obtain⟨_,_,hnm,hll⟩:=CL hp;have h1:=h.le (Nat.le_succ n);generalize w.k=k;unfold wh;split
 ·
  split
  ·unfold yi;split
   ·rename_i hz;split
    ·have hr:b.ready=false:=by
      cases hr:b.ready with
      |false=>rfl
      |true=>exact absurd hz (Wl (h.ready hr)).2
     have hm:=h.Kc hr;have hpl:=h.M4 hm;have hno:∀e,e∈b.av→False:=by rw[hm];simp
     exact {h1 with cz:=h.cz,ready:=fun hh=>(by rw[show b.ready=true from hh]at hr;cases hr),ar:=h.ar,fit:=fun e he=>(hno e he).elim,pl:=by simp only[hpl];exact Df,CN:=fun e he=>(hno e he).elim }
    ·exact h1
   ·exact h1
  ·exact h1
 ·
  unfold ym;split
  ·rename_i hz;split
   ·rename_i ht;have hr:b.ready=false:=by
     cases hr:b.ready with
     |false=>rfl
     |true=>exact absurd hz (Wl (h.ready hr)).1
    have hm:=h.Kc hr;have hpl:=h.M4 hm;have hno:∀e,e∈b.av→False:=by rw[hm];simp
    exact {h1 with cz:=.inr ht,ready:=fun hh=>(by rw[show b.ready=true from hh]at hr;cases hr),ar:=h.ar,fit:=fun e he=>(hno e he).elim,pl:=by simp only[QX,hpl];exact Df,CN:=fun e he=>(hno e he).elim }
   ·exact h1
  ·exact h1
 ·
  split
  ·rename_i x y z;unfold H5;split
   ·exact h1
   ·rename_i hz;split
    ·rename_i hv;have hr:b.ready=false:=by
      cases hr:b.ready with
      |false=>rfl
      |true=>exact absurd (.inr (.inr hr)) hz
     have hm:=h.Kc hr;have hpl:=h.M4 hm;have hno:∀e,e∈b.av→False:=by rw[hm];simp
     exact {h1 with cz:=h.cz,ready:=fun _=>hv,ar:=fun hh=>(by cases hh),ms:=fun _=>rfl,fit:=fun e he=>(hno e he).elim,pl:=by simp only[MK,hpl];exact Df,CN:=fun e he=>(hno e he).elim }
    ·exact h1
  ·exact h1
 ·
  split
  ·rename_i x y z;unfold zk;split
   ·rename_i hz;obtain⟨hr,hm⟩:=hz;split
    ·rename_i hv;have hpl:=h.M4 hm;have hno:∀e,e∈b.av→False:=by rw[hm];simp
     exact {h1 with cz:=h.cz,ready:=fun _=>hv,ar:=fun hh=>(by rw[show b.ready=false from hh]at hr;cases hr),fit:=fun e he=>(hno e he).elim,pl:=by simp only[wF,hpl];exact Df,CN:=fun e he=>(hno e he).elim }
    ·exact h1
   ·exact h1
  ·exact h1
 ·
  unfold yj;split
  ·rename_i hz;obtain⟨hr,hpl⟩:=hz;split
   ·exact h1
   ·split
    ·rename_i hml;split
     ·rename_i hb;refine {h1 with ms:=fun _=>hr,ml:=by simp[HB];omega,wl:=by simp[HB,h.wl],fit:=fun e he=>?_,pm:=fun hh=>absurd hpl hh,CN:=fun e he hl=>?_ }
      ·simp only[HB,bg,List.mem_singleton]at he;rcases he with he | rfl
       ·exact h.fit e he
       ·exact⟨hb,by simp;omega,by simp;omega⟩
      ·simp only[HB];rw[hpl];exact ajJ
     ·exact h1
    ·exact h1
  ·exact h1
 ·
  split
  ·unfold H6;split
   ·exact h1
   ·split
    ·exact h1.ahT
    ·exact h1
  ·exact h1
 ·
  unfold Cs;split
  ·split
   ·split
    ·rename_i hl _ _;exact {h1 with rules:=by simp;omega }
    ·exact h1
   ·exact h1
  ·exact h1
 ·
  split
  ·split
   ·rename_i hk;exact {h1 with keep:=hk }
   ·exact h1
  ·exact h1
 ·
  unfold yk;split
  ·rename_i hl;split
   ·rename_i ho;refine {h1 with wY:=by simp[Nd];omega,Kr:=fun e he=>?_ };simp only[Nd,bg,List.mem_singleton]at he;rcases he with he | rfl
    ·exact h.Kr e he
    ·exact ho
   ·exact h1
  ·exact h1
 ·
  unfold wg;split
  ·exact h1
  ·rename_i hl;split
   ·split
    ·split
     ·split
      ·rename_i hf;obtain⟨e0,he0⟩:=List.exists_mem_of_ne_nil _ hl;have key:∀e∈ct b.av,Bd b.bO e.m=true∧uO b.bO (vS b l)=0∧∃r,Rock.run b.bO e.m (vS b l)=some r:=by
        intro e he;have hz:=vL hf e he;have hb:=(h.fit e (O0 he).1).1;simp only[uj,hb,if_true]at hz;split at hz
        ·rename_i hq;cases hr:Rock.run b.bO e.m (vS b l)with
         |none=>rw[hr]at hz;cases hz
         |some r=>exact⟨hb,hq,r,rfl⟩
        ·rename_i hq;exact absurd hz hq
       refine {h1 with pm:=fun _ hh=>?_,pl:=(key e0 he0).2.1,CN:=fun e he hel=>(key e (dk.2 ⟨he,hel⟩)).2.2 };have:=(O0 he0).1;rw[show b.av=[]from hh]at this;cases this
      ·exact h1
     ·exact h1
    ·exact h1
   ·exact h1
 ·
  split
  ·unfold zi;split
   ·exact h1
   ·split
    ·split
     ·exact h1.ahT
     ·exact h1
    ·exact h1
  ·exact h1
 ·
  split
  ·unfold Ct;split
   ·rename_i hl;split
    ·rename_i ho;refine {h1 with fg:=by simp[TZ];omega,uok:=fun u hu=>?_ };simp only[TZ,bg,List.mem_singleton]at hu;rcases hu with hu | rfl
     ·exact h.uok u hu
     ·exact ho
    ·exact h1
   ·exact h1
  ·exact h1
 ·
  split
  ·unfold zj;split
   ·exact h1
   ·split
    ·split
     ·exact {h1 with nz:=by have:=h.nz;simp[ahK];omega }
     ·exact h1
    ·exact h1
  ·exact h1
 ·exact h1
theorem Kv.line{n:Nat}{b:Bk}(h:Kv n b){s:List UInt8}(hs:s.length≤4000){k:Int}:Kv (n+1) (oe b k s).1:=by
 unfold oe;split
 ·rename_i w nm l hp;exact(h.awc k).word hp hs
 ·exact h.le (Nat.le_succ n)
end Go.Proofs.YtfgljaglidhjiaaGreatDoor
namespace Go.Abs
open List(length_flatMap map_take)
variable {T:yZ}
theorem Od{f:Nat}{fn:Fn}{args:List D}{σ σ':SK}{d:D}{np:Nat}{res:List Fu}{body A q:cX}{fo:bM}{bs:List bM}(hT:T f=some fn)(hf:fn=⟨np,res,body⟩)(hl:args.length=np)(hs:jH body=some (A,fo,bs,q))(hlen:σ'.length=σ.length)
  (h:WC (bx T) A (nw 0 args) ([]::σ) (Nw T fo bs q σ' res d)):
  bx T (.call false f args σ)=some (.val d σ'):=by
 subst hf;obtain⟨x,e1,σ1,h1,rfl,x2,e2,σ2,h2,th,h3,σ3,h4,ds,h5,s,h6⟩:=h;rw[hlen]at h6;refine hJ ?_;have hn:aY (bx T) body (nw 0 args) ([]::σ)=none:=yJ hs h1;simp only[dw,hT,if_pos hl,az,if_false,hn,hs,zJ,h1,h2];have h4':∃dv,qX (bx T) (bj e1 fo) (bs.map (bj e1)) th σ2=some (.val dv σ3):=by
  unfold we at h4;split at h4
  ·rename_i h7;cases h4;exact⟨_,h7⟩
  ·cases h4
 obtain⟨dv,h4'⟩:=h4';cases x2 with
 |exit i=>cases h3
 |normal=>cases h3;simp only[zL,h4',uZ,leave,h5,h6]
 |ret=>cases h3;simp only[zL,h4',uZ,leave,h5,h6]
 |fX d=>cases h3;simp only[zL,h4',uZ,leave,h5,h6]
end Go.Abs
namespace Go.Proofs.YtfgljaglidhjiaaGreatDoor
open List(length_flatMap map_take)
open Go Go.Abs Go.Rock Go.Book
variable {σ:SK}
theorem aiV{c:List D}:bx T (.yh da [.ref σ.length 0 0 0] none ([.cells 0 c]::σ))=some (.val (.dM []) ([.cells 0 c]::σ)):=by
 refine Cr uF jh.eq_1 rfl (by simp[-length_flatMap,-map_take,rZ];exact⟨rfl,rfl⟩) ?_;simp[-length_flatMap,-map_take]
theorem Rp{e:Int}:bx T (.yh da [.ref σ.length 0 0 0] (some (rf e)) ([.cells 0 [.int .i64 0]]::σ))=some (.val (.dM []) ([.cells 0 [.int .i64 e]]::σ)):=by
 refine Cr uF jh.eq_1 rfl (by simp[-length_flatMap,-map_take,rZ];exact⟨rfl,rfl⟩) ?_;simp[-length_flatMap,-map_take,rf]
theorem Ut{b:Bk}{k:Nat}{nm:List UInt8}{l:List Int}(h:(wh b k nm l).2≠0):(wh b k nm l).1=b:=by
 unfold wh at h ⊢;split;all_goals
  simp only at h
  try unfold Go.Book.yi at *
  try unfold ym at *
  try unfold H5 at *
  try unfold zk at *
  try unfold yj at *
  try unfold H6 at *
  try unfold Cs at *
  try unfold yk at *
  try unfold wg at *
  try unfold zi at *
  try unfold Ct at *
  try unfold zj at *
  repeat' split
  all_goals first | rfl | (simp_all)
theorem apy{b:Bk}{er:List Int}{s:List UInt8}{n:Nat}{k:Int}(hK:Kv n b)(hn:n≤1000000)(hs:s.length≤4000):
  bx T (.call false aM [.ref σ.length 6 0 0,.int .i64 k,.str s] (b.bA σ.length er::σ))=some (.val (.int .i64 (oe b k s).2) ((oe b k s).1.bA σ.length er::σ)):=by
 refine Od Du nR.eq_1 rfl rfl (by simp) ?_;cases hp:parse s with
 |none =>
  have hP:=fun S=>PQ (σ:=S) (s:=s) (by omega) hp
  have hX:we T (.fn da [] [.ref (σ.length+1) 0 0 0]) [] (some (rf 4)) ([.cells 0 [.int .i64 0]]::b.bA σ.length er::σ)=some ([.cells 0 [.int .i64 4]]::b.bA σ.length er::σ):=uX (Rp (σ:=b.bA σ.length er::σ));have hd:oe b k s=(b,4):=by simp[oe,hp]
  rw[hd];simp only[Bk.bA,Bk.cells,rf]at hX hP;simp[-length_flatMap,-map_take,Nw,BK,Bk.bA,Bk.cells];rw[zD la.eq_1];simp[-length_flatMap,-map_take,Nw,BK,Bk.bA,Bk.cells,hP,hX]
 |some p =>
  obtain⟨w,nm,l⟩:=p;have hP:=fun S hS=>VM (σ:=S) (s:=s) (by omega) hS hp
  have hD:=aAy (σ:=σ) (F:=[.cells 0 [.int .i64 0]]) (er:=er) (hK.awc k) hn hp hs;have hd:oe b k s=wh {b with at_:=k } w.k nm l:=by simp[oe,hp]
  rw[hd];have hno:=Ut (b:={b with at_:=k }) (k:=w.k) (nm:=nm) (l:=l);generalize wh {b with at_:=k } w.k nm l=r at hD hno ⊢;obtain⟨b',e⟩:=r;have hwc:PF w=[.bool w.named,.int .i64 w.least,.int .i64 w.step,.fn ((LW[w.k]?).getD 0) [] []]:=rfl;simp only[yG,hwc]at hP;by_cases he:e=0
  ·subst he;have hX:we T (.fn da [] [.ref (σ.length+1) 0 0 0]) [] none ([.cells 0 [.int .i64 0]]::b'.bA σ.length er::σ)=some ([.cells 0 [.int .i64 0]]::b'.bA σ.length er::σ):=uX (aiV (σ:=b'.bA σ.length er::σ));simp only[doR,if_true]at hD;simp only[Bk.bA,Bk.cells]at hX hD;simp[-length_flatMap,-map_take,Nw,BK,Bk.bA,Bk.cells];rw[zD la.eq_1];simp[-length_flatMap,-map_take,Nw,BK,Bk.bA,Bk.cells,hP,hD,hX]
  ·have hX:we T (.fn da [] [.ref (σ.length+1) 0 0 0]) [] (some (rf e)) ([.cells 0 [.int .i64 0]]::(Bk.bA σ.length {b with at_:=k } er)::σ)=some ([.cells 0 [.int .i64 e]]::(Bk.bA σ.length {b with at_:=k } er)::σ):=uX (Rp (σ:=(Bk.bA σ.length {b with at_:=k } er)::σ));simp only[doR,he,if_false]at hD;have hb':b'={b with at_:=k }:=hno he;subst hb';simp only[Bk.bA,Bk.cells,rf]at hX hD;simp[-length_flatMap,-map_take,Nw,BK,Bk.bA,Bk.cells];rw[zD la.eq_1];simp[-length_flatMap,-map_take,Nw,BK,Bk.bA,Bk.cells,hP,hD,hX]
end Go.Proofs.YtfgljaglidhjiaaGreatDoor
