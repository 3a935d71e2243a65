import Derived.Test.YtklfdfnoebnciaaGreatDoorTxt4
import Derived.Test.YtklfdfnoebnciaaGreatDoorTxt3
import Derived.Test.YtklfdfnoebnciaaGreatDoorTxt2
set_option linter.all false
namespace Go.Book
open List(length_flatMap map_take)
open Go Go.Abs Go.Rock
def K2(lo hi s:Int):Int:=if hi<s∨s<lo then s else lo
end Go.Book
namespace Go.Proofs.YtklfdfnoebnciaaGreatDoor
open List(length_flatMap map_take)
open Go Go.Abs Go.Rock Go.Book
variable {σ:SK}
def zD(b:Bk)(x:vO)(m:cF):Int:=match Rock.run b.bG m b.av with
 |some r=>K2 x.lo x.hi (vl b.bG m r x)
 |none=>x.lo
theorem Ov{b:cf}{m:cF}{av:List (List Int)}{x:vO}{r:RunT}(hr:wS b av.length [x]=0)(hrun:Rock.run b m av=some r):
  ∃n A,Mn b [m] av [x]=.dQ [.aE n A,.aE (if AP x.lo x.hi (vl b m r x)=0 then 0 else 1) (if AP x.lo x.hi (vl b m r x)=0 then []else zL (0,0,AP x.lo x.hi (vl b m r x))),.int .i64 0]∧D.bu A=true:=by
 have h1:wV b av [m]=some [r]:=by simp[wV,hrun]
 refine⟨(GC b [x] 0 [(m,r)] ([],[])).1.length,(GC b [x] 0 [(m,r)] ([],[])).1.flatMap aU,?_,bj _⟩;unfold Mn;rw[if_pos hr,h1];by_cases hz:AP x.lo x.hi (vl b m r x)=0<;>simp[GC,yR,B5,hz]
theorem ac8{b:cf}{m:cF}{av:List (List Int)}{x:vO}(hr:wS b av.length [x]≠0):Mn b [m] av [x]=.dQ [.aE 0 [],.aE 0 [],.int .i64 (wS b av.length [x])]:=by
 unfold Mn;rw[if_neg hr]
theorem Bp{b:cf}{n:Int}{x:vO}:wS b n [x]=vk b n x:=by
 simp only[wS,aD,bh,cN];by_cases h:vk b n x=0<;>simp[h]
theorem B6{b:Bk}{m:cF}{x:vO}(ht:b.bG.cc≠[])(hok:Ok b.bG [m] b.av)(hw:0≤x.qI∧x.qI≤255)(hσ:σ≠[]):
  lim T (.call false lE [.agg [.int .i64 b.bG.f.x,.int .i64 b.bG.f.y,.int .i64 b.bG.f.z,.int .i64 b.bG.f.k,nl Rw.enc b.bG.cc,.int .i64 b.bG.bD,.int .i64 b.bG.lift,.int .i64 b.bG.deep,nl bB.enc b.bG.ak],.aE 1 [.str m.name,.aE m.bf.length (m.bf.flatMap aU)],nl pE b.av,.aE 1 x.enc] σ)=some (.val (Mn b.bG [m] b.av [x]) σ):=by
 have h:=Lc (σ:=σ) (wq:=nl bB.enc b.bG.ak) tT hok (rd:=[x]) (by simp) (by intro y hy;simp at hy;subst hy;exact hw) hσ;rw[dZ ht];simpa[LP]using h
theorem abS{F:List Abs.aG}{b:Bk}{er:List Int}{m:cF}{x:vO}{w:Int}{r:RunT}(ht:b.bG.cc≠[])(hok:Ok b.bG [m] b.av)(hw:0≤x.qI∧x.qI≤255)(hr:vk b.bG b.av.length x=0)(hrun:Rock.run b.bG m b.av=some r):
  lim T (.call false eo [.agg [.str m.name,.aE m.bf.length (m.bf.flatMap aU)],.bw [.ref σ.length 6 0 0],.ref (σ.length+1+1) 0 0 0,.bw [.aE 4 [.int .i64 w,.int .i64 x.idx,.int .i64 x.lo,.int .i64 x.hi]]] ([]::[.cells 0 x.enc]::F::b.bk σ.length er::σ))=some (.val (.int .i64 (zD b x m)) ([]::[.cells 0 x.enc]::F::b.bk σ.length er::σ)):=by
 refine au Aa lO.eq_1 rfl ?_;have hS:=fun S hS=>B6 (σ:=S) ht hok hw hS
 obtain⟨n,A,h1,hA⟩:=Ov (b:=b.bG) (m:=m) (av:=b.av) (x:=x) (by rw[Bp];exact hr) hrun;rw[h1]at hS;have hd:=Rdv.of hr;have hb:=Oc (hok.fv m (by simp)) (JM.of (hok.fv m (by simp)) hok.aN hrun) hd;obtain⟨e1,e2,e3⟩:=hd.ends;have hv:zD b x m=K2 x.lo x.hi (vl b.bG m r x):=by simp[zD,hrun]
 rw[hv];have hm:=LX (lo:=x.lo) (hi:=x.hi) (s:=vl b.bG m r x) e2;generalize vl b.bG m r x=s at *
 simp only[vO.enc]at hS ⊢;unfold aaz at hm;by_cases c1:x.hi<s
 ·rw[if_pos c1]at hm;have c2:¬s-x.hi=0:=by omega
  have c3:0<s-x.hi:=by omega
  have w1:IntKind.i64.wrap (x.hi+(s-x.hi))=s:=by rw[show x.hi+(s-x.hi)=s by omega];exact fK (by omega)
  have hq:K2 x.lo x.hi s=s:=by simp[K2,c1]
  rw[hm]at hS;simp[-length_flatMap,-map_take,Bk.bk,Bk.cells,hS,c1,(show ¬s≤x.hi by omega),c2,c3,w1,hq,zL,hA]
 ·rw[if_neg c1]at hm;by_cases c4:s<x.lo
  ·rw[if_pos c4]at hm;have c2:¬s-x.lo=0:=by omega
   have c3:¬0<s-x.lo:=by omega
   have w1:IntKind.i64.wrap (x.lo+(s-x.lo))=s:=by rw[show x.lo+(s-x.lo)=s by omega];exact fK (by omega)
   have hq:K2 x.lo x.hi s=s:=by simp[K2,c4]
   rw[hm]at hS;simp[-length_flatMap,-map_take,Bk.bk,Bk.cells,hS,(show ¬x.lo<s by omega),c2,c3,w1,hq,zL,hA]
  ·rw[if_neg c4]at hm;have hq:K2 x.lo x.hi s=x.lo:=by simp[K2,c1,c4]
   rw[hm]at hS;simp[-length_flatMap,-map_take,Bk.bk,Bk.cells,hS,hq,hA]
def yf(b:Bk)(x:vO):Bk×Int :=
 if bZ b.an=[]then(b,8)else if bT x.qI 0 255=true then(if vk b.bG b.av.length x=0 then(wa b x.lo x.hi (zD b x),0)else(b,vk b.bG b.av.length x))else(b,1)
theorem abT{F:List Abs.aG}{b:Bk}{er:List Int}{nm:List UInt8}{w i lo hi:Int}{b':Bk}{e:Int}(ht:b.bG.cc≠[])(hw:b.oS.length=b.an.length)(hml:b.an.length≤40)(hok:∀e∈b.an,Ok b.bG [e.m] b.av)(hrun:∀e∈b.an,e.left=true→∃r,Rock.run b.bG e.m b.av=some r)(hd:yf b ⟨b.av.length,w,i,lo,hi⟩=(b',e))(he:e=0):
  lim T (.call false fC [.ref σ.length 6 0 0,.str nm,.aE 4 [.int .i64 w,.int .i64 i,.int .i64 lo,.int .i64 hi]] (F::b.bk σ.length er::σ))=some (.val (.dQ []) (F::b'.bk σ.length er::σ)):=by
 refine fU vB j8.eq_1 rfl (by simp) ?_;unfold yf at hd;split at hd
 case isTrue=>cases hd;cases he
 rename_i c1;split at hd
 case isFalse=>cases hd;cases he
 rename_i c2;split at hd
 case isFalse=>cases hd;rename_i h;exact absurd he h
 rename_i c3;cases hd;have c2i:=aR.1 c2;have q1:0<(bZ b.an).length:=aO.2 c1;have hLf:=fun S=>DM (σ:=σ) (b:=b) (er:=er) (S:=S) (by omega)
 obtain⟨e0,ls,hls⟩:∃e0 ls,bZ b.an=e0::ls:=by
  cases h:bZ b.an with
  |nil=>exact absurd h c1
  |cons a l=>exact⟨a,l,rfl⟩
 have he0:e0∈b.an∧e0.left=true:=cT.1 (show e0∈bZ b.an by rw[hls];simp);obtain⟨r0,hr0⟩:=hrun e0 he0.1 he0.2;have w1:IntKind.u8.wrap w=w:=wu8 (by omega);have hS:=fun S hS=>B6 (σ:=S) (x:=⟨b.av.length,w,i,lo,hi⟩) ht (hok e0 he0.1) (by simpa using c2i) hS
 obtain⟨n,A,h1,hA⟩:=Ov (b:=b.bG) (m:=e0.m) (av:=b.av) (x:=⟨b.av.length,w,i,lo,hi⟩) (by rw[Bp];exact c3) hr0;rw[h1]at hS;have hst:=JI (σ:=σ) (A:=[.cells 0 (vO.enc ⟨b.av.length,w,i,lo,hi⟩)]) (F:=F) (b:=b) (er:=er) (lo:=lo) (hi:=hi) (val:=zD b ⟨b.av.length,w,i,lo,hi⟩) (fv:=.fn eo [] [.bw [.ref σ.length 6 0 0],.ref (σ.length+1+1) 0 0 0,.bw [.aE 4 [.int .i64 w,.int .i64 i,.int .i64 lo,.int .i64 hi]]]) rfl rfl hw hml (by
  intro k e he hl;obtain⟨r,hr⟩:=hrun e he hl;have h:=abS (σ:=σ) (F:=F) (er:=er) (b:=b.j5 lo hi (zD b ⟨b.av.length,w,i,lo,hi⟩) k) (m:=e.m) (x:=⟨b.av.length,w,i,lo,hi⟩) (w:=w) ht (hok e he) (by simpa using c2i) c3 hr;rw[rK];have h':lim T (.call false eo ([]++[.agg [.str e.m.name,.aE e.m.bf.length (e.m.bf.flatMap aU)]]++[.bw [.ref σ.length 6 0 0],.ref (σ.length+1+1) 0 0 0,.bw [.aE 4 [.int .i64 w,.int .i64 i,.int .i64 lo,.int .i64 hi]]]) ([]::[.cells 0 (vO.enc ⟨b.av.length,w,i,lo,hi⟩)]::F::(b.j5 lo hi (zD b ⟨b.av.length,w,i,lo,hi⟩) k).bk σ.length er::σ))=_:=h;rw[h'];rfl)
 rw[hls]at hLf;simp only[Bk.bk,Bk.cells,vO.enc]at hst hLf hS;have hcl:∀T,D.bu (if T=0 then []else zL (0,0,T))=true:=fun T=>by split<;>simp[zL]
 simp[-length_flatMap,-map_take,Bk.bk,Bk.cells,hLf,cl,eH,c2,w1,hS,og,hA,hcl,hst,bj]
theorem Qq{F:List Abs.aG}{b:Bk}{er:List Int}{nm:List UInt8}{w i lo hi:Int}{b':Bk}{e:Int}(ht:bZ b.an≠[]→b.bG.cc≠[])(hml:b.an.length≤40)(hok:∀e∈b.an,Ok b.bG [e.m] b.av)(hd:yf b ⟨b.av.length,w,i,lo,hi⟩=(b',e))(he:e≠0):
  lim T (.call false fC [.ref σ.length 6 0 0,.str nm,.aE 4 [.int .i64 w,.int .i64 i,.int .i64 lo,.int .i64 hi]] (F::b.bk σ.length er::σ))=some (.fx (rf e) (F::b.bk σ.length er::σ)):=by
 refine dJ vB j8.eq_1 rfl ?_;have hLf:=fun S=>DM (σ:=σ) (b:=b) (er:=er) (S:=S) (by omega)
 simp only[Bk.bk,Bk.cells]at hLf;unfold yf at hd;split at hd
 case isTrue c1 =>
  cases hd;simp[-length_flatMap,-map_take,Bk.bk,Bk.cells,hLf,c1,dj,D.clean,rf]
 rename_i c1;have ht:=ht c1;have q1:0<(bZ b.an).length:=aO.2 c1;split at hd
 case isFalse c2 =>
  cases hd;have c2':bT w 0 255=false:=by simpa using c2
  simp[-length_flatMap,-map_take,Bk.bk,Bk.cells,hLf,q1,eH,c2',cl,dj,D.clean,rf]
 rename_i c2;have c2i:=aR.1 c2;split at hd
 case isTrue=>cases hd;exact absurd rfl he
 rename_i c3;cases hd;obtain⟨e0,ls,hls⟩:∃e0 ls,bZ b.an=e0::ls:=by
  cases h:bZ b.an with
  |nil=>exact absurd h c1
  |cons a l=>exact⟨a,l,rfl⟩
 have he0:e0∈b.an∧e0.left=true:=cT.1 (show e0∈bZ b.an by rw[hls];simp);have w1:IntKind.u8.wrap w=w:=wu8 (by omega);have hS:=fun S hS=>B6 (σ:=S) (x:=⟨b.av.length,w,i,lo,hi⟩) ht (hok e0 he0.1) (by simpa using c2i) hS
 rw[ac8 (by rw[Bp];exact c3),Bp]at hS;have hM:=fun σ=>pq (σ:=σ) c3
 generalize vk b.bG b.av.length ⟨b.av.length,w,i,lo,hi⟩=err at hS hM c3 he ⊢;have hrc:(D.tQ 90 (.agg [.int .i64 err])).clean=true:=rfl;rw[hls]at hLf;simp only[vO.enc]at hS;simp[-length_flatMap,-map_take,Bk.bk,Bk.cells,hLf,cl,eH,c2,w1,hS,hM,bj,rf,hrc]
end Go.Proofs.YtklfdfnoebnciaaGreatDoor
namespace Go.Book
open List(length_flatMap map_take)
open Go Go.Abs Go.Rock
def LB:List Prt→Int
 |[]=>0
 |p::l=>p.width+LB l
def zz:List Prt→Int→Int
 |[],_=>0
 |p::l,m=>p.vw*min m p.width+zz l (m-min m p.width)
def H8:List Prt→Int→Int
 |[],m=>m
 |p::l,m=>H8 l (m-min m p.width)
def CJ(l:List Prt):Prop:=∀p∈l,(0≤p.vw∧p.vw≤1000)∧1≤p.width∧p.width≤100000
theorem AD:∀{l:List Prt} {last:Int},last≤1000→yj last l=true→CJ l
 |[],_,_,_=>by intro p hp;cases hp
 |q::l,last,hl,h=>by
  simp only[yj,Prt.ok,ae,aR]at h;intro p hp;rcases bq.1 hp with rfl | hp
  ·omega
  ·exact AD (by omega) h.2 p hp
theorem L9:∀{l:List Prt} {m:Int},CJ l→0≤m→0≤zz l m∧zz l m≤1000*m
 |[],m,_,hm=>by simp[zz];omega
 |p::l,m,h,hm=>by
  have h1:=h p (by simp);have h2:=L9 (l:=l) (m:=m-min m p.width) (fun q hq=>h q (by simp[hq])) (by omega);have h3:0≤p.vw*min m p.width:=dS h1.1.1 (by omega);have h4:p.vw*min m p.width≤1000*min m p.width:=bK h1.1.2 (by omega);simp only[zz];omega
end Go.Book
namespace Go.Proofs.YtklfdfnoebnciaaGreatDoor
open List(length_flatMap map_take)
open Go Go.Abs Go.Rock Go.Book
variable {σ:SK}
theorem ado{l:List Prt}(hs:CJ l)(hl:l.length≤8):∀(m i:Nat) (out:Int),i+m=l.length→0≤out→out≤100000*i →
  WL T [2,6,7,8] false jq [(2,.int .i64 out),(6,.aE l.length (l.flatMap Prt.enc)),(7,.int .i64 l.length),(8,.int .i64 i)] σ
   (fun x e σ'=>x=.exit 0∧σ'=σ∧get e 2=.int .i64 (out+LB (l.drop i)))
 |0,i,out,hi,h0,ho=>by
  refine aH jq.eq_1 ?_;have h1:¬i<l.length:=by omega
  have h2:l.drop i=[]:=az (by omega);simp[-length_flatMap,-map_take,h1,h2,LB]
 |m+1,i,out,hi,h0,ho=>by
  refine aH jq.eq_1 ?_;have h1:i<l.length:=by omega
  obtain⟨p,hp⟩:=gE h1;have hfl:=cj (f:=Prt.enc) (w:=2) (fun _=>rfl) hp;have hd:=dh hp;have h4:=ga h1 (by omega);have hb:=hs p (ai hp);have w1:IntKind.i64.wrap (out+p.width)=out+p.width:=fK (by omega);have ih:=ado hs hl m (i+1) (out+p.width) (by omega) (by omega) (by omega);rw[hd,LB];simp[-length_flatMap,-map_take,h1,hfl,h4,w1];exact WL.to ih (by simp) rfl fun x e σ' hh=>by simpa[Int.add_assoc]using hh
theorem Lf{u:yc}(hs:CJ u.parts)(hl:u.parts.length≤8):lim T (.call false iO [.agg u.enc] σ)=some (.val (.int .i64 (LB u.parts)) σ):=by
 refine au Ac lQ.eq_1 rfl ?_;simp[-length_flatMap,-map_take,zj];refine WL.to (ado (σ:=[]::σ) hs hl u.parts.length 0 0 (by omega) (by omega) (by omega)) (by simp) rfl ?_;rintro x e σ' ⟨rfl,rfl,g2⟩;simp[-length_flatMap,-map_take,g2]
def lpP(L:Nat):wj:={state:=0,wR:=none,env:=[(4,.ref L 0 0 0)],params:=[10,11],zf:=lR,body:=lS }
def KR(σ:SK)(out mass:Int):SK:=[.cells 0 [.int .i64 out],.cells 0 [.int .i64 mass],.loop (lpP σ.length)]::σ
theorem ab8{p:Prt}{out mass m:Int}(hp:(0≤p.vw∧p.vw≤1000)∧1≤p.width∧p.width≤100000)(hm:0≤m∧m≤1000000)(ho:0≤out∧out≤1000000000000):
  lim T (.round σ.length 2 [.agg p.enc,.int .i64 m] ([]::KR σ out mass))=some (.val (.bool true) ([]::KR σ (out+p.vw*m) mass)):=by
 have q1:0≤p.vw*m:=dS hp.1.1 hm.1;have q2:p.vw*m≤1000*1000000:=la hp.1.2 hm.2 hm.1 (by omega);have w1:IntKind.i64.wrap (p.vw*m)=p.vw*m:=fK (by omega);have w2:IntKind.i64.wrap (out+p.vw*m)=out+p.vw*m:=fK (by omega);refine KI (lp:=lpP σ.length) (by simp[KR]) rfl ?_;rw[show(lpP σ.length).zf=lR from rfl,lR.eq_1,show(lpP σ.length).body=lS from rfl];simp[-length_flatMap,-map_take,yC lS.eq_1,lpP,KR,Pr,w1,w2]
theorem QP{l:List Prt}(hs:CJ l)(hl:l.length≤8):∀(k i:Nat) (out m:Int),i+k=l.length→0≤m→m≤1000000→0≤out→out≤1000000000*i →
  WL T [0,2,8,9,10] false kF [(0,.mf σ.length 2),(2,.ref σ.length 1 0 0),(8,.aE l.length (l.flatMap Prt.enc)),(9,.int .i64 l.length),(10,.int .i64 i)] ([]::KR σ out m)
   (fun x e σ'=>x=.exit 0∧σ'=[]::KR σ (out+zz (l.drop i) m) (H8 (l.drop i) m))
 |0,i,out,m,hi,hm,hm2,h0,ho=>by
  refine aH kF.eq_1 ?_;have h1:¬i<l.length:=by omega
  have h2:l.drop i=[]:=az (by omega);simp[-length_flatMap,-map_take,h1,h2,zz,H8]
 |k+1,i,out,m,hi,hm,hm2,h0,ho=>by
  refine aH kF.eq_1 ?_;have h1:i<l.length:=by omega
  obtain⟨p,hp⟩:=gE h1;have hfl:=cj (f:=Prt.enc) (w:=2) (fun _=>rfl) hp;have hd:=dh hp;have h4:=ga h1 (by omega);have hb:=hs p (ai hp);have hmn:0≤min m p.width∧min m p.width≤m:=by omega
  have hR:=ab8 (σ:=σ) (p:=p) (out:=out) (mass:=m) (m:=min m p.width) hb (by omega) (by omega);have q1:0≤p.vw*min m p.width:=dS hb.1.1 hmn.1;have q2:p.vw*min m p.width≤1000*1000000:=la hb.1.2 (by omega) hmn.1 (by omega);have w1:IntKind.i64.wrap (m-min m p.width)=m-min m p.width:=fK (by omega);have ih:=QP hs hl k (i+1) (out+p.vw*min m p.width) (m-min m p.width) (by omega) (by omega) (by omega) (by omega) (by omega);rw[hd,zz,H8];simp only[KR,Prt.enc]at hR;simp[-length_flatMap,-map_take,h1,hfl,h4,KR,hR,w1];exact WL.to ih (by simp) (by simp[KR]) fun x e σ' hh=>by simpa[Int.add_assoc,KR]using hh
theorem akc{u:yc}{mass:Int}{bs:List Abs.aG}:lim T (.call true mL [.agg u.enc,.int .i64 mass] (bs::σ))=some (.val (.fn ie [] [.bw u.enc,.ref σ.length bs.length 0 0]) ((bs++[.cells 0 [.int .i64 mass]])::σ)):=by
 refine vR CS pB.eq_1 rfl ?_;simp[-length_flatMap,-map_take,zj]
theorem ab0{u:yc}{out m:Int}(hs:CJ u.parts)(hl:u.parts.length≤8)(hm:0≤m∧m≤1000000)(h0:0≤out∧out≤0):
  lim T (.call false ie [.mf σ.length 2,.bw u.enc,.ref σ.length 1 0 0] (KR σ out m))=some (.val (.dQ []) (KR σ (out+zz u.parts m) (H8 u.parts m))):=by
 refine fU BE nA.eq_1 rfl (by simp[KR]) ?_;have h:=QP (σ:=σ) hs hl u.parts.length 0 out m (by omega) hm.1 hm.2 h0.1 (by omega);rw[aJ]at h;simp[-length_flatMap,-map_take];refine WL.to h (by simp) (by simp) ?_;rintro x e σ' ⟨rfl,rfl⟩;simp
theorem abO{u:yc}{m:Int}(hs:CJ u.parts)(hl:u.parts.length≤8)(hm:0≤m∧m≤1000000):
  lim T (.call false lC [.agg u.enc,.int .i64 m] σ)=some (.val (.int .i64 (zz u.parts m)) σ):=by
 refine au Cd oq.eq_1 rfl ?_;have hU:=fun bs=>akc (σ:=σ) (u:=u) (mass:=m) (bs:=bs)
 have h1:=ab0 (σ:=σ) (u:=u) (out:=0) hs hl hm (by omega);simp only[yc.enc]at hU h1 ⊢;simp[-length_flatMap,-map_take,hU,zj];refine MU (d:=.dQ []) (σ2:=KR σ (0+zz u.parts m) (H8 u.parts m)) (lp:=lpP σ.length) (by simp;exact⟨rfl,rfl,rfl⟩) ?_ (by simp[KR]) (by simp[lpP]) ?_
 ·simpa[KR,lpP]using h1
 ·simp[-length_flatMap,-map_take,KR,lpP]
def J5(u:yc)(s:xW):Int:=if s.valid=true then(if LB u.parts<s.m then 2 else if s.h<zz u.parts s.m then 9 else 0)else 1
theorem GS{s:xW}:lim T (.call false km [.agg s.enc] σ)=some (.val (.int .i64 (if s.valid then 0 else 1)) σ):=by
 refine au BK nJ.eq_1 rfl ?_;have h:=fun σ=>Fz (σ:=σ) (x:=s)
 simp only[xW.enc]at h ⊢;cases hc:s.valid<;>rw[hc]at h<;>simp[-length_flatMap,-map_take,h]
theorem Qs{s:xW}:lim T (.call false mg [.agg s.enc] σ)=some (.val (.bool s.valid) σ):=by
 refine au E0 sf.eq_1 rfl ?_;have h:=fun σ=>GS (σ:=σ) (s:=s)
 simp only[xW.enc]at h ⊢;cases hc:s.valid<;>rw[hc]at h<;>simp[-length_flatMap,-map_take,h]
theorem Qu{s:xW}:lim T (.call false rV [.aE 1 s.enc] σ)=some (.val (.bool s.valid) σ):=by
 refine au G4 uQ.eq_1 rfl ?_;have h:=fun σ=>ze (wD 4 xW.enc (fun _=>rfl)) (T:=T) (σ:=σ) (f:=jt) (g:=gQ) (h:=dN) (i:=eM) (l:=[s]) (p:=xW.valid) (fv:=.fn mg [] []) rfl rfl rfl rfl (by simp) (pw.fn fun x _ σ=>Qs) rfl
 simp only[wD,List.length_singleton,aQ,cg,cS,gw,jk,List.all_nil,Bool.and_true]at h;simp only[xW.enc]at h ⊢;simp[-length_flatMap,-map_take,h]
def acm(u:yc)(s:xW):D:=if J5 u s=0 then .dQ [.agg [.int .i64 s.m,.int .i64 (s.h-zz u.parts s.m),.int .i64 s.s,.int .i64 s.g],.int .i64 (zz u.parts s.m),.int .i64 0]else .dQ [.agg [.int .i64 0,.int .i64 0,.int .i64 0,.int .i64 0],.int .i64 0,.int .i64 (J5 u s)]
theorem P3{u:yc}{s:xW}(hu:u.ok=true):lim T (.call false qq [.agg u.enc,.agg s.enc] σ)=some (.val (acm u s) σ):=by
 refine au FO tz.eq_1 rfl ?_;have hok:=hu;simp only[yc.ok,ae,aR]at hok;have hl:u.parts.length≤8:=by omega
 have hs:=AD (by omega) hok.2.2;have hV:=fun σ=>JJ (σ:=σ) (u:=u) (by omega)
 have hR:=fun σ=>Qu (σ:=σ) (s:=s)
 have hC:=fun σ=>Lf (σ:=σ) hs hl
 rw[hu]at hV;simp only[yc.enc,xW.enc]at hV hR hC ⊢;unfold acm J5;cases c1:s.valid
 ·rw[c1]at hR;simp[-length_flatMap,-map_take,hV,hR,zj]
 rw[c1]at hR;simp only[xW.valid,ae,aR]at c1;by_cases c2:LB u.parts<s.m
 ·simp[-length_flatMap,-map_take,hV,hR,hC,c2,zj]
 have hP:=fun σ=>abO (σ:=σ) (m:=s.m) hs hl c1.1
 simp only[yc.enc]at hP;have hb:=L9 hs c1.1.1;by_cases c3:s.h<zz u.parts s.m
 ·simp[-length_flatMap,-map_take,hV,hR,hC,hP,c2,c3,zj]
 have w1:IntKind.i64.wrap (s.h-zz u.parts s.m)=s.h-zz u.parts s.m:=fK (by omega);simp[-length_flatMap,-map_take,hV,hR,hC,hP,c2,c3,w1,zj]
theorem Oz{t:List Rw}(ht:j1 t=true){i:Nat}{r:Rw}(hi:t[i]?=some r){x:xW}(hx:x.valid=false):
  lim T (.call false pj [.aE t.length (t.flatMap Rw.enc),.int .i64 i,.agg x.enc] σ)=some (.val (.dQ [.agg (List.replicate 10 (.int .i64 0)),.int .i64 1]) σ):=by
 refine au BW rT.eq_1 rfl ?_;have hl:t.length≤20:=by
  simp only[j1,ae]at ht;have:=aR.1 ht.1;omega
 have hil:i<t.length:=(aw.1 hi).1;have h1:=fun σ=>B7 (σ:=σ) (t:=t) (by omega)
 have h2:=fun σ=>adm (σ:=σ) (t:=t) (n:=i) (by omega)
 have h3:=fun σ=>Fz (σ:=σ) (x:=x)
 have hin:bT i 0 ((t.length:Int)-1)=true:=aR.2 (by omega);rw[hin]at h2;rw[hx]at h3;rw[ht]at h1;simp only[xW.enc]at h3;simp[-length_flatMap,-map_take,h1,h2,h3,List.replicate]
def Gw:List Int→Int
 |[]=>0
 |x::l=>l.foldl min x
def Gv:List Int→Int
 |[]=>0
 |x::l=>l.foldl max x
theorem adt{l:List Int}(hl:l.length≤1000000):∀(m i:Nat) (a:Int),i+m=l.length →
  WL T [0,3,4] false nI [(0,.aE l.length (l.flatMap aU)),(3,.int .i64 a),(4,.int .i64 i)] σ (fun x e σ'=>x=.exit 0∧σ'=σ∧get e 3=.int .i64 ((l.drop i).foldl min a))
 |0,i,a,hi=>by
  refine aH nI.eq_1 ?_;have h1:¬i<l.length:=by omega
  have h2:l.drop i=[]:=az (by omega);simp[-length_flatMap,-map_take,h1,h2]
 |m+1,i,a,hi=>by
  refine aH nI.eq_1 ?_;have h1:i<l.length:=by omega
  obtain⟨n,hn⟩:=gE h1;have a1:=pS hn;have h4:=ga h1 (by omega);rw[dh hn];simp[-length_flatMap,-map_take,h1,a1,h4];exact WL.to (adt hl m (i+1) (min a n) (by omega)) (by simp) rfl fun x e σ' hh=>by simpa using hh
theorem apM{l:List Int}(hne:l≠[])(hl:l.length≤1000000):lim T (.call false nX [.aE l.length (l.flatMap aU)] σ)=some (.val (.int .i64 (Gw l)) σ):=by
 refine au DV rl.eq_1 rfl ?_;have h0:0<l.length:=aO.2 hne;obtain⟨x,r,rfl⟩:∃x r,l=x::r:=by
  cases l with
  |nil=>exact absurd rfl hne
  |cons x r=>exact⟨x,r,rfl⟩
 have h1:¬((r.length:Int)+1<1):=by omega
 have h2:(0:Int)<(r.length:Int)+1:=by omega
 simp[-length_flatMap,-map_take,h1,h2];refine WL.to (adt (σ:=[]::σ) hl r.length 1 x (by simp;omega)) (by simp) rfl ?_;rintro x e σ' ⟨rfl,rfl,g3⟩;simp[-length_flatMap,-map_take,g3,Gw]
theorem ads{l:List Int}(hl:l.length≤1000000):∀(m i:Nat) (a:Int),i+m=l.length →
  WL T [0,3,4] false nH [(0,.aE l.length (l.flatMap aU)),(3,.int .i64 a),(4,.int .i64 i)] σ (fun x e σ'=>x=.exit 0∧σ'=σ∧get e 3=.int .i64 ((l.drop i).foldl max a))
 |0,i,a,hi=>by
  refine aH nH.eq_1 ?_;have h1:¬i<l.length:=by omega
  have h2:l.drop i=[]:=az (by omega);simp[-length_flatMap,-map_take,h1,h2]
 |m+1,i,a,hi=>by
  refine aH nH.eq_1 ?_;have h1:i<l.length:=by omega
  obtain⟨n,hn⟩:=gE h1;have a1:=pS hn;have h4:=ga h1 (by omega);rw[dh hn];simp[-length_flatMap,-map_take,h1,a1,h4];exact WL.to (ads hl m (i+1) (max a n) (by omega)) (by simp) rfl fun x e σ' hh=>by simpa using hh
theorem apL{l:List Int}(hne:l≠[])(hl:l.length≤1000000):lim T (.call false nW [.aE l.length (l.flatMap aU)] σ)=some (.val (.int .i64 (Gv l)) σ):=by
 refine au DU rk.eq_1 rfl ?_;have h0:0<l.length:=aO.2 hne;obtain⟨x,r,rfl⟩:∃x r,l=x::r:=by
  cases l with
  |nil=>exact absurd rfl hne
  |cons x r=>exact⟨x,r,rfl⟩
 have h1:¬((r.length:Int)+1<1):=by omega
 have h2:(0:Int)<(r.length:Int)+1:=by omega
 simp[-length_flatMap,-map_take,h1,h2];refine WL.to (ads (σ:=[]::σ) hl r.length 1 x (by simp;omega)) (by simp) rfl ?_;rintro x e σ' ⟨rfl,rfl,g3⟩;simp[-length_flatMap,-map_take,g3,Gv]
theorem aj8{l:List Int}(hne:l≠[])(hl:l.length≤1000000):lim T (.call false qh [.aE l.length (l.flatMap aU)] σ)=some (.val (.agg [.int .i64 (Gw l),.int .i64 (Gv l)]) σ):=by
 refine au FN tx.eq_1 rfl ?_;have h1:=fun σ=>apM (σ:=σ) hne hl
 have h2:=fun σ=>apL (σ:=σ) hne hl
 simp[-length_flatMap,-map_take,h1,h2]
end Go.Proofs.YtklfdfnoebnciaaGreatDoor
set_option maxRecDepth 100000
namespace Go.Proofs.YtklfdfnoebnciaaGreatDoor
open List(length_flatMap map_take)
open Go Go.Abs Go.Rock Go.Book
variable {σ:SK}
def atO:Rw:=⟨0,0,0,0,0⟩
def atP:yc:=⟨0,[]⟩
def rowOf(b:Bk)(lv:Nat):Rw:=(b.bG.cc[lv]?).getD atO
def AX(b:Bk)(u:Nat):yc:=(b.dI[u]?).getD atP
def xD(b:Bk)(r:RunT)(w:Nat):xW:=⟨(bM (rowAt r.2 (b.av.length-1)) w).m,(bM (rowAt r.2 (b.av.length-1)) w).h,0,0⟩
def v8(r:Rw)(x:xW):xW:=⟨iC r x,aoK r x,0,aoJ r x⟩
def AU(b:Bk)(w lv u:Nat)(m:cF):Int:=match Rock.run b.bG m b.av with
 |some r=>if(xD b r w).valid=true then J5 (AX b u) (v8 (rowOf b lv) (xD b r w))else 1
 |none=>9
def wW(b:Bk)(w lv u:Nat)(m:cF):Int:=match Rock.run b.bG m b.av with
 |some r=>zz (AX b u).parts (v8 (rowOf b lv) (xD b r w)).m
 |none=>0
def DD(b:Bk)(σ:SK)(w lv u:Nat)(price:Int)(acc:List Int)(rest:List nh)(x:Abs.Exit)(e:Env)(σ':SK):Prop :=
 if cN (fun e=>AU b w lv u e.m) rest=0 then
  x=.exit 0∧get e 0=.ref (σ.length-1-1) 6 0 0∧get e 7=.int .i64 w∧get e 10=.int .i64 price∧get e 11=.sl σ.length 0 (acc++rest.map fun e=>wW b w lv u e.m).length 0 (acc++rest.map fun e=>wW b w lv u e.m).length 1 ∧
   σ'=[.cells (acc++rest.map fun e=>wW b w lv u e.m).length ((acc++rest.map fun e=>wW b w lv u e.m).flatMap aU)]::σ
 else x=.fx (rf (cN (fun e=>AU b w lv u e.m) rest))∧∃s,σ'=s::σ
theorem Lu{F:List Abs.aG}{b:Bk}{er:List Int}{ls:List nh}{w lv u:Nat}{price:Int}(ht:j1 b.bG.cc=true)(hok:∀e∈ls,Ok b.bG [e.m] b.av)(hrun:∀e∈ls,∃r,Rock.run b.bG e.m b.av=some r)(hp:b.av≠[])(hl:ls.length≤1000000)
  (hw:w<b.bG.ak.length) (hlv:lv<b.bG.cc.length) (hu:u<b.dI.length) (huk:∀x∈b.dI,x.ok=true):∀(m i:Nat) (acc:List Int),i+m=ls.length→acc.length=i →
  WL T [0,7,8,9,10,11,86,87,88] false jM [(0,.ref σ.length 6 0 0),(7,.int .i64 w),(8,.int .i64 lv),(9,.int .i64 u),(10,.int .i64 price),(11,.sl (F::b.bk σ.length er::σ).length 0 i 0 i 1),(86,.aE ls.length (ls.flatMap nh.enc)),(87,.int .i64 ls.length),(88,.int .i64 i)] ([.cells i (acc.flatMap aU)]::F::b.bk σ.length er::σ)
   (DD b (F::b.bk σ.length er::σ) w lv u price acc (ls.drop i))
 |0,i,acc,hi,ha=>by
  refine aH jM.eq_1 ?_;obtain rfl:i=ls.length:=by omega
  have h5:ls.drop ls.length=[]:=az (by omega);simp[-length_flatMap,-map_take,h5,DD,ha,cN]
 |m+1,i,acc,hi,ha=>by
  refine aH jM.eq_1 ?_;have h1:i<ls.length:=by omega
  obtain⟨e,he⟩:=gE h1;have hem:=ai he;have hO:=hok e hem;obtain⟨r,hr⟩:=hrun e hem;have hfl:=cj (f:=nh.enc) (w:=4) (fun _=>rfl) he;have h4:=ga h1 (by omega);have htl:b.bG.cc.length≤20:=by
   simp only[j1,ae]at ht;have:=aR.1 ht.1;omega
  have hE:tV b.bG e.m b.av=0:=by
   have hfit:=hO.fit e.m (by simp);simp[tV,Bd,hO.valid,hfit,hO.pl,hr]
  have hD:yN b.bG e.m b.av=.agg [.aE r.1.length (r.1.flatMap xM),.aE r.2.length (r.2.flatMap xM)]:=by
   obtain⟨r1,r2⟩:=r;simp[yN,hE,hr]
  have hsh:=hO.short e.m (by simp);have hP:=fun S hS=>P5 (σ:=S) (b:=b.bG) (m:=e.m) (av:=b.av) (wq:=nl bB.enc b.bG.ak) tT (by omega) (by have:=hO.bv.ak;omega) (by omega) (by omega) (by have:=hO.PC;omega) (fun l hl=>by have:=(hO.aN l hl).len;have:=hO.bv.ak;omega) hS
  rw[hE,hD,LP]at hP;have htn:b.bG.cc≠[]:=by intro hh;rw[hh]at hlv;simp at hlv
  have hRun:=JM.of (hO.fv e.m (by simp)) hO.aN hr;have hpl:0<b.av.length:=aO.2 hp;have hpl2:=hO.PC;obtain⟨hrow,hY⟩:=aaQ hRun (t:=b.av.length-1) (by omega);have f1:=cj (f:=xM) (w:=1) (fun _=>rfl) hrow;rw[iw]at f1;have hyw:(rowAt r.2 (b.av.length-1))[w]?=some (bM (rowAt r.2 (b.av.length-1)) w):=by
   have:w<(rowAt r.2 (b.av.length-1)).length:=by rw[hY.len];exact hw
   simp[bM,this]
  have f2:=cj (f:=Rock.aG.enc) (w:=3) (fun _=>rfl) hyw;have hyl:=hY.len;have w1:IntKind.i64.wrap ((b.av.length:Int)-1)=b.av.length-1:=fK (by omega);have t1:((b.av.length:Int)-1).toNat=b.av.length-1:=by omega
  have q1:(1:Int)≤b.av.length:=by omega
  have q2:(b.av.length:Int)-1<r.2.length:=by rw[hRun.yl];omega
  have hrw:b.bG.cc[lv]?=some (rowOf b lv):=by simp[rowOf,hlv]
  have hun:b.dI[u]?=some (AX b u):=by simp[AX,hu]
  have f3:=cj (f:=yc.enc) (w:=2) (fun _=>rfl) hun;have hul:=Ox b.dI;have q3:2≤b.dI.length*2-u*2:=by omega
  have hX:=fun σ=>P3 (σ:=σ) (u:=AX b u) (s:=v8 (rowOf b lv) (xD b r w)) (huk _ (ai hun))
  rw[dh he];have hs0:AU b w lv u e.m=if(xD b r w).valid=true then J5 (AX b u) (v8 (rowOf b lv) (xD b r w))else 1:=by simp[AU,hr]
  cases c1:(xD b r w).valid with
  |false =>
   have hF:=fun σ=>Oz (σ:=σ) ht hrw c1
   have hM:=fun σ=>pq (σ:=σ) (e:=1) (by decide)
   have hs1:AU b w lv u e.m=1:=by rw[hs0,c1];rfl
   simp only[xW.enc,xD,List.replicate]at hF;simp[-length_flatMap,-map_take,h1,hfl,h4,Bk.bk,Bk.cells,dZ htn,dZ hp,hP,og,bj,f1,f2,w1,t1,q1,q2,hyl,hw,hF,hM,hs1,xM,DD,cN]
  |true =>
   have hF:=fun σ=>aby (σ:=σ) ht hrw c1
   simp only[xW.enc,xD]at hF;have hs1:AU b w lv u e.m=J5 (AX b u) (v8 (rowOf b lv) (xD b r w)):=by rw[hs0,c1];rfl
   have hv1:wW b w lv u e.m=zz (AX b u).parts (v8 (rowOf b lv) (xD b r w)).m:=by simp[wW,hr]
   by_cases c2:J5 (AX b u) (v8 (rowOf b lv) (xD b r w))=0
   ·have hacc:=AL acc;have hta:(acc.flatMap aU).take i=acc.flatMap aU:=ah (by omega);have hroom:(i+1)*8≤room:=by unfold room;omega
    have ih:=Lu (F:=F) (er:=er) (price:=price) ht hok hrun hp hl hw hlv hu huk m (i+1) (acc++[wW b w lv u e.m]) (by omega) (by simp[ha]);have fin:∀x e' σ',DD b (F::b.bk σ.length er::σ) w lv u price (acc++[wW b w lv u e.m]) (ls.drop (i+1)) x e' σ'→DD b (F::b.bk σ.length er::σ) w lv u price acc (e::ls.drop (i+1)) x e' σ':=fun x e' σ' hh=>by
     have hz:AU b w lv u e.m=0:=by rw[hs1,c2]
     simp only[DD,cN,hz,if_true,aM,pr,fL]at hh ⊢;exact hh
    unfold acm at hX;rw[if_pos c2,← hv1]at hX;simp only[yc.enc,xW.enc,v8,xD]at hX f3;simp[-length_flatMap,-map_take,h1,hfl,h4,Bk.bk,Bk.cells,dZ htn,dZ hp,hP,og,bj,f1,f2,w1,t1,q1,q2,hyl,hw,hF,xM,parts,hu,f3,hul,q3,hX,hroom,hacc,hta,ha];exact WL.to ih (by simp) (by simp[Bk.bk,Bk.cells,dZ htn,dZ hp]) fin
   ·unfold acm at hX;rw[if_neg c2]at hX;have hM:=fun σ=>pq (σ:=σ) c2
    have hz:AU b w lv u e.m≠0:=by rw[hs1];exact c2
    rw[← hs1]at hX hM;simp only[yc.enc,xW.enc,v8,xD]at hX f3;simp[-length_flatMap,-map_take,h1,hfl,h4,Bk.bk,Bk.cells,dZ htn,dZ hp,hP,og,bj,f1,f2,w1,t1,q1,q2,hyl,hw,hF,xM,parts,hu,f3,hul,q3,hX,hM,hz,DD,cN]
def aa3(b:Bk)(w price:Int)(ws:List Int):Bk:={b with cu:=b.cu++[⟨b.av.length,w,Gw ws,Gv ws,Gw ws*price,Gv ws*price⟩] }
def AV(b:Bk)(w lv u price:Int):Bool:=bT w 0 ((b.bG.ak.length:Int)-1) && (bT lv 0 ((b.bG.cc.length:Int)-1) && (bT u 0 ((b.dI.length:Int)-1) && bT price 0 1000))
def DC(b:Bk)(w lv u:Int):Int:=cN (fun e=>AU b w.toNat lv.toNat u.toNat e.m) (bZ b.an)
def yr(b:Bk)(w lv u:Int):List Int:=(bZ b.an).map fun e=>wW b w.toNat lv.toNat u.toNat e.m
def yg(b:Bk)(w lv u price:Int):Bk×Int :=
 if bZ b.an=[]∨b.av=[]then(b,8)else if AV b w lv u price=true then(if DC b w lv u=0 then(aa3 b w price (yr b w lv u),0)else(b,DC b w lv u))else(b,2)
theorem ac0(l:List GR):(l.flatMap GR.enc).length=l.length*6:=b9 (f:=GR.enc) (w:=6) (fun _=>rfl) l
theorem EN{c d:Int}:∀{l:List Int} {a:Int},(c≤a∧a≤d)→(∀x∈l,c≤x∧x≤d)→c≤l.foldl min a∧l.foldl min a≤d
 |[],a,h,_=>h
 |x::l,a,h,hl=>by
  have h1:=hl x (by simp);exact EN (l:=l) (a:=min a x) (by omega) fun y hy=>hl y (by simp[hy])
theorem EM{c d:Int}:∀{l:List Int} {a:Int},(c≤a∧a≤d)→(∀x∈l,c≤x∧x≤d)→c≤l.foldl max a∧l.foldl max a≤d
 |[],a,h,_=>h
 |x::l,a,h,hl=>by
  have h1:=hl x (by simp);exact EM (l:=l) (a:=max a x) (by omega) fun y hy=>hl y (by simp[hy])
theorem asL{c d:Int}{l:List Int}(h0:c≤0∧0≤d)(hl:∀x∈l,c≤x∧x≤d):(c≤Gw l∧Gw l≤d)∧(c≤Gv l∧Gv l≤d):=by
 cases l with
 |nil=>exact⟨h0,h0⟩
 |cons x l=>exact⟨EN (hl x (by simp)) fun y hy=>hl y (by simp[hy]),EM (hl x (by simp)) fun y hy=>hl y (by simp[hy])⟩
theorem Oi{b:Bk}{w lv u:Nat}{m:cF}(hu:u<b.dI.length)(huk:∀x∈b.dI,x.ok=true)(hE:AU b w lv u m=0):0≤wW b w lv u m∧wW b w lv u m≤1000000000:=by
 have hun:b.dI[u]?=some (AX b u):=by simp[AX,hu]
 have hok:=huk _ (ai hun);simp only[yc.ok,ae,aR]at hok;have hs:=AD (by omega) hok.2.2;unfold AU at hE;unfold wW;cases hr:Rock.run b.bG m b.av with
 |none=>simp
 |some r =>
  rw[hr]at hE;simp only at hE ⊢;split at hE
  ·unfold J5 at hE;split at hE
   ·rename_i hv;simp only[xW.valid,ae,aR]at hv;have:=L9 hs hv.1.1;omega
   ·cases hE
  ·cases hE
theorem abX{F:List Abs.aG}{b:Bk}{er:List Int}{nm:List UInt8}{w lv u price:Int}{b':Bk}{e:Int}(ht:j1 b.bG.cc=true)(hml:b.an.length≤40)(hok:∀e∈b.an,Ok b.bG [e.m] b.av)(hrun:∀e∈b.an,e.left=true→∃r,Rock.run b.bG e.m b.av=some r)(huk:∀x∈b.dI,x.ok=true)(hul:b.dI.length≤10)(hwl:b.bG.ak.length≤1000000)(hsl:b.cu.length≤1000000)(hd:yg b w lv u price=(b',e))(he:e=0):
  lim T (.call false fE [.ref σ.length 6 0 0,.str nm,.aE 4 [.int .i64 w,.int .i64 lv,.int .i64 u,.int .i64 price]] (F::b.bk σ.length er::σ))=some (.val (.dQ []) (F::b'.bk σ.length er::σ)):=by
 refine fU vD ka.eq_1 rfl (by simp) ?_;unfold yg at hd;split at hd
 case isTrue=>cases hd;cases he
 rename_i c1;split at hd
 case isFalse=>cases hd;cases he
 rename_i c2;split at hd
 case isFalse=>cases hd;rename_i h;exact absurd he h
 rename_i c3;cases hd;have htl:b.bG.cc.length≤20:=by
  simp only[j1,ae]at ht;have:=aR.1 ht.1;omega
 have c1a:bZ b.an≠[]:=fun h=>c1 (.inl h)
 have c1b:b.av≠[]:=fun h=>c1 (.inr h)
 have q1:0<(bZ b.an).length:=aO.2 c1a;have q2:0<b.av.length:=aO.2 c1b;have hLf:=fun S=>DM (σ:=σ) (b:=b) (er:=er) (S:=S) (by omega)
 simp only[Bk.bk,Bk.cells]at hLf;have hc2:=c2;simp only[AV,ae]at hc2;obtain⟨k1,k2,k3,k4⟩:=hc2;have i1:=aR.1 k1;have i2:=aR.1 k2;have i3:=aR.1 k3;have i4:=aR.1 k4;obtain⟨w,rfl⟩:∃n:Nat,w=n:=⟨w.toNat,by omega⟩;obtain⟨lv,rfl⟩:∃n:Nat,lv=n:=⟨lv.toNat,by omega⟩;obtain⟨u,rfl⟩:∃n:Nat,u=n:=⟨u.toNat,by omega⟩;simp only[DC,yr,Int.toNat_natCast]at c3 ⊢;have w1:IntKind.i64.wrap ((b.bG.ak.length:Int)-1)=b.bG.ak.length-1:=fK (by omega);have w2:IntKind.i64.wrap ((b.bG.cc.length:Int)-1)=b.bG.cc.length-1:=fK (by omega);have w3:IntKind.i64.wrap ((b.dI.length:Int)-1)=b.dI.length-1:=fK (by omega);have hL:=Lu (σ:=σ) (F:=F) (er:=er) (ls:=bZ b.an) (w:=w) (lv:=lv) (u:=u) (price:=price) ht (fun e he=>hok e (cT.1 he).1) (fun e he=>hrun e (cT.1 he).1 (cT.1 he).2) c1b (by have:=iK (fun e:nh=>e.left) b.an;simp only[bZ];omega) (by omega) (by omega) (by omega) huk (bZ b.an).length 0 [] (by omega) rfl;rw[aJ]at hL;simp[-length_flatMap,-map_take,Bk.bk,Bk.cells,hLf,q1,q2,cl,eH,w1,w2,w3,k1,k2,k3,k4];refine WL.to hL (by simp) (by simp[Bk.bk,Bk.cells]) ?_;intro x e σ' hq;simp only[DD,if_pos c3,List.nil_append]at hq;obtain⟨rfl,g0,g7,g10,g11,rfl⟩:=hq;have hbs:∀x∈(bZ b.an).map (fun e=>wW b w lv u e.m),0≤x∧x≤1000000000:=by
  intro x hx;simp only[bN]at hx;obtain⟨e,he,rfl⟩:=hx;exact Oi (by omega) huk (sS c3 e he)
 have hwl2:((bZ b.an).map (fun e=>wW b w lv u e.m)).length=(bZ b.an).length:=by simp
 have hlm:(bZ b.an).length≤40:=by have:=iK (fun e:nh=>e.left) b.an;simp only[bZ];omega
 generalize hws:(bZ b.an).map (fun e=>wW b w lv u e.m)=ws at *
 have hwne:ws≠[]:=by intro hh;rw[hh]at hwl2;simp at hwl2;omega
 obtain⟨⟨m1,m2⟩,m3,m4⟩:=asL (by omega) hbs;have hSp:=fun σ=>aj8 (σ:=σ) hwne (by omega)
 generalize hlo:Gw ws=lo at *
 generalize hhi:Gv ws=hi at *
 have p1:0≤lo*price:=dS m1 i4.1;have p2:lo*price≤1000000000*1000:=la m2 i4.2 i4.1 (by omega);have p3:0≤hi*price:=dS m3 i4.1;have p4:hi*price≤1000000000*1000:=la m4 i4.2 i4.1 (by omega);have w4:IntKind.i64.wrap (lo*price)=lo*price:=fK (by omega);have w5:IntKind.i64.wrap (hi*price)=hi*price:=fK (by omega);have hfr:∀S:SK,S.length=σ.length+1+1→ck 0 16 (.sl (σ.length+1+1) 0 ws.length 0 ws.length 1) ([.cells ws.length (ws.flatMap aU)]::S)=(.aE ws.length (ws.flatMap aU),[.dead]::S):=by
  intro S hS;have:=zT (f:=aU) (w:=1) (fun _=>rfl) (fun _=>by simp[D.clean]) (l:=ws) (j:=0) (v:=ws.length) (bs:=[Abs.aG.cells ws.length (ws.flatMap aU)]) (σ:=S) (by intro h;subst h;simp at hS) (by simp);rw[hS]at this;simpa using this
 have r2:(b.cu.length+1)*48≤room:=by unfold room;omega
 have r3:=ac0 b.cu;have r4:(b.cu.flatMap GR.enc).take (b.cu.length*6)=b.cu.flatMap GR.enc:=ah (by omega);simp[-length_flatMap,-map_take,g0,g7,g10,g11,hfr,hSp,Bk.bk,Bk.cells,w4,w5,r2,r3,r4,aa3,bj,hlo,hhi]
theorem Qy{F:List Abs.aG}{b:Bk}{er:List Int}{nm:List UInt8}{w lv u price:Int}{b':Bk}{e:Int}(ht:bZ b.an≠[]→j1 b.bG.cc=true)(hml:b.an.length≤40)(hok:∀e∈b.an,Ok b.bG [e.m] b.av)(hrun:∀e∈b.an,e.left=true→∃r,Rock.run b.bG e.m b.av=some r)(huk:∀x∈b.dI,x.ok=true)(hul:b.dI.length≤10)(hwl:b.bG.ak.length≤1000000)(hsl:b.cu.length≤1000000)(hd:yg b w lv u price=(b',e))(he:e≠0):
  lim T (.call false fE [.ref σ.length 6 0 0,.str nm,.aE 4 [.int .i64 w,.int .i64 lv,.int .i64 u,.int .i64 price]] (F::b.bk σ.length er::σ))=some (.fx (rf e) (F::b.bk σ.length er::σ)):=by
 refine dJ vD ka.eq_1 rfl ?_;have hLf:=fun S=>DM (σ:=σ) (b:=b) (er:=er) (S:=S) (by omega)
 simp only[Bk.bk,Bk.cells]at hLf;unfold yg at hd;split at hd
 case isTrue c1 =>
  cases hd;by_cases c1a:bZ b.an=[]
  ·simp[-length_flatMap,-map_take,Bk.bk,Bk.cells,hLf,c1a,dj,D.clean,rf]
  ·have q1:0<(bZ b.an).length:=aO.2 c1a;have c1b:b.av=[]:=c1.resolve_left c1a;simp[-length_flatMap,-map_take,Bk.bk,Bk.cells,hLf,q1,c1b,dj,D.clean,rf]
 rename_i c1;have c1a:bZ b.an≠[]:=fun h=>c1 (.inl h)
 have c1b:b.av≠[]:=fun h=>c1 (.inr h)
 have ht:=ht c1a;have htl:b.bG.cc.length≤20:=by
  simp only[j1,ae]at ht;have:=aR.1 ht.1;omega
 have q1:0<(bZ b.an).length:=aO.2 c1a;have q2:0<b.av.length:=aO.2 c1b;have w1:IntKind.i64.wrap ((b.bG.ak.length:Int)-1)=b.bG.ak.length-1:=fK (by omega);have w2:IntKind.i64.wrap ((b.bG.cc.length:Int)-1)=b.bG.cc.length-1:=fK (by omega);have w3:IntKind.i64.wrap ((b.dI.length:Int)-1)=b.dI.length-1:=fK (by omega);split at hd
 case isFalse c2 =>
  cases hd;simp only[AV]at c2;cases k1:bT w 0 ((b.bG.ak.length:Int)-1)
  ·simp[-length_flatMap,-map_take,Bk.bk,Bk.cells,hLf,q1,q2,cl,eH,w1,w2,w3,k1,dj,D.clean,rf]
  cases k2:bT lv 0 ((b.bG.cc.length:Int)-1)
  ·simp[-length_flatMap,-map_take,Bk.bk,Bk.cells,hLf,q1,q2,cl,eH,w1,w2,w3,k1,k2,dj,D.clean,rf]
  cases k3:bT u 0 ((b.dI.length:Int)-1)
  ·simp[-length_flatMap,-map_take,Bk.bk,Bk.cells,hLf,q1,q2,cl,eH,w1,w2,w3,k1,k2,k3,dj,D.clean,rf]
  cases k4:bT price 0 1000
  ·simp[-length_flatMap,-map_take,Bk.bk,Bk.cells,hLf,q1,q2,cl,eH,w1,w2,w3,k1,k2,k3,k4,dj,D.clean,rf]
  ·exact absurd (by simp[k1,k2,k3,k4]) c2
 rename_i c2;split at hd
 case isTrue=>cases hd;exact absurd rfl he
 rename_i c3;cases hd;have hc2:=c2;simp only[AV,ae]at hc2;obtain⟨k1,k2,k3,k4⟩:=hc2;have i1:=aR.1 k1;have i2:=aR.1 k2;have i3:=aR.1 k3;obtain⟨w,rfl⟩:∃n:Nat,w=n:=⟨w.toNat,by omega⟩;obtain⟨lv,rfl⟩:∃n:Nat,lv=n:=⟨lv.toNat,by omega⟩;obtain⟨u,rfl⟩:∃n:Nat,u=n:=⟨u.toNat,by omega⟩;simp only[DC,Int.toNat_natCast]at c3 ⊢;have hL:=Lu (σ:=σ) (F:=F) (er:=er) (ls:=bZ b.an) (w:=w) (lv:=lv) (u:=u) (price:=price) ht (fun e he=>hok e (cT.1 he).1) (fun e he=>hrun e (cT.1 he).1 (cT.1 he).2) c1b (by have:=iK (fun e:nh=>e.left) b.an;simp only[bZ];omega) (by omega) (by omega) (by omega) huk (bZ b.an).length 0 [] (by omega) rfl;rw[aJ]at hL;simp[-length_flatMap,-map_take,Bk.bk,Bk.cells,hLf,q1,q2,cl,eH,w1,w2,w3,k1,k2,k3,k4];refine WL.to hL (by simp) (by simp[Bk.bk,Bk.cells]) ?_;intro x e σ' hq;simp only[DD,if_neg c3]at hq;obtain⟨rfl,s,rfl⟩:=hq;simp[Bk.bk,Bk.cells,D.clean,rf]
def Pe:List Int→List Rw
 |a::b::c::d::e::l=>⟨a,b,c,d,e⟩::Pe l
 |_=>[]
def Pd:List Int→List Trem.wc
 |a::b::c::d::l=>⟨⟨a,b,c⟩,d⟩::Pd l
 |_=>[]
def Hf:List Int→List (Int×Int)
 |a::b::l=>(a,b)::Hf l
 |_=>[]
theorem NQ:∀(m:Nat) {l:List Int},l.length=m*5→(Pe l).flatMap Rw.enc=l.flatMap aU∧(Pe l).length=m
 |0,l,h=>by
  have:l=[]:=bR.1 (by omega);subst this;exact⟨rfl,rfl⟩
 |m+1,l,h=>by
  match l,h with
  |a::b::c::d::e::l,h =>
   have ih:=NQ m (l:=l) (by simp at h;omega);simp[Pe,ih.1,ih.2,aU]
  |[],h=>simp at h
  |[_],h=>simp at h;omega
  |[_,_],h=>simp at h;omega
  |[_,_,_],h=>simp at h;omega
  |[_,_,_,_],h=>simp at h;omega
theorem NP:∀(m:Nat) {l:List Int},l.length=m*4→(Pd l).flatMap Trem.wc.enc=l.flatMap aU∧(Pd l).length=m
 |0,l,h=>by
  have:l=[]:=bR.1 (by omega);subst this;exact⟨rfl,rfl⟩
 |m+1,l,h=>by
  match l,h with
  |a::b::c::d::l,h =>
   have ih:=NP m (l:=l) (by simp at h;omega);simp[Pd,ih.1,ih.2,aU]
  |[],h=>simp at h
  |[_],h=>simp at h;omega
  |[_,_],h=>simp at h;omega
  |[_,_,_],h=>simp at h;omega
theorem IU:∀(m:Nat) {l:List Int},l.length=m*2→(Hf l).flatMap yp=l.flatMap aU∧(Hf l).length=m
 |0,l,h=>by
  have:l=[]:=bR.1 (by omega);subst this;exact⟨rfl,rfl⟩
 |m+1,l,h=>by
  match l,h with
  |a::b::l,h =>
   have ih:=IU m (l:=l) (by simp at h;omega);simp[Hf,ih.1,ih.2,aU,yp]
  |[],h=>simp at h
  |[_],h=>simp at h;omega
def KY(p:Int×Int):Prt:=⟨p.1,p.2⟩
theorem acN(l:List (Int×Int)):(l.map KY).flatMap Prt.enc=l.flatMap yp:=by
 induction l with
 |nil=>rfl
 |cons p l ih=>simp only[aM,aQ,ih];rfl
def aaU:List Int→Trem.ec
 |[x0,x1,x2,x3,x4,x5,x6,x7,x8,x9]=>⟨⟨x0,x1,x2⟩,⟨x3,x4,x5⟩,x6,x7,x8,x9⟩
 |_=>⟨⟨0,0,0⟩,⟨0,0,0⟩,0,0,0,0⟩
def vu(b:Bk)(k:Nat)(nm:List UInt8)(l:List Int):Bk×Int :=
 match k with
 |0=>match l with
  |[x,y,z,k]=>xk b x y z k
  |_=>(b,4)
 |1=>xn b (Pe l)
 |2=>match l with
  |[x,y,z]=>EH b x y z
  |_=>(b,4)
 |3=>match l with
  |[x,y,z]=>yi b x y z
  |_=>(b,4)
 |4=>xl b ⟨nm,l⟩
 |5=>match l with
  |k::lo::hi::r=>EI b (rD nm k lo hi (Hf r))
  |_=>(b,4)
 |6=>Ay b (aaU l) (aaU l).OW
 |7=>match l with
  |[x,y,z]=>if Trem.qG x y z=true then(Kt b x y z,0)else(b,1)
  |_=>(b,4)
 |8=>xm b (Pd l)
 |9=>yh b l
 |10=>match l with
  |[w,i,lo,hi]=>yf b ⟨b.av.length,w,i,lo,hi⟩
  |_=>(b,4)
 |11=>match l with
  |i::r=>Az b ⟨i,(Hf r).map KY⟩
  |_=>(b,4)
 |12=>match l with
  |[w,lv,u,p]=>yg b w lv u p
  |_=>(b,4)
 |_=>(b,4)
def pW(b:Bk)(n:Int)(s:List UInt8):Bk×Int:=match parse s with
 |some (w,nm,l)=>vu {b with at_:=n } w.k nm l
 |none=>(b,4)
structure Kv(n:Nat)(b:Bk):Prop where
 cc:b.bG.cc=[]∨j1 b.bG.cc=true
 ready:b.ready=true→b.bG.valid=true
 ak:b.ready=false→b.bG.ak=[]
 ms:b.an≠[]→b.ready=true
 ml:b.an.length≤40
 wl:b.oS.length=b.an.length
 fit:∀e∈b.an,Bd b.bG e.m=true∧e.m.name.length≤1000000∧e.m.bf.length≤1000000
 pm:b.av≠[]→b.an≠[]
 pl:vK b.bG b.av=0
 AR:∀e∈b.an,e.left=true→∃r,Rock.run b.bG e.m b.av=some r
 rules:b.rules.length≤20
 yV:b.yV.length≤200
 KQ:∀e∈b.yV,e.ok=true
 keep:Trem.qG b.k0 b.k1 b.k2=true
 dI:b.dI.length≤10
 uok:∀u∈b.dI,u.ok=true
 cu:b.cu.length≤n
theorem adh{t:List Rw}(h:t=[]∨j1 t=true):t.length≤20:=by
 rcases h with rfl | h
 ·simp
 ·simp only[j1,ae]at h;have:=aR.1 h.1;omega
theorem CK{t:List Rw}(h:j1 t=true):t≠[]:=by
 intro hh;subst hh;simp[j1,bT]at h
theorem ES{s:List UInt8}{w:Wd}{nm:List UInt8}{l:List Int}(h:parse s=some (w,nm,l)):(∃a,xR a=some w)∧Gj w l.length=true∧nm.length≤s.length∧l.length≤s.length+1:=by
 have hlen:=zH 32 s;have hle:=DE 32 s;unfold parse at h;cases hsp:gk 32 s with
 |nil=>exact absurd hsp (Bu 32 s)
 |cons a all =>
 rw[hsp]at h hlen hle;simp only[aD]at hlen;simp only at h;cases hw:xR a with
 |none=>rw[hw]at h;cases h
 |some w0 =>
 rw[hw]at h;simp only at h;have key:∀nm0 (l0:List (List UInt8)),vy w0 nm0 l0=some (w,nm,l)→w0=w∧nm0=nm∧Gj w l.length=true∧l.length=l0.length:=by
  intro nm0 l0 hp;unfold vy at hp;cases hm:xH l0 with
  |none=>rw[hm]at hp;cases hp
  |some ns =>
   rw[hm]at hp;simp only[aB,ad,aj]at hp;obtain⟨hf,rfl,rfl,rfl⟩:=hp;exact⟨rfl,rfl,hf,yM hm⟩
 split at h
 ·cases all with
  |nil=>cases h
  |cons n r =>
   obtain⟨rfl,rfl,h3,h4⟩:=key n r h;refine⟨⟨a,hw⟩,h3,hle n (by simp),?_⟩;simp at hlen;omega
 ·obtain⟨rfl,rfl,h3,h4⟩:=key [] all h;exact⟨⟨a,hw⟩,h3,by simp,by omega⟩
def doR(F:List Abs.aG)(b:Bk)(er:List Int)(σ:SK)(r:Bk×Int):R:=if r.2=0 then .val (.dQ []) (F::r.1.bk σ.length er::σ)else .fx (rf r.2) (F::b.bk σ.length er::σ)
theorem uA{F:List Abs.aG}{b:Bk}{er:List Int}{r:Bk×Int}{q:Q}(h1:∀b' e,r=(b',e)→e=0→lim T q=some (.val (.dQ []) (F::b'.bk σ.length er::σ)))(h2:∀b' e,r=(b',e)→e≠0→lim T q=some (.fx (rf e) (F::b.bk σ.length er::σ))):
  lim T q=some (doR F b er σ r):=by
 obtain⟨b',e⟩:=r;unfold doR;by_cases he:e=0
 ·rw[if_pos he];exact h1 b' e rfl he
 ·rw[if_neg he];exact h2 b' e rfl he
theorem ym{l:List Int}{n:Nat}(h:l.length=n+1):∃a r,l=a::r∧r.length=n:=by
 cases l with
 |nil=>simp at h
 |cons a r=>exact⟨a,r,rfl,by simpa using h⟩
theorem aar{l:List Int}(h:l.length=3):∃a0 a1 a2,l=[a0,a1,a2]:=by
 obtain⟨a0,r0,e0,h0⟩:=ym (n:=2) h;obtain⟨a1,r1,e1,h1⟩:=ym (n:=1) h0;obtain⟨a2,r2,e2,h2⟩:=ym (n:=0) h1;have e:=bR.1 h2;exact⟨a0,a1,a2,by rw[e0,e1,e2,e]⟩
theorem aas{l:List Int}(h:l.length=4):∃a0 a1 a2 a3,l=[a0,a1,a2,a3]:=by
 obtain⟨a0,r0,e0,h0⟩:=ym (n:=3) h;obtain⟨a1,r1,e1,h1⟩:=ym (n:=2) h0;obtain⟨a2,r2,e2,h2⟩:=ym (n:=1) h1;obtain⟨a3,r3,e3,h3⟩:=ym (n:=0) h2;have e:=bR.1 h3;exact⟨a0,a1,a2,a3,by rw[e0,e1,e2,e3,e]⟩
theorem anB{l:List Int}(h:l.length=10):∃a0 a1 a2 a3 a4 a5 a6 a7 a8 a9,l=[a0,a1,a2,a3,a4,a5,a6,a7,a8,a9]:=by
 obtain⟨a0,r0,e0,h0⟩:=ym (n:=9) h;obtain⟨a1,r1,e1,h1⟩:=ym (n:=8) h0;obtain⟨a2,r2,e2,h2⟩:=ym (n:=7) h1;obtain⟨a3,r3,e3,h3⟩:=ym (n:=6) h2;obtain⟨a4,r4,e4,h4⟩:=ym (n:=5) h3;obtain⟨a5,r5,e5,h5⟩:=ym (n:=4) h4;obtain⟨a6,r6,e6,h6⟩:=ym (n:=3) h5;obtain⟨a7,r7,e7,h7⟩:=ym (n:=2) h6;obtain⟨a8,r8,e8,h8⟩:=ym (n:=1) h7;obtain⟨a9,r9,e9,h9⟩:=ym (n:=0) h8;have e:=bR.1 h9;exact⟨a0,a1,a2,a3,a4,a5,a6,a7,a8,a9,by rw[e0,e1,e2,e3,e4,e5,e6,e7,e8,e9,e]⟩
theorem Cx{w:Wd}{n:Nat}(h:Gj w n=true)(hs:w.step=0):(n:Int)=w.least:=by
 simp only[Gj,bW,ae,ao]at h;omega
theorem Fg{w:Wd}{n:Nat}(h:Gj w n=true)(hs:0<w.step)(hl:0≤w.least):w.least≤n∧((n:Int)-w.least)%w.step=0:=by
 simp only[Gj,bW,ae,ao]at h;rcases h with h | ⟨h1,h2,h3⟩
 ·refine⟨by omega,?_⟩;rw[h];simp
 ·refine⟨by omega,?_⟩;rwa[Int.tmod_eq_emod_of_nonneg (by omega)]at h3
theorem Ok.one{b:cf}{m:cF}{av:List (List Int)}(hb:b.valid=true)(hf:Bd b m=true)(hp:vK b av=0)(hn:m.name.length≤1000000000):Ok b [m] av:=by
 have hbv:=Bv.of hb;have hfit:fits b m=true:=by simp only[Bd,ae]at hf;exact hf.2
 have hfv:=Fv.of hf;have hm:b.f.an [m]=0:=by
  have h:=hfit;simp only[fits,ae,ao]at h;have h1:=h.1;unfold gz at h1;rw[if_pos hbv.fv]at h1;exact h1
 obtain⟨p1,p2⟩:=zy hp;exact⟨hbv,hb,by simp,hm,by simpa using hfit,by simpa using hfv,by intro x hx;simp at hx;subst hx;exact⟨hn,hfv.toMv.le.2⟩,hp,p1,p2⟩
theorem LY{b:cf}{m:cF}(hb:b.valid=true)(hf:Bd b m=true):b.f.model m=0:=by
 have hfit:fits b m=true:=by simp only[Bd,ae]at hf;exact hf.2
 rw[NI (Bv.of hb),ae,ao]at hfit;exact hfit.1
theorem auy{F:List Abs.aG}{b:Bk}{er:List Int}{s:List UInt8}{w:Wd}{nm:List UInt8}{l:List Int}{n:Nat}(hK:Kv n b)(hn:n≤1000000)(hp:parse s=some (w,nm,l))(hs:s.length≤4000):
  lim T (.call false ((H2[w.k]?).getD 0) [.ref σ.length 6 0 0,.str nm,.aE l.length (l.flatMap aU)] (F::b.bk σ.length er::σ))=some (doR F b er σ (vu b w.k nm l)):=by
 obtain⟨⟨a,ha⟩,hfit,hnm,hll⟩:=ES hp;have htl:=adh hK.cc;have hv:b.ready=true→Bv b.bG:=fun h=>Bv.of (hK.ready h)
 have hrt:b.ready=true→j1 b.bG.cc=true:=fun h=>(hv h).cc
 have hwl:b.bG.ak.length≤8:=by
  cases hr:b.ready with
  |true=>exact(hv hr).ak
  |false=>rw[hK.ak hr];simp
 have hmr:b.an≠[]→j1 b.bG.cc=true:=fun h=>hrt (hK.ms h)
 have hlm:bZ b.an≠[]→b.an≠[]:=fun h hh=>h (by rw[hh];rfl)
 have hz:Sz b:=⟨by omega,by omega,fun e he=>⟨by have:=(hK.fit e he).2.1;omega,by have:=(hK.fit e he).2.2;omega⟩⟩;have hplz:=zy hK.pl;have hbv:b.an≠[]→b.bG.valid=true:=fun h=>hK.ready (hK.ms h)
 have hne:∀e∈b.an,b.an≠[]:=fun e he hh=>by rw[hh]at he;cases he
 have hok:∀e∈b.an,Ok b.bG [e.m] b.av:=fun e he=>Ok.one (hbv (hne e he)) (hK.fit e he).1 hK.pl (hz.ms e he).1
 have hfm:∀e∈b.an,b.bG.f.model e.m=0:=fun e he=>LY (hbv (hne e he)) (hK.fit e he).1
 have hsp:∀e∈b.yV,e.sp.length≤1000000:=fun e he=>by
  have:=hK.KQ e he;simp only[Trem.Ev.ok,ae]at this;have:=Trem.aR.1 this.2.1;omega
 have h1:=D7 ha;simp only[sY,bq,aj,List.not_mem_nil,or_false]at h1;rcases h1 with⟨_,rfl⟩ | ⟨_,rfl⟩ | ⟨_,rfl⟩ | ⟨_,rfl⟩ | ⟨_,rfl⟩ | ⟨_,rfl⟩ | ⟨_,rfl⟩ | ⟨_,rfl⟩ | ⟨_,rfl⟩ | ⟨_,rfl⟩ | ⟨_,rfl⟩ | ⟨_,rfl⟩ | ⟨_,rfl⟩
 ·have hl:l.length=4:=by
   have h:(l.length:Int)=4:=Cx hfit rfl;omega
  obtain⟨x,y,z,k,rfl⟩:=aas hl;exact uA (fun b' e hd he=>abD hd he) (fun b' e hd he=>OD hd he)
 ·have hl:=(Fg hfit (by decide) (by decide)).2;simp only[Int.sub_zero]at hl;obtain⟨h5,h6⟩:=NQ (l.length / 5) (l:=l) (by omega);have hlen:(Pe l).length*5=l.length:=by omega
  rw[← h5,← hlen];exact uA (fun b' e hd he=>abY (by omega) hd he) (fun b' e hd he=>ON (by omega) hd he)
 ·have hl:l.length=3:=by
   have h:(l.length:Int)=3:=Cx hfit rfl;omega
  obtain⟨x,y,z,rfl⟩:=aar hl;exact uA (fun b' e hd he=>ajW (by omega) (by omega) hd he) (fun b' e hd he=>P8 (by omega) (by omega) hd he)
 ·have hl:l.length=3:=by
   have h:(l.length:Int)=3:=Cx hfit rfl;omega
  obtain⟨x,y,z,rfl⟩:=aar hl;refine uA (fun b' e hd he=>?_) (fun b' e hd he=>QD (fun h=>CK (hrt h)) (by omega) (by omega) hd he);have hr:b.ready=true:=by
   have hd2:yi b x y z=(b',e):=hd;unfold yi at hd2;split at hd2
   ·rename_i h;exact h.1
   ·cases hd2;cases he
  exact ake (CK (hrt hr)) (by omega) (by omega) hd he
 ·exact uA (fun b' e hd he=>Qi (m:=⟨nm,l⟩) (by omega) (by omega) (by simp;omega) (by simp;omega) hK.wl hd he) (fun b' e hd he=>OF (m:=⟨nm,l⟩) (by omega) (by omega) (by simp;omega) (by simp;omega) hK.ml hd he)
 ·obtain⟨hl1,hl2⟩:=Fg hfit (by decide) (by decide);simp only at hl1 hl2;obtain⟨k,l,rfl,hl⟩:=ym (n:=l.length-1) (l:=l) (by omega);simp only[aD]at hl1 hl2 hll;obtain⟨lo,l,rfl,hl⟩:=ym (n:=l.length-1) (l:=l) (by omega);simp only[aD]at hl1 hl2 hll;obtain⟨hi,l,rfl,hl⟩:=ym (n:=l.length-1) (l:=l) (by omega);simp only[aD]at hl1 hl2 hll;obtain⟨h5,h6⟩:=IU (l.length / 2) (l:=l) (by omega);have hlen:(Hf l).length*2+3=l.length+1+1+1:=by omega
  simp only[aQ,aD,aU,fL];rw[← h5,← hlen];refine uA (fun b' e hd he=>aj3 (by omega) (by omega) hK.wl hK.ml (fun e he=>⟨hfm e he,hz.ms e he⟩) hd he) (fun b' e hd he=>abK (by omega) (by omega) hd he)
 ·have hl:l.length=10:=by
   have h:(l.length:Int)=10:=Cx hfit rfl;omega
  obtain⟨x0,x1,x2,x3,x4,x5,x6,x7,x8,x9,rfl⟩:=anB hl;exact uA (fun b' e hd he=>aj5 hd he) (fun b' e hd he=>Qv hd he)
 ·have hl:l.length=3:=by
   have h:(l.length:Int)=3:=Cx hfit rfl;omega
  obtain⟨x,y,z,rfl⟩:=aar hl;refine uA (fun b' e hd he=>?_) (fun b' e hd he=>?_)
  ·have hd2:(if Trem.qG x y z=true then(Kt b x y z,0)else(b,1))=(b',e):=hd;split at hd2
   ·rename_i h;cases hd2;exact aj0 h
   ·cases hd2;cases he
  ·have hd2:(if Trem.qG x y z=true then(Kt b x y z,0)else(b,1))=(b',e):=hd;split at hd2
   ·cases hd2;exact absurd rfl he
   ·rename_i h;cases hd2;exact Qf (by simpa using h)
 ·have hl:=(Fg hfit (by decide) (by decide)).2;simp only[Int.sub_zero]at hl;obtain⟨h5,h6⟩:=NP (l.length / 4) (l:=l) (by omega);have hlen:(Pd l).length*4=l.length:=by omega
  rw[← h5,← hlen];exact uA (fun b' e hd he=>abP (by omega) hd he) (fun b' e hd he=>OI (by omega) hd he)
 ·have hpl:∀r∈b.av,r.length≤1000000000:=fun r hr=>by have:=(hplz.2 r hr).len;omega
  refine uA (fun b' e hd he=>?_) (fun b' e hd he=>Qz (fun h=>CK (hmr (hlm h))) hz (by omega) hK.ml (by have:=hK.rules;omega) (by have:=hK.yV;omega) hsp hK.keep hpl hd he);have hr:bZ b.an≠[]:=by
   have hd2:yh b l=(b',e):=hd;unfold yh at hd2;split at hd2
   ·cases hd2;cases he
   ·rename_i h;exact h
  exact abZ (CK (hmr (hlm hr))) hz (by omega) hK.ml (by have:=hK.rules;omega) (by have:=hK.yV;omega) hsp hK.keep hpl hd he
 ·have hl:l.length=4:=by
   have h:(l.length:Int)=4:=Cx hfit rfl;omega
  obtain⟨w,i,lo,hi,rfl⟩:=aas hl;refine uA (fun b' e hd he=>?_) (fun b' e hd he=>Qq (fun h=>CK (hmr (hlm h))) hK.ml hok hd he);have hr:bZ b.an≠[]:=by
   have hd2:yf b ⟨b.av.length,w,i,lo,hi⟩=(b',e):=hd;unfold yf at hd2;split at hd2
   ·cases hd2;cases he
   ·rename_i h;exact h
  exact abT (CK (hmr (hlm hr))) hK.wl hK.ml hok hK.AR hd he
 ·obtain⟨hl1,hl2⟩:=Fg hfit (by decide) (by decide);simp only at hl1 hl2;obtain⟨i,l,rfl,hl⟩:=ym (n:=l.length-1) (l:=l) (by omega);simp only[aD]at hl1 hl2 hll;obtain⟨h5,h6⟩:=IU (l.length / 2) (l:=l) (by omega);have hlen:((Hf l).map KY).length*2+1=l.length+1:=by simp;omega
  simp only[aQ,aD,aU,fL];rw[← h5,← hlen,← acN];exact uA (fun b' e hd he=>akb (u:=⟨i,(Hf l).map KY⟩) (by simp;omega) hd he) (fun b' e hd he=>QA (u:=⟨i,(Hf l).map KY⟩) (by simp;omega) hd he)
 ·have hl:l.length=4:=by
   have h:(l.length:Int)=4:=Cx hfit rfl;omega
  obtain⟨w,i,lo,hi,rfl⟩:=aas hl;refine uA (fun b' e hd he=>?_) (fun b' e hd he=>Qy (fun h=>hmr (hlm h)) hK.ml hok hK.AR hK.uok hK.dI (by omega) (by have:=hK.cu;omega) hd he);have hr:bZ b.an≠[]:=by
   have hd2:yg b w i lo hi=(b',e):=hd;unfold yg at hd2;split at hd2
   ·cases hd2;cases he
   ·rename_i h;exact fun hh=>h (.inl hh)
  exact abX (hmr (hlm hr)) hK.ml hok hK.AR hK.uok hK.dI (by omega) (by have:=hK.cu;omega) hd he
end Go.Proofs.YtklfdfnoebnciaaGreatDoor
namespace Go.Proofs.YtklfdfnoebnciaaGreatDoor
open List(length_flatMap map_take)
open Go Go.Abs Go.Rock Go.Book
theorem Kv.le{n m:Nat}{b:Bk}(h:Kv n b)(hn:n≤m):Kv m b:={h with cu:=jl h.cu hn }
theorem Kv.zero:Kv 0 uo:=by
 refine⟨.inl rfl,by simp[uo],fun _=>rfl,by simp[uo],by simp[uo],rfl,by simp[uo],by simp[uo],?_,by simp[uo],by simp[uo],by simp[uo],by simp[uo],by decide,by simp[uo],by simp[uo],by simp[uo]⟩;simp[uo,vK,cN]
theorem Bo{b:cf}:vK b []=0:=by simp[vK,cN]
theorem QX{b:cf}(h:b.valid=true):b.cc≠[]∧¬((b.f.x=0∧b.f.y=0)∧b.f.z=0∧b.f.k=0):=by
 have hv:=Bv.of h;refine⟨CK hv.cc,fun hh=>?_⟩;have:=hv.x;omega
theorem Kv.I0{n:Nat}{b:Bk}(h:Kv n b)(hm:b.an=[]):b.av=[]:=by
 by_cases hp:b.av=[]
 ·exact hp
 ·exact absurd hm (h.pm hp)
theorem Kv.Gy{n:Nat}{b:Bk}(h:Kv n b)(hr:b.ready=false):b.an=[]:=by
 by_cases hp:b.an=[]
 ·exact hp
 ·rw[h.ms hp]at hr;cases hr
theorem Kv.akx{n:Nat}{b:Bk}(h:Kv n b)(k:Int):Kv n {b with at_:=k }:={h with }
theorem acZ{b:cf}{m:cF}:∃r,Rock.run b m []=some r:=⟨_,rfl⟩
theorem Ou{b:Bk}{lo hi:Int}{val:cF→Int}{x:nh}(h:x∈(wa b lo hi val).an):∃e∈b.an,x.m=e.m∧(x.left=true→e.left=true):=by
 simp only[wa,Bk.j5,List.mem_mapIdx]at h;obtain⟨i,hi,rfl⟩:=h;refine⟨b.an[i],List.getElem_mem hi,?_⟩;rw[if_pos hi];unfold Go.Book.eJ;split<;>simp
theorem Kv.abb{n:Nat}{b:Bk}(h:Kv n b){lo hi:Int}{val:cF→Int}:Kv n (wa b lo hi val):=by
 have hl:(wa b lo hi val).an.length=b.an.length:=DF;have hn:(wa b lo hi val).an=[]↔b.an=[]:=by rw[← bR,hl,bR]
 refine {cc:=h.cc,ready:=h.ready,ak:=h.ak,ms:=fun hh=>h.ms (fun h2=>hh (hn.2 h2)),ml:=by rw[hl];exact h.ml,wl:=by rw[hl,← h.wl];exact DG,fit:=fun x hx=>?_,pm:=fun hh h2=>h.pm hh (hn.1 h2),pl:=h.pl,AR:=fun x hx hxl=>?_,rules:=h.rules,yV:=h.yV,KQ:=h.KQ,keep:=h.keep,dI:=h.dI,uok:=h.uok,cu:=h.cu }
 ·obtain⟨e,he,h1,_⟩:=Ou hx;rw[h1];exact h.fit e he
 ·obtain⟨e,he,h1,h2⟩:=Ou hx;rw[h1];exact h.AR e he (h2 hxl)
theorem KA{l:List nh}{e:nh}(h:e∈bZ l):e∈l∧e.left=true:=cT.1 h
theorem Kv.word{n:Nat}{b:Bk}(h:Kv n b){s:List UInt8}{w:Wd}{nm:List UInt8}{l:List Int}(hp:parse s=some (w,nm,l))(hs:s.length≤4000):Kv (n+1) (vu b w.k nm l).1:=by
 obtain⟨_,_,hnm,hll⟩:=ES hp;have h1:=h.le (Nat.le_succ n);generalize w.k=k;unfold vu;split
 ·
  split
  ·unfold xk;split
   ·rename_i hz;split
    ·have hr:b.ready=false:=by
      cases hr:b.ready with
      |false=>rfl
      |true=>exact absurd hz (QX (h.ready hr)).2
     have hm:=h.Gy hr;have hpl:=h.I0 hm;have hno:∀e,e∈b.an→False:=by rw[hm];simp
     exact {h1 with cc:=h.cc,ready:=fun hh=>(by rw[show b.ready=true from hh]at hr;cases hr),ak:=h.ak,fit:=fun e he=>(hno e he).elim,pl:=by simp only[hpl];exact Bo,AR:=fun e he=>(hno e he).elim }
    ·exact h1
   ·exact h1
  ·exact h1
 ·
  unfold xn;split
  ·rename_i hz;split
   ·rename_i ht;have hr:b.ready=false:=by
     cases hr:b.ready with
     |false=>rfl
     |true=>exact absurd hz (QX (h.ready hr)).1
    have hm:=h.Gy hr;have hpl:=h.I0 hm;have hno:∀e,e∈b.an→False:=by rw[hm];simp
    exact {h1 with cc:=.inr ht,ready:=fun hh=>(by rw[show b.ready=true from hh]at hr;cases hr),ak:=h.ak,fit:=fun e he=>(hno e he).elim,pl:=by simp only[Mu,hpl];exact Bo,AR:=fun e he=>(hno e he).elim }
   ·exact h1
  ·exact h1
 ·
  split
  ·rename_i x y z;unfold EH;split
   ·exact h1
   ·rename_i hz;split
    ·rename_i hv;have hr:b.ready=false:=by
      cases hr:b.ready with
      |false=>rfl
      |true=>exact absurd (.inr (.inr hr)) hz
     have hm:=h.Gy hr;have hpl:=h.I0 hm;have hno:∀e,e∈b.an→False:=by rw[hm];simp
     exact {h1 with cc:=h.cc,ready:=fun _=>hv,ak:=fun hh=>(by cases hh),ms:=fun _=>rfl,fit:=fun e he=>(hno e he).elim,pl:=by simp only[II,hpl];exact Bo,AR:=fun e he=>(hno e he).elim }
    ·exact h1
  ·exact h1
 ·
  split
  ·rename_i x y z;unfold yi;split
   ·rename_i hz;obtain⟨hr,hm⟩:=hz;split
    ·rename_i hv;have hpl:=h.I0 hm;have hno:∀e,e∈b.an→False:=by rw[hm];simp
     exact {h1 with cc:=h.cc,ready:=fun _=>hv,ak:=fun hh=>(by rw[show b.ready=false from hh]at hr;cases hr),fit:=fun e he=>(hno e he).elim,pl:=by simp only[vM,hpl];exact Bo,AR:=fun e he=>(hno e he).elim }
    ·exact h1
   ·exact h1
  ·exact h1
 ·
  unfold xl;split
  ·rename_i hz;obtain⟨hr,hpl⟩:=hz;split
   ·exact h1
   ·split
    ·rename_i hml;split
     ·rename_i hb;refine {h1 with ms:=fun _=>hr,ml:=by simp[Ee];omega,wl:=by simp[Ee,h.wl],fit:=fun e he=>?_,pm:=fun hh=>absurd hpl hh,AR:=fun e he hl=>?_ }
      ·simp only[Ee,aY,List.mem_singleton]at he;rcases he with he | rfl
       ·exact h.fit e he
       ·exact⟨hb,by simp;omega,by simp;omega⟩
      ·simp only[Ee];rw[hpl];exact acZ
     ·exact h1
    ·exact h1
  ·exact h1
 ·
  split
  ·unfold EI;split
   ·exact h1
   ·split
    ·exact h1.abb
    ·exact h1
  ·exact h1
 ·
  unfold Ay;split
  ·split
   ·split
    ·rename_i hl _ _;exact {h1 with rules:=by simp;omega }
    ·exact h1
   ·exact h1
  ·exact h1
 ·
  split
  ·split
   ·rename_i hk;exact {h1 with keep:=hk }
   ·exact h1
  ·exact h1
 ·
  unfold xm;split
  ·rename_i hl;split
   ·rename_i ho;refine {h1 with yV:=by simp[I9];omega,KQ:=fun e he=>?_ };simp only[I9,aY,List.mem_singleton]at he;rcases he with he | rfl
    ·exact h.KQ e he
    ·exact ho
   ·exact h1
  ·exact h1
 ·
  unfold yh;split
  ·exact h1
  ·rename_i hl;split
   ·split
    ·split
     ·split
      ·rename_i hf;obtain⟨e0,he0⟩:=List.exists_mem_of_ne_nil _ hl;have key:∀e∈bZ b.an,Bd b.bG e.m=true∧vK b.bG (vi b l)=0∧∃r,Rock.run b.bG e.m (vi b l)=some r:=by
        intro e he;have hz:=sS hf e he;have hb:=(h.fit e (KA he).1).1;simp only[tV,hb,if_true]at hz;split at hz
        ·rename_i hq;cases hr:Rock.run b.bG e.m (vi b l)with
         |none=>rw[hr]at hz;cases hz
         |some r=>exact⟨hb,hq,r,rfl⟩
        ·rename_i hq;exact absurd hz hq
       refine {h1 with pm:=fun _ hh=>?_,pl:=(key e0 he0).2.1,AR:=fun e he hel=>(key e (cT.2 ⟨he,hel⟩)).2.2 };have:=(KA he0).1;rw[show b.an=[]from hh]at this;cases this
      ·exact h1
     ·exact h1
    ·exact h1
   ·exact h1
 ·
  split
  ·unfold yf;split
   ·exact h1
   ·split
    ·split
     ·exact h1.abb
     ·exact h1
    ·exact h1
  ·exact h1
 ·
  split
  ·unfold Az;split
   ·rename_i hl;split
    ·rename_i ho;refine {h1 with dI:=by simp[Ow];omega,uok:=fun u hu=>?_ };simp only[Ow,aY,List.mem_singleton]at hu;rcases hu with hu | rfl
     ·exact h.uok u hu
     ·exact ho
    ·exact h1
   ·exact h1
  ·exact h1
 ·
  split
  ·unfold yg;split
   ·exact h1
   ·split
    ·split
     ·exact {h1 with cu:=by have:=h.cu;simp[aa3];omega }
     ·exact h1
    ·exact h1
  ·exact h1
 ·exact h1
theorem Kv.line{n:Nat}{b:Bk}(h:Kv n b){s:List UInt8}(hs:s.length≤4000){k:Int}:Kv (n+1) (pW b k s).1:=by
 unfold pW;split
 ·rename_i w nm l hp;exact(h.akx k).word hp hs
 ·exact h.le (Nat.le_succ n)
end Go.Proofs.YtklfdfnoebnciaaGreatDoor
namespace Go.Abs
open List(length_flatMap map_take)
variable {T:zO}
theorem JY{f:Nat}{fn:Fn}{args:List D}{σ σ':SK}{d:D}{np:Nat}{res:List CO}{body A q:cA}{fo:bE}{bs:List bE}(hT:T f=some fn)(hf:fn=⟨np,res,body⟩)(hl:args.length=np)(hs:jh body=some (A,fo,bs,q))(hlen:σ'.length=σ.length)
  (h:WC (lim T) A (mR 0 args) ([]::σ) (Jp T fo bs q σ' res d)):
  lim T (.call false f args σ)=some (.val d σ'):=by
 subst hf;obtain⟨x,e1,σ1,h1,rfl,x2,e2,σ2,h2,th,h3,σ3,h4,ds,h5,s,h6⟩:=h;rw[hlen]at h6;refine gX ?_;have hn:aW (lim T) body (mR 0 args) ([]::σ)=none:=xL hs h1;simp only[da,hT,if_pos hl,ar,if_false,hn,hs,yD,h1,h2];have h4':∃dv,pV (lim T) (aZ e1 fo) (bs.map (aZ e1)) th σ2=some (.val dv σ3):=by
  unfold vt at h4;split at h4
  ·rename_i h7;cases h4;exact⟨_,h7⟩
  ·cases h4
 obtain⟨dv,h4'⟩:=h4';cases x2 with
 |exit i=>cases h3
 |normal=>cases h3;simp only[yE,h4',uz,leave,h5,h6]
 |ret=>cases h3;simp only[yE,h4',uz,leave,h5,h6]
 |fx d=>cases h3;simp only[yE,h4',uz,leave,h5,h6]
end Go.Abs
namespace Go.Proofs.YtklfdfnoebnciaaGreatDoor
open List(length_flatMap map_take)
open Go Go.Abs Go.Rock Go.Book
variable {σ:SK}
theorem ace{c:List D}:lim T (.xj cK [.ref σ.length 0 0 0] none ([.cells 0 c]::σ))=some (.val (.dQ []) ([.cells 0 c]::σ)):=by
 refine Ax ug iL.eq_1 rfl (by simp[-length_flatMap,-map_take,rJ];exact⟨rfl,rfl⟩) ?_;simp[-length_flatMap,-map_take]
theorem MV{e:Int}:lim T (.xj cK [.ref σ.length 0 0 0] (some (rf e)) ([.cells 0 [.int .i64 0]]::σ))=some (.val (.dQ []) ([.cells 0 [.int .i64 e]]::σ)):=by
 refine Ax ug iL.eq_1 rfl (by simp[-length_flatMap,-map_take,rJ];exact⟨rfl,rfl⟩) ?_;simp[-length_flatMap,-map_take,rf]
theorem O0{b:Bk}{k:Nat}{nm:List UInt8}{l:List Int}(h:(vu b k nm l).2≠0):(vu b k nm l).1=b:=by
 unfold vu at h ⊢;split;all_goals
  simp only at h
  try unfold Go.Book.xk at *
  try unfold xn at *
  try unfold EH at *
  try unfold yi at *
  try unfold xl at *
  try unfold EI at *
  try unfold Ay at *
  try unfold xm at *
  try unfold yh at *
  try unfold yf at *
  try unfold Az at *
  try unfold yg at *
  repeat' split
  all_goals first | rfl | (simp_all)
theorem aj1{b:Bk}{er:List Int}{s:List UInt8}{n:Nat}{k:Int}(hK:Kv n b)(hn:n≤1000000)(hs:s.length≤4000):
  lim T (.call false kh [.ref σ.length 6 0 0,.int .i64 k,.str s] (b.bk σ.length er::σ))=some (.val (.int .i64 (pW b k s).2) ((pW b k s).1.bk σ.length er::σ)):=by
 refine JY BD nz.eq_1 rfl rfl (by simp) ?_;cases hp:parse s with
 |none =>
  have hP:=fun S=>Lk (σ:=S) (s:=s) (by omega) hp
  have hX:vt T (.fn cK [] [.ref (σ.length+1) 0 0 0]) [] (some (rf 4)) ([.cells 0 [.int .i64 0]]::b.bk σ.length er::σ)=some ([.cells 0 [.int .i64 4]]::b.bk σ.length er::σ):=uy (MV (σ:=b.bk σ.length er::σ));have hd:pW b k s=(b,4):=by simp[pW,hp]
  rw[hd];simp only[Bk.bk,Bk.cells,rf]at hX hP;simp[-length_flatMap,-map_take,Jp,Ad,Bk.bk,Bk.cells];rw[yC kB.eq_1];simp[-length_flatMap,-map_take,Jp,Ad,Bk.bk,Bk.cells,hP,hX]
 |some p =>
  obtain⟨w,nm,l⟩:=p;have hP:=fun S hS=>Qo (σ:=S) (s:=s) (by omega) hS hp
  have hD:=auy (σ:=σ) (F:=[.cells 0 [.int .i64 0]]) (er:=er) (hK.akx k) hn hp hs;have hd:pW b k s=vu {b with at_:=k } w.k nm l:=by simp[pW,hp]
  rw[hd];have hno:=O0 (b:={b with at_:=k }) (k:=w.k) (nm:=nm) (l:=l);generalize vu {b with at_:=k } w.k nm l=r at hD hno ⊢;obtain⟨b',e⟩:=r;have hwc:La w=[.bool w.named,.int .i64 w.least,.int .i64 w.step,.fn ((H2[w.k]?).getD 0) [] []]:=rfl;simp only[xI,hwc]at hP;by_cases he:e=0
  ·subst he;have hX:vt T (.fn cK [] [.ref (σ.length+1) 0 0 0]) [] none ([.cells 0 [.int .i64 0]]::b'.bk σ.length er::σ)=some ([.cells 0 [.int .i64 0]]::b'.bk σ.length er::σ):=uy (ace (σ:=b'.bk σ.length er::σ));simp only[doR,if_true]at hD;simp only[Bk.bk,Bk.cells]at hX hD;simp[-length_flatMap,-map_take,Jp,Ad,Bk.bk,Bk.cells];rw[yC kB.eq_1];simp[-length_flatMap,-map_take,Jp,Ad,Bk.bk,Bk.cells,hP,hD,hX]
  ·have hX:vt T (.fn cK [] [.ref (σ.length+1) 0 0 0]) [] (some (rf e)) ([.cells 0 [.int .i64 0]]::(Bk.bk σ.length {b with at_:=k } er)::σ)=some ([.cells 0 [.int .i64 e]]::(Bk.bk σ.length {b with at_:=k } er)::σ):=uy (MV (σ:=(Bk.bk σ.length {b with at_:=k } er)::σ));simp only[doR,he,if_false]at hD;have hb':b'={b with at_:=k }:=hno he;subst hb';simp only[Bk.bk,Bk.cells,rf]at hX hD;simp[-length_flatMap,-map_take,Jp,Ad,Bk.bk,Bk.cells];rw[yC kB.eq_1];simp[-length_flatMap,-map_take,Jp,Ad,Bk.bk,Bk.cells,hP,hD,hX]
def vm:Bk→Int→List (List UInt8)→Bk×List Int
 |b,_,[]=>(b,[])
 |b,k,s::l=>((vm (pW b k s).1 (k+1) l).1,(pW b k s).2::(vm (pW b k s).1 (k+1) l).2)
def vn(l:List (List UInt8)):Bk×List Int:=vm uo 0 l
theorem Ie:∀{l:List (List UInt8)} {b:Bk} {k:Int},(vm b k l).2.length=l.length
 |[],_,_=>rfl
 |s::l,b,k=>by simp[vm,Ie (l:=l)]
def okL(l:List (List UInt8)):Prop:=l.length≤100∧∀s∈l,s.length≤4000
theorem GH:∀{l:List (List UInt8)} {b:Bk} {k:Int} {n:Nat},Kv n b→(∀s∈l,s.length≤4000)→Kv (n+l.length) (vm b k l).1
 |[],b,k,n,h,_=>h
 |s::l,b,k,n,h,hs=>by
  have h1:=h.line (hs s (by simp)) (k:=k);have h2:=GH (l:=l) (k:=k+1) h1 fun x hx=>hs x (by simp[hx])
  simp only[vm,aD];rwa[show n+(l.length+1)=n+1+l.length by omega]
theorem QN{lines:List (List UInt8)}(hl:okL lines):∀(m i:Nat) (b:Bk) (er:List Int),i+m=lines.length→er.length=i→Kv i b →
  WL T [4,5,12,13,14] false qU [(4,.ref σ.length 6 0 0),(5,.sl σ.length 7 i 0 i 1),(12,.aE lines.length (lines.flatMap eJ)),(13,.int .i64 lines.length),(14,.int .i64 i)] (b.bk σ.length er::σ)
   (fun x e σ'=>x=.exit 0∧get e 4=.ref σ.length 6 0 0∧get e 5=.sl σ.length 7 lines.length 0 lines.length 1∧σ'=(vm b i (lines.drop i)).1.bk σ.length (er++(vm b i (lines.drop i)).2)::σ)
 |0,i,b,er,hi,he,hK=>by
  refine aH qU.eq_1 ?_;obtain rfl:i=lines.length:=by omega
  have h2:lines.drop lines.length=[]:=az (by omega);simp[-length_flatMap,-map_take,h2,vm]
 |m+1,i,b,er,hi,he,hK=>by
  refine aH qU.eq_1 ?_;have h1:i<lines.length:=by omega
  obtain⟨s,hs⟩:=gE h1;have a1:=cj (f:=eJ) (w:=1) (fun _=>rfl) hs;simp only[eJ,iw]at a1;have h4:=ga h1 (by have:=hl.1;omega);have hsl:=hl.2 s (ai hs);have hn:=hl.1;have hC:=aj1 (σ:=σ) (b:=b) (er:=er) (s:=s) (k:=i) hK (by omega) hsl;have hK':=hK.line hsl (k:=i);rw[dh hs];simp only[vm];generalize pW b i s=r at hC hK' ⊢;obtain⟨b',e⟩:=r;have ih:=QN hl m (i+1) b' (er++[e]) (by omega) (by simp[he]) hK';have hel:=AL er;have het:(er.flatMap aU).take i=er.flatMap aU:=ah (by omega);have hr:(i+1)*8≤room:=by unfold room;omega
  simp only[Bk.bk,Bk.cells,he]at hC;simp[-length_flatMap,-map_take,h1,a1,h4,hC,Bk.bk,Bk.cells,hr,hel,het,he];refine WL.to ih (by simp) (by simp[Bk.bk,Bk.cells,he]) fun x e' σ' hh=>?_
  have e1:((i+1:Nat):Int)=(i:Int)+1:=by omega
  rw[e1]at hh;simpa[Bk.bk,Bk.cells]using hh
theorem aj6{lines:List (List UInt8)}(hl:okL lines):lim T (.call true rU [.aE lines.length (lines.flatMap eJ)] ([]::σ)) =
  some (.val (.dQ [.ref σ.length 6 0 0,.sl σ.length 7 lines.length 0 lines.length 1]) ((vn lines).1.bk σ.length (vn lines).2::σ)):=by
 refine vR G3 uP.eq_1 rfl ?_;have hL:=QN (σ:=σ) hl lines.length 0 uo [] (by omega) rfl Kv.zero;rw[aJ]at hL;simp[-length_flatMap,-map_take];refine WL.to hL (by simp) (by simp[Bk.bk,Bk.cells,uo,nl]) ?_;rintro x e σ' ⟨rfl,g4,g5,rfl⟩;simp[-length_flatMap,-map_take,g4,g5,vn]
end Go.Proofs.YtklfdfnoebnciaaGreatDoor
namespace Go.Proofs.YtklfdfnoebnciaaGreatDoor
open List(length_flatMap map_take)
open Go Go.Abs Go.Rock Go.Book
theorem Ke:∀{l:List Int} {a:Int},l.foldl min a≤a∧(∀x∈l,l.foldl min a≤x)∧(l.foldl min a=a∨l.foldl min a∈l)
 |[],a=>⟨Int.le_refl _,by simp,.inl rfl⟩
 |x::l,a=>by
  obtain⟨h1,h2,h3⟩:=Ke (l:=l) (a:=min a x);simp only[List.foldl_cons,bq];refine⟨by omega,fun y hy=>?_,?_⟩
  ·rcases hy with rfl | hy
   ·omega
   ·exact h2 y hy
  ·rcases h3 with h3 | h3
   ·by_cases h:a≤x
    ·left;omega
    ·right;left;omega
   ·exact .inr (.inr h3)
theorem Kd:∀{l:List Int} {a:Int},a≤l.foldl max a∧(∀x∈l,x≤l.foldl max a)∧(l.foldl max a=a∨l.foldl max a∈l)
 |[],a=>⟨Int.le_refl _,by simp,.inl rfl⟩
 |x::l,a=>by
  obtain⟨h1,h2,h3⟩:=Kd (l:=l) (a:=max a x);simp only[List.foldl_cons,bq];refine⟨by omega,fun y hy=>?_,?_⟩
  ·rcases hy with rfl | hy
   ·omega
   ·exact h2 y hy
  ·rcases h3 with h3 | h3
   ·by_cases h:a≤x
    ·right;left;omega
    ·left;omega
   ·exact .inr (.inr h3)
def GJ(x:GR):Prop:=0≤x.wlo∧x.wlo≤x.whi∧x.whi≤1000000000
theorem atC{b:Bk}{w lv u:Int}(hul:b.dI.length≤10)(huk:∀x∈b.dI,x.ok=true)(hu:AV b w lv u 0=true∨∃p,AV b w lv u p=true)(hl:bZ b.an≠[])(h:DC b w lv u=0):
  0≤Gw (yr b w lv u)∧Gw (yr b w lv u)≤Gv (yr b w lv u)∧Gv (yr b w lv u)≤1000000000:=by
 have hin:0≤u∧u≤(b.dI.length:Int)-1:=by
  have key:∀p,AV b w lv u p=true→0≤u∧u≤(b.dI.length:Int)-1:=fun p hp=>by
   simp only[AV,ae]at hp;exact aR.1 hp.2.2.1
  rcases hu with hu | ⟨p,hu⟩
  ·exact key _ hu
  ·exact key _ hu
 have hb:∀x∈yr b w lv u,0≤x∧x≤1000000000:=by
  intro x hx;simp only[yr,bN]at hx;obtain⟨e,he,rfl⟩:=hx;exact Oi (by omega) huk (sS h e he)
 cases hw:yr b w lv u with
 |nil=>simp only[yr,List.map_eq_nil_iff]at hw;exact absurd hw hl
 |cons a l =>
  rw[hw]at hb;obtain⟨h1,h2,h3⟩:=Ke (l:=l) (a:=a);obtain⟨k1,k2,k3⟩:=Kd (l:=l) (a:=a);have ha:=hb a (by simp);simp only[Gw,Gv];refine⟨?_,by omega,?_⟩
  ·rcases h3 with h3 | h3
   ·omega
   ·exact(hb _ (List.mem_cons_of_mem _ h3)).1
  ·rcases k3 with k3 | k3
   ·omega
   ·exact(hb _ (List.mem_cons_of_mem _ k3)).2
theorem MA{n:Nat}{b:Bk}(hK:Kv n b)(k:Nat)(nm:List UInt8)(l:List Int):(vu b k nm l).1.cu=b.cu∨∃x,(vu b k nm l).1.cu=b.cu++[x]∧GJ x:=by
 have same:∀(c:Bk) (e:Int),c.cu=b.cu→((c,e):Bk×Int).1.cu=b.cu∨∃x,((c,e):Bk×Int).1.cu=b.cu++[x]∧GJ x:=fun c e h => .inl h
 unfold vu;split
 ·split
  ·unfold xk;split
   ·split<;>exact .inl rfl
   ·exact .inl rfl
  ·exact .inl rfl
 ·unfold xn;split
  ·split<;>exact .inl rfl
  ·exact .inl rfl
 ·split
  ·unfold EH;split
   ·exact .inl rfl
   ·split<;>exact .inl rfl
  ·exact .inl rfl
 ·split
  ·unfold yi;split
   ·split<;>exact .inl rfl
   ·exact .inl rfl
  ·exact .inl rfl
 ·unfold xl;split
  ·split
   ·exact .inl rfl
   ·split
    ·split<;>exact .inl rfl
    ·exact .inl rfl
  ·exact .inl rfl
 ·split
  ·unfold EI;split
   ·exact .inl rfl
   ·split<;>exact .inl rfl
  ·exact .inl rfl
 ·unfold Ay;split
  ·split
   ·split<;>exact .inl rfl
   ·exact .inl rfl
  ·exact .inl rfl
 ·split
  ·split<;>exact .inl rfl
  ·exact .inl rfl
 ·unfold xm;split
  ·split<;>exact .inl rfl
  ·exact .inl rfl
 ·unfold yh;split
  ·exact .inl rfl
  ·split
   ·split
    ·split
     ·split<;>exact .inl rfl
     ·exact .inl rfl
    ·exact .inl rfl
   ·exact .inl rfl
 ·split
  ·unfold yf;split
   ·exact .inl rfl
   ·split
    ·split<;>exact .inl rfl
    ·exact .inl rfl
  ·exact .inl rfl
 ·split
  ·unfold Az;split
   ·split<;>exact .inl rfl
   ·exact .inl rfl
  ·exact .inl rfl
 ·split
  ·unfold yg;split
   ·exact .inl rfl
   ·rename_i h1;split
    ·rename_i h2;split
     ·rename_i h3;exact .inr ⟨_,rfl,atC hK.dI hK.uok (.inr ⟨_,h2⟩) (fun h=>h1 (.inl h)) h3⟩
     ·exact .inl rfl
    ·exact .inl rfl
  ·exact .inl rfl
 ·exact .inl rfl
theorem Gt{n:Nat}{b:Bk}(hK:Kv n b)(k:Int)(s:List UInt8):(pW b k s).1.cu=b.cu∨∃x,(pW b k s).1.cu=b.cu++[x]∧GJ x:=by
 unfold pW;cases parse s with
 |none=>exact .inl rfl
 |some q=>exact MA (hK.akx k) _ _ _
theorem Ig:∀{l:List (List UInt8)} {b:Bk} {k:Int} {n:Nat},Kv n b→(∀s∈l,s.length≤4000)→(∀x∈b.cu,GJ x)→∀x∈(vm b k l).1.cu,GJ x
 |[],b,k,n,hK,hl,h=>h
 |s::l,b,k,n,hK,hl,h=>by
  refine Ig (l:=l) (hK.line (hl s (by simp)) (k:=k)) (fun x hx=>hl x (List.mem_cons_of_mem _ hx)) ?_;rcases Gt hK k s with h1 | ⟨x,h1,h2⟩
  ·rw[h1];exact h
  ·rw[h1];intro y hy;rcases aY.1 hy with hy | hy
   ·exact h y hy
   ·rw[List.mem_singleton.1 hy];exact h2
theorem Oh:∀{l:List (List UInt8)} {b:Bk} {k:Int} {s:List UInt8},(vm b k (l++[s])).1=(pW (vm b k l).1 (k+l.length) s).1
 |[],b,k,s=>by simp[vm]
 |x::l,b,k,s=>by
  have ih:=Oh (l:=l) (b:=(pW b k x).1) (k:=k+1) (s:=s);have e:k+1+(l.length:Int)=k+((l.length+1:Nat):Int):=by omega
  rw[e]at ih;simpa[vm]using ih
theorem LH{l:List (List UInt8)}{s:List UInt8}(hl:∀s∈l,s.length≤4000):(∀x∈(vn l).1.cu,GJ x)∧∃t,(vn (l++[s])).1.cu=(vn l).1.cu++t:=by
 refine⟨Ig Kv.zero hl (by intro x hx;cases hx),?_⟩;unfold vn;rw[Oh];have hK:=GH (l:=l) (k:=0) Kv.zero hl;rcases Gt hK (0+l.length) s with h1 | ⟨x,h1,_⟩
 ·exact⟨[],by rw[h1];simp⟩
 ·exact⟨[x],h1⟩
def z0(e:nh):nh:={e with by_:=0 }
def nmB(b:Bk):Bk:={b with an:=b.an.map z0,oS:=[],at_:=0 }
theorem anC(l:List nh):(l.map z0).map z0=l.map z0:=by
 rw[List.map_map];rfl
theorem asP(b:Bk):nmB (nmB b)=nmB b:=by
 simp only[nmB,anC]
def SmQ(x y:Bk×Int):Prop:=x.2=y.2∧nmB x.1=nmB y.1
theorem SmQ.ite{c:Prop}{_:Decidable c}{x y x' y':Bk×Int}(h1:c→SmQ x x')(h2:¬c→SmQ y y'):SmQ (if c then x else y) (if c then x' else y'):=by
 by_cases h:c
 ·rw[if_pos h,if_pos h];exact h1 h
 ·rw[if_neg h,if_neg h];exact h2 h
theorem SmQ.no(b:Bk)(e:Int):SmQ (b,e) (nmB b,e):=⟨rfl,(asP b).symm⟩
end Go.Proofs.YtklfdfnoebnciaaGreatDoor
namespace Go.Book
open List(length_flatMap map_take)
open Go Go.Abs
end Go.Book
