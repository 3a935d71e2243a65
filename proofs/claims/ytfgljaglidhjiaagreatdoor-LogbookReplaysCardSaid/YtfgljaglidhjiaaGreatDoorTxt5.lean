import Derived.Test.YtfgljaglidhjiaaGreatDoorTxt4
import Derived.Test.YtfgljaglidhjiaaGreatDoorTxt3
import Derived.Test.YtfgljaglidhjiaaGreatDoorTxt2
set_option linter.all false
namespace Go.Book
open List(length_flatMap map_take)
open Go Go.Abs Go.Rock
def UP(lo hi s:Int):Int:=if hi<s∨s<lo then s else lo
end Go.Book
namespace Go.Proofs.YtfgljaglidhjiaaGreatDoor
open List(length_flatMap map_take)
open Go Go.Abs Go.Rock Go.Book
variable {σ:SK}
def CD(b:Bk)(x:yc)(m:cX):Int:=match Rock.run b.bL m b.aC with
 |some r=>UP x.lo x.hi (xl b.bL m r x)
 |none=>x.lo
theorem ahf{b:cC}{m:cX}{aC:List (List Int)}{x:yc}{r:RunT}(hr:zh b aC.length [x]=0)(hrun:Rock.run b m aC=some r):
  ∃n A,afS b [m] aC [x]=.ez [.aK n A,.aK (if EL x.lo x.hi (xl b m r x)=0 then 0 else 1) (if EL x.lo x.hi (xl b m r x)=0 then []else CM (0,0,EL x.lo x.hi (xl b m r x))),.int .i64 0]∧D.bD A=true:=by
 have h1:zj b aC [m]=some [r]:=by simp[zj,hrun]
 refine⟨(ND b [x] 0 [(m,r)] ([],[])).1.length,(ND b [x] 0 [(m,r)] ([],[])).1.flatMap aU,?_,bA _⟩;unfold afS;rw[if_pos hr,h1];by_cases hz:EL x.lo x.hi (xl b m r x)=0<;>simp[ND,BE,GF,hz]
theorem arS{b:cC}{m:cX}{aC:List (List Int)}{x:yc}(hr:zh b aC.length [x]≠0):afS b [m] aC [x]=.ez [.aK 0 [],.aK 0 [],.int .i64 (zh b aC.length [x])]:=by
 unfold afS;rw[if_neg hr]
theorem Fe{b:cC}{n:Int}{x:yc}:zh b n [x]=xk b n x:=by
 simp only[zh,aO,bO,cQ];by_cases h:xk b n x=0<;>simp[h]
theorem GG{b:Bk}{m:cX}{x:yc}(ht:b.bL.cf≠[])(hok:Ok b.bL [m] b.aC)(hw:0≤x.sn∧x.sn≤255)(hσ:σ≠[]):
  bw T (.call false nD [.agg [.int .i64 b.bL.f.x,.int .i64 b.bL.f.y,.int .i64 b.bL.f.z,.int .i64 b.bL.f.k,nl Rw.enc b.bL.cf,.int .i64 b.bL.bJ,.int .i64 b.bL.lift,.int .i64 b.bL.deep,nl bH.enc b.bL.av],.aK 1 [.str m.name,.aK m.bg.length (m.bg.flatMap aU)],nl pE b.aC,.aK 1 x.enc] σ)=some (.val (afS b.bL [m] b.aC [x]) σ):=by
 have h:=U0 (σ:=σ) (wq:=nl bH.enc b.bL.av) vp hok (rd:=[x]) (by simp) (by intro y hy;simp at hy;subst hy;exact hw) hσ;rw[eI ht];simpa[afo]using h
theorem aqs{F:List Abs.aG}{b:Bk}{er:List Int}{m:cX}{x:yc}{w:Int}{r:RunT}(ht:b.bL.cf≠[])(hok:Ok b.bL [m] b.aC)(hw:0≤x.sn∧x.sn≤255)(hr:xk b.bL b.aC.length x=0)(hrun:Rock.run b.bL m b.aC=some r):
  bw T (.call false eT [.agg [.str m.name,.aK m.bg.length (m.bg.flatMap aU)],.bE [.ref σ.length 6 0 0],.ref (σ.length+1+1) 0 0 0,.bE [.aK 4 [.int .i64 w,.int .i64 x.idx,.int .i64 x.lo,.int .i64 x.hi]]] ([]::[.cells 0 x.enc]::F::b.bx σ.length er::σ))=some (.val (.int .i64 (CD b x m)) ([]::[.cells 0 x.enc]::F::b.bx σ.length er::σ)):=by
 refine aD C7 Dw rfl ?_;have hS:=fun S hS=>GG (σ:=S) ht hok hw hS
 obtain⟨n,A,h1,hA⟩:=ahf (b:=b.bL) (m:=m) (aC:=b.aC) (x:=x) (by rw[Fe];exact hr) hrun;rw[h1]at hS;have hd:=Rdv.of hr;have hb:=ag3 (hok.fv m (by simp)) (S9.of (hok.fv m (by simp)) hok.aR hrun) hd;obtain⟨e1,e2,e3⟩:=hd.ends;have hv:CD b x m=UP x.lo x.hi (xl b.bL m r x):=by simp[CD,hrun]
 rw[hv];have hm:=afw (lo:=x.lo) (hi:=x.hi) (s:=xl b.bL m r x) e2;generalize xl b.bL m r x=s at *
 simp only[yc.enc]at hS ⊢;unfold apa at hm;by_cases c1:x.hi<s
 ·rw[if_pos c1]at hm;have c2:¬s-x.hi=0:=by omega
  have c3:0<s-x.hi:=by omega
  have w1:IntKind.i64.wrap (x.hi+(s-x.hi))=s:=by rw[show x.hi+(s-x.hi)=s by omega];exact gQ (by omega)
  have hq:UP x.lo x.hi s=s:=by simp[UP,c1]
  rw[hm]at hS;simp[-length_flatMap,-map_take,Bk.bx,Bk.cells,hS,c1,(show ¬s≤x.hi by omega),c2,c3,w1,hq,CM,hA]
 ·rw[if_neg c1]at hm;by_cases c4:s<x.lo
  ·rw[if_pos c4]at hm;have c2:¬s-x.lo=0:=by omega
   have c3:¬0<s-x.lo:=by omega
   have w1:IntKind.i64.wrap (x.lo+(s-x.lo))=s:=by rw[show x.lo+(s-x.lo)=s by omega];exact gQ (by omega)
   have hq:UP x.lo x.hi s=s:=by simp[UP,c4]
   rw[hm]at hS;simp[-length_flatMap,-map_take,Bk.bx,Bk.cells,hS,(show ¬x.lo<s by omega),c2,c3,w1,hq,CM,hA]
  ·rw[if_neg c4]at hm;have hq:UP x.lo x.hi s=x.lo:=by simp[UP,c1,c4]
   rw[hm]at hS;simp[-length_flatMap,-map_take,Bk.bx,Bk.cells,hS,hq,hA]
def Ay(b:Bk)(x:yc):Bk×Int :=
 if bZ b.az=[]then(b,8)else if cV x.sn 0 255=true then(if xk b.bL b.aC.length x=0 then(tJ b x.lo x.hi (CD b x),0)else(b,xk b.bL b.aC.length x))else(b,1)
theorem aqt{F:List Abs.aG}{b:Bk}{er:List Int}{nm:List UInt8}{w i lo hi:Int}{b':Bk}{e:Int}(ht:b.bL.cf≠[])(hw:b.pX.length=b.az.length)(hml:b.az.length≤40)(hok:∀e∈b.az,Ok b.bL [e.m] b.aC)(hrun:∀e∈b.az,e.left=true→∃r,Rock.run b.bL e.m b.aC=some r)(hd:Ay b ⟨b.aC.length,w,i,lo,hi⟩=(b',e))(he:e=0):
  bw T (.call false fY [.ref σ.length 6 0 0,.str nm,.aK 4 [.int .i64 w,.int .i64 i,.int .i64 lo,.int .i64 hi]] (F::b.bx σ.length er::σ))=some (.val (.ez []) (F::b'.bx σ.length er::σ)):=by
 refine gF xH xP rfl (by simp) ?_;unfold Ay at hd;split at hd
 case isTrue=>cases hd;cases he
 rename_i c1;split at hd
 case isFalse=>cases hd;cases he
 rename_i c2;split at hd
 case isFalse=>cases hd;rename_i h;exact absurd he h
 rename_i c3;cases hd;have c2i:=bf.1 c2;have q1:0<(bZ b.az).length:=aV.2 c1;have hLf:=fun S=>JD (σ:=σ) (b:=b) (er:=er) (S:=S) (by omega)
 obtain⟨e0,ls,hls⟩:∃e0 ls,bZ b.az=e0::ls:=by
  cases h:bZ b.az with
  |nil=>exact absurd h c1
  |cons a l=>exact⟨a,l,rfl⟩
 have he0:e0∈b.az∧e0.left=true:=dn.1 (show e0∈bZ b.az by rw[hls];simp);obtain⟨r0,hr0⟩:=hrun e0 he0.1 he0.2;have w1:IntKind.u8.wrap w=w:=wu8 (by omega);have hS:=fun S hS=>GG (σ:=S) (x:=⟨b.aC.length,w,i,lo,hi⟩) ht (hok e0 he0.1) (by simpa using c2i) hS
 obtain⟨n,A,h1,hA⟩:=ahf (b:=b.bL) (m:=e0.m) (aC:=b.aC) (x:=⟨b.aC.length,w,i,lo,hi⟩) (by rw[Fe];exact c3) hr0;rw[h1]at hS;have hst:=S3 (σ:=σ) (A:=[.cells 0 (yc.enc ⟨b.aC.length,w,i,lo,hi⟩)]) (F:=F) (b:=b) (er:=er) (lo:=lo) (hi:=hi) (val:=CD b ⟨b.aC.length,w,i,lo,hi⟩) (fv:=.fn eT [] [.bE [.ref σ.length 6 0 0],.ref (σ.length+1+1) 0 0 0,.bE [.aK 4 [.int .i64 w,.int .i64 i,.int .i64 lo,.int .i64 hi]]]) rfl rfl hw hml (by
  intro k e he hl;obtain⟨r,hr⟩:=hrun e he hl;have h:=aqs (σ:=σ) (F:=F) (er:=er) (b:=b.kQ lo hi (CD b ⟨b.aC.length,w,i,lo,hi⟩) k) (m:=e.m) (x:=⟨b.aC.length,w,i,lo,hi⟩) (w:=w) ht (hok e he) (by simpa using c2i) c3 hr;rw[sU];have h':bw T (.call false eT ([]++[.agg [.str e.m.name,.aK e.m.bg.length (e.m.bg.flatMap aU)]]++[.bE [.ref σ.length 6 0 0],.ref (σ.length+1+1) 0 0 0,.bE [.aK 4 [.int .i64 w,.int .i64 i,.int .i64 lo,.int .i64 hi]]]) ([]::[.cells 0 (yc.enc ⟨b.aC.length,w,i,lo,hi⟩)]::F::(b.kQ lo hi (CD b ⟨b.aC.length,w,i,lo,hi⟩) k).bx σ.length er::σ))=_:=h;rw[h'];rfl)
 rw[hls]at hLf;simp only[Bk.bx,Bk.cells,yc.enc]at hst hLf hS;have hcl:∀T,D.bD (if T=0 then []else CM (0,0,T))=true:=fun T=>by split<;>simp[CM]
 simp[-length_flatMap,-map_take,Bk.bx,Bk.cells,hLf,cH,fg,c2,w1,hS,pI,hA,hcl,hst,bA]
theorem ai4{F:List Abs.aG}{b:Bk}{er:List Int}{nm:List UInt8}{w i lo hi:Int}{b':Bk}{e:Int}(ht:bZ b.az≠[]→b.bL.cf≠[])(hml:b.az.length≤40)(hok:∀e∈b.az,Ok b.bL [e.m] b.aC)(hd:Ay b ⟨b.aC.length,w,i,lo,hi⟩=(b',e))(he:e≠0):
  bw T (.call false fY [.ref σ.length 6 0 0,.str nm,.aK 4 [.int .i64 w,.int .i64 i,.int .i64 lo,.int .i64 hi]] (F::b.bx σ.length er::σ))=some (.fU (rf e) (F::b.bx σ.length er::σ)):=by
 refine eg xH xP rfl ?_;have hLf:=fun S=>JD (σ:=σ) (b:=b) (er:=er) (S:=S) (by omega)
 simp only[Bk.bx,Bk.cells]at hLf;unfold Ay at hd;split at hd
 case isTrue c1 =>
  cases hd;simp[-length_flatMap,-map_take,Bk.bx,Bk.cells,hLf,c1,dJ,D.clean,rf]
 rename_i c1;have ht:=ht c1;have q1:0<(bZ b.az).length:=aV.2 c1;split at hd
 case isFalse c2 =>
  cases hd;have c2':cV w 0 255=false:=by simpa using c2
  simp[-length_flatMap,-map_take,Bk.bx,Bk.cells,hLf,q1,fg,c2',cH,dJ,D.clean,rf]
 rename_i c2;have c2i:=bf.1 c2;split at hd
 case isTrue=>cases hd;exact absurd rfl he
 rename_i c3;cases hd;obtain⟨e0,ls,hls⟩:∃e0 ls,bZ b.az=e0::ls:=by
  cases h:bZ b.az with
  |nil=>exact absurd h c1
  |cons a l=>exact⟨a,l,rfl⟩
 have he0:e0∈b.az∧e0.left=true:=dn.1 (show e0∈bZ b.az by rw[hls];simp);have w1:IntKind.u8.wrap w=w:=wu8 (by omega);have hS:=fun S hS=>GG (σ:=S) (x:=⟨b.aC.length,w,i,lo,hi⟩) ht (hok e0 he0.1) (by simpa using c2i) hS
 rw[arS (by rw[Fe];exact c3),Fe]at hS;have hM:=fun σ=>rD (σ:=σ) c3
 generalize xk b.bL b.aC.length ⟨b.aC.length,w,i,lo,hi⟩=err at hS hM c3 he ⊢;have hrc:(D.vn 311 (.agg [.int .i64 err])).clean=true:=rfl;rw[hls]at hLf;simp only[yc.enc]at hS;simp[-length_flatMap,-map_take,Bk.bx,Bk.cells,hLf,cH,fg,c2,w1,hS,hM,bA,rf,hrc]
end Go.Proofs.YtfgljaglidhjiaaGreatDoor
namespace Go.Book
open List(length_flatMap map_take)
open Go Go.Abs Go.Rock
def Vo:List Prt→Int
 |[]=>0
 |p::l=>p.width+Vo l
def CA:List Prt→Int→Int
 |[],_=>0
 |p::l,m=>p.xB*min m p.width+CA l (m-min m p.width)
def PB:List Prt→Int→Int
 |[],m=>m
 |p::l,m=>PB l (m-min m p.width)
def Ib(l:List Prt):Prop:=∀p∈l,(0≤p.xB∧p.xB≤1000)∧1≤p.width∧p.width≤100000
theorem EB:∀{l:List Prt} {last:Int},last≤1000→AG last l=true→Ib l
 |[],_,_,_=>by intro p hp;cases hp
 |q::l,last,hl,h=>by
  simp only[AG,Prt.ok,af,bf]at h;intro p hp;rcases bq.1 hp with rfl | hp
  ·omega
  ·exact EB (by omega) h.2 p hp
theorem afE:∀{l:List Prt} {m:Int},Ib l→0≤m→0≤CA l m∧CA l m≤1000*m
 |[],m,_,hm=>by simp[CA];omega
 |p::l,m,h,hm=>by
  have h1:=h p (by simp);have h2:=afE (l:=l) (m:=m-min m p.width) (fun q hq=>h q (by simp[hq])) (by omega);have h3:0≤p.xB*min m p.width:=fq h1.1.1 (by omega);have h4:p.xB*min m p.width≤1000*min m p.width:=fL h1.1.2 (by omega);simp only[CA];omega
end Go.Book
namespace Go.Proofs.YtfgljaglidhjiaaGreatDoor
open List(length_flatMap map_take)
open Go Go.Abs Go.Rock Go.Book
variable {σ:SK}
theorem ar7{l:List Prt}(hs:Ib l)(hl:l.length≤8):∀(m i:Nat) (out:Int),i+m=l.length→0≤out→out≤100000*i →
  WL T [2,6,7,8] false kb [(2,.int .i64 out),(6,.aK l.length (l.flatMap Prt.enc)),(7,.int .i64 l.length),(8,.int .i64 i)] σ
   (fun x e σ'=>x=.exit 0∧σ'=σ∧get e 2=.int .i64 (out+Vo (l.drop i)))
 |0,i,out,hi,h0,ho=>by
  refine aM sV ?_;have h1:¬i<l.length:=by omega
  have h2:l.drop i=[]:=aJ (by omega);simp[-length_flatMap,-map_take,h1,h2,Vo]
 |m+1,i,out,hi,h0,ho=>by
  refine aM sV ?_;have h1:i<l.length:=by omega
  obtain⟨p,hp⟩:=gE h1;have hfl:=bQ (f:=Prt.enc) (w:=2) (fun _=>rfl) hp;have hd:=dG hp;have h4:=fK h1 (by omega);have hb:=hs p (an hp);have w1:IntKind.i64.wrap (out+p.width)=out+p.width:=gQ (by omega);have ih:=ar7 hs hl m (i+1) (out+p.width) (by omega) (by omega) (by omega);rw[hd,Vo];simp[-length_flatMap,-map_take,h1,hfl,h4,w1];exact WL.to ih (by simp) rfl fun x e σ' hh=>by simpa[Int.add_assoc]using hh
theorem U3{u:Al}(hs:Ib u.parts)(hl:u.parts.length≤8):bw T (.call false jN [.agg u.enc] σ)=some (.val (.int .i64 (Vo u.parts)) σ):=by
 refine aD C9 Dy rfl ?_;simp[-length_flatMap,-map_take,Cf];refine WL.to (ar7 (σ:=[]::σ) hs hl u.parts.length 0 0 (by omega) (by omega) (by omega)) (by simp) rfl ?_;rintro x e σ' ⟨rfl,rfl,g2⟩;simp[-length_flatMap,-map_take,g2]
def lpP(L:Nat):yu:={state:=0,ym:=none,env:=[(4,.ref L 0 0 0)],params:=[10,11],Cb:=jK,body:=jL }
def UE(σ:SK)(out mass:Int):SK:=[.cells 0 [.int .i64 out],.cells 0 [.int .i64 mass],.loop (lpP σ.length)]::σ
theorem aqI{p:Prt}{out mass m:Int}(hp:(0≤p.xB∧p.xB≤1000)∧1≤p.width∧p.width≤100000)(hm:0≤m∧m≤1000000)(ho:0≤out∧out≤1000000000000):
  bw T (.round σ.length 2 [.agg p.enc,.int .i64 m] ([]::UE σ out mass))=some (.val (.bool true) ([]::UE σ (out+p.xB*m) mass)):=by
 have q1:0≤p.xB*m:=fq hp.1.1 hm.1;have q2:p.xB*m≤1000*1000000:=mK hp.1.2 hm.2 hm.1 (by omega);have w1:IntKind.i64.wrap (p.xB*m)=p.xB*m:=gQ (by omega);have w2:IntKind.i64.wrap (out+p.xB*m)=out+p.xB*m:=gQ (by omega);refine Ur (lp:=lpP σ.length) (by simp[UE]) rfl ?_;rw[show(lpP σ.length).Cb=jK from rfl,Dz,show(lpP σ.length).body=jL from rfl];simp[-length_flatMap,-map_take,AZ DA,lpP,UE,aia,w1,w2]
theorem ajw{l:List Prt}(hs:Ib l)(hl:l.length≤8):∀(k i:Nat) (out m:Int),i+k=l.length→0≤m→m≤1000000→0≤out→out≤1000000000*i →
  WL T [0,2,8,9,10] false mm [(0,.nO σ.length 2),(2,.ref σ.length 1 0 0),(8,.aK l.length (l.flatMap Prt.enc)),(9,.int .i64 l.length),(10,.int .i64 i)] ([]::UE σ out m)
   (fun x e σ'=>x=.exit 0∧σ'=[]::UE σ (out+CA (l.drop i) m) (PB (l.drop i) m))
 |0,i,out,m,hi,hm,hm2,h0,ho=>by
  refine aM uQ ?_;have h1:¬i<l.length:=by omega
  have h2:l.drop i=[]:=aJ (by omega);simp[-length_flatMap,-map_take,h1,h2,CA,PB]
 |k+1,i,out,m,hi,hm,hm2,h0,ho=>by
  refine aM uQ ?_;have h1:i<l.length:=by omega
  obtain⟨p,hp⟩:=gE h1;have hfl:=bQ (f:=Prt.enc) (w:=2) (fun _=>rfl) hp;have hd:=dG hp;have h4:=fK h1 (by omega);have hb:=hs p (an hp);have hmn:0≤min m p.width∧min m p.width≤m:=by omega
  have hR:=aqI (σ:=σ) (p:=p) (out:=out) (mass:=m) (m:=min m p.width) hb (by omega) (by omega);have q1:0≤p.xB*min m p.width:=fq hb.1.1 hmn.1;have q2:p.xB*min m p.width≤1000*1000000:=mK hb.1.2 (by omega) hmn.1 (by omega);have w1:IntKind.i64.wrap (m-min m p.width)=m-min m p.width:=gQ (by omega);have ih:=ajw hs hl k (i+1) (out+p.xB*min m p.width) (m-min m p.width) (by omega) (by omega) (by omega) (by omega) (by omega);rw[hd,CA,PB];simp only[UE,Prt.enc]at hR;simp[-length_flatMap,-map_take,h1,hfl,h4,UE,hR,w1];exact WL.to ih (by simp) (by simp[UE]) fun x e σ' hh=>by simpa[Int.add_assoc,UE]using hh
theorem atd{u:Al}{mass:Int}{bs:List Abs.aG}:bw T (.call true oC [.agg u.enc,.int .i64 mass] (bs::σ))=some (.val (.fn jf [] [.bE u.enc,.ref σ.length bs.length 0 0]) ((bs++[.cells 0 [.int .i64 mass]])::σ)):=by
 refine yi Ik IU rfl ?_;simp[-length_flatMap,-map_take,Cf]
theorem aqB{u:Al}{out m:Int}(hs:Ib u.parts)(hl:u.parts.length≤8)(hm:0≤m∧m≤1000000)(h0:0≤out∧out≤0):
  bw T (.call false jf [.nO σ.length 2,.bE u.enc,.ref σ.length 1 0 0] (UE σ out m))=some (.val (.ez []) (UE σ (out+CA u.parts m) (PB u.parts m))):=by
 refine gF Fx Gd rfl (by simp[UE]) ?_;have h:=ajw (σ:=σ) hs hl u.parts.length 0 out m (by omega) hm.1 hm.2 h0.1 (by omega);rw[aS]at h;simp[-length_flatMap,-map_take];refine WL.to h (by simp) (by simp) ?_;rintro x e σ' ⟨rfl,rfl⟩;simp
theorem aqo{u:Al}{m:Int}(hs:Ib u.parts)(hl:u.parts.length≤8)(hm:0≤m∧m≤1000000):
  bw T (.call false nB [.agg u.enc,.int .i64 m] σ)=some (.val (.int .i64 (CA u.parts m)) σ):=by
 refine aD GN HF rfl ?_;have hU:=fun bs=>atd (σ:=σ) (u:=u) (mass:=m) (bs:=bs)
 have h1:=aqB (σ:=σ) (u:=u) (out:=0) hs hl hm (by omega);simp only[Al.enc]at hU h1 ⊢;simp[-length_flatMap,-map_take,hU,Cf];refine agn (d:=.ez []) (σ2:=UE σ (0+CA u.parts m) (PB u.parts m)) (lp:=lpP σ.length) (by simp;exact⟨rfl,rfl,rfl⟩) ?_ (by simp[UE]) (by simp[lpP]) ?_
 ·simpa[UE,lpP]using h1
 ·simp[-length_flatMap,-map_take,UE,lpP]
def TK(u:Al)(s:Ae):Int:=if s.valid=true then(if Vo u.parts<s.m then 2 else if s.h<CA u.parts s.m then 9 else 0)else 1
theorem NU{s:Ae}:bw T (.call false l9 [.agg s.enc] σ)=some (.val (.int .i64 (if s.valid then 0 else 1)) σ):=by
 refine aD FE Gj rfl ?_;have h:=fun σ=>Ml (σ:=σ) (x:=s)
 simp only[Ae.enc]at h ⊢;cases hc:s.valid<;>rw[hc]at h<;>simp[-length_flatMap,-map_take,h]
theorem ai6{s:Ae}:bw T (.call false nX [.agg s.enc] σ)=some (.val (.bool s.valid) σ):=by
 refine aD Ln LM rfl ?_;have h:=fun σ=>NU (σ:=σ) (s:=s)
 simp only[Ae.enc]at h ⊢;cases hc:s.valid<;>rw[hc]at h<;>simp[-length_flatMap,-map_take,h]
theorem ai7{s:Ae}:bw T (.call false tC [.aK 1 s.enc] σ)=some (.val (.bool s.valid) σ):=by
 refine aD N4 OB rfl ?_;have h:=fun σ=>Ca (yU 4 Ae.enc (fun _=>rfl)) (T:=T) (σ:=σ) (f:=ke) (g:=iS) (h:=ep) (i:=fm) (l:=[s]) (p:=Ae.valid) (fv:=.fn nX [] []) rfl rfl rfl rfl (by simp) (rE.fn fun x _ σ=>ai6) rfl
 simp only[yU,List.length_singleton,ba,dO,eB,gW,ka,List.all_nil,Bool.and_true]at h;simp only[Ae.enc]at h ⊢;simp[-length_flatMap,-map_take,h]
def aqY(u:Al)(s:Ae):D:=if TK u s=0 then .ez [.agg [.int .i64 s.m,.int .i64 (s.h-CA u.parts s.m),.int .i64 s.s,.int .i64 s.g],.int .i64 (CA u.parts s.m),.int .i64 0]else .ez [.agg [.int .i64 0,.int .i64 0,.int .i64 0,.int .i64 0],.int .i64 0,.int .i64 (TK u s)]
theorem aiI{u:Al}{s:Ae}(hu:u.ok=true):bw T (.call false sf [.agg u.enc,.agg s.enc] σ)=some (.val (aqY u s) σ):=by
 refine aD Mz Nc rfl ?_;have hok:=hu;simp only[Al.ok,af,bf]at hok;have hl:u.parts.length≤8:=by omega
 have hs:=EB (by omega) hok.2.2;have hV:=fun σ=>S4 (σ:=σ) (u:=u) (by omega)
 have hR:=fun σ=>ai7 (σ:=σ) (s:=s)
 have hC:=fun σ=>U3 (σ:=σ) hs hl
 rw[hu]at hV;simp only[Al.enc,Ae.enc]at hV hR hC ⊢;unfold aqY TK;cases c1:s.valid
 ·rw[c1]at hR;simp[-length_flatMap,-map_take,hV,hR,Cf]
 rw[c1]at hR;simp only[Ae.valid,af,bf]at c1;by_cases c2:Vo u.parts<s.m
 ·simp[-length_flatMap,-map_take,hV,hR,hC,c2,Cf]
 have hP:=fun σ=>aqo (σ:=σ) (m:=s.m) hs hl c1.1
 simp only[Al.enc]at hP;have hb:=afE hs c1.1.1;by_cases c3:s.h<CA u.parts s.m
 ·simp[-length_flatMap,-map_take,hV,hR,hC,hP,c2,c3,Cf]
 have w1:IntKind.i64.wrap (s.h-CA u.parts s.m)=s.h-CA u.parts s.m:=gQ (by omega);simp[-length_flatMap,-map_take,hV,hR,hC,hP,c2,c3,w1,Cf]
theorem ahm{t:List Rw}(ht:lB t=true){i:Nat}{r:Rw}(hi:t[i]?=some r){x:Ae}(hx:x.valid=false):
  bw T (.call false ru [.aK t.length (t.flatMap Rw.enc),.int .i64 i,.agg x.enc] σ)=some (.val (.ez [.agg (List.replicate 10 (.int .i64 0)),.int .i64 1]) σ):=by
 refine aD Gu Gz rfl ?_;have hl:t.length≤20:=by
  simp only[lB,af]at ht;have:=bf.1 ht.1;omega
 have hil:i<t.length:=(aF.1 hi).1;have h1:=fun σ=>GH (σ:=σ) (t:=t) (by omega)
 have h2:=fun σ=>ar5 (σ:=σ) (t:=t) (n:=i) (by omega)
 have h3:=fun σ=>Ml (σ:=σ) (x:=x)
 have hin:cV i 0 ((t.length:Int)-1)=true:=bf.2 (by omega);rw[hin]at h2;rw[hx]at h3;rw[ht]at h1;simp only[Ae.enc]at h3;simp[-length_flatMap,-map_take,h1,h2,h3,List.replicate]
def Uj:List Int→Int
 |[]=>0
 |x::l=>l.foldl min x
def Ui:List Int→Int
 |[]=>0
 |x::l=>l.foldl max x
theorem asb{l:List Int}(hl:l.length≤1000000):∀(m i:Nat) (a:Int),i+m=l.length →
  WL T [0,3,4] false oW [(0,.aK l.length (l.flatMap aU)),(3,.int .i64 a),(4,.int .i64 i)] σ (fun x e σ'=>x=.exit 0∧σ'=σ∧get e 3=.int .i64 ((l.drop i).foldl min a))
 |0,i,a,hi=>by
  refine aM xX ?_;have h1:¬i<l.length:=by omega
  have h2:l.drop i=[]:=aJ (by omega);simp[-length_flatMap,-map_take,h1,h2]
 |m+1,i,a,hi=>by
  refine aM xX ?_;have h1:i<l.length:=by omega
  obtain⟨n,hn⟩:=gE h1;have a1:=rI hn;have h4:=fK h1 (by omega);rw[dG hn];simp[-length_flatMap,-map_take,h1,a1,h4];exact WL.to (asb hl m (i+1) (min a n) (by omega)) (by simp) rfl fun x e σ' hh=>by simpa using hh
theorem azp{l:List Int}(hne:l≠[])(hl:l.length≤1000000):bw T (.call false pw [.aK l.length (l.flatMap aU)] σ)=some (.val (.int .i64 (Uj l)) σ):=by
 refine aD JM Ki rfl ?_;have h0:0<l.length:=aV.2 hne;obtain⟨x,r,rfl⟩:∃x r,l=x::r:=by
  cases l with
  |nil=>exact absurd rfl hne
  |cons x r=>exact⟨x,r,rfl⟩
 have h1:¬((r.length:Int)+1<1):=by omega
 have h2:(0:Int)<(r.length:Int)+1:=by omega
 simp[-length_flatMap,-map_take,h1,h2];refine WL.to (asb (σ:=[]::σ) hl r.length 1 x (by simp;omega)) (by simp) rfl ?_;rintro x e σ' ⟨rfl,rfl,g3⟩;simp[-length_flatMap,-map_take,g3,Uj]
theorem asa{l:List Int}(hl:l.length≤1000000):∀(m i:Nat) (a:Int),i+m=l.length →
  WL T [0,3,4] false oV [(0,.aK l.length (l.flatMap aU)),(3,.int .i64 a),(4,.int .i64 i)] σ (fun x e σ'=>x=.exit 0∧σ'=σ∧get e 3=.int .i64 ((l.drop i).foldl max a))
 |0,i,a,hi=>by
  refine aM xW ?_;have h1:¬i<l.length:=by omega
  have h2:l.drop i=[]:=aJ (by omega);simp[-length_flatMap,-map_take,h1,h2]
 |m+1,i,a,hi=>by
  refine aM xW ?_;have h1:i<l.length:=by omega
  obtain⟨n,hn⟩:=gE h1;have a1:=rI hn;have h4:=fK h1 (by omega);rw[dG hn];simp[-length_flatMap,-map_take,h1,a1,h4];exact WL.to (asa hl m (i+1) (max a n) (by omega)) (by simp) rfl fun x e σ' hh=>by simpa using hh
theorem azo{l:List Int}(hne:l≠[])(hl:l.length≤1000000):bw T (.call false pv [.aK l.length (l.flatMap aU)] σ)=some (.val (.int .i64 (Ui l)) σ):=by
 refine aD JL Kh rfl ?_;have h0:0<l.length:=aV.2 hne;obtain⟨x,r,rfl⟩:∃x r,l=x::r:=by
  cases l with
  |nil=>exact absurd rfl hne
  |cons x r=>exact⟨x,r,rfl⟩
 have h1:¬((r.length:Int)+1<1):=by omega
 have h2:(0:Int)<(r.length:Int)+1:=by omega
 simp[-length_flatMap,-map_take,h1,h2];refine WL.to (asa (σ:=[]::σ) hl r.length 1 x (by simp;omega)) (by simp) rfl ?_;rintro x e σ' ⟨rfl,rfl,g3⟩;simp[-length_flatMap,-map_take,g3,Ui]
theorem as9{l:List Int}(hne:l≠[])(hl:l.length≤1000000):bw T (.call false se [.aK l.length (l.flatMap aU)] σ)=some (.val (.agg [.int .i64 (Uj l),.int .i64 (Ui l)]) σ):=by
 refine aD My Nb rfl ?_;have h1:=fun σ=>azp (σ:=σ) hne hl
 have h2:=fun σ=>azo (σ:=σ) hne hl
 simp[-length_flatMap,-map_take,h1,h2]
def aCM:Rw:=⟨0,0,0,0,0⟩
def aCN:Al:=⟨0,[]⟩
def rowOf(b:Bk)(lv:Nat):Rw:=(b.bL.cf[lv]?).getD aCM
def EU(b:Bk)(u:Nat):Al:=(b.fh[u]?).getD aCN
def zM(b:Bk)(r:RunT)(w:Nat):Ae:=⟨(bS (rowAt r.2 (b.aC.length-1)) w).m,(bS (rowAt r.2 (b.aC.length-1)) w).h,0,0⟩
def yo(r:Rw)(x:Ae):Ae:=⟨jn r x,ayo r x,0,ayn r x⟩
def ES(b:Bk)(w lv u:Nat)(m:cX):Int:=match Rock.run b.bL m b.aC with
 |some r=>if(zM b r w).valid=true then TK (EU b u) (yo (rowOf b lv) (zM b r w))else 1
 |none=>9
def zk(b:Bk)(w lv u:Nat)(m:cX):Int:=match Rock.run b.bL m b.aC with
 |some r=>CA (EU b u).parts (yo (rowOf b lv) (zM b r w)).m
 |none=>0
def Ju(b:Bk)(σ:SK)(w lv u:Nat)(price:Int)(acc:List Int)(rest:List mA)(x:Abs.Exit)(e:Env)(σ':SK):Prop :=
 if cQ (fun e=>ES b w lv u e.m) rest=0 then
  x=.exit 0∧get e 0=.ref (σ.length-1-1) 6 0 0∧get e 7=.int .i64 w∧get e 10=.int .i64 price∧get e 11=.sl σ.length 0 (acc++rest.map fun e=>zk b w lv u e.m).length 0 (acc++rest.map fun e=>zk b w lv u e.m).length 1 ∧
   σ'=[.cells (acc++rest.map fun e=>zk b w lv u e.m).length ((acc++rest.map fun e=>zk b w lv u e.m).flatMap aU)]::σ
 else x=.fU (rf (cQ (fun e=>ES b w lv u e.m) rest))∧∃s,σ'=s::σ
theorem Vh{F:List Abs.aG}{b:Bk}{er:List Int}{ls:List mA}{w lv u:Nat}{price:Int}(ht:lB b.bL.cf=true)(hok:∀e∈ls,Ok b.bL [e.m] b.aC)(hrun:∀e∈ls,∃r,Rock.run b.bL e.m b.aC=some r)(hp:b.aC≠[])(hl:ls.length≤1000000)
  (hw:w<b.bL.av.length) (hlv:lv<b.bL.cf.length) (hu:u<b.fh.length) (huk:∀x∈b.fh,x.ok=true):∀(m i:Nat) (acc:List Int),i+m=ls.length→acc.length=i →
  WL T [0,7,8,9,10,11,86,87,88] false kY [(0,.ref σ.length 6 0 0),(7,.int .i64 w),(8,.int .i64 lv),(9,.int .i64 u),(10,.int .i64 price),(11,.sl (F::b.bx σ.length er::σ).length 0 i 0 i 1),(86,.aK ls.length (ls.flatMap mA.enc)),(87,.int .i64 ls.length),(88,.int .i64 i)] ([.cells i (acc.flatMap aU)]::F::b.bx σ.length er::σ)
   (Ju b (F::b.bx σ.length er::σ) w lv u price acc (ls.drop i))
 |0,i,acc,hi,ha=>by
  refine aM uc ?_;obtain rfl:i=ls.length:=by omega
  have h5:ls.drop ls.length=[]:=aJ (by omega);simp[-length_flatMap,-map_take,h5,Ju,ha,cQ]
 |m+1,i,acc,hi,ha=>by
  refine aM uc ?_;have h1:i<ls.length:=by omega
  obtain⟨e,he⟩:=gE h1;have hem:=an he;have hO:=hok e hem;obtain⟨r,hr⟩:=hrun e hem;have hfl:=bQ (f:=mA.enc) (w:=4) (fun _=>rfl) he;have h4:=fK h1 (by omega);have htl:b.bL.cf.length≤20:=by
   simp only[lB,af]at ht;have:=bf.1 ht.1;omega
  have hE:tE b.bL e.m b.aC=0:=by
   have hfit:=hO.fit e.m (by simp);simp[tE,Bd,hO.valid,hfit,hO.pl,hr]
  have hD:Bz b.bL e.m b.aC=.agg [.aK r.1.length (r.1.flatMap zX),.aK r.2.length (r.2.flatMap zX)]:=by
   obtain⟨r1,r2⟩:=r;simp[Bz,hE,hr]
  have hsh:=hO.short e.m (by simp);have hP:=fun S hS=>aiK (σ:=S) (b:=b.bL) (m:=e.m) (aC:=b.aC) (wq:=nl bH.enc b.bL.av) vp (by omega) (by have:=hO.bv.av;omega) (by omega) (by omega) (by have:=hO.aik;omega) (fun l hl=>by have:=(hO.aR l hl).len;have:=hO.bv.av;omega) hS
  rw[hE,hD,afo]at hP;have htn:b.bL.cf≠[]:=by intro hh;rw[hh]at hlv;simp at hlv
  have hRun:=S9.of (hO.fv e.m (by simp)) hO.aR hr;have hpl:0<b.aC.length:=aV.2 hp;have hpl2:=hO.aik;obtain⟨hrow,hY⟩:=apv hRun (t:=b.aC.length-1) (by omega);have f1:=bQ (f:=zX) (w:=1) (fun _=>rfl) hrow;rw[dM]at f1;have hyw:(rowAt r.2 (b.aC.length-1))[w]?=some (bS (rowAt r.2 (b.aC.length-1)) w):=by
   have:w<(rowAt r.2 (b.aC.length-1)).length:=by rw[hY.len];exact hw
   simp[bS,this]
  have f2:=bQ (f:=Rock.aG.enc) (w:=3) (fun _=>rfl) hyw;have hyl:=hY.len;have w1:IntKind.i64.wrap ((b.aC.length:Int)-1)=b.aC.length-1:=gQ (by omega);have t1:((b.aC.length:Int)-1).toNat=b.aC.length-1:=by omega
  have q1:(1:Int)≤b.aC.length:=by omega
  have q2:(b.aC.length:Int)-1<r.2.length:=by rw[hRun.yl];omega
  have hrw:b.bL.cf[lv]?=some (rowOf b lv):=by simp[rowOf,hlv]
  have hun:b.fh[u]?=some (EU b u):=by simp[EU,hu]
  have f3:=bQ (f:=Al.enc) (w:=2) (fun _=>rfl) hun;have hul:=ahi b.fh;have q3:2≤b.fh.length*2-u*2:=by omega
  have hX:=fun σ=>aiI (σ:=σ) (u:=EU b u) (s:=yo (rowOf b lv) (zM b r w)) (huk _ (an hun))
  rw[dG he];have hs0:ES b w lv u e.m=if(zM b r w).valid=true then TK (EU b u) (yo (rowOf b lv) (zM b r w))else 1:=by simp[ES,hr]
  cases c1:(zM b r w).valid with
  |false =>
   have hF:=fun σ=>ahm (σ:=σ) ht hrw c1
   have hM:=fun σ=>rD (σ:=σ) (e:=1) (by decide)
   have hs1:ES b w lv u e.m=1:=by rw[hs0,c1];rfl
   simp only[Ae.enc,zM,List.replicate]at hF;simp[-length_flatMap,-map_take,h1,hfl,h4,Bk.bx,Bk.cells,eI htn,eI hp,hP,pI,bA,f1,f2,w1,t1,q1,q2,hyl,hw,hF,hM,hs1,zX,Ju,cQ]
  |true =>
   have hF:=fun σ=>aqa (σ:=σ) ht hrw c1
   simp only[Ae.enc,zM]at hF;have hs1:ES b w lv u e.m=TK (EU b u) (yo (rowOf b lv) (zM b r w)):=by rw[hs0,c1];rfl
   have hv1:zk b w lv u e.m=CA (EU b u).parts (yo (rowOf b lv) (zM b r w)).m:=by simp[zk,hr]
   by_cases c2:TK (EU b u) (yo (rowOf b lv) (zM b r w))=0
   ·have hacc:=EH acc;have hta:(acc.flatMap aU).take i=acc.flatMap aU:=ar (by omega);have hroom:(i+1)*8≤room:=by unfold room;omega
    have ih:=Vh (F:=F) (er:=er) (price:=price) ht hok hrun hp hl hw hlv hu huk m (i+1) (acc++[zk b w lv u e.m]) (by omega) (by simp[ha]);have fin:∀x e' σ',Ju b (F::b.bx σ.length er::σ) w lv u price (acc++[zk b w lv u e.m]) (ls.drop (i+1)) x e' σ'→Ju b (F::b.bx σ.length er::σ) w lv u price acc (e::ls.drop (i+1)) x e' σ':=fun x e' σ' hh=>by
     have hz:ES b w lv u e.m=0:=by rw[hs1,c2]
     simp only[Ju,cQ,hz,if_true,aj,kT,eR]at hh ⊢;exact hh
    unfold aqY at hX;rw[if_pos c2,← hv1]at hX;simp only[Al.enc,Ae.enc,yo,zM]at hX f3;simp[-length_flatMap,-map_take,h1,hfl,h4,Bk.bx,Bk.cells,eI htn,eI hp,hP,pI,bA,f1,f2,w1,t1,q1,q2,hyl,hw,hF,zX,parts,hu,f3,hul,q3,hX,hroom,hacc,hta,ha];exact WL.to ih (by simp) (by simp[Bk.bx,Bk.cells,eI htn,eI hp]) fin
   ·unfold aqY at hX;rw[if_neg c2]at hX;have hM:=fun σ=>rD (σ:=σ) c2
    have hz:ES b w lv u e.m≠0:=by rw[hs1];exact c2
    rw[← hs1]at hX hM;simp only[Al.enc,Ae.enc,yo,zM]at hX f3;simp[-length_flatMap,-map_take,h1,hfl,h4,Bk.bx,Bk.cells,eI htn,eI hp,hP,pI,bA,f1,f2,w1,t1,q1,q2,hyl,hw,hF,zX,parts,hu,f3,hul,q3,hX,hM,hz,Ju,cQ]
def ag6(b:Bk)(w price:Int)(ws:List Int):Bk:={b with j8:=b.j8++[⟨b.aC.length,w,Uj ws,Ui ws,Uj ws*price,Ui ws*price⟩] }
def SA(b:Bk)(w lv u price:Int):Bool:=cV w 0 ((b.bL.av.length:Int)-1) && (cV lv 0 ((b.bL.cf.length:Int)-1) && (cV u 0 ((b.fh.length:Int)-1) && cV price 0 1000))
def CG(b:Bk)(w lv u:Int):Int:=cQ (fun e=>ES b w.toNat lv.toNat u.toNat e.m) (bZ b.az)
def NM(b:Bk)(w lv u:Int):List Int:=(bZ b.az).map fun e=>zk b w.toNat lv.toNat u.toNat e.m
def Az(b:Bk)(w lv u price:Int):Bk×Int :=
 if bZ b.az=[]∨b.aC=[]then(b,8)else if SA b w lv u price=true then(if CG b w lv u=0 then(ag6 b w price (NM b w lv u),0)else(b,CG b w lv u))else(b,2)
theorem arK(l:List OZ):(l.flatMap OZ.enc).length=l.length*6:=bV (f:=OZ.enc) (w:=6) (fun _=>rfl) l
theorem K9{c d:Int}:∀{l:List Int} {a:Int},(c≤a∧a≤d)→(∀x∈l,c≤x∧x≤d)→c≤l.foldl min a∧l.foldl min a≤d
 |[],a,h,_=>h
 |x::l,a,h,hl=>by
  have h1:=hl x (by simp);exact K9 (l:=l) (a:=min a x) (by omega) fun y hy=>hl y (by simp[hy])
theorem K8{c d:Int}:∀{l:List Int} {a:Int},(c≤a∧a≤d)→(∀x∈l,c≤x∧x≤d)→c≤l.foldl max a∧l.foldl max a≤d
 |[],a,h,_=>h
 |x::l,a,h,hl=>by
  have h1:=hl x (by simp);exact K8 (l:=l) (a:=max a x) (by omega) fun y hy=>hl y (by simp[hy])
theorem aBu{c d:Int}{l:List Int}(h0:c≤0∧0≤d)(hl:∀x∈l,c≤x∧x≤d):(c≤Uj l∧Uj l≤d)∧(c≤Ui l∧Ui l≤d):=by
 cases l with
 |nil=>exact⟨h0,h0⟩
 |cons x l=>exact⟨K9 (hl x (by simp)) fun y hy=>hl y (by simp[hy]),K8 (hl x (by simp)) fun y hy=>hl y (by simp[hy])⟩
theorem arL{b:Bk}{w lv u:Nat}{m:cX}(hu:u<b.fh.length)(huk:∀x∈b.fh,x.ok=true)(hE:ES b w lv u m=0):0≤zk b w lv u m∧zk b w lv u m≤1000000000:=by
 have hun:b.fh[u]?=some (EU b u):=by simp[EU,hu]
 have hok:=huk _ (an hun);simp only[Al.ok,af,bf]at hok;have hs:=EB (by omega) hok.2.2;unfold ES at hE;unfold zk;cases hr:Rock.run b.bL m b.aC with
 |none=>simp
 |some r =>
  rw[hr]at hE;simp only at hE ⊢;split at hE
  ·unfold TK at hE;split at hE
   ·rename_i hv;simp only[Ae.valid,af,bf]at hv;have:=afE hs hv.1.1;omega
   ·cases hE
  ·cases hE
theorem aqy{F:List Abs.aG}{b:Bk}{er:List Int}{nm:List UInt8}{w lv u price:Int}{b':Bk}{e:Int}(ht:lB b.bL.cf=true)(hml:b.az.length≤40)(hok:∀e∈b.az,Ok b.bL [e.m] b.aC)(hrun:∀e∈b.az,e.left=true→∃r,Rock.run b.bL e.m b.aC=some r)(huk:∀x∈b.fh,x.ok=true)(hul:b.fh.length≤10)(hwl:b.bL.av.length≤1000000)(hsl:b.j8.length≤1000000)(hd:Az b w lv u price=(b',e))(he:e=0):
  bw T (.call false ga [.ref σ.length 6 0 0,.str nm,.aK 4 [.int .i64 w,.int .i64 lv,.int .i64 u,.int .i64 price]] (F::b.bx σ.length er::σ))=some (.val (.ez []) (F::b'.bx σ.length er::σ)):=by
 refine gF xJ xR rfl (by simp) ?_;unfold Az at hd;split at hd
 case isTrue=>cases hd;cases he
 rename_i c1;split at hd
 case isFalse=>cases hd;cases he
 rename_i c2;split at hd
 case isFalse=>cases hd;rename_i h;exact absurd he h
 rename_i c3;cases hd;have htl:b.bL.cf.length≤20:=by
  simp only[lB,af]at ht;have:=bf.1 ht.1;omega
 have c1a:bZ b.az≠[]:=fun h=>c1 (.inl h)
 have c1b:b.aC≠[]:=fun h=>c1 (.inr h)
 have q1:0<(bZ b.az).length:=aV.2 c1a;have q2:0<b.aC.length:=aV.2 c1b;have hLf:=fun S=>JD (σ:=σ) (b:=b) (er:=er) (S:=S) (by omega)
 simp only[Bk.bx,Bk.cells]at hLf;have hc2:=c2;simp only[SA,af]at hc2;obtain⟨k1,k2,k3,k4⟩:=hc2;have i1:=bf.1 k1;have i2:=bf.1 k2;have i3:=bf.1 k3;have i4:=bf.1 k4;obtain⟨w,rfl⟩:∃n:Nat,w=n:=⟨w.toNat,by omega⟩;obtain⟨lv,rfl⟩:∃n:Nat,lv=n:=⟨lv.toNat,by omega⟩;obtain⟨u,rfl⟩:∃n:Nat,u=n:=⟨u.toNat,by omega⟩;simp only[CG,NM,Int.toNat_natCast]at c3 ⊢;have w1:IntKind.i64.wrap ((b.bL.av.length:Int)-1)=b.bL.av.length-1:=gQ (by omega);have w2:IntKind.i64.wrap ((b.bL.cf.length:Int)-1)=b.bL.cf.length-1:=gQ (by omega);have w3:IntKind.i64.wrap ((b.fh.length:Int)-1)=b.fh.length-1:=gQ (by omega);have hL:=Vh (σ:=σ) (F:=F) (er:=er) (ls:=bZ b.az) (w:=w) (lv:=lv) (u:=u) (price:=price) ht (fun e he=>hok e (dn.1 he).1) (fun e he=>hrun e (dn.1 he).1 (dn.1 he).2) c1b (by have:=jz (fun e:mA=>e.left) b.az;simp only[bZ];omega) (by omega) (by omega) (by omega) huk (bZ b.az).length 0 [] (by omega) rfl;rw[aS]at hL;simp[-length_flatMap,-map_take,Bk.bx,Bk.cells,hLf,q1,q2,cH,fg,w1,w2,w3,k1,k2,k3,k4];refine WL.to hL (by simp) (by simp[Bk.bx,Bk.cells]) ?_;intro x e σ' hq;simp only[Ju,if_pos c3,List.nil_append]at hq;obtain⟨rfl,g0,g7,g10,g11,rfl⟩:=hq;have hbs:∀x∈(bZ b.az).map (fun e=>zk b w lv u e.m),0≤x∧x≤1000000000:=by
  intro x hx;simp only[bU]at hx;obtain⟨e,he,rfl⟩:=hx;exact arL (by omega) huk (uj c3 e he)
 have hwl2:((bZ b.az).map (fun e=>zk b w lv u e.m)).length=(bZ b.az).length:=by simp
 have hlm:(bZ b.az).length≤40:=by have:=jz (fun e:mA=>e.left) b.az;simp only[bZ];omega
 generalize hws:(bZ b.az).map (fun e=>zk b w lv u e.m)=ws at *
 have hwne:ws≠[]:=by intro hh;rw[hh]at hwl2;simp at hwl2;omega
 obtain⟨⟨m1,m2⟩,m3,m4⟩:=aBu (by omega) hbs;have hSp:=fun σ=>as9 (σ:=σ) hwne (by omega)
 generalize hlo:Uj ws=lo at *
 generalize hhi:Ui ws=hi at *
 have p1:0≤lo*price:=fq m1 i4.1;have p2:lo*price≤1000000000*1000:=mK m2 i4.2 i4.1 (by omega);have p3:0≤hi*price:=fq m3 i4.1;have p4:hi*price≤1000000000*1000:=mK m4 i4.2 i4.1 (by omega);have w4:IntKind.i64.wrap (lo*price)=lo*price:=gQ (by omega);have w5:IntKind.i64.wrap (hi*price)=hi*price:=gQ (by omega);have hfr:∀S:SK,S.length=σ.length+1+1→cI 0 16 (.sl (σ.length+1+1) 0 ws.length 0 ws.length 1) ([.cells ws.length (ws.flatMap aU)]::S)=(.aK ws.length (ws.flatMap aU),[.dead]::S):=by
  intro S hS;have:=Ji (f:=aU) (w:=1) (fun _=>rfl) (fun _=>by simp[D.clean]) (l:=ws) (j:=0) (v:=ws.length) (bs:=[Abs.aG.cells ws.length (ws.flatMap aU)]) (σ:=S) (by intro h;subst h;simp at hS) (by simp);rw[hS]at this;simpa using this
 have r2:(b.j8.length+1)*48≤room:=by unfold room;omega
 have r3:=arK b.j8;have r4:(b.j8.flatMap OZ.enc).take (b.j8.length*6)=b.j8.flatMap OZ.enc:=ar (by omega);simp[-length_flatMap,-map_take,g0,g7,g10,g11,hfr,hSp,Bk.bx,Bk.cells,w4,w5,r2,r3,r4,ag6,bA,hlo,hhi]
theorem ajc{F:List Abs.aG}{b:Bk}{er:List Int}{nm:List UInt8}{w lv u price:Int}{b':Bk}{e:Int}(ht:bZ b.az≠[]→lB b.bL.cf=true)(hml:b.az.length≤40)(hok:∀e∈b.az,Ok b.bL [e.m] b.aC)(hrun:∀e∈b.az,e.left=true→∃r,Rock.run b.bL e.m b.aC=some r)(huk:∀x∈b.fh,x.ok=true)(hul:b.fh.length≤10)(hwl:b.bL.av.length≤1000000)(hsl:b.j8.length≤1000000)(hd:Az b w lv u price=(b',e))(he:e≠0):
  bw T (.call false ga [.ref σ.length 6 0 0,.str nm,.aK 4 [.int .i64 w,.int .i64 lv,.int .i64 u,.int .i64 price]] (F::b.bx σ.length er::σ))=some (.fU (rf e) (F::b.bx σ.length er::σ)):=by
 refine eg xJ xR rfl ?_;have hLf:=fun S=>JD (σ:=σ) (b:=b) (er:=er) (S:=S) (by omega)
 simp only[Bk.bx,Bk.cells]at hLf;unfold Az at hd;split at hd
 case isTrue c1 =>
  cases hd;by_cases c1a:bZ b.az=[]
  ·simp[-length_flatMap,-map_take,Bk.bx,Bk.cells,hLf,c1a,dJ,D.clean,rf]
  ·have q1:0<(bZ b.az).length:=aV.2 c1a;have c1b:b.aC=[]:=c1.resolve_left c1a;simp[-length_flatMap,-map_take,Bk.bx,Bk.cells,hLf,q1,c1b,dJ,D.clean,rf]
 rename_i c1;have c1a:bZ b.az≠[]:=fun h=>c1 (.inl h)
 have c1b:b.aC≠[]:=fun h=>c1 (.inr h)
 have ht:=ht c1a;have htl:b.bL.cf.length≤20:=by
  simp only[lB,af]at ht;have:=bf.1 ht.1;omega
 have q1:0<(bZ b.az).length:=aV.2 c1a;have q2:0<b.aC.length:=aV.2 c1b;have w1:IntKind.i64.wrap ((b.bL.av.length:Int)-1)=b.bL.av.length-1:=gQ (by omega);have w2:IntKind.i64.wrap ((b.bL.cf.length:Int)-1)=b.bL.cf.length-1:=gQ (by omega);have w3:IntKind.i64.wrap ((b.fh.length:Int)-1)=b.fh.length-1:=gQ (by omega);split at hd
 case isFalse c2 =>
  cases hd;simp only[SA]at c2;cases k1:cV w 0 ((b.bL.av.length:Int)-1)
  ·simp[-length_flatMap,-map_take,Bk.bx,Bk.cells,hLf,q1,q2,cH,fg,w1,w2,w3,k1,dJ,D.clean,rf]
  cases k2:cV lv 0 ((b.bL.cf.length:Int)-1)
  ·simp[-length_flatMap,-map_take,Bk.bx,Bk.cells,hLf,q1,q2,cH,fg,w1,w2,w3,k1,k2,dJ,D.clean,rf]
  cases k3:cV u 0 ((b.fh.length:Int)-1)
  ·simp[-length_flatMap,-map_take,Bk.bx,Bk.cells,hLf,q1,q2,cH,fg,w1,w2,w3,k1,k2,k3,dJ,D.clean,rf]
  cases k4:cV price 0 1000
  ·simp[-length_flatMap,-map_take,Bk.bx,Bk.cells,hLf,q1,q2,cH,fg,w1,w2,w3,k1,k2,k3,k4,dJ,D.clean,rf]
  ·exact absurd (by simp[k1,k2,k3,k4]) c2
 rename_i c2;split at hd
 case isTrue=>cases hd;exact absurd rfl he
 rename_i c3;cases hd;have hc2:=c2;simp only[SA,af]at hc2;obtain⟨k1,k2,k3,k4⟩:=hc2;have i1:=bf.1 k1;have i2:=bf.1 k2;have i3:=bf.1 k3;obtain⟨w,rfl⟩:∃n:Nat,w=n:=⟨w.toNat,by omega⟩;obtain⟨lv,rfl⟩:∃n:Nat,lv=n:=⟨lv.toNat,by omega⟩;obtain⟨u,rfl⟩:∃n:Nat,u=n:=⟨u.toNat,by omega⟩;simp only[CG,Int.toNat_natCast]at c3 ⊢;have hL:=Vh (σ:=σ) (F:=F) (er:=er) (ls:=bZ b.az) (w:=w) (lv:=lv) (u:=u) (price:=price) ht (fun e he=>hok e (dn.1 he).1) (fun e he=>hrun e (dn.1 he).1 (dn.1 he).2) c1b (by have:=jz (fun e:mA=>e.left) b.az;simp only[bZ];omega) (by omega) (by omega) (by omega) huk (bZ b.az).length 0 [] (by omega) rfl;rw[aS]at hL;simp[-length_flatMap,-map_take,Bk.bx,Bk.cells,hLf,q1,q2,cH,fg,w1,w2,w3,k1,k2,k3,k4];refine WL.to hL (by simp) (by simp[Bk.bx,Bk.cells]) ?_;intro x e σ' hq;simp only[Ju,if_neg c3]at hq;obtain⟨rfl,s,rfl⟩:=hq;simp[Bk.bx,Bk.cells,D.clean,rf]
def ah2:List Int→List Rw
 |a::b::c::d::e::l=>⟨a,b,c,d,e⟩::ah2 l
 |_=>[]
def ah1:List Int→List Trem.yp
 |a::b::c::d::l=>⟨⟨a,b,c⟩,d⟩::ah1 l
 |_=>[]
def OH:List Int→List (Int×Int)
 |a::b::l=>(a,b)::OH l
 |_=>[]
theorem agF:∀(m:Nat) {l:List Int},l.length=m*5→(ah2 l).flatMap Rw.enc=l.flatMap aU∧(ah2 l).length=m
 |0,l,h=>by
  have:l=[]:=cc.1 (by omega);subst this;exact⟨rfl,rfl⟩
 |m+1,l,h=>by
  match l,h with
  |a::b::c::d::e::l,h =>
   have ih:=agF m (l:=l) (by simp at h;omega);simp[ah2,ih.1,ih.2,aU]
  |[],h=>simp at h
  |[_],h=>simp at h;omega
  |[_,_],h=>simp at h;omega
  |[_,_,_],h=>simp at h;omega
  |[_,_,_,_],h=>simp at h;omega
theorem agE:∀(m:Nat) {l:List Int},l.length=m*4→(ah1 l).flatMap Trem.yp.enc=l.flatMap aU∧(ah1 l).length=m
 |0,l,h=>by
  have:l=[]:=cc.1 (by omega);subst this;exact⟨rfl,rfl⟩
 |m+1,l,h=>by
  match l,h with
  |a::b::c::d::l,h =>
   have ih:=agE m (l:=l) (by simp at h;omega);simp[ah1,ih.1,ih.2,aU]
  |[],h=>simp at h
  |[_],h=>simp at h;omega
  |[_,_],h=>simp at h;omega
  |[_,_,_],h=>simp at h;omega
theorem R6:∀(m:Nat) {l:List Int},l.length=m*2→(OH l).flatMap AN=l.flatMap aU∧(OH l).length=m
 |0,l,h=>by
  have:l=[]:=cc.1 (by omega);subst this;exact⟨rfl,rfl⟩
 |m+1,l,h=>by
  match l,h with
  |a::b::l,h =>
   have ih:=R6 m (l:=l) (by simp at h;omega);simp[OH,ih.1,ih.2,aU,AN]
  |[],h=>simp at h
  |[_],h=>simp at h;omega
def UL(p:Int×Int):Prt:=⟨p.1,p.2⟩
theorem arx(l:List (Int×Int)):(l.map UL).flatMap Prt.enc=l.flatMap AN:=by
 induction l with
 |nil=>rfl
 |cons p l ih=>simp only[aj,ba,ih];rfl
def apx:List Int→Trem.eJ
 |[x0,x1,x2,x3,x4,x5,x6,x7,x8,x9]=>⟨⟨x0,x1,x2⟩,⟨x3,x4,x5⟩,x6,x7,x8,x9⟩
 |_=>⟨⟨0,0,0⟩,⟨0,0,0⟩,0,0,0,0⟩
def sO(b:Bk)(k:Nat)(nm:List UInt8)(l:List Int):Bk×Int :=
 match k with
 |0=>match l with
  |[x,y,z,k]=>Ch b x y z k
  |_=>(b,4)
 |1=>Cj b (ah2 l)
 |2=>match l with
  |[x,y,z]=>M7 b x y z
  |_=>(b,4)
 |3=>match l with
  |[x,y,z]=>AB b x y z
  |_=>(b,4)
 |4=>zC b ⟨nm,l⟩
 |5=>match l with
  |k::lo::hi::r=>K4 b (sI nm k lo hi (OH r))
  |_=>(b,4)
 |6=>Hz b (apx l) (apx l).col
 |7=>match l with
  |[x,y,z]=>if Trem.sj x y z=true then(Pn b x y z,0)else(b,1)
  |_=>(b,4)
 |8=>Ci b (ah1 l)
 |9=>AA b l
 |10=>match l with
  |[w,i,lo,hi]=>Ay b ⟨b.aC.length,w,i,lo,hi⟩
  |_=>(b,4)
 |11=>match l with
  |i::r=>HA b ⟨i,(OH r).map UL⟩
  |_=>(b,4)
 |12=>match l with
  |[w,lv,u,p]=>Az b w lv u p
  |_=>(b,4)
 |_=>(b,4)
def oI(b:Bk)(n:Int)(s:List UInt8):Bk×Int:=match parse s with
 |some (w,nm,l)=>sO {b with at_:=n } w.k nm l
 |none=>(b,4)
structure Kv(n:Nat)(b:Bk):Prop where
 cf:b.bL.cf=[]∨lB b.bL.cf=true
 ready:b.ready=true→b.bL.valid=true
 av:b.ready=false→b.bL.av=[]
 ms:b.az≠[]→b.ready=true
 ml:b.az.length≤40
 wl:b.pX.length=b.az.length
 fit:∀e∈b.az,Bd b.bL e.m=true∧e.m.name.length≤1000000∧e.m.bg.length≤1000000
 pm:b.aC≠[]→b.az≠[]
 pl:vU b.bL b.aC=0
 EN:∀e∈b.az,e.left=true→∃r,Rock.run b.bL e.m b.aC=some r
 rules:b.rules.length≤20
 BI:b.BI.length≤200
 UD:∀e∈b.BI,e.ok=true
 keep:Trem.sj b.k0 b.k1 b.k2=true
 fh:b.fh.length≤10
 uok:∀u∈b.fh,u.ok=true
 j8:b.j8.length≤n
theorem ahh{t:List Rw}(h:t=[]∨lB t=true):t.length≤20:=by
 rcases h with rfl | h
 ·simp
 ·simp only[lB,af]at h;have:=bf.1 h.1;omega
theorem Ic{t:List Rw}(h:lB t=true):t≠[]:=by
 intro hh;subst hh;simp[lB,cV]at h
theorem Le{s:List UInt8}{w:Wd}{nm:List UInt8}{l:List Int}(h:parse s=some (w,nm,l)):(∃a,z8 a=some w)∧No w l.length=true∧nm.length≤s.length∧l.length≤s.length+1:=by
 have hlen:=CI 32 s;have hle:=Jw 32 s;unfold parse at h;cases hsp:gP 32 s with
 |nil=>exact absurd hsp (Fk 32 s)
 |cons a all =>
 rw[hsp]at h hlen hle;simp only[aO]at hlen;simp only at h;cases hw:z8 a with
 |none=>rw[hw]at h;cases h
 |some w0 =>
 rw[hw]at h;simp only at h;have key:∀nm0 (l0:List (List UInt8)),xF w0 nm0 l0=some (w,nm,l)→w0=w∧nm0=nm∧No w l.length=true∧l.length=l0.length:=by
  intro nm0 l0 hp;unfold xF at hp;cases hm:zS l0 with
  |none=>rw[hm]at hp;cases hp
  |some ns =>
   rw[hm]at hp;simp only[aE,ae,au]at hp;obtain⟨hf,rfl,rfl,rfl⟩:=hp;exact⟨rfl,rfl,hf,By hm⟩
 split at h
 ·cases all with
  |nil=>cases h
  |cons n r =>
   obtain⟨rfl,rfl,h3,h4⟩:=key n r h;refine⟨⟨a,hw⟩,h3,hle n (by simp),?_⟩;simp at hlen;omega
 ·obtain⟨rfl,rfl,h3,h4⟩:=key [] all h;exact⟨⟨a,hw⟩,h3,by simp,by omega⟩
def doR(F:List Abs.aG)(b:Bk)(er:List Int)(σ:SK)(r:Bk×Int):R:=if r.2=0 then .val (.ez []) (F::r.1.bx σ.length er::σ)else .fU (rf r.2) (F::b.bx σ.length er::σ)
theorem wi{F:List Abs.aG}{b:Bk}{er:List Int}{r:Bk×Int}{q:Q}(h1:∀b' e,r=(b',e)→e=0→bw T q=some (.val (.ez []) (F::b'.bx σ.length er::σ)))(h2:∀b' e,r=(b',e)→e≠0→bw T q=some (.fU (rf e) (F::b.bx σ.length er::σ))):
  bw T q=some (doR F b er σ r):=by
 obtain⟨b',e⟩:=r;unfold doR;by_cases he:e=0
 ·rw[if_pos he];exact h1 b' e rfl he
 ·rw[if_neg he];exact h2 b' e rfl he
theorem AJ{l:List Int}{n:Nat}(h:l.length=n+1):∃a r,l=a::r∧r.length=n:=by
 cases l with
 |nil=>simp at h
 |cons a r=>exact⟨a,r,rfl,by simpa using h⟩
theorem ao2{l:List Int}(h:l.length=3):∃a0 a1 a2,l=[a0,a1,a2]:=by
 obtain⟨a0,r0,e0,h0⟩:=AJ (n:=2) h;obtain⟨a1,r1,e1,h1⟩:=AJ (n:=1) h0;obtain⟨a2,r2,e2,h2⟩:=AJ (n:=0) h1;have e:=cc.1 h2;exact⟨a0,a1,a2,by rw[e0,e1,e2,e]⟩
theorem ao3{l:List Int}(h:l.length=4):∃a0 a1 a2 a3,l=[a0,a1,a2,a3]:=by
 obtain⟨a0,r0,e0,h0⟩:=AJ (n:=3) h;obtain⟨a1,r1,e1,h1⟩:=AJ (n:=2) h0;obtain⟨a2,r2,e2,h2⟩:=AJ (n:=1) h1;obtain⟨a3,r3,e3,h3⟩:=AJ (n:=0) h2;have e:=cc.1 h3;exact⟨a0,a1,a2,a3,by rw[e0,e1,e2,e3,e]⟩
theorem axk{l:List Int}(h:l.length=10):∃a0 a1 a2 a3 a4 a5 a6 a7 a8 a9,l=[a0,a1,a2,a3,a4,a5,a6,a7,a8,a9]:=by
 obtain⟨a0,r0,e0,h0⟩:=AJ (n:=9) h;obtain⟨a1,r1,e1,h1⟩:=AJ (n:=8) h0;obtain⟨a2,r2,e2,h2⟩:=AJ (n:=7) h1;obtain⟨a3,r3,e3,h3⟩:=AJ (n:=6) h2;obtain⟨a4,r4,e4,h4⟩:=AJ (n:=5) h3;obtain⟨a5,r5,e5,h5⟩:=AJ (n:=4) h4;obtain⟨a6,r6,e6,h6⟩:=AJ (n:=3) h5;obtain⟨a7,r7,e7,h7⟩:=AJ (n:=2) h6;obtain⟨a8,r8,e8,h8⟩:=AJ (n:=1) h7;obtain⟨a9,r9,e9,h9⟩:=AJ (n:=0) h8;have e:=cc.1 h9;exact⟨a0,a1,a2,a3,a4,a5,a6,a7,a8,a9,by rw[e0,e1,e2,e3,e4,e5,e6,e7,e8,e9,e]⟩
theorem HV{w:Wd}{n:Nat}(h:No w n=true)(hs:w.step=0):(n:Int)=w.least:=by
 simp only[No,cn,af,aA]at h;omega
theorem L7{w:Wd}{n:Nat}(h:No w n=true)(hs:0<w.step)(hl:0≤w.least):w.least≤n∧((n:Int)-w.least)%w.step=0:=by
 simp only[No,cn,af,aA]at h;rcases h with h | ⟨h1,h2,h3⟩
 ·refine⟨by omega,?_⟩;rw[h];simp
 ·refine⟨by omega,?_⟩;rwa[Int.tmod_eq_emod_of_nonneg (by omega)]at h3
theorem Ok.one{b:cC}{m:cX}{aC:List (List Int)}(hb:b.valid=true)(hf:Bd b m=true)(hp:vU b aC=0)(hn:m.name.length≤1000000000):Ok b [m] aC:=by
 have hbv:=Bv.of hb;have hfit:fits b m=true:=by simp only[Bd,af]at hf;exact hf.2
 have hfv:=Fv.of hf;have hm:b.f.az [m]=0:=by
  have h:=hfit;simp only[fits,af,aA]at h;have h1:=h.1;unfold gX at h1;rw[if_pos hbv.fv]at h1;exact h1
 obtain⟨p1,p2⟩:=Cz hp;exact⟨hbv,hb,by simp,hm,by simpa using hfit,by simpa using hfv,by intro x hx;simp at hx;subst hx;exact⟨hn,hfv.toMv.le.2⟩,hp,p1,p2⟩
theorem afx{b:cC}{m:cX}(hb:b.valid=true)(hf:Bd b m=true):b.f.model m=0:=by
 have hfit:fits b m=true:=by simp only[Bd,af]at hf;exact hf.2
 rw[agw (Bv.of hb),af,aA]at hfit;exact hfit.1
theorem aDB{F:List Abs.aG}{b:Bk}{er:List Int}{s:List UInt8}{w:Wd}{nm:List UInt8}{l:List Int}{n:Nat}(hK:Kv n b)(hn:n≤1000000)(hp:parse s=some (w,nm,l))(hs:s.length≤4000):
  bw T (.call false ((Pv[w.k]?).getD 0) [.ref σ.length 6 0 0,.str nm,.aK l.length (l.flatMap aU)] (F::b.bx σ.length er::σ))=some (doR F b er σ (sO b w.k nm l)):=by
 obtain⟨⟨a,ha⟩,hfit,hnm,hll⟩:=Le hp;have htl:=ahh hK.cf;have hv:b.ready=true→Bv b.bL:=fun h=>Bv.of (hK.ready h)
 have hrt:b.ready=true→lB b.bL.cf=true:=fun h=>(hv h).cf
 have hwl:b.bL.av.length≤8:=by
  cases hr:b.ready with
  |true=>exact(hv hr).av
  |false=>rw[hK.av hr];simp
 have hmr:b.az≠[]→lB b.bL.cf=true:=fun h=>hrt (hK.ms h)
 have hlm:bZ b.az≠[]→b.az≠[]:=fun h hh=>h (by rw[hh];rfl)
 have hz:Sz b:=⟨by omega,by omega,fun e he=>⟨by have:=(hK.fit e he).2.1;omega,by have:=(hK.fit e he).2.2;omega⟩⟩;have hplz:=Cz hK.pl;have hbv:b.az≠[]→b.bL.valid=true:=fun h=>hK.ready (hK.ms h)
 have hne:∀e∈b.az,b.az≠[]:=fun e he hh=>by rw[hh]at he;cases he
 have hok:∀e∈b.az,Ok b.bL [e.m] b.aC:=fun e he=>Ok.one (hbv (hne e he)) (hK.fit e he).1 hK.pl (hz.ms e he).1
 have hfm:∀e∈b.az,b.bL.f.model e.m=0:=fun e he=>afx (hbv (hne e he)) (hK.fit e he).1
 have hsp:∀e∈b.BI,e.sp.length≤1000000:=fun e he=>by
  have:=hK.UD e he;simp only[Trem.Ev.ok,af]at this;have:=Trem.bf.1 this.2.1;omega
 have h1:=Kq ha;simp only[uw,bq,au,List.not_mem_nil,or_false]at h1;rcases h1 with⟨_,rfl⟩ | ⟨_,rfl⟩ | ⟨_,rfl⟩ | ⟨_,rfl⟩ | ⟨_,rfl⟩ | ⟨_,rfl⟩ | ⟨_,rfl⟩ | ⟨_,rfl⟩ | ⟨_,rfl⟩ | ⟨_,rfl⟩ | ⟨_,rfl⟩ | ⟨_,rfl⟩ | ⟨_,rfl⟩
 ·have hl:l.length=4:=by
   have h:(l.length:Int)=4:=HV hfit rfl;omega
  obtain⟨x,y,z,k,rfl⟩:=ao3 hl;exact wi (fun b' e hd he=>aqg hd he) (fun b' e hd he=>ahp hd he)
 ·have hl:=(L7 hfit (by decide) (by decide)).2;simp only[Int.sub_zero]at hl;obtain⟨h5,h6⟩:=agF (l.length / 5) (l:=l) (by omega);have hlen:(ah2 l).length*5=l.length:=by omega
  rw[← h5,← hlen];exact wi (fun b' e hd he=>aqz (by omega) hd he) (fun b' e hd he=>ahz (by omega) hd he)
 ·have hl:l.length=3:=by
   have h:(l.length:Int)=3:=HV hfit rfl;omega
  obtain⟨x,y,z,rfl⟩:=ao2 hl;exact wi (fun b' e hd he=>asX (by omega) (by omega) hd he) (fun b' e hd he=>aiN (by omega) (by omega) hd he)
 ·have hl:l.length=3:=by
   have h:(l.length:Int)=3:=HV hfit rfl;omega
  obtain⟨x,y,z,rfl⟩:=ao2 hl;refine wi (fun b' e hd he=>?_) (fun b' e hd he=>ajh (fun h=>Ic (hrt h)) (by omega) (by omega) hd he);have hr:b.ready=true:=by
   have hd2:AB b x y z=(b',e):=hd;unfold AB at hd2;split at hd2
   ·rename_i h;exact h.1
   ·cases hd2;cases he
  exact atf (Ic (hrt hr)) (by omega) (by omega) hd he
 ·exact wi (fun b' e hd he=>aiX (m:=⟨nm,l⟩) (by omega) (by omega) (by simp;omega) (by simp;omega) hK.wl hd he) (fun b' e hd he=>ahr (m:=⟨nm,l⟩) (by omega) (by omega) (by simp;omega) (by simp;omega) hK.ml hd he)
 ·obtain⟨hl1,hl2⟩:=L7 hfit (by decide) (by decide);simp only at hl1 hl2;obtain⟨k,l,rfl,hl⟩:=AJ (n:=l.length-1) (l:=l) (by omega);simp only[aO]at hl1 hl2 hll;obtain⟨lo,l,rfl,hl⟩:=AJ (n:=l.length-1) (l:=l) (by omega);simp only[aO]at hl1 hl2 hll;obtain⟨hi,l,rfl,hl⟩:=AJ (n:=l.length-1) (l:=l) (by omega);simp only[aO]at hl1 hl2 hll;obtain⟨h5,h6⟩:=R6 (l.length / 2) (l:=l) (by omega);have hlen:(OH l).length*2+3=l.length+1+1+1:=by omega
  simp only[ba,aO,aU,eR];rw[← h5,← hlen];refine wi (fun b' e hd he=>as5 (by omega) (by omega) hK.wl hK.ml (fun e he=>⟨hfm e he,hz.ms e he⟩) hd he) (fun b' e hd he=>aqn (by omega) (by omega) hd he)
 ·have hl:l.length=10:=by
   have h:(l.length:Int)=10:=HV hfit rfl;omega
  obtain⟨x0,x1,x2,x3,x4,x5,x6,x7,x8,x9,rfl⟩:=axk hl;exact wi (fun b' e hd he=>as7 hd he) (fun b' e hd he=>ai8 hd he)
 ·have hl:l.length=3:=by
   have h:(l.length:Int)=3:=HV hfit rfl;omega
  obtain⟨x,y,z,rfl⟩:=ao2 hl;refine wi (fun b' e hd he=>?_) (fun b' e hd he=>?_)
  ·have hd2:(if Trem.sj x y z=true then(Pn b x y z,0)else(b,1))=(b',e):=hd;split at hd2
   ·rename_i h;cases hd2;exact as2 h
   ·cases hd2;cases he
  ·have hd2:(if Trem.sj x y z=true then(Pn b x y z,0)else(b,1))=(b',e):=hd;split at hd2
   ·cases hd2;exact absurd rfl he
   ·rename_i h;cases hd2;exact aiU (by simpa using h)
 ·have hl:=(L7 hfit (by decide) (by decide)).2;simp only[Int.sub_zero]at hl;obtain⟨h5,h6⟩:=agE (l.length / 4) (l:=l) (by omega);have hlen:(ah1 l).length*4=l.length:=by omega
  rw[← h5,← hlen];exact wi (fun b' e hd he=>aqp (by omega) hd he) (fun b' e hd he=>ahu (by omega) hd he)
 ·have hpl:∀r∈b.aC,r.length≤1000000000:=fun r hr=>by have:=(hplz.2 r hr).len;omega
  refine wi (fun b' e hd he=>?_) (fun b' e hd he=>ajd (fun h=>Ic (hmr (hlm h))) hz (by omega) hK.ml (by have:=hK.rules;omega) (by have:=hK.BI;omega) hsp hK.keep hpl hd he);have hr:bZ b.az≠[]:=by
   have hd2:AA b l=(b',e):=hd;unfold AA at hd2;split at hd2
   ·cases hd2;cases he
   ·rename_i h;exact h
  exact aqA (Ic (hmr (hlm hr))) hz (by omega) hK.ml (by have:=hK.rules;omega) (by have:=hK.BI;omega) hsp hK.keep hpl hd he
 ·have hl:l.length=4:=by
   have h:(l.length:Int)=4:=HV hfit rfl;omega
  obtain⟨w,i,lo,hi,rfl⟩:=ao3 hl;refine wi (fun b' e hd he=>?_) (fun b' e hd he=>ai4 (fun h=>Ic (hmr (hlm h))) hK.ml hok hd he);have hr:bZ b.az≠[]:=by
   have hd2:Ay b ⟨b.aC.length,w,i,lo,hi⟩=(b',e):=hd;unfold Ay at hd2;split at hd2
   ·cases hd2;cases he
   ·rename_i h;exact h
  exact aqt (Ic (hmr (hlm hr))) hK.wl hK.ml hok hK.EN hd he
 ·obtain⟨hl1,hl2⟩:=L7 hfit (by decide) (by decide);simp only at hl1 hl2;obtain⟨i,l,rfl,hl⟩:=AJ (n:=l.length-1) (l:=l) (by omega);simp only[aO]at hl1 hl2 hll;obtain⟨h5,h6⟩:=R6 (l.length / 2) (l:=l) (by omega);have hlen:((OH l).map UL).length*2+1=l.length+1:=by simp;omega
  simp only[ba,aO,aU,eR];rw[← h5,← hlen,← arx];exact wi (fun b' e hd he=>atc (u:=⟨i,(OH l).map UL⟩) (by simp;omega) hd he) (fun b' e hd he=>aje (u:=⟨i,(OH l).map UL⟩) (by simp;omega) hd he)
 ·have hl:l.length=4:=by
   have h:(l.length:Int)=4:=HV hfit rfl;omega
  obtain⟨w,i,lo,hi,rfl⟩:=ao3 hl;refine wi (fun b' e hd he=>?_) (fun b' e hd he=>ajc (fun h=>hmr (hlm h)) hK.ml hok hK.EN hK.uok hK.fh (by omega) (by have:=hK.j8;omega) hd he);have hr:bZ b.az≠[]:=by
   have hd2:Az b w i lo hi=(b',e):=hd;unfold Az at hd2;split at hd2
   ·cases hd2;cases he
   ·rename_i h;exact fun hh=>h (.inl hh)
  exact aqy (hmr (hlm hr)) hK.ml hok hK.EN hK.uok hK.fh (by omega) (by have:=hK.j8;omega) hd he
end Go.Proofs.YtfgljaglidhjiaaGreatDoor
namespace Go.Proofs.YtfgljaglidhjiaaGreatDoor
open List(length_flatMap map_take)
open Go Go.Abs Go.Rock Go.Book
theorem Kv.le{n m:Nat}{b:Bk}(h:Kv n b)(hn:n≤m):Kv m b:={h with j8:=iB h.j8 hn }
theorem Kv.zero:Kv 0 ux:=by
 refine⟨.inl rfl,by simp[ux],fun _=>rfl,by simp[ux],by simp[ux],rfl,by simp[ux],by simp[ux],?_,by simp[ux],by simp[ux],by simp[ux],by simp[ux],by decide,by simp[ux],by simp[ux],by simp[ux]⟩;simp[ux,vU,cQ]
theorem Fc{b:cC}:vU b []=0:=by simp[vU,cQ]
theorem ajE{b:cC}(h:b.valid=true):b.cf≠[]∧¬((b.f.x=0∧b.f.y=0)∧b.f.z=0∧b.f.k=0):=by
 have hv:=Bv.of h;refine⟨Ic hv.cf,fun hh=>?_⟩;have:=hv.x;omega
theorem Kv.Sc{n:Nat}{b:Bk}(h:Kv n b)(hm:b.az=[]):b.aC=[]:=by
 by_cases hp:b.aC=[]
 ·exact hp
 ·exact absurd hm (h.pm hp)
theorem Kv.Ny{n:Nat}{b:Bk}(h:Kv n b)(hr:b.ready=false):b.az=[]:=by
 by_cases hp:b.az=[]
 ·exact hp
 ·rw[h.ms hp]at hr;cases hr
theorem Kv.azz{n:Nat}{b:Bk}(h:Kv n b)(k:Int):Kv n {b with at_:=k }:={h with }
theorem arJ{b:cC}{m:cX}:∃r,Rock.run b m []=some r:=⟨_,rfl⟩
theorem ahe{b:Bk}{lo hi:Int}{val:cX→Int}{x:mA}(h:x∈(tJ b lo hi val).az):∃e∈b.az,x.m=e.m∧(x.left=true→e.left=true):=by
 simp only[tJ,Bk.kQ,List.mem_mapIdx]at h;obtain⟨i,hi,rfl⟩:=h;refine⟨b.az[i],List.getElem_mem hi,?_⟩;rw[if_pos hi];unfold Go.Book.eU;split<;>simp
theorem Kv.apO{n:Nat}{b:Bk}(h:Kv n b){lo hi:Int}{val:cX→Int}:Kv n (tJ b lo hi val):=by
 have hl:(tJ b lo hi val).az.length=b.az.length:=Jx;have hn:(tJ b lo hi val).az=[]↔b.az=[]:=by rw[← cc,hl,cc]
 refine {cf:=h.cf,ready:=h.ready,av:=h.av,ms:=fun hh=>h.ms (fun h2=>hh (hn.2 h2)),ml:=by rw[hl];exact h.ml,wl:=by rw[hl,← h.wl];exact Jy,fit:=fun x hx=>?_,pm:=fun hh h2=>h.pm hh (hn.1 h2),pl:=h.pl,EN:=fun x hx hxl=>?_,rules:=h.rules,BI:=h.BI,UD:=h.UD,keep:=h.keep,fh:=h.fh,uok:=h.uok,j8:=h.j8 }
 ·obtain⟨e,he,h1,_⟩:=ahe hx;rw[h1];exact h.fit e he
 ·obtain⟨e,he,h1,h2⟩:=ahe hx;rw[h1];exact h.EN e he (h2 hxl)
theorem Ue{l:List mA}{e:mA}(h:e∈bZ l):e∈l∧e.left=true:=dn.1 h
theorem Kv.word{n:Nat}{b:Bk}(h:Kv n b){s:List UInt8}{w:Wd}{nm:List UInt8}{l:List Int}(hp:parse s=some (w,nm,l))(hs:s.length≤4000):Kv (n+1) (sO b w.k nm l).1:=by
 obtain⟨_,_,hnm,hll⟩:=Le hp;have h1:=h.le (Nat.le_succ n);generalize w.k=k;unfold sO;split
 ·
  split
  ·unfold Ch;split
   ·rename_i hz;split
    ·have hr:b.ready=false:=by
      cases hr:b.ready with
      |false=>rfl
      |true=>exact absurd hz (ajE (h.ready hr)).2
     have hm:=h.Ny hr;have hpl:=h.Sc hm;have hno:∀e,e∈b.az→False:=by rw[hm];simp
     exact {h1 with cf:=h.cf,ready:=fun hh=>(by rw[show b.ready=true from hh]at hr;cases hr),av:=h.av,fit:=fun e he=>(hno e he).elim,pl:=by simp only[hpl];exact Fc,EN:=fun e he=>(hno e he).elim }
    ·exact h1
   ·exact h1
  ·exact h1
 ·
  unfold Cj;split
  ·rename_i hz;split
   ·rename_i ht;have hr:b.ready=false:=by
     cases hr:b.ready with
     |false=>rfl
     |true=>exact absurd hz (ajE (h.ready hr)).1
    have hm:=h.Ny hr;have hpl:=h.Sc hm;have hno:∀e,e∈b.az→False:=by rw[hm];simp
    exact {h1 with cf:=.inr ht,ready:=fun hh=>(by rw[show b.ready=true from hh]at hr;cases hr),av:=h.av,fit:=fun e he=>(hno e he).elim,pl:=by simp only[SG,hpl];exact Fc,EN:=fun e he=>(hno e he).elim }
   ·exact h1
  ·exact h1
 ·
  split
  ·rename_i x y z;unfold M7;split
   ·exact h1
   ·rename_i hz;split
    ·rename_i hv;have hr:b.ready=false:=by
      cases hr:b.ready with
      |false=>rfl
      |true=>exact absurd (.inr (.inr hr)) hz
     have hm:=h.Ny hr;have hpl:=h.Sc hm;have hno:∀e,e∈b.az→False:=by rw[hm];simp
     exact {h1 with cf:=h.cf,ready:=fun _=>hv,av:=fun hh=>(by cases hh),ms:=fun _=>rfl,fit:=fun e he=>(hno e he).elim,pl:=by simp only[Oo,hpl];exact Fc,EN:=fun e he=>(hno e he).elim }
    ·exact h1
  ·exact h1
 ·
  split
  ·rename_i x y z;unfold AB;split
   ·rename_i hz;obtain⟨hr,hm⟩:=hz;split
    ·rename_i hv;have hpl:=h.Sc hm;have hno:∀e,e∈b.az→False:=by rw[hm];simp
     exact {h1 with cf:=h.cf,ready:=fun _=>hv,av:=fun hh=>(by rw[show b.ready=false from hh]at hr;cases hr),fit:=fun e he=>(hno e he).elim,pl:=by simp only[xo,hpl];exact Fc,EN:=fun e he=>(hno e he).elim }
    ·exact h1
   ·exact h1
  ·exact h1
 ·
  unfold zC;split
  ·rename_i hz;obtain⟨hr,hpl⟩:=hz;split
   ·exact h1
   ·split
    ·rename_i hml;split
     ·rename_i hb;refine {h1 with ms:=fun _=>hr,ml:=by simp[H4];omega,wl:=by simp[H4,h.wl],fit:=fun e he=>?_,pm:=fun hh=>absurd hpl hh,EN:=fun e he hl=>?_ }
      ·simp only[H4,bz,List.mem_singleton]at he;rcases he with he | rfl
       ·exact h.fit e he
       ·exact⟨hb,by simp;omega,by simp;omega⟩
      ·simp only[H4];rw[hpl];exact arJ
     ·exact h1
    ·exact h1
  ·exact h1
 ·
  split
  ·unfold K4;split
   ·exact h1
   ·split
    ·exact h1.apO
    ·exact h1
  ·exact h1
 ·
  unfold Hz;split
  ·split
   ·split
    ·rename_i hl _ _;exact {h1 with rules:=by simp;omega }
    ·exact h1
   ·exact h1
  ·exact h1
 ·
  split
  ·split
   ·rename_i hk;exact {h1 with keep:=hk }
   ·exact h1
  ·exact h1
 ·
  unfold Ci;split
  ·rename_i hl;split
   ·rename_i ho;refine {h1 with BI:=by simp[NC];omega,UD:=fun e he=>?_ };simp only[NC,bz,List.mem_singleton]at he;rcases he with he | rfl
    ·exact h.UD e he
    ·exact ho
   ·exact h1
  ·exact h1
 ·
  unfold AA;split
  ·exact h1
  ·rename_i hl;split
   ·split
    ·split
     ·split
      ·rename_i hf;obtain⟨e0,he0⟩:=List.exists_mem_of_ne_nil _ hl;have key:∀e∈bZ b.az,Bd b.bL e.m=true∧vU b.bL (rj b l)=0∧∃r,Rock.run b.bL e.m (rj b l)=some r:=by
        intro e he;have hz:=uj hf e he;have hb:=(h.fit e (Ue he).1).1;simp only[tE,hb,if_true]at hz;split at hz
        ·rename_i hq;cases hr:Rock.run b.bL e.m (rj b l)with
         |none=>rw[hr]at hz;cases hz
         |some r=>exact⟨hb,hq,r,rfl⟩
        ·rename_i hq;exact absurd hz hq
       refine {h1 with pm:=fun _ hh=>?_,pl:=(key e0 he0).2.1,EN:=fun e he hel=>(key e (dn.2 ⟨he,hel⟩)).2.2 };have:=(Ue he0).1;rw[show b.az=[]from hh]at this;cases this
      ·exact h1
     ·exact h1
    ·exact h1
   ·exact h1
 ·
  split
  ·unfold Ay;split
   ·exact h1
   ·split
    ·split
     ·exact h1.apO
     ·exact h1
    ·exact h1
  ·exact h1
 ·
  split
  ·unfold HA;split
   ·rename_i hl;split
    ·rename_i ho;refine {h1 with fh:=by simp[UM];omega,uok:=fun u hu=>?_ };simp only[UM,bz,List.mem_singleton]at hu;rcases hu with hu | rfl
     ·exact h.uok u hu
     ·exact ho
    ·exact h1
   ·exact h1
  ·exact h1
 ·
  split
  ·unfold Az;split
   ·exact h1
   ·split
    ·split
     ·exact {h1 with j8:=by have:=h.j8;simp[ag6];omega }
     ·exact h1
    ·exact h1
  ·exact h1
 ·exact h1
theorem Kv.line{n:Nat}{b:Bk}(h:Kv n b){s:List UInt8}(hs:s.length≤4000){k:Int}:Kv (n+1) (oI b k s).1:=by
 unfold oI;split
 ·rename_i w nm l hp;exact(h.azz k).word hp hs
 ·exact h.le (Nat.le_succ n)
end Go.Proofs.YtfgljaglidhjiaaGreatDoor
namespace Go.Abs
open List(length_flatMap map_take)
variable {T:Ak}
theorem Tr{f:Nat}{fn:Fn}{args:List D}{σ σ':SK}{d:D}{np:Nat}{res:List Ih}{body A q:cZ}{fo:bM}{bs:List bM}(hT:T f=some fn)(hf:fn=⟨np,res,body⟩)(hl:args.length=np)(hs:j5 body=some (A,fo,bs,q))(hlen:σ'.length=σ.length)
  (h:WC (bw T) A (oH 0 args) ([]::σ) (SH T fo bs q σ' res d)):
  bw T (.call false f args σ)=some (.val d σ'):=by
 subst hf;obtain⟨x,e1,σ1,h1,rfl,x2,e2,σ2,h2,th,h3,σ3,h4,ds,h5,s,h6⟩:=h;rw[hlen]at h6;refine iq ?_;have hn:aZ (bw T) body (oH 0 args) ([]::σ)=none:=zW hs h1;simp only[dA,hT,if_pos hl,aB,if_false,hn,hs,A7,h1,h2];have h4':∃dv,rL (bw T) (bh e1 fo) (bs.map (bh e1)) th σ2=some (.val dv σ3):=by
  unfold xz at h4;split at h4
  ·rename_i h7;cases h4;exact⟨_,h7⟩
  ·cases h4
 obtain⟨dv,h4'⟩:=h4';cases x2 with
 |exit i=>cases h3
 |normal=>cases h3;simp only[A9,h4',wh,leave,h5,h6]
 |ret=>cases h3;simp only[A9,h4',wh,leave,h5,h6]
 |fU d=>cases h3;simp only[A9,h4',wh,leave,h5,h6]
end Go.Abs
namespace Go.Proofs.YtfgljaglidhjiaaGreatDoor
open List(length_flatMap map_take)
open Go Go.Abs Go.Rock Go.Book
variable {σ:SK}
theorem aqN{c:List D}:bw T (.zB de [.ref σ.length 0 0 0] none ([.cells 0 c]::σ))=some (.val (.ez []) ([.cells 0 c]::σ)):=by
 refine Ed vI vL rfl (by simp[-length_flatMap,-map_take,sT];exact⟨rfl,rfl⟩) ?_;simp[-length_flatMap,-map_take]
theorem ago{e:Int}:bw T (.zB de [.ref σ.length 0 0 0] (some (rf e)) ([.cells 0 [.int .i64 0]]::σ))=some (.val (.ez []) ([.cells 0 [.int .i64 e]]::σ)):=by
 refine Ed vI vL rfl (by simp[-length_flatMap,-map_take,sT];exact⟨rfl,rfl⟩) ?_;simp[-length_flatMap,-map_take,rf]
theorem O9{b:Bk}{k:Nat}{nm:List UInt8}{l:List Int}(h:(sO b k nm l).2≠0):(sO b k nm l).1=b:=by
 unfold sO at h ⊢;split;all_goals
  simp only at h
  try unfold Go.Book.Ch at *
  try unfold Cj at *
  try unfold M7 at *
  try unfold AB at *
  try unfold zC at *
  try unfold K4 at *
  try unfold Hz at *
  try unfold Ci at *
  try unfold AA at *
  try unfold Ay at *
  try unfold HA at *
  try unfold Az at *
  repeat' split
  all_goals first | rfl | (simp_all)
theorem as3{b:Bk}{er:List Int}{s:List UInt8}{n:Nat}{k:Int}(hK:Kv n b)(hn:n≤1000000)(hs:s.length≤4000):
  bw T (.call false aN [.ref σ.length 6 0 0,.int .i64 k,.str s] (b.bx σ.length er::σ))=some (.val (.int .i64 (oI b k s).2) ((oI b k s).1.bx σ.length er::σ)):=by
 refine Tr Fw Gc rfl rfl (by simp) ?_;cases hp:parse s with
 |none =>
  have hP:=fun S=>U9 (σ:=S) (s:=s) (by omega) hp
  have hX:xz T (.fn de [] [.ref (σ.length+1) 0 0 0]) [] (some (rf 4)) ([.cells 0 [.int .i64 0]]::b.bx σ.length er::σ)=some ([.cells 0 [.int .i64 4]]::b.bx σ.length er::σ):=wg (ago (σ:=b.bx σ.length er::σ));have hd:oI b k s=(b,4):=by simp[oI,hp]
  rw[hd];simp only[Bk.bx,Bk.cells,rf]at hX hP;simp[-length_flatMap,-map_take,SH,DB,Bk.bx,Bk.cells];rw[AZ pK];simp[-length_flatMap,-map_take,SH,DB,Bk.bx,Bk.cells,hP,hX]
 |some p =>
  obtain⟨w,nm,l⟩:=p;have hP:=fun S hS=>ai2 (σ:=S) (s:=s) (by omega) hS hp
  have hD:=aDB (σ:=σ) (F:=[.cells 0 [.int .i64 0]]) (er:=er) (hK.azz k) hn hp hs;have hd:oI b k s=sO {b with at_:=k } w.k nm l:=by simp[oI,hp]
  rw[hd];have hno:=O9 (b:={b with at_:=k }) (k:=w.k) (nm:=nm) (l:=l);generalize sO {b with at_:=k } w.k nm l=r at hD hno ⊢;obtain⟨b',e⟩:=r;have hwc:UX w=[.bool w.named,.int .i64 w.least,.int .i64 w.step,.fn ((Pv[w.k]?).getD 0) [] []]:=rfl;simp only[zT,hwc]at hP;by_cases he:e=0
  ·subst he;have hX:xz T (.fn de [] [.ref (σ.length+1) 0 0 0]) [] none ([.cells 0 [.int .i64 0]]::b'.bx σ.length er::σ)=some ([.cells 0 [.int .i64 0]]::b'.bx σ.length er::σ):=wg (aqN (σ:=b'.bx σ.length er::σ));simp only[doR,if_true]at hD;simp only[Bk.bx,Bk.cells]at hX hD;simp[-length_flatMap,-map_take,SH,DB,Bk.bx,Bk.cells];rw[AZ pK];simp[-length_flatMap,-map_take,SH,DB,Bk.bx,Bk.cells,hP,hD,hX]
  ·have hX:xz T (.fn de [] [.ref (σ.length+1) 0 0 0]) [] (some (rf e)) ([.cells 0 [.int .i64 0]]::(Bk.bx σ.length {b with at_:=k } er)::σ)=some ([.cells 0 [.int .i64 e]]::(Bk.bx σ.length {b with at_:=k } er)::σ):=wg (ago (σ:=(Bk.bx σ.length {b with at_:=k } er)::σ));simp only[doR,he,if_false]at hD;have hb':b'={b with at_:=k }:=hno he;subst hb';simp only[Bk.bx,Bk.cells,rf]at hX hD;simp[-length_flatMap,-map_take,SH,DB,Bk.bx,Bk.cells];rw[AZ pK];simp[-length_flatMap,-map_take,SH,DB,Bk.bx,Bk.cells,hP,hD,hX]
def rl:Bk→Int→List (List UInt8)→Bk×List Int
 |b,_,[]=>(b,[])
 |b,k,s::l=>((rl (oI b k s).1 (k+1) l).1,(oI b k s).2::(rl (oI b k s).1 (k+1) l).2)
def uo(l:List (List UInt8)):Bk×List Int:=rl ux 0 l
theorem BD:∀{l:List (List UInt8)} {b:Bk} {k:Int},(rl b k l).2.length=l.length
 |[],_,_=>rfl
 |s::l,b,k=>by simp[rl,BD (l:=l)]
def okL(l:List (List UInt8)):Prop:=l.length≤100∧∀s∈l,s.length≤4000
theorem Uu:∀{l:List (List UInt8)} {b:Bk} {k:Int} {n:Nat},Kv n b→(∀s∈l,s.length≤4000)→Kv (n+l.length) (rl b k l).1
 |[],b,k,n,h,_=>h
 |s::l,b,k,n,h,hs=>by
  have h1:=h.line (hs s (by simp)) (k:=k);have h2:=Uu (l:=l) (k:=k+1) h1 fun x hx=>hs x (by simp[hx])
  simp only[rl,aO];rwa[show n+(l.length+1)=n+1+l.length by omega]
theorem ajt{lines:List (List UInt8)}(hl:okL lines):∀(m i:Nat) (b:Bk) (er:List Int),i+m=lines.length→er.length=i→Kv i b →
  WL T [4,5,12,13,14] false sy [(4,.ref σ.length 6 0 0),(5,.sl σ.length 7 i 0 i 1),(12,.aK lines.length (lines.flatMap eU)),(13,.int .i64 lines.length),(14,.int .i64 i)] (b.bx σ.length er::σ)
   (fun x e σ'=>x=.exit 0∧get e 4=.ref σ.length 6 0 0∧get e 5=.sl σ.length 7 lines.length 0 lines.length 1∧σ'=(rl b i (lines.drop i)).1.bx σ.length (er++(rl b i (lines.drop i)).2)::σ)
 |0,i,b,er,hi,he,hK=>by
  refine aM Bh ?_;obtain rfl:i=lines.length:=by omega
  have h2:lines.drop lines.length=[]:=aJ (by omega);simp[-length_flatMap,-map_take,h2,rl]
 |m+1,i,b,er,hi,he,hK=>by
  refine aM Bh ?_;have h1:i<lines.length:=by omega
  obtain⟨s,hs⟩:=gE h1;have a1:=bQ (f:=eU) (w:=1) (fun _=>rfl) hs;simp only[eU,dM]at a1;have h4:=fK h1 (by have:=hl.1;omega);have hsl:=hl.2 s (an hs);have hn:=hl.1;have hC:=as3 (σ:=σ) (b:=b) (er:=er) (s:=s) (k:=i) hK (by omega) hsl;have hK':=hK.line hsl (k:=i);rw[dG hs];simp only[rl];generalize oI b i s=r at hC hK' ⊢;obtain⟨b',e⟩:=r;have ih:=ajt hl m (i+1) b' (er++[e]) (by omega) (by simp[he]) hK';have hel:=EH er;have het:(er.flatMap aU).take i=er.flatMap aU:=ar (by omega);have hr:(i+1)*8≤room:=by unfold room;omega
  simp only[Bk.bx,Bk.cells,he]at hC;simp[-length_flatMap,-map_take,h1,a1,h4,hC,Bk.bx,Bk.cells,hr,hel,het,he];refine WL.to ih (by simp) (by simp[Bk.bx,Bk.cells,he]) fun x e' σ' hh=>?_
  have e1:((i+1:Nat):Int)=(i:Int)+1:=by omega
  rw[e1]at hh;simpa[Bk.bx,Bk.cells]using hh
theorem ai9{lines:List (List UInt8)}(hl:okL lines):bw T (.call true iy [.aK lines.length (lines.flatMap eU)] ([]::σ)) =
  some (.val (.ez [.ref σ.length 6 0 0,.sl σ.length 7 lines.length 0 lines.length 1]) ((uo lines).1.bx σ.length (uo lines).2::σ)):=by
 refine yi N3 OA rfl ?_;have hL:=ajt (σ:=σ) hl lines.length 0 ux [] (by omega) rfl Kv.zero;rw[aS]at hL;simp[-length_flatMap,-map_take];refine WL.to hL (by simp) (by simp[Bk.bx,Bk.cells,ux,nl]) ?_;rintro x e σ' ⟨rfl,g4,g5,rfl⟩;simp[-length_flatMap,-map_take,g4,g5,uo]
end Go.Proofs.YtfgljaglidhjiaaGreatDoor
namespace Go.Proofs.YtfgljaglidhjiaaGreatDoor
open List(length_flatMap map_take)
open Go Go.Abs Go.Rock Go.Book
def z0(e:mA):mA:={e with by_:=0 }
def xp(b:Bk):Bk:={b with az:=b.az.map z0,pX:=[],at_:=0 }
theorem arh(l:List mA):bZ (l.map z0)=(bZ l).map z0:=by
 induction l with
 |nil=>rfl
 |cons e l ih =>
  have h:(z0 e).left=e.left:=rfl;simp only[bZ,aj,List.filter_cons,h]at ih ⊢;split<;>simp[ih]
theorem TO{f g:mA→Int}(h:∀e,f (z0 e)=g e)(l:List mA):cQ f (l.map z0)=cQ g l:=by
 induction l with
 |nil=>rfl
 |cons e l ih=>simp only[aj,cQ,h,ih]
theorem atx{f g:mA→Bool}(h:∀e,f (z0 e)=g e)(l:List mA):sN (l.map z0) f=sN l g:=by
 show(l.map z0).any f=l.any g
 rw[List.any_map];congr 1;funext e;exact h e
theorem xE(l:List mA):(l.map z0).map z0=l.map z0:=by
 rw[List.map_map];rfl
theorem aBy(b:Bk):xp (xp b)=xp b:=by
 simp only[xp,xE]
def pD(x y:Bk×Int):Prop:=x.2=y.2∧xp x.1=xp y.1
theorem pD.ite{c:Prop}{_:Decidable c}{x y x' y':Bk×Int}(h1:c→pD x x')(h2:¬c→pD y y'):pD (if c then x else y) (if c then x' else y'):=by
 by_cases h:c
 ·rw[if_pos h,if_pos h];exact h1 h
 ·rw[if_neg h,if_neg h];exact h2 h
theorem pD.no(b:Bk)(e:Int):pD (b,e) (xp b,e):=⟨rfl,(aBy b).symm⟩
theorem ahg(b:Bk)(lo hi:Int)(val:cX→Int):xp (tJ b lo hi val)=xp (tJ (xp b) lo hi val):=by
 unfold tJ xp Bk.kQ;simp only[Bk.mk.injEq,true_and,and_true,dk,List.mapIdx_nil];apply dV;intro j;simp only[kU,kh,Option.map_map];cases b.az[j]? with
 |none=>rfl
 |some e =>
  simp only[aT,Function.comp];split
  ·congr 1
   unfold Go.Book.eU isStr z0;simp only;split<;>rfl
  ·rfl
theorem ar3(b:Bk)(k:Nat)(nm:List UInt8)(l:List Int):pD (sO b k nm l) (sO (xp b) k nm l):=by
 have hn:∀{l:List mA},l.map z0=[]↔l=[]:=fun {l}=>List.map_eq_nil_iff
 have hm:(xp b).az=b.az.map z0:=rfl;have h1:bZ (xp b).az=(bZ b.az).map z0:=arh _;unfold sO;split
 ·split
  ·refine pD.ite (fun _=>pD.ite (fun _=>⟨rfl,?_⟩) fun _=>pD.no b 1) fun _=>pD.no b 8
   simp only[xp,xE]
  ·exact pD.no b 4
 ·refine pD.ite (fun _=>pD.ite (fun _=>⟨rfl,?_⟩) fun _=>pD.no b 1) fun _=>pD.no b 8
  simp only[xp,SG,xE]
 ·split
  ·refine pD.ite (fun _=>pD.no b 8) fun _=>pD.ite (fun _=>⟨rfl,?_⟩) fun _=>pD.no b 1
   simp only[xp,Oo,xE]
  ·exact pD.no b 4
 ·split
  ·unfold AB;simp only[hm,hn];refine pD.ite (fun _=>pD.ite (fun _=>⟨rfl,?_⟩) fun _=>pD.no b 1) fun _=>pD.no b 8
   simp only[xp,xo,xE]
  ·exact pD.no b 4
 ·unfold zC;simp only[hm,dk];rw[atx (g:=fun e=>e.m.name == nm) (fun _=>rfl)];refine pD.ite (fun _=>pD.ite (fun _=>pD.no b 6) fun _=>pD.ite (fun _=>pD.ite (fun _=>⟨rfl,?_⟩) fun _=>pD.no b 1) fun _=>pD.no b 3) fun _=>pD.no b 8
  simp only[xp,H4,List.map_append,xE]
 ·split
  ·unfold K4;simp only[hm,hn];exact pD.ite (fun _=>pD.no b 8) fun _=>pD.ite (fun _=>⟨rfl,ahg b _ _ _⟩) fun _=>pD.no b _
  ·exact pD.no b 4
 ·refine pD.ite (fun _=>pD.ite (fun _=>pD.ite (fun _=>⟨rfl,?_⟩) fun _=>pD.no b 1) fun _=>pD.no b 1) fun _=>pD.no b 3
  simp only[xp,xE]
 ·split
  ·refine pD.ite (fun _=>⟨rfl,?_⟩) fun _=>pD.no b 1
   simp only[xp,Pn,xE]
  ·exact pD.no b 4
 ·refine pD.ite (fun _=>pD.ite (fun _=>⟨rfl,?_⟩) fun _=>pD.no b 1) fun _=>pD.no b 3
  simp only[xp,NC,xE]
 ·unfold AA;have h2:rj (xp b) l=rj b l:=rfl;have h3:cQ (fun e=>tE (xp b).bL e.m (rj b l)) ((bZ b.az).map z0)=cQ (fun e=>tE b.bL e.m (rj b l)) (bZ b.az):=TO (fun _=>rfl) _;rw[h1,h2,h3];simp only[hn];refine pD.ite (fun _=>pD.no b 8) fun _=>pD.ite (fun _=>pD.ite (fun _=>pD.ite (fun _=>pD.ite (fun _=>⟨rfl,?_⟩) fun _=>pD.no b _) fun _=>pD.no b 2) fun _=>pD.no b 1) fun _=>pD.no b 3
  simp only[xp,agZ,xE]
 ·split
  ·unfold Ay;rw[h1];simp only[hn];exact pD.ite (fun _=>pD.no b 8) fun _=>pD.ite (fun _=>pD.ite (fun _=>⟨rfl,ahg b _ _ _⟩) fun _=>pD.no b _) fun _=>pD.no b 1
  ·exact pD.no b 4
 ·split
  ·refine pD.ite (fun _=>pD.ite (fun _=>⟨rfl,?_⟩) fun _=>pD.no b 1) fun _=>pD.no b 3
   simp only[xp,UM,xE]
  ·exact pD.no b 4
 ·split
  ·rename_i w lv u p;unfold Az;have h6:CG (xp b) w lv u=CG b w lv u:=by
    unfold CG;rw[h1];exact TO (fun _=>rfl) _
   have h7:NM (xp b) w lv u=NM b w lv u:=by
    unfold NM;rw[h1,List.map_map];rfl
   rw[h1,h6,h7];simp only[hn];refine pD.ite (fun _=>pD.no b 8) fun _=>pD.ite (fun _=>pD.ite (fun _=>⟨rfl,?_⟩) fun _=>pD.no b _) fun _=>pD.no b 2
   simp only[xp,ag6,xE]
  ·exact pD.no b 4
 ·exact pD.no b 4
theorem ahk(b:Bk)(k:Nat)(nm:List UInt8)(l:List Int):(sO b k nm l).2=(sO (xp b) k nm l).2∧xp (sO b k nm l).1=xp (sO (xp b) k nm l).1:=ar3 b k nm l
theorem ari{b c:Bk}(h:xp b=xp c)(k k':Int)(s:List UInt8):(oI b k s).2=(oI c k' s).2∧xp (oI b k s).1=xp (oI c k' s).1:=by
 unfold oI;cases parse s with
 |none=>exact⟨rfl,h⟩
 |some x =>
  obtain⟨w,nm,l⟩:=x;have h1:=ahk {b with at_:=k } w.k nm l;have h2:=ahk {c with at_:=k' } w.k nm l;have h3:xp {b with at_:=k }=xp {c with at_:=k' }:=h;rw[h3]at h1;exact⟨h1.1.trans h2.1.symm,h1.2.trans h2.2.symm⟩
theorem arj{b:Bk}{k:Int}{s:List UInt8}(h:(oI b k s).2≠0):xp (oI b k s).1=xp b:=by
 unfold oI at h ⊢;cases hp:parse s with
 |none=>rfl
 |some x =>
  obtain⟨w,nm,l⟩:=x;rw[hp]at h;simp only at h ⊢;rw[O9 h];rfl
def wN:List (List UInt8)→List Int→List (List UInt8)
 |s::l,e::r=>if e=0 then s::wN l r else wN l r
 |_,_=>[]
theorem Qb:∀{l:List (List UInt8)} {r:List Int} {s:List UInt8},s∈wN l r→s∈l
 |[],_,s,h=>by simp[wN]at h
 |_::_,[],s,h=>by simp[wN]at h
 |x::l,e::r,s,h=>by
  simp only[wN]at h;split at h
  ·rcases bq.1 h with rfl | h
   ·simp
   ·exact List.mem_cons_of_mem _ (Qb h)
  ·exact List.mem_cons_of_mem _ (Qb h)
theorem Qa:∀{l:List (List UInt8)} {r:List Int},(wN l r).length≤l.length
 |[],_=>by simp[wN]
 |_::_,[]=>by simp[wN]
 |x::l,e::r=>by
  have:=Qa (l:=l) (r:=r);simp only[wN];split<;>simp<;>omega
theorem Qc:∀{l:List (List UInt8)} {b c:Bk} {k k':Int},xp b=xp c →
  xp (rl c k' (wN l (rl b k l).2)).1=xp (rl b k l).1∧∀e∈(rl c k' (wN l (rl b k l).2)).2,e=0
 |[],b,c,k,k',h=>⟨h.symm,by simp[wN,rl]⟩
 |s::l,b,c,k,k',h=>by
  obtain⟨h1,h2⟩:=ari h k k' s;simp only[rl,wN];by_cases he:(oI b k s).2=0
  ·rw[if_pos he];simp only[rl];have ih:=Qc (l:=l) (k:=k+1) (k':=k'+1) h2;refine⟨ih.1,fun e h3=>?_⟩;rcases bq.1 h3 with rfl | h3
   ·rw[← h1];exact he
   ·exact ih.2 e h3
  ·rw[if_neg he];exact Qc (l:=l) (k:=k+1) ((arj he).trans h)
theorem Uv:∀{l:List (List UInt8)} {b:Bk} {k:Int} {n:Nat},(rl b k (l.take n)).2=(rl b k l).2.take n
 |[],b,k,n=>by simp[rl]
 |s::l,b,k,0=>by simp[rl]
 |s::l,b,k,n+1=>by simp[rl,Uv (l:=l)]
theorem asw{b c:Bk}(h:xp b=xp c):b.bL=c.bL∧b.aC=c.aC∧b.j8=c.j8∧b.az.length=c.az.length∧∀(i:Nat) (x y:mA),b.az[i]?=some x→c.az[i]?=some y→x.m=y.m∧x.left=y.left:=by
 simp only[xp,Bk.mk.injEq]at h;obtain⟨h1,h2,h3,_,_,_,_,_,_,h4,_⟩:=h;refine⟨h1,h3,h4,by have:=congrArg List.length h2;simpa using this,fun i x y hx hy=>?_⟩;have h5:=congrArg (fun l:List mA=>l[i]?) h2;simp only[kU,hx,hy,aT,ae,z0,mA.mk.injEq]at h5;exact⟨h5.1,h5.2.1⟩
end Go.Proofs.YtfgljaglidhjiaaGreatDoor
namespace Go.Book
open List(length_flatMap map_take)
open Go Go.Abs
end Go.Book
