import Derived.Test.YtfgljaglidhjiaaGreatDoorTxt4
import Derived.Test.YtfgljaglidhjiaaGreatDoorTxt3
set_option linter.all false
namespace Go.Book
open List(length_flatMap map_take)
open Go Go.Abs Go.Rock
def Kp(lo hi s:Int):Int:=if hi<s∨s<lo then s else lo
end Go.Book
namespace Go.Proofs.YtfgljaglidhjiaaGreatDoor
open List(length_flatMap map_take)
open Go Go.Abs Go.Rock Go.Book
variable {σ:SK}
def vq(b:Bk)(x:wa)(m:cI):Int:=match Rock.run b.bG m b.az with
 |some r=>Kp x.lo x.hi (uQ b.bG m r x)
 |none=>x.lo
theorem Km{b:cz}{m:cI}{az:List (List Int)}{x:wa}{r:RunT}(hr:xC b az.length [x]=0)(hrun:Rock.run b m az=some r):
  ∃n A,NF b [m] az [x]=.dK [.aI n A,.aI (if vN x.lo x.hi (uQ b m r x)=0 then 0 else 1) (if vN x.lo x.hi (uQ b m r x)=0 then []else xJ (0,0,vN x.lo x.hi (uQ b m r x))),.int .i64 0]∧D.bg A=true:=by
 have h1:xF b az [m]=some [r]:=by simp[xF,hrun]
 refine⟨(Hz b [x] 0 [(m,r)] ([],[])).1.length,(Hz b [x] 0 [(m,r)] ([],[])).1.flatMap aS,?_,aY _⟩;unfold NF;rw[if_pos hr,h1];by_cases hz:vN x.lo x.hi (uQ b m r x)=0<;>simp[Hz,zC,CN,hz]
theorem ag7{b:cz}{m:cI}{az:List (List Int)}{x:wa}(hr:xC b az.length [x]≠0):NF b [m] az [x]=.dK [.aI 0 [],.aI 0 [],.int .i64 (xC b az.length [x])]:=by
 unfold NF;rw[if_neg hr]
theorem zz{b:cz}{n:Int}{x:wa}:xC b n [x]=uw b n x:=by
 simp only[xC,aJ,bF,db];by_cases h:uw b n x=0<;>simp[h]
theorem zK{b:Bk}{m:cI}{x:wa}(ht:b.bG.cq≠[])(hok:Ok b.bG [m] b.az)(hw:0≤x.rD∧x.rD≤255)(hσ:σ≠[]):
  lim T (.call false kc [.agg [.int .i64 b.bG.f.x,.int .i64 b.bG.f.y,.int .i64 b.bG.f.z,.int .i64 b.bG.f.k,nl Rw.enc b.bG.cq,.int .i64 b.bG.bJ,.int .i64 b.bG.lift,.int .i64 b.bG.deep,nl bH.enc b.bG.ar],.aI 1 [.str m.name,.aI m.bh.length (m.bh.flatMap aS)],nl pE b.az,.aI 1 x.enc] σ)=some (.val (NF b.bG [m] b.az [x]) σ):=by
 have h:=MC (σ:=σ) (wq:=nl bH.enc b.bG.ar) um hok (rd:=[x]) (by simp) (by intro y hy;simp at hy;subst hy;exact hw) hσ;rw[eK ht];simpa[Nb]using h
theorem afK{F:List Abs.aE}{b:Bk}{er:List Int}{m:cI}{x:wa}{w:Int}{r:RunT}(ht:b.bG.cq≠[])(hok:Ok b.bG [m] b.az)(hw:0≤x.rD∧x.rD≤255)(hr:uw b.bG b.az.length x=0)(hrun:Rock.run b.bG m b.az=some r):
  lim T (.call false eT [.agg [.str m.name,.aI m.bh.length (m.bh.flatMap aS)],.bD [.ref σ.length 6 0 0],.ref (σ.length+1+1) 0 0 0,.bD [.aI 4 [.int .i64 w,.int .i64 x.idx,.int .i64 x.lo,.int .i64 x.hi]]] ([]::[.cells 0 x.enc]::F::b.bw σ.length er::σ))=some (.val (.int .i64 (vq b x m)) ([]::[.cells 0 x.enc]::F::b.bw σ.length er::σ)):=by
 refine aA AN mo.eq_1 rfl ?_;have hS:=fun S hS=>zK (σ:=S) ht hok hw hS
 obtain⟨n,A,h1,hA⟩:=Km (b:=b.bG) (m:=m) (az:=b.az) (x:=x) (by rw[zz];exact hr) hrun;rw[h1]at hS;have hd:=Rdv.of hr;have hb:=J6 (hok.fv m (by simp)) (Ks.of (hok.fv m (by simp)) hok.aR hrun) hd;obtain⟨e1,e2,e3⟩:=hd.ends;have hv:vq b x m=Kp x.lo x.hi (uQ b.bG m r x):=by simp[vq,hrun]
 rw[hv];have hm:=Nj (lo:=x.lo) (hi:=x.hi) (s:=uQ b.bG m r x) e2;generalize uQ b.bG m r x=s at *
 simp only[wa.enc]at hS ⊢;unfold aep at hm;by_cases c1:x.hi<s
 ·rw[if_pos c1]at hm;have c2:¬s-x.hi=0:=by omega
  have c3:0<s-x.hi:=by omega
  have w1:IntKind.i64.wrap (x.hi+(s-x.hi))=s:=by rw[show x.hi+(s-x.hi)=s by omega];exact fT (by omega)
  have hq:Kp x.lo x.hi s=s:=by simp[Kp,c1]
  rw[hm]at hS;simp[-length_flatMap,-map_take,Bk.bw,Bk.cells,hS,c1,(show ¬s≤x.hi by omega),c2,c3,w1,hq,xJ,hA]
 ·rw[if_neg c1]at hm;by_cases c4:s<x.lo
  ·rw[if_pos c4]at hm;have c2:¬s-x.lo=0:=by omega
   have c3:¬0<s-x.lo:=by omega
   have w1:IntKind.i64.wrap (x.lo+(s-x.lo))=s:=by rw[show x.lo+(s-x.lo)=s by omega];exact fT (by omega)
   have hq:Kp x.lo x.hi s=s:=by simp[Kp,c4]
   rw[hm]at hS;simp[-length_flatMap,-map_take,Bk.bw,Bk.cells,hS,(show ¬x.lo<s by omega),c2,c3,w1,hq,xJ,hA]
  ·rw[if_neg c4]at hm;have hq:Kp x.lo x.hi s=x.lo:=by simp[Kp,c1,c4]
   rw[hm]at hS;simp[-length_flatMap,-map_take,Bk.bw,Bk.cells,hS,hq,hA]
def yP(b:Bk)(x:wa):Bk×Int :=
 if cp b.an=[]then(b,8)else if ct x.rD 0 255=true then(if uw b.bG b.az.length x=0 then(mE b x.lo x.hi (vq b x),0)else(b,uw b.bG b.az.length x))else(b,1)
theorem afL{F:List Abs.aE}{b:Bk}{er:List Int}{nm:List UInt8}{w i lo hi:Int}{b':Bk}{e:Int}(ht:b.bG.cq≠[])(hw:b.jt.length=b.an.length)(hml:b.an.length≤40)(hok:∀e∈b.an,Ok b.bG [e.m] b.az)(hrun:∀e∈b.an,e.left=true→∃r,Rock.run b.bG e.m b.az=some r)(hd:yP b ⟨b.az.length,w,i,lo,hi⟩=(b',e))(he:e=0):
  lim T (.call false gf [.ref σ.length 6 0 0,.str nm,.aI 4 [.int .i64 w,.int .i64 i,.int .i64 lo,.int .i64 hi]] (F::b.bw σ.length er::σ))=some (.val (.dK []) (F::b'.bw σ.length er::σ)):=by
 refine gF we kP.eq_1 rfl (by simp) ?_;unfold yP at hd;split at hd
 case isTrue=>cases hd;cases he
 rename_i c1;split at hd
 case isFalse=>cases hd;cases he
 rename_i c2;split at hd
 case isFalse=>cases hd;rename_i h;exact absurd he h
 rename_i c3;cases hd;have c2i:=bf.1 c2;have q1:0<(cp b.an).length:=aL.2 c1;have hLf:=fun S=>Et (σ:=σ) (b:=b) (er:=er) (S:=S) (by omega)
 obtain⟨e0,ls,hls⟩:∃e0 ls,cp b.an=e0::ls:=by
  cases h:cp b.an with
  |nil=>exact absurd h c1
  |cons a l=>exact⟨a,l,rfl⟩
 have he0:e0∈b.an∧e0.left=true:=di.1 (show e0∈cp b.an by rw[hls];simp);obtain⟨r0,hr0⟩:=hrun e0 he0.1 he0.2;have w1:IntKind.u8.wrap w=w:=wu8 (by omega);have hS:=fun S hS=>zK (σ:=S) (x:=⟨b.az.length,w,i,lo,hi⟩) ht (hok e0 he0.1) (by simpa using c2i) hS
 obtain⟨n,A,h1,hA⟩:=Km (b:=b.bG) (m:=e0.m) (az:=b.az) (x:=⟨b.az.length,w,i,lo,hi⟩) (by rw[zz];exact c3) hr0;rw[h1]at hS;have hst:=KK (σ:=σ) (A:=[.cells 0 (wa.enc ⟨b.az.length,w,i,lo,hi⟩)]) (F:=F) (b:=b) (er:=er) (lo:=lo) (hi:=hi) (val:=vq b ⟨b.az.length,w,i,lo,hi⟩) (fv:=.fn eT [] [.bD [.ref σ.length 6 0 0],.ref (σ.length+1+1) 0 0 0,.bD [.aI 4 [.int .i64 w,.int .i64 i,.int .i64 lo,.int .i64 hi]]]) rfl rfl hw hml (by
  intro k e he hl;obtain⟨r,hr⟩:=hrun e he hl;have h:=afK (σ:=σ) (F:=F) (er:=er) (b:=b.jX lo hi (vq b ⟨b.az.length,w,i,lo,hi⟩) k) (m:=e.m) (x:=⟨b.az.length,w,i,lo,hi⟩) (w:=w) ht (hok e he) (by simpa using c2i) c3 hr;rw[rk];have h':lim T (.call false eT ([]++[.agg [.str e.m.name,.aI e.m.bh.length (e.m.bh.flatMap aS)]]++[.bD [.ref σ.length 6 0 0],.ref (σ.length+1+1) 0 0 0,.bD [.aI 4 [.int .i64 w,.int .i64 i,.int .i64 lo,.int .i64 hi]]]) ([]::[.cells 0 (wa.enc ⟨b.az.length,w,i,lo,hi⟩)]::F::(b.jX lo hi (vq b ⟨b.az.length,w,i,lo,hi⟩) k).bw σ.length er::σ))=_:=h;rw[h'];rfl)
 rw[hls]at hLf;simp only[Bk.bw,Bk.cells,wa.enc]at hst hLf hS;have hcl:∀T,D.bg (if T=0 then []else xJ (0,0,T))=true:=fun T=>by split<;>simp[xJ]
 simp[-length_flatMap,-map_take,Bk.bw,Bk.cells,hLf,cF,fj,c2,w1,hS,oO,hA,hcl,hst,aY]
theorem SM{F:List Abs.aE}{b:Bk}{er:List Int}{nm:List UInt8}{w i lo hi:Int}{b':Bk}{e:Int}(ht:cp b.an≠[]→b.bG.cq≠[])(hml:b.an.length≤40)(hok:∀e∈b.an,Ok b.bG [e.m] b.az)(hd:yP b ⟨b.az.length,w,i,lo,hi⟩=(b',e))(he:e≠0):
  lim T (.call false gf [.ref σ.length 6 0 0,.str nm,.aI 4 [.int .i64 w,.int .i64 i,.int .i64 lo,.int .i64 hi]] (F::b.bw σ.length er::σ))=some (.fY (rf e) (F::b.bw σ.length er::σ)):=by
 refine eh we kP.eq_1 rfl ?_;have hLf:=fun S=>Et (σ:=σ) (b:=b) (er:=er) (S:=S) (by omega)
 simp only[Bk.bw,Bk.cells]at hLf;unfold yP at hd;split at hd
 case isTrue c1 =>
  cases hd;simp[-length_flatMap,-map_take,Bk.bw,Bk.cells,hLf,c1,dF,D.clean,rf]
 rename_i c1;have ht:=ht c1;have q1:0<(cp b.an).length:=aL.2 c1;split at hd
 case isFalse c2 =>
  cases hd;have c2':ct w 0 255=false:=by simpa using c2
  simp[-length_flatMap,-map_take,Bk.bw,Bk.cells,hLf,q1,fj,c2',cF,dF,D.clean,rf]
 rename_i c2;have c2i:=bf.1 c2;split at hd
 case isTrue=>cases hd;exact absurd rfl he
 rename_i c3;cases hd;obtain⟨e0,ls,hls⟩:∃e0 ls,cp b.an=e0::ls:=by
  cases h:cp b.an with
  |nil=>exact absurd h c1
  |cons a l=>exact⟨a,l,rfl⟩
 have he0:e0∈b.an∧e0.left=true:=di.1 (show e0∈cp b.an by rw[hls];simp);have w1:IntKind.u8.wrap w=w:=wu8 (by omega);have hS:=fun S hS=>zK (σ:=S) (x:=⟨b.az.length,w,i,lo,hi⟩) ht (hok e0 he0.1) (by simpa using c2i) hS
 rw[ag7 (by rw[zz];exact c3),zz]at hS;have hM:=fun σ=>pU (σ:=σ) c3
 generalize uw b.bG b.az.length ⟨b.az.length,w,i,lo,hi⟩=err at hS hM c3 he ⊢;have hrc:(D.uj 311 (.agg [.int .i64 err])).clean=true:=rfl;rw[hls]at hLf;simp only[wa.enc]at hS;simp[-length_flatMap,-map_take,Bk.bw,Bk.cells,hLf,cF,fj,c2,w1,hS,hM,aY,rf,hrc]
end Go.Proofs.YtfgljaglidhjiaaGreatDoor
namespace Go.Book
open List(length_flatMap map_take)
open Go Go.Abs Go.Rock
def MX:List Prt→Int
 |[]=>0
 |p::l=>p.width+MX l
def Ak:List Prt→Int→Int
 |[],_=>0
 |p::l,m=>p.vY*min m p.width+Ak l (m-min m p.width)
def I6:List Prt→Int→Int
 |[],m=>m
 |p::l,m=>I6 l (m-min m p.width)
def Dw(l:List Prt):Prop:=∀p∈l,(0≤p.vY∧p.vY≤1000)∧1≤p.width∧p.width≤100000
theorem Bs:∀{l:List Prt} {last:Int},last≤1000→yT last l=true→Dw l
 |[],_,_,_=>by intro p hp;cases hp
 |q::l,last,hl,h=>by
  simp only[yT,Prt.ok,af,bf]at h;intro p hp;rcases ba.1 hp with rfl | hp
  ·omega
  ·exact Bs (by omega) h.2 p hp
theorem Ns:∀{l:List Prt} {m:Int},Dw l→0≤m→0≤Ak l m∧Ak l m≤1000*m
 |[],m,_,hm=>by simp[Ak];omega
 |p::l,m,h,hm=>by
  have h1:=h p (by simp);have h2:=Ns (l:=l) (m:=m-min m p.width) (fun q hq=>h q (by simp[hq])) (by omega);have h3:0≤p.vY*min m p.width:=ft h1.1.1 (by omega);have h4:p.vY*min m p.width≤1000*min m p.width:=fJ h1.1.2 (by omega);simp only[Ak];omega
end Go.Book
namespace Go.Proofs.YtfgljaglidhjiaaGreatDoor
open List(length_flatMap map_take)
open Go Go.Abs Go.Rock Go.Book
variable {σ:SK}
theorem ahm{l:List Prt}(hs:Dw l)(hl:l.length≤8):∀(m i:Nat) (out:Int),i+m=l.length→0≤out→out≤100000*i →
  WL T [2,6,7,8] false jS [(2,.int .i64 out),(6,.aI l.length (l.flatMap Prt.enc)),(7,.int .i64 l.length),(8,.int .i64 i)] σ
   (fun x e σ'=>x=.exit 0∧σ'=σ∧get e 2=.int .i64 (out+MX (l.drop i)))
 |0,i,out,hi,h0,ho=>by
  refine aN jS.eq_1 ?_;have h1:¬i<l.length:=by omega
  have h2:l.drop i=[]:=aB (by omega);simp[-length_flatMap,-map_take,h1,h2,MX]
 |m+1,i,out,hi,h0,ho=>by
  refine aN jS.eq_1 ?_;have h1:i<l.length:=by omega
  obtain⟨p,hp⟩:=gE h1;have hfl:=bS (f:=Prt.enc) (w:=2) (fun _=>rfl) hp;have hd:=cY hp;have h4:=gD h1 (by omega);have hb:=hs p (ai hp);have w1:IntKind.i64.wrap (out+p.width)=out+p.width:=fT (by omega);have ih:=ahm hs hl m (i+1) (out+p.width) (by omega) (by omega) (by omega);rw[hd,MX];simp[-length_flatMap,-map_take,h1,hfl,h4,w1];exact WL.to ih (by simp) rfl fun x e σ' hh=>by simpa[Int.add_assoc]using hh
theorem MF{u:xQ}(hs:Dw u.parts)(hl:u.parts.length≤8):lim T (.call false jq [.agg u.enc] σ)=some (.val (.int .i64 (MX u.parts)) σ):=by
 refine aA AP mr.eq_1 rfl ?_;simp[-length_flatMap,-map_take,z6];refine WL.to (ahm (σ:=[]::σ) hs hl u.parts.length 0 0 (by omega) (by omega) (by omega)) (by simp) rfl ?_;rintro x e σ' ⟨rfl,rfl,g2⟩;simp[-length_flatMap,-map_take,g2]
def lpP(L:Nat):wU:={state:=0,xA:=none,env:=[(4,.ref L 0 0 0)],params:=[10,11],zW:=mu,body:=mw }
def Mh(σ:SK)(out mass:Int):SK:=[.cells 0 [.int .i64 out],.cells 0 [.int .i64 mass],.loop (lpP σ.length)]::σ
theorem af0{p:Prt}{out mass m:Int}(hp:(0≤p.vY∧p.vY≤1000)∧1≤p.width∧p.width≤100000)(hm:0≤m∧m≤1000000)(ho:0≤out∧out≤1000000000000):
  lim T (.round σ.length 2 [.agg p.enc,.int .i64 m] ([]::Mh σ out mass))=some (.val (.bool true) ([]::Mh σ (out+p.vY*m) mass)):=by
 have q1:0≤p.vY*m:=ft hp.1.1 hm.1;have q2:p.vY*m≤1000*1000000:=lT hp.1.2 hm.2 hm.1 (by omega);have w1:IntKind.i64.wrap (p.vY*m)=p.vY*m:=fT (by omega);have w2:IntKind.i64.wrap (out+p.vY*m)=out+p.vY*m:=fT (by omega);refine L5 (lp:=lpP σ.length) (by simp[Mh]) rfl ?_;rw[show(lpP σ.length).zW=mu from rfl,mu.eq_1,show(lpP σ.length).body=mw from rfl];simp[-length_flatMap,-map_take,zg mw.eq_1,lpP,Mh,RJ,w1,w2]
theorem Td{l:List Prt}(hs:Dw l)(hl:l.length≤8):∀(k i:Nat) (out m:Int),i+k=l.length→0≤m→m≤1000000→0≤out→out≤1000000000*i →
  WL T [0,2,8,9,10] false lA [(0,.mH σ.length 2),(2,.ref σ.length 1 0 0),(8,.aI l.length (l.flatMap Prt.enc)),(9,.int .i64 l.length),(10,.int .i64 i)] ([]::Mh σ out m)
   (fun x e σ'=>x=.exit 0∧σ'=[]::Mh σ (out+Ak (l.drop i) m) (I6 (l.drop i) m))
 |0,i,out,m,hi,hm,hm2,h0,ho=>by
  refine aN lA.eq_1 ?_;have h1:¬i<l.length:=by omega
  have h2:l.drop i=[]:=aB (by omega);simp[-length_flatMap,-map_take,h1,h2,Ak,I6]
 |k+1,i,out,m,hi,hm,hm2,h0,ho=>by
  refine aN lA.eq_1 ?_;have h1:i<l.length:=by omega
  obtain⟨p,hp⟩:=gE h1;have hfl:=bS (f:=Prt.enc) (w:=2) (fun _=>rfl) hp;have hd:=cY hp;have h4:=gD h1 (by omega);have hb:=hs p (ai hp);have hmn:0≤min m p.width∧min m p.width≤m:=by omega
  have hR:=af0 (σ:=σ) (p:=p) (out:=out) (mass:=m) (m:=min m p.width) hb (by omega) (by omega);have q1:0≤p.vY*min m p.width:=ft hb.1.1 hmn.1;have q2:p.vY*min m p.width≤1000*1000000:=lT hb.1.2 (by omega) hmn.1 (by omega);have w1:IntKind.i64.wrap (m-min m p.width)=m-min m p.width:=fT (by omega);have ih:=Td hs hl k (i+1) (out+p.vY*min m p.width) (m-min m p.width) (by omega) (by omega) (by omega) (by omega) (by omega);rw[hd,Ak,I6];simp only[Mh,Prt.enc]at hR;simp[-length_flatMap,-map_take,h1,hfl,h4,Mh,hR,w1];exact WL.to ih (by simp) (by simp[Mh]) fun x e σ' hh=>by simpa[Int.add_assoc,Mh]using hh
theorem ano{u:xQ}{mass:Int}{bs:List Abs.aE}:lim T (.call true nw [.agg u.enc,.int .i64 mass] (bs::σ))=some (.val (.fn iT [] [.bD u.enc,.ref σ.length bs.length 0 0]) ((bs++[.cells 0 [.int .i64 mass]])::σ)):=by
 refine wF DC pZ.eq_1 rfl ?_;simp[-length_flatMap,-map_take,z6]
theorem afS{u:xQ}{out m:Int}(hs:Dw u.parts)(hl:u.parts.length≤8)(hm:0≤m∧m≤1000000)(h0:0≤out∧out≤0):
  lim T (.call false iT [.mH σ.length 2,.bD u.enc,.ref σ.length 1 0 0] (Mh σ out m))=some (.val (.dK []) (Mh σ (out+Ak u.parts m) (I6 u.parts m))):=by
 refine gF Cn nW.eq_1 rfl (by simp[Mh]) ?_;have h:=Td (σ:=σ) hs hl u.parts.length 0 out m (by omega) hm.1 hm.2 h0.1 (by omega);rw[aP]at h;simp[-length_flatMap,-map_take];refine WL.to h (by simp) (by simp) ?_;rintro x e σ' ⟨rfl,rfl⟩;simp
theorem afG{u:xQ}{m:Int}(hs:Dw u.parts)(hl:u.parts.length≤8)(hm:0≤m∧m≤1000000):
  lim T (.call false l8 [.agg u.enc,.int .i64 m] σ)=some (.val (.int .i64 (Ak u.parts m)) σ):=by
 refine aA CU oT.eq_1 rfl ?_;have hU:=fun bs=>ano (σ:=σ) (u:=u) (mass:=m) (bs:=bs)
 have h1:=afS (σ:=σ) (u:=u) (out:=0) hs hl hm (by omega);simp only[xQ.enc]at hU h1 ⊢;simp[-length_flatMap,-map_take,hU,z6];refine Oa (d:=.dK []) (σ2:=Mh σ (0+Ak u.parts m) (I6 u.parts m)) (lp:=lpP σ.length) (by simp;exact⟨rfl,rfl,rfl⟩) ?_ (by simp[Mh]) (by simp[lpP]) ?_
 ·simpa[Mh,lpP]using h1
 ·simp[-length_flatMap,-map_take,Mh,lpP]
def Ld(u:xQ)(s:yH):Int:=if s.valid=true then(if MX u.parts<s.m then 2 else if s.h<Ak u.parts s.m then 9 else 0)else 1
theorem HR{s:yH}:lim T (.call false kZ [.agg s.enc] σ)=some (.val (.int .i64 (if s.valid then 0 else 1)) σ):=by
 refine aA Ct og.eq_1 rfl ?_;have h:=fun σ=>Gx (σ:=σ) (x:=s)
 simp only[yH.enc]at h ⊢;cases hc:s.valid<;>rw[hc]at h<;>simp[-length_flatMap,-map_take,h]
theorem SO{s:yH}:lim T (.call false mQ [.agg s.enc] σ)=some (.val (.bool s.valid) σ):=by
 refine aA FU sK.eq_1 rfl ?_;have h:=fun σ=>HR (σ:=σ) (s:=s)
 simp only[yH.enc]at h ⊢;cases hc:s.valid<;>rw[hc]at h<;>simp[-length_flatMap,-map_take,h]
theorem SP{s:yH}:lim T (.call false sy [.aI 1 s.enc] σ)=some (.val (.bool s.valid) σ):=by
 refine aA H0 vl.eq_1 rfl ?_;have h:=fun σ=>zV (xf 4 yH.enc (fun _=>rfl)) (T:=T) (σ:=σ) (f:=jV) (g:=iG) (h:=eA) (i:=fp) (l:=[s]) (p:=yH.valid) (fv:=.fn mQ [] []) rfl rfl rfl rfl (by simp) (pW.fn fun x _ σ=>SO) rfl
 simp only[xf,List.length_singleton,aW,dN,dL,gU,jO,List.all_nil,Bool.and_true]at h;simp only[yH.enc]at h ⊢;simp[-length_flatMap,-map_take,h]
def age(u:xQ)(s:yH):D:=if Ld u s=0 then .dK [.agg [.int .i64 s.m,.int .i64 (s.h-Ak u.parts s.m),.int .i64 s.s,.int .i64 s.g],.int .i64 (Ak u.parts s.m),.int .i64 0]else .dK [.agg [.int .i64 0,.int .i64 0,.int .i64 0,.int .i64 0],.int .i64 0,.int .i64 (Ld u s)]
theorem Sl{u:xQ}{s:yH}(hu:u.ok=true):lim T (.call false rz [.agg u.enc,.agg s.enc] σ)=some (.val (age u s) σ):=by
 refine aA GK tR.eq_1 rfl ?_;have hok:=hu;simp only[xQ.ok,af,bf]at hok;have hl:u.parts.length≤8:=by omega
 have hs:=Bs (by omega) hok.2.2;have hV:=fun σ=>KL (σ:=σ) (u:=u) (by omega)
 have hR:=fun σ=>SP (σ:=σ) (s:=s)
 have hC:=fun σ=>MF (σ:=σ) hs hl
 rw[hu]at hV;simp only[xQ.enc,yH.enc]at hV hR hC ⊢;unfold age Ld;cases c1:s.valid
 ·rw[c1]at hR;simp[-length_flatMap,-map_take,hV,hR,z6]
 rw[c1]at hR;simp only[yH.valid,af,bf]at c1;by_cases c2:MX u.parts<s.m
 ·simp[-length_flatMap,-map_take,hV,hR,hC,c2,z6]
 have hP:=fun σ=>afG (σ:=σ) (m:=s.m) hs hl c1.1
 simp only[xQ.enc]at hP;have hb:=Ns hs c1.1.1;by_cases c3:s.h<Ak u.parts s.m
 ·simp[-length_flatMap,-map_take,hV,hR,hC,hP,c2,c3,z6]
 have w1:IntKind.i64.wrap (s.h-Ak u.parts s.m)=s.h-Ak u.parts s.m:=fT (by omega);simp[-length_flatMap,-map_take,hV,hR,hC,hP,c2,c3,w1,z6]
theorem QJ{t:List Rw}(ht:kM t=true){i:Nat}{r:Rw}(hi:t[i]?=some r){x:yH}(hx:x.valid=false):
  lim T (.call false pQ [.aI t.length (t.flatMap Rw.enc),.int .i64 i,.agg x.enc] σ)=some (.val (.dK [.agg (List.replicate 10 (.int .i64 0)),.int .i64 1]) σ):=by
 refine aA CF sw.eq_1 rfl ?_;have hl:t.length≤20:=by
  simp only[kM,af]at ht;have:=bf.1 ht.1;omega
 have hil:i<t.length:=(au.1 hi).1;have h1:=fun σ=>CO (σ:=σ) (t:=t) (by omega)
 have h2:=fun σ=>ahk (σ:=σ) (t:=t) (n:=i) (by omega)
 have h3:=fun σ=>Gx (σ:=σ) (x:=x)
 have hin:ct i 0 ((t.length:Int)-1)=true:=bf.2 (by omega);rw[hin]at h2;rw[hx]at h3;rw[ht]at h1;simp only[yH.enc]at h3;simp[-length_flatMap,-map_take,h1,h2,h3,List.replicate]
def LR:List Int→Int
 |[]=>0
 |x::l=>l.foldl min x
def LP:List Int→Int
 |[]=>0
 |x::l=>l.foldl max x
theorem ahq{l:List Int}(hl:l.length≤1000000):∀(m i:Nat) (a:Int),i+m=l.length →
  WL T [0,3,4] false oe [(0,.aI l.length (l.flatMap aS)),(3,.int .i64 a),(4,.int .i64 i)] σ (fun x e σ'=>x=.exit 0∧σ'=σ∧get e 3=.int .i64 ((l.drop i).foldl min a))
 |0,i,a,hi=>by
  refine aN oe.eq_1 ?_;have h1:¬i<l.length:=by omega
  have h2:l.drop i=[]:=aB (by omega);simp[-length_flatMap,-map_take,h1,h2]
 |m+1,i,a,hi=>by
  refine aN oe.eq_1 ?_;have h1:i<l.length:=by omega
  obtain⟨n,hn⟩:=gE h1;have a1:=rh hn;have h4:=gD h1 (by omega);rw[cY hn];simp[-length_flatMap,-map_take,h1,a1,h4];exact WL.to (ahq hl m (i+1) (min a n) (by omega)) (by simp) rfl fun x e σ' hh=>by simpa using hh
theorem atI{l:List Int}(hne:l≠[])(hl:l.length≤1000000):lim T (.call false oD [.aI l.length (l.flatMap aS)] σ)=some (.val (.int .i64 (LR l)) σ):=by
 refine aA EE rQ.eq_1 rfl ?_;have h0:0<l.length:=aL.2 hne;obtain⟨x,r,rfl⟩:∃x r,l=x::r:=by
  cases l with
  |nil=>exact absurd rfl hne
  |cons x r=>exact⟨x,r,rfl⟩
 have h1:¬((r.length:Int)+1<1):=by omega
 have h2:(0:Int)<(r.length:Int)+1:=by omega
 simp[-length_flatMap,-map_take,h1,h2];refine WL.to (ahq (σ:=[]::σ) hl r.length 1 x (by simp;omega)) (by simp) rfl ?_;rintro x e σ' ⟨rfl,rfl,g3⟩;simp[-length_flatMap,-map_take,g3,LR]
theorem ahp{l:List Int}(hl:l.length≤1000000):∀(m i:Nat) (a:Int),i+m=l.length →
  WL T [0,3,4] false od [(0,.aI l.length (l.flatMap aS)),(3,.int .i64 a),(4,.int .i64 i)] σ (fun x e σ'=>x=.exit 0∧σ'=σ∧get e 3=.int .i64 ((l.drop i).foldl max a))
 |0,i,a,hi=>by
  refine aN od.eq_1 ?_;have h1:¬i<l.length:=by omega
  have h2:l.drop i=[]:=aB (by omega);simp[-length_flatMap,-map_take,h1,h2]
 |m+1,i,a,hi=>by
  refine aN od.eq_1 ?_;have h1:i<l.length:=by omega
  obtain⟨n,hn⟩:=gE h1;have a1:=rh hn;have h4:=gD h1 (by omega);rw[cY hn];simp[-length_flatMap,-map_take,h1,a1,h4];exact WL.to (ahp hl m (i+1) (max a n) (by omega)) (by simp) rfl fun x e σ' hh=>by simpa using hh
theorem atH{l:List Int}(hne:l≠[])(hl:l.length≤1000000):lim T (.call false oC [.aI l.length (l.flatMap aS)] σ)=some (.val (.int .i64 (LP l)) σ):=by
 refine aA ED rP.eq_1 rfl ?_;have h0:0<l.length:=aL.2 hne;obtain⟨x,r,rfl⟩:∃x r,l=x::r:=by
  cases l with
  |nil=>exact absurd rfl hne
  |cons x r=>exact⟨x,r,rfl⟩
 have h1:¬((r.length:Int)+1<1):=by omega
 have h2:(0:Int)<(r.length:Int)+1:=by omega
 simp[-length_flatMap,-map_take,h1,h2];refine WL.to (ahp (σ:=[]::σ) hl r.length 1 x (by simp;omega)) (by simp) rfl ?_;rintro x e σ' ⟨rfl,rfl,g3⟩;simp[-length_flatMap,-map_take,g3,LP]
theorem anj{l:List Int}(hne:l≠[])(hl:l.length≤1000000):lim T (.call false ru [.aI l.length (l.flatMap aS)] σ)=some (.val (.agg [.int .i64 (LR l),.int .i64 (LP l)]) σ):=by
 refine aA GJ tQ.eq_1 rfl ?_;have h1:=fun σ=>atI (σ:=σ) hne hl
 have h2:=fun σ=>atH (σ:=σ) hne hl
 simp[-length_flatMap,-map_take,h1,h2]
end Go.Proofs.YtfgljaglidhjiaaGreatDoor
set_option maxRecDepth 100000
namespace Go.Proofs.YtfgljaglidhjiaaGreatDoor
open List(length_flatMap map_take)
open Go Go.Abs Go.Rock Go.Book
variable {σ:SK}
def axb:Rw:=⟨0,0,0,0,0⟩
def axc:xQ:=⟨0,[]⟩
def rowOf(b:Bk)(lv:Nat):Rw:=(b.bG.cq[lv]?).getD axb
def BM(b:Bk)(u:Nat):xQ:=(b.fg[u]?).getD axc
def yk(b:Bk)(r:RunT)(w:Nat):yH:=⟨(bP (rowAt r.2 (b.az.length-1)) w).m,(bP (rowAt r.2 (b.az.length-1)) w).h,0,0⟩
def wO(r:Rw)(x:yH):yH:=⟨jd r x,asK r x,0,asJ r x⟩
def BJ(b:Bk)(w lv u:Nat)(m:cI):Int:=match Rock.run b.bG m b.az with
 |some r=>if(yk b r w).valid=true then Ld (BM b u) (wO (rowOf b lv) (yk b r w))else 1
 |none=>9
def xG(b:Bk)(w lv u:Nat)(m:cI):Int:=match Rock.run b.bG m b.az with
 |some r=>Ak (BM b u).parts (wO (rowOf b lv) (yk b r w)).m
 |none=>0
def Ei(b:Bk)(σ:SK)(w lv u:Nat)(price:Int)(acc:List Int)(rest:List jb)(x:Abs.Exit)(e:Env)(σ':SK):Prop :=
 if db (fun e=>BJ b w lv u e.m) rest=0 then
  x=.exit 0∧get e 0=.ref (σ.length-1-1) 6 0 0∧get e 7=.int .i64 w∧get e 10=.int .i64 price∧get e 11=.sl σ.length 0 (acc++rest.map fun e=>xG b w lv u e.m).length 0 (acc++rest.map fun e=>xG b w lv u e.m).length 1 ∧
   σ'=[.cells (acc++rest.map fun e=>xG b w lv u e.m).length ((acc++rest.map fun e=>xG b w lv u e.m).flatMap aS)]::σ
 else x=.fY (rf (db (fun e=>BJ b w lv u e.m) rest))∧∃s,σ'=s::σ
theorem MS{F:List Abs.aE}{b:Bk}{er:List Int}{ls:List jb}{w lv u:Nat}{price:Int}(ht:kM b.bG.cq=true)(hok:∀e∈ls,Ok b.bG [e.m] b.az)(hrun:∀e∈ls,∃r,Rock.run b.bG e.m b.az=some r)(hp:b.az≠[])(hl:ls.length≤1000000)
  (hw:w<b.bG.ar.length) (hlv:lv<b.bG.cq.length) (hu:u<b.fg.length) (huk:∀x∈b.fg,x.ok=true):∀(m i:Nat) (acc:List Int),i+m=ls.length→acc.length=i →
  WL T [0,7,8,9,10,11,86,87,88] false kq [(0,.ref σ.length 6 0 0),(7,.int .i64 w),(8,.int .i64 lv),(9,.int .i64 u),(10,.int .i64 price),(11,.sl (F::b.bw σ.length er::σ).length 0 i 0 i 1),(86,.aI ls.length (ls.flatMap jb.enc)),(87,.int .i64 ls.length),(88,.int .i64 i)] ([.cells i (acc.flatMap aS)]::F::b.bw σ.length er::σ)
   (Ei b (F::b.bw σ.length er::σ) w lv u price acc (ls.drop i))
 |0,i,acc,hi,ha=>by
  refine aN kq.eq_1 ?_;obtain rfl:i=ls.length:=by omega
  have h5:ls.drop ls.length=[]:=aB (by omega);simp[-length_flatMap,-map_take,h5,Ei,ha,db]
 |m+1,i,acc,hi,ha=>by
  refine aN kq.eq_1 ?_;have h1:i<ls.length:=by omega
  obtain⟨e,he⟩:=gE h1;have hem:=ai he;have hO:=hok e hem;obtain⟨r,hr⟩:=hrun e hem;have hfl:=bS (f:=jb.enc) (w:=4) (fun _=>rfl) he;have h4:=gD h1 (by omega);have htl:b.bG.cq.length≤20:=by
   simp only[kM,af]at ht;have:=bf.1 ht.1;omega
  have hE:ur b.bG e.m b.az=0:=by
   have hfit:=hO.fit e.m (by simp);simp[ur,Bd,hO.valid,hfit,hO.pl,hr]
  have hD:zy b.bG e.m b.az=.agg [.aI r.1.length (r.1.flatMap yy),.aI r.2.length (r.2.flatMap yy)]:=by
   obtain⟨r1,r2⟩:=r;simp[zy,hE,hr]
  have hsh:=hO.short e.m (by simp);have hP:=fun S hS=>Sp (σ:=S) (b:=b.bG) (m:=e.m) (az:=b.az) (wq:=nl bH.enc b.bG.ar) um (by omega) (by have:=hO.bv.ar;omega) (by omega) (by omega) (by have:=hO.RS;omega) (fun l hl=>by have:=(hO.aR l hl).len;have:=hO.bv.ar;omega) hS
  rw[hE,hD,Nb]at hP;have htn:b.bG.cq≠[]:=by intro hh;rw[hh]at hlv;simp at hlv
  have hRun:=Ks.of (hO.fv e.m (by simp)) hO.aR hr;have hpl:0<b.az.length:=aL.2 hp;have hpl2:=hO.RS;obtain⟨hrow,hY⟩:=aeK hRun (t:=b.az.length-1) (by omega);have f1:=bS (f:=yy) (w:=1) (fun _=>rfl) hrow;rw[ea]at f1;have hyw:(rowAt r.2 (b.az.length-1))[w]?=some (bP (rowAt r.2 (b.az.length-1)) w):=by
   have:w<(rowAt r.2 (b.az.length-1)).length:=by rw[hY.len];exact hw
   simp[bP,this]
  have f2:=bS (f:=Rock.aE.enc) (w:=3) (fun _=>rfl) hyw;have hyl:=hY.len;have w1:IntKind.i64.wrap ((b.az.length:Int)-1)=b.az.length-1:=fT (by omega);have t1:((b.az.length:Int)-1).toNat=b.az.length-1:=by omega
  have q1:(1:Int)≤b.az.length:=by omega
  have q2:(b.az.length:Int)-1<r.2.length:=by rw[hRun.yl];omega
  have hrw:b.bG.cq[lv]?=some (rowOf b lv):=by simp[rowOf,hlv]
  have hun:b.fg[u]?=some (BM b u):=by simp[BM,hu]
  have f3:=bS (f:=xQ.enc) (w:=2) (fun _=>rfl) hun;have hul:=QG b.fg;have q3:2≤b.fg.length*2-u*2:=by omega
  have hX:=fun σ=>Sl (σ:=σ) (u:=BM b u) (s:=wO (rowOf b lv) (yk b r w)) (huk _ (ai hun))
  rw[cY he];have hs0:BJ b w lv u e.m=if(yk b r w).valid=true then Ld (BM b u) (wO (rowOf b lv) (yk b r w))else 1:=by simp[BJ,hr]
  cases c1:(yk b r w).valid with
  |false =>
   have hF:=fun σ=>QJ (σ:=σ) ht hrw c1
   have hM:=fun σ=>pU (σ:=σ) (e:=1) (by decide)
   have hs1:BJ b w lv u e.m=1:=by rw[hs0,c1];rfl
   simp only[yH.enc,yk,List.replicate]at hF;simp[-length_flatMap,-map_take,h1,hfl,h4,Bk.bw,Bk.cells,eK htn,eK hp,hP,oO,aY,f1,f2,w1,t1,q1,q2,hyl,hw,hF,hM,hs1,yy,Ei,db]
  |true =>
   have hF:=fun σ=>afr (σ:=σ) ht hrw c1
   simp only[yH.enc,yk]at hF;have hs1:BJ b w lv u e.m=Ld (BM b u) (wO (rowOf b lv) (yk b r w)):=by rw[hs0,c1];rfl
   have hv1:xG b w lv u e.m=Ak (BM b u).parts (wO (rowOf b lv) (yk b r w)).m:=by simp[xG,hr]
   by_cases c2:Ld (BM b u) (wO (rowOf b lv) (yk b r w))=0
   ·have hacc:=xm acc;have hta:(acc.flatMap aS).take i=acc.flatMap aS:=aj (by omega);have hroom:(i+1)*8≤room:=by unfold room;omega
    have ih:=MS (F:=F) (er:=er) (price:=price) ht hok hrun hp hl hw hlv hu huk m (i+1) (acc++[xG b w lv u e.m]) (by omega) (by simp[ha]);have fin:∀x e' σ',Ei b (F::b.bw σ.length er::σ) w lv u price (acc++[xG b w lv u e.m]) (ls.drop (i+1)) x e' σ'→Ei b (F::b.bw σ.length er::σ) w lv u price acc (e::ls.drop (i+1)) x e' σ':=fun x e' σ' hh=>by
     have hz:BJ b w lv u e.m=0:=by rw[hs1,c2]
     simp only[Ei,db,hz,if_true,aO,kj,dH]at hh ⊢;exact hh
    unfold age at hX;rw[if_pos c2,← hv1]at hX;simp only[xQ.enc,yH.enc,wO,yk]at hX f3;simp[-length_flatMap,-map_take,h1,hfl,h4,Bk.bw,Bk.cells,eK htn,eK hp,hP,oO,aY,f1,f2,w1,t1,q1,q2,hyl,hw,hF,yy,parts,hu,f3,hul,q3,hX,hroom,hacc,hta,ha];exact WL.to ih (by simp) (by simp[Bk.bw,Bk.cells,eK htn,eK hp]) fin
   ·unfold age at hX;rw[if_neg c2]at hX;have hM:=fun σ=>pU (σ:=σ) c2
    have hz:BJ b w lv u e.m≠0:=by rw[hs1];exact c2
    rw[← hs1]at hX hM;simp only[xQ.enc,yH.enc,wO,yk]at hX f3;simp[-length_flatMap,-map_take,h1,hfl,h4,Bk.bw,Bk.cells,eK htn,eK hp,hP,oO,aY,f1,f2,w1,t1,q1,q2,hyl,hw,hF,yy,parts,hu,f3,hul,q3,hX,hM,hz,Ei,db]
def aeU(b:Bk)(w price:Int)(ws:List Int):Bk:={b with mK:=b.mK++[⟨b.az.length,w,LR ws,LP ws,LR ws*price,LP ws*price⟩] }
def Kg(b:Bk)(w lv u price:Int):Bool:=ct w 0 ((b.bG.ar.length:Int)-1) && (ct lv 0 ((b.bG.cq.length:Int)-1) && (ct u 0 ((b.fg.length:Int)-1) && ct price 0 1000))
def Gn(b:Bk)(w lv u:Int):Int:=db (fun e=>BJ b w.toNat lv.toNat u.toNat e.m) (cp b.an)
def aeV(b:Bk)(w lv u:Int):List Int:=(cp b.an).map fun e=>xG b w.toNat lv.toNat u.toNat e.m
def yQ(b:Bk)(w lv u price:Int):Bk×Int :=
 if cp b.an=[]∨b.az=[]then(b,8)else if Kg b w lv u price=true then(if Gn b w lv u=0 then(aeU b w price (aeV b w lv u),0)else(b,Gn b w lv u))else(b,2)
theorem agX(l:List Sd):(l.flatMap Sd.enc).length=l.length*6:=bT (f:=Sd.enc) (w:=6) (fun _=>rfl) l
theorem FF{c d:Int}:∀{l:List Int} {a:Int},(c≤a∧a≤d)→(∀x∈l,c≤x∧x≤d)→c≤l.foldl min a∧l.foldl min a≤d
 |[],a,h,_=>h
 |x::l,a,h,hl=>by
  have h1:=hl x (by simp);exact FF (l:=l) (a:=min a x) (by omega) fun y hy=>hl y (by simp[hy])
theorem FE{c d:Int}:∀{l:List Int} {a:Int},(c≤a∧a≤d)→(∀x∈l,c≤x∧x≤d)→c≤l.foldl max a∧l.foldl max a≤d
 |[],a,h,_=>h
 |x::l,a,h,hl=>by
  have h1:=hl x (by simp);exact FE (l:=l) (a:=max a x) (by omega) fun y hy=>hl y (by simp[hy])
theorem avV{c d:Int}{l:List Int}(h0:c≤0∧0≤d)(hl:∀x∈l,c≤x∧x≤d):(c≤LR l∧LR l≤d)∧(c≤LP l∧LP l≤d):=by
 cases l with
 |nil=>exact⟨h0,h0⟩
 |cons x l=>exact⟨FF (hl x (by simp)) fun y hy=>hl y (by simp[hy]),FE (hl x (by simp)) fun y hy=>hl y (by simp[hy])⟩
theorem agY{b:Bk}{w lv u:Nat}{m:cI}(hu:u<b.fg.length)(huk:∀x∈b.fg,x.ok=true)(hE:BJ b w lv u m=0):0≤xG b w lv u m∧xG b w lv u m≤1000000000:=by
 have hun:b.fg[u]?=some (BM b u):=by simp[BM,hu]
 have hok:=huk _ (ai hun);simp only[xQ.ok,af,bf]at hok;have hs:=Bs (by omega) hok.2.2;unfold BJ at hE;unfold xG;cases hr:Rock.run b.bG m b.az with
 |none=>simp
 |some r =>
  rw[hr]at hE;simp only at hE ⊢;split at hE
  ·unfold Ld at hE;split at hE
   ·rename_i hv;simp only[yH.valid,af,bf]at hv;have:=Ns hs hv.1.1;omega
   ·cases hE
  ·cases hE
theorem afP{F:List Abs.aE}{b:Bk}{er:List Int}{nm:List UInt8}{w lv u price:Int}{b':Bk}{e:Int}(ht:kM b.bG.cq=true)(hml:b.an.length≤40)(hok:∀e∈b.an,Ok b.bG [e.m] b.az)(hrun:∀e∈b.an,e.left=true→∃r,Rock.run b.bG e.m b.az=some r)(huk:∀x∈b.fg,x.ok=true)(hul:b.fg.length≤10)(hwl:b.bG.ar.length≤1000000)(hsl:b.mK.length≤1000000)(hd:yQ b w lv u price=(b',e))(he:e=0):
  lim T (.call false gh [.ref σ.length 6 0 0,.str nm,.aI 4 [.int .i64 w,.int .i64 lv,.int .i64 u,.int .i64 price]] (F::b.bw σ.length er::σ))=some (.val (.dK []) (F::b'.bw σ.length er::σ)):=by
 refine gF wi kR.eq_1 rfl (by simp) ?_;unfold yQ at hd;split at hd
 case isTrue=>cases hd;cases he
 rename_i c1;split at hd
 case isFalse=>cases hd;cases he
 rename_i c2;split at hd
 case isFalse=>cases hd;rename_i h;exact absurd he h
 rename_i c3;cases hd;have htl:b.bG.cq.length≤20:=by
  simp only[kM,af]at ht;have:=bf.1 ht.1;omega
 have c1a:cp b.an≠[]:=fun h=>c1 (.inl h)
 have c1b:b.az≠[]:=fun h=>c1 (.inr h)
 have q1:0<(cp b.an).length:=aL.2 c1a;have q2:0<b.az.length:=aL.2 c1b;have hLf:=fun S=>Et (σ:=σ) (b:=b) (er:=er) (S:=S) (by omega)
 simp only[Bk.bw,Bk.cells]at hLf;have hc2:=c2;simp only[Kg,af]at hc2;obtain⟨k1,k2,k3,k4⟩:=hc2;have i1:=bf.1 k1;have i2:=bf.1 k2;have i3:=bf.1 k3;have i4:=bf.1 k4;obtain⟨w,rfl⟩:∃n:Nat,w=n:=⟨w.toNat,by omega⟩;obtain⟨lv,rfl⟩:∃n:Nat,lv=n:=⟨lv.toNat,by omega⟩;obtain⟨u,rfl⟩:∃n:Nat,u=n:=⟨u.toNat,by omega⟩;simp only[Gn,aeV,Int.toNat_natCast]at c3 ⊢;have w1:IntKind.i64.wrap ((b.bG.ar.length:Int)-1)=b.bG.ar.length-1:=fT (by omega);have w2:IntKind.i64.wrap ((b.bG.cq.length:Int)-1)=b.bG.cq.length-1:=fT (by omega);have w3:IntKind.i64.wrap ((b.fg.length:Int)-1)=b.fg.length-1:=fT (by omega);have hL:=MS (σ:=σ) (F:=F) (er:=er) (ls:=cp b.an) (w:=w) (lv:=lv) (u:=u) (price:=price) ht (fun e he=>hok e (di.1 he).1) (fun e he=>hrun e (di.1 he).1 (di.1 he).2) c1b (by have:=jk (fun e:jb=>e.left) b.an;simp only[cp];omega) (by omega) (by omega) (by omega) huk (cp b.an).length 0 [] (by omega) rfl;rw[aP]at hL;simp[-length_flatMap,-map_take,Bk.bw,Bk.cells,hLf,q1,q2,cF,fj,w1,w2,w3,k1,k2,k3,k4];refine WL.to hL (by simp) (by simp[Bk.bw,Bk.cells]) ?_;intro x e σ' hq;simp only[Ei,if_pos c3,List.nil_append]at hq;obtain⟨rfl,g0,g7,g10,g11,rfl⟩:=hq;have hbs:∀x∈(cp b.an).map (fun e=>xG b w lv u e.m),0≤x∧x≤1000000000:=by
  intro x hx;simp only[bR]at hx;obtain⟨e,he,rfl⟩:=hx;exact agY (by omega) huk (vH c3 e he)
 have hwl2:((cp b.an).map (fun e=>xG b w lv u e.m)).length=(cp b.an).length:=by simp
 have hlm:(cp b.an).length≤40:=by have:=jk (fun e:jb=>e.left) b.an;simp only[cp];omega
 generalize hws:(cp b.an).map (fun e=>xG b w lv u e.m)=ws at *
 have hwne:ws≠[]:=by intro hh;rw[hh]at hwl2;simp at hwl2;omega
 obtain⟨⟨m1,m2⟩,m3,m4⟩:=avV (by omega) hbs;have hSp:=fun σ=>anj (σ:=σ) hwne (by omega)
 generalize hlo:LR ws=lo at *
 generalize hhi:LP ws=hi at *
 have p1:0≤lo*price:=ft m1 i4.1;have p2:lo*price≤1000000000*1000:=lT m2 i4.2 i4.1 (by omega);have p3:0≤hi*price:=ft m3 i4.1;have p4:hi*price≤1000000000*1000:=lT m4 i4.2 i4.1 (by omega);have w4:IntKind.i64.wrap (lo*price)=lo*price:=fT (by omega);have w5:IntKind.i64.wrap (hi*price)=hi*price:=fT (by omega);have hfr:∀S:SK,S.length=σ.length+1+1→cr 0 16 (.sl (σ.length+1+1) 0 ws.length 0 ws.length 1) ([.cells ws.length (ws.flatMap aS)]::S)=(.aI ws.length (ws.flatMap aS),[.dead]::S):=by
  intro S hS;have:=BB (f:=aS) (w:=1) (fun _=>rfl) (fun _=>by simp[D.clean]) (l:=ws) (j:=0) (v:=ws.length) (bs:=[Abs.aE.cells ws.length (ws.flatMap aS)]) (σ:=S) (by intro h;subst h;simp at hS) (by simp);rw[hS]at this;simpa using this
 have r2:(b.mK.length+1)*48≤room:=by unfold room;omega
 have r3:=agX b.mK;have r4:(b.mK.flatMap Sd.enc).take (b.mK.length*6)=b.mK.flatMap Sd.enc:=aj (by omega);simp[-length_flatMap,-map_take,g0,g7,g10,g11,hfr,hSp,Bk.bw,Bk.cells,w4,w5,r2,r3,r4,aeU,aY,hlo,hhi]
theorem SV{F:List Abs.aE}{b:Bk}{er:List Int}{nm:List UInt8}{w lv u price:Int}{b':Bk}{e:Int}(ht:cp b.an≠[]→kM b.bG.cq=true)(hml:b.an.length≤40)(hok:∀e∈b.an,Ok b.bG [e.m] b.az)(hrun:∀e∈b.an,e.left=true→∃r,Rock.run b.bG e.m b.az=some r)(huk:∀x∈b.fg,x.ok=true)(hul:b.fg.length≤10)(hwl:b.bG.ar.length≤1000000)(hsl:b.mK.length≤1000000)(hd:yQ b w lv u price=(b',e))(he:e≠0):
  lim T (.call false gh [.ref σ.length 6 0 0,.str nm,.aI 4 [.int .i64 w,.int .i64 lv,.int .i64 u,.int .i64 price]] (F::b.bw σ.length er::σ))=some (.fY (rf e) (F::b.bw σ.length er::σ)):=by
 refine eh wi kR.eq_1 rfl ?_;have hLf:=fun S=>Et (σ:=σ) (b:=b) (er:=er) (S:=S) (by omega)
 simp only[Bk.bw,Bk.cells]at hLf;unfold yQ at hd;split at hd
 case isTrue c1 =>
  cases hd;by_cases c1a:cp b.an=[]
  ·simp[-length_flatMap,-map_take,Bk.bw,Bk.cells,hLf,c1a,dF,D.clean,rf]
  ·have q1:0<(cp b.an).length:=aL.2 c1a;have c1b:b.az=[]:=c1.resolve_left c1a;simp[-length_flatMap,-map_take,Bk.bw,Bk.cells,hLf,q1,c1b,dF,D.clean,rf]
 rename_i c1;have c1a:cp b.an≠[]:=fun h=>c1 (.inl h)
 have c1b:b.az≠[]:=fun h=>c1 (.inr h)
 have ht:=ht c1a;have htl:b.bG.cq.length≤20:=by
  simp only[kM,af]at ht;have:=bf.1 ht.1;omega
 have q1:0<(cp b.an).length:=aL.2 c1a;have q2:0<b.az.length:=aL.2 c1b;have w1:IntKind.i64.wrap ((b.bG.ar.length:Int)-1)=b.bG.ar.length-1:=fT (by omega);have w2:IntKind.i64.wrap ((b.bG.cq.length:Int)-1)=b.bG.cq.length-1:=fT (by omega);have w3:IntKind.i64.wrap ((b.fg.length:Int)-1)=b.fg.length-1:=fT (by omega);split at hd
 case isFalse c2 =>
  cases hd;simp only[Kg]at c2;cases k1:ct w 0 ((b.bG.ar.length:Int)-1)
  ·simp[-length_flatMap,-map_take,Bk.bw,Bk.cells,hLf,q1,q2,cF,fj,w1,w2,w3,k1,dF,D.clean,rf]
  cases k2:ct lv 0 ((b.bG.cq.length:Int)-1)
  ·simp[-length_flatMap,-map_take,Bk.bw,Bk.cells,hLf,q1,q2,cF,fj,w1,w2,w3,k1,k2,dF,D.clean,rf]
  cases k3:ct u 0 ((b.fg.length:Int)-1)
  ·simp[-length_flatMap,-map_take,Bk.bw,Bk.cells,hLf,q1,q2,cF,fj,w1,w2,w3,k1,k2,k3,dF,D.clean,rf]
  cases k4:ct price 0 1000
  ·simp[-length_flatMap,-map_take,Bk.bw,Bk.cells,hLf,q1,q2,cF,fj,w1,w2,w3,k1,k2,k3,k4,dF,D.clean,rf]
  ·exact absurd (by simp[k1,k2,k3,k4]) c2
 rename_i c2;split at hd
 case isTrue=>cases hd;exact absurd rfl he
 rename_i c3;cases hd;have hc2:=c2;simp only[Kg,af]at hc2;obtain⟨k1,k2,k3,k4⟩:=hc2;have i1:=bf.1 k1;have i2:=bf.1 k2;have i3:=bf.1 k3;obtain⟨w,rfl⟩:∃n:Nat,w=n:=⟨w.toNat,by omega⟩;obtain⟨lv,rfl⟩:∃n:Nat,lv=n:=⟨lv.toNat,by omega⟩;obtain⟨u,rfl⟩:∃n:Nat,u=n:=⟨u.toNat,by omega⟩;simp only[Gn,Int.toNat_natCast]at c3 ⊢;have hL:=MS (σ:=σ) (F:=F) (er:=er) (ls:=cp b.an) (w:=w) (lv:=lv) (u:=u) (price:=price) ht (fun e he=>hok e (di.1 he).1) (fun e he=>hrun e (di.1 he).1 (di.1 he).2) c1b (by have:=jk (fun e:jb=>e.left) b.an;simp only[cp];omega) (by omega) (by omega) (by omega) huk (cp b.an).length 0 [] (by omega) rfl;rw[aP]at hL;simp[-length_flatMap,-map_take,Bk.bw,Bk.cells,hLf,q1,q2,cF,fj,w1,w2,w3,k1,k2,k3,k4];refine WL.to hL (by simp) (by simp[Bk.bw,Bk.cells]) ?_;intro x e σ' hq;simp only[Ei,if_neg c3]at hq;obtain⟨rfl,s,rfl⟩:=hq;simp[Bk.bw,Bk.cells,D.clean,rf]
def Ry:List Int→List Rw
 |a::b::c::d::e::l=>⟨a,b,c,d,e⟩::Ry l
 |_=>[]
def Rx:List Int→List Trem.wC
 |a::b::c::d::l=>⟨⟨a,b,c⟩,d⟩::Rx l
 |_=>[]
def Dj:List Int→List (Int×Int)
 |a::b::l=>(a,b)::Dj l
 |_=>[]
theorem P4:∀(m:Nat) {l:List Int},l.length=m*5→(Ry l).flatMap Rw.enc=l.flatMap aS∧(Ry l).length=m
 |0,l,h=>by
  have:l=[]:=bM.1 (by omega);subst this;exact⟨rfl,rfl⟩
 |m+1,l,h=>by
  match l,h with
  |a::b::c::d::e::l,h =>
   have ih:=P4 m (l:=l) (by simp at h;omega);simp[Ry,ih.1,ih.2,aS]
  |[],h=>simp at h
  |[_],h=>simp at h;omega
  |[_,_],h=>simp at h;omega
  |[_,_,_],h=>simp at h;omega
  |[_,_,_,_],h=>simp at h;omega
theorem P3:∀(m:Nat) {l:List Int},l.length=m*4→(Rx l).flatMap Trem.wC.enc=l.flatMap aS∧(Rx l).length=m
 |0,l,h=>by
  have:l=[]:=bM.1 (by omega);subst this;exact⟨rfl,rfl⟩
 |m+1,l,h=>by
  match l,h with
  |a::b::c::d::l,h =>
   have ih:=P3 m (l:=l) (by simp at h;omega);simp[Rx,ih.1,ih.2,aS]
  |[],h=>simp at h
  |[_],h=>simp at h;omega
  |[_,_],h=>simp at h;omega
  |[_,_,_],h=>simp at h;omega
theorem Gl:∀(m:Nat) {l:List Int},l.length=m*2→(Dj l).flatMap tG=l.flatMap aS∧(Dj l).length=m
 |0,l,h=>by
  have:l=[]:=bM.1 (by omega);subst this;exact⟨rfl,rfl⟩
 |m+1,l,h=>by
  match l,h with
  |a::b::l,h =>
   have ih:=Gl m (l:=l) (by simp at h;omega);simp[Dj,ih.1,ih.2,aS,tG]
  |[],h=>simp at h
  |[_],h=>simp at h;omega
def Mq(p:Int×Int):Prt:=⟨p.1,p.2⟩
theorem agK(l:List (Int×Int)):(l.map Mq).flatMap Prt.enc=l.flatMap tG:=by
 induction l with
 |nil=>rfl
 |cons p l ih=>simp only[aO,aW,ih];rfl
def aeM:List Int→Trem.eE
 |[x0,x1,x2,x3,x4,x5,x6,x7,x8,x9]=>⟨⟨x0,x1,x2⟩,⟨x3,x4,x5⟩,x6,x7,x8,x9⟩
 |_=>⟨⟨0,0,0⟩,⟨0,0,0⟩,0,0,0,0⟩
def vW(b:Bk)(k:Nat)(nm:List UInt8)(l:List Int):Bk×Int :=
 match k with
 |0=>match l with
  |[x,y,z,k]=>xV b x y z k
  |_=>(b,4)
 |1=>xY b (Ry l)
 |2=>match l with
  |[x,y,z]=>Fz b x y z
  |_=>(b,4)
 |3=>match l with
  |[x,y,z]=>yS b x y z
  |_=>(b,4)
 |4=>xW b ⟨nm,l⟩
 |5=>match l with
  |k::lo::hi::r=>FA b (lM nm k lo hi (Dj r))
  |_=>(b,4)
 |6=>Bl b (aeM l) (aeM l).Q9
 |7=>match l with
  |[x,y,z]=>if Trem.rB x y z=true then(LF b x y z,0)else(b,1)
  |_=>(b,4)
 |8=>xX b (Rx l)
 |9=>yR b l
 |10=>match l with
  |[w,i,lo,hi]=>yP b ⟨b.az.length,w,i,lo,hi⟩
  |_=>(b,4)
 |11=>match l with
  |i::r=>Bm b ⟨i,(Dj r).map Mq⟩
  |_=>(b,4)
 |12=>match l with
  |[w,lv,u,p]=>yQ b w lv u p
  |_=>(b,4)
 |_=>(b,4)
def sd(b:Bk)(n:Int)(s:List UInt8):Bk×Int:=match parse s with
 |some (w,nm,l)=>vW {b with at_:=n } w.k nm l
 |none=>(b,4)
structure Kv(n:Nat)(b:Bk):Prop where
 cq:b.bG.cq=[]∨kM b.bG.cq=true
 ready:b.ready=true→b.bG.valid=true
 ar:b.ready=false→b.bG.ar=[]
 ms:b.an≠[]→b.ready=true
 ml:b.an.length≤40
 wl:b.jt.length=b.an.length
 fit:∀e∈b.an,Bd b.bG e.m=true∧e.m.name.length≤1000000∧e.m.bh.length≤1000000
 pm:b.az≠[]→b.an≠[]
 pl:wx b.bG b.az=0
 AG:∀e∈b.an,e.left=true→∃r,Rock.run b.bG e.m b.az=some r
 rules:b.rules.length≤20
 zl:b.zl.length≤200
 Mg:∀e∈b.zl,e.ok=true
 keep:Trem.rB b.k0 b.k1 b.k2=true
 fg:b.fg.length≤10
 uok:∀u∈b.fg,u.ok=true
 mK:b.mK.length≤n
theorem ahf{t:List Rw}(h:t=[]∨kM t=true):t.length≤20:=by
 rcases h with rfl | h
 ·simp
 ·simp only[kM,af]at h;have:=bf.1 h.1;omega
theorem BL{t:List Rw}(h:kM t=true):t≠[]:=by
 intro hh;subst hh;simp[kM,ct]at h
theorem BF{s:List UInt8}{w:Wd}{nm:List UInt8}{l:List Int}(h:parse s=some (w,nm,l)):(∃a,xK a=some w)∧ES w l.length=true∧nm.length≤s.length∧l.length≤s.length+1:=by
 have hlen:=Ar 32 s;have hle:=Ej 32 s;unfold parse at h;cases hsp:de 32 s with
 |nil=>exact absurd hsp (wS 32 s)
 |cons a all =>
 rw[hsp]at h hlen hle;simp only[aJ]at hlen;simp only at h;cases hw:xK a with
 |none=>rw[hw]at h;cases h
 |some w0 =>
 rw[hw]at h;simp only at h;have key:∀nm0 (l0:List (List UInt8)),uo w0 nm0 l0=some (w,nm,l)→w0=w∧nm0=nm∧ES w l.length=true∧l.length=l0.length:=by
  intro nm0 l0 hp;unfold uo at hp;cases hm:pJ l0 with
  |none=>rw[hm]at hp;cases hp
  |some ns =>
   rw[hm]at hp;simp only[aC,ae,ak]at hp;obtain⟨hf,rfl,rfl,rfl⟩:=hp;exact⟨rfl,rfl,hf,zx hm⟩
 split at h
 ·cases all with
  |nil=>cases h
  |cons n r =>
   obtain⟨rfl,rfl,h3,h4⟩:=key n r h;refine⟨⟨a,hw⟩,h3,hle n (by simp),?_⟩;simp at hlen;omega
 ·obtain⟨rfl,rfl,h3,h4⟩:=key [] all h;exact⟨⟨a,hw⟩,h3,by simp,by omega⟩
def doR(F:List Abs.aE)(b:Bk)(er:List Int)(σ:SK)(r:Bk×Int):R:=if r.2=0 then .val (.dK []) (F::r.1.bw σ.length er::σ)else .fY (rf r.2) (F::b.bw σ.length er::σ)
theorem uY{F:List Abs.aE}{b:Bk}{er:List Int}{r:Bk×Int}{q:Q}(h1:∀b' e,r=(b',e)→e=0→lim T q=some (.val (.dK []) (F::b'.bw σ.length er::σ)))(h2:∀b' e,r=(b',e)→e≠0→lim T q=some (.fY (rf e) (F::b.bw σ.length er::σ))):
  lim T q=some (doR F b er σ r):=by
 obtain⟨b',e⟩:=r;unfold doR;by_cases he:e=0
 ·rw[if_pos he];exact h1 b' e rfl he
 ·rw[if_neg he];exact h2 b' e rfl he
theorem yW{l:List Int}{n:Nat}(h:l.length=n+1):∃a r,l=a::r∧r.length=n:=by
 cases l with
 |nil=>simp at h
 |cons a r=>exact⟨a,r,rfl,by simpa using h⟩
theorem aeh{l:List Int}(h:l.length=3):∃a0 a1 a2,l=[a0,a1,a2]:=by
 obtain⟨a0,r0,e0,h0⟩:=yW (n:=2) h;obtain⟨a1,r1,e1,h1⟩:=yW (n:=1) h0;obtain⟨a2,r2,e2,h2⟩:=yW (n:=0) h1;have e:=bM.1 h2;exact⟨a0,a1,a2,by rw[e0,e1,e2,e]⟩
theorem aei{l:List Int}(h:l.length=4):∃a0 a1 a2 a3,l=[a0,a1,a2,a3]:=by
 obtain⟨a0,r0,e0,h0⟩:=yW (n:=3) h;obtain⟨a1,r1,e1,h1⟩:=yW (n:=2) h0;obtain⟨a2,r2,e2,h2⟩:=yW (n:=1) h1;obtain⟨a3,r3,e3,h3⟩:=yW (n:=0) h2;have e:=bM.1 h3;exact⟨a0,a1,a2,a3,by rw[e0,e1,e2,e3,e]⟩
theorem arB{l:List Int}(h:l.length=10):∃a0 a1 a2 a3 a4 a5 a6 a7 a8 a9,l=[a0,a1,a2,a3,a4,a5,a6,a7,a8,a9]:=by
 obtain⟨a0,r0,e0,h0⟩:=yW (n:=9) h;obtain⟨a1,r1,e1,h1⟩:=yW (n:=8) h0;obtain⟨a2,r2,e2,h2⟩:=yW (n:=7) h1;obtain⟨a3,r3,e3,h3⟩:=yW (n:=6) h2;obtain⟨a4,r4,e4,h4⟩:=yW (n:=5) h3;obtain⟨a5,r5,e5,h5⟩:=yW (n:=4) h4;obtain⟨a6,r6,e6,h6⟩:=yW (n:=3) h5;obtain⟨a7,r7,e7,h7⟩:=yW (n:=2) h6;obtain⟨a8,r8,e8,h8⟩:=yW (n:=1) h7;obtain⟨a9,r9,e9,h9⟩:=yW (n:=0) h8;have e:=bM.1 h9;exact⟨a0,a1,a2,a3,a4,a5,a6,a7,a8,a9,by rw[e0,e1,e2,e3,e4,e5,e6,e7,e8,e9,e]⟩
theorem Dg{w:Wd}{n:Nat}(h:ES w n=true)(hs:w.step=0):(n:Int)=w.least:=by
 simp only[ES,bX,af,av]at h;omega
theorem DW{w:Wd}{n:Nat}(h:ES w n=true)(hs:0<w.step)(hl:0≤w.least):w.least≤n∧((n:Int)-w.least)%w.step=0:=by
 simp only[ES,bX,af,av]at h;rcases h with h | ⟨h1,h2,h3⟩
 ·refine⟨by omega,?_⟩;rw[h];simp
 ·refine⟨by omega,?_⟩;rwa[Int.tmod_eq_emod_of_nonneg (by omega)]at h3
theorem Ok.one{b:cz}{m:cI}{az:List (List Int)}(hb:b.valid=true)(hf:Bd b m=true)(hp:wx b az=0)(hn:m.name.length≤1000000000):Ok b [m] az:=by
 have hbv:=Bv.of hb;have hfit:fits b m=true:=by simp only[Bd,af]at hf;exact hf.2
 have hfv:=Fv.of hf;have hm:b.f.an [m]=0:=by
  have h:=hfit;simp only[fits,af,av]at h;have h1:=h.1;unfold gV at h1;rw[if_pos hbv.fv]at h1;exact h1
 obtain⟨p1,p2⟩:=xB hp;exact⟨hbv,hb,by simp,hm,by simpa using hfit,by simpa using hfv,by intro x hx;simp at hx;subst hx;exact⟨hn,hfv.toMv.le.2⟩,hp,p1,p2⟩
theorem Ht{b:cz}{m:cI}(hb:b.valid=true)(hf:Bd b m=true):b.f.model m=0:=by
 have hfit:fits b m=true:=by simp only[Bd,af]at hf;exact hf.2
 rw[PT (Bv.of hb),af,av]at hfit;exact hfit.1
theorem axY{F:List Abs.aE}{b:Bk}{er:List Int}{s:List UInt8}{w:Wd}{nm:List UInt8}{l:List Int}{n:Nat}(hK:Kv n b)(hn:n≤1000000)(hp:parse s=some (w,nm,l))(hs:s.length≤4000):
  lim T (.call false ((I0[w.k]?).getD 0) [.ref σ.length 6 0 0,.str nm,.aI l.length (l.flatMap aS)] (F::b.bw σ.length er::σ))=some (doR F b er σ (vW b w.k nm l)):=by
 obtain⟨⟨a,ha⟩,hfit,hnm,hll⟩:=BF hp;have htl:=ahf hK.cq;have hv:b.ready=true→Bv b.bG:=fun h=>Bv.of (hK.ready h)
 have hrt:b.ready=true→kM b.bG.cq=true:=fun h=>(hv h).cq
 have hwl:b.bG.ar.length≤8:=by
  cases hr:b.ready with
  |true=>exact(hv hr).ar
  |false=>rw[hK.ar hr];simp
 have hmr:b.an≠[]→kM b.bG.cq=true:=fun h=>hrt (hK.ms h)
 have hlm:cp b.an≠[]→b.an≠[]:=fun h hh=>h (by rw[hh];rfl)
 have hz:Sz b:=⟨by omega,by omega,fun e he=>⟨by have:=(hK.fit e he).2.1;omega,by have:=(hK.fit e he).2.2;omega⟩⟩;have hplz:=xB hK.pl;have hbv:b.an≠[]→b.bG.valid=true:=fun h=>hK.ready (hK.ms h)
 have hne:∀e∈b.an,b.an≠[]:=fun e he hh=>by rw[hh]at he;cases he
 have hok:∀e∈b.an,Ok b.bG [e.m] b.az:=fun e he=>Ok.one (hbv (hne e he)) (hK.fit e he).1 hK.pl (hz.ms e he).1
 have hfm:∀e∈b.an,b.bG.f.model e.m=0:=fun e he=>Ht (hbv (hne e he)) (hK.fit e he).1
 have hsp:∀e∈b.zl,e.sp.length≤1000000:=fun e he=>by
  have:=hK.Mg e he;simp only[Trem.Ev.ok,af]at this;have:=Trem.bf.1 this.2.1;omega
 have h1:=BX ha;simp only[oN,ba,ak,List.not_mem_nil,or_false]at h1;rcases h1 with⟨_,rfl⟩ | ⟨_,rfl⟩ | ⟨_,rfl⟩ | ⟨_,rfl⟩ | ⟨_,rfl⟩ | ⟨_,rfl⟩ | ⟨_,rfl⟩ | ⟨_,rfl⟩ | ⟨_,rfl⟩ | ⟨_,rfl⟩ | ⟨_,rfl⟩ | ⟨_,rfl⟩ | ⟨_,rfl⟩
 ·have hl:l.length=4:=by
   have h:(l.length:Int)=4:=Dg hfit rfl;omega
  obtain⟨x,y,z,k,rfl⟩:=aei hl;exact uY (fun b' e hd he=>afx hd he) (fun b' e hd he=>QM hd he)
 ·have hl:=(DW hfit (by decide) (by decide)).2;simp only[Int.sub_zero]at hl;obtain⟨h5,h6⟩:=P4 (l.length / 5) (l:=l) (by omega);have hlen:(Ry l).length*5=l.length:=by omega
  rw[← h5,← hlen];exact uY (fun b' e hd he=>afQ (by omega) hd he) (fun b' e hd he=>QX (by omega) hd he)
 ·have hl:l.length=3:=by
   have h:(l.length:Int)=3:=Dg hfit rfl;omega
  obtain⟨x,y,z,rfl⟩:=aeh hl;exact uY (fun b' e hd he=>am7 (by omega) (by omega) hd he) (fun b' e hd he=>Ss (by omega) (by omega) hd he)
 ·have hl:l.length=3:=by
   have h:(l.length:Int)=3:=Dg hfit rfl;omega
  obtain⟨x,y,z,rfl⟩:=aeh hl;refine uY (fun b' e hd he=>?_) (fun b' e hd he=>S0 (fun h=>BL (hrt h)) (by omega) (by omega) hd he);have hr:b.ready=true:=by
   have hd2:yS b x y z=(b',e):=hd;unfold yS at hd2;split at hd2
   ·rename_i h;exact h.1
   ·cases hd2;cases he
  exact anq (BL (hrt hr)) (by omega) (by omega) hd he
 ·exact uY (fun b' e hd he=>SF (m:=⟨nm,l⟩) (by omega) (by omega) (by simp;omega) (by simp;omega) hK.wl hd he) (fun b' e hd he=>QP (m:=⟨nm,l⟩) (by omega) (by omega) (by simp;omega) (by simp;omega) hK.ml hd he)
 ·obtain⟨hl1,hl2⟩:=DW hfit (by decide) (by decide);simp only at hl1 hl2;obtain⟨k,l,rfl,hl⟩:=yW (n:=l.length-1) (l:=l) (by omega);simp only[aJ]at hl1 hl2 hll;obtain⟨lo,l,rfl,hl⟩:=yW (n:=l.length-1) (l:=l) (by omega);simp only[aJ]at hl1 hl2 hll;obtain⟨hi,l,rfl,hl⟩:=yW (n:=l.length-1) (l:=l) (by omega);simp only[aJ]at hl1 hl2 hll;obtain⟨h5,h6⟩:=Gl (l.length / 2) (l:=l) (by omega);have hlen:(Dj l).length*2+3=l.length+1+1+1:=by omega
  simp only[aW,aJ,aS,dH];rw[← h5,← hlen];refine uY (fun b' e hd he=>anf (by omega) (by omega) hK.wl hK.ml (fun e he=>⟨hfm e he,hz.ms e he⟩) hd he) (fun b' e hd he=>afE (by omega) (by omega) hd he)
 ·have hl:l.length=10:=by
   have h:(l.length:Int)=10:=Dg hfit rfl;omega
  obtain⟨x0,x1,x2,x3,x4,x5,x6,x7,x8,x9,rfl⟩:=arB hl;exact uY (fun b' e hd he=>anh hd he) (fun b' e hd he=>SQ hd he)
 ·have hl:l.length=3:=by
   have h:(l.length:Int)=3:=Dg hfit rfl;omega
  obtain⟨x,y,z,rfl⟩:=aeh hl;refine uY (fun b' e hd he=>?_) (fun b' e hd he=>?_)
  ·have hd2:(if Trem.rB x y z=true then(LF b x y z,0)else(b,1))=(b',e):=hd;split at hd2
   ·rename_i h;cases hd2;exact anb h
   ·cases hd2;cases he
  ·have hd2:(if Trem.rB x y z=true then(LF b x y z,0)else(b,1))=(b',e):=hd;split at hd2
   ·cases hd2;exact absurd rfl he
   ·rename_i h;cases hd2;exact SC (by simpa using h)
 ·have hl:=(DW hfit (by decide) (by decide)).2;simp only[Int.sub_zero]at hl;obtain⟨h5,h6⟩:=P3 (l.length / 4) (l:=l) (by omega);have hlen:(Rx l).length*4=l.length:=by omega
  rw[← h5,← hlen];exact uY (fun b' e hd he=>afH (by omega) hd he) (fun b' e hd he=>QS (by omega) hd he)
 ·have hpl:∀r∈b.az,r.length≤1000000000:=fun r hr=>by have:=(hplz.2 r hr).len;omega
  refine uY (fun b' e hd he=>?_) (fun b' e hd he=>SW (fun h=>BL (hmr (hlm h))) hz (by omega) hK.ml (by have:=hK.rules;omega) (by have:=hK.zl;omega) hsp hK.keep hpl hd he);have hr:cp b.an≠[]:=by
   have hd2:yR b l=(b',e):=hd;unfold yR at hd2;split at hd2
   ·cases hd2;cases he
   ·rename_i h;exact h
  exact afR (BL (hmr (hlm hr))) hz (by omega) hK.ml (by have:=hK.rules;omega) (by have:=hK.zl;omega) hsp hK.keep hpl hd he
 ·have hl:l.length=4:=by
   have h:(l.length:Int)=4:=Dg hfit rfl;omega
  obtain⟨w,i,lo,hi,rfl⟩:=aei hl;refine uY (fun b' e hd he=>?_) (fun b' e hd he=>SM (fun h=>BL (hmr (hlm h))) hK.ml hok hd he);have hr:cp b.an≠[]:=by
   have hd2:yP b ⟨b.az.length,w,i,lo,hi⟩=(b',e):=hd;unfold yP at hd2;split at hd2
   ·cases hd2;cases he
   ·rename_i h;exact h
  exact afL (BL (hmr (hlm hr))) hK.wl hK.ml hok hK.AG hd he
 ·obtain⟨hl1,hl2⟩:=DW hfit (by decide) (by decide);simp only at hl1 hl2;obtain⟨i,l,rfl,hl⟩:=yW (n:=l.length-1) (l:=l) (by omega);simp only[aJ]at hl1 hl2 hll;obtain⟨h5,h6⟩:=Gl (l.length / 2) (l:=l) (by omega);have hlen:((Dj l).map Mq).length*2+1=l.length+1:=by simp;omega
  simp only[aW,aJ,aS,dH];rw[← h5,← hlen,← agK];exact uY (fun b' e hd he=>anm (u:=⟨i,(Dj l).map Mq⟩) (by simp;omega) hd he) (fun b' e hd he=>SX (u:=⟨i,(Dj l).map Mq⟩) (by simp;omega) hd he)
 ·have hl:l.length=4:=by
   have h:(l.length:Int)=4:=Dg hfit rfl;omega
  obtain⟨w,i,lo,hi,rfl⟩:=aei hl;refine uY (fun b' e hd he=>?_) (fun b' e hd he=>SV (fun h=>hmr (hlm h)) hK.ml hok hK.AG hK.uok hK.fg (by omega) (by have:=hK.mK;omega) hd he);have hr:cp b.an≠[]:=by
   have hd2:yQ b w i lo hi=(b',e):=hd;unfold yQ at hd2;split at hd2
   ·cases hd2;cases he
   ·rename_i h;exact fun hh=>h (.inl hh)
  exact afP (hmr (hlm hr)) hK.ml hok hK.AG hK.uok hK.fg (by omega) (by have:=hK.mK;omega) hd he
end Go.Proofs.YtfgljaglidhjiaaGreatDoor
namespace Go.Proofs.YtfgljaglidhjiaaGreatDoor
open List(length_flatMap map_take)
open Go Go.Abs Go.Rock Go.Book
theorem Kv.le{n m:Nat}{b:Bk}(h:Kv n b)(hn:n≤m):Kv m b:={h with mK:=jP h.mK hn }
theorem Kv.zero:Kv 0 nN:=by
 refine⟨.inl rfl,by simp[nN],fun _=>rfl,by simp[nN],by simp[nN],rfl,by simp[nN],by simp[nN],?_,by simp[nN],by simp[nN],by simp[nN],by simp[nN],by decide,by simp[nN],by simp[nN],by simp[nN]⟩;simp[nN,wx,db]
theorem B9{b:cz}:wx b []=0:=by simp[wx,db]
theorem JC{b:cz}(h:b.valid=true):b.cq≠[]∧¬((b.f.x=0∧b.f.y=0)∧b.f.z=0∧b.f.k=0):=by
 have hv:=Bv.of h;refine⟨BL hv.cq,fun hh=>?_⟩;have:=hv.x;omega
theorem Kv.JU{n:Nat}{b:Bk}(h:Kv n b)(hm:b.an=[]):b.az=[]:=by
 by_cases hp:b.az=[]
 ·exact hp
 ·exact absurd hm (h.pm hp)
theorem Kv.Hv{n:Nat}{b:Bk}(h:Kv n b)(hr:b.ready=false):b.an=[]:=by
 by_cases hp:b.an=[]
 ·exact hp
 ·rw[h.ms hp]at hr;cases hr
theorem Kv.anL{n:Nat}{b:Bk}(h:Kv n b)(k:Int):Kv n {b with at_:=k }:={h with }
theorem agW{b:cz}{m:cI}:∃r,Rock.run b m []=some r:=⟨_,rfl⟩
theorem QD{b:Bk}{lo hi:Int}{val:cI→Int}{x:jb}(h:x∈(mE b lo hi val).an):∃e∈b.an,x.m=e.m∧(x.left=true→e.left=true):=by
 simp only[mE,Bk.jX,List.mem_mapIdx]at h;obtain⟨i,hi,rfl⟩:=h;refine⟨b.an[i],List.getElem_mem hi,?_⟩;rw[if_pos hi];unfold Go.Book.dh;split<;>simp
theorem Kv.HK{n:Nat}{b:Bk}(h:Kv n b){lo hi:Int}{val:cI→Int}:Kv n (mE b lo hi val):=by
 have hl:(mE b lo hi val).an.length=b.an.length:=Ek;have hn:(mE b lo hi val).an=[]↔b.an=[]:=by rw[← bM,hl,bM]
 refine {cq:=h.cq,ready:=h.ready,ar:=h.ar,ms:=fun hh=>h.ms (fun h2=>hh (hn.2 h2)),ml:=by rw[hl];exact h.ml,wl:=by rw[hl,← h.wl];exact El,fit:=fun x hx=>?_,pm:=fun hh h2=>h.pm hh (hn.1 h2),pl:=h.pl,AG:=fun x hx hxl=>?_,rules:=h.rules,zl:=h.zl,Mg:=h.Mg,keep:=h.keep,fg:=h.fg,uok:=h.uok,mK:=h.mK }
 ·obtain⟨e,he,h1,_⟩:=QD hx;rw[h1];exact h.fit e he
 ·obtain⟨e,he,h1,h2⟩:=QD hx;rw[h1];exact h.AG e he (h2 hxl)
theorem LL{l:List jb}{e:jb}(h:e∈cp l):e∈l∧e.left=true:=di.1 h
theorem Kv.word{n:Nat}{b:Bk}(h:Kv n b){s:List UInt8}{w:Wd}{nm:List UInt8}{l:List Int}(hp:parse s=some (w,nm,l))(hs:s.length≤4000):Kv (n+1) (vW b w.k nm l).1:=by
 obtain⟨_,_,hnm,hll⟩:=BF hp;have h1:=h.le (Nat.le_succ n);generalize w.k=k;unfold vW;split
 ·
  split
  ·unfold xV;split
   ·rename_i hz;split
    ·have hr:b.ready=false:=by
      cases hr:b.ready with
      |false=>rfl
      |true=>exact absurd hz (JC (h.ready hr)).2
     have hm:=h.Hv hr;have hpl:=h.JU hm;have hno:∀e,e∈b.an→False:=by rw[hm];simp
     exact {h1 with cq:=h.cq,ready:=fun hh=>(by rw[show b.ready=true from hh]at hr;cases hr),ar:=h.ar,fit:=fun e he=>(hno e he).elim,pl:=by simp only[hpl];exact B9,AG:=fun e he=>(hno e he).elim }
    ·exact h1
   ·exact h1
  ·exact h1
 ·
  unfold xY;split
  ·rename_i hz;split
   ·rename_i ht;have hr:b.ready=false:=by
     cases hr:b.ready with
     |false=>rfl
     |true=>exact absurd hz (JC (h.ready hr)).1
    have hm:=h.Hv hr;have hpl:=h.JU hm;have hno:∀e,e∈b.an→False:=by rw[hm];simp
    exact {h1 with cq:=.inr ht,ready:=fun hh=>(by rw[show b.ready=true from hh]at hr;cases hr),ar:=h.ar,fit:=fun e he=>(hno e he).elim,pl:=by simp only[NL,hpl];exact B9,AG:=fun e he=>(hno e he).elim }
   ·exact h1
  ·exact h1
 ·
  split
  ·rename_i x y z;unfold Fz;split
   ·exact h1
   ·rename_i hz;split
    ·rename_i hv;have hr:b.ready=false:=by
      cases hr:b.ready with
      |false=>rfl
      |true=>exact absurd (.inr (.inr hr)) hz
     have hm:=h.Hv hr;have hpl:=h.JU hm;have hno:∀e,e∈b.an→False:=by rw[hm];simp
     exact {h1 with cq:=h.cq,ready:=fun _=>hv,ar:=fun hh=>(by cases hh),ms:=fun _=>rfl,fit:=fun e he=>(hno e he).elim,pl:=by simp only[JB,hpl];exact B9,AG:=fun e he=>(hno e he).elim }
    ·exact h1
  ·exact h1
 ·
  split
  ·rename_i x y z;unfold yS;split
   ·rename_i hz;obtain⟨hr,hm⟩:=hz;split
    ·rename_i hv;have hpl:=h.JU hm;have hno:∀e,e∈b.an→False:=by rw[hm];simp
     exact {h1 with cq:=h.cq,ready:=fun _=>hv,ar:=fun hh=>(by rw[show b.ready=false from hh]at hr;cases hr),fit:=fun e he=>(hno e he).elim,pl:=by simp only[wz,hpl];exact B9,AG:=fun e he=>(hno e he).elim }
    ·exact h1
   ·exact h1
  ·exact h1
 ·
  unfold xW;split
  ·rename_i hz;obtain⟨hr,hpl⟩:=hz;split
   ·exact h1
   ·split
    ·rename_i hml;split
     ·rename_i hb;refine {h1 with ms:=fun _=>hr,ml:=by simp[E1];omega,wl:=by simp[E1,h.wl],fit:=fun e he=>?_,pm:=fun hh=>absurd hpl hh,AG:=fun e he hl=>?_ }
      ·simp only[E1,bx,List.mem_singleton]at he;rcases he with he | rfl
       ·exact h.fit e he
       ·exact⟨hb,by simp;omega,by simp;omega⟩
      ·simp only[E1];rw[hpl];exact agW
     ·exact h1
    ·exact h1
  ·exact h1
 ·
  split
  ·unfold FA;split
   ·exact h1
   ·split
    ·exact h1.HK
    ·exact h1
  ·exact h1
 ·
  unfold Bl;split
  ·split
   ·split
    ·rename_i hl _ _;exact {h1 with rules:=by simp;omega }
    ·exact h1
   ·exact h1
  ·exact h1
 ·
  split
  ·split
   ·rename_i hk;exact {h1 with keep:=hk }
   ·exact h1
  ·exact h1
 ·
  unfold xX;split
  ·rename_i hl;split
   ·rename_i ho;refine {h1 with zl:=by simp[J4];omega,Mg:=fun e he=>?_ };simp only[J4,bx,List.mem_singleton]at he;rcases he with he | rfl
    ·exact h.Mg e he
    ·exact ho
   ·exact h1
  ·exact h1
 ·
  unfold yR;split
  ·exact h1
  ·rename_i hl;split
   ·split
    ·split
     ·split
      ·rename_i hf;obtain⟨e0,he0⟩:=List.exists_mem_of_ne_nil _ hl;have key:∀e∈cp b.an,Bd b.bG e.m=true∧wx b.bG (vO b l)=0∧∃r,Rock.run b.bG e.m (vO b l)=some r:=by
        intro e he;have hz:=vH hf e he;have hb:=(h.fit e (LL he).1).1;simp only[ur,hb,if_true]at hz;split at hz
        ·rename_i hq;cases hr:Rock.run b.bG e.m (vO b l)with
         |none=>rw[hr]at hz;cases hz
         |some r=>exact⟨hb,hq,r,rfl⟩
        ·rename_i hq;exact absurd hz hq
       refine {h1 with pm:=fun _ hh=>?_,pl:=(key e0 he0).2.1,AG:=fun e he hel=>(key e (di.2 ⟨he,hel⟩)).2.2 };have:=(LL he0).1;rw[show b.an=[]from hh]at this;cases this
      ·exact h1
     ·exact h1
    ·exact h1
   ·exact h1
 ·
  split
  ·unfold yP;split
   ·exact h1
   ·split
    ·split
     ·exact h1.HK
     ·exact h1
    ·exact h1
  ·exact h1
 ·
  split
  ·unfold Bm;split
   ·rename_i hl;split
    ·rename_i ho;refine {h1 with fg:=by simp[QF];omega,uok:=fun u hu=>?_ };simp only[QF,bx,List.mem_singleton]at hu;rcases hu with hu | rfl
     ·exact h.uok u hu
     ·exact ho
    ·exact h1
   ·exact h1
  ·exact h1
 ·
  split
  ·unfold yQ;split
   ·exact h1
   ·split
    ·split
     ·exact {h1 with mK:=by have:=h.mK;simp[aeU];omega }
     ·exact h1
    ·exact h1
  ·exact h1
 ·exact h1
theorem Kv.line{n:Nat}{b:Bk}(h:Kv n b){s:List UInt8}(hs:s.length≤4000){k:Int}:Kv (n+1) (sd b k s).1:=by
 unfold sd;split
 ·rename_i w nm l hp;exact(h.anL k).word hp hs
 ·exact h.le (Nat.le_succ n)
end Go.Proofs.YtfgljaglidhjiaaGreatDoor
namespace Go.Abs
open List(length_flatMap map_take)
variable {T:yN}
theorem K0{f:Nat}{fn:Fn}{args:List D}{σ σ':SK}{d:D}{np:Nat}{res:List Dz}{body A q:cH}{fo:bK}{bs:List bK}(hT:T f=some fn)(hf:fn=⟨np,res,body⟩)(hl:args.length=np)(hs:jL body=some (A,fo,bs,q))(hlen:σ'.length=σ.length)
  (h:WC (lim T) A (nD 0 args) ([]::σ) (Kn T fo bs q σ' res d)):
  lim T (.call false f args σ)=some (.val d σ'):=by
 subst hf;obtain⟨x,e1,σ1,h1,rfl,x2,e2,σ2,h2,th,h3,σ3,h4,ds,h5,s,h6⟩:=h;rw[hlen]at h6;refine hJ ?_;have hn:aZ (lim T) body (nD 0 args) ([]::σ)=none:=yw hs h1;simp only[dr,hT,if_pos hl,aw,if_false,hn,hs,zi,h1,h2];have h4':∃dv,rm (lim T) (bj e1 fo) (bs.map (bj e1)) th σ2=some (.val dv σ3):=by
  unfold vV at h4;split at h4
  ·rename_i h7;cases h4;exact⟨_,h7⟩
  ·cases h4
 obtain⟨dv,h4'⟩:=h4';cases x2 with
 |exit i=>cases h3
 |normal=>cases h3;simp only[zk,h4',uX,leave,h5,h6]
 |ret=>cases h3;simp only[zk,h4',uX,leave,h5,h6]
 |fY d=>cases h3;simp only[zk,h4',uX,leave,h5,h6]
end Go.Abs
namespace Go.Proofs.YtfgljaglidhjiaaGreatDoor
open List(length_flatMap map_take)
open Go Go.Abs Go.Rock Go.Book
variable {σ:SK}
theorem af4{c:List D}:lim T (.xU cZ [.ref σ.length 0 0 0] none ([.cells 0 c]::σ))=some (.val (.dK []) ([.cells 0 c]::σ)):=by
 refine Bj uI jm.eq_1 rfl (by simp[-length_flatMap,-map_take,sf];exact⟨rfl,rfl⟩) ?_;simp[-length_flatMap,-map_take]
theorem Ob{e:Int}:lim T (.xU cZ [.ref σ.length 0 0 0] (some (rf e)) ([.cells 0 [.int .i64 0]]::σ))=some (.val (.dK []) ([.cells 0 [.int .i64 e]]::σ)):=by
 refine Bj uI jm.eq_1 rfl (by simp[-length_flatMap,-map_take,sf];exact⟨rfl,rfl⟩) ?_;simp[-length_flatMap,-map_take,rf]
theorem Re{b:Bk}{k:Nat}{nm:List UInt8}{l:List Int}(h:(vW b k nm l).2≠0):(vW b k nm l).1=b:=by
 unfold vW at h ⊢;split;all_goals
  simp only at h
  try unfold Go.Book.xV at *
  try unfold xY at *
  try unfold Fz at *
  try unfold yS at *
  try unfold xW at *
  try unfold FA at *
  try unfold Bl at *
  try unfold xX at *
  try unfold yR at *
  try unfold yP at *
  try unfold Bm at *
  try unfold yQ at *
  repeat' split
  all_goals first | rfl | (simp_all)
theorem anc{b:Bk}{er:List Int}{s:List UInt8}{n:Nat}{k:Int}(hK:Kv n b)(hn:n≤1000000)(hs:s.length≤4000):
  lim T (.call false aM [.ref σ.length 6 0 0,.int .i64 k,.str s] (b.bw σ.length er::σ))=some (.val (.int .i64 (sd b k s).2) ((sd b k s).1.bw σ.length er::σ)):=by
 refine K0 Cm nV.eq_1 rfl rfl (by simp) ?_;cases hp:parse s with
 |none =>
  have hP:=fun S=>MK (σ:=S) (s:=s) (by omega) hp
  have hX:vV T (.fn cZ [] [.ref (σ.length+1) 0 0 0]) [] (some (rf 4)) ([.cells 0 [.int .i64 0]]::b.bw σ.length er::σ)=some ([.cells 0 [.int .i64 4]]::b.bw σ.length er::σ):=uV (Ob (σ:=b.bw σ.length er::σ));have hd:sd b k s=(b,4):=by simp[sd,hp]
  rw[hd];simp only[Bk.bw,Bk.cells,rf]at hX hP;simp[-length_flatMap,-map_take,Kn,AS,Bk.bw,Bk.cells];rw[zg lq.eq_1];simp[-length_flatMap,-map_take,Kn,AS,Bk.bw,Bk.cells,hP,hX]
 |some p =>
  obtain⟨w,nm,l⟩:=p;have hP:=fun S hS=>aBr (σ:=S) (s:=s) (by omega) hS hp
  have hD:=axY (σ:=σ) (F:=[.cells 0 [.int .i64 0]]) (er:=er) (hK.anL k) hn hp hs;have hd:sd b k s=vW {b with at_:=k } w.k nm l:=by simp[sd,hp]
  rw[hd];have hno:=Re (b:={b with at_:=k }) (k:=w.k) (nm:=nm) (l:=l);generalize vW {b with at_:=k } w.k nm l=r at hD hno ⊢;obtain⟨b',e⟩:=r;have hwc:MA w=[.bool w.named,.int .i64 w.least,.int .i64 w.step,.fn ((I0[w.k]?).getD 0) [] []]:=rfl;simp only[yr,hwc]at hP;by_cases he:e=0
  ·subst he;have hX:vV T (.fn cZ [] [.ref (σ.length+1) 0 0 0]) [] none ([.cells 0 [.int .i64 0]]::b'.bw σ.length er::σ)=some ([.cells 0 [.int .i64 0]]::b'.bw σ.length er::σ):=uV (af4 (σ:=b'.bw σ.length er::σ));simp only[doR,if_true]at hD;simp only[Bk.bw,Bk.cells]at hX hD;simp[-length_flatMap,-map_take,Kn,AS,Bk.bw,Bk.cells];rw[zg lq.eq_1];simp[-length_flatMap,-map_take,Kn,AS,Bk.bw,Bk.cells,hP,hD,hX]
  ·have hX:vV T (.fn cZ [] [.ref (σ.length+1) 0 0 0]) [] (some (rf e)) ([.cells 0 [.int .i64 0]]::(Bk.bw σ.length {b with at_:=k } er)::σ)=some ([.cells 0 [.int .i64 e]]::(Bk.bw σ.length {b with at_:=k } er)::σ):=uV (Ob (σ:=(Bk.bw σ.length {b with at_:=k } er)::σ));simp only[doR,he,if_false]at hD;have hb':b'={b with at_:=k }:=hno he;subst hb';simp only[Bk.bw,Bk.cells,rf]at hX hD;simp[-length_flatMap,-map_take,Kn,AS,Bk.bw,Bk.cells];rw[zg lq.eq_1];simp[-length_flatMap,-map_take,Kn,AS,Bk.bw,Bk.cells,hP,hD,hX]
def oI:Bk→Int→List (List UInt8)→Bk×List Int
 |b,_,[]=>(b,[])
 |b,k,s::l=>((oI (sd b k s).1 (k+1) l).1,(sd b k s).2::(oI (sd b k s).1 (k+1) l).2)
def dE(l:List (List UInt8)):Bk×List Int:=oI nN 0 l
theorem Fb:∀{l:List (List UInt8)} {b:Bk} {k:Int},(oI b k l).2.length=l.length
 |[],_,_=>rfl
 |s::l,b,k=>by simp[oI,Fb (l:=l)]
def okL(l:List (List UInt8)):Prop:=l.length≤100∧∀s∈l,s.length≤4000
theorem vQ:∀{l:List (List UInt8)} {b:Bk} {k:Int} {n:Nat},Kv n b→(∀s∈l,s.length≤4000)→Kv (n+l.length) (oI b k l).1
 |[],b,k,n,h,_=>h
 |s::l,b,k,n,h,hs=>by
  have h1:=h.line (hs s (by simp)) (k:=k);have h2:=vQ (l:=l) (k:=k+1) h1 fun x hx=>hs x (by simp[hx])
  simp only[oI,aJ];rwa[show n+(l.length+1)=n+1+l.length by omega]
theorem Tb{lines:List (List UInt8)}(hl:okL lines):∀(m i:Nat) (b:Bk) (er:List Int),i+m=lines.length→er.length=i→Kv i b →
  WL T [4,5,12,13,14] false rI [(4,.ref σ.length 6 0 0),(5,.sl σ.length 7 i 0 i 1),(12,.aI lines.length (lines.flatMap dh)),(13,.int .i64 lines.length),(14,.int .i64 i)] (b.bw σ.length er::σ)
   (fun x e σ'=>x=.exit 0∧get e 4=.ref σ.length 6 0 0∧get e 5=.sl σ.length 7 lines.length 0 lines.length 1∧σ'=(oI b i (lines.drop i)).1.bw σ.length (er++(oI b i (lines.drop i)).2)::σ)
 |0,i,b,er,hi,he,hK=>by
  refine aN rI.eq_1 ?_;obtain rfl:i=lines.length:=by omega
  have h2:lines.drop lines.length=[]:=aB (by omega);simp[-length_flatMap,-map_take,h2,oI]
 |m+1,i,b,er,hi,he,hK=>by
  refine aN rI.eq_1 ?_;have h1:i<lines.length:=by omega
  obtain⟨s,hs⟩:=gE h1;have a1:=bS (f:=dh) (w:=1) (fun _=>rfl) hs;simp only[dh,ea]at a1;have h4:=gD h1 (by have:=hl.1;omega);have hsl:=hl.2 s (ai hs);have hn:=hl.1;have hC:=anc (σ:=σ) (b:=b) (er:=er) (s:=s) (k:=i) hK (by omega) hsl;have hK':=hK.line hsl (k:=i);rw[cY hs];simp only[oI];generalize sd b i s=r at hC hK' ⊢;obtain⟨b',e⟩:=r;have ih:=Tb hl m (i+1) b' (er++[e]) (by omega) (by simp[he]) hK';have hel:=xm er;have het:(er.flatMap aS).take i=er.flatMap aS:=aj (by omega);have hr:(i+1)*8≤room:=by unfold room;omega
  simp only[Bk.bw,Bk.cells,he]at hC;simp[-length_flatMap,-map_take,h1,a1,h4,hC,Bk.bw,Bk.cells,hr,hel,het,he];refine WL.to ih (by simp) (by simp[Bk.bw,Bk.cells,he]) fun x e' σ' hh=>?_
  have e1:((i+1:Nat):Int)=(i:Int)+1:=by omega
  rw[e1]at hh;simpa[Bk.bw,Bk.cells]using hh
theorem SR{lines:List (List UInt8)}(hl:okL lines):lim T (.call true jT [.aI lines.length (lines.flatMap dh)] ([]::σ)) =
  some (.val (.dK [.ref σ.length 6 0 0,.sl σ.length 7 lines.length 0 lines.length 1]) ((dE lines).1.bw σ.length (dE lines).2::σ)):=by
 refine wF HZ vk.eq_1 rfl ?_;have hL:=Tb (σ:=σ) hl lines.length 0 nN [] (by omega) rfl Kv.zero;rw[aP]at hL;simp[-length_flatMap,-map_take];refine WL.to hL (by simp) (by simp[Bk.bw,Bk.cells,nN,nl]) ?_;rintro x e σ' ⟨rfl,g4,g5,rfl⟩;simp[-length_flatMap,-map_take,g4,g5,dE]
end Go.Proofs.YtfgljaglidhjiaaGreatDoor
namespace Go.Proofs.YtfgljaglidhjiaaGreatDoor
open List(length_flatMap map_take)
open Go Go.Abs Go.Rock Go.Book
def z0(e:jb):jb:={e with by_:=0 }
def nmB(b:Bk):Bk:={b with an:=b.an.map z0,jt:=[],at_:=0 }
theorem arD(l:List jb):(l.map z0).map z0=l.map z0:=by
 rw[List.map_map];rfl
theorem avZ(b:Bk):nmB (nmB b)=nmB b:=by
 simp only[nmB,arD]
def SmQ(x y:Bk×Int):Prop:=x.2=y.2∧nmB x.1=nmB y.1
theorem SmQ.ite{c:Prop}{_:Decidable c}{x y x' y':Bk×Int}(h1:c→SmQ x x')(h2:¬c→SmQ y y'):SmQ (if c then x else y) (if c then x' else y'):=by
 by_cases h:c
 ·rw[if_pos h,if_pos h];exact h1 h
 ·rw[if_neg h,if_neg h];exact h2 h
theorem SmQ.no(b:Bk)(e:Int):SmQ (b,e) (nmB b,e):=⟨rfl,(avZ b).symm⟩
end Go.Proofs.YtfgljaglidhjiaaGreatDoor
