import Derived.Test.YtfgljaglidhjiaaGreatDoorTxt4
import Derived.Test.YtfgljaglidhjiaaGreatDoorTxt3
set_option linter.all false
namespace Go.Book
open List(length_flatMap map_take)
open Go Go.Abs Go.Rock
def LR(lo hi s:Int):Int:=if hi<s∨s<lo then s else lo
end Go.Book
namespace Go.Proofs.YtfgljaglidhjiaaGreatDoor
open List(length_flatMap map_take)
open Go Go.Abs Go.Rock Go.Book
variable {σ:SK}
def zY(b:Bk)(x:v8)(m:cN):Int:=match Rock.run b.bH m b.av with
 |some r=>LR x.lo x.hi (vC b.bH m r x)
 |none=>x.lo
theorem Qe{b:cr}{m:cN}{av:List (List Int)}{x:v8}{r:RunT}(hr:xh b av.length [x]=0)(hrun:Rock.run b m av=some r):
  ∃n A,Nb b [m] av [x]=.dG [.aH n A,.aH (if Bn x.lo x.hi (vC b m r x)=0 then 0 else 1) (if Bn x.lo x.hi (vC b m r x)=0 then []else Ad (0,0,Bn x.lo x.hi (vC b m r x))),.int .i64 0]∧D.bz A=true:=by
 have h1:xk b av [m]=some [r]:=by simp[xk,hrun]
 refine⟨(Hg b [x] 0 [(m,r)] ([],[])).1.length,(Hg b [x] 0 [(m,r)] ([],[])).1.flatMap aT,?_,bq _⟩;unfold Nb;rw[if_pos hr,h1];by_cases hz:Bn x.lo x.hi (vC b m r x)=0<;>simp[Hg,zb,CA,hz]
theorem agv{b:cr}{m:cN}{av:List (List Int)}{x:v8}(hr:xh b av.length [x]≠0):Nb b [m] av [x]=.dG [.aH 0 [],.aH 0 [],.int .i64 (xh b av.length [x])]:=by
 unfold Nb;rw[if_neg hr]
theorem BO{b:cr}{n:Int}{x:v8}:xh b n [x]=vB b n x:=by
 simp only[xh,aL,bE,da];by_cases h:vB b n x=0<;>simp[h]
theorem CB{b:Bk}{m:cN}{x:v8}(ht:b.bH.ck≠[])(hok:Ok b.bH [m] b.av)(hw:0≤x.rk∧x.rk≤255)(hσ:σ≠[]):
  lim T (.call false lS [.agg [.int .i64 b.bH.f.x,.int .i64 b.bH.f.y,.int .i64 b.bH.f.z,.int .i64 b.bH.f.k,nl Rw.enc b.bH.ck,.int .i64 b.bH.bJ,.int .i64 b.bH.lift,.int .i64 b.bH.deep,nl bG.enc b.bH.an],.aH 1 [.str m.name,.aH m.bh.length (m.bh.flatMap aT)],nl pE b.av,.aH 1 x.enc] σ)=some (.val (Nb b.bH [m] b.av [x]) σ):=by
 have h:=L6 (σ:=σ) (wq:=nl bG.enc b.bH.an) sD hok (rd:=[x]) (by simp) (by intro y hy;simp at hy;subst hy;exact hw) hσ;rw[eH ht];simpa[Jv]using h
theorem afc{F:List Abs.aE}{b:Bk}{er:List Int}{m:cN}{x:v8}{w:Int}{r:RunT}(ht:b.bH.ck≠[])(hok:Ok b.bH [m] b.av)(hw:0≤x.rk∧x.rk≤255)(hr:vB b.bH b.av.length x=0)(hrun:Rock.run b.bH m b.av=some r):
  lim T (.call false eR [.agg [.str m.name,.aH m.bh.length (m.bh.flatMap aT)],.bF [.ref σ.length 6 0 0],.ref (σ.length+1+1) 0 0 0,.bF [.aH 4 [.int .i64 w,.int .i64 x.idx,.int .i64 x.lo,.int .i64 x.hi]]] ([]::[.cells 0 x.enc]::F::b.bw σ.length er::σ))=some (.val (.int .i64 (zY b x m)) ([]::[.cells 0 x.enc]::F::b.bw σ.length er::σ)):=by
 refine az Av l6.eq_1 rfl ?_;have hS:=fun S hS=>CB (σ:=S) ht hok hw hS
 obtain⟨n,A,h1,hA⟩:=Qe (b:=b.bH) (m:=m) (av:=b.av) (x:=x) (by rw[BO];exact hr) hrun;rw[h1]at hS;have hd:=Rdv.of hr;have hb:=PY (hok.fv m (by simp)) (J4.of (hok.fv m (by simp)) hok.aR hrun) hd;obtain⟨e1,e2,e3⟩:=hd.ends;have hv:zY b x m=LR x.lo x.hi (vC b.bH m r x):=by simp[zY,hrun]
 rw[hv];have hm:=MQ (lo:=x.lo) (hi:=x.hi) (s:=vC b.bH m r x) e2;generalize vC b.bH m r x=s at *
 simp only[v8.enc]at hS ⊢;unfold adU at hm;by_cases c1:x.hi<s
 ·rw[if_pos c1]at hm;have c2:¬s-x.hi=0:=by omega
  have c3:0<s-x.hi:=by omega
  have w1:IntKind.i64.wrap (x.hi+(s-x.hi))=s:=by rw[show x.hi+(s-x.hi)=s by omega];exact fR (by omega)
  have hq:LR x.lo x.hi s=s:=by simp[LR,c1]
  rw[hm]at hS;simp[-length_flatMap,-map_take,Bk.bw,Bk.cells,hS,c1,(show ¬s≤x.hi by omega),c2,c3,w1,hq,Ad,hA]
 ·rw[if_neg c1]at hm;by_cases c4:s<x.lo
  ·rw[if_pos c4]at hm;have c2:¬s-x.lo=0:=by omega
   have c3:¬0<s-x.lo:=by omega
   have w1:IntKind.i64.wrap (x.lo+(s-x.lo))=s:=by rw[show x.lo+(s-x.lo)=s by omega];exact fR (by omega)
   have hq:LR x.lo x.hi s=s:=by simp[LR,c4]
   rw[hm]at hS;simp[-length_flatMap,-map_take,Bk.bw,Bk.cells,hS,(show ¬x.lo<s by omega),c2,c3,w1,hq,Ad,hA]
  ·rw[if_neg c4]at hm;have hq:LR x.lo x.hi s=x.lo:=by simp[LR,c1,c4]
   rw[hm]at hS;simp[-length_flatMap,-map_take,Bk.bw,Bk.cells,hS,hq,hA]
def zF(b:Bk)(x:v8):Bk×Int :=
 if bS b.ar=[]then(b,8)else if cG x.rk 0 255=true then(if vB b.bH b.av.length x=0 then(wx b x.lo x.hi (zY b x),0)else(b,vB b.bH b.av.length x))else(b,1)
theorem afd{F:List Abs.aE}{b:Bk}{er:List Int}{nm:List UInt8}{w i lo hi:Int}{b':Bk}{e:Int}(ht:b.bH.ck≠[])(hw:b.o7.length=b.ar.length)(hml:b.ar.length≤40)(hok:∀e∈b.ar,Ok b.bH [e.m] b.av)(hrun:∀e∈b.ar,e.left=true→∃r,Rock.run b.bH e.m b.av=some r)(hd:zF b ⟨b.av.length,w,i,lo,hi⟩=(b',e))(he:e=0):
  lim T (.call false fW [.ref σ.length 6 0 0,.str nm,.aH 4 [.int .i64 w,.int .i64 i,.int .i64 lo,.int .i64 hi]] (F::b.bw σ.length er::σ))=some (.val (.dG []) (F::b'.bw σ.length er::σ)):=by
 refine gw vN kD.eq_1 rfl (by simp) ?_;unfold zF at hd;split at hd
 case isTrue=>cases hd;cases he
 rename_i c1;split at hd
 case isFalse=>cases hd;cases he
 rename_i c2;split at hd
 case isFalse=>cases hd;rename_i h;exact absurd he h
 rename_i c3;cases hd;have c2i:=ba.1 c2;have q1:0<(bS b.ar).length:=aK.2 c1;have hLf:=fun S=>Eh (σ:=σ) (b:=b) (er:=er) (S:=S) (by omega)
 obtain⟨e0,ls,hls⟩:∃e0 ls,bS b.ar=e0::ls:=by
  cases h:bS b.ar with
  |nil=>exact absurd h c1
  |cons a l=>exact⟨a,l,rfl⟩
 have he0:e0∈b.ar∧e0.left=true:=bY.1 (show e0∈bS b.ar by rw[hls];simp);obtain⟨r0,hr0⟩:=hrun e0 he0.1 he0.2;have w1:IntKind.u8.wrap w=w:=wu8 (by omega);have hS:=fun S hS=>CB (σ:=S) (x:=⟨b.av.length,w,i,lo,hi⟩) ht (hok e0 he0.1) (by simpa using c2i) hS
 obtain⟨n,A,h1,hA⟩:=Qe (b:=b.bH) (m:=e0.m) (av:=b.av) (x:=⟨b.av.length,w,i,lo,hi⟩) (by rw[BO];exact c3) hr0;rw[h1]at hS;have hst:=Kk (σ:=σ) (A:=[.cells 0 (v8.enc ⟨b.av.length,w,i,lo,hi⟩)]) (F:=F) (b:=b) (er:=er) (lo:=lo) (hi:=hi) (val:=zY b ⟨b.av.length,w,i,lo,hi⟩) (fv:=.fn eR [] [.bF [.ref σ.length 6 0 0],.ref (σ.length+1+1) 0 0 0,.bF [.aH 4 [.int .i64 w,.int .i64 i,.int .i64 lo,.int .i64 hi]]]) rfl rfl hw hml (by
  intro k e he hl;obtain⟨r,hr⟩:=hrun e he hl;have h:=afc (σ:=σ) (F:=F) (er:=er) (b:=b.kA lo hi (zY b ⟨b.av.length,w,i,lo,hi⟩) k) (m:=e.m) (x:=⟨b.av.length,w,i,lo,hi⟩) (w:=w) ht (hok e he) (by simpa using c2i) c3 hr;rw[rV];have h':lim T (.call false eR ([]++[.agg [.str e.m.name,.aH e.m.bh.length (e.m.bh.flatMap aT)]]++[.bF [.ref σ.length 6 0 0],.ref (σ.length+1+1) 0 0 0,.bF [.aH 4 [.int .i64 w,.int .i64 i,.int .i64 lo,.int .i64 hi]]]) ([]::[.cells 0 (v8.enc ⟨b.av.length,w,i,lo,hi⟩)]::F::(b.kA lo hi (zY b ⟨b.av.length,w,i,lo,hi⟩) k).bw σ.length er::σ))=_:=h;rw[h'];rfl)
 rw[hls]at hLf;simp only[Bk.bw,Bk.cells,v8.enc]at hst hLf hS;have hcl:∀T,D.bz (if T=0 then []else Ad (0,0,T))=true:=fun T=>by split<;>simp[Ad]
 simp[-length_flatMap,-map_take,Bk.bw,Bk.cells,hLf,cA,ff,c2,w1,hS,oB,hA,hcl,hst,bq]
theorem Sk{F:List Abs.aE}{b:Bk}{er:List Int}{nm:List UInt8}{w i lo hi:Int}{b':Bk}{e:Int}(ht:bS b.ar≠[]→b.bH.ck≠[])(hml:b.ar.length≤40)(hok:∀e∈b.ar,Ok b.bH [e.m] b.av)(hd:zF b ⟨b.av.length,w,i,lo,hi⟩=(b',e))(he:e≠0):
  lim T (.call false fW [.ref σ.length 6 0 0,.str nm,.aH 4 [.int .i64 w,.int .i64 i,.int .i64 lo,.int .i64 hi]] (F::b.bw σ.length er::σ))=some (.fQ (rf e) (F::b.bw σ.length er::σ)):=by
 refine ef vN kD.eq_1 rfl ?_;have hLf:=fun S=>Eh (σ:=σ) (b:=b) (er:=er) (S:=S) (by omega)
 simp only[Bk.bw,Bk.cells]at hLf;unfold zF at hd;split at hd
 case isTrue c1 =>
  cases hd;simp[-length_flatMap,-map_take,Bk.bw,Bk.cells,hLf,c1,dC,D.clean,rf]
 rename_i c1;have ht:=ht c1;have q1:0<(bS b.ar).length:=aK.2 c1;split at hd
 case isFalse c2 =>
  cases hd;have c2':cG w 0 255=false:=by simpa using c2
  simp[-length_flatMap,-map_take,Bk.bw,Bk.cells,hLf,q1,ff,c2',cA,dC,D.clean,rf]
 rename_i c2;have c2i:=ba.1 c2;split at hd
 case isTrue=>cases hd;exact absurd rfl he
 rename_i c3;cases hd;obtain⟨e0,ls,hls⟩:∃e0 ls,bS b.ar=e0::ls:=by
  cases h:bS b.ar with
  |nil=>exact absurd h c1
  |cons a l=>exact⟨a,l,rfl⟩
 have he0:e0∈b.ar∧e0.left=true:=bY.1 (show e0∈bS b.ar by rw[hls];simp);have w1:IntKind.u8.wrap w=w:=wu8 (by omega);have hS:=fun S hS=>CB (σ:=S) (x:=⟨b.av.length,w,i,lo,hi⟩) ht (hok e0 he0.1) (by simpa using c2i) hS
 rw[agv (by rw[BO];exact c3),BO]at hS;have hM:=fun σ=>pI (σ:=σ) c3
 generalize vB b.bH b.av.length ⟨b.av.length,w,i,lo,hi⟩=err at hS hM c3 he ⊢;have hrc:(D.tW 311 (.agg [.int .i64 err])).clean=true:=rfl;rw[hls]at hLf;simp only[v8.enc]at hS;simp[-length_flatMap,-map_take,Bk.bw,Bk.cells,hLf,cA,ff,c2,w1,hS,hM,bq,rf,hrc]
end Go.Proofs.YtfgljaglidhjiaaGreatDoor
namespace Go.Book
open List(length_flatMap map_take)
open Go Go.Abs Go.Rock
def Mu:List Prt→Int
 |[]=>0
 |p::l=>p.width+Mu l
def y8:List Prt→Int→Int
 |[],_=>0
 |p::l,m=>p.vJ*min m p.width+y8 l (m-min m p.width)
def IL:List Prt→Int→Int
 |[],m=>m
 |p::l,m=>IL l (m-min m p.width)
def Dj(l:List Prt):Prop:=∀p∈l,(0≤p.vJ∧p.vJ≤1000)∧1≤p.width∧p.width≤100000
theorem A9:∀{l:List Prt} {last:Int},last≤1000→yt last l=true→Dj l
 |[],_,_,_=>by intro p hp;cases hp
 |q::l,last,hl,h=>by
  simp only[yt,Prt.ok,af,ba]at h;intro p hp;rcases aW.1 hp with rfl | hp
  ·omega
  ·exact A9 (by omega) h.2 p hp
theorem MY:∀{l:List Prt} {m:Int},Dj l→0≤m→0≤y8 l m∧y8 l m≤1000*m
 |[],m,_,hm=>by simp[y8];omega
 |p::l,m,h,hm=>by
  have h1:=h p (by simp);have h2:=MY (l:=l) (m:=m-min m p.width) (fun q hq=>h q (by simp[hq])) (by omega);have h3:0≤p.vJ*min m p.width:=dI h1.1.1 (by omega);have h4:p.vJ*min m p.width≤1000*min m p.width:=fE h1.1.2 (by omega);simp only[y8];omega
end Go.Book
namespace Go.Proofs.YtfgljaglidhjiaaGreatDoor
open List(length_flatMap map_take)
open Go Go.Abs Go.Rock Go.Book
variable {σ:SK}
theorem agK{l:List Prt}(hs:Dj l)(hl:l.length≤8):∀(m i:Nat) (out:Int),i+m=l.length→0≤out→out≤100000*i →
  WL T [2,6,7,8] false jJ [(2,.int .i64 out),(6,.aH l.length (l.flatMap Prt.enc)),(7,.int .i64 l.length),(8,.int .i64 i)] σ
   (fun x e σ'=>x=.exit 0∧σ'=σ∧get e 2=.int .i64 (out+Mu (l.drop i)))
 |0,i,out,hi,h0,ho=>by
  refine aN jJ.eq_1 ?_;have h1:¬i<l.length:=by omega
  have h2:l.drop i=[]:=aA (by omega);simp[-length_flatMap,-map_take,h1,h2,Mu]
 |m+1,i,out,hi,h0,ho=>by
  refine aN jJ.eq_1 ?_;have h1:i<l.length:=by omega
  obtain⟨p,hp⟩:=gE h1;have hfl:=bR (f:=Prt.enc) (w:=2) (fun _=>rfl) hp;have hd:=cS hp;have h4:=gG h1 (by omega);have hb:=hs p (ai hp);have w1:IntKind.i64.wrap (out+p.width)=out+p.width:=fR (by omega);have ih:=agK hs hl m (i+1) (out+p.width) (by omega) (by omega) (by omega);rw[hd,Mu];simp[-length_flatMap,-map_take,h1,hfl,h4,w1];exact WL.to ih (by simp) rfl fun x e σ' hh=>by simpa[Int.add_assoc]using hh
theorem L9{u:xx}(hs:Dj u.parts)(hl:u.parts.length≤8):lim T (.call false je [.agg u.enc] σ)=some (.val (.int .i64 (Mu u.parts)) σ):=by
 refine az Ax l8.eq_1 rfl ?_;simp[-length_flatMap,-map_take,zz];refine WL.to (agK (σ:=[]::σ) hs hl u.parts.length 0 0 (by omega) (by omega) (by omega)) (by simp) rfl ?_;rintro x e σ' ⟨rfl,rfl,g2⟩;simp[-length_flatMap,-map_take,g2]
def lpP(L:Nat):wE:={state:=0,xf:=none,env:=[(4,.ref L 0 0 0)],params:=[10,11],zu:=l9,body:=ma }
def LH(σ:SK)(out mass:Int):SK:=[.cells 0 [.int .i64 out],.cells 0 [.int .i64 mass],.loop (lpP σ.length)]::σ
theorem afs{p:Prt}{out mass m:Int}(hp:(0≤p.vJ∧p.vJ≤1000)∧1≤p.width∧p.width≤100000)(hm:0≤m∧m≤1000000)(ho:0≤out∧out≤1000000000000):
  lim T (.round σ.length 2 [.agg p.enc,.int .i64 m] ([]::LH σ out mass))=some (.val (.bool true) ([]::LH σ (out+p.vJ*m) mass)):=by
 have q1:0≤p.vJ*m:=dI hp.1.1 hm.1;have q2:p.vJ*m≤1000*1000000:=ic hp.1.2 hm.2 hm.1 (by omega);have w1:IntKind.i64.wrap (p.vJ*m)=p.vJ*m:=fR (by omega);have w2:IntKind.i64.wrap (out+p.vJ*m)=out+p.vJ*m:=fR (by omega);refine Lv (lp:=lpP σ.length) (by simp[LH]) rfl ?_;rw[show(lpP σ.length).zu=l9 from rfl,l9.eq_1,show(lpP σ.length).body=ma from rfl];simp[-length_flatMap,-map_take,yM ma.eq_1,lpP,LH,Rj,w1,w2]
theorem aAA{l:List Prt}(hs:Dj l)(hl:l.length≤8):∀(k i:Nat) (out m:Int),i+k=l.length→0≤m→m≤1000000→0≤out→out≤1000000000*i →
  WL T [0,2,8,9,10] false kX [(0,.mq σ.length 2),(2,.ref σ.length 1 0 0),(8,.aH l.length (l.flatMap Prt.enc)),(9,.int .i64 l.length),(10,.int .i64 i)] ([]::LH σ out m)
   (fun x e σ'=>x=.exit 0∧σ'=[]::LH σ (out+y8 (l.drop i) m) (IL (l.drop i) m))
 |0,i,out,m,hi,hm,hm2,h0,ho=>by
  refine aN kX.eq_1 ?_;have h1:¬i<l.length:=by omega
  have h2:l.drop i=[]:=aA (by omega);simp[-length_flatMap,-map_take,h1,h2,y8,IL]
 |k+1,i,out,m,hi,hm,hm2,h0,ho=>by
  refine aN kX.eq_1 ?_;have h1:i<l.length:=by omega
  obtain⟨p,hp⟩:=gE h1;have hfl:=bR (f:=Prt.enc) (w:=2) (fun _=>rfl) hp;have hd:=cS hp;have h4:=gG h1 (by omega);have hb:=hs p (ai hp);have hmn:0≤min m p.width∧min m p.width≤m:=by omega
  have hR:=afs (σ:=σ) (p:=p) (out:=out) (mass:=m) (m:=min m p.width) hb (by omega) (by omega);have q1:0≤p.vJ*min m p.width:=dI hb.1.1 hmn.1;have q2:p.vJ*min m p.width≤1000*1000000:=ic hb.1.2 (by omega) hmn.1 (by omega);have w1:IntKind.i64.wrap (m-min m p.width)=m-min m p.width:=fR (by omega);have ih:=aAA hs hl k (i+1) (out+p.vJ*min m p.width) (m-min m p.width) (by omega) (by omega) (by omega) (by omega) (by omega);rw[hd,y8,IL];simp only[LH,Prt.enc]at hR;simp[-length_flatMap,-map_take,h1,hfl,h4,LH,hR,w1];exact WL.to ih (by simp) (by simp[LH]) fun x e σ' hh=>by simpa[Int.add_assoc,LH]using hh
theorem aml{u:xx}{mass:Int}{bs:List Abs.aE}:lim T (.call true nd [.agg u.enc,.int .i64 mass] (bs::σ))=some (.val (.fn iL [] [.bF u.enc,.ref σ.length bs.length 0 0]) ((bs++[.cells 0 [.int .i64 mass]])::σ)):=by
 refine we Dr pN.eq_1 rfl ?_;simp[-length_flatMap,-map_take,zz]
theorem afk{u:xx}{out m:Int}(hs:Dj u.parts)(hl:u.parts.length≤8)(hm:0≤m∧m≤1000000)(h0:0≤out∧out≤0):
  lim T (.call false iL [.mq σ.length 2,.bF u.enc,.ref σ.length 1 0 0] (LH σ out m))=some (.val (.dG []) (LH σ (out+y8 u.parts m) (IL u.parts m))):=by
 refine gw B8 nK.eq_1 rfl (by simp[LH]) ?_;have h:=aAA (σ:=σ) hs hl u.parts.length 0 out m (by omega) hm.1 hm.2 h0.1 (by omega);rw[aO]at h;simp[-length_flatMap,-map_take];refine WL.to h (by simp) (by simp) ?_;rintro x e σ' ⟨rfl,rfl⟩;simp
theorem ae8{u:xx}{m:Int}(hs:Dj u.parts)(hl:u.parts.length≤8)(hm:0≤m∧m≤1000000):
  lim T (.call false lQ [.agg u.enc,.int .i64 m] σ)=some (.val (.int .i64 (y8 u.parts m)) σ):=by
 refine az CH oG.eq_1 rfl ?_;have hU:=fun bs=>aml (σ:=σ) (u:=u) (mass:=m) (bs:=bs)
 have h1:=afk (σ:=σ) (u:=u) (out:=0) hs hl hm (by omega);simp only[xx.enc]at hU h1 ⊢;simp[-length_flatMap,-map_take,hU,zz];refine NJ (d:=.dG []) (σ2:=LH σ (0+y8 u.parts m) (IL u.parts m)) (lp:=lpP σ.length) (by simp;exact⟨rfl,rfl,rfl⟩) ?_ (by simp[LH]) (by simp[lpP]) ?_
 ·simpa[LH,lpP]using h1
 ·simp[-length_flatMap,-map_take,LH,lpP]
def KO(u:xx)(s:xr):Int:=if s.valid=true then(if Mu u.parts<s.m then 2 else if s.h<y8 u.parts s.m then 9 else 0)else 1
theorem Hy{s:xr}:lim T (.call false kN [.agg s.enc] σ)=some (.val (.int .i64 (if s.valid then 0 else 1)) σ):=by
 refine az Ce nT.eq_1 rfl ?_;have h:=fun σ=>Gg (σ:=σ) (x:=s)
 simp only[xr.enc]at h ⊢;cases hc:s.valid<;>rw[hc]at h<;>simp[-length_flatMap,-map_take,h]
theorem Sm{s:xr}:lim T (.call false mE [.agg s.enc] σ)=some (.val (.bool s.valid) σ):=by
 refine az FE su.eq_1 rfl ?_;have h:=fun σ=>Hy (σ:=σ) (s:=s)
 simp only[xr.enc]at h ⊢;cases hc:s.valid<;>rw[hc]at h<;>simp[-length_flatMap,-map_take,h]
theorem Sn{s:xr}:lim T (.call false se [.aH 1 s.enc] σ)=some (.val (.bool s.valid) σ):=by
 refine az HH u6.eq_1 rfl ?_;have h:=fun σ=>zt (wP 4 xr.enc (fun _=>rfl)) (T:=T) (σ:=σ) (f:=jM) (g:=ix) (h:=ep) (i:=fj) (l:=[s]) (p:=xr.valid) (fv:=.fn mE [] []) rfl rfl rfl rfl (by simp) (pK.fn fun x _ σ=>Sm) rfl
 simp only[wP,List.length_singleton,aZ,dJ,dF,gQ,jD,List.all_nil,Bool.and_true]at h;simp only[xr.enc]at h ⊢;simp[-length_flatMap,-map_take,h]
def Ta(u:xx)(s:xr):D:=if KO u s=0 then .dG [.agg [.int .i64 s.m,.int .i64 (s.h-y8 u.parts s.m),.int .i64 s.s,.int .i64 s.g],.int .i64 (y8 u.parts s.m),.int .i64 0]else .dG [.agg [.int .i64 0,.int .i64 0,.int .i64 0,.int .i64 0],.int .i64 0,.int .i64 (KO u s)]
theorem J7{u:xx}{s:xr}(hu:u.ok=true):lim T (.call false n9 [.agg u.enc,.agg s.enc] σ)=some (.val (Ta u s) σ):=by
 refine az Gs tF.eq_1 rfl ?_;have hok:=hu;simp only[xx.ok,af,ba]at hok;have hl:u.parts.length≤8:=by omega
 have hs:=A9 (by omega) hok.2.2;have hV:=fun σ=>Kl (σ:=σ) (u:=u) (by omega)
 have hR:=fun σ=>Sn (σ:=σ) (s:=s)
 have hC:=fun σ=>L9 (σ:=σ) hs hl
 rw[hu]at hV;simp only[xx.enc,xr.enc]at hV hR hC ⊢;unfold Ta KO;cases c1:s.valid
 ·rw[c1]at hR;simp[-length_flatMap,-map_take,hV,hR,zz]
 rw[c1]at hR;simp only[xr.valid,af,ba]at c1;by_cases c2:Mu u.parts<s.m
 ·simp[-length_flatMap,-map_take,hV,hR,hC,c2,zz]
 have hP:=fun σ=>ae8 (σ:=σ) (m:=s.m) hs hl c1.1
 simp only[xx.enc]at hP;have hb:=MY hs c1.1.1;by_cases c3:s.h<y8 u.parts s.m
 ·simp[-length_flatMap,-map_take,hV,hR,hC,hP,c2,c3,zz]
 have w1:IntKind.i64.wrap (s.h-y8 u.parts s.m)=s.h-y8 u.parts s.m:=fR (by omega);simp[-length_flatMap,-map_take,hV,hR,hC,hP,c2,c3,w1,zz]
theorem Qk{t:List Rw}(ht:ku t=true){i:Nat}{r:Rw}(hi:t[i]?=some r){x:xr}(hx:x.valid=false):
  lim T (.call false nw [.aH t.length (t.flatMap Rw.enc),.int .i64 i,.agg x.enc] σ)=some (.val (.dG [.agg (List.replicate 10 (.int .i64 0)),.int .i64 1]) σ):=by
 refine az Cs sd.eq_1 rfl ?_;have hl:t.length≤20:=by
  simp only[ku,af]at ht;have:=ba.1 ht.1;omega
 have hil:i<t.length:=(aC.1 hi).1;have h1:=fun σ=>CC (σ:=σ) (t:=t) (by omega)
 have h2:=fun σ=>agI (σ:=σ) (t:=t) (n:=i) (by omega)
 have h3:=fun σ=>Gg (σ:=σ) (x:=x)
 have hin:cG i 0 ((t.length:Int)-1)=true:=ba.2 (by omega);rw[hin]at h2;rw[hx]at h3;rw[ht]at h1;simp only[xr.enc]at h3;simp[-length_flatMap,-map_take,h1,h2,h3,List.replicate]
def Cm:List Int→Int
 |[]=>0
 |x::l=>l.foldl min x
def Ck:List Int→Int
 |[]=>0
 |x::l=>l.foldl max x
theorem agO{l:List Int}(hl:l.length≤1000000):∀(m i:Nat) (a:Int),i+m=l.length →
  WL T [0,3,4] false nS [(0,.aH l.length (l.flatMap aT)),(3,.int .i64 a),(4,.int .i64 i)] σ (fun x e σ'=>x=.exit 0∧σ'=σ∧get e 3=.int .i64 ((l.drop i).foldl min a))
 |0,i,a,hi=>by
  refine aN nS.eq_1 ?_;have h1:¬i<l.length:=by omega
  have h2:l.drop i=[]:=aA (by omega);simp[-length_flatMap,-map_take,h1,h2]
 |m+1,i,a,hi=>by
  refine aN nS.eq_1 ?_;have h1:i<l.length:=by omega
  obtain⟨n,hn⟩:=gE h1;have a1:=qB hn;have h4:=gG h1 (by omega);rw[cS hn];simp[-length_flatMap,-map_take,h1,a1,h4];exact WL.to (agO hl m (i+1) (min a n) (by omega)) (by simp) rfl fun x e σ' hh=>by simpa using hh
theorem asG{l:List Int}(hne:l≠[])(hl:l.length≤1000000):lim T (.call false oi [.aH l.length (l.flatMap aT)] σ)=some (.val (.int .i64 (Cm l)) σ):=by
 refine az Er rE.eq_1 rfl ?_;have h0:0<l.length:=aK.2 hne;obtain⟨x,r,rfl⟩:∃x r,l=x::r:=by
  cases l with
  |nil=>exact absurd rfl hne
  |cons x r=>exact⟨x,r,rfl⟩
 have h1:¬((r.length:Int)+1<1):=by omega
 have h2:(0:Int)<(r.length:Int)+1:=by omega
 simp[-length_flatMap,-map_take,h1,h2];refine WL.to (agO (σ:=[]::σ) hl r.length 1 x (by simp;omega)) (by simp) rfl ?_;rintro x e σ' ⟨rfl,rfl,g3⟩;simp[-length_flatMap,-map_take,g3,Cm]
theorem agN{l:List Int}(hl:l.length≤1000000):∀(m i:Nat) (a:Int),i+m=l.length →
  WL T [0,3,4] false nR [(0,.aH l.length (l.flatMap aT)),(3,.int .i64 a),(4,.int .i64 i)] σ (fun x e σ'=>x=.exit 0∧σ'=σ∧get e 3=.int .i64 ((l.drop i).foldl max a))
 |0,i,a,hi=>by
  refine aN nR.eq_1 ?_;have h1:¬i<l.length:=by omega
  have h2:l.drop i=[]:=aA (by omega);simp[-length_flatMap,-map_take,h1,h2]
 |m+1,i,a,hi=>by
  refine aN nR.eq_1 ?_;have h1:i<l.length:=by omega
  obtain⟨n,hn⟩:=gE h1;have a1:=qB hn;have h4:=gG h1 (by omega);rw[cS hn];simp[-length_flatMap,-map_take,h1,a1,h4];exact WL.to (agN hl m (i+1) (max a n) (by omega)) (by simp) rfl fun x e σ' hh=>by simpa using hh
theorem asF{l:List Int}(hne:l≠[])(hl:l.length≤1000000):lim T (.call false oh [.aH l.length (l.flatMap aT)] σ)=some (.val (.int .i64 (Ck l)) σ):=by
 refine az Ep rD.eq_1 rfl ?_;have h0:0<l.length:=aK.2 hne;obtain⟨x,r,rfl⟩:∃x r,l=x::r:=by
  cases l with
  |nil=>exact absurd rfl hne
  |cons x r=>exact⟨x,r,rfl⟩
 have h1:¬((r.length:Int)+1<1):=by omega
 have h2:(0:Int)<(r.length:Int)+1:=by omega
 simp[-length_flatMap,-map_take,h1,h2];refine WL.to (agN (σ:=[]::σ) hl r.length 1 x (by simp;omega)) (by simp) rfl ?_;rintro x e σ' ⟨rfl,rfl,g3⟩;simp[-length_flatMap,-map_take,g3,Ck]
theorem amh{l:List Int}(hne:l≠[])(hl:l.length≤1000000):lim T (.call false qX [.aH l.length (l.flatMap aT)] σ)=some (.val (.agg [.int .i64 (Cm l),.int .i64 (Ck l)]) σ):=by
 refine az Gr tE.eq_1 rfl ?_;have h1:=fun σ=>asG (σ:=σ) hne hl
 have h2:=fun σ=>asF (σ:=σ) hne hl
 simp[-length_flatMap,-map_take,h1,h2]
end Go.Proofs.YtfgljaglidhjiaaGreatDoor
set_option maxRecDepth 100000
namespace Go.Proofs.YtfgljaglidhjiaaGreatDoor
open List(length_flatMap map_take)
open Go Go.Abs Go.Rock Go.Book
variable {σ:SK}
def awn:Rw:=⟨0,0,0,0,0⟩
def awo:xx:=⟨0,[]⟩
def rowOf(b:Bk)(lv:Nat):Rw:=(b.bH.ck[lv]?).getD awn
def xn(b:Bk)(u:Nat):xx:=(b.dU[u]?).getD awo
def tf(b:Bk)(r:RunT)(w:Nat):xr:=⟨(bQ (rowAt r.2 (b.av.length-1)) w).m,(bQ (rowAt r.2 (b.av.length-1)) w).h,0,0⟩
def sG(r:Rw)(x:xr):xr:=⟨iU r x,arG r x,0,arF r x⟩
def xX(b:Bk)(w lv u:Nat)(m:cN):Int:=match Rock.run b.bH m b.av with
 |some r=>if(tf b r w).valid=true then KO (xn b u) (sG (rowOf b lv) (tf b r w))else 1
 |none=>9
def gF(b:Bk)(w lv u:Nat)(m:cN):Int:=match Rock.run b.bH m b.av with
 |some r=>y8 (xn b u).parts (sG (rowOf b lv) (tf b r w)).m
 |none=>0
def D8(b:Bk)(σ:SK)(w lv u:Nat)(price:Int)(acc:List Int)(rest:List mD)(x:Abs.Exit)(e:Env)(σ':SK):Prop :=
 if da (fun e=>xX b w lv u e.m) rest=0 then
  x=.exit 0∧get e 0=.ref (σ.length-1-1) 6 0 0∧get e 7=.int .i64 w∧get e 10=.int .i64 price∧get e 11=.sl σ.length 0 (acc++rest.map fun e=>gF b w lv u e.m).length 0 (acc++rest.map fun e=>gF b w lv u e.m).length 1 ∧
   σ'=[.cells (acc++rest.map fun e=>gF b w lv u e.m).length ((acc++rest.map fun e=>gF b w lv u e.m).flatMap aT)]::σ
 else x=.fQ (rf (da (fun e=>xX b w lv u e.m) rest))∧∃s,σ'=s::σ
theorem Mn{F:List Abs.aE}{b:Bk}{er:List Int}{ls:List mD}{w lv u:Nat}{price:Int}(ht:ku b.bH.ck=true)(hok:∀e∈ls,Ok b.bH [e.m] b.av)(hrun:∀e∈ls,∃r,Rock.run b.bH e.m b.av=some r)(hp:b.av≠[])(hl:ls.length≤1000000)
  (hw:w<b.bH.an.length) (hlv:lv<b.bH.ck.length) (hu:u<b.dU.length) (huk:∀x∈b.dU,x.ok=true):∀(m i:Nat) (acc:List Int),i+m=ls.length→acc.length=i →
  WL T [0,7,8,9,10,11,86,87,88] false j9 [(0,.ref σ.length 6 0 0),(7,.int .i64 w),(8,.int .i64 lv),(9,.int .i64 u),(10,.int .i64 price),(11,.sl (F::b.bw σ.length er::σ).length 0 i 0 i 1),(86,.aH ls.length (ls.flatMap mD.enc)),(87,.int .i64 ls.length),(88,.int .i64 i)] ([.cells i (acc.flatMap aT)]::F::b.bw σ.length er::σ)
   (D8 b (F::b.bw σ.length er::σ) w lv u price acc (ls.drop i))
 |0,i,acc,hi,ha=>by
  refine aN j9.eq_1 ?_;obtain rfl:i=ls.length:=by omega
  have h5:ls.drop ls.length=[]:=aA (by omega);simp[-length_flatMap,-map_take,h5,D8,ha,da]
 |m+1,i,acc,hi,ha=>by
  refine aN j9.eq_1 ?_;have h1:i<ls.length:=by omega
  obtain⟨e,he⟩:=gE h1;have hem:=ai he;have hO:=hok e hem;obtain⟨r,hr⟩:=hrun e hem;have hfl:=bR (f:=mD.enc) (w:=4) (fun _=>rfl) he;have h4:=gG h1 (by omega);have htl:b.bH.ck.length≤20:=by
   simp only[ku,af]at ht;have:=ba.1 ht.1;omega
  have hE:sj b.bH e.m b.av=0:=by
   have hfit:=hO.fit e.m (by simp);simp[sj,Bd,hO.valid,hfit,hO.pl,hr]
  have hD:xg b.bH e.m b.av=.agg [.aH r.1.length (r.1.flatMap wC),.aH r.2.length (r.2.flatMap wC)]:=by
   obtain⟨r1,r2⟩:=r;simp[xg,hE,hr]
  have hsh:=hO.short e.m (by simp);have hP:=fun S hS=>L5 (σ:=S) (b:=b.bH) (m:=e.m) (av:=b.av) (wq:=nl bG.enc b.bH.an) sD (by omega) (by have:=hO.bv.an;omega) (by omega) (by omega) (by have:=hO.Ls;omega) (fun l hl=>by have:=(hO.aR l hl).len;have:=hO.bv.an;omega) hS
  rw[hE,hD,Jv]at hP;have htn:b.bH.ck≠[]:=by intro hh;rw[hh]at hlv;simp at hlv
  have hRun:=J4.of (hO.fv e.m (by simp)) hO.aR hr;have hpl:0<b.av.length:=aK.2 hp;have hpl2:=hO.Ls;obtain⟨hrow,hY⟩:=P3 hRun (t:=b.av.length-1) (by omega);have f1:=bR (f:=wC) (w:=1) (fun _=>rfl) hrow;rw[dX]at f1;have hyw:(rowAt r.2 (b.av.length-1))[w]?=some (bQ (rowAt r.2 (b.av.length-1)) w):=by
   have:w<(rowAt r.2 (b.av.length-1)).length:=by rw[hY.len];exact hw
   simp[bQ,this]
  have f2:=bR (f:=Rock.aE.enc) (w:=3) (fun _=>rfl) hyw;have hyl:=hY.len;have w1:IntKind.i64.wrap ((b.av.length:Int)-1)=b.av.length-1:=fR (by omega);have t1:((b.av.length:Int)-1).toNat=b.av.length-1:=by omega
  have q1:(1:Int)≤b.av.length:=by omega
  have q2:(b.av.length:Int)-1<r.2.length:=by rw[hRun.yl];omega
  have hrw:b.bH.ck[lv]?=some (rowOf b lv):=by simp[rowOf,hlv]
  have hun:b.dU[u]?=some (xn b u):=by simp[xn,hu]
  have f3:=bR (f:=xx.enc) (w:=2) (fun _=>rfl) hun;have hul:=J1 b.dU;have q3:2≤b.dU.length*2-u*2:=by omega
  have hX:=fun σ=>J7 (σ:=σ) (u:=xn b u) (s:=sG (rowOf b lv) (tf b r w)) (huk _ (ai hun))
  rw[cS he];have hs0:xX b w lv u e.m=if(tf b r w).valid=true then KO (xn b u) (sG (rowOf b lv) (tf b r w))else 1:=by simp[xX,hr]
  cases c1:(tf b r w).valid with
  |false =>
   have hF:=fun σ=>Qk (σ:=σ) ht hrw c1
   have hM:=fun σ=>pI (σ:=σ) (e:=1) (by decide)
   have hs1:xX b w lv u e.m=1:=by rw[hs0,c1];rfl
   simp only[xr.enc,tf,List.replicate]at hF;simp[-length_flatMap,-map_take,h1,hfl,h4,Bk.bw,Bk.cells,eH htn,eH hp,hP,oB,bq,f1,f2,w1,t1,q1,q2,hyl,hw,hF,hM,hs1,wC,D8,da]
  |true =>
   have hF:=fun σ=>Nn (σ:=σ) ht hrw c1
   simp only[xr.enc,tf]at hF;have hs1:xX b w lv u e.m=KO (xn b u) (sG (rowOf b lv) (tf b r w)):=by rw[hs0,c1];rfl
   have hv1:gF b w lv u e.m=y8 (xn b u).parts (sG (rowOf b lv) (tf b r w)).m:=by simp[gF,hr]
   by_cases c2:KO (xn b u) (sG (rowOf b lv) (tf b r w))=0
   ·have hacc:=Bg acc;have hta:(acc.flatMap aT).take i=acc.flatMap aT:=aj (by omega);have hroom:(i+1)*8≤room:=by unfold room;omega
    have ih:=Mn (F:=F) (er:=er) (price:=price) ht hok hrun hp hl hw hlv hu huk m (i+1) (acc++[gF b w lv u e.m]) (by omega) (by simp[ha]);have fin:∀x e' σ',D8 b (F::b.bw σ.length er::σ) w lv u price (acc++[gF b w lv u e.m]) (ls.drop (i+1)) x e' σ'→D8 b (F::b.bw σ.length er::σ) w lv u price acc (e::ls.drop (i+1)) x e' σ':=fun x e' σ' hh=>by
     have hz:xX b w lv u e.m=0:=by rw[hs1,c2]
     simp only[D8,da,hz,if_true,aP,j5,eP]at hh ⊢;exact hh
    unfold Ta at hX;rw[if_pos c2,← hv1]at hX;simp only[xx.enc,xr.enc,sG,tf]at hX f3;simp[-length_flatMap,-map_take,h1,hfl,h4,Bk.bw,Bk.cells,eH htn,eH hp,hP,oB,bq,f1,f2,w1,t1,q1,q2,hyl,hw,hF,wC,parts,hu,f3,hul,q3,hX,hroom,hacc,hta,ha];exact WL.to ih (by simp) (by simp[Bk.bw,Bk.cells,eH htn,eH hp]) fin
   ·unfold Ta at hX;rw[if_neg c2]at hX;have hM:=fun σ=>pI (σ:=σ) c2
    have hz:xX b w lv u e.m≠0:=by rw[hs1];exact c2
    rw[← hs1]at hX hM;simp only[xx.enc,xr.enc,sG,tf]at hX f3;simp[-length_flatMap,-map_take,h1,hfl,h4,Bk.bw,Bk.cells,eH htn,eH hp,hP,oB,bq,f1,f2,w1,t1,q1,q2,hyl,hw,hF,wC,parts,hu,f3,hul,q3,hX,hM,hz,D8,da]
def P4(b:Bk)(w price:Int)(ws:List Int):Bk:={b with jB:=b.jB++[⟨b.av.length,w,Cm ws,Ck ws,Cm ws*price,Ck ws*price⟩] }
def E2(b:Bk)(w lv u price:Int):Bool:=cG w 0 ((b.bH.an.length:Int)-1) && (cG lv 0 ((b.bH.ck.length:Int)-1) && (cG u 0 ((b.dU.length:Int)-1) && cG price 0 1000))
def BW(b:Bk)(w lv u:Int):Int:=da (fun e=>xX b w.toNat lv.toNat u.toNat e.m) (bS b.ar)
def Br(b:Bk)(w lv u:Int):List Int:=(bS b.ar).map fun e=>gF b w.toNat lv.toNat u.toNat e.m
def yq(b:Bk)(w lv u price:Int):Bk×Int :=
 if bS b.ar=[]∨b.av=[]then(b,8)else if E2 b w lv u price=true then(if BW b w lv u=0 then(P4 b w price (Br b w lv u),0)else(b,BW b w lv u))else(b,2)
theorem agm(l:List LU):(l.flatMap LU.enc).length=l.length*6:=bZ (f:=LU.enc) (w:=6) (fun _=>rfl) l
theorem Fo{c d:Int}:∀{l:List Int} {a:Int},(c≤a∧a≤d)→(∀x∈l,c≤x∧x≤d)→c≤l.foldl min a∧l.foldl min a≤d
 |[],a,h,_=>h
 |x::l,a,h,hl=>by
  have h1:=hl x (by simp);exact Fo (l:=l) (a:=min a x) (by omega) fun y hy=>hl y (by simp[hy])
theorem Fl{c d:Int}:∀{l:List Int} {a:Int},(c≤a∧a≤d)→(∀x∈l,c≤x∧x≤d)→c≤l.foldl max a∧l.foldl max a≤d
 |[],a,h,_=>h
 |x::l,a,h,hl=>by
  have h1:=hl x (by simp);exact Fl (l:=l) (a:=max a x) (by omega) fun y hy=>hl y (by simp[hy])
theorem au6{c d:Int}{l:List Int}(h0:c≤0∧0≤d)(hl:∀x∈l,c≤x∧x≤d):(c≤Cm l∧Cm l≤d)∧(c≤Ck l∧Ck l≤d):=by
 cases l with
 |nil=>exact⟨h0,h0⟩
 |cons x l=>exact⟨Fo (hl x (by simp)) fun y hy=>hl y (by simp[hy]),Fl (hl x (by simp)) fun y hy=>hl y (by simp[hy])⟩
theorem P5{b:Bk}{w lv u:Nat}{m:cN}(hu:u<b.dU.length)(huk:∀x∈b.dU,x.ok=true)(hE:xX b w lv u m=0):0≤gF b w lv u m∧gF b w lv u m≤1000000000:=by
 have hun:b.dU[u]?=some (xn b u):=by simp[xn,hu]
 have hok:=huk _ (ai hun);simp only[xx.ok,af,ba]at hok;have hs:=A9 (by omega) hok.2.2;unfold xX at hE;unfold gF;cases hr:Rock.run b.bH m b.av with
 |none=>simp
 |some r =>
  rw[hr]at hE;simp only at hE ⊢;split at hE
  ·unfold KO at hE;split at hE
   ·rename_i hv;simp only[xr.valid,af,ba]at hv;have:=MY hs hv.1.1;omega
   ·cases hE
  ·cases hE
theorem afh{F:List Abs.aE}{b:Bk}{er:List Int}{nm:List UInt8}{w lv u price:Int}{b':Bk}{e:Int}(ht:ku b.bH.ck=true)(hml:b.ar.length≤40)(hok:∀e∈b.ar,Ok b.bH [e.m] b.av)(hrun:∀e∈b.ar,e.left=true→∃r,Rock.run b.bH e.m b.av=some r)(huk:∀x∈b.dU,x.ok=true)(hul:b.dU.length≤10)(hwl:b.bH.an.length≤1000000)(hsl:b.jB.length≤1000000)(hd:yq b w lv u price=(b',e))(he:e=0):
  lim T (.call false fY [.ref σ.length 6 0 0,.str nm,.aH 4 [.int .i64 w,.int .i64 lv,.int .i64 u,.int .i64 price]] (F::b.bw σ.length er::σ))=some (.val (.dG []) (F::b'.bw σ.length er::σ)):=by
 refine gw vP kF.eq_1 rfl (by simp) ?_;unfold yq at hd;split at hd
 case isTrue=>cases hd;cases he
 rename_i c1;split at hd
 case isFalse=>cases hd;cases he
 rename_i c2;split at hd
 case isFalse=>cases hd;rename_i h;exact absurd he h
 rename_i c3;cases hd;have htl:b.bH.ck.length≤20:=by
  simp only[ku,af]at ht;have:=ba.1 ht.1;omega
 have c1a:bS b.ar≠[]:=fun h=>c1 (.inl h)
 have c1b:b.av≠[]:=fun h=>c1 (.inr h)
 have q1:0<(bS b.ar).length:=aK.2 c1a;have q2:0<b.av.length:=aK.2 c1b;have hLf:=fun S=>Eh (σ:=σ) (b:=b) (er:=er) (S:=S) (by omega)
 simp only[Bk.bw,Bk.cells]at hLf;have hc2:=c2;simp only[E2,af]at hc2;obtain⟨k1,k2,k3,k4⟩:=hc2;have i1:=ba.1 k1;have i2:=ba.1 k2;have i3:=ba.1 k3;have i4:=ba.1 k4;obtain⟨w,rfl⟩:∃n:Nat,w=n:=⟨w.toNat,by omega⟩;obtain⟨lv,rfl⟩:∃n:Nat,lv=n:=⟨lv.toNat,by omega⟩;obtain⟨u,rfl⟩:∃n:Nat,u=n:=⟨u.toNat,by omega⟩;simp only[BW,Br,Int.toNat_natCast]at c3 ⊢;have w1:IntKind.i64.wrap ((b.bH.an.length:Int)-1)=b.bH.an.length-1:=fR (by omega);have w2:IntKind.i64.wrap ((b.bH.ck.length:Int)-1)=b.bH.ck.length-1:=fR (by omega);have w3:IntKind.i64.wrap ((b.dU.length:Int)-1)=b.dU.length-1:=fR (by omega);have hL:=Mn (σ:=σ) (F:=F) (er:=er) (ls:=bS b.ar) (w:=w) (lv:=lv) (u:=u) (price:=price) ht (fun e he=>hok e (bY.1 he).1) (fun e he=>hrun e (bY.1 he).1 (bY.1 he).2) c1b (by have:=jb (fun e:mD=>e.left) b.ar;simp only[bS];omega) (by omega) (by omega) (by omega) huk (bS b.ar).length 0 [] (by omega) rfl;rw[aO]at hL;simp[-length_flatMap,-map_take,Bk.bw,Bk.cells,hLf,q1,q2,cA,ff,w1,w2,w3,k1,k2,k3,k4];refine WL.to hL (by simp) (by simp[Bk.bw,Bk.cells]) ?_;intro x e σ' hq;simp only[D8,if_pos c3,List.nil_append]at hq;obtain⟨rfl,g0,g7,g10,g11,rfl⟩:=hq;have hbs:∀x∈(bS b.ar).map (fun e=>gF b w lv u e.m),0≤x∧x≤1000000000:=by
  intro x hx;simp only[bK]at hx;obtain⟨e,he,rfl⟩:=hx;exact P5 (by omega) huk (qU c3 e he)
 have hwl2:((bS b.ar).map (fun e=>gF b w lv u e.m)).length=(bS b.ar).length:=by simp
 have hlm:(bS b.ar).length≤40:=by have:=jb (fun e:mD=>e.left) b.ar;simp only[bS];omega
 generalize hws:(bS b.ar).map (fun e=>gF b w lv u e.m)=ws at *
 have hwne:ws≠[]:=by intro hh;rw[hh]at hwl2;simp at hwl2;omega
 obtain⟨⟨m1,m2⟩,m3,m4⟩:=au6 (by omega) hbs;have hSp:=fun σ=>amh (σ:=σ) hwne (by omega)
 generalize hlo:Cm ws=lo at *
 generalize hhi:Ck ws=hi at *
 have p1:0≤lo*price:=dI m1 i4.1;have p2:lo*price≤1000000000*1000:=ic m2 i4.2 i4.1 (by omega);have p3:0≤hi*price:=dI m3 i4.1;have p4:hi*price≤1000000000*1000:=ic m4 i4.2 i4.1 (by omega);have w4:IntKind.i64.wrap (lo*price)=lo*price:=fR (by omega);have w5:IntKind.i64.wrap (hi*price)=hi*price:=fR (by omega);have hfr:∀S:SK,S.length=σ.length+1+1→cz 0 16 (.sl (σ.length+1+1) 0 ws.length 0 ws.length 1) ([.cells ws.length (ws.flatMap aT)]::S)=(.aH ws.length (ws.flatMap aT),[.dead]::S):=by
  intro S hS;have:=DW (f:=aT) (w:=1) (fun _=>rfl) (fun _=>by simp[D.clean]) (l:=ws) (j:=0) (v:=ws.length) (bs:=[Abs.aE.cells ws.length (ws.flatMap aT)]) (σ:=S) (by intro h;subst h;simp at hS) (by simp);rw[hS]at this;simpa using this
 have r2:(b.jB.length+1)*48≤room:=by unfold room;omega
 have r3:=agm b.jB;have r4:(b.jB.flatMap LU.enc).take (b.jB.length*6)=b.jB.flatMap LU.enc:=aj (by omega);simp[-length_flatMap,-map_take,g0,g7,g10,g11,hfr,hSp,Bk.bw,Bk.cells,w4,w5,r2,r3,r4,P4,bq,hlo,hhi]
theorem Ss{F:List Abs.aE}{b:Bk}{er:List Int}{nm:List UInt8}{w lv u price:Int}{b':Bk}{e:Int}(ht:bS b.ar≠[]→ku b.bH.ck=true)(hml:b.ar.length≤40)(hok:∀e∈b.ar,Ok b.bH [e.m] b.av)(hrun:∀e∈b.ar,e.left=true→∃r,Rock.run b.bH e.m b.av=some r)(huk:∀x∈b.dU,x.ok=true)(hul:b.dU.length≤10)(hwl:b.bH.an.length≤1000000)(hsl:b.jB.length≤1000000)(hd:yq b w lv u price=(b',e))(he:e≠0):
  lim T (.call false fY [.ref σ.length 6 0 0,.str nm,.aH 4 [.int .i64 w,.int .i64 lv,.int .i64 u,.int .i64 price]] (F::b.bw σ.length er::σ))=some (.fQ (rf e) (F::b.bw σ.length er::σ)):=by
 refine ef vP kF.eq_1 rfl ?_;have hLf:=fun S=>Eh (σ:=σ) (b:=b) (er:=er) (S:=S) (by omega)
 simp only[Bk.bw,Bk.cells]at hLf;unfold yq at hd;split at hd
 case isTrue c1 =>
  cases hd;by_cases c1a:bS b.ar=[]
  ·simp[-length_flatMap,-map_take,Bk.bw,Bk.cells,hLf,c1a,dC,D.clean,rf]
  ·have q1:0<(bS b.ar).length:=aK.2 c1a;have c1b:b.av=[]:=c1.resolve_left c1a;simp[-length_flatMap,-map_take,Bk.bw,Bk.cells,hLf,q1,c1b,dC,D.clean,rf]
 rename_i c1;have c1a:bS b.ar≠[]:=fun h=>c1 (.inl h)
 have c1b:b.av≠[]:=fun h=>c1 (.inr h)
 have ht:=ht c1a;have htl:b.bH.ck.length≤20:=by
  simp only[ku,af]at ht;have:=ba.1 ht.1;omega
 have q1:0<(bS b.ar).length:=aK.2 c1a;have q2:0<b.av.length:=aK.2 c1b;have w1:IntKind.i64.wrap ((b.bH.an.length:Int)-1)=b.bH.an.length-1:=fR (by omega);have w2:IntKind.i64.wrap ((b.bH.ck.length:Int)-1)=b.bH.ck.length-1:=fR (by omega);have w3:IntKind.i64.wrap ((b.dU.length:Int)-1)=b.dU.length-1:=fR (by omega);split at hd
 case isFalse c2 =>
  cases hd;simp only[E2]at c2;cases k1:cG w 0 ((b.bH.an.length:Int)-1)
  ·simp[-length_flatMap,-map_take,Bk.bw,Bk.cells,hLf,q1,q2,cA,ff,w1,w2,w3,k1,dC,D.clean,rf]
  cases k2:cG lv 0 ((b.bH.ck.length:Int)-1)
  ·simp[-length_flatMap,-map_take,Bk.bw,Bk.cells,hLf,q1,q2,cA,ff,w1,w2,w3,k1,k2,dC,D.clean,rf]
  cases k3:cG u 0 ((b.dU.length:Int)-1)
  ·simp[-length_flatMap,-map_take,Bk.bw,Bk.cells,hLf,q1,q2,cA,ff,w1,w2,w3,k1,k2,k3,dC,D.clean,rf]
  cases k4:cG price 0 1000
  ·simp[-length_flatMap,-map_take,Bk.bw,Bk.cells,hLf,q1,q2,cA,ff,w1,w2,w3,k1,k2,k3,k4,dC,D.clean,rf]
  ·exact absurd (by simp[k1,k2,k3,k4]) c2
 rename_i c2;split at hd
 case isTrue=>cases hd;exact absurd rfl he
 rename_i c3;cases hd;have hc2:=c2;simp only[E2,af]at hc2;obtain⟨k1,k2,k3,k4⟩:=hc2;have i1:=ba.1 k1;have i2:=ba.1 k2;have i3:=ba.1 k3;obtain⟨w,rfl⟩:∃n:Nat,w=n:=⟨w.toNat,by omega⟩;obtain⟨lv,rfl⟩:∃n:Nat,lv=n:=⟨lv.toNat,by omega⟩;obtain⟨u,rfl⟩:∃n:Nat,u=n:=⟨u.toNat,by omega⟩;simp only[BW,Int.toNat_natCast]at c3 ⊢;have hL:=Mn (σ:=σ) (F:=F) (er:=er) (ls:=bS b.ar) (w:=w) (lv:=lv) (u:=u) (price:=price) ht (fun e he=>hok e (bY.1 he).1) (fun e he=>hrun e (bY.1 he).1 (bY.1 he).2) c1b (by have:=jb (fun e:mD=>e.left) b.ar;simp only[bS];omega) (by omega) (by omega) (by omega) huk (bS b.ar).length 0 [] (by omega) rfl;rw[aO]at hL;simp[-length_flatMap,-map_take,Bk.bw,Bk.cells,hLf,q1,q2,cA,ff,w1,w2,w3,k1,k2,k3,k4];refine WL.to hL (by simp) (by simp[Bk.bw,Bk.cells]) ?_;intro x e σ' hq;simp only[D8,if_neg c3]at hq;obtain⟨rfl,s,rfl⟩:=hq;simp[Bk.bw,Bk.cells,D.clean,rf]
def Q5:List Int→List Rw
 |a::b::c::d::e::l=>⟨a,b,c,d,e⟩::Q5 l
 |_=>[]
def Q4:List Int→List Trem.wy
 |a::b::c::d::l=>⟨⟨a,b,c⟩,d⟩::Q4 l
 |_=>[]
def HS:List Int→List (Int×Int)
 |a::b::l=>(a,b)::HS l
 |_=>[]
theorem Pz:∀(m:Nat) {l:List Int},l.length=m*5→(Q5 l).flatMap Rw.enc=l.flatMap aT∧(Q5 l).length=m
 |0,l,h=>by
  have:l=[]:=bP.1 (by omega);subst this;exact⟨rfl,rfl⟩
 |m+1,l,h=>by
  match l,h with
  |a::b::c::d::e::l,h =>
   have ih:=Pz m (l:=l) (by simp at h;omega);simp[Q5,ih.1,ih.2,aT]
  |[],h=>simp at h
  |[_],h=>simp at h;omega
  |[_,_],h=>simp at h;omega
  |[_,_,_],h=>simp at h;omega
  |[_,_,_,_],h=>simp at h;omega
theorem Py:∀(m:Nat) {l:List Int},l.length=m*4→(Q4 l).flatMap Trem.wy.enc=l.flatMap aT∧(Q4 l).length=m
 |0,l,h=>by
  have:l=[]:=bP.1 (by omega);subst this;exact⟨rfl,rfl⟩
 |m+1,l,h=>by
  match l,h with
  |a::b::c::d::l,h =>
   have ih:=Py m (l:=l) (by simp at h;omega);simp[Q4,ih.1,ih.2,aT]
  |[],h=>simp at h
  |[_],h=>simp at h;omega
  |[_,_],h=>simp at h;omega
  |[_,_,_],h=>simp at h;omega
theorem Jr:∀(m:Nat) {l:List Int},l.length=m*2→(HS l).flatMap yC=l.flatMap aT∧(HS l).length=m
 |0,l,h=>by
  have:l=[]:=bP.1 (by omega);subst this;exact⟨rfl,rfl⟩
 |m+1,l,h=>by
  match l,h with
  |a::b::l,h =>
   have ih:=Jr m (l:=l) (by simp at h;omega);simp[HS,ih.1,ih.2,aT,yC]
  |[],h=>simp at h
  |[_],h=>simp at h;omega
def LO(p:Int×Int):Prt:=⟨p.1,p.2⟩
theorem af8(l:List (Int×Int)):(l.map LO).flatMap Prt.enc=l.flatMap yC:=by
 induction l with
 |nil=>rfl
 |cons p l ih=>simp only[aP,aZ,ih];rfl
def aeg:List Int→Trem.eI
 |[x0,x1,x2,x3,x4,x5,x6,x7,x8,x9]=>⟨⟨x0,x1,x2⟩,⟨x3,x4,x5⟩,x6,x7,x8,x9⟩
 |_=>⟨⟨0,0,0⟩,⟨0,0,0⟩,0,0,0,0⟩
def yr(b:Bk)(k:Nat)(nm:List UInt8)(l:List Int):Bk×Int :=
 match k with
 |0=>match l with
  |[x,y,z,k]=>zC b x y z k
  |_=>(b,4)
 |1=>zG b (Q5 l)
 |2=>match l with
  |[x,y,z]=>GS b x y z
  |_=>(b,4)
 |3=>match l with
  |[x,y,z]=>zJ b x y z
  |_=>(b,4)
 |4=>zD b ⟨nm,l⟩
 |5=>match l with
  |k::lo::hi::r=>GU b (rN nm k lo hi (HS r))
  |_=>(b,4)
 |6=>C4 b (aeg l) (aeg l).QL
 |7=>match l with
  |[x,y,z]=>if Trem.rh x y z=true then(Le b x y z,0)else(b,1)
  |_=>(b,4)
 |8=>zE b (Q4 l)
 |9=>zH b l
 |10=>match l with
  |[w,i,lo,hi]=>zF b ⟨b.av.length,w,i,lo,hi⟩
  |_=>(b,4)
 |11=>match l with
  |i::r=>C5 b ⟨i,(HS r).map LO⟩
  |_=>(b,4)
 |12=>match l with
  |[w,lv,u,p]=>yq b w lv u p
  |_=>(b,4)
 |_=>(b,4)
def pG(b:Bk)(n:Int)(s:List UInt8):Bk×Int:=match parse s with
 |some (w,nm,l)=>yr {b with at_:=n } w.k nm l
 |none=>(b,4)
structure Kv(n:Nat)(b:Bk):Prop where
 ck:b.bH.ck=[]∨ku b.bH.ck=true
 ready:b.ready=true→b.bH.valid=true
 an:b.ready=false→b.bH.an=[]
 ms:b.ar≠[]→b.ready=true
 ml:b.ar.length≤40
 wl:b.o7.length=b.ar.length
 fit:∀e∈b.ar,Bd b.bH e.m=true∧e.m.name.length≤1000000∧e.m.bh.length≤1000000
 pm:b.av≠[]→b.ar≠[]
 pl:vV b.bH b.av=0
 An:∀e∈b.ar,e.left=true→∃r,Rock.run b.bH e.m b.av=some r
 rules:b.rules.length≤20
 zg:b.zg.length≤200
 LG:∀e∈b.zg,e.ok=true
 keep:Trem.rh b.k0 b.k1 b.k2=true
 dU:b.dU.length≤10
 uok:∀u∈b.dU,u.ok=true
 jB:b.jB.length≤n
theorem Qf{t:List Rw}(h:t=[]∨ku t=true):t.length≤20:=by
 rcases h with rfl | h
 ·simp
 ·simp only[ku,af]at h;have:=ba.1 h.1;omega
theorem Dk{t:List Rw}(h:ku t=true):t≠[]:=by
 intro hh;subst hh;simp[ku,cG]at h
theorem Fu{s:List UInt8}{w:Wd}{nm:List UInt8}{l:List Int}(h:parse s=some (w,nm,l)):(∃a,xo a=some w)∧EF w l.length=true∧nm.length≤s.length∧l.length≤s.length+1:=by
 have hlen:=z8 32 s;have hle:=D9 32 s;unfold parse at h;cases hsp:cZ 32 s with
 |nil=>exact absurd hsp (uT 32 s)
 |cons a all =>
 rw[hsp]at h hlen hle;simp only[aL]at hlen;simp only at h;cases hw:xo a with
 |none=>rw[hw]at h;cases h
 |some w0 =>
 rw[hw]at h;simp only at h;have key:∀nm0 (l0:List (List UInt8)),tY w0 nm0 l0=some (w,nm,l)→w0=w∧nm0=nm∧EF w l.length=true∧l.length=l0.length:=by
  intro nm0 l0 hp;unfold tY at hp;cases hm:oz l0 with
  |none=>rw[hm]at hp;cases hp
  |some ns =>
   rw[hm]at hp;simp only[aB,ae,ak]at hp;obtain⟨hf,rfl,rfl,rfl⟩:=hp;exact⟨rfl,rfl,hf,y7 hm⟩
 split at h
 ·cases all with
  |nil=>cases h
  |cons n r =>
   obtain⟨rfl,rfl,h3,h4⟩:=key n r h;refine⟨⟨a,hw⟩,h3,hle n (by simp),?_⟩;simp at hlen;omega
 ·obtain⟨rfl,rfl,h3,h4⟩:=key [] all h;exact⟨⟨a,hw⟩,h3,by simp,by omega⟩
def doR(F:List Abs.aE)(b:Bk)(er:List Int)(σ:SK)(r:Bk×Int):R:=if r.2=0 then .val (.dG []) (F::r.1.bw σ.length er::σ)else .fQ (rf r.2) (F::b.bw σ.length er::σ)
theorem uJ{F:List Abs.aE}{b:Bk}{er:List Int}{r:Bk×Int}{q:Q}(h1:∀b' e,r=(b',e)→e=0→lim T q=some (.val (.dG []) (F::b'.bw σ.length er::σ)))(h2:∀b' e,r=(b',e)→e≠0→lim T q=some (.fQ (rf e) (F::b.bw σ.length er::σ))):
  lim T q=some (doR F b er σ r):=by
 obtain⟨b',e⟩:=r;unfold doR;by_cases he:e=0
 ·rw[if_pos he];exact h1 b' e rfl he
 ·rw[if_neg he];exact h2 b' e rfl he
theorem yy{l:List Int}{n:Nat}(h:l.length=n+1):∃a r,l=a::r∧r.length=n:=by
 cases l with
 |nil=>simp at h
 |cons a r=>exact⟨a,r,rfl,by simpa using h⟩
theorem adM{l:List Int}(h:l.length=3):∃a0 a1 a2,l=[a0,a1,a2]:=by
 obtain⟨a0,r0,e0,h0⟩:=yy (n:=2) h;obtain⟨a1,r1,e1,h1⟩:=yy (n:=1) h0;obtain⟨a2,r2,e2,h2⟩:=yy (n:=0) h1;have e:=bP.1 h2;exact⟨a0,a1,a2,by rw[e0,e1,e2,e]⟩
theorem adN{l:List Int}(h:l.length=4):∃a0 a1 a2 a3,l=[a0,a1,a2,a3]:=by
 obtain⟨a0,r0,e0,h0⟩:=yy (n:=3) h;obtain⟨a1,r1,e1,h1⟩:=yy (n:=2) h0;obtain⟨a2,r2,e2,h2⟩:=yy (n:=1) h1;obtain⟨a3,r3,e3,h3⟩:=yy (n:=0) h2;have e:=bP.1 h3;exact⟨a0,a1,a2,a3,by rw[e0,e1,e2,e3,e]⟩
theorem aqy{l:List Int}(h:l.length=10):∃a0 a1 a2 a3 a4 a5 a6 a7 a8 a9,l=[a0,a1,a2,a3,a4,a5,a6,a7,a8,a9]:=by
 obtain⟨a0,r0,e0,h0⟩:=yy (n:=9) h;obtain⟨a1,r1,e1,h1⟩:=yy (n:=8) h0;obtain⟨a2,r2,e2,h2⟩:=yy (n:=7) h1;obtain⟨a3,r3,e3,h3⟩:=yy (n:=6) h2;obtain⟨a4,r4,e4,h4⟩:=yy (n:=5) h3;obtain⟨a5,r5,e5,h5⟩:=yy (n:=4) h4;obtain⟨a6,r6,e6,h6⟩:=yy (n:=3) h5;obtain⟨a7,r7,e7,h7⟩:=yy (n:=2) h6;obtain⟨a8,r8,e8,h8⟩:=yy (n:=1) h7;obtain⟨a9,r9,e9,h9⟩:=yy (n:=0) h8;have e:=bP.1 h9;exact⟨a0,a1,a2,a3,a4,a5,a6,a7,a8,a9,by rw[e0,e1,e2,e3,e4,e5,e6,e7,e8,e9,e]⟩
theorem C6{w:Wd}{n:Nat}(h:EF w n=true)(hs:w.step=0):(n:Int)=w.least:=by
 simp only[EF,bX,af,au]at h;omega
theorem F3{w:Wd}{n:Nat}(h:EF w n=true)(hs:0<w.step)(hl:0≤w.least):w.least≤n∧((n:Int)-w.least)%w.step=0:=by
 simp only[EF,bX,af,au]at h;rcases h with h | ⟨h1,h2,h3⟩
 ·refine⟨by omega,?_⟩;rw[h];simp
 ·refine⟨by omega,?_⟩;rwa[Int.tmod_eq_emod_of_nonneg (by omega)]at h3
theorem Ok.one{b:cr}{m:cN}{av:List (List Int)}(hb:b.valid=true)(hf:Bd b m=true)(hp:vV b av=0)(hn:m.name.length≤1000000000):Ok b [m] av:=by
 have hbv:=Bv.of hb;have hfit:fits b m=true:=by simp only[Bd,af]at hf;exact hf.2
 have hfv:=Fv.of hf;have hm:b.f.ar [m]=0:=by
  have h:=hfit;simp only[fits,af,au]at h;have h1:=h.1;unfold gR at h1;rw[if_pos hbv.fv]at h1;exact h1
 obtain⟨p1,p2⟩:=zU hp;exact⟨hbv,hb,by simp,hm,by simpa using hfit,by simpa using hfv,by intro x hx;simp at hx;subst hx;exact⟨hn,hfv.toMv.le.2⟩,hp,p1,p2⟩
theorem MR{b:cr}{m:cN}(hb:b.valid=true)(hf:Bd b m=true):b.f.model m=0:=by
 have hfit:fits b m=true:=by simp only[Bd,af]at hf;exact hf.2
 rw[Po (Bv.of hb),af,au]at hfit;exact hfit.1
theorem axa{F:List Abs.aE}{b:Bk}{er:List Int}{s:List UInt8}{w:Wd}{nm:List UInt8}{l:List Int}{n:Nat}(hK:Kv n b)(hn:n≤1000000)(hp:parse s=some (w,nm,l))(hs:s.length≤4000):
  lim T (.call false ((IF[w.k]?).getD 0) [.ref σ.length 6 0 0,.str nm,.aH l.length (l.flatMap aT)] (F::b.bw σ.length er::σ))=some (doR F b er σ (yr b w.k nm l)):=by
 obtain⟨⟨a,ha⟩,hfit,hnm,hll⟩:=Fu hp;have htl:=Qf hK.ck;have hv:b.ready=true→Bv b.bH:=fun h=>Bv.of (hK.ready h)
 have hrt:b.ready=true→ku b.bH.ck=true:=fun h=>(hv h).ck
 have hwl:b.bH.an.length≤8:=by
  cases hr:b.ready with
  |true=>exact(hv hr).an
  |false=>rw[hK.an hr];simp
 have hmr:b.ar≠[]→ku b.bH.ck=true:=fun h=>hrt (hK.ms h)
 have hlm:bS b.ar≠[]→b.ar≠[]:=fun h hh=>h (by rw[hh];rfl)
 have hz:Sz b:=⟨by omega,by omega,fun e he=>⟨by have:=(hK.fit e he).2.1;omega,by have:=(hK.fit e he).2.2;omega⟩⟩;have hplz:=zU hK.pl;have hbv:b.ar≠[]→b.bH.valid=true:=fun h=>hK.ready (hK.ms h)
 have hne:∀e∈b.ar,b.ar≠[]:=fun e he hh=>by rw[hh]at he;cases he
 have hok:∀e∈b.ar,Ok b.bH [e.m] b.av:=fun e he=>Ok.one (hbv (hne e he)) (hK.fit e he).1 hK.pl (hz.ms e he).1
 have hfm:∀e∈b.ar,b.bH.f.model e.m=0:=fun e he=>MR (hbv (hne e he)) (hK.fit e he).1
 have hsp:∀e∈b.zg,e.sp.length≤1000000:=fun e he=>by
  have:=hK.LG e he;simp only[Trem.Ev.ok,af]at this;have:=Trem.ba.1 this.2.1;omega
 have h1:=BE ha;simp only[ot,aW,ak,List.not_mem_nil,or_false]at h1;rcases h1 with⟨_,rfl⟩ | ⟨_,rfl⟩ | ⟨_,rfl⟩ | ⟨_,rfl⟩ | ⟨_,rfl⟩ | ⟨_,rfl⟩ | ⟨_,rfl⟩ | ⟨_,rfl⟩ | ⟨_,rfl⟩ | ⟨_,rfl⟩ | ⟨_,rfl⟩ | ⟨_,rfl⟩ | ⟨_,rfl⟩
 ·have hl:l.length=4:=by
   have h:(l.length:Int)=4:=C6 hfit rfl;omega
  obtain⟨x,y,z,k,rfl⟩:=adN hl;exact uJ (fun b' e hd he=>aeZ hd he) (fun b' e hd he=>Qo hd he)
 ·have hl:=(F3 hfit (by decide) (by decide)).2;simp only[Int.sub_zero]at hl;obtain⟨h5,h6⟩:=Pz (l.length / 5) (l:=l) (by omega);have hlen:(Q5 l).length*5=l.length:=by omega
  rw[← h5,← hlen];exact uJ (fun b' e hd he=>afi (by omega) hd he) (fun b' e hd he=>Qz (by omega) hd he)
 ·have hl:l.length=3:=by
   have h:(l.length:Int)=3:=C6 hfit rfl;omega
  obtain⟨x,y,z,rfl⟩:=adM hl;exact uJ (fun b' e hd he=>al5 (by omega) (by omega) hd he) (fun b' e hd he=>RZ (by omega) (by omega) hd he)
 ·have hl:l.length=3:=by
   have h:(l.length:Int)=3:=C6 hfit rfl;omega
  obtain⟨x,y,z,rfl⟩:=adM hl;refine uJ (fun b' e hd he=>?_) (fun b' e hd he=>SA (fun h=>Dk (hrt h)) (by omega) (by omega) hd he);have hr:b.ready=true:=by
   have hd2:zJ b x y z=(b',e):=hd;unfold zJ at hd2;split at hd2
   ·rename_i h;exact h.1
   ·cases hd2;cases he
  exact amn (Dk (hrt hr)) (by omega) (by omega) hd he
 ·exact uJ (fun b' e hd he=>Sd (m:=⟨nm,l⟩) (by omega) (by omega) (by simp;omega) (by simp;omega) hK.wl hd he) (fun b' e hd he=>Qq (m:=⟨nm,l⟩) (by omega) (by omega) (by simp;omega) (by simp;omega) hK.ml hd he)
 ·obtain⟨hl1,hl2⟩:=F3 hfit (by decide) (by decide);simp only at hl1 hl2;obtain⟨k,l,rfl,hl⟩:=yy (n:=l.length-1) (l:=l) (by omega);simp only[aL]at hl1 hl2 hll;obtain⟨lo,l,rfl,hl⟩:=yy (n:=l.length-1) (l:=l) (by omega);simp only[aL]at hl1 hl2 hll;obtain⟨hi,l,rfl,hl⟩:=yy (n:=l.length-1) (l:=l) (by omega);simp only[aL]at hl1 hl2 hll;obtain⟨h5,h6⟩:=Jr (l.length / 2) (l:=l) (by omega);have hlen:(HS l).length*2+3=l.length+1+1+1:=by omega
  simp only[aZ,aL,aT,eP];rw[← h5,← hlen];refine uJ (fun b' e hd he=>amc (by omega) (by omega) hK.wl hK.ml (fun e he=>⟨hfm e he,hz.ms e he⟩) hd he) (fun b' e hd he=>ae6 (by omega) (by omega) hd he)
 ·have hl:l.length=10:=by
   have h:(l.length:Int)=10:=C6 hfit rfl;omega
  obtain⟨x0,x1,x2,x3,x4,x5,x6,x7,x8,x9,rfl⟩:=aqy hl;exact uJ (fun b' e hd he=>ame hd he) (fun b' e hd he=>Sp hd he)
 ·have hl:l.length=3:=by
   have h:(l.length:Int)=3:=C6 hfit rfl;omega
  obtain⟨x,y,z,rfl⟩:=adM hl;refine uJ (fun b' e hd he=>?_) (fun b' e hd he=>?_)
  ·have hd2:(if Trem.rh x y z=true then(Le b x y z,0)else(b,1))=(b',e):=hd;split at hd2
   ·rename_i h;cases hd2;exact al9 h
   ·cases hd2;cases he
  ·have hd2:(if Trem.rh x y z=true then(Le b x y z,0)else(b,1))=(b',e):=hd;split at hd2
   ·cases hd2;exact absurd rfl he
   ·rename_i h;cases hd2;exact R9 (by simpa using h)
 ·have hl:=(F3 hfit (by decide) (by decide)).2;simp only[Int.sub_zero]at hl;obtain⟨h5,h6⟩:=Py (l.length / 4) (l:=l) (by omega);have hlen:(Q4 l).length*4=l.length:=by omega
  rw[← h5,← hlen];exact uJ (fun b' e hd he=>ae9 (by omega) hd he) (fun b' e hd he=>Qu (by omega) hd he)
 ·have hpl:∀r∈b.av,r.length≤1000000000:=fun r hr=>by have:=(hplz.2 r hr).len;omega
  refine uJ (fun b' e hd he=>?_) (fun b' e hd he=>Su (fun h=>Dk (hmr (hlm h))) hz (by omega) hK.ml (by have:=hK.rules;omega) (by have:=hK.zg;omega) hsp hK.keep hpl hd he);have hr:bS b.ar≠[]:=by
   have hd2:zH b l=(b',e):=hd;unfold zH at hd2;split at hd2
   ·cases hd2;cases he
   ·rename_i h;exact h
  exact afj (Dk (hmr (hlm hr))) hz (by omega) hK.ml (by have:=hK.rules;omega) (by have:=hK.zg;omega) hsp hK.keep hpl hd he
 ·have hl:l.length=4:=by
   have h:(l.length:Int)=4:=C6 hfit rfl;omega
  obtain⟨w,i,lo,hi,rfl⟩:=adN hl;refine uJ (fun b' e hd he=>?_) (fun b' e hd he=>Sk (fun h=>Dk (hmr (hlm h))) hK.ml hok hd he);have hr:bS b.ar≠[]:=by
   have hd2:zF b ⟨b.av.length,w,i,lo,hi⟩=(b',e):=hd;unfold zF at hd2;split at hd2
   ·cases hd2;cases he
   ·rename_i h;exact h
  exact afd (Dk (hmr (hlm hr))) hK.wl hK.ml hok hK.An hd he
 ·obtain⟨hl1,hl2⟩:=F3 hfit (by decide) (by decide);simp only at hl1 hl2;obtain⟨i,l,rfl,hl⟩:=yy (n:=l.length-1) (l:=l) (by omega);simp only[aL]at hl1 hl2 hll;obtain⟨h5,h6⟩:=Jr (l.length / 2) (l:=l) (by omega);have hlen:((HS l).map LO).length*2+1=l.length+1:=by simp;omega
  simp only[aZ,aL,aT,eP];rw[← h5,← hlen,← af8];exact uJ (fun b' e hd he=>amk (u:=⟨i,(HS l).map LO⟩) (by simp;omega) hd he) (fun b' e hd he=>Sw (u:=⟨i,(HS l).map LO⟩) (by simp;omega) hd he)
 ·have hl:l.length=4:=by
   have h:(l.length:Int)=4:=C6 hfit rfl;omega
  obtain⟨w,i,lo,hi,rfl⟩:=adN hl;refine uJ (fun b' e hd he=>?_) (fun b' e hd he=>Ss (fun h=>hmr (hlm h)) hK.ml hok hK.An hK.uok hK.dU (by omega) (by have:=hK.jB;omega) hd he);have hr:bS b.ar≠[]:=by
   have hd2:yq b w i lo hi=(b',e):=hd;unfold yq at hd2;split at hd2
   ·cases hd2;cases he
   ·rename_i h;exact fun hh=>h (.inl hh)
  exact afh (hmr (hlm hr)) hK.ml hok hK.An hK.uok hK.dU (by omega) (by have:=hK.jB;omega) hd he
end Go.Proofs.YtfgljaglidhjiaaGreatDoor
namespace Go.Proofs.YtfgljaglidhjiaaGreatDoor
open List(length_flatMap map_take)
open Go Go.Abs Go.Rock Go.Book
theorem Kv.le{n m:Nat}{b:Bk}(h:Kv n b)(hn:n≤m):Kv m b:={h with jB:=jE h.jB hn }
theorem Kv.zero:Kv 0 rO:=by
 refine⟨.inl rfl,by simp[rO],fun _=>rfl,by simp[rO],by simp[rO],rfl,by simp[rO],by simp[rO],?_,by simp[rO],by simp[rO],by simp[rO],by simp[rO],by decide,by simp[rO],by simp[rO],by simp[rO]⟩;simp[rO,vV,da]
theorem BN{b:cr}:vV b []=0:=by simp[vV,da]
theorem SS{b:cr}(h:b.valid=true):b.ck≠[]∧¬((b.f.x=0∧b.f.y=0)∧b.f.z=0∧b.f.k=0):=by
 have hv:=Bv.of h;refine⟨Dk hv.ck,fun hh=>?_⟩;have:=hv.x;omega
theorem Kv.Jy{n:Nat}{b:Bk}(h:Kv n b)(hm:b.ar=[]):b.av=[]:=by
 by_cases hp:b.av=[]
 ·exact hp
 ·exact absurd hm (h.pm hp)
theorem Kv.Hb{n:Nat}{b:Bk}(h:Kv n b)(hr:b.ready=false):b.ar=[]:=by
 by_cases hp:b.ar=[]
 ·exact hp
 ·rw[h.ms hp]at hr;cases hr
theorem Kv.asQ{n:Nat}{b:Bk}(h:Kv n b)(k:Int):Kv n {b with at_:=k }:={h with }
theorem agl{b:cr}{m:cN}:∃r,Rock.run b m []=some r:=⟨_,rfl⟩
theorem Qd{b:Bk}{lo hi:Int}{val:cN→Int}{x:mD}(h:x∈(wx b lo hi val).ar):∃e∈b.ar,x.m=e.m∧(x.left=true→e.left=true):=by
 simp only[wx,Bk.kA,List.mem_mapIdx]at h;obtain⟨i,hi,rfl⟩:=h;refine⟨b.ar[i],List.getElem_mem hi,?_⟩;rw[if_pos hi];unfold Go.Book.ez;split<;>simp
theorem Kv.aey{n:Nat}{b:Bk}(h:Kv n b){lo hi:Int}{val:cN→Int}:Kv n (wx b lo hi val):=by
 have hl:(wx b lo hi val).ar.length=b.ar.length:=Ea;have hn:(wx b lo hi val).ar=[]↔b.ar=[]:=by rw[← bP,hl,bP]
 refine {ck:=h.ck,ready:=h.ready,an:=h.an,ms:=fun hh=>h.ms (fun h2=>hh (hn.2 h2)),ml:=by rw[hl];exact h.ml,wl:=by rw[hl,← h.wl];exact Eb,fit:=fun x hx=>?_,pm:=fun hh h2=>h.pm hh (hn.1 h2),pl:=h.pl,An:=fun x hx hxl=>?_,rules:=h.rules,zg:=h.zg,LG:=h.LG,keep:=h.keep,dU:=h.dU,uok:=h.uok,jB:=h.jB }
 ·obtain⟨e,he,h1,_⟩:=Qd hx;rw[h1];exact h.fit e he
 ·obtain⟨e,he,h1,h2⟩:=Qd hx;rw[h1];exact h.An e he (h2 hxl)
theorem Lj{l:List mD}{e:mD}(h:e∈bS l):e∈l∧e.left=true:=bY.1 h
theorem Kv.word{n:Nat}{b:Bk}(h:Kv n b){s:List UInt8}{w:Wd}{nm:List UInt8}{l:List Int}(hp:parse s=some (w,nm,l))(hs:s.length≤4000):Kv (n+1) (yr b w.k nm l).1:=by
 obtain⟨_,_,hnm,hll⟩:=Fu hp;have h1:=h.le (Nat.le_succ n);generalize w.k=k;unfold yr;split
 ·
  split
  ·unfold zC;split
   ·rename_i hz;split
    ·have hr:b.ready=false:=by
      cases hr:b.ready with
      |false=>rfl
      |true=>exact absurd hz (SS (h.ready hr)).2
     have hm:=h.Hb hr;have hpl:=h.Jy hm;have hno:∀e,e∈b.ar→False:=by rw[hm];simp
     exact {h1 with ck:=h.ck,ready:=fun hh=>(by rw[show b.ready=true from hh]at hr;cases hr),an:=h.an,fit:=fun e he=>(hno e he).elim,pl:=by simp only[hpl];exact BN,An:=fun e he=>(hno e he).elim }
    ·exact h1
   ·exact h1
  ·exact h1
 ·
  unfold zG;split
  ·rename_i hz;split
   ·rename_i ht;have hr:b.ready=false:=by
     cases hr:b.ready with
     |false=>rfl
     |true=>exact absurd hz (SS (h.ready hr)).1
    have hm:=h.Hb hr;have hpl:=h.Jy hm;have hno:∀e,e∈b.ar→False:=by rw[hm];simp
    exact {h1 with ck:=.inr ht,ready:=fun hh=>(by rw[show b.ready=true from hh]at hr;cases hr),an:=h.an,fit:=fun e he=>(hno e he).elim,pl:=by simp only[Nh,hpl];exact BN,An:=fun e he=>(hno e he).elim }
   ·exact h1
  ·exact h1
 ·
  split
  ·rename_i x y z;unfold GS;split
   ·exact h1
   ·rename_i hz;split
    ·rename_i hv;have hr:b.ready=false:=by
      cases hr:b.ready with
      |false=>rfl
      |true=>exact absurd (.inr (.inr hr)) hz
     have hm:=h.Hb hr;have hpl:=h.Jy hm;have hno:∀e,e∈b.ar→False:=by rw[hm];simp
     exact {h1 with ck:=h.ck,ready:=fun _=>hv,an:=fun hh=>(by cases hh),ms:=fun _=>rfl,fit:=fun e he=>(hno e he).elim,pl:=by simp only[Jg,hpl];exact BN,An:=fun e he=>(hno e he).elim }
    ·exact h1
  ·exact h1
 ·
  split
  ·rename_i x y z;unfold zJ;split
   ·rename_i hz;obtain⟨hr,hm⟩:=hz;split
    ·rename_i hv;have hpl:=h.Jy hm;have hno:∀e,e∈b.ar→False:=by rw[hm];simp
     exact {h1 with ck:=h.ck,ready:=fun _=>hv,an:=fun hh=>(by rw[show b.ready=false from hh]at hr;cases hr),fit:=fun e he=>(hno e he).elim,pl:=by simp only[vX,hpl];exact BN,An:=fun e he=>(hno e he).elim }
    ·exact h1
   ·exact h1
  ·exact h1
 ·
  unfold zD;split
  ·rename_i hz;obtain⟨hr,hpl⟩:=hz;split
   ·exact h1
   ·split
    ·rename_i hml;split
     ·rename_i hb;refine {h1 with ms:=fun _=>hr,ml:=by simp[EO];omega,wl:=by simp[EO,h.wl],fit:=fun e he=>?_,pm:=fun hh=>absurd hpl hh,An:=fun e he hl=>?_ }
      ·simp only[EO,bu,List.mem_singleton]at he;rcases he with he | rfl
       ·exact h.fit e he
       ·exact⟨hb,by simp;omega,by simp;omega⟩
      ·simp only[EO];rw[hpl];exact agl
     ·exact h1
    ·exact h1
  ·exact h1
 ·
  split
  ·unfold GU;split
   ·exact h1
   ·split
    ·exact h1.aey
    ·exact h1
  ·exact h1
 ·
  unfold C4;split
  ·split
   ·split
    ·rename_i hl _ _;exact {h1 with rules:=by simp;omega }
    ·exact h1
   ·exact h1
  ·exact h1
 ·
  split
  ·split
   ·rename_i hk;exact {h1 with keep:=hk }
   ·exact h1
  ·exact h1
 ·
  unfold zE;split
  ·rename_i hl;split
   ·rename_i ho;refine {h1 with zg:=by simp[JH];omega,LG:=fun e he=>?_ };simp only[JH,bu,List.mem_singleton]at he;rcases he with he | rfl
    ·exact h.LG e he
    ·exact ho
   ·exact h1
  ·exact h1
 ·
  unfold zH;split
  ·exact h1
  ·rename_i hl;split
   ·split
    ·split
     ·split
      ·rename_i hf;obtain⟨e0,he0⟩:=List.exists_mem_of_ne_nil _ hl;have key:∀e∈bS b.ar,Bd b.bH e.m=true∧vV b.bH (vy b l)=0∧∃r,Rock.run b.bH e.m (vy b l)=some r:=by
        intro e he;have hz:=qU hf e he;have hb:=(h.fit e (Lj he).1).1;simp only[sj,hb,if_true]at hz;split at hz
        ·rename_i hq;cases hr:Rock.run b.bH e.m (vy b l)with
         |none=>rw[hr]at hz;cases hz
         |some r=>exact⟨hb,hq,r,rfl⟩
        ·rename_i hq;exact absurd hz hq
       refine {h1 with pm:=fun _ hh=>?_,pl:=(key e0 he0).2.1,An:=fun e he hel=>(key e (bY.2 ⟨he,hel⟩)).2.2 };have:=(Lj he0).1;rw[show b.ar=[]from hh]at this;cases this
      ·exact h1
     ·exact h1
    ·exact h1
   ·exact h1
 ·
  split
  ·unfold zF;split
   ·exact h1
   ·split
    ·split
     ·exact h1.aey
     ·exact h1
    ·exact h1
  ·exact h1
 ·
  split
  ·unfold C5;split
   ·rename_i hl;split
    ·rename_i ho;refine {h1 with dU:=by simp[Qh];omega,uok:=fun u hu=>?_ };simp only[Qh,bu,List.mem_singleton]at hu;rcases hu with hu | rfl
     ·exact h.uok u hu
     ·exact ho
    ·exact h1
   ·exact h1
  ·exact h1
 ·
  split
  ·unfold yq;split
   ·exact h1
   ·split
    ·split
     ·exact {h1 with jB:=by have:=h.jB;simp[P4];omega }
     ·exact h1
    ·exact h1
  ·exact h1
 ·exact h1
theorem Kv.line{n:Nat}{b:Bk}(h:Kv n b){s:List UInt8}(hs:s.length≤4000){k:Int}:Kv (n+1) (pG b k s).1:=by
 unfold pG;split
 ·rename_i w nm l hp;exact(h.asQ k).word hp hs
 ·exact h.le (Nat.le_succ n)
end Go.Proofs.YtfgljaglidhjiaaGreatDoor
namespace Go.Abs
open List(length_flatMap map_take)
variable {T:yo}
theorem KA{f:Nat}{fn:Fn}{args:List D}{σ σ':SK}{d:D}{np:Nat}{res:List Dn}{body A q:cH}{fo:bL}{bs:List bL}(hT:T f=some fn)(hf:fn=⟨np,res,body⟩)(hl:args.length=np)(hs:jz body=some (A,fo,bs,q))(hlen:σ'.length=σ.length)
  (h:WC (lim T) A (nj 0 args) ([]::σ) (JZ T fo bs q σ' res d)):
  lim T (.call false f args σ)=some (.val d σ'):=by
 subst hf;obtain⟨x,e1,σ1,h1,rfl,x2,e2,σ2,h2,th,h3,σ3,h4,ds,h5,s,h6⟩:=h;rw[hlen]at h6;refine gW ?_;have hn:aY (lim T) body (nj 0 args) ([]::σ)=none:=xY hs h1;simp only[dp,hT,if_pos hl,aw,if_false,hn,hs,yN,h1,h2];have h4':∃dv,qH (lim T) (bf e1 fo) (bs.map (bf e1)) th σ2=some (.val dv σ3):=by
  unfold vH at h4;split at h4
  ·rename_i h7;cases h4;exact⟨_,h7⟩
  ·cases h4
 obtain⟨dv,h4'⟩:=h4';cases x2 with
 |exit i=>cases h3
 |normal=>cases h3;simp only[yP,h4',uI,leave,h5,h6]
 |ret=>cases h3;simp only[yP,h4',uI,leave,h5,h6]
 |fQ d=>cases h3;simp only[yP,h4',uI,leave,h5,h6]
end Go.Abs
namespace Go.Proofs.YtfgljaglidhjiaaGreatDoor
open List(length_flatMap map_take)
open Go Go.Abs Go.Rock Go.Book
variable {σ:SK}
theorem afx{c:List D}:lim T (.xE cX [.ref σ.length 0 0 0] none ([.cells 0 c]::σ))=some (.val (.dG []) ([.cells 0 c]::σ)):=by
 refine AV uo jc.eq_1 rfl (by simp[-length_flatMap,-map_take,rT];exact⟨rfl,rfl⟩) ?_;simp[-length_flatMap,-map_take]
theorem NK{e:Int}:lim T (.xE cX [.ref σ.length 0 0 0] (some (rf e)) ([.cells 0 [.int .i64 0]]::σ))=some (.val (.dG []) ([.cells 0 [.int .i64 e]]::σ)):=by
 refine AV uo jc.eq_1 rfl (by simp[-length_flatMap,-map_take,rT];exact⟨rfl,rfl⟩) ?_;simp[-length_flatMap,-map_take,rf]
theorem QP{b:Bk}{k:Nat}{nm:List UInt8}{l:List Int}(h:(yr b k nm l).2≠0):(yr b k nm l).1=b:=by
 unfold yr at h ⊢;split;all_goals
  simp only at h
  try unfold Go.Book.zC at *
  try unfold zG at *
  try unfold GS at *
  try unfold zJ at *
  try unfold zD at *
  try unfold GU at *
  try unfold C4 at *
  try unfold zE at *
  try unfold zH at *
  try unfold zF at *
  try unfold C5 at *
  try unfold yq at *
  repeat' split
  all_goals first | rfl | (simp_all)
theorem ama{b:Bk}{er:List Int}{s:List UInt8}{n:Nat}{k:Int}(hK:Kv n b)(hn:n≤1000000)(hs:s.length≤4000):
  lim T (.call false aM [.ref σ.length 6 0 0,.int .i64 k,.str s] (b.bw σ.length er::σ))=some (.val (.int .i64 (pG b k s).2) ((pG b k s).1.bw σ.length er::σ)):=by
 refine KA B7 nJ.eq_1 rfl rfl (by simp) ?_;cases hp:parse s with
 |none =>
  have hP:=fun S=>Mf (σ:=S) (s:=s) (by omega) hp
  have hX:vH T (.fn cX [] [.ref (σ.length+1) 0 0 0]) [] (some (rf 4)) ([.cells 0 [.int .i64 0]]::b.bw σ.length er::σ)=some ([.cells 0 [.int .i64 4]]::b.bw σ.length er::σ):=uG (NK (σ:=b.bw σ.length er::σ));have hd:pG b k s=(b,4):=by simp[pG,hp]
  rw[hd];simp only[Bk.bw,Bk.cells,rf]at hX hP;simp[-length_flatMap,-map_take,JZ,AA,Bk.bw,Bk.cells];rw[yM kU.eq_1];simp[-length_flatMap,-map_take,JZ,AA,Bk.bw,Bk.cells,hP,hX]
 |some p =>
  obtain⟨w,nm,l⟩:=p;have hP:=fun S hS=>Si (σ:=S) (s:=s) (by omega) hS hp
  have hD:=axa (σ:=σ) (F:=[.cells 0 [.int .i64 0]]) (er:=er) (hK.asQ k) hn hp hs;have hd:pG b k s=yr {b with at_:=k } w.k nm l:=by simp[pG,hp]
  rw[hd];have hno:=QP (b:={b with at_:=k }) (k:=w.k) (nm:=nm) (l:=l);generalize yr {b with at_:=k } w.k nm l=r at hD hno ⊢;obtain⟨b',e⟩:=r;have hwc:LZ w=[.bool w.named,.int .i64 w.least,.int .i64 w.step,.fn ((IF[w.k]?).getD 0) [] []]:=rfl;simp only[xU,hwc]at hP;by_cases he:e=0
  ·subst he;have hX:vH T (.fn cX [] [.ref (σ.length+1) 0 0 0]) [] none ([.cells 0 [.int .i64 0]]::b'.bw σ.length er::σ)=some ([.cells 0 [.int .i64 0]]::b'.bw σ.length er::σ):=uG (afx (σ:=b'.bw σ.length er::σ));simp only[doR,if_true]at hD;simp only[Bk.bw,Bk.cells]at hX hD;simp[-length_flatMap,-map_take,JZ,AA,Bk.bw,Bk.cells];rw[yM kU.eq_1];simp[-length_flatMap,-map_take,JZ,AA,Bk.bw,Bk.cells,hP,hD,hX]
  ·have hX:vH T (.fn cX [] [.ref (σ.length+1) 0 0 0]) [] (some (rf e)) ([.cells 0 [.int .i64 0]]::(Bk.bw σ.length {b with at_:=k } er)::σ)=some ([.cells 0 [.int .i64 e]]::(Bk.bw σ.length {b with at_:=k } er)::σ):=uG (NK (σ:=(Bk.bw σ.length {b with at_:=k } er)::σ));simp only[doR,he,if_false]at hD;have hb':b'={b with at_:=k }:=hno he;subst hb';simp only[Bk.bw,Bk.cells,rf]at hX hD;simp[-length_flatMap,-map_take,JZ,AA,Bk.bw,Bk.cells];rw[yM kU.eq_1];simp[-length_flatMap,-map_take,JZ,AA,Bk.bw,Bk.cells,hP,hD,hX]
def tg:Bk→Int→List (List UInt8)→Bk×List Int
 |b,_,[]=>(b,[])
 |b,k,s::l=>((tg (pG b k s).1 (k+1) l).1,(pG b k s).2::(tg (pG b k s).1 (k+1) l).2)
def ub(l:List (List UInt8)):Bk×List Int:=tg rO 0 l
theorem BS:∀{l:List (List UInt8)} {b:Bk} {k:Int},(tg b k l).2.length=l.length
 |[],_,_=>rfl
 |s::l,b,k=>by simp[tg,BS (l:=l)]
def okL(l:List (List UInt8)):Prop:=l.length≤100∧∀s∈l,s.length≤4000
theorem Ly:∀{l:List (List UInt8)} {b:Bk} {k:Int} {n:Nat},Kv n b→(∀s∈l,s.length≤4000)→Kv (n+l.length) (tg b k l).1
 |[],b,k,n,h,_=>h
 |s::l,b,k,n,h,hs=>by
  have h1:=h.line (hs s (by simp)) (k:=k);have h2:=Ly (l:=l) (k:=k+1) h1 fun x hx=>hs x (by simp[hx])
  simp only[tg,aL];rwa[show n+(l.length+1)=n+1+l.length by omega]
theorem SI{lines:List (List UInt8)}(hl:okL lines):∀(m i:Nat) (b:Bk) (er:List Int),i+m=lines.length→er.length=i→Kv i b →
  WL T [4,5,12,13,14] false rp [(4,.ref σ.length 6 0 0),(5,.sl σ.length 7 i 0 i 1),(12,.aH lines.length (lines.flatMap ez)),(13,.int .i64 lines.length),(14,.int .i64 i)] (b.bw σ.length er::σ)
   (fun x e σ'=>x=.exit 0∧get e 4=.ref σ.length 6 0 0∧get e 5=.sl σ.length 7 lines.length 0 lines.length 1∧σ'=(tg b i (lines.drop i)).1.bw σ.length (er++(tg b i (lines.drop i)).2)::σ)
 |0,i,b,er,hi,he,hK=>by
  refine aN rp.eq_1 ?_;obtain rfl:i=lines.length:=by omega
  have h2:lines.drop lines.length=[]:=aA (by omega);simp[-length_flatMap,-map_take,h2,tg]
 |m+1,i,b,er,hi,he,hK=>by
  refine aN rp.eq_1 ?_;have h1:i<lines.length:=by omega
  obtain⟨s,hs⟩:=gE h1;have a1:=bR (f:=ez) (w:=1) (fun _=>rfl) hs;simp only[ez,dX]at a1;have h4:=gG h1 (by have:=hl.1;omega);have hsl:=hl.2 s (ai hs);have hn:=hl.1;have hC:=ama (σ:=σ) (b:=b) (er:=er) (s:=s) (k:=i) hK (by omega) hsl;have hK':=hK.line hsl (k:=i);rw[cS hs];simp only[tg];generalize pG b i s=r at hC hK' ⊢;obtain⟨b',e⟩:=r;have ih:=SI hl m (i+1) b' (er++[e]) (by omega) (by simp[he]) hK';have hel:=Bg er;have het:(er.flatMap aT).take i=er.flatMap aT:=aj (by omega);have hr:(i+1)*8≤room:=by unfold room;omega
  simp only[Bk.bw,Bk.cells,he]at hC;simp[-length_flatMap,-map_take,h1,a1,h4,hC,Bk.bw,Bk.cells,hr,hel,het,he];refine WL.to ih (by simp) (by simp[Bk.bw,Bk.cells,he]) fun x e' σ' hh=>?_
  have e1:((i+1:Nat):Int)=(i:Int)+1:=by omega
  rw[e1]at hh;simpa[Bk.bw,Bk.cells]using hh
theorem amf{lines:List (List UInt8)}(hl:okL lines):lim T (.call true jK [.aH lines.length (lines.flatMap ez)] ([]::σ)) =
  some (.val (.dG [.ref σ.length 6 0 0,.sl σ.length 7 lines.length 0 lines.length 1]) ((ub lines).1.bw σ.length (ub lines).2::σ)):=by
 refine we HG u0.eq_1 rfl ?_;have hL:=SI (σ:=σ) hl lines.length 0 rO [] (by omega) rfl Kv.zero;rw[aO]at hL;simp[-length_flatMap,-map_take];refine WL.to hL (by simp) (by simp[Bk.bw,Bk.cells,rO,nl]) ?_;rintro x e σ' ⟨rfl,g4,g5,rfl⟩;simp[-length_flatMap,-map_take,g4,g5,ub]
end Go.Proofs.YtfgljaglidhjiaaGreatDoor
namespace Go.Proofs.YtfgljaglidhjiaaGreatDoor
open List(length_flatMap map_take)
open Go Go.Abs Go.Rock Go.Book
def z0(e:mD):mD:={e with by_:=0 }
def nmB(b:Bk):Bk:={b with ar:=b.ar.map z0,o7:=[],at_:=0 }
theorem aqA(l:List mD):(l.map z0).map z0=l.map z0:=by
 rw[List.map_map];rfl
theorem ava(b:Bk):nmB (nmB b)=nmB b:=by
 simp only[nmB,aqA]
def SmQ(x y:Bk×Int):Prop:=x.2=y.2∧nmB x.1=nmB y.1
theorem SmQ.ite{c:Prop}{_:Decidable c}{x y x' y':Bk×Int}(h1:c→SmQ x x')(h2:¬c→SmQ y y'):SmQ (if c then x else y) (if c then x' else y'):=by
 by_cases h:c
 ·rw[if_pos h,if_pos h];exact h1 h
 ·rw[if_neg h,if_neg h];exact h2 h
theorem SmQ.no(b:Bk)(e:Int):SmQ (b,e) (nmB b,e):=⟨rfl,(ava b).symm⟩
end Go.Proofs.YtfgljaglidhjiaaGreatDoor
