import Derived.Test.YtpapbbojmclkgaaGreatDoorTxt4
set_option linter.all false
set_option maxRecDepth 100000
namespace Go.Proofs.YtpapbbojmclkgaaGreatDoor
open Go Go.aw Go.aD Go.cY
variable {J:SK}
theorem HJ{α:Type}{f:α->List D}{l:List α}{v t:Nat}{e:Env}{S:SK}(h:aw.get e v=nl f l):aw.get (QH v (nl f l) e S).1 t=if v=t then lF l f else aw.get e t:=by
 unfold nl at h ⊢;split at h
 .rename_i hl;subst hl;simp
 .rename_i hl;simp[hl];intro hh;subst hh;exact h
theorem Kk{α:Type}{f:α->List D}{l:List α}{v:Nat}{e:Env}{S:SK}:(QH v (nl f l) e S).2=S:=by
 unfold nl;split<;>simp
theorem R8{wq:D}{b:b9}{l:List ck}{av:List (List Int)}{rd:List sX}(hwq:wq.pO=lF b.ar bN.enc)(h:Ok b l av)(hl:rd.length<=1000000000)(hw:∀x∈rd,0<=x.jK/\x.jK<=255)(hJ:J≠[]):
  Cl 215 [.agg [iI b.f.x,iI b.f.y,iI b.f.z,iI b.f.k,lF b.dX Rw.enc,iI b.cJ,iI b.lift,iI b.deep,wq],lF l ck.enc,nl J3 av,lF rd sX.enc] (Tr b l av rd) J:=by
 have h1:=λJ=>aa4 (J:=J) h
 unfold Tr;by_cases c0:40<rd.length
 .have e1:vK b av.length rd=3:=by simp[vK,c0]
  rw[e1];refine an ?_;simp[hwq,HJ,Kk,h1,show(40:Int)<rd.length by omega];have hp:=aG.2 hJ;rw[IM (EC (by omega) (by omega) (by simp)) (EC (by omega) (by omega) (by simp))];simp
 have e1:vK b av.length rd=b8 (fj b av.length) rd:=by simp[vK,c0]
 rw[e1];have c0':¬(40:Int)<rd.length:=by omega
 have hL:=Yc (J:=J) h (by omega) hw (A:=.cells 0 []) (B:=.cells 0 []) rd.length 0 (by omega);rw[az]at hL;by_cases c1:b8 (fj b av.length) rd=0
 .rw[c1]at hL;rw[if_pos c1];have hx:∀x∈rd,WU b av.length x:=λx hx=>WU.of (oT c1 x hx)
  refine Qo KV tF.eq_1 rfl rfl ?_;cases hrs:z7 b av l with
  |none =>
   have h2:=λJ=>XR (J:=J) h hrs
   have hX:xf T (.fn 251 [] []) [.ref J.length 2 0 0] (some (.ua 428 (.agg []))) ([.cells 0 [],.cells 0 [],.cells 0 [iI 0]]::J)=some ([.cells 0 [],.cells 0 [],.cells 0 [iI 9]]::J):=uT VN;simp[toD,hwq,HJ,Kk,h1,c0'];refine WL.ts hL ?_;intro x e J' hh;rw[if_pos rfl]at hh;obtain⟨rfl,rfl,g1,g2,g3,g4,g8,g9,g10⟩:=hh;simp[];rw[yK nc.eq_1];simp[Qv,g1,g2,g4,g8,g9,g10,h2,hX];have hp:=aG.2 hJ;rw[IM (EC (by omega) (by omega) (by simp)) (EC (by omega) (by omega) (by simp))];simp
  |some rs =>
   have hR:=Rs.of h hrs;have h2:=λJ hJ=>XS (J:=J) h hJ hrs hR.len
   simp[toD,hwq,HJ,Kk,h1,c0'];refine WL.ts hL ?_;intro x e J' hh;rw[if_pos rfl]at hh;obtain⟨rfl,rfl,g1,g2,g3,g4,g8,g9,g10⟩:=hh;simp[];rw[yK nc.eq_1];simp[g1,g2,g3,g4,g8,g9,g10,h2];refine WL.ts (aeR (J:=J) h hR (by omega) hx (B:=.cells 0 [iI 0]) l.length 0 ([],[]) (by omega) (by simp) (by simp)) ?_;rintro x e J' ⟨rfl,st,hst,q8,q9,q10,rfl⟩;rw[az]at hst;rw[<- hst];have hX:xf T (.fn 251 [] []) [.ref J.length 2 0 0] none ([.cells st.1.length (fM st.1 aQ),.cells st.2.length (fM st.2 DD),.cells 0 [iI 0]]::J)=some ([.cells st.1.length (fM st.1 aQ),.cells st.2.length (fM st.2 DD),.cells 0 [iI 0]]::J):=uT KZ;simp[Qv,q8,q9,q10,g10,hX];rw[IM (kb (n:=15) (f:=aQ) (w:=1) (l:=st.1) (by decide) (λ_=>rfl) (λx=>by simp) hJ (by simp)) (kb (n:=15) (f:=DD) (w:=3) (l:=st.2) (by decide) (λ_=>rfl) (λx=>by simp[DD]) hJ (by simp))];simp
 .simp only[c1,if_false];refine an ?_;simp[hwq,HJ,Kk,h1,c0'];refine WL.ts hL ?_;intro x e J' hh;rw[if_neg c1]at hh;obtain⟨rfl,g8,g9,g10,rfl⟩:=hh;simp[g8,g9,g10]
end Go.Proofs.YtpapbbojmclkgaaGreatDoor
namespace Go.cY
open Go Go.aw Go.aD
def MK(lo hi s:Int):Int:=if hi<s\/s<lo then s else lo
end Go.cY
namespace Go.Proofs.YtpapbbojmclkgaaGreatDoor
open Go Go.aw Go.aD Go.cY
variable {J:SK}
def rK(b:Bk)(x:sX)(m:ck):Int:=match aD.run b.aT m b.av with
 |some r=>MK x.lo x.hi (oC b.aT m r x)
 |none=>x.lo
theorem Vf{b:b9}{m:ck}{av:List (List Int)}{x:sX}{r:RunT}(hr:vK b av.length [x]=0)(hrun:aD.run b m av=some r):
  ∃n A,Tr b [m] av [x]=.cS [.bZ n A,.bZ (if ES x.lo x.hi (oC b m r x)=0 then 0 else 1) (if ES x.lo x.hi (oC b m r x)=0 then []else DD (0,0,ES x.lo x.hi (oC b m r x))),iI 0]/\D.bh A=true:=by
 have h1:z7 b av [m]=some [r]:=by simp[z7,hrun]
 refine⟨(LS b [x] 0 [(m,r)] ([],[])).1.length,fM (LS b [x] 0 [(m,r)] ([],[])).1 aQ,?_,lO _⟩;unfold Tr;rw[if_pos hr,h1];by_cases hz:ES x.lo x.hi (oC b m r x)=0<;>simp[LS,CI,Gw,hz]
theorem acW{b:b9}{m:ck}{av:List (List Int)}{x:sX}(hr:vK b av.length [x]≠0):Tr b [m] av [x]=.cS [.bZ 0 [],.bZ 0 [],iI (vK b av.length [x])]:=by
 unfold Tr;rw[if_neg hr]
theorem CD{b:b9}{n:Int}{x:sX}:vK b n [x]=fj b n x:=by
 simp only[vK,aB,bd,b8];by_cases h:fj b n x=0<;>simp[h]
theorem Gx{b:Bk}{m:ck}{x:sX}(ht:b.aT.dX≠[])(hok:Ok b.aT [m] b.av)(hw:0<=x.jK/\x.jK<=255)(hJ:J≠[]):
  Cl 215 [.agg [iI b.aT.f.x,iI b.aT.f.y,iI b.aT.f.z,iI b.aT.f.k,nl Rw.enc b.aT.dX,iI b.aT.cJ,iI b.aT.lift,iI b.aT.deep,nl bN.enc b.aT.ar],.bZ 1 (mL m),nl pE b.av,.bZ 1 x.enc] (Tr b.aT [m] b.av [x]) J:=by
 have h:=R8 (J:=J) (wq:=nl bN.enc b.aT.ar) j6 hok (rd:=[x]) (by simp) (by intro y hy;simp at hy;subst hy;exact hw) hJ;rw[eD ht];simpa[SP]using h
theorem aa2{F:List aw.aF}{b:Bk}{er:List Int}{m:ck}{x:sX}{w:Int}{r:RunT}(ht:b.aT.dX≠[])(hok:Ok b.aT [m] b.av)(hw:0<=x.jK/\x.jK<=255)(hr:fj b.aT b.av.length x=0)(hrun:aD.run b.aT m b.av=some r):
  Cl 216 [.agg (mL m),.bq [.ref J.length 6 0 0],.ref (J.length+1+1) 0 0 0,.bq [.bZ 4 [iI w,iI x.idx,iI x.lo,iI x.hi]]] (iI (rK b x m)) ([]::[.cells 0 x.enc]::F::b.bC J.length er::J):=by
 refine an ?_;have hS:=λS hS=>Gx (J:=S) ht hok hw hS
 obtain⟨n,A,h1,hA⟩:=Vf (b:=b.aT) (m:=m) (av:=b.av) (x:=x) (by rw[CD];exact hr) hrun;rw[h1]at hS;have hd:=WU.of hr;have hb:=U0 (hok.fv m (by simp)) (MZ.of (hok.fv m (by simp)) hok.aH hrun) hd;obtain⟨e1,e2,e3⟩:=hd.ends;have hv:rK b x m=MK x.lo x.hi (oC b.aT m r x):=by simp[rK,hrun]
 rw[hv];have hm:=SY (lo:=x.lo) (hi:=x.hi) (s:=oC b.aT m r x) e2;generalize oC b.aT m r x=s at *
 simp only[sX.enc]at hS ⊢;unfold Zo at hm;by_cases c1:x.hi<s
 .rw[if_pos c1]at hm;have⟨c2,c3⟩:¬s-x.hi=0/\0<s-x.hi:=by omega
  have w1:IntKind.i64.wrap (x.hi+(s-x.hi))=s:=by rw[show x.hi+(s-x.hi)=s by omega];exact bV
  have hq:MK x.lo x.hi s=s:=by simp[MK,c1]
  rw[hm]at hS;simp[Bk.bC,Bk.cells,hS,c1,c2,w1,hq,DD]
 .rw[if_neg c1]at hm;by_cases c4:s<x.lo
  .rw[if_pos c4]at hm;have⟨c2,c3⟩:¬s-x.lo=0/\¬0<s-x.lo:=by omega
   have w1:IntKind.i64.wrap (x.lo+(s-x.lo))=s:=by rw[show x.lo+(s-x.lo)=s by omega];exact bV
   have hq:MK x.lo x.hi s=s:=by simp[MK,c4]
   rw[hm]at hS;simp[Bk.bC,Bk.cells,hS,(show ¬x.lo<s by omega),c2,w1,hq,DD]
  .rw[if_neg c4]at hm;have hq:MK x.lo x.hi s=x.lo:=by simp[MK,c1,c4]
   rw[hm]at hS;simp[Bk.bC,Bk.cells,hS,hq]
def nT(b:Bk)(x:sX):Bk×Int :=
 if cp b.ai=[]then(b,8)else if bI x.jK 0 255=true then(if fj b.aT b.av.length x=0 then(gM b x.lo x.hi (rK b x),0)else(b,fj b.aT b.av.length x))else(b,1)
theorem aa3{F:List aw.aF}{b:Bk}{er:List Int}{nm:List UInt8}{w i lo hi:Int}{b':Bk}{e:Int}(ht:b.aT.dX≠[])(hw:b.eR.length=b.ai.length)(hml:b.ai.length<=40)(hok:∀e∈b.ai,Ok b.aT [e.m] b.av)(hrun:∀e∈b.ai,e.left=true->∃r,aD.run b.aT e.m b.av=some r)(hd:nT b ⟨b.av.length,w,i,lo,hi⟩=(b',e))(he:e=0):
  di T (.call false 170 [.ref J.length 6 0 0,.str nm,.bZ 4 [iI w,iI i,iI lo,iI hi]] (F::b.bC J.length er::J))=some (.val (.cS []) (F::b'.bC J.length er::J)):=by
 refine eZ rfl rfl rfl (by simp) ?_;unfold nT at hd;split at hd
 case isTrue=>cases hd;cases he
 rename_i c1;split at hd
 case isFalse=>cases hd;cases he
 rename_i c2;split at hd
 case isFalse=>cases hd;rename_i h;exact absurd he h
 rename_i c3;cases hd;have c2i:=aS.1 c2;have q1:0<(cp b.ai).length:=aG.2 c1;have hLf:=λS=>Iu (J:=J) (b:=b) (er:=er) (S:=S) (by omega)
 obtain⟨e0,ls,hls⟩:∃e0 ls,cp b.ai=e0::ls:=by
  cases h:cp b.ai with
  |nil=>exact absurd h c1
  |cons a l=>exact⟨a,l,rfl⟩
 have he0:e0∈b.ai/\e0.left=true:=db.1 (show e0∈cp b.ai by rw[hls];simp);obtain⟨r0,hr0⟩:=hrun e0 he0.1 he0.2;have w1:IntKind.u8.wrap w=w:=TG (by omega);have hS:=λS hS=>Gx (J:=S) (x:=⟨b.av.length,w,i,lo,hi⟩) ht (hok e0 he0.1) (by simpa using c2i) hS
 obtain⟨n,A,h1,hA⟩:=Vf (b:=b.aT) (m:=e0.m) (av:=b.av) (x:=⟨b.av.length,w,i,lo,hi⟩) (by rw[CD];exact c3) hr0;rw[h1]at hS;have hst:=PS (J:=J) (A:=[.cells 0 (sX.enc ⟨b.av.length,w,i,lo,hi⟩)]) (F:=F) (b:=b) (er:=er) (lo:=lo) (hi:=hi) (val:=rK b ⟨b.av.length,w,i,lo,hi⟩) (fv:=.fn 216 [] [.bq [.ref J.length 6 0 0],.ref (J.length+1+1) 0 0 0,.bq [.bZ 4 [iI w,iI i,iI lo,iI hi]]]) rfl rfl hw hml (by
  intro k e he hl;obtain⟨r,hr⟩:=hrun e he hl;have h:=aa2 (J:=J) (F:=F) (er:=er) (b:=b.gq lo hi (rK b ⟨b.av.length,w,i,lo,hi⟩) k) (m:=e.m) (x:=⟨b.av.length,w,i,lo,hi⟩) (w:=w) ht (hok e he) (by simpa using c2i) c3 hr;rw[oI];have h':di T (.call false 216 ([]++[.agg (mL e.m)]++[.bq [.ref J.length 6 0 0],.ref (J.length+1+1) 0 0 0,.bq [.bZ 4 [iI w,iI i,iI lo,iI hi]]]) ([]::[.cells 0 (sX.enc ⟨b.av.length,w,i,lo,hi⟩)]::F::(b.gq lo hi (rK b ⟨b.av.length,w,i,lo,hi⟩) k).bC J.length er::J))=_:=h;rw[h'];rfl)
 rw[hls]at hLf;simp only[Bk.bC,Bk.cells,sX.enc]at hst hLf hS;have hcl:∀T,D.bh (if T=0 then []else DD (0,0,T))=true:=λT=>by split<;>simp[DD]
 simp[Bk.bC,Bk.cells,hLf,da,eU,c2,w1,hS,mW,hst]
theorem XF{F:List aw.aF}{b:Bk}{er:List Int}{nm:List UInt8}{w i lo hi:Int}{b':Bk}{e:Int}(ht:cp b.ai≠[]->b.aT.dX≠[])(hml:b.ai.length<=40)(hok:∀e∈b.ai,Ok b.aT [e.m] b.av)(hd:nT b ⟨b.av.length,w,i,lo,hi⟩=(b',e))(he:e≠0):
  di T (.call false 170 [.ref J.length 6 0 0,.str nm,.bZ 4 [iI w,iI i,iI lo,iI hi]] (F::b.bC J.length er::J))=some (.fy (rf e) (F::b.bC J.length er::J)):=by
 refine ej rfl rfl rfl ?_;have hLf:=λS=>Iu (J:=J) (b:=b) (er:=er) (S:=S) (by omega)
 simp only[Bk.bC,Bk.cells]at hLf;unfold nT at hd;split at hd
 case isTrue c1 =>
  cases hd;simp[Bk.bC,Bk.cells,hLf,c1,dU,D.clean,rf]
 rename_i c1;have ht:=ht c1;have q1:0<(cp b.ai).length:=aG.2 c1;split at hd
 case isFalse c2 =>
  cases hd;have c2':bI w 0 255=false:=by simpa using c2
  simp[Bk.bC,Bk.cells,hLf,q1,eU,c2',da,dU,D.clean,rf]
 rename_i c2;have c2i:=aS.1 c2;split at hd
 case isTrue=>cases hd;exact absurd rfl he
 rename_i c3;cases hd;obtain⟨e0,ls,hls⟩:∃e0 ls,cp b.ai=e0::ls:=by
  cases h:cp b.ai with
  |nil=>exact absurd h c1
  |cons a l=>exact⟨a,l,rfl⟩
 have he0:e0∈b.ai/\e0.left=true:=db.1 (show e0∈cp b.ai by rw[hls];simp);have w1:IntKind.u8.wrap w=w:=TG (by omega);have hS:=λS hS=>Gx (J:=S) (x:=⟨b.av.length,w,i,lo,hi⟩) ht (hok e0 he0.1) (by simpa using c2i) hS
 rw[acW (by rw[CD];exact c3),CD]at hS;have hM:=λJ=>oj (J:=J) c3
 generalize fj b.aT b.av.length ⟨b.av.length,w,i,lo,hi⟩=err at hS hM c3 he ⊢;have hrc:(D.ua 200 (.agg [iI err])).clean=true:=rfl;rw[hls]at hLf;simp only[sX.enc]at hS;simp[Bk.bC,Bk.cells,hLf,da,eU,c2,w1,hS,hM,rf,hrc]
end Go.Proofs.YtpapbbojmclkgaaGreatDoor
namespace Go.cY
open Go Go.aw Go.aD
def Ha:List Prt->Int
 |[]=>0
 |p::l=>p.width+Ha l
def ur:List Prt->Int->Int
 |[],_=>0
 |p::l,m=>p.kr*min m p.width+ur l (m-min m p.width)
def NH:List Prt->Int->Int
 |[],m=>m
 |p::l,m=>NH l (m-min m p.width)
def Aa(l:List Prt):Prop:=∀p∈l,(0<=p.kr/\p.kr<=1000)/\1<=p.width/\p.width<=100000
theorem AR:∀{l:List Prt} {last:Int},last<=1000->Bt last l=true->Aa l
 |[],_,_,_=>by intro p hp;cases hp
 |q::l,last,hl,h=>by
  simp only[Bt,Prt.ok,af,aS]at h;intro p hp;rcases bz.1 hp with rfl | hp
  .omega
  .exact AR (by omega) h.2 p hp
theorem OS:∀{l:List Prt} {m:Int},Aa l->0<=m->0<=ur l m/\ur l m<=1000*m
 |[],m,_,hm=>by simp[ur];omega
 |p::l,m,h,hm=>by
  have h1:=h p (by simp);have h2:=OS (l:=l) (m:=m-min m p.width) (λq hq=>h q (by simp[hq])) (by omega);have h3:0<=p.kr*min m p.width:=bF h1.1.1 (by omega);have h4:p.kr*min m p.width<=1000*min m p.width:=dZ h1.1.2 (by omega);simp only[ur];omega
end Go.cY
namespace Go.Proofs.YtpapbbojmclkgaaGreatDoor
section
open Go Go.aw Go.aD Go.cY
variable {J:SK}
theorem adf{l:List Prt}(hs:Aa l)(hl:l.length<=8):∀(m i:Nat) (out:Int),i+m=l.length->0<=out->out<=100000*i ->
  WL T [2,6,7,8] false lR [(2,iI out),(6,lF l Prt.enc),(7,iI l.length),(8,iI i)] J
   (λx e J'=>x=.exit 0/\J'=J/\get e 2=iI (out+Ha (l.drop i)))
 |0,i,out,hi,h0,ho=>by
  refine aK ?_;have h1:¬i<l.length:=by omega
  have h2:l.drop i=[]:=ec;simp[h1,h2,Ha]
 |m+1,i,out,hi,h0,ho=>by
  refine aK ?_;have h1:i<l.length:=by omega
  obtain⟨p,hp⟩:=gE h1;have hfl:=bx (f:=Prt.enc) (w:=2) hp;have hd:=bj hp;have h4:=cj h1;have hb:=hs p (ah hp);have w1:=bV (n:=out+p.width);have ih:=adf hs hl m (i+1) (out+p.width) (by omega) (by omega) (by omega);rw[hd,Ha];simp[h1,hfl,h4,w1];exact WL.tg ih λx e J' hh=>by simpa[Int.add_assoc]using hh
theorem Sb{u:oF}(hs:Aa u.parts)(hl:u.parts.length<=8):Cl 264 [.agg u.enc] (iI (Ha u.parts)) J:=by
 refine an ?_;simp[];refine WL.tg (adf (J:=[]::J) hs hl u.parts.length 0 0 (by omega) (by omega) (by omega)) ?_;rintro x e J' ⟨rfl,rfl,g2⟩;simp[g2]
def lpP(L:Nat):xd:={state:=0,xC:=none,env:=[(4,.ref L 0 0 0)],params:=[10,11],BY:=iw,body:=ix }
def RJ(J:SK)(out mass:Int):SK:=[.cells 0 [iI out],.cells 0 [iI mass],.loop (lpP J.length)]::J
theorem aby{p:Prt}{out mass m:Int}(hp:(0<=p.kr/\p.kr<=1000)/\1<=p.width/\p.width<=100000)(hm:0<=m/\m<=1000000)(ho:0<=out/\out<=1000000000000):
  di T (.round J.length 2 [.agg p.enc,iI m] ([]::RJ J out mass))=some (.val (.bool true) ([]::RJ J (out+p.kr*m) mass)):=by
 have q1:0<=p.kr*m:=bF hp.1.1 hm.1;have q2:p.kr*m<=1000*1000000:=cA hp.1.2 hm.2 hm.1 (by omega);have w1:=bV (n:=p.kr*m);have w2:=bV (n:=out+p.kr*m);refine H7 (lp:=lpP J.length) (by simp[RJ]) rfl ?_;rw[show(lpP J.length).BY=iw from rfl,iw.eq_1,show(lpP J.length).body=ix from rfl];simp[yK ix.eq_1,lpP,RJ,Q9,w1,w2]
theorem Yk{l:List Prt}(hs:Aa l)(hl:l.length<=8):∀(k i:Nat) (out m:Int),i+k=l.length->0<=m->m<=1000000->0<=out->out<=1000000000*i ->
  WL T [0,2,8,9,10] false m9 [(0,.jg J.length 2),(2,.ref J.length 1 0 0),(8,lF l Prt.enc),(9,iI l.length),(10,iI i)] ([]::RJ J out m)
   (λx e J'=>x=.exit 0/\J'=[]::RJ J (out+ur (l.drop i) m) (NH (l.drop i) m))
 |0,i,out,m,hi,hm,hm2,h0,ho=>by
  refine aK ?_;have h1:¬i<l.length:=by omega
  have h2:l.drop i=[]:=ec;simp[h1,h2,ur,NH]
 |k+1,i,out,m,hi,hm,hm2,h0,ho=>by
  refine aK ?_;have h1:i<l.length:=by omega
  obtain⟨p,hp⟩:=gE h1;have hfl:=bx (f:=Prt.enc) (w:=2) hp;have hd:=bj hp;have h4:=cj h1;have hb:=hs p (ah hp);have hmn:0<=min m p.width/\min m p.width<=m:=by omega
  have hR:=aby (J:=J) (p:=p) (out:=out) (mass:=m) (m:=min m p.width) hb (by omega) (by omega);have q1:0<=p.kr*min m p.width:=bF hb.1.1 hmn.1;have q2:p.kr*min m p.width<=1000*1000000:=cA hb.1.2 (by omega) hmn.1 (by omega);have w1:=bV (n:=m-min m p.width);have ih:=Yk hs hl k (i+1) (out+p.kr*min m p.width) (m-min m p.width) (by omega) (by omega) (by omega) (by omega) (by omega);rw[hd,ur,NH];simp only[RJ,Prt.enc]at hR;simp[h1,hfl,h4,RJ,hR,w1];exact WL.to ih (by simp) (by simp[RJ]) λx e J' hh=>by simpa[Int.add_assoc,RJ]using hh
theorem aeG{u:oF}{mass:Int}{bs:List aw.aF}:di T (.call true 316 [.agg u.enc,iI mass] (bs::J))=some (.val (.fn 352 [] [.bq u.enc,.ref J.length bs.length 0 0]) ((bs++[.cells 0 [iI mass]])::J)):=by
 refine mh rfl rfl rfl ?_;simp[]
theorem abl{u:oF}{out m:Int}(hs:Aa u.parts)(hl:u.parts.length<=8)(hm:0<=m/\m<=1000000)(h0:0<=out/\out<=0):
  di T (.call false 352 [.jg J.length 2,.bq u.enc,.ref J.length 1 0 0] (RJ J out m))=some (.val (.cS []) (RJ J (out+ur u.parts m) (NH u.parts m))):=by
 refine eZ rfl rfl rfl (by simp[RJ]) ?_;have h:=Yk (J:=J) hs hl u.parts.length 0 out m (by omega) hm.1 hm.2 h0.1 (by omega);rw[az]at h;simp;refine WL.ts h ?_;rintro x e J' ⟨rfl,rfl⟩;simp
theorem aaX{u:oF}{m:Int}(hs:Aa u.parts)(hl:u.parts.length<=8)(hm:0<=m/\m<=1000000):
  Cl 265 [.agg u.enc,iI m] (iI (ur u.parts m)) J:=by
 refine an ?_;have hU:=λbs=>aeG (J:=J) (u:=u) (mass:=m) (bs:=bs)
 have h1:=abl (J:=J) (u:=u) (out:=0) hs hl hm (by omega);simp only[oF.enc]at hU h1 ⊢;simp[hU];refine Kd (d:=.cS []) (J2:=RJ J (0+ur u.parts m) (NH u.parts m)) (lp:=lpP J.length) (by simp;exact⟨rfl,rfl,rfl⟩) ?_ (by simp[RJ]) (by simp[lpP]) ?_
 .simpa[RJ,lpP]using h1
 .simp[RJ,lpP]
def Ll(u:oF)(s:sY):Int:=if s.valid=true then(if Ha u.parts<s.m then 2 else if s.h<ur u.parts s.m then 9 else 0)else 1
theorem Mk{s:sY}:Cl 315 [.agg s.enc] (iI (if s.valid then 0 else 1)) J:=by
 refine an ?_;have h:=λJ=>KK (J:=J) (x:=s)
 simp only[sY.enc]at h ⊢;cases hc:s.valid<;>rw[hc]at h<;>simp[h]
theorem XJ{s:sY}:Cl 314 [.agg s.enc] (.bool s.valid) J:=by
 refine an ?_;have h:=λJ=>Mk (J:=J) (s:=s)
 simp only[sY.enc]at h ⊢;cases hc:s.valid<;>rw[hc]at h<;>simp[h]
theorem XK{s:sY}:Cl 263 [.bZ 1 s.enc] (.bool s.valid) J:=by
 refine an ?_;have h:=λJ=>CW (yR 4 sY.enc (λ_=>rfl)) (T:=T) (J:=J) (f:=313) (g:=351) (h:=350) (i:=368) (l:=[s]) (p:=sY.valid) (fv:=.fn 314 [] []) rfl rfl rfl rfl (by simp) (om.fn λx _ J=>XJ) rfl
 simp only[yR,List.length_singleton,cT,mZ,dq,dz,jb,List.all_nil,Bool.and_true]at h;simp only[sY.enc]at h ⊢;simp[h]
def abP(u:oF)(s:sY):D:=if Ll u s=0 then .cS [.agg [iI s.m,iI (s.h-ur u.parts s.m),iI s.s,iI s.g],iI (ur u.parts s.m),iI 0]else .cS [.agg [iI 0,iI 0,iI 0,iI 0],iI 0,iI (Ll u s)]
theorem W4{u:oF}{s:sY}(hu:u.ok=true):Cl 219 [.agg u.enc,.agg s.enc] (abP u s) J:=by
 refine an ?_;have hok:=hu;simp only[oF.ok,af,aS]at hok;have hl:u.parts.length<=8:=by omega
 have hs:=AR (by omega) hok.2.2;have hV:=λJ=>PT (J:=J) (u:=u) (by omega)
 have hR:=λJ=>XK (J:=J) (s:=s)
 have hC:=λJ=>Sb (J:=J) hs hl
 rw[hu]at hV;simp only[oF.enc,sY.enc]at hV hR hC ⊢;unfold abP Ll;cases c1:s.valid
 .rw[c1]at hR;simp[hV,hR]
 rw[c1]at hR;simp only[sY.valid,af,aS]at c1;by_cases c2:Ha u.parts<s.m
 .simp[hV,hR,hC,c2]
 have hP:=λJ=>aaX (J:=J) (m:=s.m) hs hl c1.1
 simp only[oF.enc]at hP;have hb:=OS hs c1.1.1;by_cases c3:s.h<ur u.parts s.m
 .simp[hV,hR,hC,hP,c2,c3]
 have w1:=bV (n:=s.h-ur u.parts s.m);simp[hV,hR,hC,hP,c2,c3,w1]
theorem Vl{t:List Rw}(ht:fP t=true){i:Nat}{r:Rw}(hi:t[i]?=some r){x:sY}(hx:x.valid=false):
  Cl 218 [lF t Rw.enc,iI i,.agg x.enc] (.cS [.agg (List.replicate 10 (iI 0)),iI 1]) J:=by
 refine an ?_;have hl:t.length<=20:=by
  simp only[fP,af]at ht;have:=aS.1 ht.1;omega
 have hil:i<t.length:=(aA.1 hi).1;have h1:=λJ=>Gy (J:=J) (t:=t) (by omega)
 have h2:=λJ=>ada (J:=J) (t:=t) (n:=i) (by omega)
 have h3:=λJ=>KK (J:=J) (x:=x)
 have hin:bI i 0 ((t.length:Int)-1)=true:=aS.2 (by omega);rw[hin]at h2;rw[hx]at h3;rw[ht]at h1;simp only[sY.enc]at h3;simp[h1,h2,h3,List.replicate]
def D6:List Int->Int
 |[]=>0
 |x::l=>l.foldl min x
def D4:List Int->Int
 |[]=>0
 |x::l=>l.foldl max x
theorem adj{l:List Int}(hl:l.length<=1000000):∀(m i:Nat) (a:Int),i+m=l.length ->
  WL T [0,3,4] false pU [(0,lF l aQ),(3,iI a),(4,iI i)] J (λx e J'=>x=.exit 0/\J'=J/\get e 3=iI ((l.drop i).foldl min a))
 |0,i,a,hi=>by
  refine aK ?_;have h1:¬i<l.length:=by omega
  have h2:l.drop i=[]:=ec;simp[h1,h2]
 |m+1,i,a,hi=>by
  refine aK ?_;have h1:i<l.length:=by omega
  obtain⟨n,hn⟩:=gE h1;have a1:=gi hn;have h4:=cj h1;rw[bj hn];simp[h1,a1,h4];exact WL.tg (adj hl m (i+1) (min a n) (by omega)) λx e J' hh=>by simpa using hh
theorem ahP{l:List Int}(hne:l≠[])(hl:l.length<=1000000):Cl 266 [lF l aQ] (iI (D6 l)) J:=by
 refine an ?_;have h0:0<l.length:=aG.2 hne;obtain⟨x,r,rfl⟩:∃x r,l=x::r:=by
  cases l with
  |nil=>exact absurd rfl hne
  |cons x r=>exact⟨x,r,rfl⟩
 have⟨h1,h2⟩:¬((r.length:Int)+1<1)/\(0:Int)<(r.length:Int)+1:=by omega
 simp[h1,h2];refine WL.tg (adj (J:=[]::J) hl r.length 1 x (by simp;omega)) ?_;rintro x e J' ⟨rfl,rfl,g3⟩;simp[g3,D6]
theorem adi{l:List Int}(hl:l.length<=1000000):∀(m i:Nat) (a:Int),i+m=l.length ->
  WL T [0,3,4] false pT [(0,lF l aQ),(3,iI a),(4,iI i)] J (λx e J'=>x=.exit 0/\J'=J/\get e 3=iI ((l.drop i).foldl max a))
 |0,i,a,hi=>by
  refine aK ?_;have h1:¬i<l.length:=by omega
  have h2:l.drop i=[]:=ec;simp[h1,h2]
 |m+1,i,a,hi=>by
  refine aK ?_;have h1:i<l.length:=by omega
  obtain⟨n,hn⟩:=gE h1;have a1:=gi hn;have h4:=cj h1;rw[bj hn];simp[h1,a1,h4];exact WL.tg (adi hl m (i+1) (max a n) (by omega)) λx e J' hh=>by simpa using hh
theorem ahO{l:List Int}(hne:l≠[])(hl:l.length<=1000000):Cl 267 [lF l aQ] (iI (D4 l)) J:=by
 refine an ?_;have h0:0<l.length:=aG.2 hne;obtain⟨x,r,rfl⟩:∃x r,l=x::r:=by
  cases l with
  |nil=>exact absurd rfl hne
  |cons x r=>exact⟨x,r,rfl⟩
 have⟨h1,h2⟩:¬((r.length:Int)+1<1)/\(0:Int)<(r.length:Int)+1:=by omega
 simp[h1,h2];refine WL.tg (adi (J:=[]::J) hl r.length 1 x (by simp;omega)) ?_;rintro x e J' ⟨rfl,rfl,g3⟩;simp[g3,D4]
theorem aeB{l:List Int}(hne:l≠[])(hl:l.length<=1000000):Cl 220 [lF l aQ] (.agg [iI (D6 l),iI (D4 l)]) J:=by
 refine an ?_;have h1:=λJ=>ahP (J:=J) hne hl
 have h2:=λJ=>ahO (J:=J) hne hl
 simp[h1,h2]
def ajY:Rw:=⟨0,0,0,0,0⟩
def ajZ:oF:=⟨0,[]⟩
def rowOf(b:Bk)(lv:Nat):Rw:=(b.aT.dX[lv]?).getD ajY
def wZ(b:Bk)(u:Nat):oF:=(b.cV[u]?).getD ajZ
def mN(b:Bk)(r:RunT)(w:Nat):sY:=⟨(aR (rowAt r.2 (b.av.length-1)) w).m,(aR (rowAt r.2 (b.av.length-1)) w).h,0,0⟩
def fF(r:Rw)(x:sY):sY:=⟨eS r x,Pl r x,0,Pk r x⟩
def uP(b:Bk)(w lv u:Nat)(m:ck):Int:=match aD.run b.aT m b.av with
 |some r=>if(mN b r w).valid=true then Ll (wZ b u) (fF (rowOf b lv) (mN b r w))else 1
 |none=>9
def oD(b:Bk)(w lv u:Nat)(m:ck):Int:=match aD.run b.aT m b.av with
 |some r=>ur (wZ b u).parts (fF (rowOf b lv) (mN b r w)).m
 |none=>0
def Ig(b:Bk)(J:SK)(w lv u:Nat)(price:Int)(acc:List Int)(rest:List ep)(x:aw.Exit)(e:Env)(J':SK):Prop :=
 if b8 (λe=>uP b w lv u e.m) rest=0 then
  x=.exit 0/\get e 0=.ref (J.length-1-1) 6 0 0/\get e 7=iI w/\get e 10=iI price/\get e 11=.sl J.length 0 (acc++rest.map λe=>oD b w lv u e.m).length 0 (acc++rest.map λe=>oD b w lv u e.m).length 1 /\
   J'=[.cells (acc++rest.map λe=>oD b w lv u e.m).length (fM (acc++rest.map λe=>oD b w lv u e.m) aQ)]::J
 else x=.fy (rf (b8 (λe=>uP b w lv u e.m) rest))/\∃s,J'=s::J
theorem Sr{F:List aw.aF}{b:Bk}{er:List Int}{ls:List ep}{w lv u:Nat}{price:Int}(ht:fP b.aT.dX=true)(hok:∀e∈ls,Ok b.aT [e.m] b.av)(hrun:∀e∈ls,∃r,aD.run b.aT e.m b.av=some r)(hp:b.av≠[])(hl:ls.length<=1000000)
  (hw:w<b.aT.ar.length) (hlv:lv<b.aT.dX.length) (hu:u<b.cV.length) (huk:∀x∈b.cV,x.ok=true):∀(m i:Nat) (acc:List Int),i+m=ls.length->acc.length=i ->
  WL T [0,7,8,9,10,11,86,87,88] false mw [(0,.ref J.length 6 0 0),(7,iI w),(8,iI lv),(9,iI u),(10,iI price),(11,.sl (F::b.bC J.length er::J).length 0 i 0 i 1),(86,lF ls ep.enc),(87,iI ls.length),(88,iI i)] ([.cells i (fM acc aQ)]::F::b.bC J.length er::J)
   (Ig b (F::b.bC J.length er::J) w lv u price acc (ls.drop i))
 |0,i,acc,hi,ha=>by
  refine aK ?_;obtain rfl:i=ls.length:=by omega
  have h5:ls.drop ls.length=[]:=ec;simp[h5,Ig,ha,b8]
 |m+1,i,acc,hi,ha=>by
  refine aK ?_;have h1:i<ls.length:=by omega
  obtain⟨e,he⟩:=gE h1;have hem:=ah he;have hO:=hok e hem;obtain⟨r,hr⟩:=hrun e hem;have hfl:=bx (f:=ep.enc) (w:=4) he;have h4:=cj h1;have htl:b.aT.dX.length<=20:=by
   simp only[fP,af]at ht;have:=aS.1 ht.1;omega
  have hE:kV b.aT e.m b.av=0:=by
   have hfit:=hO.fit e.m (by simp);simp[kV,Bd,hO.valid,hfit,hO.pl,hr]
  have hD:CC b.aT e.m b.av=.agg [lF r.1 kM,lF r.2 kM]:=by
   obtain⟨r1,r2⟩:=r;simp[CC,hE,hr]
  have hsh:=hO.short e.m (by simp);have hP:=λS hS=>W6 (J:=S) (b:=b.aT) (m:=e.m) (av:=b.av) (wq:=nl bN.enc b.aT.ar) j6 (by omega) (by have:=hO.bv.ar;omega) (by omega) (by omega) (by have:=hO.Wu;omega) (λl hl=>by have:=(hO.aH l hl).len;have:=hO.bv.ar;omega) hS
  rw[hE,hD,SP]at hP;have htn:b.aT.dX≠[]:=by intro hh;rw[hh]at hlv;simp at hlv
  have hRun:=MZ.of (hO.fv e.m (by simp)) hO.aH hr;have hpl:0<b.av.length:=aG.2 hp;have hpl2:=hO.Wu;obtain⟨hrow,hY⟩:=Ro hRun (t:=b.av.length-1) (by omega);have f1:=bx (f:=kM) (w:=1) hrow;rw[bR]at f1;have hyw:(rowAt r.2 (b.av.length-1))[w]?=some (aR (rowAt r.2 (b.av.length-1)) w):=by
   have:w<(rowAt r.2 (b.av.length-1)).length:=by rw[hY.len];exact hw
   simp[aR,this]
  have f2:=bx (f:=aD.aF.enc) (w:=3) hyw;have hyl:=hY.len;have w1:=bV (n:=(b.av.length:Int)-1);have⟨t1,q1⟩:((b.av.length:Int)-1).toNat=b.av.length-1/\(1:Int)<=b.av.length:=by omega
  have q2:(b.av.length:Int)-1<r.2.length:=by rw[hRun.yl];omega
  have hrw:b.aT.dX[lv]?=some (rowOf b lv):=by simp[rowOf,hlv]
  have hun:b.cV[u]?=some (wZ b u):=by simp[wZ,hu]
  have f3:=bx (f:=oF.enc) (w:=2) hun;have hul:=Ku b.cV;have q3:2<=b.cV.length*2-u*2:=by omega
  have hX:=λJ=>W4 (J:=J) (u:=wZ b u) (s:=fF (rowOf b lv) (mN b r w)) (huk _ (ah hun))
  rw[bj he];have hs0:uP b w lv u e.m=if(mN b r w).valid=true then Ll (wZ b u) (fF (rowOf b lv) (mN b r w))else 1:=by simp[uP,hr]
  cases c1:(mN b r w).valid with
  |false =>
   have hF:=λJ=>Vl (J:=J) ht hrw c1
   have hM:=λJ=>oj (J:=J) (e:=1) (by decide)
   have hs1:uP b w lv u e.m=1:=by rw[hs0,c1];rfl
   simp only[sY.enc,mN,List.replicate]at hF;simp[h1,hfl,Bk.bC,Bk.cells,eD htn,eD hp,hP,mW,f1,f2,w1,t1,q1,q2,hyl,hw,hF,hM,hs1,kM,Ig,b8]
  |true =>
   have hF:=λJ=>aaB (J:=J) ht hrw c1
   simp only[sY.enc,mN]at hF;have hs1:uP b w lv u e.m=Ll (wZ b u) (fF (rowOf b lv) (mN b r w)):=by rw[hs0,c1];rfl
   have hv1:oD b w lv u e.m=ur (wZ b u).parts (fF (rowOf b lv) (mN b r w)).m:=by simp[oD,hr]
   by_cases c2:Ll (wZ b u) (fF (rowOf b lv) (mN b r w))=0
   .have hacc:=nN acc;have hta:(fM acc aQ).take i=fM acc aQ:=cZ;have hroom:(i+1)*8<=room:=by unfold room;omega
    have ih:=Sr (F:=F) (er:=er) (price:=price) ht hok hrun hp hl hw hlv hu huk m (i+1) (acc++[oD b w lv u e.m]) (by omega) (by simp[ha]);have fin:∀x e' J',Ig b (F::b.bC J.length er::J) w lv u price (acc++[oD b w lv u e.m]) (ls.drop (i+1)) x e' J'->Ig b (F::b.bC J.length er::J) w lv u price acc (e::ls.drop (i+1)) x e' J':=λx e' J' hh=>by
     have hz:uP b w lv u e.m=0:=by rw[hs1,c2]
     simp only[Ig,b8,hz,if_true,aL,bX,cm]at hh ⊢;exact hh
    unfold abP at hX;rw[if_pos c2,<- hv1]at hX;simp only[oF.enc,sY.enc,fF,mN]at hX f3;simp[h1,hfl,h4,Bk.bC,Bk.cells,eD htn,eD hp,hP,mW,f1,f2,w1,t1,q1,q2,hyl,hw,hF,kM,parts,hu,f3,hul,q3,hX,hroom,hacc,hta,ha];exact WL.to ih (by simp) (by simp[Bk.bC,Bk.cells,eD htn,eD hp]) fin
   .unfold abP at hX;rw[if_neg c2]at hX;have hM:=λJ=>oj (J:=J) c2
    have hz:uP b w lv u e.m≠0:=by rw[hs1];exact c2
    rw[<- hs1]at hX hM;simp only[oF.enc,sY.enc,fF,mN]at hX f3;simp[h1,hfl,Bk.bC,Bk.cells,eD htn,eD hp,hP,mW,f1,f2,w1,t1,q1,q2,hyl,hw,hF,kM,parts,hu,f3,hul,q3,hX,hM,hz,Ig,b8]
def RD(b:Bk)(w price:Int)(ws:List Int):Bk:={b with dA:=b.dA++[⟨b.av.length,w,D6 ws,D4 ws,D6 ws*price,D4 ws*price⟩] }
def E8(b:Bk)(w lv u price:Int):Bool:=bI w 0 ((b.aT.ar.length:Int)-1) && (bI lv 0 ((b.aT.dX.length:Int)-1) && (bI u 0 ((b.cV.length:Int)-1) && bI price 0 1000))
def wc(b:Bk)(w lv u:Int):Int:=b8 (λe=>uP b w.toNat lv.toNat u.toNat e.m) (cp b.ai)
def oi(b:Bk)(w lv u:Int):List Int:=(cp b.ai).map λe=>oD b w.toNat lv.toNat u.toNat e.m
def mr(b:Bk)(w lv u price:Int):Bk×Int :=
 if cp b.ai=[]\/b.av=[]then(b,8)else if E8 b w lv u price=true then(if wc b w lv u=0 then(RD b w price (oi b w lv u),0)else(b,wc b w lv u))else(b,2)
theorem U7(l:List KT):(fM l KT.enc).length=l.length*6:=dF (f:=KT.enc) (w:=6) l
theorem JL{c d:Int}:∀{l:List Int} {a:Int},(c<=a/\a<=d)->(∀x∈l,c<=x/\x<=d)->c<=l.foldl min a/\l.foldl min a<=d
 |[],a,h,_=>h
 |x::l,a,h,hl=>by
  have h1:=hl x (by simp);exact JL (l:=l) (a:=min a x) (by omega) λy hy=>hl y (by simp[hy])
theorem JK{c d:Int}:∀{l:List Int} {a:Int},(c<=a/\a<=d)->(∀x∈l,c<=x/\x<=d)->c<=l.foldl max a/\l.foldl max a<=d
 |[],a,h,_=>h
 |x::l,a,h,hl=>by
  have h1:=hl x (by simp);exact JK (l:=l) (a:=max a x) (by omega) λy hy=>hl y (by simp[hy])
theorem Zn{c d:Int}{l:List Int}(h0:c<=0/\0<=d)(hl:∀x∈l,c<=x/\x<=d):(c<=D6 l/\D6 l<=d)/\(c<=D4 l/\D4 l<=d):=by
 cases l with
 |nil=>exact⟨h0,h0⟩
 |cons x l=>exact⟨JL (hl x (by simp)) λy hy=>hl y (by simp[hy]),JK (hl x (by simp)) λy hy=>hl y (by simp[hy])⟩
theorem Pc{b:Bk}{w lv u:Nat}{m:ck}(hu:u<b.cV.length)(huk:∀x∈b.cV,x.ok=true)(hE:uP b w lv u m=0):0<=oD b w lv u m/\oD b w lv u m<=1000000000:=by
 have hun:b.cV[u]?=some (wZ b u):=by simp[wZ,hu]
 have hok:=huk _ (ah hun);simp only[oF.ok,af,aS]at hok;have hs:=AR (by omega) hok.2.2;unfold uP at hE;unfold oD;cases hr:aD.run b.aT m b.av with
 |none=>simp
 |some r =>
  rw[hr]at hE;simp only at hE ⊢;split at hE
  .unfold Ll at hE;split at hE
   .rename_i hv;simp only[sY.valid,af,aS]at hv;have:=OS hs hv.1.1;omega
   .cases hE
  .cases hE
theorem abi{F:List aw.aF}{b:Bk}{er:List Int}{nm:List UInt8}{w lv u price:Int}{b':Bk}{e:Int}(ht:fP b.aT.dX=true)(hml:b.ai.length<=40)(hok:∀e∈b.ai,Ok b.aT [e.m] b.av)(hrun:∀e∈b.ai,e.left=true->∃r,aD.run b.aT e.m b.av=some r)(huk:∀x∈b.cV,x.ok=true)(hul:b.cV.length<=10)(hwl:b.aT.ar.length<=1000000)(hsl:b.dA.length<=1000000)(hd:mr b w lv u price=(b',e))(he:e=0):
  di T (.call false 172 [.ref J.length 6 0 0,.str nm,.bZ 4 [iI w,iI lv,iI u,iI price]] (F::b.bC J.length er::J))=some (.val (.cS []) (F::b'.bC J.length er::J)):=by
 refine eZ rfl rfl rfl (by simp) ?_;unfold mr at hd;split at hd
 case isTrue=>cases hd;cases he
 rename_i c1;split at hd
 case isFalse=>cases hd;cases he
 rename_i c2;split at hd
 case isFalse=>cases hd;rename_i h;exact absurd he h
 rename_i c3;cases hd;have htl:b.aT.dX.length<=20:=by
  simp only[fP,af]at ht;have:=aS.1 ht.1;omega
 have c1a:cp b.ai≠[]:=λh=>c1 (.inl h)
 have c1b:b.av≠[]:=λh=>c1 (.inr h)
 have q1:0<(cp b.ai).length:=aG.2 c1a;have q2:0<b.av.length:=aG.2 c1b;have hLf:=λS=>Iu (J:=J) (b:=b) (er:=er) (S:=S) (by omega)
 simp only[Bk.bC,Bk.cells]at hLf;have hc2:=c2;simp only[E8,af]at hc2;obtain⟨k1,k2,k3,k4⟩:=hc2;have i1:=aS.1 k1;have i2:=aS.1 k2;have i3:=aS.1 k3;have i4:=aS.1 k4;obtain⟨w,rfl⟩:∃n:Nat,w=n:=⟨w.toNat,by omega⟩;obtain⟨lv,rfl⟩:∃n:Nat,lv=n:=⟨lv.toNat,by omega⟩;obtain⟨u,rfl⟩:∃n:Nat,u=n:=⟨u.toNat,by omega⟩;simp only[wc,oi,Int.toNat_natCast]at c3 ⊢;have w1:=bV (n:=(b.aT.ar.length:Int)-1);have w2:=bV (n:=(b.aT.dX.length:Int)-1);have w3:=bV (n:=(b.cV.length:Int)-1);have hL:=Sr (J:=J) (F:=F) (er:=er) (ls:=cp b.ai) (w:=w) (lv:=lv) (u:=u) (price:=price) ht (λe he=>hok e (db.1 he).1) (λe he=>hrun e (db.1 he).1 (db.1 he).2) c1b (by have:=fG (λe:ep=>e.left) b.ai;simp only[cp];omega) (by omega) (by omega) (by omega) huk (cp b.ai).length 0 [] (by omega) rfl;rw[az]at hL;simp[Bk.bC,Bk.cells,hLf,q1,q2,da,eU,w1,w2,w3,k1,k2,k3,k4];refine WL.to hL (by simp) (by simp[Bk.bC,Bk.cells]) ?_;intro x e J' hq;simp only[Ig,if_pos c3,List.nil_append]at hq;obtain⟨rfl,g0,g7,g10,g11,rfl⟩:=hq;have hbs:∀x∈(cp b.ai).map (λe=>oD b w lv u e.m),0<=x/\x<=1000000000:=by
  intro x hx;simp only[bO]at hx;obtain⟨e,he,rfl⟩:=hx;exact Pc (by omega) huk (oT c3 e he)
 have hwl2:((cp b.ai).map (λe=>oD b w lv u e.m)).length=(cp b.ai).length:=by simp
 have hlm:(cp b.ai).length<=40:=by have:=fG (λe:ep=>e.left) b.ai;simp only[cp];omega
 generalize hws:(cp b.ai).map (λe=>oD b w lv u e.m)=ws at *
 have hwne:ws≠[]:=by intro hh;rw[hh]at hwl2;simp at hwl2;omega
 obtain⟨⟨m1,m2⟩,m3,m4⟩:=Zn (by omega) hbs;have hSp:=λJ=>aeB (J:=J) hwne (by omega)
 generalize hlo:D6 ws=lo at *
 generalize hhi:D4 ws=hi at *
 have p1:0<=lo*price:=bF m1 i4.1;have p2:lo*price<=1000000000*1000:=cA m2 i4.2 i4.1 (by omega);have p3:0<=hi*price:=bF m3 i4.1;have p4:hi*price<=1000000000*1000:=cA m4 i4.2 i4.1 (by omega);have w4:=bV (n:=lo*price);have w5:=bV (n:=hi*price);have hfr:∀S:SK,S.length=J.length+1+1->cK 0 16 (.sl (J.length+1+1) 0 ws.length 0 ws.length 1) ([.cells ws.length (fM ws aQ)]::S)=(lF ws aQ,[.dead]::S):=by
  intro S hS;have:=o9 (f:=aQ) (w:=1) (λ_=>rfl) (λ_=>by simp[D.clean]) (l:=ws) (j:=0) (v:=ws.length) (bs:=[aw.aF.cells ws.length (fM ws aQ)]) (J:=S) (by intro h;subst h;simp at hS) (by simp);rw[hS]at this;simpa using this
 have r2:(b.dA.length+1)*48<=room:=by unfold room;omega
 have r3:=U7 b.dA;have r4:(fM b.dA KT.enc).take (b.dA.length*6)=fM b.dA KT.enc:=cZ;simp[g0,g7,g10,g11,hfr,hSp,Bk.bC,Bk.cells,w4,w5,r2,r3,r4,RD,hlo,hhi]
theorem XT{F:List aw.aF}{b:Bk}{er:List Int}{nm:List UInt8}{w lv u price:Int}{b':Bk}{e:Int}(ht:cp b.ai≠[]->fP b.aT.dX=true)(hml:b.ai.length<=40)(hok:∀e∈b.ai,Ok b.aT [e.m] b.av)(hrun:∀e∈b.ai,e.left=true->∃r,aD.run b.aT e.m b.av=some r)(huk:∀x∈b.cV,x.ok=true)(hul:b.cV.length<=10)(hwl:b.aT.ar.length<=1000000)(hsl:b.dA.length<=1000000)(hd:mr b w lv u price=(b',e))(he:e≠0):
  di T (.call false 172 [.ref J.length 6 0 0,.str nm,.bZ 4 [iI w,iI lv,iI u,iI price]] (F::b.bC J.length er::J))=some (.fy (rf e) (F::b.bC J.length er::J)):=by
 refine ej rfl rfl rfl ?_;have hLf:=λS=>Iu (J:=J) (b:=b) (er:=er) (S:=S) (by omega)
 simp only[Bk.bC,Bk.cells]at hLf;unfold mr at hd;split at hd
 case isTrue c1 =>
  cases hd;by_cases c1a:cp b.ai=[]
  .simp[Bk.bC,Bk.cells,hLf,c1a,dU,D.clean,rf]
  .have q1:0<(cp b.ai).length:=aG.2 c1a;have c1b:b.av=[]:=c1.resolve_left c1a;simp[Bk.bC,Bk.cells,hLf,q1,c1b,dU,D.clean,rf]
 rename_i c1;have c1a:cp b.ai≠[]:=λh=>c1 (.inl h)
 have c1b:b.av≠[]:=λh=>c1 (.inr h)
 have ht:=ht c1a;have htl:b.aT.dX.length<=20:=by
  simp only[fP,af]at ht;have:=aS.1 ht.1;omega
 have q1:0<(cp b.ai).length:=aG.2 c1a;have q2:0<b.av.length:=aG.2 c1b;have w1:=bV (n:=(b.aT.ar.length:Int)-1);have w2:=bV (n:=(b.aT.dX.length:Int)-1);have w3:=bV (n:=(b.cV.length:Int)-1);split at hd
 case isFalse c2 =>
  cases hd;simp only[E8]at c2;cases k1:bI w 0 ((b.aT.ar.length:Int)-1)
  .simp[Bk.bC,Bk.cells,hLf,q1,q2,da,eU,w1,k1,dU,D.clean,rf]
  cases k2:bI lv 0 ((b.aT.dX.length:Int)-1)
  .simp[Bk.bC,Bk.cells,hLf,q1,q2,da,eU,w1,w2,k1,k2,dU,D.clean,rf]
  cases k3:bI u 0 ((b.cV.length:Int)-1)
  .simp[Bk.bC,Bk.cells,hLf,q1,q2,da,eU,w1,w2,w3,k1,k2,k3,dU,D.clean,rf]
  cases k4:bI price 0 1000
  .simp[Bk.bC,Bk.cells,hLf,q1,q2,da,eU,w1,w2,w3,k1,k2,k3,k4,dU,D.clean,rf]
  .exact absurd (by simp[k1,k2,k3,k4]) c2
 rename_i c2;split at hd
 case isTrue=>cases hd;exact absurd rfl he
 rename_i c3;cases hd;have hc2:=c2;simp only[E8,af]at hc2;obtain⟨k1,k2,k3,k4⟩:=hc2;have i1:=aS.1 k1;have i2:=aS.1 k2;have i3:=aS.1 k3;obtain⟨w,rfl⟩:∃n:Nat,w=n:=⟨w.toNat,by omega⟩;obtain⟨lv,rfl⟩:∃n:Nat,lv=n:=⟨lv.toNat,by omega⟩;obtain⟨u,rfl⟩:∃n:Nat,u=n:=⟨u.toNat,by omega⟩;simp only[wc,Int.toNat_natCast]at c3 ⊢;have hL:=Sr (J:=J) (F:=F) (er:=er) (ls:=cp b.ai) (w:=w) (lv:=lv) (u:=u) (price:=price) ht (λe he=>hok e (db.1 he).1) (λe he=>hrun e (db.1 he).1 (db.1 he).2) c1b (by have:=fG (λe:ep=>e.left) b.ai;simp only[cp];omega) (by omega) (by omega) (by omega) huk (cp b.ai).length 0 [] (by omega) rfl;rw[az]at hL;simp[Bk.bC,Bk.cells,hLf,q1,q2,da,eU,w1,w2,w3,k1,k2,k3,k4];refine WL.to hL (by simp) (by simp[Bk.bC,Bk.cells]) ?_;intro x e J' hq;simp only[Ig,if_neg c3]at hq;obtain⟨rfl,s,rfl⟩:=hq;simp[Bk.bC,Bk.cells,D.clean,rf]
def SN:List Int->List Rw
 |a::b::c::d::e::l=>⟨a,b,c,d,e⟩::SN l
 |_=>[]
def SM:List Int->List ba.pn
 |a::b::c::d::l=>⟨⟨a,b,c⟩,d⟩::SM l
 |_=>[]
def IN:List Int->List (Int×Int)
 |a::b::l=>(a,b)::IN l
 |_=>[]
theorem OD:∀(m:Nat) {l:List Int},l.length=m*5->fM (SN l) Rw.enc=fM l aQ/\(SN l).length=m
 |0,l,h=>by
  have:l=[]:=bg.1 (by omega);subst this;exact⟨rfl,rfl⟩
 |m+1,l,h=>by
  match l,h with
  |a::b::c::d::e::l,h =>
   have ih:=OD m (l:=l) (by simp at h;omega);simp[SN,ih.1,ih.2,aQ]
  |[],h=>simp at h
  |[_],h=>simp at h;omega
  |[_,_],h=>simp at h;omega
  |[_,_,_],h=>simp at h;omega
  |[_,_,_,_],h=>simp at h;omega
theorem OC:∀(m:Nat) {l:List Int},l.length=m*4->fM (SM l) ba.pn.enc=fM l aQ/\(SM l).length=m
 |0,l,h=>by
  have:l=[]:=bg.1 (by omega);subst this;exact⟨rfl,rfl⟩
 |m+1,l,h=>by
  match l,h with
  |a::b::c::d::l,h =>
   have ih:=OC m (l:=l) (by simp at h;omega);simp[SM,ih.1,ih.2,aQ]
  |[],h=>simp at h
  |[_],h=>simp at h;omega
  |[_,_],h=>simp at h;omega
  |[_,_,_],h=>simp at h;omega
theorem HO:∀(m:Nat) {l:List Int},l.length=m*2->fM (IN l) sW=fM l aQ/\(IN l).length=m
 |0,l,h=>by
  have:l=[]:=bg.1 (by omega);subst this;exact⟨rfl,rfl⟩
 |m+1,l,h=>by
  match l,h with
  |a::b::l,h =>
   have ih:=HO m (l:=l) (by simp at h;omega);simp[IN,ih.1,ih.2,aQ,sW]
  |[],h=>simp at h
  |[_],h=>simp at h;omega
def Mi(p:Int×Int):Prt:=⟨p.1,p.2⟩
theorem UZ(l:List (Int×Int)):fM (l.map Mi) Prt.enc=fM l sW:=by
 induction l with
 |nil=>rfl
 |cons p l ih=>simp only[aL,cT,ih];rfl
def ZZ:List Int->ba.cQ
 |[x0,x1,x2,x3,x4,x5,x6,x7,x8,x9]=>⟨⟨x0,x1,x2⟩,⟨x3,x4,x5⟩,x6,x7,x8,x9⟩
 |_=>⟨⟨0,0,0⟩,⟨0,0,0⟩,0,0,0,0⟩
def iM(b:Bk)(k:Nat)(nm:List UInt8)(l:List Int):Bk×Int :=
 match k with
 |0=>match l with
  |[x,y,z,k]=>mY b x y z k
  |_=>(b,4)
 |1=>lA b (SN l)
 |2=>match l with
  |[x,y,z]=>yP b x y z
  |_=>(b,4)
 |3=>match l with
  |[x,y,z]=>ti b x y z
  |_=>(b,4)
 |4=>pq b ⟨nm,l⟩
 |5=>match l with
  |k::lo::hi::r=>DK b (eW nm k lo hi (IN r))
  |_=>(b,4)
 |6=>rO b (ZZ l) (ZZ l).Ol
 |7=>match l with
  |[x,y,z]=>if ba.fB x y z=true then(LD b x y z,0)else(b,1)
  |_=>(b,4)
 |8=>oo b (SM l)
 |9=>lP b l
 |10=>match l with
  |[w,i,lo,hi]=>nT b ⟨b.av.length,w,i,lo,hi⟩
  |_=>(b,4)
 |11=>match l with
  |i::r=>tf b ⟨i,(IN r).map Mi⟩
  |_=>(b,4)
 |12=>match l with
  |[w,lv,u,p]=>mr b w lv u p
  |_=>(b,4)
 |_=>(b,4)
def jj(b:Bk)(n:Int)(s:List UInt8):Bk×Int:=match parse s with
 |some (w,nm,l)=>iM {b with at_:=n } w.k nm l
 |none=>(b,4)
structure Kv(n:Nat)(b:Bk):Prop where
 dX:b.aT.dX=[]\/fP b.aT.dX=true
 ready:b.ready=true->b.aT.valid=true
 ar:b.ready=false->b.aT.ar=[]
 ms:b.ai≠[]->b.ready=true
 ml:b.ai.length<=40
 wl:b.eR.length=b.ai.length
 fit:∀e∈b.ai,Bd b.aT e.m=true/\e.m.name.length<=1000000/\e.m.dG.length<=1000000
 pm:b.av≠[]->b.ai≠[]
 pl:sM b.aT b.av=0
 A9:∀e∈b.ai,e.left=true->∃r,aD.run b.aT e.m b.av=some r
 rules:b.rules.length<=20
 pr:b.pr.length<=200
 L9:∀e∈b.pr,e.ok=true
 jf:ba.fB b.k0 b.k1 b.k2=true
 cV:b.cV.length<=10
 uok:∀u∈b.cV,u.ok=true
 dA:b.dA.length<=n
theorem Pn{t:List Rw}(h:t=[]\/fP t=true):t.length<=20:=by
 rcases h with rfl | h
 .simp
 .simp only[fP,af]at h;have:=aS.1 h.1;omega
theorem vN{t:List Rw}(h:fP t=true):t≠[]:=by
 intro hh;subst hh;simp[fP,bI]at h
theorem A7{s:List UInt8}{w:Wd}{nm:List UInt8}{l:List Int}(h:parse s=some (w,nm,l)):(∃a,yj a=some w)/\GG w l.length=true/\nm.length<=s.length/\l.length<=s.length+1:=by
 have hlen:=DA 32 s;have hle:=Ih 32 s;unfold parse at h;cases hsp:dB 32 s with
 |nil=>exact absurd hsp (sP 32 s)
 |cons a all =>
 rw[hsp]at h hlen hle;simp only[aB]at hlen;simp only at h;cases hw:yj a with
 |none=>rw[hw]at h;cases h
 |some w0 =>
 rw[hw]at h;simp only at h;have key:∀nm0 (l0:List (List UInt8)),qQ w0 nm0 l0=some (w,nm,l)->w0=w/\nm0=nm/\GG w l.length=true/\l.length=l0.length:=by
  intro nm0 l0 hp;unfold qQ at hp;cases hm:mg l0 with
  |none=>rw[hm]at hp;cases hp
  |some ns =>
   rw[hm]at hp;simp only[aI,ae,ak]at hp;obtain⟨hf,rfl,rfl,rfl⟩:=hp;exact⟨rfl,rfl,hf,CB hm⟩
 split at h
 .cases all with
  |nil=>cases h
  |cons n r =>
   obtain⟨rfl,rfl,h3,h4⟩:=key n r h;refine⟨⟨a,hw⟩,h3,hle n (by simp),?_⟩;simp at hlen;omega
 .obtain⟨rfl,rfl,h3,h4⟩:=key [] all h;exact⟨⟨a,hw⟩,h3,by simp,by omega⟩
def doR(F:List aw.aF)(b:Bk)(er:List Int)(J:SK)(r:Bk×Int):R:=if r.2=0 then .val (.cS []) (F::r.1.bC J.length er::J)else .fy (rf r.2) (F::b.bC J.length er::J)
theorem uV{F:List aw.aF}{b:Bk}{er:List Int}{r:Bk×Int}{q:Q}(h1:∀b' e,r=(b',e)->e=0->di T q=some (.val (.cS []) (F::b'.bC J.length er::J)))(h2:∀b' e,r=(b',e)->e≠0->di T q=some (.fy (rf e) (F::b.bC J.length er::J))):
  di T q=some (doR F b er J r):=by
 obtain⟨b',e⟩:=r;unfold doR;by_cases he:e=0
 .rw[if_pos he];exact h1 b' e rfl he
 .rw[if_neg he];exact h2 b' e rfl he
theorem xB{l:List Int}{n:Nat}(h:l.length=n+1):∃a r,l=a::r/\r.length=n:=by
 cases l with
 |nil=>simp at h
 |cons a r=>exact⟨a,r,rfl,by simpa using h⟩
theorem Nv{l:List Int}(h:l.length=3):∃a0 a1 a2,l=[a0,a1,a2]:=by
 obtain⟨a0,r0,e0,h0⟩:=xB (n:=2) h;obtain⟨a1,r1,e1,h1⟩:=xB (n:=1) h0;obtain⟨a2,r2,e2,h2⟩:=xB (n:=0) h1;have e:=bg.1 h2;exact⟨a0,a1,a2,by rw[e0,e1,e2,e]⟩
theorem Nw{l:List Int}(h:l.length=4):∃a0 a1 a2 a3,l=[a0,a1,a2,a3]:=by
 obtain⟨a0,r0,e0,h0⟩:=xB (n:=3) h;obtain⟨a1,r1,e1,h1⟩:=xB (n:=2) h0;obtain⟨a2,r2,e2,h2⟩:=xB (n:=1) h1;obtain⟨a3,r3,e3,h3⟩:=xB (n:=0) h2;have e:=bg.1 h3;exact⟨a0,a1,a2,a3,by rw[e0,e1,e2,e3,e]⟩
theorem Zf{l:List Int}(h:l.length=10):∃a0 a1 a2 a3 a4 a5 a6 a7 a8 a9,l=[a0,a1,a2,a3,a4,a5,a6,a7,a8,a9]:=by
 obtain⟨a0,r0,e0,h0⟩:=xB (n:=9) h;obtain⟨a1,r1,e1,h1⟩:=xB (n:=8) h0;obtain⟨a2,r2,e2,h2⟩:=xB (n:=7) h1;obtain⟨a3,r3,e3,h3⟩:=xB (n:=6) h2;obtain⟨a4,r4,e4,h4⟩:=xB (n:=5) h3;obtain⟨a5,r5,e5,h5⟩:=xB (n:=4) h4;obtain⟨a6,r6,e6,h6⟩:=xB (n:=3) h5;obtain⟨a7,r7,e7,h7⟩:=xB (n:=2) h6;obtain⟨a8,r8,e8,h8⟩:=xB (n:=1) h7;obtain⟨a9,r9,e9,h9⟩:=xB (n:=0) h8;have e:=bg.1 h9;exact⟨a0,a1,a2,a3,a4,a5,a6,a7,a8,a9,by rw[e0,e1,e2,e3,e4,e5,e6,e7,e8,e9,e]⟩
theorem tL{w:Wd}{n:Nat}(h:GG w n=true)(hs:w.step=0):(n:Int)=w.least:=by
 simp only[GG,cq,af,au]at h;omega
theorem AU{w:Wd}{n:Nat}(h:GG w n=true)(hs:0<w.step)(hl:0<=w.least):w.least<=n/\((n:Int)-w.least)%w.step=0:=by
 simp only[GG,cq,af,au]at h;rcases h with h | ⟨h1,h2,h3⟩
 .refine⟨by omega,?_⟩;rw[h];simp
 .refine⟨by omega,?_⟩;rwa[Int.tmod_eq_emod_of_nonneg (by omega)]at h3
theorem Ok.one{b:b9}{m:ck}{av:List (List Int)}(hb:b.valid=true)(hf:Bd b m=true)(hp:sM b av=0)(hn:m.name.length<=1000000000):Ok b [m] av:=by
 have hbv:=Bv.of hb;have hfit:fits b m=true:=by simp only[Bd,af]at hf;exact hf.2
 have hfv:=Fv.of hf;have hm:b.f.ai [m]=0:=by
  have h:=hfit;simp only[fits,af,au]at h;have h1:=h.1;unfold fX at h1;rw[if_pos hbv.fv]at h1;exact h1
 obtain⟨p1,p2⟩:=kG hp;exact⟨hbv,hb,by simp,hm,by simpa using hfit,by simpa using hfv,by intro x hx;simp at hx;subst hx;exact⟨hn,hfv.toMv.le.2⟩,hp,p1,p2⟩
theorem LK{b:b9}{m:ck}(hb:b.valid=true)(hf:Bd b m=true):b.f.model m=0:=by
 have hfit:fits b m=true:=by simp only[Bd,af]at hf;exact hf.2
 rw[Ox (Bv.of hb),af,au]at hfit;exact hfit.1
theorem akM{F:List aw.aF}{b:Bk}{er:List Int}{s:List UInt8}{w:Wd}{nm:List UInt8}{l:List Int}{n:Nat}(hK:Kv n b)(hn:n<=1000000)(hp:parse s=some (w,nm,l))(hs:s.length<=4000):
  di T (.call false ((Nz[w.k]?).getD 0) [.ref J.length 6 0 0,.str nm,.bZ l.length (fM l aQ)] (F::b.bC J.length er::J))=some (doR F b er J (iM b w.k nm l)):=by
 obtain⟨⟨a,ha⟩,hfit,hnm,hll⟩:=A7 hp;have htl:=Pn hK.dX;have hv:b.ready=true->Bv b.aT:=λh=>Bv.of (hK.ready h)
 have hrt:b.ready=true->fP b.aT.dX=true:=λh=>(hv h).dX
 have hwl:b.aT.ar.length<=8:=by
  cases hr:b.ready with
  |true=>exact(hv hr).ar
  |false=>rw[hK.ar hr];simp
 have hmr:b.ai≠[]->fP b.aT.dX=true:=λh=>hrt (hK.ms h)
 have hlm:cp b.ai≠[]->b.ai≠[]:=λh hh=>h (by rw[hh];rfl)
 have hz:Sz b:=⟨by omega,by omega,λe he=>⟨by have:=(hK.fit e he).2.1;omega,by have:=(hK.fit e he).2.2;omega⟩⟩;have hplz:=kG hK.pl;have hbv:b.ai≠[]->b.aT.valid=true:=λh=>hK.ready (hK.ms h)
 have hne:∀e∈b.ai,b.ai≠[]:=λe he hh=>by rw[hh]at he;cases he
 have hok:∀e∈b.ai,Ok b.aT [e.m] b.av:=λe he=>Ok.one (hbv (hne e he)) (hK.fit e he).1 hK.pl (hz.ms e he).1
 have hfm:∀e∈b.ai,b.aT.f.model e.m=0:=λe he=>LK (hbv (hne e he)) (hK.fit e he).1
 have hsp:∀e∈b.pr,e.sp.length<=1000000:=λe he=>by
  have:=hK.L9 e he;simp only[ba.Ev.ok,af]at this;have:=ba.aS.1 this.2.1;omega
 have h1:=Cu ha;simp only[lM,bz,ak,List.not_mem_nil,or_false]at h1;rcases h1 with⟨_,rfl⟩ | ⟨_,rfl⟩ | ⟨_,rfl⟩ | ⟨_,rfl⟩ | ⟨_,rfl⟩ | ⟨_,rfl⟩ | ⟨_,rfl⟩ | ⟨_,rfl⟩ | ⟨_,rfl⟩ | ⟨_,rfl⟩ | ⟨_,rfl⟩ | ⟨_,rfl⟩ | ⟨_,rfl⟩
 .have hl:l.length=4:=by
   have h:(l.length:Int)=4:=tL hfit rfl;omega
  obtain⟨x,y,z,k,rfl⟩:=Nw hl;exact uV (λb' e hd he=>aaN hd he) (λb' e hd he=>Vy hd he)
 .have hl:=(AU hfit (by decide) (by decide)).2;simp only[Int.sub_zero]at hl;obtain⟨h5,h6⟩:=OD (l.length / 5) (l:=l) (by omega);have hlen:(SN l).length*5=l.length:=by omega
  try simp only[]
  rw[<- h5,<- hlen];exact uV (λb' e hd he=>abj (by omega) hd he) (λb' e hd he=>VK (by omega) hd he)
 .have hl:l.length=3:=by
   have h:(l.length:Int)=3:=tL hfit rfl;omega
  obtain⟨x,y,z,rfl⟩:=Nv hl;exact uV (λb' e hd he=>ael (by omega) (by omega) hd he) (λb' e hd he=>Xl (by omega) (by omega) hd he)
 .have hl:l.length=3:=by
   have h:(l.length:Int)=3:=tL hfit rfl;omega
  obtain⟨x,y,z,rfl⟩:=Nv hl;refine uV (λb' e hd he=>?_) (λb' e hd he=>XY (λh=>vN (hrt h)) (by omega) (by omega) hd he);have hr:b.ready=true:=by
   have hd2:ti b x y z=(b',e):=hd;unfold ti at hd2;split at hd2
   .rename_i h;exact h.1
   .cases hd2;cases he
  exact aeI (vN (hrt hr)) (by omega) (by omega) hd he
 .exact uV (λb' e hd he=>Xy (m:=⟨nm,l⟩) (by omega) (by omega) (by simp;omega) (by simp;omega) hK.wl hd he) (λb' e hd he=>VB (m:=⟨nm,l⟩) (by omega) (by omega) (by simp;omega) (by simp;omega) hK.ml hd he)
 .obtain⟨hl1,hl2⟩:=AU hfit (by decide) (by decide);simp only at hl1 hl2;obtain⟨k,l,rfl,hl⟩:=xB (n:=l.length-1) (l:=l) (by omega);simp only[aB]at hl1 hl2 hll;obtain⟨lo,l,rfl,hl⟩:=xB (n:=l.length-1) (l:=l) (by omega);simp only[aB]at hl1 hl2 hll;obtain⟨hi,l,rfl,hl⟩:=xB (n:=l.length-1) (l:=l) (by omega);simp only[aB]at hl1 hl2 hll;obtain⟨h5,h6⟩:=HO (l.length / 2) (l:=l) (by omega);have hlen:(IN l).length*2+3=l.length+1+1+1:=by omega
  simp only[cT,aB,aQ,cm]
  try simp only[lF]
  rw[<- h5,<- hlen];refine uV (λb' e hd he=>aes (by omega) (by omega) hK.wl hK.ml (λe he=>⟨hfm e he,hz.ms e he⟩) hd he) (λb' e hd he=>aaW (by omega) (by omega) hd he)
 .have hl:l.length=10:=by
   have h:(l.length:Int)=10:=tL hfit rfl;omega
  obtain⟨x0,x1,x2,x3,x4,x5,x6,x7,x8,x9,rfl⟩:=Zf hl;exact uV (λb' e hd he=>aex hd he) (λb' e hd he=>XO hd he)
 .have hl:l.length=3:=by
   have h:(l.length:Int)=3:=tL hfit rfl;omega
  obtain⟨x,y,z,rfl⟩:=Nv hl;refine uV (λb' e hd he=>?_) (λb' e hd he=>?_)
  .have hd2:(if ba.fB x y z=true then(LD b x y z,0)else(b,1))=(b',e):=hd;split at hd2
   .rename_i h;cases hd2;exact aeq h
   .cases hd2;cases he
  .have hd2:(if ba.fB x y z=true then(LD b x y z,0)else(b,1))=(b',e):=hd;split at hd2
   .cases hd2;exact absurd rfl he
   .rename_i h;cases hd2;exact Xv (by simpa using h)
 .have hl:=(AU hfit (by decide) (by decide)).2;simp only[Int.sub_zero]at hl;obtain⟨h5,h6⟩:=OC (l.length / 4) (l:=l) (by omega);have hlen:(SM l).length*4=l.length:=by omega
  try simp only[]
  rw[<- h5,<- hlen];exact uV (λb' e hd he=>aaY (by omega) hd he) (λb' e hd he=>VE (by omega) hd he)
 .have hpl:∀r∈b.av,r.length<=1000000000:=λr hr=>by have:=(hplz.2 r hr).len;omega
  refine uV (λb' e hd he=>?_) (λb' e hd he=>XU (λh=>vN (hmr (hlm h))) hz (by omega) hK.ml (by have:=hK.rules;omega) (by have:=hK.pr;omega) hsp hK.jf hpl hd he);have hr:cp b.ai≠[]:=by
   have hd2:lP b l=(b',e):=hd;unfold lP at hd2;split at hd2
   .cases hd2;cases he
   .rename_i h;exact h
  exact abk (vN (hmr (hlm hr))) hz (by omega) hK.ml (by have:=hK.rules;omega) (by have:=hK.pr;omega) hsp hK.jf hpl hd he
 .have hl:l.length=4:=by
   have h:(l.length:Int)=4:=tL hfit rfl;omega
  obtain⟨w,i,lo,hi,rfl⟩:=Nw hl;refine uV (λb' e hd he=>?_) (λb' e hd he=>XF (λh=>vN (hmr (hlm h))) hK.ml hok hd he);have hr:cp b.ai≠[]:=by
   have hd2:nT b ⟨b.av.length,w,i,lo,hi⟩=(b',e):=hd;unfold nT at hd2;split at hd2
   .cases hd2;cases he
   .rename_i h;exact h
  exact aa3 (vN (hmr (hlm hr))) hK.wl hK.ml hok hK.A9 hd he
 .obtain⟨hl1,hl2⟩:=AU hfit (by decide) (by decide);simp only at hl1 hl2;obtain⟨i,l,rfl,hl⟩:=xB (n:=l.length-1) (l:=l) (by omega);simp only[aB]at hl1 hl2 hll;obtain⟨h5,h6⟩:=HO (l.length / 2) (l:=l) (by omega);have hlen:((IN l).map Mi).length*2+1=l.length+1:=by simp;omega
  simp only[cT,aB,aQ,cm];rw[<- h5,<- hlen,<- UZ];exact uV (λb' e hd he=>aeF (u:=⟨i,(IN l).map Mi⟩) (by simp;omega) hd he) (λb' e hd he=>XV (u:=⟨i,(IN l).map Mi⟩) (by simp;omega) hd he)
 .have hl:l.length=4:=by
   have h:(l.length:Int)=4:=tL hfit rfl;omega
  obtain⟨w,i,lo,hi,rfl⟩:=Nw hl;refine uV (λb' e hd he=>?_) (λb' e hd he=>XT (λh=>hmr (hlm h)) hK.ml hok hK.A9 hK.uok hK.cV (by omega) (by have:=hK.dA;omega) hd he);have hr:cp b.ai≠[]:=by
   have hd2:mr b w i lo hi=(b',e):=hd;unfold mr at hd2;split at hd2
   .cases hd2;cases he
   .rename_i h;exact λhh=>h (.inl hh)
  exact abi (hmr (hlm hr)) hK.ml hok hK.A9 hK.uok hK.cV (by omega) (by have:=hK.dA;omega) hd he
end
section
open Go Go.aw Go.aD Go.cY
theorem Kv.le{n m:Nat}{b:Bk}(h:Kv n b)(hn:n<=m):Kv m b:={h with dA:=jc h.dA hn }
theorem Kv.zero:Kv 0 gr:=by
 refine⟨.inl rfl,by simp[gr],λ_=>rfl,by simp[gr],by simp[gr],rfl,by simp[gr],by simp[gr],?_,by simp[gr],by simp[gr],by simp[gr],by simp[gr],by decide,by simp[gr],by simp[gr],by simp[gr]⟩;simp[gr,sM,b8]
theorem Fx{b:b9}:sM b []=0:=by simp[sM,b8]
theorem Yw{b:b9}(h:b.valid=true):b.dX≠[]/\¬((b.f.x=0/\b.f.y=0)/\b.f.z=0/\b.f.k=0):=by
 have hv:=Bv.of h;refine⟨vN hv.dX,λhh=>?_⟩;have:=hv.x;omega
theorem Kv.OM{n:Nat}{b:Bk}(h:Kv n b)(hm:b.ai=[]):b.av=[]:=by
 by_cases hp:b.av=[]
 .exact hp
 .exact absurd hm (h.pm hp)
theorem Kv.LM{n:Nat}{b:Bk}(h:Kv n b)(hr:b.ready=false):b.ai=[]:=by
 by_cases hp:b.ai=[]
 .exact hp
 .rw[h.ms hp]at hr;cases hr
theorem Kv.VQ{n:Nat}{b:Bk}(h:Kv n b)(k:Int):Kv n {b with at_:=k }:={h with }
theorem acL{b:b9}{m:ck}:∃r,aD.run b m []=some r:=⟨_,rfl⟩
theorem Ve{b:Bk}{lo hi:Int}{val:ck->Int}{x:ep}(h:x∈(gM b lo hi val).ai):∃e∈b.ai,x.m=e.m/\(x.left=true->e.left=true):=by
 simp only[gM,Bk.gq,List.mem_mapIdx]at h;obtain⟨i,hi,rfl⟩:=h;refine⟨b.ai[i],List.getElem_mem hi,?_⟩;rw[if_pos hi];unfold Go.cY.bD;split<;>simp
theorem Kv.Mc{n:Nat}{b:Bk}(h:Kv n b){lo hi:Int}{val:ck->Int}:Kv n (gM b lo hi val):=by
 have hl:(gM b lo hi val).ai.length=b.ai.length:=uk;have hn:(gM b lo hi val).ai=[]↔b.ai=[]:=by rw[<- bg,hl,bg]
 refine {dX:=h.dX,ready:=h.ready,ar:=h.ar,ms:=λhh=>h.ms (λh2=>hh (hn.2 h2)),ml:=by rw[hl];exact h.ml,wl:=by rw[hl,<- h.wl];exact we,fit:=λx hx=>?_,pm:=λhh h2=>h.pm hh (hn.1 h2),pl:=h.pl,A9:=λx hx hxl=>?_,rules:=h.rules,pr:=h.pr,L9:=h.L9,jf:=h.jf,cV:=h.cV,uok:=h.uok,dA:=h.dA }
 .obtain⟨e,he,h1,_⟩:=Ve hx;rw[h1];exact h.fit e he
 .obtain⟨e,he,h1,h2⟩:=Ve hx;rw[h1];exact h.A9 e he (h2 hxl)
theorem HU{l:List ep}{e:ep}(h:e∈cp l):e∈l/\e.left=true:=db.1 h
theorem Kv.word{n:Nat}{b:Bk}(h:Kv n b){s:List UInt8}{w:Wd}{nm:List UInt8}{l:List Int}(hp:parse s=some (w,nm,l))(hs:s.length<=4000):Kv (n+1) (iM b w.k nm l).1:=by
 obtain⟨_,_,hnm,hll⟩:=A7 hp;have h1:=h.le (Nat.le_succ n);generalize w.k=k;unfold iM;split
 ·
  split
  .unfold mY;split
   .rename_i hz;split
    .have hr:b.ready=false:=by
      cases hr:b.ready with
      |false=>rfl
      |true=>exact absurd hz (Yw (h.ready hr)).2
     have hm:=h.LM hr;have hpl:=h.OM hm;have hno:∀e,e∈b.ai->False:=by rw[hm];simp
     exact {h1 with dX:=h.dX,ready:=λhh=>(by rw[show b.ready=true from hh]at hr;cases hr),ar:=h.ar,fit:=λe he=>(hno e he).elim,pl:=by simp only[hpl];exact Fx,A9:=λe he=>(hno e he).elim }
    .exact h1
   .exact h1
  .exact h1
 ·
  unfold lA;split
  .rename_i hz;split
   .rename_i ht;have hr:b.ready=false:=by
     cases hr:b.ready with
     |false=>rfl
     |true=>exact absurd hz (Yw (h.ready hr)).1
    have hm:=h.LM hr;have hpl:=h.OM hm;have hno:∀e,e∈b.ai->False:=by rw[hm];simp
    exact {h1 with dX:=.inr ht,ready:=λhh=>(by rw[show b.ready=true from hh]at hr;cases hr),ar:=h.ar,fit:=λe he=>(hno e he).elim,pl:=by simp only[Jg,hpl];exact Fx,A9:=λe he=>(hno e he).elim }
   .exact h1
  .exact h1
 ·
  split
  .rename_i x y z;unfold yP;split
   .exact h1
   .rename_i hz;split
    .rename_i hv;have hr:b.ready=false:=by
      cases hr:b.ready with
      |false=>rfl
      |true=>exact absurd (.inr (.inr hr)) hz
     have hm:=h.LM hr;have hpl:=h.OM hm;have hno:∀e,e∈b.ai->False:=by rw[hm];simp
     exact {h1 with dX:=h.dX,ready:=λ_=>hv,ar:=λhh=>(by cases hh),ms:=λ_=>rfl,fit:=λe he=>(hno e he).elim,pl:=by simp only[D2,hpl];exact Fx,A9:=λe he=>(hno e he).elim }
    .exact h1
  .exact h1
 ·
  split
  .rename_i x y z;unfold ti;split
   .rename_i hz;obtain⟨hr,hm⟩:=hz;split
    .rename_i hv;have hpl:=h.OM hm;have hno:∀e,e∈b.ai->False:=by rw[hm];simp
     exact {h1 with dX:=h.dX,ready:=λ_=>hv,ar:=λhh=>(by rw[show b.ready=false from hh]at hr;cases hr),fit:=λe he=>(hno e he).elim,pl:=by simp only[mV,hpl];exact Fx,A9:=λe he=>(hno e he).elim }
    .exact h1
   .exact h1
  .exact h1
 ·
  unfold pq;split
  .rename_i hz;obtain⟨hr,hpl⟩:=hz;split
   .exact h1
   .split
    .rename_i hml;split
     .rename_i hb;refine {h1 with ms:=λ_=>hr,ml:=by simp[zP];omega,wl:=by simp[zP,h.wl],fit:=λe he=>?_,pm:=λhh=>absurd hpl hh,A9:=λe he hl=>?_ }
      .simp only[zP,aU,List.mem_singleton]at he;rcases he with he | rfl
       .exact h.fit e he
       .exact⟨hb,by simp;omega,by simp;omega⟩
      .simp only[zP];rw[hpl];exact acL
     .exact h1
    .exact h1
  .exact h1
 ·
  split
  .unfold DK;split
   .exact h1
   .split
    .exact h1.Mc
    .exact h1
  .exact h1
 ·
  unfold rO;split
  .split
   .split
    .rename_i hl _ _;exact {h1 with rules:=by simp;omega }
    .exact h1
   .exact h1
  .exact h1
 ·
  split
  .split
   .rename_i hk;exact {h1 with jf:=hk }
   .exact h1
  .exact h1
 ·
  unfold oo;split
  .rename_i hl;split
   .rename_i ho;refine {h1 with pr:=by simp[E2];omega,L9:=λe he=>?_ };simp only[E2,aU,List.mem_singleton]at he;rcases he with he | rfl
    .exact h.L9 e he
    .exact ho
   .exact h1
  .exact h1
 ·
  unfold lP;split
  .exact h1
  .rename_i hl;split
   .split
    .split
     .split
      .rename_i hf;obtain⟨e0,he0⟩:=List.exists_mem_of_ne_nil _ hl;have key:∀e∈cp b.ai,Bd b.aT e.m=true/\sM b.aT (dJ b l)=0/\∃r,aD.run b.aT e.m (dJ b l)=some r:=by
        intro e he;have hz:=oT hf e he;have hb:=(h.fit e (HU he).1).1;simp only[kV,hb,if_true]at hz;split at hz
        .rename_i hq;cases hr:aD.run b.aT e.m (dJ b l)with
         |none=>rw[hr]at hz;cases hz
         |some r=>exact⟨hb,hq,r,rfl⟩
        .rename_i hq;exact absurd hz hq
       refine {h1 with pm:=λ_ hh=>?_,pl:=(key e0 he0).2.1,A9:=λe he hel=>(key e (db.2 ⟨he,hel⟩)).2.2 };have:=(HU he0).1;rw[show b.ai=[]from hh]at this;cases this
      .exact h1
     .exact h1
    .exact h1
   .exact h1
 ·
  split
  .unfold nT;split
   .exact h1
   .split
    .split
     .exact h1.Mc
     .exact h1
    .exact h1
  .exact h1
 ·
  split
  .unfold tf;split
   .rename_i hl;split
    .rename_i ho;refine {h1 with cV:=by simp[JY];omega,uok:=λu hu=>?_ };simp only[JY,aU,List.mem_singleton]at hu;rcases hu with hu | rfl
     .exact h.uok u hu
     .exact ho
    .exact h1
   .exact h1
  .exact h1
 ·
  split
  .unfold mr;split
   .exact h1
   .split
    .split
     .exact {h1 with dA:=by have:=h.dA;simp[RD];omega }
     .exact h1
    .exact h1
  .exact h1
 .exact h1
theorem Kv.line{n:Nat}{b:Bk}(h:Kv n b){s:List UInt8}(hs:s.length<=4000){k:Int}:Kv (n+1) (jj b k s).1:=by
 unfold jj;split
 .rename_i w nm l hp;exact(h.VQ k).word hp hs
 .exact h.le (Nat.le_succ n)
end
end Go.Proofs.YtpapbbojmclkgaaGreatDoor
namespace Go.aw
variable {T:CL}
theorem Qp{f:Nat}{fn:Fn}{args:List D}{J J':SK}{d:D}{np:Nat}{res:List G2}{body A q:cb}{fo:bU}{bs:List bU}(hT:T f=some fn)(hf:fn=⟨np,res,body⟩)(hl:args.length=np)(hs:ie body=some (A,fo,bs,q))(hlen:J'.length=J.length)
  (h:WC (di T) A (kU 0 args) ([]::J) (toD T fo bs q J' res d)):
  di T (.call false f args J)=some (.val d J'):=by
 subst hf;obtain⟨x,e1,J1,h1,rfl,x2,e2,J2,h2,th,h3,J3,h4,ds,h5,s,h6⟩:=h;rw[hlen]at h6;refine gJ ?_;have hn:bA (di T) body (kU 0 args) ([]::J)=none:=Bc hs h1;simp only[dM,hT,if_pos hl,aC,if_false,hn,hs,B8,h1,h2];have h4':∃dv,oK (di T) (bG e1 fo) (bs.map (bG e1)) th J2=some (.val dv J3):=by
  unfold xf at h4;split at h4
  .rename_i h7;cases h4;exact⟨_,h7⟩
  .cases h4
 obtain⟨dv,h4'⟩:=h4';cases x2 with
 |exit i=>cases h3
 |normal=>cases h3;simp only[B9,h4',uU,leave,h5,h6]
 |ret=>cases h3;simp only[B9,h4',uU,leave,h5,h6]
 |fy d=>cases h3;simp only[B9,h4',uU,leave,h5,h6]
end Go.aw
namespace Go.Proofs.YtpapbbojmclkgaaGreatDoor
section
open Go Go.aw Go.aD Go.cY
variable {J:SK}
theorem abD{c:List D}:di T (.Ar 84 [.ref J.length 0 0 0] none ([.cells 0 c]::J))=some (.val (.cS []) ([.cells 0 c]::J)):=by
 refine Ed rfl rfl rfl (by simp[qU];exact⟨rfl,rfl⟩) ?_;simp
theorem Ul{e:Int}:di T (.Ar 84 [.ref J.length 0 0 0] (some (rf e)) ([.cells 0 [iI 0]]::J))=some (.val (.cS []) ([.cells 0 [iI e]]::J)):=by
 refine Ed rfl rfl rfl (by simp[qU];exact⟨rfl,rfl⟩) ?_;simp[rf]
theorem V0{b:Bk}{k:Nat}{nm:List UInt8}{l:List Int}(h:(iM b k nm l).2≠0):(iM b k nm l).1=b:=by
 unfold iM at h ⊢;split;all_goals
  simp only at h
  try unfold Go.cY.mY at *
  try unfold lA at *
  try unfold yP at *
  try unfold ti at *
  try unfold pq at *
  try unfold DK at *
  try unfold rO at *
  try unfold oo at *
  try unfold lP at *
  try unfold nT at *
  try unfold tf at *
  try unfold mr at *
  (repeat' split)
  all_goals first | rfl | (simp_all)
theorem N3{b:Bk}{er:List Int}{s:List UInt8}{n:Nat}{k:Int}(hK:Kv n b)(hn:n<=1000000)(hs:s.length<=4000):
  di T (.call false 60 [.ref J.length 6 0 0,iI k,.str s] (b.bC J.length er::J))=some (.val (iI (jj b k s).2) ((jj b k s).1.bC J.length er::J)):=by
 refine Qp FI mi.eq_1 rfl rfl (by simp) ?_;cases hp:parse s with
 |none =>
  have hP:=λS=>Sg (J:=S) (s:=s) (by omega) hp
  have hX:xf T (.fn 84 [] [.ref (J.length+1) 0 0 0]) [] (some (rf 4)) ([.cells 0 [iI 0]]::b.bC J.length er::J)=some ([.cells 0 [iI 4]]::b.bC J.length er::J):=uT (Ul (J:=b.bC J.length er::J));have hd:jj b k s=(b,4):=by simp[jj,hp]
  rw[hd];simp only[Bk.bC,Bk.cells,rf]at hX hP;simp[toD,Bk.bC,Bk.cells];rw[yK gw.eq_1];simp[Qv,hP,hX]
 |some p =>
  obtain⟨w,nm,l⟩:=p;have hP:=λS hS=>XD (J:=S) (s:=s) (by omega) hS hp
  have hD:=akM (J:=J) (F:=[.cells 0 [iI 0]]) (er:=er) (hK.VQ k) hn hp hs;have hd:jj b k s=iM {b with at_:=k } w.k nm l:=by simp[jj,hp]
  rw[hd];have hno:=V0 (b:={b with at_:=k }) (k:=w.k) (nm:=nm) (l:=l);generalize iM {b with at_:=k } w.k nm l=r at hD hno ⊢;obtain⟨b',e⟩:=r;have hwc:R0 w=[.bool w.named,iI w.least,iI w.step,.fn ((Nz[w.k]?).getD 0) [] []]:=rfl;simp only[A8,hwc]at hP;by_cases he:e=0
  .subst he;have hX:xf T (.fn 84 [] [.ref (J.length+1) 0 0 0]) [] none ([.cells 0 [iI 0]]::b'.bC J.length er::J)=some ([.cells 0 [iI 0]]::b'.bC J.length er::J):=uT (abD (J:=b'.bC J.length er::J));simp only[doR,if_true]at hD;simp only[Bk.bC,Bk.cells]at hX hD;simp[toD,Bk.bC,Bk.cells];rw[yK gw.eq_1];simp[Qv,hP,hD,hX]
  .have hX:xf T (.fn 84 [] [.ref (J.length+1) 0 0 0]) [] (some (rf e)) ([.cells 0 [iI 0]]::(Bk.bC J.length {b with at_:=k } er)::J)=some ([.cells 0 [iI e]]::(Bk.bC J.length {b with at_:=k } er)::J):=uT (Ul (J:=(Bk.bC J.length {b with at_:=k } er)::J));simp only[doR,he,if_false]at hD;have hb':b'={b with at_:=k }:=hno he;subst hb';simp only[Bk.bC,Bk.cells,rf]at hX hD;simp[toD,Bk.bC,Bk.cells];rw[yK gw.eq_1];simp[Qv,hP,hD,hX]
def jz:Bk->Int->List (List UInt8)->Bk×List Int
 |b,_,[]=>(b,[])
 |b,k,s::l=>((jz (jj b k s).1 (k+1) l).1,(jj b k s).2::(jz (jj b k s).1 (k+1) l).2)
def fE(l:List (List UInt8)):Bk×List Int:=jz gr 0 l
theorem yG:∀{l:List (List UInt8)} {b:Bk} {k:Int},(jz b k l).2.length=l.length
 |[],_,_=>rfl
 |s::l,b,k=>by simp[jz,yG (l:=l)]
def ZB(l:List (List UInt8)):Prop:=l.length<=100/\∀s∈l,s.length<=4000
theorem H9:∀{l:List (List UInt8)} {b:Bk} {k:Int} {n:Nat},Kv n b->(∀s∈l,s.length<=4000)->Kv (n+l.length) (jz b k l).1
 |[],b,k,n,h,_=>h
 |s::l,b,k,n,h,hs=>by
  have h1:=h.line (hs s (by simp)) (k:=k);have h2:=H9 (l:=l) (k:=k+1) h1 λx hx=>hs x (by simp[hx])
  simp only[jz,aB];rwa[show n+(l.length+1)=n+1+l.length by omega]
theorem Sp{lines:List (List UInt8)}(hl:ZB lines):∀(m i:Nat) (b:Bk) (er:List Int),i+m=lines.length->er.length=i->Kv i b ->
  WL T [4,5,12,13,14] false mD [(4,.ref J.length 6 0 0),(5,.sl J.length 7 i 0 i 1),(12,lF lines bD),(13,iI lines.length),(14,iI i)] (b.bC J.length er::J)
   (λx e J'=>x=.exit 0/\get e 4=.ref J.length 6 0 0/\get e 5=.sl J.length 7 lines.length 0 lines.length 1/\J'=(jz b i (lines.drop i)).1.bC J.length (er++(jz b i (lines.drop i)).2)::J)
 |0,i,b,er,hi,he,hK=>by
  refine aK ?_;obtain rfl:i=lines.length:=by omega
  have h2:lines.drop lines.length=[]:=ec;simp[h2,jz]
 |m+1,i,b,er,hi,he,hK=>by
  refine aK ?_;have h1:i<lines.length:=by omega
  obtain⟨s,hs⟩:=gE h1;have a1:=bx (f:=bD) (w:=1) hs;simp only[bD,bR]at a1;have h4:=cj h1 (by have:=hl.1;omega);have hsl:=hl.2 s (ah hs);have hn:=hl.1;have hC:=N3 (J:=J) (b:=b) (er:=er) (s:=s) (k:=i) hK (by omega) hsl;have hK':=hK.line hsl (k:=i);rw[bj hs];simp only[jz];generalize jj b i s=r at hC hK' ⊢;obtain⟨b',e⟩:=r;have ih:=Sp hl m (i+1) b' (er++[e]) (by omega) (by simp[he]) hK';have hel:=nN er;have het:(fM er aQ).take i=fM er aQ:=cZ;have hr:(i+1)*8<=room:=by unfold room;omega
  simp only[Bk.bC,Bk.cells,he]at hC;simp[h1,a1,h4,hC,Bk.bC,Bk.cells,hr,hel,het,he];refine WL.to ih (by simp) (by simp[Bk.bC,Bk.cells,he]) λx e' J' hh=>?_
  have e1:((i+1:Nat):Int)=(i:Int)+1:=by omega
  rw[e1]at hh;simpa[Bk.bC,Bk.cells]using hh
theorem XP{lines:List (List UInt8)}(hl:ZB lines):di T (.call true 32 [lF lines bD] ([]::J)) =
  some (.val (.cS [.ref J.length 6 0 0,.sl J.length 7 lines.length 0 lines.length 1]) ((fE lines).1.bC J.length (fE lines).2::J)):=by
 refine mh rfl rfl rfl ?_;have hL:=Sp (J:=J) hl lines.length 0 gr [] (by omega) rfl Kv.zero;rw[az]at hL;simp;refine WL.to hL (by simp) (by simp[Bk.bC,Bk.cells,gr,nl]) ?_;rintro x e J' ⟨rfl,g4,g5,rfl⟩;simp[g4,g5,fE]
end
section
open Go Go.aw Go.aD Go.cY
def z0(e:ep):ep:={e with Oi:=0 }
def nmB(b:Bk):Bk:={b with ai:=b.ai.map z0,eR:=[],at_:=0 }
theorem afz(l:List ep):(l.map z0).map z0=l.map z0:=by
 rw[List.map_map];rfl
theorem aiT(b:Bk):nmB (nmB b)=nmB b:=by
 simp only[nmB,afz]
def SmQ(x y:Bk×Int):Prop:=x.2=y.2/\nmB x.1=nmB y.1
theorem SmQ.ite{c:Prop}{_:Decidable c}{x y x' y':Bk×Int}(h1:c->SmQ x x')(h2:¬c->SmQ y y'):SmQ (if c then x else y) (if c then x' else y'):=by
 by_cases h:c
 .rw[if_pos h,if_pos h];exact h1 h
 .rw[if_neg h,if_neg h];exact h2 h
theorem SmQ.no(b:Bk)(e:Int):SmQ (b,e) (nmB b,e):=⟨rfl,(aiT b).symm⟩
end
section
open Go Go.aw Go.cY
variable {J:SK}
theorem T7{l:List (List UInt8)}(hl:l.length<=1000000000):∀(m i:Nat),i+m=l.length ->
  WL T [0,3] false vm [(0,lF l bD),(3,iI i)] J
   (λx e J'=>J'=J/\if lN (l.drop i) (λs=>decide (4000<s.length))then x=.ret/\get e 2=.bool false else x=.exit 0/\get e 0=lF l bD)
 |0,i,hi=>by
  refine aK ?_;obtain rfl:i=l.length:=by omega
  have h2:l.drop l.length=[]:=ec;simp[h2,lN]
 |m+1,i,hi=>by
  refine aK ?_;have h1:i<l.length:=by omega
  obtain⟨s,hs⟩:=gE h1;have a1:=bx (f:=bD) (w:=1) hs;simp only[bD,bR]at a1;have h4:=cj h1;rw[bj hs];by_cases hc:4000<s.length
  .have hc':(4000:Int)<s.length:=by omega
   simp[fO,h1,a1,hc,hc',lN]
  .have hc':¬(4000:Int)<s.length:=by omega
   simp[fO,h1,a1,h4,hc',lN,hc];exact WL.tg (T7 hl m (i+1) (by omega)) λx e J' hh=>by simpa[lN,hc]using hh
theorem VI{l:List (List UInt8)}(hl:l.length<=1000000000):Cl 12 [lF l bD] (.bool (okB l)) J:=by
 refine an ?_;simp;refine WL.tg (T7 (J:=[]::J) hl l.length 0 (by omega)) ?_;rintro x e J' ⟨rfl,hh⟩;rw[az]at hh;cases hc:lN l (λs=>decide (4000<s.length))
 .rw[hc,if_neg (by simp)]at hh;obtain⟨rfl,g0⟩:=hh;by_cases h1:l.length<=100
  .have h2:(l.length:Int)<=100:=by omega
   simp[g0,okB,hc,h1,h2]
  .have h2:¬(l.length:Int)<=100:=by omega
   simp[g0,okB,hc,h1,h2]
 .rw[hc,if_pos rfl]at hh;obtain⟨rfl,g2⟩:=hh;simp[g2,okB,hc]
end
section
open Go Go.aw Go.aD Go.cY
variable {J:SK}
theorem ko{α:Type}{f:α->List D}{w n:Nat}(hn:1<n)(hw:∀x,(f x).length=w)(hc:∀x,D.bh (f x)=true){l:List α}{j v m:Nat}{bs bs':List aw.aF}(hJ:J≠[])(hm:m=l.length)(hj:bs[j]?=some (.cells v (fM l f)))(hb:bs.set j .dead=bs'):
  cK (J.length-1) n (.sl J.length j v 0 m w) (bs::J)=(.bZ m (fM l f),bs'::J):=by
 subst hb;subst hm;exact kb hn hw hc hJ hj
theorem Ya{a:List Int}(hl:a.length<=1000000000):∀(m i:Nat),i+m=a.length ->
  WL T [0,1,5] false xi [(0,lF a aQ),(1,lF a aQ),(5,iI i)] J (λx e J'=>J'=J/\x=.exit 0)
 |0,i,hi=>by
  refine aK ?_;have h1:¬i<a.length:=by omega
  simp[h1]
 |m+1,i,hi=>by
  refine aK ?_;have h1:i<a.length:=by omega
  obtain⟨x,hx⟩:=gE h1;have a1:=bx (f:=aQ) (w:=1) hx;simp only[aQ,bR]at a1;have h4:=cj h1;simp[h1,a1,h4];exact WL.tg (Ya hl m (i+1) (by omega)) λx e J' hh=>by simpa using hh
theorem aep{a:List Int}(hl:a.length<=1000000000):Cl 15 [lF a aQ,lF a aQ] (.bool true) J:=by
 refine an ?_;simp;refine WL.tg (Ya (J:=[]::J) hl a.length 0 (by omega)) ?_;rintro x e J' ⟨rfl,rfl⟩;simp
theorem G4{s t:List UInt8}:Cl 28 [.str s,.str t] (.bool (decide (t.length<=s.length) && (s.take t.length == t))) J:=by
 refine an ?_;by_cases h:t.length<=s.length
 .have h':(t.length:Int)<=s.length:=by omega
  simp[fO,h,h']
 .have h':¬(t.length:Int)<=s.length:=by omega
  simp[fO,h,h']
theorem adh{l:List (List UInt8)}(hl:l.length<=9223372036854775807):∀(m i:Nat) (x y z:Int),i+m=l.length ->
  WL T [0,3,4,5,6] false rC [(0,lF l bD),(3,iI x),(4,iI y),(5,iI z),(6,iI i)] J
   (λx e J'=>J'=J/\x=.exit 0/\get e 0=lF l bD/\∃u v w,get e 3=iI u/\get e 4=iI v/\get e 5=iI w)
 |0,i,x,y,z,hi=>by
  refine aK ?_;have h1:¬i<l.length:=by omega
  simp[h1]
 |m+1,i,x,y,z,hi=>by
  refine aK ?_;have h1:i<l.length:=by omega
  obtain⟨s,hs⟩:=gE h1;have a1:=bx (f:=bD) (w:=1) hs;simp only[bD,bR]at a1;have h4:=cj h1;have hB:=λt J=>@G4 J s t
  have e1:((i+1:Nat):Int)=(i:Int)+1:=by omega
  have ih:=λx y z=>adh hl m (i+1) x y z (by omega)
  rw[e1]at ih;rw[e1]at h4;generalize hv:(λt:List UInt8=>decide (t.length<=s.length) && (s.take t.length == t))=v at hB;have hB':∀t J,Cl 28 [.str s,.str t] (.bool (v t)) J:=λt J=>by rw[<- hv];exact G4
  cases c1:v [109,111,100,101,108]<;>cases c2:v [116,105,99,107]<;>simp[fO,h1,a1,h4,hB',c1,c2]<;>
   exact WL.to (ih _ _ _) rfl rfl λx e J' hh=>by simpa using hh
theorem ahK{l:List (List UInt8)}(hl:l.length<=9223372036854775807)(J:SK):∃v,Cl 8 [lF l bD] (.bool v) J/\(v=true->l.length<=103):=by
 obtain⟨x,e,J',h1,rfl,rfl,g0,u,v,w,g3,g4,g5⟩:=adh (J:=[]::J) hl l.length 0 0 0 0 (by omega);refine⟨decide (v<=4) && (decide (w<=8) && (decide (u<=5000) && (decide ((l.length:Int)<=40) || (decide (u<=400) && decide ((l.length:Int)<=103))))),?_,λh=>by simp only[af,cq,au]at h;omega⟩;refine an ?_;simp;refine⟨_,_,_,by simpa using h1,?_⟩;by_cases c1:v<=4<;>by_cases c2:w<=8<;>by_cases c3:u<=5000<;>by_cases c4:(l.length:Int)<=40<;>by_cases c5:u<=400<;>by_cases c6:(l.length:Int)<=103<;>
  simp[g0,g3,g4,g5,c1,c2,c3,c4,c5,c6]
