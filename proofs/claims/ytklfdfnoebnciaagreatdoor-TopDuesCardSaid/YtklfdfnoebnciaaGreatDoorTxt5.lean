import Derived.Test.YtklfdfnoebnciaaGreatDoorTxt4
set_option linter.all false
set_option maxRecDepth 100000
namespace Go.gJ
open List(length_flatMap map_take)
open Go Go.az Go.aD
def Ll(lo hi s:Int):Int:=if hi<s\/s<lo then s else lo
end Go.gJ
namespace Go.Proofs.YtklfdfnoebnciaaGreatDoor
open List(length_flatMap map_take)
open Go Go.az Go.aD Go.gJ
variable {J:SK}
def zG(b:Bk)(x:vL)(m:cq):Int:=match aD.run b.bH m b.av with
 |some r=>Ll x.lo x.hi (vi b.bH m r x)
 |none=>x.lo
theorem N7{b:b9}{m:cq}{av:List (List Int)}{x:vL}{r:RunT}(hr:wR b av.length [x]=0)(hrun:aD.run b m av=some r):
  ∃n A,MI b [m] av [x]=.dj [.aG n A,.aG (if AS x.lo x.hi (vi b m r x)=0 then 0 else 1) (if AS x.lo x.hi (vi b m r x)=0 then []else zN (0,0,AS x.lo x.hi (vi b m r x))),.int .i64 0]/\D.bx A=true:=by
 have h1:wU b av [m]=some [r]:=by simp[wU,hrun]
 refine⟨(GP b [x] 0 [(m,r)] ([],[])).1.length,(GP b [x] 0 [(m,r)] ([],[])).1.flatMap aX,?_,bq _⟩;unfold MI;rw[if_pos hr,h1];by_cases hz:AS x.lo x.hi (vi b m r x)=0<;>simp[GP,yT,B9,hz]
theorem UC{b:b9}{m:cq}{av:List (List Int)}{x:vL}(hr:wR b av.length [x]≠0):MI b [m] av [x]=.dj [.aG 0 [],.aG 0 [],.int .i64 (wR b av.length [x])]:=by
 unfold MI;rw[if_neg hr]
theorem Bt{b:b9}{n:Int}{x:vL}:wR b n [x]=vh b n x:=by
 simp only[wR,aF,bj,cA];by_cases h:vh b n x=0<;>simp[h]
theorem Ca{b:Bk}{m:cq}{x:vL}(ht:b.bH.b8≠[])(hok:Ok b.bH [m] b.av)(hw:0<=x.pU/\x.pU<=255)(hJ:J≠[]):
  lim T (.call false 82 [.agg [.int .i64 b.bH.f.x,.int .i64 b.bH.f.y,.int .i64 b.bH.f.z,.int .i64 b.bH.f.k,nl Rw.enc b.bH.b8,.int .i64 b.bH.bF,.int .i64 b.bH.lift,.int .i64 b.bH.deep,nl bE.enc b.bH.ak],.aG 1 [.str m.name,.aG m.bg.length (m.bg.flatMap aX)],nl pE b.av,.aG 1 x.enc] J)=some (.val (MI b.bH [m] b.av [x]) J):=by
 have h:=Lu (J:=J) (wq:=nl bE.enc b.bH.ak) tN hok (rd:=[x]) (by simp) (by intro y hy;simp at hy;subst hy;exact hw) hJ;rw[dw ht];simpa[Mb]using h
theorem Td{F:List az.aI}{b:Bk}{er:List Int}{m:cq}{x:vL}{w:Int}{r:RunT}(ht:b.bH.b8≠[])(hok:Ok b.bH [m] b.av)(hw:0<=x.pU/\x.pU<=255)(hr:vh b.bH b.av.length x=0)(hrun:aD.run b.bH m b.av=some r):
  lim T (.call false 83 [.agg [.str m.name,.aG m.bg.length (m.bg.flatMap aX)],.bu [.ref J.length 6 0 0],.ref (J.length+1+1) 0 0 0,.bu [.aG 4 [.int .i64 w,.int .i64 x.idx,.int .i64 x.lo,.int .i64 x.hi]]] ([]::[.cells 0 x.enc]::F::b.bk J.length er::J))=some (.val (.int .i64 (zG b x m)) ([]::[.cells 0 x.enc]::F::b.bk J.length er::J)):=by
 refine au Ad ku.eq_1 rfl ?_;have hS:=λS hS=>Ca (J:=S) ht hok hw hS
 obtain⟨n,A,h1,hA⟩:=N7 (b:=b.bH) (m:=m) (av:=b.av) (x:=x) (by rw[Bt];exact hr) hrun;rw[h1]at hS;have hd:=Tv.of hr;have hb:=NS (hok.fv m (by simp)) (J3.of (hok.fv m (by simp)) hok.aO hrun) hd;obtain⟨e1,e2,e3⟩:=hd.ends;have hv:zG b x m=Ll x.lo x.hi (vi b.bH m r x):=by simp[zG,hrun]
 rw[hv];have hm:=Mj (lo:=x.lo) (hi:=x.hi) (s:=vi b.bH m r x) e2;generalize vi b.bH m r x=s at *
 simp only[vL.enc]at hS ⊢;unfold Ry at hm;by_cases c1:x.hi<s
 .rw[if_pos c1]at hm;have c2:¬s-x.hi=0:=by omega
  have c3:0<s-x.hi:=by omega
  have w1:IntKind.i64.wrap (x.hi+(s-x.hi))=s:=by rw[show x.hi+(s-x.hi)=s by omega];exact eF
  have hq:Ll x.lo x.hi s=s:=by simp[Ll,c1]
  rw[hm]at hS;simp[-length_flatMap,-map_take,Bk.bk,Bk.cells,hS,c1,(show ¬s<=x.hi by omega),c2,c3,w1,hq,zN,hA]
 .rw[if_neg c1]at hm;by_cases c4:s<x.lo
  .rw[if_pos c4]at hm;have c2:¬s-x.lo=0:=by omega
   have c3:¬0<s-x.lo:=by omega
   have w1:IntKind.i64.wrap (x.lo+(s-x.lo))=s:=by rw[show x.lo+(s-x.lo)=s by omega];exact eF
   have hq:Ll x.lo x.hi s=s:=by simp[Ll,c4]
   rw[hm]at hS;simp[-length_flatMap,-map_take,Bk.bk,Bk.cells,hS,(show ¬x.lo<s by omega),c2,c3,w1,hq,zN,hA]
  .rw[if_neg c4]at hm;have hq:Ll x.lo x.hi s=x.lo:=by simp[Ll,c1,c4]
   rw[hm]at hS;simp[-length_flatMap,-map_take,Bk.bk,Bk.cells,hS,hq,hA]
def yf(b:Bk)(x:vL):Bk×Int :=
 if bY b.an=[]then(b,8)else if bT x.pU 0 255=true then(if vh b.bH b.av.length x=0 then(wc b x.lo x.hi (zG b x),0)else(b,vh b.bH b.av.length x))else(b,1)
theorem Te{F:List az.aI}{b:Bk}{er:List Int}{nm:List UInt8}{w i lo hi:Int}{b':Bk}{e:Int}(ht:b.bH.b8≠[])(hw:b.n9.length=b.an.length)(hml:b.an.length<=40)(hok:∀e∈b.an,Ok b.bH [e.m] b.av)(hrun:∀e∈b.an,e.left=true->∃r,aD.run b.bH e.m b.av=some r)(hd:yf b ⟨b.av.length,w,i,lo,hi⟩=(b',e))(he:e=0):
  lim T (.call false 55 [.ref J.length 6 0 0,.str nm,.aG 4 [.int .i64 w,.int .i64 i,.int .i64 lo,.int .i64 hi]] (F::b.bk J.length er::J))=some (.val (.dj []) (F::b'.bk J.length er::J)):=by
 refine eQ vw ju.eq_1 rfl (by simp) ?_;unfold yf at hd;split at hd
 case isTrue=>cases hd;cases he
 rename_i c1;split at hd
 case isFalse=>cases hd;cases he
 rename_i c2;split at hd
 case isFalse=>cases hd;rename_i h;exact absurd he h
 rename_i c3;cases hd;have c2i:=aU.1 c2;have q1:0<(bY b.an).length:=aP.2 c1;have hLf:=λS=>DR (J:=J) (b:=b) (er:=er) (S:=S) (by omega)
 obtain⟨e0,ls,hls⟩:∃e0 ls,bY b.an=e0::ls:=by
  cases h:bY b.an with
  |nil=>exact absurd h c1
  |cons a l=>exact⟨a,l,rfl⟩
 have he0:e0∈b.an/\e0.left=true:=cF.1 (show e0∈bY b.an by rw[hls];simp);obtain⟨r0,hr0⟩:=hrun e0 he0.1 he0.2;have w1:IntKind.u8.wrap w=w:=wu8 (by omega);have hS:=λS hS=>Ca (J:=S) (x:=⟨b.av.length,w,i,lo,hi⟩) ht (hok e0 he0.1) (by simpa using c2i) hS
 obtain⟨n,A,h1,hA⟩:=N7 (b:=b.bH) (m:=e0.m) (av:=b.av) (x:=⟨b.av.length,w,i,lo,hi⟩) (by rw[Bt];exact c3) hr0;rw[h1]at hS;have hst:=JZ (J:=J) (A:=[.cells 0 (vL.enc ⟨b.av.length,w,i,lo,hi⟩)]) (F:=F) (b:=b) (er:=er) (lo:=lo) (hi:=hi) (val:=zG b ⟨b.av.length,w,i,lo,hi⟩) (fv:=.fn 83 [] [.bu [.ref J.length 6 0 0],.ref (J.length+1+1) 0 0 0,.bu [.aG 4 [.int .i64 w,.int .i64 i,.int .i64 lo,.int .i64 hi]]]) rfl rfl hw hml (by
  intro k e he hl;obtain⟨r,hr⟩:=hrun e he hl;have h:=Td (J:=J) (F:=F) (er:=er) (b:=b.jn lo hi (zG b ⟨b.av.length,w,i,lo,hi⟩) k) (m:=e.m) (x:=⟨b.av.length,w,i,lo,hi⟩) (w:=w) ht (hok e he) (by simpa using c2i) c3 hr;rw[rH];have h':lim T (.call false 83 ([]++[.agg [.str e.m.name,.aG e.m.bg.length (e.m.bg.flatMap aX)]]++[.bu [.ref J.length 6 0 0],.ref (J.length+1+1) 0 0 0,.bu [.aG 4 [.int .i64 w,.int .i64 i,.int .i64 lo,.int .i64 hi]]]) ([]::[.cells 0 (vL.enc ⟨b.av.length,w,i,lo,hi⟩)]::F::(b.jn lo hi (zG b ⟨b.av.length,w,i,lo,hi⟩) k).bk J.length er::J))=_:=h;rw[h'];rfl)
 rw[hls]at hLf;simp only[Bk.bk,Bk.cells,vL.enc]at hst hLf hS;have hcl:∀T,D.bx (if T=0 then []else zN (0,0,T))=true:=λT=>by split<;>simp[zN]
 simp[-length_flatMap,-map_take,Bk.bk,Bk.cells,hLf,cg,dM,c2,w1,hS,ng,hA,hcl,hst,bq]
theorem P6{F:List az.aI}{b:Bk}{er:List Int}{nm:List UInt8}{w i lo hi:Int}{b':Bk}{e:Int}(ht:bY b.an≠[]->b.bH.b8≠[])(hml:b.an.length<=40)(hok:∀e∈b.an,Ok b.bH [e.m] b.av)(hd:yf b ⟨b.av.length,w,i,lo,hi⟩=(b',e))(he:e≠0):
  lim T (.call false 55 [.ref J.length 6 0 0,.str nm,.aG 4 [.int .i64 w,.int .i64 i,.int .i64 lo,.int .i64 hi]] (F::b.bk J.length er::J))=some (.eA (rf e) (F::b.bk J.length er::J)):=by
 refine di vw ju.eq_1 rfl ?_;have hLf:=λS=>DR (J:=J) (b:=b) (er:=er) (S:=S) (by omega)
 simp only[Bk.bk,Bk.cells]at hLf;unfold yf at hd;split at hd
 case isTrue c1 =>
  cases hd;simp[-length_flatMap,-map_take,Bk.bk,Bk.cells,hLf,c1,cM,D.clean,rf]
 rename_i c1;have ht:=ht c1;have q1:0<(bY b.an).length:=aP.2 c1;split at hd
 case isFalse c2 =>
  cases hd;have c2':bT w 0 255=false:=by simpa using c2
  simp[-length_flatMap,-map_take,Bk.bk,Bk.cells,hLf,q1,dM,c2',cg,cM,D.clean,rf]
 rename_i c2;have c2i:=aU.1 c2;split at hd
 case isTrue=>cases hd;exact absurd rfl he
 rename_i c3;cases hd;obtain⟨e0,ls,hls⟩:∃e0 ls,bY b.an=e0::ls:=by
  cases h:bY b.an with
  |nil=>exact absurd h c1
  |cons a l=>exact⟨a,l,rfl⟩
 have he0:e0∈b.an/\e0.left=true:=cF.1 (show e0∈bY b.an by rw[hls];simp);have w1:IntKind.u8.wrap w=w:=wu8 (by omega);have hS:=λS hS=>Ca (J:=S) (x:=⟨b.av.length,w,i,lo,hi⟩) ht (hok e0 he0.1) (by simpa using c2i) hS
 rw[UC (by rw[Bt];exact c3),Bt]at hS;have hM:=λJ=>oM (J:=J) c3
 generalize vh b.bH b.av.length ⟨b.av.length,w,i,lo,hi⟩=err at hS hM c3 he ⊢;have hrc:(D.tK 90 (.agg [.int .i64 err])).clean=true:=rfl;rw[hls]at hLf;simp only[vL.enc]at hS;simp[-length_flatMap,-map_take,Bk.bk,Bk.cells,hLf,cg,dM,c2,w1,hS,hM,bq,rf,hrc]
end Go.Proofs.YtklfdfnoebnciaaGreatDoor
namespace Go.gJ
open List(length_flatMap map_take)
open Go Go.az Go.aD
def LS:List Prt->Int
 |[]=>0
 |p::l=>p.width+LS l
def zC:List Prt->Int->Int
 |[],_=>0
 |p::l,m=>p.vq*min m p.width+zC l (m-min m p.width)
def Ip:List Prt->Int->Int
 |[],m=>m
 |p::l,m=>Ip l (m-min m p.width)
def CO(l:List Prt):Prop:=∀p∈l,(0<=p.vq/\p.vq<=1000)/\1<=p.width/\p.width<=100000
theorem AI:∀{l:List Prt} {last:Int},last<=1000->yj last l=true->CO l
 |[],_,_,_=>by intro p hp;cases hp
 |q::l,last,hl,h=>by
  simp only[yj,Prt.ok,ae,aU]at h;intro p hp;rcases bw.1 hp with rfl | hp
  .omega
  .exact AI (by omega) h.2 p hp
theorem Ms:∀{l:List Prt} {m:Int},CO l->0<=m->0<=zC l m/\zC l m<=1000*m
 |[],m,_,hm=>by simp[zC];omega
 |p::l,m,h,hm=>by
  have h1:=h p (by simp);have h2:=Ms (l:=l) (m:=m-min m p.width) (λq hq=>h q (by simp[hq])) (by omega);have h3:0<=p.vq*min m p.width:=dp h1.1.1 (by omega);have h4:p.vq*min m p.width<=1000*min m p.width:=bK h1.1.2 (by omega);simp only[zC];omega
end Go.gJ
namespace Go.Proofs.YtklfdfnoebnciaaGreatDoor
open List(length_flatMap map_take)
section
open Go Go.az Go.aD Go.gJ
variable {J:SK}
theorem UQ{l:List Prt}(hs:CO l)(hl:l.length<=8):∀(m i:Nat) (out:Int),i+m=l.length->0<=out->out<=100000*i ->
  WL T [2,6,7,8] false eL [(2,.int .i64 out),(6,.aG l.length (l.flatMap Prt.enc)),(7,.int .i64 l.length),(8,.int .i64 i)] J
   (λx e J'=>x=.exit 0/\J'=J/\get e 2=.int .i64 (out+LS (l.drop i)))
 |0,i,out,hi,h0,ho=>by
  refine aJ eL.eq_1 ?_;have h1:¬i<l.length:=by omega
  have h2:l.drop i=[]:=aA (by omega);simp[-length_flatMap,-map_take,h1,h2,LS]
 |m+1,i,out,hi,h0,ho=>by
  refine aJ eL.eq_1 ?_;have h1:i<l.length:=by omega
  obtain⟨p,hp⟩:=gE h1;have hfl:=cf (f:=Prt.enc) (w:=2) (λ_=>rfl) hp;have hd:=drop_at hp;have h4:=eT h1;have hb:=hs p (ai hp);have w1:IntKind.i64.wrap (out+p.width)=out+p.width:=eF;have ih:=UQ hs hl m (i+1) (out+p.width) (by omega) (by omega) (by omega);rw[hd,LS];simp[-length_flatMap,-map_take,h1,hfl,h4,w1];exact WL.to ih (by simp) rfl λx e J' hh=>by simpa[Int.add_assoc]using hh
theorem Lx{u:yc}(hs:CO u.parts)(hl:u.parts.length<=8):lim T (.call false 137 [.agg u.enc] J)=some (.val (.int .i64 (LS u.parts)) J):=by
 refine au Af kA.eq_1 rfl ?_;simp[-length_flatMap,-map_take,zl];refine WL.to (UQ (J:=[]::J) hs hl u.parts.length 0 0 (by omega) (by omega) (by omega)) (by simp) rfl ?_;rintro x e J' ⟨rfl,rfl,g2⟩;simp[-length_flatMap,-map_take,g2]
def T2(L:Nat):wk:={state:=0,wQ:=none,env:=[(4,.ref L 0 0 0)],params:=[10,11],zh:=gP,body:=gQ }
def K9(J:SK)(out mass:Int):SK:=[.cells 0 [.int .i64 out],.cells 0 [.int .i64 mass],.loop (T2 J.length)]::J
theorem Tu{p:Prt}{out mass m:Int}(hp:(0<=p.vq/\p.vq<=1000)/\1<=p.width/\p.width<=100000)(hm:0<=m/\m<=1000000)(ho:0<=out/\out<=1000000000000):
  lim T (.round J.length 2 [.agg p.enc,.int .i64 m] ([]::K9 J out mass))=some (.val (.bool true) ([]::K9 J (out+p.vq*m) mass)):=by
 have q1:0<=p.vq*m:=dp hp.1.1 hm.1;have q2:p.vq*m<=1000*1000000:=jZ hp.1.2 hm.2 hm.1 (by omega);have w1:IntKind.i64.wrap (p.vq*m)=p.vq*m:=eF;have w2:IntKind.i64.wrap (out+p.vq*m)=out+p.vq*m:=eF;refine K0 (lp:=T2 J.length) (by simp[K9]) rfl ?_;rw[show(T2 J.length).zh=gP from rfl,gP.eq_1,show(T2 J.length).body=gQ from rfl];simp[-length_flatMap,-map_take,yD gQ.eq_1,T2,K9,Pa,w1,w2]
theorem Qw{l:List Prt}(hs:CO l)(hl:l.length<=8):∀(k i:Nat) (out m:Int),i+k=l.length->0<=m->m<=1000000->0<=out->out<=1000000000*i ->
  WL T [0,2,8,9,10] false fP [(0,.kJ J.length 2),(2,.ref J.length 1 0 0),(8,.aG l.length (l.flatMap Prt.enc)),(9,.int .i64 l.length),(10,.int .i64 i)] ([]::K9 J out m)
   (λx e J'=>x=.exit 0/\J'=[]::K9 J (out+zC (l.drop i) m) (Ip (l.drop i) m))
 |0,i,out,m,hi,hm,hm2,h0,ho=>by
  refine aJ fP.eq_1 ?_;have h1:¬i<l.length:=by omega
  have h2:l.drop i=[]:=aA (by omega);simp[-length_flatMap,-map_take,h1,h2,zC,Ip]
 |k+1,i,out,m,hi,hm,hm2,h0,ho=>by
  refine aJ fP.eq_1 ?_;have h1:i<l.length:=by omega
  obtain⟨p,hp⟩:=gE h1;have hfl:=cf (f:=Prt.enc) (w:=2) (λ_=>rfl) hp;have hd:=drop_at hp;have h4:=eT h1;have hb:=hs p (ai hp);have hmn:0<=min m p.width/\min m p.width<=m:=by omega
  have hR:=Tu (J:=J) (p:=p) (out:=out) (mass:=m) (m:=min m p.width) hb (by omega) (by omega);have q1:0<=p.vq*min m p.width:=dp hb.1.1 hmn.1;have q2:p.vq*min m p.width<=1000*1000000:=jZ hb.1.2 (by omega) hmn.1 (by omega);have w1:IntKind.i64.wrap (m-min m p.width)=m-min m p.width:=eF;have ih:=Qw hs hl k (i+1) (out+p.vq*min m p.width) (m-min m p.width) (by omega) (by omega) (by omega) (by omega) (by omega);rw[hd,zC,Ip];simp only[K9,Prt.enc]at hR;simp[-length_flatMap,-map_take,h1,hfl,h4,K9,hR,w1];exact WL.to ih (by simp) (by simp[K9]) λx e J' hh=>by simpa[Int.add_assoc,K9]using hh
theorem V2{u:yc}{mass:Int}{bs:List az.aI}:lim T (.call true 199 [.agg u.enc,.int .i64 mass] (bs::J))=some (.val (.fn 242 [] [.bu u.enc,.ref J.length bs.length 0 0]) ((bs++[.cells 0 [.int .i64 mass]])::J)):=by
 refine vO CX oS.eq_1 rfl ?_;simp[-length_flatMap,-map_take,zl]
theorem Tl{u:yc}{out m:Int}(hs:CO u.parts)(hl:u.parts.length<=8)(hm:0<=m/\m<=1000000)(h0:0<=out/\out<=0):
  lim T (.call false 242 [.kJ J.length 2,.bu u.enc,.ref J.length 1 0 0] (K9 J out m))=some (.val (.dj []) (K9 J (out+zC u.parts m) (Ip u.parts m))):=by
 refine eQ BI mc.eq_1 rfl (by simp[K9]) ?_;have h:=Qw (J:=J) hs hl u.parts.length 0 out m (by omega) hm.1 hm.2 h0.1 (by omega);rw[aK]at h;simp[-length_flatMap,-map_take];refine WL.to h (by simp) (by simp) ?_;rintro x e J' ⟨rfl,rfl⟩;simp
theorem S9{u:yc}{m:Int}(hs:CO u.parts)(hl:u.parts.length<=8)(hm:0<=m/\m<=1000000):
  lim T (.call false 138 [.agg u.enc,.int .i64 m] J)=some (.val (.int .i64 (zC u.parts m)) J):=by
 refine au Ch nq.eq_1 rfl ?_;have hU:=λbs=>V2 (J:=J) (u:=u) (mass:=m) (bs:=bs)
 have h1:=Tl (J:=J) (u:=u) (out:=0) hs hl hm (by omega);simp only[yc.enc]at hU h1 ⊢;simp[-length_flatMap,-map_take,hU,zl];refine Nd (d:=.dj []) (J2:=K9 J (0+zC u.parts m) (Ip u.parts m)) (lp:=T2 J.length) (by simp;exact⟨rfl,rfl,rfl⟩) ?_ (by simp[K9]) (by simp[T2]) ?_
 .simpa[K9,T2]using h1
 .simp[-length_flatMap,-map_take,K9,T2]
def Km(u:yc)(s:xW):Int:=if s.valid=true then(if LS u.parts<s.m then 2 else if s.h<zC u.parts s.m then 9 else 0)else 1
theorem G7{s:xW}:lim T (.call false 198 [.agg s.enc] J)=some (.val (.int .i64 (if s.valid then 0 else 1)) J):=by
 refine au BO mm.eq_1 rfl ?_;have h:=λJ=>FN (J:=J) (x:=s)
 simp only[xW.enc]at h ⊢;cases hc:s.valid<;>rw[hc]at h<;>simp[-length_flatMap,-map_take,h]
theorem P8{s:xW}:lim T (.call false 197 [.agg s.enc] J)=some (.val (.bool s.valid) J):=by
 refine au E7 se.eq_1 rfl ?_;have h:=λJ=>G7 (J:=J) (s:=s)
 simp only[xW.enc]at h ⊢;cases hc:s.valid<;>rw[hc]at h<;>simp[-length_flatMap,-map_take,h]
theorem P9{s:xW}:lim T (.call false 136 [.aG 1 s.enc] J)=some (.val (.bool s.valid) J):=by
 refine au Hj uI.eq_1 rfl ?_;have h:=λJ=>zg (wE 4 xW.enc (λ_=>rfl)) (T:=T) (J:=J) (f:=196) (g:=241) (h:=240) (i:=263) (l:=[s]) (p:=xW.valid) (fv:=.fn 197 [] []) rfl rfl rfl rfl (by simp) (oP.fn λx _ J=>P8) rfl
 simp only[wE,List.length_singleton,aT,cb,cC,fk,iA,List.all_nil,Bool.and_true]at h;simp only[xW.enc]at h ⊢;simp[-length_flatMap,-map_take,h]
def TJ(u:yc)(s:xW):D:=if Km u s=0 then .dj [.agg [.int .i64 s.m,.int .i64 (s.h-zC u.parts s.m),.int .i64 s.s,.int .i64 s.g],.int .i64 (zC u.parts s.m),.int .i64 0]else .dj [.agg [.int .i64 0,.int .i64 0,.int .i64 0,.int .i64 0],.int .i64 0,.int .i64 (Km u s)]
theorem PH{u:yc}{s:xW}(hu:u.ok=true):lim T (.call false 86 [.agg u.enc,.agg s.enc] J)=some (.val (TJ u s) J):=by
 refine au F0 tn.eq_1 rfl ?_;have hok:=hu;simp only[yc.ok,ae,aU]at hok;have hl:u.parts.length<=8:=by omega
 have hs:=AI (by omega) hok.2.2;have hV:=λJ=>J0 (J:=J) (u:=u) (by omega)
 have hR:=λJ=>P9 (J:=J) (s:=s)
 have hC:=λJ=>Lx (J:=J) hs hl
 rw[hu]at hV;simp only[yc.enc,xW.enc]at hV hR hC ⊢;unfold TJ Km;cases c1:s.valid
 .rw[c1]at hR;simp[-length_flatMap,-map_take,hV,hR,zl]
 rw[c1]at hR;simp only[xW.valid,ae,aU]at c1;by_cases c2:LS u.parts<s.m
 .simp[-length_flatMap,-map_take,hV,hR,hC,c2,zl]
 have hP:=λJ=>S9 (J:=J) (m:=s.m) hs hl c1.1
 simp only[yc.enc]at hP;have hb:=Ms hs c1.1.1;by_cases c3:s.h<zC u.parts s.m
 .simp[-length_flatMap,-map_take,hV,hR,hC,hP,c2,c3,zl]
 have w1:IntKind.i64.wrap (s.h-zC u.parts s.m)=s.h-zC u.parts s.m:=eF;simp[-length_flatMap,-map_take,hV,hR,hC,hP,c2,c3,w1,zl]
theorem Oc{t:List Rw}(ht:jj t=true){i:Nat}{r:Rw}(hi:t[i]?=some r){x:xW}(hx:x.valid=false):
  lim T (.call false 85 [.aG t.length (t.flatMap Rw.enc),.int .i64 i,.agg x.enc] J)=some (.val (.dj [.agg (List.replicate 10 (.int .i64 0)),.int .i64 1]) J):=by
 refine au B0 rP.eq_1 rfl ?_;have hl:t.length<=20:=by
  simp only[jj,ae]at ht;have:=aU.1 ht.1;omega
 have hil:i<t.length:=(aw.1 hi).1;have h1:=λJ=>Cb (J:=J) (t:=t) (by omega)
 have h2:=λJ=>UO (J:=J) (t:=t) (n:=i) (by omega)
 have h3:=λJ=>FN (J:=J) (x:=x)
 have hin:bT i 0 ((t.length:Int)-1)=true:=aU.2 (by omega);rw[hin]at h2;rw[hx]at h3;rw[ht]at h1;simp only[xW.enc]at h3;simp[-length_flatMap,-map_take,h1,h2,h3,List.replicate]
def GH:List Int->Int
 |[]=>0
 |x::l=>l.foldl min x
def GG:List Int->Int
 |[]=>0
 |x::l=>l.foldl max x
theorem UU{l:List Int}(hl:l.length<=1000000):∀(m i:Nat) (a:Int),i+m=l.length ->
  WL T [0,3,4] false jC [(0,.aG l.length (l.flatMap aX)),(3,.int .i64 a),(4,.int .i64 i)] J (λx e J'=>x=.exit 0/\J'=J/\get e 3=.int .i64 ((l.drop i).foldl min a))
 |0,i,a,hi=>by
  refine aJ jC.eq_1 ?_;have h1:¬i<l.length:=by omega
  have h2:l.drop i=[]:=aA (by omega);simp[-length_flatMap,-map_take,h1,h2]
 |m+1,i,a,hi=>by
  refine aJ jC.eq_1 ?_;have h1:i<l.length:=by omega
  obtain⟨n,hn⟩:=gE h1;have a1:=pv hn;have h4:=eT h1;rw[drop_at hn];simp[-length_flatMap,-map_take,h1,a1,h4];exact WL.to (UU hl m (i+1) (min a n) (by omega)) (by simp) rfl λx e J' hh=>by simpa using hh
theorem Za{l:List Int}(hne:l≠[])(hl:l.length<=1000000):lim T (.call false 139 [.aG l.length (l.flatMap aX)] J)=some (.val (.int .i64 (GH l)) J):=by
 refine au D0 qD.eq_1 rfl ?_;have h0:0<l.length:=aP.2 hne;obtain⟨x,r,rfl⟩:∃x r,l=x::r:=by
  cases l with
  |nil=>exact absurd rfl hne
  |cons x r=>exact⟨x,r,rfl⟩
 have h1:¬((r.length:Int)+1<1):=by omega
 have h2:(0:Int)<(r.length:Int)+1:=by omega
 simp[-length_flatMap,-map_take,h1,h2];refine WL.to (UU (J:=[]::J) hl r.length 1 x (by simp;omega)) (by simp) rfl ?_;rintro x e J' ⟨rfl,rfl,g3⟩;simp[-length_flatMap,-map_take,g3,GH]
theorem UT{l:List Int}(hl:l.length<=1000000):∀(m i:Nat) (a:Int),i+m=l.length ->
  WL T [0,3,4] false jB [(0,.aG l.length (l.flatMap aX)),(3,.int .i64 a),(4,.int .i64 i)] J (λx e J'=>x=.exit 0/\J'=J/\get e 3=.int .i64 ((l.drop i).foldl max a))
 |0,i,a,hi=>by
  refine aJ jB.eq_1 ?_;have h1:¬i<l.length:=by omega
  have h2:l.drop i=[]:=aA (by omega);simp[-length_flatMap,-map_take,h1,h2]
 |m+1,i,a,hi=>by
  refine aJ jB.eq_1 ?_;have h1:i<l.length:=by omega
  obtain⟨n,hn⟩:=gE h1;have a1:=pv hn;have h4:=eT h1;rw[drop_at hn];simp[-length_flatMap,-map_take,h1,a1,h4];exact WL.to (UT hl m (i+1) (max a n) (by omega)) (by simp) rfl λx e J' hh=>by simpa using hh
theorem Y9{l:List Int}(hne:l≠[])(hl:l.length<=1000000):lim T (.call false 140 [.aG l.length (l.flatMap aX)] J)=some (.val (.int .i64 (GG l)) J):=by
 refine au DZ qB.eq_1 rfl ?_;have h0:0<l.length:=aP.2 hne;obtain⟨x,r,rfl⟩:∃x r,l=x::r:=by
  cases l with
  |nil=>exact absurd rfl hne
  |cons x r=>exact⟨x,r,rfl⟩
 have h1:¬((r.length:Int)+1<1):=by omega
 have h2:(0:Int)<(r.length:Int)+1:=by omega
 simp[-length_flatMap,-map_take,h1,h2];refine WL.to (UT (J:=[]::J) hl r.length 1 x (by simp;omega)) (by simp) rfl ?_;rintro x e J' ⟨rfl,rfl,g3⟩;simp[-length_flatMap,-map_take,g3,GG]
theorem VY{l:List Int}(hne:l≠[])(hl:l.length<=1000000):lim T (.call false 87 [.aG l.length (l.flatMap aX)] J)=some (.val (.agg [.int .i64 (GH l),.int .i64 (GG l)]) J):=by
 refine au FZ tj.eq_1 rfl ?_;have h1:=λJ=>Za (J:=J) hne hl
 have h2:=λJ=>Y9 (J:=J) hne hl
 simp[-length_flatMap,-map_take,h1,h2]
def abf:Rw:=⟨0,0,0,0,0⟩
def abg:yc:=⟨0,[]⟩
def rowOf(b:Bk)(lv:Nat):Rw:=(b.bH.b8[lv]?).getD abf
def A9(b:Bk)(u:Nat):yc:=(b.dc[u]?).getD abg
def xE(b:Bk)(r:RunT)(w:Nat):xW:=⟨(bL (rowAt r.2 (b.av.length-1)) w).m,(bL (rowAt r.2 (b.av.length-1)) w).h,0,0⟩
def wa(r:Rw)(x:xW):xW:=⟨gz r x,X8 r x,0,X7 r x⟩
def AZ(b:Bk)(w lv u:Nat)(m:cq):Int:=match aD.run b.bH m b.av with
 |some r=>if(xE b r w).valid=true then Km (A9 b u) (wa (rowOf b lv) (xE b r w))else 1
 |none=>9
def wV(b:Bk)(w lv u:Nat)(m:cq):Int:=match aD.run b.bH m b.av with
 |some r=>zC (A9 b u).parts (wa (rowOf b lv) (xE b r w)).m
 |none=>0
def DI(b:Bk)(J:SK)(w lv u:Nat)(price:Int)(acc:List Int)(rest:List kW)(x:az.Exit)(e:Env)(J':SK):Prop :=
 if cA (λe=>AZ b w lv u e.m) rest=0 then
  x=.exit 0/\get e 0=.ref (J.length-1-1) 6 0 0/\get e 7=.int .i64 w/\get e 10=.int .i64 price/\get e 11=.sl J.length 0 (acc++rest.map λe=>wV b w lv u e.m).length 0 (acc++rest.map λe=>wV b w lv u e.m).length 1 /\
   J'=[.cells (acc++rest.map λe=>wV b w lv u e.m).length ((acc++rest.map λe=>wV b w lv u e.m).flatMap aX)]::J
 else x=.eA (rf (cA (λe=>AZ b w lv u e.m) rest))/\∃s,J'=s::J
theorem LL{F:List az.aI}{b:Bk}{er:List Int}{ls:List kW}{w lv u:Nat}{price:Int}(ht:jj b.bH.b8=true)(hok:∀e∈ls,Ok b.bH [e.m] b.av)(hrun:∀e∈ls,∃r,aD.run b.bH e.m b.av=some r)(hp:b.av≠[])(hl:ls.length<=1000000)
  (hw:w<b.bH.ak.length) (hlv:lv<b.bH.b8.length) (hu:u<b.dc.length) (huk:∀x∈b.dc,x.ok=true):∀(m i:Nat) (acc:List Int),i+m=ls.length->acc.length=i ->
  WL T [0,7,8,9,10,11,86,87,88] false fq [(0,.ref J.length 6 0 0),(7,.int .i64 w),(8,.int .i64 lv),(9,.int .i64 u),(10,.int .i64 price),(11,.sl (F::b.bk J.length er::J).length 0 i 0 i 1),(86,.aG ls.length (ls.flatMap kW.enc)),(87,.int .i64 ls.length),(88,.int .i64 i)] ([.cells i (acc.flatMap aX)]::F::b.bk J.length er::J)
   (DI b (F::b.bk J.length er::J) w lv u price acc (ls.drop i))
 |0,i,acc,hi,ha=>by
  refine aJ fq.eq_1 ?_;obtain rfl:i=ls.length:=by omega
  have h5:ls.drop ls.length=[]:=aA (by omega);simp[-length_flatMap,-map_take,h5,DI,ha,cA]
 |m+1,i,acc,hi,ha=>by
  refine aJ fq.eq_1 ?_;have h1:i<ls.length:=by omega
  obtain⟨e,he⟩:=gE h1;have hem:=ai he;have hO:=hok e hem;obtain⟨r,hr⟩:=hrun e hem;have hfl:=cf (f:=kW.enc) (w:=4) (λ_=>rfl) he;have h4:=eT h1;have htl:b.bH.b8.length<=20:=by
   simp only[jj,ae]at ht;have:=aU.1 ht.1;omega
  have hE:tP b.bH e.m b.av=0:=by
   have hfit:=hO.fit e.m (by simp);simp[tP,Bd,hO.valid,hfit,hO.pl,hr]
  have hD:yP b.bH e.m b.av=.agg [.aG r.1.length (r.1.flatMap xN),.aG r.2.length (r.2.flatMap xN)]:=by
   obtain⟨r1,r2⟩:=r;simp[yP,hE,hr]
  have hsh:=hO.short e.m (by simp);have hP:=λS hS=>PJ (J:=S) (b:=b.bH) (m:=e.m) (av:=b.av) (wq:=nl bE.enc b.bH.ak) tN (by omega) (by have:=hO.bv.ak;omega) (by omega) (by omega) (by have:=hO.Pk;omega) (λl hl=>by have:=(hO.aO l hl).len;have:=hO.bv.ak;omega) hS
  rw[hE,hD,Mb]at hP;have htn:b.bH.b8≠[]:=by intro hh;rw[hh]at hlv;simp at hlv
  have hRun:=J3.of (hO.fv e.m (by simp)) hO.aO hr;have hpl:0<b.av.length:=aP.2 hp;have hpl2:=hO.Pk;obtain⟨hrow,hY⟩:=R0 hRun (t:=b.av.length-1) (by omega);have f1:=cf (f:=xN) (w:=1) (λ_=>rfl) hrow;rw[gp]at f1;have hyw:(rowAt r.2 (b.av.length-1))[w]?=some (bL (rowAt r.2 (b.av.length-1)) w):=by
   have:w<(rowAt r.2 (b.av.length-1)).length:=by rw[hY.len];exact hw
   simp[bL,this]
  have f2:=cf (f:=aD.aI.enc) (w:=3) (λ_=>rfl) hyw;have hyl:=hY.len;have w1:IntKind.i64.wrap ((b.av.length:Int)-1)=b.av.length-1:=eF;have t1:((b.av.length:Int)-1).toNat=b.av.length-1:=by omega
  have q1:(1:Int)<=b.av.length:=by omega
  have q2:(b.av.length:Int)-1<r.2.length:=by rw[hRun.yl];omega
  have hrw:b.bH.b8[lv]?=some (rowOf b lv):=by simp[rowOf,hlv]
  have hun:b.dc[u]?=some (A9 b u):=by simp[A9,hu]
  have f3:=cf (f:=yc.enc) (w:=2) (λ_=>rfl) hun;have hul:=Oa b.dc;have q3:2<=b.dc.length*2-u*2:=by omega
  have hX:=λJ=>PH (J:=J) (u:=A9 b u) (s:=wa (rowOf b lv) (xE b r w)) (huk _ (ai hun))
  rw[drop_at he];have hs0:AZ b w lv u e.m=if(xE b r w).valid=true then Km (A9 b u) (wa (rowOf b lv) (xE b r w))else 1:=by simp[AZ,hr]
  cases c1:(xE b r w).valid with
  |false =>
   have hF:=λJ=>Oc (J:=J) ht hrw c1
   have hM:=λJ=>oM (J:=J) (e:=1) (by decide)
   have hs1:AZ b w lv u e.m=1:=by rw[hs0,c1];rfl
   simp only[xW.enc,xE,List.replicate]at hF;simp[-length_flatMap,-map_take,h1,hfl,h4,Bk.bk,Bk.cells,dw htn,dw hp,hP,ng,bq,f1,f2,w1,t1,q1,q2,hyl,hw,hF,hM,hs1,xN,DI,cA]
  |true =>
   have hF:=λJ=>SQ (J:=J) ht hrw c1
   simp only[xW.enc,xE]at hF;have hs1:AZ b w lv u e.m=Km (A9 b u) (wa (rowOf b lv) (xE b r w)):=by rw[hs0,c1];rfl
   have hv1:wV b w lv u e.m=zC (A9 b u).parts (wa (rowOf b lv) (xE b r w)).m:=by simp[wV,hr]
   by_cases c2:Km (A9 b u) (wa (rowOf b lv) (xE b r w))=0
   .have hacc:=AO acc;have hta:(acc.flatMap aX).take i=acc.flatMap aX:=ah (by omega);have hroom:(i+1)*8<=room:=by unfold room;omega
    have ih:=LL (F:=F) (er:=er) (price:=price) ht hok hrun hp hl hw hlv hu huk m (i+1) (acc++[wV b w lv u e.m]) (by omega) (by simp[ha]);have fin:∀x e' J',DI b (F::b.bk J.length er::J) w lv u price (acc++[wV b w lv u e.m]) (ls.drop (i+1)) x e' J'->DI b (F::b.bk J.length er::J) w lv u price acc (e::ls.drop (i+1)) x e' J':=λx e' J' hh=>by
     have hz:AZ b w lv u e.m=0:=by rw[hs1,c2]
     simp only[DI,cA,hz,if_true,aN,oN,eG]at hh ⊢;exact hh
    unfold TJ at hX;rw[if_pos c2,<- hv1]at hX;simp only[yc.enc,xW.enc,wa,xE]at hX f3;simp[-length_flatMap,-map_take,h1,hfl,h4,Bk.bk,Bk.cells,dw htn,dw hp,hP,ng,bq,f1,f2,w1,t1,q1,q2,hyl,hw,hF,xN,parts,hu,f3,hul,q3,hX,hroom,hacc,hta,ha];exact WL.to ih (by simp) (by simp[Bk.bk,Bk.cells,dw htn,dw hp]) fin
   .unfold TJ at hX;rw[if_neg c2]at hX;have hM:=λJ=>oM (J:=J) c2
    have hz:AZ b w lv u e.m≠0:=by rw[hs1];exact c2
    rw[<- hs1]at hX hM;simp only[yc.enc,xW.enc,wa,xE]at hX f3;simp[-length_flatMap,-map_take,h1,hfl,h4,Bk.bk,Bk.cells,dw htn,dw hp,hP,ng,bq,f1,f2,w1,t1,q1,q2,hyl,hw,hF,xN,parts,hu,f3,hul,q3,hX,hM,hz,DI,cA]
def Sg(b:Bk)(w price:Int)(ws:List Int):Bk:={b with cm:=b.cm++[⟨b.av.length,w,GH ws,GG ws,GH ws*price,GG ws*price⟩] }
def A7(b:Bk)(w lv u price:Int):Bool:=bT w 0 ((b.bH.ak.length:Int)-1) && (bT lv 0 ((b.bH.b8.length:Int)-1) && (bT u 0 ((b.dc.length:Int)-1) && bT price 0 1000))
def DH(b:Bk)(w lv u:Int):Int:=cA (λe=>AZ b w.toNat lv.toNat u.toNat e.m) (bY b.an)
def yt(b:Bk)(w lv u:Int):List Int:=(bY b.an).map λe=>wV b w.toNat lv.toNat u.toNat e.m
def yg(b:Bk)(w lv u price:Int):Bk×Int :=
 if bY b.an=[]\/b.av=[]then(b,8)else if A7 b w lv u price=true then(if DH b w lv u=0 then(Sg b w price (yt b w lv u),0)else(b,DH b w lv u))else(b,2)
theorem Ut(l:List G5):(l.flatMap G5.enc).length=l.length*6:=bZ (f:=G5.enc) (w:=6) (λ_=>rfl) l
theorem ES{c d:Int}:∀{l:List Int} {a:Int},(c<=a/\a<=d)->(∀x∈l,c<=x/\x<=d)->c<=l.foldl min a/\l.foldl min a<=d
 |[],a,h,_=>h
 |x::l,a,h,hl=>by
  have h1:=hl x (by simp);exact ES (l:=l) (a:=min a x) (by omega) λy hy=>hl y (by simp[hy])
theorem ER{c d:Int}:∀{l:List Int} {a:Int},(c<=a/\a<=d)->(∀x∈l,c<=x/\x<=d)->c<=l.foldl max a/\l.foldl max a<=d
 |[],a,h,_=>h
 |x::l,a,h,hl=>by
  have h1:=hl x (by simp);exact ER (l:=l) (a:=max a x) (by omega) λy hy=>hl y (by simp[hy])
theorem Z3{c d:Int}{l:List Int}(h0:c<=0/\0<=d)(hl:∀x∈l,c<=x/\x<=d):(c<=GH l/\GH l<=d)/\(c<=GG l/\GG l<=d):=by
 cases l with
 |nil=>exact⟨h0,h0⟩
 |cons x l=>exact⟨ES (hl x (by simp)) λy hy=>hl y (by simp[hy]),ER (hl x (by simp)) λy hy=>hl y (by simp[hy])⟩
theorem NY{b:Bk}{w lv u:Nat}{m:cq}(hu:u<b.dc.length)(huk:∀x∈b.dc,x.ok=true)(hE:AZ b w lv u m=0):0<=wV b w lv u m/\wV b w lv u m<=1000000000:=by
 have hun:b.dc[u]?=some (A9 b u):=by simp[A9,hu]
 have hok:=huk _ (ai hun);simp only[yc.ok,ae,aU]at hok;have hs:=AI (by omega) hok.2.2;unfold AZ at hE;unfold wV;cases hr:aD.run b.bH m b.av with
 |none=>simp
 |some r =>
  rw[hr]at hE;simp only at hE ⊢;split at hE
  .unfold Km at hE;split at hE
   .rename_i hv;simp only[xW.valid,ae,aU]at hv;have:=Ms hs hv.1.1;omega
   .cases hE
  .cases hE
theorem Ti{F:List az.aI}{b:Bk}{er:List Int}{nm:List UInt8}{w lv u price:Int}{b':Bk}{e:Int}(ht:jj b.bH.b8=true)(hml:b.an.length<=40)(hok:∀e∈b.an,Ok b.bH [e.m] b.av)(hrun:∀e∈b.an,e.left=true->∃r,aD.run b.bH e.m b.av=some r)(huk:∀x∈b.dc,x.ok=true)(hul:b.dc.length<=10)(hwl:b.bH.ak.length<=1000000)(hsl:b.cm.length<=1000000)(hd:yg b w lv u price=(b',e))(he:e=0):
  lim T (.call false 57 [.ref J.length 6 0 0,.str nm,.aG 4 [.int .i64 w,.int .i64 lv,.int .i64 u,.int .i64 price]] (F::b.bk J.length er::J))=some (.val (.dj []) (F::b'.bk J.length er::J)):=by
 refine eQ vy jw.eq_1 rfl (by simp) ?_;unfold yg at hd;split at hd
 case isTrue=>cases hd;cases he
 rename_i c1;split at hd
 case isFalse=>cases hd;cases he
 rename_i c2;split at hd
 case isFalse=>cases hd;rename_i h;exact absurd he h
 rename_i c3;cases hd;have htl:b.bH.b8.length<=20:=by
  simp only[jj,ae]at ht;have:=aU.1 ht.1;omega
 have c1a:bY b.an≠[]:=λh=>c1 (.inl h)
 have c1b:b.av≠[]:=λh=>c1 (.inr h)
 have q1:0<(bY b.an).length:=aP.2 c1a;have q2:0<b.av.length:=aP.2 c1b;have hLf:=λS=>DR (J:=J) (b:=b) (er:=er) (S:=S) (by omega)
 simp only[Bk.bk,Bk.cells]at hLf;have hc2:=c2;simp only[A7,ae]at hc2;obtain⟨k1,k2,k3,k4⟩:=hc2;have i1:=aU.1 k1;have i2:=aU.1 k2;have i3:=aU.1 k3;have i4:=aU.1 k4;obtain⟨w,rfl⟩:∃n:Nat,w=n:=⟨w.toNat,by omega⟩;obtain⟨lv,rfl⟩:∃n:Nat,lv=n:=⟨lv.toNat,by omega⟩;obtain⟨u,rfl⟩:∃n:Nat,u=n:=⟨u.toNat,by omega⟩;simp only[DH,yt,Int.toNat_natCast]at c3 ⊢;have w1:IntKind.i64.wrap ((b.bH.ak.length:Int)-1)=b.bH.ak.length-1:=eF;have w2:IntKind.i64.wrap ((b.bH.b8.length:Int)-1)=b.bH.b8.length-1:=eF;have w3:IntKind.i64.wrap ((b.dc.length:Int)-1)=b.dc.length-1:=eF;have hL:=LL (J:=J) (F:=F) (er:=er) (ls:=bY b.an) (w:=w) (lv:=lv) (u:=u) (price:=price) ht (λe he=>hok e (cF.1 he).1) (λe he=>hrun e (cF.1 he).1 (cF.1 he).2) c1b (by have:=gM (λe:kW=>e.left) b.an;simp only[bY];omega) (by omega) (by omega) (by omega) huk (bY b.an).length 0 [] (by omega) rfl;rw[aK]at hL;simp[-length_flatMap,-map_take,Bk.bk,Bk.cells,hLf,q1,q2,cg,dM,w1,w2,w3,k1,k2,k3,k4];refine WL.to hL (by simp) (by simp[Bk.bk,Bk.cells]) ?_;intro x e J' hq;simp only[DI,if_pos c3,List.nil_append]at hq;obtain⟨rfl,g0,g7,g10,g11,rfl⟩:=hq;have hbs:∀x∈(bY b.an).map (λe=>wV b w lv u e.m),0<=x/\x<=1000000000:=by
  intro x hx;simp only[bO]at hx;obtain⟨e,he,rfl⟩:=hx;exact NY (by omega) huk (sS c3 e he)
 have hwl2:((bY b.an).map (λe=>wV b w lv u e.m)).length=(bY b.an).length:=by simp
 have hlm:(bY b.an).length<=40:=by have:=gM (λe:kW=>e.left) b.an;simp only[bY];omega
 generalize hws:(bY b.an).map (λe=>wV b w lv u e.m)=ws at *
 have hwne:ws≠[]:=by intro hh;rw[hh]at hwl2;simp at hwl2;omega
 obtain⟨⟨m1,m2⟩,m3,m4⟩:=Z3 (by omega) hbs;have hSp:=λJ=>VY (J:=J) hwne (by omega)
 generalize hlo:GH ws=lo at *
 generalize hhi:GG ws=hi at *
 have p1:0<=lo*price:=dp m1 i4.1;have p2:lo*price<=1000000000*1000:=jZ m2 i4.2 i4.1 (by omega);have p3:0<=hi*price:=dp m3 i4.1;have p4:hi*price<=1000000000*1000:=jZ m4 i4.2 i4.1 (by omega);have w4:IntKind.i64.wrap (lo*price)=lo*price:=eF;have w5:IntKind.i64.wrap (hi*price)=hi*price:=eF;have hfr:∀S:SK,S.length=J.length+1+1->cn 0 16 (.sl (J.length+1+1) 0 ws.length 0 ws.length 1) ([.cells ws.length (ws.flatMap aX)]::S)=(.aG ws.length (ws.flatMap aX),[.dead]::S):=by
  intro S hS;have:=zW (f:=aX) (w:=1) (λ_=>rfl) (λ_=>by simp[D.clean]) (l:=ws) (j:=0) (v:=ws.length) (bs:=[az.aI.cells ws.length (ws.flatMap aX)]) (J:=S) (by intro h;subst h;simp at hS) (by simp);rw[hS]at this;simpa using this
 have r2:(b.cm.length+1)*48<=room:=by unfold room;omega
 have r3:=Ut b.cm;have r4:(b.cm.flatMap G5.enc).take (b.cm.length*6)=b.cm.flatMap G5.enc:=ah (by omega);simp[-length_flatMap,-map_take,g0,g7,g10,g11,hfr,hSp,Bk.bk,Bk.cells,w4,w5,r2,r3,r4,Sg,bq,hlo,hhi]
theorem Qd{F:List az.aI}{b:Bk}{er:List Int}{nm:List UInt8}{w lv u price:Int}{b':Bk}{e:Int}(ht:bY b.an≠[]->jj b.bH.b8=true)(hml:b.an.length<=40)(hok:∀e∈b.an,Ok b.bH [e.m] b.av)(hrun:∀e∈b.an,e.left=true->∃r,aD.run b.bH e.m b.av=some r)(huk:∀x∈b.dc,x.ok=true)(hul:b.dc.length<=10)(hwl:b.bH.ak.length<=1000000)(hsl:b.cm.length<=1000000)(hd:yg b w lv u price=(b',e))(he:e≠0):
  lim T (.call false 57 [.ref J.length 6 0 0,.str nm,.aG 4 [.int .i64 w,.int .i64 lv,.int .i64 u,.int .i64 price]] (F::b.bk J.length er::J))=some (.eA (rf e) (F::b.bk J.length er::J)):=by
 refine di vy jw.eq_1 rfl ?_;have hLf:=λS=>DR (J:=J) (b:=b) (er:=er) (S:=S) (by omega)
 simp only[Bk.bk,Bk.cells]at hLf;unfold yg at hd;split at hd
 case isTrue c1 =>
  cases hd;by_cases c1a:bY b.an=[]
  .simp[-length_flatMap,-map_take,Bk.bk,Bk.cells,hLf,c1a,cM,D.clean,rf]
  .have q1:0<(bY b.an).length:=aP.2 c1a;have c1b:b.av=[]:=c1.resolve_left c1a;simp[-length_flatMap,-map_take,Bk.bk,Bk.cells,hLf,q1,c1b,cM,D.clean,rf]
 rename_i c1;have c1a:bY b.an≠[]:=λh=>c1 (.inl h)
 have c1b:b.av≠[]:=λh=>c1 (.inr h)
 have ht:=ht c1a;have htl:b.bH.b8.length<=20:=by
  simp only[jj,ae]at ht;have:=aU.1 ht.1;omega
 have q1:0<(bY b.an).length:=aP.2 c1a;have q2:0<b.av.length:=aP.2 c1b;have w1:IntKind.i64.wrap ((b.bH.ak.length:Int)-1)=b.bH.ak.length-1:=eF;have w2:IntKind.i64.wrap ((b.bH.b8.length:Int)-1)=b.bH.b8.length-1:=eF;have w3:IntKind.i64.wrap ((b.dc.length:Int)-1)=b.dc.length-1:=eF;split at hd
 case isFalse c2 =>
  cases hd;simp only[A7]at c2;cases k1:bT w 0 ((b.bH.ak.length:Int)-1)
  .simp[-length_flatMap,-map_take,Bk.bk,Bk.cells,hLf,q1,q2,cg,dM,w1,w2,w3,k1,cM,D.clean,rf]
  cases k2:bT lv 0 ((b.bH.b8.length:Int)-1)
  .simp[-length_flatMap,-map_take,Bk.bk,Bk.cells,hLf,q1,q2,cg,dM,w1,w2,w3,k1,k2,cM,D.clean,rf]
  cases k3:bT u 0 ((b.dc.length:Int)-1)
  .simp[-length_flatMap,-map_take,Bk.bk,Bk.cells,hLf,q1,q2,cg,dM,w1,w2,w3,k1,k2,k3,cM,D.clean,rf]
  cases k4:bT price 0 1000
  .simp[-length_flatMap,-map_take,Bk.bk,Bk.cells,hLf,q1,q2,cg,dM,w1,w2,w3,k1,k2,k3,k4,cM,D.clean,rf]
  .exact absurd (by simp[k1,k2,k3,k4]) c2
 rename_i c2;split at hd
 case isTrue=>cases hd;exact absurd rfl he
 rename_i c3;cases hd;have hc2:=c2;simp only[A7,ae]at hc2;obtain⟨k1,k2,k3,k4⟩:=hc2;have i1:=aU.1 k1;have i2:=aU.1 k2;have i3:=aU.1 k3;obtain⟨w,rfl⟩:∃n:Nat,w=n:=⟨w.toNat,by omega⟩;obtain⟨lv,rfl⟩:∃n:Nat,lv=n:=⟨lv.toNat,by omega⟩;obtain⟨u,rfl⟩:∃n:Nat,u=n:=⟨u.toNat,by omega⟩;simp only[DH,Int.toNat_natCast]at c3 ⊢;have hL:=LL (J:=J) (F:=F) (er:=er) (ls:=bY b.an) (w:=w) (lv:=lv) (u:=u) (price:=price) ht (λe he=>hok e (cF.1 he).1) (λe he=>hrun e (cF.1 he).1 (cF.1 he).2) c1b (by have:=gM (λe:kW=>e.left) b.an;simp only[bY];omega) (by omega) (by omega) (by omega) huk (bY b.an).length 0 [] (by omega) rfl;rw[aK]at hL;simp[-length_flatMap,-map_take,Bk.bk,Bk.cells,hLf,q1,q2,cg,dM,w1,w2,w3,k1,k2,k3,k4];refine WL.to hL (by simp) (by simp[Bk.bk,Bk.cells]) ?_;intro x e J' hq;simp only[DI,if_neg c3]at hq;obtain⟨rfl,s,rfl⟩:=hq;simp[Bk.bk,Bk.cells,D.clean,rf]
def OW:List Int->List Rw
 |a::b::c::d::e::l=>⟨a,b,c,d,e⟩::OW l
 |_=>[]
def OV:List Int->List bM.we
 |a::b::c::d::l=>⟨⟨a,b,c⟩,d⟩::OV l
 |_=>[]
def Hs:List Int->List (Int×Int)
 |a::b::l=>(a,b)::Hs l
 |_=>[]
theorem Nt:∀(m:Nat) {l:List Int},l.length=m*5->(OW l).flatMap Rw.enc=l.flatMap aX/\(OW l).length=m
 |0,l,h=>by
  have:l=[]:=bR.1 (by omega);subst this;exact⟨rfl,rfl⟩
 |m+1,l,h=>by
  match l,h with
  |a::b::c::d::e::l,h =>
   have ih:=Nt m (l:=l) (by simp at h;omega);simp[OW,ih.1,ih.2,aX]
  |[],h=>simp at h
  |[_],h=>simp at h;omega
  |[_,_],h=>simp at h;omega
  |[_,_,_],h=>simp at h;omega
  |[_,_,_,_],h=>simp at h;omega
theorem Ns:∀(m:Nat) {l:List Int},l.length=m*4->(OV l).flatMap bM.we.enc=l.flatMap aX/\(OV l).length=m
 |0,l,h=>by
  have:l=[]:=bR.1 (by omega);subst this;exact⟨rfl,rfl⟩
 |m+1,l,h=>by
  match l,h with
  |a::b::c::d::l,h =>
   have ih:=Ns m (l:=l) (by simp at h;omega);simp[OV,ih.1,ih.2,aX]
  |[],h=>simp at h
  |[_],h=>simp at h;omega
  |[_,_],h=>simp at h;omega
  |[_,_,_],h=>simp at h;omega
theorem Jc:∀(m:Nat) {l:List Int},l.length=m*2->(Hs l).flatMap yq=l.flatMap aX/\(Hs l).length=m
 |0,l,h=>by
  have:l=[]:=bR.1 (by omega);subst this;exact⟨rfl,rfl⟩
 |m+1,l,h=>by
  match l,h with
  |a::b::l,h =>
   have ih:=Jc m (l:=l) (by simp at h;omega);simp[Hs,ih.1,ih.2,aX,yq]
  |[],h=>simp at h
  |[_],h=>simp at h;omega
def Lg(p:Int×Int):Prt:=⟨p.1,p.2⟩
theorem Uh(l:List (Int×Int)):(l.map Lg).flatMap Prt.enc=l.flatMap yq:=by
 induction l with
 |nil=>rfl
 |cons p l ih=>simp only[aN,aT,ih];rfl
def R7:List Int->bM.dA
 |[x0,x1,x2,x3,x4,x5,x6,x7,x8,x9]=>⟨⟨x0,x1,x2⟩,⟨x3,x4,x5⟩,x6,x7,x8,x9⟩
 |_=>⟨⟨0,0,0⟩,⟨0,0,0⟩,0,0,0,0⟩
def vp(b:Bk)(k:Nat)(nm:List UInt8)(l:List Int):Bk×Int :=
 match k with
 |0=>match l with
  |[x,y,z,k]=>xf b x y z k
  |_=>(b,4)
 |1=>xi b (OW l)
 |2=>match l with
  |[x,y,z]=>EL b x y z
  |_=>(b,4)
 |3=>match l with
  |[x,y,z]=>yi b x y z
  |_=>(b,4)
 |4=>xg b ⟨nm,l⟩
 |5=>match l with
  |k::lo::hi::r=>EM b (ru nm k lo hi (Hs r))
  |_=>(b,4)
 |6=>AD b (R7 l) (R7 l).OF
 |7=>match l with
  |[x,y,z]=>if bM.pQ x y z=true then(KN b x y z,0)else(b,1)
  |_=>(b,4)
 |8=>xh b (OV l)
 |9=>yh b l
 |10=>match l with
  |[w,i,lo,hi]=>yf b ⟨b.av.length,w,i,lo,hi⟩
  |_=>(b,4)
 |11=>match l with
  |i::r=>AE b ⟨i,(Hs r).map Lg⟩
  |_=>(b,4)
 |12=>match l with
  |[w,lv,u,p]=>yg b w lv u p
  |_=>(b,4)
 |_=>(b,4)
def pB(b:Bk)(n:Int)(s:List UInt8):Bk×Int:=match parse s with
 |some (w,nm,l)=>vp {b with at_:=n } w.k nm l
 |none=>(b,4)
structure Kv(n:Nat)(b:Bk):Prop where
 b8:b.bH.b8=[]\/jj b.bH.b8=true
 ready:b.ready=true->b.bH.valid=true
 ak:b.ready=false->b.bH.ak=[]
 ms:b.an≠[]->b.ready=true
 ml:b.an.length<=40
 wl:b.n9.length=b.an.length
 fit:∀e∈b.an,Bd b.bH e.m=true/\e.m.name.length<=1000000/\e.m.bg.length<=1000000
 pm:b.av≠[]->b.an≠[]
 pl:vG b.bH b.av=0
 AW:∀e∈b.an,e.left=true->∃r,aD.run b.bH e.m b.av=some r
 rules:b.rules.length<=20
 yX:b.yX.length<=200
 K8:∀e∈b.yX,e.ok=true
 keep:bM.pQ b.k0 b.k1 b.k2=true
 dc:b.dc.length<=10
 Yf:∀u∈b.dc,u.ok=true
 cm:b.cm.length<=n
theorem UJ{t:List Rw}(h:t=[]\/jj t=true):t.length<=20:=by
 rcases h with rfl | h
 .simp
 .simp only[jj,ae]at h;have:=aU.1 h.1;omega
theorem CP{t:List Rw}(h:jj t=true):t≠[]:=by
 intro hh;subst hh;simp[jj,bT]at h
theorem EY{s:List UInt8}{w:Wd}{nm:List UInt8}{l:List Int}(h:parse s=some (w,nm,l)):(∃a,xS a=some w)/\Gu w l.length=true/\nm.length<=s.length/\l.length<=s.length+1:=by
 have hlen:=zK 32 s;have hle:=DJ 32 s;unfold parse at h;cases hsp:fa 32 s with
 |nil=>exact absurd hsp (BA 32 s)
 |cons a all =>
 rw[hsp]at h hlen hle;simp only[aF]at hlen;simp only at h;cases hw:xS a with
 |none=>rw[hw]at h;cases h
 |some w0 =>
 rw[hw]at h;simp only at h;have key:∀nm0 (l0:List (List UInt8)),vu w0 nm0 l0=some (w,nm,l)->w0=w/\nm0=nm/\Gu w l.length=true/\l.length=l0.length:=by
  intro nm0 l0 hp;unfold vu at hp;cases hm:xI l0 with
  |none=>rw[hm]at hp;cases hp
  |some ns =>
   rw[hm]at hp;simp only[aC,ad,aj]at hp;obtain⟨hf,rfl,rfl,rfl⟩:=hp;exact⟨rfl,rfl,hf,yO hm⟩
 split at h
 .cases all with
  |nil=>cases h
  |cons n r =>
   obtain⟨rfl,rfl,h3,h4⟩:=key n r h;refine⟨⟨a,hw⟩,h3,hle n (by simp),?_⟩;simp at hlen;omega
 .obtain⟨rfl,rfl,h3,h4⟩:=key [] all h;exact⟨⟨a,hw⟩,h3,by simp,by omega⟩
def ZD(F:List az.aI)(b:Bk)(er:List Int)(J:SK)(r:Bk×Int):R:=if r.2=0 then .val (.dj []) (F::r.1.bk J.length er::J)else .eA (rf r.2) (F::b.bk J.length er::J)
theorem uk{F:List az.aI}{b:Bk}{er:List Int}{r:Bk×Int}{q:Q}(h1:∀b' e,r=(b',e)->e=0->lim T q=some (.val (.dj []) (F::b'.bk J.length er::J)))(h2:∀b' e,r=(b',e)->e≠0->lim T q=some (.eA (rf e) (F::b.bk J.length er::J))):
  lim T q=some (ZD F b er J r):=by
 obtain⟨b',e⟩:=r;unfold ZD;by_cases he:e=0
 .rw[if_pos he];exact h1 b' e rfl he
 .rw[if_neg he];exact h2 b' e rfl he
theorem ym{l:List Int}{n:Nat}(h:l.length=n+1):∃a r,l=a::r/\r.length=n:=by
 cases l with
 |nil=>simp at h
 |cons a r=>exact⟨a,r,rfl,by simpa using h⟩
theorem Rn{l:List Int}(h:l.length=3):∃a0 a1 a2,l=[a0,a1,a2]:=by
 obtain⟨a0,r0,e0,h0⟩:=ym (n:=2) h;obtain⟨a1,r1,e1,h1⟩:=ym (n:=1) h0;obtain⟨a2,r2,e2,h2⟩:=ym (n:=0) h1;have e:=bR.1 h2;exact⟨a0,a1,a2,by rw[e0,e1,e2,e]⟩
theorem Ro{l:List Int}(h:l.length=4):∃a0 a1 a2 a3,l=[a0,a1,a2,a3]:=by
 obtain⟨a0,r0,e0,h0⟩:=ym (n:=3) h;obtain⟨a1,r1,e1,h1⟩:=ym (n:=2) h0;obtain⟨a2,r2,e2,h2⟩:=ym (n:=1) h1;obtain⟨a3,r3,e3,h3⟩:=ym (n:=0) h2;have e:=bR.1 h3;exact⟨a0,a1,a2,a3,by rw[e0,e1,e2,e3,e]⟩
theorem WT{l:List Int}(h:l.length=10):∃a0 a1 a2 a3 a4 a5 a6 a7 a8 a9,l=[a0,a1,a2,a3,a4,a5,a6,a7,a8,a9]:=by
 obtain⟨a0,r0,e0,h0⟩:=ym (n:=9) h;obtain⟨a1,r1,e1,h1⟩:=ym (n:=8) h0;obtain⟨a2,r2,e2,h2⟩:=ym (n:=7) h1;obtain⟨a3,r3,e3,h3⟩:=ym (n:=6) h2;obtain⟨a4,r4,e4,h4⟩:=ym (n:=5) h3;obtain⟨a5,r5,e5,h5⟩:=ym (n:=4) h4;obtain⟨a6,r6,e6,h6⟩:=ym (n:=3) h5;obtain⟨a7,r7,e7,h7⟩:=ym (n:=2) h6;obtain⟨a8,r8,e8,h8⟩:=ym (n:=1) h7;obtain⟨a9,r9,e9,h9⟩:=ym (n:=0) h8;have e:=bR.1 h9;exact⟨a0,a1,a2,a3,a4,a5,a6,a7,a8,a9,by rw[e0,e1,e2,e3,e4,e5,e6,e7,e8,e9,e]⟩
theorem CC{w:Wd}{n:Nat}(h:Gu w n=true)(hs:w.step=0):(n:Int)=w.least:=by
 simp only[Gu,bW,ae,ao]at h;omega
theorem Fu{w:Wd}{n:Nat}(h:Gu w n=true)(hs:0<w.step)(hl:0<=w.least):w.least<=n/\((n:Int)-w.least)%w.step=0:=by
 simp only[Gu,bW,ae,ao]at h;rcases h with h | ⟨h1,h2,h3⟩
 .refine⟨by omega,?_⟩;rw[h];simp
 .refine⟨by omega,?_⟩;rwa[Int.tmod_eq_emod_of_nonneg (by omega)]at h3
theorem Ok.one{b:b9}{m:cq}{av:List (List Int)}(hb:b.valid=true)(hf:Bd b m=true)(hp:vG b av=0)(hn:m.name.length<=1000000000):Ok b [m] av:=by
 have hbv:=Bv.of hb;have hfit:fits b m=true:=by simp only[Bd,ae]at hf;exact hf.2
 have hfv:=Fv.of hf;have hm:b.f.an [m]=0:=by
  have h:=hfit;simp only[fits,ae,ao]at h;have h1:=h.1;unfold fm at h1;rw[if_pos hbv.fv]at h1;exact h1
 obtain⟨p1,p2⟩:=zB hp;exact⟨hbv,hb,by simp,hm,by simpa using hfit,by simpa using hfv,by intro x hx;simp at hx;subst hx;exact⟨hn,hfv.toMv.le.2⟩,hp,p1,p2⟩
theorem Mk{b:b9}{m:cq}(hb:b.valid=true)(hf:Bd b m=true):b.f.model m=0:=by
 have hfit:fits b m=true:=by simp only[Bd,ae]at hf;exact hf.2
 rw[Nl (Bv.of hb),ae,ao]at hfit;exact hfit.1
theorem abY{F:List az.aI}{b:Bk}{er:List Int}{s:List UInt8}{w:Wd}{nm:List UInt8}{l:List Int}{n:Nat}(hK:Kv n b)(hn:n<=1000000)(hp:parse s=some (w,nm,l))(hs:s.length<=4000):
  lim T (.call false ((Ih[w.k]?).getD 0) [.ref J.length 6 0 0,.str nm,.aG l.length (l.flatMap aX)] (F::b.bk J.length er::J))=some (ZD F b er J (vp b w.k nm l)):=by
 obtain⟨⟨a,ha⟩,hfit,hnm,hll⟩:=EY hp;have htl:=UJ hK.b8;have hv:b.ready=true->Bv b.bH:=λh=>Bv.of (hK.ready h)
 have hrt:b.ready=true->jj b.bH.b8=true:=λh=>(hv h).b8
 have hwl:b.bH.ak.length<=8:=by
  cases hr:b.ready with
  |true=>exact(hv hr).ak
  |false=>rw[hK.ak hr];simp
 have hmr:b.an≠[]->jj b.bH.b8=true:=λh=>hrt (hK.ms h)
 have hlm:bY b.an≠[]->b.an≠[]:=λh hh=>h (by rw[hh];rfl)
 have hz:Sz b:=⟨by omega,by omega,λe he=>⟨by have:=(hK.fit e he).2.1;omega,by have:=(hK.fit e he).2.2;omega⟩⟩;have hplz:=zB hK.pl;have hbv:b.an≠[]->b.bH.valid=true:=λh=>hK.ready (hK.ms h)
 have hne:∀e∈b.an,b.an≠[]:=λe he hh=>by rw[hh]at he;cases he
 have hok:∀e∈b.an,Ok b.bH [e.m] b.av:=λe he=>Ok.one (hbv (hne e he)) (hK.fit e he).1 hK.pl (hz.ms e he).1
 have hfm:∀e∈b.an,b.bH.f.model e.m=0:=λe he=>Mk (hbv (hne e he)) (hK.fit e he).1
 have hsp:∀e∈b.yX,e.sp.length<=1000000:=λe he=>by
  have:=hK.K8 e he;simp only[bM.Ev.ok,ae]at this;have:=bM.aU.1 this.2.1;omega
 have h1:=Ec ha;simp only[sV,bw,aj,List.not_mem_nil,or_false]at h1;rcases h1 with⟨_,rfl⟩ | ⟨_,rfl⟩ | ⟨_,rfl⟩ | ⟨_,rfl⟩ | ⟨_,rfl⟩ | ⟨_,rfl⟩ | ⟨_,rfl⟩ | ⟨_,rfl⟩ | ⟨_,rfl⟩ | ⟨_,rfl⟩ | ⟨_,rfl⟩ | ⟨_,rfl⟩ | ⟨_,rfl⟩
 .have hl:l.length=4:=by
   have h:(l.length:Int)=4:=CC hfit rfl;omega
  obtain⟨x,y,z,k,rfl⟩:=Ro hl;exact uk (λb' e hd he=>SW hd he) (λb' e hd he=>Og hd he)
 .have hl:=(Fu hfit (by decide) (by decide)).2;simp only[Int.sub_zero]at hl;obtain⟨h5,h6⟩:=Nt (l.length / 5) (l:=l) (by omega);have hlen:(OW l).length*5=l.length:=by omega
  rw[<- h5,<- hlen];exact uk (λb' e hd he=>Tj (by omega) hd he) (λb' e hd he=>Ou (by omega) hd he)
 .have hl:l.length=3:=by
   have h:(l.length:Int)=3:=CC hfit rfl;omega
  obtain⟨x,y,z,rfl⟩:=Rn hl;exact uk (λb' e hd he=>VM (by omega) (by omega) hd he) (λb' e hd he=>PM (by omega) (by omega) hd he)
 .have hl:l.length=3:=by
   have h:(l.length:Int)=3:=CC hfit rfl;omega
  obtain⟨x,y,z,rfl⟩:=Rn hl;refine uk (λb' e hd he=>?_) (λb' e hd he=>Qi (λh=>CP (hrt h)) (by omega) (by omega) hd he);have hr:b.ready=true:=by
   have hd2:yi b x y z=(b',e):=hd;unfold yi at hd2;split at hd2
   .rename_i h;exact h.1
   .cases hd2;cases he
  exact V4 (CP (hrt hr)) (by omega) (by omega) hd he
 .exact uk (λb' e hd he=>PX (m:=⟨nm,l⟩) (by omega) (by omega) (by simp;omega) (by simp;omega) hK.wl hd he) (λb' e hd he=>Oi (m:=⟨nm,l⟩) (by omega) (by omega) (by simp;omega) (by simp;omega) hK.ml hd he)
 .obtain⟨hl1,hl2⟩:=Fu hfit (by decide) (by decide);simp only at hl1 hl2;obtain⟨k,l,rfl,hl⟩:=ym (n:=l.length-1) (l:=l) (by omega);simp only[aF]at hl1 hl2 hll;obtain⟨lo,l,rfl,hl⟩:=ym (n:=l.length-1) (l:=l) (by omega);simp only[aF]at hl1 hl2 hll;obtain⟨hi,l,rfl,hl⟩:=ym (n:=l.length-1) (l:=l) (by omega);simp only[aF]at hl1 hl2 hll;obtain⟨h5,h6⟩:=Jc (l.length / 2) (l:=l) (by omega);have hlen:(Hs l).length*2+3=l.length+1+1+1:=by omega
  simp only[aT,aF,aX,eG];rw[<- h5,<- hlen];refine uk (λb' e hd he=>VT (by omega) (by omega) hK.wl hK.ml (λe he=>⟨hfm e he,hz.ms e he⟩) hd he) (λb' e hd he=>S5 (by omega) (by omega) hd he)
 .have hl:l.length=10:=by
   have h:(l.length:Int)=10:=CC hfit rfl;omega
  obtain⟨x0,x1,x2,x3,x4,x5,x6,x7,x8,x9,rfl⟩:=WT hl;exact uk (λb' e hd he=>VV hd he) (λb' e hd he=>Qa hd he)
 .have hl:l.length=3:=by
   have h:(l.length:Int)=3:=CC hfit rfl;omega
  obtain⟨x,y,z,rfl⟩:=Rn hl;refine uk (λb' e hd he=>?_) (λb' e hd he=>?_)
  .have hd2:(if bM.pQ x y z=true then(KN b x y z,0)else(b,1))=(b',e):=hd;split at hd2
   .rename_i h;cases hd2;exact VQ h
   .cases hd2;cases he
  .have hd2:(if bM.pQ x y z=true then(KN b x y z,0)else(b,1))=(b',e):=hd;split at hd2
   .cases hd2;exact absurd rfl he
   .rename_i h;cases hd2;exact PU (by simpa using h)
 .have hl:=(Fu hfit (by decide) (by decide)).2;simp only[Int.sub_zero]at hl;obtain⟨h5,h6⟩:=Ns (l.length / 4) (l:=l) (by omega);have hlen:(OV l).length*4=l.length:=by omega
  rw[<- h5,<- hlen];exact uk (λb' e hd he=>Ta (by omega) hd he) (λb' e hd he=>Om (by omega) hd he)
 .have hpl:∀r∈b.av,r.length<=1000000000:=λr hr=>by have:=(hplz.2 r hr).len;omega
  refine uk (λb' e hd he=>?_) (λb' e hd he=>Qe (λh=>CP (hmr (hlm h))) hz (by omega) hK.ml (by have:=hK.rules;omega) (by have:=hK.yX;omega) hsp hK.keep hpl hd he);have hr:bY b.an≠[]:=by
   have hd2:yh b l=(b',e):=hd;unfold yh at hd2;split at hd2
   .cases hd2;cases he
   .rename_i h;exact h
  exact Tk (CP (hmr (hlm hr))) hz (by omega) hK.ml (by have:=hK.rules;omega) (by have:=hK.yX;omega) hsp hK.keep hpl hd he
 .have hl:l.length=4:=by
   have h:(l.length:Int)=4:=CC hfit rfl;omega
  obtain⟨w,i,lo,hi,rfl⟩:=Ro hl;refine uk (λb' e hd he=>?_) (λb' e hd he=>P6 (λh=>CP (hmr (hlm h))) hK.ml hok hd he);have hr:bY b.an≠[]:=by
   have hd2:yf b ⟨b.av.length,w,i,lo,hi⟩=(b',e):=hd;unfold yf at hd2;split at hd2
   .cases hd2;cases he
   .rename_i h;exact h
  exact Te (CP (hmr (hlm hr))) hK.wl hK.ml hok hK.AW hd he
 .obtain⟨hl1,hl2⟩:=Fu hfit (by decide) (by decide);simp only at hl1 hl2;obtain⟨i,l,rfl,hl⟩:=ym (n:=l.length-1) (l:=l) (by omega);simp only[aF]at hl1 hl2 hll;obtain⟨h5,h6⟩:=Jc (l.length / 2) (l:=l) (by omega);have hlen:((Hs l).map Lg).length*2+1=l.length+1:=by simp;omega
  simp only[aT,aF,aX,eG];rw[<- h5,<- hlen,<- Uh];exact uk (λb' e hd he=>V1 (u:=⟨i,(Hs l).map Lg⟩) (by simp;omega) hd he) (λb' e hd he=>Qf (u:=⟨i,(Hs l).map Lg⟩) (by simp;omega) hd he)
 .have hl:l.length=4:=by
   have h:(l.length:Int)=4:=CC hfit rfl;omega
  obtain⟨w,i,lo,hi,rfl⟩:=Ro hl;refine uk (λb' e hd he=>?_) (λb' e hd he=>Qd (λh=>hmr (hlm h)) hK.ml hok hK.AW hK.Yf hK.dc (by omega) (by have:=hK.cm;omega) hd he);have hr:bY b.an≠[]:=by
   have hd2:yg b w i lo hi=(b',e):=hd;unfold yg at hd2;split at hd2
   .cases hd2;cases he
   .rename_i h;exact λhh=>h (.inl hh)
  exact Ti (hmr (hlm hr)) hK.ml hok hK.AW hK.Yf hK.dc (by omega) (by have:=hK.cm;omega) hd he
end
section
open Go Go.az Go.aD Go.gJ
theorem Kv.le{n m:Nat}{b:Bk}(h:Kv n b)(hn:n<=m):Kv m b:={h with cm:=iB h.cm hn }
theorem Kv.zero:Kv 0 ue:=by
 refine⟨.inl rfl,by simp[ue],λ_=>rfl,by simp[ue],by simp[ue],rfl,by simp[ue],by simp[ue],?_,by simp[ue],by simp[ue],by simp[ue],by simp[ue],by decide,by simp[ue],by simp[ue],by simp[ue]⟩;simp[ue,vG,cA]
theorem Bs{b:b9}:vG b []=0:=by simp[vG,cA]
theorem QE{b:b9}(h:b.valid=true):b.b8≠[]/\¬((b.f.x=0/\b.f.y=0)/\b.f.z=0/\b.f.k=0):=by
 have hv:=Bv.of h;refine⟨CP hv.b8,λhh=>?_⟩;have:=hv.x;omega
theorem Kv.Jh{n:Nat}{b:Bk}(h:Kv n b)(hm:b.an=[]):b.av=[]:=by
 by_cases hp:b.av=[]
 .exact hp
 .exact absurd hm (h.pm hp)
theorem Kv.GK{n:Nat}{b:Bk}(h:Kv n b)(hr:b.ready=false):b.an=[]:=by
 by_cases hp:b.an=[]
 .exact hp
 .rw[h.ms hp]at hr;cases hr
theorem Kv.Wo{n:Nat}{b:Bk}(h:Kv n b)(k:Int):Kv n {b with at_:=k }:={h with }
theorem Us{b:b9}{m:cq}:∃r,aD.run b m []=some r:=⟨_,rfl⟩
theorem N6{b:Bk}{lo hi:Int}{val:cq->Int}{x:kW}(h:x∈(wc b lo hi val).an):∃e∈b.an,x.m=e.m/\(x.left=true->e.left=true):=by
 simp only[wc,Bk.jn,List.mem_mapIdx]at h;obtain⟨i,hi,rfl⟩:=h;refine⟨b.an[i],List.getElem_mem hi,?_⟩;rw[if_pos hi];unfold Go.gJ.dO;split<;>simp
theorem Kv.Sq{n:Nat}{b:Bk}(h:Kv n b){lo hi:Int}{val:cq->Int}:Kv n (wc b lo hi val):=by
 have hl:(wc b lo hi val).an.length=b.an.length:=DK;have hn:(wc b lo hi val).an=[]↔b.an=[]:=by rw[<- bR,hl,bR]
 refine {b8:=h.b8,ready:=h.ready,ak:=h.ak,ms:=λhh=>h.ms (λh2=>hh (hn.2 h2)),ml:=by rw[hl];exact h.ml,wl:=by rw[hl,<- h.wl];exact DL,fit:=λx hx=>?_,pm:=λhh h2=>h.pm hh (hn.1 h2),pl:=h.pl,AW:=λx hx hxl=>?_,rules:=h.rules,yX:=h.yX,K8:=h.K8,keep:=h.keep,dc:=h.dc,Yf:=h.Yf,cm:=h.cm }
 .obtain⟨e,he,h1,_⟩:=N6 hx;rw[h1];exact h.fit e he
 .obtain⟨e,he,h1,h2⟩:=N6 hx;rw[h1];exact h.AW e he (h2 hxl)
theorem KS{l:List kW}{e:kW}(h:e∈bY l):e∈l/\e.left=true:=cF.1 h
theorem Kv.word{n:Nat}{b:Bk}(h:Kv n b){s:List UInt8}{w:Wd}{nm:List UInt8}{l:List Int}(hp:parse s=some (w,nm,l))(hs:s.length<=4000):Kv (n+1) (vp b w.k nm l).1:=by
 obtain⟨_,_,hnm,hll⟩:=EY hp;have h1:=h.le (Nat.le_succ n);generalize w.k=k;unfold vp;split
 ·
  split
  .unfold xf;split
   .rename_i hz;split
    .have hr:b.ready=false:=by
      cases hr:b.ready with
      |false=>rfl
      |true=>exact absurd hz (QE (h.ready hr)).2
     have hm:=h.GK hr;have hpl:=h.Jh hm;have hno:∀e,e∈b.an->False:=by rw[hm];simp
     exact {h1 with b8:=h.b8,ready:=λhh=>(by rw[show b.ready=true from hh]at hr;cases hr),ak:=h.ak,fit:=λe he=>(hno e he).elim,pl:=by simp only[hpl];exact Bs,AW:=λe he=>(hno e he).elim }
    .exact h1
   .exact h1
  .exact h1
 ·
  unfold xi;split
  .rename_i hz;split
   .rename_i ht;have hr:b.ready=false:=by
     cases hr:b.ready with
     |false=>rfl
     |true=>exact absurd hz (QE (h.ready hr)).1
    have hm:=h.GK hr;have hpl:=h.Jh hm;have hno:∀e,e∈b.an->False:=by rw[hm];simp
    exact {h1 with b8:=.inr ht,ready:=λhh=>(by rw[show b.ready=true from hh]at hr;cases hr),ak:=h.ak,fit:=λe he=>(hno e he).elim,pl:=by simp only[MO,hpl];exact Bs,AW:=λe he=>(hno e he).elim }
   .exact h1
  .exact h1
 ·
  split
  .rename_i x y z;unfold EL;split
   .exact h1
   .rename_i hz;split
    .rename_i hv;have hr:b.ready=false:=by
      cases hr:b.ready with
      |false=>rfl
      |true=>exact absurd (.inr (.inr hr)) hz
     have hm:=h.GK hr;have hpl:=h.Jh hm;have hno:∀e,e∈b.an->False:=by rw[hm];simp
     exact {h1 with b8:=h.b8,ready:=λ_=>hv,ak:=λhh=>(by cases hh),ms:=λ_=>rfl,fit:=λe he=>(hno e he).elim,pl:=by simp only[IY,hpl];exact Bs,AW:=λe he=>(hno e he).elim }
    .exact h1
  .exact h1
 ·
  split
  .rename_i x y z;unfold yi;split
   .rename_i hz;obtain⟨hr,hm⟩:=hz;split
    .rename_i hv;have hpl:=h.Jh hm;have hno:∀e,e∈b.an->False:=by rw[hm];simp
     exact {h1 with b8:=h.b8,ready:=λ_=>hv,ak:=λhh=>(by rw[show b.ready=false from hh]at hr;cases hr),fit:=λe he=>(hno e he).elim,pl:=by simp only[vI,hpl];exact Bs,AW:=λe he=>(hno e he).elim }
    .exact h1
   .exact h1
  .exact h1
 ·
  unfold xg;split
  .rename_i hz;obtain⟨hr,hpl⟩:=hz;split
   .exact h1
   .split
    .rename_i hml;split
     .rename_i hb;refine {h1 with ms:=λ_=>hr,ml:=by simp[Ek];omega,wl:=by simp[Ek,h.wl],fit:=λe he=>?_,pm:=λhh=>absurd hpl hh,AW:=λe he hl=>?_ }
      .simp only[Ek,aZ,List.mem_singleton]at he;rcases he with he | rfl
       .exact h.fit e he
       .exact⟨hb,by simp;omega,by simp;omega⟩
      .simp only[Ek];rw[hpl];exact Us
     .exact h1
    .exact h1
  .exact h1
 ·
  split
  .unfold EM;split
   .exact h1
   .split
    .exact h1.Sq
    .exact h1
  .exact h1
 ·
  unfold AD;split
  .split
   .split
    .rename_i hl _ _;exact {h1 with rules:=by simp;omega }
    .exact h1
   .exact h1
  .exact h1
 ·
  split
  .split
   .rename_i hk;exact {h1 with keep:=hk }
   .exact h1
  .exact h1
 ·
  unfold xh;split
  .rename_i hl;split
   .rename_i ho;refine {h1 with yX:=by simp[Jr];omega,K8:=λe he=>?_ };simp only[Jr,aZ,List.mem_singleton]at he;rcases he with he | rfl
    .exact h.K8 e he
    .exact ho
   .exact h1
  .exact h1
 ·
  unfold yh;split
  .exact h1
  .rename_i hl;split
   .split
    .split
     .split
      .rename_i hf;obtain⟨e0,he0⟩:=List.exists_mem_of_ne_nil _ hl;have key:∀e∈bY b.an,Bd b.bH e.m=true/\vG b.bH (vg b l)=0/\∃r,aD.run b.bH e.m (vg b l)=some r:=by
        intro e he;have hz:=sS hf e he;have hb:=(h.fit e (KS he).1).1;simp only[tP,hb,if_true]at hz;split at hz
        .rename_i hq;cases hr:aD.run b.bH e.m (vg b l)with
         |none=>rw[hr]at hz;cases hz
         |some r=>exact⟨hb,hq,r,rfl⟩
        .rename_i hq;exact absurd hz hq
       refine {h1 with pm:=λ_ hh=>?_,pl:=(key e0 he0).2.1,AW:=λe he hel=>(key e (cF.2 ⟨he,hel⟩)).2.2 };have:=(KS he0).1;rw[show b.an=[]from hh]at this;cases this
      .exact h1
     .exact h1
    .exact h1
   .exact h1
 ·
  split
  .unfold yf;split
   .exact h1
   .split
    .split
     .exact h1.Sq
     .exact h1
    .exact h1
  .exact h1
 ·
  split
  .unfold AE;split
   .rename_i hl;split
    .rename_i ho;refine {h1 with dc:=by simp[N9];omega,Yf:=λu hu=>?_ };simp only[N9,aZ,List.mem_singleton]at hu;rcases hu with hu | rfl
     .exact h.Yf u hu
     .exact ho
    .exact h1
   .exact h1
  .exact h1
 ·
  split
  .unfold yg;split
   .exact h1
   .split
    .split
     .exact {h1 with cm:=by have:=h.cm;simp[Sg];omega }
     .exact h1
    .exact h1
  .exact h1
 .exact h1
theorem Kv.line{n:Nat}{b:Bk}(h:Kv n b){s:List UInt8}(hs:s.length<=4000){k:Int}:Kv (n+1) (pB b k s).1:=by
 unfold pB;split
 .rename_i w nm l hp;exact(h.Wo k).word hp hs
 .exact h.le (Nat.le_succ n)
end
end Go.Proofs.YtklfdfnoebnciaaGreatDoor
namespace Go.az
open List(length_flatMap map_take)
variable {T:zQ}
theorem Kf{f:Nat}{fn:Fn}{args:List D}{J J':SK}{d:D}{np:Nat}{res:List CQ}{body A q:bX}{fo:bD}{bs:List bD}(hT:T f=some fn)(hf:fn=⟨np,res,body⟩)(hl:args.length=np)(hs:gG body=some (A,fo,bs,q))(hlen:J'.length=J.length)
  (h:WC (lim T) A (kQ 0 args) ([]::J) (JH T fo bs q J' res d)):
  lim T (.call false f args J)=some (.val d J'):=by
 subst hf;obtain⟨x,e1,J1,h1,rfl,x2,e2,J2,h2,th,h3,J3,h4,ds,h5,s,h6⟩:=h;rw[hlen]at h6;refine fZ ?_;have hn:aV (lim T) body (kQ 0 args) ([]::J)=none:=xM hs h1;simp only[cI,hT,if_pos hl,ar,if_false,hn,hs,yE,h1,h2];have h4':∃dv,pA (lim T) (ba e1 fo) (bs.map (ba e1)) th J2=some (.val dv J3):=by
  unfold vo at h4;split at h4
  .rename_i h7;cases h4;exact⟨_,h7⟩
  .cases h4
 obtain⟨dv,h4'⟩:=h4';cases x2 with
 |exit i=>cases h3
 |normal=>cases h3;simp only[yF,h4',uj,leave,h5,h6]
 |ret=>cases h3;simp only[yF,h4',uj,leave,h5,h6]
 |eA d=>cases h3;simp only[yF,h4',uj,leave,h5,h6]
end Go.az
namespace Go.Proofs.YtklfdfnoebnciaaGreatDoor
open List(length_flatMap map_take)
section
open Go Go.az Go.aD Go.gJ
variable {J:SK}
theorem TA{c:List D}:lim T (.xe 32 [.ref J.length 0 0 0] none ([.cells 0 c]::J))=some (.val (.dj []) ([.cells 0 c]::J)):=by
 refine AB tY gO.eq_1 rfl (by simp[-length_flatMap,-map_take,rG];exact⟨rfl,rfl⟩) ?_;simp[-length_flatMap,-map_take]
theorem Nf{e:Int}:lim T (.xe 32 [.ref J.length 0 0 0] (some (rf e)) ([.cells 0 [.int .i64 0]]::J))=some (.val (.dj []) ([.cells 0 [.int .i64 e]]::J)):=by
 refine AB tY gO.eq_1 rfl (by simp[-length_flatMap,-map_take,rG];exact⟨rfl,rfl⟩) ?_;simp[-length_flatMap,-map_take,rf]
theorem OK{b:Bk}{k:Nat}{nm:List UInt8}{l:List Int}(h:(vp b k nm l).2≠0):(vp b k nm l).1=b:=by
 unfold vp at h ⊢;split;all_goals
  simp only at h
  try unfold Go.gJ.xf at *
  try unfold xi at *
  try unfold EL at *
  try unfold yi at *
  try unfold xg at *
  try unfold EM at *
  try unfold AD at *
  try unfold xh at *
  try unfold yh at *
  try unfold yf at *
  try unfold AE at *
  try unfold yg at *
  repeat' split
  all_goals first | rfl | (simp_all)
theorem VR{b:Bk}{er:List Int}{s:List UInt8}{n:Nat}{k:Int}(hK:Kv n b)(hn:n<=1000000)(hs:s.length<=4000):
  lim T (.call false 25 [.ref J.length 6 0 0,.int .i64 k,.str s] (b.bk J.length er::J))=some (.val (.int .i64 (pB b k s).2) ((pB b k s).1.bk J.length er::J)):=by
 refine Kf BH ma.eq_1 rfl rfl (by simp) ?_;cases hp:parse s with
 |none =>
  have hP:=λS=>LC (J:=S) (s:=s) (by omega) hp
  have hX:vo T (.fn 32 [] [.ref (J.length+1) 0 0 0]) [] (some (rf 4)) ([.cells 0 [.int .i64 0]]::b.bk J.length er::J)=some ([.cells 0 [.int .i64 4]]::b.bk J.length er::J):=ui (Nf (J:=b.bk J.length er::J));have hd:pB b k s=(b,4):=by simp[pB,hp]
  rw[hd];simp only[Bk.bk,Bk.cells,rf]at hX hP;simp[-length_flatMap,-map_take,JH,Ah,Bk.bk,Bk.cells];rw[yD fN.eq_1];simp[-length_flatMap,-map_take,JH,Ah,Bk.bk,Bk.cells,hP,hX]
 |some p =>
  obtain⟨w,nm,l⟩:=p;have hP:=λS hS=>P4 (J:=S) (s:=s) (by omega) hS hp
  have hD:=abY (J:=J) (F:=[.cells 0 [.int .i64 0]]) (er:=er) (hK.Wo k) hn hp hs;have hd:pB b k s=vp {b with at_:=k } w.k nm l:=by simp[pB,hp]
  rw[hd];have hno:=OK (b:={b with at_:=k }) (k:=w.k) (nm:=nm) (l:=l);generalize vp {b with at_:=k } w.k nm l=r at hD hno ⊢;obtain⟨b',e⟩:=r;have hwc:Lr w=[.bool w.named,.int .i64 w.least,.int .i64 w.step,.fn ((Ih[w.k]?).getD 0) [] []]:=rfl;simp only[xJ,hwc]at hP;by_cases he:e=0
  .subst he;have hX:vo T (.fn 32 [] [.ref (J.length+1) 0 0 0]) [] none ([.cells 0 [.int .i64 0]]::b'.bk J.length er::J)=some ([.cells 0 [.int .i64 0]]::b'.bk J.length er::J):=ui (TA (J:=b'.bk J.length er::J));simp only[ZD,if_true]at hD;simp only[Bk.bk,Bk.cells]at hX hD;simp[-length_flatMap,-map_take,JH,Ah,Bk.bk,Bk.cells];rw[yD fN.eq_1];simp[-length_flatMap,-map_take,JH,Ah,Bk.bk,Bk.cells,hP,hD,hX]
  .have hX:vo T (.fn 32 [] [.ref (J.length+1) 0 0 0]) [] (some (rf e)) ([.cells 0 [.int .i64 0]]::(Bk.bk J.length {b with at_:=k } er)::J)=some ([.cells 0 [.int .i64 e]]::(Bk.bk J.length {b with at_:=k } er)::J):=ui (Nf (J:=(Bk.bk J.length {b with at_:=k } er)::J));simp only[ZD,he,if_false]at hD;have hb':b'={b with at_:=k }:=hno he;subst hb';simp only[Bk.bk,Bk.cells,rf]at hX hD;simp[-length_flatMap,-map_take,JH,Ah,Bk.bk,Bk.cells];rw[yD fN.eq_1];simp[-length_flatMap,-map_take,JH,Ah,Bk.bk,Bk.cells,hP,hD,hX]
def vj:Bk->Int->List (List UInt8)->Bk×List Int
 |b,_,[]=>(b,[])
 |b,k,s::l=>((vj (pB b k s).1 (k+1) l).1,(pB b k s).2::(vj (pB b k s).1 (k+1) l).2)
def vk(l:List (List UInt8)):Bk×List Int:=vj ue 0 l
theorem Iu:∀{l:List (List UInt8)} {b:Bk} {k:Int},(vj b k l).2.length=l.length
 |[],_,_=>rfl
 |s::l,b,k=>by simp[vj,Iu (l:=l)]
def okL(l:List (List UInt8)):Prop:=l.length<=100/\∀s∈l,s.length<=4000
theorem GU:∀{l:List (List UInt8)} {b:Bk} {k:Int} {n:Nat},Kv n b->(∀s∈l,s.length<=4000)->Kv (n+l.length) (vj b k l).1
 |[],b,k,n,h,_=>h
 |s::l,b,k,n,h,hs=>by
  have h1:=h.line (hs s (by simp)) (k:=k);have h2:=GU (l:=l) (k:=k+1) h1 λx hx=>hs x (by simp[hx])
  simp only[vj,aF];rwa[show n+(l.length+1)=n+1+l.length by omega]
theorem Qu{lines:List (List UInt8)}(hl:okL lines):∀(m i:Nat) (b:Bk) (er:List Int),i+m=lines.length->er.length=i->Kv i b ->
  WL T [4,5,12,13,14] false mM [(4,.ref J.length 6 0 0),(5,.sl J.length 7 i 0 i 1),(12,.aG lines.length (lines.flatMap dO)),(13,.int .i64 lines.length),(14,.int .i64 i)] (b.bk J.length er::J)
   (λx e J'=>x=.exit 0/\get e 4=.ref J.length 6 0 0/\get e 5=.sl J.length 7 lines.length 0 lines.length 1/\J'=(vj b i (lines.drop i)).1.bk J.length (er++(vj b i (lines.drop i)).2)::J)
 |0,i,b,er,hi,he,hK=>by
  refine aJ mM.eq_1 ?_;obtain rfl:i=lines.length:=by omega
  have h2:lines.drop lines.length=[]:=aA (by omega);simp[-length_flatMap,-map_take,h2,vj]
 |m+1,i,b,er,hi,he,hK=>by
  refine aJ mM.eq_1 ?_;have h1:i<lines.length:=by omega
  obtain⟨s,hs⟩:=gE h1;have a1:=cf (f:=dO) (w:=1) (λ_=>rfl) hs;simp only[dO,gp]at a1;have h4:=eT h1 (by have:=hl.1;omega);have hsl:=hl.2 s (ai hs);have hn:=hl.1;have hC:=VR (J:=J) (b:=b) (er:=er) (s:=s) (k:=i) hK (by omega) hsl;have hK':=hK.line hsl (k:=i);rw[drop_at hs];simp only[vj];generalize pB b i s=r at hC hK' ⊢;obtain⟨b',e⟩:=r;have ih:=Qu hl m (i+1) b' (er++[e]) (by omega) (by simp[he]) hK';have hel:=AO er;have het:(er.flatMap aX).take i=er.flatMap aX:=ah (by omega);have hr:(i+1)*8<=room:=by unfold room;omega
  simp only[Bk.bk,Bk.cells,he]at hC;simp[-length_flatMap,-map_take,h1,a1,h4,hC,Bk.bk,Bk.cells,hr,hel,het,he];refine WL.to ih (by simp) (by simp[Bk.bk,Bk.cells,he]) λx e' J' hh=>?_
  have e1:((i+1:Nat):Int)=(i:Int)+1:=by omega
  rw[e1]at hh;simpa[Bk.bk,Bk.cells]using hh
theorem VW{lines:List (List UInt8)}(hl:okL lines):lim T (.call true 16 [.aG lines.length (lines.flatMap dO)] ([]::J)) =
  some (.val (.dj [.ref J.length 6 0 0,.sl J.length 7 lines.length 0 lines.length 1]) ((vk lines).1.bk J.length (vk lines).2::J)):=by
 refine vO Hh uH.eq_1 rfl ?_;have hL:=Qu (J:=J) hl lines.length 0 ue [] (by omega) rfl Kv.zero;rw[aK]at hL;simp[-length_flatMap,-map_take];refine WL.to hL (by simp) (by simp[Bk.bk,Bk.cells,ue,nl]) ?_;rintro x e J' ⟨rfl,g4,g5,rfl⟩;simp[-length_flatMap,-map_take,g4,g5,vk]
end
section
open Go Go.az Go.aD Go.gJ
theorem Kw:∀{l:List Int} {a:Int},l.foldl min a<=a/\(∀x∈l,l.foldl min a<=x)/\(l.foldl min a=a\/l.foldl min a∈l)
 |[],a=>⟨Int.le_refl _,by simp,.inl rfl⟩
 |x::l,a=>by
  obtain⟨h1,h2,h3⟩:=Kw (l:=l) (a:=min a x);simp only[List.foldl_cons,bw];refine⟨by omega,λy hy=>?_,?_⟩
  .rcases hy with rfl | hy
   .omega
   .exact h2 y hy
  .rcases h3 with h3 | h3
   .by_cases h:a<=x
    .left;omega
    .right;left;omega
   .exact .inr (.inr h3)
theorem Ku:∀{l:List Int} {a:Int},a<=l.foldl max a/\(∀x∈l,x<=l.foldl max a)/\(l.foldl max a=a\/l.foldl max a∈l)
 |[],a=>⟨Int.le_refl _,by simp,.inl rfl⟩
 |x::l,a=>by
  obtain⟨h1,h2,h3⟩:=Ku (l:=l) (a:=max a x);simp only[List.foldl_cons,bw];refine⟨by omega,λy hy=>?_,?_⟩
  .rcases hy with rfl | hy
   .omega
   .exact h2 y hy
  .rcases h3 with h3 | h3
   .by_cases h:a<=x
    .right;left;omega
    .left;omega
   .exact .inr (.inr h3)
def GW(x:G5):Prop:=0<=x.VG/\x.VG<=x.VF/\x.VF<=1000000000
theorem aa2{b:Bk}{w lv u:Int}(hul:b.dc.length<=10)(huk:∀x∈b.dc,x.ok=true)(hu:A7 b w lv u 0=true\/∃p,A7 b w lv u p=true)(hl:bY b.an≠[])(h:DH b w lv u=0):
  0<=GH (yt b w lv u)/\GH (yt b w lv u)<=GG (yt b w lv u)/\GG (yt b w lv u)<=1000000000:=by
 have hin:0<=u/\u<=(b.dc.length:Int)-1:=by
  have key:∀p,A7 b w lv u p=true->0<=u/\u<=(b.dc.length:Int)-1:=λp hp=>by
   simp only[A7,ae]at hp;exact aU.1 hp.2.2.1
  rcases hu with hu | ⟨p,hu⟩
  .exact key _ hu
  .exact key _ hu
 have hb:∀x∈yt b w lv u,0<=x/\x<=1000000000:=by
  intro x hx;simp only[yt,bO]at hx;obtain⟨e,he,rfl⟩:=hx;exact NY (by omega) huk (sS h e he)
 cases hw:yt b w lv u with
 |nil=>simp only[yt,List.map_eq_nil_iff]at hw;exact absurd hw hl
 |cons a l =>
  rw[hw]at hb;obtain⟨h1,h2,h3⟩:=Kw (l:=l) (a:=a);obtain⟨k1,k2,k3⟩:=Ku (l:=l) (a:=a);have ha:=hb a (by simp);simp only[GH,GG];refine⟨?_,by omega,?_⟩
  .rcases h3 with h3 | h3
   .omega
   .exact(hb _ (List.mem_cons_of_mem _ h3)).1
  .rcases k3 with k3 | k3
   .omega
   .exact(hb _ (List.mem_cons_of_mem _ k3)).2
theorem MS{n:Nat}{b:Bk}(hK:Kv n b)(k:Nat)(nm:List UInt8)(l:List Int):(vp b k nm l).1.cm=b.cm\/∃x,(vp b k nm l).1.cm=b.cm++[x]/\GW x:=by
 have same:∀(c:Bk) (e:Int),c.cm=b.cm->((c,e):Bk×Int).1.cm=b.cm\/∃x,((c,e):Bk×Int).1.cm=b.cm++[x]/\GW x:=λc e h => .inl h
 unfold vp;split
 .split
  .unfold xf;split
   .split<;>exact .inl rfl
   .exact .inl rfl
  .exact .inl rfl
 .unfold xi;split
  .split<;>exact .inl rfl
  .exact .inl rfl
 .split
  .unfold EL;split
   .exact .inl rfl
   .split<;>exact .inl rfl
  .exact .inl rfl
 .split
  .unfold yi;split
   .split<;>exact .inl rfl
   .exact .inl rfl
  .exact .inl rfl
 .unfold xg;split
  .split
   .exact .inl rfl
   .split
    .split<;>exact .inl rfl
    .exact .inl rfl
  .exact .inl rfl
 .split
  .unfold EM;split
   .exact .inl rfl
   .split<;>exact .inl rfl
  .exact .inl rfl
 .unfold AD;split
  .split
   .split<;>exact .inl rfl
   .exact .inl rfl
  .exact .inl rfl
 .split
  .split<;>exact .inl rfl
  .exact .inl rfl
 .unfold xh;split
  .split<;>exact .inl rfl
  .exact .inl rfl
 .unfold yh;split
  .exact .inl rfl
  .split
   .split
    .split
     .split<;>exact .inl rfl
     .exact .inl rfl
    .exact .inl rfl
   .exact .inl rfl
 .split
  .unfold yf;split
   .exact .inl rfl
   .split
    .split<;>exact .inl rfl
    .exact .inl rfl
  .exact .inl rfl
 .split
  .unfold AE;split
   .split<;>exact .inl rfl
   .exact .inl rfl
  .exact .inl rfl
 .split
  .unfold yg;split
   .exact .inl rfl
   .rename_i h1;split
    .rename_i h2;split
     .rename_i h3;exact .inr ⟨_,rfl,aa2 hK.dc hK.Yf (.inr ⟨_,h2⟩) (λh=>h1 (.inl h)) h3⟩
     .exact .inl rfl
    .exact .inl rfl
  .exact .inl rfl
 .exact .inl rfl
theorem GD{n:Nat}{b:Bk}(hK:Kv n b)(k:Int)(s:List UInt8):(pB b k s).1.cm=b.cm\/∃x,(pB b k s).1.cm=b.cm++[x]/\GW x:=by
 unfold pB;cases parse s with
 |none=>exact .inl rfl
 |some q=>exact MS (hK.Wo k) _ _ _
theorem Iv:∀{l:List (List UInt8)} {b:Bk} {k:Int} {n:Nat},Kv n b->(∀s∈l,s.length<=4000)->(∀x∈b.cm,GW x)->∀x∈(vj b k l).1.cm,GW x
 |[],b,k,n,hK,hl,h=>h
 |s::l,b,k,n,hK,hl,h=>by
  refine Iv (l:=l) (hK.line (hl s (by simp)) (k:=k)) (λx hx=>hl x (List.mem_cons_of_mem _ hx)) ?_;rcases GD hK k s with h1 | ⟨x,h1,h2⟩
  .rw[h1];exact h
  .rw[h1];intro y hy;rcases aZ.1 hy with hy | hy
   .exact h y hy
   .rw[List.mem_singleton.1 hy];exact h2
theorem NX:∀{l:List (List UInt8)} {b:Bk} {k:Int} {s:List UInt8},(vj b k (l++[s])).1=(pB (vj b k l).1 (k+l.length) s).1
 |[],b,k,s=>by simp[vj]
 |x::l,b,k,s=>by
  have ih:=NX (l:=l) (b:=(pB b k x).1) (k:=k+1) (s:=s);have e:k+1+(l.length:Int)=k+((l.length+1:Nat):Int):=by omega
  rw[e]at ih;simpa[vj]using ih
theorem LY{l:List (List UInt8)}{s:List UInt8}(hl:∀s∈l,s.length<=4000):(∀x∈(vk l).1.cm,GW x)/\∃t,(vk (l++[s])).1.cm=(vk l).1.cm++t:=by
 refine⟨Iv Kv.zero hl (by intro x hx;cases hx),?_⟩;unfold vk;rw[NX];have hK:=GU (l:=l) (k:=0) Kv.zero hl;rcases GD hK (0+l.length) s with h1 | ⟨x,h1,_⟩
 .exact⟨[],by rw[h1];simp⟩
 .exact⟨[x],h1⟩
def z0(e:kW):kW:={e with Yj:=0 }
def W5(b:Bk):Bk:={b with an:=b.an.map z0,n9:=[],at_:=0 }
theorem WU(l:List kW):(l.map z0).map z0=l.map z0:=by
 rw[List.map_map];rfl
theorem Z7(b:Bk):W5 (W5 b)=W5 b:=by
 simp only[W5,WU]
def Yh(x y:Bk×Int):Prop:=x.2=y.2/\W5 x.1=W5 y.1
theorem Yh.ite{c:Prop}{_:Decidable c}{x y x' y':Bk×Int}(h1:c->Yh x x')(h2:¬c->Yh y y'):Yh (if c then x else y) (if c then x' else y'):=by
 by_cases h:c
 .rw[if_pos h,if_pos h];exact h1 h
 .rw[if_neg h,if_neg h];exact h2 h
theorem Yh.no(b:Bk)(e:Int):Yh (b,e) (W5 b,e):=⟨rfl,(Z7 b).symm⟩
end
end Go.Proofs.YtklfdfnoebnciaaGreatDoor
namespace Go.gJ
open List(length_flatMap map_take)
open Go Go.az
end Go.gJ
