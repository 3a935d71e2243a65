import Derived.Test.YtpapbbojmclkgaaGreatDoorTxt4
set_option linter.all false
set_option maxRecDepth 100000
namespace Go.Proofs.YtpapbbojmclkgaaGreatDoor
open Go Go.Abs Go.Trem
variable {J:SK}
theorem abt{lv:Nat}{G:List Abs.aG}(hsg:eT J lv=some G){R:List cH}{l:List Ev}{now may sure:Int}{j:Nat}{r:cH}(hG1:G[1]?=some (.cells R.length (fM R cH.enc)))(hG2:G[2]?=some (.cells l.length (fM l Ev.enc)))(hl:l.length<=200)(hs:∀e∈l,e.sp.length<=2000)(hr:r.ok=true)(hn:bC now 0 1000000=true):∀(m i:Nat) (a b:Nat),i+m=l.length->a+m<=200->b+m<=200 ->
  WL T [1,2,6,7,10,11,12,13,36,37,38,44,45,46] false ja [(1,.sl lv 2 l.length 0 l.length 2),(2,iI now),(6,.int .u8 may),(7,.int .u8 sure),(10,.own 0 r.enc),(11,iI a),(12,iI b),(13,.fn 119 [.agg r.enc] []),
    (36,.sl lv 1 R.length 0 R.length 10),(37,iI R.length),(38,iI j),(44,.sl lv 2 l.length 0 l.length 2),(45,iI l.length),(46,iI i)] J
   (λx e J'=>x=.exit 3/\J'=J/\get e 1=.sl lv 2 l.length 0 l.length 2/\get e 2=iI now/\get e 6=.int .u8 may/\get e 7=.int .u8 sure/\get e 10=.own 0 r.enc/\get e 11=iI (a+zx (tj r now) (l.drop i):Nat)/\get e 12=iI (b+zx (mA r now) (l.drop i):Nat) /\
    get e 36=.sl lv 1 R.length 0 R.length 10/\get e 37=iI R.length/\get e 38=iI j)
 |0,i,a,b,hi,ha,hb=>by
  refine az ja.eq_1 ?_;have h1:¬i<l.length:=by omega
  have h2:l.drop i=[]:=by simp;omega
  simp[h1,h2,zx]
 |m+1,i,a,b,hi,ha,hb=>by
  refine az ja.eq_1 ?_;have g1:i<l.length:=by omega
  obtain⟨e,he⟩:=gE g1;have a1:=bd (f:=Ev.enc) (w:=2) (λ_=>rfl) he;have al:(fM l Ev.enc).length=l.length*2:=bZ (f:=Ev.enc) (w:=2) (λ_=>rfl) l;have aq:2<=l.length*2-i*2:=by omega
  have w1:=cg g1;have hr':=zj.1 hr;have hn':=aR.1 hn;have hse:=hs e (aj he);have w2:=cb (n:=now-r.uX);have w3:=cb (n:=(a:Int)+1);have w4:=cb (n:=(b:Int)+1);have hC:∀J,Cl 120 [lF e.sp pV.enc,.fn 119 [.agg r.enc] []] (.bool (mu e.sp r.Jh)) J:=λJ =>
   contains_of Rh lr mU (by omega) (.fn λs _ J=>OE)
  have hA:=λJ=>@LI J e.sp r.Jh (.fn 119 [.agg r.enc] []) (.fn λs _ J=>OE) rfl (by omega)
  simp only[cH.enc]at hC hA;have d1:zx (tj r now) (l.drop i)=zx (tj r now) (l.drop (i+1))+(if tj r now e then 1 else 0):=by rw[bw he];rfl
  have d2:zx (mA r now) (l.drop i)=zx (mA r now) (l.drop (i+1))+(if mA r now e then 1 else 0):=by rw[bw he];rfl
  have ih:=λa b=>abt hsg hG1 hG2 (R:=R) (may:=may) (sure:=sure) (j:=j) hl hs hr hn m (i+1) a b (by omega)
  rw[d1,d2];by_cases c1:now<e.tick
  .have e1:tj r now e=false:=by simp[tj,cH.act];omega
   have e2:mA r now e=false:=by simp[mA,cH.act];omega
   simp[g1,a1,al,aq,hsg,hG2,w1,c1,e1,e2];exact WL.to (ih a b (by omega) (by omega)) (by simp) rfl λx e J' hh=>by simpa[e1,e2]using hh
  by_cases c2:e.tick<=now-r.uX
  .have e1:tj r now e=false:=by simp[tj,cH.act];omega
   have e2:mA r now e=false:=by simp[mA,cH.act];omega
   simp[g1,a1,al,aq,hsg,hG2,w1,w2,c1,c2,e1,e2];exact WL.to (ih a b (by omega) (by omega)) (by simp) rfl λx e J' hh=>by simpa[e1,e2]using hh
  have act:r.act now e=true:=by simp[cH.act];omega
  have e1:tj r now e=mu e.sp r.Jh:=by simp[tj,act]
  have e2:mA r now e=dh e.sp r.Jh:=by simp[mA,act]
  rw[e1,e2];have k1:∀u v:Nat,u+1+v=u+(v+1):=by intro u v;omega
  cases c3:mu e.sp r.Jh<;>cases c4:dh e.sp r.Jh<;>simp only[c3,c4]at hC hA
  .simp[g1,a1,al,aq,hsg,hG2,w1,w2,c1,c2,hC,hA];exact WL.to (ih a b (by omega) (by omega)) (by simp) rfl λx e J' hh=>by simpa[c3,c4]using hh
  .simp[g1,a1,al,aq,hsg,hG2,w1,w2,w4,c1,c2,hC,hA];exact WL.to (ih a (b+1) (by omega) (by omega)) (by simp) rfl λx e J' hh=>by simp only[k1]at hh;simpa[c3,c4]using hh
  .simp[g1,a1,al,aq,hsg,hG2,w1,w2,w3,c1,c2,hC,hA];exact WL.to (ih (a+1) b (by omega) (by omega)) (by simp) rfl λx e J' hh=>by simp only[k1]at hh;simpa[c3,c4]using hh
  .simp[g1,a1,al,aq,hsg,hG2,w1,w2,w3,w4,c1,c2,hC,hA];exact WL.to (ih (a+1) (b+1) (by omega) (by omega)) (by simp) rfl λx e J' hh=>by simp only[k1]at hh;simpa[c3,c4]using hh
theorem SM{lv:Nat}{G:List Abs.aG}(hsg:eT J lv=some G){R:List cH}{l:List Ev}{now:Int}(hR:R.length<=20)(hG1:G[1]?=some (.cells R.length (fM R cH.enc)))(hG2:G[2]?=some (.cells l.length (fM l Ev.enc)))(hl:l.length<=200)(hs:∀e∈l,e.sp.length<=2000)(hr:∀r∈R,r.ok=true)(hn:bC now 0 1000000=true):∀(m j:Nat) (may sure:Int),j+m=R.length ->
  WL T [1,2,6,7,36,37,38] false eS [(1,.sl lv 2 l.length 0 l.length 2),(2,iI now),(6,.int .u8 may),(7,.int .u8 sure),(36,.sl lv 1 R.length 0 R.length 10),(37,iI R.length),(38,iI j)] J
   (λx e J'=>x=.exit 1/\J'=J/\get e 6=.int .u8 (vo (λr=>tj r now) l (R.drop j) may)/\get e 7=.int .u8 (vo (λr=>mA r now) l (R.drop j) sure))
 |0,j,may,sure,hj=>by
  refine az eS.eq_1 ?_;have h1:¬j<R.length:=by omega
  have h2:R.drop j=[]:=by simp;omega
  simp[h1,h2,vo]
 |m+1,j,may,sure,hj=>by
  refine az eS.eq_1 ?_;have g1:j<R.length:=by omega
  obtain⟨r,hrj⟩:=gE g1;have a1:=bd (f:=cH.enc) (w:=10) (λ_=>rfl) hrj;have al:(fM R cH.enc).length=R.length*10:=bZ (f:=cH.enc) (w:=10) (λ_=>rfl) R;have aq:10<=R.length*10-j*10:=by omega
  have w1:=cg g1;have hrr:=hr r (aj hrj);have ih:=λmay sure=>SM hsg hR hG1 hG2 hl hs hr hn m (j+1) may sure (by omega)
  rw[bw hrj];simp[g1,a1,al,aq,hsg,hG1];refine WL.to (abt hsg hG1 hG2 (J:=J) (R:=R) (l:=l) (now:=now) (may:=may) (sure:=sure) (j:=j) hl hs hrr hn l.length 0 0 0 (by omega) (by omega) (by omega)) (by simp) rfl ?_;rintro x e J' ⟨rfl,rfl,e1,e2,e6,e7,e10,e11,e12,e36,e37,e38⟩;simp only[aB,cq]at e11 e12;simp only[vo];by_cases c1:r.count<=zx (tj r now) l
  .by_cases c2:r.count<=zx (mA r now) l
   .simp[e1,e2,e6,e7,e10,e11,e12,e36,e37,e38,c1,c2,w1];exact WL.to (ih (max may r.Ni) (max sure r.Ni)) (by simp) rfl λx e J' hh=>by simpa[c1,c2]using hh
   .simp[e1,e2,e6,e7,e10,e11,e12,e36,e37,e38,c1,c2,w1];exact WL.to (ih (max may r.Ni) sure) (by simp) rfl λx e J' hh=>by simpa[c1,c2]using hh
  .by_cases c2:r.count<=zx (mA r now) l
   .simp[e1,e2,e6,e7,e10,e11,e12,e36,e37,e38,c1,c2,w1];exact WL.to (ih may (max sure r.Ni)) (by simp) rfl λx e J' hh=>by simpa[c1,c2]using hh
   .simp[e1,e2,e6,e7,e10,e11,e12,e36,e37,e38,c1,c2,w1];exact WL.to (ih may sure) (by simp) rfl λx e J' hh=>by simpa[c1,c2]using hh
theorem Ov{lv:Nat}{G:List Abs.aG}{R:List cH}{l:List Ev}{now:Int}(hsg:eT J lv=some G)(hG1:G[1]?=some (.cells R.length (fM R cH.enc)))(hG2:G[2]?=some (.cells l.length (fM l Ev.enc)))(hR:R.length<=9223372036854775807)(hl:l.length<=9223372036854775807)(hs:∀e∈l,e.sp.length<=9223372036854775807):
  Cl 76 [.sl lv 1 R.length 0 R.length 10,.sl lv 2 l.length 0 l.length 2,iI now] (if kZ R l now=0 then .cN [.int .u8 (MB R l now),.int .u8 (Oi R l now),iI 0]else .cN [.int .u8 0,.int .u8 0,iI (kZ R l now)]) J:=by
 refine au ?_;have hlt:=zm hsg;have hne:¬J.length=lv:=by omega
 have hsg':eT ([]::J) lv=some G:=by simp[eT,hne,hsg]
 have hAR:=JV (T:=T) (enc:=cH.enc) (w:=10) (λ_=>rfl) (F:=G) (bi:=1) (v:=R.length) (l:=R) (p:=cH.ok) (fv:=.fn 115 [] []) (f:=114) (g:=150) (h:=149) (i:=191) rfl rfl rfl rfl hG1 hR (.fn λr _ J=>OK) rfl (J:=[]::J) hsg';have hAE:=JV (T:=T) (enc:=Ev.enc) (w:=2) (λ_=>rfl) (F:=G) (bi:=2) (v:=l.length) (l:=l) (p:=Ev.ok) (fv:=.fn 117 [] []) (f:=116) (g:=153) (h:=152) (i:=192) rfl rfl rfl rfl hG2 hl (.fn λr hr J=>OF (hs r hr)) rfl (J:=[]::J) hsg';by_cases c1:20<R.length
 .have c1':(20:Int)<R.length:=by omega
  simp[kZ,c1,c1']
 have c1':¬(20:Int)<R.length:=by omega
 cases c2:dh R cH.ok
 .simp[kZ,c1,c1',hAR,c2]
 by_cases c3:200<l.length
 .have c3':(200:Int)<l.length:=by omega
  simp[kZ,c1,c1',hAR,c2,c3,c3']
 have c3':¬(200:Int)<l.length:=by omega
 cases c4:dh l Ev.ok
 .simp[kZ,c1,c1',hAR,c2,c3,c3',hAE,c4]
 cases c5:bC now 0 1000000
 .simp[kZ,c1,c1',hAR,c2,c3,c3',hAE,c4,iC,c5]
 have he:kZ R l now=0:=by simp[kZ,c1,c2,c3,c4,c5]
 rw[if_pos he];simp[c1',hAR,c2,c3',hAE,c4,iC,c5];refine WL.to (SM (J:=[]::J) (lv:=lv) (G:=G) hsg' (R:=R) (l:=l) (now:=now) (by omega) hG1 hG2 (by omega) ?_ (eQ.1 c2) c5 R.length 0 0 0 (by omega)) (by simp) rfl ?_
 .intro e he;have:=eQ.1 c4 e he;simp only[Ev.ok,af,aR]at this;omega
 .rintro x e J' ⟨rfl,rfl,e6,e7⟩;simp[e6,e7,MB,Oi]
end Go.Proofs.YtpapbbojmclkgaaGreatDoor
namespace Go.Book
open Go Go.Abs Go.Rock
def eg(b:Bk):Int:=if Trem.kZ b.rules b.pY b.aw.length=0 then Trem.MB b.rules b.pY b.aw.length else 0
def mH(b:Bk):Int:=if eg b=0 then b.k0 else if eg b=1 then b.k1 else b.k2
def ji(jt n:Int):Int:=if n<0 then -((-n*jt).tdiv 1000)else n
theorem PU{f:Trem.cH->Trem.Ev->Bool}{l:List Trem.Ev}:∀{R:List Trem.cH} {a:Int},(∀r∈R,r.ok=true)->0<=a/\a<=2->0<=Trem.vo f l R a/\Trem.vo f l R a<=2
 |[],a,_,h=>h
 |r::R,a,hr,h=>by
  have h1:=(Trem.zj.1 (hr r (by simp))).2.2.2.2;simp only[Trem.vo];refine PU (λr' h'=>hr r' (by simp[h'])) ?_;split
  .rcases h1 with h1 | h1<;>omega
  .exact h
theorem Bh{b:Bk}:0<=eg b/\eg b<=2:=by
 unfold eg;split
 .rename_i h;refine PU (λr hr=>?_) (by omega);unfold Trem.kZ at h;split at h
  .omega
  .split at h
   .omega
   .rename_i h2;exact eQ.1 (by simpa using h2) r hr
 .omega
end Go.Book
namespace Go.Proofs.YtpapbbojmclkgaaGreatDoor
section
open Go Go.Abs Go.Rock Go.Book
variable {J:SK}
theorem OD{b:Bk}{er:List Int}{S:SK}(h1:b.rules.length<=1000000)(h2:b.pY.length<=1000000)(h3:∀e∈b.pY,e.sp.length<=1000000)(hs:eT S J.length=some (b.bF J.length er)):
  Cl 43 [.ref J.length 6 0 0] (.int .u8 (eg b)) S:=by
 refine au ?_;have hlt:=zm hs;have hne:¬S.length=J.length:=by omega
 have h:=Ov (J:=[]::S) (lv:=J.length) (G:=b.bF J.length er) (R:=b.rules) (l:=b.pY) (now:=b.aw.length) (by simp[eT,hne,hs]) (by simp[Bk.bF]) (by simp[Bk.bF]) (by omega) (by omega) (λe he=>by have:=h3 e he;omega);have hc6:(b.bF J.length er)[6]?=some (.cells 0 (b.cells J.length)):=by simp[Bk.bF]
 unfold eg;by_cases hc:Trem.kZ b.rules b.pY b.aw.length=0
 .rw[if_pos hc]at h;simp[hne,hs,hc6,Bk.cells,h,hc]
 .rw[if_neg hc]at h;simp[hne,hs,hc6,Bk.cells,h,hc]
def CH(J:SK)(bp X:D)(jt:Int)(acc rest:List Int)(x:Abs.Exit)(e:Env)(J':SK):Prop :=
 if dh rest (λn=>bC n (-100000) 100000)=true then
  x=.exit 0/\get e 0=bp/\get e 6=X/\get e 8=.sl J.length 0 (acc++rest.map (ji jt)).length 0 (acc++rest.map (ji jt)).length 1/\J'=[.cells (acc++rest.map (ji jt)).length (fM (acc++rest.map (ji jt)) aP)]::J
 else x=.ft (rf 2)/\∃s,J'=s::J
theorem M7{l:List Int}{jt:Int}(hk:0<=jt/\jt<=1000)(hl:l.length<=1000000){bp X:D}(hb:bp.calm=bp)(hx:X.calm=X):∀(m i:Nat) (acc:List Int),i+m=l.length->acc.length=i ->
  WL T [0,6,7,8,49,50,51] false fZ [(0,bp),(6,X),(7,iI jt),(8,.sl J.length 0 i 0 i 1),(49,lF l aP),(50,iI l.length),(51,iI i)] ([.cells i (fM acc aP)]::J)
   (CH J bp X jt acc (l.drop i))
 |0,i,acc,hi,ha=>by
  refine az fZ.eq_1 ?_;obtain rfl:i=l.length:=by omega
  have h5:l.drop l.length=[]:=an (by omega);simp[h5,CH,ha,hb,hx,dh]
 |m+1,i,acc,hi,ha=>by
  refine az fZ.eq_1 ?_;have hlt:i<l.length:=by omega
  obtain⟨n,hn⟩:=gE hlt;have h4:=cg hlt;have h5:=bw hn;have a1:=bd (f:=aP) (w:=1) (λ_=>rfl) hn;simp only[aP,bX]at a1;rw[h5];have hr:(i+1)*8<=room:=by unfold room;omega
  cases hc:bC n (-100000) 100000 with
  |false =>
   simp[hlt,a1,hb,hx,eK,hc,dL,CH,dh]
  |true =>
   have hn2:=aR.1 hc;have hcl:(fM acc aP).length=i:=by simp[bZ (f:=aP) (w:=1) (λ_=>rfl),ha]
   have ht:(fM acc aP).take i=fM acc aP:=ah (by omega);have ih:=M7 hk hl hb hx m (i+1) (acc++[ji jt n]) (by omega) (by simp[ha]);have fin:∀x e J',CH J bp X jt (acc++[ji jt n]) (l.drop (i+1)) x e J'->CH J bp X jt acc (n::l.drop (i+1)) x e J':=λx e J' hh=>by
    simp only[CH,dh,jm,hc,Bool.true_and,aM,cp,dk]at hh ⊢;exact hh
   by_cases hneg:n<0
   .have e0:=cb (n := -n);have p1:0 <= -n*jt:=bz (by omega) hk.1;have p2 : -n*jt<=100000*1000:=cn (by omega) hk.2 hk.1 (by omega);have e1:=cb (n := -n*jt);have e2:(-n*jt).tdiv 1000 = -n*jt / 1000:=aO p1;have e3:=cb (n := -n*jt / 1000);have e4:=cb (n := -(-n*jt / 1000));have e5:ji jt n = -(-n*jt / 1000):=by rw[ji,if_pos hneg,e2]
    rw[e5]at ih fin;generalize hq : -n*jt=q at e1 e2 e3 e4 ih fin;simp[hlt,a1,hb,hx,eK,hc,cQ,hneg,e0,hq,e1,e2,e3,e4,hr,h4,hcl,ht];exact WL.to ih (by simp) (by simp) fin
   .have e5:ji jt n=n:=by rw[ji,if_neg hneg]
    rw[e5]at ih fin;simp[hlt,a1,hb,hx,eK,hc,cQ,hneg,hr,h4,hcl,ht];exact WL.to ih (by simp) (by simp) fin
theorem KJ(l:List (List Int)):(fM l pE).length=l.length:=by have:=bZ (f:=pE) (w:=1) (λ_=>rfl) l;omega
theorem JB{bs:List Abs.aG}:dp T (.call true 213 [.bA] (bs::J))=some (.val (.sl J.length (bs.length+1) 0 0 0 1) ((bs++[.cells 0 [],.cells 0 []])::J)):=by
 refine vw rfl rfl rfl ?_;simp
theorem LL{bs:List Abs.aG}{l:List (List Int)}(hne:l≠[])(hl:l.length<=1000000):dp T (.call true 213 [lF l pE] (bs::J)) =
  some (.val (.sl J.length (bs.length+1) 1 0 l.length 1) ((bs++[.cells 0 [],.cells 1 (fM l pE)])::J)):=by
 refine vw rfl rfl rfl ?_;have h7:l.length*24<=room:=by unfold room;omega
 simp[hne,KJ,h7]
theorem Ru:I6=pE:=rfl
structure Sz(b:Bk):Prop where
 dP:b.aS.dP.length<=1000000000
 av:b.aS.av.length<=1000000
 ms:∀e∈b.ai,e.m.name.length<=1000000000/\e.m.du.length<=1000000000
theorem U1(b:bU)(m:b8)(aw:List (List Int)):∃x y,BN b m aw=.agg [x,y]/\x.clean=true/\y.clean=true:=by
 unfold BN;split
 .split
  .refine⟨_,_,rfl,?_,?_⟩<;>simp[fA (f:=ll) (λs=>by simp[ll,fA (f:=Rock.aG.enc) (λ_=>by simp[D.clean])])]
  .exact⟨_,_,rfl,rfl,rfl⟩
 .exact⟨_,_,rfl,rfl,rfl⟩
theorem M6{b:Bk}{er:List Int}{ls:List dY}{aw:List (List Int)}(ht:b.aS.dP≠[])(hz:Sz b)(hm:∀e∈ls,e∈b.ai)(hl:ls.length<=1000000)(hp:aw.length<=1000000000)(hpl:∀l∈aw,l.length<=1000000000){S:SK}(hs:eT S J.length=some (b.bF J.length er)):∀(m i:Nat),i+m=ls.length ->
  WL T [0,11,80,81,82] false ga [(0,.ref J.length 6 0 0),(11,lF aw pE),(80,lF ls dY.enc),(81,iI ls.length),(82,iI i)] S
   (λx e J'=>J'=S/\if bT (λe=>lG b.aS e.m aw) (ls.drop i)=0 then x=.exit 2/\get e 0=.ref J.length 6 0 0/\get e 11=lF aw pE else x=.ft (rf (bT (λe=>lG b.aS e.m aw) (ls.drop i))))
 |0,i,hi=>by
  refine az ga.eq_1 ?_;have h1:¬i<ls.length:=by omega
  have h2:ls.drop i=[]:=an (by omega);simp[h1,h2,bT]
 |m+1,i,hi=>by
  refine az ga.eq_1 ?_;have h1:i<ls.length:=by omega
  obtain⟨e,he⟩:=gE h1;have hem:=hm e (aj he);obtain⟨k1,k2⟩:=hz.ms e hem;have hfl:=bd (f:=dY.enc) (w:=4) (λ_=>rfl) he;have hd:=bw he;have h4:=cg h1;have hlt:=zm hs;have hne:S≠[]:=by intro h;subst h;simp at hlt
  have hP:=Vp (J:=S) (b:=b.aS) (m:=e.m) (aw:=aw) (wq:=nl bG.enc b.aS.av) kr hz.dP (by have:=hz.av;omega) k1 k2 hp hpl hne;have hc6:(b.bF J.length er)[6]?=some (.cells 0 (b.cells J.length)):=by simp[Bk.bF]
  obtain⟨px,py,hx,hx1,hx2⟩:=U1 b.aS e.m aw;rw[hx,Ru]at hP;have ih:=M6 ht hz hm hl hp hpl hs m (i+1) (by omega);have hlt':=ej (f:=Rw.enc) ht;rw[hd,bT];by_cases hc:lG b.aS e.m aw=0
  .rw[hc]at hP;simp[h1,hfl,h4,hs,hc6,Bk.cells,hlt',hP,nP,hc];exact WL.to ih (by simp) rfl λx e' J' hh=>by simpa[hc]using hh
  .have hM:=oR (J:=S) hc;simp[h1,hfl,hs,hc6,Bk.cells,hlt',hP,hM,hc,rf]
def IW(b:Bk)(aw:List (List Int)):Bk:={b with aw:=aw }
def dC(b:Bk)(l:List Int):List (List Int):=b.aw++[l.map (ji (mH b))]
def mz(b:Bk)(l:List Int):Bk×Int :=
 if cc b.ai=[]then(b,8)else if b.aw.length<200 then(if l.length=b.aS.av.length then(if dh l (λn=>bC n (-100000) 100000)=true then
  (if bT (λe=>lG b.aS e.m (dC b l)) (cc b.ai)=0 then(IW b (dC b l),0)else(b,bT (λe=>lG b.aS e.m (dC b l)) (cc b.ai)))else(b,2))else(b,1))else(b,3)
theorem Pw{f:D->SK->D×SK}{a b:List D}{S:SK}:cI.frzL f (a++b) S=((cI.frzL f a S).1++(cI.frzL f b (cI.frzL f a S).2).1,(cI.frzL f b (cI.frzL f a S).2).2):=by
 induction a generalizing S with
 |nil=>simp
 |cons d a ih=>simp[ih]
theorem W3{l:List (List Int)}:D.bf (fM l pE)=true:=fA (f:=pE) (λx=>by simp[pE,D.clean,mw]) l
theorem Ml{S:SK}{L v n:Nat}(hS:S.length=L)(hL:0<L){aw:List (List Int)}(hn:n=aw.length+1){r:List Int}{M:Abs.aG}:
  cI 0 16 (.sl L 2 v 0 n 1) ([.cells r.length (fM r aP),M,.cells v (fM aw pE++[.sl L 0 r.length 0 r.length 1])]::S)=(.bV n (fM (aw++[r]) pE),[.dead,M,.dead]::S):=by
 have hne:S≠[]:=by intro h;subst h;simp at hS;omega
 subst hn;have hc:cells? ([Abs.aG.cells r.length (fM r aP),M,.cells v (fM aw pE++[.sl L 0 r.length 0 r.length 1])]::S) L 2 v=some (fM aw pE++[.sl L 0 r.length 0 r.length 1]):=by simp[hS]
 rw[Xj hL hc];have h3:¬L<=0:=by omega
 have h1:=FX (l:=0) (n:=15) (l':=L) (i:=0) (v:=r.length) (off:=0) (m:=r.length) (w:=1) (J:=[Abs.aG.cells r.length (fM r aP),M,.dead]::S) (cs:=fM r aP) h3 (by simp[hS]) (by omega);have ht:(fM r aP).take r.length=fM r aP:=ah (by rw[pO];omega);have hp:=KJ aw;have ht2:(fM aw pE).take (aw.length+1)=fM aw pE:=ah (by omega);simp[hS,Pw,W3,h1,ht,hp,ht2,mw,pE,List.take_append]
theorem ZE{F:List Abs.aG}{b:Bk}{er:List Int}{nm:List UInt8}{l:List Int}{b':Bk}{e:Int}(ht:b.aS.dP≠[])(hz:Sz b)(hll:l.length<=1000000)(hml:b.ai.length<=40)(h1:b.rules.length<=1000000)(h2:b.pY.length<=1000000)(h3:∀e∈b.pY,e.sp.length<=1000000)(hk:Trem.fw b.k0 b.k1 b.k2=true)(hpl:∀l∈b.aw,l.length<=1000000000)(hd:mz b l=(b',e))(he:e=0):
  dp T (.call false 169 [.ref J.length 6 0 0,.str nm,lF l aP] (F::b.bF J.length er::J))=some (.val (.cN []) (F::b'.bF J.length er::J)):=by
 refine fx rfl rfl rfl (by simp) ?_;unfold mz at hd;split at hd
 case isTrue=>cases hd;cases he
 rename_i c1;split at hd
 case isFalse=>cases hd;cases he
 rename_i c2;split at hd
 case isFalse=>cases hd;cases he
 rename_i c3;split at hd
 case isFalse=>cases hd;cases he
 rename_i c4;split at hd
 case isFalse=>cases hd;rename_i h;exact absurd he h
 rename_i c5;cases hd;obtain⟨kp0,kp,hkp,hkp2,hkp3⟩:∃c kp:Int,eg b=c/\mH b=kp/\((c=0/\kp=b.k0)\/(c=1/\kp=b.k1)\/(c=2/\kp=b.k2)):=by
  refine⟨_,_,rfl,rfl,?_⟩;have:=Bh (b:=b);unfold mH;split
  .rename_i h;exact .inl ⟨h,rfl⟩
  .split
   .rename_i h;exact .inr (.inl ⟨h,rfl⟩)
   .refine .inr (.inr ⟨by omega,rfl⟩)
 have hkb:0<=kp/\kp<=1000:=by
  simp only[Trem.fw,af,aA]at hk;rcases hkp3 with⟨_,rfl⟩ | ⟨_,rfl⟩ | ⟨_,rfl⟩<;>omega
 have q1:0<(cc b.ai).length:=aH.2 c1;have q2:(b.aw.length:Int)<200:=by omega
 have hC:=λS=>OD (J:=J) (b:=b) (er:=er) (S:=S) h1 h2 h3
 try simp only[Cl]at hC
 have hLf:=λS=>Hy (J:=J) (b:=b) (er:=er) (S:=S) (by omega)
 try simp only[lF,Cl]at hLf
 have hR:=M7 (J:=F::b.bF J.length er::J) hkb hll (bp:=.ref J.length 6 0 0) (X:=lF (cc b.ai) dY.enc) rfl rfl l.length 0 [] (by omega) rfl
 try simp only[lF]at hR
 rw[aB]at hR;rw[hkp]at hC;simp only[Bk.bF,Bk.cells]at hC hLf;have hw:(b.aS.av.length:Int)=(l.length:Int):=by omega
 rcases hkp3 with⟨rfl,e2⟩ | ⟨rfl,e2⟩ | ⟨rfl,e2⟩
 all_goals
  subst e2;simp[Bk.bF,Bk.cells,hLf,q1,q2,hw,hC,cQ];refine WL.to hR (by simp) (by simp[Bk.bF,Bk.cells]) ?_;intro x e J' hq;simp only[CH,if_pos c4,List.nil_append]at hq;obtain⟨rfl,g0,g6,g8,rfl⟩:=hq;have hnp:dC b l=b.aw++[l.map (ji (mH b))]:=rfl;rw[hkp2]at hnp;rw[hnp]at c5 ⊢;generalize hrs:l.map (ji _)=rs at g8 c5 ⊢;have hrl:rs.length=l.length:=by rw[<- hrs];simp
  have⟨hroom,h24⟩:(b.aw.length+1)*24<=room/\24<=room:=by unfold room;omega
  have hpel:=KJ b.aw;have htk:(fM b.aw pE).take b.aw.length=fM b.aw pE:=ah (by omega);have hfr:=λS v hS=>Ml (S:=S) (L:=J.length+1+1) (v:=v) (n:=b.aw.length+1) hS (by omega) (aw:=b.aw) rfl (r:=rs) (M:=.cells 0 [])
  have hLp:=M6 (J:=J) (b:=b) (er:=er) (ls:=cc b.ai) (aw:=b.aw++[rs]) ht hz (λe he=>(cS.1 he).1) (by have:=fC (λe:dY=>e.left) b.ai;simp only[cc];omega) (by simp;omega) (by
   intro r hr;rcases aU.1 hr with hr | hr
   .exact hpl r hr
   .simp at hr;subst hr;omega) (S:=[.dead,.cells 0 [],.dead]::F::b.bF J.length er::J) (by simp[eT]) (cc b.ai).length 0 (by omega)
  try simp only[lF]at hLp
  rw[aB]at hLp;have hcl:∀k,(D.bV k (fM b.aw pE++pE rs)).clean=true:=λk=>by simp[E3,W3,pE,mw]
  have hcl0:∀k,(D.bV k (pE rs)).clean=true:=λk=>by simp[pE,mw]
  have hnl2:=ej (f:=pE) (l:=b.aw++[rs]) (by simp)
  try simp only[lF]at hnl2
  simp only[aT,aE,aY,oE,cV,mX,c9]at hnl2;by_cases hp0:b.aw=[]
  .have hnl:nl pE b.aw=.bA:=by simp[nl,hp0]
   have hfr':=hfr;simp only[hp0,aY,mX,List.nil_append,cq]at hfr';simp[g0,g6,g8,Bk.bF,Bk.cells,hnl,JB,h24,hfr'];refine WL.to hLp (by simp[hp0]) (by simp[Bk.bF,Bk.cells,hnl]) ?_;rintro x e J' ⟨rfl,hh⟩;rw[c5,if_pos rfl]at hh;obtain⟨rfl,j0,j11⟩:=hh;simp[j0,j11,Bk.bF,Bk.cells,IW,hnl,hnl2,hcl]
  .simp[g0,g6,g8,Bk.bF,Bk.cells,ej hp0,LL hp0 (by omega:b.aw.length<=1000000),hroom,hpel,htk,hfr];refine WL.to hLp (by simp) (by simp[Bk.bF,Bk.cells,ej hp0]) ?_;rintro x e J' ⟨rfl,hh⟩;rw[c5,if_pos rfl]at hh;obtain⟨rfl,j0,j11⟩:=hh;simp[j0,j11,Bk.bF,Bk.cells,IW,ej hp0,hnl2,hcl]
theorem Wb{F:List Abs.aG}{b:Bk}{er:List Int}{nm:List UInt8}{l:List Int}{b':Bk}{e:Int}(ht:cc b.ai≠[]->b.aS.dP≠[])(hz:Sz b)(hll:l.length<=1000000)(hml:b.ai.length<=40)(h1:b.rules.length<=1000000)(h2:b.pY.length<=1000000)(h3:∀e∈b.pY,e.sp.length<=1000000)(hk:Trem.fw b.k0 b.k1 b.k2=true)(hpl:∀l∈b.aw,l.length<=1000000000)(hd:mz b l=(b',e))(he:e≠0):
  dp T (.call false 169 [.ref J.length 6 0 0,.str nm,lF l aP] (F::b.bF J.length er::J))=some (.ft (rf e) (F::b.bF J.length er::J)):=by
 refine dX rfl rfl rfl ?_;have hLf:=λS=>Hy (J:=J) (b:=b) (er:=er) (S:=S) (by omega)
 try simp only[lF,Cl]at hLf
 simp only[Bk.bF,Bk.cells]at hLf;unfold mz at hd;split at hd
 case isTrue c1 =>
  cases hd;simp[Bk.bF,Bk.cells,hLf,c1,dL,D.clean,rf]
 rename_i c1;have ht:=ht c1;have q1:0<(cc b.ai).length:=aH.2 c1;split at hd
 case isFalse c2 =>
  cases hd;have q2:¬(b.aw.length:Int)<200:=by omega
  simp[Bk.bF,Bk.cells,hLf,q1,q2,cQ,dL,D.clean,rf]
 rename_i c2;have q2:(b.aw.length:Int)<200:=by omega
 split at hd
 case isFalse c3 =>
  cases hd;have q3:((l.length:Int) == (b.aS.av.length:Int))=false:=by simp;omega
  simp[Bk.bF,Bk.cells,hLf,q1,q2,q3,cQ,dL,D.clean,rf]
 rename_i c3;obtain⟨kp0,kp,hkp,hkp2,hkp3⟩:∃c kp:Int,eg b=c/\mH b=kp/\((c=0/\kp=b.k0)\/(c=1/\kp=b.k1)\/(c=2/\kp=b.k2)):=by
  refine⟨_,_,rfl,rfl,?_⟩;have:=Bh (b:=b);unfold mH;split
  .rename_i h;exact .inl ⟨h,rfl⟩
  .split
   .rename_i h;exact .inr (.inl ⟨h,rfl⟩)
   .refine .inr (.inr ⟨by omega,rfl⟩)
 have hkb:0<=kp/\kp<=1000:=by
  simp only[Trem.fw,af,aA]at hk;rcases hkp3 with⟨_,rfl⟩ | ⟨_,rfl⟩ | ⟨_,rfl⟩<;>omega
 have hC:=λS=>OD (J:=J) (b:=b) (er:=er) (S:=S) h1 h2 h3
 try simp only[Cl]at hC
 have hR:=M7 (J:=F::b.bF J.length er::J) hkb hll (bp:=.ref J.length 6 0 0) (X:=lF (cc b.ai) dY.enc) rfl rfl l.length 0 [] (by omega) rfl
 try simp only[lF]at hR
 rw[aB]at hR;rw[hkp]at hC;simp only[Bk.bF,Bk.cells]at hC;have hw:(b.aS.av.length:Int)=(l.length:Int):=by omega
 split at hd
 case isFalse c4 =>
  cases hd;have c4':¬dh l (λn=>bC n (-100000) 100000)=true:=c4;rcases hkp3 with⟨rfl,e2⟩ | ⟨rfl,e2⟩ | ⟨rfl,e2⟩
  all_goals
   subst e2;simp[Bk.bF,Bk.cells,hLf,q1,q2,hw,hC,cQ];refine WL.to hR (by simp) (by simp[Bk.bF,Bk.cells]) ?_;intro x e J' hq;simp only[CH,if_neg c4']at hq;obtain⟨rfl,s,rfl⟩:=hq;simp[Bk.bF,Bk.cells,D.clean,rf]
 rename_i c4;split at hd
 case isTrue=>cases hd;exact absurd rfl he
 rename_i c5;cases hd;have hM:=λS=>oR (J:=S) c5
 have he':=c5;rcases hkp3 with⟨rfl,e2⟩ | ⟨rfl,e2⟩ | ⟨rfl,e2⟩
 all_goals
  subst e2;simp[Bk.bF,Bk.cells,hLf,q1,q2,hw,hC,cQ];refine WL.to hR (by simp) (by simp[Bk.bF,Bk.cells]) ?_;intro x e J' hq;simp only[CH,if_pos c4,List.nil_append]at hq;obtain⟨rfl,g0,g6,g8,rfl⟩:=hq;have hnp:dC b l=b.aw++[l.map (ji (mH b))]:=rfl;rw[hkp2]at hnp;rw[hnp]at c5 ⊢;generalize hrs:l.map (ji _)=rs at g8 c5 ⊢;have hrl:rs.length=l.length:=by rw[<- hrs];simp
  have⟨hroom,h24⟩:(b.aw.length+1)*24<=room/\24<=room:=by unfold room;omega
  have hpel:=KJ b.aw;have htk:(fM b.aw pE).take b.aw.length=fM b.aw pE:=ah (by omega);have hfr:=λS v hS=>Ml (S:=S) (L:=J.length+1+1) (v:=v) (n:=b.aw.length+1) hS (by omega) (aw:=b.aw) rfl (r:=rs) (M:=.cells 0 [])
  have hLp:=M6 (J:=J) (b:=b) (er:=er) (ls:=cc b.ai) (aw:=b.aw++[rs]) ht hz (λe he=>(cS.1 he).1) (by have:=fC (λe:dY=>e.left) b.ai;simp only[cc];omega) (by simp;omega) (by
   intro r hr;rcases aU.1 hr with hr | hr
   .exact hpl r hr
   .simp at hr;subst hr;omega) (S:=[.dead,.cells 0 [],.dead]::F::b.bF J.length er::J) (by simp[eT]) (cc b.ai).length 0 (by omega)
  try simp only[lF]at hLp
  rw[aB]at hLp;have hcl:∀k,(D.bV k (fM b.aw pE++pE rs)).clean=true:=λk=>by simp[E3,W3,pE,mw]
  have hcl0:∀k,(D.bV k (pE rs)).clean=true:=λk=>by simp[pE,mw]
  have hnl2:=ej (f:=pE) (l:=b.aw++[rs]) (by simp)
  try simp only[lF]at hnl2
  simp only[aT,aE,aY,oE,cV,mX,c9]at hnl2;generalize herr:bT (λe=>lG b.aS e.m (b.aw++[rs])) (cc b.ai)=err at c5 ⊢;have hrc:(D.uh 200 (.agg [iI err])).clean=true:=rfl;by_cases hp0:b.aw=[]
  .have hnl:nl pE b.aw=.bA:=by simp[nl,hp0]
   have hfr':=hfr;simp only[hp0,aY,mX,List.nil_append,cq]at hfr';simp[g0,g6,g8,Bk.bF,Bk.cells,hnl,JB,h24,hfr'];refine WL.to hLp (by simp[hp0]) (by simp[Bk.bF,Bk.cells,hnl]) ?_;rintro x e J' ⟨rfl,hh⟩;rw[herr,if_neg c5]at hh;subst hh;simp[Bk.bF,Bk.cells,rf,hrc,hnl]
  .simp[g0,g6,g8,Bk.bF,Bk.cells,ej hp0,LL hp0 (by omega:b.aw.length<=1000000),hroom,hpel,htk,hfr];refine WL.to hLp (by simp) (by simp[Bk.bF,Bk.cells,ej hp0]) ?_;rintro x e J' ⟨rfl,hh⟩;rw[herr,if_neg c5]at hh;subst hh;simp[Bk.bF,Bk.cells,rf,hrc,ej hp0]
end
section
open Go Go.Abs Go.Rock
variable {J:SK}
def CP(t:Int×Int×Int):List D:=[iI t.1,iI t.2.1,iI t.2.2]
theorem abj(l:List (Int×Int×Int)):(fM l CP).length=l.length*3:=bZ (f:=CP) (w:=3) (λ_=>rfl) l
theorem Uc{b:bU}{x:tw}{n:Nat}(h:Bv b)(hw:0<=x.jY/\x.jY<=255):
  Cl 254 [.agg (bL b),.agg x.enc,iI n] (iI (eU b n x)) J:=by
 refine au ?_;have hs:=λJ=>Bb (J:=J) h
 have hz:=h.sz;have hn:=h.n;have hwl:=h.av;have w1:=cb (n:=x.jY);have w2:=cb (n:=(b.n:Int)-1);have w3:=cb (n:=(b.av.length:Int)-1);unfold eU;cases c1:bC x.jY 1 4
 .simp[dQ,w1,c1]
 by_cases c2:x.lo < -10000000000
 .simp[dQ,w1,c1,c2]
 by_cases c3:x.hi<x.lo
 .simp[dQ,w1,c1,c2,c3]
 by_cases c4:10000000000<x.hi
 .simp[dQ,w1,c1,c2,c3,c4]
 have hsz:b.size=(b.n:Int):=hz;by_cases c5:x.jY=1
 .cases c6:bC x.tick 0 n
  .simp[dQ,show bC 1 1 4=true from rfl,c2,c3,c4,c5,c6,hs]
  .cases c7:bC x.idx 0 ((b.n:Int)-1)<;>
    simp[dQ,w2,show bC 1 1 4=true from rfl,c2,c3,c4,c5,c6,c7,hs,hsz]
 .cases c6:bC x.tick 1 n
  .simp[dQ,w1,c1,c2,c3,c4,c5,c6]
  .cases c7:bC x.idx 0 ((b.av.length:Int)-1)<;>
    simp[dQ,w1,w3,c1,c2,c3,c4,c5,c6,c7]
theorem Zt{lo hi n:Int}(h1 : -10000000000<=lo/\lo<=10000000000)(h2 : -10000000000<=hi/\hi<=10000000000)(hn : -100000000000000<=n/\n<=100000000000000):
  Cl 256 [.agg [iI lo,iI hi],iI n] (iI (D8 lo hi n)) J:=by
 refine au ?_;have w1:=cb (n:=n-hi);have w2:=cb (n:=n-lo);have w3:=cb (n:=max 0 (n-hi)+min 0 (n-lo));simp[w1,w2,w3,D8]
theorem We{y:Rock.aG}(h1:0<=y.m/\y.m<=1000000)(h2:0<=y.h/\y.h<=10000000000):Cl 346 [.agg y.enc] (iI y.Gf) J:=by
 refine au ?_;unfold Rock.aG.Gf;by_cases c:y.m=0
 .simp[c]
 .have e:y.h.tdiv y.m=y.h / y.m:=aO h2.1;have b1:0<=y.h / y.m/\y.h / y.m<=y.h:=⟨Int.ediv_nonneg h2.1 h1.1,Int.ediv_le_self _ h2.1⟩;have w1:=cb (n:=y.h.tdiv y.m);simp[c,w1]
theorem M1:Cl 308 [] (.agg [.pR,.pR,.fn 345 [] [],.fn 346 [] [],.fn 347 [] []]) J:=by
 refine au ?_;simp
theorem YM{y:Rock.aG}(h1:0<=y.m/\y.m<=1000000)(h2:0<=y.h/\y.h<=10000000000):0<=y.Gf/\y.Gf<=10000000000:=by
 unfold Rock.aG.Gf;split
 .omega
 .rw[aO h2.1];have b1:0<=y.h / y.m/\y.h / y.m<=y.h:=⟨Int.ediv_nonneg h2.1 h1.1,Int.ediv_le_self _ h2.1⟩;omega
theorem Tz{b:bU}{m:b8}{r:RunT}{n:Nat}{x:tw}(h:Fv b m)(hr:LW b n r.1 r.2)(hx:Vh b n x):0<=o6 b m r x/\o6 b m r x<=1000000000000:=by
 unfold o6;split
 .rename_i h1;obtain⟨p1,p2,p3⟩:=hx.p h1;have hz:=h.bv.sz;obtain⟨s1,s2⟩:=Yi hr (t:=x.tick.toNat) (by omega);rw[s1];have:=Hh h s2 (i:=x.idx.toNat) (by unfold bU.size at p3;omega);simp only[Option.getD_some];omega
 .rename_i h1;obtain⟨p1,p2,p3⟩:=hx.y h1;obtain⟨y1,y2⟩:=Qc hr (t:=x.tick.toNat-1) (by omega);have y3:=TQ y2 (w:=x.idx.toNat) (by omega);obtain⟨g1,g2,g3⟩:=y2.ok _ (aj y3);rw[y1];simp only[Option.getD_some,Rock.aG.MU];have:=YM g1 g2;split
  .omega
  .split<;>omega
theorem ZG{b:bU}{m:b8}{r:RunT}{n:Nat}{x:tw}(h:Fv b m)(hr:LW b n r.1 r.2)(hx:Vh b n x)(hn:n<=200):
  Cl 257 [.agg (bM b m),.agg [lF r.1 ll,lF r.2 ll],.agg x.enc] (iI (o6 b m r x)) J:=by
 refine au ?_;unfold o6;have hsl:=hr.sl;have hyl:=hr.yl;by_cases h1:x.jY=1
 .obtain⟨p1,p2,p3⟩:=hx.p h1;have hz:=h.bv.sz;obtain⟨s1,s2⟩:=Yi hr (t:=x.tick.toNat) (by omega);have hP:=λJ=>JF (J:=J) h s2 (i:=x.idx.toNat) (by unfold bU.size at p3;omega)
  rw[dO p2]at hP;have a1:=YB s1;have e2:x.tick<((n:Int)+1):=by omega
  rw[s1];simp[h1,hsl,p1.1,e2,a1,hP]
 .obtain⟨p1,p2,p3⟩:=hx.y h1;obtain⟨y1,y2⟩:=Qc hr (t:=x.tick.toNat-1) (by omega);have y3:=TQ y2 (w:=x.idx.toNat) (by omega);obtain⟨g1,g2,g3⟩:=y2.ok _ (aj y3);have a1:=YB y1;have a4:=bd (f:=aG.enc) (w:=3) (λ_=>rfl) y3;have hyw:=y2.len;have w1:=cb (n:=x.tick-1);have⟨e1,e2,e3⟩:0<=x.tick-1/\x.tick-1<(n:Int)/\(x.tick-1).toNat=x.tick.toNat-1:=by omega
  have hw:=hx.jY;rw[if_neg h1,y1];have hA:=λJ=>ZI (J:=J) (x:=aQ (rowAt r.2 (x.tick.toNat-1)) x.idx.toNat)
  have hK:=λJ=>Wh (J:=J) (x:=aQ (rowAt r.2 (x.tick.toNat-1)) x.idx.toNat)
  simp only[aG.enc]at hA hK;rcases(show x.jY=2\/x.jY=3\/x.jY=4 by omega)with h2 | h2 | h2
  .simp[h2,hyl,w1,p1.1,e2,e3,a1,a4,M1,hA,hyw,p2,p3,Rock.aG.MU]
  .have hW:=λJ=>We (J:=J) g1 g2
   simp only[aG.enc]at hW;simp[h2,hyl,w1,p1.1,e2,e3,a1,a4,M1,hW,hyw,p2,p3,Rock.aG.MU]
  .simp[h2,hyl,w1,p1.1,e2,e3,a1,a4,M1,hK,hyw,p2,p3,Rock.aG.MU]
theorem NR{l:List tw}{j:Nat}{m:tw}(h:l[j]?=some m):((fM l tw.enc).drop (j*5)).take 5=m.enc :=
 bd (f:=tw.enc) (w:=5) (λ_=>rfl) h
theorem Uk{A B:Abs.aG}:dp T (.zE 251 [.ref J.length 2 0 0] (some (.uh 428 (.agg []))) ([A,B,.cells 0 [iI 0]]::J))=some (.val (.cN []) ([A,B,.cells 0 [iI 9]]::J)):=by
 refine Dq rfl rfl rfl (by simp[rJ];exact⟨rfl,rfl⟩) ?_;simp
theorem W4(l:List tw):D.bf (fM l tw.enc)=true:=fA (λx=>by simp) l
theorem S4(l:List (List Int)):D.bf (fM l I6)=true:=fA (λx=>by simp[I6,D.clean,mw]) l
theorem DP{l0 L i w n:Nat}{S:SK}(hn:0<n)(h:¬L<=l0)(hc:cells? S L i 0=some []):cI l0 n (.sl L i 0 0 0 w) S=(.bV 0 [],bj S L i .dead):=by
 rw[FX h hc hn];simp
theorem S9{l0 L i w:Nat}{S:SK}(h:¬L<=l0)(hc:cells? S L i 0=some []):cI l0 16 (.sl L i 0 0 0 w) S=(.bV 0 [],bj S L i .dead):=DP (by omega) h hc
theorem Wr{b:bU}{l:List b8}{aw:List (List Int)}{rd:List tw}(h:Ok b l aw)(hl:rd.length<=40)(hw:∀x∈rd,0<=x.jY/\x.jY<=255){A B:Abs.aG}:∀(k i:Nat),i+k=rd.length ->
  WL T [1,2,3,4,8,9,10,32,33,34] true kI [(1,lF l b8.enc),(2,lF aw I6),(3,lF rd tw.enc),(4,.bg (bL b)),(8,.sl J.length 0 0 0 0 1),(9,.sl J.length 1 0 0 0 3),(10,.ref J.length 2 0 0),(32,lF rd tw.enc),(33,iI rd.length),(34,iI i)] ([A,B,.cells 0 [iI 0]]::J)
   (λx e J'=>if bT (eU b aw.length) (rd.drop i)=0 then x=.exit 0/\J'=[A,B,.cells 0 [iI 0]]::J/\get e 1=lF l b8.enc/\get e 2=lF aw I6/\get e 3=lF rd tw.enc/\get e 4=.bg (bL b)/\get e 8=.sl J.length 0 0 0 0 1/\get e 9=.sl J.length 1 0 0 0 3/\get e 10=.ref J.length 2 0 0
    else x=.ret/\get e 8=.bV 0 []/\get e 9=.bV 0 []/\get e 10=.ref J.length 2 0 0/\J'=[A,B,.cells 0 [iI (bT (eU b aw.length) (rd.drop i))]]::J):=by
 intro k;induction k with
 |zero =>
  intro i hi;refine Gi kI.eq_1 ?_;have h1:¬i<rd.length:=by omega
  have h2:rd.drop i=[]:=an (by omega);simp[h1,h2,bT,WZ,W4,CW,xD,S4]
 |succ k ih0 =>
  intro i hi;refine Gi kI.eq_1 ?_;have h1:i<rd.length:=by omega
  obtain⟨x,hx⟩:=gE h1;have h2:=NR hx;have h4:=cg h1;have h5:=bw hx;have hC:=λJ=>Uc (J:=J) (n:=aw.length) h.bv (hw x (aj hx))
  simp only[tw.enc]at h2 hC;have ih:=ih0 (i+1) (by omega);rw[h5,bT];by_cases hc:eU b aw.length x=0
  .simp[h1,h2,h4,hC,hc,WZ,W4,CW,xD,S4];exact WL.to ih (by simp) (by simp) λx e J hh=>by simpa[hc]using hh
  .simp[h1,h2,hC,hc];have z:=S9 (l0:=J.length) (L:=J.length+1) (i:=0) (w:=1) (S:=[.cells 0 [],.cells 0 []]::[A,B,.cells 0 [iI (eU b (aw.length:Int) x)]]::J) (by omega) (by simp);simp at z;rw[z];simp only[];rw[S9 (by omega) (by simp)];simp
abbrev Tri:=Int×Int×Int
def BS(i n:Nat):Nat->List Int->Nat×List Tri->Nat×List Tri
 |_,[],st=>st
 |k,v::vs,st=>BS i n (k+1) vs (if v≠0/\st.1=n then(k,st.2++[((i:Int),(k:Int),v)])else st)
theorem K1{i n:Nat}:∀(vs:List Int) (k:Nat) (st:Nat×List Tri),st.1≠n->BS i n k vs st=st
 |[],k,st,h=>rfl
 |v::vs,k,st,h=>by
  simp only[BS];rw[if_neg (λhh=>h hh.2)];exact K1 vs (k+1) st h
theorem MM{i n:Nat}:∀(vs:List Int) (k:Nat) (st:Nat×List Tri),k+vs.length=n->(st.1≠n->st.1<n)->(BS i n k vs st).2.length<=st.2.length+1/\(BS i n k vs st).1<=n
 |[],k,st,h,hh=>by simp only[BS];exact⟨by omega,Classical.byContradiction λh1=>by have:=hh (by omega);omega⟩
 |v::vs,k,st,h,hh=>by
  simp only[BS];simp only[aE]at h;by_cases hc:v≠0/\st.1=n
  .rw[if_pos hc,K1 vs (k+1) _ (by simp only;omega)];simp;omega
  .rw[if_neg hc];exact MM vs (k+1) st (by omega) hh
def FK(b:bU)(m:b8)(r:RunT)(rd:List tw):List Int:=rd.map λx=>D8 x.lo x.hi (o6 b m r x)
theorem MD(b:bU)(m:b8)(r:RunT)(rd:List tw):(FK b m r rd).length=rd.length:=by simp[FK]
theorem ade{b:bU}{l:List b8}{aw:List (List Int)}{rd:List tw}{rs:List RunT}{m:b8}{r:RunT}{i:Nat}(h:Ok b l aw)(hR:Rs b l aw.length rs)(hl:rd.length<=40)(hx:∀x∈rd,Vh b aw.length x)(hm:l[i]?=some m)(hr:rs[i]?=some r){A B:Abs.aG}{L10:Nat}{s0:Nat}(hs0:s0<=100):
  ∀(k j:Nat) (st:Nat×List Tri),j+k=rd.length->st.1<=rd.length->st.2.length<=s0+j ->
  WL T [3,4,8,9,10,15,16,17,18,51,52,53,60,61,62] false kJ [(3,lF rd tw.enc),(4,.bg (bL b)),(8,.sl J.length 0 L10 0 L10 1),(9,.sl J.length 1 st.2.length 0 st.2.length 3),(10,.ref J.length 2 0 0),(15,lF rs Gc),(16,iI i),(17,.own 0 (mL m)),(18,iI st.1),(51,lF l b8.enc),(52,iI l.length),(53,iI i),(60,lF rd tw.enc),(61,iI rd.length),(62,iI j)]
   ([A,.cells st.2.length (fM st.2 CP),B]::J)
   (λx e J'=>x=.exit 4/\∃st',st'=BS i rd.length j ((FK b m r rd).drop j) st/\get e 3=lF rd tw.enc/\get e 4=.bg (bL b)/\get e 8=.sl J.length 0 L10 0 L10 1/\get e 9=.sl J.length 1 st'.2.length 0 st'.2.length 3/\get e 10=.ref J.length 2 0 0/\get e 15=lF rs Gc/\get e 16=iI i/\get e 18=iI st'.1/\get e 51=lF l b8.enc/\get e 52=iI l.length/\get e 53=iI i /\
    J'=[A,.cells st'.2.length (fM st'.2 CP),B]::J):=by
 intro k;induction k with
 |zero =>
  intro j st hj h1 h2;refine az kJ.eq_1 ?_;have h3:¬j<rd.length:=by omega
  have h4:(FK b m r rd).drop j=[]:=an (by rw[MD];omega);simp[h3,h4,BS]
 |succ k ih0 =>
  intro j st hj g1 g2;refine az kJ.eq_1 ?_;have h1:j<rd.length:=by omega
  obtain⟨x,hxj⟩:=gE h1;have hmm:=aj hm;have hrr:=hR.all r (aj hr);have hxv:=hx x (aj hxj);have h2:=NR hxj;have h4:=cg h1;have hpl:=h.U2;have hi:i<rs.length:=(aC.1 hr).1;have hV:=λJ=>ZG (J:=J) (h.fv m hmm) hrr hxv hpl
  have hb:=Tz (h.fv m hmm) hrr hxv;have hen:=hxv.ends;have hM:=λJ=>Zt (J:=J) (lo:=x.lo) (hi:=x.hi) (n:=o6 b m r x) (by omega) (by omega) (by omega)
  have a1:=aaY hr;have e1:(FK b m r rd)[j]?=some (D8 x.lo x.hi (o6 b m r x)):=by simp[FK,hxj]
  have h5:=bw e1;simp only[tw.enc]at h2 hV;have a7:=abj st.2;have a8:(fM st.2 CP).take (st.2.length*3)=fM st.2 CP:=ah (by omega);have h8:(st.2.length+1)*24<=room:=by unfold room;omega
  rw[h5,BS];generalize D8 x.lo x.hi (o6 b m r x)=v at *
  by_cases c1:v=0
  .have ih:=ih0 (j+1) st (by omega) g1 (by omega);simp[h1,h2,h4,hV,hM,hi,a1,c1];exact WL.to ih (by simp) (by simp) λx e J hh=>by simpa[c1]using hh
  .by_cases c2:st.1=rd.length
   .have ih:=ih0 (j+1) (j,st.2++[((i:Int),(j:Int),v)]) (by omega) (by simp only;omega) (by simp;omega);simp[h1,h2,h4,hV,hM,hi,a1,c1,c2,a7,a8,h8];exact WL.to ih (by simp) (by simp[CP]) λx e J hh=>by simpa[c1,c2]using hh
   .have ih:=ih0 (j+1) st (by omega) g1 (by omega);have c3:¬(st.1:Int)=rd.length:=by omega
    simp[h1,h2,h4,hV,hM,hi,a1,c1,c2,c3];exact WL.to ih (by simp) (by simp) λx e J hh=>by simpa[c2]using hh
def KN(b:bU)(rd:List tw):Nat->List (b8×RunT)->List Int×List Tri->List Int×List Tri
 |_,[],st=>st
 |i,p::t,st=>KN b rd (i+1) t (if(BS i rd.length 0 (FK b p.1 p.2 rd) (rd.length,st.2)).1=rd.length then st.1++[(i:Int)]else st.1,(BS i rd.length 0 (FK b p.1 p.2 rd) (rd.length,st.2)).2)
theorem adb{b:bU}{l:List b8}{aw:List (List Int)}{rd:List tw}{rs:List RunT}(h:Ok b l aw)(hR:Rs b l aw.length rs)(hl:rd.length<=40)(hx:∀x∈rd,Vh b aw.length x){B:Abs.aG}:
  ∀(k i:Nat) (st:List Int×List Tri),i+k=l.length->st.1.length<=i->st.2.length<=i ->
  WL T [3,4,8,9,10,15,51,52,53] false kK [(3,lF rd tw.enc),(4,.bg (bL b)),(8,.sl J.length 0 st.1.length 0 st.1.length 1),(9,.sl J.length 1 st.2.length 0 st.2.length 3),(10,.ref J.length 2 0 0),(15,lF rs Gc),(51,lF l b8.enc),(52,iI l.length),(53,iI i)]
   ([.cells st.1.length (fM st.1 aP),.cells st.2.length (fM st.2 CP),B]::J)
   (λx e J'=>x=.exit 2/\∃st',st'=KN b rd i ((l.zip rs).drop i) st/\get e 8=.sl J.length 0 st'.1.length 0 st'.1.length 1/\get e 9=.sl J.length 1 st'.2.length 0 st'.2.length 3/\get e 10=.ref J.length 2 0 0 /\
    J'=[.cells st'.1.length (fM st'.1 aP),.cells st'.2.length (fM st'.2 CP),B]::J):=by
 intro k;induction k with
 |zero =>
  intro i st hi g1 g2;refine az kK.eq_1 ?_;have h1:¬i<l.length:=by omega
  have h2:(l.zip rs).drop i=[]:=an (by rw[List.length_zip];omega);simp[h1,h2,KN]
 |succ k ih0 =>
  intro i st hi g1 g2;refine az kK.eq_1 ?_;have h1:i<l.length:=by omega
  have hlen:=hR.len;have hne:=hR.ne;obtain⟨m,hm⟩:=gE h1;obtain⟨r,hr⟩:∃r,rs[i]?=some r:=gE (by omega);have h2:=Tj hm;have h4:=cg h1;have hz:(l.zip rs)[i]?=some (m,r):=by simp[List.getElem?_zip_eq_some,hm,hr]
  have h5:=bw hz;have hsl:=MM (i:=i) (FK b m r rd) 0 (rd.length,st.2) (n:=rd.length) (by rw[MD];omega) (by simp);rw[h5,KN];simp[h1,h2];refine WL.to (ade (J:=J) h hR hl hx hm hr (A:=.cells st.1.length (fM st.1 aP)) (B:=B) (L10:=st.1.length) (s0:=50) (by omega) rd.length 0 (rd.length,st.2) (by omega) (by simp) (by simp only;omega)) (by simp) (by simp) ?_;rintro x e J' ⟨rfl,st',hst,q3,q4,q8,q9,q10,q15,q16,q18,q51,q52,q53,rfl⟩;rw[aB]at hst;rw[<- hst];rw[<- hst]at hsl;have a4:=Te st.1;have a6:(fM st.1 aP).take st.1.length=fM st.1 aP:=ah (by omega);have h7:(st.1.length+1)*8<=room:=by unfold room;omega
  by_cases hc:st'.1=rd.length
  .have ih:=ih0 (i+1) (st.1++[(i:Int)],st'.2) (by omega) (by simp;omega) (by simp only at hsl ⊢;omega);rw[if_pos hc];simp[q3,q4,q8,q9,q10,q15,q16,q18,q51,q52,q53,hc,h4,a4,a6,h7];exact WL.to ih (by simp) (by simp) λx e J hh=>by simpa using hh
  .have ih:=ih0 (i+1) (st.1,st'.2) (by omega) (by simp only;omega) (by simp only at hsl ⊢;omega);rw[if_neg hc];have hc':¬(st'.1:Int)=rd.length:=by omega
   simp[q3,q4,q8,q9,q10,q15,q16,q18,q51,q52,q53,hc',h4];exact WL.to ih (by simp) (by simp) λx e J hh=>by simpa using hh
def R6(b:bU)(l:List b8)(aw:List (List Int))(rd:List tw):D :=
 if vq b aw.length rd=0 then
  match zl b aw l with
  |some rs => .cN [.bV (KN b rd 0 (l.zip rs) ([],[])).1.length (fM (KN b rd 0 (l.zip rs) ([],[])).1 aP),.bV (KN b rd 0 (l.zip rs) ([],[])).2.length (fM (KN b rd 0 (l.zip rs) ([],[])).2 CP),.int .i64 0]
  |none => .cN [.bV 0 [],.bV 0 [],.int .i64 9]
 else .cN [.bV 0 [],.bV 0 [],iI (vq b aw.length rd)]
theorem HP{l0 a b:Nat}{k:Int}{A B:List D}{S S1 S2:SK}{d1 d2:D}(h1:cI l0 15 d1 S=(.bV a A,S1))(h2:cI l0 15 d2 S1=(.bV b B,S2)):cI l0 16 (.cN [d1,d2,iI k]) S=(.cN [.bV a A,.bV b B,iI k],S2):=by
 by_cases hc:D.clean (.cN [d1,d2,iI k])=true
 .rw[eL hc (by omega)];simp only[D.clean,D.bf,Bool.and_true,af]at hc;rw[eL hc.1 (by omega)]at h1;rw[eL hc.2 (by omega)]at h2;cases h1;cases h2;rfl
 .rw[pZ (by simpa using hc) (by omega)];simp only[jP,kR];rw[h1];simp only;rw[h2];simp only;rw[eL (by rfl) (by omega)]
end
section
open Go Go.Abs Go.Rock Go.Book
variable {J:SK}
theorem GV{α:Type}{f:α->List D}{l:List α}{v t:Nat}{e:Env}{S:SK}(h:Abs.get e v=nl f l):Abs.get (Rn v (nl f l) e S).1 t=if v=t then lF l f else Abs.get e t:=by
 unfold nl at h ⊢;split at h
 .rename_i hl;subst hl;simp
 .rename_i hl;simp[hl];intro hh;subst hh;exact h
theorem Jl{α:Type}{f:α->List D}{l:List α}{v:Nat}{e:Env}{S:SK}:(Rn v (nl f l) e S).2=S:=by
 unfold nl;split<;>simp
theorem QP{wq:D}{b:bU}{l:List b8}{aw:List (List Int)}{rd:List tw}(hwq:wq.rh=lF b.av bG.enc)(h:Ok b l aw)(hl:rd.length<=1000000000)(hw:∀x∈rd,0<=x.jY/\x.jY<=255)(hJ:J≠[]):
  Cl 215 [.agg [iI b.f.x,iI b.f.y,iI b.f.z,iI b.f.k,lF b.dP Rw.enc,iI b.cC,iI b.lift,iI b.deep,wq],lF l b8.enc,nl I6 aw,lF rd tw.enc] (R6 b l aw rd) J:=by
 have h1:=λJ=>Zq (J:=J) h
 unfold R6;by_cases c0:40<rd.length
 .have e1:vq b aw.length rd=3:=by simp[vq,c0]
  rw[e1];refine au ?_;simp[hwq,GV,Jl,h1,show(40:Int)<rd.length by omega];have hp:=aH.2 hJ;rw[HP (DP (by omega) (by omega) (by simp)) (DP (by omega) (by omega) (by simp))];simp
 have e1:vq b aw.length rd=bT (eU b aw.length) rd:=by simp[vq,c0]
 rw[e1];have c0':¬(40:Int)<rd.length:=by omega
 have hL:=Wr (J:=J) h (by omega) hw (A:=.cells 0 []) (B:=.cells 0 []) rd.length 0 (by omega);rw[aB]at hL;by_cases c1:bT (eU b aw.length) rd=0
 .rw[c1]at hL;rw[if_pos c1];have hx:∀x∈rd,Vh b aw.length x:=λx hx=>Vh.of (pB c1 x hx)
  refine Pc JP tM.eq_1 rfl rfl ?_;cases hrs:zl b aw l with
  |none =>
   have h2:=λJ=>V8 (J:=J) h hrs
   have hX:wJ T (.fn 251 [] []) [.ref J.length 2 0 0] (some (.uh 428 (.agg []))) ([.cells 0 [],.cells 0 [],.cells 0 [iI 0]]::J)=some ([.cells 0 [],.cells 0 [],.cells 0 [iI 9]]::J):=u6 Uk;simp[toD,hwq,GV,Jl,h1,c0'];refine WL.to hL (by simp) (by simp) ?_;intro x e J' hh;rw[if_pos rfl]at hh;obtain⟨rfl,rfl,g1,g2,g3,g4,g8,g9,g10⟩:=hh;simp[];rw[Bf nR.eq_1];simp[Pj,g1,g2,g4,g8,g9,g10,h2,hX];have hp:=aH.2 hJ;rw[HP (DP (by omega) (by omega) (by simp)) (DP (by omega) (by omega) (by simp))];simp
  |some rs =>
   have hR:=Rs.of h hrs;have h2:=λJ hJ=>V9 (J:=J) h hJ hrs hR.len
   simp[toD,hwq,GV,Jl,h1,c0'];refine WL.to hL (by simp) (by simp) ?_;intro x e J' hh;rw[if_pos rfl]at hh;obtain⟨rfl,rfl,g1,g2,g3,g4,g8,g9,g10⟩:=hh;simp[];rw[Bf nR.eq_1];simp[g1,g2,g3,g4,g8,g9,g10,h2];refine WL.to (adb (J:=J) h hR (by omega) hx (B:=.cells 0 [iI 0]) l.length 0 ([],[]) (by omega) (by simp) (by simp)) (by simp) (by simp) ?_;rintro x e J' ⟨rfl,st,hst,q8,q9,q10,rfl⟩;rw[aB]at hst;rw[<- hst];have hX:wJ T (.fn 251 [] []) [.ref J.length 2 0 0] none ([.cells st.1.length (fM st.1 aP),.cells st.2.length (fM st.2 CP),.cells 0 [iI 0]]::J)=some ([.cells st.1.length (fM st.1 aP),.cells st.2.length (fM st.2 CP),.cells 0 [iI 0]]::J):=u6 JT;simp[Pj,q8,q9,q10,g10,hX];rw[HP (lD (n:=15) (f:=aP) (w:=1) (l:=st.1) (by decide) (λ_=>rfl) (λx=>by simp) hJ (by simp)) (lD (n:=15) (f:=CP) (w:=3) (l:=st.2) (by decide) (λ_=>rfl) (λx=>by simp[CP]) hJ (by simp))];simp
 .simp only[c1,if_false];refine au ?_;simp[hwq,GV,Jl,h1,c0'];refine WL.to hL (by simp) (by simp) ?_;intro x e J' hh;rw[if_neg c1]at hh;obtain⟨rfl,g8,g9,g10,rfl⟩:=hh;simp[g8,g9,g10]
end
end Go.Proofs.YtpapbbojmclkgaaGreatDoor
namespace Go.Book
open Go Go.Abs Go.Rock
def LD(lo hi s:Int):Int:=if hi<s\/s<lo then s else lo
end Go.Book
namespace Go.Proofs.YtpapbbojmclkgaaGreatDoor
open Go Go.Abs Go.Rock Go.Book
variable {J:SK}
def sf(b:Bk)(x:tw)(m:b8):Int:=match Rock.run b.aS m b.aw with
 |some r=>LD x.lo x.hi (o6 b.aS m r x)
 |none=>x.lo
theorem TM{b:bU}{m:b8}{aw:List (List Int)}{x:tw}{r:RunT}(hr:vq b aw.length [x]=0)(hrun:Rock.run b m aw=some r):
  ∃n A,R6 b [m] aw [x]=.cN [.bV n A,.bV (if D8 x.lo x.hi (o6 b m r x)=0 then 0 else 1) (if D8 x.lo x.hi (o6 b m r x)=0 then []else CP (0,0,D8 x.lo x.hi (o6 b m r x))),iI 0]/\D.bf A=true:=by
 have h1:zl b aw [m]=some [r]:=by simp[zl,hrun]
 refine⟨(KN b [x] 0 [(m,r)] ([],[])).1.length,fM (KN b [x] 0 [(m,r)] ([],[])).1 aP,?_,mw _⟩;unfold R6;rw[if_pos hr,h1];by_cases hz:D8 x.lo x.hi (o6 b m r x)=0<;>simp[KN,BS,FK,hz]
theorem aa9{b:bU}{m:b8}{aw:List (List Int)}{x:tw}(hr:vq b aw.length [x]≠0):R6 b [m] aw [x]=.cN [.bV 0 [],.bV 0 [],iI (vq b aw.length [x])]:=by
 unfold R6;rw[if_neg hr]
theorem BO{b:bU}{n:Int}{x:tw}:vq b n [x]=eU b n x:=by
 simp only[vq,aE,aY,bT];by_cases h:eU b n x=0<;>simp[h]
theorem FN{b:Bk}{m:b8}{x:tw}(ht:b.aS.dP≠[])(hok:Ok b.aS [m] b.aw)(hw:0<=x.jY/\x.jY<=255)(hJ:J≠[]):
  Cl 215 [.agg [iI b.aS.f.x,iI b.aS.f.y,iI b.aS.f.z,iI b.aS.f.k,nl Rw.enc b.aS.dP,iI b.aS.cC,iI b.aS.lift,iI b.aS.deep,nl bG.enc b.aS.av],.bV 1 (mL m),nl pE b.aw,.bV 1 x.enc] (R6 b.aS [m] b.aw [x]) J:=by
 have h:=QP (J:=J) (wq:=nl bG.enc b.aS.av) kr hok (rd:=[x]) (by simp) (by intro y hy;simp at hy;subst hy;exact hw) hJ;rw[ej ht];simpa[Ru]using h
theorem Zo{F:List Abs.aG}{b:Bk}{er:List Int}{m:b8}{x:tw}{w:Int}{r:RunT}(ht:b.aS.dP≠[])(hok:Ok b.aS [m] b.aw)(hw:0<=x.jY/\x.jY<=255)(hr:eU b.aS b.aw.length x=0)(hrun:Rock.run b.aS m b.aw=some r):
  Cl 216 [.agg (mL m),.bg [.ref J.length 6 0 0],.ref (J.length+1+1) 0 0 0,.bg [.bV 4 [iI w,iI x.idx,iI x.lo,iI x.hi]]] (iI (sf b x m)) ([]::[.cells 0 x.enc]::F::b.bF J.length er::J):=by
 refine au ?_;have hS:=λS hS=>FN (J:=S) ht hok hw hS
 obtain⟨n,A,h1,hA⟩:=TM (b:=b.aS) (m:=m) (aw:=b.aw) (x:=x) (by rw[BO];exact hr) hrun;rw[h1]at hS;have hd:=Vh.of hr;have hb:=Tz (hok.fv m (by simp)) (LW.of (hok.fv m (by simp)) hok.aF hrun) hd;obtain⟨e1,e2,e3⟩:=hd.ends;have hv:sf b x m=LD x.lo x.hi (o6 b.aS m r x):=by simp[sf,hrun]
 rw[hv];have hm:=RE (lo:=x.lo) (hi:=x.hi) (s:=o6 b.aS m r x) e2;generalize o6 b.aS m r x=s at *
 simp only[tw.enc]at hS ⊢;unfold XM at hm;by_cases c1:x.hi<s
 .rw[if_pos c1]at hm;have⟨c2,c3⟩:¬s-x.hi=0/\0<s-x.hi:=by omega
  have w1:IntKind.i64.wrap (x.hi+(s-x.hi))=s:=by rw[show x.hi+(s-x.hi)=s by omega];exact cb
  have hq:LD x.lo x.hi s=s:=by simp[LD,c1]
  rw[hm]at hS;simp[Bk.bF,Bk.cells,hS,c1,c2,w1,hq,CP]
 .rw[if_neg c1]at hm;by_cases c4:s<x.lo
  .rw[if_pos c4]at hm;have⟨c2,c3⟩:¬s-x.lo=0/\¬0<s-x.lo:=by omega
   have w1:IntKind.i64.wrap (x.lo+(s-x.lo))=s:=by rw[show x.lo+(s-x.lo)=s by omega];exact cb
   have hq:LD x.lo x.hi s=s:=by simp[LD,c4]
   rw[hm]at hS;simp[Bk.bF,Bk.cells,hS,(show ¬x.lo<s by omega),c2,w1,hq,CP]
  .rw[if_neg c4]at hm;have hq:LD x.lo x.hi s=x.lo:=by simp[LD,c1,c4]
   rw[hm]at hS;simp[Bk.bF,Bk.cells,hS,hq]
def oH(b:Bk)(x:tw):Bk×Int :=
 if cc b.ai=[]then(b,8)else if bC x.jY 0 255=true then(if eU b.aS b.aw.length x=0 then(gW b x.lo x.hi (sf b x),0)else(b,eU b.aS b.aw.length x))else(b,1)
theorem Zp{F:List Abs.aG}{b:Bk}{er:List Int}{nm:List UInt8}{w i lo hi:Int}{b':Bk}{e:Int}(ht:b.aS.dP≠[])(hw:b.eI.length=b.ai.length)(hml:b.ai.length<=40)(hok:∀e∈b.ai,Ok b.aS [e.m] b.aw)(hrun:∀e∈b.ai,e.left=true->∃r,Rock.run b.aS e.m b.aw=some r)(hd:oH b ⟨b.aw.length,w,i,lo,hi⟩=(b',e))(he:e=0):
  dp T (.call false 170 [.ref J.length 6 0 0,.str nm,.bV 4 [iI w,iI i,iI lo,iI hi]] (F::b.bF J.length er::J))=some (.val (.cN []) (F::b'.bF J.length er::J)):=by
 refine fx rfl rfl rfl (by simp) ?_;unfold oH at hd;split at hd
 case isTrue=>cases hd;cases he
 rename_i c1;split at hd
 case isFalse=>cases hd;cases he
 rename_i c2;split at hd
 case isFalse=>cases hd;rename_i h;exact absurd he h
 rename_i c3;cases hd;have c2i:=aR.1 c2;have q1:0<(cc b.ai).length:=aH.2 c1;have hLf:=λS=>Hy (J:=J) (b:=b) (er:=er) (S:=S) (by omega)
 obtain⟨e0,ls,hls⟩:∃e0 ls,cc b.ai=e0::ls:=by
  cases h:cc b.ai with
  |nil=>exact absurd h c1
  |cons a l=>exact⟨a,l,rfl⟩
 have he0:e0∈b.ai/\e0.left=true:=cS.1 (show e0∈cc b.ai by rw[hls];simp);obtain⟨r0,hr0⟩:=hrun e0 he0.1 he0.2;have w1:IntKind.u8.wrap w=w:=wu8 (by omega);have hS:=λS hS=>FN (J:=S) (x:=⟨b.aw.length,w,i,lo,hi⟩) ht (hok e0 he0.1) (by simpa using c2i) hS
 obtain⟨n,A,h1,hA⟩:=TM (b:=b.aS) (m:=e0.m) (aw:=b.aw) (x:=⟨b.aw.length,w,i,lo,hi⟩) (by rw[BO];exact c3) hr0;rw[h1]at hS;have hst:=OL (J:=J) (A:=[.cells 0 (tw.enc ⟨b.aw.length,w,i,lo,hi⟩)]) (F:=F) (b:=b) (er:=er) (lo:=lo) (hi:=hi) (val:=sf b ⟨b.aw.length,w,i,lo,hi⟩) (fv:=.fn 216 [] [.bg [.ref J.length 6 0 0],.ref (J.length+1+1) 0 0 0,.bg [.bV 4 [iI w,iI i,iI lo,iI hi]]]) rfl rfl hw hml (by
  intro k e he hl;obtain⟨r,hr⟩:=hrun e he hl;have h:=Zo (J:=J) (F:=F) (er:=er) (b:=b.gz lo hi (sf b ⟨b.aw.length,w,i,lo,hi⟩) k) (m:=e.m) (x:=⟨b.aw.length,w,i,lo,hi⟩) (w:=w) ht (hok e he) (by simpa using c2i) c3 hr;rw[pf];have h':dp T (.call false 216 ([]++[.agg (mL e.m)]++[.bg [.ref J.length 6 0 0],.ref (J.length+1+1) 0 0 0,.bg [.bV 4 [iI w,iI i,iI lo,iI hi]]]) ([]::[.cells 0 (tw.enc ⟨b.aw.length,w,i,lo,hi⟩)]::F::(b.gz lo hi (sf b ⟨b.aw.length,w,i,lo,hi⟩) k).bF J.length er::J))=_:=h;rw[h'];rfl)
 rw[hls]at hLf;simp only[Bk.bF,Bk.cells,tw.enc]at hst hLf hS;have hcl:∀T,D.bf (if T=0 then []else CP (0,0,T))=true:=λT=>by split<;>simp[CP]
 simp[Bk.bF,Bk.cells,hLf,cQ,eK,c2,w1,hS,nP,hst]
theorem VW{F:List Abs.aG}{b:Bk}{er:List Int}{nm:List UInt8}{w i lo hi:Int}{b':Bk}{e:Int}(ht:cc b.ai≠[]->b.aS.dP≠[])(hml:b.ai.length<=40)(hok:∀e∈b.ai,Ok b.aS [e.m] b.aw)(hd:oH b ⟨b.aw.length,w,i,lo,hi⟩=(b',e))(he:e≠0):
  dp T (.call false 170 [.ref J.length 6 0 0,.str nm,.bV 4 [iI w,iI i,iI lo,iI hi]] (F::b.bF J.length er::J))=some (.ft (rf e) (F::b.bF J.length er::J)):=by
 refine dX rfl rfl rfl ?_;have hLf:=λS=>Hy (J:=J) (b:=b) (er:=er) (S:=S) (by omega)
 simp only[Bk.bF,Bk.cells]at hLf;unfold oH at hd;split at hd
 case isTrue c1 =>
  cases hd;simp[Bk.bF,Bk.cells,hLf,c1,dL,D.clean,rf]
 rename_i c1;have ht:=ht c1;have q1:0<(cc b.ai).length:=aH.2 c1;split at hd
 case isFalse c2 =>
  cases hd;have c2':bC w 0 255=false:=by simpa using c2
  simp[Bk.bF,Bk.cells,hLf,q1,eK,c2',cQ,dL,D.clean,rf]
 rename_i c2;have c2i:=aR.1 c2;split at hd
 case isTrue=>cases hd;exact absurd rfl he
 rename_i c3;cases hd;obtain⟨e0,ls,hls⟩:∃e0 ls,cc b.ai=e0::ls:=by
  cases h:cc b.ai with
  |nil=>exact absurd h c1
  |cons a l=>exact⟨a,l,rfl⟩
 have he0:e0∈b.ai/\e0.left=true:=cS.1 (show e0∈cc b.ai by rw[hls];simp);have w1:IntKind.u8.wrap w=w:=wu8 (by omega);have hS:=λS hS=>FN (J:=S) (x:=⟨b.aw.length,w,i,lo,hi⟩) ht (hok e0 he0.1) (by simpa using c2i) hS
 rw[aa9 (by rw[BO];exact c3),BO]at hS;have hM:=λJ=>oR (J:=J) c3
 generalize eU b.aS b.aw.length ⟨b.aw.length,w,i,lo,hi⟩=err at hS hM c3 he ⊢;have hrc:(D.uh 200 (.agg [iI err])).clean=true:=rfl;rw[hls]at hLf;simp only[tw.enc]at hS;simp[Bk.bF,Bk.cells,hLf,cQ,eK,c2,w1,hS,hM,rf,hrc]
end Go.Proofs.YtpapbbojmclkgaaGreatDoor
namespace Go.Book
open Go Go.Abs Go.Rock
def Gm:List Prt->Int
 |[]=>0
 |p::l=>p.width+Gm l
def uC:List Prt->Int->Int
 |[],_=>0
 |p::l,m=>p.kS*min m p.width+uC l (m-min m p.width)
def MI:List Prt->Int->Int
 |[],m=>m
 |p::l,m=>MI l (m-min m p.width)
def zn(l:List Prt):Prop:=∀p∈l,(0<=p.kS/\p.kS<=1000)/\1<=p.width/\p.width<=100000
theorem z7:∀{l:List Prt} {last:Int},last<=1000->AE last l=true->zn l
 |[],_,_,_=>by intro p hp;cases hp
 |q::l,last,hl,h=>by
  simp only[AE,Prt.ok,af,aR]at h;intro p hp;rcases bx.1 hp with rfl | hp
  .omega
  .exact z7 (by omega) h.2 p hp
theorem NN:∀{l:List Prt} {m:Int},zn l->0<=m->0<=uC l m/\uC l m<=1000*m
 |[],m,_,hm=>by simp[uC];omega
 |p::l,m,h,hm=>by
  have h1:=h p (by simp);have h2:=NN (l:=l) (m:=m-min m p.width) (λq hq=>h q (by simp[hq])) (by omega);have h3:0<=p.kS*min m p.width:=bz h1.1.1 (by omega);have h4:p.kS*min m p.width<=1000*min m p.width:=dR h1.1.2 (by omega);simp only[uC];omega
end Go.Book
namespace Go.Proofs.YtpapbbojmclkgaaGreatDoor
open Go Go.Abs Go.Rock Go.Book
variable {J:SK}
theorem abr{l:List Prt}(hs:zn l)(hl:l.length<=8):∀(m i:Nat) (out:Int),i+m=l.length->0<=out->out<=100000*i ->
  WL T [2,6,7,8] false fD [(2,iI out),(6,lF l Prt.enc),(7,iI l.length),(8,iI i)] J
   (λx e J'=>x=.exit 0/\J'=J/\get e 2=iI (out+Gm (l.drop i)))
 |0,i,out,hi,h0,ho=>by
  refine az fD.eq_1 ?_;have h1:¬i<l.length:=by omega
  have h2:l.drop i=[]:=an (by omega);simp[h1,h2,Gm]
 |m+1,i,out,hi,h0,ho=>by
  refine az fD.eq_1 ?_;have h1:i<l.length:=by omega
  obtain⟨p,hp⟩:=gE h1;have hfl:=bd (f:=Prt.enc) (w:=2) (λ_=>rfl) hp;have hd:=bw hp;have h4:=cg h1;have hb:=hs p (aj hp);have w1:=cb (n:=out+p.width);have ih:=abr hs hl m (i+1) (out+p.width) (by omega) (by omega) (by omega);rw[hd,Gm];simp[h1,hfl,h4,w1];exact WL.to ih (by simp) rfl λx e J' hh=>by simpa[Int.add_assoc]using hh
theorem QS{u:o8}(hs:zn u.parts)(hl:u.parts.length<=8):Cl 264 [.agg u.enc] (iI (Gm u.parts)) J:=by
 refine au ?_;simp[];refine WL.to (abr (J:=[]::J) hs hl u.parts.length 0 0 (by omega) (by omega) (by omega)) (by simp) rfl ?_;rintro x e J' ⟨rfl,rfl,g2⟩;simp[g2]
def lpP(L:Nat):xU:={state:=0,zh:=none,env:=[(4,.ref L 0 0 0)],params:=[10,11],B8:=iG,body:=iH }
def Qs(J:SK)(out mass:Int):SK:=[.cells 0 [iI out],.cells 0 [iI mass],.loop (lpP J.length)]::J
theorem ZP{p:Prt}{out mass m:Int}(hp:(0<=p.kS/\p.kS<=1000)/\1<=p.width/\p.width<=100000)(hm:0<=m/\m<=1000000)(ho:0<=out/\out<=1000000000000):
  dp T (.round J.length 2 [.agg p.enc,iI m] ([]::Qs J out mass))=some (.val (.bool true) ([]::Qs J (out+p.kS*m) mass)):=by
 have q1:0<=p.kS*m:=bz hp.1.1 hm.1;have q2:p.kS*m<=1000*1000000:=cn hp.1.2 hm.2 hm.1 (by omega);have w1:=cb (n:=p.kS*m);have w2:=cb (n:=out+p.kS*m);refine P9 (lp:=lpP J.length) (by simp[Qs]) rfl ?_;rw[show(lpP J.length).B8=iG from rfl,iG.eq_1,show(lpP J.length).body=iH from rfl];simp[Bf iH.eq_1,lpP,Qs,US,w1,w2]
theorem Wz{l:List Prt}(hs:zn l)(hl:l.length<=8):∀(k i:Nat) (out m:Int),i+k=l.length->0<=m->m<=1000000->0<=out->out<=1000000000*i ->
  WL T [0,2,8,9,10] false gH [(0,.jS J.length 2),(2,.ref J.length 1 0 0),(8,lF l Prt.enc),(9,iI l.length),(10,iI i)] ([]::Qs J out m)
   (λx e J'=>x=.exit 0/\J'=[]::Qs J (out+uC (l.drop i) m) (MI (l.drop i) m))
 |0,i,out,m,hi,hm,hm2,h0,ho=>by
  refine az gH.eq_1 ?_;have h1:¬i<l.length:=by omega
  have h2:l.drop i=[]:=an (by omega);simp[h1,h2,uC,MI]
 |k+1,i,out,m,hi,hm,hm2,h0,ho=>by
  refine az gH.eq_1 ?_;have h1:i<l.length:=by omega
  obtain⟨p,hp⟩:=gE h1;have hfl:=bd (f:=Prt.enc) (w:=2) (λ_=>rfl) hp;have hd:=bw hp;have h4:=cg h1;have hb:=hs p (aj hp);have hmn:0<=min m p.width/\min m p.width<=m:=by omega
  have hR:=ZP (J:=J) (p:=p) (out:=out) (mass:=m) (m:=min m p.width) hb (by omega) (by omega);have q1:0<=p.kS*min m p.width:=bz hb.1.1 hmn.1;have q2:p.kS*min m p.width<=1000*1000000:=cn hb.1.2 (by omega) hmn.1 (by omega);have w1:=cb (n:=m-min m p.width);have ih:=Wz hs hl k (i+1) (out+p.kS*min m p.width) (m-min m p.width) (by omega) (by omega) (by omega) (by omega) (by omega);rw[hd,uC,MI];simp only[Qs,Prt.enc]at hR;simp[h1,hfl,h4,Qs,hR,w1];exact WL.to ih (by simp) (by simp[Qs]) λx e J' hh=>by simpa[Int.add_assoc,Qs]using hh
theorem ac1{u:o8}{mass:Int}{bs:List Abs.aG}:dp T (.call true 316 [.agg u.enc,iI mass] (bs::J))=some (.val (.fn 352 [] [.bg u.enc,.ref J.length bs.length 0 0]) ((bs++[.cells 0 [iI mass]])::J)):=by
 refine vw rfl rfl rfl ?_;simp[]
theorem ZF{u:o8}{out m:Int}(hs:zn u.parts)(hl:u.parts.length<=8)(hm:0<=m/\m<=1000000)(h0:0<=out/\out<=0):
  dp T (.call false 352 [.jS J.length 2,.bg u.enc,.ref J.length 1 0 0] (Qs J out m))=some (.val (.cN []) (Qs J (out+uC u.parts m) (MI u.parts m))):=by
 refine fx rfl rfl rfl (by simp[Qs]) ?_;have h:=Wz (J:=J) hs hl u.parts.length 0 out m (by omega) hm.1 hm.2 h0.1 (by omega);rw[aB]at h;simp;refine WL.to h (by simp) (by simp) ?_;rintro x e J' ⟨rfl,rfl⟩;simp
theorem Zj{u:o8}{m:Int}(hs:zn u.parts)(hl:u.parts.length<=8)(hm:0<=m/\m<=1000000):
  Cl 265 [.agg u.enc,iI m] (iI (uC u.parts m)) J:=by
 refine au ?_;have hU:=λbs=>ac1 (J:=J) (u:=u) (mass:=m) (bs:=bs)
 have h1:=ZF (J:=J) (u:=u) (out:=0) hs hl hm (by omega);simp only[o8.enc]at hU h1 ⊢;simp[hU];refine SV (d:=.cN []) (J2:=Qs J (0+uC u.parts m) (MI u.parts m)) (lp:=lpP J.length) (by simp;exact⟨rfl,rfl,rfl⟩) ?_ (by simp[Qs]) (by simp[lpP]) ?_
 .simpa[Qs,lpP]using h1
 .simp[Qs,lpP]
def Ke(u:o8)(s:tx):Int:=if s.valid=true then(if Gm u.parts<s.m then 2 else if s.h<uC u.parts s.m then 9 else 0)else 1
theorem Lf{s:tx}:Cl 315 [.agg s.enc] (iI (if s.valid then 0 else 1)) J:=by
 refine au ?_;have h:=λJ=>JG (J:=J) (x:=s)
 simp only[tx.enc]at h ⊢;cases hc:s.valid<;>rw[hc]at h<;>simp[h]
theorem V1{s:tx}:Cl 314 [.agg s.enc] (.bool s.valid) J:=by
 refine au ?_;have h:=λJ=>Lf (J:=J) (s:=s)
 simp only[tx.enc]at h ⊢;cases hc:s.valid<;>rw[hc]at h<;>simp[h]
theorem V2{s:tx}:Cl 263 [.bV 1 s.enc] (.bool s.valid) J:=by
 refine au ?_;have h:=λJ=>B7 (yc 4 tx.enc (λ_=>rfl)) (T:=T) (J:=J) (f:=313) (g:=351) (h:=350) (i:=368) (l:=[s]) (p:=tx.valid) (fv:=.fn 314 [] []) rfl rfl rfl rfl (by simp) (oS.fn λx _ J=>V1) rfl
 simp only[yc,List.length_singleton,cV,mX,c9,dh,jm,List.all_nil,Bool.and_true]at h;simp only[tx.enc]at h ⊢;simp[h]
def Z5(u:o8)(s:tx):D:=if Ke u s=0 then .cN [.agg [iI s.m,iI (s.h-uC u.parts s.m),iI s.s,iI s.g],iI (uC u.parts s.m),iI 0]else .cN [.agg [iI 0,iI 0,iI 0,iI 0],iI 0,iI (Ke u s)]
theorem Vo{u:o8}{s:tx}(hu:u.ok=true):Cl 219 [.agg u.enc,.agg s.enc] (Z5 u s) J:=by
 refine au ?_;have hok:=hu;simp only[o8.ok,af,aR]at hok;have hl:u.parts.length<=8:=by omega
 have hs:=z7 (by omega) hok.2.2;have hV:=λJ=>OM (J:=J) (u:=u) (by omega)
 have hR:=λJ=>V2 (J:=J) (s:=s)
 have hC:=λJ=>QS (J:=J) hs hl
 rw[hu]at hV;simp only[o8.enc,tx.enc]at hV hR hC ⊢;unfold Z5 Ke;cases c1:s.valid
 .rw[c1]at hR;simp[hV,hR]
 rw[c1]at hR;simp only[tx.valid,af,aR]at c1;by_cases c2:Gm u.parts<s.m
 .simp[hV,hR,hC,c2]
 have hP:=λJ=>Zj (J:=J) (m:=s.m) hs hl c1.1
 simp only[o8.enc]at hP;have hb:=NN hs c1.1.1;by_cases c3:s.h<uC u.parts s.m
 .simp[hV,hR,hC,hP,c2,c3]
 have w1:=cb (n:=s.h-uC u.parts s.m);simp[hV,hR,hC,hP,c2,c3,w1]
theorem TU{t:List Rw}(ht:fK t=true){i:Nat}{r:Rw}(hi:t[i]?=some r){x:tx}(hx:x.valid=false):
  Cl 218 [lF t Rw.enc,iI i,.agg x.enc] (.cN [.agg (List.replicate 10 (iI 0)),iI 1]) J:=by
 refine au ?_;have hl:t.length<=20:=by
  simp only[fK,af]at ht;have:=aR.1 ht.1;omega
 have hil:i<t.length:=(aC.1 hi).1;have h1:=λJ=>FO (J:=J) (t:=t) (by omega)
 have h2:=λJ=>abp (J:=J) (t:=t) (n:=i) (by omega)
 have h3:=λJ=>JG (J:=J) (x:=x)
 have hin:bC i 0 ((t.length:Int)-1)=true:=aR.2 (by omega);rw[hin]at h2;rw[hx]at h3;rw[ht]at h1;simp only[tx.enc]at h3;simp[h1,h2,h3,List.replicate]
def Dj:List Int->Int
 |[]=>0
 |x::l=>l.foldl min x
def Di:List Int->Int
 |[]=>0
 |x::l=>l.foldl max x
theorem abw{l:List Int}(hl:l.length<=1000000):∀(m i:Nat) (a:Int),i+m=l.length ->
  WL T [0,3,4] false j8 [(0,lF l aP),(3,iI a),(4,iI i)] J (λx e J'=>x=.exit 0/\J'=J/\get e 3=iI ((l.drop i).foldl min a))
 |0,i,a,hi=>by
  refine az j8.eq_1 ?_;have h1:¬i<l.length:=by omega
  have h2:l.drop i=[]:=an (by omega);simp[h1,h2]
 |m+1,i,a,hi=>by
  refine az j8.eq_1 ?_;have h1:i<l.length:=by omega
  obtain⟨n,hn⟩:=gE h1;have a1:=gq hn;have h4:=cg h1;rw[bw hn];simp[h1,a1,h4];exact WL.to (abw hl m (i+1) (min a n) (by omega)) (by simp) rfl λx e J' hh=>by simpa using hh
theorem aga{l:List Int}(hne:l≠[])(hl:l.length<=1000000):Cl 266 [lF l aP] (iI (Dj l)) J:=by
 refine au ?_;have h0:0<l.length:=aH.2 hne;obtain⟨x,r,rfl⟩:∃x r,l=x::r:=by
  cases l with
  |nil=>exact absurd rfl hne
  |cons x r=>exact⟨x,r,rfl⟩
 have⟨h1,h2⟩:¬((r.length:Int)+1<1)/\(0:Int)<(r.length:Int)+1:=by omega
 simp[h1,h2];refine WL.to (abw (J:=[]::J) hl r.length 1 x (by simp;omega)) (by simp) rfl ?_;rintro x e J' ⟨rfl,rfl,g3⟩;simp[g3,Dj]
theorem abv{l:List Int}(hl:l.length<=1000000):∀(m i:Nat) (a:Int),i+m=l.length ->
  WL T [0,3,4] false j7 [(0,lF l aP),(3,iI a),(4,iI i)] J (λx e J'=>x=.exit 0/\J'=J/\get e 3=iI ((l.drop i).foldl max a))
 |0,i,a,hi=>by
  refine az j7.eq_1 ?_;have h1:¬i<l.length:=by omega
  have h2:l.drop i=[]:=an (by omega);simp[h1,h2]
 |m+1,i,a,hi=>by
  refine az j7.eq_1 ?_;have h1:i<l.length:=by omega
  obtain⟨n,hn⟩:=gE h1;have a1:=gq hn;have h4:=cg h1;rw[bw hn];simp[h1,a1,h4];exact WL.to (abv hl m (i+1) (max a n) (by omega)) (by simp) rfl λx e J' hh=>by simpa using hh
theorem af9{l:List Int}(hne:l≠[])(hl:l.length<=1000000):Cl 267 [lF l aP] (iI (Di l)) J:=by
 refine au ?_;have h0:0<l.length:=aH.2 hne;obtain⟨x,r,rfl⟩:∃x r,l=x::r:=by
  cases l with
  |nil=>exact absurd rfl hne
  |cons x r=>exact⟨x,r,rfl⟩
 have⟨h1,h2⟩:¬((r.length:Int)+1<1)/\(0:Int)<(r.length:Int)+1:=by omega
 simp[h1,h2];refine WL.to (abv (J:=[]::J) hl r.length 1 x (by simp;omega)) (by simp) rfl ?_;rintro x e J' ⟨rfl,rfl,g3⟩;simp[g3,Di]
theorem acW{l:List Int}(hne:l≠[])(hl:l.length<=1000000):Cl 220 [lF l aP] (.agg [iI (Dj l),iI (Di l)]) J:=by
 refine au ?_;have h1:=λJ=>aga (J:=J) hne hl
 have h2:=λJ=>af9 (J:=J) hne hl
 simp[h1,h2]
def ail:Rw:=⟨0,0,0,0,0⟩
def aim:o8:=⟨0,[]⟩
def rowOf(b:Bk)(lv:Nat):Rw:=(b.aS.dP[lv]?).getD ail
def wE(b:Bk)(u:Nat):o8:=(b.cJ[u]?).getD aim
def nH(b:Bk)(r:RunT)(w:Nat):tx:=⟨(aQ (rowAt r.2 (b.aw.length-1)) w).m,(aQ (rowAt r.2 (b.aw.length-1)) w).h,0,0⟩
def fB(r:Rw)(x:tx):tx:=⟨eJ r x,Oh r x,0,Og r x⟩
def uW(b:Bk)(w lv u:Nat)(m:b8):Int:=match Rock.run b.aS m b.aw with
 |some r=>if(nH b r w).valid=true then Ke (wE b u) (fB (rowOf b lv) (nH b r w))else 1
 |none=>9
def o7(b:Bk)(w lv u:Nat)(m:b8):Int:=match Rock.run b.aS m b.aw with
 |some r=>uC (wE b u).parts (fB (rowOf b lv) (nH b r w)).m
 |none=>0
def Ho(b:Bk)(J:SK)(w lv u:Nat)(price:Int)(acc:List Int)(rest:List dY)(x:Abs.Exit)(e:Env)(J':SK):Prop :=
 if bT (λe=>uW b w lv u e.m) rest=0 then
  x=.exit 0/\get e 0=.ref (J.length-1-1) 6 0 0/\get e 7=iI w/\get e 10=iI price/\get e 11=.sl J.length 0 (acc++rest.map λe=>o7 b w lv u e.m).length 0 (acc++rest.map λe=>o7 b w lv u e.m).length 1 /\
   J'=[.cells (acc++rest.map λe=>o7 b w lv u e.m).length (fM (acc++rest.map λe=>o7 b w lv u e.m) aP)]::J
 else x=.ft (rf (bT (λe=>uW b w lv u e.m) rest))/\∃s,J'=s::J
theorem Q7{F:List Abs.aG}{b:Bk}{er:List Int}{ls:List dY}{w lv u:Nat}{price:Int}(ht:fK b.aS.dP=true)(hok:∀e∈ls,Ok b.aS [e.m] b.aw)(hrun:∀e∈ls,∃r,Rock.run b.aS e.m b.aw=some r)(hp:b.aw≠[])(hl:ls.length<=1000000)
  (hw:w<b.aS.av.length) (hlv:lv<b.aS.dP.length) (hu:u<b.cJ.length) (huk:∀x∈b.cJ,x.ok=true):∀(m i:Nat) (acc:List Int),i+m=ls.length->acc.length=i ->
  WL T [0,7,8,9,10,11,86,87,88] false fX [(0,.ref J.length 6 0 0),(7,iI w),(8,iI lv),(9,iI u),(10,iI price),(11,.sl (F::b.bF J.length er::J).length 0 i 0 i 1),(86,lF ls dY.enc),(87,iI ls.length),(88,iI i)] ([.cells i (fM acc aP)]::F::b.bF J.length er::J)
   (Ho b (F::b.bF J.length er::J) w lv u price acc (ls.drop i))
 |0,i,acc,hi,ha=>by
  refine az fX.eq_1 ?_;obtain rfl:i=ls.length:=by omega
  have h5:ls.drop ls.length=[]:=an (by omega);simp[h5,Ho,ha,bT]
 |m+1,i,acc,hi,ha=>by
  refine az fX.eq_1 ?_;have h1:i<ls.length:=by omega
  obtain⟨e,he⟩:=gE h1;have hem:=aj he;have hO:=hok e hem;obtain⟨r,hr⟩:=hrun e hem;have hfl:=bd (f:=dY.enc) (w:=4) (λ_=>rfl) he;have h4:=cg h1;have htl:b.aS.dP.length<=20:=by
   simp only[fK,af]at ht;have:=aR.1 ht.1;omega
  have hE:lG b.aS e.m b.aw=0:=by
   have hfit:=hO.fit e.m (by simp);simp[lG,Bd,hO.valid,hfit,hO.pl,hr]
  have hD:BN b.aS e.m b.aw=.agg [lF r.1 ll,lF r.2 ll]:=by
   obtain⟨r1,r2⟩:=r;simp[BN,hE,hr]
  have hsh:=hO.short e.m (by simp);have hP:=λS hS=>Vp (J:=S) (b:=b.aS) (m:=e.m) (aw:=b.aw) (wq:=nl bG.enc b.aS.av) kr (by omega) (by have:=hO.bv.av;omega) (by omega) (by omega) (by have:=hO.U2;omega) (λl hl=>by have:=(hO.aF l hl).len;have:=hO.bv.av;omega) hS
  rw[hE,hD,Ru]at hP;have htn:b.aS.dP≠[]:=by intro hh;rw[hh]at hlv;simp at hlv
  have hRun:=LW.of (hO.fv e.m (by simp)) hO.aF hr;have hpl:0<b.aw.length:=aH.2 hp;have hpl2:=hO.U2;obtain⟨hrow,hY⟩:=Qc hRun (t:=b.aw.length-1) (by omega);have f1:=bd (f:=ll) (w:=1) (λ_=>rfl) hrow;rw[bX]at f1;have hyw:(rowAt r.2 (b.aw.length-1))[w]?=some (aQ (rowAt r.2 (b.aw.length-1)) w):=by
   have:w<(rowAt r.2 (b.aw.length-1)).length:=by rw[hY.len];exact hw
   simp[aQ,this]
  have f2:=bd (f:=Rock.aG.enc) (w:=3) (λ_=>rfl) hyw;have hyl:=hY.len;have w1:=cb (n:=(b.aw.length:Int)-1);have⟨t1,q1⟩:((b.aw.length:Int)-1).toNat=b.aw.length-1/\(1:Int)<=b.aw.length:=by omega
  have q2:(b.aw.length:Int)-1<r.2.length:=by rw[hRun.yl];omega
  have hrw:b.aS.dP[lv]?=some (rowOf b lv):=by simp[rowOf,hlv]
  have hun:b.cJ[u]?=some (wE b u):=by simp[wE,hu]
  have f3:=bd (f:=o8.enc) (w:=2) (λ_=>rfl) hun;have hul:=Ju b.cJ;have q3:2<=b.cJ.length*2-u*2:=by omega
  have hX:=λJ=>Vo (J:=J) (u:=wE b u) (s:=fB (rowOf b lv) (nH b r w)) (huk _ (aj hun))
  rw[bw he];have hs0:uW b w lv u e.m=if(nH b r w).valid=true then Ke (wE b u) (fB (rowOf b lv) (nH b r w))else 1:=by simp[uW,hr]
  cases c1:(nH b r w).valid with
  |false =>
   have hF:=λJ=>TU (J:=J) ht hrw c1
   have hM:=λJ=>oR (J:=J) (e:=1) (by decide)
   have hs1:uW b w lv u e.m=1:=by rw[hs0,c1];rfl
   simp only[tx.enc,nH,List.replicate]at hF;simp[h1,hfl,Bk.bF,Bk.cells,ej htn,ej hp,hP,nP,f1,f2,w1,t1,q1,q2,hyl,hw,hF,hM,hs1,ll,Ho,bT]
  |true =>
   have hF:=λJ=>YZ (J:=J) ht hrw c1
   simp only[tx.enc,nH]at hF;have hs1:uW b w lv u e.m=Ke (wE b u) (fB (rowOf b lv) (nH b r w)):=by rw[hs0,c1];rfl
   have hv1:o7 b w lv u e.m=uC (wE b u).parts (fB (rowOf b lv) (nH b r w)).m:=by simp[o7,hr]
   by_cases c2:Ke (wE b u) (fB (rowOf b lv) (nH b r w))=0
   .have hacc:=pO acc;have hta:(fM acc aP).take i=fM acc aP:=ah (by omega);have hroom:(i+1)*8<=room:=by unfold room;omega
    have ih:=Q7 (F:=F) (er:=er) (price:=price) ht hok hrun hp hl hw hlv hu huk m (i+1) (acc++[o7 b w lv u e.m]) (by omega) (by simp[ha]);have fin:∀x e' J',Ho b (F::b.bF J.length er::J) w lv u price (acc++[o7 b w lv u e.m]) (ls.drop (i+1)) x e' J'->Ho b (F::b.bF J.length er::J) w lv u price acc (e::ls.drop (i+1)) x e' J':=λx e' J' hh=>by
     have hz:uW b w lv u e.m=0:=by rw[hs1,c2]
     simp only[Ho,bT,hz,if_true,aM,cp,dk]at hh ⊢;exact hh
    unfold Z5 at hX;rw[if_pos c2,<- hv1]at hX;simp only[o8.enc,tx.enc,fB,nH]at hX f3;simp[h1,hfl,h4,Bk.bF,Bk.cells,ej htn,ej hp,hP,nP,f1,f2,w1,t1,q1,q2,hyl,hw,hF,ll,parts,hu,f3,hul,q3,hX,hroom,hacc,hta,ha];exact WL.to ih (by simp) (by simp[Bk.bF,Bk.cells,ej htn,ej hp]) fin
   .unfold Z5 at hX;rw[if_neg c2]at hX;have hM:=λJ=>oR (J:=J) c2
    have hz:uW b w lv u e.m≠0:=by rw[hs1];exact c2
    rw[<- hs1]at hX hM;simp only[o8.enc,tx.enc,fB,nH]at hX f3;simp[h1,hfl,Bk.bF,Bk.cells,ej htn,ej hp,hP,nP,f1,f2,w1,t1,q1,q2,hyl,hw,hF,ll,parts,hu,f3,hul,q3,hX,hM,hz,Ho,bT]
end Go.Proofs.YtpapbbojmclkgaaGreatDoor
