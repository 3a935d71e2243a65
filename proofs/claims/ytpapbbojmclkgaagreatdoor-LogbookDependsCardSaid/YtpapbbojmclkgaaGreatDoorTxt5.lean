import Derived.Test.YtpapbbojmclkgaaGreatDoorTxt4
set_option linter.all false
set_option maxRecDepth 100000
namespace Go.Proofs.YtpapbbojmclkgaaGreatDoor
open Go Go.Abs Go.Trem
variable {J:SK}
theorem abr{lv:Nat}{G:List Abs.aG}(hsg:eT J lv=some G){R:List cH}{l:List Ev}{now may sure:Int}{j:Nat}{r:cH}(hG1:G[1]?=some (.cells R.length (fM R cH.enc)))(hG2:G[2]?=some (.cells l.length (fM l Ev.enc)))(hl:l.length<=200)(hs:∀e∈l,e.sp.length<=2000)(hr:r.ok=true)(hn:bC now 0 1000000=true):∀(m i:Nat) (a b:Nat),i+m=l.length->a+m<=200->b+m<=200 ->
  WL T [1,2,6,7,10,11,12,13,36,37,38,44,45,46] false ja [(1,.sl lv 2 l.length 0 l.length 2),(2,iI now),(6,.int .u8 may),(7,.int .u8 sure),(10,.own 0 r.enc),(11,iI a),(12,iI b),(13,.fn 119 [.agg r.enc] []),
    (36,.sl lv 1 R.length 0 R.length 10),(37,iI R.length),(38,iI j),(44,.sl lv 2 l.length 0 l.length 2),(45,iI l.length),(46,iI i)] J
   (λx e J'=>x=.exit 3/\J'=J/\get e 1=.sl lv 2 l.length 0 l.length 2/\get e 2=iI now/\get e 6=.int .u8 may/\get e 7=.int .u8 sure/\get e 10=.own 0 r.enc/\get e 11=iI (a+zz (tj r now) (l.drop i):Nat)/\get e 12=iI (b+zz (mA r now) (l.drop i):Nat) /\
    get e 36=.sl lv 1 R.length 0 R.length 10/\get e 37=iI R.length/\get e 38=iI j)
 |0,i,a,b,hi,ha,hb=>by
  refine aA ja.eq_1 ?_;have h1:¬i<l.length:=by omega
  have h2:l.drop i=[]:=by simp;omega
  simp[h1,h2,zz]
 |m+1,i,a,b,hi,ha,hb=>by
  refine aA ja.eq_1 ?_;have g1:i<l.length:=by omega
  obtain⟨e,he⟩:=gE g1;have a1:=bd (f:=Ev.enc) (w:=2) (λ_=>rfl) he;have al:(fM l Ev.enc).length=l.length*2:=b8 (f:=Ev.enc) (w:=2) (λ_=>rfl) l;have aq:2<=l.length*2-i*2:=by omega
  have w1:=cg g1;have hr':=zl.1 hr;have hn':=aP.1 hn;have hse:=hs e (aj he);have w2:=cb (n:=now-r.uY);have w3:=cb (n:=(a:Int)+1);have w4:=cb (n:=(b:Int)+1);have hC:∀J,Cl 120 [lF e.sp pV.enc,.fn 119 [.agg r.enc] []] (.bool (mu e.sp r.Jb)) J:=λJ =>
   contains_of Q6 lA mV (by omega) (.fn λs _ J=>Ou)
  have hA:=λJ=>@Lw J e.sp r.Jb (.fn 119 [.agg r.enc] []) (.fn λs _ J=>Ou) rfl (by omega)
  simp only[cH.enc]at hC hA;have d1:zz (tj r now) (l.drop i)=zz (tj r now) (l.drop (i+1))+(if tj r now e then 1 else 0):=by rw[bx he];rfl
  have d2:zz (mA r now) (l.drop i)=zz (mA r now) (l.drop (i+1))+(if mA r now e then 1 else 0):=by rw[bx he];rfl
  have ih:=λa b=>abr hsg hG1 hG2 (R:=R) (may:=may) (sure:=sure) (j:=j) hl hs hr hn m (i+1) a b (by omega)
  rw[d1,d2];by_cases c1:now<e.tick
  .have e1:tj r now e=false:=by simp[tj,cH.act];omega
   have e2:mA r now e=false:=by simp[mA,cH.act];omega
   simp[g1,a1,al,aq,hsg,hG2,w1,c1,e1,e2];exact WL.to (ih a b (by omega) (by omega)) (by simp) rfl λx e J' hh=>by simpa[e1,e2]using hh
  by_cases c2:e.tick<=now-r.uY
  .have e1:tj r now e=false:=by simp[tj,cH.act];omega
   have e2:mA r now e=false:=by simp[mA,cH.act];omega
   simp[g1,a1,al,aq,hsg,hG2,w1,w2,c1,c2,e1,e2];exact WL.to (ih a b (by omega) (by omega)) (by simp) rfl λx e J' hh=>by simpa[e1,e2]using hh
  have act:r.act now e=true:=by simp[cH.act];omega
  have e1:tj r now e=mu e.sp r.Jb:=by simp[tj,act]
  have e2:mA r now e=dj e.sp r.Jb:=by simp[mA,act]
  rw[e1,e2];have k1:∀u v:Nat,u+1+v=u+(v+1):=by intro u v;omega
  cases c3:mu e.sp r.Jb<;>cases c4:dj e.sp r.Jb<;>simp only[c3,c4]at hC hA
  .simp[g1,a1,al,aq,hsg,hG2,w1,w2,c1,c2,hC,hA];exact WL.to (ih a b (by omega) (by omega)) (by simp) rfl λx e J' hh=>by simpa[c3,c4]using hh
  .simp[g1,a1,al,aq,hsg,hG2,w1,w2,w4,c1,c2,hC,hA];exact WL.to (ih a (b+1) (by omega) (by omega)) (by simp) rfl λx e J' hh=>by simp only[k1]at hh;simpa[c3,c4]using hh
  .simp[g1,a1,al,aq,hsg,hG2,w1,w2,w3,c1,c2,hC,hA];exact WL.to (ih (a+1) b (by omega) (by omega)) (by simp) rfl λx e J' hh=>by simp only[k1]at hh;simpa[c3,c4]using hh
  .simp[g1,a1,al,aq,hsg,hG2,w1,w2,w3,w4,c1,c2,hC,hA];exact WL.to (ih (a+1) (b+1) (by omega) (by omega)) (by simp) rfl λx e J' hh=>by simp only[k1]at hh;simpa[c3,c4]using hh
theorem SG{lv:Nat}{G:List Abs.aG}(hsg:eT J lv=some G){R:List cH}{l:List Ev}{now:Int}(hR:R.length<=20)(hG1:G[1]?=some (.cells R.length (fM R cH.enc)))(hG2:G[2]?=some (.cells l.length (fM l Ev.enc)))(hl:l.length<=200)(hs:∀e∈l,e.sp.length<=2000)(hr:∀r∈R,r.ok=true)(hn:bC now 0 1000000=true):∀(m j:Nat) (may sure:Int),j+m=R.length ->
  WL T [1,2,6,7,36,37,38] false eR [(1,.sl lv 2 l.length 0 l.length 2),(2,iI now),(6,.int .u8 may),(7,.int .u8 sure),(36,.sl lv 1 R.length 0 R.length 10),(37,iI R.length),(38,iI j)] J
   (λx e J'=>x=.exit 1/\J'=J/\get e 6=.int .u8 (vq (λr=>tj r now) l (R.drop j) may)/\get e 7=.int .u8 (vq (λr=>mA r now) l (R.drop j) sure))
 |0,j,may,sure,hj=>by
  refine aA eR.eq_1 ?_;have h1:¬j<R.length:=by omega
  have h2:R.drop j=[]:=by simp;omega
  simp[h1,h2,vq]
 |m+1,j,may,sure,hj=>by
  refine aA eR.eq_1 ?_;have g1:j<R.length:=by omega
  obtain⟨r,hrj⟩:=gE g1;have a1:=bd (f:=cH.enc) (w:=10) (λ_=>rfl) hrj;have al:(fM R cH.enc).length=R.length*10:=b8 (f:=cH.enc) (w:=10) (λ_=>rfl) R;have aq:10<=R.length*10-j*10:=by omega
  have w1:=cg g1;have hrr:=hr r (aj hrj);have ih:=λmay sure=>SG hsg hR hG1 hG2 hl hs hr hn m (j+1) may sure (by omega)
  rw[bx hrj];simp[g1,a1,al,aq,hsg,hG1];refine WL.to (abr hsg hG1 hG2 (J:=J) (R:=R) (l:=l) (now:=now) (may:=may) (sure:=sure) (j:=j) hl hs hrr hn l.length 0 0 0 (by omega) (by omega) (by omega)) (by simp) rfl ?_;rintro x e J' ⟨rfl,rfl,e1,e2,e6,e7,e10,e11,e12,e36,e37,e38⟩;simp only[aC,cq]at e11 e12;simp only[vq];by_cases c1:r.count<=zz (tj r now) l
  .by_cases c2:r.count<=zz (mA r now) l
   .simp[e1,e2,e6,e7,e10,e11,e12,e36,e37,e38,c1,c2,w1];exact WL.to (ih (max may r.M9) (max sure r.M9)) (by simp) rfl λx e J' hh=>by simpa[c1,c2]using hh
   .simp[e1,e2,e6,e7,e10,e11,e12,e36,e37,e38,c1,c2,w1];exact WL.to (ih (max may r.M9) sure) (by simp) rfl λx e J' hh=>by simpa[c1,c2]using hh
  .by_cases c2:r.count<=zz (mA r now) l
   .simp[e1,e2,e6,e7,e10,e11,e12,e36,e37,e38,c1,c2,w1];exact WL.to (ih may (max sure r.M9)) (by simp) rfl λx e J' hh=>by simpa[c1,c2]using hh
   .simp[e1,e2,e6,e7,e10,e11,e12,e36,e37,e38,c1,c2,w1];exact WL.to (ih may sure) (by simp) rfl λx e J' hh=>by simpa[c1,c2]using hh
theorem Oi{lv:Nat}{G:List Abs.aG}{R:List cH}{l:List Ev}{now:Int}(hsg:eT J lv=some G)(hG1:G[1]?=some (.cells R.length (fM R cH.enc)))(hG2:G[2]?=some (.cells l.length (fM l Ev.enc)))(hR:R.length<=9223372036854775807)(hl:l.length<=9223372036854775807)(hs:∀e∈l,e.sp.length<=9223372036854775807):
  Cl 76 [.sl lv 1 R.length 0 R.length 10,.sl lv 2 l.length 0 l.length 2,iI now] (if kZ R l now=0 then .cK [.int .u8 (Mm R l now),.int .u8 (N9 R l now),iI 0]else .cK [.int .u8 0,.int .u8 0,iI (kZ R l now)]) J:=by
 refine au ?_;have hlt:=zo hsg;have hne:¬J.length=lv:=by omega
 have hsg':eT ([]::J) lv=some G:=by simp[eT,hne,hsg]
 have hAR:=JO (T:=T) (enc:=cH.enc) (w:=10) (λ_=>rfl) (F:=G) (bi:=1) (v:=R.length) (l:=R) (p:=cH.ok) (fv:=.fn 115 [] []) (f:=114) (g:=150) (h:=149) (i:=191) rfl rfl rfl rfl hG1 hR (.fn λr _ J=>OB) rfl (J:=[]::J) hsg';have hAE:=JO (T:=T) (enc:=Ev.enc) (w:=2) (λ_=>rfl) (F:=G) (bi:=2) (v:=l.length) (l:=l) (p:=Ev.ok) (fv:=.fn 117 [] []) (f:=116) (g:=153) (h:=152) (i:=192) rfl rfl rfl rfl hG2 hl (.fn λr hr J=>Ov (hs r hr)) rfl (J:=[]::J) hsg';by_cases c1:20<R.length
 .have c1':(20:Int)<R.length:=by omega
  simp[kZ,c1,c1']
 have c1':¬(20:Int)<R.length:=by omega
 cases c2:dj R cH.ok
 .simp[kZ,c1,c1',hAR,c2]
 by_cases c3:200<l.length
 .have c3':(200:Int)<l.length:=by omega
  simp[kZ,c1,c1',hAR,c2,c3,c3']
 have c3':¬(200:Int)<l.length:=by omega
 cases c4:dj l Ev.ok
 .simp[kZ,c1,c1',hAR,c2,c3,c3',hAE,c4]
 cases c5:bC now 0 1000000
 .simp[kZ,c1,c1',hAR,c2,c3,c3',hAE,c4,iB,c5]
 have he:kZ R l now=0:=by simp[kZ,c1,c2,c3,c4,c5]
 rw[if_pos he];simp[c1',hAR,c2,c3',hAE,c4,iB,c5];refine WL.to (SG (J:=[]::J) (lv:=lv) (G:=G) hsg' (R:=R) (l:=l) (now:=now) (by omega) hG1 hG2 (by omega) ?_ (eP.1 c2) c5 R.length 0 0 0 (by omega)) (by simp) rfl ?_
 .intro e he;have:=eP.1 c4 e he;simp only[Ev.ok,af,aP]at this;omega
 .rintro x e J' ⟨rfl,rfl,e6,e7⟩;simp[e6,e7,Mm,N9]
end Go.Proofs.YtpapbbojmclkgaaGreatDoor
namespace Go.Book
open Go Go.Abs Go.Rock
def eZ(b:Bk):Int:=if Trem.kZ b.rules b.pZ b.aw.length=0 then Trem.Mm b.rules b.pZ b.aw.length else 0
def mH(b:Bk):Int:=if eZ b=0 then b.k0 else if eZ b=1 then b.k1 else b.k2
def jj(jt n:Int):Int:=if n<0 then -((-n*jt).tdiv 1000)else n
theorem PK{f:Trem.cH->Trem.Ev->Bool}{l:List Trem.Ev}:∀{R:List Trem.cH} {a:Int},(∀r∈R,r.ok=true)->0<=a/\a<=2->0<=Trem.vq f l R a/\Trem.vq f l R a<=2
 |[],a,_,h=>h
 |r::R,a,hr,h=>by
  have h1:=(Trem.zl.1 (hr r (by simp))).2.2.2.2;simp only[Trem.vq];refine PK (λr' h'=>hr r' (by simp[h'])) ?_;split
  .rcases h1 with h1 | h1<;>omega
  .exact h
theorem Er{b:Bk}:0<=eZ b/\eZ b<=2:=by
 unfold eZ;split
 .rename_i h;refine PK (λr hr=>?_) (by omega);unfold Trem.kZ at h;split at h
  .omega
  .split at h
   .omega
   .rename_i h2;exact eP.1 (by simpa using h2) r hr
 .omega
end Go.Book
namespace Go.Proofs.YtpapbbojmclkgaaGreatDoor
section
open Go Go.Abs Go.Rock Go.Book
variable {J:SK}
theorem Ot{b:Bk}{er:List Int}{S:SK}(h1:b.rules.length<=1000000)(h2:b.pZ.length<=1000000)(h3:∀e∈b.pZ,e.sp.length<=1000000)(hs:eT S J.length=some (b.bF J.length er)):
  Cl 43 [.ref J.length 6 0 0] (.int .u8 (eZ b)) S:=by
 refine au ?_;have hlt:=zo hs;have hne:¬S.length=J.length:=by omega
 have h:=Oi (J:=[]::S) (lv:=J.length) (G:=b.bF J.length er) (R:=b.rules) (l:=b.pZ) (now:=b.aw.length) (by simp[eT,hne,hs]) (by simp[Bk.bF]) (by simp[Bk.bF]) (by omega) (by omega) (λe he=>by have:=h3 e he;omega);have hc6:(b.bF J.length er)[6]?=some (.cells 0 (b.cells J.length)):=by simp[Bk.bF]
 unfold eZ;by_cases hc:Trem.kZ b.rules b.pZ b.aw.length=0
 .rw[if_pos hc]at h;simp[hne,hs,hc6,Bk.cells,h,hc]
 .rw[if_neg hc]at h;simp[hne,hs,hc6,Bk.cells,h,hc]
def CG(J:SK)(bp X:D)(jt:Int)(acc rest:List Int)(x:Abs.Exit)(e:Env)(J':SK):Prop :=
 if dj rest (λn=>bC n (-100000) 100000)=true then
  x=.exit 0/\get e 0=bp/\get e 6=X/\get e 8=.sl J.length 0 (acc++rest.map (jj jt)).length 0 (acc++rest.map (jj jt)).length 1/\J'=[.cells (acc++rest.map (jj jt)).length (fM (acc++rest.map (jj jt)) aO)]::J
 else x=.fu (rf 2)/\∃s,J'=s::J
theorem MW{l:List Int}{jt:Int}(hk:0<=jt/\jt<=1000)(hl:l.length<=1000000){bp X:D}(hb:bp.calm=bp)(hx:X.calm=X):∀(m i:Nat) (acc:List Int),i+m=l.length->acc.length=i ->
  WL T [0,6,7,8,49,50,51] false fY [(0,bp),(6,X),(7,iI jt),(8,.sl J.length 0 i 0 i 1),(49,lF l aO),(50,iI l.length),(51,iI i)] ([.cells i (fM acc aO)]::J)
   (CG J bp X jt acc (l.drop i))
 |0,i,acc,hi,ha=>by
  refine aA fY.eq_1 ?_;obtain rfl:i=l.length:=by omega
  have h5:l.drop l.length=[]:=an (by omega);simp[h5,CG,ha,hb,hx,dj]
 |m+1,i,acc,hi,ha=>by
  refine aA fY.eq_1 ?_;have hlt:i<l.length:=by omega
  obtain⟨n,hn⟩:=gE hlt;have h4:=cg hlt;have h5:=bx hn;have a1:=bd (f:=aO) (w:=1) (λ_=>rfl) hn;simp only[aO,bS]at a1;rw[h5];have hr:(i+1)*8<=room:=by unfold room;omega
  cases hc:bC n (-100000) 100000 with
  |false =>
   simp[hlt,a1,hb,hx,ej,hc,dM,CG,dj]
  |true =>
   have hn2:=aP.1 hc;have hcl:(fM acc aO).length=i:=by simp[b8 (f:=aO) (w:=1) (λ_=>rfl),ha]
   have ht:(fM acc aO).take i=fM acc aO:=ah (by omega);have ih:=MW hk hl hb hx m (i+1) (acc++[jj jt n]) (by omega) (by simp[ha]);have fin:∀x e J',CG J bp X jt (acc++[jj jt n]) (l.drop (i+1)) x e J'->CG J bp X jt acc (n::l.drop (i+1)) x e J':=λx e J' hh=>by
    simp only[CG,dj,jm,hc,Bool.true_and,aM,cM,dp]at hh ⊢;exact hh
   by_cases hneg:n<0
   .have e0:=cb (n := -n);have p1:0 <= -n*jt:=bA (by omega) hk.1;have p2 : -n*jt<=100000*1000:=cp (by omega) hk.2 hk.1 (by omega);have e1:=cb (n := -n*jt);have e2:(-n*jt).tdiv 1000 = -n*jt / 1000:=aQ p1;have e3:=cb (n := -n*jt / 1000);have e4:=cb (n := -(-n*jt / 1000));have e5:jj jt n = -(-n*jt / 1000):=by rw[jj,if_pos hneg,e2]
    rw[e5]at ih fin;generalize hq : -n*jt=q at e1 e2 e3 e4 ih fin;simp[hlt,a1,hb,hx,ej,hc,cQ,hneg,e0,hq,e1,e2,e3,e4,hr,h4,hcl,ht];exact WL.to ih (by simp) (by simp) fin
   .have e5:jj jt n=n:=by rw[jj,if_neg hneg]
    rw[e5]at ih fin;simp[hlt,a1,hb,hx,ej,hc,cQ,hneg,hr,h4,hcl,ht];exact WL.to ih (by simp) (by simp) fin
theorem KD(l:List (List Int)):(fM l pE).length=l.length:=by have:=b8 (f:=pE) (w:=1) (λ_=>rfl) l;omega
theorem Jt{bs:List Abs.aG}:dr T (.call true 213 [.bz] (bs::J))=some (.val (.sl J.length (bs.length+1) 0 0 0 1) ((bs++[.cells 0 [],.cells 0 []])::J)):=by
 refine vy rfl rfl rfl ?_;simp
theorem Lz{bs:List Abs.aG}{l:List (List Int)}(hne:l≠[])(hl:l.length<=1000000):dr T (.call true 213 [lF l pE] (bs::J)) =
  some (.val (.sl J.length (bs.length+1) 1 0 l.length 1) ((bs++[.cells 0 [],.cells 1 (fM l pE)])::J)):=by
 refine vy rfl rfl rfl ?_;have h7:l.length*24<=room:=by unfold room;omega
 simp[hne,KD,h7]
theorem Rj:IY=pE:=rfl
structure Sz(b:Bk):Prop where
 dP:b.aS.dP.length<=1000000000
 av:b.aS.av.length<=1000000
 ms:∀e∈b.ai,e.m.name.length<=1000000000/\e.m.dz.length<=1000000000
theorem UU(b:bV)(m:bZ)(aw:List (List Int)):∃x y,BO b m aw=.agg [x,y]/\x.clean=true/\y.clean=true:=by
 unfold BO;split
 .split
  .refine⟨_,_,rfl,?_,?_⟩<;>simp[fB (f:=lq) (λs=>by simp[lq,fB (f:=Rock.aG.enc) (λ_=>by simp[D.clean])])]
  .exact⟨_,_,rfl,rfl,rfl⟩
 .exact⟨_,_,rfl,rfl,rfl⟩
theorem MV{b:Bk}{er:List Int}{ls:List ec}{aw:List (List Int)}(ht:b.aS.dP≠[])(hz:Sz b)(hm:∀e∈ls,e∈b.ai)(hl:ls.length<=1000000)(hp:aw.length<=1000000000)(hpl:∀l∈aw,l.length<=1000000000){S:SK}(hs:eT S J.length=some (b.bF J.length er)):∀(m i:Nat),i+m=ls.length ->
  WL T [0,11,80,81,82] false fZ [(0,.ref J.length 6 0 0),(11,lF aw pE),(80,lF ls ec.enc),(81,iI ls.length),(82,iI i)] S
   (λx e J'=>J'=S/\if bU (λe=>lH b.aS e.m aw) (ls.drop i)=0 then x=.exit 2/\get e 0=.ref J.length 6 0 0/\get e 11=lF aw pE else x=.fu (rf (bU (λe=>lH b.aS e.m aw) (ls.drop i))))
 |0,i,hi=>by
  refine aA fZ.eq_1 ?_;have h1:¬i<ls.length:=by omega
  have h2:ls.drop i=[]:=an (by omega);simp[h1,h2,bU]
 |m+1,i,hi=>by
  refine aA fZ.eq_1 ?_;have h1:i<ls.length:=by omega
  obtain⟨e,he⟩:=gE h1;have hem:=hm e (aj he);obtain⟨k1,k2⟩:=hz.ms e hem;have hfl:=bd (f:=ec.enc) (w:=4) (λ_=>rfl) he;have hd:=bx he;have h4:=cg h1;have hlt:=zo hs;have hne:S≠[]:=by intro h;subst h;simp at hlt
  have hP:=Vm (J:=S) (b:=b.aS) (m:=e.m) (aw:=aw) (wq:=nl bH.enc b.aS.av) ku hz.dP (by have:=hz.av;omega) k1 k2 hp hpl hne;have hc6:(b.bF J.length er)[6]?=some (.cells 0 (b.cells J.length)):=by simp[Bk.bF]
  obtain⟨px,py,hx,hx1,hx2⟩:=UU b.aS e.m aw;rw[hx,Rj]at hP;have ih:=MV ht hz hm hl hp hpl hs m (i+1) (by omega);have hlt':=ei (f:=Rw.enc) ht;rw[hd,bU];by_cases hc:lH b.aS e.m aw=0
  .rw[hc]at hP;simp[h1,hfl,h4,hs,hc6,Bk.cells,hlt',hP,nQ,hc];exact WL.to ih (by simp) rfl λx e' J' hh=>by simpa[hc]using hh
  .have hM:=oV (J:=S) hc;simp[h1,hfl,hs,hc6,Bk.cells,hlt',hP,hM,hc,rf]
def IM(b:Bk)(aw:List (List Int)):Bk:={b with aw:=aw }
def dC(b:Bk)(l:List Int):List (List Int):=b.aw++[l.map (jj (mH b))]
def mz(b:Bk)(l:List Int):Bk×Int :=
 if cc b.ai=[]then(b,8)else if b.aw.length<200 then(if l.length=b.aS.av.length then(if dj l (λn=>bC n (-100000) 100000)=true then
  (if bU (λe=>lH b.aS e.m (dC b l)) (cc b.ai)=0 then(IM b (dC b l),0)else(b,bU (λe=>lH b.aS e.m (dC b l)) (cc b.ai)))else(b,2))else(b,1))else(b,3)
theorem Pl{f:D->SK->D×SK}{a b:List D}{S:SK}:cF.frzL f (a++b) S=((cF.frzL f a S).1++(cF.frzL f b (cF.frzL f a S).2).1,(cF.frzL f b (cF.frzL f a S).2).2):=by
 induction a generalizing S with
 |nil=>simp
 |cons d a ih=>simp[ih]
theorem WZ{l:List (List Int)}:D.bf (fM l pE)=true:=fB (f:=pE) (λx=>by simp[pE,D.clean,mw]) l
theorem L8{S:SK}{L v n:Nat}(hS:S.length=L)(hL:0<L){aw:List (List Int)}(hn:n=aw.length+1){r:List Int}{M:Abs.aG}:
  cF 0 16 (.sl L 2 v 0 n 1) ([.cells r.length (fM r aO),M,.cells v (fM aw pE++[.sl L 0 r.length 0 r.length 1])]::S)=(.bT n (fM (aw++[r]) pE),[.dead,M,.dead]::S):=by
 have hne:S≠[]:=by intro h;subst h;simp at hS;omega
 subst hn;have hc:cells? ([Abs.aG.cells r.length (fM r aO),M,.cells v (fM aw pE++[.sl L 0 r.length 0 r.length 1])]::S) L 2 v=some (fM aw pE++[.sl L 0 r.length 0 r.length 1]):=by simp[hS]
 rw[Xi hL hc];have h3:¬L<=0:=by omega
 have h1:=FP (l:=0) (n:=15) (l':=L) (i:=0) (v:=r.length) (off:=0) (m:=r.length) (w:=1) (J:=[Abs.aG.cells r.length (fM r aO),M,.dead]::S) (cs:=fM r aO) h3 (by simp[hS]) (by omega);have ht:(fM r aO).take r.length=fM r aO:=ah (by rw[oE];omega);have hp:=KD aw;have ht2:(fM aw pE).take (aw.length+1)=fM aw pE:=ah (by omega);simp[hS,Pl,WZ,h1,ht,hp,ht2,mw,pE,List.take_append]
theorem ZE{F:List Abs.aG}{b:Bk}{er:List Int}{nm:List UInt8}{l:List Int}{b':Bk}{e:Int}(ht:b.aS.dP≠[])(hz:Sz b)(hll:l.length<=1000000)(hml:b.ai.length<=40)(h1:b.rules.length<=1000000)(h2:b.pZ.length<=1000000)(h3:∀e∈b.pZ,e.sp.length<=1000000)(hk:Trem.fx b.k0 b.k1 b.k2=true)(hpl:∀l∈b.aw,l.length<=1000000000)(hd:mz b l=(b',e))(he:e=0):
  dr T (.call false 169 [.ref J.length 6 0 0,.str nm,lF l aO] (F::b.bF J.length er::J))=some (.val (.cK []) (F::b'.bF J.length er::J)):=by
 refine fy rfl rfl rfl (by simp) ?_;unfold mz at hd;split at hd
 case isTrue=>cases hd;cases he
 rename_i c1;split at hd
 case isFalse=>cases hd;cases he
 rename_i c2;split at hd
 case isFalse=>cases hd;cases he
 rename_i c3;split at hd
 case isFalse=>cases hd;cases he
 rename_i c4;split at hd
 case isFalse=>cases hd;rename_i h;exact absurd he h
 rename_i c5;cases hd;obtain⟨kp0,kp,hkp,hkp2,hkp3⟩:∃c kp:Int,eZ b=c/\mH b=kp/\((c=0/\kp=b.k0)\/(c=1/\kp=b.k1)\/(c=2/\kp=b.k2)):=by
  refine⟨_,_,rfl,rfl,?_⟩;have:=Er (b:=b);unfold mH;split
  .rename_i h;exact .inl ⟨h,rfl⟩
  .split
   .rename_i h;exact .inr (.inl ⟨h,rfl⟩)
   .refine .inr (.inr ⟨by omega,rfl⟩)
 have hkb:0<=kp/\kp<=1000:=by
  simp only[Trem.fx,af,az]at hk;rcases hkp3 with⟨_,rfl⟩ | ⟨_,rfl⟩ | ⟨_,rfl⟩<;>omega
 have q1:0<(cc b.ai).length:=aI.2 c1;have q2:(b.aw.length:Int)<200:=by omega
 have hC:=λS=>Ot (J:=J) (b:=b) (er:=er) (S:=S) h1 h2 h3
 try simp only[Cl]at hC
 have hLf:=λS=>Hn (J:=J) (b:=b) (er:=er) (S:=S) (by omega)
 try simp only[lF,Cl]at hLf
 have hR:=MW (J:=F::b.bF J.length er::J) hkb hll (bp:=.ref J.length 6 0 0) (X:=lF (cc b.ai) ec.enc) rfl rfl l.length 0 [] (by omega) rfl
 try simp only[lF]at hR
 rw[aC]at hR;rw[hkp]at hC;simp only[Bk.bF,Bk.cells]at hC hLf;have hw:(b.aS.av.length:Int)=(l.length:Int):=by omega
 rcases hkp3 with⟨rfl,e2⟩ | ⟨rfl,e2⟩ | ⟨rfl,e2⟩
 all_goals
  subst e2;simp[Bk.bF,Bk.cells,hLf,q1,q2,hw,hC,cQ];refine WL.to hR (by simp) (by simp[Bk.bF,Bk.cells]) ?_;intro x e J' hq;simp only[CG,if_pos c4,List.nil_append]at hq;obtain⟨rfl,g0,g6,g8,rfl⟩:=hq;have hnp:dC b l=b.aw++[l.map (jj (mH b))]:=rfl;rw[hkp2]at hnp;rw[hnp]at c5 ⊢;generalize hrs:l.map (jj _)=rs at g8 c5 ⊢;have hrl:rs.length=l.length:=by rw[<- hrs];simp
  have⟨hroom,h24⟩:(b.aw.length+1)*24<=room/\24<=room:=by unfold room;omega
  have hpel:=KD b.aw;have htk:(fM b.aw pE).take b.aw.length=fM b.aw pE:=ah (by omega);have hfr:=λS v hS=>L8 (S:=S) (L:=J.length+1+1) (v:=v) (n:=b.aw.length+1) hS (by omega) (aw:=b.aw) rfl (r:=rs) (M:=.cells 0 [])
  have hLp:=MV (J:=J) (b:=b) (er:=er) (ls:=cc b.ai) (aw:=b.aw++[rs]) ht hz (λe he=>(cS.1 he).1) (by have:=fD (λe:ec=>e.left) b.ai;simp only[cc];omega) (by simp;omega) (by
   intro r hr;rcases aT.1 hr with hr | hr
   .exact hpl r hr
   .simp at hr;subst hr;omega) (S:=[.dead,.cells 0 [],.dead]::F::b.bF J.length er::J) (by simp[eT]) (cc b.ai).length 0 (by omega)
  try simp only[lF]at hLp
  rw[aC]at hLp;have hcl:∀k,(D.bT k (fM b.aw pE++pE rs)).clean=true:=λk=>by simp[EV,WZ,pE,mw]
  have hcl0:∀k,(D.bT k (pE rs)).clean=true:=λk=>by simp[pE,mw]
  have hnl2:=ei (f:=pE) (l:=b.aw++[rs]) (by simp)
  try simp only[lF]at hnl2
  simp only[aV,aE,aY,oI,db,mY,da]at hnl2;by_cases hp0:b.aw=[]
  .have hnl:nl pE b.aw=.bz:=by simp[nl,hp0]
   have hfr':=hfr;simp only[hp0,aY,mY,List.nil_append,cq]at hfr';simp[g0,g6,g8,Bk.bF,Bk.cells,hnl,Jt,h24,hfr'];refine WL.to hLp (by simp[hp0]) (by simp[Bk.bF,Bk.cells,hnl]) ?_;rintro x e J' ⟨rfl,hh⟩;rw[c5,if_pos rfl]at hh;obtain⟨rfl,j0,j11⟩:=hh;simp[j0,j11,Bk.bF,Bk.cells,IM,hnl,hnl2,hcl]
  .simp[g0,g6,g8,Bk.bF,Bk.cells,ei hp0,Lz hp0 (by omega:b.aw.length<=1000000),hroom,hpel,htk,hfr];refine WL.to hLp (by simp) (by simp[Bk.bF,Bk.cells,ei hp0]) ?_;rintro x e J' ⟨rfl,hh⟩;rw[c5,if_pos rfl]at hh;obtain⟨rfl,j0,j11⟩:=hh;simp[j0,j11,Bk.bF,Bk.cells,IM,ei hp0,hnl2,hcl]
theorem V9{F:List Abs.aG}{b:Bk}{er:List Int}{nm:List UInt8}{l:List Int}{b':Bk}{e:Int}(ht:cc b.ai≠[]->b.aS.dP≠[])(hz:Sz b)(hll:l.length<=1000000)(hml:b.ai.length<=40)(h1:b.rules.length<=1000000)(h2:b.pZ.length<=1000000)(h3:∀e∈b.pZ,e.sp.length<=1000000)(hk:Trem.fx b.k0 b.k1 b.k2=true)(hpl:∀l∈b.aw,l.length<=1000000000)(hd:mz b l=(b',e))(he:e≠0):
  dr T (.call false 169 [.ref J.length 6 0 0,.str nm,lF l aO] (F::b.bF J.length er::J))=some (.fu (rf e) (F::b.bF J.length er::J)):=by
 refine dX rfl rfl rfl ?_;have hLf:=λS=>Hn (J:=J) (b:=b) (er:=er) (S:=S) (by omega)
 try simp only[lF,Cl]at hLf
 simp only[Bk.bF,Bk.cells]at hLf;unfold mz at hd;split at hd
 case isTrue c1 =>
  cases hd;simp[Bk.bF,Bk.cells,hLf,c1,dM,D.clean,rf]
 rename_i c1;have ht:=ht c1;have q1:0<(cc b.ai).length:=aI.2 c1;split at hd
 case isFalse c2 =>
  cases hd;have q2:¬(b.aw.length:Int)<200:=by omega
  simp[Bk.bF,Bk.cells,hLf,q1,q2,cQ,dM,D.clean,rf]
 rename_i c2;have q2:(b.aw.length:Int)<200:=by omega
 split at hd
 case isFalse c3 =>
  cases hd;have q3:((l.length:Int) == (b.aS.av.length:Int))=false:=by simp;omega
  simp[Bk.bF,Bk.cells,hLf,q1,q2,q3,cQ,dM,D.clean,rf]
 rename_i c3;obtain⟨kp0,kp,hkp,hkp2,hkp3⟩:∃c kp:Int,eZ b=c/\mH b=kp/\((c=0/\kp=b.k0)\/(c=1/\kp=b.k1)\/(c=2/\kp=b.k2)):=by
  refine⟨_,_,rfl,rfl,?_⟩;have:=Er (b:=b);unfold mH;split
  .rename_i h;exact .inl ⟨h,rfl⟩
  .split
   .rename_i h;exact .inr (.inl ⟨h,rfl⟩)
   .refine .inr (.inr ⟨by omega,rfl⟩)
 have hkb:0<=kp/\kp<=1000:=by
  simp only[Trem.fx,af,az]at hk;rcases hkp3 with⟨_,rfl⟩ | ⟨_,rfl⟩ | ⟨_,rfl⟩<;>omega
 have hC:=λS=>Ot (J:=J) (b:=b) (er:=er) (S:=S) h1 h2 h3
 try simp only[Cl]at hC
 have hR:=MW (J:=F::b.bF J.length er::J) hkb hll (bp:=.ref J.length 6 0 0) (X:=lF (cc b.ai) ec.enc) rfl rfl l.length 0 [] (by omega) rfl
 try simp only[lF]at hR
 rw[aC]at hR;rw[hkp]at hC;simp only[Bk.bF,Bk.cells]at hC;have hw:(b.aS.av.length:Int)=(l.length:Int):=by omega
 split at hd
 case isFalse c4 =>
  cases hd;have c4':¬dj l (λn=>bC n (-100000) 100000)=true:=c4;rcases hkp3 with⟨rfl,e2⟩ | ⟨rfl,e2⟩ | ⟨rfl,e2⟩
  all_goals
   subst e2;simp[Bk.bF,Bk.cells,hLf,q1,q2,hw,hC,cQ];refine WL.to hR (by simp) (by simp[Bk.bF,Bk.cells]) ?_;intro x e J' hq;simp only[CG,if_neg c4']at hq;obtain⟨rfl,s,rfl⟩:=hq;simp[Bk.bF,Bk.cells,D.clean,rf]
 rename_i c4;split at hd
 case isTrue=>cases hd;exact absurd rfl he
 rename_i c5;cases hd;have hM:=λS=>oV (J:=S) c5
 have he':=c5;rcases hkp3 with⟨rfl,e2⟩ | ⟨rfl,e2⟩ | ⟨rfl,e2⟩
 all_goals
  subst e2;simp[Bk.bF,Bk.cells,hLf,q1,q2,hw,hC,cQ];refine WL.to hR (by simp) (by simp[Bk.bF,Bk.cells]) ?_;intro x e J' hq;simp only[CG,if_pos c4,List.nil_append]at hq;obtain⟨rfl,g0,g6,g8,rfl⟩:=hq;have hnp:dC b l=b.aw++[l.map (jj (mH b))]:=rfl;rw[hkp2]at hnp;rw[hnp]at c5 ⊢;generalize hrs:l.map (jj _)=rs at g8 c5 ⊢;have hrl:rs.length=l.length:=by rw[<- hrs];simp
  have⟨hroom,h24⟩:(b.aw.length+1)*24<=room/\24<=room:=by unfold room;omega
  have hpel:=KD b.aw;have htk:(fM b.aw pE).take b.aw.length=fM b.aw pE:=ah (by omega);have hfr:=λS v hS=>L8 (S:=S) (L:=J.length+1+1) (v:=v) (n:=b.aw.length+1) hS (by omega) (aw:=b.aw) rfl (r:=rs) (M:=.cells 0 [])
  have hLp:=MV (J:=J) (b:=b) (er:=er) (ls:=cc b.ai) (aw:=b.aw++[rs]) ht hz (λe he=>(cS.1 he).1) (by have:=fD (λe:ec=>e.left) b.ai;simp only[cc];omega) (by simp;omega) (by
   intro r hr;rcases aT.1 hr with hr | hr
   .exact hpl r hr
   .simp at hr;subst hr;omega) (S:=[.dead,.cells 0 [],.dead]::F::b.bF J.length er::J) (by simp[eT]) (cc b.ai).length 0 (by omega)
  try simp only[lF]at hLp
  rw[aC]at hLp;have hcl:∀k,(D.bT k (fM b.aw pE++pE rs)).clean=true:=λk=>by simp[EV,WZ,pE,mw]
  have hcl0:∀k,(D.bT k (pE rs)).clean=true:=λk=>by simp[pE,mw]
  have hnl2:=ei (f:=pE) (l:=b.aw++[rs]) (by simp)
  try simp only[lF]at hnl2
  simp only[aV,aE,aY,oI,db,mY,da]at hnl2;generalize herr:bU (λe=>lH b.aS e.m (b.aw++[rs])) (cc b.ai)=err at c5 ⊢;have hrc:(D.ui 200 (.agg [iI err])).clean=true:=rfl;by_cases hp0:b.aw=[]
  .have hnl:nl pE b.aw=.bz:=by simp[nl,hp0]
   have hfr':=hfr;simp only[hp0,aY,mY,List.nil_append,cq]at hfr';simp[g0,g6,g8,Bk.bF,Bk.cells,hnl,Jt,h24,hfr'];refine WL.to hLp (by simp[hp0]) (by simp[Bk.bF,Bk.cells,hnl]) ?_;rintro x e J' ⟨rfl,hh⟩;rw[herr,if_neg c5]at hh;subst hh;simp[Bk.bF,Bk.cells,rf,hrc,hnl]
  .simp[g0,g6,g8,Bk.bF,Bk.cells,ei hp0,Lz hp0 (by omega:b.aw.length<=1000000),hroom,hpel,htk,hfr];refine WL.to hLp (by simp) (by simp[Bk.bF,Bk.cells,ei hp0]) ?_;rintro x e J' ⟨rfl,hh⟩;rw[herr,if_neg c5]at hh;subst hh;simp[Bk.bF,Bk.cells,rf,hrc,ei hp0]
end
section
open Go Go.Abs Go.Rock
variable {J:SK}
def CO(t:Int×Int×Int):List D:=[iI t.1,iI t.2.1,iI t.2.2]
theorem abi(l:List (Int×Int×Int)):(fM l CO).length=l.length*3:=b8 (f:=CO) (w:=3) (λ_=>rfl) l
theorem T8{b:bV}{x:tz}{n:Nat}(h:Bv b)(hw:0<=x.jY/\x.jY<=255):
  Cl 254 [.agg (bL b),.agg x.enc,iI n] (iI (eU b n x)) J:=by
 refine au ?_;have hs:=λJ=>Be (J:=J) h
 have hz:=h.sz;have hn:=h.n;have hwl:=h.av;have w1:=cb (n:=x.jY);have w2:=cb (n:=(b.n:Int)-1);have w3:=cb (n:=(b.av.length:Int)-1);unfold eU;cases c1:bC x.jY 1 4
 .simp[dQ,w1,c1]
 by_cases c2:x.lo < -10000000000
 .simp[dQ,w1,c1,c2]
 by_cases c3:x.hi<x.lo
 .simp[dQ,w1,c1,c2,c3]
 by_cases c4:10000000000<x.hi
 .simp[dQ,w1,c1,c2,c3,c4]
 have hsz:b.size=(b.n:Int):=hz;by_cases c5:x.jY=1
 .cases c6:bC x.tick 0 n
  .simp[dQ,show bC 1 1 4=true from rfl,c2,c3,c4,c5,c6,hs]
  .cases c7:bC x.idx 0 ((b.n:Int)-1)<;>
    simp[dQ,w2,show bC 1 1 4=true from rfl,c2,c3,c4,c5,c6,c7,hs,hsz]
 .cases c6:bC x.tick 1 n
  .simp[dQ,w1,c1,c2,c3,c4,c5,c6]
  .cases c7:bC x.idx 0 ((b.av.length:Int)-1)<;>
    simp[dQ,w1,w3,c1,c2,c3,c4,c5,c6,c7]
theorem Zs{lo hi n:Int}(h1 : -10000000000<=lo/\lo<=10000000000)(h2 : -10000000000<=hi/\hi<=10000000000)(hn : -100000000000000<=n/\n<=100000000000000):
  Cl 256 [.agg [iI lo,iI hi],iI n] (iI (D2 lo hi n)) J:=by
 refine au ?_;have w1:=cb (n:=n-hi);have w2:=cb (n:=n-lo);have w3:=cb (n:=max 0 (n-hi)+min 0 (n-lo));simp[w1,w2,w3,D2]
theorem Wb{y:Rock.aG}(h1:0<=y.m/\y.m<=1000000)(h2:0<=y.h/\y.h<=10000000000):Cl 346 [.agg y.enc] (iI y.F4) J:=by
 refine au ?_;unfold Rock.aG.F4;by_cases c:y.m=0
 .simp[c]
 .have e:y.h.tdiv y.m=y.h / y.m:=aQ h2.1;have b1:0<=y.h / y.m/\y.h / y.m<=y.h:=⟨Int.ediv_nonneg h2.1 h1.1,Int.ediv_le_self _ h2.1⟩;have w1:=cb (n:=y.h.tdiv y.m);simp[c,w1]
theorem MR:Cl 308 [] (.agg [.pR,.pR,.fn 345 [] [],.fn 346 [] [],.fn 347 [] []]) J:=by
 refine au ?_;simp
theorem YK{y:Rock.aG}(h1:0<=y.m/\y.m<=1000000)(h2:0<=y.h/\y.h<=10000000000):0<=y.F4/\y.F4<=10000000000:=by
 unfold Rock.aG.F4;split
 .omega
 .rw[aQ h2.1];have b1:0<=y.h / y.m/\y.h / y.m<=y.h:=⟨Int.ediv_nonneg h2.1 h1.1,Int.ediv_le_self _ h2.1⟩;omega
theorem Tv{b:bV}{m:bZ}{r:RunT}{n:Nat}{x:tz}(h:Fv b m)(hr:LJ b n r.1 r.2)(hx:Vc b n x):0<=pa b m r x/\pa b m r x<=1000000000000:=by
 unfold pa;split
 .rename_i h1;obtain⟨p1,p2,p3⟩:=hx.p h1;have hz:=h.bv.sz;obtain⟨s1,s2⟩:=Yh hr (t:=x.tick.toNat) (by omega);rw[s1];have:=G2 h s2 (i:=x.idx.toNat) (by unfold bV.size at p3;omega);simp only[Option.getD_some];omega
 .rename_i h1;obtain⟨p1,p2,p3⟩:=hx.y h1;obtain⟨y1,y2⟩:=P5 hr (t:=x.tick.toNat-1) (by omega);have y3:=TM y2 (w:=x.idx.toNat) (by omega);obtain⟨g1,g2,g3⟩:=y2.ok _ (aj y3);rw[y1];simp only[Option.getD_some,Rock.aG.MK];have:=YK g1 g2;split
  .omega
  .split<;>omega
theorem ZG{b:bV}{m:bZ}{r:RunT}{n:Nat}{x:tz}(h:Fv b m)(hr:LJ b n r.1 r.2)(hx:Vc b n x)(hn:n<=200):
  Cl 257 [.agg (bM b m),.agg [lF r.1 lq,lF r.2 lq],.agg x.enc] (iI (pa b m r x)) J:=by
 refine au ?_;unfold pa;have hsl:=hr.sl;have hyl:=hr.yl;by_cases h1:x.jY=1
 .obtain⟨p1,p2,p3⟩:=hx.p h1;have hz:=h.bv.sz;obtain⟨s1,s2⟩:=Yh hr (t:=x.tick.toNat) (by omega);have hP:=λJ=>Jx (J:=J) h s2 (i:=x.idx.toNat) (by unfold bV.size at p3;omega)
  rw[dO p2]at hP;have a1:=Yz s1;have e2:x.tick<((n:Int)+1):=by omega
  rw[s1];simp[h1,hsl,p1.1,e2,a1,hP]
 .obtain⟨p1,p2,p3⟩:=hx.y h1;obtain⟨y1,y2⟩:=P5 hr (t:=x.tick.toNat-1) (by omega);have y3:=TM y2 (w:=x.idx.toNat) (by omega);obtain⟨g1,g2,g3⟩:=y2.ok _ (aj y3);have a1:=Yz y1;have a4:=bd (f:=aG.enc) (w:=3) (λ_=>rfl) y3;have hyw:=y2.len;have w1:=cb (n:=x.tick-1);have⟨e1,e2,e3⟩:0<=x.tick-1/\x.tick-1<(n:Int)/\(x.tick-1).toNat=x.tick.toNat-1:=by omega
  have hw:=hx.jY;rw[if_neg h1,y1];have hA:=λJ=>ZI (J:=J) (x:=aR (rowAt r.2 (x.tick.toNat-1)) x.idx.toNat)
  have hK:=λJ=>Wf (J:=J) (x:=aR (rowAt r.2 (x.tick.toNat-1)) x.idx.toNat)
  simp only[aG.enc]at hA hK;rcases(show x.jY=2\/x.jY=3\/x.jY=4 by omega)with h2 | h2 | h2
  .simp[h2,hyl,w1,p1.1,e2,e3,a1,a4,MR,hA,hyw,p2,p3,Rock.aG.MK]
  .have hW:=λJ=>Wb (J:=J) g1 g2
   simp only[aG.enc]at hW;simp[h2,hyl,w1,p1.1,e2,e3,a1,a4,MR,hW,hyw,p2,p3,Rock.aG.MK]
  .simp[h2,hyl,w1,p1.1,e2,e3,a1,a4,MR,hK,hyw,p2,p3,Rock.aG.MK]
theorem NI{l:List tz}{j:Nat}{m:tz}(h:l[j]?=some m):((fM l tz.enc).drop (j*5)).take 5=m.enc :=
 bd (f:=tz.enc) (w:=5) (λ_=>rfl) h
theorem Uf{A B:Abs.aG}:dr T (.zG 251 [.ref J.length 2 0 0] (some (.ui 428 (.agg []))) ([A,B,.cells 0 [iI 0]]::J))=some (.val (.cK []) ([A,B,.cells 0 [iI 9]]::J)):=by
 refine Dp rfl rfl rfl (by simp[rI];exact⟨rfl,rfl⟩) ?_;simp
theorem W0(l:List tz):D.bf (fM l tz.enc)=true:=fB (λx=>by simp) l
theorem SX(l:List (List Int)):D.bf (fM l IY)=true:=fB (λx=>by simp[IY,D.clean,mw]) l
theorem DL{l0 L i w n:Nat}{S:SK}(hn:0<n)(h:¬L<=l0)(hc:cells? S L i 0=some []):cF l0 n (.sl L i 0 0 0 w) S=(.bT 0 [],bj S L i .dead):=by
 rw[FP h hc hn];simp
theorem S5{l0 L i w:Nat}{S:SK}(h:¬L<=l0)(hc:cells? S L i 0=some []):cF l0 16 (.sl L i 0 0 0 w) S=(.bT 0 [],bj S L i .dead):=DL (by omega) h hc
theorem Wp{b:bV}{l:List bZ}{aw:List (List Int)}{rd:List tz}(h:Ok b l aw)(hl:rd.length<=40)(hw:∀x∈rd,0<=x.jY/\x.jY<=255){A B:Abs.aG}:∀(k i:Nat),i+k=rd.length ->
  WL T [1,2,3,4,8,9,10,32,33,34] true kJ [(1,lF l bZ.enc),(2,lF aw IY),(3,lF rd tz.enc),(4,.bg (bL b)),(8,.sl J.length 0 0 0 0 1),(9,.sl J.length 1 0 0 0 3),(10,.ref J.length 2 0 0),(32,lF rd tz.enc),(33,iI rd.length),(34,iI i)] ([A,B,.cells 0 [iI 0]]::J)
   (λx e J'=>if bU (eU b aw.length) (rd.drop i)=0 then x=.exit 0/\J'=[A,B,.cells 0 [iI 0]]::J/\get e 1=lF l bZ.enc/\get e 2=lF aw IY/\get e 3=lF rd tz.enc/\get e 4=.bg (bL b)/\get e 8=.sl J.length 0 0 0 0 1/\get e 9=.sl J.length 1 0 0 0 3/\get e 10=.ref J.length 2 0 0
    else x=.ret/\get e 8=.bT 0 []/\get e 9=.bT 0 []/\get e 10=.ref J.length 2 0 0/\J'=[A,B,.cells 0 [iI (bU (eU b aw.length) (rd.drop i))]]::J):=by
 intro k;induction k with
 |zero =>
  intro i hi;refine F7 kJ.eq_1 ?_;have h1:¬i<rd.length:=by omega
  have h2:rd.drop i=[]:=an (by omega);simp[h1,h2,bU,WX,W0,CW,xI,SX]
 |succ k ih0 =>
  intro i hi;refine F7 kJ.eq_1 ?_;have h1:i<rd.length:=by omega
  obtain⟨x,hx⟩:=gE h1;have h2:=NI hx;have h4:=cg h1;have h5:=bx hx;have hC:=λJ=>T8 (J:=J) (n:=aw.length) h.bv (hw x (aj hx))
  simp only[tz.enc]at h2 hC;have ih:=ih0 (i+1) (by omega);rw[h5,bU];by_cases hc:eU b aw.length x=0
  .simp[h1,h2,h4,hC,hc,WX,W0,CW,xI,SX];exact WL.to ih (by simp) (by simp) λx e J hh=>by simpa[hc]using hh
  .simp[h1,h2,hC,hc];have z:=S5 (l0:=J.length) (L:=J.length+1) (i:=0) (w:=1) (S:=[.cells 0 [],.cells 0 []]::[A,B,.cells 0 [iI (eU b (aw.length:Int) x)]]::J) (by omega) (by simp);simp at z;rw[z];simp only[];rw[S5 (by omega) (by simp)];simp
abbrev Tri:=Int×Int×Int
def BT(i n:Nat):Nat->List Int->Nat×List Tri->Nat×List Tri
 |_,[],st=>st
 |k,v::vs,st=>BT i n (k+1) vs (if v≠0/\st.1=n then(k,st.2++[((i:Int),(k:Int),v)])else st)
theorem KQ{i n:Nat}:∀(vs:List Int) (k:Nat) (st:Nat×List Tri),st.1≠n->BT i n k vs st=st
 |[],k,st,h=>rfl
 |v::vs,k,st,h=>by
  simp only[BT];rw[if_neg (λhh=>h hh.2)];exact KQ vs (k+1) st h
theorem MC{i n:Nat}:∀(vs:List Int) (k:Nat) (st:Nat×List Tri),k+vs.length=n->(st.1≠n->st.1<n)->(BT i n k vs st).2.length<=st.2.length+1/\(BT i n k vs st).1<=n
 |[],k,st,h,hh=>by simp only[BT];exact⟨by omega,Classical.byContradiction λh1=>by have:=hh (by omega);omega⟩
 |v::vs,k,st,h,hh=>by
  simp only[BT];simp only[aE]at h;by_cases hc:v≠0/\st.1=n
  .rw[if_pos hc,KQ vs (k+1) _ (by simp only;omega)];simp;omega
  .rw[if_neg hc];exact MC vs (k+1) st (by omega) hh
def FC(b:bV)(m:bZ)(r:RunT)(rd:List tz):List Int:=rd.map λx=>D2 x.lo x.hi (pa b m r x)
theorem Mp(b:bV)(m:bZ)(r:RunT)(rd:List tz):(FC b m r rd).length=rd.length:=by simp[FC]
theorem ac8{b:bV}{l:List bZ}{aw:List (List Int)}{rd:List tz}{rs:List RunT}{m:bZ}{r:RunT}{i:Nat}(h:Ok b l aw)(hR:Rs b l aw.length rs)(hl:rd.length<=40)(hx:∀x∈rd,Vc b aw.length x)(hm:l[i]?=some m)(hr:rs[i]?=some r){A B:Abs.aG}{L10:Nat}{s0:Nat}(hs0:s0<=100):
  ∀(k j:Nat) (st:Nat×List Tri),j+k=rd.length->st.1<=rd.length->st.2.length<=s0+j ->
  WL T [3,4,8,9,10,15,16,17,18,51,52,53,60,61,62] false kK [(3,lF rd tz.enc),(4,.bg (bL b)),(8,.sl J.length 0 L10 0 L10 1),(9,.sl J.length 1 st.2.length 0 st.2.length 3),(10,.ref J.length 2 0 0),(15,lF rs F3),(16,iI i),(17,.own 0 (mL m)),(18,iI st.1),(51,lF l bZ.enc),(52,iI l.length),(53,iI i),(60,lF rd tz.enc),(61,iI rd.length),(62,iI j)]
   ([A,.cells st.2.length (fM st.2 CO),B]::J)
   (λx e J'=>x=.exit 4/\∃st',st'=BT i rd.length j ((FC b m r rd).drop j) st/\get e 3=lF rd tz.enc/\get e 4=.bg (bL b)/\get e 8=.sl J.length 0 L10 0 L10 1/\get e 9=.sl J.length 1 st'.2.length 0 st'.2.length 3/\get e 10=.ref J.length 2 0 0/\get e 15=lF rs F3/\get e 16=iI i/\get e 18=iI st'.1/\get e 51=lF l bZ.enc/\get e 52=iI l.length/\get e 53=iI i /\
    J'=[A,.cells st'.2.length (fM st'.2 CO),B]::J):=by
 intro k;induction k with
 |zero =>
  intro j st hj h1 h2;refine aA kK.eq_1 ?_;have h3:¬j<rd.length:=by omega
  have h4:(FC b m r rd).drop j=[]:=an (by rw[Mp];omega);simp[h3,h4,BT]
 |succ k ih0 =>
  intro j st hj g1 g2;refine aA kK.eq_1 ?_;have h1:j<rd.length:=by omega
  obtain⟨x,hxj⟩:=gE h1;have hmm:=aj hm;have hrr:=hR.all r (aj hr);have hxv:=hx x (aj hxj);have h2:=NI hxj;have h4:=cg h1;have hpl:=h.UW;have hi:i<rs.length:=(aB.1 hr).1;have hV:=λJ=>ZG (J:=J) (h.fv m hmm) hrr hxv hpl
  have hb:=Tv (h.fv m hmm) hrr hxv;have hen:=hxv.ends;have hM:=λJ=>Zs (J:=J) (lo:=x.lo) (hi:=x.hi) (n:=pa b m r x) (by omega) (by omega) (by omega)
  have a1:=aaX hr;have e1:(FC b m r rd)[j]?=some (D2 x.lo x.hi (pa b m r x)):=by simp[FC,hxj]
  have h5:=bx e1;simp only[tz.enc]at h2 hV;have a7:=abi st.2;have a8:(fM st.2 CO).take (st.2.length*3)=fM st.2 CO:=ah (by omega);have h8:(st.2.length+1)*24<=room:=by unfold room;omega
  rw[h5,BT];generalize D2 x.lo x.hi (pa b m r x)=v at *
  by_cases c1:v=0
  .have ih:=ih0 (j+1) st (by omega) g1 (by omega);simp[h1,h2,h4,hV,hM,hi,a1,c1];exact WL.to ih (by simp) (by simp) λx e J hh=>by simpa[c1]using hh
  .by_cases c2:st.1=rd.length
   .have ih:=ih0 (j+1) (j,st.2++[((i:Int),(j:Int),v)]) (by omega) (by simp only;omega) (by simp;omega);simp[h1,h2,h4,hV,hM,hi,a1,c1,c2,a7,a8,h8];exact WL.to ih (by simp) (by simp[CO]) λx e J hh=>by simpa[c1,c2]using hh
   .have ih:=ih0 (j+1) st (by omega) g1 (by omega);have c3:¬(st.1:Int)=rd.length:=by omega
    simp[h1,h2,h4,hV,hM,hi,a1,c1,c2,c3];exact WL.to ih (by simp) (by simp) λx e J hh=>by simpa[c2]using hh
def KH(b:bV)(rd:List tz):Nat->List (bZ×RunT)->List Int×List Tri->List Int×List Tri
 |_,[],st=>st
 |i,p::t,st=>KH b rd (i+1) t (if(BT i rd.length 0 (FC b p.1 p.2 rd) (rd.length,st.2)).1=rd.length then st.1++[(i:Int)]else st.1,(BT i rd.length 0 (FC b p.1 p.2 rd) (rd.length,st.2)).2)
theorem ac7{b:bV}{l:List bZ}{aw:List (List Int)}{rd:List tz}{rs:List RunT}(h:Ok b l aw)(hR:Rs b l aw.length rs)(hl:rd.length<=40)(hx:∀x∈rd,Vc b aw.length x){B:Abs.aG}:
  ∀(k i:Nat) (st:List Int×List Tri),i+k=l.length->st.1.length<=i->st.2.length<=i ->
  WL T [3,4,8,9,10,15,51,52,53] false kL [(3,lF rd tz.enc),(4,.bg (bL b)),(8,.sl J.length 0 st.1.length 0 st.1.length 1),(9,.sl J.length 1 st.2.length 0 st.2.length 3),(10,.ref J.length 2 0 0),(15,lF rs F3),(51,lF l bZ.enc),(52,iI l.length),(53,iI i)]
   ([.cells st.1.length (fM st.1 aO),.cells st.2.length (fM st.2 CO),B]::J)
   (λx e J'=>x=.exit 2/\∃st',st'=KH b rd i ((l.zip rs).drop i) st/\get e 8=.sl J.length 0 st'.1.length 0 st'.1.length 1/\get e 9=.sl J.length 1 st'.2.length 0 st'.2.length 3/\get e 10=.ref J.length 2 0 0 /\
    J'=[.cells st'.1.length (fM st'.1 aO),.cells st'.2.length (fM st'.2 CO),B]::J):=by
 intro k;induction k with
 |zero =>
  intro i st hi g1 g2;refine aA kL.eq_1 ?_;have h1:¬i<l.length:=by omega
  have h2:(l.zip rs).drop i=[]:=an (by rw[List.length_zip];omega);simp[h1,h2,KH]
 |succ k ih0 =>
  intro i st hi g1 g2;refine aA kL.eq_1 ?_;have h1:i<l.length:=by omega
  have hlen:=hR.len;have hne:=hR.ne;obtain⟨m,hm⟩:=gE h1;obtain⟨r,hr⟩:∃r,rs[i]?=some r:=gE (by omega);have h2:=Tf hm;have h4:=cg h1;have hz:(l.zip rs)[i]?=some (m,r):=by simp[List.getElem?_zip_eq_some,hm,hr]
  have h5:=bx hz;have hsl:=MC (i:=i) (FC b m r rd) 0 (rd.length,st.2) (n:=rd.length) (by rw[Mp];omega) (by simp);rw[h5,KH];simp[h1,h2];refine WL.to (ac8 (J:=J) h hR hl hx hm hr (A:=.cells st.1.length (fM st.1 aO)) (B:=B) (L10:=st.1.length) (s0:=50) (by omega) rd.length 0 (rd.length,st.2) (by omega) (by simp) (by simp only;omega)) (by simp) (by simp) ?_;rintro x e J' ⟨rfl,st',hst,q3,q4,q8,q9,q10,q15,q16,q18,q51,q52,q53,rfl⟩;rw[aC]at hst;rw[<- hst];rw[<- hst]at hsl;have a4:=Ta st.1;have a6:(fM st.1 aO).take st.1.length=fM st.1 aO:=ah (by omega);have h7:(st.1.length+1)*8<=room:=by unfold room;omega
  by_cases hc:st'.1=rd.length
  .have ih:=ih0 (i+1) (st.1++[(i:Int)],st'.2) (by omega) (by simp;omega) (by simp only at hsl ⊢;omega);rw[if_pos hc];simp[q3,q4,q8,q9,q10,q15,q16,q18,q51,q52,q53,hc,h4,a4,a6,h7];exact WL.to ih (by simp) (by simp) λx e J hh=>by simpa using hh
  .have ih:=ih0 (i+1) (st.1,st'.2) (by omega) (by simp only;omega) (by simp only at hsl ⊢;omega);rw[if_neg hc];have hc':¬(st'.1:Int)=rd.length:=by omega
   simp[q3,q4,q8,q9,q10,q15,q16,q18,q51,q52,q53,hc',h4];exact WL.to ih (by simp) (by simp) λx e J hh=>by simpa using hh
def RV(b:bV)(l:List bZ)(aw:List (List Int))(rd:List tz):D :=
 if vu b aw.length rd=0 then
  match zn b aw l with
  |some rs => .cK [.bT (KH b rd 0 (l.zip rs) ([],[])).1.length (fM (KH b rd 0 (l.zip rs) ([],[])).1 aO),.bT (KH b rd 0 (l.zip rs) ([],[])).2.length (fM (KH b rd 0 (l.zip rs) ([],[])).2 CO),.int .i64 0]
  |none => .cK [.bT 0 [],.bT 0 [],.int .i64 9]
 else .cK [.bT 0 [],.bT 0 [],iI (vu b aw.length rd)]
theorem HD{l0 a b:Nat}{k:Int}{A B:List D}{S S1 S2:SK}{d1 d2:D}(h1:cF l0 15 d1 S=(.bT a A,S1))(h2:cF l0 15 d2 S1=(.bT b B,S2)):cF l0 16 (.cK [d1,d2,iI k]) S=(.cK [.bT a A,.bT b B,iI k],S2):=by
 by_cases hc:D.clean (.cK [d1,d2,iI k])=true
 .rw[ek hc (by omega)];simp only[D.clean,D.bf,Bool.and_true,af]at hc;rw[ek hc.1 (by omega)]at h1;rw[ek hc.2 (by omega)]at h2;cases h1;cases h2;rfl
 .rw[o4 (by simpa using hc) (by omega)];simp only[jb,j9];rw[h1];simp only;rw[h2];simp only;rw[ek (by rfl) (by omega)]
end
section
open Go Go.Abs Go.Rock Go.Book
variable {J:SK}
theorem GH{α:Type}{f:α->List D}{l:List α}{v t:Nat}{e:Env}{S:SK}(h:Abs.get e v=nl f l):Abs.get (Rc v (nl f l) e S).1 t=if v=t then lF l f else Abs.get e t:=by
 unfold nl at h ⊢;split at h
 .rename_i hl;subst hl;simp
 .rename_i hl;simp[hl];intro hh;subst hh;exact h
theorem Je{α:Type}{f:α->List D}{l:List α}{v:Nat}{e:Env}{S:SK}:(Rc v (nl f l) e S).2=S:=by
 unfold nl;split<;>simp
theorem QG{wq:D}{b:bV}{l:List bZ}{aw:List (List Int)}{rd:List tz}(hwq:wq.qY=lF b.av bH.enc)(h:Ok b l aw)(hl:rd.length<=1000000000)(hw:∀x∈rd,0<=x.jY/\x.jY<=255)(hJ:J≠[]):
  Cl 215 [.agg [iI b.f.x,iI b.f.y,iI b.f.z,iI b.f.k,lF b.dP Rw.enc,iI b.cA,iI b.lift,iI b.deep,wq],lF l bZ.enc,nl IY aw,lF rd tz.enc] (RV b l aw rd) J:=by
 have h1:=λJ=>Zp (J:=J) h
 unfold RV;by_cases c0:40<rd.length
 .have e1:vu b aw.length rd=3:=by simp[vu,c0]
  rw[e1];refine au ?_;simp[hwq,GH,Je,h1,show(40:Int)<rd.length by omega];have hp:=aI.2 hJ;rw[HD (DL (by omega) (by omega) (by simp)) (DL (by omega) (by omega) (by simp))];simp
 have e1:vu b aw.length rd=bU (eU b aw.length) rd:=by simp[vu,c0]
 rw[e1];have c0':¬(40:Int)<rd.length:=by omega
 have hL:=Wp (J:=J) h (by omega) hw (A:=.cells 0 []) (B:=.cells 0 []) rd.length 0 (by omega);rw[aC]at hL;by_cases c1:bU (eU b aw.length) rd=0
 .rw[c1]at hL;rw[if_pos c1];have hx:∀x∈rd,Vc b aw.length x:=λx hx=>Vc.of (pF c1 x hx)
  refine O3 JI tN.eq_1 rfl rfl ?_;cases hrs:zn b aw l with
  |none =>
   have h2:=λJ=>V6 (J:=J) h hrs
   have hX:wN T (.fn 251 [] []) [.ref J.length 2 0 0] (some (.ui 428 (.agg []))) ([.cells 0 [],.cells 0 [],.cells 0 [iI 0]]::J)=some ([.cells 0 [],.cells 0 [],.cells 0 [iI 9]]::J):=u7 Uf;simp[toD,hwq,GH,Je,h1,c0'];refine WL.to hL (by simp) (by simp) ?_;intro x e J' hh;rw[if_pos rfl]at hh;obtain⟨rfl,rfl,g1,g2,g3,g4,g8,g9,g10⟩:=hh;simp[];rw[Bh nT.eq_1];simp[O9,g1,g2,g4,g8,g9,g10,h2,hX];have hp:=aI.2 hJ;rw[HD (DL (by omega) (by omega) (by simp)) (DL (by omega) (by omega) (by simp))];simp
  |some rs =>
   have hR:=Rs.of h hrs;have h2:=λJ hJ=>V7 (J:=J) h hJ hrs hR.len
   simp[toD,hwq,GH,Je,h1,c0'];refine WL.to hL (by simp) (by simp) ?_;intro x e J' hh;rw[if_pos rfl]at hh;obtain⟨rfl,rfl,g1,g2,g3,g4,g8,g9,g10⟩:=hh;simp[];rw[Bh nT.eq_1];simp[g1,g2,g3,g4,g8,g9,g10,h2];refine WL.to (ac7 (J:=J) h hR (by omega) hx (B:=.cells 0 [iI 0]) l.length 0 ([],[]) (by omega) (by simp) (by simp)) (by simp) (by simp) ?_;rintro x e J' ⟨rfl,st,hst,q8,q9,q10,rfl⟩;rw[aC]at hst;rw[<- hst];have hX:wN T (.fn 251 [] []) [.ref J.length 2 0 0] none ([.cells st.1.length (fM st.1 aO),.cells st.2.length (fM st.2 CO),.cells 0 [iI 0]]::J)=some ([.cells st.1.length (fM st.1 aO),.cells st.2.length (fM st.2 CO),.cells 0 [iI 0]]::J):=u7 JM;simp[O9,q8,q9,q10,g10,hX];rw[HD (ki (n:=15) (f:=aO) (w:=1) (l:=st.1) (by decide) (λ_=>rfl) (λx=>by simp) hJ (by simp)) (ki (n:=15) (f:=CO) (w:=3) (l:=st.2) (by decide) (λ_=>rfl) (λx=>by simp[CO]) hJ (by simp))];simp
 .simp only[c1,if_false];refine au ?_;simp[hwq,GH,Je,h1,c0'];refine WL.to hL (by simp) (by simp) ?_;intro x e J' hh;rw[if_neg c1]at hh;obtain⟨rfl,g8,g9,g10,rfl⟩:=hh;simp[g8,g9,g10]
end
end Go.Proofs.YtpapbbojmclkgaaGreatDoor
namespace Go.Book
open Go Go.Abs Go.Rock
def Ls(lo hi s:Int):Int:=if hi<s\/s<lo then s else lo
end Go.Book
namespace Go.Proofs.YtpapbbojmclkgaaGreatDoor
open Go Go.Abs Go.Rock Go.Book
variable {J:SK}
def sf(b:Bk)(x:tz)(m:bZ):Int:=match Rock.run b.aS m b.aw with
 |some r=>Ls x.lo x.hi (pa b.aS m r x)
 |none=>x.lo
theorem TJ{b:bV}{m:bZ}{aw:List (List Int)}{x:tz}{r:RunT}(hr:vu b aw.length [x]=0)(hrun:Rock.run b m aw=some r):
  ∃n A,RV b [m] aw [x]=.cK [.bT n A,.bT (if D2 x.lo x.hi (pa b m r x)=0 then 0 else 1) (if D2 x.lo x.hi (pa b m r x)=0 then []else CO (0,0,D2 x.lo x.hi (pa b m r x))),iI 0]/\D.bf A=true:=by
 have h1:zn b aw [m]=some [r]:=by simp[zn,hrun]
 refine⟨(KH b [x] 0 [(m,r)] ([],[])).1.length,fM (KH b [x] 0 [(m,r)] ([],[])).1 aO,?_,mw _⟩;unfold RV;rw[if_pos hr,h1];by_cases hz:D2 x.lo x.hi (pa b m r x)=0<;>simp[KH,BT,FC,hz]
theorem aa8{b:bV}{m:bZ}{aw:List (List Int)}{x:tz}(hr:vu b aw.length [x]≠0):RV b [m] aw [x]=.cK [.bT 0 [],.bT 0 [],iI (vu b aw.length [x])]:=by
 unfold RV;rw[if_neg hr]
theorem BP{b:bV}{n:Int}{x:tz}:vu b n [x]=eU b n x:=by
 simp only[vu,aE,aY,bU];by_cases h:eU b n x=0<;>simp[h]
theorem FF{b:Bk}{m:bZ}{x:tz}(ht:b.aS.dP≠[])(hok:Ok b.aS [m] b.aw)(hw:0<=x.jY/\x.jY<=255)(hJ:J≠[]):
  Cl 215 [.agg [iI b.aS.f.x,iI b.aS.f.y,iI b.aS.f.z,iI b.aS.f.k,nl Rw.enc b.aS.dP,iI b.aS.cA,iI b.aS.lift,iI b.aS.deep,nl bH.enc b.aS.av],.bT 1 (mL m),nl pE b.aw,.bT 1 x.enc] (RV b.aS [m] b.aw [x]) J:=by
 have h:=QG (J:=J) (wq:=nl bH.enc b.aS.av) ku hok (rd:=[x]) (by simp) (by intro y hy;simp at hy;subst hy;exact hw) hJ;rw[ei ht];simpa[Rj]using h
theorem Zn{F:List Abs.aG}{b:Bk}{er:List Int}{m:bZ}{x:tz}{w:Int}{r:RunT}(ht:b.aS.dP≠[])(hok:Ok b.aS [m] b.aw)(hw:0<=x.jY/\x.jY<=255)(hr:eU b.aS b.aw.length x=0)(hrun:Rock.run b.aS m b.aw=some r):
  Cl 216 [.agg (mL m),.bg [.ref J.length 6 0 0],.ref (J.length+1+1) 0 0 0,.bg [.bT 4 [iI w,iI x.idx,iI x.lo,iI x.hi]]] (iI (sf b x m)) ([]::[.cells 0 x.enc]::F::b.bF J.length er::J):=by
 refine au ?_;have hS:=λS hS=>FF (J:=S) ht hok hw hS
 obtain⟨n,A,h1,hA⟩:=TJ (b:=b.aS) (m:=m) (aw:=b.aw) (x:=x) (by rw[BP];exact hr) hrun;rw[h1]at hS;have hd:=Vc.of hr;have hb:=Tv (hok.fv m (by simp)) (LJ.of (hok.fv m (by simp)) hok.aF hrun) hd;obtain⟨e1,e2,e3⟩:=hd.ends;have hv:sf b x m=Ls x.lo x.hi (pa b.aS m r x):=by simp[sf,hrun]
 rw[hv];have hm:=Rt (lo:=x.lo) (hi:=x.hi) (s:=pa b.aS m r x) e2;generalize pa b.aS m r x=s at *
 simp only[tz.enc]at hS ⊢;unfold XL at hm;by_cases c1:x.hi<s
 .rw[if_pos c1]at hm;have⟨c2,c3⟩:¬s-x.hi=0/\0<s-x.hi:=by omega
  have w1:IntKind.i64.wrap (x.hi+(s-x.hi))=s:=by rw[show x.hi+(s-x.hi)=s by omega];exact cb
  have hq:Ls x.lo x.hi s=s:=by simp[Ls,c1]
  rw[hm]at hS;simp[Bk.bF,Bk.cells,hS,c1,c2,w1,hq,CO]
 .rw[if_neg c1]at hm;by_cases c4:s<x.lo
  .rw[if_pos c4]at hm;have⟨c2,c3⟩:¬s-x.lo=0/\¬0<s-x.lo:=by omega
   have w1:IntKind.i64.wrap (x.lo+(s-x.lo))=s:=by rw[show x.lo+(s-x.lo)=s by omega];exact cb
   have hq:Ls x.lo x.hi s=s:=by simp[Ls,c4]
   rw[hm]at hS;simp[Bk.bF,Bk.cells,hS,(show ¬x.lo<s by omega),c2,w1,hq,CO]
  .rw[if_neg c4]at hm;have hq:Ls x.lo x.hi s=x.lo:=by simp[Ls,c1,c4]
   rw[hm]at hS;simp[Bk.bF,Bk.cells,hS,hq]
def oL(b:Bk)(x:tz):Bk×Int :=
 if cc b.ai=[]then(b,8)else if bC x.jY 0 255=true then(if eU b.aS b.aw.length x=0 then(gU b x.lo x.hi (sf b x),0)else(b,eU b.aS b.aw.length x))else(b,1)
theorem Zo{F:List Abs.aG}{b:Bk}{er:List Int}{nm:List UInt8}{w i lo hi:Int}{b':Bk}{e:Int}(ht:b.aS.dP≠[])(hw:b.eJ.length=b.ai.length)(hml:b.ai.length<=40)(hok:∀e∈b.ai,Ok b.aS [e.m] b.aw)(hrun:∀e∈b.ai,e.left=true->∃r,Rock.run b.aS e.m b.aw=some r)(hd:oL b ⟨b.aw.length,w,i,lo,hi⟩=(b',e))(he:e=0):
  dr T (.call false 170 [.ref J.length 6 0 0,.str nm,.bT 4 [iI w,iI i,iI lo,iI hi]] (F::b.bF J.length er::J))=some (.val (.cK []) (F::b'.bF J.length er::J)):=by
 refine fy rfl rfl rfl (by simp) ?_;unfold oL at hd;split at hd
 case isTrue=>cases hd;cases he
 rename_i c1;split at hd
 case isFalse=>cases hd;cases he
 rename_i c2;split at hd
 case isFalse=>cases hd;rename_i h;exact absurd he h
 rename_i c3;cases hd;have c2i:=aP.1 c2;have q1:0<(cc b.ai).length:=aI.2 c1;have hLf:=λS=>Hn (J:=J) (b:=b) (er:=er) (S:=S) (by omega)
 obtain⟨e0,ls,hls⟩:∃e0 ls,cc b.ai=e0::ls:=by
  cases h:cc b.ai with
  |nil=>exact absurd h c1
  |cons a l=>exact⟨a,l,rfl⟩
 have he0:e0∈b.ai/\e0.left=true:=cS.1 (show e0∈cc b.ai by rw[hls];simp);obtain⟨r0,hr0⟩:=hrun e0 he0.1 he0.2;have w1:IntKind.u8.wrap w=w:=wu8 (by omega);have hS:=λS hS=>FF (J:=S) (x:=⟨b.aw.length,w,i,lo,hi⟩) ht (hok e0 he0.1) (by simpa using c2i) hS
 obtain⟨n,A,h1,hA⟩:=TJ (b:=b.aS) (m:=e0.m) (aw:=b.aw) (x:=⟨b.aw.length,w,i,lo,hi⟩) (by rw[BP];exact c3) hr0;rw[h1]at hS;have hst:=OC (J:=J) (A:=[.cells 0 (tz.enc ⟨b.aw.length,w,i,lo,hi⟩)]) (F:=F) (b:=b) (er:=er) (lo:=lo) (hi:=hi) (val:=sf b ⟨b.aw.length,w,i,lo,hi⟩) (fv:=.fn 216 [] [.bg [.ref J.length 6 0 0],.ref (J.length+1+1) 0 0 0,.bg [.bT 4 [iI w,iI i,iI lo,iI hi]]]) rfl rfl hw hml (by
  intro k e he hl;obtain⟨r,hr⟩:=hrun e he hl;have h:=Zn (J:=J) (F:=F) (er:=er) (b:=b.gw lo hi (sf b ⟨b.aw.length,w,i,lo,hi⟩) k) (m:=e.m) (x:=⟨b.aw.length,w,i,lo,hi⟩) (w:=w) ht (hok e he) (by simpa using c2i) c3 hr;rw[pn];have h':dr T (.call false 216 ([]++[.agg (mL e.m)]++[.bg [.ref J.length 6 0 0],.ref (J.length+1+1) 0 0 0,.bg [.bT 4 [iI w,iI i,iI lo,iI hi]]]) ([]::[.cells 0 (tz.enc ⟨b.aw.length,w,i,lo,hi⟩)]::F::(b.gw lo hi (sf b ⟨b.aw.length,w,i,lo,hi⟩) k).bF J.length er::J))=_:=h;rw[h'];rfl)
 rw[hls]at hLf;simp only[Bk.bF,Bk.cells,tz.enc]at hst hLf hS;have hcl:∀T,D.bf (if T=0 then []else CO (0,0,T))=true:=λT=>by split<;>simp[CO]
 simp[Bk.bF,Bk.cells,hLf,cQ,ej,c2,w1,hS,nQ,hst]
theorem VU{F:List Abs.aG}{b:Bk}{er:List Int}{nm:List UInt8}{w i lo hi:Int}{b':Bk}{e:Int}(ht:cc b.ai≠[]->b.aS.dP≠[])(hml:b.ai.length<=40)(hok:∀e∈b.ai,Ok b.aS [e.m] b.aw)(hd:oL b ⟨b.aw.length,w,i,lo,hi⟩=(b',e))(he:e≠0):
  dr T (.call false 170 [.ref J.length 6 0 0,.str nm,.bT 4 [iI w,iI i,iI lo,iI hi]] (F::b.bF J.length er::J))=some (.fu (rf e) (F::b.bF J.length er::J)):=by
 refine dX rfl rfl rfl ?_;have hLf:=λS=>Hn (J:=J) (b:=b) (er:=er) (S:=S) (by omega)
 simp only[Bk.bF,Bk.cells]at hLf;unfold oL at hd;split at hd
 case isTrue c1 =>
  cases hd;simp[Bk.bF,Bk.cells,hLf,c1,dM,D.clean,rf]
 rename_i c1;have ht:=ht c1;have q1:0<(cc b.ai).length:=aI.2 c1;split at hd
 case isFalse c2 =>
  cases hd;have c2':bC w 0 255=false:=by simpa using c2
  simp[Bk.bF,Bk.cells,hLf,q1,ej,c2',cQ,dM,D.clean,rf]
 rename_i c2;have c2i:=aP.1 c2;split at hd
 case isTrue=>cases hd;exact absurd rfl he
 rename_i c3;cases hd;obtain⟨e0,ls,hls⟩:∃e0 ls,cc b.ai=e0::ls:=by
  cases h:cc b.ai with
  |nil=>exact absurd h c1
  |cons a l=>exact⟨a,l,rfl⟩
 have he0:e0∈b.ai/\e0.left=true:=cS.1 (show e0∈cc b.ai by rw[hls];simp);have w1:IntKind.u8.wrap w=w:=wu8 (by omega);have hS:=λS hS=>FF (J:=S) (x:=⟨b.aw.length,w,i,lo,hi⟩) ht (hok e0 he0.1) (by simpa using c2i) hS
 rw[aa8 (by rw[BP];exact c3),BP]at hS;have hM:=λJ=>oV (J:=J) c3
 generalize eU b.aS b.aw.length ⟨b.aw.length,w,i,lo,hi⟩=err at hS hM c3 he ⊢;have hrc:(D.ui 200 (.agg [iI err])).clean=true:=rfl;rw[hls]at hLf;simp only[tz.enc]at hS;simp[Bk.bF,Bk.cells,hLf,cQ,ej,c2,w1,hS,hM,rf,hrc]
end Go.Proofs.YtpapbbojmclkgaaGreatDoor
namespace Go.Book
open Go Go.Abs Go.Rock
def Gb:List Prt->Int
 |[]=>0
 |p::l=>p.width+Gb l
def uD:List Prt->Int->Int
 |[],_=>0
 |p::l,m=>p.kS*min m p.width+uD l (m-min m p.width)
def Mu:List Prt->Int->Int
 |[],m=>m
 |p::l,m=>Mu l (m-min m p.width)
def zp(l:List Prt):Prop:=∀p∈l,(0<=p.kS/\p.kS<=1000)/\1<=p.width/\p.width<=100000
theorem Aa:∀{l:List Prt} {last:Int},last<=1000->AF last l=true->zp l
 |[],_,_,_=>by intro p hp;cases hp
 |q::l,last,hl,h=>by
  simp only[AF,Prt.ok,af,aP]at h;intro p hp;rcases bw.1 hp with rfl | hp
  .omega
  .exact Aa (by omega) h.2 p hp
theorem ND:∀{l:List Prt} {m:Int},zp l->0<=m->0<=uD l m/\uD l m<=1000*m
 |[],m,_,hm=>by simp[uD];omega
 |p::l,m,h,hm=>by
  have h1:=h p (by simp);have h2:=ND (l:=l) (m:=m-min m p.width) (λq hq=>h q (by simp[hq])) (by omega);have h3:0<=p.kS*min m p.width:=bA h1.1.1 (by omega);have h4:p.kS*min m p.width<=1000*min m p.width:=dR h1.1.2 (by omega);simp only[uD];omega
end Go.Book
namespace Go.Proofs.YtpapbbojmclkgaaGreatDoor
open Go Go.Abs Go.Rock Go.Book
variable {J:SK}
theorem abq{l:List Prt}(hs:zp l)(hl:l.length<=8):∀(m i:Nat) (out:Int),i+m=l.length->0<=out->out<=100000*i ->
  WL T [2,6,7,8] false fE [(2,iI out),(6,lF l Prt.enc),(7,iI l.length),(8,iI i)] J
   (λx e J'=>x=.exit 0/\J'=J/\get e 2=iI (out+Gb (l.drop i)))
 |0,i,out,hi,h0,ho=>by
  refine aA fE.eq_1 ?_;have h1:¬i<l.length:=by omega
  have h2:l.drop i=[]:=an (by omega);simp[h1,h2,Gb]
 |m+1,i,out,hi,h0,ho=>by
  refine aA fE.eq_1 ?_;have h1:i<l.length:=by omega
  obtain⟨p,hp⟩:=gE h1;have hfl:=bd (f:=Prt.enc) (w:=2) (λ_=>rfl) hp;have hd:=bx hp;have h4:=cg h1;have hb:=hs p (aj hp);have w1:=cb (n:=out+p.width);have ih:=abq hs hl m (i+1) (out+p.width) (by omega) (by omega) (by omega);rw[hd,Gb];simp[h1,hfl,h4,w1];exact WL.to ih (by simp) rfl λx e J' hh=>by simpa[Int.add_assoc]using hh
theorem QJ{u:pf}(hs:zp u.parts)(hl:u.parts.length<=8):Cl 264 [.agg u.enc] (iI (Gb u.parts)) J:=by
 refine au ?_;simp[];refine WL.to (abq (J:=[]::J) hs hl u.parts.length 0 0 (by omega) (by omega) (by omega)) (by simp) rfl ?_;rintro x e J' ⟨rfl,rfl,g2⟩;simp[g2]
def lpP(L:Nat):xX:={state:=0,zj:=none,env:=[(4,.ref L 0 0 0)],params:=[10,11],B9:=iF,body:=iG }
def Ql(J:SK)(out mass:Int):SK:=[.cells 0 [iI out],.cells 0 [iI mass],.loop (lpP J.length)]::J
theorem ZP{p:Prt}{out mass m:Int}(hp:(0<=p.kS/\p.kS<=1000)/\1<=p.width/\p.width<=100000)(hm:0<=m/\m<=1000000)(ho:0<=out/\out<=1000000000000):
  dr T (.round J.length 2 [.agg p.enc,iI m] ([]::Ql J out mass))=some (.val (.bool true) ([]::Ql J (out+p.kS*m) mass)):=by
 have q1:0<=p.kS*m:=bA hp.1.1 hm.1;have q2:p.kS*m<=1000*1000000:=cp hp.1.2 hm.2 hm.1 (by omega);have w1:=cb (n:=p.kS*m);have w2:=cb (n:=out+p.kS*m);refine P0 (lp:=lpP J.length) (by simp[Ql]) rfl ?_;rw[show(lpP J.length).B9=iF from rfl,iF.eq_1,show(lpP J.length).body=iG from rfl];simp[Bh iG.eq_1,lpP,Ql,UM,w1,w2]
theorem Ww{l:List Prt}(hs:zp l)(hl:l.length<=8):∀(k i:Nat) (out m:Int),i+k=l.length->0<=m->m<=1000000->0<=out->out<=1000000000*i ->
  WL T [0,2,8,9,10] false gG [(0,.jU J.length 2),(2,.ref J.length 1 0 0),(8,lF l Prt.enc),(9,iI l.length),(10,iI i)] ([]::Ql J out m)
   (λx e J'=>x=.exit 0/\J'=[]::Ql J (out+uD (l.drop i) m) (Mu (l.drop i) m))
 |0,i,out,m,hi,hm,hm2,h0,ho=>by
  refine aA gG.eq_1 ?_;have h1:¬i<l.length:=by omega
  have h2:l.drop i=[]:=an (by omega);simp[h1,h2,uD,Mu]
 |k+1,i,out,m,hi,hm,hm2,h0,ho=>by
  refine aA gG.eq_1 ?_;have h1:i<l.length:=by omega
  obtain⟨p,hp⟩:=gE h1;have hfl:=bd (f:=Prt.enc) (w:=2) (λ_=>rfl) hp;have hd:=bx hp;have h4:=cg h1;have hb:=hs p (aj hp);have hmn:0<=min m p.width/\min m p.width<=m:=by omega
  have hR:=ZP (J:=J) (p:=p) (out:=out) (mass:=m) (m:=min m p.width) hb (by omega) (by omega);have q1:0<=p.kS*min m p.width:=bA hb.1.1 hmn.1;have q2:p.kS*min m p.width<=1000*1000000:=cp hb.1.2 (by omega) hmn.1 (by omega);have w1:=cb (n:=m-min m p.width);have ih:=Ww hs hl k (i+1) (out+p.kS*min m p.width) (m-min m p.width) (by omega) (by omega) (by omega) (by omega) (by omega);rw[hd,uD,Mu];simp only[Ql,Prt.enc]at hR;simp[h1,hfl,h4,Ql,hR,w1];exact WL.to ih (by simp) (by simp[Ql]) λx e J' hh=>by simpa[Int.add_assoc,Ql]using hh
theorem acX{u:pf}{mass:Int}{bs:List Abs.aG}:dr T (.call true 316 [.agg u.enc,iI mass] (bs::J))=some (.val (.fn 352 [] [.bg u.enc,.ref J.length bs.length 0 0]) ((bs++[.cells 0 [iI mass]])::J)):=by
 refine vy rfl rfl rfl ?_;simp[]
theorem ZF{u:pf}{out m:Int}(hs:zp u.parts)(hl:u.parts.length<=8)(hm:0<=m/\m<=1000000)(h0:0<=out/\out<=0):
  dr T (.call false 352 [.jU J.length 2,.bg u.enc,.ref J.length 1 0 0] (Ql J out m))=some (.val (.cK []) (Ql J (out+uD u.parts m) (Mu u.parts m))):=by
 refine fy rfl rfl rfl (by simp[Ql]) ?_;have h:=Ww (J:=J) hs hl u.parts.length 0 out m (by omega) hm.1 hm.2 h0.1 (by omega);rw[aC]at h;simp;refine WL.to h (by simp) (by simp) ?_;rintro x e J' ⟨rfl,rfl⟩;simp
theorem Zi{u:pf}{m:Int}(hs:zp u.parts)(hl:u.parts.length<=8)(hm:0<=m/\m<=1000000):
  Cl 265 [.agg u.enc,iI m] (iI (uD u.parts m)) J:=by
 refine au ?_;have hU:=λbs=>acX (J:=J) (u:=u) (mass:=m) (bs:=bs)
 have h1:=ZF (J:=J) (u:=u) (out:=0) hs hl hm (by omega);simp only[pf.enc]at hU h1 ⊢;simp[hU];refine SO (d:=.cK []) (J2:=Ql J (0+uD u.parts m) (Mu u.parts m)) (lp:=lpP J.length) (by simp;exact⟨rfl,rfl,rfl⟩) ?_ (by simp[Ql]) (by simp[lpP]) ?_
 .simpa[Ql,lpP]using h1
 .simp[Ql,lpP]
def J8(u:pf)(s:tA):Int:=if s.valid=true then(if Gb u.parts<s.m then 2 else if s.h<uD u.parts s.m then 9 else 0)else 1
theorem K4{s:tA}:Cl 315 [.agg s.enc] (iI (if s.valid then 0 else 1)) J:=by
 refine au ?_;have h:=λJ=>Jy (J:=J) (x:=s)
 simp only[tA.enc]at h ⊢;cases hc:s.valid<;>rw[hc]at h<;>simp[h]
theorem VY{s:tA}:Cl 314 [.agg s.enc] (.bool s.valid) J:=by
 refine au ?_;have h:=λJ=>K4 (J:=J) (s:=s)
 simp only[tA.enc]at h ⊢;cases hc:s.valid<;>rw[hc]at h<;>simp[h]
theorem VZ{s:tA}:Cl 263 [.bT 1 s.enc] (.bool s.valid) J:=by
 refine au ?_;have h:=λJ=>B8 (yg 4 tA.enc (λ_=>rfl)) (T:=T) (J:=J) (f:=313) (g:=351) (h:=350) (i:=368) (l:=[s]) (p:=tA.valid) (fv:=.fn 314 [] []) rfl rfl rfl rfl (by simp) (oW.fn λx _ J=>VY) rfl
 simp only[yg,List.length_singleton,db,mY,da,dj,jm,List.all_nil,Bool.and_true]at h;simp only[tA.enc]at h ⊢;simp[h]
def Z4(u:pf)(s:tA):D:=if J8 u s=0 then .cK [.agg [iI s.m,iI (s.h-uD u.parts s.m),iI s.s,iI s.g],iI (uD u.parts s.m),iI 0]else .cK [.agg [iI 0,iI 0,iI 0,iI 0],iI 0,iI (J8 u s)]
theorem Vl{u:pf}{s:tA}(hu:u.ok=true):Cl 219 [.agg u.enc,.agg s.enc] (Z4 u s) J:=by
 refine au ?_;have hok:=hu;simp only[pf.ok,af,aP]at hok;have hl:u.parts.length<=8:=by omega
 have hs:=Aa (by omega) hok.2.2;have hV:=λJ=>OD (J:=J) (u:=u) (by omega)
 have hR:=λJ=>VZ (J:=J) (s:=s)
 have hC:=λJ=>QJ (J:=J) hs hl
 rw[hu]at hV;simp only[pf.enc,tA.enc]at hV hR hC ⊢;unfold Z4 J8;cases c1:s.valid
 .rw[c1]at hR;simp[hV,hR]
 rw[c1]at hR;simp only[tA.valid,af,aP]at c1;by_cases c2:Gb u.parts<s.m
 .simp[hV,hR,hC,c2]
 have hP:=λJ=>Zi (J:=J) (m:=s.m) hs hl c1.1
 simp only[pf.enc]at hP;have hb:=ND hs c1.1.1;by_cases c3:s.h<uD u.parts s.m
 .simp[hV,hR,hC,hP,c2,c3]
 have w1:=cb (n:=s.h-uD u.parts s.m);simp[hV,hR,hC,hP,c2,c3,w1]
theorem TO{t:List Rw}(ht:fK t=true){i:Nat}{r:Rw}(hi:t[i]?=some r){x:tA}(hx:x.valid=false):
  Cl 218 [lF t Rw.enc,iI i,.agg x.enc] (.cK [.agg (List.replicate 10 (iI 0)),iI 1]) J:=by
 refine au ?_;have hl:t.length<=20:=by
  simp only[fK,af]at ht;have:=aP.1 ht.1;omega
 have hil:i<t.length:=(aB.1 hi).1;have h1:=λJ=>FG (J:=J) (t:=t) (by omega)
 have h2:=λJ=>abo (J:=J) (t:=t) (n:=i) (by omega)
 have h3:=λJ=>Jy (J:=J) (x:=x)
 have hin:bC i 0 ((t.length:Int)-1)=true:=aP.2 (by omega);rw[hin]at h2;rw[hx]at h3;rw[ht]at h1;simp only[tA.enc]at h3;simp[h1,h2,h3,List.replicate]
def Di:List Int->Int
 |[]=>0
 |x::l=>l.foldl min x
def Dh:List Int->Int
 |[]=>0
 |x::l=>l.foldl max x
theorem abv{l:List Int}(hl:l.length<=1000000):∀(m i:Nat) (a:Int),i+m=l.length ->
  WL T [0,3,4] false j8 [(0,lF l aO),(3,iI a),(4,iI i)] J (λx e J'=>x=.exit 0/\J'=J/\get e 3=iI ((l.drop i).foldl min a))
 |0,i,a,hi=>by
  refine aA j8.eq_1 ?_;have h1:¬i<l.length:=by omega
  have h2:l.drop i=[]:=an (by omega);simp[h1,h2]
 |m+1,i,a,hi=>by
  refine aA j8.eq_1 ?_;have h1:i<l.length:=by omega
  obtain⟨n,hn⟩:=gE h1;have a1:=gp hn;have h4:=cg h1;rw[bx hn];simp[h1,a1,h4];exact WL.to (abv hl m (i+1) (min a n) (by omega)) (by simp) rfl λx e J' hh=>by simpa using hh
theorem af4{l:List Int}(hne:l≠[])(hl:l.length<=1000000):Cl 266 [lF l aO] (iI (Di l)) J:=by
 refine au ?_;have h0:0<l.length:=aI.2 hne;obtain⟨x,r,rfl⟩:∃x r,l=x::r:=by
  cases l with
  |nil=>exact absurd rfl hne
  |cons x r=>exact⟨x,r,rfl⟩
 have⟨h1,h2⟩:¬((r.length:Int)+1<1)/\(0:Int)<(r.length:Int)+1:=by omega
 simp[h1,h2];refine WL.to (abv (J:=[]::J) hl r.length 1 x (by simp;omega)) (by simp) rfl ?_;rintro x e J' ⟨rfl,rfl,g3⟩;simp[g3,Di]
theorem abu{l:List Int}(hl:l.length<=1000000):∀(m i:Nat) (a:Int),i+m=l.length ->
  WL T [0,3,4] false j7 [(0,lF l aO),(3,iI a),(4,iI i)] J (λx e J'=>x=.exit 0/\J'=J/\get e 3=iI ((l.drop i).foldl max a))
 |0,i,a,hi=>by
  refine aA j7.eq_1 ?_;have h1:¬i<l.length:=by omega
  have h2:l.drop i=[]:=an (by omega);simp[h1,h2]
 |m+1,i,a,hi=>by
  refine aA j7.eq_1 ?_;have h1:i<l.length:=by omega
  obtain⟨n,hn⟩:=gE h1;have a1:=gp hn;have h4:=cg h1;rw[bx hn];simp[h1,a1,h4];exact WL.to (abu hl m (i+1) (max a n) (by omega)) (by simp) rfl λx e J' hh=>by simpa using hh
theorem af3{l:List Int}(hne:l≠[])(hl:l.length<=1000000):Cl 267 [lF l aO] (iI (Dh l)) J:=by
 refine au ?_;have h0:0<l.length:=aI.2 hne;obtain⟨x,r,rfl⟩:∃x r,l=x::r:=by
  cases l with
  |nil=>exact absurd rfl hne
  |cons x r=>exact⟨x,r,rfl⟩
 have⟨h1,h2⟩:¬((r.length:Int)+1<1)/\(0:Int)<(r.length:Int)+1:=by omega
 simp[h1,h2];refine WL.to (abu (J:=[]::J) hl r.length 1 x (by simp;omega)) (by simp) rfl ?_;rintro x e J' ⟨rfl,rfl,g3⟩;simp[g3,Dh]
theorem acS{l:List Int}(hne:l≠[])(hl:l.length<=1000000):Cl 220 [lF l aO] (.agg [iI (Di l),iI (Dh l)]) J:=by
 refine au ?_;have h1:=λJ=>af4 (J:=J) hne hl
 have h2:=λJ=>af3 (J:=J) hne hl
 simp[h1,h2]
def aie:Rw:=⟨0,0,0,0,0⟩
def aif:pf:=⟨0,[]⟩
def rowOf(b:Bk)(lv:Nat):Rw:=(b.aS.dP[lv]?).getD aie
def wI(b:Bk)(u:Nat):pf:=(b.cI[u]?).getD aif
def nI(b:Bk)(r:RunT)(w:Nat):tA:=⟨(aR (rowAt r.2 (b.aw.length-1)) w).m,(aR (rowAt r.2 (b.aw.length-1)) w).h,0,0⟩
def fC(r:Rw)(x:tA):tA:=⟨eK r x,N8 r x,0,N7 r x⟩
def uX(b:Bk)(w lv u:Nat)(m:bZ):Int:=match Rock.run b.aS m b.aw with
 |some r=>if(nI b r w).valid=true then J8 (wI b u) (fC (rowOf b lv) (nI b r w))else 1
 |none=>9
def pc(b:Bk)(w lv u:Nat)(m:bZ):Int:=match Rock.run b.aS m b.aw with
 |some r=>uD (wI b u).parts (fC (rowOf b lv) (nI b r w)).m
 |none=>0
def Hb(b:Bk)(J:SK)(w lv u:Nat)(price:Int)(acc:List Int)(rest:List ec)(x:Abs.Exit)(e:Env)(J':SK):Prop :=
 if bU (λe=>uX b w lv u e.m) rest=0 then
  x=.exit 0/\get e 0=.ref (J.length-1-1) 6 0 0/\get e 7=iI w/\get e 10=iI price/\get e 11=.sl J.length 0 (acc++rest.map λe=>pc b w lv u e.m).length 0 (acc++rest.map λe=>pc b w lv u e.m).length 1 /\
   J'=[.cells (acc++rest.map λe=>pc b w lv u e.m).length (fM (acc++rest.map λe=>pc b w lv u e.m) aO)]::J
 else x=.fu (rf (bU (λe=>uX b w lv u e.m) rest))/\∃s,J'=s::J
theorem QY{F:List Abs.aG}{b:Bk}{er:List Int}{ls:List ec}{w lv u:Nat}{price:Int}(ht:fK b.aS.dP=true)(hok:∀e∈ls,Ok b.aS [e.m] b.aw)(hrun:∀e∈ls,∃r,Rock.run b.aS e.m b.aw=some r)(hp:b.aw≠[])(hl:ls.length<=1000000)
  (hw:w<b.aS.av.length) (hlv:lv<b.aS.dP.length) (hu:u<b.cI.length) (huk:∀x∈b.cI,x.ok=true):∀(m i:Nat) (acc:List Int),i+m=ls.length->acc.length=i ->
  WL T [0,7,8,9,10,11,86,87,88] false fW [(0,.ref J.length 6 0 0),(7,iI w),(8,iI lv),(9,iI u),(10,iI price),(11,.sl (F::b.bF J.length er::J).length 0 i 0 i 1),(86,lF ls ec.enc),(87,iI ls.length),(88,iI i)] ([.cells i (fM acc aO)]::F::b.bF J.length er::J)
   (Hb b (F::b.bF J.length er::J) w lv u price acc (ls.drop i))
 |0,i,acc,hi,ha=>by
  refine aA fW.eq_1 ?_;obtain rfl:i=ls.length:=by omega
  have h5:ls.drop ls.length=[]:=an (by omega);simp[h5,Hb,ha,bU]
 |m+1,i,acc,hi,ha=>by
  refine aA fW.eq_1 ?_;have h1:i<ls.length:=by omega
  obtain⟨e,he⟩:=gE h1;have hem:=aj he;have hO:=hok e hem;obtain⟨r,hr⟩:=hrun e hem;have hfl:=bd (f:=ec.enc) (w:=4) (λ_=>rfl) he;have h4:=cg h1;have htl:b.aS.dP.length<=20:=by
   simp only[fK,af]at ht;have:=aP.1 ht.1;omega
  have hE:lH b.aS e.m b.aw=0:=by
   have hfit:=hO.fit e.m (by simp);simp[lH,Bd,hO.valid,hfit,hO.pl,hr]
  have hD:BO b.aS e.m b.aw=.agg [lF r.1 lq,lF r.2 lq]:=by
   obtain⟨r1,r2⟩:=r;simp[BO,hE,hr]
  have hsh:=hO.short e.m (by simp);have hP:=λS hS=>Vm (J:=S) (b:=b.aS) (m:=e.m) (aw:=b.aw) (wq:=nl bH.enc b.aS.av) ku (by omega) (by have:=hO.bv.av;omega) (by omega) (by omega) (by have:=hO.UW;omega) (λl hl=>by have:=(hO.aF l hl).len;have:=hO.bv.av;omega) hS
  rw[hE,hD,Rj]at hP;have htn:b.aS.dP≠[]:=by intro hh;rw[hh]at hlv;simp at hlv
  have hRun:=LJ.of (hO.fv e.m (by simp)) hO.aF hr;have hpl:0<b.aw.length:=aI.2 hp;have hpl2:=hO.UW;obtain⟨hrow,hY⟩:=P5 hRun (t:=b.aw.length-1) (by omega);have f1:=bd (f:=lq) (w:=1) (λ_=>rfl) hrow;rw[bS]at f1;have hyw:(rowAt r.2 (b.aw.length-1))[w]?=some (aR (rowAt r.2 (b.aw.length-1)) w):=by
   have:w<(rowAt r.2 (b.aw.length-1)).length:=by rw[hY.len];exact hw
   simp[aR,this]
  have f2:=bd (f:=Rock.aG.enc) (w:=3) (λ_=>rfl) hyw;have hyl:=hY.len;have w1:=cb (n:=(b.aw.length:Int)-1);have⟨t1,q1⟩:((b.aw.length:Int)-1).toNat=b.aw.length-1/\(1:Int)<=b.aw.length:=by omega
  have q2:(b.aw.length:Int)-1<r.2.length:=by rw[hRun.yl];omega
  have hrw:b.aS.dP[lv]?=some (rowOf b lv):=by simp[rowOf,hlv]
  have hun:b.cI[u]?=some (wI b u):=by simp[wI,hu]
  have f3:=bd (f:=pf.enc) (w:=2) (λ_=>rfl) hun;have hul:=Jm b.cI;have q3:2<=b.cI.length*2-u*2:=by omega
  have hX:=λJ=>Vl (J:=J) (u:=wI b u) (s:=fC (rowOf b lv) (nI b r w)) (huk _ (aj hun))
  rw[bx he];have hs0:uX b w lv u e.m=if(nI b r w).valid=true then J8 (wI b u) (fC (rowOf b lv) (nI b r w))else 1:=by simp[uX,hr]
  cases c1:(nI b r w).valid with
  |false =>
   have hF:=λJ=>TO (J:=J) ht hrw c1
   have hM:=λJ=>oV (J:=J) (e:=1) (by decide)
   have hs1:uX b w lv u e.m=1:=by rw[hs0,c1];rfl
   simp only[tA.enc,nI,List.replicate]at hF;simp[h1,hfl,Bk.bF,Bk.cells,ei htn,ei hp,hP,nQ,f1,f2,w1,t1,q1,q2,hyl,hw,hF,hM,hs1,lq,Hb,bU]
  |true =>
   have hF:=λJ=>YY (J:=J) ht hrw c1
   simp only[tA.enc,nI]at hF;have hs1:uX b w lv u e.m=J8 (wI b u) (fC (rowOf b lv) (nI b r w)):=by rw[hs0,c1];rfl
   have hv1:pc b w lv u e.m=uD (wI b u).parts (fC (rowOf b lv) (nI b r w)).m:=by simp[pc,hr]
   by_cases c2:J8 (wI b u) (fC (rowOf b lv) (nI b r w))=0
   .have hacc:=oE acc;have hta:(fM acc aO).take i=fM acc aO:=ah (by omega);have hroom:(i+1)*8<=room:=by unfold room;omega
    have ih:=QY (F:=F) (er:=er) (price:=price) ht hok hrun hp hl hw hlv hu huk m (i+1) (acc++[pc b w lv u e.m]) (by omega) (by simp[ha]);have fin:∀x e' J',Hb b (F::b.bF J.length er::J) w lv u price (acc++[pc b w lv u e.m]) (ls.drop (i+1)) x e' J'->Hb b (F::b.bF J.length er::J) w lv u price acc (e::ls.drop (i+1)) x e' J':=λx e' J' hh=>by
     have hz:uX b w lv u e.m=0:=by rw[hs1,c2]
     simp only[Hb,bU,hz,if_true,aM,cM,dp]at hh ⊢;exact hh
    unfold Z4 at hX;rw[if_pos c2,<- hv1]at hX;simp only[pf.enc,tA.enc,fC,nI]at hX f3;simp[h1,hfl,h4,Bk.bF,Bk.cells,ei htn,ei hp,hP,nQ,f1,f2,w1,t1,q1,q2,hyl,hw,hF,lq,parts,hu,f3,hul,q3,hX,hroom,hacc,hta,ha];exact WL.to ih (by simp) (by simp[Bk.bF,Bk.cells,ei htn,ei hp]) fin
   .unfold Z4 at hX;rw[if_neg c2]at hX;have hM:=λJ=>oV (J:=J) c2
    have hz:uX b w lv u e.m≠0:=by rw[hs1];exact c2
    rw[<- hs1]at hX hM;simp only[pf.enc,tA.enc,fC,nI]at hX f3;simp[h1,hfl,Bk.bF,Bk.cells,ei htn,ei hp,hP,nQ,f1,f2,w1,t1,q1,q2,hyl,hw,hF,lq,parts,hu,f3,hul,q3,hX,hM,hz,Hb,bU]
end Go.Proofs.YtpapbbojmclkgaaGreatDoor
