import Derived.Test.YtpapbbojmclkgaaGreatDoorTxt4
set_option linter.all false
set_option maxRecDepth 100000
namespace Go.Proofs.YtpapbbojmclkgaaGreatDoor
open Go Go.Abs Go.Trem
variable {J:SK}
theorem aaI{lv:Nat}{G:List Abs.aD}(hsg:fq J lv=some G){R:List cF}{l:List Ev}{now may sure:Int}{j:Nat}{r:cF}(hG1:G[1]?=some (.cells R.length (fM R cF.enc)))(hG2:G[2]?=some (.cells l.length (fM l Ev.enc)))(hl:l.length<=200)(hs:∀e∈l,e.sp.length<=2000)(hr:r.ok=true)(hn:bA now 0 1000000=true):∀(m i:Nat) (a b:Nat),i+m=l.length->a+m<=200->b+m<=200 ->
  WL T [1,2,6,7,10,11,12,13,36,37,38,44,45,46] false ja [(1,.sl lv 2 l.length 0 l.length 2),(2,iI now),(6,.int .u8 may),(7,.int .u8 sure),(10,.own 0 r.enc),(11,iI a),(12,iI b),(13,.fn gl [.agg r.enc] []),
    (36,.sl lv 1 R.length 0 R.length 10),(37,iI R.length),(38,iI j),(44,.sl lv 2 l.length 0 l.length 2),(45,iI l.length),(46,iI i)] J
   (λx e J'=>x=.exit 3/\J'=J/\get e 1=.sl lv 2 l.length 0 l.length 2/\get e 2=iI now/\get e 6=.int .u8 may/\get e 7=.int .u8 sure/\get e 10=.own 0 r.enc/\get e 11=iI (a+y9 (sM r now) (l.drop i):Nat)/\get e 12=iI (b+y9 (mg r now) (l.drop i):Nat) /\
    get e 36=.sl lv 1 R.length 0 R.length 10/\get e 37=iI R.length/\get e 38=iI j)
 |0,i,a,b,hi,ha,hb=>by
  refine aB ja.eq_1 ?_;have h1:¬i<l.length:=by omega
  have h2:l.drop i=[]:=by simp;omega
  simp[h1,h2,y9]
 |m+1,i,a,b,hi,ha,hb=>by
  refine aB ja.eq_1 ?_;have g1:i<l.length:=by omega
  obtain⟨e,he⟩:=gE g1;have a1:=bu (f:=Ev.enc) (w:=2) (λ_=>rfl) he;have al:(fM l Ev.enc).length=l.length*2:=ch (f:=Ev.enc) (w:=2) (λ_=>rfl) l;have aq:2<=l.length*2-i*2:=by omega
  have w1:=cr g1 (by omega);have hr':=yR.1 hr;have hn':=aS.1 hn;have hse:=hs e (aj he);have w2:=cf (n:=now-r.uI) (by omega);have w3:=cf (n:=(a:Int)+1) (by omega);have w4:=cf (n:=(b:Int)+1) (by omega);have hC:∀J,Cl ei [lF e.sp pH.enc,.fn gl [.agg r.enc] []] (.bool (l9 e.sp r.IP)) J:=λJ =>
   contains_of Qw kW mH (by omega) (.fn λs _ J=>NR)
  have hA:=λJ=>@K5 J e.sp r.IP (.fn gl [.agg r.enc] []) (.fn λs _ J=>NR) rfl (by omega)
  simp only[cF.enc]at hC hA;have d1:y9 (sM r now) (l.drop i)=y9 (sM r now) (l.drop (i+1))+(if sM r now e then 1 else 0):=by rw[bD he];rfl
  have d2:y9 (mg r now) (l.drop i)=y9 (mg r now) (l.drop (i+1))+(if mg r now e then 1 else 0):=by rw[bD he];rfl
  have ih:=λa b=>aaI hsg hG1 hG2 (R:=R) (may:=may) (sure:=sure) (j:=j) hl hs hr hn m (i+1) a b (by omega)
  rw[d1,d2];by_cases c1:now<e.tick
  .have e1:sM r now e=false:=by simp[sM,cF.act];omega
   have e2:mg r now e=false:=by simp[mg,cF.act];omega
   simp[g1,a1,al,aq,hsg,hG2,w1,c1,e1,e2];exact WL.to (ih a b (by omega) (by omega)) (by simp) rfl λx e J' hh=>by simpa[e1,e2]using hh
  by_cases c2:e.tick<=now-r.uI
  .have e1:sM r now e=false:=by simp[sM,cF.act];omega
   have e2:mg r now e=false:=by simp[mg,cF.act];omega
   simp[g1,a1,al,aq,hsg,hG2,w1,w2,c1,c2,e1,e2];exact WL.to (ih a b (by omega) (by omega)) (by simp) rfl λx e J' hh=>by simpa[e1,e2]using hh
  have act:r.act now e=true:=by simp[cF.act];omega
  have e1:sM r now e=l9 e.sp r.IP:=by simp[sM,act]
  have e2:mg r now e=da e.sp r.IP:=by simp[mg,act]
  rw[e1,e2];have k1:∀u v:Nat,u+1+v=u+(v+1):=by intro u v;omega
  cases c3:l9 e.sp r.IP<;>cases c4:da e.sp r.IP<;>simp only[c3,c4]at hC hA
  .simp[g1,a1,al,aq,hsg,hG2,w1,w2,c1,c2,hC,hA];exact WL.to (ih a b (by omega) (by omega)) (by simp) rfl λx e J' hh=>by simpa[c3,c4]using hh
  .simp[g1,a1,al,aq,hsg,hG2,w1,w2,w4,c1,c2,hC,hA];exact WL.to (ih a (b+1) (by omega) (by omega)) (by simp) rfl λx e J' hh=>by simp only[k1]at hh;simpa[c3,c4]using hh
  .simp[g1,a1,al,aq,hsg,hG2,w1,w2,w3,c1,c2,hC,hA];exact WL.to (ih (a+1) b (by omega) (by omega)) (by simp) rfl λx e J' hh=>by simp only[k1]at hh;simpa[c3,c4]using hh
  .simp[g1,a1,al,aq,hsg,hG2,w1,w2,w3,w4,c1,c2,hC,hA];exact WL.to (ih (a+1) (b+1) (by omega) (by omega)) (by simp) rfl λx e J' hh=>by simp only[k1]at hh;simpa[c3,c4]using hh
theorem RU{lv:Nat}{G:List Abs.aD}(hsg:fq J lv=some G){R:List cF}{l:List Ev}{now:Int}(hR:R.length<=20)(hG1:G[1]?=some (.cells R.length (fM R cF.enc)))(hG2:G[2]?=some (.cells l.length (fM l Ev.enc)))(hl:l.length<=200)(hs:∀e∈l,e.sp.length<=2000)(hr:∀r∈R,r.ok=true)(hn:bA now 0 1000000=true):∀(m j:Nat) (may sure:Int),j+m=R.length ->
  WL T [1,2,6,7,36,37,38] false eQ [(1,.sl lv 2 l.length 0 l.length 2),(2,iI now),(6,.int .u8 may),(7,.int .u8 sure),(36,.sl lv 1 R.length 0 R.length 10),(37,iI R.length),(38,iI j)] J
   (λx e J'=>x=.exit 1/\J'=J/\get e 6=.int .u8 (u6 (λr=>sM r now) l (R.drop j) may)/\get e 7=.int .u8 (u6 (λr=>mg r now) l (R.drop j) sure))
 |0,j,may,sure,hj=>by
  refine aB eQ.eq_1 ?_;have h1:¬j<R.length:=by omega
  have h2:R.drop j=[]:=by simp;omega
  simp[h1,h2,u6]
 |m+1,j,may,sure,hj=>by
  refine aB eQ.eq_1 ?_;have g1:j<R.length:=by omega
  obtain⟨r,hrj⟩:=gE g1;have a1:=bu (f:=cF.enc) (w:=10) (λ_=>rfl) hrj;have al:(fM R cF.enc).length=R.length*10:=ch (f:=cF.enc) (w:=10) (λ_=>rfl) R;have aq:10<=R.length*10-j*10:=by omega
  have w1:=cr g1 (by omega);have hrr:=hr r (aj hrj);have ih:=λmay sure=>RU hsg hR hG1 hG2 hl hs hr hn m (j+1) may sure (by omega)
  rw[bD hrj];simp[g1,a1,al,aq,hsg,hG1];refine WL.to (aaI hsg hG1 hG2 (J:=J) (R:=R) (l:=l) (now:=now) (may:=may) (sure:=sure) (j:=j) hl hs hrr hn l.length 0 0 0 (by omega) (by omega) (by omega)) (by simp) rfl ?_;rintro x e J' ⟨rfl,rfl,e1,e2,e6,e7,e10,e11,e12,e36,e37,e38⟩;simp only[aE,ck]at e11 e12;simp only[u6];by_cases c1:r.count<=y9 (sM r now) l
  .by_cases c2:r.count<=y9 (mg r now) l
   .simp[e1,e2,e6,e7,e10,e11,e12,e36,e37,e38,c1,c2,w1];exact WL.to (ih (max may r.MD) (max sure r.MD)) (by simp) rfl λx e J' hh=>by simpa[c1,c2]using hh
   .simp[e1,e2,e6,e7,e10,e11,e12,e36,e37,e38,c1,c2,w1];exact WL.to (ih (max may r.MD) sure) (by simp) rfl λx e J' hh=>by simpa[c1,c2]using hh
  .by_cases c2:r.count<=y9 (mg r now) l
   .simp[e1,e2,e6,e7,e10,e11,e12,e36,e37,e38,c1,c2,w1];exact WL.to (ih may (max sure r.MD)) (by simp) rfl λx e J' hh=>by simpa[c1,c2]using hh
   .simp[e1,e2,e6,e7,e10,e11,e12,e36,e37,e38,c1,c2,w1];exact WL.to (ih may sure) (by simp) rfl λx e J' hh=>by simpa[c1,c2]using hh
theorem UP{lv:Nat}{G:List Abs.aD}{R:List cF}{l:List Ev}{now:Int}(hsg:fq J lv=some G)(hG1:G[1]?=some (.cells R.length (fM R cF.enc)))(hG2:G[2]?=some (.cells l.length (fM l Ev.enc)))(hR:R.length<=9223372036854775807)(hl:l.length<=9223372036854775807)(hs:∀e∈l,e.sp.length<=9223372036854775807):
  Cl pv [.sl lv 1 R.length 0 R.length 10,.sl lv 2 l.length 0 l.length 2,iI now] (if lY R l now=0 then .cV [.int .u8 (LP R l now),.int .u8 (Nz R l now),iI 0]else .cV [.int .u8 0,.int .u8 0,iI (lY R l now)]) J:=by
 refine au rfl rfl rfl ?_;have hlt:=AK hsg;have hne:¬J.length=lv:=by omega
 have hsg':fq ([]::J) lv=some G:=by simp[fq,hne,hsg]
 have hAR:=Jr (T:=T) (enc:=cF.enc) (w:=10) (λ_=>rfl) (F:=G) (bi:=1) (v:=R.length) (l:=R) (p:=cF.ok) (fv:=.fn hJ [] []) (f:=ep) (g:=gU) (h:=eh) (i:=fa) rfl rfl rfl rfl hG1 hR (.fn λr _ J=>NX) rfl (J:=[]::J) hsg';have hAE:=Jr (T:=T) (enc:=Ev.enc) (w:=2) (λ_=>rfl) (F:=G) (bi:=2) (v:=l.length) (l:=l) (p:=Ev.ok) (fv:=.fn gk [] []) (f:=dX) (g:=gq) (h:=ec) (i:=eJ) rfl rfl rfl rfl hG2 hl (.fn λr hr J=>NS (hs r hr)) rfl (J:=[]::J) hsg';by_cases c1:20<R.length
 .have c1':(20:Int)<R.length:=by omega
  simp[lY,c1,c1']
 have c1':¬(20:Int)<R.length:=by omega
 cases c2:da R cF.ok
 .simp[lY,c1,c1',hAR,c2]
 by_cases c3:200<l.length
 .have c3':(200:Int)<l.length:=by omega
  simp[lY,c1,c1',hAR,c2,c3,c3']
 have c3':¬(200:Int)<l.length:=by omega
 cases c4:da l Ev.ok
 .simp[lY,c1,c1',hAR,c2,c3,c3',hAE,c4]
 cases c5:bA now 0 1000000
 .simp[lY,c1,c1',hAR,c2,c3,c3',hAE,c4,iD,c5]
 have he:lY R l now=0:=by simp[lY,c1,c2,c3,c4,c5]
 rw[if_pos he];simp[c1',hAR,c2,c3',hAE,c4,iD,c5];refine WL.to (RU (J:=[]::J) (lv:=lv) (G:=G) hsg' (R:=R) (l:=l) (now:=now) (by omega) hG1 hG2 (by omega) ?_ (eO.1 c2) c5 R.length 0 0 0 (by omega)) (by simp) rfl ?_
 .intro e he;have:=eO.1 c4 e he;simp only[Ev.ok,af,aS]at this;omega
 .rintro x e J' ⟨rfl,rfl,e6,e7⟩;simp[e6,e7,LP,Nz]
end Go.Proofs.YtpapbbojmclkgaaGreatDoor
namespace Go.Book
open Go Go.Abs Go.Rock
def lD(b:Bk):Int:=if Trem.lY b.rules b.sV b.az.length=0 then Trem.LP b.rules b.sV b.az.length else 0
def mr(b:Bk):Int:=if lD b=0 then b.k0 else if lD b=1 then b.k1 else b.k2
def jh(jr n:Int):Int:=if n<0 then -((-n*jr).tdiv 1000)else n
theorem Pb{f:Trem.cF->Trem.Ev->Bool}{l:List Trem.Ev}:∀{R:List Trem.cF} {a:Int},(∀r∈R,r.ok=true)->0<=a/\a<=2->0<=Trem.u6 f l R a/\Trem.u6 f l R a<=2
 |[],a,_,h=>h
 |r::R,a,hr,h=>by
  have h1:=(Trem.yR.1 (hr r (by simp))).2.2.2.2;simp only[Trem.u6];refine Pb (λr' h'=>hr r' (by simp[h'])) ?_;split
  .rcases h1 with h1 | h1<;>omega
  .exact h
theorem G7{b:Bk}:0<=lD b/\lD b<=2:=by
 unfold lD;split
 .rename_i h;refine Pb (λr hr=>?_) (by omega);unfold Trem.lY at h;split at h
  .omega
  .split at h
   .omega
   .rename_i h2;exact eO.1 (by simpa using h2) r hr
 .omega
end Go.Book
namespace Go.Proofs.YtpapbbojmclkgaaGreatDoor
section
open Go Go.Abs Go.Rock Go.Book
variable {J:SK}
theorem NQ{b:Bk}{er:List Int}{S:SK}(h1:b.rules.length<=1000000)(h2:b.sV.length<=1000000)(h3:∀e∈b.sV,e.sp.length<=1000000)(hs:fq S J.length=some (b.bH J.length er)):
  Cl oC [.ref J.length 6 0 0] (.int .u8 (lD b)) S:=by
 refine au rfl rfl rfl ?_;have hlt:=AK hs;have hne:¬S.length=J.length:=by omega
 have h:=UP (J:=[]::S) (lv:=J.length) (G:=b.bH J.length er) (R:=b.rules) (l:=b.sV) (now:=b.az.length) (by simp[fq,hne,hs]) (by simp[Bk.bH]) (by simp[Bk.bH]) (by omega) (by omega) (λe he=>by have:=h3 e he;omega);have hc6:(b.bH J.length er)[6]?=some (.cells 0 (b.cells J.length)):=by simp[Bk.bH]
 unfold lD;by_cases hc:Trem.lY b.rules b.sV b.az.length=0
 .rw[if_pos hc]at h;simp[hne,hs,hc6,Bk.cells,h,hc]
 .rw[if_neg hc]at h;simp[hne,hs,hc6,Bk.cells,h,hc]
def Cm(J:SK)(bp X:D)(jr:Int)(acc rest:List Int)(x:Abs.Exit)(e:Env)(J':SK):Prop :=
 if da rest (λn=>bA n (-100000) 100000)=true then
  x=.exit 0/\get e 0=bp/\get e 6=X/\get e 8=.sl J.length 0 (acc++rest.map (jh jr)).length 0 (acc++rest.map (jh jr)).length 1/\J'=[.cells (acc++rest.map (jh jr)).length (fM (acc++rest.map (jh jr)) aT)]::J
 else x=.ft (rf 2)/\∃s,J'=s::J
theorem Ms{l:List Int}{jr:Int}(hk:0<=jr/\jr<=1000)(hl:l.length<=1000000){bp X:D}(hb:bp.calm=bp)(hx:X.calm=X):∀(m i:Nat) (acc:List Int),i+m=l.length->acc.length=i ->
  WL T [0,6,7,8,49,50,51] false ga [(0,bp),(6,X),(7,iI jr),(8,.sl J.length 0 i 0 i 1),(49,lF l aT),(50,iI l.length),(51,iI i)] ([.cells i (fM acc aT)]::J)
   (Cm J bp X jr acc (l.drop i))
 |0,i,acc,hi,ha=>by
  refine aB ga.eq_1 ?_;obtain rfl:i=l.length:=by omega
  have h5:l.drop l.length=[]:=an (by omega);simp[h5,Cm,ha,hb,hx,da]
 |m+1,i,acc,hi,ha=>by
  refine aB ga.eq_1 ?_;have hlt:i<l.length:=by omega
  obtain⟨n,hn⟩:=gE hlt;have h4:=cr hlt (by omega);have h5:=bD hn;have a1:=bu (f:=aT) (w:=1) (λ_=>rfl) hn;simp only[aT,cp]at a1;rw[h5];have hr:(i+1)*8<=room:=by unfold room;omega
  cases hc:bA n (-100000) 100000 with
  |false =>
   simp[hlt,a1,hb,hx,eR,hc,dG,Cm,da]
  |true =>
   have hn2:=aS.1 hc;have hcl:(fM acc aT).length=i:=by simp[ch (f:=aT) (w:=1) (λ_=>rfl),ha]
   have ht:(fM acc aT).take i=fM acc aT:=ai (by omega);have ih:=Ms hk hl hb hx m (i+1) (acc++[jh jr n]) (by omega) (by simp[ha]);have fin:∀x e J',Cm J bp X jr (acc++[jh jr n]) (l.drop (i+1)) x e J'->Cm J bp X jr acc (n::l.drop (i+1)) x e J':=λx e J' hh=>by
    simp only[Cm,da,jl,hc,Bool.true_and,aN,dS,dJ]at hh ⊢;exact hh
   by_cases hneg:n<0
   .have e0:=cf (n := -n) (by omega);have p1:0 <= -n*jr:=bF (by omega) hk.1;have p2 : -n*jr<=100000*1000:=cH (by omega) hk.2 hk.1 (by omega);have e1:=cf (n := -n*jr) (by omega);have e2:(-n*jr).tdiv 1000 = -n*jr / 1000:=aO p1;have e3:=cf (n := -n*jr / 1000) (by omega);have e4:=cf (n := -(-n*jr / 1000)) (by omega);have e5:jh jr n = -(-n*jr / 1000):=by rw[jh,if_pos hneg,e2]
    rw[e5]at ih fin;generalize hq : -n*jr=q at e1 e2 e3 e4 ih fin;simp[hlt,a1,hb,hx,eR,hc,cK,hneg,e0,hq,e1,e2,e3,e4,hr,h4,hcl,ht];exact WL.to ih (by simp) (by simp) fin
   .have e5:jh jr n=n:=by rw[jh,if_neg hneg]
    rw[e5]at ih fin;simp[hlt,a1,hb,hx,eR,hc,cK,hneg,hr,h4,hcl,ht];exact WL.to ih (by simp) (by simp) fin
theorem Kf(l:List (List Int)):(fM l pE).length=l.length:=by have:=ch (f:=pE) (w:=1) (λ_=>rfl) l;omega
theorem I9{bs:List Abs.aD}:dj T (.call true lW [.aW] (bs::J))=some (.val (.sl J.length (bs.length+1) 0 0 0 1) ((bs++[.cells 0 [],.cells 0 []])::J)):=by
 refine xk rfl rfl rfl ?_;simp
theorem K8{bs:List Abs.aD}{l:List (List Int)}(hne:l≠[])(hl:l.length<=1000000):dj T (.call true lW [lF l pE] (bs::J)) =
  some (.val (.sl J.length (bs.length+1) 1 0 l.length 1) ((bs++[.cells 0 [],.cells 1 (fM l pE)])::J)):=by
 refine xk rfl rfl rfl ?_;have h7:l.length*24<=room:=by unfold room;omega
 simp[hne,Kf,h7]
theorem QG:IA=pE:=rfl
structure Sz(b:Bk):Prop where
 dL:b.aQ.dL.length<=1000000000
 av:b.aQ.av.length<=1000000
 ms:∀e∈b.ah,e.m.name.length<=1000000000/\e.m.dn.length<=1000000000
theorem Up(b:bU)(m:bV)(az:List (List Int)):∃x y,Bu b m az=.agg [x,y]/\x.clean=true/\y.clean=true:=by
 unfold Bu;split
 .split
  .refine⟨_,_,rfl,?_,?_⟩<;>simp[fN (f:=kS) (λs=>by simp[kS,fN (f:=Rock.aD.enc) (λ_=>by simp[D.clean])])]
  .exact⟨_,_,rfl,rfl,rfl⟩
 .exact⟨_,_,rfl,rfl,rfl⟩
theorem Mr{b:Bk}{er:List Int}{ls:List dQ}{az:List (List Int)}(ht:b.aQ.dL≠[])(hz:Sz b)(hm:∀e∈ls,e∈b.ah)(hl:ls.length<=1000000)(hp:az.length<=1000000000)(hpl:∀l∈az,l.length<=1000000000){S:SK}(hs:fq S J.length=some (b.bH J.length er)):∀(m i:Nat),i+m=ls.length ->
  WL T [0,11,80,81,82] false gb [(0,.ref J.length 6 0 0),(11,lF az pE),(80,lF ls dQ.enc),(81,iI ls.length),(82,iI i)] S
   (λx e J'=>J'=S/\if bT (λe=>lg b.aQ e.m az) (ls.drop i)=0 then x=.exit 2/\get e 0=.ref J.length 6 0 0/\get e 11=lF az pE else x=.ft (rf (bT (λe=>lg b.aQ e.m az) (ls.drop i))))
 |0,i,hi=>by
  refine aB gb.eq_1 ?_;have h1:¬i<ls.length:=by omega
  have h2:ls.drop i=[]:=an (by omega);simp[h1,h2,bT]
 |m+1,i,hi=>by
  refine aB gb.eq_1 ?_;have h1:i<ls.length:=by omega
  obtain⟨e,he⟩:=gE h1;have hem:=hm e (aj he);obtain⟨k1,k2⟩:=hz.ms e hem;have hfl:=bu (f:=dQ.enc) (w:=4) (λ_=>rfl) he;have hd:=bD he;have h4:=cr h1 (by omega);have hlt:=AK hs;have hne:S≠[]:=by intro h;subst h;simp at hlt
  have hP:=UQ (J:=S) (b:=b.aQ) (m:=e.m) (az:=az) (wq:=nl bG.enc b.aQ.av) ke hz.dL (by have:=hz.av;omega) k1 k2 hp hpl hne;have hc6:(b.bH J.length er)[6]?=some (.cells 0 (b.cells J.length)):=by simp[Bk.bH]
  obtain⟨px,py,hx,hx1,hx2⟩:=Up b.aQ e.m az;rw[hx,QG]at hP;have ih:=Mr ht hz hm hl hp hpl hs m (i+1) (by omega);have hlt':=ej (f:=Rw.enc) ht;rw[hd,bT];by_cases hc:lg b.aQ e.m az=0
  .rw[hc]at hP;simp[h1,hfl,h4,hs,hc6,Bk.cells,hlt',hP,nE,hc];exact WL.to ih (by simp) rfl λx e' J' hh=>by simpa[hc]using hh
  .have hM:=oI (J:=S) hc;simp[h1,hfl,hs,hc6,Bk.cells,hlt',hP,hM,hc,rf]
def Io(b:Bk)(az:List (List Int)):Bk:={b with az:=az }
def dt(b:Bk)(l:List Int):List (List Int):=b.az++[l.map (jh (mr b))]
def mf(b:Bk)(l:List Int):Bk×Int :=
 if cc b.ah=[]then(b,8)else if b.az.length<200 then(if l.length=b.aQ.av.length then(if da l (λn=>bA n (-100000) 100000)=true then
  (if bT (λe=>lg b.aQ e.m (dt b l)) (cc b.ah)=0 then(Io b (dt b l),0)else(b,bT (λe=>lg b.aQ e.m (dt b l)) (cc b.ah)))else(b,2))else(b,1))else(b,3)
theorem OQ{f:D->SK->D×SK}{a b:List D}{S:SK}:cG.frzL f (a++b) S=((cG.frzL f a S).1++(cG.frzL f b (cG.frzL f a S).2).1,(cG.frzL f b (cG.frzL f a S).2).2):=by
 induction a generalizing S with
 |nil=>simp
 |cons d a ih=>simp[ih]
theorem V9{l:List (List Int)}:D.bd (fM l pE)=true:=fN (f:=pE) (λx=>by simp[pE,D.clean,ma]) l
theorem LB{S:SK}{L v n:Nat}(hS:S.length=L)(hL:0<L){az:List (List Int)}(hn:n=az.length+1){r:List Int}{M:Abs.aD}:
  cG 0 16 (.sl L 2 v 0 n 1) ([.cells r.length (fM r aT),M,.cells v (fM az pE++[.sl L 0 r.length 0 r.length 1])]::S)=(.bY n (fM (az++[r]) pE),[.dead,M,.dead]::S):=by
 have hne:S≠[]:=by intro h;subst h;simp at hS;omega
 subst hn;have hc:cells? ([Abs.aD.cells r.length (fM r aT),M,.cells v (fM az pE++[.sl L 0 r.length 0 r.length 1])]::S) L 2 v=some (fM az pE++[.sl L 0 r.length 0 r.length 1]):=by simp[hS]
 rw[Wq hL hc];have h3:¬L<=0:=by omega
 have h1:=Fs (l:=0) (n:=15) (l':=L) (i:=0) (v:=r.length) (off:=0) (m:=r.length) (w:=1) (J:=[Abs.aD.cells r.length (fM r aT),M,.dead]::S) (cs:=fM r aT) h3 (by simp[hS]) (by omega);have ht:(fM r aT).take r.length=fM r aT:=ai (by rw[tQ];omega);have hp:=Kf az;have ht2:(fM az pE).take (az.length+1)=fM az pE:=ai (by omega);simp[hS,OQ,V9,h1,ht,hp,ht2,ma,pE,List.take_append]
theorem YW{F:List Abs.aD}{b:Bk}{er:List Int}{nm:List UInt8}{l:List Int}{b':Bk}{e:Int}(ht:b.aQ.dL≠[])(hz:Sz b)(hll:l.length<=1000000)(hml:b.ah.length<=40)(h1:b.rules.length<=1000000)(h2:b.sV.length<=1000000)(h3:∀e∈b.sV,e.sp.length<=1000000)(hk:Trem.fw b.k0 b.k1 b.k2=true)(hpl:∀l∈b.az,l.length<=1000000000)(hd:mf b l=(b',e))(he:e=0):
  dj T (.call false j4 [.ref J.length 6 0 0,.str nm,lF l aT] (F::b.bH J.length er::J))=some (.val (.cV []) (F::b'.bH J.length er::J)):=by
 refine fJ rfl rfl rfl (by simp) ?_;unfold mf at hd;split at hd
 case isTrue=>cases hd;cases he
 rename_i c1;split at hd
 case isFalse=>cases hd;cases he
 rename_i c2;split at hd
 case isFalse=>cases hd;cases he
 rename_i c3;split at hd
 case isFalse=>cases hd;cases he
 rename_i c4;split at hd
 case isFalse=>cases hd;rename_i h;exact absurd he h
 rename_i c5;cases hd;obtain⟨kp0,kp,hkp,hkp2,hkp3⟩:∃c kp:Int,lD b=c/\mr b=kp/\((c=0/\kp=b.k0)\/(c=1/\kp=b.k1)\/(c=2/\kp=b.k2)):=by
  refine⟨_,_,rfl,rfl,?_⟩;have:=G7 (b:=b);unfold mr;split
  .rename_i h;exact .inl ⟨h,rfl⟩
  .split
   .rename_i h;exact .inr (.inl ⟨h,rfl⟩)
   .refine .inr (.inr ⟨by omega,rfl⟩)
 have hkb:0<=kp/\kp<=1000:=by
  simp only[Trem.fw,af,aw]at hk;rcases hkp3 with⟨_,rfl⟩ | ⟨_,rfl⟩ | ⟨_,rfl⟩<;>omega
 have q1:0<(cc b.ah).length:=aG.2 c1;have q2:(b.az.length:Int)<200:=by omega
 have hC:=λS=>NQ (J:=J) (b:=b) (er:=er) (S:=S) h1 h2 h3
 try simp only[Cl]at hC
 have hLf:=λS=>GY (J:=J) (b:=b) (er:=er) (S:=S) (by omega)
 try simp only[lF,Cl]at hLf
 have hR:=Ms (J:=F::b.bH J.length er::J) hkb hll (bp:=.ref J.length 6 0 0) (X:=lF (cc b.ah) dQ.enc) rfl rfl l.length 0 [] (by omega) rfl
 try simp only[lF]at hR
 rw[aE]at hR;rw[hkp]at hC;simp only[Bk.bH,Bk.cells]at hC hLf;have hw:(b.aQ.av.length:Int)=(l.length:Int):=by omega
 rcases hkp3 with⟨rfl,e2⟩ | ⟨rfl,e2⟩ | ⟨rfl,e2⟩
 all_goals
  subst e2;simp[Bk.bH,Bk.cells,hLf,q1,q2,hw,hC,cK];refine WL.to hR (by simp) (by simp[Bk.bH,Bk.cells]) ?_;intro x e J' hq;simp only[Cm,if_pos c4,List.nil_append]at hq;obtain⟨rfl,g0,g6,g8,rfl⟩:=hq;have hnp:dt b l=b.az++[l.map (jh (mr b))]:=rfl;rw[hkp2]at hnp;rw[hnp]at c5 ⊢;generalize hrs:l.map (jh _)=rs at g8 c5 ⊢;have hrl:rs.length=l.length:=by rw[<- hrs];simp
  have⟨hroom,h24⟩:(b.az.length+1)*24<=room/\24<=room:=by unfold room;omega
  have hpel:=Kf b.az;have htk:(fM b.az pE).take b.az.length=fM b.az pE:=ai (by omega);have hfr:=λS v hS=>LB (S:=S) (L:=J.length+1+1) (v:=v) (n:=b.az.length+1) hS (by omega) (az:=b.az) rfl (r:=rs) (M:=.cells 0 [])
  have hLp:=Mr (J:=J) (b:=b) (er:=er) (ls:=cc b.ah) (az:=b.az++[rs]) ht hz (λe he=>(cM.1 he).1) (by have:=fB (λe:dQ=>e.left) b.ah;simp only[cc];omega) (by simp;omega) (by
   intro r hr;rcases aX.1 hr with hr | hr
   .exact hpl r hr
   .simp at hr;subst hr;omega) (S:=[.dead,.cells 0 [],.dead]::F::b.bH J.length er::J) (by simp[fq]) (cc b.ah).length 0 (by omega)
  try simp only[lF]at hLp
  rw[aE]at hLp;have hcl:∀k,(D.bY k (fM b.az pE++pE rs)).clean=true:=λk=>by simp[Ey,V9,pE,ma]
  have hcl0:∀k,(D.bY k (pE rs)).clean=true:=λk=>by simp[pE,ma]
  have hnl2:=ej (f:=pE) (l:=b.az++[rs]) (by simp)
  try simp only[lF]at hnl2
  simp only[bB,aK,bx,ot,eg,rP,cX]at hnl2;by_cases hp0:b.az=[]
  .have hnl:nl pE b.az=.aW:=by simp[nl,hp0]
   have hfr':=hfr;simp only[hp0,bx,rP,List.nil_append,ck]at hfr';simp[g0,g6,g8,Bk.bH,Bk.cells,hnl,I9,h24,hfr'];refine WL.to hLp (by simp[hp0]) (by simp[Bk.bH,Bk.cells,hnl]) ?_;rintro x e J' ⟨rfl,hh⟩;rw[c5,if_pos rfl]at hh;obtain⟨rfl,j0,j11⟩:=hh;simp[j0,j11,Bk.bH,Bk.cells,Io,hnl,hnl2,hcl]
  .simp[g0,g6,g8,Bk.bH,Bk.cells,ej hp0,K8 hp0 (by omega:b.az.length<=1000000),hroom,hpel,htk,hfr];refine WL.to hLp (by simp) (by simp[Bk.bH,Bk.cells,ej hp0]) ?_;rintro x e J' ⟨rfl,hh⟩;rw[c5,if_pos rfl]at hh;obtain⟨rfl,j0,j11⟩:=hh;simp[j0,j11,Bk.bH,Bk.cells,Io,ej hp0,hnl2,hcl]
theorem Vx{F:List Abs.aD}{b:Bk}{er:List Int}{nm:List UInt8}{l:List Int}{b':Bk}{e:Int}(ht:cc b.ah≠[]->b.aQ.dL≠[])(hz:Sz b)(hll:l.length<=1000000)(hml:b.ah.length<=40)(h1:b.rules.length<=1000000)(h2:b.sV.length<=1000000)(h3:∀e∈b.sV,e.sp.length<=1000000)(hk:Trem.fw b.k0 b.k1 b.k2=true)(hpl:∀l∈b.az,l.length<=1000000000)(hd:mf b l=(b',e))(he:e≠0):
  dj T (.call false j4 [.ref J.length 6 0 0,.str nm,lF l aT] (F::b.bH J.length er::J))=some (.ft (rf e) (F::b.bH J.length er::J)):=by
 refine dY rfl rfl rfl ?_;have hLf:=λS=>GY (J:=J) (b:=b) (er:=er) (S:=S) (by omega)
 try simp only[lF,Cl]at hLf
 simp only[Bk.bH,Bk.cells]at hLf;unfold mf at hd;split at hd
 case isTrue c1 =>
  cases hd;simp[Bk.bH,Bk.cells,hLf,c1,dG,D.clean,rf]
 rename_i c1;have ht:=ht c1;have q1:0<(cc b.ah).length:=aG.2 c1;split at hd
 case isFalse c2 =>
  cases hd;have q2:¬(b.az.length:Int)<200:=by omega
  simp[Bk.bH,Bk.cells,hLf,q1,q2,cK,dG,D.clean,rf]
 rename_i c2;have q2:(b.az.length:Int)<200:=by omega
 split at hd
 case isFalse c3 =>
  cases hd;have q3:((l.length:Int) == (b.aQ.av.length:Int))=false:=by simp;omega
  simp[Bk.bH,Bk.cells,hLf,q1,q2,q3,cK,dG,D.clean,rf]
 rename_i c3;obtain⟨kp0,kp,hkp,hkp2,hkp3⟩:∃c kp:Int,lD b=c/\mr b=kp/\((c=0/\kp=b.k0)\/(c=1/\kp=b.k1)\/(c=2/\kp=b.k2)):=by
  refine⟨_,_,rfl,rfl,?_⟩;have:=G7 (b:=b);unfold mr;split
  .rename_i h;exact .inl ⟨h,rfl⟩
  .split
   .rename_i h;exact .inr (.inl ⟨h,rfl⟩)
   .refine .inr (.inr ⟨by omega,rfl⟩)
 have hkb:0<=kp/\kp<=1000:=by
  simp only[Trem.fw,af,aw]at hk;rcases hkp3 with⟨_,rfl⟩ | ⟨_,rfl⟩ | ⟨_,rfl⟩<;>omega
 have hC:=λS=>NQ (J:=J) (b:=b) (er:=er) (S:=S) h1 h2 h3
 try simp only[Cl]at hC
 have hR:=Ms (J:=F::b.bH J.length er::J) hkb hll (bp:=.ref J.length 6 0 0) (X:=lF (cc b.ah) dQ.enc) rfl rfl l.length 0 [] (by omega) rfl
 try simp only[lF]at hR
 rw[aE]at hR;rw[hkp]at hC;simp only[Bk.bH,Bk.cells]at hC;have hw:(b.aQ.av.length:Int)=(l.length:Int):=by omega
 split at hd
 case isFalse c4 =>
  cases hd;have c4':¬da l (λn=>bA n (-100000) 100000)=true:=c4;rcases hkp3 with⟨rfl,e2⟩ | ⟨rfl,e2⟩ | ⟨rfl,e2⟩
  all_goals
   subst e2;simp[Bk.bH,Bk.cells,hLf,q1,q2,hw,hC,cK];refine WL.to hR (by simp) (by simp[Bk.bH,Bk.cells]) ?_;intro x e J' hq;simp only[Cm,if_neg c4']at hq;obtain⟨rfl,s,rfl⟩:=hq;simp[Bk.bH,Bk.cells,D.clean,rf]
 rename_i c4;split at hd
 case isTrue=>cases hd;exact absurd rfl he
 rename_i c5;cases hd;have hM:=λS=>oI (J:=S) c5
 have he':=c5;rcases hkp3 with⟨rfl,e2⟩ | ⟨rfl,e2⟩ | ⟨rfl,e2⟩
 all_goals
  subst e2;simp[Bk.bH,Bk.cells,hLf,q1,q2,hw,hC,cK];refine WL.to hR (by simp) (by simp[Bk.bH,Bk.cells]) ?_;intro x e J' hq;simp only[Cm,if_pos c4,List.nil_append]at hq;obtain⟨rfl,g0,g6,g8,rfl⟩:=hq;have hnp:dt b l=b.az++[l.map (jh (mr b))]:=rfl;rw[hkp2]at hnp;rw[hnp]at c5 ⊢;generalize hrs:l.map (jh _)=rs at g8 c5 ⊢;have hrl:rs.length=l.length:=by rw[<- hrs];simp
  have⟨hroom,h24⟩:(b.az.length+1)*24<=room/\24<=room:=by unfold room;omega
  have hpel:=Kf b.az;have htk:(fM b.az pE).take b.az.length=fM b.az pE:=ai (by omega);have hfr:=λS v hS=>LB (S:=S) (L:=J.length+1+1) (v:=v) (n:=b.az.length+1) hS (by omega) (az:=b.az) rfl (r:=rs) (M:=.cells 0 [])
  have hLp:=Mr (J:=J) (b:=b) (er:=er) (ls:=cc b.ah) (az:=b.az++[rs]) ht hz (λe he=>(cM.1 he).1) (by have:=fB (λe:dQ=>e.left) b.ah;simp only[cc];omega) (by simp;omega) (by
   intro r hr;rcases aX.1 hr with hr | hr
   .exact hpl r hr
   .simp at hr;subst hr;omega) (S:=[.dead,.cells 0 [],.dead]::F::b.bH J.length er::J) (by simp[fq]) (cc b.ah).length 0 (by omega)
  try simp only[lF]at hLp
  rw[aE]at hLp;have hcl:∀k,(D.bY k (fM b.az pE++pE rs)).clean=true:=λk=>by simp[Ey,V9,pE,ma]
  have hcl0:∀k,(D.bY k (pE rs)).clean=true:=λk=>by simp[pE,ma]
  have hnl2:=ej (f:=pE) (l:=b.az++[rs]) (by simp)
  try simp only[lF]at hnl2
  simp only[bB,aK,bx,ot,eg,rP,cX]at hnl2;generalize herr:bT (λe=>lg b.aQ e.m (b.az++[rs])) (cc b.ah)=err at c5 ⊢;have hrc:(D.tP 200 (.agg [iI err])).clean=true:=rfl;by_cases hp0:b.az=[]
  .have hnl:nl pE b.az=.aW:=by simp[nl,hp0]
   have hfr':=hfr;simp only[hp0,bx,rP,List.nil_append,ck]at hfr';simp[g0,g6,g8,Bk.bH,Bk.cells,hnl,I9,h24,hfr'];refine WL.to hLp (by simp[hp0]) (by simp[Bk.bH,Bk.cells,hnl]) ?_;rintro x e J' ⟨rfl,hh⟩;rw[herr,if_neg c5]at hh;subst hh;simp[Bk.bH,Bk.cells,rf,hrc,hnl]
  .simp[g0,g6,g8,Bk.bH,Bk.cells,ej hp0,K8 hp0 (by omega:b.az.length<=1000000),hroom,hpel,htk,hfr];refine WL.to hLp (by simp) (by simp[Bk.bH,Bk.cells,ej hp0]) ?_;rintro x e J' ⟨rfl,hh⟩;rw[herr,if_neg c5]at hh;subst hh;simp[Bk.bH,Bk.cells,rf,hrc,ej hp0]
end
section
open Go Go.Abs Go.Rock
variable {J:SK}
def Cu(t:Int×Int×Int):List D:=[iI t.1,iI t.2.1,iI t.2.2]
theorem aaC(l:List (Int×Int×Int)):(fM l Cu).length=l.length*3:=ch (f:=Cu) (w:=3) (λ_=>rfl) l
theorem Tu{b:bU}{x:sT}{n:Nat}(h:Bv b)(hw:0<=x.jP/\x.jP<=255):
  Cl rZ [.agg (bL b),.agg x.enc,iI n] (iI (eI b n x)) J:=by
 refine au rfl rfl rfl ?_;have hs:=λJ=>AM (J:=J) h
 have hz:=h.sz;have hn:=h.n;have hwl:=h.av;have w1:=cf (n:=x.jP) (by omega);have w2:=cf (n:=(b.n:Int)-1) (by omega);have w3:=cf (n:=(b.av.length:Int)-1) (by omega);unfold eI;cases c1:bA x.jP 1 4
 .simp[dM,w1,c1]
 by_cases c2:x.lo < -10000000000
 .simp[dM,w1,c1,c2]
 by_cases c3:x.hi<x.lo
 .simp[dM,w1,c1,c2,c3]
 by_cases c4:10000000000<x.hi
 .simp[dM,w1,c1,c2,c3,c4]
 have hsz:b.size=(b.n:Int):=hz;by_cases c5:x.jP=1
 .cases c6:bA x.tick 0 n
  .simp[dM,show bA 1 1 4=true from rfl,c2,c3,c4,c5,c6,hs]
  .cases c7:bA x.idx 0 ((b.n:Int)-1)<;>
    simp[dM,w2,show bA 1 1 4=true from rfl,c2,c3,c4,c5,c6,c7,hs,hsz]
 .cases c6:bA x.tick 1 n
  .simp[dM,w1,c1,c2,c3,c4,c5,c6]
  .cases c7:bA x.idx 0 ((b.av.length:Int)-1)<;>
    simp[dM,w1,w3,c1,c2,c3,c4,c5,c6,c7]
theorem YL{lo hi n:Int}(h1 : -10000000000<=lo/\lo<=10000000000)(h2 : -10000000000<=hi/\hi<=10000000000)(hn : -100000000000000<=n/\n<=100000000000000):
  Cl tK [.agg [iI lo,iI hi],iI n] (iI (DH lo hi n)) J:=by
 refine au rfl rfl rfl ?_;have w1:=cf (n:=n-hi) (by omega);have w2:=cf (n:=n-lo) (by omega);have w3:=cf (n:=max 0 (n-hi)+min 0 (n-lo)) (by omega);simp[w1,w2,w3,DH]
theorem Vz{y:Rock.aD}(h1:0<=y.m/\y.m<=1000000)(h2:0<=y.h/\y.h<=10000000000):Cl mG [.agg y.enc] (iI y.FK) J:=by
 refine au rfl rfl rfl ?_;unfold Rock.aD.FK;by_cases c:y.m=0
 .simp[c]
 .have e:y.h.tdiv y.m=y.h / y.m:=aO h2.1;have b1:0<=y.h / y.m/\y.h / y.m<=y.h:=⟨Int.ediv_nonneg h2.1 h1.1,Int.ediv_le_self _ h2.1⟩;have w1:=cf (n:=y.h.tdiv y.m) (by omega);simp[c,w1]
theorem Ml:Cl xx [] (.agg [.pC,.pC,.fn oN [] [],.fn mG [] [],.fn nM [] []]) J:=by
 refine au rfl rfl rfl ?_;simp
theorem X0{y:Rock.aD}(h1:0<=y.m/\y.m<=1000000)(h2:0<=y.h/\y.h<=10000000000):0<=y.FK/\y.FK<=10000000000:=by
 unfold Rock.aD.FK;split
 .omega
 .rw[aO h2.1];have b1:0<=y.h / y.m/\y.h / y.m<=y.h:=⟨Int.ediv_nonneg h2.1 h1.1,Int.ediv_le_self _ h2.1⟩;omega
theorem SP{b:bU}{m:bV}{r:RunT}{n:Nat}{x:sT}(h:Fv b m)(hr:Lg b n r.1 r.2)(hx:UG b n x):0<=oR b m r x/\oR b m r x<=1000000000000:=by
 unfold oR;split
 .rename_i h1;obtain⟨p1,p2,p3⟩:=hx.p h1;have hz:=h.bv.sz;obtain⟨s1,s2⟩:=Xy hr (t:=x.tick.toNat) (by omega);rw[s1];have:=GI h s2 (i:=x.idx.toNat) (by unfold bU.size at p3;omega);simp only[Option.getD_some];omega
 .rename_i h1;obtain⟨p1,p2,p3⟩:=hx.y h1;obtain⟨y1,y2⟩:=Ps hr (t:=x.tick.toNat-1) (by omega);have y3:=S9 y2 (w:=x.idx.toNat) (by omega);obtain⟨g1,g2,g3⟩:=y2.ok _ (aj y3);rw[y1];simp only[Option.getD_some,Rock.aD.Md];have:=X0 g1 g2;split
  .omega
  .split<;>omega
theorem YY{b:bU}{m:bV}{r:RunT}{n:Nat}{x:sT}(h:Fv b m)(hr:Lg b n r.1 r.2)(hx:UG b n x)(hn:n<=200):
  Cl qR [.agg (bM b m),.agg [lF r.1 kS,lF r.2 kS],.agg x.enc] (iI (oR b m r x)) J:=by
 refine au rfl rfl rfl ?_;unfold oR;have hsl:=hr.sl;have hyl:=hr.yl;by_cases h1:x.jP=1
 .obtain⟨p1,p2,p3⟩:=hx.p h1;have hz:=h.bv.sz;obtain⟨s1,s2⟩:=Xy hr (t:=x.tick.toNat) (by omega);have hP:=λJ=>Jd (J:=J) h s2 (i:=x.idx.toNat) (by unfold bU.size at p3;omega)
  rw[dK p2]at hP;have a1:=XO s1;have e2:x.tick<((n:Int)+1):=by omega
  rw[s1];simp[h1,hsl,p1.1,e2,a1,hP]
 .obtain⟨p1,p2,p3⟩:=hx.y h1;obtain⟨y1,y2⟩:=Ps hr (t:=x.tick.toNat-1) (by omega);have y3:=S9 y2 (w:=x.idx.toNat) (by omega);obtain⟨g1,g2,g3⟩:=y2.ok _ (aj y3);have a1:=XO y1;have a4:=bu (f:=aD.enc) (w:=3) (λ_=>rfl) y3;have hyw:=y2.len;have w1:=cf (n:=x.tick-1) (by omega);have⟨e1,e2,e3⟩:0<=x.tick-1/\x.tick-1<(n:Int)/\(x.tick-1).toNat=x.tick.toNat-1:=by omega
  have hw:=hx.jP;rw[if_neg h1,y1];have hA:=λJ=>Y0 (J:=J) (x:=aP (rowAt r.2 (x.tick.toNat-1)) x.idx.toNat)
  have hK:=λJ=>VC (J:=J) (x:=aP (rowAt r.2 (x.tick.toNat-1)) x.idx.toNat)
  simp only[aD.enc]at hA hK;rcases(show x.jP=2\/x.jP=3\/x.jP=4 by omega)with h2 | h2 | h2
  .simp[h2,hyl,w1,p1.1,e2,e3,a1,a4,Ml,hA,hyw,p2,p3,Rock.aD.Md]
  .have hW:=λJ=>Vz (J:=J) g1 g2
   simp only[aD.enc]at hW;simp[h2,hyl,w1,p1.1,e2,e3,a1,a4,Ml,hW,hyw,p2,p3,Rock.aD.Md]
  .simp[h2,hyl,w1,p1.1,e2,e3,a1,a4,Ml,hK,hyw,p2,p3,Rock.aD.Md]
theorem Na{l:List sT}{j:Nat}{m:sT}(h:l[j]?=some m):((fM l sT.enc).drop (j*5)).take 5=m.enc :=
 bu (f:=sT.enc) (w:=5) (λ_=>rfl) h
theorem TA{A B:Abs.aD}:dj T (.zg fF [.ref J.length 2 0 0] (some (.tP 428 (.agg []))) ([A,B,.cells 0 [iI 0]]::J))=some (.val (.cV []) ([A,B,.cells 0 [iI 9]]::J)):=by
 refine C0 rfl rfl rfl (by simp[ri];exact⟨rfl,rfl⟩) ?_;simp
theorem Wa(l:List sT):D.bd (fM l sT.enc)=true:=fN (λx=>by simp) l
theorem Sd(l:List (List Int)):D.bd (fM l IA)=true:=fN (λx=>by simp[IA,D.clean,ma]) l
theorem Dp{l0 L i w n:Nat}{S:SK}(hn:0<n)(h:¬L<=l0)(hc:cells? S L i 0=some []):cG l0 n (.sl L i 0 0 0 w) S=(.bY 0 [],bh S L i .dead):=by
 rw[Fs h hc hn];simp
theorem Sj{l0 L i w:Nat}{S:SK}(h:¬L<=l0)(hc:cells? S L i 0=some []):cG l0 16 (.sl L i 0 0 0 w) S=(.bY 0 [],bh S L i .dead):=Dp (by omega) h hc
theorem VK{b:bU}{l:List bV}{az:List (List Int)}{rd:List sT}(h:Ok b l az)(hl:rd.length<=40)(hw:∀x∈rd,0<=x.jP/\x.jP<=255){A B:Abs.aD}:∀(k i:Nat),i+k=rd.length ->
  WL T [1,2,3,4,8,9,10,32,33,34] true kq [(1,lF l bV.enc),(2,lF az IA),(3,lF rd sT.enc),(4,.bf (bL b)),(8,.sl J.length 0 0 0 0 1),(9,.sl J.length 1 0 0 0 3),(10,.ref J.length 2 0 0),(32,lF rd sT.enc),(33,iI rd.length),(34,iI i)] ([A,B,.cells 0 [iI 0]]::J)
   (λx e J'=>if bT (eI b az.length) (rd.drop i)=0 then x=.exit 0/\J'=[A,B,.cells 0 [iI 0]]::J/\get e 1=lF l bV.enc/\get e 2=lF az IA/\get e 3=lF rd sT.enc/\get e 4=.bf (bL b)/\get e 8=.sl J.length 0 0 0 0 1/\get e 9=.sl J.length 1 0 0 0 3/\get e 10=.ref J.length 2 0 0
    else x=.ret/\get e 8=.bY 0 []/\get e 9=.bY 0 []/\get e 10=.ref J.length 2 0 0/\J'=[A,B,.cells 0 [iI (bT (eI b az.length) (rd.drop i))]]::J):=by
 intro k;induction k with
 |zero =>
  intro i hi;refine FP kq.eq_1 ?_;have h1:¬i<rd.length:=by omega
  have h2:rd.drop i=[]:=an (by omega);simp[h1,h2,bT,V7,Wa,Cz,xl,Sd]
 |succ k ih0 =>
  intro i hi;refine FP kq.eq_1 ?_;have h1:i<rd.length:=by omega
  obtain⟨x,hx⟩:=gE h1;have h2:=Na hx;have h4:=cr h1 (by omega);have h5:=bD hx;have hC:=λJ=>Tu (J:=J) (n:=az.length) h.bv (hw x (aj hx))
  simp only[sT.enc]at h2 hC;have ih:=ih0 (i+1) (by omega);rw[h5,bT];by_cases hc:eI b az.length x=0
  .simp[h1,h2,h4,hC,hc,V7,Wa,Cz,xl,Sd];exact WL.to ih (by simp) (by simp) λx e J hh=>by simpa[hc]using hh
  .simp[h1,h2,hC,hc];have z:=Sj (l0:=J.length) (L:=J.length+1) (i:=0) (w:=1) (S:=[.cells 0 [],.cells 0 []]::[A,B,.cells 0 [iI (eI b (az.length:Int) x)]]::J) (by omega) (by simp);simp at z;rw[z];simp only[];rw[Sj (by omega) (by simp)];simp
abbrev Tri:=Int×Int×Int
def BB(i n:Nat):Nat->List Int->Nat×List Tri->Nat×List Tri
 |_,[],st=>st
 |k,v::vs,st=>BB i n (k+1) vs (if v≠0/\st.1=n then(k,st.2++[((i:Int),(k:Int),v)])else st)
theorem Ks{i n:Nat}:∀(vs:List Int) (k:Nat) (st:Nat×List Tri),st.1≠n->BB i n k vs st=st
 |[],k,st,h=>rfl
 |v::vs,k,st,h=>by
  simp only[BB];rw[if_neg (λhh=>h hh.2)];exact Ks vs (k+1) st h
theorem L4{i n:Nat}:∀(vs:List Int) (k:Nat) (st:Nat×List Tri),k+vs.length=n->(st.1≠n->st.1<n)->(BB i n k vs st).2.length<=st.2.length+1/\(BB i n k vs st).1<=n
 |[],k,st,h,hh=>by simp only[BB];exact⟨by omega,Classical.byContradiction λh1=>by have:=hh (by omega);omega⟩
 |v::vs,k,st,h,hh=>by
  simp only[BB];simp only[aK]at h;by_cases hc:v≠0/\st.1=n
  .rw[if_pos hc,Ks vs (k+1) _ (by simp only;omega)];simp;omega
  .rw[if_neg hc];exact L4 vs (k+1) st (by omega) hh
def Fc(b:bU)(m:bV)(r:RunT)(rd:List sT):List Int:=rd.map λx=>DH x.lo x.hi (oR b m r x)
theorem LR(b:bU)(m:bV)(r:RunT)(rd:List sT):(Fc b m r rd).length=rd.length:=by simp[Fc]
theorem ack{b:bU}{l:List bV}{az:List (List Int)}{rd:List sT}{rs:List RunT}{m:bV}{r:RunT}{i:Nat}(h:Ok b l az)(hR:Rs b l az.length rs)(hl:rd.length<=40)(hx:∀x∈rd,UG b az.length x)(hm:l[i]?=some m)(hr:rs[i]?=some r){A B:Abs.aD}{L10:Nat}{s0:Nat}(hs0:s0<=100):
  ∀(k j:Nat) (st:Nat×List Tri),j+k=rd.length->st.1<=rd.length->st.2.length<=s0+j ->
  WL T [3,4,8,9,10,15,16,17,18,51,52,53,60,61,62] false kr [(3,lF rd sT.enc),(4,.bf (bL b)),(8,.sl J.length 0 L10 0 L10 1),(9,.sl J.length 1 st.2.length 0 st.2.length 3),(10,.ref J.length 2 0 0),(15,lF rs FI),(16,iI i),(17,.own 0 (mL m)),(18,iI st.1),(51,lF l bV.enc),(52,iI l.length),(53,iI i),(60,lF rd sT.enc),(61,iI rd.length),(62,iI j)]
   ([A,.cells st.2.length (fM st.2 Cu),B]::J)
   (λx e J'=>x=.exit 4/\∃st',st'=BB i rd.length j ((Fc b m r rd).drop j) st/\get e 3=lF rd sT.enc/\get e 4=.bf (bL b)/\get e 8=.sl J.length 0 L10 0 L10 1/\get e 9=.sl J.length 1 st'.2.length 0 st'.2.length 3/\get e 10=.ref J.length 2 0 0/\get e 15=lF rs FI/\get e 16=iI i/\get e 18=iI st'.1/\get e 51=lF l bV.enc/\get e 52=iI l.length/\get e 53=iI i /\
    J'=[A,.cells st'.2.length (fM st'.2 Cu),B]::J):=by
 intro k;induction k with
 |zero =>
  intro j st hj h1 h2;refine aB kr.eq_1 ?_;have h3:¬j<rd.length:=by omega
  have h4:(Fc b m r rd).drop j=[]:=an (by rw[LR];omega);simp[h3,h4,BB]
 |succ k ih0 =>
  intro j st hj g1 g2;refine aB kr.eq_1 ?_;have h1:j<rd.length:=by omega
  obtain⟨x,hxj⟩:=gE h1;have hmm:=aj hm;have hrr:=hR.all r (aj hr);have hxv:=hx x (aj hxj);have h2:=Na hxj;have h4:=cr h1 (by omega);have hpl:=h.Uq;have hi:i<rs.length:=(aA.1 hr).1;have hV:=λJ=>YY (J:=J) (h.fv m hmm) hrr hxv hpl
  have hb:=SP (h.fv m hmm) hrr hxv;have hen:=hxv.ends;have hM:=λJ=>YL (J:=J) (lo:=x.lo) (hi:=x.hi) (n:=oR b m r x) (by omega) (by omega) (by omega)
  have a1:=aag hr;have e1:(Fc b m r rd)[j]?=some (DH x.lo x.hi (oR b m r x)):=by simp[Fc,hxj]
  have h5:=bD e1;simp only[sT.enc]at h2 hV;have a7:=aaC st.2;have a8:(fM st.2 Cu).take (st.2.length*3)=fM st.2 Cu:=ai (by omega);have h8:(st.2.length+1)*24<=room:=by unfold room;omega
  rw[h5,BB];generalize DH x.lo x.hi (oR b m r x)=v at *
  by_cases c1:v=0
  .have ih:=ih0 (j+1) st (by omega) g1 (by omega);simp[h1,h2,h4,hV,hM,hi,a1,c1];exact WL.to ih (by simp) (by simp) λx e J hh=>by simpa[c1]using hh
  .by_cases c2:st.1=rd.length
   .have ih:=ih0 (j+1) (j,st.2++[((i:Int),(j:Int),v)]) (by omega) (by simp only;omega) (by simp;omega);simp[h1,h2,h4,hV,hM,hi,a1,c1,c2,a7,a8,h8];exact WL.to ih (by simp) (by simp[Cu]) λx e J hh=>by simpa[c1,c2]using hh
   .have ih:=ih0 (j+1) st (by omega) g1 (by omega);have c3:¬(st.1:Int)=rd.length:=by omega
    simp[h1,h2,h4,hV,hM,hi,a1,c1,c2,c3];exact WL.to ih (by simp) (by simp) λx e J hh=>by simpa[c2]using hh
def Kj(b:bU)(rd:List sT):Nat->List (bV×RunT)->List Int×List Tri->List Int×List Tri
 |_,[],st=>st
 |i,p::t,st=>Kj b rd (i+1) t (if(BB i rd.length 0 (Fc b p.1 p.2 rd) (rd.length,st.2)).1=rd.length then st.1++[(i:Int)]else st.1,(BB i rd.length 0 (Fc b p.1 p.2 rd) (rd.length,st.2)).2)
theorem acj{b:bU}{l:List bV}{az:List (List Int)}{rd:List sT}{rs:List RunT}(h:Ok b l az)(hR:Rs b l az.length rs)(hl:rd.length<=40)(hx:∀x∈rd,UG b az.length x){B:Abs.aD}:
  ∀(k i:Nat) (st:List Int×List Tri),i+k=l.length->st.1.length<=i->st.2.length<=i ->
  WL T [3,4,8,9,10,15,51,52,53] false ku [(3,lF rd sT.enc),(4,.bf (bL b)),(8,.sl J.length 0 st.1.length 0 st.1.length 1),(9,.sl J.length 1 st.2.length 0 st.2.length 3),(10,.ref J.length 2 0 0),(15,lF rs FI),(51,lF l bV.enc),(52,iI l.length),(53,iI i)]
   ([.cells st.1.length (fM st.1 aT),.cells st.2.length (fM st.2 Cu),B]::J)
   (λx e J'=>x=.exit 2/\∃st',st'=Kj b rd i ((l.zip rs).drop i) st/\get e 8=.sl J.length 0 st'.1.length 0 st'.1.length 1/\get e 9=.sl J.length 1 st'.2.length 0 st'.2.length 3/\get e 10=.ref J.length 2 0 0 /\
    J'=[.cells st'.1.length (fM st'.1 aT),.cells st'.2.length (fM st'.2 Cu),B]::J):=by
 intro k;induction k with
 |zero =>
  intro i st hi g1 g2;refine aB ku.eq_1 ?_;have h1:¬i<l.length:=by omega
  have h2:(l.zip rs).drop i=[]:=an (by rw[List.length_zip];omega);simp[h1,h2,Kj]
 |succ k ih0 =>
  intro i st hi g1 g2;refine aB ku.eq_1 ?_;have h1:i<l.length:=by omega
  have hlen:=hR.len;have hne:=hR.ne;obtain⟨m,hm⟩:=gE h1;obtain⟨r,hr⟩:∃r,rs[i]?=some r:=gE (by omega);have h2:=Sy hm;have h4:=cr h1 (by omega);have hz:(l.zip rs)[i]?=some (m,r):=by simp[List.getElem?_zip_eq_some,hm,hr]
  have h5:=bD hz;have hsl:=L4 (i:=i) (Fc b m r rd) 0 (rd.length,st.2) (n:=rd.length) (by rw[LR];omega) (by simp);rw[h5,Kj];simp[h1,h2];refine WL.to (ack (J:=J) h hR hl hx hm hr (A:=.cells st.1.length (fM st.1 aT)) (B:=B) (L10:=st.1.length) (s0:=50) (by omega) rd.length 0 (rd.length,st.2) (by omega) (by simp) (by simp only;omega)) (by simp) (by simp) ?_;rintro x e J' ⟨rfl,st',hst,q3,q4,q8,q9,q10,q15,q16,q18,q51,q52,q53,rfl⟩;rw[aE]at hst;rw[<- hst];rw[<- hst]at hsl;have a4:=So st.1;have a6:(fM st.1 aT).take st.1.length=fM st.1 aT:=ai (by omega);have h7:(st.1.length+1)*8<=room:=by unfold room;omega
  by_cases hc:st'.1=rd.length
  .have ih:=ih0 (i+1) (st.1++[(i:Int)],st'.2) (by omega) (by simp;omega) (by simp only at hsl ⊢;omega);rw[if_pos hc];simp[q3,q4,q8,q9,q10,q15,q16,q18,q51,q52,q53,hc,h4,a4,a6,h7];exact WL.to ih (by simp) (by simp) λx e J hh=>by simpa using hh
  .have ih:=ih0 (i+1) (st.1,st'.2) (by omega) (by simp only;omega) (by simp only at hsl ⊢;omega);rw[if_neg hc];have hc':¬(st'.1:Int)=rd.length:=by omega
   simp[q3,q4,q8,q9,q10,q15,q16,q18,q51,q52,q53,hc',h4];exact WL.to ih (by simp) (by simp) λx e J hh=>by simpa using hh
def Rc(b:bU)(l:List bV)(az:List (List Int))(rd:List sT):D :=
 if va b az.length rd=0 then
  match yT b az l with
  |some rs => .cV [.bY (Kj b rd 0 (l.zip rs) ([],[])).1.length (fM (Kj b rd 0 (l.zip rs) ([],[])).1 aT),.bY (Kj b rd 0 (l.zip rs) ([],[])).2.length (fM (Kj b rd 0 (l.zip rs) ([],[])).2 Cu),.int .i64 0]
  |none => .cV [.bY 0 [],.bY 0 [],.int .i64 9]
 else .cV [.bY 0 [],.bY 0 [],iI (va b az.length rd)]
theorem Hh{l0 a b:Nat}{k:Int}{A B:List D}{S S1 S2:SK}{d1 d2:D}(h1:cG l0 15 d1 S=(.bY a A,S1))(h2:cG l0 15 d2 S1=(.bY b B,S2)):cG l0 16 (.cV [d1,d2,iI k]) S=(.cV [.bY a A,.bY b B,iI k],S2):=by
 by_cases hc:D.clean (.cV [d1,d2,iI k])=true
 .rw[eW hc (by omega)];simp only[D.clean,D.bd,Bool.and_true,af]at hc;rw[eW hc.1 (by omega)]at h1;rw[eW hc.2 (by omega)]at h2;cases h1;cases h2;rfl
 .rw[tA (by simpa using hc) (by omega)];simp only[lA,nf];rw[h1];simp only;rw[h2];simp only;rw[eW (by rfl) (by omega)]
end
section
open Go Go.Abs Go.Rock Go.Book
variable {J:SK}
theorem Gn{α:Type}{f:α->List D}{l:List α}{v t:Nat}{e:Env}{S:SK}(h:Abs.get e v=nl f l):Abs.get (QB v (nl f l) e S).1 t=if v=t then lF l f else Abs.get e t:=by
 unfold nl at h ⊢;split at h
 .rename_i hl;subst hl;simp
 .rename_i hl;simp[hl];intro hh;subst hh;exact h
theorem IT{α:Type}{f:α->List D}{l:List α}{v:Nat}{e:Env}{S:SK}:(QB v (nl f l) e S).2=S:=by
 unfold nl;split<;>simp
theorem P6{wq:D}{b:bU}{l:List bV}{az:List (List Int)}{rd:List sT}(hwq:wq.pY=lF b.av bG.enc)(h:Ok b l az)(hl:rd.length<=1000000000)(hw:∀x∈rd,0<=x.jP/\x.jP<=255)(hJ:J≠[]):
  Cl pn [.agg [iI b.f.x,iI b.f.y,iI b.f.z,iI b.f.k,lF b.dL Rw.enc,iI b.cz,iI b.lift,iI b.deep,wq],lF l bV.enc,nl IA az,lF rd sT.enc] (Rc b l az rd) J:=by
 have h1:=λJ=>YI (J:=J) h
 unfold Rc;by_cases c0:40<rd.length
 .have e1:va b az.length rd=3:=by simp[va,c0]
  rw[e1];refine au rfl rfl rfl ?_;simp[hwq,Gn,IT,h1,show(40:Int)<rd.length by omega];have hp:=aG.2 hJ;rw[Hh (Dp (by omega) (by omega) (by simp)) (Dp (by omega) (by omega) (by simp))];simp
 have e1:va b az.length rd=bT (eI b az.length) rd:=by simp[va,c0]
 rw[e1];have c0':¬(40:Int)<rd.length:=by omega
 have hL:=VK (J:=J) h (by omega) hw (A:=.cells 0 []) (B:=.cells 0 []) rd.length 0 (by omega);rw[aE]at hL;by_cases c1:bT (eI b az.length) rd=0
 .rw[c1]at hL;rw[if_pos c1];have hx:∀x∈rd,UG b az.length x:=λx hx=>UG.of (sG c1 x hx)
  refine Ot Jm tp.eq_1 rfl rfl ?_;cases hrs:yT b az l with
  |none =>
   have h2:=λJ=>Vu (J:=J) h hrs
   have hX:wk T (.fn fF [] []) [.ref J.length 2 0 0] (some (.tP 428 (.agg []))) ([.cells 0 [],.cells 0 [],.cells 0 [iI 0]]::J)=some ([.cells 0 [],.cells 0 [],.cells 0 [iI 9]]::J):=uL TA;simp[toD,hwq,Gn,IT,h1,c0'];refine WL.to hL (by simp) (by simp) ?_;intro x e J' hh;rw[if_pos rfl]at hh;obtain⟨rfl,rfl,g1,g2,g3,g4,g8,g9,g10⟩:=hh;simp[];rw[AP nG.eq_1];simp[OF,g1,g2,g4,g8,g9,g10,h2,hX];have hp:=aG.2 hJ;rw[Hh (Dp (by omega) (by omega) (by simp)) (Dp (by omega) (by omega) (by simp))];simp
  |some rs =>
   have hR:=Rs.of h hrs;have h2:=λJ hJ=>Vv (J:=J) h hJ hrs hR.len
   simp[toD,hwq,Gn,IT,h1,c0'];refine WL.to hL (by simp) (by simp) ?_;intro x e J' hh;rw[if_pos rfl]at hh;obtain⟨rfl,rfl,g1,g2,g3,g4,g8,g9,g10⟩:=hh;simp[];rw[AP nG.eq_1];simp[g1,g2,g3,g4,g8,g9,g10,h2];refine WL.to (acj (J:=J) h hR (by omega) hx (B:=.cells 0 [iI 0]) l.length 0 ([],[]) (by omega) (by simp) (by simp)) (by simp) (by simp) ?_;rintro x e J' ⟨rfl,st,hst,q8,q9,q10,rfl⟩;rw[aE]at hst;rw[<- hst];have hX:wk T (.fn fF [] []) [.ref J.length 2 0 0] none ([.cells st.1.length (fM st.1 aT),.cells st.2.length (fM st.2 Cu),.cells 0 [iI 0]]::J)=some ([.cells st.1.length (fM st.1 aT),.cells st.2.length (fM st.2 Cu),.cells 0 [iI 0]]::J):=uL Jp;simp[OF,q8,q9,q10,g10,hX];rw[Hh (nB (n:=15) (f:=aT) (w:=1) (l:=st.1) (by decide) (λ_=>rfl) (λx=>by simp) hJ (by simp)) (nB (n:=15) (f:=Cu) (w:=3) (l:=st.2) (by decide) (λ_=>rfl) (λx=>by simp[Cu]) hJ (by simp))];simp
 .simp only[c1,if_false];refine au rfl rfl rfl ?_;simp[hwq,Gn,IT,h1,c0'];refine WL.to hL (by simp) (by simp) ?_;intro x e J' hh;rw[if_neg c1]at hh;obtain⟨rfl,g8,g9,g10,rfl⟩:=hh;simp[g8,g9,g10]
end
end Go.Proofs.YtpapbbojmclkgaaGreatDoor
namespace Go.Book
open Go Go.Abs Go.Rock
def K2(lo hi s:Int):Int:=if hi<s\/s<lo then s else lo
end Go.Book
namespace Go.Proofs.YtpapbbojmclkgaaGreatDoor
open Go Go.Abs Go.Rock Go.Book
variable {J:SK}
def oS(b:Bk)(x:sT)(m:bV):Int:=match Rock.run b.aQ m b.az with
 |some r=>K2 x.lo x.hi (oR b.aQ m r x)
 |none=>x.lo
theorem S6{b:bU}{m:bV}{az:List (List Int)}{x:sT}{r:RunT}(hr:va b az.length [x]=0)(hrun:Rock.run b m az=some r):
  ∃n A,Rc b [m] az [x]=.cV [.bY n A,.bY (if DH x.lo x.hi (oR b m r x)=0 then 0 else 1) (if DH x.lo x.hi (oR b m r x)=0 then []else Cu (0,0,DH x.lo x.hi (oR b m r x))),iI 0]/\D.bd A=true:=by
 have h1:yT b az [m]=some [r]:=by simp[yT,hrun]
 refine⟨(Kj b [x] 0 [(m,r)] ([],[])).1.length,fM (Kj b [x] 0 [(m,r)] ([],[])).1 aT,?_,ma _⟩;unfold Rc;rw[if_pos hr,h1];by_cases hz:DH x.lo x.hi (oR b m r x)=0<;>simp[Kj,BB,Fc,hz]
theorem aas{b:bU}{m:bV}{az:List (List Int)}{x:sT}(hr:va b az.length [x]≠0):Rc b [m] az [x]=.cV [.bY 0 [],.bY 0 [],iI (va b az.length [x])]:=by
 unfold Rc;rw[if_neg hr]
theorem Bw{b:bU}{n:Int}{x:sT}:va b n [x]=eI b n x:=by
 simp only[va,aK,bx,bT];by_cases h:eI b n x=0<;>simp[h]
theorem Ff{b:Bk}{m:bV}{x:sT}(ht:b.aQ.dL≠[])(hok:Ok b.aQ [m] b.az)(hw:0<=x.jP/\x.jP<=255)(hJ:J≠[]):
  Cl pn [.agg [iI b.aQ.f.x,iI b.aQ.f.y,iI b.aQ.f.z,iI b.aQ.f.k,nl Rw.enc b.aQ.dL,iI b.aQ.cz,iI b.aQ.lift,iI b.aQ.deep,nl bG.enc b.aQ.av],.bY 1 (mL m),nl pE b.az,.bY 1 x.enc] (Rc b.aQ [m] b.az [x]) J:=by
 have h:=P6 (J:=J) (wq:=nl bG.enc b.aQ.av) ke hok (rd:=[x]) (by simp) (by intro y hy;simp at hy;subst hy;exact hw) hJ;rw[ej ht];simpa[QG]using h
theorem YG{F:List Abs.aD}{b:Bk}{er:List Int}{m:bV}{x:sT}{w:Int}{r:RunT}(ht:b.aQ.dL≠[])(hok:Ok b.aQ [m] b.az)(hw:0<=x.jP/\x.jP<=255)(hr:eI b.aQ b.az.length x=0)(hrun:Rock.run b.aQ m b.az=some r):
  Cl iR [.agg (mL m),.bf [.ref J.length 6 0 0],.ref (J.length+1+1) 0 0 0,.bf [.bY 4 [iI w,iI x.idx,iI x.lo,iI x.hi]]] (iI (oS b x m)) ([]::[.cells 0 x.enc]::F::b.bH J.length er::J):=by
 refine au rfl rfl rfl ?_;have hS:=λS hS=>Ff (J:=S) ht hok hw hS
 obtain⟨n,A,h1,hA⟩:=S6 (b:=b.aQ) (m:=m) (az:=b.az) (x:=x) (by rw[Bw];exact hr) hrun;rw[h1]at hS;have hd:=UG.of hr;have hb:=SP (hok.fv m (by simp)) (Lg.of (hok.fv m (by simp)) hok.aF hrun) hd;obtain⟨e1,e2,e3⟩:=hd.ends;have hv:oS b x m=K2 x.lo x.hi (oR b.aQ m r x):=by simp[oS,hrun]
 rw[hv];have hm:=QO (lo:=x.lo) (hi:=x.hi) (s:=oR b.aQ m r x) e2;generalize oR b.aQ m r x=s at *
 simp only[sT.enc]at hS ⊢;unfold W3 at hm;by_cases c1:x.hi<s
 .rw[if_pos c1]at hm;have⟨c2,c3⟩:¬s-x.hi=0/\0<s-x.hi:=by omega
  have w1:IntKind.i64.wrap (x.hi+(s-x.hi))=s:=by rw[show x.hi+(s-x.hi)=s by omega];exact cf (by omega)
  have hq:K2 x.lo x.hi s=s:=by simp[K2,c1]
  rw[hm]at hS;simp[Bk.bH,Bk.cells,hS,c1,c2,w1,hq,Cu]
 .rw[if_neg c1]at hm;by_cases c4:s<x.lo
  .rw[if_pos c4]at hm;have⟨c2,c3⟩:¬s-x.lo=0/\¬0<s-x.lo:=by omega
   have w1:IntKind.i64.wrap (x.lo+(s-x.lo))=s:=by rw[show x.lo+(s-x.lo)=s by omega];exact cf (by omega)
   have hq:K2 x.lo x.hi s=s:=by simp[K2,c4]
   rw[hm]at hS;simp[Bk.bH,Bk.cells,hS,(show ¬x.lo<s by omega),c2,w1,hq,Cu]
  .rw[if_neg c4]at hm;have hq:K2 x.lo x.hi s=x.lo:=by simp[K2,c1,c4]
   rw[hm]at hS;simp[Bk.bH,Bk.cells,hS,hq]
def oz(b:Bk)(x:sT):Bk×Int :=
 if cc b.ah=[]then(b,8)else if bA x.jP 0 255=true then(if eI b.aQ b.az.length x=0 then(ek b x.lo x.hi (oS b x),0)else(b,eI b.aQ b.az.length x))else(b,1)
theorem YH{F:List Abs.aD}{b:Bk}{er:List Int}{nm:List UInt8}{w i lo hi:Int}{b':Bk}{e:Int}(ht:b.aQ.dL≠[])(hw:b.dq.length=b.ah.length)(hml:b.ah.length<=40)(hok:∀e∈b.ah,Ok b.aQ [e.m] b.az)(hrun:∀e∈b.ah,e.left=true->∃r,Rock.run b.aQ e.m b.az=some r)(hd:oz b ⟨b.az.length,w,i,lo,hi⟩=(b',e))(he:e=0):
  dj T (.call false jX [.ref J.length 6 0 0,.str nm,.bY 4 [iI w,iI i,iI lo,iI hi]] (F::b.bH J.length er::J))=some (.val (.cV []) (F::b'.bH J.length er::J)):=by
 refine fJ rfl rfl rfl (by simp) ?_;unfold oz at hd;split at hd
 case isTrue=>cases hd;cases he
 rename_i c1;split at hd
 case isFalse=>cases hd;cases he
 rename_i c2;split at hd
 case isFalse=>cases hd;rename_i h;exact absurd he h
 rename_i c3;cases hd;have c2i:=aS.1 c2;have q1:0<(cc b.ah).length:=aG.2 c1;have hLf:=λS=>GY (J:=J) (b:=b) (er:=er) (S:=S) (by omega)
 obtain⟨e0,ls,hls⟩:∃e0 ls,cc b.ah=e0::ls:=by
  cases h:cc b.ah with
  |nil=>exact absurd h c1
  |cons a l=>exact⟨a,l,rfl⟩
 have he0:e0∈b.ah/\e0.left=true:=cM.1 (show e0∈cc b.ah by rw[hls];simp);obtain⟨r0,hr0⟩:=hrun e0 he0.1 he0.2;have w1:IntKind.u8.wrap w=w:=wu8 (by omega);have hS:=λS hS=>Ff (J:=S) (x:=⟨b.az.length,w,i,lo,hi⟩) ht (hok e0 he0.1) (by simpa using c2i) hS
 obtain⟨n,A,h1,hA⟩:=S6 (b:=b.aQ) (m:=e0.m) (az:=b.az) (x:=⟨b.az.length,w,i,lo,hi⟩) (by rw[Bw];exact c3) hr0;rw[h1]at hS;have hst:=NY (J:=J) (A:=[.cells 0 (sT.enc ⟨b.az.length,w,i,lo,hi⟩)]) (F:=F) (b:=b) (er:=er) (lo:=lo) (hi:=hi) (val:=oS b ⟨b.az.length,w,i,lo,hi⟩) (fv:=.fn iR [] [.bf [.ref J.length 6 0 0],.ref (J.length+1+1) 0 0 0,.bf [.bY 4 [iI w,iI i,iI lo,iI hi]]]) rfl rfl hw hml (by
  intro k e he hl;obtain⟨r,hr⟩:=hrun e he hl;have h:=YG (J:=J) (F:=F) (er:=er) (b:=b.fT lo hi (oS b ⟨b.az.length,w,i,lo,hi⟩) k) (m:=e.m) (x:=⟨b.az.length,w,i,lo,hi⟩) (w:=w) ht (hok e he) (by simpa using c2i) c3 hr;rw[oY];have h':dj T (.call false iR ([]++[.agg (mL e.m)]++[.bf [.ref J.length 6 0 0],.ref (J.length+1+1) 0 0 0,.bf [.bY 4 [iI w,iI i,iI lo,iI hi]]]) ([]::[.cells 0 (sT.enc ⟨b.az.length,w,i,lo,hi⟩)]::F::(b.fT lo hi (oS b ⟨b.az.length,w,i,lo,hi⟩) k).bH J.length er::J))=_:=h;rw[h'];rfl)
 rw[hls]at hLf;simp only[Bk.bH,Bk.cells,sT.enc]at hst hLf hS;have hcl:∀T,D.bd (if T=0 then []else Cu (0,0,T))=true:=λT=>by split<;>simp[Cu]
 simp[Bk.bH,Bk.cells,hLf,cK,eR,c2,w1,hS,nE,hst]
theorem Vk{F:List Abs.aD}{b:Bk}{er:List Int}{nm:List UInt8}{w i lo hi:Int}{b':Bk}{e:Int}(ht:cc b.ah≠[]->b.aQ.dL≠[])(hml:b.ah.length<=40)(hok:∀e∈b.ah,Ok b.aQ [e.m] b.az)(hd:oz b ⟨b.az.length,w,i,lo,hi⟩=(b',e))(he:e≠0):
  dj T (.call false jX [.ref J.length 6 0 0,.str nm,.bY 4 [iI w,iI i,iI lo,iI hi]] (F::b.bH J.length er::J))=some (.ft (rf e) (F::b.bH J.length er::J)):=by
 refine dY rfl rfl rfl ?_;have hLf:=λS=>GY (J:=J) (b:=b) (er:=er) (S:=S) (by omega)
 simp only[Bk.bH,Bk.cells]at hLf;unfold oz at hd;split at hd
 case isTrue c1 =>
  cases hd;simp[Bk.bH,Bk.cells,hLf,c1,dG,D.clean,rf]
 rename_i c1;have ht:=ht c1;have q1:0<(cc b.ah).length:=aG.2 c1;split at hd
 case isFalse c2 =>
  cases hd;have c2':bA w 0 255=false:=by simpa using c2
  simp[Bk.bH,Bk.cells,hLf,q1,eR,c2',cK,dG,D.clean,rf]
 rename_i c2;have c2i:=aS.1 c2;split at hd
 case isTrue=>cases hd;exact absurd rfl he
 rename_i c3;cases hd;obtain⟨e0,ls,hls⟩:∃e0 ls,cc b.ah=e0::ls:=by
  cases h:cc b.ah with
  |nil=>exact absurd h c1
  |cons a l=>exact⟨a,l,rfl⟩
 have he0:e0∈b.ah/\e0.left=true:=cM.1 (show e0∈cc b.ah by rw[hls];simp);have w1:IntKind.u8.wrap w=w:=wu8 (by omega);have hS:=λS hS=>Ff (J:=S) (x:=⟨b.az.length,w,i,lo,hi⟩) ht (hok e0 he0.1) (by simpa using c2i) hS
 rw[aas (by rw[Bw];exact c3),Bw]at hS;have hM:=λJ=>oI (J:=J) c3
 generalize eI b.aQ b.az.length ⟨b.az.length,w,i,lo,hi⟩=err at hS hM c3 he ⊢;have hrc:(D.tP 200 (.agg [iI err])).clean=true:=rfl;rw[hls]at hLf;simp only[sT.enc]at hS;simp[Bk.bH,Bk.cells,hLf,cK,eR,c2,w1,hS,hM,rf,hrc]
end Go.Proofs.YtpapbbojmclkgaaGreatDoor
namespace Go.Book
open Go Go.Abs Go.Rock
def FT:List Prt->Int
 |[]=>0
 |p::l=>p.width+FT l
def ue:List Prt->Int->Int
 |[],_=>0
 |p::l,m=>p.kG*min m p.width+ue l (m-min m p.width)
def LW:List Prt->Int->Int
 |[],m=>m
 |p::l,m=>LW l (m-min m p.width)
def yU(l:List Prt):Prop:=∀p∈l,(0<=p.kG/\p.kG<=1000)/\1<=p.width/\p.width<=100000
theorem zD:∀{l:List Prt} {last:Int},last<=1000->Ag last l=true->yU l
 |[],_,_,_=>by intro p hp;cases hp
 |q::l,last,hl,h=>by
  simp only[Ag,Prt.ok,af,aS]at h;intro p hp;rcases bj.1 hp with rfl | hp
  .omega
  .exact zD (by omega) h.2 p hp
theorem M6:∀{l:List Prt} {m:Int},yU l->0<=m->0<=ue l m/\ue l m<=1000*m
 |[],m,_,hm=>by simp[ue];omega
 |p::l,m,h,hm=>by
  have h1:=h p (by simp);have h2:=M6 (l:=l) (m:=m-min m p.width) (λq hq=>h q (by simp[hq])) (by omega);have h3:0<=p.kG*min m p.width:=bF h1.1.1 (by omega);have h4:p.kG*min m p.width<=1000*min m p.width:=dN h1.1.2 (by omega);simp only[ue];omega
end Go.Book
namespace Go.Proofs.YtpapbbojmclkgaaGreatDoor
open Go Go.Abs Go.Rock Go.Book
variable {J:SK}
theorem aaH{l:List Prt}(hs:yU l)(hl:l.length<=8):∀(m i:Nat) (out:Int),i+m=l.length->0<=out->out<=100000*i ->
  WL T [2,6,7,8] false fD [(2,iI out),(6,lF l Prt.enc),(7,iI l.length),(8,iI i)] J
   (λx e J'=>x=.exit 0/\J'=J/\get e 2=iI (out+FT (l.drop i)))
 |0,i,out,hi,h0,ho=>by
  refine aB fD.eq_1 ?_;have h1:¬i<l.length:=by omega
  have h2:l.drop i=[]:=an (by omega);simp[h1,h2,FT]
 |m+1,i,out,hi,h0,ho=>by
  refine aB fD.eq_1 ?_;have h1:i<l.length:=by omega
  obtain⟨p,hp⟩:=gE h1;have hfl:=bu (f:=Prt.enc) (w:=2) (λ_=>rfl) hp;have hd:=bD hp;have h4:=cr h1 (by omega);have hb:=hs p (aj hp);have w1:=cf (n:=out+p.width) (by omega);have ih:=aaH hs hl m (i+1) (out+p.width) (by omega) (by omega) (by omega);rw[hd,FT];simp[h1,hfl,h4,w1];exact WL.to ih (by simp) rfl λx e J' hh=>by simpa[Int.add_assoc]using hh
theorem P9{u:oW}(hs:yU u.parts)(hl:u.parts.length<=8):Cl oE [.agg u.enc] (iI (FT u.parts)) J:=by
 refine au rfl rfl rfl ?_;simp[];refine WL.to (aaH (J:=[]::J) hs hl u.parts.length 0 0 (by omega) (by omega) (by omega)) (by simp) rfl ?_;rintro x e J' ⟨rfl,rfl,g2⟩;simp[g2]
def ZK(L:Nat):xB:={state:=0,yP:=none,env:=[(4,.ref L 0 0 0)],params:=[10,11],BL:=iG,body:=iH }
def PJ(J:SK)(out mass:Int):SK:=[.cells 0 [iI out],.cells 0 [iI mass],.loop (ZK J.length)]::J
theorem Y8{p:Prt}{out mass m:Int}(hp:(0<=p.kG/\p.kG<=1000)/\1<=p.width/\p.width<=100000)(hm:0<=m/\m<=1000000)(ho:0<=out/\out<=1000000000000):
  dj T (.round J.length 2 [.agg p.enc,iI m] ([]::PJ J out mass))=some (.val (.bool true) ([]::PJ J (out+p.kG*m) mass)):=by
 have q1:0<=p.kG*m:=bF hp.1.1 hm.1;have q2:p.kG*m<=1000*1000000:=cH hp.1.2 hm.2 hm.1 (by omega);have w1:=cf (n:=p.kG*m) (by omega);have w2:=cf (n:=out+p.kG*m) (by omega);refine Pp (lp:=ZK J.length) (by simp[PJ]) rfl ?_;rw[show(ZK J.length).BL=iG from rfl,iG.eq_1,show(ZK J.length).body=iH from rfl];simp[AP iH.eq_1,ZK,PJ,Uh,w1,w2]
theorem VQ{l:List Prt}(hs:yU l)(hl:l.length<=8):∀(k i:Nat) (out m:Int),i+k=l.length->0<=m->m<=1000000->0<=out->out<=1000000000*i ->
  WL T [0,2,8,9,10] false gI [(0,.kV J.length 2),(2,.ref J.length 1 0 0),(8,lF l Prt.enc),(9,iI l.length),(10,iI i)] ([]::PJ J out m)
   (λx e J'=>x=.exit 0/\J'=[]::PJ J (out+ue (l.drop i) m) (LW (l.drop i) m))
 |0,i,out,m,hi,hm,hm2,h0,ho=>by
  refine aB gI.eq_1 ?_;have h1:¬i<l.length:=by omega
  have h2:l.drop i=[]:=an (by omega);simp[h1,h2,ue,LW]
 |k+1,i,out,m,hi,hm,hm2,h0,ho=>by
  refine aB gI.eq_1 ?_;have h1:i<l.length:=by omega
  obtain⟨p,hp⟩:=gE h1;have hfl:=bu (f:=Prt.enc) (w:=2) (λ_=>rfl) hp;have hd:=bD hp;have h4:=cr h1 (by omega);have hb:=hs p (aj hp);have hmn:0<=min m p.width/\min m p.width<=m:=by omega
  have hR:=Y8 (J:=J) (p:=p) (out:=out) (mass:=m) (m:=min m p.width) hb (by omega) (by omega);have q1:0<=p.kG*min m p.width:=bF hb.1.1 hmn.1;have q2:p.kG*min m p.width<=1000*1000000:=cH hb.1.2 (by omega) hmn.1 (by omega);have w1:=cf (n:=m-min m p.width) (by omega);have ih:=VQ hs hl k (i+1) (out+p.kG*min m p.width) (m-min m p.width) (by omega) (by omega) (by omega) (by omega) (by omega);rw[hd,ue,LW];simp only[PJ,Prt.enc]at hR;simp[h1,hfl,h4,PJ,hR,w1];exact WL.to ih (by simp) (by simp[PJ]) λx e J' hh=>by simpa[Int.add_assoc,PJ]using hh
theorem ab8{u:oW}{mass:Int}{bs:List Abs.aD}:dj T (.call true tG [.agg u.enc,iI mass] (bs::J))=some (.val (.fn mF [] [.bf u.enc,.ref J.length bs.length 0 0]) ((bs++[.cells 0 [iI mass]])::J)):=by
 refine xk rfl rfl rfl ?_;simp[]
theorem YX{u:oW}{out m:Int}(hs:yU u.parts)(hl:u.parts.length<=8)(hm:0<=m/\m<=1000000)(h0:0<=out/\out<=0):
  dj T (.call false mF [.kV J.length 2,.bf u.enc,.ref J.length 1 0 0] (PJ J out m))=some (.val (.cV []) (PJ J (out+ue u.parts m) (LW u.parts m))):=by
 refine fJ rfl rfl rfl (by simp[PJ]) ?_;have h:=VQ (J:=J) hs hl u.parts.length 0 out m (by omega) hm.1 hm.2 h0.1 (by omega);rw[aE]at h;simp;refine WL.to h (by simp) (by simp) ?_;rintro x e J' ⟨rfl,rfl⟩;simp
theorem YB{u:oW}{m:Int}(hs:yU u.parts)(hl:u.parts.length<=8)(hm:0<=m/\m<=1000000):
  Cl rU [.agg u.enc,iI m] (iI (ue u.parts m)) J:=by
 refine au rfl rfl rfl ?_;have hU:=λbs=>ab8 (J:=J) (u:=u) (mass:=m) (bs:=bs)
 have h1:=YX (J:=J) (u:=u) (out:=0) hs hl hm (by omega);simp only[oW.enc]at hU h1 ⊢;simp[hU];refine R5 (d:=.cV []) (J2:=PJ J (0+ue u.parts m) (LW u.parts m)) (lp:=ZK J.length) (by simp;exact⟨rfl,rfl,rfl⟩) ?_ (by simp[PJ]) (by simp[ZK]) ?_
 .simpa[PJ,ZK]using h1
 .simp[PJ,ZK]
def JM(u:oW)(s:sU):Int:=if s.valid=true then(if FT u.parts<s.m then 2 else if s.h<ue u.parts s.m then 9 else 0)else 1
theorem KI{s:sU}:Cl qT [.agg s.enc] (iI (if s.valid then 0 else 1)) J:=by
 refine au rfl rfl rfl ?_;have h:=λJ=>Je (J:=J) (x:=s)
 simp only[sU.enc]at h ⊢;cases hc:s.valid<;>rw[hc]at h<;>simp[h]
theorem Vo{s:sU}:Cl rJ [.agg s.enc] (.bool s.valid) J:=by
 refine au rfl rfl rfl ?_;have h:=λJ=>KI (J:=J) (s:=s)
 simp only[sU.enc]at h ⊢;cases hc:s.valid<;>rw[hc]at h<;>simp[h]
theorem Vp{s:sU}:Cl Al [.bY 1 s.enc] (.bool s.valid) J:=by
 refine au rfl rfl rfl ?_;have h:=λJ=>BK (xJ 4 sU.enc (λ_=>rfl)) (T:=T) (J:=J) (f:=mo) (g:=kK) (h:=fR) (i:=iA) (l:=[s]) (p:=sU.valid) (fv:=.fn rJ [] []) rfl rfl rfl rfl (by simp) (oJ.fn λx _ J=>Vo) rfl
 simp only[xJ,List.length_singleton,eg,rP,cX,da,jl,List.all_nil,Bool.and_true]at h;simp only[sU.enc]at h ⊢;simp[h]
def Zm(u:oW)(s:sU):D:=if JM u s=0 then .cV [.agg [iI s.m,iI (s.h-ue u.parts s.m),iI s.s,iI s.g],iI (ue u.parts s.m),iI 0]else .cV [.agg [iI 0,iI 0,iI 0,iI 0],iI 0,iI (JM u s)]
theorem UN{u:oW}{s:sU}(hu:u.ok=true):Cl yt [.agg u.enc,.agg s.enc] (Zm u s) J:=by
 refine au rfl rfl rfl ?_;have hok:=hu;simp only[oW.ok,af,aS]at hok;have hl:u.parts.length<=8:=by omega
 have hs:=zD (by omega) hok.2.2;have hV:=λJ=>NZ (J:=J) (u:=u) (by omega)
 have hR:=λJ=>Vp (J:=J) (s:=s)
 have hC:=λJ=>P9 (J:=J) hs hl
 rw[hu]at hV;simp only[oW.enc,sU.enc]at hV hR hC ⊢;unfold Zm JM;cases c1:s.valid
 .rw[c1]at hR;simp[hV,hR]
 rw[c1]at hR;simp only[sU.valid,af,aS]at c1;by_cases c2:FT u.parts<s.m
 .simp[hV,hR,hC,c2]
 have hP:=λJ=>YB (J:=J) (m:=s.m) hs hl c1.1
 simp only[oW.enc]at hP;have hb:=M6 hs c1.1.1;by_cases c3:s.h<ue u.parts s.m
 .simp[hV,hR,hC,hP,c2,c3]
 have w1:=cf (n:=s.h-ue u.parts s.m) (by omega);simp[hV,hR,hC,hP,c2,c3,w1]
theorem Tb{t:List Rw}(ht:fO t=true){i:Nat}{r:Rw}(hi:t[i]?=some r){x:sU}(hx:x.valid=false):
  Cl vk [lF t Rw.enc,iI i,.agg x.enc] (.cV [.agg (List.replicate 10 (iI 0)),iI 1]) J:=by
 refine au rfl rfl rfl ?_;have hl:t.length<=20:=by
  simp only[fO,af]at ht;have:=aS.1 ht.1;omega
 have hil:i<t.length:=(aA.1 hi).1;have h1:=λJ=>Fg (J:=J) (t:=t) (by omega)
 have h2:=λJ=>aaF (J:=J) (t:=t) (n:=i) (by omega)
 have h3:=λJ=>Je (J:=J) (x:=x)
 have hin:bA i 0 ((t.length:Int)-1)=true:=aS.2 (by omega);rw[hin]at h2;rw[hx]at h3;rw[ht]at h1;simp only[sU.enc]at h3;simp[h1,h2,h3,List.replicate]
def Et:List Int->Int
 |[]=>0
 |x::l=>l.foldl min x
def Er:List Int->Int
 |[]=>0
 |x::l=>l.foldl max x
theorem aaL{l:List Int}(hl:l.length<=1000000):∀(m i:Nat) (a:Int),i+m=l.length ->
  WL T [0,3,4] false jV [(0,lF l aT),(3,iI a),(4,iI i)] J (λx e J'=>x=.exit 0/\J'=J/\get e 3=iI ((l.drop i).foldl min a))
 |0,i,a,hi=>by
  refine aB jV.eq_1 ?_;have h1:¬i<l.length:=by omega
  have h2:l.drop i=[]:=an (by omega);simp[h1,h2]
 |m+1,i,a,hi=>by
  refine aB jV.eq_1 ?_;have h1:i<l.length:=by omega
  obtain⟨n,hn⟩:=gE h1;have a1:=gr hn;have h4:=cr h1 (by omega);rw[bD hn];simp[h1,a1,h4];exact WL.to (aaL hl m (i+1) (min a n) (by omega)) (by simp) rfl λx e J' hh=>by simpa using hh
theorem afg{l:List Int}(hne:l≠[])(hl:l.length<=1000000):Cl uY [lF l aT] (iI (Et l)) J:=by
 refine au rfl rfl rfl ?_;have h0:0<l.length:=aG.2 hne;obtain⟨x,r,rfl⟩:∃x r,l=x::r:=by
  cases l with
  |nil=>exact absurd rfl hne
  |cons x r=>exact⟨x,r,rfl⟩
 have⟨h1,h2⟩:¬((r.length:Int)+1<1)/\(0:Int)<(r.length:Int)+1:=by omega
 simp[h1,h2];refine WL.to (aaL (J:=[]::J) hl r.length 1 x (by simp;omega)) (by simp) rfl ?_;rintro x e J' ⟨rfl,rfl,g3⟩;simp[g3,Et]
theorem aaK{l:List Int}(hl:l.length<=1000000):∀(m i:Nat) (a:Int),i+m=l.length ->
  WL T [0,3,4] false jU [(0,lF l aT),(3,iI a),(4,iI i)] J (λx e J'=>x=.exit 0/\J'=J/\get e 3=iI ((l.drop i).foldl max a))
 |0,i,a,hi=>by
  refine aB jU.eq_1 ?_;have h1:¬i<l.length:=by omega
  have h2:l.drop i=[]:=an (by omega);simp[h1,h2]
 |m+1,i,a,hi=>by
  refine aB jU.eq_1 ?_;have h1:i<l.length:=by omega
  obtain⟨n,hn⟩:=gE h1;have a1:=gr hn;have h4:=cr h1 (by omega);rw[bD hn];simp[h1,a1,h4];exact WL.to (aaK hl m (i+1) (max a n) (by omega)) (by simp) rfl λx e J' hh=>by simpa using hh
theorem aff{l:List Int}(hne:l≠[])(hl:l.length<=1000000):Cl uX [lF l aT] (iI (Er l)) J:=by
 refine au rfl rfl rfl ?_;have h0:0<l.length:=aG.2 hne;obtain⟨x,r,rfl⟩:∃x r,l=x::r:=by
  cases l with
  |nil=>exact absurd rfl hne
  |cons x r=>exact⟨x,r,rfl⟩
 have⟨h1,h2⟩:¬((r.length:Int)+1<1)/\(0:Int)<(r.length:Int)+1:=by omega
 simp[h1,h2];refine WL.to (aaK (J:=[]::J) hl r.length 1 x (by simp;omega)) (by simp) rfl ?_;rintro x e J' ⟨rfl,rfl,g3⟩;simp[g3,Er]
theorem ab4{l:List Int}(hne:l≠[])(hl:l.length<=1000000):Cl yr [lF l aT] (.agg [iI (Et l),iI (Er l)]) J:=by
 refine au rfl rfl rfl ?_;have h1:=λJ=>afg (J:=J) hne hl
 have h2:=λJ=>aff (J:=J) hne hl
 simp[h1,h2]
def ahz:Rw:=⟨0,0,0,0,0⟩
def ahA:oW:=⟨0,[]⟩
def rowOf(b:Bk)(lv:Nat):Rw:=(b.aQ.dL[lv]?).getD ahz
def we(b:Bk)(u:Nat):oW:=(b.cJ[u]?).getD ahA
def nq(b:Bk)(r:RunT)(w:Nat):sU:=⟨(aP (rowAt r.2 (b.az.length-1)) w).m,(aP (rowAt r.2 (b.az.length-1)) w).h,0,0⟩
def fA(r:Rw)(x:sU):sU:=⟨eH r x,Ny r x,0,Nx r x⟩
def uH(b:Bk)(w lv u:Nat)(m:bV):Int:=match Rock.run b.aQ m b.az with
 |some r=>if(nq b r w).valid=true then JM (we b u) (fA (rowOf b lv) (nq b r w))else 1
 |none=>9
def oT(b:Bk)(w lv u:Nat)(m:bV):Int:=match Rock.run b.aQ m b.az with
 |some r=>ue (we b u).parts (fA (rowOf b lv) (nq b r w)).m
 |none=>0
def GO(b:Bk)(J:SK)(w lv u:Nat)(price:Int)(acc:List Int)(rest:List dQ)(x:Abs.Exit)(e:Env)(J':SK):Prop :=
 if bT (λe=>uH b w lv u e.m) rest=0 then
  x=.exit 0/\get e 0=.ref (J.length-1-1) 6 0 0/\get e 7=iI w/\get e 10=iI price/\get e 11=.sl J.length 0 (acc++rest.map λe=>oT b w lv u e.m).length 0 (acc++rest.map λe=>oT b w lv u e.m).length 1 /\
   J'=[.cells (acc++rest.map λe=>oT b w lv u e.m).length (fM (acc++rest.map λe=>oT b w lv u e.m) aT)]::J
 else x=.ft (rf (bT (λe=>uH b w lv u e.m) rest))/\∃s,J'=s::J
theorem Qm{F:List Abs.aD}{b:Bk}{er:List Int}{ls:List dQ}{w lv u:Nat}{price:Int}(ht:fO b.aQ.dL=true)(hok:∀e∈ls,Ok b.aQ [e.m] b.az)(hrun:∀e∈ls,∃r,Rock.run b.aQ e.m b.az=some r)(hp:b.az≠[])(hl:ls.length<=1000000)
  (hw:w<b.aQ.av.length) (hlv:lv<b.aQ.dL.length) (hu:u<b.cJ.length) (huk:∀x∈b.cJ,x.ok=true):∀(m i:Nat) (acc:List Int),i+m=ls.length->acc.length=i ->
  WL T [0,7,8,9,10,11,86,87,88] false fY [(0,.ref J.length 6 0 0),(7,iI w),(8,iI lv),(9,iI u),(10,iI price),(11,.sl (F::b.bH J.length er::J).length 0 i 0 i 1),(86,lF ls dQ.enc),(87,iI ls.length),(88,iI i)] ([.cells i (fM acc aT)]::F::b.bH J.length er::J)
   (GO b (F::b.bH J.length er::J) w lv u price acc (ls.drop i))
 |0,i,acc,hi,ha=>by
  refine aB fY.eq_1 ?_;obtain rfl:i=ls.length:=by omega
  have h5:ls.drop ls.length=[]:=an (by omega);simp[h5,GO,ha,bT]
 |m+1,i,acc,hi,ha=>by
  refine aB fY.eq_1 ?_;have h1:i<ls.length:=by omega
  obtain⟨e,he⟩:=gE h1;have hem:=aj he;have hO:=hok e hem;obtain⟨r,hr⟩:=hrun e hem;have hfl:=bu (f:=dQ.enc) (w:=4) (λ_=>rfl) he;have h4:=cr h1 (by omega);have htl:b.aQ.dL.length<=20:=by
   simp only[fO,af]at ht;have:=aS.1 ht.1;omega
  have hE:lg b.aQ e.m b.az=0:=by
   have hfit:=hO.fit e.m (by simp);simp[lg,Bd,hO.valid,hfit,hO.pl,hr]
  have hD:Bu b.aQ e.m b.az=.agg [lF r.1 kS,lF r.2 kS]:=by
   obtain⟨r1,r2⟩:=r;simp[Bu,hE,hr]
  have hsh:=hO.short e.m (by simp);have hP:=λS hS=>UQ (J:=S) (b:=b.aQ) (m:=e.m) (az:=b.az) (wq:=nl bG.enc b.aQ.av) ke (by omega) (by have:=hO.bv.av;omega) (by omega) (by omega) (by have:=hO.Uq;omega) (λl hl=>by have:=(hO.aF l hl).len;have:=hO.bv.av;omega) hS
  rw[hE,hD,QG]at hP;have htn:b.aQ.dL≠[]:=by intro hh;rw[hh]at hlv;simp at hlv
  have hRun:=Lg.of (hO.fv e.m (by simp)) hO.aF hr;have hpl:0<b.az.length:=aG.2 hp;have hpl2:=hO.Uq;obtain⟨hrow,hY⟩:=Ps hRun (t:=b.az.length-1) (by omega);have f1:=bu (f:=kS) (w:=1) (λ_=>rfl) hrow;rw[cp]at f1;have hyw:(rowAt r.2 (b.az.length-1))[w]?=some (aP (rowAt r.2 (b.az.length-1)) w):=by
   have:w<(rowAt r.2 (b.az.length-1)).length:=by rw[hY.len];exact hw
   simp[aP,this]
  have f2:=bu (f:=Rock.aD.enc) (w:=3) (λ_=>rfl) hyw;have hyl:=hY.len;have w1:=cf (n:=(b.az.length:Int)-1) (by omega);have⟨t1,q1⟩:((b.az.length:Int)-1).toNat=b.az.length-1/\(1:Int)<=b.az.length:=by omega
  have q2:(b.az.length:Int)-1<r.2.length:=by rw[hRun.yl];omega
  have hrw:b.aQ.dL[lv]?=some (rowOf b lv):=by simp[rowOf,hlv]
  have hun:b.cJ[u]?=some (we b u):=by simp[we,hu]
  have f3:=bu (f:=oW.enc) (w:=2) (λ_=>rfl) hun;have hul:=I2 b.cJ;have q3:2<=b.cJ.length*2-u*2:=by omega
  have hX:=λJ=>UN (J:=J) (u:=we b u) (s:=fA (rowOf b lv) (nq b r w)) (huk _ (aj hun))
  rw[bD he];have hs0:uH b w lv u e.m=if(nq b r w).valid=true then JM (we b u) (fA (rowOf b lv) (nq b r w))else 1:=by simp[uH,hr]
  cases c1:(nq b r w).valid with
  |false =>
   have hF:=λJ=>Tb (J:=J) ht hrw c1
   have hM:=λJ=>oI (J:=J) (e:=1) (by decide)
   have hs1:uH b w lv u e.m=1:=by rw[hs0,c1];rfl
   simp only[sU.enc,nq,List.replicate]at hF;simp[h1,hfl,Bk.bH,Bk.cells,ej htn,ej hp,hP,nE,f1,f2,w1,t1,q1,q2,hyl,hw,hF,hM,hs1,kS,GO,bT]
  |true =>
   have hF:=λJ=>Yg (J:=J) ht hrw c1
   simp only[sU.enc,nq]at hF;have hs1:uH b w lv u e.m=JM (we b u) (fA (rowOf b lv) (nq b r w)):=by rw[hs0,c1];rfl
   have hv1:oT b w lv u e.m=ue (we b u).parts (fA (rowOf b lv) (nq b r w)).m:=by simp[oT,hr]
   by_cases c2:JM (we b u) (fA (rowOf b lv) (nq b r w))=0
   .have hacc:=tQ acc;have hta:(fM acc aT).take i=fM acc aT:=ai (by omega);have hroom:(i+1)*8<=room:=by unfold room;omega
    have ih:=Qm (F:=F) (er:=er) (price:=price) ht hok hrun hp hl hw hlv hu huk m (i+1) (acc++[oT b w lv u e.m]) (by omega) (by simp[ha]);have fin:∀x e' J',GO b (F::b.bH J.length er::J) w lv u price (acc++[oT b w lv u e.m]) (ls.drop (i+1)) x e' J'->GO b (F::b.bH J.length er::J) w lv u price acc (e::ls.drop (i+1)) x e' J':=λx e' J' hh=>by
     have hz:uH b w lv u e.m=0:=by rw[hs1,c2]
     simp only[GO,bT,hz,if_true,aN,dS,dJ]at hh ⊢;exact hh
    unfold Zm at hX;rw[if_pos c2,<- hv1]at hX;simp only[oW.enc,sU.enc,fA,nq]at hX f3;simp[h1,hfl,h4,Bk.bH,Bk.cells,ej htn,ej hp,hP,nE,f1,f2,w1,t1,q1,q2,hyl,hw,hF,kS,parts,hu,f3,hul,q3,hX,hroom,hacc,hta,ha];exact WL.to ih (by simp) (by simp[Bk.bH,Bk.cells,ej htn,ej hp]) fin
   .unfold Zm at hX;rw[if_neg c2]at hX;have hM:=λJ=>oI (J:=J) c2
    have hz:uH b w lv u e.m≠0:=by rw[hs1];exact c2
    rw[<- hs1]at hX hM;simp only[oW.enc,sU.enc,fA,nq]at hX f3;simp[h1,hfl,Bk.bH,Bk.cells,ej htn,ej hp,hP,nE,f1,f2,w1,t1,q1,q2,hyl,hw,hF,kS,parts,hu,f3,hul,q3,hX,hM,hz,GO,bT]
end Go.Proofs.YtpapbbojmclkgaaGreatDoor
