import Derived.Test.YtpapbbojmclkgaaGreatDoorTxt4
set_option linter.all false
set_option maxRecDepth 100000
namespace Go.Proofs.YtpapbbojmclkgaaGreatDoor
open Go Go.Abs Go.Trem
variable {J:SK}
theorem ac7{lv:Nat}{G:List Abs.aF}(hsg:eT J lv=some G){R:List cc}{l:List Ev}{now may sure:Int}{j:Nat}{r:cc}(hG1:G[1]?=some (.cells R.length (fM R cc.enc)))(hG2:G[2]?=some (.cells l.length (fM l Ev.enc)))(hl:l.length<=200)(hs:∀e∈l,e.sp.length<=2000)(hr:r.ok=true)(hn:bF now 0 1000000=true):∀(m i:Nat) (a b:Nat),i+m=l.length->a+m<=200->b+m<=200 ->
  WL T [1,2,6,7,10,11,12,13,36,37,38,44,45,46] false jj [(1,.sl lv 2 l.length 0 l.length 2),(2,iI now),(6,.int .u8 may),(7,.int .u8 sure),(10,.own 0 r.enc),(11,iI a),(12,iI b),(13,.fn 119 [.agg r.enc] []),
    (36,.sl lv 1 R.length 0 R.length 10),(37,iI R.length),(38,iI j),(44,.sl lv 2 l.length 0 l.length 2),(45,iI l.length),(46,iI i)] J
   (λx e J'=>x=.exit 3/\J'=J/\get e 1=.sl lv 2 l.length 0 l.length 2/\get e 2=iI now/\get e 6=.int .u8 may/\get e 7=.int .u8 sure/\get e 10=.own 0 r.enc/\get e 11=iI (a+z8 (tN r now) (l.drop i):Nat)/\get e 12=iI (b+z8 (mN r now) (l.drop i):Nat) /\
    get e 36=.sl lv 1 R.length 0 R.length 10/\get e 37=iI R.length/\get e 38=iI j)
 |0,i,a,b,hi,ha,hb=>by
  refine av jj.eq_1 ?_;have h1:¬i<l.length:=by omega
  have h2:l.drop i=[]:=by simp;omega
  simp[h1,h2,z8]
 |m+1,i,a,b,hi,ha,hb=>by
  refine av jj.eq_1 ?_;have g1:i<l.length:=by omega
  obtain⟨e,he⟩:=gE g1;have a1:=aP (f:=Ev.enc) (w:=2) (λ_=>rfl) he;have al:(fM l Ev.enc).length=l.length*2:=bQ (f:=Ev.enc) (w:=2) (λ_=>rfl) l;have aq:2<=l.length*2-i*2:=by omega
  have w1:=bO g1;have hr':=zP.1 hr;have hn':=aQ.1 hn;have hse:=hs e (ai he);have w2:=cm (n:=now-r.vq);have w3:=cm (n:=(a:Int)+1);have w4:=cm (n:=(b:Int)+1);have hC:∀J,Cl 120 [lF e.sp oc.enc,.fn 119 [.agg r.enc] []] (.bool (mK e.sp r.Kc)) J:=λJ =>
   contains_of Sp lM ng (by omega) (.fn λs _ J=>PD)
  have hA:=λJ=>@MK J e.sp r.Kc (.fn 119 [.agg r.enc] []) (.fn λs _ J=>PD) rfl (by omega)
  simp only[cc.enc]at hC hA;have d1:z8 (tN r now) (l.drop i)=z8 (tN r now) (l.drop (i+1))+(if tN r now e then 1 else 0):=by rw[bz he];rfl
  have d2:z8 (mN r now) (l.drop i)=z8 (mN r now) (l.drop (i+1))+(if mN r now e then 1 else 0):=by rw[bz he];rfl
  have ih:=λa b=>ac7 hsg hG1 hG2 (R:=R) (may:=may) (sure:=sure) (j:=j) hl hs hr hn m (i+1) a b (by omega)
  rw[d1,d2];by_cases c1:now<e.tick
  .have e1:tN r now e=false:=by simp[tN,cc.act];omega
   have e2:mN r now e=false:=by simp[mN,cc.act];omega
   simp[g1,a1,al,aq,hsg,hG2,w1,c1,e1,e2];exact WL.to (ih a b (by omega) (by omega)) (by simp) rfl λx e J' hh=>by simpa[e1,e2]using hh
  by_cases c2:e.tick<=now-r.vq
  .have e1:tN r now e=false:=by simp[tN,cc.act];omega
   have e2:mN r now e=false:=by simp[mN,cc.act];omega
   simp[g1,a1,al,aq,hsg,hG2,w1,w2,c1,c2,e1,e2];exact WL.to (ih a b (by omega) (by omega)) (by simp) rfl λx e J' hh=>by simpa[e1,e2]using hh
  have act:r.act now e=true:=by simp[cc.act];omega
  have e1:tN r now e=mK e.sp r.Kc:=by simp[tN,act]
  have e2:mN r now e=dq e.sp r.Kc:=by simp[mN,act]
  rw[e1,e2];have k1:∀u v:Nat,u+1+v=u+(v+1):=by intro u v;omega
  cases c3:mK e.sp r.Kc<;>cases c4:dq e.sp r.Kc<;>simp only[c3,c4]at hC hA
  .simp[g1,a1,al,aq,hsg,hG2,w1,w2,c1,c2,hC,hA];exact WL.to (ih a b (by omega) (by omega)) (by simp) rfl λx e J' hh=>by simpa[c3,c4]using hh
  .simp[g1,a1,al,aq,hsg,hG2,w1,w2,w4,c1,c2,hC,hA];exact WL.to (ih a (b+1) (by omega) (by omega)) (by simp) rfl λx e J' hh=>by simp only[k1]at hh;simpa[c3,c4]using hh
  .simp[g1,a1,al,aq,hsg,hG2,w1,w2,w3,c1,c2,hC,hA];exact WL.to (ih (a+1) b (by omega) (by omega)) (by simp) rfl λx e J' hh=>by simp only[k1]at hh;simpa[c3,c4]using hh
  .simp[g1,a1,al,aq,hsg,hG2,w1,w2,w3,w4,c1,c2,hC,hA];exact WL.to (ih (a+1) (b+1) (by omega) (by omega)) (by simp) rfl λx e J' hh=>by simp only[k1]at hh;simpa[c3,c4]using hh
theorem T1{lv:Nat}{G:List Abs.aF}(hsg:eT J lv=some G){R:List cc}{l:List Ev}{now:Int}(hR:R.length<=20)(hG1:G[1]?=some (.cells R.length (fM R cc.enc)))(hG2:G[2]?=some (.cells l.length (fM l Ev.enc)))(hl:l.length<=200)(hs:∀e∈l,e.sp.length<=2000)(hr:∀r∈R,r.ok=true)(hn:bF now 0 1000000=true):∀(m j:Nat) (may sure:Int),j+m=R.length ->
  WL T [1,2,6,7,36,37,38] false eS [(1,.sl lv 2 l.length 0 l.length 2),(2,iI now),(6,.int .u8 may),(7,.int .u8 sure),(36,.sl lv 1 R.length 0 R.length 10),(37,iI R.length),(38,iI j)] J
   (λx e J'=>x=.exit 1/\J'=J/\get e 6=.int .u8 (vP (λr=>tN r now) l (R.drop j) may)/\get e 7=.int .u8 (vP (λr=>mN r now) l (R.drop j) sure))
 |0,j,may,sure,hj=>by
  refine av eS.eq_1 ?_;have h1:¬j<R.length:=by omega
  have h2:R.drop j=[]:=by simp;omega
  simp[h1,h2,vP]
 |m+1,j,may,sure,hj=>by
  refine av eS.eq_1 ?_;have g1:j<R.length:=by omega
  obtain⟨r,hrj⟩:=gE g1;have a1:=aP (f:=cc.enc) (w:=10) (λ_=>rfl) hrj;have al:(fM R cc.enc).length=R.length*10:=bQ (f:=cc.enc) (w:=10) (λ_=>rfl) R;have aq:10<=R.length*10-j*10:=by omega
  have w1:=bO g1;have hrr:=hr r (ai hrj);have ih:=λmay sure=>T1 hsg hR hG1 hG2 hl hs hr hn m (j+1) may sure (by omega)
  rw[bz hrj];simp[g1,a1,al,aq,hsg,hG1];refine WL.to (ac7 hsg hG1 hG2 (J:=J) (R:=R) (l:=l) (now:=now) (may:=may) (sure:=sure) (j:=j) hl hs hrr hn l.length 0 0 0 (by omega) (by omega) (by omega)) (by simp) rfl ?_;rintro x e J' ⟨rfl,rfl,e1,e2,e6,e7,e10,e11,e12,e36,e37,e38⟩;simp only[aC,cz]at e11 e12;simp only[vP];by_cases c1:r.count<=z8 (tN r now) l
  .by_cases c2:r.count<=z8 (mN r now) l
   .simp[e1,e2,e6,e7,e10,e11,e12,e36,e37,e38,c1,c2,w1];exact WL.to (ih (max may r.Oh) (max sure r.Oh)) (by simp) rfl λx e J' hh=>by simpa[c1,c2]using hh
   .simp[e1,e2,e6,e7,e10,e11,e12,e36,e37,e38,c1,c2,w1];exact WL.to (ih (max may r.Oh) sure) (by simp) rfl λx e J' hh=>by simpa[c1,c2]using hh
  .by_cases c2:r.count<=z8 (mN r now) l
   .simp[e1,e2,e6,e7,e10,e11,e12,e36,e37,e38,c1,c2,w1];exact WL.to (ih may (max sure r.Oh)) (by simp) rfl λx e J' hh=>by simpa[c1,c2]using hh
   .simp[e1,e2,e6,e7,e10,e11,e12,e36,e37,e38,c1,c2,w1];exact WL.to (ih may sure) (by simp) rfl λx e J' hh=>by simpa[c1,c2]using hh
theorem Pr{lv:Nat}{G:List Abs.aF}{R:List cc}{l:List Ev}{now:Int}(hsg:eT J lv=some G)(hG1:G[1]?=some (.cells R.length (fM R cc.enc)))(hG2:G[2]?=some (.cells l.length (fM l Ev.enc)))(hR:R.length<=9223372036854775807)(hl:l.length<=9223372036854775807)(hs:∀e∈l,e.sp.length<=9223372036854775807):
  Cl 76 [.sl lv 1 R.length 0 R.length 10,.sl lv 2 l.length 0 l.length 2,iI now] (if lA R l now=0 then .cQ [.int .u8 (Nw R l now),.int .u8 (Ph R l now),iI 0]else .cQ [.int .u8 0,.int .u8 0,iI (lA R l now)]) J:=by
 refine ar ?_;have hlt:=zT hsg;have hne:¬J.length=lv:=by omega
 have hsg':eT ([]::J) lv=some G:=by simp[eT,hne,hsg]
 have hAR:=KT (T:=T) (enc:=cc.enc) (w:=10) (λ_=>rfl) (F:=G) (bi:=1) (v:=R.length) (l:=R) (p:=cc.ok) (fv:=.fn 115 [] []) (f:=114) (g:=150) (h:=149) (i:=191) rfl rfl rfl rfl hG1 hR (.fn λr _ J=>PJ) rfl (J:=[]::J) hsg';have hAE:=KT (T:=T) (enc:=Ev.enc) (w:=2) (λ_=>rfl) (F:=G) (bi:=2) (v:=l.length) (l:=l) (p:=Ev.ok) (fv:=.fn 117 [] []) (f:=116) (g:=153) (h:=152) (i:=192) rfl rfl rfl rfl hG2 hl (.fn λr hr J=>PE (hs r hr)) rfl (J:=[]::J) hsg';by_cases c1:20<R.length
 .have c1':(20:Int)<R.length:=by omega
  simp[lA,c1,c1']
 have c1':¬(20:Int)<R.length:=by omega
 cases c2:dq R cc.ok
 .simp[lA,c1,c1',hAR,c2]
 by_cases c3:200<l.length
 .have c3':(200:Int)<l.length:=by omega
  simp[lA,c1,c1',hAR,c2,c3,c3']
 have c3':¬(200:Int)<l.length:=by omega
 cases c4:dq l Ev.ok
 .simp[lA,c1,c1',hAR,c2,c3,c3',hAE,c4]
 cases c5:bF now 0 1000000
 .simp[lA,c1,c1',hAR,c2,c3,c3',hAE,c4,iM,c5]
 have he:lA R l now=0:=by simp[lA,c1,c2,c3,c4,c5]
 rw[if_pos he];simp[c1',hAR,c2,c3',hAE,c4,iM,c5];refine WL.to (T1 (J:=[]::J) (lv:=lv) (G:=G) hsg' (R:=R) (l:=l) (now:=now) (by omega) hG1 hG2 (by omega) ?_ (eQ.1 c2) c5 R.length 0 0 0 (by omega)) (by simp) rfl ?_
 .intro e he;have:=eQ.1 c4 e he;simp only[Ev.ok,ah,aQ]at this;omega
 .rintro x e J' ⟨rfl,rfl,e6,e7⟩;simp[e6,e7,Nw,Ph]
end Go.Proofs.YtpapbbojmclkgaaGreatDoor
namespace Go.Book
open Go Go.Abs Go.Rock
def eZ(b:Bk):Int:=if Trem.lA b.rules b.lL b.az.length=0 then Trem.Nw b.rules b.lL b.az.length else 0
def mU(b:Bk):Int:=if eZ b=0 then b.k0 else if eZ b=1 then b.k1 else b.k2
def jv(jC n:Int):Int:=if n<0 then -((-n*jC).tdiv 1000)else n
theorem QW{f:Trem.cc->Trem.Ev->Bool}{l:List Trem.Ev}:∀{R:List Trem.cc} {a:Int},(∀r∈R,r.ok=true)->0<=a/\a<=2->0<=Trem.vP f l R a/\Trem.vP f l R a<=2
 |[],a,_,h=>h
 |r::R,a,hr,h=>by
  have h1:=(Trem.zP.1 (hr r (by simp))).2.2.2.2;simp only[Trem.vP];refine QW (λr' h'=>hr r' (by simp[h'])) ?_;split
  .rcases h1 with h1 | h1<;>omega
  .exact h
theorem Ff{b:Bk}:0<=eZ b/\eZ b<=2:=by
 unfold eZ;split
 .rename_i h;refine QW (λr hr=>?_) (by omega);unfold Trem.lA at h;split at h
  .omega
  .split at h
   .omega
   .rename_i h2;exact eQ.1 (by simpa using h2) r hr
 .omega
end Go.Book
namespace Go.Proofs.YtpapbbojmclkgaaGreatDoor
section
open Go Go.Abs Go.Rock Go.Book
variable {J:SK}
theorem PC{b:Bk}{er:List Int}{S:SK}(h1:b.rules.length<=1000000)(h2:b.lL.length<=1000000)(h3:∀e∈b.lL,e.sp.length<=1000000)(hs:eT S J.length=some (b.bD J.length er)):
  Cl 43 [.ref J.length 6 0 0] (.int .u8 (eZ b)) S:=by
 refine ar ?_;have hlt:=zT hs;have hne:¬S.length=J.length:=by omega
 have h:=Pr (J:=[]::S) (lv:=J.length) (G:=b.bD J.length er) (R:=b.rules) (l:=b.lL) (now:=b.az.length) (by simp[eT,hne,hs]) (by simp[Bk.bD]) (by simp[Bk.bD]) (by omega) (by omega) (λe he=>by have:=h3 e he;omega);have hc6:(b.bD J.length er)[6]?=some (.cells 0 (b.cells J.length)):=by simp[Bk.bD]
 unfold eZ;by_cases hc:Trem.lA b.rules b.lL b.az.length=0
 .rw[if_pos hc]at h;simp[hne,hs,hc6,Bk.cells,h,hc]
 .rw[if_neg hc]at h;simp[hne,hs,hc6,Bk.cells,h,hc]
def Dq(J:SK)(bp X:D)(jC:Int)(acc rest:List Int)(x:Abs.Exit)(e:Env)(J':SK):Prop :=
 if dq rest (λn=>bF n (-100000) 100000)=true then
  x=.exit 0/\get e 0=bp/\get e 6=X/\get e 8=.sl J.length 0 (acc++rest.map (jv jC)).length 0 (acc++rest.map (jv jC)).length 1/\J'=[.cells (acc++rest.map (jv jC)).length (fM (acc++rest.map (jv jC)) aO)]::J
 else x=.fw (rf 2)/\∃s,J'=s::J
theorem N5{l:List Int}{jC:Int}(hk:0<=jC/\jC<=1000)(hl:l.length<=1000000){bp X:D}(hb:bp.calm=bp)(hx:X.calm=X):∀(m i:Nat) (acc:List Int),i+m=l.length->acc.length=i ->
  WL T [0,6,7,8,49,50,51] false gb [(0,bp),(6,X),(7,iI jC),(8,.sl J.length 0 i 0 i 1),(49,lF l aO),(50,iI l.length),(51,iI i)] ([.cells i (fM acc aO)]::J)
   (Dq J bp X jC acc (l.drop i))
 |0,i,acc,hi,ha=>by
  refine av gb.eq_1 ?_;obtain rfl:i=l.length:=by omega
  have h5:l.drop l.length=[]:=an (by omega);simp[h5,Dq,ha,hb,hx,dq]
 |m+1,i,acc,hi,ha=>by
  refine av gb.eq_1 ?_;have hlt:i<l.length:=by omega
  obtain⟨n,hn⟩:=gE hlt;have h4:=bO hlt;have h5:=bz hn;have a1:=aP (f:=aO) (w:=1) (λ_=>rfl) hn;simp only[aO,bJ]at a1;rw[h5];have hr:(i+1)*8<=room:=by unfold room;omega
  cases hc:bF n (-100000) 100000 with
  |false =>
   simp[hlt,a1,hb,hx,eL,hc,dN,Dq,dq]
  |true =>
   have hn2:=aQ.1 hc;have hcl:(fM acc aO).length=i:=by simp[bQ (f:=aO) (w:=1) (λ_=>rfl),ha]
   have ht:(fM acc aO).take i=fM acc aO:=af (by omega);have ih:=N5 hk hl hb hx m (i+1) (acc++[jv jC n]) (by omega) (by simp[ha]);have fin:∀x e J',Dq J bp X jC (acc++[jv jC n]) (l.drop (i+1)) x e J'->Dq J bp X jC acc (n::l.drop (i+1)) x e J':=λx e J' hh=>by
    simp only[Dq,dq,jy,hc,Bool.true_and,aM,cS,cU]at hh ⊢;exact hh
   by_cases hneg:n<0
   .have e0:=cm (n := -n);have p1:0 <= -n*jC:=bB (by omega) hk.1;have p2 : -n*jC<=100000*1000:=ct (by omega) hk.2 hk.1 (by omega);have e1:=cm (n := -n*jC);have e2:(-n*jC).tdiv 1000 = -n*jC / 1000:=aS p1;have e3:=cm (n := -n*jC / 1000);have e4:=cm (n := -(-n*jC / 1000));have e5:jv jC n = -(-n*jC / 1000):=by rw[jv,if_pos hneg,e2]
    rw[e5]at ih fin;generalize hq : -n*jC=q at e1 e2 e3 e4 ih fin;simp[hlt,a1,hb,hx,eL,hc,cV,hneg,e0,hq,e1,e2,e3,e4,hr,h4,hcl,ht];exact WL.to ih (by simp) (by simp) fin
   .have e5:jv jC n=n:=by rw[jv,if_neg hneg]
    rw[e5]at ih fin;simp[hlt,a1,hb,hx,eL,hc,cV,hneg,hr,h4,hcl,ht];exact WL.to ih (by simp) (by simp) fin
theorem LK(l:List (List Int)):(fM l pE).length=l.length:=by have:=bQ (f:=pE) (w:=1) (λ_=>rfl) l;omega
theorem Kx{bs:List Abs.aF}:dt T (.call true 213 [.bu] (bs::J))=some (.val (.sl J.length (bs.length+1) 0 0 0 1) ((bs++[.cells 0 [],.cells 0 []])::J)):=by
 refine sF rfl rfl rfl ?_;simp
theorem MN{bs:List Abs.aF}{l:List (List Int)}(hne:l≠[])(hl:l.length<=1000000):dt T (.call true 213 [lF l pE] (bs::J)) =
  some (.val (.sl J.length (bs.length+1) 1 0 l.length 1) ((bs++[.cells 0 [],.cells 1 (fM l pE)])::J)):=by
 refine sF rfl rfl rfl ?_;have h7:l.length*24<=room:=by unfold room;omega
 simp[hne,LK,h7]
theorem SE:J0=pE:=rfl
structure Sz(b:Bk):Prop where
 c9:b.aR.c9.length<=1000000000
 aw:b.aR.aw.length<=1000000
 ms:∀e∈b.aj,e.m.name.length<=1000000000/\e.m.dh.length<=1000000000
theorem Wg(b:bU)(m:cg)(az:List (List Int)):∃x y,Cv b m az=.agg [x,y]/\x.clean=true/\y.clean=true:=by
 unfold Cv;split
 .split
  .refine⟨_,_,rfl,?_,?_⟩<;>simp[ef (f:=lI) (λs=>by simp[lI,ef (f:=Rock.aF.enc) (λ_=>by simp[D.clean])])]
  .exact⟨_,_,rfl,rfl,rfl⟩
 .exact⟨_,_,rfl,rfl,rfl⟩
theorem N4{b:Bk}{er:List Int}{ls:List dU}{az:List (List Int)}(ht:b.aR.c9≠[])(hz:Sz b)(hm:∀e∈ls,e∈b.aj)(hl:ls.length<=1000000)(hp:az.length<=1000000000)(hpl:∀l∈az,l.length<=1000000000){S:SK}(hs:eT S J.length=some (b.bD J.length er)):∀(m i:Nat),i+m=ls.length ->
  WL T [0,11,80,81,82] false gf [(0,.ref J.length 6 0 0),(11,lF az pE),(80,lF ls dU.enc),(81,iI ls.length),(82,iI i)] S
   (λx e J'=>J'=S/\if b8 (λe=>lS b.aR e.m az) (ls.drop i)=0 then x=.exit 2/\get e 0=.ref J.length 6 0 0/\get e 11=lF az pE else x=.fw (rf (b8 (λe=>lS b.aR e.m az) (ls.drop i))))
 |0,i,hi=>by
  refine av gf.eq_1 ?_;have h1:¬i<ls.length:=by omega
  have h2:ls.drop i=[]:=an (by omega);simp[h1,h2,b8]
 |m+1,i,hi=>by
  refine av gf.eq_1 ?_;have h1:i<ls.length:=by omega
  obtain⟨e,he⟩:=gE h1;have hem:=hm e (ai he);obtain⟨k1,k2⟩:=hz.ms e hem;have hfl:=aP (f:=dU.enc) (w:=4) (λ_=>rfl) he;have hd:=bz he;have h4:=bO h1;have hlt:=zT hs;have hne:S≠[]:=by intro h;subst h;simp at hlt
  have hP:=WJ (J:=S) (b:=b.aR) (m:=e.m) (az:=az) (wq:=nl bA.enc b.aR.aw) kI hz.c9 (by have:=hz.aw;omega) k1 k2 hp hpl hne;have hc6:(b.bD J.length er)[6]?=some (.cells 0 (b.cells J.length)):=by simp[Bk.bD]
  obtain⟨px,py,hx,hx1,hx2⟩:=Wg b.aR e.m az;rw[hx,SE]at hP;have ih:=N4 ht hz hm hl hp hpl hs m (i+1) (by omega);have hlt':=eo (f:=Rw.enc) ht;rw[hd,b8];by_cases hc:lS b.aR e.m az=0
  .rw[hc]at hP;simp[h1,hfl,h4,hs,hc6,Bk.cells,hlt',hP,oo,hc];exact WL.to ih (by simp) rfl λx e' J' hh=>by simpa[hc]using hh
  .have hM:=pw (J:=S) hc;simp[h1,hfl,hs,hc6,Bk.cells,hlt',hP,hM,hc,rf]
def JQ(b:Bk)(az:List (List Int)):Bk:={b with az:=az }
def dE(b:Bk)(l:List Int):List (List Int):=b.az++[l.map (jv (mU b))]
def mM(b:Bk)(l:List Int):Bk×Int :=
 if cj b.aj=[]then(b,8)else if b.az.length<200 then(if l.length=b.aR.aw.length then(if dq l (λn=>bF n (-100000) 100000)=true then
  (if b8 (λe=>lS b.aR e.m (dE b l)) (cj b.aj)=0 then(JQ b (dE b l),0)else(b,b8 (λe=>lS b.aR e.m (dE b l)) (cj b.aj)))else(b,2))else(b,1))else(b,3)
theorem Qz{f:D->SK->D×SK}{a b:List D}{S:SK}:cH.frzL f (a++b) S=((cH.frzL f a S).1++(cH.frzL f b (cH.frzL f a S).2).1,(cH.frzL f b (cH.frzL f a S).2).2):=by
 induction a generalizing S with
 |nil=>simp
 |cons d a ih=>simp[ih]
theorem Yy{l:List (List Int)}:D.aW (fM l pE)=true:=ef (f:=pE) (λx=>by simp[pE,D.clean,kR]) l
theorem Nj{S:SK}{L v n:Nat}(hS:S.length=L)(hL:0<L){az:List (List Int)}(hn:n=az.length+1){r:List Int}{M:Abs.aF}:
  cH 0 16 (.sl L 2 v 0 n 1) ([.cells r.length (fM r aO),M,.cells v (fM az pE++[.sl L 0 r.length 0 r.length 1])]::S)=(.bZ n (fM (az++[r]) pE),[.dead,M,.dead]::S):=by
 have hne:S≠[]:=by intro h;subst h;simp at hS;omega
 subst hn;have hc:cells? ([Abs.aF.cells r.length (fM r aO),M,.cells v (fM az pE++[.sl L 0 r.length 0 r.length 1])]::S) L 2 v=some (fM az pE++[.sl L 0 r.length 0 r.length 1]):=by simp[hS]
 rw[YO hL hc];have h3:¬L<=0:=by omega
 have h1:=GP (l:=0) (n:=15) (l':=L) (i:=0) (v:=r.length) (off:=0) (m:=r.length) (w:=1) (J:=[Abs.aF.cells r.length (fM r aO),M,.dead]::S) (cs:=fM r aO) h3 (by simp[hS]) (by omega);have ht:(fM r aO).take r.length=fM r aO:=af (by rw[qY];omega);have hp:=LK az;have ht2:(fM az pE).take (az.length+1)=fM az pE:=af (by omega);simp[hS,Qz,Yy,h1,ht,hp,ht2,kR,pE,List.take_append]
theorem abe{F:List Abs.aF}{b:Bk}{er:List Int}{nm:List UInt8}{l:List Int}{b':Bk}{e:Int}(ht:b.aR.c9≠[])(hz:Sz b)(hll:l.length<=1000000)(hml:b.aj.length<=40)(h1:b.rules.length<=1000000)(h2:b.lL.length<=1000000)(h3:∀e∈b.lL,e.sp.length<=1000000)(hk:Trem.fy b.k0 b.k1 b.k2=true)(hpl:∀l∈b.az,l.length<=1000000000)(hd:mM b l=(b',e))(he:e=0):
  dt T (.call false 169 [.ref J.length 6 0 0,.str nm,lF l aO] (F::b.bD J.length er::J))=some (.val (.cQ []) (F::b'.bD J.length er::J)):=by
 refine fA rfl rfl rfl (by simp) ?_;unfold mM at hd;split at hd
 case isTrue=>cases hd;cases he
 rename_i c1;split at hd
 case isFalse=>cases hd;cases he
 rename_i c2;split at hd
 case isFalse=>cases hd;cases he
 rename_i c3;split at hd
 case isFalse=>cases hd;cases he
 rename_i c4;split at hd
 case isFalse=>cases hd;rename_i h;exact absurd he h
 rename_i c5;cases hd;obtain⟨kp0,kp,hkp,hkp2,hkp3⟩:∃c kp:Int,eZ b=c/\mU b=kp/\((c=0/\kp=b.k0)\/(c=1/\kp=b.k1)\/(c=2/\kp=b.k2)):=by
  refine⟨_,_,rfl,rfl,?_⟩;have:=Ff (b:=b);unfold mU;split
  .rename_i h;exact .inl ⟨h,rfl⟩
  .split
   .rename_i h;exact .inr (.inl ⟨h,rfl⟩)
   .refine .inr (.inr ⟨by omega,rfl⟩)
 have hkb:0<=kp/\kp<=1000:=by
  simp only[Trem.fy,ah,aB]at hk;rcases hkp3 with⟨_,rfl⟩ | ⟨_,rfl⟩ | ⟨_,rfl⟩<;>omega
 have q1:0<(cj b.aj).length:=aH.2 c1;have q2:(b.az.length:Int)<200:=by omega
 have hC:=λS=>PC (J:=J) (b:=b) (er:=er) (S:=S) h1 h2 h3
 try simp only[Cl]at hC
 have hLf:=λS=>Is (J:=J) (b:=b) (er:=er) (S:=S) (by omega)
 try simp only[lF,Cl]at hLf
 have hR:=N5 (J:=F::b.bD J.length er::J) hkb hll (bp:=.ref J.length 6 0 0) (X:=lF (cj b.aj) dU.enc) rfl rfl l.length 0 [] (by omega) rfl
 try simp only[lF]at hR
 rw[aC]at hR;rw[hkp]at hC;simp only[Bk.bD,Bk.cells]at hC hLf;have hw:(b.aR.aw.length:Int)=(l.length:Int):=by omega
 rcases hkp3 with⟨rfl,e2⟩ | ⟨rfl,e2⟩ | ⟨rfl,e2⟩
 all_goals
  subst e2;simp[Bk.bD,Bk.cells,hLf,q1,q2,hw,hC,cV];refine WL.to hR (by simp) (by simp[Bk.bD,Bk.cells]) ?_;intro x e J' hq;simp only[Dq,if_pos c4,List.nil_append]at hq;obtain⟨rfl,g0,g6,g8,rfl⟩:=hq;have hnp:dE b l=b.az++[l.map (jv (mU b))]:=rfl;rw[hkp2]at hnp;rw[hnp]at c5 ⊢;generalize hrs:l.map (jv _)=rs at g8 c5 ⊢;have hrl:rs.length=l.length:=by rw[<- hrs];simp
  have⟨hroom,h24⟩:(b.az.length+1)*24<=room/\24<=room:=by unfold room;omega
  have hpel:=LK b.az;have htk:(fM b.az pE).take b.az.length=fM b.az pE:=af (by omega);have hfr:=λS v hS=>Nj (S:=S) (L:=J.length+1+1) (v:=v) (n:=b.az.length+1) hS (by omega) (az:=b.az) rfl (r:=rs) (M:=.cells 0 [])
  have hLp:=N4 (J:=J) (b:=b) (er:=er) (ls:=cj b.aj) (az:=b.az++[rs]) ht hz (λe he=>(cX.1 he).1) (by have:=fD (λe:dU=>e.left) b.aj;simp only[cj];omega) (by simp;omega) (by
   intro r hr;rcases aU.1 hr with hr | hr
   .exact hpl r hr
   .simp at hr;subst hr;omega) (S:=[.dead,.cells 0 [],.dead]::F::b.bD J.length er::J) (by simp[eT]) (cj b.aj).length 0 (by omega)
  try simp only[lF]at hLp
  rw[aC]at hLp;have hcl:∀k,(D.bZ k (fM b.az pE++pE rs)).clean=true:=λk=>by simp[FN,Yy,pE,kR]
  have hcl0:∀k,(D.bZ k (pE rs)).clean=true:=λk=>by simp[pE,kR]
  have hnl2:=eo (f:=pE) (l:=b.az++[rs]) (by simp)
  try simp only[lF]at hnl2
  simp only[aV,aE,bd,o7,di,ot,cM]at hnl2;by_cases hp0:b.az=[]
  .have hnl:nl pE b.az=.bu:=by simp[nl,hp0]
   have hfr':=hfr;simp only[hp0,bd,ot,List.nil_append,cz]at hfr';simp[g0,g6,g8,Bk.bD,Bk.cells,hnl,Kx,h24,hfr'];refine WL.to hLp (by simp[hp0]) (by simp[Bk.bD,Bk.cells,hnl]) ?_;rintro x e J' ⟨rfl,hh⟩;rw[c5,if_pos rfl]at hh;obtain⟨rfl,j0,j11⟩:=hh;simp[j0,j11,Bk.bD,Bk.cells,JQ,hnl,hnl2,hcl]
  .simp[g0,g6,g8,Bk.bD,Bk.cells,eo hp0,MN hp0 (by omega:b.az.length<=1000000),hroom,hpel,htk,hfr];refine WL.to hLp (by simp) (by simp[Bk.bD,Bk.cells,eo hp0]) ?_;rintro x e J' ⟨rfl,hh⟩;rw[c5,if_pos rfl]at hh;obtain⟨rfl,j0,j11⟩:=hh;simp[j0,j11,Bk.bD,Bk.cells,JQ,eo hp0,hnl2,hcl]
theorem XE{F:List Abs.aF}{b:Bk}{er:List Int}{nm:List UInt8}{l:List Int}{b':Bk}{e:Int}(ht:cj b.aj≠[]->b.aR.c9≠[])(hz:Sz b)(hll:l.length<=1000000)(hml:b.aj.length<=40)(h1:b.rules.length<=1000000)(h2:b.lL.length<=1000000)(h3:∀e∈b.lL,e.sp.length<=1000000)(hk:Trem.fy b.k0 b.k1 b.k2=true)(hpl:∀l∈b.az,l.length<=1000000000)(hd:mM b l=(b',e))(he:e≠0):
  dt T (.call false 169 [.ref J.length 6 0 0,.str nm,lF l aO] (F::b.bD J.length er::J))=some (.fw (rf e) (F::b.bD J.length er::J)):=by
 refine dZ rfl rfl rfl ?_;have hLf:=λS=>Is (J:=J) (b:=b) (er:=er) (S:=S) (by omega)
 try simp only[lF,Cl]at hLf
 simp only[Bk.bD,Bk.cells]at hLf;unfold mM at hd;split at hd
 case isTrue c1 =>
  cases hd;simp[Bk.bD,Bk.cells,hLf,c1,dN,D.clean,rf]
 rename_i c1;have ht:=ht c1;have q1:0<(cj b.aj).length:=aH.2 c1;split at hd
 case isFalse c2 =>
  cases hd;have q2:¬(b.az.length:Int)<200:=by omega
  simp[Bk.bD,Bk.cells,hLf,q1,q2,cV,dN,D.clean,rf]
 rename_i c2;have q2:(b.az.length:Int)<200:=by omega
 split at hd
 case isFalse c3 =>
  cases hd;have q3:((l.length:Int) == (b.aR.aw.length:Int))=false:=by simp;omega
  simp[Bk.bD,Bk.cells,hLf,q1,q2,q3,cV,dN,D.clean,rf]
 rename_i c3;obtain⟨kp0,kp,hkp,hkp2,hkp3⟩:∃c kp:Int,eZ b=c/\mU b=kp/\((c=0/\kp=b.k0)\/(c=1/\kp=b.k1)\/(c=2/\kp=b.k2)):=by
  refine⟨_,_,rfl,rfl,?_⟩;have:=Ff (b:=b);unfold mU;split
  .rename_i h;exact .inl ⟨h,rfl⟩
  .split
   .rename_i h;exact .inr (.inl ⟨h,rfl⟩)
   .refine .inr (.inr ⟨by omega,rfl⟩)
 have hkb:0<=kp/\kp<=1000:=by
  simp only[Trem.fy,ah,aB]at hk;rcases hkp3 with⟨_,rfl⟩ | ⟨_,rfl⟩ | ⟨_,rfl⟩<;>omega
 have hC:=λS=>PC (J:=J) (b:=b) (er:=er) (S:=S) h1 h2 h3
 try simp only[Cl]at hC
 have hR:=N5 (J:=F::b.bD J.length er::J) hkb hll (bp:=.ref J.length 6 0 0) (X:=lF (cj b.aj) dU.enc) rfl rfl l.length 0 [] (by omega) rfl
 try simp only[lF]at hR
 rw[aC]at hR;rw[hkp]at hC;simp only[Bk.bD,Bk.cells]at hC;have hw:(b.aR.aw.length:Int)=(l.length:Int):=by omega
 split at hd
 case isFalse c4 =>
  cases hd;have c4':¬dq l (λn=>bF n (-100000) 100000)=true:=c4;rcases hkp3 with⟨rfl,e2⟩ | ⟨rfl,e2⟩ | ⟨rfl,e2⟩
  all_goals
   subst e2;simp[Bk.bD,Bk.cells,hLf,q1,q2,hw,hC,cV];refine WL.to hR (by simp) (by simp[Bk.bD,Bk.cells]) ?_;intro x e J' hq;simp only[Dq,if_neg c4']at hq;obtain⟨rfl,s,rfl⟩:=hq;simp[Bk.bD,Bk.cells,D.clean,rf]
 rename_i c4;split at hd
 case isTrue=>cases hd;exact absurd rfl he
 rename_i c5;cases hd;have hM:=λS=>pw (J:=S) c5
 have he':=c5;rcases hkp3 with⟨rfl,e2⟩ | ⟨rfl,e2⟩ | ⟨rfl,e2⟩
 all_goals
  subst e2;simp[Bk.bD,Bk.cells,hLf,q1,q2,hw,hC,cV];refine WL.to hR (by simp) (by simp[Bk.bD,Bk.cells]) ?_;intro x e J' hq;simp only[Dq,if_pos c4,List.nil_append]at hq;obtain⟨rfl,g0,g6,g8,rfl⟩:=hq;have hnp:dE b l=b.az++[l.map (jv (mU b))]:=rfl;rw[hkp2]at hnp;rw[hnp]at c5 ⊢;generalize hrs:l.map (jv _)=rs at g8 c5 ⊢;have hrl:rs.length=l.length:=by rw[<- hrs];simp
  have⟨hroom,h24⟩:(b.az.length+1)*24<=room/\24<=room:=by unfold room;omega
  have hpel:=LK b.az;have htk:(fM b.az pE).take b.az.length=fM b.az pE:=af (by omega);have hfr:=λS v hS=>Nj (S:=S) (L:=J.length+1+1) (v:=v) (n:=b.az.length+1) hS (by omega) (az:=b.az) rfl (r:=rs) (M:=.cells 0 [])
  have hLp:=N4 (J:=J) (b:=b) (er:=er) (ls:=cj b.aj) (az:=b.az++[rs]) ht hz (λe he=>(cX.1 he).1) (by have:=fD (λe:dU=>e.left) b.aj;simp only[cj];omega) (by simp;omega) (by
   intro r hr;rcases aU.1 hr with hr | hr
   .exact hpl r hr
   .simp at hr;subst hr;omega) (S:=[.dead,.cells 0 [],.dead]::F::b.bD J.length er::J) (by simp[eT]) (cj b.aj).length 0 (by omega)
  try simp only[lF]at hLp
  rw[aC]at hLp;have hcl:∀k,(D.bZ k (fM b.az pE++pE rs)).clean=true:=λk=>by simp[FN,Yy,pE,kR]
  have hcl0:∀k,(D.bZ k (pE rs)).clean=true:=λk=>by simp[pE,kR]
  have hnl2:=eo (f:=pE) (l:=b.az++[rs]) (by simp)
  try simp only[lF]at hnl2
  simp only[aV,aE,bd,o7,di,ot,cM]at hnl2;generalize herr:b8 (λe=>lS b.aR e.m (b.az++[rs])) (cj b.aj)=err at c5 ⊢;have hrc:(D.uJ 200 (.agg [iI err])).clean=true:=rfl;by_cases hp0:b.az=[]
  .have hnl:nl pE b.az=.bu:=by simp[nl,hp0]
   have hfr':=hfr;simp only[hp0,bd,ot,List.nil_append,cz]at hfr';simp[g0,g6,g8,Bk.bD,Bk.cells,hnl,Kx,h24,hfr'];refine WL.to hLp (by simp[hp0]) (by simp[Bk.bD,Bk.cells,hnl]) ?_;rintro x e J' ⟨rfl,hh⟩;rw[herr,if_neg c5]at hh;subst hh;simp[Bk.bD,Bk.cells,rf,hrc,hnl]
  .simp[g0,g6,g8,Bk.bD,Bk.cells,eo hp0,MN hp0 (by omega:b.az.length<=1000000),hroom,hpel,htk,hfr];refine WL.to hLp (by simp) (by simp[Bk.bD,Bk.cells,eo hp0]) ?_;rintro x e J' ⟨rfl,hh⟩;rw[herr,if_neg c5]at hh;subst hh;simp[Bk.bD,Bk.cells,rf,hrc,eo hp0]
end
section
open Go Go.Abs Go.Rock
variable {J:SK}
def Dy(t:Int×Int×Int):List D:=[iI t.1,iI t.2.1,iI t.2.2]
theorem acY(l:List (Int×Int×Int)):(fM l Dy).length=l.length*3:=bQ (f:=Dy) (w:=3) (λ_=>rfl) l
theorem Vr{b:bU}{x:tU}{n:Nat}(h:Bv b)(hw:0<=x.ka/\x.ka<=255):
  Cl 254 [.agg (bL b),.agg x.enc,iI n] (iI (eU b n x)) J:=by
 refine ar ?_;have hs:=λJ=>BT (J:=J) h
 have hz:=h.sz;have hn:=h.n;have hwl:=h.aw;have w1:=cm (n:=x.ka);have w2:=cm (n:=(b.n:Int)-1);have w3:=cm (n:=(b.aw.length:Int)-1);unfold eU;cases c1:bF x.ka 1 4
 .simp[dR,w1,c1]
 by_cases c2:x.lo < -10000000000
 .simp[dR,w1,c1,c2]
 by_cases c3:x.hi<x.lo
 .simp[dR,w1,c1,c2,c3]
 by_cases c4:10000000000<x.hi
 .simp[dR,w1,c1,c2,c3,c4]
 have hsz:b.size=(b.n:Int):=hz;by_cases c5:x.ka=1
 .cases c6:bF x.tick 0 n
  .simp[dR,show bF 1 1 4=true from rfl,c2,c3,c4,c5,c6,hs]
  .cases c7:bF x.idx 0 ((b.n:Int)-1)<;>
    simp[dR,w2,show bF 1 1 4=true from rfl,c2,c3,c4,c5,c6,c7,hs,hsz]
 .cases c6:bF x.tick 1 n
  .simp[dR,w1,c1,c2,c3,c4,c5,c6]
  .cases c7:bF x.idx 0 ((b.aw.length:Int)-1)<;>
    simp[dR,w1,w3,c1,c2,c3,c4,c5,c6,c7]
theorem aa3{lo hi n:Int}(h1 : -10000000000<=lo/\lo<=10000000000)(h2 : -10000000000<=hi/\hi<=10000000000)(hn : -100000000000000<=n/\n<=100000000000000):
  Cl 256 [.agg [iI lo,iI hi],iI n] (iI (EO lo hi n)) J:=by
 refine ar ?_;have w1:=cm (n:=n-hi);have w2:=cm (n:=n-lo);have w3:=cm (n:=max 0 (n-hi)+min 0 (n-lo));simp[w1,w2,w3,EO]
theorem XG{y:Rock.aF}(h1:0<=y.m/\y.m<=1000000)(h2:0<=y.h/\y.h<=10000000000):Cl 346 [.agg y.enc] (iI y.G4) J:=by
 refine ar ?_;unfold Rock.aF.G4;by_cases c:y.m=0
 .simp[c]
 .have e:y.h.tdiv y.m=y.h / y.m:=aS h2.1;have b1:0<=y.h / y.m/\y.h / y.m<=y.h:=⟨Int.ediv_nonneg h2.1 h1.1,Int.ediv_le_self _ h2.1⟩;have w1:=cm (n:=y.h.tdiv y.m);simp[c,w1]
theorem N0:Cl 308 [] (.agg [.ri,.ri,.fn 345 [] [],.fn 346 [] [],.fn 347 [] []]) J:=by
 refine ar ?_;simp
theorem aag{y:Rock.aF}(h1:0<=y.m/\y.m<=1000000)(h2:0<=y.h/\y.h<=10000000000):0<=y.G4/\y.G4<=10000000000:=by
 unfold Rock.aF.G4;split
 .omega
 .rw[aS h2.1];have b1:0<=y.h / y.m/\y.h / y.m<=y.h:=⟨Int.ediv_nonneg h2.1 h1.1,Int.ediv_le_self _ h2.1⟩;omega
theorem UK{b:bU}{m:cg}{r:RunT}{n:Nat}{x:tU}(h:Fv b m)(hr:MX b n r.1 r.2)(hx:Wx b n x):0<=pN b m r x/\pN b m r x<=1000000000000:=by
 unfold pN;split
 .rename_i h1;obtain⟨p1,p2,p3⟩:=hx.p h1;have hz:=h.bv.sz;obtain⟨s1,s2⟩:=ZO hr (t:=x.tick.toNat) (by omega);rw[s1];have:=H4 h s2 (i:=x.idx.toNat) (by unfold bU.size at p3;omega);simp only[Option.getD_some];omega
 .rename_i h1;obtain⟨p1,p2,p3⟩:=hx.y h1;obtain⟨y1,y2⟩:=Re hr (t:=x.tick.toNat-1) (by omega);have y3:=U3 y2 (w:=x.idx.toNat) (by omega);obtain⟨g1,g2,g3⟩:=y2.ok _ (ai y3);rw[y1];simp only[Option.getD_some,Rock.aF.NS];have:=aag g1 g2;split
  .omega
  .split<;>omega
theorem abg{b:bU}{m:cg}{r:RunT}{n:Nat}{x:tU}(h:Fv b m)(hr:MX b n r.1 r.2)(hx:Wx b n x)(hn:n<=200):
  Cl 257 [.agg (bM b m),.agg [lF r.1 lI,lF r.2 lI],.agg x.enc] (iI (pN b m r x)) J:=by
 refine ar ?_;unfold pN;have hsl:=hr.sl;have hyl:=hr.yl;by_cases h1:x.ka=1
 .obtain⟨p1,p2,p3⟩:=hx.p h1;have hz:=h.bv.sz;obtain⟨s1,s2⟩:=ZO hr (t:=x.tick.toNat) (by omega);have hP:=λJ=>KC (J:=J) h s2 (i:=x.idx.toNat) (by unfold bU.size at p3;omega)
  rw[dQ p2]at hP;have a1:=Z4 s1;have e2:x.tick<((n:Int)+1):=by omega
  rw[s1];simp[h1,hsl,p1.1,e2,a1,hP]
 .obtain⟨p1,p2,p3⟩:=hx.y h1;obtain⟨y1,y2⟩:=Re hr (t:=x.tick.toNat-1) (by omega);have y3:=U3 y2 (w:=x.idx.toNat) (by omega);obtain⟨g1,g2,g3⟩:=y2.ok _ (ai y3);have a1:=Z4 y1;have a4:=aP (f:=aF.enc) (w:=3) (λ_=>rfl) y3;have hyw:=y2.len;have w1:=cm (n:=x.tick-1);have⟨e1,e2,e3⟩:0<=x.tick-1/\x.tick-1<(n:Int)/\(x.tick-1).toNat=x.tick.toNat-1:=by omega
  have hw:=hx.ka;rw[if_neg h1,y1];have hA:=λJ=>abi (J:=J) (x:=aT (rowAt r.2 (x.tick.toNat-1)) x.idx.toNat)
  have hK:=λJ=>XJ (J:=J) (x:=aT (rowAt r.2 (x.tick.toNat-1)) x.idx.toNat)
  simp only[aF.enc]at hA hK;rcases(show x.ka=2\/x.ka=3\/x.ka=4 by omega)with h2 | h2 | h2
  .simp[h2,hyl,w1,p1.1,e2,e3,a1,a4,N0,hA,hyw,p2,p3,Rock.aF.NS]
  .have hW:=λJ=>XG (J:=J) g1 g2
   simp only[aF.enc]at hW;simp[h2,hyl,w1,p1.1,e2,e3,a1,a4,N0,hW,hyw,p2,p3,Rock.aF.NS]
  .simp[h2,hyl,w1,p1.1,e2,e3,a1,a4,N0,hK,hyw,p2,p3,Rock.aF.NS]
theorem OS{l:List tU}{j:Nat}{m:tU}(h:l[j]?=some m):((fM l tU.enc).drop (j*5)).take 5=m.enc :=
 aP (f:=tU.enc) (w:=5) (λ_=>rfl) h
theorem Vz{A B:Abs.aF}:dt T (.Ag 251 [.ref J.length 2 0 0] (some (.uJ 428 (.agg []))) ([A,B,.cells 0 [iI 0]]::J))=some (.val (.cQ []) ([A,B,.cells 0 [iI 9]]::J)):=by
 refine D8 rfl rfl rfl (by simp[sf];exact⟨rfl,rfl⟩) ?_;simp
theorem Yz(l:List tU):D.aW (fM l tU.enc)=true:=ef (λx=>by simp) l
theorem Ug(l:List (List Int)):D.aW (fM l J0)=true:=ef (λx=>by simp[J0,D.clean,kR]) l
theorem Ex{l0 L i w n:Nat}{S:SK}(hn:0<n)(h:¬L<=l0)(hc:cells? S L i 0=some []):cH l0 n (.sl L i 0 0 0 w) S=(.bZ 0 [],bj S L i .dead):=by
 rw[GP h hc hn];simp
theorem Ul{l0 L i w:Nat}{S:SK}(h:¬L<=l0)(hc:cells? S L i 0=some []):cH l0 16 (.sl L i 0 0 0 w) S=(.bZ 0 [],bj S L i .dead):=Ex (by omega) h hc
theorem XV{b:bU}{l:List cg}{az:List (List Int)}{rd:List tU}(h:Ok b l az)(hl:rd.length<=40)(hw:∀x∈rd,0<=x.ka/\x.ka<=255){A B:Abs.aF}:∀(k i:Nat),i+k=rd.length ->
  WL T [1,2,3,4,8,9,10,32,33,34] true kU [(1,lF l cg.enc),(2,lF az J0),(3,lF rd tU.enc),(4,.aZ (bL b)),(8,.sl J.length 0 0 0 0 1),(9,.sl J.length 1 0 0 0 3),(10,.ref J.length 2 0 0),(32,lF rd tU.enc),(33,iI rd.length),(34,iI i)] ([A,B,.cells 0 [iI 0]]::J)
   (λx e J'=>if b8 (eU b az.length) (rd.drop i)=0 then x=.exit 0/\J'=[A,B,.cells 0 [iI 0]]::J/\get e 1=lF l cg.enc/\get e 2=lF az J0/\get e 3=lF rd tU.enc/\get e 4=.aZ (bL b)/\get e 8=.sl J.length 0 0 0 0 1/\get e 9=.sl J.length 1 0 0 0 3/\get e 10=.ref J.length 2 0 0
    else x=.ret/\get e 8=.bZ 0 []/\get e 9=.bZ 0 []/\get e 10=.ref J.length 2 0 0/\J'=[A,B,.cells 0 [iI (b8 (eU b az.length) (rd.drop i))]]::J):=by
 intro k;induction k with
 |zero =>
  intro i hi;refine G7 kU.eq_1 ?_;have h1:¬i<rd.length:=by omega
  have h2:rd.drop i=[]:=an (by omega);simp[h1,h2,b8,Yu,Yz,DE,yk,Ug]
 |succ k ih0 =>
  intro i hi;refine G7 kU.eq_1 ?_;have h1:i<rd.length:=by omega
  obtain⟨x,hx⟩:=gE h1;have h2:=OS hx;have h4:=bO h1;have h5:=bz hx;have hC:=λJ=>Vr (J:=J) (n:=az.length) h.bv (hw x (ai hx))
  simp only[tU.enc]at h2 hC;have ih:=ih0 (i+1) (by omega);rw[h5,b8];by_cases hc:eU b az.length x=0
  .simp[h1,h2,h4,hC,hc,Yu,Yz,DE,yk,Ug];exact WL.to ih (by simp) (by simp) λx e J hh=>by simpa[hc]using hh
  .simp[h1,h2,hC,hc];have z:=Ul (l0:=J.length) (L:=J.length+1) (i:=0) (w:=1) (S:=[.cells 0 [],.cells 0 []]::[A,B,.cells 0 [iI (eU b (az.length:Int) x)]]::J) (by omega) (by simp);simp at z;rw[z];simp only[];rw[Ul (by omega) (by simp)];simp
abbrev Tri:=Int×Int×Int
def CA(i n:Nat):Nat->List Int->Nat×List Tri->Nat×List Tri
 |_,[],st=>st
 |k,v::vs,st=>CA i n (k+1) vs (if v≠0/\st.1=n then(k,st.2++[((i:Int),(k:Int),v)])else st)
theorem LZ{i n:Nat}:∀(vs:List Int) (k:Nat) (st:Nat×List Tri),st.1≠n->CA i n k vs st=st
 |[],k,st,h=>rfl
 |v::vs,k,st,h=>by
  simp only[CA];rw[if_neg (λhh=>h hh.2)];exact LZ vs (k+1) st h
theorem NK{i n:Nat}:∀(vs:List Int) (k:Nat) (st:Nat×List Tri),k+vs.length=n->(st.1≠n->st.1<n)->(CA i n k vs st).2.length<=st.2.length+1/\(CA i n k vs st).1<=n
 |[],k,st,h,hh=>by simp only[CA];exact⟨by omega,Classical.byContradiction λh1=>by have:=hh (by omega);omega⟩
 |v::vs,k,st,h,hh=>by
  simp only[CA];simp only[aE]at h;by_cases hc:v≠0/\st.1=n
  .rw[if_pos hc,LZ vs (k+1) _ (by simp only;omega)];simp;omega
  .rw[if_neg hc];exact NK vs (k+1) st (by omega) hh
def GB(b:bU)(m:cg)(r:RunT)(rd:List tU):List Int:=rd.map λx=>EO x.lo x.hi (pN b m r x)
theorem Ny(b:bU)(m:cg)(r:RunT)(rd:List tU):(GB b m r rd).length=rd.length:=by simp[GB]
theorem aeR{b:bU}{l:List cg}{az:List (List Int)}{rd:List tU}{rs:List RunT}{m:cg}{r:RunT}{i:Nat}(h:Ok b l az)(hR:Rs b l az.length rs)(hl:rd.length<=40)(hx:∀x∈rd,Wx b az.length x)(hm:l[i]?=some m)(hr:rs[i]?=some r){A B:Abs.aF}{L10:Nat}{s0:Nat}(hs0:s0<=100):
  ∀(k j:Nat) (st:Nat×List Tri),j+k=rd.length->st.1<=rd.length->st.2.length<=s0+j ->
  WL T [3,4,8,9,10,15,16,17,18,51,52,53,60,61,62] false kV [(3,lF rd tU.enc),(4,.aZ (bL b)),(8,.sl J.length 0 L10 0 L10 1),(9,.sl J.length 1 st.2.length 0 st.2.length 3),(10,.ref J.length 2 0 0),(15,lF rs G3),(16,iI i),(17,.own 0 (mL m)),(18,iI st.1),(51,lF l cg.enc),(52,iI l.length),(53,iI i),(60,lF rd tU.enc),(61,iI rd.length),(62,iI j)]
   ([A,.cells st.2.length (fM st.2 Dy),B]::J)
   (λx e J'=>x=.exit 4/\∃st',st'=CA i rd.length j ((GB b m r rd).drop j) st/\get e 3=lF rd tU.enc/\get e 4=.aZ (bL b)/\get e 8=.sl J.length 0 L10 0 L10 1/\get e 9=.sl J.length 1 st'.2.length 0 st'.2.length 3/\get e 10=.ref J.length 2 0 0/\get e 15=lF rs G3/\get e 16=iI i/\get e 18=iI st'.1/\get e 51=lF l cg.enc/\get e 52=iI l.length/\get e 53=iI i /\
    J'=[A,.cells st'.2.length (fM st'.2 Dy),B]::J):=by
 intro k;induction k with
 |zero =>
  intro j st hj h1 h2;refine av kV.eq_1 ?_;have h3:¬j<rd.length:=by omega
  have h4:(GB b m r rd).drop j=[]:=an (by rw[Ny];omega);simp[h3,h4,CA]
 |succ k ih0 =>
  intro j st hj g1 g2;refine av kV.eq_1 ?_;have h1:j<rd.length:=by omega
  obtain⟨x,hxj⟩:=gE h1;have hmm:=ai hm;have hrr:=hR.all r (ai hr);have hxv:=hx x (ai hxj);have h2:=OS hxj;have h4:=bO h1;have hpl:=h.Wh;have hi:i<rs.length:=(aA.1 hr).1;have hV:=λJ=>abg (J:=J) (h.fv m hmm) hrr hxv hpl
  have hb:=UK (h.fv m hmm) hrr hxv;have hen:=hxv.ends;have hM:=λJ=>aa3 (J:=J) (lo:=x.lo) (hi:=x.hi) (n:=pN b m r x) (by omega) (by omega) (by omega)
  have a1:=acD hr;have e1:(GB b m r rd)[j]?=some (EO x.lo x.hi (pN b m r x)):=by simp[GB,hxj]
  have h5:=bz e1;simp only[tU.enc]at h2 hV;have a7:=acY st.2;have a8:(fM st.2 Dy).take (st.2.length*3)=fM st.2 Dy:=af (by omega);have h8:(st.2.length+1)*24<=room:=by unfold room;omega
  rw[h5,CA];generalize EO x.lo x.hi (pN b m r x)=v at *
  by_cases c1:v=0
  .have ih:=ih0 (j+1) st (by omega) g1 (by omega);simp[h1,h2,h4,hV,hM,hi,a1,c1];exact WL.to ih (by simp) (by simp) λx e J hh=>by simpa[c1]using hh
  .by_cases c2:st.1=rd.length
   .have ih:=ih0 (j+1) (j,st.2++[((i:Int),(j:Int),v)]) (by omega) (by simp only;omega) (by simp;omega);simp[h1,h2,h4,hV,hM,hi,a1,c1,c2,a7,a8,h8];exact WL.to ih (by simp) (by simp[Dy]) λx e J hh=>by simpa[c1,c2]using hh
   .have ih:=ih0 (j+1) st (by omega) g1 (by omega);have c3:¬(st.1:Int)=rd.length:=by omega
    simp[h1,h2,h4,hV,hM,hi,a1,c1,c2,c3];exact WL.to ih (by simp) (by simp) λx e J hh=>by simpa[c2]using hh
def LO(b:bU)(rd:List tU):Nat->List (cg×RunT)->List Int×List Tri->List Int×List Tri
 |_,[],st=>st
 |i,p::t,st=>LO b rd (i+1) t (if(CA i rd.length 0 (GB b p.1 p.2 rd) (rd.length,st.2)).1=rd.length then st.1++[(i:Int)]else st.1,(CA i rd.length 0 (GB b p.1 p.2 rd) (rd.length,st.2)).2)
theorem aeQ{b:bU}{l:List cg}{az:List (List Int)}{rd:List tU}{rs:List RunT}(h:Ok b l az)(hR:Rs b l az.length rs)(hl:rd.length<=40)(hx:∀x∈rd,Wx b az.length x){B:Abs.aF}:
  ∀(k i:Nat) (st:List Int×List Tri),i+k=l.length->st.1.length<=i->st.2.length<=i ->
  WL T [3,4,8,9,10,15,51,52,53] false kW [(3,lF rd tU.enc),(4,.aZ (bL b)),(8,.sl J.length 0 st.1.length 0 st.1.length 1),(9,.sl J.length 1 st.2.length 0 st.2.length 3),(10,.ref J.length 2 0 0),(15,lF rs G3),(51,lF l cg.enc),(52,iI l.length),(53,iI i)]
   ([.cells st.1.length (fM st.1 aO),.cells st.2.length (fM st.2 Dy),B]::J)
   (λx e J'=>x=.exit 2/\∃st',st'=LO b rd i ((l.zip rs).drop i) st/\get e 8=.sl J.length 0 st'.1.length 0 st'.1.length 1/\get e 9=.sl J.length 1 st'.2.length 0 st'.2.length 3/\get e 10=.ref J.length 2 0 0 /\
    J'=[.cells st'.1.length (fM st'.1 aO),.cells st'.2.length (fM st'.2 Dy),B]::J):=by
 intro k;induction k with
 |zero =>
  intro i st hi g1 g2;refine av kW.eq_1 ?_;have h1:¬i<l.length:=by omega
  have h2:(l.zip rs).drop i=[]:=an (by rw[List.length_zip];omega);simp[h1,h2,LO]
 |succ k ih0 =>
  intro i st hi g1 g2;refine av kW.eq_1 ?_;have h1:i<l.length:=by omega
  have hlen:=hR.len;have hne:=hR.ne;obtain⟨m,hm⟩:=gE h1;obtain⟨r,hr⟩:∃r,rs[i]?=some r:=gE (by omega);have h2:=Uv hm;have h4:=bO h1;have hz:(l.zip rs)[i]?=some (m,r):=by simp[List.getElem?_zip_eq_some,hm,hr]
  have h5:=bz hz;have hsl:=NK (i:=i) (GB b m r rd) 0 (rd.length,st.2) (n:=rd.length) (by rw[Ny];omega) (by simp);rw[h5,LO];simp[h1,h2];refine WL.to (aeR (J:=J) h hR hl hx hm hr (A:=.cells st.1.length (fM st.1 aO)) (B:=B) (L10:=st.1.length) (s0:=50) (by omega) rd.length 0 (rd.length,st.2) (by omega) (by simp) (by simp only;omega)) (by simp) (by simp) ?_;rintro x e J' ⟨rfl,st',hst,q3,q4,q8,q9,q10,q15,q16,q18,q51,q52,q53,rfl⟩;rw[aC]at hst;rw[<- hst];rw[<- hst]at hsl;have a4:=Uq st.1;have a6:(fM st.1 aO).take st.1.length=fM st.1 aO:=af (by omega);have h7:(st.1.length+1)*8<=room:=by unfold room;omega
  by_cases hc:st'.1=rd.length
  .have ih:=ih0 (i+1) (st.1++[(i:Int)],st'.2) (by omega) (by simp;omega) (by simp only at hsl ⊢;omega);rw[if_pos hc];simp[q3,q4,q8,q9,q10,q15,q16,q18,q51,q52,q53,hc,h4,a4,a6,h7];exact WL.to ih (by simp) (by simp) λx e J hh=>by simpa using hh
  .have ih:=ih0 (i+1) (st.1,st'.2) (by omega) (by simp only;omega) (by simp only at hsl ⊢;omega);rw[if_neg hc];have hc':¬(st'.1:Int)=rd.length:=by omega
   simp[q3,q4,q8,q9,q10,q15,q16,q18,q51,q52,q53,hc',h4];exact WL.to ih (by simp) (by simp) λx e J hh=>by simpa using hh
def Tf(b:bU)(l:List cg)(az:List (List Int))(rd:List tU):D :=
 if vR b az.length rd=0 then
  match zR b az l with
  |some rs => .cQ [.bZ (LO b rd 0 (l.zip rs) ([],[])).1.length (fM (LO b rd 0 (l.zip rs) ([],[])).1 aO),.bZ (LO b rd 0 (l.zip rs) ([],[])).2.length (fM (LO b rd 0 (l.zip rs) ([],[])).2 Dy),.int .i64 0]
  |none => .cQ [.bZ 0 [],.bZ 0 [],.int .i64 9]
 else .cQ [.bZ 0 [],.bZ 0 [],iI (vR b az.length rd)]
theorem II{l0 a b:Nat}{k:Int}{A B:List D}{S S1 S2:SK}{d1 d2:D}(h1:cH l0 15 d1 S=(.bZ a A,S1))(h2:cH l0 15 d2 S1=(.bZ b B,S2)):cH l0 16 (.cQ [d1,d2,iI k]) S=(.cQ [.bZ a A,.bZ b B,iI k],S2):=by
 by_cases hc:D.clean (.cQ [d1,d2,iI k])=true
 .rw[de hc (by omega)];simp only[D.clean,D.aW,Bool.and_true,ah]at hc;rw[de hc.1 (by omega)]at h1;rw[de hc.2 (by omega)]at h2;cases h1;cases h2;rfl
 .rw[pG (by simpa using hc) (by omega)];simp only[ff,gj];rw[h1];simp only;rw[h2];simp only;rw[de (by rfl) (by omega)]
end
section
open Go Go.Abs Go.Rock Go.Book
variable {J:SK}
theorem HL{α:Type}{f:α->List D}{l:List α}{v t:Nat}{e:Env}{S:SK}(h:Abs.get e v=nl f l):Abs.get (Sy v (nl f l) e S).1 t=if v=t then lF l f else Abs.get e t:=by
 unfold nl at h ⊢;split at h
 .rename_i hl;subst hl;simp
 .rename_i hl;simp[hl];intro hh;subst hh;exact h
theorem Kg{α:Type}{f:α->List D}{l:List α}{v:Nat}{e:Env}{S:SK}:(Sy v (nl f l) e S).2=S:=by
 unfold nl;split<;>simp
theorem RV{wq:D}{b:bU}{l:List cg}{az:List (List Int)}{rd:List tU}(hwq:wq.rN=lF b.aw bA.enc)(h:Ok b l az)(hl:rd.length<=1000000000)(hw:∀x∈rd,0<=x.ka/\x.ka<=255)(hJ:J≠[]):
  Cl 215 [.agg [iI b.f.x,iI b.f.y,iI b.f.z,iI b.f.k,lF b.c9 Rw.enc,iI b.cG,iI b.lift,iI b.deep,wq],lF l cg.enc,nl J0 az,lF rd tU.enc] (Tf b l az rd) J:=by
 have h1:=λJ=>aa0 (J:=J) h
 unfold Tf;by_cases c0:40<rd.length
 .have e1:vR b az.length rd=3:=by simp[vR,c0]
  rw[e1];refine ar ?_;simp[hwq,HL,Kg,h1,show(40:Int)<rd.length by omega];have hp:=aH.2 hJ;rw[II (Ex (by omega) (by omega) (by simp)) (Ex (by omega) (by omega) (by simp))];simp
 have e1:vR b az.length rd=b8 (eU b az.length) rd:=by simp[vR,c0]
 rw[e1];have c0':¬(40:Int)<rd.length:=by omega
 have hL:=XV (J:=J) h (by omega) hw (A:=.cells 0 []) (B:=.cells 0 []) rd.length 0 (by omega);rw[aC]at hL;by_cases c1:b8 (eU b az.length) rd=0
 .rw[c1]at hL;rw[if_pos c1];have hx:∀x∈rd,Wx b az.length x:=λx hx=>Wx.of (qq c1 x hx)
  refine Qg KM uh.eq_1 rfl rfl ?_;cases hrs:zR b az l with
  |none =>
   have h2:=λJ=>XA (J:=J) h hrs
   have hX:xo T (.fn 251 [] []) [.ref J.length 2 0 0] (some (.uJ 428 (.agg []))) ([.cells 0 [],.cells 0 [],.cells 0 [iI 0]]::J)=some ([.cells 0 [],.cells 0 [],.cells 0 [iI 9]]::J):=vw Vz;simp[toD,hwq,HL,Kg,h1,c0'];refine WL.to hL (by simp) (by simp) ?_;intro x e J' hh;rw[if_pos rfl]at hh;obtain⟨rfl,rfl,g1,g2,g3,g4,g8,g9,g10⟩:=hh;simp[];rw[BW ou.eq_1];simp[Qm,g1,g2,g4,g8,g9,g10,h2,hX];have hp:=aH.2 hJ;rw[II (Ex (by omega) (by omega) (by simp)) (Ex (by omega) (by omega) (by simp))];simp
  |some rs =>
   have hR:=Rs.of h hrs;have h2:=λJ hJ=>XB (J:=J) h hJ hrs hR.len
   simp[toD,hwq,HL,Kg,h1,c0'];refine WL.to hL (by simp) (by simp) ?_;intro x e J' hh;rw[if_pos rfl]at hh;obtain⟨rfl,rfl,g1,g2,g3,g4,g8,g9,g10⟩:=hh;simp[];rw[BW ou.eq_1];simp[g1,g2,g3,g4,g8,g9,g10,h2];refine WL.to (aeQ (J:=J) h hR (by omega) hx (B:=.cells 0 [iI 0]) l.length 0 ([],[]) (by omega) (by simp) (by simp)) (by simp) (by simp) ?_;rintro x e J' ⟨rfl,st,hst,q8,q9,q10,rfl⟩;rw[aC]at hst;rw[<- hst];have hX:xo T (.fn 251 [] []) [.ref J.length 2 0 0] none ([.cells st.1.length (fM st.1 aO),.cells st.2.length (fM st.2 Dy),.cells 0 [iI 0]]::J)=some ([.cells st.1.length (fM st.1 aO),.cells st.2.length (fM st.2 Dy),.cells 0 [iI 0]]::J):=vw KQ;simp[Qm,q8,q9,q10,g10,hX];rw[II (gG (n:=15) (f:=aO) (w:=1) (l:=st.1) (by decide) (λ_=>rfl) (λx=>by simp) hJ (by simp)) (gG (n:=15) (f:=Dy) (w:=3) (l:=st.2) (by decide) (λ_=>rfl) (λx=>by simp[Dy]) hJ (by simp))];simp
 .simp only[c1,if_false];refine ar ?_;simp[hwq,HL,Kg,h1,c0'];refine WL.to hL (by simp) (by simp) ?_;intro x e J' hh;rw[if_neg c1]at hh;obtain⟨rfl,g8,g9,g10,rfl⟩:=hh;simp[g8,g9,g10]
end
end Go.Proofs.YtpapbbojmclkgaaGreatDoor
namespace Go.Book
open Go Go.Abs Go.Rock
def MH(lo hi s:Int):Int:=if hi<s\/s<lo then s else lo
end Go.Book
namespace Go.Proofs.YtpapbbojmclkgaaGreatDoor
open Go Go.Abs Go.Rock Go.Book
variable {J:SK}
def sO(b:Bk)(x:tU)(m:cg):Int:=match Rock.run b.aR m b.az with
 |some r=>MH x.lo x.hi (pN b.aR m r x)
 |none=>x.lo
theorem UZ{b:bU}{m:cg}{az:List (List Int)}{x:tU}{r:RunT}(hr:vR b az.length [x]=0)(hrun:Rock.run b m az=some r):
  ∃n A,Tf b [m] az [x]=.cQ [.bZ n A,.bZ (if EO x.lo x.hi (pN b m r x)=0 then 0 else 1) (if EO x.lo x.hi (pN b m r x)=0 then []else Dy (0,0,EO x.lo x.hi (pN b m r x))),iI 0]/\D.aW A=true:=by
 have h1:zR b az [m]=some [r]:=by simp[zR,hrun]
 refine⟨(LO b [x] 0 [(m,r)] ([],[])).1.length,fM (LO b [x] 0 [(m,r)] ([],[])).1 aO,?_,kR _⟩;unfold Tf;rw[if_pos hr,h1];by_cases hz:EO x.lo x.hi (pN b m r x)=0<;>simp[LO,CA,GB,hz]
theorem acO{b:bU}{m:cg}{az:List (List Int)}{x:tU}(hr:vR b az.length [x]≠0):Tf b [m] az [x]=.cQ [.bZ 0 [],.bZ 0 [],iI (vR b az.length [x])]:=by
 unfold Tf;rw[if_neg hr]
theorem Cw{b:bU}{n:Int}{x:tU}:vR b n [x]=eU b n x:=by
 simp only[vR,aE,bd,b8];by_cases h:eU b n x=0<;>simp[h]
theorem GD{b:Bk}{m:cg}{x:tU}(ht:b.aR.c9≠[])(hok:Ok b.aR [m] b.az)(hw:0<=x.ka/\x.ka<=255)(hJ:J≠[]):
  Cl 215 [.agg [iI b.aR.f.x,iI b.aR.f.y,iI b.aR.f.z,iI b.aR.f.k,nl Rw.enc b.aR.c9,iI b.aR.cG,iI b.aR.lift,iI b.aR.deep,nl bA.enc b.aR.aw],.bZ 1 (mL m),nl pE b.az,.bZ 1 x.enc] (Tf b.aR [m] b.az [x]) J:=by
 have h:=RV (J:=J) (wq:=nl bA.enc b.aR.aw) kI hok (rd:=[x]) (by simp) (by intro y hy;simp at hy;subst hy;exact hw) hJ;rw[eo ht];simpa[SE]using h
theorem aaY{F:List Abs.aF}{b:Bk}{er:List Int}{m:cg}{x:tU}{w:Int}{r:RunT}(ht:b.aR.c9≠[])(hok:Ok b.aR [m] b.az)(hw:0<=x.ka/\x.ka<=255)(hr:eU b.aR b.az.length x=0)(hrun:Rock.run b.aR m b.az=some r):
  Cl 216 [.agg (mL m),.aZ [.ref J.length 6 0 0],.ref (J.length+1+1) 0 0 0,.aZ [.bZ 4 [iI w,iI x.idx,iI x.lo,iI x.hi]]] (iI (sO b x m)) ([]::[.cells 0 x.enc]::F::b.bD J.length er::J):=by
 refine ar ?_;have hS:=λS hS=>GD (J:=S) ht hok hw hS
 obtain⟨n,A,h1,hA⟩:=UZ (b:=b.aR) (m:=m) (az:=b.az) (x:=x) (by rw[Cw];exact hr) hrun;rw[h1]at hS;have hd:=Wx.of hr;have hb:=UK (hok.fv m (by simp)) (MX.of (hok.fv m (by simp)) hok.aG hrun) hd;obtain⟨e1,e2,e3⟩:=hd.ends;have hv:sO b x m=MH x.lo x.hi (pN b.aR m r x):=by simp[sO,hrun]
 rw[hv];have hm:=SM (lo:=x.lo) (hi:=x.hi) (s:=pN b.aR m r x) e2;generalize pN b.aR m r x=s at *
 simp only[tU.enc]at hS ⊢;unfold Zi at hm;by_cases c1:x.hi<s
 .rw[if_pos c1]at hm;have⟨c2,c3⟩:¬s-x.hi=0/\0<s-x.hi:=by omega
  have w1:IntKind.i64.wrap (x.hi+(s-x.hi))=s:=by rw[show x.hi+(s-x.hi)=s by omega];exact cm
  have hq:MH x.lo x.hi s=s:=by simp[MH,c1]
  rw[hm]at hS;simp[Bk.bD,Bk.cells,hS,c1,c2,w1,hq,Dy]
 .rw[if_neg c1]at hm;by_cases c4:s<x.lo
  .rw[if_pos c4]at hm;have⟨c2,c3⟩:¬s-x.lo=0/\¬0<s-x.lo:=by omega
   have w1:IntKind.i64.wrap (x.lo+(s-x.lo))=s:=by rw[show x.lo+(s-x.lo)=s by omega];exact cm
   have hq:MH x.lo x.hi s=s:=by simp[MH,c4]
   rw[hm]at hS;simp[Bk.bD,Bk.cells,hS,(show ¬x.lo<s by omega),c2,w1,hq,Dy]
  .rw[if_neg c4]at hm;have hq:MH x.lo x.hi s=x.lo:=by simp[MH,c1,c4]
   rw[hm]at hS;simp[Bk.bD,Bk.cells,hS,hq]
def pa(b:Bk)(x:tU):Bk×Int :=
 if cj b.aj=[]then(b,8)else if bF x.ka 0 255=true then(if eU b.aR b.az.length x=0 then(ig b x.lo x.hi (sO b x),0)else(b,eU b.aR b.az.length x))else(b,1)
theorem aaZ{F:List Abs.aF}{b:Bk}{er:List Int}{nm:List UInt8}{w i lo hi:Int}{b':Bk}{e:Int}(ht:b.aR.c9≠[])(hw:b.eg.length=b.aj.length)(hml:b.aj.length<=40)(hok:∀e∈b.aj,Ok b.aR [e.m] b.az)(hrun:∀e∈b.aj,e.left=true->∃r,Rock.run b.aR e.m b.az=some r)(hd:pa b ⟨b.az.length,w,i,lo,hi⟩=(b',e))(he:e=0):
  dt T (.call false 170 [.ref J.length 6 0 0,.str nm,.bZ 4 [iI w,iI i,iI lo,iI hi]] (F::b.bD J.length er::J))=some (.val (.cQ []) (F::b'.bD J.length er::J)):=by
 refine fA rfl rfl rfl (by simp) ?_;unfold pa at hd;split at hd
 case isTrue=>cases hd;cases he
 rename_i c1;split at hd
 case isFalse=>cases hd;cases he
 rename_i c2;split at hd
 case isFalse=>cases hd;rename_i h;exact absurd he h
 rename_i c3;cases hd;have c2i:=aQ.1 c2;have q1:0<(cj b.aj).length:=aH.2 c1;have hLf:=λS=>Is (J:=J) (b:=b) (er:=er) (S:=S) (by omega)
 obtain⟨e0,ls,hls⟩:∃e0 ls,cj b.aj=e0::ls:=by
  cases h:cj b.aj with
  |nil=>exact absurd h c1
  |cons a l=>exact⟨a,l,rfl⟩
 have he0:e0∈b.aj/\e0.left=true:=cX.1 (show e0∈cj b.aj by rw[hls];simp);obtain⟨r0,hr0⟩:=hrun e0 he0.1 he0.2;have w1:IntKind.u8.wrap w=w:=wu8 (by omega);have hS:=λS hS=>GD (J:=S) (x:=⟨b.az.length,w,i,lo,hi⟩) ht (hok e0 he0.1) (by simpa using c2i) hS
 obtain⟨n,A,h1,hA⟩:=UZ (b:=b.aR) (m:=e0.m) (az:=b.az) (x:=⟨b.az.length,w,i,lo,hi⟩) (by rw[Cw];exact c3) hr0;rw[h1]at hS;have hst:=PK (J:=J) (A:=[.cells 0 (tU.enc ⟨b.az.length,w,i,lo,hi⟩)]) (F:=F) (b:=b) (er:=er) (lo:=lo) (hi:=hi) (val:=sO b ⟨b.az.length,w,i,lo,hi⟩) (fv:=.fn 216 [] [.aZ [.ref J.length 6 0 0],.ref (J.length+1+1) 0 0 0,.aZ [.bZ 4 [iI w,iI i,iI lo,iI hi]]]) rfl rfl hw hml (by
  intro k e he hl;obtain⟨r,hr⟩:=hrun e he hl;have h:=aaY (J:=J) (F:=F) (er:=er) (b:=b.gF lo hi (sO b ⟨b.az.length,w,i,lo,hi⟩) k) (m:=e.m) (x:=⟨b.az.length,w,i,lo,hi⟩) (w:=w) ht (hok e he) (by simpa using c2i) c3 hr;rw[pS];have h':dt T (.call false 216 ([]++[.agg (mL e.m)]++[.aZ [.ref J.length 6 0 0],.ref (J.length+1+1) 0 0 0,.aZ [.bZ 4 [iI w,iI i,iI lo,iI hi]]]) ([]::[.cells 0 (tU.enc ⟨b.az.length,w,i,lo,hi⟩)]::F::(b.gF lo hi (sO b ⟨b.az.length,w,i,lo,hi⟩) k).bD J.length er::J))=_:=h;rw[h'];rfl)
 rw[hls]at hLf;simp only[Bk.bD,Bk.cells,tU.enc]at hst hLf hS;have hcl:∀T,D.aW (if T=0 then []else Dy (0,0,T))=true:=λT=>by split<;>simp[Dy]
 simp[Bk.bD,Bk.cells,hLf,cV,eL,c2,w1,hS,oo,hst]
theorem Xo{F:List Abs.aF}{b:Bk}{er:List Int}{nm:List UInt8}{w i lo hi:Int}{b':Bk}{e:Int}(ht:cj b.aj≠[]->b.aR.c9≠[])(hml:b.aj.length<=40)(hok:∀e∈b.aj,Ok b.aR [e.m] b.az)(hd:pa b ⟨b.az.length,w,i,lo,hi⟩=(b',e))(he:e≠0):
  dt T (.call false 170 [.ref J.length 6 0 0,.str nm,.bZ 4 [iI w,iI i,iI lo,iI hi]] (F::b.bD J.length er::J))=some (.fw (rf e) (F::b.bD J.length er::J)):=by
 refine dZ rfl rfl rfl ?_;have hLf:=λS=>Is (J:=J) (b:=b) (er:=er) (S:=S) (by omega)
 simp only[Bk.bD,Bk.cells]at hLf;unfold pa at hd;split at hd
 case isTrue c1 =>
  cases hd;simp[Bk.bD,Bk.cells,hLf,c1,dN,D.clean,rf]
 rename_i c1;have ht:=ht c1;have q1:0<(cj b.aj).length:=aH.2 c1;split at hd
 case isFalse c2 =>
  cases hd;have c2':bF w 0 255=false:=by simpa using c2
  simp[Bk.bD,Bk.cells,hLf,q1,eL,c2',cV,dN,D.clean,rf]
 rename_i c2;have c2i:=aQ.1 c2;split at hd
 case isTrue=>cases hd;exact absurd rfl he
 rename_i c3;cases hd;obtain⟨e0,ls,hls⟩:∃e0 ls,cj b.aj=e0::ls:=by
  cases h:cj b.aj with
  |nil=>exact absurd h c1
  |cons a l=>exact⟨a,l,rfl⟩
 have he0:e0∈b.aj/\e0.left=true:=cX.1 (show e0∈cj b.aj by rw[hls];simp);have w1:IntKind.u8.wrap w=w:=wu8 (by omega);have hS:=λS hS=>GD (J:=S) (x:=⟨b.az.length,w,i,lo,hi⟩) ht (hok e0 he0.1) (by simpa using c2i) hS
 rw[acO (by rw[Cw];exact c3),Cw]at hS;have hM:=λJ=>pw (J:=J) c3
 generalize eU b.aR b.az.length ⟨b.az.length,w,i,lo,hi⟩=err at hS hM c3 he ⊢;have hrc:(D.uJ 200 (.agg [iI err])).clean=true:=rfl;rw[hls]at hLf;simp only[tU.enc]at hS;simp[Bk.bD,Bk.cells,hLf,cV,eL,c2,w1,hS,hM,rf,hrc]
end Go.Proofs.YtpapbbojmclkgaaGreatDoor
namespace Go.Book
open Go Go.Abs Go.Rock
def Hb:List Prt->Int
 |[]=>0
 |p::l=>p.width+Hb l
def uX:List Prt->Int->Int
 |[],_=>0
 |p::l,m=>p.lj*min m p.width+uX l (m-min m p.width)
def ND:List Prt->Int->Int
 |[],m=>m
 |p::l,m=>ND l (m-min m p.width)
def zU(l:List Prt):Prop:=∀p∈l,(0<=p.lj/\p.lj<=1000)/\1<=p.width/\p.width<=100000
theorem AD:∀{l:List Prt} {last:Int},last<=1000->Bf last l=true->zU l
 |[],_,_,_=>by intro p hp;cases hp
 |q::l,last,hl,h=>by
  simp only[Bf,Prt.ok,ah,aQ]at h;intro p hp;rcases bx.1 hp with rfl | hp
  .omega
  .exact AD (by omega) h.2 p hp
theorem OO:∀{l:List Prt} {m:Int},zU l->0<=m->0<=uX l m/\uX l m<=1000*m
 |[],m,_,hm=>by simp[uX];omega
 |p::l,m,h,hm=>by
  have h1:=h p (by simp);have h2:=OO (l:=l) (m:=m-min m p.width) (λq hq=>h q (by simp[hq])) (by omega);have h3:0<=p.lj*min m p.width:=bB h1.1.1 (by omega);have h4:p.lj*min m p.width<=1000*min m p.width:=dS h1.1.2 (by omega);simp only[uX];omega
end Go.Book
namespace Go.Proofs.YtpapbbojmclkgaaGreatDoor
open Go Go.Abs Go.Rock Go.Book
variable {J:SK}
theorem ac6{l:List Prt}(hs:zU l)(hl:l.length<=8):∀(m i:Nat) (out:Int),i+m=l.length->0<=out->out<=100000*i ->
  WL T [2,6,7,8] false fE [(2,iI out),(6,lF l Prt.enc),(7,iI l.length),(8,iI i)] J
   (λx e J'=>x=.exit 0/\J'=J/\get e 2=iI (out+Hb (l.drop i)))
 |0,i,out,hi,h0,ho=>by
  refine av fE.eq_1 ?_;have h1:¬i<l.length:=by omega
  have h2:l.drop i=[]:=an (by omega);simp[h1,h2,Hb]
 |m+1,i,out,hi,h0,ho=>by
  refine av fE.eq_1 ?_;have h1:i<l.length:=by omega
  obtain⟨p,hp⟩:=gE h1;have hfl:=aP (f:=Prt.enc) (w:=2) (λ_=>rfl) hp;have hd:=bz hp;have h4:=bO h1;have hb:=hs p (ai hp);have w1:=cm (n:=out+p.width);have ih:=ac6 hs hl m (i+1) (out+p.width) (by omega) (by omega) (by omega);rw[hd,Hb];simp[h1,hfl,h4,w1];exact WL.to ih (by simp) rfl λx e J' hh=>by simpa[Int.add_assoc]using hh
theorem RY{u:jD}(hs:zU u.parts)(hl:u.parts.length<=8):Cl 264 [.agg u.enc] (iI (Hb u.parts)) J:=by
 refine ar ?_;simp[];refine WL.to (ac6 (J:=[]::J) hs hl u.parts.length 0 0 (by omega) (by omega) (by omega)) (by simp) rfl ?_;rintro x e J' ⟨rfl,rfl,g2⟩;simp[g2]
def lpP(L:Nat):yB:={state:=0,zN:=none,env:=[(4,.ref L 0 0 0)],params:=[10,11],CM:=iQ,body:=iR }
def RA(J:SK)(out mass:Int):SK:=[.cells 0 [iI out],.cells 0 [iI mass],.loop (lpP J.length)]::J
theorem abp{p:Prt}{out mass m:Int}(hp:(0<=p.lj/\p.lj<=1000)/\1<=p.width/\p.width<=100000)(hm:0<=m/\m<=1000000)(ho:0<=out/\out<=1000000000000):
  dt T (.round J.length 2 [.agg p.enc,iI m] ([]::RA J out mass))=some (.val (.bool true) ([]::RA J (out+p.lj*m) mass)):=by
 have q1:0<=p.lj*m:=bB hp.1.1 hm.1;have q2:p.lj*m<=1000*1000000:=ct hp.1.2 hm.2 hm.1 (by omega);have w1:=cm (n:=p.lj*m);have w2:=cm (n:=out+p.lj*m);refine Ra (lp:=lpP J.length) (by simp[RA]) rfl ?_;rw[show(lpP J.length).CM=iQ from rfl,iQ.eq_1,show(lpP J.length).body=iR from rfl];simp[BW iR.eq_1,lpP,RA,V7,w1,w2]
theorem X9{l:List Prt}(hs:zU l)(hl:l.length<=8):∀(k i:Nat) (out m:Int),i+k=l.length->0<=m->m<=1000000->0<=out->out<=1000000000*i ->
  WL T [0,2,8,9,10] false gN [(0,.j5 J.length 2),(2,.ref J.length 1 0 0),(8,lF l Prt.enc),(9,iI l.length),(10,iI i)] ([]::RA J out m)
   (λx e J'=>x=.exit 0/\J'=[]::RA J (out+uX (l.drop i) m) (ND (l.drop i) m))
 |0,i,out,m,hi,hm,hm2,h0,ho=>by
  refine av gN.eq_1 ?_;have h1:¬i<l.length:=by omega
  have h2:l.drop i=[]:=an (by omega);simp[h1,h2,uX,ND]
 |k+1,i,out,m,hi,hm,hm2,h0,ho=>by
  refine av gN.eq_1 ?_;have h1:i<l.length:=by omega
  obtain⟨p,hp⟩:=gE h1;have hfl:=aP (f:=Prt.enc) (w:=2) (λ_=>rfl) hp;have hd:=bz hp;have h4:=bO h1;have hb:=hs p (ai hp);have hmn:0<=min m p.width/\min m p.width<=m:=by omega
  have hR:=abp (J:=J) (p:=p) (out:=out) (mass:=m) (m:=min m p.width) hb (by omega) (by omega);have q1:0<=p.lj*min m p.width:=bB hb.1.1 hmn.1;have q2:p.lj*min m p.width<=1000*1000000:=ct hb.1.2 (by omega) hmn.1 (by omega);have w1:=cm (n:=m-min m p.width);have ih:=X9 hs hl k (i+1) (out+p.lj*min m p.width) (m-min m p.width) (by omega) (by omega) (by omega) (by omega) (by omega);rw[hd,uX,ND];simp only[RA,Prt.enc]at hR;simp[h1,hfl,h4,RA,hR,w1];exact WL.to ih (by simp) (by simp[RA]) λx e J' hh=>by simpa[Int.add_assoc,RA]using hh
theorem aeG{u:jD}{mass:Int}{bs:List Abs.aF}:dt T (.call true 316 [.agg u.enc,iI mass] (bs::J))=some (.val (.fn 352 [] [.aZ u.enc,.ref J.length bs.length 0 0]) ((bs++[.cells 0 [iI mass]])::J)):=by
 refine sF rfl rfl rfl ?_;simp[]
theorem abf{u:jD}{out m:Int}(hs:zU u.parts)(hl:u.parts.length<=8)(hm:0<=m/\m<=1000000)(h0:0<=out/\out<=0):
  dt T (.call false 352 [.j5 J.length 2,.aZ u.enc,.ref J.length 1 0 0] (RA J out m))=some (.val (.cQ []) (RA J (out+uX u.parts m) (ND u.parts m))):=by
 refine fA rfl rfl rfl (by simp[RA]) ?_;have h:=X9 (J:=J) hs hl u.parts.length 0 out m (by omega) hm.1 hm.2 h0.1 (by omega);rw[aC]at h;simp;refine WL.to h (by simp) (by simp) ?_;rintro x e J' ⟨rfl,rfl⟩;simp
theorem aaT{u:jD}{m:Int}(hs:zU u.parts)(hl:u.parts.length<=8)(hm:0<=m/\m<=1000000):
  Cl 265 [.agg u.enc,iI m] (iI (uX u.parts m)) J:=by
 refine ar ?_;have hU:=λbs=>aeG (J:=J) (u:=u) (mass:=m) (bs:=bs)
 have h1:=abf (J:=J) (u:=u) (out:=0) hs hl hm (by omega);simp only[jD.enc]at hU h1 ⊢;simp[hU];refine T9 (d:=.cQ []) (J2:=RA J (0+uX u.parts m) (ND u.parts m)) (lp:=lpP J.length) (by simp;exact⟨rfl,rfl,rfl⟩) ?_ (by simp[RA]) (by simp[lpP]) ?_
 .simpa[RA,lpP]using h1
 .simp[RA,lpP]
def Le(u:jD)(s:tV):Int:=if s.valid=true then(if Hb u.parts<s.m then 2 else if s.h<uX u.parts s.m then 9 else 0)else 1
theorem Mh{s:tV}:Cl 315 [.agg s.enc] (iI (if s.valid then 0 else 1)) J:=by
 refine ar ?_;have h:=λJ=>KD (J:=J) (x:=s)
 simp only[tV.enc]at h ⊢;cases hc:s.valid<;>rw[hc]at h<;>simp[h]
theorem Xu{s:tV}:Cl 314 [.agg s.enc] (.bool s.valid) J:=by
 refine ar ?_;have h:=λJ=>Mh (J:=J) (s:=s)
 simp only[tV.enc]at h ⊢;cases hc:s.valid<;>rw[hc]at h<;>simp[h]
theorem Xv{s:tV}:Cl 263 [.bZ 1 s.enc] (.bool s.valid) J:=by
 refine ar ?_;have h:=λJ=>CL (yI 4 tV.enc (λ_=>rfl)) (T:=T) (J:=J) (f:=313) (g:=351) (h:=350) (i:=368) (l:=[s]) (p:=tV.valid) (fv:=.fn 314 [] []) rfl rfl rfl rfl (by simp) (pA.fn λx _ J=>Xu) rfl
 simp only[yI,List.length_singleton,di,ot,cM,dq,jy,List.all_nil,Bool.and_true]at h;simp only[tV.enc]at h ⊢;simp[h]
def abH(u:jD)(s:tV):D:=if Le u s=0 then .cQ [.agg [iI s.m,iI (s.h-uX u.parts s.m),iI s.s,iI s.g],iI (uX u.parts s.m),iI 0]else .cQ [.agg [iI 0,iI 0,iI 0,iI 0],iI 0,iI (Le u s)]
theorem WG{u:jD}{s:tV}(hu:u.ok=true):Cl 219 [.agg u.enc,.agg s.enc] (abH u s) J:=by
 refine ar ?_;have hok:=hu;simp only[jD.ok,ah,aQ]at hok;have hl:u.parts.length<=8:=by omega
 have hs:=AD (by omega) hok.2.2;have hV:=λJ=>PL (J:=J) (u:=u) (by omega)
 have hR:=λJ=>Xv (J:=J) (s:=s)
 have hC:=λJ=>RY (J:=J) hs hl
 rw[hu]at hV;simp only[jD.enc,tV.enc]at hV hR hC ⊢;unfold abH Le;cases c1:s.valid
 .rw[c1]at hR;simp[hV,hR]
 rw[c1]at hR;simp only[tV.valid,ah,aQ]at c1;by_cases c2:Hb u.parts<s.m
 .simp[hV,hR,hC,c2]
 have hP:=λJ=>aaT (J:=J) (m:=s.m) hs hl c1.1
 simp only[jD.enc]at hP;have hb:=OO hs c1.1.1;by_cases c3:s.h<uX u.parts s.m
 .simp[hV,hR,hC,hP,c2,c3]
 have w1:=cm (n:=s.h-uX u.parts s.m);simp[hV,hR,hC,hP,c2,c3,w1]
theorem U6{t:List Rw}(ht:fN t=true){i:Nat}{r:Rw}(hi:t[i]?=some r){x:tV}(hx:x.valid=false):
  Cl 218 [lF t Rw.enc,iI i,.agg x.enc] (.cQ [.agg (List.replicate 10 (iI 0)),iI 1]) J:=by
 refine ar ?_;have hl:t.length<=20:=by
  simp only[fN,ah]at ht;have:=aQ.1 ht.1;omega
 have hil:i<t.length:=(aA.1 hi).1;have h1:=λJ=>GF (J:=J) (t:=t) (by omega)
 have h2:=λJ=>ac3 (J:=J) (t:=t) (n:=i) (by omega)
 have h3:=λJ=>KD (J:=J) (x:=x)
 have hin:bF i 0 ((t.length:Int)-1)=true:=aQ.2 (by omega);rw[hin]at h2;rw[hx]at h3;rw[ht]at h1;simp only[tV.enc]at h3;simp[h1,h2,h3,List.replicate]
def D2:List Int->Int
 |[]=>0
 |x::l=>l.foldl min x
def D1:List Int->Int
 |[]=>0
 |x::l=>l.foldl max x
theorem ada{l:List Int}(hl:l.length<=1000000):∀(m i:Nat) (a:Int),i+m=l.length ->
  WL T [0,3,4] false kl [(0,lF l aO),(3,iI a),(4,iI i)] J (λx e J'=>x=.exit 0/\J'=J/\get e 3=iI ((l.drop i).foldl min a))
 |0,i,a,hi=>by
  refine av kl.eq_1 ?_;have h1:¬i<l.length:=by omega
  have h2:l.drop i=[]:=an (by omega);simp[h1,h2]
 |m+1,i,a,hi=>by
  refine av kl.eq_1 ?_;have h1:i<l.length:=by omega
  obtain⟨n,hn⟩:=gE h1;have a1:=gw hn;have h4:=bO h1;rw[bz hn];simp[h1,a1,h4];exact WL.to (ada hl m (i+1) (min a n) (by omega)) (by simp) rfl λx e J' hh=>by simpa using hh
theorem ahR{l:List Int}(hne:l≠[])(hl:l.length<=1000000):Cl 266 [lF l aO] (iI (D2 l)) J:=by
 refine ar ?_;have h0:0<l.length:=aH.2 hne;obtain⟨x,r,rfl⟩:∃x r,l=x::r:=by
  cases l with
  |nil=>exact absurd rfl hne
  |cons x r=>exact⟨x,r,rfl⟩
 have⟨h1,h2⟩:¬((r.length:Int)+1<1)/\(0:Int)<(r.length:Int)+1:=by omega
 simp[h1,h2];refine WL.to (ada (J:=[]::J) hl r.length 1 x (by simp;omega)) (by simp) rfl ?_;rintro x e J' ⟨rfl,rfl,g3⟩;simp[g3,D2]
theorem ac9{l:List Int}(hl:l.length<=1000000):∀(m i:Nat) (a:Int),i+m=l.length ->
  WL T [0,3,4] false kj [(0,lF l aO),(3,iI a),(4,iI i)] J (λx e J'=>x=.exit 0/\J'=J/\get e 3=iI ((l.drop i).foldl max a))
 |0,i,a,hi=>by
  refine av kj.eq_1 ?_;have h1:¬i<l.length:=by omega
  have h2:l.drop i=[]:=an (by omega);simp[h1,h2]
 |m+1,i,a,hi=>by
  refine av kj.eq_1 ?_;have h1:i<l.length:=by omega
  obtain⟨n,hn⟩:=gE h1;have a1:=gw hn;have h4:=bO h1;rw[bz hn];simp[h1,a1,h4];exact WL.to (ac9 hl m (i+1) (max a n) (by omega)) (by simp) rfl λx e J' hh=>by simpa using hh
theorem ahQ{l:List Int}(hne:l≠[])(hl:l.length<=1000000):Cl 267 [lF l aO] (iI (D1 l)) J:=by
 refine ar ?_;have h0:0<l.length:=aH.2 hne;obtain⟨x,r,rfl⟩:∃x r,l=x::r:=by
  cases l with
  |nil=>exact absurd rfl hne
  |cons x r=>exact⟨x,r,rfl⟩
 have⟨h1,h2⟩:¬((r.length:Int)+1<1)/\(0:Int)<(r.length:Int)+1:=by omega
 simp[h1,h2];refine WL.to (ac9 (J:=[]::J) hl r.length 1 x (by simp;omega)) (by simp) rfl ?_;rintro x e J' ⟨rfl,rfl,g3⟩;simp[g3,D1]
theorem aeA{l:List Int}(hne:l≠[])(hl:l.length<=1000000):Cl 220 [lF l aO] (.agg [iI (D2 l),iI (D1 l)]) J:=by
 refine ar ?_;have h1:=λJ=>ahR (J:=J) hne hl
 have h2:=λJ=>ahQ (J:=J) hne hl
 simp[h1,h2]
def aj3:Rw:=⟨0,0,0,0,0⟩
def aj4:jD:=⟨0,[]⟩
def rowOf(b:Bk)(lv:Nat):Rw:=(b.aR.c9[lv]?).getD aj3
def xj(b:Bk)(u:Nat):jD:=(b.cp[u]?).getD aj4
def nZ(b:Bk)(r:RunT)(w:Nat):tV:=⟨(aT (rowAt r.2 (b.az.length-1)) w).m,(aT (rowAt r.2 (b.az.length-1)) w).h,0,0⟩
def fC(r:Rw)(x:tV):tV:=⟨eK r x,Pg r x,0,Pf r x⟩
def vp(b:Bk)(w lv u:Nat)(m:cg):Int:=match Rock.run b.aR m b.az with
 |some r=>if(nZ b r w).valid=true then Le (xj b u) (fC (rowOf b lv) (nZ b r w))else 1
 |none=>9
def pO(b:Bk)(w lv u:Nat)(m:cg):Int:=match Rock.run b.aR m b.az with
 |some r=>uX (xj b u).parts (fC (rowOf b lv) (nZ b r w)).m
 |none=>0
def Ic(b:Bk)(J:SK)(w lv u:Nat)(price:Int)(acc:List Int)(rest:List dU)(x:Abs.Exit)(e:Env)(J':SK):Prop :=
 if b8 (λe=>vp b w lv u e.m) rest=0 then
  x=.exit 0/\get e 0=.ref (J.length-1-1) 6 0 0/\get e 7=iI w/\get e 10=iI price/\get e 11=.sl J.length 0 (acc++rest.map λe=>pO b w lv u e.m).length 0 (acc++rest.map λe=>pO b w lv u e.m).length 1 /\
   J'=[.cells (acc++rest.map λe=>pO b w lv u e.m).length (fM (acc++rest.map λe=>pO b w lv u e.m) aO)]::J
 else x=.fw (rf (b8 (λe=>vp b w lv u e.m) rest))/\∃s,J'=s::J
theorem Sh{F:List Abs.aF}{b:Bk}{er:List Int}{ls:List dU}{w lv u:Nat}{price:Int}(ht:fN b.aR.c9=true)(hok:∀e∈ls,Ok b.aR [e.m] b.az)(hrun:∀e∈ls,∃r,Rock.run b.aR e.m b.az=some r)(hp:b.az≠[])(hl:ls.length<=1000000)
  (hw:w<b.aR.aw.length) (hlv:lv<b.aR.c9.length) (hu:u<b.cp.length) (huk:∀x∈b.cp,x.ok=true):∀(m i:Nat) (acc:List Int),i+m=ls.length->acc.length=i ->
  WL T [0,7,8,9,10,11,86,87,88] false fZ [(0,.ref J.length 6 0 0),(7,iI w),(8,iI lv),(9,iI u),(10,iI price),(11,.sl (F::b.bD J.length er::J).length 0 i 0 i 1),(86,lF ls dU.enc),(87,iI ls.length),(88,iI i)] ([.cells i (fM acc aO)]::F::b.bD J.length er::J)
   (Ic b (F::b.bD J.length er::J) w lv u price acc (ls.drop i))
 |0,i,acc,hi,ha=>by
  refine av fZ.eq_1 ?_;obtain rfl:i=ls.length:=by omega
  have h5:ls.drop ls.length=[]:=an (by omega);simp[h5,Ic,ha,b8]
 |m+1,i,acc,hi,ha=>by
  refine av fZ.eq_1 ?_;have h1:i<ls.length:=by omega
  obtain⟨e,he⟩:=gE h1;have hem:=ai he;have hO:=hok e hem;obtain⟨r,hr⟩:=hrun e hem;have hfl:=aP (f:=dU.enc) (w:=4) (λ_=>rfl) he;have h4:=bO h1;have htl:b.aR.c9.length<=20:=by
   simp only[fN,ah]at ht;have:=aQ.1 ht.1;omega
  have hE:lS b.aR e.m b.az=0:=by
   have hfit:=hO.fit e.m (by simp);simp[lS,Bd,hO.valid,hfit,hO.pl,hr]
  have hD:Cv b.aR e.m b.az=.agg [lF r.1 lI,lF r.2 lI]:=by
   obtain⟨r1,r2⟩:=r;simp[Cv,hE,hr]
  have hsh:=hO.short e.m (by simp);have hP:=λS hS=>WJ (J:=S) (b:=b.aR) (m:=e.m) (az:=b.az) (wq:=nl bA.enc b.aR.aw) kI (by omega) (by have:=hO.bv.aw;omega) (by omega) (by omega) (by have:=hO.Wh;omega) (λl hl=>by have:=(hO.aG l hl).len;have:=hO.bv.aw;omega) hS
  rw[hE,hD,SE]at hP;have htn:b.aR.c9≠[]:=by intro hh;rw[hh]at hlv;simp at hlv
  have hRun:=MX.of (hO.fv e.m (by simp)) hO.aG hr;have hpl:0<b.az.length:=aH.2 hp;have hpl2:=hO.Wh;obtain⟨hrow,hY⟩:=Re hRun (t:=b.az.length-1) (by omega);have f1:=aP (f:=lI) (w:=1) (λ_=>rfl) hrow;rw[bJ]at f1;have hyw:(rowAt r.2 (b.az.length-1))[w]?=some (aT (rowAt r.2 (b.az.length-1)) w):=by
   have:w<(rowAt r.2 (b.az.length-1)).length:=by rw[hY.len];exact hw
   simp[aT,this]
  have f2:=aP (f:=Rock.aF.enc) (w:=3) (λ_=>rfl) hyw;have hyl:=hY.len;have w1:=cm (n:=(b.az.length:Int)-1);have⟨t1,q1⟩:((b.az.length:Int)-1).toNat=b.az.length-1/\(1:Int)<=b.az.length:=by omega
  have q2:(b.az.length:Int)-1<r.2.length:=by rw[hRun.yl];omega
  have hrw:b.aR.c9[lv]?=some (rowOf b lv):=by simp[rowOf,hlv]
  have hun:b.cp[u]?=some (xj b u):=by simp[xj,hu]
  have f3:=aP (f:=jD.enc) (w:=2) (λ_=>rfl) hun;have hul:=Ii b.cp;have q3:2<=b.cp.length*2-u*2:=by omega
  have hX:=λJ=>WG (J:=J) (u:=xj b u) (s:=fC (rowOf b lv) (nZ b r w)) (huk _ (ai hun))
  rw[bz he];have hs0:vp b w lv u e.m=if(nZ b r w).valid=true then Le (xj b u) (fC (rowOf b lv) (nZ b r w))else 1:=by simp[vp,hr]
  cases c1:(nZ b r w).valid with
  |false =>
   have hF:=λJ=>U6 (J:=J) ht hrw c1
   have hM:=λJ=>pw (J:=J) (e:=1) (by decide)
   have hs1:vp b w lv u e.m=1:=by rw[hs0,c1];rfl
   simp only[tV.enc,nZ,List.replicate]at hF;simp[h1,hfl,Bk.bD,Bk.cells,eo htn,eo hp,hP,oo,f1,f2,w1,t1,q1,q2,hyl,hw,hF,hM,hs1,lI,Ic,b8]
  |true =>
   have hF:=λJ=>aav (J:=J) ht hrw c1
   simp only[tV.enc,nZ]at hF;have hs1:vp b w lv u e.m=Le (xj b u) (fC (rowOf b lv) (nZ b r w)):=by rw[hs0,c1];rfl
   have hv1:pO b w lv u e.m=uX (xj b u).parts (fC (rowOf b lv) (nZ b r w)).m:=by simp[pO,hr]
   by_cases c2:Le (xj b u) (fC (rowOf b lv) (nZ b r w))=0
   .have hacc:=qY acc;have hta:(fM acc aO).take i=fM acc aO:=af (by omega);have hroom:(i+1)*8<=room:=by unfold room;omega
    have ih:=Sh (F:=F) (er:=er) (price:=price) ht hok hrun hp hl hw hlv hu huk m (i+1) (acc++[pO b w lv u e.m]) (by omega) (by simp[ha]);have fin:∀x e' J',Ic b (F::b.bD J.length er::J) w lv u price (acc++[pO b w lv u e.m]) (ls.drop (i+1)) x e' J'->Ic b (F::b.bD J.length er::J) w lv u price acc (e::ls.drop (i+1)) x e' J':=λx e' J' hh=>by
     have hz:vp b w lv u e.m=0:=by rw[hs1,c2]
     simp only[Ic,b8,hz,if_true,aM,cS,cU]at hh ⊢;exact hh
    unfold abH at hX;rw[if_pos c2,<- hv1]at hX;simp only[jD.enc,tV.enc,fC,nZ]at hX f3;simp[h1,hfl,h4,Bk.bD,Bk.cells,eo htn,eo hp,hP,oo,f1,f2,w1,t1,q1,q2,hyl,hw,hF,lI,parts,hu,f3,hul,q3,hX,hroom,hacc,hta,ha];exact WL.to ih (by simp) (by simp[Bk.bD,Bk.cells,eo htn,eo hp]) fin
   .unfold abH at hX;rw[if_neg c2]at hX;have hM:=λJ=>pw (J:=J) c2
    have hz:vp b w lv u e.m≠0:=by rw[hs1];exact c2
    rw[<- hs1]at hX hM;simp only[jD.enc,tV.enc,fC,nZ]at hX f3;simp[h1,hfl,Bk.bD,Bk.cells,eo htn,eo hp,hP,oo,f1,f2,w1,t1,q1,q2,hyl,hw,hF,lI,parts,hu,f3,hul,q3,hX,hM,hz,Ic,b8]
end Go.Proofs.YtpapbbojmclkgaaGreatDoor
