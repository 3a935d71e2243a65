import Derived.Test.YtcgippbplkagkaaGreatTxt1
import Derived.Test.YtcgippbplkagkaaGreatTxt0
set_option linter.all false
namespace Go.Proofs.YtcgippbplkagkaaGreat
open List(length_flatMap map_take)
open Go Go.Abs Go.Rock
variable {σ:SK}
theorem En{b:bC}{m:bV}{s:List Rock.aF}(h:Bv b){lv bi v:Nat}{F:List Abs.aF}(hF:F[bi]?=some (.cells v (s.flatMap aF.enc)))(hs:gv σ lv=some F)(hl:s.length=b.n):
  bG T (.call false fN [.agg [.int .i64 b.f.x,.int .i64 b.f.y,.int .i64 b.f.z,.int .i64 b.f.k,.aE b.bY.length (b.bY.flatMap Rw.enc),.int .i64 b.aS,.int .i64 b.lift,.int .i64 b.deep,.aE b.af.length (b.af.flatMap aT.enc),.str m.name,.aE m.aP.length (m.aP.flatMap bx)],.sl lv bi v 0 s.length 3] σ)=some (.val (.bool (pA b s)) σ):=by
 refine aA tB ja.eq_1 rfl ?_;have hlt:=yf hs;have hz:=h.sz;have hn:=h.n;have hsz:=fun σ=>rZ (σ:=σ) h
 have ha:=FZ (T:=T) (w:=3) (enc:=aF.enc) (fun _=>rfl) (f:=gP) (g:=fB) (h:=cQ) (i:=dq) (l:=s) (p:=Rock.aF.valid) (fv:=.fn eL [] []) rfl rfl rfl rfl hF (by omega) (lz.fn fun x _ σ=>BZ) rfl (lv:=lv) (F:=F) (σ:=[]::σ) (by simp[gv,hs,show ¬σ.length=lv by omega]);unfold pA;have hc3:((b.n:Nat):Int)=b.size:=hz.symm;rw[hl]at ha ⊢;cases hc:eH s Rock.aF.valid<;>simp[-length_flatMap,-map_take,hsz,hl,ha,hc,hc3]
def Tk(js:List Nat):List D:=js.map fun j => .int .i64 (j:Nat)
def E7(n:Nat)(js:List Nat):List Nat:=(List.range n).filter fun j => !(js.contains j)
theorem KU{js:List Nat}{j:Nat}:D.int .i64 (j:Nat)∈Tk js↔j∈js:=by
 simp only[Tk,bp];constructor
 ·rintro⟨a,h1,h2⟩;simp only[D.int.injEq,true_and]at h2;have:a=j:=by omega
  exact this ▸ h1
 ·intro h;exact⟨j,h,rfl⟩
def yF(b:bC)(m:bV)(s:List Rock.aF)(aD:List Int)(L:Nat):Env :=
 [(1,.aE s.length (s.flatMap aF.enc)),(2,.aE aD.length (aD.flatMap bx)),(3,.aK [.int .i64 b.f.x,.int .i64 b.f.y,.int .i64 b.f.z,.int .i64 b.f.k,.aE b.bY.length (b.bY.flatMap Rw.enc),.int .i64 b.aS,.int .i64 b.lift,.int .i64 b.deep,.aE b.af.length (b.af.flatMap aT.enc),.str m.name,.aE m.aP.length (m.aP.flatMap bx)]),(9,.sl L 1 1 0 s.length 3),(23,.iN L 6)]
def TN(A X Y Z:Abs.aF)(σ:SK)(es:List ((Nat×Nat)×Rock.aF))(s:List Rock.aF)(it:Abs.aF):SK :=
 [A,.cells 1 (s.flatMap aF.enc),.cells 0 (uz es),X,Y,Z,it]::σ
def Ti(L n:Nat)(js:List Nat):Abs.aF:=.cells 1 (.iN L 2::.int .i64 (n:Nat)::Tk js)
theorem I9{A X Y Z:Abs.aF}{es:List ((Nat×Nat)×Rock.aF)}{s:List Rock.aF}{js:List Nat}:
  wk (TN A X Y Z σ es s (Ti σ.length es.length js)) σ.length 6=some (.iN σ.length 2,es.length,Tk js,E7 es.length js):=by
 have hl:(uz es).length=es.length:=by simp[uz]
 simp[wk,TN,Ti,tE,hl,E7,KU]
theorem aav{n:Nat}{js:List Nat}{u:Nat}(hu:u∈E7 n js):(E7 n (u::js)).length<(E7 n js).length:=by
 have e:E7 n (u::js)=(E7 n js).filter fun j => !decide (j=u):=by
  unfold E7;rw[List.filter_filter];congr 1;funext j;simp[List.contains_cons,Bool.not_or]
 rw[e,List.length_filter_lt_length_iff_exists];exact⟨u,hu,by simp⟩
theorem Ua{b:bC}{m:bV}{s:List Rock.aF}{aD:List Int}{A X Y Z:Abs.aF}{es:List ((Nat×Nat)×Rock.aF)}{r:R}(hs:Sv b s)(hes:∀e∈es,E9 b e)(hel:es.length≤192)
  (hr:WC (bG T) dX ((25,.bool false)::(24,.undef)::yF b m s aD σ.length) (TN A X Y Z σ es (es.foldl cP s) .dead) fun x e' σ'=>r=.tJ x e' σ'):
  ∀(k:Nat) (js:List Nat),js.Nodup→(∀j∈js,j<es.length)→(E7 es.length js).length=k →
   bG T (.ew [1,2,3,9,23] (.t 23) 24 25 0 gO dX (yF b m s aD σ.length) (TN A X Y Z σ es (js.foldr (fun j s=>yP es s j) s) (Ti σ.length es.length js)))=some r:=by
 intro k;induction k using Nat.strongRecOn with
 |_ k ih =>
 intro js hd hj hk;by_cases hus:E7 es.length js=[]
 ·have hall:∀j,j∈js↔j<es.length:=by
   intro j;refine⟨hj j,fun hlt=>?_⟩;have h1:j ∉ E7 es.length js:=by rw[hus];simp
   simpa[E7,hlt]using h1
  have hfin:js.foldr (fun j s=>yP es s j) s=es.foldl cP s:=by
   rw[← Li (js:=js.reverse) ((List.reverse_perm js).nodup_iff.2 hd) (fun j=>by simp[hall]),List.foldl_reverse]
  rw[hfin];have hit:=I9 (σ:=σ) (A:=A) (X:=X) (Y:=Y) (Z:=Z) (es:=es) (s:=es.foldl cP s) (js:=js);rw[hus]at hit;refine EO gO.eq_1 rfl (by simp[yF]) hit ?_;simp[TN,yF,Ti]at hr ⊢;exact hr
 ·have hit:=I9 (σ:=σ) (A:=A) (X:=X) (Y:=Y) (Z:=Z) (es:=es) (s:=js.foldr (fun j s=>yP es s j) s) (js:=js);refine Jm gO.eq_1 rfl (by simp[yF]) hit hus ?_;intro u hu;have hu2:u<es.length∧u ∉ js:=by simpa[E7]using hu
  obtain⟨e,he⟩:∃e,es[u]?=some e:=⟨_,au hu2.1⟩;have hf:=hes e (aj he);have hnext:=ih _ (by rw[← hk];exact aav hu) (u::js) (List.nodup_cons.2 ⟨hu2.2,hd⟩) (by intro j hjm;rcases bj.1 hjm with rfl | hjm;exact hu2.1;exact hj j hjm) rfl;have hb:=Ec hes js s 1000000000000 hs.rO;have hjl:js.length≤192:=by
   have h1:js.length≤es.length:=by
    have:=hd.length_le_of_subset (l₂:=List.range es.length) (fun j hjm=>by simpa using hj j hjm);simpa using this
   omega
  have hlen:(js.foldr (fun j s=>yP es s j) s).length=b.n:=by
   have:∀js:List Nat,(js.foldr (fun j s=>yP es s j) s).length=s.length:=by
    intro js;induction js with
    |nil=>rfl
    |cons a l ih=>simp only[List.foldr_cons,Lj];exact ih
   rw[this,hs.len]
  simp only[List.foldr_cons]at hnext;generalize hs1:js.foldr (fun j s=>yP es s j) s=s1 at *
  have hstp:yP es s1 u=dE (dE s1 e.1.1 e.2 (-1)) e.1.2 e.2 1:=by simp[yP,he,cP]
  rw[hstp]at hnext;have hbn:rO 400000000000000 s1:=fun x hx=>fG (hb x hx) (by omega)
  have hb1:=qq (i:=e.1.1) (sign := -1) hbn hf.2 (.inr rfl) (by omega);obtain⟨x1,y1⟩:=xp hbn (i:=e.1.1) (by have:=hf.1.1;omega);obtain⟨x2,y2⟩:=xp hb1 (i:=e.1.2) (by rw[u7];have:=hf.1.2;omega);have hM1:∀I,bG T (.call false bB [.ref σ.length 1 1 (e.1.1*3),.agg [.int .i64 e.2.m,.int .i64 e.2.h,.int .i64 e.2.k],.int .i64 (-1)] ([A,.cells 1 (s1.flatMap aF.enc),.cells 0 (uz es),X,Y,Z,I]::σ)) =
    some (.val (.fj []) ([A,.cells 1 ((dE s1 e.1.1 e.2 (-1)).flatMap aF.enc),.cells 0 (uz es),X,Y,Z,I]::σ)) :=
   fun I=>xb (F:=[A,.cells 1 (s1.flatMap aF.enc),.cells 0 (uz es),X,Y,Z,I]) (j:=1) rfl x1 (fG y1 (by omega)) (fG hf.2 (by omega)) (.inr rfl)
  have hM2:∀I,bG T (.call false bB [.ref σ.length 1 1 (e.1.2*3),.agg [.int .i64 e.2.m,.int .i64 e.2.h,.int .i64 e.2.k],.int .i64 1] ([A,.cells 1 ((dE s1 e.1.1 e.2 (-1)).flatMap aF.enc),.cells 0 (uz es),X,Y,Z,I]::σ)) =
    some (.val (.fj []) ([A,.cells 1 ((dE (dE s1 e.1.1 e.2 (-1)) e.1.2 e.2 1).flatMap aF.enc),.cells 0 (uz es),X,Y,Z,I]::σ)) :=
   fun I=>xb (F:=[A,.cells 1 ((dE s1 e.1.1 e.2 (-1)).flatMap aF.enc),.cells 0 (uz es),X,Y,Z,I]) (j:=1) rfl x2 (fG y2 (by omega)) (fG hf.2 (by omega)) (.inl rfl)
  have hfe:(uz es)[u]?=some (.fj [.agg [.int .i64 e.1.1,.int .i64 e.1.2],.agg [.int .i64 e.2.m,.int .i64 e.2.h,.int .i64 e.2.k]]):=by simp[uz,he]
  have hfl:(uz es).length=es.length:=by simp[uz]
  have hE:vk ([A,.cells 1 (s1.flatMap aF.enc),.cells 0 (uz es),X,Y,Z,.cells 1 (.iN σ.length 2::.int .i64 (es.length:Nat)::.int .i64 (u:Nat)::Tk js)]::σ) .Wq [.iN σ.length 6] =
    some (.fj [.agg [.int .i64 e.1.1,.int .i64 e.1.2],.agg [.int .i64 e.2.m,.int .i64 e.2.h,.int .i64 e.2.k]],[A,.cells 1 (s1.flatMap aF.enc),.cells 0 (uz es),X,Y,Z,.cells 1 (.iN σ.length 2::.int .i64 (es.length:Nat)::.int .i64 (u:Nat)::Tk js)]::σ):=by
   simp[vk,tE,hfl,hfe]
  have hi1:e.1.1<s.length:=by have:=hf.1.1;have:=hs.len;omega
  have hi2:e.1.2<s.length:=by have:=hf.1.2;have:=hs.len;omega
  simp[-length_flatMap,-map_take,yF,TN,Ti,hE,hM1,hM2,hi1,hi2,bg,aH,aV,xA];simpa[yF,TN,Ti,Tk]using hnext
theorem o6{b:bC}(h:Bv b):∀w∈b.af,(0≤w.b∧w.b<(b.n:Int))∧(0≤w.h∧w.h≤3000)∧(0≤w.m∧w.m≤1000000):=by
 have key:∀(l:List aT) (u:List Int),gR b.size u l=true→∀w∈l,(0≤w.b∧w.b<(b.n:Int))∧(0≤w.h∧w.h≤3000)∧(0≤w.m∧w.m≤1000000):=by
  intro l;induction l with
  |nil=>intro u _ w hw;cases hw
  |cons a l ih =>
   intro u hu w hw;simp only[gR,aT.ok,ak]at hu;obtain⟨⟨h1,h2,h3,h4⟩,h5⟩:=hu;rcases bj.1 hw with rfl | hw
   ·have hs:=h.sz;have:=bD.1 h1;unfold bC.size at this;exact⟨⟨this.1,by omega⟩,bD.1 h3,bD.1 h4⟩
   ·exact ih _ h5 w hw
 exact key _ _ h.ok
theorem mulR{a r A R:Int}(ha:0≤a∧a≤A)(hr : -R≤r∧r≤R) : -(R*A)≤r*a∧r*a≤R*A:=by
 rcases jA 0 r with h | h
 ·have:=mq h hr.2 ha.1 ha.2;have h2:=oI (show 0≤R by omega) (show 0≤A by omega);omega
 ·have:=mq (a := -r) (A:=R) (by omega) (by omega) ha.1 ha.2;rw[Int.neg_mul]at this;have h2:=oI (show 0≤R by omega) (show 0≤A by omega);omega
theorem Bh{w:aT}{r:Int}(hr : -100000≤r∧r≤100000)(h1:0≤w.h∧w.h≤3000)(h2:0≤w.m∧w.m≤1000000):sm (w.given r) 1000000000000:=by
 have b1:=mulR h1 hr;have b2:=mulR h2 hr;exact⟨⟨by simp only[aT.given];omega,by simp only[aT.given];omega⟩,⟨by simp only[aT.given,Int.neg_mul];omega,by simp only[aT.given,Int.neg_mul];omega⟩,⟨by simp only[aT.given,Int.neg_mul];omega,by simp only[aT.given,Int.neg_mul];omega⟩⟩
theorem IV{b:bC}{m:bV}(h:Fv b m){i:Nat}(hi:i<b.n):sm (Cq b m i) 1000000000000:=by
 have b1:=h.feed i hi;have b2:=h.bv.deep;have b3:=mq b1.1 b1.2 b2.1 b2.2;exact⟨⟨by simp only[Cq];omega,by simp only[Cq];omega⟩,⟨by simp only[Cq];omega,by simp only[Cq];omega⟩,⟨by simp[Cq],by simp[Cq]⟩⟩
def cR(b:bC)(s s1:List Rock.aF)(aD:List Int)(j:Nat):List Rock.aF:=((b.af.zip aD).take j).foldl (fun n wr=>lU s n wr.1 wr.2) s1
def gX(b:bC)(m:bV)(s2:List Rock.aF)(i:Nat):List Rock.aF:=(List.range i).foldl (fun n i=>dE n i (Cq b m i) 1) s2
theorem vj{b:bC}{s s1:List Rock.aF}{aD:List Int}{j:Nat}{w:aT}{r:Int}(h1:b.af[j]?=some w)(h2:aD[j]?=some r):cR b s s1 aD (j+1)=lU s (cR b s s1 aD j) w r:=by
 have:(b.af.zip aD)[j]?=some (w,r):=by rw[List.getElem?_zip_eq_some];exact⟨h1,h2⟩
 unfold cR;rw[List.take_add_one,this,List.foldl_append];rfl
theorem sw{b:bC}{m:bV}{s2:List Rock.aF}{i:Nat}:gX b m s2 (i+1)=dE (gX b m s2 i) i (Cq b m i) 1:=by
 unfold gX;rw[List.range_succ,List.foldl_append];rfl
theorem rm{b:bC}{m:bV}{s2:List Rock.aF}:∀i,(gX b m s2 i).length=s2.length
 |0=>rfl
 |i+1=>by rw[sw,u7,rm i]
theorem JT{b:bC}{s:List Rock.aF}{aD:List Int}{j:Nat}{w:aT}{r:Int}(h1:b.af[j]?=some w)(h2:aD[j]?=some r):(ct b s aD)[j]?=some (jv s w r):=by
 have:(b.af.zip aD)[j]?=some (w,r):=by rw[List.getElem?_zip_eq_some];exact⟨h1,h2⟩
 simp[ct,this]
structure Rv(b:bC)(aD:List Int):Prop where
 len:aD.length=b.af.length
 ok:∀r∈aD,-100000≤r∧r≤100000
theorem Rv.of{b:bC}{aD:List Int}(h:kf b aD=0):Rv b aD:=by
 unfold kf at h;split at h
 ·rename_i hl;split at h
  ·rename_i ha;exact⟨hl,fun r hr=>bD.1 (jW.1 ha r hr)⟩
  ·cases h
 ·cases h
theorem KX{b:bC}{s next:List Rock.aF}(h:Bv b)(hs:Sv b s){aD:List Int}(hr:Rv b aD){j:Nat}{w:aT}{r:Int}(h1:b.af[j]?=some w)(h2:aD[j]?=some r){N:Int}(hb:rO N next):rO (N+1000000000000) (lU s next w r):=by
 have hw:=o6 h w (aj h1);have hrr:=hr.ok r (aj h2);obtain⟨_,m1,m2,m3⟩:=hs.at (i:=w.b.toNat) (by omega);have d2:=bE (b:=8) (show 0≤(aZ s w.b.toNat).m by omega);unfold lU jv;split
 ·exact qq hb (Bh hrr hw.2.1 hw.2.2) (.inl rfl) (by omega)
 ·exact qq hb (CL m1 m2 m3 ⟨by rw[d2];omega,by rw[d2];omega⟩) (.inr rfl) (by omega)
theorem Az{s n:List Rock.aF}{w:aT}{r:Int}:(lU s n w r).length=n.length:=by
 unfold lU;split<;>simp[u7]
theorem rM{b:bC}{s s1:List Rock.aF}(h:Bv b)(hs:Sv b s){aD:List Int}(hr:Rv b aD)(hb:rO 500000000000000 s1):∀j,j≤aD.length→rO (500000000000000+1000000000000*j) (cR b s s1 aD j)∧(cR b s s1 aD j).length=s1.length
 |0,_=>⟨by simpa[cR]using hb,by simp[cR]⟩
 |j+1,hj=>by
  obtain⟨r,h2⟩:∃r,aD[j]?=some r:=gE (by omega);obtain⟨w,h1⟩:∃w,b.af[j]?=some w:=⟨_,au (by rw[← hr.len];omega)⟩;obtain⟨ih1,ih2⟩:=rM h hs hr hb j (by omega);rw[vj h1 h2];have h3:=KX h hs hr h1 h2 ih1;exact⟨fun x hx=>fG (h3 x hx) (by push_cast;omega),by rw[Az,ih2]⟩
theorem za{b:bC}{m:bV}{s2:List Rock.aF}(h:Fv b m)(hb:rO 600000000000000 s2):∀i,i≤b.n→rO (600000000000000+1000000000000*i) (gX b m s2 i)
 |0,_=>by simpa[gX]using hb
 |i+1,hi=>by
  have ih:=za h hb i (by omega);rw[sw];have h3:=qq (i:=i) ih (IV h (i:=i) (by omega)) (.inl rfl) (by omega);exact fun x hx=>fG (h3 x hx) (by push_cast;omega)
theorem KB{b:bC}{j:Nat}{w:aT}(h:b.af[j]?=some w):((b.af.flatMap aT.enc).drop (j*3)).take 3=[.int .i64 w.b,.int .i64 w.h,.int .i64 w.m] :=
 cE (f:=aT.enc) (w:=3) (fun _=>rfl) h
theorem Dr{b:bC}{m:bV}{s s1:List Rock.aF}{aD:List Int}{A FL X Y Z W:Abs.aF}(h:Fv b m)(hs:Sv b s)(hr:Rv b aD)(hb:rO 500000000000000 s1)(hl1:s1.length=s.length):∀(k j v:Nat),j+k=aD.length →
  WL T [1,3,9,12,41,42,43] false fZ [(1,.aE s.length (s.flatMap aF.enc)),(3,.aK [.int .i64 b.f.x,.int .i64 b.f.y,.int .i64 b.f.z,.int .i64 b.f.k,.aE b.bY.length (b.bY.flatMap Rw.enc),.int .i64 b.aS,.int .i64 b.lift,.int .i64 b.deep,.aE b.af.length (b.af.flatMap aT.enc),.str m.name,.aE m.aP.length (m.aP.flatMap bx)]),(9,.sl σ.length 1 1 0 s.length 3),(12,.sl σ.length 7 v 0 j 3),(41,.aE aD.length (aD.flatMap bx)),(42,.int .i64 aD.length),(43,.int .i64 j)]
   ([A,.cells 1 ((cR b s s1 aD j).flatMap aF.enc),FL,X,Y,Z,W,.cells v (((ct b s aD).take j).flatMap aF.enc)]::σ)
   (fun x e σ'=>x=.exit 2∧get e 3=.aK [.int .i64 b.f.x,.int .i64 b.f.y,.int .i64 b.f.z,.int .i64 b.f.k,.aE b.bY.length (b.bY.flatMap Rw.enc),.int .i64 b.aS,.int .i64 b.lift,.int .i64 b.deep,.aE b.af.length (b.af.flatMap aT.enc),.str m.name,.aE m.aP.length (m.aP.flatMap bx)]∧get e 9=.sl σ.length 1 1 0 s.length 3∧get e 12=.sl σ.length 7 (v+k) 0 aD.length 3 ∧
    σ'=[A,.cells 1 ((cR b s s1 aD aD.length).flatMap aF.enc),FL,X,Y,Z,W,.cells (v+k) ((ct b s aD).flatMap aF.enc)]::σ)
 |0,j,v,hj=>by
  refine aB fZ.eq_1 ?_;obtain rfl:j=aD.length:=by omega
  have hyl:(ct b s aD).length=aD.length:=by simp[ct,hr.len]
  have h3:(ct b s aD).take aD.length=ct b s aD:=aq (by omega);simp[-length_flatMap,-map_take,h3,bg,aH,aV]
 |k+1,j,v,hj=>by
  refine aB fZ.eq_1 ?_;have h1:j<aD.length:=by omega
  have hwl:=h.bv.af;have hrl:=hr.len;obtain⟨r,hr2⟩:∃r,aD[j]?=some r:=gE (by omega);obtain⟨w,hw1⟩:∃w,b.af[j]?=some w:=gE (by omega);have hw:=o6 h.bv w (aj hw1);have hrr:=hr.ok r (aj hr2);have hwn:w.b.toNat<b.n:=by omega
  have hlen:=hs.len;obtain⟨x0,m1,m2,m3⟩:=hs.at (i:=w.b.toNat) hwn;obtain⟨ib,il⟩:=rM h.bv hs hr hb j (by omega);obtain⟨x1,y1⟩:=xp ib (i:=w.b.toNat) (by omega);have h4:=db h1 (by omega);have a1:=KB hw1;have a2:=nS hr2;have a3:=cE (f:=aF.enc) (w:=3) (fun _=>rfl) x0;have hy:=JT (s:=s) hw1 hr2;have f3:=mj (f:=aF.enc) hy;have hyl:(ct b s aD).length=aD.length:=by simp[ct,hr.len]
  have f4:=wQ ((ct b s aD).take j);rw[bO,hyl,Nat.min_eq_left (by omega)]at f4;have f6:(((ct b s aD).take j).flatMap aF.enc).take (j*3)=((ct b s aD).take j).flatMap aF.enc:=aq (by omega);have h7:(j+1)*24≤room:=by unfold room;omega
  have ih:=Dr (A:=A) (FL:=FL) (X:=X) (Y:=Y) (Z:=Z) (W:=W) h hs hr hb hl1 k (j+1) (v+1) (by omega);have hsucc:=vj (s:=s) (s1:=s1) hw1 hr2;have hB0:(0:Int)≤w.b:=hw.1.1;have hB1:w.b<(s.length:Int):=by omega
  have hjw:j<b.af.length:=by omega
  have d2:=bE (b:=8) (show 0≤(aZ s w.b.toNat).m by omega);by_cases hc:r<0
  ·have hg:=fun σ=>Kg (σ:=σ) hrr hw.2.1 hw.2.2
   have hM:∀V,bG T (.call false bB [.ref σ.length 1 1 (w.b.toNat*3),.agg [.int .i64 (w.given r).m,.int .i64 (w.given r).h,.int .i64 (w.given r).k],.int .i64 1] ([A,.cells 1 ((cR b s s1 aD j).flatMap aF.enc),FL,X,Y,Z,W,V]::σ)) =
     some (.val (.fj []) ([A,.cells 1 ((cR b s s1 aD (j+1)).flatMap aF.enc),FL,X,Y,Z,W,V]::σ)):=by
    intro V;rw[hsucc,lU,if_pos hc];exact xb (F:=[A,.cells 1 ((cR b s s1 aD j).flatMap aF.enc),FL,X,Y,Z,W,V]) (j:=1) rfl x1 (fG y1 (by omega)) (fG (Bh hrr hw.2.1 hw.2.2) (by omega)) (.inl rfl)
   have hwy:jv s w r=⟨0,0,0⟩:=by simp[jv,hc]
   rw[hwy]at f3;simp only[aT.enc,aF.enc]at hg;simp[-length_flatMap,-map_take,h1,h4,a1,a2,a3,f4,f6,h7,hB0,hB1,hjw,hc,hg,hM,bg,aH,aV];refine WL.to ih (by simp[bg,aH,aV]) (by simp[← f3]) fun x e σ hh=>by simpa[cH,Nat.add_comm 1 k]using hh
  ·have w7:=eW (n:=(aZ s w.b.toNat).m.tdiv 8) (by rw[d2];omega);have hO:=fun σ=>Fw (σ:=σ) (q:=min r ((aZ s w.b.toNat).m.tdiv 8)) m1 m2 m3 ⟨by rw[d2];omega,by rw[d2];omega⟩
   have hos:=CL (q:=min r ((aZ s w.b.toNat).m.tdiv 8)) m1 m2 m3 ⟨by rw[d2];omega,by rw[d2];omega⟩;have hwy:jv s w r=(aZ s w.b.toNat).out (min r ((aZ s w.b.toNat).m.tdiv 8)):=by simp[jv,hc]
   have hsucc':cR b s s1 aD (j+1)=dE (cR b s s1 aD j) w.b.toNat ((aZ s w.b.toNat).out (min r ((aZ s w.b.toNat).m.tdiv 8))) (-1):=by
    rw[hsucc,lU,if_neg hc,hwy]
   rw[hwy]at f3;generalize hQ:min r ((aZ s w.b.toNat).m.tdiv 8)=Q at *
   generalize (aZ s w.b.toNat).out Q=O at *
   have hM:∀V,bG T (.call false bB [.ref σ.length 1 1 (w.b.toNat*3),.agg [.int .i64 O.m,.int .i64 O.h,.int .i64 O.k],.int .i64 (-1)] ([A,.cells 1 ((cR b s s1 aD j).flatMap aF.enc),FL,X,Y,Z,W,V]::σ)) =
     some (.val (.fj []) ([A,.cells 1 ((cR b s s1 aD (j+1)).flatMap aF.enc),FL,X,Y,Z,W,V]::σ)):=by
    intro V;rw[hsucc'];exact xb (F:=[A,.cells 1 ((cR b s s1 aD j).flatMap aF.enc),FL,X,Y,Z,W,V]) (j:=1) rfl x1 (fG y1 (by omega)) (fG hos (by omega)) (.inr rfl)
   simp only[aF.enc]at hO;simp[-length_flatMap,-map_take,h1,h4,a1,a2,a3,f4,f6,h7,hB0,hB1,hjw,hc,w7,hQ,hO,hM,bg,aH,aV];refine WL.to ih (by simp[bg,aH,aV]) (by simp[← f3]) fun x e σ hh=>by simpa[cH,Nat.add_comm 1 k]using hh
theorem FF{b:bC}{m:bV}{s2:List Rock.aF}{A FL X Y Z W V:Abs.aF}{d12:D}(h:Fv b m)(hb:rO 600000000000000 s2)(hl2:s2.length=b.n)(hd:d12.strip=d12∧d12.calm=d12):∀(k i:Nat),i+k=b.n →
  WL T [3,9,12,93,94] false ga [(3,.aK [.int .i64 b.f.x,.int .i64 b.f.y,.int .i64 b.f.z,.int .i64 b.f.k,.aE b.bY.length (b.bY.flatMap Rw.enc),.int .i64 b.aS,.int .i64 b.lift,.int .i64 b.deep,.aE b.af.length (b.af.flatMap aT.enc),.str m.name,.aE m.aP.length (m.aP.flatMap bx)]),(9,.sl σ.length 1 1 0 b.n 3),(12,d12),(93,.int .i64 b.n),(94,.int .i64 i)]
   ([A,.cells 1 ((gX b m s2 i).flatMap aF.enc),FL,X,Y,Z,W,V]::σ)
   (fun x e σ'=>x=.exit 4∧get e 3=.aK [.int .i64 b.f.x,.int .i64 b.f.y,.int .i64 b.f.z,.int .i64 b.f.k,.aE b.bY.length (b.bY.flatMap Rw.enc),.int .i64 b.aS,.int .i64 b.lift,.int .i64 b.deep,.aE b.af.length (b.af.flatMap aT.enc),.str m.name,.aE m.aP.length (m.aP.flatMap bx)]∧get e 9=.sl σ.length 1 1 0 b.n 3∧get e 12=d12∧σ'=[A,.cells 1 ((gX b m s2 b.n).flatMap aF.enc),FL,X,Y,Z,W,V]::σ)
 |0,i,hi=>by
  refine aB ga.eq_1 ?_;obtain rfl:i=b.n:=by omega
  simp[-length_flatMap,-map_take,hd,bg,aH,aV]
 |k+1,i,hi=>by
  refine aB ga.eq_1 ?_;have h1:i<b.n:=by omega
  have hn:=h.bv.n;have h4:=db h1 (by omega);have hf:=fun σ=>Xh (σ:=σ) h h1
  have ih:=FF (A:=A) (FL:=FL) (X:=X) (Y:=Y) (Z:=Z) (W:=W) (V:=V) h hb hl2 hd k (i+1) (by omega);have ib:=za h hb i (by omega);obtain⟨x1,y1⟩:=xp ib (i:=i) (by rw[rm,hl2];omega);have hM:bG T (.call false bB [.ref σ.length 1 1 (i*3),.agg [.int .i64 (Cq b m i).m,.int .i64 (Cq b m i).h,.int .i64 (Cq b m i).k],.int .i64 1] ([A,.cells 1 ((gX b m s2 i).flatMap aF.enc),FL,X,Y,Z,W,V]::σ)) =
    some (.val (.fj []) ([A,.cells 1 ((gX b m s2 (i+1)).flatMap aF.enc),FL,X,Y,Z,W,V]::σ)):=by
   rw[sw];exact xb (F:=[A,.cells 1 ((gX b m s2 i).flatMap aF.enc),FL,X,Y,Z,W,V]) (j:=1) rfl x1 (fG y1 (by omega)) (fG (IV h h1) (by omega)) (.inl rfl)
  simp only[aF.enc]at hf;simp[-length_flatMap,-map_take,h1,h4,hf,hM,hd,bg,aH,aV];refine WL.to ih (by simp[hd,bg,aH,aV]) rfl fun x e σ hh=>hh
theorem DZ{b:bC}{m:bV}{s:List Rock.aF}{aD:List Int}(hr:Rv b aD)(hl:s.length=b.n):gX b m (cR b s ((nr b m s).foldl cP s) aD aD.length) b.n=rA b m s aD:=by
 have:(b.af.zip aD).take aD.length=b.af.zip aD:=aq (by rw[List.length_zip];omega);simp only[rA,gX,cR,this,hl]
theorem EB{b:bC}{m:bV}{s:List Rock.aF}(h:Fv b m)(hs:Sv b s):rO 500000000000000 ((nr b m s).foldl cP s)∧((nr b m s).foldl cP s).length=s.length:=by
 obtain⟨h1,h2⟩:=Bc (m:=m) h.bv hs;have key:∀(es:List ((Nat×Nat)×Rock.aF)) (s:List Rock.aF) (N:Int),(∀e∈es,E9 b e)→rO N s→rO (N+2000000000000*es.length) (es.foldl cP s)∧(es.foldl cP s).length=s.length:=by
  intro es;induction es with
  |nil=>intro s N _ h;exact⟨by simpa using h,rfl⟩
  |cons e es ih =>
   intro s N he hb;obtain⟨a1,a2⟩:=ih (cP s e) _ (fun x hx=>he x (by simp[hx])) (Ba hb (he e (by simp)));simp only[List.foldl_cons,bq];exact⟨fun x hx=>fG (a1 x hx) (by push_cast;omega),by rw[a2,Bb]⟩
 obtain⟨a1,a2⟩:=key _ s _ h1 hs.rO;exact⟨fun x hx=>fG (a1 x hx) (by omega),a2⟩
theorem TZ{b:bC}{m:bV}{s s1:List Rock.aF}{aD:List Int}{A FL X Y Z W:Abs.aF}(h:Fv b m)(hs:Sv b s)(hr:Rv b aD)(hb:rO 500000000000000 s1)(hl1:s1.length=s.length):
  WC (bG T) dX ((25,.bool false)::(24,.undef)::yF b m s aD σ.length) ([A,.cells 1 (s1.flatMap aF.enc),FL,X,Y,Z,W]::σ) fun x e σ' =>
   x=.ret∧σ'=[A,.cells 1 ((gX b m (cR b s s1 aD aD.length) b.n).flatMap aF.enc),FL,X,Y,Z,W,.cells aD.length ((ct b s aD).flatMap aF.enc)]::σ ∧
   (if pA b (gX b m (cR b s s1 aD aD.length) b.n)=true then get e 6=.sl σ.length 1 1 0 b.n 3∧get e 7=.sl σ.length 7 aD.length 0 aD.length 3∧get e 8=.int .i64 0
    else get e 6=.bw∧get e 7=.bw∧get e 8=.int .i64 9):=by
 have hl:=hs.len;have hn:=h.bv.n;have hwl:=h.bv.af;have hrl:=hr.len;obtain⟨wb,wl⟩:=rM h.bv hs hr hb aD.length (aw _);have fl:=rm (b:=b) (m:=m) (s2:=cR b s s1 aD aD.length) b.n;rw[xj dX.eq_1];simp[-length_flatMap,-map_take,yF,bg,aH,aV];refine WL.to (Dr (σ:=σ) (A:=A) (FL:=FL) (X:=X) (Y:=Y) (Z:=Z) (W:=W) h hs hr hb hl1 aD.length 0 0 (by omega)) (by simp[bg,aH,aV]) (by simp[cR]) ?_;rintro x e σ' ⟨rfl,g3,g9,g12,rfl⟩;rw[hl]at g9;simp[-length_flatMap,-map_take,g3,g9,g12,bg,aH,aV];refine WL.to (FF (σ:=σ) (A:=A) (FL:=FL) (X:=X) (Y:=Y) (Z:=Z) (W:=W) (V:=.cells (0+aD.length) ((ct b s aD).flatMap aF.enc)) (d12:=.sl σ.length 7 (0+aD.length) 0 aD.length 3) h (fun x hx=>fG (wb x hx) (by omega)) (by rw[wl,hl1,hl]) ⟨rfl,rfl⟩ b.n 0 (by omega)) (by simp[bg,aH,aV]) (by simp[gX]) ?_;rintro x e σ' ⟨rfl,g3,g9,g12,rfl⟩;have hS:=En (m:=m) (b:=b) (s:=gX b m (cR b s s1 aD aD.length) b.n) h.bv (lv:=σ.length) (bi:=1) (v:=1) (F:=[A,.cells 1 ((gX b m (cR b s s1 aD aD.length) b.n).flatMap aF.enc),FL,X,Y,Z,W,.cells (0+aD.length) ((ct b s aD).flatMap aF.enc)]) (σ:=[A,.cells 1 ((gX b m (cR b s s1 aD aD.length) b.n).flatMap aF.enc),FL,X,Y,Z,W,.cells (0+aD.length) ((ct b s aD).flatMap aF.enc)]::σ) rfl (by simp[gv]) (by rw[fl,wl,hl1,hl]);rw[show(gX b m (cR b s s1 aD aD.length) b.n).length=b.n by rw[fl,wl,hl1,hl]]at hS;cases hc:pA b (gX b m (cR b s s1 aD aD.length) b.n)
 ·rw[hc]at hS;simp at hS;simp[-length_flatMap,-map_take,g3,g9,g12,hS,bg,aH,aV]
 ·rw[hc]at hS;simp at hS;simp[-length_flatMap,-map_take,g3,g9,g12,hS,bg,aH,aV]
def JM(b:bC)(m:bV)(s:List Rock.aF)(aD:List Int):D:=match tick b m s aD with
 |some (s',y) => .fj [.aE s'.length (s'.flatMap aF.enc),.aE y.length (y.flatMap aF.enc),.int .i64 0]
 |none => .fj [.bw,.bw,.int .i64 9]
theorem T2{b:bC}{m:bV}{s:List Rock.aF}{aD:List Int}(h:Fv b m)(hs:Sv b s)(hr:Rv b aD)(hσ:σ≠[]):
  bG T (.call false gD [.agg [.int .i64 b.f.x,.int .i64 b.f.y,.int .i64 b.f.z,.int .i64 b.f.k,.aE b.bY.length (b.bY.flatMap Rw.enc),.int .i64 b.aS,.int .i64 b.lift,.int .i64 b.deep,.aE b.af.length (b.af.flatMap aT.enc),.str m.name,.aE m.aP.length (m.aP.flatMap bx)],.aE s.length (s.flatMap aF.enc),.aE aD.length (aD.flatMap bx)] σ)=some (.val (JM b m s aD) σ):=by
 refine aA ua jP.eq_1 rfl ?_;have hl:=hs.len;have hn:=h.bv.n;have hne:s≠[]:=by intro h0;rw[h0]at hl;simp at hl;omega
 have hC:=Kb (σ:=σ) (s:=s) (bs:=[]) (by omega) hne;obtain⟨X,Y,Z,hF⟩:=Kf (σ:=σ) (A:=.cells 0 []) (B:=.cells 1 (s.flatMap aF.enc)) h hs;obtain⟨fb,fl⟩:=EB h hs;obtain⟨x,e',σ',hrun,rfl,rfl,hq⟩:=TZ (σ:=σ) (A:=.cells 0 []) (FL:=.cells 0 (uz (nr b m s))) (X:=X) (Y:=Y) (Z:=Z) (W:=.dead) h hs hr fb fl;obtain⟨f1,f2⟩:=Bc (m:=m) h.bv hs;have hM:=Ua (σ:=σ) (aD:=aD) (m:=m) (A:=.cells 0 []) (X:=X) (Y:=Y) (Z:=Z) (es:=nr b m s) hs f1 f2 (r:=.tJ .ret e' ([.cells 0 [],.cells 1 ((gX b m (cR b s ((nr b m s).foldl cP s) aD aD.length) b.n).flatMap aF.enc),.cells 0 (uz (nr b m s)),X,Y,Z,.dead,.cells aD.length ((ct b s aD).flatMap aF.enc)]::σ)) ⟨_,_,_,hrun,rfl⟩ _ [] List.nodup_nil (by simp) rfl;simp only[bR,ch,dA]at hC;have hG:vk ([.cells 0 [],.cells 1 (s.flatMap aF.enc),.cells 0 (uz (nr b m s)),X,Y,Z]::σ) .ZP [.iN σ.length 2]=some (.iN σ.length 6,[.cells 0 [],.cells 1 (s.flatMap aF.enc),.cells 0 (uz (nr b m s)),X,Y,Z,Ti σ.length (nr b m s).length []]::σ):=by
  simp[vk,tE,Ti,Tk,uz]
 simp[-length_flatMap,-map_take,hC,hF,hG,bg,aH,aV,xA];refine⟨_,_,_,by simpa[yF,TN]using hM,?_⟩;rw[DZ hr hl]at hq ⊢;have hnl:(rA b m s aD).length=b.n:=by
  rw[← DZ hr hl,rm,(rM h.bv hs hr fb aD.length (aw _)).2,fl,hl]
 have hyl:(ct b s aD).length=aD.length:=by simp[ct,hr.len]
 unfold JM tick;cases hc:pA b (rA b m s aD)
 ·rw[hc]at hq;simp at hq;obtain⟨g6,g7,g8⟩:=hq;simp[g6,g7,g8]
 ·rw[hc]at hq;simp only[if_true]at hq;obtain⟨g6,g7,g8⟩:=hq;simp only[if_true];simp[g6,g7,g8];rw[KN (by simp) (by omega)];simp only[vH,xJ];rw[← hnl,qd (f:=aF.enc) (l:=rA b m s aD) (by decide) (fun _=>rfl) (fun x=>by simp) hσ (by simp)];simp only[List.set_cons_succ,List.set_cons_zero];rw[← hyl,qd (f:=aF.enc) (l:=ct b s aD) (by decide) (fun _=>rfl) (fun x=>by simp) hσ (by simp)];rw[oG (by simp) (by omega)];exact⟨_,rfl⟩
end Go.Proofs.YtcgippbplkagkaaGreat
namespace Go.Rock
open List(length_flatMap map_take)
open Go Go.Abs
def ad(a c:Nat):Int:=max ((a:Int)-c) ((c:Int)-a)
def dst(X Y i j:Nat):Int:=ad (i%X) (j%X)+ad (i / X%Y) (j / X%Y)+ad (i / X / Y) (j / X / Y)
theorem A5{X Y i:Nat}:dst X Y i i=0:=by simp[dst,ad]
theorem Gg{X Y i j:Nat}:dst X Y i j=dst X Y j i:=by simp only[dst,ad];omega
theorem zW{X Y i j k:Nat}:dst X Y i k≤dst X Y i j+dst X Y j k:=by simp only[dst,ad];omega
theorem Cn{X Y i j:Nat}:0≤dst X Y i j:=by simp only[dst,ad];omega
theorem KF{X Y i j:Nat}(h:i≠j):1≤dst X Y i j:=by
 by_cases h1:i%X=j%X
 ·by_cases h2:i / X%Y=j / X%Y
  ·by_cases h3:i / X / Y=j / X / Y
   ·exfalso
    have a1:=Nat.div_add_mod i X;have a2:=Nat.div_add_mod j X;have b1:=Nat.div_add_mod (i / X) Y;have b2:=Nat.div_add_mod (j / X) Y;rw[h3,h2,b2]at b1;rw[h1,← b1,a2]at a1;exact h a1.symm
   ·simp only[dst,ad];omega
  ·simp only[dst,ad];omega
 ·simp only[dst,ad];omega
theorem BI{X i:Nat}(hX:1≤X)(h:(i+1)%X≠0):(i+1) / X=i / X∧(i+1)%X=i%X+1:=by
 have h1:=Nat.div_add_mod i X;have h2:=Nat.mod_lt i hX;have h3:i%X+1<X:=by
  rcases Nat.lt_or_ge (i%X+1) X with h4 | h4
  ·exact h4
  ·exfalso;apply h
   have:i+1=X*(i / X)+X:=by omega
   rw[this];simp
 have h5:i+1=X*(i / X)+(i%X+1):=by omega
 constructor
 ·rw[h5,Nat.mul_add_div (by omega),Nat.div_eq_of_lt h3];omega
 ·rw[h5,Nat.mul_add_mod,Nat.mod_eq_of_lt h3]
theorem Jg{b:bC}(hx:1≤b.f.x.toNat)(hy:1≤b.f.y.toNat){l:Nat×Nat}(hl:l∈oj b):dst b.f.x.toNat b.f.y.toNat l.1 l.2≤1:=by
 simp only[oj,List.mem_flatMap,oC,aX]at hl;obtain⟨i,_,hl⟩:=hl;generalize b.f.x.toNat=X at *
 generalize b.f.y.toNat=Y at *
 rcases hl with hl | hl | hl
 ·split at hl
  ·rename_i hc;simp only[List.mem_singleton]at hl;obtain⟨h1,h2⟩:=BI hx hc;rw[hl];simp only[dst,ad,h1,h2];omega
  ·simp at hl
 ·split at hl
  ·rename_i hc;simp only[List.mem_singleton]at hl;have h3:(i+X) / X=i / X+1:=Nat.add_div_right i hx;have h4:(i+X)%X=i%X:=Nat.add_mod_right i X;have h5:(i / X+1)%Y≠0:=by
    intro h0;apply hc;have h6:=Nat.div_add_mod (i / X) Y;have h7:=Nat.mod_lt (i / X) hy;have h8:i / X+1=Y*(i / X / Y)+(i / X%Y+1):=by omega
    rcases Nat.lt_or_ge (i / X%Y+1) Y with h9 | h9
    ·rw[h8,Nat.mul_add_mod,Nat.mod_eq_of_lt h9]at h0;omega
    ·omega
   obtain⟨h1,h2⟩:=BI hy h5;rw[hl];simp only[dst,ad,h3,h4,h1,h2];omega
  ·simp at hl
 ·split at hl
  ·simp only[List.mem_singleton]at hl;have h3:(i+X*Y) / X=i / X+Y:=Nat.add_mul_div_left i Y hx;have h4:(i+X*Y)%X=i%X:=Nat.add_mul_mod_self_left i X Y;have h5:(i / X+Y) / Y=i / X / Y+1:=Nat.add_div_right _ hy;have h6:(i / X+Y)%Y=i / X%Y:=Nat.add_mod_right _ Y;rw[hl];simp only[dst,ad,h3,h4,h5,h6];omega
  ·simp at hl
theorem KA{s:List aF}{i j:Nat}{x:aF}:(aZ (s.set i x) j).k≠0→(aZ s j).k≠0∨(j=i∧x.k≠0):=by
 unfold aZ;intro h;by_cases hij:i=j
 ·subst hij;by_cases hl:i<s.length
  ·simp[List.getElem?_set,hl]at h;exact Or.inr ⟨rfl,h⟩
  ·simp[List.getElem?_set,hl]at h
 ·simp[List.getElem?_set,hij]at h;exact Or.inl h
theorem Ve{s:List aF}{i j:Nat}{o:aF}{sign:Int}(h:(aZ (dE s i o sign) j).k≠0):(aZ s j).k≠0∨(j=i∧o.k≠0):=by
 rcases KA h with h | ⟨rfl,h⟩
 ·exact Or.inl h
 ·by_cases h1:(aZ s j).k=0
  ·right
   refine⟨rfl,?_⟩;intro h2;apply h;simp[aF.move,h1,h2]
  ·exact Or.inl h1
def Mk(S:Nat→Prop)(s:List aF):Prop:=∀i,(aZ s i).k≠0→S i
theorem Mk.move{S:Nat→Prop}{s:List aF}(h:Mk S s){i:Nat}{o:aF}{sign:Int}(ho:o.k≠0→S i):Mk S (dE s i o sign):=by
 intro j hj;rcases Ve hj with h1 | ⟨rfl,h1⟩
 ·exact h j h1
 ·exact ho h1
theorem Mk.fold{α:Type}{S:Nat→Prop}{f:List aF→α→List aF}:∀(l:List α) (s:List aF),Mk S s→(∀a∈l,∀s,Mk S s→Mk S (f s a))→Mk S (l.foldl f s)
 |[],s,h,_=>h
 |a::l,s,h,hf=>Mk.fold l _ (hf a (List.mem_cons_self ..) s h) fun x hx=>hf x (List.mem_cons_of_mem _ hx)
theorem Jt{x:aF}{q:Int}(h:(x.out q).k≠0):x.k≠0:=by
 intro h0;apply h;simp[aF.out,h0]
def T5(b:bC)(s:List aF)(e:(Nat×Nat)×aF):Prop:=(e.1∈oj b∨(e.1.2,e.1.1)∈oj b)∧(e.2.k≠0→(aZ s e.1.1).k≠0)
theorem IX{b:bC}{m:bV}{s:List aF}{p:List Int}{l:Nat×Nat}(hl:l∈oj b){e:(Nat×Nat)×aF}(he:vF b m s p l=some e):T5 b s e:=by
 simp only[vF]at he;split at he;all_goals
  split at he
  ·simp only[ae]at he;subst he;exact⟨by simp[hl],Jt⟩
  ·cases he
theorem Vr{b:bC}{s:List aF}{es:List ((Nat×Nat)×aF)}{k:Nat×Nat}{o:aF}(h:∀e∈es,T5 b s e)(ho:T5 b s (k,o)):∀e∈BF es k o,T5 b s e:=by
 intro e he;unfold BF at he;split at he
 ·rcases List.mem_or_eq_of_mem_set he with h1 | rfl
  ·exact h e h1
  ·exact ho
 ·rcases aX.1 he with h1 | h1
  ·exact h e h1
  ·rw[List.mem_singleton.1 h1];exact ho
theorem KI{b:bC}{m:bV}{s:List aF}:∀e∈nr b m s,T5 b s e:=by
 have key:∀(ls:List (Nat×Nat)) (es:List ((Nat×Nat)×aF)),(∀l∈ls,l∈oj b)→(∀e∈es,T5 b s e)→∀e∈ls.foldl (iD b m s (bh b m s)) es,T5 b s e:=by
  intro ls;induction ls with
  |nil=>intro es _ h;exact h
  |cons l ls ih =>
   intro es hl h;refine ih _ (fun x hx=>hl x (List.mem_cons_of_mem _ hx)) ?_;unfold iD;split
   ·rename_i e he;exact Vr h (IX (hl l (List.mem_cons_self ..)) he)
   ·exact h
 exact key (oj b) [] (fun _ h=>h) (by simp)
theorem Vl{b:bC}{m:bV}{s:List aF}{aD:List Int}{S:Nat→Prop}(h0:Mk S s)(h1:∀l∈oj b,(aZ s l.1).k≠0→S l.2)(h2:∀l∈oj b,(aZ s l.2).k≠0→S l.1)
  (h3:∀wr∈b.af.zip aD,wr.2<0→S wr.1.b.toNat):Mk S (rA b m s aD):=by
 unfold rA;refine Mk.fold _ _ (Mk.fold _ _ (Mk.fold _ _ h0 ?_) ?_) ?_
 ·rintro⟨⟨i,j⟩,o⟩ he s' hs';obtain⟨hl,hk⟩:=KI _ he;refine(hs'.move fun ho=>h0 _ (hk ho)).move fun ho=>?_
  rcases hl with hl | hl
  ·exact h1 _ hl (hk ho)
  ·exact h2 _ hl (hk ho)
 ·rintro⟨w,r⟩ hwr s' hs';unfold lU;split
  ·rename_i hr;exact hs'.move fun _=>h3 _ hwr hr
  ·rename_i hr;refine hs'.move fun ho=>h0 _ ?_
   unfold jv at ho;rw[if_neg hr]at ho;exact Jt ho
 ·intro i _ s' hs';exact hs'.move fun ho=>absurd rfl ho
def Reach(X Y A start t i:Nat):Prop:=start+1≤t∧dst X Y A i≤(t:Int)-(start+1)
theorem TG{b:bC}{m:bV}(hx:1≤b.f.x.toNat)(hy:1≤b.f.y.toNat){A start:Nat}:∀(plan:List (List Int)) (ss ys:List (List aF)) (s:List aF) {ss' ys':List (List aF)},
  Mk (Reach b.f.x.toNat b.f.y.toNat A start ys.length) s→(∀(t:Nat) r,plan[t]?=some r→∀wr∈b.af.zip r,wr.2<0→wr.1.b.toNat=A∧start≤ys.length+t) →
  (∀(t:Nat) y,ys[t]?=some y→∀(w:Nat) c,b.af[w]?=some c→(aZ y w).k≠0→Reach b.f.x.toNat b.f.y.toNat A start t c.b.toNat) →
  lu b m ss ys s plan=some (ss',ys')→∀(t:Nat) y,ys'[t]?=some y→∀(w:Nat) c,b.af[w]?=some c→(aZ y w).k≠0→Reach b.f.x.toNat b.f.y.toNat A start t c.b.toNat
 |[],ss,ys,s,ss',ys',hs,hp,hy',h=>by
  simp only[lu,ae,ai]at h;obtain⟨_,rfl⟩:=h;exact hy'
 |r::plan,ss,ys,s,ss',ys',hs,hp,hy',h=>by
  simp only[lu]at h;split at h
  ·rename_i s' y ht;unfold tick at ht;split at ht
   ·simp only[ae,ai]at ht;obtain⟨rfl,rfl⟩:=ht;have hd:=fun l (hl:l∈oj b)=>Jg hx hy hl
    refine TG hx hy plan _ _ _ ?_ ?_ ?_ h
    ·rw[bS,List.length_singleton];refine Vl (fun i hi=>?_) (fun l hl hi=>?_) (fun l hl hi=>?_) (fun wr hwr hr=>?_)
     ·obtain⟨g1,g2⟩:=hs i hi;exact⟨by omega,by omega⟩
     ·obtain⟨g1,g2⟩:=hs _ hi;have g3:=hd l hl;have g4:=zW (X:=b.f.x.toNat) (Y:=b.f.y.toNat) (i:=A) (j:=l.1) (k:=l.2);exact⟨by omega,by omega⟩
     ·obtain⟨g1,g2⟩:=hs _ hi;have g3:=hd l hl;rw[Gg]at g3;have g4:=zW (X:=b.f.x.toNat) (Y:=b.f.y.toNat) (i:=A) (j:=l.2) (k:=l.1);exact⟨by omega,by omega⟩
     ·obtain⟨g1,g2⟩:=hp 0 r rfl wr hwr hr;refine⟨by omega,?_⟩;rw[g1,A5];omega
    ·intro t r' hr' wr hwr hw;have:=hp (t+1) r' (by simpa using hr') wr hwr hw;rw[bS,List.length_singleton];exact⟨this.1,by omega⟩
    ·intro t y hty w c hc hk;rcases Nat.lt_trichotomy t ys.length with h1 | h1 | h1
     ·rw[dn h1]at hty;exact hy' t y hty w c hc hk
     ·subst h1;simp only[List.getElem?_append_right (aw _),Nat.sub_self,bH,ae]at hty;subst hty;refine hs _ ?_;unfold ct at hk;by_cases hr:w<r.length
      ·have hz:(b.af.zip r)[w]?=some (c,r[w]):=by
        rw[List.getElem?_zip_eq_some];exact⟨hc,au hr⟩
       simp only[aZ,cl,hz,aM,dK,jv]at hk;split at hk
       ·exact absurd rfl hk
       ·exact Jt hk
      ·have hz:(b.af.zip r)[w]?=none:=by
        apply bT;rw[List.length_zip];omega
       simp[aZ,cl,hz]at hk
     ·rw[bT (by simp;omega)]at hty;cases hty
   ·cases ht
  ·cases h
theorem KH{b:bC}{m:bV}{S:Nat→Prop}:Mk S (cS b m):=by
 intro i hi;exfalso;apply hi;unfold cS aZ;rw[cl];cases(List.range b.n)[i]? <;> rfl
def ke(c:Nat)(k:Int):List (List aF)→Int
 |[]=>k+1
 |y::l=>if 0<(aZ y c).k then k+1 else ke c (k+1) l
theorem zc{c:Nat}{N:Int}:∀(l:List (List aF)) (k:Nat) ,(N≤k+l.length+1)→(∀(t:Nat) y,l[t]?=some y→(aZ y c).k≠0→N≤k+t+1)→N≤ke c k l
 |[],k,h,_=>by simpa[ke]using h
 |y::l,k,h,hl=>by
  unfold ke;split
  ·have:=hl 0 y rfl (by omega);simpa using this
  ·have:=zc (c:=c) (N:=N) l (k+1) (by simp at h;push_cast;omega) (fun t y' hy' hk=>by have:=hl (t+1) y' (by simpa using hy') hk;push_cast at this ⊢;omega);push_cast at this;exact this
theorem EL{b:bC}{m:bV}(hx:1≤b.f.x.toNat)(hy:1≤b.f.y.toNat){A start c:Nat}{w:aT}{plan:List (List Int)}{ss ys:List (List aF)}(hr:run b m plan=some (ss,ys))(hl:ys.length=plan.length)
  (hp:∀(t:Nat) r,plan[t]?=some r→∀wr∈b.af.zip r,wr.2<0→wr.1.b.toNat=A∧start≤t) (hc:b.af[c]?=some w):
  min ((plan.length:Int)+1) (start+1+dst b.f.x.toNat b.f.y.toNat A w.b.toNat+1)≤ke c 0 ys:=by
 have h:=TG hx hy (A:=A) (start:=start) plan _ _ _ KH (fun t r h1 wr h2 h3=>by simpa using hp t r h1 wr h2 h3) (by simp) hr;refine zc ys 0 (by rw[hl];simp;omega) ?_;intro t y hty hk;obtain⟨g1,g2⟩:=h t y hty c w hc hk;simp;omega
end Go.Rock
namespace Go.Proofs.YtcgippbplkagkaaGreat
open List(length_flatMap map_take)
open Go Go.Abs Go.Inj
variable {σ:SK} {n:Nat} {d:Nat→Nat→Int} {l:List jB}
def pP(n:Nat)(d:Nat→Nat→Int)(u:Nat):List Int:=(List.range n).map (d u)
def kS(n:Nat)(d:Nat→Nat→Int):List (List Int):=(List.range n).map (pP n d)
theorem sK{u:Nat}:(pP n d u).length=n:=by simp[pP]
theorem xS:(kS n d).length=n:=by simp[kS]
theorem rG{u v:Nat}(hv:v<n):(((pP n d u).flatMap Rock.bx).drop v).take 1=[.int .i64 (d u v)]:=by
 have:=cE (f:=Rock.bx) (w:=1) (fun _=>rfl) (l:=pP n d u) (i:=v) (x:=d u v) (by simp[pP,hv]);simpa using this
theorem u0{u:Nat}(hu:u<n):(((kS n d).flatMap kK).drop u).take 1=[.aE n ((pP n d u).flatMap Rock.bx)]:=by
 have:=cE (f:=kK) (w:=1) (fun _=>rfl) (l:=kS n d) (i:=u) (x:=pP n d u) (by simp[kS,hu]);simpa[kK,sK]using this
theorem FH(hw:rX n d l){u:Nat}(hu:u<n):∀(m v:Nat),v+m=n →
  WL T [2,3,22,23,24,41,42,43] false ki [(2,uw n l),(3,.aK [.aE n ((kS n d).flatMap kK)]),(22,.aE n ((kS n d).flatMap kK)),(23,.int .i64 n),(24,.int .i64 u),(41,.aE n ((pP n d u).flatMap Rock.bx)),(42,.int .i64 n),(43,.int .i64 v)] σ
   (fun x e σ'=>x=.exit 2∧get e 2=uw n l∧get e 3=.aK [.aE n ((kS n d).flatMap kK)]∧get e 22=.aE n ((kS n d).flatMap kK)∧get e 23=.int .i64 n∧get e 24=.int .i64 u∧σ'=σ)
 |0,v,hv=>by
  refine aB ki.eq_1 ?_;obtain rfl:v=n:=by omega
  simp[-length_flatMap,-map_take]
 |m+1,v,hv=>by
  refine aB ki.eq_1 ?_;have h1:v<n:=by omega
  have h2:(v:Int)<n:=by omega
  have h4:=db h1 (by have:=hw.sz;omega);have r1:=rG (d:=d) (u:=u) h1;have hi:Rock.cK (d u v) 0 1000000=true:=Rock.bD.2 ⟨hw.nn u v,hw.le u v⟩;have ih:=FH hw hu m (v+1) (by omega);simp[-length_flatMap,-map_take,h1,h2,h4,r1,sT,hi];exact WL.to ih (by simp) rfl fun x e σ hh=>hh
theorem FG(hw:rX n d l):∀(m u:Nat),u+m=n →
  WL T [2,3,22,23,24] false kj [(2,uw n l),(3,.aK [.aE n ((kS n d).flatMap kK)]),(22,.aE n ((kS n d).flatMap kK)),(23,.int .i64 n),(24,.int .i64 u)] σ
   (fun x e σ'=>x=.exit 0∧get e 2=uw n l∧get e 3=.aK [.aE n ((kS n d).flatMap kK)]∧σ'=σ)
 |0,u,hu=>by
  refine aB kj.eq_1 ?_;obtain rfl:u=n:=by omega
  simp[-length_flatMap,-map_take]
 |m+1,u,hu=>by
  refine aB kj.eq_1 ?_;have h1:u<n:=by omega
  have h2:(u:Int)<n:=by omega
  have h4:=db h1 (by have:=hw.sz;omega);have r1:=rG (d:=d) (u:=u) h1;have r2:=u0 (d:=d) h1;have hs:=hw.self u;have ih:=FG hw m (u+1) (by omega);simp[-length_flatMap,-map_take,h1,h2,r1,r2,hs];refine WL.to (FH (σ:=σ) hw h1 n 0 (by omega)) (by simp) rfl ?_;rintro x e σ' ⟨rfl,g2,g3,g22,g23,g24,rfl⟩;simp[-length_flatMap,-map_take,g2,g3,g22,g23,g24,h4];exact WL.to ih (by simp) rfl fun x e σ hh=>hh
theorem FR(hw:rX n d l){u v:Nat}(hu:u<n)(hv:v<n):∀(m w:Nat),w+m=n →
  WL T [2,3,9,10,53,54,58,59,63,64] false kn [(2,uw n l),(3,.aK [.aE n ((kS n d).flatMap kK)]),(9,.int .i64 u),(10,.int .i64 v),(53,.int .i64 n),(54,.int .i64 u),(58,.int .i64 n),(59,.int .i64 v),(63,.int .i64 n),(64,.int .i64 w)] σ
   (fun x e σ'=>x=.exit 8∧get e 2=uw n l∧get e 3=.aK [.aE n ((kS n d).flatMap kK)]∧get e 9=.int .i64 u∧get e 53=.int .i64 n∧get e 54=.int .i64 u∧get e 58=.int .i64 n∧get e 59=.int .i64 v∧σ'=σ)
 |0,w,hw'=>by
  refine aB kn.eq_1 ?_;obtain rfl:w=n:=by omega
  simp[-length_flatMap,-map_take]
 |m+1,w,hw'=>by
  refine aB kn.eq_1 ?_;have h1:w<n:=by omega
  have h2:(w:Int)<n:=by omega
  have h2u:(u:Int)<n:=by omega
  have h2v:(v:Int)<n:=by omega
  have h4:=db h1 (by have:=hw.sz;omega);have r1:=rG (d:=d) (u:=u) h1;have r2:=rG (d:=d) (u:=u) hv;have r3:=rG (d:=d) (u:=v) h1;have r4:=u0 (d:=d) hu;have r5:=u0 (d:=d) hv;have a1:=hw.le u v;have a2:=hw.nn u v;have a3:=hw.le v w;have a4:=hw.nn v w;have w1:=eW (n:=d u v+d v w) (by omega);have ht:¬d u v+d v w<d u w:=by have:=hw.tri u v w;omega
  have ih:=FR hw hu hv m (w+1) (by omega);simp[-length_flatMap,-map_take,h1,h2,h2u,h2v,hu,hv,h4,r1,r2,r3,r4,r5,w1,ht];exact WL.to ih (by simp) rfl fun x e σ hh=>hh
theorem FQ(hw:rX n d l){u:Nat}(hu:u<n):∀(m v:Nat),v+m=n →
  WL T [2,3,9,53,54,58,59] false ko [(2,uw n l),(3,.aK [.aE n ((kS n d).flatMap kK)]),(9,.int .i64 u),(53,.int .i64 n),(54,.int .i64 u),(58,.int .i64 n),(59,.int .i64 v)] σ
   (fun x e σ'=>x=.exit 6∧get e 2=uw n l∧get e 3=.aK [.aE n ((kS n d).flatMap kK)]∧get e 53=.int .i64 n∧get e 54=.int .i64 u∧σ'=σ)
 |0,v,hv=>by
  refine aB ko.eq_1 ?_;obtain rfl:v=n:=by omega
  simp[-length_flatMap,-map_take]
 |m+1,v,hv=>by
  refine aB ko.eq_1 ?_;have h1:v<n:=by omega
  have h2:(v:Int)<n:=by omega
  have h4:=db h1 (by have:=hw.sz;omega);have ih:=FQ hw hu m (v+1) (by omega);simp[-length_flatMap,-map_take,h1,h2];refine WL.to (FR (σ:=σ) hw hu h1 n 0 (by omega)) (by simp) rfl ?_;rintro x e σ' ⟨rfl,g2,g3,g9,g53,g54,g58,g59,rfl⟩;simp[-length_flatMap,-map_take,g2,g3,g9,g53,g54,g58,g59,h4];exact WL.to ih (by simp) rfl fun x e σ hh=>hh
theorem FP(hw:rX n d l):∀(m u:Nat),u+m=n →
  WL T [2,3,53,54] false kq [(2,uw n l),(3,.aK [.aE n ((kS n d).flatMap kK)]),(53,.int .i64 n),(54,.int .i64 u)] σ
   (fun x e σ'=>x=.exit 4∧get e 2=uw n l∧get e 3=.aK [.aE n ((kS n d).flatMap kK)]∧σ'=σ)
 |0,u,hu=>by
  refine aB kq.eq_1 ?_;obtain rfl:u=n:=by omega
  simp[-length_flatMap,-map_take]
 |m+1,u,hu=>by
  refine aB kq.eq_1 ?_;have h1:u<n:=by omega
  have h2:(u:Int)<n:=by omega
  have h4:=db h1 (by have:=hw.sz;omega);have ih:=FP hw m (u+1) (by omega);simp[-length_flatMap,-map_take,h1,h2];refine WL.to (FQ (σ:=σ) hw h1 n 0 (by omega)) (by simp) rfl ?_;rintro x e σ' ⟨rfl,g2,g3,g53,g54,rfl⟩;simp[-length_flatMap,-map_take,g2,g3,g53,g54,h4];exact WL.to ih (by simp) rfl fun x e σ hh=>hh
theorem J3(hw:rX n d l){x:jB}(hx:x∈l):bG T (.call false hH [.agg x.enc,.aK [.aE n ((kS n d).flatMap kK)]] σ)=some (.val (.bool false) σ):=by
 refine aA wA lX.eq_1 rfl ?_;obtain⟨hf,ht,hft,g1,g2,g3,g4,g5⟩:=hw.JP x hx;have b1:(x.f:Int)<n:=by omega
 have b2:(x.t:Int)<n:=by omega
 have r1:=rG (d:=d) (u:=x.f) ht;have r2:=u0 (d:=d) hf;have hi:Rock.cK (d x.f x.t) x.lo x.hi=true:=Rock.bD.2 ⟨g2,g3⟩;simp[-length_flatMap,-map_take,b1,b2,hf,ht,r1,r2,sT,hi]
theorem TP(hw:rX n d l):bG T (.call false lN [.agg [.int .i64 n,.aE l.length (l.flatMap jB.enc)],.aE n ((kS n d).flatMap kK)] σ)=some (.val (.bool true) σ):=by
 refine aA yp nI.eq_1 rfl ?_;have hc:=fun σ=>contains_of (σ:=σ) (sq 4 jB.enc (fun _=>rfl)) (f:=cG) (i:=bP) (l:=l) (p:=fun _=>false) (fv:=.fn hH [] [.aK [.aE n ((kS n d).flatMap kK)]]) rfl rfl (by have:=hw.len;omega) (lz.fn fun x hx σ=>J3 hw hx)
 have h2:wF l (fun _:jB=>false)=false:=by simp[wF]
 simp only[h2,sq]at hc;simp[-length_flatMap,-map_take,uB hw];refine WL.to (FG (σ:=[]::σ) hw n 0 (by omega)) (by simp) rfl ?_;rintro x e σ' ⟨rfl,g2,g3,rfl⟩;simp[-length_flatMap,-map_take,g2,g3];refine WL.to (FP (σ:=[]::σ) hw n 0 (by omega)) (by simp) rfl ?_;rintro x e σ' ⟨rfl,g2,g3,rfl⟩;simp[-length_flatMap,-map_take,g2,g3,hc]
end Go.Proofs.YtcgippbplkagkaaGreat
namespace Go.Proofs.YtcgippbplkagkaaGreat
open List(length_flatMap map_take)
open Go Go.Abs Go.Inj
variable {σ:SK}
theorem C7{f:Rock.ej}(hf:f.valid=true){i:Nat}(hi:(i:Int)<f.size):bG T (.call false j6 [.agg [.int .i64 f.x,.int .i64 f.y,.int .i64 f.z,.int .i64 f.k],.int .i64 i] σ) =
  some (.val (.fj [.int .i64 ((i%f.x.toNat:Nat):Int),.int .i64 ((i / f.x.toNat%f.y.toNat:Nat):Int),.int .i64 ((i / f.x.toNat / f.y.toNat:Nat):Int),.int .i64 0]) σ):=by
 refine aA ym nF.eq_1 rfl ?_;obtain⟨h1,h2,h3,h4,h5⟩:=Rock.ej.mu.1 hf;have hb:=fun σ=>w9 (σ:=σ) (f:=f) h1 h2 h3
 have hv:=fun σ=>AI (σ:=σ) (f:=f)
 have hw:=eW (n:=f.size-1) (by omega);have hn:Rock.cK i 0 (f.size-1)=true:=Rock.bD.2 (by omega);have eX:f.x=(f.x.toNat:Int):=by omega
 have eY:f.y=(f.y.toNat:Int):=by omega
 have e1:(i:Int).tmod f.x=((i%f.x.toNat:Nat):Int):=by
  conv=>lhs;rw[eX]
  rfl
 have e2:(i:Int).tdiv f.x=((i / f.x.toNat:Nat):Int):=by
  conv=>lhs;rw[eX]
  rfl
 have e2':(i:Int) / f.x=((i / f.x.toNat:Nat):Int):=by
  conv=>lhs;rw[eX]
  rfl
 have e3:((i / f.x.toNat:Nat):Int).tmod f.y=((i / f.x.toNat%f.y.toNat:Nat):Int):=by
  conv=>lhs;rw[eY]
  rfl
 have e4:((i / f.x.toNat:Nat):Int).tdiv f.y=((i / f.x.toNat / f.y.toNat:Nat):Int):=by
  conv=>lhs;rw[eY]
  rfl
 have e4':((i / f.x.toNat:Nat):Int) / f.y=((i / f.x.toNat / f.y.toNat:Nat):Int):=by
  conv=>lhs;rw[eY]
  rfl
 have q1:i / f.x.toNat≤i:=Nat.div_le_self _ _;have q2:i / f.x.toNat / f.y.toNat≤i / f.x.toNat:=Nat.div_le_self _ _;have q3:i / f.x.toNat%f.y.toNat≤i / f.x.toNat:=Nat.mod_le _ _;have q4:i%f.x.toNat≤i:=Nat.mod_le _ _;have hx0:¬f.x=0:=by omega
 have hy0:¬f.y=0:=by omega
 generalize i / f.x.toNat=A at *
 generalize A / f.y.toNat=B at *
 generalize A%f.y.toNat=C at *
 generalize i%f.x.toNat=E at *
 have v1:=eW (n:=(A:Int)) (by omega);have v2:=eW (n:=(B:Int)) (by omega);have v3:=eW (n:=(C:Int)) (by omega);have v4:=eW (n:=(E:Int)) (by omega);simp[-length_flatMap,-map_take,hb,hv,hf,hw,hn,j5,e1,e2,e2',e3,e4,e4',hx0,hy0,v1,v2,v3,v4]
theorem FB{f:Rock.ej}(hf:f.valid=true){i k:Nat}(hi:(i:Int)<f.size)(hk:(k:Int)<f.size):bG T (.call false n9 [.agg [.int .i64 f.x,.int .i64 f.y,.int .i64 f.z,.int .i64 f.k],.int .i64 i,.int .i64 k] σ) =
  some (.val (.fj [.int .i64 (Rock.dst f.x.toNat f.y.toNat i k),.int .i64 0]) σ):=by
 refine aA AS pq.eq_1 rfl ?_;have h1:=fun σ=>C7 (σ:=σ) hf hi
 have h2:=fun σ=>C7 (σ:=σ) hf hk
 obtain⟨_,_,_,h4,_⟩:=Rock.ej.mu.1 hf;unfold Rock.dst Rock.ad;have a1:i / f.x.toNat≤i:=Nat.div_le_self _ _;have a2:i / f.x.toNat / f.y.toNat≤i / f.x.toNat:=Nat.div_le_self _ _;have a3:i / f.x.toNat%f.y.toNat≤i / f.x.toNat:=Nat.mod_le _ _;have a4:i%f.x.toNat≤i:=Nat.mod_le _ _;have b1:k / f.x.toNat≤k:=Nat.div_le_self _ _;have b2:k / f.x.toNat / f.y.toNat≤k / f.x.toNat:=Nat.div_le_self _ _;have b3:k / f.x.toNat%f.y.toNat≤k / f.x.toNat:=Nat.mod_le _ _;have b4:k%f.x.toNat≤k:=Nat.mod_le _ _;generalize i / f.x.toNat / f.y.toNat=A1 at *
 generalize i / f.x.toNat%f.y.toNat=A2 at *
 generalize i / f.x.toNat=A4 at *
 generalize i%f.x.toNat=A3 at *
 generalize k / f.x.toNat / f.y.toNat=B1 at *
 generalize k / f.x.toNat%f.y.toNat=B2 at *
 generalize k / f.x.toNat=B4 at *
 generalize k%f.x.toNat=B3 at *
 have w1:=eW (n:=(A1:Int)-B1) (by omega);have w2:=eW (n:=(A2:Int)-B2) (by omega);have w3:=eW (n:=(A3:Int)-B3) (by omega);have x1:=eW (n:=(B1:Int)-A1) (by omega);have x2:=eW (n:=(B2:Int)-A2) (by omega);have x3:=eW (n:=(B3:Int)-A3) (by omega);have y1:=eW (n:=max ((A3:Int)-B3) (B3-A3)+max ((A2:Int)-B2) (B2-A2)) (by omega);have y2:=eW (n:=max ((A3:Int)-B3) (B3-A3)+max ((A2:Int)-B2) (B2-A2)+max ((A1:Int)-B1) (B1-A1)) (by omega);simp[-length_flatMap,-map_take,h1,h2,w1,w2,w3,x1,x2,x3,y1,y2]
def XC:List jB:=[⟨0,1,4,9⟩]
theorem F3:rX 2 (fun u v=>if u=v then 0 else 9) XC:=by
 refine⟨by omega,by decide,by simp,?_,?_,?_,by simp[XC]⟩
 ·intro u v;split<;>omega
 ·intro u v;split<;>omega
 ·intro u v w;by_cases h1:u=v<;>by_cases h2:v=w<;>by_cases h3:u=w<;>simp[h1,h2,h3]<;>omega
theorem oH:bG T (.call false jT [] σ)=some (.val (.bool true) σ):=by
 obtain⟨K,P,Q,hK,hr⟩:=wZ (σ:=[]::σ) F3 (u:=0) (v:=1) (by omega) (by omega) (by simp);have h0:=hK.self 0 (by omega);have h1:=hK.self 1 (by omega);have hl:jU K 0 1 XC=(4,0):=by simp[jU,XC,hI,pJ,h0,h1]
 rw[hl]at hr;simp[XC]at hr;refine aA Cf rl.eq_1 rfl ?_;simp[-length_flatMap,-map_take,hr]
end Go.Proofs.YtcgippbplkagkaaGreat
namespace Go.Proofs.YtcgippbplkagkaaGreat
open List(length_flatMap map_take)
open Go Go.Abs Go.Rock
variable {σ:SK}
def tL(s:List Rock.aF):List D:=[.aE s.length (s.flatMap aF.enc)]
theorem Eb(l:List (List Rock.aF)):(l.flatMap tL).length=l.length:=by
 have:=j1 (f:=tL) (w:=1) (fun _=>rfl) l;omega
theorem Sv.next{b:bC}{m:bV}{s:List Rock.aF}{aD:List Int}(h:Bv b){s' y:List Rock.aF}(ht:tick b m s aD=some (s',y)):Sv b s':=by
 unfold tick at ht;split at ht
 ·rename_i hc;simp only[ae,ai]at ht;obtain⟨rfl,_⟩:=ht;exact(Sv.of h).1 hc
 ·cases ht
theorem Am{n:Nat}(h:n≤1000000):n*24≤room:=by unfold room;omega
theorem Lw(l:List (List Rock.aF)):D.bF (l.flatMap tL)=true:=mR (fun x=>by simp[tL,D.clean,xA]) l
def VT(b:bC)(m:bV)(σ:SK)(r:Option (List (List Rock.aF)×List (List Rock.aF)))(x:Abs.Exit)(e:Env)(σ':SK):Prop:=match r with
 |some (ss,ys)=>∃v u,x=.exit 0∧get e 4=.own 0 [.sl σ.length 2 v 0 ss.length 1,.sl σ.length 1 u 0 ys.length 1]∧σ'=[.cells 0 [],.cells u (ys.flatMap tL),.cells v (ss.flatMap tL)]::σ
 |none=>x=.eR (.o9 126 (.agg []))∧∃oE,σ'=oE::σ
theorem FO{b:bC}{m:bV}{plan:List (List Int)}(h:Fv b m)(hp:plan.length≤200)(hr:∀r∈plan,Rv b r):∀(k i v u:Nat) (ss ys:List (List Rock.aF)) (s:List Rock.aF),i+k=plan.length→ss.length=i+1→ys.length=i→ss[i]?=some s→Sv b s →
  WL T [2,4,14,15,16] false gN [(2,.aK [.int .i64 b.f.x,.int .i64 b.f.y,.int .i64 b.f.z,.int .i64 b.f.k,.aE b.bY.length (b.bY.flatMap Rw.enc),.int .i64 b.aS,.int .i64 b.lift,.int .i64 b.deep,.aE b.af.length (b.af.flatMap aT.enc),.str m.name,.aE m.aP.length (m.aP.flatMap bx)]),(4,.own 0 [.sl σ.length 2 v 0 (i+1) 1,.sl σ.length 1 u 0 i 1]),(14,.aE plan.length (plan.flatMap kK)),(15,.int .i64 plan.length),(16,.int .i64 i)]
   ([.cells 0 [],.cells u (ys.flatMap tL),.cells v (ss.flatMap tL)]::σ) (VT b m σ (lu b m ss ys s (plan.drop i)))
 |0,i,v,u,ss,ys,s,hi,h1,h2,h3,hs=>by
  refine aB gN.eq_1 ?_;obtain rfl:i=plan.length:=by omega
  have h5:plan.drop plan.length=[]:=az (by omega);simp[-length_flatMap,-map_take,h5,lu,VT];exact⟨v,u,by simp[h1,h2]⟩
 |k+1,i,v,u,ss,ys,s,hi,h1,h2,h3,hs=>by
  refine aB gN.eq_1 ?_;have hlt:i<plan.length:=by omega
  have hii:(i:Int)<i+1:=by omega
  obtain⟨r,hx⟩:=gE hlt;have h4:=db hlt (by omega);have h5:=cO hx;have a1:=cE (f:=kK) (w:=1) (fun _=>rfl) hx;simp only[kK,mc]at a1;have a2:=xN (f:=tL) (w:=1) (fun _=>rfl) h3;simp only[tL,mc,nf]at a2;have hT:=fun σ hσ=>T2 (σ:=σ) h hs (hr r (aj hx)) hσ
  rw[h5,lu];unfold JM at hT;cases ht:tick b m s r with
  |none =>
   rw[ht]at hT;simp only at hT;simp[-length_flatMap,-map_take,hlt,hii,h4,a1,a2,hT,kK,VT]
  |some p =>
   obtain⟨s',y⟩:=p;rw[ht]at hT;simp only at hT;have ih:=FO h hp hr k (i+1) (v+1) (u+1) (ss++[s']) (ys++[y]) s' (by omega) (by simp[h1]) (by simp[h2]) (by simp[← h1]) (Sv.next h.bv ht);have l1:=Eb ss;have l2:=Eb ys;rw[h1]at l1;rw[h2]at l2;have f1:(ss.flatMap tL).take (i+1)=ss.flatMap tL:=aq (by omega);have f2:(ys.flatMap tL).take i=ys.flatMap tL:=aq (by omega);have h7:=Am (n:=i+1) (by omega);have h8:=Am (n:=i+1+1) (by omega);simp[-length_flatMap,-map_take,hlt,hii,h4,a1,a2,hT,kK,f1,f2,l1,l2,h7,h8];exact WL.to ih (by simp) (by simp[tL]) fun x e σ hh=>hh
theorem Kp{b:bC}{m:bV}{plan:List (List Int)}(h:Fv b m)(hp:plan.length≤200)(hr:∀r∈plan,Rv b r)(hσ:σ≠[]){ss ys:List (List Rock.aF)}(hrun:Rock.run b m plan=some (ss,ys)):
  bG T (.call false fC [.agg [.int .i64 b.f.x,.int .i64 b.f.y,.int .i64 b.f.z,.int .i64 b.f.k,.aE b.bY.length (b.bY.flatMap Rw.enc),.int .i64 b.aS,.int .i64 b.lift,.int .i64 b.deep,.aE b.af.length (b.af.flatMap aT.enc),.str m.name,.aE m.aP.length (m.aP.flatMap bx)],.aE plan.length (plan.flatMap kK)] σ)=some (.val (.agg [.aE ss.length (ss.flatMap tL),.aE ys.length (ys.flatMap tL)]) σ):=by
 refine aA pg ix.eq_1 rfl ?_;have hf:=fun σ hσ=>yT (σ:=σ) h hσ
 simp only[stE]at hf;simp[-length_flatMap,-map_take,hf,bg,aH,aV];refine WL.to (FO (σ:=σ) h hp hr plan.length 0 0 0 [cS b m] [] (cS b m) (by omega) rfl rfl rfl (Sv.first h)) (by simp) (by simp[tL]) ?_;rw[aO,show lu b m [cS b m] [] (cS b m) plan=some (ss,ys)from hrun];rintro x e σ' ⟨v,u,rfl,g4,rfl⟩;simp[-length_flatMap,-map_take,g4];have c1:∀x:List Rock.aF,D.bF (tL x)=true:=fun x=>by simp[tL,D.clean,xA]
 rw[DK (by simp) (by omega)];simp only[vH,xJ];rw[qd (f:=tL) (w:=1) (l:=ss) (by decide) (fun _=>rfl) c1 hσ (by simp)];simp only[List.set_cons_succ,List.set_cons_zero];rw[qd (f:=tL) (w:=1) (l:=ys) (by decide) (fun _=>rfl) c1 hσ (by simp)];exact⟨_,rfl⟩
theorem Ko{b:bC}{m:bV}{plan:List (List Int)}(h:Fv b m)(hp:plan.length≤200)(hr:∀r∈plan,Rv b r)(hrun:Rock.run b m plan=none):
  bG T (.call false fC [.agg [.int .i64 b.f.x,.int .i64 b.f.y,.int .i64 b.f.z,.int .i64 b.f.k,.aE b.bY.length (b.bY.flatMap Rw.enc),.int .i64 b.aS,.int .i64 b.lift,.int .i64 b.deep,.aE b.af.length (b.af.flatMap aT.enc),.str m.name,.aE m.aP.length (m.aP.flatMap bx)],.aE plan.length (plan.flatMap kK)] σ)=some (.eR (.o9 126 (.agg [])) σ):=by
 refine vS pg ix.eq_1 rfl ?_;have hf:=fun σ hσ=>yT (σ:=σ) h hσ
 simp only[stE]at hf;simp[-length_flatMap,-map_take,hf,bg,aH,aV];refine WL.to (FO (σ:=σ) h hp hr plan.length 0 0 0 [cS b m] [] (cS b m) (by omega) rfl rfl rfl (Sv.first h)) (by simp) (by simp[tL]) ?_;rw[aO,show lu b m [cS b m] [] (cS b m) plan=none from hrun];rintro x e σ' ⟨rfl,oE,rfl⟩;simp[D.clean]
structure FW where
 m:Int
 h:Int
 s:Int
 g:Int
@[simp] def FW.enc(x:FW):List D:=[.int .i64 x.m,.int .i64 x.h,.int .i64 x.s,.int .i64 x.g]
def FW.valid(x:FW):Bool:=cK x.m 0 1000000 && (cK x.h 0 (4000*x.m) && (cK x.s 0 (10000*x.m) && cK x.g 0 1000000000))
def pL(r:Rw)(x:FW):Int:=if x.h-x.m*r.l≤0 then 0 else if x.m*r.v≤x.h then x.m else(x.h-x.m*r.l) / (r.v-r.l)
def Xe(r:Rw)(x:FW):Int×Int:=if pL r x=0 then(x.m,x.h)else if pL r x=x.m then(0,0)else(x.m-pL r x,x.h-pL r x*r.v)
def ab8(r:Rw)(x:FW):Int:=if pL r x=0 then 0 else if pL r x=x.m then x.h else pL r x*r.v
def aca(r:Rw)(x:FW):Int:=if pL r x=0 then x.g else 0
def ab7(r:Rw)(x:FW):Int:=if pL r x=0 then 0 else x.g
def held(r:Rw)(x:FW):Int:=min x.s ((Xe r x).1*r.s)
def parts(r:Rw)(x:FW):List D:=[.int .i64 (pL r x),.int .i64 (ab8 r x),.int .i64 0,.int .i64 (ab7 r x),.int .i64 (Xe r x).1,.int .i64 (Xe r x).2,.int .i64 (held r x),.int .i64 (aca r x),
 .int .i64 (if 0<(Xe r x).1 then max 0 ((Xe r x).2-(Xe r x).1*r.l)else 0),.int .i64 (x.s-held r x)]
structure Yv(b:bC)(y:List Rock.aF):Prop where
 len:y.length=b.af.length
 ok:∀o∈y,(0≤o.m∧o.m≤1000000)∧(0≤o.h∧o.h≤10000000000)∧(0≤o.k∧o.k≤1000000000000)
theorem Yv.of{b:bC}{s:List Rock.aF}{aD:List Int}(h:Bv b)(hs:Sv b s)(hr:Rv b aD):Yv b (ct b s aD):=by
 refine⟨by simp[ct,hr.len],?_⟩;intro o ho;simp only[ct,bp]at ho;obtain⟨⟨w,r⟩,hm,rfl⟩:=ho;have hw:=o6 h w (List.of_mem_zip hm).1;have hb:=hr.ok r (List.of_mem_zip hm).2;simp only[jv];split
 ·simp
 ·obtain⟨_,h1,h2,h3⟩:=hs.at (i:=w.b.toNat) (by omega);generalize aZ s w.b.toNat=x at *
  have h8:x.m.tdiv 8=x.m / 8:=bE (by omega);have hq:0≤min r (x.m.tdiv 8)∧min r (x.m.tdiv 8)≤x.m:=by omega
  exact⟨⟨hq.1,by simp only[Rock.aF.out];omega⟩,zr h1.1 h2 hq,zr h1.1 h3 hq⟩
theorem JN{b:bC}{m:bV}{s:List Rock.aF}{aD:List Int}{s' y:List Rock.aF}(h:Bv b)(hs:Sv b s)(hr:Rv b aD)(ht:tick b m s aD=some (s',y)):Sv b s'∧Yv b y:=by
 refine⟨Sv.next h ht,?_⟩;unfold tick at ht;split at ht
 ·simp only[ae,ai]at ht;rw[← ht.2];exact Yv.of h hs hr
 ·cases ht
structure Eo(b:bC)(n:Nat)(ss ys:List (List Rock.aF)):Prop where
 sl:ss.length=n+1
 yl:ys.length=n
 sv:∀s∈ss,Sv b s
 yv:∀y∈ys,Yv b y
theorem Eo.from{b:bC}{m:bV}(h:Fv b m):∀(plan:List (List Int)) (n:Nat) (ss ys:List (List Rock.aF)) (s:List Rock.aF) {ss' ys':List (List Rock.aF)},(∀r∈plan,Rv b r)→Eo b n ss ys→Sv b s→lu b m ss ys s plan=some (ss',ys')→Eo b (n+plan.length) ss' ys'
 |[],n,ss,ys,s,ss',ys',hr,h1,h2,he=>by
  simp only[lu,ae,ai]at he;obtain⟨rfl,rfl⟩:=he;exact h1
 |r::plan,n,ss,ys,s,ss',ys',hr,h1,h2,he=>by
  simp only[lu]at he;split at he
  ·rename_i s' y ht;obtain⟨g1,g2⟩:=JN h.bv h2 (hr r (List.mem_cons_self ..)) ht;have:=Eo.from h plan (n+1) _ _ _ (fun x hx=>hr x (List.mem_cons_of_mem _ hx)) (⟨by simp[h1.sl],by simp[h1.yl],by
    intro x hx;rcases aX.1 hx with hx | hx
    ·exact h1.sv x hx
    ·rw[List.mem_singleton.1 hx];exact g1,by
    intro x hx;rcases aX.1 hx with hx | hx
    ·exact h1.yv x hx
    ·rw[List.mem_singleton.1 hx];exact g2⟩:Eo b (n+1) (ss++[s']) (ys++[y])) g1 he
   rw[show n+(r::plan).length=n+1+plan.length by simp;omega];exact this
  ·cases he
theorem Eo.of{b:bC}{m:bV}{plan:List (List Int)}{ss ys:List (List Rock.aF)}(h:Fv b m)(hr:∀r∈plan,Rv b r)(he:Rock.run b m plan=some (ss,ys)):Eo b plan.length ss ys:=by
 have:=Eo.from h plan 0 _ _ _ hr (⟨rfl,rfl,by simpa using Sv.first h,by simp⟩:Eo b 0 [cS b m] []) (Sv.first h) he;simpa using this
theorem pU{α:Type}{p:α→Bool}{x:α}{l:List α}:eH (x::l) p=(p x && eH l p):=by simp[eH]
theorem iK{a b c:Int}:bG T (.call false cz [.int .i64 a,.int .i64 b,.int .i64 c] σ)=some (.val (.bool (cK a b c)) σ):=by
 refine aA Cc ri.eq_1 rfl ?_;by_cases h:b≤a<;>simp[-length_flatMap,-map_take,h,cK]
theorem w8{a b c:Int}:bG T (.call false jS [.int .i64 a,.int .i64 b,.int .i64 c] σ)=some (.val (.bool (cK a b c)) σ):=by
 refine aA Cd rj.eq_1 rfl ?_;by_cases h:b≤a<;>simp[-length_flatMap,-map_take,h,cK]
theorem J6{f:ej}(hx:1≤f.x∧f.x≤8)(hy:1≤f.y∧f.y≤8)(hz:1≤f.z∧f.z≤8):bG T (.call false gg [.agg [.int .i64 f.x,.int .i64 f.y,.int .i64 f.z,.int .i64 f.k]] σ)=some (.val (.int .i64 f.size) σ):=by
 refine aA zK ow.eq_1 rfl ?_;obtain⟨h1,h2⟩:=ej.sz hx hy hz;have w1:=eW (n:=f.x*f.y) (by omega);have w2:=eW (n:=f.x*f.y*f.z) (by omega);simp[-length_flatMap,-map_take,w1,w2,ej.size]
theorem rY{f:ej}(h:f.valid=true):bG T (.call false gg [.agg [.int .i64 f.x,.int .i64 f.y,.int .i64 f.z,.int .i64 f.k]] σ)=some (.val (.int .i64 f.size) σ):=by
 obtain⟨h1,h2,h3,h4,h5⟩:=ej.mu.1 h;exact J6 h1 h2 h3
theorem Fh{f:ej}:bG T (.call false lR [.agg [.int .i64 f.x,.int .i64 f.y,.int .i64 f.z,.int .i64 f.k]] σ)=some (.val (.bool f.valid) σ):=by
 refine aA yw nN.eq_1 rfl ?_;cases hc1:cK f.x 1 8
 ·simp[-length_flatMap,-map_take,w8,ej.valid,hc1]
 cases hc2:cK f.y 1 8
 ·simp[-length_flatMap,-map_take,w8,ej.valid,hc1,hc2]
 cases hc3:cK f.z 1 8
 ·simp[-length_flatMap,-map_take,w8,ej.valid,hc1,hc2,hc3]
 obtain⟨h1,h2⟩:=ej.sz (bD.1 hc1) (bD.1 hc2) (bD.1 hc3);have w1:=eW (n:=f.x*f.y) (by omega);have w2:=eW (n:=f.x*f.y*f.z) (by omega);by_cases hc4:f.x*f.y*f.z≤64
 ·simp[-length_flatMap,-map_take,w8,ej.valid,ej.size,hc1,hc2,hc3,hc4,w1,w2]
 ·simp[-length_flatMap,-map_take,w8,ej.valid,ej.size,hc1,hc2,hc3,hc4,w1,w2]
theorem Dd{s:List UInt8}(hl:s.length≤9223372036854775807):∀(m i:Nat),i+m=s.length →
  WL T [0,3] false lZ [(0,.str s),(3,.int .i64 i)] σ
   (fun x e σ'=>σ'=σ∧if j9 i (s.drop i)then x=.exit 0∧get e 0=.str s else x=.ret∧get e 2=.bool false)
 |0,i,hi=>by
  refine aB lZ.eq_1 ?_;have h1:¬i<s.length:=by omega
  have h2:s.drop i=[]:=az (by omega);have hp:wV .wL [.str s]=some (.int .i64 s.length):=rfl;simp[-length_flatMap,-map_take,h1,h2,hp,j9]
 |m+1,i,hi=>by
  refine aB lZ.eq_1 ?_;have h1:i<s.length:=by omega
  obtain⟨c,hc⟩:=gE h1;have h4:=db h1 (by omega);have h5:=cO hc;have ih:=Dd hl m (i+1) (by omega);have hp:wV .wL [.str s]=some (.int .i64 s.length):=rfl;rw[h5,j9];have hd:wV .sO [.str s,.int .i64 (i:Int)]=some (.int .u8 c.toNat):=by simp[wV,hc]
  by_cases hc1:97≤c.toNat
  ·by_cases hc2:c.toNat≤122
   ·have hlet:nA c=true:=by simp[nA,hc1,hc2]
    simp[-length_flatMap,-map_take,h1,h4,hd,hp,hlet,show(97:Int)≤(c.toNat:Int)by omega,show(c.toNat:Int)≤122 by omega];exact WL.to ih (by simp) rfl fun x e σ' hh=>by simpa[hlet]using hh
   ·have hlet:nA c=false:=by simp[nA,hc2]
    have hdig:digit c=false:=by simp[digit];omega
    by_cases hi0:i=0
    ·subst hi0;have hd0:wV .sO [.str s,.int .i64 0]=some (.int .u8 c.toNat):=by simpa using hd
     have h1':0<s.length:=h1;simp[-length_flatMap,-map_take,h1',h4,hd0,hp,hlet,hdig,show(97:Int)≤(c.toNat:Int)by omega,show ¬(c.toNat:Int)≤122 by omega]
    ·simp[-length_flatMap,-map_take,h1,h4,hd,hp,hlet,hdig,hi0,show(97:Int)≤(c.toNat:Int)by omega,show ¬(c.toNat:Int)≤122 by omega,show ¬(c.toNat:Int)<48 by omega,show(57:Int)<(c.toNat:Int)by omega,show(57:Nat)<c.toNat by omega,show ¬c.toNat<48 by omega]
  ·have hlet:nA c=false:=by simp[nA,hc1]
   by_cases hi0:i=0
   ·subst hi0;have hd0:wV .sO [.str s,.int .i64 0]=some (.int .u8 c.toNat):=by simpa using hd
    have h1':0<s.length:=h1;simp[-length_flatMap,-map_take,h1',h4,hd0,hp,hlet,show ¬(97:Int)≤(c.toNat:Int)by omega]
   ·by_cases hc3:c.toNat<48
    ·have hdig:digit c=false:=by simp[digit];omega
     simp[-length_flatMap,-map_take,h1,h4,hd,hp,hlet,hdig,hi0,show ¬(97:Int)≤(c.toNat:Int)by omega,show(c.toNat:Int)<48 by omega,hc3]
    ·by_cases hc4:57<c.toNat
     ·have hdig:digit c=false:=by simp[digit];omega
      simp[-length_flatMap,-map_take,h1,h4,hd,hp,hlet,hdig,hi0,show ¬(97:Int)≤(c.toNat:Int)by omega,show ¬(c.toNat:Int)<48 by omega,show(57:Int)<(c.toNat:Int)by omega,hc3,hc4]
     ·have hdig:digit c=true:=by simp[digit];omega
      simp[-length_flatMap,-map_take,h1,h4,hd,hp,hlet,hdig,hi0,show ¬(97:Int)≤(c.toNat:Int)by omega,show ¬(c.toNat:Int)<48 by omega,show ¬(57:Int)<(c.toNat:Int)by omega,hc3,hc4];exact WL.to ih (by simp) rfl fun x e σ' hh=>by simpa[hlet,hdig,hi0]using hh
theorem zF{s:List UInt8}(hl:s.length≤9223372036854775807):bG T (.call false mO [.str s] σ)=some (.val (.bool (named s)) σ):=by
 refine aA zJ ov.eq_1 rfl ?_;have hp:wV .wL [.str s]=some (.int .i64 s.length):=rfl;simp[-length_flatMap,-map_take];refine WL.to (Dd (σ:=[]::σ) hl s.length 0 (by omega)) (by simp) rfl ?_;rintro x e σ' ⟨rfl,h⟩;simp only[aO]at h;unfold named;cases hc:j9 0 s
 ·simp[hc]at h;simp[h]
 ·simp[hc]at h;obtain⟨rfl,g0⟩:=h;by_cases h1:1≤s.length
  ·by_cases h2:s.length≤16
   ·simp[-length_flatMap,-map_take,g0,hp,cK,show(1:Int)≤s.length by omega,show(s.length:Int)≤16 by omega]
   ·simp[-length_flatMap,-map_take,g0,hp,cK,show(1:Int)≤s.length by omega,show ¬(s.length:Int)≤16 by omega]
  ·simp[-length_flatMap,-map_take,g0,hp,cK,show ¬(1:Int)≤s.length by omega]
theorem AK{f:ej}{m:bV}(hl:m.aP.length≤9223372036854775807):∀(k i:Nat),i+k=m.aP.length →
  WL T [3,5] false fW [(3,.aK [.str m.name,.aE m.aP.length (m.aP.flatMap bx)]),(5,.int .i64 i)] σ
   (fun x e σ'=>σ'=σ∧if eH (m.aP.drop i) (fun n=>cK n (-100000) 100000)then x=.exit 0 else x=.ret∧get e 4=.int .i64 1)
 |0,i,hi=>by
  refine aB fW.eq_1 ?_;have h1:¬i<m.aP.length:=by omega
  have h2:m.aP.drop i=[]:=az (by omega);simp[-length_flatMap,-map_take,h1,h2,eH]
 |k+1,i,hi=>by
  refine aB fW.eq_1 ?_;have h1:i<m.aP.length:=by omega
  obtain⟨c,hc⟩:=gE h1;have h2:=nS hc;have h4:=db h1 (by omega);have h5:=cO hc;have ih:=AK (f:=f) hl k (i+1) (by omega);rw[h5,pU];cases hb:cK c (-100000) 100000
  ·simp[-length_flatMap,-map_take,h1,h2,h4,w8,hb]
  ·simp[-length_flatMap,-map_take,h1,h2,h4,w8,hb];exact WL.to ih (by simp) rfl fun x e σ' hh=>by simpa[hb]using hh
theorem AH{f:ej}{m:bV}(hf:f.valid=true)(hn:m.name.length≤9223372036854775807)(hl:m.aP.length≤9223372036854775807):bG T (.call false eI [.agg [.int .i64 f.x,.int .i64 f.y,.int .i64 f.z,.int .i64 f.k],.agg [.str m.name,.aE m.aP.length (m.aP.flatMap bx)]] σ)=some (.val (.int .i64 (f.model m)) σ):=by
 refine aA tP jE.eq_1 rfl ?_;obtain⟨h6,h7⟩:=xV hf;have w1:=eW (n:=f.k*f.size) (by omega);have hb:=fun σ=>rY (σ:=σ) (f:=f) hf
 cases hc1:named m.name
 ·simp[-length_flatMap,-map_take,zF hn,hc1,ej.model]
 ·by_cases hc2:(m.aP.length:Int)=f.k*f.size
  ·simp[-length_flatMap,-map_take,zF hn,hc1,hc2,hb,w1,aV];refine WL.to (AK (σ:=[]::σ) (f:=f) (m:=m) hl m.aP.length 0 (by omega)) (by simp) (by simp) ?_;rintro x e σ' ⟨rfl,h⟩;simp only[aO]at h;cases hc3:eH m.aP (fun n=>cK n (-100000) 100000)
   ·simp[hc3]at h;simp[h,ej.model,hc1,hc2,hc3]
   ·simp[hc3]at h;simp[-length_flatMap,-map_take,h,ej.model,hc1,hc2,hc3]
  ·simp[-length_flatMap,-map_take,zF hn,hc1,hc2,ej.model,hb,w1]
def Ak:Option Rw→Rw→Bool
 |some o,r=>o.od r
 |none,_=>true
def rH(o:Option Rw):List Rw→Bool
 |[]=>true
 |r::l=>r.alone && (Ak o r && rH (some r) l)
theorem sM{o:Option Rw}{r:Rw}{l:List Rw}:rH o (r::l)=(r.alone && (Ak o r && rH (some r) l)):=rfl
theorem BK(l:List Rw):∀o,rH (some o) l=(eH l Rw.alone && mV (o::l)):=by
 induction l with
 |nil=>intro o;simp[rH,eH,mV]
 |cons r l ih =>
  intro o;rw[sM,ih,pU,mV];show(r.alone && (o.od r && (eH l Rw.alone && mV (r::l))))=(r.alone && eH l Rw.alone && (o.od r && mV (r::l)))
  cases r.alone<;>cases o.od r<;>cases eH l Rw.alone<;>simp
theorem BJ(l:List Rw):rH none l=(eH l Rw.alone && mV l):=by
 cases l with
 |nil=>simp[rH,eH,mV]
 |cons r l=>rw[sM,BK,pU];cases r.alone<;>rfl
def F2(t:List Rw):Nat→Option Rw
 |0=>none
 |i+1=>t[i]?
theorem AO{t:List Rw}(hl:t.length≤9223372036854775807):∀(m i:Nat),i+m=t.length →
  WL T [0,3] false lg [(0,.aE t.length (t.flatMap Rw.enc)),(3,.int .i64 i)] σ
   (fun x e σ'=>σ'=σ∧if rH (F2 t i) (t.drop i)then x=.exit 0∧get e 0=.aE t.length (t.flatMap Rw.enc)else x=.ret∧get e 2=.bool false)
 |0,i,hi=>by
  refine aB lg.eq_1 ?_;have h1:¬i<t.length:=by omega
  have h2:t.drop i=[]:=az (by omega);simp[-length_flatMap,-map_take,h1,h2,rH]
 |m+1,i,hi=>by
  refine aB lg.eq_1 ?_;have h1:i<t.length:=by omega
  obtain⟨r,hr⟩:=gE h1;have h2:=cE (f:=Rw.enc) (w:=5) (fun _=>rfl) hr;have h4:=db h1 (by omega);have h5:=cO hr;have ih:=AO hl m (i+1) (by omega);rw[show F2 t (i+1)=some r from hr]at ih;rw[h5,sM];cases c1:cK r.t 0 400
  ·simp[-length_flatMap,-map_take,h1,h2,h4,iK,c1,Rw.alone]
  cases c2:cK r.p 1 10000
  ·simp[-length_flatMap,-map_take,h1,h2,h4,iK,c1,c2,Rw.alone]
  cases c3:cK r.l 0 4000
  ·simp[-length_flatMap,-map_take,h1,h2,h4,iK,c1,c2,c3,Rw.alone]
  cases c4:cK r.s 0 2000
  ·simp[-length_flatMap,-map_take,h1,h2,h4,iK,c1,c2,c3,c4,Rw.alone]
  by_cases c5:r.l<r.v
  rotate_left
  ·simp[-length_flatMap,-map_take,h1,h2,h4,iK,c1,c2,c3,c4,c5,show r.v≤r.l by omega,Rw.alone]
  have c5':¬r.v≤r.l:=by omega
  by_cases c6:r.v≤4000
  rotate_left
  ·simp[-length_flatMap,-map_take,h1,h2,h4,iK,c1,c2,c3,c4,c5,c5',c6,show 4000<r.v by omega,Rw.alone]
  have c6':¬4000<r.v:=by omega
  have ha:r.alone=true:=by simp[Rw.alone,c1,c2,c3,c4,c5,c6]
  rw[ha];cases i with
  |zero =>
   rw[show Ak (F2 t 0) r=true from rfl];have h2':(t.flatMap Rw.enc).take 5=[.int .i64 r.t,.int .i64 r.p,.int .i64 r.l,.int .i64 r.v,.int .i64 r.s]:=by simpa using h2
   have h1':0<t.length:=by omega
   have hr0:t[0]?=some r:=hr;simp[-length_flatMap,-map_take,h1',h2',h4,iK,c1,c2,c3,c4,c5,c5',c6,c6'];exact WL.to ih (by simp) (by simp) fun x e σ' hh=>by simpa[hr0]using hh
  |succ j =>
   obtain⟨o,ho⟩:∃r,t[j]?=some r:=gE (by omega);have h3:=cE (f:=Rw.enc) (w:=5) (fun _=>rfl) ho;rw[show F2 t (j+1)=some o from ho,show Ak (some o) r=o.od r from rfl];have w1:=eW (n:=(j:Int)) (by omega);have w2:=eW (n:=(j:Int)+1+1) (by omega);have hj:j<t.length:=by omega
   have e1:(j:Int)+1-1=j:=by omega
   have hA:(j:Int)+1<(t.length:Int):=by omega
   have hB:(0:Int)≤(j:Int)+1:=by omega
   have hC:((j:Int)+1).toNat=j+1:=by omega
   have hD:(0:Int)<(j:Int)+1:=by omega
   by_cases d1:r.t≤o.t
   ·simp[-length_flatMap,-map_take,h1,h2,h3,h4,iK,c1,c2,c3,c4,c5,c5',c6,c6',e1,w1,hj,hA,hB,hC,hD,d1,Rw.od]
   by_cases d2:r.p≤o.p
   ·simp[-length_flatMap,-map_take,h1,h2,h3,h4,iK,c1,c2,c3,c4,c5,c5',c6,c6',e1,w1,hj,hA,hB,hC,hD,d1,d2,Rw.od]
   by_cases d3:r.l≤o.l
   ·simp[-length_flatMap,-map_take,h1,h2,h3,h4,iK,c1,c2,c3,c4,c5,c5',c6,c6',e1,w1,hj,hA,hB,hC,hD,d1,d2,d3,Rw.od]
   by_cases d4:r.s<o.s
   ·simp[-length_flatMap,-map_take,h1,h2,h3,h4,iK,c1,c2,c3,c4,c5,c5',c6,c6',e1,w1,hj,hA,hB,hC,hD,d1,d2,d3,d4,Rw.od]
   have hrs:o.od r=true:=by simp[Rw.od,d1,d2,d3,d4]
   simp[-length_flatMap,-map_take,h1,h2,h3,h4,iK,c1,c2,c3,c4,c5,c5',c6,c6',e1,w1,hj,hA,hB,hC,hD,d1,d2,d3,d4,hrs,w2];exact WL.to ih (by simp) (by simp[w2]) fun x e σ' hh=>by simpa[hrs]using hh
theorem Fk{t:List Rw}(hl:t.length≤9223372036854775807):bG T (.call false lQ [.aE t.length (t.flatMap Rw.enc)] σ)=some (.val (.bool (oq t)) σ):=by
 refine aA yu nM.eq_1 rfl ?_;simp[-length_flatMap,-map_take];refine WL.to (AO (σ:=[]::σ) hl t.length 0 (by omega)) (by simp) rfl ?_;rintro x e σ' ⟨rfl,h⟩;simp only[aO,F2,BJ]at h;unfold oq;cases hc:(eH t Rw.alone && mV t)
 ·simp[hc]at h;simp[h]
 ·simp only[hc,if_true]at h;obtain⟨rfl,g0⟩:=h;by_cases h1:2≤t.length
  ·by_cases h2:t.length≤20
   ·simp[-length_flatMap,-map_take,g0,cK,show(2:Int)≤t.length by omega,show(t.length:Int)≤20 by omega,h1,h2]
   ·simp[-length_flatMap,-map_take,g0,cK,show(2:Int)≤t.length by omega,show ¬(t.length:Int)≤20 by omega,h1,h2]
  ·simp[-length_flatMap,-map_take,g0,cK,show ¬(2:Int)≤t.length by omega,h1]
theorem AL{l:List Int}(hl:l.length≤9223372036854775807):∀(k i:Nat),i+k=l.length →
  WL T [1,5] false gK [(1,.aE l.length (l.flatMap bx)),(5,.int .i64 i)] σ
   (fun x e σ'=>σ'=σ∧if eH (l.drop i) (fun n=>cK n (-100000) 100000)then x=.exit 0 else x=.ret∧get e 4=.int .i64 2)
 |0,i,hi=>by
  refine aB gK.eq_1 ?_;have h1:¬i<l.length:=by omega
  have h2:l.drop i=[]:=az (by omega);simp[-length_flatMap,-map_take,h1,h2,eH]
 |k+1,i,hi=>by
  refine aB gK.eq_1 ?_;have h1:i<l.length:=by omega
  obtain⟨c,hc⟩:=gE h1;have h2:=nS hc;have h4:=db h1 (by omega);have h5:=cO hc;have ih:=AL hl k (i+1) (by omega);rw[h5,pU];cases hb:cK c (-100000) 100000
  ·simp[-length_flatMap,-map_take,h1,h2,h4,iK,hb]
  ·simp[-length_flatMap,-map_take,h1,h2,h4,iK,hb];exact WL.to ih (by simp) rfl fun x e σ' hh=>by simpa[hb]using hh
theorem Fj{b:bC}{l:List Int}(hl:l.length≤9223372036854775807):bG T (.call false gB [.agg [.int .i64 b.f.x,.int .i64 b.f.y,.int .i64 b.f.z,.int .i64 b.f.k,.aE b.bY.length (b.bY.flatMap Rw.enc),.int .i64 b.aS,.int .i64 b.lift,.int .i64 b.deep,.aE b.af.length (b.af.flatMap aT.enc)],.aE l.length (l.flatMap bx)] σ)=some (.val (.int .i64 (kf b l)) σ):=by
 refine aA tQ jF.eq_1 rfl ?_;unfold kf;by_cases hc1:l.length=b.af.length
 ·simp[-length_flatMap,-map_take,hc1,bg,aH];rw[← hc1];refine WL.to (AL (σ:=[]::σ) hl l.length 0 (by omega)) (by simp) (by simp) ?_;rintro x e σ' ⟨rfl,h⟩;simp only[aO]at h;cases hc2:eH l (fun n=>cK n (-100000) 100000)
  ·simp[hc2]at h;simp[h]
  ·simp[hc2]at h;simp[-length_flatMap,-map_take,h]
 ·simp[-length_flatMap,-map_take,hc1,show ¬(l.length:Int)=b.af.length by omega,bg,aH]
theorem De{b:bC}{plan:List (List Int)}(hl:plan.length≤9223372036854775807)(hs:∀l∈plan,l.length≤9223372036854775807):∀(m i:Nat),i+m=plan.length →
  WL T [1,2,5] false iu [(1,.aE plan.length (plan.flatMap kK)),(2,.aK [.int .i64 b.f.x,.int .i64 b.f.y,.int .i64 b.f.z,.int .i64 b.f.k,.aE b.bY.length (b.bY.flatMap Rw.enc),.int .i64 b.aS,.int .i64 b.lift,.int .i64 b.deep,.aE b.af.length (b.af.flatMap aT.enc)]),(5,.int .i64 i)] σ
   (fun x e σ'=>σ'=σ∧if gf (kf b) (plan.drop i)=0 then x=.exit 0 else x=.ret∧get e 4=.int .i64 (gf (kf b) (plan.drop i)))
 |0,i,hi=>by
  refine aB iu.eq_1 ?_;have h1:¬i<plan.length:=by omega
  have h2:plan.drop i=[]:=az (by omega);simp[-length_flatMap,-map_take,h1,h2,gf]
 |m+1,i,hi=>by
  refine aB iu.eq_1 ?_;have h1:i<plan.length:=by omega
  obtain⟨l,hx⟩:=gE h1;have h2:=cE (f:=kK) (w:=1) (fun _=>rfl) hx;simp only[kK,mc]at h2;have h4:=db h1 (by omega);have h5:=cO hx;have hC:=fun σ=>Fj (σ:=σ) (b:=b) (l:=l) (hs l (aj hx))
  rw[h5,gf];have ih:=De (b:=b) hl hs m (i+1) (by omega);by_cases hc:kf b l=0
  ·simp[-length_flatMap,-map_take,h1,h2,h4,hC,hc,kK];exact WL.to ih (by simp[kK]) rfl fun x e σ' hh=>by simpa[hc]using hh
  ·simp[-length_flatMap,-map_take,h1,h2,h4,hC,hc,kK]
theorem J5{b:bC}{plan:List (List Int)}(hl:plan.length≤9223372036854775807)(hs:∀l∈plan,l.length≤9223372036854775807):
  bG T (.call false iE [.agg [.int .i64 b.f.x,.int .i64 b.f.y,.int .i64 b.f.z,.int .i64 b.f.k,.aE b.bY.length (b.bY.flatMap Rw.enc),.int .i64 b.aS,.int .i64 b.lift,.int .i64 b.deep,.aE b.af.length (b.af.flatMap aT.enc)],.aE plan.length (plan.flatMap kK)] σ)=some (.val (.int .i64 (sG b plan)) σ):=by
 refine aA uD kr.eq_1 rfl ?_;unfold sG;by_cases hc:200<plan.length
 ·simp[-length_flatMap,-map_take,hc,show(200:Int)<plan.length by omega,bg,aH]
 ·simp[-length_flatMap,-map_take,hc,show ¬(200:Int)<plan.length by omega,bg,aH];refine WL.to (De (σ:=[]::σ) (b:=b) hl hs plan.length 0 (by omega)) (by simp) (by simp) ?_;rintro x e σ' ⟨rfl,h⟩;simp only[aO]at h;by_cases hc2:gf (kf b) plan=0
  ·rw[if_pos hc2]at h;subst h;simp[-length_flatMap,-map_take,hc2,show plan.length≤200 by omega]
  ·rw[if_neg hc2]at h;obtain⟨rfl,h⟩:=h;simp[h,show ¬200<plan.length by omega]
end Go.Proofs.YtcgippbplkagkaaGreat
