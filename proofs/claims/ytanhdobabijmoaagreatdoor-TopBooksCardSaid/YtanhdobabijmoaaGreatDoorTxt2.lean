import Derived.Test.YtanhdobabijmoaaGreatDoorTxt1
set_option linter.all false
set_option maxRecDepth 100000
namespace Go.Proofs.YtanhdobabijmoaaGreatDoor
open List(length_flatMap map_take)
section
open Go Go.aA Go.aI
variable {J:SK}
theorem W5{b:cp}{j:Nat}{w:bJ}(h:b.an[j]?=some w):((b.an.flatMap bJ.enc).drop (j*3)).take 3=[.int .i64 w.b,.int .i64 w.h,.int .i64 w.m] :=
 bX (f:=bJ.enc) (w:=3) (λ_=>rfl) h
theorem Qb{b:cp}{m:bE}{s s1:List aI.aO}{aW:List Int}{A FL X Y Z W:aA.aO}(h:Fv b m)(hs:Sv b s)(hr:Rv b aW)(hb:CX 500000000000000 s1)(hl1:s1.length=s.length):∀(k j v:Nat),j+k=aW.length ->
  WL T [1,3,9,12,41,42,43] false gJ [(1,.aJ s.length (s.flatMap aO.enc)),(3,.bq [.int .i64 b.f.x,.int .i64 b.f.y,.int .i64 b.f.z,.int .i64 b.f.k,.aJ b.cn.length (b.cn.flatMap Rw.enc),.int .i64 b.bL,.int .i64 b.lift,.int .i64 b.deep,.aJ b.an.length (b.an.flatMap bJ.enc),.str m.name,.aJ m.aU.length (m.aU.flatMap aM)]),(9,.sl J.length 1 1 0 s.length 3),(12,.sl J.length 7 v 0 j 3),(41,.aJ aW.length (aW.flatMap aM)),(42,.int .i64 aW.length),(43,.int .i64 j)]
   ([A,.cells 1 ((ez b s s1 aW j).flatMap aO.enc),FL,X,Y,Z,W,.cells v (((dR b s aW).take j).flatMap aO.enc)]::J)
   (λx e J'=>x=.exit 2/\get e 3=.bq [.int .i64 b.f.x,.int .i64 b.f.y,.int .i64 b.f.z,.int .i64 b.f.k,.aJ b.cn.length (b.cn.flatMap Rw.enc),.int .i64 b.bL,.int .i64 b.lift,.int .i64 b.deep,.aJ b.an.length (b.an.flatMap bJ.enc),.str m.name,.aJ m.aU.length (m.aU.flatMap aM)]/\get e 9=.sl J.length 1 1 0 s.length 3/\get e 12=.sl J.length 7 (v+k) 0 aW.length 3 /\
    J'=[A,.cells 1 ((ez b s s1 aW aW.length).flatMap aO.enc),FL,X,Y,Z,W,.cells (v+k) ((dR b s aW).flatMap aO.enc)]::J)
 |0,j,v,hj=>by
  refine aH gJ.eq_1 ?_;obtain rfl:j=aW.length:=by omega
  have hyl:(dR b s aW).length=aW.length:=by simp[dR,hr.len]
  have h3:(dR b s aW).take aW.length=dR b s aW:=af (by omega);simp[-length_flatMap,-map_take,h3,cG,bA,bh]
 |k+1,j,v,hj=>by
  refine aH gJ.eq_1 ?_;have h1:j<aW.length:=by omega
  have hwl:=h.bv.an;have hrl:=hr.len;obtain⟨r,hr2⟩:∃r,aW[j]?=some r:=gE (by omega);obtain⟨w,hw1⟩:∃w,b.an[j]?=some w:=gE (by omega);have hw:=Ji h.bv w (ai hw1);have hrr:=hr.ok r (ai hr2);have hwn:w.b.toNat<b.n:=by omega
  have hlen:=hs.len;obtain⟨x0,m1,m2,m3⟩:=hs.at (i:=w.b.toNat) hwn;obtain⟨ib,il⟩:=BF h.bv hs hr hb j (by omega);obtain⟨x1,y1⟩:=Ik ib (i:=w.b.toNat) (by omega);have h4:=dJ h1;have a1:=W5 hw1;have a2:=lU hr2;have a3:=bX (f:=aO.enc) (w:=3) (λ_=>rfl) x0;have hy:=VR (s:=s) hw1 hr2;have f3:=F7 (f:=aO.enc) hy;have hyl:(dR b s aW).length=aW.length:=by simp[dR,hr.len]
  have f4:=Hn ((dR b s aW).take j);rw[fT,hyl,Nat.min_eq_left (by omega)]at f4;have f6:(((dR b s aW).take j).flatMap aO.enc).take (j*3)=((dR b s aW).take j).flatMap aO.enc:=af (by omega);have h7:(j+1)*24<=room:=by unfold room;omega
  have ih:=Qb (A:=A) (FL:=FL) (X:=X) (Y:=Y) (Z:=Z) (W:=W) h hs hr hb hl1 k (j+1) (v+1) (by omega);have hsucc:=FC (s:=s) (s1:=s1) hw1 hr2;have hB0:(0:Int)<=w.b:=hw.1.1;have hB1:w.b<(s.length:Int):=by omega
  have hjw:j<b.an.length:=by omega
  have d2:=bC (b:=8) (show 0<=(bZ s w.b.toNat).m by omega);by_cases hc:r<0
  .have hg:=λJ=>Wf (J:=J) hrr hw.2.1 hw.2.2
   have hM:∀V,lim T (.call false 262 [.ref J.length 1 1 (w.b.toNat*3),.agg [.int .i64 (w.given r).m,.int .i64 (w.given r).h,.int .i64 (w.given r).k],.int .i64 1] ([A,.cells 1 ((ez b s s1 aW j).flatMap aO.enc),FL,X,Y,Z,W,V]::J)) =
     some (.val (.db []) ([A,.cells 1 ((ez b s s1 aW (j+1)).flatMap aO.enc),FL,X,Y,Z,W,V]::J)):=by
    intro V;rw[hsucc,vn,if_pos hc];exact HI (F:=[A,.cells 1 ((ez b s s1 aW j).flatMap aO.enc),FL,X,Y,Z,W,V]) (j:=1) rfl x1 (jU y1 (by omega)) (jU (Ni hrr hw.2.1 hw.2.2) (by omega)) (.inl rfl)
   have hwy:sS s w r=⟨0,0,0⟩:=by simp[sS,hc]
   rw[hwy]at f3;simp only[bJ.enc,aO.enc]at hg;simp[-length_flatMap,-map_take,h1,h4,a1,a2,a3,f4,f6,h7,hB0,hB1,hjw,hc,hg,hM,cG,bA,bh];refine WL.to ih (by simp[cG,bA,bh]) (by simp[<- f3]) λx e J hh=>by simpa[di,Nat.add_comm 1 k]using hh
  .have w7:=eQ (n:=(bZ s w.b.toNat).m.tdiv 8) (by rw[d2];omega);have hO:=λJ=>Tj (J:=J) (q:=min r ((bZ s w.b.toNat).m.tdiv 8)) m1 m2 m3 ⟨by rw[d2];omega,by rw[d2];omega⟩
   have hos:=Pl (q:=min r ((bZ s w.b.toNat).m.tdiv 8)) m1 m2 m3 ⟨by rw[d2];omega,by rw[d2];omega⟩;have hwy:sS s w r=(bZ s w.b.toNat).out (min r ((bZ s w.b.toNat).m.tdiv 8)):=by simp[sS,hc]
   have hsucc':ez b s s1 aW (j+1)=gT (ez b s s1 aW j) w.b.toNat ((bZ s w.b.toNat).out (min r ((bZ s w.b.toNat).m.tdiv 8))) (-1):=by
    rw[hsucc,vn,if_neg hc,hwy]
   rw[hwy]at f3;generalize hQ:min r ((bZ s w.b.toNat).m.tdiv 8)=Q at *
   generalize (bZ s w.b.toNat).out Q=O at *
   have hM:∀V,lim T (.call false 262 [.ref J.length 1 1 (w.b.toNat*3),.agg [.int .i64 O.m,.int .i64 O.h,.int .i64 O.k],.int .i64 (-1)] ([A,.cells 1 ((ez b s s1 aW j).flatMap aO.enc),FL,X,Y,Z,W,V]::J)) =
     some (.val (.db []) ([A,.cells 1 ((ez b s s1 aW (j+1)).flatMap aO.enc),FL,X,Y,Z,W,V]::J)):=by
    intro V;rw[hsucc'];exact HI (F:=[A,.cells 1 ((ez b s s1 aW j).flatMap aO.enc),FL,X,Y,Z,W,V]) (j:=1) rfl x1 (jU y1 (by omega)) (jU hos (by omega)) (.inr rfl)
   simp only[aO.enc]at hO;simp[-length_flatMap,-map_take,h1,h4,a1,a2,a3,f4,f6,h7,hB0,hB1,hjw,hc,w7,hQ,hO,hM,cG,bA,bh];refine WL.to ih (by simp[cG,bA,bh]) (by simp[<- f3]) λx e J hh=>by simpa[di,Nat.add_comm 1 k]using hh
theorem TG{b:cp}{m:bE}{s2:List aI.aO}{A FL X Y Z W V:aA.aO}{d12:D}(h:Fv b m)(hb:CX 600000000000000 s2)(hl2:s2.length=b.n)(hd:d12.strip=d12/\d12.calm=d12):∀(k i:Nat),i+k=b.n ->
  WL T [3,9,12,93,94] false gK [(3,.bq [.int .i64 b.f.x,.int .i64 b.f.y,.int .i64 b.f.z,.int .i64 b.f.k,.aJ b.cn.length (b.cn.flatMap Rw.enc),.int .i64 b.bL,.int .i64 b.lift,.int .i64 b.deep,.aJ b.an.length (b.an.flatMap bJ.enc),.str m.name,.aJ m.aU.length (m.aU.flatMap aM)]),(9,.sl J.length 1 1 0 b.n 3),(12,d12),(93,.int .i64 b.n),(94,.int .i64 i)]
   ([A,.cells 1 ((mg b m s2 i).flatMap aO.enc),FL,X,Y,Z,W,V]::J)
   (λx e J'=>x=.exit 4/\get e 3=.bq [.int .i64 b.f.x,.int .i64 b.f.y,.int .i64 b.f.z,.int .i64 b.f.k,.aJ b.cn.length (b.cn.flatMap Rw.enc),.int .i64 b.bL,.int .i64 b.lift,.int .i64 b.deep,.aJ b.an.length (b.an.flatMap bJ.enc),.str m.name,.aJ m.aU.length (m.aU.flatMap aM)]/\get e 9=.sl J.length 1 1 0 b.n 3/\get e 12=d12/\J'=[A,.cells 1 ((mg b m s2 b.n).flatMap aO.enc),FL,X,Y,Z,W,V]::J)
 |0,i,hi=>by
  refine aH gK.eq_1 ?_;obtain rfl:i=b.n:=by omega
  simp[-length_flatMap,-map_take,hd,cG,bA,bh]
 |k+1,i,hi=>by
  refine aH gK.eq_1 ?_;have h1:i<b.n:=by omega
  have hn:=h.bv.n;have h4:=dJ h1;have hf:=λJ=>acP (J:=J) h h1
  have ih:=TG (A:=A) (FL:=FL) (X:=X) (Y:=Y) (Z:=Z) (W:=W) (V:=V) h hb hl2 hd k (i+1) (by omega);have ib:=Kl h hb i (by omega);obtain⟨x1,y1⟩:=Ik ib (i:=i) (by rw[Bg,hl2];omega);have hM:lim T (.call false 262 [.ref J.length 1 1 (i*3),.agg [.int .i64 (O2 b m i).m,.int .i64 (O2 b m i).h,.int .i64 (O2 b m i).k],.int .i64 1] ([A,.cells 1 ((mg b m s2 i).flatMap aO.enc),FL,X,Y,Z,W,V]::J)) =
    some (.val (.db []) ([A,.cells 1 ((mg b m s2 (i+1)).flatMap aO.enc),FL,X,Y,Z,W,V]::J)):=by
   rw[Cx];exact HI (F:=[A,.cells 1 ((mg b m s2 i).flatMap aO.enc),FL,X,Y,Z,W,V]) (j:=1) rfl x1 (jU y1 (by omega)) (jU (Ud h h1) (by omega)) (.inl rfl)
  simp only[aO.enc]at hf;simp[-length_flatMap,-map_take,h1,h4,hf,hM,hd,cG,bA,bh];refine WL.to ih (by simp[hd,cG,bA,bh]) rfl λx e J hh=>hh
theorem QT{b:cp}{m:bE}{s:List aI.aO}{aW:List Int}(hr:Rv b aW)(hl:s.length=b.n):mg b m (ez b s ((wR b m s).foldl eo s) aW aW.length) b.n=Ek b m s aW:=by
 have:(b.an.zip aW).take aW.length=b.an.zip aW:=af (by rw[List.length_zip];omega);simp only[Ek,mg,ez,this,hl]
theorem RV{b:cp}{m:bE}{s:List aI.aO}(h:Fv b m)(hs:Sv b s):CX 500000000000000 ((wR b m s).foldl eo s)/\((wR b m s).foldl eo s).length=s.length:=by
 obtain⟨h1,h2⟩:=Nc (m:=m) h.bv hs;have key:∀(es:List ((Nat×Nat)×aI.aO)) (s:List aI.aO) (N:Int),(∀e∈es,SO b e)->CX N s->CX (N+2000000000000*es.length) (es.foldl eo s)/\(es.foldl eo s).length=s.length:=by
  intro es;induction es with
  |nil=>intro s N _ h;exact⟨by simpa using h,rfl⟩
  |cons e es ih =>
   intro s N he hb;obtain⟨a1,a2⟩:=ih (eo s e) _ (λx hx=>he x (by simp[hx])) (Na hb (he e (by simp)));simp only[List.foldl_cons,av];exact⟨λx hx=>jU (a1 x hx) (by push_cast;omega),by rw[a2,Nb]⟩
 obtain⟨a1,a2⟩:=key _ s _ h1 hs.CX;exact⟨λx hx=>jU (a1 x hx) (by omega),a2⟩
theorem ZP{b:cp}{m:bE}{s s1:List aI.aO}{aW:List Int}{A FL X Y Z W:aA.aO}(h:Fv b m)(hs:Sv b s)(hr:Rv b aW)(hb:CX 500000000000000 s1)(hl1:s1.length=s.length):
  WC (lim T) eW ((25,.bool false)::(24,.undef)::JE b m s aW J.length) ([A,.cells 1 (s1.flatMap aO.enc),FL,X,Y,Z,W]::J) λx e J' =>
   x=.ret/\J'=[A,.cells 1 ((mg b m (ez b s s1 aW aW.length) b.n).flatMap aO.enc),FL,X,Y,Z,W,.cells aW.length ((dR b s aW).flatMap aO.enc)]::J /\
   (if zD b (mg b m (ez b s s1 aW aW.length) b.n)=true then get e 6=.sl J.length 1 1 0 b.n 3/\get e 7=.sl J.length 7 aW.length 0 aW.length 3/\get e 8=.int .i64 0
    else get e 6=.bP/\get e 7=.bP/\get e 8=.int .i64 9):=by
 have hl:=hs.len;have hn:=h.bv.n;have hwl:=h.bv.an;have hrl:=hr.len;obtain⟨wb,wl⟩:=BF h.bv hs hr hb aW.length (aL _);have fl:=Bg (b:=b) (m:=m) (s2:=ez b s s1 aW aW.length) b.n;rw[yZ eW.eq_1];simp[-length_flatMap,-map_take,JE,cG,bA,bh];refine WL.to (Qb (J:=J) (A:=A) (FL:=FL) (X:=X) (Y:=Y) (Z:=Z) (W:=W) h hs hr hb hl1 aW.length 0 0 (by omega)) (by simp[cG,bA,bh]) (by simp[ez]) ?_;rintro x e J' ⟨rfl,g3,g9,g12,rfl⟩;rw[hl]at g9;simp[-length_flatMap,-map_take,g3,g9,g12,cG,bA,bh];refine WL.to (TG (J:=J) (A:=A) (FL:=FL) (X:=X) (Y:=Y) (Z:=Z) (W:=W) (V:=.cells (0+aW.length) ((dR b s aW).flatMap aO.enc)) (d12:=.sl J.length 7 (0+aW.length) 0 aW.length 3) h (λx hx=>jU (wb x hx) (by omega)) (by rw[wl,hl1,hl]) ⟨rfl,rfl⟩ b.n 0 (by omega)) (by simp[cG,bA,bh]) (by simp[mg]) ?_;rintro x e J' ⟨rfl,g3,g9,g12,rfl⟩;have hS:=RA (m:=m) (b:=b) (s:=mg b m (ez b s s1 aW aW.length) b.n) h.bv (lv:=J.length) (bi:=1) (v:=1) (F:=[A,.cells 1 ((mg b m (ez b s s1 aW aW.length) b.n).flatMap aO.enc),FL,X,Y,Z,W,.cells (0+aW.length) ((dR b s aW).flatMap aO.enc)]) (J:=[A,.cells 1 ((mg b m (ez b s s1 aW aW.length) b.n).flatMap aO.enc),FL,X,Y,Z,W,.cells (0+aW.length) ((dR b s aW).flatMap aO.enc)]::J) rfl (by simp[fw]) (by rw[fl,wl,hl1,hl]);rw[show(mg b m (ez b s s1 aW aW.length) b.n).length=b.n by rw[fl,wl,hl1,hl]]at hS;cases hc:zD b (mg b m (ez b s s1 aW aW.length) b.n)
 .rw[hc]at hS;simp at hS;simp[-length_flatMap,-map_take,g3,g9,g12,hS,cG,bA,bh]
 .rw[hc]at hS;simp at hS;simp[-length_flatMap,-map_take,g3,g9,g12,hS,cG,bA,bh]
def VK(b:cp)(m:bE)(s:List aI.aO)(aW:List Int):D:=match tick b m s aW with
 |some (s',y) => .db [.aJ s'.length (s'.flatMap aO.enc),.aJ y.length (y.flatMap aO.enc),.int .i64 0]
 |none => .db [.bP,.bP,.int .i64 9]
theorem ZV{b:cp}{m:bE}{s:List aI.aO}{aW:List Int}(h:Fv b m)(hs:Sv b s)(hr:Rv b aW)(hJ:J≠[]):
  lim T (.call false 235 [.agg [.int .i64 b.f.x,.int .i64 b.f.y,.int .i64 b.f.z,.int .i64 b.f.k,.aJ b.cn.length (b.cn.flatMap Rw.enc),.int .i64 b.bL,.int .i64 b.lift,.int .i64 b.deep,.aJ b.an.length (b.an.flatMap bJ.enc),.str m.name,.aJ m.aU.length (m.aU.flatMap aM)],.aJ s.length (s.flatMap aO.enc),.aJ aW.length (aW.flatMap aM)] J)=some (.val (VK b m s aW) J):=by
 refine aw D8 pj.eq_1 rfl ?_;have hl:=hs.len;have hn:=h.bv.n;have hne:s≠[]:=by intro h0;rw[h0]at hl;simp at hl;omega
 have hC:=V7 (J:=J) (s:=s) (bs:=[]) (by omega) hne;obtain⟨X,Y,Z,hF⟩:=Wc (J:=J) (A:=.cells 0 []) (B:=.cells 1 (s.flatMap aO.enc)) h hs;obtain⟨fb,fl⟩:=RV h hs;obtain⟨x,e',J',hrun,rfl,rfl,hq⟩:=ZP (J:=J) (A:=.cells 0 []) (FL:=.cells 0 (EA (wR b m s))) (X:=X) (Y:=Y) (Z:=Z) (W:=.dead) h hs hr fb fl;obtain⟨f1,f2⟩:=Nc (m:=m) h.bv hs;have hM:=Z6 (J:=J) (aW:=aW) (m:=m) (A:=.cells 0 []) (X:=X) (Y:=Y) (Z:=Z) (es:=wR b m s) hs f1 f2 (r:=.DH .ret e' ([.cells 0 [],.cells 1 ((mg b m (ez b s ((wR b m s).foldl eo s) aW aW.length) b.n).flatMap aO.enc),.cells 0 (EA (wR b m s)),X,Y,Z,.dead,.cells aW.length ((dR b s aW).flatMap aO.enc)]::J)) ⟨_,_,_,hrun,rfl⟩ _ [] List.nodup_nil (by simp) rfl;simp only[aQ,aV,cJ]at hC;have hG:BO ([.cells 0 [],.cells 1 (s.flatMap aO.enc),.cells 0 (EA (wR b m s)),X,Y,Z]::J) .rng [.jm J.length 2]=some (.jm J.length 6,[.cells 0 [],.cells 1 (s.flatMap aO.enc),.cells 0 (EA (wR b m s)),X,Y,Z,Y2 J.length (wR b m s).length []]::J):=by
  simp[BO,B6,Y2,Y3,EA]
 simp[-length_flatMap,-map_take,hC,hF,hG,cG,bA,bh,Ir];refine⟨_,_,_,by simpa[JE,Zx]using hM,?_⟩;rw[QT hr hl]at hq ⊢;have hnl:(Ek b m s aW).length=b.n:=by
  rw[<- QT hr hl,Bg,(BF h.bv hs hr fb aW.length (aL _)).2,fl,hl]
 have hyl:(dR b s aW).length=aW.length:=by simp[dR,hr.len]
 unfold VK tick;cases hc:zD b (Ek b m s aW)
 .rw[hc]at hq;simp at hq;obtain⟨g6,g7,g8⟩:=hq;simp[g6,g7,g8]
 .rw[hc]at hq;simp only[if_true]at hq;obtain⟨g6,g7,g8⟩:=hq;simp only[if_true];simp[g6,g7,g8];rw[Bj (by simp) (by omega)];simp only[vH,yA];rw[<- hnl,wV (f:=aO.enc) (l:=Ek b m s aW) (by decide) (λ_=>rfl) (λx=>by simp) hJ (by simp)];simp only[List.set_cons_succ,List.set_cons_zero];rw[<- hyl,wV (f:=aO.enc) (l:=dR b s aW) (by decide) (λ_=>rfl) (λx=>by simp) hJ (by simp)];rw[gW (by simp) (by omega)];exact⟨_,rfl⟩
def zC(s:List aI.aO):List D:=[.aJ s.length (s.flatMap aO.enc)]
theorem Q9(l:List (List aI.aO)):(l.flatMap zC).length=l.length:=by
 have:=bK (f:=zC) (w:=1) (λ_=>rfl) l;omega
theorem Sv.next{b:cp}{m:bE}{s:List aI.aO}{aW:List Int}(h:Bv b){s' y:List aI.aO}(ht:tick b m s aW=some (s',y)):Sv b s':=by
 unfold tick at ht;split at ht
 .rename_i hc;simp only[ad,ak]at ht;obtain⟨rfl,_⟩:=ht;exact(Sv.of h).1 hc
 .cases ht
theorem Vf{n:Nat}(h:n<=1000000):n*24<=room:=by unfold room;omega
theorem Kf(l:List (List aI.aO)):D.bj (l.flatMap zC)=true:=cT (λx=>by simp[zC,D.clean,Ir]) l
def abt(b:cp)(m:bE)(J:SK)(r:Option (List (List aI.aO)×List (List aI.aO)))(x:aA.Exit)(e:Env)(J':SK):Prop:=match r with
 |some (ss,ys)=>∃v u,x=.exit 0/\get e 4=.own 0 [.sl J.length 2 v 0 ss.length 1,.sl J.length 1 u 0 ys.length 1]/\J'=[.cells 0 [],.cells u (ys.flatMap zC),.cells v (ss.flatMap zC)]::J
 |none=>x=.fp (.va 313 (.agg []))/\∃bB,J'=bB::J
theorem TL{b:cp}{m:bE}{aD:List (List Int)}(h:Fv b m)(hp:aD.length<=200)(hr:∀r∈aD,Rv b r):∀(k i v u:Nat) (ss ys:List (List aI.aO)) (s:List aI.aO),i+k=aD.length->ss.length=i+1->ys.length=i->ss[i]?=some s->Sv b s ->
  WL T [2,4,14,15,16] false iO [(2,.bq [.int .i64 b.f.x,.int .i64 b.f.y,.int .i64 b.f.z,.int .i64 b.f.k,.aJ b.cn.length (b.cn.flatMap Rw.enc),.int .i64 b.bL,.int .i64 b.lift,.int .i64 b.deep,.aJ b.an.length (b.an.flatMap bJ.enc),.str m.name,.aJ m.aU.length (m.aU.flatMap aM)]),(4,.own 0 [.sl J.length 2 v 0 (i+1) 1,.sl J.length 1 u 0 i 1]),(14,.aJ aD.length (aD.flatMap Hf)),(15,.int .i64 aD.length),(16,.int .i64 i)]
   ([.cells 0 [],.cells u (ys.flatMap zC),.cells v (ss.flatMap zC)]::J) (abt b m J (wC b m ss ys s (aD.drop i)))
 |0,i,v,u,ss,ys,s,hi,h1,h2,h3,hs=>by
  refine aH iO.eq_1 ?_;obtain rfl:i=aD.length:=by omega
  have h5:aD.drop aD.length=[]:=aE (by omega);simp[-length_flatMap,-map_take,h5,wC,abt];exact⟨v,u,by simp[h1,h2]⟩
 |k+1,i,v,u,ss,ys,s,hi,h1,h2,h3,hs=>by
  refine aH iO.eq_1 ?_;have hlt:i<aD.length:=by omega
  have hii:(i:Int)<i+1:=by omega
  obtain⟨r,hx⟩:=gE hlt;have h4:=dJ hlt;have h5:=drop_at hx;have a1:=bX (f:=Hf) (w:=1) (λ_=>rfl) hx;simp only[Hf,ec]at a1;have a2:=zY (f:=zC) (w:=1) (λ_=>rfl) h3;simp only[zC,ec,cf]at a2;have hT:=λJ hJ=>ZV (J:=J) h hs (hr r (ai hx)) hJ
  rw[h5,wC];unfold VK at hT;cases ht:tick b m s r with
  |none =>
   rw[ht]at hT;simp only at hT;simp[-length_flatMap,-map_take,hlt,hii,h4,a1,a2,hT,Hf,abt]
  |some p =>
   obtain⟨s',y⟩:=p;rw[ht]at hT;simp only at hT;have ih:=TL h hp hr k (i+1) (v+1) (u+1) (ss++[s']) (ys++[y]) s' (by omega) (by simp[h1]) (by simp[h2]) (by simp[<- h1]) (Sv.next h.bv ht);have l1:=Q9 ss;have l2:=Q9 ys;rw[h1]at l1;rw[h2]at l2;have f1:(ss.flatMap zC).take (i+1)=ss.flatMap zC:=af (by omega);have f2:(ys.flatMap zC).take i=ys.flatMap zC:=af (by omega);have h7:=Vf (n:=i+1) (by omega);have h8:=Vf (n:=i+1+1) (by omega);simp[-length_flatMap,-map_take,hlt,hii,h4,a1,a2,hT,Hf,f1,f2,l1,l2,h7,h8];exact WL.to ih (by simp) (by simp[zC]) λx e J hh=>hh
theorem PV{b:cp}{m:bE}{aD:List (List Int)}(h:Fv b m)(hp:aD.length<=200)(hr:∀r∈aD,Rv b r)(hJ:J≠[]){ss ys:List (List aI.aO)}(hrun:aI.run b m aD=some (ss,ys)):
  lim T (.call false 190 [.agg [.int .i64 b.f.x,.int .i64 b.f.y,.int .i64 b.f.z,.int .i64 b.f.k,.aJ b.cn.length (b.cn.flatMap Rw.enc),.int .i64 b.bL,.int .i64 b.lift,.int .i64 b.deep,.aJ b.an.length (b.an.flatMap bJ.enc),.str m.name,.aJ m.aU.length (m.aU.flatMap aM)],.aJ aD.length (aD.flatMap Hf)] J)=some (.val (.agg [.aJ ss.length (ss.flatMap zC),.aJ ys.length (ys.flatMap zC)]) J):=by
 refine aw yX mI.eq_1 rfl ?_;have hf:=λJ hJ=>FG (J:=J) h hJ
 simp only[SY]at hf;simp[-length_flatMap,-map_take,hf,cG,bA,bh];refine WL.to (TL (J:=J) h hp hr aD.length 0 0 0 [dH b m] [] (dH b m) (by omega) rfl rfl rfl (Sv.first h)) (by simp) (by simp[zC]) ?_;rw[aP,show wC b m [dH b m] [] (dH b m) aD=some (ss,ys)from hrun];rintro x e J' ⟨v,u,rfl,g4,rfl⟩;simp[-length_flatMap,-map_take,g4];have c1:∀x:List aI.aO,D.bj (zC x)=true:=λx=>by simp[zC,D.clean,Ir]
 rw[Qx (by simp) (by omega)];simp only[vH,yA];rw[wV (f:=zC) (w:=1) (l:=ss) (by decide) (λ_=>rfl) c1 hJ (by simp)];simp only[List.set_cons_succ,List.set_cons_zero];rw[wV (f:=zC) (w:=1) (l:=ys) (by decide) (λ_=>rfl) c1 hJ (by simp)];exact⟨_,rfl⟩
theorem PU{b:cp}{m:bE}{aD:List (List Int)}(h:Fv b m)(hp:aD.length<=200)(hr:∀r∈aD,Rv b r)(hrun:aI.run b m aD=none):
  lim T (.call false 190 [.agg [.int .i64 b.f.x,.int .i64 b.f.y,.int .i64 b.f.z,.int .i64 b.f.k,.aJ b.cn.length (b.cn.flatMap Rw.enc),.int .i64 b.bL,.int .i64 b.lift,.int .i64 b.deep,.aJ b.an.length (b.an.flatMap bJ.enc),.str m.name,.aJ m.aU.length (m.aU.flatMap aM)],.aJ aD.length (aD.flatMap Hf)] J)=some (.fp (.va 313 (.agg [])) J):=by
 refine dM yX mI.eq_1 rfl ?_;have hf:=λJ hJ=>FG (J:=J) h hJ
 simp only[SY]at hf;simp[-length_flatMap,-map_take,hf,cG,bA,bh];refine WL.to (TL (J:=J) h hp hr aD.length 0 0 0 [dH b m] [] (dH b m) (by omega) rfl rfl rfl (Sv.first h)) (by simp) (by simp[zC]) ?_;rw[aP,show wC b m [dH b m] [] (dH b m) aD=none from hrun];rintro x e J' ⟨rfl,bB,rfl⟩;simp[D.clean]
theorem Ib{l i v off:Nat}:lim T (.yn 189 [.ref l i v off] none J)=some (.val (.db []) J):=by
 refine Ai zQ qH.eq_1 rfl (by simp[-length_flatMap,-map_take,rK];exact⟨rfl,rfl⟩) ?_;simp[-length_flatMap,-map_take]
theorem TR{F:List aA.aO}(hF:F=[.cells 0 [.int .i64 0]]):lim T (.yn 189 [.ref J.length 0 0 0] (some (.va 313 (.agg []))) (F::J))=some (.val (.db []) ([.cells 0 [.int .i64 9]]::J)):=by
 subst hF;refine Ai zQ qH.eq_1 rfl (by simp[-length_flatMap,-map_take,rK];exact⟨rfl,rfl⟩) ?_;simp[-length_flatMap,-map_take]
theorem wQ{α:Type}{f:α->Int}:∀{l:List α},cQ f l=0->∀x∈l,f x=0
 |[],_,x,hx=>by cases hx
 |a::l,h,x,hx=>by
  simp only[cQ]at h;split at h
  .rename_i ha;rcases aY.1 hx with rfl | hx
   .exact ha
   .exact wQ h x hx
  .rename_i ha;exact absurd h ha
theorem Br{b:cp}{aD:List (List Int)}(h:xu b aD=0):aD.length<=200/\∀r∈aD,Rv b r:=by
 unfold xu at h;split at h
 .cases h
 .exact⟨by omega,λr hr=>Rv.of (wQ h r hr)⟩
def vf(b:cp)(m:bE)(aD:List (List Int)):Int:=if Bd b m then(if xu b aD=0 then(match aI.run b m aD with | some _=>0 | none=>9)else xu b aD)else 1
def Ay(b:cp)(m:bE)(aD:List (List Int)):D:=if vf b m aD=0 then(match aI.run b m aD with | some (ss,ys) => .agg [.aJ ss.length (ss.flatMap zC),.aJ ys.length (ys.flatMap zC)] | none => .agg [.bP,.bP])else .agg [.bP,.bP]
theorem S3{b:cp}{m:bE}{aD:List (List Int)}{wq:D}(hwq:wq.xe=.aJ b.an.length (b.an.flatMap bJ.enc))(h1:b.cn.length<=1000000000)(h2:b.an.length<=1000000000)(hn:m.name.length<=1000000000)(hl:m.aU.length<=1000000000)(hp:aD.length<=1000000000)(hs:∀l∈aD,l.length<=1000000000)(hJ:J≠[]):
  lim T (.call false 145 [.agg [.int .i64 b.f.x,.int .i64 b.f.y,.int .i64 b.f.z,.int .i64 b.f.k,.aJ b.cn.length (b.cn.flatMap Rw.enc),.int .i64 b.bL,.int .i64 b.lift,.int .i64 b.deep,wq],.agg [.str m.name,.aJ m.aU.length (m.aU.flatMap aM)],.aJ aD.length (aD.flatMap Hf)] J)=some (.val (.db [Ay b m aD,.int .i64 (vf b m aD)]) J):=by
 have hP:=λJ=>Tl (J:=J) (b:=b) hp hs
 cases hb:Bd b m
 .have hE:vf b m aD=1:=by simp[vf,hb]
  have hD:Ay b m aD=.agg [.bP,.bP]:=by simp[Ay,hE]
  rw[hD,hE];refine aw Ci ui.eq_1 rfl ?_;obtain⟨d,hB,hd1,hd2⟩:=PR h1 h2 hn hl hb (J:=[.cells 0 [.int .i64 0]]::J);simp[-length_flatMap,-map_take,hwq,hB,hd1,cG,bA,bh]
 .have hB:=λJ=>YH (J:=J) h1 h2 hn hl hb
  by_cases hq:xu b aD=0
  .obtain⟨p1,p2⟩:=Br hq;simp only[Bd,ae]at hb;have hf:Fv b m:=Fv.of (by simp[Bd,hb]);have hb':Bd b m=true:=by simp[Bd,hb]
   refine Io Ci ui.eq_1 rfl rfl ?_;cases hrun:aI.run b m aD with
   |none =>
    have hE:vf b m aD=9:=by simp[vf,hb',hq,hrun]
    have hD:Ay b m aD=.agg [.bP,.bP]:=by simp[Ay,hE]
    have hR:=λJ=>PU (J:=J) hf p1 p2 hrun
    have hX:xf T (.fn 189 [] []) [.ref J.length 0 0 0] (some (.va 313 (.agg []))) ([.cells 0 [.int .i64 0]]::J)=some ([.cells 0 [.int .i64 9]]::J):=uh (TR rfl);rw[hD,hE];simp[-length_flatMap,-map_take,JU,zV,hwq,hB,hP,hq,hR,cG,bA,bh];rw[yZ uO.eq_1];simp[-length_flatMap,-map_take,JU,zV,hX,hR,cG,bA,bh]
   |some p =>
    obtain⟨ss,ys⟩:=p;have hE:vf b m aD=0:=by simp[vf,hb',hq,hrun]
    have hD:Ay b m aD=.agg [.aJ ss.length (ss.flatMap zC),.aJ ys.length (ys.flatMap zC)]:=by simp[Ay,hE,hrun]
    have hX:xf T (.fn 189 [] []) [.ref J.length 0 0 0] none ([.cells 0 [.int .i64 0]]::J)=some ([.cells 0 [.int .i64 0]]::J):=uh Ib;have hR:=λJ hJ=>PV (J:=J) hf p1 p2 hJ hrun
    rw[hD,hE];simp[-length_flatMap,-map_take,JU,zV,hwq,hB,hP,hq,hR,cG,bA,bh];rw[yZ uO.eq_1];simp[-length_flatMap,-map_take,JU,zV,hX,hR,cG,bA,bh];rw[gW (by simp[D.clean,Kf]) (by omega)];exact⟨_,rfl⟩
  .have hE:vf b m aD=xu b aD:=by simp[vf,hb,hq]
   have hD:Ay b m aD=.agg [.bP,.bP]:=by simp[Ay,hE,hq]
   rw[hD,hE];refine aw Ci ui.eq_1 rfl ?_;simp[-length_flatMap,-map_take,hwq,hB,hP,hq,cG,bA,bh]
end
section
open Go Go.aA Go.aI Go.dk
variable {J:SK}
theorem wX{T:BJ}{kp:Bool}{f k:Nat}{args:List D}{J:SK}{r:R}(hT:T f=none)(hN:T (1000000+f)=some ⟨k,[],.exit 0⟩)(h:Bo k args J=some r):lim T (.call kp f args J)=some r :=
 gS (by simp[dh,hT,hN,h])
def rf(e:Int):D:=.va 116 (.agg [.int .i64 e])
theorem cr{e:Int}:lim T (.call false 72 [.bool true,.int .i64 e] J)=some (.val (.db []) J):=by
 refine aw DD tf.eq_1 rfl ?_;simp[-length_flatMap,-map_take]
theorem dq{e:Int}:lim T (.call false 72 [.bool false,.int .i64 e] J)=some (.fp (rf e) J):=by
 refine dM DD tf.eq_1 rfl ?_;simp[-length_flatMap,-map_take,aaT,D.clean,rf]
theorem oQ:lim T (.call false 129 [.int .i64 0] J)=some (.val (.db []) J):=by
 refine aw Cf rO.eq_1 rfl ?_;simp[-length_flatMap,-map_take,cr]
theorem qX{e:Int}(h:e≠0):lim T (.call false 129 [.int .i64 e] J)=some (.fp (rf e) J):=by
 refine dM Cf rO.eq_1 rfl ?_;have h':(e == 0)=false:=by simpa using h
 simp[-length_flatMap,-map_take,dq,h',D.clean,rf]
theorem eA{a b c:Int}:lim T (.call false 108 [.int .i64 a,.int .i64 b,.int .i64 c] J)=some (.val (.bool (cj a b c)) J):=by
 refine aw FK so.eq_1 rfl ?_;by_cases h:b<=a<;>simp[-length_flatMap,-map_take,h,cj]
theorem K1{n:Int}(h : -9223372036854775808<=n/\n<=9223372036854775807):lim T (.call false 18 [.int .i64 n] J)=some (.val (.str (dp n)) J) :=
 wX H8 HR (by simp[Bo,h])
theorem HB{s:List UInt8}(h:s.length<=1000000):lim T (.call false 66 [.str s] J)=some (.val (.db [.int .i64 (q7 s).2,if(q7 s).1=0 then .oI else .va 176 .undef]) J) :=
 wX H7 HQ (by simp[Bo,h])
theorem yW{s:List UInt8}(h:s.length<=1000000):lim T (.call false 59 [.str s,.str [32]] J)=some (.val (.aJ (bQ 32 s).length ((bQ 32 s).map .str)) J) :=
 wX G7 GW (by simp[Bo,h])
theorem Lk(s:List UInt8) : -9223372036854775808<=(q7 s).2/\(q7 s).2<=9223372036854775807:=by
 unfold q7;split
 .rename_i v h;cases s with
  |nil=>cases h
  |cons c r =>
   simp only[Lib.atoiAll]at h;split at h
   .cases h
   .cases h
   .rename_i u hu;split at h
    .cases h
    .split at h
     .cases h
     .cases h;dsimp only;split<;>omega
 .simp
 .simp only[Lib.atoiSat];split<;>simp
theorem Th{s:List UInt8}(hl:s.length<=1000000){n:Int}(h:El s=some n):lim T (.call false 73 [.str s] J)=some (.val (.int .i64 n) J):=by
 unfold El at h;simp only[aB,ad]at h;obtain⟨⟨⟨h1,h2⟩,h3⟩,rfl⟩:=h;refine aw Af oo.eq_1 rfl ?_;simp[-length_flatMap,-map_take,HB hl,h1,K1 (Lk s),h2,lX,eA,h3,cr]
theorem OE{s:List UInt8}(hl:s.length<=1000000)(h:El s=none):lim T (.call false 73 [.str s] J)=some (.fp (rf 4) J):=by
 refine dM Af oo.eq_1 rfl ?_;unfold El at h;simp only[ite_eq_right_iff,reduceCtorEq,imp_false,not_and]at h;by_cases h1:(q7 s).1=0
 .by_cases h2:dp (q7 s).2=s
  .have h3:cj (q7 s).2 (-999999999) 999999999=false:=by simpa using h ⟨h1,h2⟩
   simp[-length_flatMap,-map_take,HB hl,h1,K1 (Lk s),h2,lX,eA,h3,dq,D.clean,rf]
  .simp[-length_flatMap,-map_take,HB hl,h1,K1 (Lk s),h2,lX,eA,dq,D.clean,rf]
 .simp[-length_flatMap,-map_take,HB hl,h1,dq,D.clean,rf]
theorem abV{s:List UInt8}:(tp s).length<=s.length:=by
 cases s with
 |nil=>simp[tp]
 |cons c r=>by_cases hc:c=45<;>simp[tp,hc]
theorem uy{e:Int}:lim T (.call false 39 [.bool true,.int .i64 e] J)=some (.val (.db []) J):=by
 refine aw MM zd.eq_1 rfl ?_;simp[-length_flatMap,-map_take]
theorem YF{s:List UInt8}(h:s.length<=1000000):lim T (.call false 58 [.str s,.str [10]] J)=some (.val (.db [.str (yk 10 s).1,.str (yk 10 s).2.1,.bool (yk 10 s).2.2]) J) :=
 wX JA Jk (by simp[Bo,h])
theorem ZE{s:List UInt8}(h:s.length<=1000000):lim T (.call false 65 [.str s,.str [48,49,50,51,52,53,54,55,56,57]] J)=some (.val (.str (GU RR s)) J) :=
 wX H9 HS (by simp[Bo,h,RR])
theorem Wy{s:List UInt8}(hl:s.length<=1000000):lim T (.call false 64 [.str s,.str [45]] J)=some (.val (.str (tp s)) J):=by
 have hH:∀J,lim T (.call false 118 [.str s,.str [45]] J)=some (.val (.bool (decide (s.head?=some 45))) J):=by
  intro J;refine aw uA ek.eq_1 rfl ?_;cases s with
  |nil=>simp[-length_flatMap,-map_take,lX]
  |cons c r =>
   have h0:(1:Int)<=(r.length:Int)+1:=by omega
   by_cases hc:c=45
   .subst hc;simp[-length_flatMap,-map_take,lX,h0]
   .simp[-length_flatMap,-map_take,lX,h0,hc]
 have hT:∀J,lim T (.call false 83 [.str s,.str [45]] J)=some (.val (.str (tp s)) J):=by
  intro J;refine aw ur dS.eq_1 rfl ?_;cases s with
  |nil=>simp[-length_flatMap,-map_take,lX,hH,tp]
  |cons c r =>
   have h0:(1:Int)<=(r.length:Int)+1:=by omega
   by_cases hc:c=45
   .subst hc;simp[-length_flatMap,-map_take,lX,hH,tp,h0]
   .simp[-length_flatMap,-map_take,lX,hH,tp,h0,hc]
 refine aw Cn mQ.eq_1 rfl ?_;simp[-length_flatMap,-map_take,hT]
theorem Mu{n:Int}(h:n7 n):lim T (.call false 43 [.str (dp n)] J)=some (.val (.int .i64 n) J):=by
 refine aw Js vX.eq_1 rfl ?_;have hl:=CB h;obtain⟨c,r,h1,h2,h3⟩:=PM h;have hP:=λJ=>Wy (J:=J) (s:=dp n) (by omega)
 have htl:(tp (dp n)).length<=1000000:=by have:=abV (s:=dp n);omega
 have hT:=λJ=>ZE (J:=J) (s:=tp (dp n)) htl
 have hA:=λJ=>HB (J:=J) (s:=dp n) (by omega)
 rw[h2,h1]at hT;rw[h1]at hP;rw[FW h]at hA;have h9:¬(9:Int)<(dp n).length:=by omega
 have h9':¬9<(dp n).length:=by omega
 by_cases hc:c=48
 .subst hc;rcases h3 with h3 | h3
  .exact absurd rfl h3
  .rw[h3]at hP hA h9 h9' ⊢;simp[-length_flatMap,-map_take,lX,hP,hT,hA,uy]
 .have hcn:¬(c.toNat:Int)=48:=by
   intro hh;exact hc (UInt8.toNat_inj.1 (by have:(48:UInt8).toNat=48:=rfl;omega))
  simp[-length_flatMap,-map_take,lX,hP,hT,hA,uy,hcn,hc,h9,h9']
theorem J6{l:List Int}(hl:l.length<=1000000)(hn:∀n∈l,n7 n):∀(k i:Nat),i+k=l.length ->
  WL T [3,9,10,11] false kP [(3,.sl J.length 0 0 0 l.length 1),(9,.aJ l.length ((l.map dp).map .str)),(10,.int .i64 l.length),(11,.int .i64 i)]
   ([.cells 0 ((l.take i++List.replicate (l.length-i) 0).flatMap aM)]::J)
   (λx e J'=>x=.exit 0/\get e 3=.sl J.length 0 0 0 l.length 1/\J'=[.cells 0 (l.flatMap aM)]::J)
 |0,i,hi=>by
  refine aH kP.eq_1 ?_;obtain rfl:i=l.length:=by omega
  simp[-length_flatMap,-map_take]
 |k+1,i,hi=>by
  refine aH kP.eq_1 ?_;have h1:i<l.length:=by omega
  obtain⟨x,hxi⟩:=gE h1;have h2:(((l.map dp).map D.str).drop i).take 1=[.str (dp x)]:=by
   rw[List.drop_eq_getElem_cons (by simpa using h1)];have:l[i]=x:=by
    have:=aC h1;rw[hxi]at this;exact(Option.some.inj this).symm
   simp[this]
  have h4:=dJ h1;have hW:=λJ=>Mu (J:=J) (hn x (ai hxi))
  have ih:=J6 hl hn k (i+1) (by omega);have e1:l.take (i+1)=l.take i++[x]:=by
   rw[List.take_add_one];simp[hxi]
  have e2:List.replicate (l.length-i) (0:Int)=0::List.replicate (l.length-(i+1)) 0:=by
   rw[show l.length-i=(l.length-(i+1))+1 from by omega];rfl
  have e3:(l.take i).length=i:=by simp;omega
  have e5:((l.take i).flatMap aM).length=i:=by rw[zq,e3]
  have e4:∀(c d:D) (A B:List D),A.length=i->(A++c::B).take i++d::(A++c::B).drop (i+1)=A++d::B:=by
   intro c d A B hA;subst hA;simp
  rw[e2];rw[e1]at ih;have e7:i+1<=((l.take i).flatMap aM).length+(((List.replicate (l.length-(i+1)) (0:Int)).flatMap aM).length+1):=by omega
  have e6:=e4 (.int .i64 0) (.int .i64 x) ((l.take i).flatMap aM) ((List.replicate (l.length-(i+1)) (0:Int)).flatMap aM) e5;simp only[List.map_map]at h2 ih ⊢;simp[-length_flatMap,-map_take,h1,h2,h4,hW,e6,e7];exact WL.to ih (by simp) (by simp) λx e J hh=>hh
theorem J4{l:List Int}(hl:l.length<=1000000)(hn:∀n∈l,n7 n)(hJ:J≠[]):lim T (.call false 40 [.aJ l.length ((l.map dp).map .str)] J)=some (.val (.aJ l.length (l.flatMap aM)) J):=by
 refine aw GZ tD.eq_1 rfl ?_;have h1:l.length*8<=room:=by unfold room;omega
 have h2:((List.range l.length).flatMap λ_=>[D.int .i64 0])=(List.replicate l.length (0:Int)).flatMap aM:=by
  induction l.length with
  |zero=>rfl
  |succ n ih=>rw[List.range_succ,List.replicate_succ',cF,cF,ih];rfl
 have h3:(l.length:Int)*8<=room:=by omega
 simp[-length_flatMap,-map_take,h1,h2,h3];refine WL.to (J6 (J:=J) hl hn l.length 0 (by omega)) (by simp) (by simp) ?_;rintro x e J' ⟨rfl,g7,rfl⟩;simp[-length_flatMap,-map_take,g7];have:=wV (n:=16) (f:=aM) (w:=1) (l:=l) (j:=0) (v:=0) (bs:=[.cells 0 (l.flatMap aM)]) (by decide) (λ_=>rfl) (λx=>by simp) hJ rfl;rw[this];exact⟨_,rfl⟩
def Eo(L:Nat)(f:cU)(rest:List UInt8)(ln:Nat)(ms:List bE):List aA.aO :=
 [.cells 0 [.int .i64 0,.int .i64 0,.int .i64 0,.int .i64 0],.cells 0 [.bP],.cells 0 [.int .i64 0],.cells 0 [.int .i64 0],.cells ms.length (ms.flatMap bE.enc),
  .cells 0 [.int .i64 f.x,.int .i64 f.y,.int .i64 f.z,.int .i64 f.k,.str rest,.int .i64 ln,.sl L 4 ms.length 0 ms.length 2],.cells 0 [.ref L 5 0 0]]
theorem HM{F:List aA.aO}{f:cU}{rest a r:List UInt8}{ln:Nat}{ms:List bE}(hc:yk 10 rest=(a,r,true))(hl:rest.length<=1000000)(ha:a.length<=1000000)(hn:ln<=1000000):
  lim T (.call false 38 [.ref J.length 5 0 0] (F::Eo J.length f rest ln ms::J))=some (.val (.aJ (bQ 32 a).length ((bQ 32 a).map .str)) (F::Eo J.length f r (ln+1) ms::J)):=by
 refine dN wF jr.eq_1 rfl (by simp) ?_;have hC:=λJ=>YF (J:=J) hl
 have hS:=λJ=>yW (J:=J) ha
 have hcl:D.bj ((bQ 32 a).map D.str)=true:=by
  induction bQ 32 a with
  |nil=>rfl
  |cons x l ih=>simpa[D.clean]using ih
 have w1:IntKind.i64.wrap ((ln:Int)+1)=ln+1:=eQ;rw[hc]at hC;simp[-length_flatMap,-map_take,Eo,hC,hS,uy,w1,hcl]
theorem TB{F F':List aA.aO}{f:cU}{rest a r:List UInt8}{ln:Nat}{ms:List bE}(hc:yk 10 rest=(a,r,true))(hl:rest.length<=1000000)(ha:a.length<=1000000)(hn:ln<=1000000):
  lim T (.call false 38 [.ref J.length 5 0 0] (F'::F::Eo J.length f rest ln ms::J))=some (.val (.aJ (bQ 32 a).length ((bQ 32 a).map .str)) (F'::F::Eo J.length f r (ln+1) ms::J)):=by
 refine dN wF jr.eq_1 rfl (by simp) ?_;have hC:=λJ=>YF (J:=J) hl
 have hS:=λJ=>yW (J:=J) ha
 have hcl:D.bj ((bQ 32 a).map D.str)=true:=by
  induction bQ 32 a with
  |nil=>rfl
  |cons x l ih=>simpa[D.clean]using ih
 have w1:IntKind.i64.wrap ((ln:Int)+1)=ln+1:=eQ;rw[hc]at hC;simp[-length_flatMap,-map_take,Eo,hC,hS,uy,w1,hcl]
theorem Tb{a:Int}:lim T (.call false 63 [.int .i64 a] J)=some (.val (.bool (cj a (-100000) 100000)) J):=by
 refine aw AQ kq.eq_1 rfl ?_;simp[-length_flatMap,-map_take,fy]
theorem Xh{x n:Nat}{vs:List Int}{r:List UInt8}:sf x (n+1) vs++r=jf [] (vs.take x)++10::(sf x n (vs.drop x)++r):=by simp[sf]
theorem P3{F:List aA.aO}{f:cU}{ms:List bE}{nm tail:List UInt8}{x N:Nat}(hx:(x:Int)=f.x)(hx1:1<=x)(hx8:x<=8)(hN:N<=384):∀(m j:Nat) (vs acc:List Int) (ln:Nat),j+m=N->vs.length=m*x->(∀v∈vs,n7 v)->acc.length+vs.length<=1000000 ->
  (sf x m vs++tail).length<=1000000->ln+m<=1000000 ->
  WL T [0,6,52,53] false fE [(0,.ref J.length 5 0 0),(6,.own 0 [.str nm,.sl (J.length+2) 0 j 0 acc.length 1]),(52,.int .i64 N),(53,.int .i64 j)]
   ([.cells j (acc.flatMap aM)]::F::Eo J.length f (sf x m vs++tail) ln ms::J)
   (λx e J'=>x=.exit 2/\get e 0=.ref J.length 5 0 0/\get e 6=.own 0 [.str nm,.sl (J.length+2) 0 N 0 (acc++vs).length 1]/\J'=[.cells N ((acc++vs).flatMap aM)]::F::Eo J.length f tail (ln+m) ms::J)
 |0,j,vs,acc,ln,hj,hv,_,_,_,_=>by
  refine aH fE.eq_1 ?_;obtain rfl:j=N:=by omega
  obtain rfl:vs=[]:=bw.1 (by omega);simp[-length_flatMap,-map_take,sf]
 |m+1,j,vs,acc,ln,hj,hv,hn7,hlen,hbig,hln=>by
  refine aH fE.eq_1 ?_;rw[cq]at hv;have h1:j<N:=by omega
  obtain⟨row,hrow⟩:∃row,row=vs.take x:=⟨_,rfl⟩;have hrl:row.length=x:=by rw[hrow];simp;omega
  have hr7:∀v∈row,n7 v:=λv hv=>hn7 v (bR (hrow ▸ hv))
  have hdl:(vs.drop x).length=m*x:=by simp;omega
  have hbig':=hbig;rw[Xh,<- hrow]at hbig' ⊢;simp only[aF,av]at hbig';have hne:eh [] row≠[]:=by
   intro h;have:=congrArg List.length h;simp[eh]at this;rw[this]at hrl;simp at hrl;omega
  have hsp:bQ 32 (jf [] row)=row.map dp:=by
   rw[Ej hne (by simp)];simp[eh]
  have hW:=TB (J:=J) (F:=F) (F':=[.cells j (acc.flatMap aM)]) (f:=f) (ms:=ms) (ln:=ln) (IP (w:=[]) (l:=row) (r:=sf x m (vs.drop x)++tail) (by simp)) (by simp;omega) (by omega) (by omega);rw[hsp]at hW;simp only[cV]at hW;have hNum:=λS hS=>J4 (J:=S) (l:=row) (by omega) hr7 hS
  have hall:fL row (λn=>cj n (-100000) 100000)=true:=by
   unfold fL;rw[dX];intro v hv;exact bk.2 (hr7 v hv)
  have ha:=λJ=>J1 (J:=J) (l:=row) (p:=λn=>cj n (-100000) 100000) (fv:=.fn 63 [] []) (by omega) (oJ.fn λx _ J=>by simpa using Tb) rfl
  simp only[hall]at ha;have h4:=dJ h1;have hroom:(acc.length+row.length)*8<=room:=by unfold room;omega
  have q1:=zq acc;have q2:=zq row;have t1:(acc.flatMap aM).take acc.length=acc.flatMap aM:=af (by omega);have t2:(row.flatMap aM).take row.length=row.flatMap aM:=af (by omega);have ih:=P3 (F:=F) (ms:=ms) (nm:=nm) (tail:=tail) hx hx1 hx8 hN m (j+1) (vs.drop x) (acc++row) (ln+1) (by omega) hdl (λv hv=>hn7 v (ck hv)) (by simp only[aF,hdl,hrl];omega) (by simp only[aF];omega) (by omega);have e1:acc++row++vs.drop x=acc++vs:=by rw[hrow,c8,List.take_append_drop]
  rw[e1]at ih;have hrx:(row.length:Int)=f.x:=by omega
  simp only[List.map_map]at hW hNum;simp only[Eo]at hW ih ⊢;simp[-length_flatMap,-map_take,h1,hW,hNum,ha,uy,h4,hroom,q1,q2,t1,t2,hrx];refine WL.to ih (by simp) (by simp) λx e J' hh=>?_
  simpa[di,Nat.add_comm 1 m]using hh
def KH:List Nat:=[95,96,97,98,99,100,101,102,103,104,105,106,107]
def Ox(w:Wd):List D:=[.bool w.named,.int .i64 w.least,.int .i64 w.step,.fn ((KH[w.k]?).getD 0) [] []]
def je(l:List (List UInt8×Wd)):List D:=l.map λp => .db [.str p.1,.agg (Ox p.2)]
theorem IF{s:List UInt8}:∀{l:List (List UInt8×Wd)},DK s l=none->rS none (.str s) (je l)=some none
 |[],_=>rfl
 |(k,w)::l,h=>by
  simp only[DK]at h;split at h
  .cases h
  .rename_i hk;have hb:(s == k)=false:=by simpa using hk
   have:=IF h;simp only[je,aR,rS,tZ,hb]at this ⊢;rw[this];rfl
theorem Kn{s:List UInt8}{w:Wd}:∀{l:List (List UInt8×Wd)},DK s l=some w->∃j,rS none (.str s) (je l)=some (some (j,.agg (Ox w)))
 |[],h=>by cases h
 |(k,v)::l,h=>by
  simp only[DK]at h;split at h
  .rename_i hk;cases h;subst hk;exact⟨0,by simp[je,rS,tZ]⟩
  .rename_i hk;have hb:(s == k)=false:=by simpa using hk
   obtain⟨j,hj⟩:=Kn h;exact⟨j+1,by
    simp only[je,aR,rS,tZ,hb]at hj ⊢;rw[hj];rfl⟩
theorem agK{S:SK}{l i:Nat}{pre:List (List UInt8×Wd)}{k:List UInt8}{w:Wd}(h:cells? S l i 0=some (je pre))(hn:DK k pre=none)(hl:l+1=S.length):
  BO S (.put none) [.jm l i,.str k,.agg (Ox w)]=some (.undef,aZ S l i (.cells 0 (je (pre++[(k,w)])))):=by
 have h1:=IF hn;simp only[BO,B6,h,aX,h1];simp[tZ,hl,je]
theorem RY{S:SK}{l i:Nat}{s:List UInt8}(h:cells? S l i 0=some (je oP)):
  BO S (.get none (.agg [.bool false,.int .i64 0,.int .i64 0,.se]) true) [.jm l i,.str s] =
   some (match yS s with | some w => .db [.agg (Ox w),.bool true] | none => .db [.agg [.bool false,.int .i64 0,.int .i64 0,.se],.bool false],S):=by
 simp only[BO,B6,h,aX];cases hw:yS s with
 |none=>rw[IF hw];simp[tZ]
 |some w=>obtain⟨j,hj⟩:=Kn hw;rw[hj];simp[tZ]
theorem CU{bs:List aA.aO}:lim T (.call true 71 [] (bs::J))=some (.val (.jm J.length bs.length) ((bs++[.cells 0 (je oP)])::J)):=by
 refine xE G2 tF.eq_1 rfl ?_;have hm:BO (bs::J) .make []=some (.jm J.length bs.length,(bs++[.cells 0 []])::J):=by simp[BO]
 have hp:∀(pre:List (List UInt8×Wd)) (k:List UInt8) (w:Wd),DK k pre=none->BO ((bs++[.cells 0 (je pre)])::J) (.put none) [.jm J.length bs.length,.str k,.agg (Ox w)]=some (.undef,(bs++[.cells 0 (je (pre++[(k,w)]))])::J):=by
  intro pre k w hn;have h1:cells? ((bs++[.cells 0 (je pre)])::J) J.length bs.length 0=some (je pre):=by simp
  have h2:J.length+1=((bs++[aA.aO.cells 0 (je pre)])::J).length:=by simp
  have h3:=agK (w:=w) h1 hn h2;refine h3.trans ?_;simp
 have p:=λ(j:Nat) (hj:j<13)=>hp (oP.take j) ((oP[j]?).getD ([],⟨false,0,0,0⟩)).1 ((oP[j]?).getD ([],⟨false,0,0,0⟩)).2
 have p0:=p 0 (by omega) (by decide);have p1:=p 1 (by omega) (by decide);have p2:=p 2 (by omega) (by decide);have p3:=p 3 (by omega) (by decide);have p4:=p 4 (by omega) (by decide);have p5:=p 5 (by omega) (by decide);have p6:=p 6 (by omega) (by decide);have p7:=p 7 (by omega) (by decide);have p8:=p 8 (by omega) (by decide);have p9:=p 9 (by omega) (by decide);have p10:=p 10 (by omega) (by decide);have p11:=p 11 (by omega) (by decide);have p12:=p 12 (by omega) (by decide);simp[oP,je,Ox,KH]at p0 p1 p2 p3 p4 p5 p6 p7 p8 p9 p10 p11 p12;simp[-length_flatMap,-map_take,hm,p0,p1,p2,p3,p4,p5,p6,p7,p8,p9,p10,p11,p12,oP,je,Ox,KH]
@[simp] def dc(s:List UInt8):List D:=[.str s]
def QV(cs:List D)(name:List UInt8)(M:aA.aO)(J:SK)(acc:List Int)(r:Option (List Int))(x:aA.Exit)(e:Env)(J':SK):Prop:=match r with
 |some ns=>x=.exit 0/\get e 2=.own 0 cs/\get e 3=.str name/\get e 4=.sl J.length 0 (acc++ns).length 0 (acc++ns).length 1/\J'=[.cells (acc++ns).length ((acc++ns).flatMap aM),M]::J
 |none=>x=.fp (rf 4)/\∃bB,J'=bB::J
theorem HO{all:List (List UInt8)}(hs:∀s∈all,s.length<=1000000)(hl:all.length<=1000001){cs:List D}{name:List UInt8}{M:aA.aO}:∀(k i:Nat) (acc:List Int),i+k=all.length->acc.length=i ->
  WL T [2,3,4,35,36,37] false jx [(2,.own 0 cs),(3,.str name),(4,.sl J.length 0 i 0 i 1),(35,.aJ all.length (all.flatMap dc)),(36,.int .i64 all.length),(37,.int .i64 i)]
   ([.cells i (acc.flatMap aM),M]::J) (QV cs name M J acc (oN (all.drop i)))
 |0,i,acc,hi,ha=>by
  refine aH jx.eq_1 ?_;obtain rfl:i=all.length:=by omega
  have h5:all.drop all.length=[]:=aE (by omega);simp[-length_flatMap,-map_take,h5,oN,QV,ha]
 |k+1,i,acc,hi,ha=>by
  refine aH jx.eq_1 ?_;have hlt:i<all.length:=by omega
  have hii:(i:Int)<i+1:=by omega
  obtain⟨s,hx⟩:=gE hlt;have h4:=dJ hlt;have h5:=drop_at hx;have a1:=bX (f:=dc) (w:=1) (λ_=>rfl) hx;simp only[dc,ec]at a1;have hsl:=hs s (ai hx);rw[h5];simp only[oN];have hr:(i+1)*8<=room:=by unfold room;omega
  cases hn:El s with
  |none =>
   simp[-length_flatMap,-map_take,hlt,a1,OE hsl hn,QV]
  |some n =>
   have hc:(acc.flatMap aM).length=i:=by simp[bK (f:=aM) (w:=1) (λ_=>rfl),ha]
   have ht:(acc.flatMap aM).take i=acc.flatMap aM:=af (by omega);simp[-length_flatMap,-map_take,hlt,a1,Th hsl hn,hr,h4,hc,ht];refine WL.to (HO (cs:=cs) (name:=name) (M:=M) hs hl k (i+1) (acc++[n]) (by omega) (by simp[ha])) (by simp) (by simp) λx e J' hh=>?_
   cases hm:oN (all.drop (i+1))with
   |none=>rw[hm]at hh;exact hh
   |some ns=>rw[hm]at hh;simpa[QV]using hh
theorem Ax:∀{l:List (List UInt8)} {ns:List Int},oN l=some ns->ns.length=l.length
 |[],ns,h=>by simp only[oN,ad]at h;subst h;rfl
 |s::l,ns,h=>by
  simp only[oN]at h;split at h
  .rename_i n hn;simp only[ab]at h;obtain⟨m,h1,rfl⟩:=h;simp[Ax h1]
  .cases h
theorem gV(w:Wd):Ox w=[.bool w.named,.int .i64 w.least,.int .i64 w.step,.fn ((KH[w.k]?).getD 0) [] []]:=rfl
theorem Hz(l:List (List UInt8)):l.map D.str=l.flatMap dc:=by induction l with | nil=>rfl | cons s l ih=>simp[ih]
theorem MA{s:List UInt8}(hl:s.length<=1000000){a:List UInt8}{all:List (List UInt8)}(h:bQ 32 s=a::all)(hw:yS a=none):lim T (.call false 51 [.str s] J)=some (.fp (rf 4) J):=by
 refine dM kL eV.eq_1 rfl ?_;have hW:=CU (bs:=[.cells 0 []]) (J:=J);have hG:=RY (S:=[aA.aO.cells 0 [],.cells 0 (je oP)]::J) (l:=J.length) (i:=1) (s:=a) (by simp);rw[hw]at hG;simp[-length_flatMap,-map_take,yW hl,h,hW,hG,dq,D.clean,rf]
def zx(p:Wd×List UInt8×List Int):D:=.db [.agg (Ox p.1),.str p.2.1,.aJ p.2.2.length (p.2.2.flatMap aM)]
theorem Hr{a:List D}(ha:D.bj a=true){name:List UInt8}{v:Nat}{ns:List Int}{M:aA.aO}(hJ:J≠[]):
  cC (J.length-1) 16 (.db [.agg a,.str name,.sl J.length 0 v 0 ns.length 1]) ([.cells v (ns.flatMap aM),M]::J)=(.db [.agg a,.str name,.aJ ns.length (ns.flatMap aM)],[.dead,M]::J):=by
 have h3:¬J.length<=J.length-1:=by have:=aN.2 hJ;omega
 rw[Bj (by simp[D.bj,D.clean]) (by omega)];have h4:=gW (l:=J.length-1) (n:=15) (d:=.agg a) (J:=[aA.aO.cells v (ns.flatMap aM),M]::J) (by simp[D.clean,ha]) (by omega);have h5:=gW (l:=J.length-1) (n:=15) (d:=.str name) (J:=[aA.aO.cells v (ns.flatMap aM),M]::J) (by simp[D.clean]) (by omega);have h6:=yB (l:=J.length-1) (n:=15) (l':=J.length) (i:=0) (v:=v) (off:=0) (m:=ns.length) (w:=1) (J:=[aA.aO.cells v (ns.flatMap aM),M]::J) (cs:=ns.flatMap aM) h3 (by simp) (by omega);have ht:(ns.flatMap aM).take ns.length=ns.flatMap aM:=by have:=LG (f:=aM) (w:=1) (λ_=>rfl) ns;rwa[ec]at this
 simp only[Nat.reduceSub,cC.frzL,h4,h5,h6];simp[ht,cT (f:=aM) (λ_=>by simp[D.clean]) ns]
theorem Rr{s:List UInt8}(hl:s.length<=1000000){a:List UInt8}{all:List (List UInt8)}(h:bQ 32 s=a::all)(hs:∀x∈all,x.length<=1000000)(hl2:all.length<=1000001){w:Wd}(hw:yS a=some w)(hn:w.named=false)(hJ:J≠[]){p:Wd×List UInt8×List Int}(hp:vd w [] all=some p):
  lim T (.call false 51 [.str s] J)=some (.val (zx p) J):=by
 refine aw kL eV.eq_1 rfl ?_;have hW:=CU (bs:=[.cells 0 []]) (J:=J);have hG:=RY (S:=[aA.aO.cells 0 [],.cells 0 (je oP)]::J) (l:=J.length) (i:=1) (s:=a) (by simp);rw[hw]at hG;obtain⟨w1,w2,w3,w4,w5⟩:=FE hw;have hL:=HO (J:=J) (cs:=Ox w) (name:=[]) (M:=.cells 0 (je oP)) hs hl2 all.length 0 [] (by omega) rfl;unfold vd at hp;cases hm:oN all with
 |none=>rw[hm]at hp;cases hp
 |some ns =>
 rw[hm]at hp;simp only[aB,ad]at hp;obtain⟨hf,rfl⟩:=hp;have hlen:=Ax hm;simp only[F6,bY,ae,au]at hf;have e1:IntKind.i64.wrap ((ns.length:Int)-w.least)=ns.length-w.least:=eQ;rw[aP,hm]at hL;have q1:(1:Int)<=(all.length:Int)+1:=by omega
 have q2:(all.flatMap dc).take all.length=all.flatMap dc:=af (by rw[bK (f:=dc) (w:=1) (λ_=>rfl)];omega);simp[-length_flatMap,-map_take,yW hl,h,hW,hG,cr,gV,hn,Hz,q1,q2];refine WL.to hL (by simp[gV,hn]) (by simp) ?_;rintro x e J' ⟨rfl,g2,g3,g4,rfl⟩;have hz:D.bj (Ox w)=true:=by simp[Ox,D.clean]
 rcases hf with c1 | ⟨c1,c2,c3⟩
 .simp[-length_flatMap,-map_take,g2,g3,g4,gV,e1,c1,cr,zx];exact⟨_,Hr (by simp[D.clean]) hJ⟩
 .have c0:¬(ns.length:Int)-w.least=0:=by omega
  have c4:¬w.step=0:=by omega
  have c5:w.least<(ns.length:Int):=by omega
  simp[-length_flatMap,-map_take,g2,g3,g4,gV,e1,c0,c5,c2,c3,c4,cr,zx];exact⟨_,Hr (by simp[D.clean]) hJ⟩
theorem My{s:List UInt8}(hl:s.length<=1000000){a:List UInt8}{all:List (List UInt8)}(h:bQ 32 s=a::all)(hs:∀x∈all,x.length<=1000000)(hl2:all.length<=1000001){w:Wd}(hw:yS a=some w)(hn:w.named=false)(hp:vd w [] all=none):
  lim T (.call false 51 [.str s] J)=some (.fp (rf 4) J):=by
 refine dM kL eV.eq_1 rfl ?_;have hW:=CU (bs:=[.cells 0 []]) (J:=J);have hG:=RY (S:=[aA.aO.cells 0 [],.cells 0 (je oP)]::J) (l:=J.length) (i:=1) (s:=a) (by simp);rw[hw]at hG;obtain⟨w1,w2,w3,w4,w5⟩:=FE hw;have hL:=HO (J:=J) (cs:=Ox w) (name:=[]) (M:=.cells 0 (je oP)) hs hl2 all.length 0 [] (by omega) rfl;have q1:(1:Int)<=(all.length:Int)+1:=by omega
 have q2:(all.flatMap dc).take all.length=all.flatMap dc:=af (by rw[bK (f:=dc) (w:=1) (λ_=>rfl)];omega);rw[aP]at hL;simp[-length_flatMap,-map_take,yW hl,h,hW,hG,cr,gV,hn,Hz,q1,q2];refine WL.to hL (by simp[gV,hn]) (by simp) ?_;unfold vd at hp;cases hm:oN all with
 |none =>
  rintro x e J' ⟨rfl,bB,rfl⟩;simp[D.clean,rf]
 |some ns =>
 rw[hm]at hp;simp only[ite_eq_right_iff,reduceCtorEq,imp_false]at hp;rintro x e J' ⟨rfl,g2,g3,g4,rfl⟩;have hlen:=Ax hm;have e1:IntKind.i64.wrap ((ns.length:Int)-w.least)=ns.length-w.least:=eQ;simp only[F6,bY,ae,au]at hp;have c0:¬(ns.length:Int)-w.least=0:=λhh=>hp (.inl hh)
 by_cases c1:w.least<(ns.length:Int)
 .by_cases c2:0<w.step
  .have c3:¬((ns.length:Int)-w.least).tmod w.step=0:=λhh=>hp (.inr ⟨by omega,c2,hh⟩)
   have c4:¬w.step=0:=by omega
   have c3':(((ns.length:Int)-w.least).tmod w.step == 0)=false:=by simpa using c3
   have c0':((ns.length:Int)-w.least == 0)=false:=by simpa using c0
   simp[-length_flatMap,-map_take,g2,g3,g4,gV,e1,c0',c1,c2,c3',c4,dq,D.clean,rf]
  .simp[-length_flatMap,-map_take,g2,g3,g4,gV,e1,c0,c1,c2,dq,D.clean,rf]
 .simp[-length_flatMap,-map_take,g2,g3,g4,gV,e1,c0,c1,dq,D.clean,rf]
theorem OF{s:List UInt8}(hl:s.length<=1000000){a:List UInt8}(h:bQ 32 s=[a]){w:Wd}(hw:yS a=some w)(hn:w.named=true):
  lim T (.call false 51 [.str s] J)=some (.fp (rf 4) J):=by
 refine dM kL eV.eq_1 rfl ?_;have hW:=CU (bs:=[.cells 0 []]) (J:=J);have hG:=RY (S:=[aA.aO.cells 0 [],.cells 0 (je oP)]::J) (l:=J.length) (i:=1) (s:=a) (by simp);rw[hw]at hG;obtain⟨w1,w2,w3,w4,w5⟩:=FE hw;simp[-length_flatMap,-map_take,yW hl,h,hW,hG,cr,dq,gV,hn,D.clean,rf]
theorem Rt{s:List UInt8}(hl:s.length<=1000000){a n:List UInt8}{r:List (List UInt8)}(h:bQ 32 s=a::n::r)(hs:∀x∈r,x.length<=1000000)(hl2:r.length<=1000001){w:Wd}(hw:yS a=some w)(hn:w.named=true)(hJ:J≠[]){p:Wd×List UInt8×List Int}(hp:vd w n r=some p):
  lim T (.call false 51 [.str s] J)=some (.val (zx p) J):=by
 refine aw kL eV.eq_1 rfl ?_;have hW:=CU (bs:=[.cells 0 []]) (J:=J);have hG:=RY (S:=[aA.aO.cells 0 [],.cells 0 (je oP)]::J) (l:=J.length) (i:=1) (s:=a) (by simp);rw[hw]at hG;obtain⟨w1,w2,w3,w4,w5⟩:=FE hw;have hL:=HO (J:=J) (cs:=Ox w) (name:=n) (M:=.cells 0 (je oP)) hs hl2 r.length 0 [] (by omega) rfl;have q1:(1:Int)<=(r.length:Int)+1:=by omega
 have q2:(r.flatMap dc).take r.length=r.flatMap dc:=af (by rw[bK (f:=dc) (w:=1) (λ_=>rfl)];omega);have q3:(1:Int)<=(r.length:Int)+1+1:=by omega
 have q4:(0:Int)<(r.length:Int)+1:=by omega
 have q6:(0:Int)<(r.length:Int)+1+1:=by omega
 have q5:(r.flatMap dc).take (r.length+1)=r.flatMap dc:=af (by rw[bK (f:=dc) (w:=1) (λ_=>rfl)];omega);unfold vd at hp;cases hm:oN r with
 |none=>rw[hm]at hp;cases hp
 |some ns =>
 rw[hm]at hp;simp only[aB,ad]at hp;obtain⟨hf,rfl⟩:=hp;have hlen:=Ax hm;simp only[F6,bY,ae,au]at hf;have e1:IntKind.i64.wrap ((ns.length:Int)-w.least)=ns.length-w.least:=eQ;rw[aP,hm]at hL;simp[-length_flatMap,-map_take,yW hl,h,hW,hG,cr,gV,hn,Hz,q1,q2,q3,q4,q5,q6];refine WL.to hL (by simp[gV,hn]) (by simp) ?_;rintro x e J' ⟨rfl,g2,g3,g4,rfl⟩;rcases hf with c1 | ⟨c1,c2,c3⟩
 .simp[-length_flatMap,-map_take,g2,g3,g4,gV,e1,c1,cr,zx];exact⟨_,Hr (by simp[D.clean]) hJ⟩
 .have c0:¬(ns.length:Int)-w.least=0:=by omega
  have c4:¬w.step=0:=by omega
  have c5:w.least<(ns.length:Int):=by omega
  simp[-length_flatMap,-map_take,g2,g3,g4,gV,e1,c0,c5,c2,c3,c4,cr,zx];exact⟨_,Hr (by simp[D.clean]) hJ⟩
theorem Mz{s:List UInt8}(hl:s.length<=1000000){a n:List UInt8}{r:List (List UInt8)}(h:bQ 32 s=a::n::r)(hs:∀x∈r,x.length<=1000000)(hl2:r.length<=1000001){w:Wd}(hw:yS a=some w)(hn:w.named=true)(hp:vd w n r=none):
  lim T (.call false 51 [.str s] J)=some (.fp (rf 4) J):=by
 refine dM kL eV.eq_1 rfl ?_;have hW:=CU (bs:=[.cells 0 []]) (J:=J);have hG:=RY (S:=[aA.aO.cells 0 [],.cells 0 (je oP)]::J) (l:=J.length) (i:=1) (s:=a) (by simp);rw[hw]at hG;obtain⟨w1,w2,w3,w4,w5⟩:=FE hw;have hL:=HO (J:=J) (cs:=Ox w) (name:=n) (M:=.cells 0 (je oP)) hs hl2 r.length 0 [] (by omega) rfl;have q1:(1:Int)<=(r.length:Int)+1:=by omega
 have q2:(r.flatMap dc).take r.length=r.flatMap dc:=af (by rw[bK (f:=dc) (w:=1) (λ_=>rfl)];omega);have q3:(1:Int)<=(r.length:Int)+1+1:=by omega
 have q4:(0:Int)<(r.length:Int)+1:=by omega
 have q6:(0:Int)<(r.length:Int)+1+1:=by omega
 have q5:(r.flatMap dc).take (r.length+1)=r.flatMap dc:=af (by rw[bK (f:=dc) (w:=1) (λ_=>rfl)];omega);rw[aP]at hL;simp[-length_flatMap,-map_take,yW hl,h,hW,hG,cr,gV,hn,Hz,q1,q2,q3,q4,q5,q6];refine WL.to hL (by simp[gV,hn]) (by simp) ?_;unfold vd at hp;cases hm:oN r with
 |none =>
  rintro x e J' ⟨rfl,bB,rfl⟩;simp[D.clean,rf]
 |some ns =>
 rw[hm]at hp;simp only[ite_eq_right_iff,reduceCtorEq,imp_false]at hp;rintro x e J' ⟨rfl,g2,g3,g4,rfl⟩;have hlen:=Ax hm;have e1:IntKind.i64.wrap ((ns.length:Int)-w.least)=ns.length-w.least:=eQ;simp only[F6,bY,ae,au]at hp;have c0:¬(ns.length:Int)-w.least=0:=λhh=>hp (.inl hh)
 by_cases c1:w.least<(ns.length:Int)
 .by_cases c2:0<w.step
  .have c3:¬((ns.length:Int)-w.least).tmod w.step=0:=λhh=>hp (.inr ⟨by omega,c2,hh⟩)
   have c4:¬w.step=0:=by omega
   have c3':(((ns.length:Int)-w.least).tmod w.step == 0)=false:=by simpa using c3
   have c0':((ns.length:Int)-w.least == 0)=false:=by simpa using c0
   simp[-length_flatMap,-map_take,g2,g3,g4,gV,e1,c0',c1,c2,c3',c4,dq,D.clean,rf]
  .simp[-length_flatMap,-map_take,g2,g3,g4,gV,e1,c0,c1,c2,dq,D.clean,rf]
 .simp[-length_flatMap,-map_take,g2,g3,g4,gV,e1,c0,c1,dq,D.clean,rf]
theorem Fw(b:UInt8):∀(s:List UInt8),∀x∈bQ b s,x.length<=s.length
 |[],x,hx=>by simp[bQ]at hx;simp[hx]
 |c::r,x,hx=>by
  have ih:=Fw b r;simp only[bQ]at hx;split at hx
  .rcases aY.1 hx with rfl | hx
   .simp
   .have:=ih x hx;simp;omega
  .split at hx
   .rename_i y l hyl;rcases aY.1 hx with rfl | hx
    .have:=ih y (by rw[hyl];simp);simp;omega
    .have:=ih x (by rw[hyl];simp[hx]);simp;omega
   .rename_i hyl;exact absurd hyl (vP b r)
theorem Tk{s:List UInt8}(hl:s.length<=1000000)(hJ:J≠[]){p:Wd×List UInt8×List Int}(hp:parse s=some p):lim T (.call false 51 [.str s] J)=some (.val (zx p) J):=by
 unfold parse at hp;have hlen:=BA 32 s;have hle:=Fw 32 s;cases h:bQ 32 s with
 |nil=>exact absurd h (vP 32 s)
 |cons a all =>
 rw[h]at hp hlen hle;simp only[av]at hlen;dsimp only at hp;cases hw:yS a with
 |none=>rw[hw]at hp;cases hp
 |some w =>
 rw[hw]at hp;dsimp only at hp;cases hn:w.named with
 |false =>
  rw[hn]at hp;exact Rr hl h (λx hx=>by have:=hle x (by simp[hx]);omega) (by omega) hw hn hJ (by simpa using hp)
 |true =>
  rw[hn]at hp;simp only[if_true]at hp;cases all with
  |nil=>cases hp
  |cons n r=>exact Rt hl h (λx hx=>by have:=hle x (by simp[hx]);omega) (by simp at hlen;omega) hw hn hJ hp
theorem OG{s:List UInt8}(hl:s.length<=1000000)(hp:parse s=none):lim T (.call false 51 [.str s] J)=some (.fp (rf 4) J):=by
 unfold parse at hp;have hlen:=BA 32 s;have hle:=Fw 32 s;cases h:bQ 32 s with
 |nil=>exact absurd h (vP 32 s)
 |cons a all =>
 rw[h]at hp hlen hle;simp only[av]at hlen;dsimp only at hp;cases hw:yS a with
 |none=>exact MA hl h hw
 |some w =>
 rw[hw]at hp;dsimp only at hp;cases hn:w.named with
 |false =>
  rw[hn]at hp;exact My hl h (λx hx=>by have:=hle x (by simp[hx]);omega) (by omega) hw hn (by simpa using hp)
 |true =>
  rw[hn]at hp;simp only[if_true]at hp;cases all with
  |nil=>exact OF hl h hw hn
  |cons n r=>exact Mz hl h (λx hx=>by have:=hle x (by simp[hx]);omega) (by simp at hlen;omega) hw hn hp
end
end Go.Proofs.YtanhdobabijmoaaGreatDoor
namespace Go.bW
open List(length_flatMap map_take)
open Go Go.aA
structure Pt where
 x:Int
 y:Int
 z:Int
 deriving DecidableEq
structure Rg where
 lo:Int
 hi:Int
 deriving DecidableEq
structure OQ where
 p:Pt
 err:Int
structure Net where
 st:List OQ
 s0:Rg
 s1:Rg
 low:Pt
 high:Pt
 step:Int
structure FI where
 st:Int
 ph:Int
 t:Rg
structure Plc where
 p:Pt
 o:Rg
 deriving DecidableEq
structure zJ where
 YZ:Int
 add:Int
structure HU where
 levels:List Int
 rows:List zJ
structure AM where
 st:Int
 amt:Int
structure acY where
 fst:Int
 thn:Int
structure V1 where
 num:Int
 den:Int
 a:Int
 b:Int
 aaP:Int
@[simp] theorem Pt.eta(p:Pt):Pt.mk p.x p.y p.z=p:=rfl
@[simp] theorem Rg.eta(p:Rg):Rg.mk p.lo p.hi=p:=rfl
@[simp] theorem OQ.eta(p:OQ):OQ.mk p.p p.err=p:=rfl
@[simp] theorem Net.eta(p:Net):Net.mk p.st p.s0 p.s1 p.low p.high p.step=p:=rfl
@[simp] theorem FI.eta(p:FI):FI.mk p.st p.ph p.t=p:=rfl
@[simp] theorem HU.eta(p:HU):HU.mk p.levels p.rows=p:=rfl
@[simp] theorem AM.eta(p:AM):AM.mk p.st p.amt=p:=rfl
@[simp] theorem zJ.eta(p:zJ):zJ.mk p.YZ p.add=p:=rfl
@[simp] theorem V1.eta(p:V1):V1.mk p.num p.den p.a p.b p.aaP=p:=rfl
@[simp] def Pt.enc(p:Pt):List D:=[.int .i64 p.x,.int .i64 p.y,.int .i64 p.z]
@[simp] def Rg.enc(r:Rg):List D:=[.int .i64 r.lo,.int .i64 r.hi]
@[simp] def OQ.enc(s:OQ):List D:=[.int .i64 s.p.x,.int .i64 s.p.y,.int .i64 s.p.z,.int .i64 s.err]
@[simp] def FI.enc(p:FI):List D:=[.int .i64 p.st,.int .u8 p.ph,.int .i64 p.t.lo,.int .i64 p.t.hi]
@[simp] def Plc.enc(p:Plc):List D:=[.int .i64 p.p.x,.int .i64 p.p.y,.int .i64 p.p.z,.int .i64 p.o.lo,.int .i64 p.o.hi]
@[simp] def zJ.enc(p:zJ):List D:=[.int .i64 p.YZ,.int .i64 p.add]
@[simp] def AM.enc(p:AM):List D:=[.int .i64 p.st,.int .i64 p.amt]
@[simp] def acY.enc(p:acY):List D:=[.int .i64 p.fst,.int .i64 p.thn]
@[simp] def V1.enc(b:V1):List D:=[.int .i64 b.num,.int .i64 b.den,.int .i64 b.a,.int .i64 b.b,.int .i64 b.aaP]
@[simp] def aM(n:Int):List D:=[.int .i64 n]
@[simp] def uB(n:Bool):List D:=[.bool n]
@[simp] def Net.enc(n:Net):List D:=[.aJ n.st.length (n.st.flatMap OQ.enc),.int .i64 n.s0.lo,.int .i64 n.s0.hi,.int .i64 n.s1.lo,.int .i64 n.s1.hi,
 .int .i64 n.low.x,.int .i64 n.low.y,.int .i64 n.low.z,.int .i64 n.high.x,.int .i64 n.high.y,.int .i64 n.high.z,.int .i64 n.step]
@[simp] def HU.enc(s:HU):List D:=[.aJ s.levels.length (s.levels.flatMap aM),.aJ s.rows.length (s.rows.flatMap zJ.enc)]
def cj(n lo hi:Int):Bool:=decide (lo<=n) && decide (n<=hi)
theorem bk{n lo hi:Int}:cj n lo hi=true↔lo<=n/\n<=hi:=by simp[cj]
def Pt.ok(p:Pt):Bool:=cj p.x (-20000) 20000 && (cj p.y (-20000) 20000 && cj p.z (-20000) 20000)
def Cr(a b:Pt):Bool:=a.ok && (b.ok && (decide (a.x<=b.x) && (decide (a.y<=b.y) && decide (a.z<=b.z))))
def OQ.ok(s:OQ):Bool:=s.p.ok && cj s.err 0 1000
def Rg.cj(r:Rg)(lo hi:Int):Bool:=decide (lo<=r.lo) && (decide (r.lo<=r.hi) && decide (r.hi<=hi))
def steps(n:Net)(lo hi:Int):Int:=(hi-lo).tdiv n.step+1
def Net.pre(n:Net):Bool:=bW.cj n.st.length 1 12 && (fL n.st OQ.ok && (Cr n.low n.high && (bW.cj n.step 1 20000 && (n.s0.cj 1 2000 && n.s1.cj 1 2000))))
def Net.count(n:Net):Int:=steps n n.low.x n.high.x*steps n n.low.y n.high.y*steps n n.low.z n.high.z
def Net.ok(n:Net):Bool:=n.pre && decide (n.count<=2000)
theorem Pt.LL{p:Pt}:p.ok=true↔(-20000<=p.x/\p.x<=20000)/\(-20000<=p.y/\p.y<=20000)/\(-20000<=p.z/\p.z<=20000):=by
 simp only[Pt.ok,ae,bk]
def bsr:Nat->Int->Int->Int->Int
 |0,_,lo,_=>lo
 |f+1,n,lo,hi=>if lo<hi then(if((lo+hi+1) / 2)*((lo+hi+1) / 2)<=n then bsr f n ((lo+hi+1) / 2) hi else bsr f n lo ((lo+hi+1) / 2-1))else lo
def sq(p q:Pt):Int:=(p.x-q.x)*(p.x-q.x)+(p.y-q.y)*(p.y-q.y)+(p.z-q.z)*(p.z-q.z)
def adp(p q:Pt):Int:=bsr 17 (sq p q) 0 70000
def prog(lo hi st:Int):List Int:=(List.range ((hi-lo) / st+1).toNat).map λ(i:Nat)=>lo+i*st
def zs(n:Net)(x y:Int)(z:Int):List Pt:=(prog z n.high.z n.step).map λz=>⟨x,y,z⟩
def ys(n:Net)(x:Int)(y:Int):List Pt:=(prog y n.high.y n.step).flatMap λy=>zs n x y n.low.z
def xs(n:Net)(x:Int):List Pt:=(prog x n.high.x n.step).flatMap λx=>ys n x n.low.y
def XA(n:Net):List Pt:=xs n n.low.x
def Net.V0(n:Net)(i:Int):OQ:=n.st.getD i.toNat ⟨⟨0,0,0⟩,0⟩
def Net.Pw(n:Net)(ph:Int):Rg:=if ph=0 then n.s0 else n.s1
def VN(n:Net)(i ph:Int)(p:Pt):Rg:=⟨(n.Pw ph).lo*adp (n.V0 i).p p / 1000,((n.Pw ph).hi*(adp (n.V0 i).p p+1)+999) / 1000⟩
def FI.ok(n:Net)(p:FI):Bool:=bW.cj p.st 0 (n.st.length-1) && (decide (p.ph<2) && p.t.cj (-100000000) 100000000)
def span(n:Net)(p:FI)(q:Pt):Rg:=⟨p.t.lo-(n.V0 p.st).err-(VN n p.st p.ph q).hi,p.t.hi+(n.V0 p.st).err-(VN n p.st p.ph q).lo⟩
def meet(a b:Rg):Rg:=⟨max a.lo b.lo,min a.hi b.hi⟩
def common:List Rg->Rg
 |[]=>⟨0,0⟩
 |r::l=>l.foldl meet r
def Rg.ne(r:Rg):Bool:=decide (r.lo<=r.hi)
end Go.bW
namespace Go.Proofs.YtanhdobabijmoaaGreatDoor
open List(length_flatMap map_take)
open Go Go.aA Go.bW
variable {J:SK}
theorem fC{a b c:Int}:lim T (.call false 178 [.int .i64 a,.int .i64 b,.int .i64 c] J)=some (.val (.bool (cj a b c)) J):=by
 refine aw G9 tL.eq_1 rfl ?_;by_cases h:b<=a<;>simp[-length_flatMap,-map_take,h,cj]
theorem acV{a:Int}:lim T (.call false 257 [.int .i64 a] J)=some (.val (.bool (cj a (-20000) 20000)) J):=by
 refine aw AV kA.eq_1 rfl ?_;simp[-length_flatMap,-map_take,fC]
theorem Rn{l:List Int}(hl:l.length<=9223372036854775807){fv:D}{p:Int->Bool}(ht:oJ T fv (.int .i64) p l)(hc:fv.cells=some [fv]):
  lim T (.call false 183 [.aJ l.length (l.flatMap aM),fv] J)=some (.val (.bool (fL l p)) J) :=
 AX (IA .i64) FV Eb yT AT hl ht hc
theorem xY{x y z:Int}:lim T (.call false 228 [.agg [.int .i64 x,.int .i64 y,.int .i64 z]] J)=some (.val (.bool (Pt.ok ⟨x,y,z⟩)) J):=by
 refine aw Cp mS.eq_1 rfl ?_;have h:∀J,lim T (.call false 183 [.aJ 3 [.int .i64 x,.int .i64 y,.int .i64 z],.fn 257 [] []] J)=some (.val (.bool (Pt.ok ⟨x,y,z⟩)) J):=λJ=>by
  have:=Rn (J:=J) (l:=[x,y,z]) (by simp) (fv:=.fn 257 [] []) (p:=λa=>cj a (-20000) 20000) (.fn λa _ J=>acV) rfl;simpa[Pt.ok,Bool.and_assoc,fL]using this
 simp[-length_flatMap,-map_take,h]
theorem JY{x y z a b c:Int}:lim T (.call false 224 [.agg [.int .i64 x,.int .i64 y,.int .i64 z],.agg [.int .i64 a,.int .i64 b,.int .i64 c]] J)=some (.val (.bool (Cr ⟨x,y,z⟩ ⟨a,b,c⟩)) J):=by
 refine aw Lf xN.eq_1 rfl ?_;cases hc1:Pt.ok ⟨x,y,z⟩
 .simp[-length_flatMap,-map_take,xY,Cr,hc1]
 cases hc2:Pt.ok ⟨a,b,c⟩
 .simp[-length_flatMap,-map_take,xY,Cr,hc1,hc2]
 by_cases hc3:x<=a
 rotate_left
 .simp[-length_flatMap,-map_take,xY,Cr,hc1,hc2,hc3]
 by_cases hc4:y<=b
 rotate_left
 .simp[-length_flatMap,-map_take,xY,Cr,hc1,hc2,hc3,hc4]
 simp[-length_flatMap,-map_take,xY,Cr,hc1,hc2,hc3,hc4]
theorem XS{n:Net}:n.pre=true↔(1<=(n.st.length:Int)/\(n.st.length:Int)<=12)/\fL n.st OQ.ok=true/\(n.low.ok=true/\n.high.ok=true/\n.low.x<=n.high.x/\n.low.y<=n.high.y/\n.low.z<=n.high.z) /\
  (1<=n.step/\n.step<=20000)/\(1<=n.s0.lo/\n.s0.lo<=n.s0.hi/\n.s0.hi<=2000)/\(1<=n.s1.lo/\n.s1.lo<=n.s1.hi/\n.s1.hi<=2000):=by
 simp only[Net.pre,ae,bk,Cr,Rg.cj,au]
structure acX(n:Net)(i ph:Int):Prop where
 i0:0<=i
 i1:i<n.st.length
 hph:ph=0\/ph=1
 p:(n.V0 i).p.ok=true
 e:0<=(n.V0 i).err/\(n.V0 i).err<=1000
 s:1<=(n.Pw ph).lo/\(n.Pw ph).lo<=(n.Pw ph).hi/\(n.Pw ph).hi<=2000
 cells:((n.st.flatMap OQ.enc).drop (i.toNat*4)).take 4=(n.V0 i).enc
theorem UX{n:Net}(h:n.ok=true){i ph:Int}(hi:cj i 0 (n.st.length-1)=true)(hp:0<=ph)(hp':ph<2):acX n i ph:=by
 simp only[Net.ok,ae]at h;have h0:=XS.1 h.1;rw[bk]at hi;have h1:i.toNat<n.st.length:=by omega
 have h2:n.st[i.toNat]?=some (n.V0 i):=by
  simp[Net.V0,List.getD,aC h1]
 have h3:=jq.1 h0.2.1 _ (ai h2);simp only[OQ.ok,ae,bk]at h3;refine⟨by omega,by omega,by omega,h3.1,h3.2,?_,bX (f:=OQ.enc) (w:=4) (λ_=>rfl) h2⟩;unfold Net.Pw;split<;>omega
structure Hd(n:Net)(l:List FI):Prop where
 ok:n.ok=true
 len:l.length<=60
 all:∀p∈l,FI.ok n p=true/\0<=p.ph
theorem Hd.adB{n:Net}{l:List FI}(h:Hd n l){p:FI}(hp:p∈l):acX n p.st p.ph:=by
 have h1:=h.all p hp;simp only[FI.ok,ae,au]at h1;exact UX h.ok h1.1.1 h1.2 h1.1.2.1
end Go.Proofs.YtanhdobabijmoaaGreatDoor
namespace Go.bW
open List(length_flatMap map_take)
open Go Go.aA
theorem Fb{α β:Type}{f:α->List β}{c:Nat}{l:List α}(h:∀x∈l,(f x).length=c):(l.flatMap f).length=l.length*c:=by
 induction l with
 |nil=>simp
 |cons a l ih =>
  rw[aS,aF,h a (by simp),ih λx hx=>h x (by simp[hx]),av,cq];omega
end Go.bW
namespace Go.Proofs.YtanhdobabijmoaaGreatDoor
open List(length_flatMap map_take)
open Go Go.aA Go.bW
variable {J:SK}
structure Bx(n:Net):Prop where
 st:1<=n.step/\n.step<=20000
 lx : -20000<=n.low.x/\n.low.x<=20000
 ly : -20000<=n.low.y/\n.low.y<=20000
 lz : -20000<=n.low.z/\n.low.z<=20000
 hx:n.low.x<=n.high.x/\n.high.x<=20000
 hy:n.low.y<=n.high.y/\n.high.y<=20000
 hz:n.low.z<=n.high.z/\n.high.z<=20000
 len:(XA n).length<=2000
end Go.Proofs.YtanhdobabijmoaaGreatDoor
namespace Go.bW
open List(length_flatMap map_take)
open Go Go.aA
def aef(l:List Int)(i:Nat):Bool:=decide (i=0) || decide (l.getD (i-1) 0<l.getD i 0)
def aeg(l:List Int):Bool:=fL (List.range' 0 l.length) (aef l)
def zJ.ok(r:zJ):Bool:=cj r.YZ 0 20000 && cj r.add 0 100
def HU.ok(s:HU):Bool:=cj s.levels.length 1 60 && (fL s.levels (λn=>cj n 1 1000000000) && (aeg s.levels && (cj s.rows.length 1 20 && (decide ((s.rows.getD 0 ⟨0,0⟩).YZ=0) && (fL s.rows zJ.ok && aeg (s.rows.map (·.YZ)))))))
def lvl(l:List Int)(a:Int):Nat:=(l.takeWhile λx=>decide (x<=a)).length
def AM.ok(n:Net)(r:AM):Bool:=cj r.st 0 (n.st.length-1) && cj r.amt 0 1000000000
end Go.bW
namespace Go.Proofs.YtanhdobabijmoaaGreatDoor
open List(length_flatMap map_take)
open Go Go.aA Go.bW
variable {J:SK}
end Go.Proofs.YtanhdobabijmoaaGreatDoor
namespace Go.bW
open List(length_flatMap map_take)
open Go Go.aA
def V1.ok(b:V1):Bool:=cj b.den 2 1000 && (cj b.num 1 (b.den-1) && (cj b.b 1 1000 && (cj b.a 0 b.b && cj b.aaP 2 1000)))
def next(b:V1)(c:Int)(hit:Bool):Int:=if hit then min (c*(b.b*b.num+b.a*(b.den-b.num)) / (b.b*b.num)) 1000000000000 else c*(b.b-b.a) / b.b
structure ahm(b:V1)(c:Int):Prop where
 w1:IntKind.i64.wrap (b.b*b.num)=b.b*b.num
 w2:IntKind.i64.wrap (b.den-b.num)=b.den-b.num
 w3:IntKind.i64.wrap (b.a*(b.den-b.num))=b.a*(b.den-b.num)
 w4:IntKind.i64.wrap (b.b*b.num+b.a*(b.den-b.num))=b.b*b.num+b.a*(b.den-b.num)
 w5:IntKind.i64.wrap (c*(b.b*b.num+b.a*(b.den-b.num)))=c*(b.b*b.num+b.a*(b.den-b.num))
 w6:IntKind.i64.wrap ((c*(b.b*b.num+b.a*(b.den-b.num))).tdiv (b.b*b.num))=c*(b.b*b.num+b.a*(b.den-b.num)) / (b.b*b.num)
 w7:b.b*b.num≠0
 w8:IntKind.i64.wrap (b.b-b.a)=b.b-b.a
 w9:IntKind.i64.wrap (c*(b.b-b.a))=c*(b.b-b.a)
 w10:IntKind.i64.wrap ((c*(b.b-b.a)).tdiv b.b)=c*(b.b-b.a) / b.b
 w11:b.b≠0
 w12:∀h,0<=next b c h/\next b c h<=1000000000000
 w13:min (c*(b.b-b.a) / b.b) 1000000000000=c*(b.b-b.a) / b.b
def sc(k0 k1 k2:Int):Bool:=decide (k0<=1000) && (decide (k1<=k0) && (decide (k2<=k1) && decide (0<=k2)))
def TV(n:Int):Bool:=cj n 0 1000000000
end Go.bW
namespace Go.Proofs.YtanhdobabijmoaaGreatDoor
open List(length_flatMap map_take)
open Go Go.aA Go.bW
variable {J:SK}
theorem HF{a:Int}:lim T (.call false 182 [.int .i64 a] J)=some (.val (.bool (TV a)) J):=by
 refine aw EP rB.eq_1 rfl ?_;simp[-length_flatMap,-map_take,fC,TV]
structure ahn(p k:Int):Prop where
 w1:IntKind.i64.wrap (p*k)=p*k
 w2:IntKind.i64.wrap ((p*k).tdiv 1000)=p*k / 1000
 w3:0<=p*k / 1000
 w4:p*k / 1000<=1000000000
end Go.Proofs.YtanhdobabijmoaaGreatDoor
namespace Go.bW
open List(length_flatMap map_take)
open Go Go.aA
structure xC where
 p:Pt
 mag:Int
structure Ev where
 tick:Int
 sp:List xC
structure dP where
 lo:Pt
 hi:Pt
 least:Int
 AF:Int
 count:Int
 RO:Int
@[simp] theorem xC.eta(p:xC):xC.mk p.p p.mag=p:=rfl
@[simp] theorem Ev.eta(p:Ev):Ev.mk p.tick p.sp=p:=rfl
@[simp] theorem dP.eta(p:dP):dP.mk p.lo p.hi p.least p.AF p.count p.RO=p:=rfl
@[simp] def xC.enc(s:xC):List D:=[.int .i64 s.p.x,.int .i64 s.p.y,.int .i64 s.p.z,.int .i64 s.mag]
@[simp] def Ev.enc(e:Ev):List D:=[.int .i64 e.tick,.aJ e.sp.length (e.sp.flatMap xC.enc)]
@[simp] def dP.enc(r:dP):List D:=[.int .i64 r.lo.x,.int .i64 r.lo.y,.int .i64 r.lo.z,.int .i64 r.hi.x,.int .i64 r.hi.y,.int .i64 r.hi.z,.int .i64 r.least,.int .i64 r.AF,.int .i64 r.count,.int .u8 r.RO]
def O0:WI xC:=yt 4 xC.enc λ_=>rfl
def ads:WI Ev:=yt 2 Ev.enc λ_=>rfl
def Xe:WI dP:=yt 10 dP.enc λ_=>rfl
def dP.RN(r:dP)(s:xC):Bool:=decide (r.least<=s.mag) && (cj s.p.x r.lo.x r.hi.x && (cj s.p.y r.lo.y r.hi.y && cj s.p.z r.lo.z r.hi.z))
def dP.ok(r:dP):Bool:=Cr r.lo r.hi && (cj r.least 0 160 && (cj r.AF 1 1000000 && (cj r.count 1 200 && (r.RO == 1 || r.RO == 2))))
def xC.ok(s:xC):Bool:=s.p.ok && cj s.mag 0 160
def Ev.ok(e:Ev):Bool:=cj e.tick 0 1000000 && (cj e.sp.length 1 2000 && fL e.sp xC.ok)
def dP.act(r:dP)(now:Int)(e:Ev):Bool:=decide (now-r.AF<e.tick) && decide (e.tick<=now)
def Hb(f:Ev->Bool):List Ev->Nat
 |[]=>0
 |e::l=>Hb f l+(if f e then 1 else 0)
def AD(r:dP)(now:Int)(e:Ev):Bool:=r.act now e && tV e.sp r.RN
def uE(r:dP)(now:Int)(e:Ev):Bool:=r.act now e && fL e.sp r.RN
def z6(f:dP->Ev->Bool)(l:List Ev):List dP->Int->Int
 |[],a=>a
 |r::R,a=>z6 f l R (if r.count<=Hb (f r) l then max a r.RO else a)
def UF(R:List dP)(l:List Ev)(now:Int):Int:=z6 (λr=>AD r now) l R 0
def VG(R:List dP)(l:List Ev)(now:Int):Int:=z6 (λr=>uE r now) l R 0
def qh(R:List dP)(l:List Ev)(now:Int):Int :=
 if 20<R.length then 3 else if fL R dP.ok=false then 1 else if 200<l.length then 3 else if fL l Ev.ok=false then 1 else if cj now 0 1000000=false then 2 else 0
theorem I4{r:dP}:r.ok=true↔Cr r.lo r.hi=true/\(0<=r.least/\r.least<=160)/\(1<=r.AF/\r.AF<=1000000)/\(1<=r.count/\r.count<=200)/\(r.RO=1\/r.RO=2):=by
 simp only[dP.ok,ae,bk,bY,beq_iff_eq]
end Go.bW
namespace Go.Proofs.YtanhdobabijmoaaGreatDoor
open List(length_flatMap map_take)
open Go Go.aA Go.bW
variable {J:SK}
theorem Mr{r:dP}{s:xC}:lim T (.call false 179 [.agg r.enc,.agg s.enc] J)=some (.val (.bool (r.RN s)) J):=by
 refine aw Cq mT.eq_1 rfl ?_;by_cases hc1:r.least<=s.mag
 rotate_left
 .simp[-length_flatMap,-map_take,fC,dP.RN,hc1]
 cases hc2:cj s.p.x r.lo.x r.hi.x
 .simp[-length_flatMap,-map_take,fC,dP.RN,hc1,hc2]
 cases hc3:cj s.p.y r.lo.y r.hi.y
 .simp[-length_flatMap,-map_take,fC,dP.RN,hc1,hc2,hc3]
 simp[-length_flatMap,-map_take,fC,dP.RN,hc1,hc2,hc3]
theorem MC{r:dP}:lim T (.call false 175 [.agg r.enc] J)=some (.val (.bool r.ok) J):=by
 refine aw Dy nU.eq_1 rfl ?_;cases hc1:Cr r.lo r.hi
 .simp[-length_flatMap,-map_take,fC,JY,dP.ok,hc1]
 cases hc2:cj r.least 0 160
 .simp[-length_flatMap,-map_take,fC,JY,dP.ok,hc1,hc2]
 cases hc3:cj r.AF 1 1000000
 .simp[-length_flatMap,-map_take,fC,JY,dP.ok,hc1,hc2,hc3]
 cases hc4:cj r.count 1 200
 .simp[-length_flatMap,-map_take,fC,JY,dP.ok,hc1,hc2,hc3,hc4]
 by_cases hc5:r.RO=1
 rotate_left
 .simp[-length_flatMap,-map_take,fC,JY,dP.ok,hc1,hc2,hc3,hc4,hc5]
 simp[-length_flatMap,-map_take,fC,JY,dP.ok,hc1,hc2,hc3,hc4,hc5]
theorem acO{s:xC}:lim T (.call false 227 [.agg s.enc] J)=some (.val (.bool s.ok) J):=by
 refine aw AU kz.eq_1 rfl ?_;cases hc1:Pt.ok s.p
 .simp[-length_flatMap,-map_take,fC,xY,xC.ok,hc1]
 simp[-length_flatMap,-map_take,fC,xY,xC.ok,hc1]
theorem JW{l:List xC}{p:xC->Bool}{fv:D}(ht:oJ T fv O0.val p l)(hc:fv.cells=some [fv])(hl:l.length<=9223372036854775807):
  lim T (.call false 181 [.aJ l.length (l.flatMap xC.enc),fv] J)=some (.val (.bool (fL l p)) J) :=
 AX O0 zT yh lY oi hl ht hc
theorem Ms{e:Ev}(hl:e.sp.length<=9223372036854775807):lim T (.call false 177 [.agg e.enc] J)=some (.val (.bool e.ok) J):=by
 refine aw Co mR.eq_1 rfl ?_;have ha:=λJ=>@JW J e.sp xC.ok (.fn 227 [] []) (.fn λs _ J=>acO) rfl hl
 cases hc1:cj e.tick 0 1000000
 .simp[-length_flatMap,-map_take,fC,ha,Ev.ok,hc1]
 cases hc2:cj e.sp.length 1 2000
 .simp[-length_flatMap,-map_take,fC,ha,Ev.ok,hc1,hc2]
 simp[-length_flatMap,-map_take,fC,ha,Ev.ok,hc1,hc2]
theorem OA{R:List dP}(hl:R.length<=9223372036854775807):
  lim T (.call false 174 [.aJ R.length (R.flatMap dP.enc),.fn 175 [] []] J)=some (.val (.bool (fL R dP.ok)) J) :=
 AX Xe zS yg uw vC hl (.fn λr _ J=>MC) rfl
theorem S4{l:List Ev}(hl:l.length<=9223372036854775807)(hs:∀e∈l,e.sp.length<=9223372036854775807):
  lim T (.call false 176 [.aJ l.length (l.flatMap Ev.enc),.fn 177 [] []] J)=some (.val (.bool (fL l Ev.ok)) J) :=
 AX ads yU xD tU vp hl (.fn λr hr J=>Ms (hs r hr)) rfl
end Go.Proofs.YtanhdobabijmoaaGreatDoor
