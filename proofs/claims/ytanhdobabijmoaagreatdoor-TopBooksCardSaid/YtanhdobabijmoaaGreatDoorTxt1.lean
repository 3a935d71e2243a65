import Derived.Test.YtanhdobabijmoaaGreatDoorTxt0
set_option linter.all false
namespace Go.Proofs.YtanhdobabijmoaaGreatDoor
open List(length_flatMap map_take)
section
open Go Go.aA Go.aI
variable {J:SK}
theorem Mv.of{b:cp}{m:bE}(h:Bv b)(hc:ed b.f [m]=0):Mv b m:=by
 refine⟨h,?_⟩;simp only[ed,h.fv,if_true,cU.aj]at hc;have h1:cj (([m]:List bE).length:Nat) 1 40=true:=by simp[cj]
 rw[if_pos h1]at hc;simp only[cU.each]at hc;split at hc
 .rename_i hm;unfold cU.model at hm;split at hm
  .split at hm
   .rename_i hh;exact hh.1
   .cases hm
  .cases hm
 .rename_i hm;exact absurd hc hm
theorem OD{b:cp}{m:bE}(h:Bv b)(hn:m.name.length<=1000000000)(hl:m.aU.length<=1000000000):lim T (.call false 219 [.agg [.int .i64 b.f.x,.int .i64 b.f.y,.int .i64 b.f.z,.int .i64 b.f.k,.aJ b.cn.length (b.cn.flatMap Rw.enc),.int .i64 b.bL,.int .i64 b.lift,.int .i64 b.deep,.aJ b.an.length (b.an.flatMap bJ.enc),.str m.name,.aJ m.aU.length (m.aU.flatMap aM)]] J)=some (.val (.bool (fits b m)) J):=by
 refine aw D4 pa.eq_1 rfl ?_;have hC:=λJ=>zH (J:=J) (f:=b.f) (l:=[m]) (by simpa using⟨hn,hl⟩) (by simp)
 simp at hC;by_cases hc:ed b.f [m]=0
 .have hm:=Mv.of h hc;simp[-length_flatMap,-map_take,hC,hc];refine WL.to (TH (J:=[]::J) hm 4 0 (by omega)) (by simp) rfl ?_;rintro x e J' ⟨rfl,hh⟩;have he:An b m 0 4=fits b m:=by
   simp[An,fits,hc,LX]
  rw[he]at hh;cases hf:fits b m
  .rw[hf]at hh;simp at hh;simp[hh]
  .rw[hf]at hh;simp at hh;subst hh;simp[-length_flatMap,-map_take]
 .simp[-length_flatMap,-map_take,hC,hc,fits]
theorem YH{b:cp}{m:bE}(h1:b.cn.length<=1000000000)(h2:b.an.length<=1000000000)(hn:m.name.length<=1000000000)(hl:m.aU.length<=1000000000)(hb:Bd b m=true):
  lim T (.call false 169 [.agg [.int .i64 b.f.x,.int .i64 b.f.y,.int .i64 b.f.z,.int .i64 b.f.k,.aJ b.cn.length (b.cn.flatMap Rw.enc),.int .i64 b.bL,.int .i64 b.lift,.int .i64 b.deep,.aJ b.an.length (b.an.flatMap bJ.enc)],.agg [.str m.name,.aJ m.aU.length (m.aU.flatMap aM)]] J)=some (.val (.db [.agg [.int .i64 b.f.x,.int .i64 b.f.y,.int .i64 b.f.z,.int .i64 b.f.k,.aJ b.cn.length (b.cn.flatMap Rw.enc),.int .i64 b.bL,.int .i64 b.lift,.int .i64 b.deep,.aJ b.an.length (b.an.flatMap bJ.enc),.str m.name,.aJ m.aU.length (m.aU.flatMap aM)],.int .i64 0]) J):=by
 refine aw H4 yy.eq_1 rfl ?_;simp only[Bd,ae]at hb;have hf:=λJ=>OD (J:=J) (Bv.of hb.1) hn hl
 simp[-length_flatMap,-map_take,B8 h1 h2,hb.1,hf,hb.2,cG,bA,bh]
theorem PR{b:cp}{m:bE}(h1:b.cn.length<=1000000000)(h2:b.an.length<=1000000000)(hn:m.name.length<=1000000000)(hl:m.aU.length<=1000000000)(hb:Bd b m=false):∃d,
  lim T (.call false 169 [.agg [.int .i64 b.f.x,.int .i64 b.f.y,.int .i64 b.f.z,.int .i64 b.f.k,.aJ b.cn.length (b.cn.flatMap Rw.enc),.int .i64 b.bL,.int .i64 b.lift,.int .i64 b.deep,.aJ b.an.length (b.an.flatMap bJ.enc)],.agg [.str m.name,.aJ m.aU.length (m.aU.flatMap aM)]] J)=some (.val (.db [.agg d,.int .i64 1]) J)/\d.length=11/\D.bj d=true:=by
 refine⟨[(.int .i64 0),(.int .i64 0),(.int .i64 0),(.int .i64 0),.bP,(.int .i64 0),(.int .i64 0),(.int .i64 0),.bP,(.str []),.bP],?_,rfl,by simp⟩;refine aw H4 yy.eq_1 rfl ?_;cases hc:b.valid
 .simp[-length_flatMap,-map_take,B8 h1 h2,hc]
 .have hf:=λJ=>OD (J:=J) (Bv.of hc) hn hl
  have hb':fits b m=false:=by simpa[Bd,hc]using hb
  simp[-length_flatMap,-map_take,B8 h1 h2,hc,hf,hb']
theorem Wo{n:Int}:lim T (.call false 259 [.int .i64 n] J)=some (.val (.bool (cj n (-100000) 100000)) J):=by
 refine aw DY oZ.eq_1 rfl ?_;simp[-length_flatMap,-map_take,dB]
theorem Rx{l:List Int}{p:Int->Bool}{fv:D}(hl:l.length<=1000000000)(ht:oJ T fv (λn => .int .i64 n) p l)(hc:fv.cells=some [fv]):
  lim T (.call false 252 [.aJ l.length (l.flatMap aM),fv] J)=some (.val (.bool (fL l p)) J) :=
 AX (IA .i64) (f:=252) (g:=281) (h:=81) (i:=27) (l:=l) (p:=p) (fv:=fv) rfl rfl rfl rfl (by omega) ht hc
theorem Wp{b:cp}{l:List Int}(hl:l.length<=1000000000):lim T (.call false 234 [.agg [.int .i64 b.f.x,.int .i64 b.f.y,.int .i64 b.f.z,.int .i64 b.f.k,.aJ b.cn.length (b.cn.flatMap Rw.enc),.int .i64 b.bL,.int .i64 b.lift,.int .i64 b.deep,.aJ b.an.length (b.an.flatMap bJ.enc)],.aJ l.length (l.flatMap aM)] J)=some (.val (.int .i64 (Bu b l)) J):=by
 refine aw FN su.eq_1 rfl ?_;have ha:=λJ=>Rx (J:=J) (l:=l) (p:=λn=>cj n (-100000) 100000) (fv:=.fn 259 [] []) hl (oJ.fn λx _ J=>Wo) rfl
 unfold Bu;by_cases hc1:l.length=b.an.length
 .rw[<- hc1];cases hc2:fL l (λn=>cj n (-100000) 100000)<;>simp[-length_flatMap,-map_take,hc1,ha,hc2,hc1 ▸ ha]
 .simp[-length_flatMap,-map_take,hc1,show ¬(l.length:Int)=b.an.length by omega]
def Hf(l:List Int):List D:=[.aJ l.length (l.flatMap aM)]
theorem TJ{b:cp}{aD:List (List Int)}(hl:aD.length<=1000000000)(hs:∀l∈aD,l.length<=1000000000):∀(m i:Nat),i+m=aD.length ->
  WL T [2,11,12,13] false kb [(2,.bq [.int .i64 b.f.x,.int .i64 b.f.y,.int .i64 b.f.z,.int .i64 b.f.k,.aJ b.cn.length (b.cn.flatMap Rw.enc),.int .i64 b.bL,.int .i64 b.lift,.int .i64 b.deep,.aJ b.an.length (b.an.flatMap bJ.enc)]),(11,.aJ aD.length (aD.flatMap Hf)),(12,.int .i64 aD.length),(13,.int .i64 i)] J
   (λx e J'=>J'=J/\if cQ (Bu b) (aD.drop i)=0 then x=.exit 0 else x=.ret/\get e 4=.int .i64 (cQ (Bu b) (aD.drop i)))
 |0,i,hi=>by
  refine aH kb.eq_1 ?_;have h1:¬i<aD.length:=by omega
  have h2:aD.drop i=[]:=aE (by omega);simp[-length_flatMap,-map_take,h1,h2,cQ]
 |m+1,i,hi=>by
  refine aH kb.eq_1 ?_;have h1:i<aD.length:=by omega
  obtain⟨l,hx⟩:=gE h1;have h2:=bX (f:=Hf) (w:=1) (λ_=>rfl) hx;simp only[Hf,ec]at h2;have h4:=dJ h1;have h5:=drop_at hx;have hC:=λJ=>Wp (J:=J) (b:=b) (l:=l) (hs l (ai hx))
  rw[h5,cQ];have ih:=TJ (b:=b) hl hs m (i+1) (by omega);by_cases hc:Bu b l=0
  .simp[-length_flatMap,-map_take,h1,h2,h4,hC,hc,Hf];exact WL.to ih (by simp[Hf]) rfl λx e J' hh=>by simpa[hc]using hh
  .simp[-length_flatMap,-map_take,h1,h2,h4,hC,hc,Hf]
theorem Tl{b:cp}{aD:List (List Int)}(hl:aD.length<=1000000000)(hs:∀l∈aD,l.length<=1000000000):
  lim T (.call false 188 [.agg [.int .i64 b.f.x,.int .i64 b.f.y,.int .i64 b.f.z,.int .i64 b.f.k,.aJ b.cn.length (b.cn.flatMap Rw.enc),.int .i64 b.bL,.int .i64 b.lift,.int .i64 b.deep,.aJ b.an.length (b.an.flatMap bJ.enc)],.aJ aD.length (aD.flatMap Hf)] J)=some (.val (.int .i64 (xu b aD)) J):=by
 refine aw G4 tH.eq_1 rfl ?_;unfold xu;by_cases hc:200<aD.length
 .simp[-length_flatMap,-map_take,hc,show(200:Int)<aD.length by omega]
 .simp[-length_flatMap,-map_take,hc,show ¬(200:Int)<aD.length by omega];refine WL.to (TJ (J:=[]::J) (b:=b) hl hs aD.length 0 (by omega)) (by simp) rfl ?_;rintro x e J' ⟨rfl,h⟩;simp only[aP]at h;by_cases hc2:cQ (Bu b) aD=0
  .rw[if_pos hc2]at h;subst h;simp[-length_flatMap,-map_take,hc2,show aD.length<=200 by omega]
  .rw[if_neg hc2]at h;obtain⟨rfl,h⟩:=h;simp[h,show ¬200<aD.length by omega]
structure Fv(b:cp)(m:bE):Prop extends Mv b m where
 hold:∀i,i<b.n->1000<=aI.hold b m i/\aI.hold b m i<=100000
 JM:∀i,i<b.n->0<=aI.JM b m i/\aI.JM b m i<=1000
 JV:∀i,i<b.n->0<=aI.JV b m i/\aI.JV b m i<=3000
 feed:∀i,i<b.n->0<=aI.feed b m i/\aI.feed b m i<=1000
theorem Fv.of{b:cp}{m:bE}(h:Bd b m=true):Fv b m:=by
 simp only[Bd,fits,ae,au]at h;obtain⟨h1,h2,h3,h4,h5,h6⟩:=h;have hm:=Mv.of (Bv.of h1) h2;have key:∀{k:Nat} {lo hi:Int},k<4->fL (wW b m k) (λn=>cj n lo hi)=true->∀i,i<b.n->lo<=vK b m k i/\vK b m k i<=hi:=by
  intro k lo hi hk ha i hi';exact bk.1 (jq.1 ha _ (ai (yD hm hk hi')))
 exact⟨hm,key (by omega) h3,key (by omega) h4,key (by omega) h5,key (by omega) h6⟩
theorem CQ{b:cp}(h:Bv b){i:Nat}(hi:i<b.n):0<=weight b i/\weight b i<=64000:=by
 have hl:=h.lift;have hn:=h.n;have hle:i / (b.f.x.toNat*b.f.y.toNat)<=i:=Nat.div_le_self _ _;have hq:=Int.natCast_nonneg (i / (b.f.x.toNat*b.f.y.toNat));have hle2:((i / (b.f.x.toNat*b.f.y.toNat):Nat):Int)<=64:=by
  have:i / (b.f.x.toNat*b.f.y.toNat)<=64:=by omega
  exact Int.ofNat_le.2 this
 unfold weight;exact oG (A:=64) (B:=1000) hq hle2 hl.1 hl.2
theorem HL{b:cp}{m:bE}(h:Bv b){i:Nat}(hi:i<b.n):lim T (.call false 269 [.agg [.int .i64 b.f.x,.int .i64 b.f.y,.int .i64 b.f.z,.int .i64 b.f.k,.aJ b.cn.length (b.cn.flatMap Rw.enc),.int .i64 b.bL,.int .i64 b.lift,.int .i64 b.deep,.aJ b.an.length (b.an.flatMap bJ.enc),.str m.name,.aJ m.aU.length (m.aU.flatMap aM)],.int .i64 i] J)=some (.val (.int .i64 (weight b i)) J):=by
 refine aw Ck mJ.eq_1 rfl ?_;have hx:=h.x;have hy:=h.y;have hn:=h.n;obtain⟨s1,_⟩:=cU.sz h.x h.y h.z;have w1:=eQ (n:=b.f.x*b.f.y);have e1:b.f.x*b.f.y=((b.f.x.toNat*b.f.y.toNat:Nat):Int):=by push_cast;rw[ft (by omega),ft (by omega)]
 have e2:(i:Int) / (b.f.x*b.f.y)=((i / (b.f.x.toNat*b.f.y.toNat):Nat):Int):=by
  rw[e1];rfl
 have hle:i / (b.f.x.toNat*b.f.y.toNat)<=i:=Nat.div_le_self _ _;have hw:=CQ h hi;have hq:(0:Int)<=(i:Int) / (b.f.x*b.f.y):=by rw[e2];exact Int.natCast_nonneg _
 have hq2:(i:Int) / (b.f.x*b.f.y)<=64:=by
  rw[e2];have:i / (b.f.x.toNat*b.f.y.toNat)<=64:=by omega
  exact Int.ofNat_le.2 this
 have w2:=eQ (n:=(i:Int) / (b.f.x*b.f.y));have w3:=eQ (n:=weight b i);have hne:¬b.f.x*b.f.y=0:=by omega
 have hnx:¬b.f.x=0:=by omega
 have hny:¬b.f.y=0:=by omega
 have e3:(i:Int) / (b.f.x*b.f.y)*b.lift=weight b i:=by rw[e2];rfl
 simp[-length_flatMap,-map_take,w1,w2,hne,hnx,hny,e3,w3]
theorem ZI{n d:Int}(hn : -200000000000<=n/\n<=200000000000)(hd:1<=d/\d<=100000):lim T (.call false 270 [.int .i64 n,.int .i64 d] J)=some (.val (.int .i64 (down n d)) J):=by
 refine aw MO zf.eq_1 rfl ?_;have h1:=Int.mul_tdiv_add_tmod n d;have h2:=Int.tmod_lt_of_pos n (show 0<d by omega);have h3:=Int.lt_tmod_of_pos n (show 0<d by omega);unfold down;generalize hq:n.tdiv d=q at *
 generalize n.tmod d=r at *
 have h4:d*q=q*d:=Int.mul_comm _ _;have hb : -200000100001<=q/\q<=200000100001:=by
  rcases mq 0 q with h | h
  .have:=Int.mul_le_mul_of_nonneg_left hd.1 h;omega
  .have:=Int.mul_le_mul_of_nonpos_left h hd.1;omega
 have w1:=eQ (n:=q);have w2:=eQ (n:=q*d);have w3:=eQ (n:=q-1);have hne:¬d=0:=by omega
 have key:n / d=if n<q*d then q-1 else q:=by
  split
  .rename_i hc;refine((Int.ediv_emod_unique (r:=r+d) (show 0<d by omega)).2 ⟨?_,?_,?_⟩).1
   .rw[Int.mul_sub];omega
   .omega
   .omega
  .rename_i hc;refine((Int.ediv_emod_unique (r:=r) (show 0<d by omega)).2 ⟨?_,?_,?_⟩).1<;>omega
 rw[key];by_cases hc:n<q*d<;>simp[-length_flatMap,-map_take,hq,w1,w2,w3,hne,hc]
theorem wV{α:Type}{f:α->List D}{w n:Nat}(hn:1<n)(hw:∀x,(f x).length=w)(hc:∀x,D.bj (f x)=true){l:List α}{j v:Nat}{bs:List aA.aO}(hJ:J≠[])(hj:bs[j]?=some (.cells v (l.flatMap f))):
  cC (J.length-1) n (.sl J.length j v 0 l.length w) (bs::J)=(.aJ l.length (l.flatMap f),bs.set j .dead::J):=by
 have h3:¬J.length<=J.length-1:=by have:=aN.2 hJ;omega
 rw[yB h3 (cs:=l.flatMap f) (by simp[hj]) (by omega)];have h4:0<n-1:=by omega
 simp[LG hw l,cT hc l,h4]
theorem C3{b:cp}{m:bE}:(dH b m).length=b.n:=by simp[dH]
theorem Hn(l:List aI.aO):(l.flatMap aO.enc).length=l.length*3:=bK (f:=aO.enc) (w:=3) (λ_=>rfl) l
theorem PZ{b:cp}{m:bE}(h:Fv b m):∀(n i v:Nat),i+n=b.n ->
  WL T [1,2,6,7] false gI [(1,.bq [.int .i64 b.f.x,.int .i64 b.f.y,.int .i64 b.f.z,.int .i64 b.f.k,.aJ b.cn.length (b.cn.flatMap Rw.enc),.int .i64 b.bL,.int .i64 b.lift,.int .i64 b.deep,.aJ b.an.length (b.an.flatMap bJ.enc),.str m.name,.aJ m.aU.length (m.aU.flatMap aM)]),(2,.sl J.length 0 v 0 i 3),(6,.int .i64 b.n),(7,.int .i64 i)] ([.cells v (((dH b m).take i).flatMap aO.enc)]::J)
   (λx e J'=>x=.exit 0/\get e 2=.sl J.length 0 (v+n) 0 (dH b m).length 3/\J'=[.cells (v+n) ((dH b m).flatMap aO.enc)]::J)
 |0,i,v,hi=>by
  refine aH gI.eq_1 ?_;obtain rfl:i=b.n:=by omega
  have h3:(dH b m).take b.n=dH b m:=af (by simp[C3]);simp[-length_flatMap,-map_take,h3,C3]
 |n+1,i,v,hi=>by
  refine aH gI.eq_1 ?_;have h1:i<b.n:=by omega
  have hn:=h.bv.n;have h4:=dJ h1;have ho:=λJ=>Ta (J:=J) h.toMv h1
  have hw:=λJ=>ZY (J:=J) h.toMv h1
  have b1:=h.hold i h1;have b2:=h.JV i h1;have b3:=oG (by omega:0<=hold b m i) b1.2 b2.1 b2.2;have w1:=eQ (n:=hold b m i*JV b m i);have ih:=PZ h n (i+1) (v+1) (by omega);have hx:(dH b m)[i]?=some ⟨hold b m i,hold b m i*JV b m i,0⟩:=by simp[dH,h1]
  have a3:=F7 (f:=aO.enc) hx;have a4:=Hn ((dH b m).take i);rw[fT,C3,Nat.min_eq_left (by omega)]at a4;have a6:(((dH b m).take i).flatMap aO.enc).take (i*3)=((dH b m).take i).flatMap aO.enc:=af (by omega);have h7:(i+1)*24<=room:=by unfold room;omega
  simp[-length_flatMap,-map_take,h1,h4,ho,hw,w1,a4,a6,h7,cG,bA,bh];refine WL.to ih (by simp[cG,bA,bh]) (by simp[<- a3]) λx e J hh=>by simpa[di,Nat.add_comm 1 n]using hh
theorem FG{b:cp}{m:bE}(h:Fv b m)(hJ:J≠[]):lim T (.call false 170 [.agg [.int .i64 b.f.x,.int .i64 b.f.y,.int .i64 b.f.z,.int .i64 b.f.k,.aJ b.cn.length (b.cn.flatMap Rw.enc),.int .i64 b.bL,.int .i64 b.lift,.int .i64 b.deep,.aJ b.an.length (b.an.flatMap bJ.enc),.str m.name,.aJ m.aU.length (m.aU.flatMap aM)]] J)=some (.val (SY (dH b m)) J):=by
 refine aw Dr nN.eq_1 rfl ?_;have hs:=λJ=>Ab (J:=J) h.bv
 simp[-length_flatMap,-map_take,hs,cG,bA,bh];refine WL.to (PZ (J:=J) h b.n 0 0 (by omega)) (by simp) (by simp) ?_;rintro x e J' ⟨rfl,g2,rfl⟩;simp[-length_flatMap,-map_take,g2];rw[wV (f:=aO.enc) (by decide) (λ_=>rfl) (λx=>by simp) hJ (by simp)];simp[SY]
theorem aO.LL{x:aI.aO}:x.valid=true↔(1<=x.m/\x.m<=1000000)/\(0<=x.h/\x.h<=10000000000)/\(0<=x.k/\x.k<=1000000000000):=by
 simp[aI.aO.valid,cj]
structure Sv(b:cp)(s:List aI.aO):Prop where
 len:s.length=b.n
 ok:∀x∈s,x.valid=true
theorem Sv.of{b:cp}{s:List aI.aO}(h:Bv b):zD b s=true↔Sv b s:=by
 have hs:=h.sz;have hn:=h.n;unfold zD;simp only[ae,au];constructor
 .rintro⟨h1,h2⟩;exact⟨by unfold cp.size at h1;omega,jq.1 h2⟩
 .rintro⟨h1,h2⟩;exact⟨by unfold cp.size;omega,jq.2 h2⟩
theorem Sv.at{b:cp}{s:List aI.aO}(h:Sv b s){i:Nat}(hi:i<b.n):s[i]?=some (bZ s i)/\(1<=(bZ s i).m/\(bZ s i).m<=1000000)/\(0<=(bZ s i).h/\(bZ s i).h<=10000000000)/\(0<=(bZ s i).k/\(bZ s i).k<=1000000000000):=by
 have h1:i<s.length:=by have:=h.len;omega
 have h2:s[i]?=some (bZ s i):=by simp[bZ,h1]
 exact⟨h2,aO.LL.1 (h.ok _ (ai h2))⟩
theorem Sv.first{b:cp}{m:bE}(h:Fv b m):Sv b (dH b m):=by
 refine⟨C3,λx hx=>?_⟩;simp only[dH,bN,List.mem_range]at hx;obtain⟨i,hi,rfl⟩:=hx;have b1:=h.hold i hi;have b2:=h.JV i hi;have b3:=oG (by omega:0<=hold b m i) b1.2 b2.1 b2.2;exact aO.LL.2 ⟨⟨by simp only;omega,by simp only;omega⟩,⟨b3.1,by simp only;omega⟩,by simp⟩
theorem Vg{r:Rw}(h:r.alone=true):(1<=r.p/\r.p<=10000)/\(0<=r.l/\r.l<=4000):=by
 simp only[Rw.alone,ae]at h;exact⟨bk.1 h.2.1,bk.1 h.2.2.1⟩
theorem P7{s:List aI.aO}{i:Nat}{x:aI.aO}{t:List Rw}(hx:s[i]?=some x)(hm:0<=x.m/\x.m<=1000000)(ht:∀r∈t,r.alone=true)(hl:t.length<=1000):∀(n j:Nat) (o:Int),j+n=t.length ->
  WL T [1,2,7,34,35,36] false fm [(1,.aJ s.length (s.flatMap aO.enc)),(2,.int .i64 i),(7,.int .i64 o),(34,.aJ t.length (t.flatMap Rw.enc)),(35,.int .i64 t.length),(36,.int .i64 j)] J
   (λx' e J'=>J'=J/\x'=.exit 0/\get e 7=.int .i64 ((t.drop j).foldl (qR x) o))
 |0,j,o,hj=>by
  refine aH fm.eq_1 ?_;have h1:¬j<t.length:=by omega
  have h2:t.drop j=[]:=aE (by omega);simp[-length_flatMap,-map_take,h1,h2]
 |n+1,j,o,hj=>by
  refine aH fm.eq_1 ?_;have h1:j<t.length:=by omega
  obtain⟨r,hr⟩:=gE h1;have hrb:=Vg (ht r (ai hr));have h2:=bX (f:=Rw.enc) (w:=5) (λ_=>rfl) hr;have h3:=bX (f:=aO.enc) (w:=3) (λ_=>rfl) hx;have h4:=dJ h1;have h5:=drop_at hr;have hi:i<s.length:=(ar.1 hx).1;have b1:=oG hrb.2.1 hrb.2.2 hm.1 hm.2;have w1:=eQ (n:=r.l*x.m);have ih:=P7 hx hm ht hl n (j+1) (qR x o r) (by omega);rw[h5];simp only[List.foldl_cons];by_cases hc:r.l*x.m<=x.h
  .have hm2:(if o<r.p then r.p else o)=qR x o r:=by unfold qR;rw[if_pos hc];omega
   simp[-length_flatMap,-map_take,h1,h2,h3,h4,hi,w1,hc];refine WL.to ih (by simp[qR,hc]) rfl λx e J hh=>hh
  .simp[-length_flatMap,-map_take,h1,h2,h3,h4,hi,w1,hc];refine WL.to ih (by simp[qR,hc]) rfl λx e J hh=>hh
theorem HJ{b:cp}{m:bE}{s:List aI.aO}(h:Fv b m)(hs:Sv b s){i:Nat}(hi:i<b.n):
  lim T (.call false 238 [.agg [.int .i64 b.f.x,.int .i64 b.f.y,.int .i64 b.f.z,.int .i64 b.f.k,.aJ b.cn.length (b.cn.flatMap Rw.enc),.int .i64 b.bL,.int .i64 b.lift,.int .i64 b.deep,.aJ b.an.length (b.an.flatMap bJ.enc),.str m.name,.aJ m.aU.length (m.aU.flatMap aM)],.aJ s.length (s.flatMap aO.enc),.int .i64 i] J)=some (.val (.int .i64 (kj b m s i)) J):=by
 refine aw AS ku.eq_1 rfl ?_;have hw:=λJ=>HL (J:=J) (m:=m) h.bv hi
 have ho:=λJ=>Ta (J:=J) h.toMv hi
 have b1:=h.hold i hi;obtain⟨hx,b2,b3,b4⟩:=hs.at hi;have hil:i<s.length:=by have:=hs.len;omega
 have hst:=h.bv.bL;have b5:=CQ h.bv hi;have b6 : -100000000000<=b.bL*((bZ s i).m-hold b m i)/\b.bL*((bZ s i).m-hold b m i)<=100000000000:=by
  rcases mq (hold b m i) (bZ s i).m with hh | hh
  .have:=oG (a:=b.bL) (b:=(bZ s i).m-hold b m i) (A:=100000) (B:=1000000) (by omega) hst.2 (by omega) (by omega);omega
  .have:=oG (a:=b.bL) (b:=hold b m i-(bZ s i).m) (A:=100000) (B:=1000000) (by omega) hst.2 (by omega) (by omega);have e:b.bL*((bZ s i).m-hold b m i) = - (b.bL*(hold b m i-(bZ s i).m)):=by rw[<- Int.mul_neg];congr 1;omega
   omega
 have hd:=λJ=>ZI (J:=J) (n:=b.bL*((bZ s i).m-hold b m i)) (d:=hold b m i) (by omega) (by omega)
 have b7 : -100000000000<=down (b.bL*((bZ s i).m-hold b m i)) (hold b m i)/\down (b.bL*((bZ s i).m-hold b m i)) (hold b m i)<=100000000000:=by
  unfold down;constructor
  .rw[Int.le_ediv_iff_mul_le (by omega)];omega
  .have:=Int.ediv_le_self (b:=hold b m i) (a:=b.bL*((bZ s i).m-hold b m i));rcases mq 0 (b.bL*((bZ s i).m-hold b m i))with hh | hh
   .have:=this hh;omega
   .have:=Int.ediv_le_of_le_mul (b:=0) (show 0<hold b m i by omega) (by omega:b.bL*((bZ s i).m-hold b m i)<=0*hold b m i);omega
 have w1:=eQ (n:=(bZ s i).m-hold b m i);have w2:=eQ (n:=b.bL*((bZ s i).m-hold b m i));have w3:=eQ (n:=weight b i+down (b.bL*((bZ s i).m-hold b m i)) (hold b m i));have h3:=bX (f:=aO.enc) (w:=3) (λ_=>rfl) hx;have htab:=h.bv.cn;simp only[jV,ae]at htab;have ht:=bk.1 htab.1;simp[-length_flatMap,-map_take,hw,ho,hil,h3,w1,w2,hd,w3];refine WL.to (P7 (J:=[]::J) hx ⟨by omega,by omega⟩ (jq.1 htab.2.1) (by omega) b.cn.length 0 (max 0 (weight b i+down (b.bL*((bZ s i).m-hold b m i)) (hold b m i))) (by omega)) (by simp) rfl ?_;rintro x e J' ⟨rfl,rfl,g⟩;simp[-length_flatMap,-map_take,g,kj]
theorem LP{b:cp}{m:bE}{s:List aI.aO}:(b9 b m s).length=s.length:=by simp[b9]
theorem zq(l:List Int):(l.flatMap aM).length=l.length:=by
 have:=bK (f:=aM) (w:=1) (λ_=>rfl) l;omega
theorem GA{b:cp}{m:bE}{s:List aI.aO}(h:Fv b m)(hs:Sv b s):∀(n i v:Nat),i+n=s.length ->
  WL T [1,2,4,7,8] false eI [(1,.aJ s.length (s.flatMap aO.enc)),(2,.bq [.int .i64 b.f.x,.int .i64 b.f.y,.int .i64 b.f.z,.int .i64 b.f.k,.aJ b.cn.length (b.cn.flatMap Rw.enc),.int .i64 b.bL,.int .i64 b.lift,.int .i64 b.deep,.aJ b.an.length (b.an.flatMap bJ.enc),.str m.name,.aJ m.aU.length (m.aU.flatMap aM)]),(4,.sl J.length 0 v 0 i 1),(7,.int .i64 s.length),(8,.int .i64 i)] ([.cells v (((b9 b m s).take i).flatMap aM)]::J)
   (λx e J'=>x=.exit 0/\get e 4=.sl J.length 0 (v+n) 0 (b9 b m s).length 1/\J'=[.cells (v+n) ((b9 b m s).flatMap aM)]::J)
 |0,i,v,hi=>by
  refine aH eI.eq_1 ?_;have h1:¬i<s.length:=by omega
  have h3:(b9 b m s).take i=b9 b m s:=af (by rw[LP];omega);simp[-length_flatMap,-map_take,h1,h3,LP];omega
 |n+1,i,v,hi=>by
  refine aH eI.eq_1 ?_;have h1:i<s.length:=by omega
  have hn:=h.bv.n;have hl:=hs.len;have h4:=dJ h1;have hp:=λJ=>HJ (J:=J) h hs (i:=i) (by omega)
  have ih:=GA h hs n (i+1) (v+1) (by omega);have hx:(b9 b m s)[i]?=some (kj b m s i):=by simp[b9,h1]
  have a3:=F7 (f:=aM) hx;have a4:=zq ((b9 b m s).take i);rw[fT,LP,Nat.min_eq_left (by omega)]at a4;have a6:(((b9 b m s).take i).flatMap aM).take i=((b9 b m s).take i).flatMap aM:=af (by omega);have h7:(i+1)*8<=room:=by unfold room;omega
  simp[-length_flatMap,-map_take,h1,h4,hp,a4,a6,h7,cG,bA,bh];refine WL.to ih (by simp[cG,bA,bh]) (by simp[<- a3]) λx e J hh=>by simpa[di,Nat.add_comm 1 n]using hh
theorem MB{b:cp}{m:bE}{s:List aI.aO}(h:Fv b m)(hs:Sv b s)(hJ:J≠[]):lim T (.call false 282 [.agg [.int .i64 b.f.x,.int .i64 b.f.y,.int .i64 b.f.z,.int .i64 b.f.k,.aJ b.cn.length (b.cn.flatMap Rw.enc),.int .i64 b.bL,.int .i64 b.lift,.int .i64 b.deep,.aJ b.an.length (b.an.flatMap bJ.enc),.str m.name,.aJ m.aU.length (m.aU.flatMap aM)],.aJ s.length (s.flatMap aO.enc)] J)=some (.val (.aJ (b9 b m s).length ((b9 b m s).flatMap aM)) J):=by
 refine aw Ag jN.eq_1 rfl ?_;simp[-length_flatMap,-map_take,cG,bA,bh];refine WL.to (GA (J:=J) h hs s.length 0 0 (by omega)) (by simp) (by simp) ?_;rintro x e J' ⟨rfl,g4,rfl⟩;simp[-length_flatMap,-map_take,g4];rw[wV (f:=aM) (by decide) (λ_=>rfl) (λx=>by simp) hJ (by simp)];simp
theorem OB{x:aI.aO}:lim T (.call false 287 [.agg x.enc] J)=some (.val (.bool x.valid) J):=by
 refine aw D1 o6.eq_1 rfl ?_;cases hc1:cj x.m 1 1000000
 .simp[-length_flatMap,-map_take,dB,aI.aO.valid,hc1]
 cases hc2:cj x.h 0 10000000000
 .simp[-length_flatMap,-map_take,dB,aI.aO.valid,hc1,hc2]
 cases hc3:cj x.k 0 1000000000000
 .simp[-length_flatMap,-map_take,dB,aI.aO.valid,hc1,hc2,hc3]
 simp[-length_flatMap,-map_take,dB,aI.aO.valid,hc1,hc2,hc3]
theorem KM{x q m A:Int}(hm:1<=m)(hx:0<=x/\x<=A)(hq:0<=q/\q<=m):0<=(x*q).tdiv m/\(x*q).tdiv m<=A:=by
 have h1:=cZ hx.1 hq.1;rw[bC h1];refine⟨Int.ediv_nonneg h1 (by omega),Int.ediv_le_of_le_mul (by omega) ?_⟩;exact kO hx.2 hq.2 hq.1 (by omega)
theorem Tj{x:aI.aO}{q:Int}(hm:1<=x.m/\x.m<=1000000)(hh:0<=x.h/\x.h<=10000000000)(hk:0<=x.k/\x.k<=1000000000000)(hq:0<=q/\q<=x.m):
  lim T (.call false 264 [.agg x.enc,.int .i64 q] J)=some (.val (.agg (x.out q).enc) J):=by
 refine aw FP sy.eq_1 rfl ?_;have b1:=oG hh.1 hh.2 hq.1 (show q<=1000000 by omega);have b2:=oG hk.1 hk.2 hq.1 (show q<=1000000 by omega);have b3:=KM hm.1 hh hq;have b4:=KM hm.1 hk hq;have w1:=eQ (n:=x.h*q);have w2:=eQ (n:=x.k*q);have w3:=eQ (n:=(x.h*q).tdiv x.m);have w4:=eQ (n:=(x.k*q).tdiv x.m);have hne:¬x.m=0:=by omega
 simp[-length_flatMap,-map_take,w1,w2,w3,w4,hne,aI.aO.out]
def sm(x:aI.aO)(n:Int):Prop:=(-n<=x.m/\x.m<=n)/\(-n<=x.h/\x.h<=n)/\(-n<=x.k/\x.k<=n)
theorem HI{F:List aA.aO}{j v i:Nat}{s:List aI.aO}{x o:aI.aO}{sign:Int}(hF:F[j]?=some (.cells v (s.flatMap aO.enc)))(hx:s[i]?=some x)(h1:sm x 1000000000000000000)(h2:sm o 1000000000000000000)(hs:sign=1\/sign = -1):
  lim T (.call false 262 [.ref J.length j v (i*3),.agg o.enc,.int .i64 sign] (F::J))=some (.val (.db []) (F.set j (.cells v ((gT s i o sign).flatMap aO.enc))::J)):=by
 refine dN EH rk.eq_1 rfl (by simp) ?_;obtain⟨a1,a2,a3⟩:=h1;obtain⟨c1,c2,c3⟩:=h2;have hi:i<s.length:=(ar.1 hx).1;obtain⟨A,B,hA,hAB⟩:∃A B:List D,A.length=i*3/\s.flatMap aO.enc=A++(x.enc++B):=by
  have hd:=zY (f:=aO.enc) (w:=3) (λ_=>rfl) hx;have hlen:=Hn s;refine⟨(s.flatMap aO.enc).take (i*3),(s.flatMap aO.enc).drop (i*3+3),by rw[fT];omega,?_⟩;rw[<- hd,List.take_append_drop]
 have hset:(gT s i o sign).flatMap aO.enc=A++((x.move o sign).enc++B):=by
  have h3:=QJ (f:=aO.enc) (w:=3) (λ_=>rfl) (x:=x.move o sign) hi;have hblk:bZ s i=x:=by simp[bZ,hx]
  rw[gT,hblk,<- h3,hAB];have e1:(A++(x.enc++B)).take (i*3)=A:=by rw[<- hA];simp
  have e2:(A++(x.enc++B)).drop (i*3+3)=B:=by
   rw[<- fD,<- hA];simp
  rw[e1,e2]
 rw[hAB]at hF;rw[hset];have hj:j<F.length:=(ar.1 hF).1;have gs:∀X:aA.aO,(F.set j X)[j]?=some X:=λX=>by simp[hj]
 clear hset hAB hx hj;have t1:∀L:List D,(A++L).take (A.length+1)=A++L.take 1:=λL=>by rw[List.take_length_add_append]
 have t2:∀L:List D,(A++L).take (A.length+1+1)=A++L.take 2:=λL=>by rw[di,List.take_length_add_append]
 have d2:∀L:List D,(A++L).drop (A.length+1+1)=L.drop 2:=λL=>by rw[di,cI]
 have d1:∀L:List D,(A++L).drop (A.length+1)=L.drop 1:=λL=>by rw[cI]
 have d3:∀L:List D,(A++L).drop (A.length+1+1+1)=L.drop 3:=λL=>by rw[di,di,cI]
 have k1:A.length+1+1<=A.length+(B.length+1+1+1):=by omega
 have k2:A.length+1+1+1<=A.length+(B.length+1+1+1):=by omega
 have k3:A.length+1<=A.length+(B.length+1+1+1):=by omega
 have k4:A.length+2+1<=A.length+(B.length+1+1+1):=by omega
 have d4:∀L:List D,(A++L).drop (A.length+2)=L.drop 2:=λL=>by rw[cI]
 have d5:∀L:List D,(A++L).drop (A.length+2+1)=L.drop 3:=λL=>by rw[di,cI]
 have t4:∀L:List D,(A++L).take (A.length+2)=A++L.take 2:=λL=>by rw[List.take_length_add_append]
 have y1:=eQ (n:=o.m);have y2:=eQ (n:=o.h);have y3:=eQ (n:=o.k);have y4:=eQ (n := -o.m);have y5:=eQ (n := -o.h);have y6:=eQ (n := -o.k);rcases hs with rfl | rfl
 .have w1:=eQ (n:=x.m+o.m);have w2:=eQ (n:=x.h+o.h);have w3:=eQ (n:=x.k+o.k);simp[-length_flatMap,-map_take,hF,gs,<- hA,w1,w2,w3,y1,y2,y3,t1,t2,t4,d1,d2,d3,d4,d5,k1,k2,k3,k4,aI.aO.move]
 .have w1:=eQ (n:=x.m + -o.m);have w2:=eQ (n:=x.h + -o.h);have w3:=eQ (n:=x.k + -o.k);simp[-length_flatMap,-map_take,hF,gs,<- hA,w1,w2,w3,y4,y5,y6,t1,t2,t4,d1,d2,d3,d4,d5,k1,k2,k3,k4,aI.aO.move]
theorem Wf{w:bJ}{r:Int}(hr : -100000<=r/\r<=100000)(h1:0<=w.h/\w.h<=3000)(h2:0<=w.m/\w.m<=1000000):
  lim T (.call false 263 [.agg w.enc,.int .i64 r] J)=some (.val (.agg (w.given r).enc) J):=by
 refine aw EI rl.eq_1 rfl ?_;have b1 : -300000000<=r*w.h/\r*w.h<=300000000:=by
  rcases mq 0 r with h | h
  .have:=oG h hr.2 h1.1 h1.2;omega
  .have:=oG (a := -r) (A:=100000) (by omega) (by omega) h1.1 h1.2;rw[Int.neg_mul]at this;omega
 have b2 : -100000000000<=r*w.m/\r*w.m<=100000000000:=by
  rcases mq 0 r with h | h
  .have:=oG h hr.2 h2.1 h2.2;omega
  .have:=oG (a := -r) (A:=100000) (by omega) (by omega) h2.1 h2.2;rw[Int.neg_mul]at this;omega
 have w1:=eQ (n := -r);have w2:=eQ (n := -(r*w.h));have w3:=eQ (n := -(r*w.m));simp[-length_flatMap,-map_take,w1,w2,w3,bJ.given,Int.neg_mul]
theorem acP{b:cp}{m:bE}(h:Fv b m){i:Nat}(hi:i<b.n):lim T (.call false 265 [.agg [.int .i64 b.f.x,.int .i64 b.f.y,.int .i64 b.f.z,.int .i64 b.f.k,.aJ b.cn.length (b.cn.flatMap Rw.enc),.int .i64 b.bL,.int .i64 b.lift,.int .i64 b.deep,.aJ b.an.length (b.an.flatMap bJ.enc),.str m.name,.aJ m.aU.length (m.aU.flatMap aM)],.int .i64 i] J)=some (.val (.agg (O2 b m i).enc) J):=by
 refine aw EM rp.eq_1 rfl ?_;have hf:=λJ=>ZK (J:=J) h.toMv hi
 have b1:=h.feed i hi;have b2:=h.bv.deep;have b3:=oG b1.1 b1.2 b2.1 b2.2;have w1:=eQ (n:=feed b m i*b.deep);simp[-length_flatMap,-map_take,hf,w1,O2]
theorem V7{s:List aI.aO}{bs:List aA.aO}(hl:s.length<=1000000)(hne:s≠[]):lim T (.call true 260 [.aJ s.length (s.flatMap aO.enc)] (bs::J)) =
  some (.val (.sl J.length (bs.length+1) 1 0 s.length 3) ((bs++[.cells 0 [],.cells 1 (s.flatMap aO.enc)])::J)):=by
 refine xE sZ dw.eq_1 rfl ?_;have h7:s.length*24<=room:=by unfold room;omega
 simp[-length_flatMap,-map_take,hne,Hn,h7]
theorem Wi{b:cp}:lim T (.call false 283 [.agg [.int .i64 b.f.x,.int .i64 b.f.y,.int .i64 b.f.z,.int .i64 b.f.k,.aJ b.cn.length (b.cn.flatMap Rw.enc),.int .i64 b.bL,.int .i64 b.lift,.int .i64 b.deep,.aJ b.an.length (b.an.flatMap bJ.enc)]] J)=some (.val (.fn 291 [] [.bq [.int .i64 b.f.x,.int .i64 b.f.y,.int .i64 b.f.z,.int .i64 b.f.k,.aJ b.cn.length (b.cn.flatMap Rw.enc),.int .i64 b.bL,.int .i64 b.lift,.int .i64 b.deep,.aJ b.an.length (b.an.flatMap bJ.enc)]]) J):=by
 refine aw FM sr.eq_1 rfl ?_;simp[-length_flatMap,-map_take,cG,bA,bh]
theorem Bv.xy{b:cp}(h:Bv b):b.f.x=(b.f.x.toNat:Int)/\b.f.y=(b.f.y.toNat:Int)/\1<=b.f.x.toNat*b.f.y.toNat/\b.f.x.toNat*b.f.y.toNat<=64:=by
 have hx:=h.x;have hy:=h.y;obtain⟨s1,_⟩:=cU.sz h.x h.y h.z;have e1:b.f.x*b.f.y=((b.f.x.toNat*b.f.y.toNat:Nat):Int):=by push_cast;rw[ft (by omega),ft (by omega)]
 rw[e1]at s1;refine⟨by omega,by omega,by omega,by omega⟩
theorem Bv.nat{b:cp}(h:Bv b):b.n=b.f.x.toNat*b.f.y.toNat*b.f.z.toNat/\1<=b.f.x.toNat/\1<=b.f.y.toNat:=by
 have hx:=h.x;have hy:=h.y;have hz:=h.z;have hs:=h.sz;refine⟨?_,by omega,by omega⟩;have:((b.f.x.toNat*b.f.y.toNat*b.f.z.toNat:Nat):Int)=b.f.size:=by
  push_cast;rw[ft (by omega),ft (by omega),ft (by omega)];rfl
 omega
theorem Y4{X W i n:Nat}(hn:n=X*W)(hi:i<n)(hc:(i+1)%X≠0):i+1<n:=by
 rcases Nat.lt_or_ge (i+1) n with h | h
 .exact h
 .have:i+1=X*W:=by omega
  rw[this,Nat.mul_mod_right]at hc;exact absurd rfl hc
theorem link2{X Y Z i n:Nat}(hX:1<=X)(hY:1<=Y)(hn:n=X*Y*Z)(hi:i<n)(hc:i / X%Y≠Y-1):i+X<n:=by
 have h1:i / X<Y*Z:=by rw[Nat.div_lt_iff_lt_mul hX,Nat.mul_comm,<- Nat.mul_assoc];omega
 have h2:i / X+1<Y*Z:=by
  rcases Nat.lt_or_ge (i / X+1) (Y*Z)with h | h
  .exact h
  .exfalso
   have h3:i / X+1=Y*Z:=by omega
   have hZ:1<=Z:=by
    rcases Nat.eq_zero_or_pos Z with h0 | h0
    .subst h0;omega
    .exact h0
   have h4:i / X=Y*(Z-1)+(Y-1):=by
    have:Y*Z=Y*(Z-1)+Y:=by rw[<- Nat.mul_succ];congr 1;omega
    omega
   rw[h4,Nat.mul_add_mod,Nat.mod_eq_of_lt (by omega)]at hc;exact hc rfl
 have h3:i<(i / X+1)*X:=by
  have:=Nat.div_add_mod i X;have h4:=Nat.mod_lt i (show X>0 by omega);rw[ij,Nat.one_mul,Nat.mul_comm (i / X) X];omega
 have h5:(i / X+1)*X+X<=n:=by
  have:(i / X+1+1)*X<=Y*Z*X:=bU _ h2;rw[ij (i / X+1) 1 X,Nat.one_mul,Nat.mul_comm (Y*Z) X,<- Nat.mul_assoc]at this;omega
 omega
theorem P4{b:cp}(h:Bv b){lv j N:Nat}{St:List (Nat×Nat)->SK}(hN:∀pre,(St pre).length=N)
  (hR:∀pre,∀l:Nat×Nat,l.1<b.n->l.2<b.n->l.1≠l.2->lim T (.round lv j [.agg [.int .i64 l.1,.int .i64 l.2]] ([]::St pre))=some (.val (.bool true) ([]::St (pre++[l])))):∀(n i:Nat) (pre:List (Nat×Nat)),i+n=b.n ->
  WL T [0,1,3,4,13,14] false iM [(0,.jm lv j),(1,.bq [.int .i64 b.f.x,.int .i64 b.f.y,.int .i64 b.f.z,.int .i64 b.f.k,.aJ b.cn.length (b.cn.flatMap Rw.enc),.int .i64 b.bL,.int .i64 b.lift,.int .i64 b.deep,.aJ b.an.length (b.an.flatMap bJ.enc)]),(3,.int .i64 b.f.x),(4,.int .i64 b.f.y),(13,.int .i64 b.n),(14,.int .i64 i)] ([]::St pre)
   (λx e J'=>J'=[]::St (pre++((List.range b.n).drop i).flatMap (zu b))/\x=.exit 0)
 |0,i,pre,hi=>by
  refine aH iM.eq_1 ?_;have h1:¬i<b.n:=by omega
  have h2:(List.range b.n).drop i=[]:=aE (by simp;omega);simp[-length_flatMap,-map_take,h1,h2]
 |n+1,i,pre,hi=>by
  refine aH iM.eq_1 ?_;have h1:i<b.n:=by omega
  have hn:=h.n;have hx:=h.x;have hy:=h.y;obtain⟨eX,eY,p1,p2⟩:=h.xy;have h4:=dJ h1;have hs:=λJ=>Ab (J:=J) h
  have h5:(List.range b.n).drop i=i::(List.range b.n).drop (i+1):=drop_at (by simp[h1]);have w1:=eQ (n:=b.f.x*b.f.y) (by rw[eX,eY];omega);obtain⟨hnn,X1,Y1⟩:=h.nat;have hx0:¬b.f.x=0:=by omega
  have hy0:¬b.f.y=0:=by omega
  have ih:=λpre=>P4 h hN hR n (i+1) pre (by omega)
  have e1:((i:Int)+1).tmod b.f.x=(((i+1)%b.f.x.toNat:Nat):Int):=by
   conv=>lhs;rw[eX]
   rfl
  have e2:(i:Int) / b.f.x=((i / b.f.x.toNat:Nat):Int):=by
   conv=>lhs;rw[eX]
   rfl
  have e2b:(i:Int).tdiv b.f.x=((i / b.f.x.toNat:Nat):Int):=by
   conv=>lhs;rw[eX]
   rfl
  have e3:((i / b.f.x.toNat:Nat):Int).tmod b.f.y=((i / b.f.x.toNat%b.f.y.toNat:Nat):Int):=by
   conv=>lhs;rw[eY]
   rfl
  have e4:b.f.x*b.f.y=((b.f.x.toNat*b.f.y.toNat:Nat):Int):=by
   conv=>lhs;rw[eX,eY]
   rfl
  have hq:i / b.f.x.toNat<=i:=Nat.div_le_self _ _;have hr1:(i+1)%b.f.x.toNat<=i+1:=Nat.mod_le _ _;have hr2:i / b.f.x.toNat%b.f.y.toNat<=i / b.f.x.toNat:=Nat.mod_le _ _;have l1:=Y4 (W:=b.f.y.toNat*b.f.z.toNat) (by rw[hnn,Nat.mul_assoc]) h1;have l2:=link2 (Z:=b.f.z.toNat) X1 Y1 hnn h1;have R1:=λpre hc=>hR pre (i,i+1) h1 (l1 hc) (by simp)
  have R2:=λpre hc=>hR pre (i,i+b.f.x.toNat) h1 (l2 hc) (by simp;omega)
  have R3:=λpre hc=>hR pre (i,i+b.f.x.toNat*b.f.y.toNat) h1 hc (by simp;omega)
  have z2:((i+b.f.x.toNat:Nat):Int)=(i:Int)+b.f.x:=by omega
  have z3:((i+b.f.x.toNat*b.f.y.toNat:Nat):Int)=(i:Int)+b.f.x*b.f.y:=by rw[e4];omega
  have z1:((i+1:Nat):Int)=(i:Int)+1:=rfl;simp only[z1,z2,z3]at R1 R2 R3;generalize hA:i / b.f.x.toNat=A at *
  generalize hB:A%b.f.y.toNat=B at *
  generalize hC:(i+1)%b.f.x.toNat=C at *
  generalize hP:b.f.x.toNat*b.f.y.toNat=P at *
  have v1:=eQ (n:=(A:Int));have v2:=eQ (n:=(B:Int));have v3:=eQ (n:=(C:Int));have v4:=eQ (n:=b.f.y-1);have v5:=eQ (n:=(i:Int)+b.f.x);have v6:=eQ (n:=(i:Int)+b.f.x*b.f.y) (by rw[e4];omega);have v7:=eQ (n:=b.f.x*b.f.y) (by rw[e4];omega);have c3:((i:Int)+b.f.x*b.f.y<(b.n:Int))↔(i+P<b.n):=by rw[e4];omega
  have hL:zu b i=(if C≠0 then [(i,i+1)]else [])++((if B≠b.f.y.toNat-1 then [(i,i+b.f.x.toNat)]else [])++(if i+P<b.n then [(i,i+P)]else [])):=by
   unfold zu;rw[hC,hA,hB,hP]
  rw[h5,aS,hL];clear hL hnn l1 l2;have t1:((C:Int)=0)↔(C=0):=by omega
  have t2:((B:Int)=b.f.y-1)↔(B=b.f.y.toNat-1):=by omega
  by_cases k1:C=0<;>by_cases k2:B=b.f.y.toNat-1<;>by_cases k3:i+P<b.n;all_goals
   first | (have u1:=t1.2 k1) | (have u1:=mt t1.1 k1)
   first | (have u2:=t2.2 k2) | (have u2:=mt t2.1 k2)
   have ih':=ih (pre++((if C≠0 then [(i,i+1)]else [])++((if B≠b.f.y.toNat-1 then [(i,i+b.f.x.toNat)]else [])++(if i+P<b.n then [(i,i+P)]else []))));first
    |(rw[if_neg (not_not_intro k1)]at ih' ⊢) | (rw[if_pos k1]at ih' ⊢)
   first
    |(rw[if_neg (not_not_intro k2)]at ih' ⊢) | (rw[if_pos k2]at ih' ⊢)
   first
    |(rw[if_neg k3]at ih' ⊢) | (rw[if_pos k3]at ih' ⊢)
   have g1:=λpre=>R1 pre
   have g2:=λpre=>R2 pre
   have g3:=λpre=>R3 pre
   first | (have g1:=λpre=>R1 pre k1) | skip
   first | (have g2:=λpre=>R2 pre k2) | skip
   first | (have g3:=λpre=>R3 pre k3) | skip
   simp[-length_flatMap,-map_take,h1,h4,hx0,hy0,e1,e2,e2b,e3,v1,v2,v3,v4,v5,v6,v7,c3,u1,u2,k1,k3,hs,g1,g2,g3];refine WL.to ih' (by simp) (by simp) λx e J hh=>by simpa using hh
theorem Td{b:cp}(h:Bv b){lv j N:Nat}{St:List (Nat×Nat)->SK}(hN:∀pre,(St pre).length=N)
  (hR:∀pre,∀l:Nat×Nat,l.1<b.n->l.2<b.n->l.1≠l.2->lim T (.round lv j [.agg [.int .i64 l.1,.int .i64 l.2]] ([]::St pre))=some (.val (.bool true) ([]::St (pre++[l])))):
  lim T (.call false 291 [.jm lv j,.bq [.int .i64 b.f.x,.int .i64 b.f.y,.int .i64 b.f.z,.int .i64 b.f.k,.aJ b.cn.length (b.cn.flatMap Rw.enc),.int .i64 b.bL,.int .i64 b.lift,.int .i64 b.deep,.aJ b.an.length (b.an.flatMap bJ.enc)]] (St []))=some (.val (.db []) (St (KE b))):=by
 refine dN DX oY.eq_1 rfl (by rw[hN,hN]) ?_;have hs:=λJ=>Ab (J:=J) h
 simp[-length_flatMap,-map_take,hs];refine WL.to (P4 h hN hR b.n 0 [] (by omega)) (by simp) rfl ?_;rintro x e J' ⟨rfl,rfl⟩;simp[-length_flatMap,-map_take,KE]
def EA(es:List ((Nat×Nat)×aI.aO)):List D:=es.map λe => .db [.agg [.int .i64 e.1.1,.int .i64 e.1.2],.agg e.2.enc]
def kyL:Ky:=some (true,[some .i64,some .i64])
theorem adQ{a b:Nat×Nat}:tZ kyL (.agg [.int .i64 a.1,.int .i64 a.2]) (.agg [.int .i64 b.1,.int .i64 b.2])=some (b == a):=by
 simp only[tZ,kyL,D.row,Bf,and_self,if_true,aX,Bool.and_true];congr 1;rw[Bool.eq_iff_iff];simp only[ae,beq_iff_eq];constructor
 .rintro⟨h1,h2⟩;exact Prod.ext (by omega) (by omega)
 .rintro rfl;exact⟨rfl,rfl⟩
theorem M7{k:Nat×Nat}:∀{es:List ((Nat×Nat)×aI.aO)},∃r,rS kyL (.agg [.int .i64 k.1,.int .i64 k.2]) (EA es)=some r/\r.map Prod.fst=es.findIdx? (λe=>e.1 == k)
 |[]=>⟨none,rfl,rfl⟩
 |e::es=>by
  obtain⟨r,h1,h2⟩:=M7 (k:=k) (es:=es);simp only[EA,aR]at h1 ⊢;simp only[rS,adQ];cases hk:e.1 == k
  .refine⟨_,by rw[h1];rfl,?_⟩;rw[List.findIdx?_cons,hk,<- h2];cases r<;>rfl
  .exact⟨_,rfl,by rw[List.findIdx?_cons,hk];rfl⟩
theorem UM{S:SK}{l i:Nat}{es:List ((Nat×Nat)×aI.aO)}{k:Nat×Nat}{o:aI.aO}(h:cells? S l i 0=some (EA es)):
  BO S (.put kyL) [.jm l i,.agg [.int .i64 k.1,.int .i64 k.2],.agg o.enc]=some (.undef,aZ S l i (.cells 0 (EA (Sw es k o)))):=by
 obtain⟨r,h1,h2⟩:=M7 (k:=k) (es:=es);simp only[BO,B6,h,aX,h1,adQ,Option.isSome_some,true_and];rw[if_pos (.inr ⟨by simp[D.clean],by simp[D.clean]⟩)];unfold Sw;rw[<- h2];cases r with
 |none=>simp[EA]
 |some y=>simp[EA,List.map_set]
theorem IY{x:aI.aO}{A:Int}(hA:10000<=A):∀(t:List Rw) (o:Int),(∀r∈t,r.alone=true)->(0<=o/\o<=A)->0<=t.foldl (qR x) o/\t.foldl (qR x) o<=A
 |[],o,_,h=>h
 |r::t,o,ht,h=>by
  have h1:=Vg (ht r (by simp));refine IY hA t _ (λr hr=>ht r (by simp[hr])) ?_;unfold qR;split<;>omega
theorem LQ{b:cp}{m:bE}{s:List aI.aO}(h:Fv b m)(hs:Sv b s){i:Nat}(hi:i<b.n):0<=kj b m s i/\kj b m s i<=200000000000:=by
 have htab:=h.bv.cn;simp only[jV,ae]at htab;refine IY (by omega) _ _ (jq.1 htab.2.1) ?_;have b5:=CQ h.bv hi;have b1:=h.hold i hi;obtain⟨hx,b2,b3,b4⟩:=hs.at hi;have hst:=h.bv.bL;have b6:b.bL*((bZ s i).m-hold b m i)<=100000000000:=by
  rcases mq (hold b m i) (bZ s i).m with hh | hh
  .have:=oG (a:=b.bL) (b:=(bZ s i).m-hold b m i) (A:=100000) (B:=1000000) (by omega) hst.2 (by omega) (by omega);omega
  .have:=oG (a:=b.bL) (b:=hold b m i-(bZ s i).m) (A:=100000) (B:=1000000) (by omega) hst.2 (by omega) (by omega);have e:b.bL*((bZ s i).m-hold b m i) = - (b.bL*(hold b m i-(bZ s i).m)):=by rw[<- Int.mul_neg];congr 1;omega
   omega
 have b7:down (b.bL*((bZ s i).m-hold b m i)) (hold b m i)<=100000000000:=by
  unfold down;have:=Int.ediv_le_self (b:=hold b m i) (a:=b.bL*((bZ s i).m-hold b m i));rcases mq 0 (b.bL*((bZ s i).m-hold b m i))with hh | hh
  .have:=this hh;omega
  .have:=Int.ediv_le_of_le_mul (b:=0) (show 0<hold b m i by omega) (by omega:b.bL*((bZ s i).m-hold b m i)<=0*hold b m i);omega
 omega
theorem yZ{O:bS}{c c':cc}(hc:c=c'){e:Env}{J:SK}{Q:aA.Exit->Env->SK->Prop}:WC O c e J Q .mk .mk=WC O c' e J Q .mk .mk:=by subst hc;rfl
def Sd(b:cp)(m:bE)(s:List aI.aO)(L:Nat):xZ :=
 {state:=0,yJ:=none,env:=[(2,.bq [.int .i64 b.f.x,.int .i64 b.f.y,.int .i64 b.f.z,.int .i64 b.f.k,.aJ b.cn.length (b.cn.flatMap Rw.enc),.int .i64 b.bL,.int .i64 b.lift,.int .i64 b.deep,.aJ b.an.length (b.an.flatMap bJ.enc),.str m.name,.aJ m.aU.length (m.aU.flatMap aM)]),(3,.bq [.aJ s.length (s.flatMap aO.enc)]),(4,.undef),(5,.ref L 3 0 0),(6,.ref L 4 0 0)],params:=[18],AY:=gf,body:=cN }
def SG(A B:aA.aO)(b:cp)(m:bE)(s:List aI.aO)(J:SK)(es:List ((Nat×Nat)×aI.aO)):SK :=
 [A,B,.cells 0 (EA es),.cells 0 [.jm J.length 2],.cells 0 [.aJ (b9 b m s).length ((b9 b m s).flatMap aM)],.loop (Sd b m s J.length)]::J
theorem aac{A B:aA.aO}{b:cp}{m:bE}{s:List aI.aO}(h:Fv b m)(hs:Sv b s)(es:List ((Nat×Nat)×aI.aO))(l:Nat×Nat)(h1:l.1<b.n)(h2:l.2<b.n):
  lim T (.round J.length 5 [.agg [.int .i64 l.1,.int .i64 l.2]] ([]::SG A B b m s J es))=some (.val (.bool true) ([]::SG A B b m s J (pV b m s (b9 b m s) es l))):=by
 have hn:=h.bv.n;have hl:=hs.len;have hp1:(b9 b m s)[l.1]?=some (kj b m s l.1):=by simp[b9,hl,h1]
 have hp2:(b9 b m s)[l.2]?=some (kj b m s l.2):=by simp[b9,hl,h2]
 have a1:=lU hp1;have a2:=lU hp2;have hpl:(b9 b m s).length=b.n:=by rw[LP,hl]
 have bp1:=LQ h hs h1;have bp2:=LQ h hs h2;have bw1:=CQ h.bv h1;have bw2:=CQ h.bv h2;have cw1:=λJ=>HL (J:=J) (m:=m) h.bv h1
 have cw2:=λJ=>HL (J:=J) (m:=m) h.bv h2
 have co1:=λJ=>Ti (J:=J) h.toMv h1
 have co2:=λJ=>Ti (J:=J) h.toMv h2
 have bo1:=h.JM l.1 h1;have bo2:=h.JM l.2 h2;obtain⟨x1,m1,m2,m3⟩:=hs.at h1;obtain⟨y1,n1,n2,n3⟩:=hs.at h2;have f1:=bX (f:=aO.enc) (w:=3) (λ_=>rfl) x1;have f2:=bX (f:=aO.enc) (w:=3) (λ_=>rfl) y1;have w1:=eQ (n:=kj b m s l.1-weight b l.1);have w2:=eQ (n:=kj b m s l.1-weight b l.1-kj b m s l.2);have w3:=eQ (n:=kj b m s l.1-weight b l.1-kj b m s l.2+weight b l.2);have hL1:l.1<s.length:=by omega
 have hL2:l.2<s.length:=by omega
 have hE:pV b m s (b9 b m s) es l=pV b m s (b9 b m s) es l:=rfl
 conv at hE=>rhs;unfold pV Ly
 simp only[hp1,hp2,eS]at hE;generalize pV b m s (b9 b m s) es l=es' at *
 have hmin:0<=min (JM b m l.2) (JM b m l.1)/\min (JM b m l.2) (JM b m l.1)<=1000:=by omega
 have hmin':0<=min (JM b m l.1) (JM b m l.2)/\min (JM b m l.1) (JM b m l.2)<=1000:=by omega
 generalize hw1:weight b l.1=W1 at *
 generalize hw2:weight b l.2=W2 at *
 generalize hq1:kj b m s l.1=P1 at *
 generalize hq2:kj b m s l.2=P2 at *
 generalize hD:P1-W1-P2+W2=d at *
 refine N2 (lp:=Sd b m s J.length) (by simp[SG]) rfl ?_;rw[show(Sd b m s J.length).AY=gf from rfl,gf.eq_1,show(Sd b m s J.length).body=cN from rfl];by_cases hd:d<0
 .simp only[hd,if_true]at hE;have b3:=oG hmin.1 hmin.2 (show 0 <= -d by omega) (show -d<=1000000000000 by omega);have w4:=eQ (n := -d);have d1:=bC (b:=1000) b3.1;have d2:=bC (b:=8) (show 0<=(bZ s l.2).m by omega);generalize hX:min (JM b m l.2) (JM b m l.1) * -d=X at *
  have w5:=eQ (n:=X);generalize hY:X.tdiv 1000=Y at *
  generalize hZ:(bZ s l.2).m.tdiv 8=Z at *
  have w6:=eQ (n:=Y) (by rw[d1];omega);have w7:=eQ (n:=Z) (by rw[d2];omega);by_cases hq:0<min Y Z
  .have hO:=λJ=>Tj (J:=J) (q:=min Y Z) n1 n2 n3 ⟨by omega,by rw[d2];omega⟩
   have hP:=λS h=>UM (S:=S) (l:=J.length) (i:=2) (es:=es) (k:=(l.2,l.1)) (o:=(bZ s l.2).out (min Y Z)) h
   rw[if_pos hq]at hE;simp only at hE;subst hE;generalize (bZ s l.2).out (min Y Z)=O at *
   simp only[aO.enc]at hO;simp only[aO.enc,kyL]at hP;simp[-length_flatMap,-map_take,yZ cN.eq_1,Sd,SG,Si,hpl,h1,h2,a1,a2,cw1,cw2,w1,w2,w3,hD,hd,co1,co2,hL1,hL2,f1,f2,w4,w5,w6,w7,hX,hY,hZ,hq,hO,hP]
  .rw[if_neg hq]at hE;simp only at hE;subst hE;simp[-length_flatMap,-map_take,yZ cN.eq_1,Sd,SG,Si,hpl,h1,h2,a1,a2,cw1,cw2,w1,w2,w3,hD,hd,co1,co2,hL1,hL2,f1,f2,w4,w5,w6,w7,hX,hY,hZ,hq]
 .simp only[hd,if_false]at hE;have b3:=oG hmin'.1 hmin'.2 (show 0<=d by omega) (show d<=1000000000000 by omega);have w4:=eQ (n:=d);have d1:=bC (b:=1000) b3.1;have d2:=bC (b:=8) (show 0<=(bZ s l.1).m by omega);generalize hX:min (JM b m l.1) (JM b m l.2)*d=X at *
  have w5:=eQ (n:=X);generalize hY:X.tdiv 1000=Y at *
  generalize hZ:(bZ s l.1).m.tdiv 8=Z at *
  have w6:=eQ (n:=Y) (by rw[d1];omega);have w7:=eQ (n:=Z) (by rw[d2];omega);by_cases hq:0<min Y Z
  .have hO:=λJ=>Tj (J:=J) (q:=min Y Z) m1 m2 m3 ⟨by omega,by rw[d2];omega⟩
   have hP:=λS h=>UM (S:=S) (l:=J.length) (i:=2) (es:=es) (k:=l) (o:=(bZ s l.1).out (min Y Z)) h
   rw[if_pos hq]at hE;simp only at hE;subst hE;generalize (bZ s l.1).out (min Y Z)=O at *
   simp only[aO.enc]at hO;simp only[aO.enc,kyL]at hP;simp[-length_flatMap,-map_take,yZ cN.eq_1,Sd,SG,Si,hpl,h1,h2,a1,a2,cw1,cw2,w1,w2,w3,hD,hd,co1,co2,hL1,hL2,f1,f2,w4,w5,w6,w7,hX,hY,hZ,hq,hO,hP]
  .rw[if_neg hq]at hE;simp only at hE;subst hE;simp[-length_flatMap,-map_take,yZ cN.eq_1,Sd,SG,Si,hpl,h1,h2,a1,a2,cw1,cw2,w1,w2,w3,hD,hd,co1,co2,hL1,hL2,f1,f2,w4,w5,w6,w7,hX,hY,hZ,hq]
theorem Wc{A B:aA.aO}{b:cp}{m:bE}{s:List aI.aO}(h:Fv b m)(hs:Sv b s):∃X Y Z:aA.aO,
  lim T (.call true 261 [.agg [.int .i64 b.f.x,.int .i64 b.f.y,.int .i64 b.f.z,.int .i64 b.f.k,.aJ b.cn.length (b.cn.flatMap Rw.enc),.int .i64 b.bL,.int .i64 b.lift,.int .i64 b.deep,.aJ b.an.length (b.an.flatMap bJ.enc),.str m.name,.aJ m.aU.length (m.aU.flatMap aM)],.aJ s.length (s.flatMap aO.enc)] ([A,B]::J))=some (.val (.jm J.length 2) ([A,B,.cells 0 (EA (wR b m s)),X,Y,Z]::J)):=by
 refine⟨.cells 0 [.jm J.length 2],.cells 0 [.aJ (b9 b m s).length ((b9 b m s).flatMap aM)],.loop {Sd b m s J.length with state:=3 },?_⟩;refine xE Ds nO.eq_1 rfl ?_;have hp:=λJ hJ=>MB (J:=J) h hs hJ
 have hl:=Td (b:=b) h.bv (lv:=J.length) (j:=5) (N:=J.length+1) (St:=λpre=>SG A B b m s J (pre.foldl (pV b m s (b9 b m s)) [])) (λpre=>by simp[SG])
  (λpre l h1 h2 _=>by rw[List.foldl_append];exact aac h hs _ l h1 h2)
 have hm:BO ([A,B]::J) .make []=some (.jm J.length 2,[A,B,.cells 0 (EA [])]::J):=by simp[BO,EA]
 simp[-length_flatMap,-map_take,hp,Wi,cG,bA,bh,Ir,hm];refine Qj (d:=.db []) (J2:=SG A B b m s J (wR b m s)) (lp:=Sd b m s J.length) (by simp;exact⟨rfl,rfl,rfl⟩) ?_ (by simp[SG]) (by simp[Sd]) ?_
 .simpa[Sd,SG,wR]using hl
 .simp[-length_flatMap,-map_take,Sd,SG]
end
section
open Go Go.aA Go.aI
def CX(N:Int)(s:List aI.aO):Prop:=∀x∈s,sm x N
theorem jU{x:aI.aO}{N M:Int}(h:sm x N)(hN:N<=M):sm x M:=by
 obtain⟨h1,h2,h3⟩:=h;exact⟨⟨by omega,by omega⟩,⟨by omega,by omega⟩,⟨by omega,by omega⟩⟩
theorem Ik{N:Int}{s:List aI.aO}(h:CX N s){i:Nat}(hi:i<s.length):s[i]?=some (bZ s i)/\sm (bZ s i) N:=by
 have h2:s[i]?=some (bZ s i):=by simp[bZ,hi]
 exact⟨h2,h _ (ai h2)⟩
theorem Ff{s:List aI.aO}{i:Nat}{o:aI.aO}{sign:Int}:(gT s i o sign).length=s.length:=by simp[gT]
theorem As{N M:Int}{s:List aI.aO}(h:CX N s){i:Nat}{o:aI.aO}{sign:Int}(ho:sm o M)(hs:sign=1\/sign = -1)(hM:0<=M):CX (N+M) (gT s i o sign):=by
 intro x hx;unfold gT at hx;by_cases hi:i<s.length
 .rcases List.mem_or_eq_of_mem_set hx with hx | rfl
  .exact jU (h x hx) (by omega)
  .obtain⟨a1,a2,a3⟩:=(Ik h hi).2;obtain⟨b1,b2,b3⟩:=ho;rcases hs with rfl | rfl
   .exact⟨⟨by simp only[aI.aO.move];omega,by simp only[aI.aO.move];omega⟩,⟨by simp only[aI.aO.move];omega,by simp only[aI.aO.move];omega⟩,⟨by simp only[aI.aO.move];omega,by simp only[aI.aO.move];omega⟩⟩
   .exact⟨⟨by simp only[aI.aO.move];omega,by simp only[aI.aO.move];omega⟩,⟨by simp only[aI.aO.move];omega,by simp only[aI.aO.move];omega⟩,⟨by simp only[aI.aO.move];omega,by simp only[aI.aO.move];omega⟩⟩
 .rw[List.set_eq_of_length_le (by omega)]at hx;exact jU (h x hx) (by omega)
theorem C5{s:List aI.aO}{i j:Nat}{o p:aI.aO}{a c:Int}:gT (gT s i o a) j p c=gT (gT s j p c) i o a:=by
 by_cases hij:i=j
 .subst hij;by_cases hi:i<s.length
  .simp only[gT,bZ,List.getElem?_set_self hi,eS,List.set_set,aI.aO.move];congr 2<;>omega
  .simp only[gT,List.set_eq_of_length_le (show s.length<=i by omega)]
 .have hji:¬j=i:=λh=>hij h.symm
  simp only[gT,bZ,List.getElem?_set_ne hij,List.getElem?_set_ne hji];rw[List.set_comm _ _ hij]
theorem RU{s:List aI.aO}{e f:(Nat×Nat)×aI.aO}:eo (eo s e) f=eo (eo s f) e:=by
 unfold eo;rw[C5 (i:=e.1.2) (j:=f.1.1),C5 (i:=e.1.1) (j:=f.1.1),C5 (i:=e.1.2) (j:=f.1.2),C5 (i:=e.1.1) (j:=f.1.2)]
theorem Nb{s:List aI.aO}{e:(Nat×Nat)×aI.aO}:(eo s e).length=s.length:=by simp[eo,Ff]
def JS(es:List ((Nat×Nat)×aI.aO))(s:List aI.aO)(j:Nat):List aI.aO:=match es[j]? with | some e=>eo s e | none=>s
theorem VC{es:List ((Nat×Nat)×aI.aO)}{s:List aI.aO}{i j:Nat}:JS es (JS es s i) j=JS es (JS es s j) i:=by
 unfold JS;cases es[i]? <;> cases es[j]? <;> simp[RU]
theorem Yp{es:List ((Nat×Nat)×aI.aO)}{s:List aI.aO}{j:Nat}:(JS es s j).length=s.length:=by
 unfold JS;split<;>simp[Nb]
theorem KW:∀(es:List ((Nat×Nat)×aI.aO)) (s:List aI.aO) (n:Nat),n<=es.length->(List.range n).foldl (JS es) s=(es.take n).foldl eo s
 |es,s,0,_=>by simp
 |es,s,n+1,h=>by
  obtain⟨e,he⟩:∃e,es[n]?=some e:=gE (by omega);rw[List.range_succ,List.foldl_append,KW es s n (by omega),List.take_add_one,he,List.foldl_append];simp[JS,he]
theorem Yo{es:List ((Nat×Nat)×aI.aO)}{s:List aI.aO}{js:List Nat}(hd:js.Nodup)(hm:∀j,j∈js↔j<es.length):js.foldl (JS es) s=es.foldl eo s:=by
 have hp:js.Perm (List.range es.length):=(List.perm_ext_iff_of_nodup hd List.nodup_range).2 λa=>by simp[hm]
 rw[hp.foldl_eq' (λx _ y _ z=>VC),KW es s es.length (aL _),af (aL _)]
theorem Sc{b:cp}:(KE b).length<=3*b.n:=by
 have key:∀l:List Nat,(l.flatMap (zu b)).length<=3*l.length:=by
  intro l;induction l with
  |nil=>simp
  |cons i l ih =>
   rw[aS,aF,av];have:(zu b i).length<=3:=by
    unfold zu;simp only[aF];split<;>split<;>split<;>simp
   omega
 have:=key (List.range b.n);rw[List.length_range]at this;exact this
theorem UC{b:cp}(h:Bv b){l:Nat×Nat}(hl:l∈KE b):l.1<b.n/\l.2<b.n:=by
 obtain⟨hnn,X1,Y1⟩:=h.nat;obtain⟨i,hi,hh⟩:=List.mem_flatMap.1 hl;have h1:i<b.n:=by simpa using hi
 unfold zu at hh;simp only[ba]at hh;rcases hh with hh | hh | hh
 .split at hh
  .rename_i hc;simp at hh;subst hh;exact⟨h1,Y4 (W:=b.f.y.toNat*b.f.z.toNat) (by rw[hnn,Nat.mul_assoc]) h1 hc⟩
  .cases hh
 .split at hh
  .rename_i hc;simp at hh;subst hh;exact⟨h1,link2 (Z:=b.f.z.toNat) X1 Y1 hnn h1 hc⟩
  .cases hh
 .split at hh
  .rename_i hc;simp at hh;subst hh;exact⟨h1,hc⟩
  .cases hh
def SO(b:cp)(e:(Nat×Nat)×aI.aO):Prop:=(e.1.1<b.n/\e.1.2<b.n)/\sm e.2 1000000000000
theorem Pl{x:aI.aO}{q:Int}(hm:1<=x.m/\x.m<=1000000)(hh:0<=x.h/\x.h<=10000000000)(hk:0<=x.k/\x.k<=1000000000000)(hq:0<=q/\q<=x.m):sm (x.out q) 1000000000000:=by
 have b3:=KM hm.1 hh hq;have b4:=KM hm.1 hk hq;exact⟨⟨by simp only[aI.aO.out];omega,by simp only[aI.aO.out];omega⟩,⟨by simp only[aI.aO.out];omega,by simp only[aI.aO.out];omega⟩,⟨by simp only[aI.aO.out];omega,by simp only[aI.aO.out];omega⟩⟩
theorem RT{b:cp}{m:bE}{s:List aI.aO}(hs:Sv b s){p:List Int}{l:Nat×Nat}(h1:l.1<b.n)(h2:l.2<b.n){e:(Nat×Nat)×aI.aO}(he:Ly b m s p l=some e):SO b e:=by
 unfold Ly at he;simp only at he;generalize hd:(p[l.1]?).getD 0-weight b l.1-(p[l.2]?).getD 0+weight b l.2=d at he;generalize hl':(if d<0 then(l.2,l.1)else l)=l' at he;generalize hd':(if d<0 then -d else d)=d' at he;have hll:l'.1<b.n/\l'.2<b.n:=by
  rw[<- hl'];split<;>exact⟨by assumption,by assumption⟩
 obtain⟨_,m1,m2,m3⟩:=hs.at hll.1;split at he
 .rename_i hq;simp only[ad]at he;subst he;have d2:=bC (b:=8) (show 0<=(bZ s l'.1).m by omega);exact⟨hll,Pl m1 m2 m3 ⟨by omega,by rw[d2];omega⟩⟩
 .cases he
theorem X7{b:cp}{es:List ((Nat×Nat)×aI.aO)}{k:Nat×Nat}{o:aI.aO}(h:∀e∈es,SO b e)(ho:SO b (k,o)):(∀e∈Sw es k o,SO b e)/\(Sw es k o).length<=es.length+1:=by
 unfold Sw;split
 .constructor
  .intro e he;rcases List.mem_or_eq_of_mem_set he with he | rfl
   .exact h e he
   .exact ho
  .simp
 .constructor
  .intro e he;rcases ba.1 he with he | he
   .exact h e he
   .simp at he;subst he;exact ho
  .simp
theorem Nc{b:cp}{m:bE}{s:List aI.aO}(h:Bv b)(hs:Sv b s):(∀e∈wR b m s,SO b e)/\(wR b m s).length<=192:=by
 have key:∀(ls:List (Nat×Nat)) (es:List ((Nat×Nat)×aI.aO)),(∀l∈ls,l.1<b.n/\l.2<b.n)->(∀e∈es,SO b e)->(∀e∈ls.foldl (pV b m s (b9 b m s)) es,SO b e)/\(ls.foldl (pV b m s (b9 b m s)) es).length<=es.length+ls.length:=by
  intro ls;induction ls with
  |nil=>intro es _ h;exact⟨h,by simp⟩
  |cons l ls ih =>
   intro es hl he;have hl0:=hl l (by simp);simp only[List.foldl_cons];have h1:(∀e∈pV b m s (b9 b m s) es l,SO b e)/\(pV b m s (b9 b m s) es l).length<=es.length+1:=by
    unfold pV;split
    .rename_i e hfe;exact X7 he (RT hs hl0.1 hl0.2 hfe)
    .exact⟨he,by omega⟩
   obtain⟨h2,h3⟩:=ih _ (λl hh=>hl l (by simp[hh])) h1.1;exact⟨h2,by simp only[av];omega⟩
 obtain⟨h1,h2⟩:=key (KE b) [] (λl hl=>UC h hl) (by simp);have:=@Sc b;have hn:=h.n;exact⟨h1,by simp only[aV]at h2;unfold wR;omega⟩
theorem Na{b:cp}{N:Int}{s:List aI.aO}{e:(Nat×Nat)×aI.aO}(h:CX N s)(he:SO b e):CX (N+2000000000000) (eo s e):=by
 have h1:=As (i:=e.1.1) (sign := -1) h he.2 (.inr rfl) (by omega);have h2:=As (i:=e.1.2) (sign:=1) h1 he.2 (.inl rfl) (by omega);unfold eo;rw[show N+2000000000000=N+1000000000000+1000000000000 by omega];exact h2
theorem Ra{b:cp}{es:List ((Nat×Nat)×aI.aO)}(hes:∀e∈es,SO b e):∀(js:List Nat) (s:List aI.aO) (N:Int),CX N s->CX (N+2000000000000*js.length) (js.foldr (λj s=>JS es s j) s)
 |[],s,N,h=>by simpa using h
 |j::js,s,N,h=>by
  have ih:=Ra hes js s N h;simp only[List.foldr_cons,av];generalize js.foldr (λj s=>JS es s j) s=s1 at *
  unfold JS;split
  .rename_i e he;have:=Na ih (hes e (ai he));intro x hx;exact jU (this x hx) (by push_cast;omega)
  .intro x hx;exact jU (ih x hx) (by push_cast;omega)
theorem Sv.CX{b:cp}{s:List aI.aO}(h:Sv b s):CX 1000000000000 s:=by
 intro x hx;obtain⟨h1,h2,h3⟩:=aO.LL.1 (h.ok x hx);exact⟨⟨by omega,by omega⟩,⟨by omega,by omega⟩,⟨by omega,by omega⟩⟩
end
end Go.Proofs.YtanhdobabijmoaaGreatDoor
namespace Go.aA
open List(length_flatMap map_take)
open Go
variable {T:BJ}
theorem z8{F:List aO}:∀{J:SK} {lv:Nat},fw J lv=some F->lv<J.length
 |[],lv,h=>by simp[fw]at h
 |s::J,lv,h=>by
  simp only[fw]at h;split at h
  .rename_i h1;simp;omega
  .have:=z8 h;simp;omega
section
variable {α:Type} {w:Nat} {enc:α->List D} (hw:∀x,(enc x).length=w) {p:α->Bool} {fv:D} {l:List α} {lv bi v:Nat} {F:List aO}
include hw in
theorem IK(hF:F[bi]?=some (.cells v (l.flatMap enc)))(hl:l.length<=9223372036854775807)(ht:oJ T fv (λx => .agg (enc x)) p l){J:SK}(hs:fw J lv=some F):∀(m i:Nat),i+m=l.length ->
  WL T [0,1,7,8] false (IJ true w) [(0,.sl lv bi v 0 l.length w),(1,fv),(7,.int .i64 l.length),(8,.int .i64 i)] J
   (λx e J'=>J'=J/\if idxOf p (l.drop i)<0 then x=.exit 0 else x=.ret/\get e 4=.int .i64 (i+idxOf p (l.drop i)))
 |0,i,hi=>by
  obtain⟨h1,h2,h3⟩:=ht;refine aH (IJ.eq_1 _ _) ?_;have:¬i<l.length:=by omega
  have h5:l.drop i=[]:=by simp;omega
  simp[this,h1,h2,h5,idxOf]
 |m+1,i,hi=>by
  have ih:=IK hF hl ht hs m (i+1) (by omega);obtain⟨h1,h2,h3⟩:=ht;refine aH (IJ.eq_1 _ _) ?_;have h4:i<l.length:=by omega
  obtain⟨x,hx⟩:=gE h4;have h5:=zY (f:=enc) hw hx;have h6:=h3 x (ai hx) J;have h7:=dJ h4 hl;have h8:l.drop i=x::l.drop (i+1):=drop_at hx;have e1:∀r:List D,(enc x++r).take w=enc x:=λr=>by rw[<- hw x];simp
  have e2:∀r:Nat,w<=(enc x).length+r:=λr=>by rw[hw];omega
  cases hp:p x
  .rw[hp]at h6;simp[h4,h1,h2,h5,h6,h7,hs,hF,e1,e2];refine WL.mono (by simpa using ih) ?_;rintro x e J' ⟨h9,h10⟩;refine⟨h9,?_⟩;rw[h8];simp only[idxOf,hp,az,if_false];by_cases h11:idxOf p (l.drop (i+1))<0
   .simpa[h11]using h10
   .rw[if_neg h11]at h10;rw[if_neg h11,if_neg (by omega)];refine⟨h10.1,?_⟩;rw[h10.2];congr 1;push_cast;omega
  .rw[hp]at h6;simp[h4,h1,h2,h5,h6,h7,hs,hF,e1,e2,h8,idxOf,hp]
include hw in
theorem O6{f:Nat}(hT:T f=some (vA true w))(hF:F[bi]?=some (.cells v (l.flatMap enc)))(hl:l.length<=9223372036854775807)(ht:oJ T fv (λx => .agg (enc x)) p l){J:SK}(hs:fw J lv=some F):
  lim T (.call false f [.sl lv bi v 0 l.length w,fv] J)=some (.val (.int .i64 (idxOf p l)) J):=by
 refine aw hT (vA.eq_1 _ _) rfl ?_;have hlt:=z8 hs;have h:=IK hw hF hl ht (lv:=lv) (F:=F) (J:=[]::J) (by simp[fw,hs,show ¬J.length=lv by omega]) l.length 0 (by simp);obtain⟨h1,h2,h3⟩:=ht;simp[h1,h2];refine WL.mono (by simpa using h) ?_;rintro x e J' ⟨rfl,h10⟩
 try simp only[aP]at h10
 by_cases h11:idxOf p l<0
 .rw[if_pos h11]at h10;subst h10;have:idxOf p l = -1:=by
   cases l with
   |nil=>rfl
   |cons a l =>
    simp only[idxOf]at h11 ⊢;split at h11<;>rename_i ha
    .omega
    .rw[if_neg ha];split at h11<;>rename_i hb
     .rw[if_pos hb]
     .omega
  simp[this]
 .rw[if_neg h11]at h10;obtain⟨rfl,h12⟩:=h10
  try simp at h12
  simp[h12]
include hw in
theorem DG{f i:Nat}(hT:T f=some (iS i))(hi:T i=some (vA true w))(hF:F[bi]?=some (.cells v (l.flatMap enc)))(hl:l.length<=9223372036854775807)(ht:oJ T fv (λx => .agg (enc x)) p l){J:SK}(hs:fw J lv=some F):
  lim T (.call false f [.sl lv bi v 0 l.length w,fv] J)=some (.val (.bool (tV l p)) J):=by
 refine aw hT (iS.eq_1 _) rfl ?_;have hlt:=z8 hs;have h:=O6 hw hi hF hl ht (lv:=lv) (F:=F) (J:=[]::J) (by simp[fw,hs,show ¬J.length=lv by omega]);obtain⟨h1,h2,h3⟩:=ht;have h4:decide (0<=idxOf p l)=tV l p:=by
  unfold tV;have h6:=C4 (p:=p) (l:=l);cases h5:l.any p
  .have:=h6.2 h5;exact decide_eq_false (by omega)
  .exact decide_eq_true (by
    have:¬idxOf p l<0:=λh=>by rw[h6.1 h]at h5;cases h5
    omega)
 simp[h1,h2,h,h4]
include hw in
theorem Ie{f g h i:Nat}(hf:T f=some (ET g h))(hg:T g=some (zU true w))(hh:T h=some (iS i))(hi:T i=some (vA true w))
  (hF:F[bi]?=some (.cells v (l.flatMap enc))) (hl:l.length<=9223372036854775807) (ht:oJ T fv (λx => .agg (enc x)) p l) (hcl:fv.cells=some [fv]) {J:SK} (hs:fw J lv=some F):
  lim T (.call false f [.sl lv bi v 0 l.length w,fv] J)=some (.val (.bool (fL l p)) J):=by
 refine aw hf (ET.eq_1 _ _) rfl ?_;have hlt:=z8 hs;have h:=DG hw hh hi hF hl (Qm (yt w enc hw) hg ht) (lv:=lv) (F:=F) (J:=[]::J) (by simp[fw,hs,show ¬J.length=lv by omega]);obtain⟨h1,h2,h3⟩:=ht;have h4:(tV l λx => !p x) = !fL l p:=by
  unfold tV fL;rw[List.all_eq_not_any_not,Bool.not_not]
 simp[h1,h2,h,h4,hcl]
end
end Go.aA
namespace Go.Proofs.YtanhdobabijmoaaGreatDoor
open List(length_flatMap map_take)
open Go Go.aA Go.aI
variable {J:SK}
theorem RA{b:cp}{m:bE}{s:List aI.aO}(h:Bv b){lv bi v:Nat}{F:List aA.aO}(hF:F[bi]?=some (.cells v (s.flatMap aO.enc)))(hs:fw J lv=some F)(hl:s.length=b.n):
  lim T (.call false 266 [.agg [.int .i64 b.f.x,.int .i64 b.f.y,.int .i64 b.f.z,.int .i64 b.f.k,.aJ b.cn.length (b.cn.flatMap Rw.enc),.int .i64 b.bL,.int .i64 b.lift,.int .i64 b.deep,.aJ b.an.length (b.an.flatMap bJ.enc),.str m.name,.aJ m.aU.length (m.aU.flatMap aM)],.sl lv bi v 0 s.length 3] J)=some (.val (.bool (zD b s)) J):=by
 refine aw Dt nP.eq_1 rfl ?_;have hlt:=z8 hs;have hz:=h.sz;have hn:=h.n;have hsz:=λJ=>Ab (J:=J) h
 have ha:=Ie (T:=T) (w:=3) (enc:=aO.enc) (λ_=>rfl) (f:=286) (g:=293) (h:=292) (i:=294) (l:=s) (p:=aI.aO.valid) (fv:=.fn 287 [] []) rfl rfl rfl rfl hF (by omega) (oJ.fn λx _ J=>OB) rfl (lv:=lv) (F:=F) (J:=[]::J) (by simp[fw,hs,show ¬J.length=lv by omega]);unfold zD;have hc3:((b.n:Nat):Int)=b.size:=hz.symm;rw[hl]at ha ⊢;cases hc:fL s aI.aO.valid<;>simp[-length_flatMap,-map_take,hsz,hl,ha,hc,hc3]
def Y3(js:List Nat):List D:=js.map λj => .int .i64 (j:Nat)
def SN(n:Nat)(js:List Nat):List Nat:=(List.range n).filter λj => !(js.contains j)
theorem Xz{js:List Nat}{j:Nat}:D.int .i64 (j:Nat)∈Y3 js↔j∈js:=by
 simp only[Y3,bN];constructor
 .rintro⟨a,h1,h2⟩;simp only[D.int.injEq,true_and]at h2;have:a=j:=by omega
  exact this ▸ h1
 .intro h;exact⟨j,h,rfl⟩
def JE(b:cp)(m:bE)(s:List aI.aO)(aW:List Int)(L:Nat):Env :=
 [(1,.aJ s.length (s.flatMap aO.enc)),(2,.aJ aW.length (aW.flatMap aM)),(3,.bq [.int .i64 b.f.x,.int .i64 b.f.y,.int .i64 b.f.z,.int .i64 b.f.k,.aJ b.cn.length (b.cn.flatMap Rw.enc),.int .i64 b.bL,.int .i64 b.lift,.int .i64 b.deep,.aJ b.an.length (b.an.flatMap bJ.enc),.str m.name,.aJ m.aU.length (m.aU.flatMap aM)]),(9,.sl L 1 1 0 s.length 3),(23,.jm L 6)]
def Zx(A X Y Z:aA.aO)(J:SK)(es:List ((Nat×Nat)×aI.aO))(s:List aI.aO)(it:aA.aO):SK :=
 [A,.cells 1 (s.flatMap aO.enc),.cells 0 (EA es),X,Y,Z,it]::J
def Y2(L n:Nat)(js:List Nat):aA.aO:=.cells 1 (.jm L 2::.int .i64 (n:Nat)::Y3 js)
theorem Ut{A X Y Z:aA.aO}{es:List ((Nat×Nat)×aI.aO)}{s:List aI.aO}{js:List Nat}:
  GL (Zx A X Y Z J es s (Y2 J.length es.length js)) J.length 6=some (.jm J.length 2,es.length,Y3 js,SN es.length js):=by
 have hl:(EA es).length=es.length:=by simp[EA]
 simp[GL,Zx,Y2,B6,hl,SN,Xz]
theorem aeV{n:Nat}{js:List Nat}{u:Nat}(hu:u∈SN n js):(SN n (u::js)).length<(SN n js).length:=by
 have e:SN n (u::js)=(SN n js).filter λj => !decide (j=u):=by
  unfold SN;rw[List.filter_filter];congr 1;funext j;simp[List.contains_cons,Bool.not_or]
 rw[e,List.length_filter_lt_length_iff_exists];exact⟨u,hu,by simp⟩
theorem Z6{b:cp}{m:bE}{s:List aI.aO}{aW:List Int}{A X Y Z:aA.aO}{es:List ((Nat×Nat)×aI.aO)}{r:R}(hs:Sv b s)(hes:∀e∈es,SO b e)(hel:es.length<=192)
  (hr:WC (lim T) eW ((25,.bool false)::(24,.undef)::JE b m s aW J.length) (Zx A X Y Z J es (es.foldl eo s) .dead) λx e' J'=>r=.DH x e' J'):
  ∀(k:Nat) (js:List Nat),js.Nodup->(∀j∈js,j<es.length)->(SN es.length js).length=k ->
   lim T (.iu [1,2,3,9,23] (.t 23) 24 25 0 iP eW (JE b m s aW J.length) (Zx A X Y Z J es (js.foldr (λj s=>JS es s j) s) (Y2 J.length es.length js)))=some r:=by
 intro k;induction k using Nat.strongRecOn with
 |_ k ih =>
 intro js hd hj hk;by_cases hus:SN es.length js=[]
 .have hall:∀j,j∈js↔j<es.length:=by
   intro j;refine⟨hj j,λhlt=>?_⟩;have h1:j ∉ SN es.length js:=by rw[hus];simp
   simpa[SN,hlt]using h1
  have hfin:js.foldr (λj s=>JS es s j) s=es.foldl eo s:=by
   rw[<- Yo (js:=js.reverse) ((List.reverse_perm js).nodup_iff.2 hd) (λj=>by simp[hall]),List.foldl_reverse]
  rw[hfin];have hit:=Ut (J:=J) (A:=A) (X:=X) (Y:=Y) (Z:=Z) (es:=es) (s:=es.foldl eo s) (js:=js);rw[hus]at hit;refine Sk iP.eq_1 rfl (by simp[JE]) hit ?_;simp[Zx,JE,Y2]at hr ⊢;exact hr
 .have hit:=Ut (J:=J) (A:=A) (X:=X) (Y:=Y) (Z:=Z) (es:=es) (s:=js.foldr (λj s=>JS es s j) s) (js:=js);refine UK iP.eq_1 rfl (by simp[JE]) hit hus ?_;intro u hu;have hu2:u<es.length/\u ∉ js:=by simpa[SN]using hu
  obtain⟨e,he⟩:∃e,es[u]?=some e:=⟨_,aC hu2.1⟩;have hf:=hes e (ai he);have hnext:=ih _ (by rw[<- hk];exact aeV hu) (u::js) (List.nodup_cons.2 ⟨hu2.2,hd⟩) (by intro j hjm;rcases aY.1 hjm with rfl | hjm;exact hu2.1;exact hj j hjm) rfl;have hb:=Ra hes js s 1000000000000 hs.CX;have hjl:js.length<=192:=by
   have h1:js.length<=es.length:=by
    have:=hd.length_le_of_subset (l₂:=List.range es.length) (λj hjm=>by simpa using hj j hjm);simpa using this
   omega
  have hlen:(js.foldr (λj s=>JS es s j) s).length=b.n:=by
   have:∀js:List Nat,(js.foldr (λj s=>JS es s j) s).length=s.length:=by
    intro js;induction js with
    |nil=>rfl
    |cons a l ih=>simp only[List.foldr_cons,Yp];exact ih
   rw[this,hs.len]
  simp only[List.foldr_cons]at hnext;generalize hs1:js.foldr (λj s=>JS es s j) s=s1 at *
  have hstp:JS es s1 u=gT (gT s1 e.1.1 e.2 (-1)) e.1.2 e.2 1:=by simp[JS,he,eo]
  rw[hstp]at hnext;have hbn:CX 400000000000000 s1:=λx hx=>jU (hb x hx) (by omega)
  have hb1:=As (i:=e.1.1) (sign := -1) hbn hf.2 (.inr rfl) (by omega);obtain⟨x1,y1⟩:=Ik hbn (i:=e.1.1) (by have:=hf.1.1;omega);obtain⟨x2,y2⟩:=Ik hb1 (i:=e.1.2) (by rw[Ff];have:=hf.1.2;omega);have hM1:∀I,lim T (.call false 262 [.ref J.length 1 1 (e.1.1*3),.agg [.int .i64 e.2.m,.int .i64 e.2.h,.int .i64 e.2.k],.int .i64 (-1)] ([A,.cells 1 (s1.flatMap aO.enc),.cells 0 (EA es),X,Y,Z,I]::J)) =
    some (.val (.db []) ([A,.cells 1 ((gT s1 e.1.1 e.2 (-1)).flatMap aO.enc),.cells 0 (EA es),X,Y,Z,I]::J)) :=
   λI=>HI (F:=[A,.cells 1 (s1.flatMap aO.enc),.cells 0 (EA es),X,Y,Z,I]) (j:=1) rfl x1 (jU y1 (by omega)) (jU hf.2 (by omega)) (.inr rfl)
  have hM2:∀I,lim T (.call false 262 [.ref J.length 1 1 (e.1.2*3),.agg [.int .i64 e.2.m,.int .i64 e.2.h,.int .i64 e.2.k],.int .i64 1] ([A,.cells 1 ((gT s1 e.1.1 e.2 (-1)).flatMap aO.enc),.cells 0 (EA es),X,Y,Z,I]::J)) =
    some (.val (.db []) ([A,.cells 1 ((gT (gT s1 e.1.1 e.2 (-1)) e.1.2 e.2 1).flatMap aO.enc),.cells 0 (EA es),X,Y,Z,I]::J)) :=
   λI=>HI (F:=[A,.cells 1 ((gT s1 e.1.1 e.2 (-1)).flatMap aO.enc),.cells 0 (EA es),X,Y,Z,I]) (j:=1) rfl x2 (jU y2 (by omega)) (jU hf.2 (by omega)) (.inl rfl)
  have hfe:(EA es)[u]?=some (.db [.agg [.int .i64 e.1.1,.int .i64 e.1.2],.agg [.int .i64 e.2.m,.int .i64 e.2.h,.int .i64 e.2.k]]):=by simp[EA,he]
  have hfl:(EA es).length=es.length:=by simp[EA]
  have hE:BO ([A,.cells 1 (s1.flatMap aO.enc),.cells 0 (EA es),X,Y,Z,.cells 1 (.jm J.length 2::.int .i64 (es.length:Nat)::.int .i64 (u:Nat)::Y3 js)]::J) .ent [.jm J.length 6] =
    some (.db [.agg [.int .i64 e.1.1,.int .i64 e.1.2],.agg [.int .i64 e.2.m,.int .i64 e.2.h,.int .i64 e.2.k]],[A,.cells 1 (s1.flatMap aO.enc),.cells 0 (EA es),X,Y,Z,.cells 1 (.jm J.length 2::.int .i64 (es.length:Nat)::.int .i64 (u:Nat)::Y3 js)]::J):=by
   simp[BO,B6,hfl,hfe]
  have hi1:e.1.1<s.length:=by have:=hf.1.1;have:=hs.len;omega
  have hi2:e.1.2<s.length:=by have:=hf.1.2;have:=hs.len;omega
  simp[-length_flatMap,-map_take,JE,Zx,Y2,hE,hM1,hM2,hi1,hi2,cG,bA,bh,Ir];simpa[JE,Zx,Y2,Y3]using hnext
theorem Ji{b:cp}(h:Bv b):∀w∈b.an,(0<=w.b/\w.b<(b.n:Int))/\(0<=w.h/\w.h<=3000)/\(0<=w.m/\w.m<=1000000):=by
 have key:∀(l:List bJ) (u:List Int),vo b.size u l=true->∀w∈l,(0<=w.b/\w.b<(b.n:Int))/\(0<=w.h/\w.h<=3000)/\(0<=w.m/\w.m<=1000000):=by
  intro l;induction l with
  |nil=>intro u _ w hw;cases hw
  |cons a l ih =>
   intro u hu w hw;simp only[vo,bJ.ok,ae]at hu;obtain⟨⟨h1,h2,h3,h4⟩,h5⟩:=hu;rcases aY.1 hw with rfl | hw
   .have hs:=h.sz;have:=bk.1 h1;unfold cp.size at this;exact⟨⟨this.1,by omega⟩,bk.1 h3,bk.1 h4⟩
   .exact ih _ h5 w hw
 exact key _ _ h.ok
theorem mulR{a r A R:Int}(ha:0<=a/\a<=A)(hr : -R<=r/\r<=R) : -(R*A)<=r*a/\r*a<=R*A:=by
 rcases mq 0 r with h | h
 .have:=oG h hr.2 ha.1 ha.2;have h2:=cZ (show 0<=R by omega) (show 0<=A by omega);omega
 .have:=oG (a := -r) (A:=R) (by omega) (by omega) ha.1 ha.2;rw[Int.neg_mul]at this;have h2:=cZ (show 0<=R by omega) (show 0<=A by omega);omega
theorem Ni{w:bJ}{r:Int}(hr : -100000<=r/\r<=100000)(h1:0<=w.h/\w.h<=3000)(h2:0<=w.m/\w.m<=1000000):sm (w.given r) 1000000000000:=by
 have b1:=mulR h1 hr;have b2:=mulR h2 hr;exact⟨⟨by simp only[bJ.given];omega,by simp only[bJ.given];omega⟩,⟨by simp only[bJ.given,Int.neg_mul];omega,by simp only[bJ.given,Int.neg_mul];omega⟩,⟨by simp only[bJ.given,Int.neg_mul];omega,by simp only[bJ.given,Int.neg_mul];omega⟩⟩
theorem Ud{b:cp}{m:bE}(h:Fv b m){i:Nat}(hi:i<b.n):sm (O2 b m i) 1000000000000:=by
 have b1:=h.feed i hi;have b2:=h.bv.deep;have b3:=oG b1.1 b1.2 b2.1 b2.2;exact⟨⟨by simp only[O2];omega,by simp only[O2];omega⟩,⟨by simp only[O2];omega,by simp only[O2];omega⟩,⟨by simp[O2],by simp[O2]⟩⟩
def ez(b:cp)(s s1:List aI.aO)(aW:List Int)(j:Nat):List aI.aO:=((b.an.zip aW).take j).foldl (λn wr=>vn s n wr.1 wr.2) s1
def mg(b:cp)(m:bE)(s2:List aI.aO)(i:Nat):List aI.aO:=(List.range i).foldl (λn i=>gT n i (O2 b m i) 1) s2
theorem FC{b:cp}{s s1:List aI.aO}{aW:List Int}{j:Nat}{w:bJ}{r:Int}(h1:b.an[j]?=some w)(h2:aW[j]?=some r):ez b s s1 aW (j+1)=vn s (ez b s s1 aW j) w r:=by
 have:(b.an.zip aW)[j]?=some (w,r):=by rw[List.getElem?_zip_eq_some];exact⟨h1,h2⟩
 unfold ez;rw[List.take_add_one,this,List.foldl_append];rfl
theorem Cx{b:cp}{m:bE}{s2:List aI.aO}{i:Nat}:mg b m s2 (i+1)=gT (mg b m s2 i) i (O2 b m i) 1:=by
 unfold mg;rw[List.range_succ,List.foldl_append];rfl
theorem Bg{b:cp}{m:bE}{s2:List aI.aO}:∀i,(mg b m s2 i).length=s2.length
 |0=>rfl
 |i+1=>by rw[Cx,Ff,Bg i]
theorem VR{b:cp}{s:List aI.aO}{aW:List Int}{j:Nat}{w:bJ}{r:Int}(h1:b.an[j]?=some w)(h2:aW[j]?=some r):(dR b s aW)[j]?=some (sS s w r):=by
 have:(b.an.zip aW)[j]?=some (w,r):=by rw[List.getElem?_zip_eq_some];exact⟨h1,h2⟩
 simp[dR,this]
structure Rv(b:cp)(aW:List Int):Prop where
 len:aW.length=b.an.length
 ok:∀r∈aW,-100000<=r/\r<=100000
theorem Rv.of{b:cp}{aW:List Int}(h:Bu b aW=0):Rv b aW:=by
 unfold Bu at h;split at h
 .rename_i hl;split at h
  .rename_i ha;exact⟨hl,λr hr=>bk.1 (jq.1 ha r hr)⟩
  .cases h
 .cases h
theorem XO{b:cp}{s next:List aI.aO}(h:Bv b)(hs:Sv b s){aW:List Int}(hr:Rv b aW){j:Nat}{w:bJ}{r:Int}(h1:b.an[j]?=some w)(h2:aW[j]?=some r){N:Int}(hb:CX N next):CX (N+1000000000000) (vn s next w r):=by
 have hw:=Ji h w (ai h1);have hrr:=hr.ok r (ai h2);obtain⟨_,m1,m2,m3⟩:=hs.at (i:=w.b.toNat) (by omega);have d2:=bC (b:=8) (show 0<=(bZ s w.b.toNat).m by omega);unfold vn sS;split
 .exact As hb (Ni hrr hw.2.1 hw.2.2) (.inl rfl) (by omega)
 .exact As hb (Pl m1 m2 m3 ⟨by rw[d2];omega,by rw[d2];omega⟩) (.inr rfl) (by omega)
theorem Mh{s n:List aI.aO}{w:bJ}{r:Int}:(vn s n w r).length=n.length:=by
 unfold vn;split<;>simp[Ff]
theorem BF{b:cp}{s s1:List aI.aO}(h:Bv b)(hs:Sv b s){aW:List Int}(hr:Rv b aW)(hb:CX 500000000000000 s1):∀j,j<=aW.length->CX (500000000000000+1000000000000*j) (ez b s s1 aW j)/\(ez b s s1 aW j).length=s1.length
 |0,_=>⟨by simpa[ez]using hb,by simp[ez]⟩
 |j+1,hj=>by
  obtain⟨r,h2⟩:∃r,aW[j]?=some r:=gE (by omega);obtain⟨w,h1⟩:∃w,b.an[j]?=some w:=⟨_,aC (by rw[<- hr.len];omega)⟩;obtain⟨ih1,ih2⟩:=BF h hs hr hb j (by omega);rw[FC h1 h2];have h3:=XO h hs hr h1 h2 ih1;exact⟨λx hx=>jU (h3 x hx) (by push_cast;omega),by rw[Mh,ih2]⟩
theorem Kl{b:cp}{m:bE}{s2:List aI.aO}(h:Fv b m)(hb:CX 600000000000000 s2):∀i,i<=b.n->CX (600000000000000+1000000000000*i) (mg b m s2 i)
 |0,_=>by simpa[mg]using hb
 |i+1,hi=>by
  have ih:=Kl h hb i (by omega);rw[Cx];have h3:=As (i:=i) ih (Ud h (i:=i) (by omega)) (.inl rfl) (by omega);exact λx hx=>jU (h3 x hx) (by push_cast;omega)
end Go.Proofs.YtanhdobabijmoaaGreatDoor
