import Derived.Test.YtpapbbojmclkgaaGreatDoorTxt7
set_option linter.all false
namespace Go.Proofs.YtpapbbojmclkgaaGreatDoor
section
open Go Go.Abs Go.Rock Go.Book
variable {J:SK}
theorem VD{u:oW}(hs:yU u.parts)(hl:u.parts.length<=8):∀(m i:Nat) (out:Int),i+m=u.parts.length->0<=out->out<=100000*i ->
  WL T [1,3,4] false jR [(1,.bf u.enc),(3,iI out),(4,iI i)] J
   (λx e J'=>x=.exit 0/\J'=J/\get e 3=iI (out+FT (u.parts.drop i)))
 |0,i,out,hi,h0,ho=>by
  refine aB jR.eq_1 ?_;have h1:¬i<u.parts.length:=by omega
  have h2:u.parts.drop i=[]:=an (by omega);simp[h1,h2,FT]
 |m+1,i,out,hi,h0,ho=>by
  refine aB jR.eq_1 ?_;have h1:i<u.parts.length:=by omega
  obtain⟨p,hp⟩:=gE h1;have hfl:=bu (f:=Prt.enc) (w:=2) (λ_=>rfl) hp;have hd:=bD hp;have h4:=cr h1 (by omega);have hb:=hs p (aj hp);have w1:=cf (n:=out+p.width) (by omega);have ih:=VD hs hl m (i+1) (out+p.width) (by omega) (by omega) (by omega);rw[hd,FT];simp[h1,hfl,h4,w1];exact WL.to ih (by simp) rfl λx e J' hh=>by simpa[Int.add_assoc]using hh
theorem abF{u:oW}(hs:yU u.parts)(hl:u.parts.length<=8):Cl uS [.agg u.enc] (iI (FT u.parts)) J:=by
 refine au rfl rfl rfl ?_;simp[];refine WL.to (VD (J:=[]::J) hs hl u.parts.length 0 0 (by omega) (by omega) (by omega)) (by simp) rfl ?_;rintro x e J' ⟨rfl,rfl,g2⟩;simp[g2]
theorem VE{u:oW}(hs:yU u.parts)(hl:u.parts.length<=8):∀(k i:Nat) (out m:Int),i+k=u.parts.length->0<=m->m<=1000000->0<=out->out<=1000000000*i ->
  WL T [1,2,5,6] false mV [(1,iI m),(2,.bf u.enc),(5,iI out),(6,iI i)] J
   (λx e J'=>x=.exit 0/\J'=J/\get e 5=iI (out+ue (u.parts.drop i) m))
 |0,i,out,m,hi,hm,hm2,h0,ho=>by
  refine aB mV.eq_1 ?_;have h1:¬i<u.parts.length:=by omega
  have h2:u.parts.drop i=[]:=an (by omega);simp[h1,h2,ue]
 |k+1,i,out,m,hi,hm,hm2,h0,ho=>by
  refine aB mV.eq_1 ?_;have h1:i<u.parts.length:=by omega
  obtain⟨p,hp⟩:=gE h1;have hfl:=bu (f:=Prt.enc) (w:=2) (λ_=>rfl) hp;have d1:=pA (f:=Prt.enc) (w:=2) (λ_=>rfl) hp;have d2:(fM u.parts Prt.enc).drop (i*2+1)=iI p.kG::(fM u.parts Prt.enc).drop (i*2+2):=by
   have:=congrArg (List.drop 1) d1;simpa[cS]using this
  have hd:=bD hp;have h4:=cr h1 (by omega);have hb:=hs p (aj hp);have hmn:0<=min m p.width/\min m p.width<=m:=by omega
  have q1:0<=p.kG*min m p.width:=bF hb.1.1 hmn.1;have q2:p.kG*min m p.width<=1000*1000000:=cH hb.1.2 (by omega) hmn.1 (by omega);have w0:IntKind.i64.wrap (min m p.width*p.kG)=p.kG*min m p.width:=by rw[Int.mul_comm];exact cf (by omega)
  have w1:=cf (n:=m-min m p.width) (by omega);have w2:=cf (n:=out+p.kG*min m p.width) (by omega);have ih:=VE hs hl k (i+1) (out+p.kG*min m p.width) (m-min m p.width) (by omega) (by omega) (by omega) (by omega) (by omega);rw[hd,ue];simp[h1,hfl,h4,w0,w1,w2];exact WL.to ih (by simp) rfl λx e J' hh=>by simpa[Int.add_assoc]using hh
theorem abJ{u:oW}{m:Int}(hs:yU u.parts)(hl:u.parts.length<=8)(hm:0<=m/\m<=1000000):Cl Ay [.agg u.enc,iI m] (iI (ue u.parts m)) J:=by
 refine au rfl rfl rfl ?_;simp[];refine WL.to (VE (J:=[]::J) hs hl u.parts.length 0 0 m (by omega) hm.1 hm.2 (by omega) (by omega)) (by simp) rfl ?_;rintro x e J' ⟨rfl,rfl,g2⟩;simp[g2]
def Xu(u:oW)(s:sU):D:=if FT u.parts<s.m then .cV [.agg [iI 0,iI 0,iI 0,iI 0],iI 0,iI 2]
 else if s.h<ue u.parts s.m then .cV [.agg [iI 0,iI 0,iI 0,iI 0],iI 0,iI 9]
 else .cV [.agg [iI s.m,iI (s.h-ue u.parts s.m),iI s.s,iI s.g],iI (ue u.parts s.m),iI 0]
theorem abG{u:oW}{s:sU}(hu:u.ok=true)(hs:s.valid=true):Cl yy [.agg u.enc,.agg s.enc] (Xu u s) J:=by
 refine au rfl rfl rfl ?_;have hok:=hu;simp only[oW.ok,af]at hu;have hl:u.parts.length<=8:=by have:=aS.1 hu.2.1;omega
 have hsm:=zD (by omega) hu.2.2;simp only[sU.valid,af,aS]at hs;have hc:=λJ=>abF (J:=J) hsm hl
 have hp:=λJ=>abJ (J:=J) hsm hl hs.1
 have hb:=M6 hsm hs.1.1;have w1:=cf (n:=s.h-ue u.parts s.m) (by omega);simp only[oW.enc]at hc hp;unfold Xu;by_cases c1:FT u.parts<s.m
 .simp[hc,c1]
 by_cases c2:s.h<ue u.parts s.m
 .simp[hc,hp,c1,c2]
 simp[hc,hp,c1,c2,w1]
theorem Th{x:sU}(hm : -1000000000<=x.m/\x.m<=1000000000):Cl qD [.agg x.enc] (.bool x.valid) J:=by
 refine au rfl rfl rfl ?_;have w1:=cf (n:=4000*x.m) (by omega);have w2:=cf (n:=10000*x.m) (by omega);cases hc1:bA x.m 0 1000000
 .simp[dh,sU.valid,hc1]
 cases hc2:bA x.h 0 (4000*x.m)
 .simp[dh,sU.valid,w1,hc1,hc2]
 cases hc3:bA x.s 0 (10000*x.m)
 .simp[dh,sU.valid,w1,w2,hc1,hc2,hc3]
 simp[dh,sU.valid,w1,w2,hc1,hc2,hc3]
theorem UT{r:Rw}{x:sU}(hr:0<=r.l/\r.l<r.v/\r.v<=4000)(hs:0<=r.s/\r.s<=2000)(hx:x.valid=true)(hx1:x.s=0)(hx2:x.g=0):
  ∃c:List D,c.length=6/\∀J,Cl Am [.agg r.enc,.agg x.enc] (.agg ((fA r x).enc++c)) J:=by
 simp only[sU.valid,af,aS]at hx;obtain⟨⟨m0,m1⟩,⟨h0,h1⟩,_,_⟩:=hx;obtain⟨x,xh,xs,xg⟩:=x;simp only at hx1 hx2 m0 m1 h0 h1;subst hx1 hx2;have b1:0<=x*r.l/\x*r.l<=1000000*4000:=⟨bF m0 hr.1,cH m1 (by omega) hr.1 (by omega)⟩;have b2:0<=x*r.v/\x*r.v<=1000000*4000:=⟨bF m0 (by omega),cH m1 (by omega) (by omega) (by omega)⟩;have b3:0<=x*r.s/\x*r.s<=1000000*2000:=⟨bF m0 hs.1,cH m1 hs.2 hs.1 (by omega)⟩;have w1:=cf (n:=x*r.l) (by omega);have w2:=cf (n:=x*r.v) (by omega);have w3:=cf (n:=x*r.s) (by omega);have w4:=cf (n:=xh-x*r.l) (by omega);have w5:=cf (n := -(x*r.s)) (by omega);have w6:=cf (n:=r.v-r.l) (by omega);have mx:max 0 (-(x*r.s))=0:=by omega
 by_cases hx0:x=0
 .obtain rfl:xh=0:=by omega
  subst hx0;have hf:eH r ⟨0,0,0,0⟩=0:=by simp[eH]
  refine⟨[iI 0,iI 0,iI 0,iI 0,iI 0,iI 0],rfl,λJ=>?_⟩;refine au rfl rfl rfl ?_;simp[fA,Ny,Nx,hf,cf]
 by_cases c1:xh-x*r.l<=0
 .have hf:eH r ⟨x,xh,0,0⟩=0:=by simp only[eH,if_pos c1]
  refine⟨[iI x,iI xh,iI 0,iI 0,iI 0,iI 0],rfl,λJ=>?_⟩;refine au rfl rfl rfl ?_;simp[fA,Ny,Nx,hf,w1,w3,w4,w5,mx,show ¬x*r.l<xh by omega,Ne.symm hx0]
 have c1':x*r.l<xh:=by omega
 by_cases c2:x*r.v<=xh
 .have hf:eH r ⟨x,xh,0,0⟩=x:=by simp only[eH,if_neg c1,if_pos c2]
  refine⟨[iI 0,iI 0,iI 0,iI 0,iI 0,iI 0],rfl,λJ=>?_⟩;refine au rfl rfl rfl ?_;simp[fA,Ny,Nx,hf,w1,w2,w4,c1',c2,hx0,show 0<x by omega]
 have hd:0<r.v-r.l:=by omega
 have hmv:x*r.v=x*r.l+x*(r.v-r.l):=by rw[<- Int.mul_add];congr 1;omega
 have hf:eH r ⟨x,xh,0,0⟩=(xh-x*r.l) / (r.v-r.l):=by simp only[eH,if_neg c1,if_neg c2]
 have hq:(xh-x*r.l).tdiv (r.v-r.l)=(xh-x*r.l) / (r.v-r.l):=aO (by omega);have s0:0<=(xh-x*r.l) / (r.v-r.l):=Int.ediv_nonneg (by omega) (by omega);have s1:(xh-x*r.l) / (r.v-r.l)<x:=Int.ediv_lt_of_lt_mul hd (by omega);have hne:¬r.v-r.l=0:=by omega
 generalize hz:(xh-x*r.l) / (r.v-r.l)=z at *
 have w7:=cf (n:=z) (by omega);have hzx:¬z=x:=by omega
 by_cases c3:z=0
 .subst c3;refine⟨[iI x,iI xh,iI 0,iI 0,iI (xh-x*r.l),iI 0],rfl,λJ=>?_⟩;refine au rfl rfl rfl ?_;simp[fA,Ny,Nx,hf,w1,w2,w3,w4,w5,w6,w7,mx,c1',c2,hq,hne,hzx]
 .have e1:0<=z*r.v/\z*r.v<=1000000*4000:=⟨bF s0 (by omega),cH (by omega) (by omega) (by omega) (by omega)⟩;have v1:=cf (n:=z*r.v) (by omega);have v2:=cf (n:=x-z) (by omega);have v3:=cf (n:=xh-z*r.v) (by omega);have e2:0<=(x-z)*r.l/\(x-z)*r.l<=1000000*4000:=⟨bF (by omega) hr.1,cH (by omega) (by omega) hr.1 (by omega)⟩;have e3:0<=(x-z)*r.s/\(x-z)*r.s<=1000000*2000:=⟨bF (by omega) hs.1,cH (by omega) hs.2 hs.1 (by omega)⟩;have v4:=cf (n:=(x-z)*r.l) (by omega);have v5:=cf (n:=(x-z)*r.s) (by omega);have v6:=cf (n:=xh-z*r.v-(x-z)*r.l) (by omega);have v7:=cf (n := -((x-z)*r.s)) (by omega);have my:max 0 (-((x-z)*r.s))=0:=by omega
  refine⟨[iI (x-z),iI (xh-z*r.v),iI 0,iI 0,iI (xh-z*r.v-(x-z)*r.l),iI 0],rfl,λJ=>?_⟩;refine au rfl rfl rfl ?_;simp[fA,Ny,Nx,hf,w1,w2,w4,w6,w7,c1',c2,c3,hq,hne,hzx,v1,v2,v3,v4,v5,v6,v7,my,show 0<z by omega]
theorem XP{r:Rw}{x:sU}(hr:0<=r.l/\r.l<r.v/\r.v<=4000)(hx:x.valid=true):(fA r x).valid=true:=by
 simp only[sU.valid,af,aS]at hx;obtain⟨⟨m0,m1⟩,⟨h0,h1⟩,_,g0,g1⟩:=hx;obtain⟨f1,f2,f3⟩:=OS (x:=x) hr m0;simp only[fA,sU.valid,af,aS];refine⟨by omega,?_,by omega,?_⟩
 .unfold Ny;split
  .omega
  .split
   .rename_i h;rw[h];omega
   .have:=bF f1 (show 0<=r.v by omega);have:=Int.mul_le_mul_of_nonneg_left hr.2.2 f1;omega
 .unfold Nx;split<;>omega
theorem W0{l:List Int}{v:Int}(h:l≠[]):Et (l++[v])=min (Et l) v/\Er (l++[v])=max (Er l) v:=by
 cases l with
 |nil=>exact absurd rfl h
 |cons a l=>simp[Et,Er]
def IF(tk w:Int)(acc:List Int):List D:=[iI tk,iI w,iI (Et acc),iI (Er acc),iI 0,iI 0]
theorem RR{n:Nat}{b:Bk}{w lv u:Nat}{price:Int}{M:List bV}{R:List D}(hR:R=bS b)(hK:Kr n b)(ht:fO b.aQ.dL=true)(hp:b.az≠[])(hM:∀m∈M,Bd b.aQ m=true/\∃r,Rock.run b.aQ m b.az=some r)(hl:M.length<=40)(hJ:J≠[])
  (hw:w<b.aQ.av.length) (hlv:lv<b.aQ.dL.length) (hu:u<b.cJ.length):∀(k i:Nat),i+k=M.length ->
  WL T [1,2,4,6,7,8] false m9 [(1,.bY 4 [.int .i64 w,.int .i64 lv,.int .i64 u,.int .i64 price]),(2,.own 0 R),(4,.own 0 zS),(6,.bY M.length (fM M bV.enc)),(7,.own 0 (IF b.az.length w ((M.take i).map (oT b w lv u)))),(8,.int .i64 i)] J
   (λx e J'=>J'=J/\if bT (uH b w lv u) (M.drop i)=0 then x=.exit 0/\get e 1=.bY 4 [.int .i64 w,.int .i64 lv,.int .i64 u,.int .i64 price]/\get e 2=.own 0 R/\get e 4=.own 0 zS/\get e 7=.own 0 (IF b.az.length w (M.map (oT b w lv u)))
    else x=.ret/\get e 4=.own 0 R/\get e 5=.int .i64 (bT (uH b w lv u) (M.drop i)))
 |0,i,hi=>by
  refine aB m9.eq_1 ?_;obtain rfl:i=M.length:=by omega
  have h2:M.drop M.length=[]:=an (by omega);simp[-List.map_take,h2,bT,IF]
 |k+1,i,hi=>by
  refine aB m9.eq_1 ?_;have h1:i<M.length:=by omega
  obtain⟨m,hm⟩:=gE h1;obtain⟨hBd,r,hrun⟩:=hM m (aj hm);have a1:=bu (f:=bV.enc) (w:=2) (λ_=>rfl) hm;have h4:=cr h1 (by omega);have htn:=vd ht;have hT:=jj (f:=Rw.enc) htn;have hPl:=jj (f:=pE) hp;have hun0:b.cJ≠[]:=λh=>by rw[h]at hu;simp[]at hu
  have hU:=jj (f:=oW.enc) hun0;obtain⟨hp1,hp2⟩:=nR hK.kv.pl;obtain⟨ss,ys⟩:=r;have hP:∀J,J≠[]->dj T (.call false ka [.agg [.int .i64 b.aQ.f.x,.int .i64 b.aQ.f.y,.int .i64 b.aQ.f.z,.int .i64 b.aQ.f.k,.bY b.aQ.dL.length (fM b.aQ.dL Rw.enc),.int .i64 b.aQ.cz,.int .i64 b.aQ.lift,.int .i64 b.aQ.deep,nl bG.enc b.aQ.av],.agg [.str m.name,.bY m.dn.length (fM m.dn aT)],.bY b.az.length (fM b.az pE)] J)=_:=λJ hJ=>I5 (J:=J) (Fv.of hBd) hp1 hp2 hJ hrun ke
  have hRun:=Lg.of (Fv.of hBd) hp2 hrun;have hpl:0<b.az.length:=aG.2 hp;obtain⟨hrow,hY⟩:=Ps (r:=(ss,ys)) hRun (t:=b.az.length-1) (by omega);dsimp only at hrow hY;have f1:=bu (f:=kS) (w:=1) (λ_=>rfl) hrow;rw[cp]at f1;have hyw:=S9 hY hw;have f2:=bu (f:=Rock.aD.enc) (w:=3) (λ_=>rfl) hyw;have hyb:=hY.ok _ (aj hyw);have hyl:=hY.len;have w1:=cf (n:=(b.az.length:Int)-1) (by omega);have⟨t1,q1⟩:((b.az.length:Int)-1).toNat=b.az.length-1/\(1:Int)<=b.az.length:=by omega
  have q2:(b.az.length:Int)-1<ys.length:=by have:=hRun.yl;omega
  have hrw:b.aQ.dL[lv]?=some (rowOf b lv):=by simp[rowOf,hlv]
  have hun:b.cJ[u]?=some (we b u):=by simp[we,hu]
  have f3:=bu (f:=oW.enc) (w:=2) (λ_=>rfl) hun;have f4:=bu (f:=Rw.enc) (w:=5) (λ_=>rfl) hrw;obtain⟨r1,r2⟩:=Xw ht hrw;have huk:=hK.kv.uok _ (aj hun);have hV:=λJ=>Th (J:=J) (x:=nq b (ss,ys) w) (show -1000000000<=(aP (rowAt ys (b.az.length-1)) w).m/\(aP (rowAt ys (b.az.length-1)) w).m<=1000000000 by omega)
  have ih:=RR (price:=price) hR hK ht hp hM hl hJ hw hlv hu k (i+1) (by omega);rw[bD hm,bT];have hs0:uH b w lv u m=if(nq b (ss,ys) w).valid=true then JM (we b u) (fA (rowOf b lv) (nq b (ss,ys) w))else 1:=by simp[uH,hrun]
  subst hR;cases c1:(nq b (ss,ys) w).valid with
  |false =>
   rw[c1]at hV;have hs1:uH b w lv u m=1:=by rw[hs0,c1];rfl
   rw[hs1];simp only[sU.enc,nq]at hV;simp[-List.map_take,bS,h1,a1,hT,hPl,hP,f1,f2,w1,t1,q1,q2,hyl,hw,kS,hV,zS,hJ]
  |true =>
   rw[c1]at hV;have hs1:uH b w lv u m=JM (we b u) (fA (rowOf b lv) (nq b (ss,ys) w)):=by rw[hs0,c1];rfl
   have hv1:oT b w lv u m=ue (we b u).parts (fA (rowOf b lv) (nq b (ss,ys) w)).m:=by simp[oT,hrun]
   have hso:=XP r1 c1;obtain⟨fc,fl,hF⟩:=UT r1 r2 c1 rfl rfl;have hX:=λJ=>abG (J:=J) (s:=fA (rowOf b lv) (nq b (ss,ys) w)) huk hso
   have hul:=I2 b.cJ;have hrl:=Nm b.aQ.dL;have⟨q3,q4⟩:2<=b.cJ.length*2-u*2/\5<=b.aQ.dL.length*5-lv*5:=by omega
   simp only[JM,if_pos hso]at hs1;unfold Xu at hX;rw[<- hv1]at hX hs1;by_cases c2:FT (we b u).parts<(fA (rowOf b lv) (nq b (ss,ys) w)).m
   .rw[if_pos c2]at hX hs1;rw[hs1];simp only[sU.enc,fA,nq,cm,List.nil_append,oW.enc,Rw.enc]at hV hF hX f3;simp[-List.map_take,bS,h1,a1,hT,hPl,hU,hP,f1,f2,w1,t1,q1,q2,hyl,hw,kS,hV,zS,hJ,hF,hX,f3,f4,hu,hlv,fl]
   rw[if_neg c2]at hX hs1;by_cases c3:(fA (rowOf b lv) (nq b (ss,ys) w)).h<oT b w lv u m
   .rw[if_pos c3]at hX hs1;rw[hs1];simp only[sU.enc,fA,nq,cm,List.nil_append,oW.enc,Rw.enc]at hV hF hX f3;simp[-List.map_take,bS,h1,a1,hT,hPl,hU,hP,f1,f2,w1,t1,q1,q2,hyl,hw,kS,hV,zS,hJ,hF,hX,f3,f4,hu,hlv,fl]
   rw[if_neg c3]at hX hs1;rw[hs1];simp only[sU.enc,fA,nq,cm,List.nil_append,oW.enc,Rw.enc]at hV hF hX f3;rw[List.take_add_one,hm]at ih;by_cases hi0:i=0
   .have hb:((i:Int) == 0)=true:=by simp[hi0]
    have e1:(M.take i).map (oT b w lv u)=[]:=by rw[hi0];rfl
    simp[-List.map_take,bS,h1,a1,h4,hT,hPl,hU,hP,f1,f2,w1,t1,q1,q2,hyl,hw,kS,hV,hJ,hF,hX,f3,f4,hu,hlv,fl,hb,e1,IF];exact WL.to ih (by simp[bS,hT,hPl,hU,IF,e1,Et,Er]) rfl λx e J' hh=>by simpa[pO,bS,hT,hPl,hU,IF]using hh
   .have hb:((i:Int) == 0)=false:=by simp[hi0]
    obtain⟨g1,g2⟩:=W0 (l:=(M.take i).map (oT b w lv u)) (v:=oT b w lv u m) (λh=>hi0 (by have:=congrArg List.length h;rw[bE,dp,bx]at this;omega));simp[-List.map_take,bS,h1,a1,h4,hT,hPl,hU,hP,f1,f2,w1,t1,q1,q2,hyl,hw,kS,hV,hJ,hF,hX,f3,f4,hu,hlv,fl,hb,IF];exact WL.to ih (by simp[-List.map_take,bS,hT,hPl,hU,IF,g1,g2]) rfl λx e J' hh=>by simpa[pO,bS,hT,hPl,hU,IF]using hh
theorem YO{n:Nat}{b:Bk}{w lv u price:Int}(hK:Kr n b)(hn:n<=1000000)(hJ:J≠[]):
  Cl xr [.agg (bS b),.bY 4 [iI w,iI lv,iI u,iI price]] (gp (mI b w lv u price)) J:=by
 refine au rfl rfl rfl ?_;have hS:=λJ=>Mj (J:=J) (b:=b) hK.kv.ml
 have hnp:=nr (f:=pE) b.az;by_cases c1:cc b.ah=[]
 .have hd:mI b w lv u price=(b,8):=by unfold mI;rw[if_pos (.inl c1)]
  rw[hd];simp[c1]at hS;simp only[bS]at hS;simp[bS,hS,gp];exact cI (b:=b) rfl
 by_cases c2:b.az=[]
 .have hd:mI b w lv u price=(b,8):=by unfold mI;rw[if_pos (.inr c2)]
  have hE:nl pE b.az=.aW:=by simp[nl,c2]
  rw[hd];simp[c1]at hS;simp only[bS,hE]at hS;simp[bS,hE,hS,gp];exact cI (b:=b) (by simp[bS,hE])
 have hne:=MU c1;have hv:=hK.valid hne;have ht:=(Bv.of hv).dL;have htn:=vd ht;have hT:=jj (f:=Rw.enc) htn;have hP:=jj (f:=pE) c2;simp[c1]at hS;simp only[bS,hT,hP]at hS;have hnw:=nr (f:=bG.enc) b.aQ.av;have hnu:=nr (f:=oW.enc) b.cJ;have hwl:=(Bv.of hv).av;have htl:=NA (.inr ht);have hul:=hK.kv.cJ;have w1:=cf (n:=(b.aQ.av.length:Int)-1) (by omega);have w2:=cf (n:=(b.aQ.dL.length:Int)-1) (by omega);have w3:=cf (n:=(b.cJ.length:Int)-1) (by omega);have hq:((b.az.length:Int) == 0)=false:=by have:=aG.2 c2;rw[beq_eq_false_iff_ne];omega
 by_cases c3:FJ b w lv u price=true
 case neg =>
  have hd:mI b w lv u price=(b,2):=by unfold mI;rw[if_neg (by simp[c1,c2]),if_neg c3]
  rw[hd];unfold FJ at c3;cases k1:bA w 0 ((b.aQ.av.length:Int)-1)
  .simp[bS,hT,hP,hS,hq,hnw,w1,dh,k1,gp];exact cI (b:=b) (by simp[bS,hT,hP])
  cases k2:bA lv 0 ((b.aQ.dL.length:Int)-1)
  .simp[bS,hT,hP,hS,hq,hnw,w1,w2,dh,k1,k2,gp];exact cI (b:=b) (by simp[bS,hT,hP])
  cases k3:bA u 0 ((b.cJ.length:Int)-1)
  .simp[bS,hT,hP,hS,hq,hnw,hnu,w1,w2,w3,dh,k1,k2,k3,gp];exact cI (b:=b) (by simp[bS,hT,hP])
  cases k4:bA price 0 1000
  .simp[bS,hT,hP,hS,hq,hnw,hnu,w1,w2,w3,dh,k1,k2,k3,k4,gp];exact cI (b:=b) (by simp[bS,hT,hP])
  exact absurd (by rw[k1,k2,k3,k4];rfl) c3
 have hd:mI b w lv u price=if vn b w lv u=0 then(PD b w price (wA b w lv u),0)else(b,vn b w lv u):=by unfold mI;rw[if_neg (by simp[c1,c2]),if_pos c3]
 rw[hd];simp only[FJ,af]at c3;obtain⟨k1,k2,k3,k4⟩:=c3;have i1:=aS.1 k1;have i2:=aS.1 k2;have i3:=aS.1 k3;have i4:=aS.1 k4;obtain⟨w,rfl⟩:∃n:Nat,w=n:=⟨w.toNat,by omega⟩;obtain⟨lv,rfl⟩:∃n:Nat,lv=n:=⟨lv.toNat,by omega⟩;obtain⟨u,rfl⟩:∃n:Nat,u=n:=⟨u.toNat,by omega⟩;have hLf:=λJ hJ=>Mg (J:=J) (b:=b) hK.kv.ml hJ
 simp only[bS,hT,hP]at hLf;have hML:(gV b.ah).length<=40:=by have:=J7 b.ah;have:=hK.kv.ml;omega
 have hL:=RR (J:=[]::J) (b:=b) (M:=gV b.ah) (w:=w) (lv:=lv) (u:=u) (price:=price) (R:=bS b) rfl hK ht c2 (by
  intro m hm;obtain⟨e,he,hl,rfl⟩:=LL hm;exact⟨(hK.kv.fit e he).1,hK.kv.zR e he hl⟩) hML (by simp) (by omega) (by omega) (by omega) (gV b.ah).length 0 (by omega)
 have hz:bT (uH b w lv u) (gV b.ah)=vn b w lv u:=by simp only[vn,Int.toNat_natCast];exact Fp
 have hws:(gV b.ah).map (oT b w lv u)=wA b w lv u:=by simp[wA,gV]
 rw[aE,hz,hws]at hL;simp[bS,hT,hP,hS,hq,hnw,hnu,w1,w2,w3,dh,k1,k2,k3,k4,hLf];refine WL.to hL (by simp[bS,hT,hP,zS,IF,Et,Er]) rfl ?_;rintro x e J' ⟨rfl,h⟩;by_cases c4:vn b w lv u=0
 case neg =>
  rw[if_neg c4]at h ⊢;obtain⟨rfl,g4,g5⟩:=h;simp[g4,g5,fS,eL,gp];exact cI (b:=b) rfl
 rw[if_pos c4]at h ⊢;obtain⟨rfl,g1,g2,g4,g7⟩:=h;have hbs:∀x∈wA b w lv u,0<=x/\x<=1000000000:=by
  intro x hx;simp only[wA,bJ,Int.toNat_natCast]at hx;obtain⟨e,he,rfl⟩:=hx;simp only[vn,Int.toNat_natCast]at c4;exact SX (by omega) hK.kv.uok (sG c4 e he)
 obtain⟨⟨m1,m2⟩,m3,m4⟩:=aa6 (by omega) hbs;have hgen:∀lo hi,Et (wA b w lv u)=lo->Er (wA b w lv u)=hi->PD b w price (wA b w lv u)={b with fy:=b.fy++[⟨b.az.length,w,lo,hi,lo*price,hi*price⟩] }:=by rintro _ _ rfl rfl;rfl
 generalize hlo:Et (wA b w lv u)=lo at *
 generalize hhi:Er (wA b w lv u)=hi at *
 rw[hgen lo hi rfl rfl];have p1:0<=lo*price:=bF m1 i4.1;have p2:lo*price<=1000000000*1000:=cH m2 i4.2 i4.1 (by omega);have p3:0<=hi*price:=bF m3 i4.1;have p4:hi*price<=1000000000*1000:=cH m4 i4.2 i4.1 (by omega);have w4:=cf (n:=lo*price) (by omega);have w5:=cf (n:=hi*price) (by omega);have hsl:=hK.kv.fy;have l1:=SW b.fy;have l2:(fM b.fy Oh.enc).take (b.fy.length*6)=fM b.fy Oh.enc:=ai (by omega);have⟨r1,r2,r3⟩:b.fy.length*48<=room/\(b.fy.length+1)*48<=room/\48<=room:=by unfold room;omega
 by_cases hm:b.fy=[]
 .simp[g1,g2,g4,g7,IF,hlo,hhi,bS,hm,FA,r3,w4,w5,zS,gp];exact DQ (b:=b) (b':={b with fy:=[⟨b.az.length,w,lo,hi,lo*price,hi*price⟩] }) 17 6 (λ_=>rfl) acC [⟨b.az.length,w,lo,hi,lo*price,hi*price⟩] 0 0 1 hJ rfl rfl rfl (by simp) (by simp[bS,nl])
 .have e1:=jj (f:=Oh.enc) hm;simp[g1,g2,g4,g7,IF,hlo,hhi,bS,hm,e1,l1,l2,r1,r2,w4,w5,zS,gp];exact DQ (b:=b) (b':={b with fy:=b.fy++[⟨b.az.length,w,lo,hi,lo*price,hi*price⟩] }) 17 6 (λ_=>rfl) acC (b.fy++[⟨b.az.length,w,lo,hi,lo*price,hi*price⟩]) 0 1 (b.fy.length+1) hJ rfl rfl (by simp) (by simp) (by simp[bS,Hu])
end
section
open Go Go.Abs Go.Rock Go.Book
def z0(e:dQ):dQ:={e with PV:=0 }
def nmB(b:Bk):Bk:={b with ah:=b.ah.map z0,dq:=[],at_:=0 }
theorem ac4(l:List dQ):(l.map z0).map z0=l.map z0:=by
 rw[List.map_map];rfl
theorem agh(b:Bk):nmB (nmB b)=nmB b:=by
 simp only[nmB,ac4]
def SmQ(x y:Bk×Int):Prop:=x.2=y.2/\nmB x.1=nmB y.1
theorem SmQ.ite{c:Prop}{_:Decidable c}{x y x' y':Bk×Int}(h1:c->SmQ x x')(h2:¬c->SmQ y y'):SmQ (if c then x else y) (if c then x' else y'):=by
 by_cases h:c
 .rw[if_pos h,if_pos h];exact h1 h
 .rw[if_neg h,if_neg h];exact h2 h
theorem SmQ.no(b:Bk)(e:Int):SmQ (b,e) (nmB b,e):=⟨rfl,(agh b).symm⟩
end
end Go.Proofs.YtpapbbojmclkgaaGreatDoor
namespace Go.Book
open Go Go.Abs Go.Rock
def Gv(c:UInt8):Prop:=48<=c.toNat/\c.toNat<=57
instance (c:UInt8):Decidable (Gv c):=by unfold Gv;infer_instance
def oU:Nat->List UInt8->Option Nat
 |n,[]=>some n
 |n,c::s=>if Gv c then oU (10*n+(c.toNat-48)) s else none
def zf(minus:Bool)(d:List UInt8):Option Int :=
 if d.length=0\/9<d.length\/(d.head?=some 48/\(1<d.length\/minus=true))then none
 else(oU 0 d).map λn:Nat=>(if minus=true then -(n:Int)else(n:Int))
def Cv(s:List UInt8):Option Int:=if s.head?=some 45 then zf true (s.drop 1)else zf false s
theorem JF:∀{a b:List UInt8} {n:Nat},oU n (a++b)=(oU n a).bind λm=>oU m b
 |[],b,n=>rfl
 |c::a,b,n=>by
  simp only[cm,oU];split
  .exact JF
  .rfl
theorem BR:∀{s:List UInt8} {n m k:Nat},oU n s=some m->n<10^k->m<10^(k+s.length)
 |[],n,m,k,h,hn=>by simp only[oU,ae]at h;subst h;simpa using hn
 |c::s,n,m,k,h,hn=>by
  simp only[oU]at h;split at h
  .rename_i hd;have hd2:=hd.2;have:=BR (k:=k+1) h (by rw[Nat.pow_succ];omega);simpa[dA,Nat.add_comm 1]using this
  .cases h
theorem JG:∀{s:List UInt8} {n m:Nat},oU n s=some m->m<1844674407370955161->Lib.parseUint10 n s=.ok m
 |[],n,m,h,hm=>by simp only[oU,ae]at h;subst h;rfl
 |c::s,n,m,h,hm=>by
  simp only[oU]at h;split at h
  .rename_i hd;have hle:∀{s:List UInt8} {n m:Nat},oU n s=some m->n<=m:=by
    intro s;induction s with
    |nil=>intro n m h;simp only[oU,ae]at h;omega
    |cons c s ih =>
     intro n m h;simp only[oU]at h;split at h
     .have:=ih h;omega
     .cases h
   have h1:=hle h;have h2:=JG h hm;unfold Lib.parseUint10;have hd2:=hd.2;have hd1:=hd.1;rw[if_pos (show 48<=c.toNat/\c.toNat<=57 from hd),if_neg (by omega),if_neg (by omega),<- h2];congr 1;omega
  .cases h
theorem Wh{k:Nat}(hk:k<10):Gv (UInt8.ofNat (48+k))/\(UInt8.ofNat (48+k)).toNat-48=k:=by
 have:(UInt8.ofNat (48+k)).toNat=48+k:=UInt8.toNat_ofNat_of_lt' (by simp[UInt8.size];omega);unfold Gv;omega
theorem Wg{c:UInt8}(h:Gv c):UInt8.ofNat (48+(c.toNat-48))=c:=by
 have:=h.1;rw[show 48+(c.toNat-48)=c.toNat by omega];simp
theorem MH:∀{k u:Nat},u<10^k->0<k->oU 0 (uM k u)=some u
 |0,u,h,hk=>by omega
 |k+1,u,h,hk=>by
  unfold uM;split
  .rename_i hu;have h1:=Wh hu;simp only[oU,if_pos h1.1,h1.2,Nat.mul_zero,ck]
  .rename_i hu;have hk':0<k:=by
    rcases Nat.eq_zero_or_pos k with rfl | h0
    .simp at h;omega
    .exact h0
   have hd:=Wh (k:=u%10) (Nat.mod_lt _ (by omega));rw[JF,MH (k:=k) (u:=u / 10) (by rw[Nat.pow_succ]at h;omega) hk'];simp only[Option.bind_some,oU,if_pos hd.1,hd.2,ae];omega
theorem Qu:∀{k u:Nat},0<k->uM k u≠[]
 |0,u,hk=>by omega
 |k+1,u,hk=>by
  unfold uM;split<;>simp
theorem MI:∀{k u m:Nat},u<10^m->0<m->(uM k u).length<=m
 |0,u,m,h,hm=>by simp[uM]
 |k+1,u,m,h,hm=>by
  unfold uM;split
  .simp;omega
  .rename_i hu;obtain⟨j,rfl⟩:∃j,m=j+1:=⟨m-1,by omega⟩;have hj:0<j:=by
    rcases Nat.eq_zero_or_pos j with rfl | h0
    .simp at h;omega
    .exact h0
   have:=MI (k:=k) (u:=u / 10) (m:=j) (by rw[Nat.pow_succ]at h;omega) hj;simp;omega
theorem JD:∀{k u:Nat},u<10^k->(uM k u).head?=some 48->u=0
 |0,u,h,hh=>by simp[uM]at hh
 |k+1,u,h,hh=>by
  unfold uM at hh;split at hh
  .rename_i hu;simp only[List.head?_cons,ae]at hh;have:=congrArg UInt8.toNat hh;simp at this;omega
  .rename_i hu;have hk:0<k:=by
    rcases Nat.eq_zero_or_pos k with rfl | h0
    .simp at h;omega
    .exact h0
   have h1:(uM k (u / 10)).head?=some 48:=by
    cases hd:uM k (u / 10)with
    |nil=>exact absurd hd (Qu hk)
    |cons c r=>rw[hd]at hh;simpa using hh
   have:=JD (k:=k) (u:=u / 10) (by rw[Nat.pow_succ]at h;omega) h1;omega
theorem Se:∀{d:List UInt8} {n k:Nat},oU 0 d=some n->d≠[]->(d.head?=some 48->d.length=1)->d.length<=k->uM k n=d:=by
 intro d;induction hl:d.length using Nat.strongRecOn generalizing d with
 |ind m ih =>
  intro n k h hne hz hk;obtain⟨d',c,rfl⟩:∃d' c,d=d'++[c]:=⟨d.dropLast,d.getLast hne,(List.dropLast_concat_getLast hne).symm⟩;rw[JF]at h;cases h1:oU 0 d' with
  |none=>rw[h1]at h;cases h
  |some q =>
   rw[h1]at h;simp only[Option.bind_some,oU]at h;split at h
   .rename_i hc;simp only[ae]at h;have hc2:=hc.2;obtain⟨k,rfl⟩:∃j,k=j+1:=⟨k-1,by simp at hl;omega⟩;by_cases hd:d'=[]
    .subst hd;simp only[oU,ae]at h1;subst h1;have hn:n=c.toNat-48:=by omega
     subst hn;unfold uM;rw[if_pos (by have:=hc.1;omega),Wg hc];rfl
    .have hh:(d'++[c]).head?=d'.head?:=by
      cases d' with
      |nil=>exact absurd rfl hd
      |cons x r=>rfl
     have hz':d'.head?=some 48->d'.length=1:=by
      intro h2;have h5:=hz (by rw[hh];exact h2);have hp:=aG.2 hd;rw[<- hl,bB]at h5;simp only[aK,bx]at h5;omega
     have hnz:d'.head? ≠ some 48:=by
      intro h2;have h5:=hz (by rw[hh];exact h2);have hp:=aG.2 hd;rw[<- hl,bB]at h5;simp only[aK,bx]at h5;omega
     have ih1:=ih d'.length (by simp at hl;omega) rfl (n:=q) (k:=k) h1 hd hz' (by simp at hl;omega);have hq:q≠0:=by
      intro h2;subst h2;rw[<- ih1]at hnz;have hkp:0<k:=by have:=aG.2 hd;simp at hl;omega
      obtain⟨j,rfl⟩:∃j,k=j+1:=⟨k-1,by omega⟩;simp[uM]at hnz
     unfold uM;have e1:n / 10=q:=by omega
     have e2:n%10=c.toNat-48:=by omega
     rw[if_neg (by omega),e1,e2,ih1,Wg hc]
   .cases h
theorem Lm{d:List UInt8}{n:Nat}(h:oU 0 d=some n)(hne:d≠[])(hn:n<=999999999):
  rj d=(0,(n:Int))/\rj (45::d)=(0,-(n:Int)):=by
 have hp:=JG h (by omega);have hm:Lib.parseMag d=.ok n:=by unfold Lib.parseMag;rw[if_neg hne];exact hp
 constructor
 .unfold rj Lib.atoiAll;cases d with
  |nil=>exact absurd rfl hne
  |cons c r =>
   have hc:Gv c:=by
    simp only[oU]at h;split at h
    .assumption
    .cases h
   have h1:=hc.1;have h2:=hc.2;simp only;rw[if_neg (by omega),hm];simp only;rw[if_neg (by omega),if_neg (by omega),if_neg (by omega)]
 .unfold rj Lib.atoiAll;simp only;rw[if_pos (Or.inr (by decide)),hm];simp only;rw[if_neg (by simp),if_neg (by omega),if_pos (by decide)]
theorem Um(s:List UInt8):FB s=Cv s:=by
 have key:∀n,Cv s=some n->FB s=some n:=by
  intro n h;unfold Cv at h;split at h
  .rename_i hm;obtain⟨d,rfl⟩:∃d,s=45::d:=by
    cases s with
    |nil=>simp at hm
    |cons c d=>simp at hm;subst hm;exact⟨d,rfl⟩
   simp only[List.drop_succ_cons,aE]at h;unfold zf at h;split at h
   .cases h
   rename_i hc;simp only[not_or,not_and]at hc;simp only[ad]at h;obtain⟨m,h1,h2⟩:=h;have hne:d≠[]:=by intro h3;subst h3;simp at hc
   have hb:=BR (k:=0) h1 (by decide);have hlt:m<10^9:=Nat.lt_of_lt_of_le hb (Nat.pow_le_pow_right (by decide) (by omega));have hd:=Se (k:=20) h1 hne (λh3=>absurd trivial (hc.2.2 h3).2) (by omega);have hm0:m≠0:=by
    intro h3;subst h3;have:d.head?=some 48:=by rw[<- hd];rfl
    exact absurd trivial (hc.2.2 this).2
   obtain⟨_,ha⟩:=Lm h1 hne (by omega);unfold FB;rw[ha];have hi:DD (-(m:Int))=45::d:=by
    unfold DD;rw[if_pos (by omega),show(-(m:Int)).natAbs=m by omega,hd]
   rw[if_pos ⟨⟨rfl,hi⟩,by simp[bA];omega⟩];simpa using h2
  .rename_i hm;unfold zf at h;split at h
   .cases h
   rename_i hc;simp only[not_or,not_and]at hc;simp only[ad]at h;obtain⟨m,h1,h2⟩:=h;have hne:s≠[]:=by intro h3;subst h3;simp at hc
   have hb:=BR (k:=0) h1 (by decide);have hlt:m<10^9:=Nat.lt_of_lt_of_le hb (Nat.pow_le_pow_right (by decide) (by omega));have hd:=Se (k:=20) h1 hne (λh3=>by have:=(hc.2.2 h3).1;have:=aG.2 hne;omega) (by omega);obtain⟨ha,_⟩:=Lm h1 hne (by omega);unfold FB;rw[ha];have hi:DD (m:Int)=s:=by
    unfold DD;rw[if_neg (by omega),show((m:Int)).toNat=m by omega,hd]
   rw[if_pos ⟨⟨rfl,hi⟩,by simp[bA];omega⟩];simpa using h2
 cases hn:FB s with
 |none =>
  cases hw:Cv s with
  |none=>rfl
  |some n=>rw[key n hw]at hn;cases hn
 |some n =>
  have h:=hn;unfold FB at h;split at h
  .rename_i hc;obtain⟨⟨_,h1⟩,h2⟩:=hc;simp only[ae]at h;rw[h]at h1 h2;simp only[bA,af,aw]at h2;suffices Cv s=some n from this.symm
   rw[<- h1];unfold DD;split
   .rename_i hneg;have hlt:n.natAbs<10^9:=by omega
    have hd:=MH (k:=20) (u:=n.natAbs) (Nat.lt_trans hlt (by decide)) (by decide);have hl:=MI (k:=20) (u:=n.natAbs) (m:=9) hlt (by decide);have hne:=Qu (k:=20) (u:=n.natAbs) (by decide);have hh:(uM 20 n.natAbs).head? ≠ some 48:=λh3=>by have:=JD (Nat.lt_trans hlt (by decide)) h3;omega
    unfold Cv;rw[if_pos (show(45::uM 20 n.natAbs).head?=some 45 from rfl)];simp only[List.drop_succ_cons,aE];unfold zf;rw[if_neg (by simp only[not_or,not_and];exact⟨by have:=aG.2 hne;omega,by omega,λh3=>absurd h3 hh⟩),hd];simp;omega
   .rename_i hneg;have hlt:n.toNat<10^9:=by omega
    have hd:=MH (k:=20) (u:=n.toNat) (Nat.lt_trans hlt (by decide)) (by decide);have hl:=MI (k:=20) (u:=n.toNat) (m:=9) hlt (by decide);have hne:=Qu (k:=20) (u:=n.toNat) (by decide);have hh:(uM 20 n.toNat).head? ≠ some 45:=by
     intro h3;cases hx:uM 20 n.toNat with
     |nil=>exact hne hx
     |cons c r =>
      rw[hx]at hd h3;simp at h3;subst h3;simp[oU,Gv]at hd
    have hz:(uM 20 n.toNat).head?=some 48->¬1<(uM 20 n.toNat).length:=by
     intro h3;have h0:=JD (Nat.lt_trans hlt (by decide)) h3;rw[h0];decide
    unfold Cv;rw[if_neg hh];unfold zf;rw[if_neg (by simp only[not_or,not_and];exact⟨by have:=aG.2 hne;omega,by omega,λh3=>⟨hz h3,by simp⟩⟩),hd];simp;omega
  .cases h
end Go.Book
namespace Go.Book
open Go Go.Abs
end Go.Book
namespace Go.Proofs.YtpapbbojmclkgaaGreatDoor
section
open Go Go.Abs Go.Book
variable {J:SK}
def adl(l:List (List UInt8)):Prop:=l.length<=100/\∀s∈l,s.length<=4000
def acO:Y3 (List UInt8):=⟨false,1,dP,λs => .str s,λ_=>rfl,λ_=>by simp[dP],λ_=>rfl,λ_=>rfl,λ_=>rfl⟩
theorem U5{s:List UInt8}:Cl lU [.str s] (.bool (decide (4000<s.length))) J:=by
 refine au rfl rfl rfl ?_;have e:decide ((4000:Int)<(s.length:Int))=decide (4000<s.length):=by
  by_cases h:4000<s.length
  .rw[decide_eq_true h,decide_eq_true (by omega)]
  .rw[decide_eq_false h,decide_eq_false (by omega)]
 simp[gW,e]
def okB(l:List (List UInt8)):Bool:=decide (l.length<=100) && !l9 l (λs=>decide (4000<s.length))
theorem NO{l:List (List UInt8)}(hl:l.length<=1000000000):Cl wo [lF l dP] (iI (if okB l then 0 else 3)) J:=by
 refine au rfl rfl rfl ?_;have hC:=λJ=>contains_of acO (T:=T) (f:=fK) (i:=ln) (l:=l) (p:=λs=>decide (4000<s.length)) (fv:=.fn lU [] []) rfl rfl (by omega) (oJ.fn λs _ J=>U5) (J:=J)
 have hC':∀J,Cl fK [lF l dP,.fn lU [] []] (.bool (l9 l (λs=>decide (4000<s.length)))) J:=hC;unfold okB;by_cases h1:l.length<=100
 .have h2:¬(100:Int)<l.length:=by omega
  cases h3:l9 l (λs=>decide (4000<s.length))<;>rw[h3]at hC'<;>simp[h1,h2,hC']
 .have h2:(100:Int)<l.length:=by omega
  simp[h1,h2]
theorem SH{l:List (List UInt8)}:okB l=true↔adl l:=by
 unfold okB adl;simp only[af,aw,dR];constructor
 .rintro⟨h1,h2⟩;refine⟨h1,λs hs=>?_⟩;by_cases h:s.length<=4000
  .exact h
  .have h3:l9 l (λs=>decide (4000<s.length))=true:=Js.2 ⟨s,hs,show decide (4000<s.length)=true from decide_eq_true (by omega)⟩;rw[h2]at h3;cases h3
 .rintro⟨h1,h2⟩;refine⟨h1,?_⟩;cases h:l9 l (λs=>decide (4000<s.length))with
  |false=>rfl
  |true =>
   obtain⟨s,hs,h3⟩:=Js.1 h;have:=h2 s hs;simp only[aw]at h3;omega
theorem abT{l:List (List UInt8)}(hl:l.length<=1000000000)(hJ:J≠[]):Cl BX [lF l dP] (lF l dP) J:=by
 refine au rfl rfl rfl ?_;have hr:l.length*16<=room:=by unfold room;omega
 have hfl:(fM l dP).length=l.length:=by have:=ch (f:=dP) (w:=1) (λ_=>rfl) l;omega
 simp[hfl,hr,fN (f:=dP) (λ_=>by simp[dP]) l]
theorem RP{l:List (List UInt8)}(hl:l.length<=1000000000):∀(m i:Nat),i+m=l.length ->
  WL T [0,3] false m6 [(0,lF l dP),(3,iI i)] J
   (λx e J'=>J'=J/\if l9 (l.drop i) (λs=>decide (4000<s.length))then x=.ret/\get e 2=.bool false else x=.exit 0/\get e 0=lF l dP)
 |0,i,hi=>by
  refine aB m6.eq_1 ?_;obtain rfl:i=l.length:=by omega
  have h2:l.drop l.length=[]:=an (by omega);simp[h2,l9]
 |m+1,i,hi=>by
  refine aB m6.eq_1 ?_;have h1:i<l.length:=by omega
  obtain⟨s,hs⟩:=gE h1;have a1:=bu (f:=dP) (w:=1) (λ_=>rfl) hs;simp only[dP,cp]at a1;have h4:=cr h1 (by omega);rw[bD hs];by_cases hc:4000<s.length
  .have hc':(4000:Int)<s.length:=by omega
   simp[gW,h1,a1,hc,hc',l9]
  .have hc':¬(4000:Int)<s.length:=by omega
   simp[gW,h1,a1,h4,hc',l9,hc];exact WL.to (RP hl m (i+1) (by omega)) (by simp) rfl λx e J' hh=>by simpa[l9,hc]using hh
theorem Tv{l:List (List UInt8)}(hl:l.length<=1000000000):Cl AF [lF l dP] (.bool (okB l)) J:=by
 refine au rfl rfl rfl ?_;simp;refine WL.to (RP (J:=[]::J) hl l.length 0 (by omega)) (by simp) rfl ?_;rintro x e J' ⟨rfl,hh⟩;rw[aE]at hh;cases hc:l9 l (λs=>decide (4000<s.length))
 .rw[hc,if_neg (by simp)]at hh;obtain⟨rfl,g0⟩:=hh;by_cases h1:l.length<=100
  .have h2:(l.length:Int)<=100:=by omega
   simp[g0,okB,hc,h1,h2]
  .have h2:¬(l.length:Int)<=100:=by omega
   simp[g0,okB,hc,h1,h2]
 .rw[hc,if_pos rfl]at hh;obtain⟨rfl,g2⟩:=hh;simp[g2,okB,hc]
theorem RX{d:List UInt8}{v:Bool}(hd:d.length<=9):∀(m i n:Nat),i+m=d.length->n<10^i ->
  WL T [4,5,6,7] false lM [(4,.bool v),(5,.str d),(6,.int .i64 n),(7,.int .i64 i)] J
   (λx e J'=>J'=J/\match oU n (d.drop i)with
    |some k=>x=.exit 0/\get e 4=.bool v/\get e 6=.int .i64 k
    |none=>x=.ret/\get e 2=.int .i64 0/\get e 3=.bool false)
 |0,i,n,hi,hn=>by
  refine aB lM.eq_1 ?_;obtain rfl:i=d.length:=by omega
  have h2:d.drop d.length=[]:=an (by omega);simp[-List.map_take,gW,h2,oU]
 |m+1,i,n,hi,hn=>by
  refine aB lM.eq_1 ?_;have h1:i<d.length:=by omega
  obtain⟨c,hc⟩:=gE h1;have hcg:d[i]=c:=by have:=aI h1;rw[hc]at this;exact(Option.some.inj this).symm
  have h4:=cr h1 (by omega);rw[bD hc];have hp:10^(i+1)<=10^9:=Nat.pow_le_pow_right (by decide) (by omega);rw[Nat.pow_succ]at hp;have hb:=c.toNat_lt;by_cases h5:c.toNat<48
  .have h6:(c.toNat:Int)<48:=by omega
   have h7:¬Gv c:=by unfold Gv;omega
   simp[-List.map_take,gW,h1,hcg,h6,oU,h7]
  .have h6:¬(c.toNat:Int)<48:=by omega
   by_cases h8:57<c.toNat
   .have h9:(57:Int)<c.toNat:=by omega
    have h7:¬Gv c:=by unfold Gv;omega
    simp[-List.map_take,gW,h1,hcg,h6,h9,oU,h7]
   .have h9:¬(57:Int)<c.toNat:=by omega
    have h7:Gv c:=by unfold Gv;omega
    have w1:IntKind.i64.wrap (10*(n:Int))=((10*n:Nat):Int):=(cf (by omega)).trans (by omega);have w2:IntKind.u8.wrap ((c.toNat:Int)-48)=((c.toNat-48:Nat):Int):=(wu8 (by omega)).trans (by omega);have w3:IntKind.i64.wrap ((c.toNat-48:Nat):Int)=((c.toNat-48:Nat):Int):=cf (by omega);have w4:IntKind.i64.wrap (10*(n:Int)+((c.toNat-48:Nat):Int))=10*(n:Int)+((c.toNat-48:Nat):Int):=cf (by omega);have ih:=RX (v:=v) hd m (i+1) (10*n+(c.toNat-48)) (by omega) (by rw[Nat.pow_succ];omega);simp[-List.map_take,gW,h1,hcg,h6,h9,oU,w1,w2,w3,h4];exact WL.to ih (by simp[w4]) rfl λx e J' hh=>by rw[if_pos h7];exact hh
theorem YZ{s:List UInt8}:Cl AG [.str s] (.cV [iI ((FB s).getD 0),.bool (FB s).isSome]) J:=by
 rw[Um];refine au rfl rfl rfl ?_;obtain⟨v,d,hs⟩:∃(v:Bool) (d:List UInt8),(s=45::d/\v=true)\/(s=d/\v=false/\d.head? ≠ some 45):=by
  cases s with
  |nil=>exact⟨false,[],Or.inr ⟨rfl,rfl,by simp⟩⟩
  |cons c r =>
   by_cases h:c=45
   .subst h;exact⟨true,r,Or.inl ⟨rfl,rfl⟩⟩
   .exact⟨false,c::r,Or.inr ⟨rfl,rfl,by simpa using h⟩⟩
 have hw:Cv s=zf v d:=by
  rcases hs with⟨rfl,rfl⟩ | ⟨rfl,rfl,h⟩
  .rfl
  .unfold Cv;rw[if_neg h]
 rw[hw];have hL:=λh9=>RX (J:=[]::J) (v:=v) (d:=d) h9 d.length 0 0 (by omega) (by decide)
 have hneg:∀k,oU 0 d=some k->d.length<=9->IntKind.i64.wrap (-(k:Int)) = -(k:Int):=λk hk h9=>by
  have h1:=BR (k:=0) hk (by decide);have h2:=Nat.lt_of_lt_of_le h1 (Nat.pow_le_pow_right (by decide) (show 0+d.length<=9 by omega));exact cf (by omega)
 by_cases c1:d.length=0
 .obtain rfl:=bw.1 c1;rcases hs with⟨rfl,rfl⟩ | ⟨rfl,rfl,h⟩<;>simp[gW,zf]
 have⟨d1,hp,hp1,hp2,hp3⟩:¬(d.length:Int)=0/\0<d.length/\(0:Int)<d.length/\(0:Int)<(d.length:Int)+1/\(1:Int)<=(d.length:Int)+1:=by omega
 obtain⟨c,hc⟩:=gE hp;have hcg:d[0]=c:=by have:=aI hp;rw[hc]at this;exact(Option.some.inj this).symm
 have hh:d.head?=some c:=by rw[List.head?_eq_getElem?,hc]
 rw[hh]at hs;simp only[ne_eq,ae]at hs;by_cases c2:9<d.length
 .have d2:(9:Int)<d.length:=by omega
  rcases hs with⟨rfl,rfl⟩ | ⟨rfl,rfl,h⟩
  .simp[gW,zf,c1,c2,d2,hp3]
  .have h':¬c.toNat=45:=λh2=>h (UInt8.toNat_inj.1 h2)
   have h3:((c.toNat:Int) == 45)=false:=by simp;omega
   simp[gW,zf,c1,c2,d2,hp,hcg,h3]
 have d2:¬(9:Int)<d.length:=by omega
 have hcz:((c.toNat:Int) == 48)=decide (c=48):=by
  by_cases h:c=48
  .subst h;rfl
  .have h':¬c.toNat=48:=λh2=>h (UInt8.toNat_inj.1 h2)
   simp[h];omega
 have hL:=hL (by omega);rw[aE]at hL;have hone:(1<d.length)=((1:Int)<d.length):=propext ⟨λh=>by omega,λh=>by omega⟩;by_cases c3:c=48/\(1<d.length\/v=true)
 .have hn:zf v d=none:=by unfold zf;rw[hh,if_pos (Or.inr (Or.inr ⟨by rw[c3.1],c3.2⟩))]
  rw[hn];obtain⟨rfl,c4⟩:=c3;rw[hone]at c4;rcases hs with⟨rfl,rfl⟩ | ⟨rfl,rfl,h⟩
  .by_cases c5:(1:Int)<d.length<;>simp[gW,c1,d2,hp,hp3,hcg,c5]
  .have c4:(1:Int)<s.length:=by simpa using c4
   simp[gW,c1,d2,hp,hcg,c4]
 .have hn:zf v d=(oU 0 d).map λn:Nat=>(if v=true then -(n:Int)else(n:Int)):=by
   unfold zf;rw[hh,if_neg];rintro(h | h | ⟨h,h2⟩)
   .exact c1 h
   .exact c2 h
   .exact c3 ⟨by simpa using h,h2⟩
  rw[hn];rcases hs with⟨rfl,rfl⟩ | ⟨rfl,rfl,h⟩
  .have c4:¬c=48:=λh=>c3 ⟨h,Or.inr rfl⟩
   simp[gW,c1,d2,hp,hp3,hcg,hcz,c4];refine WL.to hL (by simp) rfl ?_;rintro x e J' ⟨rfl,hh⟩;cases hv:oU 0 d with
   |none=>rw[hv]at hh;obtain⟨rfl,g2,g3⟩:=hh;simp[g2,g3]
   |some k=>rw[hv]at hh;obtain⟨rfl,g4,g6⟩:=hh;simp[g4,g6,hneg k hv (by omega)]
  .have h':¬c.toNat=45:=λh2=>h (UInt8.toNat_inj.1 h2)
   have h3:((c.toNat:Int) == 45)=false:=by simp;omega
   have key:∀x e J',(J'=[]::J/\match oU 0 s with
    |some k=>x=Abs.Exit.exit 0/\get e 4=.bool false/\get e 6=.int .i64 k
    |none=>x=.ret/\get e 2=.int .i64 0/\get e 3=.bool false)->True:=λ_ _ _ _=>trivial
   by_cases c4:c=48
   .have c5:¬(1:Int)<s.length:=λh=>c3 ⟨c4,Or.inl (by omega)⟩
    subst c4;simp[gW,c1,d2,hp,hcg,c5];refine WL.to hL (by simp) rfl ?_;rintro x e J' ⟨rfl,hh⟩;cases hv:oU 0 s with
    |none=>rw[hv]at hh;obtain⟨rfl,g2,g3⟩:=hh;simp[g2,g3]
    |some k=>rw[hv]at hh;obtain⟨rfl,g4,g6⟩:=hh;simp[g4,g6]
   .simp[gW,c1,d2,hp,hcg,hcz,h3,c4];refine WL.to hL (by simp) rfl ?_;rintro x e J' ⟨rfl,hh⟩;cases hv:oU 0 s with
    |none=>rw[hv]at hh;obtain⟨rfl,g2,g3⟩:=hh;simp[g2,g3]
    |some k=>rw[hv]at hh;obtain⟨rfl,g4,g6⟩:=hh;simp[g4,g6]
end
section
open Go Go.Abs Go.Rock Go.Book
variable {J:SK}
def glue(c:List UInt8):List (List UInt8)->List (List UInt8)
 |[]=>[c]
 |x::l=>(c++x)::l
theorem OU{l:List (List UInt8)}(h:l≠[]):glue [] l=l:=by
 cases l with
 |nil=>exact absurd rfl h
 |cons x l=>rfl
theorem Q7(b c:UInt8)(s:List UInt8):db b (c::s)=if c=b then []::db b s else glue [c] (db b s):=by
 simp only[db];split
 .rfl
 .cases db b s<;>rfl
theorem T4(a b:List UInt8)(l:List (List UInt8)):glue a (glue b l)=glue (a++b) l:=by
 cases l<;>simp[glue]
theorem Mt{s:List UInt8}(hs:s.length<=1000000):∀(m i fr:Nat) (cl:List (List UInt8)),i+m=s.length->fr<=i->cl.length<=i ->
  db 32 s=cl++glue ((s.drop fr).take (i-fr)) (db 32 (s.drop i)) ->
  WL T [0,6,7,8] false lI [(0,.str s),(6,.sl J.length 0 cl.length 0 (cl.length+1) 1),(7,iI fr),(8,iI i)] ([.cells cl.length (fM (cl++[[]]) dP)]::J)
   (λx e J'=>∃(cl:List (List UInt8)) (fr:Nat),fr<=s.length/\db 32 s=cl++[s.drop fr]/\cl.length<=s.length/\x=.exit 0/\get e 0=.str s/\get e 6=.sl J.length 0 cl.length 0 (cl.length+1) 1/\get e 7=iI fr/\J'=[.cells cl.length (fM (cl++[[]]) dP)]::J)
 |0,i,fr,cl,hi,hf,hc,hsp=>by
  refine aB lI.eq_1 ?_;obtain rfl:i=s.length:=by omega
  have h2:s.drop s.length=[]:=an (by omega);have h3:(s.drop fr).take (s.length-fr)=s.drop fr:=ai (by simp);rw[h2,h3]at hsp;have h4:glue (s.drop fr) (db 32 [])=[s.drop fr]:=by simp[db,glue]
  rw[h4]at hsp;simp[gW];exact⟨cl,fr,hf,hsp,hc,by simp⟩
 |m+1,i,fr,cl,hi,hf,hc,hsp=>by
  refine aB lI.eq_1 ?_;have h1:i<s.length:=by omega
  obtain⟨c,hcc⟩:=gE h1;have hcg:s[i]=c:=by have:=aI h1;rw[hcc]at this;exact(Option.some.inj this).symm
  have h4:=cr h1 (by omega);have e1:((i+1:Nat):Int)=(i:Int)+1:=by omega
  rw[bD hcc,Q7]at hsp;by_cases c1:c=32
  .subst c1;rw[if_pos rfl]at hsp;simp only[glue,cX]at hsp;have hw:IntKind.i64.wrap (((cl.length+1:Nat):Int)-1)=(cl.length:Int):=(cf (by omega)).trans (by omega);have hw0:IntKind.i64.wrap (cl.length:Int)=(cl.length:Int):=cf (by omega);have hw1:(cl.length:Int)<(cl.length:Int)+1:=by omega
   have hfl:=ch (f:=dP) (w:=1) (λ_=>rfl) cl;have hr:(cl.length+1+1)*16<=room:=by unfold room;omega
   rw[cp]at hfl;have hd:((fM cl dP)++[D.str []]).drop (cl.length+1)=[]:=an (by rw[bB,hfl];simp);have ht:∀y:D,((fM cl dP)++[y]).take (cl.length+1)=(fM cl dP)++[y]:=λy=>ai (by rw[bB,hfl];simp)
   have⟨hfi,hil⟩:(fr:Int)<=i/\(i:Int)<=s.length:=by omega
   have ih:=Mt hs m (i+1) (i+1) (cl++[(s.drop fr).take (i-fr)]) (by omega) (by omega) (by simp;omega) (by
    rw[Nat.sub_self,List.take_zero,OU (sN _ _),hsp];simp)
   simp[gW,h1,hcg,hw0,hw1,hfl,h4,hfi,hil,hr];exact WL.to ih (by simp) (by simp[hd,ht]) λx e J' hh=>hh
  .have h':¬c.toNat=32:=λh2=>c1 (UInt8.toNat_inj.1 h2)
   have h3:((c.toNat:Int) == 32)=false:=by simp;omega
   rw[if_neg c1,T4]at hsp;have ih:=Mt hs m (i+1) fr cl (by omega) (by omega) (by omega) (by
    rw[hsp];have:(s.drop fr).take (i+1-fr)=(s.drop fr).take (i-fr)++[c]:=by
     rw[show i+1-fr=(i-fr)+1 by omega,List.take_add_one,dZ,show fr+(i-fr)=i by omega,hcc];rfl
    rw[this])
   simp[gW,h1,hcg,h3,h4];exact WL.to ih (by simp) (by simp) λx e J' hh=>hh
theorem IJ{a nm:List UInt8}{ws r:List (List UInt8)}{v k:Nat}(hk:ws.drop k=r)(hr:k+r.length<=1000001):∀(m i:Nat) (acc:List Int),i+m=r.length->acc.length=i->mD r=(mD (r.drop i)).map (acc ++ ·) ->
  WL T [9,10,11,12,13] false lJ [(9,.str a),(10,.sl J.length 0 v k r.length 1),(11,.str nm),(12,.sl J.length 1 acc.length 0 acc.length 1),(13,iI i)] ([.cells v (fM ws dP),.cells acc.length (fM acc aT)]::J)
   (λx e J'=>match mD r with
    |some l=>x=.exit 2/\get e 9=.str a/\get e 11=.str nm/\get e 12=.sl J.length 1 l.length 0 l.length 1/\J'=[.cells v (fM ws dP),.cells l.length (fM l aT)]::J
    |none=>x=.ret/\get e 2=.str []/\get e 3=.str []/\get e 4=.aW/\get e 5=.bool false/\∃b,J'=b::J)
 |0,i,acc,hi,ha,hn=>by
  refine aB lJ.eq_1 ?_;obtain rfl:i=r.length:=by omega
  have h2:r.drop r.length=[]:=an (by omega);rw[h2]at hn;simp only[mD,aZ,cX]at hn;simp[hn]
 |m+1,i,acc,hi,ha,hn=>by
  refine aB lJ.eq_1 ?_;have h1:i<r.length:=by omega
  obtain⟨s,hs⟩:=gE h1;have hs':ws[k+i]?=some s:=by rw[<- hk,dZ]at hs;exact hs
  have hdr:=pA (f:=dP) (w:=1) (λ_=>rfl) hs';simp only[cp,dP,dJ]at hdr;have h4:=cr h1 (by omega);rw[bD hs]at hn;have hB:=λS=>YZ (J:=S) (s:=s)
  cases hv:FB s with
  |none =>
   rw[hv]at hB;simp only[mD,hv,Option.map_none]at hn;simp[h1,hdr,hB,hn]
  |some n =>
   rw[hv]at hB;simp only[mD,hv,Option.map_map]at hn;have hfl:=ch (f:=aT) (w:=1) (λ_=>rfl) acc;rw[cp]at hfl;have tk:(fM acc aT).take i=fM acc aT:=ai (by omega);have hrm:(i+1)*8<=room:=by unfold room;omega
   have ih:=IJ (a:=a) (nm:=nm) (v:=v) hk hr m (i+1) (acc++[n]) (by omega) (by simp[ha]) (by
    rw[hn];congr 1;funext l;simp)
   subst ha;simp[h1,hdr,hB,h4,hfl,tk,hrm];exact WL.to ih (by simp) (by simp[aT]) λx e J' hh=>hh
def pf(a:List UInt8)(n:Int):Bool :=
 if(a == [102,105,101,108,100] || (a == [114,101,97,100] || a == [115,101,108,108]))=true then n == 4
 else if(a == [98,101,100] || (a == [119,101,108,108] || a == [107,101,101,112]))=true then n == 3
 else if(a == [114,117,108,101])=true then n == 10
 else if(a == [116,97,98,108,101])=true then n.tmod 5 == 0
 else if(a == [113,117,97,107,101])=true then n.tmod 4 == 0
 else if(a == [108,111,103])=true then decide (3<=n) && n.tmod 2 == 1
 else if(a == [117,110,105,116])=true then n.tmod 2 == 1
 else a == [109,111,100,101,108] || a == [116,105,99,107]
def Hx(a nm:List UInt8)(r:List (List UInt8)):D:=match mD r with
 |some l => .cV [.str a,.str nm,lF l aT,.bool (pf a l.length)]
 |none => .cV [.str [],.str [],.aW,.bool false]
def Pm(a:List UInt8):List (List UInt8)->D
 |[] => .cV [.str [],.str [],.aW,.bool false]
 |nm::r=>Hx a nm r
def Nb(s:List UInt8):D:=match db 32 s with
 |[] => .aW
 |a::all=>if(a == [109,111,100,101,108] || a == [108,111,103])=true then Pm a all else Hx a [] all
theorem Ry{s:List UInt8}(hs:s.length<=1000000)(hJ:J≠[]):dj T (.call false AD [.str s] J)=some (.val (Nb s) J):=by
 refine au rfl rfl rfl ?_;simp[-List.map_take];refine WL.to (Mt (J:=J) hs s.length 0 0 [] (by omega) (by omega) (by simp[]) (by show db 32 s=glue [] (db 32 s);rw[OU (sN _ _)])) (by simp[]) (by simp[]) ?_;rintro x e J' ⟨cl,fr,hf,hsp,hc,rfl,g0,g6,g7,rfl⟩;have hw:IntKind.i64.wrap (((cl.length+1:Nat):Int)-1)=(cl.length:Int):=(cf (by omega)).trans (by omega);have hw0:IntKind.i64.wrap (cl.length:Int)=(cl.length:Int):=cf (by omega);have hw1:(cl.length:Int)<(cl.length:Int)+1:=by omega
 have hfl:=ch (f:=dP) (w:=1) (λ_=>rfl) cl;have hfs:(fr:Int)<=s.length:=by omega
 have hd:((fM cl dP)++[D.str []]).drop (cl.length+1)=[]:=an (by rw[bB,hfl];simp[]);obtain⟨a,all,ha⟩:∃a all,cl++[s.drop fr]=a::all:=by
  cases cl with
  |nil=>exact⟨_,_,rfl⟩
  |cons x l=>exact⟨_,_,rfl⟩
 have hal:all.length=cl.length:=by have:=congrArg List.length ha;simp[]at this;omega
 have hce:fM cl dP++D.str (s.drop fr)::((fM cl dP)++[D.str []]).drop (cl.length+1)=.str a::fM all dP:=by
  rw[hd];have:=congrArg (fM · dP) ha;simpa[pO,dP]using this
 have h1c:(1:Int)<=(cl.length:Int)+1:=by omega
 have hrp:Nb s=if(a == [109,111,100,101,108] || a == [108,111,103])=true then Pm a all else Hx a [] all:=by unfold Nb;rw[hsp,ha]
 rw[hrp];have hfr:∀(b:List Abs.aD) (l:List Int) (nm:List UInt8) (x:Bool),b[1]?=some (.cells l.length (fM l aT))->∃S,cG (J.length-1) 16 (.cV [.str a,.str nm,.sl J.length 1 l.length 0 l.length 1,.bool x]) (b::J)=(.cV [.str a,.str nm,.bY l.length (fM l aT),.bool x],S::J):=by
  intro b l nm x hb;have f0:=nB (n:=15) (f:=aT) (w:=1) (l:=l) (by decide) (λ_=>rfl) (λ_=>by simp[aT,D.clean]) hJ hb;have h1:∀(s:List UInt8) (S:SK),cG (J.length-1) 15 (.str s) S=(.str s,S):=λs S=>eW rfl (by decide)
  have h2:∀(s:Bool) (S:SK),cG (J.length-1) 15 (.bool s) S=(.bool s,S):=λs S=>eW rfl (by decide)
  refine⟨b.set 1 .dead,?_⟩;rw[tA (by simp[D.clean,D.bd]) (by omega)];simp only[lA,nf,Nat.reduceSub,h1,h2,f0]
 simp[-List.map_take,gW,g0,g6,g7,hw0,hw1,hfl,hfs,hce,h1c];clear hrp hce hd hsp;rw[<- hal];have hal2:all.length<=1000000:=by omega
 by_cases c1:a=[109,111,100,101,108]
 .subst c1;cases all with
  |nil=>simp[-List.map_take,Pm]
  |cons nm r =>
   have hr2:(2:Nat)+r.length<=1000001:=by simp[]at hal2;omega
   have hL:=IJ (J:=J) (a:=[109,111,100,101,108]) (nm:=nm) (ws:=[109,111,100,101,108]::nm::r) (r:=r) (k:=2) (v:=r.length+1) rfl hr2 r.length 0 [] (by omega) rfl (by simp[]);have hr0:¬(r.length:Int)+1=0:=by omega
   have hr1:(1:Int)<=(r.length:Int)+1:=by omega
   simp[-List.map_take,Pm,hr0,hr1];refine WL.to hL (by simp[]) (by simp[]) ?_;intro x e J' hh;unfold Hx;cases hn:mD r with
   |none=>rw[hn]at hh;obtain⟨rfl,g2,g3,g4,g5,b,rfl⟩:=hh;simp[g2,g3,g4,g5]
   |some l =>
    rw[hn]at hh;obtain⟨rfl,g9,g11,g12,rfl⟩:=hh;simp[-List.map_take,gW,g9,g11,g12,pf];exact hfr _ l nm true rfl
 by_cases c2:a=[108,111,103]
 .subst c2;cases all with
  |nil=>simp[-List.map_take,Pm]
  |cons nm r =>
   have hr2:(2:Nat)+r.length<=1000001:=by simp[]at hal2;omega
   have hL:=IJ (J:=J) (a:=[108,111,103]) (nm:=nm) (ws:=[108,111,103]::nm::r) (r:=r) (k:=2) (v:=r.length+1) rfl hr2 r.length 0 [] (by omega) rfl (by simp[]);have hr0:¬(r.length:Int)+1=0:=by omega
   have hr1:(1:Int)<=(r.length:Int)+1:=by omega
   simp[-List.map_take,Pm,hr0,hr1];refine WL.to hL (by simp[]) (by simp[]) ?_;intro x e J' hh;unfold Hx;cases hn:mD r with
   |none=>rw[hn]at hh;obtain⟨rfl,g2,g3,g4,g5,b,rfl⟩:=hh;simp[g2,g3,g4,g5]
   |some l =>
    rw[hn]at hh;obtain⟨rfl,g9,g11,g12,rfl⟩:=hh;by_cases h3:(3:Int)<=l.length
    .simp[-List.map_take,gW,g9,g11,g12,pf,h3];exact hfr _ l nm _ rfl
    .simp[-List.map_take,gW,g9,g11,g12,pf,h3];exact hfr _ l nm _ rfl
 have hr2:(1:Nat)+all.length<=1000001:=by omega
 have hL:=IJ (J:=J) (a:=a) (nm:=[]) (ws:=a::all) (r:=all) (k:=1) (v:=all.length) rfl hr2 all.length 0 [] (by omega) rfl (by simp[]);have c1':(a == [109,111,100,101,108])=false:=by simpa[pO]using c1
 have c2':(a == [108,111,103])=false:=by simpa[pO]using c2
 simp[-List.map_take,c1,c2];refine WL.to hL (by simp[]) (by simp[]) ?_;intro x e J' hh;unfold Hx;cases hn:mD all with
 |none=>rw[hn]at hh;obtain⟨rfl,g2,g3,g4,g5,b,rfl⟩:=hh;simp[g2,g3,g4,g5,c1,c2]
 |some l =>
  rw[hn]at hh;obtain⟨rfl,g9,g11,g12,rfl⟩:=hh;by_cases w0:a=[102,105,101,108,100]
  .subst w0;simp[-List.map_take,gW,g9,g11,g12,pf];exact hfr _ l [] _ rfl
  by_cases w1:a=[114,101,97,100]
  .subst w1;simp[-List.map_take,gW,g9,g11,g12,pf];exact hfr _ l [] _ rfl
  by_cases w2:a=[115,101,108,108]
  .subst w2;simp[-List.map_take,gW,g9,g11,g12,pf];exact hfr _ l [] _ rfl
  by_cases w3:a=[98,101,100]
  .subst w3;simp[-List.map_take,gW,g9,g11,g12,pf];exact hfr _ l [] _ rfl
  by_cases w4:a=[119,101,108,108]
  .subst w4;simp[-List.map_take,gW,g9,g11,g12,pf];exact hfr _ l [] _ rfl
  by_cases w5:a=[107,101,101,112]
  .subst w5;simp[-List.map_take,gW,g9,g11,g12,pf];exact hfr _ l [] _ rfl
  by_cases w6:a=[114,117,108,101]
  .subst w6;simp[-List.map_take,gW,g9,g11,g12,pf];exact hfr _ l [] _ rfl
  by_cases w7:a=[116,97,98,108,101]
  .subst w7;simp[-List.map_take,gW,g9,g11,g12,pf];exact hfr _ l [] _ rfl
  by_cases w8:a=[113,117,97,107,101]
  .subst w8;simp[-List.map_take,gW,g9,g11,g12,pf];exact hfr _ l [] _ rfl
  by_cases w9:a=[117,110,105,116]
  .subst w9;simp[-List.map_take,gW,g9,g11,g12,pf];exact hfr _ l [] _ rfl
  by_cases w10:a=[116,105,99,107]
  .subst w10;simp[-List.map_take,gW,g9,g11,g12,pf];exact hfr _ l [] _ rfl
  simp[-List.map_take,gW,g9,g11,g12,pf,c1,c2,w0,w1,w2,w3,w4,w5,w6,w7,w8,w9,w10];have hz:(a == [109,111,100,101,108] || a == [116,105,99,107])=false:=by simp[c1,w10]
  rw[hz];exact hfr _ l [] _ rfl
end
section
open Go Go.Abs Go.Rock Go.Book
theorem Wp{a:List UInt8}{w:Wd}(h:(a,w)∈l8){n:Nat}(hf:Fq w n=true):pf a n=true:=by
 have t5:(n:Int).tmod 5=(n:Int)%5:=Int.tmod_eq_emod_of_nonneg (by omega);have t4:(n:Int).tmod 4=(n:Int)%4:=Int.tmod_eq_emod_of_nonneg (by omega);have t2:(n:Int).tmod 2=(n:Int)%2:=Int.tmod_eq_emod_of_nonneg (by omega);have t3:0<(n:Int)-3->((n:Int)-3).tmod 2=((n:Int)-3)%2:=λh=>Int.tmod_eq_emod_of_nonneg (by omega)
 have t1:0<(n:Int)-1->((n:Int)-1).tmod 2=((n:Int)-1)%2:=λh=>Int.tmod_eq_emod_of_nonneg (by omega)
 simp only[l8,bj,ar,List.not_mem_nil,or_false]at h;unfold Fq at hf;simp only[cg,af,aw]at hf;rcases h with⟨rfl,rfl⟩ | ⟨rfl,rfl⟩ | ⟨rfl,rfl⟩ | ⟨rfl,rfl⟩ | ⟨rfl,rfl⟩ | ⟨rfl,rfl⟩ | ⟨rfl,rfl⟩ | ⟨rfl,rfl⟩ | ⟨rfl,rfl⟩ | ⟨rfl,rfl⟩ | ⟨rfl,rfl⟩ | ⟨rfl,rfl⟩ | ⟨rfl,rfl⟩<;>
  simp only[Int.sub_zero,t5,t4]at hf<;>simp[pf,t5,t4,t2]<;>
  (try (rcases hf with hf | ⟨hf,hf2,hf3⟩<;>(try rw[t3 hf]at hf3)<;>(try rw[t1 hf]at hf3)<;>omega))
theorem Xr{s:List UInt8}{w:Wd}{nm:List UInt8}{l:List Int}(h:parse s=some (w,nm,l)):∃a,(a,w)∈l8/\Nb s=.cV [.str a,.str nm,lF l aT,.bool true]:=by
 unfold parse at h;unfold Nb;cases hsp:db 32 s with
 |nil=>rw[hsp]at h;cases h
 |cons a all =>
  rw[hsp]at h;simp only at h ⊢;cases hw:xc a with
  |none=>rw[hw]at h;cases h
  |some v =>
   rw[hw]at h;simp only at h;have hm:=Bj hw;have key:∀{nm':List UInt8} {r:List (List UInt8)},qY v nm' r=some (w,nm,l)->v=w/\Hx a nm' r=.cV [.str a,.str nm,lF l aT,.bool true]:=by
    intro nm' r h;unfold qY at h;unfold Hx;cases hn:mD r with
    |none=>rw[hn]at h;cases h
    |some ns =>
     rw[hn]at h;simp only at h ⊢;split at h
     .rename_i hf;cases h;rw[Wp hm hf];exact⟨rfl,rfl⟩
     .cases h
   have hnm:(a == [109,111,100,101,108] || a == [108,111,103])=v.named:=by
    have hm:=hm;simp only[l8,bj,ar,List.not_mem_nil,or_false]at hm;rcases hm with⟨rfl,rfl⟩ | ⟨rfl,rfl⟩ | ⟨rfl,rfl⟩ | ⟨rfl,rfl⟩ | ⟨rfl,rfl⟩ | ⟨rfl,rfl⟩ | ⟨rfl,rfl⟩ | ⟨rfl,rfl⟩ | ⟨rfl,rfl⟩ | ⟨rfl,rfl⟩ | ⟨rfl,rfl⟩ | ⟨rfl,rfl⟩ | ⟨rfl,rfl⟩<;>rfl
   rw[hnm];split at h
   .rename_i hv;rw[if_pos hv];cases all with
    |nil=>cases h
    |cons n r =>
     obtain⟨rfl,h2⟩:=key h;exact⟨a,hm,h2⟩
   .rename_i hv;rw[if_neg hv];obtain⟨rfl,h2⟩:=key h;exact⟨a,hm,h2⟩
theorem Kk(a nm:List UInt8)(r:List (List UInt8)):∃x y d f,Hx a nm r=.cV [.str x,.str y,d,.bool f]/\(d=.aW\/∃l:List Int,d=lF l aT):=by
 unfold Hx;cases mD r with
 |none=>exact⟨_,_,_,_,rfl,.inl rfl⟩
 |some l=>exact⟨_,_,_,_,rfl,.inr ⟨l,rfl⟩⟩
theorem Us(s:List UInt8):∃x y d f,Nb s=.cV [.str x,.str y,d,.bool f]/\(d=.aW\/∃l:List Int,d=lF l aT):=by
 unfold Nb;cases hsp:db 32 s with
 |nil=>exact absurd hsp (sN _ _)
 |cons a all =>
  simp only;split
  .cases all with
   |nil=>exact⟨_,_,_,_,rfl,.inl rfl⟩
   |cons n r=>exact Kk _ _ _
  .exact Kk _ _ _
theorem Ro{b:Bk}(h:∀r∈b.rules,r.ok=true)(k:Nat)(nm:List UInt8)(l:List Int):∀r∈(ir b k nm l).1.rules,r.ok=true:=by
 unfold ir;split
 .split
  .unfold nF;split
   .split<;>exact h
   .exact h
  .exact h
 .unfold lE;split
  .split<;>exact h
  .exact h
 .split
  .unfold xH;split
   .exact h
   .split<;>exact h
  .exact h
 .split
  .unfold tc;split
   .split<;>exact h
   .exact h
  .exact h
 .unfold pJ;split
  .split
   .exact h
   .split
    .split<;>exact h
    .exact h
  .exact h
 .split
  .unfold CA;split
   .exact h
   .split<;>exact h
  .exact h
 .unfold rO;split
  .split
   .split
    .rename_i h2;intro r hr;rcases aX.1 hr with hr | hr
     .exact h r hr
     .rw[List.mem_singleton.1 hr];exact h2
    .exact h
   .exact h
  .exact h
 .split
  .split<;>exact h
  .exact h
 .unfold oK;split
  .split<;>exact h
  .exact h
 .unfold mf;split
  .exact h
  .split
   .split
    .split
     .split<;>exact h
     .exact h
    .exact h
   .exact h
 .split
  .unfold oz;split
   .exact h
   .split
    .split<;>exact h
    .exact h
  .exact h
 .split
  .unfold sZ;split
   .split<;>exact h
   .exact h
  .exact h
 .split
  .unfold mI;split
   .exact h
   .split
    .split<;>exact h
    .exact h
  .exact h
 .exact h
theorem Pz:∀{l:List (List UInt8)} {b:Bk} {k:Int} {i:Nat} {s:List UInt8},l[i]?=some s ->
  (kO b k (l.take (i+1))).1=(mc (kO b k (l.take i)).1 (k+i) s).1/\(kO b k l).2[i]?=some (mc (kO b k (l.take i)).1 (k+i) s).2
 |[],b,k,i,s,h=>by simp at h
 |x::l,b,k,0,s,h=>by
  simp only[cq,ae]at h;subst h;simp[kO]
 |x::l,b,k,i+1,s,h=>by
  have ih:=Pz (l:=l) (b:=(mc b k x).1) (k:=k+1) (i:=i) (s:=s) (by simpa using h);have e:k+1+(i:Int)=k+((i+1:Nat):Int):=by omega
  rw[e]at ih;simpa[kO]using ih
end
section
open Go Go.Abs Go.Rock Go.Book
variable {J:SK}
theorem Zo{a:List UInt8}{w:Wd}(h:(a,w)∈l8){n:Nat}(hf:pf a n=true):Fq w n=true:=by
 have t5:(n:Int).tmod 5=(n:Int)%5:=Int.tmod_eq_emod_of_nonneg (by omega);have t4:(n:Int).tmod 4=(n:Int)%4:=Int.tmod_eq_emod_of_nonneg (by omega);have t2:(n:Int).tmod 2=(n:Int)%2:=Int.tmod_eq_emod_of_nonneg (by omega);have t1:(n:Int).tmod 1=(n:Int)%1:=Int.tmod_eq_emod_of_nonneg (by omega);have t3:0<(n:Int)-3->((n:Int)-3).tmod 2=((n:Int)-3)%2:=λh=>Int.tmod_eq_emod_of_nonneg (by omega)
 have t6:0<(n:Int)-1->((n:Int)-1).tmod 2=((n:Int)-1)%2:=λh=>Int.tmod_eq_emod_of_nonneg (by omega)
 simp only[l8,bj,ar,List.not_mem_nil,or_false]at h;unfold Fq;simp only[cg,af,aw];rcases h with⟨rfl,rfl⟩ | ⟨rfl,rfl⟩ | ⟨rfl,rfl⟩ | ⟨rfl,rfl⟩ | ⟨rfl,rfl⟩ | ⟨rfl,rfl⟩ | ⟨rfl,rfl⟩ | ⟨rfl,rfl⟩ | ⟨rfl,rfl⟩ | ⟨rfl,rfl⟩ | ⟨rfl,rfl⟩ | ⟨rfl,rfl⟩ | ⟨rfl,rfl⟩<;>
  simp[pf,t5,t4,t2]at hf<;>simp only[Int.sub_zero,t5,t4,t1]<;>(try omega)
theorem JU{s:List UInt8}:∀{l:List (List UInt8×Wd)},CM s l=none->∀p∈l,s≠p.1
 |[],_,p,hp=>by cases hp
 |(k,v)::l,h,p,hp=>by
  simp only[CM]at h;split at h
  .cases h
  .rename_i hne;rcases bj.1 hp with rfl | hp
   .exact hne
   .exact JU h p hp
theorem Xq{s:List UInt8}(h:parse s=none):∃x y d,Nb s=.cV [.str x,.str y,d,.bool false]/\(d=.aW\/∃l:List Int,d=lF l aT):=by
 obtain⟨x,y,d,f,h1,h2⟩:=Us s;cases f with
 |false=>exact⟨x,y,d,h1,h2⟩
 |true =>
  exfalso
  unfold parse at h;unfold Nb at h1;cases hsp:db 32 s with
  |nil=>exact absurd hsp (sN _ _)
  |cons a all =>
  rw[hsp]at h h1;simp only at h h1;have key:∀{nm:List UInt8} {r:List (List UInt8)},Hx a nm r=.cV [.str x,.str y,d,.bool true]->∃ns,mD r=some ns/\pf a ns.length=true:=by
   intro nm r hr;unfold Hx at hr;cases hn:mD r with
   |none=>rw[hn]at hr;simp at hr
   |some ns=>rw[hn]at hr;simp at hr;exact⟨ns,rfl,hr.2.2.2⟩
  have fin:∃ns:List Int,pf a ns.length=true:=by
   split at h1
   .cases all with
    |nil=>simp[Pm]at h1
    |cons n r=>obtain⟨ns,_,h⟩:=key h1;exact⟨ns,h⟩
   .obtain⟨ns,_,h⟩:=key h1;exact⟨ns,h⟩
  cases hw:xc a with
  |none =>
   obtain⟨ns,hf⟩:=fin;have g:=JU hw;simp only[l8,List.forall_mem_cons,List.not_mem_nil,false_implies,implies_true,and_true]at g;obtain⟨g1,g2,g3,g4,g5,g6,g7,g8,g9,g10,g11,g12,g13⟩:=g;simp[pf,g1,g2,g3,g4,g5,g6,g7,g8,g9,g10,g11,g12,g13]at hf
  |some v =>
   rw[hw]at h;have hm:=Bj hw;have hnm:(a == [109,111,100,101,108] || a == [108,111,103])=v.named:=by
    have hm:=hm;simp only[l8,bj,ar,List.not_mem_nil,or_false]at hm;rcases hm with⟨rfl,rfl⟩ | ⟨rfl,rfl⟩ | ⟨rfl,rfl⟩ | ⟨rfl,rfl⟩ | ⟨rfl,rfl⟩ | ⟨rfl,rfl⟩ | ⟨rfl,rfl⟩ | ⟨rfl,rfl⟩ | ⟨rfl,rfl⟩ | ⟨rfl,rfl⟩ | ⟨rfl,rfl⟩ | ⟨rfl,rfl⟩ | ⟨rfl,rfl⟩<;>rfl
   rw[hnm]at h1;simp only at h;have fin2:∀{nm:List UInt8} {r:List (List UInt8)},qY v nm r=none->Hx a nm r=.cV [.str x,.str y,d,.bool true]->False:=by
    intro nm r hp hr;obtain⟨ns,hn,hf⟩:=key hr;unfold qY at hp;rw[hn]at hp;simp only at hp;rw[if_pos (Zo hm hf)]at hp;cases hp
   split at h
   .rename_i hv;rw[if_pos hv]at h1;cases all with
    |nil=>simp[Pm]at h1
    |cons n r=>exact fin2 h h1
   .rename_i hv;rw[if_neg hv]at h1;exact fin2 h h1
theorem Kr.TE{n:Nat}{b:Bk}(h:Kr n b)(k:Int):Kr n {b with at_:=k }:=⟨h.kv.TE k,h.rok⟩
theorem YF{b:Bk}{s:List UInt8}{k:Int}(hs:s.length<=4000)(hp:parse s=none):Cl yC [.agg (bS b),iI k,.str s] (gp (b,4)) J:=by
 refine au rfl rfl rfl ?_;obtain⟨x,y,d,h1,h2⟩:=Xq hp;have hP:=λJ hJ=>Ry (J:=J) (s:=s) (by omega) hJ
 have hcl:=nu (b:=b);rw[h1]at hP;rcases h2 with rfl | ⟨l,rfl⟩<;>simp[hP,hcl,fS,eL,gp]
theorem abX{n:Nat}{b:Bk}{s:List UInt8}{w:Wd}{nm:List UInt8}{l:List Int}(hK:Kr n b)(hn:n<=1000000)(hs:s.length<=4000)(hp:parse s=some (w,nm,l)):
  Cl yC [.agg (bS b),iI b.at_,.str s] (gp (ir b w.k nm l)) J:=by
 refine au rfl rfl rfl ?_;obtain⟨_,hfit,hnm,hll⟩:=DJ hp;obtain⟨a,ha,h1⟩:=Xr hp;have hP:=λJ hJ=>Ry (J:=J) (s:=s) (by omega) hJ
 rw[h1]at hP;have hcl:=nu (b:=b);have hv:=hK.kv;have htl:=NA hv.dL;have hbv:b.ready=true->Bv b.aQ:=λh=>Bv.of (hv.ready h)
 have hwl:b.aQ.av.length<=8:=by
  cases hr:b.ready with
  |true=>exact(hbv hr).av
  |false=>rw[hv.av hr];simp
 have hrl:=hv.rules;have hel:=hv.sV;have hul:=hv.cJ;have hml:=hv.ml;have nrdy:¬b.aQ.valid=true->b.ready=false:=λh=>by
  cases hr:b.ready with
  |true=>exact absurd (hv.ready hr) h
  |false=>rfl
 simp only[l8,bj,ar,List.not_mem_nil,or_false]at ha;rcases ha with⟨rfl,rfl⟩ | ⟨rfl,rfl⟩ | ⟨rfl,rfl⟩ | ⟨rfl,rfl⟩ | ⟨rfl,rfl⟩ | ⟨rfl,rfl⟩ | ⟨rfl,rfl⟩ | ⟨rfl,rfl⟩ | ⟨rfl,rfl⟩ | ⟨rfl,rfl⟩ | ⟨rfl,rfl⟩ | ⟨rfl,rfl⟩ | ⟨rfl,rfl⟩
 .have hl:l.length=4:=by have h:(l.length:Int)=4:=tz hfit rfl;omega
  obtain⟨x,y,z,k,rfl⟩:=LN hl;have hX:∀J,Cl jA [.agg (bS b),.str DS,.bY 4 [iI x,iI y,iI z,iI k]] (gp (ir b 0 nm [x,y,z,k])) J:=λJ=>Vm (by omega) λhz=>hv.av (nrdy λh=>by have:=(Bv.of h).x;omega)
  simp only[gp,DS]at hX;simp[gW,hP,fS,eL,gp,hX];exact⟨_,kN⟩
 .have hl:=(zG hfit (by decide) (by decide)).2;simp only[Int.sub_zero]at hl;obtain⟨h5,h6⟩:=MQ (l.length / 5) (l:=l) (by omega);have hlen:(QE l).length*5=l.length:=by omega
  have hX:∀J,J≠[]->Cl jA [.agg (bS b),.str HC,lF l aT] (gp (ir b 1 nm l)) J:=λJ hJ=>by
   try simp only[lF]
   rw[<- h5,<- hlen];exact Vs (by omega) (by omega) (λhz=>hv.av (nrdy λh=>vd (Bv.of h).dL hz)) hJ
  simp only[gp,HC]at hX;simp[gW,hP,fS,eL,gp,hX];exact⟨_,kN⟩
 .have hl:l.length=3:=by have h:(l.length:Int)=3:=tz hfit rfl;omega
  obtain⟨x,y,z,rfl⟩:=LM hl;have hX:∀J,J≠[]->Cl jA [.agg (bS b),.str Ko,.bY 3 [iI x,iI y,iI z]] (gp (ir b 2 nm [x,y,z])) J:=λJ hJ=>abW (by omega) (by omega) hv.av hJ
  simp only[gp,Ko]at hX;simp[gW,hP,fS,eL,gp,hX];exact⟨_,kN⟩
 .have hl:l.length=3:=by have h:(l.length:Int)=3:=tz hfit rfl;omega
  obtain⟨x,y,z,rfl⟩:=LM hl;have hX:∀J,J≠[]->Cl jA [.agg (bS b),.str DT,.bY 3 [iI x,iI y,iI z]] (gp (ir b 3 nm [x,y,z])) J:=λJ hJ=>YS (by omega) (by omega) (λhr=>vd (hbv hr).dL) hJ
  simp only[gp,DT]at hX;simp[gW,hP,fS,eL,gp,hX];exact⟨_,kN⟩
 .have hX:∀J,J≠[]->Cl vj [.agg (bS b),.str nm,lF l aT] (gp (ir b 4 nm l)) J:=λJ hJ=>Vq (m:=⟨nm,l⟩) hv.ready (by omega) hv.wl (by simp;omega) (by simp;omega) hJ
  simp only[gp]at hX;simp[gW,hP,fS,eL,gp,hX];exact⟨_,kN⟩
 .obtain⟨hl1,hl2⟩:=zG hfit (by decide) (by decide);simp only at hl1 hl2;obtain⟨k,l,rfl,hl⟩:=wz (n:=l.length-1) (l:=l) (by omega);simp only[aK]at hl1 hl2 hll;obtain⟨lo,l,rfl,hl⟩:=wz (n:=l.length-1) (l:=l) (by omega);simp only[aK]at hl1 hl2 hll;obtain⟨hi,l,rfl,hl⟩:=wz (n:=l.length-1) (l:=l) (by omega);simp only[aK]at hl1 hl2 hll;obtain⟨h5,h6⟩:=Gs (l.length / 2) (l:=l) (by omega);have hlen:(Dq l).length*2+3=l.length+1+1+1:=by omega
  have hX:∀J,J≠[]->Cl zK [.agg (bS b),iI b.at_,.str nm,.bY (l.length+1+1+1) (iI k::iI lo::iI hi::fM l aT)] (gp (ir b 5 nm (k::lo::hi::l))) J:=λJ hJ=>by
   try simp only[lF]
   rw[<- h5,<- hlen];exact abZ (by omega) (by omega) hv.wl hml (λh=>(Bv.of (hK.valid h)).fv) (λe he=>Fm.of (Bv.of (hK.valid λh=>by rw[h]at he;cases he)).fv (Ka (hK.valid λh=>by rw[h]at he;cases he) (hv.fit e he).1)) hJ
  simp only[gp]at hX;simp[gW,hP,fS,eL,gp,hX];exact⟨_,kN⟩
 .have hl:l.length=10:=by have h:(l.length:Int)=10:=tz hfit rfl;omega
  obtain⟨x0,x1,x2,x3,x4,x5,x6,x7,x8,x9,rfl⟩:=WS hl;have hX:∀J,J≠[]->Cl kj [.agg (bS b),.str Kq,.bY 10 [iI x0,iI x1,iI x2,iI x3,iI x4,iI x5,iI x6,iI x7,iI x8,iI x9]] (gp (ir b 6 nm [x0,x1,x2,x3,x4,x5,x6,x7,x8,x9])) J:=λJ hJ=>YN (by omega) hJ
  simp only[gp,Kq]at hX;simp[gW,hP,fS,eL,gp,hX];exact⟨_,kN⟩
 .have hl:l.length=3:=by have h:(l.length:Int)=3:=tz hfit rfl;omega
  obtain⟨x,y,z,rfl⟩:=LM hl;have hX:∀J,Cl kj [.agg (bS b),.str PB,.bY 3 [iI x,iI y,iI z]] (gp (ir b 7 nm [x,y,z])) J:=λJ=>YK
  simp only[gp,PB]at hX;simp[gW,hP,fS,eL,gp,hX];exact⟨_,kN⟩
 .have hl:=(zG hfit (by decide) (by decide)).2;simp only[Int.sub_zero]at hl;obtain⟨h5,h6⟩:=MP (l.length / 4) (l:=l) (by omega);have hlen:(QD l).length*4=l.length:=by omega
  have hX:∀J,J≠[]->Cl kj [.agg (bS b),.str Kp,lF l aT] (gp (ir b 8 nm l)) J:=λJ hJ=>by
   try simp only[lF]
   rw[<- h5,<- hlen];exact Vr (by omega) (by omega) hJ
  simp only[gp,Kp]at hX;simp[gW,hP,fS,eL,gp,hX];exact⟨_,kN⟩
 .have hX:∀J,J≠[]->Cl xu [.agg (bS b),lF l aT] (gp (ir b 9 nm l)) J:=λJ hJ=>YQ hK (by omega) hJ
  simp only[gp]at hX;simp[gW,hP,fS,eL,gp,hX];exact⟨_,kN⟩
 .have hl:l.length=4:=by have h:(l.length:Int)=4:=tz hfit rfl;omega
  obtain⟨w,i,lo,hi,rfl⟩:=LN hl;have hX:∀J,J≠[]->Cl xq [.agg (bS b),iI b.at_,.bY 4 [iI w,iI i,iI lo,iI hi]] (gp (ir b 10 nm [w,i,lo,hi])) J:=λJ hJ=>YM hK hJ
  simp only[gp]at hX;simp[gW,hP,fS,eL,gp,hX];exact⟨_,kN⟩
 .obtain⟨hl1,hl2⟩:=zG hfit (by decide) (by decide);simp only at hl1 hl2;obtain⟨i,l,rfl,hl⟩:=wz (n:=l.length-1) (l:=l) (by omega);simp only[aK]at hl1 hl2 hll;obtain⟨h5,h6⟩:=Gs (l.length / 2) (l:=l) (by omega);have hlen:((Dq l).map KG).length*2+1=l.length+1:=by simp;omega
  have hX:∀J,J≠[]->Cl xw [.agg (bS b),.bY (l.length+1) (iI i::fM l aT)] (gp (ir b 11 nm (i::l))) J:=λJ hJ=>by
   rw[<- h5,<- hlen,<- SO];exact YR (u:=⟨i,(Dq l).map KG⟩) (by simp;omega) (by omega) hJ
  simp only[gp]at hX;simp[gW,hP,fS,eL,gp,hX];exact⟨_,kN⟩
 .have hl:l.length=4:=by have h:(l.length:Int)=4:=tz hfit rfl;omega
  obtain⟨w,lv,u,p,rfl⟩:=LN hl;have hX:∀J,J≠[]->Cl xr [.agg (bS b),.bY 4 [iI w,iI lv,iI u,iI p]] (gp (ir b 12 nm [w,lv,u,p])) J:=λJ hJ=>YO hK hn hJ
  simp only[gp]at hX;simp[gW,hP,fS,eL,gp,hX];exact⟨_,kN⟩
theorem afk{n:Nat}{b:Bk}{s:List UInt8}{k:Int}(hK:Kr n b)(hn:n<=1000000)(hs:s.length<=4000):Cl yC [.agg (bS b),iI k,.str s] (gp (mc b k s)) J:=by
 unfold mc;cases hp:parse s with
 |none=>exact YF hs hp
 |some p =>
  obtain⟨w,nm,l⟩:=p;exact abX (b:={b with at_:=k }) (hK.TE k) hn hs hp
theorem Kr.line{n:Nat}{b:Bk}(h:Kr n b){s:List UInt8}(hs:s.length<=4000){k:Int}:Kr (n+1) (mc b k s).1:=by
 refine⟨h.kv.line hs,?_⟩;unfold mc;cases parse s with
 |none=>exact h.rok
 |some p=>exact Ro (b:={b with at_:=k }) h.rok _ _ _
theorem Kr.zero:Kr 0 kl:=⟨Kv.zero,λr hr=>by cases hr⟩
theorem Vn:Cl AB [] (.agg (bS kl)) J:=by
 refine au rfl rfl rfl ?_;simp[bS,kl,nl]
theorem VM{lines:List (List UInt8)}(hl:okL lines):∀(m i:Nat) (b:Bk) (er:List Int),i+m=lines.length->er.length=i->Kr i b ->
  WL T [0,2,4,5,6] false o8 [(0,lF lines dP),(2,.own 0 zS),(4,.own 0 (bS b)),(5,.sl J.length 0 i 0 i 1),(6,iI i)] ([.cells i (fM er aT)]::J)
   (λx e J'=>x=.exit 0/\get e 2=.own 0 zS/\get e 4=.own 0 (bS (kO b i (lines.drop i)).1)/\get e 5=.sl J.length 0 lines.length 0 lines.length 1/\J'=[.cells lines.length (fM (er++(kO b i (lines.drop i)).2) aT)]::J)
 |0,i,b,er,hi,he,hK=>by
  refine aB o8.eq_1 ?_;obtain rfl:i=lines.length:=by omega
  have h2:lines.drop lines.length=[]:=an (by omega);simp[h2,kO]
 |m+1,i,b,er,hi,he,hK=>by
  refine aB o8.eq_1 ?_;have h1:i<lines.length:=by omega
  obtain⟨s,hs⟩:=gE h1;have a1:=bu (f:=dP) (w:=1) (λ_=>rfl) hs;simp only[dP,cp]at a1;have h4:=cr h1 (by have:=hl.1;omega);have hsl:=hl.2 s (aj hs);have hn:=hl.1;have hC:=λJ=>afk (J:=J) (b:=b) (s:=s) (k:=i) hK (by omega) hsl
  have hK':=hK.line hsl (k:=i);rw[bD hs];simp only[kO,gp]at hC ⊢;generalize mc b i s=r at hC hK' ⊢;obtain⟨b',e⟩:=r;have ih:=VM hl m (i+1) b' (er++[e]) (by omega) (by simp[he]) hK';have hel:=tQ er;have het:(fM er aT).take i=fM er aT:=ai (by omega);have hr:(i+1)*8<=room:=by unfold room;omega
  simp[h1,a1,h4,hC,fS,eL,hr,hel,het,he];refine WL.to ih (by simp[fS]) (by simp) λx e' J' hh=>?_
  have e1:((i+1:Nat):Int)=(i:Int)+1:=by omega
  rw[e1]at hh;simpa using hh
theorem ab0{lines:List (List UInt8)}(hl:okL lines)(hJ:J≠[]):Cl Dz [lF lines dP] (.cV [.agg (bS (jK lines).1),.bY lines.length (fM (jK lines).2 aT)]) J:=by
 refine au rfl rfl rfl ?_;have hL:=VM (J:=J) hl lines.length 0 kl [] (by omega) rfl Kr.zero
 try simp only[lF]at hL
 rw[aE]at hL;simp[Vn,fS];refine WL.to hL (by simp[zS]) (by simp) ?_;rintro x e J' ⟨rfl,g2,g4,g5,rfl⟩;simp[g2,g4,g5,fS,eL,DW,zZ,jK];have hlen:(kO kl 0 lines).2.length=lines.length:=LY;have hk:=nB (n:=15) (f:=aT) (w:=1) (l:=(kO kl 0 lines).2) (j:=0) (v:=lines.length) (bs:=[.cells lines.length (fM (kO kl 0 lines).2 aT)]) (by decide) (λ_=>rfl) (λx=>by simp[aT,D.clean]) hJ rfl
 try simp only[lF]at hk
 rw[hlen]at hk;rw[tA (by simp[D.clean]) (by omega)];simp only[lA,nf];rw[eW (by simp[D.clean,nu]) (by omega),hk];exact⟨_,rfl⟩
end
end Go.Proofs.YtpapbbojmclkgaaGreatDoor
