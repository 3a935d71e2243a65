import Derived.Test.YtpapbbojmclkgaaGreatDoorTxt7
set_option linter.all false
namespace Go.Proofs.YtpapbbojmclkgaaGreatDoor
section
open Go Go.Abs Go.Rock Go.Book
variable {J:SK}
theorem Wg{u:pf}(hs:zp u.parts)(hl:u.parts.length<=8):∀(m i:Nat) (out:Int),i+m=u.parts.length->0<=out->out<=100000*i ->
  WL T [1,3,4] false j4 [(1,.bg u.enc),(3,iI out),(4,iI i)] J
   (λx e J'=>x=.exit 0/\J'=J/\get e 3=iI (out+Gb (u.parts.drop i)))
 |0,i,out,hi,h0,ho=>by
  refine aA j4.eq_1 ?_;have h1:¬i<u.parts.length:=by omega
  have h2:u.parts.drop i=[]:=an (by omega);simp[h1,h2,Gb]
 |m+1,i,out,hi,h0,ho=>by
  refine aA j4.eq_1 ?_;have h1:i<u.parts.length:=by omega
  obtain⟨p,hp⟩:=gE h1;have hfl:=bd (f:=Prt.enc) (w:=2) (λ_=>rfl) hp;have hd:=bx hp;have h4:=cg h1;have hb:=hs p (aj hp);have w1:=cb (n:=out+p.width);have ih:=Wg hs hl m (i+1) (out+p.width) (by omega) (by omega) (by omega);rw[hd,Gb];simp[h1,hfl,h4,w1];exact WL.to ih (by simp) rfl λx e J' hh=>by simpa[Int.add_assoc]using hh
theorem acs{u:pf}(hs:zp u.parts)(hl:u.parts.length<=8):Cl 142 [.agg u.enc] (iI (Gb u.parts)) J:=by
 refine au ?_;simp[];refine WL.to (Wg (J:=[]::J) hs hl u.parts.length 0 0 (by omega) (by omega) (by omega)) (by simp) rfl ?_;rintro x e J' ⟨rfl,rfl,g2⟩;simp[g2]
theorem Wh{u:pf}(hs:zp u.parts)(hl:u.parts.length<=8):∀(k i:Nat) (out m:Int),i+k=u.parts.length->0<=m->m<=1000000->0<=out->out<=1000000000*i ->
  WL T [1,2,5,6] false nj [(1,iI m),(2,.bg u.enc),(5,iI out),(6,iI i)] J
   (λx e J'=>x=.exit 0/\J'=J/\get e 5=iI (out+uD (u.parts.drop i) m))
 |0,i,out,m,hi,hm,hm2,h0,ho=>by
  refine aA nj.eq_1 ?_;have h1:¬i<u.parts.length:=by omega
  have h2:u.parts.drop i=[]:=an (by omega);simp[h1,h2,uD]
 |k+1,i,out,m,hi,hm,hm2,h0,ho=>by
  refine aA nj.eq_1 ?_;have h1:i<u.parts.length:=by omega
  obtain⟨p,hp⟩:=gE h1;have hfl:=bd (f:=Prt.enc) (w:=2) (λ_=>rfl) hp;have d1:=rD (f:=Prt.enc) (w:=2) (λ_=>rfl) hp;have d2:(fM u.parts Prt.enc).drop (i*2+1)=iI p.kS::(fM u.parts Prt.enc).drop (i*2+2):=by
   have:=congrArg (List.drop 1) d1;simpa[dh]using this
  have hd:=bx hp;have h4:=cg h1;have hb:=hs p (aj hp);have hmn:0<=min m p.width/\min m p.width<=m:=by omega
  have q1:0<=p.kS*min m p.width:=bA hb.1.1 hmn.1;have q2:p.kS*min m p.width<=1000*1000000:=cp hb.1.2 (by omega) hmn.1 (by omega);have w0:IntKind.i64.wrap (min m p.width*p.kS)=p.kS*min m p.width:=by rw[Int.mul_comm];exact cb
  have w1:=cb (n:=m-min m p.width);have w2:=cb (n:=out+p.kS*min m p.width);have ih:=Wh hs hl k (i+1) (out+p.kS*min m p.width) (m-min m p.width) (by omega) (by omega) (by omega) (by omega) (by omega);rw[hd,uD];simp[h1,hfl,h4,w0,w1,w2];exact WL.to ih (by simp) rfl λx e J' hh=>by simpa[Int.add_assoc]using hh
theorem acx{u:pf}{m:Int}(hs:zp u.parts)(hl:u.parts.length<=8)(hm:0<=m/\m<=1000000):Cl 143 [.agg u.enc,iI m] (iI (uD u.parts m)) J:=by
 refine au ?_;simp[];refine WL.to (Wh (J:=[]::J) hs hl u.parts.length 0 0 m (by omega) hm.1 hm.2 (by omega) (by omega)) (by simp) rfl ?_;rintro x e J' ⟨rfl,rfl,g2⟩;simp[g2]
def Yd(u:pf)(s:tA):D:=if Gb u.parts<s.m then .cK [.agg [iI 0,iI 0,iI 0,iI 0],iI 0,iI 2]
 else if s.h<uD u.parts s.m then .cK [.agg [iI 0,iI 0,iI 0,iI 0],iI 0,iI 9]
 else .cK [.agg [iI s.m,iI (s.h-uD u.parts s.m),iI s.s,iI s.g],iI (uD u.parts s.m),iI 0]
theorem acu{u:pf}{s:tA}(hu:u.ok=true)(hs:s.valid=true):Cl 108 [.agg u.enc,.agg s.enc] (Yd u s) J:=by
 refine au ?_;have hok:=hu;simp only[pf.ok,af]at hu;have hl:u.parts.length<=8:=by have:=aP.1 hu.2.1;omega
 have hsm:=Aa (by omega) hu.2.2;simp only[tA.valid,af,aP]at hs;have hc:=λJ=>acs (J:=J) hsm hl
 have hp:=λJ=>acx (J:=J) hsm hl hs.1
 have hb:=ND hsm hs.1.1;have w1:=cb (n:=s.h-uD u.parts s.m);simp only[pf.enc]at hc hp;unfold Yd;by_cases c1:Gb u.parts<s.m
 .simp[hc,c1]
 by_cases c2:s.h<uD u.parts s.m
 .simp[hc,hp,c1,c2]
 simp[hc,hp,c1,c2,w1]
theorem TV{x:tA}(hm : -1000000000<=x.m/\x.m<=1000000000):Cl 107 [.agg x.enc] (.bool x.valid) J:=by
 refine au ?_;have w1:=cb (n:=4000*x.m);have w2:=cb (n:=10000*x.m);cases hc1:bC x.m 0 1000000
 .simp[dt,tA.valid,hc1]
 cases hc2:bC x.h 0 (4000*x.m)
 .simp[dt,tA.valid,w1,hc1,hc2]
 cases hc3:bC x.s 0 (10000*x.m)
 .simp[dt,tA.valid,w1,w2,hc1,hc2,hc3]
 simp[dt,tA.valid,w1,w2,hc1,hc2,hc3]
theorem Vp{r:Rw}{x:tA}(hr:0<=r.l/\r.l<r.v/\r.v<=4000)(hs:0<=r.s/\r.s<=2000)(hx:x.valid=true)(hx1:x.s=0)(hx2:x.g=0):
  ∃c:List D,c.length=6/\∀J,Cl 109 [.agg r.enc,.agg x.enc] (.agg ((fC r x).enc++c)) J:=by
 simp only[tA.valid,af,aP]at hx;obtain⟨⟨m0,m1⟩,⟨h0,h1⟩,_,_⟩:=hx;obtain⟨x,xh,xs,xg⟩:=x;simp only at hx1 hx2 m0 m1 h0 h1;subst hx1 hx2;have b1:0<=x*r.l/\x*r.l<=1000000*4000:=⟨bA m0 hr.1,cp m1 (by omega) hr.1 (by omega)⟩;have b2:0<=x*r.v/\x*r.v<=1000000*4000:=⟨bA m0 (by omega),cp m1 (by omega) (by omega) (by omega)⟩;have b3:0<=x*r.s/\x*r.s<=1000000*2000:=⟨bA m0 hs.1,cp m1 hs.2 hs.1 (by omega)⟩;have w1:=cb (n:=x*r.l);have w2:=cb (n:=x*r.v);have w3:=cb (n:=x*r.s);have w4:=cb (n:=xh-x*r.l);have w5:=cb (n := -(x*r.s));have w6:=cb (n:=r.v-r.l);have mx:max 0 (-(x*r.s))=0:=by omega
 by_cases hx0:x=0
 .obtain rfl:xh=0:=by omega
  subst hx0;have hf:eK r ⟨0,0,0,0⟩=0:=by simp[eK]
  refine⟨[iI 0,iI 0,iI 0,iI 0,iI 0,iI 0],rfl,λJ=>?_⟩;refine au ?_;simp[fC,N8,N7,hf,cb]
 by_cases c1:xh-x*r.l<=0
 .have hf:eK r ⟨x,xh,0,0⟩=0:=by simp only[eK,if_pos c1]
  refine⟨[iI x,iI xh,iI 0,iI 0,iI 0,iI 0],rfl,λJ=>?_⟩;refine au ?_;simp[fC,N8,N7,hf,w1,w3,w4,w5,mx,show ¬x*r.l<xh by omega,Ne.symm hx0]
 have c1':x*r.l<xh:=by omega
 by_cases c2:x*r.v<=xh
 .have hf:eK r ⟨x,xh,0,0⟩=x:=by simp only[eK,if_neg c1,if_pos c2]
  refine⟨[iI 0,iI 0,iI 0,iI 0,iI 0,iI 0],rfl,λJ=>?_⟩;refine au ?_;simp[fC,N8,N7,hf,w1,w2,w4,c1',c2,hx0,show 0<x by omega]
 have hd:0<r.v-r.l:=by omega
 have hmv:x*r.v=x*r.l+x*(r.v-r.l):=by rw[<- Int.mul_add];congr 1;omega
 have hf:eK r ⟨x,xh,0,0⟩=(xh-x*r.l) / (r.v-r.l):=by simp only[eK,if_neg c1,if_neg c2]
 have hq:(xh-x*r.l).tdiv (r.v-r.l)=(xh-x*r.l) / (r.v-r.l):=aQ (by omega);have s0:0<=(xh-x*r.l) / (r.v-r.l):=Int.ediv_nonneg (by omega) (by omega);have s1:(xh-x*r.l) / (r.v-r.l)<x:=Int.ediv_lt_of_lt_mul hd (by omega);have hne:¬r.v-r.l=0:=by omega
 generalize hz:(xh-x*r.l) / (r.v-r.l)=z at *
 have w7:=cb (n:=z);have hzx:¬z=x:=by omega
 by_cases c3:z=0
 .subst c3;refine⟨[iI x,iI xh,iI 0,iI 0,iI (xh-x*r.l),iI 0],rfl,λJ=>?_⟩;refine au ?_;simp[fC,N8,N7,hf,w1,w2,w3,w4,w5,w6,w7,mx,c1',c2,hq,hne,hzx]
 .have e1:0<=z*r.v/\z*r.v<=1000000*4000:=⟨bA s0 (by omega),cp (by omega) (by omega) (by omega) (by omega)⟩;have v1:=cb (n:=z*r.v);have v2:=cb (n:=x-z);have v3:=cb (n:=xh-z*r.v);have e2:0<=(x-z)*r.l/\(x-z)*r.l<=1000000*4000:=⟨bA (by omega) hr.1,cp (by omega) (by omega) hr.1 (by omega)⟩;have e3:0<=(x-z)*r.s/\(x-z)*r.s<=1000000*2000:=⟨bA (by omega) hs.1,cp (by omega) hs.2 hs.1 (by omega)⟩;have v4:=cb (n:=(x-z)*r.l);have v5:=cb (n:=(x-z)*r.s);have v6:=cb (n:=xh-z*r.v-(x-z)*r.l);have v7:=cb (n := -((x-z)*r.s));have my:max 0 (-((x-z)*r.s))=0:=by omega
  refine⟨[iI (x-z),iI (xh-z*r.v),iI 0,iI 0,iI (xh-z*r.v-(x-z)*r.l),iI 0],rfl,λJ=>?_⟩;refine au ?_;simp[fC,N8,N7,hf,w1,w2,w4,w6,w7,c1',c2,c3,hq,hne,hzx,v1,v2,v3,v4,v5,v6,v7,my,show 0<z by omega]
theorem YA{r:Rw}{x:tA}(hr:0<=r.l/\r.l<r.v/\r.v<=4000)(hx:x.valid=true):(fC r x).valid=true:=by
 simp only[tA.valid,af,aP]at hx;obtain⟨⟨m0,m1⟩,⟨h0,h1⟩,_,g0,g1⟩:=hx;obtain⟨f1,f2,f3⟩:=Po (x:=x) hr m0;simp only[fC,tA.valid,af,aP];refine⟨by omega,?_,by omega,?_⟩
 .unfold N8;split
  .omega
  .split
   .rename_i h;rw[h];omega
   .have:=bA f1 (show 0<=r.v by omega);have:=Int.mul_le_mul_of_nonneg_left hr.2.2 f1;omega
 .unfold N7;split<;>omega
theorem XJ{l:List Int}{v:Int}(h:l≠[]):Di (l++[v])=min (Di l) v/\Dh (l++[v])=max (Dh l) v:=by
 cases l with
 |nil=>exact absurd rfl h
 |cons a l=>simp[Di,Dh]
def I4(tk w:Int)(acc:List Int):List D:=[iI tk,iI w,iI (Di acc),iI (Dh acc),iI 0,iI 0]
theorem SD{n:Nat}{b:Bk}{w lv u:Nat}{price:Int}{M:List bZ}{R:List D}(hR:R=bY b)(hK:Kr n b)(ht:fK b.aS.dP=true)(hp:b.aw≠[])(hM:∀m∈M,Bd b.aS m=true/\∃r,Rock.run b.aS m b.aw=some r)(hl:M.length<=40)(hJ:J≠[])
  (hw:w<b.aS.av.length) (hlv:lv<b.aS.dP.length) (hu:u<b.cI.length):∀(k i:Nat),i+k=M.length ->
  WL T [1,2,4,6,7,8] false nA [(1,.bT 4 [.int .i64 w,.int .i64 lv,.int .i64 u,.int .i64 price]),(2,.own 0 R),(4,.own 0 zS),(6,.bT M.length (fM M bZ.enc)),(7,.own 0 (I4 b.aw.length w ((M.take i).map (pc b w lv u)))),(8,.int .i64 i)] J
   (λx e J'=>J'=J/\if bU (uX b w lv u) (M.drop i)=0 then x=.exit 0/\get e 1=.bT 4 [.int .i64 w,.int .i64 lv,.int .i64 u,.int .i64 price]/\get e 2=.own 0 R/\get e 4=.own 0 zS/\get e 7=.own 0 (I4 b.aw.length w (M.map (pc b w lv u)))
    else x=.ret/\get e 4=.own 0 R/\get e 5=.int .i64 (bU (uX b w lv u) (M.drop i)))
 |0,i,hi=>by
  refine aA nA.eq_1 ?_;obtain rfl:i=M.length:=by omega
  have h2:M.drop M.length=[]:=an (by omega);simp[-List.map_take,h2,bU,I4]
 |k+1,i,hi=>by
  refine aA nA.eq_1 ?_;have h1:i<M.length:=by omega
  obtain⟨m,hm⟩:=gE h1;obtain⟨hBd,r,hrun⟩:=hM m (aj hm);have a1:=bd (f:=bZ.enc) (w:=2) (λ_=>rfl) hm;have h4:=cg h1;have htn:=vx ht;have hT:=jS (f:=Rw.enc) htn;have hPl:=jS (f:=pE) hp;have hun0:b.cI≠[]:=λh=>by rw[h]at hu;simp[]at hu
  have hU:=jS (f:=pf.enc) hun0;obtain⟨hp1,hp2⟩:=lf hK.kv.pl;obtain⟨ss,ys⟩:=r;have hP:∀J,J≠[]->dr T (.call false 102 [.agg [.int .i64 b.aS.f.x,.int .i64 b.aS.f.y,.int .i64 b.aS.f.z,.int .i64 b.aS.f.k,.bT b.aS.dP.length (fM b.aS.dP Rw.enc),.int .i64 b.aS.cA,.int .i64 b.aS.lift,.int .i64 b.aS.deep,nl bH.enc b.aS.av],.agg [.str m.name,.bT m.dz.length (fM m.dz aO)],.bT b.aw.length (fM b.aw pE)] J)=_:=λJ hJ=>Jp (J:=J) (Fv.of hBd) hp1 hp2 hJ hrun ku
  have hRun:=LJ.of (Fv.of hBd) hp2 hrun;have hpl:0<b.aw.length:=aI.2 hp;obtain⟨hrow,hY⟩:=P5 (r:=(ss,ys)) hRun (t:=b.aw.length-1) (by omega);dsimp only at hrow hY;have f1:=bd (f:=lq) (w:=1) (λ_=>rfl) hrow;rw[bS]at f1;have hyw:=TM hY hw;have f2:=bd (f:=Rock.aG.enc) (w:=3) (λ_=>rfl) hyw;have hyb:=hY.ok _ (aj hyw);have hyl:=hY.len;have w1:=cb (n:=(b.aw.length:Int)-1);have⟨t1,q1⟩:((b.aw.length:Int)-1).toNat=b.aw.length-1/\(1:Int)<=b.aw.length:=by omega
  have q2:(b.aw.length:Int)-1<ys.length:=by have:=hRun.yl;omega
  have hrw:b.aS.dP[lv]?=some (rowOf b lv):=by simp[rowOf,hlv]
  have hun:b.cI[u]?=some (wI b u):=by simp[wI,hu]
  have f3:=bd (f:=pf.enc) (w:=2) (λ_=>rfl) hun;have f4:=bd (f:=Rw.enc) (w:=5) (λ_=>rfl) hrw;obtain⟨r1,r2⟩:=Yf ht hrw;have huk:=hK.kv.uok _ (aj hun);have hV:=λJ=>TV (J:=J) (x:=nI b (ss,ys) w) (show -1000000000<=(aR (rowAt ys (b.aw.length-1)) w).m/\(aR (rowAt ys (b.aw.length-1)) w).m<=1000000000 by omega)
  have ih:=SD (price:=price) hR hK ht hp hM hl hJ hw hlv hu k (i+1) (by omega);rw[bx hm,bU];have hs0:uX b w lv u m=if(nI b (ss,ys) w).valid=true then J8 (wI b u) (fC (rowOf b lv) (nI b (ss,ys) w))else 1:=by simp[uX,hrun]
  subst hR;cases c1:(nI b (ss,ys) w).valid with
  |false =>
   rw[c1]at hV;have hs1:uX b w lv u m=1:=by rw[hs0,c1];rfl
   rw[hs1];simp only[tA.enc,nI]at hV;simp[-List.map_take,bY,h1,a1,hT,hPl,hP,f1,f2,w1,t1,q1,q2,hyl,hw,lq,hV,zS,hJ]
  |true =>
   rw[c1]at hV;have hs1:uX b w lv u m=J8 (wI b u) (fC (rowOf b lv) (nI b (ss,ys) w)):=by rw[hs0,c1];rfl
   have hv1:pc b w lv u m=uD (wI b u).parts (fC (rowOf b lv) (nI b (ss,ys) w)).m:=by simp[pc,hrun]
   have hso:=YA r1 c1;obtain⟨fc,fl,hF⟩:=Vp r1 r2 c1 rfl rfl;have hX:=λJ=>acu (J:=J) (s:=fC (rowOf b lv) (nI b (ss,ys) w)) huk hso
   have hul:=Jm b.cI;have hrl:=NV b.aS.dP;have⟨q3,q4⟩:2<=b.cI.length*2-u*2/\5<=b.aS.dP.length*5-lv*5:=by omega
   simp only[J8,if_pos hso]at hs1;unfold Yd at hX;rw[<- hv1]at hX hs1;by_cases c2:Gb (wI b u).parts<(fC (rowOf b lv) (nI b (ss,ys) w)).m
   .rw[if_pos c2]at hX hs1;rw[hs1];simp only[tA.enc,fC,nI,cr,List.nil_append,pf.enc,Rw.enc]at hV hF hX f3;simp[-List.map_take,bY,h1,a1,hT,hPl,hU,hP,f1,f2,w1,t1,q1,q2,hyl,hw,lq,hV,zS,hJ,hF,hX,f3,f4,hu,hlv,fl]
   rw[if_neg c2]at hX hs1;by_cases c3:(fC (rowOf b lv) (nI b (ss,ys) w)).h<pc b w lv u m
   .rw[if_pos c3]at hX hs1;rw[hs1];simp only[tA.enc,fC,nI,cr,List.nil_append,pf.enc,Rw.enc]at hV hF hX f3;simp[-List.map_take,bY,h1,a1,hT,hPl,hU,hP,f1,f2,w1,t1,q1,q2,hyl,hw,lq,hV,zS,hJ,hF,hX,f3,f4,hu,hlv,fl]
   rw[if_neg c3]at hX hs1;rw[hs1];simp only[tA.enc,fC,nI,cr,List.nil_append,pf.enc,Rw.enc]at hV hF hX f3;rw[List.take_add_one,hm]at ih;by_cases hi0:i=0
   .have hb:((i:Int) == 0)=true:=by simp[hi0]
    have e1:(M.take i).map (pc b w lv u)=[]:=by rw[hi0];rfl
    simp[-List.map_take,bY,h1,a1,h4,hT,hPl,hU,hP,f1,f2,w1,t1,q1,q2,hyl,hw,lq,hV,hJ,hF,hX,f3,f4,hu,hlv,fl,hb,e1,I4];exact WL.to ih (by simp[bY,hT,hPl,hU,I4,e1,Di,Dh]) rfl λx e J' hh=>by simpa[qD,bY,hT,hPl,hU,I4]using hh
   .have hb:((i:Int) == 0)=false:=by simp[hi0]
    obtain⟨g1,g2⟩:=XJ (l:=(M.take i).map (pc b w lv u)) (v:=pc b w lv u m) (λh=>hi0 (by have:=congrArg List.length h;rw[bG,dA,aY]at this;omega));simp[-List.map_take,bY,h1,a1,h4,hT,hPl,hU,hP,f1,f2,w1,t1,q1,q2,hyl,hw,lq,hV,hJ,hF,hX,f3,f4,hu,hlv,fl,hb,I4];exact WL.to ih (by simp[-List.map_take,bY,hT,hPl,hU,I4,g1,g2]) rfl λx e J' hh=>by simpa[qD,bY,hT,hPl,hU,I4]using hh
theorem Zw{n:Nat}{b:Bk}{w lv u price:Int}(hK:Kr n b)(hn:n<=1000000)(hJ:J≠[]):
  Cl 70 [.agg (bY b),.bT 4 [iI w,iI lv,iI u,iI price]] (gl (mX b w lv u price)) J:=by
 refine au ?_;have hS:=λJ=>MP (J:=J) (b:=b) hK.kv.ml
 have hnp:=mJ (f:=pE) b.aw;by_cases c1:cc b.ai=[]
 .have hd:mX b w lv u price=(b,8):=by unfold mX;rw[if_pos (.inl c1)]
  rw[hd];simp[c1]at hS;simp only[bY]at hS;simp[bY,hS,gl];exact cJ (b:=b) rfl
 by_cases c2:b.aw=[]
 .have hd:mX b w lv u price=(b,8):=by unfold mX;rw[if_pos (.inr c2)]
  have hE:nl pE b.aw=.bz:=by simp[nl,c2]
  rw[hd];simp[c1]at hS;simp only[bY,hE]at hS;simp[bY,hE,hS,gl];exact cJ (b:=b) (by simp[bY,hE])
 have hne:=Ns c1;have hv:=hK.valid hne;have ht:=(Bv.of hv).dP;have htn:=vx ht;have hT:=jS (f:=Rw.enc) htn;have hP:=jS (f:=pE) c2;simp[c1]at hS;simp only[bY,hT,hP]at hS;have hnw:=mJ (f:=bH.enc) b.aS.av;have hnu:=mJ (f:=pf.enc) b.cI;have hwl:=(Bv.of hv).av;have htl:=Oa (.inr ht);have hul:=hK.kv.cI;have w1:=cb (n:=(b.aS.av.length:Int)-1);have w2:=cb (n:=(b.aS.dP.length:Int)-1);have w3:=cb (n:=(b.cI.length:Int)-1);have hq:((b.aw.length:Int) == 0)=false:=by have:=aI.2 c2;rw[beq_eq_false_iff_ne];omega
 by_cases c3:Eg b w lv u price=true
 case neg =>
  have hd:mX b w lv u price=(b,2):=by unfold mX;rw[if_neg (by simp[c1,c2]),if_neg c3]
  rw[hd];unfold Eg at c3;cases k1:bC w 0 ((b.aS.av.length:Int)-1)
  .simp[bY,hT,hP,hS,hq,hnw,w1,dt,k1,gl];exact cJ (b:=b) (by simp[bY,hT,hP])
  cases k2:bC lv 0 ((b.aS.dP.length:Int)-1)
  .simp[bY,hT,hP,hS,hq,hnw,w1,w2,dt,k1,k2,gl];exact cJ (b:=b) (by simp[bY,hT,hP])
  cases k3:bC u 0 ((b.cI.length:Int)-1)
  .simp[bY,hT,hP,hS,hq,hnw,hnu,w1,w2,w3,dt,k1,k2,k3,gl];exact cJ (b:=b) (by simp[bY,hT,hP])
  cases k4:bC price 0 1000
  .simp[bY,hT,hP,hS,hq,hnw,hnu,w1,w2,w3,dt,k1,k2,k3,k4,gl];exact cJ (b:=b) (by simp[bY,hT,hP])
  exact absurd (by rw[k1,k2,k3,k4];rfl) c3
 have hd:mX b w lv u price=if vN b w lv u=0 then(Qf b w price (oU b w lv u),0)else(b,vN b w lv u):=by unfold mX;rw[if_neg (by simp[c1,c2]),if_pos c3]
 rw[hd];simp only[Eg,af]at c3;obtain⟨k1,k2,k3,k4⟩:=c3;have i1:=aP.1 k1;have i2:=aP.1 k2;have i3:=aP.1 k3;have i4:=aP.1 k4;obtain⟨w,rfl⟩:∃n:Nat,w=n:=⟨w.toNat,by omega⟩;obtain⟨lv,rfl⟩:∃n:Nat,lv=n:=⟨lv.toNat,by omega⟩;obtain⟨u,rfl⟩:∃n:Nat,u=n:=⟨u.toNat,by omega⟩;have hLf:=λJ hJ=>MM (J:=J) (b:=b) hK.kv.ml hJ
 simp only[bY,hT,hP]at hLf;have hML:(gR b.ai).length<=40:=by have:=Ku b.ai;have:=hK.kv.ml;omega
 have hL:=SD (J:=[]::J) (b:=b) (M:=gR b.ai) (w:=w) (lv:=lv) (u:=u) (price:=price) (R:=bY b) rfl hK ht c2 (by
  intro m hm;obtain⟨e,he,hl,rfl⟩:=Mi hm;exact⟨(hK.kv.fit e he).1,hK.kv.An e he hl⟩) hML (by simp) (by omega) (by omega) (by omega) (gR b.ai).length 0 (by omega)
 have hz:bU (uX b w lv u) (gR b.ai)=vN b w lv u:=by simp only[vN,Int.toNat_natCast];exact FN
 have hws:(gR b.ai).map (pc b w lv u)=oU b w lv u:=by simp[oU,gR]
 rw[aC,hz,hws]at hL;simp[bY,hT,hP,hS,hq,hnw,hnu,w1,w2,w3,dt,k1,k2,k3,k4,hLf];refine WL.to hL (by simp[bY,hT,hP,zS,I4,Di,Dh]) rfl ?_;rintro x e J' ⟨rfl,h⟩;by_cases c4:vN b w lv u=0
 case neg =>
  rw[if_neg c4]at h ⊢;obtain⟨rfl,g4,g5⟩:=h;simp[g4,g5,eS,eH,gl];exact cJ (b:=b) rfl
 rw[if_pos c4]at h ⊢;obtain⟨rfl,g1,g2,g4,g7⟩:=h;have hbs:∀x∈oU b w lv u,0<=x/\x<=1000000000:=by
  intro x hx;simp only[oU,bI,Int.toNat_natCast]at hx;obtain⟨e,he,rfl⟩:=hx;simp only[vN,Int.toNat_natCast]at c4;exact NZ (by omega) hK.kv.uok (pF c4 e he)
 obtain⟨⟨m1,m2⟩,m3,m4⟩:=XK (by omega) hbs;have hgen:∀lo hi,Di (oU b w lv u)=lo->Dh (oU b w lv u)=hi->Qf b w price (oU b w lv u)={b with dk:=b.dk++[⟨b.aw.length,w,lo,hi,lo*price,hi*price⟩] }:=by rintro _ _ rfl rfl;rfl
 generalize hlo:Di (oU b w lv u)=lo at *
 generalize hhi:Dh (oU b w lv u)=hi at *
 rw[hgen lo hi rfl rfl];have p1:0<=lo*price:=bA m1 i4.1;have p2:lo*price<=1000000000*1000:=cp m2 i4.2 i4.1 (by omega);have p3:0<=hi*price:=bA m3 i4.1;have p4:hi*price<=1000000000*1000:=cp m4 i4.2 i4.1 (by omega);have w4:=cb (n:=lo*price);have w5:=cb (n:=hi*price);have hsl:=hK.kv.dk;have l1:=TC b.dk;have l2:(fM b.dk JG.enc).take (b.dk.length*6)=fM b.dk JG.enc:=ah (by omega);have⟨r1,r2,r3⟩:b.dk.length*48<=room/\(b.dk.length+1)*48<=room/\48<=room:=by unfold room;omega
 by_cases hm:b.dk=[]
 .simp[g1,g2,g4,g7,I4,hlo,hhi,bY,hm,FW,r3,w4,w5,zS,gl];exact Ec (b:=b) (b':={b with dk:=[⟨b.aw.length,w,lo,hi,lo*price,hi*price⟩] }) 17 6 (λ_=>rfl) ado [⟨b.aw.length,w,lo,hi,lo*price,hi*price⟩] 0 0 1 hJ rfl rfl rfl (by simp) (by simp[bY,nl])
 .have e1:=jS (f:=JG.enc) hm;simp[g1,g2,g4,g7,I4,hlo,hhi,bY,hm,e1,l1,l2,r1,r2,w4,w5,zS,gl];exact Ec (b:=b) (b':={b with dk:=b.dk++[⟨b.aw.length,w,lo,hi,lo*price,hi*price⟩] }) 17 6 (λ_=>rfl) ado (b.dk++[⟨b.aw.length,w,lo,hi,lo*price,hi*price⟩]) 0 1 (b.dk.length+1) hJ rfl rfl (by simp) (by simp) (by simp[bY,HP])
end
section
open Go Go.Abs Go.Rock Go.Book
def z0(e:ec):ec:={e with M7:=0 }
def nmB(b:Bk):Bk:={b with ai:=b.ai.map z0,eJ:=[],at_:=0 }
theorem adP(l:List ec):(l.map z0).map z0=l.map z0:=by
 rw[List.map_map];rfl
theorem ag9(b:Bk):nmB (nmB b)=nmB b:=by
 simp only[nmB,adP]
def SmQ(x y:Bk×Int):Prop:=x.2=y.2/\nmB x.1=nmB y.1
theorem SmQ.ite{c:Prop}{_:Decidable c}{x y x' y':Bk×Int}(h1:c->SmQ x x')(h2:¬c->SmQ y y'):SmQ (if c then x else y) (if c then x' else y'):=by
 by_cases h:c
 .rw[if_pos h,if_pos h];exact h1 h
 .rw[if_neg h,if_neg h];exact h2 h
theorem SmQ.no(b:Bk)(e:Int):SmQ (b,e) (nmB b,e):=⟨rfl,(ag9 b).symm⟩
end
end Go.Proofs.YtpapbbojmclkgaaGreatDoor
namespace Go.Book
open Go Go.Abs Go.Rock
def GO(c:UInt8):Prop:=48<=c.toNat/\c.toNat<=57
instance (c:UInt8):Decidable (GO c):=by unfold GO;infer_instance
def pg:Nat->List UInt8->Option Nat
 |n,[]=>some n
 |n,c::s=>if GO c then pg (10*n+(c.toNat-48)) s else none
def zF(minus:Bool)(d:List UInt8):Option Int :=
 if d.length=0\/9<d.length\/(d.head?=some 48/\(1<d.length\/minus=true))then none
 else(pg 0 d).map λn:Nat=>(if minus=true then -(n:Int)else(n:Int))
def CP(s:List UInt8):Option Int:=if s.head?=some 45 then zF true (s.drop 1)else zF false s
theorem J3:∀{a b:List UInt8} {n:Nat},pg n (a++b)=(pg n a).bind λm=>pg m b
 |[],b,n=>rfl
 |c::a,b,n=>by
  simp only[cr,pg];split
  .exact J3
  .rfl
theorem Cf:∀{s:List UInt8} {n m k:Nat},pg n s=some m->n<10^k->m<10^(k+s.length)
 |[],n,m,k,h,hn=>by simp only[pg,ae]at h;subst h;simpa using hn
 |c::s,n,m,k,h,hn=>by
  simp only[pg]at h;split at h
  .rename_i hd;have hd2:=hd.2;have:=Cf (k:=k+1) h (by rw[Nat.pow_succ];omega);simpa[dG,Nat.add_comm 1]using this
  .cases h
theorem J4:∀{s:List UInt8} {n m:Nat},pg n s=some m->m<1844674407370955161->Lib.parseUint10 n s=.ok m
 |[],n,m,h,hm=>by simp only[pg,ae]at h;subst h;rfl
 |c::s,n,m,h,hm=>by
  simp only[pg]at h;split at h
  .rename_i hd;have hle:∀{s:List UInt8} {n m:Nat},pg n s=some m->n<=m:=by
    intro s;induction s with
    |nil=>intro n m h;simp only[pg,ae]at h;omega
    |cons c s ih =>
     intro n m h;simp only[pg]at h;split at h
     .have:=ih h;omega
     .cases h
   have h1:=hle h;have h2:=J4 h hm;unfold Lib.parseUint10;have hd2:=hd.2;have hd1:=hd.1;rw[if_pos (show 48<=c.toNat/\c.toNat<=57 from hd),if_neg (by omega),if_neg (by omega),<- h2];congr 1;omega
  .cases h
theorem W9{k:Nat}(hk:k<10):GO (UInt8.ofNat (48+k))/\(UInt8.ofNat (48+k)).toNat-48=k:=by
 have:(UInt8.ofNat (48+k)).toNat=48+k:=UInt8.toNat_ofNat_of_lt' (by simp[UInt8.size];omega);unfold GO;omega
theorem W8{c:UInt8}(h:GO c):UInt8.ofNat (48+(c.toNat-48))=c:=by
 have:=h.1;rw[show 48+(c.toNat-48)=c.toNat by omega];simp
theorem Nd:∀{k u:Nat},u<10^k->0<k->pg 0 (tv k u)=some u
 |0,u,h,hk=>by omega
 |k+1,u,h,hk=>by
  unfold tv;split
  .rename_i hu;have h1:=W9 hu;simp only[pg,if_pos h1.1,h1.2,Nat.mul_zero,cq]
  .rename_i hu;have hk':0<k:=by
    rcases Nat.eq_zero_or_pos k with rfl | h0
    .simp at h;omega
    .exact h0
   have hd:=W9 (k:=u%10) (Nat.mod_lt _ (by omega));rw[J3,Nd (k:=k) (u:=u / 10) (by rw[Nat.pow_succ]at h;omega) hk'];simp only[Option.bind_some,pg,if_pos hd.1,hd.2,ae];omega
theorem Q5:∀{k u:Nat},0<k->tv k u≠[]
 |0,u,hk=>by omega
 |k+1,u,hk=>by
  unfold tv;split<;>simp
theorem Nf:∀{k u m:Nat},u<10^m->0<m->(tv k u).length<=m
 |0,u,m,h,hm=>by simp[tv]
 |k+1,u,m,h,hm=>by
  unfold tv;split
  .simp;omega
  .rename_i hu;obtain⟨j,rfl⟩:∃j,m=j+1:=⟨m-1,by omega⟩;have hj:0<j:=by
    rcases Nat.eq_zero_or_pos j with rfl | h0
    .simp at h;omega
    .exact h0
   have:=Nf (k:=k) (u:=u / 10) (m:=j) (by rw[Nat.pow_succ]at h;omega) hj;simp;omega
theorem J1:∀{k u:Nat},u<10^k->(tv k u).head?=some 48->u=0
 |0,u,h,hh=>by simp[tv]at hh
 |k+1,u,h,hh=>by
  unfold tv at hh;split at hh
  .rename_i hu;simp only[List.head?_cons,ae]at hh;have:=congrArg UInt8.toNat hh;simp at this;omega
  .rename_i hu;have hk:0<k:=by
    rcases Nat.eq_zero_or_pos k with rfl | h0
    .simp at h;omega
    .exact h0
   have h1:(tv k (u / 10)).head?=some 48:=by
    cases hd:tv k (u / 10)with
    |nil=>exact absurd hd (Q5 hk)
    |cons c r=>rw[hd]at hh;simpa using hh
   have:=J1 (k:=k) (u:=u / 10) (by rw[Nat.pow_succ]at h;omega) h1;omega
theorem SZ:∀{d:List UInt8} {n k:Nat},pg 0 d=some n->d≠[]->(d.head?=some 48->d.length=1)->d.length<=k->tv k n=d:=by
 intro d;induction hl:d.length using Nat.strongRecOn generalizing d with
 |ind m ih =>
  intro n k h hne hz hk;obtain⟨d',c,rfl⟩:∃d' c,d=d'++[c]:=⟨d.dropLast,d.getLast hne,(List.dropLast_concat_getLast hne).symm⟩;rw[J3]at h;cases h1:pg 0 d' with
  |none=>rw[h1]at h;cases h
  |some q =>
   rw[h1]at h;simp only[Option.bind_some,pg]at h;split at h
   .rename_i hc;simp only[ae]at h;have hc2:=hc.2;obtain⟨k,rfl⟩:∃j,k=j+1:=⟨k-1,by simp at hl;omega⟩;by_cases hd:d'=[]
    .subst hd;simp only[pg,ae]at h1;subst h1;have hn:n=c.toNat-48:=by omega
     subst hn;unfold tv;rw[if_pos (by have:=hc.1;omega),W8 hc];rfl
    .have hh:(d'++[c]).head?=d'.head?:=by
      cases d' with
      |nil=>exact absurd rfl hd
      |cons x r=>rfl
     have hz':d'.head?=some 48->d'.length=1:=by
      intro h2;have h5:=hz (by rw[hh];exact h2);have hp:=aI.2 hd;rw[<- hl,aV]at h5;simp only[aE,aY]at h5;omega
     have hnz:d'.head? ≠ some 48:=by
      intro h2;have h5:=hz (by rw[hh];exact h2);have hp:=aI.2 hd;rw[<- hl,aV]at h5;simp only[aE,aY]at h5;omega
     have ih1:=ih d'.length (by simp at hl;omega) rfl (n:=q) (k:=k) h1 hd hz' (by simp at hl;omega);have hq:q≠0:=by
      intro h2;subst h2;rw[<- ih1]at hnz;have hkp:0<k:=by have:=aI.2 hd;simp at hl;omega
      obtain⟨j,rfl⟩:∃j,k=j+1:=⟨k-1,by omega⟩;simp[tv]at hnz
     unfold tv;have e1:n / 10=q:=by omega
     have e2:n%10=c.toNat-48:=by omega
     rw[if_neg (by omega),e1,e2,ih1,W8 hc]
   .cases h
theorem LP{d:List UInt8}{n:Nat}(h:pg 0 d=some n)(hne:d≠[])(hn:n<=999999999):
  rJ d=(0,(n:Int))/\rJ (45::d)=(0,-(n:Int)):=by
 have hp:=J4 h (by omega);have hm:Lib.parseMag d=.ok n:=by unfold Lib.parseMag;rw[if_neg hne];exact hp
 constructor
 .unfold rJ Lib.atoiAll;cases d with
  |nil=>exact absurd rfl hne
  |cons c r =>
   have hc:GO c:=by
    simp only[pg]at h;split at h
    .assumption
    .cases h
   have h1:=hc.1;have h2:=hc.2;simp only;rw[if_neg (by omega),hm];simp only;rw[if_neg (by omega),if_neg (by omega),if_neg (by omega)]
 .unfold rJ Lib.atoiAll;simp only;rw[if_pos (Or.inr (by decide)),hm];simp only;rw[if_neg (by simp),if_neg (by omega),if_pos (by decide)]
theorem UR(s:List UInt8):FX s=CP s:=by
 have key:∀n,CP s=some n->FX s=some n:=by
  intro n h;unfold CP at h;split at h
  .rename_i hm;obtain⟨d,rfl⟩:∃d,s=45::d:=by
    cases s with
    |nil=>simp at hm
    |cons c d=>simp at hm;subst hm;exact⟨d,rfl⟩
   simp only[List.drop_succ_cons,aC]at h;unfold zF at h;split at h
   .cases h
   rename_i hc;simp only[not_or,not_and]at hc;simp only[ad]at h;obtain⟨m,h1,h2⟩:=h;have hne:d≠[]:=by intro h3;subst h3;simp at hc
   have hb:=Cf (k:=0) h1 (by decide);have hlt:m<10^9:=Nat.lt_of_lt_of_le hb (Nat.pow_le_pow_right (by decide) (by omega));have hd:=SZ (k:=20) h1 hne (λh3=>absurd trivial (hc.2.2 h3).2) (by omega);have hm0:m≠0:=by
    intro h3;subst h3;have:d.head?=some 48:=by rw[<- hd];rfl
    exact absurd trivial (hc.2.2 this).2
   obtain⟨_,ha⟩:=LP h1 hne (by omega);unfold FX;rw[ha];have hi:ij (-(m:Int))=45::d:=by
    unfold ij;rw[if_pos (by omega),show(-(m:Int)).natAbs=m by omega,hd]
   rw[if_pos ⟨⟨rfl,hi⟩,by simp[bC];omega⟩];simpa using h2
  .rename_i hm;unfold zF at h;split at h
   .cases h
   rename_i hc;simp only[not_or,not_and]at hc;simp only[ad]at h;obtain⟨m,h1,h2⟩:=h;have hne:s≠[]:=by intro h3;subst h3;simp at hc
   have hb:=Cf (k:=0) h1 (by decide);have hlt:m<10^9:=Nat.lt_of_lt_of_le hb (Nat.pow_le_pow_right (by decide) (by omega));have hd:=SZ (k:=20) h1 hne (λh3=>by have:=(hc.2.2 h3).1;have:=aI.2 hne;omega) (by omega);obtain⟨ha,_⟩:=LP h1 hne (by omega);unfold FX;rw[ha];have hi:ij (m:Int)=s:=by
    unfold ij;rw[if_neg (by omega),show((m:Int)).toNat=m by omega,hd]
   rw[if_pos ⟨⟨rfl,hi⟩,by simp[bC];omega⟩];simpa using h2
 cases hn:FX s with
 |none =>
  cases hw:CP s with
  |none=>rfl
  |some n=>rw[key n hw]at hn;cases hn
 |some n =>
  have h:=hn;unfold FX at h;split at h
  .rename_i hc;obtain⟨⟨_,h1⟩,h2⟩:=hc;simp only[ae]at h;rw[h]at h1 h2;simp only[bC,af,az]at h2;suffices CP s=some n from this.symm
   rw[<- h1];unfold ij;split
   .rename_i hneg;have hlt:n.natAbs<10^9:=by omega
    have hd:=Nd (k:=20) (u:=n.natAbs) (Nat.lt_trans hlt (by decide)) (by decide);have hl:=Nf (k:=20) (u:=n.natAbs) (m:=9) hlt (by decide);have hne:=Q5 (k:=20) (u:=n.natAbs) (by decide);have hh:(tv 20 n.natAbs).head? ≠ some 48:=λh3=>by have:=J1 (Nat.lt_trans hlt (by decide)) h3;omega
    unfold CP;rw[if_pos (show(45::tv 20 n.natAbs).head?=some 45 from rfl)];simp only[List.drop_succ_cons,aC];unfold zF;rw[if_neg (by simp only[not_or,not_and];exact⟨by have:=aI.2 hne;omega,by omega,λh3=>absurd h3 hh⟩),hd];simp;omega
   .rename_i hneg;have hlt:n.toNat<10^9:=by omega
    have hd:=Nd (k:=20) (u:=n.toNat) (Nat.lt_trans hlt (by decide)) (by decide);have hl:=Nf (k:=20) (u:=n.toNat) (m:=9) hlt (by decide);have hne:=Q5 (k:=20) (u:=n.toNat) (by decide);have hh:(tv 20 n.toNat).head? ≠ some 45:=by
     intro h3;cases hx:tv 20 n.toNat with
     |nil=>exact hne hx
     |cons c r =>
      rw[hx]at hd h3;simp at h3;subst h3;simp[pg,GO]at hd
    have hz:(tv 20 n.toNat).head?=some 48->¬1<(tv 20 n.toNat).length:=by
     intro h3;have h0:=J1 (Nat.lt_trans hlt (by decide)) h3;rw[h0];decide
    unfold CP;rw[if_neg hh];unfold zF;rw[if_neg (by simp only[not_or,not_and];exact⟨by have:=aI.2 hne;omega,by omega,λh3=>⟨hz h3,by simp⟩⟩),hd];simp;omega
  .cases h
end Go.Book
namespace Go.Book
open Go Go.Abs
def bE(b:UInt8):List D:=[.int .u8 b.toNat]
theorem strCells_eq(s:List UInt8):strCells s=fM s bE:=by
 induction s with
 |nil=>rfl
 |cons b s ih=>simp only[strCells,aM,db,bE,dp]at ih ⊢;rw[ih]
def EM:Nat->List UInt8->Nat
 |n,[]=>n
 |n,c::s=>EM ((31*n+c.toNat)%65521) s
def Lr(s:List UInt8):Nat:=EM 1 s
theorem K0:∀{s:List UInt8} {n:Nat},n<65521->EM n s<65521
 |[],n,h=>h
 |c::s,n,h=>K0 (s:=s) (Nat.mod_lt _ (by omega))
theorem abd{s:List UInt8}:Lr s<65521:=K0 (by omega)
def LQ(n:Nat):UInt8:=UInt8.ofNat n
theorem Ep{n:Nat}(h:n<256):(LQ n).toNat=n:=by simp[LQ];omega
def abK(n:Nat):List UInt8:=[LQ (n / 256),LQ (n%256),LQ (255-n / 256),LQ (255-n%256)]
def aco(s:List UInt8):List UInt8:=[LQ (Lr s / 256),LQ (Lr s%256)]
def G4(s:List UInt8):List UInt8:=abK s.length++s++aco s
theorem PU(s:List UInt8):(G4 s).length=s.length+6:=by simp[G4,abK,aco]
def F9(l:List (List UInt8)):List UInt8:=fM l G4
end Go.Book
namespace Go.Proofs.YtpapbbojmclkgaaGreatDoor
section
open Go Go.Abs Go.Book
variable {J:SK}
def IZ(l:List (List UInt8)):Prop:=l.length<=100/\∀s∈l,s.length<=4000
theorem M5(l:List UInt8):(fM l bE).length=l.length:=by have:=b8 (f:=bE) (w:=1) (λ_=>rfl) l;omega
theorem agC{l:List UInt8}:D.bf (fM l bE)=true:=fB (f:=bE) (λx=>by simp[bE,D.clean]) l
theorem agi{l:List UInt8}{i:Nat}{b:UInt8}(h:l[i]?=some b):((fM l bE).drop i).take 1=[.int .u8 b.toNat]:=by
 have:=bd (f:=bE) (w:=1) (λ_=>rfl) h;rwa[bS]at this
theorem agj(b:UInt8):b.toNat<256:=b.toNat_lt
theorem abw{s:List UInt8}(hl:s.length<=1000000):∀(m i n:Nat),i+m=s.length->n<65521 ->
  WL T [3,7,8,9] false m8 [(3,iI n),(7,lF s bE),(8,iI s.length),(9,iI i)] J
   (λx e J'=>x=.exit 0/\J'=J/\get e 3=iI (EM n (s.drop i)))
 |0,i,n,hi,hn=>by
  refine aA m8.eq_1 ?_;have h1:¬i<s.length:=by omega
  have h2:s.drop i=[]:=an (by omega);simp[h1,h2,EM]
 |m+1,i,n,hi,hn=>by
  refine aA m8.eq_1 ?_;have h1:i<s.length:=by omega
  obtain⟨c,hc⟩:=gE h1;have a1:=agi hc;have h4:=cg h1;have hb:=agj c;have w0:IntKind.i64.wrap (c.toNat:Int)=c.toNat:=cb;have w1:=cb (n:=31*(n:Int));have w2:=cb (n:=31*(n:Int)+c.toNat);have w3:(31*(n:Int)+c.toNat).tmod 65521=(((31*n+c.toNat)%65521:Nat):Int):=by rw[Int.tmod_eq_emod_of_nonneg (by omega)];omega
  rw[bx hc,EM];simp[h1,a1,h4,w0,w1,w2,w3];exact WL.to (abw hl m (i+1) ((31*n+c.toNat)%65521) (by omega) (Nat.mod_lt _ (by omega))) (by simp) rfl λx e J' hh=>by simpa using hh
theorem acT{s:List UInt8}(hl:s.length<=1000000):Cl 129 [.str s] (iI (Lr s)) J:=by
 refine au ?_;simp[Vh,strCells_eq];refine WL.to (abw (J:=[]::J) hl s.length 0 1 (by omega) (by omega)) (by simp) rfl ?_;rintro x e J' ⟨rfl,rfl,g3⟩;simp[g3,Lr]
theorem VW{s:List UInt8}(hl:s.length<=4000)(hJ:J≠[]):dr T (.call false 86 [.str s] J)=some (.val (.bT (G4 s).length (fM (G4 s) bE)) J):=by
 refine au ?_;have hS:=λJ=>acT (J:=J) (s:=s) (by omega)
 have hb:=abd (s:=s);obtain⟨h,hh⟩:∃h,h=s.length / 256:=⟨_,rfl⟩;obtain⟨lo,hlo⟩:∃h,h=s.length%256:=⟨_,rfl⟩;obtain⟨ch,hch⟩:∃h,h=Lr s / 256:=⟨_,rfl⟩;obtain⟨cl,hcl⟩:∃h,h=Lr s%256:=⟨_,rfl⟩;have hrec:G4 s=[LQ h,LQ lo,LQ (255-h),LQ (255-lo)]++s++[LQ ch,LQ cl]:=by rw[hh,hlo,hch,hcl];rfl
 have e8:(2:Int)^min 8 IntKind.i64.bits=256:=by decide
 have f1:(s.length:Int).fdiv 256=(h:Int):=by rw[Int.fdiv_eq_ediv_of_nonneg _ (by omega)];omega
 have f2:(Lr s:Int).fdiv 256=(ch:Int):=by rw[Int.fdiv_eq_ediv_of_nonneg _ (by omega)];omega
 have w1:IntKind.u8.wrap (h:Int)=h:=wu8 (by omega);have w2:IntKind.u8.wrap (s.length:Int)=lo:=by
  show(s.length:Int)%256=_
  omega
 have w3:IntKind.u8.wrap (ch:Int)=ch:=wu8 (by omega);have w4:IntKind.u8.wrap (Lr s:Int)=cl:=by
  show(Lr s:Int)%256=_
  omega
 have y1:(LQ h).toNat=h:=Ep (by omega);have y2:(LQ lo).toNat=lo:=Ep (by omega);have y3:(LQ (255-h)).toNat=255-h:=Ep (by omega);have y4:(LQ (255-lo)).toNat=255-lo:=Ep (by omega);have y5:(LQ ch).toNat=ch:=Ep (by omega);have y6:(LQ cl).toNat=cl:=Ep (by omega);obtain⟨h',hh'⟩:∃x,x=255-h:=⟨_,rfl⟩;obtain⟨lo',hlo'⟩:∃x,x=255-lo:=⟨_,rfl⟩;have x1:=Qu (n:=h) (by omega);have x2:=Qu (n:=lo) (by omega);rw[<- hh']at x1 y3 hrec;rw[<- hlo']at x2 y4 hrec;have⟨r1,r2⟩:4+s.length<=room/\4+s.length+2<=room:=by unfold room;omega
 have hbl:=M5 s;have q1:4+s.length<=s.length+1+1+1+1:=by omega
 have tk:List.take (4+s.length) (D.int .u8 h::.int .u8 lo::.int .u8 h'::.int .u8 lo'::fM s bE)=D.int .u8 h::.int .u8 lo::.int .u8 h'::.int .u8 lo'::fM s bE:=ah (by simp only[aE,M5];omega);have hrl:(G4 s).length=4+s.length+2:=by rw[PU];omega
 have hrE:fM (G4 s) bE=D.int .u8 h::.int .u8 lo::.int .u8 h'::.int .u8 lo'::(fM s bE++[.int .u8 ch,.int .u8 cl]):=by rw[hrec];simp[bE,y1,y2,y3,y4,y5,y6]
 have hk:=Go.Abs.ki (f:=bE) (w:=1) (λ_=>rfl) (λ_=>by simp[bE,D.clean]) (l:=G4 s) (j:=0) (v:=2) (bs:=[.cells 2 (fM (G4 s) bE)]) (J:=J) hJ (by simp);rw[hrl,hrE]at hk;rw[hrl,hrE];simp[ia,hS,e8,f1,f2,w1,w2,w3,w4,x1,x2,strCells_eq,r1,r2,hbl,q1,tk];exact⟨_,hk⟩
theorem LI{l:List (List UInt8)}(hl:IZ l):∀(m i:Nat) (acc:List UInt8),i+m=l.length->acc.length<=4006*i ->
  WL T [2,5,6,7] false jz [(2,.sl J.length 0 i 0 acc.length 1),(5,lF l cm),(6,iI l.length),(7,iI i)] ([.cells i (fM acc bE)]::J)
   (λx e J'=>x=.exit 0/\get e 2=.sl J.length 0 l.length 0 (acc++F9 (l.drop i)).length 1/\J'=[.cells l.length (fM (acc++F9 (l.drop i)) bE)]::J)
 |0,i,acc,hi,ha=>by
  refine aA jz.eq_1 ?_;obtain rfl:i=l.length:=by omega
  have h2:l.drop l.length=[]:=an (by omega);simp[h2,F9]
 |m+1,i,acc,hi,ha=>by
  refine aA jz.eq_1 ?_;have h1:i<l.length:=by omega
  obtain⟨s,hs⟩:=gE h1;have a1:=bd (f:=cm) (w:=1) (λ_=>rfl) hs;simp only[cm,bS]at a1;have h4:=cg h1 (by have:=hl.1;omega);have hsl:=hl.2 s (aj hs);have hC:=λS hS=>VW (J:=S) hsl hS
  have hrl:=PU s;have hbl:=M5 acc;have hbl2:=M5 (G4 s);have hr:acc.length+(G4 s).length<=room:=by have:=hl.1;unfold room;omega
  have tk:(fM acc bE).take acc.length=fM acc bE:=ah (by omega);have ih:=LI hl m (i+1) (acc++G4 s) (by omega) (by simp;omega);rw[bx hs];have hbk:F9 (s::l.drop (i+1))=G4 s++F9 (l.drop (i+1)):=rfl;rw[hbk];simp[h1,a1,h4,hC,hr,hbl,hbl2,tk];exact WL.to ih (by simp) (by simp) λx e J' hh=>by simpa using hh
theorem Ud{l:List (List UInt8)}(hl:IZ l)(hJ:J≠[]):Cl 61 [lF l cm] (lF (F9 l) bE) J:=by
 refine au ?_;have hL:=LI (J:=J) hl l.length 0 [] (by omega) (by simp);simp;refine WL.to hL (by simp) (by simp) ?_;rintro x e J' ⟨rfl,g2,rfl⟩;simp only[aC,List.nil_append]at g2;have hk:=Go.Abs.ki (f:=bE) (w:=1) (λ_=>rfl) (λ_=>by simp[bE,D.clean]) (l:=F9 l) (j:=0) (v:=l.length) (bs:=[.cells l.length (fM (F9 l) bE)]) (J:=J) hJ (by simp);simp[g2,hk]
def adA:ZK (List UInt8):=⟨false,1,cm,λs => .str s,λ_=>rfl,λ_=>by simp[cm],λ_=>rfl,λ_=>rfl,λ_=>rfl⟩
theorem VC{s:List UInt8}:Cl 72 [.str s] (.bool (decide (4000<s.length))) J:=by
 refine au ?_;have e:decide ((4000:Int)<(s.length:Int))=decide (4000<s.length):=by
  by_cases h:4000<s.length
  .rw[decide_eq_true h,decide_eq_true (by omega)]
  .rw[decide_eq_false h,decide_eq_false (by omega)]
 simp[ia,e]
def okB(l:List (List UInt8)):Bool:=decide (l.length<=100) && !mu l (λs=>decide (4000<s.length))
theorem Bc{l:List (List UInt8)}(hl:l.length<=1000000000):Cl 31 [lF l cm] (iI (if okB l then 0 else 3)) J:=by
 refine au ?_;have hC:=λJ=>contains_of adA (T:=T) (f:=71) (i:=110) (l:=l) (p:=λs=>decide (4000<s.length)) (fv:=.fn 72 [] []) rfl rfl (by omega) (oW.fn λs _ J=>VC) (J:=J)
 have hC':∀J,Cl 71 [lF l cm,.fn 72 [] []] (.bool (mu l (λs=>decide (4000<s.length)))) J:=hC;unfold okB;by_cases h1:l.length<=100
 .have h2:¬(100:Int)<l.length:=by omega
  cases h3:mu l (λs=>decide (4000<s.length))<;>rw[h3]at hC'<;>simp[h1,h2,hC']
 .have h2:(100:Int)<l.length:=by omega
  simp[h1,h2]
theorem Ez{l:List (List UInt8)}:okB l=true↔IZ l:=by
 unfold okB IZ;simp only[af,az,dT];constructor
 .rintro⟨h1,h2⟩;refine⟨h1,λs hs=>?_⟩;by_cases h:s.length<=4000
  .exact h
  .have h3:mu l (λs=>decide (4000<s.length))=true:=OZ.2 ⟨s,hs,show decide (4000<s.length)=true from decide_eq_true (by omega)⟩;rw[h2]at h3;cases h3
 .rintro⟨h1,h2⟩;refine⟨h1,?_⟩;cases h:mu l (λs=>decide (4000<s.length))with
  |false=>rfl
  |true =>
   obtain⟨s,hs,h3⟩:=OZ.1 h;have:=h2 s hs;simp only[az]at h3;omega
theorem Y5{l:List (List UInt8)}(hl:l.length<=1000000000)(hJ:J≠[]):
  Cl 30 [lF l cm] (.cK [if okB l then lF (F9 l) bE else .bz,iI (if okB l then 0 else 3)]) J:=by
 refine au ?_;have h1:=λJ=>Bc (J:=J) hl
 cases hc:okB l
 .rw[hc]at h1;simp[h1]
 .rw[hc]at h1;have h2:=λS hS=>Ud (J:=S) (Ez.1 hc) hS
  simp[h1,h2,agC]
theorem acG{l:List (List UInt8)}(hl:l.length<=1000000000)(hJ:J≠[]):Cl 11 [lF l cm] (lF l cm) J:=by
 refine au ?_;have hr:l.length*16<=room:=by unfold room;omega
 have hfl:(fM l cm).length=l.length:=by have:=b8 (f:=cm) (w:=1) (λ_=>rfl) l;omega
 simp[hfl,hr,fB (f:=cm) (λ_=>by simp[cm]) l]
theorem SB{l:List (List UInt8)}(hl:l.length<=1000000000):∀(m i:Nat),i+m=l.length ->
  WL T [0,3] false nv [(0,lF l cm),(3,iI i)] J
   (λx e J'=>J'=J/\if mu (l.drop i) (λs=>decide (4000<s.length))then x=.ret/\get e 2=.bool false else x=.exit 0/\get e 0=lF l cm)
 |0,i,hi=>by
  refine aA nv.eq_1 ?_;obtain rfl:i=l.length:=by omega
  have h2:l.drop l.length=[]:=an (by omega);simp[h2,mu]
 |m+1,i,hi=>by
  refine aA nv.eq_1 ?_;have h1:i<l.length:=by omega
  obtain⟨s,hs⟩:=gE h1;have a1:=bd (f:=cm) (w:=1) (λ_=>rfl) hs;simp only[cm,bS]at a1;have h4:=cg h1;rw[bx hs];by_cases hc:4000<s.length
  .have hc':(4000:Int)<s.length:=by omega
   simp[ia,h1,a1,hc,hc',mu]
  .have hc':¬(4000:Int)<s.length:=by omega
   simp[ia,h1,a1,h4,hc',mu,hc];exact WL.to (SB hl m (i+1) (by omega)) (by simp) rfl λx e J' hh=>by simpa[mu,hc]using hh
theorem T9{l:List (List UInt8)}(hl:l.length<=1000000000):Cl 12 [lF l cm] (.bool (okB l)) J:=by
 refine au ?_;simp;refine WL.to (SB (J:=[]::J) hl l.length 0 (by omega)) (by simp) rfl ?_;rintro x e J' ⟨rfl,hh⟩;rw[aC]at hh;cases hc:mu l (λs=>decide (4000<s.length))
 .rw[hc,if_neg (by simp)]at hh;obtain⟨rfl,g0⟩:=hh;by_cases h1:l.length<=100
  .have h2:(l.length:Int)<=100:=by omega
   simp[g0,okB,hc,h1,h2]
  .have h2:¬(l.length:Int)<=100:=by omega
   simp[g0,okB,hc,h1,h2]
 .rw[hc,if_pos rfl]at hh;obtain⟨rfl,g2⟩:=hh;simp[g2,okB,hc]
theorem SJ{d:List UInt8}{v:Bool}(hd:d.length<=9):∀(m i n:Nat),i+m=d.length->n<10^i ->
  WL T [4,5,6,7] false l7 [(4,.bool v),(5,.str d),(6,.int .i64 n),(7,.int .i64 i)] J
   (λx e J'=>J'=J/\match pg n (d.drop i)with
    |some k=>x=.exit 0/\get e 4=.bool v/\get e 6=.int .i64 k
    |none=>x=.ret/\get e 2=.int .i64 0/\get e 3=.bool false)
 |0,i,n,hi,hn=>by
  refine aA l7.eq_1 ?_;obtain rfl:i=d.length:=by omega
  have h2:d.drop d.length=[]:=an (by omega);simp[-List.map_take,ia,h2,pg]
 |m+1,i,n,hi,hn=>by
  refine aA l7.eq_1 ?_;have h1:i<d.length:=by omega
  obtain⟨c,hc⟩:=gE h1;have hcg:d[i]=c:=by have:=aH h1;rw[hc]at this;exact(Option.some.inj this).symm
  have h4:=cg h1;rw[bx hc];have hp:10^(i+1)<=10^9:=Nat.pow_le_pow_right (by decide) (by omega);rw[Nat.pow_succ]at hp;have hb:=c.toNat_lt;by_cases h5:c.toNat<48
  .have h6:(c.toNat:Int)<48:=by omega
   have h7:¬GO c:=by unfold GO;omega
   simp[-List.map_take,ia,h1,hcg,h6,pg,h7]
  .have h6:¬(c.toNat:Int)<48:=by omega
   by_cases h8:57<c.toNat
   .have h9:(57:Int)<c.toNat:=by omega
    have h7:¬GO c:=by unfold GO;omega
    simp[-List.map_take,ia,h1,hcg,h6,h9,pg,h7]
   .have h9:¬(57:Int)<c.toNat:=by omega
    have h7:GO c:=by unfold GO;omega
    have w1:IntKind.i64.wrap (10*(n:Int))=((10*n:Nat):Int):=(cb).trans (by omega);have w2:IntKind.u8.wrap ((c.toNat:Int)-48)=((c.toNat-48:Nat):Int):=(wu8 (by omega)).trans (by omega);have w3:IntKind.i64.wrap ((c.toNat-48:Nat):Int)=((c.toNat-48:Nat):Int):=cb;have w4:IntKind.i64.wrap (10*(n:Int)+((c.toNat-48:Nat):Int))=10*(n:Int)+((c.toNat-48:Nat):Int):=cb;have ih:=SJ (v:=v) hd m (i+1) (10*n+(c.toNat-48)) (by omega) (by rw[Nat.pow_succ];omega);simp[-List.map_take,ia,h1,hcg,h6,h9,pg,w1,w2,w3,h4];exact WL.to ih (by simp[w4]) rfl λx e J' hh=>by rw[if_pos h7];exact hh
theorem ZH{s:List UInt8}:Cl 87 [.str s] (.cK [iI ((FX s).getD 0),.bool (FX s).isSome]) J:=by
 rw[UR];refine au ?_;obtain⟨v,d,hs⟩:∃(v:Bool) (d:List UInt8),(s=45::d/\v=true)\/(s=d/\v=false/\d.head? ≠ some 45):=by
  cases s with
  |nil=>exact⟨false,[],Or.inr ⟨rfl,rfl,by simp⟩⟩
  |cons c r =>
   by_cases h:c=45
   .subst h;exact⟨true,r,Or.inl ⟨rfl,rfl⟩⟩
   .exact⟨false,c::r,Or.inr ⟨rfl,rfl,by simpa using h⟩⟩
 have hw:CP s=zF v d:=by
  rcases hs with⟨rfl,rfl⟩ | ⟨rfl,rfl,h⟩
  .rfl
  .unfold CP;rw[if_neg h]
 rw[hw];have hL:=λh9=>SJ (J:=[]::J) (v:=v) (d:=d) h9 d.length 0 0 (by omega) (by decide)
 have hneg:∀k,pg 0 d=some k->d.length<=9->IntKind.i64.wrap (-(k:Int)) = -(k:Int):=λk hk h9=>by
  have h1:=Cf (k:=0) hk (by decide);have h2:=Nat.lt_of_lt_of_le h1 (Nat.pow_le_pow_right (by decide) (show 0+d.length<=9 by omega));exact cb
 by_cases c1:d.length=0
 .obtain rfl:=bq.1 c1;rcases hs with⟨rfl,rfl⟩ | ⟨rfl,rfl,h⟩<;>simp[ia,zF]
 have⟨d1,hp,hp1,hp2,hp3⟩:¬(d.length:Int)=0/\0<d.length/\(0:Int)<d.length/\(0:Int)<(d.length:Int)+1/\(1:Int)<=(d.length:Int)+1:=by omega
 obtain⟨c,hc⟩:=gE hp;have hcg:d[0]=c:=by have:=aH hp;rw[hc]at this;exact(Option.some.inj this).symm
 have hh:d.head?=some c:=by rw[List.head?_eq_getElem?,hc]
 rw[hh]at hs;simp only[ne_eq,ae]at hs;by_cases c2:9<d.length
 .have d2:(9:Int)<d.length:=by omega
  rcases hs with⟨rfl,rfl⟩ | ⟨rfl,rfl,h⟩
  .simp[ia,zF,c1,c2,d2,hp3]
  .have h':¬c.toNat=45:=λh2=>h (UInt8.toNat_inj.1 h2)
   have h3:((c.toNat:Int) == 45)=false:=by simp;omega
   simp[ia,zF,c1,c2,d2,hp,hcg,h3]
 have d2:¬(9:Int)<d.length:=by omega
 have hcz:((c.toNat:Int) == 48)=decide (c=48):=by
  by_cases h:c=48
  .subst h;rfl
  .have h':¬c.toNat=48:=λh2=>h (UInt8.toNat_inj.1 h2)
   simp[h];omega
 have hL:=hL (by omega);rw[aC]at hL;have hone:(1<d.length)=((1:Int)<d.length):=propext ⟨λh=>by omega,λh=>by omega⟩;by_cases c3:c=48/\(1<d.length\/v=true)
 .have hn:zF v d=none:=by unfold zF;rw[hh,if_pos (Or.inr (Or.inr ⟨by rw[c3.1],c3.2⟩))]
  rw[hn];obtain⟨rfl,c4⟩:=c3;rw[hone]at c4;rcases hs with⟨rfl,rfl⟩ | ⟨rfl,rfl,h⟩
  .by_cases c5:(1:Int)<d.length<;>simp[ia,c1,d2,hp,hp3,hcg,c5]
  .have c4:(1:Int)<s.length:=by simpa using c4
   simp[ia,c1,d2,hp,hcg,c4]
 .have hn:zF v d=(pg 0 d).map λn:Nat=>(if v=true then -(n:Int)else(n:Int)):=by
   unfold zF;rw[hh,if_neg];rintro(h | h | ⟨h,h2⟩)
   .exact c1 h
   .exact c2 h
   .exact c3 ⟨by simpa using h,h2⟩
  rw[hn];rcases hs with⟨rfl,rfl⟩ | ⟨rfl,rfl,h⟩
  .have c4:¬c=48:=λh=>c3 ⟨h,Or.inr rfl⟩
   simp[ia,c1,d2,hp,hp3,hcg,hcz,c4];refine WL.to hL (by simp) rfl ?_;rintro x e J' ⟨rfl,hh⟩;cases hv:pg 0 d with
   |none=>rw[hv]at hh;obtain⟨rfl,g2,g3⟩:=hh;simp[g2,g3]
   |some k=>rw[hv]at hh;obtain⟨rfl,g4,g6⟩:=hh;simp[g4,g6,hneg k hv (by omega)]
  .have h':¬c.toNat=45:=λh2=>h (UInt8.toNat_inj.1 h2)
   have h3:((c.toNat:Int) == 45)=false:=by simp;omega
   have key:∀x e J',(J'=[]::J/\match pg 0 s with
    |some k=>x=Abs.Exit.exit 0/\get e 4=.bool false/\get e 6=.int .i64 k
    |none=>x=.ret/\get e 2=.int .i64 0/\get e 3=.bool false)->True:=λ_ _ _ _=>trivial
   by_cases c4:c=48
   .have c5:¬(1:Int)<s.length:=λh=>c3 ⟨c4,Or.inl (by omega)⟩
    subst c4;simp[ia,c1,d2,hp,hcg,c5];refine WL.to hL (by simp) rfl ?_;rintro x e J' ⟨rfl,hh⟩;cases hv:pg 0 s with
    |none=>rw[hv]at hh;obtain⟨rfl,g2,g3⟩:=hh;simp[g2,g3]
    |some k=>rw[hv]at hh;obtain⟨rfl,g4,g6⟩:=hh;simp[g4,g6]
   .simp[ia,c1,d2,hp,hcg,hcz,h3,c4];refine WL.to hL (by simp) rfl ?_;rintro x e J' ⟨rfl,hh⟩;cases hv:pg 0 s with
    |none=>rw[hv]at hh;obtain⟨rfl,g2,g3⟩:=hh;simp[g2,g3]
    |some k=>rw[hv]at hh;obtain⟨rfl,g4,g6⟩:=hh;simp[g4,g6]
end
section
open Go Go.Abs Go.Rock Go.Book
variable {J:SK}
def glue(c:List UInt8):List (List UInt8)->List (List UInt8)
 |[]=>[c]
 |x::l=>(c++x)::l
theorem Pq{l:List (List UInt8)}(h:l≠[]):glue [] l=l:=by
 cases l with
 |nil=>exact absurd rfl h
 |cons x l=>rfl
theorem RP(b c:UInt8)(s:List UInt8):dn b (c::s)=if c=b then []::dn b s else glue [c] (dn b s):=by
 simp only[dn];split
 .rfl
 .cases dn b s<;>rfl
theorem UB(a b:List UInt8)(l:List (List UInt8)):glue a (glue b l)=glue (a++b) l:=by
 cases l<;>simp[glue]
theorem MY{s:List UInt8}(hs:s.length<=1000000):∀(m i fr:Nat) (cl:List (List UInt8)),i+m=s.length->fr<=i->cl.length<=i ->
  dn 32 s=cl++glue ((s.drop fr).take (i-fr)) (dn 32 (s.drop i)) ->
  WL T [0,6,7,8] false lW [(0,.str s),(6,.sl J.length 0 cl.length 0 (cl.length+1) 1),(7,iI fr),(8,iI i)] ([.cells cl.length (fM (cl++[[]]) cm)]::J)
   (λx e J'=>∃(cl:List (List UInt8)) (fr:Nat),fr<=s.length/\dn 32 s=cl++[s.drop fr]/\cl.length<=s.length/\x=.exit 0/\get e 0=.str s/\get e 6=.sl J.length 0 cl.length 0 (cl.length+1) 1/\get e 7=iI fr/\J'=[.cells cl.length (fM (cl++[[]]) cm)]::J)
 |0,i,fr,cl,hi,hf,hc,hsp=>by
  refine aA lW.eq_1 ?_;obtain rfl:i=s.length:=by omega
  have h2:s.drop s.length=[]:=an (by omega);have h3:(s.drop fr).take (s.length-fr)=s.drop fr:=ah (by simp);rw[h2,h3]at hsp;have h4:glue (s.drop fr) (dn 32 [])=[s.drop fr]:=by simp[dn,glue]
  rw[h4]at hsp;simp[ia];exact⟨cl,fr,hf,hsp,hc,by simp⟩
 |m+1,i,fr,cl,hi,hf,hc,hsp=>by
  refine aA lW.eq_1 ?_;have h1:i<s.length:=by omega
  obtain⟨c,hcc⟩:=gE h1;have hcg:s[i]=c:=by have:=aH h1;rw[hcc]at this;exact(Option.some.inj this).symm
  have h4:=cg h1;have e1:((i+1:Nat):Int)=(i:Int)+1:=by omega
  rw[bx hcc,RP]at hsp;by_cases c1:c=32
  .subst c1;rw[if_pos rfl]at hsp;simp only[glue,da]at hsp;have hw:IntKind.i64.wrap (((cl.length+1:Nat):Int)-1)=(cl.length:Int):=(cb).trans (by omega);have hw0:IntKind.i64.wrap (cl.length:Int)=(cl.length:Int):=cb;have hw1:(cl.length:Int)<(cl.length:Int)+1:=by omega
   have hfl:=b8 (f:=cm) (w:=1) (λ_=>rfl) cl;have hr:(cl.length+1+1)*16<=room:=by unfold room;omega
   rw[bS]at hfl;have hd:((fM cl cm)++[D.str []]).drop (cl.length+1)=[]:=an (by rw[aV,hfl];simp);have ht:∀y:D,((fM cl cm)++[y]).take (cl.length+1)=(fM cl cm)++[y]:=λy=>ah (by rw[aV,hfl];simp)
   have⟨hfi,hil⟩:(fr:Int)<=i/\(i:Int)<=s.length:=by omega
   have ih:=MY hs m (i+1) (i+1) (cl++[(s.drop fr).take (i-fr)]) (by omega) (by omega) (by simp;omega) (by
    rw[Nat.sub_self,List.take_zero,Pq (tn _ _),hsp];simp)
   simp[ia,h1,hcg,hw0,hw1,hfl,h4,hfi,hil,hr];exact WL.to ih (by simp) (by simp[hd,ht]) λx e J' hh=>hh
  .have h':¬c.toNat=32:=λh2=>c1 (UInt8.toNat_inj.1 h2)
   have h3:((c.toNat:Int) == 32)=false:=by simp;omega
   rw[if_neg c1,UB]at hsp;have ih:=MY hs m (i+1) fr cl (by omega) (by omega) (by omega) (by
    rw[hsp];have:(s.drop fr).take (i+1-fr)=(s.drop fr).take (i-fr)++[c]:=by
     rw[show i+1-fr=(i-fr)+1 by omega,List.take_add_one,dY,show fr+(i-fr)=i by omega,hcc];rfl
    rw[this])
   simp[ia,h1,hcg,h3,h4];exact WL.to ih (by simp) (by simp) λx e J' hh=>hh
theorem I8{a nm:List UInt8}{ws r:List (List UInt8)}{v k:Nat}(hk:ws.drop k=r)(hr:k+r.length<=1000001):∀(m i:Nat) (acc:List Int),i+m=r.length->acc.length=i->mQ r=(mQ (r.drop i)).map (acc ++ ·) ->
  WL T [9,10,11,12,13] false lX [(9,.str a),(10,.sl J.length 0 v k r.length 1),(11,.str nm),(12,.sl J.length 1 acc.length 0 acc.length 1),(13,iI i)] ([.cells v (fM ws cm),.cells acc.length (fM acc aO)]::J)
   (λx e J'=>match mQ r with
    |some l=>x=.exit 2/\get e 9=.str a/\get e 11=.str nm/\get e 12=.sl J.length 1 l.length 0 l.length 1/\J'=[.cells v (fM ws cm),.cells l.length (fM l aO)]::J
    |none=>x=.ret/\get e 2=.str []/\get e 3=.str []/\get e 4=.bz/\get e 5=.bool false/\∃b,J'=b::J)
 |0,i,acc,hi,ha,hn=>by
  refine aA lX.eq_1 ?_;obtain rfl:i=r.length:=by omega
  have h2:r.drop r.length=[]:=an (by omega);rw[h2]at hn;simp only[mQ,aZ,da]at hn;simp[hn]
 |m+1,i,acc,hi,ha,hn=>by
  refine aA lX.eq_1 ?_;have h1:i<r.length:=by omega
  obtain⟨s,hs⟩:=gE h1;have hs':ws[k+i]?=some s:=by rw[<- hk,dY]at hs;exact hs
  have hdr:=rD (f:=cm) (w:=1) (λ_=>rfl) hs';simp only[bS,cm,dp]at hdr;have h4:=cg h1;rw[bx hs]at hn;have hB:=λS=>ZH (J:=S) (s:=s)
  cases hv:FX s with
  |none =>
   rw[hv]at hB;simp only[mQ,hv,Option.map_none]at hn;simp[h1,hdr,hB,hn]
  |some n =>
   rw[hv]at hB;simp only[mQ,hv,Option.map_map]at hn;have hfl:=b8 (f:=aO) (w:=1) (λ_=>rfl) acc;rw[bS]at hfl;have tk:(fM acc aO).take i=fM acc aO:=ah (by omega);have hrm:(i+1)*8<=room:=by unfold room;omega
   have ih:=I8 (a:=a) (nm:=nm) (v:=v) hk hr m (i+1) (acc++[n]) (by omega) (by simp[ha]) (by
    rw[hn];congr 1;funext l;simp)
   subst ha;simp[h1,hdr,hB,h4,hfl,tk,hrm];exact WL.to ih (by simp) (by simp[aO]) λx e J' hh=>hh
def pG(a:List UInt8)(n:Int):Bool :=
 if(a == [102,105,101,108,100] || (a == [114,101,97,100] || a == [115,101,108,108]))=true then n == 4
 else if(a == [98,101,100] || (a == [119,101,108,108] || a == [107,101,101,112]))=true then n == 3
 else if(a == [114,117,108,101])=true then n == 10
 else if(a == [116,97,98,108,101])=true then n.tmod 5 == 0
 else if(a == [113,117,97,107,101])=true then n.tmod 4 == 0
 else if(a == [108,111,103])=true then decide (3<=n) && n.tmod 2 == 1
 else if(a == [117,110,105,116])=true then n.tmod 2 == 1
 else a == [109,111,100,101,108] || a == [116,105,99,107]
def HS(a nm:List UInt8)(r:List (List UInt8)):D:=match mQ r with
 |some l => .cK [.str a,.str nm,lF l aO,.bool (pG a l.length)]
 |none => .cK [.str [],.str [],.bz,.bool false]
def PV(a:List UInt8):List (List UInt8)->D
 |[] => .cK [.str [],.str [],.bz,.bool false]
 |nm::r=>HS a nm r
def NJ(s:List UInt8):D:=match dn 32 s with
 |[] => .bz
 |a::all=>if(a == [109,111,100,101,108] || a == [108,111,103])=true then PV a all else HS a [] all
theorem Sg{s:List UInt8}(hs:s.length<=1000000)(hJ:J≠[]):dr T (.call false 62 [.str s] J)=some (.val (NJ s) J):=by
 refine au ?_;simp[-List.map_take];refine WL.to (MY (J:=J) hs s.length 0 0 [] (by omega) (by omega) (by simp[]) (by show dn 32 s=glue [] (dn 32 s);rw[Pq (tn _ _)])) (by simp[]) (by simp[]) ?_;rintro x e J' ⟨cl,fr,hf,hsp,hc,rfl,g0,g6,g7,rfl⟩;have hw:IntKind.i64.wrap (((cl.length+1:Nat):Int)-1)=(cl.length:Int):=(cb).trans (by omega);have hw0:IntKind.i64.wrap (cl.length:Int)=(cl.length:Int):=cb;have hw1:(cl.length:Int)<(cl.length:Int)+1:=by omega
 have hfl:=b8 (f:=cm) (w:=1) (λ_=>rfl) cl;have hfs:(fr:Int)<=s.length:=by omega
 have hd:((fM cl cm)++[D.str []]).drop (cl.length+1)=[]:=an (by rw[aV,hfl];simp[]);obtain⟨a,all,ha⟩:∃a all,cl++[s.drop fr]=a::all:=by
  cases cl with
  |nil=>exact⟨_,_,rfl⟩
  |cons x l=>exact⟨_,_,rfl⟩
 have hal:all.length=cl.length:=by have:=congrArg List.length ha;simp[]at this;omega
 have hce:fM cl cm++D.str (s.drop fr)::((fM cl cm)++[D.str []]).drop (cl.length+1)=.str a::fM all cm:=by
  rw[hd];have:=congrArg (fM · cm) ha;simpa[qD,cm]using this
 have h1c:(1:Int)<=(cl.length:Int)+1:=by omega
 have hrp:NJ s=if(a == [109,111,100,101,108] || a == [108,111,103])=true then PV a all else HS a [] all:=by unfold NJ;rw[hsp,ha]
 rw[hrp];have hfr:∀(b:List Abs.aG) (l:List Int) (nm:List UInt8) (x:Bool),b[1]?=some (.cells l.length (fM l aO))->∃S,cF (J.length-1) 16 (.cK [.str a,.str nm,.sl J.length 1 l.length 0 l.length 1,.bool x]) (b::J)=(.cK [.str a,.str nm,.bT l.length (fM l aO),.bool x],S::J):=by
  intro b l nm x hb;have f0:=ki (n:=15) (f:=aO) (w:=1) (l:=l) (by decide) (λ_=>rfl) (λ_=>by simp[aO,D.clean]) hJ hb;have h1:∀(s:List UInt8) (S:SK),cF (J.length-1) 15 (.str s) S=(.str s,S):=λs S=>ek rfl (by decide)
  have h2:∀(s:Bool) (S:SK),cF (J.length-1) 15 (.bool s) S=(.bool s,S):=λs S=>ek rfl (by decide)
  refine⟨b.set 1 .dead,?_⟩;rw[o4 (by simp[D.clean,D.bf]) (by omega)];simp only[jb,j9,Nat.reduceSub,h1,h2,f0]
 simp[-List.map_take,ia,g0,g6,g7,hw0,hw1,hfl,hfs,hce,h1c];clear hrp hce hd hsp;rw[<- hal];have hal2:all.length<=1000000:=by omega
 by_cases c1:a=[109,111,100,101,108]
 .subst c1;cases all with
  |nil=>simp[-List.map_take,PV]
  |cons nm r =>
   have hr2:(2:Nat)+r.length<=1000001:=by simp[]at hal2;omega
   have hL:=I8 (J:=J) (a:=[109,111,100,101,108]) (nm:=nm) (ws:=[109,111,100,101,108]::nm::r) (r:=r) (k:=2) (v:=r.length+1) rfl hr2 r.length 0 [] (by omega) rfl (by simp[]);have hr0:¬(r.length:Int)+1=0:=by omega
   have hr1:(1:Int)<=(r.length:Int)+1:=by omega
   simp[-List.map_take,PV,hr0,hr1];refine WL.to hL (by simp[]) (by simp[]) ?_;intro x e J' hh;unfold HS;cases hn:mQ r with
   |none=>rw[hn]at hh;obtain⟨rfl,g2,g3,g4,g5,b,rfl⟩:=hh;simp[g2,g3,g4,g5]
   |some l =>
    rw[hn]at hh;obtain⟨rfl,g9,g11,g12,rfl⟩:=hh;simp[-List.map_take,ia,g9,g11,g12,pG];exact hfr _ l nm true rfl
 by_cases c2:a=[108,111,103]
 .subst c2;cases all with
  |nil=>simp[-List.map_take,PV]
  |cons nm r =>
   have hr2:(2:Nat)+r.length<=1000001:=by simp[]at hal2;omega
   have hL:=I8 (J:=J) (a:=[108,111,103]) (nm:=nm) (ws:=[108,111,103]::nm::r) (r:=r) (k:=2) (v:=r.length+1) rfl hr2 r.length 0 [] (by omega) rfl (by simp[]);have hr0:¬(r.length:Int)+1=0:=by omega
   have hr1:(1:Int)<=(r.length:Int)+1:=by omega
   simp[-List.map_take,PV,hr0,hr1];refine WL.to hL (by simp[]) (by simp[]) ?_;intro x e J' hh;unfold HS;cases hn:mQ r with
   |none=>rw[hn]at hh;obtain⟨rfl,g2,g3,g4,g5,b,rfl⟩:=hh;simp[g2,g3,g4,g5]
   |some l =>
    rw[hn]at hh;obtain⟨rfl,g9,g11,g12,rfl⟩:=hh;by_cases h3:(3:Int)<=l.length
    .simp[-List.map_take,ia,g9,g11,g12,pG,h3];exact hfr _ l nm _ rfl
    .simp[-List.map_take,ia,g9,g11,g12,pG,h3];exact hfr _ l nm _ rfl
 have hr2:(1:Nat)+all.length<=1000001:=by omega
 have hL:=I8 (J:=J) (a:=a) (nm:=[]) (ws:=a::all) (r:=all) (k:=1) (v:=all.length) rfl hr2 all.length 0 [] (by omega) rfl (by simp[]);have c1':(a == [109,111,100,101,108])=false:=by simpa[qD]using c1
 have c2':(a == [108,111,103])=false:=by simpa[qD]using c2
 simp[-List.map_take,c1,c2];refine WL.to hL (by simp[]) (by simp[]) ?_;intro x e J' hh;unfold HS;cases hn:mQ all with
 |none=>rw[hn]at hh;obtain⟨rfl,g2,g3,g4,g5,b,rfl⟩:=hh;simp[g2,g3,g4,g5,c1,c2]
 |some l =>
  rw[hn]at hh;obtain⟨rfl,g9,g11,g12,rfl⟩:=hh;by_cases w0:a=[102,105,101,108,100]
  .subst w0;simp[-List.map_take,ia,g9,g11,g12,pG];exact hfr _ l [] _ rfl
  by_cases w1:a=[114,101,97,100]
  .subst w1;simp[-List.map_take,ia,g9,g11,g12,pG];exact hfr _ l [] _ rfl
  by_cases w2:a=[115,101,108,108]
  .subst w2;simp[-List.map_take,ia,g9,g11,g12,pG];exact hfr _ l [] _ rfl
  by_cases w3:a=[98,101,100]
  .subst w3;simp[-List.map_take,ia,g9,g11,g12,pG];exact hfr _ l [] _ rfl
  by_cases w4:a=[119,101,108,108]
  .subst w4;simp[-List.map_take,ia,g9,g11,g12,pG];exact hfr _ l [] _ rfl
  by_cases w5:a=[107,101,101,112]
  .subst w5;simp[-List.map_take,ia,g9,g11,g12,pG];exact hfr _ l [] _ rfl
  by_cases w6:a=[114,117,108,101]
  .subst w6;simp[-List.map_take,ia,g9,g11,g12,pG];exact hfr _ l [] _ rfl
  by_cases w7:a=[116,97,98,108,101]
  .subst w7;simp[-List.map_take,ia,g9,g11,g12,pG];exact hfr _ l [] _ rfl
  by_cases w8:a=[113,117,97,107,101]
  .subst w8;simp[-List.map_take,ia,g9,g11,g12,pG];exact hfr _ l [] _ rfl
  by_cases w9:a=[117,110,105,116]
  .subst w9;simp[-List.map_take,ia,g9,g11,g12,pG];exact hfr _ l [] _ rfl
  by_cases w10:a=[116,105,99,107]
  .subst w10;simp[-List.map_take,ia,g9,g11,g12,pG];exact hfr _ l [] _ rfl
  simp[-List.map_take,ia,g9,g11,g12,pG,c1,c2,w0,w1,w2,w3,w4,w5,w6,w7,w8,w9,w10];have hz:(a == [109,111,100,101,108] || a == [116,105,99,107])=false:=by simp[c1,w10]
  rw[hz];exact hfr _ l [] _ rfl
end
section
open Go Go.Abs Go.Rock Go.Book
theorem Xh{a:List UInt8}{w:Wd}(h:(a,w)∈mr){n:Nat}(hf:FO w n=true):pG a n=true:=by
 have t5:(n:Int).tmod 5=(n:Int)%5:=Int.tmod_eq_emod_of_nonneg (by omega);have t4:(n:Int).tmod 4=(n:Int)%4:=Int.tmod_eq_emod_of_nonneg (by omega);have t2:(n:Int).tmod 2=(n:Int)%2:=Int.tmod_eq_emod_of_nonneg (by omega);have t3:0<(n:Int)-3->((n:Int)-3).tmod 2=((n:Int)-3)%2:=λh=>Int.tmod_eq_emod_of_nonneg (by omega)
 have t1:0<(n:Int)-1->((n:Int)-1).tmod 2=((n:Int)-1)%2:=λh=>Int.tmod_eq_emod_of_nonneg (by omega)
 simp only[mr,bw,ar,List.not_mem_nil,or_false]at h;unfold FO at hf;simp only[cj,af,az]at hf;rcases h with⟨rfl,rfl⟩ | ⟨rfl,rfl⟩ | ⟨rfl,rfl⟩ | ⟨rfl,rfl⟩ | ⟨rfl,rfl⟩ | ⟨rfl,rfl⟩ | ⟨rfl,rfl⟩ | ⟨rfl,rfl⟩ | ⟨rfl,rfl⟩ | ⟨rfl,rfl⟩ | ⟨rfl,rfl⟩ | ⟨rfl,rfl⟩ | ⟨rfl,rfl⟩<;>
  simp only[Int.sub_zero,t5,t4]at hf<;>simp[pG,t5,t4,t2]<;>
  (try (rcases hf with hf | ⟨hf,hf2,hf3⟩<;>(try rw[t3 hf]at hf3)<;>(try rw[t1 hf]at hf3)<;>omega))
theorem Ya{s:List UInt8}{w:Wd}{nm:List UInt8}{l:List Int}(h:parse s=some (w,nm,l)):∃a,(a,w)∈mr/\NJ s=.cK [.str a,.str nm,lF l aO,.bool true]:=by
 unfold parse at h;unfold NJ;cases hsp:dn 32 s with
 |nil=>rw[hsp]at h;cases h
 |cons a all =>
  rw[hsp]at h;simp only at h ⊢;cases hw:xC a with
  |none=>rw[hw]at h;cases h
  |some v =>
   rw[hw]at h;simp only at h;have hm:=BG hw;have key:∀{nm':List UInt8} {r:List (List UInt8)},rF v nm' r=some (w,nm,l)->v=w/\HS a nm' r=.cK [.str a,.str nm,lF l aO,.bool true]:=by
    intro nm' r h;unfold rF at h;unfold HS;cases hn:mQ r with
    |none=>rw[hn]at h;cases h
    |some ns =>
     rw[hn]at h;simp only at h ⊢;split at h
     .rename_i hf;cases h;rw[Xh hm hf];exact⟨rfl,rfl⟩
     .cases h
   have hnm:(a == [109,111,100,101,108] || a == [108,111,103])=v.named:=by
    have hm:=hm;simp only[mr,bw,ar,List.not_mem_nil,or_false]at hm;rcases hm with⟨rfl,rfl⟩ | ⟨rfl,rfl⟩ | ⟨rfl,rfl⟩ | ⟨rfl,rfl⟩ | ⟨rfl,rfl⟩ | ⟨rfl,rfl⟩ | ⟨rfl,rfl⟩ | ⟨rfl,rfl⟩ | ⟨rfl,rfl⟩ | ⟨rfl,rfl⟩ | ⟨rfl,rfl⟩ | ⟨rfl,rfl⟩ | ⟨rfl,rfl⟩<;>rfl
   rw[hnm];split at h
   .rename_i hv;rw[if_pos hv];cases all with
    |nil=>cases h
    |cons n r =>
     obtain⟨rfl,h2⟩:=key h;exact⟨a,hm,h2⟩
   .rename_i hv;rw[if_neg hv];obtain⟨rfl,h2⟩:=key h;exact⟨a,hm,h2⟩
theorem KI(a nm:List UInt8)(r:List (List UInt8)):∃x y d f,HS a nm r=.cK [.str x,.str y,d,.bool f]/\(d=.bz\/∃l:List Int,d=lF l aO):=by
 unfold HS;cases mQ r with
 |none=>exact⟨_,_,_,_,rfl,.inl rfl⟩
 |some l=>exact⟨_,_,_,_,rfl,.inr ⟨l,rfl⟩⟩
theorem UY(s:List UInt8):∃x y d f,NJ s=.cK [.str x,.str y,d,.bool f]/\(d=.bz\/∃l:List Int,d=lF l aO):=by
 unfold NJ;cases hsp:dn 32 s with
 |nil=>exact absurd hsp (tn _ _)
 |cons a all =>
  simp only;split
  .cases all with
   |nil=>exact⟨_,_,_,_,rfl,.inl rfl⟩
   |cons n r=>exact KI _ _ _
  .exact KI _ _ _
theorem R9{b:Bk}(h:∀r∈b.rules,r.ok=true)(k:Nat)(nm:List UInt8)(l:List Int):∀r∈(iX b k nm l).1.rules,r.ok=true:=by
 unfold iX;split
 .split
  .unfold nS;split
   .split<;>exact h
   .exact h
  .exact h
 .unfold lT;split
  .split<;>exact h
  .exact h
 .split
  .unfold yd;split
   .exact h
   .split<;>exact h
  .exact h
 .split
  .unfold tF;split
   .split<;>exact h
   .exact h
  .exact h
 .unfold pY;split
  .split
   .exact h
   .split
    .split<;>exact h
    .exact h
  .exact h
 .split
  .unfold CX;split
   .exact h
   .split<;>exact h
  .exact h
 .unfold sk;split
  .split
   .split
    .rename_i h2;intro r hr;rcases aT.1 hr with hr | hr
     .exact h r hr
     .rw[List.mem_singleton.1 hr];exact h2
    .exact h
   .exact h
  .exact h
 .split
  .split<;>exact h
  .exact h
 .unfold oX;split
  .split<;>exact h
  .exact h
 .unfold mz;split
  .exact h
  .split
   .split
    .split
     .split<;>exact h
     .exact h
    .exact h
   .exact h
 .split
  .unfold oL;split
   .exact h
   .split
    .split<;>exact h
    .exact h
  .exact h
 .split
  .unfold tE;split
   .split<;>exact h
   .exact h
  .exact h
 .split
  .unfold mX;split
   .exact h
   .split
    .split<;>exact h
    .exact h
  .exact h
 .exact h
end
section
open Go Go.Abs Go.Rock Go.Book
variable {J:SK}
theorem Z5{a:List UInt8}{w:Wd}(h:(a,w)∈mr){n:Nat}(hf:pG a n=true):FO w n=true:=by
 have t5:(n:Int).tmod 5=(n:Int)%5:=Int.tmod_eq_emod_of_nonneg (by omega);have t4:(n:Int).tmod 4=(n:Int)%4:=Int.tmod_eq_emod_of_nonneg (by omega);have t2:(n:Int).tmod 2=(n:Int)%2:=Int.tmod_eq_emod_of_nonneg (by omega);have t1:(n:Int).tmod 1=(n:Int)%1:=Int.tmod_eq_emod_of_nonneg (by omega);have t3:0<(n:Int)-3->((n:Int)-3).tmod 2=((n:Int)-3)%2:=λh=>Int.tmod_eq_emod_of_nonneg (by omega)
 have t6:0<(n:Int)-1->((n:Int)-1).tmod 2=((n:Int)-1)%2:=λh=>Int.tmod_eq_emod_of_nonneg (by omega)
 simp only[mr,bw,ar,List.not_mem_nil,or_false]at h;unfold FO;simp only[cj,af,az];rcases h with⟨rfl,rfl⟩ | ⟨rfl,rfl⟩ | ⟨rfl,rfl⟩ | ⟨rfl,rfl⟩ | ⟨rfl,rfl⟩ | ⟨rfl,rfl⟩ | ⟨rfl,rfl⟩ | ⟨rfl,rfl⟩ | ⟨rfl,rfl⟩ | ⟨rfl,rfl⟩ | ⟨rfl,rfl⟩ | ⟨rfl,rfl⟩ | ⟨rfl,rfl⟩<;>
  simp[pG,t5,t4,t2]at hf<;>simp only[Int.sub_zero,t5,t4,t1]<;>(try omega)
theorem Kf{s:List UInt8}:∀{l:List (List UInt8×Wd)},Da s l=none->∀p∈l,s≠p.1
 |[],_,p,hp=>by cases hp
 |(k,v)::l,h,p,hp=>by
  simp only[Da]at h;split at h
  .cases h
  .rename_i hne;rcases bw.1 hp with rfl | hp
   .exact hne
   .exact Kf h p hp
theorem X9{s:List UInt8}(h:parse s=none):∃x y d,NJ s=.cK [.str x,.str y,d,.bool false]/\(d=.bz\/∃l:List Int,d=lF l aO):=by
 obtain⟨x,y,d,f,h1,h2⟩:=UY s;cases f with
 |false=>exact⟨x,y,d,h1,h2⟩
 |true =>
  exfalso
  unfold parse at h;unfold NJ at h1;cases hsp:dn 32 s with
  |nil=>exact absurd hsp (tn _ _)
  |cons a all =>
  rw[hsp]at h h1;simp only at h h1;have key:∀{nm:List UInt8} {r:List (List UInt8)},HS a nm r=.cK [.str x,.str y,d,.bool true]->∃ns,mQ r=some ns/\pG a ns.length=true:=by
   intro nm r hr;unfold HS at hr;cases hn:mQ r with
   |none=>rw[hn]at hr;simp at hr
   |some ns=>rw[hn]at hr;simp at hr;exact⟨ns,rfl,hr.2.2.2⟩
  have fin:∃ns:List Int,pG a ns.length=true:=by
   split at h1
   .cases all with
    |nil=>simp[PV]at h1
    |cons n r=>obtain⟨ns,_,h⟩:=key h1;exact⟨ns,h⟩
   .obtain⟨ns,_,h⟩:=key h1;exact⟨ns,h⟩
  cases hw:xC a with
  |none =>
   obtain⟨ns,hf⟩:=fin;have g:=Kf hw;simp only[mr,List.forall_mem_cons,List.not_mem_nil,false_implies,implies_true,and_true]at g;obtain⟨g1,g2,g3,g4,g5,g6,g7,g8,g9,g10,g11,g12,g13⟩:=g;simp[pG,g1,g2,g3,g4,g5,g6,g7,g8,g9,g10,g11,g12,g13]at hf
  |some v =>
   rw[hw]at h;have hm:=BG hw;have hnm:(a == [109,111,100,101,108] || a == [108,111,103])=v.named:=by
    have hm:=hm;simp only[mr,bw,ar,List.not_mem_nil,or_false]at hm;rcases hm with⟨rfl,rfl⟩ | ⟨rfl,rfl⟩ | ⟨rfl,rfl⟩ | ⟨rfl,rfl⟩ | ⟨rfl,rfl⟩ | ⟨rfl,rfl⟩ | ⟨rfl,rfl⟩ | ⟨rfl,rfl⟩ | ⟨rfl,rfl⟩ | ⟨rfl,rfl⟩ | ⟨rfl,rfl⟩ | ⟨rfl,rfl⟩ | ⟨rfl,rfl⟩<;>rfl
   rw[hnm]at h1;simp only at h;have fin2:∀{nm:List UInt8} {r:List (List UInt8)},rF v nm r=none->HS a nm r=.cK [.str x,.str y,d,.bool true]->False:=by
    intro nm r hp hr;obtain⟨ns,hn,hf⟩:=key hr;unfold rF at hp;rw[hn]at hp;simp only at hp;rw[if_pos (Z5 hm hf)]at hp;cases hp
   split at h
   .rename_i hv;rw[if_pos hv]at h1;cases all with
    |nil=>simp[PV]at h1
    |cons n r=>exact fin2 h h1
   .rename_i hv;rw[if_neg hv]at h1;exact fin2 h h1
theorem Kr.Uj{n:Nat}{b:Bk}(h:Kr n b)(k:Int):Kr n {b with at_:=k }:=⟨h.kv.Uj k,h.rok⟩
theorem Zm{b:Bk}{s:List UInt8}{k:Int}(hs:s.length<=4000)(hp:parse s=none):Cl 26 [.agg (bY b),iI k,.str s] (gl (b,4)) J:=by
 refine au ?_;obtain⟨x,y,d,h1,h2⟩:=X9 hp;have hP:=λJ hJ=>Sg (J:=J) (s:=s) (by omega) hJ
 have hcl:=mo (b:=b);rw[h1]at hP;rcases h2 with rfl | ⟨l,rfl⟩<;>simp[hP,hcl,eS,eH,gl]
theorem acL{n:Nat}{b:Bk}{s:List UInt8}{w:Wd}{nm:List UInt8}{l:List Int}(hK:Kr n b)(hn:n<=1000000)(hs:s.length<=4000)(hp:parse s=some (w,nm,l)):
  Cl 26 [.agg (bY b),iI b.at_,.str s] (gl (iX b w.k nm l)) J:=by
 refine au ?_;obtain⟨_,hfit,hnm,hll⟩:=Al hp;obtain⟨a,ha,h1⟩:=Ya hp;have hP:=λJ hJ=>Sg (J:=J) (s:=s) (by omega) hJ
 rw[h1]at hP;have hcl:=mo (b:=b);have hv:=hK.kv;have htl:=Oa hv.dP;have hbv:b.ready=true->Bv b.aS:=λh=>Bv.of (hv.ready h)
 have hwl:b.aS.av.length<=8:=by
  cases hr:b.ready with
  |true=>exact(hbv hr).av
  |false=>rw[hv.av hr];simp
 have hrl:=hv.rules;have hel:=hv.pZ;have hul:=hv.cI;have hml:=hv.ml;have nrdy:¬b.aS.valid=true->b.ready=false:=λh=>by
  cases hr:b.ready with
  |true=>exact absurd (hv.ready hr) h
  |false=>rfl
 simp only[mr,bw,ar,List.not_mem_nil,or_false]at ha;rcases ha with⟨rfl,rfl⟩ | ⟨rfl,rfl⟩ | ⟨rfl,rfl⟩ | ⟨rfl,rfl⟩ | ⟨rfl,rfl⟩ | ⟨rfl,rfl⟩ | ⟨rfl,rfl⟩ | ⟨rfl,rfl⟩ | ⟨rfl,rfl⟩ | ⟨rfl,rfl⟩ | ⟨rfl,rfl⟩ | ⟨rfl,rfl⟩ | ⟨rfl,rfl⟩
 .have hl:l.length=4:=by have h:(l.length:Int)=4:=tT hfit rfl;omega
  obtain⟨x,y,z,k,rfl⟩:=Mk hl;have hX:∀J,Cl 63 [.agg (bY b),.str Ee,.bT 4 [iI x,iI y,iI z,iI k]] (gl (iX b 0 nm [x,y,z,k])) J:=λJ=>VX (by omega) λhz=>hv.av (nrdy λh=>by have:=(Bv.of h).x;omega)
  simp only[gl,Ee]at hX;simp[ia,hP,eS,eH,gl,hX];exact⟨_,lg⟩
 .have hl:=(Ad hfit (by decide) (by decide)).2;simp only[Int.sub_zero]at hl;obtain⟨h5,h6⟩:=No (l.length / 5) (l:=l) (by omega);have hlen:(Rh l).length*5=l.length:=by omega
  have hX:∀J,J≠[]->Cl 63 [.agg (bY b),.str HY,lF l aO] (gl (iX b 1 nm l)) J:=λJ hJ=>by
   try simp only[lF]
   rw[<- h5,<- hlen];exact V3 (by omega) (by omega) (λhz=>hv.av (nrdy λh=>vx (Bv.of h).dP hz)) hJ
  simp only[gl,HY]at hX;simp[ia,hP,eS,eH,gl,hX];exact⟨_,lg⟩
 .have hl:l.length=3:=by have h:(l.length:Int)=3:=tT hfit rfl;omega
  obtain⟨x,y,z,rfl⟩:=Mj hl;have hX:∀J,J≠[]->Cl 63 [.agg (bY b),.str KN,.bT 3 [iI x,iI y,iI z]] (gl (iX b 2 nm [x,y,z])) J:=λJ hJ=>acJ (by omega) (by omega) hv.av hJ
  simp only[gl,KN]at hX;simp[ia,hP,eS,eH,gl,hX];exact⟨_,lg⟩
 .have hl:l.length=3:=by have h:(l.length:Int)=3:=tT hfit rfl;omega
  obtain⟨x,y,z,rfl⟩:=Mj hl;have hX:∀J,J≠[]->Cl 63 [.agg (bY b),.str Ef,.bT 3 [iI x,iI y,iI z]] (gl (iX b 3 nm [x,y,z])) J:=λJ hJ=>ZA (by omega) (by omega) (λhr=>vx (hbv hr).dP) hJ
  simp only[gl,Ef]at hX;simp[ia,hP,eS,eH,gl,hX];exact⟨_,lg⟩
 .have hX:∀J,J≠[]->Cl 65 [.agg (bY b),.str nm,lF l aO] (gl (iX b 4 nm l)) J:=λJ hJ=>V0 (m:=⟨nm,l⟩) hv.ready (by omega) hv.wl (by simp;omega) (by simp;omega) hJ
  simp only[gl]at hX;simp[ia,hP,eS,eH,gl,hX];exact⟨_,lg⟩
 .obtain⟨hl1,hl2⟩:=Ad hfit (by decide) (by decide);simp only at hl1 hl2;obtain⟨k,l,rfl,hl⟩:=wT (n:=l.length-1) (l:=l) (by omega);simp only[aE]at hl1 hl2 hll;obtain⟨lo,l,rfl,hl⟩:=wT (n:=l.length-1) (l:=l) (by omega);simp only[aE]at hl1 hl2 hll;obtain⟨hi,l,rfl,hl⟩:=wT (n:=l.length-1) (l:=l) (by omega);simp only[aE]at hl1 hl2 hll;obtain⟨h5,h6⟩:=GM (l.length / 2) (l:=l) (by omega);have hlen:(HE l).length*2+3=l.length+1+1+1:=by omega
  have hX:∀J,J≠[]->Cl 66 [.agg (bY b),iI b.at_,.str nm,.bT (l.length+1+1+1) (iI k::iI lo::iI hi::fM l aO)] (gl (iX b 5 nm (k::lo::hi::l))) J:=λJ hJ=>by
   try simp only[lF]
   rw[<- h5,<- hlen];exact acN (by omega) (by omega) hv.wl hml (λh=>(Bv.of (hK.valid h)).fv) (λe he=>Fm.of (Bv.of (hK.valid λh=>by rw[h]at he;cases he)).fv (Kz (hK.valid λh=>by rw[h]at he;cases he) (hv.fit e he).1)) hJ
  simp only[gl]at hX;simp[ia,hP,eS,eH,gl,hX];exact⟨_,lg⟩
 .have hl:l.length=10:=by have h:(l.length:Int)=10:=tT hfit rfl;omega
  obtain⟨x0,x1,x2,x3,x4,x5,x6,x7,x8,x9,rfl⟩:=XC hl;have hX:∀J,J≠[]->Cl 64 [.agg (bY b),.str KP,.bT 10 [iI x0,iI x1,iI x2,iI x3,iI x4,iI x5,iI x6,iI x7,iI x8,iI x9]] (gl (iX b 6 nm [x0,x1,x2,x3,x4,x5,x6,x7,x8,x9])) J:=λJ hJ=>Zu (by omega) hJ
  simp only[gl,KP]at hX;simp[ia,hP,eS,eH,gl,hX];exact⟨_,lg⟩
 .have hl:l.length=3:=by have h:(l.length:Int)=3:=tT hfit rfl;omega
  obtain⟨x,y,z,rfl⟩:=Mj hl;have hX:∀J,Cl 64 [.agg (bY b),.str Qc,.bT 3 [iI x,iI y,iI z]] (gl (iX b 7 nm [x,y,z])) J:=λJ=>Zr
  simp only[gl,Qc]at hX;simp[ia,hP,eS,eH,gl,hX];exact⟨_,lg⟩
 .have hl:=(Ad hfit (by decide) (by decide)).2;simp only[Int.sub_zero]at hl;obtain⟨h5,h6⟩:=Nn (l.length / 4) (l:=l) (by omega);have hlen:(Rf l).length*4=l.length:=by omega
  have hX:∀J,J≠[]->Cl 64 [.agg (bY b),.str KO,lF l aO] (gl (iX b 8 nm l)) J:=λJ hJ=>by
   try simp only[lF]
   rw[<- h5,<- hlen];exact V1 (by omega) (by omega) hJ
  simp only[gl,KO]at hX;simp[ia,hP,eS,eH,gl,hX];exact⟨_,lg⟩
 .have hX:∀J,J≠[]->Cl 67 [.agg (bY b),lF l aO] (gl (iX b 9 nm l)) J:=λJ hJ=>Zy hK (by omega) hJ
  simp only[gl]at hX;simp[ia,hP,eS,eH,gl,hX];exact⟨_,lg⟩
 .have hl:l.length=4:=by have h:(l.length:Int)=4:=tT hfit rfl;omega
  obtain⟨w,i,lo,hi,rfl⟩:=Mk hl;have hX:∀J,J≠[]->Cl 68 [.agg (bY b),iI b.at_,.bT 4 [iI w,iI i,iI lo,iI hi]] (gl (iX b 10 nm [w,i,lo,hi])) J:=λJ hJ=>Zt hK hJ
  simp only[gl]at hX;simp[ia,hP,eS,eH,gl,hX];exact⟨_,lg⟩
 .obtain⟨hl1,hl2⟩:=Ad hfit (by decide) (by decide);simp only at hl1 hl2;obtain⟨i,l,rfl,hl⟩:=wT (n:=l.length-1) (l:=l) (by omega);simp only[aE]at hl1 hl2 hll;obtain⟨h5,h6⟩:=GM (l.length / 2) (l:=l) (by omega);have hlen:((HE l).map K2).length*2+1=l.length+1:=by simp;omega
  have hX:∀J,J≠[]->Cl 69 [.agg (bY b),.bT (l.length+1) (iI i::fM l aO)] (gl (iX b 11 nm (i::l))) J:=λJ hJ=>by
   rw[<- h5,<- hlen,<- Tu];exact Zz (u:=⟨i,(HE l).map K2⟩) (by simp;omega) (by omega) hJ
  simp only[gl]at hX;simp[ia,hP,eS,eH,gl,hX];exact⟨_,lg⟩
 .have hl:l.length=4:=by have h:(l.length:Int)=4:=tT hfit rfl;omega
  obtain⟨w,lv,u,p,rfl⟩:=Mk hl;have hX:∀J,J≠[]->Cl 70 [.agg (bY b),.bT 4 [iI w,iI lv,iI u,iI p]] (gl (iX b 12 nm [w,lv,u,p])) J:=λJ hJ=>Zw hK hn hJ
  simp only[gl]at hX;simp[ia,hP,eS,eH,gl,hX];exact⟨_,lg⟩
theorem af8{n:Nat}{b:Bk}{s:List UInt8}{k:Int}(hK:Kr n b)(hn:n<=1000000)(hs:s.length<=4000):Cl 26 [.agg (bY b),iI k,.str s] (gl (mW b k s)) J:=by
 unfold mW;cases hp:parse s with
 |none=>exact Zm hs hp
 |some p =>
  obtain⟨w,nm,l⟩:=p;exact acL (b:={b with at_:=k }) (hK.Uj k) hn hs hp
end
end Go.Proofs.YtpapbbojmclkgaaGreatDoor
