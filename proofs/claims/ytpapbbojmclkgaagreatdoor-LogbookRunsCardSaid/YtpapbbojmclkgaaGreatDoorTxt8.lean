import Derived.Test.YtpapbbojmclkgaaGreatDoorTxt7
set_option linter.all false
namespace Go.Proofs.YtpapbbojmclkgaaGreatDoor
section
open Go Go.Abs Go.Rock Go.Book
variable {J:SK}
theorem XK{u:jD}(hs:zU u.parts)(hl:u.parts.length<=8):∀(m i:Nat) (out:Int),i+m=u.parts.length->0<=out->out<=100000*i ->
  WL T [1,3,4] false kg [(1,.aZ u.enc),(3,iI out),(4,iI i)] J
   (λx e J'=>x=.exit 0/\J'=J/\get e 3=iI (out+Hb (u.parts.drop i)))
 |0,i,out,hi,h0,ho=>by
  refine av kg.eq_1 ?_;have h1:¬i<u.parts.length:=by omega
  have h2:u.parts.drop i=[]:=an (by omega);simp[h1,h2,Hb]
 |m+1,i,out,hi,h0,ho=>by
  refine av kg.eq_1 ?_;have h1:i<u.parts.length:=by omega
  obtain⟨p,hp⟩:=gE h1;have hfl:=aP (f:=Prt.enc) (w:=2) (λ_=>rfl) hp;have hd:=bz hp;have h4:=bO h1;have hb:=hs p (ai hp);have w1:=cm (n:=out+p.width);have ih:=XK hs hl m (i+1) (out+p.width) (by omega) (by omega) (by omega);rw[hd,Hb];simp[h1,hfl,h4,w1];exact WL.to ih (by simp) rfl λx e J' hh=>by simpa[Int.add_assoc]using hh
theorem aea{u:jD}(hs:zU u.parts)(hl:u.parts.length<=8):Cl 142 [.agg u.enc] (iI (Hb u.parts)) J:=by
 refine ar ?_;simp[];refine WL.to (XK (J:=[]::J) hs hl u.parts.length 0 0 (by omega) (by omega) (by omega)) (by simp) rfl ?_;rintro x e J' ⟨rfl,rfl,g2⟩;simp[g2]
theorem XL{u:jD}(hs:zU u.parts)(hl:u.parts.length<=8):∀(k i:Nat) (out m:Int),i+k=u.parts.length->0<=m->m<=1000000->0<=out->out<=1000000000*i ->
  WL T [1,2,5,6] false nJ [(1,iI m),(2,.aZ u.enc),(5,iI out),(6,iI i)] J
   (λx e J'=>x=.exit 0/\J'=J/\get e 5=iI (out+uX (u.parts.drop i) m))
 |0,i,out,m,hi,hm,hm2,h0,ho=>by
  refine av nJ.eq_1 ?_;have h1:¬i<u.parts.length:=by omega
  have h2:u.parts.drop i=[]:=an (by omega);simp[h1,h2,uX]
 |k+1,i,out,m,hi,hm,hm2,h0,ho=>by
  refine av nJ.eq_1 ?_;have h1:i<u.parts.length:=by omega
  obtain⟨p,hp⟩:=gE h1;have hfl:=aP (f:=Prt.enc) (w:=2) (λ_=>rfl) hp;have d1:=re (f:=Prt.enc) (w:=2) (λ_=>rfl) hp;have d2:(fM u.parts Prt.enc).drop (i*2+1)=iI p.lj::(fM u.parts Prt.enc).drop (i*2+2):=by
   have:=congrArg (List.drop 1) d1;simpa[dn]using this
  have hd:=bz hp;have h4:=bO h1;have hb:=hs p (ai hp);have hmn:0<=min m p.width/\min m p.width<=m:=by omega
  have q1:0<=p.lj*min m p.width:=bB hb.1.1 hmn.1;have q2:p.lj*min m p.width<=1000*1000000:=ct hb.1.2 (by omega) hmn.1 (by omega);have w0:IntKind.i64.wrap (min m p.width*p.lj)=p.lj*min m p.width:=by rw[Int.mul_comm];exact cm
  have w1:=cm (n:=m-min m p.width);have w2:=cm (n:=out+p.lj*min m p.width);have ih:=XL hs hl k (i+1) (out+p.lj*min m p.width) (m-min m p.width) (by omega) (by omega) (by omega) (by omega) (by omega);rw[hd,uX];simp[h1,hfl,h4,w0,w1,w2];exact WL.to ih (by simp) rfl λx e J' hh=>by simpa[Int.add_assoc]using hh
theorem aee{u:jD}{m:Int}(hs:zU u.parts)(hl:u.parts.length<=8)(hm:0<=m/\m<=1000000):Cl 143 [.agg u.enc,iI m] (iI (uX u.parts m)) J:=by
 refine ar ?_;simp[];refine WL.to (XL (J:=[]::J) hs hl u.parts.length 0 0 m (by omega) hm.1 hm.2 (by omega) (by omega)) (by simp) rfl ?_;rintro x e J' ⟨rfl,rfl,g2⟩;simp[g2]
def ZK(u:jD)(s:tV):D:=if Hb u.parts<s.m then .cQ [.agg [iI 0,iI 0,iI 0,iI 0],iI 0,iI 2]
 else if s.h<uX u.parts s.m then .cQ [.agg [iI 0,iI 0,iI 0,iI 0],iI 0,iI 9]
 else .cQ [.agg [iI s.m,iI (s.h-uX u.parts s.m),iI s.s,iI s.g],iI (uX u.parts s.m),iI 0]
theorem aeb{u:jD}{s:tV}(hu:u.ok=true)(hs:s.valid=true):Cl 108 [.agg u.enc,.agg s.enc] (ZK u s) J:=by
 refine ar ?_;have hok:=hu;simp only[jD.ok,ah]at hu;have hl:u.parts.length<=8:=by have:=aQ.1 hu.2.1;omega
 have hsm:=AD (by omega) hu.2.2;simp only[tV.valid,ah,aQ]at hs;have hc:=λJ=>aea (J:=J) hsm hl
 have hp:=λJ=>aee (J:=J) hsm hl hs.1
 have hb:=OO hsm hs.1.1;have w1:=cm (n:=s.h-uX u.parts s.m);simp only[jD.enc]at hc hp;unfold ZK;by_cases c1:Hb u.parts<s.m
 .simp[hc,c1]
 by_cases c2:s.h<uX u.parts s.m
 .simp[hc,hp,c1,c2]
 simp[hc,hp,c1,c2,w1]
theorem Vd{x:tV}(hm : -1000000000<=x.m/\x.m<=1000000000):Cl 107 [.agg x.enc] (.bool x.valid) J:=by
 refine ar ?_;have w1:=cm (n:=4000*x.m);have w2:=cm (n:=10000*x.m);cases hc1:bF x.m 0 1000000
 .simp[dw,tV.valid,hc1]
 cases hc2:bF x.h 0 (4000*x.m)
 .simp[dw,tV.valid,w1,hc1,hc2]
 cases hc3:bF x.s 0 (10000*x.m)
 .simp[dw,tV.valid,w1,w2,hc1,hc2,hc3]
 simp[dw,tV.valid,w1,w2,hc1,hc2,hc3]
theorem WQ{r:Rw}{x:tV}(hr:0<=r.l/\r.l<r.v/\r.v<=4000)(hs:0<=r.s/\r.s<=2000)(hx:x.valid=true)(hx1:x.s=0)(hx2:x.g=0):
  ∃c:List D,c.length=6/\∀J,Cl 109 [.agg r.enc,.agg x.enc] (.agg ((fC r x).enc++c)) J:=by
 simp only[tV.valid,ah,aQ]at hx;obtain⟨⟨m0,m1⟩,⟨h0,h1⟩,_,_⟩:=hx;obtain⟨x,xh,xs,xg⟩:=x;simp only at hx1 hx2 m0 m1 h0 h1;subst hx1 hx2;have b1:0<=x*r.l/\x*r.l<=1000000*4000:=⟨bB m0 hr.1,ct m1 (by omega) hr.1 (by omega)⟩;have b2:0<=x*r.v/\x*r.v<=1000000*4000:=⟨bB m0 (by omega),ct m1 (by omega) (by omega) (by omega)⟩;have b3:0<=x*r.s/\x*r.s<=1000000*2000:=⟨bB m0 hs.1,ct m1 hs.2 hs.1 (by omega)⟩;have w1:=cm (n:=x*r.l);have w2:=cm (n:=x*r.v);have w3:=cm (n:=x*r.s);have w4:=cm (n:=xh-x*r.l);have w5:=cm (n := -(x*r.s));have w6:=cm (n:=r.v-r.l);have mx:max 0 (-(x*r.s))=0:=by omega
 by_cases hx0:x=0
 .obtain rfl:xh=0:=by omega
  subst hx0;have hf:eK r ⟨0,0,0,0⟩=0:=by simp[eK]
  refine⟨[iI 0,iI 0,iI 0,iI 0,iI 0,iI 0],rfl,λJ=>?_⟩;refine ar ?_;simp[fC,Pg,Pf,hf,cm]
 by_cases c1:xh-x*r.l<=0
 .have hf:eK r ⟨x,xh,0,0⟩=0:=by simp only[eK,if_pos c1]
  refine⟨[iI x,iI xh,iI 0,iI 0,iI 0,iI 0],rfl,λJ=>?_⟩;refine ar ?_;simp[fC,Pg,Pf,hf,w1,w3,w4,w5,mx,show ¬x*r.l<xh by omega,Ne.symm hx0]
 have c1':x*r.l<xh:=by omega
 by_cases c2:x*r.v<=xh
 .have hf:eK r ⟨x,xh,0,0⟩=x:=by simp only[eK,if_neg c1,if_pos c2]
  refine⟨[iI 0,iI 0,iI 0,iI 0,iI 0,iI 0],rfl,λJ=>?_⟩;refine ar ?_;simp[fC,Pg,Pf,hf,w1,w2,w4,c1',c2,hx0,show 0<x by omega]
 have hd:0<r.v-r.l:=by omega
 have hmv:x*r.v=x*r.l+x*(r.v-r.l):=by rw[<- Int.mul_add];congr 1;omega
 have hf:eK r ⟨x,xh,0,0⟩=(xh-x*r.l) / (r.v-r.l):=by simp only[eK,if_neg c1,if_neg c2]
 have hq:(xh-x*r.l).tdiv (r.v-r.l)=(xh-x*r.l) / (r.v-r.l):=aS (by omega);have s0:0<=(xh-x*r.l) / (r.v-r.l):=Int.ediv_nonneg (by omega) (by omega);have s1:(xh-x*r.l) / (r.v-r.l)<x:=Int.ediv_lt_of_lt_mul hd (by omega);have hne:¬r.v-r.l=0:=by omega
 generalize hz:(xh-x*r.l) / (r.v-r.l)=z at *
 have w7:=cm (n:=z);have hzx:¬z=x:=by omega
 by_cases c3:z=0
 .subst c3;refine⟨[iI x,iI xh,iI 0,iI 0,iI (xh-x*r.l),iI 0],rfl,λJ=>?_⟩;refine ar ?_;simp[fC,Pg,Pf,hf,w1,w2,w3,w4,w5,w6,w7,mx,c1',c2,hq,hne,hzx]
 .have e1:0<=z*r.v/\z*r.v<=1000000*4000:=⟨bB s0 (by omega),ct (by omega) (by omega) (by omega) (by omega)⟩;have v1:=cm (n:=z*r.v);have v2:=cm (n:=x-z);have v3:=cm (n:=xh-z*r.v);have e2:0<=(x-z)*r.l/\(x-z)*r.l<=1000000*4000:=⟨bB (by omega) hr.1,ct (by omega) (by omega) hr.1 (by omega)⟩;have e3:0<=(x-z)*r.s/\(x-z)*r.s<=1000000*2000:=⟨bB (by omega) hs.1,ct (by omega) hs.2 hs.1 (by omega)⟩;have v4:=cm (n:=(x-z)*r.l);have v5:=cm (n:=(x-z)*r.s);have v6:=cm (n:=xh-z*r.v-(x-z)*r.l);have v7:=cm (n := -((x-z)*r.s));have my:max 0 (-((x-z)*r.s))=0:=by omega
  refine⟨[iI (x-z),iI (xh-z*r.v),iI 0,iI 0,iI (xh-z*r.v-(x-z)*r.l),iI 0],rfl,λJ=>?_⟩;refine ar ?_;simp[fC,Pg,Pf,hf,w1,w2,w4,w6,w7,c1',c2,c3,hq,hne,hzx,v1,v2,v3,v4,v5,v6,v7,my,show 0<z by omega]
theorem Z5{r:Rw}{x:tV}(hr:0<=r.l/\r.l<r.v/\r.v<=4000)(hx:x.valid=true):(fC r x).valid=true:=by
 simp only[tV.valid,ah,aQ]at hx;obtain⟨⟨m0,m1⟩,⟨h0,h1⟩,_,g0,g1⟩:=hx;obtain⟨f1,f2,f3⟩:=QD (x:=x) hr m0;simp only[fC,tV.valid,ah,aQ];refine⟨by omega,?_,by omega,?_⟩
 .unfold Pg;split
  .omega
  .split
   .rename_i h;rw[h];omega
   .have:=bB f1 (show 0<=r.v by omega);have:=Int.mul_le_mul_of_nonneg_left hr.2.2 f1;omega
 .unfold Pf;split<;>omega
theorem Zg{l:List Int}{v:Int}(h:l≠[]):D2 (l++[v])=min (D2 l) v/\D1 (l++[v])=max (D1 l) v:=by
 cases l with
 |nil=>exact absurd rfl h
 |cons a l=>simp[D2,D1]
def J4(tk w:Int)(acc:List Int):List D:=[iI tk,iI w,iI (D2 acc),iI (D1 acc),iI 0,iI 0]
theorem TY{n:Nat}{b:Bk}{w lv u:Nat}{price:Int}{M:List cg}{R:List D}(hR:R=bW b)(hK:Kr n b)(ht:fN b.aR.c9=true)(hp:b.az≠[])(hM:∀m∈M,Bd b.aR m=true/\∃r,Rock.run b.aR m b.az=some r)(hl:M.length<=40)(hJ:J≠[])
  (hw:w<b.aR.aw.length) (hlv:lv<b.aR.c9.length) (hu:u<b.cp.length):∀(k i:Nat),i+k=M.length ->
  WL T [1,2,4,6,7,8] false nR [(1,.bZ 4 [.int .i64 w,.int .i64 lv,.int .i64 u,.int .i64 price]),(2,.own 0 R),(4,.own 0 zS),(6,.bZ M.length (fM M cg.enc)),(7,.own 0 (J4 b.az.length w ((M.take i).map (pO b w lv u)))),(8,.int .i64 i)] J
   (λx e J'=>J'=J/\if b8 (vp b w lv u) (M.drop i)=0 then x=.exit 0/\get e 1=.bZ 4 [.int .i64 w,.int .i64 lv,.int .i64 u,.int .i64 price]/\get e 2=.own 0 R/\get e 4=.own 0 zS/\get e 7=.own 0 (J4 b.az.length w (M.map (pO b w lv u)))
    else x=.ret/\get e 4=.own 0 R/\get e 5=.int .i64 (b8 (vp b w lv u) (M.drop i)))
 |0,i,hi=>by
  refine av nR.eq_1 ?_;obtain rfl:i=M.length:=by omega
  have h2:M.drop M.length=[]:=an (by omega);simp[-List.map_take,h2,b8,J4]
 |k+1,i,hi=>by
  refine av nR.eq_1 ?_;have h1:i<M.length:=by omega
  obtain⟨m,hm⟩:=gE h1;obtain⟨hBd,r,hrun⟩:=hM m (ai hm);have a1:=aP (f:=cg.enc) (w:=2) (λ_=>rfl) hm;have h4:=bO h1;have htn:=uT ht;have hT:=fI (f:=Rw.enc) htn;have hPl:=fI (f:=pE) hp;have hun0:b.cp≠[]:=λh=>by rw[h]at hu;simp[]at hu
  have hU:=fI (f:=jD.enc) hun0;obtain⟨hp1,hp2⟩:=ju hK.kv.pl;obtain⟨ss,ys⟩:=r;have hP:∀J,J≠[]->dt T (.call false 102 [.agg [.int .i64 b.aR.f.x,.int .i64 b.aR.f.y,.int .i64 b.aR.f.z,.int .i64 b.aR.f.k,.bZ b.aR.c9.length (fM b.aR.c9 Rw.enc),.int .i64 b.aR.cG,.int .i64 b.aR.lift,.int .i64 b.aR.deep,nl bA.enc b.aR.aw],.agg [.str m.name,.bZ m.dh.length (fM m.dh aO)],.bZ b.az.length (fM b.az pE)] J)=_:=λJ hJ=>Ks (J:=J) (Fv.of hBd) hp1 hp2 hJ hrun kI
  have hRun:=MX.of (Fv.of hBd) hp2 hrun;have hpl:0<b.az.length:=aH.2 hp;obtain⟨hrow,hY⟩:=Re (r:=(ss,ys)) hRun (t:=b.az.length-1) (by omega);dsimp only at hrow hY;have f1:=aP (f:=lI) (w:=1) (λ_=>rfl) hrow;rw[bJ]at f1;have hyw:=U3 hY hw;have f2:=aP (f:=Rock.aF.enc) (w:=3) (λ_=>rfl) hyw;have hyb:=hY.ok _ (ai hyw);have hyl:=hY.len;have w1:=cm (n:=(b.az.length:Int)-1);have⟨t1,q1⟩:((b.az.length:Int)-1).toNat=b.az.length-1/\(1:Int)<=b.az.length:=by omega
  have q2:(b.az.length:Int)-1<ys.length:=by have:=hRun.yl;omega
  have hrw:b.aR.c9[lv]?=some (rowOf b lv):=by simp[rowOf,hlv]
  have hun:b.cp[u]?=some (xj b u):=by simp[xj,hu]
  have f3:=aP (f:=jD.enc) (w:=2) (λ_=>rfl) hun;have f4:=aP (f:=Rw.enc) (w:=5) (λ_=>rfl) hrw;obtain⟨r1,r2⟩:=ZM ht hrw;have huk:=hK.kv.uok _ (ai hun);have hV:=λJ=>Vd (J:=J) (x:=nZ b (ss,ys) w) (show -1000000000<=(aT (rowAt ys (b.az.length-1)) w).m/\(aT (rowAt ys (b.az.length-1)) w).m<=1000000000 by omega)
  have ih:=TY (price:=price) hR hK ht hp hM hl hJ hw hlv hu k (i+1) (by omega);rw[bz hm,b8];have hs0:vp b w lv u m=if(nZ b (ss,ys) w).valid=true then Le (xj b u) (fC (rowOf b lv) (nZ b (ss,ys) w))else 1:=by simp[vp,hrun]
  subst hR;cases c1:(nZ b (ss,ys) w).valid with
  |false =>
   rw[c1]at hV;have hs1:vp b w lv u m=1:=by rw[hs0,c1];rfl
   rw[hs1];simp only[tV.enc,nZ]at hV;simp[-List.map_take,bW,h1,a1,hT,hPl,hP,f1,f2,w1,t1,q1,q2,hyl,hw,lI,hV,zS,hJ]
  |true =>
   rw[c1]at hV;have hs1:vp b w lv u m=Le (xj b u) (fC (rowOf b lv) (nZ b (ss,ys) w)):=by rw[hs0,c1];rfl
   have hv1:pO b w lv u m=uX (xj b u).parts (fC (rowOf b lv) (nZ b (ss,ys) w)).m:=by simp[pO,hrun]
   have hso:=Z5 r1 c1;obtain⟨fc,fl,hF⟩:=WQ r1 r2 c1 rfl rfl;have hX:=λJ=>aeb (J:=J) (s:=fC (rowOf b lv) (nZ b (ss,ys) w)) huk hso
   have hul:=Ii b.cp;have hrl:=LV b.aR.c9;have⟨q3,q4⟩:2<=b.cp.length*2-u*2/\5<=b.aR.c9.length*5-lv*5:=by omega
   simp only[Le,if_pos hso]at hs1;unfold ZK at hX;rw[<- hv1]at hX hs1;by_cases c2:Hb (xj b u).parts<(fC (rowOf b lv) (nZ b (ss,ys) w)).m
   .rw[if_pos c2]at hX hs1;rw[hs1];simp only[tV.enc,fC,nZ,cC,List.nil_append,jD.enc,Rw.enc]at hV hF hX f3;simp[-List.map_take,bW,h1,a1,hT,hPl,hU,hP,f1,f2,w1,t1,q1,q2,hyl,hw,lI,hV,zS,hJ,hF,hX,f3,f4,hu,hlv,fl]
   rw[if_neg c2]at hX hs1;by_cases c3:(fC (rowOf b lv) (nZ b (ss,ys) w)).h<pO b w lv u m
   .rw[if_pos c3]at hX hs1;rw[hs1];simp only[tV.enc,fC,nZ,cC,List.nil_append,jD.enc,Rw.enc]at hV hF hX f3;simp[-List.map_take,bW,h1,a1,hT,hPl,hU,hP,f1,f2,w1,t1,q1,q2,hyl,hw,lI,hV,zS,hJ,hF,hX,f3,f4,hu,hlv,fl]
   rw[if_neg c3]at hX hs1;rw[hs1];simp only[tV.enc,fC,nZ,cC,List.nil_append,jD.enc,Rw.enc]at hV hF hX f3;rw[List.take_add_one,hm]at ih;by_cases hi0:i=0
   .have hb:((i:Int) == 0)=true:=by simp[hi0]
    have e1:(M.take i).map (pO b w lv u)=[]:=by rw[hi0];rfl
    simp[-List.map_take,bW,h1,a1,h4,hT,hPl,hU,hP,f1,f2,w1,t1,q1,q2,hyl,hw,lI,hV,hJ,hF,hX,f3,f4,hu,hlv,fl,hb,e1,J4];exact WL.to ih (by simp[bW,hT,hPl,hU,J4,e1,D2,D1]) rfl λx e J' hh=>by simpa[rC,bW,hT,hPl,hU,J4]using hh
   .have hb:((i:Int) == 0)=false:=by simp[hi0]
    obtain⟨g1,g2⟩:=Zg (l:=(M.take i).map (pO b w lv u)) (v:=pO b w lv u m) (λh=>hi0 (by have:=congrArg List.length h;rw[bH,bY,bd]at this;omega));simp[-List.map_take,bW,h1,a1,h4,hT,hPl,hU,hP,f1,f2,w1,t1,q1,q2,hyl,hw,lI,hV,hJ,hF,hX,f3,f4,hu,hlv,fl,hb,J4];exact WL.to ih (by simp[-List.map_take,bW,hT,hPl,hU,J4,g1,g2]) rfl λx e J' hh=>by simpa[rC,bW,hT,hPl,hU,J4]using hh
theorem aa6{n:Nat}{b:Bk}{w lv u price:Int}(hK:Kr n b)(hn:n<=1000000)(hJ:J≠[]):
  Cl 70 [.agg (bW b),.bZ 4 [iI w,iI lv,iI u,iI price]] (gr (ni b w lv u price)) J:=by
 refine ar ?_;have hS:=λJ=>NX (J:=J) (b:=b) hK.kv.ml
 have hnp:=fS (f:=pE) b.az;by_cases c1:cj b.aj=[]
 .have hd:ni b w lv u price=(b,8):=by unfold ni;rw[if_pos (.inl c1)]
  rw[hd];simp[c1]at hS;simp only[bW]at hS;simp[bW,hS,gr];exact cN (b:=b) rfl
 by_cases c2:b.az=[]
 .have hd:ni b w lv u price=(b,8):=by unfold ni;rw[if_pos (.inr c2)]
  have hE:nl pE b.az=.bu:=by simp[nl,c2]
  rw[hd];simp[c1]at hS;simp only[bW,hE]at hS;simp[bW,hE,hS,gr];exact cN (b:=b) (by simp[bW,hE])
 have hne:=OD c1;have hv:=hK.valid hne;have ht:=(Bv.of hv).c9;have htn:=uT ht;have hT:=fI (f:=Rw.enc) htn;have hP:=fI (f:=pE) c2;simp[c1]at hS;simp only[bW,hT,hP]at hS;have hnw:=fS (f:=bA.enc) b.aR.aw;have hnu:=fS (f:=jD.enc) b.cp;have hwl:=(Bv.of hv).aw;have htl:=Ko (.inr ht);have hul:=hK.kv.cp;have w1:=cm (n:=(b.aR.aw.length:Int)-1);have w2:=cm (n:=(b.aR.c9.length:Int)-1);have w3:=cm (n:=(b.cp.length:Int)-1);have hq:((b.az.length:Int) == 0)=false:=by have:=aH.2 c2;rw[beq_eq_false_iff_ne];omega
 by_cases c3:E3 b w lv u price=true
 case neg =>
  have hd:ni b w lv u price=(b,2):=by unfold ni;rw[if_neg (by simp[c1,c2]),if_neg c3]
  rw[hd];unfold E3 at c3;cases k1:bF w 0 ((b.aR.aw.length:Int)-1)
  .simp[bW,hT,hP,hS,hq,hnw,w1,dw,k1,gr];exact cN (b:=b) (by simp[bW,hT,hP])
  cases k2:bF lv 0 ((b.aR.c9.length:Int)-1)
  .simp[bW,hT,hP,hS,hq,hnw,w1,w2,dw,k1,k2,gr];exact cN (b:=b) (by simp[bW,hT,hP])
  cases k3:bF u 0 ((b.cp.length:Int)-1)
  .simp[bW,hT,hP,hS,hq,hnw,hnu,w1,w2,w3,dw,k1,k2,k3,gr];exact cN (b:=b) (by simp[bW,hT,hP])
  cases k4:bF price 0 1000
  .simp[bW,hT,hP,hS,hq,hnw,hnu,w1,w2,w3,dw,k1,k2,k3,k4,gr];exact cN (b:=b) (by simp[bW,hT,hP])
  exact absurd (by rw[k1,k2,k3,k4];rfl) c3
 have hd:ni b w lv u price=if wx b w lv u=0 then(Rr b w price (pv b w lv u),0)else(b,wx b w lv u):=by unfold ni;rw[if_neg (by simp[c1,c2]),if_pos c3]
 rw[hd];simp only[E3,ah]at c3;obtain⟨k1,k2,k3,k4⟩:=c3;have i1:=aQ.1 k1;have i2:=aQ.1 k2;have i3:=aQ.1 k3;have i4:=aQ.1 k4;obtain⟨w,rfl⟩:∃n:Nat,w=n:=⟨w.toNat,by omega⟩;obtain⟨lv,rfl⟩:∃n:Nat,lv=n:=⟨lv.toNat,by omega⟩;obtain⟨u,rfl⟩:∃n:Nat,u=n:=⟨u.toNat,by omega⟩;have hLf:=λJ hJ=>NU (J:=J) (b:=b) hK.kv.ml hJ
 simp only[bW,hT,hP]at hLf;have hML:(gY b.aj).length<=40:=by have:=LB b.aj;have:=hK.kv.ml;omega
 have hL:=TY (J:=[]::J) (b:=b) (M:=gY b.aj) (w:=w) (lv:=lv) (u:=u) (price:=price) (R:=bW b) rfl hK ht c2 (by
  intro m hm;obtain⟨e,he,hl,rfl⟩:=Ns hm;exact⟨(hK.kv.fit e he).1,hK.kv.AQ e he hl⟩) hML (by simp) (by omega) (by omega) (by omega) (gY b.aj).length 0 (by omega)
 have hz:b8 (vp b w lv u) (gY b.aj)=wx b w lv u:=by simp only[wx,Int.toNat_natCast];exact GN
 have hws:(gY b.aj).map (pO b w lv u)=pv b w lv u:=by simp[pv,gY]
 rw[aC,hz,hws]at hL;simp[bW,hT,hP,hS,hq,hnw,hnu,w1,w2,w3,dw,k1,k2,k3,k4,hLf];refine WL.to hL (by simp[bW,hT,hP,zS,J4,D2,D1]) rfl ?_;rintro x e J' ⟨rfl,h⟩;by_cases c4:wx b w lv u=0
 case neg =>
  rw[if_neg c4]at h ⊢;obtain⟨rfl,g4,g5⟩:=h;simp[g4,g5,fT,eI,gr];exact cN (b:=b) rfl
 rw[if_pos c4]at h ⊢;obtain⟨rfl,g1,g2,g4,g7⟩:=h;have hbs:∀x∈pv b w lv u,0<=x/\x<=1000000000:=by
  intro x hx;simp only[pv,bI,Int.toNat_natCast]at hx;obtain⟨e,he,rfl⟩:=hx;simp only[wx,Int.toNat_natCast]at c4;exact O8 (by omega) hK.kv.uok (qq c4 e he)
 obtain⟨⟨m1,m2⟩,m3,m4⟩:=Zh (by omega) hbs;have hgen:∀lo hi,D2 (pv b w lv u)=lo->D1 (pv b w lv u)=hi->Rr b w price (pv b w lv u)={b with cA:=b.cA++[⟨b.az.length,w,lo,hi,lo*price,hi*price⟩] }:=by rintro _ _ rfl rfl;rfl
 generalize hlo:D2 (pv b w lv u)=lo at *
 generalize hhi:D1 (pv b w lv u)=hi at *
 rw[hgen lo hi rfl rfl];have p1:0<=lo*price:=bB m1 i4.1;have p2:lo*price<=1000000000*1000:=ct m2 i4.2 i4.1 (by omega);have p3:0<=hi*price:=bB m3 i4.1;have p4:hi*price<=1000000000*1000:=ct m4 i4.2 i4.1 (by omega);have w4:=cm (n:=lo*price);have w5:=cm (n:=hi*price);have hsl:=hK.kv.cA;have l1:=UR b.cA;have l2:(fM b.cA GG.enc).take (b.cA.length*6)=fM b.cA GG.enc:=af (by omega);have⟨r1,r2,r3⟩:b.cA.length*48<=room/\(b.cA.length+1)*48<=room/\48<=room:=by unfold room;omega
 by_cases hm:b.cA=[]
 .simp[g1,g2,g4,g7,J4,hlo,hhi,bW,hm,ES,r3,w4,w5,zS,gr];exact EZ (b:=b) (b':={b with cA:=[⟨b.az.length,w,lo,hi,lo*price,hi*price⟩] }) 17 6 (λ_=>rfl) ae8 [⟨b.az.length,w,lo,hi,lo*price,hi*price⟩] 0 0 1 hJ rfl rfl rfl (by simp) (by simp[bW,nl])
 .have e1:=fI (f:=GG.enc) hm;simp[g1,g2,g4,g7,J4,hlo,hhi,bW,hm,e1,l1,l2,r1,r2,w4,w5,zS,gr];exact EZ (b:=b) (b':={b with cA:=b.cA++[⟨b.az.length,w,lo,hi,lo*price,hi*price⟩] }) 17 6 (λ_=>rfl) ae8 (b.cA++[⟨b.az.length,w,lo,hi,lo*price,hi*price⟩]) 0 1 (b.cA.length+1) hJ rfl rfl (by simp) (by simp) (by simp[bW,IW])
end
section
open Go Go.Abs Go.Rock Go.Book
def z0(e:dU):dU:={e with Of:=0 }
def nmB(b:Bk):Bk:={b with aj:=b.aj.map z0,eg:=[],at_:=0 }
theorem afw(l:List dU):(l.map z0).map z0=l.map z0:=by
 rw[List.map_map];rfl
theorem aiY(b:Bk):nmB (nmB b)=nmB b:=by
 simp only[nmB,afw]
def SmQ(x y:Bk×Int):Prop:=x.2=y.2/\nmB x.1=nmB y.1
theorem SmQ.ite{c:Prop}{_:Decidable c}{x y x' y':Bk×Int}(h1:c->SmQ x x')(h2:¬c->SmQ y y'):SmQ (if c then x else y) (if c then x' else y'):=by
 by_cases h:c
 .rw[if_pos h,if_pos h];exact h1 h
 .rw[if_neg h,if_neg h];exact h2 h
theorem SmQ.no(b:Bk)(e:Int):SmQ (b,e) (nmB b,e):=⟨rfl,(aiY b).symm⟩
def yj:List (List UInt8)->List Int->List (List UInt8)
 |s::l,e::r=>if e=0 then s::yj l r else yj l r
 |_,_=>[]
theorem Ka:∀{l:List (List UInt8)} {r:List Int},(yj l r).length<=l.length
 |[],_=>by simp[yj]
 |_::_,[]=>by simp[yj]
 |x::l,e::r=>by
  have:=Ka (l:=l) (r:=r);simp only[yj];split<;>simp<;>omega
end
end Go.Proofs.YtpapbbojmclkgaaGreatDoor
namespace Go.Book
open Go Go.Abs Go.Rock
def HR(c:UInt8):Prop:=48<=c.toNat/\c.toNat<=57
instance (c:UInt8):Decidable (HR c):=by unfold HR;infer_instance
def pP:Nat->List UInt8->Option Nat
 |n,[]=>some n
 |n,c::s=>if HR c then pP (10*n+(c.toNat-48)) s else none
def Af(minus:Bool)(d:List UInt8):Option Int :=
 if d.length=0\/9<d.length\/(d.head?=some 48/\(1<d.length\/minus=true))then none
 else(pP 0 d).map λn:Nat=>(if minus=true then -(n:Int)else(n:Int))
def Dz(s:List UInt8):Option Int:=if s.head?=some 45 then Af true (s.drop 1)else Af false s
theorem K9:∀{a b:List UInt8} {n:Nat},pP n (a++b)=(pP n a).bind λm=>pP m b
 |[],b,n=>rfl
 |c::a,b,n=>by
  simp only[cC,pP];split
  .exact K9
  .rfl
theorem CT:∀{s:List UInt8} {n m k:Nat},pP n s=some m->n<10^k->m<10^(k+s.length)
 |[],n,m,k,h,hn=>by simp only[pP,ae]at h;subst h;simpa using hn
 |c::s,n,m,k,h,hn=>by
  simp only[pP]at h;split at h
  .rename_i hd;have hd2:=hd.2;have:=CT (k:=k+1) h (by rw[Nat.pow_succ];omega);simpa[dI,Nat.add_comm 1]using this
  .cases h
theorem La:∀{s:List UInt8} {n m:Nat},pP n s=some m->m<1844674407370955161->Lib.parseUint10 n s=.ok m
 |[],n,m,h,hm=>by simp only[pP,ae]at h;subst h;rfl
 |c::s,n,m,h,hm=>by
  simp only[pP]at h;split at h
  .rename_i hd;have hle:∀{s:List UInt8} {n m:Nat},pP n s=some m->n<=m:=by
    intro s;induction s with
    |nil=>intro n m h;simp only[pP,ae]at h;omega
    |cons c s ih =>
     intro n m h;simp only[pP]at h;split at h
     .have:=ih h;omega
     .cases h
   have h1:=hle h;have h2:=La h hm;unfold Lib.parseUint10;have hd2:=hd.2;have hd1:=hd.1;rw[if_pos (show 48<=c.toNat/\c.toNat<=57 from hd),if_neg (by omega),if_neg (by omega),<- h2];congr 1;omega
  .cases h
theorem YG{k:Nat}(hk:k<10):HR (UInt8.ofNat (48+k))/\(UInt8.ofNat (48+k)).toNat-48=k:=by
 have:(UInt8.ofNat (48+k)).toNat=48+k:=UInt8.toNat_ofNat_of_lt' (by simp[UInt8.size];omega);unfold HR;omega
theorem YF{c:UInt8}(h:HR c):UInt8.ofNat (48+(c.toNat-48))=c:=by
 have:=h.1;rw[show 48+(c.toNat-48)=c.toNat by omega];simp
theorem Om:∀{k u:Nat},u<10^k->0<k->pP 0 (tR k u)=some u
 |0,u,h,hk=>by omega
 |k+1,u,h,hk=>by
  unfold tR;split
  .rename_i hu;have h1:=YG hu;simp only[pP,if_pos h1.1,h1.2,Nat.mul_zero,cz]
  .rename_i hu;have hk':0<k:=by
    rcases Nat.eq_zero_or_pos k with rfl | h0
    .simp at h;omega
    .exact h0
   have hd:=YG (k:=u%10) (Nat.mod_lt _ (by omega));rw[K9,Om (k:=k) (u:=u / 10) (by rw[Nat.pow_succ]at h;omega) hk'];simp only[Option.bind_some,pP,if_pos hd.1,hd.2,ae];omega
theorem So:∀{k u:Nat},0<k->tR k u≠[]
 |0,u,hk=>by omega
 |k+1,u,hk=>by
  unfold tR;split<;>simp
theorem On:∀{k u m:Nat},u<10^m->0<m->(tR k u).length<=m
 |0,u,m,h,hm=>by simp[tR]
 |k+1,u,m,h,hm=>by
  unfold tR;split
  .simp;omega
  .rename_i hu;obtain⟨j,rfl⟩:∃j,m=j+1:=⟨m-1,by omega⟩;have hj:0<j:=by
    rcases Nat.eq_zero_or_pos j with rfl | h0
    .simp at h;omega
    .exact h0
   have:=On (k:=k) (u:=u / 10) (m:=j) (by rw[Nat.pow_succ]at h;omega) hj;simp;omega
theorem K7:∀{k u:Nat},u<10^k->(tR k u).head?=some 48->u=0
 |0,u,h,hh=>by simp[tR]at hh
 |k+1,u,h,hh=>by
  unfold tR at hh;split at hh
  .rename_i hu;simp only[List.head?_cons,ae]at hh;have:=congrArg UInt8.toNat hh;simp at this;omega
  .rename_i hu;have hk:0<k:=by
    rcases Nat.eq_zero_or_pos k with rfl | h0
    .simp at h;omega
    .exact h0
   have h1:(tR k (u / 10)).head?=some 48:=by
    cases hd:tR k (u / 10)with
    |nil=>exact absurd hd (So hk)
    |cons c r=>rw[hd]at hh;simpa using hh
   have:=K7 (k:=k) (u:=u / 10) (by rw[Nat.pow_succ]at h;omega) h1;omega
theorem Uh:∀{d:List UInt8} {n k:Nat},pP 0 d=some n->d≠[]->(d.head?=some 48->d.length=1)->d.length<=k->tR k n=d:=by
 intro d;induction hl:d.length using Nat.strongRecOn generalizing d with
 |ind m ih =>
  intro n k h hne hz hk;obtain⟨d',c,rfl⟩:∃d' c,d=d'++[c]:=⟨d.dropLast,d.getLast hne,(List.dropLast_concat_getLast hne).symm⟩;rw[K9]at h;cases h1:pP 0 d' with
  |none=>rw[h1]at h;cases h
  |some q =>
   rw[h1]at h;simp only[Option.bind_some,pP]at h;split at h
   .rename_i hc;simp only[ae]at h;have hc2:=hc.2;obtain⟨k,rfl⟩:∃j,k=j+1:=⟨k-1,by simp at hl;omega⟩;by_cases hd:d'=[]
    .subst hd;simp only[pP,ae]at h1;subst h1;have hn:n=c.toNat-48:=by omega
     subst hn;unfold tR;rw[if_pos (by have:=hc.1;omega),YF hc];rfl
    .have hh:(d'++[c]).head?=d'.head?:=by
      cases d' with
      |nil=>exact absurd rfl hd
      |cons x r=>rfl
     have hz':d'.head?=some 48->d'.length=1:=by
      intro h2;have h5:=hz (by rw[hh];exact h2);have hp:=aH.2 hd;rw[<- hl,aV]at h5;simp only[aE,bd]at h5;omega
     have hnz:d'.head? ≠ some 48:=by
      intro h2;have h5:=hz (by rw[hh];exact h2);have hp:=aH.2 hd;rw[<- hl,aV]at h5;simp only[aE,bd]at h5;omega
     have ih1:=ih d'.length (by simp at hl;omega) rfl (n:=q) (k:=k) h1 hd hz' (by simp at hl;omega);have hq:q≠0:=by
      intro h2;subst h2;rw[<- ih1]at hnz;have hkp:0<k:=by have:=aH.2 hd;simp at hl;omega
      obtain⟨j,rfl⟩:∃j,k=j+1:=⟨k-1,by omega⟩;simp[tR]at hnz
     unfold tR;have e1:n / 10=q:=by omega
     have e2:n%10=c.toNat-48:=by omega
     rw[if_neg (by omega),e1,e2,ih1,YF hc]
   .cases h
theorem M4{d:List UInt8}{n:Nat}(h:pP 0 d=some n)(hne:d≠[])(hn:n<=999999999):
  sh d=(0,(n:Int))/\sh (45::d)=(0,-(n:Int)):=by
 have hp:=La h (by omega);have hm:Lib.parseMag d=.ok n:=by unfold Lib.parseMag;rw[if_neg hne];exact hp
 constructor
 .unfold sh Lib.atoiAll;cases d with
  |nil=>exact absurd rfl hne
  |cons c r =>
   have hc:HR c:=by
    simp only[pP]at h;split at h
    .assumption
    .cases h
   have h1:=hc.1;have h2:=hc.2;simp only;rw[if_neg (by omega),hm];simp only;rw[if_neg (by omega),if_neg (by omega),if_neg (by omega)]
 .unfold sh Lib.atoiAll;simp only;rw[if_pos (Or.inr (by decide)),hm];simp only;rw[if_neg (by simp),if_neg (by omega),if_pos (by decide)]
theorem Wc(s:List UInt8):GW s=Dz s:=by
 have key:∀n,Dz s=some n->GW s=some n:=by
  intro n h;unfold Dz at h;split at h
  .rename_i hm;obtain⟨d,rfl⟩:∃d,s=45::d:=by
    cases s with
    |nil=>simp at hm
    |cons c d=>simp at hm;subst hm;exact⟨d,rfl⟩
   simp only[List.drop_succ_cons,aC]at h;unfold Af at h;split at h
   .cases h
   rename_i hc;simp only[not_or,not_and]at hc;simp only[ad]at h;obtain⟨m,h1,h2⟩:=h;have hne:d≠[]:=by intro h3;subst h3;simp at hc
   have hb:=CT (k:=0) h1 (by decide);have hlt:m<10^9:=Nat.lt_of_lt_of_le hb (Nat.pow_le_pow_right (by decide) (by omega));have hd:=Uh (k:=20) h1 hne (λh3=>absurd trivial (hc.2.2 h3).2) (by omega);have hm0:m≠0:=by
    intro h3;subst h3;have:d.head?=some 48:=by rw[<- hd];rfl
    exact absurd trivial (hc.2.2 this).2
   obtain⟨_,ha⟩:=M4 h1 hne (by omega);unfold GW;rw[ha];have hi:iB (-(m:Int))=45::d:=by
    unfold iB;rw[if_pos (by omega),show(-(m:Int)).natAbs=m by omega,hd]
   rw[if_pos ⟨⟨rfl,hi⟩,by simp[bF];omega⟩];simpa using h2
  .rename_i hm;unfold Af at h;split at h
   .cases h
   rename_i hc;simp only[not_or,not_and]at hc;simp only[ad]at h;obtain⟨m,h1,h2⟩:=h;have hne:s≠[]:=by intro h3;subst h3;simp at hc
   have hb:=CT (k:=0) h1 (by decide);have hlt:m<10^9:=Nat.lt_of_lt_of_le hb (Nat.pow_le_pow_right (by decide) (by omega));have hd:=Uh (k:=20) h1 hne (λh3=>by have:=(hc.2.2 h3).1;have:=aH.2 hne;omega) (by omega);obtain⟨ha,_⟩:=M4 h1 hne (by omega);unfold GW;rw[ha];have hi:iB (m:Int)=s:=by
    unfold iB;rw[if_neg (by omega),show((m:Int)).toNat=m by omega,hd]
   rw[if_pos ⟨⟨rfl,hi⟩,by simp[bF];omega⟩];simpa using h2
 cases hn:GW s with
 |none =>
  cases hw:Dz s with
  |none=>rfl
  |some n=>rw[key n hw]at hn;cases hn
 |some n =>
  have h:=hn;unfold GW at h;split at h
  .rename_i hc;obtain⟨⟨_,h1⟩,h2⟩:=hc;simp only[ae]at h;rw[h]at h1 h2;simp only[bF,ah,aB]at h2;suffices Dz s=some n from this.symm
   rw[<- h1];unfold iB;split
   .rename_i hneg;have hlt:n.natAbs<10^9:=by omega
    have hd:=Om (k:=20) (u:=n.natAbs) (Nat.lt_trans hlt (by decide)) (by decide);have hl:=On (k:=20) (u:=n.natAbs) (m:=9) hlt (by decide);have hne:=So (k:=20) (u:=n.natAbs) (by decide);have hh:(tR 20 n.natAbs).head? ≠ some 48:=λh3=>by have:=K7 (Nat.lt_trans hlt (by decide)) h3;omega
    unfold Dz;rw[if_pos (show(45::tR 20 n.natAbs).head?=some 45 from rfl)];simp only[List.drop_succ_cons,aC];unfold Af;rw[if_neg (by simp only[not_or,not_and];exact⟨by have:=aH.2 hne;omega,by omega,λh3=>absurd h3 hh⟩),hd];simp;omega
   .rename_i hneg;have hlt:n.toNat<10^9:=by omega
    have hd:=Om (k:=20) (u:=n.toNat) (Nat.lt_trans hlt (by decide)) (by decide);have hl:=On (k:=20) (u:=n.toNat) (m:=9) hlt (by decide);have hne:=So (k:=20) (u:=n.toNat) (by decide);have hh:(tR 20 n.toNat).head? ≠ some 45:=by
     intro h3;cases hx:tR 20 n.toNat with
     |nil=>exact hne hx
     |cons c r =>
      rw[hx]at hd h3;simp at h3;subst h3;simp[pP,HR]at hd
    have hz:(tR 20 n.toNat).head?=some 48->¬1<(tR 20 n.toNat).length:=by
     intro h3;have h0:=K7 (Nat.lt_trans hlt (by decide)) h3;rw[h0];decide
    unfold Dz;rw[if_neg hh];unfold Af;rw[if_neg (by simp only[not_or,not_and];exact⟨by have:=aH.2 hne;omega,by omega,λh3=>⟨hz h3,by simp⟩⟩),hd];simp;omega
  .cases h
end Go.Book
namespace Go.Book
open Go Go.Abs
def bE(b:UInt8):List D:=[.int .u8 b.toNat]
theorem strCells_eq(s:List UInt8):strCells s=fM s bE:=by
 induction s with
 |nil=>rfl
 |cons b s ih=>simp only[strCells,aM,di,bE,cU]at ih ⊢;rw[ih]
def FC:Nat->List UInt8->Nat
 |n,[]=>n
 |n,c::s=>FC ((31*n+c.toNat)%65521) s
def MG(s:List UInt8):Nat:=FC 1 s
theorem Mc:∀{s:List UInt8} {n:Nat},n<65521->FC n s<65521
 |[],n,h=>h
 |c::s,n,h=>Mc (s:=s) (Nat.mod_lt _ (by omega))
theorem acT{s:List UInt8}:MG s<65521:=Mc (by omega)
def M5(n:Nat):UInt8:=UInt8.ofNat n
theorem Fe{n:Nat}(h:n<256):(M5 n).toNat=n:=by simp[M5];omega
def adt(n:Nat):List UInt8:=[M5 (n / 256),M5 (n%256),M5 (255-n / 256),M5 (255-n%256)]
def ad5(s:List UInt8):List UInt8:=[M5 (MG s / 256),M5 (MG s%256)]
def H5(s:List UInt8):List UInt8:=adt s.length++s++ad5 s
theorem Q4(s:List UInt8):(H5 s).length=s.length+6:=by simp[H5,adt,ad5]
def G9(l:List (List UInt8)):List UInt8:=fM l H5
end Go.Book
namespace Go.Proofs.YtpapbbojmclkgaaGreatDoor
section
open Go Go.Abs Go.Book
variable {J:SK}
def LI(l:List (List UInt8)):Prop:=l.length<=100/\∀s∈l,s.length<=4000
theorem Od(l:List UInt8):(fM l bE).length=l.length:=by have:=bQ (f:=bE) (w:=1) (λ_=>rfl) l;omega
theorem aiq{l:List UInt8}:D.aW (fM l bE)=true:=ef (f:=bE) (λx=>by simp[bE,D.clean]) l
theorem ah4{l:List UInt8}{i:Nat}{b:UInt8}(h:l[i]?=some b):((fM l bE).drop i).take 1=[.int .u8 b.toNat]:=by
 have:=aP (f:=bE) (w:=1) (λ_=>rfl) h;rwa[bJ]at this
theorem ah5(b:UInt8):b.toNat<256:=b.toNat_lt
theorem adb{s:List UInt8}(hl:s.length<=1000000):∀(m i n:Nat),i+m=s.length->n<65521 ->
  WL T [3,7,8,9] false nB [(3,iI n),(7,lF s bE),(8,iI s.length),(9,iI i)] J
   (λx e J'=>x=.exit 0/\J'=J/\get e 3=iI (FC n (s.drop i)))
 |0,i,n,hi,hn=>by
  refine av nB.eq_1 ?_;have h1:¬i<s.length:=by omega
  have h2:s.drop i=[]:=an (by omega);simp[h1,h2,FC]
 |m+1,i,n,hi,hn=>by
  refine av nB.eq_1 ?_;have h1:i<s.length:=by omega
  obtain⟨c,hc⟩:=gE h1;have a1:=ah4 hc;have h4:=bO h1;have hb:=ah5 c;have w0:IntKind.i64.wrap (c.toNat:Int)=c.toNat:=cm;have w1:=cm (n:=31*(n:Int));have w2:=cm (n:=31*(n:Int)+c.toNat);have w3:(31*(n:Int)+c.toNat).tmod 65521=(((31*n+c.toNat)%65521:Nat):Int):=by rw[Int.tmod_eq_emod_of_nonneg (by omega)];omega
  rw[bz hc,FC];simp[h1,a1,h4,w0,w1,w2,w3];exact WL.to (adb hl m (i+1) ((31*n+c.toNat)%65521) (by omega) (Nat.mod_lt _ (by omega))) (by simp) rfl λx e J' hh=>by simpa using hh
theorem aeB{s:List UInt8}(hl:s.length<=1000000):Cl 129 [.str s] (iI (MG s)) J:=by
 refine ar ?_;simp[WB,strCells_eq];refine WL.to (adb (J:=[]::J) hl s.length 0 1 (by omega) (by omega)) (by simp) rfl ?_;rintro x e J' ⟨rfl,rfl,g3⟩;simp[g3,MG]
theorem Xq{s:List UInt8}(hl:s.length<=4000)(hJ:J≠[]):dt T (.call false 86 [.str s] J)=some (.val (.bZ (H5 s).length (fM (H5 s) bE)) J):=by
 refine ar ?_;have hS:=λJ=>aeB (J:=J) (s:=s) (by omega)
 have hb:=acT (s:=s);obtain⟨h,hh⟩:∃h,h=s.length / 256:=⟨_,rfl⟩;obtain⟨lo,hlo⟩:∃h,h=s.length%256:=⟨_,rfl⟩;obtain⟨ch,hch⟩:∃h,h=MG s / 256:=⟨_,rfl⟩;obtain⟨cl,hcl⟩:∃h,h=MG s%256:=⟨_,rfl⟩;have hrec:H5 s=[M5 h,M5 lo,M5 (255-h),M5 (255-lo)]++s++[M5 ch,M5 cl]:=by rw[hh,hlo,hch,hcl];rfl
 have e8:(2:Int)^min 8 IntKind.i64.bits=256:=by decide
 have f1:(s.length:Int).fdiv 256=(h:Int):=by rw[Int.fdiv_eq_ediv_of_nonneg _ (by omega)];omega
 have f2:(MG s:Int).fdiv 256=(ch:Int):=by rw[Int.fdiv_eq_ediv_of_nonneg _ (by omega)];omega
 have w1:IntKind.u8.wrap (h:Int)=h:=wu8 (by omega);have w2:IntKind.u8.wrap (s.length:Int)=lo:=by
  show(s.length:Int)%256=_
  omega
 have w3:IntKind.u8.wrap (ch:Int)=ch:=wu8 (by omega);have w4:IntKind.u8.wrap (MG s:Int)=cl:=by
  show(MG s:Int)%256=_
  omega
 have y1:(M5 h).toNat=h:=Fe (by omega);have y2:(M5 lo).toNat=lo:=Fe (by omega);have y3:(M5 (255-h)).toNat=255-h:=Fe (by omega);have y4:(M5 (255-lo)).toNat=255-lo:=Fe (by omega);have y5:(M5 ch).toNat=ch:=Fe (by omega);have y6:(M5 cl).toNat=cl:=Fe (by omega);obtain⟨h',hh'⟩:∃x,x=255-h:=⟨_,rfl⟩;obtain⟨lo',hlo'⟩:∃x,x=255-lo:=⟨_,rfl⟩;have x1:=RI (n:=h) (by omega);have x2:=RI (n:=lo) (by omega);rw[<- hh']at x1 y3 hrec;rw[<- hlo']at x2 y4 hrec;have⟨r1,r2⟩:4+s.length<=room/\4+s.length+2<=room:=by unfold room;omega
 have hbl:=Od s;have q1:4+s.length<=s.length+1+1+1+1:=by omega
 have tk:List.take (4+s.length) (D.int .u8 h::.int .u8 lo::.int .u8 h'::.int .u8 lo'::fM s bE)=D.int .u8 h::.int .u8 lo::.int .u8 h'::.int .u8 lo'::fM s bE:=af (by simp only[aE,Od];omega);have hrl:(H5 s).length=4+s.length+2:=by rw[Q4];omega
 have hrE:fM (H5 s) bE=D.int .u8 h::.int .u8 lo::.int .u8 h'::.int .u8 lo'::(fM s bE++[.int .u8 ch,.int .u8 cl]):=by rw[hrec];simp[bE,y1,y2,y3,y4,y5,y6]
 have hk:=Go.Abs.gG (f:=bE) (w:=1) (λ_=>rfl) (λ_=>by simp[bE,D.clean]) (l:=H5 s) (j:=0) (v:=2) (bs:=[.cells 2 (fM (H5 s) bE)]) (J:=J) hJ (by simp);rw[hrl,hrE]at hk;rw[hrl,hrE];simp[ia,hS,e8,f1,f2,w1,w2,w3,w4,x1,x2,strCells_eq,r1,r2,hbl,q1,tk];exact⟨_,hk⟩
theorem MW{l:List (List UInt8)}(hl:LI l):∀(m i:Nat) (acc:List UInt8),i+m=l.length->acc.length<=4006*i ->
  WL T [2,5,6,7] false jJ [(2,.sl J.length 0 i 0 acc.length 1),(5,lF l cf),(6,iI l.length),(7,iI i)] ([.cells i (fM acc bE)]::J)
   (λx e J'=>x=.exit 0/\get e 2=.sl J.length 0 l.length 0 (acc++G9 (l.drop i)).length 1/\J'=[.cells l.length (fM (acc++G9 (l.drop i)) bE)]::J)
 |0,i,acc,hi,ha=>by
  refine av jJ.eq_1 ?_;obtain rfl:i=l.length:=by omega
  have h2:l.drop l.length=[]:=an (by omega);simp[h2,G9]
 |m+1,i,acc,hi,ha=>by
  refine av jJ.eq_1 ?_;have h1:i<l.length:=by omega
  obtain⟨s,hs⟩:=gE h1;have a1:=aP (f:=cf) (w:=1) (λ_=>rfl) hs;simp only[cf,bJ]at a1;have h4:=bO h1 (by have:=hl.1;omega);have hsl:=hl.2 s (ai hs);have hC:=λS hS=>Xq (J:=S) hsl hS
  have hrl:=Q4 s;have hbl:=Od acc;have hbl2:=Od (H5 s);have hr:acc.length+(H5 s).length<=room:=by have:=hl.1;unfold room;omega
  have tk:(fM acc bE).take acc.length=fM acc bE:=af (by omega);have ih:=MW hl m (i+1) (acc++H5 s) (by omega) (by simp;omega);rw[bz hs];have hbk:G9 (s::l.drop (i+1))=H5 s++G9 (l.drop (i+1)):=rfl;rw[hbk];simp[h1,a1,h4,hC,hr,hbl,hbl2,tk];exact WL.to ih (by simp) (by simp) λx e J' hh=>by simpa using hh
theorem Vx{l:List (List UInt8)}(hl:LI l)(hJ:J≠[]):Cl 61 [lF l cf] (lF (G9 l) bE) J:=by
 refine ar ?_;have hL:=MW (J:=J) hl l.length 0 [] (by omega) (by simp);simp;refine WL.to hL (by simp) (by simp) ?_;rintro x e J' ⟨rfl,g2,rfl⟩;simp only[aC,List.nil_append]at g2;have hk:=Go.Abs.gG (f:=bE) (w:=1) (λ_=>rfl) (λ_=>by simp[bE,D.clean]) (l:=G9 l) (j:=0) (v:=l.length) (bs:=[.cells l.length (fM (G9 l) bE)]) (J:=J) hJ (by simp);simp[g2,hk]
def afj:Elt (List UInt8):=⟨false,1,cf,λs => .str s,λ_=>rfl,λ_=>by simp[cf],λ_=>rfl,λ_=>rfl,λ_=>rfl⟩
theorem W7{s:List UInt8}:Cl 72 [.str s] (.bool (decide (4000<s.length))) J:=by
 refine ar ?_;have e:decide ((4000:Int)<(s.length:Int))=decide (4000<s.length):=by
  by_cases h:4000<s.length
  .rw[decide_eq_true h,decide_eq_true (by omega)]
  .rw[decide_eq_false h,decide_eq_false (by omega)]
 simp[ia,e]
def okB(l:List (List UInt8)):Bool:=decide (l.length<=100) && !mK l (λs=>decide (4000<s.length))
theorem wz{l:List (List UInt8)}(hl:l.length<=1000000000):Cl 31 [lF l cf] (iI (if okB l then 0 else 3)) J:=by
 refine ar ?_;have hC:=λJ=>contains_of afj (T:=T) (f:=71) (i:=110) (l:=l) (p:=λs=>decide (4000<s.length)) (fv:=.fn 72 [] []) rfl rfl (by omega) (pA.fn λs _ J=>W7) (J:=J)
 have hC':∀J,Cl 71 [lF l cf,.fn 72 [] []] (.bool (mK l (λs=>decide (4000<s.length)))) J:=hC;unfold okB;by_cases h1:l.length<=100
 .have h2:¬(100:Int)<l.length:=by omega
  cases h3:mK l (λs=>decide (4000<s.length))<;>rw[h3]at hC'<;>simp[h1,h2,hC']
 .have h2:(100:Int)<l.length:=by omega
  simp[h1,h2]
theorem Dm{l:List (List UInt8)}:okB l=true↔LI l:=by
 unfold okB LI;simp only[ah,aB,dV];constructor
 .rintro⟨h1,h2⟩;refine⟨h1,λs hs=>?_⟩;by_cases h:s.length<=4000
  .exact h
  .have h3:mK l (λs=>decide (4000<s.length))=true:=Qd.2 ⟨s,hs,show decide (4000<s.length)=true from decide_eq_true (by omega)⟩;rw[h2]at h3;cases h3
 .rintro⟨h1,h2⟩;refine⟨h1,?_⟩;cases h:mK l (λs=>decide (4000<s.length))with
  |false=>rfl
  |true =>
   obtain⟨s,hs,h3⟩:=Qd.1 h;have:=h2 s hs;simp only[aB]at h3;omega
theorem aaE{l:List (List UInt8)}(hl:l.length<=1000000000)(hJ:J≠[]):
  Cl 30 [lF l cf] (.cQ [if okB l then lF (G9 l) bE else .bu,iI (if okB l then 0 else 3)]) J:=by
 refine ar ?_;have h1:=λJ=>wz (J:=J) hl
 cases hc:okB l
 .rw[hc]at h1;simp[h1]
 .rw[hc]at h1;have h2:=λS hS=>Vx (J:=S) (Dm.1 hc) hS
  simp[h1,h2,aiq]
theorem aen{l:List (List UInt8)}(hl:l.length<=1000000000)(hJ:J≠[]):Cl 11 [lF l cf] (lF l cf) J:=by
 refine ar ?_;have hr:l.length*16<=room:=by unfold room;omega
 have hfl:(fM l cf).length=l.length:=by have:=bQ (f:=cf) (w:=1) (λ_=>rfl) l;omega
 simp[hfl,hr,ef (f:=cf) (λ_=>by simp[cf]) l]
theorem TW{l:List (List UInt8)}(hl:l.length<=1000000000):∀(m i:Nat),i+m=l.length ->
  WL T [0,3] false nO [(0,lF l cf),(3,iI i)] J
   (λx e J'=>J'=J/\if mK (l.drop i) (λs=>decide (4000<s.length))then x=.ret/\get e 2=.bool false else x=.exit 0/\get e 0=lF l cf)
 |0,i,hi=>by
  refine av nO.eq_1 ?_;obtain rfl:i=l.length:=by omega
  have h2:l.drop l.length=[]:=an (by omega);simp[h2,mK]
 |m+1,i,hi=>by
  refine av nO.eq_1 ?_;have h1:i<l.length:=by omega
  obtain⟨s,hs⟩:=gE h1;have a1:=aP (f:=cf) (w:=1) (λ_=>rfl) hs;simp only[cf,bJ]at a1;have h4:=bO h1;rw[bz hs];by_cases hc:4000<s.length
  .have hc':(4000:Int)<s.length:=by omega
   simp[ia,h1,a1,hc,hc',mK]
  .have hc':¬(4000:Int)<s.length:=by omega
   simp[ia,h1,a1,h4,hc',mK,hc];exact WL.to (TW hl m (i+1) (by omega)) (by simp) rfl λx e J' hh=>by simpa[mK,hc]using hh
theorem Vs{l:List (List UInt8)}(hl:l.length<=1000000000):Cl 12 [lF l cf] (.bool (okB l)) J:=by
 refine ar ?_;simp;refine WL.to (TW (J:=[]::J) hl l.length 0 (by omega)) (by simp) rfl ?_;rintro x e J' ⟨rfl,hh⟩;rw[aC]at hh;cases hc:mK l (λs=>decide (4000<s.length))
 .rw[hc,if_neg (by simp)]at hh;obtain⟨rfl,g0⟩:=hh;by_cases h1:l.length<=100
  .have h2:(l.length:Int)<=100:=by omega
   simp[g0,okB,hc,h1,h2]
  .have h2:¬(l.length:Int)<=100:=by omega
   simp[g0,okB,hc,h1,h2]
 .rw[hc,if_pos rfl]at hh;obtain⟨rfl,g2⟩:=hh;simp[g2,okB,hc]
theorem T4{d:List UInt8}{v:Bool}(hd:d.length<=9):∀(m i n:Nat),i+m=d.length->n<10^i ->
  WL T [4,5,6,7] false mu [(4,.bool v),(5,.str d),(6,.int .i64 n),(7,.int .i64 i)] J
   (λx e J'=>J'=J/\match pP n (d.drop i)with
    |some k=>x=.exit 0/\get e 4=.bool v/\get e 6=.int .i64 k
    |none=>x=.ret/\get e 2=.int .i64 0/\get e 3=.bool false)
 |0,i,n,hi,hn=>by
  refine av mu.eq_1 ?_;obtain rfl:i=d.length:=by omega
  have h2:d.drop d.length=[]:=an (by omega);simp[-List.map_take,ia,h2,pP]
 |m+1,i,n,hi,hn=>by
  refine av mu.eq_1 ?_;have h1:i<d.length:=by omega
  obtain⟨c,hc⟩:=gE h1;have hcg:d[i]=c:=by have:=aK h1;rw[hc]at this;exact(Option.some.inj this).symm
  have h4:=bO h1;rw[bz hc];have hp:10^(i+1)<=10^9:=Nat.pow_le_pow_right (by decide) (by omega);rw[Nat.pow_succ]at hp;have hb:=c.toNat_lt;by_cases h5:c.toNat<48
  .have h6:(c.toNat:Int)<48:=by omega
   have h7:¬HR c:=by unfold HR;omega
   simp[-List.map_take,ia,h1,hcg,h6,pP,h7]
  .have h6:¬(c.toNat:Int)<48:=by omega
   by_cases h8:57<c.toNat
   .have h9:(57:Int)<c.toNat:=by omega
    have h7:¬HR c:=by unfold HR;omega
    simp[-List.map_take,ia,h1,hcg,h6,h9,pP,h7]
   .have h9:¬(57:Int)<c.toNat:=by omega
    have h7:HR c:=by unfold HR;omega
    have w1:IntKind.i64.wrap (10*(n:Int))=((10*n:Nat):Int):=(cm).trans (by omega);have w2:IntKind.u8.wrap ((c.toNat:Int)-48)=((c.toNat-48:Nat):Int):=(wu8 (by omega)).trans (by omega);have w3:IntKind.i64.wrap ((c.toNat-48:Nat):Int)=((c.toNat-48:Nat):Int):=cm;have w4:IntKind.i64.wrap (10*(n:Int)+((c.toNat-48:Nat):Int))=10*(n:Int)+((c.toNat-48:Nat):Int):=cm;have ih:=T4 (v:=v) hd m (i+1) (10*n+(c.toNat-48)) (by omega) (by rw[Nat.pow_succ];omega);simp[-List.map_take,ia,h1,hcg,h6,h9,pP,w1,w2,w3,h4];exact WL.to ih (by simp[w4]) rfl λx e J' hh=>by rw[if_pos h7];exact hh
theorem abh{s:List UInt8}:Cl 87 [.str s] (.cQ [iI ((GW s).getD 0),.bool (GW s).isSome]) J:=by
 rw[Wc];refine ar ?_;obtain⟨v,d,hs⟩:∃(v:Bool) (d:List UInt8),(s=45::d/\v=true)\/(s=d/\v=false/\d.head? ≠ some 45):=by
  cases s with
  |nil=>exact⟨false,[],Or.inr ⟨rfl,rfl,by simp⟩⟩
  |cons c r =>
   by_cases h:c=45
   .subst h;exact⟨true,r,Or.inl ⟨rfl,rfl⟩⟩
   .exact⟨false,c::r,Or.inr ⟨rfl,rfl,by simpa using h⟩⟩
 have hw:Dz s=Af v d:=by
  rcases hs with⟨rfl,rfl⟩ | ⟨rfl,rfl,h⟩
  .rfl
  .unfold Dz;rw[if_neg h]
 rw[hw];have hL:=λh9=>T4 (J:=[]::J) (v:=v) (d:=d) h9 d.length 0 0 (by omega) (by decide)
 have hneg:∀k,pP 0 d=some k->d.length<=9->IntKind.i64.wrap (-(k:Int)) = -(k:Int):=λk hk h9=>by
  have h1:=CT (k:=0) hk (by decide);have h2:=Nat.lt_of_lt_of_le h1 (Nat.pow_le_pow_right (by decide) (show 0+d.length<=9 by omega));exact cm
 by_cases c1:d.length=0
 .obtain rfl:=bw.1 c1;rcases hs with⟨rfl,rfl⟩ | ⟨rfl,rfl,h⟩<;>simp[ia,Af]
 have⟨d1,hp,hp1,hp2,hp3⟩:¬(d.length:Int)=0/\0<d.length/\(0:Int)<d.length/\(0:Int)<(d.length:Int)+1/\(1:Int)<=(d.length:Int)+1:=by omega
 obtain⟨c,hc⟩:=gE hp;have hcg:d[0]=c:=by have:=aK hp;rw[hc]at this;exact(Option.some.inj this).symm
 have hh:d.head?=some c:=by rw[List.head?_eq_getElem?,hc]
 rw[hh]at hs;simp only[ne_eq,ae]at hs;by_cases c2:9<d.length
 .have d2:(9:Int)<d.length:=by omega
  rcases hs with⟨rfl,rfl⟩ | ⟨rfl,rfl,h⟩
  .simp[ia,Af,c1,c2,d2,hp3]
  .have h':¬c.toNat=45:=λh2=>h (UInt8.toNat_inj.1 h2)
   have h3:((c.toNat:Int) == 45)=false:=by simp;omega
   simp[ia,Af,c1,c2,d2,hp,hcg,h3]
 have d2:¬(9:Int)<d.length:=by omega
 have hcz:((c.toNat:Int) == 48)=decide (c=48):=by
  by_cases h:c=48
  .subst h;rfl
  .have h':¬c.toNat=48:=λh2=>h (UInt8.toNat_inj.1 h2)
   simp[h];omega
 have hL:=hL (by omega);rw[aC]at hL;have hone:(1<d.length)=((1:Int)<d.length):=propext ⟨λh=>by omega,λh=>by omega⟩;by_cases c3:c=48/\(1<d.length\/v=true)
 .have hn:Af v d=none:=by unfold Af;rw[hh,if_pos (Or.inr (Or.inr ⟨by rw[c3.1],c3.2⟩))]
  rw[hn];obtain⟨rfl,c4⟩:=c3;rw[hone]at c4;rcases hs with⟨rfl,rfl⟩ | ⟨rfl,rfl,h⟩
  .by_cases c5:(1:Int)<d.length<;>simp[ia,c1,d2,hp,hp3,hcg,c5]
  .have c4:(1:Int)<s.length:=by simpa using c4
   simp[ia,c1,d2,hp,hcg,c4]
 .have hn:Af v d=(pP 0 d).map λn:Nat=>(if v=true then -(n:Int)else(n:Int)):=by
   unfold Af;rw[hh,if_neg];rintro(h | h | ⟨h,h2⟩)
   .exact c1 h
   .exact c2 h
   .exact c3 ⟨by simpa using h,h2⟩
  rw[hn];rcases hs with⟨rfl,rfl⟩ | ⟨rfl,rfl,h⟩
  .have c4:¬c=48:=λh=>c3 ⟨h,Or.inr rfl⟩
   simp[ia,c1,d2,hp,hp3,hcg,hcz,c4];refine WL.to hL (by simp) rfl ?_;rintro x e J' ⟨rfl,hh⟩;cases hv:pP 0 d with
   |none=>rw[hv]at hh;obtain⟨rfl,g2,g3⟩:=hh;simp[g2,g3]
   |some k=>rw[hv]at hh;obtain⟨rfl,g4,g6⟩:=hh;simp[g4,g6,hneg k hv (by omega)]
  .have h':¬c.toNat=45:=λh2=>h (UInt8.toNat_inj.1 h2)
   have h3:((c.toNat:Int) == 45)=false:=by simp;omega
   have key:∀x e J',(J'=[]::J/\match pP 0 s with
    |some k=>x=Abs.Exit.exit 0/\get e 4=.bool false/\get e 6=.int .i64 k
    |none=>x=.ret/\get e 2=.int .i64 0/\get e 3=.bool false)->True:=λ_ _ _ _=>trivial
   by_cases c4:c=48
   .have c5:¬(1:Int)<s.length:=λh=>c3 ⟨c4,Or.inl (by omega)⟩
    subst c4;simp[ia,c1,d2,hp,hcg,c5];refine WL.to hL (by simp) rfl ?_;rintro x e J' ⟨rfl,hh⟩;cases hv:pP 0 s with
    |none=>rw[hv]at hh;obtain⟨rfl,g2,g3⟩:=hh;simp[g2,g3]
    |some k=>rw[hv]at hh;obtain⟨rfl,g4,g6⟩:=hh;simp[g4,g6]
   .simp[ia,c1,d2,hp,hcg,hcz,h3,c4];refine WL.to hL (by simp) rfl ?_;rintro x e J' ⟨rfl,hh⟩;cases hv:pP 0 s with
    |none=>rw[hv]at hh;obtain⟨rfl,g2,g3⟩:=hh;simp[g2,g3]
    |some k=>rw[hv]at hh;obtain⟨rfl,g4,g6⟩:=hh;simp[g4,g6]
end
section
open Go Go.Abs Go.Rock Go.Book
variable {J:SK}
def glue(c:List UInt8):List (List UInt8)->List (List UInt8)
 |[]=>[c]
 |x::l=>(c++x)::l
theorem QF{l:List (List UInt8)}(h:l≠[]):glue [] l=l:=by
 cases l with
 |nil=>exact absurd rfl h
 |cons x l=>rfl
theorem S9(b c:UInt8)(s:List UInt8):dr b (c::s)=if c=b then []::dr b s else glue [c] (dr b s):=by
 simp only[dr];split
 .rfl
 .cases dr b s<;>rfl
theorem VW(a b:List UInt8)(l:List (List UInt8)):glue a (glue b l)=glue (a++b) l:=by
 cases l<;>simp[glue]
theorem N7{s:List UInt8}(hs:s.length<=1000000):∀(m i fr:Nat) (cl:List (List UInt8)),i+m=s.length->fr<=i->cl.length<=i ->
  dr 32 s=cl++glue ((s.drop fr).take (i-fr)) (dr 32 (s.drop i)) ->
  WL T [0,6,7,8] false mm [(0,.str s),(6,.sl J.length 0 cl.length 0 (cl.length+1) 1),(7,iI fr),(8,iI i)] ([.cells cl.length (fM (cl++[[]]) cf)]::J)
   (λx e J'=>∃(cl:List (List UInt8)) (fr:Nat),fr<=s.length/\dr 32 s=cl++[s.drop fr]/\cl.length<=s.length/\x=.exit 0/\get e 0=.str s/\get e 6=.sl J.length 0 cl.length 0 (cl.length+1) 1/\get e 7=iI fr/\J'=[.cells cl.length (fM (cl++[[]]) cf)]::J)
 |0,i,fr,cl,hi,hf,hc,hsp=>by
  refine av mm.eq_1 ?_;obtain rfl:i=s.length:=by omega
  have h2:s.drop s.length=[]:=an (by omega);have h3:(s.drop fr).take (s.length-fr)=s.drop fr:=af (by simp);rw[h2,h3]at hsp;have h4:glue (s.drop fr) (dr 32 [])=[s.drop fr]:=by simp[dr,glue]
  rw[h4]at hsp;simp[ia];exact⟨cl,fr,hf,hsp,hc,by simp⟩
 |m+1,i,fr,cl,hi,hf,hc,hsp=>by
  refine av mm.eq_1 ?_;have h1:i<s.length:=by omega
  obtain⟨c,hcc⟩:=gE h1;have hcg:s[i]=c:=by have:=aK h1;rw[hcc]at this;exact(Option.some.inj this).symm
  have h4:=bO h1;have e1:((i+1:Nat):Int)=(i:Int)+1:=by omega
  rw[bz hcc,S9]at hsp;by_cases c1:c=32
  .subst c1;rw[if_pos rfl]at hsp;simp only[glue,cM]at hsp;have hw:IntKind.i64.wrap (((cl.length+1:Nat):Int)-1)=(cl.length:Int):=(cm).trans (by omega);have hw0:IntKind.i64.wrap (cl.length:Int)=(cl.length:Int):=cm;have hw1:(cl.length:Int)<(cl.length:Int)+1:=by omega
   have hfl:=bQ (f:=cf) (w:=1) (λ_=>rfl) cl;have hr:(cl.length+1+1)*16<=room:=by unfold room;omega
   rw[bJ]at hfl;have hd:((fM cl cf)++[D.str []]).drop (cl.length+1)=[]:=an (by rw[aV,hfl];simp);have ht:∀y:D,((fM cl cf)++[y]).take (cl.length+1)=(fM cl cf)++[y]:=λy=>af (by rw[aV,hfl];simp)
   have⟨hfi,hil⟩:(fr:Int)<=i/\(i:Int)<=s.length:=by omega
   have ih:=N7 hs m (i+1) (i+1) (cl++[(s.drop fr).take (i-fr)]) (by omega) (by omega) (by simp;omega) (by
    rw[Nat.sub_self,List.take_zero,QF (tO _ _),hsp];simp)
   simp[ia,h1,hcg,hw0,hw1,hfl,h4,hfi,hil,hr];exact WL.to ih (by simp) (by simp[hd,ht]) λx e J' hh=>hh
  .have h':¬c.toNat=32:=λh2=>c1 (UInt8.toNat_inj.1 h2)
   have h3:((c.toNat:Int) == 32)=false:=by simp;omega
   rw[if_neg c1,VW]at hsp;have ih:=N7 hs m (i+1) fr cl (by omega) (by omega) (by omega) (by
    rw[hsp];have:(s.drop fr).take (i+1-fr)=(s.drop fr).take (i-fr)++[c]:=by
     rw[show i+1-fr=(i-fr)+1 by omega,List.take_add_one,ea,show fr+(i-fr)=i by omega,hcc];rfl
    rw[this])
   simp[ia,h1,hcg,h3,h4];exact WL.to ih (by simp) (by simp) λx e J' hh=>hh
theorem J8{a nm:List UInt8}{ws r:List (List UInt8)}{v k:Nat}(hk:ws.drop k=r)(hr:k+r.length<=1000001):∀(m i:Nat) (acc:List Int),i+m=r.length->acc.length=i->m7 r=(m7 (r.drop i)).map (acc ++ ·) ->
  WL T [9,10,11,12,13] false mo [(9,.str a),(10,.sl J.length 0 v k r.length 1),(11,.str nm),(12,.sl J.length 1 acc.length 0 acc.length 1),(13,iI i)] ([.cells v (fM ws cf),.cells acc.length (fM acc aO)]::J)
   (λx e J'=>match m7 r with
    |some l=>x=.exit 2/\get e 9=.str a/\get e 11=.str nm/\get e 12=.sl J.length 1 l.length 0 l.length 1/\J'=[.cells v (fM ws cf),.cells l.length (fM l aO)]::J
    |none=>x=.ret/\get e 2=.str []/\get e 3=.str []/\get e 4=.bu/\get e 5=.bool false/\∃b,J'=b::J)
 |0,i,acc,hi,ha,hn=>by
  refine av mo.eq_1 ?_;obtain rfl:i=r.length:=by omega
  have h2:r.drop r.length=[]:=an (by omega);rw[h2]at hn;simp only[m7,bf,cM]at hn;simp[hn]
 |m+1,i,acc,hi,ha,hn=>by
  refine av mo.eq_1 ?_;have h1:i<r.length:=by omega
  obtain⟨s,hs⟩:=gE h1;have hs':ws[k+i]?=some s:=by rw[<- hk,ea]at hs;exact hs
  have hdr:=re (f:=cf) (w:=1) (λ_=>rfl) hs';simp only[bJ,cf,cU]at hdr;have h4:=bO h1;rw[bz hs]at hn;have hB:=λS=>abh (J:=S) (s:=s)
  cases hv:GW s with
  |none =>
   rw[hv]at hB;simp only[m7,hv,Option.map_none]at hn;simp[h1,hdr,hB,hn]
  |some n =>
   rw[hv]at hB;simp only[m7,hv,Option.map_map]at hn;have hfl:=bQ (f:=aO) (w:=1) (λ_=>rfl) acc;rw[bJ]at hfl;have tk:(fM acc aO).take i=fM acc aO:=af (by omega);have hrm:(i+1)*8<=room:=by unfold room;omega
   have ih:=J8 (a:=a) (nm:=nm) (v:=v) hk hr m (i+1) (acc++[n]) (by omega) (by simp[ha]) (by
    rw[hn];congr 1;funext l;simp)
   subst ha;simp[h1,hdr,hB,h4,hfl,tk,hrm];exact WL.to ih (by simp) (by simp[aO]) λx e J' hh=>hh
def qB(a:List UInt8)(n:Int):Bool :=
 if(a == [102,105,101,108,100] || (a == [114,101,97,100] || a == [115,101,108,108]))=true then n == 4
 else if(a == [98,101,100] || (a == [119,101,108,108] || a == [107,101,101,112]))=true then n == 3
 else if(a == [114,117,108,101])=true then n == 10
 else if(a == [116,97,98,108,101])=true then n.tmod 5 == 0
 else if(a == [113,117,97,107,101])=true then n.tmod 4 == 0
 else if(a == [108,111,103])=true then decide (3<=n) && n.tmod 2 == 1
 else if(a == [117,110,105,116])=true then n.tmod 2 == 1
 else a == [109,111,100,101,108] || a == [116,105,99,107]
def I0(a nm:List UInt8)(r:List (List UInt8)):D:=match m7 r with
 |some l => .cQ [.str a,.str nm,lF l aO,.bool (qB a l.length)]
 |none => .cQ [.str [],.str [],.bu,.bool false]
def Q5(a:List UInt8):List (List UInt8)->D
 |[] => .cQ [.str [],.str [],.bu,.bool false]
 |nm::r=>I0 a nm r
def OT(s:List UInt8):D:=match dr 32 s with
 |[] => .bu
 |a::all=>if(a == [109,111,100,101,108] || a == [108,111,103])=true then Q5 a all else I0 a [] all
theorem Tz{s:List UInt8}(hs:s.length<=1000000)(hJ:J≠[]):dt T (.call false 62 [.str s] J)=some (.val (OT s) J):=by
 refine ar ?_;simp[-List.map_take];refine WL.to (N7 (J:=J) hs s.length 0 0 [] (by omega) (by omega) (by simp[]) (by show dr 32 s=glue [] (dr 32 s);rw[QF (tO _ _)])) (by simp[]) (by simp[]) ?_;rintro x e J' ⟨cl,fr,hf,hsp,hc,rfl,g0,g6,g7,rfl⟩;have hw:IntKind.i64.wrap (((cl.length+1:Nat):Int)-1)=(cl.length:Int):=(cm).trans (by omega);have hw0:IntKind.i64.wrap (cl.length:Int)=(cl.length:Int):=cm;have hw1:(cl.length:Int)<(cl.length:Int)+1:=by omega
 have hfl:=bQ (f:=cf) (w:=1) (λ_=>rfl) cl;have hfs:(fr:Int)<=s.length:=by omega
 have hd:((fM cl cf)++[D.str []]).drop (cl.length+1)=[]:=an (by rw[aV,hfl];simp[]);obtain⟨a,all,ha⟩:∃a all,cl++[s.drop fr]=a::all:=by
  cases cl with
  |nil=>exact⟨_,_,rfl⟩
  |cons x l=>exact⟨_,_,rfl⟩
 have hal:all.length=cl.length:=by have:=congrArg List.length ha;simp[]at this;omega
 have hce:fM cl cf++D.str (s.drop fr)::((fM cl cf)++[D.str []]).drop (cl.length+1)=.str a::fM all cf:=by
  rw[hd];have:=congrArg (fM · cf) ha;simpa[rC,cf]using this
 have h1c:(1:Int)<=(cl.length:Int)+1:=by omega
 have hrp:OT s=if(a == [109,111,100,101,108] || a == [108,111,103])=true then Q5 a all else I0 a [] all:=by unfold OT;rw[hsp,ha]
 rw[hrp];have hfr:∀(b:List Abs.aF) (l:List Int) (nm:List UInt8) (x:Bool),b[1]?=some (.cells l.length (fM l aO))->∃S,cH (J.length-1) 16 (.cQ [.str a,.str nm,.sl J.length 1 l.length 0 l.length 1,.bool x]) (b::J)=(.cQ [.str a,.str nm,.bZ l.length (fM l aO),.bool x],S::J):=by
  intro b l nm x hb;have f0:=gG (n:=15) (f:=aO) (w:=1) (l:=l) (by decide) (λ_=>rfl) (λ_=>by simp[aO,D.clean]) hJ hb;have h1:∀(s:List UInt8) (S:SK),cH (J.length-1) 15 (.str s) S=(.str s,S):=λs S=>de rfl (by decide)
  have h2:∀(s:Bool) (S:SK),cH (J.length-1) 15 (.bool s) S=(.bool s,S):=λs S=>de rfl (by decide)
  refine⟨b.set 1 .dead,?_⟩;rw[pG (by simp[D.clean,D.aW]) (by omega)];simp only[ff,gj,Nat.reduceSub,h1,h2,f0]
 simp[-List.map_take,ia,g0,g6,g7,hw0,hw1,hfl,hfs,hce,h1c];clear hrp hce hd hsp;rw[<- hal];have hal2:all.length<=1000000:=by omega
 by_cases c1:a=[109,111,100,101,108]
 .subst c1;cases all with
  |nil=>simp[-List.map_take,Q5]
  |cons nm r =>
   have hr2:(2:Nat)+r.length<=1000001:=by simp[]at hal2;omega
   have hL:=J8 (J:=J) (a:=[109,111,100,101,108]) (nm:=nm) (ws:=[109,111,100,101,108]::nm::r) (r:=r) (k:=2) (v:=r.length+1) rfl hr2 r.length 0 [] (by omega) rfl (by simp[]);have hr0:¬(r.length:Int)+1=0:=by omega
   have hr1:(1:Int)<=(r.length:Int)+1:=by omega
   simp[-List.map_take,Q5,hr0,hr1];refine WL.to hL (by simp[]) (by simp[]) ?_;intro x e J' hh;unfold I0;cases hn:m7 r with
   |none=>rw[hn]at hh;obtain⟨rfl,g2,g3,g4,g5,b,rfl⟩:=hh;simp[g2,g3,g4,g5]
   |some l =>
    rw[hn]at hh;obtain⟨rfl,g9,g11,g12,rfl⟩:=hh;simp[-List.map_take,ia,g9,g11,g12,qB];exact hfr _ l nm true rfl
 by_cases c2:a=[108,111,103]
 .subst c2;cases all with
  |nil=>simp[-List.map_take,Q5]
  |cons nm r =>
   have hr2:(2:Nat)+r.length<=1000001:=by simp[]at hal2;omega
   have hL:=J8 (J:=J) (a:=[108,111,103]) (nm:=nm) (ws:=[108,111,103]::nm::r) (r:=r) (k:=2) (v:=r.length+1) rfl hr2 r.length 0 [] (by omega) rfl (by simp[]);have hr0:¬(r.length:Int)+1=0:=by omega
   have hr1:(1:Int)<=(r.length:Int)+1:=by omega
   simp[-List.map_take,Q5,hr0,hr1];refine WL.to hL (by simp[]) (by simp[]) ?_;intro x e J' hh;unfold I0;cases hn:m7 r with
   |none=>rw[hn]at hh;obtain⟨rfl,g2,g3,g4,g5,b,rfl⟩:=hh;simp[g2,g3,g4,g5]
   |some l =>
    rw[hn]at hh;obtain⟨rfl,g9,g11,g12,rfl⟩:=hh;by_cases h3:(3:Int)<=l.length
    .simp[-List.map_take,ia,g9,g11,g12,qB,h3];exact hfr _ l nm _ rfl
    .simp[-List.map_take,ia,g9,g11,g12,qB,h3];exact hfr _ l nm _ rfl
 have hr2:(1:Nat)+all.length<=1000001:=by omega
 have hL:=J8 (J:=J) (a:=a) (nm:=[]) (ws:=a::all) (r:=all) (k:=1) (v:=all.length) rfl hr2 all.length 0 [] (by omega) rfl (by simp[]);have c1':(a == [109,111,100,101,108])=false:=by simpa[rC]using c1
 have c2':(a == [108,111,103])=false:=by simpa[rC]using c2
 simp[-List.map_take,c1,c2];refine WL.to hL (by simp[]) (by simp[]) ?_;intro x e J' hh;unfold I0;cases hn:m7 all with
 |none=>rw[hn]at hh;obtain⟨rfl,g2,g3,g4,g5,b,rfl⟩:=hh;simp[g2,g3,g4,g5,c1,c2]
 |some l =>
  rw[hn]at hh;obtain⟨rfl,g9,g11,g12,rfl⟩:=hh;by_cases w0:a=[102,105,101,108,100]
  .subst w0;simp[-List.map_take,ia,g9,g11,g12,qB];exact hfr _ l [] _ rfl
  by_cases w1:a=[114,101,97,100]
  .subst w1;simp[-List.map_take,ia,g9,g11,g12,qB];exact hfr _ l [] _ rfl
  by_cases w2:a=[115,101,108,108]
  .subst w2;simp[-List.map_take,ia,g9,g11,g12,qB];exact hfr _ l [] _ rfl
  by_cases w3:a=[98,101,100]
  .subst w3;simp[-List.map_take,ia,g9,g11,g12,qB];exact hfr _ l [] _ rfl
  by_cases w4:a=[119,101,108,108]
  .subst w4;simp[-List.map_take,ia,g9,g11,g12,qB];exact hfr _ l [] _ rfl
  by_cases w5:a=[107,101,101,112]
  .subst w5;simp[-List.map_take,ia,g9,g11,g12,qB];exact hfr _ l [] _ rfl
  by_cases w6:a=[114,117,108,101]
  .subst w6;simp[-List.map_take,ia,g9,g11,g12,qB];exact hfr _ l [] _ rfl
  by_cases w7:a=[116,97,98,108,101]
  .subst w7;simp[-List.map_take,ia,g9,g11,g12,qB];exact hfr _ l [] _ rfl
  by_cases w8:a=[113,117,97,107,101]
  .subst w8;simp[-List.map_take,ia,g9,g11,g12,qB];exact hfr _ l [] _ rfl
  by_cases w9:a=[117,110,105,116]
  .subst w9;simp[-List.map_take,ia,g9,g11,g12,qB];exact hfr _ l [] _ rfl
  by_cases w10:a=[116,105,99,107]
  .subst w10;simp[-List.map_take,ia,g9,g11,g12,qB];exact hfr _ l [] _ rfl
  simp[-List.map_take,ia,g9,g11,g12,qB,c1,c2,w0,w1,w2,w3,w4,w5,w6,w7,w8,w9,w10];have hz:(a == [109,111,100,101,108] || a == [116,105,99,107])=false:=by simp[c1,w10]
  rw[hz];exact hfr _ l [] _ rfl
end
section
open Go Go.Abs Go.Rock Go.Book
theorem YN{a:List UInt8}{w:Wd}(h:(a,w)∈mJ){n:Nat}(hf:GO w n=true):qB a n=true:=by
 have t5:(n:Int).tmod 5=(n:Int)%5:=Int.tmod_eq_emod_of_nonneg (by omega);have t4:(n:Int).tmod 4=(n:Int)%4:=Int.tmod_eq_emod_of_nonneg (by omega);have t2:(n:Int).tmod 2=(n:Int)%2:=Int.tmod_eq_emod_of_nonneg (by omega);have t3:0<(n:Int)-3->((n:Int)-3).tmod 2=((n:Int)-3)%2:=λh=>Int.tmod_eq_emod_of_nonneg (by omega)
 have t1:0<(n:Int)-1->((n:Int)-1).tmod 2=((n:Int)-1)%2:=λh=>Int.tmod_eq_emod_of_nonneg (by omega)
 simp only[mJ,bx,au,List.not_mem_nil,or_false]at h;unfold GO at hf;simp only[cn,ah,aB]at hf;rcases h with⟨rfl,rfl⟩ | ⟨rfl,rfl⟩ | ⟨rfl,rfl⟩ | ⟨rfl,rfl⟩ | ⟨rfl,rfl⟩ | ⟨rfl,rfl⟩ | ⟨rfl,rfl⟩ | ⟨rfl,rfl⟩ | ⟨rfl,rfl⟩ | ⟨rfl,rfl⟩ | ⟨rfl,rfl⟩ | ⟨rfl,rfl⟩ | ⟨rfl,rfl⟩<;>
  simp only[Int.sub_zero,t5,t4]at hf<;>simp[qB,t5,t4,t2]<;>
  (try (rcases hf with hf | ⟨hf,hf2,hf3⟩<;>(try rw[t3 hf]at hf3)<;>(try rw[t1 hf]at hf3)<;>omega))
theorem ZH{s:List UInt8}{w:Wd}{nm:List UInt8}{l:List Int}(h:parse s=some (w,nm,l)):∃a,(a,w)∈mJ/\OT s=.cQ [.str a,.str nm,lF l aO,.bool true]:=by
 unfold parse at h;unfold OT;cases hsp:dr 32 s with
 |nil=>rw[hsp]at h;cases h
 |cons a all =>
  rw[hsp]at h;simp only at h ⊢;cases hw:yc a with
  |none=>rw[hw]at h;cases h
  |some v =>
   rw[hw]at h;simp only at h;have hm:=Co hw;have key:∀{nm':List UInt8} {r:List (List UInt8)},sc v nm' r=some (w,nm,l)->v=w/\I0 a nm' r=.cQ [.str a,.str nm,lF l aO,.bool true]:=by
    intro nm' r h;unfold sc at h;unfold I0;cases hn:m7 r with
    |none=>rw[hn]at h;cases h
    |some ns =>
     rw[hn]at h;simp only at h ⊢;split at h
     .rename_i hf;cases h;rw[YN hm hf];exact⟨rfl,rfl⟩
     .cases h
   have hnm:(a == [109,111,100,101,108] || a == [108,111,103])=v.named:=by
    have hm:=hm;simp only[mJ,bx,au,List.not_mem_nil,or_false]at hm;rcases hm with⟨rfl,rfl⟩ | ⟨rfl,rfl⟩ | ⟨rfl,rfl⟩ | ⟨rfl,rfl⟩ | ⟨rfl,rfl⟩ | ⟨rfl,rfl⟩ | ⟨rfl,rfl⟩ | ⟨rfl,rfl⟩ | ⟨rfl,rfl⟩ | ⟨rfl,rfl⟩ | ⟨rfl,rfl⟩ | ⟨rfl,rfl⟩ | ⟨rfl,rfl⟩<;>rfl
   rw[hnm];split at h
   .rename_i hv;rw[if_pos hv];cases all with
    |nil=>cases h
    |cons n r =>
     obtain⟨rfl,h2⟩:=key h;exact⟨a,hm,h2⟩
   .rename_i hv;rw[if_neg hv];obtain⟨rfl,h2⟩:=key h;exact⟨a,hm,h2⟩
theorem LP(a nm:List UInt8)(r:List (List UInt8)):∃x y d f,I0 a nm r=.cQ [.str x,.str y,d,.bool f]/\(d=.bu\/∃l:List Int,d=lF l aO):=by
 unfold I0;cases m7 r with
 |none=>exact⟨_,_,_,_,rfl,.inl rfl⟩
 |some l=>exact⟨_,_,_,_,rfl,.inr ⟨l,rfl⟩⟩
theorem Wj(s:List UInt8):∃x y d f,OT s=.cQ [.str x,.str y,d,.bool f]/\(d=.bu\/∃l:List Int,d=lF l aO):=by
 unfold OT;cases hsp:dr 32 s with
 |nil=>exact absurd hsp (tO _ _)
 |cons a all =>
  simp only;split
  .cases all with
   |nil=>exact⟨_,_,_,_,rfl,.inl rfl⟩
   |cons n r=>exact LP _ _ _
  .exact LP _ _ _
theorem Tp{b:Bk}(h:∀r∈b.rules,r.ok=true)(k:Nat)(nm:List UInt8)(l:List Int):∀r∈(jg b k nm l).1.rules,r.ok=true:=by
 unfold jg;split
 .split
  .unfold oq;split
   .split<;>exact h
   .exact h
  .exact h
 .unfold mc;split
  .split<;>exact h
  .exact h
 .split
  .unfold yG;split
   .exact h
   .split<;>exact h
  .exact h
 .split
  .unfold ua;split
   .split<;>exact h
   .exact h
  .exact h
 .unfold rp;split
  .split
   .exact h
   .split
    .split<;>exact h
    .exact h
  .exact h
 .split
  .unfold DF;split
   .exact h
   .split<;>exact h
  .exact h
 .unfold sT;split
  .split
   .split
    .rename_i h2;intro r hr;rcases aU.1 hr with hr | hr
     .exact h r hr
     .rw[List.mem_singleton.1 hr];exact h2
    .exact h
   .exact h
  .exact h
 .split
  .split<;>exact h
  .exact h
 .unfold pC;split
  .split<;>exact h
  .exact h
 .unfold mM;split
  .exact h
  .split
   .split
    .split
     .split<;>exact h
     .exact h
    .exact h
   .exact h
 .split
  .unfold pa;split
   .exact h
   .split
    .split<;>exact h
    .exact h
  .exact h
 .split
  .unfold tZ;split
   .split<;>exact h
   .exact h
  .exact h
 .split
  .unfold ni;split
   .exact h
   .split
    .split<;>exact h
    .exact h
  .exact h
 .exact h
end
section
open Go Go.Abs Go.Rock Go.Book
variable {J:SK}
theorem abI{a:List UInt8}{w:Wd}(h:(a,w)∈mJ){n:Nat}(hf:qB a n=true):GO w n=true:=by
 have t5:(n:Int).tmod 5=(n:Int)%5:=Int.tmod_eq_emod_of_nonneg (by omega);have t4:(n:Int).tmod 4=(n:Int)%4:=Int.tmod_eq_emod_of_nonneg (by omega);have t2:(n:Int).tmod 2=(n:Int)%2:=Int.tmod_eq_emod_of_nonneg (by omega);have t1:(n:Int).tmod 1=(n:Int)%1:=Int.tmod_eq_emod_of_nonneg (by omega);have t3:0<(n:Int)-3->((n:Int)-3).tmod 2=((n:Int)-3)%2:=λh=>Int.tmod_eq_emod_of_nonneg (by omega)
 have t6:0<(n:Int)-1->((n:Int)-1).tmod 2=((n:Int)-1)%2:=λh=>Int.tmod_eq_emod_of_nonneg (by omega)
 simp only[mJ,bx,au,List.not_mem_nil,or_false]at h;unfold GO;simp only[cn,ah,aB];rcases h with⟨rfl,rfl⟩ | ⟨rfl,rfl⟩ | ⟨rfl,rfl⟩ | ⟨rfl,rfl⟩ | ⟨rfl,rfl⟩ | ⟨rfl,rfl⟩ | ⟨rfl,rfl⟩ | ⟨rfl,rfl⟩ | ⟨rfl,rfl⟩ | ⟨rfl,rfl⟩ | ⟨rfl,rfl⟩ | ⟨rfl,rfl⟩ | ⟨rfl,rfl⟩<;>
  simp[qB,t5,t4,t2]at hf<;>simp only[Int.sub_zero,t5,t4,t1]<;>(try omega)
theorem Ll{s:List UInt8}:∀{l:List (List UInt8×Wd)},DR s l=none->∀p∈l,s≠p.1
 |[],_,p,hp=>by cases hp
 |(k,v)::l,h,p,hp=>by
  simp only[DR]at h;split at h
  .cases h
  .rename_i hne;rcases bx.1 hp with rfl | hp
   .exact hne
   .exact Ll h p hp
theorem ZG{s:List UInt8}(h:parse s=none):∃x y d,OT s=.cQ [.str x,.str y,d,.bool false]/\(d=.bu\/∃l:List Int,d=lF l aO):=by
 obtain⟨x,y,d,f,h1,h2⟩:=Wj s;cases f with
 |false=>exact⟨x,y,d,h1,h2⟩
 |true =>
  exfalso
  unfold parse at h;unfold OT at h1;cases hsp:dr 32 s with
  |nil=>exact absurd hsp (tO _ _)
  |cons a all =>
  rw[hsp]at h h1;simp only at h h1;have key:∀{nm:List UInt8} {r:List (List UInt8)},I0 a nm r=.cQ [.str x,.str y,d,.bool true]->∃ns,m7 r=some ns/\qB a ns.length=true:=by
   intro nm r hr;unfold I0 at hr;cases hn:m7 r with
   |none=>rw[hn]at hr;simp at hr
   |some ns=>rw[hn]at hr;simp at hr;exact⟨ns,rfl,hr.2.2.2⟩
  have fin:∃ns:List Int,qB a ns.length=true:=by
   split at h1
   .cases all with
    |nil=>simp[Q5]at h1
    |cons n r=>obtain⟨ns,_,h⟩:=key h1;exact⟨ns,h⟩
   .obtain⟨ns,_,h⟩:=key h1;exact⟨ns,h⟩
  cases hw:yc a with
  |none =>
   obtain⟨ns,hf⟩:=fin;have g:=Ll hw;simp only[mJ,List.forall_mem_cons,List.not_mem_nil,false_implies,implies_true,and_true]at g;obtain⟨g1,g2,g3,g4,g5,g6,g7,g8,g9,g10,g11,g12,g13⟩:=g;simp[qB,g1,g2,g3,g4,g5,g6,g7,g8,g9,g10,g11,g12,g13]at hf
  |some v =>
   rw[hw]at h;have hm:=Co hw;have hnm:(a == [109,111,100,101,108] || a == [108,111,103])=v.named:=by
    have hm:=hm;simp only[mJ,bx,au,List.not_mem_nil,or_false]at hm;rcases hm with⟨rfl,rfl⟩ | ⟨rfl,rfl⟩ | ⟨rfl,rfl⟩ | ⟨rfl,rfl⟩ | ⟨rfl,rfl⟩ | ⟨rfl,rfl⟩ | ⟨rfl,rfl⟩ | ⟨rfl,rfl⟩ | ⟨rfl,rfl⟩ | ⟨rfl,rfl⟩ | ⟨rfl,rfl⟩ | ⟨rfl,rfl⟩ | ⟨rfl,rfl⟩<;>rfl
   rw[hnm]at h1;simp only at h;have fin2:∀{nm:List UInt8} {r:List (List UInt8)},sc v nm r=none->I0 a nm r=.cQ [.str x,.str y,d,.bool true]->False:=by
    intro nm r hp hr;obtain⟨ns,hn,hf⟩:=key hr;unfold sc at hp;rw[hn]at hp;simp only at hp;rw[if_pos (abI hm hf)]at hp;cases hp
   split at h
   .rename_i hv;rw[if_pos hv]at h1;cases all with
    |nil=>simp[Q5]at h1
    |cons n r=>exact fin2 h h1
   .rename_i hv;rw[if_neg hv]at h1;exact fin2 h h1
theorem Kr.VD{n:Nat}{b:Bk}(h:Kr n b)(k:Int):Kr n {b with at_:=k }:=⟨h.kv.VD k,h.rok⟩
theorem aaX{b:Bk}{s:List UInt8}{k:Int}(hs:s.length<=4000)(hp:parse s=none):Cl 26 [.agg (bW b),iI k,.str s] (gr (b,4)) J:=by
 refine ar ?_;obtain⟨x,y,d,h1,h2⟩:=ZG hp;have hP:=λJ hJ=>Tz (J:=J) (s:=s) (by omega) hJ
 have hcl:=n8 (b:=b);rw[h1]at hP;rcases h2 with rfl | ⟨l,rfl⟩<;>simp[hP,hcl,fT,eI,gr]
theorem aer{n:Nat}{b:Bk}{s:List UInt8}{w:Wd}{nm:List UInt8}{l:List Int}(hK:Kr n b)(hn:n<=1000000)(hs:s.length<=4000)(hp:parse s=some (w,nm,l)):
  Cl 26 [.agg (bW b),iI b.at_,.str s] (gr (jg b w.k nm l)) J:=by
 refine ar ?_;obtain⟨_,hfit,hnm,hll⟩:=AO hp;obtain⟨a,ha,h1⟩:=ZH hp;have hP:=λJ hJ=>Tz (J:=J) (s:=s) (by omega) hJ
 rw[h1]at hP;have hcl:=n8 (b:=b);have hv:=hK.kv;have htl:=Ko hv.c9;have hbv:b.ready=true->Bv b.aR:=λh=>Bv.of (hv.ready h)
 have hwl:b.aR.aw.length<=8:=by
  cases hr:b.ready with
  |true=>exact(hbv hr).aw
  |false=>rw[hv.aw hr];simp
 have hrl:=hv.rules;have hel:=hv.lL;have hul:=hv.cp;have hml:=hv.ml;have nrdy:¬b.aR.valid=true->b.ready=false:=λh=>by
  cases hr:b.ready with
  |true=>exact absurd (hv.ready hr) h
  |false=>rfl
 simp only[mJ,bx,au,List.not_mem_nil,or_false]at ha;rcases ha with⟨rfl,rfl⟩ | ⟨rfl,rfl⟩ | ⟨rfl,rfl⟩ | ⟨rfl,rfl⟩ | ⟨rfl,rfl⟩ | ⟨rfl,rfl⟩ | ⟨rfl,rfl⟩ | ⟨rfl,rfl⟩ | ⟨rfl,rfl⟩ | ⟨rfl,rfl⟩ | ⟨rfl,rfl⟩ | ⟨rfl,rfl⟩ | ⟨rfl,rfl⟩
 .have hl:l.length=4:=by have h:(l.length:Int)=4:=uq hfit rfl;omega
  obtain⟨x,y,z,k,rfl⟩:=Nu hl;have hX:∀J,Cl 63 [.agg (bW b),.str E1,.bZ 4 [iI x,iI y,iI z,iI k]] (gr (jg b 0 nm [x,y,z,k])) J:=λJ=>Xr (by omega) λhz=>hv.aw (nrdy λh=>by have:=(Bv.of h).x;omega)
  simp only[gr,E1]at hX;simp[ia,hP,fT,eI,gr,hX];exact⟨_,lB⟩
 .have hl:=(AG hfit (by decide) (by decide)).2;simp only[Int.sub_zero]at hl;obtain⟨h5,h6⟩:=Oz (l.length / 5) (l:=l) (by omega);have hlen:(SC l).length*5=l.length:=by omega
  have hX:∀J,J≠[]->Cl 63 [.agg (bW b),.str I6,lF l aO] (gr (jg b 1 nm l)) J:=λJ hJ=>by
   try simp only[lF]
   rw[<- h5,<- hlen];exact Xy (by omega) (by omega) (λhz=>hv.aw (nrdy λh=>uT (Bv.of h).c9 hz)) hJ
  simp only[gr,I6]at hX;simp[ia,hP,fT,eI,gr,hX];exact⟨_,lB⟩
 .have hl:l.length=3:=by have h:(l.length:Int)=3:=uq hfit rfl;omega
  obtain⟨x,y,z,rfl⟩:=Nt hl;have hX:∀J,J≠[]->Cl 63 [.agg (bW b),.str LW,.bZ 3 [iI x,iI y,iI z]] (gr (jg b 2 nm [x,y,z])) J:=λJ hJ=>aeq (by omega) (by omega) hv.aw hJ
  simp only[gr,LW]at hX;simp[ia,hP,fT,eI,gr,hX];exact⟨_,lB⟩
 .have hl:l.length=3:=by have h:(l.length:Int)=3:=uq hfit rfl;omega
  obtain⟨x,y,z,rfl⟩:=Nt hl;have hX:∀J,J≠[]->Cl 63 [.agg (bW b),.str E2,.bZ 3 [iI x,iI y,iI z]] (gr (jg b 3 nm [x,y,z])) J:=λJ hJ=>aba (by omega) (by omega) (λhr=>uT (hbv hr).c9) hJ
  simp only[gr,E2]at hX;simp[ia,hP,fT,eI,gr,hX];exact⟨_,lB⟩
 .have hX:∀J,J≠[]->Cl 65 [.agg (bW b),.str nm,lF l aO] (gr (jg b 4 nm l)) J:=λJ hJ=>Xw (m:=⟨nm,l⟩) hv.ready (by omega) hv.wl (by simp;omega) (by simp;omega) hJ
  simp only[gr]at hX;simp[ia,hP,fT,eI,gr,hX];exact⟨_,lB⟩
 .obtain⟨hl1,hl2⟩:=AG hfit (by decide) (by decide);simp only at hl1 hl2;obtain⟨k,l,rfl,hl⟩:=xz (n:=l.length-1) (l:=l) (by omega);simp only[aE]at hl1 hl2 hll;obtain⟨lo,l,rfl,hl⟩:=xz (n:=l.length-1) (l:=l) (by omega);simp only[aE]at hl1 hl2 hll;obtain⟨hi,l,rfl,hl⟩:=xz (n:=l.length-1) (l:=l) (by omega);simp only[aE]at hl1 hl2 hll;obtain⟨h5,h6⟩:=HP (l.length / 2) (l:=l) (by omega);have hlen:(IJ l).length*2+3=l.length+1+1+1:=by omega
  have hX:∀J,J≠[]->Cl 66 [.agg (bW b),iI b.at_,.str nm,.bZ (l.length+1+1+1) (iI k::iI lo::iI hi::fM l aO)] (gr (jg b 5 nm (k::lo::hi::l))) J:=λJ hJ=>by
   try simp only[lF]
   rw[<- h5,<- hlen];exact aet (by omega) (by omega) hv.wl hml (λh=>(Bv.of (hK.valid h)).fv) (λe he=>Fm.of (Bv.of (hK.valid λh=>by rw[h]at he;cases he)).fv (LF (hK.valid λh=>by rw[h]at he;cases he) (hv.fit e he).1)) hJ
  simp only[gr]at hX;simp[ia,hP,fT,eI,gr,hX];exact⟨_,lB⟩
 .have hl:l.length=10:=by have h:(l.length:Int)=10:=uq hfit rfl;omega
  obtain⟨x0,x1,x2,x3,x4,x5,x6,x7,x8,x9,rfl⟩:=Y9 hl;have hX:∀J,J≠[]->Cl 64 [.agg (bW b),.str LY,.bZ 10 [iI x0,iI x1,iI x2,iI x3,iI x4,iI x5,iI x6,iI x7,iI x8,iI x9]] (gr (jg b 6 nm [x0,x1,x2,x3,x4,x5,x6,x7,x8,x9])) J:=λJ hJ=>aa5 (by omega) hJ
  simp only[gr,LY]at hX;simp[ia,hP,fT,eI,gr,hX];exact⟨_,lB⟩
 .have hl:l.length=3:=by have h:(l.length:Int)=3:=uq hfit rfl;omega
  obtain⟨x,y,z,rfl⟩:=Nt hl;have hX:∀J,Cl 64 [.agg (bW b),.str Rn,.bZ 3 [iI x,iI y,iI z]] (gr (jg b 7 nm [x,y,z])) J:=λJ=>aa2
  simp only[gr,Rn]at hX;simp[ia,hP,fT,eI,gr,hX];exact⟨_,lB⟩
 .have hl:=(AG hfit (by decide) (by decide)).2;simp only[Int.sub_zero]at hl;obtain⟨h5,h6⟩:=Oy (l.length / 4) (l:=l) (by omega);have hlen:(SB l).length*4=l.length:=by omega
  have hX:∀J,J≠[]->Cl 64 [.agg (bW b),.str LX,lF l aO] (gr (jg b 8 nm l)) J:=λJ hJ=>by
   try simp only[lF]
   rw[<- h5,<- hlen];exact Xx (by omega) (by omega) hJ
  simp only[gr,LX]at hX;simp[ia,hP,fT,eI,gr,hX];exact⟨_,lB⟩
 .have hX:∀J,J≠[]->Cl 67 [.agg (bW b),lF l aO] (gr (jg b 9 nm l)) J:=λJ hJ=>aa8 hK (by omega) hJ
  simp only[gr]at hX;simp[ia,hP,fT,eI,gr,hX];exact⟨_,lB⟩
 .have hl:l.length=4:=by have h:(l.length:Int)=4:=uq hfit rfl;omega
  obtain⟨w,i,lo,hi,rfl⟩:=Nu hl;have hX:∀J,J≠[]->Cl 68 [.agg (bW b),iI b.at_,.bZ 4 [iI w,iI i,iI lo,iI hi]] (gr (jg b 10 nm [w,i,lo,hi])) J:=λJ hJ=>aa4 hK hJ
  simp only[gr]at hX;simp[ia,hP,fT,eI,gr,hX];exact⟨_,lB⟩
 .obtain⟨hl1,hl2⟩:=AG hfit (by decide) (by decide);simp only at hl1 hl2;obtain⟨i,l,rfl,hl⟩:=xz (n:=l.length-1) (l:=l) (by omega);simp only[aE]at hl1 hl2 hll;obtain⟨h5,h6⟩:=HP (l.length / 2) (l:=l) (by omega);have hlen:((IJ l).map Mf).length*2+1=l.length+1:=by simp;omega
  have hX:∀J,J≠[]->Cl 69 [.agg (bW b),.bZ (l.length+1) (iI i::fM l aO)] (gr (jg b 11 nm (i::l))) J:=λJ hJ=>by
   rw[<- h5,<- hlen,<- UJ];exact aa9 (u:=⟨i,(IJ l).map Mf⟩) (by simp;omega) (by omega) hJ
  simp only[gr]at hX;simp[ia,hP,fT,eI,gr,hX];exact⟨_,lB⟩
 .have hl:l.length=4:=by have h:(l.length:Int)=4:=uq hfit rfl;omega
  obtain⟨w,lv,u,p,rfl⟩:=Nu hl;have hX:∀J,J≠[]->Cl 70 [.agg (bW b),.bZ 4 [iI w,iI lv,iI u,iI p]] (gr (jg b 12 nm [w,lv,u,p])) J:=λJ hJ=>aa6 hK hn hJ
  simp only[gr]at hX;simp[ia,hP,fT,eI,gr,hX];exact⟨_,lB⟩
theorem ahV{n:Nat}{b:Bk}{s:List UInt8}{k:Int}(hK:Kr n b)(hn:n<=1000000)(hs:s.length<=4000):Cl 26 [.agg (bW b),iI k,.str s] (gr (nh b k s)) J:=by
 unfold nh;cases hp:parse s with
 |none=>exact aaX hs hp
 |some p =>
  obtain⟨w,nm,l⟩:=p;exact aer (b:={b with at_:=k }) (hK.VD k) hn hs hp
end
end Go.Proofs.YtpapbbojmclkgaaGreatDoor
