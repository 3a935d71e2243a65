import Derived.Test.YtanhdobabijmoaaGreatDoorTxt4
set_option linter.all false
set_option maxRecDepth 100000
namespace Go.Proofs.YtanhdobabijmoaaGreatDoor
open List(length_flatMap map_take)
section
open Go Go.aA Go.aI Go.dk
variable {J:SK}
theorem O5:Hf=pE:=rfl
structure Sz(b:Bk):Prop where
 cn:b.bz.cn.length<=1000000000
 an:b.bz.an.length<=1000000
 ms:∀e∈b.aj,e.m.name.length<=1000000000/\e.m.aU.length<=1000000000
theorem Ss(b:cp)(m:bE)(aD:List (List Int)):∃x y,Ay b m aD=.agg [x,y]/\x.clean=true/\y.clean=true:=by
 unfold Ay;split
 .split
  .refine⟨_,_,rfl,?_,?_⟩<;>simp[cT (f:=zC) (λs=>by simp[zC,cT (f:=aI.aO.enc) (λ_=>by simp[D.clean])])]
  .exact⟨_,_,rfl,rfl,rfl⟩
 .exact⟨_,_,rfl,rfl,rfl⟩
theorem K7{b:Bk}{er:List Int}{ls:List fK}{aD:List (List Int)}(ht:b.bz.cn≠[])(hz:Sz b)(hm:∀e∈ls,e∈b.aj)(hl:ls.length<=1000000)(hp:aD.length<=1000000000)(hpl:∀l∈aD,l.length<=1000000000){S:SK}(hs:fw S J.length=some (b.bB J.length er)):∀(m i:Nat),i+m=ls.length ->
  WL T [0,11,80,81,82] false gb [(0,.ref J.length 6 0 0),(11,.aJ aD.length (aD.flatMap pE)),(80,.aJ ls.length (ls.flatMap fK.enc)),(81,.int .i64 ls.length),(82,.int .i64 i)] S
   (λx e J'=>J'=S/\if cQ (λe=>vf b.bz e.m aD) (ls.drop i)=0 then x=.exit 2/\get e 0=.ref J.length 6 0 0/\get e 11=.aJ aD.length (aD.flatMap pE)else x=.fp (rf (cQ (λe=>vf b.bz e.m aD) (ls.drop i))))
 |0,i,hi=>by
  refine aH gb.eq_1 ?_;have h1:¬i<ls.length:=by omega
  have h2:ls.drop i=[]:=aE (by omega);simp[-length_flatMap,-map_take,h1,h2,cQ]
 |m+1,i,hi=>by
  refine aH gb.eq_1 ?_;have h1:i<ls.length:=by omega
  obtain⟨e,he⟩:=gE h1;have hem:=hm e (ai he);obtain⟨k1,k2⟩:=hz.ms e hem;have hfl:=bX (f:=fK.enc) (w:=4) (λ_=>rfl) he;have hd:=drop_at he;have h4:=dJ h1;have hlt:=z8 hs;have hne:S≠[]:=by intro h;subst h;simp at hlt
  have hP:=S3 (J:=S) (b:=b.bz) (m:=e.m) (aD:=aD) (wq:=nl bJ.enc b.bz.an) vc hz.cn (by have:=hz.an;omega) k1 k2 hp hpl hne;have hc6:(b.bB J.length er)[6]?=some (.cells 0 (b.cells J.length)):=by simp[Bk.bB]
  obtain⟨px,py,hx,hx1,hx2⟩:=Ss b.bz e.m aD;rw[hx,O5]at hP;have ih:=K7 ht hz hm hl hp hpl hs m (i+1) (by omega);have hlt':=dW (f:=Rw.enc) ht;rw[hd,cQ];by_cases hc:vf b.bz e.m aD=0
  .rw[hc]at hP;simp[-length_flatMap,-map_take,h1,hfl,h4,hs,hc6,Bk.cells,hlt',hP,hx1,hx2,oQ,hc,bh];exact WL.to ih (by simp) rfl λx e' J' hh=>by simpa[hc]using hh
  .have hM:=qX (J:=S) hc;simp[-length_flatMap,-map_take,h1,hfl,h4,hs,hc6,Bk.cells,hlt',hP,hx1,hx2,hM,hc,bh,rf]
def U9(b:Bk)(aD:List (List Int)):Bk:={b with aD:=aD }
def wY(b:Bk)(l:List Int):List (List Int):=b.aD++[l.map (ud (Eh b))]
def yq(b:Bk)(l:List Int):Bk×Int :=
 if cm b.aj=[]then(b,8)else if b.aD.length<200 then(if l.length=b.bz.an.length then(if fL l (λn=>cj n (-100000) 100000)=true then
  (if cQ (λe=>vf b.bz e.m (wY b l)) (cm b.aj)=0 then(U9 b (wY b l),0)else(b,cQ (λe=>vf b.bz e.m (wY b l)) (cm b.aj)))else(b,2))else(b,1))else(b,3)
theorem Uh{f:D->SK->D×SK}{a b:List D}{S:SK}:cC.frzL f (a++b) S=((cC.frzL f a S).1++(cC.frzL f b (cC.frzL f a S).2).1,(cC.frzL f b (cC.frzL f a S).2).2):=by
 induction a generalizing S with
 |nil=>simp
 |cons d a ih=>simp[ih]
theorem T3{l:List (List Int)}:D.bj (l.flatMap pE)=true:=cT (f:=pE) (λx=>by simp[pE,D.clean,bh]) l
theorem Kr{S:SK}{L v n:Nat}(hS:S.length=L)(hL:0<L){aD:List (List Int)}(hn:n=aD.length+1){r:List Int}{M:aA.aO}:
  cC 0 16 (.sl L 2 v 0 n 1) ([.cells r.length (r.flatMap aM),M,.cells v (aD.flatMap pE++[.sl L 0 r.length 0 r.length 1])]::S)=(.aJ n ((aD++[r]).flatMap pE),[.dead,M,.dead]::S):=by
 have hne:S≠[]:=by intro h;subst h;simp at hS;omega
 subst hn;have hc:cells? ([aA.aO.cells r.length (r.flatMap aM),M,.cells v (aD.flatMap pE++[.sl L 0 r.length 0 r.length 1])]::S) L 2 v=some (aD.flatMap pE++[.sl L 0 r.length 0 r.length 1]):=by simp[hS]
 rw[Ui hL hc];have h3:¬L<=0:=by omega
 have h1:=yB (l:=0) (n:=15) (l':=L) (i:=0) (v:=r.length) (off:=0) (m:=r.length) (w:=1) (J:=[aA.aO.cells r.length (r.flatMap aM),M,.dead]::S) (cs:=r.flatMap aM) h3 (by simp[hS]) (by omega);have ht:(r.flatMap aM).take r.length=r.flatMap aM:=af (by rw[wU];omega);have hp:=LO aD;have ht2:(aD.flatMap pE).take (aD.length+1)=aD.flatMap pE:=af (by omega);simp[hS,Uh,T3,h1,ht,hp,ht2,bh,pE,List.take_append]
theorem Wx{F:List aA.aO}{b:Bk}{er:List Int}{nm:List UInt8}{l:List Int}{b':Bk}{e:Int}(ht:b.bz.cn≠[])(hz:Sz b)(hll:l.length<=1000000)(hml:b.aj.length<=40)(h1:b.rules.length<=1000000)(h2:b.Al.length<=1000000)(h3:∀e∈b.Al,e.sp.length<=1000000)(hk:bW.sc b.k0 b.k1 b.k2=true)(hpl:∀l∈b.aD,l.length<=1000000000)(hd:yq b l=(b',e))(he:e=0):
  lim T (.call false 104 [.ref J.length 6 0 0,.str nm,.aJ l.length (l.flatMap aM)] (F::b.bB J.length er::J))=some (.val (.db []) (F::b'.bB J.length er::J)):=by
 refine dN xn j8.eq_1 rfl (by simp) ?_;unfold yq at hd;split at hd
 case isTrue=>cases hd;cases he
 rename_i c1;split at hd
 case isFalse=>cases hd;cases he
 rename_i c2;split at hd
 case isFalse=>cases hd;cases he
 rename_i c3;split at hd
 case isFalse=>cases hd;cases he
 rename_i c4;split at hd
 case isFalse=>cases hd;rename_i h;exact absurd he h
 rename_i c5;cases hd;obtain⟨kp0,kp,hkp,hkp2,hkp3⟩:∃c kp:Int,xF b=c/\Eh b=kp/\((c=0/\kp=b.k0)\/(c=1/\kp=b.k1)\/(c=2/\kp=b.k2)):=by
  refine⟨_,_,rfl,rfl,?_⟩;have:=Kg (b:=b);unfold Eh;split
  .rename_i h;exact .inl ⟨h,rfl⟩
  .split
   .rename_i h;exact .inr (.inl ⟨h,rfl⟩)
   .refine .inr (.inr ⟨by omega,rfl⟩)
 have hkb:0<=kp/\kp<=1000:=by
  simp only[bW.sc,ae,au]at hk;rcases hkp3 with⟨_,rfl⟩ | ⟨_,rfl⟩ | ⟨_,rfl⟩<;>omega
 have q1:0<(cm b.aj).length:=aN.2 c1;have q2:(b.aD.length:Int)<200:=by omega
 have hC:=λS=>Mq (J:=J) (b:=b) (er:=er) (S:=S) h1 h2 h3
 have hLf:=λS=>FH (J:=J) (b:=b) (er:=er) (S:=S) (by omega)
 have hR:=K8 (J:=F::b.bB J.length er::J) hkb hll (bp:=.ref J.length 6 0 0) (X:=.aJ (cm b.aj).length ((cm b.aj).flatMap fK.enc)) rfl rfl l.length 0 [] (by omega) rfl;rw[aP]at hR;rw[hkp]at hC;simp only[Bk.bB,Bk.cells]at hC hLf;have hw:(b.bz.an.length:Int)=(l.length:Int):=by omega
 rcases hkp3 with⟨rfl,e2⟩ | ⟨rfl,e2⟩ | ⟨rfl,e2⟩
 all_goals
  subst e2;simp[-length_flatMap,-map_take,Bk.bB,Bk.cells,hLf,q1,q2,hw,hC,cr];refine WL.to hR (by simp) (by simp[Bk.bB,Bk.cells]) ?_;intro x e J' hq;simp only[Bw,if_pos c4,List.nil_append]at hq;obtain⟨rfl,g0,g6,g8,rfl⟩:=hq;have hnp:wY b l=b.aD++[l.map (ud (Eh b))]:=rfl;rw[hkp2]at hnp;rw[hnp]at c5 ⊢;generalize hrs:l.map (ud _)=rs at g8 c5 ⊢;have hrl:rs.length=l.length:=by rw[<- hrs];simp
  have hroom:(b.aD.length+1)*24<=room:=by unfold room;omega
  have h24:24<=room:=by unfold room;omega
  have hpel:=LO b.aD;have htk:(b.aD.flatMap pE).take b.aD.length=b.aD.flatMap pE:=af (by omega);have hfr:=λS v hS=>Kr (S:=S) (L:=J.length+1+1) (v:=v) (n:=b.aD.length+1) hS (by omega) (aD:=b.aD) rfl (r:=rs) (M:=.cells 0 [])
  have hLp:=K7 (J:=J) (b:=b) (er:=er) (ls:=cm b.aj) (aD:=b.aD++[rs]) ht hz (λe he=>(cX.1 he).1) (by have:=iI (λe:fK=>e.left) b.aj;simp only[cm];omega) (by simp;omega) (by
   intro r hr;rcases ba.1 hr with hr | hr
   .exact hpl r hr
   .simp at hr;subst hr;omega) (S:=[.dead,.cells 0 [],.dead]::F::b.bB J.length er::J) (by simp[fw]) (cm b.aj).length 0 (by omega)
  rw[aP]at hLp;have hcl:∀k,(D.aJ k (b.aD.flatMap pE++pE rs)).clean=true:=λk=>by simp[DF,T3,pE,bh]
  have hcl0:∀k,(D.aJ k (pE rs)).clean=true:=λk=>by simp[pE,bh]
  have hnl2:=dW (f:=pE) (l:=b.aD++[rs]) (by simp);simp only[aF,av,aV,cF,aS,bM,ct]at hnl2;by_cases hp0:b.aD=[]
  .have hnl:nl pE b.aD=.bP:=by simp[nl,hp0]
   have hfr':=hfr;simp only[hp0,aV,bM,List.nil_append,cJ]at hfr';simp[-length_flatMap,-map_take,g0,g6,g8,Bk.bB,Bk.cells,hnl,HE,h24,hfr'];refine WL.to hLp (by simp[hp0]) (by simp[Bk.bB,Bk.cells,hnl]) ?_;rintro x e J' ⟨rfl,hh⟩;rw[c5,if_pos rfl]at hh;obtain⟨rfl,j0,j11⟩:=hh;simp[-length_flatMap,-map_take,j0,j11,Bk.bB,Bk.cells,U9,hnl,hnl2,hcl]
  .simp[-length_flatMap,-map_take,g0,g6,g8,Bk.bB,Bk.cells,dW hp0,JZ hp0 (by omega:b.aD.length<=1000000),hroom,hpel,htk,hfr];refine WL.to hLp (by simp) (by simp[Bk.bB,Bk.cells,dW hp0]) ?_;rintro x e J' ⟨rfl,hh⟩;rw[c5,if_pos rfl]at hh;obtain⟨rfl,j0,j11⟩:=hh;simp[-length_flatMap,-map_take,j0,j11,Bk.bB,Bk.cells,U9,dW hp0,hnl2,hcl]
theorem Tw{F:List aA.aO}{b:Bk}{er:List Int}{nm:List UInt8}{l:List Int}{b':Bk}{e:Int}(ht:cm b.aj≠[]->b.bz.cn≠[])(hz:Sz b)(hll:l.length<=1000000)(hml:b.aj.length<=40)(h1:b.rules.length<=1000000)(h2:b.Al.length<=1000000)(h3:∀e∈b.Al,e.sp.length<=1000000)(hk:bW.sc b.k0 b.k1 b.k2=true)(hpl:∀l∈b.aD,l.length<=1000000000)(hd:yq b l=(b',e))(he:e≠0):
  lim T (.call false 104 [.ref J.length 6 0 0,.str nm,.aJ l.length (l.flatMap aM)] (F::b.bB J.length er::J))=some (.fp (rf e) (F::b.bB J.length er::J)):=by
 refine dM xn j8.eq_1 rfl ?_;have hLf:=λS=>FH (J:=J) (b:=b) (er:=er) (S:=S) (by omega)
 simp only[Bk.bB,Bk.cells]at hLf;unfold yq at hd;split at hd
 case isTrue c1 =>
  cases hd;simp[-length_flatMap,-map_take,Bk.bB,Bk.cells,hLf,c1,dq,D.clean,rf]
 rename_i c1;have ht:=ht c1;have q1:0<(cm b.aj).length:=aN.2 c1;split at hd
 case isFalse c2 =>
  cases hd;have q2:¬(b.aD.length:Int)<200:=by omega
  simp[-length_flatMap,-map_take,Bk.bB,Bk.cells,hLf,q1,q2,cr,dq,D.clean,rf]
 rename_i c2;have q2:(b.aD.length:Int)<200:=by omega
 split at hd
 case isFalse c3 =>
  cases hd;have q3:((l.length:Int) == (b.bz.an.length:Int))=false:=by simp;omega
  simp[-length_flatMap,-map_take,Bk.bB,Bk.cells,hLf,q1,q2,q3,cr,dq,D.clean,rf]
 rename_i c3;obtain⟨kp0,kp,hkp,hkp2,hkp3⟩:∃c kp:Int,xF b=c/\Eh b=kp/\((c=0/\kp=b.k0)\/(c=1/\kp=b.k1)\/(c=2/\kp=b.k2)):=by
  refine⟨_,_,rfl,rfl,?_⟩;have:=Kg (b:=b);unfold Eh;split
  .rename_i h;exact .inl ⟨h,rfl⟩
  .split
   .rename_i h;exact .inr (.inl ⟨h,rfl⟩)
   .refine .inr (.inr ⟨by omega,rfl⟩)
 have hkb:0<=kp/\kp<=1000:=by
  simp only[bW.sc,ae,au]at hk;rcases hkp3 with⟨_,rfl⟩ | ⟨_,rfl⟩ | ⟨_,rfl⟩<;>omega
 have hC:=λS=>Mq (J:=J) (b:=b) (er:=er) (S:=S) h1 h2 h3
 have hR:=K8 (J:=F::b.bB J.length er::J) hkb hll (bp:=.ref J.length 6 0 0) (X:=.aJ (cm b.aj).length ((cm b.aj).flatMap fK.enc)) rfl rfl l.length 0 [] (by omega) rfl;rw[aP]at hR;rw[hkp]at hC;simp only[Bk.bB,Bk.cells]at hC;have hw:(b.bz.an.length:Int)=(l.length:Int):=by omega
 split at hd
 case isFalse c4 =>
  cases hd;have c4':¬fL l (λn=>cj n (-100000) 100000)=true:=c4;rcases hkp3 with⟨rfl,e2⟩ | ⟨rfl,e2⟩ | ⟨rfl,e2⟩
  all_goals
   subst e2;simp[-length_flatMap,-map_take,Bk.bB,Bk.cells,hLf,q1,q2,hw,hC,cr];refine WL.to hR (by simp) (by simp[Bk.bB,Bk.cells]) ?_;intro x e J' hq;simp only[Bw,if_neg c4']at hq;obtain⟨rfl,s,rfl⟩:=hq;simp[Bk.bB,Bk.cells,D.clean,rf]
 rename_i c4;split at hd
 case isTrue=>cases hd;exact absurd rfl he
 rename_i c5;cases hd;have hM:=λS=>qX (J:=S) c5
 have he':=c5;rcases hkp3 with⟨rfl,e2⟩ | ⟨rfl,e2⟩ | ⟨rfl,e2⟩
 all_goals
  subst e2;simp[-length_flatMap,-map_take,Bk.bB,Bk.cells,hLf,q1,q2,hw,hC,cr];refine WL.to hR (by simp) (by simp[Bk.bB,Bk.cells]) ?_;intro x e J' hq;simp only[Bw,if_pos c4,List.nil_append]at hq;obtain⟨rfl,g0,g6,g8,rfl⟩:=hq;have hnp:wY b l=b.aD++[l.map (ud (Eh b))]:=rfl;rw[hkp2]at hnp;rw[hnp]at c5 ⊢;generalize hrs:l.map (ud _)=rs at g8 c5 ⊢;have hrl:rs.length=l.length:=by rw[<- hrs];simp
  have hroom:(b.aD.length+1)*24<=room:=by unfold room;omega
  have h24:24<=room:=by unfold room;omega
  have hpel:=LO b.aD;have htk:(b.aD.flatMap pE).take b.aD.length=b.aD.flatMap pE:=af (by omega);have hfr:=λS v hS=>Kr (S:=S) (L:=J.length+1+1) (v:=v) (n:=b.aD.length+1) hS (by omega) (aD:=b.aD) rfl (r:=rs) (M:=.cells 0 [])
  have hLp:=K7 (J:=J) (b:=b) (er:=er) (ls:=cm b.aj) (aD:=b.aD++[rs]) ht hz (λe he=>(cX.1 he).1) (by have:=iI (λe:fK=>e.left) b.aj;simp only[cm];omega) (by simp;omega) (by
   intro r hr;rcases ba.1 hr with hr | hr
   .exact hpl r hr
   .simp at hr;subst hr;omega) (S:=[.dead,.cells 0 [],.dead]::F::b.bB J.length er::J) (by simp[fw]) (cm b.aj).length 0 (by omega)
  rw[aP]at hLp;have hcl:∀k,(D.aJ k (b.aD.flatMap pE++pE rs)).clean=true:=λk=>by simp[DF,T3,pE,bh]
  have hcl0:∀k,(D.aJ k (pE rs)).clean=true:=λk=>by simp[pE,bh]
  have hnl2:=dW (f:=pE) (l:=b.aD++[rs]) (by simp);simp only[aF,av,aV,cF,aS,bM,ct]at hnl2;generalize herr:cQ (λe=>vf b.bz e.m (b.aD++[rs])) (cm b.aj)=err at c5 ⊢;have hrc:(D.va 116 (.agg [.int .i64 err])).clean=true:=rfl;by_cases hp0:b.aD=[]
  .have hnl:nl pE b.aD=.bP:=by simp[nl,hp0]
   have hfr':=hfr;simp only[hp0,aV,bM,List.nil_append,cJ]at hfr';simp[-length_flatMap,-map_take,g0,g6,g8,Bk.bB,Bk.cells,hnl,HE,h24,hfr'];refine WL.to hLp (by simp[hp0]) (by simp[Bk.bB,Bk.cells,hnl]) ?_;rintro x e J' ⟨rfl,hh⟩;rw[herr,if_neg c5]at hh;subst hh;simp[Bk.bB,Bk.cells,rf,hrc,hnl]
  .simp[-length_flatMap,-map_take,g0,g6,g8,Bk.bB,Bk.cells,dW hp0,JZ hp0 (by omega:b.aD.length<=1000000),hroom,hpel,htk,hfr];refine WL.to hLp (by simp) (by simp[Bk.bB,Bk.cells,dW hp0]) ?_;rintro x e J' ⟨rfl,hh⟩;rw[herr,if_neg c5]at hh;subst hh;simp[Bk.bB,Bk.cells,rf,hrc,dW hp0]
end
section
open Go Go.aA Go.aI
variable {J:SK}
theorem V5{f:cU}{l:List bE}(hf:f.valid=true)(hs:∀m∈l,m.name.length<=1000000000/\m.aU.length<=1000000000)(hl:l.length<=1000000000):
  lim T (.call false 44 [.bq [.int .i64 f.x,.int .i64 f.y,.int .i64 f.z,.int .i64 f.k],.bq [.aJ l.length (l.flatMap bE.enc)]] J)=some (.val (.int .i64 (f.aj l)) J):=by
 refine aw HW uG.eq_1 rfl ?_;simp[-length_flatMap,-map_take,Mw hf hs hl]
theorem V6{f:cU}{l:List mm}(hf:f.valid=true)(hs:Eu l)(hl:l.length<=1000000000):
  lim T (.call false 45 [.bq [.int .i64 f.x,.int .i64 f.y,.int .i64 f.z,.int .i64 f.k],.bq [.aJ l.length (l.flatMap mm.enc)]] J)=some (.val (.int .i64 (f.sd l)) J):=by
 refine aw HX uH.eq_1 rfl ?_;simp[-length_flatMap,-map_take,HH hf hs hl]
theorem ZG{f:cU}{l:List bE}{ms:List mm}(hf:f.valid=true)(hs:∀m∈l,m.name.length<=1000000000/\m.aU.length<=1000000000)(hl:l.length<=1000000000)(hms:Eu ms)(hml:ms.length<=1000000000)
  (h1:f.aj l=0) (h2:f.sd ms=0):
  lim T (.call false 25 [.agg [.int .i64 f.x,.int .i64 f.y,.int .i64 f.z,.int .i64 f.k],.aJ l.length (l.flatMap bE.enc),.aJ ms.length (ms.flatMap mm.enc)] J)=some (.val (.int .i64 0) J):=by
 refine aw Lc xK.eq_1 rfl ?_;have hC:=λJ=>Hk (J:=J) (fs:=[.fn 33 [.agg [.int .i64 f.x,.int .i64 f.y,.int .i64 f.z,.int .i64 f.k]] [],.fn 44 [] [.bq [.int .i64 f.x,.int .i64 f.y,.int .i64 f.z,.int .i64 f.k],.bq [.aJ l.length (l.flatMap bE.enc)]],.fn 45 [] [.bq [.int .i64 f.x,.int .i64 f.y,.int .i64 f.z,.int .i64 f.k],.bq [.aJ ms.length (ms.flatMap mm.enc)]]]) (es:=[0,0,0]) rfl (by simp) (by simp) (by
  intro i d n hd hn h0 J;match i with
  |0 =>
   simp at hd hn;subst hd hn;simp[EC,cU.shape,hf]
  |1 =>
   simp at hd hn;subst hd hn;simp[V5 hf hs hl,h1]
  |2 =>
   simp at hd hn;subst hd hn;simp[V6 hf hms hml,h2]
  |i+3=>simp at hd)
 have e1:cQ id [(0:Int),0,0]=0:=rfl;rw[e1]at hC;simp at hC;simp[-length_flatMap,-map_take,hC]
def vQ(t:Int×Int×Int):List D:=[.int .i64 t.1,.int .i64 t.2.1,.int .i64 t.2.2]
theorem Rf(l:List (Int×Int×Int)):(l.flatMap vQ).length=l.length*3:=bK (f:=vQ) (w:=3) (λ_=>rfl) l
theorem Nt{α:Type}{p:α->Bool}:∀{l:List α},0<=idxOf p l->∃(k:Nat) (x:α),idxOf p l=k/\l[k]?=some x/\p x=true
 |[],h=>by simp[idxOf]at h
 |x::l,h=>by
  simp only[idxOf]at h ⊢;split
  .rename_i hp;exact⟨0,x,rfl,rfl,hp⟩
  .rename_i hp;rw[if_neg hp]at h;split at h
   .omega
   .rename_i hn;rw[if_neg hn];obtain⟨k,y,h1,h2,h3⟩:=Nt (p:=p) (l:=l) (by omega);exact⟨k+1,y,by rw[h1];rfl,by simpa using h2,h3⟩
def Lx(f:cU)(l:List mm):Nat->List bE->List (Int×Int×Int)
 |_,[]=>[]
 |i,m::ms=>if okF f l m then Lx f l (i+1) ms else((i:Int),idxOf (λn=>n != 0) (nB f m l),((nB f m l)[(idxOf (λn=>n != 0) (nB f m l)).toNat]?).getD 0)::Lx f l (i+1) ms
theorem QX{f:cU}{l:List mm}{m:bE}:okF f l m=true↔idxOf (λn=>n != 0) (nB f m l)<0:=by
 rw[C4];unfold okF;rw[List.all_eq_not_any_not];simp[bne]
theorem OM{f:cU}{l:List bE}{ms:List mm}(hm:∀m∈l,Fm f m)(hl:l.length<=40)(hms:ms.length<=12)(hx:∀x∈ms,SP f x)(hJ:J≠[]):∀(k i:Nat) (L:List Int) (S:List (Int×Int×Int)),i+k=l.length->L.length<=i->S.length<=i ->
  WL T [2,3,6,7,21,22,23] false jY [(2,.aJ ms.length (ms.flatMap mm.enc)),(3,.bq [.int .i64 f.x,.int .i64 f.y,.int .i64 f.z,.int .i64 f.k]),(6,.sl J.length 0 L.length 0 L.length 1),(7,.sl J.length 1 S.length 0 S.length 3),(21,.aJ l.length (l.flatMap bE.enc)),(22,.int .i64 l.length),(23,.int .i64 i)]
   ([.cells L.length (L.flatMap aM),.cells S.length (S.flatMap vQ)]::J)
   (λx e J'=>x=.exit 0/\∃L' S',L'=L++idxs (okF f ms) i (l.drop i)/\S'=S++Lx f ms i (l.drop i)/\get e 6=.sl J.length 0 L'.length 0 L'.length 1/\get e 7=.sl J.length 1 S'.length 0 S'.length 3/\J'=[.cells L'.length (L'.flatMap aM),.cells S'.length (S'.flatMap vQ)]::J):=by
 intro k;induction k with
 |zero =>
  intro i L S hi hL hS;refine aH jY.eq_1 ?_;have h1:¬i<l.length:=by omega
  have h2:l.drop i=[]:=aE (by omega);simp[-length_flatMap,-map_take,h1,h2,idxs,Lx]
 |succ k ih0 =>
  intro i L S hi hL hS;refine aH jY.eq_1 ?_;have h1:i<l.length:=by omega
  obtain⟨m,hmi⟩:=gE h1;have h2:=LH hmi;have h4:=dJ h1;have h5:=drop_at hmi;have hM:=λJ hJ=>Te (J:=J) (hm m (ai hmi)) hms hx hJ
  have ml:=KI f m ms;have hI:=λJ=>acQ (J:=J) (l:=nB f m ms) (by omega)
  rw[ml]at hI;have a4:=zq L;have a6:(L.flatMap aM).take L.length=L.flatMap aM:=af (by omega);have a7:=Rf S;have a8:(S.flatMap vQ).take (S.length*3)=S.flatMap vQ:=af (by omega);have h7:(L.length+1)*8<=room:=by unfold room;omega
  have h8:(S.length+1)*24<=room:=by unfold room;omega
  rw[h5];cases hc:okF f ms m
  .have hge:0<=idxOf (λn=>n != 0) (nB f m ms):=by
    have:=mt QX.2 (by rw[hc];simp);omega
   obtain⟨j,v,e1,e2,e3⟩:=Nt hge;have hj:j<ms.length:=by rw[<- ml];exact(ar.1 e2).1
   have h9:=lU e2;have ih:=ih0 (i+1) L (S++[((i:Int),(j:Int),v)]) (by omega) (by omega) (by simp;omega);simp only[idxs,Lx,hc,e1,Int.toNat_natCast,e2,Option.getD_some];rw[e1]at hI;simp[-length_flatMap,-map_take,h1,h2,h4,hM,hI,a7,a8,h8,h9,hj,ml,bh];exact WL.to ih (by simp) (by simp[vQ]) λx e J hh=>by simpa[c8,hc,e1,e2]using hh
  .have hlt:=QX.1 hc;have e1:idxOf (λn=>n != 0) (nB f m ms)<0:=hlt;have ih:=ih0 (i+1) (L++[(i:Int)]) S (by omega) (by simp;omega) (by omega);simp only[idxs,Lx,hc,if_true];have e4:¬0<=idxOf (λn=>n != 0) (nB f m ms):=by omega
   simp[-length_flatMap,-map_take,h1,h2,h4,hM,hI,a4,a6,h7,e4,ml,bh];exact WL.to ih (by simp) (by simp) λx e J hh=>by simpa[c8,hc]using hh
theorem Oy{f:cU}{l:List bE}{ms:List mm}(hf:f.valid=true)(hs:∀m∈l,m.name.length<=1000000000/\m.aU.length<=1000000000)(h1:f.aj l=0)(hms:Eu ms)(h2:f.sd ms=0)(hm:∀m∈l,Fm f m)(hl:l.length<=40)(hml:ms.length<=12)(hx:∀x∈ms,SP f x)(hJ:J≠[]):
  lim T (.call false 12 [.agg [.int .i64 f.x,.int .i64 f.y,.int .i64 f.z,.int .i64 f.k],.aJ l.length (l.flatMap bE.enc),.aJ ms.length (ms.flatMap mm.enc)] J) =
   some (.val (.db [.aJ (idxs (okF f ms) 0 l).length ((idxs (okF f ms) 0 l).flatMap aM),.aJ (Lx f ms 0 l).length ((Lx f ms 0 l).flatMap vQ),.int .i64 0]) J):=by
 refine aw GY tC.eq_1 rfl ?_;have hB:=λJ=>ZG (J:=J) hf hs (by omega) hms (by omega) h1 h2
 simp[-length_flatMap,-map_take,hB];refine WL.to (OM (J:=J) hm hl hml hx hJ l.length 0 [] [] (by omega) (by simp) (by simp)) (by simp) (by simp) ?_;rintro x e J' ⟨rfl,L,S,rfl,rfl,g6,g7,rfl⟩;simp only[List.nil_append,aP]at g6 g7 ⊢;simp[-length_flatMap,-map_take,g6,g7];rw[Bj (by rfl) (by omega)];simp only[vH,yA];rw[wV (n:=15) (f:=aM) (w:=1) (l:=idxs (okF f ms) 0 l) (by decide) (λ_=>rfl) (λx=>by simp) hJ (by simp)];simp only[List.set_cons_succ,List.set_cons_zero];rw[wV (n:=15) (f:=vQ) (w:=3) (l:=Lx f ms 0 l) (by decide) (λ_=>rfl) (λx=>by simp[vQ]) hJ (by simp)];rw[gW (by rfl) (by omega)];exact⟨_,rfl⟩
theorem Ry{b:cp}{x:xB}{n:Nat}(h:Bv b)(hw:0<=x.si/\x.si<=255):
  lim T (.call false 192 [.agg [.int .i64 b.f.x,.int .i64 b.f.y,.int .i64 b.f.z,.int .i64 b.f.k,.aJ b.cn.length (b.cn.flatMap Rw.enc),.int .i64 b.bL,.int .i64 b.lift,.int .i64 b.deep,.aJ b.an.length (b.an.flatMap bJ.enc)],.agg x.enc,.int .i64 n] J)=some (.val (.int .i64 (vh b n x)) J):=by
 refine aw DZ o4.eq_1 rfl ?_;have hs:=λJ=>Ab (J:=J) h
 have hz:=h.sz;have hn:=h.n;have hwl:=h.an;have w1:=eQ (n:=x.si);have w2:=eQ (n:=(b.n:Int)-1);have w3:=eQ (n:=(b.an.length:Int)-1);unfold vh;cases c1:cj x.si 1 4
 .simp[-length_flatMap,-map_take,dB,w1,c1]
 by_cases c2:x.lo < -10000000000
 .simp[-length_flatMap,-map_take,dB,w1,c1,c2]
 by_cases c3:x.hi<x.lo
 .simp[-length_flatMap,-map_take,dB,w1,c1,c2,c3]
 by_cases c4:10000000000<x.hi
 .simp[-length_flatMap,-map_take,dB,w1,c1,c2,c3,c4]
 have hsz:b.size=(b.n:Int):=hz;by_cases c5:x.si=1
 .cases c6:cj x.tick 0 n
  .simp[-length_flatMap,-map_take,dB,w1,w2,show cj 1 1 4=true from rfl,c2,c3,c4,c5,c6,hs,cG,bA]
  .cases c7:cj x.idx 0 ((b.n:Int)-1)<;>
    simp[-length_flatMap,-map_take,dB,w1,w2,show cj 1 1 4=true from rfl,c2,c3,c4,c5,c6,c7,hs,hsz,cG,bA]
 .cases c6:cj x.tick 1 n
  .simp[-length_flatMap,-map_take,dB,w1,w3,c1,c2,c3,c4,c5,c6,cG,bA]
  .cases c7:cj x.idx 0 ((b.an.length:Int)-1)<;>
    simp[-length_flatMap,-map_take,dB,w1,w3,c1,c2,c3,c4,c5,c6,c7,cG,bA]
theorem Wt{lo hi n:Int}(h1 : -10000000000<=lo/\lo<=10000000000)(h2 : -10000000000<=hi/\hi<=10000000000)(hn : -100000000000000<=n/\n<=100000000000000):
  lim T (.call false 194 [.agg [.int .i64 lo,.int .i64 hi],.int .i64 n] J)=some (.val (.int .i64 (CF lo hi n)) J):=by
 refine aw EJ rm.eq_1 rfl ?_;have w1:=eQ (n:=n-hi);have w2:=eQ (n:=n-lo);have w3:=eQ (n:=max 0 (n-hi)+min 0 (n-lo));simp[-length_flatMap,-map_take,w1,w2,w3,CF]
theorem Tz{y:aI.aO}(h1:0<=y.m/\y.m<=1000000)(h2:0<=y.h/\y.h<=10000000000):lim T (.call false 272 [.agg y.enc] J)=some (.val (.int .i64 y.Gs) J):=by
 refine aw Dq nM.eq_1 rfl ?_;unfold aI.aO.Gs;by_cases c:y.m=0
 .simp[-length_flatMap,-map_take,c]
 .have e:y.h.tdiv y.m=y.h / y.m:=bC h2.1;have b1:0<=y.h / y.m/\y.h / y.m<=y.h:=⟨Int.ediv_nonneg h2.1 h1.1,Int.ediv_le_self _ h2.1⟩;have w1:=eQ (n:=y.h.tdiv y.m);simp[-length_flatMap,-map_take,c,w1]
theorem K2:lim T (.call false 239 [] J)=some (.val (.agg [.se,.se,.fn 271 [] [],.fn 272 [] [],.fn 273 [] []]) J):=by
 refine aw Le xM.eq_1 rfl ?_;simp[-length_flatMap,-map_take]
theorem VP{y:aI.aO}(h1:0<=y.m/\y.m<=1000000)(h2:0<=y.h/\y.h<=10000000000):0<=y.Gs/\y.Gs<=10000000000:=by
 unfold aI.aO.Gs;split
 .omega
 .rw[bC h2.1];have b1:0<=y.h / y.m/\y.h / y.m<=y.h:=⟨Int.ediv_nonneg h2.1 h1.1,Int.ediv_le_self _ h2.1⟩;omega
theorem Q2{b:cp}{m:bE}{r:RunT}{n:Nat}{x:xB}(h:Fv b m)(hr:MK b n r.1 r.2)(hx:WS b n x):0<=wZ b m r x/\wZ b m r x<=1000000000000:=by
 unfold wZ;split
 .rename_i h1;obtain⟨p1,p2,p3⟩:=hx.p h1;have hz:=h.bv.sz;obtain⟨s1,s2⟩:=Zm hr (t:=x.tick.toNat) (by omega);rw[s1];have:=LQ h s2 (i:=x.idx.toNat) (by unfold cp.size at p3;omega);simp only[Option.getD_some];omega
 .rename_i h1;obtain⟨p1,p2,p3⟩:=hx.y h1;obtain⟨y1,y2⟩:=Vh hr (t:=x.tick.toNat-1) (by omega);have y3:=Zz y2 (w:=x.idx.toNat) (by omega);obtain⟨g1,g2,g3⟩:=y2.ok _ (ai y3);rw[y1];simp only[Option.getD_some,aI.aO.Oi];have:=VP g1 g2;split
  .omega
  .split<;>omega
theorem WA{b:cp}{m:bE}{r:RunT}{n:Nat}{x:xB}(h:Fv b m)(hr:MK b n r.1 r.2)(hx:WS b n x)(hn:n<=200):
  lim T (.call false 195 [.agg [.int .i64 b.f.x,.int .i64 b.f.y,.int .i64 b.f.z,.int .i64 b.f.k,.aJ b.cn.length (b.cn.flatMap Rw.enc),.int .i64 b.bL,.int .i64 b.lift,.int .i64 b.deep,.aJ b.an.length (b.an.flatMap bJ.enc),.str m.name,.aJ m.aU.length (m.aU.flatMap aM)],.agg [.aJ r.1.length (r.1.flatMap zC),.aJ r.2.length (r.2.flatMap zC)],.agg x.enc] J)=some (.val (.int .i64 (wZ b m r x)) J):=by
 refine aw Du nQ.eq_1 rfl ?_;unfold wZ;have hsl:=hr.sl;have hyl:=hr.yl;by_cases h1:x.si=1
 .obtain⟨p1,p2,p3⟩:=hx.p h1;have hz:=h.bv.sz;obtain⟨s1,s2⟩:=Zm hr (t:=x.tick.toNat) (by omega);have hP:=λJ=>HJ (J:=J) h s2 (i:=x.idx.toNat) (by unfold cp.size at p3;omega)
  rw[ft p2]at hP;have a1:=VB s1;have e2:x.tick<((n:Int)+1):=by omega
  rw[s1];simp[-length_flatMap,-map_take,h1,hsl,p1.1,e2,a1,hP]
 .obtain⟨p1,p2,p3⟩:=hx.y h1;obtain⟨y1,y2⟩:=Vh hr (t:=x.tick.toNat-1) (by omega);have y3:=Zz y2 (w:=x.idx.toNat) (by omega);obtain⟨g1,g2,g3⟩:=y2.ok _ (ai y3);have a1:=VB y1;have a4:=bX (f:=aO.enc) (w:=3) (λ_=>rfl) y3;have hyw:=y2.len;have w1:=eQ (n:=x.tick-1);have e1:0<=x.tick-1:=by omega
  have e2:x.tick-1<(n:Int):=by omega
  have e3:(x.tick-1).toNat=x.tick.toNat-1:=by omega
  have hw:=hx.si;rw[if_neg h1,y1];have hA:=λJ=>WG (J:=J) (x:=bZ (rowAt r.2 (x.tick.toNat-1)) x.idx.toNat)
  have hK:=λJ=>TC (J:=J) (x:=bZ (rowAt r.2 (x.tick.toNat-1)) x.idx.toNat)
  simp only[aO.enc]at hA hK;rcases(show x.si=2\/x.si=3\/x.si=4 by omega)with h2 | h2 | h2
  .simp[-length_flatMap,-map_take,h2,hyl,w1,p1.1,e1,e2,e3,a1,a4,K2,hA,hyw,p2,p3,aI.aO.Oi]
  .have hW:=λJ=>Tz (J:=J) g1 g2
   simp only[aO.enc]at hW;simp[-length_flatMap,-map_take,h2,hyl,w1,p1.1,e1,e2,e3,a1,a4,K2,hW,hyw,p2,p3,aI.aO.Oi]
  .simp[-length_flatMap,-map_take,h2,hyl,w1,p1.1,e1,e2,e3,a1,a4,K2,hK,hyw,p2,p3,aI.aO.Oi]
theorem Q1{l:List xB}{j:Nat}{m:xB}(h:l[j]?=some m):((l.flatMap xB.enc).drop (j*5)).take 5=m.enc :=
 bX (f:=xB.enc) (w:=5) (λ_=>rfl) h
theorem RD{A B:aA.aO}:lim T (.yn 189 [.ref J.length 2 0 0] (some (.va 313 (.agg []))) ([A,B,.cells 0 [.int .i64 0]]::J))=some (.val (.db []) ([A,B,.cells 0 [.int .i64 9]]::J)):=by
 refine Ai zQ qH.eq_1 rfl (by simp[-length_flatMap,-map_take,rK];exact⟨rfl,rfl⟩) ?_;simp[-length_flatMap,-map_take]
theorem OX(l:List xB):D.bj (l.flatMap xB.enc)=true:=cT (λx=>by simp) l
theorem Ln(l:List (List Int)):D.bj (l.flatMap Hf)=true:=cT (λx=>by simp[Hf,D.clean,bh]) l
theorem Cy{l0 L i w n:Nat}{S:SK}(hn:0<n)(h:¬L<=l0)(hc:cells? S L i 0=some []):cC l0 n (.sl L i 0 0 0 w) S=(.aJ 0 [],aZ S L i .dead):=by
 rw[yB h hc hn];simp
theorem Qy{l0 L i w:Nat}{S:SK}(h:¬L<=l0)(hc:cells? S L i 0=some []):cC l0 16 (.sl L i 0 0 0 w) S=(.aJ 0 [],aZ S L i .dead):=Cy (by omega) h hc
theorem TK{b:cp}{l:List bE}{aD:List (List Int)}{rd:List xB}(h:Ok b l aD)(hl:rd.length<=40)(hw:∀x∈rd,0<=x.si/\x.si<=255){A B:aA.aO}:∀(k i:Nat),i+k=rd.length ->
  WL T [1,2,3,4,8,9,10,32,33,34] true kS [(1,.aJ l.length (l.flatMap bE.enc)),(2,.aJ aD.length (aD.flatMap Hf)),(3,.aJ rd.length (rd.flatMap xB.enc)),(4,.bq [.int .i64 b.f.x,.int .i64 b.f.y,.int .i64 b.f.z,.int .i64 b.f.k,.aJ b.cn.length (b.cn.flatMap Rw.enc),.int .i64 b.bL,.int .i64 b.lift,.int .i64 b.deep,.aJ b.an.length (b.an.flatMap bJ.enc)]),(8,.sl J.length 0 0 0 0 1),(9,.sl J.length 1 0 0 0 3),(10,.ref J.length 2 0 0),(32,.aJ rd.length (rd.flatMap xB.enc)),(33,.int .i64 rd.length),(34,.int .i64 i)] ([A,B,.cells 0 [.int .i64 0]]::J)
   (λx e J'=>if cQ (vh b aD.length) (rd.drop i)=0 then x=.exit 0/\J'=[A,B,.cells 0 [.int .i64 0]]::J/\get e 1=.aJ l.length (l.flatMap bE.enc)/\get e 2=.aJ aD.length (aD.flatMap Hf)/\get e 3=.aJ rd.length (rd.flatMap xB.enc)/\get e 4=.bq [.int .i64 b.f.x,.int .i64 b.f.y,.int .i64 b.f.z,.int .i64 b.f.k,.aJ b.cn.length (b.cn.flatMap Rw.enc),.int .i64 b.bL,.int .i64 b.lift,.int .i64 b.deep,.aJ b.an.length (b.an.flatMap bJ.enc)]/\get e 8=.sl J.length 0 0 0 0 1/\get e 9=.sl J.length 1 0 0 0 3/\get e 10=.ref J.length 2 0 0
    else x=.ret/\get e 8=.aJ 0 []/\get e 9=.aJ 0 []/\get e 10=.ref J.length 2 0 0/\J'=[A,B,.cells 0 [.int .i64 (cQ (vh b aD.length) (rd.drop i))]]::J):=by
 intro k;induction k with
 |zero =>
  intro i hi;refine ES kS.eq_1 ?_;have h1:¬i<rd.length:=by omega
  have h2:rd.drop i=[]:=aE (by omega);simp[-length_flatMap,-map_take,h1,h2,cQ,OW,OX,cG,bA,Ln]
 |succ k ih0 =>
  intro i hi;refine ES kS.eq_1 ?_;have h1:i<rd.length:=by omega
  obtain⟨x,hx⟩:=gE h1;have h2:=Q1 hx;have h4:=dJ h1;have h5:=drop_at hx;have hC:=λJ=>Ry (J:=J) (n:=aD.length) h.bv (hw x (ai hx))
  simp only[xB.enc]at h2 hC;have ih:=ih0 (i+1) (by omega);rw[h5,cQ];by_cases hc:vh b aD.length x=0
  .simp[-length_flatMap,-map_take,h1,h2,h4,hC,hc,OW,OX,cG,bA,Ln];exact WL.to ih (by simp) (by simp) λx e J hh=>by simpa[hc]using hh
  .simp[-length_flatMap,-map_take,h1,h2,h4,hC,hc,OW,OX,cG,bA,Ln];have z:=Qy (l0:=J.length) (L:=J.length+1) (i:=0) (w:=1) (S:=[.cells 0 [],.cells 0 []]::[A,B,.cells 0 [D.int .i64 (vh b (aD.length:Int) x)]]::J) (by omega) (by simp);simp at z;rw[z];simp only[];rw[Qy (by omega) (by simp)];simp
abbrev YS:=Int×Int×Int
def AB(i n:Nat):Nat->List Int->Nat×List YS->Nat×List YS
 |_,[],st=>st
 |k,v::vs,st=>AB i n (k+1) vs (if v≠0/\st.1=n then(k,st.2++[((i:Int),(k:Int),v)])else st)
theorem I6{i n:Nat}:∀(vs:List Int) (k:Nat) (st:Nat×List YS),st.1≠n->AB i n k vs st=st
 |[],k,st,h=>rfl
 |v::vs,k,st,h=>by
  simp only[AB];rw[if_neg (λhh=>h hh.2)];exact I6 vs (k+1) st h
theorem KS{i n:Nat}:∀(vs:List Int) (k:Nat) (st:Nat×List YS),k+vs.length=n->(st.1≠n->st.1<n)->(AB i n k vs st).2.length<=st.2.length+1/\(AB i n k vs st).1<=n
 |[],k,st,h,hh=>by simp only[AB];exact⟨by omega,Classical.byContradiction λh1=>by have:=hh (by omega);omega⟩
 |v::vs,k,st,h,hh=>by
  simp only[AB];simp only[av]at h;by_cases hc:v≠0/\st.1=n
  .rw[if_pos hc,I6 vs (k+1) _ (by simp only;omega)];simp;omega
  .rw[if_neg hc];exact KS vs (k+1) st (by omega) hh
def DM(b:cp)(m:bE)(r:RunT)(rd:List xB):List Int:=rd.map λx=>CF x.lo x.hi (wZ b m r x)
theorem KJ(b:cp)(m:bE)(r:RunT)(rd:List xB):(DM b m r rd).length=rd.length:=by simp[DM]
theorem Z8{b:cp}{l:List bE}{aD:List (List Int)}{rd:List xB}{rs:List RunT}{m:bE}{r:RunT}{i:Nat}(h:Ok b l aD)(hR:Rs b l aD.length rs)(hl:rd.length<=40)(hx:∀x∈rd,WS b aD.length x)(hm:l[i]?=some m)(hr:rs[i]?=some r){A B:aA.aO}{L10:Nat}{s0:Nat}(hs0:s0<=100):
  ∀(k j:Nat) (st:Nat×List YS),j+k=rd.length->st.1<=rd.length->st.2.length<=s0+j ->
  WL T [3,4,8,9,10,15,16,17,18,51,52,53,60,61,62] false kT [(3,.aJ rd.length (rd.flatMap xB.enc)),(4,.bq [.int .i64 b.f.x,.int .i64 b.f.y,.int .i64 b.f.z,.int .i64 b.f.k,.aJ b.cn.length (b.cn.flatMap Rw.enc),.int .i64 b.bL,.int .i64 b.lift,.int .i64 b.deep,.aJ b.an.length (b.an.flatMap bJ.enc)]),(8,.sl J.length 0 L10 0 L10 1),(9,.sl J.length 1 st.2.length 0 st.2.length 3),(10,.ref J.length 2 0 0),(15,.aJ rs.length (rs.flatMap Et)),(16,.int .i64 i),(17,.own 0 [.str m.name,.aJ m.aU.length (m.aU.flatMap aM)]),(18,.int .i64 st.1),(51,.aJ l.length (l.flatMap bE.enc)),(52,.int .i64 l.length),(53,.int .i64 i),(60,.aJ rd.length (rd.flatMap xB.enc)),(61,.int .i64 rd.length),(62,.int .i64 j)]
   ([A,.cells st.2.length (st.2.flatMap vQ),B]::J)
   (λx e J'=>x=.exit 4/\∃st',st'=AB i rd.length j ((DM b m r rd).drop j) st/\get e 3=.aJ rd.length (rd.flatMap xB.enc)/\get e 4=.bq [.int .i64 b.f.x,.int .i64 b.f.y,.int .i64 b.f.z,.int .i64 b.f.k,.aJ b.cn.length (b.cn.flatMap Rw.enc),.int .i64 b.bL,.int .i64 b.lift,.int .i64 b.deep,.aJ b.an.length (b.an.flatMap bJ.enc)]/\get e 8=.sl J.length 0 L10 0 L10 1/\get e 9=.sl J.length 1 st'.2.length 0 st'.2.length 3/\get e 10=.ref J.length 2 0 0/\get e 15=.aJ rs.length (rs.flatMap Et)/\get e 16=.int .i64 i/\get e 18=.int .i64 st'.1/\get e 51=.aJ l.length (l.flatMap bE.enc)/\get e 52=.int .i64 l.length/\get e 53=.int .i64 i /\
    J'=[A,.cells st'.2.length (st'.2.flatMap vQ),B]::J):=by
 intro k;induction k with
 |zero =>
  intro j st hj h1 h2;refine aH kT.eq_1 ?_;have h3:¬j<rd.length:=by omega
  have h4:(DM b m r rd).drop j=[]:=aE (by rw[KJ];omega);simp[-length_flatMap,-map_take,h3,h4,AB]
 |succ k ih0 =>
  intro j st hj g1 g2;refine aH kT.eq_1 ?_;have h1:j<rd.length:=by omega
  obtain⟨x,hxj⟩:=gE h1;have hmm:=ai hm;have hrr:=hR.all r (ai hr);have hxv:=hx x (ai hxj);have h2:=Q1 hxj;have h4:=dJ h1;have hpl:=h.Su;have hi:i<rs.length:=(ar.1 hr).1;have hV:=λJ=>WA (J:=J) (h.fv m hmm) hrr hxv hpl
  have hb:=Q2 (h.fv m hmm) hrr hxv;have hen:=hxv.ends;have hM:=λJ=>Wt (J:=J) (lo:=x.lo) (hi:=x.hi) (n:=wZ b m r x) (by omega) (by omega) (by omega)
  have a1:=Yf hr;have e1:(DM b m r rd)[j]?=some (CF x.lo x.hi (wZ b m r x)):=by simp[DM,hxj]
  have h5:=drop_at e1;simp only[xB.enc]at h2 hV;have a7:=Rf st.2;have a8:(st.2.flatMap vQ).take (st.2.length*3)=st.2.flatMap vQ:=af (by omega);have h8:(st.2.length+1)*24<=room:=by unfold room;omega
  rw[h5,AB];generalize CF x.lo x.hi (wZ b m r x)=v at *
  by_cases c1:v=0
  .have ih:=ih0 (j+1) st (by omega) g1 (by omega);simp[-length_flatMap,-map_take,h1,h2,h4,hV,hM,hi,a1,c1,bh,Kf,D.clean];exact WL.to ih (by simp) (by simp) λx e J hh=>by simpa[c1]using hh
  .by_cases c2:st.1=rd.length
   .have ih:=ih0 (j+1) (j,st.2++[((i:Int),(j:Int),v)]) (by omega) (by simp only;omega) (by simp;omega);simp[-length_flatMap,-map_take,h1,h2,h4,hV,hM,hi,a1,c1,c2,a7,a8,h8,bh,Kf,D.clean];exact WL.to ih (by simp) (by simp[vQ]) λx e J hh=>by simpa[c1,c2]using hh
   .have ih:=ih0 (j+1) st (by omega) g1 (by omega);have c3:¬(st.1:Int)=rd.length:=by omega
    simp[-length_flatMap,-map_take,h1,h2,h4,hV,hM,hi,a1,c1,c2,c3,bh,Kf,D.clean];exact WL.to ih (by simp) (by simp) λx e J hh=>by simpa[c2]using hh
def I0(b:cp)(rd:List xB):Nat->List (bE×RunT)->List Int×List YS->List Int×List YS
 |_,[],st=>st
 |i,p::t,st=>I0 b rd (i+1) t (if(AB i rd.length 0 (DM b p.1 p.2 rd) (rd.length,st.2)).1=rd.length then st.1++[(i:Int)]else st.1,(AB i rd.length 0 (DM b p.1 p.2 rd) (rd.length,st.2)).2)
theorem Z7{b:cp}{l:List bE}{aD:List (List Int)}{rd:List xB}{rs:List RunT}(h:Ok b l aD)(hR:Rs b l aD.length rs)(hl:rd.length<=40)(hx:∀x∈rd,WS b aD.length x){B:aA.aO}:
  ∀(k i:Nat) (st:List Int×List YS),i+k=l.length->st.1.length<=i->st.2.length<=i ->
  WL T [3,4,8,9,10,15,51,52,53] false kU [(3,.aJ rd.length (rd.flatMap xB.enc)),(4,.bq [.int .i64 b.f.x,.int .i64 b.f.y,.int .i64 b.f.z,.int .i64 b.f.k,.aJ b.cn.length (b.cn.flatMap Rw.enc),.int .i64 b.bL,.int .i64 b.lift,.int .i64 b.deep,.aJ b.an.length (b.an.flatMap bJ.enc)]),(8,.sl J.length 0 st.1.length 0 st.1.length 1),(9,.sl J.length 1 st.2.length 0 st.2.length 3),(10,.ref J.length 2 0 0),(15,.aJ rs.length (rs.flatMap Et)),(51,.aJ l.length (l.flatMap bE.enc)),(52,.int .i64 l.length),(53,.int .i64 i)]
   ([.cells st.1.length (st.1.flatMap aM),.cells st.2.length (st.2.flatMap vQ),B]::J)
   (λx e J'=>x=.exit 2/\∃st',st'=I0 b rd i ((l.zip rs).drop i) st/\get e 8=.sl J.length 0 st'.1.length 0 st'.1.length 1/\get e 9=.sl J.length 1 st'.2.length 0 st'.2.length 3/\get e 10=.ref J.length 2 0 0 /\
    J'=[.cells st'.1.length (st'.1.flatMap aM),.cells st'.2.length (st'.2.flatMap vQ),B]::J):=by
 intro k;induction k with
 |zero =>
  intro i st hi g1 g2;refine aH kU.eq_1 ?_;have h1:¬i<l.length:=by omega
  have h2:(l.zip rs).drop i=[]:=aE (by rw[List.length_zip];omega);simp[-length_flatMap,-map_take,h1,h2,I0]
 |succ k ih0 =>
  intro i st hi g1 g2;refine aH kU.eq_1 ?_;have h1:i<l.length:=by omega
  have hlen:=hR.len;have hne:=hR.ne;obtain⟨m,hm⟩:=gE h1;obtain⟨r,hr⟩:∃r,rs[i]?=some r:=gE (by omega);have h2:=LH hm;have h4:=dJ h1;have hz:(l.zip rs)[i]?=some (m,r):=by simp[List.getElem?_zip_eq_some,hm,hr]
  have h5:=drop_at hz;have hsl:=KS (i:=i) (DM b m r rd) 0 (rd.length,st.2) (n:=rd.length) (by rw[KJ];omega) (by simp);rw[h5,I0];simp[-length_flatMap,-map_take,h1,h2,bh,D.clean];refine WL.to (Z8 (J:=J) h hR hl hx hm hr (A:=.cells st.1.length (st.1.flatMap aM)) (B:=B) (L10:=st.1.length) (s0:=50) (by omega) rd.length 0 (rd.length,st.2) (by omega) (by simp) (by simp only;omega)) (by simp) (by simp) ?_;rintro x e J' ⟨rfl,st',hst,q3,q4,q8,q9,q10,q15,q16,q18,q51,q52,q53,rfl⟩;rw[aP]at hst;rw[<- hst];rw[<- hst]at hsl;have a4:=zq st.1;have a6:(st.1.flatMap aM).take st.1.length=st.1.flatMap aM:=af (by omega);have h7:(st.1.length+1)*8<=room:=by unfold room;omega
  by_cases hc:st'.1=rd.length
  .have ih:=ih0 (i+1) (st.1++[(i:Int)],st'.2) (by omega) (by simp;omega) (by simp only at hsl ⊢;omega);rw[if_pos hc];simp[-length_flatMap,-map_take,q3,q4,q8,q9,q10,q15,q16,q18,q51,q52,q53,hc,h4,a4,a6,h7];exact WL.to ih (by simp) (by simp) λx e J hh=>by simpa using hh
  .have ih:=ih0 (i+1) (st.1,st'.2) (by omega) (by simp only;omega) (by simp only at hsl ⊢;omega);rw[if_neg hc];have hc':¬(st'.1:Int)=rd.length:=by omega
   simp[-length_flatMap,-map_take,q3,q4,q8,q9,q10,q15,q16,q18,q51,q52,q53,hc,hc',h4];exact WL.to ih (by simp) (by simp) λx e J hh=>by simpa using hh
def PB(b:cp)(l:List bE)(aD:List (List Int))(rd:List xB):D :=
 if yK b aD.length rd=0 then
  match yN b aD l with
  |some rs => .db [.aJ (I0 b rd 0 (l.zip rs) ([],[])).1.length ((I0 b rd 0 (l.zip rs) ([],[])).1.flatMap aM),.aJ (I0 b rd 0 (l.zip rs) ([],[])).2.length ((I0 b rd 0 (l.zip rs) ([],[])).2.flatMap vQ),.int .i64 0]
  |none => .db [.aJ 0 [],.aJ 0 [],.int .i64 9]
 else .db [.aJ 0 [],.aJ 0 [],.int .i64 (yK b aD.length rd)]
theorem Gb{l0 a b:Nat}{k:Int}{A B:List D}{S S1 S2:SK}{d1 d2:D}(h1:cC l0 15 d1 S=(.aJ a A,S1))(h2:cC l0 15 d2 S1=(.aJ b B,S2)):cC l0 16 (.db [d1,d2,.int .i64 k]) S=(.db [.aJ a A,.aJ b B,.int .i64 k],S2):=by
 by_cases hc:D.clean (.db [d1,d2,.int .i64 k])=true
 .rw[gW hc (by omega)];simp only[D.clean,D.bj,Bool.and_true,ae]at hc;rw[gW hc.1 (by omega)]at h1;rw[gW hc.2 (by omega)]at h2;cases h1;cases h2;rfl
 .rw[Bj (by simpa using hc) (by omega)];simp only[vH,yA];rw[h1];simp only;rw[h2];simp only;rw[gW (by rfl) (by omega)]
end
section
open Go Go.aA Go.aI Go.dk
variable {J:SK}
theorem E2{α:Type}{f:α->List D}{l:List α}{v t:Nat}{e:Env}{S:SK}(h:aA.get e v=nl f l):aA.get (Nf v (nl f l) e S).1 t=if v=t then .aJ l.length (l.flatMap f)else aA.get e t:=by
 unfold nl at h ⊢;split at h
 .rename_i hl;subst hl;simp
 .rename_i hl;simp[hl];intro hh;subst hh;exact h
theorem Hq{α:Type}{f:α->List D}{l:List α}{v:Nat}{e:Env}{S:SK}:(Nf v (nl f l) e S).2=S:=by
 unfold nl;split<;>simp
theorem Oz{wq:D}{b:cp}{l:List bE}{aD:List (List Int)}{rd:List xB}(hwq:wq.xe=.aJ b.an.length (b.an.flatMap bJ.enc))(h:Ok b l aD)(hl:rd.length<=1000000000)(hw:∀x∈rd,0<=x.si/\x.si<=255)(hJ:J≠[]):
  lim T (.call false 146 [.agg [.int .i64 b.f.x,.int .i64 b.f.y,.int .i64 b.f.z,.int .i64 b.f.k,.aJ b.cn.length (b.cn.flatMap Rw.enc),.int .i64 b.bL,.int .i64 b.lift,.int .i64 b.deep,wq],.aJ l.length (l.flatMap bE.enc),nl Hf aD,.aJ rd.length (rd.flatMap xB.enc)] J)=some (.val (PB b l aD rd) J):=by
 have h1:=λJ=>Ws (J:=J) h
 unfold PB;by_cases c0:40<rd.length
 .have e1:yK b aD.length rd=3:=by simp[yK,c0]
  rw[e1];refine aw yd ou.eq_1 rfl ?_;simp[-length_flatMap,-map_take,hwq,E2,Hq,h1,show(40:Int)<rd.length by omega,cG,bA];have hp:=aN.2 hJ;rw[Gb (Cy (by omega) (by omega) (by simp)) (Cy (by omega) (by omega) (by simp))];simp
 have e1:yK b aD.length rd=cQ (vh b aD.length) rd:=by simp[yK,c0]
 rw[e1];have c0':¬(40:Int)<rd.length:=by omega
 have hL:=TK (J:=J) h (by omega) hw (A:=.cells 0 []) (B:=.cells 0 []) rd.length 0 (by omega);rw[aP]at hL;by_cases c1:cQ (vh b aD.length) rd=0
 .rw[c1]at hL;rw[if_pos c1];have hx:∀x∈rd,WS b aD.length x:=λx hx=>WS.of (wQ c1 x hx)
  refine Io yd ou.eq_1 rfl rfl ?_;cases hrs:yN b aD l with
  |none =>
   have h2:=λJ=>Tt (J:=J) h hrs
   have hX:xf T (.fn 189 [] []) [.ref J.length 2 0 0] (some (.va 313 (.agg []))) ([.cells 0 [],.cells 0 [],.cells 0 [.int .i64 0]]::J)=some ([.cells 0 [],.cells 0 [],.cells 0 [.int .i64 9]]::J):=uh RD;simp[-length_flatMap,-map_take,JU,zV,hwq,E2,Hq,h1,c0',cG,bA];refine WL.to hL (by simp) (by simp) ?_;intro x e J' hh;rw[if_pos rfl]at hh;obtain⟨rfl,rfl,g1,g2,g3,g4,g8,g9,g10⟩:=hh;simp[-length_flatMap,-map_take,JU,zV,g1,g2,g3,g4,g8,g9,g10,cG,bA];rw[yZ o7.eq_1];simp[-length_flatMap,-map_take,JU,zV,g1,g2,g3,g4,g8,g9,g10,h2,hX,cG,bA,bh];have hp:=aN.2 hJ;rw[Gb (Cy (by omega) (by omega) (by simp)) (Cy (by omega) (by omega) (by simp))];simp
  |some rs =>
   have hR:=Rs.of h hrs;have h2:=λJ hJ=>Tu (J:=J) h hJ hrs hR.len
   simp[-length_flatMap,-map_take,JU,zV,hwq,E2,Hq,h1,c0',cG,bA];refine WL.to hL (by simp) (by simp) ?_;intro x e J' hh;rw[if_pos rfl]at hh;obtain⟨rfl,rfl,g1,g2,g3,g4,g8,g9,g10⟩:=hh;simp[-length_flatMap,-map_take,JU,zV,g1,g2,g3,g4,g8,g9,g10,cG,bA];rw[yZ o7.eq_1];simp[-length_flatMap,-map_take,JU,zV,g1,g2,g3,g4,g8,g9,g10,h2,cG,bA,bh];refine WL.to (Z7 (J:=J) h hR (by omega) hx (B:=.cells 0 [.int .i64 0]) l.length 0 ([],[]) (by omega) (by simp) (by simp)) (by simp) (by simp) ?_;rintro x e J' ⟨rfl,st,hst,q8,q9,q10,rfl⟩;rw[aP]at hst;rw[<- hst];have hX:xf T (.fn 189 [] []) [.ref J.length 2 0 0] none ([.cells st.1.length (st.1.flatMap aM),.cells st.2.length (st.2.flatMap vQ),.cells 0 [.int .i64 0]]::J)=some ([.cells st.1.length (st.1.flatMap aM),.cells st.2.length (st.2.flatMap vQ),.cells 0 [.int .i64 0]]::J):=uh Ib;simp[-length_flatMap,-map_take,JU,zV,q8,q9,q10,g10,hX];rw[Gb (wV (n:=15) (f:=aM) (w:=1) (l:=st.1) (by decide) (λ_=>rfl) (λx=>by simp) hJ (by simp)) (wV (n:=15) (f:=vQ) (w:=3) (l:=st.2) (by decide) (λ_=>rfl) (λx=>by simp[vQ]) hJ (by simp))];simp
 .simp only[c1,if_false];refine aw yd ou.eq_1 rfl ?_;simp[-length_flatMap,-map_take,hwq,E2,Hq,h1,c0',cG,bA];refine WL.to hL (by simp) (by simp) ?_;intro x e J' hh;rw[if_neg c1]at hh;obtain⟨rfl,g8,g9,g10,rfl⟩:=hh;simp[g8,g9,g10]
end
end Go.Proofs.YtanhdobabijmoaaGreatDoor
namespace Go.dk
open List(length_flatMap map_take)
open Go Go.aA Go.aI
def Oq(lo hi s:Int):Int:=if hi<s\/s<lo then s else lo
end Go.dk
namespace Go.Proofs.YtanhdobabijmoaaGreatDoor
open List(length_flatMap map_take)
open Go Go.aA Go.aI Go.dk
variable {J:SK}
def xV(b:Bk)(x:xB)(m:bE):Int:=match aI.run b.bz m b.aD with
 |some r=>Oq x.lo x.hi (wZ b.bz m r x)
 |none=>x.lo
theorem Rc{b:cp}{m:bE}{aD:List (List Int)}{x:xB}{r:RunT}(hr:yK b aD.length [x]=0)(hrun:aI.run b m aD=some r):
  ∃n A,PB b [m] aD [x]=.db [.aJ n A,.aJ (if CF x.lo x.hi (wZ b m r x)=0 then 0 else 1) (if CF x.lo x.hi (wZ b m r x)=0 then []else vQ (0,0,CF x.lo x.hi (wZ b m r x))),.int .i64 0]/\D.bj A=true:=by
 have h1:yN b aD [m]=some [r]:=by simp[yN,hrun]
 refine⟨(I0 b [x] 0 [(m,r)] ([],[])).1.length,(I0 b [x] 0 [(m,r)] ([],[])).1.flatMap aM,?_,bh _⟩;unfold PB;rw[if_pos hr,h1];by_cases hz:CF x.lo x.hi (wZ b m r x)=0<;>simp[I0,AB,DM,hz]
theorem Yt{b:cp}{m:bE}{aD:List (List Int)}{x:xB}(hr:yK b aD.length [x]≠0):PB b [m] aD [x]=.db [.aJ 0 [],.aJ 0 [],.int .i64 (yK b aD.length [x])]:=by
 unfold PB;rw[if_neg hr]
theorem Da{b:cp}{n:Int}{x:xB}:yK b n [x]=vh b n x:=by
 simp only[yK,av,aV,cQ];by_cases h:vh b n x=0<;>simp[h]
theorem DO{b:Bk}{m:bE}{x:xB}(ht:b.bz.cn≠[])(hok:Ok b.bz [m] b.aD)(hw:0<=x.si/\x.si<=255)(hJ:J≠[]):
  lim T (.call false 146 [.agg [.int .i64 b.bz.f.x,.int .i64 b.bz.f.y,.int .i64 b.bz.f.z,.int .i64 b.bz.f.k,nl Rw.enc b.bz.cn,.int .i64 b.bz.bL,.int .i64 b.bz.lift,.int .i64 b.bz.deep,nl bJ.enc b.bz.an],.aJ 1 [.str m.name,.aJ m.aU.length (m.aU.flatMap aM)],nl pE b.aD,.aJ 1 x.enc] J)=some (.val (PB b.bz [m] b.aD [x]) J):=by
 have h:=Oz (J:=J) (wq:=nl bJ.enc b.bz.an) vc hok (rd:=[x]) (by simp) (by intro y hy;simp at hy;subst hy;exact hw) hJ;rw[dW ht];simpa[O5]using h
theorem Wq{F:List aA.aO}{b:Bk}{er:List Int}{m:bE}{x:xB}{w:Int}{r:RunT}(ht:b.bz.cn≠[])(hok:Ok b.bz [m] b.aD)(hw:0<=x.si/\x.si<=255)(hr:vh b.bz b.aD.length x=0)(hrun:aI.run b.bz m b.aD=some r):
  lim T (.call false 147 [.agg [.str m.name,.aJ m.aU.length (m.aU.flatMap aM)],.bq [.ref J.length 6 0 0],.ref (J.length+1+1) 0 0 0,.bq [.aJ 4 [.int .i64 w,.int .i64 x.idx,.int .i64 x.lo,.int .i64 x.hi]]] ([]::[.cells 0 x.enc]::F::b.bB J.length er::J))=some (.val (.int .i64 (xV b x m)) ([]::[.cells 0 x.enc]::F::b.bB J.length er::J)):=by
 refine aw BZ lL.eq_1 rfl ?_;have hS:=λS hS=>DO (J:=S) ht hok hw hS
 obtain⟨n,A,h1,hA⟩:=Rc (b:=b.bz) (m:=m) (aD:=b.aD) (x:=x) (by rw[Da];exact hr) hrun;rw[h1]at hS;have hd:=WS.of hr;have hb:=Q2 (hok.fv m (by simp)) (MK.of (hok.fv m (by simp)) hok.aW hrun) hd;obtain⟨e1,e2,e3⟩:=hd.ends;have hv:xV b x m=Oq x.lo x.hi (wZ b.bz m r x):=by simp[xV,hrun]
 rw[hv];have hm:=Pe (lo:=x.lo) (hi:=x.hi) (s:=wZ b.bz m r x) e2;generalize wZ b.bz m r x=s at *
 simp only[xB.enc]at hS ⊢;unfold Fc at hm;by_cases c1:x.hi<s
 .rw[if_pos c1]at hm;have c2:¬s-x.hi=0:=by omega
  have c3:0<s-x.hi:=by omega
  have w1:IntKind.i64.wrap (x.hi+(s-x.hi))=s:=by rw[show x.hi+(s-x.hi)=s by omega];exact eQ
  have hq:Oq x.lo x.hi s=s:=by simp[Oq,c1]
  rw[hm]at hS;simp[-length_flatMap,-map_take,Bk.bB,Bk.cells,hS,c1,(show ¬s<=x.hi by omega),c2,c3,w1,hq,vQ,hA]
 .rw[if_neg c1]at hm;by_cases c4:s<x.lo
  .rw[if_pos c4]at hm;have c2:¬s-x.lo=0:=by omega
   have c3:¬0<s-x.lo:=by omega
   have w1:IntKind.i64.wrap (x.lo+(s-x.lo))=s:=by rw[show x.lo+(s-x.lo)=s by omega];exact eQ
   have hq:Oq x.lo x.hi s=s:=by simp[Oq,c4]
   rw[hm]at hS;simp[-length_flatMap,-map_take,Bk.bB,Bk.cells,hS,(show ¬x.lo<s by omega),c2,c3,w1,hq,vQ,hA]
  .rw[if_neg c4]at hm;have hq:Oq x.lo x.hi s=x.lo:=by simp[Oq,c1,c4]
   rw[hm]at hS;simp[-length_flatMap,-map_take,Bk.bB,Bk.cells,hS,hq,hA]
def yo(b:Bk)(x:xB):Bk×Int :=
 if cm b.aj=[]then(b,8)else if cj x.si 0 255=true then(if vh b.bz b.aD.length x=0 then(gp b x.lo x.hi (xV b x),0)else(b,vh b.bz b.aD.length x))else(b,1)
theorem Wr{F:List aA.aO}{b:Bk}{er:List Int}{nm:List UInt8}{w i lo hi:Int}{b':Bk}{e:Int}(ht:b.bz.cn≠[])(hw:b.kN.length=b.aj.length)(hml:b.aj.length<=40)(hok:∀e∈b.aj,Ok b.bz [e.m] b.aD)(hrun:∀e∈b.aj,e.left=true->∃r,aI.run b.bz e.m b.aD=some r)(hd:yo b ⟨b.aD.length,w,i,lo,hi⟩=(b',e))(he:e=0):
  lim T (.call false 105 [.ref J.length 6 0 0,.str nm,.aJ 4 [.int .i64 w,.int .i64 i,.int .i64 lo,.int .i64 hi]] (F::b.bB J.length er::J))=some (.val (.db []) (F::b'.bB J.length er::J)):=by
 refine dN xk j5.eq_1 rfl (by simp) ?_;unfold yo at hd;split at hd
 case isTrue=>cases hd;cases he
 rename_i c1;split at hd
 case isFalse=>cases hd;cases he
 rename_i c2;split at hd
 case isFalse=>cases hd;rename_i h;exact absurd he h
 rename_i c3;cases hd;have c2i:=bk.1 c2;have q1:0<(cm b.aj).length:=aN.2 c1;have hLf:=λS=>FH (J:=J) (b:=b) (er:=er) (S:=S) (by omega)
 obtain⟨e0,ls,hls⟩:∃e0 ls,cm b.aj=e0::ls:=by
  cases h:cm b.aj with
  |nil=>exact absurd h c1
  |cons a l=>exact⟨a,l,rfl⟩
 have he0:e0∈b.aj/\e0.left=true:=cX.1 (show e0∈cm b.aj by rw[hls];simp);obtain⟨r0,hr0⟩:=hrun e0 he0.1 he0.2;have w1:IntKind.u8.wrap w=w:=wu8 (by omega);have hS:=λS hS=>DO (J:=S) (x:=⟨b.aD.length,w,i,lo,hi⟩) ht (hok e0 he0.1) (by simpa using c2i) hS
 obtain⟨n,A,h1,hA⟩:=Rc (b:=b.bz) (m:=e0.m) (aD:=b.aD) (x:=⟨b.aD.length,w,i,lo,hi⟩) (by rw[Da];exact c3) hr0;rw[h1]at hS;have hst:=MD (J:=J) (A:=[.cells 0 (xB.enc ⟨b.aD.length,w,i,lo,hi⟩)]) (F:=F) (b:=b) (er:=er) (lo:=lo) (hi:=hi) (val:=xV b ⟨b.aD.length,w,i,lo,hi⟩) (fv:=.fn 147 [] [.bq [.ref J.length 6 0 0],.ref (J.length+1+1) 0 0 0,.bq [.aJ 4 [.int .i64 w,.int .i64 i,.int .i64 lo,.int .i64 hi]]]) rfl rfl hw hml (by
  intro k e he hl;obtain⟨r,hr⟩:=hrun e he hl;have h:=Wq (J:=J) (F:=F) (er:=er) (b:=b.jd lo hi (xV b ⟨b.aD.length,w,i,lo,hi⟩) k) (m:=e.m) (x:=⟨b.aD.length,w,i,lo,hi⟩) (w:=w) ht (hok e he) (by simpa using c2i) c3 hr;rw[td];have h':lim T (.call false 147 ([]++[.agg [.str e.m.name,.aJ e.m.aU.length (e.m.aU.flatMap aM)]]++[.bq [.ref J.length 6 0 0],.ref (J.length+1+1) 0 0 0,.bq [.aJ 4 [.int .i64 w,.int .i64 i,.int .i64 lo,.int .i64 hi]]]) ([]::[.cells 0 (xB.enc ⟨b.aD.length,w,i,lo,hi⟩)]::F::(b.jd lo hi (xV b ⟨b.aD.length,w,i,lo,hi⟩) k).bB J.length er::J))=_:=h;rw[h'];rfl)
 rw[hls]at hLf;simp only[Bk.bB,Bk.cells,xB.enc]at hst hLf hS;have hcl:∀T,D.bj (if T=0 then []else vQ (0,0,T))=true:=λT=>by split<;>simp[vQ]
 simp[-length_flatMap,-map_take,Bk.bB,Bk.cells,hLf,cr,eA,c2,w1,hS,oQ,hA,hcl,hst,bh]
theorem Tm{F:List aA.aO}{b:Bk}{er:List Int}{nm:List UInt8}{w i lo hi:Int}{b':Bk}{e:Int}(ht:cm b.aj≠[]->b.bz.cn≠[])(hml:b.aj.length<=40)(hok:∀e∈b.aj,Ok b.bz [e.m] b.aD)(hd:yo b ⟨b.aD.length,w,i,lo,hi⟩=(b',e))(he:e≠0):
  lim T (.call false 105 [.ref J.length 6 0 0,.str nm,.aJ 4 [.int .i64 w,.int .i64 i,.int .i64 lo,.int .i64 hi]] (F::b.bB J.length er::J))=some (.fp (rf e) (F::b.bB J.length er::J)):=by
 refine dM xk j5.eq_1 rfl ?_;have hLf:=λS=>FH (J:=J) (b:=b) (er:=er) (S:=S) (by omega)
 simp only[Bk.bB,Bk.cells]at hLf;unfold yo at hd;split at hd
 case isTrue c1 =>
  cases hd;simp[-length_flatMap,-map_take,Bk.bB,Bk.cells,hLf,c1,dq,D.clean,rf]
 rename_i c1;have ht:=ht c1;have q1:0<(cm b.aj).length:=aN.2 c1;split at hd
 case isFalse c2 =>
  cases hd;have c2':cj w 0 255=false:=by simpa using c2
  simp[-length_flatMap,-map_take,Bk.bB,Bk.cells,hLf,q1,eA,c2',cr,dq,D.clean,rf]
 rename_i c2;have c2i:=bk.1 c2;split at hd
 case isTrue=>cases hd;exact absurd rfl he
 rename_i c3;cases hd;obtain⟨e0,ls,hls⟩:∃e0 ls,cm b.aj=e0::ls:=by
  cases h:cm b.aj with
  |nil=>exact absurd h c1
  |cons a l=>exact⟨a,l,rfl⟩
 have he0:e0∈b.aj/\e0.left=true:=cX.1 (show e0∈cm b.aj by rw[hls];simp);have w1:IntKind.u8.wrap w=w:=wu8 (by omega);have hS:=λS hS=>DO (J:=S) (x:=⟨b.aD.length,w,i,lo,hi⟩) ht (hok e0 he0.1) (by simpa using c2i) hS
 rw[Yt (by rw[Da];exact c3),Da]at hS;have hM:=λJ=>qX (J:=J) c3
 generalize vh b.bz b.aD.length ⟨b.aD.length,w,i,lo,hi⟩=err at hS hM c3 he ⊢;have hrc:(D.va 116 (.agg [.int .i64 err])).clean=true:=rfl;rw[hls]at hLf;simp only[xB.enc]at hS;simp[-length_flatMap,-map_take,Bk.bB,Bk.cells,hLf,cr,eA,c2,w1,hS,hM,bh,rf,hrc]
end Go.Proofs.YtanhdobabijmoaaGreatDoor
namespace Go.dk
open List(length_flatMap map_take)
open Go Go.aA Go.aI
def OU:List Prt->Int
 |[]=>0
 |p::l=>p.width+OU l
def Bs:List Prt->Int->Int
 |[],_=>0
 |p::l,m=>p.xh*min m p.width+Bs l (m-min m p.width)
def KO:List Prt->Int->Int
 |[],m=>m
 |p::l,m=>KO l (m-min m p.width)
def Ew(l:List Prt):Prop:=∀p∈l,(0<=p.xh/\p.xh<=1000)/\1<=p.width/\p.width<=100000
theorem Cw:∀{l:List Prt} {last:Int},last<=1000->zW last l=true->Ew l
 |[],_,_,_=>by intro p hp;cases hp
 |q::l,last,hl,h=>by
  simp only[zW,Prt.ok,ae,bk]at h;intro p hp;rcases aY.1 hp with rfl | hp
  .omega
  .exact Cw (by omega) h.2 p hp
theorem Pm:∀{l:List Prt} {m:Int},Ew l->0<=m->0<=Bs l m/\Bs l m<=1000*m
 |[],m,_,hm=>by simp[Bs];omega
 |p::l,m,h,hm=>by
  have h1:=h p (by simp);have h2:=Pm (l:=l) (m:=m-min m p.width) (λq hq=>h q (by simp[hq])) (by omega);have h3:0<=p.xh*min m p.width:=cZ h1.1.1 (by omega);have h4:p.xh*min m p.width<=1000*min m p.width:=eR h1.1.2 (by omega);simp only[Bs];omega
end Go.dk
namespace Go.Proofs.YtanhdobabijmoaaGreatDoor
open List(length_flatMap map_take)
open Go Go.aA Go.aI Go.dk
variable {J:SK}
theorem YM{l:List Prt}(hs:Ew l)(hl:l.length<=8):∀(m i:Nat) (out:Int),i+m=l.length->0<=out->out<=100000*i ->
  WL T [2,6,7,8] false fF [(2,.int .i64 out),(6,.aJ l.length (l.flatMap Prt.enc)),(7,.int .i64 l.length),(8,.int .i64 i)] J
   (λx e J'=>x=.exit 0/\J'=J/\get e 2=.int .i64 (out+OU (l.drop i)))
 |0,i,out,hi,h0,ho=>by
  refine aH fF.eq_1 ?_;have h1:¬i<l.length:=by omega
  have h2:l.drop i=[]:=aE (by omega);simp[-length_flatMap,-map_take,h1,h2,OU]
 |m+1,i,out,hi,h0,ho=>by
  refine aH fF.eq_1 ?_;have h1:i<l.length:=by omega
  obtain⟨p,hp⟩:=gE h1;have hfl:=bX (f:=Prt.enc) (w:=2) (λ_=>rfl) hp;have hd:=drop_at hp;have h4:=dJ h1;have hb:=hs p (ai hp);have w1:IntKind.i64.wrap (out+p.width)=out+p.width:=eQ;have ih:=YM hs hl m (i+1) (out+p.width) (by omega) (by omega) (by omega);rw[hd,OU];simp[-length_flatMap,-map_take,h1,hfl,h4,w1];exact WL.to ih (by simp) rfl λx e J' hh=>by simpa[Int.add_assoc]using hh
theorem OC{u:yY}(hs:Ew u.parts)(hl:u.parts.length<=8):lim T (.call false 202 [.agg u.enc] J)=some (.val (.int .i64 (OU u.parts)) J):=by
 refine aw B4 lN.eq_1 rfl ?_;simp[-length_flatMap,-map_take,A9];refine WL.to (YM (J:=[]::J) hs hl u.parts.length 0 0 (by omega) (by omega) (by omega)) (by simp) rfl ?_;rintro x e J' ⟨rfl,rfl,g2⟩;simp[-length_flatMap,-map_take,g2]
def XK(L:Nat):xZ:={state:=0,yJ:=none,env:=[(4,.ref L 0 0 0)],params:=[10,11],AY:=iK,body:=iL }
def Oc(J:SK)(out mass:Int):SK:=[.cells 0 [.int .i64 out],.cells 0 [.int .i64 mass],.loop (XK J.length)]::J
theorem WQ{p:Prt}{out mass m:Int}(hp:(0<=p.xh/\p.xh<=1000)/\1<=p.width/\p.width<=100000)(hm:0<=m/\m<=1000000)(ho:0<=out/\out<=1000000000000):
  lim T (.round J.length 2 [.agg p.enc,.int .i64 m] ([]::Oc J out mass))=some (.val (.bool true) ([]::Oc J (out+p.xh*m) mass)):=by
 have q1:0<=p.xh*m:=cZ hp.1.1 hm.1;have q2:p.xh*m<=1000*1000000:=kO hp.1.2 hm.2 hm.1 (by omega);have w1:IntKind.i64.wrap (p.xh*m)=p.xh*m:=eQ;have w2:IntKind.i64.wrap (out+p.xh*m)=out+p.xh*m:=eQ;refine N2 (lp:=XK J.length) (by simp[Oc]) rfl ?_;rw[show(XK J.length).AY=iK from rfl,iK.eq_1,show(XK J.length).body=iL from rfl];simp[-length_flatMap,-map_take,yZ iL.eq_1,XK,Oc,Si,w1,w2]
theorem TO{l:List Prt}(hs:Ew l)(hl:l.length<=8):∀(k i:Nat) (out m:Int),i+k=l.length->0<=m->m<=1000000->0<=out->out<=1000000000*i ->
  WL T [0,2,8,9,10] false gH [(0,.jm J.length 2),(2,.ref J.length 1 0 0),(8,.aJ l.length (l.flatMap Prt.enc)),(9,.int .i64 l.length),(10,.int .i64 i)] ([]::Oc J out m)
   (λx e J'=>x=.exit 0/\J'=[]::Oc J (out+Bs (l.drop i) m) (KO (l.drop i) m))
 |0,i,out,m,hi,hm,hm2,h0,ho=>by
  refine aH gH.eq_1 ?_;have h1:¬i<l.length:=by omega
  have h2:l.drop i=[]:=aE (by omega);simp[-length_flatMap,-map_take,h1,h2,Bs,KO]
 |k+1,i,out,m,hi,hm,hm2,h0,ho=>by
  refine aH gH.eq_1 ?_;have h1:i<l.length:=by omega
  obtain⟨p,hp⟩:=gE h1;have hfl:=bX (f:=Prt.enc) (w:=2) (λ_=>rfl) hp;have hd:=drop_at hp;have h4:=dJ h1;have hb:=hs p (ai hp);have hmn:0<=min m p.width/\min m p.width<=m:=by omega
  have hR:=WQ (J:=J) (p:=p) (out:=out) (mass:=m) (m:=min m p.width) hb (by omega) (by omega);have q1:0<=p.xh*min m p.width:=cZ hb.1.1 hmn.1;have q2:p.xh*min m p.width<=1000*1000000:=kO hb.1.2 (by omega) hmn.1 (by omega);have w1:IntKind.i64.wrap (m-min m p.width)=m-min m p.width:=eQ;have ih:=TO hs hl k (i+1) (out+p.xh*min m p.width) (m-min m p.width) (by omega) (by omega) (by omega) (by omega) (by omega);rw[hd,Bs,KO];simp only[Oc,Prt.enc]at hR;simp[-length_flatMap,-map_take,h1,hfl,h4,Oc,hR,w1];exact WL.to ih (by simp) (by simp[Oc]) λx e J' hh=>by simpa[Int.add_assoc,Oc]using hh
theorem ZX{u:yY}{mass:Int}{bs:List aA.aO}:lim T (.call true 247 [.agg u.enc,.int .i64 mass] (bs::J))=some (.val (.fn 278 [] [.bq u.enc,.ref J.length bs.length 0 0]) ((bs++[.cells 0 [.int .i64 mass]])::J)):=by
 refine xE EG rj.eq_1 rfl ?_;simp[-length_flatMap,-map_take,A9]
theorem Wz{u:yY}{out m:Int}(hs:Ew u.parts)(hl:u.parts.length<=8)(hm:0<=m/\m<=1000000)(h0:0<=out/\out<=0):
  lim T (.call false 278 [.jm J.length 2,.bq u.enc,.ref J.length 1 0 0] (Oc J out m))=some (.val (.db []) (Oc J (out+Bs u.parts m) (KO u.parts m))):=by
 refine dN Dp nL.eq_1 rfl (by simp[Oc]) ?_;have h:=TO (J:=J) hs hl u.parts.length 0 out m (by omega) hm.1 hm.2 h0.1 (by omega);rw[aP]at h;simp[-length_flatMap,-map_take];refine WL.to h (by simp) (by simp) ?_;rintro x e J' ⟨rfl,rfl⟩;simp
theorem Wm{u:yY}{m:Int}(hs:Ew u.parts)(hl:u.parts.length<=8)(hm:0<=m/\m<=1000000):
  lim T (.call false 203 [.agg u.enc,.int .i64 m] J)=some (.val (.int .i64 (Bs u.parts m)) J):=by
 refine aw DV oW.eq_1 rfl ?_;have hU:=λbs=>ZX (J:=J) (u:=u) (mass:=m) (bs:=bs)
 have h1:=Wz (J:=J) (u:=u) (out:=0) hs hl hm (by omega);simp only[yY.enc]at hU h1 ⊢;simp[-length_flatMap,-map_take,hU,A9];refine Qj (d:=.db []) (J2:=Oc J (0+Bs u.parts m) (KO u.parts m)) (lp:=XK J.length) (by simp;exact⟨rfl,rfl,rfl⟩) ?_ (by simp[Oc]) (by simp[XK]) ?_
 .simpa[Oc,XK]using h1
 .simp[-length_flatMap,-map_take,Oc,XK]
def M5(u:yY)(s:zN):Int:=if s.valid=true then(if OU u.parts<s.m then 2 else if s.h<Bs u.parts s.m then 9 else 0)else 1
theorem Jj{s:zN}:lim T (.call false 246 [.agg s.enc] J)=some (.val (.int .i64 (if s.valid then 0 else 1)) J):=by
 refine aw Dv nR.eq_1 rfl ?_;have h:=λJ=>HK (J:=J) (x:=s)
 simp only[zN.enc]at h ⊢;cases hc:s.valid<;>rw[hc]at h<;>simp[-length_flatMap,-map_take,h]
theorem To{s:zN}:lim T (.call false 245 [.agg s.enc] J)=some (.val (.bool s.valid) J):=by
 refine aw G3 tG.eq_1 rfl ?_;have h:=λJ=>Jj (J:=J) (s:=s)
 simp only[zN.enc]at h ⊢;cases hc:s.valid<;>rw[hc]at h<;>simp[-length_flatMap,-map_take,h]
theorem Tp{s:zN}:lim T (.call false 201 [.aJ 1 s.enc] J)=some (.val (.bool s.valid) J):=by
 refine aw Jv v8.eq_1 rfl ?_;have h:=λJ=>AX (yt 4 zN.enc (λ_=>rfl)) (T:=T) (J:=J) (f:=244) (g:=277) (h:=276) (i:=290) (l:=[s]) (p:=zN.valid) (fv:=.fn 245 [] []) rfl rfl rfl rfl (by simp) (oJ.fn λx _ J=>To) rfl
 simp only[yt,List.length_singleton,aS,bM,ct,fL,jh,List.all_nil,Bool.and_true]at h;simp only[zN.enc]at h ⊢;simp[-length_flatMap,-map_take,h]
def Xg(u:yY)(s:zN):D:=if M5 u s=0 then .db [.agg [.int .i64 s.m,.int .i64 (s.h-Bs u.parts s.m),.int .i64 s.s,.int .i64 s.g],.int .i64 (Bs u.parts s.m),.int .i64 0]else .db [.agg [.int .i64 0,.int .i64 0,.int .i64 0,.int .i64 0],.int .i64 0,.int .i64 (M5 u s)]
theorem SZ{u:yY}{s:zN}(hu:u.ok=true):lim T (.call false 150 [.agg u.enc,.agg s.enc] J)=some (.val (Xg u s) J):=by
 refine aw H2 uL.eq_1 rfl ?_;have hok:=hu;simp only[yY.ok,ae,bk]at hok;have hl:u.parts.length<=8:=by omega
 have hs:=Cw (by omega) hok.2.2;have hV:=λJ=>ME (J:=J) (u:=u) (by omega)
 have hR:=λJ=>Tp (J:=J) (s:=s)
 have hC:=λJ=>OC (J:=J) hs hl
 rw[hu]at hV;simp only[yY.enc,zN.enc]at hV hR hC ⊢;unfold Xg M5;cases c1:s.valid
 .rw[c1]at hR;simp[-length_flatMap,-map_take,hV,hR,A9]
 rw[c1]at hR;simp only[zN.valid,ae,bk]at c1;by_cases c2:OU u.parts<s.m
 .simp[-length_flatMap,-map_take,hV,hR,hC,c2,A9]
 have hP:=λJ=>Wm (J:=J) (m:=s.m) hs hl c1.1
 simp only[yY.enc]at hP;have hb:=Pm hs c1.1.1;by_cases c3:s.h<Bs u.parts s.m
 .simp[-length_flatMap,-map_take,hV,hR,hC,hP,c2,c3,A9]
 have w1:IntKind.i64.wrap (s.h-Bs u.parts s.m)=s.h-Bs u.parts s.m:=eQ;simp[-length_flatMap,-map_take,hV,hR,hC,hP,c2,c3,w1,A9]
theorem Rm{t:List Rw}(ht:jV t=true){i:Nat}{r:Rw}(hi:t[i]?=some r){x:zN}(hx:x.valid=false):
  lim T (.call false 149 [.aJ t.length (t.flatMap Rw.enc),.int .i64 i,.agg x.enc] J)=some (.val (.db [.agg (List.replicate 10 (.int .i64 0)),.int .i64 1]) J):=by
 refine aw DE tt.eq_1 rfl ?_;have hl:t.length<=20:=by
  simp only[jV,ae]at ht;have:=bk.1 ht.1;omega
 have hil:i<t.length:=(ar.1 hi).1;have h1:=λJ=>DP (J:=J) (t:=t) (by omega)
 have h2:=λJ=>YI (J:=J) (t:=t) (n:=i) (by omega)
 have h3:=λJ=>HK (J:=J) (x:=x)
 have hin:cj i 0 ((t.length:Int)-1)=true:=bk.2 (by omega);rw[hin]at h2;rw[hx]at h3;rw[ht]at h1;simp only[zN.enc]at h3;simp[-length_flatMap,-map_take,h1,h2,h3,List.replicate]
def NS:List Int->Int
 |[]=>0
 |x::l=>l.foldl min x
def NQ:List Int->Int
 |[]=>0
 |x::l=>l.foldl max x
theorem YQ{l:List Int}(hl:l.length<=1000000):∀(m i:Nat) (a:Int),i+m=l.length ->
  WL T [0,3,4] false ke [(0,.aJ l.length (l.flatMap aM)),(3,.int .i64 a),(4,.int .i64 i)] J (λx e J'=>x=.exit 0/\J'=J/\get e 3=.int .i64 ((l.drop i).foldl min a))
 |0,i,a,hi=>by
  refine aH ke.eq_1 ?_;have h1:¬i<l.length:=by omega
  have h2:l.drop i=[]:=aE (by omega);simp[-length_flatMap,-map_take,h1,h2]
 |m+1,i,a,hi=>by
  refine aH ke.eq_1 ?_;have h1:i<l.length:=by omega
  obtain⟨n,hn⟩:=gE h1;have a1:=lU hn;have h4:=dJ h1;rw[drop_at hn];simp[-length_flatMap,-map_take,h1,a1,h4];exact WL.to (YQ hl m (i+1) (min a n) (by omega)) (by simp) rfl λx e J' hh=>by simpa using hh
theorem acS{l:List Int}(hne:l≠[])(hl:l.length<=1000000):lim T (.call false 204 [.aJ l.length (l.flatMap aM)] J)=some (.val (.int .i64 (NS l)) J):=by
 refine aw FR sB.eq_1 rfl ?_;have h0:0<l.length:=aN.2 hne;obtain⟨x,r,rfl⟩:∃x r,l=x::r:=by
  cases l with
  |nil=>exact absurd rfl hne
  |cons x r=>exact⟨x,r,rfl⟩
 have h1:¬((r.length:Int)+1<1):=by omega
 have h2:(0:Int)<(r.length:Int)+1:=by omega
 simp[-length_flatMap,-map_take,h1,h2];refine WL.to (YQ (J:=[]::J) hl r.length 1 x (by simp;omega)) (by simp) rfl ?_;rintro x e J' ⟨rfl,rfl,g3⟩;simp[-length_flatMap,-map_take,g3,NS]
theorem YP{l:List Int}(hl:l.length<=1000000):∀(m i:Nat) (a:Int),i+m=l.length ->
  WL T [0,3,4] false kc [(0,.aJ l.length (l.flatMap aM)),(3,.int .i64 a),(4,.int .i64 i)] J (λx e J'=>x=.exit 0/\J'=J/\get e 3=.int .i64 ((l.drop i).foldl max a))
 |0,i,a,hi=>by
  refine aH kc.eq_1 ?_;have h1:¬i<l.length:=by omega
  have h2:l.drop i=[]:=aE (by omega);simp[-length_flatMap,-map_take,h1,h2]
 |m+1,i,a,hi=>by
  refine aH kc.eq_1 ?_;have h1:i<l.length:=by omega
  obtain⟨n,hn⟩:=gE h1;have a1:=lU hn;have h4:=dJ h1;rw[drop_at hn];simp[-length_flatMap,-map_take,h1,a1,h4];exact WL.to (YP hl m (i+1) (max a n) (by omega)) (by simp) rfl λx e J' hh=>by simpa using hh
theorem acR{l:List Int}(hne:l≠[])(hl:l.length<=1000000):lim T (.call false 205 [.aJ l.length (l.flatMap aM)] J)=some (.val (.int .i64 (NQ l)) J):=by
 refine aw FQ sA.eq_1 rfl ?_;have h0:0<l.length:=aN.2 hne;obtain⟨x,r,rfl⟩:∃x r,l=x::r:=by
  cases l with
  |nil=>exact absurd rfl hne
  |cons x r=>exact⟨x,r,rfl⟩
 have h1:¬((r.length:Int)+1<1):=by omega
 have h2:(0:Int)<(r.length:Int)+1:=by omega
 simp[-length_flatMap,-map_take,h1,h2];refine WL.to (YP (J:=[]::J) hl r.length 1 x (by simp;omega)) (by simp) rfl ?_;rintro x e J' ⟨rfl,rfl,g3⟩;simp[-length_flatMap,-map_take,g3,NQ]
theorem ZT{l:List Int}(hne:l≠[])(hl:l.length<=1000000):lim T (.call false 151 [.aJ l.length (l.flatMap aM)] J)=some (.val (.agg [.int .i64 (NS l),.int .i64 (NQ l)]) J):=by
 refine aw H0 uK.eq_1 rfl ?_;have h1:=λJ=>acS (J:=J) hne hl
 have h2:=λJ=>acR (J:=J) hne hl
 simp[-length_flatMap,-map_take,h1,h2]
def ae0:Rw:=⟨0,0,0,0,0⟩
def ae1:yY:=⟨0,[]⟩
def rowOf(b:Bk)(lv:Nat):Rw:=(b.bz.cn[lv]?).getD ae0
def CP(b:Bk)(u:Nat):yY:=(b.ew[u]?).getD ae1
def zr(b:Bk)(r:RunT)(w:Nat):zN:=⟨(bZ (rowAt r.2 (b.aD.length-1)) w).m,(bZ (rowAt r.2 (b.aD.length-1)) w).h,0,0⟩
def xX(r:Rw)(x:zN):zN:=⟨iA r x,abP r x,0,abO r x⟩
def CO(b:Bk)(w lv u:Nat)(m:bE):Int:=match aI.run b.bz m b.aD with
 |some r=>if(zr b r w).valid=true then M5 (CP b u) (xX (rowOf b lv) (zr b r w))else 1
 |none=>9
def yO(b:Bk)(w lv u:Nat)(m:bE):Int:=match aI.run b.bz m b.aD with
 |some r=>Bs (CP b u).parts (xX (rowOf b lv) (zr b r w)).m
 |none=>0
def Ft(b:Bk)(J:SK)(w lv u:Nat)(price:Int)(acc:List Int)(rest:List fK)(x:aA.Exit)(e:Env)(J':SK):Prop :=
 if cQ (λe=>CO b w lv u e.m) rest=0 then
  x=.exit 0/\get e 0=.ref (J.length-1-1) 6 0 0/\get e 7=.int .i64 w/\get e 10=.int .i64 price/\get e 11=.sl J.length 0 (acc++rest.map λe=>yO b w lv u e.m).length 0 (acc++rest.map λe=>yO b w lv u e.m).length 1 /\
   J'=[.cells (acc++rest.map λe=>yO b w lv u e.m).length ((acc++rest.map λe=>yO b w lv u e.m).flatMap aM)]::J
 else x=.fp (rf (cQ (λe=>CO b w lv u e.m) rest))/\∃s,J'=s::J
theorem OP{F:List aA.aO}{b:Bk}{er:List Int}{ls:List fK}{w lv u:Nat}{price:Int}(ht:jV b.bz.cn=true)(hok:∀e∈ls,Ok b.bz [e.m] b.aD)(hrun:∀e∈ls,∃r,aI.run b.bz e.m b.aD=some r)(hp:b.aD≠[])(hl:ls.length<=1000000)
  (hw:w<b.bz.an.length) (hlv:lv<b.bz.cn.length) (hu:u<b.ew.length) (huk:∀x∈b.ew,x.ok=true):∀(m i:Nat) (acc:List Int),i+m=ls.length->acc.length=i ->
  WL T [0,7,8,9,10,11,86,87,88] false fY [(0,.ref J.length 6 0 0),(7,.int .i64 w),(8,.int .i64 lv),(9,.int .i64 u),(10,.int .i64 price),(11,.sl (F::b.bB J.length er::J).length 0 i 0 i 1),(86,.aJ ls.length (ls.flatMap fK.enc)),(87,.int .i64 ls.length),(88,.int .i64 i)] ([.cells i (acc.flatMap aM)]::F::b.bB J.length er::J)
   (Ft b (F::b.bB J.length er::J) w lv u price acc (ls.drop i))
 |0,i,acc,hi,ha=>by
  refine aH fY.eq_1 ?_;obtain rfl:i=ls.length:=by omega
  have h5:ls.drop ls.length=[]:=aE (by omega);simp[-length_flatMap,-map_take,h5,Ft,ha,cQ]
 |m+1,i,acc,hi,ha=>by
  refine aH fY.eq_1 ?_;have h1:i<ls.length:=by omega
  obtain⟨e,he⟩:=gE h1;have hem:=ai he;have hO:=hok e hem;obtain⟨r,hr⟩:=hrun e hem;have hfl:=bX (f:=fK.enc) (w:=4) (λ_=>rfl) he;have h4:=dJ h1;have htl:b.bz.cn.length<=20:=by
   simp only[jV,ae]at ht;have:=bk.1 ht.1;omega
  have hE:vf b.bz e.m b.aD=0:=by
   have hfit:=hO.fit e.m (by simp);simp[vf,Bd,hO.valid,hfit,hO.pl,hr]
  have hD:Ay b.bz e.m b.aD=.agg [.aJ r.1.length (r.1.flatMap zC),.aJ r.2.length (r.2.flatMap zC)]:=by
   obtain⟨r1,r2⟩:=r;simp[Ay,hE,hr]
  have hsh:=hO.short e.m (by simp);have hP:=λS hS=>S3 (J:=S) (b:=b.bz) (m:=e.m) (aD:=b.aD) (wq:=nl bJ.enc b.bz.an) vc (by omega) (by have:=hO.bv.an;omega) (by omega) (by omega) (by have:=hO.Su;omega) (λl hl=>by have:=(hO.aW l hl).len;have:=hO.bv.an;omega) hS
  rw[hE,hD,O5]at hP;have htn:b.bz.cn≠[]:=by intro hh;rw[hh]at hlv;simp at hlv
  have hRun:=MK.of (hO.fv e.m (by simp)) hO.aW hr;have hpl:0<b.aD.length:=aN.2 hp;have hpl2:=hO.Su;obtain⟨hrow,hY⟩:=Vh hRun (t:=b.aD.length-1) (by omega);have f1:=bX (f:=zC) (w:=1) (λ_=>rfl) hrow;rw[ec]at f1;have hyw:(rowAt r.2 (b.aD.length-1))[w]?=some (bZ (rowAt r.2 (b.aD.length-1)) w):=by
   have:w<(rowAt r.2 (b.aD.length-1)).length:=by rw[hY.len];exact hw
   simp[bZ,this]
  have f2:=bX (f:=aI.aO.enc) (w:=3) (λ_=>rfl) hyw;have hyl:=hY.len;have w1:IntKind.i64.wrap ((b.aD.length:Int)-1)=b.aD.length-1:=eQ;have t1:((b.aD.length:Int)-1).toNat=b.aD.length-1:=by omega
  have q1:(1:Int)<=b.aD.length:=by omega
  have q2:(b.aD.length:Int)-1<r.2.length:=by rw[hRun.yl];omega
  have hrw:b.bz.cn[lv]?=some (rowOf b lv):=by simp[rowOf,hlv]
  have hun:b.ew[u]?=some (CP b u):=by simp[CP,hu]
  have f3:=bX (f:=yY.enc) (w:=2) (λ_=>rfl) hun;have hul:=Rj b.ew;have q3:2<=b.ew.length*2-u*2:=by omega
  have hX:=λJ=>SZ (J:=J) (u:=CP b u) (s:=xX (rowOf b lv) (zr b r w)) (huk _ (ai hun))
  rw[drop_at he];have hs0:CO b w lv u e.m=if(zr b r w).valid=true then M5 (CP b u) (xX (rowOf b lv) (zr b r w))else 1:=by simp[CO,hr]
  cases c1:(zr b r w).valid with
  |false =>
   have hF:=λJ=>Rm (J:=J) ht hrw c1
   have hM:=λJ=>qX (J:=J) (e:=1) (by decide)
   have hs1:CO b w lv u e.m=1:=by rw[hs0,c1];rfl
   simp only[zN.enc,zr,List.replicate]at hF;simp[-length_flatMap,-map_take,h1,hfl,h4,Bk.bB,Bk.cells,dW htn,dW hp,hP,oQ,bh,f1,f2,w1,t1,q1,q2,hyl,hw,hF,hM,hs1,zC,Ft,cQ]
  |true =>
   have hF:=λJ=>V2 (J:=J) ht hrw c1
   simp only[zN.enc,zr]at hF;have hs1:CO b w lv u e.m=M5 (CP b u) (xX (rowOf b lv) (zr b r w)):=by rw[hs0,c1];rfl
   have hv1:yO b w lv u e.m=Bs (CP b u).parts (xX (rowOf b lv) (zr b r w)).m:=by simp[yO,hr]
   by_cases c2:M5 (CP b u) (xX (rowOf b lv) (zr b r w))=0
   .have hacc:=wU acc;have hta:(acc.flatMap aM).take i=acc.flatMap aM:=af (by omega);have hroom:(i+1)*8<=room:=by unfold room;omega
    have ih:=OP (F:=F) (er:=er) (price:=price) ht hok hrun hp hl hw hlv hu huk m (i+1) (acc++[yO b w lv u e.m]) (by omega) (by simp[ha]);have fin:∀x e' J',Ft b (F::b.bB J.length er::J) w lv u price (acc++[yO b w lv u e.m]) (ls.drop (i+1)) x e' J'->Ft b (F::b.bB J.length er::J) w lv u price acc (e::ls.drop (i+1)) x e' J':=λx e' J' hh=>by
     have hz:CO b w lv u e.m=0:=by rw[hs1,c2]
     simp only[Ft,cQ,hz,if_true,aR,c8,cf]at hh ⊢;exact hh
    unfold Xg at hX;rw[if_pos c2,<- hv1]at hX;simp only[yY.enc,zN.enc,xX,zr]at hX f3;simp[-length_flatMap,-map_take,h1,hfl,h4,Bk.bB,Bk.cells,dW htn,dW hp,hP,oQ,bh,f1,f2,w1,t1,q1,q2,hyl,hw,hF,zC,parts,hu,f3,hul,q3,hX,hroom,hacc,hta,ha];exact WL.to ih (by simp) (by simp[Bk.bB,Bk.cells,dW htn,dW hp]) fin
   .unfold Xg at hX;rw[if_neg c2]at hX;have hM:=λJ=>qX (J:=J) c2
    have hz:CO b w lv u e.m≠0:=by rw[hs1];exact c2
    rw[<- hs1]at hX hM;simp only[yY.enc,zN.enc,xX,zr]at hX f3;simp[-length_flatMap,-map_take,h1,hfl,h4,Bk.bB,Bk.cells,dW htn,dW hp,hP,oQ,bh,f1,f2,w1,t1,q1,q2,hyl,hw,hF,zC,parts,hu,f3,hul,q3,hX,hM,hz,Ft,cQ]
end Go.Proofs.YtanhdobabijmoaaGreatDoor
