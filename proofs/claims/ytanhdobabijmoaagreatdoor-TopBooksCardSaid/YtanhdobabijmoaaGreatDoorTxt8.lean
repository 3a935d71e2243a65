import Derived.Test.YtanhdobabijmoaaGreatDoorTxt7
import Derived.Test.YtanhdobabijmoaaGreatDoorBase14
set_option linter.all false
set_option maxRecDepth 100000
namespace Go.Proofs.YtanhdobabijmoaaGreatDoor
open List(length_flatMap map_take)
section
open Go Go.aA Go.aI Go.dk
variable {J:SK}
theorem ZH{u:Nat}(h:u<12):lim T (.call false 11 [.int .i64 u] J)=some (.val (.str (dp u)) J):=by
 have h1:∀(u:Nat) (J:SK),u<10->lim T (.call false 11 [.int .i64 u] J)=some (.val (.str [UInt8.ofNat (48+u)]) J):=by
  intro u J h;refine aw Ch rQ.eq_1 rfl ?_;have hb:Cs [.int .u8 (IntKind.u8.wrap (IntKind.i64.wrap (48+(u:Int))))]=some [UInt8.ofNat (48+u)]:=by
   rcases(show u=0\/u=1\/u=2\/u=3\/u=4\/u=5\/u=6\/u=7\/u=8\/u=9 by omega)with rfl | rfl | rfl | rfl | rfl | rfl | rfl | rfl | rfl | rfl<;>rfl
  have h0:¬(u:Int)<0:=by omega
  have h1:(u:Int)<10:=by omega
  simp[-length_flatMap,-map_take,lX,UG,h0,h1,h,hb]
 by_cases h2:u<10
 .rw[h1 u J h2];rcases(show u=0\/u=1\/u=2\/u=3\/u=4\/u=5\/u=6\/u=7\/u=8\/u=9 by omega)with rfl | rfl | rfl | rfl | rfl | rfl | rfl | rfl | rfl | rfl<;>rfl
 .refine aw Ch rQ.eq_1 rfl ?_;have i1:∀J,lim T (.call false 11 [.int .i64 1] J)=some (.val (.str [49]) J):=λJ=>h1 1 J (by omega)
  have i0:∀J,lim T (.call false 11 [.int .i64 0] J)=some (.val (.str [48]) J):=λJ=>h1 0 J (by omega)
  rcases(show u=10\/u=11 by omega)with rfl | rfl
  .have w1:IntKind.i64.wrap (Int.tdiv 10 10)=1:=by decide
   have w2:IntKind.i64.wrap (Int.tmod 10 10)=0:=by decide
   have e:dp 10=[49,48]:=rfl;simp[-length_flatMap,-map_take,lX,i1,i0,w1,w2,e]
  .have w1:IntKind.i64.wrap (Int.tdiv 11 10)=1:=by decide
   have w2:IntKind.i64.wrap (Int.tmod 11 10)=1:=by decide
   have e:dp 11=[49,49]:=rfl;simp[-length_flatMap,-map_take,lX,i1,w1,w2,e]
def Sh(ps:List (Int×Int)):List aA.aO:=[.cells ps.length ((ps.map (·.1)).flatMap aM),.cells ps.length ((ps.map (·.2)).flatMap aM)]
theorem P5{ps:List (Int×Int)}(hps:ps.length<=1000000){nm:List UInt8}{k lo hi:Int}{X0 X3 X4 X6 X16 X17:D}(h0:X0.calm=X0)(h3:X3.calm=X3)(h4:X4.calm=X4)(h6:X6.calm=X6)(h16:X16.calm=X16)(h17:X17.calm=X17):∀(m j:Nat),j+m=ps.length ->
  WL T [0,3,4,6,16,17,20,22,23] false lg [(0,X0),(3,X3),(4,X4),(6,X6),(16,X16),(17,X17),(20,.aJ (ps.length*2+3) (.int .i64 k::.int .i64 lo::.int .i64 hi::ps.flatMap vg)),
    (22,.own 0 [.str nm,.int .i64 k,.sl J.length 0 j 0 j 1,.sl J.length 1 j 0 j 1,.int .i64 lo,.int .i64 hi]),(23,.int .i64 (3+j*2))] (Sh (ps.take j)::J)
   (λx e J'=>x=.exit 8/\get e 0=X0/\get e 3=X3/\get e 4=X4/\get e 6=X6/\get e 16=X16/\get e 17=X17 /\
    get e 22=.own 0 [.str nm,.int .i64 k,.sl J.length 0 ps.length 0 ps.length 1,.sl J.length 1 ps.length 0 ps.length 1,.int .i64 lo,.int .i64 hi]/\J'=Sh ps::J)
 |0,j,h=>by
  refine aH lg.eq_1 ?_;have h1:¬(3:Int)+(j:Int)*2<(ps.length:Int)*2+3:=by omega
  have h2:ps.take j=ps:=af (by omega);obtain rfl:j=ps.length:=by omega
  simp[-length_flatMap,-map_take,h0,h3,h4,h6,h16,h17,h1,h2]
 |m+1,j,h=>by
  refine aH lg.eq_1 ?_;have h1:j<ps.length:=by omega
  have h2:(3:Int)+(j:Int)*2<(ps.length:Int)*2+3:=by omega
  have h5:(3:Int)+(j:Int)*2+1<(ps.length:Int)*2+3:=by omega
  have g0:0<=(3:Int)+(j:Int)*2:=by omega
  have g0':0<=(3:Int)+(j:Int)*2+1:=by omega
  obtain⟨p,hp⟩:=gE h1;have hd:=zY (f:=vg) (w:=2) (λ_=>rfl) hp;have hd2:(ps.flatMap vg).drop (j*2+1)=.int .i64 p.2::(ps.flatMap vg).drop (j*2+2):=by
   have:=congrArg (List.drop 1) hd;simpa[vg,fD]using this
  have hd1:(ps.flatMap vg).drop (j*2)=.int .i64 p.1::.int .i64 p.2::(ps.flatMap vg).drop (j*2+2):=by simpa[vg]using hd
  have t1:((3:Int)+(j:Int)*2).toNat=j*2+1+1+1:=by omega
  have t2:((3:Int)+(j:Int)*2+1).toNat=j*2+1+1+1+1:=by omega
  have w1:IntKind.i64.wrap ((3:Int)+(j:Int)*2+1)=3+j*2+1:=eQ;have w2:IntKind.i64.wrap ((3:Int)+(j:Int)*2+2)=3+j*2+2:=eQ;have hl:(ps.take j).length=j:=by simp;omega
  have hr:(j+1)*8<=room:=by unfold room;omega
  have ha:=wU ((ps.take j).map (·.1));have hb:=wU ((ps.take j).map (·.2));simp only[cV,hl]at ha hb;have ta:(((ps.take j).map (·.1)).flatMap aM).take j=((ps.take j).map (·.1)).flatMap aM:=af (by omega);have tb:(((ps.take j).map (·.2)).flatMap aM).take j=((ps.take j).map (·.2)).flatMap aM:=af (by omega);have ih:=P5 hps (nm:=nm) (k:=k) (lo:=lo) (hi:=hi) h0 h3 h4 h6 h16 h17 m (j+1) (by omega);have htk:ps.take (j+1)=ps.take j++[p]:=by rw[List.take_add_one,hp];rfl
  rw[htk]at ih;have hj1:(3:Int)+((j+1:Nat):Int)*2=3+(j:Int)*2+2:=by omega
  rw[hj1]at ih;simp[-length_flatMap,-map_take,h0,h3,h4,h6,h16,h17,Sh,hl,g0,g0',h1,h2,h5,t1,t2,hd1,hd2,w1,w2,hr,ha,hb,ta,tb];refine WL.to ih (by simp) (by simp[Sh,hl]) λx e J' hh=>hh
theorem QA{S:SK}{L l i:Nat}(hS:S.length=L+1)(hl:l<L){ps:List (Int×Int)}{g:Int×Int->Int}(hc:cells? S L i ps.length=some ((ps.map g).flatMap aM)):
  cC l 16 (.sl L i ps.length 0 ps.length 1) S=(.aJ ps.length ((ps.map g).flatMap aM),aZ S L i .dead):=by
 have h:=yB (l:=l) (n:=16) (l':=L) (i:=i) (v:=ps.length) (off:=0) (m:=ps.length) (w:=1) (J:=S) (cs:=(ps.map g).flatMap aM) (by omega) hc (by omega);have q1:=wU (ps.map g);rw[cV]at q1;have t1:((ps.map g).flatMap aM).take ps.length=(ps.map g).flatMap aM:=af (by omega);simp[h,t1,bh]
theorem agU{a:List UInt8}{w:Wd}(h:(a,w)∈oP):(w.k=4/\a=[109,111,100,101,108])\/(w.k=5/\a=[108,111,103]/\w=⟨true,3,2,5⟩)\/(w.k≠4/\w.k≠5/\(a == [109,111,100,101,108])=false/\(a == [108,111,103])=false):=by
 simp only[oP,aY,ak,List.not_mem_nil,or_false]at h;rcases h with⟨rfl,rfl⟩ | ⟨rfl,rfl⟩ | ⟨rfl,rfl⟩ | ⟨rfl,rfl⟩ | ⟨rfl,rfl⟩ | ⟨rfl,rfl⟩ | ⟨rfl,rfl⟩ | ⟨rfl,rfl⟩ | ⟨rfl,rfl⟩ | ⟨rfl,rfl⟩ | ⟨rfl,rfl⟩ | ⟨rfl,rfl⟩ | ⟨rfl,rfl⟩<;>simp
theorem Xa{l:List (List UInt8)}:D.bj (l.flatMap dc)=true:=cT (f:=dc) (λ_=>by simp[dc]) l
theorem W8{l:List bE}:D.bj (l.flatMap bE.enc)=true:=cT (λx=>by simp[D.clean,bh]) _
theorem W9{b:Bk}:D.bj (Jc b)=true:=by
 have c1:(nl Rw.enc b.bz.cn).clean=true:=Ke (λ_=>by simp[D.clean]) _;have c2:(nl bJ.enc b.bz.an).clean=true:=Ke (λ_=>by simp[D.clean]) _;have c3:(nl pE b.aD).clean=true:=Ke (λx=>by simp[pE,D.clean,bh]) _;have q1:D.bj (b.aj.flatMap fK.enc)=true:=cT (λx=>by simp[D.clean,bh]) _;have q2:D.bj (b.rules.flatMap bW.dP.enc)=true:=cT (λx=>by simp[D.clean]) _;have q3:D.bj (b.Al.flatMap bW.Ev.enc)=true:=cT (λx=>by simp[D.clean,cT (f:=bW.xC.enc) (λ_=>by simp[D.clean])]) _;have q4:D.bj (b.ew.flatMap yY.enc)=true:=cT (λx=>by simp[D.clean,cT (f:=Prt.enc) (λ_=>by simp[D.clean])]) _;have q5:D.bj (b.l9.flatMap SQ.enc)=true:=cT (λx=>by simp[D.clean]) _;simp[Jc,D.clean,c1,c2,c3,q1,q2,q3,q4,q5]
def WJ(G:List aA.aO)(j:Nat)(L:List mm):Prop:=G[j]?=some (.cells L.length (L.flatMap mm.enc))
set_option maxHeartbeats 4000000 in
theorem Z5{l:List (List UInt8)}{b:Bk}{ms:List bE}(hk:XY l)(hJ:J≠[])(hlen:∀i,i<=l.length->(FF l (cH l).2 i).length<=12):∀(m i:Nat) (G:List aA.aO) (j:Nat),i+m=l.length->WJ G j (FF l (cH l).2 i) ->
  WL T [0,3,4,6,16,17] false lh [(0,.aJ l.length (l.flatMap dc)),(3,.own 0 (Jc b)),(4,.aJ l.length ((cH l).2.flatMap aM)),(6,.aJ ms.length (ms.flatMap bE.enc)),(16,.sl J.length j (FF l (cH l).2 i).length 0 (FF l (cH l).2 i).length 6),(17,.int .i64 i)] (G::J)
   (λx e J'=>x=.exit 6/\get e 3=.own 0 (Jc b)/\get e 6=.aJ ms.length (ms.flatMap bE.enc)/\∃G' j',WJ G' j' (FF l (cH l).2 l.length) /\
    get e 16=.sl J.length j' (FF l (cH l).2 l.length).length 0 (FF l (cH l).2 l.length).length 6/\J'=G'::J):=by
 have hel:(cH l).2.length=l.length:=Dd;generalize her:(cH l).2=er at *
 intro m;induction m with
 |zero =>
  intro i G j hi hG;refine aH lh.eq_1 ?_;obtain rfl:i=l.length:=by omega
  simp only[Jc];simp[-length_flatMap,-map_take];exact⟨G,j,hG,rfl,rfl⟩
 |succ m ih =>
  intro i G j hi hG;refine aH lh.eq_1 ?_;have h1:i<l.length:=by omega
  have hll:=hk.1;obtain⟨s,hs⟩:=gE h1;obtain⟨e0,he0⟩:∃e0,er[i]?=some e0:=gE (by omega);have hsl:=hk.2 s (ai hs);have b1:=bX (f:=dc) (w:=1) (λ_=>rfl) hs;have b2:=bX (f:=aM) (w:=1) (λ_=>rfl) he0;simp only[dc,aM,ec]at b1 b2;have hP:=λS hS=>Wl (J:=S) (s:=s) (by omega) hS
  have h4:=dJ h1;have hL12:=hlen i (by omega);have hpe:parse s=none->e0=4:=λhp=>by
   have h:=(Fp (b:=ma) (k:=0) hs).2;rw[show(oH ma 0 l).2=er from her,he0]at h;simp only[ad]at h;rw[h];simp[qT,hp]
  have hstep:FF l er (i+1)=if e0=0 then IN s (FF l er i)else FF l er i:=by simp only[FF,hs,he0]
  have ih':=ih (i+1);rw[hstep]at ih';generalize FF l er i=L at *
  have c1:=Xa (l:=l);have c2:=W9 (b:=b);have c3:=W8 (l:=ms);simp only[Jc]at ih' c2 ⊢;by_cases he:e0=0
  .subst he;rw[if_pos rfl]at ih';cases hp:parse s with
   |none=>exact absurd (hpe hp) (by decide)
   |some q0 =>
   obtain⟨w,nm,ns⟩:=q0;obtain⟨a,haw,hr⟩:=Vb hp;rw[hr]at hP;rcases agU haw with⟨hk4,rfl⟩ | ⟨hk5,rfl,rfl⟩ | ⟨hn4,hn5,ha1,ha2⟩
   .have hlg:IN s L=[]:=by simp only[IN,hp];rw[if_pos hk4]
    rw[hlg]at ih';have ih2:=ih' (G++[.cells 0 []]) G.length (by omega) (by simp[WJ]);simp[-length_flatMap,-map_take,lX,h1,b1,b2,hP,h4];exact WL.to ih2 (by simp) (by simp) λx e J' hh=>hh
   .obtain⟨_,hfit,hnm,hnl⟩:=CG hp;obtain⟨f1,f2⟩:=E1 hfit (by decide) (by decide);simp only at f1 f2;obtain⟨kd,lo,hi,q,rfl⟩:∃kd lo hi q,ns=kd::lo::hi::q:=by
     match ns,f1 with
     |a::b::c::q,_=>exact⟨a,b,c,q,rfl⟩
     |[],f1=>simp at f1
     |[_],f1=>simp at f1
     |[_,_],f1=>simp at f1
    simp only[av]at f1 f2 hnl;by_cases h12:L.length=12
    .have hlg:IN s L=L:=by simp[IN,hp,h12]
     rw[hlg]at ih';have ih2:=ih' G j (by omega) hG;have h12':(L.length:Int)=12:=by omega
     simp[-length_flatMap,-map_take,lX,h1,b1,b2,hP,h4,h12,h12'];rw[h12]at ih2;exact WL.to ih2 (by simp) rfl λx e J' hh=>hh
    .have hlg:IN s L=L++[jH (AE L.length) kd lo hi (yV q)]:=by simp[IN,hp,h12]
     rw[hlg]at ih';obtain⟨h5,h6⟩:=Ht (q.length / 2) (l:=q) (by omega);obtain⟨ps,hps⟩:∃ps,ps=yV q:=⟨_,rfl⟩;rw[<- hps]at h5 h6 ih';have hlen3:(kd::lo::hi::q).length=ps.length*2+3:=by simp only[av];omega
     simp only[hlen3,aS,aM,cf]at hP;rw[<- h5]at hP;have hM:=P5 (J:=G::J) (ps:=ps) (by omega) (nm:=AE L.length) (k:=kd) (lo:=lo) (hi:=hi) (X0:=.aJ l.length (l.flatMap dc)) (X3:=.own 0 (Jc b)) (X4:=.aJ l.length (er.flatMap aM)) (X6:=.aJ ms.length (ms.flatMap bE.enc))
      (X16:=.sl J.length j L.length 0 L.length 6) (X17:=.int .i64 i) rfl rfl rfl rfl rfl rfl ps.length 0 (by omega)
     have hD:=λJ=>ZH (J:=J) (u:=L.length) (by omega)
     have q0:(0:Int)<(ps.length:Int)*2+3:=by omega
     have q1:(1:Int)<(ps.length:Int)*2+3:=by omega
     have q2:(2:Int)<(ps.length:Int)*2+3:=by omega
     have h12':¬(L.length:Int)=12:=by omega
     have hil:=CB (n:=(L.length:Int)) (by unfold n7;omega);have q3:1+(dp (L.length:Int)).length<=4611686018427387904:=by omega
     simp only[Jc,AE]at hM;simp[-length_flatMap,-map_take,lX,h1,b1,b2,hP,h12,h12',hD,q0,q1,q2,q3];refine WL.to hM (by simp) (by simp[Sh]) ?_;rintro x e J' ⟨rfl,g0,g3,g4,g6,g16,g17,g22,rfl⟩;have hjl:j<G.length:=(ar.1 hG).1;have ih2:=ih' (G.set j (.cells (L.length+1) ((L++[jH (AE L.length) kd lo hi ps]).flatMap mm.enc))) j (by omega) (by simp[WJ,hjl]);have hz0:=λS hS hc=>QA (S:=S) (L:=J.length+1) (l:=J.length) (i:=0) hS (by omega) (ps:=ps) (g:=Prod.fst) hc
     have hz1:=λS hS hc=>QA (S:=S) (L:=J.length+1) (l:=J.length) (i:=1) hS (by omega) (ps:=ps) (g:=Prod.snd) hc
     have m1:=bK (f:=mm.enc) (w:=6) (λ_=>rfl) L;have m2:(L.flatMap mm.enc).take (L.length*6)=L.flatMap mm.enc:=af (by omega);have hroom:(L.length+1)*88<=room:=by unfold room;omega
     have hG':G[j]?=some (.cells L.length (L.flatMap mm.enc)):=hG;simp only[jH,aF,List.length_singleton,cF,aS,bM,ct,mm.enc,cV]at ih2;simp[-length_flatMap,-map_take,g0,g3,g4,g6,g16,g17,g22,hz0,hz1,m1,m2,hroom,hG',Sh,h4,c1,c2,c3,bh];exact WL.to ih2 (by simp[AE]) (by simp[AE]) λx e J' hh=>hh
   .have hlg:IN s L=L:=by simp only[IN,hp];rw[if_neg hn4,if_neg hn5]
    rw[hlg]at ih';have ih2:=ih' G j (by omega) hG;simp[-length_flatMap,-map_take,lX,h1,b1,b2,hP,h4,ha1,ha2];exact WL.to ih2 (by simp) rfl λx e J' hh=>hh
  .rw[if_neg he]at ih';have ih2:=ih' G j (by omega) hG;obtain⟨x,y,d,f,hr,_⟩:=Sy s;rw[hr]at hP;have he':(e0 == 0)=false:=by simpa using he
   cases f<;>cases hx1:(x == [109,111,100,101,108])<;>cases hx2:(x == [108,111,103])<;>
    (simp[-length_flatMap,-map_take,lX,h1,b1,b2,hP,h4,he,he',hx1,hx2];exact WL.to ih2 (by simp) rfl λx e J' hh=>hh)
theorem P0{X3:D}(h3:X3.calm=X3){l:List Int}{i:Int}(hl:l.length<=1000):∀(m k:Nat) (f:Bool),k+m=l.length ->
  WL T [3,24,27,28,29] false lj [(3,X3),(24,.aJ l.length (l.flatMap aM)),(27,.int .i64 i),(28,.bool f),(29,.int .i64 k)] J
   (λx e J'=>x=.exit 12/\get e 3=X3/\get e 24=.aJ l.length (l.flatMap aM)/\get e 27=.int .i64 i/\get e 28=.bool (f || (l.drop k).contains i)/\J'=J)
 |0,k,f,hk=>by
  refine aH lj.eq_1 ?_;obtain rfl:k=l.length:=by omega
  simp[-length_flatMap,-map_take,h3]
 |m+1,k,f,hk=>by
  refine aH lj.eq_1 ?_;have h1:k<l.length:=by omega
  have h4:=dJ h1;obtain⟨v,hv⟩:=gE h1;have a1:=lU hv;have hd:l.drop k=v::l.drop (k+1):=by
   have:=aC h1;rw[hv]at this;cases this;exact List.drop_eq_getElem_cons h1
  have ih:=P0 h3 (i:=i) hl m (k+1) (f || v == i) (by omega);have hc:(f || (l.drop k).contains i)=(f || v == i || (l.drop (k+1)).contains i):=by
   rw[hd,List.contains_cons,Bool.or_assoc];congr 2;exact BEq.comm
  rw[hc];cases f
  .simp only[Bool.false_or]at ih;simp[-length_flatMap,-map_take,h3,h1,a1,h4];exact WL.to ih (by simp) rfl λx e J' hh=>by simpa using hh
  .simp only[Bool.true_or]at ih;simp[-length_flatMap,-map_take,h3,h1,a1,h4];exact WL.to ih (by simp) rfl λx e J' hh=>by simpa using hh
theorem TI{b:Bk}{l:List Int}(hl:l.length<=1000)(hml:b.aj.length<=40)(hf:∀(i:Nat) (e:fK),b.aj[i]?=some e->e.left=true->(i:Int)∈l):∀(m i:Nat),i+m=b.aj.length ->
  WL T [3,24,27] false lk [(3,.own 0 (Jc b)),(24,.aJ l.length (l.flatMap aM)),(27,.int .i64 i)] J (λx e J'=>x=.exit 10/\J'=J)
 |0,i,hi=>by
  refine aH lk.eq_1 ?_;obtain rfl:i=b.aj.length:=by omega
  simp only[Jc];simp[-length_flatMap,-map_take]
 |m+1,i,hi=>by
  refine aH lk.eq_1 ?_;have h1:i<b.aj.length:=by omega
  have h4:=dJ h1;obtain⟨e,he⟩:=gE h1;have hF:=P0 (J:=J) (X3:=.own 0 (Jc b)) rfl (i:=(i:Int)) hl l.length 0 false (by omega);have d1:=zY (f:=fK.enc) (w:=4) (λ_=>rfl) he;have a2:=bK (f:=fK.enc) (w:=4) (λ_=>rfl) b.aj;have ih:=TI hl hml hf m (i+1) (by omega);have d3:(b.aj.flatMap fK.enc).drop (i*4+2)=.bool e.left::.int .i64 e.W7::(b.aj.flatMap fK.enc).drop (i*4+4):=by
   have:=congrArg (List.drop 2) d1;simpa[fK.enc,fD]using this
  simp only[fK.enc]at d1;simp only[Jc]at hF ih ⊢;simp[-length_flatMap,-map_take,h1];refine WL.to hF (by simp) rfl ?_;rintro x e1 J' ⟨rfl,g3,g24,g27,g28,rfl⟩;rw[aP,Bool.false_or]at g28;cases hle:e.left
  .simp[-length_flatMap,-map_take,g3,g24,g27,g28,h1,d1,d3,hle,h4];exact WL.to ih (by simp) rfl λx e J' hh=>hh
  .have hin:l.contains (i:Int)=true:=by simpa using hf i e he hle
   rw[hin]at g28;simp[-length_flatMap,-map_take,g3,g24,g27,g28,h1,d1,d3,hle,h4];exact WL.to ih (by simp) rfl λx e J' hh=>hh
theorem Oh{n:Int}:∀{bl wt:List Int} {last:Int},yR n last bl wt=true->bl.length=wt.length->last<n->last+bl.length<n
 |[],wt,last,_,_,h=>by simpa using h
 |b::bl,[],last,_,h,_=>by simp at h
 |b::bl,w::wt,last,h,hl,_=>by
  simp only[yR,ae,au]at h;have:=Oh h.2.2.2 (by simpa using hl) h.2.1;simp only[av];omega
set_option maxHeartbeats 4000000 in
theorem Sa{l:List (List UInt8)}(hl:l.length<=9223372036854775807):
  lim T (.call false 3 [.aJ l.length (l.flatMap dc)] [[]])=some (.val (.bool true) [[]]):=by
 obtain⟨v,hF,hv⟩:=acN (l:=l) (by omega) [[],[]];have hN:=λS hS=>Wk (J:=S) hS
 refine aw Ia uU.eq_1 rfl ?_;cases v
 .simp[-length_flatMap,-map_take,hF,hN]
 have hl:l.length<=1000000000:=by have:=hv rfl;omega
 have hR:=Rz (J:=[[],[]]) (l:=l) hl;cases hok:okB l
 .rw[hok]at hR;simp[-length_flatMap,-map_take,hF,hR,hN]
 rw[hok]at hR;have hk:=QW.1 hok;have hk1:=hk.1;have hRun:=λS hS=>YG (J:=S) hk hS
 have hel:(cH l).2.length=l.length:=Dd;have hK:=Fo (l:=l) (k:=0) Kv.zero hk.2;rw[show(oH ma 0 l).1=(cH l).1 from rfl]at hK;obtain⟨_,i2⟩:=QH hk.2 l.length (aL _);rw[List.take_length]at i2;have hlg:=O9 hk.2 l.length (aL _);rw[List.take_length]at hlg;have hlen:∀i,i<=l.length->(FF l (cH l).2 i).length<=12:=λi hi=>(O9 hk.2 i hi).len
 have hLg:=λG j hG=>Z5 (J:=[[]]) (b:=(cH l).1) (ms:=(cH l).1.aj.map fK.m) hk (by simp) hlen l.length 0 G j (by omega) hG
 have hroomS:l.length*16<=room:=by unfold room;omega
 have st1:(l.flatMap dc).take l.length=l.flatMap dc:=af (by rw[bK (f:=dc) (w:=1) (λ_=>rfl)];omega);have st2:(l.flatMap dc).length=l.length:=by rw[bK (f:=dc) (w:=1) (λ_=>rfl)];omega
 rw[show FF l (cH l).2 0=[]from rfl]at hLg;generalize FF l (cH l).2 l.length=L at hlg hLg;generalize (cH l).1=b at hRun hK i2 hlg hLg;generalize (cH l).2=er at hRun hel hLg;have hml:=hK.ml;by_cases hm0:b.aj=[]
 .simp only[Jc,hm0,aV,bM]at hRun;simp[-length_flatMap,-map_take,hF,hR,hN,hRun,hroomS,st1,st2]
 have hne:b.aj.length≠0:=λh=>hm0 (bw.1 h)
 have hbv:=hK.ready (hK.ms hm0);have hfv:=(Bv.of hbv).fv;obtain⟨f1,f2,f3,f4,f5⟩:=cU.mo.1 hfv;obtain⟨f6,f7⟩:=Fe hfv;obtain⟨x,hx⟩:∃x:Nat,(x:Int)=b.bz.f.x:=⟨b.bz.f.x.toNat,by omega⟩;have hkyz:0<=b.bz.f.k*b.bz.f.y*b.bz.f.z:=cZ (cZ (by omega) (by omega)) (by omega);obtain⟨N,hNn⟩:∃N:Nat,(N:Int)=b.bz.f.k*b.bz.f.y*b.bz.f.z:=⟨(b.bz.f.k*b.bz.f.y*b.bz.f.z).toNat,by omega⟩;have hNx:(N:Int)*x=b.bz.f.k*b.bz.f.size:=by
  rw[hNn,hx];unfold cU.size;rw[Int.mul_assoc,Int.mul_assoc,Int.mul_comm b.bz.f.z,<- Int.mul_assoc b.bz.f.y,Int.mul_comm b.bz.f.y,Int.mul_assoc]
 have hNx2:N*x<=384:=by
  have h:((N*x:Nat):Int)<=384:=by
   rw[Int.natCast_mul];omega
  omega
 have hN2:N<=384:=gz (Nat.le_mul_of_pos_right N (by omega)) hNx2;have hmz:∀m∈b.aj.map fK.m,b.bz.f.model m=0:=λm hm=>by
  obtain⟨e,he,rfl⟩:=bN.1 hm;exact IS hbv (hK.fit e he).1
 have hmd:∀m∈b.aj.map fK.m,Md x N m:=λm hm=>by
  have h:=hmz m hm;unfold cU.model at h;split at h
  .rename_i h1;split at h
   .rename_i h2;refine⟨h1,?_,λv hv=>?_⟩
    .have:((m.aU.length:Nat):Int)=((N*x:Nat):Int):=by push_cast;rw[h2.1,hNx]
     omega
    .exact bk.1 (dX.1 h2.2 v hv)
   .cases h
  .cases h
 have hpw:=UO i2;obtain⟨ms,hms⟩:∃ms,ms=b.aj.map fK.m:=⟨_,rfl⟩;have hmsl:ms.length=b.aj.length:=by rw[hms];simp
 rw[<- hms]at hmz hmd hpw hLg;have hch:b.bz.f.aj ms=0:=by
  unfold cU.aj;rw[if_pos (bk.2 (by omega))];exact Kk hmz hpw (by simp)
 have hcc:ed b.bz.f ms=0:=by
  unfold ed;rw[if_pos hfv];exact hch
 have hsh:∀m∈ms,m.name.length<=1000000000/\m.aU.length<=1000000000:=λm h=>by
  have h1:=Au (hmd m h).nm;have h2:=(hmd m h).len;omega
 have h7:∀n∈[b.bz.f.x,b.bz.f.y,b.bz.f.z,b.bz.f.k],n7 n:=by
  intro n hn;simp only[aY,List.not_mem_nil,or_false]at hn;unfold n7;rcases hn with rfl | rfl | rfl | rfl<;>omega
 have ht:=K0 (f:=b.bz.f) (x:=x) (n:=N) (l:=ms) ⟨h7 _ (by simp),h7 _ (by simp),h7 _ (by simp),h7 _ (by simp)⟩ (λm h=>⟨(hmd m h).nm,(hmd m h).v7,(hmd m h).len⟩) (by omega) hNx2 (by omega);have hW:=λS=>V3 (J:=S) (f:=b.bz.f) (l:=ms) hfv hx hNx2 hN2 (by omega) hmd hcc
 have hRd:=λS hS=>ZB (J:=S) (f:=b.bz.f) (l:=ms) hfv hx hNn hN2 (by omega) (by omega) hmd hpw (by omega) hS
 have hshM:Eu L:=λy hy=>by
  have h1:=SP.of (hlg.ok y hy);have h2:=h1.name;have h3:=Oh h1.Ve h1.len (by omega);omega
 have hSt:=λS hS=>Oy (J:=S) (f:=b.bz.f) (l:=ms) (ms:=L) hfv hsh hch hshM hlg.sd (λm hm=>Fm.of hfv (hmz m hm)) (by omega) hlg.len (λy hy=>SP.of (hlg.ok y hy)) hS
 have hA:=YL (J:=[[]]) (b:=b) (X0:=.aJ l.length (l.flatMap dc)) (X4:=.aJ l.length (er.flatMap aM)) rfl rfl hml b.aj.length 0 (by omega);rw[<- hms]at hA;have hC2:=TE (J:=[[.dead],[]]) (ms:=ms) (X0:=.aJ l.length (l.flatMap dc)) (X3:=.own 0 (Jc b)) (X4:=.aJ l.length (er.flatMap aM)) rfl rfl rfl (by omega) (λm hm=>by have:=(hmd m hm).len;omega) ms.length 0 (by omega);have hleft:∀(i:Nat) (e:fK),b.aj[i]?=some e->e.left=true->(i:Int)∈idxs (okF b.bz.f L) 0 ms:=λi e he hle=>by
  have h1:ms[i]?=some e.m:=by rw[hms];simp[he]
  have:=Nw (k:=0) h1 (hlg.adB (ai he) hle);simpa using this
 have hil:=Nv (p:=okF b.bz.f L) (l:=ms) (i:=0);have hLf:=λS=>TI (J:=S) (b:=b) (l:=idxs (okF b.bz.f L) 0 ms) (by omega) hml hleft b.aj.length 0 (by omega)
 have hfz:=DL (f:=bE.enc) (w:=2) (λ_=>rfl) (λx=>by simp[D.clean,bh]) (l:=ms) (j:=0) (v:=b.aj.length) (bs:=[.cells b.aj.length (ms.flatMap bE.enc)]) (J:=[[]]) (by simp) (by simp);have hne1:¬(b.aj.length:Int)=0:=by omega
 rw[hmsl]at hfz;rw[hmsl]at hW hRd hSt hLg hC2;generalize idxs (okF b.bz.f L) 0 ms=lf at hSt hLf;generalize vm b.bz.f x N ms=t at hW hRd;simp only[Jc]at hRun hA hC2 hLg hLf;push_cast at hA hC2 hLg hLf;simp[-length_flatMap,-map_take,hF,hR,hN,hRun,hroomS,st1,st2,hel,hne,hne1];refine WL.to hA (by simp) (by simp) ?_;rintro x1 e J' ⟨rfl,g0,g3,g4,g6,rfl⟩;have hfz':=hfz;simp at hfz';simp[-length_flatMap,-map_take,g0,g3,g4,g6,hfz',hW,hRd];refine WL.to hC2 (by simp) (by simp) ?_;rintro x1 e J' ⟨rfl,g0,g3,g4,g6,rfl⟩;simp[-length_flatMap,-map_take,g0,g3,g4,g6];refine WL.to (hLg [.dead,.cells 0 []] 1 rfl) (by simp) (by simp) ?_;rintro x1 e J' ⟨rfl,g3,g6,G,j,hG,g16,rfl⟩;have hjl:j<G.length:=(ar.1 hG).1;have hG':G[j]?=some (.cells L.length (L.flatMap mm.enc)):=hG;have m1:=bK (f:=mm.enc) (w:=6) (λ_=>rfl) L;have m2:(L.flatMap mm.enc).take (L.length*6)=L.flatMap mm.enc:=af (by omega);have m3:D.bj (L.flatMap mm.enc)=true:=cT (λx=>by simp[D.clean,bh]) L;have hfz2:cC 0 16 (.sl 1 j L.length 0 L.length 6) (G::[[]])=(.aJ L.length (L.flatMap mm.enc),G.set j .dead::[[]]):=by
  have h:=yB (l:=0) (n:=16) (l':=1) (i:=j) (v:=L.length) (off:=0) (m:=L.length) (w:=6) (J:=G::[[]]) (cs:=L.flatMap mm.enc) (by omega) (by simp[hG']) (by omega);simp[h,m2,m3]
 have g16':get e 16=.sl 1 j L.length 0 L.length 6:=g16;simp[-length_flatMap,-map_take,g3,g6,g16',hfz2,hSt];refine WL.to (hLf _) (by simp) rfl ?_;rintro x1 e J' ⟨rfl,rfl⟩;simp[-length_flatMap,-map_take,hN]
end
section
open Go Go.aA Go.dk
theorem Yd{α:Type}{T:Ty}{w:Nat}{f:α->List D}{Q:α->Prop}(h:∀ds,T.has ds->∃a,ds=f a/\Q a){d:D}(hd:(Ty.slice w T).has [d]):
  ∃l:List α,d=.aJ l.length (l.flatMap f)/\l.length<=maxLen/\∀a∈l,Q a:=by
 simp only[Ty.has,ig,and_true]at hd;obtain⟨xs,rfl,hl,hx⟩:=hd;have key:∀xs:List (List D),(∀x∈xs,x.length=w/\T.has x)->∃l:List α,xs.flatten=l.flatMap f/\l.length=xs.length/\∀a∈l,Q a:=by
  intro xs;induction xs with
  |nil=>intro _;exact⟨[],rfl,rfl,by simp⟩
  |cons x xs ih =>
   intro hx;obtain⟨l,h1,h2,h3⟩:=ih λy hy=>hx y (by simp[hy])
   obtain⟨a,rfl,ha⟩:=h x (hx x (by simp)).2;exact⟨a::l,by simp[h1],by simp[h2],λb hb=>by
    rcases aY.1 hb with rfl | hb
    .exact ha
    .exact h3 b hb⟩
 obtain⟨l,h1,h2,h3⟩:=key xs hx;exact⟨l,by rw[h1,h2],by omega,h3⟩
theorem Yq{ds:List D}(h:Ty.str.has ds):∃s:List UInt8,ds=dc s/\s.length<=maxLen:=h
theorem Nk(x0:D)(t0:(Ty.slice 1 .str).adK x0):∃J',lim T (.call false 3 [x0] [[]])=some (.val (.bool true) J'):=by
 obtain⟨l,rfl,hl,_⟩:=Yd (λds h=>Yq h) t0;have hm:maxLen<=9223372036854775807:=by decide
 exact⟨_,Sa (by omega)⟩
end
end Go.Proofs.YtanhdobabijmoaaGreatDoor
