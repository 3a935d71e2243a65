import Derived.Test.YtpapbbojmclkgaaGreatDoorTxt0
set_option linter.all false
namespace Go.Proofs.YtpapbbojmclkgaaGreatDoor
section
open Go Go.Abs Go.Rock
variable {J:SK}
theorem Zg{b:bV}:Cl 359 [.agg (bL b)] (.fn 369 [] [.bg (bL b)]) J:=by
 refine au ?_;simp[CW,xI]
theorem Bv.xy{b:bV}(h:Bv b):b.f.x=(b.f.x.toNat:Int)/\b.f.y=(b.f.y.toNat:Int)/\1<=b.f.x.toNat*b.f.y.toNat/\b.f.x.toNat*b.f.y.toNat<=64:=by
 have hx:=h.x;have hy:=h.y;obtain⟨s1,_⟩:=dD.sz h.x h.y h.z;have e1:b.f.x*b.f.y=((b.f.x.toNat*b.f.y.toNat:Nat):Int):=by push_cast;rw[dO (by omega),dO (by omega)]
 rw[e1]at s1;refine⟨by omega,by omega,by omega,by omega⟩
theorem Bv.nat{b:bV}(h:Bv b):b.n=b.f.x.toNat*b.f.y.toNat*b.f.z.toNat/\1<=b.f.x.toNat/\1<=b.f.y.toNat:=by
 have hx:=h.x;have hy:=h.y;have hz:=h.z;have hs:=h.sz;refine⟨?_,by omega,by omega⟩;have:((b.f.x.toNat*b.f.y.toNat*b.f.z.toNat:Nat):Int)=b.f.size:=by
  push_cast;rw[dO (by omega),dO (by omega),dO (by omega)];rfl
 omega
theorem abO{X W i n:Nat}(hn:n=X*W)(hi:i<n)(hc:(i+1)%X≠0):i+1<n:=by
 rcases Nat.lt_or_ge (i+1) n with h | h
 .exact h
 .have:i+1=X*W:=by omega
  rw[this,Nat.mul_mod_right]at hc;exact absurd rfl hc
theorem link2{X Y Z i n:Nat}(hX:1<=X)(hY:1<=Y)(hn:n=X*Y*Z)(hi:i<n)(hc:i / X%Y≠Y-1):i+X<n:=by
 have h1:i / X<Y*Z:=by rw[Nat.div_lt_iff_lt_mul hX,Nat.mul_comm,<- Nat.mul_assoc];omega
 have h2:i / X+1<Y*Z:=by
  rcases Nat.lt_or_ge (i / X+1) (Y*Z)with h | h
  .exact h
  .exfalso
   have h3:i / X+1=Y*Z:=by omega
   have hZ:1<=Z:=by
    rcases Nat.eq_zero_or_pos Z with h0 | h0
    .subst h0;omega
    .exact h0
   have h4:i / X=Y*(Z-1)+(Y-1):=by
    have:Y*Z=Y*(Z-1)+Y:=by rw[<- Nat.mul_succ];congr 1;omega
    omega
   rw[h4,Nat.mul_add_mod,Nat.mod_eq_of_lt (by omega)]at hc;exact hc rfl
 have h3:i<(i / X+1)*X:=by
  have:=Nat.div_add_mod i X;have h4:=Nat.mod_lt i (show X>0 by omega);rw[ic,Nat.one_mul,Nat.mul_comm (i / X) X];omega
 have h5:(i / X+1)*X+X<=n:=by
  have:(i / X+1+1)*X<=Y*Z*X:=cZ _ h2;rw[ic (i / X+1) 1 X,Nat.one_mul,Nat.mul_comm (Y*Z) X,<- Nat.mul_assoc]at this;omega
 omega
theorem Sx{b:bV}(h:Bv b){lv j N:Nat}{St:List (Nat×Nat)->SK}(hN:∀pre,(St pre).length=N)
  (hR:∀pre,∀l:Nat×Nat,l.1<b.n->l.2<b.n->l.1≠l.2->dr T (.round lv j [.agg [iI l.1,iI l.2]] ([]::St pre))=some (.val (.bool true) ([]::St (pre++[l])))):∀(n i:Nat) (pre:List (Nat×Nat)),i+n=b.n ->
  WL T [0,1,3,4,13,14] false iK [(0,.jU lv j),(1,.bg (bL b)),(3,iI b.f.x),(4,iI b.f.y),(13,iI b.n),(14,iI i)] ([]::St pre)
   (λx e J'=>J'=[]::St (pre++fM ((List.range b.n).drop i) (vK b))/\x=.exit 0)
 |0,i,pre,hi=>by
  refine aA iK.eq_1 ?_;have h1:¬i<b.n:=by omega
  have h2:(List.range b.n).drop i=[]:=an (by simp;omega);simp[h1,h2]
 |n+1,i,pre,hi=>by
  refine aA iK.eq_1 ?_;have h1:i<b.n:=by omega
  have hn:=h.n;have hx:=h.x;have hy:=h.y;obtain⟨eX,eY,p1,p2⟩:=h.xy;have h4:=cg h1;have hs:=λJ=>Be (J:=J) h
  have h5:(List.range b.n).drop i=i::(List.range b.n).drop (i+1):=bx (by simp[h1]);have w1:=cb (n:=b.f.x*b.f.y) (by rw[eX,eY];omega);obtain⟨hnn,X1,Y1⟩:=h.nat;have⟨hx0,hy0⟩:¬b.f.x=0/\¬b.f.y=0:=by omega
  have ih:=λpre=>Sx h hN hR n (i+1) pre (by omega)
  have e1:((i:Int)+1).tmod b.f.x=(((i+1)%b.f.x.toNat:Nat):Int):=by
   conv=>lhs;rw[eX]
   rfl
  have e2:(i:Int) / b.f.x=((i / b.f.x.toNat:Nat):Int):=by
   conv=>lhs;rw[eX]
   rfl
  have e2b:(i:Int).tdiv b.f.x=((i / b.f.x.toNat:Nat):Int):=by
   conv=>lhs;rw[eX]
   rfl
  have e3:((i / b.f.x.toNat:Nat):Int).tmod b.f.y=((i / b.f.x.toNat%b.f.y.toNat:Nat):Int):=by
   conv=>lhs;rw[eY]
   rfl
  have e4:b.f.x*b.f.y=((b.f.x.toNat*b.f.y.toNat:Nat):Int):=by
   conv=>lhs;rw[eX,eY]
   rfl
  have hq:i / b.f.x.toNat<=i:=Nat.div_le_self _ _;have hr1:(i+1)%b.f.x.toNat<=i+1:=Nat.mod_le _ _;have hr2:i / b.f.x.toNat%b.f.y.toNat<=i / b.f.x.toNat:=Nat.mod_le _ _;have l1:=abO (W:=b.f.y.toNat*b.f.z.toNat) (by rw[hnn,Nat.mul_assoc]) h1;have l2:=link2 (Z:=b.f.z.toNat) X1 Y1 hnn h1;have R1:=λpre hc=>hR pre (i,i+1) h1 (l1 hc) (by simp)
  have R2:=λpre hc=>hR pre (i,i+b.f.x.toNat) h1 (l2 hc) (by simp;omega)
  have R3:=λpre hc=>hR pre (i,i+b.f.x.toNat*b.f.y.toNat) h1 hc (by simp;omega)
  have z2:((i+b.f.x.toNat:Nat):Int)=(i:Int)+b.f.x:=by omega
  have z3:((i+b.f.x.toNat*b.f.y.toNat:Nat):Int)=(i:Int)+b.f.x*b.f.y:=by rw[e4];omega
  have z1:((i+1:Nat):Int)=(i:Int)+1:=rfl;simp only[z1,z2,z3]at R1 R2 R3;generalize hA:i / b.f.x.toNat=A at *
  generalize hB:A%b.f.y.toNat=B at *
  generalize hC:(i+1)%b.f.x.toNat=C at *
  generalize hP:b.f.x.toNat*b.f.y.toNat=P at *
  have v1:=cb (n:=(A:Int));have v2:=cb (n:=(B:Int));have v3:=cb (n:=(C:Int));have v4:=cb (n:=b.f.y-1);have v5:=cb (n:=(i:Int)+b.f.x);have v6:=cb (n:=(i:Int)+b.f.x*b.f.y) (by rw[e4];omega);have v7:=cb (n:=b.f.x*b.f.y) (by rw[e4];omega);have c3:((i:Int)+b.f.x*b.f.y<(b.n:Int))↔(i+P<b.n):=by rw[e4];omega
  have hL:vK b i=(if C≠0 then [(i,i+1)]else [])++((if B≠b.f.y.toNat-1 then [(i,i+b.f.x.toNat)]else [])++(if i+P<b.n then [(i,i+P)]else [])):=by
   unfold vK;rw[hC,hA,hB,hP]
  rw[h5,db,hL];clear hL hnn l1 l2;have⟨t1,t2⟩:(((C:Int)=0)↔(C=0))/\(((B:Int)=b.f.y-1)↔(B=b.f.y.toNat-1)):=by omega
  by_cases k1:C=0<;>by_cases k2:B=b.f.y.toNat-1<;>by_cases k3:i+P<b.n;all_goals
   first | (have u1:=t1.2 k1) | (have u1:=mt t1.1 k1)
   first | (have u2:=t2.2 k2) | (have u2:=mt t2.1 k2)
   have ih':=ih (pre++((if C≠0 then [(i,i+1)]else [])++((if B≠b.f.y.toNat-1 then [(i,i+b.f.x.toNat)]else [])++(if i+P<b.n then [(i,i+P)]else []))));first
    |(rw[if_neg (not_not_intro k1)]at ih' ⊢) | (rw[if_pos k1]at ih' ⊢)
   first
    |(rw[if_neg (not_not_intro k2)]at ih' ⊢) | (rw[if_pos k2]at ih' ⊢)
   first
    |(rw[if_neg k3]at ih' ⊢) | (rw[if_pos k3]at ih' ⊢)
   have g1:=λpre=>R1 pre
   have g2:=λpre=>R2 pre
   have g3:=λpre=>R3 pre
   first | (have g1:=λpre=>R1 pre k1) | skip
   first | (have g2:=λpre=>R2 pre k2) | skip
   first | (have g3:=λpre=>R3 pre k3) | skip
   simp[h1,h4,hx0,hy0,e1,e2b,e3,v1,v4,v5,v6,v7,c3,u2,k1,k3,hs,g1,g2,g3];refine WL.to ih' (by simp) (by simp) λx e J hh=>by simpa using hh
theorem VL{b:bV}(h:Bv b){lv j N:Nat}{St:List (Nat×Nat)->SK}(hN:∀pre,(St pre).length=N)
  (hR:∀pre,∀l:Nat×Nat,l.1<b.n->l.2<b.n->l.1≠l.2->dr T (.round lv j [.agg [iI l.1,iI l.2]] ([]::St pre))=some (.val (.bool true) ([]::St (pre++[l])))):
  dr T (.call false 369 [.jU lv j,.bg (bL b)] (St []))=some (.val (.cK []) (St (y9 b))):=by
 refine fy rfl rfl rfl (by rw[hN,hN]) ?_;have hs:=λJ=>Be (J:=J) h
 simp[hs];refine WL.to (Sx h hN hR b.n 0 [] (by omega)) (by simp) rfl ?_;rintro x e J' ⟨rfl,rfl⟩;simp[y9]
def F6(es:List ((Nat×Nat)×Rock.aG)):List D:=es.map λe => .cK [.agg [iI e.1.1,iI e.1.2],.agg e.2.enc]
def kyL:Ky:=some (true,[some .i64,some .i64])
theorem ag4{a b:Nat×Nat}:sS kyL (.agg [iI a.1,iI a.2]) (.agg [iI b.1,iI b.2])=some (b == a):=by
 simp only[sS,kyL,D.row,Cg,and_self,if_true,aZ,Bool.and_true];congr 1;rw[Bool.eq_iff_iff];simp only[af,beq_iff_eq];constructor
 .rintro⟨h1,h2⟩;exact Prod.ext (by omega) (by omega)
 .rintro rfl;exact⟨rfl,rfl⟩
theorem Pd{k:Nat×Nat}:∀{es:List ((Nat×Nat)×Rock.aG)},∃r,pD kyL (.agg [iI k.1,iI k.2]) (F6 es)=some r/\r.map Prod.fst=es.findIdx? (λe=>e.1 == k)
 |[]=>⟨none,rfl,rfl⟩
 |e::es=>by
  obtain⟨r,h1,h2⟩:=Pd (k:=k) (es:=es);simp only[F6,aM]at h1 ⊢;simp only[pD,ag4];cases hk:e.1 == k
  .refine⟨_,by rw[h1];rfl,?_⟩;rw[List.findIdx?_cons,hk,<- h2];cases r<;>rfl
  .exact⟨_,rfl,by rw[List.findIdx?_cons,hk];rfl⟩
theorem XQ{S:SK}{l i:Nat}{es:List ((Nat×Nat)×Rock.aG)}{k:Nat×Nat}{o:Rock.aG}(h:cells? S l i 0=some (F6 es)):
  Dc S (.put kyL) [.jU l i,.agg [iI k.1,iI k.2],.agg o.enc]=some (.undef,bj S l i (.cells 0 (F6 (RD es k o)))):=by
 obtain⟨r,h1,h2⟩:=Pd (k:=k) (es:=es);simp only[Dc,Dg,h,aZ,h1,ag4,Option.isSome_some,true_and];rw[if_pos (.inr ⟨by simp[D.clean],by simp[D.clean]⟩)];unfold RD;rw[<- h2];cases r with
 |none=>simp[F6]
 |some y=>simp[F6,List.map_set]
theorem KF{x:Rock.aG}{A:Int}(hA:10000<=A):∀(t:List Rw) (o:Int),(∀r∈t,r.alone=true)->(0<=o/\o<=A)->0<=t.foldl (gY x) o/\t.foldl (gY x) o<=A
 |[],o,_,h=>h
 |r::t,o,ht,h=>by
  have h1:=RI (ht r (by simp));refine KF hA t _ (λr hr=>ht r (by simp[hr])) ?_;unfold gY;split<;>omega
theorem G2{b:bV}{m:bZ}{s:List Rock.aG}(h:Fv b m)(hs:Sv b s){i:Nat}(hi:i<b.n):0<=dw b m s i/\dw b m s i<=200000000000:=by
 have htab:=h.bv.dP;simp only[fK,af]at htab;refine KF (by omega) _ _ (eP.1 htab.2.1) ?_;have b5:=wJ h.bv hi;have b1:=h.hold i hi;obtain⟨hx,b2,b3,b4⟩:=hs.at hi;have hst:=h.bv.cA;have b6:b.cA*((aR s i).m-hold b m i)<=100000000000:=by
  rcases eV (hold b m i) (aR s i).m with hh | hh
  .have:=iR (a:=b.cA) (b:=(aR s i).m-hold b m i) (A:=100000) (B:=1000000) (by omega) hst.2 (by omega) (by omega);omega
  .have:=iR (a:=b.cA) (b:=hold b m i-(aR s i).m) (A:=100000) (B:=1000000) (by omega) hst.2 (by omega) (by omega);have e:b.cA*((aR s i).m-hold b m i) = - (b.cA*(hold b m i-(aR s i).m)):=by rw[<- Int.mul_neg];congr 1;omega
   omega
 have b7:down (b.cA*((aR s i).m-hold b m i)) (hold b m i)<=100000000000:=by
  unfold down;have:=Int.ediv_le_self (b:=hold b m i) (a:=b.cA*((aR s i).m-hold b m i));rcases eV 0 (b.cA*((aR s i).m-hold b m i))with hh | hh
  .have:=this hh;omega
  .have:=Int.ediv_le_of_le_mul (b:=0) (show 0<hold b m i by omega) (by omega:b.cA*((aR s i).m-hold b m i)<=0*hold b m i);omega
 omega
theorem Bh{O:cf}{c c':b9}(hc:c=c'){e:Env}{J:SK}{Q:Abs.Exit->Env->SK->Prop}:WC O c e J Q .mk .mk=WC O c' e J Q .mk .mk:=by subst hc;rfl
def UI(b:bV)(m:bZ)(s:List Rock.aG)(L:Nat):xX :=
 {state:=0,zj:=none,env:=[(2,.bg (bM b m)),(3,.bg [lF s aG.enc]),(4,.undef),(5,.ref L 3 0 0),(6,.ref L 4 0 0)],params:=[18],B9:=gb,body:=dq }
def U5(A B:Abs.aG)(b:bV)(m:bZ)(s:List Rock.aG)(J:SK)(es:List ((Nat×Nat)×Rock.aG)):SK :=
 [A,B,.cells 0 (F6 es),.cells 0 [.jU J.length 2],.cells 0 [lF (ba b m s) aO],.loop (UI b m s J.length)]::J
theorem ade{A B:Abs.aG}{b:bV}{m:bZ}{s:List Rock.aG}(h:Fv b m)(hs:Sv b s)(es:List ((Nat×Nat)×Rock.aG))(l:Nat×Nat)(h1:l.1<b.n)(h2:l.2<b.n):
  dr T (.round J.length 5 [.agg [iI l.1,iI l.2]] ([]::U5 A B b m s J es))=some (.val (.bool true) ([]::U5 A B b m s J (kR b m s (ba b m s) es l))):=by
 have hn:=h.bv.n;have hl:=hs.len;have hp1:(ba b m s)[l.1]?=some (dw b m s l.1):=by simp[ba,hl,h1]
 have hp2:(ba b m s)[l.2]?=some (dw b m s l.2):=by simp[ba,hl,h2]
 have a1:=gp hp1;have a2:=gp hp2;have hpl:(ba b m s).length=b.n:=by rw[NF,hl]
 have bp1:=G2 h hs h1;have bp2:=G2 h hs h2;have bw1:=wJ h.bv h1;have bw2:=wJ h.bv h2;have cw1:=λJ=>Jz (J:=J) (m:=m) h.bv h1
 have cw2:=λJ=>Jz (J:=J) (m:=m) h.bv h2
 have co1:=λJ=>VQ (J:=J) h.toMv h1
 have co2:=λJ=>VQ (J:=J) h.toMv h2
 have bo1:=h.zB l.1 h1;have bo2:=h.zB l.2 h2;obtain⟨x1,m1,m2,m3⟩:=hs.at h1;obtain⟨y1,n1,n2,n3⟩:=hs.at h2;have f1:=bd (f:=aG.enc) (w:=3) (λ_=>rfl) x1;have f2:=bd (f:=aG.enc) (w:=3) (λ_=>rfl) y1;have w1:=cb (n:=dw b m s l.1-weight b l.1);have w2:=cb (n:=dw b m s l.1-weight b l.1-dw b m s l.2);have w3:=cb (n:=dw b m s l.1-weight b l.1-dw b m s l.2+weight b l.2);have⟨hL1,hL2⟩:l.1<s.length/\l.2<s.length:=by omega
 have hE:kR b m s (ba b m s) es l=kR b m s (ba b m s) es l:=rfl
 conv at hE=>rhs;unfold kR Ci
 simp only[hp1,hp2,eW]at hE;generalize kR b m s (ba b m s) es l=es' at *
 have⟨hmin,hmin'⟩:(0<=min (zB b m l.2) (zB b m l.1)/\min (zB b m l.2) (zB b m l.1)<=1000)/\(0<=min (zB b m l.1) (zB b m l.2)/\min (zB b m l.1) (zB b m l.2)<=1000):=by omega
 generalize hw1:weight b l.1=W1 at *
 generalize hw2:weight b l.2=W2 at *
 generalize hq1:dw b m s l.1=P1 at *
 generalize hq2:dw b m s l.2=P2 at *
 generalize hD:P1-W1-P2+W2=d at *
 refine P0 (lp:=UI b m s J.length) (by simp[U5]) rfl ?_;rw[show(UI b m s J.length).B9=gb from rfl,gb.eq_1,show(UI b m s J.length).body=dq from rfl];by_cases hd:d<0
 .simp only[hd,if_true]at hE;have b3:=iR hmin.1 hmin.2 (show 0 <= -d by omega) (show -d<=1000000000000 by omega);have w4:=cb (n := -d);have d1:=aQ (b:=1000) b3.1;have d2:=aQ (b:=8) (show 0<=(aR s l.2).m by omega);generalize hX:min (zB b m l.2) (zB b m l.1) * -d=X at *
  have w5:=cb (n:=X);generalize hY:X.tdiv 1000=Y at *
  generalize hZ:(aR s l.2).m.tdiv 8=Z at *
  have w6:=cb (n:=Y) (by rw[d1];omega);have w7:=cb (n:=Z) (by rw[d2];omega);by_cases hq:0<min Y Z
  .have hO:=λJ=>VR (J:=J) (q:=min Y Z) n1 n2 n3 ⟨by omega,by rw[d2];omega⟩
   have hP:=λS h=>XQ (S:=S) (l:=J.length) (i:=2) (es:=es) (k:=(l.2,l.1)) (o:=(aR s l.2).out (min Y Z)) h
   rw[if_pos hq]at hE;simp only at hE;subst hE;generalize (aR s l.2).out (min Y Z)=O at *
   simp only[aG.enc]at hO;simp only[aG.enc,kyL]at hP;simp[Bh dq.eq_1,UI,U5,UM,hpl,h1,h2,a1,a2,cw1,cw2,w1,w2,w3,hD,hd,co1,co2,hL2,f2,w4,w5,w6,w7,hX,hY,hZ,hq,hO,hP]
  .rw[if_neg hq]at hE;simp only at hE;subst hE;simp[Bh dq.eq_1,UI,U5,UM,hpl,h1,h2,a1,a2,cw1,cw2,w1,w2,w3,hD,hd,co1,co2,hL2,f2,w4,w5,w6,w7,hX,hY,hZ,hq]
 .simp only[hd,if_false]at hE;have b3:=iR hmin'.1 hmin'.2 (show 0<=d by omega) (show d<=1000000000000 by omega);have w4:=cb (n:=d);have d1:=aQ (b:=1000) b3.1;have d2:=aQ (b:=8) (show 0<=(aR s l.1).m by omega);generalize hX:min (zB b m l.1) (zB b m l.2)*d=X at *
  have w5:=cb (n:=X);generalize hY:X.tdiv 1000=Y at *
  generalize hZ:(aR s l.1).m.tdiv 8=Z at *
  have w6:=cb (n:=Y) (by rw[d1];omega);have w7:=cb (n:=Z) (by rw[d2];omega);by_cases hq:0<min Y Z
  .have hO:=λJ=>VR (J:=J) (q:=min Y Z) m1 m2 m3 ⟨by omega,by rw[d2];omega⟩
   have hP:=λS h=>XQ (S:=S) (l:=J.length) (i:=2) (es:=es) (k:=l) (o:=(aR s l.1).out (min Y Z)) h
   rw[if_pos hq]at hE;simp only at hE;subst hE;generalize (aR s l.1).out (min Y Z)=O at *
   simp only[aG.enc]at hO;simp only[aG.enc,kyL]at hP;simp[Bh dq.eq_1,UI,U5,UM,hpl,h1,h2,a1,a2,cw1,cw2,w1,w2,w3,hD,hd,co1,co2,hL1,f1,w5,w6,w7,hX,hY,hZ,hq,hO,hP]
  .rw[if_neg hq]at hE;simp only at hE;subst hE;simp[Bh dq.eq_1,UI,U5,UM,hpl,h1,h2,a1,a2,cw1,cw2,w1,w2,w3,hD,hd,co1,co2,hL1,f1,w5,w6,w7,hX,hY,hZ,hq]
theorem Zc{A B:Abs.aG}{b:bV}{m:bZ}{s:List Rock.aG}(h:Fv b m)(hs:Sv b s):∃X Y Z:Abs.aG,
  dr T (.call true 333 [.agg (bM b m),lF s aG.enc] ([A,B]::J))=some (.val (.jU J.length 2) ([A,B,.cells 0 (F6 (td b m s)),X,Y,Z]::J)):=by
 refine⟨.cells 0 [.jU J.length 2],.cells 0 [lF (ba b m s) aO],.loop {UI b m s J.length with state:=3 },?_⟩;refine vy rfl rfl rfl ?_;have hp:=λJ hJ=>Oz (J:=J) h hs hJ
 have hl:=VL (b:=b) h.bv (lv:=J.length) (j:=5) (N:=J.length+1) (St:=λpre=>U5 A B b m s J (pre.foldl (kR b m s (ba b m s)) [])) (λpre=>by simp[U5])
  (λpre l h1 h2 _=>by rw[List.foldl_append];exact ade h hs _ l h1 h2)
 have hm:Dc ([A,B]::J) .make []=some (.jU J.length 2,[A,B,.cells 0 (F6 [])]::J):=by simp[Dc,F6]
 simp[hp,Zg,hm];refine SO (d:=.cK []) (J2:=U5 A B b m s J (td b m s)) (lp:=UI b m s J.length) (by simp;exact⟨rfl,rfl,rfl⟩) ?_ (by simp[U5]) (by simp[UI]) ?_
 .simpa[UI,U5,td]using hl
 .simp[UI,U5]
end
section
open Go Go.Abs Go.Rock
def BV(N:Int)(s:List Rock.aG):Prop:=∀x∈s,sm x N
theorem dc{x:Rock.aG}{N M:Int}(h:sm x N)(hN:N<=M):sm x M:=by
 obtain⟨h1,h2,h3⟩:=h;exact⟨⟨by omega,by omega⟩,⟨by omega,by omega⟩,⟨by omega,by omega⟩⟩
theorem Cb{N:Int}{s:List Rock.aG}(h:BV N s){i:Nat}(hi:i<s.length):s[i]?=some (aR s i)/\sm (aR s i) N:=by
 have h2:s[i]?=some (aR s i):=by simp[aR,hi]
 exact⟨h2,h _ (aj h2)⟩
theorem GW{s:List Rock.aG}{i:Nat}{o:Rock.aG}{sign:Int}:(ck s i o sign).length=s.length:=by simp[ck]
theorem pQ{N M:Int}{s:List Rock.aG}(h:BV N s){i:Nat}{o:Rock.aG}{sign:Int}(ho:sm o M)(hs:sign=1\/sign = -1)(hM:0<=M):BV (N+M) (ck s i o sign):=by
 intro x hx;unfold ck at hx;by_cases hi:i<s.length
 .rcases List.mem_or_eq_of_mem_set hx with hx | rfl
  .exact dc (h x hx) (by omega)
  .obtain⟨a1,a2,a3⟩:=(Cb h hi).2;obtain⟨b1,b2,b3⟩:=ho;rcases hs with rfl | rfl
   .exact⟨⟨by simp only[Rock.aG.move];omega,by simp only[Rock.aG.move];omega⟩,⟨by simp only[Rock.aG.move];omega,by simp only[Rock.aG.move];omega⟩,⟨by simp only[Rock.aG.move];omega,by simp only[Rock.aG.move];omega⟩⟩
   .exact⟨⟨by simp only[Rock.aG.move];omega,by simp only[Rock.aG.move];omega⟩,⟨by simp only[Rock.aG.move];omega,by simp only[Rock.aG.move];omega⟩,⟨by simp only[Rock.aG.move];omega,by simp only[Rock.aG.move];omega⟩⟩
 .rw[List.set_eq_of_length_le (by omega)]at hx;exact dc (h x hx) (by omega)
theorem Ex{s:List Rock.aG}{i j:Nat}{o p:Rock.aG}{a c:Int}:ck (ck s i o a) j p c=ck (ck s j p c) i o a:=by
 by_cases hij:i=j
 .subst hij;by_cases hi:i<s.length
  .simp only[ck,aR,List.getElem?_set_self hi,eW,List.set_set,Rock.aG.move];congr 2<;>omega
  .simp only[ck,List.set_eq_of_length_le (show s.length<=i by omega)]
 .have hji:¬j=i:=λh=>hij h.symm
  simp only[ck,aR,List.getElem?_set_ne hij,List.getElem?_set_ne hji];rw[List.set_comm _ _ hij]
theorem Uw{s:List Rock.aG}{e f:(Nat×Nat)×Rock.aG}:cz (cz s e) f=cz (cz s f) e:=by
 unfold cz;rw[Ex (i:=e.1.2) (j:=f.1.1),Ex (i:=e.1.1) (j:=f.1.1),Ex (i:=e.1.2) (j:=f.1.2),Ex (i:=e.1.1) (j:=f.1.2)]
theorem Ph{s:List Rock.aG}{e:(Nat×Nat)×Rock.aG}:(cz s e).length=s.length:=by simp[cz,GW]
def Lq(es:List ((Nat×Nat)×Rock.aG))(s:List Rock.aG)(j:Nat):List Rock.aG:=match es[j]? with | some e=>cz s e | none=>s
theorem YB{es:List ((Nat×Nat)×Rock.aG)}{s:List Rock.aG}{i j:Nat}:Lq es (Lq es s i) j=Lq es (Lq es s j) i:=by
 unfold Lq;cases es[i]? <;> cases es[j]? <;> simp[Uw]
theorem aa6{es:List ((Nat×Nat)×Rock.aG)}{s:List Rock.aG}{j:Nat}:(Lq es s j).length=s.length:=by
 unfold Lq;split<;>simp[Ph]
theorem MG:∀(es:List ((Nat×Nat)×Rock.aG)) (s:List Rock.aG) (n:Nat),n<=es.length->(List.range n).foldl (Lq es) s=(es.take n).foldl cz s
 |es,s,0,_=>by simp
 |es,s,n+1,h=>by
  obtain⟨e,he⟩:∃e,es[n]?=some e:=gE (by omega);rw[List.range_succ,List.foldl_append,MG es s n (by omega),List.take_add_one,he,List.foldl_append];simp[Lq,he]
theorem aa5{es:List ((Nat×Nat)×Rock.aG)}{s:List Rock.aG}{js:List Nat}(hd:js.Nodup)(hm:∀j,j∈js↔j<es.length):js.foldl (Lq es) s=es.foldl cz s:=by
 have hp:js.Perm (List.range es.length):=(List.perm_ext_iff_of_nodup hd List.nodup_range).2 λa=>by simp[hm]
 rw[hp.foldl_eq' (λx _ y _ z=>YB),MG es s es.length (aN _),ah (aN _)]
theorem UH{b:bV}:(y9 b).length<=3*b.n:=by
 have key:∀l:List Nat,(fM l (vK b)).length<=3*l.length:=by
  intro l;induction l with
  |nil=>simp
  |cons i l ih =>
   rw[db,aV,aE];have:(vK b i).length<=3:=by
    unfold vK;simp only[aV];split<;>split<;>split<;>simp
   omega
 have:=key (List.range b.n);rw[List.length_range]at this;exact this
theorem PL{b:bV}(h:Bv b){l:Nat×Nat}(hl:l∈y9 b):l.1<b.n/\l.2<b.n:=by
 obtain⟨hnn,X1,Y1⟩:=h.nat;obtain⟨i,hi,hh⟩:=HK.1 hl;have h1:i<b.n:=by simpa using hi
 unfold vK at hh;simp only[aT]at hh;rcases hh with hh | hh | hh
 .split at hh
  .rename_i hc;simp at hh;subst hh;exact⟨h1,abO (W:=b.f.y.toNat*b.f.z.toNat) (by rw[hnn,Nat.mul_assoc]) h1 hc⟩
  .cases hh
 .split at hh
  .rename_i hc;simp at hh;subst hh;exact⟨h1,link2 (Z:=b.f.z.toNat) X1 Y1 hnn h1 hc⟩
  .cases hh
 .split at hh
  .rename_i hc;simp at hh;subst hh;exact⟨h1,hc⟩
  .cases hh
def Vb(b:bV)(e:(Nat×Nat)×Rock.aG):Prop:=(e.1.1<b.n/\e.1.2<b.n)/\sm e.2 1000000000000
theorem NC{x:Rock.aG}{q:Int}(hm:1<=x.m/\x.m<=1000000)(hh:0<=x.h/\x.h<=10000000000)(hk:0<=x.k/\x.k<=1000000000000)(hq:0<=q/\q<=x.m):sm (x.out q) 1000000000000:=by
 have b3:=IL hm.1 hh hq;have b4:=IL hm.1 hk hq;exact⟨⟨by simp only[Rock.aG.out];omega,by simp only[Rock.aG.out];omega⟩,⟨by simp only[Rock.aG.out];omega,by simp only[Rock.aG.out];omega⟩,⟨by simp only[Rock.aG.out];omega,by simp only[Rock.aG.out];omega⟩⟩
theorem Uu{b:bV}{m:bZ}{s:List Rock.aG}(hs:Sv b s){p:List Int}{l:Nat×Nat}(h1:l.1<b.n)(h2:l.2<b.n){e:(Nat×Nat)×Rock.aG}(he:Ci b m s p l=some e):Vb b e:=by
 unfold Ci at he;simp only at he;generalize hd:(p[l.1]?).getD 0-weight b l.1-(p[l.2]?).getD 0+weight b l.2=d at he;generalize hl':(if d<0 then(l.2,l.1)else l)=l' at he;generalize hd':(if d<0 then -d else d)=d' at he;have hll:l'.1<b.n/\l'.2<b.n:=by
  rw[<- hl'];split<;>exact⟨by assumption,by assumption⟩
 obtain⟨_,m1,m2,m3⟩:=hs.at hll.1;split at he
 .rename_i hq;simp only[ae]at he;subst he;have d2:=aQ (b:=8) (show 0<=(aR s l'.1).m by omega);exact⟨hll,NC m1 m2 m3 ⟨by omega,by rw[d2];omega⟩⟩
 .cases he
theorem aaK{b:bV}{es:List ((Nat×Nat)×Rock.aG)}{k:Nat×Nat}{o:Rock.aG}(h:∀e∈es,Vb b e)(ho:Vb b (k,o)):(∀e∈RD es k o,Vb b e)/\(RD es k o).length<=es.length+1:=by
 unfold RD;split
 .constructor
  .intro e he;rcases List.mem_or_eq_of_mem_set he with he | rfl
   .exact h e he
   .exact ho
  .simp
 .constructor
  .intro e he;rcases aT.1 he with he | he
   .exact h e he
   .simp at he;subst he;exact ho
  .simp
theorem Pj{b:bV}{m:bZ}{s:List Rock.aG}(h:Bv b)(hs:Sv b s):(∀e∈td b m s,Vb b e)/\(td b m s).length<=192:=by
 have key:∀(ls:List (Nat×Nat)) (es:List ((Nat×Nat)×Rock.aG)),(∀l∈ls,l.1<b.n/\l.2<b.n)->(∀e∈es,Vb b e)->(∀e∈ls.foldl (kR b m s (ba b m s)) es,Vb b e)/\(ls.foldl (kR b m s (ba b m s)) es).length<=es.length+ls.length:=by
  intro ls;induction ls with
  |nil=>intro es _ h;exact⟨h,by simp⟩
  |cons l ls ih =>
   intro es hl he;have hl0:=hl l (by simp);simp only[List.foldl_cons];have h1:(∀e∈kR b m s (ba b m s) es l,Vb b e)/\(kR b m s (ba b m s) es l).length<=es.length+1:=by
    unfold kR;split
    .rename_i e hfe;exact aaK he (Uu hs hl0.1 hl0.2 hfe)
    .exact⟨he,by omega⟩
   obtain⟨h2,h3⟩:=ih _ (λl hh=>hl l (by simp[hh])) h1.1;exact⟨h2,by simp only[aE];omega⟩
 obtain⟨h1,h2⟩:=key (y9 b) [] (λl hl=>PL h hl) (by simp);have:=@UH b;have hn:=h.n;exact⟨h1,by simp only[aY]at h2;unfold td;omega⟩
theorem Pg{b:bV}{N:Int}{s:List Rock.aG}{e:(Nat×Nat)×Rock.aG}(h:BV N s)(he:Vb b e):BV (N+2000000000000) (cz s e):=by
 have h1:=pQ (i:=e.1.1) (sign := -1) h he.2 (.inr rfl) (by omega);have h2:=pQ (i:=e.1.2) (sign:=1) h1 he.2 (.inl rfl) (by omega);unfold cz;rw[show N+2000000000000=N+1000000000000+1000000000000 by omega];exact h2
theorem TH{b:bV}{es:List ((Nat×Nat)×Rock.aG)}(hes:∀e∈es,Vb b e):∀(js:List Nat) (s:List Rock.aG) (N:Int),BV N s->BV (N+2000000000000*js.length) (js.foldr (λj s=>Lq es s j) s)
 |[],s,N,h=>by simpa using h
 |j::js,s,N,h=>by
  have ih:=TH hes js s N h;simp only[List.foldr_cons,aE];generalize js.foldr (λj s=>Lq es s j) s=s1 at *
  unfold Lq;split
  .rename_i e he;have:=Pg ih (hes e (aj he));intro x hx;exact dc (this x hx) (by push_cast;omega)
  .intro x hx;exact dc (ih x hx) (by push_cast;omega)
theorem Sv.BV{b:bV}{s:List Rock.aG}(h:Sv b s):BV 1000000000000 s:=by
 intro x hx;obtain⟨h1,h2,h3⟩:=aG.Nz.1 (h.ok x hx);exact⟨⟨by omega,by omega⟩,⟨by omega,by omega⟩,⟨by omega,by omega⟩⟩
end
end Go.Proofs.YtpapbbojmclkgaaGreatDoor
namespace Go.Abs
open Go
variable {T:CT}
theorem zo{F:List aG}:∀{J:SK} {lv:Nat},eT J lv=some F->lv<J.length
 |[],lv,h=>by simp[eT]at h
 |s::J,lv,h=>by
  simp only[eT]at h;split at h
  .rename_i h1;simp;omega
  .have:=zo h;simp;omega
section
variable {α:Type} {w:Nat} {enc:α->List D} (hw:∀x,(enc x).length=w) {p:α->Bool} {fv:D} {l:List α} {lv bi v:Nat} {F:List aG}
include hw in
theorem Ko(hF:F[bi]?=some (.cells v (fM l enc)))(hl:l.length<=9223372036854775807)(ht:oW T fv (λx => .agg (enc x)) p l){J:SK}(hs:eT J lv=some F):∀(m i:Nat),i+m=l.length ->
  WL T [0,1,7,8] false (Km true w) [(0,.sl lv bi v 0 l.length w),(1,fv),(7,iI l.length),(8,iI i)] J
   (λx e J'=>J'=J/\if idxOf p (l.drop i)<0 then x=.exit 0 else x=.ret/\get e 4=iI (i+idxOf p (l.drop i)))
 |0,i,hi=>by
  obtain⟨h1,h2,h3⟩:=ht;refine aA (Km.eq_1 _ _) ?_;have:¬i<l.length:=by omega
  have h5:l.drop i=[]:=by simp;omega
  simp[this,h2,h5,idxOf]
 |m+1,i,hi=>by
  have ih:=Ko hF hl ht hs m (i+1) (by omega);obtain⟨h1,h2,h3⟩:=ht;refine aA (Km.eq_1 _ _) ?_;have h4:i<l.length:=by omega
  obtain⟨x,hx⟩:=gE h4;have h5:=rD (f:=enc) hw hx;have h6:=h3 x (aj hx) J;have h7:=cg h4 hl;have h8:l.drop i=x::l.drop (i+1):=bx hx;have e1:∀r:List D,(enc x++r).take w=enc x:=λr=>by rw[<- hw x];simp
  have e2:∀r:Nat,w<=(enc x).length+r:=λr=>by rw[hw];omega
  cases hp:p x
  .rw[hp]at h6;simp[h4,h1,h2,h5,h6,h7,hs,hF,e1,e2];refine WL.mono (by simpa using ih) ?_;rintro x e J' ⟨h9,h10⟩;refine⟨h9,?_⟩;rw[h8];simp only[idxOf,hp,aD,if_false];by_cases h11:idxOf p (l.drop (i+1))<0
   .simpa[h11]using h10
   .rw[if_neg h11]at h10;rw[if_neg h11,if_neg (by omega)];refine⟨h10.1,?_⟩;rw[h10.2];congr 1;push_cast;omega
  .rw[hp]at h6;simp[h4,h1,h2,h5,h6,hs,hF,e1,e2,h8,idxOf,hp]
include hw in
theorem Kp{f:Nat}(hT:T f=some (uW true w))(hF:F[bi]?=some (.cells v (fM l enc)))(hl:l.length<=9223372036854775807)(ht:oW T fv (λx => .agg (enc x)) p l){J:SK}(hs:eT J lv=some F):
  dr T (.call false f [.sl lv bi v 0 l.length w,fv] J)=some (.val (iI (idxOf p l)) J):=by
 refine nR hT (uW.eq_1 _ _) rfl ?_;have hlt:=zo hs;have h:=Ko hw hF hl ht (lv:=lv) (F:=F) (J:=[]::J) (by simp[eT,hs,show ¬J.length=lv by omega]) l.length 0 (by simp);obtain⟨h1,h2,h3⟩:=ht;simp[h2];refine WL.mono (by simpa using h) ?_;rintro x e J' ⟨rfl,h10⟩
 try simp only[aC]at h10
 by_cases h11:idxOf p l<0
 .rw[if_pos h11]at h10;subst h10;have:idxOf p l = -1:=by
   cases l with
   |nil=>rfl
   |cons a l =>
    simp only[idxOf]at h11 ⊢;split at h11<;>rename_i ha
    .omega
    .rw[if_neg ha];split at h11<;>rename_i hb
     .rw[if_pos hb]
     .omega
  simp[this]
 .rw[if_neg h11]at h10;obtain⟨rfl,h12⟩:=h10
  try simp at h12
  simp[h12]
include hw in
theorem EW{f i:Nat}(hT:T f=some (iW i))(hi:T i=some (uW true w))(hF:F[bi]?=some (.cells v (fM l enc)))(hl:l.length<=9223372036854775807)(ht:oW T fv (λx => .agg (enc x)) p l){J:SK}(hs:eT J lv=some F):
  dr T (.call false f [.sl lv bi v 0 l.length w,fv] J)=some (.val (.bool (mu l p)) J):=by
 refine nR hT (iW.eq_1 _) rfl ?_;have hlt:=zo hs;have h:=Kp hw hi hF hl ht (lv:=lv) (F:=F) (J:=[]::J) (by simp[eT,hs,show ¬J.length=lv by omega]);obtain⟨h1,h2,h3⟩:=ht;have h4:decide (0<=idxOf p l)=mu l p:=by
  unfold mu;have h6:=HF (p:=p) (l:=l);cases h5:l.any p
  .have:=h6.2 h5;exact decide_eq_false (by omega)
  .exact decide_eq_true (by
    have:¬idxOf p l<0:=λh=>by rw[h6.1 h]at h5;cases h5
    omega)
 simp[h1,h2,h,h4]
include hw in
theorem JO{f g h i:Nat}(hf:T f=some (F8 g h))(hg:T g=some (AD true w))(hh:T h=some (iW i))(hi:T i=some (uW true w))
  (hF:F[bi]?=some (.cells v (fM l enc))) (hl:l.length<=9223372036854775807) (ht:oW T fv (λx => .agg (enc x)) p l) (hcl:fv.cells=some [fv]) {J:SK} (hs:eT J lv=some F):
  dr T (.call false f [.sl lv bi v 0 l.length w,fv] J)=some (.val (.bool (dj l p)) J):=by
 refine nR hf (F8.eq_1 _ _) rfl ?_;have hlt:=zo hs;have h:=EW hw hh hi hF hl (SR (yg w enc hw) hg ht) (lv:=lv) (F:=F) (J:=[]::J) (by simp[eT,hs,show ¬J.length=lv by omega]);obtain⟨h1,h2,h3⟩:=ht;have h4:(mu l λx => !p x) = !dj l p:=by
  unfold mu dj;rw[List.all_eq_not_any_not,Bool.not_not]
 simp[h1,h,h4,hcl]
end
end Go.Abs
namespace Go.Proofs.YtpapbbojmclkgaaGreatDoor
open Go Go.Abs Go.Rock
variable {J:SK}
theorem Ua{b:bV}{m:bZ}{s:List Rock.aG}(h:Bv b){lv bi v:Nat}{F:List Abs.aG}(hF:F[bi]?=some (.cells v (fM s aG.enc)))(hs:eT J lv=some F)(hl:s.length=b.n):
  Cl 338 [.agg (bM b m),.sl lv bi v 0 s.length 3] (.bool (qH b s)) J:=by
 refine au ?_;have hlt:=zo hs;have hz:=h.sz;have hn:=h.n;have hsz:=λJ=>Be (J:=J) h
 have ha:=JO (T:=T) (w:=3) (enc:=aG.enc) (λ_=>rfl) (f:=362) (g:=371) (h:=370) (i:=372) (l:=s) (p:=Rock.aG.valid) (fv:=.fn 363 [] []) rfl rfl rfl rfl hF (by omega) (oW.fn λx _ J=>QI) rfl (lv:=lv) (F:=F) (J:=[]::J) (by simp[eT,hs,show ¬J.length=lv by omega]);unfold qH;have hc3:((b.n:Nat):Int)=b.size:=hz.symm;rw[hl]at ha ⊢;cases hc:dj s Rock.aG.valid<;>simp[hsz,ha,hc,hc3]
def jsD(js:List Nat):List D:=js.map λj=>iI (j:Nat)
def U9(n:Nat)(js:List Nat):List Nat:=(List.range n).filter λj => !(js.contains j)
theorem aaj{js:List Nat}{j:Nat}:iI (j:Nat)∈jsD js↔j∈js:=by
 simp only[jsD,bI];constructor
 .rintro⟨a,h1,h2⟩;simp only[D.int.injEq,true_and]at h2;have:a=j:=by omega
  exact this ▸ h1
 .intro h;exact⟨j,h,rfl⟩
def Lb(b:bV)(m:bZ)(s:List Rock.aG)(aF:List Int)(L:Nat):Env :=
 [(1,lF s aG.enc),(2,lF aF aO),(3,.bg (bM b m)),(9,.sl L 1 1 0 s.length 3),(23,.jU L 6)]
def stT(A X Y Z:Abs.aG)(J:SK)(es:List ((Nat×Nat)×Rock.aG))(s:List Rock.aG)(it:Abs.aG):SK :=
 [A,.cells 1 (fM s aG.enc),.cells 0 (F6 es),X,Y,Z,it]::J
def itB(L n:Nat)(js:List Nat):Abs.aG:=.cells 1 (.jU L 2::iI (n:Nat)::jsD js)
theorem Xv{A X Y Z:Abs.aG}{es:List ((Nat×Nat)×Rock.aG)}{s:List Rock.aG}{js:List Nat}:
  IJ (stT A X Y Z J es s (itB J.length es.length js)) J.length 6=some (.jU J.length 2,es.length,jsD js,U9 es.length js):=by
 have hl:(F6 es).length=es.length:=by simp[F6]
 simp[IJ,stT,itB,Dg,hl,U9,aaj]
theorem aia{n:Nat}{js:List Nat}{u:Nat}(hu:u∈U9 n js):(U9 n (u::js)).length<(U9 n js).length:=by
 have e:U9 n (u::js)=(U9 n js).filter λj => !decide (j=u):=by
  unfold U9;rw[List.filter_filter];congr 1;funext j;simp[Bool.not_or]
 rw[e,List.length_filter_lt_length_iff_exists];exact⟨u,hu,by simp⟩
theorem ac6{b:bV}{m:bZ}{s:List Rock.aG}{aF:List Int}{A X Y Z:Abs.aG}{es:List ((Nat×Nat)×Rock.aG)}{r:R}(hs:Sv b s)(hes:∀e∈es,Vb b e)(hel:es.length<=192)
  (hr:WC (dr T) fe ((25,.bool false)::(24,.undef)::Lb b m s aF J.length) (stT A X Y Z J es (es.foldl cz s) .dead) λx e' J'=>r=.EX x e' J'):
  ∀(k:Nat) (js:List Nat),js.Nodup->(∀j∈js,j<es.length)->(U9 es.length js).length=k ->
   dr T (.iq [1,2,3,9,23] (.t 23) 24 25 0 iN fe (Lb b m s aF J.length) (stT A X Y Z J es (js.foldr (λj s=>Lq es s j) s) (itB J.length es.length js)))=some r:=by
 intro k;induction k using Nat.strongRecOn with
 |_ k ih =>
 intro js hd hj hk;by_cases hus:U9 es.length js=[]
 .have hall:∀j,j∈js↔j<es.length:=by
   intro j;refine⟨hj j,λhlt=>?_⟩;have h1:j ∉ U9 es.length js:=by rw[hus];simp
   simpa[U9,hlt]using h1
  have hfin:js.foldr (λj s=>Lq es s j) s=es.foldl cz s:=by
   rw[<- aa5 (js:=js.reverse) ((List.reverse_perm js).nodup_iff.2 hd) (λj=>by simp[hall]),List.foldl_reverse]
  rw[hfin];have hit:=Xv (J:=J) (A:=A) (X:=X) (Y:=Y) (Z:=Z) (es:=es) (s:=es.foldl cz s) (js:=js);rw[hus]at hit;refine UN iN.eq_1 rfl (by simp[Lb]) hit ?_;simp[stT,Lb,itB]at hr ⊢;exact hr
 .have hit:=Xv (J:=J) (A:=A) (X:=X) (Y:=Y) (Z:=Z) (es:=es) (s:=js.foldr (λj s=>Lq es s j) s) (js:=js);refine XO iN.eq_1 rfl (by simp[Lb]) hit hus ?_;intro u hu;have hu2:u<es.length/\u ∉ js:=by simpa[U9]using hu
  obtain⟨e,he⟩:∃e,es[u]?=some e:=⟨_,aH hu2.1⟩;have hf:=hes e (aj he);have hnext:=ih _ (by rw[<- hk];exact aia hu) (u::js) (List.nodup_cons.2 ⟨hu2.2,hd⟩) (by intro j hjm;rcases bw.1 hjm with rfl | hjm;exact hu2.1;exact hj j hjm) rfl;have hb:=TH hes js s 1000000000000 hs.BV;have hjl:js.length<=192:=by
   have h1:js.length<=es.length:=by
    have:=hd.length_le_of_subset (l₂:=List.range es.length) (λj hjm=>by simpa using hj j hjm);simpa using this
   omega
  have hlen:(js.foldr (λj s=>Lq es s j) s).length=b.n:=by
   have:∀js:List Nat,(js.foldr (λj s=>Lq es s j) s).length=s.length:=by
    intro js;induction js with
    |nil=>rfl
    |cons a l ih=>simp only[List.foldr_cons,aa6];exact ih
   rw[this,hs.len]
  simp only[List.foldr_cons]at hnext;generalize hs1:js.foldr (λj s=>Lq es s j) s=s1 at *
  have hstp:Lq es s1 u=ck (ck s1 e.1.1 e.2 (-1)) e.1.2 e.2 1:=by simp[Lq,he,cz]
  rw[hstp]at hnext;have hbn:BV 400000000000000 s1:=λx hx=>dc (hb x hx) (by omega)
  have hb1:=pQ (i:=e.1.1) (sign := -1) hbn hf.2 (.inr rfl) (by omega);obtain⟨x1,y1⟩:=Cb hbn (i:=e.1.1) (by have:=hf.1.1;omega);obtain⟨x2,y2⟩:=Cb hb1 (i:=e.1.2) (by rw[GW];have:=hf.1.2;omega);have hM1:∀I,dr T (.call false 334 [.ref J.length 1 1 (e.1.1*3),.agg [iI e.2.m,iI e.2.h,iI e.2.k],iI (-1)] ([A,.cells 1 (fM s1 aG.enc),.cells 0 (F6 es),X,Y,Z,I]::J)) =
    some (.val (.cK []) ([A,.cells 1 (fM (ck s1 e.1.1 e.2 (-1)) aG.enc),.cells 0 (F6 es),X,Y,Z,I]::J)) :=
   λI=>Jw (F:=[A,.cells 1 (fM s1 aG.enc),.cells 0 (F6 es),X,Y,Z,I]) (j:=1) rfl x1 (dc y1 (by omega)) (dc hf.2 (by omega)) (.inr rfl)
  have hM2:∀I,dr T (.call false 334 [.ref J.length 1 1 (e.1.2*3),.agg [iI e.2.m,iI e.2.h,iI e.2.k],iI 1] ([A,.cells 1 (fM (ck s1 e.1.1 e.2 (-1)) aG.enc),.cells 0 (F6 es),X,Y,Z,I]::J)) =
    some (.val (.cK []) ([A,.cells 1 (fM (ck (ck s1 e.1.1 e.2 (-1)) e.1.2 e.2 1) aG.enc),.cells 0 (F6 es),X,Y,Z,I]::J)) :=
   λI=>Jw (F:=[A,.cells 1 (fM (ck s1 e.1.1 e.2 (-1)) aG.enc),.cells 0 (F6 es),X,Y,Z,I]) (j:=1) rfl x2 (dc y2 (by omega)) (dc hf.2 (by omega)) (.inl rfl)
  have hfe:(F6 es)[u]?=some (.cK [.agg [iI e.1.1,iI e.1.2],.agg [iI e.2.m,iI e.2.h,iI e.2.k]]):=by simp[F6,he]
  have hfl:(F6 es).length=es.length:=by simp[F6]
  have hE:Dc ([A,.cells 1 (fM s1 aG.enc),.cells 0 (F6 es),X,Y,Z,.cells 1 (.jU J.length 2::iI (es.length:Nat)::iI (u:Nat)::jsD js)]::J) .ent [.jU J.length 6] =
    some (.cK [.agg [iI e.1.1,iI e.1.2],.agg [iI e.2.m,iI e.2.h,iI e.2.k]],[A,.cells 1 (fM s1 aG.enc),.cells 0 (F6 es),X,Y,Z,.cells 1 (.jU J.length 2::iI (es.length:Nat)::iI (u:Nat)::jsD js)]::J):=by
   simp[Dc,Dg,hfl,hfe]
  have hi1:e.1.1<s.length:=by have:=hf.1.1;have:=hs.len;omega
  have hi2:e.1.2<s.length:=by have:=hf.1.2;have:=hs.len;omega
  simp[Lb,stT,itB,hE,hM1,hM2,hi1,hi2];simpa[Lb,stT,itB,jsD]using hnext
theorem Hj{b:bV}(h:Bv b):∀w∈b.av,(0<=w.b/\w.b<(b.n:Int))/\(0<=w.h/\w.h<=3000)/\(0<=w.m/\w.m<=1000000):=by
 have key:∀(l:List bH) (u:List Int),og b.size u l=true->∀w∈l,(0<=w.b/\w.b<(b.n:Int))/\(0<=w.h/\w.h<=3000)/\(0<=w.m/\w.m<=1000000):=by
  intro l;induction l with
  |nil=>intro u _ w hw;cases hw
  |cons a l ih =>
   intro u hu w hw;simp only[og,bH.ok,af]at hu;obtain⟨⟨h1,h2,h3,h4⟩,h5⟩:=hu;rcases bw.1 hw with rfl | hw
   .have hs:=h.sz;have:=aP.1 h1;unfold bV.size at this;exact⟨⟨this.1,by omega⟩,aP.1 h3,aP.1 h4⟩
   .exact ih _ h5 w hw
 exact key _ _ h.ok
theorem mulR{a r A R:Int}(ha:0<=a/\a<=A)(hr : -R<=r/\r<=R) : -(R*A)<=r*a/\r*a<=R*A:=by
 rcases eV 0 r with h | h
 .have:=iR h hr.2 ha.1 ha.2;have h2:=bA (show 0<=R by omega) (show 0<=A by omega);omega
 .have:=iR (a := -r) (A:=R) (by omega) (by omega) ha.1 ha.2;rw[Int.neg_mul]at this;have h2:=bA (show 0<=R by omega) (show 0<=A by omega);omega
theorem Kk{w:bH}{r:Int}(hr : -100000<=r/\r<=100000)(h1:0<=w.h/\w.h<=3000)(h2:0<=w.m/\w.m<=1000000):sm (w.given r) 1000000000000:=by
 have b1:=mulR h1 hr;have b2:=mulR h2 hr;exact⟨⟨by simp only[bH.given];omega,by simp only[bH.given];omega⟩,⟨by simp only[bH.given,Int.neg_mul];omega,by simp only[bH.given,Int.neg_mul];omega⟩,⟨by simp only[bH.given,Int.neg_mul];omega,by simp only[bH.given,Int.neg_mul];omega⟩⟩
theorem Ra{b:bV}{m:bZ}(h:Fv b m){i:Nat}(hi:i<b.n):sm (IE b m i) 1000000000000:=by
 have b1:=h.feed i hi;have b2:=h.bv.deep;have b3:=iR b1.1 b1.2 b2.1 b2.2;exact⟨⟨by simp only[IE];omega,by simp only[IE];omega⟩,⟨by simp only[IE];omega,by simp only[IE];omega⟩,⟨by simp[IE],by simp[IE]⟩⟩
def eI(b:bV)(s s1:List Rock.aG)(aF:List Int)(j:Nat):List Rock.aG:=((b.av.zip aF).take j).foldl (λn wr=>mq s n wr.1 wr.2) s1
def lL(b:bV)(m:bZ)(s2:List Rock.aG)(i:Nat):List Rock.aG:=(List.range i).foldl (λn i=>ck n i (IE b m i) 1) s2
theorem Hh{b:bV}{s s1:List Rock.aG}{aF:List Int}{j:Nat}{w:bH}{r:Int}(h1:b.av[j]?=some w)(h2:aF[j]?=some r):eI b s s1 aF (j+1)=mq s (eI b s s1 aF j) w r:=by
 have:(b.av.zip aF)[j]?=some (w,r):=by rw[List.getElem?_zip_eq_some];exact⟨h1,h2⟩
 unfold eI;rw[List.take_add_one,this,List.foldl_append];rfl
theorem DJ{b:bV}{m:bZ}{s2:List Rock.aG}{i:Nat}:lL b m s2 (i+1)=ck (lL b m s2 i) i (IE b m i) 1:=by
 unfold lL;rw[List.range_succ,List.foldl_append];rfl
theorem yN{b:bV}{m:bZ}{s2:List Rock.aG}:∀i,(lL b m s2 i).length=s2.length
 |0=>rfl
 |i+1=>by rw[DJ,GW,yN i]
theorem YL{b:bV}{s:List Rock.aG}{aF:List Int}{j:Nat}{w:bH}{r:Int}(h1:b.av[j]?=some w)(h2:aF[j]?=some r):(bJ b s aF)[j]?=some (gZ s w r):=by
 have:(b.av.zip aF)[j]?=some (w,r):=by rw[List.getElem?_zip_eq_some];exact⟨h1,h2⟩
 simp[bJ,this]
structure Rv(b:bV)(aF:List Int):Prop where
 len:aF.length=b.av.length
 ok:∀r∈aF,-100000<=r/\r<=100000
theorem Rv.of{b:bV}{aF:List Int}(h:pS b aF=0):Rv b aF:=by
 unfold pS at h;split at h
 .rename_i hl;split at h
  .rename_i ha;exact⟨hl,λr hr=>aP.1 (eP.1 ha r hr)⟩
  .cases h
 .cases h
theorem aav{b:bV}{s next:List Rock.aG}(h:Bv b)(hs:Sv b s){aF:List Int}(hr:Rv b aF){j:Nat}{w:bH}{r:Int}(h1:b.av[j]?=some w)(h2:aF[j]?=some r){N:Int}(hb:BV N next):BV (N+1000000000000) (mq s next w r):=by
 have hw:=Hj h w (aj h1);have hrr:=hr.ok r (aj h2);obtain⟨_,m1,m2,m3⟩:=hs.at (i:=w.b.toNat) (by omega);have d2:=aQ (b:=8) (show 0<=(aR s w.b.toNat).m by omega);unfold mq gZ;split
 .exact pQ hb (Kk hrr hw.2.1 hw.2.2) (.inl rfl) (by omega)
 .exact pQ hb (NC m1 m2 m3 ⟨by rw[d2];omega,by rw[d2];omega⟩) (.inr rfl) (by omega)
theorem Oc{s n:List Rock.aG}{w:bH}{r:Int}:(mq s n w r).length=n.length:=by
 unfold mq;split<;>simp[GW]
theorem zu{b:bV}{s s1:List Rock.aG}(h:Bv b)(hs:Sv b s){aF:List Int}(hr:Rv b aF)(hb:BV 500000000000000 s1):∀j,j<=aF.length->BV (500000000000000+1000000000000*j) (eI b s s1 aF j)/\(eI b s s1 aF j).length=s1.length
 |0,_=>⟨by simpa[eI]using hb,by simp[eI]⟩
 |j+1,hj=>by
  obtain⟨r,h2⟩:∃r,aF[j]?=some r:=gE (by omega);obtain⟨w,h1⟩:∃w,b.av[j]?=some w:=⟨_,aH (by rw[<- hr.len];omega)⟩;obtain⟨ih1,ih2⟩:=zu h hs hr hb j (by omega);rw[Hh h1 h2];have h3:=aav h hs hr h1 h2 ih1;exact⟨λx hx=>dc (h3 x hx) (by push_cast;omega),by rw[Oc,ih2]⟩
theorem LX{b:bV}{m:bZ}{s2:List Rock.aG}(h:Fv b m)(hb:BV 600000000000000 s2):∀i,i<=b.n->BV (600000000000000+1000000000000*i) (lL b m s2 i)
 |0,_=>by simpa[lL]using hb
 |i+1,hi=>by
  have ih:=LX h hb i (by omega);rw[DJ];have h3:=pQ (i:=i) ih (Ra h (i:=i) (by omega)) (.inl rfl) (by omega);exact λx hx=>dc (h3 x hx) (by push_cast;omega)
theorem ZX{b:bV}{j:Nat}{w:bH}(h:b.av[j]?=some w):((fM b.av bH.enc).drop (j*3)).take 3=[iI w.b,iI w.h,iI w.m] :=
 bd (f:=bH.enc) (w:=3) (λ_=>rfl) h
theorem SI{b:bV}{m:bZ}{s s1:List Rock.aG}{aF:List Int}{A FL X Y Z W:Abs.aG}(h:Fv b m)(hs:Sv b s)(hr:Rv b aF)(hb:BV 500000000000000 s1)(hl1:s1.length=s.length):∀(k j v:Nat),j+k=aF.length ->
  WL T [1,3,9,12,41,42,43] false gJ [(1,lF s aG.enc),(3,.bg (bM b m)),(9,.sl J.length 1 1 0 s.length 3),(12,.sl J.length 7 v 0 j 3),(41,lF aF aO),(42,iI aF.length),(43,iI j)]
   ([A,.cells 1 (fM (eI b s s1 aF j) aG.enc),FL,X,Y,Z,W,.cells v (fM ((bJ b s aF).take j) aG.enc)]::J)
   (λx e J'=>x=.exit 2/\get e 3=.bg (bM b m)/\get e 9=.sl J.length 1 1 0 s.length 3/\get e 12=.sl J.length 7 (v+k) 0 aF.length 3 /\
    J'=[A,.cells 1 (fM (eI b s s1 aF aF.length) aG.enc),FL,X,Y,Z,W,.cells (v+k) (fM (bJ b s aF) aG.enc)]::J)
 |0,j,v,hj=>by
  refine aA gJ.eq_1 ?_;obtain rfl:j=aF.length:=by omega
  have hyl:(bJ b s aF).length=aF.length:=by simp[bJ,hr.len]
  have h3:(bJ b s aF).take aF.length=bJ b s aF:=ah (by omega);simp[h3]
 |k+1,j,v,hj=>by
  refine aA gJ.eq_1 ?_;have h1:j<aF.length:=by omega
  have hwl:=h.bv.av;have hrl:=hr.len;obtain⟨r,hr2⟩:∃r,aF[j]?=some r:=gE (by omega);obtain⟨w,hw1⟩:∃w,b.av[j]?=some w:=gE (by omega);have hw:=Hj h.bv w (aj hw1);have hrr:=hr.ok r (aj hr2);have hwn:w.b.toNat<b.n:=by omega
  have hlen:=hs.len;obtain⟨x0,m1,m2,m3⟩:=hs.at (i:=w.b.toNat) hwn;obtain⟨ib,il⟩:=zu h.bv hs hr hb j (by omega);obtain⟨x1,y1⟩:=Cb ib (i:=w.b.toNat) (by omega);have h4:=cg h1;have a1:=ZX hw1;have a2:=gp hr2;have a3:=bd (f:=aG.enc) (w:=3) (λ_=>rfl) x0;have hy:=YL (s:=s) hw1 hr2;have f3:=BI (f:=aG.enc) hy;have hyl:(bJ b s aF).length=aF.length:=by simp[bJ,hr.len]
  have f4:=tB ((bJ b s aF).take j);rw[dA,hyl,Nat.min_eq_left (by omega)]at f4;have f6:(fM ((bJ b s aF).take j) aG.enc).take (j*3)=fM ((bJ b s aF).take j) aG.enc:=ah (by omega);have h7:(j+1)*24<=room:=by unfold room;omega
  have ih:=SI (A:=A) (FL:=FL) (X:=X) (Y:=Y) (Z:=Z) (W:=W) h hs hr hb hl1 k (j+1) (v+1) (by omega);have hsucc:=Hh (s:=s) (s1:=s1) hw1 hr2;have hB0:(0:Int)<=w.b:=hw.1.1;have⟨hB1,hjw⟩:w.b<(s.length:Int)/\j<b.av.length:=by omega
  have d2:=aQ (b:=8) (show 0<=(aR s w.b.toNat).m by omega);by_cases hc:r<0
  .have hg:=λJ=>Zd (J:=J) hrr hw.2.1 hw.2.2
   have hM:∀V,dr T (.call false 334 [.ref J.length 1 1 (w.b.toNat*3),.agg [iI (w.given r).m,iI (w.given r).h,iI (w.given r).k],iI 1] ([A,.cells 1 (fM (eI b s s1 aF j) aG.enc),FL,X,Y,Z,W,V]::J)) =
     some (.val (.cK []) ([A,.cells 1 (fM (eI b s s1 aF (j+1)) aG.enc),FL,X,Y,Z,W,V]::J)):=by
    intro V;rw[hsucc,mq,if_pos hc];exact Jw (F:=[A,.cells 1 (fM (eI b s s1 aF j) aG.enc),FL,X,Y,Z,W,V]) (j:=1) rfl x1 (dc y1 (by omega)) (dc (Kk hrr hw.2.1 hw.2.2) (by omega)) (.inl rfl)
   have hwy:gZ s w r=⟨0,0,0⟩:=by simp[gZ,hc]
   rw[hwy]at f3;simp only[bH.enc,aG.enc]at hg;simp[h1,h4,a1,a2,f4,f6,h7,hB0,hB1,hjw,hc,hg,hM];refine WL.to ih (by simp[]) (by simp[<- f3]) λx e J hh=>by simpa[dG,Nat.add_comm 1 k]using hh
  .have w7:=cb (n:=(aR s w.b.toNat).m.tdiv 8) (by rw[d2];omega);have hO:=λJ=>VR (J:=J) (q:=min r ((aR s w.b.toNat).m.tdiv 8)) m1 m2 m3 ⟨by rw[d2];omega,by rw[d2];omega⟩
   have hos:=NC (q:=min r ((aR s w.b.toNat).m.tdiv 8)) m1 m2 m3 ⟨by rw[d2];omega,by rw[d2];omega⟩;have hwy:gZ s w r=(aR s w.b.toNat).out (min r ((aR s w.b.toNat).m.tdiv 8)):=by simp[gZ,hc]
   have hsucc':eI b s s1 aF (j+1)=ck (eI b s s1 aF j) w.b.toNat ((aR s w.b.toNat).out (min r ((aR s w.b.toNat).m.tdiv 8))) (-1):=by
    rw[hsucc,mq,if_neg hc,hwy]
   rw[hwy]at f3;generalize hQ:min r ((aR s w.b.toNat).m.tdiv 8)=Q at *
   generalize (aR s w.b.toNat).out Q=O at *
   have hM:∀V,dr T (.call false 334 [.ref J.length 1 1 (w.b.toNat*3),.agg [iI O.m,iI O.h,iI O.k],iI (-1)] ([A,.cells 1 (fM (eI b s s1 aF j) aG.enc),FL,X,Y,Z,W,V]::J)) =
     some (.val (.cK []) ([A,.cells 1 (fM (eI b s s1 aF (j+1)) aG.enc),FL,X,Y,Z,W,V]::J)):=by
    intro V;rw[hsucc'];exact Jw (F:=[A,.cells 1 (fM (eI b s s1 aF j) aG.enc),FL,X,Y,Z,W,V]) (j:=1) rfl x1 (dc y1 (by omega)) (dc hos (by omega)) (.inr rfl)
   simp only[aG.enc]at hO;simp[h1,h4,a1,a2,a3,f4,f6,h7,hB0,hB1,hjw,hc,w7,hQ,hO,hM];refine WL.to ih (by simp[]) (by simp[<- f3]) λx e J hh=>by simpa[dG,Nat.add_comm 1 k]using hh
theorem Wl{b:bV}{m:bZ}{s2:List Rock.aG}{A FL X Y Z W V:Abs.aG}{d12:D}(h:Fv b m)(hb:BV 600000000000000 s2)(hl2:s2.length=b.n)(hd:d12.strip=d12/\d12.calm=d12):∀(k i:Nat),i+k=b.n ->
  WL T [3,9,12,93,94] false gK [(3,.bg (bM b m)),(9,.sl J.length 1 1 0 b.n 3),(12,d12),(93,iI b.n),(94,iI i)]
   ([A,.cells 1 (fM (lL b m s2 i) aG.enc),FL,X,Y,Z,W,V]::J)
   (λx e J'=>x=.exit 4/\get e 3=.bg (bM b m)/\get e 9=.sl J.length 1 1 0 b.n 3/\get e 12=d12/\J'=[A,.cells 1 (fM (lL b m s2 b.n) aG.enc),FL,X,Y,Z,W,V]::J)
 |0,i,hi=>by
  refine aA gK.eq_1 ?_;obtain rfl:i=b.n:=by omega
  simp[hd]
 |k+1,i,hi=>by
  refine aA gK.eq_1 ?_;have h1:i<b.n:=by omega
  have hn:=h.bv.n;have h4:=cg h1;have hf:=λJ=>af2 (J:=J) h h1
  have ih:=Wl (A:=A) (FL:=FL) (X:=X) (Y:=Y) (Z:=Z) (W:=W) (V:=V) h hb hl2 hd k (i+1) (by omega);have ib:=LX h hb i (by omega);obtain⟨x1,y1⟩:=Cb ib (i:=i) (by rw[yN,hl2];omega);have hM:dr T (.call false 334 [.ref J.length 1 1 (i*3),.agg [iI (IE b m i).m,iI (IE b m i).h,iI (IE b m i).k],iI 1] ([A,.cells 1 (fM (lL b m s2 i) aG.enc),FL,X,Y,Z,W,V]::J)) =
    some (.val (.cK []) ([A,.cells 1 (fM (lL b m s2 (i+1)) aG.enc),FL,X,Y,Z,W,V]::J)):=by
   rw[DJ];exact Jw (F:=[A,.cells 1 (fM (lL b m s2 i) aG.enc),FL,X,Y,Z,W,V]) (j:=1) rfl x1 (dc y1 (by omega)) (dc (Ra h h1) (by omega)) (.inl rfl)
  simp only[aG.enc]at hf;simp[h1,h4,hf,hM,hd];refine WL.to ih (by simp[]) rfl λx e J hh=>hh
theorem Nv{b:bV}{m:bZ}{s:List Rock.aG}{aF:List Int}(hr:Rv b aF)(hl:s.length=b.n):lL b m (eI b s ((td b m s).foldl cz s) aF aF.length) b.n=mI b m s aF:=by
 have:(b.av.zip aF).take aF.length=b.av.zip aF:=ah (by rw[List.length_zip];omega);simp only[mI,lL,eI,this,hl]
theorem L6{b:bV}{m:bZ}{s:List Rock.aG}(h:Fv b m)(hs:Sv b s):BV 500000000000000 ((td b m s).foldl cz s)/\((td b m s).foldl cz s).length=s.length:=by
 obtain⟨h1,h2⟩:=Pj (m:=m) h.bv hs;have key:∀(es:List ((Nat×Nat)×Rock.aG)) (s:List Rock.aG) (N:Int),(∀e∈es,Vb b e)->BV N s->BV (N+2000000000000*es.length) (es.foldl cz s)/\(es.foldl cz s).length=s.length:=by
  intro es;induction es with
  |nil=>intro s N _ h;exact⟨by simpa using h,rfl⟩
  |cons e es ih =>
   intro s N he hb;obtain⟨a1,a2⟩:=ih (cz s e) _ (λx hx=>he x (by simp[hx])) (Pg hb (he e (by simp)));simp only[List.foldl_cons,aE];exact⟨λx hx=>dc (a1 x hx) (by push_cast;omega),by rw[a2,Ph]⟩
 obtain⟨a1,a2⟩:=key _ s _ h1 hs.BV;exact⟨λx hx=>dc (a1 x hx) (by omega),a2⟩
theorem acM{b:bV}{m:bZ}{s s1:List Rock.aG}{aF:List Int}{A FL X Y Z W:Abs.aG}(h:Fv b m)(hs:Sv b s)(hr:Rv b aF)(hb:BV 500000000000000 s1)(hl1:s1.length=s.length):
  WC (dr T) fe ((25,.bool false)::(24,.undef)::Lb b m s aF J.length) ([A,.cells 1 (fM s1 aG.enc),FL,X,Y,Z,W]::J) λx e J' =>
   x=.ret/\J'=[A,.cells 1 (fM (lL b m (eI b s s1 aF aF.length) b.n) aG.enc),FL,X,Y,Z,W,.cells aF.length (fM (bJ b s aF) aG.enc)]::J /\
   (if qH b (lL b m (eI b s s1 aF aF.length) b.n)=true then get e 6=.sl J.length 1 1 0 b.n 3/\get e 7=.sl J.length 7 aF.length 0 aF.length 3/\get e 8=iI 0
    else get e 6=.bz/\get e 7=.bz/\get e 8=iI 9):=by
 have hl:=hs.len;have hn:=h.bv.n;have hwl:=h.bv.av;have hrl:=hr.len;obtain⟨wb,wl⟩:=zu h.bv hs hr hb aF.length (aN _);have fl:=yN (b:=b) (m:=m) (s2:=eI b s s1 aF aF.length) b.n;rw[Bh fe.eq_1];simp[Lb];refine WL.to (SI (J:=J) (A:=A) (FL:=FL) (X:=X) (Y:=Y) (Z:=Z) (W:=W) h hs hr hb hl1 aF.length 0 0 (by omega)) (by simp[]) (by simp[eI]) ?_;rintro x e J' ⟨rfl,g3,g9,g12,rfl⟩;rw[hl]at g9;simp[g3,g9,g12];refine WL.to (Wl (J:=J) (A:=A) (FL:=FL) (X:=X) (Y:=Y) (Z:=Z) (W:=W) (V:=.cells (0+aF.length) (fM (bJ b s aF) aG.enc)) (d12:=.sl J.length 7 (0+aF.length) 0 aF.length 3) h (λx hx=>dc (wb x hx) (by omega)) (by rw[wl,hl1,hl]) ⟨rfl,rfl⟩ b.n 0 (by omega)) (by simp[]) (by simp[lL]) ?_;rintro x e J' ⟨rfl,g3,g9,g12,rfl⟩;have hS:=Ua (m:=m) (b:=b) (s:=lL b m (eI b s s1 aF aF.length) b.n) h.bv (lv:=J.length) (bi:=1) (v:=1) (F:=[A,.cells 1 (fM (lL b m (eI b s s1 aF aF.length) b.n) aG.enc),FL,X,Y,Z,W,.cells (0+aF.length) (fM (bJ b s aF) aG.enc)]) (J:=[A,.cells 1 (fM (lL b m (eI b s s1 aF aF.length) b.n) aG.enc),FL,X,Y,Z,W,.cells (0+aF.length) (fM (bJ b s aF) aG.enc)]::J) rfl (by simp[eT]) (by rw[fl,wl,hl1,hl]);rw[show(lL b m (eI b s s1 aF aF.length) b.n).length=b.n by rw[fl,wl,hl1,hl]]at hS;cases hc:qH b (lL b m (eI b s s1 aF aF.length) b.n)
 .rw[hc]at hS;simp at hS;simp[g3,g9,g12,hS]
 .rw[hc]at hS;simp at hS;simp[g3,g9,g12,hS]
def YF(b:bV)(m:bZ)(s:List Rock.aG)(aF:List Int):D:=match tick b m s aF with
 |some (s',y) => .cK [lF s' aG.enc,lF y aG.enc,.int .i64 0]
 |none => .cK [.bz,.bz,.int .i64 9]
theorem acV{b:bV}{m:bZ}{s:List Rock.aG}{aF:List Int}(h:Fv b m)(hs:Sv b s)(hr:Rv b aF)(hJ:J≠[]):
  Cl 303 [.agg (bM b m),lF s aG.enc,lF aF aO] (YF b m s aF) J:=by
 refine au ?_;have hl:=hs.len;have hn:=h.bv.n;have hne:s≠[]:=by intro h0;rw[h0]at hl;simp at hl;omega
 have hC:=Y7 (J:=J) (s:=s) (bs:=[]) (by omega) hne;obtain⟨X,Y,Z,hF⟩:=Zc (J:=J) (A:=.cells 0 []) (B:=.cells 1 (fM s aG.enc)) h hs;obtain⟨fb,fl⟩:=L6 h hs;obtain⟨x,e',J',hrun,rfl,rfl,hq⟩:=acM (J:=J) (A:=.cells 0 []) (FL:=.cells 0 (F6 (td b m s))) (X:=X) (Y:=Y) (Z:=Z) (W:=.dead) h hs hr fb fl;obtain⟨f1,f2⟩:=Pj (m:=m) h.bv hs;have hM:=ac6 (J:=J) (aF:=aF) (m:=m) (A:=.cells 0 []) (X:=X) (Y:=Y) (Z:=Z) (es:=td b m s) hs f1 f2 (r:=.EX .ret e' ([.cells 0 [],.cells 1 (fM (lL b m (eI b s ((td b m s).foldl cz s) aF aF.length) b.n) aG.enc),.cells 0 (F6 (td b m s)),X,Y,Z,.dead,.cells aF.length (fM (bJ b s aF) aG.enc)]::J)) ⟨_,_,_,hrun,rfl⟩ _ [] List.nodup_nil (by simp) rfl;simp only[aU,aY,cq]at hC;have hG:Dc ([.cells 0 [],.cells 1 (fM s aG.enc),.cells 0 (F6 (td b m s)),X,Y,Z]::J) .rng [.jU J.length 2]=some (.jU J.length 6,[.cells 0 [],.cells 1 (fM s aG.enc),.cells 0 (F6 (td b m s)),X,Y,Z,itB J.length (td b m s).length []]::J):=by
  simp[Dc,Dg,itB,jsD,F6]
 simp[hC,hF,hG];refine⟨_,_,_,by simpa[Lb,stT]using hM,?_⟩;rw[Nv hr hl]at hq ⊢;have hnl:(mI b m s aF).length=b.n:=by
  rw[<- Nv hr hl,yN,(zu h.bv hs hr fb aF.length (aN _)).2,fl,hl]
 have hyl:(bJ b s aF).length=aF.length:=by simp[bJ,hr.len]
 unfold YF tick;cases hc:qH b (mI b m s aF)
 .rw[hc]at hq;simp at hq;obtain⟨g6,g7,g8⟩:=hq;simp[g6,g7,g8]
 .rw[hc]at hq;simp only[if_true]at hq;obtain⟨g6,g7,g8⟩:=hq;simp only[if_true];simp[g6,g7,g8];rw[o4 (by simp) (by omega)];simp only[jb,j9];rw[<- hnl,ki (f:=aG.enc) (l:=mI b m s aF) (by decide) (λ_=>rfl) (λx=>by simp) hJ (by simp)];simp only[List.set_cons_succ,List.set_cons_zero];rw[<- hyl,ki (f:=aG.enc) (l:=bJ b s aF) (by decide) (λ_=>rfl) (λx=>by simp) hJ (by simp)];rw[ek (by simp) (by omega)];exact⟨_,rfl⟩
def lq(s:List Rock.aG):List D:=[lF s aG.enc]
theorem Jk(l:List (List Rock.aG)):(fM l lq).length=l.length:=by
 have:=b8 (f:=lq) (w:=1) (λ_=>rfl) l;omega
theorem Sv.next{b:bV}{m:bZ}{s:List Rock.aG}{aF:List Int}(h:Bv b){s' y:List Rock.aG}(ht:tick b m s aF=some (s',y)):Sv b s':=by
 unfold tick at ht;split at ht
 .rename_i hc;simp only[ae,ar]at ht;obtain⟨rfl,_⟩:=ht;exact(Sv.of h).1 hc
 .cases ht
theorem NS{n:Nat}(h:n<=1000000):n*24<=room:=by unfold room;omega
theorem abB(l:List (List Rock.aG)):D.bf (fM l lq)=true:=fB (λx=>by simp[lq,D.clean,Hu]) l
def aeH(b:bV)(m:bZ)(J:SK)(r:Option (List (List Rock.aG)×List (List Rock.aG)))(x:Abs.Exit)(e:Env)(J':SK):Prop:=match r with
 |some (ss,ys)=>∃v u,x=.exit 0/\get e 4=.own 0 [.sl J.length 2 v 0 ss.length 1,.sl J.length 1 u 0 ys.length 1]/\J'=[.cells 0 [],.cells u (fM ys lq),.cells v (fM ss lq)]::J
 |none=>x=.fu (.ui 428 (.agg []))/\∃bF,J'=bF::J
theorem Wt{b:bV}{m:bZ}{aw:List (List Int)}(h:Fv b m)(hp:aw.length<=200)(hr:∀r∈aw,Rv b r):∀(k i v u:Nat) (ss ys:List (List Rock.aG)) (s:List Rock.aG),i+k=aw.length->ss.length=i+1->ys.length=i->ss[i]?=some s->Sv b s ->
  WL T [2,4,14,15,16] false iM [(2,.bg (bM b m)),(4,.own 0 [.sl J.length 2 v 0 (i+1) 1,.sl J.length 1 u 0 i 1]),(14,lF aw IY),(15,iI aw.length),(16,iI i)]
   ([.cells 0 [],.cells u (fM ys lq),.cells v (fM ss lq)]::J) (aeH b m J (oe b m ss ys s (aw.drop i)))
 |0,i,v,u,ss,ys,s,hi,h1,h2,h3,hs=>by
  refine aA iM.eq_1 ?_;obtain rfl:i=aw.length:=by omega
  have h5:aw.drop aw.length=[]:=an (by omega);simp[h5,oe,aeH];exact⟨v,u,by simp[h1,h2]⟩
 |k+1,i,v,u,ss,ys,s,hi,h1,h2,h3,hs=>by
  refine aA iM.eq_1 ?_;have⟨hlt,hii⟩:i<aw.length/\(i:Int)<i+1:=by omega
  obtain⟨r,hx⟩:=gE hlt;have h4:=cg hlt;have h5:=bx hx;have a1:=bd (f:=IY) (w:=1) (λ_=>rfl) hx;simp only[IY,bS]at a1;have a2:=rD (f:=lq) (w:=1) (λ_=>rfl) h3;simp only[lq,bS,dp]at a2;have hT:=λJ hJ=>acV (J:=J) h hs (hr r (aj hx)) hJ
  rw[h5,oe];unfold YF at hT;cases ht:tick b m s r with
  |none =>
   rw[ht]at hT;simp only at hT;simp[hlt,hii,a1,a2,hT,aeH]
  |some p =>
   obtain⟨s',y⟩:=p;rw[ht]at hT;simp only at hT;have ih:=Wt h hp hr k (i+1) (v+1) (u+1) (ss++[s']) (ys++[y]) s' (by omega) (by simp[h1]) (by simp[h2]) (by simp[<- h1]) (Sv.next h.bv ht);have l1:=Jk ss;have l2:=Jk ys;rw[h1]at l1;rw[h2]at l2;have f1:(fM ss lq).take (i+1)=fM ss lq:=ah (by omega);have f2:(fM ys lq).take i=fM ys lq:=ah (by omega);have h7:=NS (n:=i+1) (by omega);have h8:=NS (n:=i+1+1) (by omega);simp[hlt,hii,h4,a1,a2,hT,f1,f2,l1,l2,h7,h8];exact WL.to ih (by simp) (by simp[lq]) λx e J hh=>hh
theorem Sk{b:bV}{m:bZ}{aw:List (List Int)}(h:Fv b m)(hp:aw.length<=200)(hr:∀r∈aw,Rv b r)(hJ:J≠[]){ss ys:List (List Rock.aG)}(hrun:Rock.run b m aw=some (ss,ys)):
  Cl 252 [.agg (bM b m),lF aw IY] (.agg [lF ss lq,lF ys lq]) J:=by
 refine au ?_;have hf:=λJ hJ=>Hm (J:=J) h hJ
 simp only[Yy]at hf;simp[hf];refine WL.to (Wt (J:=J) h hp hr aw.length 0 0 0 [bX b m] [] (bX b m) (by omega) rfl rfl rfl (Sv.first h)) (by simp) (by simp[lq]) ?_;rw[aC,show oe b m [bX b m] [] (bX b m) aw=some (ss,ys)from hrun];rintro x e J' ⟨v,u,rfl,g4,rfl⟩;simp[g4];have c1:∀x:List Rock.aG,D.bf (lq x)=true:=λx=>by simp[lq,D.clean,Hu]
 rw[Ew (by simp) (by omega)];simp only[jb,j9];rw[ki (f:=lq) (w:=1) (l:=ss) (by decide) (λ_=>rfl) c1 hJ (by simp)];simp only[List.set_cons_succ,List.set_cons_zero];rw[ki (f:=lq) (w:=1) (l:=ys) (by decide) (λ_=>rfl) c1 hJ (by simp)];exact⟨_,rfl⟩
theorem Sj{b:bV}{m:bZ}{aw:List (List Int)}(h:Fv b m)(hp:aw.length<=200)(hr:∀r∈aw,Rv b r)(hrun:Rock.run b m aw=none):
  dr T (.call false 252 [.agg (bM b m),lF aw IY] J)=some (.fu (.ui 428 (.agg [])) J):=by
 refine dX rfl rfl rfl ?_;have hf:=λJ hJ=>Hm (J:=J) h hJ
 simp only[Yy]at hf;simp[hf];refine WL.to (Wt (J:=J) h hp hr aw.length 0 0 0 [bX b m] [] (bX b m) (by omega) rfl rfl rfl (Sv.first h)) (by simp) (by simp[lq]) ?_;rw[aC,show oe b m [bX b m] [] (bX b m) aw=none from hrun];rintro x e J' ⟨rfl,bF,rfl⟩;simp[D.clean]
structure tA where
 m:Int
 h:Int
 s:Int
 g:Int
@[simp] def tA.enc(x:tA):List D:=[iI x.m,iI x.h,iI x.s,iI x.g]
def tA.valid(x:tA):Bool:=bC x.m 0 1000000 && (bC x.h 0 (4000*x.m) && (bC x.s 0 (10000*x.m) && bC x.g 0 1000000000))
def eK(r:Rw)(x:tA):Int:=if x.h-x.m*r.l<=0 then 0 else if x.m*r.v<=x.h then x.m else(x.h-x.m*r.l) / (r.v-r.l)
theorem VF{r:Rw}{x:tA}(hr:0<=r.l/\r.l<r.v/\r.v<=4000)(hm:0<=x.m/\x.m<=1000000)(hh:0<=x.h/\x.h<=4000000000):
  Cl 312 [.agg r.enc,.agg x.enc] (iI (eK r x)) J:=by
 refine au ?_;have b1:=iR hm.1 hm.2 hr.1 (show r.l<=4000 by omega);have b2:=iR hm.1 hm.2 (show 0<=r.v by omega) hr.2.2;have w1:=cb (n:=x.m*r.l);have w2:=cb (n:=x.h-x.m*r.l);have w3:=cb (n:=x.m*r.v);have w4:=cb (n:=r.v-r.l);have hd:¬r.v-r.l=0:=by omega
 unfold eK;by_cases c1:x.h-x.m*r.l<=0
 .simp[w1,w2,c1]
 .by_cases c2:x.m*r.v<=x.h
  .simp[w1,w2,w3,c1,c2]
  .have t1:=aQ (b:=r.v-r.l) (show 0<=x.h-x.m*r.l by omega);have q1:=Int.ediv_nonneg (a:=x.h-x.m*r.l) (b:=r.v-r.l) (by omega) (by omega);have q2:=Int.ediv_le_self (b:=r.v-r.l) (show 0<=x.h-x.m*r.l by omega);have w5:=cb (n:=(x.h-x.m*r.l) / (r.v-r.l));simp[w1,w2,w3,w4,c1,c2,hd,t1,w5]
theorem Jy{x:tA}:Cl 260 [.agg x.enc] (.bool x.valid) J:=by
 refine au ?_;unfold tA.valid;cases h1:bC x.m 0 1000000
 .simp[jO,h1]
 have hm:=aP.1 h1;have w1:=cb (n:=4000*x.m);have w2:=cb (n:=10000*x.m);cases h2:bC x.h 0 (4000*x.m)
 .simp[jO,h1,h2,w1]
 cases h3:bC x.s 0 (10000*x.m)
 .simp[jO,h1,h2,h3,w1,w2]
 cases h4:bC x.g 0 1000000000<;>simp[jO,h1,h2,h3,h4,w1,w2]
theorem af9{t:List Rw}{i:Nat}{r:Rw}(h:t[i]?=some r):Cl 261 [lF t Rw.enc,iI i] (.agg r.enc) J:=by
 refine au ?_;have h1:i<t.length:=(aB.1 h).1;have h2:=bd (f:=Rw.enc) (w:=5) (λ_=>rfl) h;simp[h1,h2]
theorem abo{t:List Rw}{n:Int}(hl:t.length<=1000000000):Cl 259 [lF t Rw.enc,iI n] (.bool (bC n 0 ((t.length:Int)-1))) J:=by
 refine au ?_;have w1:=cb (n:=(t.length:Int)-1);simp[jO,w1]
def wat(r:Rw)(x:tA):Int×Int:=if eK r x=0 then(x.m,x.h)else if eK r x=x.m then(0,0)else(x.m-eK r x,x.h-eK r x*r.v)
def N8(r:Rw)(x:tA):Int:=if eK r x=0 then 0 else if eK r x=x.m then x.h else eK r x*r.v
def aic(r:Rw)(x:tA):Int:=if eK r x=0 then x.g else 0
def N7(r:Rw)(x:tA):Int:=if eK r x=0 then 0 else x.g
def held(r:Rw)(x:tA):Int:=min x.s ((wat r x).1*r.s)
def parts(r:Rw)(x:tA):List D:=[iI (eK r x),iI (N8 r x),iI 0,iI (N7 r x),iI (wat r x).1,iI (wat r x).2,iI (held r x),iI (aic r x),
 iI (if 0<(wat r x).1 then max 0 ((wat r x).2-(wat r x).1*r.l)else 0),iI (x.s-held r x)]
theorem Po{r:Rw}{x:tA}(hr:0<=r.l/\r.l<r.v/\r.v<=4000)(hm:0<=x.m):0<=eK r x/\eK r x<=x.m/\(eK r x≠0->eK r x≠x.m->0<=x.h-eK r x*r.v+x.m*r.v):=by
 have hmv:x.m*r.v=x.m*r.l+x.m*(r.v-r.l):=by rw[<- Int.mul_add];congr 1;omega
 have hml:=bA hm hr.1;have key:¬x.h-x.m*r.l<=0->¬x.m*r.v<=x.h->0<=(x.h-x.m*r.l) / (r.v-r.l)/\(x.h-x.m*r.l) / (r.v-r.l)<=x.m:=λh1 h2=>⟨Int.ediv_nonneg (by omega) (by omega),Int.ediv_le_of_le_mul (by omega) (by omega)⟩
 have h2:0<=eK r x/\eK r x<=x.m:=by
  unfold eK;by_cases c1:x.h-x.m*r.l<=0
  .rw[if_pos c1];omega
  .rw[if_neg c1];by_cases c2:x.m*r.v<=x.h
   .rw[if_pos c2];omega
   .rw[if_neg c2];exact key c1 c2
 refine⟨h2.1,h2.2,λh3 _=>?_⟩;have h4:=dR h2.2 (show 0<=r.v by omega);have h5:¬x.h-x.m*r.l<=0:=by
  intro hh;exact h3 (by unfold eK;rw[if_pos hh])
 omega
theorem af5{r:Rw}{x:tA}(hr:0<=r.l/\r.l<r.v/\r.v<=4000)(hs:0<=r.s/\r.s<=2000)(hx:x.valid=true):
  Cl 262 [.agg r.enc,.agg x.enc] (.agg (parts r x)) J:=by
 refine au ?_;simp only[tA.valid,af,aP]at hx;obtain⟨hm,hh,hsl,hg⟩:=hx;have hF:=λJ=>VF (J:=J) hr hm ⟨hh.1,by omega⟩
 obtain⟨f1,f2,f3⟩:=Po hr hm.1;have b1:=iR f1 (show eK r x<=1000000 by omega) (show 0<=r.v by omega) hr.2.2;have b2:=iR (show 0<=x.m-eK r x by omega) (show x.m-eK r x<=1000000 by omega) hs.1 hs.2;have b3:=iR (show 0<=x.m-eK r x by omega) (show x.m-eK r x<=1000000 by omega) hr.1 (show r.l<=4000 by omega);have b4:=iR hm.1 hm.2 hs.1 hs.2;have b5:=iR hm.1 hm.2 hr.1 (show r.l<=4000 by omega);simp only[Rw.enc,tA.enc]at hF;unfold parts held N8 aic N7 wat;generalize eK r x=m at *
 have w1:=cb (n:=m*r.v);have w2:=cb (n:=x.m-m);have w3:=cb (n:=x.h-m*r.v);have w4:=cb (n:=(x.m-m)*r.s);have w5:=cb (n:=(x.m-m)*r.l);have w6:=cb (n:=x.h-m*r.v-(x.m-m)*r.l);have w7:=cb (n:=x.m*r.s);have w8:=cb (n:=x.m*r.l);have w9:=cb (n:=x.h-x.m*r.l);have v1:=cb (n:=x.s-min x.s (x.m*r.s));have v2:=cb (n:=x.s-min x.s ((x.m-m)*r.s));have v3:=cb (n:=x.s);have v4:min x.s 0=0:=by omega
 by_cases c1:m=0
 .subst c1;by_cases c2:0<x.m
  .simp[hF,w7,w8,w9,v1,c2]
  .simp[hF,w7,v1,c2]
 .by_cases c2:m=x.m
  .subst c2;simp[hF,c1,v3,v4]
  .have⟨c3,c4⟩:0<x.m-m/\m<x.m:=by omega
   simp[hF,c1,c2,c4,w1,w2,w3,w4,w5,w6,v2]
theorem Yf{t:List Rw}(ht:fK t=true){i:Nat}{r:Rw}(h:t[i]?=some r):(0<=r.l/\r.l<r.v/\r.v<=4000)/\(0<=r.s/\r.s<=2000):=by
 simp only[fK,af]at ht;have:=eP.1 ht.2.1 r (aj h);simp only[Rw.alone,af,aP,az]at this;obtain⟨_,_,h3,h4,h5,h6⟩:=this;exact⟨⟨h3.1,h5,h6⟩,h4⟩
theorem YY{t:List Rw}(ht:fK t=true){i:Nat}{r:Rw}(hi:t[i]?=some r){x:tA}(hx:x.valid=true):
  Cl 218 [lF t Rw.enc,iI i,.agg x.enc] (.cK [.agg (parts r x),iI 0]) J:=by
 refine au ?_;have hl:t.length<=20:=by
  simp only[fK,af]at ht;have:=aP.1 ht.1;omega
 have hil:i<t.length:=(aB.1 hi).1;have h1:=λJ=>FG (J:=J) (t:=t) (by omega)
 have h2:=λJ=>abo (J:=J) (t:=t) (n:=i) (by omega)
 have h3:=λJ=>Jy (J:=J) (x:=x)
 have h4:=λJ=>af9 (J:=J) hi
 obtain⟨r1,r2⟩:=Yf ht hi;have h5:=λJ=>af5 (J:=J) r1 r2 hx
 have hin:bC i 0 ((t.length:Int)-1)=true:=aP.2 (by omega);rw[hin]at h2;rw[hx]at h3;rw[ht]at h1;simp only[tA.enc,Rw.enc]at h3 h4 h5;have hp:(parts r x).length=10:=rfl;have hp2:(parts r x).take 10=parts r x:=rfl;have hpc:D.bf (parts r x)=true:=by simp[parts]
 generalize parts r x=P at *
 simp[h1,h2,h3,h4,h5,hp,hp2];rw[ek (by simp[D.clean,hpc]) (by omega)];exact⟨_,rfl⟩
structure Yv(b:bV)(y:List Rock.aG):Prop where
 len:y.length=b.av.length
 ok:∀o∈y,(0<=o.m/\o.m<=1000000)/\(0<=o.h/\o.h<=10000000000)/\(0<=o.k/\o.k<=1000000000000)
theorem Yv.of{b:bV}{s:List Rock.aG}{aF:List Int}(h:Bv b)(hs:Sv b s)(hr:Rv b aF):Yv b (bJ b s aF):=by
 refine⟨by simp[bJ,hr.len],?_⟩;intro o ho;simp only[bJ,bI]at ho;obtain⟨⟨w,r⟩,hm,rfl⟩:=ho;have hw:=Hj h w (List.of_mem_zip hm).1;have hb:=hr.ok r (List.of_mem_zip hm).2;simp only[gZ];split
 .simp
 .obtain⟨_,h1,h2,h3⟩:=hs.at (i:=w.b.toNat) (by omega);generalize aR s w.b.toNat=x at *
  have h8:x.m.tdiv 8=x.m / 8:=aQ (by omega);have hq:0<=min r (x.m.tdiv 8)/\min r (x.m.tdiv 8)<=x.m:=by omega
  exact⟨⟨hq.1,by simp only[Rock.aG.out];omega⟩,IL h1.1 h2 hq,IL h1.1 h3 hq⟩
theorem YG{b:bV}{m:bZ}{s:List Rock.aG}{aF:List Int}{s' y:List Rock.aG}(h:Bv b)(hs:Sv b s)(hr:Rv b aF)(ht:tick b m s aF=some (s',y)):Sv b s'/\Yv b y:=by
 refine⟨Sv.next h ht,?_⟩;unfold tick at ht;split at ht
 .simp only[ae,ar]at ht;rw[<- ht.2];exact Yv.of h hs hr
 .cases ht
structure LJ(b:bV)(n:Nat)(ss ys:List (List Rock.aG)):Prop where
 sl:ss.length=n+1
 yl:ys.length=n
 sv:∀s∈ss,Sv b s
 yv:∀y∈ys,Yv b y
theorem LJ.from{b:bV}{m:bZ}(h:Fv b m):∀(aw:List (List Int)) (n:Nat) (ss ys:List (List Rock.aG)) (s:List Rock.aG) {ss' ys':List (List Rock.aG)},(∀r∈aw,Rv b r)->LJ b n ss ys->Sv b s->oe b m ss ys s aw=some (ss',ys')->LJ b (n+aw.length) ss' ys'
 |[],n,ss,ys,s,ss',ys',hr,h1,h2,he=>by
  simp only[oe,ae,ar]at he;obtain⟨rfl,rfl⟩:=he;exact h1
 |r::aw,n,ss,ys,s,ss',ys',hr,h1,h2,he=>by
  simp only[oe]at he;split at he
  .rename_i s' y ht;obtain⟨g1,g2⟩:=YG h.bv h2 (hr r (List.mem_cons_self ..)) ht;have:=LJ.from h aw (n+1) _ _ _ (λx hx=>hr x (List.mem_cons_of_mem _ hx)) (⟨by simp[h1.sl],by simp[h1.yl],by
    intro x hx;rcases aT.1 hx with hx | hx
    .exact h1.sv x hx
    .rw[List.mem_singleton.1 hx];exact g1,by
    intro x hx;rcases aT.1 hx with hx | hx
    .exact h1.yv x hx
    .rw[List.mem_singleton.1 hx];exact g2⟩:LJ b (n+1) (ss++[s']) (ys++[y])) g1 he
   rw[show n+(r::aw).length=n+1+aw.length by simp;omega];exact this
  .cases he
theorem LJ.of{b:bV}{m:bZ}{aw:List (List Int)}{ss ys:List (List Rock.aG)}(h:Fv b m)(hr:∀r∈aw,Rv b r)(he:Rock.run b m aw=some (ss,ys)):LJ b aw.length ss ys:=by
 have:=LJ.from h aw 0 _ _ _ hr (⟨rfl,rfl,by simpa using Sv.first h,by simp⟩:LJ b 0 [bX b m] []) (Sv.first h) he;simpa using this
theorem Bi{α:Type}{p:α->Bool}{x:α}{l:List α}:dj (x::l) p=(p x && dj l p):=by simp[dj]
theorem dt{a b c:Int}:Cl 103 [iI a,iI b,iI c] (.bool (bC a b c)) J:=by
 refine au ?_;by_cases h:b<=a<;>simp[h,bC]
theorem qI{a b c:Int}:Cl 130 [iI a,iI b,iI c] (.bool (bC a b c)) J:=by
 refine au ?_;by_cases h:b<=a<;>simp[h,bC]
theorem Y3{f:dD}(hx:1<=f.x/\f.x<=8)(hy:1<=f.y/\f.y<=8)(hz:1<=f.z/\f.z<=8):Cl 131 [.agg (fL f)] (iI f.size) J:=by
 refine au ?_;obtain⟨h1,h2⟩:=dD.sz hx hy hz;have w1:=cb (n:=f.x*f.y);have w2:=cb (n:=f.x*f.y*f.z);simp[w1,w2,dD.size]
theorem pk{f:dD}(h:f.valid=true):Cl 131 [.agg (fL f)] (iI f.size) J:=by
 obtain⟨h1,h2,h3,h4,h5⟩:=dD.nJ.1 h;exact Y3 h1 h2 h3
theorem Of{f:dD}:Cl 88 [.agg (fL f)] (.bool f.valid) J:=by
 refine au ?_;cases hc1:bC f.x 1 8
 .simp[qI,dD.valid,hc1]
 cases hc2:bC f.y 1 8
 .simp[qI,dD.valid,hc1,hc2]
 cases hc3:bC f.z 1 8
 .simp[qI,dD.valid,hc1,hc2,hc3]
 obtain⟨h1,h2⟩:=dD.sz (aP.1 hc1) (aP.1 hc2) (aP.1 hc3);have w1:=cb (n:=f.x*f.y);have w2:=cb (n:=f.x*f.y*f.z);by_cases hc4:f.x*f.y*f.z<=64
 .simp[qI,dD.valid,dD.size,hc1,hc2,hc3,hc4,w1,w2]
 .simp[qI,dD.valid,dD.size,hc1,hc2,hc3,hc4,w1,w2]
theorem Sp{s:List UInt8}(hl:s.length<=9223372036854775807):∀(m i:Nat),i+m=s.length ->
  WL T [0,3] false oo [(0,.str s),(3,iI i)] J
   (λx e J'=>J'=J/\if oK i (s.drop i)then x=.exit 0/\get e 0=.str s else x=.ret/\get e 2=.bool false)
 |0,i,hi=>by
  refine aA oo.eq_1 ?_;have h1:¬i<s.length:=by omega
  have h2:s.drop i=[]:=an (by omega);have hp:ia .Qj [.str s]=some (iI s.length):=rfl;simp[h1,h2,hp,oK]
 |m+1,i,hi=>by
  refine aA oo.eq_1 ?_;have h1:i<s.length:=by omega
  obtain⟨c,hc⟩:=gE h1;have h4:=cg h1;have h5:=bx hc;have ih:=Sp hl m (i+1) (by omega);have hp:ia .Qj [.str s]=some (iI s.length):=rfl;rw[h5,oK];have hd:ia .Ln [.str s,iI (i:Int)]=some (.int .u8 c.toNat):=by simp[ia,hc]
  by_cases hc1:97<=c.toNat
  .by_cases hc2:c.toNat<=122
   .have hlet:letter c=true:=by simp[letter,hc1,hc2]
    simp[h1,h4,hd,hp,hlet,show(97:Int)<=(c.toNat:Int)by omega,show(c.toNat:Int)<=122 by omega];exact WL.to ih (by simp) rfl λx e J' hh=>by simpa[hlet]using hh
   .have hlet:letter c=false:=by simp[letter,hc2]
    have hdig:digit c=false:=by simp[digit];omega
    by_cases hi0:i=0
    .subst hi0;have hd0:ia .Ln [.str s,iI 0]=some (.int .u8 c.toNat):=by simpa using hd
     have h1':0<s.length:=h1;simp[h1',hd0,hp,hlet,hdig,show(97:Int)<=(c.toNat:Int)by omega,show ¬(c.toNat:Int)<=122 by omega]
    .simp[h1,hd,hp,hlet,hdig,hi0,show(97:Int)<=(c.toNat:Int)by omega,show ¬(c.toNat:Int)<=122 by omega,show ¬(c.toNat:Int)<48 by omega,show(57:Int)<(c.toNat:Int)by omega]
  .have hlet:letter c=false:=by simp[letter,hc1]
   by_cases hi0:i=0
   .subst hi0;have hd0:ia .Ln [.str s,iI 0]=some (.int .u8 c.toNat):=by simpa using hd
    have h1':0<s.length:=h1;simp[h1',hd0,hp,hlet,show ¬(97:Int)<=(c.toNat:Int)by omega]
   .by_cases hc3:c.toNat<48
    .have hdig:digit c=false:=by simp[digit];omega
     simp[h1,hd,hp,hlet,hdig,hi0,show ¬(97:Int)<=(c.toNat:Int)by omega,show(c.toNat:Int)<48 by omega]
    .by_cases hc4:57<c.toNat
     .have hdig:digit c=false:=by simp[digit];omega
      simp[h1,hd,hp,hlet,hdig,hi0,show ¬(97:Int)<=(c.toNat:Int)by omega,show ¬(c.toNat:Int)<48 by omega,show(57:Int)<(c.toNat:Int)by omega]
     .have hdig:digit c=true:=by simp[digit];omega
      simp[h1,h4,hd,hp,hlet,hdig,hi0,show ¬(97:Int)<=(c.toNat:Int)by omega,show ¬(c.toNat:Int)<48 by omega,show ¬(57:Int)<(c.toNat:Int)by omega];exact WL.to ih (by simp) rfl λx e J' hh=>by simpa[hlet,hdig,hi0]using hh
theorem I5{s:List UInt8}(hl:s.length<=9223372036854775807):Cl 174 [.str s] (.bool (named s)) J:=by
 refine au ?_;have hp:ia .Qj [.str s]=some (iI s.length):=rfl;simp;refine WL.to (Sp (J:=[]::J) hl s.length 0 (by omega)) (by simp) rfl ?_;rintro x e J' ⟨rfl,h⟩;simp only[aC]at h;unfold named;cases hc:oK 0 s
 .simp[hc]at h;simp[h]
 .simp[hc]at h;obtain⟨rfl,g0⟩:=h;by_cases h1:1<=s.length
  .by_cases h2:s.length<=16
   .simp[g0,hp,bC,show(1:Int)<=s.length by omega,show(s.length:Int)<=16 by omega]
   .simp[g0,hp,bC,show(1:Int)<=s.length by omega,show ¬(s.length:Int)<=16 by omega]
  .simp[g0,hp,bC,show ¬(1:Int)<=s.length by omega]
theorem OG{f:dD}{m:bZ}(hl:m.dz.length<=9223372036854775807):∀(k i:Nat),i+k=m.dz.length ->
  WL T [3,5] false gH [(3,.bg (mL m)),(5,iI i)] J
   (λx e J'=>J'=J/\if dj (m.dz.drop i) (λn=>bC n (-100000) 100000)then x=.exit 0 else x=.ret/\get e 4=iI 1)
 |0,i,hi=>by
  refine aA gH.eq_1 ?_;have h1:¬i<m.dz.length:=by omega
  have h2:m.dz.drop i=[]:=an (by omega);simp[h1,h2,dj]
 |k+1,i,hi=>by
  refine aA gH.eq_1 ?_;have h1:i<m.dz.length:=by omega
  obtain⟨c,hc⟩:=gE h1;have h2:=gp hc;have h4:=cg h1;have h5:=bx hc;have ih:=OG (f:=f) hl k (i+1) (by omega);rw[h5,Bi];cases hb:bC c (-100000) 100000
  .simp[h1,h2,qI,hb]
  .simp[h1,h2,h4,qI,hb];exact WL.to ih (by simp) rfl λx e J' hh=>by simpa[hb]using hh
theorem Vs{f:dD}{m:bZ}(hf:f.valid=true)(hn:m.name.length<=9223372036854775807)(hl:m.dz.length<=9223372036854775807):Cl 135 [.agg (fL f),.agg (mL m)] (iI (f.model m)) J:=by
 refine au ?_;obtain⟨h6,h7⟩:=BL hf;have w1:=cb (n:=f.k*f.size);have hb:=λJ=>pk (J:=J) (f:=f) hf
 cases hc1:named m.name
 .simp[I5 hn,hc1,dD.model]
 .by_cases hc2:(m.dz.length:Int)=f.k*f.size
  .simp[I5 hn,hc1,hc2,hb,w1];refine WL.to (OG (J:=[]::J) (f:=f) (m:=m) hl m.dz.length 0 (by omega)) (by simp) (by simp) ?_;rintro x e J' ⟨rfl,h⟩;simp only[aC]at h;cases hc3:dj m.dz (λn=>bC n (-100000) 100000)
   .simp[hc3]at h;simp[h,dD.model,hc1,hc2,hc3]
   .simp[hc3]at h;simp[h,dD.model,hc1,hc2,hc3]
  .simp[I5 hn,hc1,hc2,dD.model,hb,w1]
end Go.Proofs.YtpapbbojmclkgaaGreatDoor
