import Derived.Test.YtpapbbojmclkgaaGreatDoorTxt0
set_option linter.all false
namespace Go.Proofs.YtpapbbojmclkgaaGreatDoor
section
open Go Go.Abs Go.Rock
variable {J:SK}
theorem Zh{b:bU}:Cl 359 [.agg (bL b)] (.fn 369 [] [.bg (bL b)]) J:=by
 refine au ?_;simp[CW,xD]
theorem Bv.xy{b:bU}(h:Bv b):b.f.x=(b.f.x.toNat:Int)/\b.f.y=(b.f.y.toNat:Int)/\1<=b.f.x.toNat*b.f.y.toNat/\b.f.x.toNat*b.f.y.toNat<=64:=by
 have hx:=h.x;have hy:=h.y;obtain⟨s1,_⟩:=dD.sz h.x h.y h.z;have e1:b.f.x*b.f.y=((b.f.x.toNat*b.f.y.toNat:Nat):Int):=by push_cast;rw[dO (by omega),dO (by omega)]
 rw[e1]at s1;refine⟨by omega,by omega,by omega,by omega⟩
theorem Bv.nat{b:bU}(h:Bv b):b.n=b.f.x.toNat*b.f.y.toNat*b.f.z.toNat/\1<=b.f.x.toNat/\1<=b.f.y.toNat:=by
 have hx:=h.x;have hy:=h.y;have hz:=h.z;have hs:=h.sz;refine⟨?_,by omega,by omega⟩;have:((b.f.x.toNat*b.f.y.toNat*b.f.z.toNat:Nat):Int)=b.f.size:=by
  push_cast;rw[dO (by omega),dO (by omega),dO (by omega)];rfl
 omega
theorem abR{X W i n:Nat}(hn:n=X*W)(hi:i<n)(hc:(i+1)%X≠0):i+1<n:=by
 rcases Nat.lt_or_ge (i+1) n with h | h
 .exact h
 .have:i+1=X*W:=by omega
  rw[this,Nat.mul_mod_right]at hc;exact absurd rfl hc
theorem link2{X Y Z i n:Nat}(hX:1<=X)(hY:1<=Y)(hn:n=X*Y*Z)(hi:i<n)(hc:i / X%Y≠Y-1):i+X<n:=by
 have h1:i / X<Y*Z:=by rw[Nat.div_lt_iff_lt_mul hX,Nat.mul_comm,<- Nat.mul_assoc];omega
 have h2:i / X+1<Y*Z:=by
  rcases Nat.lt_or_ge (i / X+1) (Y*Z)with h | h
  .exact h
  .exfalso
   have h3:i / X+1=Y*Z:=by omega
   have hZ:1<=Z:=by
    rcases Nat.eq_zero_or_pos Z with h0 | h0
    .subst h0;omega
    .exact h0
   have h4:i / X=Y*(Z-1)+(Y-1):=by
    have:Y*Z=Y*(Z-1)+Y:=by rw[<- Nat.mul_succ];congr 1;omega
    omega
   rw[h4,Nat.mul_add_mod,Nat.mod_eq_of_lt (by omega)]at hc;exact hc rfl
 have h3:i<(i / X+1)*X:=by
  have:=Nat.div_add_mod i X;have h4:=Nat.mod_lt i (show X>0 by omega);rw[ig,Nat.one_mul,Nat.mul_comm (i / X) X];omega
 have h5:(i / X+1)*X+X<=n:=by
  have:(i / X+1+1)*X<=Y*Z*X:=cY _ h2;rw[ig (i / X+1) 1 X,Nat.one_mul,Nat.mul_comm (Y*Z) X,<- Nat.mul_assoc]at this;omega
 omega
theorem SE{b:bU}(h:Bv b){lv j N:Nat}{St:List (Nat×Nat)->SK}(hN:∀pre,(St pre).length=N)
  (hR:∀pre,∀l:Nat×Nat,l.1<b.n->l.2<b.n->l.1≠l.2->dp T (.round lv j [.agg [iI l.1,iI l.2]] ([]::St pre))=some (.val (.bool true) ([]::St (pre++[l])))):∀(n i:Nat) (pre:List (Nat×Nat)),i+n=b.n ->
  WL T [0,1,3,4,13,14] false iL [(0,.jS lv j),(1,.bg (bL b)),(3,iI b.f.x),(4,iI b.f.y),(13,iI b.n),(14,iI i)] ([]::St pre)
   (λx e J'=>J'=[]::St (pre++fM ((List.range b.n).drop i) (vH b))/\x=.exit 0)
 |0,i,pre,hi=>by
  refine az iL.eq_1 ?_;have h1:¬i<b.n:=by omega
  have h2:(List.range b.n).drop i=[]:=an (by simp;omega);simp[h1,h2]
 |n+1,i,pre,hi=>by
  refine az iL.eq_1 ?_;have h1:i<b.n:=by omega
  have hn:=h.n;have hx:=h.x;have hy:=h.y;obtain⟨eX,eY,p1,p2⟩:=h.xy;have h4:=cg h1;have hs:=λJ=>Bb (J:=J) h
  have h5:(List.range b.n).drop i=i::(List.range b.n).drop (i+1):=bw (by simp[h1]);have w1:=cb (n:=b.f.x*b.f.y) (by rw[eX,eY];omega);obtain⟨hnn,X1,Y1⟩:=h.nat;have⟨hx0,hy0⟩:¬b.f.x=0/\¬b.f.y=0:=by omega
  have ih:=λpre=>SE h hN hR n (i+1) pre (by omega)
  have e1:((i:Int)+1).tmod b.f.x=(((i+1)%b.f.x.toNat:Nat):Int):=by
   conv=>lhs;rw[eX]
   rfl
  have e2:(i:Int) / b.f.x=((i / b.f.x.toNat:Nat):Int):=by
   conv=>lhs;rw[eX]
   rfl
  have e2b:(i:Int).tdiv b.f.x=((i / b.f.x.toNat:Nat):Int):=by
   conv=>lhs;rw[eX]
   rfl
  have e3:((i / b.f.x.toNat:Nat):Int).tmod b.f.y=((i / b.f.x.toNat%b.f.y.toNat:Nat):Int):=by
   conv=>lhs;rw[eY]
   rfl
  have e4:b.f.x*b.f.y=((b.f.x.toNat*b.f.y.toNat:Nat):Int):=by
   conv=>lhs;rw[eX,eY]
   rfl
  have hq:i / b.f.x.toNat<=i:=Nat.div_le_self _ _;have hr1:(i+1)%b.f.x.toNat<=i+1:=Nat.mod_le _ _;have hr2:i / b.f.x.toNat%b.f.y.toNat<=i / b.f.x.toNat:=Nat.mod_le _ _;have l1:=abR (W:=b.f.y.toNat*b.f.z.toNat) (by rw[hnn,Nat.mul_assoc]) h1;have l2:=link2 (Z:=b.f.z.toNat) X1 Y1 hnn h1;have R1:=λpre hc=>hR pre (i,i+1) h1 (l1 hc) (by simp)
  have R2:=λpre hc=>hR pre (i,i+b.f.x.toNat) h1 (l2 hc) (by simp;omega)
  have R3:=λpre hc=>hR pre (i,i+b.f.x.toNat*b.f.y.toNat) h1 hc (by simp;omega)
  have z2:((i+b.f.x.toNat:Nat):Int)=(i:Int)+b.f.x:=by omega
  have z3:((i+b.f.x.toNat*b.f.y.toNat:Nat):Int)=(i:Int)+b.f.x*b.f.y:=by rw[e4];omega
  have z1:((i+1:Nat):Int)=(i:Int)+1:=rfl;simp only[z1,z2,z3]at R1 R2 R3;generalize hA:i / b.f.x.toNat=A at *
  generalize hB:A%b.f.y.toNat=B at *
  generalize hC:(i+1)%b.f.x.toNat=C at *
  generalize hP:b.f.x.toNat*b.f.y.toNat=P at *
  have v1:=cb (n:=(A:Int));have v2:=cb (n:=(B:Int));have v3:=cb (n:=(C:Int));have v4:=cb (n:=b.f.y-1);have v5:=cb (n:=(i:Int)+b.f.x);have v6:=cb (n:=(i:Int)+b.f.x*b.f.y) (by rw[e4];omega);have v7:=cb (n:=b.f.x*b.f.y) (by rw[e4];omega);have c3:((i:Int)+b.f.x*b.f.y<(b.n:Int))↔(i+P<b.n):=by rw[e4];omega
  have hL:vH b i=(if C≠0 then [(i,i+1)]else [])++((if B≠b.f.y.toNat-1 then [(i,i+b.f.x.toNat)]else [])++(if i+P<b.n then [(i,i+P)]else [])):=by
   unfold vH;rw[hC,hA,hB,hP]
  rw[h5,cV,hL];clear hL hnn l1 l2;have⟨t1,t2⟩:(((C:Int)=0)↔(C=0))/\(((B:Int)=b.f.y-1)↔(B=b.f.y.toNat-1)):=by omega
  by_cases k1:C=0<;>by_cases k2:B=b.f.y.toNat-1<;>by_cases k3:i+P<b.n;all_goals
   first | (have u1:=t1.2 k1) | (have u1:=mt t1.1 k1)
   first | (have u2:=t2.2 k2) | (have u2:=mt t2.1 k2)
   have ih':=ih (pre++((if C≠0 then [(i,i+1)]else [])++((if B≠b.f.y.toNat-1 then [(i,i+b.f.x.toNat)]else [])++(if i+P<b.n then [(i,i+P)]else []))));first
    |(rw[if_neg (not_not_intro k1)]at ih' ⊢) | (rw[if_pos k1]at ih' ⊢)
   first
    |(rw[if_neg (not_not_intro k2)]at ih' ⊢) | (rw[if_pos k2]at ih' ⊢)
   first
    |(rw[if_neg k3]at ih' ⊢) | (rw[if_pos k3]at ih' ⊢)
   have g1:=λpre=>R1 pre
   have g2:=λpre=>R2 pre
   have g3:=λpre=>R3 pre
   first | (have g1:=λpre=>R1 pre k1) | skip
   first | (have g2:=λpre=>R2 pre k2) | skip
   first | (have g3:=λpre=>R3 pre k3) | skip
   simp[h1,h4,hx0,hy0,e1,e2b,e3,v1,v4,v5,v6,v7,c3,u2,k1,k3,hs,g1,g2,g3];refine WL.to ih' (by simp) (by simp) λx e J hh=>by simpa using hh
theorem VN{b:bU}(h:Bv b){lv j N:Nat}{St:List (Nat×Nat)->SK}(hN:∀pre,(St pre).length=N)
  (hR:∀pre,∀l:Nat×Nat,l.1<b.n->l.2<b.n->l.1≠l.2->dp T (.round lv j [.agg [iI l.1,iI l.2]] ([]::St pre))=some (.val (.bool true) ([]::St (pre++[l])))):
  dp T (.call false 369 [.jS lv j,.bg (bL b)] (St []))=some (.val (.cN []) (St (y7 b))):=by
 refine fx rfl rfl rfl (by rw[hN,hN]) ?_;have hs:=λJ=>Bb (J:=J) h
 simp[hs];refine WL.to (SE h hN hR b.n 0 [] (by omega)) (by simp) rfl ?_;rintro x e J' ⟨rfl,rfl⟩;simp[y7]
def Gh(es:List ((Nat×Nat)×Rock.aG)):List D:=es.map λe => .cN [.agg [iI e.1.1,iI e.1.2],.agg e.2.enc]
def kyL:Ky:=some (true,[some .i64,some .i64])
theorem aha{a b:Nat×Nat}:sT kyL (.agg [iI a.1,iI a.2]) (.agg [iI b.1,iI b.2])=some (b == a):=by
 simp only[sT,kyL,D.row,Cg,and_self,if_true,aZ,Bool.and_true];congr 1;rw[Bool.eq_iff_iff];simp only[af,beq_iff_eq];constructor
 .rintro⟨h1,h2⟩;exact Prod.ext (by omega) (by omega)
 .rintro rfl;exact⟨rfl,rfl⟩
theorem Pn{k:Nat×Nat}:∀{es:List ((Nat×Nat)×Rock.aG)},∃r,pA kyL (.agg [iI k.1,iI k.2]) (Gh es)=some r/\r.map Prod.fst=es.findIdx? (λe=>e.1 == k)
 |[]=>⟨none,rfl,rfl⟩
 |e::es=>by
  obtain⟨r,h1,h2⟩:=Pn (k:=k) (es:=es);simp only[Gh,aM]at h1 ⊢;simp only[pA,aha];cases hk:e.1 == k
  .refine⟨_,by rw[h1];rfl,?_⟩;rw[List.findIdx?_cons,hk,<- h2];cases r<;>rfl
  .exact⟨_,rfl,by rw[List.findIdx?_cons,hk];rfl⟩
theorem XR{S:SK}{l i:Nat}{es:List ((Nat×Nat)×Rock.aG)}{k:Nat×Nat}{o:Rock.aG}(h:cells? S l i 0=some (Gh es)):
  Dd S (.put kyL) [.jS l i,.agg [iI k.1,iI k.2],.agg o.enc]=some (.undef,bj S l i (.cells 0 (Gh (RM es k o)))):=by
 obtain⟨r,h1,h2⟩:=Pn (k:=k) (es:=es);simp only[Dd,Dh,h,aZ,h1,aha,Option.isSome_some,true_and];rw[if_pos (.inr ⟨by simp[D.clean],by simp[D.clean]⟩)];unfold RM;rw[<- h2];cases r with
 |none=>simp[Gh]
 |some y=>simp[Gh,List.map_set]
theorem KL{x:Rock.aG}{A:Int}(hA:10000<=A):∀(t:List Rw) (o:Int),(∀r∈t,r.alone=true)->(0<=o/\o<=A)->0<=t.foldl (ic x) o/\t.foldl (ic x) o<=A
 |[],o,_,h=>h
 |r::t,o,ht,h=>by
  have h1:=RQ (ht r (by simp));refine KL hA t _ (λr hr=>ht r (by simp[hr])) ?_;unfold ic;split<;>omega
theorem Hh{b:bU}{m:b8}{s:List Rock.aG}(h:Fv b m)(hs:Sv b s){i:Nat}(hi:i<b.n):0<=dt b m s i/\dt b m s i<=200000000000:=by
 have htab:=h.bv.dP;simp only[fK,af]at htab;refine KL (by omega) _ _ (eQ.1 htab.2.1) ?_;have b5:=wF h.bv hi;have b1:=h.hold i hi;obtain⟨hx,b2,b3,b4⟩:=hs.at hi;have hst:=h.bv.cC;have b6:b.cC*((aQ s i).m-hold b m i)<=100000000000:=by
  rcases eV (hold b m i) (aQ s i).m with hh | hh
  .have:=iS (a:=b.cC) (b:=(aQ s i).m-hold b m i) (A:=100000) (B:=1000000) (by omega) hst.2 (by omega) (by omega);omega
  .have:=iS (a:=b.cC) (b:=hold b m i-(aQ s i).m) (A:=100000) (B:=1000000) (by omega) hst.2 (by omega) (by omega);have e:b.cC*((aQ s i).m-hold b m i) = - (b.cC*(hold b m i-(aQ s i).m)):=by rw[<- Int.mul_neg];congr 1;omega
   omega
 have b7:down (b.cC*((aQ s i).m-hold b m i)) (hold b m i)<=100000000000:=by
  unfold down;have:=Int.ediv_le_self (b:=hold b m i) (a:=b.cC*((aQ s i).m-hold b m i));rcases eV 0 (b.cC*((aQ s i).m-hold b m i))with hh | hh
  .have:=this hh;omega
  .have:=Int.ediv_le_of_le_mul (b:=0) (show 0<hold b m i by omega) (by omega:b.cC*((aQ s i).m-hold b m i)<=0*hold b m i);omega
 omega
theorem Bf{O:cf}{c c':b9}(hc:c=c'){e:Env}{J:SK}{Q:Abs.Exit->Env->SK->Prop}:WC O c e J Q .mk .mk=WC O c' e J Q .mk .mk:=by subst hc;rfl
def UN(b:bU)(m:b8)(s:List Rock.aG)(L:Nat):xU :=
 {state:=0,zh:=none,env:=[(2,.bg (bM b m)),(3,.bg [lF s aG.enc]),(4,.undef),(5,.ref L 3 0 0),(6,.ref L 4 0 0)],params:=[18],B8:=gf,body:=dn }
def Va(A B:Abs.aG)(b:bU)(m:b8)(s:List Rock.aG)(J:SK)(es:List ((Nat×Nat)×Rock.aG)):SK :=
 [A,B,.cells 0 (Gh es),.cells 0 [.jS J.length 2],.cells 0 [lF (ba b m s) aP],.loop (UN b m s J.length)]::J
theorem adi{A B:Abs.aG}{b:bU}{m:b8}{s:List Rock.aG}(h:Fv b m)(hs:Sv b s)(es:List ((Nat×Nat)×Rock.aG))(l:Nat×Nat)(h1:l.1<b.n)(h2:l.2<b.n):
  dp T (.round J.length 5 [.agg [iI l.1,iI l.2]] ([]::Va A B b m s J es))=some (.val (.bool true) ([]::Va A B b m s J (kQ b m s (ba b m s) es l))):=by
 have hn:=h.bv.n;have hl:=hs.len;have hp1:(ba b m s)[l.1]?=some (dt b m s l.1):=by simp[ba,hl,h1]
 have hp2:(ba b m s)[l.2]?=some (dt b m s l.2):=by simp[ba,hl,h2]
 have a1:=gq hp1;have a2:=gq hp2;have hpl:(ba b m s).length=b.n:=by rw[NO,hl]
 have bp1:=Hh h hs h1;have bp2:=Hh h hs h2;have bw1:=wF h.bv h1;have bw2:=wF h.bv h2;have cw1:=λJ=>JH (J:=J) (m:=m) h.bv h1
 have cw2:=λJ=>JH (J:=J) (m:=m) h.bv h2
 have co1:=λJ=>VS (J:=J) h.toMv h1
 have co2:=λJ=>VS (J:=J) h.toMv h2
 have bo1:=h.zz l.1 h1;have bo2:=h.zz l.2 h2;obtain⟨x1,m1,m2,m3⟩:=hs.at h1;obtain⟨y1,n1,n2,n3⟩:=hs.at h2;have f1:=bd (f:=aG.enc) (w:=3) (λ_=>rfl) x1;have f2:=bd (f:=aG.enc) (w:=3) (λ_=>rfl) y1;have w1:=cb (n:=dt b m s l.1-weight b l.1);have w2:=cb (n:=dt b m s l.1-weight b l.1-dt b m s l.2);have w3:=cb (n:=dt b m s l.1-weight b l.1-dt b m s l.2+weight b l.2);have⟨hL1,hL2⟩:l.1<s.length/\l.2<s.length:=by omega
 have hE:kQ b m s (ba b m s) es l=kQ b m s (ba b m s) es l:=rfl
 conv at hE=>rhs;unfold kQ Ci
 simp only[hp1,hp2,eW]at hE;generalize kQ b m s (ba b m s) es l=es' at *
 have⟨hmin,hmin'⟩:(0<=min (zz b m l.2) (zz b m l.1)/\min (zz b m l.2) (zz b m l.1)<=1000)/\(0<=min (zz b m l.1) (zz b m l.2)/\min (zz b m l.1) (zz b m l.2)<=1000):=by omega
 generalize hw1:weight b l.1=W1 at *
 generalize hw2:weight b l.2=W2 at *
 generalize hq1:dt b m s l.1=P1 at *
 generalize hq2:dt b m s l.2=P2 at *
 generalize hD:P1-W1-P2+W2=d at *
 refine P9 (lp:=UN b m s J.length) (by simp[Va]) rfl ?_;rw[show(UN b m s J.length).B8=gf from rfl,gf.eq_1,show(UN b m s J.length).body=dn from rfl];by_cases hd:d<0
 .simp only[hd,if_true]at hE;have b3:=iS hmin.1 hmin.2 (show 0 <= -d by omega) (show -d<=1000000000000 by omega);have w4:=cb (n := -d);have d1:=aO (b:=1000) b3.1;have d2:=aO (b:=8) (show 0<=(aQ s l.2).m by omega);generalize hX:min (zz b m l.2) (zz b m l.1) * -d=X at *
  have w5:=cb (n:=X);generalize hY:X.tdiv 1000=Y at *
  generalize hZ:(aQ s l.2).m.tdiv 8=Z at *
  have w6:=cb (n:=Y) (by rw[d1];omega);have w7:=cb (n:=Z) (by rw[d2];omega);by_cases hq:0<min Y Z
  .have hO:=λJ=>VT (J:=J) (q:=min Y Z) n1 n2 n3 ⟨by omega,by rw[d2];omega⟩
   have hP:=λS h=>XR (S:=S) (l:=J.length) (i:=2) (es:=es) (k:=(l.2,l.1)) (o:=(aQ s l.2).out (min Y Z)) h
   rw[if_pos hq]at hE;simp only at hE;subst hE;generalize (aQ s l.2).out (min Y Z)=O at *
   simp only[aG.enc]at hO;simp only[aG.enc,kyL]at hP;simp[Bf dn.eq_1,UN,Va,US,hpl,h1,h2,a1,a2,cw1,cw2,w1,w2,w3,hD,hd,co1,co2,hL2,f2,w4,w5,w6,w7,hX,hY,hZ,hq,hO,hP]
  .rw[if_neg hq]at hE;simp only at hE;subst hE;simp[Bf dn.eq_1,UN,Va,US,hpl,h1,h2,a1,a2,cw1,cw2,w1,w2,w3,hD,hd,co1,co2,hL2,f2,w4,w5,w6,w7,hX,hY,hZ,hq]
 .simp only[hd,if_false]at hE;have b3:=iS hmin'.1 hmin'.2 (show 0<=d by omega) (show d<=1000000000000 by omega);have w4:=cb (n:=d);have d1:=aO (b:=1000) b3.1;have d2:=aO (b:=8) (show 0<=(aQ s l.1).m by omega);generalize hX:min (zz b m l.1) (zz b m l.2)*d=X at *
  have w5:=cb (n:=X);generalize hY:X.tdiv 1000=Y at *
  generalize hZ:(aQ s l.1).m.tdiv 8=Z at *
  have w6:=cb (n:=Y) (by rw[d1];omega);have w7:=cb (n:=Z) (by rw[d2];omega);by_cases hq:0<min Y Z
  .have hO:=λJ=>VT (J:=J) (q:=min Y Z) m1 m2 m3 ⟨by omega,by rw[d2];omega⟩
   have hP:=λS h=>XR (S:=S) (l:=J.length) (i:=2) (es:=es) (k:=l) (o:=(aQ s l.1).out (min Y Z)) h
   rw[if_pos hq]at hE;simp only at hE;subst hE;generalize (aQ s l.1).out (min Y Z)=O at *
   simp only[aG.enc]at hO;simp only[aG.enc,kyL]at hP;simp[Bf dn.eq_1,UN,Va,US,hpl,h1,h2,a1,a2,cw1,cw2,w1,w2,w3,hD,hd,co1,co2,hL1,f1,w5,w6,w7,hX,hY,hZ,hq,hO,hP]
  .rw[if_neg hq]at hE;simp only at hE;subst hE;simp[Bf dn.eq_1,UN,Va,US,hpl,h1,h2,a1,a2,cw1,cw2,w1,w2,w3,hD,hd,co1,co2,hL1,f1,w5,w6,w7,hX,hY,hZ,hq]
theorem Zd{A B:Abs.aG}{b:bU}{m:b8}{s:List Rock.aG}(h:Fv b m)(hs:Sv b s):∃X Y Z:Abs.aG,
  dp T (.call true 333 [.agg (bM b m),lF s aG.enc] ([A,B]::J))=some (.val (.jS J.length 2) ([A,B,.cells 0 (Gh (tf b m s)),X,Y,Z]::J)):=by
 refine⟨.cells 0 [.jS J.length 2],.cells 0 [lF (ba b m s) aP],.loop {UN b m s J.length with state:=3 },?_⟩;refine vw rfl rfl rfl ?_;have hp:=λJ hJ=>OJ (J:=J) h hs hJ
 have hl:=VN (b:=b) h.bv (lv:=J.length) (j:=5) (N:=J.length+1) (St:=λpre=>Va A B b m s J (pre.foldl (kQ b m s (ba b m s)) [])) (λpre=>by simp[Va])
  (λpre l h1 h2 _=>by rw[List.foldl_append];exact adi h hs _ l h1 h2)
 have hm:Dd ([A,B]::J) .make []=some (.jS J.length 2,[A,B,.cells 0 (Gh [])]::J):=by simp[Dd,Gh]
 simp[hp,Zh,hm];refine SV (d:=.cN []) (J2:=Va A B b m s J (tf b m s)) (lp:=UN b m s J.length) (by simp;exact⟨rfl,rfl,rfl⟩) ?_ (by simp[Va]) (by simp[UN]) ?_
 .simpa[UN,Va,tf]using hl
 .simp[UN,Va]
end
section
open Go Go.Abs Go.Rock
def BU(N:Int)(s:List Rock.aG):Prop:=∀x∈s,sm x N
theorem da{x:Rock.aG}{N M:Int}(h:sm x N)(hN:N<=M):sm x M:=by
 obtain⟨h1,h2,h3⟩:=h;exact⟨⟨by omega,by omega⟩,⟨by omega,by omega⟩,⟨by omega,by omega⟩⟩
theorem Ca{N:Int}{s:List Rock.aG}(h:BU N s){i:Nat}(hi:i<s.length):s[i]?=some (aQ s i)/\sm (aQ s i) N:=by
 have h2:s[i]?=some (aQ s i):=by simp[aQ,hi]
 exact⟨h2,h _ (aj h2)⟩
theorem Ha{s:List Rock.aG}{i:Nat}{o:Rock.aG}{sign:Int}:(ck s i o sign).length=s.length:=by simp[ck]
theorem pQ{N M:Int}{s:List Rock.aG}(h:BU N s){i:Nat}{o:Rock.aG}{sign:Int}(ho:sm o M)(hs:sign=1\/sign = -1)(hM:0<=M):BU (N+M) (ck s i o sign):=by
 intro x hx;unfold ck at hx;by_cases hi:i<s.length
 .rcases List.mem_or_eq_of_mem_set hx with hx | rfl
  .exact da (h x hx) (by omega)
  .obtain⟨a1,a2,a3⟩:=(Ca h hi).2;obtain⟨b1,b2,b3⟩:=ho;rcases hs with rfl | rfl
   .exact⟨⟨by simp only[Rock.aG.move];omega,by simp only[Rock.aG.move];omega⟩,⟨by simp only[Rock.aG.move];omega,by simp only[Rock.aG.move];omega⟩,⟨by simp only[Rock.aG.move];omega,by simp only[Rock.aG.move];omega⟩⟩
   .exact⟨⟨by simp only[Rock.aG.move];omega,by simp only[Rock.aG.move];omega⟩,⟨by simp only[Rock.aG.move];omega,by simp only[Rock.aG.move];omega⟩,⟨by simp only[Rock.aG.move];omega,by simp only[Rock.aG.move];omega⟩⟩
 .rw[List.set_eq_of_length_le (by omega)]at hx;exact da (h x hx) (by omega)
theorem EF{s:List Rock.aG}{i j:Nat}{o p:Rock.aG}{a c:Int}:ck (ck s i o a) j p c=ck (ck s j p c) i o a:=by
 by_cases hij:i=j
 .subst hij;by_cases hi:i<s.length
  .simp only[ck,aQ,List.getElem?_set_self hi,eW,List.set_set,Rock.aG.move];congr 2<;>omega
  .simp only[ck,List.set_eq_of_length_le (show s.length<=i by omega)]
 .have hji:¬j=i:=λh=>hij h.symm
  simp only[ck,aQ,List.getElem?_set_ne hij,List.getElem?_set_ne hji];rw[List.set_comm _ _ hij]
theorem UB{s:List Rock.aG}{e f:(Nat×Nat)×Rock.aG}:cz (cz s e) f=cz (cz s f) e:=by
 unfold cz;rw[EF (i:=e.1.2) (j:=f.1.1),EF (i:=e.1.1) (j:=f.1.1),EF (i:=e.1.2) (j:=f.1.2),EF (i:=e.1.1) (j:=f.1.2)]
theorem Pr{s:List Rock.aG}{e:(Nat×Nat)×Rock.aG}:(cz s e).length=s.length:=by simp[cz,Ha]
def LB(es:List ((Nat×Nat)×Rock.aG))(s:List Rock.aG)(j:Nat):List Rock.aG:=match es[j]? with | some e=>cz s e | none=>s
theorem YD{es:List ((Nat×Nat)×Rock.aG)}{s:List Rock.aG}{i j:Nat}:LB es (LB es s i) j=LB es (LB es s j) i:=by
 unfold LB;cases es[i]? <;> cases es[j]? <;> simp[UB]
theorem aa7{es:List ((Nat×Nat)×Rock.aG)}{s:List Rock.aG}{j:Nat}:(LB es s j).length=s.length:=by
 unfold LB;split<;>simp[Pr]
theorem MQ:∀(es:List ((Nat×Nat)×Rock.aG)) (s:List Rock.aG) (n:Nat),n<=es.length->(List.range n).foldl (LB es) s=(es.take n).foldl cz s
 |es,s,0,_=>by simp
 |es,s,n+1,h=>by
  obtain⟨e,he⟩:∃e,es[n]?=some e:=gE (by omega);rw[List.range_succ,List.foldl_append,MQ es s n (by omega),List.take_add_one,he,List.foldl_append];simp[LB,he]
theorem aa6{es:List ((Nat×Nat)×Rock.aG)}{s:List Rock.aG}{js:List Nat}(hd:js.Nodup)(hm:∀j,j∈js↔j<es.length):js.foldl (LB es) s=es.foldl cz s:=by
 have hp:js.Perm (List.range es.length):=(List.perm_ext_iff_of_nodup hd List.nodup_range).2 λa=>by simp[hm]
 rw[hp.foldl_eq' (λx _ y _ z=>YD),MQ es s es.length (aN _),ah (aN _)]
theorem UM{b:bU}:(y7 b).length<=3*b.n:=by
 have key:∀l:List Nat,(fM l (vH b)).length<=3*l.length:=by
  intro l;induction l with
  |nil=>simp
  |cons i l ih =>
   rw[cV,aT,aE];have:(vH b i).length<=3:=by
    unfold vH;simp only[aT];split<;>split<;>split<;>simp
   omega
 have:=key (List.range b.n);rw[List.length_range]at this;exact this
theorem PV{b:bU}(h:Bv b){l:Nat×Nat}(hl:l∈y7 b):l.1<b.n/\l.2<b.n:=by
 obtain⟨hnn,X1,Y1⟩:=h.nat;obtain⟨i,hi,hh⟩:=HW.1 hl;have h1:i<b.n:=by simpa using hi
 unfold vH at hh;simp only[aU]at hh;rcases hh with hh | hh | hh
 .split at hh
  .rename_i hc;simp at hh;subst hh;exact⟨h1,abR (W:=b.f.y.toNat*b.f.z.toNat) (by rw[hnn,Nat.mul_assoc]) h1 hc⟩
  .cases hh
 .split at hh
  .rename_i hc;simp at hh;subst hh;exact⟨h1,link2 (Z:=b.f.z.toNat) X1 Y1 hnn h1 hc⟩
  .cases hh
 .split at hh
  .rename_i hc;simp at hh;subst hh;exact⟨h1,hc⟩
  .cases hh
def Vg(b:bU)(e:(Nat×Nat)×Rock.aG):Prop:=(e.1.1<b.n/\e.1.2<b.n)/\sm e.2 1000000000000
theorem NM{x:Rock.aG}{q:Int}(hm:1<=x.m/\x.m<=1000000)(hh:0<=x.h/\x.h<=10000000000)(hk:0<=x.k/\x.k<=1000000000000)(hq:0<=q/\q<=x.m):sm (x.out q) 1000000000000:=by
 have b3:=IV hm.1 hh hq;have b4:=IV hm.1 hk hq;exact⟨⟨by simp only[Rock.aG.out];omega,by simp only[Rock.aG.out];omega⟩,⟨by simp only[Rock.aG.out];omega,by simp only[Rock.aG.out];omega⟩,⟨by simp only[Rock.aG.out];omega,by simp only[Rock.aG.out];omega⟩⟩
theorem Uz{b:bU}{m:b8}{s:List Rock.aG}(hs:Sv b s){p:List Int}{l:Nat×Nat}(h1:l.1<b.n)(h2:l.2<b.n){e:(Nat×Nat)×Rock.aG}(he:Ci b m s p l=some e):Vg b e:=by
 unfold Ci at he;simp only at he;generalize hd:(p[l.1]?).getD 0-weight b l.1-(p[l.2]?).getD 0+weight b l.2=d at he;generalize hl':(if d<0 then(l.2,l.1)else l)=l' at he;generalize hd':(if d<0 then -d else d)=d' at he;have hll:l'.1<b.n/\l'.2<b.n:=by
  rw[<- hl'];split<;>exact⟨by assumption,by assumption⟩
 obtain⟨_,m1,m2,m3⟩:=hs.at hll.1;split at he
 .rename_i hq;simp only[ae]at he;subst he;have d2:=aO (b:=8) (show 0<=(aQ s l'.1).m by omega);exact⟨hll,NM m1 m2 m3 ⟨by omega,by rw[d2];omega⟩⟩
 .cases he
theorem aaL{b:bU}{es:List ((Nat×Nat)×Rock.aG)}{k:Nat×Nat}{o:Rock.aG}(h:∀e∈es,Vg b e)(ho:Vg b (k,o)):(∀e∈RM es k o,Vg b e)/\(RM es k o).length<=es.length+1:=by
 unfold RM;split
 .constructor
  .intro e he;rcases List.mem_or_eq_of_mem_set he with he | rfl
   .exact h e he
   .exact ho
  .simp
 .constructor
  .intro e he;rcases aU.1 he with he | he
   .exact h e he
   .simp at he;subst he;exact ho
  .simp
theorem Ps{b:bU}{m:b8}{s:List Rock.aG}(h:Bv b)(hs:Sv b s):(∀e∈tf b m s,Vg b e)/\(tf b m s).length<=192:=by
 have key:∀(ls:List (Nat×Nat)) (es:List ((Nat×Nat)×Rock.aG)),(∀l∈ls,l.1<b.n/\l.2<b.n)->(∀e∈es,Vg b e)->(∀e∈ls.foldl (kQ b m s (ba b m s)) es,Vg b e)/\(ls.foldl (kQ b m s (ba b m s)) es).length<=es.length+ls.length:=by
  intro ls;induction ls with
  |nil=>intro es _ h;exact⟨h,by simp⟩
  |cons l ls ih =>
   intro es hl he;have hl0:=hl l (by simp);simp only[List.foldl_cons];have h1:(∀e∈kQ b m s (ba b m s) es l,Vg b e)/\(kQ b m s (ba b m s) es l).length<=es.length+1:=by
    unfold kQ;split
    .rename_i e hfe;exact aaL he (Uz hs hl0.1 hl0.2 hfe)
    .exact⟨he,by omega⟩
   obtain⟨h2,h3⟩:=ih _ (λl hh=>hl l (by simp[hh])) h1.1;exact⟨h2,by simp only[aE];omega⟩
 obtain⟨h1,h2⟩:=key (y7 b) [] (λl hl=>PV h hl) (by simp);have:=@UM b;have hn:=h.n;exact⟨h1,by simp only[aY]at h2;unfold tf;omega⟩
theorem Pq{b:bU}{N:Int}{s:List Rock.aG}{e:(Nat×Nat)×Rock.aG}(h:BU N s)(he:Vg b e):BU (N+2000000000000) (cz s e):=by
 have h1:=pQ (i:=e.1.1) (sign := -1) h he.2 (.inr rfl) (by omega);have h2:=pQ (i:=e.1.2) (sign:=1) h1 he.2 (.inl rfl) (by omega);unfold cz;rw[show N+2000000000000=N+1000000000000+1000000000000 by omega];exact h2
theorem TK{b:bU}{es:List ((Nat×Nat)×Rock.aG)}(hes:∀e∈es,Vg b e):∀(js:List Nat) (s:List Rock.aG) (N:Int),BU N s->BU (N+2000000000000*js.length) (js.foldr (λj s=>LB es s j) s)
 |[],s,N,h=>by simpa using h
 |j::js,s,N,h=>by
  have ih:=TK hes js s N h;simp only[List.foldr_cons,aE];generalize js.foldr (λj s=>LB es s j) s=s1 at *
  unfold LB;split
  .rename_i e he;have:=Pq ih (hes e (aj he));intro x hx;exact da (this x hx) (by push_cast;omega)
  .intro x hx;exact da (ih x hx) (by push_cast;omega)
theorem Sv.BU{b:bU}{s:List Rock.aG}(h:Sv b s):BU 1000000000000 s:=by
 intro x hx;obtain⟨h1,h2,h3⟩:=aG.NJ.1 (h.ok x hx);exact⟨⟨by omega,by omega⟩,⟨by omega,by omega⟩,⟨by omega,by omega⟩⟩
end
end Go.Proofs.YtpapbbojmclkgaaGreatDoor
namespace Go.Abs
open Go
variable {T:CT}
theorem zm{F:List aG}:∀{J:SK} {lv:Nat},eT J lv=some F->lv<J.length
 |[],lv,h=>by simp[eT]at h
 |s::J,lv,h=>by
  simp only[eT]at h;split at h
  .rename_i h1;simp;omega
  .have:=zm h;simp;omega
section
variable {α:Type} {w:Nat} {enc:α->List D} (hw:∀x,(enc x).length=w) {p:α->Bool} {fv:D} {l:List α} {lv bi v:Nat} {F:List aG}
include hw in
theorem Kw(hF:F[bi]?=some (.cells v (fM l enc)))(hl:l.length<=9223372036854775807)(ht:oS T fv (λx => .agg (enc x)) p l){J:SK}(hs:eT J lv=some F):∀(m i:Nat),i+m=l.length ->
  WL T [0,1,7,8] false (Kt true w) [(0,.sl lv bi v 0 l.length w),(1,fv),(7,iI l.length),(8,iI i)] J
   (λx e J'=>J'=J/\if idxOf p (l.drop i)<0 then x=.exit 0 else x=.ret/\get e 4=iI (i+idxOf p (l.drop i)))
 |0,i,hi=>by
  obtain⟨h1,h2,h3⟩:=ht;refine az (Kt.eq_1 _ _) ?_;have:¬i<l.length:=by omega
  have h5:l.drop i=[]:=by simp;omega
  simp[this,h2,h5,idxOf]
 |m+1,i,hi=>by
  have ih:=Kw hF hl ht hs m (i+1) (by omega);obtain⟨h1,h2,h3⟩:=ht;refine az (Kt.eq_1 _ _) ?_;have h4:i<l.length:=by omega
  obtain⟨x,hx⟩:=gE h4;have h5:=pP (f:=enc) hw hx;have h6:=h3 x (aj hx) J;have h7:=cg h4 hl;have h8:l.drop i=x::l.drop (i+1):=bw hx;have e1:∀r:List D,(enc x++r).take w=enc x:=λr=>by rw[<- hw x];simp
  have e2:∀r:Nat,w<=(enc x).length+r:=λr=>by rw[hw];omega
  cases hp:p x
  .rw[hp]at h6;simp[h4,h1,h2,h5,h6,h7,hs,hF,e1,e2];refine WL.mono (by simpa using ih) ?_;rintro x e J' ⟨h9,h10⟩;refine⟨h9,?_⟩;rw[h8];simp only[idxOf,hp,aD,if_false];by_cases h11:idxOf p (l.drop (i+1))<0
   .simpa[h11]using h10
   .rw[if_neg h11]at h10;rw[if_neg h11,if_neg (by omega)];refine⟨h10.1,?_⟩;rw[h10.2];congr 1;push_cast;omega
  .rw[hp]at h6;simp[h4,h1,h2,h5,h6,hs,hF,e1,e2,h8,idxOf,hp]
include hw in
theorem Kx{f:Nat}(hT:T f=some (uV true w))(hF:F[bi]?=some (.cells v (fM l enc)))(hl:l.length<=9223372036854775807)(ht:oS T fv (λx => .agg (enc x)) p l){J:SK}(hs:eT J lv=some F):
  dp T (.call false f [.sl lv bi v 0 l.length w,fv] J)=some (.val (iI (idxOf p l)) J):=by
 refine oT hT (uV.eq_1 _ _) rfl ?_;have hlt:=zm hs;have h:=Kw hw hF hl ht (lv:=lv) (F:=F) (J:=[]::J) (by simp[eT,hs,show ¬J.length=lv by omega]) l.length 0 (by simp);obtain⟨h1,h2,h3⟩:=ht;simp[h2];refine WL.mono (by simpa using h) ?_;rintro x e J' ⟨rfl,h10⟩
 try simp only[aB]at h10
 by_cases h11:idxOf p l<0
 .rw[if_pos h11]at h10;subst h10;have:idxOf p l = -1:=by
   cases l with
   |nil=>rfl
   |cons a l =>
    simp only[idxOf]at h11 ⊢;split at h11<;>rename_i ha
    .omega
    .rw[if_neg ha];split at h11<;>rename_i hb
     .rw[if_pos hb]
     .omega
  simp[this]
 .rw[if_neg h11]at h10;obtain⟨rfl,h12⟩:=h10
  try simp at h12
  simp[h12]
include hw in
theorem E4{f i:Nat}(hT:T f=some (iW i))(hi:T i=some (uV true w))(hF:F[bi]?=some (.cells v (fM l enc)))(hl:l.length<=9223372036854775807)(ht:oS T fv (λx => .agg (enc x)) p l){J:SK}(hs:eT J lv=some F):
  dp T (.call false f [.sl lv bi v 0 l.length w,fv] J)=some (.val (.bool (mu l p)) J):=by
 refine oT hT (iW.eq_1 _) rfl ?_;have hlt:=zm hs;have h:=Kx hw hi hF hl ht (lv:=lv) (F:=F) (J:=[]::J) (by simp[eT,hs,show ¬J.length=lv by omega]);obtain⟨h1,h2,h3⟩:=ht;have h4:decide (0<=idxOf p l)=mu l p:=by
  unfold mu;have h6:=HR (p:=p) (l:=l);cases h5:l.any p
  .have:=h6.2 h5;exact decide_eq_false (by omega)
  .exact decide_eq_true (by
    have:¬idxOf p l<0:=λh=>by rw[h6.1 h]at h5;cases h5
    omega)
 simp[h1,h2,h,h4]
include hw in
theorem JV{f g h i:Nat}(hf:T f=some (Gj g h))(hg:T g=some (AB true w))(hh:T h=some (iW i))(hi:T i=some (uV true w))
  (hF:F[bi]?=some (.cells v (fM l enc))) (hl:l.length<=9223372036854775807) (ht:oS T fv (λx => .agg (enc x)) p l) (hcl:fv.cells=some [fv]) {J:SK} (hs:eT J lv=some F):
  dp T (.call false f [.sl lv bi v 0 l.length w,fv] J)=some (.val (.bool (dh l p)) J):=by
 refine oT hf (Gj.eq_1 _ _) rfl ?_;have hlt:=zm hs;have h:=E4 hw hh hi hF hl (SY (yc w enc hw) hg ht) (lv:=lv) (F:=F) (J:=[]::J) (by simp[eT,hs,show ¬J.length=lv by omega]);obtain⟨h1,h2,h3⟩:=ht;have h4:(mu l λx => !p x) = !dh l p:=by
  unfold mu dh;rw[List.all_eq_not_any_not,Bool.not_not]
 simp[h1,h,h4,hcl]
end
end Go.Abs
namespace Go.Proofs.YtpapbbojmclkgaaGreatDoor
open Go Go.Abs Go.Rock
variable {J:SK}
theorem Uf{b:bU}{m:b8}{s:List Rock.aG}(h:Bv b){lv bi v:Nat}{F:List Abs.aG}(hF:F[bi]?=some (.cells v (fM s aG.enc)))(hs:eT J lv=some F)(hl:s.length=b.n):
  Cl 338 [.agg (bM b m),.sl lv bi v 0 s.length 3] (.bool (qI b s)) J:=by
 refine au ?_;have hlt:=zm hs;have hz:=h.sz;have hn:=h.n;have hsz:=λJ=>Bb (J:=J) h
 have ha:=JV (T:=T) (w:=3) (enc:=aG.enc) (λ_=>rfl) (f:=362) (g:=371) (h:=370) (i:=372) (l:=s) (p:=Rock.aG.valid) (fv:=.fn 363 [] []) rfl rfl rfl rfl hF (by omega) (oS.fn λx _ J=>QR) rfl (lv:=lv) (F:=F) (J:=[]::J) (by simp[eT,hs,show ¬J.length=lv by omega]);unfold qI;have hc3:((b.n:Nat):Int)=b.size:=hz.symm;rw[hl]at ha ⊢;cases hc:dh s Rock.aG.valid<;>simp[hsz,ha,hc,hc3]
def jsD(js:List Nat):List D:=js.map λj=>iI (j:Nat)
def Ve(n:Nat)(js:List Nat):List Nat:=(List.range n).filter λj => !(js.contains j)
theorem aak{js:List Nat}{j:Nat}:iI (j:Nat)∈jsD js↔j∈js:=by
 simp only[jsD,bI];constructor
 .rintro⟨a,h1,h2⟩;simp only[D.int.injEq,true_and]at h2;have:a=j:=by omega
  exact this ▸ h1
 .intro h;exact⟨j,h,rfl⟩
def Lm(b:bU)(m:b8)(s:List Rock.aG)(aF:List Int)(L:Nat):Env :=
 [(1,lF s aG.enc),(2,lF aF aP),(3,.bg (bM b m)),(9,.sl L 1 1 0 s.length 3),(23,.jS L 6)]
def stT(A X Y Z:Abs.aG)(J:SK)(es:List ((Nat×Nat)×Rock.aG))(s:List Rock.aG)(it:Abs.aG):SK :=
 [A,.cells 1 (fM s aG.enc),.cells 0 (Gh es),X,Y,Z,it]::J
def itB(L n:Nat)(js:List Nat):Abs.aG:=.cells 1 (.jS L 2::iI (n:Nat)::jsD js)
theorem Xw{A X Y Z:Abs.aG}{es:List ((Nat×Nat)×Rock.aG)}{s:List Rock.aG}{js:List Nat}:
  IT (stT A X Y Z J es s (itB J.length es.length js)) J.length 6=some (.jS J.length 2,es.length,jsD js,Ve es.length js):=by
 have hl:(Gh es).length=es.length:=by simp[Gh]
 simp[IT,stT,itB,Dh,hl,Ve,aak]
theorem aih{n:Nat}{js:List Nat}{u:Nat}(hu:u∈Ve n js):(Ve n (u::js)).length<(Ve n js).length:=by
 have e:Ve n (u::js)=(Ve n js).filter λj => !decide (j=u):=by
  unfold Ve;rw[List.filter_filter];congr 1;funext j;simp[Bool.not_or]
 rw[e,List.length_filter_lt_length_iff_exists];exact⟨u,hu,by simp⟩
theorem ada{b:bU}{m:b8}{s:List Rock.aG}{aF:List Int}{A X Y Z:Abs.aG}{es:List ((Nat×Nat)×Rock.aG)}{r:R}(hs:Sv b s)(hes:∀e∈es,Vg b e)(hel:es.length<=192)
  (hr:WC (dp T) fa ((25,.bool false)::(24,.undef)::Lm b m s aF J.length) (stT A X Y Z J es (es.foldl cz s) .dead) λx e' J'=>r=.E5 x e' J'):
  ∀(k:Nat) (js:List Nat),js.Nodup->(∀j∈js,j<es.length)->(Ve es.length js).length=k ->
   dp T (.ir [1,2,3,9,23] (.t 23) 24 25 0 iO fa (Lm b m s aF J.length) (stT A X Y Z J es (js.foldr (λj s=>LB es s j) s) (itB J.length es.length js)))=some r:=by
 intro k;induction k using Nat.strongRecOn with
 |_ k ih =>
 intro js hd hj hk;by_cases hus:Ve es.length js=[]
 .have hall:∀j,j∈js↔j<es.length:=by
   intro j;refine⟨hj j,λhlt=>?_⟩;have h1:j ∉ Ve es.length js:=by rw[hus];simp
   simpa[Ve,hlt]using h1
  have hfin:js.foldr (λj s=>LB es s j) s=es.foldl cz s:=by
   rw[<- aa6 (js:=js.reverse) ((List.reverse_perm js).nodup_iff.2 hd) (λj=>by simp[hall]),List.foldl_reverse]
  rw[hfin];have hit:=Xw (J:=J) (A:=A) (X:=X) (Y:=Y) (Z:=Z) (es:=es) (s:=es.foldl cz s) (js:=js);rw[hus]at hit;refine UT iO.eq_1 rfl (by simp[Lm]) hit ?_;simp[stT,Lm,itB]at hr ⊢;exact hr
 .have hit:=Xw (J:=J) (A:=A) (X:=X) (Y:=Y) (Z:=Z) (es:=es) (s:=js.foldr (λj s=>LB es s j) s) (js:=js);refine XP iO.eq_1 rfl (by simp[Lm]) hit hus ?_;intro u hu;have hu2:u<es.length/\u ∉ js:=by simpa[Ve]using hu
  obtain⟨e,he⟩:∃e,es[u]?=some e:=⟨_,aJ hu2.1⟩;have hf:=hes e (aj he);have hnext:=ih _ (by rw[<- hk];exact aih hu) (u::js) (List.nodup_cons.2 ⟨hu2.2,hd⟩) (by intro j hjm;rcases bx.1 hjm with rfl | hjm;exact hu2.1;exact hj j hjm) rfl;have hb:=TK hes js s 1000000000000 hs.BU;have hjl:js.length<=192:=by
   have h1:js.length<=es.length:=by
    have:=hd.length_le_of_subset (l₂:=List.range es.length) (λj hjm=>by simpa using hj j hjm);simpa using this
   omega
  have hlen:(js.foldr (λj s=>LB es s j) s).length=b.n:=by
   have:∀js:List Nat,(js.foldr (λj s=>LB es s j) s).length=s.length:=by
    intro js;induction js with
    |nil=>rfl
    |cons a l ih=>simp only[List.foldr_cons,aa7];exact ih
   rw[this,hs.len]
  simp only[List.foldr_cons]at hnext;generalize hs1:js.foldr (λj s=>LB es s j) s=s1 at *
  have hstp:LB es s1 u=ck (ck s1 e.1.1 e.2 (-1)) e.1.2 e.2 1:=by simp[LB,he,cz]
  rw[hstp]at hnext;have hbn:BU 400000000000000 s1:=λx hx=>da (hb x hx) (by omega)
  have hb1:=pQ (i:=e.1.1) (sign := -1) hbn hf.2 (.inr rfl) (by omega);obtain⟨x1,y1⟩:=Ca hbn (i:=e.1.1) (by have:=hf.1.1;omega);obtain⟨x2,y2⟩:=Ca hb1 (i:=e.1.2) (by rw[Ha];have:=hf.1.2;omega);have hM1:∀I,dp T (.call false 334 [.ref J.length 1 1 (e.1.1*3),.agg [iI e.2.m,iI e.2.h,iI e.2.k],iI (-1)] ([A,.cells 1 (fM s1 aG.enc),.cells 0 (Gh es),X,Y,Z,I]::J)) =
    some (.val (.cN []) ([A,.cells 1 (fM (ck s1 e.1.1 e.2 (-1)) aG.enc),.cells 0 (Gh es),X,Y,Z,I]::J)) :=
   λI=>JE (F:=[A,.cells 1 (fM s1 aG.enc),.cells 0 (Gh es),X,Y,Z,I]) (j:=1) rfl x1 (da y1 (by omega)) (da hf.2 (by omega)) (.inr rfl)
  have hM2:∀I,dp T (.call false 334 [.ref J.length 1 1 (e.1.2*3),.agg [iI e.2.m,iI e.2.h,iI e.2.k],iI 1] ([A,.cells 1 (fM (ck s1 e.1.1 e.2 (-1)) aG.enc),.cells 0 (Gh es),X,Y,Z,I]::J)) =
    some (.val (.cN []) ([A,.cells 1 (fM (ck (ck s1 e.1.1 e.2 (-1)) e.1.2 e.2 1) aG.enc),.cells 0 (Gh es),X,Y,Z,I]::J)) :=
   λI=>JE (F:=[A,.cells 1 (fM (ck s1 e.1.1 e.2 (-1)) aG.enc),.cells 0 (Gh es),X,Y,Z,I]) (j:=1) rfl x2 (da y2 (by omega)) (da hf.2 (by omega)) (.inl rfl)
  have hfe:(Gh es)[u]?=some (.cN [.agg [iI e.1.1,iI e.1.2],.agg [iI e.2.m,iI e.2.h,iI e.2.k]]):=by simp[Gh,he]
  have hfl:(Gh es).length=es.length:=by simp[Gh]
  have hE:Dd ([A,.cells 1 (fM s1 aG.enc),.cells 0 (Gh es),X,Y,Z,.cells 1 (.jS J.length 2::iI (es.length:Nat)::iI (u:Nat)::jsD js)]::J) .ent [.jS J.length 6] =
    some (.cN [.agg [iI e.1.1,iI e.1.2],.agg [iI e.2.m,iI e.2.h,iI e.2.k]],[A,.cells 1 (fM s1 aG.enc),.cells 0 (Gh es),X,Y,Z,.cells 1 (.jS J.length 2::iI (es.length:Nat)::iI (u:Nat)::jsD js)]::J):=by
   simp[Dd,Dh,hfl,hfe]
  have hi1:e.1.1<s.length:=by have:=hf.1.1;have:=hs.len;omega
  have hi2:e.1.2<s.length:=by have:=hf.1.2;have:=hs.len;omega
  simp[Lm,stT,itB,hE,hM1,hM2,hi1,hi2];simpa[Lm,stT,itB,jsD]using hnext
theorem Hu{b:bU}(h:Bv b):∀w∈b.av,(0<=w.b/\w.b<(b.n:Int))/\(0<=w.h/\w.h<=3000)/\(0<=w.m/\w.m<=1000000):=by
 have key:∀(l:List bG) (u:List Int),od b.size u l=true->∀w∈l,(0<=w.b/\w.b<(b.n:Int))/\(0<=w.h/\w.h<=3000)/\(0<=w.m/\w.m<=1000000):=by
  intro l;induction l with
  |nil=>intro u _ w hw;cases hw
  |cons a l ih =>
   intro u hu w hw;simp only[od,bG.ok,af]at hu;obtain⟨⟨h1,h2,h3,h4⟩,h5⟩:=hu;rcases bx.1 hw with rfl | hw
   .have hs:=h.sz;have:=aR.1 h1;unfold bU.size at this;exact⟨⟨this.1,by omega⟩,aR.1 h3,aR.1 h4⟩
   .exact ih _ h5 w hw
 exact key _ _ h.ok
theorem mulR{a r A R:Int}(ha:0<=a/\a<=A)(hr : -R<=r/\r<=R) : -(R*A)<=r*a/\r*a<=R*A:=by
 rcases eV 0 r with h | h
 .have:=iS h hr.2 ha.1 ha.2;have h2:=bz (show 0<=R by omega) (show 0<=A by omega);omega
 .have:=iS (a := -r) (A:=R) (by omega) (by omega) ha.1 ha.2;rw[Int.neg_mul]at this;have h2:=bz (show 0<=R by omega) (show 0<=A by omega);omega
theorem Kq{w:bG}{r:Int}(hr : -100000<=r/\r<=100000)(h1:0<=w.h/\w.h<=3000)(h2:0<=w.m/\w.m<=1000000):sm (w.given r) 1000000000000:=by
 have b1:=mulR h1 hr;have b2:=mulR h2 hr;exact⟨⟨by simp only[bG.given];omega,by simp only[bG.given];omega⟩,⟨by simp only[bG.given,Int.neg_mul];omega,by simp only[bG.given,Int.neg_mul];omega⟩,⟨by simp only[bG.given,Int.neg_mul];omega,by simp only[bG.given,Int.neg_mul];omega⟩⟩
theorem Rl{b:bU}{m:b8}(h:Fv b m){i:Nat}(hi:i<b.n):sm (IM b m i) 1000000000000:=by
 have b1:=h.feed i hi;have b2:=h.bv.deep;have b3:=iS b1.1 b1.2 b2.1 b2.2;exact⟨⟨by simp only[IM];omega,by simp only[IM];omega⟩,⟨by simp only[IM];omega,by simp only[IM];omega⟩,⟨by simp[IM],by simp[IM]⟩⟩
def eH(b:bU)(s s1:List Rock.aG)(aF:List Int)(j:Nat):List Rock.aG:=((b.av.zip aF).take j).foldl (λn wr=>mq s n wr.1 wr.2) s1
def lK(b:bU)(m:b8)(s2:List Rock.aG)(i:Nat):List Rock.aG:=(List.range i).foldl (λn i=>ck n i (IM b m i) 1) s2
theorem Ht{b:bU}{s s1:List Rock.aG}{aF:List Int}{j:Nat}{w:bG}{r:Int}(h1:b.av[j]?=some w)(h2:aF[j]?=some r):eH b s s1 aF (j+1)=mq s (eH b s s1 aF j) w r:=by
 have:(b.av.zip aF)[j]?=some (w,r):=by rw[List.getElem?_zip_eq_some];exact⟨h1,h2⟩
 unfold eH;rw[List.take_add_one,this,List.foldl_append];rfl
theorem DN{b:bU}{m:b8}{s2:List Rock.aG}{i:Nat}:lK b m s2 (i+1)=ck (lK b m s2 i) i (IM b m i) 1:=by
 unfold lK;rw[List.range_succ,List.foldl_append];rfl
theorem yK{b:bU}{m:b8}{s2:List Rock.aG}:∀i,(lK b m s2 i).length=s2.length
 |0=>rfl
 |i+1=>by rw[DN,Ha,yK i]
theorem YN{b:bU}{s:List Rock.aG}{aF:List Int}{j:Nat}{w:bG}{r:Int}(h1:b.av[j]?=some w)(h2:aF[j]?=some r):(bJ b s aF)[j]?=some (ie s w r):=by
 have:(b.av.zip aF)[j]?=some (w,r):=by rw[List.getElem?_zip_eq_some];exact⟨h1,h2⟩
 simp[bJ,this]
structure Rv(b:bU)(aF:List Int):Prop where
 len:aF.length=b.av.length
 ok:∀r∈aF,-100000<=r/\r<=100000
theorem Rv.of{b:bU}{aF:List Int}(h:pS b aF=0):Rv b aF:=by
 unfold pS at h;split at h
 .rename_i hl;split at h
  .rename_i ha;exact⟨hl,λr hr=>aR.1 (eQ.1 ha r hr)⟩
  .cases h
 .cases h
theorem aaw{b:bU}{s next:List Rock.aG}(h:Bv b)(hs:Sv b s){aF:List Int}(hr:Rv b aF){j:Nat}{w:bG}{r:Int}(h1:b.av[j]?=some w)(h2:aF[j]?=some r){N:Int}(hb:BU N next):BU (N+1000000000000) (mq s next w r):=by
 have hw:=Hu h w (aj h1);have hrr:=hr.ok r (aj h2);obtain⟨_,m1,m2,m3⟩:=hs.at (i:=w.b.toNat) (by omega);have d2:=aO (b:=8) (show 0<=(aQ s w.b.toNat).m by omega);unfold mq ie;split
 .exact pQ hb (Kq hrr hw.2.1 hw.2.2) (.inl rfl) (by omega)
 .exact pQ hb (NM m1 m2 m3 ⟨by rw[d2];omega,by rw[d2];omega⟩) (.inr rfl) (by omega)
theorem Om{s n:List Rock.aG}{w:bG}{r:Int}:(mq s n w r).length=n.length:=by
 unfold mq;split<;>simp[Ha]
theorem zr{b:bU}{s s1:List Rock.aG}(h:Bv b)(hs:Sv b s){aF:List Int}(hr:Rv b aF)(hb:BU 500000000000000 s1):∀j,j<=aF.length->BU (500000000000000+1000000000000*j) (eH b s s1 aF j)/\(eH b s s1 aF j).length=s1.length
 |0,_=>⟨by simpa[eH]using hb,by simp[eH]⟩
 |j+1,hj=>by
  obtain⟨r,h2⟩:∃r,aF[j]?=some r:=gE (by omega);obtain⟨w,h1⟩:∃w,b.av[j]?=some w:=⟨_,aJ (by rw[<- hr.len];omega)⟩;obtain⟨ih1,ih2⟩:=zr h hs hr hb j (by omega);rw[Ht h1 h2];have h3:=aaw h hs hr h1 h2 ih1;exact⟨λx hx=>da (h3 x hx) (by push_cast;omega),by rw[Om,ih2]⟩
theorem Md{b:bU}{m:b8}{s2:List Rock.aG}(h:Fv b m)(hb:BU 600000000000000 s2):∀i,i<=b.n->BU (600000000000000+1000000000000*i) (lK b m s2 i)
 |0,_=>by simpa[lK]using hb
 |i+1,hi=>by
  have ih:=Md h hb i (by omega);rw[DN];have h3:=pQ (i:=i) ih (Rl h (i:=i) (by omega)) (.inl rfl) (by omega);exact λx hx=>da (h3 x hx) (by push_cast;omega)
theorem ZY{b:bU}{j:Nat}{w:bG}(h:b.av[j]?=some w):((fM b.av bG.enc).drop (j*3)).take 3=[iI w.b,iI w.h,iI w.m] :=
 bd (f:=bG.enc) (w:=3) (λ_=>rfl) h
theorem SO{b:bU}{m:b8}{s s1:List Rock.aG}{aF:List Int}{A FL X Y Z W:Abs.aG}(h:Fv b m)(hs:Sv b s)(hr:Rv b aF)(hb:BU 500000000000000 s1)(hl1:s1.length=s.length):∀(k j v:Nat),j+k=aF.length ->
  WL T [1,3,9,12,41,42,43] false gK [(1,lF s aG.enc),(3,.bg (bM b m)),(9,.sl J.length 1 1 0 s.length 3),(12,.sl J.length 7 v 0 j 3),(41,lF aF aP),(42,iI aF.length),(43,iI j)]
   ([A,.cells 1 (fM (eH b s s1 aF j) aG.enc),FL,X,Y,Z,W,.cells v (fM ((bJ b s aF).take j) aG.enc)]::J)
   (λx e J'=>x=.exit 2/\get e 3=.bg (bM b m)/\get e 9=.sl J.length 1 1 0 s.length 3/\get e 12=.sl J.length 7 (v+k) 0 aF.length 3 /\
    J'=[A,.cells 1 (fM (eH b s s1 aF aF.length) aG.enc),FL,X,Y,Z,W,.cells (v+k) (fM (bJ b s aF) aG.enc)]::J)
 |0,j,v,hj=>by
  refine az gK.eq_1 ?_;obtain rfl:j=aF.length:=by omega
  have hyl:(bJ b s aF).length=aF.length:=by simp[bJ,hr.len]
  have h3:(bJ b s aF).take aF.length=bJ b s aF:=ah (by omega);simp[h3]
 |k+1,j,v,hj=>by
  refine az gK.eq_1 ?_;have h1:j<aF.length:=by omega
  have hwl:=h.bv.av;have hrl:=hr.len;obtain⟨r,hr2⟩:∃r,aF[j]?=some r:=gE (by omega);obtain⟨w,hw1⟩:∃w,b.av[j]?=some w:=gE (by omega);have hw:=Hu h.bv w (aj hw1);have hrr:=hr.ok r (aj hr2);have hwn:w.b.toNat<b.n:=by omega
  have hlen:=hs.len;obtain⟨x0,m1,m2,m3⟩:=hs.at (i:=w.b.toNat) hwn;obtain⟨ib,il⟩:=zr h.bv hs hr hb j (by omega);obtain⟨x1,y1⟩:=Ca ib (i:=w.b.toNat) (by omega);have h4:=cg h1;have a1:=ZY hw1;have a2:=gq hr2;have a3:=bd (f:=aG.enc) (w:=3) (λ_=>rfl) x0;have hy:=YN (s:=s) hw1 hr2;have f3:=BH (f:=aG.enc) hy;have hyl:(bJ b s aF).length=aF.length:=by simp[bJ,hr.len]
  have f4:=tA ((bJ b s aF).take j);rw[dw,hyl,Nat.min_eq_left (by omega)]at f4;have f6:(fM ((bJ b s aF).take j) aG.enc).take (j*3)=fM ((bJ b s aF).take j) aG.enc:=ah (by omega);have h7:(j+1)*24<=room:=by unfold room;omega
  have ih:=SO (A:=A) (FL:=FL) (X:=X) (Y:=Y) (Z:=Z) (W:=W) h hs hr hb hl1 k (j+1) (v+1) (by omega);have hsucc:=Ht (s:=s) (s1:=s1) hw1 hr2;have hB0:(0:Int)<=w.b:=hw.1.1;have⟨hB1,hjw⟩:w.b<(s.length:Int)/\j<b.av.length:=by omega
  have d2:=aO (b:=8) (show 0<=(aQ s w.b.toNat).m by omega);by_cases hc:r<0
  .have hg:=λJ=>Ze (J:=J) hrr hw.2.1 hw.2.2
   have hM:∀V,dp T (.call false 334 [.ref J.length 1 1 (w.b.toNat*3),.agg [iI (w.given r).m,iI (w.given r).h,iI (w.given r).k],iI 1] ([A,.cells 1 (fM (eH b s s1 aF j) aG.enc),FL,X,Y,Z,W,V]::J)) =
     some (.val (.cN []) ([A,.cells 1 (fM (eH b s s1 aF (j+1)) aG.enc),FL,X,Y,Z,W,V]::J)):=by
    intro V;rw[hsucc,mq,if_pos hc];exact JE (F:=[A,.cells 1 (fM (eH b s s1 aF j) aG.enc),FL,X,Y,Z,W,V]) (j:=1) rfl x1 (da y1 (by omega)) (da (Kq hrr hw.2.1 hw.2.2) (by omega)) (.inl rfl)
   have hwy:ie s w r=⟨0,0,0⟩:=by simp[ie,hc]
   rw[hwy]at f3;simp only[bG.enc,aG.enc]at hg;simp[h1,h4,a1,a2,f4,f6,h7,hB0,hB1,hjw,hc,hg,hM];refine WL.to ih (by simp[]) (by simp[<- f3]) λx e J hh=>by simpa[dG,Nat.add_comm 1 k]using hh
  .have w7:=cb (n:=(aQ s w.b.toNat).m.tdiv 8) (by rw[d2];omega);have hO:=λJ=>VT (J:=J) (q:=min r ((aQ s w.b.toNat).m.tdiv 8)) m1 m2 m3 ⟨by rw[d2];omega,by rw[d2];omega⟩
   have hos:=NM (q:=min r ((aQ s w.b.toNat).m.tdiv 8)) m1 m2 m3 ⟨by rw[d2];omega,by rw[d2];omega⟩;have hwy:ie s w r=(aQ s w.b.toNat).out (min r ((aQ s w.b.toNat).m.tdiv 8)):=by simp[ie,hc]
   have hsucc':eH b s s1 aF (j+1)=ck (eH b s s1 aF j) w.b.toNat ((aQ s w.b.toNat).out (min r ((aQ s w.b.toNat).m.tdiv 8))) (-1):=by
    rw[hsucc,mq,if_neg hc,hwy]
   rw[hwy]at f3;generalize hQ:min r ((aQ s w.b.toNat).m.tdiv 8)=Q at *
   generalize (aQ s w.b.toNat).out Q=O at *
   have hM:∀V,dp T (.call false 334 [.ref J.length 1 1 (w.b.toNat*3),.agg [iI O.m,iI O.h,iI O.k],iI (-1)] ([A,.cells 1 (fM (eH b s s1 aF j) aG.enc),FL,X,Y,Z,W,V]::J)) =
     some (.val (.cN []) ([A,.cells 1 (fM (eH b s s1 aF (j+1)) aG.enc),FL,X,Y,Z,W,V]::J)):=by
    intro V;rw[hsucc'];exact JE (F:=[A,.cells 1 (fM (eH b s s1 aF j) aG.enc),FL,X,Y,Z,W,V]) (j:=1) rfl x1 (da y1 (by omega)) (da hos (by omega)) (.inr rfl)
   simp only[aG.enc]at hO;simp[h1,h4,a1,a2,a3,f4,f6,h7,hB0,hB1,hjw,hc,w7,hQ,hO,hM];refine WL.to ih (by simp[]) (by simp[<- f3]) λx e J hh=>by simpa[dG,Nat.add_comm 1 k]using hh
theorem Wn{b:bU}{m:b8}{s2:List Rock.aG}{A FL X Y Z W V:Abs.aG}{d12:D}(h:Fv b m)(hb:BU 600000000000000 s2)(hl2:s2.length=b.n)(hd:d12.strip=d12/\d12.calm=d12):∀(k i:Nat),i+k=b.n ->
  WL T [3,9,12,93,94] false gL [(3,.bg (bM b m)),(9,.sl J.length 1 1 0 b.n 3),(12,d12),(93,iI b.n),(94,iI i)]
   ([A,.cells 1 (fM (lK b m s2 i) aG.enc),FL,X,Y,Z,W,V]::J)
   (λx e J'=>x=.exit 4/\get e 3=.bg (bM b m)/\get e 9=.sl J.length 1 1 0 b.n 3/\get e 12=d12/\J'=[A,.cells 1 (fM (lK b m s2 b.n) aG.enc),FL,X,Y,Z,W,V]::J)
 |0,i,hi=>by
  refine az gL.eq_1 ?_;obtain rfl:i=b.n:=by omega
  simp[hd]
 |k+1,i,hi=>by
  refine az gL.eq_1 ?_;have h1:i<b.n:=by omega
  have hn:=h.bv.n;have h4:=cg h1;have hf:=λJ=>af8 (J:=J) h h1
  have ih:=Wn (A:=A) (FL:=FL) (X:=X) (Y:=Y) (Z:=Z) (W:=W) (V:=V) h hb hl2 hd k (i+1) (by omega);have ib:=Md h hb i (by omega);obtain⟨x1,y1⟩:=Ca ib (i:=i) (by rw[yK,hl2];omega);have hM:dp T (.call false 334 [.ref J.length 1 1 (i*3),.agg [iI (IM b m i).m,iI (IM b m i).h,iI (IM b m i).k],iI 1] ([A,.cells 1 (fM (lK b m s2 i) aG.enc),FL,X,Y,Z,W,V]::J)) =
    some (.val (.cN []) ([A,.cells 1 (fM (lK b m s2 (i+1)) aG.enc),FL,X,Y,Z,W,V]::J)):=by
   rw[DN];exact JE (F:=[A,.cells 1 (fM (lK b m s2 i) aG.enc),FL,X,Y,Z,W,V]) (j:=1) rfl x1 (da y1 (by omega)) (da (Rl h h1) (by omega)) (.inl rfl)
  simp only[aG.enc]at hf;simp[h1,h4,hf,hM,hd];refine WL.to ih (by simp[]) rfl λx e J hh=>hh
theorem ND{b:bU}{m:b8}{s:List Rock.aG}{aF:List Int}(hr:Rv b aF)(hl:s.length=b.n):lK b m (eH b s ((tf b m s).foldl cz s) aF aF.length) b.n=mI b m s aF:=by
 have:(b.av.zip aF).take aF.length=b.av.zip aF:=ah (by rw[List.length_zip];omega);simp only[mI,lK,eH,this,hl]
theorem Mj{b:bU}{m:b8}{s:List Rock.aG}(h:Fv b m)(hs:Sv b s):BU 500000000000000 ((tf b m s).foldl cz s)/\((tf b m s).foldl cz s).length=s.length:=by
 obtain⟨h1,h2⟩:=Ps (m:=m) h.bv hs;have key:∀(es:List ((Nat×Nat)×Rock.aG)) (s:List Rock.aG) (N:Int),(∀e∈es,Vg b e)->BU N s->BU (N+2000000000000*es.length) (es.foldl cz s)/\(es.foldl cz s).length=s.length:=by
  intro es;induction es with
  |nil=>intro s N _ h;exact⟨by simpa using h,rfl⟩
  |cons e es ih =>
   intro s N he hb;obtain⟨a1,a2⟩:=ih (cz s e) _ (λx hx=>he x (by simp[hx])) (Pq hb (he e (by simp)));simp only[List.foldl_cons,aE];exact⟨λx hx=>da (a1 x hx) (by push_cast;omega),by rw[a2,Pr]⟩
 obtain⟨a1,a2⟩:=key _ s _ h1 hs.BU;exact⟨λx hx=>da (a1 x hx) (by omega),a2⟩
theorem acP{b:bU}{m:b8}{s s1:List Rock.aG}{aF:List Int}{A FL X Y Z W:Abs.aG}(h:Fv b m)(hs:Sv b s)(hr:Rv b aF)(hb:BU 500000000000000 s1)(hl1:s1.length=s.length):
  WC (dp T) fa ((25,.bool false)::(24,.undef)::Lm b m s aF J.length) ([A,.cells 1 (fM s1 aG.enc),FL,X,Y,Z,W]::J) λx e J' =>
   x=.ret/\J'=[A,.cells 1 (fM (lK b m (eH b s s1 aF aF.length) b.n) aG.enc),FL,X,Y,Z,W,.cells aF.length (fM (bJ b s aF) aG.enc)]::J /\
   (if qI b (lK b m (eH b s s1 aF aF.length) b.n)=true then get e 6=.sl J.length 1 1 0 b.n 3/\get e 7=.sl J.length 7 aF.length 0 aF.length 3/\get e 8=iI 0
    else get e 6=.bA/\get e 7=.bA/\get e 8=iI 9):=by
 have hl:=hs.len;have hn:=h.bv.n;have hwl:=h.bv.av;have hrl:=hr.len;obtain⟨wb,wl⟩:=zr h.bv hs hr hb aF.length (aN _);have fl:=yK (b:=b) (m:=m) (s2:=eH b s s1 aF aF.length) b.n;rw[Bf fa.eq_1];simp[Lm];refine WL.to (SO (J:=J) (A:=A) (FL:=FL) (X:=X) (Y:=Y) (Z:=Z) (W:=W) h hs hr hb hl1 aF.length 0 0 (by omega)) (by simp[]) (by simp[eH]) ?_;rintro x e J' ⟨rfl,g3,g9,g12,rfl⟩;rw[hl]at g9;simp[g3,g9,g12];refine WL.to (Wn (J:=J) (A:=A) (FL:=FL) (X:=X) (Y:=Y) (Z:=Z) (W:=W) (V:=.cells (0+aF.length) (fM (bJ b s aF) aG.enc)) (d12:=.sl J.length 7 (0+aF.length) 0 aF.length 3) h (λx hx=>da (wb x hx) (by omega)) (by rw[wl,hl1,hl]) ⟨rfl,rfl⟩ b.n 0 (by omega)) (by simp[]) (by simp[lK]) ?_;rintro x e J' ⟨rfl,g3,g9,g12,rfl⟩;have hS:=Uf (m:=m) (b:=b) (s:=lK b m (eH b s s1 aF aF.length) b.n) h.bv (lv:=J.length) (bi:=1) (v:=1) (F:=[A,.cells 1 (fM (lK b m (eH b s s1 aF aF.length) b.n) aG.enc),FL,X,Y,Z,W,.cells (0+aF.length) (fM (bJ b s aF) aG.enc)]) (J:=[A,.cells 1 (fM (lK b m (eH b s s1 aF aF.length) b.n) aG.enc),FL,X,Y,Z,W,.cells (0+aF.length) (fM (bJ b s aF) aG.enc)]::J) rfl (by simp[eT]) (by rw[fl,wl,hl1,hl]);rw[show(lK b m (eH b s s1 aF aF.length) b.n).length=b.n by rw[fl,wl,hl1,hl]]at hS;cases hc:qI b (lK b m (eH b s s1 aF aF.length) b.n)
 .rw[hc]at hS;simp at hS;simp[g3,g9,g12,hS]
 .rw[hc]at hS;simp at hS;simp[g3,g9,g12,hS]
def YH(b:bU)(m:b8)(s:List Rock.aG)(aF:List Int):D:=match tick b m s aF with
 |some (s',y) => .cN [lF s' aG.enc,lF y aG.enc,.int .i64 0]
 |none => .cN [.bA,.bA,.int .i64 9]
theorem acZ{b:bU}{m:b8}{s:List Rock.aG}{aF:List Int}(h:Fv b m)(hs:Sv b s)(hr:Rv b aF)(hJ:J≠[]):
  Cl 303 [.agg (bM b m),lF s aG.enc,lF aF aP] (YH b m s aF) J:=by
 refine au ?_;have hl:=hs.len;have hn:=h.bv.n;have hne:s≠[]:=by intro h0;rw[h0]at hl;simp at hl;omega
 have hC:=Y8 (J:=J) (s:=s) (bs:=[]) (by omega) hne;obtain⟨X,Y,Z,hF⟩:=Zd (J:=J) (A:=.cells 0 []) (B:=.cells 1 (fM s aG.enc)) h hs;obtain⟨fb,fl⟩:=Mj h hs;obtain⟨x,e',J',hrun,rfl,rfl,hq⟩:=acP (J:=J) (A:=.cells 0 []) (FL:=.cells 0 (Gh (tf b m s))) (X:=X) (Y:=Y) (Z:=Z) (W:=.dead) h hs hr fb fl;obtain⟨f1,f2⟩:=Ps (m:=m) h.bv hs;have hM:=ada (J:=J) (aF:=aF) (m:=m) (A:=.cells 0 []) (X:=X) (Y:=Y) (Z:=Z) (es:=tf b m s) hs f1 f2 (r:=.E5 .ret e' ([.cells 0 [],.cells 1 (fM (lK b m (eH b s ((tf b m s).foldl cz s) aF aF.length) b.n) aG.enc),.cells 0 (Gh (tf b m s)),X,Y,Z,.dead,.cells aF.length (fM (bJ b s aF) aG.enc)]::J)) ⟨_,_,_,hrun,rfl⟩ _ [] List.nodup_nil (by simp) rfl;simp only[aW,aY,cq]at hC;have hG:Dd ([.cells 0 [],.cells 1 (fM s aG.enc),.cells 0 (Gh (tf b m s)),X,Y,Z]::J) .rng [.jS J.length 2]=some (.jS J.length 6,[.cells 0 [],.cells 1 (fM s aG.enc),.cells 0 (Gh (tf b m s)),X,Y,Z,itB J.length (tf b m s).length []]::J):=by
  simp[Dd,Dh,itB,jsD,Gh]
 simp[hC,hF,hG];refine⟨_,_,_,by simpa[Lm,stT]using hM,?_⟩;rw[ND hr hl]at hq ⊢;have hnl:(mI b m s aF).length=b.n:=by
  rw[<- ND hr hl,yK,(zr h.bv hs hr fb aF.length (aN _)).2,fl,hl]
 have hyl:(bJ b s aF).length=aF.length:=by simp[bJ,hr.len]
 unfold YH tick;cases hc:qI b (mI b m s aF)
 .rw[hc]at hq;simp at hq;obtain⟨g6,g7,g8⟩:=hq;simp[g6,g7,g8]
 .rw[hc]at hq;simp only[if_true]at hq;obtain⟨g6,g7,g8⟩:=hq;simp only[if_true];simp[g6,g7,g8];rw[pZ (by simp) (by omega)];simp only[jP,kR];rw[<- hnl,lD (f:=aG.enc) (l:=mI b m s aF) (by decide) (λ_=>rfl) (λx=>by simp) hJ (by simp)];simp only[List.set_cons_succ,List.set_cons_zero];rw[<- hyl,lD (f:=aG.enc) (l:=bJ b s aF) (by decide) (λ_=>rfl) (λx=>by simp) hJ (by simp)];rw[eL (by simp) (by omega)];exact⟨_,rfl⟩
def ll(s:List Rock.aG):List D:=[lF s aG.enc]
theorem Js(l:List (List Rock.aG)):(fM l ll).length=l.length:=by
 have:=bZ (f:=ll) (w:=1) (λ_=>rfl) l;omega
theorem Sv.next{b:bU}{m:b8}{s:List Rock.aG}{aF:List Int}(h:Bv b){s' y:List Rock.aG}(ht:tick b m s aF=some (s',y)):Sv b s':=by
 unfold tick at ht;split at ht
 .rename_i hc;simp only[ae,ar]at ht;obtain⟨rfl,_⟩:=ht;exact(Sv.of h).1 hc
 .cases ht
theorem N1{n:Nat}(h:n<=1000000):n*24<=room:=by unfold room;omega
theorem abE(l:List (List Rock.aG)):D.bf (fM l ll)=true:=fA (λx=>by simp[ll,D.clean,HG]) l
def aeO(b:bU)(m:b8)(J:SK)(r:Option (List (List Rock.aG)×List (List Rock.aG)))(x:Abs.Exit)(e:Env)(J':SK):Prop:=match r with
 |some (ss,ys)=>∃v u,x=.exit 0/\get e 4=.own 0 [.sl J.length 2 v 0 ss.length 1,.sl J.length 1 u 0 ys.length 1]/\J'=[.cells 0 [],.cells u (fM ys ll),.cells v (fM ss ll)]::J
 |none=>x=.ft (.uh 428 (.agg []))/\∃bF,J'=bF::J
theorem Ww{b:bU}{m:b8}{aw:List (List Int)}(h:Fv b m)(hp:aw.length<=200)(hr:∀r∈aw,Rv b r):∀(k i v u:Nat) (ss ys:List (List Rock.aG)) (s:List Rock.aG),i+k=aw.length->ss.length=i+1->ys.length=i->ss[i]?=some s->Sv b s ->
  WL T [2,4,14,15,16] false iN [(2,.bg (bM b m)),(4,.own 0 [.sl J.length 2 v 0 (i+1) 1,.sl J.length 1 u 0 i 1]),(14,lF aw I6),(15,iI aw.length),(16,iI i)]
   ([.cells 0 [],.cells u (fM ys ll),.cells v (fM ss ll)]::J) (aeO b m J (oc b m ss ys s (aw.drop i)))
 |0,i,v,u,ss,ys,s,hi,h1,h2,h3,hs=>by
  refine az iN.eq_1 ?_;obtain rfl:i=aw.length:=by omega
  have h5:aw.drop aw.length=[]:=an (by omega);simp[h5,oc,aeO];exact⟨v,u,by simp[h1,h2]⟩
 |k+1,i,v,u,ss,ys,s,hi,h1,h2,h3,hs=>by
  refine az iN.eq_1 ?_;have⟨hlt,hii⟩:i<aw.length/\(i:Int)<i+1:=by omega
  obtain⟨r,hx⟩:=gE hlt;have h4:=cg hlt;have h5:=bw hx;have a1:=bd (f:=I6) (w:=1) (λ_=>rfl) hx;simp only[I6,bX]at a1;have a2:=pP (f:=ll) (w:=1) (λ_=>rfl) h3;simp only[ll,bX,dk]at a2;have hT:=λJ hJ=>acZ (J:=J) h hs (hr r (aj hx)) hJ
  rw[h5,oc];unfold YH at hT;cases ht:tick b m s r with
  |none =>
   rw[ht]at hT;simp only at hT;simp[hlt,hii,a1,a2,hT,aeO]
  |some p =>
   obtain⟨s',y⟩:=p;rw[ht]at hT;simp only at hT;have ih:=Ww h hp hr k (i+1) (v+1) (u+1) (ss++[s']) (ys++[y]) s' (by omega) (by simp[h1]) (by simp[h2]) (by simp[<- h1]) (Sv.next h.bv ht);have l1:=Js ss;have l2:=Js ys;rw[h1]at l1;rw[h2]at l2;have f1:(fM ss ll).take (i+1)=fM ss ll:=ah (by omega);have f2:(fM ys ll).take i=fM ys ll:=ah (by omega);have h7:=N1 (n:=i+1) (by omega);have h8:=N1 (n:=i+1+1) (by omega);simp[hlt,hii,h4,a1,a2,hT,f1,f2,l1,l2,h7,h8];exact WL.to ih (by simp) (by simp[ll]) λx e J hh=>hh
theorem Sq{b:bU}{m:b8}{aw:List (List Int)}(h:Fv b m)(hp:aw.length<=200)(hr:∀r∈aw,Rv b r)(hJ:J≠[]){ss ys:List (List Rock.aG)}(hrun:Rock.run b m aw=some (ss,ys)):
  Cl 252 [.agg (bM b m),lF aw I6] (.agg [lF ss ll,lF ys ll]) J:=by
 refine au ?_;have hf:=λJ hJ=>Hx (J:=J) h hJ
 simp only[YA]at hf;simp[hf];refine WL.to (Ww (J:=J) h hp hr aw.length 0 0 0 [bY b m] [] (bY b m) (by omega) rfl rfl rfl (Sv.first h)) (by simp) (by simp[ll]) ?_;rw[aB,show oc b m [bY b m] [] (bY b m) aw=some (ss,ys)from hrun];rintro x e J' ⟨v,u,rfl,g4,rfl⟩;simp[g4];have c1:∀x:List Rock.aG,D.bf (ll x)=true:=λx=>by simp[ll,D.clean,HG]
 rw[EE (by simp) (by omega)];simp only[jP,kR];rw[lD (f:=ll) (w:=1) (l:=ss) (by decide) (λ_=>rfl) c1 hJ (by simp)];simp only[List.set_cons_succ,List.set_cons_zero];rw[lD (f:=ll) (w:=1) (l:=ys) (by decide) (λ_=>rfl) c1 hJ (by simp)];exact⟨_,rfl⟩
theorem Sp{b:bU}{m:b8}{aw:List (List Int)}(h:Fv b m)(hp:aw.length<=200)(hr:∀r∈aw,Rv b r)(hrun:Rock.run b m aw=none):
  dp T (.call false 252 [.agg (bM b m),lF aw I6] J)=some (.ft (.uh 428 (.agg [])) J):=by
 refine dX rfl rfl rfl ?_;have hf:=λJ hJ=>Hx (J:=J) h hJ
 simp only[YA]at hf;simp[hf];refine WL.to (Ww (J:=J) h hp hr aw.length 0 0 0 [bY b m] [] (bY b m) (by omega) rfl rfl rfl (Sv.first h)) (by simp) (by simp[ll]) ?_;rw[aB,show oc b m [bY b m] [] (bY b m) aw=none from hrun];rintro x e J' ⟨rfl,bF,rfl⟩;simp[D.clean]
structure tx where
 m:Int
 h:Int
 s:Int
 g:Int
@[simp] def tx.enc(x:tx):List D:=[iI x.m,iI x.h,iI x.s,iI x.g]
def tx.valid(x:tx):Bool:=bC x.m 0 1000000 && (bC x.h 0 (4000*x.m) && (bC x.s 0 (10000*x.m) && bC x.g 0 1000000000))
def eJ(r:Rw)(x:tx):Int:=if x.h-x.m*r.l<=0 then 0 else if x.m*r.v<=x.h then x.m else(x.h-x.m*r.l) / (r.v-r.l)
theorem VI{r:Rw}{x:tx}(hr:0<=r.l/\r.l<r.v/\r.v<=4000)(hm:0<=x.m/\x.m<=1000000)(hh:0<=x.h/\x.h<=4000000000):
  Cl 312 [.agg r.enc,.agg x.enc] (iI (eJ r x)) J:=by
 refine au ?_;have b1:=iS hm.1 hm.2 hr.1 (show r.l<=4000 by omega);have b2:=iS hm.1 hm.2 (show 0<=r.v by omega) hr.2.2;have w1:=cb (n:=x.m*r.l);have w2:=cb (n:=x.h-x.m*r.l);have w3:=cb (n:=x.m*r.v);have w4:=cb (n:=r.v-r.l);have hd:¬r.v-r.l=0:=by omega
 unfold eJ;by_cases c1:x.h-x.m*r.l<=0
 .simp[w1,w2,c1]
 .by_cases c2:x.m*r.v<=x.h
  .simp[w1,w2,w3,c1,c2]
  .have t1:=aO (b:=r.v-r.l) (show 0<=x.h-x.m*r.l by omega);have q1:=Int.ediv_nonneg (a:=x.h-x.m*r.l) (b:=r.v-r.l) (by omega) (by omega);have q2:=Int.ediv_le_self (b:=r.v-r.l) (show 0<=x.h-x.m*r.l by omega);have w5:=cb (n:=(x.h-x.m*r.l) / (r.v-r.l));simp[w1,w2,w3,w4,c1,c2,hd,t1,w5]
theorem JG{x:tx}:Cl 260 [.agg x.enc] (.bool x.valid) J:=by
 refine au ?_;unfold tx.valid;cases h1:bC x.m 0 1000000
 .simp[jN,h1]
 have hm:=aR.1 h1;have w1:=cb (n:=4000*x.m);have w2:=cb (n:=10000*x.m);cases h2:bC x.h 0 (4000*x.m)
 .simp[jN,h1,h2,w1]
 cases h3:bC x.s 0 (10000*x.m)
 .simp[jN,h1,h2,h3,w1,w2]
 cases h4:bC x.g 0 1000000000<;>simp[jN,h1,h2,h3,h4,w1,w2]
theorem agf{t:List Rw}{i:Nat}{r:Rw}(h:t[i]?=some r):Cl 261 [lF t Rw.enc,iI i] (.agg r.enc) J:=by
 refine au ?_;have h1:i<t.length:=(aC.1 h).1;have h2:=bd (f:=Rw.enc) (w:=5) (λ_=>rfl) h;simp[h1,h2]
theorem abp{t:List Rw}{n:Int}(hl:t.length<=1000000000):Cl 259 [lF t Rw.enc,iI n] (.bool (bC n 0 ((t.length:Int)-1))) J:=by
 refine au ?_;have w1:=cb (n:=(t.length:Int)-1);simp[jN,w1]
def wat(r:Rw)(x:tx):Int×Int:=if eJ r x=0 then(x.m,x.h)else if eJ r x=x.m then(0,0)else(x.m-eJ r x,x.h-eJ r x*r.v)
def Oh(r:Rw)(x:tx):Int:=if eJ r x=0 then 0 else if eJ r x=x.m then x.h else eJ r x*r.v
def aij(r:Rw)(x:tx):Int:=if eJ r x=0 then x.g else 0
def Og(r:Rw)(x:tx):Int:=if eJ r x=0 then 0 else x.g
def held(r:Rw)(x:tx):Int:=min x.s ((wat r x).1*r.s)
def parts(r:Rw)(x:tx):List D:=[iI (eJ r x),iI (Oh r x),iI 0,iI (Og r x),iI (wat r x).1,iI (wat r x).2,iI (held r x),iI (aij r x),
 iI (if 0<(wat r x).1 then max 0 ((wat r x).2-(wat r x).1*r.l)else 0),iI (x.s-held r x)]
theorem Pz{r:Rw}{x:tx}(hr:0<=r.l/\r.l<r.v/\r.v<=4000)(hm:0<=x.m):0<=eJ r x/\eJ r x<=x.m/\(eJ r x≠0->eJ r x≠x.m->0<=x.h-eJ r x*r.v+x.m*r.v):=by
 have hmv:x.m*r.v=x.m*r.l+x.m*(r.v-r.l):=by rw[<- Int.mul_add];congr 1;omega
 have hml:=bz hm hr.1;have key:¬x.h-x.m*r.l<=0->¬x.m*r.v<=x.h->0<=(x.h-x.m*r.l) / (r.v-r.l)/\(x.h-x.m*r.l) / (r.v-r.l)<=x.m:=λh1 h2=>⟨Int.ediv_nonneg (by omega) (by omega),Int.ediv_le_of_le_mul (by omega) (by omega)⟩
 have h2:0<=eJ r x/\eJ r x<=x.m:=by
  unfold eJ;by_cases c1:x.h-x.m*r.l<=0
  .rw[if_pos c1];omega
  .rw[if_neg c1];by_cases c2:x.m*r.v<=x.h
   .rw[if_pos c2];omega
   .rw[if_neg c2];exact key c1 c2
 refine⟨h2.1,h2.2,λh3 _=>?_⟩;have h4:=dR h2.2 (show 0<=r.v by omega);have h5:¬x.h-x.m*r.l<=0:=by
  intro hh;exact h3 (by unfold eJ;rw[if_pos hh])
 omega
theorem agb{r:Rw}{x:tx}(hr:0<=r.l/\r.l<r.v/\r.v<=4000)(hs:0<=r.s/\r.s<=2000)(hx:x.valid=true):
  Cl 262 [.agg r.enc,.agg x.enc] (.agg (parts r x)) J:=by
 refine au ?_;simp only[tx.valid,af,aR]at hx;obtain⟨hm,hh,hsl,hg⟩:=hx;have hF:=λJ=>VI (J:=J) hr hm ⟨hh.1,by omega⟩
 obtain⟨f1,f2,f3⟩:=Pz hr hm.1;have b1:=iS f1 (show eJ r x<=1000000 by omega) (show 0<=r.v by omega) hr.2.2;have b2:=iS (show 0<=x.m-eJ r x by omega) (show x.m-eJ r x<=1000000 by omega) hs.1 hs.2;have b3:=iS (show 0<=x.m-eJ r x by omega) (show x.m-eJ r x<=1000000 by omega) hr.1 (show r.l<=4000 by omega);have b4:=iS hm.1 hm.2 hs.1 hs.2;have b5:=iS hm.1 hm.2 hr.1 (show r.l<=4000 by omega);simp only[Rw.enc,tx.enc]at hF;unfold parts held Oh aij Og wat;generalize eJ r x=m at *
 have w1:=cb (n:=m*r.v);have w2:=cb (n:=x.m-m);have w3:=cb (n:=x.h-m*r.v);have w4:=cb (n:=(x.m-m)*r.s);have w5:=cb (n:=(x.m-m)*r.l);have w6:=cb (n:=x.h-m*r.v-(x.m-m)*r.l);have w7:=cb (n:=x.m*r.s);have w8:=cb (n:=x.m*r.l);have w9:=cb (n:=x.h-x.m*r.l);have v1:=cb (n:=x.s-min x.s (x.m*r.s));have v2:=cb (n:=x.s-min x.s ((x.m-m)*r.s));have v3:=cb (n:=x.s);have v4:min x.s 0=0:=by omega
 by_cases c1:m=0
 .subst c1;by_cases c2:0<x.m
  .simp[hF,w7,w8,w9,v1,c2]
  .simp[hF,w7,v1,c2]
 .by_cases c2:m=x.m
  .subst c2;simp[hF,c1,v3,v4]
  .have⟨c3,c4⟩:0<x.m-m/\m<x.m:=by omega
   simp[hF,c1,c2,c4,w1,w2,w3,w4,w5,w6,v2]
theorem Yg{t:List Rw}(ht:fK t=true){i:Nat}{r:Rw}(h:t[i]?=some r):(0<=r.l/\r.l<r.v/\r.v<=4000)/\(0<=r.s/\r.s<=2000):=by
 simp only[fK,af]at ht;have:=eQ.1 ht.2.1 r (aj h);simp only[Rw.alone,af,aR,aA]at this;obtain⟨_,_,h3,h4,h5,h6⟩:=this;exact⟨⟨h3.1,h5,h6⟩,h4⟩
theorem YZ{t:List Rw}(ht:fK t=true){i:Nat}{r:Rw}(hi:t[i]?=some r){x:tx}(hx:x.valid=true):
  Cl 218 [lF t Rw.enc,iI i,.agg x.enc] (.cN [.agg (parts r x),iI 0]) J:=by
 refine au ?_;have hl:t.length<=20:=by
  simp only[fK,af]at ht;have:=aR.1 ht.1;omega
 have hil:i<t.length:=(aC.1 hi).1;have h1:=λJ=>FO (J:=J) (t:=t) (by omega)
 have h2:=λJ=>abp (J:=J) (t:=t) (n:=i) (by omega)
 have h3:=λJ=>JG (J:=J) (x:=x)
 have h4:=λJ=>agf (J:=J) hi
 obtain⟨r1,r2⟩:=Yg ht hi;have h5:=λJ=>agb (J:=J) r1 r2 hx
 have hin:bC i 0 ((t.length:Int)-1)=true:=aR.2 (by omega);rw[hin]at h2;rw[hx]at h3;rw[ht]at h1;simp only[tx.enc,Rw.enc]at h3 h4 h5;have hp:(parts r x).length=10:=rfl;have hp2:(parts r x).take 10=parts r x:=rfl;have hpc:D.bf (parts r x)=true:=by simp[parts]
 generalize parts r x=P at *
 simp[h1,h2,h3,h4,h5,hp,hp2];rw[eL (by simp[D.clean,hpc]) (by omega)];exact⟨_,rfl⟩
structure Yv(b:bU)(y:List Rock.aG):Prop where
 len:y.length=b.av.length
 ok:∀o∈y,(0<=o.m/\o.m<=1000000)/\(0<=o.h/\o.h<=10000000000)/\(0<=o.k/\o.k<=1000000000000)
theorem Yv.of{b:bU}{s:List Rock.aG}{aF:List Int}(h:Bv b)(hs:Sv b s)(hr:Rv b aF):Yv b (bJ b s aF):=by
 refine⟨by simp[bJ,hr.len],?_⟩;intro o ho;simp only[bJ,bI]at ho;obtain⟨⟨w,r⟩,hm,rfl⟩:=ho;have hw:=Hu h w (List.of_mem_zip hm).1;have hb:=hr.ok r (List.of_mem_zip hm).2;simp only[ie];split
 .simp
 .obtain⟨_,h1,h2,h3⟩:=hs.at (i:=w.b.toNat) (by omega);generalize aQ s w.b.toNat=x at *
  have h8:x.m.tdiv 8=x.m / 8:=aO (by omega);have hq:0<=min r (x.m.tdiv 8)/\min r (x.m.tdiv 8)<=x.m:=by omega
  exact⟨⟨hq.1,by simp only[Rock.aG.out];omega⟩,IV h1.1 h2 hq,IV h1.1 h3 hq⟩
theorem YI{b:bU}{m:b8}{s:List Rock.aG}{aF:List Int}{s' y:List Rock.aG}(h:Bv b)(hs:Sv b s)(hr:Rv b aF)(ht:tick b m s aF=some (s',y)):Sv b s'/\Yv b y:=by
 refine⟨Sv.next h ht,?_⟩;unfold tick at ht;split at ht
 .simp only[ae,ar]at ht;rw[<- ht.2];exact Yv.of h hs hr
 .cases ht
structure LW(b:bU)(n:Nat)(ss ys:List (List Rock.aG)):Prop where
 sl:ss.length=n+1
 yl:ys.length=n
 sv:∀s∈ss,Sv b s
 yv:∀y∈ys,Yv b y
theorem LW.from{b:bU}{m:b8}(h:Fv b m):∀(aw:List (List Int)) (n:Nat) (ss ys:List (List Rock.aG)) (s:List Rock.aG) {ss' ys':List (List Rock.aG)},(∀r∈aw,Rv b r)->LW b n ss ys->Sv b s->oc b m ss ys s aw=some (ss',ys')->LW b (n+aw.length) ss' ys'
 |[],n,ss,ys,s,ss',ys',hr,h1,h2,he=>by
  simp only[oc,ae,ar]at he;obtain⟨rfl,rfl⟩:=he;exact h1
 |r::aw,n,ss,ys,s,ss',ys',hr,h1,h2,he=>by
  simp only[oc]at he;split at he
  .rename_i s' y ht;obtain⟨g1,g2⟩:=YI h.bv h2 (hr r (List.mem_cons_self ..)) ht;have:=LW.from h aw (n+1) _ _ _ (λx hx=>hr x (List.mem_cons_of_mem _ hx)) (⟨by simp[h1.sl],by simp[h1.yl],by
    intro x hx;rcases aU.1 hx with hx | hx
    .exact h1.sv x hx
    .rw[List.mem_singleton.1 hx];exact g1,by
    intro x hx;rcases aU.1 hx with hx | hx
    .exact h1.yv x hx
    .rw[List.mem_singleton.1 hx];exact g2⟩:LW b (n+1) (ss++[s']) (ys++[y])) g1 he
   rw[show n+(r::aw).length=n+1+aw.length by simp;omega];exact this
  .cases he
theorem LW.of{b:bU}{m:b8}{aw:List (List Int)}{ss ys:List (List Rock.aG)}(h:Fv b m)(hr:∀r∈aw,Rv b r)(he:Rock.run b m aw=some (ss,ys)):LW b aw.length ss ys:=by
 have:=LW.from h aw 0 _ _ _ hr (⟨rfl,rfl,by simpa using Sv.first h,by simp⟩:LW b 0 [bY b m] []) (Sv.first h) he;simpa using this
theorem Bg{α:Type}{p:α->Bool}{x:α}{l:List α}:dh (x::l) p=(p x && dh l p):=by simp[dh]
theorem dq{a b c:Int}:Cl 103 [iI a,iI b,iI c] (.bool (bC a b c)) J:=by
 refine au ?_;by_cases h:b<=a<;>simp[h,bC]
theorem qQ{a b c:Int}:Cl 130 [iI a,iI b,iI c] (.bool (bC a b c)) J:=by
 refine au ?_;by_cases h:b<=a<;>simp[h,bC]
theorem Y4{f:dD}(hx:1<=f.x/\f.x<=8)(hy:1<=f.y/\f.y<=8)(hz:1<=f.z/\f.z<=8):Cl 131 [.agg (fL f)] (iI f.size) J:=by
 refine au ?_;obtain⟨h1,h2⟩:=dD.sz hx hy hz;have w1:=cb (n:=f.x*f.y);have w2:=cb (n:=f.x*f.y*f.z);simp[w1,w2,dD.size]
theorem pc{f:dD}(h:f.valid=true):Cl 131 [.agg (fL f)] (iI f.size) J:=by
 obtain⟨h1,h2,h3,h4,h5⟩:=dD.nI.1 h;exact Y4 h1 h2 h3
theorem Oq{f:dD}:Cl 88 [.agg (fL f)] (.bool f.valid) J:=by
 refine au ?_;cases hc1:bC f.x 1 8
 .simp[qQ,dD.valid,hc1]
 cases hc2:bC f.y 1 8
 .simp[qQ,dD.valid,hc1,hc2]
 cases hc3:bC f.z 1 8
 .simp[qQ,dD.valid,hc1,hc2,hc3]
 obtain⟨h1,h2⟩:=dD.sz (aR.1 hc1) (aR.1 hc2) (aR.1 hc3);have w1:=cb (n:=f.x*f.y);have w2:=cb (n:=f.x*f.y*f.z);by_cases hc4:f.x*f.y*f.z<=64
 .simp[qQ,dD.valid,dD.size,hc1,hc2,hc3,hc4,w1,w2]
 .simp[qQ,dD.valid,dD.size,hc1,hc2,hc3,hc4,w1,w2]
theorem Sx{s:List UInt8}(hl:s.length<=9223372036854775807):∀(m i:Nat),i+m=s.length ->
  WL T [0,3] false oj [(0,.str s),(3,iI i)] J
   (λx e J'=>J'=J/\if oG i (s.drop i)then x=.exit 0/\get e 0=.str s else x=.ret/\get e 2=.bool false)
 |0,i,hi=>by
  refine az oj.eq_1 ?_;have h1:¬i<s.length:=by omega
  have h2:s.drop i=[]:=an (by omega);have hp:fS .Qq [.str s]=some (iI s.length):=rfl;simp[h1,h2,hp,oG]
 |m+1,i,hi=>by
  refine az oj.eq_1 ?_;have h1:i<s.length:=by omega
  obtain⟨c,hc⟩:=gE h1;have h4:=cg h1;have h5:=bw hc;have ih:=Sx hl m (i+1) (by omega);have hp:fS .Qq [.str s]=some (iI s.length):=rfl;rw[h5,oG];have hd:fS .Lz [.str s,iI (i:Int)]=some (.int .u8 c.toNat):=by simp[fS,hc]
  by_cases hc1:97<=c.toNat
  .by_cases hc2:c.toNat<=122
   .have hlet:letter c=true:=by simp[letter,hc1,hc2]
    simp[h1,h4,hd,hp,hlet,show(97:Int)<=(c.toNat:Int)by omega,show(c.toNat:Int)<=122 by omega];exact WL.to ih (by simp) rfl λx e J' hh=>by simpa[hlet]using hh
   .have hlet:letter c=false:=by simp[letter,hc2]
    have hdig:digit c=false:=by simp[digit];omega
    by_cases hi0:i=0
    .subst hi0;have hd0:fS .Lz [.str s,iI 0]=some (.int .u8 c.toNat):=by simpa using hd
     have h1':0<s.length:=h1;simp[h1',hd0,hp,hlet,hdig,show(97:Int)<=(c.toNat:Int)by omega,show ¬(c.toNat:Int)<=122 by omega]
    .simp[h1,hd,hp,hlet,hdig,hi0,show(97:Int)<=(c.toNat:Int)by omega,show ¬(c.toNat:Int)<=122 by omega,show ¬(c.toNat:Int)<48 by omega,show(57:Int)<(c.toNat:Int)by omega]
  .have hlet:letter c=false:=by simp[letter,hc1]
   by_cases hi0:i=0
   .subst hi0;have hd0:fS .Lz [.str s,iI 0]=some (.int .u8 c.toNat):=by simpa using hd
    have h1':0<s.length:=h1;simp[h1',hd0,hp,hlet,show ¬(97:Int)<=(c.toNat:Int)by omega]
   .by_cases hc3:c.toNat<48
    .have hdig:digit c=false:=by simp[digit];omega
     simp[h1,hd,hp,hlet,hdig,hi0,show ¬(97:Int)<=(c.toNat:Int)by omega,show(c.toNat:Int)<48 by omega]
    .by_cases hc4:57<c.toNat
     .have hdig:digit c=false:=by simp[digit];omega
      simp[h1,hd,hp,hlet,hdig,hi0,show ¬(97:Int)<=(c.toNat:Int)by omega,show ¬(c.toNat:Int)<48 by omega,show(57:Int)<(c.toNat:Int)by omega]
     .have hdig:digit c=true:=by simp[digit];omega
      simp[h1,h4,hd,hp,hlet,hdig,hi0,show ¬(97:Int)<=(c.toNat:Int)by omega,show ¬(c.toNat:Int)<48 by omega,show ¬(57:Int)<(c.toNat:Int)by omega];exact WL.to ih (by simp) rfl λx e J' hh=>by simpa[hlet,hdig,hi0]using hh
theorem Jb{s:List UInt8}(hl:s.length<=9223372036854775807):Cl 174 [.str s] (.bool (named s)) J:=by
 refine au ?_;have hp:fS .Qq [.str s]=some (iI s.length):=rfl;simp;refine WL.to (Sx (J:=[]::J) hl s.length 0 (by omega)) (by simp) rfl ?_;rintro x e J' ⟨rfl,h⟩;simp only[aB]at h;unfold named;cases hc:oG 0 s
 .simp[hc]at h;simp[h]
 .simp[hc]at h;obtain⟨rfl,g0⟩:=h;by_cases h1:1<=s.length
  .by_cases h2:s.length<=16
   .simp[g0,hp,bC,show(1:Int)<=s.length by omega,show(s.length:Int)<=16 by omega]
   .simp[g0,hp,bC,show(1:Int)<=s.length by omega,show ¬(s.length:Int)<=16 by omega]
  .simp[g0,hp,bC,show ¬(1:Int)<=s.length by omega]
theorem OP{f:dD}{m:b8}(hl:m.du.length<=9223372036854775807):∀(k i:Nat),i+k=m.du.length ->
  WL T [3,5] false gI [(3,.bg (mL m)),(5,iI i)] J
   (λx e J'=>J'=J/\if dh (m.du.drop i) (λn=>bC n (-100000) 100000)then x=.exit 0 else x=.ret/\get e 4=iI 1)
 |0,i,hi=>by
  refine az gI.eq_1 ?_;have h1:¬i<m.du.length:=by omega
  have h2:m.du.drop i=[]:=an (by omega);simp[h1,h2,dh]
 |k+1,i,hi=>by
  refine az gI.eq_1 ?_;have h1:i<m.du.length:=by omega
  obtain⟨c,hc⟩:=gE h1;have h2:=gq hc;have h4:=cg h1;have h5:=bw hc;have ih:=OP (f:=f) hl k (i+1) (by omega);rw[h5,Bg];cases hb:bC c (-100000) 100000
  .simp[h1,h2,qQ,hb]
  .simp[h1,h2,h4,qQ,hb];exact WL.to ih (by simp) rfl λx e J' hh=>by simpa[hb]using hh
theorem Vv{f:dD}{m:b8}(hf:f.valid=true)(hn:m.name.length<=9223372036854775807)(hl:m.du.length<=9223372036854775807):Cl 135 [.agg (fL f),.agg (mL m)] (iI (f.model m)) J:=by
 refine au ?_;obtain⟨h6,h7⟩:=BK hf;have w1:=cb (n:=f.k*f.size);have hb:=λJ=>pc (J:=J) (f:=f) hf
 cases hc1:named m.name
 .simp[Jb hn,hc1,dD.model]
 .by_cases hc2:(m.du.length:Int)=f.k*f.size
  .simp[Jb hn,hc1,hc2,hb,w1];refine WL.to (OP (J:=[]::J) (f:=f) (m:=m) hl m.du.length 0 (by omega)) (by simp) (by simp) ?_;rintro x e J' ⟨rfl,h⟩;simp only[aB]at h;cases hc3:dh m.du (λn=>bC n (-100000) 100000)
   .simp[hc3]at h;simp[h,dD.model,hc1,hc2,hc3]
   .simp[hc3]at h;simp[h,dD.model,hc1,hc2,hc3]
  .simp[Jb hn,hc1,hc2,dD.model,hb,w1]
end Go.Proofs.YtpapbbojmclkgaaGreatDoor
