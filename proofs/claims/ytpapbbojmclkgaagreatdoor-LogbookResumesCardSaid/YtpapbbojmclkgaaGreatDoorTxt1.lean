import Derived.Test.YtpapbbojmclkgaaGreatDoorTxt0
set_option linter.all false
namespace Go.Proofs.YtpapbbojmclkgaaGreatDoor
section
open Go Go.aw Go.aD
variable {J:SK}
theorem aaT{b:b9}:Cl 359 [.agg (bL b)] (.fn 369 [] [.bq (bL b)]) J:=by
 refine an ?_;simp[DJ,yq]
theorem Bv.xy{b:b9}(h:Bv b):b.f.x=(b.f.x.toNat:Int)/\b.f.y=(b.f.y.toNat:Int)/\1<=b.f.x.toNat*b.f.y.toNat/\b.f.x.toNat*b.f.y.toNat<=64:=by
 have hx:=h.x;have hy:=h.y;obtain⟨s1,_⟩:=dK.sz h.x h.y h.z;have e1:b.f.x*b.f.y=((b.f.x.toNat*b.f.y.toNat:Nat):Int):=by push_cast;rw[dW (by omega),dW (by omega)]
 rw[e1]at s1;refine⟨by omega,by omega,by omega,by omega⟩
theorem Bv.nat{b:b9}(h:Bv b):b.n=b.f.x.toNat*b.f.y.toNat*b.f.z.toNat/\1<=b.f.x.toNat/\1<=b.f.y.toNat:=by
 have hx:=h.x;have hy:=h.y;have hz:=h.z;have hs:=h.sz;refine⟨?_,by omega,by omega⟩;have:((b.f.x.toNat*b.f.y.toNat*b.f.z.toNat:Nat):Int)=b.f.size:=by
  push_cast;rw[dW (by omega),dW (by omega),dW (by omega)];rfl
 omega
theorem adC{X W i n:Nat}(hn:n=X*W)(hi:i<n)(hc:(i+1)%X≠0):i+1<n:=by
 rcases Nat.lt_or_ge (i+1) n with h | h
 .exact h
 .have:i+1=X*W:=by omega
  rw[this,Nat.mul_mod_right]at hc;exact absurd rfl hc
theorem link2{X Y Z i n:Nat}(hX:1<=X)(hY:1<=Y)(hn:n=X*Y*Z)(hi:i<n)(hc:i / X%Y≠Y-1):i+X<n:=by
 have h1:i / X<Y*Z:=by rw[Nat.div_lt_iff_lt_mul hX,Nat.mul_comm,<- Nat.mul_assoc];omega
 have h2:i / X+1<Y*Z:=by
  rcases Nat.lt_or_ge (i / X+1) (Y*Z)with h | h
  .exact h
  .exfalso
   have h3:i / X+1=Y*Z:=by omega
   have hZ:1<=Z:=by
    rcases Nat.eq_zero_or_pos Z with h0 | h0
    .subst h0;omega
    .exact h0
   have h4:i / X=Y*(Z-1)+(Y-1):=by
    have:Y*Z=Y*(Z-1)+Y:=by rw[<- Nat.mul_succ];congr 1;omega
    omega
   rw[h4,Nat.mul_add_mod,Nat.mod_eq_of_lt (by omega)]at hc;exact hc rfl
 have h3:i<(i / X+1)*X:=by
  have:=Nat.div_add_mod i X;have h4:=Nat.mod_lt i (show X>0 by omega);rw[gT,Nat.one_mul,Nat.mul_comm (i / X) X];omega
 have h5:(i / X+1)*X+X<=n:=by
  have:(i / X+1+1)*X<=Y*Z*X:=dk _ h2;rw[gT (i / X+1) 1 X,Nat.one_mul,Nat.mul_comm (Y*Z) X,<- Nat.mul_assoc]at this;omega
 omega
theorem T4{b:b9}(h:Bv b){lv j N:Nat}{St:List (Nat×Nat)->SK}(hN:∀pre,(St pre).length=N)
  (hR:∀pre,∀l:Nat×Nat,l.1<b.n->l.2<b.n->l.1≠l.2->di T (.round lv j [.agg [iI l.1,iI l.2]] ([]::St pre))=some (.val (.bool true) ([]::St (pre++[l])))):∀(n i:Nat) (pre:List (Nat×Nat)),i+n=b.n ->
  WL T [0,1,3,4,13,14] false nX [(0,.jg lv j),(1,.bq (bL b)),(3,iI b.f.x),(4,iI b.f.y),(13,iI b.n),(14,iI i)] ([]::St pre)
   (λx e J'=>J'=[]::St (pre++fM ((List.range b.n).drop i) (vY b))/\x=.exit 0)
 |0,i,pre,hi=>by
  refine aK ?_;have h1:¬i<b.n:=by omega
  have h2:(List.range b.n).drop i=[]:=bH (by simp;omega);simp[h1,h2]
 |n+1,i,pre,hi=>by
  refine aK ?_;have h1:i<b.n:=by omega
  have hn:=h.n;have hx:=h.x;have hy:=h.y;obtain⟨eX,eY,p1,p2⟩:=h.xy;have h4:=cj h1;have hs:=λJ=>B0 (J:=J) h
  have h5:(List.range b.n).drop i=i::(List.range b.n).drop (i+1):=bj (by simp[h1]);have w1:=bV (n:=b.f.x*b.f.y) (by rw[eX,eY];omega);obtain⟨hnn,X1,Y1⟩:=h.nat;have⟨hx0,hy0⟩:¬b.f.x=0/\¬b.f.y=0:=by omega
  have ih:=λpre=>T4 h hN hR n (i+1) pre (by omega)
  have e1:((i:Int)+1).tmod b.f.x=(((i+1)%b.f.x.toNat:Nat):Int):=by
   conv=>lhs;rw[eX]
   rfl
  have e2:(i:Int) / b.f.x=((i / b.f.x.toNat:Nat):Int):=by
   conv=>lhs;rw[eX]
   rfl
  have e2b:(i:Int).tdiv b.f.x=((i / b.f.x.toNat:Nat):Int):=by
   conv=>lhs;rw[eX]
   rfl
  have e3:((i / b.f.x.toNat:Nat):Int).tmod b.f.y=((i / b.f.x.toNat%b.f.y.toNat:Nat):Int):=by
   conv=>lhs;rw[eY]
   rfl
  have e4:b.f.x*b.f.y=((b.f.x.toNat*b.f.y.toNat:Nat):Int):=by
   conv=>lhs;rw[eX,eY]
   rfl
  have hq:i / b.f.x.toNat<=i:=Nat.div_le_self _ _;have hr1:(i+1)%b.f.x.toNat<=i+1:=Nat.mod_le _ _;have hr2:i / b.f.x.toNat%b.f.y.toNat<=i / b.f.x.toNat:=Nat.mod_le _ _;have l1:=adC (W:=b.f.y.toNat*b.f.z.toNat) (by rw[hnn,Nat.mul_assoc]) h1;have l2:=link2 (Z:=b.f.z.toNat) X1 Y1 hnn h1;have R1:=λpre hc=>hR pre (i,i+1) h1 (l1 hc) (by simp)
  have R2:=λpre hc=>hR pre (i,i+b.f.x.toNat) h1 (l2 hc) (by simp;omega)
  have R3:=λpre hc=>hR pre (i,i+b.f.x.toNat*b.f.y.toNat) h1 hc (by simp;omega)
  have z2:((i+b.f.x.toNat:Nat):Int)=(i:Int)+b.f.x:=by omega
  have z3:((i+b.f.x.toNat*b.f.y.toNat:Nat):Int)=(i:Int)+b.f.x*b.f.y:=by rw[e4];omega
  have z1:((i+1:Nat):Int)=(i:Int)+1:=rfl;simp only[z1,z2,z3]at R1 R2 R3;generalize hA:i / b.f.x.toNat=A at *
  generalize hB:A%b.f.y.toNat=B at *
  generalize hC:(i+1)%b.f.x.toNat=C at *
  generalize hP:b.f.x.toNat*b.f.y.toNat=P at *
  have v1:=bV (n:=(A:Int));have v2:=bV (n:=(B:Int));have v3:=bV (n:=(C:Int));have v4:=bV (n:=b.f.y-1);have v5:=bV (n:=(i:Int)+b.f.x);have v6:=bV (n:=(i:Int)+b.f.x*b.f.y) (by rw[e4];omega);have v7:=bV (n:=b.f.x*b.f.y) (by rw[e4];omega);have c3:((i:Int)+b.f.x*b.f.y<(b.n:Int))↔(i+P<b.n):=by rw[e4];omega
  have hL:vY b i=(if C≠0 then [(i,i+1)]else [])++((if B≠b.f.y.toNat-1 then [(i,i+b.f.x.toNat)]else [])++(if i+P<b.n then [(i,i+P)]else [])):=by
   unfold vY;rw[hC,hA,hB,hP]
  rw[h5,cT,hL];clear hL hnn l1 l2;have⟨t1,t2⟩:(((C:Int)=0)↔(C=0))/\(((B:Int)=b.f.y-1)↔(B=b.f.y.toNat-1)):=by omega
  by_cases k1:C=0<;>by_cases k2:B=b.f.y.toNat-1<;>by_cases k3:i+P<b.n;all_goals
   first | (have u1:=t1.2 k1) | (have u1:=mt t1.1 k1)
   first | (have u2:=t2.2 k2) | (have u2:=mt t2.1 k2)
   have ih':=ih (pre++((if C≠0 then [(i,i+1)]else [])++((if B≠b.f.y.toNat-1 then [(i,i+b.f.x.toNat)]else [])++(if i+P<b.n then [(i,i+P)]else []))));first
    |(rw[if_neg (not_not_intro k1)]at ih' ⊢) | (rw[if_pos k1]at ih' ⊢)
   first
    |(rw[if_neg (not_not_intro k2)]at ih' ⊢) | (rw[if_pos k2]at ih' ⊢)
   first
    |(rw[if_neg k3]at ih' ⊢) | (rw[if_pos k3]at ih' ⊢)
   have g1:=λpre=>R1 pre
   have g2:=λpre=>R2 pre
   have g3:=λpre=>R3 pre
   first | (have g1:=λpre=>R1 pre k1) | skip
   first | (have g2:=λpre=>R2 pre k2) | skip
   first | (have g3:=λpre=>R3 pre k3) | skip
   simp[h1,h4,hx0,hy0,e1,e2b,e3,v1,v4,v5,v6,v7,c3,u2,k1,k3,hs,g1,g2,g3];refine WL.ts ih' λx e J hh=>by simpa using hh
theorem Xw{b:b9}(h:Bv b){lv j N:Nat}{St:List (Nat×Nat)->SK}(hN:∀pre,(St pre).length=N)
  (hR:∀pre,∀l:Nat×Nat,l.1<b.n->l.2<b.n->l.1≠l.2->di T (.round lv j [.agg [iI l.1,iI l.2]] ([]::St pre))=some (.val (.bool true) ([]::St (pre++[l])))):
  di T (.call false 369 [.jg lv j,.bq (bL b)] (St []))=some (.val (.cS []) (St (zN b))):=by
 refine eZ rfl rfl rfl (by rw[hN,hN]) ?_;have hs:=λJ=>B0 (J:=J) h
 simp[hs];refine WL.tg (T4 h hN hR b.n 0 [] (by omega)) ?_;rintro x e J' ⟨rfl,rfl⟩;simp[zN]
def G3(es:List ((Nat×Nat)×aD.aF)):List D:=es.map λe => .cS [.agg [iI e.1.1,iI e.1.2],.agg e.2.enc]
def kyL:Ky:=some (true,[some .i64,some .i64])
theorem aiO{a b:Nat×Nat}:sw kyL (.agg [iI a.1,iI a.2]) (.agg [iI b.1,iI b.2])=some (b == a):=by
 simp only[sw,kyL,D.row,C5,and_self,if_true,aZ,Bool.and_true];congr 1;rw[Bool.eq_iff_iff];simp only[af,beq_iff_eq];constructor
 .rintro⟨h1,h2⟩;exact Prod.ext (by omega) (by omega)
 .rintro rfl;exact⟨rfl,rfl⟩
theorem Qz{k:Nat×Nat}:∀{es:List ((Nat×Nat)×aD.aF)},∃r,oS kyL (.agg [iI k.1,iI k.2]) (G3 es)=some r/\r.map Prod.fst=es.findIdx? (λe=>e.1 == k)
 |[]=>⟨none,rfl,rfl⟩
 |e::es=>by
  obtain⟨r,h1,h2⟩:=Qz (k:=k) (es:=es);simp only[G3,aL]at h1 ⊢;simp only[oS,aiO];cases hk:e.1 == k
  .refine⟨_,by rw[h1];rfl,?_⟩;rw[List.findIdx?_cons,hk,<- h2];cases r<;>rfl
  .exact⟨_,rfl,by rw[List.findIdx?_cons,hk];rfl⟩
theorem Zt{S:SK}{l i:Nat}{es:List ((Nat×Nat)×aD.aF)}{k:Nat×Nat}{o:aD.aF}(h:cells? S l i 0=some (G3 es)):
  DY S (.put kyL) [.jg l i,.agg [iI k.1,iI k.2],.agg o.enc]=some (.undef,bw S l i (.cells 0 (G3 (S8 es k o)))):=by
 obtain⟨r,h1,h2⟩:=Qz (k:=k) (es:=es);simp only[DY,D3,h,aZ,h1,aiO,Option.isSome_some,true_and];rw[if_pos (.inr ⟨by simp[D.clean],by simp[D.clean]⟩)];unfold S8;rw[<- h2];cases r with
 |none=>simp[G3]
 |some y=>simp[G3,List.map_set]
theorem LQ{x:aD.aF}{A:Int}(hA:10000<=A):∀(t:List Rw) (o:Int),(∀r∈t,r.alone=true)->(0<=o/\o<=A)->0<=t.foldl (gR x) o/\t.foldl (gR x) o<=A
 |[],o,_,h=>h
 |r::t,o,ht,h=>by
  have h1:=Te (ht r (by simp));refine LQ hA t _ (λr hr=>ht r (by simp[hr])) ?_;unfold gR;split<;>omega
theorem H3{b:b9}{m:ck}{s:List aD.aF}(h:Fv b m)(hs:Sv b s){i:Nat}(hi:i<b.n):0<=dE b m s i/\dE b m s i<=200000000000:=by
 have htab:=h.bv.dX;simp only[fP,af]at htab;refine LQ (by omega) _ _ (ff.1 htab.2.1) ?_;have b5:=xa h.bv hi;have b1:=h.hold i hi;obtain⟨hx,b2,b3,b4⟩:=hs.at hi;have hst:=h.bv.cJ;have b6:b.cJ*((aR s i).m-hold b m i)<=100000000000:=by
  rcases fk (hold b m i) (aR s i).m with hh | hh
  .have:=iE (a:=b.cJ) (b:=(aR s i).m-hold b m i) (A:=100000) (B:=1000000) (by omega) hst.2 (by omega) (by omega);omega
  .have:=iE (a:=b.cJ) (b:=hold b m i-(aR s i).m) (A:=100000) (B:=1000000) (by omega) hst.2 (by omega) (by omega);have e:b.cJ*((aR s i).m-hold b m i) = - (b.cJ*(hold b m i-(aR s i).m)):=by rw[<- Int.mul_neg];congr 1;omega
   omega
 have b7:down (b.cJ*((aR s i).m-hold b m i)) (hold b m i)<=100000000000:=by
  unfold down;have:=Int.ediv_le_self (b:=hold b m i) (a:=b.cJ*((aR s i).m-hold b m i));rcases fk 0 (b.cJ*((aR s i).m-hold b m i))with hh | hh
  .have:=this hh;omega
  .have:=Int.ediv_le_of_le_mul (b:=0) (show 0<hold b m i by omega) (by omega:b.cJ*((aR s i).m-hold b m i)<=0*hold b m i);omega
 omega
theorem yK{O:cn}{c c':cb}(hc:c=c'){e:Env}{J:SK}{Q:aw.Exit->Env->SK->Prop}:WC O c e J Q .mk .mk=WC O c' e J Q .mk .mk:=by subst hc;rfl
def Wi(b:b9)(m:ck)(s:List aD.aF)(L:Nat):xd :=
 {state:=0,xC:=none,env:=[(2,.bq (bM b m)),(3,.bq [lF s aF.enc]),(4,.undef),(5,.ref L 3 0 0),(6,.ref L 4 0 0)],params:=[18],BY:=fY,body:=dC }
def WG(A B:aw.aF)(b:b9)(m:ck)(s:List aD.aF)(J:SK)(es:List ((Nat×Nat)×aD.aF)):SK :=
 [A,B,.cells 0 (G3 es),.cells 0 [.jg J.length 2],.cells 0 [lF (bf b m s) aQ],.loop (Wi b m s J.length)]::J
theorem aeW{A B:aw.aF}{b:b9}{m:ck}{s:List aD.aF}(h:Fv b m)(hs:Sv b s)(es:List ((Nat×Nat)×aD.aF))(l:Nat×Nat)(h1:l.1<b.n)(h2:l.2<b.n):
  di T (.round J.length 5 [.agg [iI l.1,iI l.2]] ([]::WG A B b m s J es))=some (.val (.bool true) ([]::WG A B b m s J (kn b m s (bf b m s) es l))):=by
 have hn:=h.bv.n;have hl:=hs.len;have hp1:(bf b m s)[l.1]?=some (dE b m s l.1):=by simp[bf,hl,h1]
 have hp2:(bf b m s)[l.2]?=some (dE b m s l.2):=by simp[bf,hl,h2]
 have a1:=gi hp1;have a2:=gi hp2;have hpl:(bf b m s).length=b.n:=by rw[OT,hl]
 have bp1:=H3 h hs h1;have bp2:=H3 h hs h2;have bw1:=xa h.bv h1;have bw2:=xa h.bv h2;have cw1:=λJ=>KL (J:=J) (m:=m) h.bv h1
 have cw2:=λJ=>KL (J:=J) (m:=m) h.bv h2
 have co1:=λJ=>XB (J:=J) h.toMv h1
 have co2:=λJ=>XB (J:=J) h.toMv h2
 have bo1:=h.Ak l.1 h1;have bo2:=h.Ak l.2 h2;obtain⟨x1,m1,m2,m3⟩:=hs.at h1;obtain⟨y1,n1,n2,n3⟩:=hs.at h2;have f1:=bx (f:=aF.enc) (w:=3) x1;have f2:=bx (f:=aF.enc) (w:=3) y1;have w1:=bV (n:=dE b m s l.1-weight b l.1);have w2:=bV (n:=dE b m s l.1-weight b l.1-dE b m s l.2);have w3:=bV (n:=dE b m s l.1-weight b l.1-dE b m s l.2+weight b l.2);have⟨hL1,hL2⟩:l.1<s.length/\l.2<s.length:=by omega
 have hE:kn b m s (bf b m s) es l=kn b m s (bf b m s) es l:=rfl
 conv at hE=>rhs;unfold kn C7
 simp only[hp1,hp2,fm]at hE;generalize kn b m s (bf b m s) es l=es' at *
 have⟨hmin,hmin'⟩:(0<=min (Ak b m l.2) (Ak b m l.1)/\min (Ak b m l.2) (Ak b m l.1)<=1000)/\(0<=min (Ak b m l.1) (Ak b m l.2)/\min (Ak b m l.1) (Ak b m l.2)<=1000):=by omega
 generalize hw1:weight b l.1=W1 at *
 generalize hw2:weight b l.2=W2 at *
 generalize hq1:dE b m s l.1=P1 at *
 generalize hq2:dE b m s l.2=P2 at *
 generalize hD:P1-W1-P2+W2=d at *
 refine H7 (lp:=Wi b m s J.length) (by simp[WG]) rfl ?_;rw[show(Wi b m s J.length).BY=fY from rfl,fY.eq_1,show(Wi b m s J.length).body=dC from rfl];by_cases hd:d<0
 .simp only[hd,if_true]at hE;have b3:=iE hmin.1 hmin.2 (show 0 <= -d by omega) (show -d<=1000000000000 by omega);have w4:=bV (n := -d);have d1:=aN (b:=1000) b3.1;have d2:=aN (b:=8) (show 0<=(aR s l.2).m by omega);generalize hX:min (Ak b m l.2) (Ak b m l.1) * -d=X at *
  have w5:=bV (n:=X);generalize hY:X.tdiv 1000=Y at *
  generalize hZ:(aR s l.2).m.tdiv 8=Z at *
  have w6:=bV (n:=Y) (by rw[d1];omega);have w7:=bV (n:=Z) (by rw[d2];omega);by_cases hq:0<min Y Z
  .have hO:=λJ=>XC (J:=J) (q:=min Y Z) n1 n2 n3 ⟨by omega,by rw[d2];omega⟩
   have hP:=λS h=>Zt (S:=S) (l:=J.length) (i:=2) (es:=es) (k:=(l.2,l.1)) (o:=(aR s l.2).out (min Y Z)) h
   rw[if_pos hq]at hE;simp only at hE;subst hE;generalize (aR s l.2).out (min Y Z)=O at *
   simp only[aF.enc]at hO;simp only[aF.enc,kyL]at hP;simp[yK dC.eq_1,Wi,WG,Q9,hpl,h1,h2,a1,a2,cw1,cw2,w1,w2,w3,hD,hd,co1,co2,hL2,f2,w4,w5,w6,w7,hX,hY,hZ,hq,hO,hP]
  .rw[if_neg hq]at hE;simp only at hE;subst hE;simp[yK dC.eq_1,Wi,WG,Q9,hpl,h1,h2,a1,a2,cw1,cw2,w1,w2,w3,hD,hd,co1,co2,hL2,f2,w4,w5,w6,w7,hX,hY,hZ,hq]
 .simp only[hd,if_false]at hE;have b3:=iE hmin'.1 hmin'.2 (show 0<=d by omega) (show d<=1000000000000 by omega);have w4:=bV (n:=d);have d1:=aN (b:=1000) b3.1;have d2:=aN (b:=8) (show 0<=(aR s l.1).m by omega);generalize hX:min (Ak b m l.1) (Ak b m l.2)*d=X at *
  have w5:=bV (n:=X);generalize hY:X.tdiv 1000=Y at *
  generalize hZ:(aR s l.1).m.tdiv 8=Z at *
  have w6:=bV (n:=Y) (by rw[d1];omega);have w7:=bV (n:=Z) (by rw[d2];omega);by_cases hq:0<min Y Z
  .have hO:=λJ=>XC (J:=J) (q:=min Y Z) m1 m2 m3 ⟨by omega,by rw[d2];omega⟩
   have hP:=λS h=>Zt (S:=S) (l:=J.length) (i:=2) (es:=es) (k:=l) (o:=(aR s l.1).out (min Y Z)) h
   rw[if_pos hq]at hE;simp only at hE;subst hE;generalize (aR s l.1).out (min Y Z)=O at *
   simp only[aF.enc]at hO;simp only[aF.enc,kyL]at hP;simp[yK dC.eq_1,Wi,WG,Q9,hpl,h1,h2,a1,a2,cw1,cw2,w1,w2,w3,hD,hd,co1,co2,hL1,f1,w5,w6,w7,hX,hY,hZ,hq,hO,hP]
  .rw[if_neg hq]at hE;simp only at hE;subst hE;simp[yK dC.eq_1,Wi,WG,Q9,hpl,h1,h2,a1,a2,cw1,cw2,w1,w2,w3,hD,hd,co1,co2,hL1,f1,w5,w6,w7,hX,hY,hZ,hq]
theorem aaP{A B:aw.aF}{b:b9}{m:ck}{s:List aD.aF}(h:Fv b m)(hs:Sv b s):∃X Y Z:aw.aF,
  di T (.call true 333 [.agg (bM b m),lF s aF.enc] ([A,B]::J))=some (.val (.jg J.length 2) ([A,B,.cells 0 (G3 (sK b m s)),X,Y,Z]::J)):=by
 refine⟨.cells 0 [.jg J.length 2],.cells 0 [lF (bf b m s) aQ],.loop {Wi b m s J.length with state:=3 },?_⟩;refine mh rfl rfl rfl ?_;have hp:=λJ hJ=>PN (J:=J) h hs hJ
 have hl:=Xw (b:=b) h.bv (lv:=J.length) (j:=5) (N:=J.length+1) (St:=λpre=>WG A B b m s J (pre.foldl (kn b m s (bf b m s)) [])) (λpre=>by simp[WG])
  (λpre l h1 h2 _=>by rw[List.foldl_append];exact aeW h hs _ l h1 h2)
 have hm:DY ([A,B]::J) .make []=some (.jg J.length 2,[A,B,.cells 0 (G3 [])]::J):=by simp[DY,G3]
 simp[hp,aaT,hm];refine Kd (d:=.cS []) (J2:=WG A B b m s J (sK b m s)) (lp:=Wi b m s J.length) (by simp;exact⟨rfl,rfl,rfl⟩) ?_ (by simp[WG]) (by simp[Wi]) ?_
 .simpa[Wi,WG,sK]using hl
 .simp[Wi,WG]
end
section
open Go Go.aw Go.aD
def CM(N:Int)(s:List aD.aF):Prop:=∀x∈s,sm x N
theorem dt{x:aD.aF}{N M:Int}(h:sm x N)(hN:N<=M):sm x M:=by
 obtain⟨h1,h2,h3⟩:=h;exact⟨⟨by omega,by omega⟩,⟨by omega,by omega⟩,⟨by omega,by omega⟩⟩
theorem CY{N:Int}{s:List aD.aF}(h:CM N s){i:Nat}(hi:i<s.length):s[i]?=some (aR s i)/\sm (aR s i) N:=by
 have h2:s[i]?=some (aR s i):=by simp[aR,hi]
 exact⟨h2,h _ (ah h2)⟩
theorem HX{s:List aD.aF}{i:Nat}{o:aD.aF}{sign:Int}:(ct s i o sign).length=s.length:=by simp[ct]
theorem pa{N M:Int}{s:List aD.aF}(h:CM N s){i:Nat}{o:aD.aF}{sign:Int}(ho:sm o M)(hs:sign=1\/sign = -1)(hM:0<=M):CM (N+M) (ct s i o sign):=by
 intro x hx;unfold ct at hx;by_cases hi:i<s.length
 .rcases List.mem_or_eq_of_mem_set hx with hx | rfl
  .exact dt (h x hx) (by omega)
  .obtain⟨a1,a2,a3⟩:=(CY h hi).2;obtain⟨b1,b2,b3⟩:=ho;rcases hs with rfl | rfl
   .exact⟨⟨by simp only[aD.aF.move];omega,by simp only[aD.aF.move];omega⟩,⟨by simp only[aD.aF.move];omega,by simp only[aD.aF.move];omega⟩,⟨by simp only[aD.aF.move];omega,by simp only[aD.aF.move];omega⟩⟩
   .exact⟨⟨by simp only[aD.aF.move];omega,by simp only[aD.aF.move];omega⟩,⟨by simp only[aD.aF.move];omega,by simp only[aD.aF.move];omega⟩,⟨by simp only[aD.aF.move];omega,by simp only[aD.aF.move];omega⟩⟩
 .rw[List.set_eq_of_length_le (by omega)]at hx;exact dt (h x hx) (by omega)
theorem Fq{s:List aD.aF}{i j:Nat}{o p:aD.aF}{a c:Int}:ct (ct s i o a) j p c=ct (ct s j p c) i o a:=by
 by_cases hij:i=j
 .subst hij;by_cases hi:i<s.length
  .simp only[ct,aR,List.getElem?_set_self hi,fm,List.set_set,aD.aF.move];congr 2<;>omega
  .simp only[ct,List.set_eq_of_length_le (show s.length<=i by omega)]
 .have hji:¬j=i:=λh=>hij h.symm
  simp only[ct,aR,List.getElem?_set_ne hij,List.getElem?_set_ne hji];rw[List.set_comm _ _ hij]
theorem V5{s:List aD.aF}{e f:(Nat×Nat)×aD.aF}:cH (cH s e) f=cH (cH s f) e:=by
 unfold cH;rw[Fq (i:=e.1.2) (j:=f.1.1),Fq (i:=e.1.1) (j:=f.1.1),Fq (i:=e.1.2) (j:=f.1.2),Fq (i:=e.1.1) (j:=f.1.2)]
theorem QD{s:List aD.aF}{e:(Nat×Nat)×aD.aF}:(cH s e).length=s.length:=by simp[cH,HX]
def MJ(es:List ((Nat×Nat)×aD.aF))(s:List aD.aF)(j:Nat):List aD.aF:=match es[j]? with | some e=>cH s e | none=>s
theorem aaf{es:List ((Nat×Nat)×aD.aF)}{s:List aD.aF}{i j:Nat}:MJ es (MJ es s i) j=MJ es (MJ es s j) i:=by
 unfold MJ;cases es[i]? <;> cases es[j]? <;> simp[V5]
theorem acU{es:List ((Nat×Nat)×aD.aF)}{s:List aD.aF}{j:Nat}:(MJ es s j).length=s.length:=by
 unfold MJ;split<;>simp[QD]
theorem NS:∀(es:List ((Nat×Nat)×aD.aF)) (s:List aD.aF) (n:Nat),n<=es.length->(List.range n).foldl (MJ es) s=(es.take n).foldl cH s
 |es,s,0,_=>by simp
 |es,s,n+1,h=>by
  obtain⟨e,he⟩:∃e,es[n]?=some e:=gE (by omega);rw[List.range_succ,List.foldl_append,NS es s n (by omega),List.take_add_one,he,List.foldl_append];simp[MJ,he]
theorem acT{es:List ((Nat×Nat)×aD.aF)}{s:List aD.aF}{js:List Nat}(hd:js.Nodup)(hm:∀j,j∈js↔j<es.length):js.foldl (MJ es) s=es.foldl cH s:=by
 have hp:js.Perm (List.range es.length):=(List.perm_ext_iff_of_nodup hd List.nodup_range).2 λa=>by simp[hm]
 rw[hp.foldl_eq' (λx _ y _ z=>aaf),NS es s es.length (aO _),aW (aO _)]
theorem Wh{b:b9}:(zN b).length<=3*b.n:=by
 have key:∀l:List Nat,(fM l (vY b)).length<=3*l.length:=by
  intro l;induction l with
  |nil=>simp
  |cons i l ih =>
   rw[cT,aP,aB];have:(vY b i).length<=3:=by
    unfold vY;simp only[aP];split<;>split<;>split<;>simp
   omega
 have:=key (List.range b.n);rw[List.length_range]at this;exact this
theorem Q6{b:b9}(h:Bv b){l:Nat×Nat}(hl:l∈zN b):l.1<b.n/\l.2<b.n:=by
 obtain⟨hnn,X1,Y1⟩:=h.nat;obtain⟨i,hi,hh⟩:=IU.1 hl;have h1:i<b.n:=by simpa using hi
 unfold vY at hh;simp only[aU]at hh;rcases hh with hh | hh | hh
 .split at hh
  .rename_i hc;simp at hh;subst hh;exact⟨h1,adC (W:=b.f.y.toNat*b.f.z.toNat) (by rw[hnn,Nat.mul_assoc]) h1 hc⟩
  .cases hh
 .split at hh
  .rename_i hc;simp at hh;subst hh;exact⟨h1,link2 (Z:=b.f.z.toNat) X1 Y1 hnn h1 hc⟩
  .cases hh
 .split at hh
  .rename_i hc;simp at hh;subst hh;exact⟨h1,hc⟩
  .cases hh
def WT(b:b9)(e:(Nat×Nat)×aD.aF):Prop:=(e.1.1<b.n/\e.1.2<b.n)/\sm e.2 1000000000000
theorem OR{x:aD.aF}{q:Int}(hm:1<=x.m/\x.m<=1000000)(hh:0<=x.h/\x.h<=10000000000)(hk:0<=x.k/\x.k<=1000000000000)(hq:0<=q/\q<=x.m):sm (x.out q) 1000000000000:=by
 have b3:=JQ hm.1 hh hq;have b4:=JQ hm.1 hk hq;exact⟨⟨by simp only[aD.aF.out];omega,by simp only[aD.aF.out];omega⟩,⟨by simp only[aD.aF.out];omega,by simp only[aD.aF.out];omega⟩,⟨by simp only[aD.aF.out];omega,by simp only[aD.aF.out];omega⟩⟩
theorem V3{b:b9}{m:ck}{s:List aD.aF}(hs:Sv b s){p:List Int}{l:Nat×Nat}(h1:l.1<b.n)(h2:l.2<b.n){e:(Nat×Nat)×aD.aF}(he:C7 b m s p l=some e):WT b e:=by
 unfold C7 at he;simp only at he;generalize hd:(p[l.1]?).getD 0-weight b l.1-(p[l.2]?).getD 0+weight b l.2=d at he;generalize hl':(if d<0 then(l.2,l.1)else l)=l' at he;generalize hd':(if d<0 then -d else d)=d' at he;have hll:l'.1<b.n/\l'.2<b.n:=by
  rw[<- hl'];split<;>exact⟨by assumption,by assumption⟩
 obtain⟨_,m1,m2,m3⟩:=hs.at hll.1;split at he
 .rename_i hq;simp only[ae]at he;subst he;have d2:=aN (b:=8) (show 0<=(aR s l'.1).m by omega);exact⟨hll,OR m1 m2 m3 ⟨by omega,by rw[d2];omega⟩⟩
 .cases he
theorem acy{b:b9}{es:List ((Nat×Nat)×aD.aF)}{k:Nat×Nat}{o:aD.aF}(h:∀e∈es,WT b e)(ho:WT b (k,o)):(∀e∈S8 es k o,WT b e)/\(S8 es k o).length<=es.length+1:=by
 unfold S8;split
 .constructor
  .intro e he;rcases List.mem_or_eq_of_mem_set he with he | rfl
   .exact h e he
   .exact ho
  .simp
 .constructor
  .intro e he;rcases aU.1 he with he | he
   .exact h e he
   .simp at he;subst he;exact ho
  .simp
theorem QE{b:b9}{m:ck}{s:List aD.aF}(h:Bv b)(hs:Sv b s):(∀e∈sK b m s,WT b e)/\(sK b m s).length<=192:=by
 have key:∀(ls:List (Nat×Nat)) (es:List ((Nat×Nat)×aD.aF)),(∀l∈ls,l.1<b.n/\l.2<b.n)->(∀e∈es,WT b e)->(∀e∈ls.foldl (kn b m s (bf b m s)) es,WT b e)/\(ls.foldl (kn b m s (bf b m s)) es).length<=es.length+ls.length:=by
  intro ls;induction ls with
  |nil=>intro es _ h;exact⟨h,by simp⟩
  |cons l ls ih =>
   intro es hl he;have hl0:=hl l (by simp);simp only[List.foldl_cons];have h1:(∀e∈kn b m s (bf b m s) es l,WT b e)/\(kn b m s (bf b m s) es l).length<=es.length+1:=by
    unfold kn;split
    .rename_i e hfe;exact acy he (V3 hs hl0.1 hl0.2 hfe)
    .exact⟨he,by omega⟩
   obtain⟨h2,h3⟩:=ih _ (λl hh=>hl l (by simp[hh])) h1.1;exact⟨h2,by simp only[aB];omega⟩
 obtain⟨h1,h2⟩:=key (zN b) [] (λl hl=>Q6 h hl) (by simp);have:=@Wh b;have hn:=h.n;exact⟨h1,by simp only[bd]at h2;unfold sK;omega⟩
theorem QC{b:b9}{N:Int}{s:List aD.aF}{e:(Nat×Nat)×aD.aF}(h:CM N s)(he:WT b e):CM (N+2000000000000) (cH s e):=by
 have h1:=pa (i:=e.1.1) (sign := -1) h he.2 (.inr rfl) (by omega);have h2:=pa (i:=e.1.2) (sign:=1) h1 he.2 (.inl rfl) (by omega);unfold cH;rw[show N+2000000000000=N+1000000000000+1000000000000 by omega];exact h2
theorem Vd{b:b9}{es:List ((Nat×Nat)×aD.aF)}(hes:∀e∈es,WT b e):∀(js:List Nat) (s:List aD.aF) (N:Int),CM N s->CM (N+2000000000000*js.length) (js.foldr (λj s=>MJ es s j) s)
 |[],s,N,h=>by simpa using h
 |j::js,s,N,h=>by
  have ih:=Vd hes js s N h;simp only[List.foldr_cons,aB];generalize js.foldr (λj s=>MJ es s j) s=s1 at *
  unfold MJ;split
  .rename_i e he;have:=QC ih (hes e (ah he));intro x hx;exact dt (this x hx) (by push_cast;omega)
  .intro x hx;exact dt (ih x hx) (by push_cast;omega)
theorem Sv.CM{b:b9}{s:List aD.aF}(h:Sv b s):CM 1000000000000 s:=by
 intro x hx;obtain⟨h1,h2,h3⟩:=aF.OO.1 (h.ok x hx);exact⟨⟨by omega,by omega⟩,⟨by omega,by omega⟩,⟨by omega,by omega⟩⟩
end
end Go.Proofs.YtpapbbojmclkgaaGreatDoor
namespace Go.aw
open Go
variable {T:CL}
theorem z8{F:List aF}:∀{J:SK} {lv:Nat},eK J lv=some F->lv<J.length
 |[],lv,h=>by simp[eK]at h
 |s::J,lv,h=>by
  simp only[eK]at h;split at h
  .rename_i h1;simp;omega
  .have:=z8 h;simp;omega
section
variable {α:Type} {w:Nat} {enc:α->List D} (hw:∀x,(enc x).length=w) {p:α->Bool} {fv:D} {l:List α} {lv bi v:Nat} {F:List aF}
include hw in
theorem LB(hF:F[bi]?=some (.cells v (fM l enc)))(hl:l.length<=9223372036854775807)(ht:om T fv (λx => .agg (enc x)) p l){J:SK}(hs:eK J lv=some F):∀(m i:Nat),i+m=l.length ->
  WL T [0,1,7,8] false (Lz true w) [(0,.sl lv bi v 0 l.length w),(1,fv),(7,iI l.length),(8,iI i)] J
   (λx e J'=>J'=J/\if idxOf p (l.drop i)<0 then x=.exit 0 else x=.ret/\get e 4=iI (i+idxOf p (l.drop i)))
 |0,i,hi=>by
  obtain⟨h1,h2,h3⟩:=ht;refine Am (Lz.eq_1 _ _) ?_;have:¬i<l.length:=by omega
  have h5:l.drop i=[]:=by simp;omega
  simp[this,h2,h5,idxOf]
 |m+1,i,hi=>by
  have ih:=LB hF hl ht hs m (i+1) (by omega);obtain⟨h1,h2,h3⟩:=ht;refine Am (Lz.eq_1 _ _) ?_;have h4:i<l.length:=by omega
  obtain⟨x,hx⟩:=gE h4;have h5:=mM (f:=enc) hw hx;have h6:=h3 x (ah hx) J;have h7:=cj h4 hl;have h8:l.drop i=x::l.drop (i+1):=bj hx;have e1:∀r:List D,(enc x++r).take w=enc x:=λr=>by rw[<- hw x];simp
  have e2:∀r:Nat,w<=(enc x).length+r:=λr=>by rw[hw];omega
  cases hp:p x
  .rw[hp]at h6;simp[h4,h1,h2,h5,h6,h7,hs,hF,e1,e2];refine WL.mono (by simpa using ih) ?_;rintro x e J' ⟨h9,h10⟩;refine⟨h9,?_⟩;rw[h8];simp only[idxOf,hp,aC,if_false];by_cases h11:idxOf p (l.drop (i+1))<0
   .simpa[h11]using h10
   .rw[if_neg h11]at h10;rw[if_neg h11,if_neg (by omega)];refine⟨h10.1,?_⟩;rw[h10.2];congr 1;push_cast;omega
  .rw[hp]at h6;simp[h4,h1,h2,h5,h6,hs,hF,e1,e2,h8,idxOf,hp]
include hw in
theorem LC{f:Nat}(hT:T f=some (uO true w))(hF:F[bi]?=some (.cells v (fM l enc)))(hl:l.length<=9223372036854775807)(ht:om T fv (λx => .agg (enc x)) p l){J:SK}(hs:eK J lv=some F):
  di T (.call false f [.sl lv bi v 0 l.length w,fv] J)=some (.val (iI (idxOf p l)) J):=by
 refine mX hT (uO.eq_1 _ _) rfl ?_;have hlt:=z8 hs;have h:=LB hw hF hl ht (lv:=lv) (F:=F) (J:=[]::J) (by simp[eK,hs,show ¬J.length=lv by omega]) l.length 0 (by simp);obtain⟨h1,h2,h3⟩:=ht;simp[h2];refine WL.mono (by simpa using h) ?_;rintro x e J' ⟨rfl,h10⟩
 try simp only[az]at h10
 by_cases h11:idxOf p l<0
 .rw[if_pos h11]at h10;subst h10;have:idxOf p l = -1:=by
   cases l with
   |nil=>rfl
   |cons a l =>
    simp only[idxOf]at h11 ⊢;split at h11<;>rename_i ha
    .omega
    .rw[if_neg ha];split at h11<;>rename_i hb
     .rw[if_pos hb]
     .omega
  simp[this]
 .rw[if_neg h11]at h10;obtain⟨rfl,h12⟩:=h10
  try simp at h12
  simp[h12]
include hw in
theorem FT{f i:Nat}(hT:T f=some (iL i))(hi:T i=some (uO true w))(hF:F[bi]?=some (.cells v (fM l enc)))(hl:l.length<=9223372036854775807)(ht:om T fv (λx => .agg (enc x)) p l){J:SK}(hs:eK J lv=some F):
  di T (.call false f [.sl lv bi v 0 l.length w,fv] J)=some (.val (.bool (lN l p)) J):=by
 refine mX hT (iL.eq_1 _) rfl ?_;have hlt:=z8 hs;have h:=LC hw hi hF hl ht (lv:=lv) (F:=F) (J:=[]::J) (by simp[eK,hs,show ¬J.length=lv by omega]);obtain⟨h1,h2,h3⟩:=ht;have h4:decide (0<=idxOf p l)=lN l p:=by
  unfold lN;have h6:=IP (p:=p) (l:=l);cases h5:l.any p
  .have:=h6.2 h5;exact decide_eq_false (by omega)
  .exact decide_eq_true (by
    have:¬idxOf p l<0:=λh=>by rw[h6.1 h]at h5;cases h5
    omega)
 simp[h1,h2,h,h4]
include hw in
theorem K1{f g h i:Nat}(hf:T f=some (G7 g h))(hg:T g=some (Bq true w))(hh:T h=some (iL i))(hi:T i=some (uO true w))
  (hF:F[bi]?=some (.cells v (fM l enc))) (hl:l.length<=9223372036854775807) (ht:om T fv (λx => .agg (enc x)) p l) (hcl:fv.cells=some [fv]) {J:SK} (hs:eK J lv=some F):
  di T (.call false f [.sl lv bi v 0 l.length w,fv] J)=some (.val (.bool (dz l p)) J):=by
 refine mX hf (G7.eq_1 _ _) rfl ?_;have hlt:=z8 hs;have h:=FT hw hh hi hF hl (Uo (yR w enc hw) hg ht) (lv:=lv) (F:=F) (J:=[]::J) (by simp[eK,hs,show ¬J.length=lv by omega]);obtain⟨h1,h2,h3⟩:=ht;have h4:(lN l λx => !p x) = !dz l p:=by
  unfold lN dz;rw[List.all_eq_not_any_not,Bool.not_not]
 simp[h1,h,h4,hcl]
end
end Go.aw
namespace Go.Proofs.YtpapbbojmclkgaaGreatDoor
open Go Go.aw Go.aD
variable {J:SK}
theorem VJ{b:b9}{m:ck}{s:List aD.aF}(h:Bv b){lv bi v:Nat}{F:List aw.aF}(hF:F[bi]?=some (.cells v (fM s aF.enc)))(hs:eK J lv=some F)(hl:s.length=b.n):
  Cl 338 [.agg (bM b m),.sl lv bi v 0 s.length 3] (.bool (pH b s)) J:=by
 refine an ?_;have hlt:=z8 hs;have hz:=h.sz;have hn:=h.n;have hsz:=λJ=>B0 (J:=J) h
 have ha:=K1 (T:=T) (w:=3) (enc:=aF.enc) (λ_=>rfl) (f:=362) (g:=371) (h:=370) (i:=372) (l:=s) (p:=aD.aF.valid) (fv:=.fn 363 [] []) rfl rfl rfl rfl hF (by omega) (om.fn λx _ J=>Sa) rfl (lv:=lv) (F:=F) (J:=[]::J) (by simp[eK,hs,show ¬J.length=lv by omega]);unfold pH;have hc3:((b.n:Nat):Int)=b.size:=hz.symm;rw[hl]at ha ⊢;cases hc:dz s aD.aF.valid<;>simp[hsz,ha,hc,hc3]
def jsD(js:List Nat):List D:=js.map λj=>iI (j:Nat)
def WQ(n:Nat)(js:List Nat):List Nat:=(List.range n).filter λj => !(js.contains j)
theorem ab5{js:List Nat}{j:Nat}:iI (j:Nat)∈jsD js↔j∈js:=by
 simp only[jsD,bO];constructor
 .rintro⟨a,h1,h2⟩;simp only[D.int.injEq,true_and]at h2;have:a=j:=by omega
  exact this ▸ h1
 .intro h;exact⟨j,h,rfl⟩
def Ms(b:b9)(m:ck)(s:List aD.aF)(aH:List Int)(L:Nat):Env :=
 [(1,lF s aF.enc),(2,lF aH aQ),(3,.bq (bM b m)),(9,.sl L 1 1 0 s.length 3),(23,.jg L 6)]
def stT(A X Y Z:aw.aF)(J:SK)(es:List ((Nat×Nat)×aD.aF))(s:List aD.aF)(it:aw.aF):SK :=
 [A,.cells 1 (fM s aF.enc),.cells 0 (G3 es),X,Y,Z,it]::J
def itB(L n:Nat)(js:List Nat):aw.aF:=.cells 1 (.jg L 2::iI (n:Nat)::jsD js)
theorem Y8{A X Y Z:aw.aF}{es:List ((Nat×Nat)×aD.aF)}{s:List aD.aF}{js:List Nat}:
  JO (stT A X Y Z J es s (itB J.length es.length js)) J.length 6=some (.jg J.length 2,es.length,jsD js,WQ es.length js):=by
 have hl:(G3 es).length=es.length:=by simp[G3]
 simp[JO,stT,itB,D3,hl,WQ,ab5]
theorem ajU{n:Nat}{js:List Nat}{u:Nat}(hu:u∈WQ n js):(WQ n (u::js)).length<(WQ n js).length:=by
 have e:WQ n (u::js)=(WQ n js).filter λj => !decide (j=u):=by
  unfold WQ;rw[List.filter_filter];congr 1;funext j;simp[Bool.not_or]
 rw[e,List.length_filter_lt_length_iff_exists];exact⟨u,hu,by simp⟩
theorem aeP{b:b9}{m:ck}{s:List aD.aF}{aH:List Int}{A X Y Z:aw.aF}{es:List ((Nat×Nat)×aD.aF)}{r:R}(hs:Sv b s)(hes:∀e∈es,WT b e)(hel:es.length<=192)
  (hr:WC (di T) fq ((25,.bool false)::(24,.undef)::Ms b m s aH J.length) (stT A X Y Z J es (es.foldl cH s) .dead) λx e' J'=>r=.FU x e' J'):
  ∀(k:Nat) (js:List Nat),js.Nodup->(∀j∈js,j<es.length)->(WQ es.length js).length=k ->
   di T (.gX [1,2,3,9,23] (.t 23) 24 25 0 iA fq (Ms b m s aH J.length) (stT A X Y Z J es (js.foldr (λj s=>MJ es s j) s) (itB J.length es.length js)))=some r:=by
 intro k;induction k using Nat.strongRecOn with
 |_ k ih =>
 intro js hd hj hk;by_cases hus:WQ es.length js=[]
 .have hall:∀j,j∈js↔j<es.length:=by
   intro j;refine⟨hj j,λhlt=>?_⟩;have h1:j ∉ WQ es.length js:=by rw[hus];simp
   simpa[WQ,hlt]using h1
  have hfin:js.foldr (λj s=>MJ es s j) s=es.foldl cH s:=by
   rw[<- acT (js:=js.reverse) ((List.reverse_perm js).nodup_iff.2 hd) (λj=>by simp[hall]),List.foldl_reverse]
  rw[hfin];have hit:=Y8 (J:=J) (A:=A) (X:=X) (Y:=Y) (Z:=Z) (es:=es) (s:=es.foldl cH s) (js:=js);rw[hus]at hit;refine Wm iA.eq_1 rfl (by simp[Ms]) hit ?_;simp[stT,Ms,itB]at hr ⊢;exact hr
 .have hit:=Y8 (J:=J) (A:=A) (X:=X) (Y:=Y) (Z:=Z) (es:=es) (s:=js.foldr (λj s=>MJ es s j) s) (js:=js);refine Zr iA.eq_1 rfl (by simp[Ms]) hit hus ?_;intro u hu;have hu2:u<es.length/\u ∉ js:=by simpa[WQ]using hu
  obtain⟨e,he⟩:∃e,es[u]?=some e:=⟨_,aE hu2.1⟩;have hf:=hes e (ah he);have hnext:=ih _ (by rw[<- hk];exact ajU hu) (u::js) (List.nodup_cons.2 ⟨hu2.2,hd⟩) (by intro j hjm;rcases bz.1 hjm with rfl | hjm;exact hu2.1;exact hj j hjm) rfl;have hb:=Vd hes js s 1000000000000 hs.CM;have hjl:js.length<=192:=by
   have h1:js.length<=es.length:=by
    have:=hd.length_le_of_subset (l₂:=List.range es.length) (λj hjm=>by simpa using hj j hjm);simpa using this
   omega
  have hlen:(js.foldr (λj s=>MJ es s j) s).length=b.n:=by
   have:∀js:List Nat,(js.foldr (λj s=>MJ es s j) s).length=s.length:=by
    intro js;induction js with
    |nil=>rfl
    |cons a l ih=>simp only[List.foldr_cons,acU];exact ih
   rw[this,hs.len]
  simp only[List.foldr_cons]at hnext;generalize hs1:js.foldr (λj s=>MJ es s j) s=s1 at *
  have hstp:MJ es s1 u=ct (ct s1 e.1.1 e.2 (-1)) e.1.2 e.2 1:=by simp[MJ,he,cH]
  rw[hstp]at hnext;have hbn:CM 400000000000000 s1:=λx hx=>dt (hb x hx) (by omega)
  have hb1:=pa (i:=e.1.1) (sign := -1) hbn hf.2 (.inr rfl) (by omega);obtain⟨x1,y1⟩:=CY hbn (i:=e.1.1) (by have:=hf.1.1;omega);obtain⟨x2,y2⟩:=CY hb1 (i:=e.1.2) (by rw[HX];have:=hf.1.2;omega);have hM1:∀I,di T (.call false 334 [.ref J.length 1 1 (e.1.1*3),.agg [iI e.2.m,iI e.2.h,iI e.2.k],iI (-1)] ([A,.cells 1 (fM s1 aF.enc),.cells 0 (G3 es),X,Y,Z,I]::J)) =
    some (.val (.cS []) ([A,.cells 1 (fM (ct s1 e.1.1 e.2 (-1)) aF.enc),.cells 0 (G3 es),X,Y,Z,I]::J)) :=
   λI=>KH (F:=[A,.cells 1 (fM s1 aF.enc),.cells 0 (G3 es),X,Y,Z,I]) (j:=1) rfl x1 (dt y1 (by omega)) (dt hf.2 (by omega)) (.inr rfl)
  have hM2:∀I,di T (.call false 334 [.ref J.length 1 1 (e.1.2*3),.agg [iI e.2.m,iI e.2.h,iI e.2.k],iI 1] ([A,.cells 1 (fM (ct s1 e.1.1 e.2 (-1)) aF.enc),.cells 0 (G3 es),X,Y,Z,I]::J)) =
    some (.val (.cS []) ([A,.cells 1 (fM (ct (ct s1 e.1.1 e.2 (-1)) e.1.2 e.2 1) aF.enc),.cells 0 (G3 es),X,Y,Z,I]::J)) :=
   λI=>KH (F:=[A,.cells 1 (fM (ct s1 e.1.1 e.2 (-1)) aF.enc),.cells 0 (G3 es),X,Y,Z,I]) (j:=1) rfl x2 (dt y2 (by omega)) (dt hf.2 (by omega)) (.inl rfl)
  have hfe:(G3 es)[u]?=some (.cS [.agg [iI e.1.1,iI e.1.2],.agg [iI e.2.m,iI e.2.h,iI e.2.k]]):=by simp[G3,he]
  have hfl:(G3 es).length=es.length:=by simp[G3]
  have hE:DY ([A,.cells 1 (fM s1 aF.enc),.cells 0 (G3 es),X,Y,Z,.cells 1 (.jg J.length 2::iI (es.length:Nat)::iI (u:Nat)::jsD js)]::J) .ent [.jg J.length 6] =
    some (.cS [.agg [iI e.1.1,iI e.1.2],.agg [iI e.2.m,iI e.2.h,iI e.2.k]],[A,.cells 1 (fM s1 aF.enc),.cells 0 (G3 es),X,Y,Z,.cells 1 (.jg J.length 2::iI (es.length:Nat)::iI (u:Nat)::jsD js)]::J):=by
   simp[DY,D3,hfl,hfe]
  have hi1:e.1.1<s.length:=by have:=hf.1.1;have:=hs.len;omega
  have hi2:e.1.2<s.length:=by have:=hf.1.2;have:=hs.len;omega
  simp[Ms,stT,itB,hE,hM1,hM2,hi1,hi2];simpa[Ms,stT,itB,jsD]using hnext
theorem Ip{b:b9}(h:Bv b):∀w∈b.ar,(0<=w.b/\w.b<(b.n:Int))/\(0<=w.h/\w.h<=3000)/\(0<=w.m/\w.m<=1000000):=by
 have key:∀(l:List bN) (u:List Int),nE b.size u l=true->∀w∈l,(0<=w.b/\w.b<(b.n:Int))/\(0<=w.h/\w.h<=3000)/\(0<=w.m/\w.m<=1000000):=by
  intro l;induction l with
  |nil=>intro u _ w hw;cases hw
  |cons a l ih =>
   intro u hu w hw;simp only[nE,bN.ok,af]at hu;obtain⟨⟨h1,h2,h3,h4⟩,h5⟩:=hu;rcases bz.1 hw with rfl | hw
   .have hs:=h.sz;have:=aS.1 h1;unfold b9.size at this;exact⟨⟨this.1,by omega⟩,aS.1 h3,aS.1 h4⟩
   .exact ih _ h5 w hw
 exact key _ _ h.ok
theorem mulR{a r A R:Int}(ha:0<=a/\a<=A)(hr : -R<=r/\r<=R) : -(R*A)<=r*a/\r*a<=R*A:=by
 rcases fk 0 r with h | h
 .have:=iE h hr.2 ha.1 ha.2;have h2:=bF (show 0<=R by omega) (show 0<=A by omega);omega
 .have:=iE (a := -r) (A:=R) (by omega) (by omega) ha.1 ha.2;rw[Int.neg_mul]at this;have h2:=bF (show 0<=R by omega) (show 0<=A by omega);omega
theorem Lx{w:bN}{r:Int}(hr : -100000<=r/\r<=100000)(h1:0<=w.h/\w.h<=3000)(h2:0<=w.m/\w.m<=1000000):sm (w.given r) 1000000000000:=by
 have b1:=mulR h1 hr;have b2:=mulR h2 hr;exact⟨⟨by simp only[bN.given];omega,by simp only[bN.given];omega⟩,⟨by simp only[bN.given,Int.neg_mul];omega,by simp only[bN.given,Int.neg_mul];omega⟩,⟨by simp only[bN.given,Int.neg_mul];omega,by simp only[bN.given,Int.neg_mul];omega⟩⟩
theorem SI{b:b9}{m:ck}(h:Fv b m){i:Nat}(hi:i<b.n):sm (JJ b m i) 1000000000000:=by
 have b1:=h.feed i hi;have b2:=h.bv.deep;have b3:=iE b1.1 b1.2 b2.1 b2.2;exact⟨⟨by simp only[JJ];omega,by simp only[JJ];omega⟩,⟨by simp only[JJ];omega,by simp only[JJ];omega⟩,⟨by simp[JJ],by simp[JJ]⟩⟩
def eQ(b:b9)(s s1:List aD.aF)(aH:List Int)(j:Nat):List aD.aF:=((b.ar.zip aH).take j).foldl (λn wr=>lL s n wr.1 wr.2) s1
def lj(b:b9)(m:ck)(s2:List aD.aF)(i:Nat):List aD.aF:=(List.range i).foldl (λn i=>ct n i (JJ b m i) 1) s2
theorem Io{b:b9}{s s1:List aD.aF}{aH:List Int}{j:Nat}{w:bN}{r:Int}(h1:b.ar[j]?=some w)(h2:aH[j]?=some r):eQ b s s1 aH (j+1)=lL s (eQ b s s1 aH j) w r:=by
 have:(b.ar.zip aH)[j]?=some (w,r):=by rw[List.getElem?_zip_eq_some];exact⟨h1,h2⟩
 unfold eQ;rw[List.take_add_one,this,List.foldl_append];rfl
theorem EA{b:b9}{m:ck}{s2:List aD.aF}{i:Nat}:lj b m s2 (i+1)=ct (lj b m s2 i) i (JJ b m i) 1:=by
 unfold lj;rw[List.range_succ,List.foldl_append];rfl
theorem zw{b:b9}{m:ck}{s2:List aD.aF}:∀i,(lj b m s2 i).length=s2.length
 |0=>rfl
 |i+1=>by rw[EA,HX,zw i]
theorem aap{b:b9}{s:List aD.aF}{aH:List Int}{j:Nat}{w:bN}{r:Int}(h1:b.ar[j]?=some w)(h2:aH[j]?=some r):(bP b s aH)[j]?=some (gS s w r):=by
 have:(b.ar.zip aH)[j]?=some (w,r):=by rw[List.getElem?_zip_eq_some];exact⟨h1,h2⟩
 simp[bP,this]
structure Rv(b:b9)(aH:List Int):Prop where
 len:aH.length=b.ar.length
 ok:∀r∈aH,-100000<=r/\r<=100000
theorem Rv.of{b:b9}{aH:List Int}(h:pf b aH=0):Rv b aH:=by
 unfold pf at h;split at h
 .rename_i hl;split at h
  .rename_i ha;exact⟨hl,λr hr=>aS.1 (ff.1 ha r hr)⟩
  .cases h
 .cases h
theorem aci{b:b9}{s next:List aD.aF}(h:Bv b)(hs:Sv b s){aH:List Int}(hr:Rv b aH){j:Nat}{w:bN}{r:Int}(h1:b.ar[j]?=some w)(h2:aH[j]?=some r){N:Int}(hb:CM N next):CM (N+1000000000000) (lL s next w r):=by
 have hw:=Ip h w (ah h1);have hrr:=hr.ok r (ah h2);obtain⟨_,m1,m2,m3⟩:=hs.at (i:=w.b.toNat) (by omega);have d2:=aN (b:=8) (show 0<=(aR s w.b.toNat).m by omega);unfold lL gS;split
 .exact pa hb (Lx hrr hw.2.1 hw.2.2) (.inl rfl) (by omega)
 .exact pa hb (OR m1 m2 m3 ⟨by rw[d2];omega,by rw[d2];omega⟩) (.inr rfl) (by omega)
theorem Pp{s n:List aD.aF}{w:bN}{r:Int}:(lL s n w r).length=n.length:=by
 unfold lL;split<;>simp[HX]
theorem Ae{b:b9}{s s1:List aD.aF}(h:Bv b)(hs:Sv b s){aH:List Int}(hr:Rv b aH)(hb:CM 500000000000000 s1):∀j,j<=aH.length->CM (500000000000000+1000000000000*j) (eQ b s s1 aH j)/\(eQ b s s1 aH j).length=s1.length
 |0,_=>⟨by simpa[eQ]using hb,by simp[eQ]⟩
 |j+1,hj=>by
  obtain⟨r,h2⟩:∃r,aH[j]?=some r:=gE (by omega);obtain⟨w,h1⟩:∃w,b.ar[j]?=some w:=⟨_,aE (by rw[<- hr.len];omega)⟩;obtain⟨ih1,ih2⟩:=Ae h hs hr hb j (by omega);rw[Io h1 h2];have h3:=aci h hs hr h1 h2 ih1;exact⟨λx hx=>dt (h3 x hx) (by push_cast;omega),by rw[Pp,ih2]⟩
theorem Nd{b:b9}{m:ck}{s2:List aD.aF}(h:Fv b m)(hb:CM 600000000000000 s2):∀i,i<=b.n->CM (600000000000000+1000000000000*i) (lj b m s2 i)
 |0,_=>by simpa[lj]using hb
 |i+1,hi=>by
  have ih:=Nd h hb i (by omega);rw[EA];have h3:=pa (i:=i) ih (SI h (i:=i) (by omega)) (.inl rfl) (by omega);exact λx hx=>dt (h3 x hx) (by push_cast;omega)
theorem abI{b:b9}{j:Nat}{w:bN}(h:b.ar[j]?=some w):((fM b.ar bN.enc).drop (j*3)).take 3=[iI w.b,iI w.h,iI w.m] :=
 bx (f:=bN.enc) (w:=3) h
theorem Uf{b:b9}{m:ck}{s s1:List aD.aF}{aH:List Int}{A FL X Y Z W:aw.aF}(h:Fv b m)(hs:Sv b s)(hr:Rv b aH)(hb:CM 500000000000000 s1)(hl1:s1.length=s.length):∀(k j v:Nat),j+k=aH.length ->
  WL T [1,3,9,12,41,42,43] false ng [(1,lF s aF.enc),(3,.bq (bM b m)),(9,.sl J.length 1 1 0 s.length 3),(12,.sl J.length 7 v 0 j 3),(41,lF aH aQ),(42,iI aH.length),(43,iI j)]
   ([A,.cells 1 (fM (eQ b s s1 aH j) aF.enc),FL,X,Y,Z,W,.cells v (fM ((bP b s aH).take j) aF.enc)]::J)
   (λx e J'=>x=.exit 2/\get e 3=.bq (bM b m)/\get e 9=.sl J.length 1 1 0 s.length 3/\get e 12=.sl J.length 7 (v+k) 0 aH.length 3 /\
    J'=[A,.cells 1 (fM (eQ b s s1 aH aH.length) aF.enc),FL,X,Y,Z,W,.cells (v+k) (fM (bP b s aH) aF.enc)]::J)
 |0,j,v,hj=>by
  refine aK ?_;obtain rfl:j=aH.length:=by omega
  have hyl:(bP b s aH).length=aH.length:=by simp[bP,hr.len]
  have h3:(bP b s aH).take aH.length=bP b s aH:=cZ;simp[h3]
 |k+1,j,v,hj=>by
  refine aK ?_;have h1:j<aH.length:=by omega
  have hwl:=h.bv.ar;have hrl:=hr.len;obtain⟨r,hr2⟩:∃r,aH[j]?=some r:=gE (by omega);obtain⟨w,hw1⟩:∃w,b.ar[j]?=some w:=gE (by omega);have hw:=Ip h.bv w (ah hw1);have hrr:=hr.ok r (ah hr2);have hwn:w.b.toNat<b.n:=by omega
  have hlen:=hs.len;obtain⟨x0,m1,m2,m3⟩:=hs.at (i:=w.b.toNat) hwn;obtain⟨ib,il⟩:=Ae h.bv hs hr hb j (by omega);obtain⟨x1,y1⟩:=CY ib (i:=w.b.toNat) (by omega);have h4:=cj h1;have a1:=abI hw1;have a2:=gi hr2;have a3:=bx (f:=aF.enc) (w:=3) x0;have hy:=aap (s:=s) hw1 hr2;have f3:=Cw (f:=aF.enc) hy;have hyl:(bP b s aH).length=aH.length:=by simp[bP,hr.len]
  have f4:=sZ ((bP b s aH).take j);rw[dp,hyl,Nat.min_eq_left (by omega)]at f4;have f6:(fM ((bP b s aH).take j) aF.enc).take (j*3)=fM ((bP b s aH).take j) aF.enc:=cZ;have h7:(j+1)*24<=room:=by unfold room;omega
  have ih:=Uf (A:=A) (FL:=FL) (X:=X) (Y:=Y) (Z:=Z) (W:=W) h hs hr hb hl1 k (j+1) (v+1) (by omega);have hsucc:=Io (s:=s) (s1:=s1) hw1 hr2;have hB0:(0:Int)<=w.b:=hw.1.1;have⟨hB1,hjw⟩:w.b<(s.length:Int)/\j<b.ar.length:=by omega
  have d2:=aN (b:=8) (show 0<=(aR s w.b.toNat).m by omega);by_cases hc:r<0
  .have hg:=λJ=>aaQ (J:=J) hrr hw.2.1 hw.2.2
   have hM:∀V,di T (.call false 334 [.ref J.length 1 1 (w.b.toNat*3),.agg [iI (w.given r).m,iI (w.given r).h,iI (w.given r).k],iI 1] ([A,.cells 1 (fM (eQ b s s1 aH j) aF.enc),FL,X,Y,Z,W,V]::J)) =
     some (.val (.cS []) ([A,.cells 1 (fM (eQ b s s1 aH (j+1)) aF.enc),FL,X,Y,Z,W,V]::J)):=by
    intro V;rw[hsucc,lL,if_pos hc];exact KH (F:=[A,.cells 1 (fM (eQ b s s1 aH j) aF.enc),FL,X,Y,Z,W,V]) (j:=1) rfl x1 (dt y1 (by omega)) (dt (Lx hrr hw.2.1 hw.2.2) (by omega)) (.inl rfl)
   have hwy:gS s w r=⟨0,0,0⟩:=by simp[gS,hc]
   rw[hwy]at f3;simp only[bN.enc,aF.enc]at hg;simp[h1,h4,a1,a2,f4,f6,h7,hB0,hB1,hjw,hc,hg,hM];refine WL.to ih (by simp[]) (by simp[<- f3]) λx e J hh=>by simpa[dO,Nat.add_comm 1 k]using hh
  .have w7:=bV (n:=(aR s w.b.toNat).m.tdiv 8) (by rw[d2];omega);have hO:=λJ=>XC (J:=J) (q:=min r ((aR s w.b.toNat).m.tdiv 8)) m1 m2 m3 ⟨by rw[d2];omega,by rw[d2];omega⟩
   have hos:=OR (q:=min r ((aR s w.b.toNat).m.tdiv 8)) m1 m2 m3 ⟨by rw[d2];omega,by rw[d2];omega⟩;have hwy:gS s w r=(aR s w.b.toNat).out (min r ((aR s w.b.toNat).m.tdiv 8)):=by simp[gS,hc]
   have hsucc':eQ b s s1 aH (j+1)=ct (eQ b s s1 aH j) w.b.toNat ((aR s w.b.toNat).out (min r ((aR s w.b.toNat).m.tdiv 8))) (-1):=by
    rw[hsucc,lL,if_neg hc,hwy]
   rw[hwy]at f3;generalize hQ:min r ((aR s w.b.toNat).m.tdiv 8)=Q at *
   generalize (aR s w.b.toNat).out Q=O at *
   have hM:∀V,di T (.call false 334 [.ref J.length 1 1 (w.b.toNat*3),.agg [iI O.m,iI O.h,iI O.k],iI (-1)] ([A,.cells 1 (fM (eQ b s s1 aH j) aF.enc),FL,X,Y,Z,W,V]::J)) =
     some (.val (.cS []) ([A,.cells 1 (fM (eQ b s s1 aH (j+1)) aF.enc),FL,X,Y,Z,W,V]::J)):=by
    intro V;rw[hsucc'];exact KH (F:=[A,.cells 1 (fM (eQ b s s1 aH j) aF.enc),FL,X,Y,Z,W,V]) (j:=1) rfl x1 (dt y1 (by omega)) (dt hos (by omega)) (.inr rfl)
   simp only[aF.enc]at hO;simp[h1,h4,a1,a2,a3,f4,f6,h7,hB0,hB1,hjw,hc,w7,hQ,hO,hM];refine WL.to ih (by simp[]) (by simp[<- f3]) λx e J hh=>by simpa[dO,Nat.add_comm 1 k]using hh
theorem X7{b:b9}{m:ck}{s2:List aD.aF}{A FL X Y Z W V:aw.aF}{d12:D}(h:Fv b m)(hb:CM 600000000000000 s2)(hl2:s2.length=b.n)(hd:d12.strip=d12/\d12.calm=d12):∀(k i:Nat),i+k=b.n ->
  WL T [3,9,12,93,94] false nh [(3,.bq (bM b m)),(9,.sl J.length 1 1 0 b.n 3),(12,d12),(93,iI b.n),(94,iI i)]
   ([A,.cells 1 (fM (lj b m s2 i) aF.enc),FL,X,Y,Z,W,V]::J)
   (λx e J'=>x=.exit 4/\get e 3=.bq (bM b m)/\get e 9=.sl J.length 1 1 0 b.n 3/\get e 12=d12/\J'=[A,.cells 1 (fM (lj b m s2 b.n) aF.enc),FL,X,Y,Z,W,V]::J)
 |0,i,hi=>by
  refine aK ?_;obtain rfl:i=b.n:=by omega
  simp[hd]
 |k+1,i,hi=>by
  refine aK ?_;have h1:i<b.n:=by omega
  have hn:=h.bv.n;have h4:=cj h1;have hf:=λJ=>ahN (J:=J) h h1
  have ih:=X7 (A:=A) (FL:=FL) (X:=X) (Y:=Y) (Z:=Z) (W:=W) (V:=V) h hb hl2 hd k (i+1) (by omega);have ib:=Nd h hb i (by omega);obtain⟨x1,y1⟩:=CY ib (i:=i) (by rw[zw,hl2];omega);have hM:di T (.call false 334 [.ref J.length 1 1 (i*3),.agg [iI (JJ b m i).m,iI (JJ b m i).h,iI (JJ b m i).k],iI 1] ([A,.cells 1 (fM (lj b m s2 i) aF.enc),FL,X,Y,Z,W,V]::J)) =
    some (.val (.cS []) ([A,.cells 1 (fM (lj b m s2 (i+1)) aF.enc),FL,X,Y,Z,W,V]::J)):=by
   rw[EA];exact KH (F:=[A,.cells 1 (fM (lj b m s2 i) aF.enc),FL,X,Y,Z,W,V]) (j:=1) rfl x1 (dt y1 (by omega)) (dt (SI h h1) (by omega)) (.inl rfl)
  simp only[aF.enc]at hf;simp[h1,h4,hf,hM,hd];refine WL.to ih (by simp[]) rfl λx e J hh=>hh
theorem OK{b:b9}{m:ck}{s:List aD.aF}{aH:List Int}(hr:Rv b aH)(hl:s.length=b.n):lj b m (eQ b s ((sK b m s).foldl cH s) aH aH.length) b.n=lZ b m s aH:=by
 have:(b.ar.zip aH).take aH.length=b.ar.zip aH:=aW (by rw[List.length_zip];omega);simp only[lZ,lj,eQ,this,hl]
theorem Nj{b:b9}{m:ck}{s:List aD.aF}(h:Fv b m)(hs:Sv b s):CM 500000000000000 ((sK b m s).foldl cH s)/\((sK b m s).foldl cH s).length=s.length:=by
 obtain⟨h1,h2⟩:=QE (m:=m) h.bv hs;have key:∀(es:List ((Nat×Nat)×aD.aF)) (s:List aD.aF) (N:Int),(∀e∈es,WT b e)->CM N s->CM (N+2000000000000*es.length) (es.foldl cH s)/\(es.foldl cH s).length=s.length:=by
  intro es;induction es with
  |nil=>intro s N _ h;exact⟨by simpa using h,rfl⟩
  |cons e es ih =>
   intro s N he hb;obtain⟨a1,a2⟩:=ih (cH s e) _ (λx hx=>he x (by simp[hx])) (QC hb (he e (by simp)));simp only[List.foldl_cons,aB];exact⟨λx hx=>dt (a1 x hx) (by push_cast;omega),by rw[a2,QD]⟩
 obtain⟨a1,a2⟩:=key _ s _ h1 hs.CM;exact⟨λx hx=>dt (a1 x hx) (by omega),a2⟩
theorem aev{b:b9}{m:ck}{s s1:List aD.aF}{aH:List Int}{A FL X Y Z W:aw.aF}(h:Fv b m)(hs:Sv b s)(hr:Rv b aH)(hb:CM 500000000000000 s1)(hl1:s1.length=s.length):
  WC (di T) fq ((25,.bool false)::(24,.undef)::Ms b m s aH J.length) ([A,.cells 1 (fM s1 aF.enc),FL,X,Y,Z,W]::J) λx e J' =>
   x=.ret/\J'=[A,.cells 1 (fM (lj b m (eQ b s s1 aH aH.length) b.n) aF.enc),FL,X,Y,Z,W,.cells aH.length (fM (bP b s aH) aF.enc)]::J /\
   (if pH b (lj b m (eQ b s s1 aH aH.length) b.n)=true then get e 6=.sl J.length 1 1 0 b.n 3/\get e 7=.sl J.length 7 aH.length 0 aH.length 3/\get e 8=iI 0
    else get e 6=.bB/\get e 7=.bB/\get e 8=iI 9):=by
 have hl:=hs.len;have hn:=h.bv.n;have hwl:=h.bv.ar;have hrl:=hr.len;obtain⟨wb,wl⟩:=Ae h.bv hs hr hb aH.length (aO _);have fl:=zw (b:=b) (m:=m) (s2:=eQ b s s1 aH aH.length) b.n;rw[yK fq.eq_1];simp[Ms];refine WL.to (Uf (J:=J) (A:=A) (FL:=FL) (X:=X) (Y:=Y) (Z:=Z) (W:=W) h hs hr hb hl1 aH.length 0 0 (by omega)) (by simp[]) (by simp[eQ]) ?_;rintro x e J' ⟨rfl,g3,g9,g12,rfl⟩;rw[hl]at g9;simp[g3,g9,g12];refine WL.to (X7 (J:=J) (A:=A) (FL:=FL) (X:=X) (Y:=Y) (Z:=Z) (W:=W) (V:=.cells (0+aH.length) (fM (bP b s aH) aF.enc)) (d12:=.sl J.length 7 (0+aH.length) 0 aH.length 3) h (λx hx=>dt (wb x hx) (by omega)) (by rw[wl,hl1,hl]) ⟨rfl,rfl⟩ b.n 0 (by omega)) (by simp[]) (by simp[lj]) ?_;rintro x e J' ⟨rfl,g3,g9,g12,rfl⟩;have hS:=VJ (m:=m) (b:=b) (s:=lj b m (eQ b s s1 aH aH.length) b.n) h.bv (lv:=J.length) (bi:=1) (v:=1) (F:=[A,.cells 1 (fM (lj b m (eQ b s s1 aH aH.length) b.n) aF.enc),FL,X,Y,Z,W,.cells (0+aH.length) (fM (bP b s aH) aF.enc)]) (J:=[A,.cells 1 (fM (lj b m (eQ b s s1 aH aH.length) b.n) aF.enc),FL,X,Y,Z,W,.cells (0+aH.length) (fM (bP b s aH) aF.enc)]::J) rfl (by simp[eK]) (by rw[fl,wl,hl1,hl]);rw[show(lj b m (eQ b s s1 aH aH.length) b.n).length=b.n by rw[fl,wl,hl1,hl]]at hS;cases hc:pH b (lj b m (eQ b s s1 aH aH.length) b.n)
 .rw[hc]at hS;simp at hS;simp[g3,g9,g12,hS]
 .rw[hc]at hS;simp at hS;simp[g3,g9,g12,hS]
def aaj(b:b9)(m:ck)(s:List aD.aF)(aH:List Int):D:=match tick b m s aH with
 |some (s',y) => .cS [lF s' aF.enc,lF y aF.enc,.int .i64 0]
 |none => .cS [.bB,.bB,.int .i64 9]
theorem aeE{b:b9}{m:ck}{s:List aD.aF}{aH:List Int}(h:Fv b m)(hs:Sv b s)(hr:Rv b aH)(hJ:J≠[]):
  Cl 303 [.agg (bM b m),lF s aF.enc,lF aH aQ] (aaj b m s aH) J:=by
 refine an ?_;have hl:=hs.len;have hn:=h.bv.n;have hne:s≠[]:=by intro h0;rw[h0]at hl;simp at hl;omega
 have hC:=aaJ (J:=J) (s:=s) (bs:=[]) (by omega) hne;obtain⟨X,Y,Z,hF⟩:=aaP (J:=J) (A:=.cells 0 []) (B:=.cells 1 (fM s aF.enc)) h hs;obtain⟨fb,fl⟩:=Nj h hs;obtain⟨x,e',J',hrun,rfl,rfl,hq⟩:=aev (J:=J) (A:=.cells 0 []) (FL:=.cells 0 (G3 (sK b m s))) (X:=X) (Y:=Y) (Z:=Z) (W:=.dead) h hs hr fb fl;obtain⟨f1,f2⟩:=QE (m:=m) h.bv hs;have hM:=aeP (J:=J) (aH:=aH) (m:=m) (A:=.cells 0 []) (X:=X) (Y:=Y) (Z:=Z) (es:=sK b m s) hs f1 f2 (r:=.FU .ret e' ([.cells 0 [],.cells 1 (fM (lj b m (eQ b s ((sK b m s).foldl cH s) aH aH.length) b.n) aF.enc),.cells 0 (G3 (sK b m s)),X,Y,Z,.dead,.cells aH.length (fM (bP b s aH) aF.enc)]::J)) ⟨_,_,_,hrun,rfl⟩ _ [] List.nodup_nil (by simp) rfl;simp only[aV,bd,cr]at hC;have hG:DY ([.cells 0 [],.cells 1 (fM s aF.enc),.cells 0 (G3 (sK b m s)),X,Y,Z]::J) .rng [.jg J.length 2]=some (.jg J.length 6,[.cells 0 [],.cells 1 (fM s aF.enc),.cells 0 (G3 (sK b m s)),X,Y,Z,itB J.length (sK b m s).length []]::J):=by
  simp[DY,D3,itB,jsD,G3]
 simp[hC,hF,hG];refine⟨_,_,_,by simpa[Ms,stT]using hM,?_⟩;rw[OK hr hl]at hq ⊢;have hnl:(lZ b m s aH).length=b.n:=by
  rw[<- OK hr hl,zw,(Ae h.bv hs hr fb aH.length (aO _)).2,fl,hl]
 have hyl:(bP b s aH).length=aH.length:=by simp[bP,hr.len]
 unfold aaj tick;cases hc:pH b (lZ b m s aH)
 .rw[hc]at hq;simp at hq;obtain⟨g6,g7,g8⟩:=hq;simp[g6,g7,g8]
 .rw[hc]at hq;simp only[if_true]at hq;obtain⟨g6,g7,g8⟩:=hq;simp only[if_true];simp[g6,g7,g8];rw[pw (by simp) (by omega)];simp only[jD,kq];rw[<- hnl,kb (f:=aF.enc) (l:=lZ b m s aH) (by decide) (λ_=>rfl) (λx=>by simp) hJ (by simp)];simp only[List.set_cons_succ,List.set_cons_zero];rw[<- hyl,kb (f:=aF.enc) (l:=bP b s aH) (by decide) (λ_=>rfl) (λx=>by simp) hJ (by simp)];rw[eV (by simp) (by omega)];exact⟨_,rfl⟩
def kM(s:List aD.aF):List D:=[lF s aF.enc]
theorem Kq(l:List (List aD.aF)):(fM l kM).length=l.length:=by
 have:=dF (f:=kM) (w:=1) l;omega
theorem Sv.next{b:b9}{m:ck}{s:List aD.aF}{aH:List Int}(h:Bv b){s' y:List aD.aF}(ht:tick b m s aH=some (s',y)):Sv b s':=by
 unfold tick at ht;split at ht
 .rename_i hc;simp only[ae,ak]at ht;obtain⟨rfl,_⟩:=ht;exact(Sv.of h).1 hc
 .cases ht
theorem O5{n:Nat}(h:n<=1000000):n*24<=room:=by unfold room;omega
theorem adp(l:List (List aD.aF)):D.bh (fM l kM)=true:=fD (λx=>by simp[kM,D.clean,ID]) l
def agr(b:b9)(m:ck)(J:SK)(r:Option (List (List aD.aF)×List (List aD.aF)))(x:aw.Exit)(e:Env)(J':SK):Prop:=match r with
 |some (ss,ys)=>∃v u,x=.exit 0/\get e 4=.own 0 [.sl J.length 2 v 0 ss.length 1,.sl J.length 1 u 0 ys.length 1]/\J'=[.cells 0 [],.cells u (fM ys kM),.cells v (fM ss kM)]::J
 |none=>x=.fy (.ua 428 (.agg []))/\∃bC,J'=bC::J
theorem Yg{b:b9}{m:ck}{av:List (List Int)}(h:Fv b m)(hp:av.length<=200)(hr:∀r∈av,Rv b r):∀(k i v u:Nat) (ss ys:List (List aD.aF)) (s:List aD.aF),i+k=av.length->ss.length=i+1->ys.length=i->ss[i]?=some s->Sv b s ->
  WL T [2,4,14,15,16] false nY [(2,.bq (bM b m)),(4,.own 0 [.sl J.length 2 v 0 (i+1) 1,.sl J.length 1 u 0 i 1]),(14,lF av J3),(15,iI av.length),(16,iI i)]
   ([.cells 0 [],.cells u (fM ys kM),.cells v (fM ss kM)]::J) (agr b m J (nD b m ss ys s (av.drop i)))
 |0,i,v,u,ss,ys,s,hi,h1,h2,h3,hs=>by
  refine aK ?_;obtain rfl:i=av.length:=by omega
  have h5:av.drop av.length=[]:=ec;simp[h5,nD,agr];exact⟨v,u,by simp[h1,h2]⟩
 |k+1,i,v,u,ss,ys,s,hi,h1,h2,h3,hs=>by
  refine aK ?_;have⟨hlt,hii⟩:i<av.length/\(i:Int)<i+1:=by omega
  obtain⟨r,hx⟩:=gE hlt;have h4:=cj hlt;have h5:=bj hx;have a1:=bx (f:=J3) (w:=1) hx;simp only[J3,bR]at a1;have a2:=mM (f:=kM) (w:=1) (λ_=>rfl) h3;simp only[kM,bR,cm]at a2;have hT:=λJ hJ=>aeE (J:=J) h hs (hr r (ah hx)) hJ
  rw[h5,nD];unfold aaj at hT;cases ht:tick b m s r with
  |none =>
   rw[ht]at hT;simp only at hT;simp[hlt,hii,a1,a2,hT,agr]
  |some p =>
   obtain⟨s',y⟩:=p;rw[ht]at hT;simp only at hT;have ih:=Yg h hp hr k (i+1) (v+1) (u+1) (ss++[s']) (ys++[y]) s' (by omega) (by simp[h1]) (by simp[h2]) (by simp[<- h1]) (Sv.next h.bv ht);have l1:=Kq ss;have l2:=Kq ys;rw[h1]at l1;rw[h2]at l2;have f1:(fM ss kM).take (i+1)=fM ss kM:=cZ;have f2:(fM ys kM).take i=fM ys kM:=cZ;have h7:=O5 (n:=i+1) (by omega);have h8:=O5 (n:=i+1+1) (by omega);simp[hlt,hii,h4,a1,a2,hT,f1,f2,l1,l2,h7,h8];exact WL.to ih (by simp) (by simp[kM]) λx e J hh=>hh
theorem TQ{b:b9}{m:ck}{av:List (List Int)}(h:Fv b m)(hp:av.length<=200)(hr:∀r∈av,Rv b r)(hJ:J≠[]){ss ys:List (List aD.aF)}(hrun:aD.run b m av=some (ss,ys)):
  Cl 252 [.agg (bM b m),lF av J3] (.agg [lF ss kM,lF ys kM]) J:=by
 refine an ?_;have hf:=λJ hJ=>It (J:=J) h hJ
 simp only[stE]at hf;simp[hf];refine WL.to (Yg (J:=J) h hp hr av.length 0 0 0 [cf b m] [] (cf b m) (by omega) rfl rfl rfl (Sv.first h)) (by simp) (by simp[kM]) ?_;rw[az,show nD b m [cf b m] [] (cf b m) av=some (ss,ys)from hrun];rintro x e J' ⟨v,u,rfl,g4,rfl⟩;simp[g4];have c1:∀x:List aD.aF,D.bh (kM x)=true:=λx=>by simp[kM,D.clean,ID]
 rw[Fp (by simp) (by omega)];simp only[jD,kq];rw[kb (f:=kM) (w:=1) (l:=ss) (by decide) (λ_=>rfl) c1 hJ (by simp)];simp only[List.set_cons_succ,List.set_cons_zero];rw[kb (f:=kM) (w:=1) (l:=ys) (by decide) (λ_=>rfl) c1 hJ (by simp)];exact⟨_,rfl⟩
theorem TP{b:b9}{m:ck}{av:List (List Int)}(h:Fv b m)(hp:av.length<=200)(hr:∀r∈av,Rv b r)(hrun:aD.run b m av=none):
  di T (.call false 252 [.agg (bM b m),lF av J3] J)=some (.fy (.ua 428 (.agg [])) J):=by
 refine ej rfl rfl rfl ?_;have hf:=λJ hJ=>It (J:=J) h hJ
 simp only[stE]at hf;simp[hf];refine WL.to (Yg (J:=J) h hp hr av.length 0 0 0 [cf b m] [] (cf b m) (by omega) rfl rfl rfl (Sv.first h)) (by simp) (by simp[kM]) ?_;rw[az,show nD b m [cf b m] [] (cf b m) av=none from hrun];rintro x e J' ⟨rfl,bC,rfl⟩;simp[D.clean]
theorem KZ{l i v off:Nat}:di T (.Ar 251 [.ref l i v off] none J)=some (.val (.cS []) J):=by
 refine Ed rfl rfl rfl (by simp[qU];exact⟨rfl,rfl⟩) ?_;simp
theorem Ym{F:List aw.aF}(hF:F=[.cells 0 [iI 0]]):di T (.Ar 251 [.ref J.length 0 0 0] (some (.ua 428 (.agg []))) (F::J))=some (.val (.cS []) ([.cells 0 [iI 9]]::J)):=by
 subst hF;refine Ed rfl rfl rfl (by simp[qU];exact⟨rfl,rfl⟩) ?_;simp
theorem oT{α:Type}{f:α->Int}:∀{l:List α},b8 f l=0->∀x∈l,f x=0
 |[],_,x,hx=>by cases hx
 |a::l,h,x,hx=>by
  simp only[b8]at h;split at h
  .rename_i ha;rcases bz.1 hx with rfl | hx
   .exact ha
   .exact oT h x hx
  .rename_i ha;exact absurd h ha
theorem kG{b:b9}{av:List (List Int)}(h:sM b av=0):av.length<=200/\∀r∈av,Rv b r:=by
 unfold sM at h;split at h
 .cases h
 .exact⟨by omega,λr hr=>Rv.of (oT h r hr)⟩
def kV(b:b9)(m:ck)(av:List (List Int)):Int:=if Bd b m then(if sM b av=0 then(match aD.run b m av with | some _=>0 | none=>9)else sM b av)else 1
def CC(b:b9)(m:ck)(av:List (List Int)):D:=if kV b m av=0 then(match aD.run b m av with | some (ss,ys) => .agg [lF ss kM,lF ys kM] | none => .agg [.bB,.bB])else .agg [.bB,.bB]
theorem W6{b:b9}{m:ck}{av:List (List Int)}{wq:D}(hwq:wq.pO=lF b.ar bN.enc)(h1:b.dX.length<=1000000000)(h2:b.ar.length<=1000000000)(hn:m.name.length<=1000000000)(hl:m.dG.length<=1000000000)(hp:av.length<=1000000000)(hs:∀l∈av,l.length<=1000000000)(hJ:J≠[]):
  Cl 214 [.agg [iI b.f.x,iI b.f.y,iI b.f.z,iI b.f.k,lF b.dX Rw.enc,iI b.cJ,iI b.lift,iI b.deep,wq],.agg (mL m),lF av J3] (.cS [CC b m av,iI (kV b m av)]) J:=by
 have hP:=λJ=>XE (J:=J) (b:=b) hp hs
 cases hb:Bd b m
 .have hE:kV b m av=1:=by simp[kV,hb]
  have hD:CC b m av=.agg [.bB,.bB]:=by simp[CC,hE]
  rw[hD,hE];refine an ?_;obtain⟨d,hB,hd1,hd2⟩:=TK h1 h2 hn hl hb (J:=[.cells 0 [iI 0]]::J);simp[hwq,hB,hd1]
 .have hB:=λJ=>ac9 (J:=J) h1 h2 hn hl hb
  by_cases hq:sM b av=0
  .obtain⟨p1,p2⟩:=kG hq;simp only[Bd,af]at hb;have hf:Fv b m:=Fv.of (by simp[Bd,hb]);have hb':Bd b m=true:=by simp[Bd,hb]
   refine Qo Qf AI.eq_1 rfl rfl ?_;cases hrun:aD.run b m av with
   |none =>
    have hE:kV b m av=9:=by simp[kV,hb',hq,hrun]
    have hD:CC b m av=.agg [.bB,.bB]:=by simp[CC,hE]
    have hR:=λJ=>TP (J:=J) hf p1 p2 hrun
    have hX:xf T (.fn 251 [] []) [.ref J.length 0 0 0] (some (.ua 428 (.agg []))) ([.cells 0 [iI 0]]::J)=some ([.cells 0 [iI 9]]::J):=uT (Ym rfl);rw[hD,hE];simp[toD,hwq,hB,hP,hq];rw[yK tE.eq_1];simp[Qv,hX,hR]
   |some p =>
    obtain⟨ss,ys⟩:=p;have hE:kV b m av=0:=by simp[kV,hb',hq,hrun]
    have hD:CC b m av=.agg [lF ss kM,lF ys kM]:=by simp[CC,hE,hrun]
    have hX:xf T (.fn 251 [] []) [.ref J.length 0 0 0] none ([.cells 0 [iI 0]]::J)=some ([.cells 0 [iI 0]]::J):=uT KZ;have hR:=λJ hJ=>TQ (J:=J) hf p1 p2 hJ hrun
    rw[hD,hE];simp[toD,hwq,hB,hP,hq];rw[yK tE.eq_1];simp[Qv,hX,hR];rw[eV (by simp[D.clean,adp]) (by omega)];exact⟨_,rfl⟩
  .have hE:kV b m av=sM b av:=by simp[kV,hb,hq]
   have hD:CC b m av=.agg [.bB,.bB]:=by simp[CC,hE,hq]
   rw[hD,hE];refine an ?_;simp[hwq,hB,hP,hq]
end Go.Proofs.YtpapbbojmclkgaaGreatDoor
namespace Go.cY
open Go Go.aw Go.aD
def GP(s:List UInt8):Option Int:=if((qX s).1=0/\gW (qX s).2=s)/\bI (qX s).2 (-999999999) 999999999=true then some (qX s).2 else none
def mg:List (List UInt8)->Option (List Int)
 |[]=>some []
 |s::l=>match GP s with
  |some n=>(mg l).map (n :: ·)
  |none=>none
structure Wd where
 named:Bool
 least:Int
 step:Int
 k:Nat
def lM:List (List UInt8×Wd):=[
 ([102,105,101,108,100],⟨false,4,0,0⟩),([116,97,98,108,101],⟨false,0,5,1⟩),([98,101,100],⟨false,3,0,2⟩),([119,101,108,108],⟨false,3,0,3⟩),
 ([109,111,100,101,108],⟨true,0,1,4⟩),([108,111,103],⟨true,3,2,5⟩),([114,117,108,101],⟨false,10,0,6⟩),([107,101,101,112],⟨false,3,0,7⟩),
 ([113,117,97,107,101],⟨false,0,4,8⟩),([116,105,99,107],⟨false,0,1,9⟩),([114,101,97,100],⟨false,4,0,10⟩),([117,110,105,116],⟨false,1,2,11⟩),([115,101,108,108],⟨false,4,0,12⟩)]
def DW(s:List UInt8):List (List UInt8×Wd)->Option Wd
 |[]=>none
 |(k,w)::l=>if s=k then some w else DW s l
def yj(s:List UInt8):Option Wd:=DW s lM
theorem Cu{s:List UInt8}{w:Wd}:∀{l:List (List UInt8×Wd)},DW s l=some w->(s,w)∈l
 |[],h=>by cases h
 |(k,v)::l,h=>by
  simp only[DW]at h;split at h
  .rename_i e;cases h;subst e;simp
  .exact List.mem_cons_of_mem _ (Cu h)
theorem Ir{s:List UInt8}{w:Wd}(h:yj s=some w):0<=w.least/\w.least<=10/\0<=w.step/\w.step<=5/\w.k<13:=by
 have h1:=Cu h;simp only[lM,bz,ak,List.not_mem_nil,or_false]at h1;rcases h1 with⟨_,rfl⟩ | ⟨_,rfl⟩ | ⟨_,rfl⟩ | ⟨_,rfl⟩ | ⟨_,rfl⟩ | ⟨_,rfl⟩ | ⟨_,rfl⟩ | ⟨_,rfl⟩ | ⟨_,rfl⟩ | ⟨_,rfl⟩ | ⟨_,rfl⟩ | ⟨_,rfl⟩ | ⟨_,rfl⟩<;>simp
def GG(w:Wd)(n:Int):Bool:=decide (n-w.least=0) || (decide (0<n-w.least) && (decide (0<w.step) && decide ((n-w.least).tmod w.step=0)))
def qQ(w:Wd)(name:List UInt8)(l:List (List UInt8)):Option (Wd×List UInt8×List Int) :=
 match mg l with
 |some ns=>if GG w ns.length=true then some (w,name,ns)else none
 |none=>none
def parse(s:List UInt8):Option (Wd×List UInt8×List Int) :=
 match dB 32 s with
 |[]=>none
 |a::all=>match yj a with
  |none=>none
  |some w=>if w.named=true then(match all with
   |[]=>none
   |n::r=>qQ w n r)else qQ w [] all
theorem sP(b:UInt8)(s:List UInt8):dB b s≠[]:=by
 cases s with
 |nil=>simp[dB]
 |cons c r =>
  simp only[dB];split
  .simp
  .split<;>simp
theorem DA(b:UInt8):∀s:List UInt8,(dB b s).length<=s.length+1
 |[]=>by simp[dB]
 |c::r=>by
  have:=DA b r;simp only[dB];split
  .simp;omega
  .split
   .rename_i h;rw[h]at this;simp at this ⊢;omega
   .simp
end Go.cY
namespace Go.cY
open Go Go.aw
def bE(b:UInt8):List D:=[.int .u8 b.toNat]
theorem strCells_eq(s:List UInt8):strCells s=fM s bE:=by
 induction s with
 |nil=>rfl
 |cons b s ih=>simp only[strCells,aL,cT,bE,cm]at ih ⊢;rw[ih]
def oE:Nat->List UInt8->Nat
 |n,[]=>n
 |n,c::s=>oE ((31*n+c.toNat)%65521) s
def D8(s:List UInt8):Nat:=oE 1 s
theorem Mg:∀{s:List UInt8} {n:Nat},n<65521->oE n s<65521
 |[],n,h=>h
 |c::s,n,h=>Mg (s:=s) (Nat.mod_lt _ (by omega))
theorem Kt{s:List UInt8}:D8 s<65521:=Mg (by omega)
def DG(n:Nat):UInt8:=UInt8.ofNat n
theorem vO{n:Nat}(h:n<256):(DG n).toNat=n:=by simp[DG];omega
def QU(n:Nat):List UInt8:=[DG (n / 256),DG (n%256),DG (255-n / 256),DG (255-n%256)]
def Ij(s:List UInt8):List UInt8:=[DG (D8 s / 256),DG (D8 s%256)]
def iG(s:List UInt8):List UInt8:=QU s.length++s++Ij s
theorem pg(s:List UInt8):(iG s).length=s.length+6:=by simp[iG,QU,Ij]
def cU(l:List (List UInt8)):List UInt8:=fM l iG
def wX(b:List UInt8):Option (List UInt8×List UInt8) :=
 match b with
 |x::y::r =>
  if 6<=b.length/\x.toNat*256+y.toNat<=4000/\x.toNat*256+y.toNat+6<=b.length then
   (if iG ((b.drop 4).take (x.toNat*256+y.toNat))=b.take (x.toNat*256+y.toNat+6)then some ((b.drop 4).take (x.toNat*256+y.toNat),b.drop (x.toNat*256+y.toNat+6))else none)
  else none
 |_=>none
theorem GZ{b s r:List UInt8}(h:wX b=some (s,r)):b=iG s++r/\s.length<=4000:=by
 unfold wX at h;split at h
 .rename_i x y t;split at h
  .rename_i h1;split at h
   .rename_i h2;cases h;obtain⟨h3,h4,h5⟩:=h1;refine⟨?_,by simp;omega⟩;rw[h2,List.take_append_drop]
   .cases h
  .cases h
 .cases h
theorem Ww{s:List UInt8}:∃x y r,iG s=x::y::r/\(s.length<65536->x.toNat*256+y.toNat=s.length):=by
 refine⟨_,_,_,rfl,λh=>?_⟩;rw[vO (by omega),vO (by omega)];omega
theorem WJ{s r:List UInt8}(h:s.length<=4000):wX (iG s++r)=some (s,r):=by
 obtain⟨x,y,t,he,hn⟩:=Ww (s:=s);have hn:=hn (by omega);have hl:=pg s;have h1:((iG s++r).drop 4).take s.length=s:=by
  have:iG s=QU s.length++(s++Ij s):=by simp[iG]
  rw[this,bX,show(4:Nat)=(QU s.length).length from rfl,List.drop_left,bX,List.take_left]
 have h2:(iG s++r).take (s.length+6)=iG s:=by rw[<- hl,List.take_left]
 have h3:(iG s++r).drop (s.length+6)=r:=by rw[<- hl,List.drop_left]
 have hb:iG s++r=x::y::(t++r):=by rw[he];rfl
 unfold wX;split
 .rename_i x' y' r' hb';rw[hb]at hb';cases hb';rw[hn];have h4:6<=(iG s++r).length/\s.length<=4000/\s.length+6<=(iG s++r).length:=by simp[hl];omega
  rw[if_pos h4,h1,h2,h3,if_pos rfl]
 .rename_i hno;exact absurd hb (hno x y (t++r))
def cI:Nat->List UInt8->List (List UInt8)
 |0,_=>[]
 |n+1,b=>match wX b with
  |some (s,r)=>s::cI n r
  |none=>[]
end Go.cY
namespace Go.Proofs.YtpapbbojmclkgaaGreatDoor
open Go Go.aw Go.aD Go.cY
variable {J:SK}
theorem zR{T:CL}{kp:Bool}{f k:Nat}{args:List D}{J:SK}{r:R}(hT:T f=none)(hN:T (1000000+f)=some ⟨k,[],.exit 0⟩)(h:EU k args J=some r):di T (.call kp f args J)=some r :=
 gJ (by simp[dM,hT,hN,h])
def rf(e:Int):D:=.ua 200 (.agg [iI e])
theorem da{e:Int}:Cl 127 [.bool true,iI e] (.cS []) J:=by
 refine an ?_;simp
theorem dU{e:Int}:di T (.call false 127 [.bool false,iI e] J)=some (.fy (rf e) J):=by
 refine ej rfl rfl rfl ?_;simp[afQ,D.clean,rf]
theorem mW:Cl 200 [iI 0] (.cS []) J:=by
 refine an ?_;simp[da]
theorem oj{e:Int}(h:e≠0):di T (.call false 200 [iI e] J)=some (.fy (rf e) J):=by
 refine ej rfl rfl rfl ?_;have h':(e == 0)=false:=by simpa using h
 simp[dU,h',D.clean,rf]
theorem eU{a b c:Int}:Cl 36 [iI a,iI b,iI c] (.bool (bI a b c)) J:=by
 refine an ?_;by_cases h:b<=a<;>simp[h,bI]
theorem xb{n:Int}(h : -9223372036854775808<=n/\n<=9223372036854775807):Cl 42 [iI n] (.str (gW n)) J :=
 zR KX KQ (by simp[EU,h])
theorem NX{s:List UInt8}(h:s.length<=1000000):Cl 173 [.str s] (.cS [iI (qX s).2,if(qX s).1=0 then .mQ else .ua 408 .undef]) J :=
 zR KW KP (by simp[EU,h])
theorem Fc{s:List UInt8}(h:s.length<=1000000):Cl 125 [.str s,.str [32]] (.bZ (dB 32 s).length ((dB 32 s).map .str)) J :=
 zR J1 JZ (by simp[EU,h])
theorem Of(s:List UInt8) : -9223372036854775808<=(qX s).2/\(qX s).2<=9223372036854775807:=by
 unfold qX;split
 .rename_i v h;cases s with
  |nil=>cases h
  |cons c r =>
   simp only[Lib.atoiAll]at h;split at h
   .cases h
   .cases h
   .rename_i u hu;split at h
    .cases h
    .split at h
     .cases h
     .cases h;dsimp only;split<;>omega
 .simp
 .simp only[Lib.atoiSat];split<;>simp
theorem XA{s:List UInt8}(hl:s.length<=1000000){n:Int}(h:GP s=some n):Cl 128 [.str s] (iI n) J:=by
 unfold GP at h;simp only[aI,ae]at h;obtain⟨⟨⟨h1,h2⟩,h3⟩,rfl⟩:=h;refine an ?_;simp[NX hl,h1,xb (Of s),h2,fO,eU,h3,da]
theorem Se{s:List UInt8}(hl:s.length<=1000000)(h:GP s=none):di T (.call false 128 [.str s] J)=some (.fy (rf 4) J):=by
 refine ej rfl rfl rfl ?_;unfold GP at h;simp only[ite_eq_right_iff,reduceCtorEq,imp_false,not_and]at h;by_cases h1:(qX s).1=0
 .by_cases h2:gW (qX s).2=s
  .have h3:bI (qX s).2 (-999999999) 999999999=false:=by simpa using h ⟨h1,h2⟩
   simp[NX hl,h1,xb (Of s),h2,fO,eU,h3,dU,D.clean,rf]
  .simp[NX hl,h1,xb (Of s),h2,fO,dU,D.clean,rf]
 .simp[NX hl,h1,dU,D.clean,rf]
def Nz:List Nat:=[160,161,162,163,164,165,166,167,168,169,170,171,172]
def R0(w:Wd):List D:=[.bool w.named,iI w.least,iI w.step,.fn ((Nz[w.k]?).getD 0) [] []]
def iZ(l:List (List UInt8×Wd)):List D:=l.map λp => .cS [.str p.1,.agg (R0 p.2)]
theorem Ls{s:List UInt8}:∀{l:List (List UInt8×Wd)},DW s l=none->oS none (.str s) (iZ l)=some none
 |[],_=>rfl
 |(k,w)::l,h=>by
  simp only[DW]at h;split at h
  .cases h
  .rename_i hk;have hb:(s == k)=false:=by simpa using hk
   have:=Ls h;simp only[iZ,aL,oS,sw,hb]at this ⊢;rw[this];rfl
theorem Nh{s:List UInt8}{w:Wd}:∀{l:List (List UInt8×Wd)},DW s l=some w->∃j,oS none (.str s) (iZ l)=some (some (j,.agg (R0 w)))
 |[],h=>by cases h
 |(k,v)::l,h=>by
  simp only[DW]at h;split at h
  .rename_i hk;cases h;subst hk;exact⟨0,by simp[iZ,oS,sw]⟩
  .rename_i hk;have hb:(s == k)=false:=by simpa using hk
   obtain⟨j,hj⟩:=Nh h;exact⟨j+1,by
    simp only[iZ,aL,oS,sw,hb]at hj ⊢;rw[hj];rfl⟩
theorem alR{S:SK}{l i:Nat}{pre:List (List UInt8×Wd)}{k:List UInt8}{w:Wd}(h:cells? S l i 0=some (iZ pre))(hn:DW k pre=none)(hl:l+1=S.length):
  DY S (.put none) [.jg l i,.str k,.agg (R0 w)]=some (.undef,bw S l i (.cells 0 (iZ (pre++[(k,w)])))):=by
 have h1:=Ls hn;simp only[DY,D3,h,aZ,h1];simp[sw,hl,iZ]
theorem V8{S:SK}{l i:Nat}{s:List UInt8}(h:cells? S l i 0=some (iZ lM)):
  DY S (.get none (.agg [.bool false,iI 0,iI 0,.pc]) true) [.jg l i,.str s] =
   some (match yj s with | some w => .cS [.agg (R0 w),.bool true] | none => .cS [.agg [.bool false,iI 0,iI 0,.pc],.bool false],S):=by
 simp only[DY,D3,h,aZ];cases hw:yj s with
 |none=>rw[Ls hw];simp[sw]
 |some w=>obtain⟨j,hj⟩:=Nh hw;rw[hj];simp[sw]
theorem Ff{bs:List aw.aF}:di T (.call true 126 [] (bs::J))=some (.val (.jg J.length bs.length) ((bs++[.cells 0 (iZ lM)])::J)):=by
 refine mh rfl rfl rfl ?_;have hm:DY (bs::J) .make []=some (.jg J.length bs.length,(bs++[.cells 0 []])::J):=by simp[DY]
 have hp:∀(pre:List (List UInt8×Wd)) (k:List UInt8) (w:Wd),DW k pre=none->DY ((bs++[.cells 0 (iZ pre)])::J) (.put none) [.jg J.length bs.length,.str k,.agg (R0 w)]=some (.undef,(bs++[.cells 0 (iZ (pre++[(k,w)]))])::J):=by
  intro pre k w hn;have h1:cells? ((bs++[.cells 0 (iZ pre)])::J) J.length bs.length 0=some (iZ pre):=by simp
  have h2:J.length+1=((bs++[aw.aF.cells 0 (iZ pre)])::J).length:=by simp
  have h3:=alR (w:=w) h1 hn h2;refine h3.trans ?_;simp
 have p:=λ(j:Nat) (hj:j<13)=>hp (lM.take j) ((lM[j]?).getD ([],⟨false,0,0,0⟩)).1 ((lM[j]?).getD ([],⟨false,0,0,0⟩)).2
 have p0:=p 0 (by omega) (by decide);have p1:=p 1 (by omega) (by decide);have p2:=p 2 (by omega) (by decide);have p3:=p 3 (by omega) (by decide);have p4:=p 4 (by omega) (by decide);have p5:=p 5 (by omega) (by decide);have p6:=p 6 (by omega) (by decide);have p7:=p 7 (by omega) (by decide);have p8:=p 8 (by omega) (by decide);have p9:=p 9 (by omega) (by decide);have p10:=p 10 (by omega) (by decide);have p11:=p 11 (by omega) (by decide);have p12:=p 12 (by omega) (by decide);simp[lM,iZ,R0,Nz]at p0 p1 p2 p3 p4 p5 p6 p7 p8 p9 p10 p11 p12;simp[hm,p0,p1,p2,p3,p4,p5,p6,p7,p8,p9,p10,p11,p12,lM,iZ,R0,Nz]
@[simp] def bD(s:List UInt8):List D:=[.str s]
def US(cs:List D)(name:List UInt8)(M:aw.aF)(J:SK)(acc:List Int)(r:Option (List Int))(x:aw.Exit)(e:Env)(J':SK):Prop:=match r with
 |some ns=>x=.exit 0/\get e 2=.own 0 cs/\get e 3=.str name/\get e 4=.sl J.length 0 (acc++ns).length 0 (acc++ns).length 1/\J'=[.cells (acc++ns).length (fM (acc++ns) aQ),M]::J
 |none=>x=.fy (rf 4)/\∃bC,J'=bC::J
theorem KN{all:List (List UInt8)}(hs:∀s∈all,s.length<=1000000)(hl:all.length<=1000001){cs:List D}{name:List UInt8}{M:aw.aF}:∀(k i:Nat) (acc:List Int),i+k=all.length->acc.length=i ->
  WL T [2,3,4,35,36,37] false oP [(2,.own 0 cs),(3,.str name),(4,.sl J.length 0 i 0 i 1),(35,lF all bD),(36,iI all.length),(37,iI i)]
   ([.cells i (fM acc aQ),M]::J) (US cs name M J acc (mg (all.drop i)))
 |0,i,acc,hi,ha=>by
  refine aK ?_;obtain rfl:i=all.length:=by omega
  have h5:all.drop all.length=[]:=ec;simp[h5,mg,US,ha]
 |k+1,i,acc,hi,ha=>by
  refine aK ?_;have⟨hlt,hii⟩:i<all.length/\(i:Int)<i+1:=by omega
  obtain⟨s,hx⟩:=gE hlt;have h4:=cj hlt;have h5:=bj hx;have a1:=bx (f:=bD) (w:=1) hx;simp only[bD,bR]at a1;have hsl:=hs s (ah hx);rw[h5];simp only[mg];have hr:(i+1)*8<=room:=by unfold room;omega
  cases hn:GP s with
  |none =>
   simp[hlt,a1,Se hsl hn,US]
  |some n =>
   have hc:(fM acc aQ).length=i:=by simp[nL (f:=aQ) (w:=1) (λ_=>rfl),ha]
   have ht:(fM acc aQ).take i=fM acc aQ:=cZ;simp[hlt,a1,XA hsl hn,hr,h4,hc,ht];refine WL.ts (KN (cs:=cs) (name:=name) (M:=M) hs hl k (i+1) (acc++[n]) (by omega) (by simp[ha])) λx e J' hh=>?_
   cases hm:mg (all.drop (i+1))with
   |none=>rw[hm]at hh;exact hh
   |some ns=>rw[hm]at hh;simpa[US]using hh
theorem CB:∀{l:List (List UInt8)} {ns:List Int},mg l=some ns->ns.length=l.length
 |[],ns,h=>by simp only[mg,ae]at h;subst h;rfl
 |s::l,ns,h=>by
  simp only[mg]at h;split at h
  .rename_i n hn;simp only[ad]at h;obtain⟨m,h1,rfl⟩:=h;simp[CB h1]
  .cases h
theorem gN(w:Wd):R0 w=[.bool w.named,iI w.least,iI w.step,.fn ((Nz[w.k]?).getD 0) [] []]:=rfl
theorem Ks(l:List (List UInt8)):l.map D.str=fM l bD:=by induction l with | nil=>rfl | cons s l ih=>simp[ih]
theorem PM{s:List UInt8}(hl:s.length<=1000000){a:List UInt8}{all:List (List UInt8)}(h:dB 32 s=a::all)(hw:yj a=none):di T (.call false 85 [.str s] J)=some (.fy (rf 4) J):=by
 refine ej rfl rfl rfl ?_;have hW:=Ff (bs:=[.cells 0 []]) (J:=J);have hG:=V8 (S:=[aw.aF.cells 0 [],.cells 0 (iZ lM)]::J) (l:=J.length) (i:=1) (s:=a) (by simp);rw[hw]at hG;simp[Fc hl,h,hW,hG,dU,D.clean,rf]
