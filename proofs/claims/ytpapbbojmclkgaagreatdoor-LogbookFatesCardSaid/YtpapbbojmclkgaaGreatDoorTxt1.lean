import Derived.Test.YtpapbbojmclkgaaGreatDoorTxt0
set_option linter.all false
namespace Go.Proofs.YtpapbbojmclkgaaGreatDoor
section
open Go Go.Abs Go.Rock
variable {J:SK}
theorem Yz{b:bU}:Cl uT [.agg (bL b)] (.fn nJ [] [.bf (bL b)]) J:=by
 refine au rfl rfl rfl ?_;simp[Cz,xl]
theorem Bv.xy{b:bU}(h:Bv b):b.f.x=(b.f.x.toNat:Int)/\b.f.y=(b.f.y.toNat:Int)/\1<=b.f.x.toNat*b.f.y.toNat/\b.f.x.toNat*b.f.y.toNat<=64:=by
 have hx:=h.x;have hy:=h.y;obtain⟨s1,_⟩:=dw.sz h.x h.y h.z;have e1:b.f.x*b.f.y=((b.f.x.toNat*b.f.y.toNat:Nat):Int):=by push_cast;rw[dK (by omega),dK (by omega)]
 rw[e1]at s1;refine⟨by omega,by omega,by omega,by omega⟩
theorem Bv.nat{b:bU}(h:Bv b):b.n=b.f.x.toNat*b.f.y.toNat*b.f.z.toNat/\1<=b.f.x.toNat/\1<=b.f.y.toNat:=by
 have hx:=h.x;have hy:=h.y;have hz:=h.z;have hs:=h.sz;refine⟨?_,by omega,by omega⟩;have:((b.f.x.toNat*b.f.y.toNat*b.f.z.toNat:Nat):Int)=b.f.size:=by
  push_cast;rw[dK (by omega),dK (by omega),dK (by omega)];rfl
 omega
theorem aa2{X W i n:Nat}(hn:n=X*W)(hi:i<n)(hc:(i+1)%X≠0):i+1<n:=by
 rcases Nat.lt_or_ge (i+1) n with h | h
 .exact h
 .have:i+1=X*W:=by omega
  rw[this,Nat.mul_mod_right]at hc;exact absurd rfl hc
theorem link2{X Y Z i n:Nat}(hX:1<=X)(hY:1<=Y)(hn:n=X*Y*Z)(hi:i<n)(hc:i / X%Y≠Y-1):i+X<n:=by
 have h1:i / X<Y*Z:=by rw[Nat.div_lt_iff_lt_mul hX,Nat.mul_comm,<- Nat.mul_assoc];omega
 have h2:i / X+1<Y*Z:=by
  rcases Nat.lt_or_ge (i / X+1) (Y*Z)with h | h
  .exact h
  .exfalso
   have h3:i / X+1=Y*Z:=by omega
   have hZ:1<=Z:=by
    rcases Nat.eq_zero_or_pos Z with h0 | h0
    .subst h0;omega
    .exact h0
   have h4:i / X=Y*(Z-1)+(Y-1):=by
    have:Y*Z=Y*(Z-1)+Y:=by rw[<- Nat.mul_succ];congr 1;omega
    omega
   rw[h4,Nat.mul_add_mod,Nat.mod_eq_of_lt (by omega)]at hc;exact hc rfl
 have h3:i<(i / X+1)*X:=by
  have:=Nat.div_add_mod i X;have h4:=Nat.mod_lt i (show X>0 by omega);rw[ie,Nat.one_mul,Nat.mul_comm (i / X) X];omega
 have h5:(i / X+1)*X+X<=n:=by
  have:(i / X+1+1)*X<=Y*Z*X:=cU _ h2;rw[ie (i / X+1) 1 X,Nat.one_mul,Nat.mul_comm (Y*Z) X,<- Nat.mul_assoc]at this;omega
 omega
theorem RM{b:bU}(h:Bv b){lv j N:Nat}{St:List (Nat×Nat)->SK}(hN:∀pre,(St pre).length=N)
  (hR:∀pre,∀l:Nat×Nat,l.1<b.n->l.2<b.n->l.1≠l.2->dj T (.round lv j [.agg [iI l.1,iI l.2]] ([]::St pre))=some (.val (.bool true) ([]::St (pre++[l])))):∀(n i:Nat) (pre:List (Nat×Nat)),i+n=b.n ->
  WL T [0,1,3,4,13,14] false iL [(0,.kV lv j),(1,.bf (bL b)),(3,iI b.f.x),(4,iI b.f.y),(13,iI b.n),(14,iI i)] ([]::St pre)
   (λx e J'=>J'=[]::St (pre++fM ((List.range b.n).drop i) (vl b))/\x=.exit 0)
 |0,i,pre,hi=>by
  refine aB iL.eq_1 ?_;have h1:¬i<b.n:=by omega
  have h2:(List.range b.n).drop i=[]:=an (by simp;omega);simp[h1,h2]
 |n+1,i,pre,hi=>by
  refine aB iL.eq_1 ?_;have h1:i<b.n:=by omega
  have hn:=h.n;have hx:=h.x;have hy:=h.y;obtain⟨eX,eY,p1,p2⟩:=h.xy;have h4:=cr h1 (by omega);have hs:=λJ=>AM (J:=J) h
  have h5:(List.range b.n).drop i=i::(List.range b.n).drop (i+1):=bD (by simp[h1]);have w1:=cf (n:=b.f.x*b.f.y) (by rw[eX,eY];omega);obtain⟨hnn,X1,Y1⟩:=h.nat;have⟨hx0,hy0⟩:¬b.f.x=0/\¬b.f.y=0:=by omega
  have ih:=λpre=>RM h hN hR n (i+1) pre (by omega)
  have e1:((i:Int)+1).tmod b.f.x=(((i+1)%b.f.x.toNat:Nat):Int):=by
   conv=>lhs;rw[eX]
   rfl
  have e2:(i:Int) / b.f.x=((i / b.f.x.toNat:Nat):Int):=by
   conv=>lhs;rw[eX]
   rfl
  have e2b:(i:Int).tdiv b.f.x=((i / b.f.x.toNat:Nat):Int):=by
   conv=>lhs;rw[eX]
   rfl
  have e3:((i / b.f.x.toNat:Nat):Int).tmod b.f.y=((i / b.f.x.toNat%b.f.y.toNat:Nat):Int):=by
   conv=>lhs;rw[eY]
   rfl
  have e4:b.f.x*b.f.y=((b.f.x.toNat*b.f.y.toNat:Nat):Int):=by
   conv=>lhs;rw[eX,eY]
   rfl
  have hq:i / b.f.x.toNat<=i:=Nat.div_le_self _ _;have hr1:(i+1)%b.f.x.toNat<=i+1:=Nat.mod_le _ _;have hr2:i / b.f.x.toNat%b.f.y.toNat<=i / b.f.x.toNat:=Nat.mod_le _ _;have l1:=aa2 (W:=b.f.y.toNat*b.f.z.toNat) (by rw[hnn,Nat.mul_assoc]) h1;have l2:=link2 (Z:=b.f.z.toNat) X1 Y1 hnn h1;have R1:=λpre hc=>hR pre (i,i+1) h1 (l1 hc) (by simp)
  have R2:=λpre hc=>hR pre (i,i+b.f.x.toNat) h1 (l2 hc) (by simp;omega)
  have R3:=λpre hc=>hR pre (i,i+b.f.x.toNat*b.f.y.toNat) h1 hc (by simp;omega)
  have z2:((i+b.f.x.toNat:Nat):Int)=(i:Int)+b.f.x:=by omega
  have z3:((i+b.f.x.toNat*b.f.y.toNat:Nat):Int)=(i:Int)+b.f.x*b.f.y:=by rw[e4];omega
  have z1:((i+1:Nat):Int)=(i:Int)+1:=rfl;simp only[z1,z2,z3]at R1 R2 R3;generalize hA:i / b.f.x.toNat=A at *
  generalize hB:A%b.f.y.toNat=B at *
  generalize hC:(i+1)%b.f.x.toNat=C at *
  generalize hP:b.f.x.toNat*b.f.y.toNat=P at *
  have v1:=cf (n:=(A:Int)) (by omega);have v2:=cf (n:=(B:Int)) (by omega);have v3:=cf (n:=(C:Int)) (by omega);have v4:=cf (n:=b.f.y-1) (by omega);have v5:=cf (n:=(i:Int)+b.f.x) (by omega);have v6:=cf (n:=(i:Int)+b.f.x*b.f.y) (by rw[e4];omega);have v7:=cf (n:=b.f.x*b.f.y) (by rw[e4];omega);have c3:((i:Int)+b.f.x*b.f.y<(b.n:Int))↔(i+P<b.n):=by rw[e4];omega
  have hL:vl b i=(if C≠0 then [(i,i+1)]else [])++((if B≠b.f.y.toNat-1 then [(i,i+b.f.x.toNat)]else [])++(if i+P<b.n then [(i,i+P)]else [])):=by
   unfold vl;rw[hC,hA,hB,hP]
  rw[h5,eg,hL];clear hL hnn l1 l2;have⟨t1,t2⟩:(((C:Int)=0)↔(C=0))/\(((B:Int)=b.f.y-1)↔(B=b.f.y.toNat-1)):=by omega
  by_cases k1:C=0<;>by_cases k2:B=b.f.y.toNat-1<;>by_cases k3:i+P<b.n;all_goals
   first | (have u1:=t1.2 k1) | (have u1:=mt t1.1 k1)
   first | (have u2:=t2.2 k2) | (have u2:=mt t2.1 k2)
   have ih':=ih (pre++((if C≠0 then [(i,i+1)]else [])++((if B≠b.f.y.toNat-1 then [(i,i+b.f.x.toNat)]else [])++(if i+P<b.n then [(i,i+P)]else []))));first
    |(rw[if_neg (not_not_intro k1)]at ih' ⊢) | (rw[if_pos k1]at ih' ⊢)
   first
    |(rw[if_neg (not_not_intro k2)]at ih' ⊢) | (rw[if_pos k2]at ih' ⊢)
   first
    |(rw[if_neg k3]at ih' ⊢) | (rw[if_pos k3]at ih' ⊢)
   have g1:=λpre=>R1 pre
   have g2:=λpre=>R2 pre
   have g3:=λpre=>R3 pre
   first | (have g1:=λpre=>R1 pre k1) | skip
   first | (have g2:=λpre=>R2 pre k2) | skip
   first | (have g3:=λpre=>R3 pre k3) | skip
   simp[h1,h4,hx0,hy0,e1,e2b,e3,v1,v4,v5,v6,v7,c3,u2,k1,k3,hs,g1,g2,g3];refine WL.to ih' (by simp) (by simp) λx e J hh=>by simpa using hh
theorem Vb{b:bU}(h:Bv b){lv j N:Nat}{St:List (Nat×Nat)->SK}(hN:∀pre,(St pre).length=N)
  (hR:∀pre,∀l:Nat×Nat,l.1<b.n->l.2<b.n->l.1≠l.2->dj T (.round lv j [.agg [iI l.1,iI l.2]] ([]::St pre))=some (.val (.bool true) ([]::St (pre++[l])))):
  dj T (.call false nJ [.kV lv j,.bf (bL b)] (St []))=some (.val (.cV []) (St (yG b))):=by
 refine fJ rfl rfl rfl (by rw[hN,hN]) ?_;have hs:=λJ=>AM (J:=J) h
 simp[hs];refine WL.to (RM h hN hR b.n 0 [] (by omega)) (by simp) rfl ?_;rintro x e J' ⟨rfl,rfl⟩;simp[yG]
def FN(es:List ((Nat×Nat)×Rock.aD)):List D:=es.map λe => .cV [.agg [iI e.1.1,iI e.1.2],.agg e.2.enc]
def kyL:Ky:=some (true,[some .i64,some .i64])
theorem agb{a b:Nat×Nat}:so kyL (.agg [iI a.1,iI a.2]) (.agg [iI b.1,iI b.2])=some (b == a):=by
 simp only[so,kyL,D.row,BS,and_self,if_true,aZ,Bool.and_true];congr 1;rw[Bool.eq_iff_iff];simp only[af,beq_iff_eq];constructor
 .rintro⟨h1,h2⟩;exact Prod.ext (by omega) (by omega)
 .rintro rfl;exact⟨rfl,rfl⟩
theorem OJ{k:Nat×Nat}:∀{es:List ((Nat×Nat)×Rock.aD)},∃r,pc kyL (.agg [iI k.1,iI k.2]) (FN es)=some r/\r.map Prod.fst=es.findIdx? (λe=>e.1 == k)
 |[]=>⟨none,rfl,rfl⟩
 |e::es=>by
  obtain⟨r,h1,h2⟩:=OJ (k:=k) (es:=es);simp only[FN,aN]at h1 ⊢;simp only[pc,agb];cases hk:e.1 == k
  .refine⟨_,by rw[h1];rfl,?_⟩;rw[List.findIdx?_cons,hk,<- h2];cases r<;>rfl
  .exact⟨_,rfl,by rw[List.findIdx?_cons,hk];rfl⟩
theorem W8{S:SK}{l i:Nat}{es:List ((Nat×Nat)×Rock.aD)}{k:Nat×Nat}{o:Rock.aD}(h:cells? S l i 0=some (FN es)):
  CW S (.put kyL) [.kV l i,.agg [iI k.1,iI k.2],.agg o.enc]=some (.undef,bh S l i (.cells 0 (FN (QW es k o)))):=by
 obtain⟨r,h1,h2⟩:=OJ (k:=k) (es:=es);simp only[CW,CV,h,aZ,h1,agb,Option.isSome_some,true_and];rw[if_pos (.inr ⟨by simp[D.clean],by simp[D.clean]⟩)];unfold QW;rw[<- h2];cases r with
 |none=>simp[FN]
 |some y=>simp[FN,List.map_set]
theorem Kh{x:Rock.aD}{A:Int}(hA:10000<=A):∀(t:List Rw) (o:Int),(∀r∈t,r.alone=true)->(0<=o/\o<=A)->0<=t.foldl (ia x) o/\t.foldl (ia x) o<=A
 |[],o,_,h=>h
 |r::t,o,ht,h=>by
  have h1:=Q0 (ht r (by simp));refine Kh hA t _ (λr hr=>ht r (by simp[hr])) ?_;unfold ia;split<;>omega
theorem GI{b:bU}{m:bV}{s:List Rock.aD}(h:Fv b m)(hs:Sv b s){i:Nat}(hi:i<b.n):0<=dk b m s i/\dk b m s i<=200000000000:=by
 have htab:=h.bv.dL;simp only[fO,af]at htab;refine Kh (by omega) _ _ (eO.1 htab.2.1) ?_;have b5:=wg h.bv hi;have b1:=h.hold i hi;obtain⟨hx,b2,b3,b4⟩:=hs.at hi;have hst:=h.bv.cz;have b6:b.cz*((aP s i).m-hold b m i)<=100000000000:=by
  rcases eS (hold b m i) (aP s i).m with hh | hh
  .have:=iS (a:=b.cz) (b:=(aP s i).m-hold b m i) (A:=100000) (B:=1000000) (by omega) hst.2 (by omega) (by omega);omega
  .have:=iS (a:=b.cz) (b:=hold b m i-(aP s i).m) (A:=100000) (B:=1000000) (by omega) hst.2 (by omega) (by omega);have e:b.cz*((aP s i).m-hold b m i) = - (b.cz*(hold b m i-(aP s i).m)):=by rw[<- Int.mul_neg];congr 1;omega
   omega
 have b7:down (b.cz*((aP s i).m-hold b m i)) (hold b m i)<=100000000000:=by
  unfold down;have:=Int.ediv_le_self (b:=hold b m i) (a:=b.cz*((aP s i).m-hold b m i));rcases eS 0 (b.cz*((aP s i).m-hold b m i))with hh | hh
  .have:=this hh;omega
  .have:=Int.ediv_le_of_le_mul (b:=0) (show 0<hold b m i by omega) (by omega:b.cz*((aP s i).m-hold b m i)<=0*hold b m i);omega
 omega
theorem AP{O:bZ}{c c':cb}(hc:c=c'){e:Env}{J:SK}{Q:Abs.Exit->Env->SK->Prop}:WC O c e J Q .mk .mk=WC O c' e J Q .mk .mk:=by subst hc;rfl
def Ud(b:bU)(m:bV)(s:List Rock.aD)(L:Nat):xB :=
 {state:=0,yP:=none,env:=[(2,.bf (bM b m)),(3,.bf [lF s aD.enc]),(4,.undef),(5,.ref L 3 0 0),(6,.ref L 4 0 0)],params:=[18],BL:=gf,body:=de }
def Uz(A B:Abs.aD)(b:bU)(m:bV)(s:List Rock.aD)(J:SK)(es:List ((Nat×Nat)×Rock.aD)):SK :=
 [A,B,.cells 0 (FN es),.cells 0 [.kV J.length 2],.cells 0 [lF (ba b m s) aT],.loop (Ud b m s J.length)]::J
theorem acp{A B:Abs.aD}{b:bU}{m:bV}{s:List Rock.aD}(h:Fv b m)(hs:Sv b s)(es:List ((Nat×Nat)×Rock.aD))(l:Nat×Nat)(h1:l.1<b.n)(h2:l.2<b.n):
  dj T (.round J.length 5 [.agg [iI l.1,iI l.2]] ([]::Uz A B b m s J es))=some (.val (.bool true) ([]::Uz A B b m s J (kF b m s (ba b m s) es l))):=by
 have hn:=h.bv.n;have hl:=hs.len;have hp1:(ba b m s)[l.1]?=some (dk b m s l.1):=by simp[ba,hl,h1]
 have hp2:(ba b m s)[l.2]?=some (dk b m s l.2):=by simp[ba,hl,h2]
 have a1:=gr hp1;have a2:=gr hp2;have hpl:(ba b m s).length=b.n:=by rw[M7,hl]
 have bp1:=GI h hs h1;have bp2:=GI h hs h2;have bw1:=wg h.bv h1;have bw2:=wg h.bv h2;have cw1:=λJ=>Jf (J:=J) (m:=m) h.bv h1
 have cw2:=λJ=>Jf (J:=J) (m:=m) h.bv h2
 have co1:=λJ=>Vg (J:=J) h.toMv h1
 have co2:=λJ=>Vg (J:=J) h.toMv h2
 have bo1:=h.zb l.1 h1;have bo2:=h.zb l.2 h2;obtain⟨x1,m1,m2,m3⟩:=hs.at h1;obtain⟨y1,n1,n2,n3⟩:=hs.at h2;have f1:=bu (f:=aD.enc) (w:=3) (λ_=>rfl) x1;have f2:=bu (f:=aD.enc) (w:=3) (λ_=>rfl) y1;have w1:=cf (n:=dk b m s l.1-weight b l.1) (by omega);have w2:=cf (n:=dk b m s l.1-weight b l.1-dk b m s l.2) (by omega);have w3:=cf (n:=dk b m s l.1-weight b l.1-dk b m s l.2+weight b l.2) (by omega);have⟨hL1,hL2⟩:l.1<s.length/\l.2<s.length:=by omega
 have hE:kF b m s (ba b m s) es l=kF b m s (ba b m s) es l:=rfl
 conv at hE=>rhs;unfold kF BU
 simp only[hp1,hp2,eT]at hE;generalize kF b m s (ba b m s) es l=es' at *
 have⟨hmin,hmin'⟩:(0<=min (zb b m l.2) (zb b m l.1)/\min (zb b m l.2) (zb b m l.1)<=1000)/\(0<=min (zb b m l.1) (zb b m l.2)/\min (zb b m l.1) (zb b m l.2)<=1000):=by omega
 generalize hw1:weight b l.1=W1 at *
 generalize hw2:weight b l.2=W2 at *
 generalize hq1:dk b m s l.1=P1 at *
 generalize hq2:dk b m s l.2=P2 at *
 generalize hD:P1-W1-P2+W2=d at *
 refine Pp (lp:=Ud b m s J.length) (by simp[Uz]) rfl ?_;rw[show(Ud b m s J.length).BL=gf from rfl,gf.eq_1,show(Ud b m s J.length).body=de from rfl];by_cases hd:d<0
 .simp only[hd,if_true]at hE;have b3:=iS hmin.1 hmin.2 (show 0 <= -d by omega) (show -d<=1000000000000 by omega);have w4:=cf (n := -d) (by omega);have d1:=aO (b:=1000) b3.1;have d2:=aO (b:=8) (show 0<=(aP s l.2).m by omega);generalize hX:min (zb b m l.2) (zb b m l.1) * -d=X at *
  have w5:=cf (n:=X) (by omega);generalize hY:X.tdiv 1000=Y at *
  generalize hZ:(aP s l.2).m.tdiv 8=Z at *
  have w6:=cf (n:=Y) (by rw[d1];omega);have w7:=cf (n:=Z) (by rw[d2];omega);by_cases hq:0<min Y Z
  .have hO:=λJ=>Vh (J:=J) (q:=min Y Z) n1 n2 n3 ⟨by omega,by rw[d2];omega⟩
   have hP:=λS h=>W8 (S:=S) (l:=J.length) (i:=2) (es:=es) (k:=(l.2,l.1)) (o:=(aP s l.2).out (min Y Z)) h
   rw[if_pos hq]at hE;simp only at hE;subst hE;generalize (aP s l.2).out (min Y Z)=O at *
   simp only[aD.enc]at hO;simp only[aD.enc,kyL]at hP;simp[AP de.eq_1,Ud,Uz,Uh,hpl,h1,h2,a1,a2,cw1,cw2,w1,w2,w3,hD,hd,co1,co2,hL2,f2,w4,w5,w6,w7,hX,hY,hZ,hq,hO,hP]
  .rw[if_neg hq]at hE;simp only at hE;subst hE;simp[AP de.eq_1,Ud,Uz,Uh,hpl,h1,h2,a1,a2,cw1,cw2,w1,w2,w3,hD,hd,co1,co2,hL2,f2,w4,w5,w6,w7,hX,hY,hZ,hq]
 .simp only[hd,if_false]at hE;have b3:=iS hmin'.1 hmin'.2 (show 0<=d by omega) (show d<=1000000000000 by omega);have w4:=cf (n:=d) (by omega);have d1:=aO (b:=1000) b3.1;have d2:=aO (b:=8) (show 0<=(aP s l.1).m by omega);generalize hX:min (zb b m l.1) (zb b m l.2)*d=X at *
  have w5:=cf (n:=X) (by omega);generalize hY:X.tdiv 1000=Y at *
  generalize hZ:(aP s l.1).m.tdiv 8=Z at *
  have w6:=cf (n:=Y) (by rw[d1];omega);have w7:=cf (n:=Z) (by rw[d2];omega);by_cases hq:0<min Y Z
  .have hO:=λJ=>Vh (J:=J) (q:=min Y Z) m1 m2 m3 ⟨by omega,by rw[d2];omega⟩
   have hP:=λS h=>W8 (S:=S) (l:=J.length) (i:=2) (es:=es) (k:=l) (o:=(aP s l.1).out (min Y Z)) h
   rw[if_pos hq]at hE;simp only at hE;subst hE;generalize (aP s l.1).out (min Y Z)=O at *
   simp only[aD.enc]at hO;simp only[aD.enc,kyL]at hP;simp[AP de.eq_1,Ud,Uz,Uh,hpl,h1,h2,a1,a2,cw1,cw2,w1,w2,w3,hD,hd,co1,co2,hL1,f1,w5,w6,w7,hX,hY,hZ,hq,hO,hP]
  .rw[if_neg hq]at hE;simp only at hE;subst hE;simp[AP de.eq_1,Ud,Uz,Uh,hpl,h1,h2,a1,a2,cw1,cw2,w1,w2,w3,hD,hd,co1,co2,hL1,f1,w5,w6,w7,hX,hY,hZ,hq]
theorem Yu{A B:Abs.aD}{b:bU}{m:bV}{s:List Rock.aD}(h:Fv b m)(hs:Sv b s):∃X Y Z:Abs.aD,
  dj T (.call true qH [.agg (bM b m),lF s aD.enc] ([A,B]::J))=some (.val (.kV J.length 2) ([A,B,.cells 0 (FN (sH b m s)),X,Y,Z]::J)):=by
 refine⟨.cells 0 [.kV J.length 2],.cells 0 [lF (ba b m s) aT],.loop {Ud b m s J.length with state:=3 },?_⟩;refine xk rfl rfl rfl ?_;have hp:=λJ hJ=>NW (J:=J) h hs hJ
 have hl:=Vb (b:=b) h.bv (lv:=J.length) (j:=5) (N:=J.length+1) (St:=λpre=>Uz A B b m s J (pre.foldl (kF b m s (ba b m s)) [])) (λpre=>by simp[Uz])
  (λpre l h1 h2 _=>by rw[List.foldl_append];exact acp h hs _ l h1 h2)
 have hm:CW ([A,B]::J) .make []=some (.kV J.length 2,[A,B,.cells 0 (FN [])]::J):=by simp[CW,FN]
 simp[hp,Yz,hm];refine R5 (d:=.cV []) (J2:=Uz A B b m s J (sH b m s)) (lp:=Ud b m s J.length) (by simp;exact⟨rfl,rfl,rfl⟩) ?_ (by simp[Uz]) (by simp[Ud]) ?_
 .simpa[Ud,Uz,sH]using hl
 .simp[Ud,Uz]
end
section
open Go Go.Abs Go.Rock
def BD(N:Int)(s:List Rock.aD):Prop:=∀x∈s,sm x N
theorem cY{x:Rock.aD}{N M:Int}(h:sm x N)(hN:N<=M):sm x M:=by
 obtain⟨h1,h2,h3⟩:=h;exact⟨⟨by omega,by omega⟩,⟨by omega,by omega⟩,⟨by omega,by omega⟩⟩
theorem BN{N:Int}{s:List Rock.aD}(h:BD N s){i:Nat}(hi:i<s.length):s[i]?=some (aP s i)/\sm (aP s i) N:=by
 have h2:s[i]?=some (aP s i):=by simp[aP,hi]
 exact⟨h2,h _ (aj h2)⟩
theorem GC{s:List Rock.aD}{i:Nat}{o:Rock.aD}{sign:Int}:(cj s i o sign).length=s.length:=by simp[cj]
theorem pB{N M:Int}{s:List Rock.aD}(h:BD N s){i:Nat}{o:Rock.aD}{sign:Int}(ho:sm o M)(hs:sign=1\/sign = -1)(hM:0<=M):BD (N+M) (cj s i o sign):=by
 intro x hx;unfold cj at hx;by_cases hi:i<s.length
 .rcases List.mem_or_eq_of_mem_set hx with hx | rfl
  .exact cY (h x hx) (by omega)
  .obtain⟨a1,a2,a3⟩:=(BN h hi).2;obtain⟨b1,b2,b3⟩:=ho;rcases hs with rfl | rfl
   .exact⟨⟨by simp only[Rock.aD.move];omega,by simp only[Rock.aD.move];omega⟩,⟨by simp only[Rock.aD.move];omega,by simp only[Rock.aD.move];omega⟩,⟨by simp only[Rock.aD.move];omega,by simp only[Rock.aD.move];omega⟩⟩
   .exact⟨⟨by simp only[Rock.aD.move];omega,by simp only[Rock.aD.move];omega⟩,⟨by simp only[Rock.aD.move];omega,by simp only[Rock.aD.move];omega⟩,⟨by simp only[Rock.aD.move];omega,by simp only[Rock.aD.move];omega⟩⟩
 .rw[List.set_eq_of_length_le (by omega)]at hx;exact cY (h x hx) (by omega)
theorem D9{s:List Rock.aD}{i j:Nat}{o p:Rock.aD}{a c:Int}:cj (cj s i o a) j p c=cj (cj s j p c) i o a:=by
 by_cases hij:i=j
 .subst hij;by_cases hi:i<s.length
  .simp only[cj,aP,List.getElem?_set_self hi,eT,List.set_set,Rock.aD.move];congr 2<;>omega
  .simp only[cj,List.set_eq_of_length_le (show s.length<=i by omega)]
 .have hji:¬j=i:=λh=>hij h.symm
  simp only[cj,aP,List.getElem?_set_ne hij,List.getElem?_set_ne hji];rw[List.set_comm _ _ hij]
theorem TZ{s:List Rock.aD}{e f:(Nat×Nat)×Rock.aD}:ct (ct s e) f=ct (ct s f) e:=by
 unfold ct;rw[D9 (i:=e.1.2) (j:=f.1.1),D9 (i:=e.1.1) (j:=f.1.1),D9 (i:=e.1.2) (j:=f.1.2),D9 (i:=e.1.1) (j:=f.1.2)]
theorem ON{s:List Rock.aD}{e:(Nat×Nat)×Rock.aD}:(ct s e).length=s.length:=by simp[ct,GC]
def K1(es:List ((Nat×Nat)×Rock.aD))(s:List Rock.aD)(j:Nat):List Rock.aD:=match es[j]? with | some e=>ct s e | none=>s
theorem XQ{es:List ((Nat×Nat)×Rock.aD)}{s:List Rock.aD}{i j:Nat}:K1 es (K1 es s i) j=K1 es (K1 es s j) i:=by
 unfold K1;cases es[i]? <;> cases es[j]? <;> simp[TZ]
theorem aap{es:List ((Nat×Nat)×Rock.aD)}{s:List Rock.aD}{j:Nat}:(K1 es s j).length=s.length:=by
 unfold K1;split<;>simp[ON]
theorem L9:∀(es:List ((Nat×Nat)×Rock.aD)) (s:List Rock.aD) (n:Nat),n<=es.length->(List.range n).foldl (K1 es) s=(es.take n).foldl ct s
 |es,s,0,_=>by simp
 |es,s,n+1,h=>by
  obtain⟨e,he⟩:∃e,es[n]?=some e:=gE (by omega);rw[List.range_succ,List.foldl_append,L9 es s n (by omega),List.take_add_one,he,List.foldl_append];simp[K1,he]
theorem aao{es:List ((Nat×Nat)×Rock.aD)}{s:List Rock.aD}{js:List Nat}(hd:js.Nodup)(hm:∀j,j∈js↔j<es.length):js.foldl (K1 es) s=es.foldl ct s:=by
 have hp:js.Perm (List.range es.length):=(List.perm_ext_iff_of_nodup hd List.nodup_range).2 λa=>by simp[hm]
 rw[hp.foldl_eq' (λx _ y _ z=>XQ),L9 es s es.length (aL _),ai (aL _)]
theorem Uc{b:bU}:(yG b).length<=3*b.n:=by
 have key:∀l:List Nat,(fM l (vl b)).length<=3*l.length:=by
  intro l;induction l with
  |nil=>simp
  |cons i l ih =>
   rw[eg,bB,aK];have:(vl b i).length<=3:=by
    unfold vl;simp only[bB];split<;>split<;>split<;>simp
   omega
 have:=key (List.range b.n);rw[List.length_range]at this;exact this
theorem Pc{b:bU}(h:Bv b){l:Nat×Nat}(hl:l∈yG b):l.1<b.n/\l.2<b.n:=by
 obtain⟨hnn,X1,Y1⟩:=h.nat;obtain⟨i,hi,hh⟩:=Ho.1 hl;have h1:i<b.n:=by simpa using hi
 unfold vl at hh;simp only[aX]at hh;rcases hh with hh | hh | hh
 .split at hh
  .rename_i hc;simp at hh;subst hh;exact⟨h1,aa2 (W:=b.f.y.toNat*b.f.z.toNat) (by rw[hnn,Nat.mul_assoc]) h1 hc⟩
  .cases hh
 .split at hh
  .rename_i hc;simp at hh;subst hh;exact⟨h1,link2 (Z:=b.f.z.toNat) X1 Y1 hnn h1 hc⟩
  .cases hh
 .split at hh
  .rename_i hc;simp at hh;subst hh;exact⟨h1,hc⟩
  .cases hh
def UF(b:bU)(e:(Nat×Nat)×Rock.aD):Prop:=(e.1.1<b.n/\e.1.2<b.n)/\sm e.2 1000000000000
theorem M5{x:Rock.aD}{q:Int}(hm:1<=x.m/\x.m<=1000000)(hh:0<=x.h/\x.h<=10000000000)(hk:0<=x.k/\x.k<=1000000000000)(hq:0<=q/\q<=x.m):sm (x.out q) 1000000000000:=by
 have b3:=Im hm.1 hh hq;have b4:=Im hm.1 hk hq;exact⟨⟨by simp only[Rock.aD.out];omega,by simp only[Rock.aD.out];omega⟩,⟨by simp only[Rock.aD.out];omega,by simp only[Rock.aD.out];omega⟩,⟨by simp only[Rock.aD.out];omega,by simp only[Rock.aD.out];omega⟩⟩
theorem TX{b:bU}{m:bV}{s:List Rock.aD}(hs:Sv b s){p:List Int}{l:Nat×Nat}(h1:l.1<b.n)(h2:l.2<b.n){e:(Nat×Nat)×Rock.aD}(he:BU b m s p l=some e):UF b e:=by
 unfold BU at he;simp only at he;generalize hd:(p[l.1]?).getD 0-weight b l.1-(p[l.2]?).getD 0+weight b l.2=d at he;generalize hl':(if d<0 then(l.2,l.1)else l)=l' at he;generalize hd':(if d<0 then -d else d)=d' at he;have hll:l'.1<b.n/\l'.2<b.n:=by
  rw[<- hl'];split<;>exact⟨by assumption,by assumption⟩
 obtain⟨_,m1,m2,m3⟩:=hs.at hll.1;split at he
 .rename_i hq;simp only[ae]at he;subst he;have d2:=aO (b:=8) (show 0<=(aP s l'.1).m by omega);exact⟨hll,M5 m1 m2 m3 ⟨by omega,by rw[d2];omega⟩⟩
 .cases he
theorem Z3{b:bU}{es:List ((Nat×Nat)×Rock.aD)}{k:Nat×Nat}{o:Rock.aD}(h:∀e∈es,UF b e)(ho:UF b (k,o)):(∀e∈QW es k o,UF b e)/\(QW es k o).length<=es.length+1:=by
 unfold QW;split
 .constructor
  .intro e he;rcases List.mem_or_eq_of_mem_set he with he | rfl
   .exact h e he
   .exact ho
  .simp
 .constructor
  .intro e he;rcases aX.1 he with he | he
   .exact h e he
   .simp at he;subst he;exact ho
  .simp
theorem OO{b:bU}{m:bV}{s:List Rock.aD}(h:Bv b)(hs:Sv b s):(∀e∈sH b m s,UF b e)/\(sH b m s).length<=192:=by
 have key:∀(ls:List (Nat×Nat)) (es:List ((Nat×Nat)×Rock.aD)),(∀l∈ls,l.1<b.n/\l.2<b.n)->(∀e∈es,UF b e)->(∀e∈ls.foldl (kF b m s (ba b m s)) es,UF b e)/\(ls.foldl (kF b m s (ba b m s)) es).length<=es.length+ls.length:=by
  intro ls;induction ls with
  |nil=>intro es _ h;exact⟨h,by simp⟩
  |cons l ls ih =>
   intro es hl he;have hl0:=hl l (by simp);simp only[List.foldl_cons];have h1:(∀e∈kF b m s (ba b m s) es l,UF b e)/\(kF b m s (ba b m s) es l).length<=es.length+1:=by
    unfold kF;split
    .rename_i e hfe;exact Z3 he (TX hs hl0.1 hl0.2 hfe)
    .exact⟨he,by omega⟩
   obtain⟨h2,h3⟩:=ih _ (λl hh=>hl l (by simp[hh])) h1.1;exact⟨h2,by simp only[aK];omega⟩
 obtain⟨h1,h2⟩:=key (yG b) [] (λl hl=>Pc h hl) (by simp);have:=@Uc b;have hn:=h.n;exact⟨h1,by simp only[bx]at h2;unfold sH;omega⟩
theorem OM{b:bU}{N:Int}{s:List Rock.aD}{e:(Nat×Nat)×Rock.aD}(h:BD N s)(he:UF b e):BD (N+2000000000000) (ct s e):=by
 have h1:=pB (i:=e.1.1) (sign := -1) h he.2 (.inr rfl) (by omega);have h2:=pB (i:=e.1.2) (sign:=1) h1 he.2 (.inl rfl) (by omega);unfold ct;rw[show N+2000000000000=N+1000000000000+1000000000000 by omega];exact h2
theorem S4{b:bU}{es:List ((Nat×Nat)×Rock.aD)}(hes:∀e∈es,UF b e):∀(js:List Nat) (s:List Rock.aD) (N:Int),BD N s->BD (N+2000000000000*js.length) (js.foldr (λj s=>K1 es s j) s)
 |[],s,N,h=>by simpa using h
 |j::js,s,N,h=>by
  have ih:=S4 hes js s N h;simp only[List.foldr_cons,aK];generalize js.foldr (λj s=>K1 es s j) s=s1 at *
  unfold K1;split
  .rename_i e he;have:=OM ih (hes e (aj he));intro x hx;exact cY (this x hx) (by push_cast;omega)
  .intro x hx;exact cY (ih x hx) (by push_cast;omega)
theorem Sv.BD{b:bU}{s:List Rock.aD}(h:Sv b s):BD 1000000000000 s:=by
 intro x hx;obtain⟨h1,h2,h3⟩:=aD.M1.1 (h.ok x hx);exact⟨⟨by omega,by omega⟩,⟨by omega,by omega⟩,⟨by omega,by omega⟩⟩
end
end Go.Proofs.YtpapbbojmclkgaaGreatDoor
namespace Go.Abs
open Go
variable {T:Ad}
theorem AK{F:List aD}:∀{J:SK} {lv:Nat},fq J lv=some F->lv<J.length
 |[],lv,h=>by simp[fq]at h
 |s::J,lv,h=>by
  simp only[fq]at h;split at h
  .rename_i h1;simp;omega
  .have:=AK h;simp;omega
section
variable {α:Type} {w:Nat} {enc:α->List D} (hw:∀x,(enc x).length=w) {p:α->Bool} {fv:D} {l:List α} {lv bi v:Nat} {F:List aD}
include hw in
theorem J2(hF:F[bi]?=some (.cells v (fM l enc)))(hl:l.length<=9223372036854775807)(ht:oJ T fv (λx => .agg (enc x)) p l){J:SK}(hs:fq J lv=some F):∀(m i:Nat),i+m=l.length ->
  WL T [0,1,7,8] false (J1 true w) [(0,.sl lv bi v 0 l.length w),(1,fv),(7,iI l.length),(8,iI i)] J
   (λx e J'=>J'=J/\if idxOf p (l.drop i)<0 then x=.exit 0 else x=.ret/\get e 4=iI (i+idxOf p (l.drop i)))
 |0,i,hi=>by
  obtain⟨h1,h2,h3⟩:=ht;refine aB (J1.eq_1 _ _) ?_;have:¬i<l.length:=by omega
  have h5:l.drop i=[]:=by simp;omega
  simp[this,h2,h5,idxOf]
 |m+1,i,hi=>by
  have ih:=J2 hF hl ht hs m (i+1) (by omega);obtain⟨h1,h2,h3⟩:=ht;refine aB (J1.eq_1 _ _) ?_;have h4:i<l.length:=by omega
  obtain⟨x,hx⟩:=gE h4;have h5:=pA (f:=enc) hw hx;have h6:=h3 x (aj hx) J;have h7:=cr h4 hl;have h8:l.drop i=x::l.drop (i+1):=bD hx;have e1:∀r:List D,(enc x++r).take w=enc x:=λr=>by rw[<- hw x];simp
  have e2:∀r:Nat,w<=(enc x).length+r:=λr=>by rw[hw];omega
  cases hp:p x
  .rw[hp]at h6;simp[h4,h1,h2,h5,h6,h7,hs,hF,e1,e2];refine WL.mono (by simpa using ih) ?_;rintro x e J' ⟨h9,h10⟩;refine⟨h9,?_⟩;rw[h8];simp only[idxOf,hp,aC,if_false];by_cases h11:idxOf p (l.drop (i+1))<0
   .simpa[h11]using h10
   .rw[if_neg h11]at h10;rw[if_neg h11,if_neg (by omega)];refine⟨h10.1,?_⟩;rw[h10.2];congr 1;push_cast;omega
  .rw[hp]at h6;simp[h4,h1,h2,h5,h6,hs,hF,e1,e2,h8,idxOf,hp]
include hw in
theorem J3{f:Nat}(hT:T f=some (uG true w))(hF:F[bi]?=some (.cells v (fM l enc)))(hl:l.length<=9223372036854775807)(ht:oJ T fv (λx => .agg (enc x)) p l){J:SK}(hs:fq J lv=some F):
  dj T (.call false f [.sl lv bi v 0 l.length w,fv] J)=some (.val (iI (idxOf p l)) J):=by
 refine au hT (uG.eq_1 _ _) rfl ?_;have hlt:=AK hs;have h:=J2 hw hF hl ht (lv:=lv) (F:=F) (J:=[]::J) (by simp[fq,hs,show ¬J.length=lv by omega]) l.length 0 (by simp);obtain⟨h1,h2,h3⟩:=ht;simp[h2];refine WL.mono (by simpa using h) ?_;rintro x e J' ⟨rfl,h10⟩
 try simp only[aE]at h10
 by_cases h11:idxOf p l<0
 .rw[if_pos h11]at h10;subst h10;have:idxOf p l = -1:=by
   cases l with
   |nil=>rfl
   |cons a l =>
    simp only[idxOf]at h11 ⊢;split at h11<;>rename_i ha
    .omega
    .rw[if_neg ha];split at h11<;>rename_i hb
     .rw[if_pos hb]
     .omega
  simp[this]
 .rw[if_neg h11]at h10;obtain⟨rfl,h12⟩:=h10
  try simp at h12
  simp[h12]
include hw in
theorem Ez{f i:Nat}(hT:T f=some (iX i))(hi:T i=some (uG true w))(hF:F[bi]?=some (.cells v (fM l enc)))(hl:l.length<=9223372036854775807)(ht:oJ T fv (λx => .agg (enc x)) p l){J:SK}(hs:fq J lv=some F):
  dj T (.call false f [.sl lv bi v 0 l.length w,fv] J)=some (.val (.bool (l9 l p)) J):=by
 refine au hT (iX.eq_1 _) rfl ?_;have hlt:=AK hs;have h:=J3 hw hi hF hl ht (lv:=lv) (F:=F) (J:=[]::J) (by simp[fq,hs,show ¬J.length=lv by omega]);obtain⟨h1,h2,h3⟩:=ht;have h4:decide (0<=idxOf p l)=l9 l p:=by
  unfold l9;have h6:=Hj (p:=p) (l:=l);cases h5:l.any p
  .have:=h6.2 h5;exact decide_eq_false (by omega)
  .exact decide_eq_true (by
    have:¬idxOf p l<0:=λh=>by rw[h6.1 h]at h5;cases h5
    omega)
 simp[h1,h2,h,h4]
include hw in
theorem Jr{f g h i:Nat}(hf:T f=some (FQ g h))(hg:T g=some (Af true w))(hh:T h=some (iX i))(hi:T i=some (uG true w))
  (hF:F[bi]?=some (.cells v (fM l enc))) (hl:l.length<=9223372036854775807) (ht:oJ T fv (λx => .agg (enc x)) p l) (hcl:fv.cells=some [fv]) {J:SK} (hs:fq J lv=some F):
  dj T (.call false f [.sl lv bi v 0 l.length w,fv] J)=some (.val (.bool (da l p)) J):=by
 refine au hf (FQ.eq_1 _ _) rfl ?_;have hlt:=AK hs;have h:=Ez hw hh hi hF hl (R8 (xJ w enc hw) hg ht) (lv:=lv) (F:=F) (J:=[]::J) (by simp[fq,hs,show ¬J.length=lv by omega]);obtain⟨h1,h2,h3⟩:=ht;have h4:(l9 l λx => !p x) = !da l p:=by
  unfold l9 da;rw[List.all_eq_not_any_not,Bool.not_not]
 simp[h1,h,h4,hcl]
end
end Go.Abs
namespace Go.Proofs.YtpapbbojmclkgaaGreatDoor
open Go Go.Abs Go.Rock
variable {J:SK}
theorem Tw{b:bU}{m:bV}{s:List Rock.aD}(h:Bv b){lv bi v:Nat}{F:List Abs.aD}(hF:F[bi]?=some (.cells v (fM s aD.enc)))(hs:fq J lv=some F)(hl:s.length=b.n):
  Cl qQ [.agg (bM b m),.sl lv bi v 0 s.length 3] (.bool (pQ b s)) J:=by
 refine au rfl rfl rfl ?_;have hlt:=AK hs;have hz:=h.sz;have hn:=h.n;have hsz:=λJ=>AM (J:=J) h
 have ha:=Jr (T:=T) (w:=3) (enc:=aD.enc) (λ_=>rfl) (f:=oH) (g:=ni) (h:=gQ) (i:=jC) (l:=s) (p:=Rock.aD.valid) (fv:=.fn nL [] []) rfl rfl rfl rfl hF (by omega) (oJ.fn λx _ J=>P8) rfl (lv:=lv) (F:=F) (J:=[]::J) (by simp[fq,hs,show ¬J.length=lv by omega]);unfold pQ;have hc3:((b.n:Nat):Int)=b.size:=hz.symm;rw[hl]at ha ⊢;cases hc:da s Rock.aD.valid<;>simp[hsz,ha,hc,hc3]
def jsD(js:List Nat):List D:=js.map λj=>iI (j:Nat)
def UD(n:Nat)(js:List Nat):List Nat:=(List.range n).filter λj => !(js.contains j)
theorem ZC{js:List Nat}{j:Nat}:iI (j:Nat)∈jsD js↔j∈js:=by
 simp only[jsD,bJ];constructor
 .rintro⟨a,h1,h2⟩;simp only[D.int.injEq,true_and]at h2;have:a=j:=by omega
  exact this ▸ h1
 .intro h;exact⟨j,h,rfl⟩
def KN(b:bU)(m:bV)(s:List Rock.aD)(aF:List Int)(L:Nat):Env :=
 [(1,lF s aD.enc),(2,lF aF aT),(3,.bf (bM b m)),(9,.sl L 1 1 0 s.length 3),(23,.kV L 6)]
def stT(A X Y Z:Abs.aD)(J:SK)(es:List ((Nat×Nat)×Rock.aD))(s:List Rock.aD)(it:Abs.aD):SK :=
 [A,.cells 1 (fM s aD.enc),.cells 0 (FN es),X,Y,Z,it]::J
def itB(L n:Nat)(js:List Nat):Abs.aD:=.cells 1 (.kV L 2::iI (n:Nat)::jsD js)
theorem WG{A X Y Z:Abs.aD}{es:List ((Nat×Nat)×Rock.aD)}{s:List Rock.aD}{js:List Nat}:
  Ik (stT A X Y Z J es s (itB J.length es.length js)) J.length 6=some (.kV J.length 2,es.length,jsD js,UD es.length js):=by
 have hl:(FN es).length=es.length:=by simp[FN]
 simp[Ik,stT,itB,CV,hl,UD,ZC]
theorem ahg{n:Nat}{js:List Nat}{u:Nat}(hu:u∈UD n js):(UD n (u::js)).length<(UD n js).length:=by
 have e:UD n (u::js)=(UD n js).filter λj => !decide (j=u):=by
  unfold UD;rw[List.filter_filter];congr 1;funext j;simp[Bool.not_or]
 rw[e,List.length_filter_lt_length_iff_exists];exact⟨u,hu,by simp⟩
theorem aci{b:bU}{m:bV}{s:List Rock.aD}{aF:List Int}{A X Y Z:Abs.aD}{es:List ((Nat×Nat)×Rock.aD)}{r:R}(hs:Sv b s)(hes:∀e∈es,UF b e)(hel:es.length<=192)
  (hr:WC (dj T) eV ((25,.bool false)::(24,.undef)::KN b m s aF J.length) (stT A X Y Z J es (es.foldl ct s) .dead) λx e' J'=>r=.EA x e' J'):
  ∀(k:Nat) (js:List Nat),js.Nodup->(∀j∈js,j<es.length)->(UD es.length js).length=k ->
   dj T (.iq [1,2,3,9,23] (.t 23) 24 25 0 iO eV (KN b m s aF J.length) (stT A X Y Z J es (js.foldr (λj s=>K1 es s j) s) (itB J.length es.length js)))=some r:=by
 intro k;induction k using Nat.strongRecOn with
 |_ k ih =>
 intro js hd hj hk;by_cases hus:UD es.length js=[]
 .have hall:∀j,j∈js↔j<es.length:=by
   intro j;refine⟨hj j,λhlt=>?_⟩;have h1:j ∉ UD es.length js:=by rw[hus];simp
   simpa[UD,hlt]using h1
  have hfin:js.foldr (λj s=>K1 es s j) s=es.foldl ct s:=by
   rw[<- aao (js:=js.reverse) ((List.reverse_perm js).nodup_iff.2 hd) (λj=>by simp[hall]),List.foldl_reverse]
  rw[hfin];have hit:=WG (J:=J) (A:=A) (X:=X) (Y:=Y) (Z:=Z) (es:=es) (s:=es.foldl ct s) (js:=js);rw[hus]at hit;refine Ui iO.eq_1 rfl (by simp[KN]) hit ?_;simp[stT,KN,itB]at hr ⊢;exact hr
 .have hit:=WG (J:=J) (A:=A) (X:=X) (Y:=Y) (Z:=Z) (es:=es) (s:=js.foldr (λj s=>K1 es s j) s) (js:=js);refine W6 iO.eq_1 rfl (by simp[KN]) hit hus ?_;intro u hu;have hu2:u<es.length/\u ∉ js:=by simpa[UD]using hu
  obtain⟨e,he⟩:∃e,es[u]?=some e:=⟨_,aI hu2.1⟩;have hf:=hes e (aj he);have hnext:=ih _ (by rw[<- hk];exact ahg hu) (u::js) (List.nodup_cons.2 ⟨hu2.2,hd⟩) (by intro j hjm;rcases bj.1 hjm with rfl | hjm;exact hu2.1;exact hj j hjm) rfl;have hb:=S4 hes js s 1000000000000 hs.BD;have hjl:js.length<=192:=by
   have h1:js.length<=es.length:=by
    have:=hd.length_le_of_subset (l₂:=List.range es.length) (λj hjm=>by simpa using hj j hjm);simpa using this
   omega
  have hlen:(js.foldr (λj s=>K1 es s j) s).length=b.n:=by
   have:∀js:List Nat,(js.foldr (λj s=>K1 es s j) s).length=s.length:=by
    intro js;induction js with
    |nil=>rfl
    |cons a l ih=>simp only[List.foldr_cons,aap];exact ih
   rw[this,hs.len]
  simp only[List.foldr_cons]at hnext;generalize hs1:js.foldr (λj s=>K1 es s j) s=s1 at *
  have hstp:K1 es s1 u=cj (cj s1 e.1.1 e.2 (-1)) e.1.2 e.2 1:=by simp[K1,he,ct]
  rw[hstp]at hnext;have hbn:BD 400000000000000 s1:=λx hx=>cY (hb x hx) (by omega)
  have hb1:=pB (i:=e.1.1) (sign := -1) hbn hf.2 (.inr rfl) (by omega);obtain⟨x1,y1⟩:=BN hbn (i:=e.1.1) (by have:=hf.1.1;omega);obtain⟨x2,y2⟩:=BN hb1 (i:=e.1.2) (by rw[GC];have:=hf.1.2;omega);have hM1:∀I,dj T (.call false fx [.ref J.length 1 1 (e.1.1*3),.agg [iI e.2.m,iI e.2.h,iI e.2.k],iI (-1)] ([A,.cells 1 (fM s1 aD.enc),.cells 0 (FN es),X,Y,Z,I]::J)) =
    some (.val (.cV []) ([A,.cells 1 (fM (cj s1 e.1.1 e.2 (-1)) aD.enc),.cells 0 (FN es),X,Y,Z,I]::J)) :=
   λI=>Jc (F:=[A,.cells 1 (fM s1 aD.enc),.cells 0 (FN es),X,Y,Z,I]) (j:=1) rfl x1 (cY y1 (by omega)) (cY hf.2 (by omega)) (.inr rfl)
  have hM2:∀I,dj T (.call false fx [.ref J.length 1 1 (e.1.2*3),.agg [iI e.2.m,iI e.2.h,iI e.2.k],iI 1] ([A,.cells 1 (fM (cj s1 e.1.1 e.2 (-1)) aD.enc),.cells 0 (FN es),X,Y,Z,I]::J)) =
    some (.val (.cV []) ([A,.cells 1 (fM (cj (cj s1 e.1.1 e.2 (-1)) e.1.2 e.2 1) aD.enc),.cells 0 (FN es),X,Y,Z,I]::J)) :=
   λI=>Jc (F:=[A,.cells 1 (fM (cj s1 e.1.1 e.2 (-1)) aD.enc),.cells 0 (FN es),X,Y,Z,I]) (j:=1) rfl x2 (cY y2 (by omega)) (cY hf.2 (by omega)) (.inl rfl)
  have hfe:(FN es)[u]?=some (.cV [.agg [iI e.1.1,iI e.1.2],.agg [iI e.2.m,iI e.2.h,iI e.2.k]]):=by simp[FN,he]
  have hfl:(FN es).length=es.length:=by simp[FN]
  have hE:CW ([A,.cells 1 (fM s1 aD.enc),.cells 0 (FN es),X,Y,Z,.cells 1 (.kV J.length 2::iI (es.length:Nat)::iI (u:Nat)::jsD js)]::J) .ent [.kV J.length 6] =
    some (.cV [.agg [iI e.1.1,iI e.1.2],.agg [iI e.2.m,iI e.2.h,iI e.2.k]],[A,.cells 1 (fM s1 aD.enc),.cells 0 (FN es),X,Y,Z,.cells 1 (.kV J.length 2::iI (es.length:Nat)::iI (u:Nat)::jsD js)]::J):=by
   simp[CW,CV,hfl,hfe]
  have hi1:e.1.1<s.length:=by have:=hf.1.1;have:=hs.len;omega
  have hi2:e.1.2<s.length:=by have:=hf.1.2;have:=hs.len;omega
  simp[KN,stT,itB,hE,hM1,hM2,hi1,hi2];simpa[KN,stT,itB,jsD]using hnext
theorem GV{b:bU}(h:Bv b):∀w∈b.av,(0<=w.b/\w.b<(b.n:Int))/\(0<=w.h/\w.h<=3000)/\(0<=w.m/\w.m<=1000000):=by
 have key:∀(l:List bG) (u:List Int),nT b.size u l=true->∀w∈l,(0<=w.b/\w.b<(b.n:Int))/\(0<=w.h/\w.h<=3000)/\(0<=w.m/\w.m<=1000000):=by
  intro l;induction l with
  |nil=>intro u _ w hw;cases hw
  |cons a l ih =>
   intro u hu w hw;simp only[nT,bG.ok,af]at hu;obtain⟨⟨h1,h2,h3,h4⟩,h5⟩:=hu;rcases bj.1 hw with rfl | hw
   .have hs:=h.sz;have:=aS.1 h1;unfold bU.size at this;exact⟨⟨this.1,by omega⟩,aS.1 h3,aS.1 h4⟩
   .exact ih _ h5 w hw
 exact key _ _ h.ok
theorem mulR{a r A R:Int}(ha:0<=a/\a<=A)(hr : -R<=r/\r<=R) : -(R*A)<=r*a/\r*a<=R*A:=by
 rcases eS 0 r with h | h
 .have:=iS h hr.2 ha.1 ha.2;have h2:=bF (show 0<=R by omega) (show 0<=A by omega);omega
 .have:=iS (a := -r) (A:=R) (by omega) (by omega) ha.1 ha.2;rw[Int.neg_mul]at this;have h2:=bF (show 0<=R by omega) (show 0<=A by omega);omega
theorem JZ{w:bG}{r:Int}(hr : -100000<=r/\r<=100000)(h1:0<=w.h/\w.h<=3000)(h2:0<=w.m/\w.m<=1000000):sm (w.given r) 1000000000000:=by
 have b1:=mulR h1 hr;have b2:=mulR h2 hr;exact⟨⟨by simp only[bG.given];omega,by simp only[bG.given];omega⟩,⟨by simp only[bG.given,Int.neg_mul];omega,by simp only[bG.given,Int.neg_mul];omega⟩,⟨by simp only[bG.given,Int.neg_mul];omega,by simp only[bG.given,Int.neg_mul];omega⟩⟩
theorem Qz{b:bU}{m:bV}(h:Fv b m){i:Nat}(hi:i<b.n):sm (Ic b m i) 1000000000000:=by
 have b1:=h.feed i hi;have b2:=h.bv.deep;have b3:=iS b1.1 b1.2 b2.1 b2.2;exact⟨⟨by simp only[Ic];omega,by simp only[Ic];omega⟩,⟨by simp only[Ic];omega,by simp only[Ic];omega⟩,⟨by simp[Ic],by simp[Ic]⟩⟩
def eF(b:bU)(s s1:List Rock.aD)(aF:List Int)(j:Nat):List Rock.aD:=((b.av.zip aF).take j).foldl (λn wr=>l7 s n wr.1 wr.2) s1
def ll(b:bU)(m:bV)(s2:List Rock.aD)(i:Nat):List Rock.aD:=(List.range i).foldl (λn i=>cj n i (Ic b m i) 1) s2
theorem GU{b:bU}{s s1:List Rock.aD}{aF:List Int}{j:Nat}{w:bG}{r:Int}(h1:b.av[j]?=some w)(h2:aF[j]?=some r):eF b s s1 aF (j+1)=l7 s (eF b s s1 aF j) w r:=by
 have:(b.av.zip aF)[j]?=some (w,r):=by rw[List.getElem?_zip_eq_some];exact⟨h1,h2⟩
 unfold eF;rw[List.take_add_one,this,List.foldl_append];rfl
theorem Dm{b:bU}{m:bV}{s2:List Rock.aD}{i:Nat}:ll b m s2 (i+1)=cj (ll b m s2 i) i (Ic b m i) 1:=by
 unfold ll;rw[List.range_succ,List.foldl_append];rfl
theorem yo{b:bU}{m:bV}{s2:List Rock.aD}:∀i,(ll b m s2 i).length=s2.length
 |0=>rfl
 |i+1=>by rw[Dm,GC,yo i]
theorem X2{b:bU}{s:List Rock.aD}{aF:List Int}{j:Nat}{w:bG}{r:Int}(h1:b.av[j]?=some w)(h2:aF[j]?=some r):(bI b s aF)[j]?=some (ic s w r):=by
 have:(b.av.zip aF)[j]?=some (w,r):=by rw[List.getElem?_zip_eq_some];exact⟨h1,h2⟩
 simp[bI,this]
structure Rv(b:bU)(aF:List Int):Prop where
 len:aF.length=b.av.length
 ok:∀r∈aF,-100000<=r/\r<=100000
theorem Rv.of{b:bU}{aF:List Int}(h:pD b aF=0):Rv b aF:=by
 unfold pD at h;split at h
 .rename_i hl;split at h
  .rename_i ha;exact⟨hl,λr hr=>aS.1 (eO.1 ha r hr)⟩
  .cases h
 .cases h
theorem ZO{b:bU}{s next:List Rock.aD}(h:Bv b)(hs:Sv b s){aF:List Int}(hr:Rv b aF){j:Nat}{w:bG}{r:Int}(h1:b.av[j]?=some w)(h2:aF[j]?=some r){N:Int}(hb:BD N next):BD (N+1000000000000) (l7 s next w r):=by
 have hw:=GV h w (aj h1);have hrr:=hr.ok r (aj h2);obtain⟨_,m1,m2,m3⟩:=hs.at (i:=w.b.toNat) (by omega);have d2:=aO (b:=8) (show 0<=(aP s w.b.toNat).m by omega);unfold l7 ic;split
 .exact pB hb (JZ hrr hw.2.1 hw.2.2) (.inl rfl) (by omega)
 .exact pB hb (M5 m1 m2 m3 ⟨by rw[d2];omega,by rw[d2];omega⟩) (.inr rfl) (by omega)
theorem NC{s n:List Rock.aD}{w:bG}{r:Int}:(l7 s n w r).length=n.length:=by
 unfold l7;split<;>simp[GC]
theorem yY{b:bU}{s s1:List Rock.aD}(h:Bv b)(hs:Sv b s){aF:List Int}(hr:Rv b aF)(hb:BD 500000000000000 s1):∀j,j<=aF.length->BD (500000000000000+1000000000000*j) (eF b s s1 aF j)/\(eF b s s1 aF j).length=s1.length
 |0,_=>⟨by simpa[eF]using hb,by simp[eF]⟩
 |j+1,hj=>by
  obtain⟨r,h2⟩:∃r,aF[j]?=some r:=gE (by omega);obtain⟨w,h1⟩:∃w,b.av[j]?=some w:=⟨_,aI (by rw[<- hr.len];omega)⟩;obtain⟨ih1,ih2⟩:=yY h hs hr hb j (by omega);rw[GU h1 h2];have h3:=ZO h hs hr h1 h2 ih1;exact⟨λx hx=>cY (h3 x hx) (by push_cast;omega),by rw[NC,ih2]⟩
theorem Lu{b:bU}{m:bV}{s2:List Rock.aD}(h:Fv b m)(hb:BD 600000000000000 s2):∀i,i<=b.n->BD (600000000000000+1000000000000*i) (ll b m s2 i)
 |0,_=>by simpa[ll]using hb
 |i+1,hi=>by
  have ih:=Lu h hb i (by omega);rw[Dm];have h3:=pB (i:=i) ih (Qz h (i:=i) (by omega)) (.inl rfl) (by omega);exact λx hx=>cY (h3 x hx) (by push_cast;omega)
theorem Zg{b:bU}{j:Nat}{w:bG}(h:b.av[j]?=some w):((fM b.av bG.enc).drop (j*3)).take 3=[iI w.b,iI w.h,iI w.m] :=
 bu (f:=bG.enc) (w:=3) (λ_=>rfl) h
theorem RW{b:bU}{m:bV}{s s1:List Rock.aD}{aF:List Int}{A FL X Y Z W:Abs.aD}(h:Fv b m)(hs:Sv b s)(hr:Rv b aF)(hb:BD 500000000000000 s1)(hl1:s1.length=s.length):∀(k j v:Nat),j+k=aF.length ->
  WL T [1,3,9,12,41,42,43] false gL [(1,lF s aD.enc),(3,.bf (bM b m)),(9,.sl J.length 1 1 0 s.length 3),(12,.sl J.length 7 v 0 j 3),(41,lF aF aT),(42,iI aF.length),(43,iI j)]
   ([A,.cells 1 (fM (eF b s s1 aF j) aD.enc),FL,X,Y,Z,W,.cells v (fM ((bI b s aF).take j) aD.enc)]::J)
   (λx e J'=>x=.exit 2/\get e 3=.bf (bM b m)/\get e 9=.sl J.length 1 1 0 s.length 3/\get e 12=.sl J.length 7 (v+k) 0 aF.length 3 /\
    J'=[A,.cells 1 (fM (eF b s s1 aF aF.length) aD.enc),FL,X,Y,Z,W,.cells (v+k) (fM (bI b s aF) aD.enc)]::J)
 |0,j,v,hj=>by
  refine aB gL.eq_1 ?_;obtain rfl:j=aF.length:=by omega
  have hyl:(bI b s aF).length=aF.length:=by simp[bI,hr.len]
  have h3:(bI b s aF).take aF.length=bI b s aF:=ai (by omega);simp[h3]
 |k+1,j,v,hj=>by
  refine aB gL.eq_1 ?_;have h1:j<aF.length:=by omega
  have hwl:=h.bv.av;have hrl:=hr.len;obtain⟨r,hr2⟩:∃r,aF[j]?=some r:=gE (by omega);obtain⟨w,hw1⟩:∃w,b.av[j]?=some w:=gE (by omega);have hw:=GV h.bv w (aj hw1);have hrr:=hr.ok r (aj hr2);have hwn:w.b.toNat<b.n:=by omega
  have hlen:=hs.len;obtain⟨x0,m1,m2,m3⟩:=hs.at (i:=w.b.toNat) hwn;obtain⟨ib,il⟩:=yY h.bv hs hr hb j (by omega);obtain⟨x1,y1⟩:=BN ib (i:=w.b.toNat) (by omega);have h4:=cr h1 (by omega);have a1:=Zg hw1;have a2:=gr hr2;have a3:=bu (f:=aD.enc) (w:=3) (λ_=>rfl) x0;have hy:=X2 (s:=s) hw1 hr2;have f3:=Bm (f:=aD.enc) hy;have hyl:(bI b s aF).length=aF.length:=by simp[bI,hr.len]
  have f4:=sW ((bI b s aF).take j);rw[dp,hyl,Nat.min_eq_left (by omega)]at f4;have f6:(fM ((bI b s aF).take j) aD.enc).take (j*3)=fM ((bI b s aF).take j) aD.enc:=ai (by omega);have h7:(j+1)*24<=room:=by unfold room;omega
  have ih:=RW (A:=A) (FL:=FL) (X:=X) (Y:=Y) (Z:=Z) (W:=W) h hs hr hb hl1 k (j+1) (v+1) (by omega);have hsucc:=GU (s:=s) (s1:=s1) hw1 hr2;have hB0:(0:Int)<=w.b:=hw.1.1;have⟨hB1,hjw⟩:w.b<(s.length:Int)/\j<b.av.length:=by omega
  have d2:=aO (b:=8) (show 0<=(aP s w.b.toNat).m by omega);by_cases hc:r<0
  .have hg:=λJ=>Yw (J:=J) hrr hw.2.1 hw.2.2
   have hM:∀V,dj T (.call false fx [.ref J.length 1 1 (w.b.toNat*3),.agg [iI (w.given r).m,iI (w.given r).h,iI (w.given r).k],iI 1] ([A,.cells 1 (fM (eF b s s1 aF j) aD.enc),FL,X,Y,Z,W,V]::J)) =
     some (.val (.cV []) ([A,.cells 1 (fM (eF b s s1 aF (j+1)) aD.enc),FL,X,Y,Z,W,V]::J)):=by
    intro V;rw[hsucc,l7,if_pos hc];exact Jc (F:=[A,.cells 1 (fM (eF b s s1 aF j) aD.enc),FL,X,Y,Z,W,V]) (j:=1) rfl x1 (cY y1 (by omega)) (cY (JZ hrr hw.2.1 hw.2.2) (by omega)) (.inl rfl)
   have hwy:ic s w r=⟨0,0,0⟩:=by simp[ic,hc]
   rw[hwy]at f3;simp only[bG.enc,aD.enc]at hg;simp[h1,h4,a1,a2,f4,f6,h7,hB0,hB1,hjw,hc,hg,hM];refine WL.to ih (by simp[]) (by simp[<- f3]) λx e J hh=>by simpa[dA,Nat.add_comm 1 k]using hh
  .have w7:=cf (n:=(aP s w.b.toNat).m.tdiv 8) (by rw[d2];omega);have hO:=λJ=>Vh (J:=J) (q:=min r ((aP s w.b.toNat).m.tdiv 8)) m1 m2 m3 ⟨by rw[d2];omega,by rw[d2];omega⟩
   have hos:=M5 (q:=min r ((aP s w.b.toNat).m.tdiv 8)) m1 m2 m3 ⟨by rw[d2];omega,by rw[d2];omega⟩;have hwy:ic s w r=(aP s w.b.toNat).out (min r ((aP s w.b.toNat).m.tdiv 8)):=by simp[ic,hc]
   have hsucc':eF b s s1 aF (j+1)=cj (eF b s s1 aF j) w.b.toNat ((aP s w.b.toNat).out (min r ((aP s w.b.toNat).m.tdiv 8))) (-1):=by
    rw[hsucc,l7,if_neg hc,hwy]
   rw[hwy]at f3;generalize hQ:min r ((aP s w.b.toNat).m.tdiv 8)=Q at *
   generalize (aP s w.b.toNat).out Q=O at *
   have hM:∀V,dj T (.call false fx [.ref J.length 1 1 (w.b.toNat*3),.agg [iI O.m,iI O.h,iI O.k],iI (-1)] ([A,.cells 1 (fM (eF b s s1 aF j) aD.enc),FL,X,Y,Z,W,V]::J)) =
     some (.val (.cV []) ([A,.cells 1 (fM (eF b s s1 aF (j+1)) aD.enc),FL,X,Y,Z,W,V]::J)):=by
    intro V;rw[hsucc'];exact Jc (F:=[A,.cells 1 (fM (eF b s s1 aF j) aD.enc),FL,X,Y,Z,W,V]) (j:=1) rfl x1 (cY y1 (by omega)) (cY hos (by omega)) (.inr rfl)
   simp only[aD.enc]at hO;simp[h1,h4,a1,a2,a3,f4,f6,h7,hB0,hB1,hjw,hc,w7,hQ,hO,hM];refine WL.to ih (by simp[]) (by simp[<- f3]) λx e J hh=>by simpa[dA,Nat.add_comm 1 k]using hh
theorem VH{b:bU}{m:bV}{s2:List Rock.aD}{A FL X Y Z W V:Abs.aD}{d12:D}(h:Fv b m)(hb:BD 600000000000000 s2)(hl2:s2.length=b.n)(hd:d12.strip=d12/\d12.calm=d12):∀(k i:Nat),i+k=b.n ->
  WL T [3,9,12,93,94] false gM [(3,.bf (bM b m)),(9,.sl J.length 1 1 0 b.n 3),(12,d12),(93,iI b.n),(94,iI i)]
   ([A,.cells 1 (fM (ll b m s2 i) aD.enc),FL,X,Y,Z,W,V]::J)
   (λx e J'=>x=.exit 4/\get e 3=.bf (bM b m)/\get e 9=.sl J.length 1 1 0 b.n 3/\get e 12=d12/\J'=[A,.cells 1 (fM (ll b m s2 b.n) aD.enc),FL,X,Y,Z,W,V]::J)
 |0,i,hi=>by
  refine aB gM.eq_1 ?_;obtain rfl:i=b.n:=by omega
  simp[hd]
 |k+1,i,hi=>by
  refine aB gM.eq_1 ?_;have h1:i<b.n:=by omega
  have hn:=h.bv.n;have h4:=cr h1 (by omega);have hf:=λJ=>afe (J:=J) h h1
  have ih:=VH (A:=A) (FL:=FL) (X:=X) (Y:=Y) (Z:=Z) (W:=W) (V:=V) h hb hl2 hd k (i+1) (by omega);have ib:=Lu h hb i (by omega);obtain⟨x1,y1⟩:=BN ib (i:=i) (by rw[yo,hl2];omega);have hM:dj T (.call false fx [.ref J.length 1 1 (i*3),.agg [iI (Ic b m i).m,iI (Ic b m i).h,iI (Ic b m i).k],iI 1] ([A,.cells 1 (fM (ll b m s2 i) aD.enc),FL,X,Y,Z,W,V]::J)) =
    some (.val (.cV []) ([A,.cells 1 (fM (ll b m s2 (i+1)) aD.enc),FL,X,Y,Z,W,V]::J)):=by
   rw[Dm];exact Jc (F:=[A,.cells 1 (fM (ll b m s2 i) aD.enc),FL,X,Y,Z,W,V]) (j:=1) rfl x1 (cY y1 (by omega)) (cY (Qz h h1) (by omega)) (.inl rfl)
  simp only[aD.enc]at hf;simp[h1,h4,hf,hM,hd];refine WL.to ih (by simp[]) rfl λx e J hh=>hh
theorem MX{b:bU}{m:bV}{s:List Rock.aD}{aF:List Int}(hr:Rv b aF)(hl:s.length=b.n):ll b m (eF b s ((sH b m s).foldl ct s) aF aF.length) b.n=mu b m s aF:=by
 have:(b.av.zip aF).take aF.length=b.av.zip aF:=ai (by rw[List.length_zip];omega);simp only[mu,ll,eF,this,hl]
theorem Lz{b:bU}{m:bV}{s:List Rock.aD}(h:Fv b m)(hs:Sv b s):BD 500000000000000 ((sH b m s).foldl ct s)/\((sH b m s).foldl ct s).length=s.length:=by
 obtain⟨h1,h2⟩:=OO (m:=m) h.bv hs;have key:∀(es:List ((Nat×Nat)×Rock.aD)) (s:List Rock.aD) (N:Int),(∀e∈es,UF b e)->BD N s->BD (N+2000000000000*es.length) (es.foldl ct s)/\(es.foldl ct s).length=s.length:=by
  intro es;induction es with
  |nil=>intro s N _ h;exact⟨by simpa using h,rfl⟩
  |cons e es ih =>
   intro s N he hb;obtain⟨a1,a2⟩:=ih (ct s e) _ (λx hx=>he x (by simp[hx])) (OM hb (he e (by simp)));simp only[List.foldl_cons,aK];exact⟨λx hx=>cY (a1 x hx) (by push_cast;omega),by rw[a2,ON]⟩
 obtain⟨a1,a2⟩:=key _ s _ h1 hs.BD;exact⟨λx hx=>cY (a1 x hx) (by omega),a2⟩
theorem abY{b:bU}{m:bV}{s s1:List Rock.aD}{aF:List Int}{A FL X Y Z W:Abs.aD}(h:Fv b m)(hs:Sv b s)(hr:Rv b aF)(hb:BD 500000000000000 s1)(hl1:s1.length=s.length):
  WC (dj T) eV ((25,.bool false)::(24,.undef)::KN b m s aF J.length) ([A,.cells 1 (fM s1 aD.enc),FL,X,Y,Z,W]::J) λx e J' =>
   x=.ret/\J'=[A,.cells 1 (fM (ll b m (eF b s s1 aF aF.length) b.n) aD.enc),FL,X,Y,Z,W,.cells aF.length (fM (bI b s aF) aD.enc)]::J /\
   (if pQ b (ll b m (eF b s s1 aF aF.length) b.n)=true then get e 6=.sl J.length 1 1 0 b.n 3/\get e 7=.sl J.length 7 aF.length 0 aF.length 3/\get e 8=iI 0
    else get e 6=.aW/\get e 7=.aW/\get e 8=iI 9):=by
 have hl:=hs.len;have hn:=h.bv.n;have hwl:=h.bv.av;have hrl:=hr.len;obtain⟨wb,wl⟩:=yY h.bv hs hr hb aF.length (aL _);have fl:=yo (b:=b) (m:=m) (s2:=eF b s s1 aF aF.length) b.n;rw[AP eV.eq_1];simp[KN];refine WL.to (RW (J:=J) (A:=A) (FL:=FL) (X:=X) (Y:=Y) (Z:=Z) (W:=W) h hs hr hb hl1 aF.length 0 0 (by omega)) (by simp[]) (by simp[eF]) ?_;rintro x e J' ⟨rfl,g3,g9,g12,rfl⟩;rw[hl]at g9;simp[g3,g9,g12];refine WL.to (VH (J:=J) (A:=A) (FL:=FL) (X:=X) (Y:=Y) (Z:=Z) (W:=W) (V:=.cells (0+aF.length) (fM (bI b s aF) aD.enc)) (d12:=.sl J.length 7 (0+aF.length) 0 aF.length 3) h (λx hx=>cY (wb x hx) (by omega)) (by rw[wl,hl1,hl]) ⟨rfl,rfl⟩ b.n 0 (by omega)) (by simp[]) (by simp[ll]) ?_;rintro x e J' ⟨rfl,g3,g9,g12,rfl⟩;have hS:=Tw (m:=m) (b:=b) (s:=ll b m (eF b s s1 aF aF.length) b.n) h.bv (lv:=J.length) (bi:=1) (v:=1) (F:=[A,.cells 1 (fM (ll b m (eF b s s1 aF aF.length) b.n) aD.enc),FL,X,Y,Z,W,.cells (0+aF.length) (fM (bI b s aF) aD.enc)]) (J:=[A,.cells 1 (fM (ll b m (eF b s s1 aF aF.length) b.n) aD.enc),FL,X,Y,Z,W,.cells (0+aF.length) (fM (bI b s aF) aD.enc)]::J) rfl (by simp[fq]) (by rw[fl,wl,hl1,hl]);rw[show(ll b m (eF b s s1 aF aF.length) b.n).length=b.n by rw[fl,wl,hl1,hl]]at hS;cases hc:pQ b (ll b m (eF b s s1 aF aF.length) b.n)
 .rw[hc]at hS;simp at hS;simp[g3,g9,g12,hS]
 .rw[hc]at hS;simp at hS;simp[g3,g9,g12,hS]
def XV(b:bU)(m:bV)(s:List Rock.aD)(aF:List Int):D:=match tick b m s aF with
 |some (s',y) => .cV [lF s' aD.enc,lF y aD.enc,.int .i64 0]
 |none => .cV [.aW,.aW,.int .i64 9]
theorem ab6{b:bU}{m:bV}{s:List Rock.aD}{aF:List Int}(h:Fv b m)(hs:Sv b s)(hr:Rv b aF)(hJ:J≠[]):
  Cl sh [.agg (bM b m),lF s aD.enc,lF aF aT] (XV b m s aF) J:=by
 refine au rfl rfl rfl ?_;have hl:=hs.len;have hn:=h.bv.n;have hne:s≠[]:=by intro h0;rw[h0]at hl;simp at hl;omega
 have hC:=Yo (J:=J) (s:=s) (bs:=[]) (by omega) hne;obtain⟨X,Y,Z,hF⟩:=Yu (J:=J) (A:=.cells 0 []) (B:=.cells 1 (fM s aD.enc)) h hs;obtain⟨fb,fl⟩:=Lz h hs;obtain⟨x,e',J',hrun,rfl,rfl,hq⟩:=abY (J:=J) (A:=.cells 0 []) (FL:=.cells 0 (FN (sH b m s))) (X:=X) (Y:=Y) (Z:=Z) (W:=.dead) h hs hr fb fl;obtain⟨f1,f2⟩:=OO (m:=m) h.bv hs;have hM:=aci (J:=J) (aF:=aF) (m:=m) (A:=.cells 0 []) (X:=X) (Y:=Y) (Z:=Z) (es:=sH b m s) hs f1 f2 (r:=.EA .ret e' ([.cells 0 [],.cells 1 (fM (ll b m (eF b s ((sH b m s).foldl ct s) aF aF.length) b.n) aD.enc),.cells 0 (FN (sH b m s)),X,Y,Z,.dead,.cells aF.length (fM (bI b s aF) aD.enc)]::J)) ⟨_,_,_,hrun,rfl⟩ _ [] List.nodup_nil (by simp) rfl;simp only[aY,bx,ck]at hC;have hG:CW ([.cells 0 [],.cells 1 (fM s aD.enc),.cells 0 (FN (sH b m s)),X,Y,Z]::J) .rng [.kV J.length 2]=some (.kV J.length 6,[.cells 0 [],.cells 1 (fM s aD.enc),.cells 0 (FN (sH b m s)),X,Y,Z,itB J.length (sH b m s).length []]::J):=by
  simp[CW,CV,itB,jsD,FN]
 simp[hC,hF,hG];refine⟨_,_,_,by simpa[KN,stT]using hM,?_⟩;rw[MX hr hl]at hq ⊢;have hnl:(mu b m s aF).length=b.n:=by
  rw[<- MX hr hl,yo,(yY h.bv hs hr fb aF.length (aL _)).2,fl,hl]
 have hyl:(bI b s aF).length=aF.length:=by simp[bI,hr.len]
 unfold XV tick;cases hc:pQ b (mu b m s aF)
 .rw[hc]at hq;simp at hq;obtain⟨g6,g7,g8⟩:=hq;simp[g6,g7,g8]
 .rw[hc]at hq;simp only[if_true]at hq;obtain⟨g6,g7,g8⟩:=hq;simp only[if_true];simp[g6,g7,g8];rw[tA (by simp) (by omega)];simp only[lA,nf];rw[<- hnl,nB (f:=aD.enc) (l:=mu b m s aF) (by decide) (λ_=>rfl) (λx=>by simp) hJ (by simp)];simp only[List.set_cons_succ,List.set_cons_zero];rw[<- hyl,nB (f:=aD.enc) (l:=bI b s aF) (by decide) (λ_=>rfl) (λx=>by simp) hJ (by simp)];rw[eW (by simp) (by omega)];exact⟨_,rfl⟩
def kS(s:List Rock.aD):List D:=[lF s aD.enc]
theorem I0(l:List (List Rock.aD)):(fM l kS).length=l.length:=by
 have:=ch (f:=kS) (w:=1) (λ_=>rfl) l;omega
theorem Sv.next{b:bU}{m:bV}{s:List Rock.aD}{aF:List Int}(h:Bv b){s' y:List Rock.aD}(ht:tick b m s aF=some (s',y)):Sv b s':=by
 unfold tick at ht;split at ht
 .rename_i hc;simp only[ae,ar]at ht;obtain⟨rfl,_⟩:=ht;exact(Sv.of h).1 hc
 .cases ht
theorem Nk{n:Nat}(h:n<=1000000):n*24<=room:=by unfold room;omega
theorem aaQ(l:List (List Rock.aD)):D.bd (fM l kS)=true:=fN (λx=>by simp[kS,D.clean,G6]) l
def adZ(b:bU)(m:bV)(J:SK)(r:Option (List (List Rock.aD)×List (List Rock.aD)))(x:Abs.Exit)(e:Env)(J':SK):Prop:=match r with
 |some (ss,ys)=>∃v u,x=.exit 0/\get e 4=.own 0 [.sl J.length 2 v 0 ss.length 1,.sl J.length 1 u 0 ys.length 1]/\J'=[.cells 0 [],.cells u (fM ys kS),.cells v (fM ss kS)]::J
 |none=>x=.ft (.tP 428 (.agg []))/\∃bH,J'=bH::J
theorem VN{b:bU}{m:bV}{az:List (List Int)}(h:Fv b m)(hp:az.length<=200)(hr:∀r∈az,Rv b r):∀(k i v u:Nat) (ss ys:List (List Rock.aD)) (s:List Rock.aD),i+k=az.length->ss.length=i+1->ys.length=i->ss[i]?=some s->Sv b s ->
  WL T [2,4,14,15,16] false iN [(2,.bf (bM b m)),(4,.own 0 [.sl J.length 2 v 0 (i+1) 1,.sl J.length 1 u 0 i 1]),(14,lF az IA),(15,iI az.length),(16,iI i)]
   ([.cells 0 [],.cells u (fM ys kS),.cells v (fM ss kS)]::J) (adZ b m J (nS b m ss ys s (az.drop i)))
 |0,i,v,u,ss,ys,s,hi,h1,h2,h3,hs=>by
  refine aB iN.eq_1 ?_;obtain rfl:i=az.length:=by omega
  have h5:az.drop az.length=[]:=an (by omega);simp[h5,nS,adZ];exact⟨v,u,by simp[h1,h2]⟩
 |k+1,i,v,u,ss,ys,s,hi,h1,h2,h3,hs=>by
  refine aB iN.eq_1 ?_;have⟨hlt,hii⟩:i<az.length/\(i:Int)<i+1:=by omega
  obtain⟨r,hx⟩:=gE hlt;have h4:=cr hlt (by omega);have h5:=bD hx;have a1:=bu (f:=IA) (w:=1) (λ_=>rfl) hx;simp only[IA,cp]at a1;have a2:=pA (f:=kS) (w:=1) (λ_=>rfl) h3;simp only[kS,cp,dJ]at a2;have hT:=λJ hJ=>ab6 (J:=J) h hs (hr r (aj hx)) hJ
  rw[h5,nS];unfold XV at hT;cases ht:tick b m s r with
  |none =>
   rw[ht]at hT;simp only at hT;simp[hlt,hii,a1,a2,hT,adZ]
  |some p =>
   obtain⟨s',y⟩:=p;rw[ht]at hT;simp only at hT;have ih:=VN h hp hr k (i+1) (v+1) (u+1) (ss++[s']) (ys++[y]) s' (by omega) (by simp[h1]) (by simp[h2]) (by simp[<- h1]) (Sv.next h.bv ht);have l1:=I0 ss;have l2:=I0 ys;rw[h1]at l1;rw[h2]at l2;have f1:(fM ss kS).take (i+1)=fM ss kS:=ai (by omega);have f2:(fM ys kS).take i=fM ys kS:=ai (by omega);have h7:=Nk (n:=i+1) (by omega);have h8:=Nk (n:=i+1+1) (by omega);simp[hlt,hii,h4,a1,a2,hT,f1,f2,l1,l2,h7,h8];exact WL.to ih (by simp) (by simp[kS]) λx e J hh=>hh
theorem RB{b:bU}{m:bV}{az:List (List Int)}(h:Fv b m)(hp:az.length<=200)(hr:∀r∈az,Rv b r)(hJ:J≠[]){ss ys:List (List Rock.aD)}(hrun:Rock.run b m az=some (ss,ys)):
  Cl oO [.agg (bM b m),lF az IA] (.agg [lF ss kS,lF ys kS]) J:=by
 refine au rfl rfl rfl ?_;have hf:=λJ hJ=>GX (J:=J) h hJ
 simp only[XN]at hf;simp[hf];refine WL.to (VN (J:=J) h hp hr az.length 0 0 0 [bX b m] [] (bX b m) (by omega) rfl rfl rfl (Sv.first h)) (by simp) (by simp[kS]) ?_;rw[aE,show nS b m [bX b m] [] (bX b m) az=some (ss,ys)from hrun];rintro x e J' ⟨v,u,rfl,g4,rfl⟩;simp[g4];have c1:∀x:List Rock.aD,D.bd (kS x)=true:=λx=>by simp[kS,D.clean,G6]
 rw[D8 (by simp) (by omega)];simp only[lA,nf];rw[nB (f:=kS) (w:=1) (l:=ss) (by decide) (λ_=>rfl) c1 hJ (by simp)];simp only[List.set_cons_succ,List.set_cons_zero];rw[nB (f:=kS) (w:=1) (l:=ys) (by decide) (λ_=>rfl) c1 hJ (by simp)];exact⟨_,rfl⟩
theorem RA{b:bU}{m:bV}{az:List (List Int)}(h:Fv b m)(hp:az.length<=200)(hr:∀r∈az,Rv b r)(hrun:Rock.run b m az=none):
  dj T (.call false oO [.agg (bM b m),lF az IA] J)=some (.ft (.tP 428 (.agg [])) J):=by
 refine dY rfl rfl rfl ?_;have hf:=λJ hJ=>GX (J:=J) h hJ
 simp only[XN]at hf;simp[hf];refine WL.to (VN (J:=J) h hp hr az.length 0 0 0 [bX b m] [] (bX b m) (by omega) rfl rfl rfl (Sv.first h)) (by simp) (by simp[kS]) ?_;rw[aE,show nS b m [bX b m] [] (bX b m) az=none from hrun];rintro x e J' ⟨rfl,bH,rfl⟩;simp[D.clean]
structure sU where
 m:Int
 h:Int
 s:Int
 g:Int
@[simp] def sU.enc(x:sU):List D:=[iI x.m,iI x.h,iI x.s,iI x.g]
def sU.valid(x:sU):Bool:=bA x.m 0 1000000 && (bA x.h 0 (4000*x.m) && (bA x.s 0 (10000*x.m) && bA x.g 0 1000000000))
def eH(r:Rw)(x:sU):Int:=if x.h-x.m*r.l<=0 then 0 else if x.m*r.v<=x.h then x.m else(x.h-x.m*r.l) / (r.v-r.l)
theorem U7{r:Rw}{x:sU}(hr:0<=r.l/\r.l<r.v/\r.v<=4000)(hm:0<=x.m/\x.m<=1000000)(hh:0<=x.h/\x.h<=4000000000):
  Cl qX [.agg r.enc,.agg x.enc] (iI (eH r x)) J:=by
 refine au rfl rfl rfl ?_;have b1:=iS hm.1 hm.2 hr.1 (show r.l<=4000 by omega);have b2:=iS hm.1 hm.2 (show 0<=r.v by omega) hr.2.2;have w1:=cf (n:=x.m*r.l) (by omega);have w2:=cf (n:=x.h-x.m*r.l) (by omega);have w3:=cf (n:=x.m*r.v) (by omega);have w4:=cf (n:=r.v-r.l) (by omega);have hd:¬r.v-r.l=0:=by omega
 unfold eH;by_cases c1:x.h-x.m*r.l<=0
 .simp[w1,w2,c1]
 .by_cases c2:x.m*r.v<=x.h
  .simp[w1,w2,w3,c1,c2]
  .have t1:=aO (b:=r.v-r.l) (show 0<=x.h-x.m*r.l by omega);have q1:=Int.ediv_nonneg (a:=x.h-x.m*r.l) (b:=r.v-r.l) (by omega) (by omega);have q2:=Int.ediv_le_self (b:=r.v-r.l) (show 0<=x.h-x.m*r.l by omega);have w5:=cf (n:=(x.h-x.m*r.l) / (r.v-r.l)) (by omega);simp[w1,w2,w3,w4,c1,c2,hd,t1,w5]
theorem Je{x:sU}:Cl pq [.agg x.enc] (.bool x.valid) J:=by
 refine au rfl rfl rfl ?_;unfold sU.valid;cases h1:bA x.m 0 1000000
 .simp[jH,h1]
 have hm:=aS.1 h1;have w1:=cf (n:=4000*x.m) (by omega);have w2:=cf (n:=10000*x.m) (by omega);cases h2:bA x.h 0 (4000*x.m)
 .simp[jH,h1,h2,w1]
 cases h3:bA x.s 0 (10000*x.m)
 .simp[jH,h1,h2,h3,w1,w2]
 cases h4:bA x.g 0 1000000000<;>simp[jH,h1,h2,h3,h4,w1,w2]
theorem afl{t:List Rw}{i:Nat}{r:Rw}(h:t[i]?=some r):Cl uZ [lF t Rw.enc,iI i] (.agg r.enc) J:=by
 refine au rfl rfl rfl ?_;have h1:i<t.length:=(aA.1 h).1;have h2:=bu (f:=Rw.enc) (w:=5) (λ_=>rfl) h;simp[h1,h2]
theorem aaF{t:List Rw}{n:Int}(hl:t.length<=1000000000):Cl tN [lF t Rw.enc,iI n] (.bool (bA n 0 ((t.length:Int)-1))) J:=by
 refine au rfl rfl rfl ?_;have w1:=cf (n:=(t.length:Int)-1) (by omega);simp[jH,w1]
def wat(r:Rw)(x:sU):Int×Int:=if eH r x=0 then(x.m,x.h)else if eH r x=x.m then(0,0)else(x.m-eH r x,x.h-eH r x*r.v)
def Ny(r:Rw)(x:sU):Int:=if eH r x=0 then 0 else if eH r x=x.m then x.h else eH r x*r.v
def ahi(r:Rw)(x:sU):Int:=if eH r x=0 then x.g else 0
def Nx(r:Rw)(x:sU):Int:=if eH r x=0 then 0 else x.g
def held(r:Rw)(x:sU):Int:=min x.s ((wat r x).1*r.s)
def parts(r:Rw)(x:sU):List D:=[iI (eH r x),iI (Ny r x),iI 0,iI (Nx r x),iI (wat r x).1,iI (wat r x).2,iI (held r x),iI (ahi r x),
 iI (if 0<(wat r x).1 then max 0 ((wat r x).2-(wat r x).1*r.l)else 0),iI (x.s-held r x)]
theorem OS{r:Rw}{x:sU}(hr:0<=r.l/\r.l<r.v/\r.v<=4000)(hm:0<=x.m):0<=eH r x/\eH r x<=x.m/\(eH r x≠0->eH r x≠x.m->0<=x.h-eH r x*r.v+x.m*r.v):=by
 have hmv:x.m*r.v=x.m*r.l+x.m*(r.v-r.l):=by rw[<- Int.mul_add];congr 1;omega
 have hml:=bF hm hr.1;have key:¬x.h-x.m*r.l<=0->¬x.m*r.v<=x.h->0<=(x.h-x.m*r.l) / (r.v-r.l)/\(x.h-x.m*r.l) / (r.v-r.l)<=x.m:=λh1 h2=>⟨Int.ediv_nonneg (by omega) (by omega),Int.ediv_le_of_le_mul (by omega) (by omega)⟩
 have h2:0<=eH r x/\eH r x<=x.m:=by
  unfold eH;by_cases c1:x.h-x.m*r.l<=0
  .rw[if_pos c1];omega
  .rw[if_neg c1];by_cases c2:x.m*r.v<=x.h
   .rw[if_pos c2];omega
   .rw[if_neg c2];exact key c1 c2
 refine⟨h2.1,h2.2,λh3 _=>?_⟩;have h4:=dN h2.2 (show 0<=r.v by omega);have h5:¬x.h-x.m*r.l<=0:=by
  intro hh;exact h3 (by unfold eH;rw[if_pos hh])
 omega
theorem afh{r:Rw}{x:sU}(hr:0<=r.l/\r.l<r.v/\r.v<=4000)(hs:0<=r.s/\r.s<=2000)(hx:x.valid=true):
  Cl u0 [.agg r.enc,.agg x.enc] (.agg (parts r x)) J:=by
 refine au rfl rfl rfl ?_;simp only[sU.valid,af,aS]at hx;obtain⟨hm,hh,hsl,hg⟩:=hx;have hF:=λJ=>U7 (J:=J) hr hm ⟨hh.1,by omega⟩
 obtain⟨f1,f2,f3⟩:=OS hr hm.1;have b1:=iS f1 (show eH r x<=1000000 by omega) (show 0<=r.v by omega) hr.2.2;have b2:=iS (show 0<=x.m-eH r x by omega) (show x.m-eH r x<=1000000 by omega) hs.1 hs.2;have b3:=iS (show 0<=x.m-eH r x by omega) (show x.m-eH r x<=1000000 by omega) hr.1 (show r.l<=4000 by omega);have b4:=iS hm.1 hm.2 hs.1 hs.2;have b5:=iS hm.1 hm.2 hr.1 (show r.l<=4000 by omega);simp only[Rw.enc,sU.enc]at hF;unfold parts held Ny ahi Nx wat;generalize eH r x=m at *
 have w1:=cf (n:=m*r.v) (by omega);have w2:=cf (n:=x.m-m) (by omega);have w3:=cf (n:=x.h-m*r.v) (by omega);have w4:=cf (n:=(x.m-m)*r.s) (by omega);have w5:=cf (n:=(x.m-m)*r.l) (by omega);have w6:=cf (n:=x.h-m*r.v-(x.m-m)*r.l) (by omega);have w7:=cf (n:=x.m*r.s) (by omega);have w8:=cf (n:=x.m*r.l) (by omega);have w9:=cf (n:=x.h-x.m*r.l) (by omega);have v1:=cf (n:=x.s-min x.s (x.m*r.s)) (by omega);have v2:=cf (n:=x.s-min x.s ((x.m-m)*r.s)) (by omega);have v3:=cf (n:=x.s) (by omega);have v4:min x.s 0=0:=by omega
 by_cases c1:m=0
 .subst c1;by_cases c2:0<x.m
  .simp[hF,w7,w8,w9,v1,c2]
  .simp[hF,w7,v1,c2]
 .by_cases c2:m=x.m
  .subst c2;simp[hF,c1,v3,v4]
  .have⟨c3,c4⟩:0<x.m-m/\m<x.m:=by omega
   simp[hF,c1,c2,c4,w1,w2,w3,w4,w5,w6,v2]
theorem Xw{t:List Rw}(ht:fO t=true){i:Nat}{r:Rw}(h:t[i]?=some r):(0<=r.l/\r.l<r.v/\r.v<=4000)/\(0<=r.s/\r.s<=2000):=by
 simp only[fO,af]at ht;have:=eO.1 ht.2.1 r (aj h);simp only[Rw.alone,af,aS,aw]at this;obtain⟨_,_,h3,h4,h5,h6⟩:=this;exact⟨⟨h3.1,h5,h6⟩,h4⟩
theorem Yg{t:List Rw}(ht:fO t=true){i:Nat}{r:Rw}(hi:t[i]?=some r){x:sU}(hx:x.valid=true):
  Cl vk [lF t Rw.enc,iI i,.agg x.enc] (.cV [.agg (parts r x),iI 0]) J:=by
 refine au rfl rfl rfl ?_;have hl:t.length<=20:=by
  simp only[fO,af]at ht;have:=aS.1 ht.1;omega
 have hil:i<t.length:=(aA.1 hi).1;have h1:=λJ=>Fg (J:=J) (t:=t) (by omega)
 have h2:=λJ=>aaF (J:=J) (t:=t) (n:=i) (by omega)
 have h3:=λJ=>Je (J:=J) (x:=x)
 have h4:=λJ=>afl (J:=J) hi
 obtain⟨r1,r2⟩:=Xw ht hi;have h5:=λJ=>afh (J:=J) r1 r2 hx
 have hin:bA i 0 ((t.length:Int)-1)=true:=aS.2 (by omega);rw[hin]at h2;rw[hx]at h3;rw[ht]at h1;simp only[sU.enc,Rw.enc]at h3 h4 h5;have hp:(parts r x).length=10:=rfl;have hp2:(parts r x).take 10=parts r x:=rfl;have hpc:D.bd (parts r x)=true:=by simp[parts]
 generalize parts r x=P at *
 simp[h1,h2,h3,h4,h5,hp,hp2];rw[eW (by simp[D.clean,hpc]) (by omega)];exact⟨_,rfl⟩
structure Yv(b:bU)(y:List Rock.aD):Prop where
 len:y.length=b.av.length
 ok:∀o∈y,(0<=o.m/\o.m<=1000000)/\(0<=o.h/\o.h<=10000000000)/\(0<=o.k/\o.k<=1000000000000)
theorem Yv.of{b:bU}{s:List Rock.aD}{aF:List Int}(h:Bv b)(hs:Sv b s)(hr:Rv b aF):Yv b (bI b s aF):=by
 refine⟨by simp[bI,hr.len],?_⟩;intro o ho;simp only[bI,bJ]at ho;obtain⟨⟨w,r⟩,hm,rfl⟩:=ho;have hw:=GV h w (List.of_mem_zip hm).1;have hb:=hr.ok r (List.of_mem_zip hm).2;simp only[ic];split
 .simp
 .obtain⟨_,h1,h2,h3⟩:=hs.at (i:=w.b.toNat) (by omega);generalize aP s w.b.toNat=x at *
  have h8:x.m.tdiv 8=x.m / 8:=aO (by omega);have hq:0<=min r (x.m.tdiv 8)/\min r (x.m.tdiv 8)<=x.m:=by omega
  exact⟨⟨hq.1,by simp only[Rock.aD.out];omega⟩,Im h1.1 h2 hq,Im h1.1 h3 hq⟩
theorem XW{b:bU}{m:bV}{s:List Rock.aD}{aF:List Int}{s' y:List Rock.aD}(h:Bv b)(hs:Sv b s)(hr:Rv b aF)(ht:tick b m s aF=some (s',y)):Sv b s'/\Yv b y:=by
 refine⟨Sv.next h ht,?_⟩;unfold tick at ht;split at ht
 .simp only[ae,ar]at ht;rw[<- ht.2];exact Yv.of h hs hr
 .cases ht
structure Lg(b:bU)(n:Nat)(ss ys:List (List Rock.aD)):Prop where
 sl:ss.length=n+1
 yl:ys.length=n
 sv:∀s∈ss,Sv b s
 yv:∀y∈ys,Yv b y
theorem Lg.from{b:bU}{m:bV}(h:Fv b m):∀(az:List (List Int)) (n:Nat) (ss ys:List (List Rock.aD)) (s:List Rock.aD) {ss' ys':List (List Rock.aD)},(∀r∈az,Rv b r)->Lg b n ss ys->Sv b s->nS b m ss ys s az=some (ss',ys')->Lg b (n+az.length) ss' ys'
 |[],n,ss,ys,s,ss',ys',hr,h1,h2,he=>by
  simp only[nS,ae,ar]at he;obtain⟨rfl,rfl⟩:=he;exact h1
 |r::az,n,ss,ys,s,ss',ys',hr,h1,h2,he=>by
  simp only[nS]at he;split at he
  .rename_i s' y ht;obtain⟨g1,g2⟩:=XW h.bv h2 (hr r (List.mem_cons_self ..)) ht;have:=Lg.from h az (n+1) _ _ _ (λx hx=>hr x (List.mem_cons_of_mem _ hx)) (⟨by simp[h1.sl],by simp[h1.yl],by
    intro x hx;rcases aX.1 hx with hx | hx
    .exact h1.sv x hx
    .rw[List.mem_singleton.1 hx];exact g1,by
    intro x hx;rcases aX.1 hx with hx | hx
    .exact h1.yv x hx
    .rw[List.mem_singleton.1 hx];exact g2⟩:Lg b (n+1) (ss++[s']) (ys++[y])) g1 he
   rw[show n+(r::az).length=n+1+az.length by simp;omega];exact this
  .cases he
theorem Lg.of{b:bU}{m:bV}{az:List (List Int)}{ss ys:List (List Rock.aD)}(h:Fv b m)(hr:∀r∈az,Rv b r)(he:Rock.run b m az=some (ss,ys)):Lg b az.length ss ys:=by
 have:=Lg.from h az 0 _ _ _ hr (⟨rfl,rfl,by simpa using Sv.first h,by simp⟩:Lg b 0 [bX b m] []) (Sv.first h) he;simpa using this
theorem AQ{α:Type}{p:α->Bool}{x:α}{l:List α}:da (x::l) p=(p x && da l p):=by simp[da]
theorem dh{a b c:Int}:Cl BY [iI a,iI b,iI c] (.bool (bA a b c)) J:=by
 refine au rfl rfl rfl ?_;by_cases h:b<=a<;>simp[h,bA]
theorem pR{a b c:Int}:Cl Fw [iI a,iI b,iI c] (.bool (bA a b c)) J:=by
 refine au rfl rfl rfl ?_;by_cases h:b<=a<;>simp[h,bA]
theorem Yk{f:dw}(hx:1<=f.x/\f.x<=8)(hy:1<=f.y/\f.y<=8)(hz:1<=f.z/\f.z<=8):Cl xo [.agg (fL f)] (iI f.size) J:=by
 refine au rfl rfl rfl ?_;obtain⟨h1,h2⟩:=dw.sz hx hy hz;have w1:=cf (n:=f.x*f.y) (by omega);have w2:=cf (n:=f.x*f.y*f.z) (by omega);simp[w1,w2,dw.size]
theorem oX{f:dw}(h:f.valid=true):Cl xo [.agg (fL f)] (iI f.size) J:=by
 obtain⟨h1,h2,h3,h4,h5⟩:=dw.nv.1 h;exact Yk h1 h2 h3
theorem NG{f:dw}:Cl An [.agg (fL f)] (.bool f.valid) J:=by
 refine au rfl rfl rfl ?_;cases hc1:bA f.x 1 8
 .simp[pR,dw.valid,hc1]
 cases hc2:bA f.y 1 8
 .simp[pR,dw.valid,hc1,hc2]
 cases hc3:bA f.z 1 8
 .simp[pR,dw.valid,hc1,hc2,hc3]
 obtain⟨h1,h2⟩:=dw.sz (aS.1 hc1) (aS.1 hc2) (aS.1 hc3);have w1:=cf (n:=f.x*f.y) (by omega);have w2:=cf (n:=f.x*f.y*f.z) (by omega);by_cases hc4:f.x*f.y*f.z<=64
 .simp[pR,dw.valid,dw.size,hc1,hc2,hc3,hc4,w1,w2]
 .simp[pR,dw.valid,dw.size,hc1,hc2,hc3,hc4,w1,w2]
theorem RF{s:List UInt8}(hl:s.length<=9223372036854775807):∀(m i:Nat),i+m=s.length ->
  WL T [0,3] false nY [(0,.str s),(3,iI i)] J
   (λx e J'=>J'=J/\if ov i (s.drop i)then x=.exit 0/\get e 0=.str s else x=.ret/\get e 2=.bool false)
 |0,i,hi=>by
  refine aB nY.eq_1 ?_;have h1:¬i<s.length:=by omega
  have h2:s.drop i=[]:=an (by omega);have hp:gW .PH [.str s]=some (iI s.length):=rfl;simp[h1,h2,hp,ov]
 |m+1,i,hi=>by
  refine aB nY.eq_1 ?_;have h1:i<s.length:=by omega
  obtain⟨c,hc⟩:=gE h1;have h4:=cr h1 (by omega);have h5:=bD hc;have ih:=RF hl m (i+1) (by omega);have hp:gW .PH [.str s]=some (iI s.length):=rfl;rw[h5,ov];have hd:gW .KZ [.str s,iI (i:Int)]=some (.int .u8 c.toNat):=by simp[gW,hc]
  by_cases hc1:97<=c.toNat
  .by_cases hc2:c.toNat<=122
   .have hlet:letter c=true:=by simp[letter,hc1,hc2]
    simp[h1,h4,hd,hp,hlet,show(97:Int)<=(c.toNat:Int)by omega,show(c.toNat:Int)<=122 by omega];exact WL.to ih (by simp) rfl λx e J' hh=>by simpa[hlet]using hh
   .have hlet:letter c=false:=by simp[letter,hc2]
    have hdig:digit c=false:=by simp[digit];omega
    by_cases hi0:i=0
    .subst hi0;have hd0:gW .KZ [.str s,iI 0]=some (.int .u8 c.toNat):=by simpa using hd
     have h1':0<s.length:=h1;simp[h1',hd0,hp,hlet,hdig,show(97:Int)<=(c.toNat:Int)by omega,show ¬(c.toNat:Int)<=122 by omega]
    .simp[h1,hd,hp,hlet,hdig,hi0,show(97:Int)<=(c.toNat:Int)by omega,show ¬(c.toNat:Int)<=122 by omega,show ¬(c.toNat:Int)<48 by omega,show(57:Int)<(c.toNat:Int)by omega]
  .have hlet:letter c=false:=by simp[letter,hc1]
   by_cases hi0:i=0
   .subst hi0;have hd0:gW .KZ [.str s,iI 0]=some (.int .u8 c.toNat):=by simpa using hd
    have h1':0<s.length:=h1;simp[h1',hd0,hp,hlet,show ¬(97:Int)<=(c.toNat:Int)by omega]
   .by_cases hc3:c.toNat<48
    .have hdig:digit c=false:=by simp[digit];omega
     simp[h1,hd,hp,hlet,hdig,hi0,show ¬(97:Int)<=(c.toNat:Int)by omega,show(c.toNat:Int)<48 by omega]
    .by_cases hc4:57<c.toNat
     .have hdig:digit c=false:=by simp[digit];omega
      simp[h1,hd,hp,hlet,hdig,hi0,show ¬(97:Int)<=(c.toNat:Int)by omega,show ¬(c.toNat:Int)<48 by omega,show(57:Int)<(c.toNat:Int)by omega]
     .have hdig:digit c=true:=by simp[digit];omega
      simp[h1,h4,hd,hp,hlet,hdig,hi0,show ¬(97:Int)<=(c.toNat:Int)by omega,show ¬(c.toNat:Int)<48 by omega,show ¬(57:Int)<(c.toNat:Int)by omega];exact WL.to ih (by simp) rfl λx e J' hh=>by simpa[hlet,hdig,hi0]using hh
theorem IG{s:List UInt8}(hl:s.length<=9223372036854775807):Cl B0 [.str s] (.bool (named s)) J:=by
 refine au rfl rfl rfl ?_;have hp:gW .PH [.str s]=some (iI s.length):=rfl;simp;refine WL.to (RF (J:=[]::J) hl s.length 0 (by omega)) (by simp) rfl ?_;rintro x e J' ⟨rfl,h⟩;simp only[aE]at h;unfold named;cases hc:ov 0 s
 .simp[hc]at h;simp[h]
 .simp[hc]at h;obtain⟨rfl,g0⟩:=h;by_cases h1:1<=s.length
  .by_cases h2:s.length<=16
   .simp[g0,hp,bA,show(1:Int)<=s.length by omega,show(s.length:Int)<=16 by omega]
   .simp[g0,hp,bA,show(1:Int)<=s.length by omega,show ¬(s.length:Int)<=16 by omega]
  .simp[g0,hp,bA,show ¬(1:Int)<=s.length by omega]
theorem N2{f:dw}{m:bV}(hl:m.dn.length<=9223372036854775807):∀(k i:Nat),i+k=m.dn.length ->
  WL T [3,5] false gJ [(3,.bf (mL m)),(5,iI i)] J
   (λx e J'=>J'=J/\if da (m.dn.drop i) (λn=>bA n (-100000) 100000)then x=.exit 0 else x=.ret/\get e 4=iI 1)
 |0,i,hi=>by
  refine aB gJ.eq_1 ?_;have h1:¬i<m.dn.length:=by omega
  have h2:m.dn.drop i=[]:=an (by omega);simp[h1,h2,da]
 |k+1,i,hi=>by
  refine aB gJ.eq_1 ?_;have h1:i<m.dn.length:=by omega
  obtain⟨c,hc⟩:=gE h1;have h2:=gr hc;have h4:=cr h1 (by omega);have h5:=bD hc;have ih:=N2 (f:=f) hl k (i+1) (by omega);rw[h5,AQ];cases hb:bA c (-100000) 100000
  .simp[h1,h2,pR,hb]
  .simp[h1,h2,h4,pR,hb];exact WL.to ih (by simp) rfl λx e J' hh=>by simpa[hb]using hh
theorem UX{f:dw}{m:bV}(hf:f.valid=true)(hn:m.name.length<=9223372036854775807)(hl:m.dn.length<=9223372036854775807):Cl rW [.agg (fL f),.agg (mL m)] (iI (f.model m)) J:=by
 refine au rfl rfl rfl ?_;obtain⟨h6,h7⟩:=Br hf;have w1:=cf (n:=f.k*f.size) (by omega);have hb:=λJ=>oX (J:=J) (f:=f) hf
 cases hc1:named m.name
 .simp[IG hn,hc1,dw.model]
 .by_cases hc2:(m.dn.length:Int)=f.k*f.size
  .simp[IG hn,hc1,hc2,hb,w1];refine WL.to (N2 (J:=[]::J) (f:=f) (m:=m) hl m.dn.length 0 (by omega)) (by simp) (by simp) ?_;rintro x e J' ⟨rfl,h⟩;simp only[aE]at h;cases hc3:da m.dn (λn=>bA n (-100000) 100000)
   .simp[hc3]at h;simp[h,dw.model,hc1,hc2,hc3]
   .simp[hc3]at h;simp[h,dw.model,hc1,hc2,hc3]
  .simp[IG hn,hc1,hc2,dw.model,hb,w1]
end Go.Proofs.YtpapbbojmclkgaaGreatDoor
