import Derived.Test.YtpapbbojmclkgaaGreatDoorTxt0
set_option linter.all false
namespace Go.Proofs.YtpapbbojmclkgaaGreatDoor
section
open Go Go.Abs Go.Rock
variable {J:SK}
theorem aaR{b:bU}:Cl 359 [.agg (bL b)] (.fn 369 [] [.aZ (bL b)]) J:=by
 refine ar ?_;simp[DE,yk]
theorem Bv.xy{b:bU}(h:Bv b):b.f.x=(b.f.x.toNat:Int)/\b.f.y=(b.f.y.toNat:Int)/\1<=b.f.x.toNat*b.f.y.toNat/\b.f.x.toNat*b.f.y.toNat<=64:=by
 have hx:=h.x;have hy:=h.y;obtain⟨s1,_⟩:=dF.sz h.x h.y h.z;have e1:b.f.x*b.f.y=((b.f.x.toNat*b.f.y.toNat:Nat):Int):=by push_cast;rw[dQ (by omega),dQ (by omega)]
 rw[e1]at s1;refine⟨by omega,by omega,by omega,by omega⟩
theorem Bv.nat{b:bU}(h:Bv b):b.n=b.f.x.toNat*b.f.y.toNat*b.f.z.toNat/\1<=b.f.x.toNat/\1<=b.f.y.toNat:=by
 have hx:=h.x;have hy:=h.y;have hz:=h.z;have hs:=h.sz;refine⟨?_,by omega,by omega⟩;have:((b.f.x.toNat*b.f.y.toNat*b.f.z.toNat:Nat):Int)=b.f.size:=by
  push_cast;rw[dQ (by omega),dQ (by omega),dQ (by omega)];rfl
 omega
theorem adx{X W i n:Nat}(hn:n=X*W)(hi:i<n)(hc:(i+1)%X≠0):i+1<n:=by
 rcases Nat.lt_or_ge (i+1) n with h | h
 .exact h
 .have:i+1=X*W:=by omega
  rw[this,Nat.mul_mod_right]at hc;exact absurd rfl hc
theorem link2{X Y Z i n:Nat}(hX:1<=X)(hY:1<=Y)(hn:n=X*Y*Z)(hi:i<n)(hc:i / X%Y≠Y-1):i+X<n:=by
 have h1:i / X<Y*Z:=by rw[Nat.div_lt_iff_lt_mul hX,Nat.mul_comm,<- Nat.mul_assoc];omega
 have h2:i / X+1<Y*Z:=by
  rcases Nat.lt_or_ge (i / X+1) (Y*Z)with h | h
  .exact h
  .exfalso
   have h3:i / X+1=Y*Z:=by omega
   have hZ:1<=Z:=by
    rcases Nat.eq_zero_or_pos Z with h0 | h0
    .subst h0;omega
    .exact h0
   have h4:i / X=Y*(Z-1)+(Y-1):=by
    have:Y*Z=Y*(Z-1)+Y:=by rw[<- Nat.mul_succ];congr 1;omega
    omega
   rw[h4,Nat.mul_add_mod,Nat.mod_eq_of_lt (by omega)]at hc;exact hc rfl
 have h3:i<(i / X+1)*X:=by
  have:=Nat.div_add_mod i X;have h4:=Nat.mod_lt i (show X>0 by omega);rw[ix,Nat.one_mul,Nat.mul_comm (i / X) X];omega
 have h5:(i / X+1)*X+X<=n:=by
  have:(i / X+1+1)*X<=Y*Z*X:=db _ h2;rw[ix (i / X+1) 1 X,Nat.one_mul,Nat.mul_comm (Y*Z) X,<- Nat.mul_assoc]at this;omega
 omega
theorem TS{b:bU}(h:Bv b){lv j N:Nat}{St:List (Nat×Nat)->SK}(hN:∀pre,(St pre).length=N)
  (hR:∀pre,∀l:Nat×Nat,l.1<b.n->l.2<b.n->l.1≠l.2->dt T (.round lv j [.agg [iI l.1,iI l.2]] ([]::St pre))=some (.val (.bool true) ([]::St (pre++[l])))):∀(n i:Nat) (pre:List (Nat×Nat)),i+n=b.n ->
  WL T [0,1,3,4,13,14] false iU [(0,.j5 lv j),(1,.aZ (bL b)),(3,iI b.f.x),(4,iI b.f.y),(13,iI b.n),(14,iI i)] ([]::St pre)
   (λx e J'=>J'=[]::St (pre++fM ((List.range b.n).drop i) (wk b))/\x=.exit 0)
 |0,i,pre,hi=>by
  refine av iU.eq_1 ?_;have h1:¬i<b.n:=by omega
  have h2:(List.range b.n).drop i=[]:=an (by simp;omega);simp[h1,h2]
 |n+1,i,pre,hi=>by
  refine av iU.eq_1 ?_;have h1:i<b.n:=by omega
  have hn:=h.n;have hx:=h.x;have hy:=h.y;obtain⟨eX,eY,p1,p2⟩:=h.xy;have h4:=bO h1;have hs:=λJ=>BT (J:=J) h
  have h5:(List.range b.n).drop i=i::(List.range b.n).drop (i+1):=bz (by simp[h1]);have w1:=cm (n:=b.f.x*b.f.y) (by rw[eX,eY];omega);obtain⟨hnn,X1,Y1⟩:=h.nat;have⟨hx0,hy0⟩:¬b.f.x=0/\¬b.f.y=0:=by omega
  have ih:=λpre=>TS h hN hR n (i+1) pre (by omega)
  have e1:((i:Int)+1).tmod b.f.x=(((i+1)%b.f.x.toNat:Nat):Int):=by
   conv=>lhs;rw[eX]
   rfl
  have e2:(i:Int) / b.f.x=((i / b.f.x.toNat:Nat):Int):=by
   conv=>lhs;rw[eX]
   rfl
  have e2b:(i:Int).tdiv b.f.x=((i / b.f.x.toNat:Nat):Int):=by
   conv=>lhs;rw[eX]
   rfl
  have e3:((i / b.f.x.toNat:Nat):Int).tmod b.f.y=((i / b.f.x.toNat%b.f.y.toNat:Nat):Int):=by
   conv=>lhs;rw[eY]
   rfl
  have e4:b.f.x*b.f.y=((b.f.x.toNat*b.f.y.toNat:Nat):Int):=by
   conv=>lhs;rw[eX,eY]
   rfl
  have hq:i / b.f.x.toNat<=i:=Nat.div_le_self _ _;have hr1:(i+1)%b.f.x.toNat<=i+1:=Nat.mod_le _ _;have hr2:i / b.f.x.toNat%b.f.y.toNat<=i / b.f.x.toNat:=Nat.mod_le _ _;have l1:=adx (W:=b.f.y.toNat*b.f.z.toNat) (by rw[hnn,Nat.mul_assoc]) h1;have l2:=link2 (Z:=b.f.z.toNat) X1 Y1 hnn h1;have R1:=λpre hc=>hR pre (i,i+1) h1 (l1 hc) (by simp)
  have R2:=λpre hc=>hR pre (i,i+b.f.x.toNat) h1 (l2 hc) (by simp;omega)
  have R3:=λpre hc=>hR pre (i,i+b.f.x.toNat*b.f.y.toNat) h1 hc (by simp;omega)
  have z2:((i+b.f.x.toNat:Nat):Int)=(i:Int)+b.f.x:=by omega
  have z3:((i+b.f.x.toNat*b.f.y.toNat:Nat):Int)=(i:Int)+b.f.x*b.f.y:=by rw[e4];omega
  have z1:((i+1:Nat):Int)=(i:Int)+1:=rfl;simp only[z1,z2,z3]at R1 R2 R3;generalize hA:i / b.f.x.toNat=A at *
  generalize hB:A%b.f.y.toNat=B at *
  generalize hC:(i+1)%b.f.x.toNat=C at *
  generalize hP:b.f.x.toNat*b.f.y.toNat=P at *
  have v1:=cm (n:=(A:Int));have v2:=cm (n:=(B:Int));have v3:=cm (n:=(C:Int));have v4:=cm (n:=b.f.y-1);have v5:=cm (n:=(i:Int)+b.f.x);have v6:=cm (n:=(i:Int)+b.f.x*b.f.y) (by rw[e4];omega);have v7:=cm (n:=b.f.x*b.f.y) (by rw[e4];omega);have c3:((i:Int)+b.f.x*b.f.y<(b.n:Int))↔(i+P<b.n):=by rw[e4];omega
  have hL:wk b i=(if C≠0 then [(i,i+1)]else [])++((if B≠b.f.y.toNat-1 then [(i,i+b.f.x.toNat)]else [])++(if i+P<b.n then [(i,i+P)]else [])):=by
   unfold wk;rw[hC,hA,hB,hP]
  rw[h5,di,hL];clear hL hnn l1 l2;have⟨t1,t2⟩:(((C:Int)=0)↔(C=0))/\(((B:Int)=b.f.y-1)↔(B=b.f.y.toNat-1)):=by omega
  by_cases k1:C=0<;>by_cases k2:B=b.f.y.toNat-1<;>by_cases k3:i+P<b.n;all_goals
   first | (have u1:=t1.2 k1) | (have u1:=mt t1.1 k1)
   first | (have u2:=t2.2 k2) | (have u2:=mt t2.1 k2)
   have ih':=ih (pre++((if C≠0 then [(i,i+1)]else [])++((if B≠b.f.y.toNat-1 then [(i,i+b.f.x.toNat)]else [])++(if i+P<b.n then [(i,i+P)]else []))));first
    |(rw[if_neg (not_not_intro k1)]at ih' ⊢) | (rw[if_pos k1]at ih' ⊢)
   first
    |(rw[if_neg (not_not_intro k2)]at ih' ⊢) | (rw[if_pos k2]at ih' ⊢)
   first
    |(rw[if_neg k3]at ih' ⊢) | (rw[if_pos k3]at ih' ⊢)
   have g1:=λpre=>R1 pre
   have g2:=λpre=>R2 pre
   have g3:=λpre=>R3 pre
   first | (have g1:=λpre=>R1 pre k1) | skip
   first | (have g2:=λpre=>R2 pre k2) | skip
   first | (have g3:=λpre=>R3 pre k3) | skip
   simp[h1,h4,hx0,hy0,e1,e2b,e3,v1,v4,v5,v6,v7,c3,u2,k1,k3,hs,g1,g2,g3];refine WL.to ih' (by simp) (by simp) λx e J hh=>by simpa using hh
theorem Xf{b:bU}(h:Bv b){lv j N:Nat}{St:List (Nat×Nat)->SK}(hN:∀pre,(St pre).length=N)
  (hR:∀pre,∀l:Nat×Nat,l.1<b.n->l.2<b.n->l.1≠l.2->dt T (.round lv j [.agg [iI l.1,iI l.2]] ([]::St pre))=some (.val (.bool true) ([]::St (pre++[l])))):
  dt T (.call false 369 [.j5 lv j,.aZ (bL b)] (St []))=some (.val (.cQ []) (St (zB b))):=by
 refine fA rfl rfl rfl (by rw[hN,hN]) ?_;have hs:=λJ=>BT (J:=J) h
 simp[hs];refine WL.to (TS h hN hR b.n 0 [] (by omega)) (by simp) rfl ?_;rintro x e J' ⟨rfl,rfl⟩;simp[zB]
def G6(es:List ((Nat×Nat)×Rock.aF)):List D:=es.map λe => .cQ [.agg [iI e.1.1,iI e.1.2],.agg e.2.enc]
def kyL:Ky:=some (true,[some .i64,some .i64])
theorem aiT{a b:Nat×Nat}:tA kyL (.agg [iI a.1,iI a.2]) (.agg [iI b.1,iI b.2])=some (b == a):=by
 simp only[tA,kyL,D.row,BS,and_self,if_true,bf,Bool.and_true];congr 1;rw[Bool.eq_iff_iff];simp only[ah,beq_iff_eq];constructor
 .rintro⟨h1,h2⟩;exact Prod.ext (by omega) (by omega)
 .rintro rfl;exact⟨rfl,rfl⟩
theorem Qr{k:Nat×Nat}:∀{es:List ((Nat×Nat)×Rock.aF)},∃r,qh kyL (.agg [iI k.1,iI k.2]) (G6 es)=some r/\r.map Prod.fst=es.findIdx? (λe=>e.1 == k)
 |[]=>⟨none,rfl,rfl⟩
 |e::es=>by
  obtain⟨r,h1,h2⟩:=Qr (k:=k) (es:=es);simp only[G6,aM]at h1 ⊢;simp only[qh,aiT];cases hk:e.1 == k
  .refine⟨_,by rw[h1];rfl,?_⟩;rw[List.findIdx?_cons,hk,<- h2];cases r<;>rfl
  .exact⟨_,rfl,by rw[List.findIdx?_cons,hk];rfl⟩
theorem Zn{S:SK}{l i:Nat}{es:List ((Nat×Nat)×Rock.aF)}{k:Nat×Nat}{o:Rock.aF}(h:cells? S l i 0=some (G6 es)):
  DT S (.put kyL) [.j5 l i,.agg [iI k.1,iI k.2],.agg o.enc]=some (.undef,bj S l i (.cells 0 (G6 (SV es k o)))):=by
 obtain⟨r,h1,h2⟩:=Qr (k:=k) (es:=es);simp only[DT,DZ,h,bf,h1,aiT,Option.isSome_some,true_and];rw[if_pos (.inr ⟨by simp[D.clean],by simp[D.clean]⟩)];unfold SV;rw[<- h2];cases r with
 |none=>simp[G6]
 |some y=>simp[G6,List.map_set]
theorem LM{x:Rock.aF}{A:Int}(hA:10000<=A):∀(t:List Rw) (o:Int),(∀r∈t,r.alone=true)->(0<=o/\o<=A)->0<=t.foldl (iu x) o/\t.foldl (iu x) o<=A
 |[],o,_,h=>h
 |r::t,o,ht,h=>by
  have h1:=S0 (ht r (by simp));refine LM hA t _ (λr hr=>ht r (by simp[hr])) ?_;unfold iu;split<;>omega
theorem H4{b:bU}{m:cg}{s:List Rock.aF}(h:Fv b m)(hs:Sv b s){i:Nat}(hi:i<b.n):0<=dA b m s i/\dA b m s i<=200000000000:=by
 have htab:=h.bv.c9;simp only[fN,ah]at htab;refine LM (by omega) _ _ (eQ.1 htab.2.1) ?_;have b5:=xk h.bv hi;have b1:=h.hold i hi;obtain⟨hx,b2,b3,b4⟩:=hs.at hi;have hst:=h.bv.cG;have b6:b.cG*((aT s i).m-hold b m i)<=100000000000:=by
  rcases eV (hold b m i) (aT s i).m with hh | hh
  .have:=jb (a:=b.cG) (b:=(aT s i).m-hold b m i) (A:=100000) (B:=1000000) (by omega) hst.2 (by omega) (by omega);omega
  .have:=jb (a:=b.cG) (b:=hold b m i-(aT s i).m) (A:=100000) (B:=1000000) (by omega) hst.2 (by omega) (by omega);have e:b.cG*((aT s i).m-hold b m i) = - (b.cG*(hold b m i-(aT s i).m)):=by rw[<- Int.mul_neg];congr 1;omega
   omega
 have b7:down (b.cG*((aT s i).m-hold b m i)) (hold b m i)<=100000000000:=by
  unfold down;have:=Int.ediv_le_self (b:=hold b m i) (a:=b.cG*((aT s i).m-hold b m i));rcases eV 0 (b.cG*((aT s i).m-hold b m i))with hh | hh
  .have:=this hh;omega
  .have:=Int.ediv_le_of_le_mul (b:=0) (show 0<hold b m i by omega) (by omega:b.cG*((aT s i).m-hold b m i)<=0*hold b m i);omega
 omega
theorem BW{O:ck}{c c':bV}(hc:c=c'){e:Env}{J:SK}{Q:Abs.Exit->Env->SK->Prop}:WC O c e J Q .mk .mk=WC O c' e J Q .mk .mk:=by subst hc;rfl
def V3(b:bU)(m:cg)(s:List Rock.aF)(L:Nat):yB :=
 {state:=0,zN:=none,env:=[(2,.aZ (bM b m)),(3,.aZ [lF s aF.enc]),(4,.undef),(5,.ref L 3 0 0),(6,.ref L 4 0 0)],params:=[18],CM:=gh,body:=du }
def Wq(A B:Abs.aF)(b:bU)(m:cg)(s:List Rock.aF)(J:SK)(es:List ((Nat×Nat)×Rock.aF)):SK :=
 [A,B,.cells 0 (G6 es),.cells 0 [.j5 J.length 2],.cells 0 [lF (bg b m s) aO],.loop (V3 b m s J.length)]::J
theorem aeV{A B:Abs.aF}{b:bU}{m:cg}{s:List Rock.aF}(h:Fv b m)(hs:Sv b s)(es:List ((Nat×Nat)×Rock.aF))(l:Nat×Nat)(h1:l.1<b.n)(h2:l.2<b.n):
  dt T (.round J.length 5 [.agg [iI l.1,iI l.2]] ([]::Wq A B b m s J es))=some (.val (.bool true) ([]::Wq A B b m s J (lh b m s (bg b m s) es l))):=by
 have hn:=h.bv.n;have hl:=hs.len;have hp1:(bg b m s)[l.1]?=some (dA b m s l.1):=by simp[bg,hl,h1]
 have hp2:(bg b m s)[l.2]?=some (dA b m s l.2):=by simp[bg,hl,h2]
 have a1:=gw hp1;have a2:=gw hp2;have hpl:(bg b m s).length=b.n:=by rw[OP,hl]
 have bp1:=H4 h hs h1;have bp2:=H4 h hs h2;have bw1:=xk h.bv h1;have bw2:=xk h.bv h2;have cw1:=λJ=>KE (J:=J) (m:=m) h.bv h1
 have cw2:=λJ=>KE (J:=J) (m:=m) h.bv h2
 have co1:=λJ=>Xk (J:=J) h.toMv h1
 have co2:=λJ=>Xk (J:=J) h.toMv h2
 have bo1:=h.Ab l.1 h1;have bo2:=h.Ab l.2 h2;obtain⟨x1,m1,m2,m3⟩:=hs.at h1;obtain⟨y1,n1,n2,n3⟩:=hs.at h2;have f1:=aP (f:=aF.enc) (w:=3) (λ_=>rfl) x1;have f2:=aP (f:=aF.enc) (w:=3) (λ_=>rfl) y1;have w1:=cm (n:=dA b m s l.1-weight b l.1);have w2:=cm (n:=dA b m s l.1-weight b l.1-dA b m s l.2);have w3:=cm (n:=dA b m s l.1-weight b l.1-dA b m s l.2+weight b l.2);have⟨hL1,hL2⟩:l.1<s.length/\l.2<s.length:=by omega
 have hE:lh b m s (bg b m s) es l=lh b m s (bg b m s) es l:=rfl
 conv at hE=>rhs;unfold lh CV
 simp only[hp1,hp2,eW]at hE;generalize lh b m s (bg b m s) es l=es' at *
 have⟨hmin,hmin'⟩:(0<=min (Ab b m l.2) (Ab b m l.1)/\min (Ab b m l.2) (Ab b m l.1)<=1000)/\(0<=min (Ab b m l.1) (Ab b m l.2)/\min (Ab b m l.1) (Ab b m l.2)<=1000):=by omega
 generalize hw1:weight b l.1=W1 at *
 generalize hw2:weight b l.2=W2 at *
 generalize hq1:dA b m s l.1=P1 at *
 generalize hq2:dA b m s l.2=P2 at *
 generalize hD:P1-W1-P2+W2=d at *
 refine Ra (lp:=V3 b m s J.length) (by simp[Wq]) rfl ?_;rw[show(V3 b m s J.length).CM=gh from rfl,gh.eq_1,show(V3 b m s J.length).body=du from rfl];by_cases hd:d<0
 .simp only[hd,if_true]at hE;have b3:=jb hmin.1 hmin.2 (show 0 <= -d by omega) (show -d<=1000000000000 by omega);have w4:=cm (n := -d);have d1:=aS (b:=1000) b3.1;have d2:=aS (b:=8) (show 0<=(aT s l.2).m by omega);generalize hX:min (Ab b m l.2) (Ab b m l.1) * -d=X at *
  have w5:=cm (n:=X);generalize hY:X.tdiv 1000=Y at *
  generalize hZ:(aT s l.2).m.tdiv 8=Z at *
  have w6:=cm (n:=Y) (by rw[d1];omega);have w7:=cm (n:=Z) (by rw[d2];omega);by_cases hq:0<min Y Z
  .have hO:=λJ=>Xl (J:=J) (q:=min Y Z) n1 n2 n3 ⟨by omega,by rw[d2];omega⟩
   have hP:=λS h=>Zn (S:=S) (l:=J.length) (i:=2) (es:=es) (k:=(l.2,l.1)) (o:=(aT s l.2).out (min Y Z)) h
   rw[if_pos hq]at hE;simp only at hE;subst hE;generalize (aT s l.2).out (min Y Z)=O at *
   simp only[aF.enc]at hO;simp only[aF.enc,kyL]at hP;simp[BW du.eq_1,V3,Wq,V7,hpl,h1,h2,a1,a2,cw1,cw2,w1,w2,w3,hD,hd,co1,co2,hL2,f2,w4,w5,w6,w7,hX,hY,hZ,hq,hO,hP]
  .rw[if_neg hq]at hE;simp only at hE;subst hE;simp[BW du.eq_1,V3,Wq,V7,hpl,h1,h2,a1,a2,cw1,cw2,w1,w2,w3,hD,hd,co1,co2,hL2,f2,w4,w5,w6,w7,hX,hY,hZ,hq]
 .simp only[hd,if_false]at hE;have b3:=jb hmin'.1 hmin'.2 (show 0<=d by omega) (show d<=1000000000000 by omega);have w4:=cm (n:=d);have d1:=aS (b:=1000) b3.1;have d2:=aS (b:=8) (show 0<=(aT s l.1).m by omega);generalize hX:min (Ab b m l.1) (Ab b m l.2)*d=X at *
  have w5:=cm (n:=X);generalize hY:X.tdiv 1000=Y at *
  generalize hZ:(aT s l.1).m.tdiv 8=Z at *
  have w6:=cm (n:=Y) (by rw[d1];omega);have w7:=cm (n:=Z) (by rw[d2];omega);by_cases hq:0<min Y Z
  .have hO:=λJ=>Xl (J:=J) (q:=min Y Z) m1 m2 m3 ⟨by omega,by rw[d2];omega⟩
   have hP:=λS h=>Zn (S:=S) (l:=J.length) (i:=2) (es:=es) (k:=l) (o:=(aT s l.1).out (min Y Z)) h
   rw[if_pos hq]at hE;simp only at hE;subst hE;generalize (aT s l.1).out (min Y Z)=O at *
   simp only[aF.enc]at hO;simp only[aF.enc,kyL]at hP;simp[BW du.eq_1,V3,Wq,V7,hpl,h1,h2,a1,a2,cw1,cw2,w1,w2,w3,hD,hd,co1,co2,hL1,f1,w5,w6,w7,hX,hY,hZ,hq,hO,hP]
  .rw[if_neg hq]at hE;simp only at hE;subst hE;simp[BW du.eq_1,V3,Wq,V7,hpl,h1,h2,a1,a2,cw1,cw2,w1,w2,w3,hD,hd,co1,co2,hL1,f1,w5,w6,w7,hX,hY,hZ,hq]
theorem aaN{A B:Abs.aF}{b:bU}{m:cg}{s:List Rock.aF}(h:Fv b m)(hs:Sv b s):∃X Y Z:Abs.aF,
  dt T (.call true 333 [.agg (bM b m),lF s aF.enc] ([A,B]::J))=some (.val (.j5 J.length 2) ([A,B,.cells 0 (G6 (tK b m s)),X,Y,Z]::J)):=by
 refine⟨.cells 0 [.j5 J.length 2],.cells 0 [lF (bg b m s) aO],.loop {V3 b m s J.length with state:=3 },?_⟩;refine sF rfl rfl rfl ?_;have hp:=λJ hJ=>PI (J:=J) h hs hJ
 have hl:=Xf (b:=b) h.bv (lv:=J.length) (j:=5) (N:=J.length+1) (St:=λpre=>Wq A B b m s J (pre.foldl (lh b m s (bg b m s)) [])) (λpre=>by simp[Wq])
  (λpre l h1 h2 _=>by rw[List.foldl_append];exact aeV h hs _ l h1 h2)
 have hm:DT ([A,B]::J) .make []=some (.j5 J.length 2,[A,B,.cells 0 (G6 [])]::J):=by simp[DT,G6]
 simp[hp,aaR,hm];refine T9 (d:=.cQ []) (J2:=Wq A B b m s J (tK b m s)) (lp:=V3 b m s J.length) (by simp;exact⟨rfl,rfl,rfl⟩) ?_ (by simp[Wq]) (by simp[V3]) ?_
 .simpa[V3,Wq,tK]using hl
 .simp[V3,Wq]
end
section
open Go Go.Abs Go.Rock
def CC(N:Int)(s:List Rock.aF):Prop:=∀x∈s,sm x N
theorem dj{x:Rock.aF}{N M:Int}(h:sm x N)(hN:N<=M):sm x M:=by
 obtain⟨h1,h2,h3⟩:=h;exact⟨⟨by omega,by omega⟩,⟨by omega,by omega⟩,⟨by omega,by omega⟩⟩
theorem CO{N:Int}{s:List Rock.aF}(h:CC N s){i:Nat}(hi:i<s.length):s[i]?=some (aT s i)/\sm (aT s i) N:=by
 have h2:s[i]?=some (aT s i):=by simp[aT,hi]
 exact⟨h2,h _ (ai h2)⟩
theorem HY{s:List Rock.aF}{i:Nat}{o:Rock.aF}{sign:Int}:(cq s i o sign).length=s.length:=by simp[cq]
theorem rh{N M:Int}{s:List Rock.aF}(h:CC N s){i:Nat}{o:Rock.aF}{sign:Int}(ho:sm o M)(hs:sign=1\/sign = -1)(hM:0<=M):CC (N+M) (cq s i o sign):=by
 intro x hx;unfold cq at hx;by_cases hi:i<s.length
 .rcases List.mem_or_eq_of_mem_set hx with hx | rfl
  .exact dj (h x hx) (by omega)
  .obtain⟨a1,a2,a3⟩:=(CO h hi).2;obtain⟨b1,b2,b3⟩:=ho;rcases hs with rfl | rfl
   .exact⟨⟨by simp only[Rock.aF.move];omega,by simp only[Rock.aF.move];omega⟩,⟨by simp only[Rock.aF.move];omega,by simp only[Rock.aF.move];omega⟩,⟨by simp only[Rock.aF.move];omega,by simp only[Rock.aF.move];omega⟩⟩
   .exact⟨⟨by simp only[Rock.aF.move];omega,by simp only[Rock.aF.move];omega⟩,⟨by simp only[Rock.aF.move];omega,by simp only[Rock.aF.move];omega⟩,⟨by simp only[Rock.aF.move];omega,by simp only[Rock.aF.move];omega⟩⟩
 .rw[List.set_eq_of_length_le (by omega)]at hx;exact dj (h x hx) (by omega)
theorem Fj{s:List Rock.aF}{i j:Nat}{o p:Rock.aF}{a c:Int}:cq (cq s i o a) j p c=cq (cq s j p c) i o a:=by
 by_cases hij:i=j
 .subst hij;by_cases hi:i<s.length
  .simp only[cq,aT,List.getElem?_set_self hi,eW,List.set_set,Rock.aF.move];congr 2<;>omega
  .simp only[cq,List.set_eq_of_length_le (show s.length<=i by omega)]
 .have hji:¬j=i:=λh=>hij h.symm
  simp only[cq,aT,List.getElem?_set_ne hij,List.getElem?_set_ne hji];rw[List.set_comm _ _ hij]
theorem VQ{s:List Rock.aF}{e f:(Nat×Nat)×Rock.aF}:cI (cI s e) f=cI (cI s f) e:=by
 unfold cI;rw[Fj (i:=e.1.2) (j:=f.1.1),Fj (i:=e.1.1) (j:=f.1.1),Fj (i:=e.1.2) (j:=f.1.2),Fj (i:=e.1.1) (j:=f.1.2)]
theorem Qw{s:List Rock.aF}{e:(Nat×Nat)×Rock.aF}:(cI s e).length=s.length:=by simp[cI,HY]
def MF(es:List ((Nat×Nat)×Rock.aF))(s:List Rock.aF)(j:Nat):List Rock.aF:=match es[j]? with | some e=>cI s e | none=>s
theorem Z6{es:List ((Nat×Nat)×Rock.aF)}{s:List Rock.aF}{i j:Nat}:MF es (MF es s i) j=MF es (MF es s j) i:=by
 unfold MF;cases es[i]? <;> cases es[j]? <;> simp[VQ]
theorem acM{es:List ((Nat×Nat)×Rock.aF)}{s:List Rock.aF}{j:Nat}:(MF es s j).length=s.length:=by
 unfold MF;split<;>simp[Qw]
theorem NO:∀(es:List ((Nat×Nat)×Rock.aF)) (s:List Rock.aF) (n:Nat),n<=es.length->(List.range n).foldl (MF es) s=(es.take n).foldl cI s
 |es,s,0,_=>by simp
 |es,s,n+1,h=>by
  obtain⟨e,he⟩:∃e,es[n]?=some e:=gE (by omega);rw[List.range_succ,List.foldl_append,NO es s n (by omega),List.take_add_one,he,List.foldl_append];simp[MF,he]
theorem acL{es:List ((Nat×Nat)×Rock.aF)}{s:List Rock.aF}{js:List Nat}(hd:js.Nodup)(hm:∀j,j∈js↔j<es.length):js.foldl (MF es) s=es.foldl cI s:=by
 have hp:js.Perm (List.range es.length):=(List.perm_ext_iff_of_nodup hd List.nodup_range).2 λa=>by simp[hm]
 rw[hp.foldl_eq' (λx _ y _ z=>Z6),NO es s es.length (aN _),af (aN _)]
theorem V2{b:bU}:(zB b).length<=3*b.n:=by
 have key:∀l:List Nat,(fM l (wk b)).length<=3*l.length:=by
  intro l;induction l with
  |nil=>simp
  |cons i l ih =>
   rw[di,aV,aE];have:(wk b i).length<=3:=by
    unfold wk;simp only[aV];split<;>split<;>split<;>simp
   omega
 have:=key (List.range b.n);rw[List.length_range]at this;exact this
theorem QX{b:bU}(h:Bv b){l:Nat×Nat}(hl:l∈zB b):l.1<b.n/\l.2<b.n:=by
 obtain⟨hnn,X1,Y1⟩:=h.nat;obtain⟨i,hi,hh⟩:=IQ.1 hl;have h1:i<b.n:=by simpa using hi
 unfold wk at hh;simp only[aU]at hh;rcases hh with hh | hh | hh
 .split at hh
  .rename_i hc;simp at hh;subst hh;exact⟨h1,adx (W:=b.f.y.toNat*b.f.z.toNat) (by rw[hnn,Nat.mul_assoc]) h1 hc⟩
  .cases hh
 .split at hh
  .rename_i hc;simp at hh;subst hh;exact⟨h1,link2 (Z:=b.f.z.toNat) X1 Y1 hnn h1 hc⟩
  .cases hh
 .split at hh
  .rename_i hc;simp at hh;subst hh;exact⟨h1,hc⟩
  .cases hh
def Ww(b:bU)(e:(Nat×Nat)×Rock.aF):Prop:=(e.1.1<b.n/\e.1.2<b.n)/\sm e.2 1000000000000
theorem ON{x:Rock.aF}{q:Int}(hm:1<=x.m/\x.m<=1000000)(hh:0<=x.h/\x.h<=10000000000)(hk:0<=x.k/\x.k<=1000000000000)(hq:0<=q/\q<=x.m):sm (x.out q) 1000000000000:=by
 have b3:=JP hm.1 hh hq;have b4:=JP hm.1 hk hq;exact⟨⟨by simp only[Rock.aF.out];omega,by simp only[Rock.aF.out];omega⟩,⟨by simp only[Rock.aF.out];omega,by simp only[Rock.aF.out];omega⟩,⟨by simp only[Rock.aF.out];omega,by simp only[Rock.aF.out];omega⟩⟩
theorem VO{b:bU}{m:cg}{s:List Rock.aF}(hs:Sv b s){p:List Int}{l:Nat×Nat}(h1:l.1<b.n)(h2:l.2<b.n){e:(Nat×Nat)×Rock.aF}(he:CV b m s p l=some e):Ww b e:=by
 unfold CV at he;simp only at he;generalize hd:(p[l.1]?).getD 0-weight b l.1-(p[l.2]?).getD 0+weight b l.2=d at he;generalize hl':(if d<0 then(l.2,l.1)else l)=l' at he;generalize hd':(if d<0 then -d else d)=d' at he;have hll:l'.1<b.n/\l'.2<b.n:=by
  rw[<- hl'];split<;>exact⟨by assumption,by assumption⟩
 obtain⟨_,m1,m2,m3⟩:=hs.at hll.1;split at he
 .rename_i hq;simp only[ae]at he;subst he;have d2:=aS (b:=8) (show 0<=(aT s l'.1).m by omega);exact⟨hll,ON m1 m2 m3 ⟨by omega,by rw[d2];omega⟩⟩
 .cases he
theorem acp{b:bU}{es:List ((Nat×Nat)×Rock.aF)}{k:Nat×Nat}{o:Rock.aF}(h:∀e∈es,Ww b e)(ho:Ww b (k,o)):(∀e∈SV es k o,Ww b e)/\(SV es k o).length<=es.length+1:=by
 unfold SV;split
 .constructor
  .intro e he;rcases List.mem_or_eq_of_mem_set he with he | rfl
   .exact h e he
   .exact ho
  .simp
 .constructor
  .intro e he;rcases aU.1 he with he | he
   .exact h e he
   .simp at he;subst he;exact ho
  .simp
theorem Qx{b:bU}{m:cg}{s:List Rock.aF}(h:Bv b)(hs:Sv b s):(∀e∈tK b m s,Ww b e)/\(tK b m s).length<=192:=by
 have key:∀(ls:List (Nat×Nat)) (es:List ((Nat×Nat)×Rock.aF)),(∀l∈ls,l.1<b.n/\l.2<b.n)->(∀e∈es,Ww b e)->(∀e∈ls.foldl (lh b m s (bg b m s)) es,Ww b e)/\(ls.foldl (lh b m s (bg b m s)) es).length<=es.length+ls.length:=by
  intro ls;induction ls with
  |nil=>intro es _ h;exact⟨h,by simp⟩
  |cons l ls ih =>
   intro es hl he;have hl0:=hl l (by simp);simp only[List.foldl_cons];have h1:(∀e∈lh b m s (bg b m s) es l,Ww b e)/\(lh b m s (bg b m s) es l).length<=es.length+1:=by
    unfold lh;split
    .rename_i e hfe;exact acp he (VO hs hl0.1 hl0.2 hfe)
    .exact⟨he,by omega⟩
   obtain⟨h2,h3⟩:=ih _ (λl hh=>hl l (by simp[hh])) h1.1;exact⟨h2,by simp only[aE];omega⟩
 obtain⟨h1,h2⟩:=key (zB b) [] (λl hl=>QX h hl) (by simp);have:=@V2 b;have hn:=h.n;exact⟨h1,by simp only[bd]at h2;unfold tK;omega⟩
theorem Qv{b:bU}{N:Int}{s:List Rock.aF}{e:(Nat×Nat)×Rock.aF}(h:CC N s)(he:Ww b e):CC (N+2000000000000) (cI s e):=by
 have h1:=rh (i:=e.1.1) (sign := -1) h he.2 (.inr rfl) (by omega);have h2:=rh (i:=e.1.2) (sign:=1) h1 he.2 (.inl rfl) (by omega);unfold cI;rw[show N+2000000000000=N+1000000000000+1000000000000 by omega];exact h2
theorem UX{b:bU}{es:List ((Nat×Nat)×Rock.aF)}(hes:∀e∈es,Ww b e):∀(js:List Nat) (s:List Rock.aF) (N:Int),CC N s->CC (N+2000000000000*js.length) (js.foldr (λj s=>MF es s j) s)
 |[],s,N,h=>by simpa using h
 |j::js,s,N,h=>by
  have ih:=UX hes js s N h;simp only[List.foldr_cons,aE];generalize js.foldr (λj s=>MF es s j) s=s1 at *
  unfold MF;split
  .rename_i e he;have:=Qv ih (hes e (ai he));intro x hx;exact dj (this x hx) (by push_cast;omega)
  .intro x hx;exact dj (ih x hx) (by push_cast;omega)
theorem Sv.CC{b:bU}{s:List Rock.aF}(h:Sv b s):CC 1000000000000 s:=by
 intro x hx;obtain⟨h1,h2,h3⟩:=aF.OK.1 (h.ok x hx);exact⟨⟨by omega,by omega⟩,⟨by omega,by omega⟩,⟨by omega,by omega⟩⟩
end
end Go.Proofs.YtpapbbojmclkgaaGreatDoor
namespace Go.Abs
open Go
variable {T:DB}
theorem zT{F:List aF}:∀{J:SK} {lv:Nat},eT J lv=some F->lv<J.length
 |[],lv,h=>by simp[eT]at h
 |s::J,lv,h=>by
  simp only[eT]at h;split at h
  .rename_i h1;simp;omega
  .have:=zT h;simp;omega
section
variable {α:Type} {w:Nat} {enc:α->List D} (hw:∀x,(enc x).length=w) {p:α->Bool} {fv:D} {l:List α} {lv bi v:Nat} {F:List aF}
include hw in
theorem Lw(hF:F[bi]?=some (.cells v (fM l enc)))(hl:l.length<=9223372036854775807)(ht:pA T fv (λx => .agg (enc x)) p l){J:SK}(hs:eT J lv=some F):∀(m i:Nat),i+m=l.length ->
  WL T [0,1,7,8] false (Lu true w) [(0,.sl lv bi v 0 l.length w),(1,fv),(7,iI l.length),(8,iI i)] J
   (λx e J'=>J'=J/\if idxOf p (l.drop i)<0 then x=.exit 0 else x=.ret/\get e 4=iI (i+idxOf p (l.drop i)))
 |0,i,hi=>by
  obtain⟨h1,h2,h3⟩:=ht;refine av (Lu.eq_1 _ _) ?_;have:¬i<l.length:=by omega
  have h5:l.drop i=[]:=by simp;omega
  simp[this,h2,h5,idxOf]
 |m+1,i,hi=>by
  have ih:=Lw hF hl ht hs m (i+1) (by omega);obtain⟨h1,h2,h3⟩:=ht;refine av (Lu.eq_1 _ _) ?_;have h4:i<l.length:=by omega
  obtain⟨x,hx⟩:=gE h4;have h5:=re (f:=enc) hw hx;have h6:=h3 x (ai hx) J;have h7:=bO h4 hl;have h8:l.drop i=x::l.drop (i+1):=bz hx;have e1:∀r:List D,(enc x++r).take w=enc x:=λr=>by rw[<- hw x];simp
  have e2:∀r:Nat,w<=(enc x).length+r:=λr=>by rw[hw];omega
  cases hp:p x
  .rw[hp]at h6;simp[h4,h1,h2,h5,h6,h7,hs,hF,e1,e2];refine WL.mono (by simpa using ih) ?_;rintro x e J' ⟨h9,h10⟩;refine⟨h9,?_⟩;rw[h8];simp only[idxOf,hp,aD,if_false];by_cases h11:idxOf p (l.drop (i+1))<0
   .simpa[h11]using h10
   .rw[if_neg h11]at h10;rw[if_neg h11,if_neg (by omega)];refine⟨h10.1,?_⟩;rw[h10.2];congr 1;push_cast;omega
  .rw[hp]at h6;simp[h4,h1,h2,h5,h6,hs,hF,e1,e2,h8,idxOf,hp]
include hw in
theorem Lx{f:Nat}(hT:T f=some (vn true w))(hF:F[bi]?=some (.cells v (fM l enc)))(hl:l.length<=9223372036854775807)(ht:pA T fv (λx => .agg (enc x)) p l){J:SK}(hs:eT J lv=some F):
  dt T (.call false f [.sl lv bi v 0 l.length w,fv] J)=some (.val (iI (idxOf p l)) J):=by
 refine pB hT (vn.eq_1 _ _) rfl ?_;have hlt:=zT hs;have h:=Lw hw hF hl ht (lv:=lv) (F:=F) (J:=[]::J) (by simp[eT,hs,show ¬J.length=lv by omega]) l.length 0 (by simp);obtain⟨h1,h2,h3⟩:=ht;simp[h2];refine WL.mono (by simpa using h) ?_;rintro x e J' ⟨rfl,h10⟩
 try simp only[aC]at h10
 by_cases h11:idxOf p l<0
 .rw[if_pos h11]at h10;subst h10;have:idxOf p l = -1:=by
   cases l with
   |nil=>rfl
   |cons a l =>
    simp only[idxOf]at h11 ⊢;split at h11<;>rename_i ha
    .omega
    .rw[if_neg ha];split at h11<;>rename_i hb
     .rw[if_pos hb]
     .omega
  simp[this]
 .rw[if_neg h11]at h10;obtain⟨rfl,h12⟩:=h10
  try simp at h12
  simp[h12]
include hw in
theorem FO{f i:Nat}(hT:T f=some (jf i))(hi:T i=some (vn true w))(hF:F[bi]?=some (.cells v (fM l enc)))(hl:l.length<=9223372036854775807)(ht:pA T fv (λx => .agg (enc x)) p l){J:SK}(hs:eT J lv=some F):
  dt T (.call false f [.sl lv bi v 0 l.length w,fv] J)=some (.val (.bool (mK l p)) J):=by
 refine pB hT (jf.eq_1 _) rfl ?_;have hlt:=zT hs;have h:=Lx hw hi hF hl ht (lv:=lv) (F:=F) (J:=[]::J) (by simp[eT,hs,show ¬J.length=lv by omega]);obtain⟨h1,h2,h3⟩:=ht;have h4:decide (0<=idxOf p l)=mK l p:=by
  unfold mK;have h6:=IK (p:=p) (l:=l);cases h5:l.any p
  .have:=h6.2 h5;exact decide_eq_false (by omega)
  .exact decide_eq_true (by
    have:¬idxOf p l<0:=λh=>by rw[h6.1 h]at h5;cases h5
    omega)
 simp[h1,h2,h,h4]
include hw in
theorem KT{f g h i:Nat}(hf:T f=some (G8 g h))(hg:T g=some (Bc true w))(hh:T h=some (jf i))(hi:T i=some (vn true w))
  (hF:F[bi]?=some (.cells v (fM l enc))) (hl:l.length<=9223372036854775807) (ht:pA T fv (λx => .agg (enc x)) p l) (hcl:fv.cells=some [fv]) {J:SK} (hs:eT J lv=some F):
  dt T (.call false f [.sl lv bi v 0 l.length w,fv] J)=some (.val (.bool (dq l p)) J):=by
 refine pB hf (G8.eq_1 _ _) rfl ?_;have hlt:=zT hs;have h:=FO hw hh hi hF hl (Uc (yI w enc hw) hg ht) (lv:=lv) (F:=F) (J:=[]::J) (by simp[eT,hs,show ¬J.length=lv by omega]);obtain⟨h1,h2,h3⟩:=ht;have h4:(mK l λx => !p x) = !dq l p:=by
  unfold mK dq;rw[List.all_eq_not_any_not,Bool.not_not]
 simp[h1,h,h4,hcl]
end
end Go.Abs
namespace Go.Proofs.YtpapbbojmclkgaaGreatDoor
open Go Go.Abs Go.Rock
variable {J:SK}
theorem Vt{b:bU}{m:cg}{s:List Rock.aF}(h:Bv b){lv bi v:Nat}{F:List Abs.aF}(hF:F[bi]?=some (.cells v (fM s aF.enc)))(hs:eT J lv=some F)(hl:s.length=b.n):
  Cl 338 [.agg (bM b m),.sl lv bi v 0 s.length 3] (.bool (rG b s)) J:=by
 refine ar ?_;have hlt:=zT hs;have hz:=h.sz;have hn:=h.n;have hsz:=λJ=>BT (J:=J) h
 have ha:=KT (T:=T) (w:=3) (enc:=aF.enc) (λ_=>rfl) (f:=362) (g:=371) (h:=370) (i:=372) (l:=s) (p:=Rock.aF.valid) (fv:=.fn 363 [] []) rfl rfl rfl rfl hF (by omega) (pA.fn λx _ J=>RX) rfl (lv:=lv) (F:=F) (J:=[]::J) (by simp[eT,hs,show ¬J.length=lv by omega]);unfold rG;have hc3:((b.n:Nat):Int)=b.size:=hz.symm;rw[hl]at ha ⊢;cases hc:dq s Rock.aF.valid<;>simp[hsz,ha,hc,hc3]
def jsD(js:List Nat):List D:=js.map λj=>iI (j:Nat)
def Wu(n:Nat)(js:List Nat):List Nat:=(List.range n).filter λj => !(js.contains j)
theorem abW{js:List Nat}{j:Nat}:iI (j:Nat)∈jsD js↔j∈js:=by
 simp only[jsD,bI];constructor
 .rintro⟨a,h1,h2⟩;simp only[D.int.injEq,true_and]at h2;have:a=j:=by omega
  exact this ▸ h1
 .intro h;exact⟨j,h,rfl⟩
def Mp(b:bU)(m:cg)(s:List Rock.aF)(aG:List Int)(L:Nat):Env :=
 [(1,lF s aF.enc),(2,lF aG aO),(3,.aZ (bM b m)),(9,.sl L 1 1 0 s.length 3),(23,.j5 L 6)]
def stT(A X Y Z:Abs.aF)(J:SK)(es:List ((Nat×Nat)×Rock.aF))(s:List Rock.aF)(it:Abs.aF):SK :=
 [A,.cells 1 (fM s aF.enc),.cells 0 (G6 es),X,Y,Z,it]::J
def itB(L n:Nat)(js:List Nat):Abs.aF:=.cells 1 (.j5 L 2::iI (n:Nat)::jsD js)
theorem YZ{A X Y Z:Abs.aF}{es:List ((Nat×Nat)×Rock.aF)}{s:List Rock.aF}{js:List Nat}:
  JN (stT A X Y Z J es s (itB J.length es.length js)) J.length 6=some (.j5 J.length 2,es.length,jsD js,Wu es.length js):=by
 have hl:(G6 es).length=es.length:=by simp[G6]
 simp[JN,stT,itB,DZ,hl,Wu,abW]
theorem ajZ{n:Nat}{js:List Nat}{u:Nat}(hu:u∈Wu n js):(Wu n (u::js)).length<(Wu n js).length:=by
 have e:Wu n (u::js)=(Wu n js).filter λj => !decide (j=u):=by
  unfold Wu;rw[List.filter_filter];congr 1;funext j;simp[Bool.not_or]
 rw[e,List.length_filter_lt_length_iff_exists];exact⟨u,hu,by simp⟩
theorem aeP{b:bU}{m:cg}{s:List Rock.aF}{aG:List Int}{A X Y Z:Abs.aF}{es:List ((Nat×Nat)×Rock.aF)}{r:R}(hs:Sv b s)(hes:∀e∈es,Ww b e)(hel:es.length<=192)
  (hr:WC (dt T) fe ((25,.bool false)::(24,.undef)::Mp b m s aG J.length) (stT A X Y Z J es (es.foldl cI s) .dead) λx e' J'=>r=.FP x e' J'):
  ∀(k:Nat) (js:List Nat),js.Nodup->(∀j∈js,j<es.length)->(Wu es.length js).length=k ->
   dt T (.iC [1,2,3,9,23] (.t 23) 24 25 0 iX fe (Mp b m s aG J.length) (stT A X Y Z J es (js.foldr (λj s=>MF es s j) s) (itB J.length es.length js)))=some r:=by
 intro k;induction k using Nat.strongRecOn with
 |_ k ih =>
 intro js hd hj hk;by_cases hus:Wu es.length js=[]
 .have hall:∀j,j∈js↔j<es.length:=by
   intro j;refine⟨hj j,λhlt=>?_⟩;have h1:j ∉ Wu es.length js:=by rw[hus];simp
   simpa[Wu,hlt]using h1
  have hfin:js.foldr (λj s=>MF es s j) s=es.foldl cI s:=by
   rw[<- acL (js:=js.reverse) ((List.reverse_perm js).nodup_iff.2 hd) (λj=>by simp[hall]),List.foldl_reverse]
  rw[hfin];have hit:=YZ (J:=J) (A:=A) (X:=X) (Y:=Y) (Z:=Z) (es:=es) (s:=es.foldl cI s) (js:=js);rw[hus]at hit;refine V8 iX.eq_1 rfl (by simp[Mp]) hit ?_;simp[stT,Mp,itB]at hr ⊢;exact hr
 .have hit:=YZ (J:=J) (A:=A) (X:=X) (Y:=Y) (Z:=Z) (es:=es) (s:=js.foldr (λj s=>MF es s j) s) (js:=js);refine Zl iX.eq_1 rfl (by simp[Mp]) hit hus ?_;intro u hu;have hu2:u<es.length/\u ∉ js:=by simpa[Wu]using hu
  obtain⟨e,he⟩:∃e,es[u]?=some e:=⟨_,aK hu2.1⟩;have hf:=hes e (ai he);have hnext:=ih _ (by rw[<- hk];exact ajZ hu) (u::js) (List.nodup_cons.2 ⟨hu2.2,hd⟩) (by intro j hjm;rcases bx.1 hjm with rfl | hjm;exact hu2.1;exact hj j hjm) rfl;have hb:=UX hes js s 1000000000000 hs.CC;have hjl:js.length<=192:=by
   have h1:js.length<=es.length:=by
    have:=hd.length_le_of_subset (l₂:=List.range es.length) (λj hjm=>by simpa using hj j hjm);simpa using this
   omega
  have hlen:(js.foldr (λj s=>MF es s j) s).length=b.n:=by
   have:∀js:List Nat,(js.foldr (λj s=>MF es s j) s).length=s.length:=by
    intro js;induction js with
    |nil=>rfl
    |cons a l ih=>simp only[List.foldr_cons,acM];exact ih
   rw[this,hs.len]
  simp only[List.foldr_cons]at hnext;generalize hs1:js.foldr (λj s=>MF es s j) s=s1 at *
  have hstp:MF es s1 u=cq (cq s1 e.1.1 e.2 (-1)) e.1.2 e.2 1:=by simp[MF,he,cI]
  rw[hstp]at hnext;have hbn:CC 400000000000000 s1:=λx hx=>dj (hb x hx) (by omega)
  have hb1:=rh (i:=e.1.1) (sign := -1) hbn hf.2 (.inr rfl) (by omega);obtain⟨x1,y1⟩:=CO hbn (i:=e.1.1) (by have:=hf.1.1;omega);obtain⟨x2,y2⟩:=CO hb1 (i:=e.1.2) (by rw[HY];have:=hf.1.2;omega);have hM1:∀I,dt T (.call false 334 [.ref J.length 1 1 (e.1.1*3),.agg [iI e.2.m,iI e.2.h,iI e.2.k],iI (-1)] ([A,.cells 1 (fM s1 aF.enc),.cells 0 (G6 es),X,Y,Z,I]::J)) =
    some (.val (.cQ []) ([A,.cells 1 (fM (cq s1 e.1.1 e.2 (-1)) aF.enc),.cells 0 (G6 es),X,Y,Z,I]::J)) :=
   λI=>KB (F:=[A,.cells 1 (fM s1 aF.enc),.cells 0 (G6 es),X,Y,Z,I]) (j:=1) rfl x1 (dj y1 (by omega)) (dj hf.2 (by omega)) (.inr rfl)
  have hM2:∀I,dt T (.call false 334 [.ref J.length 1 1 (e.1.2*3),.agg [iI e.2.m,iI e.2.h,iI e.2.k],iI 1] ([A,.cells 1 (fM (cq s1 e.1.1 e.2 (-1)) aF.enc),.cells 0 (G6 es),X,Y,Z,I]::J)) =
    some (.val (.cQ []) ([A,.cells 1 (fM (cq (cq s1 e.1.1 e.2 (-1)) e.1.2 e.2 1) aF.enc),.cells 0 (G6 es),X,Y,Z,I]::J)) :=
   λI=>KB (F:=[A,.cells 1 (fM (cq s1 e.1.1 e.2 (-1)) aF.enc),.cells 0 (G6 es),X,Y,Z,I]) (j:=1) rfl x2 (dj y2 (by omega)) (dj hf.2 (by omega)) (.inl rfl)
  have hfe:(G6 es)[u]?=some (.cQ [.agg [iI e.1.1,iI e.1.2],.agg [iI e.2.m,iI e.2.h,iI e.2.k]]):=by simp[G6,he]
  have hfl:(G6 es).length=es.length:=by simp[G6]
  have hE:DT ([A,.cells 1 (fM s1 aF.enc),.cells 0 (G6 es),X,Y,Z,.cells 1 (.j5 J.length 2::iI (es.length:Nat)::iI (u:Nat)::jsD js)]::J) .ent [.j5 J.length 6] =
    some (.cQ [.agg [iI e.1.1,iI e.1.2],.agg [iI e.2.m,iI e.2.h,iI e.2.k]],[A,.cells 1 (fM s1 aF.enc),.cells 0 (G6 es),X,Y,Z,.cells 1 (.j5 J.length 2::iI (es.length:Nat)::iI (u:Nat)::jsD js)]::J):=by
   simp[DT,DZ,hfl,hfe]
  have hi1:e.1.1<s.length:=by have:=hf.1.1;have:=hs.len;omega
  have hi2:e.1.2<s.length:=by have:=hf.1.2;have:=hs.len;omega
  simp[Mp,stT,itB,hE,hM1,hM2,hi1,hi2];simpa[Mp,stT,itB,jsD]using hnext
theorem Im{b:bU}(h:Bv b):∀w∈b.aw,(0<=w.b/\w.b<(b.n:Int))/\(0<=w.h/\w.h<=3000)/\(0<=w.m/\w.m<=1000000):=by
 have key:∀(l:List bA) (u:List Int),oI b.size u l=true->∀w∈l,(0<=w.b/\w.b<(b.n:Int))/\(0<=w.h/\w.h<=3000)/\(0<=w.m/\w.m<=1000000):=by
  intro l;induction l with
  |nil=>intro u _ w hw;cases hw
  |cons a l ih =>
   intro u hu w hw;simp only[oI,bA.ok,ah]at hu;obtain⟨⟨h1,h2,h3,h4⟩,h5⟩:=hu;rcases bx.1 hw with rfl | hw
   .have hs:=h.sz;have:=aQ.1 h1;unfold bU.size at this;exact⟨⟨this.1,by omega⟩,aQ.1 h3,aQ.1 h4⟩
   .exact ih _ h5 w hw
 exact key _ _ h.ok
theorem mulR{a r A R:Int}(ha:0<=a/\a<=A)(hr : -R<=r/\r<=R) : -(R*A)<=r*a/\r*a<=R*A:=by
 rcases eV 0 r with h | h
 .have:=jb h hr.2 ha.1 ha.2;have h2:=bB (show 0<=R by omega) (show 0<=A by omega);omega
 .have:=jb (a := -r) (A:=R) (by omega) (by omega) ha.1 ha.2;rw[Int.neg_mul]at this;have h2:=bB (show 0<=R by omega) (show 0<=A by omega);omega
theorem Lr{w:bA}{r:Int}(hr : -100000<=r/\r<=100000)(h1:0<=w.h/\w.h<=3000)(h2:0<=w.m/\w.m<=1000000):sm (w.given r) 1000000000000:=by
 have b1:=mulR h1 hr;have b2:=mulR h2 hr;exact⟨⟨by simp only[bA.given];omega,by simp only[bA.given];omega⟩,⟨by simp only[bA.given,Int.neg_mul];omega,by simp only[bA.given,Int.neg_mul];omega⟩,⟨by simp only[bA.given,Int.neg_mul];omega,by simp only[bA.given,Int.neg_mul];omega⟩⟩
theorem Sw{b:bU}{m:cg}(h:Fv b m){i:Nat}(hi:i<b.n):sm (JI b m i) 1000000000000:=by
 have b1:=h.feed i hi;have b2:=h.bv.deep;have b3:=jb b1.1 b1.2 b2.1 b2.2;exact⟨⟨by simp only[JI];omega,by simp only[JI];omega⟩,⟨by simp only[JI];omega,by simp only[JI];omega⟩,⟨by simp[JI],by simp[JI]⟩⟩
def eJ(b:bU)(s s1:List Rock.aF)(aG:List Int)(j:Nat):List Rock.aF:=((b.aw.zip aG).take j).foldl (λn wr=>mI s n wr.1 wr.2) s1
def lV(b:bU)(m:cg)(s2:List Rock.aF)(i:Nat):List Rock.aF:=(List.range i).foldl (λn i=>cq n i (JI b m i) 1) s2
theorem Il{b:bU}{s s1:List Rock.aF}{aG:List Int}{j:Nat}{w:bA}{r:Int}(h1:b.aw[j]?=some w)(h2:aG[j]?=some r):eJ b s s1 aG (j+1)=mI s (eJ b s s1 aG j) w r:=by
 have:(b.aw.zip aG)[j]?=some (w,r):=by rw[List.getElem?_zip_eq_some];exact⟨h1,h2⟩
 unfold eJ;rw[List.take_add_one,this,List.foldl_append];rfl
theorem Eu{b:bU}{m:cg}{s2:List Rock.aF}{i:Nat}:lV b m s2 (i+1)=cq (lV b m s2 i) i (JI b m i) 1:=by
 unfold lV;rw[List.range_succ,List.foldl_append];rfl
theorem zj{b:bU}{m:cg}{s2:List Rock.aF}:∀i,(lV b m s2 i).length=s2.length
 |0=>rfl
 |i+1=>by rw[Eu,HY,zj i]
theorem aah{b:bU}{s:List Rock.aF}{aG:List Int}{j:Nat}{w:bA}{r:Int}(h1:b.aw[j]?=some w)(h2:aG[j]?=some r):(bK b s aG)[j]?=some (iw s w r):=by
 have:(b.aw.zip aG)[j]?=some (w,r):=by rw[List.getElem?_zip_eq_some];exact⟨h1,h2⟩
 simp[bK,this]
structure Rv(b:bU)(aG:List Int):Prop where
 len:aG.length=b.aw.length
 ok:∀r∈aG,-100000<=r/\r<=100000
theorem Rv.of{b:bU}{aG:List Int}(h:rj b aG=0):Rv b aG:=by
 unfold rj at h;split at h
 .rename_i hl;split at h
  .rename_i ha;exact⟨hl,λr hr=>aQ.1 (eQ.1 ha r hr)⟩
  .cases h
 .cases h
theorem ab8{b:bU}{s next:List Rock.aF}(h:Bv b)(hs:Sv b s){aG:List Int}(hr:Rv b aG){j:Nat}{w:bA}{r:Int}(h1:b.aw[j]?=some w)(h2:aG[j]?=some r){N:Int}(hb:CC N next):CC (N+1000000000000) (mI s next w r):=by
 have hw:=Im h w (ai h1);have hrr:=hr.ok r (ai h2);obtain⟨_,m1,m2,m3⟩:=hs.at (i:=w.b.toNat) (by omega);have d2:=aS (b:=8) (show 0<=(aT s w.b.toNat).m by omega);unfold mI iw;split
 .exact rh hb (Lr hrr hw.2.1 hw.2.2) (.inl rfl) (by omega)
 .exact rh hb (ON m1 m2 m3 ⟨by rw[d2];omega,by rw[d2];omega⟩) (.inr rfl) (by omega)
theorem Pk{s n:List Rock.aF}{w:bA}{r:Int}:(mI s n w r).length=n.length:=by
 unfold mI;split<;>simp[HY]
theorem zY{b:bU}{s s1:List Rock.aF}(h:Bv b)(hs:Sv b s){aG:List Int}(hr:Rv b aG)(hb:CC 500000000000000 s1):∀j,j<=aG.length->CC (500000000000000+1000000000000*j) (eJ b s s1 aG j)/\(eJ b s s1 aG j).length=s1.length
 |0,_=>⟨by simpa[eJ]using hb,by simp[eJ]⟩
 |j+1,hj=>by
  obtain⟨r,h2⟩:∃r,aG[j]?=some r:=gE (by omega);obtain⟨w,h1⟩:∃w,b.aw[j]?=some w:=⟨_,aK (by rw[<- hr.len];omega)⟩;obtain⟨ih1,ih2⟩:=zY h hs hr hb j (by omega);rw[Il h1 h2];have h3:=ab8 h hs hr h1 h2 ih1;exact⟨λx hx=>dj (h3 x hx) (by push_cast;omega),by rw[Pk,ih2]⟩
theorem Nb{b:bU}{m:cg}{s2:List Rock.aF}(h:Fv b m)(hb:CC 600000000000000 s2):∀i,i<=b.n->CC (600000000000000+1000000000000*i) (lV b m s2 i)
 |0,_=>by simpa[lV]using hb
 |i+1,hi=>by
  have ih:=Nb h hb i (by omega);rw[Eu];have h3:=rh (i:=i) ih (Sw h (i:=i) (by omega)) (.inl rfl) (by omega);exact λx hx=>dj (h3 x hx) (by push_cast;omega)
theorem abz{b:bU}{j:Nat}{w:bA}(h:b.aw[j]?=some w):((fM b.aw bA.enc).drop (j*3)).take 3=[iI w.b,iI w.h,iI w.m] :=
 aP (f:=bA.enc) (w:=3) (λ_=>rfl) h
theorem T3{b:bU}{m:cg}{s s1:List Rock.aF}{aG:List Int}{A FL X Y Z W:Abs.aF}(h:Fv b m)(hs:Sv b s)(hr:Rv b aG)(hb:CC 500000000000000 s1)(hl1:s1.length=s.length):∀(k j v:Nat),j+k=aG.length ->
  WL T [1,3,9,12,41,42,43] false gQ [(1,lF s aF.enc),(3,.aZ (bM b m)),(9,.sl J.length 1 1 0 s.length 3),(12,.sl J.length 7 v 0 j 3),(41,lF aG aO),(42,iI aG.length),(43,iI j)]
   ([A,.cells 1 (fM (eJ b s s1 aG j) aF.enc),FL,X,Y,Z,W,.cells v (fM ((bK b s aG).take j) aF.enc)]::J)
   (λx e J'=>x=.exit 2/\get e 3=.aZ (bM b m)/\get e 9=.sl J.length 1 1 0 s.length 3/\get e 12=.sl J.length 7 (v+k) 0 aG.length 3 /\
    J'=[A,.cells 1 (fM (eJ b s s1 aG aG.length) aF.enc),FL,X,Y,Z,W,.cells (v+k) (fM (bK b s aG) aF.enc)]::J)
 |0,j,v,hj=>by
  refine av gQ.eq_1 ?_;obtain rfl:j=aG.length:=by omega
  have hyl:(bK b s aG).length=aG.length:=by simp[bK,hr.len]
  have h3:(bK b s aG).take aG.length=bK b s aG:=af (by omega);simp[h3]
 |k+1,j,v,hj=>by
  refine av gQ.eq_1 ?_;have h1:j<aG.length:=by omega
  have hwl:=h.bv.aw;have hrl:=hr.len;obtain⟨r,hr2⟩:∃r,aG[j]?=some r:=gE (by omega);obtain⟨w,hw1⟩:∃w,b.aw[j]?=some w:=gE (by omega);have hw:=Im h.bv w (ai hw1);have hrr:=hr.ok r (ai hr2);have hwn:w.b.toNat<b.n:=by omega
  have hlen:=hs.len;obtain⟨x0,m1,m2,m3⟩:=hs.at (i:=w.b.toNat) hwn;obtain⟨ib,il⟩:=zY h.bv hs hr hb j (by omega);obtain⟨x1,y1⟩:=CO ib (i:=w.b.toNat) (by omega);have h4:=bO h1;have a1:=abz hw1;have a2:=gw hr2;have a3:=aP (f:=aF.enc) (w:=3) (λ_=>rfl) x0;have hy:=aah (s:=s) hw1 hr2;have f3:=l7 (f:=aF.enc) hy;have hyl:(bK b s aG).length=aG.length:=by simp[bK,hr.len]
  have f4:=tW ((bK b s aG).take j);rw[bY,hyl,Nat.min_eq_left (by omega)]at f4;have f6:(fM ((bK b s aG).take j) aF.enc).take (j*3)=fM ((bK b s aG).take j) aF.enc:=af (by omega);have h7:(j+1)*24<=room:=by unfold room;omega
  have ih:=T3 (A:=A) (FL:=FL) (X:=X) (Y:=Y) (Z:=Z) (W:=W) h hs hr hb hl1 k (j+1) (v+1) (by omega);have hsucc:=Il (s:=s) (s1:=s1) hw1 hr2;have hB0:(0:Int)<=w.b:=hw.1.1;have⟨hB1,hjw⟩:w.b<(s.length:Int)/\j<b.aw.length:=by omega
  have d2:=aS (b:=8) (show 0<=(aT s w.b.toNat).m by omega);by_cases hc:r<0
  .have hg:=λJ=>aaO (J:=J) hrr hw.2.1 hw.2.2
   have hM:∀V,dt T (.call false 334 [.ref J.length 1 1 (w.b.toNat*3),.agg [iI (w.given r).m,iI (w.given r).h,iI (w.given r).k],iI 1] ([A,.cells 1 (fM (eJ b s s1 aG j) aF.enc),FL,X,Y,Z,W,V]::J)) =
     some (.val (.cQ []) ([A,.cells 1 (fM (eJ b s s1 aG (j+1)) aF.enc),FL,X,Y,Z,W,V]::J)):=by
    intro V;rw[hsucc,mI,if_pos hc];exact KB (F:=[A,.cells 1 (fM (eJ b s s1 aG j) aF.enc),FL,X,Y,Z,W,V]) (j:=1) rfl x1 (dj y1 (by omega)) (dj (Lr hrr hw.2.1 hw.2.2) (by omega)) (.inl rfl)
   have hwy:iw s w r=⟨0,0,0⟩:=by simp[iw,hc]
   rw[hwy]at f3;simp only[bA.enc,aF.enc]at hg;simp[h1,h4,a1,a2,f4,f6,h7,hB0,hB1,hjw,hc,hg,hM];refine WL.to ih (by simp[]) (by simp[<- f3]) λx e J hh=>by simpa[dI,Nat.add_comm 1 k]using hh
  .have w7:=cm (n:=(aT s w.b.toNat).m.tdiv 8) (by rw[d2];omega);have hO:=λJ=>Xl (J:=J) (q:=min r ((aT s w.b.toNat).m.tdiv 8)) m1 m2 m3 ⟨by rw[d2];omega,by rw[d2];omega⟩
   have hos:=ON (q:=min r ((aT s w.b.toNat).m.tdiv 8)) m1 m2 m3 ⟨by rw[d2];omega,by rw[d2];omega⟩;have hwy:iw s w r=(aT s w.b.toNat).out (min r ((aT s w.b.toNat).m.tdiv 8)):=by simp[iw,hc]
   have hsucc':eJ b s s1 aG (j+1)=cq (eJ b s s1 aG j) w.b.toNat ((aT s w.b.toNat).out (min r ((aT s w.b.toNat).m.tdiv 8))) (-1):=by
    rw[hsucc,mI,if_neg hc,hwy]
   rw[hwy]at f3;generalize hQ:min r ((aT s w.b.toNat).m.tdiv 8)=Q at *
   generalize (aT s w.b.toNat).out Q=O at *
   have hM:∀V,dt T (.call false 334 [.ref J.length 1 1 (w.b.toNat*3),.agg [iI O.m,iI O.h,iI O.k],iI (-1)] ([A,.cells 1 (fM (eJ b s s1 aG j) aF.enc),FL,X,Y,Z,W,V]::J)) =
     some (.val (.cQ []) ([A,.cells 1 (fM (eJ b s s1 aG (j+1)) aF.enc),FL,X,Y,Z,W,V]::J)):=by
    intro V;rw[hsucc'];exact KB (F:=[A,.cells 1 (fM (eJ b s s1 aG j) aF.enc),FL,X,Y,Z,W,V]) (j:=1) rfl x1 (dj y1 (by omega)) (dj hos (by omega)) (.inr rfl)
   simp only[aF.enc]at hO;simp[h1,h4,a1,a2,a3,f4,f6,h7,hB0,hB1,hjw,hc,w7,hQ,hO,hM];refine WL.to ih (by simp[]) (by simp[<- f3]) λx e J hh=>by simpa[dI,Nat.add_comm 1 k]using hh
theorem XQ{b:bU}{m:cg}{s2:List Rock.aF}{A FL X Y Z W V:Abs.aF}{d12:D}(h:Fv b m)(hb:CC 600000000000000 s2)(hl2:s2.length=b.n)(hd:d12.strip=d12/\d12.calm=d12):∀(k i:Nat),i+k=b.n ->
  WL T [3,9,12,93,94] false gR [(3,.aZ (bM b m)),(9,.sl J.length 1 1 0 b.n 3),(12,d12),(93,iI b.n),(94,iI i)]
   ([A,.cells 1 (fM (lV b m s2 i) aF.enc),FL,X,Y,Z,W,V]::J)
   (λx e J'=>x=.exit 4/\get e 3=.aZ (bM b m)/\get e 9=.sl J.length 1 1 0 b.n 3/\get e 12=d12/\J'=[A,.cells 1 (fM (lV b m s2 b.n) aF.enc),FL,X,Y,Z,W,V]::J)
 |0,i,hi=>by
  refine av gR.eq_1 ?_;obtain rfl:i=b.n:=by omega
  simp[hd]
 |k+1,i,hi=>by
  refine av gR.eq_1 ?_;have h1:i<b.n:=by omega
  have hn:=h.bv.n;have h4:=bO h1;have hf:=λJ=>ahP (J:=J) h h1
  have ih:=XQ (A:=A) (FL:=FL) (X:=X) (Y:=Y) (Z:=Z) (W:=W) (V:=V) h hb hl2 hd k (i+1) (by omega);have ib:=Nb h hb i (by omega);obtain⟨x1,y1⟩:=CO ib (i:=i) (by rw[zj,hl2];omega);have hM:dt T (.call false 334 [.ref J.length 1 1 (i*3),.agg [iI (JI b m i).m,iI (JI b m i).h,iI (JI b m i).k],iI 1] ([A,.cells 1 (fM (lV b m s2 i) aF.enc),FL,X,Y,Z,W,V]::J)) =
    some (.val (.cQ []) ([A,.cells 1 (fM (lV b m s2 (i+1)) aF.enc),FL,X,Y,Z,W,V]::J)):=by
   rw[Eu];exact KB (F:=[A,.cells 1 (fM (lV b m s2 i) aF.enc),FL,X,Y,Z,W,V]) (j:=1) rfl x1 (dj y1 (by omega)) (dj (Sw h h1) (by omega)) (.inl rfl)
  simp only[aF.enc]at hf;simp[h1,h4,hf,hM,hd];refine WL.to ih (by simp[]) rfl λx e J hh=>hh
theorem OG{b:bU}{m:cg}{s:List Rock.aF}{aG:List Int}(hr:Rv b aG)(hl:s.length=b.n):lV b m (eJ b s ((tK b m s).foldl cI s) aG aG.length) b.n=mV b m s aG:=by
 have:(b.aw.zip aG).take aG.length=b.aw.zip aG:=af (by rw[List.length_zip];omega);simp only[mV,lV,eJ,this,hl]
theorem Nh{b:bU}{m:cg}{s:List Rock.aF}(h:Fv b m)(hs:Sv b s):CC 500000000000000 ((tK b m s).foldl cI s)/\((tK b m s).foldl cI s).length=s.length:=by
 obtain⟨h1,h2⟩:=Qx (m:=m) h.bv hs;have key:∀(es:List ((Nat×Nat)×Rock.aF)) (s:List Rock.aF) (N:Int),(∀e∈es,Ww b e)->CC N s->CC (N+2000000000000*es.length) (es.foldl cI s)/\(es.foldl cI s).length=s.length:=by
  intro es;induction es with
  |nil=>intro s N _ h;exact⟨by simpa using h,rfl⟩
  |cons e es ih =>
   intro s N he hb;obtain⟨a1,a2⟩:=ih (cI s e) _ (λx hx=>he x (by simp[hx])) (Qv hb (he e (by simp)));simp only[List.foldl_cons,aE];exact⟨λx hx=>dj (a1 x hx) (by push_cast;omega),by rw[a2,Qw]⟩
 obtain⟨a1,a2⟩:=key _ s _ h1 hs.CC;exact⟨λx hx=>dj (a1 x hx) (by omega),a2⟩
theorem aes{b:bU}{m:cg}{s s1:List Rock.aF}{aG:List Int}{A FL X Y Z W:Abs.aF}(h:Fv b m)(hs:Sv b s)(hr:Rv b aG)(hb:CC 500000000000000 s1)(hl1:s1.length=s.length):
  WC (dt T) fe ((25,.bool false)::(24,.undef)::Mp b m s aG J.length) ([A,.cells 1 (fM s1 aF.enc),FL,X,Y,Z,W]::J) λx e J' =>
   x=.ret/\J'=[A,.cells 1 (fM (lV b m (eJ b s s1 aG aG.length) b.n) aF.enc),FL,X,Y,Z,W,.cells aG.length (fM (bK b s aG) aF.enc)]::J /\
   (if rG b (lV b m (eJ b s s1 aG aG.length) b.n)=true then get e 6=.sl J.length 1 1 0 b.n 3/\get e 7=.sl J.length 7 aG.length 0 aG.length 3/\get e 8=iI 0
    else get e 6=.bu/\get e 7=.bu/\get e 8=iI 9):=by
 have hl:=hs.len;have hn:=h.bv.n;have hwl:=h.bv.aw;have hrl:=hr.len;obtain⟨wb,wl⟩:=zY h.bv hs hr hb aG.length (aN _);have fl:=zj (b:=b) (m:=m) (s2:=eJ b s s1 aG aG.length) b.n;rw[BW fe.eq_1];simp[Mp];refine WL.to (T3 (J:=J) (A:=A) (FL:=FL) (X:=X) (Y:=Y) (Z:=Z) (W:=W) h hs hr hb hl1 aG.length 0 0 (by omega)) (by simp[]) (by simp[eJ]) ?_;rintro x e J' ⟨rfl,g3,g9,g12,rfl⟩;rw[hl]at g9;simp[g3,g9,g12];refine WL.to (XQ (J:=J) (A:=A) (FL:=FL) (X:=X) (Y:=Y) (Z:=Z) (W:=W) (V:=.cells (0+aG.length) (fM (bK b s aG) aF.enc)) (d12:=.sl J.length 7 (0+aG.length) 0 aG.length 3) h (λx hx=>dj (wb x hx) (by omega)) (by rw[wl,hl1,hl]) ⟨rfl,rfl⟩ b.n 0 (by omega)) (by simp[]) (by simp[lV]) ?_;rintro x e J' ⟨rfl,g3,g9,g12,rfl⟩;have hS:=Vt (m:=m) (b:=b) (s:=lV b m (eJ b s s1 aG aG.length) b.n) h.bv (lv:=J.length) (bi:=1) (v:=1) (F:=[A,.cells 1 (fM (lV b m (eJ b s s1 aG aG.length) b.n) aF.enc),FL,X,Y,Z,W,.cells (0+aG.length) (fM (bK b s aG) aF.enc)]) (J:=[A,.cells 1 (fM (lV b m (eJ b s s1 aG aG.length) b.n) aF.enc),FL,X,Y,Z,W,.cells (0+aG.length) (fM (bK b s aG) aF.enc)]::J) rfl (by simp[eT]) (by rw[fl,wl,hl1,hl]);rw[show(lV b m (eJ b s s1 aG aG.length) b.n).length=b.n by rw[fl,wl,hl1,hl]]at hS;cases hc:rG b (lV b m (eJ b s s1 aG aG.length) b.n)
 .rw[hc]at hS;simp at hS;simp[g3,g9,g12,hS]
 .rw[hc]at hS;simp at hS;simp[g3,g9,g12,hS]
def aaa(b:bU)(m:cg)(s:List Rock.aF)(aG:List Int):D:=match tick b m s aG with
 |some (s',y) => .cQ [lF s' aF.enc,lF y aF.enc,.int .i64 0]
 |none => .cQ [.bu,.bu,.int .i64 9]
theorem aeD{b:bU}{m:cg}{s:List Rock.aF}{aG:List Int}(h:Fv b m)(hs:Sv b s)(hr:Rv b aG)(hJ:J≠[]):
  Cl 303 [.agg (bM b m),lF s aF.enc,lF aG aO] (aaa b m s aG) J:=by
 refine ar ?_;have hl:=hs.len;have hn:=h.bv.n;have hne:s≠[]:=by intro h0;rw[h0]at hl;simp at hl;omega
 have hC:=aaH (J:=J) (s:=s) (bs:=[]) (by omega) hne;obtain⟨X,Y,Z,hF⟩:=aaN (J:=J) (A:=.cells 0 []) (B:=.cells 1 (fM s aF.enc)) h hs;obtain⟨fb,fl⟩:=Nh h hs;obtain⟨x,e',J',hrun,rfl,rfl,hq⟩:=aes (J:=J) (A:=.cells 0 []) (FL:=.cells 0 (G6 (tK b m s))) (X:=X) (Y:=Y) (Z:=Z) (W:=.dead) h hs hr fb fl;obtain⟨f1,f2⟩:=Qx (m:=m) h.bv hs;have hM:=aeP (J:=J) (aG:=aG) (m:=m) (A:=.cells 0 []) (X:=X) (Y:=Y) (Z:=Z) (es:=tK b m s) hs f1 f2 (r:=.FP .ret e' ([.cells 0 [],.cells 1 (fM (lV b m (eJ b s ((tK b m s).foldl cI s) aG aG.length) b.n) aF.enc),.cells 0 (G6 (tK b m s)),X,Y,Z,.dead,.cells aG.length (fM (bK b s aG) aF.enc)]::J)) ⟨_,_,_,hrun,rfl⟩ _ [] List.nodup_nil (by simp) rfl;simp only[aY,bd,cz]at hC;have hG:DT ([.cells 0 [],.cells 1 (fM s aF.enc),.cells 0 (G6 (tK b m s)),X,Y,Z]::J) .rng [.j5 J.length 2]=some (.j5 J.length 6,[.cells 0 [],.cells 1 (fM s aF.enc),.cells 0 (G6 (tK b m s)),X,Y,Z,itB J.length (tK b m s).length []]::J):=by
  simp[DT,DZ,itB,jsD,G6]
 simp[hC,hF,hG];refine⟨_,_,_,by simpa[Mp,stT]using hM,?_⟩;rw[OG hr hl]at hq ⊢;have hnl:(mV b m s aG).length=b.n:=by
  rw[<- OG hr hl,zj,(zY h.bv hs hr fb aG.length (aN _)).2,fl,hl]
 have hyl:(bK b s aG).length=aG.length:=by simp[bK,hr.len]
 unfold aaa tick;cases hc:rG b (mV b m s aG)
 .rw[hc]at hq;simp at hq;obtain⟨g6,g7,g8⟩:=hq;simp[g6,g7,g8]
 .rw[hc]at hq;simp only[if_true]at hq;obtain⟨g6,g7,g8⟩:=hq;simp only[if_true];simp[g6,g7,g8];rw[pG (by simp) (by omega)];simp only[ff,gj];rw[<- hnl,gG (f:=aF.enc) (l:=mV b m s aG) (by decide) (λ_=>rfl) (λx=>by simp) hJ (by simp)];simp only[List.set_cons_succ,List.set_cons_zero];rw[<- hyl,gG (f:=aF.enc) (l:=bK b s aG) (by decide) (λ_=>rfl) (λx=>by simp) hJ (by simp)];rw[de (by simp) (by omega)];exact⟨_,rfl⟩
def lI(s:List Rock.aF):List D:=[lF s aF.enc]
theorem Km(l:List (List Rock.aF)):(fM l lI).length=l.length:=by
 have:=bQ (f:=lI) (w:=1) (λ_=>rfl) l;omega
theorem Sv.next{b:bU}{m:cg}{s:List Rock.aF}{aG:List Int}(h:Bv b){s' y:List Rock.aF}(ht:tick b m s aG=some (s',y)):Sv b s':=by
 unfold tick at ht;split at ht
 .rename_i hc;simp only[ae,au]at ht;obtain⟨rfl,_⟩:=ht;exact(Sv.of h).1 hc
 .cases ht
theorem O2{n:Nat}(h:n<=1000000):n*24<=room:=by unfold room;omega
theorem adi(l:List (List Rock.aF)):D.aW (fM l lI)=true:=ef (λx=>by simp[lI,D.clean,Iz]) l
def agp(b:bU)(m:cg)(J:SK)(r:Option (List (List Rock.aF)×List (List Rock.aF)))(x:Abs.Exit)(e:Env)(J':SK):Prop:=match r with
 |some (ss,ys)=>∃v u,x=.exit 0/\get e 4=.own 0 [.sl J.length 2 v 0 ss.length 1,.sl J.length 1 u 0 ys.length 1]/\J'=[.cells 0 [],.cells u (fM ys lI),.cells v (fM ss lI)]::J
 |none=>x=.fw (.uJ 428 (.agg []))/\∃bD,J'=bD::J
theorem X2{b:bU}{m:cg}{az:List (List Int)}(h:Fv b m)(hp:az.length<=200)(hr:∀r∈az,Rv b r):∀(k i v u:Nat) (ss ys:List (List Rock.aF)) (s:List Rock.aF),i+k=az.length->ss.length=i+1->ys.length=i->ss[i]?=some s->Sv b s ->
  WL T [2,4,14,15,16] false iW [(2,.aZ (bM b m)),(4,.own 0 [.sl J.length 2 v 0 (i+1) 1,.sl J.length 1 u 0 i 1]),(14,lF az J0),(15,iI az.length),(16,iI i)]
   ([.cells 0 [],.cells u (fM ys lI),.cells v (fM ss lI)]::J) (agp b m J (oH b m ss ys s (az.drop i)))
 |0,i,v,u,ss,ys,s,hi,h1,h2,h3,hs=>by
  refine av iW.eq_1 ?_;obtain rfl:i=az.length:=by omega
  have h5:az.drop az.length=[]:=an (by omega);simp[h5,oH,agp];exact⟨v,u,by simp[h1,h2]⟩
 |k+1,i,v,u,ss,ys,s,hi,h1,h2,h3,hs=>by
  refine av iW.eq_1 ?_;have⟨hlt,hii⟩:i<az.length/\(i:Int)<i+1:=by omega
  obtain⟨r,hx⟩:=gE hlt;have h4:=bO hlt;have h5:=bz hx;have a1:=aP (f:=J0) (w:=1) (λ_=>rfl) hx;simp only[J0,bJ]at a1;have a2:=re (f:=lI) (w:=1) (λ_=>rfl) h3;simp only[lI,bJ,cU]at a2;have hT:=λJ hJ=>aeD (J:=J) h hs (hr r (ai hx)) hJ
  rw[h5,oH];unfold aaa at hT;cases ht:tick b m s r with
  |none =>
   rw[ht]at hT;simp only at hT;simp[hlt,hii,a1,a2,hT,agp]
  |some p =>
   obtain⟨s',y⟩:=p;rw[ht]at hT;simp only at hT;have ih:=X2 h hp hr k (i+1) (v+1) (u+1) (ss++[s']) (ys++[y]) s' (by omega) (by simp[h1]) (by simp[h2]) (by simp[<- h1]) (Sv.next h.bv ht);have l1:=Km ss;have l2:=Km ys;rw[h1]at l1;rw[h2]at l2;have f1:(fM ss lI).take (i+1)=fM ss lI:=af (by omega);have f2:(fM ys lI).take i=fM ys lI:=af (by omega);have h7:=O2 (n:=i+1) (by omega);have h8:=O2 (n:=i+1+1) (by omega);simp[hlt,hii,h4,a1,a2,hT,f1,f2,l1,l2,h7,h8];exact WL.to ih (by simp) (by simp[lI]) λx e J hh=>hh
theorem TD{b:bU}{m:cg}{az:List (List Int)}(h:Fv b m)(hp:az.length<=200)(hr:∀r∈az,Rv b r)(hJ:J≠[]){ss ys:List (List Rock.aF)}(hrun:Rock.run b m az=some (ss,ys)):
  Cl 252 [.agg (bM b m),lF az J0] (.agg [lF ss lI,lF ys lI]) J:=by
 refine ar ?_;have hf:=λJ hJ=>Ir (J:=J) h hJ
 simp only[Z3]at hf;simp[hf];refine WL.to (X2 (J:=J) h hp hr az.length 0 0 0 [cb b m] [] (cb b m) (by omega) rfl rfl rfl (Sv.first h)) (by simp) (by simp[lI]) ?_;rw[aC,show oH b m [cb b m] [] (cb b m) az=some (ss,ys)from hrun];rintro x e J' ⟨v,u,rfl,g4,rfl⟩;simp[g4];have c1:∀x:List Rock.aF,D.aW (lI x)=true:=λx=>by simp[lI,D.clean,Iz]
 rw[vW (by simp) (by omega)];simp only[ff,gj];rw[gG (f:=lI) (w:=1) (l:=ss) (by decide) (λ_=>rfl) c1 hJ (by simp)];simp only[List.set_cons_succ,List.set_cons_zero];rw[gG (f:=lI) (w:=1) (l:=ys) (by decide) (λ_=>rfl) c1 hJ (by simp)];exact⟨_,rfl⟩
theorem TC{b:bU}{m:cg}{az:List (List Int)}(h:Fv b m)(hp:az.length<=200)(hr:∀r∈az,Rv b r)(hrun:Rock.run b m az=none):
  dt T (.call false 252 [.agg (bM b m),lF az J0] J)=some (.fw (.uJ 428 (.agg [])) J):=by
 refine dZ rfl rfl rfl ?_;have hf:=λJ hJ=>Ir (J:=J) h hJ
 simp only[Z3]at hf;simp[hf];refine WL.to (X2 (J:=J) h hp hr az.length 0 0 0 [cb b m] [] (cb b m) (by omega) rfl rfl rfl (Sv.first h)) (by simp) (by simp[lI]) ?_;rw[aC,show oH b m [cb b m] [] (cb b m) az=none from hrun];rintro x e J' ⟨rfl,bD,rfl⟩;simp[D.clean]
structure tV where
 m:Int
 h:Int
 s:Int
 g:Int
@[simp] def tV.enc(x:tV):List D:=[iI x.m,iI x.h,iI x.s,iI x.g]
def tV.valid(x:tV):Bool:=bF x.m 0 1000000 && (bF x.h 0 (4000*x.m) && (bF x.s 0 (10000*x.m) && bF x.g 0 1000000000))
def eK(r:Rw)(x:tV):Int:=if x.h-x.m*r.l<=0 then 0 else if x.m*r.v<=x.h then x.m else(x.h-x.m*r.l) / (r.v-r.l)
theorem Xa{r:Rw}{x:tV}(hr:0<=r.l/\r.l<r.v/\r.v<=4000)(hm:0<=x.m/\x.m<=1000000)(hh:0<=x.h/\x.h<=4000000000):
  Cl 312 [.agg r.enc,.agg x.enc] (iI (eK r x)) J:=by
 refine ar ?_;have b1:=jb hm.1 hm.2 hr.1 (show r.l<=4000 by omega);have b2:=jb hm.1 hm.2 (show 0<=r.v by omega) hr.2.2;have w1:=cm (n:=x.m*r.l);have w2:=cm (n:=x.h-x.m*r.l);have w3:=cm (n:=x.m*r.v);have w4:=cm (n:=r.v-r.l);have hd:¬r.v-r.l=0:=by omega
 unfold eK;by_cases c1:x.h-x.m*r.l<=0
 .simp[w1,w2,c1]
 .by_cases c2:x.m*r.v<=x.h
  .simp[w1,w2,w3,c1,c2]
  .have t1:=aS (b:=r.v-r.l) (show 0<=x.h-x.m*r.l by omega);have q1:=Int.ediv_nonneg (a:=x.h-x.m*r.l) (b:=r.v-r.l) (by omega) (by omega);have q2:=Int.ediv_le_self (b:=r.v-r.l) (show 0<=x.h-x.m*r.l by omega);have w5:=cm (n:=(x.h-x.m*r.l) / (r.v-r.l));simp[w1,w2,w3,w4,c1,c2,hd,t1,w5]
theorem KD{x:tV}:Cl 260 [.agg x.enc] (.bool x.valid) J:=by
 refine ar ?_;unfold tV.valid;cases h1:bF x.m 0 1000000
 .simp[jX,h1]
 have hm:=aQ.1 h1;have w1:=cm (n:=4000*x.m);have w2:=cm (n:=10000*x.m);cases h2:bF x.h 0 (4000*x.m)
 .simp[jX,h1,h2,w1]
 cases h3:bF x.s 0 (10000*x.m)
 .simp[jX,h1,h2,h3,w1,w2]
 cases h4:bF x.g 0 1000000000<;>simp[jX,h1,h2,h3,h4,w1,w2]
theorem ahW{t:List Rw}{i:Nat}{r:Rw}(h:t[i]?=some r):Cl 261 [lF t Rw.enc,iI i] (.agg r.enc) J:=by
 refine ar ?_;have h1:i<t.length:=(aA.1 h).1;have h2:=aP (f:=Rw.enc) (w:=5) (λ_=>rfl) h;simp[h1,h2]
theorem ac3{t:List Rw}{n:Int}(hl:t.length<=1000000000):Cl 259 [lF t Rw.enc,iI n] (.bool (bF n 0 ((t.length:Int)-1))) J:=by
 refine ar ?_;have w1:=cm (n:=(t.length:Int)-1);simp[jX,w1]
def wat(r:Rw)(x:tV):Int×Int:=if eK r x=0 then(x.m,x.h)else if eK r x=x.m then(0,0)else(x.m-eK r x,x.h-eK r x*r.v)
def Pg(r:Rw)(x:tV):Int:=if eK r x=0 then 0 else if eK r x=x.m then x.h else eK r x*r.v
def aj1(r:Rw)(x:tV):Int:=if eK r x=0 then x.g else 0
def Pf(r:Rw)(x:tV):Int:=if eK r x=0 then 0 else x.g
def held(r:Rw)(x:tV):Int:=min x.s ((wat r x).1*r.s)
def parts(r:Rw)(x:tV):List D:=[iI (eK r x),iI (Pg r x),iI 0,iI (Pf r x),iI (wat r x).1,iI (wat r x).2,iI (held r x),iI (aj1 r x),
 iI (if 0<(wat r x).1 then max 0 ((wat r x).2-(wat r x).1*r.l)else 0),iI (x.s-held r x)]
theorem QD{r:Rw}{x:tV}(hr:0<=r.l/\r.l<r.v/\r.v<=4000)(hm:0<=x.m):0<=eK r x/\eK r x<=x.m/\(eK r x≠0->eK r x≠x.m->0<=x.h-eK r x*r.v+x.m*r.v):=by
 have hmv:x.m*r.v=x.m*r.l+x.m*(r.v-r.l):=by rw[<- Int.mul_add];congr 1;omega
 have hml:=bB hm hr.1;have key:¬x.h-x.m*r.l<=0->¬x.m*r.v<=x.h->0<=(x.h-x.m*r.l) / (r.v-r.l)/\(x.h-x.m*r.l) / (r.v-r.l)<=x.m:=λh1 h2=>⟨Int.ediv_nonneg (by omega) (by omega),Int.ediv_le_of_le_mul (by omega) (by omega)⟩
 have h2:0<=eK r x/\eK r x<=x.m:=by
  unfold eK;by_cases c1:x.h-x.m*r.l<=0
  .rw[if_pos c1];omega
  .rw[if_neg c1];by_cases c2:x.m*r.v<=x.h
   .rw[if_pos c2];omega
   .rw[if_neg c2];exact key c1 c2
 refine⟨h2.1,h2.2,λh3 _=>?_⟩;have h4:=dS h2.2 (show 0<=r.v by omega);have h5:¬x.h-x.m*r.l<=0:=by
  intro hh;exact h3 (by unfold eK;rw[if_pos hh])
 omega
theorem ahS{r:Rw}{x:tV}(hr:0<=r.l/\r.l<r.v/\r.v<=4000)(hs:0<=r.s/\r.s<=2000)(hx:x.valid=true):
  Cl 262 [.agg r.enc,.agg x.enc] (.agg (parts r x)) J:=by
 refine ar ?_;simp only[tV.valid,ah,aQ]at hx;obtain⟨hm,hh,hsl,hg⟩:=hx;have hF:=λJ=>Xa (J:=J) hr hm ⟨hh.1,by omega⟩
 obtain⟨f1,f2,f3⟩:=QD hr hm.1;have b1:=jb f1 (show eK r x<=1000000 by omega) (show 0<=r.v by omega) hr.2.2;have b2:=jb (show 0<=x.m-eK r x by omega) (show x.m-eK r x<=1000000 by omega) hs.1 hs.2;have b3:=jb (show 0<=x.m-eK r x by omega) (show x.m-eK r x<=1000000 by omega) hr.1 (show r.l<=4000 by omega);have b4:=jb hm.1 hm.2 hs.1 hs.2;have b5:=jb hm.1 hm.2 hr.1 (show r.l<=4000 by omega);simp only[Rw.enc,tV.enc]at hF;unfold parts held Pg aj1 Pf wat;generalize eK r x=m at *
 have w1:=cm (n:=m*r.v);have w2:=cm (n:=x.m-m);have w3:=cm (n:=x.h-m*r.v);have w4:=cm (n:=(x.m-m)*r.s);have w5:=cm (n:=(x.m-m)*r.l);have w6:=cm (n:=x.h-m*r.v-(x.m-m)*r.l);have w7:=cm (n:=x.m*r.s);have w8:=cm (n:=x.m*r.l);have w9:=cm (n:=x.h-x.m*r.l);have v1:=cm (n:=x.s-min x.s (x.m*r.s));have v2:=cm (n:=x.s-min x.s ((x.m-m)*r.s));have v3:=cm (n:=x.s);have v4:min x.s 0=0:=by omega
 by_cases c1:m=0
 .subst c1;by_cases c2:0<x.m
  .simp[hF,w7,w8,w9,v1,c2]
  .simp[hF,w7,v1,c2]
 .by_cases c2:m=x.m
  .subst c2;simp[hF,c1,v3,v4]
  .have⟨c3,c4⟩:0<x.m-m/\m<x.m:=by omega
   simp[hF,c1,c2,c4,w1,w2,w3,w4,w5,w6,v2]
theorem ZM{t:List Rw}(ht:fN t=true){i:Nat}{r:Rw}(h:t[i]?=some r):(0<=r.l/\r.l<r.v/\r.v<=4000)/\(0<=r.s/\r.s<=2000):=by
 simp only[fN,ah]at ht;have:=eQ.1 ht.2.1 r (ai h);simp only[Rw.alone,ah,aQ,aB]at this;obtain⟨_,_,h3,h4,h5,h6⟩:=this;exact⟨⟨h3.1,h5,h6⟩,h4⟩
theorem aav{t:List Rw}(ht:fN t=true){i:Nat}{r:Rw}(hi:t[i]?=some r){x:tV}(hx:x.valid=true):
  Cl 218 [lF t Rw.enc,iI i,.agg x.enc] (.cQ [.agg (parts r x),iI 0]) J:=by
 refine ar ?_;have hl:t.length<=20:=by
  simp only[fN,ah]at ht;have:=aQ.1 ht.1;omega
 have hil:i<t.length:=(aA.1 hi).1;have h1:=λJ=>GF (J:=J) (t:=t) (by omega)
 have h2:=λJ=>ac3 (J:=J) (t:=t) (n:=i) (by omega)
 have h3:=λJ=>KD (J:=J) (x:=x)
 have h4:=λJ=>ahW (J:=J) hi
 obtain⟨r1,r2⟩:=ZM ht hi;have h5:=λJ=>ahS (J:=J) r1 r2 hx
 have hin:bF i 0 ((t.length:Int)-1)=true:=aQ.2 (by omega);rw[hin]at h2;rw[hx]at h3;rw[ht]at h1;simp only[tV.enc,Rw.enc]at h3 h4 h5;have hp:(parts r x).length=10:=rfl;have hp2:(parts r x).take 10=parts r x:=rfl;have hpc:D.aW (parts r x)=true:=by simp[parts]
 generalize parts r x=P at *
 simp[h1,h2,h3,h4,h5,hp,hp2];rw[de (by simp[D.clean,hpc]) (by omega)];exact⟨_,rfl⟩
structure Yv(b:bU)(y:List Rock.aF):Prop where
 len:y.length=b.aw.length
 ok:∀o∈y,(0<=o.m/\o.m<=1000000)/\(0<=o.h/\o.h<=10000000000)/\(0<=o.k/\o.k<=1000000000000)
theorem Yv.of{b:bU}{s:List Rock.aF}{aG:List Int}(h:Bv b)(hs:Sv b s)(hr:Rv b aG):Yv b (bK b s aG):=by
 refine⟨by simp[bK,hr.len],?_⟩;intro o ho;simp only[bK,bI]at ho;obtain⟨⟨w,r⟩,hm,rfl⟩:=ho;have hw:=Im h w (List.of_mem_zip hm).1;have hb:=hr.ok r (List.of_mem_zip hm).2;simp only[iw];split
 .simp
 .obtain⟨_,h1,h2,h3⟩:=hs.at (i:=w.b.toNat) (by omega);generalize aT s w.b.toNat=x at *
  have h8:x.m.tdiv 8=x.m / 8:=aS (by omega);have hq:0<=min r (x.m.tdiv 8)/\min r (x.m.tdiv 8)<=x.m:=by omega
  exact⟨⟨hq.1,by simp only[Rock.aF.out];omega⟩,JP h1.1 h2 hq,JP h1.1 h3 hq⟩
theorem aab{b:bU}{m:cg}{s:List Rock.aF}{aG:List Int}{s' y:List Rock.aF}(h:Bv b)(hs:Sv b s)(hr:Rv b aG)(ht:tick b m s aG=some (s',y)):Sv b s'/\Yv b y:=by
 refine⟨Sv.next h ht,?_⟩;unfold tick at ht;split at ht
 .simp only[ae,au]at ht;rw[<- ht.2];exact Yv.of h hs hr
 .cases ht
structure MX(b:bU)(n:Nat)(ss ys:List (List Rock.aF)):Prop where
 sl:ss.length=n+1
 yl:ys.length=n
 sv:∀s∈ss,Sv b s
 yv:∀y∈ys,Yv b y
theorem MX.from{b:bU}{m:cg}(h:Fv b m):∀(az:List (List Int)) (n:Nat) (ss ys:List (List Rock.aF)) (s:List Rock.aF) {ss' ys':List (List Rock.aF)},(∀r∈az,Rv b r)->MX b n ss ys->Sv b s->oH b m ss ys s az=some (ss',ys')->MX b (n+az.length) ss' ys'
 |[],n,ss,ys,s,ss',ys',hr,h1,h2,he=>by
  simp only[oH,ae,au]at he;obtain⟨rfl,rfl⟩:=he;exact h1
 |r::az,n,ss,ys,s,ss',ys',hr,h1,h2,he=>by
  simp only[oH]at he;split at he
  .rename_i s' y ht;obtain⟨g1,g2⟩:=aab h.bv h2 (hr r (List.mem_cons_self ..)) ht;have:=MX.from h az (n+1) _ _ _ (λx hx=>hr x (List.mem_cons_of_mem _ hx)) (⟨by simp[h1.sl],by simp[h1.yl],by
    intro x hx;rcases aU.1 hx with hx | hx
    .exact h1.sv x hx
    .rw[List.mem_singleton.1 hx];exact g1,by
    intro x hx;rcases aU.1 hx with hx | hx
    .exact h1.yv x hx
    .rw[List.mem_singleton.1 hx];exact g2⟩:MX b (n+1) (ss++[s']) (ys++[y])) g1 he
   rw[show n+(r::az).length=n+1+az.length by simp;omega];exact this
  .cases he
theorem MX.of{b:bU}{m:cg}{az:List (List Int)}{ss ys:List (List Rock.aF)}(h:Fv b m)(hr:∀r∈az,Rv b r)(he:Rock.run b m az=some (ss,ys)):MX b az.length ss ys:=by
 have:=MX.from h az 0 _ _ _ hr (⟨rfl,rfl,by simpa using Sv.first h,by simp⟩:MX b 0 [cb b m] []) (Sv.first h) he;simpa using this
theorem BX{α:Type}{p:α->Bool}{x:α}{l:List α}:dq (x::l) p=(p x && dq l p):=by simp[dq]
theorem dw{a b c:Int}:Cl 103 [iI a,iI b,iI c] (.bool (bF a b c)) J:=by
 refine ar ?_;by_cases h:b<=a<;>simp[h,bF]
theorem rH{a b c:Int}:Cl 130 [iI a,iI b,iI c] (.bool (bF a b c)) J:=by
 refine ar ?_;by_cases h:b<=a<;>simp[h,bF]
theorem aaB{f:dF}(hx:1<=f.x/\f.x<=8)(hy:1<=f.y/\f.y<=8)(hz:1<=f.z/\f.z<=8):Cl 131 [.agg (fL f)] (iI f.size) J:=by
 refine ar ?_;obtain⟨h1,h2⟩:=dF.sz hx hy hz;have w1:=cm (n:=f.x*f.y);have w2:=cm (n:=f.x*f.y*f.z);simp[w1,w2,dF.size]
theorem pR{f:dF}(h:f.valid=true):Cl 131 [.agg (fL f)] (iI f.size) J:=by
 obtain⟨h1,h2,h3,h4,h5⟩:=dF.n9.1 h;exact aaB h1 h2 h3
theorem Pn{f:dF}:Cl 88 [.agg (fL f)] (.bool f.valid) J:=by
 refine ar ?_;cases hc1:bF f.x 1 8
 .simp[rH,dF.valid,hc1]
 cases hc2:bF f.y 1 8
 .simp[rH,dF.valid,hc1,hc2]
 cases hc3:bF f.z 1 8
 .simp[rH,dF.valid,hc1,hc2,hc3]
 obtain⟨h1,h2⟩:=dF.sz (aQ.1 hc1) (aQ.1 hc2) (aQ.1 hc3);have w1:=cm (n:=f.x*f.y);have w2:=cm (n:=f.x*f.y*f.z);by_cases hc4:f.x*f.y*f.z<=64
 .simp[rH,dF.valid,dF.size,hc1,hc2,hc3,hc4,w1,w2]
 .simp[rH,dF.valid,dF.size,hc1,hc2,hc3,hc4,w1,w2]
theorem TJ{s:List UInt8}(hl:s.length<=9223372036854775807):∀(m i:Nat),i+m=s.length ->
  WL T [0,3] false oQ [(0,.str s),(3,iI i)] J
   (λx e J'=>J'=J/\if o9 i (s.drop i)then x=.exit 0/\get e 0=.str s else x=.ret/\get e 2=.bool false)
 |0,i,hi=>by
  refine av oQ.eq_1 ?_;have h1:¬i<s.length:=by omega
  have h2:s.drop i=[]:=an (by omega);have hp:ia .Ry [.str s]=some (iI s.length):=rfl;simp[h1,h2,hp,o9]
 |m+1,i,hi=>by
  refine av oQ.eq_1 ?_;have h1:i<s.length:=by omega
  obtain⟨c,hc⟩:=gE h1;have h4:=bO h1;have h5:=bz hc;have ih:=TJ hl m (i+1) (by omega);have hp:ia .Ry [.str s]=some (iI s.length):=rfl;rw[h5,o9];have hd:ia .MD [.str s,iI (i:Int)]=some (.int .u8 c.toNat):=by simp[ia,hc]
  by_cases hc1:97<=c.toNat
  .by_cases hc2:c.toNat<=122
   .have hlet:letter c=true:=by simp[letter,hc1,hc2]
    simp[h1,h4,hd,hp,hlet,show(97:Int)<=(c.toNat:Int)by omega,show(c.toNat:Int)<=122 by omega];exact WL.to ih (by simp) rfl λx e J' hh=>by simpa[hlet]using hh
   .have hlet:letter c=false:=by simp[letter,hc2]
    have hdig:digit c=false:=by simp[digit];omega
    by_cases hi0:i=0
    .subst hi0;have hd0:ia .MD [.str s,iI 0]=some (.int .u8 c.toNat):=by simpa using hd
     have h1':0<s.length:=h1;simp[h1',hd0,hp,hlet,hdig,show(97:Int)<=(c.toNat:Int)by omega,show ¬(c.toNat:Int)<=122 by omega]
    .simp[h1,hd,hp,hlet,hdig,hi0,show(97:Int)<=(c.toNat:Int)by omega,show ¬(c.toNat:Int)<=122 by omega,show ¬(c.toNat:Int)<48 by omega,show(57:Int)<(c.toNat:Int)by omega]
  .have hlet:letter c=false:=by simp[letter,hc1]
   by_cases hi0:i=0
   .subst hi0;have hd0:ia .MD [.str s,iI 0]=some (.int .u8 c.toNat):=by simpa using hd
    have h1':0<s.length:=h1;simp[h1',hd0,hp,hlet,show ¬(97:Int)<=(c.toNat:Int)by omega]
   .by_cases hc3:c.toNat<48
    .have hdig:digit c=false:=by simp[digit];omega
     simp[h1,hd,hp,hlet,hdig,hi0,show ¬(97:Int)<=(c.toNat:Int)by omega,show(c.toNat:Int)<48 by omega]
    .by_cases hc4:57<c.toNat
     .have hdig:digit c=false:=by simp[digit];omega
      simp[h1,hd,hp,hlet,hdig,hi0,show ¬(97:Int)<=(c.toNat:Int)by omega,show ¬(c.toNat:Int)<48 by omega,show(57:Int)<(c.toNat:Int)by omega]
     .have hdig:digit c=true:=by simp[digit];omega
      simp[h1,h4,hd,hp,hlet,hdig,hi0,show ¬(97:Int)<=(c.toNat:Int)by omega,show ¬(c.toNat:Int)<48 by omega,show ¬(57:Int)<(c.toNat:Int)by omega];exact WL.to ih (by simp) rfl λx e J' hh=>by simpa[hlet,hdig,hi0]using hh
theorem J5{s:List UInt8}(hl:s.length<=9223372036854775807):Cl 174 [.str s] (.bool (named s)) J:=by
 refine ar ?_;have hp:ia .Ry [.str s]=some (iI s.length):=rfl;simp;refine WL.to (TJ (J:=[]::J) hl s.length 0 (by omega)) (by simp) rfl ?_;rintro x e J' ⟨rfl,h⟩;simp only[aC]at h;unfold named;cases hc:o9 0 s
 .simp[hc]at h;simp[h]
 .simp[hc]at h;obtain⟨rfl,g0⟩:=h;by_cases h1:1<=s.length
  .by_cases h2:s.length<=16
   .simp[g0,hp,bF,show(1:Int)<=s.length by omega,show(s.length:Int)<=16 by omega]
   .simp[g0,hp,bF,show(1:Int)<=s.length by omega,show ¬(s.length:Int)<=16 by omega]
  .simp[g0,hp,bF,show ¬(1:Int)<=s.length by omega]
theorem PR{f:dF}{m:cg}(hl:m.dh.length<=9223372036854775807):∀(k i:Nat),i+k=m.dh.length ->
  WL T [3,5] false gO [(3,.aZ (mL m)),(5,iI i)] J
   (λx e J'=>J'=J/\if dq (m.dh.drop i) (λn=>bF n (-100000) 100000)then x=.exit 0 else x=.ret/\get e 4=iI 1)
 |0,i,hi=>by
  refine av gO.eq_1 ?_;have h1:¬i<m.dh.length:=by omega
  have h2:m.dh.drop i=[]:=an (by omega);simp[h1,h2,dq]
 |k+1,i,hi=>by
  refine av gO.eq_1 ?_;have h1:i<m.dh.length:=by omega
  obtain⟨c,hc⟩:=gE h1;have h2:=gw hc;have h4:=bO h1;have h5:=bz hc;have ih:=PR (f:=f) hl k (i+1) (by omega);rw[h5,BX];cases hb:bF c (-100000) 100000
  .simp[h1,h2,rH,hb]
  .simp[h1,h2,h4,rH,hb];exact WL.to ih (by simp) rfl λx e J' hh=>by simpa[hb]using hh
theorem WU{f:dF}{m:cg}(hf:f.valid=true)(hn:m.name.length<=9223372036854775807)(hl:m.dh.length<=9223372036854775807):Cl 135 [.agg (fL f),.agg (mL m)] (iI (f.model m)) J:=by
 refine ar ?_;obtain⟨h6,h7⟩:=Cs hf;have w1:=cm (n:=f.k*f.size);have hb:=λJ=>pR (J:=J) (f:=f) hf
 cases hc1:named m.name
 .simp[J5 hn,hc1,dF.model]
 .by_cases hc2:(m.dh.length:Int)=f.k*f.size
  .simp[J5 hn,hc1,hc2,hb,w1];refine WL.to (PR (J:=[]::J) (f:=f) (m:=m) hl m.dh.length 0 (by omega)) (by simp) (by simp) ?_;rintro x e J' ⟨rfl,h⟩;simp only[aC]at h;cases hc3:dq m.dh (λn=>bF n (-100000) 100000)
   .simp[hc3]at h;simp[h,dF.model,hc1,hc2,hc3]
   .simp[hc3]at h;simp[h,dF.model,hc1,hc2,hc3]
  .simp[J5 hn,hc1,hc2,dF.model,hb,w1]
end Go.Proofs.YtpapbbojmclkgaaGreatDoor
