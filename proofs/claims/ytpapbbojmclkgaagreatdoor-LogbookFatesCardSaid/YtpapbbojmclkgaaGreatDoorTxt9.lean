import Derived.Test.YtpapbbojmclkgaaGreatDoorTxt8
import Derived.ProofKit
import Derived.Test.YtpapbbojmclkgaaGreatDoorBase14
set_option linter.all false
set_option maxRecDepth 1000000
namespace Go.Proofs.YtpapbbojmclkgaaGreatDoor
section
open Go Go.Abs Go.Rock Go.Book
def VS(b:Bk)(k:Nat)(nm:List UInt8)(l:List Int)(r:Bk×Int):Prop :=
 (r.1.ah=b.ah/\r.1.dq=b.dq/\(b.ah≠[]->r.1.aQ=b.aQ)) \/
 (r.1.ah=b.ah++[⟨⟨nm,l⟩,true,0⟩]/\r.1.dq=b.dq++[⟨0,0,0,0⟩]/\r.1.aQ=b.aQ/\∀e∈b.ah,e.m.name≠nm) \/
 (∃kd lo hi q,k=5/\l=kd::lo::hi::q/\nW b.aQ.f (ed nm kd lo hi (Dq q))=0/\r=(ek b lo hi (λm=>wB b.aQ.f m (ed nm kd lo hi (Dq q))),0)) \/
 (∃w i lo hi,k=10/\l=[w,i,lo,hi]/\bA w 0 255=true/\eI b.aQ b.az.length ⟨b.az.length,w,i,lo,hi⟩=0/\r=(ek b lo hi (oS b ⟨b.az.length,w,i,lo,hi⟩),0))
theorem PT{n:Nat}{b:Bk}(hK:Kv n b)(k:Nat)(nm:List UInt8)(l:List Int):VS b k nm l (ir b k nm l):=by
 have same:∀e,VS b k nm l (b,e):=λe => .inl ⟨rfl,rfl,λ_=>rfl⟩
 have any:∀{c:Bk} {e:Int},c.ah=b.ah->c.dq=b.dq->c.aQ=b.aQ->VS b k nm l (c,e):=λh1 h2 h3 => .inl ⟨h1,h2,λ_=>h3⟩
 unfold ir;split
 .split
  .unfold nF;split
   .rename_i h1;split
    .exact .inl ⟨rfl,rfl,λhm=>absurd h1 (MB (hK.ready (hK.ms hm))).2⟩
    .exact same _
   .exact same _
  .exact same _
 .unfold lE;split
  .rename_i h1;split
   .exact .inl ⟨rfl,rfl,λhm=>absurd h1 (MB (hK.ready (hK.ms hm))).1⟩
   .exact same _
  .exact same _
 .split
  .unfold xH;split
   .exact same _
   .rename_i h1;split
    .exact .inl ⟨rfl,rfl,λhm=>absurd (.inr (.inr (hK.ms hm))) h1⟩
    .exact same _
  .exact same _
 .split
  .unfold tc;split
   .rename_i h1;split
    .exact .inl ⟨rfl,rfl,λhm=>absurd h1.2 hm⟩
    .exact same _
   .exact same _
  .exact same _
 .unfold pJ;split
  .split
   .exact same _
   .rename_i h1;split
    .split
     .refine .inr (.inl ⟨rfl,rfl,rfl,λe he h=>h1 (Js.2 ⟨e,he,by simp[h]⟩)⟩)
     .exact same _
    .exact same _
  .exact same _
 .split
  .unfold CA;split
   .exact same _
   .split
    .rename_i h1;exact .inr (.inr (.inl ⟨_,_,_,_,rfl,rfl,h1,rfl⟩))
    .exact same _
  .exact same _
 .unfold rO;split
  .split
   .split
    .exact any rfl rfl rfl
    .exact same _
   .exact same _
  .exact same _
 .split
  .split
   .exact any rfl rfl rfl
   .exact same _
  .exact same _
 .unfold oK;split
  .split
   .exact any rfl rfl rfl
   .exact same _
  .exact same _
 .unfold mf;split
  .exact same _
  .split
   .split
    .split
     .split
      .exact any rfl rfl rfl
      .exact same _
     .exact same _
    .exact same _
   .exact same _
 .split
  .unfold oz;split
   .exact same _
   .split
    .rename_i h1;split
     .rename_i h2;exact .inr (.inr (.inr ⟨_,_,_,_,rfl,rfl,h1,h2,rfl⟩))
     .exact same _
    .exact same _
  .exact same _
 .split
  .unfold sZ;split
   .split
    .exact any rfl rfl rfl
    .exact same _
   .exact same _
  .exact same _
 .split
  .unfold mI;split
   .exact same _
   .split
    .split
     .exact any rfl rfl rfl
     .exact same _
    .exact same _
  .exact same _
 .exact same _
def afr(l:List (List UInt8))(f:dw)(e:dQ)(v:Ae):Prop :=
 ∃(j:Nat) (s:List UInt8) (w:Wd) (nm:List UInt8) (ns:List Int),e.PV=j/\v.line=j/\l[j]?=some s/\(jK l).2[j]?=some 0/\parse s=some (w,nm,ns)/\bA v.value v.lo v.hi=false /\
 ((w.k=5/\∃kd q,ns=kd::v.lo::v.hi::q/\nW f (ed nm kd v.lo v.hi (Dq q))=0/\v.value=wB f e.m (ed nm kd v.lo v.hi (Dq q))) \/
  (w.k=10/\∃wh i,ns=[wh,i,v.lo,v.hi]/\bA wh 0 255=true/\eI (jK (l.take j)).1.aQ (jK (l.take j)).1.az.length ⟨(jK (l.take j)).1.az.length,wh,i,v.lo,v.hi⟩=0 /\
   (∃e0∈(jK (l.take j)).1.ah,e0.m=e.m/\e0.left=true)/\v.value=oS (jK (l.take j)).1 ⟨(jK (l.take j)).1.az.length,wh,i,v.lo,v.hi⟩ e.m))
def Inv1(l:List (List UInt8))(b:Bk):Prop:=∀(i:Nat) (e:dQ) (v:Ae),b.ah[i]?=some e->b.dq[i]?=some v->(e.left=true->e.PV=0)/\(e.left=false->afr l b.aQ.f e v)
def Inv2(b:Bk):Prop:=∀(i j:Nat) (e e':dQ),b.ah[i]?=some e->b.ah[j]?=some e'->e.m.name=e'.m.name->i=j
def Mm(b b':Bk):Prop:=∀(i:Nat) (e:dQ),b.ah[i]?=some e->∃e',b'.ah[i]?=some e'/\e'.m=e.m/\(e.left=false->e'=e)
theorem Mm.refl(b:Bk):Mm b b:=λi e h=>⟨e,h,rfl,λ_=>rfl⟩
theorem Mm.trans{a b c:Bk}(h1:Mm a b)(h2:Mm b c):Mm a c:=by
 intro i e h;obtain⟨e1,k1,k2,k3⟩:=h1 i e h;obtain⟨e2,j1,j2,j3⟩:=h2 i e1 k1;refine⟨e2,j1,j2.trans k2,λhl=>?_⟩;obtain rfl:=k3 hl;exact j3 hl
theorem KC{b:Bk}{lo hi:Int}{val:bV->Int}{i:Nat}{e:dQ}(h:(ek b lo hi val).ah[i]?=some e):∃e0,b.ah[i]?=some e0/\e=Go.Book.dP b.at_ lo hi val e0:=by
 simp only[ek,Bk.fT,eM,ad]at h;obtain⟨e0,h1,h2⟩:=h;have:=(aA.1 h1).1;rw[if_pos this]at h2;exact⟨e0,h1,h2.symm⟩
theorem aax{b:Bk}{lo hi:Int}{val:bV->Int}{i:Nat}{e:dQ}(h:b.ah[i]?=some e):(ek b lo hi val).ah[i]?=some (Go.Book.dP b.at_ lo hi val e):=by
 have:=(aA.1 h).1;simp only[ek,Bk.fT,eM,h,aZ,if_pos this]
theorem XT{b:Bk}{lo hi:Int}{val:bV->Int}{i:Nat}{e:dQ}{v:Ae}(h:b.ah[i]?=some e)(hw:(ek b lo hi val).dq[i]?=some v):∃v0,b.dq[i]?=some v0/\v=if isStr lo hi val e then⟨b.at_,val e.m,lo,hi⟩else v0:=by
 simp only[ek,Bk.fT,eM,ad]at hw;obtain⟨v0,h1,h2⟩:=hw;have:=(aA.1 h).1;rw[if_pos this]at h2;simp only[aar,h]at h2;exact⟨v0,h1,h2.symm⟩
theorem Re{at_ lo hi:Int}{val:bV->Int}{e:dQ}:(Go.Book.dP at_ lo hi val e).m=e.m:=by
 unfold Go.Book.dP;split<;>rfl
theorem IZ{α:Type}{l:List α}{x y:α}{i:Nat}(h:(l++[x])[i]?=some y):l[i]?=some y\/(i=l.length/\y=x):=by
 by_cases hi:i<l.length
 .rw[fg hi]at h;exact .inl h
 .rw[List.getElem?_append_right (by omega)]at h;cases hk:i-l.length with
  |zero=>rw[hk]at h;simp at h;exact .inr ⟨by omega,h.symm⟩
  |succ k=>rw[hk]at h;simp at h
theorem T7{lo hi:Int}{val:bV->Int}{e:dQ}(h:isStr lo hi val e=true):e.left=true/\bA (val e.m) lo hi=false:=by
 simpa[isStr]using h
theorem WA{l:List (List UInt8)}{i n:Nat}{s:List UInt8}(hs:l[i]?=some s)(hK:Kv n (jK (l.take i)).1)(h1:Inv1 l (jK (l.take i)).1)(h2:Inv2 (jK (l.take i)).1):
  Inv1 l (jK (l.take (i+1))).1/\Inv2 (jK (l.take (i+1))).1/\Mm (jK (l.take i)).1 (jK (l.take (i+1))).1:=by
 obtain⟨r1,r2⟩:=Pz (b:=kl) (k:=0) hs;rw[show(kO kl 0 (l.take (i+1))).1=(jK (l.take (i+1))).1 from rfl]at r1;rw[r1];rw[show(kO kl 0 l).2=(jK l).2 from rfl]at r2;rw[show(kO kl 0 (l.take i)).1=(jK (l.take i)).1 from rfl]at r2 ⊢;rw[show(0:Int)+(i:Int)=(i:Int)from by omega]at r2 ⊢;unfold mc at r2 ⊢;cases hp:parse s with
 |none=>exact⟨h1,h2,Mm.refl _⟩
 |some q =>
 obtain⟨w,nm,ns⟩:=q;rw[hp]at r2;simp only at r2 ⊢;have hW:=PT (hK.TE i) w.k nm ns;obtain⟨b,hb⟩:∃b,b=(jK (l.take i)).1:=⟨_,rfl⟩;have hb1:({(jK (l.take i)).1 with at_:=(i:Int) }:Bk)={b with at_:=(i:Int) }:=by rw[hb]
 rw[hb1]at hW r2 ⊢;generalize hr:ir {b with at_:=(i:Int) } w.k nm ns=r at hW r2 ⊢;rw[<- hb]at h1 h2 hK ⊢;have hwl:=hK.wl;have KB:∀(lo hi:Int) (val:bV->Int),r=(ek {b with at_:=(i:Int) } lo hi val,0) ->
   (∀e v,e∈b.ah->e.left=true->v.line=(i:Int)->v.value=val e.m->v.lo=lo->v.hi=hi->bA (val e.m) lo hi=false->afr l b.aQ.f ⟨e.m,false,i⟩ v) ->
   Inv1 l r.1/\Inv2 r.1/\Mm b r.1:=by
  intro lo hi val hr hwhy;subst hr;refine⟨?_,?_,?_⟩
  .intro j e v he hv;obtain⟨e0,k1,k2⟩:=KC he;obtain⟨v0,k3,k4⟩:=XT k1 hv;have k5:=h1 j e0 v0 k1 k3;cases hst:isStr lo hi val e0 with
   |false =>
    simp only[Go.Book.dP,hst,aC,if_false]at k2 k4;subst k2;subst k4;exact k5
   |true =>
    obtain⟨m1,m2⟩:=T7 hst;simp only[Go.Book.dP,hst,if_true]at k2 k4;subst k2;subst k4;exact⟨λh=>(by cases h),λ_=>hwhy e0 _ (aj k1) m1 rfl rfl rfl rfl m2⟩
  .intro j j' e e' he he' hn;obtain⟨e0,k1,k2⟩:=KC he;obtain⟨e0',k1',k2'⟩:=KC he';refine h2 j j' e0 e0' k1 k1' ?_;rw[k2,k2',Re,Re]at hn;exact hn
  .intro j e he;refine⟨_,aax (b:={b with at_:=(i:Int) }) he,Re,λhl=>?_⟩;simp[Go.Book.dP,isStr,hl]
 rcases hW with⟨m1,m2,m3⟩ | ⟨m1,m2,m3,m4⟩ | ⟨kd,lo,hi,q,m1,rfl,m3,m4⟩ | ⟨wh,ix,lo,hi,m1,rfl,m3,m4,m5⟩
 .simp only at m1 m2 m3;refine⟨?_,?_,?_⟩
  .intro j e v he hv;rw[m1]at he;rw[m2]at hv;rw[m3 (λh=>by rw[h]at he;simp at he)];exact h1 j e v he hv
  .intro j j' e e' he he';rw[m1]at he he';exact h2 j j' e e' he he'
  .intro j e he;rw[m1];exact⟨e,he,rfl,λ_=>rfl⟩
 .simp only at m1 m2 m3 m4;refine⟨?_,?_,?_⟩
  .intro j e v he hv;rw[m1]at he;rw[m2]at hv;rw[m3];rcases IZ he with he | ⟨rfl,rfl⟩
   .rcases IZ hv with hv | ⟨rfl,rfl⟩
    .exact h1 j e v he hv
    .have:=(aA.1 he).1;omega
   .exact⟨λ_=>rfl,λh=>(by cases h)⟩
  .intro j j' e e' he he' hn;rw[m1]at he he';rcases IZ he with he | ⟨rfl,rfl⟩<;>rcases IZ he' with he' | ⟨rfl,rfl⟩
   .exact h2 j j' e e' he he' hn
   .exact absurd hn (m4 e (aj he))
   .exact absurd hn.symm (m4 e' (aj he'))
   .rfl
  .intro j e he;rw[m1];refine⟨e,?_,rfl,λ_=>rfl⟩;rw[fg (aA.1 he).1];exact he
 .refine KB lo hi _ m4 ?_;intro e v he hl v1 v2 v3 v4 hin;subst v3;subst v4;rw[m4]at r2;refine⟨i,s,w,nm,_,rfl,v1,hs,r2,hp,by rw[v2];exact hin,.inl ⟨m1,kd,q,rfl,m3,v2⟩⟩
 .refine KB lo hi _ m5 ?_;intro e v he hl v1 v2 v3 v4 hin;subst v3;subst v4;rw[m5]at r2;refine⟨i,s,w,nm,_,rfl,v1,hs,r2,hp,by rw[v2];exact hin,.inr ⟨m1,wh,ix,rfl,m3,?_,?_,?_⟩⟩
  .rw[<- hb];exact m4
  .rw[<- hb];exact⟨e,he,rfl,hl⟩
  .rw[<- hb];exact v2
theorem Sp{l:List (List UInt8)}(hl:∀s∈l,s.length<=4000):∀n,n<=l.length->Inv1 l (jK (l.take n)).1/\Inv2 (jK (l.take n)).1
 |0,h=>⟨by intro i e v he;simp[jK,kO,kl]at he,by intro i j e e' he;simp[jK,kO,kl]at he⟩
 |n+1,h=>by
  obtain⟨h1,h2⟩:=Sp hl n (by omega);have hK:=GL (l:=l.take n) (k:=0) Kv.zero λs hs=>hl s (dr hs)
  obtain⟨k1,k2,_⟩:=WA (aI (show n<l.length by omega)) hK h1 h2;exact⟨k1,k2⟩
end
section
open Go Go.Abs Go.Rock Go.Book
variable {J:SK}
theorem NN{s t:List UInt8}:Cl tC [.str s,.str t] (.bool (decide (t.length<=s.length) && (s.take t.length == t))) J:=by
 refine au rfl rfl rfl ?_;by_cases h:t.length<=s.length
 .have h':(t.length:Int)<=s.length:=by omega
  simp[gW,h,h']
 .have h':¬(t.length:Int)<=s.length:=by omega
  simp[gW,h,h']
theorem aaJ{l:List (List UInt8)}(hl:l.length<=9223372036854775807):∀(m i:Nat) (x y z:Int),i+m=l.length ->
  WL T [0,3,4,5,6] false nX [(0,lF l dP),(3,iI x),(4,iI y),(5,iI z),(6,iI i)] J
   (λx e J'=>J'=J/\x=.exit 0/\get e 0=lF l dP/\∃u v w,get e 3=iI u/\get e 4=iI v/\get e 5=iI w)
 |0,i,x,y,z,hi=>by
  refine aB nX.eq_1 ?_;have h1:¬i<l.length:=by omega
  simp[h1]
 |m+1,i,x,y,z,hi=>by
  refine aB nX.eq_1 ?_;have h1:i<l.length:=by omega
  obtain⟨s,hs⟩:=gE h1;have a1:=bu (f:=dP) (w:=1) (λ_=>rfl) hs;simp only[dP,cp]at a1;have h4:=cr h1 (by omega);have hB:=λt J=>@NN J s t
  have e1:((i+1:Nat):Int)=(i:Int)+1:=by omega
  have ih:=λx y z=>aaJ hl m (i+1) x y z (by omega)
  rw[e1]at ih;rw[e1]at h4;generalize hv:(λt:List UInt8=>decide (t.length<=s.length) && (s.take t.length == t))=v at hB;have hB':∀t J,Cl tC [.str s,.str t] (.bool (v t)) J:=λt J=>by rw[<- hv];exact NN
  cases c1:v [109,111,100,101,108]<;>cases c2:v [116,105,99,107]<;>simp[gW,h1,a1,h4,hB',c1,c2]<;>
   exact WL.to (ih _ _ _) rfl rfl λx e J' hh=>by simpa using hh
theorem afc{l:List (List UInt8)}(hl:l.length<=9223372036854775807)(J:SK):∃v,Cl Ds [lF l dP] (.bool v) J/\(v=true->l.length<=103):=by
 obtain⟨x,e,J',h1,rfl,rfl,g0,u,v,w,g3,g4,g5⟩:=aaJ (J:=[]::J) hl l.length 0 0 0 0 (by omega);refine⟨decide (v<=4) && (decide (w<=8) && (decide (u<=5000) && (decide ((l.length:Int)<=40) || (decide (u<=400) && decide ((l.length:Int)<=103))))),?_,λh=>by simp only[af,cg,aw]at h;omega⟩;refine au rfl rfl rfl ?_;simp;refine⟨_,_,_,by simpa using h1,?_⟩;by_cases c1:v<=4<;>by_cases c2:w<=8<;>by_cases c3:u<=5000<;>by_cases c4:(l.length:Int)<=40<;>by_cases c5:u<=400<;>by_cases c6:(l.length:Int)<=103<;>
  simp[g0,g3,g4,g5,c1,c2,c3,c4,c5,c6]
end
section
open Go Go.Abs
def qI(n:Int):D:=.int .i64 n
def JH:D:=(.bY 3 [(qI 100),(qI 101),(qI 419),(qI 2676),(qI 150),(qI 150),(qI 476),(qI 632),(qI 2746),(qI 300),(qI 200),(qI 1555),(qI 852),(qI 2793),(qI 600)])
def dc:aD:=.cells 0 []
def X6:D:=(.bY 1 [(qI 0),(qI 500),(qI 5)])
def dq3:D:=(.bY 8 [(qI 8000),(qI 8000),(qI 500),(qI 400),(qI 900),(qI 400),(qI 0),(qI 10)])
def TS:D:=(.sl 3 13 0 0 0 6)
def dq5:D:=(.bY 8 [(qI 8000),(qI 8000),(qI 500),(qI 400),(qI 900),(qI 500),(qI 0),(qI 10)])
def TU:D:=(.sl 3 4 0 0 0 6)
def UH:D:=(.sl 3 3 0 0 0 2)
def Wj:D:=(.sl 3 12 0 0 0 2)
def Zj:D:=(.sl 3 2 0 0 0 2)
def Oy:D:=(.sl 3 14 2 0 2 4)
def Oz:D:=(.sl 3 11 0 0 0 2)
def OA:D:=(.sl 3 1 0 0 0 10)
def acM:D:=(.bY 2 [(.bY 1 [(qI (-50))]),(.bY 1 [(qI 50)])])
def OB:D:=(.sl 3 9 2 0 2 4)
def OC:D:=(.sl 3 5 2 0 2 4)
def OD:D:=(.sl 3 0 2 0 2 4)
def Qv:D:=(.sl 3 10 0 0 0 10)
def TQ:D:=(.sl 3 10 1 0 1 10)
def TR:D:=(.sl 3 1 1 0 1 10)
def b0:aD:=.cells 0 [(qI 0),(qI 0),(qI 0),(qI 0),.aW,(qI 0),(qI 0),(qI 0),.aW,(.sl 3 0 0 0 0 4),.aW,OA,Zj,(qI 1000),(qI 500),(qI 0),UH,TU,(.bool false),(.sl 3 5 0 0 0 4),(qI 0)]
def b1:aD:=.cells 0 [(qI 2),(qI 1),(qI 1),(qI 4),.aW,(qI 0),(qI 0),(qI 0),.aW,(.sl 3 0 0 0 0 4),.aW,OA,Zj,(qI 1000),(qI 500),(qI 0),UH,TU,(.bool false),(.sl 3 5 0 0 0 4),(qI 0)]
def b2:aD:=.cells 0 [(qI 2),(qI 1),(qI 1),(qI 4),JH,(qI 0),(qI 0),(qI 0),.aW,(.sl 3 0 0 0 0 4),.aW,OA,Zj,(qI 1000),(qI 500),(qI 0),UH,TU,(.bool false),(.sl 3 5 0 0 0 4),(qI 1)]
def b3:aD:=.cells 0 [(qI 2),(qI 1),(qI 1),(qI 4),JH,(qI 1000),(qI 0),(qI 800),.aW,(.sl 3 0 0 0 0 4),.aW,OA,Zj,(qI 1000),(qI 500),(qI 0),UH,TU,(.bool true),(.sl 3 5 0 0 0 4),(qI 2)]
def b4:aD:=.cells 3 [(qI 0),(qI 0),(qI 0)]
def b5:aD:=.cells 0 [(qI 2),(qI 1),(qI 1),(qI 4),JH,(qI 1000),(qI 0),(qI 800),X6,(.sl 3 0 0 0 0 4),.aW,OA,Zj,(qI 1000),(qI 500),(qI 0),UH,TU,(.bool true),(.sl 3 5 0 0 0 4),(qI 3)]
def b6:aD:=.cells 4 [(qI 0),(qI 0),(qI 0),(qI 0)]
def b7:aD:=.cells 1 [(.str [97]),dq3,(.bool true),(qI 0)]
def b8:aD:=.cells 1 [(qI 0),(qI 0),(qI 0),(qI 0)]
def b9:aD:=.cells 0 [(qI 2),(qI 1),(qI 1),(qI 4),JH,(qI 1000),(qI 0),(qI 800),X6,(.sl 3 0 1 0 1 4),.aW,OA,Zj,(qI 1000),(qI 500),(qI 0),UH,TU,(.bool true),(.sl 3 5 1 0 1 4),(qI 4)]
def b10:aD:=.cells 5 [(qI 0),(qI 0),(qI 0),(qI 0),(qI 0)]
def b11:aD:=.cells 2 [(.str [97]),dq3,(.bool true),(qI 0),(.str [98]),dq5,(.bool true),(qI 0)]
def b12:aD:=.cells 2 [(qI 0),(qI 0),(qI 0),(qI 0),(qI 0),(qI 0),(qI 0),(qI 0)]
def b13:aD:=.cells 0 [(qI 2),(qI 1),(qI 1),(qI 4),JH,(qI 1000),(qI 0),(qI 800),X6,OD,.aW,OA,Zj,(qI 1000),(qI 500),(qI 0),UH,TU,(.bool true),OC,(qI 5)]
def b14:aD:=.cells 6 [(qI 0),(qI 0),(qI 0),(qI 0),(qI 0),(qI 0)]
def CS:aD:=.cells 2 [(.str [97]),dq3,(.bool true),(qI 0),(.str [98]),dq5,(.bool false),(qI 6)]
def CT:aD:=.cells 2 [(qI 0),(qI 0),(qI 0),(qI 0),(qI 6),(qI 500),(qI 390),(qI 410)]
def b17:aD:=.cells 0 [(qI 2),(qI 1),(qI 1),(qI 4),JH,(qI 1000),(qI 0),(qI 800),X6,OD,.aW,OA,Zj,(qI 1000),(qI 500),(qI 0),UH,TU,(.bool true),OC,(qI 6)]
def b18:aD:=.cells 7 [(qI 0),(qI 0),(qI 0),(qI 0),(qI 0),(qI 0),(qI 0)]
def yZ:aD:=.cells 1 [(qI 0),(qI 0),(qI 0),(qI 9),(qI 9),(qI 9),(qI 20),(qI 5),(qI 1),(.int .u8 (1))]
def b20:aD:=.cells 0 [(qI 2),(qI 1),(qI 1),(qI 4),JH,(qI 1000),(qI 0),(qI 800),X6,OD,.aW,TR,Zj,(qI 1000),(qI 500),(qI 0),UH,TU,(.bool true),OC,(qI 7)]
def b21:aD:=.cells 8 [(qI 0),(qI 0),(qI 0),(qI 0),(qI 0),(qI 0),(qI 0),(qI 0)]
def AL:aD:=.cells 1 [(qI 0),(.bY 1 [(qI 1),(qI 1),(qI 1),(qI 25)])]
def b23:aD:=.cells 0 [(qI 2),(qI 1),(qI 1),(qI 4),JH,(qI 1000),(qI 0),(qI 800),X6,OD,.aW,TR,(.sl 3 2 1 0 1 2),(qI 1000),(qI 500),(qI 0),UH,TU,(.bool true),OC,(qI 8)]
def b24:aD:=.cells 9 [(qI 0),(qI 0),(qI 0),(qI 0),(qI 0),(qI 0),(qI 0),(qI 0),(qI 0)]
def b25:aD:=.cells 0 [(qI 2),(qI 1),(qI 1),(qI 4),JH,(qI 1000),(qI 0),(qI 800),X6,OD,(.bY 1 [(.bY 1 [(qI (-50))])]),TR,(.sl 3 2 1 0 1 2),(qI 1000),(qI 500),(qI 0),UH,TU,(.bool true),OC,(qI 9)]
def b26:aD:=.cells 10 [(qI 0),(qI 0),(qI 0),(qI 0),(qI 0),(qI 0),(qI 0),(qI 0),(qI 0),(qI 0)]
def b27:aD:=.cells 0 [(qI 2),(qI 1),(qI 1),(qI 4),JH,(qI 1000),(qI 0),(qI 800),X6,OD,acM,TR,(.sl 3 2 1 0 1 2),(qI 1000),(qI 500),(qI 0),UH,TU,(.bool true),OC,(qI 10)]
def b28:aD:=.cells 11 [(qI 0),(qI 0),(qI 0),(qI 0),(qI 0),(qI 0),(qI 0),(qI 0),(qI 0),(qI 0),(qI 0)]
def FM:aD:=.cells 1 [(qI 0),(.bY 1 [(qI 100),(qI 400)])]
def b30:aD:=.cells 0 [(qI 2),(qI 1),(qI 1),(qI 4),JH,(qI 1000),(qI 0),(qI 800),X6,OD,acM,TR,(.sl 3 2 1 0 1 2),(qI 1000),(qI 500),(qI 0),(.sl 3 3 1 0 1 2),TU,(.bool true),OC,(qI 11)]
def b31:aD:=.cells 12 [(qI 0),(qI 0),(qI 0),(qI 0),(qI 0),(qI 0),(qI 0),(qI 0),(qI 0),(qI 0),(qI 0),(qI 0)]
def Ix:aD:=.cells 1 [(qI 2),(qI 0),(qI 4000),(qI 4000),(qI 12000),(qI 12000)]
def Iy:aD:=.cells 0 [(qI 2),(qI 1),(qI 1),(qI 4),JH,(qI 1000),(qI 0),(qI 800),X6,OD,acM,TR,(.sl 3 2 1 0 1 2),(qI 1000),(qI 500),(qI 0),(.sl 3 3 1 0 1 2),(.sl 3 4 1 0 1 6),(.bool true),OC,(qI 12)]
def IL:aD:=.cells 13 [(qI 0),(qI 0),(qI 0),(qI 0),(qI 0),(qI 0),(qI 0),(qI 0),(qI 0),(qI 0),(qI 0),(qI 0),(qI 0)]
def IM:aD:=.cells 1 [(.str [102,105,101,108,100,32,50,32,49,32,49,32,52]),(.str [116,97,98,108,101,32,49,48,48,32,49,48,49,32,52,49,57,32,50,54,55,54,32,49,53,48,32,49,53,48,32,52,55,54,32,54,51,50,32,50,55,52,54,32,51,48,48,32,50,48,48,32,49,53,53,53,32,56,53,50,32,50,55,57,51,32,54,48,48]),(.str [98,101,100,32,49,48,48,48,32,48,32,56,48,48]),(.str [109,111,100,101,108,32,97,32,56,48,48,48,32,56,48,48,48,32,53,48,48,32,52,48,48,32,57,48,48,32,52,48,48,32,48,32,49,48]),(.str [109,111,100,101,108,32,98,32,56,48,48,48,32,56,48,48,48,32,53,48,48,32,52,48,48,32,57,48,48,32,53,48,48,32,48,32,49,48]),(.str [108,111,103,32,116,49,32,50,32,51,57,48,32,52,49,48,32,49,32,49]),(.str [114,117,108,101,32,48,32,48,32,48,32,57,32,57,32,57,32,50,48,32,53,32,49,32,49]),(.str [113,117,97,107,101,32,49,32,49,32,49,32,50,53]),(.str [116,105,99,107,32,45,49,48,48]),(.str [116,105,99,107,32,53,48]),(.str [117,110,105,116,32,48,32,49,48,48,32,52,48,48]),(.str [115,101,108,108,32,48,32,48,32,48,32,51]),(.str [])]
def b36:aD:=.cells 0 [(qI 0),(qI 0),(qI 0),(qI 0),.aW,(qI 0),(qI 0),(qI 0),.aW,(.sl 3 9 0 0 0 4),.aW,Qv,Oz,(qI 1000),(qI 500),(qI 0),Wj,TS,(.bool false),(.sl 3 14 0 0 0 4),(qI 0)]
def b37:aD:=.cells 0 [(qI 2),(qI 1),(qI 1),(qI 4),.aW,(qI 0),(qI 0),(qI 0),.aW,(.sl 3 9 0 0 0 4),.aW,Qv,Oz,(qI 1000),(qI 500),(qI 0),Wj,TS,(.bool false),(.sl 3 14 0 0 0 4),(qI 0)]
def b38:aD:=.cells 0 [(qI 2),(qI 1),(qI 1),(qI 4),JH,(qI 0),(qI 0),(qI 0),.aW,(.sl 3 9 0 0 0 4),.aW,Qv,Oz,(qI 1000),(qI 500),(qI 0),Wj,TS,(.bool false),(.sl 3 14 0 0 0 4),(qI 1)]
def b39:aD:=.cells 0 [(qI 2),(qI 1),(qI 1),(qI 4),JH,(qI 1000),(qI 0),(qI 800),.aW,(.sl 3 9 0 0 0 4),.aW,Qv,Oz,(qI 1000),(qI 500),(qI 0),Wj,TS,(.bool true),(.sl 3 14 0 0 0 4),(qI 2)]
def b40:aD:=.cells 0 [(qI 2),(qI 1),(qI 1),(qI 4),JH,(qI 1000),(qI 0),(qI 800),.aW,(.sl 3 9 1 0 1 4),.aW,Qv,Oz,(qI 1000),(qI 500),(qI 0),Wj,TS,(.bool true),(.sl 3 14 1 0 1 4),(qI 3)]
def b41:aD:=.cells 0 [(qI 2),(qI 1),(qI 1),(qI 4),JH,(qI 1000),(qI 0),(qI 800),.aW,OB,.aW,Qv,Oz,(qI 1000),(qI 500),(qI 0),Wj,TS,(.bool true),Oy,(qI 4)]
def TF:aD:=.cells 2 [(.str [97]),dq3,(.bool true),(qI 0),(.str [98]),dq5,(.bool false),(qI 5)]
def TG:aD:=.cells 2 [(qI 0),(qI 0),(qI 0),(qI 0),(qI 5),(qI 500),(qI 390),(qI 410)]
def b44:aD:=.cells 0 [(qI 2),(qI 1),(qI 1),(qI 4),JH,(qI 1000),(qI 0),(qI 800),.aW,OB,.aW,Qv,Oz,(qI 1000),(qI 500),(qI 0),Wj,TS,(.bool true),Oy,(qI 5)]
def b45:aD:=.cells 0 [(qI 2),(qI 1),(qI 1),(qI 4),JH,(qI 1000),(qI 0),(qI 800),.aW,OB,.aW,TQ,Oz,(qI 1000),(qI 500),(qI 0),Wj,TS,(.bool true),Oy,(qI 6)]
def b46:aD:=.cells 0 [(qI 2),(qI 1),(qI 1),(qI 4),JH,(qI 1000),(qI 0),(qI 800),.aW,OB,.aW,TQ,(.sl 3 11 1 0 1 2),(qI 1000),(qI 500),(qI 0),Wj,TS,(.bool true),Oy,(qI 7)]
def b47:aD:=.cells 0 [(qI 2),(qI 1),(qI 1),(qI 4),JH,(qI 1000),(qI 0),(qI 800),.aW,OB,.aW,TQ,(.sl 3 11 1 0 1 2),(qI 1000),(qI 500),(qI 0),Wj,TS,(.bool true),Oy,(qI 8)]
def b48:aD:=.cells 9 [(qI 0),(qI 0),(qI 0),(qI 0),(qI 0),(qI 0),(qI 0),(qI 0),(qI 1)]
def b49:aD:=.cells 0 [(qI 2),(qI 1),(qI 1),(qI 4),JH,(qI 1000),(qI 0),(qI 800),.aW,OB,.aW,TQ,(.sl 3 11 1 0 1 2),(qI 1000),(qI 500),(qI 0),Wj,TS,(.bool true),Oy,(qI 9)]
def b50:aD:=.cells 10 [(qI 0),(qI 0),(qI 0),(qI 0),(qI 0),(qI 0),(qI 0),(qI 0),(qI 1),(qI 1)]
def b51:aD:=.cells 0 [(qI 2),(qI 1),(qI 1),(qI 4),JH,(qI 1000),(qI 0),(qI 800),.aW,OB,.aW,TQ,(.sl 3 11 1 0 1 2),(qI 1000),(qI 500),(qI 0),(.sl 3 12 1 0 1 2),TS,(.bool true),Oy,(qI 10)]
def b52:aD:=.cells 11 [(qI 0),(qI 0),(qI 0),(qI 0),(qI 0),(qI 0),(qI 0),(qI 0),(qI 1),(qI 1),(qI 0)]
def b53:aD:=.cells 0 [(qI 2),(qI 1),(qI 1),(qI 4),JH,(qI 1000),(qI 0),(qI 800),.aW,OB,.aW,TQ,(.sl 3 11 1 0 1 2),(qI 1000),(qI 500),(qI 0),(.sl 3 12 1 0 1 2),TS,(.bool true),Oy,(qI 11)]
def s0(F G:List aD):SK:=[[dc,dc,dc,dc,dc,dc,b0,dc],[],F,G]
def s1(F G:List aD):SK:=[[dc,dc,dc,dc,dc,dc,b1,dc],[],F,G]
def s2(F G:List aD):SK:=[[dc,dc,dc,dc,dc,dc,b1,.cells 1 [(qI 0)]],[],F,G]
def s3(F G:List aD):SK:=[[dc,dc,dc,dc,dc,dc,b2,.cells 1 [(qI 0)]],[],F,G]
def s4(F G:List aD):SK:=[[dc,dc,dc,dc,dc,dc,b2,.cells 2 [(qI 0),(qI 0)]],[],F,G]
def s5(F G:List aD):SK:=[[dc,dc,dc,dc,dc,dc,b3,.cells 2 [(qI 0),(qI 0)]],[],F,G]
def s6(F G:List aD):SK:=[[dc,dc,dc,dc,dc,dc,b3,b4],[],F,G]
def s7(F G:List aD):SK:=[[dc,dc,dc,dc,dc,dc,b5,b4],[],F,G]
def s8(F G:List aD):SK:=[[dc,dc,dc,dc,dc,dc,b5,b6],[],F,G]
def s9(F G:List aD):SK:=[[b7,dc,dc,dc,dc,b8,b9,b6],[],F,G]
def s10(F G:List aD):SK:=[[b7,dc,dc,dc,dc,b8,b9,b10],[],F,G]
def s11(F G:List aD):SK:=[[b11,dc,dc,dc,dc,b12,b13,b10],[],F,G]
def s12(F G:List aD):SK:=[[b11,dc,dc,dc,dc,b12,b13,b14],[],F,G]
def s13(F G:List aD):SK:=[[CS,dc,dc,dc,dc,CT,b17,b14],[],F,G]
def s14(F G:List aD):SK:=[[CS,dc,dc,dc,dc,CT,b17,b18],[],F,G]
def s15(F G:List aD):SK:=[[CS,yZ,dc,dc,dc,CT,b20,b18],[],F,G]
def s16(F G:List aD):SK:=[[CS,yZ,dc,dc,dc,CT,b20,b21],[],F,G]
def s17(F G:List aD):SK:=[[CS,yZ,AL,dc,dc,CT,b23,b21],[],F,G]
def s18(F G:List aD):SK:=[[CS,yZ,AL,dc,dc,CT,b23,b24],[],F,G]
def s19(F G:List aD):SK:=[[CS,yZ,AL,dc,dc,CT,b25,b24],[],F,G]
def s20(F G:List aD):SK:=[[CS,yZ,AL,dc,dc,CT,b25,b26],[],F,G]
def s21(F G:List aD):SK:=[[CS,yZ,AL,dc,dc,CT,b27,b26],[],F,G]
def s22(F G:List aD):SK:=[[CS,yZ,AL,dc,dc,CT,b27,b28],[],F,G]
def s23(F G:List aD):SK:=[[CS,yZ,AL,FM,dc,CT,b30,b28],[],F,G]
def s24(F G:List aD):SK:=[[CS,yZ,AL,FM,dc,CT,b30,b31],[],F,G]
def s25(F G:List aD):SK:=[[CS,yZ,AL,FM,Ix,CT,Iy,b31],[],F,G]
def s26(F G:List aD):SK:=[[CS,yZ,AL,FM,Ix,CT,Iy,IL,IM,dc,dc,dc,dc,dc,dc,b36,dc],[],F,G]
def s27(F G:List aD):SK:=[[CS,yZ,AL,FM,Ix,CT,Iy,IL,IM,dc,dc,dc,dc,dc,dc,b37,dc],[],F,G]
def s28(F G:List aD):SK:=[[CS,yZ,AL,FM,Ix,CT,Iy,IL,IM,dc,dc,dc,dc,dc,dc,b37,.cells 1 [(qI 0)]],[],F,G]
def s29(F G:List aD):SK:=[[CS,yZ,AL,FM,Ix,CT,Iy,IL,IM,dc,dc,dc,dc,dc,dc,b38,.cells 1 [(qI 0)]],[],F,G]
def s30(F G:List aD):SK:=[[CS,yZ,AL,FM,Ix,CT,Iy,IL,IM,dc,dc,dc,dc,dc,dc,b38,.cells 2 [(qI 0),(qI 0)]],[],F,G]
def s31(F G:List aD):SK:=[[CS,yZ,AL,FM,Ix,CT,Iy,IL,IM,dc,dc,dc,dc,dc,dc,b39,.cells 2 [(qI 0),(qI 0)]],[],F,G]
def s32(F G:List aD):SK:=[[CS,yZ,AL,FM,Ix,CT,Iy,IL,IM,dc,dc,dc,dc,dc,dc,b39,b4],[],F,G]
def s33(F G:List aD):SK:=[[CS,yZ,AL,FM,Ix,CT,Iy,IL,IM,b7,dc,dc,dc,dc,b8,b40,b4],[],F,G]
def s34(F G:List aD):SK:=[[CS,yZ,AL,FM,Ix,CT,Iy,IL,IM,b7,dc,dc,dc,dc,b8,b40,b6],[],F,G]
def s35(F G:List aD):SK:=[[CS,yZ,AL,FM,Ix,CT,Iy,IL,IM,b11,dc,dc,dc,dc,b12,b41,b6],[],F,G]
def s36(F G:List aD):SK:=[[CS,yZ,AL,FM,Ix,CT,Iy,IL,IM,b11,dc,dc,dc,dc,b12,b41,b10],[],F,G]
def s37(F G:List aD):SK:=[[CS,yZ,AL,FM,Ix,CT,Iy,IL,IM,TF,dc,dc,dc,dc,TG,b44,b10],[],F,G]
def s38(F G:List aD):SK:=[[CS,yZ,AL,FM,Ix,CT,Iy,IL,IM,TF,dc,dc,dc,dc,TG,b44,b14],[],F,G]
def s39(F G:List aD):SK:=[[CS,yZ,AL,FM,Ix,CT,Iy,IL,IM,TF,yZ,dc,dc,dc,TG,b45,b14],[],F,G]
def s40(F G:List aD):SK:=[[CS,yZ,AL,FM,Ix,CT,Iy,IL,IM,TF,yZ,dc,dc,dc,TG,b45,b18],[],F,G]
def s41(F G:List aD):SK:=[[CS,yZ,AL,FM,Ix,CT,Iy,IL,IM,TF,yZ,AL,dc,dc,TG,b46,b18],[],F,G]
def s42(F G:List aD):SK:=[[CS,yZ,AL,FM,Ix,CT,Iy,IL,IM,TF,yZ,AL,dc,dc,TG,b46,b21],[],F,G]
def s43(F G:List aD):SK:=[[CS,yZ,AL,FM,Ix,CT,Iy,IL,IM,TF,yZ,AL,dc,dc,TG,b47,b21],[],F,G]
def s44(F G:List aD):SK:=[[CS,yZ,AL,FM,Ix,CT,Iy,IL,IM,TF,yZ,AL,dc,dc,TG,b47,b48],[],F,G]
def s45(F G:List aD):SK:=[[CS,yZ,AL,FM,Ix,CT,Iy,IL,IM,TF,yZ,AL,dc,dc,TG,b49,b48],[],F,G]
def s46(F G:List aD):SK:=[[CS,yZ,AL,FM,Ix,CT,Iy,IL,IM,TF,yZ,AL,dc,dc,TG,b49,b50],[],F,G]
def s47(F G:List aD):SK:=[[CS,yZ,AL,FM,Ix,CT,Iy,IL,IM,TF,yZ,AL,FM,dc,TG,b51,b50],[],F,G]
def s48(F G:List aD):SK:=[[CS,yZ,AL,FM,Ix,CT,Iy,IL,IM,TF,yZ,AL,FM,dc,TG,b51,b52],[],F,G]
def s49(F G:List aD):SK:=[[CS,yZ,AL,FM,Ix,CT,Iy,IL,IM,TF,yZ,AL,FM,dc,TG,b53,b52],[],F,G]
def wm0(F G:List aD):ow:=⟨aR,[(.ref 3 6 0 0),(qI 0),(.str [102,105,101,108,100,32,50,32,49,32,49,32,52])],s0 F G,(qI 0),s1 F G⟩
def wm1(F G:List aD):ow:=⟨aR,[(.ref 3 6 0 0),(qI 1),(.str [116,97,98,108,101,32,49,48,48,32,49,48,49,32,52,49,57,32,50,54,55,54,32,49,53,48,32,49,53,48,32,52,55,54,32,54,51,50,32,50,55,52,54,32,51,48,48,32,50,48,48,32,49,53,53,53,32,56,53,50,32,50,55,57,51,32,54,48,48])],s2 F G,(qI 0),s3 F G⟩
def wm2(F G:List aD):ow:=⟨aR,[(.ref 3 6 0 0),(qI 2),(.str [98,101,100,32,49,48,48,48,32,48,32,56,48,48])],s4 F G,(qI 0),s5 F G⟩
def wm3(F G:List aD):ow:=⟨aR,[(.ref 3 6 0 0),(qI 3),(.str [119,101,108,108,32,48,32,53,48,48,32,53])],s6 F G,(qI 0),s7 F G⟩
def wm4(F G:List aD):ow:=⟨aR,[(.ref 3 6 0 0),(qI 4),(.str [109,111,100,101,108,32,97,32,56,48,48,48,32,56,48,48,48,32,53,48,48,32,52,48,48,32,57,48,48,32,52,48,48,32,48,32,49,48])],s8 F G,(qI 0),s9 F G⟩
def wm5(F G:List aD):ow:=⟨aR,[(.ref 3 6 0 0),(qI 5),(.str [109,111,100,101,108,32,98,32,56,48,48,48,32,56,48,48,48,32,53,48,48,32,52,48,48,32,57,48,48,32,53,48,48,32,48,32,49,48])],s10 F G,(qI 0),s11 F G⟩
def wm6(F G:List aD):ow:=⟨aR,[(.ref 3 6 0 0),(qI 6),(.str [108,111,103,32,116,49,32,50,32,51,57,48,32,52,49,48,32,49,32,49])],s12 F G,(qI 0),s13 F G⟩
def wm7(F G:List aD):ow:=⟨aR,[(.ref 3 6 0 0),(qI 7),(.str [114,117,108,101,32,48,32,48,32,48,32,57,32,57,32,57,32,50,48,32,53,32,49,32,49])],s14 F G,(qI 0),s15 F G⟩
def wm8(F G:List aD):ow:=⟨aR,[(.ref 3 6 0 0),(qI 8),(.str [113,117,97,107,101,32,49,32,49,32,49,32,50,53])],s16 F G,(qI 0),s17 F G⟩
def wm9(F G:List aD):ow:=⟨aR,[(.ref 3 6 0 0),(qI 9),(.str [116,105,99,107,32,45,49,48,48])],s18 F G,(qI 0),s19 F G⟩
def ahj(F G:List aD):ow:=⟨aR,[(.ref 3 6 0 0),(qI 10),(.str [116,105,99,107,32,53,48])],s20 F G,(qI 0),s21 F G⟩
def ahk(F G:List aD):ow:=⟨aR,[(.ref 3 6 0 0),(qI 11),(.str [117,110,105,116,32,48,32,49,48,48,32,52,48,48])],s22 F G,(qI 0),s23 F G⟩
def ahl(F G:List aD):ow:=⟨aR,[(.ref 3 6 0 0),(qI 12),(.str [115,101,108,108,32,48,32,48,32,48,32,51])],s24 F G,(qI 0),s25 F G⟩
def ahm(F G:List aD):ow:=⟨aR,[(.ref 3 15 0 0),(qI 0),(.str [102,105,101,108,100,32,50,32,49,32,49,32,52])],s26 F G,(qI 0),s27 F G⟩
def ahn(F G:List aD):ow:=⟨aR,[(.ref 3 15 0 0),(qI 1),(.str [116,97,98,108,101,32,49,48,48,32,49,48,49,32,52,49,57,32,50,54,55,54,32,49,53,48,32,49,53,48,32,52,55,54,32,54,51,50,32,50,55,52,54,32,51,48,48,32,50,48,48,32,49,53,53,53,32,56,53,50,32,50,55,57,51,32,54,48,48])],s28 F G,(qI 0),s29 F G⟩
def aho(F G:List aD):ow:=⟨aR,[(.ref 3 15 0 0),(qI 2),(.str [98,101,100,32,49,48,48,48,32,48,32,56,48,48])],s30 F G,(qI 0),s31 F G⟩
def ahp(F G:List aD):ow:=⟨aR,[(.ref 3 15 0 0),(qI 3),(.str [109,111,100,101,108,32,97,32,56,48,48,48,32,56,48,48,48,32,53,48,48,32,52,48,48,32,57,48,48,32,52,48,48,32,48,32,49,48])],s32 F G,(qI 0),s33 F G⟩
def ahq(F G:List aD):ow:=⟨aR,[(.ref 3 15 0 0),(qI 4),(.str [109,111,100,101,108,32,98,32,56,48,48,48,32,56,48,48,48,32,53,48,48,32,52,48,48,32,57,48,48,32,53,48,48,32,48,32,49,48])],s34 F G,(qI 0),s35 F G⟩
def ahr(F G:List aD):ow:=⟨aR,[(.ref 3 15 0 0),(qI 5),(.str [108,111,103,32,116,49,32,50,32,51,57,48,32,52,49,48,32,49,32,49])],s36 F G,(qI 0),s37 F G⟩
def ahs(F G:List aD):ow:=⟨aR,[(.ref 3 15 0 0),(qI 6),(.str [114,117,108,101,32,48,32,48,32,48,32,57,32,57,32,57,32,50,48,32,53,32,49,32,49])],s38 F G,(qI 0),s39 F G⟩
def aht(F G:List aD):ow:=⟨aR,[(.ref 3 15 0 0),(qI 7),(.str [113,117,97,107,101,32,49,32,49,32,49,32,50,53])],s40 F G,(qI 0),s41 F G⟩
def ahu(F G:List aD):ow:=⟨aR,[(.ref 3 15 0 0),(qI 8),(.str [116,105,99,107,32,45,49,48,48])],s42 F G,(qI 1),s43 F G⟩
def ahv(F G:List aD):ow:=⟨aR,[(.ref 3 15 0 0),(qI 9),(.str [116,105,99,107,32,53,48])],s44 F G,(qI 1),s45 F G⟩
def ahw(F G:List aD):ow:=⟨aR,[(.ref 3 15 0 0),(qI 10),(.str [117,110,105,116,32,48,32,49,48,48,32,52,48,48])],s46 F G,(qI 0),s47 F G⟩
def ahx(F G:List aD):ow:=⟨aR,[(.ref 3 15 0 0),(qI 11),(.str [115,101,108,108,32,48,32,48,32,48,32,51])],s48 F G,(qI 8),s49 F G⟩
theorem wk0:(wm0 [] []).Ok T:=dE.2 ⟨300,by kernel_rfl⟩
theorem wk5:(wm5 [] []).Ok T:=dE.2 ⟨300,by kernel_rfl⟩
theorem ajF:(ahj [] []).Ok T:=dE.2 ⟨300,by kernel_rfl⟩
theorem ajK:(aho [] []).Ok T:=dE.2 ⟨300,by kernel_rfl⟩
theorem ajP:(aht [] []).Ok T:=dE.2 ⟨300,by kernel_rfl⟩
theorem wk1:(wm1 [] []).Ok T:=dE.2 ⟨300,by kernel_rfl⟩
theorem wk6:(wm6 [] []).Ok T:=dE.2 ⟨300,by kernel_rfl⟩
theorem ajG:(ahk [] []).Ok T:=dE.2 ⟨300,by kernel_rfl⟩
theorem ajL:(ahp [] []).Ok T:=dE.2 ⟨300,by kernel_rfl⟩
theorem ajQ:(ahu [] []).Ok T:=dE.2 ⟨300,by kernel_rfl⟩
theorem wk2:(wm2 [] []).Ok T:=dE.2 ⟨300,by kernel_rfl⟩
theorem wk7:(wm7 [] []).Ok T:=dE.2 ⟨300,by kernel_rfl⟩
theorem ajH:(ahl [] []).Ok T:=dE.2 ⟨300,by kernel_rfl⟩
theorem ajM:(ahq [] []).Ok T:=dE.2 ⟨300,by kernel_rfl⟩
theorem ajR:(ahv [] []).Ok T:=dE.2 ⟨300,by kernel_rfl⟩
theorem wk3:(wm3 [] []).Ok T:=dE.2 ⟨300,by kernel_rfl⟩
theorem wk8:(wm8 [] []).Ok T:=dE.2 ⟨300,by kernel_rfl⟩
theorem ajI:(ahm [] []).Ok T:=dE.2 ⟨300,by kernel_rfl⟩
theorem ajN:(ahr [] []).Ok T:=dE.2 ⟨300,by kernel_rfl⟩
theorem ajS:(ahw [] []).Ok T:=dE.2 ⟨300,by kernel_rfl⟩
theorem wk4:(wm4 [] []).Ok T:=dE.2 ⟨300,by kernel_rfl⟩
theorem wk9:(wm9 [] []).Ok T:=dE.2 ⟨300,by kernel_rfl⟩
theorem ajJ:(ahn [] []).Ok T:=dE.2 ⟨300,by kernel_rfl⟩
theorem ajO:(ahs [] []).Ok T:=dE.2 ⟨300,by kernel_rfl⟩
theorem ajT:(ahx [] []).Ok T:=dE.2 ⟨300,by kernel_rfl⟩
def ac3:List ow:=[wm0 [] [],wm1 [] [],wm2 [] [],wm3 [] [],wm4 [] [],wm5 [] [],wm6 [] [],wm7 [] [],wm8 [] [],wm9 [] [],ahj [] [],ahk [] [],ahl [] [],ahm [] [],ahn [] [],aho [] [],ahp [] [],ahq [] [],ahr [] [],ahs [] [],aht [] [],ahu [] [],ahv [] [],ahw [] [],ahx [] []]
theorem ZL:∀m∈ac3,m.Ok T:=by
 simp only[ac3,bj,List.not_mem_nil,or_false,forall_eq_or_imp,forall_eq];exact⟨wk0,wk1,wk2,wk3,wk4,wk5,wk6,wk7,wk8,wk9,ajF,ajG,ajH,ajI,ajJ,ajK,ajL,ajM,ajN,ajO,ajP,ajQ,ajR,ajS,ajT⟩
theorem WE:itM T ac3 120 (.call false rC [] [[],[]])=some (.val (.bool true) [[],[]]):=by kernel_rfl
theorem Yn:dj T (.call false rC [] [[],[]])=some (.val (.bool true) [[],[]]):=Sq ZL WE
end
section
open Go Go.Abs Go.Rock Go.Book
variable {J:SK}
theorem Fy{α:Type}{p:α->Bool}:∀(l:List α),(idxOf p l = -1/\∀x∈l,p x=false)\/∃(k:Nat) (x:α),idxOf p l=k/\l[k]?=some x/\p x=true
 |[] => .inl ⟨rfl,by simp⟩
 |a::l=>by
  cases ha:p a with
  |true=>exact .inr ⟨0,a,by simp[idxOf,ha],rfl,ha⟩
  |false =>
   rcases Fy (p:=p) l with⟨h1,h2⟩ | ⟨k,x,h1,h2,h3⟩
   .refine .inl ⟨by simp[idxOf,ha,h1],λx hx=>?_⟩;rcases bj.1 hx with rfl | hx
    .exact ha
    .exact h2 x hx
   .refine .inr ⟨k+1,x,?_,by simpa using h2,h3⟩;have:¬(k:Int)<0:=by omega
    simp[idxOf,ha,h1,this]
def z6:Ae:=⟨0,0,0,0⟩
def Sf(b:Bk)(nm:List UInt8):D :=
 if idxOf (λe=>e.m.name == nm) b.ah<0 then .cV [.agg z6.enc,iI 5]
 else match b.ah[(idxOf (λe=>e.m.name == nm) b.ah).toNat]?,b.dq[(idxOf (λe=>e.m.name == nm) b.ah).toNat]? with
  |some e,some v=>if e.left then .cV [.agg z6.enc,.int .i64 7]else .cV [.agg v.enc,.int .i64 0]
  |_,_ => .undef
theorem Yf{e:dQ}{nm:List UInt8}:Cl ng [.agg e.enc,.bf [.str nm]] (.bool (e.m.name == nm)) J:=by
 refine au rfl rfl rfl ?_;simp[gW]
theorem Tn{b:Bk}{er:List Int}{nm:List UInt8}{S:SK}(hl:b.ah.length<=1000000)(hs:fq S J.length=some (b.bH J.length er)):
  Cl eE [.sl J.length 0 b.ah.length 0 b.ah.length 4,.fn ng [] [.bf [.str nm]]] (iI (idxOf (λe=>e.m.name == nm) b.ah)) S :=
 J3 (enc:=dQ.enc) (w:=4) (λ_=>rfl) (F:=b.bH J.length er) (bi:=0) (v:=b.ah.length) (l:=b.ah) rfl (by simp[Bk.bH]) (by omega)
  ⟨rfl,rfl,λe _ J=>by rw[oY];have h:=Yf (J:=J) (e:=e) (nm:=nm);have h':dj T (.call false ng ([]++[.agg e.enc]++[.bf [.str nm]]) J)=_:=h;rw[h'];rfl⟩ hs
theorem abD{lines:List (List UInt8)}{nm:List UInt8}(hl:adl lines)(hJ:J≠[]):Cl tD [lF lines dP,.str nm] (Sf (jK lines).1 nm) J:=by
 refine au rfl rfl rfl ?_;have hC:=λS=>NO (J:=S) (l:=lines) (by have:=hl.1;omega)
 have hok:okB lines=true:=SH.2 hl;simp only[hok,if_true]at hC;have hR:=ab2 (J:=J) (lines:=lines) hl;have hK:=GL (l:=lines) (k:=0) Kv.zero hl.2;rw[show(kO kl 0 lines).1=(jK lines).1 from rfl]at hK;have hml:=hK.ml;have hwl:=hK.wl;generalize jK lines=r at hR hml hwl ⊢;obtain⟨b,er⟩:=r;simp only at hR hml hwl ⊢;have hI:=Tn (J:=J) (b:=b) (er:=er) (nm:=nm) (S:=b.bH J.length er::J) (by omega) (by simp[fq]);simp only[Bk.bH,Bk.cells]at hR hI;unfold Sf;rcases Fy (p:=λe:dQ=>e.m.name == nm) b.ah with⟨h1,_⟩ | ⟨k,e,h1,h2,h3⟩
 .rw[h1]at hI ⊢;simp[hC,hR,hI,z6]
 .rw[h1]at hI ⊢;have hk:=(aA.1 h2).1;obtain⟨v,hv⟩:∃v,b.dq[k]?=some v:=gE (by omega);have a1:=bu (f:=dQ.enc) (w:=4) (λ_=>rfl) h2;have a2:=bu (f:=Ae.enc) (w:=4) (λ_=>rfl) hv;have b1:=ch (f:=dQ.enc) (w:=4) (λ_=>rfl) b.ah;have b2:=ch (f:=Ae.enc) (w:=4) (λ_=>rfl) b.dq;have⟨c1,c2⟩:4<=(fM b.ah dQ.enc).length-k*4/\4<=(fM b.dq Ae.enc).length-k*4:=by omega
  have d1:=pA (f:=dQ.enc) (w:=4) (λ_=>rfl) h2;have⟨n0,n1,n2,hkw⟩:¬(k:Int)<0/\(k:Int)<b.ah.length/\(k:Int)<b.dq.length/\k<b.dq.length:=by omega
  simp only[dQ.enc,Ae.enc]at a1 a2 d1;have d3:(fM b.ah dQ.enc).drop (k*4+2)=.bool e.left::iI e.PV::(fM b.ah dQ.enc).drop (k*4+4):=by
   have:=congrArg (List.drop 2) d1;simpa[dQ.enc,cS]using this
  rw[if_neg n0,Int.toNat_natCast,h2,hv];cases hle:e.left
  .simp[hC,hR,hI,z6,a2,d3,n0,n1,n2,hle,c2]
  .simp[hC,hR,hI,z6,d3,n0,n1,hle]
def lk(b:Bk)(nm:List UInt8):Nat->Int×Ae
 |0=>(5,z6)
 |i+1=>match b.ah[i]?,b.dq[i]? with
  |some e,some v=>if(e.m.name == nm)=true then(if e.left=true then 7 else 0,v)else lk b nm i
  |_,_=>lk b nm i
theorem Lt{b:Bk}{nm:List UInt8}:∀{i:Nat},(∀j e,j<i->b.ah[j]?=some e->(e.m.name == nm)=false)->lk b nm i=(5,z6)
 |0,_=>rfl
 |i+1,h=>by
  have ih:=Lt (i:=i) λj e hj he=>h j e (by omega) he
  unfold lk;split
  .rename_i e v he hv;rw[h i e (by omega) he];exact ih
  .exact ih
theorem JS{b:Bk}{nm:List UInt8}{k:Nat}{e:dQ}{v:Ae}(he:b.ah[k]?=some e)(hv:b.dq[k]?=some v)(hn:(e.m.name == nm)=true):∀{i:Nat},k<i->(∀j e,k<j->j<i->b.ah[j]?=some e->(e.m.name == nm)=false)->lk b nm i=(if e.left=true then 7 else 0,v)
 |0,h,_=>by omega
 |i+1,h,ho=>by
  unfold lk;by_cases hk:k=i
  .subst hk;rw[he,hv];simp[hn]
  .have ih:=JS he hv hn (i:=i) (by omega) λj e h1 h2 he=>ho j e h1 (by omega) he
   split
   .rename_i e' v' he' hv';rw[ho i e' (by omega) (by omega) he'];exact ih
   .exact ih
theorem Zn{b:Bk}{nm:List UInt8}(hw:b.dq.length=b.ah.length)(h2:Inv2 b):Sf b nm=.cV [.agg (if(lk b nm b.ah.length).1=0 then(lk b nm b.ah.length).2 else z6).enc,iI (lk b nm b.ah.length).1]:=by
 unfold Sf;rcases Fy (p:=λx:dQ=>x.m.name == nm) b.ah with⟨h,hno⟩ | ⟨k,e,h,he,hn⟩
 .rw[h,if_pos (by omega),Lt λj e hj he=>hno e (aj he)];simp
 .have hk:=(aA.1 he).1;obtain⟨v,hv⟩:∃v,b.dq[k]?=some v:=gE (by omega);rw[h,if_neg (by omega),Int.toNat_natCast,he,hv,JS he hv hn hk]
  .cases hl:e.left<;>simp[hl]
  .intro j e' h1 h3 he';cases hc:e'.m.name == nm with
   |false=>rfl
   |true =>
    have:=h2 k j e e' he he' (by simp only[beq_iff_eq]at hn hc;rw[hn,hc]);omega
theorem UO{lines:List (List UInt8)}{nm:List UInt8}(hl:lines.length<=1000000000)(hok:okB lines=false):Cl tD [lF lines dP,.str nm] (.cV [.agg z6.enc,iI 3]) J:=by
 refine au rfl rfl rfl ?_;have hC:=λS=>NO (J:=S) (l:=lines) hl
 simp only[hok]at hC;simp[hC,z6]
theorem RK{b:Bk}{nm:List UInt8}{w:List D}{er:Int}(hml:b.ah.length<=40)(hw:b.dq.length=b.ah.length):∀(m i:Nat),i+m=b.ah.length ->
  WL T [1,5,6,7,8,9,11] false fC [(1,.str nm),(5,.own 0 w),(6,iI er),(7,iI (lk b nm i).1),(8,.own 0 (lk b nm i).2.enc),(9,.own 0 (bS b)),(11,iI i)] J
   (λx e J'=>J'=J/\x=.exit 0/\get e 5=.own 0 w/\get e 6=iI er/\get e 7=iI (lk b nm b.ah.length).1/\get e 8=.own 0 (lk b nm b.ah.length).2.enc)
 |0,i,hi=>by
  refine aB fC.eq_1 ?_;obtain rfl:i=b.ah.length:=by omega
  have hn:=nr (f:=dQ.enc) b.ah;simp[bS,hn]
 |m+1,i,hi=>by
  refine aB fC.eq_1 ?_;have⟨h1,h1',h1w⟩:i<b.ah.length/\(i:Int)<b.ah.length/\i<b.dq.length:=by omega
  obtain⟨e,he⟩:=gE h1;obtain⟨v,hv⟩:=gE h1w;have hne:b.ah≠[]:=λh=>by rw[h]at h1;simp at h1
  have hnw:b.dq≠[]:=λh=>by rw[h]at h1w;simp at h1w
  have h2:=JI he;have h3:=bu (f:=Ae.enc) (w:=4) (λ_=>rfl) hv;have d1:=pA (f:=dQ.enc) (w:=4) (λ_=>rfl) he;have d2:(fM b.ah dQ.enc).drop (i*4+2)=.bool e.left::iI e.PV::(fM b.ah dQ.enc).drop (i*4+4):=by
   have:=congrArg (List.drop 2) d1;simpa[cS]using this
  simp only[dQ.enc]at h2;have h4:=cr h1 (by omega);have e1:=jj (f:=dQ.enc) hne;have e2:=jj (f:=Ae.enc) hnw;have hlw:=Em b.dq;have q:4<=b.dq.length*4-i*4:=by omega
  have ih:=RK (nm:=nm) (w:=w) (er:=er) hml hw m (i+1) (by omega);have hF:lk b nm (i+1)=if(e.m.name == nm)=true then(if e.left=true then 7 else 0,v)else lk b nm i:=by
   rw[lk,he,hv]
  rw[hF]at ih;cases hc:e.m.name == nm
  .rw[hc]at ih;simp[gW,bS,e1,e2,h1',h2,h4,hc];exact WL.to ih (by simp[bS,e1,e2]) rfl λx e J' hh=>hh
  .rw[hc]at ih;cases hl:e.left
   .rw[hl]at ih;simp[gW,bS,e1,e2,h1',h1w,h2,h3,h4,hc,hl];exact WL.to ih (by simp[bS,e1,e2]) rfl λx e J' hh=>hh
   .rw[hl]at ih;simp[gW,bS,e1,e2,h1',h1w,h2,h3,h4,hc,hl];exact WL.to ih (by simp[bS,e1,e2]) rfl λx e J' hh=>hh
theorem T9{l:List (List UInt8)}{nm:List UInt8}(hl:l.length<=9223372036854775807)(hA:Cl rC [] (.bool true) [[],[]]):
  Cl lT [lF l dP,.str nm] (.bool true) [[]]:=by
 obtain⟨v,hF,hv⟩:=afc (l:=l) (by omega) [[],[]];refine au rfl rfl rfl ?_;cases v
 .simp[hF,hA]
 have hl:l.length<=1000000000:=by have:=hv rfl;omega
 by_cases hnm:(20:Int)<nm.length
 .have hnm':20<nm.length:=by omega
  simp[gW,hF,hA,hnm]
 have hnm':¬20<nm.length:=by omega
 have hR:=Tv (J:=[[],[]]) (l:=l) hl;have hL:=λS hS=>abT (J:=S) (l:=l) hl hS
 cases hok:okB l
 .rw[hok]at hR;have hFa:=λJ=>UO (J:=J) (nm:=nm) hl hok
  simp only[Ae.enc,z6]at hFa;simp[gW,hF,hnm,hL,hFa,hR,hA]
 rw[hok]at hR;have hk:=SH.1 hok;have hK:=GL (l:=l) (k:=0) Kv.zero hk.2;rw[show(kO kl 0 l).1=(jK l).1 from rfl]at hK;obtain⟨_,i2⟩:=Sp hk.2 l.length (aL _);rw[List.take_length]at i2;have hFa:=λS hS=>abD (J:=S) (lines:=l) (nm:=nm) hk hS
 rw[Zn hK.wl i2]at hFa;have hRun:=λS hS=>ab0 (J:=S) (lines:=l) hk hS
 generalize (jK l).1=b at hK hFa hRun;have hLo:=RK (J:=[[],[]]) (b:=b) (nm:=nm) (w:=(if(lk b nm b.ah.length).1=0 then(lk b nm b.ah.length).2 else z6).enc) (er:=(lk b nm b.ah.length).1) hK.ml hK.wl b.ah.length 0 (by omega);simp only[Ae.enc]at hFa hLo;simp[gW,hF,hnm,hL,hFa,hR,hRun,fS];refine WL.to hLo (by simp[lk,z6]) rfl ?_;rintro x e J' ⟨rfl,rfl,g5,g6,g7,g8⟩;generalize (lk b nm b.ah.length).2=v at g5 g8;generalize (lk b nm b.ah.length).1=c at g5 g6 g7;by_cases hz:c=0
 .subst hz;simp only[if_true]at g5;simp[g5,g6,g7,g8,hA]
 .rw[if_neg hz]at g5;simp[g5,g6,g7,g8,hA,hz,z6]
end
section
open Go Go.Abs Go.Book
theorem aad{α:Type}{T:Ty}{w:Nat}{f:α->List D}{Q:α->Prop}(h:∀ds,T.has ds->∃a,ds=f a/\Q a){d:D}(hd:(Ty.slice w T).has [d]):
  ∃l:List α,d=.bY l.length (fM l f)/\l.length<=maxLen/\∀a∈l,Q a:=by
 simp only[Ty.has,jM,and_true]at hd;obtain⟨xs,rfl,hl,hx⟩:=hd;have key:∀xs:List (List D),(∀x∈xs,x.length=w/\T.has x)->∃l:List α,xs.flatten=fM l f/\l.length=xs.length/\∀a∈l,Q a:=by
  intro xs;induction xs with
  |nil=>intro _;exact⟨[],rfl,rfl,by simp⟩
  |cons x xs ih =>
   intro hx;obtain⟨l,h1,h2,h3⟩:=ih λy hy=>hx y (by simp[hy])
   obtain⟨a,rfl,ha⟩:=h x (hx x (by simp)).2;exact⟨a::l,by simp[h1],by simp[h2],λb hb=>by
    rcases bj.1 hb with rfl | hb
    .exact ha
    .exact h3 b hb⟩
 obtain⟨l,h1,h2,h3⟩:=key xs hx;exact⟨l,by rw[h1,h2],by omega,h3⟩
theorem aaq{ds:List D}(h:Ty.str.has ds):∃s:List UInt8,ds=dP s/\s.length<=maxLen:=h
theorem Iz(x0 x1:D)(t0:(Ty.slice 1 .str).ac0 x0)(t1:Ty.str.ac0 x1):∃J',dj T (.call false lT [x0,x1] [[]])=some (.val (.bool true) J'):=by
 obtain⟨l,rfl,hl,_⟩:=aad (λds h=>aaq h) t0;obtain⟨s,h,hs⟩:=t1;cases h;have hm:maxLen<=9223372036854775807:=by decide
 exact⟨_,T9 (by omega) Yn⟩
end
end Go.Proofs.YtpapbbojmclkgaaGreatDoor
