import Derived.Test.YtpapbbojmclkgaaGreatDoorTab
set_option linter.all false
namespace Go.aD
open Go Go.aw
structure dK where
 x:Int
 y:Int
 z:Int
 k:Int
structure Rw where
 t:Int
 p:Int
 l:Int
 v:Int
 s:Int
structure bN where
 b:Int
 h:Int
 m:Int
structure b9 where
 f:dK
 dX:List Rw
 cJ:Int
 lift:Int
 deep:Int
 ar:List bN
structure ck where
 name:List UInt8
 dG:List Int
structure aF where
 m:Int
 h:Int
 k:Int
@[simp] theorem dK.eta(p:dK):dK.mk p.x p.y p.z p.k=p:=rfl
@[simp] theorem Rw.eta(p:Rw):Rw.mk p.t p.p p.l p.v p.s=p:=rfl
@[simp] theorem bN.eta(p:bN):bN.mk p.b p.h p.m=p:=rfl
@[simp] theorem aF.eta(p:aF):aF.mk p.m p.h p.k=p:=rfl
@[simp] def dK.enc(f:dK):List D:=[iI f.x,iI f.y,iI f.z,iI f.k]
@[simp] def Rw.enc(r:Rw):List D:=[iI r.t,iI r.p,iI r.l,iI r.v,iI r.s]
@[simp] def bN.enc(r:bN):List D:=[iI r.b,iI r.h,iI r.m]
@[simp] def aF.enc(r:aF):List D:=[iI r.m,iI r.h,iI r.k]
@[simp] def aQ(n:Int):List D:=[iI n]
@[simp] def b9.enc(b:b9):List D:=[iI b.f.x,iI b.f.y,iI b.f.z,iI b.f.k,.bZ b.dX.length (fM b.dX Rw.enc),iI b.cJ,iI b.lift,iI b.deep,.bZ b.ar.length (fM b.ar bN.enc)]
@[simp] def ck.enc(m:ck):List D:=[.str m.name,.bZ m.dG.length (fM m.dG aQ)]
@[reducible,simp] def fL(f:dK):List D:=[iI f.x,iI f.y,iI f.z,iI f.k]
@[reducible,simp] def mL(m:ck):List D:=[.str m.name,lF m.dG aQ]
@[reducible,simp] def bL(b:b9):List D:=[iI b.f.x,iI b.f.y,iI b.f.z,iI b.f.k,lF b.dX Rw.enc,iI b.cJ,iI b.lift,iI b.deep,lF b.ar bN.enc]
@[reducible,simp] def bM(b:b9)(m:ck):List D:=[iI b.f.x,iI b.f.y,iI b.f.z,iI b.f.k,lF b.dX Rw.enc,iI b.cJ,iI b.lift,iI b.deep,lF b.ar bN.enc,.str m.name,lF m.dG aQ]
def stE(s:List aF):D:=.bZ s.length (fM s aF.enc)
def bI(n lo hi:Int):Bool:=decide (lo<=n) && decide (n<=hi)
theorem aS{n lo hi:Int}:bI n lo hi=true↔lo<=n/\n<=hi:=by simp[bI]
def dK.size(f:dK):Int:=f.x*f.y*f.z
def dK.valid(f:dK):Bool:=bI f.x 1 8 && (bI f.y 1 8 && (bI f.z 1 8 && (decide (f.size<=64) && bI f.k 1 6)))
theorem dK.mP{f:dK}:f.valid=true↔(1<=f.x/\f.x<=8)/\(1<=f.y/\f.y<=8)/\(1<=f.z/\f.z<=8)/\f.size<=64/\(1<=f.k/\f.k<=6):=by
 simp[dK.valid,bI,and_assoc]
def dK.shape(f:dK):Int:=if f.valid then 0 else 1
def letter(c:UInt8):Bool:=decide (97<=c.toNat) && decide (c.toNat<=122)
def digit(c:UInt8):Bool:=decide (48<=c.toNat) && decide (c.toNat<=57)
def nS(i:Nat):List UInt8->Bool
 |[]=>true
 |c::l=>(letter c || (decide (i≠0) && digit c)) && nS (i+1) l
def named(s:List UInt8):Bool:=nS 0 s && bI s.length 1 16
def dK.model(f:dK)(m:ck):Int:=if named m.name then(if(m.dG.length:Int)=f.k*f.size/\dz m.dG (λn=>bI n (-100000) 100000)=true then 0 else 1)else 5
def dK.each(f:dK)(met:List (List UInt8)):List ck->Int
 |[]=>0
 |m::l=>if f.model m=0 then(if met.contains m.name then 6 else f.each (met++[m.name]) l)else f.model m
def dK.ai(f:dK)(l:List ck):Int:=if bI l.length 1 40 then f.each [] l else 3
def fX(f:dK)(l:List ck):Int:=if f.valid then f.ai l else 1
def Rw.alone(r:Rw):Bool:=bI r.t 0 400 && (bI r.p 1 10000 && (bI r.l 0 4000 && (bI r.s 0 2000 && (decide (r.l<r.v) && decide (r.v<=4000)))))
def Rw.wV(o r:Rw):Bool := !(decide (r.t<=o.t) || (decide (r.p<=o.p) || (decide (r.l<=o.l) || decide (r.s<o.s))))
def uf:List Rw->Bool
 |o::r::l=>o.wV r && uf (r::l)
 |_=>true
def fP(t:List Rw):Bool:=bI t.length 2 20 && (dz t Rw.alone && uf t)
def bN.ok(size:Int)(used:List Int)(w:bN):Bool:=bI w.b 0 (size-1) && (!used.contains w.b && (bI w.h 0 3000 && bI w.m 0 1000000))
def nE(size:Int)(used:List Int):List bN->Bool
 |[]=>true
 |w::l=>w.ok size used && nE size (used++[w.b]) l
def b9.size(b:b9):Int:=b.f.size
def b9.ok1(b:b9):Bool:=b.f.valid && (decide (4<=b.f.k) && (fP b.dX && (bI b.cJ 1 100000 && (bI b.lift 0 1000 && (bI b.deep 0 3000 && decide (b.ar.length<=8))))))
def b9.valid(b:b9):Bool:=b.ok1 && nE b.size [] b.ar
def b9.n(b:b9):Nat:=b.size.toNat
def wR(b:b9)(m:ck)(k:Nat):List Int:=(m.dG.drop (k*b.n)).take b.n
def jx(b:b9)(m:ck)(k:Nat)(i:Nat):Int:=(m.dG[k*b.n+i]?).getD 0
def hold(b:b9)(m:ck)(i:Nat):Int:=jx b m 0 i
def Ak(b:b9)(m:ck)(i:Nat):Int:=jx b m 1 i
def Im(b:b9)(m:ck)(i:Nat):Int:=jx b m 2 i
def feed(b:b9)(m:ck)(i:Nat):Int:=jx b m 3 i
def fits(b:b9)(m:ck):Bool:=decide (fX b.f [m]=0) && (dz (wR b m 0) (λn=>bI n 1000 100000) && (dz (wR b m 1) (λn=>bI n 0 1000) && (dz (wR b m 2) (λn=>bI n 0 3000) && dz (wR b m 3) (λn=>bI n 0 1000))))
def Bd(b:b9)(m:ck):Bool:=b.valid && fits b m
def cf(b:b9)(m:ck):List aF:=(List.range b.n).map λi=>⟨hold b m i,hold b m i*Im b m i,0⟩
def aF.valid(x:aF):Bool:=bI x.m 1 1000000 && (bI x.h 0 10000000000 && bI x.k 0 1000000000000)
def pH(b:b9)(s:List aF):Bool:=decide ((s.length:Int)=b.size) && dz s aF.valid
def weight(b:b9)(i:Nat):Int:=((i / (b.f.x.toNat*b.f.y.toNat):Nat):Int)*b.lift
def down(n d:Int):Int:=n / d
def aR(s:List aF)(i:Nat):aF:=(s[i]?).getD ⟨0,0,0⟩
def gR(x:aF)(out:Int)(r:Rw):Int:=if r.l*x.m<=x.h then max out r.p else out
def dE(b:b9)(m:ck)(s:List aF)(i:Nat):Int :=
 b.dX.foldl (gR (aR s i)) (max 0 (weight b i+down (b.cJ*((aR s i).m-hold b m i)) (hold b m i)))
def bf(b:b9)(m:ck)(s:List aF):List Int:=(List.range s.length).map (dE b m s)
def vY(b:b9)(i:Nat):List (Nat×Nat) :=
 (if(i+1)%b.f.x.toNat≠0 then [(i,i+1)]else [])++((if i / b.f.x.toNat%b.f.y.toNat≠b.f.y.toNat-1 then [(i,i+b.f.x.toNat)]else [])++(if i+b.f.x.toNat*b.f.y.toNat<b.n then [(i,i+b.f.x.toNat*b.f.y.toNat)]else []))
def zN(b:b9):List (Nat×Nat):=fM (List.range b.n) (vY b)
def aF.out(x:aF)(m:Int):aF:=⟨m,(x.h*m).tdiv x.m,(x.k*m).tdiv x.m⟩
def aF.move(x o:aF)(sign:Int):aF:=⟨x.m+sign*o.m,x.h+sign*o.h,x.k+sign*o.k⟩
def C7(b:b9)(m:ck)(s:List aF)(p:List Int)(l:Nat×Nat):Option ((Nat×Nat)×aF) :=
 let d:=(p[l.1]?).getD 0-weight b l.1-(p[l.2]?).getD 0+weight b l.2
 let l':=if d<0 then(l.2,l.1)else l
 let d':=if d<0 then -d else d
 let q:=min ((min (Ak b m l'.1) (Ak b m l'.2)*d').tdiv 1000) ((aR s l'.1).m.tdiv 8)
 if 0<q then some (l',(aR s l'.1).out q)else none
def S8(es:List ((Nat×Nat)×aF))(k:Nat×Nat)(o:aF):List ((Nat×Nat)×aF) :=
 match es.findIdx? (λe=>e.1 == k)with
 |some j=>es.set j (k,o)
 |none=>es++[(k,o)]
def kn(b:b9)(m:ck)(s:List aF)(p:List Int)(es:List ((Nat×Nat)×aF))(l:Nat×Nat):List ((Nat×Nat)×aF) :=
 match C7 b m s p l with
 |some e=>S8 es e.1 e.2
 |none=>es
def sK(b:b9)(m:ck)(s:List aF):List ((Nat×Nat)×aF):=(zN b).foldl (kn b m s (bf b m s)) []
def ct(s:List aF)(i:Nat)(o:aF)(sign:Int):List aF:=s.set i ((aR s i).move o sign)
def cH(s:List aF)(e:(Nat×Nat)×aF):List aF:=ct (ct s e.1.1 e.2 (-1)) e.1.2 e.2 1
def bN.given(w:bN)(rate:Int):aF:=⟨-rate,-rate*w.h,-rate*w.m⟩
def gS(s:List aF)(w:bN)(rate:Int):aF:=if rate<0 then⟨0,0,0⟩else(aR s w.b.toNat).out (min rate ((aR s w.b.toNat).m.tdiv 8))
def lL(s next:List aF)(w:bN)(rate:Int):List aF:=if rate<0 then ct next w.b.toNat (w.given rate) 1 else ct next w.b.toNat (gS s w rate) (-1)
def JJ(b:b9)(m:ck)(i:Nat):aF:=⟨feed b m i,feed b m i*b.deep,0⟩
def lZ(b:b9)(m:ck)(s:List aF)(aH:List Int):List aF :=
 let s1:=(sK b m s).foldl cH s
 let s2:=(b.ar.zip aH).foldl (λn wr=>lL s n wr.1 wr.2) s1
 (List.range s.length).foldl (λn i=>ct n i (JJ b m i) 1) s2
def bP(b:b9)(s:List aF)(aH:List Int):List aF:=(b.ar.zip aH).map λwr=>gS s wr.1 wr.2
def tick(b:b9)(m:ck)(s:List aF)(aH:List Int):Option (List aF×List aF) :=
 if pH b (lZ b m s aH)then some (lZ b m s aH,bP b s aH)else none
def pf(b:b9)(l:List Int):Int:=if l.length=b.ar.length then(if dz l (λn=>bI n (-100000) 100000)then 0 else 2)else 1
def b8{α:Type}(f:α->Int):List α->Int
 |[]=>0
 |x::l=>if f x=0 then b8 f l else f x
def sM(b:b9)(av:List (List Int)):Int:=if 200<av.length then 3 else b8 (pf b) av
def nD(b:b9)(m:ck):List (List aF)->List (List aF)->List aF->List (List Int)->Option (List (List aF)×List (List aF))
 |ss,ys,_,[]=>some (ss,ys)
 |ss,ys,s,r::av =>
  match tick b m s r with
  |some (s',y)=>nD b m (ss++[s']) (ys++[y]) s' av
  |none=>none
def run(b:b9)(m:ck)(av:List (List Int)):Option (List (List aF)×List (List aF)):=nD b m [cf b m] [] (cf b m) av
end Go.aD
namespace Go.Proofs.YtpapbbojmclkgaaGreatDoor
open Go Go.aw Go.aD
variable {J:SK}
theorem UN{a b A B:Int}(h1:1<=a)(h2:a<=A)(h3:1<=b)(h4:b<=B):1<=a*b/\a*b<=A*B :=
 ⟨by have:=Int.mul_pos (a:=a) (b:=b) (by omega) (by omega);omega,cA h2 h4 (by omega) (by omega)⟩
theorem iE{a b A B:Int}(h1:0<=a)(h2:a<=A)(h3:0<=b)(h4:b<=B):0<=a*b/\a*b<=A*B :=
 ⟨bF h1 h3,cA h2 h4 h3 (by omega)⟩
theorem dK.sz{f:dK}(hx:1<=f.x/\f.x<=8)(hy:1<=f.y/\f.y<=8)(hz:1<=f.z/\f.z<=8):(1<=f.x*f.y/\f.x*f.y<=64)/\(1<=f.x*f.y*f.z/\f.x*f.y*f.z<=512):=by
 have h1:=UN hx.1 hx.2 hy.1 hy.2;have h2:=UN h1.1 h1.2 hz.1 hz.2;exact⟨by omega,by omega⟩
theorem dY{a b c:Int}:Cl 283 [iI a,iI b,iI c] (.bool (bI a b c)) J:=by
 refine an ?_;by_cases h:b<=a<;>simp[h,bI]
theorem iJ{a b c:Int}:Cl 296 [iI a,iI b,iI c] (.bool (bI a b c)) J:=by
 refine an ?_;by_cases h:b<=a<;>simp[h,bI]
theorem jB{a b c:Int}:Cl 280 [iI a,iI b,iI c] (.bool (bI a b c)) J:=by
 refine an ?_;by_cases h:b<=a<;>simp[h,bI]
theorem KD{f:dK}(hx:1<=f.x/\f.x<=8)(hy:1<=f.y/\f.y<=8)(hz:1<=f.z/\f.z<=8):Cl 293 [.agg (fL f)] (iI f.size) J:=by
 refine an ?_;obtain⟨h1,h2⟩:=dK.sz hx hy hz;have w1:=bV (n:=f.x*f.y);have w2:=bV (n:=f.x*f.y*f.z);simp[w1,w2,dK.size]
theorem Xt{f:dK}:Cl 279 [.agg (fL f)] (.bool f.valid) J:=by
 refine an ?_;cases hc1:bI f.x 1 8
 .simp[iJ,dK.valid,hc1]
 cases hc2:bI f.y 1 8
 .simp[iJ,dK.valid,hc1,hc2]
 cases hc3:bI f.z 1 8
 .simp[iJ,dK.valid,hc1,hc2,hc3]
 have hb:=λJ=>KD (J:=J) (f:=f) (aS.1 hc1) (aS.1 hc2) (aS.1 hc3)
 by_cases hc4:f.size<=64
 .simp[iJ,dK.valid,hc1,hc2,hc3,hc4,hb]
 .simp[iJ,dK.valid,hc1,hc2,hc3,hc4,hb]
theorem Kb{f:dK}:Cl 232 [.agg (fL f)] (iI f.shape) J:=by
 refine an ?_;have hb:=λJ=>Xt (J:=J) (f:=f)
 cases hc:f.valid<;>rw[hc]at hb<;>simp[hb,dK.shape,hc]
theorem ja{f:dK}:Cl 199 [.agg (fL f)] (iI f.shape) J:=by
 refine an ?_;have hb:=λJ=>Kb (J:=J) (f:=f)
 simp[hb]
theorem T5{s:List UInt8}(hl:s.length<=1000000000):∀(m i:Nat),i+m=s.length ->
  WL T [0,6,7] false uX [(0,.str s),(6,iI s.length),(7,iI i)] J
   (λx e J'=>J'=J/\if nS i (s.drop i)then x=.exit 0/\get e 0=.str s else x=.ret/\get e 2=.bool false)
 |0,i,hi=>by
  refine aK ?_;have h1:¬i<s.length:=by omega
  have h2:s.drop i=[]:=ec;simp[h1,h2,nS]
 |m+1,i,hi=>by
  refine aK ?_;have h1:i<s.length:=by omega
  obtain⟨c,hc⟩:=gE h1;have h4:=cj h1;have h5:=bj hc;have ih:=T5 hl m (i+1) (by omega);rw[h5,nS];have hd:fO .J8 [.str s,iI (i:Int)]=some (.int .u8 c.toNat):=by simp[fO,hc]
  by_cases hc1:97<=c.toNat
  .by_cases hc2:c.toNat<=122
   .have hlet:letter c=true:=by simp[letter,hc1,hc2]
    simp[h1,h4,hd,hlet,show(97:Int)<=(c.toNat:Int)by omega,show(c.toNat:Int)<=122 by omega];exact WL.tg ih λx e J' hh=>by simpa[hlet]using hh
   .have hlet:letter c=false:=by simp[letter,hc2]
    have hdig:digit c=false:=by simp[digit];omega
    by_cases hi0:i=0
    .subst hi0;have hd0:fO .J8 [.str s,iI 0]=some (.int .u8 c.toNat):=by simpa using hd
     have h1':0<s.length:=h1;simp[h1',hd0,hlet,hdig,show(97:Int)<=(c.toNat:Int)by omega,show ¬(c.toNat:Int)<=122 by omega]
    .simp[h1,hd,hlet,hdig,hi0,show(97:Int)<=(c.toNat:Int)by omega,show ¬(c.toNat:Int)<=122 by omega,show ¬(c.toNat:Int)<48 by omega,show(57:Int)<(c.toNat:Int)by omega]
  .have hlet:letter c=false:=by simp[letter,hc1]
   by_cases hi0:i=0
   .subst hi0;have hd0:fO .J8 [.str s,iI 0]=some (.int .u8 c.toNat):=by simpa using hd
    have h1':0<s.length:=h1;simp[h1',hd0,hlet,show ¬(97:Int)<=(c.toNat:Int)by omega]
   .by_cases hc3:c.toNat<48
    .have hdig:digit c=false:=by simp[digit];omega
     simp[h1,hd,hlet,hdig,hi0,show ¬(97:Int)<=(c.toNat:Int)by omega,show(c.toNat:Int)<48 by omega]
    .by_cases hc4:57<c.toNat
     .have hdig:digit c=false:=by simp[digit];omega
      simp[h1,hd,hlet,hdig,hi0,show ¬(97:Int)<=(c.toNat:Int)by omega,show ¬(c.toNat:Int)<48 by omega,show(57:Int)<(c.toNat:Int)by omega]
     .have hdig:digit c=true:=by simp[digit];omega
      simp[h1,h4,hd,hlet,hdig,hi0,show ¬(97:Int)<=(c.toNat:Int)by omega,show ¬(c.toNat:Int)<48 by omega,show ¬(57:Int)<(c.toNat:Int)by omega];exact WL.tg ih λx e J' hh=>by simpa[hlet,hdig,hi0]using hh
theorem Ka{s:List UInt8}(hl:s.length<=1000000000):Cl 292 [.str s] (.bool (named s)) J:=by
 refine an ?_;have hp:fO .RH [.str s]=some (iI s.length):=rfl;simp[hp];refine WL.tg (T5 (J:=[]::J) hl s.length 0 (by omega)) ?_;rintro x e J' ⟨rfl,h⟩;simp only[az]at h;unfold named;cases hc:nS 0 s
 .simp[hc]at h;simp[h]
 .simp[hc]at h;simp[h,hp,iJ]
theorem aaR{a:Int}:Cl 295 [iI a] (.bool (bI a (-100000) 100000)) J:=by
 refine an ?_;simp[iJ]
theorem Vx{l:List Int}{p:Int->Bool}{fv:D}(hl:l.length<=1000000000)(ht:om T fv (λn=>iI n) p l)(hc:fv.cells=some [fv]):
  Cl 294 [lF l aQ,fv] (.bool (dz l p)) J :=
 CW (Ov .i64) (f:=294) (g:=329) (h:=226) (i:=273) (l:=l) (p:=p) (fv:=fv) rfl rfl rfl rfl (by omega) ht hc
theorem Cz{f:dK}(hf:f.valid=true):(1<=f.size/\f.size<=64)/\1<=f.k*f.size/\f.k*f.size<=384:=by
 obtain⟨h1,h2,h3,h4,h5⟩:=dK.mP.1 hf;obtain⟨_,h6⟩:=dK.sz h1 h2 h3;have h7:=UN h5.1 h5.2 (b:=f.size) (B:=64) (by unfold dK.size;omega) h4;exact⟨⟨by unfold dK.size;omega,h4⟩,by omega,by omega⟩
theorem TL{f:dK}{m:ck}(hf:f.valid=true)(hn:m.name.length<=1000000000)(hl:m.dG.length<=1000000000):Cl 241 [.agg (fL f),.agg (mL m)] (iI (f.model m)) J:=by
 refine an ?_;obtain⟨h1,h2,h3,h4,h5⟩:=dK.mP.1 hf;obtain⟨h6,h7⟩:=Cz hf;have w1:=bV (n:=f.k*f.size);have hb:=λJ=>KD (J:=J) (f:=f) h1 h2 h3
 have ha:=λJ=>Vx (J:=J) (l:=m.dG) (p:=λn=>bI n (-100000) 100000) (fv:=.fn 295 [] []) hl (om.fn λx _ J=>by simpa using aaR) rfl
 cases hc1:named m.name
 .simp[Ka hn,hc1,dK.model]
 .by_cases hc2:(m.dG.length:Int)=f.k*f.size
  .cases hc3:dz m.dG (λn=>bI n (-100000) 100000)<;>
    simp[Ka hn,hc1,hc2,hc3,dK.model,hb,ha,w1]
  .simp[Ka hn,hc1,hc2,dK.model,hb,w1]
def FN(met:List (List UInt8)):List D:=met.map λn => .cS [.str n,.bool true]
theorem IH{k:List UInt8}:∀{met:List (List UInt8)},∃r,oS none (.str k) (FN met)=some r/\(met.contains k=true->∃j,r=some (j,.bool true))/\(met.contains k=false->r=none)
 |[]=>⟨none,rfl,by simp,by simp⟩
 |n::met=>by
  obtain⟨r,h1,h2,h3⟩:=IH (k:=k) (met:=met);simp only[FN,aL]at h1 ⊢;by_cases hk:k=n
  .subst hk;exact⟨some (0,.bool true),by simp[oS,sw],λ_=>⟨0,rfl⟩,by simp⟩
  .have hb:(k == n)=false:=by simpa using hk
   refine⟨r.map λy=>(y.1+1,y.2),by simp[oS,sw,hb,h1],?_,?_⟩
   .intro hc;have:met.contains k=true:=by simpa[hk]using hc
    obtain⟨j,rfl⟩:=h2 this;exact⟨j+1,rfl⟩
   .intro hc;have:met.contains k=false:=by simp at hc ⊢;exact hc.2
    rw[h3 this];rfl
theorem adG{S:SK}{l i:Nat}{met:List (List UInt8)}{k:List UInt8}(h:cells? S l i 0=some (FN met)):DY S (.get none (.bool false) false) [.jg l i,.str k]=some (.bool (met.contains k),S):=by
 obtain⟨r,h1,h2,h3⟩:=IH (k:=k) (met:=met);simp only[DY,D3,h,aZ,h1];cases hc:met.contains k
 .rw[h3 hc];simp[sw]
 .obtain⟨j,rfl⟩:=h2 hc;simp[sw]
theorem adH{S:SK}{l i:Nat}{met:List (List UInt8)}{k:List UInt8}(h:cells? S l i 0=some (FN met))(hn:met.contains k=false):
  DY S (.put none) [.jg l i,.str k,.bool true]=some (.undef,bw S l i (.cells 0 (FN (met++[k])))):=by
 obtain⟨r,h1,h2,h3⟩:=IH (k:=k) (met:=met);simp only[DY,D3,h,aZ,h1];rw[h3 hn];simp[sw,FN,D.clean]
theorem akN{f:dK}{m:ck}(hf:f.valid=true)(hn:m.name.length<=1000000000)(hl:m.dG.length<=1000000000):
  Cl 365 [.agg (mL m),.bq (fL f)] (.cS [.str m.name,iI (f.model m)]) J:=by
 refine an ?_;simp[TL hf hn hl]
theorem X6{f:dK}{l:List ck}(hf:f.valid=true)(hs:∀m∈l,m.name.length<=1000000000/\m.dG.length<=1000000000)(hl:l.length<=1000000000):∀(k i:Nat) (met:List (List UInt8)),i+k=l.length ->
  WL T [1,5,11,12,13] false jH [(1,.fn 365 [] [.bq (fL f)]),(5,.jg J.length 0),(11,lF l ck.enc),(12,iI l.length),(13,iI i)] ([.cells 0 (FN met)]::J)
   (λx e J'=>∃s,J'=s::J/\if f.each met (l.drop i)=0 then x=.exit 0 else x=.ret/\get e 4=iI (f.each met (l.drop i)))
 |0,i,met,hi=>by
  refine aK ?_;have h1:¬i<l.length:=by omega
  have h2:l.drop i=[]:=ec;simp[h1,h2,dK.each]
 |k+1,i,met,hi=>by
  refine aK ?_;have h1:i<l.length:=by omega
  obtain⟨m,hm⟩:=gE h1;have h2:=bx (f:=ck.enc) (w:=2) hm;have h4:=cj h1;have h5:=bj hm;obtain⟨hs1,hs2⟩:=hs m (ah hm);have hC:=λJ=>akN (J:=J) hf hs1 hs2
  rw[h5,dK.each];by_cases hc1:f.model m=0
  .have hg:=adG (S:=[.cells 0 (FN met)]::J) (l:=J.length) (i:=0) (met:=met) (k:=m.name) (by simp);cases hc2:met.contains m.name
   .rw[hc2]at hg;have hp:=adH (S:=[.cells 0 (FN met)]::J) (l:=J.length) (i:=0) (met:=met) (k:=m.name) (by simp) hc2;have ih:=X6 hf hs hl k (i+1) (met++[m.name]) (by omega);simp at hp;have hc3:¬m.name∈met:=by simpa using hc2
    simp[h1,h2,h4,hC,hc1,hg,hp];exact WL.ts ih λx e J' hh=>by simpa[hc1]using hh
   .rw[hc2]at hg;have hc3:m.name∈met:=by simpa using hc2
    simp[h1,h2,hC,hc1,hg]
  .simp[h1,h2,hC,hc1]
theorem aen{f:dK}{l:List ck}(hf:f.valid=true)(hs:∀m∈l,m.name.length<=1000000000/\m.dG.length<=1000000000)(hl:l.length<=1000000000):
  Cl 364 [lF l ck.enc,.fn 365 [] [.bq (fL f)]] (iI (f.each [] l)) J:=by
 refine an ?_;have hm:DY ([]::J) .make []=some (.jg J.length 0,[.cells 0 (FN [])]::J):=by simp[DY,FN]
 simp[hm];refine WL.ts (X6 (J:=J) hf hs hl l.length 0 [] (by omega)) ?_;rintro x e J' ⟨s,rfl,h⟩;simp only[az]at h;by_cases hc:f.each [] l=0
 .rw[if_pos hc]at h;subst h;simp[hc]
 .rw[if_neg hc]at h;obtain⟨rfl,h⟩:=h;simp[h]
theorem Xz{f:dK}{l:List ck}(hf:f.valid=true)(hs:∀m∈l,m.name.length<=1000000000/\m.dG.length<=1000000000)(hl:l.length<=1000000000):
  Cl 340 [.agg (fL f),lF l ck.enc] (iI (f.ai l)) J:=by
 refine an ?_;cases hc:bI l.length 1 40
 .simp[iJ,hc,dK.ai]
 .simp[iJ,hc,dK.ai,aen hf hs hl]
theorem Kw{f:dK}{l:List ck}(hf:f.valid=true)(hs:∀m∈l,m.name.length<=1000000000/\m.dG.length<=1000000000)(hl:l.length<=1000000000):
  Cl 339 [.bq (fL f),.bq [lF l ck.enc]] (iI (f.ai l)) J:=by
 refine an ?_;simp[Xz hf hs hl]
theorem N2{fs:List D}{es:List Int}(hlen:fs.length=es.length)(hl:fs.length<=100)(hfs:∀d∈fs,d.strip=d/\d.calm=d/\RW false 1 (some [d])=some d)
  (hcall:∀(i:Nat) d n,fs[i]?=some d->es[i]?=some n->(∀j,j<i->es[j]?=some 0)->∀J,nG (di T) false d [] J=some (iI n,J)):
  Cl 237 [.bZ fs.length fs] (iI (b8 id es)) J:=by
 have loop:∀(k i:Nat) (J:SK),i+k=fs.length->(∀j,j<i->es[j]?=some 0) ->
   WL T [6,7,8] false uW [(6,.bZ fs.length fs),(7,iI fs.length),(8,iI i)] J
    (λx e J'=>J'=J/\if b8 id (es.drop i)=0 then x=.exit 0 else x=.ret/\get e 2=iI (b8 id (es.drop i))):=by
  intro k;induction k with
  |zero =>
   intro i J hi h0;refine aK ?_;have h1:¬i<fs.length:=by omega
   have h2:es.drop i=[]:=ec;simp[h1,h2,b8]
  |succ k ih =>
   intro i J hi h0;refine aK ?_;have h1:i<fs.length:=by omega
   obtain⟨d,hd⟩:=gE h1;obtain⟨n,hn⟩:∃n,es[i]?=some n:=gE (by omega);obtain⟨g1,g2,g3⟩:=hfs d (ah hd);have h2:=bx (f:=λd:D=>[d]) (w:=1) (l:=fs) hd;rw[show(fM fs λd=>[d])=fs from by simp[fM]]at h2;have h4:=cj h1;have h5:=bj hn;have hc:=hcall i d n hd hn h0;simp only[bR]at h2;rw[h5,b8];by_cases hz:n=0
   .subst hz;have ih':=ih (i+1) J (by omega) (λj hj=>by
     by_cases hji:j=i
     .subst hji;exact hn
     .exact h0 j (by omega))
    simp[h1,h2,h4,g1,g2,hc];exact WL.tg ih' λx e J' hh=>by simpa using hh
   .simp[h1,h2,g1,g2,hc,hz]
 refine an ?_;simp;refine WL.tg (loop fs.length 0 ([]::J) (by omega) (by simp)) ?_;rintro x e J' ⟨rfl,h⟩;simp only[az]at h;by_cases hc:b8 id es=0
 .rw[if_pos hc]at h;subst h;simp[hc]
 .rw[if_neg hc]at h;obtain⟨rfl,h⟩:=h;simp[h]
theorem FQ{f:dK}{l:List ck}(hs:∀m∈l,m.name.length<=1000000000/\m.dG.length<=1000000000)(hl:l.length<=1000000000):
  Cl 304 [.agg (fL f),lF l ck.enc] (iI (fX f l)) J:=by
 refine an ?_;have hC:=λJ=>N2 (J:=J) (fs:=[.fn 232 [.agg (fL f)] [],.fn 339 [] [.bq (fL f),.bq [lF l ck.enc]]]) (es:=[f.shape,f.ai l]) rfl (by simp) (by simp) (by
  intro i d n hd hn h0 J;match i with
  |0 =>
   simp at hd hn;subst hd hn;simp[Kb]
  |1 =>
   simp at hd hn;subst hd hn;have h1:f.valid=true:=by
    have:=h0 0 (by omega);simp[dK.shape]at this;exact this
   simp[Kw h1 hs hl]
  |i+2=>simp at hd)
 simp at hC;have e1:b8 id [f.shape,f.ai l]=fX f l:=by
  simp only[b8,id,fX,dK.shape];by_cases h:f.valid=true
  .by_cases h2:f.ai l=0<;>simp[h,h2]
  .simp[h]
 rw[e1]at hC;simp[hC]
end Go.Proofs.YtpapbbojmclkgaaGreatDoor
namespace Go.aw
open Go
variable {T:CL}
def nO(q:Nat->Bool)(i:Nat):Nat->Bool×Nat
 |0=>(false,i)
 |m+1=>if q i then(true,i+1)else nO q (i+1) m
theorem FF{q:Nat->Bool}:∀{m i:Nat},(nO q i m).1=false↔∀j,j<m->q (i+j)=false
 |0,i=>by simp[nO]
 |m+1,i=>by
  simp only[nO];by_cases h:q i=true
  .simp only[h,if_true,Bool.true_eq_false,false_iff];intro hh;have:=hh 0 (by omega);simp[h]at this
  .have h':q i=false:=by simpa using h
   simp only[h',aC,if_false];rw[FF (m:=m) (i:=i+1)];constructor
   .intro hh j hj;cases j with
    |zero=>simpa using h'
    |succ j=>have:=hh j (by omega);rwa[show i+1+j=i+(j+1)from by omega]at this
   .intro hh j hj;have:=hh (j+1) (by omega);rwa[show i+(j+1)=i+1+j from by omega]at this
section
variable {α:Type} (E:Elt α) {fv:D} {l:List α} {q:Nat->Bool} {S:Nat->SK}
theorem No(hl:l.length<=9223372036854775807)(h1:fv.strip=fv)(h2:fv.calm=fv)(ht:∀i x,l[i]?=some x->nG (di T) false fv [E.val x] (S i)=some (.bool (q i),S (i+1))):∀(m i:Nat),i+m=l.length ->
  WL T [0,1,7,8] false (Lz E.ag E.w) [(0,.bZ l.length (fM l E.enc)),(1,fv),(7,iI l.length),(8,iI i)] (S i)
   (λx e J'=>J'=S (nO q i m).2/\if(nO q i m).1=true then x=.ret/\∃j:Nat,get e 4=iI j else x=.exit 0)
 |0,i,hi=>by
  refine Am (Lz.eq_1 _ _) ?_;have:¬i<l.length:=by omega
  simp[this,h2,nO]
 |m+1,i,hi=>by
  refine Am (Lz.eq_1 _ _) ?_;have h4:i<l.length:=by omega
  obtain⟨x,hx⟩:=gE h4;have h5:=HH (f:=E.enc) E.len hx;have h6:=ht i x hx;have h7:=cj h4 hl;have ih:=No hl h1 h2 ht m (i+1) (by omega);cases hq:q i
  .rw[hq]at h6;simp[h4,h1,h2,h5,h6,h7,E.load,E.strip];refine WL.mono (by simpa using ih) ?_;rintro x e J' ⟨h9,h10⟩;simp only[nO,hq,aC,if_false];exact⟨h9,h10⟩
  .rw[hq]at h6;simp[h4,h1,h2,h5,h6,E.load,E.strip,nO,hq];exact⟨i,rfl⟩
theorem Wc{f:Nat}(hT:T f=some (uO E.ag E.w))(hl:l.length<=9223372036854775807)(h1:fv.strip=fv)(h2:fv.calm=fv)(hlen:∀i,(S i).length=(S 0).length)
  (ht:∀i x,l[i]?=some x->nG (di T) false fv [E.val x] ([]::S i)=some (.bool (q i),[]::S (i+1))):
  ∃n:Int,di T (.call false f [.bZ l.length (fM l E.enc),fv] (S 0))=some (.val (iI n) (S (nO q 0 l.length).2))/\(0<=n↔(nO q 0 l.length).1=true):=by
 have h:=No E (S:=λi=>[]::S i) hl h1 h2 ht l.length 0 (by omega);cases hq:(nO q 0 l.length).1
 .refine⟨-1,?_,by simp⟩;refine eZ hT (uO.eq_1 _ _) rfl (hlen _) ?_;simp[h2];refine WL.mono (by simpa using h) ?_;rintro x e J' ⟨rfl,h10⟩;rw[hq]at h10;simp only[aC,if_false]at h10;subst h10;simp
 .obtain⟨x,e,J',hw,rfl,h10⟩:=h;rw[hq]at h10;simp only[if_true]at h10;obtain⟨rfl,j,hj⟩:=h10;refine⟨j,?_,by simp⟩;refine eZ hT (uO.eq_1 _ _) rfl (hlen _) ?_;simp[h2];refine⟨_,_,_,by simpa using hw,?_⟩;simp[hj]
theorem On{f i:Nat}(hT:T f=some (iL i))(hi:T i=some (uO E.ag E.w))(hl:l.length<=9223372036854775807)(h1:fv.strip=fv)(h2:fv.calm=fv)(hlen:∀i,(S i).length=(S 0).length)
  (ht:∀i x,l[i]?=some x->nG (di T) false fv [E.val x] ([]::[]::S i)=some (.bool (q i),[]::[]::S (i+1))):
  di T (.call false f [.bZ l.length (fM l E.enc),fv] (S 0))=some (.val (.bool (nO q 0 l.length).1) (S (nO q 0 l.length).2)):=by
 obtain⟨n,h,hn⟩:=Wc E (S:=λi=>[]::S i) hi hl h1 h2 (λi=>by simp[hlen i]) ht;refine eZ hT (iL.eq_1 _) rfl (hlen _) ?_;have h4:decide (0<=n)=(nO q 0 l.length).1:=by
  cases hq:(nO q 0 l.length).1
  .rw[hq]at hn;simp at hn;exact decide_eq_false (by omega)
  .exact decide_eq_true (hn.2 hq)
 simp[h1,h2,h,h4]
theorem Yo{g:Nat}{x:α}{b:Bool}{J J':SK}(hT:T g=some (Bq E.ag E.w))(hlen:J'.length=J.length)(h1:fv.strip=fv)(h2:fv.calm=fv)(ht:nG (di T) false fv [E.val x] ([]::J)=some (.bool b,[]::J')):
  nG (di T) false (.fn g [] [.bq [fv]]) [E.val x] J=some (.bool (!b),J'):=by
 rw[oI];have hc:=E.cells x;have hl:=E.load x;have hs:=E.strip x;have hcm:=E.calm x;have key:di T (.call false g ([]++[E.val x]++[.bq [fv]]) J)=some (.val (.bool (!b)) J'):=by
  generalize E.ag=ag at *
  cases ag with
  |true =>
   refine eZ hT (Bq.eq_1 _) rfl hlen ?_;simp[h1,ht,hc,hl,hs]
  |false =>
   refine eZ hT (Bq.eq_2 _) rfl hlen ?_;simp[h1,ht,hs,hcm]
 rw[key];rfl
theorem Od{f g h i:Nat}{p:Nat->Bool}(hf:T f=some (G7 g h))(hg:T g=some (Bq E.ag E.w))(hh:T h=some (iL i))(hi:T i=some (uO E.ag E.w))
  (hl:l.length<=9223372036854775807) (h1:fv.strip=fv) (h2:fv.calm=fv) (hcl:fv.cells=some [fv]) (hlen:∀i,(S i).length=(S 0).length)
  (ht:∀i x,l[i]?=some x->nG (di T) false fv [E.val x] ([]::[]::[]::[]::S i)=some (.bool (p i),[]::[]::[]::[]::S (i+1))):
  di T (.call false f [.bZ l.length (fM l E.enc),fv] (S 0))=some (.val (.bool !(nO (λi => !p i) 0 l.length).1) (S (nO (λi => !p i) 0 l.length).2)):=by
 have hc:=On E (S:=λi=>[]::S i) (fv:=.fn g [] [.bq [fv]]) (q:=λi => !p i) hh hi hl rfl rfl (λi=>by simp[hlen i]) (λi x hx=>Yo E hg (by simp[hlen i,hlen (i+1)]) h1 h2 (ht i x hx));refine eZ hf (G7.eq_1 _ _) rfl (hlen _) ?_;simp[h1,hc,hcl]
theorem abE{f g h i:Nat}{p:α->Bool}{J:SK}(hf:T f=some (G7 g h))(hg:T g=some (Bq E.ag E.w))(hh:T h=some (iL i))(hi:T i=some (uO E.ag E.w))
  (hl:l.length<=9223372036854775807) (h1:fv.strip=fv) (h2:fv.calm=fv) (hcl:fv.cells=some [fv])
  (ht:∀x∈l,nG (di T) false fv [E.val x] ([]::[]::[]::[]::J)=some (.bool (p x),[]::[]::[]::[]::J)):
  di T (.call false f [.bZ l.length (fM l E.enc),fv] J)=some (.val (.bool (dz l p)) J):=by
 have h0:=Od E (T:=T) (S:=λ_=>J) (fv:=fv) (l:=l) (p:=λi=>match l[i]? with | some x=>p x | none=>true) hf hg hh hi hl h1 h2 hcl (λ_=>rfl) (λi x hx=>by
  rw[ht x (ah hx)];simp[hx])
 have he:(!(nO (λi => !(match l[i]? with | some x=>p x | none=>true)) 0 l.length).1)=dz l p:=by
  have h2:=FF (q:=λi => !(match l[i]? with | some x=>p x | none=>true)) (m:=l.length) (i:=0);cases hw:dz l p
  .rw[Bool.not_eq_false'];cases hs:(nO (λi => !(match l[i]? with | some x=>p x | none=>true)) 0 l.length).1
   .have h3:=h2.1 hs;have h4:dz l p=true:=ff.2 λx hx=>by
     obtain⟨j,hj⟩:=fW hx;have:=h3 j (aA.1 hj).1;simpa[hj]using this
    rw[hw]at h4;cases h4
   .rfl
  .rw[ea];refine h2.2 λj hj=>?_
   have hx:=aE hj;have:=ff.1 hw _ (List.getElem_mem hj);simp[hx,this]
 rw[he]at h0;exact h0
end
end Go.aw
namespace Go.Proofs.YtpapbbojmclkgaaGreatDoor
open Go Go.aw Go.aD
variable {J:SK}
theorem aaI{r:Rw}:Cl 282 [.agg r.enc] (.bool r.alone) J:=by
 refine an ?_;cases hc1:bI r.t 0 400
 .simp[jB,Rw.alone,hc1]
 cases hc2:bI r.p 1 10000
 .simp[jB,Rw.alone,hc1,hc2]
 cases hc3:bI r.l 0 4000
 .simp[jB,Rw.alone,hc1,hc2,hc3]
 cases hc4:bI r.s 0 2000
 .simp[jB,Rw.alone,hc1,hc2,hc3,hc4]
 by_cases hc5:r.l<r.v
 rotate_left
 .simp[jB,Rw.alone,hc1,hc2,hc3,hc4,hc5]
 simp[jB,Rw.alone,hc1,hc2,hc3,hc4,hc5]
theorem aeA{l:List Rw}(hl:l.length<=1000000000):Cl 281 [lF l Rw.enc,.fn 282 [] []] (.bool (dz l Rw.alone)) J :=
 CW (yR 5 Rw.enc (λ_=>rfl)) (f:=281) (g:=323) (h:=322) (i:=355) (l:=l) (p:=Rw.alone) rfl rfl rfl rfl (by omega) (om.fn λx _ J=>aaI) rfl
theorem adl{t l:List Rw}{o:Rw}(hto:t=o::l)(hl:l.length<=100):∀(m i:Nat),i+m=l.length ->
  WL T [0,16,17,18] false mF [(0,lF t Rw.enc),(16,lF l Rw.enc),(17,iI l.length),(18,iI i)] J
   (λx e J'=>J'=J/\if uf (t.drop i)then x=.exit 0 else x=.ret/\get e 2=.bool false)
 |0,i,hi=>by
  refine aK ?_;have h1:¬i<l.length:=by omega
  have h2:t.drop i=[t[i]'(by subst hto;simp;omega)]:=by
   rw[List.drop_eq_getElem_cons (by subst hto;simp;omega),bH (by subst hto;simp;omega)]
  simp[h1,h2,uf]
 |m+1,i,hi=>by
  refine aK ?_;have h1:i<l.length:=by omega
  have htl:t.length=l.length+1:=by subst hto;rfl
  obtain⟨r,hr⟩:=gE h1;obtain⟨r0,hr0⟩:∃r0,t[i]?=some r0:=gE (by omega);have h2:=bx (f:=Rw.enc) (w:=5) hr;have h3:=bx (f:=Rw.enc) (w:=5) hr0;have h4:=cj h1;have h6:t.drop (i+1)=r::t.drop (i+2):=bj (by subst hto;simpa using hr);have h5:t.drop i=r0::r::t.drop (i+2):=by rw[bj hr0,h6]
  have ih:=adl hto hl m (i+1) (by omega);rw[h6]at ih;rw[h5,uf];have⟨hlt,hlt'⟩:(i:Int)<(t.length:Int)/\i<t.length:=by omega
  by_cases c1:r.t<=r0.t
  .simp[h1,hlt,h2,h3,c1,Rw.wV]
  by_cases c2:r.p<=r0.p
  .simp[h1,hlt,h2,h3,c1,c2,Rw.wV]
  by_cases c3:r.l<=r0.l
  .simp[h1,hlt,h2,h3,c1,c2,c3,Rw.wV]
  by_cases c4:r.s<r0.s
  .simp[h1,hlt,h2,h3,c1,c2,c3,c4,Rw.wV]
  .simp[h1,hlt,h2,h3,h4,c1,c2,c3,c4,Rw.wV];have hc:r0.t<r.t/\r0.p<r.p/\r0.l<r.l/\r0.s<=r.s:=by omega
   exact WL.tg ih λx e J' hh=>by simpa[hc]using hh
theorem Gy{t:List Rw}(hl:t.length<=1000000000):Cl 233 [lF t Rw.enc] (.bool (fP t)) J:=by
 refine an ?_;have ha:=λJ=>aeA (J:=J) (l:=t) hl
 cases hc1:bI t.length 2 20
 .simp[jB,hc1,fP]
 cases hc2:dz t Rw.alone
 .simp[jB,hc1,hc2,ha,fP]
 obtain⟨o,l,hto⟩:∃o l,t=o::l:=by
  cases t with
  |nil=>simp[bI]at hc1
  |cons o l=>exact⟨o,l,rfl⟩
 have hi:=aS.1 hc1;have htl:t.length=l.length+1:=by subst hto;rfl
 have⟨h1,h2⟩:(1:Int)<=(t.length:Int)/\t.length-1=l.length:=by omega
 have h3:((fM t Rw.enc).drop 5).take (l.length*5)=fM l Rw.enc:=by
  subst hto;have:=OG (f:=Rw.enc) (w:=5) (λ_=>rfl) l;simpa using this
 simp[jB,hc1,hc2,ha,h1,h2,h3];refine WL.tg (adl (J:=[]::J) hto (by omega) l.length 0 (by omega)) ?_;rintro x e J' ⟨rfl,h⟩;simp only[az]at h;unfold fP;cases hc3:uf t
 .rw[hc3]at h;simp at h;simp[h,hc2,hc1]
 .rw[hc3]at h;simp at h;subst h;simp[hc2,hc1]
theorem CO{l:List Rw}(hl:l.length<=1000000000):Cl 201 [lF l Rw.enc] (iI (if fP l then 0 else 1)) J:=by
 refine an ?_;cases hc:fP l<;>simp[Gy hl,hc]
theorem TN{b:b9}(hx:1<=b.f.x/\b.f.x<=8)(hy:1<=b.f.y/\b.f.y<=8)(hz:1<=b.f.z/\b.f.z<=8):Cl 284 [.agg (bL b)] (iI b.size) J:=by
 refine an ?_;obtain⟨h1,h2⟩:=dK.sz hx hy hz;have w1:=bV (n:=b.f.x*b.f.y);have w2:=bV (n:=b.f.x*b.f.y*b.f.z);simp[w1,w2,b9.size,dK.size]
def tc(b:Bool):List D:=[.bool b]
def rA(n:Nat)(ar:List bN):Nat->List Bool
 |0=>List.replicate n false
 |i+1=>match ar[i]? with
  |some w=>if bI w.b 0 ((n:Int)-1)=true/\(rA n ar i)[w.b.toNat]?=some false then(rA n ar i).set w.b.toNat true else rA n ar i
  |none=>rA n ar i
theorem CK{n:Nat}{ar:List bN}:∀i,(rA n ar i).length=n
 |0=>by simp[rA]
 |i+1=>by
  simp only[rA];split
  .split
   .simp[CK i]
   .exact CK i
  .exact CK i
def Bf(n:Nat)(ar:List bN)(i:Nat):Bool :=
 match ar[i]? with
 |some w=>bI w.b 0 ((n:Int)-1) && (decide ((rA n ar i)[w.b.toNat]?=some false) && (bI w.h 0 3000 && bI w.m 0 1000000))
 |none=>true
def Ji(n:Nat)(ar:List bN)(J:SK)(i:Nat):SK:=[.cells 0 (fM (rA n ar i) tc),.cells 0 [.sl J.length 0 0 0 n 1]]::J
theorem YA{l:List Bool}{j:Nat}{x:Bool}(h:l[j]?=some x):((fM l tc).drop j)=.bool x::(fM l tc).drop (j+1):=by
 have:=mM (f:=tc) (w:=1) (λ_=>rfl) h;simpa[tc]using this
theorem VU{l:List Bool}{j:Nat}{x:Bool}(h:j<l.length):(fM l tc).take j++(.bool x::(fM l tc).drop (j+1))=fM (l.set j x) tc:=by
 have:=Nq (f:=tc) (w:=1) (λ_=>rfl) (x:=x) h;simpa[tc]using this
theorem VT{l:List Bool}:(fM l tc).length=l.length:=by
 have:=dF (f:=tc) (w:=1) l;omega
theorem Sk{n:Nat}{ar:List bN}(hn:n<=512){i:Nat}{w:bN}(hw:ar[i]?=some w):
  di T (.call false 286 [.agg w.enc,.ref J.length 1 0 0] ([]::[]::[]::[]::Ji n ar J i))=some (.val (.bool (Bf n ar i)) ([]::[]::[]::[]::Ji n ar J (i+1))):=by
 refine eZ rfl rfl rfl (by simp[Ji]) ?_;have hlen:=CK (n:=n) (ar:=ar) i;have w1:=bV (n:=(n:Int)-1);have hwp:Bf n ar i=(bI w.b 0 ((n:Int)-1) && (decide ((rA n ar i)[w.b.toNat]?=some false) && (bI w.h 0 3000 && bI w.m 0 1000000))):=by simp[Bf,hw]
 have hus:rA n ar (i+1)=if bI w.b 0 ((n:Int)-1)=true/\(rA n ar i)[w.b.toNat]?=some false then(rA n ar i).set w.b.toNat true else rA n ar i:=by simp[rA,hw]
 rw[hwp];simp only[Ji];generalize rA n ar (i+1)=us' at *
 generalize rA n ar i=us at *
 cases hc1:bI w.b 0 ((n:Int)-1)
 .rw[hc1]at hus;simp at hus;subst hus;simp[dY,w1,hc1]
 .obtain⟨g1,g2⟩:=aS.1 hc1;have g3:w.b<(n:Int):=by omega
  obtain⟨u,hu⟩:∃u,us[w.b.toNat]?=some u:=⟨_,aE (by omega)⟩;have hat:=YA hu;have hset:=VU (l:=us) (j:=w.b.toNat) (x:=true) (by omega);have hlen2:(fM us tc).length=n:=by rw[VT,hlen]
  have hle:w.b.toNat+1<=n:=by omega
  rw[hc1,hu]at hus;cases u
  .simp at hus;subst hus;cases hc2:bI w.h 0 3000<;>
    simp[dY,w1,hc1,hu,g1,g3,hat,hset,hlen2,hle,hc2]
  .simp at hus;subst hus;simp[dY,w1,hc1,hu,g1,g3,hat]
theorem RS{n:Nat}{ar:List bN}:∀{i:Nat},i<=ar.length->(∀j,j<i->Bf n ar j=true)->∀k:Nat,k<n->(rA n ar i)[k]?=some (((ar.take i).map (·.b)).contains (k:Int))
 |0,_,_,k,hk=>by simp[rA,hk]
 |i+1,hi,h,k,hk=>by
  obtain⟨w,hw⟩:∃w,ar[i]?=some w:=gE (by omega);have ih:=RS (i:=i) (by omega) (λj hj=>h j (by omega));have hp:=h i (by omega);simp only[Bf,hw,af,au]at hp;obtain⟨h1,h2,_⟩:=hp;obtain⟨g1,g2⟩:=aS.1 h1;have ht:ar.take (i+1)=ar.take i++[w]:=by rw[List.take_add_one,hw];rfl
  simp only[rA,hw];rw[if_pos ⟨h1,h2⟩,ht];rw[List.getElem?_set];by_cases hkw:w.b.toNat=k
  .subst hkw;have hb:w.b=((w.b.toNat:Nat):Int):=by omega
   simp[CK,hk];right;omega
  .rw[if_neg hkw,ih k hk];congr 1;have:((k:Int) == w.b)=false:=by simp;omega
   simp[];intro hh;omega
theorem Fa{n:Nat}{ar:List bN}:∀(m i:Nat),i+m=ar.length->(∀j,j<i->Bf n ar j=true) ->
  (nE (n:Int) ((ar.take i).map (·.b)) (ar.drop i)=true↔∀j,i<=j->j<ar.length->Bf n ar j=true)
 |0,i,hi,h=>by
  rw[bH (by omega)];simp only[nE,true_iff];intro j h1 h2;omega
 |m+1,i,hi,h=>by
  obtain⟨w,hw⟩:∃w,ar[i]?=some w:=gE (by omega);have hu:=RS (n:=n) (i:=i) (by omega) h;have hone:bN.ok (n:Int) ((ar.take i).map (·.b)) w=Bf n ar i:=by
   simp only[Bf,hw,bN.ok];cases hc:bI w.b 0 ((n:Int)-1)
   .rfl
   .obtain⟨g1,g2⟩:=aS.1 hc;have:=hu w.b.toNat (by omega);rw[this,show((w.b.toNat:Nat):Int)=w.b from by omega];cases((ar.take i).map (·.b)).contains w.b<;>simp
  rw[bj hw,nE,hone,af];have ht:(ar.take i).map (·.b)++[w.b]=(ar.take (i+1)).map (·.b):=by rw[List.take_add_one,hw];simp
  rw[ht];constructor
  .rintro⟨h1,h2⟩ j hj1 hj2;by_cases hji:j=i
   .subst hji;exact h1
   .refine((Fa m (i+1) (by omega) λj hj=>?_).1 h2) j (by omega) hj2;by_cases hji:j=i
    .subst hji;exact h1
    .exact h j (by omega)
  .intro hh;have h1:=hh i (by omega) (by omega);refine⟨h1,(Fa m (i+1) (by omega) λj hj=>?_).2 λj hj1 hj2=>hh j (by omega) hj2⟩;by_cases hji:j=i
   .subst hji;exact h1
   .exact h j (by omega)
theorem Sl{n:Nat}{ar:List bN}(hn:n<=512)(hl:ar.length<=1000000000):∃s,
  di T (.call false 285 [lF ar bN.enc,.fn 286 [] [.ref J.length 1 0 0]] ([.cells 0 (fM (List.replicate n false) tc),.cells 0 [.sl J.length 0 0 0 n 1]]::J)) =
   some (.val (.bool (nE (n:Int) [] ar)) (s::J)):=by
 have h:=Od (yR 3 bN.enc (λ_=>rfl)) (T:=T) (S:=Ji n ar J) (fv:=.fn 286 [] [.ref J.length 1 0 0]) (l:=ar) (f:=285) (g:=325) (h:=324) (i:=356) (p:=Bf n ar)
  rfl rfl rfl rfl (by omega) rfl rfl rfl (λi=>by simp[Ji]) (λi x hx=>by
   rw[oI];have:=Sk (J:=J) hn hx;show R.dG (di T (.call false 286 [.agg x.enc,.ref J.length 1 0 0] _))=_
   rw[this];rfl)
 have he:(!(nO (λi => !Bf n ar i) 0 ar.length).1)=nE (n:Int) [] ar:=by
  have h1:=Fa (n:=n) (ar:=ar) ar.length 0 (by omega) (by simp);have h2:=FF (q:=λi => !Bf n ar i) (m:=ar.length) (i:=0);simp only[List.take_zero,cc,az]at h1;cases hw:nE (n:Int) [] ar
  .rw[Bool.not_eq_false'];cases hs:(nO (λi => !Bf n ar i) 0 ar.length).1
   .have h3:=h2.1 hs;have h4:=h1.2 λj _ hj=>by have:=h3 j hj;simpa using this
    rw[hw]at h4;cases h4
   .rfl
  .rw[ea];refine h2.2 λj hj=>?_
   have:=h1.1 hw j (by omega) hj;simpa using this
 rw[he]at h;refine⟨[.cells 0 (fM (rA n ar (nO (λi => !Bf n ar i) 0 ar.length).2) tc),.cells 0 [.sl J.length 0 0 0 n 1]],?_⟩;exact h
theorem D9{b:b9}(h1:b.dX.length<=1000000000)(h2:b.ar.length<=1000000000):Cl 234 [.agg (bL b)] (.bool b.valid) J:=by
 refine an ?_;have hT:=λJ=>CO (J:=J) (l:=b.dX) h1
 unfold b9.valid b9.ok1;cases hc1:b.f.valid
 .simp[ja,dK.shape,hc1]
 by_cases hc2:b.f.k<4
 .simp[ja,dK.shape,hc1,hc2,show ¬4<=b.f.k by omega]
 have hc2':4<=b.f.k:=by omega
 cases hc3:fP b.dX
 .simp[ja,dK.shape,hc1,hc2,hT,hc3]
 cases hc4:bI b.cJ 1 100000
 .simp[ja,dK.shape,hc1,hc2,hT,hc3,dY,hc4]
 cases hc5:bI b.lift 0 1000
 .simp[ja,dK.shape,hc1,hc2,hT,hc3,dY,hc4,hc5]
 cases hc6:bI b.deep 0 3000
 .simp[ja,dK.shape,hc1,hc2,hT,hc3,dY,hc4,hc5,hc6]
 by_cases hc7:8<b.ar.length
 .simp[ja,dK.shape,hc1,hc2,hT,hc3,dY,hc4,hc5,hc6,show ¬b.ar.length<=8 by omega,show(8:Int)<b.ar.length by omega]
 obtain⟨g1,g2,g3,g4,g5⟩:=dK.mP.1 hc1;obtain⟨_,g6⟩:=dK.sz g1 g2 g3;have hsz:=λJ=>TN (J:=J) (b:=b) g1 g2 g3
 have hs:b.size=((b.n:Nat):Int):=by unfold b9.n b9.size dK.size;omega
 have hn:b.n<=512:=by unfold b9.n b9.size dK.size;omega
 have hnil:(fM (List.range b.n) λ_=>[D.bool false])=fM (List.replicate b.n false) tc:=by
  have:∀n,(fM (List.range n) λ_=>[D.bool false])=fM (List.replicate n false) tc:=by
   intro n;induction n with
   |zero=>rfl
   |succ n ih=>rw[List.range_succ,ln,ih,List.replicate_succ'];simp[tc]
  exact this _
 obtain⟨s,hall⟩:=Sl (J:=J) (n:=b.n) (ar:=b.ar) hn h2;rw[<- hs]at hall;have hroom:(b.n:Int)<=70368744177664:=by omega
 rw[hs]at hsz;simp[ja,dK.shape,hc1,hc2,hT,hc3,dY,hc4,hc5,hc6,show ¬(8:Int)<b.ar.length by omega,show b.ar.length<=8 by omega,hsz,room,hroom,hnil,hall,hc2']
theorem Y5{l:List Int}{i n:Nat}:((fM l aQ).drop i).take n=fM ((l.drop i).take n) aQ:=by
 simp only[show aQ=λn=>[iI n]from rfl,QB,<- List.map_drop,<- List.map_take]
theorem gi{l:List Int}{j:Nat}{x:Int}(h:l[j]?=some x):((fM l aQ).drop j).take 1=[iI x]:=by
 have:=bx (f:=aQ) (w:=1) h;simpa using this
theorem DJ(l:List Rw):D.bh (fM l Rw.enc)=true:=fD (λx=>by simp) l
theorem yq(l:List bN):D.bh (fM l bN.enc)=true:=fD (λx=>by simp) l
theorem lO(l:List Int):D.bh (fM l aQ)=true:=fD (λx=>by simp) l
theorem ID(l:List aD.aF):D.bh (fM l aF.enc)=true:=fD (λx=>by simp) l
structure Bv(b:b9):Prop where
 x:1<=b.f.x/\b.f.x<=8
 y:1<=b.f.y/\b.f.y<=8
 z:1<=b.f.z/\b.f.z<=8
 k:4<=b.f.k/\b.f.k<=6
 sz:b.f.size=((b.n:Nat):Int)
 n:1<=b.n/\b.n<=64
 dX:fP b.dX=true
 cJ:1<=b.cJ/\b.cJ<=100000
 lift:0<=b.lift/\b.lift<=1000
 deep:0<=b.deep/\b.deep<=3000
 ar:b.ar.length<=8
 ok:nE b.size [] b.ar=true
theorem Bv.of{b:b9}(h:b.valid=true):Bv b:=by
 simp only[b9.valid,b9.ok1,af,au]at h;obtain⟨⟨h1,h2,h3,h4,h5,h6,h7⟩,h8⟩:=h;obtain⟨g1,g2,g3,g4,g5⟩:=dK.mP.1 h1;obtain⟨_,g6⟩:=dK.sz g1 g2 g3;refine⟨g1,g2,g3,⟨h2,g5.2⟩,?_,?_,h3,aS.1 h4,aS.1 h5,aS.1 h6,h7,h8⟩
 .unfold b9.n b9.size dK.size;omega
 .unfold b9.n b9.size;unfold dK.size at g4 ⊢;omega
theorem Bv.fv{b:b9}(h:Bv b):b.f.valid=true:=dK.mP.2 ⟨h.x,h.y,h.z,by have:=h.sz;have:=h.n;omega,by have:=h.k;omega⟩
structure Mv(b:b9)(m:ck):Prop where
 bv:Bv b
 len:(m.dG.length:Int)=b.f.k*b.f.size
theorem Mv.le{b:b9}{m:ck}(h:Mv b m):4*b.n<=m.dG.length/\m.dG.length<=384:=by
 have h1:=h.bv.k;have h2:=h.bv.sz;have h3:=h.bv.n;have h4:=h.len;have h5:=(dZ h1.1 (by omega:(0:Int)<=b.f.size));have h6:=UN (a:=b.f.k) (b:=b.f.size) (A:=6) (B:=64) (by omega) h1.2 (by omega) (by omega);omega
theorem B0{b:b9}(h:Bv b):Cl 284 [.agg (bL b)] (iI b.n) J:=by
 have:=TN (J:=J) (b:=b) h.x h.y h.z;rw[show b.size=((b.n:Nat):Int)from h.sz]at this;exact this
theorem KG{b:b9}{m:ck}(h:Mv b m){k:Nat}(hk:k<4):Cl 327 [.agg (bM b m),iI k] (.bZ b.n (fM (wR b m k) aQ)) J:=by
 refine an ?_;obtain⟨h1,h2⟩:=h.le;have h3:=h.bv.n;have hs:=λJ=>B0 (J:=J) h.bv
 have e1:(k:Int)*(b.n:Int)=((k*b.n:Nat):Int):=by push_cast;rfl
 have e2:((k:Int)+1)*(b.n:Int)=(((k+1)*b.n:Nat):Int):=by push_cast;rfl
 have b1:(k+1)*b.n<=m.dG.length:=jc (dk _ (by omega:k+1<=4)) h1;have b2:(k+1)*b.n=k*b.n+b.n:=eM _ _;have w1:=bV (n:=(k:Int)*b.n) (by rw[e1];omega);have w2:=bV (n:=(k:Int)+1);have w3:=bV (n:=((k:Int)+1)*b.n) (by rw[e2];omega);have e3:(k+1)*b.n-k*b.n=b.n:=by omega
 have hsub:=Y5 (l:=m.dG) (i:=k*b.n) (n:=b.n);have hle:(k:Int)*b.n<=((k:Int)+1)*b.n:=by rw[e1,e2];omega
 simp[hs,w1,w2,w3];rw[e1,e2];have⟨c1,c2,c3,c4⟩:(0:Int)<=((k*b.n:Nat):Int)/\((k*b.n:Nat):Int)<=(((k+1)*b.n:Nat):Int)/\(((k+1)*b.n:Nat):Int)<=(m.dG.length:Int)/\(0:Int)<=(((k+1)*b.n:Nat):Int):=by omega
 simp only[c1,c3,c4,and_self,if_true,Int.toNat_natCast,Option.bind_some];simp[wR,hle,e3,hsub,lO]
theorem Ns{b:b9}{m:ck}(h:Mv b m){k:Nat}(hk:k<4):(wR b m k).length=b.n:=by
 obtain⟨h1,h2⟩:=h.le;have b1:(k+1)*b.n<=m.dG.length:=jc (dk _ (by omega:k+1<=4)) h1;have b2:(k+1)*b.n=k*b.n+b.n:=eM _ _;simp[wR];omega
theorem zM{b:b9}{m:ck}(h:Mv b m){k i:Nat}(hk:k<4)(hi:i<b.n):(wR b m k)[i]?=some (jx b m k i):=by
 obtain⟨h1,h2⟩:=h.le;have b1:(k+1)*b.n<=m.dG.length:=jc (dk _ (by omega:k+1<=4)) h1;have b2:(k+1)*b.n=k*b.n+b.n:=eM _ _;have h3:k*b.n+i<m.dG.length:=by omega
 simp only[wR,jx,dw,dN,if_pos hi,aE h3,fm]
theorem Xu{b:b9}{m:ck}(h:Mv b m){i:Nat}(hi:i<b.n):Cl 288 [.agg (bM b m),iI i] (iI (hold b m i)) J:=by
 refine an ?_;have hk:=λJ=>KG (J:=J) h (k:=0) (by omega)
 have ha:=gi (zM h (k:=0) (by omega) hi);simp only[Int.ofNat_zero]at hk;simp[hk,hi,ha,hold]
theorem XB{b:b9}{m:ck}(h:Mv b m){i:Nat}(hi:i<b.n):Cl 360 [.agg (bM b m),iI i] (iI (Ak b m i)) J:=by
 refine an ?_;have hk:=λJ=>KG (J:=J) h (k:=1) (by omega)
 have ha:=gi (zM h (k:=1) (by omega) hi);simp at hk;simp[hk,hi,ha,Ak]
theorem aeH{b:b9}{m:ck}(h:Mv b m){i:Nat}(hi:i<b.n):Cl 289 [.agg (bM b m),iI i] (iI (Im b m i)) J:=by
 refine an ?_;have hk:=λJ=>KG (J:=J) h (k:=2) (by omega)
 have ha:=gi (zM h (k:=2) (by omega) hi);simp at hk;simp[hk,hi,ha,Im]
theorem aeo{b:b9}{m:ck}(h:Mv b m){i:Nat}(hi:i<b.n):Cl 361 [.agg (bM b m),iI i] (iI (feed b m i)) J:=by
 refine an ?_;have hk:=λJ=>KG (J:=J) h (k:=3) (by omega)
 have ha:=gi (zM h (k:=3) (by omega) hi);simp at hk;simp[hk,hi,ha,feed]
theorem aaO{lo hi n:Int}:Cl 328 [iI n,.ref J.length 0 0 0] (.bool (bI n lo hi)) ([]::[]::[]::[]::[.cells 0 [iI lo,iI hi]]::J):=by
 refine an ?_;simp[dY]
theorem Vz{b:b9}{m:ck}(h:Mv b m){k:Nat}(hk:k<4){lo hi:Int}:Cl 326 [.bZ b.n (fM (wR b m k) aQ),.fn 328 [] [.ref J.length 0 0 0]] (.bool (dz (wR b m k) λn=>bI n lo hi)) ([.cells 0 [iI lo,iI hi]]::J):=by
 have hl:=Ns h hk;have hn:=h.bv.n;have:=abE (Ov .i64) (T:=T) (f:=326) (g:=357) (h:=226) (i:=273) (l:=wR b m k) (p:=λn=>bI n lo hi) (fv:=.fn 328 [] [.ref J.length 0 0 0]) (J:=[.cells 0 [iI lo,iI hi]]::J)
  rfl rfl rfl rfl (by omega) rfl rfl rfl (λx _=>by
   rw[oI];have:=aaO (J:=J) (lo:=lo) (hi:=hi) (n:=x);show R.dG (di T (.call false 328 [iI x,.ref J.length 0 0 0] _))=_
   rw[this];rfl)
 rw[hl]at this;exact this
def O3:Nat->Int×Int
 |0=>(1000,100000)
 |1=>(0,1000)
 |2=>(0,3000)
 |_=>(0,1000)
def Cv(b:b9)(m:ck)(i:Nat):Nat->Bool
 |0=>true
 |n+1=>dz (wR b m i) (λx=>bI x (O3 i).1 (O3 i).2) && Cv b m (i+1) n
theorem X9{b:b9}{m:ck}(h:Mv b m):∀(n i:Nat),i+n=4 ->
  WL T [1,17,18] true iy [(1,.bq (bM b m)),(17,.agg [iI 1000,iI 100000,iI 0,iI 1000,iI 0,iI 3000,iI 0,iI 1000]),(18,iI i)] J
   (λx e J'=>J'=J/\if Cv b m i n=true then x=.exit 0 else x=.ret/\get e 2=.bool false)
 |0,i,hi=>by
  refine G5 iy.eq_1 ?_;obtain rfl:i=4:=by omega
  simp[Cv,DJ,yq,lO]
 |n+1,i,hi=>by
  refine G5 iy.eq_1 ?_;have hk:i<4:=by omega
  have hK:=λJ=>KG (J:=J) h hk
  have ih:=X9 h n (i+1) (by omega);have hA:=Vz (J:=J) h hk (lo:=(O3 i).1) (hi:=(O3 i).2);simp only[Cv];rcases Bool.eq_false_or_eq_true (dz (wR b m i) (λx=>bI x (O3 i).1 (O3 i).2))with hc | hc
  .rw[hc]at hA;obtain rfl | rfl | rfl | rfl:i=0\/i=1\/i=2\/i=3:=by omega
   all_goals
    simp only[O3]at hA hc ⊢
    try simp at hK
    simp[hK,hA,hc,DJ,yq,lO];exact WL.to ih (by simp[]) (by simp[]) λx e J' hh=>by simpa[hc]using hh
  .rw[hc]at hA;obtain rfl | rfl | rfl | rfl:i=0\/i=1\/i=2\/i=3:=by omega
   all_goals
    simp only[O3]at hA hc ⊢
    try simp at hK
    simp[hK,hA,hc]
theorem Mv.of{b:b9}{m:ck}(h:Bv b)(hc:fX b.f [m]=0):Mv b m:=by
 refine⟨h,?_⟩;simp only[fX,h.fv,if_true,dK.ai]at hc;have h1:bI (([m]:List ck).length:Nat) 1 40=true:=by simp[bI]
 rw[if_pos h1]at hc;simp only[dK.each]at hc;split at hc
 .rename_i hm;unfold dK.model at hm;split at hm
  .split at hm
   .rename_i hh;exact hh.1
   .cases hm
  .cases hm
 .rename_i hm;exact absurd hc hm
theorem Sc{b:b9}{m:ck}(h:Bv b)(hn:m.name.length<=1000000000)(hl:m.dG.length<=1000000000):Cl 287 [.agg (bM b m)] (.bool (fits b m)) J:=by
 refine an ?_;have hC:=λJ=>FQ (J:=J) (f:=b.f) (l:=[m]) (by simpa using⟨hn,hl⟩) (by simp)
 simp at hC;by_cases hc:fX b.f [m]=0
 .have hm:=Mv.of h hc;simp[hC,hc];refine WL.tg (X9 (J:=[]::J) hm 4 0 (by omega)) ?_;rintro x e J' ⟨rfl,hh⟩;have he:Cv b m 0 4=fits b m:=by
   simp[Cv,fits,hc,O3]
  rw[he]at hh;cases hf:fits b m
  .rw[hf]at hh;simp at hh;simp[hh]
  .rw[hf]at hh;simp at hh;subst hh;simp
 .simp[hC,hc,fits]
theorem ac9{b:b9}{m:ck}(h1:b.dX.length<=1000000000)(h2:b.ar.length<=1000000000)(hn:m.name.length<=1000000000)(hl:m.dG.length<=1000000000)(hb:Bd b m=true):
  Cl 235 [.agg (bL b),.agg (mL m)] (.cS [.agg (bM b m),iI 0]) J:=by
 refine an ?_;simp only[Bd,af]at hb;have hf:=λJ=>Sc (J:=J) (Bv.of hb.1) hn hl
 simp[D9 h1 h2,hb.1,hf,hb.2,DJ,yq,lO]
theorem TK{b:b9}{m:ck}(h1:b.dX.length<=1000000000)(h2:b.ar.length<=1000000000)(hn:m.name.length<=1000000000)(hl:m.dG.length<=1000000000)(hb:Bd b m=false):∃d,
  Cl 235 [.agg (bL b),.agg (mL m)] (.cS [.agg d,iI 1]) J/\d.length=11/\D.bh d=true:=by
 refine⟨[(iI 0),(iI 0),(iI 0),(iI 0),.bB,(iI 0),(iI 0),(iI 0),.bB,(.str []),.bB],?_,rfl,by simp⟩;refine an ?_;cases hc:b.valid
 .simp[D9 h1 h2,hc]
 .have hf:=λJ=>Sc (J:=J) (Bv.of hc) hn hl
  have hb':fits b m=false:=by simpa[Bd,hc]using hb
  simp[D9 h1 h2,hc,hf,hb']
theorem aaZ{n:Int}:Cl 331 [iI n] (.bool (bI n (-100000) 100000)) J:=by
 refine an ?_;simp[dY]
theorem VF{l:List Int}{p:Int->Bool}{fv:D}(hl:l.length<=1000000000)(ht:om T fv (λn=>iI n) p l)(hc:fv.cells=some [fv]):
  Cl 326 [lF l aQ,fv] (.bool (dz l p)) J :=
 CW (Ov .i64) (f:=326) (g:=357) (h:=226) (i:=273) (l:=l) (p:=p) (fv:=fv) rfl rfl rfl rfl (by omega) ht hc
theorem aa0{b:b9}{l:List Int}(hl:l.length<=1000000000):Cl 302 [.agg (bL b),lF l aQ] (iI (pf b l)) J:=by
 refine an ?_;have ha:=λJ=>VF (J:=J) (l:=l) (p:=λn=>bI n (-100000) 100000) (fv:=.fn 331 [] []) hl (om.fn λx _ J=>aaZ) rfl
 try simp only[lF,Cl]at ha
 unfold pf;by_cases hc1:l.length=b.ar.length
 .rw[<- hc1];cases hc2:dz l (λn=>bI n (-100000) 100000)<;>simp[hc1,hc2,hc1 ▸ ha]
 .simp[hc1,show ¬(l.length:Int)=b.ar.length by omega]
def J3(l:List Int):List D:=[lF l aQ]
theorem Yb{b:b9}{av:List (List Int)}(hl:av.length<=1000000000)(hs:∀l∈av,l.length<=1000000000):∀(m i:Nat),i+m=av.length ->
  WL T [2,11,12,13] false pS [(2,.bq (bL b)),(11,lF av J3),(12,iI av.length),(13,iI i)] J
   (λx e J'=>J'=J/\if b8 (pf b) (av.drop i)=0 then x=.exit 0 else x=.ret/\get e 4=iI (b8 (pf b) (av.drop i)))
 |0,i,hi=>by
  refine aK ?_;have h1:¬i<av.length:=by omega
  have h2:av.drop i=[]:=ec;simp[h1,h2,b8]
 |m+1,i,hi=>by
  refine aK ?_;have h1:i<av.length:=by omega
  obtain⟨l,hx⟩:=gE h1;have h2:=bx (f:=J3) (w:=1) hx;simp only[J3,bR]at h2;have h4:=cj h1;have h5:=bj hx;have hC:=λJ=>aa0 (J:=J) (b:=b) (l:=l) (hs l (ah hx))
  rw[h5,b8];have ih:=Yb (b:=b) hl hs m (i+1) (by omega);by_cases hc:pf b l=0
  .simp[h1,h2,h4,hC,hc];exact WL.to ih (by simp[]) rfl λx e J' hh=>by simpa[hc]using hh
  .simp[h1,h2,hC,hc]
theorem XE{b:b9}{av:List (List Int)}(hl:av.length<=1000000000)(hs:∀l∈av,l.length<=1000000000):
  Cl 250 [.agg (bL b),lF av J3] (iI (sM b av)) J:=by
 refine an ?_;unfold sM;by_cases hc:200<av.length
 .simp[hc,show(200:Int)<av.length by omega]
 .simp[hc,show ¬(200:Int)<av.length by omega];refine WL.tg (Yb (J:=[]::J) (b:=b) hl hs av.length 0 (by omega)) ?_;rintro x e J' ⟨rfl,h⟩;simp only[az]at h;by_cases hc2:b8 (pf b) av=0
  .rw[if_pos hc2]at h;subst h;simp[hc2,show av.length<=200 by omega]
  .rw[if_neg hc2]at h;obtain⟨rfl,h⟩:=h;simp[h,show ¬200<av.length by omega]
structure Fv(b:b9)(m:ck):Prop extends Mv b m where
 hold:∀i,i<b.n->1000<=aD.hold b m i/\aD.hold b m i<=100000
 Ak:∀i,i<b.n->0<=aD.Ak b m i/\aD.Ak b m i<=1000
 Im:∀i,i<b.n->0<=aD.Im b m i/\aD.Im b m i<=3000
 feed:∀i,i<b.n->0<=aD.feed b m i/\aD.feed b m i<=1000
theorem Fv.of{b:b9}{m:ck}(h:Bd b m=true):Fv b m:=by
 simp only[Bd,fits,af,au]at h;obtain⟨h1,h2,h3,h4,h5,h6⟩:=h;have hm:=Mv.of (Bv.of h1) h2;have key:∀{k:Nat} {lo hi:Int},k<4->dz (wR b m k) (λn=>bI n lo hi)=true->∀i,i<b.n->lo<=jx b m k i/\jx b m k i<=hi:=by
  intro k lo hi hk ha i hi';exact aS.1 (ff.1 ha _ (ah (zM hm hk hi')))
 exact⟨hm,key (by omega) h3,key (by omega) h4,key (by omega) h5,key (by omega) h6⟩
theorem xa{b:b9}(h:Bv b){i:Nat}(hi:i<b.n):0<=weight b i/\weight b i<=64000:=by
 have hl:=h.lift;have hn:=h.n;have hle:i / (b.f.x.toNat*b.f.y.toNat)<=i:=Nat.div_le_self _ _;have hq:=Int.natCast_nonneg (i / (b.f.x.toNat*b.f.y.toNat));have hle2:((i / (b.f.x.toNat*b.f.y.toNat):Nat):Int)<=64:=by
  have:i / (b.f.x.toNat*b.f.y.toNat)<=64:=by omega
  exact Int.ofNat_le.2 this
 unfold weight;exact iE (A:=64) (B:=1000) hq hle2 hl.1 hl.2
theorem KL{b:b9}{m:ck}(h:Bv b){i:Nat}(hi:i<b.n):Cl 343 [.agg (bM b m),iI i] (iI (weight b i)) J:=by
 refine an ?_;have hx:=h.x;have hy:=h.y;have hn:=h.n;obtain⟨s1,_⟩:=dK.sz h.x h.y h.z;have w1:=bV (n:=b.f.x*b.f.y);have e1:b.f.x*b.f.y=((b.f.x.toNat*b.f.y.toNat:Nat):Int):=by push_cast;rw[dW (by omega),dW (by omega)]
 have e2:(i:Int) / (b.f.x*b.f.y)=((i / (b.f.x.toNat*b.f.y.toNat):Nat):Int):=by
  rw[e1];rfl
 have hle:i / (b.f.x.toNat*b.f.y.toNat)<=i:=Nat.div_le_self _ _;have hw:=xa h hi;have hq:(0:Int)<=(i:Int) / (b.f.x*b.f.y):=by rw[e2];exact Int.natCast_nonneg _
 have hq2:(i:Int) / (b.f.x*b.f.y)<=64:=by
  rw[e2];have:i / (b.f.x.toNat*b.f.y.toNat)<=64:=by omega
  exact Int.ofNat_le.2 this
 have w2:=bV (n:=(i:Int) / (b.f.x*b.f.y));have w3:=bV (n:=weight b i);have⟨hne,hnx,hny⟩:¬b.f.x*b.f.y=0/\¬b.f.x=0/\¬b.f.y=0:=by omega
 have e3:(i:Int) / (b.f.x*b.f.y)*b.lift=weight b i:=by rw[e2];rfl
 simp[w1,w2,hne,e3,w3]
theorem aem{n d:Int}(hn : -200000000000<=n/\n<=200000000000)(hd:1<=d/\d<=100000):Cl 344 [iI n,iI d] (iI (down n d)) J:=by
 refine an ?_;have h1:=Int.mul_tdiv_add_tmod n d;have h2:=Int.tmod_lt_of_pos n (show 0<d by omega);have h3:=Int.lt_tmod_of_pos n (show 0<d by omega);unfold down;generalize hq:n.tdiv d=q at *
 generalize n.tmod d=r at *
 have h4:d*q=q*d:=Int.mul_comm _ _;have hb : -200000100001<=q/\q<=200000100001:=by
  rcases fk 0 q with h | h
  .have:=Int.mul_le_mul_of_nonneg_left hd.1 h;omega
  .have:=Int.mul_le_mul_of_nonpos_left h hd.1;omega
 have w1:=bV (n:=q);have w2:=bV (n:=q*d);have w3:=bV (n:=q-1);have hne:¬d=0:=by omega
 have key:n / d=if n<q*d then q-1 else q:=by
  split
  .rename_i hc;refine((Int.ediv_emod_unique (r:=r+d) (show 0<d by omega)).2 ⟨?_,?_,?_⟩).1
   .rw[Int.mul_sub];omega
   .omega
   .omega
  .rename_i hc;refine((Int.ediv_emod_unique (r:=r) (show 0<d by omega)).2 ⟨?_,?_,?_⟩).1<;>omega
 rw[key];by_cases hc:n<q*d<;>simp[hq,w1,w2,w3,hne,hc]
theorem kb{α:Type}{f:α->List D}{w n:Nat}(hn:1<n)(hw:∀x,(f x).length=w)(hc:∀x,D.bh (f x)=true){l:List α}{j v:Nat}{bs:List aw.aF}(hJ:J≠[])(hj:bs[j]?=some (.cells v (fM l f))):
  cK (J.length-1) n (.sl J.length j v 0 l.length w) (bs::J)=(lF l f,bs.set j .dead::J):=by
 have h3:¬J.length<=J.length-1:=by have:=aG.2 hJ;omega
 rw[GI h3 (cs:=fM l f) (by simp[hj]) (by omega)];have h4:0<n-1:=by omega
 simp[OG hw l,fD hc l,h4]
theorem nQ{b:b9}{m:ck}:(cf b m).length=b.n:=by simp[cf]
theorem sZ(l:List aD.aF):(fM l aF.enc).length=l.length*3:=dF (f:=aF.enc) (w:=3) l
theorem T3{b:b9}{m:ck}(h:Fv b m):∀(n i v:Nat),i+n=b.n ->
  WL T [1,2,6,7] false nf [(1,.bq (bM b m)),(2,.sl J.length 0 v 0 i 3),(6,iI b.n),(7,iI i)] ([.cells v (fM ((cf b m).take i) aF.enc)]::J)
   (λx e J'=>x=.exit 0/\get e 2=.sl J.length 0 (v+n) 0 (cf b m).length 3/\J'=[.cells (v+n) (fM (cf b m) aF.enc)]::J)
 |0,i,v,hi=>by
  refine aK ?_;obtain rfl:i=b.n:=by omega
  have h3:(cf b m).take b.n=cf b m:=aW (by simp[nQ]);simp[h3,nQ]
 |n+1,i,v,hi=>by
  refine aK ?_;have h1:i<b.n:=by omega
  have hn:=h.bv.n;have h4:=cj h1;have ho:=λJ=>Xu (J:=J) h.toMv h1
  have hw:=λJ=>aeH (J:=J) h.toMv h1
  have b1:=h.hold i h1;have b2:=h.Im i h1;have b3:=iE (by omega:0<=hold b m i) b1.2 b2.1 b2.2;have w1:=bV (n:=hold b m i*Im b m i);have ih:=T3 h n (i+1) (v+1) (by omega);have hx:(cf b m)[i]?=some ⟨hold b m i,hold b m i*Im b m i,0⟩:=by simp[cf,h1]
  have a3:=Cw (f:=aF.enc) hx;have a4:=sZ ((cf b m).take i);rw[dp,nQ,Nat.min_eq_left (by omega)]at a4;have a6:(fM ((cf b m).take i) aF.enc).take (i*3)=fM ((cf b m).take i) aF.enc:=cZ;have h7:(i+1)*24<=room:=by unfold room;omega
  simp[h1,h4,ho,hw,w1,a4,a6,h7];refine WL.to ih (by simp[]) (by simp[<- a3]) λx e J hh=>by simpa[dO,Nat.add_comm 1 n]using hh
theorem It{b:b9}{m:ck}(h:Fv b m)(hJ:J≠[]):Cl 236 [.agg (bM b m)] (stE (cf b m)) J:=by
 refine an ?_;have hs:=λJ=>B0 (J:=J) h.bv
 simp[hs];refine WL.ts (T3 (J:=J) h b.n 0 0 (by omega)) ?_;rintro x e J' ⟨rfl,g2,rfl⟩;simp[g2];rw[kb (f:=aF.enc) (by decide) (λ_=>rfl) (λx=>by simp) hJ (by simp)];simp[stE]
theorem aF.OO{x:aD.aF}:x.valid=true↔(1<=x.m/\x.m<=1000000)/\(0<=x.h/\x.h<=10000000000)/\(0<=x.k/\x.k<=1000000000000):=by
 simp[aD.aF.valid,bI]
structure Sv(b:b9)(s:List aD.aF):Prop where
 len:s.length=b.n
 ok:∀x∈s,x.valid=true
theorem Sv.of{b:b9}{s:List aD.aF}(h:Bv b):pH b s=true↔Sv b s:=by
 have hs:=h.sz;have hn:=h.n;unfold pH;simp only[af,au];constructor
 .rintro⟨h1,h2⟩;exact⟨by unfold b9.size at h1;omega,ff.1 h2⟩
 .rintro⟨h1,h2⟩;exact⟨by unfold b9.size;omega,ff.2 h2⟩
theorem Sv.at{b:b9}{s:List aD.aF}(h:Sv b s){i:Nat}(hi:i<b.n):s[i]?=some (aR s i)/\(1<=(aR s i).m/\(aR s i).m<=1000000)/\(0<=(aR s i).h/\(aR s i).h<=10000000000)/\(0<=(aR s i).k/\(aR s i).k<=1000000000000):=by
 have h1:i<s.length:=by have:=h.len;omega
 have h2:s[i]?=some (aR s i):=by simp[aR,h1]
 exact⟨h2,aF.OO.1 (h.ok _ (ah h2))⟩
theorem Sv.first{b:b9}{m:ck}(h:Fv b m):Sv b (cf b m):=by
 refine⟨nQ,λx hx=>?_⟩;simp only[cf,bO,List.mem_range]at hx;obtain⟨i,hi,rfl⟩:=hx;have b1:=h.hold i hi;have b2:=h.Im i hi;have b3:=iE (by omega:0<=hold b m i) b1.2 b2.1 b2.2;exact aF.OO.2 ⟨⟨by simp only;omega,by simp only;omega⟩,⟨b3.1,by simp only;omega⟩,by simp⟩
theorem Te{r:Rw}(h:r.alone=true):(1<=r.p/\r.p<=10000)/\(0<=r.l/\r.l<=4000):=by
 simp only[Rw.alone,af]at h;exact⟨aS.1 h.2.1,aS.1 h.2.2.1⟩
theorem T6{s:List aD.aF}{i:Nat}{x:aD.aF}{t:List Rw}(hx:s[i]?=some x)(hm:0<=x.m/\x.m<=1000000)(ht:∀r∈t,r.alone=true)(hl:t.length<=1000):∀(n j:Nat) (o:Int),j+n=t.length ->
  WL T [1,2,7,34,35,36] false lf [(1,lF s aF.enc),(2,iI i),(7,iI o),(34,lF t Rw.enc),(35,iI t.length),(36,iI j)] J
   (λx' e J'=>J'=J/\x'=.exit 0/\get e 7=iI ((t.drop j).foldl (gR x) o))
 |0,j,o,hj=>by
  refine aK ?_;have h1:¬j<t.length:=by omega
  have h2:t.drop j=[]:=ec;simp[h1,h2]
 |n+1,j,o,hj=>by
  refine aK ?_;have h1:j<t.length:=by omega
  obtain⟨r,hr⟩:=gE h1;have hrb:=Te (ht r (ah hr));have h2:=bx (f:=Rw.enc) (w:=5) hr;have h3:=bx (f:=aF.enc) (w:=3) hx;have h4:=cj h1;have h5:=bj hr;have hi:i<s.length:=(aA.1 hx).1;have b1:=iE hrb.2.1 hrb.2.2 hm.1 hm.2;have w1:=bV (n:=r.l*x.m);have ih:=T6 hx hm ht hl n (j+1) (gR x o r) (by omega);rw[h5];simp only[List.foldl_cons];by_cases hc:r.l*x.m<=x.h
  .have hm2:(if o<r.p then r.p else o)=gR x o r:=by unfold gR;rw[if_pos hc];omega
   simp[h1,h2,h3,h4,hi,w1,hc];refine WL.to ih (by simp[gR,hc]) rfl λx e J hh=>hh
  .simp[h1,h2,h3,h4,hi,w1,hc];refine WL.to ih (by simp[gR,hc]) rfl λx e J hh=>hh
theorem KI{b:b9}{m:ck}{s:List aD.aF}(h:Fv b m)(hs:Sv b s){i:Nat}(hi:i<b.n):
  Cl 307 [.agg (bM b m),lF s aF.enc,iI i] (iI (dE b m s i)) J:=by
 refine an ?_;have hw:=λJ=>KL (J:=J) (m:=m) h.bv hi
 have ho:=λJ=>Xu (J:=J) h.toMv hi
 have b1:=h.hold i hi;obtain⟨hx,b2,b3,b4⟩:=hs.at hi;have hil:i<s.length:=by have:=hs.len;omega
 have hst:=h.bv.cJ;have b5:=xa h.bv hi;have b6 : -100000000000<=b.cJ*((aR s i).m-hold b m i)/\b.cJ*((aR s i).m-hold b m i)<=100000000000:=by
  rcases fk (hold b m i) (aR s i).m with hh | hh
  .have:=iE (a:=b.cJ) (b:=(aR s i).m-hold b m i) (A:=100000) (B:=1000000) (by omega) hst.2 (by omega) (by omega);omega
  .have:=iE (a:=b.cJ) (b:=hold b m i-(aR s i).m) (A:=100000) (B:=1000000) (by omega) hst.2 (by omega) (by omega);have e:b.cJ*((aR s i).m-hold b m i) = - (b.cJ*(hold b m i-(aR s i).m)):=by rw[<- Int.mul_neg];congr 1;omega
   omega
 have hd:=λJ=>aem (J:=J) (n:=b.cJ*((aR s i).m-hold b m i)) (d:=hold b m i) (by omega) (by omega)
 have b7 : -100000000000<=down (b.cJ*((aR s i).m-hold b m i)) (hold b m i)/\down (b.cJ*((aR s i).m-hold b m i)) (hold b m i)<=100000000000:=by
  unfold down;constructor
  .rw[Int.le_ediv_iff_mul_le (by omega)];omega
  .have:=Int.ediv_le_self (b:=hold b m i) (a:=b.cJ*((aR s i).m-hold b m i));rcases fk 0 (b.cJ*((aR s i).m-hold b m i))with hh | hh
   .have:=this hh;omega
   .have:=Int.ediv_le_of_le_mul (b:=0) (show 0<hold b m i by omega) (by omega:b.cJ*((aR s i).m-hold b m i)<=0*hold b m i);omega
 have w1:=bV (n:=(aR s i).m-hold b m i);have w2:=bV (n:=b.cJ*((aR s i).m-hold b m i));have w3:=bV (n:=weight b i+down (b.cJ*((aR s i).m-hold b m i)) (hold b m i));have h3:=bx (f:=aF.enc) (w:=3) hx;have htab:=h.bv.dX;simp only[fP,af]at htab;have ht:=aS.1 htab.1;simp[hw,ho,hil,h3,w1,w2,hd,w3];refine WL.to (T6 (J:=[]::J) hx ⟨by omega,by omega⟩ (ff.1 htab.2.1) (by omega) b.dX.length 0 (max 0 (weight b i+down (b.cJ*((aR s i).m-hold b m i)) (hold b m i))) (by omega)) (by simp) rfl ?_;rintro x e J' ⟨rfl,rfl,g⟩;simp[g,dE]
theorem OT{b:b9}{m:ck}{s:List aD.aF}:(bf b m s).length=s.length:=by simp[bf]
theorem UG(l:List Int):(fM l aQ).length=l.length:=by
 have:=dF (f:=aQ) (w:=1) l;omega
theorem Jr{b:b9}{m:ck}{s:List aD.aF}(h:Fv b m)(hs:Sv b s):∀(n i v:Nat),i+n=s.length ->
  WL T [1,2,4,7,8] false kg [(1,lF s aF.enc),(2,.bq (bM b m)),(4,.sl J.length 0 v 0 i 1),(7,iI s.length),(8,iI i)] ([.cells v (fM ((bf b m s).take i) aQ)]::J)
   (λx e J'=>x=.exit 0/\get e 4=.sl J.length 0 (v+n) 0 (bf b m s).length 1/\J'=[.cells (v+n) (fM (bf b m s) aQ)]::J)
 |0,i,v,hi=>by
  refine aK ?_;have h1:¬i<s.length:=by omega
  have h3:(bf b m s).take i=bf b m s:=aW (by rw[OT];omega);simp[h1,h3,OT];omega
 |n+1,i,v,hi=>by
  refine aK ?_;have h1:i<s.length:=by omega
  have hn:=h.bv.n;have hl:=hs.len;have h4:=cj h1;have hp:=λJ=>KI (J:=J) h hs (i:=i) (by omega)
  have ih:=Jr h hs n (i+1) (v+1) (by omega);have hx:(bf b m s)[i]?=some (dE b m s i):=by simp[bf,h1]
  have a3:=Cw (f:=aQ) hx;have a4:=UG ((bf b m s).take i);rw[dp,OT,Nat.min_eq_left (by omega)]at a4;have a6:(fM ((bf b m s).take i) aQ).take i=fM ((bf b m s).take i) aQ:=cZ;have h7:(i+1)*8<=room:=by unfold room;omega
  simp[h1,h4,hp,a4,a6,h7];refine WL.to ih (by simp[]) (by simp[<- a3]) λx e J hh=>by simpa[dO,Nat.add_comm 1 n]using hh
theorem PN{b:b9}{m:ck}{s:List aD.aF}(h:Fv b m)(hs:Sv b s)(hJ:J≠[]):Cl 358 [.agg (bM b m),lF s aF.enc] (lF (bf b m s) aQ) J:=by
 refine an ?_;simp[];refine WL.ts (Jr (J:=J) h hs s.length 0 0 (by omega)) ?_;rintro x e J' ⟨rfl,g4,rfl⟩;simp[g4];rw[kb (f:=aQ) (by decide) (λ_=>rfl) (λx=>by simp) hJ (by simp)];simp
theorem Sa{x:aD.aF}:Cl 363 [.agg x.enc] (.bool x.valid) J:=by
 refine an ?_;cases hc1:bI x.m 1 1000000
 .simp[dY,aD.aF.valid,hc1]
 cases hc2:bI x.h 0 10000000000
 .simp[dY,aD.aF.valid,hc1,hc2]
 cases hc3:bI x.k 0 1000000000000
 .simp[dY,aD.aF.valid,hc1,hc2,hc3]
 simp[dY,aD.aF.valid,hc1,hc2,hc3]
theorem JQ{x q m A:Int}(hm:1<=m)(hx:0<=x/\x<=A)(hq:0<=q/\q<=m):0<=(x*q).tdiv m/\(x*q).tdiv m<=A:=by
 have h1:=bF hx.1 hq.1;rw[aN h1];refine⟨Int.ediv_nonneg h1 (by omega),Int.ediv_le_of_le_mul (by omega) ?_⟩;exact cA hx.2 hq.2 hq.1 (by omega)
theorem XC{x:aD.aF}{q:Int}(hm:1<=x.m/\x.m<=1000000)(hh:0<=x.h/\x.h<=10000000000)(hk:0<=x.k/\x.k<=1000000000000)(hq:0<=q/\q<=x.m):
  Cl 336 [.agg x.enc,iI q] (.agg (x.out q).enc) J:=by
 refine an ?_;have b1:=iE hh.1 hh.2 hq.1 (show q<=1000000 by omega);have b2:=iE hk.1 hk.2 hq.1 (show q<=1000000 by omega);have b3:=JQ hm.1 hh hq;have b4:=JQ hm.1 hk hq;have w1:=bV (n:=x.h*q);have w2:=bV (n:=x.k*q);have w3:=bV (n:=(x.h*q).tdiv x.m);have w4:=bV (n:=(x.k*q).tdiv x.m);have hne:¬x.m=0:=by omega
 simp[w1,w2,w3,w4,hne,aD.aF.out]
def sm(x:aD.aF)(n:Int):Prop:=(-n<=x.m/\x.m<=n)/\(-n<=x.h/\x.h<=n)/\(-n<=x.k/\x.k<=n)
theorem KH{F:List aw.aF}{j v i:Nat}{s:List aD.aF}{x o:aD.aF}{sign:Int}(hF:F[j]?=some (.cells v (fM s aF.enc)))(hx:s[i]?=some x)(h1:sm x 1000000000000000000)(h2:sm o 1000000000000000000)(hs:sign=1\/sign = -1):
  di T (.call false 334 [.ref J.length j v (i*3),.agg o.enc,iI sign] (F::J))=some (.val (.cS []) (F.set j (.cells v (fM (ct s i o sign) aF.enc))::J)):=by
 refine eZ rfl rfl rfl (by simp) ?_;obtain⟨a1,a2,a3⟩:=h1;obtain⟨c1,c2,c3⟩:=h2;have hi:i<s.length:=(aA.1 hx).1;obtain⟨A,B,hA,hAB⟩:∃A B:List D,A.length=i*3/\fM s aF.enc=A++(x.enc++B):=by
  have hd:=mM (f:=aF.enc) (w:=3) (λ_=>rfl) hx;have hlen:=sZ s;refine⟨(fM s aF.enc).take (i*3),(fM s aF.enc).drop (i*3+3),by rw[dp];omega,?_⟩;rw[<- hd,List.take_append_drop]
 have hset:fM (ct s i o sign) aF.enc=A++((x.move o sign).enc++B):=by
  have h3:=Nq (f:=aF.enc) (w:=3) (λ_=>rfl) (x:=x.move o sign) hi;have hblk:aR s i=x:=by simp[aR,hx]
  rw[ct,hblk,<- h3,hAB];have e1:(A++(x.enc++B)).take (i*3)=A:=by rw[<- hA];simp
  have e2:(A++(x.enc++B)).drop (i*3+3)=B:=by
   rw[<- cC,<- hA];simp
  rw[e1,e2]
 rw[hAB]at hF;rw[hset];have hj:j<F.length:=(aA.1 hF).1;have gs:∀X:aw.aF,(F.set j X)[j]?=some X:=λX=>by simp[hj]
 clear hset hAB hx hj;have t1:∀L:List D,(A++L).take (A.length+1)=A++L.take 1:=λL=>by rw[List.take_length_add_append]
 have t2:∀L:List D,(A++L).take (A.length+1+1)=A++L.take 2:=λL=>by rw[dO,List.take_length_add_append]
 have d2:∀L:List D,(A++L).drop (A.length+1+1)=L.drop 2:=λL=>by rw[dO,dh]
 have d1:∀L:List D,(A++L).drop (A.length+1)=L.drop 1:=λL=>by rw[dh]
 have d3:∀L:List D,(A++L).drop (A.length+1+1+1)=L.drop 3:=λL=>by rw[dO,dO,dh]
 have⟨k1,k2,k3,k4⟩:A.length+1+1<=A.length+(B.length+1+1+1)/\A.length+1+1+1<=A.length+(B.length+1+1+1)/\A.length+1<=A.length+(B.length+1+1+1)/\A.length+2+1<=A.length+(B.length+1+1+1):=by omega
 have d4:∀L:List D,(A++L).drop (A.length+2)=L.drop 2:=λL=>by rw[dh]
 have d5:∀L:List D,(A++L).drop (A.length+2+1)=L.drop 3:=λL=>by rw[dO,dh]
 have t4:∀L:List D,(A++L).take (A.length+2)=A++L.take 2:=λL=>by rw[List.take_length_add_append]
 have y1:=bV (n:=o.m);have y2:=bV (n:=o.h);have y3:=bV (n:=o.k);have y4:=bV (n := -o.m);have y5:=bV (n := -o.h);have y6:=bV (n := -o.k);rcases hs with rfl | rfl
 .have w1:=bV (n:=x.m+o.m);have w2:=bV (n:=x.h+o.h);have w3:=bV (n:=x.k+o.k);simp[hF,gs,<- hA,w1,w2,w3,y1,y2,y3,t1,t2,d1,d2,d3,k1,k2,k3,aD.aF.move]
 .have w1:=bV (n:=x.m + -o.m);have w2:=bV (n:=x.h + -o.h);have w3:=bV (n:=x.k + -o.k);simp[hF,gs,<- hA,w1,w2,w3,y4,y5,y6,t1,t2,d1,d2,d3,k1,k2,k3,aD.aF.move]
theorem aaQ{w:bN}{r:Int}(hr : -100000<=r/\r<=100000)(h1:0<=w.h/\w.h<=3000)(h2:0<=w.m/\w.m<=1000000):
  Cl 335 [.agg w.enc,iI r] (.agg (w.given r).enc) J:=by
 refine an ?_;have b1 : -300000000<=r*w.h/\r*w.h<=300000000:=by
  rcases fk 0 r with h | h
  .have:=iE h hr.2 h1.1 h1.2;omega
  .have:=iE (a := -r) (A:=100000) (by omega) (by omega) h1.1 h1.2;rw[Int.neg_mul]at this;omega
 have b2 : -100000000000<=r*w.m/\r*w.m<=100000000000:=by
  rcases fk 0 r with h | h
  .have:=iE h hr.2 h2.1 h2.2;omega
  .have:=iE (a := -r) (A:=100000) (by omega) (by omega) h2.1 h2.2;rw[Int.neg_mul]at this;omega
 have w1:=bV (n := -r);have w2:=bV (n := -(r*w.h));have w3:=bV (n := -(r*w.m));simp[w1,w2,w3,bN.given,Int.neg_mul]
theorem ahN{b:b9}{m:ck}(h:Fv b m){i:Nat}(hi:i<b.n):Cl 337 [.agg (bM b m),iI i] (.agg (JJ b m i).enc) J:=by
 refine an ?_;have hf:=λJ=>aeo (J:=J) h.toMv hi
 have b1:=h.feed i hi;have b2:=h.bv.deep;have b3:=iE b1.1 b1.2 b2.1 b2.2;have w1:=bV (n:=feed b m i*b.deep);simp[hf,w1,JJ]
theorem aaJ{s:List aD.aF}{bs:List aw.aF}(hl:s.length<=1000000)(hne:s≠[]):di T (.call true 332 [lF s aF.enc] (bs::J)) =
  some (.val (.sl J.length (bs.length+1) 1 0 s.length 3) ((bs++[.cells 0 [],.cells 1 (fM s aF.enc)])::J)):=by
 refine mh rfl rfl rfl ?_;have h7:s.length*24<=room:=by unfold room;omega
 simp[hne,sZ,h7]
