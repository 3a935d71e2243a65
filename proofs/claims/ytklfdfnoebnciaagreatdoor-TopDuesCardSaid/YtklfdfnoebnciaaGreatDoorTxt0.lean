import Derived.Test.YtklfdfnoebnciaaGreatDoorTab
set_option linter.all false
namespace Go.aD
open List(length_flatMap map_take)
open Go Go.az
structure eu where
 x:Int
 y:Int
 z:Int
 k:Int
structure Rw where
 t:Int
 p:Int
 l:Int
 v:Int
 s:Int
structure bE where
 b:Int
 h:Int
 m:Int
structure b9 where
 f:eu
 b8:List Rw
 bF:Int
 lift:Int
 deep:Int
 ak:List bE
structure cq where
 name:List UInt8
 bg:List Int
structure aI where
 m:Int
 h:Int
 k:Int
@[simp] theorem eu.eta(p:eu):eu.mk p.x p.y p.z p.k=p:=rfl
@[simp] theorem Rw.eta(p:Rw):Rw.mk p.t p.p p.l p.v p.s=p:=rfl
@[simp] theorem bE.eta(p:bE):bE.mk p.b p.h p.m=p:=rfl
@[simp] theorem aI.eta(p:aI):aI.mk p.m p.h p.k=p:=rfl
@[simp] def eu.enc(f:eu):List D:=[.int .i64 f.x,.int .i64 f.y,.int .i64 f.z,.int .i64 f.k]
@[simp] def Rw.enc(r:Rw):List D:=[.int .i64 r.t,.int .i64 r.p,.int .i64 r.l,.int .i64 r.v,.int .i64 r.s]
@[simp] def bE.enc(r:bE):List D:=[.int .i64 r.b,.int .i64 r.h,.int .i64 r.m]
@[simp] def aI.enc(r:aI):List D:=[.int .i64 r.m,.int .i64 r.h,.int .i64 r.k]
@[simp] def aX(n:Int):List D:=[.int .i64 n]
@[simp] def b9.enc(b:b9):List D:=[.int .i64 b.f.x,.int .i64 b.f.y,.int .i64 b.f.z,.int .i64 b.f.k,.aG b.b8.length (b.b8.flatMap Rw.enc),.int .i64 b.bF,.int .i64 b.lift,.int .i64 b.deep,.aG b.ak.length (b.ak.flatMap bE.enc)]
@[simp] def cq.enc(m:cq):List D:=[.str m.name,.aG m.bg.length (m.bg.flatMap aX)]
def PG(s:List aI):D:=.aG s.length (s.flatMap aI.enc)
def bT(n lo hi:Int):Bool:=decide (lo<=n) && decide (n<=hi)
theorem aU{n lo hi:Int}:bT n lo hi=true↔lo<=n/\n<=hi:=by simp[bT]
def eu.size(f:eu):Int:=f.x*f.y*f.z
def eu.valid(f:eu):Bool:=bT f.x 1 8 && (bT f.y 1 8 && (bT f.z 1 8 && (decide (f.size<=64) && bT f.k 1 6)))
theorem eu.sU{f:eu}:f.valid=true↔(1<=f.x/\f.x<=8)/\(1<=f.y/\f.y<=8)/\(1<=f.z/\f.z<=8)/\f.size<=64/\(1<=f.k/\f.k<=6):=by
 simp[eu.valid,bT,and_assoc]
def eu.shape(f:eu):Int:=if f.valid then 0 else 1
def letter(c:UInt8):Bool:=decide (97<=c.toNat) && decide (c.toNat<=122)
def digit(c:UInt8):Bool:=decide (48<=c.toNat) && decide (c.toNat<=57)
def wh(i:Nat):List UInt8->Bool
 |[]=>true
 |c::l=>(letter c || (decide (i≠0) && digit c)) && wh (i+1) l
def named(s:List UInt8):Bool:=wh 0 s && bT s.length 1 16
def eu.model(f:eu)(m:cq):Int:=if named m.name then(if(m.bg.length:Int)=f.k*f.size/\fk m.bg (λn=>bT n (-100000) 100000)=true then 0 else 1)else 5
def eu.each(f:eu)(met:List (List UInt8)):List cq->Int
 |[]=>0
 |m::l=>if f.model m=0 then(if met.contains m.name then 6 else f.each (met++[m.name]) l)else f.model m
def eu.an(f:eu)(l:List cq):Int:=if bT l.length 1 40 then f.each [] l else 3
def fm(f:eu)(l:List cq):Int:=if f.valid then f.an l else 1
def Rw.alone(r:Rw):Bool:=bT r.t 0 400 && (bT r.p 1 10000 && (bT r.l 0 4000 && (bT r.s 0 2000 && (decide (r.l<r.v) && decide (r.v<=4000)))))
def Rw.Iq(o r:Rw):Bool := !(decide (r.t<=o.t) || (decide (r.p<=o.p) || (decide (r.l<=o.l) || decide (r.s<o.s))))
def Ep:List Rw->Bool
 |o::r::l=>o.Iq r && Ep (r::l)
 |_=>true
def jj(t:List Rw):Bool:=bT t.length 2 20 && (fk t Rw.alone && Ep t)
def bE.ok(size:Int)(used:List Int)(w:bE):Bool:=bT w.b 0 (size-1) && (!used.contains w.b && (bT w.h 0 3000 && bT w.m 0 1000000))
def tV(size:Int)(used:List Int):List bE->Bool
 |[]=>true
 |w::l=>w.ok size used && tV size (used++[w.b]) l
def b9.size(b:b9):Int:=b.f.size
def b9.ok1(b:b9):Bool:=b.f.valid && (decide (4<=b.f.k) && (jj b.b8 && (bT b.bF 1 100000 && (bT b.lift 0 1000 && (bT b.deep 0 3000 && decide (b.ak.length<=8))))))
def b9.valid(b:b9):Bool:=b.ok1 && tV b.size [] b.ak
def b9.n(b:b9):Nat:=b.size.toNat
def vf(b:b9)(m:cq)(k:Nat):List Int:=(m.bg.drop (k*b.n)).take b.n
def uw(b:b9)(m:cq)(k:Nat)(i:Nat):Int:=(m.bg[k*b.n+i]?).getD 0
def hold(b:b9)(m:cq)(i:Nat):Int:=uw b m 0 i
def Hx(b:b9)(m:cq)(i:Nat):Int:=uw b m 1 i
def HE(b:b9)(m:cq)(i:Nat):Int:=uw b m 2 i
def feed(b:b9)(m:cq)(i:Nat):Int:=uw b m 3 i
def fits(b:b9)(m:cq):Bool:=decide (fm b.f [m]=0) && (fk (vf b m 0) (λn=>bT n 1000 100000) && (fk (vf b m 1) (λn=>bT n 0 1000) && (fk (vf b m 2) (λn=>bT n 0 3000) && fk (vf b m 3) (λn=>bT n 0 1000))))
def Bd(b:b9)(m:cq):Bool:=b.valid && fits b m
def c8(b:b9)(m:cq):List aI:=(List.range b.n).map λi=>⟨hold b m i,hold b m i*HE b m i,0⟩
def aI.valid(x:aI):Bool:=bT x.m 1 1000000 && (bT x.h 0 10000000000 && bT x.k 0 1000000000000)
def xO(b:b9)(s:List aI):Bool:=decide ((s.length:Int)=b.size) && fk s aI.valid
def weight(b:b9)(i:Nat):Int:=((i / (b.f.x.toNat*b.f.y.toNat):Nat):Int)*b.lift
def down(n d:Int):Int:=n / d
def bL(s:List aI)(i:Nat):aI:=(s[i]?).getD ⟨0,0,0⟩
def oJ(x:aI)(out:Int)(r:Rw):Int:=if r.l*x.m<=x.h then max out r.p else out
def jG(b:b9)(m:cq)(s:List aI)(i:Nat):Int :=
 b.b8.foldl (oJ (bL s i)) (max 0 (weight b i+down (b.bF*((bL s i).m-hold b m i)) (hold b m i)))
def bP(b:b9)(m:cq)(s:List aI):List Int:=(List.range s.length).map (jG b m s)
def xG(b:b9)(i:Nat):List (Nat×Nat) :=
 (if(i+1)%b.f.x.toNat≠0 then [(i,i+1)]else [])++((if i / b.f.x.toNat%b.f.y.toNat≠b.f.y.toNat-1 then [(i,i+b.f.x.toNat)]else [])++(if i+b.f.x.toNat*b.f.y.toNat<b.n then [(i,i+b.f.x.toNat*b.f.y.toNat)]else []))
def Ic(b:b9):List (Nat×Nat):=(List.range b.n).flatMap (xG b)
def aI.out(x:aI)(m:Int):aI:=⟨m,(x.h*m).tdiv x.m,(x.k*m).tdiv x.m⟩
def aI.move(x o:aI)(sign:Int):aI:=⟨x.m+sign*o.m,x.h+sign*o.h,x.k+sign*o.k⟩
def I6(b:b9)(m:cq)(s:List aI)(p:List Int)(l:Nat×Nat):Option ((Nat×Nat)×aI) :=
 let d:=(p[l.1]?).getD 0-weight b l.1-(p[l.2]?).getD 0+weight b l.2
 let l':=if d<0 then(l.2,l.1)else l
 let d':=if d<0 then -d else d
 let q:=min ((min (Hx b m l'.1) (Hx b m l'.2)*d').tdiv 1000) ((bL s l'.1).m.tdiv 8)
 if 0<q then some (l',(bL s l'.1).out q)else none
def Pl(es:List ((Nat×Nat)×aI))(k:Nat×Nat)(o:aI):List ((Nat×Nat)×aI) :=
 match es.findIdx? (λe=>e.1 == k)with
 |some j=>es.set j (k,o)
 |none=>es++[(k,o)]
def ot(b:b9)(m:cq)(s:List aI)(p:List Int)(es:List ((Nat×Nat)×aI))(l:Nat×Nat):List ((Nat×Nat)×aI) :=
 match I6 b m s p l with
 |some e=>Pl es e.1 e.2
 |none=>es
def vc(b:b9)(m:cq)(s:List aI):List ((Nat×Nat)×aI):=(Ic b).foldl (ot b m s (bP b m s)) []
def ga(s:List aI)(i:Nat)(o:aI)(sign:Int):List aI:=s.set i ((bL s i).move o sign)
def dJ(s:List aI)(e:(Nat×Nat)×aI):List aI:=ga (ga s e.1.1 e.2 (-1)) e.1.2 e.2 1
def bE.given(w:bE)(rate:Int):aI:=⟨-rate,-rate*w.h,-rate*w.m⟩
def rj(s:List aI)(w:bE)(rate:Int):aI:=if rate<0 then⟨0,0,0⟩else(bL s w.b.toNat).out (min rate ((bL s w.b.toNat).m.tdiv 8))
def tU(s next:List aI)(w:bE)(rate:Int):List aI:=if rate<0 then ga next w.b.toNat (w.given rate) 1 else ga next w.b.toNat (rj s w rate) (-1)
def L6(b:b9)(m:cq)(i:Nat):aI:=⟨feed b m i,feed b m i*b.deep,0⟩
def CI(b:b9)(m:cq)(s:List aI)(aO:List Int):List aI :=
 let s1:=(vc b m s).foldl dJ s
 let s2:=(b.ak.zip aO).foldl (λn wr=>tU s n wr.1 wr.2) s1
 (List.range s.length).foldl (λn i=>ga n i (L6 b m i) 1) s2
def dr(b:b9)(s:List aI)(aO:List Int):List aI:=(b.ak.zip aO).map λwr=>rj s wr.1 wr.2
def tick(b:b9)(m:cq)(s:List aI)(aO:List Int):Option (List aI×List aI) :=
 if xO b (CI b m s aO)then some (CI b m s aO,dr b s aO)else none
def zE(b:b9)(l:List Int):Int:=if l.length=b.ak.length then(if fk l (λn=>bT n (-100000) 100000)then 0 else 2)else 1
def cA{α:Type}(f:α->Int):List α->Int
 |[]=>0
 |x::l=>if f x=0 then cA f l else f x
def vG(b:b9)(av:List (List Int)):Int:=if 200<av.length then 3 else cA (zE b) av
def uU(b:b9)(m:cq):List (List aI)->List (List aI)->List aI->List (List Int)->Option (List (List aI)×List (List aI))
 |ss,ys,_,[]=>some (ss,ys)
 |ss,ys,s,r::av =>
  match tick b m s r with
  |some (s',y)=>uU b m (ss++[s']) (ys++[y]) s' av
  |none=>none
def run(b:b9)(m:cq)(av:List (List Int)):Option (List (List aI)×List (List aI)):=uU b m [c8 b m] [] (c8 b m) av
end Go.aD
namespace Go.Proofs.YtklfdfnoebnciaaGreatDoor
open List(length_flatMap map_take)
open Go Go.az Go.aD
variable {J:SK}
theorem NG{a b A B:Int}(h1:1<=a)(h2:a<=A)(h3:1<=b)(h4:b<=B):1<=a*b/\a*b<=A*B :=
 ⟨by have:=Int.mul_pos (a:=a) (b:=b) (by omega) (by omega);omega,jZ h2 h4 (by omega) (by omega)⟩
theorem mZ{a b A B:Int}(h1:0<=a)(h2:a<=A)(h3:0<=b)(h4:b<=B):0<=a*b/\a*b<=A*B :=
 ⟨dp h1 h3,jZ h2 h4 h3 (by omega)⟩
theorem eu.sz{f:eu}(hx:1<=f.x/\f.x<=8)(hy:1<=f.y/\f.y<=8)(hz:1<=f.z/\f.z<=8):(1<=f.x*f.y/\f.x*f.y<=64)/\(1<=f.x*f.y*f.z/\f.x*f.y*f.z<=512):=by
 have h1:=NG hx.1 hx.2 hy.1 hy.2;have h2:=NG h1.1 h1.2 hz.1 hz.2;exact⟨by omega,by omega⟩
theorem cU{a b c:Int}:lim T (.call false 156 [.int .i64 a,.int .i64 b,.int .i64 c] J)=some (.val (.bool (bT a b c)) J):=by
 refine au Hl uK.eq_1 rfl ?_;by_cases h:b<=a<;>simp[-length_flatMap,-map_take,h,bT]
theorem ff{a b c:Int}:lim T (.call false 169 [.int .i64 a,.int .i64 b,.int .i64 c] J)=some (.val (.bool (bT a b c)) J):=by
 refine au FW td.eq_1 rfl ?_;by_cases h:b<=a<;>simp[-length_flatMap,-map_take,h,bT]
theorem iZ{a b c:Int}:lim T (.call false 153 [.int .i64 a,.int .i64 b,.int .i64 c] J)=some (.val (.bool (bT a b c)) J):=by
 refine au F4 tA.eq_1 rfl ?_;by_cases h:b<=a<;>simp[-length_flatMap,-map_take,h,bT]
theorem FG{f:eu}(hx:1<=f.x/\f.x<=8)(hy:1<=f.y/\f.y<=8)(hz:1<=f.z/\f.z<=8):lim T (.call false 166 [.agg [.int .i64 f.x,.int .i64 f.y,.int .i64 f.z,.int .i64 f.k]] J)=some (.val (.int .i64 f.size) J):=by
 refine au Am kZ.eq_1 rfl ?_;obtain⟨h1,h2⟩:=eu.sz hx hy hz;have w1:=eF (n:=f.x*f.y);have w2:=eF (n:=f.x*f.y*f.z);simp[-length_flatMap,-map_take,w1,w2,eu.size]
theorem PS{f:eu}:lim T (.call false 152 [.agg [.int .i64 f.x,.int .i64 f.y,.int .i64 f.z,.int .i64 f.k]] J)=some (.val (.bool f.valid) J):=by
 refine au BF l8.eq_1 rfl ?_;cases hc1:bT f.x 1 8
 .simp[-length_flatMap,-map_take,ff,eu.valid,hc1]
 cases hc2:bT f.y 1 8
 .simp[-length_flatMap,-map_take,ff,eu.valid,hc1,hc2]
 cases hc3:bT f.z 1 8
 .simp[-length_flatMap,-map_take,ff,eu.valid,hc1,hc2,hc3]
 have hb:=λJ=>FG (J:=J) (f:=f) (aU.1 hc1) (aU.1 hc2) (aU.1 hc3)
 by_cases hc4:f.size<=64
 .simp[-length_flatMap,-map_take,ff,eu.valid,hc1,hc2,hc3,hc4,hb]
 .simp[-length_flatMap,-map_take,ff,eu.valid,hc1,hc2,hc3,hc4,hb]
theorem Fp{f:eu}:lim T (.call false 95 [.agg [.int .i64 f.x,.int .i64 f.y,.int .i64 f.z,.int .i64 f.k]] J)=some (.val (.int .i64 f.shape) J):=by
 refine au BE l7.eq_1 rfl ?_;have hb:=λJ=>PS (J:=J) (f:=f)
 cases hc:f.valid<;>rw[hc]at hb<;>simp[-length_flatMap,-map_take,hb,eu.shape,hc]
theorem iy{f:eu}:lim T (.call false 64 [.agg [.int .i64 f.x,.int .i64 f.y,.int .i64 f.z,.int .i64 f.k]] J)=some (.val (.int .i64 f.shape) J):=by
 refine au Cd nh.eq_1 rfl ?_;have hb:=λJ=>Fp (J:=J) (f:=f)
 simp[-length_flatMap,-map_take,hb]
theorem M4{s:List UInt8}(hl:s.length<=1000000000):∀(m i:Nat),i+m=s.length ->
  WL T [0,6,7] false mK [(0,.str s),(6,.int .i64 s.length),(7,.int .i64 i)] J
   (λx e J'=>J'=J/\if wh i (s.drop i)then x=.exit 0/\get e 0=.str s else x=.ret/\get e 2=.bool false)
 |0,i,hi=>by
  refine aJ mK.eq_1 ?_;have h1:¬i<s.length:=by omega
  have h2:s.drop i=[]:=aA (by omega);simp[-length_flatMap,-map_take,h1,h2,wh]
 |m+1,i,hi=>by
  refine aJ mK.eq_1 ?_;have h1:i<s.length:=by omega
  obtain⟨c,hc⟩:=gE h1;have h4:=eT h1;have h5:=drop_at hc;have ih:=M4 hl m (i+1) (by omega);rw[h5,wh];have hd:CT .MA [.str s,.int .i64 (i:Int)]=some (.int .u8 c.toNat):=by simp[CT,hc]
  by_cases hc1:97<=c.toNat
  .by_cases hc2:c.toNat<=122
   .have hlet:letter c=true:=by simp[letter,hc1,hc2]
    simp[-length_flatMap,-map_take,h1,h4,hd,hlet,show(97:Int)<=(c.toNat:Int)by omega,show(c.toNat:Int)<=122 by omega];exact WL.to ih (by simp) rfl λx e J' hh=>by simpa[hlet]using hh
   .have hlet:letter c=false:=by simp[letter,hc2]
    have hdig:digit c=false:=by simp[digit];omega
    by_cases hi0:i=0
    .subst hi0;have hd0:CT .MA [.str s,.int .i64 0]=some (.int .u8 c.toNat):=by simpa using hd
     have h1':0<s.length:=h1;simp[-length_flatMap,-map_take,h1',h4,hd0,hlet,hdig,show(97:Int)<=(c.toNat:Int)by omega,show ¬(c.toNat:Int)<=122 by omega]
    .simp[-length_flatMap,-map_take,h1,h4,hd,hlet,hdig,hi0,show(97:Int)<=(c.toNat:Int)by omega,show ¬(c.toNat:Int)<=122 by omega,show ¬(c.toNat:Int)<48 by omega,show(57:Int)<(c.toNat:Int)by omega,show(57:Nat)<c.toNat by omega,show ¬c.toNat<48 by omega]
  .have hlet:letter c=false:=by simp[letter,hc1]
   by_cases hi0:i=0
   .subst hi0;have hd0:CT .MA [.str s,.int .i64 0]=some (.int .u8 c.toNat):=by simpa using hd
    have h1':0<s.length:=h1;simp[-length_flatMap,-map_take,h1',h4,hd0,hlet,show ¬(97:Int)<=(c.toNat:Int)by omega]
   .by_cases hc3:c.toNat<48
    .have hdig:digit c=false:=by simp[digit];omega
     simp[-length_flatMap,-map_take,h1,h4,hd,hlet,hdig,hi0,show ¬(97:Int)<=(c.toNat:Int)by omega,show(c.toNat:Int)<48 by omega,hc3]
    .by_cases hc4:57<c.toNat
     .have hdig:digit c=false:=by simp[digit];omega
      simp[-length_flatMap,-map_take,h1,h4,hd,hlet,hdig,hi0,show ¬(97:Int)<=(c.toNat:Int)by omega,show ¬(c.toNat:Int)<48 by omega,show(57:Int)<(c.toNat:Int)by omega,hc3,hc4]
     .have hdig:digit c=true:=by simp[digit];omega
      simp[-length_flatMap,-map_take,h1,h4,hd,hlet,hdig,hi0,show ¬(97:Int)<=(c.toNat:Int)by omega,show ¬(c.toNat:Int)<48 by omega,show ¬(57:Int)<(c.toNat:Int)by omega,hc3,hc4];exact WL.to ih (by simp) rfl λx e J' hh=>by simpa[hlet,hdig,hi0]using hh
theorem Fo{s:List UInt8}(hl:s.length<=1000000000):lim T (.call false 165 [.str s] J)=some (.val (.bool (named s)) J):=by
 refine au He uE.eq_1 rfl ?_;have hp:CT .Si [.str s]=some (.int .i64 s.length):=rfl;simp[-length_flatMap,-map_take,hp];refine WL.to (M4 (J:=[]::J) hl s.length 0 (by omega)) (by simp) rfl ?_;rintro x e J' ⟨rfl,h⟩;simp only[aK]at h;unfold named;cases hc:wh 0 s
 .simp[hc]at h;simp[h]
 .simp[hc]at h;simp[-length_flatMap,-map_take,h,hp,ff]
theorem S0{a:Int}:lim T (.call false 168 [.int .i64 a] J)=some (.val (.bool (bT a (-100000) 100000)) J):=by
 refine au Aa kn.eq_1 rfl ?_;simp[-length_flatMap,-map_take,ff]
theorem Of{l:List Int}{p:Int->Bool}{fv:D}(hl:l.length<=1000000000)(ht:oP T fv (λn => .int .i64 n) p l)(hc:fv.cells=some [fv]):
  lim T (.call false 167 [.aG l.length (l.flatMap aX),fv] J)=some (.val (.bool (fk l p)) J) :=
 zg (I5 .i64) (f:=167) (g:=216) (h:=36) (i:=43) (l:=l) (p:=p) (fv:=fv) rfl rfl rfl rfl (by omega) ht hc
theorem KX{f:eu}(hf:f.valid=true):(1<=f.size/\f.size<=64)/\1<=f.k*f.size/\f.k*f.size<=384:=by
 obtain⟨h1,h2,h3,h4,h5⟩:=eu.sU.1 hf;obtain⟨_,h6⟩:=eu.sz h1 h2 h3;have h7:=NG h5.1 h5.2 (b:=f.size) (B:=64) (by unfold eu.size;omega) h4;exact⟨⟨by unfold eu.size;omega,h4⟩,by omega,by omega⟩
theorem MV{f:eu}{m:cq}(hf:f.valid=true)(hn:m.name.length<=1000000000)(hl:m.bg.length<=1000000000):lim T (.call false 105 [.agg [.int .i64 f.x,.int .i64 f.y,.int .i64 f.z,.int .i64 f.k],.agg [.str m.name,.aG m.bg.length (m.bg.flatMap aX)]] J)=some (.val (.int .i64 (f.model m)) J):=by
 refine au BD l6.eq_1 rfl ?_;obtain⟨h1,h2,h3,h4,h5⟩:=eu.sU.1 hf;obtain⟨h6,h7⟩:=KX hf;have w1:=eF (n:=f.k*f.size);have hb:=λJ=>FG (J:=J) (f:=f) h1 h2 h3
 have ha:=λJ=>Of (J:=J) (l:=m.bg) (p:=λn=>bT n (-100000) 100000) (fv:=.fn 168 [] []) hl (oP.fn λx _ J=>by simpa using S0) rfl
 cases hc1:named m.name
 .simp[-length_flatMap,-map_take,Fo hn,hc1,eu.model]
 .by_cases hc2:(m.bg.length:Int)=f.k*f.size
  .cases hc3:fk m.bg (λn=>bT n (-100000) 100000)<;>
    simp[-length_flatMap,-map_take,Fo hn,hc1,hc2,hc3,eu.model,hb,ha,w1]
  .simp[-length_flatMap,-map_take,Fo hn,hc1,hc2,eu.model,hb,w1]
def BV(met:List (List UInt8)):List D:=met.map λn => .dj [.str n,.bool true]
theorem Eb{k:List UInt8}:∀{met:List (List UInt8)},∃r,pJ none (.str k) (BV met)=some r/\(met.contains k=true->∃j,r=some (j,.bool true))/\(met.contains k=false->r=none)
 |[]=>⟨none,rfl,by simp,by simp⟩
 |n::met=>by
  obtain⟨r,h1,h2,h3⟩:=Eb (k:=k) (met:=met);simp only[BV,aN]at h1 ⊢;by_cases hk:k=n
  .subst hk;exact⟨some (0,.bool true),by simp[pJ,sG],λ_=>⟨0,rfl⟩,by simp⟩
  .have hb:(k == n)=false:=by simpa using hk
   refine⟨r.map λy=>(y.1+1,y.2),by simp[pJ,sG,hb,h1],?_,?_⟩
   .intro hc;have:met.contains k=true:=by simpa[hk]using hc
    obtain⟨j,rfl⟩:=h2 this;exact⟨j+1,rfl⟩
   .intro hc;have:met.contains k=false:=by simp at hc ⊢;exact hc.2
    rw[h3 this];rfl
theorem Vd{S:SK}{l i:Nat}{met:List (List UInt8)}{k:List UInt8}(h:cells? S l i 0=some (BV met)):Aj S (.get none (.bool false) false) [.kJ l i,.str k]=some (.bool (met.contains k),S):=by
 obtain⟨r,h1,h2,h3⟩:=Eb (k:=k) (met:=met);simp only[Aj,Ai,h,aQ,h1];cases hc:met.contains k
 .rw[h3 hc];simp[sG]
 .obtain⟨j,rfl⟩:=h2 hc;simp[sG]
theorem Ve{S:SK}{l i:Nat}{met:List (List UInt8)}{k:List UInt8}(h:cells? S l i 0=some (BV met))(hn:met.contains k=false):
  Aj S (.put none) [.kJ l i,.str k,.bool true]=some (.undef,aR S l i (.cells 0 (BV (met++[k])))):=by
 obtain⟨r,h1,h2,h3⟩:=Eb (k:=k) (met:=met);simp only[Aj,Ai,h,aQ,h1];rw[h3 hn];simp[sG,BV,D.clean]
theorem abZ{f:eu}{m:cq}(hf:f.valid=true)(hn:m.name.length<=1000000000)(hl:m.bg.length<=1000000000):
  lim T (.call false 260 [.agg [.str m.name,.aG m.bg.length (m.bg.flatMap aX)],.bu [.int .i64 f.x,.int .i64 f.y,.int .i64 f.z,.int .i64 f.k]] J)=some (.val (.dj [.str m.name,.int .i64 (f.model m)]) J):=by
 refine au za jI.eq_1 rfl ?_;simp[-length_flatMap,-map_take,MV hf hn hl]
theorem Qm{f:eu}{l:List cq}(hf:f.valid=true)(hs:∀m∈l,m.name.length<=1000000000/\m.bg.length<=1000000000)(hl:l.length<=1000000000):∀(k i:Nat) (met:List (List UInt8)),i+k=l.length ->
  WL T [1,5,11,12,13] false dq [(1,.fn 260 [] [.bu [.int .i64 f.x,.int .i64 f.y,.int .i64 f.z,.int .i64 f.k]]),(5,.kJ J.length 0),(11,.aG l.length (l.flatMap cq.enc)),(12,.int .i64 l.length),(13,.int .i64 i)] ([.cells 0 (BV met)]::J)
   (λx e J'=>∃s,J'=s::J/\if f.each met (l.drop i)=0 then x=.exit 0 else x=.ret/\get e 4=.int .i64 (f.each met (l.drop i)))
 |0,i,met,hi=>by
  refine aJ dq.eq_1 ?_;have h1:¬i<l.length:=by omega
  have h2:l.drop i=[]:=aA (by omega);simp[-length_flatMap,-map_take,h1,h2,eu.each]
 |k+1,i,met,hi=>by
  refine aJ dq.eq_1 ?_;have h1:i<l.length:=by omega
  obtain⟨m,hm⟩:=gE h1;have h2:=cf (f:=cq.enc) (w:=2) (λ_=>rfl) hm;have h4:=eT h1;have h5:=drop_at hm;obtain⟨hs1,hs2⟩:=hs m (ai hm);have hC:=λJ=>abZ (J:=J) hf hs1 hs2
  rw[h5,eu.each];by_cases hc1:f.model m=0
  .have hg:=Vd (S:=[.cells 0 (BV met)]::J) (l:=J.length) (i:=0) (met:=met) (k:=m.name) (by simp);cases hc2:met.contains m.name
   .rw[hc2]at hg;have hp:=Ve (S:=[.cells 0 (BV met)]::J) (l:=J.length) (i:=0) (met:=met) (k:=m.name) (by simp) hc2;have ih:=Qm hf hs hl k (i+1) (met++[m.name]) (by omega);simp at hp;have hc3:¬m.name∈met:=by simpa using hc2
    simp[-length_flatMap,-map_take,h1,h2,h4,hC,hc1,hg,hp,hc3];exact WL.to ih (by simp) (by simp) λx e J' hh=>by simpa[hc1]using hh
   .rw[hc2]at hg;have hc3:m.name∈met:=by simpa using hc2
    simp[-length_flatMap,-map_take,h1,h2,h4,hC,hc1,hg,hc3]
  .simp[-length_flatMap,-map_take,h1,h2,h4,hC,hc1]
theorem VO{f:eu}{l:List cq}(hf:f.valid=true)(hs:∀m∈l,m.name.length<=1000000000/\m.bg.length<=1000000000)(hl:l.length<=1000000000):
  lim T (.call false 259 [.aG l.length (l.flatMap cq.enc),.fn 260 [] [.bu [.int .i64 f.x,.int .i64 f.y,.int .i64 f.z,.int .i64 f.k]]] J)=some (.val (.int .i64 (f.each [] l)) J):=by
 refine au xY iD.eq_1 rfl ?_;have hm:Aj ([]::J) .make []=some (.kJ J.length 0,[.cells 0 (BV [])]::J):=by simp[Aj,BV]
 simp[-length_flatMap,-map_take,hm];refine WL.to (Qm (J:=J) hf hs hl l.length 0 [] (by omega)) (by simp) (by simp) ?_;rintro x e J' ⟨s,rfl,h⟩;simp only[aK]at h;by_cases hc:f.each [] l=0
 .rw[if_pos hc]at h;subst h;simp[-length_flatMap,-map_take,hc]
 .rw[if_neg hc]at h;obtain⟨rfl,h⟩:=h;simp[h]
theorem PY{f:eu}{l:List cq}(hf:f.valid=true)(hs:∀m∈l,m.name.length<=1000000000/\m.bg.length<=1000000000)(hl:l.length<=1000000000):
  lim T (.call false 230 [.agg [.int .i64 f.x,.int .i64 f.y,.int .i64 f.z,.int .i64 f.k],.aG l.length (l.flatMap cq.enc)] J)=some (.val (.int .i64 (f.an l)) J):=by
 refine au An la.eq_1 rfl ?_;cases hc:bT l.length 1 40
 .simp[-length_flatMap,-map_take,ff,hc,eu.an]
 .simp[-length_flatMap,-map_take,ff,hc,eu.an,VO hf hs hl]
theorem FF{f:eu}{l:List cq}(hf:f.valid=true)(hs:∀m∈l,m.name.length<=1000000000/\m.bg.length<=1000000000)(hl:l.length<=1000000000):
  lim T (.call false 229 [.bu [.int .i64 f.x,.int .i64 f.y,.int .i64 f.z,.int .i64 f.k],.bu [.aG l.length (l.flatMap cq.enc)]] J)=some (.val (.int .i64 (f.an l)) J):=by
 refine au z7 kl.eq_1 rfl ?_;simp[-length_flatMap,-map_take,PY hf hs hl]
theorem IH{fs:List D}{es:List Int}(hlen:fs.length=es.length)(hl:fs.length<=100)(hfs:∀d∈fs,d.strip=d/\d.calm=d/\Ln false 1 (some [d])=some d)
  (hcall:∀(i:Nat) d n,fs[i]?=some d->es[i]?=some n->(∀j,j<i->es[j]?=some 0)->∀J,oe (lim T) false d [] J=some (.int .i64 n,J)):
  lim T (.call false 101 [.aG fs.length fs] J)=some (.val (.int .i64 (cA id es)) J):=by
 have loop:∀(k i:Nat) (J:SK),i+k=fs.length->(∀j,j<i->es[j]?=some 0) ->
   WL T [6,7,8] false mJ [(6,.aG fs.length fs),(7,.int .i64 fs.length),(8,.int .i64 i)] J
    (λx e J'=>J'=J/\if cA id (es.drop i)=0 then x=.exit 0 else x=.ret/\get e 2=.int .i64 (cA id (es.drop i))):=by
  intro k;induction k with
  |zero =>
   intro i J hi h0;refine aJ mJ.eq_1 ?_;have h1:¬i<fs.length:=by omega
   have h2:es.drop i=[]:=aA (by omega);simp[-length_flatMap,-map_take,h1,h2,cA]
  |succ k ih =>
   intro i J hi h0;refine aJ mJ.eq_1 ?_;have h1:i<fs.length:=by omega
   obtain⟨d,hd⟩:=gE h1;obtain⟨n,hn⟩:∃n,es[i]?=some n:=gE (by omega);obtain⟨g1,g2,g3⟩:=hfs d (ai hd);have h2:=cf (f:=λd:D=>[d]) (w:=1) (λ_=>rfl) (l:=fs) hd;rw[show(fs.flatMap λd=>[d])=fs from by simp]at h2;have h4:=eT h1;have h5:=drop_at hn;have hc:=hcall i d n hd hn h0;simp only[gp]at h2;rw[h5,cA];by_cases hz:n=0
   .subst hz;have ih':=ih (i+1) J (by omega) (λj hj=>by
     by_cases hji:j=i
     .subst hji;exact hn
     .exact h0 j (by omega))
    simp[-length_flatMap,-map_take,h1,h2,h4,g1,g2,hc];exact WL.to ih' (by simp) rfl λx e J' hh=>by simpa using hh
   .simp[-length_flatMap,-map_take,h1,h2,h4,g1,g2,hc,hz]
 refine au Hc uD.eq_1 rfl ?_;simp[-length_flatMap,-map_take];refine WL.to (loop fs.length 0 ([]::J) (by omega) (by simp)) (by simp) rfl ?_;rintro x e J' ⟨rfl,h⟩;simp only[aK]at h;by_cases hc:cA id es=0
 .rw[if_pos hc]at h;subst h;simp[-length_flatMap,-map_take,hc]
 .rw[if_neg hc]at h;obtain⟨rfl,h⟩:=h;simp[h]
theorem BY{f:eu}{l:List cq}(hs:∀m∈l,m.name.length<=1000000000/\m.bg.length<=1000000000)(hl:l.length<=1000000000):
  lim T (.call false 187 [.agg [.int .i64 f.x,.int .i64 f.y,.int .i64 f.z,.int .i64 f.k],.aG l.length (l.flatMap cq.enc)] J)=some (.val (.int .i64 (fm f l)) J):=by
 refine au BC l4.eq_1 rfl ?_;have hC:=λJ=>IH (J:=J) (fs:=[.fn 95 [.agg [.int .i64 f.x,.int .i64 f.y,.int .i64 f.z,.int .i64 f.k]] [],.fn 229 [] [.bu [.int .i64 f.x,.int .i64 f.y,.int .i64 f.z,.int .i64 f.k],.bu [.aG l.length (l.flatMap cq.enc)]]]) (es:=[f.shape,f.an l]) rfl (by simp) (by simp) (by
  intro i d n hd hn h0 J;match i with
  |0 =>
   simp at hd hn;subst hd hn;simp[Fp]
  |1 =>
   simp at hd hn;subst hd hn;have h1:f.valid=true:=by
    have:=h0 0 (by omega);simp[eu.shape]at this;exact this
   simp[FF h1 hs hl]
  |i+2=>simp at hd)
 simp at hC;have e1:cA id [f.shape,f.an l]=fm f l:=by
  simp only[cA,id,fm,eu.shape];by_cases h:f.valid=true
  .by_cases h2:f.an l=0<;>simp[h,h2]
  .simp[h]
 rw[e1]at hC;simp[-length_flatMap,-map_take,hC]
end Go.Proofs.YtklfdfnoebnciaaGreatDoor
namespace Go.az
open List(length_flatMap map_take)
open Go
variable {T:zQ}
def oF(q:Nat->Bool)(i:Nat):Nat->Bool×Nat
 |0=>(false,i)
 |m+1=>if q i then(true,i+1)else oF q (i+1) m
theorem Bz{q:Nat->Bool}:∀{m i:Nat},(oF q i m).1=false↔∀j,j<m->q (i+j)=false
 |0,i=>by simp[oF]
 |m+1,i=>by
  simp only[oF];by_cases h:q i=true
  .simp only[h,if_true,Bool.true_eq_false,false_iff];intro hh;have:=hh 0 (by omega);simp[h]at this
  .have h':q i=false:=by simpa using h
   simp only[h',ar,if_false];rw[Bz (m:=m) (i:=i+1)];constructor
   .intro hh j hj;cases j with
    |zero=>simpa using h'
    |succ j=>have:=hh j (by omega);rwa[show i+1+j=i+(j+1)from by omega]at this
   .intro hh j hj;have:=hh (j+1) (by omega);rwa[show i+(j+1)=i+1+j from by omega]at this
section
variable {α:Type} (E:Tq α) {fv:D} {l:List α} {q:Nat->Bool} {S:Nat->SK}
theorem H5(hl:l.length<=9223372036854775807)(h1:fv.strip=fv)(h2:fv.calm=fv)(ht:∀i x,l[i]?=some x->oe (lim T) false fv [E.val x] (S i)=some (.bool (q i),S (i+1))):∀(m i:Nat),i+m=l.length ->
  WL T [0,1,7,8] false (Gy E.ag E.w) [(0,.aG l.length (l.flatMap E.enc)),(1,fv),(7,.int .i64 l.length),(8,.int .i64 i)] (S i)
   (λx e J'=>J'=S (oF q i m).2/\if(oF q i m).1=true then x=.ret/\∃j:Nat,get e 4=.int .i64 j else x=.exit 0)
 |0,i,hi=>by
  refine aJ (Gy.eq_1 _ _) ?_;have:¬i<l.length:=by omega
  simp[this,h1,h2,oF]
 |m+1,i,hi=>by
  refine aJ (Gy.eq_1 _ _) ?_;have h4:i<l.length:=by omega
  obtain⟨x,hx⟩:=gE h4;have h5:=cf (f:=E.enc) E.len hx;have h6:=ht i x hx;have h7:=eT h4 hl;have ih:=H5 hl h1 h2 ht m (i+1) (by omega);cases hq:q i
  .rw[hq]at h6;simp[h4,h1,h2,h5,h6,h7,E.load,E.strip,E.calm];refine WL.mono (by simpa using ih) ?_;rintro x e J' ⟨h9,h10⟩;simp only[oF,hq,ar,if_false];exact⟨h9,h10⟩
  .rw[hq]at h6;simp[h4,h1,h2,h5,h6,h7,E.load,E.strip,E.calm,oF,hq];exact⟨i,rfl⟩
theorem OZ{f:Nat}(hT:T f=some (ud E.ag E.w))(hl:l.length<=9223372036854775807)(h1:fv.strip=fv)(h2:fv.calm=fv)(hlen:∀i,(S i).length=(S 0).length)
  (ht:∀i x,l[i]?=some x->oe (lim T) false fv [E.val x] ([]::S i)=some (.bool (q i),[]::S (i+1))):
  ∃n:Int,lim T (.call false f [.aG l.length (l.flatMap E.enc),fv] (S 0))=some (.val (.int .i64 n) (S (oF q 0 l.length).2))/\(0<=n↔(oF q 0 l.length).1=true):=by
 have h:=H5 E (S:=λi=>[]::S i) hl h1 h2 ht l.length 0 (by omega);cases hq:(oF q 0 l.length).1
 .refine⟨-1,?_,by simp⟩;refine eQ hT (ud.eq_1 _ _) rfl (hlen _) ?_;simp[h1,h2];refine WL.mono (by simpa using h) ?_;rintro x e J' ⟨rfl,h10⟩;rw[hq]at h10;simp only[ar,if_false]at h10;subst h10;simp
 .obtain⟨x,e,J',hw,rfl,h10⟩:=h;rw[hq]at h10;simp only[if_true]at h10;obtain⟨rfl,j,hj⟩:=h10;refine⟨j,?_,by simp⟩;refine eQ hT (ud.eq_1 _ _) rfl (hlen _) ?_;simp[h1,h2];refine⟨_,_,_,by simpa using hw,?_⟩;simp[hj]
theorem I2{f i:Nat}(hT:T f=some (gZ i))(hi:T i=some (ud E.ag E.w))(hl:l.length<=9223372036854775807)(h1:fv.strip=fv)(h2:fv.calm=fv)(hlen:∀i,(S i).length=(S 0).length)
  (ht:∀i x,l[i]?=some x->oe (lim T) false fv [E.val x] ([]::[]::S i)=some (.bool (q i),[]::[]::S (i+1))):
  lim T (.call false f [.aG l.length (l.flatMap E.enc),fv] (S 0))=some (.val (.bool (oF q 0 l.length).1) (S (oF q 0 l.length).2)):=by
 obtain⟨n,h,hn⟩:=OZ E (S:=λi=>[]::S i) hi hl h1 h2 (λi=>by simp[hlen i]) ht;refine eQ hT (gZ.eq_1 _) rfl (hlen _) ?_;have h4:decide (0<=n)=(oF q 0 l.length).1:=by
  cases hq:(oF q 0 l.length).1
  .rw[hq]at hn;simp at hn;exact decide_eq_false (by omega)
  .exact decide_eq_true (hn.2 hq)
 simp[h1,h2,h,h4]
theorem QA{g:Nat}{x:α}{b:Bool}{J J':SK}(hT:T g=some (yd E.ag E.w))(hlen:J'.length=J.length)(h1:fv.strip=fv)(h2:fv.calm=fv)(ht:oe (lim T) false fv [E.val x] ([]::J)=some (.bool b,[]::J')):
  oe (lim T) false (.fn g [] [.bu [fv]]) [E.val x] J=some (.bool (!b),J'):=by
 rw[rH];have hc:=E.cells x;have hl:=E.load x;have hs:=E.strip x;have hcm:=E.calm x;have key:lim T (.call false g ([]++[E.val x]++[.bu [fv]]) J)=some (.val (.bool (!b)) J'):=by
  generalize E.ag=ag at *
  cases ag with
  |true =>
   refine eQ hT (yd.eq_1 _) rfl hlen ?_;simp[h1,h2,ht,hc,hl,hs,hcm]
  |false =>
   refine eQ hT (yd.eq_2 _) rfl hlen ?_;simp[h1,h2,ht,hc,hl,hs,hcm]
 rw[key];rfl
theorem IV{f g h i:Nat}{p:Nat->Bool}(hf:T f=some (Dc g h))(hg:T g=some (yd E.ag E.w))(hh:T h=some (gZ i))(hi:T i=some (ud E.ag E.w))
  (hl:l.length<=9223372036854775807) (h1:fv.strip=fv) (h2:fv.calm=fv) (hcl:fv.cells=some [fv]) (hlen:∀i,(S i).length=(S 0).length)
  (ht:∀i x,l[i]?=some x->oe (lim T) false fv [E.val x] ([]::[]::[]::[]::S i)=some (.bool (p i),[]::[]::[]::[]::S (i+1))):
  lim T (.call false f [.aG l.length (l.flatMap E.enc),fv] (S 0))=some (.val (.bool !(oF (λi => !p i) 0 l.length).1) (S (oF (λi => !p i) 0 l.length).2)):=by
 have hc:=I2 E (S:=λi=>[]::S i) (fv:=.fn g [] [.bu [fv]]) (q:=λi => !p i) hh hi hl rfl rfl (λi=>by simp[hlen i]) (λi x hx=>QA E hg (by simp[hlen i,hlen (i+1)]) h1 h2 (ht i x hx));refine eQ hf (Dc.eq_1 _ _) rfl (hlen _) ?_;simp[h1,h2,hc,hcl]
theorem TB{f g h i:Nat}{p:α->Bool}{J:SK}(hf:T f=some (Dc g h))(hg:T g=some (yd E.ag E.w))(hh:T h=some (gZ i))(hi:T i=some (ud E.ag E.w))
  (hl:l.length<=9223372036854775807) (h1:fv.strip=fv) (h2:fv.calm=fv) (hcl:fv.cells=some [fv])
  (ht:∀x∈l,oe (lim T) false fv [E.val x] ([]::[]::[]::[]::J)=some (.bool (p x),[]::[]::[]::[]::J)):
  lim T (.call false f [.aG l.length (l.flatMap E.enc),fv] J)=some (.val (.bool (fk l p)) J):=by
 have h0:=IV E (T:=T) (S:=λ_=>J) (fv:=fv) (l:=l) (p:=λi=>match l[i]? with | some x=>p x | none=>true) hf hg hh hi hl h1 h2 hcl (λ_=>rfl) (λi x hx=>by
  rw[ht x (ai hx)];simp[hx])
 have he:(!(oF (λi => !(match l[i]? with | some x=>p x | none=>true)) 0 l.length).1)=fk l p:=by
  have h2:=Bz (q:=λi => !(match l[i]? with | some x=>p x | none=>true)) (m:=l.length) (i:=0);cases hw:fk l p
  .rw[Bool.not_eq_false'];cases hs:(oF (λi => !(match l[i]? with | some x=>p x | none=>true)) 0 l.length).1
   .have h3:=h2.1 hs;have h4:fk l p=true:=iI.2 λx hx=>by
     obtain⟨j,hj⟩:=fh hx;have:=h3 j (aw.1 hj).1;simpa[hj]using this
    rw[hw]at h4;cases h4
   .rfl
  .rw[cG];refine h2.2 λj hj=>?_
   have hx:=aL hj;have:=iI.1 hw _ (List.getElem_mem hj);simp[hx,this]
 rw[he]at h0;exact h0
end
end Go.az
namespace Go.Proofs.YtklfdfnoebnciaaGreatDoor
open List(length_flatMap map_take)
open Go Go.az Go.aD
variable {J:SK}
theorem SR{r:Rw}:lim T (.call false 155 [.agg r.enc] J)=some (.val (.bool r.alone) J):=by
 refine au C7 o7.eq_1 rfl ?_;cases hc1:bT r.t 0 400
 .simp[-length_flatMap,-map_take,iZ,Rw.alone,hc1]
 cases hc2:bT r.p 1 10000
 .simp[-length_flatMap,-map_take,iZ,Rw.alone,hc1,hc2]
 cases hc3:bT r.l 0 4000
 .simp[-length_flatMap,-map_take,iZ,Rw.alone,hc1,hc2,hc3]
 cases hc4:bT r.s 0 2000
 .simp[-length_flatMap,-map_take,iZ,Rw.alone,hc1,hc2,hc3,hc4]
 by_cases hc5:r.l<r.v
 rotate_left
 .simp[-length_flatMap,-map_take,iZ,Rw.alone,hc1,hc2,hc3,hc4,hc5]
 simp[-length_flatMap,-map_take,iZ,Rw.alone,hc1,hc2,hc3,hc4,hc5]
theorem VX{l:List Rw}(hl:l.length<=1000000000):lim T (.call false 154 [.aG l.length (l.flatMap Rw.enc),.fn 155 [] []] J)=some (.val (.bool (fk l Rw.alone)) J) :=
 zg (wE 5 Rw.enc (λ_=>rfl)) (f:=154) (g:=210) (h:=209) (i:=250) (l:=l) (p:=Rw.alone) rfl rfl rfl rfl (by omega) (oP.fn λx _ J=>SR) rfl
theorem UX{t l:List Rw}{o:Rw}(hto:t=o::l)(hl:l.length<=100):∀(m i:Nat),i+m=l.length ->
  WL T [0,16,17,18] false fy [(0,.aG t.length (t.flatMap Rw.enc)),(16,.aG l.length (l.flatMap Rw.enc)),(17,.int .i64 l.length),(18,.int .i64 i)] J
   (λx e J'=>J'=J/\if Ep (t.drop i)then x=.exit 0 else x=.ret/\get e 2=.bool false)
 |0,i,hi=>by
  refine aJ fy.eq_1 ?_;have h1:¬i<l.length:=by omega
  have h2:t.drop i=[t[i]'(by subst hto;simp;omega)]:=by
   rw[List.drop_eq_getElem_cons (by subst hto;simp;omega),aA (by subst hto;simp;omega)]
  simp[-length_flatMap,-map_take,h1,h2,Ep]
 |m+1,i,hi=>by
  refine aJ fy.eq_1 ?_;have h1:i<l.length:=by omega
  have htl:t.length=l.length+1:=by subst hto;rfl
  obtain⟨r,hr⟩:=gE h1;obtain⟨r0,hr0⟩:∃r0,t[i]?=some r0:=gE (by omega);have h2:=cf (f:=Rw.enc) (w:=5) (λ_=>rfl) hr;have h3:=cf (f:=Rw.enc) (w:=5) (λ_=>rfl) hr0;have h4:=eT h1;have h6:t.drop (i+1)=r::t.drop (i+2):=drop_at (by subst hto;simpa using hr);have h5:t.drop i=r0::r::t.drop (i+2):=by rw[drop_at hr0,h6]
  have ih:=UX hto hl m (i+1) (by omega);rw[h6]at ih;rw[h5,Ep];have hlt:(i:Int)<(t.length:Int):=by omega
  have hlt':i<t.length:=by omega
  by_cases c1:r.t<=r0.t
  .simp[-length_flatMap,-map_take,h1,hlt,hlt',h2,h3,h4,c1,Rw.Iq]
  by_cases c2:r.p<=r0.p
  .simp[-length_flatMap,-map_take,h1,hlt,hlt',h2,h3,h4,c1,c2,Rw.Iq]
  by_cases c3:r.l<=r0.l
  .simp[-length_flatMap,-map_take,h1,hlt,hlt',h2,h3,h4,c1,c2,c3,Rw.Iq]
  by_cases c4:r.s<r0.s
  .simp[-length_flatMap,-map_take,h1,hlt,hlt',h2,h3,h4,c1,c2,c3,c4,Rw.Iq]
  .simp[-length_flatMap,-map_take,h1,hlt,hlt',h2,h3,h4,c1,c2,c3,c4,Rw.Iq];have hc:r0.t<r.t/\r0.p<r.p/\r0.l<r.l/\r0.s<=r.s:=by omega
   exact WL.to ih (by simp) rfl λx e J' hh=>by simpa[hc]using hh
theorem Cb{t:List Rw}(hl:t.length<=1000000000):lim T (.call false 96 [.aG t.length (t.flatMap Rw.enc)] J)=some (.val (.bool (jj t)) J):=by
 refine au BP mo.eq_1 rfl ?_;have ha:=λJ=>VX (J:=J) (l:=t) hl
 cases hc1:bT t.length 2 20
 .simp[-length_flatMap,-map_take,iZ,hc1,jj]
 cases hc2:fk t Rw.alone
 .simp[-length_flatMap,-map_take,iZ,hc1,hc2,ha,jj]
 obtain⟨o,l,hto⟩:∃o l,t=o::l:=by
  cases t with
  |nil=>simp[bT]at hc1
  |cons o l=>exact⟨o,l,rfl⟩
 have hi:=aU.1 hc1;have htl:t.length=l.length+1:=by subst hto;rfl
 have h1:(1:Int)<=(t.length:Int):=by omega
 have h2:t.length-1=l.length:=by omega
 have h3:((t.flatMap Rw.enc).drop 5).take (l.length*5)=l.flatMap Rw.enc:=by
  subst hto;have:=GA (f:=Rw.enc) (w:=5) (λ_=>rfl) l;simpa using this
 simp[-length_flatMap,-map_take,iZ,hc1,hc2,ha,h1,h2,h3];refine WL.to (UX (J:=[]::J) hto (by omega) l.length 0 (by omega)) (by simp) rfl ?_;rintro x e J' ⟨rfl,h⟩;simp only[aK]at h;unfold jj;cases hc3:Ep t
 .rw[hc3]at h;simp at h;simp[h,hc2,hc1]
 .rw[hc3]at h;simp at h;subst h;simp[-length_flatMap,-map_take,hc2,hc1]
theorem yZ{l:List Rw}(hl:l.length<=1000000000):lim T (.call false 66 [.aG l.length (l.flatMap Rw.enc)] J)=some (.val (.int .i64 (if jj l then 0 else 1)) J):=by
 refine au Cx nL.eq_1 rfl ?_;cases hc:jj l<;>simp[-length_flatMap,-map_take,Cb hl,hc]
theorem MW{b:b9}(hx:1<=b.f.x/\b.f.x<=8)(hy:1<=b.f.y/\b.f.y<=8)(hz:1<=b.f.z/\b.f.z<=8):lim T (.call false 157 [.agg [.int .i64 b.f.x,.int .i64 b.f.y,.int .i64 b.f.z,.int .i64 b.f.k,.aG b.b8.length (b.b8.flatMap Rw.enc),.int .i64 b.bF,.int .i64 b.lift,.int .i64 b.deep,.aG b.ak.length (b.ak.flatMap bE.enc)]] J)=some (.val (.int .i64 b.size) J):=by
 refine au E9 sh.eq_1 rfl ?_;obtain⟨h1,h2⟩:=eu.sz hx hy hz;have w1:=eF (n:=b.f.x*b.f.y);have w2:=eF (n:=b.f.x*b.f.y*b.f.z);simp[-length_flatMap,-map_take,w1,w2,b9.size,eu.size]
def sY(b:Bool):List D:=[.bool b]
def rY(n:Nat)(ak:List bE):Nat->List Bool
 |0=>List.replicate n false
 |i+1=>match ak[i]? with
  |some w=>if bT w.b 0 ((n:Int)-1)=true/\(rY n ak i)[w.b.toNat]?=some false then(rY n ak i).set w.b.toNat true else rY n ak i
  |none=>rY n ak i
theorem yW{n:Nat}{ak:List bE}:∀i,(rY n ak i).length=n
 |0=>by simp[rY]
 |i+1=>by
  simp only[rY];split
  .split
   .simp[yW i]
   .exact yW i
  .exact yW i
def xQ(n:Nat)(ak:List bE)(i:Nat):Bool :=
 match ak[i]? with
 |some w=>bT w.b 0 ((n:Int)-1) && (decide ((rY n ak i)[w.b.toNat]?=some false) && (bT w.h 0 3000 && bT w.m 0 1000000))
 |none=>true
def Ez(n:Nat)(ak:List bE)(J:SK)(i:Nat):SK:=[.cells 0 ((rY n ak i).flatMap sY),.cells 0 [.sl J.length 0 0 0 n 1]]::J
theorem QG{l:List Bool}{j:Nat}{x:Bool}(h:l[j]?=some x):((l.flatMap sY).drop j)=.bool x::(l.flatMap sY).drop (j+1):=by
 have:=zx (f:=sY) (w:=1) (λ_=>rfl) h;simpa[sY]using this
theorem OB{l:List Bool}{j:Nat}{x:Bool}(h:j<l.length):(l.flatMap sY).take j++(.bool x::(l.flatMap sY).drop (j+1))=(l.set j x).flatMap sY:=by
 have:=Nx (f:=sY) (w:=1) (λ_=>rfl) (x:=x) h;simpa[sY]using this
theorem OA{l:List Bool}:(l.flatMap sY).length=l.length:=by
 have:=bZ (f:=sY) (w:=1) (λ_=>rfl) l;omega
theorem LF{n:Nat}{ak:List bE}(hn:n<=512){i:Nat}{w:bE}(hw:ak[i]?=some w):
  lim T (.call false 159 [.agg w.enc,.ref J.length 1 0 0] ([]::[]::[]::[]::Ez n ak J i))=some (.val (.bool (xQ n ak i)) ([]::[]::[]::[]::Ez n ak J (i+1))):=by
 refine eQ Cn nz.eq_1 rfl (by simp[Ez]) ?_;have hlen:=yW (n:=n) (ak:=ak) i;have w1:=eF (n:=(n:Int)-1);have hwp:xQ n ak i=(bT w.b 0 ((n:Int)-1) && (decide ((rY n ak i)[w.b.toNat]?=some false) && (bT w.h 0 3000 && bT w.m 0 1000000))):=by simp[xQ,hw]
 have hus:rY n ak (i+1)=if bT w.b 0 ((n:Int)-1)=true/\(rY n ak i)[w.b.toNat]?=some false then(rY n ak i).set w.b.toNat true else rY n ak i:=by simp[rY,hw]
 rw[hwp];simp only[Ez];generalize rY n ak (i+1)=us' at *
 generalize rY n ak i=us at *
 cases hc1:bT w.b 0 ((n:Int)-1)
 .rw[hc1]at hus;simp at hus;subst hus;simp[-length_flatMap,-map_take,cU,w1,hc1]
 .obtain⟨g1,g2⟩:=aU.1 hc1;have g3:w.b<(n:Int):=by omega
  obtain⟨u,hu⟩:∃u,us[w.b.toNat]?=some u:=⟨_,aL (by omega)⟩;have hat:=QG hu;have hset:=OB (l:=us) (j:=w.b.toNat) (x:=true) (by omega);have hlen2:(us.flatMap sY).length=n:=by rw[OA,hlen]
  have hle:w.b.toNat+1<=n:=by omega
  rw[hc1,hu]at hus;cases u
  .simp at hus;subst hus;cases hc2:bT w.h 0 3000<;>
    simp[-length_flatMap,-map_take,cU,w1,hc1,hu,g1,g3,hat,hset,hlen2,hle,hc2]
  .simp at hus;subst hus;simp[-length_flatMap,-map_take,cU,w1,hc1,hu,g1,g3,hat,hlen2]
theorem Lj{n:Nat}{ak:List bE}:∀{i:Nat},i<=ak.length->(∀j,j<i->xQ n ak j=true)->∀k:Nat,k<n->(rY n ak i)[k]?=some (((ak.take i).map (·.b)).contains (k:Int))
 |0,_,_,k,hk=>by simp[rY,hk]
 |i+1,hi,h,k,hk=>by
  obtain⟨w,hw⟩:∃w,ak[i]?=some w:=gE (by omega);have ih:=Lj (i:=i) (by omega) (λj hj=>h j (by omega));have hp:=h i (by omega);simp only[xQ,hw,ae,ao]at hp;obtain⟨h1,h2,_⟩:=hp;obtain⟨g1,g2⟩:=aU.1 h1;have ht:ak.take (i+1)=ak.take i++[w]:=by rw[List.take_add_one,hw];rfl
  simp only[rY,hw];rw[if_pos ⟨h1,h2⟩,ht];rw[List.getElem?_set];by_cases hkw:w.b.toNat=k
  .subst hkw;have hb:w.b=((w.b.toNat:Nat):Int):=by omega
   simp[yW,hk];right;omega
  .rw[if_neg hkw,ih k hk];congr 1;have:((k:Int) == w.b)=false:=by simp;omega
   simp[List.contains_append,this];intro hh;omega
theorem Bb{n:Nat}{ak:List bE}:∀(m i:Nat),i+m=ak.length->(∀j,j<i->xQ n ak j=true) ->
  (tV (n:Int) ((ak.take i).map (·.b)) (ak.drop i)=true↔∀j,i<=j->j<ak.length->xQ n ak j=true)
 |0,i,hi,h=>by
  rw[aA (by omega)];simp only[tV,true_iff];intro j h1 h2;omega
 |m+1,i,hi,h=>by
  obtain⟨w,hw⟩:∃w,ak[i]?=some w:=gE (by omega);have hu:=Lj (n:=n) (i:=i) (by omega) h;have hone:bE.ok (n:Int) ((ak.take i).map (·.b)) w=xQ n ak i:=by
   simp only[xQ,hw,bE.ok];cases hc:bT w.b 0 ((n:Int)-1)
   .rfl
   .obtain⟨g1,g2⟩:=aU.1 hc;have:=hu w.b.toNat (by omega);rw[this,show((w.b.toNat:Nat):Int)=w.b from by omega];cases((ak.take i).map (·.b)).contains w.b<;>simp
  rw[drop_at hw,tV,hone,ae];have ht:(ak.take i).map (·.b)++[w.b]=(ak.take (i+1)).map (·.b):=by rw[List.take_add_one,hw];simp
  rw[ht];constructor
  .rintro⟨h1,h2⟩ j hj1 hj2;by_cases hji:j=i
   .subst hji;exact h1
   .refine((Bb m (i+1) (by omega) λj hj=>?_).1 h2) j (by omega) hj2;by_cases hji:j=i
    .subst hji;exact h1
    .exact h j (by omega)
  .intro hh;have h1:=hh i (by omega) (by omega);refine⟨h1,(Bb m (i+1) (by omega) λj hj=>?_).2 λj hj1 hj2=>hh j (by omega) hj2⟩;by_cases hji:j=i
   .subst hji;exact h1
   .exact h j (by omega)
theorem LG{n:Nat}{ak:List bE}(hn:n<=512)(hl:ak.length<=1000000000):∃s,
  lim T (.call false 158 [.aG ak.length (ak.flatMap bE.enc),.fn 159 [] [.ref J.length 1 0 0]] ([.cells 0 ((List.replicate n false).flatMap sY),.cells 0 [.sl J.length 0 0 0 n 1]]::J)) =
   some (.val (.bool (tV (n:Int) [] ak)) (s::J)):=by
 have h:=IV (wE 3 bE.enc (λ_=>rfl)) (T:=T) (S:=Ez n ak J) (fv:=.fn 159 [] [.ref J.length 1 0 0]) (l:=ak) (f:=158) (g:=212) (h:=211) (i:=251) (p:=xQ n ak)
  rfl rfl rfl rfl (by omega) rfl rfl rfl (λi=>by simp[Ez]) (λi x hx=>by
   rw[rH];have:=LF (J:=J) hn hx;show R.bg (lim T (.call false 159 [.agg x.enc,.ref J.length 1 0 0] _))=_
   rw[this];rfl)
 have he:(!(oF (λi => !xQ n ak i) 0 ak.length).1)=tV (n:Int) [] ak:=by
  have h1:=Bb (n:=n) (ak:=ak) ak.length 0 (by omega) (by simp);have h2:=Bz (q:=λi => !xQ n ak i) (m:=ak.length) (i:=0);simp only[List.take_zero,bS,aK]at h1;cases hw:tV (n:Int) [] ak
  .rw[Bool.not_eq_false'];cases hs:(oF (λi => !xQ n ak i) 0 ak.length).1
   .have h3:=h2.1 hs;have h4:=h1.2 λj _ hj=>by have:=h3 j hj;simpa using this
    rw[hw]at h4;cases h4
   .rfl
  .rw[cG];refine h2.2 λj hj=>?_
   have:=h1.1 hw j (by omega) hj;simpa using this
 rw[he]at h;refine⟨[.cells 0 ((rY n ak (oF (λi => !xQ n ak i) 0 ak.length).2).flatMap sY),.cells 0 [.sl J.length 0 0 0 n 1]],?_⟩;exact h
theorem Al{b:b9}(h1:b.b8.length<=1000000000)(h2:b.ak.length<=1000000000):lim T (.call false 97 [.agg [.int .i64 b.f.x,.int .i64 b.f.y,.int .i64 b.f.z,.int .i64 b.f.k,.aG b.b8.length (b.b8.flatMap Rw.enc),.int .i64 b.bF,.int .i64 b.lift,.int .i64 b.deep,.aG b.ak.length (b.ak.flatMap bE.enc)]] J)=some (.val (.bool b.valid) J):=by
 refine au DX qh.eq_1 rfl ?_;have hT:=λJ=>yZ (J:=J) (l:=b.b8) h1
 unfold b9.valid b9.ok1;cases hc1:b.f.valid
 .simp[-length_flatMap,-map_take,iy,eu.shape,hc1]
 by_cases hc2:b.f.k<4
 .simp[-length_flatMap,-map_take,iy,eu.shape,hc1,hc2,show ¬4<=b.f.k by omega]
 have hc2':4<=b.f.k:=by omega
 cases hc3:jj b.b8
 .simp[-length_flatMap,-map_take,iy,eu.shape,hc1,hc2,hT,hc3]
 cases hc4:bT b.bF 1 100000
 .simp[-length_flatMap,-map_take,iy,eu.shape,hc1,hc2,hT,hc3,cU,hc4]
 cases hc5:bT b.lift 0 1000
 .simp[-length_flatMap,-map_take,iy,eu.shape,hc1,hc2,hT,hc3,cU,hc4,hc5]
 cases hc6:bT b.deep 0 3000
 .simp[-length_flatMap,-map_take,iy,eu.shape,hc1,hc2,hT,hc3,cU,hc4,hc5,hc6]
 by_cases hc7:8<b.ak.length
 .simp[-length_flatMap,-map_take,iy,eu.shape,hc1,hc2,hT,hc3,cU,hc4,hc5,hc6,hc7,show ¬b.ak.length<=8 by omega,show(8:Int)<b.ak.length by omega]
 obtain⟨g1,g2,g3,g4,g5⟩:=eu.sU.1 hc1;obtain⟨_,g6⟩:=eu.sz g1 g2 g3;have hsz:=λJ=>MW (J:=J) (b:=b) g1 g2 g3
 have hs:b.size=((b.n:Nat):Int):=by unfold b9.n b9.size eu.size;omega
 have hn:b.n<=512:=by unfold b9.n b9.size eu.size;omega
 have hnil:((List.range b.n).flatMap λ_=>[D.bool false])=(List.replicate b.n false).flatMap sY:=by
  have:∀n,((List.range n).flatMap λ_=>[D.bool false])=(List.replicate n false).flatMap sY:=by
   intro n;induction n with
   |zero=>rfl
   |succ n ih=>rw[List.range_succ,dE,ih,List.replicate_succ'];simp[sY]
  exact this _
 obtain⟨s,hall⟩:=LG (J:=J) (n:=b.n) (ak:=b.ak) hn h2;rw[<- hs]at hall;have hroom:(b.n:Int)<=140737488355328:=by omega
 rw[hs]at hsz;simp[-length_flatMap,-map_take,iy,eu.shape,hc1,hc2,hT,hc3,cU,hc4,hc5,hc6,show ¬(8:Int)<b.ak.length by omega,show b.ak.length<=8 by omega,hsz,room,hroom,hnil,hall,hc2']
theorem Q7{l:List Int}{i n:Nat}:((l.flatMap aX).drop i).take n=((l.drop i).take n).flatMap aX:=by
 simp only[show aX=λn=>[D.int .i64 n]from rfl,Kq,<- List.map_drop,<- List.map_take]
theorem pv{l:List Int}{j:Nat}{x:Int}(h:l[j]?=some x):((l.flatMap aX).drop j).take 1=[.int .i64 x]:=by
 have:=cf (f:=aX) (w:=1) (λ_=>rfl) h;simpa using this
theorem cl(l:List Rw):D.bx (l.flatMap Rw.enc)=true:=eS (λx=>by simp) l
theorem bh(l:List bE):D.bx (l.flatMap bE.enc)=true:=eS (λx=>by simp) l
theorem bq(l:List Int):D.bx (l.flatMap aX)=true:=eS (λx=>by simp) l
theorem Gj(l:List aD.aI):D.bx (l.flatMap aI.enc)=true:=eS (λx=>by simp) l
structure Bv(b:b9):Prop where
 x:1<=b.f.x/\b.f.x<=8
 y:1<=b.f.y/\b.f.y<=8
 z:1<=b.f.z/\b.f.z<=8
 k:4<=b.f.k/\b.f.k<=6
 sz:b.f.size=((b.n:Nat):Int)
 n:1<=b.n/\b.n<=64
 b8:jj b.b8=true
 bF:1<=b.bF/\b.bF<=100000
 lift:0<=b.lift/\b.lift<=1000
 deep:0<=b.deep/\b.deep<=3000
 ak:b.ak.length<=8
 ok:tV b.size [] b.ak=true
theorem Bv.of{b:b9}(h:b.valid=true):Bv b:=by
 simp only[b9.valid,b9.ok1,ae,ao]at h;obtain⟨⟨h1,h2,h3,h4,h5,h6,h7⟩,h8⟩:=h;obtain⟨g1,g2,g3,g4,g5⟩:=eu.sU.1 h1;obtain⟨_,g6⟩:=eu.sz g1 g2 g3;refine⟨g1,g2,g3,⟨h2,g5.2⟩,?_,?_,h3,aU.1 h4,aU.1 h5,aU.1 h6,h7,h8⟩
 .unfold b9.n b9.size eu.size;omega
 .unfold b9.n b9.size;unfold eu.size at g4 ⊢;omega
theorem Bv.fv{b:b9}(h:Bv b):b.f.valid=true:=eu.sU.2 ⟨h.x,h.y,h.z,by have:=h.sz;have:=h.n;omega,by have:=h.k;omega⟩
structure Mv(b:b9)(m:cq):Prop where
 bv:Bv b
 len:(m.bg.length:Int)=b.f.k*b.f.size
theorem Mv.le{b:b9}{m:cq}(h:Mv b m):4*b.n<=m.bg.length/\m.bg.length<=384:=by
 have h1:=h.bv.k;have h2:=h.bv.sz;have h3:=h.bv.n;have h4:=h.len;have h5:=(bK h1.1 (by omega:(0:Int)<=b.f.size));have h6:=NG (a:=b.f.k) (b:=b.f.size) (A:=6) (B:=64) (by omega) h1.2 (by omega) (by omega);omega
theorem yw{b:b9}(h:Bv b):lim T (.call false 157 [.agg [.int .i64 b.f.x,.int .i64 b.f.y,.int .i64 b.f.z,.int .i64 b.f.k,.aG b.b8.length (b.b8.flatMap Rw.enc),.int .i64 b.bF,.int .i64 b.lift,.int .i64 b.deep,.aG b.ak.length (b.ak.flatMap bE.enc)]] J)=some (.val (.int .i64 b.n) J):=by
 have:=MW (J:=J) (b:=b) h.x h.y h.z;rw[show b.size=((b.n:Nat):Int)from h.sz]at this;exact this
theorem FJ{b:b9}{m:cq}(h:Mv b m){k:Nat}(hk:k<4):lim T (.call false 214 [.agg [.int .i64 b.f.x,.int .i64 b.f.y,.int .i64 b.f.z,.int .i64 b.f.k,.aG b.b8.length (b.b8.flatMap Rw.enc),.int .i64 b.bF,.int .i64 b.lift,.int .i64 b.deep,.aG b.ak.length (b.ak.flatMap bE.enc),.str m.name,.aG m.bg.length (m.bg.flatMap aX)],.int .i64 k] J)=some (.val (.aG b.n ((vf b m k).flatMap aX)) J):=by
 refine au Ct nG.eq_1 rfl ?_;obtain⟨h1,h2⟩:=h.le;have h3:=h.bv.n;have hs:=λJ=>yw (J:=J) h.bv
 have e1:(k:Int)*(b.n:Int)=((k*b.n:Nat):Int):=by push_cast;rfl
 have e2:((k:Int)+1)*(b.n:Int)=(((k+1)*b.n:Nat):Int):=by push_cast;rfl
 have b1:(k+1)*b.n<=m.bg.length:=iB (ct _ (by omega:k+1<=4)) h1;have b2:(k+1)*b.n=k*b.n+b.n:=dH _ _;have w1:=eF (n:=(k:Int)*b.n) (by rw[e1];omega);have w2:=eF (n:=(k:Int)+1);have w3:=eF (n:=((k:Int)+1)*b.n) (by rw[e2];omega);have e3:(k+1)*b.n-k*b.n=b.n:=by omega
 have hsub:=Q7 (l:=m.bg) (i:=k*b.n) (n:=b.n);have hle:(k:Int)*b.n<=((k:Int)+1)*b.n:=by rw[e1,e2];omega
 simp[-length_flatMap,-map_take,hs,w1,w2,w3];rw[e1,e2];have c1:(0:Int)<=((k*b.n:Nat):Int):=by omega
 have c2:((k*b.n:Nat):Int)<=(((k+1)*b.n:Nat):Int):=by omega
 have c3:(((k+1)*b.n:Nat):Int)<=(m.bg.length:Int):=by omega
 have c4:(0:Int)<=(((k+1)*b.n:Nat):Int):=by omega
 simp only[c1,c2,c3,c4,and_self,if_true,Int.toNat_natCast,Option.bind_some,aQ,Da,e3,hsub];simp[-length_flatMap,-map_take,vf,hle,e3,hsub,bq]
theorem H9{b:b9}{m:cq}(h:Mv b m){k:Nat}(hk:k<4):(vf b m k).length=b.n:=by
 obtain⟨h1,h2⟩:=h.le;have b1:(k+1)*b.n<=m.bg.length:=iB (ct _ (by omega:k+1<=4)) h1;have b2:(k+1)*b.n=k*b.n+b.n:=dH _ _;simp[vf];omega
theorem wK{b:b9}{m:cq}(h:Mv b m){k i:Nat}(hk:k<4)(hi:i<b.n):(vf b m k)[i]?=some (uw b m k i):=by
 obtain⟨h1,h2⟩:=h.le;have b1:(k+1)*b.n<=m.bg.length:=iB (ct _ (by omega:k+1<=4)) h1;have b2:(k+1)*b.n=k*b.n+b.n:=dH _ _;have h3:k*b.n+i<m.bg.length:=by omega
 simp only[vf,uw,dS,gY,if_pos hi,aL h3,fj]
theorem PT{b:b9}{m:cq}(h:Mv b m){i:Nat}(hi:i<b.n):lim T (.call false 161 [.agg [.int .i64 b.f.x,.int .i64 b.f.y,.int .i64 b.f.z,.int .i64 b.f.k,.aG b.b8.length (b.b8.flatMap Rw.enc),.int .i64 b.bF,.int .i64 b.lift,.int .i64 b.deep,.aG b.ak.length (b.ak.flatMap bE.enc),.str m.name,.aG m.bg.length (m.bg.flatMap aX)],.int .i64 i] J)=some (.val (.int .i64 (hold b m i)) J):=by
 refine au Cs nF.eq_1 rfl ?_;have hk:=λJ=>FJ (J:=J) h (k:=0) (by omega)
 have ha:=pv (wK h (k:=0) (by omega) hi);simp only[Int.ofNat_zero]at hk;simp[-length_flatMap,-map_take,hk,hi,ha,hold]
theorem P0{b:b9}{m:cq}(h:Mv b m){i:Nat}(hi:i<b.n):lim T (.call false 255 [.agg [.int .i64 b.f.x,.int .i64 b.f.y,.int .i64 b.f.z,.int .i64 b.f.k,.aG b.b8.length (b.b8.flatMap Rw.enc),.int .i64 b.bF,.int .i64 b.lift,.int .i64 b.deep,.aG b.ak.length (b.ak.flatMap bE.enc),.str m.name,.aG m.bg.length (m.bg.flatMap aX)],.int .i64 i] J)=some (.val (.int .i64 (Hx b m i)) J):=by
 refine au Cu nH.eq_1 rfl ?_;have hk:=λJ=>FJ (J:=J) h (k:=1) (by omega)
 have ha:=pv (wK h (k:=1) (by omega) hi);simp at hk;simp[-length_flatMap,-map_take,hk,hi,ha,Hx]
theorem V3{b:b9}{m:cq}(h:Mv b m){i:Nat}(hi:i<b.n):lim T (.call false 162 [.agg [.int .i64 b.f.x,.int .i64 b.f.y,.int .i64 b.f.z,.int .i64 b.f.k,.aG b.b8.length (b.b8.flatMap Rw.enc),.int .i64 b.bF,.int .i64 b.lift,.int .i64 b.deep,.aG b.ak.length (b.ak.flatMap bE.enc),.str m.name,.aG m.bg.length (m.bg.flatMap aX)],.int .i64 i] J)=some (.val (.int .i64 (HE b m i)) J):=by
 refine au Cw nJ.eq_1 rfl ?_;have hk:=λJ=>FJ (J:=J) h (k:=2) (by omega)
 have ha:=pv (wK h (k:=2) (by omega) hi);simp at hk;simp[-length_flatMap,-map_take,hk,hi,ha,HE]
theorem VP{b:b9}{m:cq}(h:Mv b m){i:Nat}(hi:i<b.n):lim T (.call false 256 [.agg [.int .i64 b.f.x,.int .i64 b.f.y,.int .i64 b.f.z,.int .i64 b.f.k,.aG b.b8.length (b.b8.flatMap Rw.enc),.int .i64 b.bF,.int .i64 b.lift,.int .i64 b.deep,.aG b.ak.length (b.ak.flatMap bE.enc),.str m.name,.aG m.bg.length (m.bg.flatMap aX)],.int .i64 i] J)=some (.val (.int .i64 (feed b m i)) J):=by
 refine au Cq nD.eq_1 rfl ?_;have hk:=λJ=>FJ (J:=J) h (k:=3) (by omega)
 have ha:=pv (wK h (k:=3) (by omega) hi);simp at hk;simp[-length_flatMap,-map_take,hk,hi,ha,feed]
theorem SX{lo hi n:Int}:lim T (.call false 215 [.int .i64 n,.ref J.length 0 0 0] ([]::[]::[]::[]::[.cells 0 [.int .i64 lo,.int .i64 hi]]::J))=some (.val (.bool (bT n lo hi)) ([]::[]::[]::[]::[.cells 0 [.int .i64 lo,.int .i64 hi]]::J)):=by
 refine au Au lj.eq_1 rfl ?_;simp[-length_flatMap,-map_take,cU]
theorem Oh{b:b9}{m:cq}(h:Mv b m){k:Nat}(hk:k<4){lo hi:Int}:lim T (.call false 213 [.aG b.n ((vf b m k).flatMap aX),.fn 215 [] [.ref J.length 0 0 0]] ([.cells 0 [.int .i64 lo,.int .i64 hi]]::J)) =
  some (.val (.bool (fk (vf b m k) λn=>bT n lo hi)) ([.cells 0 [.int .i64 lo,.int .i64 hi]]::J)):=by
 have hl:=H9 h hk;have hn:=h.bv.n;have:=TB (I5 .i64) (T:=T) (f:=213) (g:=252) (h:=36) (i:=43) (l:=vf b m k) (p:=λn=>bT n lo hi) (fv:=.fn 215 [] [.ref J.length 0 0 0]) (J:=[.cells 0 [.int .i64 lo,.int .i64 hi]]::J)
  rfl rfl rfl rfl (by omega) rfl rfl rfl (λx _=>by
   rw[rH];have:=SX (J:=J) (lo:=lo) (hi:=hi) (n:=x);show R.bg (lim T (.call false 215 [.int .i64 x,.ref J.length 0 0 0] _))=_
   rw[this];rfl)
 rw[hl]at this;exact this
def Jv:Nat->Int×Int
 |0=>(1000,100000)
 |1=>(0,1000)
 |2=>(0,3000)
 |_=>(0,1000)
def yH(b:b9)(m:cq)(i:Nat):Nat->Bool
 |0=>true
 |n+1=>fk (vf b m i) (λx=>bT x (Jv i).1 (Jv i).2) && yH b m (i+1) n
theorem Qp{b:b9}{m:cq}(h:Mv b m):∀(n i:Nat),i+n=4 ->
  WL T [1,17,18] true gS [(1,.bu [.int .i64 b.f.x,.int .i64 b.f.y,.int .i64 b.f.z,.int .i64 b.f.k,.aG b.b8.length (b.b8.flatMap Rw.enc),.int .i64 b.bF,.int .i64 b.lift,.int .i64 b.deep,.aG b.ak.length (b.ak.flatMap bE.enc),.str m.name,.aG m.bg.length (m.bg.flatMap aX)]),(17,.agg [.int .i64 1000,.int .i64 100000,.int .i64 0,.int .i64 1000,.int .i64 0,.int .i64 3000,.int .i64 0,.int .i64 1000]),(18,.int .i64 i)] J
   (λx e J'=>J'=J/\if yH b m i n=true then x=.exit 0 else x=.ret/\get e 2=.bool false)
 |0,i,hi=>by
  refine Db gS.eq_1 ?_;obtain rfl:i=4:=by omega
  simp[-length_flatMap,-map_take,yH,cl,bh,bq]
 |n+1,i,hi=>by
  refine Db gS.eq_1 ?_;have hk:i<4:=by omega
  have hK:=λJ=>FJ (J:=J) h hk
  have ih:=Qp h n (i+1) (by omega);have hA:=Oh (J:=J) h hk (lo:=(Jv i).1) (hi:=(Jv i).2);simp only[yH];rcases Bool.eq_false_or_eq_true (fk (vf b m i) (λx=>bT x (Jv i).1 (Jv i).2))with hc | hc
  .rw[hc]at hA;obtain rfl | rfl | rfl | rfl:i=0\/i=1\/i=2\/i=3:=by omega
   all_goals
    simp only[Jv]at hA hc ⊢
    try simp at hK
    simp[-length_flatMap,-map_take,hK,hA,hc,cl,bh,bq];exact WL.to ih (by simp[cl,bh,bq]) (by simp[cl,bh,bq]) λx e J' hh=>by simpa[hc]using hh
  .rw[hc]at hA;obtain rfl | rfl | rfl | rfl:i=0\/i=1\/i=2\/i=3:=by omega
   all_goals
    simp only[Jv]at hA hc ⊢
    try simp at hK
    simp[-length_flatMap,-map_take,hK,hA,hc,cl,bh,bq]
theorem Mv.of{b:b9}{m:cq}(h:Bv b)(hc:fm b.f [m]=0):Mv b m:=by
 refine⟨h,?_⟩;simp only[fm,h.fv,if_true,eu.an]at hc;have h1:bT (([m]:List cq).length:Nat) 1 40=true:=by simp[bT]
 rw[if_pos h1]at hc;simp only[eu.each]at hc;split at hc
 .rename_i hm;unfold eu.model at hm;split at hm
  .split at hm
   .rename_i hh;exact hh.1
   .cases hm
  .cases hm
 .rename_i hm;exact absurd hc hm
theorem Ly{b:b9}{m:cq}(h:Bv b)(hn:m.name.length<=1000000000)(hl:m.bg.length<=1000000000):lim T (.call false 160 [.agg [.int .i64 b.f.x,.int .i64 b.f.y,.int .i64 b.f.z,.int .i64 b.f.k,.aG b.b8.length (b.b8.flatMap Rw.enc),.int .i64 b.bF,.int .i64 b.lift,.int .i64 b.deep,.aG b.ak.length (b.ak.flatMap bE.enc),.str m.name,.aG m.bg.length (m.bg.flatMap aX)]] J)=some (.val (.bool (fits b m)) J):=by
 refine au Cr nE.eq_1 rfl ?_;have hC:=λJ=>BY (J:=J) (f:=b.f) (l:=[m]) (by simpa using⟨hn,hl⟩) (by simp)
 simp at hC;by_cases hc:fm b.f [m]=0
 .have hm:=Mv.of h hc;simp[-length_flatMap,-map_take,hC,hc];refine WL.to (Qp (J:=[]::J) hm 4 0 (by omega)) (by simp) rfl ?_;rintro x e J' ⟨rfl,hh⟩;have he:yH b m 0 4=fits b m:=by
   simp[yH,fits,hc,Jv]
  rw[he]at hh;cases hf:fits b m
  .rw[hf]at hh;simp at hh;simp[hh]
  .rw[hf]at hh;simp at hh;subst hh;simp[-length_flatMap,-map_take]
 .simp[-length_flatMap,-map_take,hC,hc,fits]
theorem UN{b:b9}{m:cq}(h1:b.b8.length<=1000000000)(h2:b.ak.length<=1000000000)(hn:m.name.length<=1000000000)(hl:m.bg.length<=1000000000)(hb:Bd b m=true):
  lim T (.call false 99 [.agg [.int .i64 b.f.x,.int .i64 b.f.y,.int .i64 b.f.z,.int .i64 b.f.k,.aG b.b8.length (b.b8.flatMap Rw.enc),.int .i64 b.bF,.int .i64 b.lift,.int .i64 b.deep,.aG b.ak.length (b.ak.flatMap bE.enc)],.agg [.str m.name,.aG m.bg.length (m.bg.flatMap aX)]] J)=some (.val (.dj [.agg [.int .i64 b.f.x,.int .i64 b.f.y,.int .i64 b.f.z,.int .i64 b.f.k,.aG b.b8.length (b.b8.flatMap Rw.enc),.int .i64 b.bF,.int .i64 b.lift,.int .i64 b.deep,.aG b.ak.length (b.ak.flatMap bE.enc),.str m.name,.aG m.bg.length (m.bg.flatMap aX)],.int .i64 0]) J):=by
 refine au F2 wH.eq_1 rfl ?_;simp only[Bd,ae]at hb;have hf:=λJ=>Ly (J:=J) (Bv.of hb.1) hn hl
 simp[-length_flatMap,-map_take,Al h1 h2,hb.1,hf,hb.2,cl,bh,bq]
theorem MU{b:b9}{m:cq}(h1:b.b8.length<=1000000000)(h2:b.ak.length<=1000000000)(hn:m.name.length<=1000000000)(hl:m.bg.length<=1000000000)(hb:Bd b m=false):∃d,
  lim T (.call false 99 [.agg [.int .i64 b.f.x,.int .i64 b.f.y,.int .i64 b.f.z,.int .i64 b.f.k,.aG b.b8.length (b.b8.flatMap Rw.enc),.int .i64 b.bF,.int .i64 b.lift,.int .i64 b.deep,.aG b.ak.length (b.ak.flatMap bE.enc)],.agg [.str m.name,.aG m.bg.length (m.bg.flatMap aX)]] J)=some (.val (.dj [.agg d,.int .i64 1]) J)/\d.length=11/\D.bx d=true:=by
 refine⟨[(.int .i64 0),(.int .i64 0),(.int .i64 0),(.int .i64 0),.bN,(.int .i64 0),(.int .i64 0),(.int .i64 0),.bN,(.str []),.bN],?_,rfl,by simp⟩;refine au F2 wH.eq_1 rfl ?_;cases hc:b.valid
 .simp[-length_flatMap,-map_take,Al h1 h2,hc]
 .have hf:=λJ=>Ly (J:=J) (Bv.of hc) hn hl
  have hb':fits b m=false:=by simpa[Bd,hc]using hb
  simp[-length_flatMap,-map_take,Al h1 h2,hc,hf,hb']
theorem Tb{n:Int}:lim T (.call false 221 [.int .i64 n] J)=some (.val (.bool (bT n (-100000) 100000)) J):=by
 refine au Ck nv.eq_1 rfl ?_;simp[-length_flatMap,-map_take,cU]
theorem On{l:List Int}{p:Int->Bool}{fv:D}(hl:l.length<=1000000000)(ht:oP T fv (λn => .int .i64 n) p l)(hc:fv.cells=some [fv]):
  lim T (.call false 213 [.aG l.length (l.flatMap aX),fv] J)=some (.val (.bool (fk l p)) J) :=
 zg (I5 .i64) (f:=213) (g:=252) (h:=36) (i:=43) (l:=l) (p:=p) (fv:=fv) rfl rfl rfl rfl (by omega) ht hc
theorem Tc{b:b9}{l:List Int}(hl:l.length<=1000000000):lim T (.call false 185 [.agg [.int .i64 b.f.x,.int .i64 b.f.y,.int .i64 b.f.z,.int .i64 b.f.k,.aG b.b8.length (b.b8.flatMap Rw.enc),.int .i64 b.bF,.int .i64 b.lift,.int .i64 b.deep,.aG b.ak.length (b.ak.flatMap bE.enc)],.aG l.length (l.flatMap aX)] J)=some (.val (.int .i64 (zE b l)) J):=by
 refine au DW qd.eq_1 rfl ?_;have ha:=λJ=>On (J:=J) (l:=l) (p:=λn=>bT n (-100000) 100000) (fv:=.fn 221 [] []) hl (oP.fn λx _ J=>Tb) rfl
 unfold zE;by_cases hc1:l.length=b.ak.length
 .rw[<- hc1];cases hc2:fk l (λn=>bT n (-100000) 100000)<;>simp[-length_flatMap,-map_take,hc1,ha,hc2,hc1 ▸ ha]
 .simp[-length_flatMap,-map_take,hc1,show ¬(l.length:Int)=b.ak.length by omega]
def Fj(l:List Int):List D:=[.aG l.length (l.flatMap aX)]
theorem Qq{b:b9}{av:List (List Int)}(hl:av.length<=1000000000)(hs:∀l∈av,l.length<=1000000000):∀(m i:Nat),i+m=av.length ->
  WL T [2,11,12,13] false jA [(2,.bu [.int .i64 b.f.x,.int .i64 b.f.y,.int .i64 b.f.z,.int .i64 b.f.k,.aG b.b8.length (b.b8.flatMap Rw.enc),.int .i64 b.bF,.int .i64 b.lift,.int .i64 b.deep,.aG b.ak.length (b.ak.flatMap bE.enc)]),(11,.aG av.length (av.flatMap Fj)),(12,.int .i64 av.length),(13,.int .i64 i)] J
   (λx e J'=>J'=J/\if cA (zE b) (av.drop i)=0 then x=.exit 0 else x=.ret/\get e 4=.int .i64 (cA (zE b) (av.drop i)))
 |0,i,hi=>by
  refine aJ jA.eq_1 ?_;have h1:¬i<av.length:=by omega
  have h2:av.drop i=[]:=aA (by omega);simp[-length_flatMap,-map_take,h1,h2,cA]
 |m+1,i,hi=>by
  refine aJ jA.eq_1 ?_;have h1:i<av.length:=by omega
  obtain⟨l,hx⟩:=gE h1;have h2:=cf (f:=Fj) (w:=1) (λ_=>rfl) hx;simp only[Fj,gp]at h2;have h4:=eT h1;have h5:=drop_at hx;have hC:=λJ=>Tc (J:=J) (b:=b) (l:=l) (hs l (ai hx))
  rw[h5,cA];have ih:=Qq (b:=b) hl hs m (i+1) (by omega);by_cases hc:zE b l=0
  .simp[-length_flatMap,-map_take,h1,h2,h4,hC,hc,Fj];exact WL.to ih (by simp[Fj]) rfl λx e J' hh=>by simpa[hc]using hh
  .simp[-length_flatMap,-map_take,h1,h2,h4,hC,hc,Fj]
theorem P5{b:b9}{av:List (List Int)}(hl:av.length<=1000000000)(hs:∀l∈av,l.length<=1000000000):
  lim T (.call false 123 [.agg [.int .i64 b.f.x,.int .i64 b.f.y,.int .i64 b.f.z,.int .i64 b.f.k,.aG b.b8.length (b.b8.flatMap Rw.enc),.int .i64 b.bF,.int .i64 b.lift,.int .i64 b.deep,.aG b.ak.length (b.ak.flatMap bE.enc)],.aG av.length (av.flatMap Fj)] J)=some (.val (.int .i64 (vG b av)) J):=by
 refine au E8 sf.eq_1 rfl ?_;unfold vG;by_cases hc:200<av.length
 .simp[-length_flatMap,-map_take,hc,show(200:Int)<av.length by omega]
 .simp[-length_flatMap,-map_take,hc,show ¬(200:Int)<av.length by omega];refine WL.to (Qq (J:=[]::J) (b:=b) hl hs av.length 0 (by omega)) (by simp) rfl ?_;rintro x e J' ⟨rfl,h⟩;simp only[aK]at h;by_cases hc2:cA (zE b) av=0
  .rw[if_pos hc2]at h;subst h;simp[-length_flatMap,-map_take,hc2,show av.length<=200 by omega]
  .rw[if_neg hc2]at h;obtain⟨rfl,h⟩:=h;simp[h,show ¬200<av.length by omega]
structure Fv(b:b9)(m:cq):Prop extends Mv b m where
 hold:∀i,i<b.n->1000<=aD.hold b m i/\aD.hold b m i<=100000
 Hx:∀i,i<b.n->0<=aD.Hx b m i/\aD.Hx b m i<=1000
 HE:∀i,i<b.n->0<=aD.HE b m i/\aD.HE b m i<=3000
 feed:∀i,i<b.n->0<=aD.feed b m i/\aD.feed b m i<=1000
theorem Fv.of{b:b9}{m:cq}(h:Bd b m=true):Fv b m:=by
 simp only[Bd,fits,ae,ao]at h;obtain⟨h1,h2,h3,h4,h5,h6⟩:=h;have hm:=Mv.of (Bv.of h1) h2;have key:∀{k:Nat} {lo hi:Int},k<4->fk (vf b m k) (λn=>bT n lo hi)=true->∀i,i<b.n->lo<=uw b m k i/\uw b m k i<=hi:=by
  intro k lo hi hk ha i hi';exact aU.1 (iI.1 ha _ (ai (wK hm hk hi')))
 exact⟨hm,key (by omega) h3,key (by omega) h4,key (by omega) h5,key (by omega) h6⟩
theorem Ba{b:b9}(h:Bv b){i:Nat}(hi:i<b.n):0<=weight b i/\weight b i<=64000:=by
 have hl:=h.lift;have hn:=h.n;have hle:i / (b.f.x.toNat*b.f.y.toNat)<=i:=Nat.div_le_self _ _;have hq:=Int.natCast_nonneg (i / (b.f.x.toNat*b.f.y.toNat));have hle2:((i / (b.f.x.toNat*b.f.y.toNat):Nat):Int)<=64:=by
  have:i / (b.f.x.toNat*b.f.y.toNat)<=64:=by omega
  exact Int.ofNat_le.2 this
 unfold weight;exact mZ (A:=64) (B:=1000) hq hle2 hl.1 hl.2
theorem FO{b:b9}{m:cq}(h:Bv b){i:Nat}(hi:i<b.n):lim T (.call false 233 [.agg [.int .i64 b.f.x,.int .i64 b.f.y,.int .i64 b.f.z,.int .i64 b.f.k,.aG b.b8.length (b.b8.flatMap Rw.enc),.int .i64 b.bF,.int .i64 b.lift,.int .i64 b.deep,.aG b.ak.length (b.ak.flatMap bE.enc),.str m.name,.aG m.bg.length (m.bg.flatMap aX)],.int .i64 i] J)=some (.val (.int .i64 (weight b i)) J):=by
 refine au Av ll.eq_1 rfl ?_;have hx:=h.x;have hy:=h.y;have hn:=h.n;obtain⟨s1,_⟩:=eu.sz h.x h.y h.z;have w1:=eF (n:=b.f.x*b.f.y);have e1:b.f.x*b.f.y=((b.f.x.toNat*b.f.y.toNat:Nat):Int):=by push_cast;rw[eC (by omega),eC (by omega)]
 have e2:(i:Int) / (b.f.x*b.f.y)=((i / (b.f.x.toNat*b.f.y.toNat):Nat):Int):=by
  rw[e1];rfl
 have hle:i / (b.f.x.toNat*b.f.y.toNat)<=i:=Nat.div_le_self _ _;have hw:=Ba h hi;have hq:(0:Int)<=(i:Int) / (b.f.x*b.f.y):=by rw[e2];exact Int.natCast_nonneg _
 have hq2:(i:Int) / (b.f.x*b.f.y)<=64:=by
  rw[e2];have:i / (b.f.x.toNat*b.f.y.toNat)<=64:=by omega
  exact Int.ofNat_le.2 this
 have w2:=eF (n:=(i:Int) / (b.f.x*b.f.y));have w3:=eF (n:=weight b i);have hne:¬b.f.x*b.f.y=0:=by omega
 have hnx:¬b.f.x=0:=by omega
 have hny:¬b.f.y=0:=by omega
 have e3:(i:Int) / (b.f.x*b.f.y)*b.lift=weight b i:=by rw[e2];rfl
 simp[-length_flatMap,-map_take,w1,w2,hne,hnx,hny,e3,w3]
theorem VN{n d:Int}(hn : -200000000000<=n/\n<=200000000000)(hd:1<=d/\d<=100000):lim T (.call false 234 [.int .i64 n,.int .i64 d] J)=some (.val (.int .i64 (down n d)) J):=by
 refine au J6 xo.eq_1 rfl ?_;have h1:=Int.mul_tdiv_add_tmod n d;have h2:=Int.tmod_lt_of_pos n (show 0<d by omega);have h3:=Int.lt_tmod_of_pos n (show 0<d by omega);unfold down;generalize hq:n.tdiv d=q at *
 generalize n.tmod d=r at *
 have h4:d*q=q*d:=Int.mul_comm _ _;have hb : -200000100001<=q/\q<=200000100001:=by
  rcases kX 0 q with h | h
  .have:=Int.mul_le_mul_of_nonneg_left hd.1 h;omega
  .have:=Int.mul_le_mul_of_nonpos_left h hd.1;omega
 have w1:=eF (n:=q);have w2:=eF (n:=q*d);have w3:=eF (n:=q-1);have hne:¬d=0:=by omega
 have key:n / d=if n<q*d then q-1 else q:=by
  split
  .rename_i hc;refine((Int.ediv_emod_unique (r:=r+d) (show 0<d by omega)).2 ⟨?_,?_,?_⟩).1
   .rw[Int.mul_sub];omega
   .omega
   .omega
  .rename_i hc;refine((Int.ediv_emod_unique (r:=r) (show 0<d by omega)).2 ⟨?_,?_,?_⟩).1<;>omega
 rw[key];by_cases hc:n<q*d<;>simp[-length_flatMap,-map_take,hq,w1,w2,w3,hne,hc]
theorem zX{α:Type}{f:α->List D}{w n:Nat}(hn:1<n)(hw:∀x,(f x).length=w)(hc:∀x,D.bx (f x)=true){l:List α}{j v:Nat}{bs:List az.aI}(hJ:J≠[])(hj:bs[j]?=some (.cells v (l.flatMap f))):
  cn (J.length-1) n (.sl J.length j v 0 l.length w) (bs::J)=(.aG l.length (l.flatMap f),bs.set j .dead::J):=by
 have h3:¬J.length<=J.length-1:=by have:=aP.2 hJ;omega
 rw[AL h3 (cs:=l.flatMap f) (by simp[hj]) (by omega)];have h4:0<n-1:=by omega
 simp[GA hw l,eS hc l,h4]
theorem Bm{b:b9}{m:cq}:(c8 b m).length=b.n:=by simp[c8]
theorem Fs(l:List aD.aI):(l.flatMap aI.enc).length=l.length*3:=bZ (f:=aI.enc) (w:=3) (λ_=>rfl) l
theorem M1{b:b9}{m:cq}(h:Fv b m):∀(n i v:Nat),i+n=b.n ->
  WL T [1,2,6,7] false fQ [(1,.bu [.int .i64 b.f.x,.int .i64 b.f.y,.int .i64 b.f.z,.int .i64 b.f.k,.aG b.b8.length (b.b8.flatMap Rw.enc),.int .i64 b.bF,.int .i64 b.lift,.int .i64 b.deep,.aG b.ak.length (b.ak.flatMap bE.enc),.str m.name,.aG m.bg.length (m.bg.flatMap aX)]),(2,.sl J.length 0 v 0 i 3),(6,.int .i64 b.n),(7,.int .i64 i)] ([.cells v (((c8 b m).take i).flatMap aI.enc)]::J)
   (λx e J'=>x=.exit 0/\get e 2=.sl J.length 0 (v+n) 0 (c8 b m).length 3/\J'=[.cells (v+n) ((c8 b m).flatMap aI.enc)]::J)
 |0,i,v,hi=>by
  refine aJ fQ.eq_1 ?_;obtain rfl:i=b.n:=by omega
  have h3:(c8 b m).take b.n=c8 b m:=ah (by simp[Bm]);simp[-length_flatMap,-map_take,h3,Bm]
 |n+1,i,v,hi=>by
  refine aJ fQ.eq_1 ?_;have h1:i<b.n:=by omega
  have hn:=h.bv.n;have h4:=eT h1;have ho:=λJ=>PT (J:=J) h.toMv h1
  have hw:=λJ=>V3 (J:=J) h.toMv h1
  have b1:=h.hold i h1;have b2:=h.HE i h1;have b3:=mZ (by omega:0<=hold b m i) b1.2 b2.1 b2.2;have w1:=eF (n:=hold b m i*HE b m i);have ih:=M1 h n (i+1) (v+1) (by omega);have hx:(c8 b m)[i]?=some ⟨hold b m i,hold b m i*HE b m i,0⟩:=by simp[c8,h1]
  have a3:=Bn (f:=aI.enc) hx;have a4:=Fs ((c8 b m).take i);rw[jV,Bm,Nat.min_eq_left (by omega)]at a4;have a6:(((c8 b m).take i).flatMap aI.enc).take (i*3)=((c8 b m).take i).flatMap aI.enc:=ah (by omega);have h7:(i+1)*24<=room:=by unfold room;omega
  simp[-length_flatMap,-map_take,h1,h4,ho,hw,w1,a4,a6,h7,cl,bh,bq];refine WL.to ih (by simp[cl,bh,bq]) (by simp[<- a3]) λx e J hh=>by simpa[dz,Nat.add_comm 1 n]using hh
theorem DQ{b:b9}{m:cq}(h:Fv b m)(hJ:J≠[]):lim T (.call false 100 [.agg [.int .i64 b.f.x,.int .i64 b.f.y,.int .i64 b.f.z,.int .i64 b.f.k,.aG b.b8.length (b.b8.flatMap Rw.enc),.int .i64 b.bF,.int .i64 b.lift,.int .i64 b.deep,.aG b.ak.length (b.ak.flatMap bE.enc),.str m.name,.aG m.bg.length (m.bg.flatMap aX)]] J)=some (.val (PG (c8 b m)) J):=by
 refine au BK mg.eq_1 rfl ?_;have hs:=λJ=>yw (J:=J) h.bv
 simp[-length_flatMap,-map_take,hs,cl,bh,bq];refine WL.to (M1 (J:=J) h b.n 0 0 (by omega)) (by simp) (by simp) ?_;rintro x e J' ⟨rfl,g2,rfl⟩;simp[-length_flatMap,-map_take,g2];rw[zX (f:=aI.enc) (by decide) (λ_=>rfl) (λx=>by simp) hJ (by simp)];simp[PG]
end Go.Proofs.YtklfdfnoebnciaaGreatDoor
