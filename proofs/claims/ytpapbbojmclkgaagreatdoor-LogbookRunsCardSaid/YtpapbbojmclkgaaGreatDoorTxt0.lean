import Derived.Test.YtpapbbojmclkgaaGreatDoorTab
set_option linter.all false
namespace Go.Rock
open Go Go.Abs
structure dF where
 x:Int
 y:Int
 z:Int
 k:Int
structure Rw where
 t:Int
 p:Int
 l:Int
 v:Int
 s:Int
structure bA where
 b:Int
 h:Int
 m:Int
structure bU where
 f:dF
 c9:List Rw
 cG:Int
 lift:Int
 deep:Int
 aw:List bA
structure cg where
 name:List UInt8
 dh:List Int
structure aF where
 m:Int
 h:Int
 k:Int
@[simp] theorem dF.eta(p:dF):dF.mk p.x p.y p.z p.k=p:=rfl
@[simp] theorem Rw.eta(p:Rw):Rw.mk p.t p.p p.l p.v p.s=p:=rfl
@[simp] theorem bA.eta(p:bA):bA.mk p.b p.h p.m=p:=rfl
@[simp] theorem aF.eta(p:aF):aF.mk p.m p.h p.k=p:=rfl
@[simp] def dF.enc(f:dF):List D:=[iI f.x,iI f.y,iI f.z,iI f.k]
@[simp] def Rw.enc(r:Rw):List D:=[iI r.t,iI r.p,iI r.l,iI r.v,iI r.s]
@[simp] def bA.enc(r:bA):List D:=[iI r.b,iI r.h,iI r.m]
@[simp] def aF.enc(r:aF):List D:=[iI r.m,iI r.h,iI r.k]
@[simp] def aO(n:Int):List D:=[iI n]
@[simp] def bU.enc(b:bU):List D:=[iI b.f.x,iI b.f.y,iI b.f.z,iI b.f.k,.bZ b.c9.length (fM b.c9 Rw.enc),iI b.cG,iI b.lift,iI b.deep,.bZ b.aw.length (fM b.aw bA.enc)]
@[simp] def cg.enc(m:cg):List D:=[.str m.name,.bZ m.dh.length (fM m.dh aO)]
@[reducible,simp] def fL(f:dF):List D:=[iI f.x,iI f.y,iI f.z,iI f.k]
@[reducible,simp] def mL(m:cg):List D:=[.str m.name,lF m.dh aO]
@[reducible,simp] def bL(b:bU):List D:=[iI b.f.x,iI b.f.y,iI b.f.z,iI b.f.k,lF b.c9 Rw.enc,iI b.cG,iI b.lift,iI b.deep,lF b.aw bA.enc]
@[reducible,simp] def bM(b:bU)(m:cg):List D:=[iI b.f.x,iI b.f.y,iI b.f.z,iI b.f.k,lF b.c9 Rw.enc,iI b.cG,iI b.lift,iI b.deep,lF b.aw bA.enc,.str m.name,lF m.dh aO]
def Z3(s:List aF):D:=.bZ s.length (fM s aF.enc)
def bF(n lo hi:Int):Bool:=decide (lo<=n) && decide (n<=hi)
theorem aQ{n lo hi:Int}:bF n lo hi=true↔lo<=n/\n<=hi:=by simp[bF]
def dF.size(f:dF):Int:=f.x*f.y*f.z
def dF.valid(f:dF):Bool:=bF f.x 1 8 && (bF f.y 1 8 && (bF f.z 1 8 && (decide (f.size<=64) && bF f.k 1 6)))
theorem dF.n9{f:dF}:f.valid=true↔(1<=f.x/\f.x<=8)/\(1<=f.y/\f.y<=8)/\(1<=f.z/\f.z<=8)/\f.size<=64/\(1<=f.k/\f.k<=6):=by
 simp[dF.valid,bF,and_assoc]
def dF.shape(f:dF):Int:=if f.valid then 0 else 1
def letter(c:UInt8):Bool:=decide (97<=c.toNat) && decide (c.toNat<=122)
def digit(c:UInt8):Bool:=decide (48<=c.toNat) && decide (c.toNat<=57)
def o9(i:Nat):List UInt8->Bool
 |[]=>true
 |c::l=>(letter c || (decide (i≠0) && digit c)) && o9 (i+1) l
def named(s:List UInt8):Bool:=o9 0 s && bF s.length 1 16
def dF.model(f:dF)(m:cg):Int:=if named m.name then(if(m.dh.length:Int)=f.k*f.size/\dq m.dh (λn=>bF n (-100000) 100000)=true then 0 else 1)else 5
def dF.each(f:dF)(met:List (List UInt8)):List cg->Int
 |[]=>0
 |m::l=>if f.model m=0 then(if met.contains m.name then 6 else f.each (met++[m.name]) l)else f.model m
def dF.aj(f:dF)(l:List cg):Int:=if bF l.length 1 40 then f.each [] l else 3
def fW(f:dF)(l:List cg):Int:=if f.valid then f.aj l else 1
def Rw.alone(r:Rw):Bool:=bF r.t 0 400 && (bF r.p 1 10000 && (bF r.l 0 4000 && (bF r.s 0 2000 && (decide (r.l<r.v) && decide (r.v<=4000)))))
def Rw.xe(o r:Rw):Bool := !(decide (r.t<=o.t) || (decide (r.p<=o.p) || (decide (r.l<=o.l) || decide (r.s<o.s))))
def uN:List Rw->Bool
 |o::r::l=>o.xe r && uN (r::l)
 |_=>true
def fN(t:List Rw):Bool:=bF t.length 2 20 && (dq t Rw.alone && uN t)
def bA.ok(size:Int)(used:List Int)(w:bA):Bool:=bF w.b 0 (size-1) && (!used.contains w.b && (bF w.h 0 3000 && bF w.m 0 1000000))
def oI(size:Int)(used:List Int):List bA->Bool
 |[]=>true
 |w::l=>w.ok size used && oI size (used++[w.b]) l
def bU.size(b:bU):Int:=b.f.size
def bU.ok1(b:bU):Bool:=b.f.valid && (decide (4<=b.f.k) && (fN b.c9 && (bF b.cG 1 100000 && (bF b.lift 0 1000 && (bF b.deep 0 3000 && decide (b.aw.length<=8))))))
def bU.valid(b:bU):Bool:=b.ok1 && oI b.size [] b.aw
def bU.n(b:bU):Nat:=b.size.toNat
def xa(b:bU)(m:cg)(k:Nat):List Int:=(m.dh.drop (k*b.n)).take b.n
def jU(b:bU)(m:cg)(k:Nat)(i:Nat):Int:=(m.dh[k*b.n+i]?).getD 0
def hold(b:bU)(m:cg)(i:Nat):Int:=jU b m 0 i
def Ab(b:bU)(m:cg)(i:Nat):Int:=jU b m 1 i
def Ik(b:bU)(m:cg)(i:Nat):Int:=jU b m 2 i
def feed(b:bU)(m:cg)(i:Nat):Int:=jU b m 3 i
def fits(b:bU)(m:cg):Bool:=decide (fW b.f [m]=0) && (dq (xa b m 0) (λn=>bF n 1000 100000) && (dq (xa b m 1) (λn=>bF n 0 1000) && (dq (xa b m 2) (λn=>bF n 0 3000) && dq (xa b m 3) (λn=>bF n 0 1000))))
def Bd(b:bU)(m:cg):Bool:=b.valid && fits b m
def cb(b:bU)(m:cg):List aF:=(List.range b.n).map λi=>⟨hold b m i,hold b m i*Ik b m i,0⟩
def aF.valid(x:aF):Bool:=bF x.m 1 1000000 && (bF x.h 0 10000000000 && bF x.k 0 1000000000000)
def rG(b:bU)(s:List aF):Bool:=decide ((s.length:Int)=b.size) && dq s aF.valid
def weight(b:bU)(i:Nat):Int:=((i / (b.f.x.toNat*b.f.y.toNat):Nat):Int)*b.lift
def down(n d:Int):Int:=n / d
def aT(s:List aF)(i:Nat):aF:=(s[i]?).getD ⟨0,0,0⟩
def iu(x:aF)(out:Int)(r:Rw):Int:=if r.l*x.m<=x.h then max out r.p else out
def dA(b:bU)(m:cg)(s:List aF)(i:Nat):Int :=
 b.c9.foldl (iu (aT s i)) (max 0 (weight b i+down (b.cG*((aT s i).m-hold b m i)) (hold b m i)))
def bg(b:bU)(m:cg)(s:List aF):List Int:=(List.range s.length).map (dA b m s)
def wk(b:bU)(i:Nat):List (Nat×Nat) :=
 (if(i+1)%b.f.x.toNat≠0 then [(i,i+1)]else [])++((if i / b.f.x.toNat%b.f.y.toNat≠b.f.y.toNat-1 then [(i,i+b.f.x.toNat)]else [])++(if i+b.f.x.toNat*b.f.y.toNat<b.n then [(i,i+b.f.x.toNat*b.f.y.toNat)]else []))
def zB(b:bU):List (Nat×Nat):=fM (List.range b.n) (wk b)
def aF.out(x:aF)(m:Int):aF:=⟨m,(x.h*m).tdiv x.m,(x.k*m).tdiv x.m⟩
def aF.move(x o:aF)(sign:Int):aF:=⟨x.m+sign*o.m,x.h+sign*o.h,x.k+sign*o.k⟩
def CV(b:bU)(m:cg)(s:List aF)(p:List Int)(l:Nat×Nat):Option ((Nat×Nat)×aF) :=
 let d:=(p[l.1]?).getD 0-weight b l.1-(p[l.2]?).getD 0+weight b l.2
 let l':=if d<0 then(l.2,l.1)else l
 let d':=if d<0 then -d else d
 let q:=min ((min (Ab b m l'.1) (Ab b m l'.2)*d').tdiv 1000) ((aT s l'.1).m.tdiv 8)
 if 0<q then some (l',(aT s l'.1).out q)else none
def SV(es:List ((Nat×Nat)×aF))(k:Nat×Nat)(o:aF):List ((Nat×Nat)×aF) :=
 match es.findIdx? (λe=>e.1 == k)with
 |some j=>es.set j (k,o)
 |none=>es++[(k,o)]
def lh(b:bU)(m:cg)(s:List aF)(p:List Int)(es:List ((Nat×Nat)×aF))(l:Nat×Nat):List ((Nat×Nat)×aF) :=
 match CV b m s p l with
 |some e=>SV es e.1 e.2
 |none=>es
def tK(b:bU)(m:cg)(s:List aF):List ((Nat×Nat)×aF):=(zB b).foldl (lh b m s (bg b m s)) []
def cq(s:List aF)(i:Nat)(o:aF)(sign:Int):List aF:=s.set i ((aT s i).move o sign)
def cI(s:List aF)(e:(Nat×Nat)×aF):List aF:=cq (cq s e.1.1 e.2 (-1)) e.1.2 e.2 1
def bA.given(w:bA)(rate:Int):aF:=⟨-rate,-rate*w.h,-rate*w.m⟩
def iw(s:List aF)(w:bA)(rate:Int):aF:=if rate<0 then⟨0,0,0⟩else(aT s w.b.toNat).out (min rate ((aT s w.b.toNat).m.tdiv 8))
def mI(s next:List aF)(w:bA)(rate:Int):List aF:=if rate<0 then cq next w.b.toNat (w.given rate) 1 else cq next w.b.toNat (iw s w rate) (-1)
def JI(b:bU)(m:cg)(i:Nat):aF:=⟨feed b m i,feed b m i*b.deep,0⟩
def mV(b:bU)(m:cg)(s:List aF)(aG:List Int):List aF :=
 let s1:=(tK b m s).foldl cI s
 let s2:=(b.aw.zip aG).foldl (λn wr=>mI s n wr.1 wr.2) s1
 (List.range s.length).foldl (λn i=>cq n i (JI b m i) 1) s2
def bK(b:bU)(s:List aF)(aG:List Int):List aF:=(b.aw.zip aG).map λwr=>iw s wr.1 wr.2
def tick(b:bU)(m:cg)(s:List aF)(aG:List Int):Option (List aF×List aF) :=
 if rG b (mV b m s aG)then some (mV b m s aG,bK b s aG)else none
def rj(b:bU)(l:List Int):Int:=if l.length=b.aw.length then(if dq l (λn=>bF n (-100000) 100000)then 0 else 2)else 1
def b8{α:Type}(f:α->Int):List α->Int
 |[]=>0
 |x::l=>if f x=0 then b8 f l else f x
def tL(b:bU)(az:List (List Int)):Int:=if 200<az.length then 3 else b8 (rj b) az
def oH(b:bU)(m:cg):List (List aF)->List (List aF)->List aF->List (List Int)->Option (List (List aF)×List (List aF))
 |ss,ys,_,[]=>some (ss,ys)
 |ss,ys,s,r::az =>
  match tick b m s r with
  |some (s',y)=>oH b m (ss++[s']) (ys++[y]) s' az
  |none=>none
def run(b:bU)(m:cg)(az:List (List Int)):Option (List (List aF)×List (List aF)):=oH b m [cb b m] [] (cb b m) az
end Go.Rock
namespace Go.Proofs.YtpapbbojmclkgaaGreatDoor
open Go Go.Abs Go.Rock
variable {J:SK}
theorem Ux{a b A B:Int}(h1:1<=a)(h2:a<=A)(h3:1<=b)(h4:b<=B):1<=a*b/\a*b<=A*B :=
 ⟨by have:=Int.mul_pos (a:=a) (b:=b) (by omega) (by omega);omega,ct h2 h4 (by omega) (by omega)⟩
theorem jb{a b A B:Int}(h1:0<=a)(h2:a<=A)(h3:0<=b)(h4:b<=B):0<=a*b/\a*b<=A*B :=
 ⟨bB h1 h3,ct h2 h4 h3 (by omega)⟩
theorem dF.sz{f:dF}(hx:1<=f.x/\f.x<=8)(hy:1<=f.y/\f.y<=8)(hz:1<=f.z/\f.z<=8):(1<=f.x*f.y/\f.x*f.y<=64)/\(1<=f.x*f.y*f.z/\f.x*f.y*f.z<=512):=by
 have h1:=Ux hx.1 hx.2 hy.1 hy.2;have h2:=Ux h1.1 h1.2 hz.1 hz.2;exact⟨by omega,by omega⟩
theorem dR{a b c:Int}:Cl 283 [iI a,iI b,iI c] (.bool (bF a b c)) J:=by
 refine ar ?_;by_cases h:b<=a<;>simp[h,bF]
theorem jd{a b c:Int}:Cl 296 [iI a,iI b,iI c] (.bool (bF a b c)) J:=by
 refine ar ?_;by_cases h:b<=a<;>simp[h,bF]
theorem jX{a b c:Int}:Cl 280 [iI a,iI b,iI c] (.bool (bF a b c)) J:=by
 refine ar ?_;by_cases h:b<=a<;>simp[h,bF]
theorem Kw{f:dF}(hx:1<=f.x/\f.x<=8)(hy:1<=f.y/\f.y<=8)(hz:1<=f.z/\f.z<=8):Cl 293 [.agg (fL f)] (iI f.size) J:=by
 refine ar ?_;obtain⟨h1,h2⟩:=dF.sz hx hy hz;have w1:=cm (n:=f.x*f.y);have w2:=cm (n:=f.x*f.y*f.z);simp[w1,w2,dF.size]
theorem Xb{f:dF}:Cl 279 [.agg (fL f)] (.bool f.valid) J:=by
 refine ar ?_;cases hc1:bF f.x 1 8
 .simp[jd,dF.valid,hc1]
 cases hc2:bF f.y 1 8
 .simp[jd,dF.valid,hc1,hc2]
 cases hc3:bF f.z 1 8
 .simp[jd,dF.valid,hc1,hc2,hc3]
 have hb:=λJ=>Kw (J:=J) (f:=f) (aQ.1 hc1) (aQ.1 hc2) (aQ.1 hc3)
 by_cases hc4:f.size<=64
 .simp[jd,dF.valid,hc1,hc2,hc3,hc4,hb]
 .simp[jd,dF.valid,hc1,hc2,hc3,hc4,hb]
theorem J7{f:dF}:Cl 232 [.agg (fL f)] (iI f.shape) J:=by
 refine ar ?_;have hb:=λJ=>Xb (J:=J) (f:=f)
 cases hc:f.valid<;>rw[hc]at hb<;>simp[hb,dF.shape,hc]
theorem jx{f:dF}:Cl 199 [.agg (fL f)] (iI f.shape) J:=by
 refine ar ?_;have hb:=λJ=>J7 (J:=J) (f:=f)
 simp[hb]
theorem TU{s:List UInt8}(hl:s.length<=1000000000):∀(m i:Nat),i+m=s.length ->
  WL T [0,6,7] false nk [(0,.str s),(6,iI s.length),(7,iI i)] J
   (λx e J'=>J'=J/\if o9 i (s.drop i)then x=.exit 0/\get e 0=.str s else x=.ret/\get e 2=.bool false)
 |0,i,hi=>by
  refine av nk.eq_1 ?_;have h1:¬i<s.length:=by omega
  have h2:s.drop i=[]:=an (by omega);simp[h1,h2,o9]
 |m+1,i,hi=>by
  refine av nk.eq_1 ?_;have h1:i<s.length:=by omega
  obtain⟨c,hc⟩:=gE h1;have h4:=bO h1;have h5:=bz hc;have ih:=TU hl m (i+1) (by omega);rw[h5,o9];have hd:ia .MD [.str s,iI (i:Int)]=some (.int .u8 c.toNat):=by simp[ia,hc]
  by_cases hc1:97<=c.toNat
  .by_cases hc2:c.toNat<=122
   .have hlet:letter c=true:=by simp[letter,hc1,hc2]
    simp[h1,h4,hd,hlet,show(97:Int)<=(c.toNat:Int)by omega,show(c.toNat:Int)<=122 by omega];exact WL.to ih (by simp) rfl λx e J' hh=>by simpa[hlet]using hh
   .have hlet:letter c=false:=by simp[letter,hc2]
    have hdig:digit c=false:=by simp[digit];omega
    by_cases hi0:i=0
    .subst hi0;have hd0:ia .MD [.str s,iI 0]=some (.int .u8 c.toNat):=by simpa using hd
     have h1':0<s.length:=h1;simp[h1',hd0,hlet,hdig,show(97:Int)<=(c.toNat:Int)by omega,show ¬(c.toNat:Int)<=122 by omega]
    .simp[h1,hd,hlet,hdig,hi0,show(97:Int)<=(c.toNat:Int)by omega,show ¬(c.toNat:Int)<=122 by omega,show ¬(c.toNat:Int)<48 by omega,show(57:Int)<(c.toNat:Int)by omega]
  .have hlet:letter c=false:=by simp[letter,hc1]
   by_cases hi0:i=0
   .subst hi0;have hd0:ia .MD [.str s,iI 0]=some (.int .u8 c.toNat):=by simpa using hd
    have h1':0<s.length:=h1;simp[h1',hd0,hlet,show ¬(97:Int)<=(c.toNat:Int)by omega]
   .by_cases hc3:c.toNat<48
    .have hdig:digit c=false:=by simp[digit];omega
     simp[h1,hd,hlet,hdig,hi0,show ¬(97:Int)<=(c.toNat:Int)by omega,show(c.toNat:Int)<48 by omega]
    .by_cases hc4:57<c.toNat
     .have hdig:digit c=false:=by simp[digit];omega
      simp[h1,hd,hlet,hdig,hi0,show ¬(97:Int)<=(c.toNat:Int)by omega,show ¬(c.toNat:Int)<48 by omega,show(57:Int)<(c.toNat:Int)by omega]
     .have hdig:digit c=true:=by simp[digit];omega
      simp[h1,h4,hd,hlet,hdig,hi0,show ¬(97:Int)<=(c.toNat:Int)by omega,show ¬(c.toNat:Int)<48 by omega,show ¬(57:Int)<(c.toNat:Int)by omega];exact WL.to ih (by simp) rfl λx e J' hh=>by simpa[hlet,hdig,hi0]using hh
theorem J6{s:List UInt8}(hl:s.length<=1000000000):Cl 292 [.str s] (.bool (named s)) J:=by
 refine ar ?_;have hp:ia .Ry [.str s]=some (iI s.length):=rfl;simp[hp];refine WL.to (TU (J:=[]::J) hl s.length 0 (by omega)) (by simp) rfl ?_;rintro x e J' ⟨rfl,h⟩;simp only[aC]at h;unfold named;cases hc:o9 0 s
 .simp[hc]at h;simp[h]
 .simp[hc]at h;simp[h,hp,jd]
theorem aaP{a:Int}:Cl 295 [iI a] (.bool (bF a (-100000) 100000)) J:=by
 refine ar ?_;simp[jd]
theorem Vi{l:List Int}{p:Int->Bool}{fv:D}(hl:l.length<=1000000000)(ht:pA T fv (λn=>iI n) p l)(hc:fv.cells=some [fv]):
  Cl 294 [lF l aO,fv] (.bool (dq l p)) J :=
 CL (Oq .i64) (f:=294) (g:=329) (h:=226) (i:=273) (l:=l) (p:=p) (fv:=fv) rfl rfl rfl rfl (by omega) ht hc
theorem Cs{f:dF}(hf:f.valid=true):(1<=f.size/\f.size<=64)/\1<=f.k*f.size/\f.k*f.size<=384:=by
 obtain⟨h1,h2,h3,h4,h5⟩:=dF.n9.1 hf;obtain⟨_,h6⟩:=dF.sz h1 h2 h3;have h7:=Ux h5.1 h5.2 (b:=f.size) (B:=64) (by unfold dF.size;omega) h4;exact⟨⟨by unfold dF.size;omega,h4⟩,by omega,by omega⟩
theorem Tx{f:dF}{m:cg}(hf:f.valid=true)(hn:m.name.length<=1000000000)(hl:m.dh.length<=1000000000):Cl 241 [.agg (fL f),.agg (mL m)] (iI (f.model m)) J:=by
 refine ar ?_;obtain⟨h1,h2,h3,h4,h5⟩:=dF.n9.1 hf;obtain⟨h6,h7⟩:=Cs hf;have w1:=cm (n:=f.k*f.size);have hb:=λJ=>Kw (J:=J) (f:=f) h1 h2 h3
 have ha:=λJ=>Vi (J:=J) (l:=m.dh) (p:=λn=>bF n (-100000) 100000) (fv:=.fn 295 [] []) hl (pA.fn λx _ J=>by simpa using aaP) rfl
 cases hc1:named m.name
 .simp[J6 hn,hc1,dF.model]
 .by_cases hc2:(m.dh.length:Int)=f.k*f.size
  .cases hc3:dq m.dh (λn=>bF n (-100000) 100000)<;>
    simp[J6 hn,hc1,hc2,hc3,dF.model,hb,ha,w1]
  .simp[J6 hn,hc1,hc2,dF.model,hb,w1]
def FI(met:List (List UInt8)):List D:=met.map λn => .cQ [.str n,.bool true]
theorem ID{k:List UInt8}:∀{met:List (List UInt8)},∃r,qh none (.str k) (FI met)=some r/\(met.contains k=true->∃j,r=some (j,.bool true))/\(met.contains k=false->r=none)
 |[]=>⟨none,rfl,by simp,by simp⟩
 |n::met=>by
  obtain⟨r,h1,h2,h3⟩:=ID (k:=k) (met:=met);simp only[FI,aM]at h1 ⊢;by_cases hk:k=n
  .subst hk;exact⟨some (0,.bool true),by simp[qh,tA],λ_=>⟨0,rfl⟩,by simp⟩
  .have hb:(k == n)=false:=by simpa using hk
   refine⟨r.map λy=>(y.1+1,y.2),by simp[qh,tA,hb,h1],?_,?_⟩
   .intro hc;have:met.contains k=true:=by simpa[hk]using hc
    obtain⟨j,rfl⟩:=h2 this;exact⟨j+1,rfl⟩
   .intro hc;have:met.contains k=false:=by simp at hc ⊢;exact hc.2
    rw[h3 this];rfl
theorem adB{S:SK}{l i:Nat}{met:List (List UInt8)}{k:List UInt8}(h:cells? S l i 0=some (FI met)):DT S (.get none (.bool false) false) [.j5 l i,.str k]=some (.bool (met.contains k),S):=by
 obtain⟨r,h1,h2,h3⟩:=ID (k:=k) (met:=met);simp only[DT,DZ,h,bf,h1];cases hc:met.contains k
 .rw[h3 hc];simp[tA]
 .obtain⟨j,rfl⟩:=h2 hc;simp[tA]
theorem adC{S:SK}{l i:Nat}{met:List (List UInt8)}{k:List UInt8}(h:cells? S l i 0=some (FI met))(hn:met.contains k=false):
  DT S (.put none) [.j5 l i,.str k,.bool true]=some (.undef,bj S l i (.cells 0 (FI (met++[k])))):=by
 obtain⟨r,h1,h2,h3⟩:=ID (k:=k) (met:=met);simp only[DT,DZ,h,bf,h1];rw[h3 hn];simp[tA,FI,D.clean]
theorem akP{f:dF}{m:cg}(hf:f.valid=true)(hn:m.name.length<=1000000000)(hl:m.dh.length<=1000000000):
  Cl 365 [.agg (mL m),.aZ (fL f)] (.cQ [.str m.name,iI (f.model m)]) J:=by
 refine ar ?_;simp[Tx hf hn hl]
theorem XP{f:dF}{l:List cg}(hf:f.valid=true)(hs:∀m∈l,m.name.length<=1000000000/\m.dh.length<=1000000000)(hl:l.length<=1000000000):∀(k i:Nat) (met:List (List UInt8)),i+k=l.length ->
  WL T [1,5,11,12,13] false eh [(1,.fn 365 [] [.aZ (fL f)]),(5,.j5 J.length 0),(11,lF l cg.enc),(12,iI l.length),(13,iI i)] ([.cells 0 (FI met)]::J)
   (λx e J'=>∃s,J'=s::J/\if f.each met (l.drop i)=0 then x=.exit 0 else x=.ret/\get e 4=iI (f.each met (l.drop i)))
 |0,i,met,hi=>by
  refine av eh.eq_1 ?_;have h1:¬i<l.length:=by omega
  have h2:l.drop i=[]:=an (by omega);simp[h1,h2,dF.each]
 |k+1,i,met,hi=>by
  refine av eh.eq_1 ?_;have h1:i<l.length:=by omega
  obtain⟨m,hm⟩:=gE h1;have h2:=aP (f:=cg.enc) (w:=2) (λ_=>rfl) hm;have h4:=bO h1;have h5:=bz hm;obtain⟨hs1,hs2⟩:=hs m (ai hm);have hC:=λJ=>akP (J:=J) hf hs1 hs2
  rw[h5,dF.each];by_cases hc1:f.model m=0
  .have hg:=adB (S:=[.cells 0 (FI met)]::J) (l:=J.length) (i:=0) (met:=met) (k:=m.name) (by simp);cases hc2:met.contains m.name
   .rw[hc2]at hg;have hp:=adC (S:=[.cells 0 (FI met)]::J) (l:=J.length) (i:=0) (met:=met) (k:=m.name) (by simp) hc2;have ih:=XP hf hs hl k (i+1) (met++[m.name]) (by omega);simp at hp;have hc3:¬m.name∈met:=by simpa using hc2
    simp[h1,h2,h4,hC,hc1,hg,hp];exact WL.to ih (by simp) (by simp) λx e J' hh=>by simpa[hc1]using hh
   .rw[hc2]at hg;have hc3:m.name∈met:=by simpa using hc2
    simp[h1,h2,hC,hc1,hg]
  .simp[h1,h2,hC,hc1]
theorem aek{f:dF}{l:List cg}(hf:f.valid=true)(hs:∀m∈l,m.name.length<=1000000000/\m.dh.length<=1000000000)(hl:l.length<=1000000000):
  Cl 364 [lF l cg.enc,.fn 365 [] [.aZ (fL f)]] (iI (f.each [] l)) J:=by
 refine ar ?_;have hm:DT ([]::J) .make []=some (.j5 J.length 0,[.cells 0 (FI [])]::J):=by simp[DT,FI]
 simp[hm];refine WL.to (XP (J:=J) hf hs hl l.length 0 [] (by omega)) (by simp) (by simp) ?_;rintro x e J' ⟨s,rfl,h⟩;simp only[aC]at h;by_cases hc:f.each [] l=0
 .rw[if_pos hc]at h;subst h;simp[hc]
 .rw[if_neg hc]at h;obtain⟨rfl,h⟩:=h;simp[h]
theorem Xi{f:dF}{l:List cg}(hf:f.valid=true)(hs:∀m∈l,m.name.length<=1000000000/\m.dh.length<=1000000000)(hl:l.length<=1000000000):
  Cl 340 [.agg (fL f),lF l cg.enc] (iI (f.aj l)) J:=by
 refine ar ?_;cases hc:bF l.length 1 40
 .simp[jd,hc,dF.aj]
 .simp[jd,hc,dF.aj,aek hf hs hl]
theorem Kp{f:dF}{l:List cg}(hf:f.valid=true)(hs:∀m∈l,m.name.length<=1000000000/\m.dh.length<=1000000000)(hl:l.length<=1000000000):
  Cl 339 [.aZ (fL f),.aZ [lF l cg.enc]] (iI (f.aj l)) J:=by
 refine ar ?_;simp[Xi hf hs hl]
theorem NY{fs:List D}{es:List Int}(hlen:fs.length=es.length)(hl:fs.length<=100)(hfs:∀d∈fs,d.strip=d/\d.calm=d/\RN false 1 (some [d])=some d)
  (hcall:∀(i:Nat) d n,fs[i]?=some d->es[i]?=some n->(∀j,j<i->es[j]?=some 0)->∀J,oK (dt T) false d [] J=some (iI n,J)):
  Cl 237 [.bZ fs.length fs] (iI (b8 id es)) J:=by
 have loop:∀(k i:Nat) (J:SK),i+k=fs.length->(∀j,j<i->es[j]?=some 0) ->
   WL T [6,7,8] false nj [(6,.bZ fs.length fs),(7,iI fs.length),(8,iI i)] J
    (λx e J'=>J'=J/\if b8 id (es.drop i)=0 then x=.exit 0 else x=.ret/\get e 2=iI (b8 id (es.drop i))):=by
  intro k;induction k with
  |zero =>
   intro i J hi h0;refine av nj.eq_1 ?_;have h1:¬i<fs.length:=by omega
   have h2:es.drop i=[]:=an (by omega);simp[h1,h2,b8]
  |succ k ih =>
   intro i J hi h0;refine av nj.eq_1 ?_;have h1:i<fs.length:=by omega
   obtain⟨d,hd⟩:=gE h1;obtain⟨n,hn⟩:∃n,es[i]?=some n:=gE (by omega);obtain⟨g1,g2,g3⟩:=hfs d (ai hd);have h2:=aP (f:=λd:D=>[d]) (w:=1) (λ_=>rfl) (l:=fs) hd;rw[show(fM fs λd=>[d])=fs from by simp[fM]]at h2;have h4:=bO h1;have h5:=bz hn;have hc:=hcall i d n hd hn h0;simp only[bJ]at h2;rw[h5,b8];by_cases hz:n=0
   .subst hz;have ih':=ih (i+1) J (by omega) (λj hj=>by
     by_cases hji:j=i
     .subst hji;exact hn
     .exact h0 j (by omega))
    simp[h1,h2,h4,g1,g2,hc];exact WL.to ih' (by simp) rfl λx e J' hh=>by simpa using hh
   .simp[h1,h2,g1,g2,hc,hz]
 refine ar ?_;simp;refine WL.to (loop fs.length 0 ([]::J) (by omega) (by simp)) (by simp) rfl ?_;rintro x e J' ⟨rfl,h⟩;simp only[aC]at h;by_cases hc:b8 id es=0
 .rw[if_pos hc]at h;subst h;simp[hc]
 .rw[if_neg hc]at h;obtain⟨rfl,h⟩:=h;simp[h]
theorem FM{f:dF}{l:List cg}(hs:∀m∈l,m.name.length<=1000000000/\m.dh.length<=1000000000)(hl:l.length<=1000000000):
  Cl 304 [.agg (fL f),lF l cg.enc] (iI (fW f l)) J:=by
 refine ar ?_;have hC:=λJ=>NY (J:=J) (fs:=[.fn 232 [.agg (fL f)] [],.fn 339 [] [.aZ (fL f),.aZ [lF l cg.enc]]]) (es:=[f.shape,f.aj l]) rfl (by simp) (by simp) (by
  intro i d n hd hn h0 J;match i with
  |0 =>
   simp at hd hn;subst hd hn;simp[J7]
  |1 =>
   simp at hd hn;subst hd hn;have h1:f.valid=true:=by
    have:=h0 0 (by omega);simp[dF.shape]at this;exact this
   simp[Kp h1 hs hl]
  |i+2=>simp at hd)
 simp at hC;have e1:b8 id [f.shape,f.aj l]=fW f l:=by
  simp only[b8,id,fW,dF.shape];by_cases h:f.valid=true
  .by_cases h2:f.aj l=0<;>simp[h,h2]
  .simp[h]
 rw[e1]at hC;simp[hC]
end Go.Proofs.YtpapbbojmclkgaaGreatDoor
namespace Go.Abs
open Go
variable {T:DB}
def o5(q:Nat->Bool)(i:Nat):Nat->Bool×Nat
 |0=>(false,i)
 |m+1=>if q i then(true,i+1)else o5 q (i+1) m
theorem Fy{q:Nat->Bool}:∀{m i:Nat},(o5 q i m).1=false↔∀j,j<m->q (i+j)=false
 |0,i=>by simp[o5]
 |m+1,i=>by
  simp only[o5];by_cases h:q i=true
  .simp only[h,if_true,Bool.true_eq_false,false_iff];intro hh;have:=hh 0 (by omega);simp[h]at this
  .have h':q i=false:=by simpa using h
   simp only[h',aD,if_false];rw[Fy (m:=m) (i:=i+1)];constructor
   .intro hh j hj;cases j with
    |zero=>simpa using h'
    |succ j=>have:=hh j (by omega);rwa[show i+1+j=i+(j+1)from by omega]at this
   .intro hh j hj;have:=hh (j+1) (by omega);rwa[show i+(j+1)=i+1+j from by omega]at this
section
variable {α:Type} (E:Elt α) {fv:D} {l:List α} {q:Nat->Bool} {S:Nat->SK}
theorem Nm(hl:l.length<=9223372036854775807)(h1:fv.strip=fv)(h2:fv.calm=fv)(ht:∀i x,l[i]?=some x->oK (dt T) false fv [E.val x] (S i)=some (.bool (q i),S (i+1))):∀(m i:Nat),i+m=l.length ->
  WL T [0,1,7,8] false (Lu E.ag E.w) [(0,.bZ l.length (fM l E.enc)),(1,fv),(7,iI l.length),(8,iI i)] (S i)
   (λx e J'=>J'=S (o5 q i m).2/\if(o5 q i m).1=true then x=.ret/\∃j:Nat,get e 4=iI j else x=.exit 0)
 |0,i,hi=>by
  refine av (Lu.eq_1 _ _) ?_;have:¬i<l.length:=by omega
  simp[this,h2,o5]
 |m+1,i,hi=>by
  refine av (Lu.eq_1 _ _) ?_;have h4:i<l.length:=by omega
  obtain⟨x,hx⟩:=gE h4;have h5:=aP (f:=E.enc) E.len hx;have h6:=ht i x hx;have h7:=bO h4 hl;have ih:=Nm hl h1 h2 ht m (i+1) (by omega);cases hq:q i
  .rw[hq]at h6;simp[h4,h1,h2,h5,h6,h7,E.load,E.strip];refine WL.mono (by simpa using ih) ?_;rintro x e J' ⟨h9,h10⟩;simp only[o5,hq,aD,if_false];exact⟨h9,h10⟩
  .rw[hq]at h6;simp[h4,h1,h2,h5,h6,E.load,E.strip,o5,hq];exact⟨i,rfl⟩
theorem VY{f:Nat}(hT:T f=some (vn E.ag E.w))(hl:l.length<=9223372036854775807)(h1:fv.strip=fv)(h2:fv.calm=fv)(hlen:∀i,(S i).length=(S 0).length)
  (ht:∀i x,l[i]?=some x->oK (dt T) false fv [E.val x] ([]::S i)=some (.bool (q i),[]::S (i+1))):
  ∃n:Int,dt T (.call false f [.bZ l.length (fM l E.enc),fv] (S 0))=some (.val (iI n) (S (o5 q 0 l.length).2))/\(0<=n↔(o5 q 0 l.length).1=true):=by
 have h:=Nm E (S:=λi=>[]::S i) hl h1 h2 ht l.length 0 (by omega);cases hq:(o5 q 0 l.length).1
 .refine⟨-1,?_,by simp⟩;refine fA hT (vn.eq_1 _ _) rfl (hlen _) ?_;simp[h2];refine WL.mono (by simpa using h) ?_;rintro x e J' ⟨rfl,h10⟩;rw[hq]at h10;simp only[aD,if_false]at h10;subst h10;simp
 .obtain⟨x,e,J',hw,rfl,h10⟩:=h;rw[hq]at h10;simp only[if_true]at h10;obtain⟨rfl,j,hj⟩:=h10;refine⟨j,?_,by simp⟩;refine fA hT (vn.eq_1 _ _) rfl (hlen _) ?_;simp[h2];refine⟨_,_,_,by simpa using hw,?_⟩;simp[hj]
theorem Oj{f i:Nat}(hT:T f=some (jf i))(hi:T i=some (vn E.ag E.w))(hl:l.length<=9223372036854775807)(h1:fv.strip=fv)(h2:fv.calm=fv)(hlen:∀i,(S i).length=(S 0).length)
  (ht:∀i x,l[i]?=some x->oK (dt T) false fv [E.val x] ([]::[]::S i)=some (.bool (q i),[]::[]::S (i+1))):
  dt T (.call false f [.bZ l.length (fM l E.enc),fv] (S 0))=some (.val (.bool (o5 q 0 l.length).1) (S (o5 q 0 l.length).2)):=by
 obtain⟨n,h,hn⟩:=VY E (S:=λi=>[]::S i) hi hl h1 h2 (λi=>by simp[hlen i]) ht;refine fA hT (jf.eq_1 _) rfl (hlen _) ?_;have h4:decide (0<=n)=(o5 q 0 l.length).1:=by
  cases hq:(o5 q 0 l.length).1
  .rw[hq]at hn;simp at hn;exact decide_eq_false (by omega)
  .exact decide_eq_true (hn.2 hq)
 simp[h1,h2,h,h4]
theorem Yg{g:Nat}{x:α}{b:Bool}{J J':SK}(hT:T g=some (Bc E.ag E.w))(hlen:J'.length=J.length)(h1:fv.strip=fv)(h2:fv.calm=fv)(ht:oK (dt T) false fv [E.val x] ([]::J)=some (.bool b,[]::J')):
  oK (dt T) false (.fn g [] [.aZ [fv]]) [E.val x] J=some (.bool (!b),J'):=by
 rw[pS];have hc:=E.cells x;have hl:=E.load x;have hs:=E.strip x;have hcm:=E.calm x;have key:dt T (.call false g ([]++[E.val x]++[.aZ [fv]]) J)=some (.val (.bool (!b)) J'):=by
  generalize E.ag=ag at *
  cases ag with
  |true =>
   refine fA hT (Bc.eq_1 _) rfl hlen ?_;simp[h1,ht,hc,hl,hs]
  |false =>
   refine fA hT (Bc.eq_2 _) rfl hlen ?_;simp[h1,ht,hs,hcm]
 rw[key];rfl
theorem Oa{f g h i:Nat}{p:Nat->Bool}(hf:T f=some (G8 g h))(hg:T g=some (Bc E.ag E.w))(hh:T h=some (jf i))(hi:T i=some (vn E.ag E.w))
  (hl:l.length<=9223372036854775807) (h1:fv.strip=fv) (h2:fv.calm=fv) (hcl:fv.cells=some [fv]) (hlen:∀i,(S i).length=(S 0).length)
  (ht:∀i x,l[i]?=some x->oK (dt T) false fv [E.val x] ([]::[]::[]::[]::S i)=some (.bool (p i),[]::[]::[]::[]::S (i+1))):
  dt T (.call false f [.bZ l.length (fM l E.enc),fv] (S 0))=some (.val (.bool !(o5 (λi => !p i) 0 l.length).1) (S (o5 (λi => !p i) 0 l.length).2)):=by
 have hc:=Oj E (S:=λi=>[]::S i) (fv:=.fn g [] [.aZ [fv]]) (q:=λi => !p i) hh hi hl rfl rfl (λi=>by simp[hlen i]) (λi x hx=>Yg E hg (by simp[hlen i,hlen (i+1)]) h1 h2 (ht i x hx));refine fA hf (G8.eq_1 _ _) rfl (hlen _) ?_;simp[h1,hc,hcl]
theorem abv{f g h i:Nat}{p:α->Bool}{J:SK}(hf:T f=some (G8 g h))(hg:T g=some (Bc E.ag E.w))(hh:T h=some (jf i))(hi:T i=some (vn E.ag E.w))
  (hl:l.length<=9223372036854775807) (h1:fv.strip=fv) (h2:fv.calm=fv) (hcl:fv.cells=some [fv])
  (ht:∀x∈l,oK (dt T) false fv [E.val x] ([]::[]::[]::[]::J)=some (.bool (p x),[]::[]::[]::[]::J)):
  dt T (.call false f [.bZ l.length (fM l E.enc),fv] J)=some (.val (.bool (dq l p)) J):=by
 have h0:=Oa E (T:=T) (S:=λ_=>J) (fv:=fv) (l:=l) (p:=λi=>match l[i]? with | some x=>p x | none=>true) hf hg hh hi hl h1 h2 hcl (λ_=>rfl) (λi x hx=>by
  rw[ht x (ai hx)];simp[hx])
 have he:(!(o5 (λi => !(match l[i]? with | some x=>p x | none=>true)) 0 l.length).1)=dq l p:=by
  have h2:=Fy (q:=λi => !(match l[i]? with | some x=>p x | none=>true)) (m:=l.length) (i:=0);cases hw:dq l p
  .rw[Bool.not_eq_false'];cases hs:(o5 (λi => !(match l[i]? with | some x=>p x | none=>true)) 0 l.length).1
   .have h3:=h2.1 hs;have h4:dq l p=true:=eQ.2 λx hx=>by
     obtain⟨j,hj⟩:=fV hx;have:=h3 j (aA.1 hj).1;simpa[hj]using this
    rw[hw]at h4;cases h4
   .rfl
  .rw[dV];refine h2.2 λj hj=>?_
   have hx:=aK hj;have:=eQ.1 hw _ (List.getElem_mem hj);simp[hx,this]
 rw[he]at h0;exact h0
end
end Go.Abs
namespace Go.Proofs.YtpapbbojmclkgaaGreatDoor
open Go Go.Abs Go.Rock
variable {J:SK}
theorem aaF{r:Rw}:Cl 282 [.agg r.enc] (.bool r.alone) J:=by
 refine ar ?_;cases hc1:bF r.t 0 400
 .simp[jX,Rw.alone,hc1]
 cases hc2:bF r.p 1 10000
 .simp[jX,Rw.alone,hc1,hc2]
 cases hc3:bF r.l 0 4000
 .simp[jX,Rw.alone,hc1,hc2,hc3]
 cases hc4:bF r.s 0 2000
 .simp[jX,Rw.alone,hc1,hc2,hc3,hc4]
 by_cases hc5:r.l<r.v
 rotate_left
 .simp[jX,Rw.alone,hc1,hc2,hc3,hc4,hc5]
 simp[jX,Rw.alone,hc1,hc2,hc3,hc4,hc5]
theorem aey{l:List Rw}(hl:l.length<=1000000000):Cl 281 [lF l Rw.enc,.fn 282 [] []] (.bool (dq l Rw.alone)) J :=
 CL (yI 5 Rw.enc (λ_=>rfl)) (f:=281) (g:=323) (h:=322) (i:=355) (l:=l) (p:=Rw.alone) rfl rfl rfl rfl (by omega) (pA.fn λx _ J=>aaF) rfl
theorem ade{t l:List Rw}{o:Rw}(hto:t=o::l)(hl:l.length<=100):∀(m i:Nat),i+m=l.length ->
  WL T [0,16,17,18] false gi [(0,lF t Rw.enc),(16,lF l Rw.enc),(17,iI l.length),(18,iI i)] J
   (λx e J'=>J'=J/\if uN (t.drop i)then x=.exit 0 else x=.ret/\get e 2=.bool false)
 |0,i,hi=>by
  refine av gi.eq_1 ?_;have h1:¬i<l.length:=by omega
  have h2:t.drop i=[t[i]'(by subst hto;simp;omega)]:=by
   rw[List.drop_eq_getElem_cons (by subst hto;simp;omega),an (by subst hto;simp;omega)]
  simp[h1,h2,uN]
 |m+1,i,hi=>by
  refine av gi.eq_1 ?_;have h1:i<l.length:=by omega
  have htl:t.length=l.length+1:=by subst hto;rfl
  obtain⟨r,hr⟩:=gE h1;obtain⟨r0,hr0⟩:∃r0,t[i]?=some r0:=gE (by omega);have h2:=aP (f:=Rw.enc) (w:=5) (λ_=>rfl) hr;have h3:=aP (f:=Rw.enc) (w:=5) (λ_=>rfl) hr0;have h4:=bO h1;have h6:t.drop (i+1)=r::t.drop (i+2):=bz (by subst hto;simpa using hr);have h5:t.drop i=r0::r::t.drop (i+2):=by rw[bz hr0,h6]
  have ih:=ade hto hl m (i+1) (by omega);rw[h6]at ih;rw[h5,uN];have⟨hlt,hlt'⟩:(i:Int)<(t.length:Int)/\i<t.length:=by omega
  by_cases c1:r.t<=r0.t
  .simp[h1,hlt,h2,h3,c1,Rw.xe]
  by_cases c2:r.p<=r0.p
  .simp[h1,hlt,h2,h3,c1,c2,Rw.xe]
  by_cases c3:r.l<=r0.l
  .simp[h1,hlt,h2,h3,c1,c2,c3,Rw.xe]
  by_cases c4:r.s<r0.s
  .simp[h1,hlt,h2,h3,c1,c2,c3,c4,Rw.xe]
  .simp[h1,hlt,h2,h3,h4,c1,c2,c3,c4,Rw.xe];have hc:r0.t<r.t/\r0.p<r.p/\r0.l<r.l/\r0.s<=r.s:=by omega
   exact WL.to ih (by simp) rfl λx e J' hh=>by simpa[hc]using hh
theorem GF{t:List Rw}(hl:t.length<=1000000000):Cl 233 [lF t Rw.enc] (.bool (fN t)) J:=by
 refine ar ?_;have ha:=λJ=>aey (J:=J) (l:=t) hl
 cases hc1:bF t.length 2 20
 .simp[jX,hc1,fN]
 cases hc2:dq t Rw.alone
 .simp[jX,hc1,hc2,ha,fN]
 obtain⟨o,l,hto⟩:∃o l,t=o::l:=by
  cases t with
  |nil=>simp[bF]at hc1
  |cons o l=>exact⟨o,l,rfl⟩
 have hi:=aQ.1 hc1;have htl:t.length=l.length+1:=by subst hto;rfl
 have⟨h1,h2⟩:(1:Int)<=(t.length:Int)/\t.length-1=l.length:=by omega
 have h3:((fM t Rw.enc).drop 5).take (l.length*5)=fM l Rw.enc:=by
  subst hto;have:=OC (f:=Rw.enc) (w:=5) (λ_=>rfl) l;simpa using this
 simp[jX,hc1,hc2,ha,h1,h2,h3];refine WL.to (ade (J:=[]::J) hto (by omega) l.length 0 (by omega)) (by simp) rfl ?_;rintro x e J' ⟨rfl,h⟩;simp only[aC]at h;unfold fN;cases hc3:uN t
 .rw[hc3]at h;simp at h;simp[h,hc2,hc1]
 .rw[hc3]at h;simp at h;subst h;simp[hc2,hc1]
theorem CE{l:List Rw}(hl:l.length<=1000000000):Cl 201 [lF l Rw.enc] (iI (if fN l then 0 else 1)) J:=by
 refine ar ?_;cases hc:fN l<;>simp[GF hl,hc]
theorem TA{b:bU}(hx:1<=b.f.x/\b.f.x<=8)(hy:1<=b.f.y/\b.f.y<=8)(hz:1<=b.f.z/\b.f.z<=8):Cl 284 [.agg (bL b)] (iI b.size) J:=by
 refine ar ?_;obtain⟨h1,h2⟩:=dF.sz hx hy hz;have w1:=cm (n:=b.f.x*b.f.y);have w2:=cm (n:=b.f.x*b.f.y*b.f.z);simp[w1,w2,bU.size,dF.size]
def tX(b:Bool):List D:=[.bool b]
def sD(n:Nat)(aw:List bA):Nat->List Bool
 |0=>List.replicate n false
 |i+1=>match aw[i]? with
  |some w=>if bF w.b 0 ((n:Int)-1)=true/\(sD n aw i)[w.b.toNat]?=some false then(sD n aw i).set w.b.toNat true else sD n aw i
  |none=>sD n aw i
theorem CB{n:Nat}{aw:List bA}:∀i,(sD n aw i).length=n
 |0=>by simp[sD]
 |i+1=>by
  simp only[sD];split
  .split
   .simp[CB i]
   .exact CB i
  .exact CB i
def AV(n:Nat)(aw:List bA)(i:Nat):Bool :=
 match aw[i]? with
 |some w=>bF w.b 0 ((n:Int)-1) && (decide ((sD n aw i)[w.b.toNat]?=some false) && (bF w.h 0 3000 && bF w.m 0 1000000))
 |none=>true
def Jf(n:Nat)(aw:List bA)(J:SK)(i:Nat):SK:=[.cells 0 (fM (sD n aw i) tX),.cells 0 [.sl J.length 0 0 0 n 1]]::J
theorem Yq{l:List Bool}{j:Nat}{x:Bool}(h:l[j]?=some x):((fM l tX).drop j)=.bool x::(fM l tX).drop (j+1):=by
 have:=re (f:=tX) (w:=1) (λ_=>rfl) h;simpa[tX]using this
theorem VG{l:List Bool}{j:Nat}{x:Bool}(h:j<l.length):(fM l tX).take j++(.bool x::(fM l tX).drop (j+1))=fM (l.set j x) tX:=by
 have:=No (f:=tX) (w:=1) (λ_=>rfl) (x:=x) h;simpa[tX]using this
theorem VF{l:List Bool}:(fM l tX).length=l.length:=by
 have:=bQ (f:=tX) (w:=1) (λ_=>rfl) l;omega
theorem Sa{n:Nat}{aw:List bA}(hn:n<=512){i:Nat}{w:bA}(hw:aw[i]?=some w):
  dt T (.call false 286 [.agg w.enc,.ref J.length 1 0 0] ([]::[]::[]::[]::Jf n aw J i))=some (.val (.bool (AV n aw i)) ([]::[]::[]::[]::Jf n aw J (i+1))):=by
 refine fA rfl rfl rfl (by simp[Jf]) ?_;have hlen:=CB (n:=n) (aw:=aw) i;have w1:=cm (n:=(n:Int)-1);have hwp:AV n aw i=(bF w.b 0 ((n:Int)-1) && (decide ((sD n aw i)[w.b.toNat]?=some false) && (bF w.h 0 3000 && bF w.m 0 1000000))):=by simp[AV,hw]
 have hus:sD n aw (i+1)=if bF w.b 0 ((n:Int)-1)=true/\(sD n aw i)[w.b.toNat]?=some false then(sD n aw i).set w.b.toNat true else sD n aw i:=by simp[sD,hw]
 rw[hwp];simp only[Jf];generalize sD n aw (i+1)=us' at *
 generalize sD n aw i=us at *
 cases hc1:bF w.b 0 ((n:Int)-1)
 .rw[hc1]at hus;simp at hus;subst hus;simp[dR,w1,hc1]
 .obtain⟨g1,g2⟩:=aQ.1 hc1;have g3:w.b<(n:Int):=by omega
  obtain⟨u,hu⟩:∃u,us[w.b.toNat]?=some u:=⟨_,aK (by omega)⟩;have hat:=Yq hu;have hset:=VG (l:=us) (j:=w.b.toNat) (x:=true) (by omega);have hlen2:(fM us tX).length=n:=by rw[VF,hlen]
  have hle:w.b.toNat+1<=n:=by omega
  rw[hc1,hu]at hus;cases u
  .simp at hus;subst hus;cases hc2:bF w.h 0 3000<;>
    simp[dR,w1,hc1,hu,g1,g3,hat,hset,hlen2,hle,hc2]
  .simp at hus;subst hus;simp[dR,w1,hc1,hu,g1,g3,hat]
theorem RJ{n:Nat}{aw:List bA}:∀{i:Nat},i<=aw.length->(∀j,j<i->AV n aw j=true)->∀k:Nat,k<n->(sD n aw i)[k]?=some (((aw.take i).map (·.b)).contains (k:Int))
 |0,_,_,k,hk=>by simp[sD,hk]
 |i+1,hi,h,k,hk=>by
  obtain⟨w,hw⟩:∃w,aw[i]?=some w:=gE (by omega);have ih:=RJ (i:=i) (by omega) (λj hj=>h j (by omega));have hp:=h i (by omega);simp only[AV,hw,ah,aB]at hp;obtain⟨h1,h2,_⟩:=hp;obtain⟨g1,g2⟩:=aQ.1 h1;have ht:aw.take (i+1)=aw.take i++[w]:=by rw[List.take_add_one,hw];rfl
  simp only[sD,hw];rw[if_pos ⟨h1,h2⟩,ht];rw[List.getElem?_set];by_cases hkw:w.b.toNat=k
  .subst hkw;have hb:w.b=((w.b.toNat:Nat):Int):=by omega
   simp[CB,hk];right;omega
  .rw[if_neg hkw,ih k hk];congr 1;have:((k:Int) == w.b)=false:=by simp;omega
   simp[];intro hh;omega
theorem E5{n:Nat}{aw:List bA}:∀(m i:Nat),i+m=aw.length->(∀j,j<i->AV n aw j=true) ->
  (oI (n:Int) ((aw.take i).map (·.b)) (aw.drop i)=true↔∀j,i<=j->j<aw.length->AV n aw j=true)
 |0,i,hi,h=>by
  rw[an (by omega)];simp only[oI,true_iff];intro j h1 h2;omega
 |m+1,i,hi,h=>by
  obtain⟨w,hw⟩:∃w,aw[i]?=some w:=gE (by omega);have hu:=RJ (n:=n) (i:=i) (by omega) h;have hone:bA.ok (n:Int) ((aw.take i).map (·.b)) w=AV n aw i:=by
   simp only[AV,hw,bA.ok];cases hc:bF w.b 0 ((n:Int)-1)
   .rfl
   .obtain⟨g1,g2⟩:=aQ.1 hc;have:=hu w.b.toNat (by omega);rw[this,show((w.b.toNat:Nat):Int)=w.b from by omega];cases((aw.take i).map (·.b)).contains w.b<;>simp
  rw[bz hw,oI,hone,ah];have ht:(aw.take i).map (·.b)++[w.b]=(aw.take (i+1)).map (·.b):=by rw[List.take_add_one,hw];simp
  rw[ht];constructor
  .rintro⟨h1,h2⟩ j hj1 hj2;by_cases hji:j=i
   .subst hji;exact h1
   .refine((E5 m (i+1) (by omega) λj hj=>?_).1 h2) j (by omega) hj2;by_cases hji:j=i
    .subst hji;exact h1
    .exact h j (by omega)
  .intro hh;have h1:=hh i (by omega) (by omega);refine⟨h1,(E5 m (i+1) (by omega) λj hj=>?_).2 λj hj1 hj2=>hh j (by omega) hj2⟩;by_cases hji:j=i
   .subst hji;exact h1
   .exact h j (by omega)
theorem Sb{n:Nat}{aw:List bA}(hn:n<=512)(hl:aw.length<=1000000000):∃s,
  dt T (.call false 285 [lF aw bA.enc,.fn 286 [] [.ref J.length 1 0 0]] ([.cells 0 (fM (List.replicate n false) tX),.cells 0 [.sl J.length 0 0 0 n 1]]::J)) =
   some (.val (.bool (oI (n:Int) [] aw)) (s::J)):=by
 have h:=Oa (yI 3 bA.enc (λ_=>rfl)) (T:=T) (S:=Jf n aw J) (fv:=.fn 286 [] [.ref J.length 1 0 0]) (l:=aw) (f:=285) (g:=325) (h:=324) (i:=356) (p:=AV n aw)
  rfl rfl rfl rfl (by omega) rfl rfl rfl (λi=>by simp[Jf]) (λi x hx=>by
   rw[pS];have:=Sa (J:=J) hn hx;show R.dh (dt T (.call false 286 [.agg x.enc,.ref J.length 1 0 0] _))=_
   rw[this];rfl)
 have he:(!(o5 (λi => !AV n aw i) 0 aw.length).1)=oI (n:Int) [] aw:=by
  have h1:=E5 (n:=n) (aw:=aw) aw.length 0 (by omega) (by simp);have h2:=Fy (q:=λi => !AV n aw i) (m:=aw.length) (i:=0);simp only[List.take_zero,b9,aC]at h1;cases hw:oI (n:Int) [] aw
  .rw[Bool.not_eq_false'];cases hs:(o5 (λi => !AV n aw i) 0 aw.length).1
   .have h3:=h2.1 hs;have h4:=h1.2 λj _ hj=>by have:=h3 j hj;simpa using this
    rw[hw]at h4;cases h4
   .rfl
  .rw[dV];refine h2.2 λj hj=>?_
   have:=h1.1 hw j (by omega) hj;simpa using this
 rw[he]at h;refine⟨[.cells 0 (fM (sD n aw (o5 (λi => !AV n aw i) 0 aw.length).2) tX),.cells 0 [.sl J.length 0 0 0 n 1]],?_⟩;exact h
theorem D4{b:bU}(h1:b.c9.length<=1000000000)(h2:b.aw.length<=1000000000):Cl 234 [.agg (bL b)] (.bool b.valid) J:=by
 refine ar ?_;have hT:=λJ=>CE (J:=J) (l:=b.c9) h1
 unfold bU.valid bU.ok1;cases hc1:b.f.valid
 .simp[jx,dF.shape,hc1]
 by_cases hc2:b.f.k<4
 .simp[jx,dF.shape,hc1,hc2,show ¬4<=b.f.k by omega]
 have hc2':4<=b.f.k:=by omega
 cases hc3:fN b.c9
 .simp[jx,dF.shape,hc1,hc2,hT,hc3]
 cases hc4:bF b.cG 1 100000
 .simp[jx,dF.shape,hc1,hc2,hT,hc3,dR,hc4]
 cases hc5:bF b.lift 0 1000
 .simp[jx,dF.shape,hc1,hc2,hT,hc3,dR,hc4,hc5]
 cases hc6:bF b.deep 0 3000
 .simp[jx,dF.shape,hc1,hc2,hT,hc3,dR,hc4,hc5,hc6]
 by_cases hc7:8<b.aw.length
 .simp[jx,dF.shape,hc1,hc2,hT,hc3,dR,hc4,hc5,hc6,show ¬b.aw.length<=8 by omega,show(8:Int)<b.aw.length by omega]
 obtain⟨g1,g2,g3,g4,g5⟩:=dF.n9.1 hc1;obtain⟨_,g6⟩:=dF.sz g1 g2 g3;have hsz:=λJ=>TA (J:=J) (b:=b) g1 g2 g3
 have hs:b.size=((b.n:Nat):Int):=by unfold bU.n bU.size dF.size;omega
 have hn:b.n<=512:=by unfold bU.n bU.size dF.size;omega
 have hnil:(fM (List.range b.n) λ_=>[D.bool false])=fM (List.replicate b.n false) tX:=by
  have:∀n,(fM (List.range n) λ_=>[D.bool false])=fM (List.replicate n false) tX:=by
   intro n;induction n with
   |zero=>rfl
   |succ n ih=>rw[List.range_succ,o7,ih,List.replicate_succ'];simp[tX]
  exact this _
 obtain⟨s,hall⟩:=Sb (J:=J) (n:=b.n) (aw:=b.aw) hn h2;rw[<- hs]at hall;have hroom:(b.n:Int)<=70368744177664:=by omega
 rw[hs]at hsz;simp[jx,dF.shape,hc1,hc2,hT,hc3,dR,hc4,hc5,hc6,show ¬(8:Int)<b.aw.length by omega,show b.aw.length<=8 by omega,hsz,room,hroom,hnil,hall,hc2']
theorem YW{l:List Int}{i n:Nat}:((fM l aO).drop i).take n=fM ((l.drop i).take n) aO:=by
 simp only[show aO=λn=>[iI n]from rfl,Qu,<- List.map_drop,<- List.map_take]
theorem gw{l:List Int}{j:Nat}{x:Int}(h:l[j]?=some x):((fM l aO).drop j).take 1=[iI x]:=by
 have:=aP (f:=aO) (w:=1) (λ_=>rfl) h;simpa using this
theorem DE(l:List Rw):D.aW (fM l Rw.enc)=true:=ef (λx=>by simp) l
theorem yk(l:List bA):D.aW (fM l bA.enc)=true:=ef (λx=>by simp) l
theorem kR(l:List Int):D.aW (fM l aO)=true:=ef (λx=>by simp) l
theorem Iz(l:List Rock.aF):D.aW (fM l aF.enc)=true:=ef (λx=>by simp) l
structure Bv(b:bU):Prop where
 x:1<=b.f.x/\b.f.x<=8
 y:1<=b.f.y/\b.f.y<=8
 z:1<=b.f.z/\b.f.z<=8
 k:4<=b.f.k/\b.f.k<=6
 sz:b.f.size=((b.n:Nat):Int)
 n:1<=b.n/\b.n<=64
 c9:fN b.c9=true
 cG:1<=b.cG/\b.cG<=100000
 lift:0<=b.lift/\b.lift<=1000
 deep:0<=b.deep/\b.deep<=3000
 aw:b.aw.length<=8
 ok:oI b.size [] b.aw=true
theorem Bv.of{b:bU}(h:b.valid=true):Bv b:=by
 simp only[bU.valid,bU.ok1,ah,aB]at h;obtain⟨⟨h1,h2,h3,h4,h5,h6,h7⟩,h8⟩:=h;obtain⟨g1,g2,g3,g4,g5⟩:=dF.n9.1 h1;obtain⟨_,g6⟩:=dF.sz g1 g2 g3;refine⟨g1,g2,g3,⟨h2,g5.2⟩,?_,?_,h3,aQ.1 h4,aQ.1 h5,aQ.1 h6,h7,h8⟩
 .unfold bU.n bU.size dF.size;omega
 .unfold bU.n bU.size;unfold dF.size at g4 ⊢;omega
theorem Bv.fv{b:bU}(h:Bv b):b.f.valid=true:=dF.n9.2 ⟨h.x,h.y,h.z,by have:=h.sz;have:=h.n;omega,by have:=h.k;omega⟩
structure Mv(b:bU)(m:cg):Prop where
 bv:Bv b
 len:(m.dh.length:Int)=b.f.k*b.f.size
theorem Mv.le{b:bU}{m:cg}(h:Mv b m):4*b.n<=m.dh.length/\m.dh.length<=384:=by
 have h1:=h.bv.k;have h2:=h.bv.sz;have h3:=h.bv.n;have h4:=h.len;have h5:=(dS h1.1 (by omega:(0:Int)<=b.f.size));have h6:=Ux (a:=b.f.k) (b:=b.f.size) (A:=6) (B:=64) (by omega) h1.2 (by omega) (by omega);omega
theorem BT{b:bU}(h:Bv b):Cl 284 [.agg (bL b)] (iI b.n) J:=by
 have:=TA (J:=J) (b:=b) h.x h.y h.z;rw[show b.size=((b.n:Nat):Int)from h.sz]at this;exact this
theorem KA{b:bU}{m:cg}(h:Mv b m){k:Nat}(hk:k<4):Cl 327 [.agg (bM b m),iI k] (.bZ b.n (fM (xa b m k) aO)) J:=by
 refine ar ?_;obtain⟨h1,h2⟩:=h.le;have h3:=h.bv.n;have hs:=λJ=>BT (J:=J) h.bv
 have e1:(k:Int)*(b.n:Int)=((k*b.n:Nat):Int):=by push_cast;rfl
 have e2:((k:Int)+1)*(b.n:Int)=(((k+1)*b.n:Nat):Int):=by push_cast;rfl
 have b1:(k+1)*b.n<=m.dh.length:=jz (db _ (by omega:k+1<=4)) h1;have b2:(k+1)*b.n=k*b.n+b.n:=eD _ _;have w1:=cm (n:=(k:Int)*b.n) (by rw[e1];omega);have w2:=cm (n:=(k:Int)+1);have w3:=cm (n:=((k:Int)+1)*b.n) (by rw[e2];omega);have e3:(k+1)*b.n-k*b.n=b.n:=by omega
 have hsub:=YW (l:=m.dh) (i:=k*b.n) (n:=b.n);have hle:(k:Int)*b.n<=((k:Int)+1)*b.n:=by rw[e1,e2];omega
 simp[hs,w1,w2,w3];rw[e1,e2];have⟨c1,c2,c3,c4⟩:(0:Int)<=((k*b.n:Nat):Int)/\((k*b.n:Nat):Int)<=(((k+1)*b.n:Nat):Int)/\(((k+1)*b.n:Nat):Int)<=(m.dh.length:Int)/\(0:Int)<=(((k+1)*b.n:Nat):Int):=by omega
 simp only[c1,c3,c4,and_self,if_true,Int.toNat_natCast,Option.bind_some];simp[xa,hle,e3,hsub,kR]
theorem Nq{b:bU}{m:cg}(h:Mv b m){k:Nat}(hk:k<4):(xa b m k).length=b.n:=by
 obtain⟨h1,h2⟩:=h.le;have b1:(k+1)*b.n<=m.dh.length:=jz (db _ (by omega:k+1<=4)) h1;have b2:(k+1)*b.n=k*b.n+b.n:=eD _ _;simp[xa];omega
theorem zA{b:bU}{m:cg}(h:Mv b m){k i:Nat}(hk:k<4)(hi:i<b.n):(xa b m k)[i]?=some (jU b m k i):=by
 obtain⟨h1,h2⟩:=h.le;have b1:(k+1)*b.n<=m.dh.length:=jz (db _ (by omega:k+1<=4)) h1;have b2:(k+1)*b.n=k*b.n+b.n:=eD _ _;have h3:k*b.n+i<m.dh.length:=by omega
 simp only[xa,jU,dp,ea,if_pos hi,aK h3,eW]
theorem Xc{b:bU}{m:cg}(h:Mv b m){i:Nat}(hi:i<b.n):Cl 288 [.agg (bM b m),iI i] (iI (hold b m i)) J:=by
 refine ar ?_;have hk:=λJ=>KA (J:=J) h (k:=0) (by omega)
 have ha:=gw (zA h (k:=0) (by omega) hi);simp only[Int.ofNat_zero]at hk;simp[hk,hi,ha,hold]
theorem Xk{b:bU}{m:cg}(h:Mv b m){i:Nat}(hi:i<b.n):Cl 360 [.agg (bM b m),iI i] (iI (Ab b m i)) J:=by
 refine ar ?_;have hk:=λJ=>KA (J:=J) h (k:=1) (by omega)
 have ha:=gw (zA h (k:=1) (by omega) hi);simp at hk;simp[hk,hi,ha,Ab]
theorem aeH{b:bU}{m:cg}(h:Mv b m){i:Nat}(hi:i<b.n):Cl 289 [.agg (bM b m),iI i] (iI (Ik b m i)) J:=by
 refine ar ?_;have hk:=λJ=>KA (J:=J) h (k:=2) (by omega)
 have ha:=gw (zA h (k:=2) (by omega) hi);simp at hk;simp[hk,hi,ha,Ik]
theorem ael{b:bU}{m:cg}(h:Mv b m){i:Nat}(hi:i<b.n):Cl 361 [.agg (bM b m),iI i] (iI (feed b m i)) J:=by
 refine ar ?_;have hk:=λJ=>KA (J:=J) h (k:=3) (by omega)
 have ha:=gw (zA h (k:=3) (by omega) hi);simp at hk;simp[hk,hi,ha,feed]
theorem aaM{lo hi n:Int}:Cl 328 [iI n,.ref J.length 0 0 0] (.bool (bF n lo hi)) ([]::[]::[]::[]::[.cells 0 [iI lo,iI hi]]::J):=by
 refine ar ?_;simp[dR]
theorem Vk{b:bU}{m:cg}(h:Mv b m){k:Nat}(hk:k<4){lo hi:Int}:Cl 326 [.bZ b.n (fM (xa b m k) aO),.fn 328 [] [.ref J.length 0 0 0]] (.bool (dq (xa b m k) λn=>bF n lo hi)) ([.cells 0 [iI lo,iI hi]]::J):=by
 have hl:=Nq h hk;have hn:=h.bv.n;have:=abv (Oq .i64) (T:=T) (f:=326) (g:=357) (h:=226) (i:=273) (l:=xa b m k) (p:=λn=>bF n lo hi) (fv:=.fn 328 [] [.ref J.length 0 0 0]) (J:=[.cells 0 [iI lo,iI hi]]::J)
  rfl rfl rfl rfl (by omega) rfl rfl rfl (λx _=>by
   rw[pS];have:=aaM (J:=J) (lo:=lo) (hi:=hi) (n:=x);show R.dh (dt T (.call false 328 [iI x,.ref J.length 0 0 0] _))=_
   rw[this];rfl)
 rw[hl]at this;exact this
def OZ:Nat->Int×Int
 |0=>(1000,100000)
 |1=>(0,1000)
 |2=>(0,3000)
 |_=>(0,1000)
def Cp(b:bU)(m:cg)(i:Nat):Nat->Bool
 |0=>true
 |n+1=>dq (xa b m i) (λx=>bF x (OZ i).1 (OZ i).2) && Cp b m (i+1) n
theorem XR{b:bU}{m:cg}(h:Mv b m):∀(n i:Nat),i+n=4 ->
  WL T [1,17,18] true iV [(1,.aZ (bM b m)),(17,.agg [iI 1000,iI 100000,iI 0,iI 1000,iI 0,iI 3000,iI 0,iI 1000]),(18,iI i)] J
   (λx e J'=>J'=J/\if Cp b m i n=true then x=.exit 0 else x=.ret/\get e 2=.bool false)
 |0,i,hi=>by
  refine G7 iV.eq_1 ?_;obtain rfl:i=4:=by omega
  simp[Cp,DE,yk,kR]
 |n+1,i,hi=>by
  refine G7 iV.eq_1 ?_;have hk:i<4:=by omega
  have hK:=λJ=>KA (J:=J) h hk
  have ih:=XR h n (i+1) (by omega);have hA:=Vk (J:=J) h hk (lo:=(OZ i).1) (hi:=(OZ i).2);simp only[Cp];rcases Bool.eq_false_or_eq_true (dq (xa b m i) (λx=>bF x (OZ i).1 (OZ i).2))with hc | hc
  .rw[hc]at hA;obtain rfl | rfl | rfl | rfl:i=0\/i=1\/i=2\/i=3:=by omega
   all_goals
    simp only[OZ]at hA hc ⊢
    try simp at hK
    simp[hK,hA,hc,DE,yk,kR];exact WL.to ih (by simp[]) (by simp[]) λx e J' hh=>by simpa[hc]using hh
  .rw[hc]at hA;obtain rfl | rfl | rfl | rfl:i=0\/i=1\/i=2\/i=3:=by omega
   all_goals
    simp only[OZ]at hA hc ⊢
    try simp at hK
    simp[hK,hA,hc]
theorem Mv.of{b:bU}{m:cg}(h:Bv b)(hc:fW b.f [m]=0):Mv b m:=by
 refine⟨h,?_⟩;simp only[fW,h.fv,if_true,dF.aj]at hc;have h1:bF (([m]:List cg).length:Nat) 1 40=true:=by simp[bF]
 rw[if_pos h1]at hc;simp only[dF.each]at hc;split at hc
 .rename_i hm;unfold dF.model at hm;split at hm
  .split at hm
   .rename_i hh;exact hh.1
   .cases hm
  .cases hm
 .rename_i hm;exact absurd hc hm
theorem RZ{b:bU}{m:cg}(h:Bv b)(hn:m.name.length<=1000000000)(hl:m.dh.length<=1000000000):Cl 287 [.agg (bM b m)] (.bool (fits b m)) J:=by
 refine ar ?_;have hC:=λJ=>FM (J:=J) (f:=b.f) (l:=[m]) (by simpa using⟨hn,hl⟩) (by simp)
 simp at hC;by_cases hc:fW b.f [m]=0
 .have hm:=Mv.of h hc;simp[hC,hc];refine WL.to (XR (J:=[]::J) hm 4 0 (by omega)) (by simp) rfl ?_;rintro x e J' ⟨rfl,hh⟩;have he:Cp b m 0 4=fits b m:=by
   simp[Cp,fits,hc,OZ]
  rw[he]at hh;cases hf:fits b m
  .rw[hf]at hh;simp at hh;simp[hh]
  .rw[hf]at hh;simp at hh;subst hh;simp
 .simp[hC,hc,fits]
theorem ac2{b:bU}{m:cg}(h1:b.c9.length<=1000000000)(h2:b.aw.length<=1000000000)(hn:m.name.length<=1000000000)(hl:m.dh.length<=1000000000)(hb:Bd b m=true):
  Cl 235 [.agg (bL b),.agg (mL m)] (.cQ [.agg (bM b m),iI 0]) J:=by
 refine ar ?_;simp only[Bd,ah]at hb;have hf:=λJ=>RZ (J:=J) (Bv.of hb.1) hn hl
 simp[D4 h1 h2,hb.1,hf,hb.2,DE,yk,kR]
theorem Tw{b:bU}{m:cg}(h1:b.c9.length<=1000000000)(h2:b.aw.length<=1000000000)(hn:m.name.length<=1000000000)(hl:m.dh.length<=1000000000)(hb:Bd b m=false):∃d,
  Cl 235 [.agg (bL b),.agg (mL m)] (.cQ [.agg d,iI 1]) J/\d.length=11/\D.aW d=true:=by
 refine⟨[(iI 0),(iI 0),(iI 0),(iI 0),.bu,(iI 0),(iI 0),(iI 0),.bu,(.str []),.bu],?_,rfl,by simp⟩;refine ar ?_;cases hc:b.valid
 .simp[D4 h1 h2,hc]
 .have hf:=λJ=>RZ (J:=J) (Bv.of hc) hn hl
  have hb':fits b m=false:=by simpa[Bd,hc]using hb
  simp[D4 h1 h2,hc,hf,hb']
theorem aaV{n:Int}:Cl 331 [iI n] (.bool (bF n (-100000) 100000)) J:=by
 refine ar ?_;simp[dR]
theorem Vq{l:List Int}{p:Int->Bool}{fv:D}(hl:l.length<=1000000000)(ht:pA T fv (λn=>iI n) p l)(hc:fv.cells=some [fv]):
  Cl 326 [lF l aO,fv] (.bool (dq l p)) J :=
 CL (Oq .i64) (f:=326) (g:=357) (h:=226) (i:=273) (l:=l) (p:=p) (fv:=fv) rfl rfl rfl rfl (by omega) ht hc
theorem aaW{b:bU}{l:List Int}(hl:l.length<=1000000000):Cl 302 [.agg (bL b),lF l aO] (iI (rj b l)) J:=by
 refine ar ?_;have ha:=λJ=>Vq (J:=J) (l:=l) (p:=λn=>bF n (-100000) 100000) (fv:=.fn 331 [] []) hl (pA.fn λx _ J=>aaV) rfl
 try simp only[lF,Cl]at ha
 unfold rj;by_cases hc1:l.length=b.aw.length
 .rw[<- hc1];cases hc2:dq l (λn=>bF n (-100000) 100000)<;>simp[hc1,hc2,hc1 ▸ ha]
 .simp[hc1,show ¬(l.length:Int)=b.aw.length by omega]
def J0(l:List Int):List D:=[lF l aO]
theorem XU{b:bU}{az:List (List Int)}(hl:az.length<=1000000000)(hs:∀l∈az,l.length<=1000000000):∀(m i:Nat),i+m=az.length ->
  WL T [2,11,12,13] false kh [(2,.aZ (bL b)),(11,lF az J0),(12,iI az.length),(13,iI i)] J
   (λx e J'=>J'=J/\if b8 (rj b) (az.drop i)=0 then x=.exit 0 else x=.ret/\get e 4=iI (b8 (rj b) (az.drop i)))
 |0,i,hi=>by
  refine av kh.eq_1 ?_;have h1:¬i<az.length:=by omega
  have h2:az.drop i=[]:=an (by omega);simp[h1,h2,b8]
 |m+1,i,hi=>by
  refine av kh.eq_1 ?_;have h1:i<az.length:=by omega
  obtain⟨l,hx⟩:=gE h1;have h2:=aP (f:=J0) (w:=1) (λ_=>rfl) hx;simp only[J0,bJ]at h2;have h4:=bO h1;have h5:=bz hx;have hC:=λJ=>aaW (J:=J) (b:=b) (l:=l) (hs l (ai hx))
  rw[h5,b8];have ih:=XU (b:=b) hl hs m (i+1) (by omega);by_cases hc:rj b l=0
  .simp[h1,h2,h4,hC,hc];exact WL.to ih (by simp[]) rfl λx e J' hh=>by simpa[hc]using hh
  .simp[h1,h2,hC,hc]
theorem Xn{b:bU}{az:List (List Int)}(hl:az.length<=1000000000)(hs:∀l∈az,l.length<=1000000000):
  Cl 250 [.agg (bL b),lF az J0] (iI (tL b az)) J:=by
 refine ar ?_;unfold tL;by_cases hc:200<az.length
 .simp[hc,show(200:Int)<az.length by omega]
 .simp[hc,show ¬(200:Int)<az.length by omega];refine WL.to (XU (J:=[]::J) (b:=b) hl hs az.length 0 (by omega)) (by simp) rfl ?_;rintro x e J' ⟨rfl,h⟩;simp only[aC]at h;by_cases hc2:b8 (rj b) az=0
  .rw[if_pos hc2]at h;subst h;simp[hc2,show az.length<=200 by omega]
  .rw[if_neg hc2]at h;obtain⟨rfl,h⟩:=h;simp[h,show ¬200<az.length by omega]
structure Fv(b:bU)(m:cg):Prop extends Mv b m where
 hold:∀i,i<b.n->1000<=Rock.hold b m i/\Rock.hold b m i<=100000
 Ab:∀i,i<b.n->0<=Rock.Ab b m i/\Rock.Ab b m i<=1000
 Ik:∀i,i<b.n->0<=Rock.Ik b m i/\Rock.Ik b m i<=3000
 feed:∀i,i<b.n->0<=Rock.feed b m i/\Rock.feed b m i<=1000
theorem Fv.of{b:bU}{m:cg}(h:Bd b m=true):Fv b m:=by
 simp only[Bd,fits,ah,aB]at h;obtain⟨h1,h2,h3,h4,h5,h6⟩:=h;have hm:=Mv.of (Bv.of h1) h2;have key:∀{k:Nat} {lo hi:Int},k<4->dq (xa b m k) (λn=>bF n lo hi)=true->∀i,i<b.n->lo<=jU b m k i/\jU b m k i<=hi:=by
  intro k lo hi hk ha i hi';exact aQ.1 (eQ.1 ha _ (ai (zA hm hk hi')))
 exact⟨hm,key (by omega) h3,key (by omega) h4,key (by omega) h5,key (by omega) h6⟩
theorem xk{b:bU}(h:Bv b){i:Nat}(hi:i<b.n):0<=weight b i/\weight b i<=64000:=by
 have hl:=h.lift;have hn:=h.n;have hle:i / (b.f.x.toNat*b.f.y.toNat)<=i:=Nat.div_le_self _ _;have hq:=Int.natCast_nonneg (i / (b.f.x.toNat*b.f.y.toNat));have hle2:((i / (b.f.x.toNat*b.f.y.toNat):Nat):Int)<=64:=by
  have:i / (b.f.x.toNat*b.f.y.toNat)<=64:=by omega
  exact Int.ofNat_le.2 this
 unfold weight;exact jb (A:=64) (B:=1000) hq hle2 hl.1 hl.2
theorem KE{b:bU}{m:cg}(h:Bv b){i:Nat}(hi:i<b.n):Cl 343 [.agg (bM b m),iI i] (iI (weight b i)) J:=by
 refine ar ?_;have hx:=h.x;have hy:=h.y;have hn:=h.n;obtain⟨s1,_⟩:=dF.sz h.x h.y h.z;have w1:=cm (n:=b.f.x*b.f.y);have e1:b.f.x*b.f.y=((b.f.x.toNat*b.f.y.toNat:Nat):Int):=by push_cast;rw[dQ (by omega),dQ (by omega)]
 have e2:(i:Int) / (b.f.x*b.f.y)=((i / (b.f.x.toNat*b.f.y.toNat):Nat):Int):=by
  rw[e1];rfl
 have hle:i / (b.f.x.toNat*b.f.y.toNat)<=i:=Nat.div_le_self _ _;have hw:=xk h hi;have hq:(0:Int)<=(i:Int) / (b.f.x*b.f.y):=by rw[e2];exact Int.natCast_nonneg _
 have hq2:(i:Int) / (b.f.x*b.f.y)<=64:=by
  rw[e2];have:i / (b.f.x.toNat*b.f.y.toNat)<=64:=by omega
  exact Int.ofNat_le.2 this
 have w2:=cm (n:=(i:Int) / (b.f.x*b.f.y));have w3:=cm (n:=weight b i);have⟨hne,hnx,hny⟩:¬b.f.x*b.f.y=0/\¬b.f.x=0/\¬b.f.y=0:=by omega
 have e3:(i:Int) / (b.f.x*b.f.y)*b.lift=weight b i:=by rw[e2];rfl
 simp[w1,w2,hne,e3,w3]
theorem aej{n d:Int}(hn : -200000000000<=n/\n<=200000000000)(hd:1<=d/\d<=100000):Cl 344 [iI n,iI d] (iI (down n d)) J:=by
 refine ar ?_;have h1:=Int.mul_tdiv_add_tmod n d;have h2:=Int.tmod_lt_of_pos n (show 0<d by omega);have h3:=Int.lt_tmod_of_pos n (show 0<d by omega);unfold down;generalize hq:n.tdiv d=q at *
 generalize n.tmod d=r at *
 have h4:d*q=q*d:=Int.mul_comm _ _;have hb : -200000100001<=q/\q<=200000100001:=by
  rcases eV 0 q with h | h
  .have:=Int.mul_le_mul_of_nonneg_left hd.1 h;omega
  .have:=Int.mul_le_mul_of_nonpos_left h hd.1;omega
 have w1:=cm (n:=q);have w2:=cm (n:=q*d);have w3:=cm (n:=q-1);have hne:¬d=0:=by omega
 have key:n / d=if n<q*d then q-1 else q:=by
  split
  .rename_i hc;refine((Int.ediv_emod_unique (r:=r+d) (show 0<d by omega)).2 ⟨?_,?_,?_⟩).1
   .rw[Int.mul_sub];omega
   .omega
   .omega
  .rename_i hc;refine((Int.ediv_emod_unique (r:=r) (show 0<d by omega)).2 ⟨?_,?_,?_⟩).1<;>omega
 rw[key];by_cases hc:n<q*d<;>simp[hq,w1,w2,w3,hne,hc]
theorem gG{α:Type}{f:α->List D}{w n:Nat}(hn:1<n)(hw:∀x,(f x).length=w)(hc:∀x,D.aW (f x)=true){l:List α}{j v:Nat}{bs:List Abs.aF}(hJ:J≠[])(hj:bs[j]?=some (.cells v (fM l f))):
  cH (J.length-1) n (.sl J.length j v 0 l.length w) (bs::J)=(lF l f,bs.set j .dead::J):=by
 have h3:¬J.length<=J.length-1:=by have:=aH.2 hJ;omega
 rw[GP h3 (cs:=fM l f) (by simp[hj]) (by omega)];have h4:0<n-1:=by omega
 simp[OC hw l,ef hc l,h4]
theorem o8{b:bU}{m:cg}:(cb b m).length=b.n:=by simp[cb]
theorem tW(l:List Rock.aF):(fM l aF.enc).length=l.length*3:=bQ (f:=aF.enc) (w:=3) (λ_=>rfl) l
theorem TR{b:bU}{m:cg}(h:Fv b m):∀(n i v:Nat),i+n=b.n ->
  WL T [1,2,6,7] false gP [(1,.aZ (bM b m)),(2,.sl J.length 0 v 0 i 3),(6,iI b.n),(7,iI i)] ([.cells v (fM ((cb b m).take i) aF.enc)]::J)
   (λx e J'=>x=.exit 0/\get e 2=.sl J.length 0 (v+n) 0 (cb b m).length 3/\J'=[.cells (v+n) (fM (cb b m) aF.enc)]::J)
 |0,i,v,hi=>by
  refine av gP.eq_1 ?_;obtain rfl:i=b.n:=by omega
  have h3:(cb b m).take b.n=cb b m:=af (by simp[o8]);simp[h3,o8]
 |n+1,i,v,hi=>by
  refine av gP.eq_1 ?_;have h1:i<b.n:=by omega
  have hn:=h.bv.n;have h4:=bO h1;have ho:=λJ=>Xc (J:=J) h.toMv h1
  have hw:=λJ=>aeH (J:=J) h.toMv h1
  have b1:=h.hold i h1;have b2:=h.Ik i h1;have b3:=jb (by omega:0<=hold b m i) b1.2 b2.1 b2.2;have w1:=cm (n:=hold b m i*Ik b m i);have ih:=TR h n (i+1) (v+1) (by omega);have hx:(cb b m)[i]?=some ⟨hold b m i,hold b m i*Ik b m i,0⟩:=by simp[cb,h1]
  have a3:=l7 (f:=aF.enc) hx;have a4:=tW ((cb b m).take i);rw[bY,o8,Nat.min_eq_left (by omega)]at a4;have a6:(fM ((cb b m).take i) aF.enc).take (i*3)=fM ((cb b m).take i) aF.enc:=af (by omega);have h7:(i+1)*24<=room:=by unfold room;omega
  simp[h1,h4,ho,hw,w1,a4,a6,h7];refine WL.to ih (by simp[]) (by simp[<- a3]) λx e J hh=>by simpa[dI,Nat.add_comm 1 n]using hh
theorem Ir{b:bU}{m:cg}(h:Fv b m)(hJ:J≠[]):Cl 236 [.agg (bM b m)] (Z3 (cb b m)) J:=by
 refine ar ?_;have hs:=λJ=>BT (J:=J) h.bv
 simp[hs];refine WL.to (TR (J:=J) h b.n 0 0 (by omega)) (by simp) (by simp) ?_;rintro x e J' ⟨rfl,g2,rfl⟩;simp[g2];rw[gG (f:=aF.enc) (by decide) (λ_=>rfl) (λx=>by simp) hJ (by simp)];simp[Z3]
theorem aF.OK{x:Rock.aF}:x.valid=true↔(1<=x.m/\x.m<=1000000)/\(0<=x.h/\x.h<=10000000000)/\(0<=x.k/\x.k<=1000000000000):=by
 simp[Rock.aF.valid,bF]
structure Sv(b:bU)(s:List Rock.aF):Prop where
 len:s.length=b.n
 ok:∀x∈s,x.valid=true
theorem Sv.of{b:bU}{s:List Rock.aF}(h:Bv b):rG b s=true↔Sv b s:=by
 have hs:=h.sz;have hn:=h.n;unfold rG;simp only[ah,aB];constructor
 .rintro⟨h1,h2⟩;exact⟨by unfold bU.size at h1;omega,eQ.1 h2⟩
 .rintro⟨h1,h2⟩;exact⟨by unfold bU.size;omega,eQ.2 h2⟩
theorem Sv.at{b:bU}{s:List Rock.aF}(h:Sv b s){i:Nat}(hi:i<b.n):s[i]?=some (aT s i)/\(1<=(aT s i).m/\(aT s i).m<=1000000)/\(0<=(aT s i).h/\(aT s i).h<=10000000000)/\(0<=(aT s i).k/\(aT s i).k<=1000000000000):=by
 have h1:i<s.length:=by have:=h.len;omega
 have h2:s[i]?=some (aT s i):=by simp[aT,h1]
 exact⟨h2,aF.OK.1 (h.ok _ (ai h2))⟩
theorem Sv.first{b:bU}{m:cg}(h:Fv b m):Sv b (cb b m):=by
 refine⟨o8,λx hx=>?_⟩;simp only[cb,bI,List.mem_range]at hx;obtain⟨i,hi,rfl⟩:=hx;have b1:=h.hold i hi;have b2:=h.Ik i hi;have b3:=jb (by omega:0<=hold b m i) b1.2 b2.1 b2.2;exact aF.OK.2 ⟨⟨by simp only;omega,by simp only;omega⟩,⟨b3.1,by simp only;omega⟩,by simp⟩
theorem S0{r:Rw}(h:r.alone=true):(1<=r.p/\r.p<=10000)/\(0<=r.l/\r.l<=4000):=by
 simp only[Rw.alone,ah]at h;exact⟨aQ.1 h.2.1,aQ.1 h.2.2.1⟩
theorem TV{s:List Rock.aF}{i:Nat}{x:Rock.aF}{t:List Rw}(hx:s[i]?=some x)(hm:0<=x.m/\x.m<=1000000)(ht:∀r∈t,r.alone=true)(hl:t.length<=1000):∀(n j:Nat) (o:Int),j+n=t.length ->
  WL T [1,2,7,34,35,36] false fu [(1,lF s aF.enc),(2,iI i),(7,iI o),(34,lF t Rw.enc),(35,iI t.length),(36,iI j)] J
   (λx' e J'=>J'=J/\x'=.exit 0/\get e 7=iI ((t.drop j).foldl (iu x) o))
 |0,j,o,hj=>by
  refine av fu.eq_1 ?_;have h1:¬j<t.length:=by omega
  have h2:t.drop j=[]:=an (by omega);simp[h1,h2]
 |n+1,j,o,hj=>by
  refine av fu.eq_1 ?_;have h1:j<t.length:=by omega
  obtain⟨r,hr⟩:=gE h1;have hrb:=S0 (ht r (ai hr));have h2:=aP (f:=Rw.enc) (w:=5) (λ_=>rfl) hr;have h3:=aP (f:=aF.enc) (w:=3) (λ_=>rfl) hx;have h4:=bO h1;have h5:=bz hr;have hi:i<s.length:=(aA.1 hx).1;have b1:=jb hrb.2.1 hrb.2.2 hm.1 hm.2;have w1:=cm (n:=r.l*x.m);have ih:=TV hx hm ht hl n (j+1) (iu x o r) (by omega);rw[h5];simp only[List.foldl_cons];by_cases hc:r.l*x.m<=x.h
  .have hm2:(if o<r.p then r.p else o)=iu x o r:=by unfold iu;rw[if_pos hc];omega
   simp[h1,h2,h3,h4,hi,w1,hc];refine WL.to ih (by simp[iu,hc]) rfl λx e J hh=>hh
  .simp[h1,h2,h3,h4,hi,w1,hc];refine WL.to ih (by simp[iu,hc]) rfl λx e J hh=>hh
theorem KC{b:bU}{m:cg}{s:List Rock.aF}(h:Fv b m)(hs:Sv b s){i:Nat}(hi:i<b.n):
  Cl 307 [.agg (bM b m),lF s aF.enc,iI i] (iI (dA b m s i)) J:=by
 refine ar ?_;have hw:=λJ=>KE (J:=J) (m:=m) h.bv hi
 have ho:=λJ=>Xc (J:=J) h.toMv hi
 have b1:=h.hold i hi;obtain⟨hx,b2,b3,b4⟩:=hs.at hi;have hil:i<s.length:=by have:=hs.len;omega
 have hst:=h.bv.cG;have b5:=xk h.bv hi;have b6 : -100000000000<=b.cG*((aT s i).m-hold b m i)/\b.cG*((aT s i).m-hold b m i)<=100000000000:=by
  rcases eV (hold b m i) (aT s i).m with hh | hh
  .have:=jb (a:=b.cG) (b:=(aT s i).m-hold b m i) (A:=100000) (B:=1000000) (by omega) hst.2 (by omega) (by omega);omega
  .have:=jb (a:=b.cG) (b:=hold b m i-(aT s i).m) (A:=100000) (B:=1000000) (by omega) hst.2 (by omega) (by omega);have e:b.cG*((aT s i).m-hold b m i) = - (b.cG*(hold b m i-(aT s i).m)):=by rw[<- Int.mul_neg];congr 1;omega
   omega
 have hd:=λJ=>aej (J:=J) (n:=b.cG*((aT s i).m-hold b m i)) (d:=hold b m i) (by omega) (by omega)
 have b7 : -100000000000<=down (b.cG*((aT s i).m-hold b m i)) (hold b m i)/\down (b.cG*((aT s i).m-hold b m i)) (hold b m i)<=100000000000:=by
  unfold down;constructor
  .rw[Int.le_ediv_iff_mul_le (by omega)];omega
  .have:=Int.ediv_le_self (b:=hold b m i) (a:=b.cG*((aT s i).m-hold b m i));rcases eV 0 (b.cG*((aT s i).m-hold b m i))with hh | hh
   .have:=this hh;omega
   .have:=Int.ediv_le_of_le_mul (b:=0) (show 0<hold b m i by omega) (by omega:b.cG*((aT s i).m-hold b m i)<=0*hold b m i);omega
 have w1:=cm (n:=(aT s i).m-hold b m i);have w2:=cm (n:=b.cG*((aT s i).m-hold b m i));have w3:=cm (n:=weight b i+down (b.cG*((aT s i).m-hold b m i)) (hold b m i));have h3:=aP (f:=aF.enc) (w:=3) (λ_=>rfl) hx;have htab:=h.bv.c9;simp only[fN,ah]at htab;have ht:=aQ.1 htab.1;simp[hw,ho,hil,h3,w1,w2,hd,w3];refine WL.to (TV (J:=[]::J) hx ⟨by omega,by omega⟩ (eQ.1 htab.2.1) (by omega) b.c9.length 0 (max 0 (weight b i+down (b.cG*((aT s i).m-hold b m i)) (hold b m i))) (by omega)) (by simp) rfl ?_;rintro x e J' ⟨rfl,rfl,g⟩;simp[g,dA]
theorem OP{b:bU}{m:cg}{s:List Rock.aF}:(bg b m s).length=s.length:=by simp[bg]
theorem Uq(l:List Int):(fM l aO).length=l.length:=by
 have:=bQ (f:=aO) (w:=1) (λ_=>rfl) l;omega
theorem Jo{b:bU}{m:cg}{s:List Rock.aF}(h:Fv b m)(hs:Sv b s):∀(n i v:Nat),i+n=s.length ->
  WL T [1,2,4,7,8] false eR [(1,lF s aF.enc),(2,.aZ (bM b m)),(4,.sl J.length 0 v 0 i 1),(7,iI s.length),(8,iI i)] ([.cells v (fM ((bg b m s).take i) aO)]::J)
   (λx e J'=>x=.exit 0/\get e 4=.sl J.length 0 (v+n) 0 (bg b m s).length 1/\J'=[.cells (v+n) (fM (bg b m s) aO)]::J)
 |0,i,v,hi=>by
  refine av eR.eq_1 ?_;have h1:¬i<s.length:=by omega
  have h3:(bg b m s).take i=bg b m s:=af (by rw[OP];omega);simp[h1,h3,OP];omega
 |n+1,i,v,hi=>by
  refine av eR.eq_1 ?_;have h1:i<s.length:=by omega
  have hn:=h.bv.n;have hl:=hs.len;have h4:=bO h1;have hp:=λJ=>KC (J:=J) h hs (i:=i) (by omega)
  have ih:=Jo h hs n (i+1) (v+1) (by omega);have hx:(bg b m s)[i]?=some (dA b m s i):=by simp[bg,h1]
  have a3:=l7 (f:=aO) hx;have a4:=Uq ((bg b m s).take i);rw[bY,OP,Nat.min_eq_left (by omega)]at a4;have a6:(fM ((bg b m s).take i) aO).take i=fM ((bg b m s).take i) aO:=af (by omega);have h7:(i+1)*8<=room:=by unfold room;omega
  simp[h1,h4,hp,a4,a6,h7];refine WL.to ih (by simp[]) (by simp[<- a3]) λx e J hh=>by simpa[dI,Nat.add_comm 1 n]using hh
theorem PI{b:bU}{m:cg}{s:List Rock.aF}(h:Fv b m)(hs:Sv b s)(hJ:J≠[]):Cl 358 [.agg (bM b m),lF s aF.enc] (lF (bg b m s) aO) J:=by
 refine ar ?_;simp[];refine WL.to (Jo (J:=J) h hs s.length 0 0 (by omega)) (by simp) (by simp) ?_;rintro x e J' ⟨rfl,g4,rfl⟩;simp[g4];rw[gG (f:=aO) (by decide) (λ_=>rfl) (λx=>by simp) hJ (by simp)];simp
theorem RX{x:Rock.aF}:Cl 363 [.agg x.enc] (.bool x.valid) J:=by
 refine ar ?_;cases hc1:bF x.m 1 1000000
 .simp[dR,Rock.aF.valid,hc1]
 cases hc2:bF x.h 0 10000000000
 .simp[dR,Rock.aF.valid,hc1,hc2]
 cases hc3:bF x.k 0 1000000000000
 .simp[dR,Rock.aF.valid,hc1,hc2,hc3]
 simp[dR,Rock.aF.valid,hc1,hc2,hc3]
theorem JP{x q m A:Int}(hm:1<=m)(hx:0<=x/\x<=A)(hq:0<=q/\q<=m):0<=(x*q).tdiv m/\(x*q).tdiv m<=A:=by
 have h1:=bB hx.1 hq.1;rw[aS h1];refine⟨Int.ediv_nonneg h1 (by omega),Int.ediv_le_of_le_mul (by omega) ?_⟩;exact ct hx.2 hq.2 hq.1 (by omega)
theorem Xl{x:Rock.aF}{q:Int}(hm:1<=x.m/\x.m<=1000000)(hh:0<=x.h/\x.h<=10000000000)(hk:0<=x.k/\x.k<=1000000000000)(hq:0<=q/\q<=x.m):
  Cl 336 [.agg x.enc,iI q] (.agg (x.out q).enc) J:=by
 refine ar ?_;have b1:=jb hh.1 hh.2 hq.1 (show q<=1000000 by omega);have b2:=jb hk.1 hk.2 hq.1 (show q<=1000000 by omega);have b3:=JP hm.1 hh hq;have b4:=JP hm.1 hk hq;have w1:=cm (n:=x.h*q);have w2:=cm (n:=x.k*q);have w3:=cm (n:=(x.h*q).tdiv x.m);have w4:=cm (n:=(x.k*q).tdiv x.m);have hne:¬x.m=0:=by omega
 simp[w1,w2,w3,w4,hne,Rock.aF.out]
def sm(x:Rock.aF)(n:Int):Prop:=(-n<=x.m/\x.m<=n)/\(-n<=x.h/\x.h<=n)/\(-n<=x.k/\x.k<=n)
theorem KB{F:List Abs.aF}{j v i:Nat}{s:List Rock.aF}{x o:Rock.aF}{sign:Int}(hF:F[j]?=some (.cells v (fM s aF.enc)))(hx:s[i]?=some x)(h1:sm x 1000000000000000000)(h2:sm o 1000000000000000000)(hs:sign=1\/sign = -1):
  dt T (.call false 334 [.ref J.length j v (i*3),.agg o.enc,iI sign] (F::J))=some (.val (.cQ []) (F.set j (.cells v (fM (cq s i o sign) aF.enc))::J)):=by
 refine fA rfl rfl rfl (by simp) ?_;obtain⟨a1,a2,a3⟩:=h1;obtain⟨c1,c2,c3⟩:=h2;have hi:i<s.length:=(aA.1 hx).1;obtain⟨A,B,hA,hAB⟩:∃A B:List D,A.length=i*3/\fM s aF.enc=A++(x.enc++B):=by
  have hd:=re (f:=aF.enc) (w:=3) (λ_=>rfl) hx;have hlen:=tW s;refine⟨(fM s aF.enc).take (i*3),(fM s aF.enc).drop (i*3+3),by rw[bY];omega,?_⟩;rw[<- hd,List.take_append_drop]
 have hset:fM (cq s i o sign) aF.enc=A++((x.move o sign).enc++B):=by
  have h3:=No (f:=aF.enc) (w:=3) (λ_=>rfl) (x:=x.move o sign) hi;have hblk:aT s i=x:=by simp[aT,hx]
  rw[cq,hblk,<- h3,hAB];have e1:(A++(x.enc++B)).take (i*3)=A:=by rw[<- hA];simp
  have e2:(A++(x.enc++B)).drop (i*3+3)=B:=by
   rw[<- dn,<- hA];simp
  rw[e1,e2]
 rw[hAB]at hF;rw[hset];have hj:j<F.length:=(aA.1 hF).1;have gs:∀X:Abs.aF,(F.set j X)[j]?=some X:=λX=>by simp[hj]
 clear hset hAB hx hj;have t1:∀L:List D,(A++L).take (A.length+1)=A++L.take 1:=λL=>by rw[List.take_length_add_append]
 have t2:∀L:List D,(A++L).take (A.length+1+1)=A++L.take 2:=λL=>by rw[dI,List.take_length_add_append]
 have d2:∀L:List D,(A++L).drop (A.length+1+1)=L.drop 2:=λL=>by rw[dI,da]
 have d1:∀L:List D,(A++L).drop (A.length+1)=L.drop 1:=λL=>by rw[da]
 have d3:∀L:List D,(A++L).drop (A.length+1+1+1)=L.drop 3:=λL=>by rw[dI,dI,da]
 have⟨k1,k2,k3,k4⟩:A.length+1+1<=A.length+(B.length+1+1+1)/\A.length+1+1+1<=A.length+(B.length+1+1+1)/\A.length+1<=A.length+(B.length+1+1+1)/\A.length+2+1<=A.length+(B.length+1+1+1):=by omega
 have d4:∀L:List D,(A++L).drop (A.length+2)=L.drop 2:=λL=>by rw[da]
 have d5:∀L:List D,(A++L).drop (A.length+2+1)=L.drop 3:=λL=>by rw[dI,da]
 have t4:∀L:List D,(A++L).take (A.length+2)=A++L.take 2:=λL=>by rw[List.take_length_add_append]
 have y1:=cm (n:=o.m);have y2:=cm (n:=o.h);have y3:=cm (n:=o.k);have y4:=cm (n := -o.m);have y5:=cm (n := -o.h);have y6:=cm (n := -o.k);rcases hs with rfl | rfl
 .have w1:=cm (n:=x.m+o.m);have w2:=cm (n:=x.h+o.h);have w3:=cm (n:=x.k+o.k);simp[hF,gs,<- hA,w1,w2,w3,y1,y2,y3,t1,t2,d1,d2,d3,k1,k2,k3,Rock.aF.move]
 .have w1:=cm (n:=x.m + -o.m);have w2:=cm (n:=x.h + -o.h);have w3:=cm (n:=x.k + -o.k);simp[hF,gs,<- hA,w1,w2,w3,y4,y5,y6,t1,t2,d1,d2,d3,k1,k2,k3,Rock.aF.move]
theorem aaO{w:bA}{r:Int}(hr : -100000<=r/\r<=100000)(h1:0<=w.h/\w.h<=3000)(h2:0<=w.m/\w.m<=1000000):
  Cl 335 [.agg w.enc,iI r] (.agg (w.given r).enc) J:=by
 refine ar ?_;have b1 : -300000000<=r*w.h/\r*w.h<=300000000:=by
  rcases eV 0 r with h | h
  .have:=jb h hr.2 h1.1 h1.2;omega
  .have:=jb (a := -r) (A:=100000) (by omega) (by omega) h1.1 h1.2;rw[Int.neg_mul]at this;omega
 have b2 : -100000000000<=r*w.m/\r*w.m<=100000000000:=by
  rcases eV 0 r with h | h
  .have:=jb h hr.2 h2.1 h2.2;omega
  .have:=jb (a := -r) (A:=100000) (by omega) (by omega) h2.1 h2.2;rw[Int.neg_mul]at this;omega
 have w1:=cm (n := -r);have w2:=cm (n := -(r*w.h));have w3:=cm (n := -(r*w.m));simp[w1,w2,w3,bA.given,Int.neg_mul]
theorem ahP{b:bU}{m:cg}(h:Fv b m){i:Nat}(hi:i<b.n):Cl 337 [.agg (bM b m),iI i] (.agg (JI b m i).enc) J:=by
 refine ar ?_;have hf:=λJ=>ael (J:=J) h.toMv hi
 have b1:=h.feed i hi;have b2:=h.bv.deep;have b3:=jb b1.1 b1.2 b2.1 b2.2;have w1:=cm (n:=feed b m i*b.deep);simp[hf,w1,JI]
theorem aaH{s:List Rock.aF}{bs:List Abs.aF}(hl:s.length<=1000000)(hne:s≠[]):dt T (.call true 332 [lF s aF.enc] (bs::J)) =
  some (.val (.sl J.length (bs.length+1) 1 0 s.length 3) ((bs++[.cells 0 [],.cells 1 (fM s aF.enc)])::J)):=by
 refine sF rfl rfl rfl ?_;have h7:s.length*24<=room:=by unfold room;omega
 simp[hne,tW,h7]
end Go.Proofs.YtpapbbojmclkgaaGreatDoor
