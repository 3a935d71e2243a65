import Derived.Test.YtfgljaglidhjiaaGreatDoorBase20
import Derived.Test.YtfgljaglidhjiaaGreatDoorTab
set_option linter.all false
namespace Go.Rock
open List(length_flatMap map_take)
open Go Go.Abs
structure fU where
 x:Int
 y:Int
 z:Int
 k:Int
structure Rw where
 t:Int
 p:Int
 l:Int
 v:Int
 s:Int
structure bH where
 b:Int
 h:Int
 m:Int
structure cz where
 f:fU
 cq:List Rw
 bJ:Int
 lift:Int
 deep:Int
 ar:List bH
structure cI where
 name:List UInt8
 bh:List Int
structure aE where
 m:Int
 h:Int
 k:Int
@[simp] theorem fU.eta(p:fU):fU.mk p.x p.y p.z p.k=p:=rfl
@[simp] theorem Rw.eta(p:Rw):Rw.mk p.t p.p p.l p.v p.s=p:=rfl
@[simp] theorem bH.eta(p:bH):bH.mk p.b p.h p.m=p:=rfl
@[simp] theorem aE.eta(p:aE):aE.mk p.m p.h p.k=p:=rfl
@[simp] def fU.enc(f:fU):List D:=[.int .i64 f.x,.int .i64 f.y,.int .i64 f.z,.int .i64 f.k]
@[simp] def Rw.enc(r:Rw):List D:=[.int .i64 r.t,.int .i64 r.p,.int .i64 r.l,.int .i64 r.v,.int .i64 r.s]
@[simp] def bH.enc(r:bH):List D:=[.int .i64 r.b,.int .i64 r.h,.int .i64 r.m]
@[simp] def aE.enc(r:aE):List D:=[.int .i64 r.m,.int .i64 r.h,.int .i64 r.k]
@[simp] def aS(n:Int):List D:=[.int .i64 n]
@[simp] def cz.enc(b:cz):List D:=[.int .i64 b.f.x,.int .i64 b.f.y,.int .i64 b.f.z,.int .i64 b.f.k,.aI b.cq.length (b.cq.flatMap Rw.enc),.int .i64 b.bJ,.int .i64 b.lift,.int .i64 b.deep,.aI b.ar.length (b.ar.flatMap bH.enc)]
@[simp] def cI.enc(m:cI):List D:=[.str m.name,.aI m.bh.length (m.bh.flatMap aS)]
def Sk(s:List aE):D:=.aI s.length (s.flatMap aE.enc)
def ct(n lo hi:Int):Bool:=decide (lo≤n) && decide (n≤hi)
theorem bf{n lo hi:Int}:ct n lo hi=true↔lo≤n∧n≤hi:=by simp[ct]
def fU.size(f:fU):Int:=f.x*f.y*f.z
def fU.valid(f:fU):Bool:=ct f.x 1 8 && (ct f.y 1 8 && (ct f.z 1 8 && (decide (f.size≤64) && ct f.k 1 6)))
theorem fU.tA{f:fU}:f.valid=true↔(1≤f.x∧f.x≤8)∧(1≤f.y∧f.y≤8)∧(1≤f.z∧f.z≤8)∧f.size≤64∧(1≤f.k∧f.k≤6):=by
 simp[fU.valid,ct,and_assoc]
def fU.shape(f:fU):Int:=if f.valid then 0 else 1
def letter(c:UInt8):Bool:=decide (97≤c.toNat) && decide (c.toNat≤122)
def digit(c:UInt8):Bool:=decide (48≤c.toNat) && decide (c.toNat≤57)
def wR(i:Nat):List UInt8→Bool
 |[]=>true
 |c::l=>(letter c || (decide (i≠0) && digit c)) && wR (i+1) l
def named(s:List UInt8):Bool:=wR 0 s && ct s.length 1 16
def fU.model(f:fU)(m:cI):Int:=if named m.name then(if(m.bh.length:Int)=f.k*f.size∧gU m.bh (fun n=>ct n (-100000) 100000)=true then 0 else 1)else 5
def fU.each(f:fU)(met:List (List UInt8)):List cI→Int
 |[]=>0
 |m::l=>if f.model m=0 then(if met.contains m.name then 6 else f.each (met++[m.name]) l)else f.model m
def fU.an(f:fU)(l:List cI):Int:=if ct l.length 1 40 then f.each [] l else 3
def gV(f:fU)(l:List cI):Int:=if f.valid then f.an l else 1
def Rw.alone(r:Rw):Bool:=ct r.t 0 400 && (ct r.p 1 10000 && (ct r.l 0 4000 && (ct r.s 0 2000 && (decide (r.l<r.v) && decide (r.v≤4000)))))
def Rw.I7(o r:Rw):Bool := !(decide (r.t≤o.t) || (decide (r.p≤o.p) || (decide (r.l≤o.l) || decide (r.s<o.s))))
def E8:List Rw→Bool
 |o::r::l=>o.I7 r && E8 (r::l)
 |_=>true
def kM(t:List Rw):Bool:=ct t.length 2 20 && (gU t Rw.alone && E8 t)
def bH.ok(size:Int)(used:List Int)(w:bH):Bool:=ct w.b 0 (size-1) && (!used.contains w.b && (ct w.h 0 3000 && ct w.m 0 1000000))
def uC(size:Int)(used:List Int):List bH→Bool
 |[]=>true
 |w::l=>w.ok size used && uC size (used++[w.b]) l
def cz.size(b:cz):Int:=b.f.size
def cz.ok1(b:cz):Bool:=b.f.valid && (decide (4≤b.f.k) && (kM b.cq && (ct b.bJ 1 100000 && (ct b.lift 0 1000 && (ct b.deep 0 3000 && decide (b.ar.length≤8))))))
def cz.valid(b:cz):Bool:=b.ok1 && uC b.size [] b.ar
def cz.n(b:cz):Nat:=b.size.toNat
def vM(b:cz)(m:cI)(k:Nat):List Int:=(m.bh.drop (k*b.n)).take b.n
def vb(b:cz)(m:cI)(k:Nat)(i:Nat):Int:=(m.bh[k*b.n+i]?).getD 0
def hold(b:cz)(m:cI)(i:Nat):Int:=vb b m 0 i
def Ih(b:cz)(m:cI)(i:Nat):Int:=vb b m 1 i
def Io(b:cz)(m:cI)(i:Nat):Int:=vb b m 2 i
def feed(b:cz)(m:cI)(i:Nat):Int:=vb b m 3 i
def fits(b:cz)(m:cI):Bool:=decide (gV b.f [m]=0) && (gU (vM b m 0) (fun n=>ct n 1000 100000) && (gU (vM b m 1) (fun n=>ct n 0 1000) && (gU (vM b m 2) (fun n=>ct n 0 3000) && gU (vM b m 3) (fun n=>ct n 0 1000))))
def Bd(b:cz)(m:cI):Bool:=b.valid && fits b m
def dV(b:cz)(m:cI):List aE:=(List.range b.n).map fun i=>⟨hold b m i,hold b m i*Io b m i,0⟩
def aE.valid(x:aE):Bool:=ct x.m 1 1000000 && (ct x.h 0 10000000000 && ct x.k 0 1000000000000)
def yz(b:cz)(s:List aE):Bool:=decide ((s.length:Int)=b.size) && gU s aE.valid
def weight(b:cz)(i:Nat):Int:=((i / (b.f.x.toNat*b.f.y.toNat):Nat):Int)*b.lift
def down(n d:Int):Int:=n / d
def bP(s:List aE)(i:Nat):aE:=(s[i]?).getD ⟨0,0,0⟩
def pR(x:aE)(out:Int)(r:Rw):Int:=if r.l*x.m≤x.h then max out r.p else out
def lg(b:cz)(m:cI)(s:List aE)(i:Nat):Int :=
 b.cq.foldl (pR (bP s i)) (max 0 (weight b i+down (b.bJ*((bP s i).m-hold b m i)) (hold b m i)))
def bV(b:cz)(m:cI)(s:List aE):List Int:=(List.range s.length).map (lg b m s)
def yn(b:cz)(i:Nat):List (Nat×Nat) :=
 (if(i+1)%b.f.x.toNat≠0 then [(i,i+1)]else [])++((if i / b.f.x.toNat%b.f.y.toNat≠b.f.y.toNat-1 then [(i,i+b.f.x.toNat)]else [])++(if i+b.f.x.toNat*b.f.y.toNat<b.n then [(i,i+b.f.x.toNat*b.f.y.toNat)]else []))
def IZ(b:cz):List (Nat×Nat):=(List.range b.n).flatMap (yn b)
def aE.out(x:aE)(m:Int):aE:=⟨m,(x.h*m).tdiv x.m,(x.k*m).tdiv x.m⟩
def aE.move(x o:aE)(sign:Int):aE:=⟨x.m+sign*o.m,x.h+sign*o.h,x.k+sign*o.k⟩
def JM(b:cz)(m:cI)(s:List aE)(p:List Int)(l:Nat×Nat):Option ((Nat×Nat)×aE) :=
 let d:=(p[l.1]?).getD 0-weight b l.1-(p[l.2]?).getD 0+weight b l.2
 let l':=if d<0 then(l.2,l.1)else l
 let d':=if d<0 then -d else d
 let q:=min ((min (Ih b m l'.1) (Ih b m l'.2)*d').tdiv 1000) ((bP s l'.1).m.tdiv 8)
 if 0<q then some (l',(bP s l'.1).out q)else none
def RT(es:List ((Nat×Nat)×aE))(k:Nat×Nat)(o:aE):List ((Nat×Nat)×aE) :=
 match es.findIdx? (fun e=>e.1 == k)with
 |some j=>es.set j (k,o)
 |none=>es++[(k,o)]
def pC(b:cz)(m:cI)(s:List aE)(p:List Int)(es:List ((Nat×Nat)×aE))(l:Nat×Nat):List ((Nat×Nat)×aE) :=
 match JM b m s p l with
 |some e=>RT es e.1 e.2
 |none=>es
def vI(b:cz)(m:cI)(s:List aE):List ((Nat×Nat)×aE):=(IZ b).foldl (pC b m s (bV b m s)) []
def iM(s:List aE)(i:Nat)(o:aE)(sign:Int):List aE:=s.set i ((bP s i).move o sign)
def eZ(s:List aE)(e:(Nat×Nat)×aE):List aE:=iM (iM s e.1.1 e.2 (-1)) e.1.2 e.2 1
def bH.given(w:bH)(rate:Int):aE:=⟨-rate,-rate*w.h,-rate*w.m⟩
def rV(s:List aE)(w:bH)(rate:Int):aE:=if rate<0 then⟨0,0,0⟩else(bP s w.b.toNat).out (min rate ((bP s w.b.toNat).m.tdiv 8))
def uB(s next:List aE)(w:bH)(rate:Int):List aE:=if rate<0 then iM next w.b.toNat (w.given rate) 1 else iM next w.b.toNat (rV s w rate) (-1)
def M7(b:cz)(m:cI)(i:Nat):aE:=⟨feed b m i,feed b m i*b.deep,0⟩
def Dp(b:cz)(m:cI)(s:List aE)(aR:List Int):List aE :=
 let s1:=(vI b m s).foldl eZ s
 let s2:=(b.ar.zip aR).foldl (fun n wr=>uB s n wr.1 wr.2) s1
 (List.range s.length).foldl (fun n i=>iM n i (M7 b m i) 1) s2
def eH(b:cz)(s:List aE)(aR:List Int):List aE:=(b.ar.zip aR).map fun wr=>rV s wr.1 wr.2
def tick(b:cz)(m:cI)(s:List aE)(aR:List Int):Option (List aE×List aE) :=
 if yz b (Dp b m s aR)then some (Dp b m s aR,eH b s aR)else none
def Am(b:cz)(l:List Int):Int:=if l.length=b.ar.length then(if gU l (fun n=>ct n (-100000) 100000)then 0 else 2)else 1
def db{α:Type}(f:α→Int):List α→Int
 |[]=>0
 |x::l=>if f x=0 then db f l else f x
def wx(b:cz)(az:List (List Int)):Int:=if 200<az.length then 3 else db (Am b) az
def vu(b:cz)(m:cI):List (List aE)→List (List aE)→List aE→List (List Int)→Option (List (List aE)×List (List aE))
 |ss,ys,_,[]=>some (ss,ys)
 |ss,ys,s,r::az =>
  match tick b m s r with
  |some (s',y)=>vu b m (ss++[s']) (ys++[y]) s' az
  |none=>none
def run(b:cz)(m:cI)(az:List (List Int)):Option (List (List aE)×List (List aE)):=vu b m [dV b m] [] (dV b m) az
end Go.Rock
namespace Go.Proofs.YtfgljaglidhjiaaGreatDoor
open List(length_flatMap map_take)
open Go Go.Abs Go.Rock
variable {σ:SK}
theorem Qh{a b A B:Int}(h1:1≤a)(h2:a≤A)(h3:1≤b)(h4:b≤B):1≤a*b∧a*b≤A*B :=
 ⟨by have:=Int.mul_pos (a:=a) (b:=b) (by omega) (by omega);omega,lT h2 h4 (by omega) (by omega)⟩
theorem oH{a b A B:Int}(h1:0≤a)(h2:a≤A)(h3:0≤b)(h4:b≤B):0≤a*b∧a*b≤A*B :=
 ⟨ft h1 h3,lT h2 h4 h3 (by omega)⟩
theorem fU.sz{f:fU}(hx:1≤f.x∧f.x≤8)(hy:1≤f.y∧f.y≤8)(hz:1≤f.z∧f.z≤8):(1≤f.x*f.y∧f.x*f.y≤64)∧(1≤f.x*f.y*f.z∧f.x*f.y*f.z≤512):=by
 have h1:=Qh hx.1 hx.2 hy.1 hy.2;have h2:=Qh h1.1 h1.2 hz.1 hz.2;exact⟨by omega,by omega⟩
theorem dM{a b c:Int}:lim T (.call false cj [.int .i64 a,.int .i64 b,.int .i64 c] σ)=some (.val (.bool (ct a b c)) σ):=by
 refine aA H5 vp.eq_1 rfl ?_;by_cases h:b≤a<;>simp[-length_flatMap,-map_take,h,ct]
theorem gR{a b c:Int}:lim T (.call false dQ [.int .i64 a,.int .i64 b,.int .i64 c] σ)=some (.val (.bool (ct a b c)) σ):=by
 refine aA GG tN.eq_1 rfl ?_;by_cases h:b≤a<;>simp[-length_flatMap,-map_take,h,ct]
theorem ki{a b c:Int}:lim T (.call false dq [.int .i64 a,.int .i64 b,.int .i64 c] σ)=some (.val (.bool (ct a b c)) σ):=by
 refine aA GO ub.eq_1 rfl ?_;by_cases h:b≤a<;>simp[-length_flatMap,-map_take,h,ct]
theorem Gr{f:fU}(hx:1≤f.x∧f.x≤8)(hy:1≤f.y∧f.y≤8)(hz:1≤f.z∧f.z≤8):lim T (.call false dp [.agg [.int .i64 f.x,.int .i64 f.y,.int .i64 f.z,.int .i64 f.k]] σ)=some (.val (.int .i64 f.size) σ):=by
 refine aA AX mU.eq_1 rfl ?_;obtain⟨h1,h2⟩:=fU.sz hx hy hz;have w1:=fT (n:=f.x*f.y) (by omega);have w2:=fT (n:=f.x*f.y*f.z) (by omega);simp[-length_flatMap,-map_take,w1,w2,fU.size]
theorem SA{f:fU}:lim T (.call false kV [.agg [.int .i64 f.x,.int .i64 f.y,.int .i64 f.z,.int .i64 f.k]] σ)=some (.val (.bool f.valid) σ):=by
 refine aA Ck nS.eq_1 rfl ?_;cases hc1:ct f.x 1 8
 ·simp[-length_flatMap,-map_take,gR,fU.valid,hc1]
 cases hc2:ct f.y 1 8
 ·simp[-length_flatMap,-map_take,gR,fU.valid,hc1,hc2]
 cases hc3:ct f.z 1 8
 ·simp[-length_flatMap,-map_take,gR,fU.valid,hc1,hc2,hc3]
 have hb:=fun σ=>Gr (σ:=σ) (f:=f) (bf.1 hc1) (bf.1 hc2) (bf.1 hc3)
 by_cases hc4:f.size≤64
 ·simp[-length_flatMap,-map_take,gR,fU.valid,hc1,hc2,hc3,hc4,hb]
 ·simp[-length_flatMap,-map_take,gR,fU.valid,hc1,hc2,hc3,hc4,hb]
theorem Gb{f:fU}:lim T (.call false cM [.agg [.int .i64 f.x,.int .i64 f.y,.int .i64 f.z,.int .i64 f.k]] σ)=some (.val (.int .i64 f.shape) σ):=by
 refine aA Cj nR.eq_1 rfl ?_;have hb:=fun σ=>SA (σ:=σ) (f:=f)
 cases hc:f.valid<;>rw[hc]at hb<;>simp[-length_flatMap,-map_take,hb,fU.shape,hc]
theorem jN{f:fU}:lim T (.call false jy [.agg [.int .i64 f.x,.int .i64 f.y,.int .i64 f.z,.int .i64 f.k]] σ)=some (.val (.int .i64 f.shape) σ):=by
 refine aA CQ oQ.eq_1 rfl ?_;have hb:=fun σ=>Gb (σ:=σ) (f:=f)
 simp[-length_flatMap,-map_take,hb]
theorem N1{s:List UInt8}(hl:s.length≤1000000000):∀(m i:Nat),i+m=s.length →
  WL T [0,6,7] false rF [(0,.str s),(6,.int .i64 s.length),(7,.int .i64 i)] σ
   (fun x e σ'=>σ'=σ∧if wR i (s.drop i)then x=.exit 0∧get e 0=.str s else x=.ret∧get e 2=.bool false)
 |0,i,hi=>by
  refine aN rF.eq_1 ?_;have h1:¬i<s.length:=by omega
  have h2:s.drop i=[]:=aB (by omega);simp[-length_flatMap,-map_take,h1,h2,wR]
 |m+1,i,hi=>by
  refine aN rF.eq_1 ?_;have h1:i<s.length:=by omega
  obtain⟨c,hc⟩:=gE h1;have h4:=gD h1 (by omega);have h5:=cY hc;have ih:=N1 hl m (i+1) (by omega);rw[h5,wR];have hd:rU .CB [.str s,.int .i64 (i:Int)]=some (.int .u8 c.toNat):=by simp[rU,hc]
  by_cases hc1:97≤c.toNat
  ·by_cases hc2:c.toNat≤122
   ·have hlet:letter c=true:=by simp[letter,hc1,hc2]
    simp[-length_flatMap,-map_take,h1,h4,hd,hlet,show(97:Int)≤(c.toNat:Int)by omega,show(c.toNat:Int)≤122 by omega];exact WL.to ih (by simp) rfl fun x e σ' hh=>by simpa[hlet]using hh
   ·have hlet:letter c=false:=by simp[letter,hc2]
    have hdig:digit c=false:=by simp[digit];omega
    by_cases hi0:i=0
    ·subst hi0;have hd0:rU .CB [.str s,.int .i64 0]=some (.int .u8 c.toNat):=by simpa using hd
     have h1':0<s.length:=h1;simp[-length_flatMap,-map_take,h1',h4,hd0,hlet,hdig,show(97:Int)≤(c.toNat:Int)by omega,show ¬(c.toNat:Int)≤122 by omega]
    ·simp[-length_flatMap,-map_take,h1,h4,hd,hlet,hdig,hi0,show(97:Int)≤(c.toNat:Int)by omega,show ¬(c.toNat:Int)≤122 by omega,show ¬(c.toNat:Int)<48 by omega,show(57:Int)<(c.toNat:Int)by omega,show(57:Nat)<c.toNat by omega,show ¬c.toNat<48 by omega]
  ·have hlet:letter c=false:=by simp[letter,hc1]
   by_cases hi0:i=0
   ·subst hi0;have hd0:rU .CB [.str s,.int .i64 0]=some (.int .u8 c.toNat):=by simpa using hd
    have h1':0<s.length:=h1;simp[-length_flatMap,-map_take,h1',h4,hd0,hlet,show ¬(97:Int)≤(c.toNat:Int)by omega]
   ·by_cases hc3:c.toNat<48
    ·have hdig:digit c=false:=by simp[digit];omega
     simp[-length_flatMap,-map_take,h1,h4,hd,hlet,hdig,hi0,show ¬(97:Int)≤(c.toNat:Int)by omega,show(c.toNat:Int)<48 by omega,hc3]
    ·by_cases hc4:57<c.toNat
     ·have hdig:digit c=false:=by simp[digit];omega
      simp[-length_flatMap,-map_take,h1,h4,hd,hlet,hdig,hi0,show ¬(97:Int)≤(c.toNat:Int)by omega,show ¬(c.toNat:Int)<48 by omega,show(57:Int)<(c.toNat:Int)by omega,hc3,hc4]
     ·have hdig:digit c=true:=by simp[digit];omega
      simp[-length_flatMap,-map_take,h1,h4,hd,hlet,hdig,hi0,show ¬(97:Int)≤(c.toNat:Int)by omega,show ¬(c.toNat:Int)<48 by omega,show ¬(57:Int)<(c.toNat:Int)by omega,hc3,hc4];exact WL.to ih (by simp) rfl fun x e σ' hh=>by simpa[hlet,hdig,hi0]using hh
theorem Ga{s:List UInt8}(hl:s.length≤1000000000):lim T (.call false pO [.str s] σ)=some (.val (.bool (named s)) σ):=by
 refine aA HX vi.eq_1 rfl ?_;have hp:rU .zD [.str s]=some (.int .i64 s.length):=rfl;simp[-length_flatMap,-map_take,hp];refine WL.to (N1 (σ:=[]::σ) hl s.length 0 (by omega)) (by simp) rfl ?_;rintro x e σ' ⟨rfl,h⟩;simp only[aP]at h;unfold named;cases hc:wR 0 s
 ·simp[hc]at h;simp[h]
 ·simp[hc]at h;simp[-length_flatMap,-map_take,h,hp,gR]
theorem afB{a:Int}:lim T (.call false gr [.int .i64 a] σ)=some (.val (.bool (ct a (-100000) 100000)) σ):=by
 refine aA AK mi.eq_1 rfl ?_;simp[-length_flatMap,-map_take,gR]
theorem QL{l:List Int}{p:Int→Bool}{fv:D}(hl:l.length≤1000000000)(ht:pW T fv (fun n => .int .i64 n) p l)(hc:fv.cells=some [fv]):
  lim T (.call false pD [.aI l.length (l.flatMap aS),fv] σ)=some (.val (.bool (gU l p)) σ) :=
 zV (JL .i64) (f:=pD) (g:=qY) (h:=bZ) (i:=eB) (l:=l) (p:=p) (fv:=fv) rfl rfl rfl rfl (by omega) ht hc
theorem LU{f:fU}(hf:f.valid=true):(1≤f.size∧f.size≤64)∧1≤f.k*f.size∧f.k*f.size≤384:=by
 obtain⟨h1,h2,h3,h4,h5⟩:=fU.tA.1 hf;obtain⟨_,h6⟩:=fU.sz h1 h2 h3;have h7:=Qh h5.1 h5.2 (b:=f.size) (B:=64) (by unfold fU.size;omega) h4;exact⟨⟨by unfold fU.size;omega,h4⟩,by omega,by omega⟩
theorem NT{f:fU}{m:cI}(hf:f.valid=true)(hn:m.name.length≤1000000000)(hl:m.bh.length≤1000000000):lim T (.call false iS [.agg [.int .i64 f.x,.int .i64 f.y,.int .i64 f.z,.int .i64 f.k],.agg [.str m.name,.aI m.bh.length (m.bh.flatMap aS)]] σ)=some (.val (.int .i64 (f.model m)) σ):=by
 refine aA Ci nQ.eq_1 rfl ?_;obtain⟨h1,h2,h3,h4,h5⟩:=fU.tA.1 hf;obtain⟨h6,h7⟩:=LU hf;have w1:=fT (n:=f.k*f.size) (by omega);have hb:=fun σ=>Gr (σ:=σ) (f:=f) h1 h2 h3
 have ha:=fun σ=>QL (σ:=σ) (l:=m.bh) (p:=fun n=>ct n (-100000) 100000) (fv:=.fn gr [] []) hl (pW.fn fun x _ σ=>by simpa using afB) rfl
 cases hc1:named m.name
 ·simp[-length_flatMap,-map_take,Ga hn,hc1,fU.model]
 ·by_cases hc2:(m.bh.length:Int)=f.k*f.size
  ·cases hc3:gU m.bh (fun n=>ct n (-100000) 100000)<;>
    simp[-length_flatMap,-map_take,Ga hn,hc1,hc2,hc3,fU.model,hb,ha,w1]
  ·simp[-length_flatMap,-map_take,Ga hn,hc1,hc2,fU.model,hb,w1]
def Cz(met:List (List UInt8)):List D:=met.map fun n => .dK [.str n,.bool true]
theorem ER{k:List UInt8}:∀{met:List (List UInt8)},∃r,rq none (.str k) (Cz met)=some r∧(met.contains k=true→∃j,r=some (j,.bool true))∧(met.contains k=false→r=none)
 |[]=>⟨none,rfl,by simp,by simp⟩
 |n::met=>by
  obtain⟨r,h1,h2,h3⟩:=ER (k:=k) (met:=met);simp only[Cz,aO]at h1 ⊢;by_cases hk:k=n
  ·subst hk;exact⟨some (0,.bool true),by simp[rq,td],fun _=>⟨0,rfl⟩,by simp⟩
  ·have hb:(k == n)=false:=by simpa using hk
   refine⟨r.map fun y=>(y.1+1,y.2),by simp[rq,td,hb,h1],?_,?_⟩
   ·intro hc;have:met.contains k=true:=by simpa[hk]using hc
    obtain⟨j,rfl⟩:=h2 this;exact⟨j+1,rfl⟩
   ·intro hc;have:met.contains k=false:=by simp at hc ⊢;exact hc.2
    rw[h3 this];rfl
theorem amF{S:SK}{l i:Nat}{met:List (List UInt8)}{k:List UInt8}(h:cells? S l i 0=some (Cz met)):AV S (.get none (.bool false) false) [.mH l i,.str k]=some (.bool (met.contains k),S):=by
 obtain⟨r,h1,h2,h3⟩:=ER (k:=k) (met:=met);simp only[AV,AU,h,aT,h1];cases hc:met.contains k
 ·rw[h3 hc];simp[td]
 ·obtain⟨j,rfl⟩:=h2 hc;simp[td]
theorem amG{S:SK}{l i:Nat}{met:List (List UInt8)}{k:List UInt8}(h:cells? S l i 0=some (Cz met))(hn:met.contains k=false):
  AV S (.put none) [.mH l i,.str k,.bool true]=some (.undef,aV S l i (.cells 0 (Cz (met++[k])))):=by
 obtain⟨r,h1,h2,h3⟩:=ER (k:=k) (met:=met);simp only[AV,AU,h,aT,h1];rw[h3 hn];simp[td,Cz,D.clean]
theorem axZ{f:fU}{m:cI}(hf:f.valid=true)(hn:m.name.length≤1000000000)(hl:m.bh.length≤1000000000):
  lim T (.call false ep [.agg [.str m.name,.aI m.bh.length (m.bh.flatMap aS)],.bD [.int .i64 f.x,.int .i64 f.y,.int .i64 f.z,.int .i64 f.k]] σ)=some (.val (.dK [.str m.name,.int .i64 (f.model m)]) σ):=by
 refine aA zO lk.eq_1 rfl ?_;simp[-length_flatMap,-map_take,NT hf hn hl]
theorem S4{f:fU}{l:List cI}(hf:f.valid=true)(hs:∀m∈l,m.name.length≤1000000000∧m.bh.length≤1000000000)(hl:l.length≤1000000000):∀(k i:Nat) (met:List (List UInt8)),i+k=l.length →
  WL T [1,5,11,12,13] false gG [(1,.fn ep [] [.bD [.int .i64 f.x,.int .i64 f.y,.int .i64 f.z,.int .i64 f.k]]),(5,.mH σ.length 0),(11,.aI l.length (l.flatMap cI.enc)),(12,.int .i64 l.length),(13,.int .i64 i)] ([.cells 0 (Cz met)]::σ)
   (fun x e σ'=>∃s,σ'=s::σ∧if f.each met (l.drop i)=0 then x=.exit 0 else x=.ret∧get e 4=.int .i64 (f.each met (l.drop i)))
 |0,i,met,hi=>by
  refine aN gG.eq_1 ?_;have h1:¬i<l.length:=by omega
  have h2:l.drop i=[]:=aB (by omega);simp[-length_flatMap,-map_take,h1,h2,fU.each]
 |k+1,i,met,hi=>by
  refine aN gG.eq_1 ?_;have h1:i<l.length:=by omega
  obtain⟨m,hm⟩:=gE h1;have h2:=bS (f:=cI.enc) (w:=2) (fun _=>rfl) hm;have h4:=gD h1 (by omega);have h5:=cY hm;obtain⟨hs1,hs2⟩:=hs m (ai hm);have hC:=fun σ=>axZ (σ:=σ) hf hs1 hs2
  rw[h5,fU.each];by_cases hc1:f.model m=0
  ·have hg:=amF (S:=[.cells 0 (Cz met)]::σ) (l:=σ.length) (i:=0) (met:=met) (k:=m.name) (by simp);cases hc2:met.contains m.name
   ·rw[hc2]at hg;have hp:=amG (S:=[.cells 0 (Cz met)]::σ) (l:=σ.length) (i:=0) (met:=met) (k:=m.name) (by simp) hc2;have ih:=S4 hf hs hl k (i+1) (met++[m.name]) (by omega);simp at hp;have hc3:¬m.name∈met:=by simpa using hc2
    simp[-length_flatMap,-map_take,h1,h2,h4,hC,hc1,hg,hp,hc3];exact WL.to ih (by simp) (by simp) fun x e σ' hh=>by simpa[hc1]using hh
   ·rw[hc2]at hg;have hc3:m.name∈met:=by simpa using hc2
    simp[-length_flatMap,-map_take,h1,h2,h4,hC,hc1,hg,hc3]
  ·simp[-length_flatMap,-map_take,h1,h2,h4,hC,hc1]
theorem am9{f:fU}{l:List cI}(hf:f.valid=true)(hs:∀m∈l,m.name.length≤1000000000∧m.bh.length≤1000000000)(hl:l.length≤1000000000):
  lim T (.call false gB [.aI l.length (l.flatMap cI.enc),.fn ep [] [.bD [.int .i64 f.x,.int .i64 f.y,.int .i64 f.z,.int .i64 f.k]]] σ)=some (.val (.int .i64 (f.each [] l)) σ):=by
 refine aA yJ jR.eq_1 rfl ?_;have hm:AV ([]::σ) .make []=some (.mH σ.length 0,[.cells 0 (Cz [])]::σ):=by simp[AV,Cz]
 simp[-length_flatMap,-map_take,hm];refine WL.to (S4 (σ:=σ) hf hs hl l.length 0 [] (by omega)) (by simp) (by simp) ?_;rintro x e σ' ⟨s,rfl,h⟩;simp only[aP]at h;by_cases hc:f.each [] l=0
 ·rw[if_pos hc]at h;subst h;simp[-length_flatMap,-map_take,hc]
 ·rw[if_neg hc]at h;obtain⟨rfl,h⟩:=h;simp[h]
theorem SG{f:fU}{l:List cI}(hf:f.valid=true)(hs:∀m∈l,m.name.length≤1000000000∧m.bh.length≤1000000000)(hl:l.length≤1000000000):
  lim T (.call false j9 [.agg [.int .i64 f.x,.int .i64 f.y,.int .i64 f.z,.int .i64 f.k],.aI l.length (l.flatMap cI.enc)] σ)=some (.val (.int .i64 (f.an l)) σ):=by
 refine aA AY mV.eq_1 rfl ?_;cases hc:ct l.length 1 40
 ·simp[-length_flatMap,-map_take,gR,hc,fU.an]
 ·simp[-length_flatMap,-map_take,gR,hc,fU.an,am9 hf hs hl]
theorem Gq{f:fU}{l:List cI}(hf:f.valid=true)(hs:∀m∈l,m.name.length≤1000000000∧m.bh.length≤1000000000)(hl:l.length≤1000000000):
  lim T (.call false gp [.bD [.int .i64 f.x,.int .i64 f.y,.int .i64 f.z,.int .i64 f.k],.bD [.aI l.length (l.flatMap cI.enc)]] σ)=some (.val (.int .i64 (f.an l)) σ):=by
 refine aA AI mg.eq_1 rfl ?_;simp[-length_flatMap,-map_take,SG hf hs hl]
theorem Jj{fs:List D}{es:List Int}(hlen:fs.length=es.length)(hl:fs.length≤100)(hfs:∀d∈fs,d.strip=d∧d.calm=d∧Mu false 1 (some [d])=some d)
  (hcall:∀(i:Nat) d n,fs[i]?=some d→es[i]?=some n→(∀j,j<i→es[j]?=some 0)→∀σ,pw (lim T) false d [] σ=some (.int .i64 n,σ)):
  lim T (.call false nH [.aI fs.length fs] σ)=some (.val (.int .i64 (db id es)) σ):=by
 have loop:∀(k i:Nat) (σ:SK),i+k=fs.length→(∀j,j<i→es[j]?=some 0) →
   WL T [6,7,8] false rE [(6,.aI fs.length fs),(7,.int .i64 fs.length),(8,.int .i64 i)] σ
    (fun x e σ'=>σ'=σ∧if db id (es.drop i)=0 then x=.exit 0 else x=.ret∧get e 2=.int .i64 (db id (es.drop i))):=by
  intro k;induction k with
  |zero =>
   intro i σ hi h0;refine aN rE.eq_1 ?_;have h1:¬i<fs.length:=by omega
   have h2:es.drop i=[]:=aB (by omega);simp[-length_flatMap,-map_take,h1,h2,db]
  |succ k ih =>
   intro i σ hi h0;refine aN rE.eq_1 ?_;have h1:i<fs.length:=by omega
   obtain⟨d,hd⟩:=gE h1;obtain⟨n,hn⟩:∃n,es[i]?=some n:=gE (by omega);obtain⟨g1,g2,g3⟩:=hfs d (ai hd);have h2:=bS (f:=fun d:D=>[d]) (w:=1) (fun _=>rfl) (l:=fs) hd;rw[show(fs.flatMap fun d=>[d])=fs from by simp]at h2;have h4:=gD h1 (by omega);have h5:=cY hn;have hc:=hcall i d n hd hn h0;simp only[ea]at h2;rw[h5,db];by_cases hz:n=0
   ·subst hz;have ih':=ih (i+1) σ (by omega) (fun j hj=>by
     by_cases hji:j=i
     ·subst hji;exact hn
     ·exact h0 j (by omega))
    simp[-length_flatMap,-map_take,h1,h2,h4,g1,g2,hc];exact WL.to ih' (by simp) rfl fun x e σ' hh=>by simpa using hh
   ·simp[-length_flatMap,-map_take,h1,h2,h4,g1,g2,hc,hz]
 refine aA HW vh.eq_1 rfl ?_;simp[-length_flatMap,-map_take];refine WL.to (loop fs.length 0 ([]::σ) (by omega) (by simp)) (by simp) rfl ?_;rintro x e σ' ⟨rfl,h⟩;simp only[aP]at h;by_cases hc:db id es=0
 ·rw[if_pos hc]at h;subst h;simp[-length_flatMap,-map_take,hc]
 ·rw[if_neg hc]at h;obtain⟨rfl,h⟩:=h;simp[h]
theorem CD{f:fU}{l:List cI}(hs:∀m∈l,m.name.length≤1000000000∧m.bh.length≤1000000000)(hl:l.length≤1000000000):
  lim T (.call false iR [.agg [.int .i64 f.x,.int .i64 f.y,.int .i64 f.z,.int .i64 f.k],.aI l.length (l.flatMap cI.enc)] σ)=some (.val (.int .i64 (gV f l)) σ):=by
 refine aA Ch nP.eq_1 rfl ?_;have hC:=fun σ=>Jj (σ:=σ) (fs:=[.fn cM [.agg [.int .i64 f.x,.int .i64 f.y,.int .i64 f.z,.int .i64 f.k]] [],.fn gp [] [.bD [.int .i64 f.x,.int .i64 f.y,.int .i64 f.z,.int .i64 f.k],.bD [.aI l.length (l.flatMap cI.enc)]]]) (es:=[f.shape,f.an l]) rfl (by simp) (by simp) (by
  intro i d n hd hn h0 σ;match i with
  |0 =>
   simp at hd hn;subst hd hn;simp[Gb]
  |1 =>
   simp at hd hn;subst hd hn;have h1:f.valid=true:=by
    have:=h0 0 (by omega);simp[fU.shape]at this;exact this
   simp[Gq h1 hs hl]
  |i+2=>simp at hd)
 simp at hC;have e1:db id [f.shape,f.an l]=gV f l:=by
  simp only[db,id,gV,fU.shape];by_cases h:f.valid=true
  ·by_cases h2:f.an l=0<;>simp[h,h2]
  ·simp[h]
 rw[e1]at hC;simp[-length_flatMap,-map_take,hC]
end Go.Proofs.YtfgljaglidhjiaaGreatDoor
namespace Go.Abs
open List(length_flatMap map_take)
open Go
variable {T:yN}
def pK(q:Nat→Bool)(i:Nat):Nat→Bool×Nat
 |0=>(false,i)
 |m+1=>if q i then(true,i+1)else pK q (i+1) m
theorem Ce{q:Nat→Bool}:∀{m i:Nat},(pK q i m).1=false↔∀j,j<m→q (i+j)=false
 |0,i=>by simp[pK]
 |m+1,i=>by
  simp only[pK];by_cases h:q i=true
  ·simp only[h,if_true,Bool.true_eq_false,false_iff];intro hh;have:=hh 0 (by omega);simp[h]at this
  ·have h':q i=false:=by simpa using h
   simp only[h',aw,if_false];rw[Ce (m:=m) (i:=i+1)];constructor
   ·intro hh j hj;cases j with
    |zero=>simpa using h'
    |succ j=>have:=hh j (by omega);rwa[show i+1+j=i+(j+1)from by omega]at this
   ·intro hh j hj;have:=hh (j+1) (by omega);rwa[show i+(j+1)=i+1+j from by omega]at this
section
variable {α:Type} (E:Elt α) {fv:D} {l:List α} {q:Nat→Bool} {S:Nat→SK}
theorem IT(hl:l.length≤9223372036854775807)(h1:fv.strip=fv)(h2:fv.calm=fv)(ht:∀i x,l[i]?=some x→pw (lim T) false fv [E.val x] (S i)=some (.bool (q i),S (i+1))):∀(m i:Nat),i+m=l.length →
  WL T [0,1,7,8] false (Hn E.ag E.w) [(0,.aI l.length (l.flatMap E.enc)),(1,fv),(7,.int .i64 l.length),(8,.int .i64 i)] (S i)
   (fun x e σ'=>σ'=S (pK q i m).2∧if(pK q i m).1=true then x=.ret∧∃j:Nat,get e 4=.int .i64 j else x=.exit 0)
 |0,i,hi=>by
  refine aN (Hn.eq_1 _ _) ?_;have:¬i<l.length:=by omega
  simp[this,h1,h2,pK]
 |m+1,i,hi=>by
  refine aN (Hn.eq_1 _ _) ?_;have h4:i<l.length:=by omega
  obtain⟨x,hx⟩:=gE h4;have h5:=bS (f:=E.enc) E.len hx;have h6:=ht i x hx;have h7:=gD h4 hl;have ih:=IT hl h1 h2 ht m (i+1) (by omega);cases hq:q i
  ·rw[hq]at h6;simp[h4,h1,h2,h5,h6,h7,E.load,E.strip,E.calm];refine WL.mono (by simpa using ih) ?_;rintro x e σ' ⟨h9,h10⟩;simp only[pK,hq,aw,if_false];exact⟨h9,h10⟩
  ·rw[hq]at h6;simp[h4,h1,h2,h5,h6,h7,E.load,E.strip,E.calm,pK,hq];exact⟨i,rfl⟩
theorem RA{f:Nat}(hT:T f=some (uP E.ag E.w))(hl:l.length≤9223372036854775807)(h1:fv.strip=fv)(h2:fv.calm=fv)(hlen:∀i,(S i).length=(S 0).length)
  (ht:∀i x,l[i]?=some x→pw (lim T) false fv [E.val x] ([]::S i)=some (.bool (q i),[]::S (i+1))):
  ∃n:Int,lim T (.call false f [.aI l.length (l.flatMap E.enc),fv] (S 0))=some (.val (.int .i64 n) (S (pK q 0 l.length).2))∧(0≤n↔(pK q 0 l.length).1=true):=by
 have h:=IT E (S:=fun i=>[]::S i) hl h1 h2 ht l.length 0 (by omega);cases hq:(pK q 0 l.length).1
 ·refine⟨-1,?_,by simp⟩;refine gF hT (uP.eq_1 _ _) rfl (hlen _) ?_;simp[h1,h2];refine WL.mono (by simpa using h) ?_;rintro x e σ' ⟨rfl,h10⟩;rw[hq]at h10;simp only[aw,if_false]at h10;subst h10;simp
 ·obtain⟨x,e,σ',hw,rfl,h10⟩:=h;rw[hq]at h10;simp only[if_true]at h10;obtain⟨rfl,j,hj⟩:=h10;refine⟨j,?_,by simp⟩;refine gF hT (uP.eq_1 _ _) rfl (hlen _) ?_;simp[h1,h2];refine⟨_,_,_,by simpa using hw,?_⟩;simp[hj]
theorem JF{f i:Nat}(hT:T f=some (ju i))(hi:T i=some (uP E.ag E.w))(hl:l.length≤9223372036854775807)(h1:fv.strip=fv)(h2:fv.calm=fv)(hlen:∀i,(S i).length=(S 0).length)
  (ht:∀i x,l[i]?=some x→pw (lim T) false fv [E.val x] ([]::[]::S i)=some (.bool (q i),[]::[]::S (i+1))):
  lim T (.call false f [.aI l.length (l.flatMap E.enc),fv] (S 0))=some (.val (.bool (pK q 0 l.length).1) (S (pK q 0 l.length).2)):=by
 obtain⟨n,h,hn⟩:=RA E (S:=fun i=>[]::S i) hi hl h1 h2 (fun i=>by simp[hlen i]) ht;refine gF hT (ju.eq_1 _) rfl (hlen _) ?_;have h4:decide (0≤n)=(pK q 0 l.length).1:=by
  cases hq:(pK q 0 l.length).1
  ·rw[hq]at hn;simp at hn;exact decide_eq_false (by omega)
  ·exact decide_eq_true (hn.2 hq)
 simp[h1,h2,h,h4]
theorem Ti{g:Nat}{x:α}{b:Bool}{σ σ':SK}(hT:T g=some (yO E.ag E.w))(hlen:σ'.length=σ.length)(h1:fv.strip=fv)(h2:fv.calm=fv)(ht:pw (lim T) false fv [E.val x] ([]::σ)=some (.bool b,[]::σ')):
  pw (lim T) false (.fn g [] [.bD [fv]]) [E.val x] σ=some (.bool (!b),σ'):=by
 rw[rk];have hc:=E.cells x;have hl:=E.load x;have hs:=E.strip x;have hcm:=E.calm x;have key:lim T (.call false g ([]++[E.val x]++[.bD [fv]]) σ)=some (.val (.bool (!b)) σ'):=by
  generalize E.ag=ag at *
  cases ag with
  |true =>
   refine gF hT (yO.eq_1 _) rfl hlen ?_;simp[h1,h2,ht,hc,hl,hs,hcm]
  |false =>
   refine gF hT (yO.eq_2 _) rfl hlen ?_;simp[h1,h2,ht,hc,hl,hs,hcm]
 rw[key];rfl
theorem Jy{f g h i:Nat}{p:Nat→Bool}(hf:T f=some (DN g h))(hg:T g=some (yO E.ag E.w))(hh:T h=some (ju i))(hi:T i=some (uP E.ag E.w))
  (hl:l.length≤9223372036854775807) (h1:fv.strip=fv) (h2:fv.calm=fv) (hcl:fv.cells=some [fv]) (hlen:∀i,(S i).length=(S 0).length)
  (ht:∀i x,l[i]?=some x→pw (lim T) false fv [E.val x] ([]::[]::[]::[]::S i)=some (.bool (p i),[]::[]::[]::[]::S (i+1))):
  lim T (.call false f [.aI l.length (l.flatMap E.enc),fv] (S 0))=some (.val (.bool !(pK (fun i => !p i) 0 l.length).1) (S (pK (fun i => !p i) 0 l.length).2)):=by
 have hc:=JF E (S:=fun i=>[]::S i) (fv:=.fn g [] [.bD [fv]]) (q:=fun i => !p i) hh hi hl rfl rfl (fun i=>by simp[hlen i]) (fun i x hx=>Ti E hg (by simp[hlen i,hlen (i+1)]) h1 h2 (ht i x hx));refine gF hf (DN.eq_1 _ _) rfl (hlen _) ?_;simp[h1,h2,hc,hcl]
theorem af5{f g h i:Nat}{p:α→Bool}{σ:SK}(hf:T f=some (DN g h))(hg:T g=some (yO E.ag E.w))(hh:T h=some (ju i))(hi:T i=some (uP E.ag E.w))
  (hl:l.length≤9223372036854775807) (h1:fv.strip=fv) (h2:fv.calm=fv) (hcl:fv.cells=some [fv])
  (ht:∀x∈l,pw (lim T) false fv [E.val x] ([]::[]::[]::[]::σ)=some (.bool (p x),[]::[]::[]::[]::σ)):
  lim T (.call false f [.aI l.length (l.flatMap E.enc),fv] σ)=some (.val (.bool (gU l p)) σ):=by
 have h0:=Jy E (T:=T) (S:=fun _=>σ) (fv:=fv) (l:=l) (p:=fun i=>match l[i]? with | some x=>p x | none=>true) hf hg hh hi hl h1 h2 hcl (fun _=>rfl) (fun i x hx=>by
  rw[ht x (ai hx)];simp[hx])
 have he:(!(pK (fun i => !(match l[i]? with | some x=>p x | none=>true)) 0 l.length).1)=gU l p:=by
  have h2:=Ce (q:=fun i => !(match l[i]? with | some x=>p x | none=>true)) (m:=l.length) (i:=0);cases hw:gU l p
  ·rw[Bool.not_eq_false'];cases hs:(pK (fun i => !(match l[i]? with | some x=>p x | none=>true)) 0 l.length).1
   ·have h3:=h2.1 hs;have h4:gU l p=true:=jZ.2 fun x hx=>by
     obtain⟨j,hj⟩:=gS hx;have:=h3 j (au.1 hj).1;simpa[hj]using this
    rw[hw]at h4;cases h4
   ·rfl
  ·rw[dU];refine h2.2 fun j hj=>?_
   have hx:=aF hj;have:=jZ.1 hw _ (List.getElem_mem hj);simp[hx,this]
 rw[he]at h0;exact h0
end
end Go.Abs
namespace Go.Proofs.YtfgljaglidhjiaaGreatDoor
open List(length_flatMap map_take)
open Go Go.Abs Go.Rock
variable {σ:SK}
theorem afs{r:Rw}:lim T (.call false kG [.agg r.enc] σ)=some (.val (.bool r.alone) σ):=by
 refine aA DJ qT.eq_1 rfl ?_;cases hc1:ct r.t 0 400
 ·simp[-length_flatMap,-map_take,ki,Rw.alone,hc1]
 cases hc2:ct r.p 1 10000
 ·simp[-length_flatMap,-map_take,ki,Rw.alone,hc1,hc2]
 cases hc3:ct r.l 0 4000
 ·simp[-length_flatMap,-map_take,ki,Rw.alone,hc1,hc2,hc3]
 cases hc4:ct r.s 0 2000
 ·simp[-length_flatMap,-map_take,ki,Rw.alone,hc1,hc2,hc3,hc4]
 by_cases hc5:r.l<r.v
 rotate_left
 ·simp[-length_flatMap,-map_take,ki,Rw.alone,hc1,hc2,hc3,hc4,hc5]
 simp[-length_flatMap,-map_take,ki,Rw.alone,hc1,hc2,hc3,hc4,hc5]
theorem ani{l:List Rw}(hl:l.length≤1000000000):lim T (.call false jr [.aI l.length (l.flatMap Rw.enc),.fn kG [] []] σ)=some (.val (.bool (gU l Rw.alone)) σ) :=
 zV (xf 5 Rw.enc (fun _=>rfl)) (f:=jr) (g:=kH) (h:=fm) (i:=gJ) (l:=l) (p:=Rw.alone) rfl rfl rfl rfl (by omega) (pW.fn fun x _ σ=>afs) rfl
theorem ahr{t l:List Rw}{o:Rw}(hto:t=o::l)(hl:l.length≤100):∀(m i:Nat),i+m=l.length →
  WL T [0,16,17,18] false kD [(0,.aI t.length (t.flatMap Rw.enc)),(16,.aI l.length (l.flatMap Rw.enc)),(17,.int .i64 l.length),(18,.int .i64 i)] σ
   (fun x e σ'=>σ'=σ∧if E8 (t.drop i)then x=.exit 0 else x=.ret∧get e 2=.bool false)
 |0,i,hi=>by
  refine aN kD.eq_1 ?_;have h1:¬i<l.length:=by omega
  have h2:t.drop i=[t[i]'(by subst hto;simp;omega)]:=by
   rw[List.drop_eq_getElem_cons (by subst hto;simp;omega),aB (by subst hto;simp;omega)]
  simp[-length_flatMap,-map_take,h1,h2,E8]
 |m+1,i,hi=>by
  refine aN kD.eq_1 ?_;have h1:i<l.length:=by omega
  have htl:t.length=l.length+1:=by subst hto;rfl
  obtain⟨r,hr⟩:=gE h1;obtain⟨r0,hr0⟩:∃r0,t[i]?=some r0:=gE (by omega);have h2:=bS (f:=Rw.enc) (w:=5) (fun _=>rfl) hr;have h3:=bS (f:=Rw.enc) (w:=5) (fun _=>rfl) hr0;have h4:=gD h1 (by omega);have h6:t.drop (i+1)=r::t.drop (i+2):=cY (by subst hto;simpa using hr);have h5:t.drop i=r0::r::t.drop (i+2):=by rw[cY hr0,h6]
  have ih:=ahr hto hl m (i+1) (by omega);rw[h6]at ih;rw[h5,E8];have hlt:(i:Int)<(t.length:Int):=by omega
  have hlt':i<t.length:=by omega
  by_cases c1:r.t≤r0.t
  ·simp[-length_flatMap,-map_take,h1,hlt,hlt',h2,h3,h4,c1,Rw.I7]
  by_cases c2:r.p≤r0.p
  ·simp[-length_flatMap,-map_take,h1,hlt,hlt',h2,h3,h4,c1,c2,Rw.I7]
  by_cases c3:r.l≤r0.l
  ·simp[-length_flatMap,-map_take,h1,hlt,hlt',h2,h3,h4,c1,c2,c3,Rw.I7]
  by_cases c4:r.s<r0.s
  ·simp[-length_flatMap,-map_take,h1,hlt,hlt',h2,h3,h4,c1,c2,c3,c4,Rw.I7]
  ·simp[-length_flatMap,-map_take,h1,hlt,hlt',h2,h3,h4,c1,c2,c3,c4,Rw.I7];have hc:r0.t<r.t∧r0.p<r.p∧r0.l<r.l∧r0.s≤r.s:=by omega
   exact WL.to ih (by simp) rfl fun x e σ' hh=>by simpa[hc]using hh
theorem CO{t:List Rw}(hl:t.length≤1000000000):lim T (.call false iW [.aI t.length (t.flatMap Rw.enc)] σ)=some (.val (.bool (kM t)) σ):=by
 refine aA Cu oh.eq_1 rfl ?_;have ha:=fun σ=>ani (σ:=σ) (l:=t) hl
 cases hc1:ct t.length 2 20
 ·simp[-length_flatMap,-map_take,ki,hc1,kM]
 cases hc2:gU t Rw.alone
 ·simp[-length_flatMap,-map_take,ki,hc1,hc2,ha,kM]
 obtain⟨o,l,hto⟩:∃o l,t=o::l:=by
  cases t with
  |nil=>simp[ct]at hc1
  |cons o l=>exact⟨o,l,rfl⟩
 have hi:=bf.1 hc1;have htl:t.length=l.length+1:=by subst hto;rfl
 have h1:(1:Int)≤(t.length:Int):=by omega
 have h2:t.length-1=l.length:=by omega
 have h3:((t.flatMap Rw.enc).drop 5).take (l.length*5)=l.flatMap Rw.enc:=by
  subst hto;have:=JS (f:=Rw.enc) (w:=5) (fun _=>rfl) l;simpa using this
 simp[-length_flatMap,-map_take,ki,hc1,hc2,ha,h1,h2,h3];refine WL.to (ahr (σ:=[]::σ) hto (by omega) l.length 0 (by omega)) (by simp) rfl ?_;rintro x e σ' ⟨rfl,h⟩;simp only[aP]at h;unfold kM;cases hc3:E8 t
 ·rw[hc3]at h;simp at h;simp[h,hc2,hc1]
 ·rw[hc3]at h;simp at h;subst h;simp[-length_flatMap,-map_take,hc2,hc1]
theorem zJ{l:List Rw}(hl:l.length≤1000000000):lim T (.call false jJ [.aI l.length (l.flatMap Rw.enc)] σ)=some (.val (.int .i64 (if kM l then 0 else 1)) σ):=by
 refine aA Db pn.eq_1 rfl ?_;cases hc:kM l<;>simp[-length_flatMap,-map_take,CO hl,hc]
theorem NU{b:cz}(hx:1≤b.f.x∧b.f.x≤8)(hy:1≤b.f.y∧b.f.y≤8)(hz:1≤b.f.z∧b.f.z≤8):lim T (.call false dk [.agg [.int .i64 b.f.x,.int .i64 b.f.y,.int .i64 b.f.z,.int .i64 b.f.k,.aI b.cq.length (b.cq.flatMap Rw.enc),.int .i64 b.bJ,.int .i64 b.lift,.int .i64 b.deep,.aI b.ar.length (b.ar.flatMap bH.enc)]] σ)=some (.val (.int .i64 b.size) σ):=by
 refine aA FW sN.eq_1 rfl ?_;obtain⟨h1,h2⟩:=fU.sz hx hy hz;have w1:=fT (n:=b.f.x*b.f.y) (by omega);have w2:=fT (n:=b.f.x*b.f.y*b.f.z) (by omega);simp[-length_flatMap,-map_take,w1,w2,cz.size,fU.size]
def tI(b:Bool):List D:=[.bool b]
def sD(n:Nat)(ar:List bH):Nat→List Bool
 |0=>List.replicate n false
 |i+1=>match ar[i]? with
  |some w=>if ct w.b 0 ((n:Int)-1)=true∧(sD n ar i)[w.b.toNat]?=some false then(sD n ar i).set w.b.toNat true else sD n ar i
  |none=>sD n ar i
theorem zG{n:Nat}{ar:List bH}:∀i,(sD n ar i).length=n
 |0=>by simp[sD]
 |i+1=>by
  simp only[sD];split
  ·split
   ·simp[zG i]
   ·exact zG i
  ·exact zG i
def yB(n:Nat)(ar:List bH)(i:Nat):Bool :=
 match ar[i]? with
 |some w=>ct w.b 0 ((n:Int)-1) && (decide ((sD n ar i)[w.b.toNat]?=some false) && (ct w.h 0 3000 && ct w.m 0 1000000))
 |none=>true
def Fj(n:Nat)(ar:List bH)(σ:SK)(i:Nat):SK:=[.cells 0 ((sD n ar i).flatMap tI),.cells 0 [.sl σ.length 0 0 0 n 1]]::σ
theorem Tn{l:List Bool}{j:Nat}{x:Bool}(h:l[j]?=some x):((l.flatMap tI).drop j)=.bool x::(l.flatMap tI).drop (j+1):=by
 have:=xn (f:=tI) (w:=1) (fun _=>rfl) h;simpa[tI]using this
theorem Q5{l:List Bool}{j:Nat}{x:Bool}(h:j<l.length):(l.flatMap tI).take j++(.bool x::(l.flatMap tI).drop (j+1))=(l.set j x).flatMap tI:=by
 have:=Qa (f:=tI) (w:=1) (fun _=>rfl) (x:=x) h;simpa[tI]using this
theorem Q4{l:List Bool}:(l.flatMap tI).length=l.length:=by
 have:=bT (f:=tI) (w:=1) (fun _=>rfl) l;omega
theorem MM{n:Nat}{ar:List bH}(hn:n≤512){i:Nat}{w:bH}(hw:ar[i]?=some w):
  lim T (.call false fD [.agg w.enc,.ref σ.length 1 0 0] ([]::[]::[]::[]::Fj n ar σ i))=some (.val (.bool (yB n ar i)) ([]::[]::[]::[]::Fj n ar σ (i+1))):=by
 refine gF CZ oY.eq_1 rfl (by simp[Fj]) ?_;have hlen:=zG (n:=n) (ar:=ar) i;have w1:=fT (n:=(n:Int)-1) (by omega);have hwp:yB n ar i=(ct w.b 0 ((n:Int)-1) && (decide ((sD n ar i)[w.b.toNat]?=some false) && (ct w.h 0 3000 && ct w.m 0 1000000))):=by simp[yB,hw]
 have hus:sD n ar (i+1)=if ct w.b 0 ((n:Int)-1)=true∧(sD n ar i)[w.b.toNat]?=some false then(sD n ar i).set w.b.toNat true else sD n ar i:=by simp[sD,hw]
 rw[hwp];simp only[Fj];generalize sD n ar (i+1)=us' at *
 generalize sD n ar i=us at *
 cases hc1:ct w.b 0 ((n:Int)-1)
 ·rw[hc1]at hus;simp at hus;subst hus;simp[-length_flatMap,-map_take,dM,w1,hc1]
 ·obtain⟨g1,g2⟩:=bf.1 hc1;have g3:w.b<(n:Int):=by omega
  obtain⟨u,hu⟩:∃u,us[w.b.toNat]?=some u:=⟨_,aF (by omega)⟩;have hat:=Tn hu;have hset:=Q5 (l:=us) (j:=w.b.toNat) (x:=true) (by omega);have hlen2:(us.flatMap tI).length=n:=by rw[Q4,hlen]
  have hle:w.b.toNat+1≤n:=by omega
  rw[hc1,hu]at hus;cases u
  ·simp at hus;subst hus;cases hc2:ct w.h 0 3000<;>
    simp[-length_flatMap,-map_take,dM,w1,hc1,hu,g1,g3,hat,hset,hlen2,hle,hc2]
  ·simp at hus;subst hus;simp[-length_flatMap,-map_take,dM,w1,hc1,hu,g1,g3,hat,hlen2]
theorem Mr{n:Nat}{ar:List bH}:∀{i:Nat},i≤ar.length→(∀j,j<i→yB n ar j=true)→∀k:Nat,k<n→(sD n ar i)[k]?=some (((ar.take i).map (·.b)).contains (k:Int))
 |0,_,_,k,hk=>by simp[sD,hk]
 |i+1,hi,h,k,hk=>by
  obtain⟨w,hw⟩:∃w,ar[i]?=some w:=gE (by omega);have ih:=Mr (i:=i) (by omega) (fun j hj=>h j (by omega));have hp:=h i (by omega);simp only[yB,hw,af,av]at hp;obtain⟨h1,h2,_⟩:=hp;obtain⟨g1,g2⟩:=bf.1 h1;have ht:ar.take (i+1)=ar.take i++[w]:=by rw[List.take_add_one,hw];rfl
  simp only[sD,hw];rw[if_pos ⟨h1,h2⟩,ht];rw[List.getElem?_set];by_cases hkw:w.b.toNat=k
  ·subst hkw;have hb:w.b=((w.b.toNat:Nat):Int):=by omega
   simp[zG,hk];right;omega
  ·rw[if_neg hkw,ih k hk];congr 1;have:((k:Int) == w.b)=false:=by simp;omega
   simp[List.contains_append,this];intro hh;omega
theorem BO{n:Nat}{ar:List bH}:∀(m i:Nat),i+m=ar.length→(∀j,j<i→yB n ar j=true) →
  (uC (n:Int) ((ar.take i).map (·.b)) (ar.drop i)=true↔∀j,i≤j→j<ar.length→yB n ar j=true)
 |0,i,hi,h=>by
  rw[aB (by omega)];simp only[uC,true_iff];intro j h1 h2;omega
 |m+1,i,hi,h=>by
  obtain⟨w,hw⟩:∃w,ar[i]?=some w:=gE (by omega);have hu:=Mr (n:=n) (i:=i) (by omega) h;have hone:bH.ok (n:Int) ((ar.take i).map (·.b)) w=yB n ar i:=by
   simp only[yB,hw,bH.ok];cases hc:ct w.b 0 ((n:Int)-1)
   ·rfl
   ·obtain⟨g1,g2⟩:=bf.1 hc;have:=hu w.b.toNat (by omega);rw[this,show((w.b.toNat:Nat):Int)=w.b from by omega];cases((ar.take i).map (·.b)).contains w.b<;>simp
  rw[cY hw,uC,hone,af];have ht:(ar.take i).map (·.b)++[w.b]=(ar.take (i+1)).map (·.b):=by rw[List.take_add_one,hw];simp
  rw[ht];constructor
  ·rintro⟨h1,h2⟩ j hj1 hj2;by_cases hji:j=i
   ·subst hji;exact h1
   ·refine((BO m (i+1) (by omega) fun j hj=>?_).1 h2) j (by omega) hj2;by_cases hji:j=i
    ·subst hji;exact h1
    ·exact h j (by omega)
  ·intro hh;have h1:=hh i (by omega) (by omega);refine⟨h1,(BO m (i+1) (by omega) fun j hj=>?_).2 fun j hj1 hj2=>hh j (by omega) hj2⟩;by_cases hji:j=i
   ·subst hji;exact h1
   ·exact h j (by omega)
theorem MN{n:Nat}{ar:List bH}(hn:n≤512)(hl:ar.length≤1000000000):∃s,
  lim T (.call false kf [.aI ar.length (ar.flatMap bH.enc),.fn fD [] [.ref σ.length 1 0 0]] ([.cells 0 ((List.replicate n false).flatMap tI),.cells 0 [.sl σ.length 0 0 0 n 1]]::σ)) =
   some (.val (.bool (uC (n:Int) [] ar)) (s::σ)):=by
 have h:=Jy (xf 3 bH.enc (fun _=>rfl)) (T:=T) (S:=Fj n ar σ) (fv:=.fn fD [] [.ref σ.length 1 0 0]) (l:=ar) (f:=kf) (g:=lI) (h:=fk) (i:=gI) (p:=yB n ar)
  rfl rfl rfl rfl (by omega) rfl rfl rfl (fun i=>by simp[Fj]) (fun i x hx=>by
   rw[rk];have:=MM (σ:=σ) hn hx;show R.bh (lim T (.call false fD [.agg x.enc,.ref σ.length 1 0 0] _))=_
   rw[this];rfl)
 have he:(!(pK (fun i => !yB n ar i) 0 ar.length).1)=uC (n:Int) [] ar:=by
  have h1:=BO (n:=n) (ar:=ar) ar.length 0 (by omega) (by simp);have h2:=Ce (q:=fun i => !yB n ar i) (m:=ar.length) (i:=0);simp only[List.take_zero,bQ,aP]at h1;cases hw:uC (n:Int) [] ar
  ·rw[Bool.not_eq_false'];cases hs:(pK (fun i => !yB n ar i) 0 ar.length).1
   ·have h3:=h2.1 hs;have h4:=h1.2 fun j _ hj=>by have:=h3 j hj;simpa using this
    rw[hw]at h4;cases h4
   ·rfl
  ·rw[dU];refine h2.2 fun j hj=>?_
   have:=h1.1 hw j (by omega) hj;simpa using this
 rw[he]at h;refine⟨[.cells 0 ((sD n ar (pK (fun i => !yB n ar i) 0 ar.length).2).flatMap tI),.cells 0 [.sl σ.length 0 0 0 n 1]],?_⟩;exact h
theorem AW{b:cz}(h1:b.cq.length≤1000000000)(h2:b.ar.length≤1000000000):lim T (.call false jD [.agg [.int .i64 b.f.x,.int .i64 b.f.y,.int .i64 b.f.z,.int .i64 b.f.k,.aI b.cq.length (b.cq.flatMap Rw.enc),.int .i64 b.bJ,.int .i64 b.lift,.int .i64 b.deep,.aI b.ar.length (b.ar.flatMap bH.enc)]] σ)=some (.val (.bool b.valid) σ):=by
 refine aA EB rN.eq_1 rfl ?_;have hT:=fun σ=>zJ (σ:=σ) (l:=b.cq) h1
 unfold cz.valid cz.ok1;cases hc1:b.f.valid
 ·simp[-length_flatMap,-map_take,jN,fU.shape,hc1]
 by_cases hc2:b.f.k<4
 ·simp[-length_flatMap,-map_take,jN,fU.shape,hc1,hc2,show ¬4≤b.f.k by omega]
 have hc2':4≤b.f.k:=by omega
 cases hc3:kM b.cq
 ·simp[-length_flatMap,-map_take,jN,fU.shape,hc1,hc2,hT,hc3]
 cases hc4:ct b.bJ 1 100000
 ·simp[-length_flatMap,-map_take,jN,fU.shape,hc1,hc2,hT,hc3,dM,hc4]
 cases hc5:ct b.lift 0 1000
 ·simp[-length_flatMap,-map_take,jN,fU.shape,hc1,hc2,hT,hc3,dM,hc4,hc5]
 cases hc6:ct b.deep 0 3000
 ·simp[-length_flatMap,-map_take,jN,fU.shape,hc1,hc2,hT,hc3,dM,hc4,hc5,hc6]
 by_cases hc7:8<b.ar.length
 ·simp[-length_flatMap,-map_take,jN,fU.shape,hc1,hc2,hT,hc3,dM,hc4,hc5,hc6,hc7,show ¬b.ar.length≤8 by omega,show(8:Int)<b.ar.length by omega]
 obtain⟨g1,g2,g3,g4,g5⟩:=fU.tA.1 hc1;obtain⟨_,g6⟩:=fU.sz g1 g2 g3;have hsz:=fun σ=>NU (σ:=σ) (b:=b) g1 g2 g3
 have hs:b.size=((b.n:Nat):Int):=by unfold cz.n cz.size fU.size;omega
 have hn:b.n≤512:=by unfold cz.n cz.size fU.size;omega
 have hnil:((List.range b.n).flatMap fun _=>[D.bool false])=(List.replicate b.n false).flatMap tI:=by
  have:∀n,((List.range n).flatMap fun _=>[D.bool false])=(List.replicate n false).flatMap tI:=by
   intro n;induction n with
   |zero=>rfl
   |succ n ih=>rw[List.range_succ,iQ,ih,List.replicate_succ'];simp[tI]
  exact this _
 obtain⟨s,hall⟩:=MN (σ:=σ) (n:=b.n) (ar:=b.ar) hn h2;rw[← hs]at hall;have hroom:(b.n:Int)≤70368744177664:=by omega
 rw[hs]at hsz;simp[-length_flatMap,-map_take,jN,fU.shape,hc1,hc2,hT,hc3,dM,hc4,hc5,hc6,show ¬(8:Int)<b.ar.length by omega,show b.ar.length≤8 by omega,hsz,room,hroom,hnil,hall,hc2']
theorem ad4{l:List Int}{i n:Nat}:((l.flatMap aS).drop i).take n=((l.drop i).take n).flatMap aS:=by
 simp only[show aS=fun n=>[D.int .i64 n]from rfl,Li,← List.map_drop,← List.map_take]
theorem rh{l:List Int}{j:Nat}{x:Int}(h:l[j]?=some x):((l.flatMap aS).drop j).take 1=[.int .i64 x]:=by
 have:=bS (f:=aS) (w:=1) (fun _=>rfl) h;simpa using this
theorem cK(l:List Rw):D.bg (l.flatMap Rw.enc)=true:=dX (fun x=>by simp) l
theorem bu(l:List bH):D.bg (l.flatMap bH.enc)=true:=dX (fun x=>by simp) l
theorem aY(l:List Int):D.bg (l.flatMap aS)=true:=dX (fun x=>by simp) l
theorem G5(l:List Rock.aE):D.bg (l.flatMap aE.enc)=true:=dX (fun x=>by simp) l
structure Bv(b:cz):Prop where
 x:1≤b.f.x∧b.f.x≤8
 y:1≤b.f.y∧b.f.y≤8
 z:1≤b.f.z∧b.f.z≤8
 k:4≤b.f.k∧b.f.k≤6
 sz:b.f.size=((b.n:Nat):Int)
 n:1≤b.n∧b.n≤64
 cq:kM b.cq=true
 bJ:1≤b.bJ∧b.bJ≤100000
 lift:0≤b.lift∧b.lift≤1000
 deep:0≤b.deep∧b.deep≤3000
 ar:b.ar.length≤8
 ok:uC b.size [] b.ar=true
theorem Bv.of{b:cz}(h:b.valid=true):Bv b:=by
 simp only[cz.valid,cz.ok1,af,av]at h;obtain⟨⟨h1,h2,h3,h4,h5,h6,h7⟩,h8⟩:=h;obtain⟨g1,g2,g3,g4,g5⟩:=fU.tA.1 h1;obtain⟨_,g6⟩:=fU.sz g1 g2 g3;refine⟨g1,g2,g3,⟨h2,g5.2⟩,?_,?_,h3,bf.1 h4,bf.1 h5,bf.1 h6,h7,h8⟩
 ·unfold cz.n cz.size fU.size;omega
 ·unfold cz.n cz.size;unfold fU.size at g4 ⊢;omega
theorem Bv.fv{b:cz}(h:Bv b):b.f.valid=true:=fU.tA.2 ⟨h.x,h.y,h.z,by have:=h.sz;have:=h.n;omega,by have:=h.k;omega⟩
structure Mv(b:cz)(m:cI):Prop where
 bv:Bv b
 len:(m.bh.length:Int)=b.f.k*b.f.size
theorem Mv.le{b:cz}{m:cI}(h:Mv b m):4*b.n≤m.bh.length∧m.bh.length≤384:=by
 have h1:=h.bv.k;have h2:=h.bv.sz;have h3:=h.bv.n;have h4:=h.len;have h5:=(fJ h1.1 (by omega:(0:Int)≤b.f.size));have h6:=Qh (a:=b.f.k) (b:=b.f.size) (A:=6) (B:=64) (by omega) h1.2 (by omega) (by omega);omega
theorem za{b:cz}(h:Bv b):lim T (.call false dk [.agg [.int .i64 b.f.x,.int .i64 b.f.y,.int .i64 b.f.z,.int .i64 b.f.k,.aI b.cq.length (b.cq.flatMap Rw.enc),.int .i64 b.bJ,.int .i64 b.lift,.int .i64 b.deep,.aI b.ar.length (b.ar.flatMap bH.enc)]] σ)=some (.val (.int .i64 b.n) σ):=by
 have:=NU (σ:=σ) (b:=b) h.x h.y h.z;rw[show b.size=((b.n:Nat):Int)from h.sz]at this;exact this
theorem Gu{b:cz}{m:cI}(h:Mv b m){k:Nat}(hk:k<4):lim T (.call false ez [.agg [.int .i64 b.f.x,.int .i64 b.f.y,.int .i64 b.f.z,.int .i64 b.f.k,.aI b.cq.length (b.cq.flatMap Rw.enc),.int .i64 b.bJ,.int .i64 b.lift,.int .i64 b.deep,.aI b.ar.length (b.ar.flatMap bH.enc),.str m.name,.aI m.bh.length (m.bh.flatMap aS)],.int .i64 k] σ)=some (.val (.aI b.n ((vM b m k).flatMap aS)) σ):=by
 refine aA C7 pc.eq_1 rfl ?_;obtain⟨h1,h2⟩:=h.le;have h3:=h.bv.n;have hs:=fun σ=>za (σ:=σ) h.bv
 have e1:(k:Int)*(b.n:Int)=((k*b.n:Nat):Int):=by push_cast;rfl
 have e2:((k:Int)+1)*(b.n:Int)=(((k+1)*b.n:Nat):Int):=by push_cast;rfl
 have b1:(k+1)*b.n≤m.bh.length:=jP (dn _ (by omega:k+1≤4)) h1;have b2:(k+1)*b.n=k*b.n+b.n:=eV _ _;have w1:=fT (n:=(k:Int)*b.n) (by rw[e1];omega);have w2:=fT (n:=(k:Int)+1) (by omega);have w3:=fT (n:=((k:Int)+1)*b.n) (by rw[e2];omega);have e3:(k+1)*b.n-k*b.n=b.n:=by omega
 have hsub:=ad4 (l:=m.bh) (i:=k*b.n) (n:=b.n);have hle:(k:Int)*b.n≤((k:Int)+1)*b.n:=by rw[e1,e2];omega
 simp[-length_flatMap,-map_take,hs,w1,w2,w3];rw[e1,e2];have c1:(0:Int)≤((k*b.n:Nat):Int):=by omega
 have c2:((k*b.n:Nat):Int)≤(((k+1)*b.n:Nat):Int):=by omega
 have c3:(((k+1)*b.n:Nat):Int)≤(m.bh.length:Int):=by omega
 have c4:(0:Int)≤(((k+1)*b.n:Nat):Int):=by omega
 simp only[c1,c2,c3,c4,and_self,if_true,Int.toNat_natCast,Option.bind_some,aT,DM,e3,hsub];simp[-length_flatMap,-map_take,vM,hle,e3,hsub,aY]
theorem IW{b:cz}{m:cI}(h:Mv b m){k:Nat}(hk:k<4):(vM b m k).length=b.n:=by
 obtain⟨h1,h2⟩:=h.le;have b1:(k+1)*b.n≤m.bh.length:=jP (dn _ (by omega:k+1≤4)) h1;have b2:(k+1)*b.n=k*b.n+b.n:=eV _ _;simp[vM];omega
theorem xo{b:cz}{m:cI}(h:Mv b m){k i:Nat}(hk:k<4)(hi:i<b.n):(vM b m k)[i]?=some (vb b m k i):=by
 obtain⟨h1,h2⟩:=h.le;have b1:(k+1)*b.n≤m.bh.length:=jP (dn _ (by omega:k+1≤4)) h1;have b2:(k+1)*b.n=k*b.n+b.n:=eV _ _;have h3:k*b.n+i<m.bh.length:=by omega
 simp only[vM,vb,ej,ei,if_pos hi,aF h3,gT]
theorem SB{b:cz}{m:cI}(h:Mv b m){i:Nat}(hi:i<b.n):lim T (.call false fE [.agg [.int .i64 b.f.x,.int .i64 b.f.y,.int .i64 b.f.z,.int .i64 b.f.k,.aI b.cq.length (b.cq.flatMap Rw.enc),.int .i64 b.bJ,.int .i64 b.lift,.int .i64 b.deep,.aI b.ar.length (b.ar.flatMap bH.enc),.str m.name,.aI m.bh.length (m.bh.flatMap aS)],.int .i64 i] σ)=some (.val (.int .i64 (hold b m i)) σ):=by
 refine aA C6 pa.eq_1 rfl ?_;have hk:=fun σ=>Gu (σ:=σ) h (k:=0) (by omega)
 have ha:=rh (xo h (k:=0) (by omega) hi);simp only[Int.ofNat_zero]at hk;simp[-length_flatMap,-map_take,hk,hi,ha,hold]
theorem SI{b:cz}{m:cI}(h:Mv b m){i:Nat}(hi:i<b.n):lim T (.call false jI [.agg [.int .i64 b.f.x,.int .i64 b.f.y,.int .i64 b.f.z,.int .i64 b.f.k,.aI b.cq.length (b.cq.flatMap Rw.enc),.int .i64 b.bJ,.int .i64 b.lift,.int .i64 b.deep,.aI b.ar.length (b.ar.flatMap bH.enc),.str m.name,.aI m.bh.length (m.bh.flatMap aS)],.int .i64 i] σ)=some (.val (.int .i64 (Ih b m i)) σ):=by
 refine aA C8 pf.eq_1 rfl ?_;have hk:=fun σ=>Gu (σ:=σ) h (k:=1) (by omega)
 have ha:=rh (xo h (k:=1) (by omega) hi);simp at hk;simp[-length_flatMap,-map_take,hk,hi,ha,Ih]
theorem anp{b:cz}{m:cI}(h:Mv b m){i:Nat}(hi:i<b.n):lim T (.call false mc [.agg [.int .i64 b.f.x,.int .i64 b.f.y,.int .i64 b.f.z,.int .i64 b.f.k,.aI b.cq.length (b.cq.flatMap Rw.enc),.int .i64 b.bJ,.int .i64 b.lift,.int .i64 b.deep,.aI b.ar.length (b.ar.flatMap bH.enc),.str m.name,.aI m.bh.length (m.bh.flatMap aS)],.int .i64 i] σ)=some (.val (.int .i64 (Io b m i)) σ):=by
 refine aA Da pj.eq_1 rfl ?_;have hk:=fun σ=>Gu (σ:=σ) h (k:=2) (by omega)
 have ha:=rh (xo h (k:=2) (by omega) hi);simp at hk;simp[-length_flatMap,-map_take,hk,hi,ha,Io]
theorem ana{b:cz}{m:cI}(h:Mv b m){i:Nat}(hi:i<b.n):lim T (.call false jG [.agg [.int .i64 b.f.x,.int .i64 b.f.y,.int .i64 b.f.z,.int .i64 b.f.k,.aI b.cq.length (b.cq.flatMap Rw.enc),.int .i64 b.bJ,.int .i64 b.lift,.int .i64 b.deep,.aI b.ar.length (b.ar.flatMap bH.enc),.str m.name,.aI m.bh.length (m.bh.flatMap aS)],.int .i64 i] σ)=some (.val (.int .i64 (feed b m i)) σ):=by
 refine aA C4 o8.eq_1 rfl ?_;have hk:=fun σ=>Gu (σ:=σ) h (k:=3) (by omega)
 have ha:=rh (xo h (k:=3) (by omega) hi);simp at hk;simp[-length_flatMap,-map_take,hk,hi,ha,feed]
theorem afy{lo hi n:Int}:lim T (.call false ed [.int .i64 n,.ref σ.length 0 0 0] ([]::[]::[]::[]::[.cells 0 [.int .i64 lo,.int .i64 hi]]::σ))=some (.val (.bool (ct n lo hi)) ([]::[]::[]::[]::[.cells 0 [.int .i64 lo,.int .i64 hi]]::σ)):=by
 refine aA Bb na.eq_1 rfl ?_;simp[-length_flatMap,-map_take,dM]
theorem QN{b:cz}{m:cI}(h:Mv b m){k:Nat}(hk:k<4){lo hi:Int}:lim T (.call false ke [.aI b.n ((vM b m k).flatMap aS),.fn ed [] [.ref σ.length 0 0 0]] ([.cells 0 [.int .i64 lo,.int .i64 hi]]::σ)) =
  some (.val (.bool (gU (vM b m k) fun n=>ct n lo hi)) ([.cells 0 [.int .i64 lo,.int .i64 hi]]::σ)):=by
 have hl:=IW h hk;have hn:=h.bv.n;have:=af5 (JL .i64) (T:=T) (f:=ke) (g:=oA) (h:=bZ) (i:=eB) (l:=vM b m k) (p:=fun n=>ct n lo hi) (fv:=.fn ed [] [.ref σ.length 0 0 0]) (σ:=[.cells 0 [.int .i64 lo,.int .i64 hi]]::σ)
  rfl rfl rfl rfl (by omega) rfl rfl rfl (fun x _=>by
   rw[rk];have:=afy (σ:=σ) (lo:=lo) (hi:=hi) (n:=x);show R.bh (lim T (.call false ed [.int .i64 x,.ref σ.length 0 0 0] _))=_
   rw[this];rfl)
 rw[hl]at this;exact this
def Ka:Nat→Int×Int
 |0=>(1000,100000)
 |1=>(0,1000)
 |2=>(0,3000)
 |_=>(0,1000)
def zp(b:cz)(m:cI)(i:Nat):Nat→Bool
 |0=>true
 |n+1=>gU (vM b m i) (fun x=>ct x (Ka i).1 (Ka i).2) && zp b m (i+1) n
theorem S6{b:cz}{m:cI}(h:Mv b m):∀(n i:Nat),i+n=4 →
  WL T [1,17,18] true mz [(1,.bD [.int .i64 b.f.x,.int .i64 b.f.y,.int .i64 b.f.z,.int .i64 b.f.k,.aI b.cq.length (b.cq.flatMap Rw.enc),.int .i64 b.bJ,.int .i64 b.lift,.int .i64 b.deep,.aI b.ar.length (b.ar.flatMap bH.enc),.str m.name,.aI m.bh.length (m.bh.flatMap aS)]),(17,.agg [.int .i64 1000,.int .i64 100000,.int .i64 0,.int .i64 1000,.int .i64 0,.int .i64 3000,.int .i64 0,.int .i64 1000]),(18,.int .i64 i)] σ
   (fun x e σ'=>σ'=σ∧if zp b m i n=true then x=.exit 0 else x=.ret∧get e 2=.bool false)
 |0,i,hi=>by
  refine zh mz.eq_1 ?_;obtain rfl:i=4:=by omega
  simp[-length_flatMap,-map_take,zp,cK,bu,aY]
 |n+1,i,hi=>by
  refine zh mz.eq_1 ?_;have hk:i<4:=by omega
  have hK:=fun σ=>Gu (σ:=σ) h hk
  have ih:=S6 h n (i+1) (by omega);have hA:=QN (σ:=σ) h hk (lo:=(Ka i).1) (hi:=(Ka i).2);simp only[zp];rcases Bool.eq_false_or_eq_true (gU (vM b m i) (fun x=>ct x (Ka i).1 (Ka i).2))with hc | hc
  ·rw[hc]at hA;obtain rfl | rfl | rfl | rfl:i=0∨i=1∨i=2∨i=3:=by omega
   all_goals
    simp only[Ka]at hA hc ⊢
    try simp at hK
    simp[-length_flatMap,-map_take,hK,hA,hc,cK,bu,aY];exact WL.to ih (by simp[cK,bu,aY]) (by simp[cK,bu,aY]) fun x e σ' hh=>by simpa[hc]using hh
  ·rw[hc]at hA;obtain rfl | rfl | rfl | rfl:i=0∨i=1∨i=2∨i=3:=by omega
   all_goals
    simp only[Ka]at hA hc ⊢
    try simp at hK
    simp[-length_flatMap,-map_take,hK,hA,hc,cK,bu,aY]
theorem Mv.of{b:cz}{m:cI}(h:Bv b)(hc:gV b.f [m]=0):Mv b m:=by
 refine⟨h,?_⟩;simp only[gV,h.fv,if_true,fU.an]at hc;have h1:ct (([m]:List cI).length:Nat) 1 40=true:=by simp[ct]
 rw[if_pos h1]at hc;simp only[fU.each]at hc;split at hc
 ·rename_i hm;unfold fU.model at hm;split at hm
  ·split at hm
   ·rename_i hh;exact hh.1
   ·cases hm
  ·cases hm
 ·rename_i hm;exact absurd hc hm
theorem MG{b:cz}{m:cI}(h:Bv b)(hn:m.name.length≤1000000000)(hl:m.bh.length≤1000000000):lim T (.call false jH [.agg [.int .i64 b.f.x,.int .i64 b.f.y,.int .i64 b.f.z,.int .i64 b.f.k,.aI b.cq.length (b.cq.flatMap Rw.enc),.int .i64 b.bJ,.int .i64 b.lift,.int .i64 b.deep,.aI b.ar.length (b.ar.flatMap bH.enc),.str m.name,.aI m.bh.length (m.bh.flatMap aS)]] σ)=some (.val (.bool (fits b m)) σ):=by
 refine aA C5 o9.eq_1 rfl ?_;have hC:=fun σ=>CD (σ:=σ) (f:=b.f) (l:=[m]) (by simpa using⟨hn,hl⟩) (by simp)
 simp at hC;by_cases hc:gV b.f [m]=0
 ·have hm:=Mv.of h hc;simp[-length_flatMap,-map_take,hC,hc];refine WL.to (S6 (σ:=[]::σ) hm 4 0 (by omega)) (by simp) rfl ?_;rintro x e σ' ⟨rfl,hh⟩;have he:zp b m 0 4=fits b m:=by
   simp[zp,fits,hc,Ka]
  rw[he]at hh;cases hf:fits b m
  ·rw[hf]at hh;simp at hh;simp[hh]
  ·rw[hf]at hh;simp at hh;subst hh;simp[-length_flatMap,-map_take]
 ·simp[-length_flatMap,-map_take,hC,hc,fits]
theorem ahj{b:cz}{m:cI}(h1:b.cq.length≤1000000000)(h2:b.ar.length≤1000000000)(hn:m.name.length≤1000000000)(hl:m.bh.length≤1000000000)(hb:Bd b m=true):
  lim T (.call false tc [.agg [.int .i64 b.f.x,.int .i64 b.f.y,.int .i64 b.f.z,.int .i64 b.f.k,.aI b.cq.length (b.cq.flatMap Rw.enc),.int .i64 b.bJ,.int .i64 b.lift,.int .i64 b.deep,.aI b.ar.length (b.ar.flatMap bH.enc)],.agg [.str m.name,.aI m.bh.length (m.bh.flatMap aS)]] σ)=some (.val (.dK [.agg [.int .i64 b.f.x,.int .i64 b.f.y,.int .i64 b.f.z,.int .i64 b.f.k,.aI b.cq.length (b.cq.flatMap Rw.enc),.int .i64 b.bJ,.int .i64 b.lift,.int .i64 b.deep,.aI b.ar.length (b.ar.flatMap bH.enc),.str m.name,.aI m.bh.length (m.bh.flatMap aS)],.int .i64 0]) σ):=by
 refine aA GM xk.eq_1 rfl ?_;simp only[Bd,af]at hb;have hf:=fun σ=>MG (σ:=σ) (Bv.of hb.1) hn hl
 simp[-length_flatMap,-map_take,AW h1 h2,hb.1,hf,hb.2,cK,bu,aY]
theorem NS{b:cz}{m:cI}(h1:b.cq.length≤1000000000)(h2:b.ar.length≤1000000000)(hn:m.name.length≤1000000000)(hl:m.bh.length≤1000000000)(hb:Bd b m=false):∃d,
  lim T (.call false tc [.agg [.int .i64 b.f.x,.int .i64 b.f.y,.int .i64 b.f.z,.int .i64 b.f.k,.aI b.cq.length (b.cq.flatMap Rw.enc),.int .i64 b.bJ,.int .i64 b.lift,.int .i64 b.deep,.aI b.ar.length (b.ar.flatMap bH.enc)],.agg [.str m.name,.aI m.bh.length (m.bh.flatMap aS)]] σ)=some (.val (.dK [.agg d,.int .i64 1]) σ)∧d.length=11∧D.bg d=true:=by
 refine⟨[(.int .i64 0),(.int .i64 0),(.int .i64 0),(.int .i64 0),.aG,(.int .i64 0),(.int .i64 0),(.int .i64 0),.aG,(.str []),.aG],?_,rfl,by simp⟩;refine aA GM xk.eq_1 rfl ?_;cases hc:b.valid
 ·simp[-length_flatMap,-map_take,AW h1 h2,hc]
 ·have hf:=fun σ=>MG (σ:=σ) (Bv.of hc) hn hl
  have hb':fits b m=false:=by simpa[Bd,hc]using hb
  simp[-length_flatMap,-map_take,AW h1 h2,hc,hf,hb']
theorem afI{n:Int}:lim T (.call false jC [.int .i64 n] σ)=some (.val (.bool (ct n (-100000) 100000)) σ):=by
 refine aA CX oW.eq_1 rfl ?_;simp[-length_flatMap,-map_take,dM]
theorem QT{l:List Int}{p:Int→Bool}{fv:D}(hl:l.length≤1000000000)(ht:pW T fv (fun n => .int .i64 n) p l)(hc:fv.cells=some [fv]):
  lim T (.call false ke [.aI l.length (l.flatMap aS),fv] σ)=some (.val (.bool (gU l p)) σ) :=
 zV (JL .i64) (f:=ke) (g:=oA) (h:=bZ) (i:=eB) (l:=l) (p:=p) (fv:=fv) rfl rfl rfl rfl (by omega) ht hc
theorem afJ{b:cz}{l:List Int}(hl:l.length≤1000000000):lim T (.call false oz [.agg [.int .i64 b.f.x,.int .i64 b.f.y,.int .i64 b.f.z,.int .i64 b.f.k,.aI b.cq.length (b.cq.flatMap Rw.enc),.int .i64 b.bJ,.int .i64 b.lift,.int .i64 b.deep,.aI b.ar.length (b.ar.flatMap bH.enc)],.aI l.length (l.flatMap aS)] σ)=some (.val (.int .i64 (Am b l)) σ):=by
 refine aA EA rM.eq_1 rfl ?_;have ha:=fun σ=>QT (σ:=σ) (l:=l) (p:=fun n=>ct n (-100000) 100000) (fv:=.fn jC [] []) hl (pW.fn fun x _ σ=>afI) rfl
 unfold Am;by_cases hc1:l.length=b.ar.length
 ·rw[← hc1];cases hc2:gU l (fun n=>ct n (-100000) 100000)<;>simp[-length_flatMap,-map_take,hc1,ha,hc2,hc1 ▸ ha]
 ·simp[-length_flatMap,-map_take,hc1,show ¬(l.length:Int)=b.ar.length by omega]
def F7(l:List Int):List D:=[.aI l.length (l.flatMap aS)]
theorem S8{b:cz}{az:List (List Int)}(hl:az.length≤1000000000)(hs:∀l∈az,l.length≤1000000000):∀(m i:Nat),i+m=az.length →
  WL T [2,11,12,13] false nX [(2,.bD [.int .i64 b.f.x,.int .i64 b.f.y,.int .i64 b.f.z,.int .i64 b.f.k,.aI b.cq.length (b.cq.flatMap Rw.enc),.int .i64 b.bJ,.int .i64 b.lift,.int .i64 b.deep,.aI b.ar.length (b.ar.flatMap bH.enc)]),(11,.aI az.length (az.flatMap F7)),(12,.int .i64 az.length),(13,.int .i64 i)] σ
   (fun x e σ'=>σ'=σ∧if db (Am b) (az.drop i)=0 then x=.exit 0 else x=.ret∧get e 4=.int .i64 (db (Am b) (az.drop i)))
 |0,i,hi=>by
  refine aN nX.eq_1 ?_;have h1:¬i<az.length:=by omega
  have h2:az.drop i=[]:=aB (by omega);simp[-length_flatMap,-map_take,h1,h2,db]
 |m+1,i,hi=>by
  refine aN nX.eq_1 ?_;have h1:i<az.length:=by omega
  obtain⟨l,hx⟩:=gE h1;have h2:=bS (f:=F7) (w:=1) (fun _=>rfl) hx;simp only[F7,ea]at h2;have h4:=gD h1 (by omega);have h5:=cY hx;have hC:=fun σ=>afJ (σ:=σ) (b:=b) (l:=l) (hs l (ai hx))
  rw[h5,db];have ih:=S8 (b:=b) hl hs m (i+1) (by omega);by_cases hc:Am b l=0
  ·simp[-length_flatMap,-map_take,h1,h2,h4,hC,hc,F7];exact WL.to ih (by simp[F7]) rfl fun x e σ' hh=>by simpa[hc]using hh
  ·simp[-length_flatMap,-map_take,h1,h2,h4,hC,hc,F7]
theorem SL{b:cz}{az:List (List Int)}(hl:az.length≤1000000000)(hs:∀l∈az,l.length≤1000000000):
  lim T (.call false mR [.agg [.int .i64 b.f.x,.int .i64 b.f.y,.int .i64 b.f.z,.int .i64 b.f.k,.aI b.cq.length (b.cq.flatMap Rw.enc),.int .i64 b.bJ,.int .i64 b.lift,.int .i64 b.deep,.aI b.ar.length (b.ar.flatMap bH.enc)],.aI az.length (az.flatMap F7)] σ)=some (.val (.int .i64 (wx b az)) σ):=by
 refine aA FV sM.eq_1 rfl ?_;unfold wx;by_cases hc:200<az.length
 ·simp[-length_flatMap,-map_take,hc,show(200:Int)<az.length by omega]
 ·simp[-length_flatMap,-map_take,hc,show ¬(200:Int)<az.length by omega];refine WL.to (S8 (σ:=[]::σ) (b:=b) hl hs az.length 0 (by omega)) (by simp) rfl ?_;rintro x e σ' ⟨rfl,h⟩;simp only[aP]at h;by_cases hc2:db (Am b) az=0
  ·rw[if_pos hc2]at h;subst h;simp[-length_flatMap,-map_take,hc2,show az.length≤200 by omega]
  ·rw[if_neg hc2]at h;obtain⟨rfl,h⟩:=h;simp[h,show ¬200<az.length by omega]
structure Fv(b:cz)(m:cI):Prop extends Mv b m where
 hold:∀i,i<b.n→1000≤Rock.hold b m i∧Rock.hold b m i≤100000
 Ih:∀i,i<b.n→0≤Rock.Ih b m i∧Rock.Ih b m i≤1000
 Io:∀i,i<b.n→0≤Rock.Io b m i∧Rock.Io b m i≤3000
 feed:∀i,i<b.n→0≤Rock.feed b m i∧Rock.feed b m i≤1000
theorem Fv.of{b:cz}{m:cI}(h:Bd b m=true):Fv b m:=by
 simp only[Bd,fits,af,av]at h;obtain⟨h1,h2,h3,h4,h5,h6⟩:=h;have hm:=Mv.of (Bv.of h1) h2;have key:∀{k:Nat} {lo hi:Int},k<4→gU (vM b m k) (fun n=>ct n lo hi)=true→∀i,i<b.n→lo≤vb b m k i∧vb b m k i≤hi:=by
  intro k lo hi hk ha i hi';exact bf.1 (jZ.1 ha _ (ai (xo hm hk hi')))
 exact⟨hm,key (by omega) h3,key (by omega) h4,key (by omega) h5,key (by omega) h6⟩
theorem BN{b:cz}(h:Bv b){i:Nat}(hi:i<b.n):0≤weight b i∧weight b i≤64000:=by
 have hl:=h.lift;have hn:=h.n;have hle:i / (b.f.x.toNat*b.f.y.toNat)≤i:=Nat.div_le_self _ _;have hq:=Int.natCast_nonneg (i / (b.f.x.toNat*b.f.y.toNat));have hle2:((i / (b.f.x.toNat*b.f.y.toNat):Nat):Int)≤64:=by
  have:i / (b.f.x.toNat*b.f.y.toNat)≤64:=by omega
  exact Int.ofNat_le.2 this
 unfold weight;exact oH (A:=64) (B:=1000) hq hle2 hl.1 hl.2
theorem Gy{b:cz}{m:cI}(h:Bv b){i:Nat}(hi:i<b.n):lim T (.call false fF [.agg [.int .i64 b.f.x,.int .i64 b.f.y,.int .i64 b.f.z,.int .i64 b.f.k,.aI b.cq.length (b.cq.flatMap Rw.enc),.int .i64 b.bJ,.int .i64 b.lift,.int .i64 b.deep,.aI b.ar.length (b.ar.flatMap bH.enc),.str m.name,.aI m.bh.length (m.bh.flatMap aS)],.int .i64 i] σ)=some (.val (.int .i64 (weight b i)) σ):=by
 refine aA Bc nd.eq_1 rfl ?_;have hx:=h.x;have hy:=h.y;have hn:=h.n;obtain⟨s1,_⟩:=fU.sz h.x h.y h.z;have w1:=fT (n:=b.f.x*b.f.y) (by omega);have e1:b.f.x*b.f.y=((b.f.x.toNat*b.f.y.toNat:Nat):Int):=by push_cast;rw[eO (by omega),eO (by omega)]
 have e2:(i:Int) / (b.f.x*b.f.y)=((i / (b.f.x.toNat*b.f.y.toNat):Nat):Int):=by
  rw[e1];rfl
 have hle:i / (b.f.x.toNat*b.f.y.toNat)≤i:=Nat.div_le_self _ _;have hw:=BN h hi;have hq:(0:Int)≤(i:Int) / (b.f.x*b.f.y):=by rw[e2];exact Int.natCast_nonneg _
 have hq2:(i:Int) / (b.f.x*b.f.y)≤64:=by
  rw[e2];have:i / (b.f.x.toNat*b.f.y.toNat)≤64:=by omega
  exact Int.ofNat_le.2 this
 have w2:=fT (n:=(i:Int) / (b.f.x*b.f.y)) (by omega);have w3:=fT (n:=weight b i) (by omega);have hne:¬b.f.x*b.f.y=0:=by omega
 have hnx:¬b.f.x=0:=by omega
 have hny:¬b.f.y=0:=by omega
 have e3:(i:Int) / (b.f.x*b.f.y)*b.lift=weight b i:=by rw[e2];rfl
 simp[-length_flatMap,-map_take,w1,w2,hne,hnx,hny,e3,w3]
theorem am8{n d:Int}(hn : -200000000000≤n∧n≤200000000000)(hd:1≤d∧d≤100000):lim T (.call false vL [.int .i64 n,.int .i64 d] σ)=some (.val (.int .i64 (down n d)) σ):=by
 refine aA KS yf.eq_1 rfl ?_;have h1:=Int.mul_tdiv_add_tmod n d;have h2:=Int.tmod_lt_of_pos n (show 0<d by omega);have h3:=Int.lt_tmod_of_pos n (show 0<d by omega);unfold down;generalize hq:n.tdiv d=q at *
 generalize n.tmod d=r at *
 have h4:d*q=q*d:=Int.mul_comm _ _;have hb : -200000100001≤q∧q≤200000100001:=by
  rcases mT 0 q with h | h
  ·have:=Int.mul_le_mul_of_nonneg_left hd.1 h;omega
  ·have:=Int.mul_le_mul_of_nonpos_left h hd.1;omega
 have w1:=fT (n:=q) (by omega);have w2:=fT (n:=q*d) (by omega);have w3:=fT (n:=q-1) (by omega);have hne:¬d=0:=by omega
 have key:n / d=if n<q*d then q-1 else q:=by
  split
  ·rename_i hc;refine((Int.ediv_emod_unique (r:=r+d) (show 0<d by omega)).2 ⟨?_,?_,?_⟩).1
   ·rw[Int.mul_sub];omega
   ·omega
   ·omega
  ·rename_i hc;refine((Int.ediv_emod_unique (r:=r) (show 0<d by omega)).2 ⟨?_,?_,?_⟩).1<;>omega
 rw[key];by_cases hc:n<q*d<;>simp[-length_flatMap,-map_take,hq,w1,w2,w3,hne,hc]
theorem yj{α:Type}{f:α→List D}{w n:Nat}(hn:1<n)(hw:∀x,(f x).length=w)(hc:∀x,D.bg (f x)=true){l:List α}{j v:Nat}{bs:List Abs.aE}(hσ:σ≠[])(hj:bs[j]?=some (.cells v (l.flatMap f))):
  cr (σ.length-1) n (.sl σ.length j v 0 l.length w) (bs::σ)=(.aI l.length (l.flatMap f),bs.set j .dead::σ):=by
 have h3:¬σ.length≤σ.length-1:=by have:=aL.2 hσ;omega
 rw[Dh h3 (cs:=l.flatMap f) (by simp[hj]) (by omega)];have h4:0<n-1:=by omega
 simp[JS hw l,dX hc l,h4]
theorem BZ{b:cz}{m:cI}:(dV b m).length=b.n:=by simp[dV]
theorem Gg(l:List Rock.aE):(l.flatMap aE.enc).length=l.length*3:=bT (f:=aE.enc) (w:=3) (fun _=>rfl) l
theorem NZ{b:cz}{m:cI}(h:Fv b m):∀(n i v:Nat),i+n=b.n →
  WL T [1,2,6,7] false lB [(1,.bD [.int .i64 b.f.x,.int .i64 b.f.y,.int .i64 b.f.z,.int .i64 b.f.k,.aI b.cq.length (b.cq.flatMap Rw.enc),.int .i64 b.bJ,.int .i64 b.lift,.int .i64 b.deep,.aI b.ar.length (b.ar.flatMap bH.enc),.str m.name,.aI m.bh.length (m.bh.flatMap aS)]),(2,.sl σ.length 0 v 0 i 3),(6,.int .i64 b.n),(7,.int .i64 i)] ([.cells v (((dV b m).take i).flatMap aE.enc)]::σ)
   (fun x e σ'=>x=.exit 0∧get e 2=.sl σ.length 0 (v+n) 0 (dV b m).length 3∧σ'=[.cells (v+n) ((dV b m).flatMap aE.enc)]::σ)
 |0,i,v,hi=>by
  refine aN lB.eq_1 ?_;obtain rfl:i=b.n:=by omega
  have h3:(dV b m).take b.n=dV b m:=aj (by simp[BZ]);simp[-length_flatMap,-map_take,h3,BZ]
 |n+1,i,v,hi=>by
  refine aN lB.eq_1 ?_;have h1:i<b.n:=by omega
  have hn:=h.bv.n;have h4:=gD h1 (by omega);have ho:=fun σ=>SB (σ:=σ) h.toMv h1
  have hw:=fun σ=>anp (σ:=σ) h.toMv h1
  have b1:=h.hold i h1;have b2:=h.Io i h1;have b3:=oH (by omega:0≤hold b m i) b1.2 b2.1 b2.2;have w1:=fT (n:=hold b m i*Io b m i) (by omega);have ih:=NZ h n (i+1) (v+1) (by omega);have hx:(dV b m)[i]?=some ⟨hold b m i,hold b m i*Io b m i,0⟩:=by simp[dV,h1]
  have a3:=ET (f:=aE.enc) hx;have a4:=Gg ((dV b m).take i);rw[lO,BZ,Nat.min_eq_left (by omega)]at a4;have a6:(((dV b m).take i).flatMap aE.enc).take (i*3)=((dV b m).take i).flatMap aE.enc:=aj (by omega);have h7:(i+1)*24≤room:=by unfold room;omega
  simp[-length_flatMap,-map_take,h1,h4,ho,hw,w1,a4,a6,h7,cK,bu,aY];refine WL.to ih (by simp[cK,bu,aY]) (by simp[← a3]) fun x e σ hh=>by simpa[du,Nat.add_comm 1 n]using hh
theorem Es{b:cz}{m:cI}(h:Fv b m)(hσ:σ≠[]):lim T (.call false iV [.agg [.int .i64 b.f.x,.int .i64 b.f.y,.int .i64 b.f.z,.int .i64 b.f.k,.aI b.cq.length (b.cq.flatMap Rw.enc),.int .i64 b.bJ,.int .i64 b.lift,.int .i64 b.deep,.aI b.ar.length (b.ar.flatMap bH.enc),.str m.name,.aI m.bh.length (m.bh.flatMap aS)]] σ)=some (.val (Sk (dV b m)) σ):=by
 refine aA Cp nZ.eq_1 rfl ?_;have hs:=fun σ=>za (σ:=σ) h.bv
 simp[-length_flatMap,-map_take,hs,cK,bu,aY];refine WL.to (NZ (σ:=σ) h b.n 0 0 (by omega)) (by simp) (by simp) ?_;rintro x e σ' ⟨rfl,g2,rfl⟩;simp[-length_flatMap,-map_take,g2];rw[yj (f:=aE.enc) (by decide) (fun _=>rfl) (fun x=>by simp) hσ (by simp)];simp[Sk]
end Go.Proofs.YtfgljaglidhjiaaGreatDoor
