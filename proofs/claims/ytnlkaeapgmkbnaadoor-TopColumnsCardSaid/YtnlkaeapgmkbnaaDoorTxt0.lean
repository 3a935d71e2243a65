import Derived.Test.YtnlkaeapgmkbnaaDoorBase20
import Derived.Test.YtnlkaeapgmkbnaaDoorTab
set_option linter.all false
namespace Go.Rock
open List(length_flatMap map_take)
open Go Go.Abs
structure iO where
 x:Int
 y:Int
 z:Int
 k:Int
structure Rw where
 t:Int
 p:Int
 l:Int
 v:Int
 s:Int
structure mT where
 b:Int
 h:Int
 m:Int
structure mG where
 f:iO
 HX:List Rw
 yU:Int
 lift:Int
 deep:Int
 rS:List mT
structure qd where
 name:List UInt8
 mE:List Int
structure b8 where
 m:Int
 h:Int
 k:Int
@[simp] theorem iO.eta(p:iO):iO.mk p.x p.y p.z p.k=p:=rfl
@[simp] theorem Rw.eta(p:Rw):Rw.mk p.t p.p p.l p.v p.s=p:=rfl
@[simp] theorem mT.eta(p:mT):mT.mk p.b p.h p.m=p:=rfl
@[simp] theorem b8.eta(p:b8):b8.mk p.m p.h p.k=p:=rfl
@[simp] def iO.enc(f:iO):List D:=[.int .i64 f.x,.int .i64 f.y,.int .i64 f.z,.int .i64 f.k]
@[simp] def Rw.enc(r:Rw):List D:=[.int .i64 r.t,.int .i64 r.p,.int .i64 r.l,.int .i64 r.v,.int .i64 r.s]
@[simp] def mT.enc(r:mT):List D:=[.int .i64 r.b,.int .i64 r.h,.int .i64 r.m]
@[simp] def b8.enc(r:b8):List D:=[.int .i64 r.m,.int .i64 r.h,.int .i64 r.k]
@[simp] def mB(n:Int):List D:=[.int .i64 n]
@[simp] def mG.enc(b:mG):List D:=[.int .i64 b.f.x,.int .i64 b.f.y,.int .i64 b.f.z,.int .i64 b.f.k,.ch b.HX.length (b.HX.flatMap Rw.enc),.int .i64 b.yU,.int .i64 b.lift,.int .i64 b.deep,.ch b.rS.length (b.rS.flatMap mT.enc)]
@[simp] def qd.enc(m:qd):List D:=[.str m.name,.ch m.mE.length (m.mE.flatMap mB)]
def iR(n lo hi:Int):Bool:=decide (lo≤n) && decide (n≤hi)
theorem gZ{n lo hi:Int}:iR n lo hi=true↔lo≤n∧n≤hi:=by simp[iR]
def iO.size(f:iO):Int:=f.x*f.y*f.z
def iO.valid(f:iO):Bool:=iR f.x 1 8 && (iR f.y 1 8 && (iR f.z 1 8 && (decide (f.size≤64) && iR f.k 1 6)))
theorem iO.kQ{f:iO}:f.valid=true↔(1≤f.x∧f.x≤8)∧(1≤f.y∧f.y≤8)∧(1≤f.z∧f.z≤8)∧f.size≤64∧(1≤f.k∧f.k≤6):=by
 simp[iO.valid,iR,and_assoc]
def letter(c:UInt8):Bool:=decide (97≤c.toNat) && decide (c.toNat≤122)
def digit(c:UInt8):Bool:=decide (48≤c.toNat) && decide (c.toNat≤57)
def jH(i:Nat):List UInt8→Bool
 |[]=>true
 |c::l=>(letter c || (decide (i≠0) && digit c)) && jH (i+1) l
def named(s:List UInt8):Bool:=jH 0 s && iR s.length 1 16
def iO.model(f:iO)(m:qd):Int:=if named m.name then(if(m.mE.length:Int)=f.k*f.size∧ph m.mE (fun n=>iR n (-100000) 100000)=true then 0 else 1)else 5
def iO.each(f:iO)(met:List (List UInt8)):List qd→Int
 |[]=>0
 |m::l=>if f.model m=0 then(if met.contains m.name then 6 else f.each (met++[m.name]) l)else f.model m
def iO.NG(f:iO)(l:List qd):Int:=if iR l.length 1 40 then f.each [] l else 3
def Rw.alone(r:Rw):Bool:=iR r.t 0 400 && (iR r.p 1 10000 && (iR r.l 0 4000 && (iR r.s 0 2000 && (decide (r.l<r.v) && decide (r.v≤4000)))))
def Rw.LG(o r:Rw):Bool := !(decide (r.t≤o.t) || (decide (r.p≤o.p) || (decide (r.l≤o.l) || decide (r.s<o.s))))
def yI:List Rw→Bool
 |o::r::l=>o.LG r && yI (r::l)
 |_=>true
def Mk(t:List Rw):Bool:=iR t.length 2 20 && (ph t Rw.alone && yI t)
def mT.ok(size:Int)(used:List Int)(w:mT):Bool:=iR w.b 0 (size-1) && (!used.contains w.b && (iR w.h 0 3000 && iR w.m 0 1000000))
def vI(size:Int)(used:List Int):List mT→Bool
 |[]=>true
 |w::l=>w.ok size used && vI size (used++[w.b]) l
def mG.size(b:mG):Int:=b.f.size
def mG.OC(b:mG):Bool:=b.f.valid && (decide (4≤b.f.k) && (Mk b.HX && (iR b.yU 1 100000 && (iR b.lift 0 1000 && (iR b.deep 0 3000 && decide (b.rS.length≤8))))))
def mG.valid(b:mG):Bool:=b.OC && vI b.size [] b.rS
def mG.n(b:mG):Nat:=b.size.toNat
def sh(b:mG)(m:qd)(k:Nat)(i:Nat):Int:=(m.mE[k*b.n+i]?).getD 0
def hold(b:mG)(m:qd)(i:Nat):Int:=sh b m 0 i
def Of(b:mG)(m:qd)(i:Nat):Int:=sh b m 1 i
def NU(b:mG)(m:qd)(i:Nat):Int:=sh b m 2 i
def feed(b:mG)(m:qd)(i:Nat):Int:=sh b m 3 i
def vh(b:mG)(m:qd):List b8:=(List.range b.n).map fun i=>⟨hold b m i,hold b m i*NU b m i,0⟩
def b8.valid(x:b8):Bool:=iR x.m 1 1000000 && (iR x.h 0 10000000000 && iR x.k 0 1000000000000)
def Ak(b:mG)(s:List b8):Bool:=decide ((s.length:Int)=b.size) && ph s b8.valid
def weight(b:mG)(i:Nat):Int:=((i / (b.f.x.toNat*b.f.y.toNat):Nat):Int)*b.lift
def down(n d:Int):Int:=n / d
def po(s:List b8)(i:Nat):b8:=(s[i]?).getD ⟨0,0,0⟩
def wk(x:b8)(out:Int)(r:Rw):Int:=if r.l*x.m≤x.h then max out r.p else out
def yF(b:mG)(m:qd)(s:List b8)(i:Nat):Int :=
 b.HX.foldl (wk (po s i)) (max 0 (weight b i+down (b.yU*((po s i).m-hold b m i)) (hold b m i)))
def wo(b:mG)(m:qd)(s:List b8):List Int:=(List.range s.length).map (yF b m s)
def zS(b:mG)(i:Nat):List (Nat×Nat) :=
 (if(i+1)%b.f.x.toNat≠0 then [(i,i+1)]else [])++((if i / b.f.x.toNat%b.f.y.toNat≠b.f.y.toNat-1 then [(i,i+b.f.x.toNat)]else [])++(if i+b.f.x.toNat*b.f.y.toNat<b.n then [(i,i+b.f.x.toNat*b.f.y.toNat)]else []))
def Lr(b:mG):List (Nat×Nat):=(List.range b.n).flatMap (zS b)
def b8.out(x:b8)(m:Int):b8:=⟨m,(x.h*m).tdiv x.m,(x.k*m).tdiv x.m⟩
def b8.move(x o:b8)(sign:Int):b8:=⟨x.m+sign*o.m,x.h+sign*o.h,x.k+sign*o.k⟩
def Gc(b:mG)(m:qd)(s:List b8)(p:List Int)(l:Nat×Nat):Option ((Nat×Nat)×b8) :=
 let d:=(p[l.1]?).getD 0-weight b l.1-(p[l.2]?).getD 0+weight b l.2
 let l':=if d<0 then(l.2,l.1)else l
 let d':=if d<0 then -d else d
 let q:=min ((min (Of b m l'.1) (Of b m l'.2)*d').tdiv 1000) ((po s l'.1).m.tdiv 8)
 if 0<q then some (l',(po s l'.1).out q)else none
def NJ(es:List ((Nat×Nat)×b8))(k:Nat×Nat)(o:b8):List ((Nat×Nat)×b8) :=
 match es.findIdx? (fun e=>e.1 == k)with
 |some j=>es.set j (k,o)
 |none=>es++[(k,o)]
def xZ(b:mG)(m:qd)(s:List b8)(p:List Int)(es:List ((Nat×Nat)×b8))(l:Nat×Nat):List ((Nat×Nat)×b8) :=
 match Gc b m s p l with
 |some e=>NJ es e.1 e.2
 |none=>es
def Lh(b:mG)(m:qd)(s:List b8):List ((Nat×Nat)×b8):=(Lr b).foldl (xZ b m s (wo b m s)) []
def pO(s:List b8)(i:Nat)(o:b8)(sign:Int):List b8:=s.set i ((po s i).move o sign)
def xY(s:List b8)(e:(Nat×Nat)×b8):List b8:=pO (pO s e.1.1 e.2 (-1)) e.1.2 e.2 1
def mT.given(w:mT)(rate:Int):b8:=⟨-rate,-rate*w.h,-rate*w.m⟩
def rR(s:List b8)(w:mT)(rate:Int):b8:=if rate<0 then⟨0,0,0⟩else(po s w.b.toNat).out (min rate ((po s w.b.toNat).m.tdiv 8))
def za(s next:List b8)(w:mT)(rate:Int):List b8:=if rate<0 then pO next w.b.toNat (w.given rate) 1 else pO next w.b.toNat (rR s w rate) (-1)
def Ov(b:mG)(m:qd)(i:Nat):b8:=⟨feed b m i,feed b m i*b.deep,0⟩
def yD(b:mG)(m:qd)(s:List b8)(rates:List Int):List b8 :=
 let s1:=(Lh b m s).foldl xY s
 let s2:=(b.rS.zip rates).foldl (fun n wr=>za s n wr.1 wr.2) s1
 (List.range s.length).foldl (fun n i=>pO n i (Ov b m i) 1) s2
def zb(b:mG)(s:List b8)(rates:List Int):List b8:=(b.rS.zip rates).map fun wr=>rR s wr.1 wr.2
def tick(b:mG)(m:qd)(s:List b8)(rates:List Int):Option (List b8×List b8) :=
 if Ak b (yD b m s rates)then some (yD b m s rates,zb b s rates)else none
def vB(b:mG)(m:qd):List (List b8)→List (List b8)→List b8→List (List Int)→Option (List (List b8)×List (List b8))
 |ss,ys,_,[]=>some (ss,ys)
 |ss,ys,s,r::plan =>
  match tick b m s r with
  |some (s',y)=>vB b m (ss++[s']) (ys++[y]) s' plan
  |none=>none
def run(b:mG)(m:qd)(plan:List (List Int)):Option (List (List b8)×List (List b8)):=vB b m [vh b m] [] (vh b m) plan
end Go.Rock
namespace Go.Proofs.YtnlkaeapgmkbnaaDoor
open List(length_flatMap map_take)
open Go Go.Abs Go.Rock
variable {σ:SK}
theorem Er{a b A B:Int}(h1:1≤a)(h2:a≤A)(h3:1≤b)(h4:b≤B):1≤a*b∧a*b≤A*B :=
 ⟨by have:=Int.mul_pos (a:=a) (b:=b) (by omega) (by omega);omega,lO h2 h4 (by omega) (by omega)⟩
theorem oz{a b A B:Int}(h1:0≤a)(h2:a≤A)(h3:0≤b)(h4:b≤B):0≤a*b∧a*b≤A*B :=
 ⟨jI h1 h3,lO h2 h4 h3 (by omega)⟩
theorem iO.sz{f:iO}(hx:1≤f.x∧f.x≤8)(hy:1≤f.y∧f.y≤8)(hz:1≤f.z∧f.z≤8):(1≤f.x*f.y∧f.x*f.y≤64)∧(1≤f.x*f.y*f.z∧f.x*f.y*f.z≤512):=by
 have h1:=Er hx.1 hx.2 hy.1 hy.2;have h2:=Er h1.1 h1.2 hz.1 hz.2;exact⟨by omega,by omega⟩
theorem eS{a b c:Int}:lim T (.call false bj [.int .i64 a,.int .i64 b,.int .i64 c] σ)=some (.val (.bool (iR a b c)) σ):=by
 refine aX pc iG.eq_1 rfl ?_;by_cases h:b≤a<;>simp[-length_flatMap,-map_take,h,iR]
theorem wL{f:iO}(hx:1≤f.x∧f.x≤8)(hy:1≤f.y∧f.y≤8)(hz:1≤f.z∧f.z≤8):lim T (.call false dr [.agg [.int .i64 f.x,.int .i64 f.y,.int .i64 f.z,.int .i64 f.k]] σ)=some (.val (.int .i64 f.size) σ):=by
 refine aX lQ eD.eq_1 rfl ?_;obtain⟨h1,h2⟩:=iO.sz hx hy hz;have w1:=fA (n:=f.x*f.y) (by omega);have w2:=fA (n:=f.x*f.y*f.z) (by omega);simp[-length_flatMap,-map_take,w1,w2,iO.size]
theorem sY{f:iO}:lim T (.call false cM [.agg [.int .i64 f.x,.int .i64 f.y,.int .i64 f.z,.int .i64 f.k]] σ)=some (.val (.bool f.valid) σ):=by
 refine aX mA eR.eq_1 rfl ?_;cases hc1:iR f.x 1 8
 ·simp[-length_flatMap,-map_take,eS,iO.valid,hc1]
 cases hc2:iR f.y 1 8
 ·simp[-length_flatMap,-map_take,eS,iO.valid,hc1,hc2]
 cases hc3:iR f.z 1 8
 ·simp[-length_flatMap,-map_take,eS,iO.valid,hc1,hc2,hc3]
 have hb:=fun σ=>wL (σ:=σ) (f:=f) (gZ.1 hc1) (gZ.1 hc2) (gZ.1 hc3)
 by_cases hc4:f.size≤64
 ·simp[-length_flatMap,-map_take,eS,iO.valid,hc1,hc2,hc3,hc4,hb]
 ·simp[-length_flatMap,-map_take,eS,iO.valid,hc1,hc2,hc3,hc4,hb]
theorem uZ{s:List UInt8}(hl:s.length≤1000000000):∀(m i:Nat),i+m=s.length →
  WL T [0,6,7] false gC [(0,.str s),(6,.int .i64 s.length),(7,.int .i64 i)] σ
   (fun x e σ'=>σ'=σ∧if jH i (s.drop i)then x=.exit 0∧get e 0=.str s else x=.ret∧get e 2=.bool false)
 |0,i,hi=>by
  refine aE gC.eq_1 ?_;have h1:¬i<s.length:=by omega
  have h2:s.drop i=[]:=iy (by omega);simp[-length_flatMap,-map_take,h1,h2,jH]
 |m+1,i,hi=>by
  refine aE gC.eq_1 ?_;have h1:i<s.length:=by omega
  obtain⟨c,hc⟩:=gE h1;have h4:=rT h1 (by omega);have h5:=zC hc;have ih:=uZ hl m (i+1) (by omega);rw[h5,jH];have hd:so .oN [.str s,.int .i64 (i:Int)]=some (.int .u8 c.toNat):=by simp[so,hc]
  by_cases hc1:97≤c.toNat
  ·by_cases hc2:c.toNat≤122
   ·have hlet:letter c=true:=by simp[letter,hc1,hc2]
    simp[-length_flatMap,-map_take,h1,h4,hd,hlet,show(97:Int)≤(c.toNat:Int)by omega,show(c.toNat:Int)≤122 by omega];exact WL.to ih (by simp) rfl fun x e σ' hh=>by simpa[hlet]using hh
   ·have hlet:letter c=false:=by simp[letter,hc2]
    have hdig:digit c=false:=by simp[digit];omega
    by_cases hi0:i=0
    ·subst hi0;have hd0:so .oN [.str s,.int .i64 0]=some (.int .u8 c.toNat):=by simpa using hd
     have h1':0<s.length:=h1;simp[-length_flatMap,-map_take,h1',h4,hd0,hlet,hdig,show(97:Int)≤(c.toNat:Int)by omega,show ¬(c.toNat:Int)≤122 by omega]
    ·simp[-length_flatMap,-map_take,h1,h4,hd,hlet,hdig,hi0,show(97:Int)≤(c.toNat:Int)by omega,show ¬(c.toNat:Int)≤122 by omega,show ¬(c.toNat:Int)<48 by omega,show(57:Int)<(c.toNat:Int)by omega,show(57:Nat)<c.toNat by omega,show ¬c.toNat<48 by omega]
  ·have hlet:letter c=false:=by simp[letter,hc1]
   by_cases hi0:i=0
   ·subst hi0;have hd0:so .oN [.str s,.int .i64 0]=some (.int .u8 c.toNat):=by simpa using hd
    have h1':0<s.length:=h1;simp[-length_flatMap,-map_take,h1',h4,hd0,hlet,show ¬(97:Int)≤(c.toNat:Int)by omega]
   ·by_cases hc3:c.toNat<48
    ·have hdig:digit c=false:=by simp[digit];omega
     simp[-length_flatMap,-map_take,h1,h4,hd,hlet,hdig,hi0,show ¬(97:Int)≤(c.toNat:Int)by omega,show(c.toNat:Int)<48 by omega,hc3]
    ·by_cases hc4:57<c.toNat
     ·have hdig:digit c=false:=by simp[digit];omega
      simp[-length_flatMap,-map_take,h1,h4,hd,hlet,hdig,hi0,show ¬(97:Int)≤(c.toNat:Int)by omega,show ¬(c.toNat:Int)<48 by omega,show(57:Int)<(c.toNat:Int)by omega,hc3,hc4]
     ·have hdig:digit c=true:=by simp[digit];omega
      simp[-length_flatMap,-map_take,h1,h4,hd,hlet,hdig,hi0,show ¬(97:Int)≤(c.toNat:Int)by omega,show ¬(c.toNat:Int)<48 by omega,show ¬(57:Int)<(c.toNat:Int)by omega,hc3,hc4];exact WL.to ih (by simp) rfl fun x e σ' hh=>by simpa[hlet,hdig,hi0]using hh
theorem zl{s:List UInt8}(hl:s.length≤1000000000):lim T (.call false gP [.str s] σ)=some (.val (.bool (named s)) σ):=by
 refine aX qD jf.eq_1 rfl ?_;have hp:so .uO [.str s]=some (.int .i64 s.length):=rfl;simp[-length_flatMap,-map_take,hp];refine WL.to (uZ (σ:=[]::σ) hl s.length 0 (by omega)) (by simp) rfl ?_;rintro x e σ' ⟨rfl,h⟩;simp only[ga]at h;unfold named;cases hc:jH 0 s
 ·simp[hc]at h;simp[h]
 ·simp[hc]at h;simp[-length_flatMap,-map_take,h,hp,eS]
theorem vM{l:List Int}{p:Int→Bool}{fv:D}(hl:l.length≤1000000000)(ht:lD T fv (fun n => .int .i64 n) p l)(hc:fv.cells=some [fv]):
  lim T (.call false fy [.ch l.length (l.flatMap mB),fv] σ)=some (.val (.bool (ph l p)) σ) :=
 wV (Ff .i64) (f:=fy) (g:=fV) (h:=cY) (i:=dM) (l:=l) (p:=p) (fv:=fv) rfl rfl rfl rfl (by omega) ht hc
theorem sW{a b c:Int}:lim T (.call false gl [.int .i64 a,.int .i64 b,.int .i64 c] σ)=some (.val (.bool (iR a b c)) σ):=by
 refine aX uh la.eq_1 rfl ?_;by_cases h:b≤a<;>simp[-length_flatMap,-map_take,h,iR]
theorem wJ{f:iO}:lim T (.call false gQ [.agg [.int .i64 f.x,.int .i64 f.y,.int .i64 f.z,.int .i64 f.k]] σ)=some (.val (.bool f.valid) σ):=by
 refine aX qH jh.eq_1 rfl ?_;cases hc1:iR f.x 1 8
 ·simp[-length_flatMap,-map_take,sW,iO.valid,hc1]
 cases hc2:iR f.y 1 8
 ·simp[-length_flatMap,-map_take,sW,iO.valid,hc1,hc2]
 cases hc3:iR f.z 1 8
 ·simp[-length_flatMap,-map_take,sW,iO.valid,hc1,hc2,hc3]
 obtain⟨h1,h2⟩:=iO.sz (gZ.1 hc1) (gZ.1 hc2) (gZ.1 hc3);have w1:=fA (n:=f.x*f.y) (by omega);have w2:=fA (n:=f.x*f.y*f.z) (by omega);by_cases hc4:f.x*f.y*f.z≤64
 ·simp[-length_flatMap,-map_take,sW,iO.valid,iO.size,hc1,hc2,hc3,hc4,w1,w2]
 ·simp[-length_flatMap,-map_take,sW,iO.valid,iO.size,hc1,hc2,hc3,hc4,w1,w2]
theorem sX{f:iO}:lim T (.call false fB [.agg [.int .i64 f.x,.int .i64 f.y,.int .i64 f.z,.int .i64 f.k]] σ)=some (.val (.agg [.int .i64 f.x,.int .i64 f.y,.int .i64 f.z,.int .i64 f.k]) σ):=by
 refine aX qG jg.eq_1 rfl ?_;simp[-length_flatMap,-map_take]
theorem yz{T:lN}{kp:Bool}{f k:Nat}{args:List D}{σ:SK}{r:R}(hT:T f=none)(hN:T (1000000+f)=some ⟨k,[],.exit 0⟩)(h:yw k args σ=some r):lim T (.call kp f args σ)=some r :=
 eM (by simp[bK,hT,hN,h])
theorem EH{n:Int}(h : -9223372036854775808≤n∧n≤9223372036854775807):lim T (.call false cJ [.int .i64 n] σ)=some (.val (.str (pJ n)) σ) :=
 yz pf o4 (by simp[yw,h])
def j2(f:iO)(x y z:Int):Bool:=iR x 0 (f.x-1) && (iR y 0 (f.y-1) && iR z 0 (f.z-1))
def zZ(f:iO)(x y z:Int):Int:=(z*f.y+y)*f.x+x
theorem Ar{f:iO}{x y z:Int}(hf:f.valid=true):lim T (.call false dE [.agg [.int .i64 f.x,.int .i64 f.y,.int .i64 f.z,.int .i64 f.k],.int .i64 x,.int .i64 y,.int .i64 z] σ)=some (.val (.bool (j2 f x y z)) σ):=by
 refine aX na fS.eq_1 rfl ?_;obtain⟨h1,h2,h3,_⟩:=iO.kQ.1 hf;have w1:=fA (n:=f.x-1) (by omega);have w2:=fA (n:=f.y-1) (by omega);have w3:=fA (n:=f.z-1) (by omega);cases hc1:iR x 0 (f.x-1)
 ·simp[-length_flatMap,-map_take,eS,j2,hc1,w1,w2,w3]
 cases hc2:iR y 0 (f.y-1)
 ·simp[-length_flatMap,-map_take,eS,j2,hc1,hc2,w1,w2,w3]
 simp[-length_flatMap,-map_take,eS,j2,hc1,hc2,w1,w2,w3]
theorem sZ{f:iO}{x y z:Int}(hf:f.valid=true)(hh:j2 f x y z=true):lim T (.call false cF [.agg [.int .i64 f.x,.int .i64 f.y,.int .i64 f.z,.int .i64 f.k],.int .i64 x,.int .i64 y,.int .i64 z] σ)=some (.val (.int .i64 (zZ f x y z)) σ):=by
 refine aX lR eE.eq_1 rfl ?_;obtain⟨h1,h2,h3,_⟩:=iO.kQ.1 hf;simp only[j2,ah,gZ]at hh;obtain⟨⟨x1,x2⟩,⟨y1,y2⟩,z1,z2⟩:=hh;have m1:=oz (a:=z) (b:=f.y) (A:=8) (B:=8) z1 (by omega) (by omega) (by omega);have m2:=oz (a:=z*f.y+y) (b:=f.x) (A:=72) (B:=8) (by omega) (by omega) (by omega) (by omega);have w1:=fA (n:=z*f.y) (by omega);have w2:=fA (n:=z*f.y+y) (by omega);have w3:=fA (n:=(z*f.y+y)*f.x) (by omega);have w4:=fA (n:=(z*f.y+y)*f.x+x) (by omega);simp[-length_flatMap,-map_take,zZ,w1,w2,w3,w4]
theorem wK{f:iO}{x y z:Int}(hf:f.valid=true):lim T (.call false gk [.agg [.int .i64 f.x,.int .i64 f.y,.int .i64 f.z,.int .i64 f.k],.int .i64 x,.int .i64 y,.int .i64 z] σ) =
  some (.val (.er [.int .i64 (if j2 f x y z then zZ f x y z else 0),.int .i64 (if j2 f x y z then 0 else 2)]) σ):=by
 refine aX pa iF.eq_1 rfl ?_;have h1:=fun S=>sY (σ:=S) (f:=f)
 have h2:=fun S=>Ar (σ:=S) (x:=x) (y:=y) (z:=z) hf
 rw[hf]at h1;cases hc:j2 f x y z
 ·rw[hc]at h2;simp[-length_flatMap,-map_take,h1,h2]
 ·have h3:=fun S=>sZ (σ:=S) hf hc
  rw[hc]at h2;simp[-length_flatMap,-map_take,h1,h2,h3]
theorem jD{a b c:Int}:lim T (.call false dR [.int .i64 a,.int .i64 b,.int .i64 c] σ)=some (.val (.bool (iR a b c)) σ):=by
 refine aX qB je.eq_1 rfl ?_;by_cases h:b≤a<;>simp[-length_flatMap,-map_take,h,iR]
theorem oZ{x y z:Int}:lim T (.call false bu [.agg [.int .i64 x,.int .i64 y,.int .i64 z]] σ)=some (.val (.agg [.int .i64 x,.int .i64 y,.int .i64 z]) σ):=by
 refine aX mV fN.eq_1 rfl ?_;simp[-length_flatMap,-map_take]
theorem kS{a b c d:Int}(h1 : -9223372036854775808≤a-c∧a-c≤9223372036854775807)(h2 : -9223372036854775808≤b-d∧b-d≤9223372036854775807):
  lim T (.call false cf [.agg [.int .i64 a,.int .i64 b],.agg [.int .i64 c,.int .i64 d]] σ)=some (.val (.agg [.int .i64 (a-c),.int .i64 (b-d)]) σ):=by
 refine aX mY fQ.eq_1 rfl ?_;simp[-length_flatMap,-map_take,fA h1,fA h2]
theorem EO{a b c d:Int}(h1 : -9223372036854775808≤a+c∧a+c≤9223372036854775807)(h2 : -9223372036854775808≤b+d∧b+d≤9223372036854775807):
  lim T (.call false dV [.agg [.int .i64 a,.int .i64 b],.agg [.int .i64 c,.int .i64 d]] σ)=some (.val (.agg [.int .i64 (a+c),.int .i64 (b+d)]) σ):=by
 refine aX nN gA.eq_1 rfl ?_;simp[-length_flatMap,-map_take,fA h1,fA h2]
theorem wM{n d q:Int}(hd:0<d)(hd2:d≤1000000)(h1:q*d≤n)(h2:n<(q+1)*d)(hn : -1000000≤n∧n≤1000000):lim T (.call false ij [.int .i64 n,.int .i64 d] σ)=some (.val (.int .i64 q) σ):=by
 refine aX td j8.eq_1 rfl ?_;have e0:¬d=0:=by omega
 have e1:(q+1)*d=q*d+d:=by rw[Int.add_mul,Int.one_mul]
 have hq:n / d=q:=Int.ediv_eq_iff_of_pos hd |>.2 ⟨by omega,by omega⟩
 have hs:d.sign=1:=Int.sign_eq_one_of_pos hd;have ht:=Int.tdiv_eq_ediv (a:=n) (b:=d);rw[hq,hs]at ht;have hqb : -2000001≤q∧q≤2000001:=by
  by_cases h0:0≤q
  ·have hm:=Int.mul_le_mul_of_nonneg_left (show 1≤d by omega) h0;omega
  ·have hm:=Int.mul_le_mul_of_nonneg_left (show 1≤d by omega) (show 0 ≤ -q by omega);rw[Int.neg_mul,Int.neg_mul]at hm;omega
 have w1:=fA (n:=q*d) (by omega);have w2:=fA (n:=(q+1)*d) (by omega);have w3:=fA (n:=q+1-1) (by omega);have w4:=fA (n:=q) (by omega);have w5:=fA (n:=q+1) (by omega);by_cases hc:0≤n∨d∣n
 ·rw[if_pos hc,Int.add_zero]at ht;have h3:¬n<q*d:=by omega
  simp[-length_flatMap,-map_take,e0,ht,w1,w4,h3]
 ·rw[if_neg hc]at ht;have h3:n<(q+1)*d:=by omega
  simp[-length_flatMap,-map_take,e0,ht,w2,w5,h3,w4]
theorem EX{x y z m:Int}(hm:0≤m∧m≤1000000)(hx:iR x (-m) m=true)(hy:iR y (-m) m=true)(hz:iR z (-m) m=true):
  WL T [1,8,9] false cA [(1,.int .i64 m),(8,.agg [.int .i64 x,.int .i64 y,.int .i64 z]),(9,.int .i64 0)] σ (fun x e σ'=>σ'=σ∧x=.exit 0):=by
 have w1:=fA (n := -m) (by omega);refine aE cA.eq_1 ?_;simp[-length_flatMap,-map_take,jD,w1,hx];refine aE cA.eq_1 ?_;simp[-length_flatMap,-map_take,jD,w1,hy];refine aE cA.eq_1 ?_;simp[-length_flatMap,-map_take,jD,w1,hz];refine aE cA.eq_1 ?_;simp[-length_flatMap,-map_take]
theorem wP{x y z m:Int}(hm:0≤m∧m≤1000000)(hx:iR x (-m) m=true)(hy:iR y (-m) m=true)(hz:iR z (-m) m=true):
  lim T (.call false dC [.agg [.int .i64 x,.int .i64 y,.int .i64 z],.int .i64 m] σ)=some (.val (.bool true) σ):=by
 refine aX mW fO.eq_1 rfl ?_;simp[-length_flatMap,-map_take,oZ];refine WL.to (EX hm hx hy hz) (by simp) rfl ?_;rintro x e σ' ⟨rfl,rfl⟩;simp[-length_flatMap,-map_take]
end Go.Proofs.YtnlkaeapgmkbnaaDoor
namespace Go.Abs
open List(length_flatMap map_take)
open Go
variable {T:lN}
section
variable {α:Type} (E:Hq α) {fv:D} {l:List α} {q:Nat→Bool} {S:Nat→SK}
end
variable {T:lN}
section
variable {α:Type} {w:Nat} {enc:α→List D} (hw:∀x,(enc x).length=w) {p:α→Bool} {fv:D} {l:List α} {lv bi v:Nat} {F:List b8}
include hw in
end
end Go.Abs
namespace Go.Proofs.YtnlkaeapgmkbnaaDoor
open List(length_flatMap map_take)
open Go Go.Abs Go.Rock
variable {σ:SK}
@[simp] def iu(p:Nat×Nat):List D:=[.int .i64 0,.int .i64 0,.int .i64 p.1,.int .i64 p.2]
def nA(p:Nat×Nat):Prop:=(1≤p.1∧p.1≤1000)∧p.2≤20
def Fg:Hq (Nat×Nat):=⟨true,4,iu,fun p => .agg (iu p),fun _=>rfl,fun _=>by simp,fun _=>rfl,fun _=>rfl,fun _=>rfl⟩
theorem nv{a b c:Int}(h1:b≤a)(h2:a≤c):iR a b c=true:=gZ.2 ⟨h1,h2⟩
theorem H5{p:Nat×Nat}(h:nA p):lim T (.call false de [.agg (iu p)] σ)=some (.val (.bool true) σ):=by
 refine aX nM gz.eq_1 rfl ?_;obtain⟨⟨h1,h2⟩,h3⟩:=h;have hS:=fun S=>wP (σ:=S) (x:=0) (y:=0) (z:=p.1) (m:=1000) (by omega) (nv (by omega) (by omega)) (nv (by omega) (by omega)) (nv (by omega) (by omega))
 have hW:iR (p.2:Int) 0 20=true:=nv (by omega) (by omega);have h0:((p.1:Int) == 0)=false:=by simp;omega
 have h0':¬p.1=0:=by omega
 simp[-length_flatMap,-map_take,hS,jD,hW,h0,h0']
theorem EM{l:List (Nat×Nat)}(hl:l.length≤30)(h:∀p∈l,nA p):lim T (.call false dI [.ch l.length (l.flatMap iu),.fn de [] []] σ)=some (.val (.bool true) σ):=by
 have h1:=wV (E:=Fg) (T:=T) (p:=fun _=>true) (l:=l) (f:=dI) (fv:=.fn de [] []) rfl rfl rfl rfl (by omega) (lD.fn fun x hx σ=>H5 (h x hx)) rfl (σ:=σ);have h2:ph l (fun _=>true)=true:=by unfold ph;exact b6.2 fun _ _=>rfl
 rw[h2]at h1;exact h1
theorem s9{x y:Nat}{l:List (Nat×Nat)}(hx:x≤20000)(hy:y≤20000)(h1:1≤l.length)(hl:l.length≤30)(h:∀p∈l,nA p):
  lim T (.call false dD [.agg [.int .i64 x,.int .i64 y,.int .i64 0,.ch l.length (l.flatMap iu)]] σ)=some (.val (.bool true) σ):=by
 refine aX mX fP.eq_1 rfl ?_;have hS:=fun S=>wP (σ:=S) (x:=x) (y:=y) (z:=0) (m:=20000) (by omega) (nv (by omega) (by omega)) (nv (by omega) (by omega)) (nv (by omega) (by omega))
 have hW:iR (l.length:Int) 1 30=true:=nv (by omega) (by omega);have hA:=fun S=>EM (σ:=S) hl h
 simp[-length_flatMap,-map_take,hS,jD,hW,hA]
theorem Mi{q:Nat}(h:q≤2000):IntKind.i64.wrap ((q:Int)*q)=(q:Int)*q:=by
 have hm:q*q≤2000*2000:=Nat.mul_le_mul h h;have h1:((q*q:Nat):Int)=(q:Int)*q:=by simp
 exact fA (by omega)
theorem MY{z:Nat}(hz:z≤1000):WL T [3,11,12] false cz [(3,.int .i64 0),(11,.agg [.int .i64 0,.int .i64 0,.int .i64 z]),(12,.int .i64 0)] σ
  (fun x e σ'=>σ'=σ∧x=.exit 0∧get e 3=.int .i64 ((z:Int)*z)):=by
 have w1:=Mi (q:=z) (by omega);refine aE cz.eq_1 ?_;simp[-length_flatMap,-map_take];refine aE cz.eq_1 ?_;simp[-length_flatMap,-map_take];refine aE cz.eq_1 ?_;simp[-length_flatMap,-map_take,w1];refine aE cz.eq_1 ?_;simp[-length_flatMap,-map_take]
set_option maxHeartbeats 4000000 in
theorem EW{z:Nat}(hz:z≤1000):∀(m low high:Nat),high-low≤m→low≤z→z≤high→high≤2000 →
  WL T [3,6,7] false eg [(3,.int .i64 ((z:Int)*z)),(6,.int .i64 low),(7,.int .i64 high)] σ
   (fun x e σ'=>σ'=σ∧x=.exit 2∧get e 6=.int .i64 z):=by
 intro m;induction m with
 |zero =>
  intro low high hm h1 h2 h3;refine aE eg.eq_1 ?_;have e1:¬low<high:=by omega
  have e2:low=z:=by omega
  have e3:high=z:=by omega
  subst e2 e3;simp[-length_flatMap,-map_take]
 |succ m ih =>
  intro low high hm h1 h2 h3;refine aE eg.eq_1 ?_;by_cases c1:low<high
  ·obtain⟨q,hq⟩:∃q,q=(low+high+1) / 2:=⟨_,rfl⟩;have w1:IntKind.i64.wrap ((low:Int)+high)=low+high:=fA (by omega);have w2:IntKind.i64.wrap ((low:Int)+high+1)=low+high+1:=fA (by omega);have w3:((low:Int)+high+1).tdiv 2=q:=by rw[jJ (by omega)];omega
   have w4:IntKind.i64.wrap (q:Int)=q:=fA (by omega);have w5:=Mi (q:=q) (by omega);have w6:IntKind.i64.wrap ((q:Int)-1)=((q-1:Nat):Int):=(fA (by omega)).trans (by omega);by_cases c2:q≤z
   ·have c3:q*q≤z*z:=Nat.mul_le_mul c2 c2;have c3':(q:Int)*q≤(z:Int)*z:=by exact_mod_cast c3
    have i1:=ih q high (by omega) c2 h2 h3;simp[-length_flatMap,-map_take,c1,w1,w2,w3,w4,w5,w6,c3'];exact WL.to i1 (by simp) rfl fun x e σ' hh=>hh
   ·have c3:¬q*q≤z*z:=by intro h;exact c2 (Nat.mul_self_le_mul_self_iff.1 h)
    have c3':¬(q:Int)*q≤(z:Int)*z:=by exact_mod_cast c3
    have i1:=ih low (q-1) (by omega) h1 (by omega) (by omega);simp[-length_flatMap,-map_take,c1,w1,w2,w3,w4,w5,w6,c3'];exact WL.to i1 (by simp) rfl fun x e σ' hh=>hh
  ·have e2:low=z:=by omega
   have e3:high=z:=by omega
   subst e2 e3;simp[-length_flatMap,-map_take]
theorem wN{p:Nat×Nat}(h:nA p):lim T (.call false eJ [.agg (iu p)] σ)=some (.val (.int .i64 p.1) σ):=by
 refine aX mU fM.eq_1 rfl ?_;obtain⟨⟨h1,h2⟩,h3⟩:=h;simp[-length_flatMap,-map_take,oZ];refine WL.to (MY h2) (by simp) rfl ?_;rintro x e σ' ⟨rfl,rfl,g3⟩;simp[-length_flatMap,-map_take,g3];refine WL.to (EW h2 2000 0 2000 (by omega) (by omega) (by omega) (by omega)) (by simp) rfl ?_;rintro x e σ' ⟨rfl,rfl,g6⟩;simp[-length_flatMap,-map_take,g6]
def jE:Nat×Nat→List (Nat×Nat)→List (Nat×Nat)
 |p,[]=>[p]
 |p,q::l=>p::jE (p.1+q.1,p.2+q.2) l
@[simp] def j5(x y:Nat)(p:Nat×Nat):List D:=[.int .i64 x,.int .i64 y,.int .i64 p.1,.int .i64 p.2,.int .i64 p.1]
theorem oP:∀{l:List (Nat×Nat)} {p:Nat×Nat},(jE p l).length=l.length+1
 |[],p=>rfl
 |q::l,p=>by simp[jE,oP (l:=l)]
theorem ti:∀{l:List (Nat×Nat)} {p:Nat×Nat} {i:Nat} {q:Nat×Nat},l[i]?=some q→∃s,(jE p l)[i]?=some s∧jE p (l.take (i+1))=jE p (l.take i)++[(s.1+q.1,s.2+q.2)]∧(jE p (l.take i))[i]?=some s
 |[],p,i,q,h=>by simp at h
 |x::l,p,0,q,h=>by
  simp at h;subst h;exact⟨p,rfl,by simp[jE],by simp[jE]⟩
 |x::l,p,i+1,q,h=>by
  obtain⟨s,h1,h2,h3⟩:=ti (l:=l) (p:=(p.1+x.1,p.2+x.2)) (i:=i) (q:=q) (by simpa using h);exact⟨s,by simpa[jE]using h1,by simp only[List.take_succ_cons,jE,aY];rw[← h2],by simpa[jE]using h3⟩
theorem vc:∀{l:List (Nat×Nat)} {p s:Nat×Nat},(∀q∈l,nA q)→s∈jE p l→s.1≤p.1+1000*l.length∧s.2≤p.2+20*l.length
 |[],p,s,h,hs=>by simp[jE]at hs;subst hs;simp
 |q::l,p,s,h,hs=>by
  simp only[jE,aJ]at hs;rcases hs with rfl | hs
  ·simp
  ·have h1:=vc (l:=l) (fun x hx=>h x (by simp[hx])) hs;obtain⟨⟨a,b⟩,c⟩:=h q (by simp);simp only[aZ]at h1 ⊢;omega
def wH(x y:Nat)(l:List (Nat×Nat)):D:=.agg [.int .i64 x,.int .i64 y,.int .i64 0,.ch l.length (l.flatMap iu),.ch (l.length+1) ((jE (0,0) l).flatMap (j5 x y))]
theorem iV(l:List (Nat×Nat)):D.bp (l.flatMap iu)=true:=oW (fun _=>by simp[D.clean]) l
theorem kA{x y:Nat}(l:List (Nat×Nat)):D.bp (l.flatMap (j5 x y))=true:=oW (fun _=>by simp[D.clean]) l
theorem sf{α:Type}{f:α→List D}{w n:Nat}(hn:1<n)(hw:∀x,(f x).length=w)(hc:∀x,D.bp (f x)=true){l:List α}{j v:Nat}{bs:List Abs.b8}(hσ:σ≠[])(hj:bs[j]?=some (.cells v (l.flatMap f))):
  bB (σ.length-1) n (.sl σ.length j v 0 l.length w) (bs::σ)=(.ch l.length (l.flatMap f),bs.set j .dead::σ):=by
 have h3:¬σ.length≤σ.length-1:=by have:=my.2 hσ;omega
 rw[x9 h3 (cs:=l.flatMap f) (by simp[hj]) (by omega)];have h4:0<n-1:=by omega
 simp[Gl hw l,oW hc l,h4]
set_option maxHeartbeats 4000000 in
theorem rf{x y:Nat}{l:List (Nat×Nat)}(hx:x≤20000)(hy:y≤20000)(hl:l.length≤30)(h:∀p∈l,nA p){d2:List D}:∀(m i:Nat),i+m=l.length →
  WL T [2,3,14,15,16] false dK
  [(2,.own 0 d2),(3,.own 0 [.int .i64 x,.int .i64 y,.int .i64 0,.ch l.length (l.flatMap iu),.sl σ.length 0 i 0 (i+1) 5]),
   (14,.ch l.length (l.flatMap iu)),(15,.int .i64 l.length),(16,.int .i64 i)]
  ([.cells i ((jE (0,0) (l.take i)).flatMap (j5 x y))]::σ)
  (fun x' e σ'=>x'=.exit 0∧(∃s,get e 2=.own s d2)∧(∃s,get e 3=.own s [.int .i64 x,.int .i64 y,.int .i64 0,.ch l.length (l.flatMap iu),.sl σ.length 0 l.length 0 (l.length+1) 5]) ∧
   σ'=[.cells l.length ((jE (0,0) l).flatMap (j5 x y))]::σ)
 |0,i,hi=>by
  refine aE dK.eq_1 ?_;obtain rfl:i=l.length:=by omega
  simp[-length_flatMap,-map_take]
 |m+1,i,hi=>by
  refine aE dK.eq_1 ?_;have h1:i<l.length:=by omega
  obtain⟨q,hq⟩:=gE h1;have hqm:=h q (av hq);have a1:=gY (f:=iu) (w:=4) (fun _=>rfl) hq;simp only[iu]at a1;have a2:=eI (f:=iu) (w:=4) (fun _=>rfl) l;have a3:4≤(l.flatMap iu).length-i*4:=by omega
  obtain⟨s,s1,s2,s3⟩:=ti (p:=(0,0)) hq;have b0:=oP (l:=l.take i) (p:=(0,0));have b0':(jE (0,0) (l.take i)).length=i+1:=by rw[b0];simp;omega
  have b1:=gY (f:=j5 x y) (w:=5) (fun _=>rfl) s3;simp only[j5]at b1;have b2:=eI (f:=j5 x y) (w:=5) (fun _=>rfl) (jE (0,0) (l.take i));have b3:5≤((jE (0,0) (l.take i)).flatMap (j5 x y)).length-i*5:=by omega
  have b4:((jE (0,0) (l.take i)).flatMap (j5 x y)).take ((i+1)*5)=(jE (0,0) (l.take i)).flatMap (j5 x y):=bh (by omega);have b5:(i+1)*5≤((jE (0,0) (l.take i)).flatMap (j5 x y)).length:=by omega
  have hsb:=vc h (av s1);have h4:=rT h1 (by omega);have hL:=fun S=>wN (σ:=S) hqm
  simp only[iu]at hL;obtain⟨⟨g1,g2⟩,g3⟩:=hqm;have w1:IntKind.i64.wrap ((s.1:Int)+q.1)=s.1+q.1:=fA (by omega);have w2:IntKind.i64.wrap ((s.2:Int)+q.2)=s.2+q.2:=fA (by omega);have w3:IntKind.i64.wrap (x:Int)=x:=fA (by omega);have w4:IntKind.i64.wrap (y:Int)=y:=fA (by omega);have hr:(i+1+1)*40≤room:=by unfold room;omega
  have ih:=rf hx hy hl h (d2:=d2) m (i+1) (by omega);rw[s2]at ih;have c0:(i:Int)<i+1:=by omega
  simp[-length_flatMap,-map_take,c0,h1,a1,a3,b1,b3,b4,b5,h4,hL,w1,w2,w3,w4,hr];exact WL.to ih (by simp) (by simp) fun x e σ' hh=>hh
theorem re{x y:Nat}{l:List (Nat×Nat)}(hx:x≤20000)(hy:y≤20000)(hl:l.length≤30)(h:∀p∈l,nA p)(hσ:σ≠[]):
  lim T (.call false cK [.agg [.int .i64 x,.int .i64 y,.int .i64 0,.ch l.length (l.flatMap iu)]] σ)=some (.val (wH x y l) σ):=by
 refine aX mz eQ.eq_1 rfl ?_;simp[-length_flatMap,-map_take,iV];refine WL.to (rf (σ:=σ) (d2:=[.int .i64 0,.int .i64 0,.int .i64 0,.cH,.cH]) hx hy hl h l.length 0 (by omega)) (by simp) (by simp[jE]) ?_;rintro x' e σ' ⟨rfl,⟨s2,g2⟩,⟨s3,g3⟩,rfl⟩;simp[-length_flatMap,-map_take,g2,g3];have hk:=sf (σ:=σ) (n:=15) (f:=j5 x y) (w:=5) (by omega) (fun _=>rfl) (fun _=>by simp[D.clean]) (l:=jE (0,0) l) (j:=0) (v:=l.length) (bs:=[.cells l.length ((jE (0,0) l).flatMap (j5 x y))]) hσ rfl;rw[oP]at hk;have hi:∀(k:Int) (S:SK),bB (σ.length-1) 15 (.int .i64 k) S=(.int .i64 k,S):=fun k S=>mh (by rfl) (by omega)
 refine⟨[.dead],?_⟩;rw[zG (by simp[D.clean,D.bp]) (by omega)];simp only[nY,pH,Nat.reduceSub,hi,mh (show(D.ch l.length (l.flatMap iu)).clean=true by simp[D.clean,iV]) (show 0<15 by omega),hk,wH,List.set_cons_zero]
def Lt(x y a b:Nat)(ax c d:Nat):Prop:=(ax=0∧c=x∧d=x)∨(ax=1∧c=y∧d=y)∨(ax=2∧c=a∧d=b)
set_option maxHeartbeats 4000000 in
theorem oO{x y:Nat}{l:List (Nat×Nat)}{i a b:Nat}{ax c d:Nat}(hx:x≤20000)(hy:y≤20000)(hl:l.length≤30)(hb:b≤100000)(ha:a≤100000)(h1:(jE (0,0) l)[i]?=some (a,0))(h2:(jE (0,0) l)[i+1]?=some (b,0))(hax:Lt x y a b ax c d):
  lim T (.call false cg [wH x y l,.int .i64 i,.int .i64 ax] σ)=some (.val (.er [.agg [.int .i64 c,.int .i64 ((d:Int)-c)],.agg [.int .i64 0,.int .i64 0]]) σ):=by
 refine aX lJ eh.eq_1 rfl ?_;have hlen:=oP (l:=l) (p:=(0,0));have i2:i+1<l.length+1:=by rw[← hlen];exact(ar.1 h2).1
 have b1:=gY (f:=j5 x y) (w:=5) (fun _=>rfl) h1;have b2:=gY (f:=j5 x y) (w:=5) (fun _=>rfl) h2;have b3:=eI (f:=j5 x y) (w:=5) (fun _=>rfl) (jE (0,0) l);rw[hlen]at b3;simp only[j5]at b1 b2;have c1:5≤((jE (0,0) l).flatMap (j5 x y)).length-i*5:=by omega
 have c2:5≤((jE (0,0) l).flatMap (j5 x y)).length-(i+1)*5:=by omega
 have c3:(i:Int)<l.length+1:=by omega
 have c4:(i:Int)+1<l.length+1:=by omega
 have c5:(0:Int)≤(i:Int)+1:=by omega
 have c6:((i:Int)+1).toNat=i+1:=by omega
 have w1:IntKind.i64.wrap ((i:Int)+1)=i+1:=fA (by omega);have w2:=fA (n:=(d:Int)-c) (by rcases hax with⟨_,rfl,rfl⟩ | ⟨_,rfl,rfl⟩ | ⟨_,rfl,rfl⟩<;>omega);simp only[wH];rcases hax with⟨rfl,rfl,rfl⟩ | ⟨rfl,rfl,rfl⟩ | ⟨rfl,rfl,rfl⟩<;>
  simp[-length_flatMap,-map_take,iV,kA,b1,b2,c1,c2,c3,c4,c5,c6,w1,oZ]<;>simp[-length_flatMap,-map_take,w2]
set_option maxHeartbeats 4000000 in
theorem ud{x y:Nat}{l:List (Nat×Nat)}{i a b:Nat}{ax c d:Nat}{s q1 q2:Int}(hx:x≤20000)(hy:y≤20000)(hl:l.length≤30)(hb:b≤100000)(ha:a≤100000)(h1:(jE (0,0) l)[i]?=some (a,0))(h2:(jE (0,0) l)[i+1]?=some (b,0))(hax:Lt x y a b ax c d)
  (hcd:c≤d) (hs:1≤s∧s≤1000) (e1:q1*s≤(c:Int)-1) (e2:(c:Int)-1<(q1+1)*s) (e3:q2*s≤(d:Int)) (e4:(d:Int)<(q2+1)*s):
  lim T (.call false bY [wH x y l,.int .i64 i,.int .i64 ax,.int .i64 s] σ)=some (.val (.er [.int .i64 q1,.int .i64 q2]) σ):=by
 refine aX lP eC.eq_1 rfl ?_;have hR:=fun S=>oO (σ:=S) hx hy hl hb ha h1 h2 hax
 have hdb:d≤100000:=by rcases hax with⟨_,rfl,rfl⟩ | ⟨_,rfl,rfl⟩ | ⟨_,rfl,rfl⟩<;>omega
 have hD1:=fun S=>wM (σ:=S) (n:=(c:Int)-1) (d:=s) (q:=q1) (by omega) (by omega) e1 e2 (by omega)
 have hD2:=fun S=>wM (σ:=S) (n:=(d:Int)) (d:=s) (q:=q2) (by omega) (by omega) e3 e4 (by omega)
 have w1:IntKind.i64.wrap ((c:Int)+((d:Int)-c))=d:=(fA (by omega)).trans (by omega);have w2:IntKind.i64.wrap ((c:Int)-1)=c-1:=fA (by omega);have w3:IntKind.i64.wrap (c:Int)=c:=fA (by omega);have w4:IntKind.i64.wrap (d:Int)=d:=fA (by omega);have m1:min (c:Int) d=c:=by omega
 have m2:max (c:Int) d=d:=by omega
 have m3:(c:Int)≤d:=by omega
 have m4:¬(d:Int)<c:=by omega
 simp only[wH]at hR ⊢;simp[-length_flatMap,-map_take,iV,kA,hR,hD1,hD2,w1,w2,w3,w4,m1,m2,m3,m4]
set_option maxHeartbeats 4000000 in
theorem zo{p q r t s a:Int}(hp:0≤p∧p≤1000)(hq:0≤q∧q≤1000)(hr:0≤r∧r≤1000)(ht:0≤t∧t≤1000)(hs:1≤s∧s≤1000)(ha:a=s∨a=0∨a = -s):
  WL T [3,4,5,6,9,10,11] false bq [(3,.int .i64 0),(4,.int .i64 1),(5,.int .i64 1),(6,.int .i64 1),
   (9,.ch 6 [.int .i64 p,.int .i64 0,.int .i64 q,.int .i64 0,.int .i64 r,.int .i64 0,.int .i64 t,.int .i64 0,.int .i64 a,.int .i64 s,.int .i64 (s-a),.int .i64 (-s)]),(10,.int .i64 6),(11,.int .i64 0)] σ
   (fun x e σ'=>σ'=σ∧x=.exit 0∧∃n d m f:Int,get e 3=.int .i64 n∧get e 4=.int .i64 d∧get e 5=.int .i64 m∧get e 6=.int .i64 f∧IntKind.i64.wrap (n*f)≤IntKind.i64.wrap (m*d)):=by
 have p1:¬p<0:=by omega
 have w6:IntKind.i64.wrap 6=6:=by decide
 have q1:¬q<0:=by omega
 have r1:¬r<0:=by omega
 have t0:¬t<0:=by omega
 have s1:0<s:=by omega
 have s2:¬s=0:=by omega
 have s3:¬s<0:=by omega
 have w1:=fA (n:=s) (by omega);have w2:=fA (n := -s) (by omega);have w3:=fA (n:=s+s) (by omega);have w4:=fA (n:=s*s) (by have:=lO hs.2 hs.2 (by omega) (by omega);have:=jI (a:=s) (b:=s) (by omega) (by omega);omega);refine aE bq.eq_1 ?_;simp[-length_flatMap,-map_take,p1];refine aE bq.eq_1 ?_;simp[-length_flatMap,-map_take,q1];refine aE bq.eq_1 ?_;simp[-length_flatMap,-map_take,r1];refine aE bq.eq_1 ?_;simp[-length_flatMap,-map_take,t0];refine aE bq.eq_1 ?_;rcases ha with rfl | rfl | rfl
 ·have t1 : -a<0:=by omega
  have t2:¬0 < -a:=by omega
  simp[-length_flatMap,-map_take,s1,s2,s3,w1,w2];refine aE bq.eq_1 ?_;simp[-length_flatMap,-map_take,s1,s2,s3,w1,w2,w6,t1,t2];refine aE bq.eq_1 ?_;simp[-length_flatMap,-map_take]
 ·have t1 : -s<0:=by omega
  have t2:¬0 < -s:=by omega
  have t3:¬s<s:=by omega
  simp[-length_flatMap,-map_take,s1,s2,s3,w1,w2];refine aE bq.eq_1 ?_;simp[-length_flatMap,-map_take,s1,s2,s3,w1,w2,w6,t1,t2,t3];refine aE bq.eq_1 ?_;simp[-length_flatMap,-map_take]
 ·have t1 : -s<0:=by omega
  have t2:¬0 < -s:=by omega
  have t3:¬s - -s<s:=by omega
  have t5:¬s+s<s:=by omega
  simp[-length_flatMap,-map_take,s1,s2,s3,w1,w2];refine aE bq.eq_1 ?_;simp[-length_flatMap,-map_take,s1,s2,s3,w1,w2,w6,t1,t2,t3,t5,w3];refine aE bq.eq_1 ?_;simp[-length_flatMap,-map_take,w1]
theorem EP{p q r t s a:Int}(hp:0≤p∧p≤1000)(hq:0≤q∧q≤1000)(hr:0≤r∧r≤1000)(ht:0≤t∧t≤1000)(hs:1≤s∧s≤1000)(ha:a=s∨a=0∨a = -s):
  lim T (.call false il [.ch 6 [.int .i64 p,.int .i64 0,.int .i64 q,.int .i64 0,.int .i64 r,.int .i64 0,.int .i64 t,.int .i64 0,.int .i64 a,.int .i64 s,.int .i64 (s-a),.int .i64 (-s)]] σ)=some (.val (.bool true) σ):=by
 refine aX tf j9.eq_1 rfl ?_;simp[-length_flatMap,-map_take];refine WL.to (zo hp hq hr ht hs ha) (by simp) rfl ?_;rintro x e σ' ⟨rfl,rfl,n,d,m,f,g3,g4,g5,g6,h⟩;simp[-length_flatMap,-map_take,g3,g4,g5,g6,h]
set_option maxHeartbeats 4000000 in
theorem vL{x y:Nat}{l:List (Nat×Nat)}{i a b:Nat}{s p q u v c α:Int}(hx:x≤20000)(hy:y≤20000)(hl:l.length≤30)(hb:b≤100000)(ha:a≤100000)(h1:(jE (0,0) l)[i]?=some (a,0))(h2:(jE (0,0) l)[i+1]?=some (b,0))
  (hs:1≤s∧s≤1000) (hp:0≤p∧p≤s) (hq:0≤q∧q≤s) (ex:(x:Int)=u*s+p) (ey:(y:Int)=v*s+q) (ea:(a:Int)=c*s+α) (eb:(b:Int)=a+s) (hα:α=s∨α=0∨α = -s) (hu:0≤u∧u≤8) (hv:0≤v∧v≤8) (hc : -1≤c∧c≤31) (hσ:σ≠[]):
  lim T (.call false cC [wH x y l,.int .i64 i,.agg [.int .i64 u,.int .i64 v,.int .i64 c],.int .i64 s] σ)=some (.val (.er [.bool true,.bool true]) σ):=by
 refine aX kK dB.eq_1 rfl ?_;have r0:=fun S=>oO (σ:=S) (ax:=0) hx hy hl hb ha h1 h2 (.inl ⟨rfl,rfl,rfl⟩)
 have r1:=fun S=>oO (σ:=S) (ax:=1) hx hy hl hb ha h1 h2 (.inr (.inl ⟨rfl,rfl,rfl⟩))
 have r2:=fun S=>oO (σ:=S) (ax:=2) hx hy hl hb ha h1 h2 (.inr (.inr ⟨rfl,rfl,rfl⟩))
 have hbb:(b:Int)-a=s:=by omega
 rw[hbb]at r2;have u1:(u+1)*s=u*s+s:=by rw[Int.add_mul,Int.one_mul]
 have v1:(v+1)*s=v*s+s:=by rw[Int.add_mul,Int.one_mul]
 have c1:(c+1)*s=c*s+s:=by rw[Int.add_mul,Int.one_mul]
 have u2:=jI hu.1 (show 0≤s by omega);have v2:=jI hv.1 (show 0≤s by omega);obtain⟨U,hU⟩:∃U,U=u*s:=⟨_,rfl⟩;obtain⟨V,hV⟩:∃U,U=v*s:=⟨_,rfl⟩;obtain⟨C,hC⟩:∃U,U=c*s:=⟨_,rfl⟩;rw[← hU]at ex u1 u2;rw[← hV]at ey v1 v2;rw[← hC]at ea c1;have y1:=fA (n:=u+1) (by omega);have y2:=fA (n:=v+1) (by omega);have y3:=fA (n:=c+1) (by omega);have y4:=fA (n:=U) (by omega);have y5:=fA (n:=V) (by omega);have y6:=fA (n:=C) (by omega);have y7:=fA (n:=U+s) (by omega);have y8:=fA (n:=V+s) (by omega);have y9:=fA (n:=C+s) (by omega);have k1:=fun S=>kS (σ:=S) (a:=x) (b:=0) (c:=U) (d:=0) (by omega) (by omega)
 have k2:=fun S=>kS (σ:=S) (a:=U+s) (b:=0) (c:=x) (d:=0) (by omega) (by omega)
 have k3:=fun S=>kS (σ:=S) (a:=y) (b:=0) (c:=V) (d:=0) (by omega) (by omega)
 have k4:=fun S=>kS (σ:=S) (a:=V+s) (b:=0) (c:=y) (d:=0) (by omega) (by omega)
 have k5:=fun S=>kS (σ:=S) (a:=a) (b:=s) (c:=C) (d:=0) (by omega) (by omega)
 have k6:=fun S=>kS (σ:=S) (a:=C+s) (b:=0) (c:=a) (d:=s) (by omega) (by omega)
 rw[show(x:Int)-U=p by omega]at k1;rw[show U+s-(x:Int)=s-p by omega]at k2;rw[show(y:Int)-V=q by omega]at k3;rw[show V+s-(y:Int)=s-q by omega]at k4;rw[show(a:Int)-C=α by omega]at k5;rw[show C+s-(a:Int)=s-α by omega]at k6;have a1:=fun S t (ht : -1000000≤t∧t≤1000000) d (hd : -1000000≤d∧d≤1000000)=>EO (σ:=S) (a:=t) (b:=d) (c:=0) (d:=0) (by omega) (by omega)
 have a2:=fun S t (ht : -1000000≤t∧t≤1000000) d (hd : -1000000≤d∧d≤1000000)=>kS (σ:=S) (a:=t) (b:=d) (c:=0) (d:=0) (by omega) (by omega)
 simp only[Int.add_zero,Int.sub_zero]at a1 a2;have d1:=fun S=>a1 S p (by omega) 0 (by omega)
 have d2:=fun S=>a1 S (s-p) (by omega) 0 (by omega)
 have d3:=fun S=>a1 S q (by omega) 0 (by omega)
 have d4:=fun S=>a1 S (s-q) (by omega) 0 (by omega)
 have d5:=fun S=>a1 S α (by omega) s (by omega)
 have d6:=fun S=>a1 S (s-α) (by omega) (-s) (by omega)
 have f1:=fun S=>a2 S p (by omega) 0 (by omega)
 have f2:=fun S=>a2 S (s-p) (by omega) 0 (by omega)
 have f3:=fun S=>a2 S q (by omega) 0 (by omega)
 have f4:=fun S=>a2 S (s-q) (by omega) 0 (by omega)
 have f5:=fun S=>a2 S α (by omega) s (by omega)
 have f6:=fun S=>a2 S (s-α) (by omega) (-s) (by omega)
 have m2:32≤room:=by unfold room;omega
 have m4:64≤room:=by unfold room;omega
 have m6:96≤room:=by unfold room;omega
 have hS:=fun S=>EP (σ:=S) (p:=p) (q:=s-p) (r:=q) (t:=s-q) (s:=s) (a:=α) (by omega) (by omega) (by omega) (by omega) hs hα
 simp only[wH]at r0 r1 r2 ⊢;simp only[show((1:Nat):Int)=1 from rfl]at r1;simp only[show((2:Nat):Int)=2 from rfl]at r2;simp only[Int.sub_self,Int.natCast_zero]at r0 r1 r2 k1 k2 k3 k4 k5 k6;simp[-length_flatMap,-map_take,oZ,iV,kA];refine aE bU.eq_1 ?_;simp[-length_flatMap,-map_take,iV,kA,r0,y1,y4,y7,← hU,u1,k1,k2,d1,d2,f1,f2,m2];refine aE bU.eq_1 ?_;simp[-length_flatMap,-map_take,iV,kA,r1,y2,y5,y8,← hV,v1,k3,k4,d3,d4,f3,f4,m4];refine aE bU.eq_1 ?_;simp[-length_flatMap,-map_take,iV,kA,r2,y3,y6,y9,← hC,c1,k5,k6,d5,d6,f5,f6,m6];refine aE bU.eq_1 ?_;have z1:=oU hσ (bs:=[.cells 3 [D.int .i64 p,.int .i64 0,.int .i64 (s-p),.int .i64 0,.int .i64 q,.int .i64 0,.int .i64 (s-q),.int .i64 0,.int .i64 α,.int .i64 s,.int .i64 (s-α),.int .i64 (-s)],.cells 3 [D.int .i64 p,.int .i64 0,.int .i64 (s-p),.int .i64 0,.int .i64 q,.int .i64 0,.int .i64 (s-q),.int .i64 0,.int .i64 α,.int .i64 s,.int .i64 (s-α),.int .i64 (-s)]]) (i:=0) (u:=3) (m:=6) (w:=2) rfl (by simp[D.clean,D.bp]) rfl;have z2:=oU hσ (bs:=[.dead,.cells 3 [D.int .i64 p,.int .i64 0,.int .i64 (s-p),.int .i64 0,.int .i64 q,.int .i64 0,.int .i64 (s-q),.int .i64 0,.int .i64 α,.int .i64 s,.int .i64 (s-α),.int .i64 (-s)]]) (i:=1) (u:=3) (m:=6) (w:=2) rfl (by simp[D.clean,D.bp]) rfl;simp only[List.set_cons_zero,List.set_cons_succ]at z1 z2;simp[-length_flatMap,-map_take,z1,z2,hS]
def pw(a b:Int):Int:=if a<b then -1 else if b<a then 1 else 0
theorem wO{a:Int}:lim T (.call false eu [.int .i64 a] σ)=some (.val (.bool false) σ):=by
 refine aX oG gW.eq_1 rfl ?_;simp[-length_flatMap,-map_take]
theorem uV{a b:Int}:lim T (.call false eK [.int .i64 a,.int .i64 b] σ)=some (.val (.int .i64 (pw a b)) σ):=by
 refine aX mZ fR.eq_1 rfl ?_;unfold pw;by_cases h1:a<b
 ·simp[-length_flatMap,-map_take,wO,h1]
 ·by_cases h2:b<a
  ·simp[-length_flatMap,-map_take,wO,h1,h2]
  ·simp[-length_flatMap,-map_take,wO,h1,h2]
theorem EK{u v a b:Int}:lim T (.call false dt [.ch 3 [.int .i64 u,.int .i64 v,.int .i64 a],.ch 3 [.int .i64 u,.int .i64 v,.int .i64 b]] σ)=some (.val (.int .i64 (pw a b)) σ):=by
 refine aX lS eF.eq_1 rfl ?_;have h0:∀x,pw x x=0:=fun x=>by simp[pw]
 simp[-length_flatMap,-map_take];refine aE cj.eq_1 ?_;simp[-length_flatMap,-map_take,uV,h0];refine aE cj.eq_1 ?_;simp[-length_flatMap,-map_take,uV,h0];refine aE cj.eq_1 ?_;by_cases hc:pw a b=0
 ·simp[-length_flatMap,-map_take,uV,hc];refine aE cj.eq_1 ?_;simp[-length_flatMap,-map_take,hc]
 ·simp[-length_flatMap,-map_take,uV,hc]
theorem EN{u v a b:Int}:lim T (.call false bF [.agg [.int .i64 u,.int .i64 v,.int .i64 a],.agg [.int .i64 u,.int .i64 v,.int .i64 b]] σ)=some (.val (.int .i64 (pw a b)) σ):=by
 refine aX nL gw.eq_1 rfl ?_;simp[-length_flatMap,-map_take,oZ,EK]
@[simp] def iw(u v:Int)(z:Int):List D:=[.int .i64 u,.int .i64 v,.int .i64 z]
def jA:List Int→Int→List Int→List Int
 |[],x,S=>x::S
 |y::R,x,S=>if x<y then jA R x (y::S)else R.reverse++y::x::S
theorem tH:∀{R:List Int} {x:Int} {S U:List Int},jA R x (S++U)=jA R x S++U
 |[],x,S,U=>rfl
 |y::R,x,S,U=>by
  simp only[jA];split
  ·exact tH (S:=y::S)
  ·simp
theorem n0:∀{R:List Int} {x:Int} {S:List Int},(jA R x S).Perm (R.reverse++x::S)
 |[],x,S=>List.Perm.refl _
 |y::R,x,S=>by
  simp only[jA,List.reverse_cons,ez,ef];split
  ·exact(n0 (S:=y::S)).trans (List.Perm.append_left _ (List.Perm.swap y x S))
  ·exact List.Perm.refl _
theorem rD:∀{R:List Int} {x:Int} {S:List Int},(R.reverse++S).Pairwise (· ≤ ·)→(∀s∈S,x≤s)→(jA R x S).Pairwise (· ≤ ·)
 |[],x,S,h,hx=>by
  simp only[jA,List.pairwise_cons];exact⟨hx,by simpa using h⟩
 |y::R,x,S,h,hx=>by
  simp only[jA];simp only[List.reverse_cons,ez,ef]at h;split
  ·rename_i hc;exact rD h (by intro s hs;rcases aJ.1 hs with rfl | hs;omega;exact hx s hs)
  ·rename_i hc;rw[List.pairwise_append]at h ⊢;obtain⟨h1,h2,h3⟩:=h;rw[List.pairwise_cons]at h2;refine⟨h1,?_,?_⟩
   ·rw[List.pairwise_cons,List.pairwise_cons];refine⟨fun s hs=>?_,hx,h2.2⟩;rcases aJ.1 hs with rfl | hs
    ·omega
    ·exact h2.1 s hs
   ·intro a ha s hs;have hy:=h3 a ha y (by simp);rcases aJ.1 hs with rfl | hs
    ·exact hy
    ·rcases aJ.1 hs with rfl | hs
     ·omega
     ·exact h3 a ha s (by simp[hs])
theorem tI{R:List Int}{x:Int}{S:List Int}:(jA R x S).length=R.length+1+S.length:=by
 rw[n0.length_eq];simp;omega
set_option maxHeartbeats 4000000 in
theorem uY{u v:Int}{w n i:Nat}{Rs:List Abs.b8}(hn:n≤100)(hi:i<n):∀(R:List Int) (x:Int) (S:List Int),R.length+1+S.length=n →
  WL T [0,1,2,3,8,9] false ba [(0,.sl σ.length 0 w 0 n 3),(1,.int .i64 0),(2,.int .i64 n),(3,.fn bF [] []),(8,.int .i64 i),(9,.int .i64 R.length)]
   ([]::[]::[]::(.cells w ((R.reverse++x::S).flatMap (iw u v))::Rs)::σ)
   (fun x' e σ'=>x'=.exit 2∧get e 0=.sl σ.length 0 w 0 n 3∧get e 1=.int .i64 0∧get e 2=.int .i64 n∧get e 3=.fn bF [] []∧get e 8=.int .i64 i ∧
    σ'=[]::[]::[]::(.cells w ((jA R x S).flatMap (iw u v))::Rs)::σ)
 |[],x,S,hl=>by
  refine aE ba.eq_1 ?_;simp[-length_flatMap,-map_take,jA]
 |y::R,x,S,hl=>by
  refine aE ba.eq_1 ?_;obtain⟨l,hlq⟩:∃l,l=R.reverse++y::x::S:=⟨_,rfl⟩;have hl0:(y::R).reverse++x::S=l:=by rw[hlq];simp
  have hll:l.length=n:=by rw[hlq];simp at hl ⊢;omega
  have x1:l[R.length+1]?=some x:=by rw[hlq];simp
  have y1:l[R.length]?=some y:=by rw[hlq];simp
  have a1:=gY (f:=iw u v) (w:=3) (fun _=>rfl) x1;have a2:=gY (f:=iw u v) (w:=3) (fun _=>rfl) y1;have a3:=eI (f:=iw u v) (w:=3) (fun _=>rfl) l;simp only[iw]at a1 a2;simp only[aZ]at hl;have c1:(R.length:Int)+1<n:=by omega
  have c2:(R.length:Int)<n:=by omega
  have c3:3≤(l.flatMap (iw u v)).length-(R.length+1)*3:=by omega
  have c4:3≤(l.flatMap (iw u v)).length-R.length*3:=by omega
  have c5:((R.length:Int)+1).toNat=R.length+1:=by omega
  have c6:(0:Int)<(R.length:Int)+1:=by omega
  have c7:(0:Int)≤(R.length:Int)+1:=by omega
  have w1:IntKind.i64.wrap ((R.length:Int)+1-1)=R.length:=(fA (by omega)).trans (by omega);have w2:IntKind.i64.wrap (R.length:Int)=R.length:=fA (by omega);have hL:=fun S=>EN (σ:=S) (u:=u) (v:=v) (a:=x) (b:=y)
  rw[hl0];by_cases hc:x<y
  ·have hF:pw x y<0:=by simp[pw,hc]
   have ih:=uY (u:=u) (v:=v) (w:=w) (Rs:=Rs) hn hi R x (y::S) (by simp;omega);have hI:jA (y::R) x S=jA R x (y::S):=by rw[jA,if_pos hc]
   rw[hI];have k1:=yj (f:=iw u v) (w:=3) (fun _=>rfl) (l:=l) (i:=R.length+1) (x:=y) (by omega);have k2:=yj (f:=iw u v) (w:=3) (fun _=>rfl) (l:=l.set (R.length+1) y) (i:=R.length) (x:=x) (by simp;omega);have hl2:(l.set (R.length+1) y).set R.length x=R.reverse++x::y::S:=by
    rw[hlq,List.set_append_right _ _ (by simp),List.set_append_right _ _ (by simp)];simp
   rw[hl2]at k2;simp only[iw,aY,aL]at k1 k2;have a4:=eI (f:=iw u v) (w:=3) (fun _=>rfl) (l.set (R.length+1) y);simp only[List.length_set]at a4;have c8:(R.length+1)*3+3≤(l.flatMap (iw u v)).length:=by omega
   have c9:R.length*3+3≤((l.set (R.length+1) y).flatMap (iw u v)).length:=by omega
   simp[-length_flatMap,-map_take,a1,a2,c1,c2,c3,c4,c5,c6,c7,w1,w2,hL,hF,c8,k1,c9,k2];exact WL.to ih (by simp) (by simp) fun x e σ' hh=>hh
  ·have hF:¬pw x y<0:=by unfold pw;rw[if_neg hc];split<;>omega
   have hI:jA (y::R) x S=l:=by rw[jA,if_neg hc,hlq]
   rw[hI];simp[-length_flatMap,-map_take,a1,a2,c1,c2,c3,c4,c5,c6,c7,w1,w2,hL,hF]
def oK:List Int→List Int→List Int
 |Q,[]=>Q
 |Q,x::U=>oK (jA Q.reverse x []) U
theorem rB:∀{U Q:List Int},(oK Q U).Perm (Q++U)
 |[],Q=>by simp[oK]
 |x::U,Q=>by
  have h:=(n0 (R:=Q.reverse) (x:=x) (S:=[])).append_right U;simp only[List.reverse_reverse,ez,ef]at h;exact(rB (U:=U) (Q:=jA Q.reverse x [])).trans h
theorem rC:∀{U Q:List Int},Q.Pairwise (· ≤ ·)→(oK Q U).Pairwise (· ≤ ·)
 |[],Q,h=>h
 |x::U,Q,h=>rC (U:=U) (Q:=jA Q.reverse x []) (rD (R:=Q.reverse) (S:=[]) (by simpa using h) (by simp))
theorem ta{u v:Int}{w n:Nat}{Rs:List Abs.b8}(hn:n≤100):∀(U Q:List Int),Q.length+U.length=n →
  WL T [0,1,2,3,8] false bd [(0,.sl σ.length 0 w 0 n 3),(1,.int .i64 0),(2,.int .i64 n),(3,.fn bF [] []),(8,.int .i64 Q.length)]
   ([]::[]::[]::(.cells w ((Q++U).flatMap (iw u v))::Rs)::σ)
   (fun x' e σ'=>x'=.exit 0∧σ'=[]::[]::[]::(.cells w ((oK Q U).flatMap (iw u v))::Rs)::σ)
 |[],Q,hl=>by
  refine aE bd.eq_1 ?_;have h1:¬Q.length<n:=by simp at hl;omega
  simp[-length_flatMap,-map_take,oK,h1]
 |x::U,Q,hl=>by
  refine aE bd.eq_1 ?_;simp only[aZ]at hl;have h1:Q.length<n:=by omega
  have h4:IntKind.i64.wrap ((Q.length:Int)+1)=Q.length+1:=fA (by omega);have hI:=uY (σ:=σ) (u:=u) (v:=v) (w:=w) (Rs:=Rs) hn h1 Q.reverse x U (by simp;omega);have ih:=ta (u:=u) (v:=v) (w:=w) (Rs:=Rs) hn U (jA Q.reverse x []) (by rw[tI];simp;omega);rw[tI]at ih;simp only[List.reverse_reverse,List.length_reverse,bD,Nat.add_zero]at hI ih;have hp:jA Q.reverse x U=jA Q.reverse x []++U:=by rw[← tH];rfl
  rw[hp]at hI;simp only[oK];generalize jA Q.reverse x []=Q' at hI ih ⊢;simp[-length_flatMap,-map_take,h1];refine WL.to hI (by simp) (by simp) ?_;rintro x' e σ' ⟨rfl,g0,g1,g2,g3,g8,rfl⟩;simp[-length_flatMap,-map_take,g0,g1,g2,g3,g8,h4];exact WL.to ih (by simp) (by simp) fun x e σ' hh=>hh
theorem H4{u v x:Int}{w n:Nat}{Rs:List Abs.b8}{U:List Int}(hn:n≤100)(hl:1+U.length=n):
  lim T (.call false aT [.sl σ.length 0 w 0 n 3,.int .i64 0,.int .i64 n,.fn bF [] []] ([]::[]::(.cells w ((x::U).flatMap (iw u v))::Rs)::σ)) =
   some (.val (.er []) ([]::[]::(.cells w ((oK [x] U).flatMap (iw u v))::Rs)::σ)):=by
 refine oR fD bk.eq_1 rfl (by simp) ?_;simp[-length_flatMap,-map_take];refine WL.to (ta (σ:=σ) (u:=u) (v:=v) (w:=w) (Rs:=Rs) hn U [x] (by simpa using hl)) (by simp) (by simp) ?_;rintro x' e σ' ⟨rfl,rfl⟩;simp[-length_flatMap,-map_take]
theorem H6{u v x:Int}{w n:Nat}{Rs:List Abs.b8}{U:List Int}{k:Int}(hn:n≤12)(hl:1+U.length=n):
  lim T (.call false aO [.sl σ.length 0 w 0 n 3,.int .i64 0,.int .i64 n,.int .i64 k,.fn bF [] []] ([]::(.cells w ((x::U).flatMap (iw u v))::Rs)::σ)) =
   some (.val (.er []) ([]::(.cells w ((oK [x] U).flatMap (iw u v))::Rs)::σ)):=by
 refine oR hJ bL.eq_1 rfl (by simp) ?_;have hI:=H4 (σ:=σ) (u:=u) (v:=v) (x:=x) (w:=w) (Rs:=Rs) (U:=U) (n:=n) (by omega) hl;have w1:IntKind.i64.wrap (n:Int)=n:=fA (by omega);have c1:(n:Int)≤12:=by omega
 simp[-length_flatMap,-map_take];refine aE dp.eq_1 ?_;simp only[br,iw,aY,aL]at hI;simp[-length_flatMap,-map_take,w1,c1,hI]
set_option maxHeartbeats 4000000 in
set_option maxRecDepth 100000 in
theorem H0{n:Nat}(hn:n≤12):∃k,lim T (.call false ew [.int .u64 n] σ)=some (.val (.int .i64 k) σ):=by
 have h:n=0∨n=1∨n=2∨n=3∨n=4∨n=5∨n=6∨n=7∨n=8∨n=9∨n=10∨n=11∨n=12:=by omega
 have h64:∃k,∀S,lim T (.call false eL [.int .u64 n] S)=some (.val (.int .i64 k) S):=by
  have w8:∀m:Int,0≤m→m≤12→IntKind.u8.wrap m=m:=fun m h1 h2=>IntWalk.u8_in m (by omega)
  have w9:∀m:Int,0≤m→m≤12→IntKind.i64.wrap m=m:=fun m h1 h2=>fA (by omega)
  refine⟨([0,1,2,2,3,3,3,3,4,4,4,4,4]:List Int).getD n 0,fun S=>?_⟩;refine aX nc fT.eq_1 rfl ?_;rcases h with rfl | rfl | rfl | rfl | rfl | rfl | rfl | rfl | rfl | rfl | rfl | rfl | rfl
  all_goals simp[-length_flatMap,-map_take,so,w8,w9]
 obtain⟨k,h64⟩:=h64;refine⟨k,?_⟩;refine aX oH gX.eq_1 rfl ?_;simp[-length_flatMap,-map_take,h64]
theorem EI{u v x:Int}{w n:Nat}{Rs:List Abs.b8}{U:List Int}(hn:n≤12)(hl:1+U.length=n):
  lim T (.call false bM [.sl σ.length 0 w 0 n 3,.fn bF [] []] ((.cells w ((x::U).flatMap (iw u v))::Rs)::σ)) =
   some (.val (.er []) ((.cells w ((oK [x] U).flatMap (iw u v))::Rs)::σ)):=by
 refine oR jt cp.eq_1 rfl (by simp) ?_;obtain⟨k,hk⟩:=H0 (σ:=[]::(.cells w ((x::U).flatMap (iw u v))::Rs)::σ) hn;have hP:=H6 (σ:=σ) (u:=u) (v:=v) (x:=x) (w:=w) (Rs:=Rs) (U:=U) (n:=n) (k:=k) hn hl;have w1:IntKind.u64.wrap (n:Int)=n:=by
  have:=IntWalk.u64_in (n:Int) (by omega);exact this
 simp only[br,iw,aY,aL]at hP hk;simp[-length_flatMap,-map_take,w1,hk,hP]
def rU(u v:Int)(l:List Int):List D:=l.map fun z => .er [.agg (iw u v z),.bool true]
def Gn:Ky:=some (true,[some .i64,some .i64,some .i64])
def mC(l:List Int)(z:Int):List Int:=if z∈l then l else l++[z]
theorem Gm{u v a b:Int}:kM Gn (.agg [.int .i64 u,.int .i64 v,.int .i64 a]) (.agg [.int .i64 u,.int .i64 v,.int .i64 b])=some (b == a):=by
 have h:(a == b)=(b == a):=by rw[Bool.eq_iff_iff];simp only[beq_iff_eq];exact⟨Eq.symm,Eq.symm⟩
 simp only[kM,Gn,D.row,kY,and_self,if_true,aG,Bool.and_true];congr 1;simp[h]
theorem pF{u v z:Int}:∀{l:List Int},∃r,jP Gn (.agg [.int .i64 u,.int .i64 v,.int .i64 z]) (rU u v l)=some r∧(z ∉ l→r=none)∧(z∈l→∃j,r=some (j,.bool true)∧l[j]?=some z)
 |[]=>⟨none,rfl,fun _=>rfl,fun h=>by simp at h⟩
 |a::l=>by
  obtain⟨r,h1,h2,h3⟩:=pF (u:=u) (v:=v) (z:=z) (l:=l);simp only[rU,aw,iw]at h1 ⊢;simp only[jP,Gm];by_cases hk:a=z
  ·subst hk;exact⟨some (0,.bool true),by simp,fun h=>by simp at h,fun _=>⟨0,rfl,by simp⟩⟩
  ·have hk':(a == z)=false:=by simpa using hk
   rw[hk'];refine⟨r.map fun x=>(x.1+1,x.2),by simp only[ai,if_false];rw[h1];rfl,fun h=>?_,fun h=>?_⟩
   ·rw[h2 (by simp at h;exact h.2)];rfl
   ·have hz:z∈l:=by rcases aJ.1 h with h | h;exact absurd h.symm hk;exact h
    obtain⟨j,rfl,hj⟩:=h3 hz;exact⟨j+1,rfl,by simpa using hj⟩
theorem yv{S:SK}{l i:Nat}{zs:List Int}{u v z:Int}(h:cells? S l i 0=some (rU u v zs)):
  pZ S (.get Gn (.bool false) false) [.fJ l i,.agg [.int .i64 u,.int .i64 v,.int .i64 z]]=some (.bool (decide (z∈zs)),S):=by
 obtain⟨r,h1,h2,h3⟩:=pF (u:=u) (v:=v) (z:=z) (l:=zs);simp only[pZ,mO,h,aG,h1,Gm,Option.isSome_some,if_true];by_cases hz:z∈zs
 ·obtain⟨j,rfl,_⟩:=h3 hz;simp[hz]
 ·rw[h2 hz];simp[hz]
theorem Gu{S:SK}{l i:Nat}{zs:List Int}{u v z:Int}(h:cells? S l i 0=some (rU u v zs)):
  pZ S (.put Gn) [.fJ l i,.agg [.int .i64 u,.int .i64 v,.int .i64 z],.bool true]=some (.undef,az S l i (.cells 0 (rU u v (mC zs z)))):=by
 obtain⟨r,h1,h2,h3⟩:=pF (u:=u) (v:=v) (z:=z) (l:=zs);simp only[pZ,mO,h,aG,h1,Gm,Option.isSome_some,true_and];rw[if_pos (.inr ⟨by simp[D.clean],by simp[D.clean]⟩)];unfold mC;by_cases hz:z∈zs
 ·obtain⟨j,rfl,hj⟩:=h3 hz;have hs:(rU u v zs).set j (.er [.agg [.int .i64 u,.int .i64 v,.int .i64 z],.bool true])=rU u v zs:=by
   apply eA;intro k;rw[List.getElem?_set];split
   ·rename_i hjk;subst hjk;obtain⟨hlt,hje⟩:=ar.1 hj;simp[rU,hlt,hje]
   ·rfl
  simp only[hs,if_pos hz]
 ·rw[h2 hz,if_neg hz];simp[rU]
theorem wT{O:aN}{c c':bC}(hc:c=c'){e:Env}{σ:SK}{Q:Abs.Exit→Env→SK→Prop}:WC O c e σ Q .mk .mk=WC O c' e σ Q .mk .mk:=by subst hc;rfl
def sK(σ:SK)(x y:Nat)(l:List (Nat×Nat))(u v:Int)(zs:List Int):List Abs.b8 :=
 [.cells 0 [],.cells 0 [],.cells 0 [.int .i64 x,.int .i64 y,.int .i64 0,.ch l.length (l.flatMap iu),.ch (l.length+1) ((jE (0,0) l).flatMap (j5 x y))],.cells 0 (rU u v zs),.cells 0 [.fJ σ.length 3]]
def uE(L:Nat)(s:Int)(n k:Nat):kq :=
 {state:=0,j4:=none,env:=[(3,.bE [.int .i64 s]),(4,.sl L 0 0 0 0 3),(5,.sl L 1 0 0 0 3),(6,.int .i64 0),(7,.ref L 2 0 0),(8,.ref L 4 0 0),(9,.ref (L+1) 0 0 0),(34,.int .i64 n),(35,.int .i64 k)],params:=[68],lK:=fe,body:=ec }
set_option maxHeartbeats 4000000 in
theorem rV{x y:Nat}{l:List (Nat×Nat)}{k a b:Nat}{s p q u v c α:Int}{zs:List Int}(hx:x≤20000)(hy:y≤20000)(hl:l.length≤30)(hb:b≤100000)(ha:a≤100000)(h1:(jE (0,0) l)[k]?=some (a,0))(h2:(jE (0,0) l)[k+1]?=some (b,0))
  (hs:1≤s∧s≤1000) (hp:0≤p∧p≤s) (hq:0≤q∧q≤s) (ex:(x:Int)=u*s+p) (ey:(y:Int)=v*s+q) (ea:(a:Int)=c*s+α) (eb:(b:Int)=a+s) (hα:α=s∨α=0∨α = -s) (hu:0≤u∧u≤8) (hv:0≤v∧v≤8) (hc : -1≤c∧c≤31) (hσ:σ≠[]):
  lim T (.round (σ.length+1) 1 [.agg [.int .i64 u,.int .i64 v,.int .i64 c]] ([]::[.cells 0 [.int .i64 k],.loop (uE σ.length s l.length k)]::sK σ x y l u v zs::σ)) =
   some (.val (.bool true) ([]::[.cells 0 [.int .i64 k],.loop (uE σ.length s l.length k)]::sK σ x y l u v (mC zs c)::σ)):=by
 refine yJ (lp:=uE σ.length s l.length k) (by simp[sK]) rfl ?_;rw[show(uE σ.length s l.length k).lK=fe from rfl,fe.eq_1,show(uE σ.length s l.length k).body=ec from rfl];have hC:=fun S hS=>vL (σ:=S) hx hy hl hb ha h1 h2 hs hp hq ex ey ea eb hα hu hv hc hS
 simp only[wH]at hC;have hG:=fun S h=>yv (S:=S) (l:=σ.length) (i:=3) (zs:=zs) (u:=u) (v:=v) (z:=c) h
 have hP:=fun S h=>Gu (S:=S) (l:=σ.length) (i:=3) (zs:=zs) (u:=u) (v:=v) (z:=c) h
 simp only[Gn]at hG hP;by_cases hz:c∈zs
 ·simp[-length_flatMap,-map_take,wT ec.eq_1,uE,sK,Gr,hC,hG,hP,iV,kA,hz]
 ·simp[-length_flatMap,-map_take,wT ec.eq_1,uE,sK,Gr,hC,hG,hP,iV,kA,hz]
theorem H2{u v a:Int}{a':Int}:lim T (.call false jQ [.agg [.int .i64 u,.int .i64 v,.int .i64 a],.agg [.int .i64 u,.int .i64 v,.int .i64 a']] σ) =
  some (.val (.fn gG [] [.bE [.int .i64 u,.int .i64 v,.int .i64 a],.bE [.int .i64 u,.int .i64 v,.int .i64 a']]) σ):=by
 refine aX ug kZ.eq_1 rfl ?_;simp[-length_flatMap,-map_take]
set_option maxHeartbeats 4000000 in
theorem EJ{S:List Int→SK}{L:Nat}{u v z:Int}{zs:List Int}(hS:∀a b,(S a).length=(S b).length)(hu:0≤u∧u≤8)(hv:0≤v∧v≤8)(hz : -1≤z∧z≤100)
  (hR:∀zs c,(c=z∨c=z+1∨c=z+2)→lim T (.round L 1 [.agg [.int .i64 u,.int .i64 v,.int .i64 c]] ([]::S zs))=some (.val (.bool true) ([]::S (mC zs c)))):
  lim T (.call false gG [.fJ L 1,.bE [.int .i64 u,.int .i64 v,.int .i64 z],.bE [.int .i64 u,.int .i64 v,.int .i64 (z+2)]] (S zs)) =
   some (.val (.er []) (S (mC (mC (mC zs z) (z+1)) (z+2)))):=by
 refine oR rW jz.eq_1 rfl (hS _ _) ?_;have r0:=hR zs z (.inl rfl);have r1:=hR (mC zs z) (z+1) (.inr (.inl rfl));have r2:=hR (mC (mC zs z) (z+1)) (z+2) (.inr (.inr rfl));have w1:IntKind.i64.wrap (u+1)=u+1:=fA (by omega);have w2:IntKind.i64.wrap (v+1)=v+1:=fA (by omega);have w3:IntKind.i64.wrap (z+1)=z+1:=fA (by omega);have w4:IntKind.i64.wrap (z+1+1)=z+2:=(fA (by omega)).trans (by omega);have w5:IntKind.i64.wrap (z+2+1)=z+3:=(fA (by omega)).trans (by omega);have c1:¬u+1≤u:=by omega
 have c2:¬v+1≤v:=by omega
 have c3:z≤z+2:=by omega
 have c4:z+1≤z+2:=by omega
 have c5:¬z+3≤z+2:=by omega
 simp[-length_flatMap,-map_take];refine aE iX.eq_1 ?_;simp[-length_flatMap,-map_take];refine aE iW.eq_1 ?_;simp[-length_flatMap,-map_take];refine aE fw.eq_1 ?_;simp[-length_flatMap,-map_take,r0,w3,c3];refine aE fw.eq_1 ?_;simp[-length_flatMap,-map_take,r1,w4,c4];refine aE fw.eq_1 ?_;simp[-length_flatMap,-map_take,r2,w5];refine aE fw.eq_1 ?_;simp[-length_flatMap,-map_take,c5,w2];refine aE iW.eq_1 ?_;simp[-length_flatMap,-map_take,c2,w1];refine aE iX.eq_1 ?_;simp[-length_flatMap,-map_take,c1]
theorem rX{s:Nat}:∀{n k:Nat} {p:Nat×Nat},k≤n→(jE p (List.replicate n (s,0)))[k]?=some (p.1+k*s,p.2)
 |0,k,p,h=>by
  obtain rfl:k=0:=by omega
  simp[jE]
 |n+1,0,p,h=>by simp[List.replicate_succ,jE]
 |n+1,k+1,p,h=>by
  simp only[List.replicate_succ,jE,List.getElem?_cons_succ];rw[rX (by omega)];simp only[ad,af,Nat.add_zero,and_true];rw[cN];omega
def zr(n:Nat):List Int:=(List.range n).map fun i:Nat=>(i:Int)-1
def zk(k:Nat):List Int:=if k=0 then []else zr (k+2)
theorem sO{n:Nat}{z:Int}:z∈zr n ↔ -1≤z∧z<(n:Int)-1:=by
 simp only[zr,bg,List.mem_range];constructor
 ·rintro⟨i,hi,rfl⟩;omega
 ·intro h;exact⟨(z+1).toNat,by omega,by omega⟩
theorem vJ{n:Nat}:zr (n+1)=zr n++[(n:Int)-1]:=by simp[zr,List.range_succ]
theorem NI(k:Nat):mC (mC (mC (zk k) ((k:Int)-1)) ((k:Int)-1+1)) ((k:Int)-1+2)=zk (k+1):=by
 cases k with
 |zero=>simp[zk,mC,zr];decide
 |succ k =>
  have h1:((k+1:Nat):Int)-1∈zr (k+3):=sO.2 (by omega);have h2:((k+1:Nat):Int)-1+1∈zr (k+3):=sO.2 (by omega);have h3:¬((k+1:Nat):Int)-1+2∈zr (k+3):=fun h=>by have:=sO.1 h;omega
  have e1:zk (k+1)=zr (k+3):=by simp[zk]
  have e2:zk (k+1+1)=zr (k+4):=by simp[zk]
  rw[e1,e2];simp only[mC,if_pos h1,if_pos h2,if_neg h3];rw[vJ (n:=k+3),show((k+1:Nat):Int)-1+2=((k+3:Nat):Int)-1 by omega]
set_option maxHeartbeats 4000000 in
theorem wQ{x y s n:Nat}{p u v:Int}(hn:n≤30)(hs:1≤s∧s≤1000)(hp:1≤p∧p<s)(ex:(x:Int)=u*s+p)(ey:(y:Int)=v*s+p)(hu:0≤u∧u≤8)(hv:0≤v∧v≤8)(hσ:σ≠[]):∀(m k:Nat),k+m=n →
  WL T [3,4,5,6,7,8,34,35] true ff [(3,.bE [.int .i64 s]),(4,.sl σ.length 0 0 0 0 3),(5,.sl σ.length 1 0 0 0 3),(6,.int .i64 0),(7,.ref σ.length 2 0 0),(8,.ref σ.length 4 0 0),(34,.int .i64 n),(35,.int .i64 k)]
   (sK σ x y (List.replicate n (s,0)) u v (zk k)::σ)
   (fun x' e σ'=>x'=.exit 0∧get e 4=.sl σ.length 0 0 0 0 3∧get e 5=.sl σ.length 1 0 0 0 3∧get e 8=.ref σ.length 4 0 0∧σ'=sK σ x y (List.replicate n (s,0)) u v (zk n)::σ)
 |0,k,hi=>by
  refine tg ff.eq_1 ?_;obtain rfl:k=n:=by omega
  simp[-length_flatMap,-map_take]
 |m+1,k,hi=>by
  refine tg ff.eq_1 ?_;have h1:k<n:=by omega
  have hxb:x≤20000:=by
   have:=oz (a:=u) (b:=s) (A:=8) (B:=1000) hu.1 hu.2 (by omega) (by omega);omega
  have hyb:y≤20000:=by
   have:=oz (a:=v) (b:=s) (A:=8) (B:=1000) hv.1 hv.2 (by omega) (by omega);omega
  obtain⟨l,hl⟩:∃l,l=List.replicate n (s,0):=⟨_,rfl⟩;have a1:(jE (0,0) l)[k]?=some (k*s,0):=by rw[hl,rX (by omega)];simp
  have a2:(jE (0,0) l)[k+1]?=some ((k+1)*s,0):=by rw[hl,rX (by omega)];simp
  have hll:l.length=n:=by rw[hl];simp
  have kb:k*s≤30*1000:=Nat.mul_le_mul (by omega) (by omega);have kc:(k+1)*s=k*s+s:=by rw[cN,Nat.one_mul]
  have kd:((k*s:Nat):Int)=(k:Int)*s:=by simp
  have u1:(u+1)*s=u*s+s:=by rw[Int.add_mul,Int.one_mul]
  have v1:(v+1)*s=v*s+s:=by rw[Int.add_mul,Int.one_mul]
  have k1:((k:Int)-1)*s=k*s-s:=by rw[Int.sub_mul,Int.one_mul]
  have k2:((k:Int)-1+1)*s=k*s:=by rw[Int.sub_add_cancel]
  have k3:((k:Int)-1+2)*s=k*s+s:=by rw[show(k:Int)-1+2=k+1 by omega,Int.add_mul,Int.one_mul]
  have k4:((k:Int)-1+2+1)*s=k*s+s+s:=by rw[show(k:Int)-1+2+1=k+1+1 by omega,Int.add_mul,Int.add_mul,Int.one_mul]
  have sx:=fun S=>ud (σ:=S) (ax:=0) (c:=x) (d:=x) (s:=s) (q1:=u) (q2:=u) hxb hyb (l:=l) (by omega) (by omega) (by omega) a1 a2 (.inl ⟨rfl,rfl,rfl⟩) (by omega) (by omega) (by omega) (by omega) (by omega) (by omega)
  have sy:=fun S=>ud (σ:=S) (ax:=1) (c:=y) (d:=y) (s:=s) (q1:=v) (q2:=v) hxb hyb (l:=l) (by omega) (by omega) (by omega) a1 a2 (.inr (.inl ⟨rfl,rfl,rfl⟩)) (by omega) (by omega) (by omega) (by omega) (by omega) (by omega)
  have sz:=fun S=>ud (σ:=S) (ax:=2) (c:=k*s) (d:=(k+1)*s) (s:=s) (q1:=(k:Int)-1) (q2:=(k:Int)-1+2) hxb hyb (l:=l) (by omega) (by omega) (by omega) a1 a2 (.inr (.inr ⟨rfl,rfl,rfl⟩)) (by omega) (by omega) (by omega) (by omega) (by omega) (by omega)
  simp only[show((0:Nat):Int)=0 from rfl]at sx;simp only[show((1:Nat):Int)=1 from rfl]at sy;simp only[show((2:Nat):Int)=2 from rfl]at sz;have ih:=wQ hn hs hp ex ey hu hv hσ m (k+1) (by omega);have hR:∀zs c,(c=(k:Int)-1∨c=(k:Int)-1+1∨c=(k:Int)-1+2)→lim T (.round (σ.length+1) 1 [.agg [.int .i64 u,.int .i64 v,.int .i64 c]] ([]::[.cells 0 [.int .i64 k],.loop (uE σ.length s l.length k)]::sK σ x y l u v zs::σ)) =
    some (.val (.bool true) ([]::[.cells 0 [.int .i64 k],.loop (uE σ.length s l.length k)]::sK σ x y l u v (mC zs c)::σ)):=by
   intro zs c hc;rcases hc with rfl | rfl | rfl
   ·exact rV (α:=s) hxb hyb (by omega) (by omega) (by omega) a1 a2 (by omega) (by omega) (by omega) ex ey (by omega) (by omega) (by omega) hu hv (by omega) hσ
   ·exact rV (α:=0) hxb hyb (by omega) (by omega) (by omega) a1 a2 (by omega) (by omega) (by omega) ex ey (by omega) (by omega) (by omega) hu hv (by omega) hσ
   ·exact rV (α := -s) hxb hyb (by omega) (by omega) (by omega) a1 a2 (by omega) (by omega) (by omega) ex ey (by omega) (by omega) (by omega) hu hv (by omega) hσ
  have hB:=EJ (S:=fun zs=>[.cells 0 [.int .i64 k],.loop (uE σ.length s l.length k)]::sK σ x y l u v zs::σ) (L:=σ.length+1) (u:=u) (v:=v) (z:=(k:Int)-1) (zs:=zk k) (fun _ _=>rfl) hu hv (by omega) hR;rw[NI]at hB;have hX:=fun S=>H2 (σ:=S) (u:=u) (v:=v) (a:=(k:Int)-1) (a':=(k:Int)-1+2)
  rw[← hl]at ih ⊢;have c0:(k:Int)<n:=by omega
  have h4:=rT h1 (by omega);simp only[wH]at sx sy sz;simp only[hll]at sx sy sz hB hR;simp[-length_flatMap,-map_take,sK,hll,c0,h1,sx,sy,sz,hX,iV,kA];refine zt (d:=.er []) (σ2:=[.cells 0 [.int .i64 k],.loop (uE σ.length s n k)]::sK σ x y l u v (zk (k+1))::σ) (lp:=uE σ.length s n k) (by simp;exact⟨rfl,rfl,rfl⟩) ?_ (by simp[sK]) (by simp[uE]) ?_
  ·simpa[sK,uE,hll]using hB
  ·simp[-length_flatMap,-map_take,uE,sK,h4];exact WL.to ih (by simp) (by simp[sK,hll]) fun x e σ' hh=>by simpa[sK,hll]using hh
theorem l8{n:Nat}:(zr n).length=n:=by simp[zr]
theorem zc{n i:Nat}(h:i<n):(zr n)[i]?=some ((i:Int)-1):=by simp[zr,h]
theorem Aq{n:Nat}:(zr n).Pairwise (· ≤ ·):=by
 simp only[zr,List.pairwise_map];exact List.Pairwise.imp (fun {a b} h=>by omega) (List.pairwise_lt_range (n:=n))
theorem zO{n:Nat}{x:Int}{U:List Int}(h:(x::U).Perm (zr n)):oK [x] U=zr n:=by
 have h1:(oK [x] U).Perm (zr n):=(rB (U:=U) (Q:=[x])).trans h;refine List.Perm.eq_of_pairwise (le:=fun a b:Int=>a≤b) ?_ (rC (by simp)) Aq h1;intro a b _ _ h1 h2;omega
def oY(σ:SK)(M:Abs.b8)(u v:Int)(N:Nat)(va:Nat)(l:List Int)(vb:Nat)(q:List Int)(it:Abs.b8):List Abs.b8 :=
 [.cells va (l.flatMap (iw u v)),.cells vb (q.flatMap (iw u v)),M,.cells 0 (rU u v (zr N)),.cells 0 [.fJ σ.length 3],it]
set_option maxHeartbeats 4000000 in
theorem wR{u v:Int}{N:Nat}{M it:Abs.b8}(hN:N≤12):∀(m i:Nat),i+m=N →
  WL T [4,5,8,99,100,101] false fh [(4,.sl σ.length 0 N 0 N 3),(5,.sl σ.length 1 i 0 i 3),(8,.ref σ.length 4 0 0),(99,.sl σ.length 0 N 0 N 3),(100,.int .i64 N),(101,.int .i64 i)]
   (oY σ M u v N N (zr N) i (zr i) it::σ)
   (fun x e σ'=>x=.exit 6∧get e 4=.sl σ.length 0 N 0 N 3∧get e 5=.sl σ.length 1 N 0 N 3∧σ'=oY σ M u v N N (zr N) N (zr N) it::σ)
 |0,i,hi=>by
  refine aE fh.eq_1 ?_;obtain rfl:i=N:=by omega
  simp[-length_flatMap,-map_take]
 |m+1,i,hi=>by
  refine aE fh.eq_1 ?_;have h1:i<N:=by omega
  have z1:=zc h1;have a1:=gY (f:=iw u v) (w:=3) (fun _=>rfl) z1;simp only[iw]at a1;have a2:=eI (f:=iw u v) (w:=3) (fun _=>rfl) (zr N);rw[l8]at a2;have a3:3≤((zr N).flatMap (iw u v)).length-i*3:=by omega
  have a4:=eI (f:=iw u v) (w:=3) (fun _=>rfl) (zr i);rw[l8]at a4;have a5:((zr i).flatMap (iw u v)).take (i*3)=(zr i).flatMap (iw u v):=bh (by omega);have a6:i*3≤((zr i).flatMap (iw u v)).length:=by omega
  have hr:(i+1)*24≤room:=by unfold room;omega
  have h4:=rT h1 (by omega);have c0:(i:Int)<N:=by omega
  have hz:(i:Int)-1∈zr N:=sO.2 (by omega);have hG:=fun S h=>yv (S:=S) (l:=σ.length) (i:=3) (zs:=zr N) (u:=u) (v:=v) (z:=(i:Int)-1) h
  simp only[Gn,hz,decide_true]at hG;have ih:=wR (u:=u) (v:=v) (M:=M) (it:=it) hN m (i+1) (by omega);rw[vJ]at ih;simp[-length_flatMap,-map_take,oY,h1,c0,a1,a3,a5,a6,hr,h4,hG];exact WL.to ih (by simp) (by simp[oY]) fun x e σ' hh=>by simpa[oY]using hh
set_option maxHeartbeats 4000000 in
theorem E1{u v:Int}{N:Nat}{M:Abs.b8}{l:List Int}(hN:1≤N∧N≤12)(hp:l.Perm (zr N)):
  WC (lim T) fj [(90,.bool false),(89,.undef),(4,.sl σ.length 0 N 0 N 3),(5,.sl σ.length 1 0 0 0 3),(8,.ref σ.length 4 0 0),(88,.fJ σ.length 5)] (oY σ M u v N N l 0 [] .dead::σ)
   (fun x e' σ'=>R.mF .ret [(4,.sl σ.length 0 N 0 N 3),(5,.sl σ.length 1 N 0 N 3),(6,.int .i64 0)] (oY σ M u v N N (zr N) N (zr N) .dead::σ)=.mF x e' σ'):=by
 have hlen:l.length=N:=by rw[hp.length_eq,l8]
 cases l with
 |nil=>simp at hlen;omega
 |cons x U =>
  have hS:=EI (σ:=σ) (u:=u) (v:=v) (x:=x) (w:=N) (Rs:=(oY σ M u v N N [] 0 [] .dead).tail) (U:=U) (n:=N) hN.2 (by simpa[Nat.add_comm]using hlen);rw[zO hp]at hS;rw[wT fj.eq_1];simp only[oY,List.tail_cons,gr,br,iw,aY,aL]at hS;simp[-length_flatMap,-map_take,oY,hS];refine WL.to (wR (σ:=σ) (u:=u) (v:=v) (M:=M) (it:=.dead) hN.2 N 0 (by omega)) (by simp) (by simp[oY,zr]) ?_;rintro x' e σ' ⟨rfl,g4,g5,rfl⟩;simp[-length_flatMap,-map_take,g4,g5,oY]
def En(js:List Nat):List D:=js.map fun j => .int .i64 (j:Nat)
def wC(n:Nat)(js:List Nat):List Nat:=(List.range n).filter fun j => !(js.contains j)
theorem zP{js:List Nat}{j:Nat}:D.int .i64 (j:Nat)∈En js↔j∈js:=by
 simp only[En,bg];constructor
 ·rintro⟨a,h1,h2⟩;simp only[D.int.injEq,true_and]at h2;have:a=j:=by omega
  exact this ▸ h1
 ·intro h;exact⟨j,h,rfl⟩
theorem Mm{n:Nat}{js:List Nat}{u:Nat}(hu:u∈wC n js):(wC n (u::js)).length<(wC n js).length:=by
 have e:wC n (u::js)=(wC n js).filter fun j => !decide (j=u):=by
  unfold wC;rw[List.filter_filter];congr 1;funext j;simp[List.contains_cons,Bool.not_or]
 rw[e,List.length_filter_lt_length_iff_exists];exact⟨u,hu,by simp⟩
def Gk(L n:Nat)(js:List Nat):Abs.b8:=.cells 1 (.fJ L 3::.int .i64 (n:Nat)::En js)
def yr(js:List Nat):List Int:=js.reverse.map fun j:Nat=>(j:Int)-1
def ur(L k:Nat):Env:=[(4,.sl L 0 k 0 k 3),(5,.sl L 1 0 0 0 3),(8,.ref L 4 0 0),(88,.fJ L 5)]
theorem yg{u v:Int}{N k:Nat}{M:Abs.b8}{l:List Int}{js:List Nat}:
  ow (oY σ M u v N k l 0 [] (Gk σ.length N js)::σ) σ.length 5=some (.fJ σ.length 3,N,En js,wC N js):=by
 have hl:(rU u v (zr N)).length=N:=by simp[rU,l8]
 simp[ow,oY,Gk,mO,hl,wC,zP]
set_option maxHeartbeats 4000000 in
theorem zn{u v:Int}{N:Nat}{M:Abs.b8}(hN:1≤N∧N≤12):
  ∀(k:Nat) (js:List Nat),js.Nodup→(∀j∈js,j<N)→(wC N js).length=k →
   lim T (.cU [4,5,8,88] (.t 88) 89 90 4 fg fj (ur σ.length js.length) (oY σ M u v N js.length (yr js) 0 [] (Gk σ.length N js)::σ)) =
    some (.mF .ret [(4,.sl σ.length 0 N 0 N 3),(5,.sl σ.length 1 N 0 N 3),(6,.int .i64 0)] (oY σ M u v N N (zr N) N (zr N) .dead::σ)):=by
 intro k;induction k using Nat.strongRecOn with
 |_ k ih =>
 intro js hd hj hk;by_cases hus:wC N js=[]
 ·have hall:∀j,j∈js↔j<N:=by
   intro j;refine⟨hj j,fun hlt=>?_⟩;have h1:j ∉ wC N js:=by rw[hus];simp
   simpa[wC,hlt]using h1
  have hpj:js.Perm (List.range N):=(List.perm_ext_iff_of_nodup hd List.nodup_range).2 fun j=>by rw[hall];simp
  have hpl:(yr js).Perm (zr N):=((List.reverse_perm js).trans hpj).map _;have hjl:js.length=N:=by rw[hpj.length_eq];simp
  have hit:=yg (σ:=σ) (u:=u) (v:=v) (N:=N) (k:=js.length) (M:=M) (l:=yr js) (js:=js);rw[hus]at hit;refine wb fg.eq_1 rfl (by simp[ur]) hit ?_;have hr:=E1 (σ:=σ) (u:=u) (v:=v) (M:=M) hN hpl;rw[hjl];simp[oY,ur,Gk]at hr ⊢;exact hr
 ·have hit:=yg (σ:=σ) (u:=u) (v:=v) (N:=N) (k:=js.length) (M:=M) (l:=yr js) (js:=js);refine yt fg.eq_1 rfl (by simp[ur]) hit hus ?_;intro w hw;have hw2:w<N∧w ∉ js:=by simpa[wC]using hw
  have hnext:=ih _ (by rw[← hk];exact Mm hw) (w::js) (List.nodup_cons.2 ⟨hw2.2,hd⟩) (by intro j hjm;rcases aJ.1 hjm with rfl | hjm;exact hw2.1;exact hj j hjm) rfl;have hjl:js.length≤N:=by
   have:=hd.length_le_of_subset (l₂:=List.range N) (fun j hjm=>by simpa using hj j hjm);simpa using this
  have z1:=zc hw2.1;have hfe:(rU u v (zr N))[w]?=some (.er [.agg [.int .i64 u,.int .i64 v,.int .i64 ((w:Int)-1)],.bool true]):=by simp[rU,z1]
  have hfl:(rU u v (zr N)).length=N:=by simp[rU,l8]
  have hml:yr (w::js)=yr js++[(w:Int)-1]:=by simp[yr]
  have hmn:(yr js).length=js.length:=by simp[yr]
  rw[hml]at hnext;generalize yr js=l at hnext hmn ⊢;have hE:pZ (oY σ M u v N js.length l 0 [] (.cells 1 (.fJ σ.length 3::.int .i64 (N:Nat)::.int .i64 (w:Nat)::En js))::σ) .Hu [.fJ σ.length 5] =
    some (.er [.agg [.int .i64 u,.int .i64 v,.int .i64 ((w:Int)-1)],.bool true],oY σ M u v N js.length l 0 [] (.cells 1 (.fJ σ.length 3::.int .i64 (N:Nat)::.int .i64 (w:Nat)::En js))::σ):=by
   simp[oY,pZ,mO,hfl,hfe]
  have a4:=eI (f:=iw u v) (w:=3) (fun _=>rfl) l;rw[hmn]at a4;have a5:(l.flatMap (iw u v)).take (js.length*3)=l.flatMap (iw u v):=bh (by omega);have a6:js.length*3≤(l.flatMap (iw u v)).length:=by omega
  have hr:(js.length+1)*24≤room:=by unfold room;omega
  simp only[oY,gr]at hE;simp[-length_flatMap,-map_take,ur,oY,Gk,hE,a5,a6,hr];simpa[ur,oY,Gk,En]using hnext
end Go.Proofs.YtnlkaeapgmkbnaaDoor
