import Derived.Test.YtcgippbplkagkaaGreatBase15
import Derived.Test.YtcgippbplkagkaaGreatTab
set_option linter.all false
namespace Go.Rock
open List(length_flatMap map_take)
open Go Go.Abs
structure ej where
 x:Int
 y:Int
 z:Int
 k:Int
structure Rw where
 t:Int
 p:Int
 l:Int
 v:Int
 s:Int
structure aT where
 b:Int
 h:Int
 m:Int
structure bC where
 f:ej
 bY:List Rw
 aS:Int
 lift:Int
 deep:Int
 af:List aT
structure bV where
 name:List UInt8
 aP:List Int
structure aF where
 m:Int
 h:Int
 k:Int
@[simp] theorem ej.eta(p:ej):ej.mk p.x p.y p.z p.k=p:=rfl
@[simp] theorem Rw.eta(p:Rw):Rw.mk p.t p.p p.l p.v p.s=p:=rfl
@[simp] theorem aT.eta(p:aT):aT.mk p.b p.h p.m=p:=rfl
@[simp] theorem aF.eta(p:aF):aF.mk p.m p.h p.k=p:=rfl
@[simp] def ej.enc(f:ej):List D:=[.int .i64 f.x,.int .i64 f.y,.int .i64 f.z,.int .i64 f.k]
@[simp] def Rw.enc(r:Rw):List D:=[.int .i64 r.t,.int .i64 r.p,.int .i64 r.l,.int .i64 r.v,.int .i64 r.s]
@[simp] def aT.enc(r:aT):List D:=[.int .i64 r.b,.int .i64 r.h,.int .i64 r.m]
@[simp] def aF.enc(r:aF):List D:=[.int .i64 r.m,.int .i64 r.h,.int .i64 r.k]
@[simp] def bx(n:Int):List D:=[.int .i64 n]
@[simp] def bC.enc(b:bC):List D:=[.int .i64 b.f.x,.int .i64 b.f.y,.int .i64 b.f.z,.int .i64 b.f.k,.aE b.bY.length (b.bY.flatMap Rw.enc),.int .i64 b.aS,.int .i64 b.lift,.int .i64 b.deep,.aE b.af.length (b.af.flatMap aT.enc)]
@[simp] def bV.enc(m:bV):List D:=[.str m.name,.aE m.aP.length (m.aP.flatMap bx)]
def stE(s:List aF):D:=.aE s.length (s.flatMap aF.enc)
def cK(n lo hi:Int):Bool:=decide (lo≤n) && decide (n≤hi)
theorem bD{n lo hi:Int}:cK n lo hi=true↔lo≤n∧n≤hi:=by simp[cK]
def ej.size(f:ej):Int:=f.x*f.y*f.z
def ej.valid(f:ej):Bool:=cK f.x 1 8 && (cK f.y 1 8 && (cK f.z 1 8 && (decide (f.size≤64) && cK f.k 1 6)))
theorem ej.mu{f:ej}:f.valid=true↔(1≤f.x∧f.x≤8)∧(1≤f.y∧f.y≤8)∧(1≤f.z∧f.z≤8)∧f.size≤64∧(1≤f.k∧f.k≤6):=by
 simp[ej.valid,cK,and_assoc]
def ej.shape(f:ej):Int:=if f.valid then 0 else 1
def nA(c:UInt8):Bool:=decide (97≤c.toNat) && decide (c.toNat≤122)
def digit(c:UInt8):Bool:=decide (48≤c.toNat) && decide (c.toNat≤57)
def j9(i:Nat):List UInt8→Bool
 |[]=>true
 |c::l=>(nA c || (decide (i≠0) && digit c)) && j9 (i+1) l
def named(s:List UInt8):Bool:=j9 0 s && cK s.length 1 16
def ej.model(f:ej)(m:bV):Int:=if named m.name then(if(m.aP.length:Int)=f.k*f.size∧eH m.aP (fun n=>cK n (-100000) 100000)=true then 0 else 1)else 5
def ej.each(f:ej)(met:List (List UInt8)):List bV→Int
 |[]=>0
 |m::l=>if f.model m=0 then(if met.contains m.name then 6 else f.each (met++[m.name]) l)else f.model m
def ej.kT(f:ej)(l:List bV):Int:=if cK l.length 1 40 then f.each [] l else 3
def er(f:ej)(l:List bV):Int:=if f.valid then f.kT l else 1
def Rw.alone(r:Rw):Bool:=cK r.t 0 400 && (cK r.p 1 10000 && (cK r.l 0 4000 && (cK r.s 0 2000 && (decide (r.l<r.v) && decide (r.v≤4000)))))
def Rw.od(o r:Rw):Bool := !(decide (r.t≤o.t) || (decide (r.p≤o.p) || (decide (r.l≤o.l) || decide (r.s<o.s))))
def mV:List Rw→Bool
 |o::r::l=>o.od r && mV (r::l)
 |_=>true
def oq(t:List Rw):Bool:=cK t.length 2 20 && (eH t Rw.alone && mV t)
def aT.ok(size:Int)(used:List Int)(w:aT):Bool:=cK w.b 0 (size-1) && (!used.contains w.b && (cK w.h 0 3000 && cK w.m 0 1000000))
def gR(size:Int)(used:List Int):List aT→Bool
 |[]=>true
 |w::l=>w.ok size used && gR size (used++[w.b]) l
def bC.size(b:bC):Int:=b.f.size
def bC.ok1(b:bC):Bool:=b.f.valid && (decide (4≤b.f.k) && (oq b.bY && (cK b.aS 1 100000 && (cK b.lift 0 1000 && (cK b.deep 0 3000 && decide (b.af.length≤8))))))
def bC.valid(b:bC):Bool:=b.ok1 && gR b.size [] b.af
def bC.n(b:bC):Nat:=b.size.toNat
def oc(b:bC)(m:bV)(k:Nat):List Int:=(m.aP.drop (k*b.n)).take b.n
def ju(b:bC)(m:bV)(k:Nat)(i:Nat):Int:=(m.aP[k*b.n+i]?).getD 0
def hold(b:bC)(m:bV)(i:Nat):Int:=ju b m 0 i
def yL(b:bC)(m:bV)(i:Nat):Int:=ju b m 1 i
def yQ(b:bC)(m:bV)(i:Nat):Int:=ju b m 2 i
def feed(b:bC)(m:bV)(i:Nat):Int:=ju b m 3 i
def fits(b:bC)(m:bV):Bool:=decide (er b.f [m]=0) && (eH (oc b m 0) (fun n=>cK n 1000 100000) && (eH (oc b m 1) (fun n=>cK n 0 1000) && (eH (oc b m 2) (fun n=>cK n 0 3000) && eH (oc b m 3) (fun n=>cK n 0 1000))))
def Bd(b:bC)(m:bV):Bool:=b.valid && fits b m
def cS(b:bC)(m:bV):List aF:=(List.range b.n).map fun i=>⟨hold b m i,hold b m i*yQ b m i,0⟩
def aF.valid(x:aF):Bool:=cK x.m 1 1000000 && (cK x.h 0 10000000000 && cK x.k 0 1000000000000)
def pA(b:bC)(s:List aF):Bool:=decide ((s.length:Int)=b.size) && eH s aF.valid
def weight(b:bC)(i:Nat):Int:=((i / (b.f.x.toNat*b.f.y.toNat):Nat):Int)*b.lift
def down(n d:Int):Int:=n / d
def aZ(s:List aF)(i:Nat):aF:=(s[i]?).getD ⟨0,0,0⟩
def ka(x:aF)(out:Int)(r:Rw):Int:=if r.l*x.m≤x.h then max out r.p else out
def gH(b:bC)(m:bV)(s:List aF)(i:Nat):Int :=
 b.bY.foldl (ka (aZ s i)) (max 0 (weight b i+down (b.aS*((aZ s i).m-hold b m i)) (hold b m i)))
def bh(b:bC)(m:bV)(s:List aF):List Int:=(List.range s.length).map (gH b m s)
def oC(b:bC)(i:Nat):List (Nat×Nat) :=
 (if(i+1)%b.f.x.toNat≠0 then [(i,i+1)]else [])++((if i / b.f.x.toNat%b.f.y.toNat≠b.f.y.toNat-1 then [(i,i+b.f.x.toNat)]else [])++(if i+b.f.x.toNat*b.f.y.toNat<b.n then [(i,i+b.f.x.toNat*b.f.y.toNat)]else []))
def oj(b:bC):List (Nat×Nat):=(List.range b.n).flatMap (oC b)
def aF.out(x:aF)(m:Int):aF:=⟨m,(x.h*m).tdiv x.m,(x.k*m).tdiv x.m⟩
def aF.move(x o:aF)(sign:Int):aF:=⟨x.m+sign*o.m,x.h+sign*o.h,x.k+sign*o.k⟩
def vF(b:bC)(m:bV)(s:List aF)(p:List Int)(l:Nat×Nat):Option ((Nat×Nat)×aF) :=
 let d:=(p[l.1]?).getD 0-weight b l.1-(p[l.2]?).getD 0+weight b l.2
 let l':=if d<0 then(l.2,l.1)else l
 let d':=if d<0 then -d else d
 let q:=min ((min (yL b m l'.1) (yL b m l'.2)*d').tdiv 1000) ((aZ s l'.1).m.tdiv 8)
 if 0<q then some (l',(aZ s l'.1).out q)else none
def BF(es:List ((Nat×Nat)×aF))(k:Nat×Nat)(o:aF):List ((Nat×Nat)×aF) :=
 match es.findIdx? (fun e=>e.1 == k)with
 |some j=>es.set j (k,o)
 |none=>es++[(k,o)]
def iD(b:bC)(m:bV)(s:List aF)(p:List Int)(es:List ((Nat×Nat)×aF))(l:Nat×Nat):List ((Nat×Nat)×aF) :=
 match vF b m s p l with
 |some e=>BF es e.1 e.2
 |none=>es
def nr(b:bC)(m:bV)(s:List aF):List ((Nat×Nat)×aF):=(oj b).foldl (iD b m s (bh b m s)) []
def dE(s:List aF)(i:Nat)(o:aF)(sign:Int):List aF:=s.set i ((aZ s i).move o sign)
def cP(s:List aF)(e:(Nat×Nat)×aF):List aF:=dE (dE s e.1.1 e.2 (-1)) e.1.2 e.2 1
def aT.given(w:aT)(rate:Int):aF:=⟨-rate,-rate*w.h,-rate*w.m⟩
def jv(s:List aF)(w:aT)(rate:Int):aF:=if rate<0 then⟨0,0,0⟩else(aZ s w.b.toNat).out (min rate ((aZ s w.b.toNat).m.tdiv 8))
def lU(s next:List aF)(w:aT)(rate:Int):List aF:=if rate<0 then dE next w.b.toNat (w.given rate) 1 else dE next w.b.toNat (jv s w rate) (-1)
def Cq(b:bC)(m:bV)(i:Nat):aF:=⟨feed b m i,feed b m i*b.deep,0⟩
def rA(b:bC)(m:bV)(s:List aF)(aD:List Int):List aF :=
 let s1:=(nr b m s).foldl cP s
 let s2:=(b.af.zip aD).foldl (fun n wr=>lU s n wr.1 wr.2) s1
 (List.range s.length).foldl (fun n i=>dE n i (Cq b m i) 1) s2
def ct(b:bC)(s:List aF)(aD:List Int):List aF:=(b.af.zip aD).map fun wr=>jv s wr.1 wr.2
def tick(b:bC)(m:bV)(s:List aF)(aD:List Int):Option (List aF×List aF) :=
 if pA b (rA b m s aD)then some (rA b m s aD,ct b s aD)else none
def kf(b:bC)(l:List Int):Int:=if l.length=b.af.length then(if eH l (fun n=>cK n (-100000) 100000)then 0 else 2)else 1
def gf{α:Type}(f:α→Int):List α→Int
 |[]=>0
 |x::l=>if f x=0 then gf f l else f x
def sG(b:bC)(plan:List (List Int)):Int:=if 200<plan.length then 3 else gf (kf b) plan
def lu(b:bC)(m:bV):List (List aF)→List (List aF)→List aF→List (List Int)→Option (List (List aF)×List (List aF))
 |ss,ys,_,[]=>some (ss,ys)
 |ss,ys,s,r::plan =>
  match tick b m s r with
  |some (s',y)=>lu b m (ss++[s']) (ys++[y]) s' plan
  |none=>none
def run(b:bC)(m:bV)(plan:List (List Int)):Option (List (List aF)×List (List aF)):=lu b m [cS b m] [] (cS b m) plan
end Go.Rock
namespace Go.Proofs.YtcgippbplkagkaaGreat
open List(length_flatMap map_take)
open Go Go.Abs Go.Rock
variable {σ:SK}
theorem DV{a b A B:Int}(h1:1≤a)(h2:a≤A)(h3:1≤b)(h4:b≤B):1≤a*b∧a*b≤A*B :=
 ⟨by have:=Int.mul_pos (a:=a) (b:=b) (by omega) (by omega);omega,r7 h2 h4 (by omega) (by omega)⟩
theorem mq{a b A B:Int}(h1:0≤a)(h2:a≤A)(h3:0≤b)(h4:b≤B):0≤a*b∧a*b≤A*B :=
 ⟨oI h1 h3,r7 h2 h4 h3 (by omega)⟩
theorem ej.sz{f:ej}(hx:1≤f.x∧f.x≤8)(hy:1≤f.y∧f.y≤8)(hz:1≤f.z∧f.z≤8):(1≤f.x*f.y∧f.x*f.y≤64)∧(1≤f.x*f.y*f.z∧f.x*f.y*f.z≤512):=by
 have h1:=DV hx.1 hx.2 hy.1 hy.2;have h2:=DV h1.1 h1.2 hz.1 hz.2;exact⟨by omega,by omega⟩
theorem dG{a b c:Int}:bG T (.call false bN [.int .i64 a,.int .i64 b,.int .i64 c] σ)=some (.val (.bool (cK a b c)) σ):=by
 refine aA yB nR.eq_1 rfl ?_;by_cases h:b≤a<;>simp[-length_flatMap,-map_take,h,cK]
theorem j5{a b c:Int}:bG T (.call false cC [.int .i64 a,.int .i64 b,.int .i64 c] σ)=some (.val (.bool (cK a b c)) σ):=by
 refine aA xf mD.eq_1 rfl ?_;by_cases h:b≤a<;>simp[-length_flatMap,-map_take,h,cK]
theorem kW{a b c:Int}:bG T (.call false ed [.int .i64 a,.int .i64 b,.int .i64 c] σ)=some (.val (.bool (cK a b c)) σ):=by
 refine aA xi mN.eq_1 rfl ?_;by_cases h:b≤a<;>simp[-length_flatMap,-map_take,h,cK]
theorem w9{f:ej}(hx:1≤f.x∧f.x≤8)(hy:1≤f.y∧f.y≤8)(hz:1≤f.z∧f.z≤8):bG T (.call false cY [.agg [.int .i64 f.x,.int .i64 f.y,.int .i64 f.z,.int .i64 f.k]] σ)=some (.val (.int .i64 f.size) σ):=by
 refine aA r8 ia.eq_1 rfl ?_;obtain⟨h1,h2⟩:=ej.sz hx hy hz;have w1:=eW (n:=f.x*f.y) (by omega);have w2:=eW (n:=f.x*f.y*f.z) (by omega);simp[-length_flatMap,-map_take,w1,w2,ej.size]
theorem AI{f:ej}:bG T (.call false eg [.agg [.int .i64 f.x,.int .i64 f.y,.int .i64 f.z,.int .i64 f.k]] σ)=some (.val (.bool f.valid) σ):=by
 refine aA tt iS.eq_1 rfl ?_;cases hc1:cK f.x 1 8
 ·simp[-length_flatMap,-map_take,j5,ej.valid,hc1]
 cases hc2:cK f.y 1 8
 ·simp[-length_flatMap,-map_take,j5,ej.valid,hc1,hc2]
 cases hc3:cK f.z 1 8
 ·simp[-length_flatMap,-map_take,j5,ej.valid,hc1,hc2,hc3]
 have hb:=fun σ=>w9 (σ:=σ) (f:=f) (bD.1 hc1) (bD.1 hc2) (bD.1 hc3)
 by_cases hc4:f.size≤64
 ·simp[-length_flatMap,-map_take,j5,ej.valid,hc1,hc2,hc3,hc4,hb]
 ·simp[-length_flatMap,-map_take,j5,ej.valid,hc1,hc2,hc3,hc4,hb]
theorem Da{f:ej}:bG T (.call false dp [.agg [.int .i64 f.x,.int .i64 f.y,.int .i64 f.z,.int .i64 f.k]] σ)=some (.val (.int .i64 f.shape) σ):=by
 refine aA tq iR.eq_1 rfl ?_;have hb:=fun σ=>AI (σ:=σ) (f:=f)
 cases hc:f.valid<;>rw[hc]at hb<;>simp[-length_flatMap,-map_take,hb,ej.shape,hc]
theorem hJ{f:ej}:bG T (.call false gA [.agg [.int .i64 f.x,.int .i64 f.y,.int .i64 f.z,.int .i64 f.k]] σ)=some (.val (.int .i64 f.shape) σ):=by
 refine aA tO jD.eq_1 rfl ?_;have hb:=fun σ=>Da (σ:=σ) (f:=f)
 simp[-length_flatMap,-map_take,hb]
theorem Dl{s:List UInt8}(hl:s.length≤1000000000):∀(m i:Nat),i+m=s.length →
  WL T [0,6,7] false kZ [(0,.str s),(6,.int .i64 s.length),(7,.int .i64 i)] σ
   (fun x e σ'=>σ'=σ∧if j9 i (s.drop i)then x=.exit 0∧get e 0=.str s else x=.ret∧get e 2=.bool false)
 |0,i,hi=>by
  refine aB kZ.eq_1 ?_;have h1:¬i<s.length:=by omega
  have h2:s.drop i=[]:=az (by omega);simp[-length_flatMap,-map_take,h1,h2,j9]
 |m+1,i,hi=>by
  refine aB kZ.eq_1 ?_;have h1:i<s.length:=by omega
  obtain⟨c,hc⟩:=gE h1;have h4:=db h1 (by omega);have h5:=cO hc;have ih:=Dl hl m (i+1) (by omega);rw[h5,j9];have hd:wV .sO [.str s,.int .i64 (i:Int)]=some (.int .u8 c.toNat):=by simp[wV,hc]
  by_cases hc1:97≤c.toNat
  ·by_cases hc2:c.toNat≤122
   ·have hlet:nA c=true:=by simp[nA,hc1,hc2]
    simp[-length_flatMap,-map_take,h1,h4,hd,hlet,show(97:Int)≤(c.toNat:Int)by omega,show(c.toNat:Int)≤122 by omega];exact WL.to ih (by simp) rfl fun x e σ' hh=>by simpa[hlet]using hh
   ·have hlet:nA c=false:=by simp[nA,hc2]
    have hdig:digit c=false:=by simp[digit];omega
    by_cases hi0:i=0
    ·subst hi0;have hd0:wV .sO [.str s,.int .i64 0]=some (.int .u8 c.toNat):=by simpa using hd
     have h1':0<s.length:=h1;simp[-length_flatMap,-map_take,h1',h4,hd0,hlet,hdig,show(97:Int)≤(c.toNat:Int)by omega,show ¬(c.toNat:Int)≤122 by omega]
    ·simp[-length_flatMap,-map_take,h1,h4,hd,hlet,hdig,hi0,show(97:Int)≤(c.toNat:Int)by omega,show ¬(c.toNat:Int)≤122 by omega,show ¬(c.toNat:Int)<48 by omega,show(57:Int)<(c.toNat:Int)by omega,show(57:Nat)<c.toNat by omega,show ¬c.toNat<48 by omega]
  ·have hlet:nA c=false:=by simp[nA,hc1]
   by_cases hi0:i=0
   ·subst hi0;have hd0:wV .sO [.str s,.int .i64 0]=some (.int .u8 c.toNat):=by simpa using hd
    have h1':0<s.length:=h1;simp[-length_flatMap,-map_take,h1',h4,hd0,hlet,show ¬(97:Int)≤(c.toNat:Int)by omega]
   ·by_cases hc3:c.toNat<48
    ·have hdig:digit c=false:=by simp[digit];omega
     simp[-length_flatMap,-map_take,h1,h4,hd,hlet,hdig,hi0,show ¬(97:Int)≤(c.toNat:Int)by omega,show(c.toNat:Int)<48 by omega,hc3]
    ·by_cases hc4:57<c.toNat
     ·have hdig:digit c=false:=by simp[digit];omega
      simp[-length_flatMap,-map_take,h1,h4,hd,hlet,hdig,hi0,show ¬(97:Int)≤(c.toNat:Int)by omega,show ¬(c.toNat:Int)<48 by omega,show(57:Int)<(c.toNat:Int)by omega,hc3,hc4]
     ·have hdig:digit c=true:=by simp[digit];omega
      simp[-length_flatMap,-map_take,h1,h4,hd,hlet,hdig,hi0,show ¬(97:Int)≤(c.toNat:Int)by omega,show ¬(c.toNat:Int)<48 by omega,show ¬(57:Int)<(c.toNat:Int)by omega,hc3,hc4];exact WL.to ih (by simp) rfl fun x e σ' hh=>by simpa[hlet,hdig,hi0]using hh
theorem zG{s:List UInt8}(hl:s.length≤1000000000):bG T (.call false lM [.str s] σ)=some (.val (.bool (named s)) σ):=by
 refine aA yo nH.eq_1 rfl ?_;have hp:wV .wL [.str s]=some (.int .i64 s.length):=rfl;simp[-length_flatMap,-map_take,hp];refine WL.to (Dl (σ:=[]::σ) hl s.length 0 (by omega)) (by simp) rfl ?_;rintro x e σ' ⟨rfl,h⟩;simp only[aO]at h;unfold named;cases hc:j9 0 s
 ·simp[hc]at h;simp[h]
 ·simp[hc]at h;simp[-length_flatMap,-map_take,h,hp,j5]
theorem Kh{a:Int}:bG T (.call false dt [.int .i64 a] σ)=some (.val (.bool (cK a (-100000) 100000)) σ):=by
 refine aA rW gJ.eq_1 rfl ?_;simp[-length_flatMap,-map_take,j5]
theorem Ej{l:List Int}{p:Int→Bool}{fv:D}(hl:l.length≤1000000000)(ht:lz T fv (fun n => .int .i64 n) p l)(hc:fv.cells=some [fv]):
  bG T (.call false j2 [.aE l.length (l.flatMap bx),fv] σ)=some (.val (.bool (eH l p)) σ) :=
 zP (Co .i64) (f:=j2) (g:=kI) (h:=bU) (i:=dj) (l:=l) (p:=p) (fv:=fv) rfl rfl rfl rfl (by omega) ht hc
theorem xV{f:ej}(hf:f.valid=true):(1≤f.size∧f.size≤64)∧1≤f.k*f.size∧f.k*f.size≤384:=by
 obtain⟨h1,h2,h3,h4,h5⟩:=ej.mu.1 hf;obtain⟨_,h6⟩:=ej.sz h1 h2 h3;have h7:=DV h5.1 h5.2 (b:=f.size) (B:=64) (by unfold ej.size;omega) h4;exact⟨⟨by unfold ej.size;omega,h4⟩,by omega,by omega⟩
theorem Kk{f:ej}{m:bV}(hf:f.valid=true)(hn:m.name.length≤1000000000)(hl:m.aP.length≤1000000000):bG T (.call false fI [.agg [.int .i64 f.x,.int .i64 f.y,.int .i64 f.z,.int .i64 f.k],.agg [.str m.name,.aE m.aP.length (m.aP.flatMap bx)]] σ)=some (.val (.int .i64 (f.model m)) σ):=by
 refine aA tp iQ.eq_1 rfl ?_;obtain⟨h1,h2,h3,h4,h5⟩:=ej.mu.1 hf;obtain⟨h6,h7⟩:=xV hf;have w1:=eW (n:=f.k*f.size) (by omega);have hb:=fun σ=>w9 (σ:=σ) (f:=f) h1 h2 h3
 have ha:=fun σ=>Ej (σ:=σ) (l:=m.aP) (p:=fun n=>cK n (-100000) 100000) (fv:=.fn dt [] []) hl (lz.fn fun x _ σ=>by simpa using Kh) rfl
 cases hc1:named m.name
 ·simp[-length_flatMap,-map_take,zG hn,hc1,ej.model]
 ·by_cases hc2:(m.aP.length:Int)=f.k*f.size
  ·cases hc3:eH m.aP (fun n=>cK n (-100000) 100000)<;>
    simp[-length_flatMap,-map_take,zG hn,hc1,hc2,hc3,ej.model,hb,ha,w1]
  ·simp[-length_flatMap,-map_take,zG hn,hc1,hc2,ej.model,hb,w1]
end Go.Proofs.YtcgippbplkagkaaGreat
namespace Go.Inj
open List(length_flatMap map_take)
open Go Go.Abs
structure jB where
 f:Nat
 t:Nat
 lo:Int
 hi:Int
@[simp] theorem jB.eta(p:jB):jB.mk p.f p.t p.lo p.hi=p:=rfl
@[simp] def jB.enc(x:jB):List D:=[.int .i64 x.f,.int .i64 x.t,.int .i64 x.lo,.int .i64 x.hi]
structure rX(n:Nat)(d:Nat→Nat→Int)(l:List jB):Prop where
 sz:1≤n∧n≤12
 len:l.length≤60
 self:∀u,d u u=0
 nn:∀u v,0≤d u v
 le:∀u v,d u v≤1000000
 tri:∀u v w,d u w≤d u v+d v w
 JP:∀x∈l,x.f<n∧x.t<n∧x.f≠x.t∧0≤x.lo∧x.lo≤d x.f x.t∧d x.f x.t≤x.hi∧1≤x.hi∧x.hi≤1000000
def pa(R:List Int)(u v:Nat):Int:=(R[u*12+v]?).getD 0
abbrev Tb:=List Int×List Int
def J2(x:jB)(i v:Nat)(K:Tb):Tb :=
 if x.hi+pa K.1 x.t v<pa K.1 x.f v then(K.1.set (x.f*12+v) (x.hi+pa K.1 x.t v),K.2.set (x.f*12+v) i)else K
def mZ(x:jB)(i:Nat):Nat→Nat→Tb→Tb
 |_,0,K=>K
 |v,m+1,K=>mZ x i (v+1) m (J2 x i v K)
def kb(n:Nat):Nat→List jB→Tb→Tb
 |_,[],K=>K
 |i,x::l,K=>kb n (i+1) l (mZ x i 0 n K)
structure Kn(n:Nat)(d:Nat→Nat→Int)(l:List jB)(K:Tb):Prop where
 l1:K.1.length=144
 l2:K.2.length=144
 rO:∀r∈K.1,0≤r∧r≤1000000
 ge:∀u v,u<n→v<n→d u v≤pa K.1 u v
 self:∀u,u<n→pa K.1 u u=0
 by':∀u v,u<n→v<n→pa K.2 u v = -1∨∃(i:Nat) (x:jB),pa K.2 u v=i∧l[i]?=some x∧x.f=u∧x.hi+pa K.1 x.t v≤pa K.1 u v
variable {n:Nat} {d:Nat→Nat→Int} {l:List jB} {K:Tb}
theorem tI{n u v:Nat}(hn:n≤12)(hu:u<n)(hv:v<n):u*12+v<144:=by omega
theorem D4{R:List Int}(hR:R.length=144){u v:Nat}(hn:n≤12)(hu:u<n)(hv:v<n):R[u*12+v]?=some (pa R u v):=by
 have h:=tI hn hu hv;simp[pa,au (show u*12+v<R.length by omega)]
theorem Kn.sJ(h:Kn n d l K){u v:Nat}(hn:n≤12)(hu:u<n)(hv:v<n):0≤pa K.1 u v∧pa K.1 u v≤1000000:=h.rO _ (aj (D4 h.l1 hn hu hv))
theorem rF{R:List Int}(hR:R.length=144){u v a c:Nat}{r:Int}(hn:n≤12)(hu:u<n)(hv:v<n)(ha:a<n)(hc:c<n):pa (R.set (a*12+c) r) u v=if u=a∧v=c then r else pa R u v:=by
 have h:=tI hn ha hc;unfold pa;rw[List.getElem?_set];by_cases he:a*12+c=u*12+v
 ·have:u=a∧v=c:=by omega
  rw[if_pos he,if_pos this,if_pos (by omega)];rfl
 ·have:¬(u=a∧v=c):=by rintro⟨rfl,rfl⟩;exact he rfl
  rw[if_neg he,if_neg this]
def ur(R:List Int):Int:=R.foldr (· + ·) 0
theorem Ed:∀(R:List Int) (i:Nat) (r:Int) {x:Int},R[i]?=some x→ur (R.set i r)=ur R-x+r
 |[],i,r,x,h=>by simp at h
 |a::R,0,r,x,h=>by simp only[bH,ae]at h;subst h;simp[ur];omega
 |a::R,i+1,r,x,h=>by
  have:=Ed R i r (x:=x) (by simpa using h);simp only[ur,List.set_cons_succ,List.foldr_cons]at this ⊢;omega
theorem JR(hw:rX n d l)(h:Kn n d l K){i v:Nat}{x:jB}(hx:l[i]?=some x)(hv:v<n):Kn n d l (J2 x i v K)∧(J2 x i v K=K∨ur (J2 x i v K).1<ur K.1):=by
 obtain⟨hf,ht,hft,h1,h2,h3,h4,h5⟩:=hw.JP x (aj hx);have hn:=hw.sz.2;unfold J2;split
 ·rename_i hc;have b1:=h.sJ hn ht hv;have b2:=h.sJ hn hf hv;have hvf:v≠x.f:=by
   rintro rfl;have:=h.self _ hf;omega
  have mono:∀u w,u<n→w<n→pa (K.1.set (x.f*12+v) (x.hi+pa K.1 x.t v)) u w≤pa K.1 u w:=by
   intro u w hu hw';rw[rF h.l1 hn hu hw' hf hv];split
   ·rename_i he;obtain⟨rfl,rfl⟩:=he;omega
   ·exact Int.le_refl _
  refine⟨⟨by simp[h.l1],by simp[h.l2],?_,?_,?_,?_⟩,Or.inr ?_⟩
  ·intro r hr;rcases List.mem_or_eq_of_mem_set hr with h6 | rfl
   ·exact h.rO r h6
   ·omega
  ·intro u w hu hw';simp only;rw[rF h.l1 hn hu hw' hf hv];split
   ·rename_i he;obtain⟨rfl,rfl⟩:=he;have:=hw.tri x.f x.t w;have:=h.ge x.t w ht hw';omega
   ·exact h.ge u w hu hw'
  ·intro u hu;simp only;rw[rF h.l1 hn hu hu hf hv,if_neg (by rintro⟨rfl,rfl⟩;exact hvf rfl)];exact h.self u hu
  ·intro u w hu hw';simp only;rw[rF h.l2 hn hu hw' hf hv];split
   ·rename_i he;obtain⟨rfl,rfl⟩:=he;refine Or.inr ⟨i,x,rfl,hx,rfl,?_⟩;rw[rF h.l1 hn ht hv hf hv,rF h.l1 hn hf hv hf hv,if_neg (by rintro⟨h6,_⟩;exact hft h6.symm),if_pos ⟨rfl,rfl⟩];exact Int.le_refl _
   ·rename_i he;rcases h.by' u w hu hw' with h6 | ⟨j,y,h6,h7,h8,h9⟩
    ·exact Or.inl h6
    ·refine Or.inr ⟨j,y,h6,h7,h8,?_⟩;have h10:=(hw.JP y (aj h7)).2.1;have h11:=mono y.t w h10 hw';rw[rF h.l1 hn hu hw' hf hv,if_neg he];omega
  ·simp only;rw[Ed _ _ _ (D4 h.l1 hn hf hv)];omega
 ·exact⟨h,Or.inl rfl⟩
theorem ux(hw:rX n d l){i:Nat}{x:jB}(hx:l[i]?=some x):∀(m v:Nat) (K:Tb),v+m=n→Kn n d l K→Kn n d l (mZ x i v m K)∧(mZ x i v m K=K∨ur (mZ x i v m K).1<ur K.1)
 |0,v,K,hv,h=>⟨h,Or.inl rfl⟩
 |m+1,v,K,hv,h=>by
  obtain⟨h1,h2⟩:=JR hw h hx (v:=v) (by omega);obtain⟨h3,h4⟩:=ux hw hx m (v+1) _ (by omega) h1;refine⟨h3,?_⟩;simp only[mZ];rcases h4 with h4 | h4
  ·rw[h4];exact h2
  ·rcases h2 with h2 | h2
   ·rw[h2]at h4 ⊢;exact Or.inr h4
   ·exact Or.inr (by omega)
theorem vc(hw:rX n d l):∀(t:List jB) (i:Nat) (K:Tb),l.drop i=t→Kn n d l K→Kn n d l (kb n i t K)∧(kb n i t K=K∨ur (kb n i t K).1<ur K.1)
 |[],i,K,ht,h=>⟨h,Or.inl rfl⟩
 |x::t,i,K,ht,h=>by
  have hx:l[i]?=some x:=by
   have:(l.drop i)[0]?=some x:=by rw[ht];rfl
   simpa using this
  have ht':l.drop (i+1)=t:=by
   have h5:=cO hx;rw[ht]at h5;exact(List.cons.inj h5).2.symm
  obtain⟨h1,h2⟩:=ux hw hx n 0 K (by omega) h;obtain⟨h3,h4⟩:=vc hw t (i+1) _ ht' h1;refine⟨h3,?_⟩;simp only[kb];rcases h4 with h4 | h4
  ·rw[h4];exact h2
  ·rcases h2 with h2 | h2
   ·rw[h2]at h4 ⊢;exact Or.inr h4
   ·exact Or.inr (by omega)
theorem JK:∀{R:List Int},(∀r∈R,0≤r)→0≤ur R
 |[],h=>Int.le_refl _
 |a::R,h=>by
  have h1:=JK (R:=R) fun r hr=>h r (List.mem_cons_of_mem _ hr)
  have h2:=h a (List.mem_cons_self ..);simp only[ur,List.foldr_cons]at h1 ⊢;omega
def vL(p:Nat):List Int:=(List.range 144).map fun k=>if k<p then(if k / 12=k%12 then 0 else 1000000)else 0
def Bt(p:Nat):List Int:=(List.range 144).map fun k=>if k<p then -1 else 0
def wT(p:Nat):Tb:=(vL p,Bt p)
theorem I3{p:Nat}(hp:p<144)(h:p / 12≠p%12):(vL p).set p 1000000=vL (p+1):=by
 apply List.ext_getElem
 ·simp[vL]
 ·intro k h1 h2;simp only[vL,List.getElem_set,List.getElem_map,List.getElem_range];by_cases hk:p=k
  ·subst hk;simp[h]
  ·rw[if_neg hk];have:(k<p+1)=(k<p):=propext (by omega);simp only[this]
theorem EE{p:Nat}(h:p / 12=p%12):vL p=vL (p+1):=by
 unfold vL;apply List.map_congr_left;intro k _;by_cases hk:p=k
 ·subst hk;simp[h]
 ·have:(k<p+1)=(k<p):=propext (by omega);simp only[this]
theorem I2{p:Nat}(hp:p<144):(Bt p).set p (-1)=Bt (p+1):=by
 apply List.ext_getElem
 ·simp[Bt]
 ·intro k h1 h2;simp only[Bt,List.getElem_set,List.getElem_map,List.getElem_range];by_cases hk:p=k
  ·subst hk;simp
  ·rw[if_neg hk];have:(k<p+1)=(k<p):=propext (by omega);simp only[this]
theorem z8(p:Nat):(wT p).1.length=144∧(wT p).2.length=144:=by simp[wT,vL,Bt]
theorem I4:wT 0=(List.replicate 144 0,List.replicate 144 0):=by simp[wT,vL,Bt,List.map_const']
theorem Kn.wT(hw:rX n d l):Kn n d l (wT 144):=by
 have hn:=hw.sz.2;have key:∀u v,u<n→v<n→pa (vL 144) u v=if u=v then 0 else 1000000:=by
  intro u v hu hv;have h:=tI hn hu hv;unfold pa vL;rw[cl,List.getElem?_range h];simp only[aM,dK,if_pos h];have h1:(u*12+v) / 12=u:=by omega
  have h2:(u*12+v)%12=v:=by omega
  rw[h1,h2]
 refine⟨(z8 144).1,(z8 144).2,?_,?_,?_,?_⟩
 ·intro r hr;simp only[Inj.wT,vL,bp,List.mem_range]at hr;obtain⟨k,hk,rfl⟩:=hr;rw[if_pos hk];split<;>omega
 ·intro u v hu hv;simp only[Inj.wT];rw[key u v hu hv];split
  ·rename_i h;subst h;rw[hw.self];omega
  ·exact hw.le u v
 ·intro u hu;simp only[Inj.wT];rw[key u u hu hu,if_pos rfl]
 ·intro u v hu hv;left;have h:=tI hn hu hv;simp only[Inj.wT];unfold pa Bt;rw[cl,List.getElem?_range h];simp[h]
theorem Jr(hw:rX n d l)(h:Kn n d l K){x:jB}(hx:x∈l):¬pa K.1 x.f x.t<x.lo:=by
 obtain⟨hf,ht,hft,h1,h2,h3,h4,h5⟩:=hw.JP x hx;have:=h.ge _ _ hf ht;omega
def pJ(K:Tb)(x:jB)(u v:Nat):Int:=x.lo-pa K.1 x.f u-pa K.1 v x.t
def hI(K:Tb)(u v:Nat):Nat→List jB→Int×Int→Int×Int
 |_,[],r=>r
 |i,x::l,r=>hI K u v (i+1) l (if r.1<pJ K x u v then(pJ K x u v,(i:Int))else r)
def jU(K:Tb)(u v:Nat)(l:List jB):Int×Int:=if u=v then(0,-1)else hI K u v 0 l (0,-1)
theorem Gh(hw:rX n d l)(h:Kn n d l K){x:jB}(hx:x∈l){u v:Nat}(hu:u<n)(hv:v<n):pJ K x u v≤d u v ∧ -2000000≤pJ K x u v:=by
 obtain⟨hf,ht,hft,h1,h2,h3,h4,h5⟩:=hw.JP x hx;have hn:=hw.sz.2;have a1:=h.ge _ _ hf hu;have a2:=h.ge _ _ hv ht;have a3:=hw.tri x.f u x.t;have a4:=hw.tri u v x.t;have a5:=h.sJ hn hf hu;have a6:=h.sJ hn hv ht;unfold pJ;omega
theorem uZ(hw:rX n d l)(h:Kn n d l K){u v:Nat}(hu:u<n)(hv:v<n):∀(t:List jB) (i:Nat) (r:Int×Int),l.drop i=t→0≤r.1→r.1≤d u v→(-1≤r.2∧r.2<l.length) →
  (0≤(hI K u v i t r).1∧(hI K u v i t r).1≤d u v)∧(-1≤(hI K u v i t r).2∧(hI K u v i t r).2<l.length)
 |[],i,r,ht,h1,h2,h3=>⟨⟨h1,h2⟩,h3⟩
 |x::t,i,r,ht,h1,h2,h3=>by
  have hx:l[i]?=some x:=by
   have:(l.drop i)[0]?=some x:=by rw[ht];rfl
   simpa using this
  have hi:i<l.length:=(an.1 hx).1;have ht':l.drop (i+1)=t:=by
   have h5:=cO hx;rw[ht]at h5;exact(List.cons.inj h5).2.symm
  have he:=Gh hw h (aj hx) hu hv;simp only[hI];refine uZ hw h hu hv t (i+1) _ ht' ?_ ?_ ?_;all_goals split
  all_goals try dsimp only
  all_goals omega
theorem zl(hw:rX n d l)(h:Kn n d l K){u v:Nat}(hu:u<n)(hv:v<n):(0≤(jU K u v l).1∧(jU K u v l).1≤d u v)∧(-1≤(jU K u v l).2∧(jU K u v l).2<l.length):=by
 unfold jU;split
 ·exact⟨⟨Int.le_refl _,hw.nn u v⟩,Int.le_refl _,by simp only;omega⟩
 ·exact uZ hw h hu hv l 0 _ rfl (Int.le_refl _) (hw.nn u v) ⟨Int.le_refl _,by simp only;omega⟩
theorem Cl(hw:rX n d l)(h:Kn n d l K){u v:Nat}(hu:u<n)(hv:v<n){i:Nat}{x:jB}(hb:0≤pa K.2 u v):∃(i:Nat) (x:jB),pa K.2 u v=i∧l[i]?=some x∧i<l.length∧x.t<n∧(pa K.1 x.t v).toNat<(pa K.1 u v).toNat:=by
 rcases h.by' u v hu hv with h1 | ⟨i,x,h1,h2,h3,h4⟩
 ·omega
 ·obtain⟨hf,ht,hft,_,_,_,h5,_⟩:=hw.JP x (aj h2);have b1:=h.sJ hw.sz.2 ht hv;have b2:=h.sJ hw.sz.2 hu hv;exact⟨i,x,h1,h2,(an.1 h2).1,ht,by omega⟩
end Go.Inj
namespace Go.Proofs.YtcgippbplkagkaaGreat
open List(length_flatMap map_take)
section
open Go Go.Abs Go.Inj
variable {σ:SK}
theorem sT{a b c:Int}:bG T (.call false eu [.int .i64 a,.int .i64 b,.int .i64 c] σ)=some (.val (.bool (Rock.cK a b c)) σ):=by
 refine aA wB lY.eq_1 rfl ?_;by_cases h:b≤a<;>simp[-length_flatMap,-map_take,h,Rock.cK]
theorem FA{n:Nat}{S:D}{a:Int}(hn:n≤12):bG T (.call false cJ [.agg [.int .i64 n,S],.int .i64 a] σ)=some (.val (.bool (Rock.cK a 0 (n-1))) σ):=by
 refine aA tv iU.eq_1 rfl ?_;have w:=eW (n:=(n:Int)-1) (by omega);simp[-length_flatMap,-map_take,sT,w]
theorem yi{l:List jB}{i:Nat}{x:jB}(h:l[i]?=some x):((l.flatMap jB.enc).drop (i*4)).take 4=[.int .i64 x.f,.int .i64 x.t,.int .i64 x.lo,.int .i64 x.hi] :=
 cE (f:=jB.enc) (w:=4) (fun _=>rfl) h
theorem Ul(l:List jB):D.bF (l.flatMap jB.enc)=true:=mR (fun _=>by simp[D.clean]) l
variable {n:Nat} {d:Nat→Nat→Int} {l:List jB}
theorem uU{n u:Nat}(h:u<n):Rock.cK u 0 ((n:Int)-1)=true:=Rock.bD.2 (by omega)
theorem Di(hw:rX n d l):∀(m i:Nat),i+m=l.length →
  WL T [1,14,15,16] false fp [(1,.aK [.int .i64 n,.aE l.length (l.flatMap jB.enc)]),(14,.aE l.length (l.flatMap jB.enc)),(15,.int .i64 l.length),(16,.int .i64 i)] σ
   (fun x e σ'=>x=.exit 0∧σ'=σ)
 |0,i,hi=>by
  refine aB fp.eq_1 ?_;obtain rfl:i=l.length:=by omega
  simp[-length_flatMap,-map_take]
 |m+1,i,hi=>by
  refine aB fp.eq_1 ?_;have h1:i<l.length:=by omega
  obtain⟨x,hx⟩:=gE h1;obtain⟨hf,ht,hft,g1,g2,g3,g4,g5⟩:=hw.JP x (aj hx);have h2:=yi hx;have h4:=db h1 (by have:=hw.len;omega);have c1:¬(x.f:Int)=x.t:=by omega
  have c2:¬x.lo<0:=by omega
  have c3:¬x.hi<x.lo:=by omega
  have c4:¬1000000<x.hi:=by omega
  have ih:=Di hw m (i+1) (by omega);simp[-length_flatMap,-map_take,h1,h2,h4,FA hw.sz.2,uU hf,uU ht,c1,c2,c3,c4];exact WL.to ih (by simp) rfl fun x e σ hh=>hh
theorem uB(hw:rX n d l):bG T (.call false eh [.agg [.int .i64 n,.aE l.length (l.flatMap jB.enc)]] σ)=some (.val (.int .i64 0) σ):=by
 refine aA tu iT.eq_1 rfl ?_;have h1:¬(60:Int)<l.length:=by have:=hw.len;omega
 have h2:Rock.cK n 1 12=true:=Rock.bD.2 (by have:=hw.sz;omega);simp[-length_flatMap,-map_take,h1,h2,sT];refine WL.to (Di (σ:=[]::σ) hw l.length 0 (by omega)) (by simp) (by simp) ?_;rintro x e σ' ⟨rfl,rfl⟩;simp[-length_flatMap,-map_take]
end
section
open Go Go.Abs Go.Inj
variable {σ:SK} {n:Nat} {d:Nat→Nat→Int} {l:List jB}
def kE(n:Nat)(l:List jB)(K:Tb):List D:=.int .i64 n::.aE l.length (l.flatMap jB.enc)::(K.1.map (D.int .i64)++K.2.map (D.int .i64))
theorem uh{K:Tb}(h1:K.1.length=144)(h2:K.2.length=144):(kE n l K).length=290:=by simp[kE,h1,h2]
theorem Zw{K:Tb}(h1:K.1.length=144){i j:Nat}{r:Int}(hi:i<144)(hj:j=2+i):(kE n l K).take j ++ .int .i64 r::(kE n l K).drop (j+1)=kE n l (K.1.set i r,K.2):=by
 subst hj;have:∀(R B:List Int),R.length=144→(R.map (D.int .i64)++B.map (D.int .i64)).take i ++ .int .i64 r::(R.map (D.int .i64)++B.map (D.int .i64)).drop (i+1)=(R.set i r).map (D.int .i64)++B.map (D.int .i64):=by
  intro R B hR;rw[List.take_append_of_le_length (by simp;omega),List.drop_append_of_le_length (by simp;omega),List.map_set,List.set_eq_take_append_cons_drop,if_pos (by simp;omega)];simp
 have h:=this K.1 K.2 h1;simp only[kE,show 2+i=(i+1)+1 by omega,show i+1+1+1=((i+1)+1)+1 by omega,List.take_succ_cons,List.drop_succ_cons,dI,h]
theorem Zt{K:Tb}(h1:K.1.length=144)(h2:K.2.length=144){i j:Nat}{r:Int}(hi:i<144)(hj:j=146+i):(kE n l K).take j ++ .int .i64 r::(kE n l K).drop (j+1)=kE n l (K.1,K.2.set i r):=by
 subst hj;have h:=uh (n:=n) (l:=l) h1 h2;have e:=List.set_eq_take_append_cons_drop (l:=kE n l K) (i:=146+i) (a:=.int .i64 r);rw[if_pos (by omega)]at e;rw[← e];simp only[kE,show 146+i=((144+i)+1)+1 by omega,List.set_cons_succ];rw[List.set_append_right _ _ (by simp[h1]),List.map_set];simp[h1]
theorem Jb{K:Tb}(h1:K.1.length=144){i j:Nat}(hi:i<144)(hj:j=2+i):(kE n l K)[j]?=some (.int .i64 ((K.1[i]?).getD 0)):=by
 subst hj;simp only[kE,show 2+i=(i+1)+1 by omega,List.getElem?_cons_succ];rw[dn (by simp;omega),cl,au (by omega)];rfl
theorem Zv{K:Tb}(h1:K.1.length=144)(h2:K.2.length=144){i j:Nat}(hi:i<144)(hj:j=146+i):(kE n l K)[j]?=some (.int .i64 ((K.2[i]?).getD 0)):=by
 subst hj;simp only[kE,show 146+i=(144+i+1)+1 by omega,List.getElem?_cons_succ];rw[List.getElem?_append_right (by simp;omega)];simp[h1,au (show i<K.2.length by omega)]
theorem FK{u:Nat}(hu:u<12):∀(m v:Nat),v+m=12 →
  WL T [1,3,4,14,17] false dS [(1,.aK [.int .i64 n,.aE l.length (l.flatMap jB.enc)]),(3,.ref σ.length 0 0 0),(4,.int .i64 u),(14,.int .i64 u),(17,.int .i64 v)]
   ([.cells 0 (kE n l (wT (u*12+v)))]::σ)
   (fun x e σ'=>x=.exit 2∧get e 1=.aK [.int .i64 n,.aE l.length (l.flatMap jB.enc)]∧get e 3=.ref σ.length 0 0 0∧get e 14=.int .i64 u∧σ'=[.cells 0 (kE n l (wT (u*12+12)))]::σ)
 |0,v,hv=>by
  refine aB dS.eq_1 ?_;obtain rfl:v=12:=by omega
  simp[-length_flatMap,-map_take]
 |m+1,v,hv=>by
  refine aB dS.eq_1 ?_;have h1:v<12:=by omega
  have h4:=db h1 (by omega);obtain⟨l1,l2⟩:=z8 (u*12+v);have ih:=FK hu m (v+1) (by omega);have p1:u*12+v<144:=by omega
  have kl:=uh (n:=n) (l:=l) l1 l2;have s1:=Zt (n:=n) (l:=l) l1 l2 (r := -1) (j:=146+u*12+v) p1 (by omega);have q1:146+u*12+v+1≤290:=by omega
  have q2:2+u*12+v+1≤290:=by omega
  have e1:wT (u*12+(v+1))=(if u=v then(wT (u*12+v)).1 else(wT (u*12+v)).1.set (u*12+v) 1000000,(wT (u*12+v)).2.set (u*12+v) (-1)):=by
   simp only[wT];rw[I2 p1,← cH];by_cases huv:u=v
   ·rw[if_pos huv,← EE (by omega)]
   ·rw[if_neg huv,I3 p1 (by omega)]
  rw[e1]at ih;have hu':(u:Int)<12:=by omega
  have hv':(v:Int)<12:=by omega
  generalize hK:wT (u*12+v)=K at *
  by_cases huv:u=v
  ·subst huv;rw[if_pos rfl]at ih;simp[-length_flatMap,-map_take,h1,h4,hu,hu',kl,s1,q1];exact WL.to ih (by simp) rfl fun x e σ hh=>hh
  ·have huv':¬(u:Int)=v:=by omega
   rw[if_neg huv]at ih;have kl2:=uh (n:=n) (l:=l) (K:=(K.1,K.2.set (u*12+v) (-1))) l1 (by simp[l2]);have s2:=Zw (n:=n) (l:=l) (K:=(K.1,K.2.set (u*12+v) (-1))) l1 (r:=1000000) (j:=2+u*12+v) p1 (by omega);simp[-length_flatMap,-map_take,h1,h4,hu,hu',hv',kl,kl2,s1,s2,q1,q2,huv,huv'];exact WL.to ih (by simp) rfl fun x e σ hh=>hh
theorem FJ:∀(m u:Nat),u+m=12 →
  WL T [1,3,14] false dT [(1,.aK [.int .i64 n,.aE l.length (l.flatMap jB.enc)]),(3,.ref σ.length 0 0 0),(14,.int .i64 u)]
   ([.cells 0 (kE n l (wT (u*12)))]::σ)
   (fun x e σ'=>x=.exit 0∧get e 1=.aK [.int .i64 n,.aE l.length (l.flatMap jB.enc)]∧get e 3=.ref σ.length 0 0 0∧σ'=[.cells 0 (kE n l (wT 144))]::σ)
 |0,u,hu=>by
  refine aB dT.eq_1 ?_;obtain rfl:u=12:=by omega
  simp[-length_flatMap,-map_take]
 |m+1,u,hu=>by
  refine aB dT.eq_1 ?_;have h1:u<12:=by omega
  have h2:(u:Int)<12:=by omega
  have h4:=db h1 (by omega);have ih:=FJ m (u+1) (by omega);simp[-length_flatMap,-map_take,h1,h2];refine WL.to (FK (σ:=σ) (n:=n) (l:=l) h1 12 0 (by omega)) (by simp) (by simp) ?_;rintro x e σ' ⟨rfl,g1,g3,g14,rfl⟩;simp[-length_flatMap,-map_take,g1,g3,g14,h4];exact WL.to ih (by simp) (by rw[show(u+1)*12=u*12+12 by omega]) fun x e σ hh=>hh
theorem DR{cs:List D}{j:Nat}{x:D}(h:cs[j]?=some x):Cy false 1 (some (cs.drop j))=some x:=by
 rw[cO h];simp
abbrev uw(n:Nat)(l:List jB):D:=.aK [.int .i64 n,.aE l.length (l.flatMap jB.enc)]
theorem FT(hw:rX n d l){i:Nat}{x:jB}(hx:l[i]?=some x){b6:List D}   : ∀(m v:Nat) (K:Tb),v+m=n→Kn n d l K →
  WL T [1,3,6,7,8,44,45,46,52,53] false dU [(1,uw n l),(3,.ref σ.length 0 0 0),(6,.own 0 b6),(7,.int .i64 i),(8,.own 0 x.enc),(44,.aE l.length (l.flatMap jB.enc)),(45,.int .i64 l.length),(46,.int .i64 i),(52,.int .i64 n),(53,.int .i64 v)]
   ([.cells 0 (kE n l K)]::σ)
   (fun y e σ'=>y=.exit 8∧get e 1=uw n l∧get e 3=.ref σ.length 0 0 0∧get e 6=.own 0 b6∧get e 44=.aE l.length (l.flatMap jB.enc)∧get e 45=.int .i64 l.length∧get e 46=.int .i64 i ∧
    σ'=[.cells 0 (kE n l (mZ x i v m K))]::σ)
 |0,v,K,hv,hK=>by
  refine aB dU.eq_1 ?_;obtain rfl:v=n:=by omega
  simp[-length_flatMap,-map_take,mZ]
 |m+1,v,K,hv,hK=>by
  refine aB dU.eq_1 ?_;have h1:v<n:=by omega
  have hn:=hw.sz.2;have h4:=db h1 (by omega);obtain⟨hf,ht,hft,g1,g2,g3,g4,g5⟩:=hw.JP x (aj hx);have kl:=uh (n:=n) (l:=l) hK.l1 hK.l2;have a1:=hK.sJ hn ht h1;have a2:=hK.sJ hn hf h1;have w1:=eW (n:=x.hi+pa K.1 x.t v) (by omega);have ih:=FT hw hx (b6:=b6) m (v+1) (J2 x i v K) (by omega) (JR hw hK hx h1).1;have b1:(x.f:Int)<12:=by omega
  have b2:(x.t:Int)<12:=by omega
  have b3:(v:Int)<12:=by omega
  have q1:2+x.t*12+v+1≤290:=by omega
  have q2:2+x.f*12+v+1≤290:=by omega
  have q3:146+x.f*12+v+1≤290:=by omega
  have r1:=Jb (n:=n) (l:=l) hK.l1 (i:=x.t*12+v) (j:=2+x.t*12+v) (tI hn ht h1) (by omega);have r2:=Jb (n:=n) (l:=l) hK.l1 (i:=x.f*12+v) (j:=2+x.f*12+v) (tI hn hf h1) (by omega);rw[show K.1[x.t*12+v]?.getD 0=pa K.1 x.t v from rfl]at r1;rw[show K.1[x.f*12+v]?.getD 0=pa K.1 x.f v from rfl]at r2;have r3:=DR r1;have r4:=DR r2;by_cases hc:x.hi+pa K.1 x.t v<pa K.1 x.f v
  ·have e1:J2 x i v K=(K.1.set (x.f*12+v) (x.hi+pa K.1 x.t v),K.2.set (x.f*12+v) i):=by simp[J2,hc]
   rw[e1]at ih;have kl2:=uh (n:=n) (l:=l) (K:=(K.1.set (x.f*12+v) (x.hi+pa K.1 x.t v),K.2)) (by simp[hK.l1]) hK.l2;have s1:=Zw (n:=n) (l:=l) hK.l1 (r:=x.hi+pa K.1 x.t v) (j:=2+x.f*12+v) (tI hn hf h1) (by omega);have s2:=Zt (n:=n) (l:=l) (K:=(K.1.set (x.f*12+v) (x.hi+pa K.1 x.t v),K.2)) (by simp[hK.l1]) hK.l2 (r:=i) (j:=146+x.f*12+v) (tI hn hf h1) (by omega);simp[-length_flatMap,-map_take,h1,h4,b1,b2,b3,q1,q2,q3,r3,r4,w1,kl,kl2,hc,s1,s2];rw[mZ,e1];exact WL.to ih (by simp) rfl fun x e σ hh=>hh
  ·have e1:J2 x i v K=K:=by simp[J2,hc]
   rw[e1]at ih;simp[-length_flatMap,-map_take,h1,h4,b1,b2,b3,q1,q2,q3,r3,r4,w1,kl,hc];rw[mZ,e1];exact WL.to ih (by simp) rfl fun x e σ hh=>hh
theorem Dp(hw:rX n d l){b6:List D}:∀(m i:Nat) (K:Tb),i+m=l.length→Kn n d l K →
  WL T [1,3,6,44,45,46] false dV [(1,uw n l),(3,.ref σ.length 0 0 0),(6,.own 0 b6),(44,.aE l.length (l.flatMap jB.enc)),(45,.int .i64 l.length),(46,.int .i64 i)]
   ([.cells 0 (kE n l K)]::σ)
   (fun y e σ'=>y=.exit 6∧get e 1=uw n l∧get e 3=.ref σ.length 0 0 0∧get e 6=.own 0 b6∧σ'=[.cells 0 (kE n l (kb n i (l.drop i) K))]::σ)
 |0,i,K,hi,hK=>by
  refine aB dV.eq_1 ?_;obtain rfl:i=l.length:=by omega
  have h2:l.drop l.length=[]:=az (by omega);simp[-length_flatMap,-map_take,h2,kb]
 |m+1,i,K,hi,hK=>by
  refine aB dV.eq_1 ?_;have h1:i<l.length:=by omega
  obtain⟨x,hx⟩:=gE h1;have h2:=yi hx;have h4:=db h1 (by have:=hw.len;omega);have h5:=cO hx;have ih:=Dp hw (b6:=b6) m (i+1) (mZ x i 0 n K) (by omega) (ux hw hx n 0 K (by omega) hK).1;rw[h5,kb];simp[-length_flatMap,-map_take,h1,h2];refine WL.to (FT (σ:=σ) hw hx (b6:=b6) n 0 K (by omega) hK) (by simp) (by simp) ?_;rintro y e σ' ⟨rfl,g1,g3,g6,g44,g45,g46,rfl⟩;simp[-length_flatMap,-map_take,g1,g3,g6,g44,g45,g46,h4];exact WL.to ih (by simp) rfl fun x e σ hh=>hh
theorem Jc{K:Tb}(h1:K.1.length=144):((kE n l K).drop 2).take 144=K.1.map (D.int .i64):=by
 simp only[kE,List.drop_succ_cons,aO];rw[List.take_append_of_le_length (by simp[h1]),aq (by simp[h1])]
theorem xG:∀(k:Nat) {R S:List Int},R.length=k→S.length=k→pV (List.replicate k (some .i64)) (R.map (D.int .i64)) (S.map (D.int .i64))=some (decide (R=S))
 |0,R,S,h1,h2=>by
  rw[dJ.1 h1,dJ.1 h2];rfl
 |k+1,a::R,c::S,h1,h2=>by
  have ih:=xG k (R:=R) (S:=S) (by simpa using h1) (by simpa using h2);simp[List.replicate_succ,ih];by_cases h:a=c<;>simp[h]
theorem uX{K:Tb}:D.bF (kE n l K)=true:=by
 have h:∀R:List Int,D.bF (R.map (D.int .i64))=true:=by
  intro R;induction R with
  |nil=>rfl
  |cons a R ih=>simpa[D.clean]using ih
 simp[kE,D.clean,Ul,h,yD]
theorem Dn(hw:rX n d l):∀(s:Nat) (K:Tb),(ur K.1).toNat<s→Kn n d l K →
  WL T [1,3] false gz [(1,uw n l),(3,.ref σ.length 0 0 0)] ([.cells 0 (kE n l K)]::σ)
   (fun y e σ'=>y=.exit 4∧get e 3=.ref σ.length 0 0 0∧get e 1000003=.undef∧∃K',Kn n d l K'∧σ'=[.cells 0 (kE n l K')]::σ)
 |0,K,hs,hK=>by omega
 |s+1,K,hs,hK=>by
  refine aB gz.eq_1 ?_;have kl:=uh (n:=n) (l:=l) hK.l1 hK.l2;have km:=Jc (n:=n) (l:=l) hK.l1;have hl1:=hK.l1;obtain⟨hK',hd⟩:=vc hw l 0 K rfl hK;have ih:=Dn hw s (kb n 0 l K);generalize hR:kb n 0 l K=K' at *
  have kl':=uh (n:=n) (l:=l) hK'.l1 hK'.l2;have km':=Jc (n:=n) (l:=l) hK'.l1;have hl1':=hK'.l1;have he:=xG 144 hK'.l1 hK.l1;have he':∀ks,ks=List.replicate 144 (some IntKind.i64)→pV ks (K'.1.map (D.int .i64)) (K.1.map (D.int .i64))=some (decide (K'.1=K.1)):=fun ks h=>h ▸ he
  simp[-length_flatMap,-map_take,kl,km,hl1];refine WL.to (Dp (σ:=σ) hw (b6:=K.1.map (D.int .i64)) l.length 0 K (by omega) hK) (by simp) (by simp) ?_;rintro y e σ' ⟨rfl,g1,g3,g6,rfl⟩;rw[aO,hR];have t1:(K.1.map (D.int .i64)).take 144=K.1.map (D.int .i64):=aq (by simp[hl1]);by_cases hc:K'.1=K.1
  ·have he2:∀ks,ks=List.replicate 144 (some IntKind.i64)→pV ks (K.1.map (D.int .i64)) (K.1.map (D.int .i64))=some true:=fun ks h=>by rw[h,xG 144 hl1 hl1];simp
   simp[-length_flatMap,-map_take,g1,g3,g6,kl',km',hl1',hl1,he2,hc,t1];exact⟨K'.1,K'.2,hK',rfl⟩
  ·simp[-length_flatMap,-map_take,g1,g3,g6,kl',km',hl1',hl1,he',hc,t1];have h0:=JK (R:=K'.1) fun r hr=>(hK'.rO r hr).1
   have h1:ur K'.1<ur K.1:=by
    rcases hd with hd | hd
    ·exact absurd (by rw[hd]) hc
    ·exact hd
   exact WL.to (ih (by omega) hK') (by simp) rfl fun x e σ hh=>hh
theorem F9{f:Nat}{fn:Abs.Fn}{args:List D}{σ:SK}{P:D→Prop}{np:Nat}{res:List uy}{body:bQ}(hT:T f=some fn)(hf:fn=⟨np,res,body⟩)(hl:args.length=np)
  (h:WC (bG T) body (iH 0 args) ([]::σ) (fun x e σ1=>∃d,P d∧A7 σ res d x e σ1)):∃d,P d∧bG T (.call false f args σ)=some (.val d σ):=by
 obtain⟨x,e1,σ1,h1,d,hP,h2⟩:=h;exact⟨d,hP,aA hT hf hl ⟨x,e1,σ1,h1,h2⟩⟩
theorem KV:kE n l (wT 0)=.int .i64 n::.aE l.length (l.flatMap jB.enc)::List.replicate 288 (.int .i64 0):=by
 rw[I4];simp only[kE,List.map_replicate,List.replicate_append_replicate]
theorem U6{K:Tb}:uQ σ.length 0 0 ([.cells 0 (kE n l K)]::σ)=(.aK (kE n l K),[.dead]::σ):=by
 have h1:(kE n l K).map D.vv=kE n l K:=by
  simp only[kE,aG,List.map_append,List.map_map,F4,F5];rfl
 have h2:∀S:SK,cb.frzL (cb 0 16) (kE n l K) S=(kE n l K,S):=fun S=>Cr uX (by decide)
 simp[uQ,h2,h1]
set_option maxRecDepth 4000 in
theorem Em(hw:rX n d l):∃K,Kn n d l K∧bG T (.call false dc [.agg [.int .i64 n,.aE l.length (l.flatMap jB.enc)]] σ)=some (.val (.aK (kE n l K)) σ):=by
 suffices h:∃d',(∃K,Kn n d l K∧d'=.aK (kE n l K))∧bG T (.call false dc [.agg [.int .i64 n,.aE l.length (l.flatMap jB.enc)]] σ)=some (.val d' σ)by
  obtain⟨d',⟨K,hK,rfl⟩,h⟩:=h;exact⟨K,hK,h⟩
 refine F9 qR fT.eq_1 rfl ?_;simp[-length_flatMap,-map_take];refine WL.to (FJ (σ:=σ) (n:=n) (l:=l) 12 0 (by omega)) (by simp) (by simp[KV]) ?_;rintro y e σ' ⟨rfl,g1,g3,rfl⟩;simp[-length_flatMap,-map_take,g1,g3];refine WL.to (Dn (σ:=σ) hw _ (wT 144) (Nat.lt_succ_self _) (Kn.wT hw)) (by simp) (by simp) ?_;rintro y e σ' ⟨rfl,g3,gn,K,hK,rfl⟩;simp[-length_flatMap,-map_take,g3,gn,U6];rw[oG (by simpa[D.clean]using uX) (by decide)];exact⟨_,⟨K.1,K.2,hK,rfl⟩,_,rfl⟩
end
section
open Go Go.Abs Go.Inj
variable {σ:SK} {n:Nat} {d:Nat→Nat→Int} {l:List jB} {K:Tb}
theorem D6{cs:List D}{i j:Nat}{x:D}(hj:j<12)(h:cs[i+j]?=some x):(((cs.drop i).take 12).drop j).take 1=[x]:=by
 obtain⟨k,hk⟩:∃k,12-j=k+1:=⟨11-j,by omega⟩;rw[List.drop_take,gw,cO h,hk];simp
theorem Jd(hK:Kn n d l K){u v:Nat}(hn:n≤12)(hu:u<n)(hv:v<n):((((kE n l K).drop (2+u*12)).take 12).drop v).take 1=[.int .i64 (pa K.1 u v)]:=by
 refine D6 (by omega) ?_;exact Jb hK.l1 (i:=u*12+v) (tI hn hu hv) (by omega)
theorem Zu(hK:Kn n d l K){u v:Nat}(hn:n≤12)(hu:u<n)(hv:v<n):((((kE n l K).drop (146+u*12)).take 12).drop v).take 1=[.int .i64 (pa K.2 u v)]:=by
 refine D6 (by omega) ?_;exact Zv hK.l1 hK.l2 (i:=u*12+v) (tI hn hu hv) (by omega)
theorem Fp(hw:rX n d l)(hK:Kn n d l K){x:jB}(hx:x∈l):bG T (.call false de [.agg x.enc,.aK [.aK (kE n l K)]] σ)=some (.val (.bool false) σ):=by
 refine aA qU fV.eq_1 rfl ?_;obtain⟨hf,ht,hft,g1,g2,g3,g4,g5⟩:=hw.JP x hx;have hn:=hw.sz.2;have b1:(x.f:Int)<12:=by omega
 have b2:(x.t:Int)<12:=by omega
 have hc:=Jr hw hK hx;have r1:=Jd hK hn hf ht;simp[-length_flatMap,-map_take,b1,b2,r1];omega
theorem Kc(hw:rX n d l)(hK:Kn n d l K){x:jB}(hx:x∈l){u v:Nat}(hu:u<n)(hv:v<n):bG T (.call false dM [.aK (kE n l K),.agg x.enc,.int .i64 u,.int .i64 v] σ)=some (.val (.int .i64 (pJ K x u v)) σ):=by
 refine aA sd iq.eq_1 rfl ?_;obtain⟨hf,ht,hft,g1,g2,g3,g4,g5⟩:=hw.JP x hx;have hn:=hw.sz.2;have b1:(x.f:Int)<12:=by omega
 have b2:(x.t:Int)<12:=by omega
 have b3:(u:Int)<12:=by omega
 have b4:(v:Int)<12:=by omega
 have r1:=Jd hK hn hf hu;have r2:=Jd hK hn hv ht;have a1:=hK.sJ hn hf hu;have a2:=hK.sJ hn hv ht;have w1:=eW (n:=x.lo-pa K.1 x.f u) (by omega);have w2:=eW (n:=x.lo-pa K.1 x.f u-pa K.1 v x.t) (by have:=hw.le x.f x.t;omega);simp[-length_flatMap,-map_take,b1,b2,b3,b4,r1,r2,w1,w2,pJ]
theorem Br{α:Type}:∀l:List α,idxOf (fun _=>false) l = -1
 |[]=>rfl
 |a::l=>by simp[idxOf,Br l]
theorem xM:(kE n l K).tail=.aE l.length (l.flatMap jB.enc)::(K.1.map (D.int .i64)++K.2.map (D.int .i64)):=rfl
theorem Ka(hw:rX n d l)(hK:Kn n d l K):bG T (.call false e6 [.aK (kE n l K)] σ)=some (.val (.int .i64 (-1)) σ):=by
 refine aA sc ij.eq_1 rfl ?_;have hi:=fun σ=>Bs (σ:=σ) (sq 4 jB.enc (fun _=>rfl)) (f:=bP) (l:=l) (p:=fun _=>false) (fv:=.fn de [] [.aK [.aK (kE n l K)]]) rfl (by have:=hw.len;omega) (lz.fn fun x hx σ=>Fp hw hK hx)
 simp only[Br,sq]at hi;simp[-length_flatMap,-map_take,hi,xM]
theorem Ei(hw:rX n d l):∃K,Kn n d l K∧bG T (.call false jk [.agg [.int .i64 n,.aE l.length (l.flatMap jB.enc)]] σ)=some (.val (.fj [.aK (kE n l K),.int .i64 0]) σ):=by
 obtain⟨K,hK,hr⟩:=Em (σ:=[]::σ) hw;refine⟨K,hK,?_⟩;refine aA vm la.eq_1 rfl ?_;simp[-length_flatMap,-map_take,hr,Ka hw hK];rw[oG (by simpa[D.clean]using uX) (by decide)];exact⟨_,rfl⟩
theorem J8(hw:rX n d l){u v:Nat}(hu:u<n)(hv:v<n):∃K,Kn n d l K∧bG T (.call false kQ [.agg [.int .i64 n,.aE l.length (l.flatMap jB.enc)],.int .i64 u,.int .i64 v] σ)=some (.val (.fj [.aK (kE n l K),.int .i64 0]) σ):=by
 obtain⟨K,hK,hr⟩:=Ei (σ:=[]::σ) hw;refine⟨K,hK,?_⟩;refine aA xg mE.eq_1 rfl ?_;simp[-length_flatMap,-map_take,hr,uB hw,FA hw.sz.2,uU hu,uU hv];rw[oG (by simpa[D.clean]using uX) (by decide)];exact⟨_,rfl⟩
theorem zH(hw:rX n d l)(hK:Kn n d l K){u v:Nat}(hu:u<n)(hv:v<n):∀(m i:Nat) (r:Int×Int),i+m=l.length →
  WL T [1,2,6,7,8,22,23,24] false eU [(1,.int .i64 u),(2,.int .i64 v),(6,.int .i64 r.1),(7,.int .i64 r.2),(8,.fn dM [.aK (kE n l K)] []),(22,.aE l.length (l.flatMap jB.enc)),(23,.int .i64 l.length),(24,.int .i64 i)] σ
   (fun x e σ'=>x=.exit 0∧get e 6=.int .i64 (hI K u v i (l.drop i) r).1∧get e 7=.int .i64 (hI K u v i (l.drop i) r).2∧σ'=σ)
 |0,i,r,hi=>by
  refine aB eU.eq_1 ?_;obtain rfl:i=l.length:=by omega
  have h2:l.drop l.length=[]:=az (by omega);simp[-length_flatMap,-map_take,h2,hI]
 |m+1,i,r,hi=>by
  refine aB eU.eq_1 ?_;have h1:i<l.length:=by omega
  obtain⟨x,hx⟩:=gE h1;have h2:=yi hx;have h4:=db h1 (by have:=hw.len;omega);have h5:=cO hx;have hE:=fun σ=>Kc (σ:=σ) hw hK (aj hx) hu hv
  simp only[jB.enc]at hE;rw[h5,hI];by_cases hc:r.1<pJ K x u v
  ·have ih:=zH hw hK hu hv m (i+1) (pJ K x u v,(i:Int)) (by omega);rw[if_pos hc];simp[-length_flatMap,-map_take,h1,h2,h4,hE,hc];exact WL.to ih (by simp) rfl fun x e σ hh=>hh
  ·have ih:=zH hw hK hu hv m (i+1) r (by omega);rw[if_neg hc];simp[-length_flatMap,-map_take,h1,h2,h4,hE,hc];exact WL.to ih (by simp) rfl fun x e σ hh=>hh
theorem Ki(hw:rX n d l)(hK:Kn n d l K){u v:Nat}(hu:u<n)(hv:v<n):
  bG T (.call false e7 [.aK (kE n l K),.int .i64 u,.int .i64 v] σ)=some (.val (.fj [.int .i64 (jU K u v l).1,.int .i64 (jU K u v l).2]) σ):=by
 refine aA se ir.eq_1 rfl ?_;unfold jU;by_cases huv:u=v
 ·subst huv;simp[-length_flatMap,-map_take]
 ·have h1:¬(u:Int)=v:=by omega
  rw[if_neg huv];simp[-length_flatMap,-map_take,h1,xM];refine WL.to (zH (σ:=[]::σ) hw hK hu hv l.length 0 (0,-1) (by omega)) (by simp) rfl ?_;rintro x e σ' ⟨rfl,g6,g7,rfl⟩;rw[aO]at g6 g7;simp[-length_flatMap,-map_take,g6,g7]
def wX(A:List Int→List Abs.aF)(bs:List Abs.aF)(σ:SK)(u:Nat)(a:List Int):SK:=A a::(bs++[.cells 0 [.int .i64 u]])::σ
theorem Dh(hw:rX n d l)(hK:Kn n d l K){v:Nat}(hv:v<n){j:Nat}{A:List Int→List Abs.aF}{bs:List Abs.aF}
  (hR:∀(u:Nat) a (i:Nat),i<l.length→a.length≤1000000→bG T (.round (σ.length+1) j [.int .i64 i] ([]::wX A bs σ u a))=some (.val (.bool true) ([]::wX A bs σ u (a++[(i:Int)])))):∀(s u:Nat) (a:List Int),u<n→(pa K.1 u v).toNat<s→a.length+s≤1000001 →
  WL T [0,1,2,3] false gW [(0,.iN (σ.length+1) j),(1,.ref σ.length bs.length 0 0),(2,.aK [.int .i64 v]),(3,.aK [.aK (kE n l K)])] ([]::wX A bs σ u a)
   (fun x e σ'=>x=.exit 0∧∃(w:Nat) (c:List Int),c.length≤1000001∧σ'=[]::wX A bs σ w c)
 |0,u,a,hu,hs,_=>by omega
 |s+1,u,a,hu,hlt,ha=>by
  refine aB gW.eq_1 ?_;have hn:=hw.sz.2;have b1:(u:Int)<12:=by omega
  have b2:(v:Int)<12:=by omega
  by_cases huv:u=v
  ·subst huv;simp[-length_flatMap,-map_take,wX];exact⟨u,a,by omega,rfl,rfl⟩
  ·have c1:¬(u:Int)=v:=by omega
   have r1:=Zu hK hn hu hv;by_cases hc:0≤pa K.2 u v
   ·obtain⟨i,x,h1,h2,h3,h4,h5⟩:=Cl hw hK hu hv (i:=0) (x:=⟨0,0,0,0⟩) hc;rw[h1]at r1;have t2:=yi h2;have hr:=hR u a i h3 (by omega);simp only[wX]at hr;have ih:=Dh hw hK hv hR s x.t (a++[(i:Int)]) h4 (by omega) (by simp;omega);simp[-length_flatMap,-map_take,c1,b1,b2,r1,hr,t2,h3,xM,wX];exact WL.to ih (by simp) (by simp[wX]) fun x e σ hh=>by simpa[wX]using hh
   ·simp[-length_flatMap,-map_take,c1,b1,b2,r1,hc,wX];exact⟨u,a,by omega,rfl,rfl⟩
theorem Ga{f:Nat}{fn:Abs.Fn}{args:List D}{σ:SK}{P:SK→Prop}{d:D}{np:Nat}{res:List uy}{body:bQ}(hT:T f=some fn)(hf:fn=⟨np,res,body⟩)(hl:args.length=np)
  (h:WC (bG T) body (iH 0 args) ([]::σ) (fun x e σ1=>∃σ',σ'.length=σ.length∧P σ'∧A7 σ' res d x e σ1)):∃σ',P σ'∧bG T (.call false f args σ)=some (.val d σ'):=by
 obtain⟨x,e1,σ1,h1,σ',hs,hP,h2⟩:=h;exact⟨σ',hP,mA hT hf hl hs ⟨x,e1,σ1,h1,h2⟩⟩
theorem Fo(hw:rX n d l)(hK:Kn n d l K){u v:Nat}(hu:u<n)(hv:v<n){j:Nat}{A:List Int→List Abs.aF}{bs:List Abs.aF}
  (hR:∀(u:Nat) a (i:Nat),i<l.length→a.length≤1000000→bG T (.round (σ.length+1) j [.int .i64 i] ([]::wX A bs σ u a))=some (.val (.bool true) ([]::wX A bs σ u (a++[(i:Int)])))):
  ∃(w:Nat) (c:List Int),c.length≤1000001∧bG T (.call false bM [.iN (σ.length+1) j,.ref σ.length bs.length 0 0,.aK [.int .i64 v],.aK [.aK (kE n l K)]] (wX A bs σ u []))=some (.val (.fj []) (wX A bs σ w c)):=by
 suffices h:∃σ',(∃(w:Nat) (c:List Int),c.length≤1000001∧σ'=wX A bs σ w c)∧bG T (.call false bM [.iN (σ.length+1) j,.ref σ.length bs.length 0 0,.aK [.int .i64 v],.aK [.aK (kE n l K)]] (wX A bs σ u []))=some (.val (.fj []) σ')by
  obtain⟨σ',⟨w,c,hc,rfl⟩,h⟩:=h;exact⟨w,c,hc,h⟩
 refine Ga qT fU.eq_1 rfl ?_;have hb:=hK.sJ hw.sz.2 hu hv;simp[-length_flatMap,-map_take];refine WL.to (Dh (σ:=σ) hw hK hv hR ((pa K.1 u v).toNat+1) u [] hu (by omega) (by simp;omega)) (by simp) (by simp) ?_;rintro x e σ' ⟨rfl,w,c,hc,rfl⟩;simp[-length_flatMap,-map_take];exact⟨rfl,w,c,hc,rfl⟩
def J0(L:Nat):oJ:={state:=0,oV:=none,env:=[(2,.ref L 1 0 0),(4,.bw)],params:=[7],q8:=eB,body:=eC }
def zN(L:Nat)(a:List Int):List Abs.aF:=[.cells a.length (a.flatMap Rock.bx),.cells 0 [.sl L 0 a.length 0 a.length 1],.loop (J0 L)]
theorem Xn{bs:List Abs.aF}{u:Nat}{a:List Int}{i:Nat}(ha:a.length≤1000000):
  bG T (.round (σ.length+1) 2 [.int .i64 i] ([]::wX (zN (σ.length+1)) bs σ u a))=some (.val (.bool true) ([]::wX (zN (σ.length+1)) bs σ u (a++[(i:Int)]))):=by
 refine BG (lp:=J0 (σ.length+1)) (by simp[wX,zN]) (by simp[J0]) ?_;rw[show(J0 (σ.length+1)).q8=eB from rfl,eB.eq_1,show(J0 (σ.length+1)).body=eC from rfl,eC.eq_1];have h1:(a.flatMap Rock.bx).length=a.length:=by
  have:=j1 (f:=Rock.bx) (w:=1) (fun _=>rfl) a;omega
 have h2:(a.length+1)*8≤room:=by unfold room;omega
 have h3:(a.flatMap Rock.bx).take a.length=a.flatMap Rock.bx:=aq (by omega);simp[-length_flatMap,-map_take,J0,EN,wX,zN,h1,h2,h3]
theorem AE(hw:rX n d l)(hK:Kn n d l K){u v:Nat}(hu:u<n)(hv:v<n){bs:List Abs.aF}:∃(w:Nat) (c:List Int),c.length≤1000001 ∧
  bG T (.call false ec [.bw,.fn bM [] [.ref σ.length bs.length 0 0,.aK [.int .i64 v],.aK [.aK (kE n l K)]]] ((bs++[.cells 0 [.int .i64 u]])::σ)) =
   some (.val (.aE c.length (c.flatMap Rock.bx)) ((bs++[.cells 0 [.int .i64 w]])::σ)):=by
 obtain⟨w,c,hc,hr⟩:=Fo (σ:=σ) hw hK hu hv (j:=2) (A:=zN (σ.length+1)) (bs:=bs) fun u a i _ ha=>Xn ha
 refine⟨w,c,hc,?_⟩;refine mA qY gb.eq_1 rfl (by simp) ?_;simp[-length_flatMap,-map_take];refine Dx (d:=.fj []) (σ2:=wX (zN (σ.length+1)) bs σ w c) (lp:=J0 (σ.length+1)) (by simp;exact⟨rfl,rfl,rfl⟩) ?_ (by simp[wX,zN]) (by simp[J0]) ?_
 ·simpa[wX,zN,J0]using hr
 ·simp[-length_flatMap,-map_take,J0,wX,zN];have hk:=fun bs' h=>qd (f:=Rock.bx) (w:=1) (l:=c) (j:=0) (v:=c.length) (bs:=bs') (σ:=(bs++[.cells 0 [.int .i64 w]])::σ) (fun _=>rfl) (fun _=>by simp[D.clean]) (by simp) h
  exact⟨_,hk _ rfl⟩
theorem yR(hw:rX n d l)(hK:Kn n d l K){u v:Nat}(hu:u<n)(hv:v<n){bs:List Abs.aF}:∃(w:Nat) (c:List Int),c.length≤1000001 ∧
  bG T (.call true dO [.fn bM [] [.ref σ.length bs.length 0 0,.aK [.int .i64 v],.aK [.aK (kE n l K)]]] ((bs++[.cells 0 [.int .i64 u]])::σ)) =
   some (.val (.aE c.length (c.flatMap Rock.bx)) ((bs++[.cells 0 [.int .i64 w]])::σ)):=by
 obtain⟨w,c,hc,hr⟩:=AE (σ:=σ) hw hK hu hv (bs:=bs);refine⟨w,c,hc,?_⟩;refine uJ sk iB.eq_1 rfl ?_;simp[-length_flatMap,-map_take,hr]
theorem J9{bs:List Abs.aF}{u v:Nat}:bG T (.call true dL [.aK (kE n l K),.int .i64 u,.int .i64 v] (bs::σ)) =
  some (.val (.fn bM [] [.ref σ.length bs.length 0 0,.aK [.int .i64 v],.aK [.aK (kE n l K)]]) ((bs++[.cells 0 [.int .i64 u]])::σ)):=by
 refine uJ sb ig.eq_1 rfl ?_;simp[-length_flatMap,-map_take]
theorem wZ(hw:rX n d l){u v:Nat}(hu:u<n)(hv:v<n)(hσ:σ≠[]):∃(K:Tb) (P Q:D),Kn n d l K ∧
  bG T (.call false fA [.agg [.int .i64 n,.aE l.length (l.flatMap jB.enc)],.int .i64 u,.int .i64 v] σ)=some (.val (.fj [.int .i64 (if(jU K u v l).2<0 then 0 else(jU K u v l).1),.agg [.int .i64 (jU K u v l).2,P,Q],.int .i64 0]) σ):=by
 obtain⟨K,hK,hA⟩:=J8 (σ:=[]::σ) hw hu hv;obtain⟨k1,k2⟩:=zl hw hK hu hv;have hL:=fun σ=>Ki (σ:=σ) hw hK hu hv
 have hn:=hw.sz.2;by_cases hc:(jU K u v l).2<0
 ·refine⟨K,.bw,.bw,hK,?_⟩;refine aA pf ie.eq_1 rfl ?_;have he:(jU K u v l).2 = -1:=by omega
  simp[-length_flatMap,-map_take,hA,hL,he]
 ·obtain⟨i,hi⟩:∃i:Nat,(jU K u v l).2=i:=⟨(jU K u v l).2.toNat,by omega⟩;have hil:i<l.length:=by omega
  obtain⟨x,hx⟩:=gE hil;obtain⟨hf,ht,_⟩:=hw.JP x (aj hx);have h2:=yi hx;obtain⟨w1,c1,hc1,hr1⟩:=yR (σ:=σ) hw hK hf hu (bs:=[]);obtain⟨w2,c2,hc2,hr2⟩:=yR (σ:=σ) hw hK hv ht (bs:=[.cells 0 [.int .i64 w1]]);have hC:=fun bs u v=>J9 (σ:=σ) (n:=n) (l:=l) (K:=K) (bs:=bs) (u:=u) (v:=v)
  refine⟨K,.aE c1.length (c1.flatMap Rock.bx),.aE c2.length (c2.flatMap Rock.bx),hK,?_⟩;refine aA pf ie.eq_1 rfl ?_;have c0:¬(i:Int)<0:=by omega
  rw[if_neg hc];simp at hr1 hr2;simp[-length_flatMap,-map_take,hA,hL,hi,c0,hil,h2,hC,hr1,hr2];rw[oG (by simp[D.clean,mR]) (by decide)];exact⟨_,rfl⟩
end
section
open Go Go.Abs Go.Rock
variable {σ:SK}
def xT(met:List (List UInt8)):List D:=met.map fun n => .fj [.str n,.bool true]
theorem vD{k:List UInt8}:∀{met:List (List UInt8)},∃r,nq none (.str k) (xT met)=some r∧(met.contains k=true→∃j,r=some (j,.bool true))∧(met.contains k=false→r=none)
 |[]=>⟨none,rfl,by simp,by simp⟩
 |n::met=>by
  obtain⟨r,h1,h2,h3⟩:=vD (k:=k) (met:=met);simp only[xT,aG]at h1 ⊢;by_cases hk:k=n
  ·subst hk;exact⟨some (0,.bool true),by simp[nq,oh],fun _=>⟨0,rfl⟩,by simp⟩
  ·have hb:(k == n)=false:=by simpa using hk
   refine⟨r.map fun y=>(y.1+1,y.2),by simp[nq,oh,hb,h1],?_,?_⟩
   ·intro hc;have:met.contains k=true:=by simpa[hk]using hc
    obtain⟨j,rfl⟩:=h2 this;exact⟨j+1,rfl⟩
   ·intro hc;have:met.contains k=false:=by simp at hc ⊢;exact hc.2
    rw[h3 this];rfl
theorem Zz{S:SK}{l i:Nat}{met:List (List UInt8)}{k:List UInt8}(h:cells? S l i 0=some (xT met)):vk S (.get none (.bool false) false) [.iN l i,.str k]=some (.bool (met.contains k),S):=by
 obtain⟨r,h1,h2,h3⟩:=vD (k:=k) (met:=met);simp only[vk,tE,h,aM,h1];cases hc:met.contains k
 ·rw[h3 hc];simp[oh]
 ·obtain⟨j,rfl⟩:=h2 hc;simp[oh]
theorem ZA{S:SK}{l i:Nat}{met:List (List UInt8)}{k:List UInt8}(h:cells? S l i 0=some (xT met))(hn:met.contains k=false):
  vk S (.put none) [.iN l i,.str k,.bool true]=some (.undef,aN S l i (.cells 0 (xT (met++[k])))):=by
 obtain⟨r,h1,h2,h3⟩:=vD (k:=k) (met:=met);simp only[vk,tE,h,aM,h1];rw[h3 hn];simp[oh,xT,D.clean]
theorem aa8{f:ej}{m:bV}(hf:f.valid=true)(hn:m.name.length≤1000000000)(hl:m.aP.length≤1000000000):
  bG T (.call false cu [.agg [.str m.name,.aE m.aP.length (m.aP.flatMap bx)],.aK [.int .i64 f.x,.int .i64 f.y,.int .i64 f.z,.int .i64 f.k]] σ)=some (.val (.fj [.str m.name,.int .i64 (f.model m)]) σ):=by
 refine aA qQ fS.eq_1 rfl ?_;simp[-length_flatMap,-map_take,Kk hf hn hl]
theorem FE{f:ej}{l:List bV}(hf:f.valid=true)(hs:∀m∈l,m.name.length≤1000000000∧m.aP.length≤1000000000)(hl:l.length≤1000000000):∀(k i:Nat) (met:List (List UInt8)),i+k=l.length →
  WL T [1,5,11,12,13] false dB [(1,.fn cu [] [.aK [.int .i64 f.x,.int .i64 f.y,.int .i64 f.z,.int .i64 f.k]]),(5,.iN σ.length 0),(11,.aE l.length (l.flatMap bV.enc)),(12,.int .i64 l.length),(13,.int .i64 i)] ([.cells 0 (xT met)]::σ)
   (fun x e σ'=>∃s,σ'=s::σ∧if f.each met (l.drop i)=0 then x=.exit 0 else x=.ret∧get e 4=.int .i64 (f.each met (l.drop i)))
 |0,i,met,hi=>by
  refine aB dB.eq_1 ?_;have h1:¬i<l.length:=by omega
  have h2:l.drop i=[]:=az (by omega);simp[-length_flatMap,-map_take,h1,h2,ej.each]
 |k+1,i,met,hi=>by
  refine aB dB.eq_1 ?_;have h1:i<l.length:=by omega
  obtain⟨m,hm⟩:=gE h1;have h2:=cE (f:=bV.enc) (w:=2) (fun _=>rfl) hm;have h4:=db h1 (by omega);have h5:=cO hm;obtain⟨hs1,hs2⟩:=hs m (aj hm);have hC:=fun σ=>aa8 (σ:=σ) hf hs1 hs2
  rw[h5,ej.each];by_cases hc1:f.model m=0
  ·have hg:=Zz (S:=[.cells 0 (xT met)]::σ) (l:=σ.length) (i:=0) (met:=met) (k:=m.name) (by simp);cases hc2:met.contains m.name
   ·rw[hc2]at hg;have hp:=ZA (S:=[.cells 0 (xT met)]::σ) (l:=σ.length) (i:=0) (met:=met) (k:=m.name) (by simp) hc2;have ih:=FE hf hs hl k (i+1) (met++[m.name]) (by omega);simp at hp;have hc3:¬m.name∈met:=by simpa using hc2
    simp[-length_flatMap,-map_take,h1,h2,h4,hC,hc1,hg,hp,hc3];exact WL.to ih (by simp) (by simp) fun x e σ' hh=>by simpa[hc1]using hh
   ·rw[hc2]at hg;have hc3:m.name∈met:=by simpa using hc2
    simp[-length_flatMap,-map_take,h1,h2,h4,hC,hc1,hg,hc3]
  ·simp[-length_flatMap,-map_take,h1,h2,h4,hC,hc1]
theorem TV{f:ej}{l:List bV}(hf:f.valid=true)(hs:∀m∈l,m.name.length≤1000000000∧m.aP.length≤1000000000)(hl:l.length≤1000000000):
  bG T (.call false du [.aE l.length (l.flatMap bV.enc),.fn cu [] [.aK [.int .i64 f.x,.int .i64 f.y,.int .i64 f.z,.int .i64 f.k]]] σ)=some (.val (.int .i64 (f.each [] l)) σ):=by
 refine aA pG eT.eq_1 rfl ?_;have hm:vk ([]::σ) .make []=some (.iN σ.length 0,[.cells 0 (xT [])]::σ):=by simp[vk,xT]
 simp[-length_flatMap,-map_take,hm];refine WL.to (FE (σ:=σ) hf hs hl l.length 0 [] (by omega)) (by simp) (by simp) ?_;rintro x e σ' ⟨s,rfl,h⟩;simp only[aO]at h;by_cases hc:f.each [] l=0
 ·rw[if_pos hc]at h;subst h;simp[-length_flatMap,-map_take,hc]
 ·rw[if_neg hc]at h;obtain⟨rfl,h⟩:=h;simp[h]
theorem Ft{f:ej}{l:List bV}(hf:f.valid=true)(hs:∀m∈l,m.name.length≤1000000000∧m.aP.length≤1000000000)(hl:l.length≤1000000000):
  bG T (.call false eZ [.agg [.int .i64 f.x,.int .i64 f.y,.int .i64 f.z,.int .i64 f.k],.aE l.length (l.flatMap bV.enc)] σ)=some (.val (.int .i64 (f.kT l)) σ):=by
 refine aA r9 ic.eq_1 rfl ?_;cases hc:cK l.length 1 40
 ·simp[-length_flatMap,-map_take,j5,hc,ej.kT]
 ·simp[-length_flatMap,-map_take,j5,hc,ej.kT,TV hf hs hl]
theorem wY{f:ej}{l:List bV}(hf:f.valid=true)(hs:∀m∈l,m.name.length≤1000000000∧m.aP.length≤1000000000)(hl:l.length≤1000000000):
  bG T (.call false dr [.aK [.int .i64 f.x,.int .i64 f.y,.int .i64 f.z,.int .i64 f.k],.aK [.aE l.length (l.flatMap bV.enc)]] σ)=some (.val (.int .i64 (f.kT l)) σ):=by
 refine aA rV gI.eq_1 rfl ?_;simp[-length_flatMap,-map_take,Ft hf hs hl]
theorem Kd{fs:List D}{es:List Int}(hlen:fs.length=es.length)(hl:fs.length≤100)(hfs:∀d∈fs,d.strip=d∧d.calm=d∧Cy false 1 (some [d])=some d)
  (hcall:∀(i:Nat) d n,fs[i]?=some d→es[i]?=some n→(∀j,j<i→es[j]?=some 0)→∀σ,kN (bG T) false d [] σ=some (.int .i64 n,σ)):
  bG T (.call false lL [.aE fs.length fs] σ)=some (.val (.int .i64 (gf id es)) σ):=by
 have loop:∀(k i:Nat) (σ:SK),i+k=fs.length→(∀j,j<i→es[j]?=some 0) →
   WL T [6,7,8] false kY [(6,.aE fs.length fs),(7,.int .i64 fs.length),(8,.int .i64 i)] σ
    (fun x e σ'=>σ'=σ∧if gf id (es.drop i)=0 then x=.exit 0 else x=.ret∧get e 2=.int .i64 (gf id (es.drop i))):=by
  intro k;induction k with
  |zero =>
   intro i σ hi h0;refine aB kY.eq_1 ?_;have h1:¬i<fs.length:=by omega
   have h2:es.drop i=[]:=az (by omega);simp[-length_flatMap,-map_take,h1,h2,gf]
  |succ k ih =>
   intro i σ hi h0;refine aB kY.eq_1 ?_;have h1:i<fs.length:=by omega
   obtain⟨d,hd⟩:=gE h1;obtain⟨n,hn⟩:∃n,es[i]?=some n:=gE (by omega);obtain⟨g1,g2,g3⟩:=hfs d (aj hd);have h2:=cE (f:=fun d:D=>[d]) (w:=1) (fun _=>rfl) (l:=fs) hd;rw[show(fs.flatMap fun d=>[d])=fs from by simp]at h2;have h4:=db h1 (by omega);have h5:=cO hn;have hc:=hcall i d n hd hn h0;simp only[mc]at h2;rw[h5,gf];by_cases hz:n=0
   ·subst hz;have ih':=ih (i+1) σ (by omega) (fun j hj=>by
     by_cases hji:j=i
     ·subst hji;exact hn
     ·exact h0 j (by omega))
    simp[-length_flatMap,-map_take,h1,h2,h4,g1,g2,hc];exact WL.to ih' (by simp) rfl fun x e σ' hh=>by simpa using hh
   ·simp[-length_flatMap,-map_take,h1,h2,h4,g1,g2,hc,hz]
 refine aA yn nG.eq_1 rfl ?_;simp[-length_flatMap,-map_take];refine WL.to (loop fs.length 0 ([]::σ) (by omega) (by simp)) (by simp) rfl ?_;rintro x e σ' ⟨rfl,h⟩;simp only[aO]at h;by_cases hc:gf id es=0
 ·rw[if_pos hc]at h;subst h;simp[-length_flatMap,-map_take,hc]
 ·rw[if_neg hc]at h;obtain⟨rfl,h⟩:=h;simp[h]
theorem tG{f:ej}{l:List bV}(hs:∀m∈l,m.name.length≤1000000000∧m.aP.length≤1000000000)(hl:l.length≤1000000000):
  bG T (.call false ef [.agg [.int .i64 f.x,.int .i64 f.y,.int .i64 f.z,.int .i64 f.k],.aE l.length (l.flatMap bV.enc)] σ)=some (.val (.int .i64 (er f l)) σ):=by
 refine aA tn iP.eq_1 rfl ?_;have hC:=fun σ=>Kd (σ:=σ) (fs:=[.fn dp [.agg [.int .i64 f.x,.int .i64 f.y,.int .i64 f.z,.int .i64 f.k]] [],.fn dr [] [.aK [.int .i64 f.x,.int .i64 f.y,.int .i64 f.z,.int .i64 f.k],.aK [.aE l.length (l.flatMap bV.enc)]]]) (es:=[f.shape,f.kT l]) rfl (by simp) (by simp) (by
  intro i d n hd hn h0 σ;match i with
  |0 =>
   simp at hd hn;subst hd hn;simp[Da]
  |1 =>
   simp at hd hn;subst hd hn;have h1:f.valid=true:=by
    have:=h0 0 (by omega);simp[ej.shape]at this;exact this
   simp[wY h1 hs hl]
  |i+2=>simp at hd)
 simp at hC;have e1:gf id [f.shape,f.kT l]=er f l:=by
  simp only[gf,id,er,ej.shape];by_cases h:f.valid=true
  ·by_cases h2:f.kT l=0<;>simp[h,h2]
  ·simp[h]
 rw[e1]at hC;simp[-length_flatMap,-map_take,hC]
end
end Go.Proofs.YtcgippbplkagkaaGreat
namespace Go.Abs
open List(length_flatMap map_take)
open Go
variable {T:sn}
def kV(q:Nat→Bool)(i:Nat):Nat→Bool×Nat
 |0=>(false,i)
 |m+1=>if q i then(true,i+1)else kV q (i+1) m
theorem vR{q:Nat→Bool}:∀{m i:Nat},(kV q i m).1=false↔∀j,j<m→q (i+j)=false
 |0,i=>by simp[kV]
 |m+1,i=>by
  simp only[kV];by_cases h:q i=true
  ·simp only[h,if_true,Bool.true_eq_false,false_iff];intro hh;have:=hh 0 (by omega);simp[h]at this
  ·have h':q i=false:=by simpa using h
   simp only[h',al,if_false];rw[vR (m:=m) (i:=i+1)];constructor
   ·intro hh j hj;cases j with
    |zero=>simpa using h'
    |succ j=>have:=hh j (by omega);rwa[show i+1+j=i+(j+1)from by omega]at this
   ·intro hh j hj;have:=hh (j+1) (by omega);rwa[show i+(j+1)=i+1+j from by omega]at this
section
variable {α:Type} (E:Xi α) {fv:D} {l:List α} {q:Nat→Bool} {S:Nat→SK}
theorem zh(hl:l.length≤9223372036854775807)(h1:fv.strip=fv)(h2:fv.calm=fv)(ht:∀i x,l[i]?=some x→kN (bG T) false fv [E.val x] (S i)=some (.bool (q i),S (i+1))):∀(m i:Nat),i+m=l.length →
  WL T [0,1,7,8] false (yI E.ag E.w) [(0,.aE l.length (l.flatMap E.enc)),(1,fv),(7,.int .i64 l.length),(8,.int .i64 i)] (S i)
   (fun x e σ'=>σ'=S (kV q i m).2∧if(kV q i m).1=true then x=.ret∧∃j:Nat,get e 4=.int .i64 j else x=.exit 0)
 |0,i,hi=>by
  refine aB (yI.eq_1 _ _) ?_;have:¬i<l.length:=by omega
  simp[this,h1,h2,kV]
 |m+1,i,hi=>by
  refine aB (yI.eq_1 _ _) ?_;have h4:i<l.length:=by omega
  obtain⟨x,hx⟩:=gE h4;have h5:=cE (f:=E.enc) E.len hx;have h6:=ht i x hx;have h7:=db h4 hl;have ih:=zh hl h1 h2 ht m (i+1) (by omega);cases hq:q i
  ·rw[hq]at h6;simp[h4,h1,h2,h5,h6,h7,E.load,E.strip,E.calm];refine WL.mono (by simpa using ih) ?_;rintro x e σ' ⟨h9,h10⟩;simp only[kV,hq,al,if_false];exact⟨h9,h10⟩
  ·rw[hq]at h6;simp[h4,h1,h2,h5,h6,h7,E.load,E.strip,E.calm,kV,hq];exact⟨i,rfl⟩
theorem ED{f:Nat}(hT:T f=some (pv E.ag E.w))(hl:l.length≤9223372036854775807)(h1:fv.strip=fv)(h2:fv.calm=fv)(hlen:∀i,(S i).length=(S 0).length)
  (ht:∀i x,l[i]?=some x→kN (bG T) false fv [E.val x] ([]::S i)=some (.bool (q i),[]::S (i+1))):
  ∃n:Int,bG T (.call false f [.aE l.length (l.flatMap E.enc),fv] (S 0))=some (.val (.int .i64 n) (S (kV q 0 l.length).2))∧(0≤n↔(kV q 0 l.length).1=true):=by
 have h:=zh E (S:=fun i=>[]::S i) hl h1 h2 ht l.length 0 (by omega);cases hq:(kV q 0 l.length).1
 ·refine⟨-1,?_,by simp⟩;refine mA hT (pv.eq_1 _ _) rfl (hlen _) ?_;simp[h1,h2];refine WL.mono (by simpa using h) ?_;rintro x e σ' ⟨rfl,h10⟩;rw[hq]at h10;simp only[al,if_false]at h10;subst h10;simp
 ·obtain⟨x,e,σ',hw,rfl,h10⟩:=h;rw[hq]at h10;simp only[if_true]at h10;obtain⟨rfl,j,hj⟩:=h10;refine⟨j,?_,by simp⟩;refine mA hT (pv.eq_1 _ _) rfl (hlen _) ?_;simp[h1,h2];refine⟨_,_,_,by simpa using hw,?_⟩;simp[hj]
theorem zU{f i:Nat}(hT:T f=some (iJ i))(hi:T i=some (pv E.ag E.w))(hl:l.length≤9223372036854775807)(h1:fv.strip=fv)(h2:fv.calm=fv)(hlen:∀i,(S i).length=(S 0).length)
  (ht:∀i x,l[i]?=some x→kN (bG T) false fv [E.val x] ([]::[]::S i)=some (.bool (q i),[]::[]::S (i+1))):
  bG T (.call false f [.aE l.length (l.flatMap E.enc),fv] (S 0))=some (.val (.bool (kV q 0 l.length).1) (S (kV q 0 l.length).2)):=by
 obtain⟨n,h,hn⟩:=ED E (S:=fun i=>[]::S i) hi hl h1 h2 (fun i=>by simp[hlen i]) ht;refine mA hT (iJ.eq_1 _) rfl (hlen _) ?_;have h4:decide (0≤n)=(kV q 0 l.length).1:=by
  cases hq:(kV q 0 l.length).1
  ·rw[hq]at hn;simp at hn;exact decide_eq_false (by omega)
  ·exact decide_eq_true (hn.2 hq)
 simp[h1,h2,h,h4]
theorem FY{g:Nat}{x:α}{b:Bool}{σ σ':SK}(hT:T g=some (pH E.ag E.w))(hlen:σ'.length=σ.length)(h1:fv.strip=fv)(h2:fv.calm=fv)(ht:kN (bG T) false fv [E.val x] ([]::σ)=some (.bool b,[]::σ')):
  kN (bG T) false (.fn g [] [.aK [fv]]) [E.val x] σ=some (.bool (!b),σ'):=by
 rw[uK];have hc:=E.cells x;have hl:=E.load x;have hs:=E.strip x;have hcm:=E.calm x;have key:bG T (.call false g ([]++[E.val x]++[.aK [fv]]) σ)=some (.val (.bool (!b)) σ'):=by
  generalize E.ag=ag at *
  cases ag with
  |true =>
   refine mA hT (pH.eq_1 _) rfl hlen ?_;simp[h1,h2,ht,hc,hl,hs,hcm]
  |false =>
   refine mA hT (pH.eq_2 _) rfl hlen ?_;simp[h1,h2,ht,hc,hl,hs,hcm]
 rw[key];rfl
theorem DA{f g h i:Nat}{p:Nat→Bool}(hf:T f=some (xl g h))(hg:T g=some (pH E.ag E.w))(hh:T h=some (iJ i))(hi:T i=some (pv E.ag E.w))
  (hl:l.length≤9223372036854775807) (h1:fv.strip=fv) (h2:fv.calm=fv) (hcl:fv.cells=some [fv]) (hlen:∀i,(S i).length=(S 0).length)
  (ht:∀i x,l[i]?=some x→kN (bG T) false fv [E.val x] ([]::[]::[]::[]::S i)=some (.bool (p i),[]::[]::[]::[]::S (i+1))):
  bG T (.call false f [.aE l.length (l.flatMap E.enc),fv] (S 0))=some (.val (.bool !(kV (fun i => !p i) 0 l.length).1) (S (kV (fun i => !p i) 0 l.length).2)):=by
 have hc:=zU E (S:=fun i=>[]::S i) (fv:=.fn g [] [.aK [fv]]) (q:=fun i => !p i) hh hi hl rfl rfl (fun i=>by simp[hlen i]) (fun i x hx=>FY E hg (by simp[hlen i,hlen (i+1)]) h1 h2 (ht i x hx));refine mA hf (xl.eq_1 _ _) rfl (hlen _) ?_;simp[h1,h2,hc,hcl]
theorem Kx{f g h i:Nat}{p:α→Bool}{σ:SK}(hf:T f=some (xl g h))(hg:T g=some (pH E.ag E.w))(hh:T h=some (iJ i))(hi:T i=some (pv E.ag E.w))
  (hl:l.length≤9223372036854775807) (h1:fv.strip=fv) (h2:fv.calm=fv) (hcl:fv.cells=some [fv])
  (ht:∀x∈l,kN (bG T) false fv [E.val x] ([]::[]::[]::[]::σ)=some (.bool (p x),[]::[]::[]::[]::σ)):
  bG T (.call false f [.aE l.length (l.flatMap E.enc),fv] σ)=some (.val (.bool (eH l p)) σ):=by
 have h0:=DA E (T:=T) (S:=fun _=>σ) (fv:=fv) (l:=l) (p:=fun i=>match l[i]? with | some x=>p x | none=>true) hf hg hh hi hl h1 h2 hcl (fun _=>rfl) (fun i x hx=>by
  rw[ht x (aj hx)];simp[hx])
 have he:(!(kV (fun i => !(match l[i]? with | some x=>p x | none=>true)) 0 l.length).1)=eH l p:=by
  have h2:=vR (q:=fun i => !(match l[i]? with | some x=>p x | none=>true)) (m:=l.length) (i:=0);cases hw:eH l p
  ·rw[Bool.not_eq_false'];cases hs:(kV (fun i => !(match l[i]? with | some x=>p x | none=>true)) 0 l.length).1
   ·have h3:=h2.1 hs;have h4:eH l p=true:=jW.2 fun x hx=>by
     obtain⟨j,hj⟩:=cX hx;have:=h3 j (an.1 hj).1;simpa[hj]using this
    rw[hw]at h4;cases h4
   ·rfl
  ·rw[dR];refine h2.2 fun j hj=>?_
   have hx:=au hj;have:=jW.1 hw _ (List.getElem_mem hj);simp[hx,this]
 rw[he]at h0;exact h0
end
end Go.Abs
namespace Go.Proofs.YtcgippbplkagkaaGreat
open List(length_flatMap map_take)
open Go Go.Abs Go.Rock
variable {σ:SK}
theorem J7{r:Rw}:bG T (.call false fD [.agg r.enc] σ)=some (.val (.bool r.alone) σ):=by
 refine aA uH kH.eq_1 rfl ?_;cases hc1:cK r.t 0 400
 ·simp[-length_flatMap,-map_take,kW,Rw.alone,hc1]
 cases hc2:cK r.p 1 10000
 ·simp[-length_flatMap,-map_take,kW,Rw.alone,hc1,hc2]
 cases hc3:cK r.l 0 4000
 ·simp[-length_flatMap,-map_take,kW,Rw.alone,hc1,hc2,hc3]
 cases hc4:cK r.s 0 2000
 ·simp[-length_flatMap,-map_take,kW,Rw.alone,hc1,hc2,hc3,hc4]
 by_cases hc5:r.l<r.v
 rotate_left
 ·simp[-length_flatMap,-map_take,kW,Rw.alone,hc1,hc2,hc3,hc4,hc5]
 simp[-length_flatMap,-map_take,kW,Rw.alone,hc1,hc2,hc3,hc4,hc5]
theorem T1{l:List Rw}(hl:l.length≤1000000000):bG T (.call false eF [.aE l.length (l.flatMap Rw.enc),.fn fD [] []] σ)=some (.val (.bool (eH l Rw.alone)) σ) :=
 zP (sq 5 Rw.enc (fun _=>rfl)) (f:=eF) (g:=fE) (h:=cU) (i:=dD) (l:=l) (p:=Rw.alone) rfl rfl rfl rfl (by omega) (lz.fn fun x _ σ=>J7) rfl
theorem Lt{t l:List Rw}{o:Rw}(hto:t=o::l)(hl:l.length≤100):∀(m i:Nat),i+m=l.length →
  WL T [0,16,17,18] false fy [(0,.aE t.length (t.flatMap Rw.enc)),(16,.aE l.length (l.flatMap Rw.enc)),(17,.int .i64 l.length),(18,.int .i64 i)] σ
   (fun x e σ'=>σ'=σ∧if mV (t.drop i)then x=.exit 0 else x=.ret∧get e 2=.bool false)
 |0,i,hi=>by
  refine aB fy.eq_1 ?_;have h1:¬i<l.length:=by omega
  have h2:t.drop i=[t[i]'(by subst hto;simp;omega)]:=by
   rw[List.drop_eq_getElem_cons (by subst hto;simp;omega),az (by subst hto;simp;omega)]
  simp[-length_flatMap,-map_take,h1,h2,mV]
 |m+1,i,hi=>by
  refine aB fy.eq_1 ?_;have h1:i<l.length:=by omega
  have htl:t.length=l.length+1:=by subst hto;rfl
  obtain⟨r,hr⟩:=gE h1;obtain⟨r0,hr0⟩:∃r0,t[i]?=some r0:=gE (by omega);have h2:=cE (f:=Rw.enc) (w:=5) (fun _=>rfl) hr;have h3:=cE (f:=Rw.enc) (w:=5) (fun _=>rfl) hr0;have h4:=db h1 (by omega);have h6:t.drop (i+1)=r::t.drop (i+2):=cO (by subst hto;simpa using hr);have h5:t.drop i=r0::r::t.drop (i+2):=by rw[cO hr0,h6]
  have ih:=Lt hto hl m (i+1) (by omega);rw[h6]at ih;rw[h5,mV];have hlt:(i:Int)<(t.length:Int):=by omega
  have hlt':i<t.length:=by omega
  by_cases c1:r.t≤r0.t
  ·simp[-length_flatMap,-map_take,h1,hlt,hlt',h2,h3,h4,c1,Rw.od]
  by_cases c2:r.p≤r0.p
  ·simp[-length_flatMap,-map_take,h1,hlt,hlt',h2,h3,h4,c1,c2,Rw.od]
  by_cases c3:r.l≤r0.l
  ·simp[-length_flatMap,-map_take,h1,hlt,hlt',h2,h3,h4,c1,c2,c3,Rw.od]
  by_cases c4:r.s<r0.s
  ·simp[-length_flatMap,-map_take,h1,hlt,hlt',h2,h3,h4,c1,c2,c3,c4,Rw.od]
  ·simp[-length_flatMap,-map_take,h1,hlt,hlt',h2,h3,h4,c1,c2,c3,c4,Rw.od];have hc:r0.t<r.t∧r0.p<r.p∧r0.l<r.l∧r0.s≤r.s:=by omega
   exact WL.to ih (by simp) rfl fun x e σ' hh=>by simpa[hc]using hh
theorem B6{t:List Rw}(hl:t.length≤1000000000):bG T (.call false fO [.aE t.length (t.flatMap Rw.enc)] σ)=some (.val (.bool (oq t)) σ):=by
 refine aA tC jb.eq_1 rfl ?_;have ha:=fun σ=>T1 (σ:=σ) (l:=t) hl
 cases hc1:cK t.length 2 20
 ·simp[-length_flatMap,-map_take,kW,hc1,oq]
 cases hc2:eH t Rw.alone
 ·simp[-length_flatMap,-map_take,kW,hc1,hc2,ha,oq]
 obtain⟨o,l,hto⟩:∃o l,t=o::l:=by
  cases t with
  |nil=>simp[cK]at hc1
  |cons o l=>exact⟨o,l,rfl⟩
 have hi:=bD.1 hc1;have htl:t.length=l.length+1:=by subst hto;rfl
 have h1:(1:Int)≤(t.length:Int):=by omega
 have h2:t.length-1=l.length:=by omega
 have h3:((t.flatMap Rw.enc).drop 5).take (l.length*5)=l.flatMap Rw.enc:=by
  subst hto;have:=Cw (f:=Rw.enc) (w:=5) (fun _=>rfl) l;simpa using this
 simp[-length_flatMap,-map_take,kW,hc1,hc2,ha,h1,h2,h3];refine WL.to (Lt (σ:=[]::σ) hto (by omega) l.length 0 (by omega)) (by simp) rfl ?_;rintro x e σ' ⟨rfl,h⟩;simp only[aO]at h;unfold oq;cases hc3:mV t
 ·rw[hc3]at h;simp at h;simp[h,hc2,hc1]
 ·rw[hc3]at h;simp at h;subst h;simp[-length_flatMap,-map_take,hc2,hc1]
theorem zE{l:List Rw}(hl:l.length≤1000000000):bG T (.call false gG [.aE l.length (l.flatMap Rw.enc)] σ)=some (.val (.int .i64 (if oq l then 0 else 1)) σ):=by
 refine aA uc jR.eq_1 rfl ?_;cases hc:oq l<;>simp[-length_flatMap,-map_take,B6 hl,hc]
end Go.Proofs.YtcgippbplkagkaaGreat
