import Derived.Test.YtfgljaglidhjiaaGreatDoorBase20
import Derived.Test.YtfgljaglidhjiaaGreatDoorTab
set_option linter.all false
namespace Go.Rock
open List(length_flatMap map_take)
open Go Go.Abs
structure gb where
 x:Int
 y:Int
 z:Int
 k:Int
structure Rw where
 t:Int
 p:Int
 l:Int
 v:Int
 s:Int
structure bI where
 b:Int
 h:Int
 m:Int
structure cz where
 f:gb
 ct:List Rw
 bK:Int
 lift:Int
 deep:Int
 an:List bI
structure cU where
 name:List UInt8
 bq:List Int
structure aE where
 m:Int
 h:Int
 k:Int
@[simp] theorem gb.eta(p:gb):gb.mk p.x p.y p.z p.k=p:=rfl
@[simp] theorem Rw.eta(p:Rw):Rw.mk p.t p.p p.l p.v p.s=p:=rfl
@[simp] theorem bI.eta(p:bI):bI.mk p.b p.h p.m=p:=rfl
@[simp] theorem aE.eta(p:aE):aE.mk p.m p.h p.k=p:=rfl
@[simp] def gb.enc(f:gb):List D:=[.int .i64 f.x,.int .i64 f.y,.int .i64 f.z,.int .i64 f.k]
@[simp] def Rw.enc(r:Rw):List D:=[.int .i64 r.t,.int .i64 r.p,.int .i64 r.l,.int .i64 r.v,.int .i64 r.s]
@[simp] def bI.enc(r:bI):List D:=[.int .i64 r.b,.int .i64 r.h,.int .i64 r.m]
@[simp] def aE.enc(r:aE):List D:=[.int .i64 r.m,.int .i64 r.h,.int .i64 r.k]
@[simp] def aY(n:Int):List D:=[.int .i64 n]
@[simp] def cz.enc(b:cz):List D:=[.int .i64 b.f.x,.int .i64 b.f.y,.int .i64 b.f.z,.int .i64 b.f.k,.aH b.ct.length (b.ct.flatMap Rw.enc),.int .i64 b.bK,.int .i64 b.lift,.int .i64 b.deep,.aH b.an.length (b.an.flatMap bI.enc)]
@[simp] def cU.enc(m:cU):List D:=[.str m.name,.aH m.bq.length (m.bq.flatMap aY)]
def S4(s:List aE):D:=.aH s.length (s.flatMap aE.enc)
def cT(n lo hi:Int):Bool:=decide (lo≤n) && decide (n≤hi)
theorem bf{n lo hi:Int}:cT n lo hi=true↔lo≤n∧n≤hi:=by simp[cT]
def gb.size(f:gb):Int:=f.x*f.y*f.z
def gb.valid(f:gb):Bool:=cT f.x 1 8 && (cT f.y 1 8 && (cT f.z 1 8 && (decide (f.size≤64) && cT f.k 1 6)))
theorem gb.tT{f:gb}:f.valid=true↔(1≤f.x∧f.x≤8)∧(1≤f.y∧f.y≤8)∧(1≤f.z∧f.z≤8)∧f.size≤64∧(1≤f.k∧f.k≤6):=by
 simp[gb.valid,cT,and_assoc]
def gb.shape(f:gb):Int:=if f.valid then 0 else 1
def letter(c:UInt8):Bool:=decide (97≤c.toNat) && decide (c.toNat≤122)
def digit(c:UInt8):Bool:=decide (48≤c.toNat) && decide (c.toNat≤57)
def xa(i:Nat):List UInt8→Bool
 |[]=>true
 |c::l=>(letter c || (decide (i≠0) && digit c)) && xa (i+1) l
def named(s:List UInt8):Bool:=xa 0 s && cT s.length 1 16
def gb.model(f:gb)(m:cU):Int:=if named m.name then(if(m.bq.length:Int)=f.k*f.size∧ie m.bq (fun n=>cT n (-100000) 100000)=true then 0 else 1)else 5
def gb.each(f:gb)(met:List (List UInt8)):List cU→Int
 |[]=>0
 |m::l=>if f.model m=0 then(if met.contains m.name then 6 else f.each (met++[m.name]) l)else f.model m
def gb.ar(f:gb)(l:List cU):Int:=if cT l.length 1 40 then f.each [] l else 3
def ig(f:gb)(l:List cU):Int:=if f.valid then f.ar l else 1
def Rw.alone(r:Rw):Bool:=cT r.t 0 400 && (cT r.p 1 10000 && (cT r.l 0 4000 && (cT r.s 0 2000 && (decide (r.l<r.v) && decide (r.v≤4000)))))
def Rw.Jv(o r:Rw):Bool := !(decide (r.t≤o.t) || (decide (r.p≤o.p) || (decide (r.l≤o.l) || decide (r.s<o.s))))
def Fs:List Rw→Bool
 |o::r::l=>o.Jv r && Fs (r::l)
 |_=>true
def kS(t:List Rw):Bool:=cT t.length 2 20 && (ie t Rw.alone && Fs t)
def bI.ok(size:Int)(used:List Int)(w:bI):Bool:=cT w.b 0 (size-1) && (!used.contains w.b && (cT w.h 0 3000 && cT w.m 0 1000000))
def uS(size:Int)(used:List Int):List bI→Bool
 |[]=>true
 |w::l=>w.ok size used && uS size (used++[w.b]) l
def cz.size(b:cz):Int:=b.f.size
def cz.ok1(b:cz):Bool:=b.f.valid && (decide (4≤b.f.k) && (kS b.ct && (cT b.bK 1 100000 && (cT b.lift 0 1000 && (cT b.deep 0 3000 && decide (b.an.length≤8))))))
def cz.valid(b:cz):Bool:=b.ok1 && uS b.size [] b.an
def cz.n(b:cz):Nat:=b.size.toNat
def vW(b:cz)(m:cU)(k:Nat):List Int:=(m.bq.drop (k*b.n)).take b.n
def vn(b:cz)(m:cU)(k:Nat)(i:Nat):Int:=(m.bq[k*b.n+i]?).getD 0
def hold(b:cz)(m:cU)(i:Nat):Int:=vn b m 0 i
def IA(b:cz)(m:cU)(i:Nat):Int:=vn b m 1 i
def II(b:cz)(m:cU)(i:Nat):Int:=vn b m 2 i
def feed(b:cz)(m:cU)(i:Nat):Int:=vn b m 3 i
def fits(b:cz)(m:cU):Bool:=decide (ig b.f [m]=0) && (ie (vW b m 0) (fun n=>cT n 1000 100000) && (ie (vW b m 1) (fun n=>cT n 0 1000) && (ie (vW b m 2) (fun n=>cT n 0 3000) && ie (vW b m 3) (fun n=>cT n 0 1000))))
def Bd(b:cz)(m:cU):Bool:=b.valid && fits b m
def ea(b:cz)(m:cU):List aE:=(List.range b.n).map fun i=>⟨hold b m i,hold b m i*II b m i,0⟩
def aE.valid(x:aE):Bool:=cT x.m 1 1000000 && (cT x.h 0 10000000000 && cT x.k 0 1000000000000)
def yC(b:cz)(s:List aE):Bool:=decide ((s.length:Int)=b.size) && ie s aE.valid
def weight(b:cz)(i:Nat):Int:=((i / (b.f.x.toNat*b.f.y.toNat):Nat):Int)*b.lift
def down(n d:Int):Int:=n / d
def bP(s:List aE)(i:Nat):aE:=(s[i]?).getD ⟨0,0,0⟩
def qY(x:aE)(out:Int)(r:Rw):Int:=if r.l*x.m≤x.h then max out r.p else out
def lr(b:cz)(m:cU)(s:List aE)(i:Nat):Int :=
 b.ct.foldl (qY (bP s i)) (max 0 (weight b i+down (b.bK*((bP s i).m-hold b m i)) (hold b m i)))
def bT(b:cz)(m:cU)(s:List aE):List Int:=(List.range s.length).map (lr b m s)
def yq(b:cz)(i:Nat):List (Nat×Nat) :=
 (if(i+1)%b.f.x.toNat≠0 then [(i,i+1)]else [])++((if i / b.f.x.toNat%b.f.y.toNat≠b.f.y.toNat-1 then [(i,i+b.f.x.toNat)]else [])++(if i+b.f.x.toNat*b.f.y.toNat<b.n then [(i,i+b.f.x.toNat*b.f.y.toNat)]else []))
def Jn(b:cz):List (Nat×Nat):=(List.range b.n).flatMap (yq b)
def aE.out(x:aE)(m:Int):aE:=⟨m,(x.h*m).tdiv x.m,(x.k*m).tdiv x.m⟩
def aE.move(x o:aE)(sign:Int):aE:=⟨x.m+sign*o.m,x.h+sign*o.h,x.k+sign*o.k⟩
def Ka(b:cz)(m:cU)(s:List aE)(p:List Int)(l:Nat×Nat):Option ((Nat×Nat)×aE) :=
 let d:=(p[l.1]?).getD 0-weight b l.1-(p[l.2]?).getD 0+weight b l.2
 let l':=if d<0 then(l.2,l.1)else l
 let d':=if d<0 then -d else d
 let q:=min ((min (IA b m l'.1) (IA b m l'.2)*d').tdiv 1000) ((bP s l'.1).m.tdiv 8)
 if 0<q then some (l',(bP s l'.1).out q)else none
def SE(es:List ((Nat×Nat)×aE))(k:Nat×Nat)(o:aE):List ((Nat×Nat)×aE) :=
 match es.findIdx? (fun e=>e.1 == k)with
 |some j=>es.set j (k,o)
 |none=>es++[(k,o)]
def pU(b:cz)(m:cU)(s:List aE)(p:List Int)(es:List ((Nat×Nat)×aE))(l:Nat×Nat):List ((Nat×Nat)×aE) :=
 match Ka b m s p l with
 |some e=>SE es e.1 e.2
 |none=>es
def vR(b:cz)(m:cU)(s:List aE):List ((Nat×Nat)×aE):=(Jn b).foldl (pU b m s (bT b m s)) []
def iV(s:List aE)(i:Nat)(o:aE)(sign:Int):List aE:=s.set i ((bP s i).move o sign)
def fe(s:List aE)(e:(Nat×Nat)×aE):List aE:=iV (iV s e.1.1 e.2 (-1)) e.1.2 e.2 1
def bI.given(w:bI)(rate:Int):aE:=⟨-rate,-rate*w.h,-rate*w.m⟩
def su(s:List aE)(w:bI)(rate:Int):aE:=if rate<0 then⟨0,0,0⟩else(bP s w.b.toNat).out (min rate ((bP s w.b.toNat).m.tdiv 8))
def uR(s next:List aE)(w:bI)(rate:Int):List aE:=if rate<0 then iV next w.b.toNat (w.given rate) 1 else iV next w.b.toNat (su s w rate) (-1)
def NH(b:cz)(m:cU)(i:Nat):aE:=⟨feed b m i,feed b m i*b.deep,0⟩
def Dt(b:cz)(m:cU)(s:List aE)(aQ:List Int):List aE :=
 let s1:=(vR b m s).foldl fe s
 let s2:=(b.an.zip aQ).foldl (fun n wr=>uR s n wr.1 wr.2) s1
 (List.range s.length).foldl (fun n i=>iV n i (NH b m i) 1) s2
def eI(b:cz)(s:List aE)(aQ:List Int):List aE:=(b.an.zip aQ).map fun wr=>su s wr.1 wr.2
def tick(b:cz)(m:cU)(s:List aE)(aQ:List Int):Option (List aE×List aE) :=
 if yC b (Dt b m s aQ)then some (Dt b m s aQ,eI b s aQ)else none
def Ap(b:cz)(l:List Int):Int:=if l.length=b.an.length then(if ie l (fun n=>cT n (-100000) 100000)then 0 else 2)else 1
def cN{α:Type}(f:α→Int):List α→Int
 |[]=>0
 |x::l=>if f x=0 then cN f l else f x
def wI(b:cz)(az:List (List Int)):Int:=if 200<az.length then 3 else cN (Ap b) az
def vE(b:cz)(m:cU):List (List aE)→List (List aE)→List aE→List (List Int)→Option (List (List aE)×List (List aE))
 |ss,ys,_,[]=>some (ss,ys)
 |ss,ys,s,r::az =>
  match tick b m s r with
  |some (s',y)=>vE b m (ss++[s']) (ys++[y]) s' az
  |none=>none
def run(b:cz)(m:cU)(az:List (List Int)):Option (List (List aE)×List (List aE)):=vE b m [ea b m] [] (ea b m) az
end Go.Rock
namespace Go.Proofs.YtfgljaglidhjiaaGreatDoor
open List(length_flatMap map_take)
open Go Go.Abs Go.Rock
variable {σ:SK}
theorem QU{a b A B:Int}(h1:1≤a)(h2:a≤A)(h3:1≤b)(h4:b≤B):1≤a*b∧a*b≤A*B :=
 ⟨by have:=Int.mul_pos (a:=a) (b:=b) (by omega) (by omega);omega,l8 h2 h4 (by omega) (by omega)⟩
theorem oV{a b A B:Int}(h1:0≤a)(h2:a≤A)(h3:0≤b)(h4:b≤B):0≤a*b∧a*b≤A*B :=
 ⟨fw h1 h3,l8 h2 h4 h3 (by omega)⟩
theorem gb.sz{f:gb}(hx:1≤f.x∧f.x≤8)(hy:1≤f.y∧f.y≤8)(hz:1≤f.z∧f.z≤8):(1≤f.x*f.y∧f.x*f.y≤64)∧(1≤f.x*f.y*f.z∧f.x*f.y*f.z≤512):=by
 have h1:=QU hx.1 hx.2 hy.1 hy.2;have h2:=QU h1.1 h1.2 hz.1 hz.2;exact⟨by omega,by omega⟩
theorem dO{a b c:Int}:lim T (.call false cn [.int .i64 a,.int .i64 b,.int .i64 c] σ)=some (.val (.bool (cT a b c)) σ):=by
 refine aw Ip vC.eq_1 rfl ?_;by_cases h:b≤a<;>simp[-length_flatMap,-map_take,h,cT]
theorem hJ{a b c:Int}:lim T (.call false dS [.int .i64 a,.int .i64 b,.int .i64 c] σ)=some (.val (.bool (cT a b c)) σ):=by
 refine aw G3 uh.eq_1 rfl ?_;by_cases h:b≤a<;>simp[-length_flatMap,-map_take,h,cT]
theorem ko{a b c:Int}:lim T (.call false dA [.int .i64 a,.int .i64 b,.int .i64 c] σ)=some (.val (.bool (cT a b c)) σ):=by
 refine aw Ha uB.eq_1 rfl ?_;by_cases h:b≤a<;>simp[-length_flatMap,-map_take,h,cT]
theorem GK{f:gb}(hx:1≤f.x∧f.x≤8)(hy:1≤f.y∧f.y≤8)(hz:1≤f.z∧f.z≤8):lim T (.call false dw [.agg [.int .i64 f.x,.int .i64 f.y,.int .i64 f.z,.int .i64 f.k]] σ)=some (.val (.int .i64 f.size) σ):=by
 refine aw A6 nk.eq_1 rfl ?_;obtain⟨h1,h2⟩:=gb.sz hx hy hz;have w1:=fN (n:=f.x*f.y) (by omega);have w2:=fN (n:=f.x*f.y*f.z) (by omega);simp[-length_flatMap,-map_take,w1,w2,gb.size]
theorem Td{f:gb}:lim T (.call false lf [.agg [.int .i64 f.x,.int .i64 f.y,.int .i64 f.z,.int .i64 f.k]] σ)=some (.val (.bool f.valid) σ):=by
 refine aw Ck oh.eq_1 rfl ?_;cases hc1:cT f.x 1 8
 ·simp[-length_flatMap,-map_take,hJ,gb.valid,hc1]
 cases hc2:cT f.y 1 8
 ·simp[-length_flatMap,-map_take,hJ,gb.valid,hc1,hc2]
 cases hc3:cT f.z 1 8
 ·simp[-length_flatMap,-map_take,hJ,gb.valid,hc1,hc2,hc3]
 have hb:=fun σ=>GK (σ:=σ) (f:=f) (bf.1 hc1) (bf.1 hc2) (bf.1 hc3)
 by_cases hc4:f.size≤64
 ·simp[-length_flatMap,-map_take,hJ,gb.valid,hc1,hc2,hc3,hc4,hb]
 ·simp[-length_flatMap,-map_take,hJ,gb.valid,hc1,hc2,hc3,hc4,hb]
theorem Gw{f:gb}:lim T (.call false cQ [.agg [.int .i64 f.x,.int .i64 f.y,.int .i64 f.z,.int .i64 f.k]] σ)=some (.val (.int .i64 f.shape) σ):=by
 refine aw Cj og.eq_1 rfl ?_;have hb:=fun σ=>Td (σ:=σ) (f:=f)
 cases hc:f.valid<;>rw[hc]at hb<;>simp[-length_flatMap,-map_take,hb,gb.shape,hc]
theorem jU{f:gb}:lim T (.call false jH [.agg [.int .i64 f.x,.int .i64 f.y,.int .i64 f.z,.int .i64 f.k]] σ)=some (.val (.int .i64 f.shape) σ):=by
 refine aw CS o9.eq_1 rfl ?_;have hb:=fun σ=>Gw (σ:=σ) (f:=f)
 simp[-length_flatMap,-map_take,hb]
theorem OI{s:List UInt8}(hl:s.length≤1000000000):∀(m i:Nat),i+m=s.length →
  WL T [0,6,7] false rW [(0,.str s),(6,.int .i64 s.length),(7,.int .i64 i)] σ
   (fun x e σ'=>σ'=σ∧if xa i (s.drop i)then x=.exit 0∧get e 0=.str s else x=.ret∧get e 2=.bool false)
 |0,i,hi=>by
  refine aM rW.eq_1 ?_;have h1:¬i<s.length:=by omega
  have h2:s.drop i=[]:=aA (by omega);simp[-length_flatMap,-map_take,h1,h2,xa]
 |m+1,i,hi=>by
  refine aM rW.eq_1 ?_;have h1:i<s.length:=by omega
  obtain⟨c,hc⟩:=gE h1;have h4:=gN h1 (by omega);have h5:=cq hc;have ih:=OI hl m (i+1) (by omega);rw[h5,xa];have hd:EH .IE [.str s,.int .i64 (i:Int)]=some (.int .u8 c.toNat):=by simp[EH,hc]
  by_cases hc1:97≤c.toNat
  ·by_cases hc2:c.toNat≤122
   ·have hlet:letter c=true:=by simp[letter,hc1,hc2]
    simp[-length_flatMap,-map_take,h1,h4,hd,hlet,show(97:Int)≤(c.toNat:Int)by omega,show(c.toNat:Int)≤122 by omega];exact WL.to ih (by simp) rfl fun x e σ' hh=>by simpa[hlet]using hh
   ·have hlet:letter c=false:=by simp[letter,hc2]
    have hdig:digit c=false:=by simp[digit];omega
    by_cases hi0:i=0
    ·subst hi0;have hd0:EH .IE [.str s,.int .i64 0]=some (.int .u8 c.toNat):=by simpa using hd
     have h1':0<s.length:=h1;simp[-length_flatMap,-map_take,h1',h4,hd0,hlet,hdig,show(97:Int)≤(c.toNat:Int)by omega,show ¬(c.toNat:Int)≤122 by omega]
    ·simp[-length_flatMap,-map_take,h1,h4,hd,hlet,hdig,hi0,show(97:Int)≤(c.toNat:Int)by omega,show ¬(c.toNat:Int)≤122 by omega,show ¬(c.toNat:Int)<48 by omega,show(57:Int)<(c.toNat:Int)by omega,show(57:Nat)<c.toNat by omega,show ¬c.toNat<48 by omega]
  ·have hlet:letter c=false:=by simp[letter,hc1]
   by_cases hi0:i=0
   ·subst hi0;have hd0:EH .IE [.str s,.int .i64 0]=some (.int .u8 c.toNat):=by simpa using hd
    have h1':0<s.length:=h1;simp[-length_flatMap,-map_take,h1',h4,hd0,hlet,show ¬(97:Int)≤(c.toNat:Int)by omega]
   ·by_cases hc3:c.toNat<48
    ·have hdig:digit c=false:=by simp[digit];omega
     simp[-length_flatMap,-map_take,h1,h4,hd,hlet,hdig,hi0,show ¬(97:Int)≤(c.toNat:Int)by omega,show(c.toNat:Int)<48 by omega,hc3]
    ·by_cases hc4:57<c.toNat
     ·have hdig:digit c=false:=by simp[digit];omega
      simp[-length_flatMap,-map_take,h1,h4,hd,hlet,hdig,hi0,show ¬(97:Int)≤(c.toNat:Int)by omega,show ¬(c.toNat:Int)<48 by omega,show(57:Int)<(c.toNat:Int)by omega,hc3,hc4]
     ·have hdig:digit c=true:=by simp[digit];omega
      simp[-length_flatMap,-map_take,h1,h4,hd,hlet,hdig,hi0,show ¬(97:Int)≤(c.toNat:Int)by omega,show ¬(c.toNat:Int)<48 by omega,show ¬(57:Int)<(c.toNat:Int)by omega,hc3,hc4];exact WL.to ih (by simp) rfl fun x e σ' hh=>by simpa[hlet,hdig,hi0]using hh
theorem Gv{s:List UInt8}(hl:s.length≤1000000000):lim T (.call false qT [.str s] σ)=some (.val (.bool (named s)) σ):=by
 refine aw Ik vx.eq_1 rfl ?_;have hp:EH .Ey [.str s]=some (.int .i64 s.length):=rfl;simp[-length_flatMap,-map_take,hp];refine WL.to (OI (σ:=[]::σ) hl s.length 0 (by omega)) (by simp) rfl ?_;rintro x e σ' ⟨rfl,h⟩;simp only[aO]at h;unfold named;cases hc:xa 0 s
 ·simp[hc]at h;simp[h]
 ·simp[hc]at h;simp[-length_flatMap,-map_take,h,hp,hJ]
theorem af4{a:Int}:lim T (.call false gF [.int .i64 a] σ)=some (.val (.bool (cT a (-100000) 100000)) σ):=by
 refine aw AM mD.eq_1 rfl ?_;simp[-length_flatMap,-map_take,hJ]
theorem Rx{l:List Int}{p:Int→Bool}{fv:D}(hl:l.length≤1000000000)(ht:rj T fv (fun n => .int .i64 n) p l)(hc:fv.cells=some [fv]):
  lim T (.call false pW [.aH l.length (l.flatMap aY),fv] σ)=some (.val (.bool (ie l p)) σ) :=
 zV (J9 .i64) (f:=pW) (g:=rF) (h:=bZ) (i:=eC) (l:=l) (p:=p) (fv:=fv) rfl rfl rfl rfl (by omega) ht hc
theorem Mm{f:gb}(hf:f.valid=true):(1≤f.size∧f.size≤64)∧1≤f.k*f.size∧f.k*f.size≤384:=by
 obtain⟨h1,h2,h3,h4,h5⟩:=gb.tT.1 hf;obtain⟨_,h6⟩:=gb.sz h1 h2 h3;have h7:=QU h5.1 h5.2 (b:=f.size) (B:=64) (by unfold gb.size;omega) h4;exact⟨⟨by unfold gb.size;omega,h4⟩,by omega,by omega⟩
theorem Oz{f:gb}{m:cU}(hf:f.valid=true)(hn:m.name.length≤1000000000)(hl:m.bq.length≤1000000000):lim T (.call false jb [.agg [.int .i64 f.x,.int .i64 f.y,.int .i64 f.z,.int .i64 f.k],.agg [.str m.name,.aH m.bq.length (m.bq.flatMap aY)]] σ)=some (.val (.int .i64 (f.model m)) σ):=by
 refine aw Ci oe.eq_1 rfl ?_;obtain⟨h1,h2,h3,h4,h5⟩:=gb.tT.1 hf;obtain⟨h6,h7⟩:=Mm hf;have w1:=fN (n:=f.k*f.size) (by omega);have hb:=fun σ=>GK (σ:=σ) (f:=f) h1 h2 h3
 have ha:=fun σ=>Rx (σ:=σ) (l:=m.bq) (p:=fun n=>cT n (-100000) 100000) (fv:=.fn gF [] []) hl (rj.fn fun x _ σ=>by simpa using af4) rfl
 cases hc1:named m.name
 ·simp[-length_flatMap,-map_take,Gv hn,hc1,gb.model]
 ·by_cases hc2:(m.bq.length:Int)=f.k*f.size
  ·cases hc3:ie m.bq (fun n=>cT n (-100000) 100000)<;>
    simp[-length_flatMap,-map_take,Gv hn,hc1,hc2,hc3,gb.model,hb,ha,w1]
  ·simp[-length_flatMap,-map_take,Gv hn,hc1,hc2,gb.model,hb,w1]
def CA(met:List (List UInt8)):List D:=met.map fun n => .dV [.str n,.bool true]
theorem E7{k:List UInt8}:∀{met:List (List UInt8)},∃r,rM none (.str k) (CA met)=some r∧(met.contains k=true→∃j,r=some (j,.bool true))∧(met.contains k=false→r=none)
 |[]=>⟨none,rfl,by simp,by simp⟩
 |n::met=>by
  obtain⟨r,h1,h2,h3⟩:=E7 (k:=k) (met:=met);simp only[CA,aL]at h1 ⊢;by_cases hk:k=n
  ·subst hk;exact⟨some (0,.bool true),by simp[rM,tG],fun _=>⟨0,rfl⟩,by simp⟩
  ·have hb:(k == n)=false:=by simpa using hk
   refine⟨r.map fun y=>(y.1+1,y.2),by simp[rM,tG,hb,h1],?_,?_⟩
   ·intro hc;have:met.contains k=true:=by simpa[hk]using hc
    obtain⟨j,rfl⟩:=h2 this;exact⟨j+1,rfl⟩
   ·intro hc;have:met.contains k=false:=by simp at hc ⊢;exact hc.2
    rw[h3 this];rfl
theorem amG{S:SK}{l i:Nat}{met:List (List UInt8)}{k:List UInt8}(h:cells? S l i 0=some (CA met)):AY S (.get none (.bool false) false) [.l7 l i,.str k]=some (.bool (met.contains k),S):=by
 obtain⟨r,h1,h2,h3⟩:=E7 (k:=k) (met:=met);simp only[AY,AX,h,aR,h1];cases hc:met.contains k
 ·rw[h3 hc];simp[tG]
 ·obtain⟨j,rfl⟩:=h2 hc;simp[tG]
theorem amH{S:SK}{l i:Nat}{met:List (List UInt8)}{k:List UInt8}(h:cells? S l i 0=some (CA met))(hn:met.contains k=false):
  AY S (.put none) [.l7 l i,.str k,.bool true]=some (.undef,aV S l i (.cells 0 (CA (met++[k])))):=by
 obtain⟨r,h1,h2,h3⟩:=E7 (k:=k) (met:=met);simp only[AY,AX,h,aR,h1];rw[h3 hn];simp[tG,CA,D.clean]
theorem axQ{f:gb}{m:cU}(hf:f.valid=true)(hn:m.name.length≤1000000000)(hl:m.bq.length≤1000000000):
  lim T (.call false ew [.agg [.str m.name,.aH m.bq.length (m.bq.flatMap aY)],.bB [.int .i64 f.x,.int .i64 f.y,.int .i64 f.z,.int .i64 f.k]] σ)=some (.val (.dV [.str m.name,.int .i64 (f.model m)]) σ):=by
 refine aw zP lA.eq_1 rfl ?_;simp[-length_flatMap,-map_take,Oz hf hn hl]
theorem TG{f:gb}{l:List cU}(hf:f.valid=true)(hs:∀m∈l,m.name.length≤1000000000∧m.bq.length≤1000000000)(hl:l.length≤1000000000):∀(k i:Nat) (met:List (List UInt8)),i+k=l.length →
  WL T [1,5,11,12,13] false gP [(1,.fn ew [] [.bB [.int .i64 f.x,.int .i64 f.y,.int .i64 f.z,.int .i64 f.k]]),(5,.l7 σ.length 0),(11,.aH l.length (l.flatMap cU.enc)),(12,.int .i64 l.length),(13,.int .i64 i)] ([.cells 0 (CA met)]::σ)
   (fun x e σ'=>∃s,σ'=s::σ∧if f.each met (l.drop i)=0 then x=.exit 0 else x=.ret∧get e 4=.int .i64 (f.each met (l.drop i)))
 |0,i,met,hi=>by
  refine aM gP.eq_1 ?_;have h1:¬i<l.length:=by omega
  have h2:l.drop i=[]:=aA (by omega);simp[-length_flatMap,-map_take,h1,h2,gb.each]
 |k+1,i,met,hi=>by
  refine aM gP.eq_1 ?_;have h1:i<l.length:=by omega
  obtain⟨m,hm⟩:=gE h1;have h2:=bW (f:=cU.enc) (w:=2) (fun _=>rfl) hm;have h4:=gN h1 (by omega);have h5:=cq hm;obtain⟨hs1,hs2⟩:=hs m (aj hm);have hC:=fun σ=>axQ (σ:=σ) hf hs1 hs2
  rw[h5,gb.each];by_cases hc1:f.model m=0
  ·have hg:=amG (S:=[.cells 0 (CA met)]::σ) (l:=σ.length) (i:=0) (met:=met) (k:=m.name) (by simp);cases hc2:met.contains m.name
   ·rw[hc2]at hg;have hp:=amH (S:=[.cells 0 (CA met)]::σ) (l:=σ.length) (i:=0) (met:=met) (k:=m.name) (by simp) hc2;have ih:=TG hf hs hl k (i+1) (met++[m.name]) (by omega);simp at hp;have hc3:¬m.name∈met:=by simpa using hc2
    simp[-length_flatMap,-map_take,h1,h2,h4,hC,hc1,hg,hp,hc3];exact WL.to ih (by simp) (by simp) fun x e σ' hh=>by simpa[hc1]using hh
   ·rw[hc2]at hg;have hc3:m.name∈met:=by simpa using hc2
    simp[-length_flatMap,-map_take,h1,h2,h4,hC,hc1,hg,hc3]
  ·simp[-length_flatMap,-map_take,h1,h2,h4,hC,hc1]
theorem anb{f:gb}{l:List cU}(hf:f.valid=true)(hs:∀m∈l,m.name.length≤1000000000∧m.bq.length≤1000000000)(hl:l.length≤1000000000):
  lim T (.call false gK [.aH l.length (l.flatMap cU.enc),.fn ew [] [.bB [.int .i64 f.x,.int .i64 f.y,.int .i64 f.z,.int .i64 f.k]]] σ)=some (.val (.int .i64 (f.each [] l)) σ):=by
 refine aw yN jX.eq_1 rfl ?_;have hm:AY ([]::σ) .make []=some (.l7 σ.length 0,[.cells 0 (CA [])]::σ):=by simp[AY,CA]
 simp[-length_flatMap,-map_take,hm];refine WL.to (TG (σ:=σ) hf hs hl l.length 0 [] (by omega)) (by simp) (by simp) ?_;rintro x e σ' ⟨s,rfl,h⟩;simp only[aO]at h;by_cases hc:f.each [] l=0
 ·rw[if_pos hc]at h;subst h;simp[-length_flatMap,-map_take,hc]
 ·rw[if_neg hc]at h;obtain⟨rfl,h⟩:=h;simp[h]
theorem Tj{f:gb}{l:List cU}(hf:f.valid=true)(hs:∀m∈l,m.name.length≤1000000000∧m.bq.length≤1000000000)(hl:l.length≤1000000000):
  lim T (.call false kf [.agg [.int .i64 f.x,.int .i64 f.y,.int .i64 f.z,.int .i64 f.k],.aH l.length (l.flatMap cU.enc)] σ)=some (.val (.int .i64 (f.ar l)) σ):=by
 refine aw A7 nq.eq_1 rfl ?_;cases hc:cT l.length 1 40
 ·simp[-length_flatMap,-map_take,hJ,hc,gb.ar]
 ·simp[-length_flatMap,-map_take,hJ,hc,gb.ar,anb hf hs hl]
theorem GJ{f:gb}{l:List cU}(hf:f.valid=true)(hs:∀m∈l,m.name.length≤1000000000∧m.bq.length≤1000000000)(hl:l.length≤1000000000):
  lim T (.call false gC [.bB [.int .i64 f.x,.int .i64 f.y,.int .i64 f.z,.int .i64 f.k],.bB [.aH l.length (l.flatMap cU.enc)]] σ)=some (.val (.int .i64 (f.ar l)) σ):=by
 refine aw AK mB.eq_1 rfl ?_;simp[-length_flatMap,-map_take,Tj hf hs hl]
theorem JJ{fs:List D}{es:List Int}(hlen:fs.length=es.length)(hl:fs.length≤100)(hfs:∀d∈fs,d.strip=d∧d.calm=d∧MY false 1 (some [d])=some d)
  (hcall:∀(i:Nat) d n,fs[i]?=some d→es[i]?=some n→(∀j,j<i→es[j]?=some 0)→∀σ,pQ (lim T) false d [] σ=some (.int .i64 n,σ)):
  lim T (.call false nY [.aH fs.length fs] σ)=some (.val (.int .i64 (cN id es)) σ):=by
 have loop:∀(k i:Nat) (σ:SK),i+k=fs.length→(∀j,j<i→es[j]?=some 0) →
   WL T [6,7,8] false rV [(6,.aH fs.length fs),(7,.int .i64 fs.length),(8,.int .i64 i)] σ
    (fun x e σ'=>σ'=σ∧if cN id (es.drop i)=0 then x=.exit 0 else x=.ret∧get e 2=.int .i64 (cN id (es.drop i))):=by
  intro k;induction k with
  |zero =>
   intro i σ hi h0;refine aM rV.eq_1 ?_;have h1:¬i<fs.length:=by omega
   have h2:es.drop i=[]:=aA (by omega);simp[-length_flatMap,-map_take,h1,h2,cN]
  |succ k ih =>
   intro i σ hi h0;refine aM rV.eq_1 ?_;have h1:i<fs.length:=by omega
   obtain⟨d,hd⟩:=gE h1;obtain⟨n,hn⟩:∃n,es[i]?=some n:=gE (by omega);obtain⟨g1,g2,g3⟩:=hfs d (aj hd);have h2:=bW (f:=fun d:D=>[d]) (w:=1) (fun _=>rfl) (l:=fs) hd;rw[show(fs.flatMap fun d=>[d])=fs from by simp]at h2;have h4:=gN h1 (by omega);have h5:=cq hn;have hc:=hcall i d n hd hn h0;simp only[dM]at h2;rw[h5,cN];by_cases hz:n=0
   ·subst hz;have ih':=ih (i+1) σ (by omega) (fun j hj=>by
     by_cases hji:j=i
     ·subst hji;exact hn
     ·exact h0 j (by omega))
    simp[-length_flatMap,-map_take,h1,h2,h4,g1,g2,hc];exact WL.to ih' (by simp) rfl fun x e σ' hh=>by simpa using hh
   ·simp[-length_flatMap,-map_take,h1,h2,h4,g1,g2,hc,hz]
 refine aw Ij vw.eq_1 rfl ?_;simp[-length_flatMap,-map_take];refine WL.to (loop fs.length 0 ([]::σ) (by omega) (by simp)) (by simp) rfl ?_;rintro x e σ' ⟨rfl,h⟩;simp only[aO]at h;by_cases hc:cN id es=0
 ·rw[if_pos hc]at h;subst h;simp[-length_flatMap,-map_take,hc]
 ·rw[if_neg hc]at h;obtain⟨rfl,h⟩:=h;simp[h]
theorem CD{f:gb}{l:List cU}(hs:∀m∈l,m.name.length≤1000000000∧m.bq.length≤1000000000)(hl:l.length≤1000000000):
  lim T (.call false ja [.agg [.int .i64 f.x,.int .i64 f.y,.int .i64 f.z,.int .i64 f.k],.aH l.length (l.flatMap cU.enc)] σ)=some (.val (.int .i64 (ig f l)) σ):=by
 refine aw Ch od.eq_1 rfl ?_;have hC:=fun σ=>JJ (σ:=σ) (fs:=[.fn cQ [.agg [.int .i64 f.x,.int .i64 f.y,.int .i64 f.z,.int .i64 f.k]] [],.fn gC [] [.bB [.int .i64 f.x,.int .i64 f.y,.int .i64 f.z,.int .i64 f.k],.bB [.aH l.length (l.flatMap cU.enc)]]]) (es:=[f.shape,f.ar l]) rfl (by simp) (by simp) (by
  intro i d n hd hn h0 σ;match i with
  |0 =>
   simp at hd hn;subst hd hn;simp[Gw]
  |1 =>
   simp at hd hn;subst hd hn;have h1:f.valid=true:=by
    have:=h0 0 (by omega);simp[gb.shape]at this;exact this
   simp[GJ h1 hs hl]
  |i+2=>simp at hd)
 simp at hC;have e1:cN id [f.shape,f.ar l]=ig f l:=by
  simp only[cN,id,ig,gb.shape];by_cases h:f.valid=true
  ·by_cases h2:f.ar l=0<;>simp[h,h2]
  ·simp[h]
 rw[e1]at hC;simp[-length_flatMap,-map_take,hC]
end Go.Proofs.YtfgljaglidhjiaaGreatDoor
namespace Go.Abs
open List(length_flatMap map_take)
open Go
variable {T:yR}
def qD(q:Nat→Bool)(i:Nat):Nat→Bool×Nat
 |0=>(false,i)
 |m+1=>if q i then(true,i+1)else qD q (i+1) m
theorem Ce{q:Nat→Bool}:∀{m i:Nat},(qD q i m).1=false↔∀j,j<m→q (i+j)=false
 |0,i=>by simp[qD]
 |m+1,i=>by
  simp only[qD];by_cases h:q i=true
  ·simp only[h,if_true,Bool.true_eq_false,false_iff];intro hh;have:=hh 0 (by omega);simp[h]at this
  ·have h':q i=false:=by simpa using h
   simp only[h',av,if_false];rw[Ce (m:=m) (i:=i+1)];constructor
   ·intro hh j hj;cases j with
    |zero=>simpa using h'
    |succ j=>have:=hh j (by omega);rwa[show i+1+j=i+(j+1)from by omega]at this
   ·intro hh j hj;have:=hh (j+1) (by omega);rwa[show i+(j+1)=i+1+j from by omega]at this
section
variable {α:Type} (E:Elt α) {fv:D} {l:List α} {q:Nat→Bool} {S:Nat→SK}
theorem Jf(hl:l.length≤9223372036854775807)(h1:fv.strip=fv)(h2:fv.calm=fv)(ht:∀i x,l[i]?=some x→pQ (lim T) false fv [E.val x] (S i)=some (.bool (q i),S (i+1))):∀(m i:Nat),i+m=l.length →
  WL T [0,1,7,8] false (HH E.ag E.w) [(0,.aH l.length (l.flatMap E.enc)),(1,fv),(7,.int .i64 l.length),(8,.int .i64 i)] (S i)
   (fun x e σ'=>σ'=S (qD q i m).2∧if(qD q i m).1=true then x=.ret∧∃j:Nat,get e 4=.int .i64 j else x=.exit 0)
 |0,i,hi=>by
  refine aM (HH.eq_1 _ _) ?_;have:¬i<l.length:=by omega
  simp[this,h1,h2,qD]
 |m+1,i,hi=>by
  refine aM (HH.eq_1 _ _) ?_;have h4:i<l.length:=by omega
  obtain⟨x,hx⟩:=gE h4;have h5:=bW (f:=E.enc) E.len hx;have h6:=ht i x hx;have h7:=gN h4 hl;have ih:=Jf hl h1 h2 ht m (i+1) (by omega);cases hq:q i
  ·rw[hq]at h6;simp[h4,h1,h2,h5,h6,h7,E.load,E.strip,E.calm];refine WL.mono (by simpa using ih) ?_;rintro x e σ' ⟨h9,h10⟩;simp only[qD,hq,av,if_false];exact⟨h9,h10⟩
  ·rw[hq]at h6;simp[h4,h1,h2,h5,h6,h7,E.load,E.strip,E.calm,qD,hq];exact⟨i,rfl⟩
theorem Sk{f:Nat}(hT:T f=some (vb E.ag E.w))(hl:l.length≤9223372036854775807)(h1:fv.strip=fv)(h2:fv.calm=fv)(hlen:∀i,(S i).length=(S 0).length)
  (ht:∀i x,l[i]?=some x→pQ (lim T) false fv [E.val x] ([]::S i)=some (.bool (q i),[]::S (i+1))):
  ∃n:Int,lim T (.call false f [.aH l.length (l.flatMap E.enc),fv] (S 0))=some (.val (.int .i64 n) (S (qD q 0 l.length).2))∧(0≤n↔(qD q 0 l.length).1=true):=by
 have h:=Jf E (S:=fun i=>[]::S i) hl h1 h2 ht l.length 0 (by omega);cases hq:(qD q 0 l.length).1
 ·refine⟨-1,?_,by simp⟩;refine fQ hT (vb.eq_1 _ _) rfl (hlen _) ?_;simp[h1,h2];refine WL.mono (by simpa using h) ?_;rintro x e σ' ⟨rfl,h10⟩;rw[hq]at h10;simp only[av,if_false]at h10;subst h10;simp
 ·obtain⟨x,e,σ',hw,rfl,h10⟩:=h;rw[hq]at h10;simp only[if_true]at h10;obtain⟨rfl,j,hj⟩:=h10;refine⟨j,?_,by simp⟩;refine fQ hT (vb.eq_1 _ _) rfl (hlen _) ?_;simp[h1,h2];refine⟨_,_,_,by simpa using hw,?_⟩;simp[hj]
theorem J5{f i:Nat}(hT:T f=some (jD i))(hi:T i=some (vb E.ag E.w))(hl:l.length≤9223372036854775807)(h1:fv.strip=fv)(h2:fv.calm=fv)(hlen:∀i,(S i).length=(S 0).length)
  (ht:∀i x,l[i]?=some x→pQ (lim T) false fv [E.val x] ([]::[]::S i)=some (.bool (q i),[]::[]::S (i+1))):
  lim T (.call false f [.aH l.length (l.flatMap E.enc),fv] (S 0))=some (.val (.bool (qD q 0 l.length).1) (S (qD q 0 l.length).2)):=by
 obtain⟨n,h,hn⟩:=Sk E (S:=fun i=>[]::S i) hi hl h1 h2 (fun i=>by simp[hlen i]) ht;refine fQ hT (jD.eq_1 _) rfl (hlen _) ?_;have h4:decide (0≤n)=(qD q 0 l.length).1:=by
  cases hq:(qD q 0 l.length).1
  ·rw[hq]at hn;simp at hn;exact decide_eq_false (by omega)
  ·exact decide_eq_true (hn.2 hq)
 simp[h1,h2,h,h4]
theorem TU{g:Nat}{x:α}{b:Bool}{σ σ':SK}(hT:T g=some (yS E.ag E.w))(hlen:σ'.length=σ.length)(h1:fv.strip=fv)(h2:fv.calm=fv)(ht:pQ (lim T) false fv [E.val x] ([]::σ)=some (.bool b,[]::σ')):
  pQ (lim T) false (.fn g [] [.bB [fv]]) [E.val x] σ=some (.bool (!b),σ'):=by
 rw[sK];have hc:=E.cells x;have hl:=E.load x;have hs:=E.strip x;have hcm:=E.calm x;have key:lim T (.call false g ([]++[E.val x]++[.bB [fv]]) σ)=some (.val (.bool (!b)) σ'):=by
  generalize E.ag=ag at *
  cases ag with
  |true =>
   refine fQ hT (yS.eq_1 _) rfl hlen ?_;simp[h1,h2,ht,hc,hl,hs,hcm]
  |false =>
   refine fQ hT (yS.eq_2 _) rfl hlen ?_;simp[h1,h2,ht,hc,hl,hs,hcm]
 rw[key];rfl
theorem JY{f g h i:Nat}{p:Nat→Bool}(hf:T f=some (DY g h))(hg:T g=some (yS E.ag E.w))(hh:T h=some (jD i))(hi:T i=some (vb E.ag E.w))
  (hl:l.length≤9223372036854775807) (h1:fv.strip=fv) (h2:fv.calm=fv) (hcl:fv.cells=some [fv]) (hlen:∀i,(S i).length=(S 0).length)
  (ht:∀i x,l[i]?=some x→pQ (lim T) false fv [E.val x] ([]::[]::[]::[]::S i)=some (.bool (p i),[]::[]::[]::[]::S (i+1))):
  lim T (.call false f [.aH l.length (l.flatMap E.enc),fv] (S 0))=some (.val (.bool !(qD (fun i => !p i) 0 l.length).1) (S (qD (fun i => !p i) 0 l.length).2)):=by
 have hc:=J5 E (S:=fun i=>[]::S i) (fv:=.fn g [] [.bB [fv]]) (q:=fun i => !p i) hh hi hl rfl rfl (fun i=>by simp[hlen i]) (fun i x hx=>TU E hg (by simp[hlen i,hlen (i+1)]) h1 h2 (ht i x hx));refine fQ hf (DY.eq_1 _ _) rfl (hlen _) ?_;simp[h1,h2,hc,hcl]
theorem agB{f g h i:Nat}{p:α→Bool}{σ:SK}(hf:T f=some (DY g h))(hg:T g=some (yS E.ag E.w))(hh:T h=some (jD i))(hi:T i=some (vb E.ag E.w))
  (hl:l.length≤9223372036854775807) (h1:fv.strip=fv) (h2:fv.calm=fv) (hcl:fv.cells=some [fv])
  (ht:∀x∈l,pQ (lim T) false fv [E.val x] ([]::[]::[]::[]::σ)=some (.bool (p x),[]::[]::[]::[]::σ)):
  lim T (.call false f [.aH l.length (l.flatMap E.enc),fv] σ)=some (.val (.bool (ie l p)) σ):=by
 have h0:=JY E (T:=T) (S:=fun _=>σ) (fv:=fv) (l:=l) (p:=fun i=>match l[i]? with | some x=>p x | none=>true) hf hg hh hi hl h1 h2 hcl (fun _=>rfl) (fun i x hx=>by
  rw[ht x (aj hx)];simp[hx])
 have he:(!(qD (fun i => !(match l[i]? with | some x=>p x | none=>true)) 0 l.length).1)=ie l p:=by
  have h2:=Ce (q:=fun i => !(match l[i]? with | some x=>p x | none=>true)) (m:=l.length) (i:=0);cases hw:ie l p
  ·rw[Bool.not_eq_false'];cases hs:(qD (fun i => !(match l[i]? with | some x=>p x | none=>true)) 0 l.length).1
   ·have h3:=h2.1 hs;have h4:ie l p=true:=j7.2 fun x hx=>by
     obtain⟨j,hj⟩:=ia hx;have:=h3 j (aB.1 hj).1;simpa[hj]using this
    rw[hw]at h4;cases h4
   ·rfl
  ·rw[dW];refine h2.2 fun j hj=>?_
   have hx:=aN hj;have:=j7.1 hw _ (List.getElem_mem hj);simp[hx,this]
 rw[he]at h0;exact h0
end
end Go.Abs
namespace Go.Proofs.YtfgljaglidhjiaaGreatDoor
open List(length_flatMap map_take)
open Go Go.Abs Go.Rock
variable {σ:SK}
theorem afU{r:Rw}:lim T (.call false kM [.agg r.enc] σ)=some (.val (.bool r.alone) σ):=by
 refine aw DR rC.eq_1 rfl ?_;cases hc1:cT r.t 0 400
 ·simp[-length_flatMap,-map_take,ko,Rw.alone,hc1]
 cases hc2:cT r.p 1 10000
 ·simp[-length_flatMap,-map_take,ko,Rw.alone,hc1,hc2]
 cases hc3:cT r.l 0 4000
 ·simp[-length_flatMap,-map_take,ko,Rw.alone,hc1,hc2,hc3]
 cases hc4:cT r.s 0 2000
 ·simp[-length_flatMap,-map_take,ko,Rw.alone,hc1,hc2,hc3,hc4]
 by_cases hc5:r.l<r.v
 rotate_left
 ·simp[-length_flatMap,-map_take,ko,Rw.alone,hc1,hc2,hc3,hc4,hc5]
 simp[-length_flatMap,-map_take,ko,Rw.alone,hc1,hc2,hc3,hc4,hc5]
theorem anl{l:List Rw}(hl:l.length≤1000000000):lim T (.call false jA [.aH l.length (l.flatMap Rw.enc),.fn kM [] []] σ)=some (.val (.bool (ie l Rw.alone)) σ) :=
 zV (xo 5 Rw.enc (fun _=>rfl)) (f:=jA) (g:=kN) (h:=fq) (i:=gR) (l:=l) (p:=Rw.alone) rfl rfl rfl rfl (by omega) (rj.fn fun x _ σ=>afU) rfl
theorem ah2{t l:List Rw}{o:Rw}(hto:t=o::l)(hl:l.length≤100):∀(m i:Nat),i+m=l.length →
  WL T [0,16,17,18] false kH [(0,.aH t.length (t.flatMap Rw.enc)),(16,.aH l.length (l.flatMap Rw.enc)),(17,.int .i64 l.length),(18,.int .i64 i)] σ
   (fun x e σ'=>σ'=σ∧if Fs (t.drop i)then x=.exit 0 else x=.ret∧get e 2=.bool false)
 |0,i,hi=>by
  refine aM kH.eq_1 ?_;have h1:¬i<l.length:=by omega
  have h2:t.drop i=[t[i]'(by subst hto;simp;omega)]:=by
   rw[List.drop_eq_getElem_cons (by subst hto;simp;omega),aA (by subst hto;simp;omega)]
  simp[-length_flatMap,-map_take,h1,h2,Fs]
 |m+1,i,hi=>by
  refine aM kH.eq_1 ?_;have h1:i<l.length:=by omega
  have htl:t.length=l.length+1:=by subst hto;rfl
  obtain⟨r,hr⟩:=gE h1;obtain⟨r0,hr0⟩:∃r0,t[i]?=some r0:=gE (by omega);have h2:=bW (f:=Rw.enc) (w:=5) (fun _=>rfl) hr;have h3:=bW (f:=Rw.enc) (w:=5) (fun _=>rfl) hr0;have h4:=gN h1 (by omega);have h6:t.drop (i+1)=r::t.drop (i+2):=cq (by subst hto;simpa using hr);have h5:t.drop i=r0::r::t.drop (i+2):=by rw[cq hr0,h6]
  have ih:=ah2 hto hl m (i+1) (by omega);rw[h6]at ih;rw[h5,Fs];have hlt:(i:Int)<(t.length:Int):=by omega
  have hlt':i<t.length:=by omega
  by_cases c1:r.t≤r0.t
  ·simp[-length_flatMap,-map_take,h1,hlt,hlt',h2,h3,h4,c1,Rw.Jv]
  by_cases c2:r.p≤r0.p
  ·simp[-length_flatMap,-map_take,h1,hlt,hlt',h2,h3,h4,c1,c2,Rw.Jv]
  by_cases c3:r.l≤r0.l
  ·simp[-length_flatMap,-map_take,h1,hlt,hlt',h2,h3,h4,c1,c2,c3,Rw.Jv]
  by_cases c4:r.s<r0.s
  ·simp[-length_flatMap,-map_take,h1,hlt,hlt',h2,h3,h4,c1,c2,c3,c4,Rw.Jv]
  ·simp[-length_flatMap,-map_take,h1,hlt,hlt',h2,h3,h4,c1,c2,c3,c4,Rw.Jv];have hc:r0.t<r.t∧r0.p<r.p∧r0.l<r.l∧r0.s≤r.s:=by omega
   exact WL.to ih (by simp) rfl fun x e σ' hh=>by simpa[hc]using hh
theorem CP{t:List Rw}(hl:t.length≤1000000000):lim T (.call false jf [.aH t.length (t.flatMap Rw.enc)] σ)=some (.val (.bool (kS t)) σ):=by
 refine aw Cv oE.eq_1 rfl ?_;have ha:=fun σ=>anl (σ:=σ) (l:=t) hl
 cases hc1:cT t.length 2 20
 ·simp[-length_flatMap,-map_take,ko,hc1,kS]
 cases hc2:ie t Rw.alone
 ·simp[-length_flatMap,-map_take,ko,hc1,hc2,ha,kS]
 obtain⟨o,l,hto⟩:∃o l,t=o::l:=by
  cases t with
  |nil=>simp[cT]at hc1
  |cons o l=>exact⟨o,l,rfl⟩
 have hi:=bf.1 hc1;have htl:t.length=l.length+1:=by subst hto;rfl
 have h1:(1:Int)≤(t.length:Int):=by omega
 have h2:t.length-1=l.length:=by omega
 have h3:((t.flatMap Rw.enc).drop 5).take (l.length*5)=l.flatMap Rw.enc:=by
  subst hto;have:=Kh (f:=Rw.enc) (w:=5) (fun _=>rfl) l;simpa using this
 simp[-length_flatMap,-map_take,ko,hc1,hc2,ha,h1,h2,h3];refine WL.to (ah2 (σ:=[]::σ) hto (by omega) l.length 0 (by omega)) (by simp) rfl ?_;rintro x e σ' ⟨rfl,h⟩;simp only[aO]at h;unfold kS;cases hc3:Fs t
 ·rw[hc3]at h;simp at h;simp[h,hc2,hc1]
 ·rw[hc3]at h;simp at h;subst h;simp[-length_flatMap,-map_take,hc2,hc1]
theorem zL{l:List Rw}(hl:l.length≤1000000000):lim T (.call false jR [.aH l.length (l.flatMap Rw.enc)] σ)=some (.val (.int .i64 (if kS l then 0 else 1)) σ):=by
 refine aw Dd pK.eq_1 rfl ?_;cases hc:kS l<;>simp[-length_flatMap,-map_take,CP hl,hc]
theorem OA{b:cz}(hx:1≤b.f.x∧b.f.x≤8)(hy:1≤b.f.y∧b.f.y≤8)(hz:1≤b.f.z∧b.f.z≤8):lim T (.call false dn [.agg [.int .i64 b.f.x,.int .i64 b.f.y,.int .i64 b.f.z,.int .i64 b.f.k,.aH b.ct.length (b.ct.flatMap Rw.enc),.int .i64 b.bK,.int .i64 b.lift,.int .i64 b.deep,.aH b.an.length (b.an.flatMap bI.enc)]] σ)=some (.val (.int .i64 b.size) σ):=by
 refine aw Gg tt.eq_1 rfl ?_;obtain⟨h1,h2⟩:=gb.sz hx hy hz;have w1:=fN (n:=b.f.x*b.f.y) (by omega);have w2:=fN (n:=b.f.x*b.f.y*b.f.z) (by omega);simp[-length_flatMap,-map_take,w1,w2,cz.size,gb.size]
def ud(b:Bool):List D:=[.bool b]
def sZ(n:Nat)(an:List bI):Nat→List Bool
 |0=>List.replicate n false
 |i+1=>match an[i]? with
  |some w=>if cT w.b 0 ((n:Int)-1)=true∧(sZ n an i)[w.b.toNat]?=some false then(sZ n an i).set w.b.toNat true else sZ n an i
  |none=>sZ n an i
theorem zJ{n:Nat}{an:List bI}:∀i,(sZ n an i).length=n
 |0=>by simp[sZ]
 |i+1=>by
  simp only[sZ];split
  ·split
   ·simp[zJ i]
   ·exact zJ i
  ·exact zJ i
def yF(n:Nat)(an:List bI)(i:Nat):Bool :=
 match an[i]? with
 |some w=>cT w.b 0 ((n:Int)-1) && (decide ((sZ n an i)[w.b.toNat]?=some false) && (cT w.h 0 3000 && cT w.m 0 1000000))
 |none=>true
def FE(n:Nat)(an:List bI)(σ:SK)(i:Nat):SK:=[.cells 0 ((sZ n an i).flatMap ud),.cells 0 [.sl σ.length 0 0 0 n 1]]::σ
theorem T0{l:List Bool}{j:Nat}{x:Bool}(h:l[j]?=some x):((l.flatMap ud).drop j)=.bool x::(l.flatMap ud).drop (j+1):=by
 have:=BA (f:=ud) (w:=1) (fun _=>rfl) h;simpa[ud]using this
theorem RT{l:List Bool}{j:Nat}{x:Bool}(h:j<l.length):(l.flatMap ud).take j++(.bool x::(l.flatMap ud).drop (j+1))=(l.set j x).flatMap ud:=by
 have:=QM (f:=ud) (w:=1) (fun _=>rfl) (x:=x) h;simpa[ud]using this
theorem RS{l:List Bool}:(l.flatMap ud).length=l.length:=by
 have:=bX (f:=ud) (w:=1) (fun _=>rfl) l;omega
theorem Nl{n:Nat}{an:List bI}(hn:n≤512){i:Nat}{w:bI}(hw:an[i]?=some w):
  lim T (.call false fF [.agg w.enc,.ref σ.length 1 0 0] ([]::[]::[]::[]::FE n an σ i))=some (.val (.bool (yF n an i)) ([]::[]::[]::[]::FE n an σ (i+1))):=by
 refine fQ C3 pq.eq_1 rfl (by simp[FE]) ?_;have hlen:=zJ (n:=n) (an:=an) i;have w1:=fN (n:=(n:Int)-1) (by omega);have hwp:yF n an i=(cT w.b 0 ((n:Int)-1) && (decide ((sZ n an i)[w.b.toNat]?=some false) && (cT w.h 0 3000 && cT w.m 0 1000000))):=by simp[yF,hw]
 have hus:sZ n an (i+1)=if cT w.b 0 ((n:Int)-1)=true∧(sZ n an i)[w.b.toNat]?=some false then(sZ n an i).set w.b.toNat true else sZ n an i:=by simp[sZ,hw]
 rw[hwp];simp only[FE];generalize sZ n an (i+1)=us' at *
 generalize sZ n an i=us at *
 cases hc1:cT w.b 0 ((n:Int)-1)
 ·rw[hc1]at hus;simp at hus;subst hus;simp[-length_flatMap,-map_take,dO,w1,hc1]
 ·obtain⟨g1,g2⟩:=bf.1 hc1;have g3:w.b<(n:Int):=by omega
  obtain⟨u,hu⟩:∃u,us[w.b.toNat]?=some u:=⟨_,aN (by omega)⟩;have hat:=T0 hu;have hset:=RT (l:=us) (j:=w.b.toNat) (x:=true) (by omega);have hlen2:(us.flatMap ud).length=n:=by rw[RS,hlen]
  have hle:w.b.toNat+1≤n:=by omega
  rw[hc1,hu]at hus;cases u
  ·simp at hus;subst hus;cases hc2:cT w.h 0 3000<;>
    simp[-length_flatMap,-map_take,dO,w1,hc1,hu,g1,g3,hat,hset,hlen2,hle,hc2]
  ·simp at hus;subst hus;simp[-length_flatMap,-map_take,dO,w1,hc1,hu,g1,g3,hat,hlen2]
theorem MT{n:Nat}{an:List bI}:∀{i:Nat},i≤an.length→(∀j,j<i→yF n an j=true)→∀k:Nat,k<n→(sZ n an i)[k]?=some (((an.take i).map (·.b)).contains (k:Int))
 |0,_,_,k,hk=>by simp[sZ,hk]
 |i+1,hi,h,k,hk=>by
  obtain⟨w,hw⟩:∃w,an[i]?=some w:=gE (by omega);have ih:=MT (i:=i) (by omega) (fun j hj=>h j (by omega));have hp:=h i (by omega);simp only[yF,hw,af,au]at hp;obtain⟨h1,h2,_⟩:=hp;obtain⟨g1,g2⟩:=bf.1 h1;have ht:an.take (i+1)=an.take i++[w]:=by rw[List.take_add_one,hw];rfl
  simp only[sZ,hw];rw[if_pos ⟨h1,h2⟩,ht];rw[List.getElem?_set];by_cases hkw:w.b.toNat=k
  ·subst hkw;have hb:w.b=((w.b.toNat:Nat):Int):=by omega
   simp[zJ,hk];right;omega
  ·rw[if_neg hkw,ih k hk];congr 1;have:((k:Int) == w.b)=false:=by simp;omega
   simp[List.contains_append,this];intro hh;omega
theorem BO{n:Nat}{an:List bI}:∀(m i:Nat),i+m=an.length→(∀j,j<i→yF n an j=true) →
  (uS (n:Int) ((an.take i).map (·.b)) (an.drop i)=true↔∀j,i≤j→j<an.length→yF n an j=true)
 |0,i,hi,h=>by
  rw[aA (by omega)];simp only[uS,true_iff];intro j h1 h2;omega
 |m+1,i,hi,h=>by
  obtain⟨w,hw⟩:∃w,an[i]?=some w:=gE (by omega);have hu:=MT (n:=n) (i:=i) (by omega) h;have hone:bI.ok (n:Int) ((an.take i).map (·.b)) w=yF n an i:=by
   simp only[yF,hw,bI.ok];cases hc:cT w.b 0 ((n:Int)-1)
   ·rfl
   ·obtain⟨g1,g2⟩:=bf.1 hc;have:=hu w.b.toNat (by omega);rw[this,show((w.b.toNat:Nat):Int)=w.b from by omega];cases((an.take i).map (·.b)).contains w.b<;>simp
  rw[cq hw,uS,hone,af];have ht:(an.take i).map (·.b)++[w.b]=(an.take (i+1)).map (·.b):=by rw[List.take_add_one,hw];simp
  rw[ht];constructor
  ·rintro⟨h1,h2⟩ j hj1 hj2;by_cases hji:j=i
   ·subst hji;exact h1
   ·refine((BO m (i+1) (by omega) fun j hj=>?_).1 h2) j (by omega) hj2;by_cases hji:j=i
    ·subst hji;exact h1
    ·exact h j (by omega)
  ·intro hh;have h1:=hh i (by omega) (by omega);refine⟨h1,(BO m (i+1) (by omega) fun j hj=>?_).2 fun j hj1 hj2=>hh j (by omega) hj2⟩;by_cases hji:j=i
   ·subst hji;exact h1
   ·exact h j (by omega)
theorem Nn{n:Nat}{an:List bI}(hn:n≤512)(hl:an.length≤1000000000):∃s,
  lim T (.call false kj [.aH an.length (an.flatMap bI.enc),.fn fF [] [.ref σ.length 1 0 0]] ([.cells 0 ((List.replicate n false).flatMap ud),.cells 0 [.sl σ.length 0 0 0 n 1]]::σ)) =
   some (.val (.bool (uS (n:Int) [] an)) (s::σ)):=by
 have h:=JY (xo 3 bI.enc (fun _=>rfl)) (T:=T) (S:=FE n an σ) (fv:=.fn fF [] [.ref σ.length 1 0 0]) (l:=an) (f:=kj) (g:=lP) (h:=fp) (i:=gQ) (p:=yF n an)
  rfl rfl rfl rfl (by omega) rfl rfl rfl (fun i=>by simp[FE]) (fun i x hx=>by
   rw[sK];have:=Nl (σ:=σ) hn hx;show R.bq (lim T (.call false fF [.agg x.enc,.ref σ.length 1 0 0] _))=_
   rw[this];rfl)
 have he:(!(qD (fun i => !yF n an i) 0 an.length).1)=uS (n:Int) [] an:=by
  have h1:=BO (n:=n) (an:=an) an.length 0 (by omega) (by simp);have h2:=Ce (q:=fun i => !yF n an i) (m:=an.length) (i:=0);simp only[List.take_zero,bQ,aO]at h1;cases hw:uS (n:Int) [] an
  ·rw[Bool.not_eq_false'];cases hs:(qD (fun i => !yF n an i) 0 an.length).1
   ·have h3:=h2.1 hs;have h4:=h1.2 fun j _ hj=>by have:=h3 j hj;simpa using this
    rw[hw]at h4;cases h4
   ·rfl
  ·rw[dW];refine h2.2 fun j hj=>?_
   have:=h1.1 hw j (by omega) hj;simpa using this
 rw[he]at h;refine⟨[.cells 0 ((sZ n an (qD (fun i => !yF n an i) 0 an.length).2).flatMap ud),.cells 0 [.sl σ.length 0 0 0 n 1]],?_⟩;exact h
theorem A5{b:cz}(h1:b.ct.length≤1000000000)(h2:b.an.length≤1000000000):lim T (.call false jL [.agg [.int .i64 b.f.x,.int .i64 b.f.y,.int .i64 b.f.z,.int .i64 b.f.k,.aH b.ct.length (b.ct.flatMap Rw.enc),.int .i64 b.bK,.int .i64 b.lift,.int .i64 b.deep,.aH b.an.length (b.an.flatMap bI.enc)]] σ)=some (.val (.bool b.valid) σ):=by
 refine aw ES sh.eq_1 rfl ?_;have hT:=fun σ=>zL (σ:=σ) (l:=b.ct) h1
 unfold cz.valid cz.ok1;cases hc1:b.f.valid
 ·simp[-length_flatMap,-map_take,jU,gb.shape,hc1]
 by_cases hc2:b.f.k<4
 ·simp[-length_flatMap,-map_take,jU,gb.shape,hc1,hc2,show ¬4≤b.f.k by omega]
 have hc2':4≤b.f.k:=by omega
 cases hc3:kS b.ct
 ·simp[-length_flatMap,-map_take,jU,gb.shape,hc1,hc2,hT,hc3]
 cases hc4:cT b.bK 1 100000
 ·simp[-length_flatMap,-map_take,jU,gb.shape,hc1,hc2,hT,hc3,dO,hc4]
 cases hc5:cT b.lift 0 1000
 ·simp[-length_flatMap,-map_take,jU,gb.shape,hc1,hc2,hT,hc3,dO,hc4,hc5]
 cases hc6:cT b.deep 0 3000
 ·simp[-length_flatMap,-map_take,jU,gb.shape,hc1,hc2,hT,hc3,dO,hc4,hc5,hc6]
 by_cases hc7:8<b.an.length
 ·simp[-length_flatMap,-map_take,jU,gb.shape,hc1,hc2,hT,hc3,dO,hc4,hc5,hc6,hc7,show ¬b.an.length≤8 by omega,show(8:Int)<b.an.length by omega]
 obtain⟨g1,g2,g3,g4,g5⟩:=gb.tT.1 hc1;obtain⟨_,g6⟩:=gb.sz g1 g2 g3;have hsz:=fun σ=>OA (σ:=σ) (b:=b) g1 g2 g3
 have hs:b.size=((b.n:Nat):Int):=by unfold cz.n cz.size gb.size;omega
 have hn:b.n≤512:=by unfold cz.n cz.size gb.size;omega
 have hnil:((List.range b.n).flatMap fun _=>[D.bool false])=(List.replicate b.n false).flatMap ud:=by
  have:∀n,((List.range n).flatMap fun _=>[D.bool false])=(List.replicate n false).flatMap ud:=by
   intro n;induction n with
   |zero=>rfl
   |succ n ih=>rw[List.range_succ,gh,ih,List.replicate_succ'];simp[ud]
  exact this _
 obtain⟨s,hall⟩:=Nn (σ:=σ) (n:=b.n) (an:=b.an) hn h2;rw[← hs]at hall;have hroom:(b.n:Int)≤70368744177664:=by omega
 rw[hs]at hsz;simp[-length_flatMap,-map_take,jU,gb.shape,hc1,hc2,hT,hc3,dO,hc4,hc5,hc6,show ¬(8:Int)<b.an.length by omega,show b.an.length≤8 by omega,hsz,room,hroom,hnil,hall,hc2']
theorem aez{l:List Int}{i n:Nat}:((l.flatMap aY).drop i).take n=((l.drop i).take n).flatMap aY:=by
 simp only[show aY=fun n=>[D.int .i64 n]from rfl,LK,← List.map_drop,← List.map_take]
theorem rH{l:List Int}{j:Nat}{x:Int}(h:l[j]?=some x):((l.flatMap aY).drop j).take 1=[.int .i64 x]:=by
 have:=bW (f:=aY) (w:=1) (fun _=>rfl) h;simpa using this
theorem cM(l:List Rw):D.bJ (l.flatMap Rw.enc)=true:=iU (fun x=>by simp) l
theorem bu(l:List bI):D.bJ (l.flatMap bI.enc)=true:=iU (fun x=>by simp) l
theorem bw(l:List Int):D.bJ (l.flatMap aY)=true:=iU (fun x=>by simp) l
theorem Hs(l:List Rock.aE):D.bJ (l.flatMap aE.enc)=true:=iU (fun x=>by simp) l
structure Bv(b:cz):Prop where
 x:1≤b.f.x∧b.f.x≤8
 y:1≤b.f.y∧b.f.y≤8
 z:1≤b.f.z∧b.f.z≤8
 k:4≤b.f.k∧b.f.k≤6
 sz:b.f.size=((b.n:Nat):Int)
 n:1≤b.n∧b.n≤64
 ct:kS b.ct=true
 bK:1≤b.bK∧b.bK≤100000
 lift:0≤b.lift∧b.lift≤1000
 deep:0≤b.deep∧b.deep≤3000
 an:b.an.length≤8
 ok:uS b.size [] b.an=true
theorem Bv.of{b:cz}(h:b.valid=true):Bv b:=by
 simp only[cz.valid,cz.ok1,af,au]at h;obtain⟨⟨h1,h2,h3,h4,h5,h6,h7⟩,h8⟩:=h;obtain⟨g1,g2,g3,g4,g5⟩:=gb.tT.1 h1;obtain⟨_,g6⟩:=gb.sz g1 g2 g3;refine⟨g1,g2,g3,⟨h2,g5.2⟩,?_,?_,h3,bf.1 h4,bf.1 h5,bf.1 h6,h7,h8⟩
 ·unfold cz.n cz.size gb.size;omega
 ·unfold cz.n cz.size;unfold gb.size at g4 ⊢;omega
theorem Bv.fv{b:cz}(h:Bv b):b.f.valid=true:=gb.tT.2 ⟨h.x,h.y,h.z,by have:=h.sz;have:=h.n;omega,by have:=h.k;omega⟩
structure Mv(b:cz)(m:cU):Prop where
 bv:Bv b
 len:(m.bq.length:Int)=b.f.k*b.f.size
theorem Mv.le{b:cz}{m:cU}(h:Mv b m):4*b.n≤m.bq.length∧m.bq.length≤384:=by
 have h1:=h.bv.k;have h2:=h.bv.sz;have h3:=h.bv.n;have h4:=h.len;have h5:=(fO h1.1 (by omega:(0:Int)≤b.f.size));have h6:=QU (a:=b.f.k) (b:=b.f.size) (A:=6) (B:=64) (by omega) h1.2 (by omega) (by omega);omega
theorem zg{b:cz}(h:Bv b):lim T (.call false dn [.agg [.int .i64 b.f.x,.int .i64 b.f.y,.int .i64 b.f.z,.int .i64 b.f.k,.aH b.ct.length (b.ct.flatMap Rw.enc),.int .i64 b.bK,.int .i64 b.lift,.int .i64 b.deep,.aH b.an.length (b.an.flatMap bI.enc)]] σ)=some (.val (.int .i64 b.n) σ):=by
 have:=OA (σ:=σ) (b:=b) h.x h.y h.z;rw[show b.size=((b.n:Nat):Int)from h.sz]at this;exact this
theorem GO{b:cz}{m:cU}(h:Mv b m){k:Nat}(hk:k<4):lim T (.call false eA [.agg [.int .i64 b.f.x,.int .i64 b.f.y,.int .i64 b.f.z,.int .i64 b.f.k,.aH b.ct.length (b.ct.flatMap Rw.enc),.int .i64 b.bK,.int .i64 b.lift,.int .i64 b.deep,.aH b.an.length (b.an.flatMap bI.enc),.str m.name,.aH m.bq.length (m.bq.flatMap aY)],.int .i64 k] σ)=some (.val (.aH b.n ((vW b m k).flatMap aY)) σ):=by
 refine aw C9 pF.eq_1 rfl ?_;obtain⟨h1,h2⟩:=h.le;have h3:=h.bv.n;have hs:=fun σ=>zg (σ:=σ) h.bv
 have e1:(k:Int)*(b.n:Int)=((k*b.n:Nat):Int):=by push_cast;rfl
 have e2:((k:Int)+1)*(b.n:Int)=(((k+1)*b.n:Nat):Int):=by push_cast;rfl
 have b1:(k+1)*b.n≤m.bq.length:=iF (dt _ (by omega:k+1≤4)) h1;have b2:(k+1)*b.n=k*b.n+b.n:=eW _ _;have w1:=fN (n:=(k:Int)*b.n) (by rw[e1];omega);have w2:=fN (n:=(k:Int)+1) (by omega);have w3:=fN (n:=((k:Int)+1)*b.n) (by rw[e2];omega);have e3:(k+1)*b.n-k*b.n=b.n:=by omega
 have hsub:=aez (l:=m.bq) (i:=k*b.n) (n:=b.n);have hle:(k:Int)*b.n≤((k:Int)+1)*b.n:=by rw[e1,e2];omega
 simp[-length_flatMap,-map_take,hs,w1,w2,w3];rw[e1,e2];have c1:(0:Int)≤((k*b.n:Nat):Int):=by omega
 have c2:((k*b.n:Nat):Int)≤(((k+1)*b.n:Nat):Int):=by omega
 have c3:(((k+1)*b.n:Nat):Int)≤(m.bq.length:Int):=by omega
 have c4:(0:Int)≤(((k+1)*b.n:Nat):Int):=by omega
 simp only[c1,c2,c3,c4,and_self,if_true,Int.toNat_natCast,Option.bind_some,aR,DV,e3,hsub];simp[-length_flatMap,-map_take,vW,hle,e3,hsub,bw]
theorem Jk{b:cz}{m:cU}(h:Mv b m){k:Nat}(hk:k<4):(vW b m k).length=b.n:=by
 obtain⟨h1,h2⟩:=h.le;have b1:(k+1)*b.n≤m.bq.length:=iF (dt _ (by omega:k+1≤4)) h1;have b2:(k+1)*b.n=k*b.n+b.n:=eW _ _;simp[vW];omega
theorem xA{b:cz}{m:cU}(h:Mv b m){k i:Nat}(hk:k<4)(hi:i<b.n):(vW b m k)[i]?=some (vn b m k i):=by
 obtain⟨h1,h2⟩:=h.le;have b1:(k+1)*b.n≤m.bq.length:=iF (dt _ (by omega:k+1≤4)) h1;have b2:(k+1)*b.n=k*b.n+b.n:=eW _ _;have h3:k*b.n+i<m.bq.length:=by omega
 simp only[vW,vn,eu,fx,if_pos hi,aN h3,ic]
theorem Te{b:cz}{m:cU}(h:Mv b m){i:Nat}(hi:i<b.n):lim T (.call false fG [.agg [.int .i64 b.f.x,.int .i64 b.f.y,.int .i64 b.f.z,.int .i64 b.f.k,.aH b.ct.length (b.ct.flatMap Rw.enc),.int .i64 b.bK,.int .i64 b.lift,.int .i64 b.deep,.aH b.an.length (b.an.flatMap bI.enc),.str m.name,.aH m.bq.length (m.bq.flatMap aY)],.int .i64 i] σ)=some (.val (.int .i64 (hold b m i)) σ):=by
 refine aw C8 pD.eq_1 rfl ?_;have hk:=fun σ=>GO (σ:=σ) h (k:=0) (by omega)
 have ha:=rH (xA h (k:=0) (by omega) hi);simp only[Int.ofNat_zero]at hk;simp[-length_flatMap,-map_take,hk,hi,ha,hold]
theorem Tl{b:cz}{m:cU}(h:Mv b m){i:Nat}(hi:i<b.n):lim T (.call false jQ [.agg [.int .i64 b.f.x,.int .i64 b.f.y,.int .i64 b.f.z,.int .i64 b.f.k,.aH b.ct.length (b.ct.flatMap Rw.enc),.int .i64 b.bK,.int .i64 b.lift,.int .i64 b.deep,.aH b.an.length (b.an.flatMap bI.enc),.str m.name,.aH m.bq.length (m.bq.flatMap aY)],.int .i64 i] σ)=some (.val (.int .i64 (IA b m i)) σ):=by
 refine aw Da pG.eq_1 rfl ?_;have hk:=fun σ=>GO (σ:=σ) h (k:=1) (by omega)
 have ha:=rH (xA h (k:=1) (by omega) hi);simp at hk;simp[-length_flatMap,-map_take,hk,hi,ha,IA]
theorem ant{b:cz}{m:cU}(h:Mv b m){i:Nat}(hi:i<b.n):lim T (.call false mz [.agg [.int .i64 b.f.x,.int .i64 b.f.y,.int .i64 b.f.z,.int .i64 b.f.k,.aH b.ct.length (b.ct.flatMap Rw.enc),.int .i64 b.bK,.int .i64 b.lift,.int .i64 b.deep,.aH b.an.length (b.an.flatMap bI.enc),.str m.name,.aH m.bq.length (m.bq.flatMap aY)],.int .i64 i] σ)=some (.val (.int .i64 (II b m i)) σ):=by
 refine aw Dc pI.eq_1 rfl ?_;have hk:=fun σ=>GO (σ:=σ) h (k:=2) (by omega)
 have ha:=rH (xA h (k:=2) (by omega) hi);simp at hk;simp[-length_flatMap,-map_take,hk,hi,ha,II]
theorem anc{b:cz}{m:cU}(h:Mv b m){i:Nat}(hi:i<b.n):lim T (.call false jO [.agg [.int .i64 b.f.x,.int .i64 b.f.y,.int .i64 b.f.z,.int .i64 b.f.k,.aH b.ct.length (b.ct.flatMap Rw.enc),.int .i64 b.bK,.int .i64 b.lift,.int .i64 b.deep,.aH b.an.length (b.an.flatMap bI.enc),.str m.name,.aH m.bq.length (m.bq.flatMap aY)],.int .i64 i] σ)=some (.val (.int .i64 (feed b m i)) σ):=by
 refine aw C6 pB.eq_1 rfl ?_;have hk:=fun σ=>GO (σ:=σ) h (k:=3) (by omega)
 have ha:=rH (xA h (k:=3) (by omega) hi);simp at hk;simp[-length_flatMap,-map_take,hk,hi,ha,feed]
theorem af1{lo hi n:Int}:lim T (.call false eh [.int .i64 n,.ref σ.length 0 0 0] ([]::[]::[]::[]::[.cells 0 [.int .i64 lo,.int .i64 hi]]::σ))=some (.val (.bool (cT n lo hi)) ([]::[]::[]::[]::[.cells 0 [.int .i64 lo,.int .i64 hi]]::σ)):=by
 refine aw Be nC.eq_1 rfl ?_;simp[-length_flatMap,-map_take,dO]
theorem Rz{b:cz}{m:cU}(h:Mv b m){k:Nat}(hk:k<4){lo hi:Int}:lim T (.call false ki [.aH b.n ((vW b m k).flatMap aY),.fn eh [] [.ref σ.length 0 0 0]] ([.cells 0 [.int .i64 lo,.int .i64 hi]]::σ)) =
  some (.val (.bool (ie (vW b m k) fun n=>cT n lo hi)) ([.cells 0 [.int .i64 lo,.int .i64 hi]]::σ)):=by
 have hl:=Jk h hk;have hn:=h.bv.n;have:=agB (J9 .i64) (T:=T) (f:=ki) (g:=oO) (h:=bZ) (i:=eC) (l:=vW b m k) (p:=fun n=>cT n lo hi) (fv:=.fn eh [] [.ref σ.length 0 0 0]) (σ:=[.cells 0 [.int .i64 lo,.int .i64 hi]]::σ)
  rfl rfl rfl rfl (by omega) rfl rfl rfl (fun x _=>by
   rw[sK];have:=af1 (σ:=σ) (lo:=lo) (hi:=hi) (n:=x);show R.bq (lim T (.call false eh [.int .i64 x,.ref σ.length 0 0 0] _))=_
   rw[this];rfl)
 rw[hl]at this;exact this
def Kx:Nat→Int×Int
 |0=>(1000,100000)
 |1=>(0,1000)
 |2=>(0,3000)
 |_=>(0,1000)
def zu(b:cz)(m:cU)(i:Nat):Nat→Bool
 |0=>true
 |n+1=>ie (vW b m i) (fun x=>cT x (Kx i).1 (Kx i).2) && zu b m (i+1) n
theorem TI{b:cz}{m:cU}(h:Mv b m):∀(n i:Nat),i+n=4 →
  WL T [1,17,18] true mN [(1,.bB [.int .i64 b.f.x,.int .i64 b.f.y,.int .i64 b.f.z,.int .i64 b.f.k,.aH b.ct.length (b.ct.flatMap Rw.enc),.int .i64 b.bK,.int .i64 b.lift,.int .i64 b.deep,.aH b.an.length (b.an.flatMap bI.enc),.str m.name,.aH m.bq.length (m.bq.flatMap aY)]),(17,.agg [.int .i64 1000,.int .i64 100000,.int .i64 0,.int .i64 1000,.int .i64 0,.int .i64 3000,.int .i64 0,.int .i64 1000]),(18,.int .i64 i)] σ
   (fun x e σ'=>σ'=σ∧if zu b m i n=true then x=.exit 0 else x=.ret∧get e 2=.bool false)
 |0,i,hi=>by
  refine DW mN.eq_1 ?_;obtain rfl:i=4:=by omega
  simp[-length_flatMap,-map_take,zu,cM,bu,bw]
 |n+1,i,hi=>by
  refine DW mN.eq_1 ?_;have hk:i<4:=by omega
  have hK:=fun σ=>GO (σ:=σ) h hk
  have ih:=TI h n (i+1) (by omega);have hA:=Rz (σ:=σ) h hk (lo:=(Kx i).1) (hi:=(Kx i).2);simp only[zu];rcases Bool.eq_false_or_eq_true (ie (vW b m i) (fun x=>cT x (Kx i).1 (Kx i).2))with hc | hc
  ·rw[hc]at hA;obtain rfl | rfl | rfl | rfl:i=0∨i=1∨i=2∨i=3:=by omega
   all_goals
    simp only[Kx]at hA hc ⊢
    try simp at hK
    simp[-length_flatMap,-map_take,hK,hA,hc,cM,bu,bw];exact WL.to ih (by simp[cM,bu,bw]) (by simp[cM,bu,bw]) fun x e σ' hh=>by simpa[hc]using hh
  ·rw[hc]at hA;obtain rfl | rfl | rfl | rfl:i=0∨i=1∨i=2∨i=3:=by omega
   all_goals
    simp only[Kx]at hA hc ⊢
    try simp at hK
    simp[-length_flatMap,-map_take,hK,hA,hc,cM,bu,bw]
theorem Mv.of{b:cz}{m:cU}(h:Bv b)(hc:ig b.f [m]=0):Mv b m:=by
 refine⟨h,?_⟩;simp only[ig,h.fv,if_true,gb.ar]at hc;have h1:cT (([m]:List cU).length:Nat) 1 40=true:=by simp[cT]
 rw[if_pos h1]at hc;simp only[gb.each]at hc;split at hc
 ·rename_i hm;unfold gb.model at hm;split at hm
  ·split at hm
   ·rename_i hh;exact hh.1
   ·cases hm
  ·cases hm
 ·rename_i hm;exact absurd hc hm
theorem Nb{b:cz}{m:cU}(h:Bv b)(hn:m.name.length≤1000000000)(hl:m.bq.length≤1000000000):lim T (.call false jP [.agg [.int .i64 b.f.x,.int .i64 b.f.y,.int .i64 b.f.z,.int .i64 b.f.k,.aH b.ct.length (b.ct.flatMap Rw.enc),.int .i64 b.bK,.int .i64 b.lift,.int .i64 b.deep,.aH b.an.length (b.an.flatMap bI.enc),.str m.name,.aH m.bq.length (m.bq.flatMap aY)]] σ)=some (.val (.bool (fits b m)) σ):=by
 refine aw C7 pC.eq_1 rfl ?_;have hC:=fun σ=>CD (σ:=σ) (f:=b.f) (l:=[m]) (by simpa using⟨hn,hl⟩) (by simp)
 simp at hC;by_cases hc:ig b.f [m]=0
 ·have hm:=Mv.of h hc;simp[-length_flatMap,-map_take,hC,hc];refine WL.to (TI (σ:=[]::σ) hm 4 0 (by omega)) (by simp) rfl ?_;rintro x e σ' ⟨rfl,hh⟩;have he:zu b m 0 4=fits b m:=by
   simp[zu,fits,hc,Kx]
  rw[he]at hh;cases hf:fits b m
  ·rw[hf]at hh;simp at hh;simp[hh]
  ·rw[hf]at hh;simp at hh;subst hh;simp[-length_flatMap,-map_take]
 ·simp[-length_flatMap,-map_take,hC,hc,fits]
theorem ahT{b:cz}{m:cU}(h1:b.ct.length≤1000000000)(h2:b.an.length≤1000000000)(hn:m.name.length≤1000000000)(hl:m.bq.length≤1000000000)(hb:Bd b m=true):
  lim T (.call false tF [.agg [.int .i64 b.f.x,.int .i64 b.f.y,.int .i64 b.f.z,.int .i64 b.f.k,.aH b.ct.length (b.ct.flatMap Rw.enc),.int .i64 b.bK,.int .i64 b.lift,.int .i64 b.deep,.aH b.an.length (b.an.flatMap bI.enc)],.agg [.str m.name,.aH m.bq.length (m.bq.flatMap aY)]] σ)=some (.val (.dV [.agg [.int .i64 b.f.x,.int .i64 b.f.y,.int .i64 b.f.z,.int .i64 b.f.k,.aH b.ct.length (b.ct.flatMap Rw.enc),.int .i64 b.bK,.int .i64 b.lift,.int .i64 b.deep,.aH b.an.length (b.an.flatMap bI.enc),.str m.name,.aH m.bq.length (m.bq.flatMap aY)],.int .i64 0]) σ):=by
 refine aw G8 xw.eq_1 rfl ?_;simp only[Bd,af]at hb;have hf:=fun σ=>Nb (σ:=σ) (Bv.of hb.1) hn hl
 simp[-length_flatMap,-map_take,A5 h1 h2,hb.1,hf,hb.2,cM,bu,bw]
theorem Oy{b:cz}{m:cU}(h1:b.ct.length≤1000000000)(h2:b.an.length≤1000000000)(hn:m.name.length≤1000000000)(hl:m.bq.length≤1000000000)(hb:Bd b m=false):∃d,
  lim T (.call false tF [.agg [.int .i64 b.f.x,.int .i64 b.f.y,.int .i64 b.f.z,.int .i64 b.f.k,.aH b.ct.length (b.ct.flatMap Rw.enc),.int .i64 b.bK,.int .i64 b.lift,.int .i64 b.deep,.aH b.an.length (b.an.flatMap bI.enc)],.agg [.str m.name,.aH m.bq.length (m.bq.flatMap aY)]] σ)=some (.val (.dV [.agg d,.int .i64 1]) σ)∧d.length=11∧D.bJ d=true:=by
 refine⟨[(.int .i64 0),(.int .i64 0),(.int .i64 0),(.int .i64 0),.aK,(.int .i64 0),(.int .i64 0),(.int .i64 0),.aK,(.str []),.aK],?_,rfl,by simp⟩;refine aw G8 xw.eq_1 rfl ?_;cases hc:b.valid
 ·simp[-length_flatMap,-map_take,A5 h1 h2,hc]
 ·have hf:=fun σ=>Nb (σ:=σ) (Bv.of hc) hn hl
  have hb':fits b m=false:=by simpa[Bd,hc]using hb
  simp[-length_flatMap,-map_take,A5 h1 h2,hc,hf,hb']
theorem aga{n:Int}:lim T (.call false jK [.int .i64 n] σ)=some (.val (.bool (cT n (-100000) 100000)) σ):=by
 refine aw CZ pn.eq_1 rfl ?_;simp[-length_flatMap,-map_take,dO]
theorem RE{l:List Int}{p:Int→Bool}{fv:D}(hl:l.length≤1000000000)(ht:rj T fv (fun n => .int .i64 n) p l)(hc:fv.cells=some [fv]):
  lim T (.call false ki [.aH l.length (l.flatMap aY),fv] σ)=some (.val (.bool (ie l p)) σ) :=
 zV (J9 .i64) (f:=ki) (g:=oO) (h:=bZ) (i:=eC) (l:=l) (p:=p) (fv:=fv) rfl rfl rfl rfl (by omega) ht hc
theorem agb{b:cz}{l:List Int}(hl:l.length≤1000000000):lim T (.call false oN [.agg [.int .i64 b.f.x,.int .i64 b.f.y,.int .i64 b.f.z,.int .i64 b.f.k,.aH b.ct.length (b.ct.flatMap Rw.enc),.int .i64 b.bK,.int .i64 b.lift,.int .i64 b.deep,.aH b.an.length (b.an.flatMap bI.enc)],.aH l.length (l.flatMap aY)] σ)=some (.val (.int .i64 (Ap b l)) σ):=by
 refine aw ER sf.eq_1 rfl ?_;have ha:=fun σ=>RE (σ:=σ) (l:=l) (p:=fun n=>cT n (-100000) 100000) (fv:=.fn jK [] []) hl (rj.fn fun x _ σ=>aga) rfl
 unfold Ap;by_cases hc1:l.length=b.an.length
 ·rw[← hc1];cases hc2:ie l (fun n=>cT n (-100000) 100000)<;>simp[-length_flatMap,-map_take,hc1,ha,hc2,hc1 ▸ ha]
 ·simp[-length_flatMap,-map_take,hc1,show ¬(l.length:Int)=b.an.length by omega]
def Gr(l:List Int):List D:=[.aH l.length (l.flatMap aY)]
theorem TJ{b:cz}{az:List (List Int)}(hl:az.length≤1000000000)(hs:∀l∈az,l.length≤1000000000):∀(m i:Nat),i+m=az.length →
  WL T [2,11,12,13] false oq [(2,.bB [.int .i64 b.f.x,.int .i64 b.f.y,.int .i64 b.f.z,.int .i64 b.f.k,.aH b.ct.length (b.ct.flatMap Rw.enc),.int .i64 b.bK,.int .i64 b.lift,.int .i64 b.deep,.aH b.an.length (b.an.flatMap bI.enc)]),(11,.aH az.length (az.flatMap Gr)),(12,.int .i64 az.length),(13,.int .i64 i)] σ
   (fun x e σ'=>σ'=σ∧if cN (Ap b) (az.drop i)=0 then x=.exit 0 else x=.ret∧get e 4=.int .i64 (cN (Ap b) (az.drop i)))
 |0,i,hi=>by
  refine aM oq.eq_1 ?_;have h1:¬i<az.length:=by omega
  have h2:az.drop i=[]:=aA (by omega);simp[-length_flatMap,-map_take,h1,h2,cN]
 |m+1,i,hi=>by
  refine aM oq.eq_1 ?_;have h1:i<az.length:=by omega
  obtain⟨l,hx⟩:=gE h1;have h2:=bW (f:=Gr) (w:=1) (fun _=>rfl) hx;simp only[Gr,dM]at h2;have h4:=gN h1 (by omega);have h5:=cq hx;have hC:=fun σ=>agb (σ:=σ) (b:=b) (l:=l) (hs l (aj hx))
  rw[h5,cN];have ih:=TJ (b:=b) hl hs m (i+1) (by omega);by_cases hc:Ap b l=0
  ·simp[-length_flatMap,-map_take,h1,h2,h4,hC,hc,Gr];exact WL.to ih (by simp[Gr]) rfl fun x e σ' hh=>by simpa[hc]using hh
  ·simp[-length_flatMap,-map_take,h1,h2,h4,hC,hc,Gr]
theorem To{b:cz}{az:List (List Int)}(hl:az.length≤1000000000)(hs:∀l∈az,l.length≤1000000000):
  lim T (.call false ng [.agg [.int .i64 b.f.x,.int .i64 b.f.y,.int .i64 b.f.z,.int .i64 b.f.k,.aH b.ct.length (b.ct.flatMap Rw.enc),.int .i64 b.bK,.int .i64 b.lift,.int .i64 b.deep,.aH b.an.length (b.an.flatMap bI.enc)],.aH az.length (az.flatMap Gr)] σ)=some (.val (.int .i64 (wI b az)) σ):=by
 refine aw Gf tp.eq_1 rfl ?_;unfold wI;by_cases hc:200<az.length
 ·simp[-length_flatMap,-map_take,hc,show(200:Int)<az.length by omega]
 ·simp[-length_flatMap,-map_take,hc,show ¬(200:Int)<az.length by omega];refine WL.to (TJ (σ:=[]::σ) (b:=b) hl hs az.length 0 (by omega)) (by simp) rfl ?_;rintro x e σ' ⟨rfl,h⟩;simp only[aO]at h;by_cases hc2:cN (Ap b) az=0
  ·rw[if_pos hc2]at h;subst h;simp[-length_flatMap,-map_take,hc2,show az.length≤200 by omega]
  ·rw[if_neg hc2]at h;obtain⟨rfl,h⟩:=h;simp[h,show ¬200<az.length by omega]
structure Fv(b:cz)(m:cU):Prop extends Mv b m where
 hold:∀i,i<b.n→1000≤Rock.hold b m i∧Rock.hold b m i≤100000
 IA:∀i,i<b.n→0≤Rock.IA b m i∧Rock.IA b m i≤1000
 II:∀i,i<b.n→0≤Rock.II b m i∧Rock.II b m i≤3000
 feed:∀i,i<b.n→0≤Rock.feed b m i∧Rock.feed b m i≤1000
theorem Fv.of{b:cz}{m:cU}(h:Bd b m=true):Fv b m:=by
 simp only[Bd,fits,af,au]at h;obtain⟨h1,h2,h3,h4,h5,h6⟩:=h;have hm:=Mv.of (Bv.of h1) h2;have key:∀{k:Nat} {lo hi:Int},k<4→ie (vW b m k) (fun n=>cT n lo hi)=true→∀i,i<b.n→lo≤vn b m k i∧vn b m k i≤hi:=by
  intro k lo hi hk ha i hi';exact bf.1 (j7.1 ha _ (aj (xA hm hk hi')))
 exact⟨hm,key (by omega) h3,key (by omega) h4,key (by omega) h5,key (by omega) h6⟩
theorem BN{b:cz}(h:Bv b){i:Nat}(hi:i<b.n):0≤weight b i∧weight b i≤64000:=by
 have hl:=h.lift;have hn:=h.n;have hle:i / (b.f.x.toNat*b.f.y.toNat)≤i:=Nat.div_le_self _ _;have hq:=Int.natCast_nonneg (i / (b.f.x.toNat*b.f.y.toNat));have hle2:((i / (b.f.x.toNat*b.f.y.toNat):Nat):Int)≤64:=by
  have:i / (b.f.x.toNat*b.f.y.toNat)≤64:=by omega
  exact Int.ofNat_le.2 this
 unfold weight;exact oV (A:=64) (B:=1000) hq hle2 hl.1 hl.2
theorem GU{b:cz}{m:cU}(h:Bv b){i:Nat}(hi:i<b.n):lim T (.call false fH [.agg [.int .i64 b.f.x,.int .i64 b.f.y,.int .i64 b.f.z,.int .i64 b.f.k,.aH b.ct.length (b.ct.flatMap Rw.enc),.int .i64 b.bK,.int .i64 b.lift,.int .i64 b.deep,.aH b.an.length (b.an.flatMap bI.enc),.str m.name,.aH m.bq.length (m.bq.flatMap aY)],.int .i64 i] σ)=some (.val (.int .i64 (weight b i)) σ):=by
 refine aw Bf nE.eq_1 rfl ?_;have hx:=h.x;have hy:=h.y;have hn:=h.n;obtain⟨s1,_⟩:=gb.sz h.x h.y h.z;have w1:=fN (n:=b.f.x*b.f.y) (by omega);have e1:b.f.x*b.f.y=((b.f.x.toNat*b.f.y.toNat:Nat):Int):=by push_cast;rw[eP (by omega),eP (by omega)]
 have e2:(i:Int) / (b.f.x*b.f.y)=((i / (b.f.x.toNat*b.f.y.toNat):Nat):Int):=by
  rw[e1];rfl
 have hle:i / (b.f.x.toNat*b.f.y.toNat)≤i:=Nat.div_le_self _ _;have hw:=BN h hi;have hq:(0:Int)≤(i:Int) / (b.f.x*b.f.y):=by rw[e2];exact Int.natCast_nonneg _
 have hq2:(i:Int) / (b.f.x*b.f.y)≤64:=by
  rw[e2];have:i / (b.f.x.toNat*b.f.y.toNat)≤64:=by omega
  exact Int.ofNat_le.2 this
 have w2:=fN (n:=(i:Int) / (b.f.x*b.f.y)) (by omega);have w3:=fN (n:=weight b i) (by omega);have hne:¬b.f.x*b.f.y=0:=by omega
 have hnx:¬b.f.x=0:=by omega
 have hny:¬b.f.y=0:=by omega
 have e3:(i:Int) / (b.f.x*b.f.y)*b.lift=weight b i:=by rw[e2];rfl
 simp[-length_flatMap,-map_take,w1,w2,hne,hnx,hny,e3,w3]
theorem ana{n d:Int}(hn : -200000000000≤n∧n≤200000000000)(hd:1≤d∧d≤100000):lim T (.call false vV [.int .i64 n,.int .i64 d] σ)=some (.val (.int .i64 (down n d)) σ):=by
 refine aw Ld yj.eq_1 rfl ?_;have h1:=Int.mul_tdiv_add_tmod n d;have h2:=Int.tmod_lt_of_pos n (show 0<d by omega);have h3:=Int.lt_tmod_of_pos n (show 0<d by omega);unfold down;generalize hq:n.tdiv d=q at *
 generalize n.tmod d=r at *
 have h4:d*q=q*d:=Int.mul_comm _ _;have hb : -200000100001≤q∧q≤200000100001:=by
  rcases ni 0 q with h | h
  ·have:=Int.mul_le_mul_of_nonneg_left hd.1 h;omega
  ·have:=Int.mul_le_mul_of_nonpos_left h hd.1;omega
 have w1:=fN (n:=q) (by omega);have w2:=fN (n:=q*d) (by omega);have w3:=fN (n:=q-1) (by omega);have hne:¬d=0:=by omega
 have key:n / d=if n<q*d then q-1 else q:=by
  split
  ·rename_i hc;refine((Int.ediv_emod_unique (r:=r+d) (show 0<d by omega)).2 ⟨?_,?_,?_⟩).1
   ·rw[Int.mul_sub];omega
   ·omega
   ·omega
  ·rename_i hc;refine((Int.ediv_emod_unique (r:=r) (show 0<d by omega)).2 ⟨?_,?_,?_⟩).1<;>omega
 rw[key];by_cases hc:n<q*d<;>simp[-length_flatMap,-map_take,hq,w1,w2,w3,hne,hc]
theorem wG{α:Type}{f:α→List D}{w n:Nat}(hn:1<n)(hw:∀x,(f x).length=w)(hc:∀x,D.bJ (f x)=true){l:List α}{j v:Nat}{bs:List Abs.aE}(hσ:σ≠[])(hj:bs[j]?=some (.cells v (l.flatMap f))):
  cJ (σ.length-1) n (.sl σ.length j v 0 l.length w) (bs::σ)=(.aH l.length (l.flatMap f),bs.set j .dead::σ):=by
 have h3:¬σ.length≤σ.length-1:=by have:=aT.2 hσ;omega
 rw[Dl h3 (cs:=l.flatMap f) (by simp[hj]) (by omega)];have h4:0<n-1:=by omega
 simp[Kh hw l,iU hc l,h4]
theorem BY{b:cz}{m:cU}:(ea b m).length=b.n:=by simp[ea]
theorem GA(l:List Rock.aE):(l.flatMap aE.enc).length=l.length*3:=bX (f:=aE.enc) (w:=3) (fun _=>rfl) l
theorem OG{b:cz}{m:cU}(h:Fv b m):∀(n i v:Nat),i+n=b.n →
  WL T [1,2,6,7] false lH [(1,.bB [.int .i64 b.f.x,.int .i64 b.f.y,.int .i64 b.f.z,.int .i64 b.f.k,.aH b.ct.length (b.ct.flatMap Rw.enc),.int .i64 b.bK,.int .i64 b.lift,.int .i64 b.deep,.aH b.an.length (b.an.flatMap bI.enc),.str m.name,.aH m.bq.length (m.bq.flatMap aY)]),(2,.sl σ.length 0 v 0 i 3),(6,.int .i64 b.n),(7,.int .i64 i)] ([.cells v (((ea b m).take i).flatMap aE.enc)]::σ)
   (fun x e σ'=>x=.exit 0∧get e 2=.sl σ.length 0 (v+n) 0 (ea b m).length 3∧σ'=[.cells (v+n) ((ea b m).flatMap aE.enc)]::σ)
 |0,i,v,hi=>by
  refine aM lH.eq_1 ?_;obtain rfl:i=b.n:=by omega
  have h3:(ea b m).take b.n=ea b m:=ai (by simp[BY]);simp[-length_flatMap,-map_take,h3,BY]
 |n+1,i,v,hi=>by
  refine aM lH.eq_1 ?_;have h1:i<b.n:=by omega
  have hn:=h.bv.n;have h4:=gN h1 (by omega);have ho:=fun σ=>Te (σ:=σ) h.toMv h1
  have hw:=fun σ=>ant (σ:=σ) h.toMv h1
  have b1:=h.hold i h1;have b2:=h.II i h1;have b3:=oV (by omega:0≤hold b m i) b1.2 b2.1 b2.2;have w1:=fN (n:=hold b m i*II b m i) (by omega);have ih:=OG h n (i+1) (v+1) (by omega);have hx:(ea b m)[i]?=some ⟨hold b m i,hold b m i*II b m i,0⟩:=by simp[ea,h1]
  have a3:=E9 (f:=aE.enc) hx;have a4:=GA ((ea b m).take i);rw[jC,BY,Nat.min_eq_left (by omega)]at a4;have a6:(((ea b m).take i).flatMap aE.enc).take (i*3)=((ea b m).take i).flatMap aE.enc:=ai (by omega);have h7:(i+1)*24≤room:=by unfold room;omega
  simp[-length_flatMap,-map_take,h1,h4,ho,hw,w1,a4,a6,h7,cM,bu,bw];refine WL.to ih (by simp[cM,bu,bw]) (by simp[← a3]) fun x e σ hh=>by simpa[dZ,Nat.add_comm 1 n]using hh
theorem EI{b:cz}{m:cU}(h:Fv b m)(hσ:σ≠[]):lim T (.call false je [.agg [.int .i64 b.f.x,.int .i64 b.f.y,.int .i64 b.f.z,.int .i64 b.f.k,.aH b.ct.length (b.ct.flatMap Rw.enc),.int .i64 b.bK,.int .i64 b.lift,.int .i64 b.deep,.aH b.an.length (b.an.flatMap bI.enc),.str m.name,.aH m.bq.length (m.bq.flatMap aY)]] σ)=some (.val (S4 (ea b m)) σ):=by
 refine aw Cp ou.eq_1 rfl ?_;have hs:=fun σ=>zg (σ:=σ) h.bv
 simp[-length_flatMap,-map_take,hs,cM,bu,bw];refine WL.to (OG (σ:=σ) h b.n 0 0 (by omega)) (by simp) (by simp) ?_;rintro x e σ' ⟨rfl,g2,rfl⟩;simp[-length_flatMap,-map_take,g2];rw[wG (f:=aE.enc) (by decide) (fun _=>rfl) (fun x=>by simp) hσ (by simp)];simp[S4]
end Go.Proofs.YtfgljaglidhjiaaGreatDoor
