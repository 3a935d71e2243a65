import Derived.Test.YtklfdfnoebnciaaGreatDoorBase20
import Derived.Test.YtklfdfnoebnciaaGreatDoorTab
set_option linter.all false
namespace Go.Rock
open List(length_flatMap map_take)
open Go Go.Abs
structure fw where
 x:Int
 y:Int
 z:Int
 k:Int
structure Rw where
 t:Int
 p:Int
 l:Int
 v:Int
 s:Int
structure bB where
 b:Int
 h:Int
 m:Int
structure cf where
 f:fw
 cc:List Rw
 bD:Int
 lift:Int
 deep:Int
 ak:List bB
structure cF where
 name:List UInt8
 bf:List Int
structure aG where
 m:Int
 h:Int
 k:Int
@[simp] theorem fw.eta(p:fw):fw.mk p.x p.y p.z p.k=p:=rfl
@[simp] theorem Rw.eta(p:Rw):Rw.mk p.t p.p p.l p.v p.s=p:=rfl
@[simp] theorem bB.eta(p:bB):bB.mk p.b p.h p.m=p:=rfl
@[simp] theorem aG.eta(p:aG):aG.mk p.m p.h p.k=p:=rfl
@[simp] def fw.enc(f:fw):List D:=[.int .i64 f.x,.int .i64 f.y,.int .i64 f.z,.int .i64 f.k]
@[simp] def Rw.enc(r:Rw):List D:=[.int .i64 r.t,.int .i64 r.p,.int .i64 r.l,.int .i64 r.v,.int .i64 r.s]
@[simp] def bB.enc(r:bB):List D:=[.int .i64 r.b,.int .i64 r.h,.int .i64 r.m]
@[simp] def aG.enc(r:aG):List D:=[.int .i64 r.m,.int .i64 r.h,.int .i64 r.k]
@[simp] def aU(n:Int):List D:=[.int .i64 n]
@[simp] def cf.enc(b:cf):List D:=[.int .i64 b.f.x,.int .i64 b.f.y,.int .i64 b.f.z,.int .i64 b.f.k,.aE b.cc.length (b.cc.flatMap Rw.enc),.int .i64 b.bD,.int .i64 b.lift,.int .i64 b.deep,.aE b.ak.length (b.ak.flatMap bB.enc)]
@[simp] def cF.enc(m:cF):List D:=[.str m.name,.aE m.bf.length (m.bf.flatMap aU)]
def P0(s:List aG):D:=.aE s.length (s.flatMap aG.enc)
def bT(n lo hi:Int):Bool:=decide (lo≤n) && decide (n≤hi)
theorem aR{n lo hi:Int}:bT n lo hi=true↔lo≤n∧n≤hi:=by simp[bT]
def fw.size(f:fw):Int:=f.x*f.y*f.z
def fw.valid(f:fw):Bool:=bT f.x 1 8 && (bT f.y 1 8 && (bT f.z 1 8 && (decide (f.size≤64) && bT f.k 1 6)))
theorem fw.sX{f:fw}:f.valid=true↔(1≤f.x∧f.x≤8)∧(1≤f.y∧f.y≤8)∧(1≤f.z∧f.z≤8)∧f.size≤64∧(1≤f.k∧f.k≤6):=by
 simp[fw.valid,bT,and_assoc]
def fw.shape(f:fw):Int:=if f.valid then 0 else 1
def letter(c:UInt8):Bool:=decide (97≤c.toNat) && decide (c.toNat≤122)
def digit(c:UInt8):Bool:=decide (48≤c.toNat) && decide (c.toNat≤57)
def wg(i:Nat):List UInt8→Bool
 |[]=>true
 |c::l=>(letter c || (decide (i≠0) && digit c)) && wg (i+1) l
def named(s:List UInt8):Bool:=wg 0 s && bT s.length 1 16
def fw.model(f:fw)(m:cF):Int:=if named m.name then(if(m.bf.length:Int)=f.k*f.size∧gw m.bf (fun n=>bT n (-100000) 100000)=true then 0 else 1)else 5
def fw.each(f:fw)(met:List (List UInt8)):List cF→Int
 |[]=>0
 |m::l=>if f.model m=0 then(if met.contains m.name then 6 else f.each (met++[m.name]) l)else f.model m
def fw.an(f:fw)(l:List cF):Int:=if bT l.length 1 40 then f.each [] l else 3
def gz(f:fw)(l:List cF):Int:=if f.valid then f.an l else 1
def Rw.alone(r:Rw):Bool:=bT r.t 0 400 && (bT r.p 1 10000 && (bT r.l 0 4000 && (bT r.s 0 2000 && (decide (r.l<r.v) && decide (r.v≤4000)))))
def Rw.H9(o r:Rw):Bool := !(decide (r.t≤o.t) || (decide (r.p≤o.p) || (decide (r.l≤o.l) || decide (r.s<o.s))))
def Ej:List Rw→Bool
 |o::r::l=>o.H9 r && Ej (r::l)
 |_=>true
def j1(t:List Rw):Bool:=bT t.length 2 20 && (gw t Rw.alone && Ej t)
def bB.ok(size:Int)(used:List Int)(w:bB):Bool:=bT w.b 0 (size-1) && (!used.contains w.b && (bT w.h 0 3000 && bT w.m 0 1000000))
def ub(size:Int)(used:List Int):List bB→Bool
 |[]=>true
 |w::l=>w.ok size used && ub size (used++[w.b]) l
def cf.size(b:cf):Int:=b.f.size
def cf.ok1(b:cf):Bool:=b.f.valid && (decide (4≤b.f.k) && (j1 b.cc && (bT b.bD 1 100000 && (bT b.lift 0 1000 && (bT b.deep 0 3000 && decide (b.ak.length≤8))))))
def cf.valid(b:cf):Bool:=b.ok1 && ub b.size [] b.ak
def cf.n(b:cf):Nat:=b.size.toNat
def vh(b:cf)(m:cF)(k:Nat):List Int:=(m.bf.drop (k*b.n)).take b.n
def uE(b:cf)(m:cF)(k:Nat)(i:Nat):Int:=(m.bf[k*b.n+i]?).getD 0
def hold(b:cf)(m:cF)(i:Nat):Int:=uE b m 0 i
def Hk(b:cf)(m:cF)(i:Nat):Int:=uE b m 1 i
def Hr(b:cf)(m:cF)(i:Nat):Int:=uE b m 2 i
def feed(b:cf)(m:cF)(i:Nat):Int:=uE b m 3 i
def fits(b:cf)(m:cF):Bool:=decide (gz b.f [m]=0) && (gw (vh b m 0) (fun n=>bT n 1000 100000) && (gw (vh b m 1) (fun n=>bT n 0 1000) && (gw (vh b m 2) (fun n=>bT n 0 3000) && gw (vh b m 3) (fun n=>bT n 0 1000))))
def Bd(b:cf)(m:cF):Bool:=b.valid && fits b m
def dA(b:cf)(m:cF):List aG:=(List.range b.n).map fun i=>⟨hold b m i,hold b m i*Hr b m i,0⟩
def aG.valid(x:aG):Bool:=bT x.m 1 1000000 && (bT x.h 0 10000000000 && bT x.k 0 1000000000000)
def xN(b:cf)(s:List aG):Bool:=decide ((s.length:Int)=b.size) && gw s aG.valid
def weight(b:cf)(i:Nat):Int:=((i / (b.f.x.toNat*b.f.y.toNat):Nat):Int)*b.lift
def down(n d:Int):Int:=n / d
def bM(s:List aG)(i:Nat):aG:=(s[i]?).getD ⟨0,0,0⟩
def pk(x:aG)(out:Int)(r:Rw):Int:=if r.l*x.m≤x.h then max out r.p else out
def kr(b:cf)(m:cF)(s:List aG)(i:Nat):Int :=
 b.cc.foldl (pk (bM s i)) (max 0 (weight b i+down (b.bD*((bM s i).m-hold b m i)) (hold b m i)))
def bP(b:cf)(m:cF)(s:List aG):List Int:=(List.range s.length).map (kr b m s)
def xF(b:cf)(i:Nat):List (Nat×Nat) :=
 (if(i+1)%b.f.x.toNat≠0 then [(i,i+1)]else [])++((if i / b.f.x.toNat%b.f.y.toNat≠b.f.y.toNat-1 then [(i,i+b.f.x.toNat)]else [])++(if i+b.f.x.toNat*b.f.y.toNat<b.n then [(i,i+b.f.x.toNat*b.f.y.toNat)]else []))
def HY(b:cf):List (Nat×Nat):=(List.range b.n).flatMap (xF b)
def aG.out(x:aG)(m:Int):aG:=⟨m,(x.h*m).tdiv x.m,(x.k*m).tdiv x.m⟩
def aG.move(x o:aG)(sign:Int):aG:=⟨x.m+sign*o.m,x.h+sign*o.h,x.k+sign*o.k⟩
def IQ(b:cf)(m:cF)(s:List aG)(p:List Int)(l:Nat×Nat):Option ((Nat×Nat)×aG) :=
 let d:=(p[l.1]?).getD 0-weight b l.1-(p[l.2]?).getD 0+weight b l.2
 let l':=if d<0 then(l.2,l.1)else l
 let d':=if d<0 then -d else d
 let q:=min ((min (Hk b m l'.1) (Hk b m l'.2)*d').tdiv 1000) ((bM s l'.1).m.tdiv 8)
 if 0<q then some (l',(bM s l'.1).out q)else none
def PD(es:List ((Nat×Nat)×aG))(k:Nat×Nat)(o:aG):List ((Nat×Nat)×aG) :=
 match es.findIdx? (fun e=>e.1 == k)with
 |some j=>es.set j (k,o)
 |none=>es++[(k,o)]
def oZ(b:cf)(m:cF)(s:List aG)(p:List Int)(es:List ((Nat×Nat)×aG))(l:Nat×Nat):List ((Nat×Nat)×aG) :=
 match IQ b m s p l with
 |some e=>PD es e.1 e.2
 |none=>es
def vd(b:cf)(m:cF)(s:List aG):List ((Nat×Nat)×aG):=(HY b).foldl (oZ b m s (bP b m s)) []
def gY(s:List aG)(i:Nat)(o:aG)(sign:Int):List aG:=s.set i ((bM s i).move o sign)
def eB(s:List aG)(e:(Nat×Nat)×aG):List aG:=gY (gY s e.1.1 e.2 (-1)) e.1.2 e.2 1
def bB.given(w:bB)(rate:Int):aG:=⟨-rate,-rate*w.h,-rate*w.m⟩
def ru(s:List aG)(w:bB)(rate:Int):aG:=if rate<0 then⟨0,0,0⟩else(bM s w.b.toNat).out (min rate ((bM s w.b.toNat).m.tdiv 8))
def ua(s next:List aG)(w:bB)(rate:Int):List aG:=if rate<0 then gY next w.b.toNat (w.given rate) 1 else gY next w.b.toNat (ru s w rate) (-1)
def LK(b:cf)(m:cF)(i:Nat):aG:=⟨feed b m i,feed b m i*b.deep,0⟩
def CD(b:cf)(m:cF)(s:List aG)(aN:List Int):List aG :=
 let s1:=(vd b m s).foldl eB s
 let s2:=(b.ak.zip aN).foldl (fun n wr=>ua s n wr.1 wr.2) s1
 (List.range s.length).foldl (fun n i=>gY n i (LK b m i) 1) s2
def dW(b:cf)(s:List aG)(aN:List Int):List aG:=(b.ak.zip aN).map fun wr=>ru s wr.1 wr.2
def tick(b:cf)(m:cF)(s:List aG)(aN:List Int):Option (List aG×List aG) :=
 if xN b (CD b m s aN)then some (CD b m s aN,dW b s aN)else none
def zB(b:cf)(l:List Int):Int:=if l.length=b.ak.length then(if gw l (fun n=>bT n (-100000) 100000)then 0 else 2)else 1
def cN{α:Type}(f:α→Int):List α→Int
 |[]=>0
 |x::l=>if f x=0 then cN f l else f x
def vK(b:cf)(av:List (List Int)):Int:=if 200<av.length then 3 else cN (zB b) av
def uV(b:cf)(m:cF):List (List aG)→List (List aG)→List aG→List (List Int)→Option (List (List aG)×List (List aG))
 |ss,ys,_,[]=>some (ss,ys)
 |ss,ys,s,r::av =>
  match tick b m s r with
  |some (s',y)=>uV b m (ss++[s']) (ys++[y]) s' av
  |none=>none
def run(b:cf)(m:cF)(av:List (List Int)):Option (List (List aG)×List (List aG)):=uV b m [dA b m] [] (dA b m) av
end Go.Rock
namespace Go.Proofs.YtklfdfnoebnciaaGreatDoor
open List(length_flatMap map_take)
open Go Go.Abs Go.Rock
variable {σ:SK}
theorem N0{a b A B:Int}(h1:1≤a)(h2:a≤A)(h3:1≤b)(h4:b≤B):1≤a*b∧a*b≤A*B :=
 ⟨by have:=Int.mul_pos (a:=a) (b:=b) (by omega) (by omega);omega,la h2 h4 (by omega) (by omega)⟩
theorem n0{a b A B:Int}(h1:0≤a)(h2:a≤A)(h3:0≤b)(h4:b≤B):0≤a*b∧a*b≤A*B :=
 ⟨dS h1 h3,la h2 h4 h3 (by omega)⟩
theorem fw.sz{f:fw}(hx:1≤f.x∧f.x≤8)(hy:1≤f.y∧f.y≤8)(hz:1≤f.z∧f.z≤8):(1≤f.x*f.y∧f.x*f.y≤64)∧(1≤f.x*f.y*f.z∧f.x*f.y*f.z≤512):=by
 have h1:=N0 hx.1 hx.2 hy.1 hy.2;have h2:=N0 h1.1 h1.2 hz.1 hz.2;exact⟨by omega,by omega⟩
theorem dp{a b c:Int}:lim T (.call false bY [.int .i64 a,.int .i64 b,.int .i64 c] σ)=some (.val (.bool (bT a b c)) σ):=by
 refine au G6 uS.eq_1 rfl ?_;by_cases h:b≤a<;>simp[-length_flatMap,-map_take,h,bT]
theorem gn{a b c:Int}:lim T (.call false du [.int .i64 a,.int .i64 b,.int .i64 c] σ)=some (.val (.bool (bT a b c)) σ):=by
 refine au FJ tt.eq_1 rfl ?_;by_cases h:b≤a<;>simp[-length_flatMap,-map_take,h,bT]
theorem jI{a b c:Int}:lim T (.call false cZ [.int .i64 a,.int .i64 b,.int .i64 c] σ)=some (.val (.bool (bT a b c)) σ):=by
 refine au FT tJ.eq_1 rfl ?_;by_cases h:b≤a<;>simp[-length_flatMap,-map_take,h,bT]
theorem Fs{f:fw}(hx:1≤f.x∧f.x≤8)(hy:1≤f.y∧f.y≤8)(hz:1≤f.z∧f.z≤8):lim T (.call false cY [.agg [.int .i64 f.x,.int .i64 f.y,.int .i64 f.z,.int .i64 f.k]] σ)=some (.val (.int .i64 f.size) σ):=by
 refine au Ai mo.eq_1 rfl ?_;obtain⟨h1,h2⟩:=fw.sz hx hy hz;have w1:=fK (n:=f.x*f.y) (by omega);have w2:=fK (n:=f.x*f.y*f.z) (by omega);simp[-length_flatMap,-map_take,w1,w2,fw.size]
theorem Qd{f:fw}:lim T (.call false kf [.agg [.int .i64 f.x,.int .i64 f.y,.int .i64 f.z,.int .i64 f.k]] σ)=some (.val (.bool f.valid) σ):=by
 refine au BB nr.eq_1 rfl ?_;cases hc1:bT f.x 1 8
 ·simp[-length_flatMap,-map_take,gn,fw.valid,hc1]
 cases hc2:bT f.y 1 8
 ·simp[-length_flatMap,-map_take,gn,fw.valid,hc1,hc2]
 cases hc3:bT f.z 1 8
 ·simp[-length_flatMap,-map_take,gn,fw.valid,hc1,hc2,hc3]
 have hb:=fun σ=>Fs (σ:=σ) (f:=f) (aR.1 hc1) (aR.1 hc2) (aR.1 hc3)
 by_cases hc4:f.size≤64
 ·simp[-length_flatMap,-map_take,gn,fw.valid,hc1,hc2,hc3,hc4,hb]
 ·simp[-length_flatMap,-map_take,gn,fw.valid,hc1,hc2,hc3,hc4,hb]
theorem Fc{f:fw}:lim T (.call false cr [.agg [.int .i64 f.x,.int .i64 f.y,.int .i64 f.z,.int .i64 f.k]] σ)=some (.val (.int .i64 f.shape) σ):=by
 refine au BA nq.eq_1 rfl ?_;have hb:=fun σ=>Qd (σ:=σ) (f:=f)
 cases hc:f.valid<;>rw[hc]at hb<;>simp[-length_flatMap,-map_take,hb,fw.shape,hc]
theorem jj{f:fw}:lim T (.call false iU [.agg [.int .i64 f.x,.int .i64 f.y,.int .i64 f.z,.int .i64 f.k]] σ)=some (.val (.int .i64 f.shape) σ):=by
 refine au B9 oi.eq_1 rfl ?_;have hb:=fun σ=>Fc (σ:=σ) (f:=f)
 simp[-length_flatMap,-map_take,hb]
theorem ML{s:List UInt8}(hl:s.length≤1000000000):∀(m i:Nat),i+m=s.length →
  WL T [0,6,7] false qR [(0,.str s),(6,.int .i64 s.length),(7,.int .i64 i)] σ
   (fun x e σ'=>σ'=σ∧if wg i (s.drop i)then x=.exit 0∧get e 0=.str s else x=.ret∧get e 2=.bool false)
 |0,i,hi=>by
  refine aH qR.eq_1 ?_;have h1:¬i<s.length:=by omega
  have h2:s.drop i=[]:=az (by omega);simp[-length_flatMap,-map_take,h1,h2,wg]
 |m+1,i,hi=>by
  refine aH qR.eq_1 ?_;have h1:i<s.length:=by omega
  obtain⟨c,hc⟩:=gE h1;have h4:=ga h1 (by omega);have h5:=dh hc;have ih:=ML hl m (i+1) (by omega);rw[h5,wg];have hd:CM .Ho [.str s,.int .i64 (i:Int)]=some (.int .u8 c.toNat):=by simp[CM,hc]
  by_cases hc1:97≤c.toNat
  ·by_cases hc2:c.toNat≤122
   ·have hlet:letter c=true:=by simp[letter,hc1,hc2]
    simp[-length_flatMap,-map_take,h1,h4,hd,hlet,show(97:Int)≤(c.toNat:Int)by omega,show(c.toNat:Int)≤122 by omega];exact WL.to ih (by simp) rfl fun x e σ' hh=>by simpa[hlet]using hh
   ·have hlet:letter c=false:=by simp[letter,hc2]
    have hdig:digit c=false:=by simp[digit];omega
    by_cases hi0:i=0
    ·subst hi0;have hd0:CM .Ho [.str s,.int .i64 0]=some (.int .u8 c.toNat):=by simpa using hd
     have h1':0<s.length:=h1;simp[-length_flatMap,-map_take,h1',h4,hd0,hlet,hdig,show(97:Int)≤(c.toNat:Int)by omega,show ¬(c.toNat:Int)≤122 by omega]
    ·simp[-length_flatMap,-map_take,h1,h4,hd,hlet,hdig,hi0,show(97:Int)≤(c.toNat:Int)by omega,show ¬(c.toNat:Int)≤122 by omega,show ¬(c.toNat:Int)<48 by omega,show(57:Int)<(c.toNat:Int)by omega,show(57:Nat)<c.toNat by omega,show ¬c.toNat<48 by omega]
  ·have hlet:letter c=false:=by simp[letter,hc1]
   by_cases hi0:i=0
   ·subst hi0;have hd0:CM .Ho [.str s,.int .i64 0]=some (.int .u8 c.toNat):=by simpa using hd
    have h1':0<s.length:=h1;simp[-length_flatMap,-map_take,h1',h4,hd0,hlet,show ¬(97:Int)≤(c.toNat:Int)by omega]
   ·by_cases hc3:c.toNat<48
    ·have hdig:digit c=false:=by simp[digit];omega
     simp[-length_flatMap,-map_take,h1,h4,hd,hlet,hdig,hi0,show ¬(97:Int)≤(c.toNat:Int)by omega,show(c.toNat:Int)<48 by omega,hc3]
    ·by_cases hc4:57<c.toNat
     ·have hdig:digit c=false:=by simp[digit];omega
      simp[-length_flatMap,-map_take,h1,h4,hd,hlet,hdig,hi0,show ¬(97:Int)≤(c.toNat:Int)by omega,show ¬(c.toNat:Int)<48 by omega,show(57:Int)<(c.toNat:Int)by omega,hc3,hc4]
     ·have hdig:digit c=true:=by simp[digit];omega
      simp[-length_flatMap,-map_take,h1,h4,hd,hlet,hdig,hi0,show ¬(97:Int)≤(c.toNat:Int)by omega,show ¬(c.toNat:Int)<48 by omega,show ¬(57:Int)<(c.toNat:Int)by omega,hc3,hc4];exact WL.to ih (by simp) rfl fun x e σ' hh=>by simpa[hlet,hdig,hi0]using hh
theorem Fb{s:List UInt8}(hl:s.length≤1000000000):lim T (.call false pg [.str s] σ)=some (.val (.bool (named s)) σ):=by
 refine au GZ uM.eq_1 rfl ?_;have hp:CM .Eo [.str s]=some (.int .i64 s.length):=rfl;simp[-length_flatMap,-map_take,hp];refine WL.to (ML (σ:=[]::σ) hl s.length 0 (by omega)) (by simp) rfl ?_;rintro x e σ' ⟨rfl,h⟩;simp only[aJ]at h;unfold named;cases hc:wg 0 s
 ·simp[hc]at h;simp[h]
 ·simp[hc]at h;simp[-length_flatMap,-map_take,h,hp,gn]
theorem abH{a:Int}:lim T (.call false fO [.int .i64 a] σ)=some (.val (.bool (bT a (-100000) 100000)) σ):=by
 refine au z6 lK.eq_1 rfl ?_;simp[-length_flatMap,-map_take,gn]
theorem OC{l:List Int}{p:Int→Bool}{fv:D}(hl:l.length≤1000000000)(ht:pw T fv (fun n => .int .i64 n) p l)(hc:fv.cells=some [fv]):
  lim T (.call false o4 [.aE l.length (l.flatMap aU),fv] σ)=some (.val (.bool (gw l p)) σ) :=
 ze (IP .i64) (f:=o4) (g:=pQ) (h:=bJ) (i:=dO) (l:=l) (p:=p) (fv:=fv) rfl rfl rfl rfl (by omega) ht hc
theorem KF{f:fw}(hf:f.valid=true):(1≤f.size∧f.size≤64)∧1≤f.k*f.size∧f.k*f.size≤384:=by
 obtain⟨h1,h2,h3,h4,h5⟩:=fw.sX.1 hf;obtain⟨_,h6⟩:=fw.sz h1 h2 h3;have h7:=N0 h5.1 h5.2 (b:=f.size) (B:=64) (by unfold fw.size;omega) h4;exact⟨⟨by unfold fw.size;omega,h4⟩,by omega,by omega⟩
theorem MD{f:fw}{m:cF}(hf:f.valid=true)(hn:m.name.length≤1000000000)(hl:m.bf.length≤1000000000):lim T (.call false ic [.agg [.int .i64 f.x,.int .i64 f.y,.int .i64 f.z,.int .i64 f.k],.agg [.str m.name,.aE m.bf.length (m.bf.flatMap aU)]] σ)=some (.val (.int .i64 (f.model m)) σ):=by
 refine au Bz nk.eq_1 rfl ?_;obtain⟨h1,h2,h3,h4,h5⟩:=fw.sX.1 hf;obtain⟨h6,h7⟩:=KF hf;have w1:=fK (n:=f.k*f.size) (by omega);have hb:=fun σ=>Fs (σ:=σ) (f:=f) h1 h2 h3
 have ha:=fun σ=>OC (σ:=σ) (l:=m.bf) (p:=fun n=>bT n (-100000) 100000) (fv:=.fn fO [] []) hl (pw.fn fun x _ σ=>by simpa using abH) rfl
 cases hc1:named m.name
 ·simp[-length_flatMap,-map_take,Fb hn,hc1,fw.model]
 ·by_cases hc2:(m.bf.length:Int)=f.k*f.size
  ·cases hc3:gw m.bf (fun n=>bT n (-100000) 100000)<;>
    simp[-length_flatMap,-map_take,Fb hn,hc1,hc2,hc3,fw.model,hb,ha,w1]
  ·simp[-length_flatMap,-map_take,Fb hn,hc1,hc2,fw.model,hb,w1]
def BQ(met:List (List UInt8)):List D:=met.map fun n => .dQ [.str n,.bool true]
theorem D6{k:List UInt8}:∀{met:List (List UInt8)},∃r,qd none (.str k) (BQ met)=some r∧(met.contains k=true→∃j,r=some (j,.bool true))∧(met.contains k=false→r=none)
 |[]=>⟨none,rfl,by simp,by simp⟩
 |n::met=>by
  obtain⟨r,h1,h2,h3⟩:=D6 (k:=k) (met:=met);simp only[BQ,aM]at h1 ⊢;by_cases hk:k=n
  ·subst hk;exact⟨some (0,.bool true),by simp[qd,sG],fun _=>⟨0,rfl⟩,by simp⟩
  ·have hb:(k == n)=false:=by simpa using hk
   refine⟨r.map fun y=>(y.1+1,y.2),by simp[qd,sG,hb,h1],?_,?_⟩
   ·intro hc;have:met.contains k=true:=by simpa[hk]using hc
    obtain⟨j,rfl⟩:=h2 this;exact⟨j+1,rfl⟩
   ·intro hc;have:met.contains k=false:=by simp at hc ⊢;exact hc.2
    rw[h3 this];rfl
theorem ajr{S:SK}{l i:Nat}{met:List (List UInt8)}{k:List UInt8}(h:cells? S l i 0=some (BQ met)):Af S (.get none (.bool false) false) [.mf l i,.str k]=some (.bool (met.contains k),S):=by
 obtain⟨r,h1,h2,h3⟩:=D6 (k:=k) (met:=met);simp only[Af,Ae,h,aS,h1];cases hc:met.contains k
 ·rw[h3 hc];simp[sG]
 ·obtain⟨j,rfl⟩:=h2 hc;simp[sG]
theorem ajs{S:SK}{l i:Nat}{met:List (List UInt8)}{k:List UInt8}(h:cells? S l i 0=some (BQ met))(hn:met.contains k=false):
  Af S (.put none) [.mf l i,.str k,.bool true]=some (.undef,aT S l i (.cells 0 (BQ (met++[k])))):=by
 obtain⟨r,h1,h2,h3⟩:=D6 (k:=k) (met:=met);simp only[Af,Ae,h,aS,h1];rw[h3 hn];simp[sG,BQ,D.clean]
theorem auz{f:fw}{m:cF}(hf:f.valid=true)(hn:m.name.length≤1000000000)(hl:m.bf.length≤1000000000):
  lim T (.call false dK [.agg [.str m.name,.aE m.bf.length (m.bf.flatMap aU)],.bw [.int .i64 f.x,.int .i64 f.y,.int .i64 f.z,.int .i64 f.k]] σ)=some (.val (.dQ [.str m.name,.int .i64 (f.model m)]) σ):=by
 refine au y8 kz.eq_1 rfl ?_;simp[-length_flatMap,-map_take,MD hf hn hl]
theorem QH{f:fw}{l:List cF}(hf:f.valid=true)(hs:∀m∈l,m.name.length≤1000000000∧m.bf.length≤1000000000)(hl:l.length≤1000000000):∀(k i:Nat) (met:List (List UInt8)),i+k=l.length →
  WL T [1,5,11,12,13] false fV [(1,.fn dK [] [.bw [.int .i64 f.x,.int .i64 f.y,.int .i64 f.z,.int .i64 f.k]]),(5,.mf σ.length 0),(11,.aE l.length (l.flatMap cF.enc)),(12,.int .i64 l.length),(13,.int .i64 i)] ([.cells 0 (BQ met)]::σ)
   (fun x e σ'=>∃s,σ'=s::σ∧if f.each met (l.drop i)=0 then x=.exit 0 else x=.ret∧get e 4=.int .i64 (f.each met (l.drop i)))
 |0,i,met,hi=>by
  refine aH fV.eq_1 ?_;have h1:¬i<l.length:=by omega
  have h2:l.drop i=[]:=az (by omega);simp[-length_flatMap,-map_take,h1,h2,fw.each]
 |k+1,i,met,hi=>by
  refine aH fV.eq_1 ?_;have h1:i<l.length:=by omega
  obtain⟨m,hm⟩:=gE h1;have h2:=cj (f:=cF.enc) (w:=2) (fun _=>rfl) hm;have h4:=ga h1 (by omega);have h5:=dh hm;obtain⟨hs1,hs2⟩:=hs m (ai hm);have hC:=fun σ=>auz (σ:=σ) hf hs1 hs2
  rw[h5,fw.each];by_cases hc1:f.model m=0
  ·have hg:=ajr (S:=[.cells 0 (BQ met)]::σ) (l:=σ.length) (i:=0) (met:=met) (k:=m.name) (by simp);cases hc2:met.contains m.name
   ·rw[hc2]at hg;have hp:=ajs (S:=[.cells 0 (BQ met)]::σ) (l:=σ.length) (i:=0) (met:=met) (k:=m.name) (by simp) hc2;have ih:=QH hf hs hl k (i+1) (met++[m.name]) (by omega);simp at hp;have hc3:¬m.name∈met:=by simpa using hc2
    simp[-length_flatMap,-map_take,h1,h2,h4,hC,hc1,hg,hp,hc3];exact WL.to ih (by simp) (by simp) fun x e σ' hh=>by simpa[hc1]using hh
   ·rw[hc2]at hg;have hc3:m.name∈met:=by simpa using hc2
    simp[-length_flatMap,-map_take,h1,h2,h4,hC,hc1,hg,hc3]
  ·simp[-length_flatMap,-map_take,h1,h2,h4,hC,hc1]
theorem ajY{f:fw}{l:List cF}(hf:f.valid=true)(hs:∀m∈l,m.name.length≤1000000000∧m.bf.length≤1000000000)(hl:l.length≤1000000000):
  lim T (.call false fS [.aE l.length (l.flatMap cF.enc),.fn dK [] [.bw [.int .i64 f.x,.int .i64 f.y,.int .i64 f.z,.int .i64 f.k]]] σ)=some (.val (.int .i64 (f.each [] l)) σ):=by
 refine au xY jn.eq_1 rfl ?_;have hm:Af ([]::σ) .make []=some (.mf σ.length 0,[.cells 0 (BQ [])]::σ):=by simp[Af,BQ]
 simp[-length_flatMap,-map_take,hm];refine WL.to (QH (σ:=σ) hf hs hl l.length 0 [] (by omega)) (by simp) (by simp) ?_;rintro x e σ' ⟨s,rfl,h⟩;simp only[aJ]at h;by_cases hc:f.each [] l=0
 ·rw[if_pos hc]at h;subst h;simp[-length_flatMap,-map_take,hc]
 ·rw[if_neg hc]at h;obtain⟨rfl,h⟩:=h;simp[h]
theorem Qj{f:fw}{l:List cF}(hf:f.valid=true)(hs:∀m∈l,m.name.length≤1000000000∧m.bf.length≤1000000000)(hl:l.length≤1000000000):
  lim T (.call false jB [.agg [.int .i64 f.x,.int .i64 f.y,.int .i64 f.z,.int .i64 f.k],.aE l.length (l.flatMap cF.enc)] σ)=some (.val (.int .i64 (f.an l)) σ):=by
 refine au Aj mq.eq_1 rfl ?_;cases hc:bT l.length 1 40
 ·simp[-length_flatMap,-map_take,gn,hc,fw.an]
 ·simp[-length_flatMap,-map_take,gn,hc,fw.an,ajY hf hs hl]
theorem Fq{f:fw}{l:List cF}(hf:f.valid=true)(hs:∀m∈l,m.name.length≤1000000000∧m.bf.length≤1000000000)(hl:l.length≤1000000000):
  lim T (.call false fM [.bw [.int .i64 f.x,.int .i64 f.y,.int .i64 f.z,.int .i64 f.k],.bw [.aE l.length (l.flatMap cF.enc)]] σ)=some (.val (.int .i64 (f.an l)) σ):=by
 refine au zY lI.eq_1 rfl ?_;simp[-length_flatMap,-map_take,Qj hf hs hl]
theorem It{fs:List D}{es:List Int}(hlen:fs.length=es.length)(hl:fs.length≤100)(hfs:∀d∈fs,d.strip=d∧d.calm=d∧K5 false 1 (some [d])=some d)
  (hcall:∀(i:Nat) d n,fs[i]?=some d→es[i]?=some n→(∀j,j<i→es[j]?=some 0)→∀σ,oU (lim T) false d [] σ=some (.int .i64 n,σ)):
  lim T (.call false mV [.aE fs.length fs] σ)=some (.val (.int .i64 (cN id es)) σ):=by
 have loop:∀(k i:Nat) (σ:SK),i+k=fs.length→(∀j,j<i→es[j]?=some 0) →
   WL T [6,7,8] false qQ [(6,.aE fs.length fs),(7,.int .i64 fs.length),(8,.int .i64 i)] σ
    (fun x e σ'=>σ'=σ∧if cN id (es.drop i)=0 then x=.exit 0 else x=.ret∧get e 2=.int .i64 (cN id (es.drop i))):=by
  intro k;induction k with
  |zero =>
   intro i σ hi h0;refine aH qQ.eq_1 ?_;have h1:¬i<fs.length:=by omega
   have h2:es.drop i=[]:=az (by omega);simp[-length_flatMap,-map_take,h1,h2,cN]
  |succ k ih =>
   intro i σ hi h0;refine aH qQ.eq_1 ?_;have h1:i<fs.length:=by omega
   obtain⟨d,hd⟩:=gE h1;obtain⟨n,hn⟩:∃n,es[i]?=some n:=gE (by omega);obtain⟨g1,g2,g3⟩:=hfs d (ai hd);have h2:=cj (f:=fun d:D=>[d]) (w:=1) (fun _=>rfl) (l:=fs) hd;rw[show(fs.flatMap fun d=>[d])=fs from by simp]at h2;have h4:=ga h1 (by omega);have h5:=dh hn;have hc:=hcall i d n hd hn h0;simp only[iw]at h2;rw[h5,cN];by_cases hz:n=0
   ·subst hz;have ih':=ih (i+1) σ (by omega) (fun j hj=>by
     by_cases hji:j=i
     ·subst hji;exact hn
     ·exact h0 j (by omega))
    simp[-length_flatMap,-map_take,h1,h2,h4,g1,g2,hc];exact WL.to ih' (by simp) rfl fun x e σ' hh=>by simpa using hh
   ·simp[-length_flatMap,-map_take,h1,h2,h4,g1,g2,hc,hz]
 refine au GY uL.eq_1 rfl ?_;simp[-length_flatMap,-map_take];refine WL.to (loop fs.length 0 ([]::σ) (by omega) (by simp)) (by simp) rfl ?_;rintro x e σ' ⟨rfl,h⟩;simp only[aJ]at h;by_cases hc:cN id es=0
 ·rw[if_pos hc]at h;subst h;simp[-length_flatMap,-map_take,hc]
 ·rw[if_neg hc]at h;obtain⟨rfl,h⟩:=h;simp[h]
theorem BU{f:fw}{l:List cF}(hs:∀m∈l,m.name.length≤1000000000∧m.bf.length≤1000000000)(hl:l.length≤1000000000):
  lim T (.call false ia [.agg [.int .i64 f.x,.int .i64 f.y,.int .i64 f.z,.int .i64 f.k],.aE l.length (l.flatMap cF.enc)] σ)=some (.val (.int .i64 (gz f l)) σ):=by
 refine au By nj.eq_1 rfl ?_;have hC:=fun σ=>It (σ:=σ) (fs:=[.fn cr [.agg [.int .i64 f.x,.int .i64 f.y,.int .i64 f.z,.int .i64 f.k]] [],.fn fM [] [.bw [.int .i64 f.x,.int .i64 f.y,.int .i64 f.z,.int .i64 f.k],.bw [.aE l.length (l.flatMap cF.enc)]]]) (es:=[f.shape,f.an l]) rfl (by simp) (by simp) (by
  intro i d n hd hn h0 σ;match i with
  |0 =>
   simp at hd hn;subst hd hn;simp[Fc]
  |1 =>
   simp at hd hn;subst hd hn;have h1:f.valid=true:=by
    have:=h0 0 (by omega);simp[fw.shape]at this;exact this
   simp[Fq h1 hs hl]
  |i+2=>simp at hd)
 simp at hC;have e1:cN id [f.shape,f.an l]=gz f l:=by
  simp only[cN,id,gz,fw.shape];by_cases h:f.valid=true
  ·by_cases h2:f.an l=0<;>simp[h,h2]
  ·simp[h]
 rw[e1]at hC;simp[-length_flatMap,-map_take,hC]
end Go.Proofs.YtklfdfnoebnciaaGreatDoor
namespace Go.Abs
open List(length_flatMap map_take)
open Go
variable {T:zO}
def pa(q:Nat→Bool)(i:Nat):Nat→Bool×Nat
 |0=>(false,i)
 |m+1=>if q i then(true,i+1)else pa q (i+1) m
theorem Bt{q:Nat→Bool}:∀{m i:Nat},(pa q i m).1=false↔∀j,j<m→q (i+j)=false
 |0,i=>by simp[pa]
 |m+1,i=>by
  simp only[pa];by_cases h:q i=true
  ·simp only[h,if_true,Bool.true_eq_false,false_iff];intro hh;have:=hh 0 (by omega);simp[h]at this
  ·have h':q i=false:=by simpa using h
   simp only[h',ar,if_false];rw[Bt (m:=m) (i:=i+1)];constructor
   ·intro hh j hj;cases j with
    |zero=>simpa using h'
    |succ j=>have:=hh j (by omega);rwa[show i+1+j=i+(j+1)from by omega]at this
   ·intro hh j hj;have:=hh (j+1) (by omega);rwa[show i+(j+1)=i+1+j from by omega]at this
section
variable {α:Type} (E:Elt α) {fv:D} {l:List α} {q:Nat→Bool} {S:Nat→SK}
theorem HR(hl:l.length≤9223372036854775807)(h1:fv.strip=fv)(h2:fv.calm=fv)(ht:∀i x,l[i]?=some x→oU (lim T) false fv [E.val x] (S i)=some (.bool (q i),S (i+1))):∀(m i:Nat),i+m=l.length →
  WL T [0,1,7,8] false (Gn E.ag E.w) [(0,.aE l.length (l.flatMap E.enc)),(1,fv),(7,.int .i64 l.length),(8,.int .i64 i)] (S i)
   (fun x e σ'=>σ'=S (pa q i m).2∧if(pa q i m).1=true then x=.ret∧∃j:Nat,get e 4=.int .i64 j else x=.exit 0)
 |0,i,hi=>by
  refine aH (Gn.eq_1 _ _) ?_;have:¬i<l.length:=by omega
  simp[this,h1,h2,pa]
 |m+1,i,hi=>by
  refine aH (Gn.eq_1 _ _) ?_;have h4:i<l.length:=by omega
  obtain⟨x,hx⟩:=gE h4;have h5:=cj (f:=E.enc) E.len hx;have h6:=ht i x hx;have h7:=ga h4 hl;have ih:=HR hl h1 h2 ht m (i+1) (by omega);cases hq:q i
  ·rw[hq]at h6;simp[h4,h1,h2,h5,h6,h7,E.load,E.strip,E.calm];refine WL.mono (by simpa using ih) ?_;rintro x e σ' ⟨h9,h10⟩;simp only[pa,hq,ar,if_false];exact⟨h9,h10⟩
  ·rw[hq]at h6;simp[h4,h1,h2,h5,h6,h7,E.load,E.strip,E.calm,pa,hq];exact⟨i,rfl⟩
theorem Ph{f:Nat}(hT:T f=some (um E.ag E.w))(hl:l.length≤9223372036854775807)(h1:fv.strip=fv)(h2:fv.calm=fv)(hlen:∀i,(S i).length=(S 0).length)
  (ht:∀i x,l[i]?=some x→oU (lim T) false fv [E.val x] ([]::S i)=some (.bool (q i),[]::S (i+1))):
  ∃n:Int,lim T (.call false f [.aE l.length (l.flatMap E.enc),fv] (S 0))=some (.val (.int .i64 n) (S (pa q 0 l.length).2))∧(0≤n↔(pa q 0 l.length).1=true):=by
 have h:=HR E (S:=fun i=>[]::S i) hl h1 h2 ht l.length 0 (by omega);cases hq:(pa q 0 l.length).1
 ·refine⟨-1,?_,by simp⟩;refine fU hT (um.eq_1 _ _) rfl (hlen _) ?_;simp[h1,h2];refine WL.mono (by simpa using h) ?_;rintro x e σ' ⟨rfl,h10⟩;rw[hq]at h10;simp only[ar,if_false]at h10;subst h10;simp
 ·obtain⟨x,e,σ',hw,rfl,h10⟩:=h;rw[hq]at h10;simp only[if_true]at h10;obtain⟨rfl,j,hj⟩:=h10;refine⟨j,?_,by simp⟩;refine fU hT (um.eq_1 _ _) rfl (hlen _) ?_;simp[h1,h2];refine⟨_,_,_,by simpa using hw,?_⟩;simp[hj]
theorem IL{f i:Nat}(hT:T f=some (iR i))(hi:T i=some (um E.ag E.w))(hl:l.length≤9223372036854775807)(h1:fv.strip=fv)(h2:fv.calm=fv)(hlen:∀i,(S i).length=(S 0).length)
  (ht:∀i x,l[i]?=some x→oU (lim T) false fv [E.val x] ([]::[]::S i)=some (.bool (q i),[]::[]::S (i+1))):
  lim T (.call false f [.aE l.length (l.flatMap E.enc),fv] (S 0))=some (.val (.bool (pa q 0 l.length).1) (S (pa q 0 l.length).2)):=by
 obtain⟨n,h,hn⟩:=Ph E (S:=fun i=>[]::S i) hi hl h1 h2 (fun i=>by simp[hlen i]) ht;refine fU hT (iR.eq_1 _) rfl (hlen _) ?_;have h4:decide (0≤n)=(pa q 0 l.length).1:=by
  cases hq:(pa q 0 l.length).1
  ·rw[hq]at hn;simp at hn;exact decide_eq_false (by omega)
  ·exact decide_eq_true (hn.2 hq)
 simp[h1,h2,h,h4]
theorem QT{g:Nat}{x:α}{b:Bool}{σ σ':SK}(hT:T g=some (yd E.ag E.w))(hlen:σ'.length=σ.length)(h1:fv.strip=fv)(h2:fv.calm=fv)(ht:oU (lim T) false fv [E.val x] ([]::σ)=some (.bool b,[]::σ')):
  oU (lim T) false (.fn g [] [.bw [fv]]) [E.val x] σ=some (.bool (!b),σ'):=by
 rw[rK];have hc:=E.cells x;have hl:=E.load x;have hs:=E.strip x;have hcm:=E.calm x;have key:lim T (.call false g ([]++[E.val x]++[.bw [fv]]) σ)=some (.val (.bool (!b)) σ'):=by
  generalize E.ag=ag at *
  cases ag with
  |true =>
   refine fU hT (yd.eq_1 _) rfl hlen ?_;simp[h1,h2,ht,hc,hl,hs,hcm]
  |false =>
   refine fU hT (yd.eq_2 _) rfl hlen ?_;simp[h1,h2,ht,hc,hl,hs,hcm]
 rw[key];rfl
theorem IF{f g h i:Nat}{p:Nat→Bool}(hf:T f=some (C7 g h))(hg:T g=some (yd E.ag E.w))(hh:T h=some (iR i))(hi:T i=some (um E.ag E.w))
  (hl:l.length≤9223372036854775807) (h1:fv.strip=fv) (h2:fv.calm=fv) (hcl:fv.cells=some [fv]) (hlen:∀i,(S i).length=(S 0).length)
  (ht:∀i x,l[i]?=some x→oU (lim T) false fv [E.val x] ([]::[]::[]::[]::S i)=some (.bool (p i),[]::[]::[]::[]::S (i+1))):
  lim T (.call false f [.aE l.length (l.flatMap E.enc),fv] (S 0))=some (.val (.bool !(pa (fun i => !p i) 0 l.length).1) (S (pa (fun i => !p i) 0 l.length).2)):=by
 have hc:=IL E (S:=fun i=>[]::S i) (fv:=.fn g [] [.bw [fv]]) (q:=fun i => !p i) hh hi hl rfl rfl (fun i=>by simp[hlen i]) (fun i x hx=>QT E hg (by simp[hlen i,hlen (i+1)]) h1 h2 (ht i x hx));refine fU hf (C7.eq_1 _ _) rfl (hlen _) ?_;simp[h1,h2,hc,hcl]
theorem acf{f g h i:Nat}{p:α→Bool}{σ:SK}(hf:T f=some (C7 g h))(hg:T g=some (yd E.ag E.w))(hh:T h=some (iR i))(hi:T i=some (um E.ag E.w))
  (hl:l.length≤9223372036854775807) (h1:fv.strip=fv) (h2:fv.calm=fv) (hcl:fv.cells=some [fv])
  (ht:∀x∈l,oU (lim T) false fv [E.val x] ([]::[]::[]::[]::σ)=some (.bool (p x),[]::[]::[]::[]::σ)):
  lim T (.call false f [.aE l.length (l.flatMap E.enc),fv] σ)=some (.val (.bool (gw l p)) σ):=by
 have h0:=IF E (T:=T) (S:=fun _=>σ) (fv:=fv) (l:=l) (p:=fun i=>match l[i]? with | some x=>p x | none=>true) hf hg hh hi hl h1 h2 hcl (fun _=>rfl) (fun i x hx=>by
  rw[ht x (ai hx)];simp[hx])
 have he:(!(pa (fun i => !(match l[i]? with | some x=>p x | none=>true)) 0 l.length).1)=gw l p:=by
  have h2:=Bt (q:=fun i => !(match l[i]? with | some x=>p x | none=>true)) (m:=l.length) (i:=0);cases hw:gw l p
  ·rw[Bool.not_eq_false'];cases hs:(pa (fun i => !(match l[i]? with | some x=>p x | none=>true)) 0 l.length).1
   ·have h3:=h2.1 hs;have h4:gw l p=true:=jv.2 fun x hx=>by
     obtain⟨j,hj⟩:=gr hx;have:=h3 j (aw.1 hj).1;simpa[hj]using this
    rw[hw]at h4;cases h4
   ·rfl
  ·rw[cX];refine h2.2 fun j hj=>?_
   have hx:=aK hj;have:=jv.1 hw _ (List.getElem_mem hj);simp[hx,this]
 rw[he]at h0;exact h0
end
end Go.Abs
namespace Go.Proofs.YtklfdfnoebnciaaGreatDoor
open List(length_flatMap map_take)
open Go Go.Abs Go.Rock
variable {σ:SK}
theorem abz{r:Rw}:lim T (.call false jV [.agg r.enc] σ)=some (.val (.bool r.alone) σ):=by
 refine au C0 pL.eq_1 rfl ?_;cases hc1:bT r.t 0 400
 ·simp[-length_flatMap,-map_take,jI,Rw.alone,hc1]
 cases hc2:bT r.p 1 10000
 ·simp[-length_flatMap,-map_take,jI,Rw.alone,hc1,hc2]
 cases hc3:bT r.l 0 4000
 ·simp[-length_flatMap,-map_take,jI,Rw.alone,hc1,hc2,hc3]
 cases hc4:bT r.s 0 2000
 ·simp[-length_flatMap,-map_take,jI,Rw.alone,hc1,hc2,hc3,hc4]
 by_cases hc5:r.l<r.v
 rotate_left
 ·simp[-length_flatMap,-map_take,jI,Rw.alone,hc1,hc2,hc3,hc4,hc5]
 simp[-length_flatMap,-map_take,jI,Rw.alone,hc1,hc2,hc3,hc4,hc5]
theorem aj7{l:List Rw}(hl:l.length≤1000000000):lim T (.call false iP [.aE l.length (l.flatMap Rw.enc),.fn jV [] []] σ)=some (.val (.bool (gw l Rw.alone)) σ) :=
 ze (wD 5 Rw.enc (fun _=>rfl)) (f:=iP) (g:=jW) (h:=eL) (i:=fX) (l:=l) (p:=Rw.alone) rfl rfl rfl rfl (by omega) (pw.fn fun x _ σ=>abz) rfl
theorem adv{t l:List Rw}{o:Rw}(hto:t=o::l)(hl:l.length≤100):∀(m i:Nat),i+m=l.length →
  WL T [0,16,17,18] false jS [(0,.aE t.length (t.flatMap Rw.enc)),(16,.aE l.length (l.flatMap Rw.enc)),(17,.int .i64 l.length),(18,.int .i64 i)] σ
   (fun x e σ'=>σ'=σ∧if Ej (t.drop i)then x=.exit 0 else x=.ret∧get e 2=.bool false)
 |0,i,hi=>by
  refine aH jS.eq_1 ?_;have h1:¬i<l.length:=by omega
  have h2:t.drop i=[t[i]'(by subst hto;simp;omega)]:=by
   rw[List.drop_eq_getElem_cons (by subst hto;simp;omega),az (by subst hto;simp;omega)]
  simp[-length_flatMap,-map_take,h1,h2,Ej]
 |m+1,i,hi=>by
  refine aH jS.eq_1 ?_;have h1:i<l.length:=by omega
  have htl:t.length=l.length+1:=by subst hto;rfl
  obtain⟨r,hr⟩:=gE h1;obtain⟨r0,hr0⟩:∃r0,t[i]?=some r0:=gE (by omega);have h2:=cj (f:=Rw.enc) (w:=5) (fun _=>rfl) hr;have h3:=cj (f:=Rw.enc) (w:=5) (fun _=>rfl) hr0;have h4:=ga h1 (by omega);have h6:t.drop (i+1)=r::t.drop (i+2):=dh (by subst hto;simpa using hr);have h5:t.drop i=r0::r::t.drop (i+2):=by rw[dh hr0,h6]
  have ih:=adv hto hl m (i+1) (by omega);rw[h6]at ih;rw[h5,Ej];have hlt:(i:Int)<(t.length:Int):=by omega
  have hlt':i<t.length:=by omega
  by_cases c1:r.t≤r0.t
  ·simp[-length_flatMap,-map_take,h1,hlt,hlt',h2,h3,h4,c1,Rw.H9]
  by_cases c2:r.p≤r0.p
  ·simp[-length_flatMap,-map_take,h1,hlt,hlt',h2,h3,h4,c1,c2,Rw.H9]
  by_cases c3:r.l≤r0.l
  ·simp[-length_flatMap,-map_take,h1,hlt,hlt',h2,h3,h4,c1,c2,c3,Rw.H9]
  by_cases c4:r.s<r0.s
  ·simp[-length_flatMap,-map_take,h1,hlt,hlt',h2,h3,h4,c1,c2,c3,c4,Rw.H9]
  ·simp[-length_flatMap,-map_take,h1,hlt,hlt',h2,h3,h4,c1,c2,c3,c4,Rw.H9];have hc:r0.t<r.t∧r0.p<r.p∧r0.l<r.l∧r0.s≤r.s:=by omega
   exact WL.to ih (by simp) rfl fun x e σ' hh=>by simpa[hc]using hh
theorem B7{t:List Rw}(hl:t.length≤1000000000):lim T (.call false iq [.aE t.length (t.flatMap Rw.enc)] σ)=some (.val (.bool (j1 t)) σ):=by
 refine au BL nK.eq_1 rfl ?_;have ha:=fun σ=>aj7 (σ:=σ) (l:=t) hl
 cases hc1:bT t.length 2 20
 ·simp[-length_flatMap,-map_take,jI,hc1,j1]
 cases hc2:gw t Rw.alone
 ·simp[-length_flatMap,-map_take,jI,hc1,hc2,ha,j1]
 obtain⟨o,l,hto⟩:∃o l,t=o::l:=by
  cases t with
  |nil=>simp[bT]at hc1
  |cons o l=>exact⟨o,l,rfl⟩
 have hi:=aR.1 hc1;have htl:t.length=l.length+1:=by subst hto;rfl
 have h1:(1:Int)≤(t.length:Int):=by omega
 have h2:t.length-1=l.length:=by omega
 have h3:((t.flatMap Rw.enc).drop 5).take (l.length*5)=l.flatMap Rw.enc:=by
  subst hto;have:=Gq (f:=Rw.enc) (w:=5) (fun _=>rfl) l;simpa using this
 simp[-length_flatMap,-map_take,jI,hc1,hc2,ha,h1,h2,h3];refine WL.to (adv (σ:=[]::σ) hto (by omega) l.length 0 (by omega)) (by simp) rfl ?_;rintro x e σ' ⟨rfl,h⟩;simp only[aJ]at h;unfold j1;cases hc3:Ej t
 ·rw[hc3]at h;simp at h;simp[h,hc2,hc1]
 ·rw[hc3]at h;simp at h;subst h;simp[-length_flatMap,-map_take,hc2,hc1]
theorem yX{l:List Rw}(hl:l.length≤1000000000):lim T (.call false je [.aE l.length (l.flatMap Rw.enc)] σ)=some (.val (.int .i64 (if j1 l then 0 else 1)) σ):=by
 refine au Cs oN.eq_1 rfl ?_;cases hc:j1 l<;>simp[-length_flatMap,-map_take,B7 hl,hc]
theorem ME{b:cf}(hx:1≤b.f.x∧b.f.x≤8)(hy:1≤b.f.y∧b.f.y≤8)(hz:1≤b.f.z∧b.f.z≤8):lim T (.call false cV [.agg [.int .i64 b.f.x,.int .i64 b.f.y,.int .i64 b.f.z,.int .i64 b.f.k,.aE b.cc.length (b.cc.flatMap Rw.enc),.int .i64 b.bD,.int .i64 b.lift,.int .i64 b.deep,.aE b.ak.length (b.ak.flatMap bB.enc)]] σ)=some (.val (.int .i64 b.size) σ):=by
 refine au E2 si.eq_1 rfl ?_;obtain⟨h1,h2⟩:=fw.sz hx hy hz;have w1:=fK (n:=b.f.x*b.f.y) (by omega);have w2:=fK (n:=b.f.x*b.f.y*b.f.z) (by omega);simp[-length_flatMap,-map_take,w1,w2,cf.size,fw.size]
def tg(b:Bool):List D:=[.bool b]
def rY(n:Nat)(ak:List bB):Nat→List Bool
 |0=>List.replicate n false
 |i+1=>match ak[i]? with
  |some w=>if bT w.b 0 ((n:Int)-1)=true∧(rY n ak i)[w.b.toNat]?=some false then(rY n ak i).set w.b.toNat true else rY n ak i
  |none=>rY n ak i
theorem yU{n:Nat}{ak:List bB}:∀i,(rY n ak i).length=n
 |0=>by simp[rY]
 |i+1=>by
  simp only[rY];split
  ·split
   ·simp[yU i]
   ·exact yU i
  ·exact yU i
def xP(n:Nat)(ak:List bB)(i:Nat):Bool :=
 match ak[i]? with
 |some w=>bT w.b 0 ((n:Int)-1) && (decide ((rY n ak i)[w.b.toNat]?=some false) && (bT w.h 0 3000 && bT w.m 0 1000000))
 |none=>true
def Eu(n:Nat)(ak:List bB)(σ:SK)(i:Nat):SK:=[.cells 0 ((rY n ak i).flatMap tg),.cells 0 [.sl σ.length 0 0 0 n 1]]::σ
theorem QZ{l:List Bool}{j:Nat}{x:Bool}(h:l[j]?=some x):((l.flatMap tg).drop j)=.bool x::(l.flatMap tg).drop (j+1):=by
 have:=zt (f:=tg) (w:=1) (fun _=>rfl) h;simpa[tg]using this
theorem OS{l:List Bool}{j:Nat}{x:Bool}(h:j<l.length):(l.flatMap tg).take j++(.bool x::(l.flatMap tg).drop (j+1))=(l.set j x).flatMap tg:=by
 have:=NU (f:=tg) (w:=1) (fun _=>rfl) (x:=x) h;simpa[tg]using this
theorem OR{l:List Bool}:(l.flatMap tg).length=l.length:=by
 have:=b9 (f:=tg) (w:=1) (fun _=>rfl) l;omega
theorem Lm{n:Nat}{ak:List bB}(hn:n≤512){i:Nat}{w:bB}(hw:ak[i]?=some w):
  lim T (.call false eW [.agg w.enc,.ref σ.length 1 0 0] ([]::[]::[]::[]::Eu n ak σ i))=some (.val (.bool (xP n ak i)) ([]::[]::[]::[]::Eu n ak σ (i+1))):=by
 refine fU Ci oz.eq_1 rfl (by simp[Eu]) ?_;have hlen:=yU (n:=n) (ak:=ak) i;have w1:=fK (n:=(n:Int)-1) (by omega);have hwp:xP n ak i=(bT w.b 0 ((n:Int)-1) && (decide ((rY n ak i)[w.b.toNat]?=some false) && (bT w.h 0 3000 && bT w.m 0 1000000))):=by simp[xP,hw]
 have hus:rY n ak (i+1)=if bT w.b 0 ((n:Int)-1)=true∧(rY n ak i)[w.b.toNat]?=some false then(rY n ak i).set w.b.toNat true else rY n ak i:=by simp[rY,hw]
 rw[hwp];simp only[Eu];generalize rY n ak (i+1)=us' at *
 generalize rY n ak i=us at *
 cases hc1:bT w.b 0 ((n:Int)-1)
 ·rw[hc1]at hus;simp at hus;subst hus;simp[-length_flatMap,-map_take,dp,w1,hc1]
 ·obtain⟨g1,g2⟩:=aR.1 hc1;have g3:w.b<(n:Int):=by omega
  obtain⟨u,hu⟩:∃u,us[w.b.toNat]?=some u:=⟨_,aK (by omega)⟩;have hat:=QZ hu;have hset:=OS (l:=us) (j:=w.b.toNat) (x:=true) (by omega);have hlen2:(us.flatMap tg).length=n:=by rw[OR,hlen]
  have hle:w.b.toNat+1≤n:=by omega
  rw[hc1,hu]at hus;cases u
  ·simp at hus;subst hus;cases hc2:bT w.h 0 3000<;>
    simp[-length_flatMap,-map_take,dp,w1,hc1,hu,g1,g3,hat,hset,hlen2,hle,hc2]
  ·simp at hus;subst hus;simp[-length_flatMap,-map_take,dp,w1,hc1,hu,g1,g3,hat,hlen2]
theorem K0{n:Nat}{ak:List bB}:∀{i:Nat},i≤ak.length→(∀j,j<i→xP n ak j=true)→∀k:Nat,k<n→(rY n ak i)[k]?=some (((ak.take i).map (·.b)).contains (k:Int))
 |0,_,_,k,hk=>by simp[rY,hk]
 |i+1,hi,h,k,hk=>by
  obtain⟨w,hw⟩:∃w,ak[i]?=some w:=gE (by omega);have ih:=K0 (i:=i) (by omega) (fun j hj=>h j (by omega));have hp:=h i (by omega);simp only[xP,hw,ae,ao]at hp;obtain⟨h1,h2,_⟩:=hp;obtain⟨g1,g2⟩:=aR.1 h1;have ht:ak.take (i+1)=ak.take i++[w]:=by rw[List.take_add_one,hw];rfl
  simp only[rY,hw];rw[if_pos ⟨h1,h2⟩,ht];rw[List.getElem?_set];by_cases hkw:w.b.toNat=k
  ·subst hkw;have hb:w.b=((w.b.toNat:Nat):Int):=by omega
   simp[yU,hk];right;omega
  ·rw[if_neg hkw,ih k hk];congr 1;have:((k:Int) == w.b)=false:=by simp;omega
   simp[List.contains_append,this];intro hh;omega
theorem AZ{n:Nat}{ak:List bB}:∀(m i:Nat),i+m=ak.length→(∀j,j<i→xP n ak j=true) →
  (ub (n:Int) ((ak.take i).map (·.b)) (ak.drop i)=true↔∀j,i≤j→j<ak.length→xP n ak j=true)
 |0,i,hi,h=>by
  rw[az (by omega)];simp only[ub,true_iff];intro j h1 h2;omega
 |m+1,i,hi,h=>by
  obtain⟨w,hw⟩:∃w,ak[i]?=some w:=gE (by omega);have hu:=K0 (n:=n) (i:=i) (by omega) h;have hone:bB.ok (n:Int) ((ak.take i).map (·.b)) w=xP n ak i:=by
   simp only[xP,hw,bB.ok];cases hc:bT w.b 0 ((n:Int)-1)
   ·rfl
   ·obtain⟨g1,g2⟩:=aR.1 hc;have:=hu w.b.toNat (by omega);rw[this,show((w.b.toNat:Nat):Int)=w.b from by omega];cases((ak.take i).map (·.b)).contains w.b<;>simp
  rw[dh hw,ub,hone,ae];have ht:(ak.take i).map (·.b)++[w.b]=(ak.take (i+1)).map (·.b):=by rw[List.take_add_one,hw];simp
  rw[ht];constructor
  ·rintro⟨h1,h2⟩ j hj1 hj2;by_cases hji:j=i
   ·subst hji;exact h1
   ·refine((AZ m (i+1) (by omega) fun j hj=>?_).1 h2) j (by omega) hj2;by_cases hji:j=i
    ·subst hji;exact h1
    ·exact h j (by omega)
  ·intro hh;have h1:=hh i (by omega) (by omega);refine⟨h1,(AZ m (i+1) (by omega) fun j hj=>?_).2 fun j hj1 hj2=>hh j (by omega) hj2⟩;by_cases hji:j=i
   ·subst hji;exact h1
   ·exact h j (by omega)
theorem Ln{n:Nat}{ak:List bB}(hn:n≤512)(hl:ak.length≤1000000000):∃s,
  lim T (.call false jF [.aE ak.length (ak.flatMap bB.enc),.fn eW [] [.ref σ.length 1 0 0]] ([.cells 0 ((List.replicate n false).flatMap tg),.cells 0 [.sl σ.length 0 0 0 n 1]]::σ)) =
   some (.val (.bool (ub (n:Int) [] ak)) (s::σ)):=by
 have h:=IF (wD 3 bB.enc (fun _=>rfl)) (T:=T) (S:=Eu n ak σ) (fv:=.fn eW [] [.ref σ.length 1 0 0]) (l:=ak) (f:=jF) (g:=kN) (h:=eK) (i:=fW) (p:=xP n ak)
  rfl rfl rfl rfl (by omega) rfl rfl rfl (fun i=>by simp[Eu]) (fun i x hx=>by
   rw[rK];have:=Lm (σ:=σ) hn hx;show R.bf (lim T (.call false eW [.agg x.enc,.ref σ.length 1 0 0] _))=_
   rw[this];rfl)
 have he:(!(pa (fun i => !xP n ak i) 0 ak.length).1)=ub (n:Int) [] ak:=by
  have h1:=AZ (n:=n) (ak:=ak) ak.length 0 (by omega) (by simp);have h2:=Bt (q:=fun i => !xP n ak i) (m:=ak.length) (i:=0);simp only[List.take_zero,bS,aJ]at h1;cases hw:ub (n:Int) [] ak
  ·rw[Bool.not_eq_false'];cases hs:(pa (fun i => !xP n ak i) 0 ak.length).1
   ·have h3:=h2.1 hs;have h4:=h1.2 fun j _ hj=>by have:=h3 j hj;simpa using this
    rw[hw]at h4;cases h4
   ·rfl
  ·rw[cX];refine h2.2 fun j hj=>?_
   have:=h1.1 hw j (by omega) hj;simpa using this
 rw[he]at h;refine⟨[.cells 0 ((rY n ak (pa (fun i => !xP n ak i) 0 ak.length).2).flatMap tg),.cells 0 [.sl σ.length 0 0 0 n 1]],?_⟩;exact h
theorem Ah{b:cf}(h1:b.cc.length≤1000000000)(h2:b.ak.length≤1000000000):lim T (.call false iY [.agg [.int .i64 b.f.x,.int .i64 b.f.y,.int .i64 b.f.z,.int .i64 b.f.k,.aE b.cc.length (b.cc.flatMap Rw.enc),.int .i64 b.bD,.int .i64 b.lift,.int .i64 b.deep,.aE b.ak.length (b.ak.flatMap bB.enc)]] σ)=some (.val (.bool b.valid) σ):=by
 refine au DS ri.eq_1 rfl ?_;have hT:=fun σ=>yX (σ:=σ) (l:=b.cc) h1
 unfold cf.valid cf.ok1;cases hc1:b.f.valid
 ·simp[-length_flatMap,-map_take,jj,fw.shape,hc1]
 by_cases hc2:b.f.k<4
 ·simp[-length_flatMap,-map_take,jj,fw.shape,hc1,hc2,show ¬4≤b.f.k by omega]
 have hc2':4≤b.f.k:=by omega
 cases hc3:j1 b.cc
 ·simp[-length_flatMap,-map_take,jj,fw.shape,hc1,hc2,hT,hc3]
 cases hc4:bT b.bD 1 100000
 ·simp[-length_flatMap,-map_take,jj,fw.shape,hc1,hc2,hT,hc3,dp,hc4]
 cases hc5:bT b.lift 0 1000
 ·simp[-length_flatMap,-map_take,jj,fw.shape,hc1,hc2,hT,hc3,dp,hc4,hc5]
 cases hc6:bT b.deep 0 3000
 ·simp[-length_flatMap,-map_take,jj,fw.shape,hc1,hc2,hT,hc3,dp,hc4,hc5,hc6]
 by_cases hc7:8<b.ak.length
 ·simp[-length_flatMap,-map_take,jj,fw.shape,hc1,hc2,hT,hc3,dp,hc4,hc5,hc6,hc7,show ¬b.ak.length≤8 by omega,show(8:Int)<b.ak.length by omega]
 obtain⟨g1,g2,g3,g4,g5⟩:=fw.sX.1 hc1;obtain⟨_,g6⟩:=fw.sz g1 g2 g3;have hsz:=fun σ=>ME (σ:=σ) (b:=b) g1 g2 g3
 have hs:b.size=((b.n:Nat):Int):=by unfold cf.n cf.size fw.size;omega
 have hn:b.n≤512:=by unfold cf.n cf.size fw.size;omega
 have hnil:((List.range b.n).flatMap fun _=>[D.bool false])=(List.replicate b.n false).flatMap tg:=by
  have:∀n,((List.range n).flatMap fun _=>[D.bool false])=(List.replicate n false).flatMap tg:=by
   intro n;induction n with
   |zero=>rfl
   |succ n ih=>rw[List.range_succ,eh,ih,List.replicate_succ'];simp[tg]
  exact this _
 obtain⟨s,hall⟩:=Ln (σ:=σ) (n:=b.n) (ak:=b.ak) hn h2;rw[← hs]at hall;have hroom:(b.n:Int)≤70368744177664:=by omega
 rw[hs]at hsz;simp[-length_flatMap,-map_take,jj,fw.shape,hc1,hc2,hT,hc3,dp,hc4,hc5,hc6,show ¬(8:Int)<b.ak.length by omega,show b.ak.length≤8 by omega,hsz,room,hroom,hnil,hall,hc2']
theorem aad{l:List Int}{i n:Nat}:((l.flatMap aU).drop i).take n=((l.drop i).take n).flatMap aU:=by
 simp only[show aU=fun n=>[D.int .i64 n]from rfl,J9,← List.map_drop,← List.map_take]
theorem pS{l:List Int}{j:Nat}{x:Int}(h:l[j]?=some x):((l.flatMap aU).drop j).take 1=[.int .i64 x]:=by
 have:=cj (f:=aU) (w:=1) (fun _=>rfl) h;simpa using this
theorem cq(l:List Rw):D.bu (l.flatMap Rw.enc)=true:=fZ (fun x=>by simp) l
theorem bg(l:List bB):D.bu (l.flatMap bB.enc)=true:=fZ (fun x=>by simp) l
theorem bj(l:List Int):D.bu (l.flatMap aU)=true:=fZ (fun x=>by simp) l
theorem F7(l:List Rock.aG):D.bu (l.flatMap aG.enc)=true:=fZ (fun x=>by simp) l
structure Bv(b:cf):Prop where
 x:1≤b.f.x∧b.f.x≤8
 y:1≤b.f.y∧b.f.y≤8
 z:1≤b.f.z∧b.f.z≤8
 k:4≤b.f.k∧b.f.k≤6
 sz:b.f.size=((b.n:Nat):Int)
 n:1≤b.n∧b.n≤64
 cc:j1 b.cc=true
 bD:1≤b.bD∧b.bD≤100000
 lift:0≤b.lift∧b.lift≤1000
 deep:0≤b.deep∧b.deep≤3000
 ak:b.ak.length≤8
 ok:ub b.size [] b.ak=true
theorem Bv.of{b:cf}(h:b.valid=true):Bv b:=by
 simp only[cf.valid,cf.ok1,ae,ao]at h;obtain⟨⟨h1,h2,h3,h4,h5,h6,h7⟩,h8⟩:=h;obtain⟨g1,g2,g3,g4,g5⟩:=fw.sX.1 h1;obtain⟨_,g6⟩:=fw.sz g1 g2 g3;refine⟨g1,g2,g3,⟨h2,g5.2⟩,?_,?_,h3,aR.1 h4,aR.1 h5,aR.1 h6,h7,h8⟩
 ·unfold cf.n cf.size fw.size;omega
 ·unfold cf.n cf.size;unfold fw.size at g4 ⊢;omega
theorem Bv.fv{b:cf}(h:Bv b):b.f.valid=true:=fw.sX.2 ⟨h.x,h.y,h.z,by have:=h.sz;have:=h.n;omega,by have:=h.k;omega⟩
structure Mv(b:cf)(m:cF):Prop where
 bv:Bv b
 len:(m.bf.length:Int)=b.f.k*b.f.size
theorem Mv.le{b:cf}{m:cF}(h:Mv b m):4*b.n≤m.bf.length∧m.bf.length≤384:=by
 have h1:=h.bv.k;have h2:=h.bv.sz;have h3:=h.bv.n;have h4:=h.len;have h5:=(bK h1.1 (by omega:(0:Int)≤b.f.size));have h6:=N0 (a:=b.f.k) (b:=b.f.size) (A:=6) (B:=64) (by omega) h1.2 (by omega) (by omega);omega
theorem yu{b:cf}(h:Bv b):lim T (.call false cV [.agg [.int .i64 b.f.x,.int .i64 b.f.y,.int .i64 b.f.z,.int .i64 b.f.k,.aE b.cc.length (b.cc.flatMap Rw.enc),.int .i64 b.bD,.int .i64 b.lift,.int .i64 b.deep,.aE b.ak.length (b.ak.flatMap bB.enc)]] σ)=some (.val (.int .i64 b.n) σ):=by
 have:=ME (σ:=σ) (b:=b) h.x h.y h.z;rw[show b.size=((b.n:Nat):Int)from h.sz]at this;exact this
theorem Fw{b:cf}{m:cF}(h:Mv b m){k:Nat}(hk:k<4):lim T (.call false dM [.agg [.int .i64 b.f.x,.int .i64 b.f.y,.int .i64 b.f.z,.int .i64 b.f.k,.aE b.cc.length (b.cc.flatMap Rw.enc),.int .i64 b.bD,.int .i64 b.lift,.int .i64 b.deep,.aE b.ak.length (b.ak.flatMap bB.enc),.str m.name,.aE m.bf.length (m.bf.flatMap aU)],.int .i64 k] σ)=some (.val (.aE b.n ((vh b m k).flatMap aU)) σ):=by
 refine au Co oI.eq_1 rfl ?_;obtain⟨h1,h2⟩:=h.le;have h3:=h.bv.n;have hs:=fun σ=>yu (σ:=σ) h.bv
 have e1:(k:Int)*(b.n:Int)=((k*b.n:Nat):Int):=by push_cast;rfl
 have e2:((k:Int)+1)*(b.n:Int)=(((k+1)*b.n:Nat):Int):=by push_cast;rfl
 have b1:(k+1)*b.n≤m.bf.length:=jl (cH _ (by omega:k+1≤4)) h1;have b2:(k+1)*b.n=k*b.n+b.n:=ew _ _;have w1:=fK (n:=(k:Int)*b.n) (by rw[e1];omega);have w2:=fK (n:=(k:Int)+1) (by omega);have w3:=fK (n:=((k:Int)+1)*b.n) (by rw[e2];omega);have e3:(k+1)*b.n-k*b.n=b.n:=by omega
 have hsub:=aad (l:=m.bf) (i:=k*b.n) (n:=b.n);have hle:(k:Int)*b.n≤((k:Int)+1)*b.n:=by rw[e1,e2];omega
 simp[-length_flatMap,-map_take,hs,w1,w2,w3];rw[e1,e2];have c1:(0:Int)≤((k*b.n:Nat):Int):=by omega
 have c2:((k*b.n:Nat):Int)≤(((k+1)*b.n:Nat):Int):=by omega
 have c3:(((k+1)*b.n:Nat):Int)≤(m.bf.length:Int):=by omega
 have c4:(0:Int)≤(((k+1)*b.n:Nat):Int):=by omega
 simp only[c1,c2,c3,c4,and_self,if_true,Int.toNat_natCast,Option.bind_some,aS,C5,e3,hsub];simp[-length_flatMap,-map_take,vh,hle,e3,hsub,bj]
theorem HV{b:cf}{m:cF}(h:Mv b m){k:Nat}(hk:k<4):(vh b m k).length=b.n:=by
 obtain⟨h1,h2⟩:=h.le;have b1:(k+1)*b.n≤m.bf.length:=jl (cH _ (by omega:k+1≤4)) h1;have b2:(k+1)*b.n=k*b.n+b.n:=ew _ _;simp[vh];omega
theorem wL{b:cf}{m:cF}(h:Mv b m){k i:Nat}(hk:k<4)(hi:i<b.n):(vh b m k)[i]?=some (uE b m k i):=by
 obtain⟨h1,h2⟩:=h.le;have b1:(k+1)*b.n≤m.bf.length:=jl (cH _ (by omega:k+1≤4)) h1;have b2:(k+1)*b.n=k*b.n+b.n:=ew _ _;have h3:k*b.n+i<m.bf.length:=by omega
 simp only[vh,uE,eP,iQ,if_pos hi,aK h3,gv]
theorem Qe{b:cf}{m:cF}(h:Mv b m){i:Nat}(hi:i<b.n):lim T (.call false eZ [.agg [.int .i64 b.f.x,.int .i64 b.f.y,.int .i64 b.f.z,.int .i64 b.f.k,.aE b.cc.length (b.cc.flatMap Rw.enc),.int .i64 b.bD,.int .i64 b.lift,.int .i64 b.deep,.aE b.ak.length (b.ak.flatMap bB.enc),.str m.name,.aE m.bf.length (m.bf.flatMap aU)],.int .i64 i] σ)=some (.val (.int .i64 (hold b m i)) σ):=by
 refine au Cn oH.eq_1 rfl ?_;have hk:=fun σ=>Fw (σ:=σ) h (k:=0) (by omega)
 have ha:=pS (wL h (k:=0) (by omega) hi);simp only[Int.ofNat_zero]at hk;simp[-length_flatMap,-map_take,hk,hi,ha,hold]
theorem Ql{b:cf}{m:cF}(h:Mv b m){i:Nat}(hi:i<b.n):lim T (.call false jd [.agg [.int .i64 b.f.x,.int .i64 b.f.y,.int .i64 b.f.z,.int .i64 b.f.k,.aE b.cc.length (b.cc.flatMap Rw.enc),.int .i64 b.bD,.int .i64 b.lift,.int .i64 b.deep,.aE b.ak.length (b.ak.flatMap bB.enc),.str m.name,.aE m.bf.length (m.bf.flatMap aU)],.int .i64 i] σ)=some (.val (.int .i64 (Hk b m i)) σ):=by
 refine au Cp oJ.eq_1 rfl ?_;have hk:=fun σ=>Fw (σ:=σ) h (k:=1) (by omega)
 have ha:=pS (wL h (k:=1) (by omega) hi);simp at hk;simp[-length_flatMap,-map_take,hk,hi,ha,Hk]
theorem akd{b:cf}{m:cF}(h:Mv b m){i:Nat}(hi:i<b.n):lim T (.call false lG [.agg [.int .i64 b.f.x,.int .i64 b.f.y,.int .i64 b.f.z,.int .i64 b.f.k,.aE b.cc.length (b.cc.flatMap Rw.enc),.int .i64 b.bD,.int .i64 b.lift,.int .i64 b.deep,.aE b.ak.length (b.ak.flatMap bB.enc),.str m.name,.aE m.bf.length (m.bf.flatMap aU)],.int .i64 i] σ)=some (.val (.int .i64 (Hr b m i)) σ):=by
 refine au Cr oL.eq_1 rfl ?_;have hk:=fun σ=>Fw (σ:=σ) h (k:=2) (by omega)
 have ha:=pS (wL h (k:=2) (by omega) hi);simp at hk;simp[-length_flatMap,-map_take,hk,hi,ha,Hr]
theorem ajZ{b:cf}{m:cF}(h:Mv b m){i:Nat}(hi:i<b.n):lim T (.call false jb [.agg [.int .i64 b.f.x,.int .i64 b.f.y,.int .i64 b.f.z,.int .i64 b.f.k,.aE b.cc.length (b.cc.flatMap Rw.enc),.int .i64 b.bD,.int .i64 b.lift,.int .i64 b.deep,.aE b.ak.length (b.ak.flatMap bB.enc),.str m.name,.aE m.bf.length (m.bf.flatMap aU)],.int .i64 i] σ)=some (.val (.int .i64 (feed b m i)) σ):=by
 refine au Cl oF.eq_1 rfl ?_;have hk:=fun σ=>Fw (σ:=σ) h (k:=3) (by omega)
 have ha:=pS (wL h (k:=3) (by omega) hi);simp at hk;simp[-length_flatMap,-map_take,hk,hi,ha,feed]
theorem abE{lo hi n:Int}:lim T (.call false dF [.int .i64 n,.ref σ.length 0 0 0] ([]::[]::[]::[]::[.cells 0 [.int .i64 lo,.int .i64 hi]]::σ))=some (.val (.bool (bT n lo hi)) ([]::[]::[]::[]::[.cells 0 [.int .i64 lo,.int .i64 hi]]::σ)):=by
 refine au Ap mA.eq_1 rfl ?_;simp[-length_flatMap,-map_take,dp]
theorem OE{b:cf}{m:cF}(h:Mv b m){k:Nat}(hk:k<4){lo hi:Int}:lim T (.call false jE [.aE b.n ((vh b m k).flatMap aU),.fn dF [] [.ref σ.length 0 0 0]] ([.cells 0 [.int .i64 lo,.int .i64 hi]]::σ)) =
  some (.val (.bool (gw (vh b m k) fun n=>bT n lo hi)) ([.cells 0 [.int .i64 lo,.int .i64 hi]]::σ)):=by
 have hl:=HV h hk;have hn:=h.bv.n;have:=acf (IP .i64) (T:=T) (f:=jE) (g:=nU) (h:=bJ) (i:=dO) (l:=vh b m k) (p:=fun n=>bT n lo hi) (fv:=.fn dF [] [.ref σ.length 0 0 0]) (σ:=[.cells 0 [.int .i64 lo,.int .i64 hi]]::σ)
  rfl rfl rfl rfl (by omega) rfl rfl rfl (fun x _=>by
   rw[rK];have:=abE (σ:=σ) (lo:=lo) (hi:=hi) (n:=x);show R.bf (lim T (.call false dF [.int .i64 x,.ref σ.length 0 0 0] _))=_
   rw[this];rfl)
 rw[hl]at this;exact this
def Jd:Nat→Int×Int
 |0=>(1000,100000)
 |1=>(0,1000)
 |2=>(0,3000)
 |_=>(0,1000)
def yG(b:cf)(m:cF)(i:Nat):Nat→Bool
 |0=>true
 |n+1=>gw (vh b m i) (fun x=>bT x (Jd i).1 (Jd i).2) && yG b m (i+1) n
theorem QJ{b:cf}{m:cF}(h:Mv b m):∀(n i:Nat),i+n=4 →
  WL T [1,17,18] true lU [(1,.bw [.int .i64 b.f.x,.int .i64 b.f.y,.int .i64 b.f.z,.int .i64 b.f.k,.aE b.cc.length (b.cc.flatMap Rw.enc),.int .i64 b.bD,.int .i64 b.lift,.int .i64 b.deep,.aE b.ak.length (b.ak.flatMap bB.enc),.str m.name,.aE m.bf.length (m.bf.flatMap aU)]),(17,.agg [.int .i64 1000,.int .i64 100000,.int .i64 0,.int .i64 1000,.int .i64 0,.int .i64 3000,.int .i64 0,.int .i64 1000]),(18,.int .i64 i)] σ
   (fun x e σ'=>σ'=σ∧if yG b m i n=true then x=.exit 0 else x=.ret∧get e 2=.bool false)
 |0,i,hi=>by
  refine C6 lU.eq_1 ?_;obtain rfl:i=4:=by omega
  simp[-length_flatMap,-map_take,yG,cq,bg,bj]
 |n+1,i,hi=>by
  refine C6 lU.eq_1 ?_;have hk:i<4:=by omega
  have hK:=fun σ=>Fw (σ:=σ) h hk
  have ih:=QJ h n (i+1) (by omega);have hA:=OE (σ:=σ) h hk (lo:=(Jd i).1) (hi:=(Jd i).2);simp only[yG];rcases Bool.eq_false_or_eq_true (gw (vh b m i) (fun x=>bT x (Jd i).1 (Jd i).2))with hc | hc
  ·rw[hc]at hA;obtain rfl | rfl | rfl | rfl:i=0∨i=1∨i=2∨i=3:=by omega
   all_goals
    simp only[Jd]at hA hc ⊢
    try simp at hK
    simp[-length_flatMap,-map_take,hK,hA,hc,cq,bg,bj];exact WL.to ih (by simp[cq,bg,bj]) (by simp[cq,bg,bj]) fun x e σ' hh=>by simpa[hc]using hh
  ·rw[hc]at hA;obtain rfl | rfl | rfl | rfl:i=0∨i=1∨i=2∨i=3:=by omega
   all_goals
    simp only[Jd]at hA hc ⊢
    try simp at hK
    simp[-length_flatMap,-map_take,hK,hA,hc,cq,bg,bj]
theorem Mv.of{b:cf}{m:cF}(h:Bv b)(hc:gz b.f [m]=0):Mv b m:=by
 refine⟨h,?_⟩;simp only[gz,h.fv,if_true,fw.an]at hc;have h1:bT (([m]:List cF).length:Nat) 1 40=true:=by simp[bT]
 rw[if_pos h1]at hc;simp only[fw.each]at hc;split at hc
 ·rename_i hm;unfold fw.model at hm;split at hm
  ·split at hm
   ·rename_i hh;exact hh.1
   ·cases hm
  ·cases hm
 ·rename_i hm;exact absurd hc hm
theorem Lg{b:cf}{m:cF}(h:Bv b)(hn:m.name.length≤1000000000)(hl:m.bf.length≤1000000000):lim T (.call false jc [.agg [.int .i64 b.f.x,.int .i64 b.f.y,.int .i64 b.f.z,.int .i64 b.f.k,.aE b.cc.length (b.cc.flatMap Rw.enc),.int .i64 b.bD,.int .i64 b.lift,.int .i64 b.deep,.aE b.ak.length (b.ak.flatMap bB.enc),.str m.name,.aE m.bf.length (m.bf.flatMap aU)]] σ)=some (.val (.bool (fits b m)) σ):=by
 refine au Cm oG.eq_1 rfl ?_;have hC:=fun σ=>BU (σ:=σ) (f:=b.f) (l:=[m]) (by simpa using⟨hn,hl⟩) (by simp)
 simp at hC;by_cases hc:gz b.f [m]=0
 ·have hm:=Mv.of h hc;simp[-length_flatMap,-map_take,hC,hc];refine WL.to (QJ (σ:=[]::σ) hm 4 0 (by omega)) (by simp) rfl ?_;rintro x e σ' ⟨rfl,hh⟩;have he:yG b m 0 4=fits b m:=by
   simp[yG,fits,hc,Jd]
  rw[he]at hh;cases hf:fits b m
  ·rw[hf]at hh;simp at hh;simp[hh]
  ·rw[hf]at hh;simp at hh;subst hh;simp[-length_flatMap,-map_take]
 ·simp[-length_flatMap,-map_take,hC,hc,fits]
theorem adl{b:cf}{m:cF}(h1:b.cc.length≤1000000000)(h2:b.ak.length≤1000000000)(hn:m.name.length≤1000000000)(hl:m.bf.length≤1000000000)(hb:Bd b m=true):
  lim T (.call false sF [.agg [.int .i64 b.f.x,.int .i64 b.f.y,.int .i64 b.f.z,.int .i64 b.f.k,.aE b.cc.length (b.cc.flatMap Rw.enc),.int .i64 b.bD,.int .i64 b.lift,.int .i64 b.deep,.aE b.ak.length (b.ak.flatMap bB.enc)],.agg [.str m.name,.aE m.bf.length (m.bf.flatMap aU)]] σ)=some (.val (.dQ [.agg [.int .i64 b.f.x,.int .i64 b.f.y,.int .i64 b.f.z,.int .i64 b.f.k,.aE b.cc.length (b.cc.flatMap Rw.enc),.int .i64 b.bD,.int .i64 b.lift,.int .i64 b.deep,.aE b.ak.length (b.ak.flatMap bB.enc),.str m.name,.aE m.bf.length (m.bf.flatMap aU)],.int .i64 0]) σ):=by
 refine au FQ wJ.eq_1 rfl ?_;simp only[Bd,ae]at hb;have hf:=fun σ=>Lg (σ:=σ) (Bv.of hb.1) hn hl
 simp[-length_flatMap,-map_take,Ah h1 h2,hb.1,hf,hb.2,cq,bg,bj]
theorem MC{b:cf}{m:cF}(h1:b.cc.length≤1000000000)(h2:b.ak.length≤1000000000)(hn:m.name.length≤1000000000)(hl:m.bf.length≤1000000000)(hb:Bd b m=false):∃d,
  lim T (.call false sF [.agg [.int .i64 b.f.x,.int .i64 b.f.y,.int .i64 b.f.z,.int .i64 b.f.k,.aE b.cc.length (b.cc.flatMap Rw.enc),.int .i64 b.bD,.int .i64 b.lift,.int .i64 b.deep,.aE b.ak.length (b.ak.flatMap bB.enc)],.agg [.str m.name,.aE m.bf.length (m.bf.flatMap aU)]] σ)=some (.val (.dQ [.agg d,.int .i64 1]) σ)∧d.length=11∧D.bu d=true:=by
 refine⟨[(.int .i64 0),(.int .i64 0),(.int .i64 0),(.int .i64 0),.aI,(.int .i64 0),(.int .i64 0),(.int .i64 0),.aI,(.str []),.aI],?_,rfl,by simp⟩;refine au FQ wJ.eq_1 rfl ?_;cases hc:b.valid
 ·simp[-length_flatMap,-map_take,Ah h1 h2,hc]
 ·have hf:=fun σ=>Lg (σ:=σ) (Bv.of hc) hn hl
  have hb':fits b m=false:=by simpa[Bd,hc]using hb
  simp[-length_flatMap,-map_take,Ah h1 h2,hc,hf,hb']
theorem abQ{n:Int}:lim T (.call false iX [.int .i64 n] σ)=some (.val (.bool (bT n (-100000) 100000)) σ):=by
 refine au Cg ov.eq_1 rfl ?_;simp[-length_flatMap,-map_take,dp]
theorem OJ{l:List Int}{p:Int→Bool}{fv:D}(hl:l.length≤1000000000)(ht:pw T fv (fun n => .int .i64 n) p l)(hc:fv.cells=some [fv]):
  lim T (.call false jE [.aE l.length (l.flatMap aU),fv] σ)=some (.val (.bool (gw l p)) σ) :=
 ze (IP .i64) (f:=jE) (g:=nU) (h:=bJ) (i:=dO) (l:=l) (p:=p) (fv:=fv) rfl rfl rfl rfl (by omega) ht hc
theorem abR{b:cf}{l:List Int}(hl:l.length≤1000000000):lim T (.call false nT [.agg [.int .i64 b.f.x,.int .i64 b.f.y,.int .i64 b.f.z,.int .i64 b.f.k,.aE b.cc.length (b.cc.flatMap Rw.enc),.int .i64 b.bD,.int .i64 b.lift,.int .i64 b.deep,.aE b.ak.length (b.ak.flatMap bB.enc)],.aE l.length (l.flatMap aU)] σ)=some (.val (.int .i64 (zB b l)) σ):=by
 refine au DR rh.eq_1 rfl ?_;have ha:=fun σ=>OJ (σ:=σ) (l:=l) (p:=fun n=>bT n (-100000) 100000) (fv:=.fn iX [] []) hl (pw.fn fun x _ σ=>abQ) rfl
 unfold zB;by_cases hc1:l.length=b.ak.length
 ·rw[← hc1];cases hc2:gw l (fun n=>bT n (-100000) 100000)<;>simp[-length_flatMap,-map_take,hc1,ha,hc2,hc1 ▸ ha]
 ·simp[-length_flatMap,-map_take,hc1,show ¬(l.length:Int)=b.ak.length by omega]
def E9(l:List Int):List D:=[.aE l.length (l.flatMap aU)]
theorem QK{b:cf}{av:List (List Int)}(hl:av.length≤1000000000)(hs:∀l∈av,l.length≤1000000000):∀(m i:Nat),i+m=av.length →
  WL T [2,11,12,13] false nB [(2,.bw [.int .i64 b.f.x,.int .i64 b.f.y,.int .i64 b.f.z,.int .i64 b.f.k,.aE b.cc.length (b.cc.flatMap Rw.enc),.int .i64 b.bD,.int .i64 b.lift,.int .i64 b.deep,.aE b.ak.length (b.ak.flatMap bB.enc)]),(11,.aE av.length (av.flatMap E9)),(12,.int .i64 av.length),(13,.int .i64 i)] σ
   (fun x e σ'=>σ'=σ∧if cN (zB b) (av.drop i)=0 then x=.exit 0 else x=.ret∧get e 4=.int .i64 (cN (zB b) (av.drop i)))
 |0,i,hi=>by
  refine aH nB.eq_1 ?_;have h1:¬i<av.length:=by omega
  have h2:av.drop i=[]:=az (by omega);simp[-length_flatMap,-map_take,h1,h2,cN]
 |m+1,i,hi=>by
  refine aH nB.eq_1 ?_;have h1:i<av.length:=by omega
  obtain⟨l,hx⟩:=gE h1;have h2:=cj (f:=E9) (w:=1) (fun _=>rfl) hx;simp only[E9,iw]at h2;have h4:=ga h1 (by omega);have h5:=dh hx;have hC:=fun σ=>abR (σ:=σ) (b:=b) (l:=l) (hs l (ai hx))
  rw[h5,cN];have ih:=QK (b:=b) hl hs m (i+1) (by omega);by_cases hc:zB b l=0
  ·simp[-length_flatMap,-map_take,h1,h2,h4,hC,hc,E9];exact WL.to ih (by simp[E9]) rfl fun x e σ' hh=>by simpa[hc]using hh
  ·simp[-length_flatMap,-map_take,h1,h2,h4,hC,hc,E9]
theorem Qp{b:cf}{av:List (List Int)}(hl:av.length≤1000000000)(hs:∀l∈av,l.length≤1000000000):
  lim T (.call false mh [.agg [.int .i64 b.f.x,.int .i64 b.f.y,.int .i64 b.f.z,.int .i64 b.f.k,.aE b.cc.length (b.cc.flatMap Rw.enc),.int .i64 b.bD,.int .i64 b.lift,.int .i64 b.deep,.aE b.ak.length (b.ak.flatMap bB.enc)],.aE av.length (av.flatMap E9)] σ)=some (.val (.int .i64 (vK b av)) σ):=by
 refine au E1 sh.eq_1 rfl ?_;unfold vK;by_cases hc:200<av.length
 ·simp[-length_flatMap,-map_take,hc,show(200:Int)<av.length by omega]
 ·simp[-length_flatMap,-map_take,hc,show ¬(200:Int)<av.length by omega];refine WL.to (QK (σ:=[]::σ) (b:=b) hl hs av.length 0 (by omega)) (by simp) rfl ?_;rintro x e σ' ⟨rfl,h⟩;simp only[aJ]at h;by_cases hc2:cN (zB b) av=0
  ·rw[if_pos hc2]at h;subst h;simp[-length_flatMap,-map_take,hc2,show av.length≤200 by omega]
  ·rw[if_neg hc2]at h;obtain⟨rfl,h⟩:=h;simp[h,show ¬200<av.length by omega]
structure Fv(b:cf)(m:cF):Prop extends Mv b m where
 hold:∀i,i<b.n→1000≤Rock.hold b m i∧Rock.hold b m i≤100000
 Hk:∀i,i<b.n→0≤Rock.Hk b m i∧Rock.Hk b m i≤1000
 Hr:∀i,i<b.n→0≤Rock.Hr b m i∧Rock.Hr b m i≤3000
 feed:∀i,i<b.n→0≤Rock.feed b m i∧Rock.feed b m i≤1000
theorem Fv.of{b:cf}{m:cF}(h:Bd b m=true):Fv b m:=by
 simp only[Bd,fits,ae,ao]at h;obtain⟨h1,h2,h3,h4,h5,h6⟩:=h;have hm:=Mv.of (Bv.of h1) h2;have key:∀{k:Nat} {lo hi:Int},k<4→gw (vh b m k) (fun n=>bT n lo hi)=true→∀i,i<b.n→lo≤uE b m k i∧uE b m k i≤hi:=by
  intro k lo hi hk ha i hi';exact aR.1 (jv.1 ha _ (ai (wL hm hk hi')))
 exact⟨hm,key (by omega) h3,key (by omega) h4,key (by omega) h5,key (by omega) h6⟩
theorem AY{b:cf}(h:Bv b){i:Nat}(hi:i<b.n):0≤weight b i∧weight b i≤64000:=by
 have hl:=h.lift;have hn:=h.n;have hle:i / (b.f.x.toNat*b.f.y.toNat)≤i:=Nat.div_le_self _ _;have hq:=Int.natCast_nonneg (i / (b.f.x.toNat*b.f.y.toNat));have hle2:((i / (b.f.x.toNat*b.f.y.toNat):Nat):Int)≤64:=by
  have:i / (b.f.x.toNat*b.f.y.toNat)≤64:=by omega
  exact Int.ofNat_le.2 this
 unfold weight;exact n0 (A:=64) (B:=1000) hq hle2 hl.1 hl.2
theorem FA{b:cf}{m:cF}(h:Bv b){i:Nat}(hi:i<b.n):lim T (.call false fa [.agg [.int .i64 b.f.x,.int .i64 b.f.y,.int .i64 b.f.z,.int .i64 b.f.k,.aE b.cc.length (b.cc.flatMap Rw.enc),.int .i64 b.bD,.int .i64 b.lift,.int .i64 b.deep,.aE b.ak.length (b.ak.flatMap bB.enc),.str m.name,.aE m.bf.length (m.bf.flatMap aU)],.int .i64 i] σ)=some (.val (.int .i64 (weight b i)) σ):=by
 refine au Aq mC.eq_1 rfl ?_;have hx:=h.x;have hy:=h.y;have hn:=h.n;obtain⟨s1,_⟩:=fw.sz h.x h.y h.z;have w1:=fK (n:=b.f.x*b.f.y) (by omega);have e1:b.f.x*b.f.y=((b.f.x.toNat*b.f.y.toNat:Nat):Int):=by push_cast;rw[fy (by omega),fy (by omega)]
 have e2:(i:Int) / (b.f.x*b.f.y)=((i / (b.f.x.toNat*b.f.y.toNat):Nat):Int):=by
  rw[e1];rfl
 have hle:i / (b.f.x.toNat*b.f.y.toNat)≤i:=Nat.div_le_self _ _;have hw:=AY h hi;have hq:(0:Int)≤(i:Int) / (b.f.x*b.f.y):=by rw[e2];exact Int.natCast_nonneg _
 have hq2:(i:Int) / (b.f.x*b.f.y)≤64:=by
  rw[e2];have:i / (b.f.x.toNat*b.f.y.toNat)≤64:=by omega
  exact Int.ofNat_le.2 this
 have w2:=fK (n:=(i:Int) / (b.f.x*b.f.y)) (by omega);have w3:=fK (n:=weight b i) (by omega);have hne:¬b.f.x*b.f.y=0:=by omega
 have hnx:¬b.f.x=0:=by omega
 have hny:¬b.f.y=0:=by omega
 have e3:(i:Int) / (b.f.x*b.f.y)*b.lift=weight b i:=by rw[e2];rfl
 simp[-length_flatMap,-map_take,w1,w2,hne,hnx,hny,e3,w3]
theorem ajX{n d:Int}(hn : -200000000000≤n∧n≤200000000000)(hd:1≤d∧d≤100000):lim T (.call false vg [.int .i64 n,.int .i64 d] σ)=some (.val (.int .i64 (down n d)) σ):=by
 refine au JP xw.eq_1 rfl ?_;have h1:=Int.mul_tdiv_add_tmod n d;have h2:=Int.tmod_lt_of_pos n (show 0<d by omega);have h3:=Int.lt_tmod_of_pos n (show 0<d by omega);unfold down;generalize hq:n.tdiv d=q at *
 generalize n.tmod d=r at *
 have h4:d*q=q*d:=Int.mul_comm _ _;have hb : -200000100001≤q∧q≤200000100001:=by
  rcases mj 0 q with h | h
  ·have:=Int.mul_le_mul_of_nonneg_left hd.1 h;omega
  ·have:=Int.mul_le_mul_of_nonpos_left h hd.1;omega
 have w1:=fK (n:=q) (by omega);have w2:=fK (n:=q*d) (by omega);have w3:=fK (n:=q-1) (by omega);have hne:¬d=0:=by omega
 have key:n / d=if n<q*d then q-1 else q:=by
  split
  ·rename_i hc;refine((Int.ediv_emod_unique (r:=r+d) (show 0<d by omega)).2 ⟨?_,?_,?_⟩).1
   ·rw[Int.mul_sub];omega
   ·omega
   ·omega
  ·rename_i hc;refine((Int.ediv_emod_unique (r:=r) (show 0<d by omega)).2 ⟨?_,?_,?_⟩).1<;>omega
 rw[key];by_cases hc:n<q*d<;>simp[-length_flatMap,-map_take,hq,w1,w2,w3,hne,hc]
theorem zU{α:Type}{f:α→List D}{w n:Nat}(hn:1<n)(hw:∀x,(f x).length=w)(hc:∀x,D.bu (f x)=true){l:List α}{j v:Nat}{bs:List Abs.aG}(hσ:σ≠[])(hj:bs[j]?=some (.cells v (l.flatMap f))):
  ck (σ.length-1) n (.sl σ.length j v 0 l.length w) (bs::σ)=(.aE l.length (l.flatMap f),bs.set j .dead::σ):=by
 have h3:¬σ.length≤σ.length-1:=by have:=aO.2 hσ;omega
 rw[AG h3 (cs:=l.flatMap f) (by simp[hj]) (by omega)];have h4:0<n-1:=by omega
 simp[Gq hw l,fZ hc l,h4]
theorem Bg{b:cf}{m:cF}:(dA b m).length=b.n:=by simp[dA]
theorem Ff(l:List Rock.aG):(l.flatMap aG.enc).length=l.length*3:=b9 (f:=aG.enc) (w:=3) (fun _=>rfl) l
theorem MJ{b:cf}{m:cF}(h:Fv b m):∀(n i v:Nat),i+n=b.n →
  WL T [1,2,6,7] false kG [(1,.bw [.int .i64 b.f.x,.int .i64 b.f.y,.int .i64 b.f.z,.int .i64 b.f.k,.aE b.cc.length (b.cc.flatMap Rw.enc),.int .i64 b.bD,.int .i64 b.lift,.int .i64 b.deep,.aE b.ak.length (b.ak.flatMap bB.enc),.str m.name,.aE m.bf.length (m.bf.flatMap aU)]),(2,.sl σ.length 0 v 0 i 3),(6,.int .i64 b.n),(7,.int .i64 i)] ([.cells v (((dA b m).take i).flatMap aG.enc)]::σ)
   (fun x e σ'=>x=.exit 0∧get e 2=.sl σ.length 0 (v+n) 0 (dA b m).length 3∧σ'=[.cells (v+n) ((dA b m).flatMap aG.enc)]::σ)
 |0,i,v,hi=>by
  refine aH kG.eq_1 ?_;obtain rfl:i=b.n:=by omega
  have h3:(dA b m).take b.n=dA b m:=ah (by simp[Bg]);simp[-length_flatMap,-map_take,h3,Bg]
 |n+1,i,v,hi=>by
  refine aH kG.eq_1 ?_;have h1:i<b.n:=by omega
  have hn:=h.bv.n;have h4:=ga h1 (by omega);have ho:=fun σ=>Qe (σ:=σ) h.toMv h1
  have hw:=fun σ=>akd (σ:=σ) h.toMv h1
  have b1:=h.hold i h1;have b2:=h.Hr i h1;have b3:=n0 (by omega:0≤hold b m i) b1.2 b2.1 b2.2;have w1:=fK (n:=hold b m i*Hr b m i) (by omega);have ih:=MJ h n (i+1) (v+1) (by omega);have hx:(dA b m)[i]?=some ⟨hold b m i,hold b m i*Hr b m i,0⟩:=by simp[dA,h1]
  have a3:=Bh (f:=aG.enc) hx;have a4:=Ff ((dA b m).take i);rw[kT,Bg,Nat.min_eq_left (by omega)]at a4;have a6:(((dA b m).take i).flatMap aG.enc).take (i*3)=((dA b m).take i).flatMap aG.enc:=ah (by omega);have h7:(i+1)*24≤room:=by unfold room;omega
  simp[-length_flatMap,-map_take,h1,h4,ho,hw,w1,a4,a6,h7,cq,bg,bj];refine WL.to ih (by simp[cq,bg,bj]) (by simp[← a3]) fun x e σ hh=>by simpa[ea,Nat.add_comm 1 n]using hh
theorem DL{b:cf}{m:cF}(h:Fv b m)(hσ:σ≠[]):lim T (.call false ij [.agg [.int .i64 b.f.x,.int .i64 b.f.y,.int .i64 b.f.z,.int .i64 b.f.k,.aE b.cc.length (b.cc.flatMap Rw.enc),.int .i64 b.bD,.int .i64 b.lift,.int .i64 b.deep,.aE b.ak.length (b.ak.flatMap bB.enc),.str m.name,.aE m.bf.length (m.bf.flatMap aU)]] σ)=some (.val (P0 (dA b m)) σ):=by
 refine au BG nD.eq_1 rfl ?_;have hs:=fun σ=>yu (σ:=σ) h.bv
 simp[-length_flatMap,-map_take,hs,cq,bg,bj];refine WL.to (MJ (σ:=σ) h b.n 0 0 (by omega)) (by simp) (by simp) ?_;rintro x e σ' ⟨rfl,g2,rfl⟩;simp[-length_flatMap,-map_take,g2];rw[zU (f:=aG.enc) (by decide) (fun _=>rfl) (fun x=>by simp) hσ (by simp)];simp[P0]
end Go.Proofs.YtklfdfnoebnciaaGreatDoor
