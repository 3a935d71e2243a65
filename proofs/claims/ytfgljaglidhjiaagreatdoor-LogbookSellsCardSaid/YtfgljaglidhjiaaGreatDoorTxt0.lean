import Derived.Test.YtfgljaglidhjiaaGreatDoorBase20
import Derived.Test.YtfgljaglidhjiaaGreatDoorTab
set_option linter.all false
namespace Go.Rock
open List(length_flatMap map_take)
open Go Go.Abs
structure fP where
 x:Int
 y:Int
 z:Int
 k:Int
structure Rw where
 t:Int
 p:Int
 l:Int
 v:Int
 s:Int
structure bG where
 b:Int
 h:Int
 m:Int
structure cr where
 f:fP
 ck:List Rw
 bJ:Int
 lift:Int
 deep:Int
 an:List bG
structure cN where
 name:List UInt8
 bh:List Int
structure aE where
 m:Int
 h:Int
 k:Int
@[simp] theorem fP.eta(p:fP):fP.mk p.x p.y p.z p.k=p:=rfl
@[simp] theorem Rw.eta(p:Rw):Rw.mk p.t p.p p.l p.v p.s=p:=rfl
@[simp] theorem bG.eta(p:bG):bG.mk p.b p.h p.m=p:=rfl
@[simp] theorem aE.eta(p:aE):aE.mk p.m p.h p.k=p:=rfl
@[simp] def fP.enc(f:fP):List D:=[.int .i64 f.x,.int .i64 f.y,.int .i64 f.z,.int .i64 f.k]
@[simp] def Rw.enc(r:Rw):List D:=[.int .i64 r.t,.int .i64 r.p,.int .i64 r.l,.int .i64 r.v,.int .i64 r.s]
@[simp] def bG.enc(r:bG):List D:=[.int .i64 r.b,.int .i64 r.h,.int .i64 r.m]
@[simp] def aE.enc(r:aE):List D:=[.int .i64 r.m,.int .i64 r.h,.int .i64 r.k]
@[simp] def aT(n:Int):List D:=[.int .i64 n]
@[simp] def cr.enc(b:cr):List D:=[.int .i64 b.f.x,.int .i64 b.f.y,.int .i64 b.f.z,.int .i64 b.f.k,.aH b.ck.length (b.ck.flatMap Rw.enc),.int .i64 b.bJ,.int .i64 b.lift,.int .i64 b.deep,.aH b.an.length (b.an.flatMap bG.enc)]
@[simp] def cN.enc(m:cN):List D:=[.str m.name,.aH m.bh.length (m.bh.flatMap aT)]
def RW(s:List aE):D:=.aH s.length (s.flatMap aE.enc)
def cG(n lo hi:Int):Bool:=decide (lo≤n) && decide (n≤hi)
theorem ba{n lo hi:Int}:cG n lo hi=true↔lo≤n∧n≤hi:=by simp[cG]
def fP.size(f:fP):Int:=f.x*f.y*f.z
def fP.valid(f:fP):Bool:=cG f.x 1 8 && (cG f.y 1 8 && (cG f.z 1 8 && (decide (f.size≤64) && cG f.k 1 6)))
theorem fP.tj{f:fP}:f.valid=true↔(1≤f.x∧f.x≤8)∧(1≤f.y∧f.y≤8)∧(1≤f.z∧f.z≤8)∧f.size≤64∧(1≤f.k∧f.k≤6):=by
 simp[fP.valid,cG,and_assoc]
def fP.shape(f:fP):Int:=if f.valid then 0 else 1
def letter(c:UInt8):Bool:=decide (97≤c.toNat) && decide (c.toNat≤122)
def digit(c:UInt8):Bool:=decide (48≤c.toNat) && decide (c.toNat≤57)
def wB(i:Nat):List UInt8→Bool
 |[]=>true
 |c::l=>(letter c || (decide (i≠0) && digit c)) && wB (i+1) l
def named(s:List UInt8):Bool:=wB 0 s && cG s.length 1 16
def fP.model(f:fP)(m:cN):Int:=if named m.name then(if(m.bh.length:Int)=f.k*f.size∧gQ m.bh (fun n=>cG n (-100000) 100000)=true then 0 else 1)else 5
def fP.each(f:fP)(met:List (List UInt8)):List cN→Int
 |[]=>0
 |m::l=>if f.model m=0 then(if met.contains m.name then 6 else f.each (met++[m.name]) l)else f.model m
def fP.ar(f:fP)(l:List cN):Int:=if cG l.length 1 40 then f.each [] l else 3
def gR(f:fP)(l:List cN):Int:=if f.valid then f.ar l else 1
def Rw.alone(r:Rw):Bool:=cG r.t 0 400 && (cG r.p 1 10000 && (cG r.l 0 4000 && (cG r.s 0 2000 && (decide (r.l<r.v) && decide (r.v≤4000)))))
def Rw.IM(o r:Rw):Bool := !(decide (r.t≤o.t) || (decide (r.p≤o.p) || (decide (r.l≤o.l) || decide (r.s<o.s))))
def EW:List Rw→Bool
 |o::r::l=>o.IM r && EW (r::l)
 |_=>true
def ku(t:List Rw):Bool:=cG t.length 2 20 && (gQ t Rw.alone && EW t)
def bG.ok(size:Int)(used:List Int)(w:bG):Bool:=cG w.b 0 (size-1) && (!used.contains w.b && (cG w.h 0 3000 && cG w.m 0 1000000))
def ug(size:Int)(used:List Int):List bG→Bool
 |[]=>true
 |w::l=>w.ok size used && ug size (used++[w.b]) l
def cr.size(b:cr):Int:=b.f.size
def cr.ok1(b:cr):Bool:=b.f.valid && (decide (4≤b.f.k) && (ku b.ck && (cG b.bJ 1 100000 && (cG b.lift 0 1000 && (cG b.deep 0 3000 && decide (b.an.length≤8))))))
def cr.valid(b:cr):Bool:=b.ok1 && ug b.size [] b.an
def cr.n(b:cr):Nat:=b.size.toNat
def vx(b:cr)(m:cN)(k:Nat):List Int:=(m.bh.drop (k*b.n)).take b.n
def uQ(b:cr)(m:cN)(k:Nat)(i:Nat):Int:=(m.bh[k*b.n+i]?).getD 0
def hold(b:cr)(m:cN)(i:Nat):Int:=uQ b m 0 i
def HW(b:cr)(m:cN)(i:Nat):Int:=uQ b m 1 i
def H4(b:cr)(m:cN)(i:Nat):Int:=uQ b m 2 i
def feed(b:cr)(m:cN)(i:Nat):Int:=uQ b m 3 i
def fits(b:cr)(m:cN):Bool:=decide (gR b.f [m]=0) && (gQ (vx b m 0) (fun n=>cG n 1000 100000) && (gQ (vx b m 1) (fun n=>cG n 0 1000) && (gQ (vx b m 2) (fun n=>cG n 0 3000) && gQ (vx b m 3) (fun n=>cG n 0 1000))))
def Bd(b:cr)(m:cN):Bool:=b.valid && fits b m
def dS(b:cr)(m:cN):List aE:=(List.range b.n).map fun i=>⟨hold b m i,hold b m i*H4 b m i,0⟩
def aE.valid(x:aE):Bool:=cG x.m 1 1000000 && (cG x.h 0 10000000000 && cG x.k 0 1000000000000)
def xZ(b:cr)(s:List aE):Bool:=decide ((s.length:Int)=b.size) && gQ s aE.valid
def weight(b:cr)(i:Nat):Int:=((i / (b.f.x.toNat*b.f.y.toNat):Nat):Int)*b.lift
def down(n d:Int):Int:=n / d
def bQ(s:List aE)(i:Nat):aE:=(s[i]?).getD ⟨0,0,0⟩
def pD(x:aE)(out:Int)(r:Rw):Int:=if r.l*x.m≤x.h then max out r.p else out
def kQ(b:cr)(m:cN)(s:List aE)(i:Nat):Int :=
 b.ck.foldl (pD (bQ s i)) (max 0 (weight b i+down (b.bJ*((bQ s i).m-hold b m i)) (hold b m i)))
def bV(b:cr)(m:cN)(s:List aE):List Int:=(List.range s.length).map (kQ b m s)
def xQ(b:cr)(i:Nat):List (Nat×Nat) :=
 (if(i+1)%b.f.x.toNat≠0 then [(i,i+1)]else [])++((if i / b.f.x.toNat%b.f.y.toNat≠b.f.y.toNat-1 then [(i,i+b.f.x.toNat)]else [])++(if i+b.f.x.toNat*b.f.y.toNat<b.n then [(i,i+b.f.x.toNat*b.f.y.toNat)]else []))
def IE(b:cr):List (Nat×Nat):=(List.range b.n).flatMap (xQ b)
def aE.out(x:aE)(m:Int):aE:=⟨m,(x.h*m).tdiv x.m,(x.k*m).tdiv x.m⟩
def aE.move(x o:aE)(sign:Int):aE:=⟨x.m+sign*o.m,x.h+sign*o.h,x.k+sign*o.k⟩
def Jp(b:cr)(m:cN)(s:List aE)(p:List Int)(l:Nat×Nat):Option ((Nat×Nat)×aE) :=
 let d:=(p[l.1]?).getD 0-weight b l.1-(p[l.2]?).getD 0+weight b l.2
 let l':=if d<0 then(l.2,l.1)else l
 let d':=if d<0 then -d else d
 let q:=min ((min (HW b m l'.1) (HW b m l'.2)*d').tdiv 1000) ((bQ s l'.1).m.tdiv 8)
 if 0<q then some (l',(bQ s l'.1).out q)else none
def Rt(es:List ((Nat×Nat)×aE))(k:Nat×Nat)(o:aE):List ((Nat×Nat)×aE) :=
 match es.findIdx? (fun e=>e.1 == k)with
 |some j=>es.set j (k,o)
 |none=>es++[(k,o)]
def pg(b:cr)(m:cN)(s:List aE)(p:List Int)(es:List ((Nat×Nat)×aE))(l:Nat×Nat):List ((Nat×Nat)×aE) :=
 match Jp b m s p l with
 |some e=>Rt es e.1 e.2
 |none=>es
def vq(b:cr)(m:cN)(s:List aE):List ((Nat×Nat)×aE):=(IE b).foldl (pg b m s (bV b m s)) []
def iE(s:List aE)(i:Nat)(o:aE)(sign:Int):List aE:=s.set i ((bQ s i).move o sign)
def eV(s:List aE)(e:(Nat×Nat)×aE):List aE:=iE (iE s e.1.1 e.2 (-1)) e.1.2 e.2 1
def bG.given(w:bG)(rate:Int):aE:=⟨-rate,-rate*w.h,-rate*w.m⟩
def rJ(s:List aE)(w:bG)(rate:Int):aE:=if rate<0 then⟨0,0,0⟩else(bQ s w.b.toNat).out (min rate ((bQ s w.b.toNat).m.tdiv 8))
def uf(s next:List aE)(w:bG)(rate:Int):List aE:=if rate<0 then iE next w.b.toNat (w.given rate) 1 else iE next w.b.toNat (rJ s w rate) (-1)
def MF(b:cr)(m:cN)(i:Nat):aE:=⟨feed b m i,feed b m i*b.deep,0⟩
def Dc(b:cr)(m:cN)(s:List aE)(aR:List Int):List aE :=
 let s1:=(vq b m s).foldl eV s
 let s2:=(b.an.zip aR).foldl (fun n wr=>uf s n wr.1 wr.2) s1
 (List.range s.length).foldl (fun n i=>iE n i (MF b m i) 1) s2
def eE(b:cr)(s:List aE)(aR:List Int):List aE:=(b.an.zip aR).map fun wr=>rJ s wr.1 wr.2
def tick(b:cr)(m:cN)(s:List aE)(aR:List Int):Option (List aE×List aE) :=
 if xZ b (Dc b m s aR)then some (Dc b m s aR,eE b s aR)else none
def zW(b:cr)(l:List Int):Int:=if l.length=b.an.length then(if gQ l (fun n=>cG n (-100000) 100000)then 0 else 2)else 1
def da{α:Type}(f:α→Int):List α→Int
 |[]=>0
 |x::l=>if f x=0 then da f l else f x
def vV(b:cr)(av:List (List Int)):Int:=if 200<av.length then 3 else da (zW b) av
def ve(b:cr)(m:cN):List (List aE)→List (List aE)→List aE→List (List Int)→Option (List (List aE)×List (List aE))
 |ss,ys,_,[]=>some (ss,ys)
 |ss,ys,s,r::av =>
  match tick b m s r with
  |some (s',y)=>ve b m (ss++[s']) (ys++[y]) s' av
  |none=>none
def run(b:cr)(m:cN)(av:List (List Int)):Option (List (List aE)×List (List aE)):=ve b m [dS b m] [] (dS b m) av
end Go.Rock
namespace Go.Proofs.YtfgljaglidhjiaaGreatDoor
open List(length_flatMap map_take)
open Go Go.Abs Go.Rock
variable {σ:SK}
theorem PL{a b A B:Int}(h1:1≤a)(h2:a≤A)(h3:1≤b)(h4:b≤B):1≤a*b∧a*b≤A*B :=
 ⟨by have:=Int.mul_pos (a:=a) (b:=b) (by omega) (by omega);omega,ic h2 h4 (by omega) (by omega)⟩
theorem oq{a b A B:Int}(h1:0≤a)(h2:a≤A)(h3:0≤b)(h4:b≤B):0≤a*b∧a*b≤A*B :=
 ⟨dI h1 h3,ic h2 h4 h3 (by omega)⟩
theorem fP.sz{f:fP}(hx:1≤f.x∧f.x≤8)(hy:1≤f.y∧f.y≤8)(hz:1≤f.z∧f.z≤8):(1≤f.x*f.y∧f.x*f.y≤64)∧(1≤f.x*f.y*f.z∧f.x*f.y*f.z≤512):=by
 have h1:=PL hx.1 hx.2 hy.1 hy.2;have h2:=PL h1.1 h1.2 hz.1 hz.2;exact⟨by omega,by omega⟩
theorem dH{a b c:Int}:lim T (.call false cn [.int .i64 a,.int .i64 b,.int .i64 c] σ)=some (.val (.bool (cG a b c)) σ):=by
 refine az HL vc.eq_1 rfl ?_;by_cases h:b≤a<;>simp[-length_flatMap,-map_take,h,cG]
theorem gN{a b c:Int}:lim T (.call false dM [.int .i64 a,.int .i64 b,.int .i64 c] σ)=some (.val (.bool (cG a b c)) σ):=by
 refine az Gp tC.eq_1 rfl ?_;by_cases h:b≤a<;>simp[-length_flatMap,-map_take,h,cG]
theorem j4{a b c:Int}:lim T (.call false dn [.int .i64 a,.int .i64 b,.int .i64 c] σ)=some (.val (.bool (cG a b c)) σ):=by
 refine az Gw tP.eq_1 rfl ?_;by_cases h:b≤a<;>simp[-length_flatMap,-map_take,h,cG]
theorem Ga{f:fP}(hx:1≤f.x∧f.x≤8)(hy:1≤f.y∧f.y≤8)(hz:1≤f.z∧f.z≤8):lim T (.call false dj [.agg [.int .i64 f.x,.int .i64 f.y,.int .i64 f.z,.int .i64 f.k]] σ)=some (.val (.int .i64 f.size) σ):=by
 refine az AG mJ.eq_1 rfl ?_;obtain⟨h1,h2⟩:=fP.sz hx hy hz;have w1:=fR (n:=f.x*f.y) (by omega);have w2:=fR (n:=f.x*f.y*f.z) (by omega);simp[-length_flatMap,-map_take,w1,w2,fP.size]
theorem R7{f:fP}:lim T (.call false kJ [.agg [.int .i64 f.x,.int .i64 f.y,.int .i64 f.z,.int .i64 f.k]] σ)=some (.val (.bool f.valid) σ):=by
 refine az B5 nG.eq_1 rfl ?_;cases hc1:cG f.x 1 8
 ·simp[-length_flatMap,-map_take,gN,fP.valid,hc1]
 cases hc2:cG f.y 1 8
 ·simp[-length_flatMap,-map_take,gN,fP.valid,hc1,hc2]
 cases hc3:cG f.z 1 8
 ·simp[-length_flatMap,-map_take,gN,fP.valid,hc1,hc2,hc3]
 have hb:=fun σ=>Ga (σ:=σ) (f:=f) (ba.1 hc1) (ba.1 hc2) (ba.1 hc3)
 by_cases hc4:f.size≤64
 ·simp[-length_flatMap,-map_take,gN,fP.valid,hc1,hc2,hc3,hc4,hb]
 ·simp[-length_flatMap,-map_take,gN,fP.valid,hc1,hc2,hc3,hc4,hb]
theorem FX{f:fP}:lim T (.call false cJ [.agg [.int .i64 f.x,.int .i64 f.y,.int .i64 f.z,.int .i64 f.k]] σ)=some (.val (.int .i64 f.shape) σ):=by
 refine az B4 nF.eq_1 rfl ?_;have hb:=fun σ=>R7 (σ:=σ) (f:=f)
 cases hc:f.valid<;>rw[hc]at hb<;>simp[-length_flatMap,-map_take,hb,fP.shape,hc]
theorem jC{f:fP}:lim T (.call false jk [.agg [.int .i64 f.x,.int .i64 f.y,.int .i64 f.z,.int .i64 f.k]] σ)=some (.val (.int .i64 f.shape) σ):=by
 refine az CE oD.eq_1 rfl ?_;have hb:=fun σ=>FX (σ:=σ) (f:=f)
 simp[-length_flatMap,-map_take,hb]
theorem Ny{s:List UInt8}(hl:s.length≤1000000000):∀(m i:Nat),i+m=s.length →
  WL T [0,6,7] false rm [(0,.str s),(6,.int .i64 s.length),(7,.int .i64 i)] σ
   (fun x e σ'=>σ'=σ∧if wB i (s.drop i)then x=.exit 0∧get e 0=.str s else x=.ret∧get e 2=.bool false)
 |0,i,hi=>by
  refine aN rm.eq_1 ?_;have h1:¬i<s.length:=by omega
  have h2:s.drop i=[]:=aA (by omega);simp[-length_flatMap,-map_take,h1,h2,wB]
 |m+1,i,hi=>by
  refine aN rm.eq_1 ?_;have h1:i<s.length:=by omega
  obtain⟨c,hc⟩:=gE h1;have h4:=gG h1 (by omega);have h5:=cS hc;have ih:=Ny hl m (i+1) (by omega);rw[h5,wB];have hd:sF .Co [.str s,.int .i64 (i:Int)]=some (.int .u8 c.toNat):=by simp[sF,hc]
  by_cases hc1:97≤c.toNat
  ·by_cases hc2:c.toNat≤122
   ·have hlet:letter c=true:=by simp[letter,hc1,hc2]
    simp[-length_flatMap,-map_take,h1,h4,hd,hlet,show(97:Int)≤(c.toNat:Int)by omega,show(c.toNat:Int)≤122 by omega];exact WL.to ih (by simp) rfl fun x e σ' hh=>by simpa[hlet]using hh
   ·have hlet:letter c=false:=by simp[letter,hc2]
    have hdig:digit c=false:=by simp[digit];omega
    by_cases hi0:i=0
    ·subst hi0;have hd0:sF .Co [.str s,.int .i64 0]=some (.int .u8 c.toNat):=by simpa using hd
     have h1':0<s.length:=h1;simp[-length_flatMap,-map_take,h1',h4,hd0,hlet,hdig,show(97:Int)≤(c.toNat:Int)by omega,show ¬(c.toNat:Int)≤122 by omega]
    ·simp[-length_flatMap,-map_take,h1,h4,hd,hlet,hdig,hi0,show(97:Int)≤(c.toNat:Int)by omega,show ¬(c.toNat:Int)≤122 by omega,show ¬(c.toNat:Int)<48 by omega,show(57:Int)<(c.toNat:Int)by omega,show(57:Nat)<c.toNat by omega,show ¬c.toNat<48 by omega]
  ·have hlet:letter c=false:=by simp[letter,hc1]
   by_cases hi0:i=0
   ·subst hi0;have hd0:sF .Co [.str s,.int .i64 0]=some (.int .u8 c.toNat):=by simpa using hd
    have h1':0<s.length:=h1;simp[-length_flatMap,-map_take,h1',h4,hd0,hlet,show ¬(97:Int)≤(c.toNat:Int)by omega]
   ·by_cases hc3:c.toNat<48
    ·have hdig:digit c=false:=by simp[digit];omega
     simp[-length_flatMap,-map_take,h1,h4,hd,hlet,hdig,hi0,show ¬(97:Int)≤(c.toNat:Int)by omega,show(c.toNat:Int)<48 by omega,hc3]
    ·by_cases hc4:57<c.toNat
     ·have hdig:digit c=false:=by simp[digit];omega
      simp[-length_flatMap,-map_take,h1,h4,hd,hlet,hdig,hi0,show ¬(97:Int)≤(c.toNat:Int)by omega,show ¬(c.toNat:Int)<48 by omega,show(57:Int)<(c.toNat:Int)by omega,hc3,hc4]
     ·have hdig:digit c=true:=by simp[digit];omega
      simp[-length_flatMap,-map_take,h1,h4,hd,hlet,hdig,hi0,show ¬(97:Int)≤(c.toNat:Int)by omega,show ¬(c.toNat:Int)<48 by omega,show ¬(57:Int)<(c.toNat:Int)by omega,hc3,hc4];exact WL.to ih (by simp) rfl fun x e σ' hh=>by simpa[hlet,hdig,hi0]using hh
theorem FW{s:List UInt8}(hl:s.length≤1000000000):lim T (.call false pA [.str s] σ)=some (.val (.bool (named s)) σ):=by
 refine az HE uY.eq_1 rfl ?_;have hp:sF .zc [.str s]=some (.int .i64 s.length):=rfl;simp[-length_flatMap,-map_take,hp];refine WL.to (Ny (σ:=[]::σ) hl s.length 0 (by omega)) (by simp) rfl ?_;rintro x e σ' ⟨rfl,h⟩;simp only[aO]at h;unfold named;cases hc:wB 0 s
 ·simp[hc]at h;simp[h]
 ·simp[hc]at h;simp[-length_flatMap,-map_take,h,hp,gN]
theorem ae3{a:Int}:lim T (.call false gk [.int .i64 a] σ)=some (.val (.bool (cG a (-100000) 100000)) σ):=by
 refine az Ar lY.eq_1 rfl ?_;simp[-length_flatMap,-map_take,gN]
theorem Qm{l:List Int}{p:Int→Bool}{fv:D}(hl:l.length≤1000000000)(ht:pK T fv (fun n => .int .i64 n) p l)(hc:fv.cells=some [fv]):
  lim T (.call false pj [.aH l.length (l.flatMap aT),fv] σ)=some (.val (.bool (gQ l p)) σ) :=
 zt (Jo .i64) (f:=pj) (g:=qd) (h:=cc) (i:=eu) (l:=l) (p:=p) (fv:=fv) rfl rfl rfl rfl (by omega) ht hc
theorem Lp{f:fP}(hf:f.valid=true):(1≤f.size∧f.size≤64)∧1≤f.k*f.size∧f.k*f.size≤384:=by
 obtain⟨h1,h2,h3,h4,h5⟩:=fP.tj.1 hf;obtain⟨_,h6⟩:=fP.sz h1 h2 h3;have h7:=PL h5.1 h5.2 (b:=f.size) (B:=64) (by unfold fP.size;omega) h4;exact⟨⟨by unfold fP.size;omega,h4⟩,by omega,by omega⟩
theorem Nq{f:fP}{m:cN}(hf:f.valid=true)(hn:m.name.length≤1000000000)(hl:m.bh.length≤1000000000):lim T (.call false iK [.agg [.int .i64 f.x,.int .i64 f.y,.int .i64 f.z,.int .i64 f.k],.agg [.str m.name,.aH m.bh.length (m.bh.flatMap aT)]] σ)=some (.val (.int .i64 (f.model m)) σ):=by
 refine az B0 nE.eq_1 rfl ?_;obtain⟨h1,h2,h3,h4,h5⟩:=fP.tj.1 hf;obtain⟨h6,h7⟩:=Lp hf;have w1:=fR (n:=f.k*f.size) (by omega);have hb:=fun σ=>Ga (σ:=σ) (f:=f) h1 h2 h3
 have ha:=fun σ=>Qm (σ:=σ) (l:=m.bh) (p:=fun n=>cG n (-100000) 100000) (fv:=.fn gk [] []) hl (pK.fn fun x _ σ=>by simpa using ae3) rfl
 cases hc1:named m.name
 ·simp[-length_flatMap,-map_take,FW hn,hc1,fP.model]
 ·by_cases hc2:(m.bh.length:Int)=f.k*f.size
  ·cases hc3:gQ m.bh (fun n=>cG n (-100000) 100000)<;>
    simp[-length_flatMap,-map_take,FW hn,hc1,hc2,hc3,fP.model,hb,ha,w1]
  ·simp[-length_flatMap,-map_take,FW hn,hc1,hc2,fP.model,hb,w1]
def Cl(met:List (List UInt8)):List D:=met.map fun n => .dG [.str n,.bool true]
theorem EE{k:List UInt8}:∀{met:List (List UInt8)},∃r,qT none (.str k) (Cl met)=some r∧(met.contains k=true→∃j,r=some (j,.bool true))∧(met.contains k=false→r=none)
 |[]=>⟨none,rfl,by simp,by simp⟩
 |n::met=>by
  obtain⟨r,h1,h2,h3⟩:=EE (k:=k) (met:=met);simp only[Cl,aP]at h1 ⊢;by_cases hk:k=n
  ·subst hk;exact⟨some (0,.bool true),by simp[qT,sS],fun _=>⟨0,rfl⟩,by simp⟩
  ·have hb:(k == n)=false:=by simpa using hk
   refine⟨r.map fun y=>(y.1+1,y.2),by simp[qT,sS,hb,h1],?_,?_⟩
   ·intro hc;have:met.contains k=true:=by simpa[hk]using hc
    obtain⟨j,rfl⟩:=h2 this;exact⟨j+1,rfl⟩
   ·intro hc;have:met.contains k=false:=by simp at hc ⊢;exact hc.2
    rw[h3 this];rfl
theorem alC{S:SK}{l i:Nat}{met:List (List UInt8)}{k:List UInt8}(h:cells? S l i 0=some (Cl met)):AE S (.get none (.bool false) false) [.mq l i,.str k]=some (.bool (met.contains k),S):=by
 obtain⟨r,h1,h2,h3⟩:=EE (k:=k) (met:=met);simp only[AE,AD,h,aS,h1];cases hc:met.contains k
 ·rw[h3 hc];simp[sS]
 ·obtain⟨j,rfl⟩:=h2 hc;simp[sS]
theorem alD{S:SK}{l i:Nat}{met:List (List UInt8)}{k:List UInt8}(h:cells? S l i 0=some (Cl met))(hn:met.contains k=false):
  AE S (.put none) [.mq l i,.str k,.bool true]=some (.undef,aV S l i (.cells 0 (Cl (met++[k])))):=by
 obtain⟨r,h1,h2,h3⟩:=EE (k:=k) (met:=met);simp only[AE,AD,h,aS,h1];rw[h3 hn];simp[sS,Cl,D.clean]
theorem axb{f:fP}{m:cN}(hf:f.valid=true)(hn:m.name.length≤1000000000)(hl:m.bh.length≤1000000000):
  lim T (.call false ej [.agg [.str m.name,.aH m.bh.length (m.bh.flatMap aT)],.bF [.int .i64 f.x,.int .i64 f.y,.int .i64 f.z,.int .i64 f.k]] σ)=some (.val (.dG [.str m.name,.int .i64 (f.model m)]) σ):=by
 refine az zm kS.eq_1 rfl ?_;simp[-length_flatMap,-map_take,Nq hf hn hl]
theorem SC{f:fP}{l:List cN}(hf:f.valid=true)(hs:∀m∈l,m.name.length≤1000000000∧m.bh.length≤1000000000)(hl:l.length≤1000000000):∀(k i:Nat) (met:List (List UInt8)),i+k=l.length →
  WL T [1,5,11,12,13] false gz [(1,.fn ej [] [.bF [.int .i64 f.x,.int .i64 f.y,.int .i64 f.z,.int .i64 f.k]]),(5,.mq σ.length 0),(11,.aH l.length (l.flatMap cN.enc)),(12,.int .i64 l.length),(13,.int .i64 i)] ([.cells 0 (Cl met)]::σ)
   (fun x e σ'=>∃s,σ'=s::σ∧if f.each met (l.drop i)=0 then x=.exit 0 else x=.ret∧get e 4=.int .i64 (f.each met (l.drop i)))
 |0,i,met,hi=>by
  refine aN gz.eq_1 ?_;have h1:¬i<l.length:=by omega
  have h2:l.drop i=[]:=aA (by omega);simp[-length_flatMap,-map_take,h1,h2,fP.each]
 |k+1,i,met,hi=>by
  refine aN gz.eq_1 ?_;have h1:i<l.length:=by omega
  obtain⟨m,hm⟩:=gE h1;have h2:=bR (f:=cN.enc) (w:=2) (fun _=>rfl) hm;have h4:=gG h1 (by omega);have h5:=cS hm;obtain⟨hs1,hs2⟩:=hs m (ai hm);have hC:=fun σ=>axb (σ:=σ) hf hs1 hs2
  rw[h5,fP.each];by_cases hc1:f.model m=0
  ·have hg:=alC (S:=[.cells 0 (Cl met)]::σ) (l:=σ.length) (i:=0) (met:=met) (k:=m.name) (by simp);cases hc2:met.contains m.name
   ·rw[hc2]at hg;have hp:=alD (S:=[.cells 0 (Cl met)]::σ) (l:=σ.length) (i:=0) (met:=met) (k:=m.name) (by simp) hc2;have ih:=SC hf hs hl k (i+1) (met++[m.name]) (by omega);simp at hp;have hc3:¬m.name∈met:=by simpa using hc2
    simp[-length_flatMap,-map_take,h1,h2,h4,hC,hc1,hg,hp,hc3];exact WL.to ih (by simp) (by simp) fun x e σ' hh=>by simpa[hc1]using hh
   ·rw[hc2]at hg;have hc3:m.name∈met:=by simpa using hc2
    simp[-length_flatMap,-map_take,h1,h2,h4,hC,hc1,hg,hc3]
  ·simp[-length_flatMap,-map_take,h1,h2,h4,hC,hc1]
theorem al7{f:fP}{l:List cN}(hf:f.valid=true)(hs:∀m∈l,m.name.length≤1000000000∧m.bh.length≤1000000000)(hl:l.length≤1000000000):
  lim T (.call false gr [.aH l.length (l.flatMap cN.enc),.fn ej [] [.bF [.int .i64 f.x,.int .i64 f.y,.int .i64 f.z,.int .i64 f.k]]] σ)=some (.val (.int .i64 (f.each [] l)) σ):=by
 refine az yj jG.eq_1 rfl ?_;have hm:AE ([]::σ) .make []=some (.mq σ.length 0,[.cells 0 (Cl [])]::σ):=by simp[AE,Cl]
 simp[-length_flatMap,-map_take,hm];refine WL.to (SC (σ:=σ) hf hs hl l.length 0 [] (by omega)) (by simp) (by simp) ?_;rintro x e σ' ⟨s,rfl,h⟩;simp only[aO]at h;by_cases hc:f.each [] l=0
 ·rw[if_pos hc]at h;subst h;simp[-length_flatMap,-map_take,hc]
 ·rw[if_neg hc]at h;obtain⟨rfl,h⟩:=h;simp[h]
theorem Se{f:fP}{l:List cN}(hf:f.valid=true)(hs:∀m∈l,m.name.length≤1000000000∧m.bh.length≤1000000000)(hl:l.length≤1000000000):
  lim T (.call false jV [.agg [.int .i64 f.x,.int .i64 f.y,.int .i64 f.z,.int .i64 f.k],.aH l.length (l.flatMap cN.enc)] σ)=some (.val (.int .i64 (f.ar l)) σ):=by
 refine az AH mK.eq_1 rfl ?_;cases hc:cG l.length 1 40
 ·simp[-length_flatMap,-map_take,gN,hc,fP.ar]
 ·simp[-length_flatMap,-map_take,gN,hc,fP.ar,al7 hf hs hl]
theorem F9{f:fP}{l:List cN}(hf:f.valid=true)(hs:∀m∈l,m.name.length≤1000000000∧m.bh.length≤1000000000)(hl:l.length≤1000000000):
  lim T (.call false gi [.bF [.int .i64 f.x,.int .i64 f.y,.int .i64 f.z,.int .i64 f.k],.bF [.aH l.length (l.flatMap cN.enc)]] σ)=some (.val (.int .i64 (f.ar l)) σ):=by
 refine az Ap lW.eq_1 rfl ?_;simp[-length_flatMap,-map_take,Se hf hs hl]
theorem IZ{fs:List D}{es:List Int}(hlen:fs.length=es.length)(hl:fs.length≤100)(hfs:∀d∈fs,d.strip=d∧d.calm=d∧LV false 1 (some [d])=some d)
  (hcall:∀(i:Nat) d n,fs[i]?=some d→es[i]?=some n→(∀j,j<i→es[j]?=some 0)→∀σ,o9 (lim T) false d [] σ=some (.int .i64 n,σ)):
  lim T (.call false nu [.aH fs.length fs] σ)=some (.val (.int .i64 (da id es)) σ):=by
 have loop:∀(k i:Nat) (σ:SK),i+k=fs.length→(∀j,j<i→es[j]?=some 0) →
   WL T [6,7,8] false rl [(6,.aH fs.length fs),(7,.int .i64 fs.length),(8,.int .i64 i)] σ
    (fun x e σ'=>σ'=σ∧if da id (es.drop i)=0 then x=.exit 0 else x=.ret∧get e 2=.int .i64 (da id (es.drop i))):=by
  intro k;induction k with
  |zero =>
   intro i σ hi h0;refine aN rl.eq_1 ?_;have h1:¬i<fs.length:=by omega
   have h2:es.drop i=[]:=aA (by omega);simp[-length_flatMap,-map_take,h1,h2,da]
  |succ k ih =>
   intro i σ hi h0;refine aN rl.eq_1 ?_;have h1:i<fs.length:=by omega
   obtain⟨d,hd⟩:=gE h1;obtain⟨n,hn⟩:∃n,es[i]?=some n:=gE (by omega);obtain⟨g1,g2,g3⟩:=hfs d (ai hd);have h2:=bR (f:=fun d:D=>[d]) (w:=1) (fun _=>rfl) (l:=fs) hd;rw[show(fs.flatMap fun d=>[d])=fs from by simp]at h2;have h4:=gG h1 (by omega);have h5:=cS hn;have hc:=hcall i d n hd hn h0;simp only[dX]at h2;rw[h5,da];by_cases hz:n=0
   ·subst hz;have ih':=ih (i+1) σ (by omega) (fun j hj=>by
     by_cases hji:j=i
     ·subst hji;exact hn
     ·exact h0 j (by omega))
    simp[-length_flatMap,-map_take,h1,h2,h4,g1,g2,hc];exact WL.to ih' (by simp) rfl fun x e σ' hh=>by simpa using hh
   ·simp[-length_flatMap,-map_take,h1,h2,h4,g1,g2,hc,hz]
 refine az HD uX.eq_1 rfl ?_;simp[-length_flatMap,-map_take];refine WL.to (loop fs.length 0 ([]::σ) (by omega) (by simp)) (by simp) rfl ?_;rintro x e σ' ⟨rfl,h⟩;simp only[aO]at h;by_cases hc:da id es=0
 ·rw[if_pos hc]at h;subst h;simp[-length_flatMap,-map_take,hc]
 ·rw[if_neg hc]at h;obtain⟨rfl,h⟩:=h;simp[h]
theorem Cq{f:fP}{l:List cN}(hs:∀m∈l,m.name.length≤1000000000∧m.bh.length≤1000000000)(hl:l.length≤1000000000):
  lim T (.call false iJ [.agg [.int .i64 f.x,.int .i64 f.y,.int .i64 f.z,.int .i64 f.k],.aH l.length (l.flatMap cN.enc)] σ)=some (.val (.int .i64 (gR f l)) σ):=by
 refine az BZ nD.eq_1 rfl ?_;have hC:=fun σ=>IZ (σ:=σ) (fs:=[.fn cJ [.agg [.int .i64 f.x,.int .i64 f.y,.int .i64 f.z,.int .i64 f.k]] [],.fn gi [] [.bF [.int .i64 f.x,.int .i64 f.y,.int .i64 f.z,.int .i64 f.k],.bF [.aH l.length (l.flatMap cN.enc)]]]) (es:=[f.shape,f.ar l]) rfl (by simp) (by simp) (by
  intro i d n hd hn h0 σ;match i with
  |0 =>
   simp at hd hn;subst hd hn;simp[FX]
  |1 =>
   simp at hd hn;subst hd hn;have h1:f.valid=true:=by
    have:=h0 0 (by omega);simp[fP.shape]at this;exact this
   simp[F9 h1 hs hl]
  |i+2=>simp at hd)
 simp at hC;have e1:da id [f.shape,f.ar l]=gR f l:=by
  simp only[da,id,gR,fP.shape];by_cases h:f.valid=true
  ·by_cases h2:f.ar l=0<;>simp[h,h2]
  ·simp[h]
 rw[e1]at hC;simp[-length_flatMap,-map_take,hC]
end Go.Proofs.YtfgljaglidhjiaaGreatDoor
namespace Go.Abs
open List(length_flatMap map_take)
open Go
variable {T:yo}
def pr(q:Nat→Bool)(i:Nat):Nat→Bool×Nat
 |0=>(false,i)
 |m+1=>if q i then(true,i+1)else pr q (i+1) m
theorem BV{q:Nat→Bool}:∀{m i:Nat},(pr q i m).1=false↔∀j,j<m→q (i+j)=false
 |0,i=>by simp[pr]
 |m+1,i=>by
  simp only[pr];by_cases h:q i=true
  ·simp only[h,if_true,Bool.true_eq_false,false_iff];intro hh;have:=hh 0 (by omega);simp[h]at this
  ·have h':q i=false:=by simpa using h
   simp only[h',aw,if_false];rw[BV (m:=m) (i:=i+1)];constructor
   ·intro hh j hj;cases j with
    |zero=>simpa using h'
    |succ j=>have:=hh j (by omega);rwa[show i+1+j=i+(j+1)from by omega]at this
   ·intro hh j hj;have:=hh (j+1) (by omega);rwa[show i+(j+1)=i+1+j from by omega]at this
section
variable {α:Type} (E:Elt α) {fv:D} {l:List α} {q:Nat→Bool} {S:Nat→SK}
theorem Iy(hl:l.length≤9223372036854775807)(h1:fv.strip=fv)(h2:fv.calm=fv)(ht:∀i x,l[i]?=some x→o9 (lim T) false fv [E.val x] (S i)=some (.bool (q i),S (i+1))):∀(m i:Nat),i+m=l.length →
  WL T [0,1,7,8] false (G5 E.ag E.w) [(0,.aH l.length (l.flatMap E.enc)),(1,fv),(7,.int .i64 l.length),(8,.int .i64 i)] (S i)
   (fun x e σ'=>σ'=S (pr q i m).2∧if(pr q i m).1=true then x=.ret∧∃j:Nat,get e 4=.int .i64 j else x=.exit 0)
 |0,i,hi=>by
  refine aN (G5.eq_1 _ _) ?_;have:¬i<l.length:=by omega
  simp[this,h1,h2,pr]
 |m+1,i,hi=>by
  refine aN (G5.eq_1 _ _) ?_;have h4:i<l.length:=by omega
  obtain⟨x,hx⟩:=gE h4;have h5:=bR (f:=E.enc) E.len hx;have h6:=ht i x hx;have h7:=gG h4 hl;have ih:=Iy hl h1 h2 ht m (i+1) (by omega);cases hq:q i
  ·rw[hq]at h6;simp[h4,h1,h2,h5,h6,h7,E.load,E.strip,E.calm];refine WL.mono (by simpa using ih) ?_;rintro x e σ' ⟨h9,h10⟩;simp only[pr,hq,aw,if_false];exact⟨h9,h10⟩
  ·rw[hq]at h6;simp[h4,h1,h2,h5,h6,h7,E.load,E.strip,E.calm,pr,hq];exact⟨i,rfl⟩
theorem Q7{f:Nat}(hT:T f=some (uB E.ag E.w))(hl:l.length≤9223372036854775807)(h1:fv.strip=fv)(h2:fv.calm=fv)(hlen:∀i,(S i).length=(S 0).length)
  (ht:∀i x,l[i]?=some x→o9 (lim T) false fv [E.val x] ([]::S i)=some (.bool (q i),[]::S (i+1))):
  ∃n:Int,lim T (.call false f [.aH l.length (l.flatMap E.enc),fv] (S 0))=some (.val (.int .i64 n) (S (pr q 0 l.length).2))∧(0≤n↔(pr q 0 l.length).1=true):=by
 have h:=Iy E (S:=fun i=>[]::S i) hl h1 h2 ht l.length 0 (by omega);cases hq:(pr q 0 l.length).1
 ·refine⟨-1,?_,by simp⟩;refine gw hT (uB.eq_1 _ _) rfl (hlen _) ?_;simp[h1,h2];refine WL.mono (by simpa using h) ?_;rintro x e σ' ⟨rfl,h10⟩;rw[hq]at h10;simp only[aw,if_false]at h10;subst h10;simp
 ·obtain⟨x,e,σ',hw,rfl,h10⟩:=h;rw[hq]at h10;simp only[if_true]at h10;obtain⟨rfl,j,hj⟩:=h10;refine⟨j,?_,by simp⟩;refine gw hT (uB.eq_1 _ _) rfl (hlen _) ?_;simp[h1,h2];refine⟨_,_,_,by simpa using hw,?_⟩;simp[hj]
theorem Jj{f i:Nat}(hT:T f=some (jg i))(hi:T i=some (uB E.ag E.w))(hl:l.length≤9223372036854775807)(h1:fv.strip=fv)(h2:fv.calm=fv)(hlen:∀i,(S i).length=(S 0).length)
  (ht:∀i x,l[i]?=some x→o9 (lim T) false fv [E.val x] ([]::[]::S i)=some (.bool (q i),[]::[]::S (i+1))):
  lim T (.call false f [.aH l.length (l.flatMap E.enc),fv] (S 0))=some (.val (.bool (pr q 0 l.length).1) (S (pr q 0 l.length).2)):=by
 obtain⟨n,h,hn⟩:=Q7 E (S:=fun i=>[]::S i) hi hl h1 h2 (fun i=>by simp[hlen i]) ht;refine gw hT (jg.eq_1 _) rfl (hlen _) ?_;have h4:decide (0≤n)=(pr q 0 l.length).1:=by
  cases hq:(pr q 0 l.length).1
  ·rw[hq]at hn;simp at hn;exact decide_eq_false (by omega)
  ·exact decide_eq_true (hn.2 hq)
 simp[h1,h2,h,h4]
theorem SO{g:Nat}{x:α}{b:Bool}{σ σ':SK}(hT:T g=some (yp E.ag E.w))(hlen:σ'.length=σ.length)(h1:fv.strip=fv)(h2:fv.calm=fv)(ht:o9 (lim T) false fv [E.val x] ([]::σ)=some (.bool b,[]::σ')):
  o9 (lim T) false (.fn g [] [.bF [fv]]) [E.val x] σ=some (.bool (!b),σ'):=by
 rw[rV];have hc:=E.cells x;have hl:=E.load x;have hs:=E.strip x;have hcm:=E.calm x;have key:lim T (.call false g ([]++[E.val x]++[.bF [fv]]) σ)=some (.val (.bool (!b)) σ'):=by
  generalize E.ag=ag at *
  cases ag with
  |true =>
   refine gw hT (yp.eq_1 _) rfl hlen ?_;simp[h1,h2,ht,hc,hl,hs,hcm]
  |false =>
   refine gw hT (yp.eq_2 _) rfl hlen ?_;simp[h1,h2,ht,hc,hl,hs,hcm]
 rw[key];rfl
theorem Jd{f g h i:Nat}{p:Nat→Bool}(hf:T f=some (DD g h))(hg:T g=some (yp E.ag E.w))(hh:T h=some (jg i))(hi:T i=some (uB E.ag E.w))
  (hl:l.length≤9223372036854775807) (h1:fv.strip=fv) (h2:fv.calm=fv) (hcl:fv.cells=some [fv]) (hlen:∀i,(S i).length=(S 0).length)
  (ht:∀i x,l[i]?=some x→o9 (lim T) false fv [E.val x] ([]::[]::[]::[]::S i)=some (.bool (p i),[]::[]::[]::[]::S (i+1))):
  lim T (.call false f [.aH l.length (l.flatMap E.enc),fv] (S 0))=some (.val (.bool !(pr (fun i => !p i) 0 l.length).1) (S (pr (fun i => !p i) 0 l.length).2)):=by
 have hc:=Jj E (S:=fun i=>[]::S i) (fv:=.fn g [] [.bF [fv]]) (q:=fun i => !p i) hh hi hl rfl rfl (fun i=>by simp[hlen i]) (fun i x hx=>SO E hg (by simp[hlen i,hlen (i+1)]) h1 h2 (ht i x hx));refine gw hf (DD.eq_1 _ _) rfl (hlen _) ?_;simp[h1,h2,hc,hcl]
theorem afy{f g h i:Nat}{p:α→Bool}{σ:SK}(hf:T f=some (DD g h))(hg:T g=some (yp E.ag E.w))(hh:T h=some (jg i))(hi:T i=some (uB E.ag E.w))
  (hl:l.length≤9223372036854775807) (h1:fv.strip=fv) (h2:fv.calm=fv) (hcl:fv.cells=some [fv])
  (ht:∀x∈l,o9 (lim T) false fv [E.val x] ([]::[]::[]::[]::σ)=some (.bool (p x),[]::[]::[]::[]::σ)):
  lim T (.call false f [.aH l.length (l.flatMap E.enc),fv] σ)=some (.val (.bool (gQ l p)) σ):=by
 have h0:=Jd E (T:=T) (S:=fun _=>σ) (fv:=fv) (l:=l) (p:=fun i=>match l[i]? with | some x=>p x | none=>true) hf hg hh hi hl h1 h2 hcl (fun _=>rfl) (fun i x hx=>by
  rw[ht x (ai hx)];simp[hx])
 have he:(!(pr (fun i => !(match l[i]? with | some x=>p x | none=>true)) 0 l.length).1)=gQ l p:=by
  have h2:=BV (q:=fun i => !(match l[i]? with | some x=>p x | none=>true)) (m:=l.length) (i:=0);cases hw:gQ l p
  ·rw[Bool.not_eq_false'];cases hs:(pr (fun i => !(match l[i]? with | some x=>p x | none=>true)) 0 l.length).1
   ·have h3:=h2.1 hs;have h4:gQ l p=true:=jP.2 fun x hx=>by
     obtain⟨j,hj⟩:=gO hx;have:=h3 j (aC.1 hj).1;simpa[hj]using this
    rw[hw]at h4;cases h4
   ·rfl
  ·rw[dR];refine h2.2 fun j hj=>?_
   have hx:=aI hj;have:=jP.1 hw _ (List.getElem_mem hj);simp[hx,this]
 rw[he]at h0;exact h0
end
end Go.Abs
namespace Go.Proofs.YtfgljaglidhjiaaGreatDoor
open List(length_flatMap map_take)
open Go Go.Abs Go.Rock
variable {σ:SK}
theorem aeU{r:Rw}:lim T (.call false kj [.agg r.enc] σ)=some (.val (.bool r.alone) σ):=by
 refine az Dy pX.eq_1 rfl ?_;cases hc1:cG r.t 0 400
 ·simp[-length_flatMap,-map_take,j4,Rw.alone,hc1]
 cases hc2:cG r.p 1 10000
 ·simp[-length_flatMap,-map_take,j4,Rw.alone,hc1,hc2]
 cases hc3:cG r.l 0 4000
 ·simp[-length_flatMap,-map_take,j4,Rw.alone,hc1,hc2,hc3]
 cases hc4:cG r.s 0 2000
 ·simp[-length_flatMap,-map_take,j4,Rw.alone,hc1,hc2,hc3,hc4]
 by_cases hc5:r.l<r.v
 rotate_left
 ·simp[-length_flatMap,-map_take,j4,Rw.alone,hc1,hc2,hc3,hc4,hc5]
 simp[-length_flatMap,-map_take,j4,Rw.alone,hc1,hc2,hc3,hc4,hc5]
theorem amg{l:List Rw}(hl:l.length≤1000000000):lim T (.call false jf [.aH l.length (l.flatMap Rw.enc),.fn kj [] []] σ)=some (.val (.bool (gQ l Rw.alone)) σ) :=
 zt (wP 5 Rw.enc (fun _=>rfl)) (f:=jf) (g:=kl) (h:=fh) (i:=gC) (l:=l) (p:=Rw.alone) rfl rfl rfl rfl (by omega) (pK.fn fun x _ σ=>aeU) rfl
theorem agP{t l:List Rw}{o:Rw}(hto:t=o::l)(hl:l.length≤100):∀(m i:Nat),i+m=l.length →
  WL T [0,16,17,18] false kg [(0,.aH t.length (t.flatMap Rw.enc)),(16,.aH l.length (l.flatMap Rw.enc)),(17,.int .i64 l.length),(18,.int .i64 i)] σ
   (fun x e σ'=>σ'=σ∧if EW (t.drop i)then x=.exit 0 else x=.ret∧get e 2=.bool false)
 |0,i,hi=>by
  refine aN kg.eq_1 ?_;have h1:¬i<l.length:=by omega
  have h2:t.drop i=[t[i]'(by subst hto;simp;omega)]:=by
   rw[List.drop_eq_getElem_cons (by subst hto;simp;omega),aA (by subst hto;simp;omega)]
  simp[-length_flatMap,-map_take,h1,h2,EW]
 |m+1,i,hi=>by
  refine aN kg.eq_1 ?_;have h1:i<l.length:=by omega
  have htl:t.length=l.length+1:=by subst hto;rfl
  obtain⟨r,hr⟩:=gE h1;obtain⟨r0,hr0⟩:∃r0,t[i]?=some r0:=gE (by omega);have h2:=bR (f:=Rw.enc) (w:=5) (fun _=>rfl) hr;have h3:=bR (f:=Rw.enc) (w:=5) (fun _=>rfl) hr0;have h4:=gG h1 (by omega);have h6:t.drop (i+1)=r::t.drop (i+2):=cS (by subst hto;simpa using hr);have h5:t.drop i=r0::r::t.drop (i+2):=by rw[cS hr0,h6]
  have ih:=agP hto hl m (i+1) (by omega);rw[h6]at ih;rw[h5,EW];have hlt:(i:Int)<(t.length:Int):=by omega
  have hlt':i<t.length:=by omega
  by_cases c1:r.t≤r0.t
  ·simp[-length_flatMap,-map_take,h1,hlt,hlt',h2,h3,h4,c1,Rw.IM]
  by_cases c2:r.p≤r0.p
  ·simp[-length_flatMap,-map_take,h1,hlt,hlt',h2,h3,h4,c1,c2,Rw.IM]
  by_cases c3:r.l≤r0.l
  ·simp[-length_flatMap,-map_take,h1,hlt,hlt',h2,h3,h4,c1,c2,c3,Rw.IM]
  by_cases c4:r.s<r0.s
  ·simp[-length_flatMap,-map_take,h1,hlt,hlt',h2,h3,h4,c1,c2,c3,c4,Rw.IM]
  ·simp[-length_flatMap,-map_take,h1,hlt,hlt',h2,h3,h4,c1,c2,c3,c4,Rw.IM];have hc:r0.t<r.t∧r0.p<r.p∧r0.l<r.l∧r0.s≤r.s:=by omega
   exact WL.to ih (by simp) rfl fun x e σ' hh=>by simpa[hc]using hh
theorem CC{t:List Rw}(hl:t.length≤1000000000):lim T (.call false iO [.aH t.length (t.flatMap Rw.enc)] σ)=some (.val (.bool (ku t)) σ):=by
 refine az Cf nU.eq_1 rfl ?_;have ha:=fun σ=>amg (σ:=σ) (l:=t) hl
 cases hc1:cG t.length 2 20
 ·simp[-length_flatMap,-map_take,j4,hc1,ku]
 cases hc2:gQ t Rw.alone
 ·simp[-length_flatMap,-map_take,j4,hc1,hc2,ha,ku]
 obtain⟨o,l,hto⟩:∃o l,t=o::l:=by
  cases t with
  |nil=>simp[cG]at hc1
  |cons o l=>exact⟨o,l,rfl⟩
 have hi:=ba.1 hc1;have htl:t.length=l.length+1:=by subst hto;rfl
 have h1:(1:Int)≤(t.length:Int):=by omega
 have h2:t.length-1=l.length:=by omega
 have h3:((t.flatMap Rw.enc).drop 5).take (l.length*5)=l.flatMap Rw.enc:=by
  subst hto;have:=Jw (f:=Rw.enc) (w:=5) (fun _=>rfl) l;simpa using this
 simp[-length_flatMap,-map_take,j4,hc1,hc2,ha,h1,h2,h3];refine WL.to (agP (σ:=[]::σ) hto (by omega) l.length 0 (by omega)) (by simp) rfl ?_;rintro x e σ' ⟨rfl,h⟩;simp only[aO]at h;unfold ku;cases hc3:EW t
 ·rw[hc3]at h;simp at h;simp[h,hc2,hc1]
 ·rw[hc3]at h;simp at h;subst h;simp[-length_flatMap,-map_take,hc2,hc1]
theorem zi{l:List Rw}(hl:l.length≤1000000000):lim T (.call false jx [.aH l.length (l.flatMap Rw.enc)] σ)=some (.val (.int .i64 (if ku l then 0 else 1)) σ):=by
 refine az CX oZ.eq_1 rfl ?_;cases hc:ku l<;>simp[-length_flatMap,-map_take,CC hl,hc]
theorem Nr{b:cr}(hx:1≤b.f.x∧b.f.x≤8)(hy:1≤b.f.y∧b.f.y≤8)(hz:1≤b.f.z∧b.f.z≤8):lim T (.call false de [.agg [.int .i64 b.f.x,.int .i64 b.f.y,.int .i64 b.f.z,.int .i64 b.f.k,.aH b.ck.length (b.ck.flatMap Rw.enc),.int .i64 b.bJ,.int .i64 b.lift,.int .i64 b.deep,.aH b.an.length (b.an.flatMap bG.enc)]] σ)=some (.val (.int .i64 b.size) σ):=by
 refine az FG sy.eq_1 rfl ?_;obtain⟨h1,h2⟩:=fP.sz hx hy hz;have w1:=fR (n:=b.f.x*b.f.y) (by omega);have w2:=fR (n:=b.f.x*b.f.y*b.f.z) (by omega);simp[-length_flatMap,-map_take,w1,w2,cr.size,fP.size]
def tw(b:Bool):List D:=[.bool b]
def sk(n:Nat)(an:List bG):Nat→List Bool
 |0=>List.replicate n false
 |i+1=>match an[i]? with
  |some w=>if cG w.b 0 ((n:Int)-1)=true∧(sk n an i)[w.b.toNat]?=some false then(sk n an i).set w.b.toNat true else sk n an i
  |none=>sk n an i
theorem zf{n:Nat}{an:List bG}:∀i,(sk n an i).length=n
 |0=>by simp[sk]
 |i+1=>by
  simp only[sk];split
  ·split
   ·simp[zf i]
   ·exact zf i
  ·exact zf i
def yb(n:Nat)(an:List bG)(i:Nat):Bool :=
 match an[i]? with
 |some w=>cG w.b 0 ((n:Int)-1) && (decide ((sk n an i)[w.b.toNat]?=some false) && (cG w.h 0 3000 && cG w.m 0 1000000))
 |none=>true
def E6(n:Nat)(an:List bG)(σ:SK)(i:Nat):SK:=[.cells 0 ((sk n an i).flatMap tw),.cells 0 [.sl σ.length 0 0 0 n 1]]::σ
theorem SV{l:List Bool}{j:Nat}{x:Bool}(h:l[j]?=some x):((l.flatMap tw).drop j)=.bool x::(l.flatMap tw).drop (j+1):=by
 have:=Bi (f:=tw) (w:=1) (fun _=>rfl) h;simpa[tw]using this
theorem QH{l:List Bool}{j:Nat}{x:Bool}(h:j<l.length):(l.flatMap tw).take j++(.bool x::(l.flatMap tw).drop (j+1))=(l.set j x).flatMap tw:=by
 have:=PF (f:=tw) (w:=1) (fun _=>rfl) (x:=x) h;simpa[tw]using this
theorem QG{l:List Bool}:(l.flatMap tw).length=l.length:=by
 have:=bZ (f:=tw) (w:=1) (fun _=>rfl) l;omega
theorem Mh{n:Nat}{an:List bG}(hn:n≤512){i:Nat}{w:bG}(hw:an[i]?=some w):
  lim T (.call false fx [.agg w.enc,.ref σ.length 1 0 0] ([]::[]::[]::[]::E6 n an σ i))=some (.val (.bool (yb n an i)) ([]::[]::[]::[]::E6 n an σ (i+1))):=by
 refine gw CM oL.eq_1 rfl (by simp[E6]) ?_;have hlen:=zf (n:=n) (an:=an) i;have w1:=fR (n:=(n:Int)-1) (by omega);have hwp:yb n an i=(cG w.b 0 ((n:Int)-1) && (decide ((sk n an i)[w.b.toNat]?=some false) && (cG w.h 0 3000 && cG w.m 0 1000000))):=by simp[yb,hw]
 have hus:sk n an (i+1)=if cG w.b 0 ((n:Int)-1)=true∧(sk n an i)[w.b.toNat]?=some false then(sk n an i).set w.b.toNat true else sk n an i:=by simp[sk,hw]
 rw[hwp];simp only[E6];generalize sk n an (i+1)=us' at *
 generalize sk n an i=us at *
 cases hc1:cG w.b 0 ((n:Int)-1)
 ·rw[hc1]at hus;simp at hus;subst hus;simp[-length_flatMap,-map_take,dH,w1,hc1]
 ·obtain⟨g1,g2⟩:=ba.1 hc1;have g3:w.b<(n:Int):=by omega
  obtain⟨u,hu⟩:∃u,us[w.b.toNat]?=some u:=⟨_,aI (by omega)⟩;have hat:=SV hu;have hset:=QH (l:=us) (j:=w.b.toNat) (x:=true) (by omega);have hlen2:(us.flatMap tw).length=n:=by rw[QG,hlen]
  have hle:w.b.toNat+1≤n:=by omega
  rw[hc1,hu]at hus;cases u
  ·simp at hus;subst hus;cases hc2:cG w.h 0 3000<;>
    simp[-length_flatMap,-map_take,dH,w1,hc1,hu,g1,g3,hat,hset,hlen2,hle,hc2]
  ·simp at hus;subst hus;simp[-length_flatMap,-map_take,dH,w1,hc1,hu,g1,g3,hat,hlen2]
theorem LP{n:Nat}{an:List bG}:∀{i:Nat},i≤an.length→(∀j,j<i→yb n an j=true)→∀k:Nat,k<n→(sk n an i)[k]?=some (((an.take i).map (·.b)).contains (k:Int))
 |0,_,_,k,hk=>by simp[sk,hk]
 |i+1,hi,h,k,hk=>by
  obtain⟨w,hw⟩:∃w,an[i]?=some w:=gE (by omega);have ih:=LP (i:=i) (by omega) (fun j hj=>h j (by omega));have hp:=h i (by omega);simp only[yb,hw,af,au]at hp;obtain⟨h1,h2,_⟩:=hp;obtain⟨g1,g2⟩:=ba.1 h1;have ht:an.take (i+1)=an.take i++[w]:=by rw[List.take_add_one,hw];rfl
  simp only[sk,hw];rw[if_pos ⟨h1,h2⟩,ht];rw[List.getElem?_set];by_cases hkw:w.b.toNat=k
  ·subst hkw;have hb:w.b=((w.b.toNat:Nat):Int):=by omega
   simp[zf,hk];right;omega
  ·rw[if_neg hkw,ih k hk];congr 1;have:((k:Int) == w.b)=false:=by simp;omega
   simp[List.contains_append,this];intro hh;omega
theorem Bu{n:Nat}{an:List bG}:∀(m i:Nat),i+m=an.length→(∀j,j<i→yb n an j=true) →
  (ug (n:Int) ((an.take i).map (·.b)) (an.drop i)=true↔∀j,i≤j→j<an.length→yb n an j=true)
 |0,i,hi,h=>by
  rw[aA (by omega)];simp only[ug,true_iff];intro j h1 h2;omega
 |m+1,i,hi,h=>by
  obtain⟨w,hw⟩:∃w,an[i]?=some w:=gE (by omega);have hu:=LP (n:=n) (i:=i) (by omega) h;have hone:bG.ok (n:Int) ((an.take i).map (·.b)) w=yb n an i:=by
   simp only[yb,hw,bG.ok];cases hc:cG w.b 0 ((n:Int)-1)
   ·rfl
   ·obtain⟨g1,g2⟩:=ba.1 hc;have:=hu w.b.toNat (by omega);rw[this,show((w.b.toNat:Nat):Int)=w.b from by omega];cases((an.take i).map (·.b)).contains w.b<;>simp
  rw[cS hw,ug,hone,af];have ht:(an.take i).map (·.b)++[w.b]=(an.take (i+1)).map (·.b):=by rw[List.take_add_one,hw];simp
  rw[ht];constructor
  ·rintro⟨h1,h2⟩ j hj1 hj2;by_cases hji:j=i
   ·subst hji;exact h1
   ·refine((Bu m (i+1) (by omega) fun j hj=>?_).1 h2) j (by omega) hj2;by_cases hji:j=i
    ·subst hji;exact h1
    ·exact h j (by omega)
  ·intro hh;have h1:=hh i (by omega) (by omega);refine⟨h1,(Bu m (i+1) (by omega) fun j hj=>?_).2 fun j hj1 hj2=>hh j (by omega) hj2⟩;by_cases hji:j=i
   ·subst hji;exact h1
   ·exact h j (by omega)
theorem Mi{n:Nat}{an:List bG}(hn:n≤512)(hl:an.length≤1000000000):∃s,
  lim T (.call false j1 [.aH an.length (an.flatMap bG.enc),.fn fx [] [.ref σ.length 1 0 0]] ([.cells 0 ((List.replicate n false).flatMap tw),.cells 0 [.sl σ.length 0 0 0 n 1]]::σ)) =
   some (.val (.bool (ug (n:Int) [] an)) (s::σ)):=by
 have h:=Jd (wP 3 bG.enc (fun _=>rfl)) (T:=T) (S:=E6 n an σ) (fv:=.fn fx [] [.ref σ.length 1 0 0]) (l:=an) (f:=j1) (g:=lk) (h:=fg) (i:=gB) (p:=yb n an)
  rfl rfl rfl rfl (by omega) rfl rfl rfl (fun i=>by simp[E6]) (fun i x hx=>by
   rw[rV];have:=Mh (σ:=σ) hn hx;show R.bh (lim T (.call false fx [.agg x.enc,.ref σ.length 1 0 0] _))=_
   rw[this];rfl)
 have he:(!(pr (fun i => !yb n an i) 0 an.length).1)=ug (n:Int) [] an:=by
  have h1:=Bu (n:=n) (an:=an) an.length 0 (by omega) (by simp);have h2:=BV (q:=fun i => !yb n an i) (m:=an.length) (i:=0);simp only[List.take_zero,bT,aO]at h1;cases hw:ug (n:Int) [] an
  ·rw[Bool.not_eq_false'];cases hs:(pr (fun i => !yb n an i) 0 an.length).1
   ·have h3:=h2.1 hs;have h4:=h1.2 fun j _ hj=>by have:=h3 j hj;simpa using this
    rw[hw]at h4;cases h4
   ·rfl
  ·rw[dR];refine h2.2 fun j hj=>?_
   have:=h1.1 hw j (by omega) hj;simpa using this
 rw[he]at h;refine⟨[.cells 0 ((sk n an (pr (fun i => !yb n an i) 0 an.length).2).flatMap tw),.cells 0 [.sl σ.length 0 0 0 n 1]],?_⟩;exact h
theorem AF{b:cr}(h1:b.ck.length≤1000000000)(h2:b.an.length≤1000000000):lim T (.call false jq [.agg [.int .i64 b.f.x,.int .i64 b.f.y,.int .i64 b.f.z,.int .i64 b.f.k,.aH b.ck.length (b.ck.flatMap Rw.enc),.int .i64 b.bJ,.int .i64 b.lift,.int .i64 b.deep,.aH b.an.length (b.an.flatMap bG.enc)]] σ)=some (.val (.bool b.valid) σ):=by
 refine az En rB.eq_1 rfl ?_;have hT:=fun σ=>zi (σ:=σ) (l:=b.ck) h1
 unfold cr.valid cr.ok1;cases hc1:b.f.valid
 ·simp[-length_flatMap,-map_take,jC,fP.shape,hc1]
 by_cases hc2:b.f.k<4
 ·simp[-length_flatMap,-map_take,jC,fP.shape,hc1,hc2,show ¬4≤b.f.k by omega]
 have hc2':4≤b.f.k:=by omega
 cases hc3:ku b.ck
 ·simp[-length_flatMap,-map_take,jC,fP.shape,hc1,hc2,hT,hc3]
 cases hc4:cG b.bJ 1 100000
 ·simp[-length_flatMap,-map_take,jC,fP.shape,hc1,hc2,hT,hc3,dH,hc4]
 cases hc5:cG b.lift 0 1000
 ·simp[-length_flatMap,-map_take,jC,fP.shape,hc1,hc2,hT,hc3,dH,hc4,hc5]
 cases hc6:cG b.deep 0 3000
 ·simp[-length_flatMap,-map_take,jC,fP.shape,hc1,hc2,hT,hc3,dH,hc4,hc5,hc6]
 by_cases hc7:8<b.an.length
 ·simp[-length_flatMap,-map_take,jC,fP.shape,hc1,hc2,hT,hc3,dH,hc4,hc5,hc6,hc7,show ¬b.an.length≤8 by omega,show(8:Int)<b.an.length by omega]
 obtain⟨g1,g2,g3,g4,g5⟩:=fP.tj.1 hc1;obtain⟨_,g6⟩:=fP.sz g1 g2 g3;have hsz:=fun σ=>Nr (σ:=σ) (b:=b) g1 g2 g3
 have hs:b.size=((b.n:Nat):Int):=by unfold cr.n cr.size fP.size;omega
 have hn:b.n≤512:=by unfold cr.n cr.size fP.size;omega
 have hnil:((List.range b.n).flatMap fun _=>[D.bool false])=(List.replicate b.n false).flatMap tw:=by
  have:∀n,((List.range n).flatMap fun _=>[D.bool false])=(List.replicate n false).flatMap tw:=by
   intro n;induction n with
   |zero=>rfl
   |succ n ih=>rw[List.range_succ,iI,ih,List.replicate_succ'];simp[tw]
  exact this _
 obtain⟨s,hall⟩:=Mi (σ:=σ) (n:=b.n) (an:=b.an) hn h2;rw[← hs]at hall;have hroom:(b.n:Int)≤70368744177664:=by omega
 rw[hs]at hsz;simp[-length_flatMap,-map_take,jC,fP.shape,hc1,hc2,hT,hc3,dH,hc4,hc5,hc6,show ¬(8:Int)<b.an.length by omega,show b.an.length≤8 by omega,hsz,room,hroom,hnil,hall,hc2']
theorem adz{l:List Int}{i n:Nat}:((l.flatMap aT).drop i).take n=((l.drop i).take n).flatMap aT:=by
 simp only[show aT=fun n=>[D.int .i64 n]from rfl,KT,← List.map_drop,← List.map_take]
theorem qB{l:List Int}{j:Nat}{x:Int}(h:l[j]?=some x):((l.flatMap aT).drop j).take 1=[.int .i64 x]:=by
 have:=bR (f:=aT) (w:=1) (fun _=>rfl) h;simpa using this
theorem cI(l:List Rw):D.bz (l.flatMap Rw.enc)=true:=gX (fun x=>by simp) l
theorem bj(l:List bG):D.bz (l.flatMap bG.enc)=true:=gX (fun x=>by simp) l
theorem bq(l:List Int):D.bz (l.flatMap aT)=true:=gX (fun x=>by simp) l
theorem GL(l:List Rock.aE):D.bz (l.flatMap aE.enc)=true:=gX (fun x=>by simp) l
structure Bv(b:cr):Prop where
 x:1≤b.f.x∧b.f.x≤8
 y:1≤b.f.y∧b.f.y≤8
 z:1≤b.f.z∧b.f.z≤8
 k:4≤b.f.k∧b.f.k≤6
 sz:b.f.size=((b.n:Nat):Int)
 n:1≤b.n∧b.n≤64
 ck:ku b.ck=true
 bJ:1≤b.bJ∧b.bJ≤100000
 lift:0≤b.lift∧b.lift≤1000
 deep:0≤b.deep∧b.deep≤3000
 an:b.an.length≤8
 ok:ug b.size [] b.an=true
theorem Bv.of{b:cr}(h:b.valid=true):Bv b:=by
 simp only[cr.valid,cr.ok1,af,au]at h;obtain⟨⟨h1,h2,h3,h4,h5,h6,h7⟩,h8⟩:=h;obtain⟨g1,g2,g3,g4,g5⟩:=fP.tj.1 h1;obtain⟨_,g6⟩:=fP.sz g1 g2 g3;refine⟨g1,g2,g3,⟨h2,g5.2⟩,?_,?_,h3,ba.1 h4,ba.1 h5,ba.1 h6,h7,h8⟩
 ·unfold cr.n cr.size fP.size;omega
 ·unfold cr.n cr.size;unfold fP.size at g4 ⊢;omega
theorem Bv.fv{b:cr}(h:Bv b):b.f.valid=true:=fP.tj.2 ⟨h.x,h.y,h.z,by have:=h.sz;have:=h.n;omega,by have:=h.k;omega⟩
structure Mv(b:cr)(m:cN):Prop where
 bv:Bv b
 len:(m.bh.length:Int)=b.f.k*b.f.size
theorem Mv.le{b:cr}{m:cN}(h:Mv b m):4*b.n≤m.bh.length∧m.bh.length≤384:=by
 have h1:=h.bv.k;have h2:=h.bv.sz;have h3:=h.bv.n;have h4:=h.len;have h5:=(fE h1.1 (by omega:(0:Int)≤b.f.size));have h6:=PL (a:=b.f.k) (b:=b.f.size) (A:=6) (B:=64) (by omega) h1.2 (by omega) (by omega);omega
theorem yG{b:cr}(h:Bv b):lim T (.call false de [.agg [.int .i64 b.f.x,.int .i64 b.f.y,.int .i64 b.f.z,.int .i64 b.f.k,.aH b.ck.length (b.ck.flatMap Rw.enc),.int .i64 b.bJ,.int .i64 b.lift,.int .i64 b.deep,.aH b.an.length (b.an.flatMap bG.enc)]] σ)=some (.val (.int .i64 b.n) σ):=by
 have:=Nr (σ:=σ) (b:=b) h.x h.y h.z;rw[show b.size=((b.n:Nat):Int)from h.sz]at this;exact this
theorem Gd{b:cr}{m:cN}(h:Mv b m){k:Nat}(hk:k<4):lim T (.call false eo [.agg [.int .i64 b.f.x,.int .i64 b.f.y,.int .i64 b.f.z,.int .i64 b.f.k,.aH b.ck.length (b.ck.flatMap Rw.enc),.int .i64 b.bJ,.int .i64 b.lift,.int .i64 b.deep,.aH b.an.length (b.an.flatMap bG.enc),.str m.name,.aH m.bh.length (m.bh.flatMap aT)],.int .i64 k] σ)=some (.val (.aH b.n ((vx b m k).flatMap aT)) σ):=by
 refine az CT oU.eq_1 rfl ?_;obtain⟨h1,h2⟩:=h.le;have h3:=h.bv.n;have hs:=fun σ=>yG (σ:=σ) h.bv
 have e1:(k:Int)*(b.n:Int)=((k*b.n:Nat):Int):=by push_cast;rfl
 have e2:((k:Int)+1)*(b.n:Int)=(((k+1)*b.n:Nat):Int):=by push_cast;rfl
 have b1:(k+1)*b.n≤m.bh.length:=jE (di _ (by omega:k+1≤4)) h1;have b2:(k+1)*b.n=k*b.n+b.n:=eT _ _;have w1:=fR (n:=(k:Int)*b.n) (by rw[e1];omega);have w2:=fR (n:=(k:Int)+1) (by omega);have w3:=fR (n:=((k:Int)+1)*b.n) (by rw[e2];omega);have e3:(k+1)*b.n-k*b.n=b.n:=by omega
 have hsub:=adz (l:=m.bh) (i:=k*b.n) (n:=b.n);have hle:(k:Int)*b.n≤((k:Int)+1)*b.n:=by rw[e1,e2];omega
 simp[-length_flatMap,-map_take,hs,w1,w2,w3];rw[e1,e2];have c1:(0:Int)≤((k*b.n:Nat):Int):=by omega
 have c2:((k*b.n:Nat):Int)≤(((k+1)*b.n:Nat):Int):=by omega
 have c3:(((k+1)*b.n:Nat):Int)≤(m.bh.length:Int):=by omega
 have c4:(0:Int)≤(((k+1)*b.n:Nat):Int):=by omega
 simp only[c1,c2,c3,c4,and_self,if_true,Int.toNat_natCast,Option.bind_some,aS,DB,e3,hsub];simp[-length_flatMap,-map_take,vx,hle,e3,hsub,bq]
theorem IB{b:cr}{m:cN}(h:Mv b m){k:Nat}(hk:k<4):(vx b m k).length=b.n:=by
 obtain⟨h1,h2⟩:=h.le;have b1:(k+1)*b.n≤m.bh.length:=jE (di _ (by omega:k+1≤4)) h1;have b2:(k+1)*b.n=k*b.n+b.n:=eT _ _;simp[vx];omega
theorem wX{b:cr}{m:cN}(h:Mv b m){k i:Nat}(hk:k<4)(hi:i<b.n):(vx b m k)[i]?=some (uQ b m k i):=by
 obtain⟨h1,h2⟩:=h.le;have b1:(k+1)*b.n≤m.bh.length:=jE (di _ (by omega:k+1≤4)) h1;have b2:(k+1)*b.n=k*b.n+b.n:=eT _ _;have h3:k*b.n+i<m.bh.length:=by omega
 simp only[vx,uQ,eh,eg,if_pos hi,aI h3,gP]
theorem R8{b:cr}{m:cN}(h:Mv b m){i:Nat}(hi:i<b.n):lim T (.call false fy [.agg [.int .i64 b.f.x,.int .i64 b.f.y,.int .i64 b.f.z,.int .i64 b.f.k,.aH b.ck.length (b.ck.flatMap Rw.enc),.int .i64 b.bJ,.int .i64 b.lift,.int .i64 b.deep,.aH b.an.length (b.an.flatMap bG.enc),.str m.name,.aH m.bh.length (m.bh.flatMap aT)],.int .i64 i] σ)=some (.val (.int .i64 (hold b m i)) σ):=by
 refine az CS oT.eq_1 rfl ?_;have hk:=fun σ=>Gd (σ:=σ) h (k:=0) (by omega)
 have ha:=qB (wX h (k:=0) (by omega) hi);simp only[Int.ofNat_zero]at hk;simp[-length_flatMap,-map_take,hk,hi,ha,hold]
theorem Sg{b:cr}{m:cN}(h:Mv b m){i:Nat}(hi:i<b.n):lim T (.call false jw [.agg [.int .i64 b.f.x,.int .i64 b.f.y,.int .i64 b.f.z,.int .i64 b.f.k,.aH b.ck.length (b.ck.flatMap Rw.enc),.int .i64 b.bJ,.int .i64 b.lift,.int .i64 b.deep,.aH b.an.length (b.an.flatMap bG.enc),.str m.name,.aH m.bh.length (m.bh.flatMap aT)],.int .i64 i] σ)=some (.val (.int .i64 (HW b m i)) σ):=by
 refine az CU oV.eq_1 rfl ?_;have hk:=fun σ=>Gd (σ:=σ) h (k:=1) (by omega)
 have ha:=qB (wX h (k:=1) (by omega) hi);simp at hk;simp[-length_flatMap,-map_take,hk,hi,ha,HW]
theorem amm{b:cr}{m:cN}(h:Mv b m){i:Nat}(hi:i<b.n):lim T (.call false lU [.agg [.int .i64 b.f.x,.int .i64 b.f.y,.int .i64 b.f.z,.int .i64 b.f.k,.aH b.ck.length (b.ck.flatMap Rw.enc),.int .i64 b.bJ,.int .i64 b.lift,.int .i64 b.deep,.aH b.an.length (b.an.flatMap bG.enc),.str m.name,.aH m.bh.length (m.bh.flatMap aT)],.int .i64 i] σ)=some (.val (.int .i64 (H4 b m i)) σ):=by
 refine az CW oX.eq_1 rfl ?_;have hk:=fun σ=>Gd (σ:=σ) h (k:=2) (by omega)
 have ha:=qB (wX h (k:=2) (by omega) hi);simp at hk;simp[-length_flatMap,-map_take,hk,hi,ha,H4]
theorem al8{b:cr}{m:cN}(h:Mv b m){i:Nat}(hi:i<b.n):lim T (.call false ju [.agg [.int .i64 b.f.x,.int .i64 b.f.y,.int .i64 b.f.z,.int .i64 b.f.k,.aH b.ck.length (b.ck.flatMap Rw.enc),.int .i64 b.bJ,.int .i64 b.lift,.int .i64 b.deep,.aH b.an.length (b.an.flatMap bG.enc),.str m.name,.aH m.bh.length (m.bh.flatMap aT)],.int .i64 i] σ)=some (.val (.int .i64 (feed b m i)) σ):=by
 refine az CP oR.eq_1 rfl ?_;have hk:=fun σ=>Gd (σ:=σ) h (k:=3) (by omega)
 have ha:=qB (wX h (k:=3) (by omega) hi);simp at hk;simp[-length_flatMap,-map_take,hk,hi,ha,feed]
theorem ae0{lo hi n:Int}:lim T (.call false ea [.int .i64 n,.ref σ.length 0 0 0] ([]::[]::[]::[]::[.cells 0 [.int .i64 lo,.int .i64 hi]]::σ))=some (.val (.bool (cG n lo hi)) ([]::[]::[]::[]::[.cells 0 [.int .i64 lo,.int .i64 hi]]::σ)):=by
 refine az AO mQ.eq_1 rfl ?_;simp[-length_flatMap,-map_take,dH]
theorem Qp{b:cr}{m:cN}(h:Mv b m){k:Nat}(hk:k<4){lo hi:Int}:lim T (.call false jZ [.aH b.n ((vx b m k).flatMap aT),.fn ea [] [.ref σ.length 0 0 0]] ([.cells 0 [.int .i64 lo,.int .i64 hi]]::σ)) =
  some (.val (.bool (gQ (vx b m k) fun n=>cG n lo hi)) ([.cells 0 [.int .i64 lo,.int .i64 hi]]::σ)):=by
 have hl:=IB h hk;have hn:=h.bv.n;have:=afy (Jo .i64) (T:=T) (f:=jZ) (g:=oe) (h:=cc) (i:=eu) (l:=vx b m k) (p:=fun n=>cG n lo hi) (fv:=.fn ea [] [.ref σ.length 0 0 0]) (σ:=[.cells 0 [.int .i64 lo,.int .i64 hi]]::σ)
  rfl rfl rfl rfl (by omega) rfl rfl rfl (fun x _=>by
   rw[rV];have:=ae0 (σ:=σ) (lo:=lo) (hi:=hi) (n:=x);show R.bh (lim T (.call false ea [.int .i64 x,.ref σ.length 0 0 0] _))=_
   rw[this];rfl)
 rw[hl]at this;exact this
def JN:Nat→Int×Int
 |0=>(1000,100000)
 |1=>(0,1000)
 |2=>(0,3000)
 |_=>(0,1000)
def yU(b:cr)(m:cN)(i:Nat):Nat→Bool
 |0=>true
 |n+1=>gQ (vx b m i) (fun x=>cG x (JN i).1 (JN i).2) && yU b m (i+1) n
theorem SE{b:cr}{m:cN}(h:Mv b m):∀(n i:Nat),i+n=4 →
  WL T [1,17,18] true mf [(1,.bF [.int .i64 b.f.x,.int .i64 b.f.y,.int .i64 b.f.z,.int .i64 b.f.k,.aH b.ck.length (b.ck.flatMap Rw.enc),.int .i64 b.bJ,.int .i64 b.lift,.int .i64 b.deep,.aH b.an.length (b.an.flatMap bG.enc),.str m.name,.aH m.bh.length (m.bh.flatMap aT)]),(17,.agg [.int .i64 1000,.int .i64 100000,.int .i64 0,.int .i64 1000,.int .i64 0,.int .i64 3000,.int .i64 0,.int .i64 1000]),(18,.int .i64 i)] σ
   (fun x e σ'=>σ'=σ∧if yU b m i n=true then x=.exit 0 else x=.ret∧get e 2=.bool false)
 |0,i,hi=>by
  refine DC mf.eq_1 ?_;obtain rfl:i=4:=by omega
  simp[-length_flatMap,-map_take,yU,cI,bj,bq]
 |n+1,i,hi=>by
  refine DC mf.eq_1 ?_;have hk:i<4:=by omega
  have hK:=fun σ=>Gd (σ:=σ) h hk
  have ih:=SE h n (i+1) (by omega);have hA:=Qp (σ:=σ) h hk (lo:=(JN i).1) (hi:=(JN i).2);simp only[yU];rcases Bool.eq_false_or_eq_true (gQ (vx b m i) (fun x=>cG x (JN i).1 (JN i).2))with hc | hc
  ·rw[hc]at hA;obtain rfl | rfl | rfl | rfl:i=0∨i=1∨i=2∨i=3:=by omega
   all_goals
    simp only[JN]at hA hc ⊢
    try simp at hK
    simp[-length_flatMap,-map_take,hK,hA,hc,cI,bj,bq];exact WL.to ih (by simp[cI,bj,bq]) (by simp[cI,bj,bq]) fun x e σ' hh=>by simpa[hc]using hh
  ·rw[hc]at hA;obtain rfl | rfl | rfl | rfl:i=0∨i=1∨i=2∨i=3:=by omega
   all_goals
    simp only[JN]at hA hc ⊢
    try simp at hK
    simp[-length_flatMap,-map_take,hK,hA,hc,cI,bj,bq]
theorem Mv.of{b:cr}{m:cN}(h:Bv b)(hc:gR b.f [m]=0):Mv b m:=by
 refine⟨h,?_⟩;simp only[gR,h.fv,if_true,fP.ar]at hc;have h1:cG (([m]:List cN).length:Nat) 1 40=true:=by simp[cG]
 rw[if_pos h1]at hc;simp only[fP.each]at hc;split at hc
 ·rename_i hm;unfold fP.model at hm;split at hm
  ·split at hm
   ·rename_i hh;exact hh.1
   ·cases hm
  ·cases hm
 ·rename_i hm;exact absurd hc hm
theorem Ma{b:cr}{m:cN}(h:Bv b)(hn:m.name.length≤1000000000)(hl:m.bh.length≤1000000000):lim T (.call false jv [.agg [.int .i64 b.f.x,.int .i64 b.f.y,.int .i64 b.f.z,.int .i64 b.f.k,.aH b.ck.length (b.ck.flatMap Rw.enc),.int .i64 b.bJ,.int .i64 b.lift,.int .i64 b.deep,.aH b.an.length (b.an.flatMap bG.enc),.str m.name,.aH m.bh.length (m.bh.flatMap aT)]] σ)=some (.val (.bool (fits b m)) σ):=by
 refine az CQ oS.eq_1 rfl ?_;have hC:=fun σ=>Cq (σ:=σ) (f:=b.f) (l:=[m]) (by simpa using⟨hn,hl⟩) (by simp)
 simp at hC;by_cases hc:gR b.f [m]=0
 ·have hm:=Mv.of h hc;simp[-length_flatMap,-map_take,hC,hc];refine WL.to (SE (σ:=[]::σ) hm 4 0 (by omega)) (by simp) rfl ?_;rintro x e σ' ⟨rfl,hh⟩;have he:yU b m 0 4=fits b m:=by
   simp[yU,fits,hc,JN]
  rw[he]at hh;cases hf:fits b m
  ·rw[hf]at hh;simp at hh;simp[hh]
  ·rw[hf]at hh;simp at hh;subst hh;simp[-length_flatMap,-map_take]
 ·simp[-length_flatMap,-map_take,hC,hc,fits]
theorem agH{b:cr}{m:cN}(h1:b.ck.length≤1000000000)(h2:b.an.length≤1000000000)(hn:m.name.length≤1000000000)(hl:m.bh.length≤1000000000)(hb:Bd b m=true):
  lim T (.call false sQ [.agg [.int .i64 b.f.x,.int .i64 b.f.y,.int .i64 b.f.z,.int .i64 b.f.k,.aH b.ck.length (b.ck.flatMap Rw.enc),.int .i64 b.bJ,.int .i64 b.lift,.int .i64 b.deep,.aH b.an.length (b.an.flatMap bG.enc)],.agg [.str m.name,.aH m.bh.length (m.bh.flatMap aT)]] σ)=some (.val (.dG [.agg [.int .i64 b.f.x,.int .i64 b.f.y,.int .i64 b.f.z,.int .i64 b.f.k,.aH b.ck.length (b.ck.flatMap Rw.enc),.int .i64 b.bJ,.int .i64 b.lift,.int .i64 b.deep,.aH b.an.length (b.an.flatMap bG.enc),.str m.name,.aH m.bh.length (m.bh.flatMap aT)],.int .i64 0]) σ):=by
 refine az Gu wU.eq_1 rfl ?_;simp only[Bd,af]at hb;have hf:=fun σ=>Ma (σ:=σ) (Bv.of hb.1) hn hl
 simp[-length_flatMap,-map_take,AF h1 h2,hb.1,hf,hb.2,cI,bj,bq]
theorem Np{b:cr}{m:cN}(h1:b.ck.length≤1000000000)(h2:b.an.length≤1000000000)(hn:m.name.length≤1000000000)(hl:m.bh.length≤1000000000)(hb:Bd b m=false):∃d,
  lim T (.call false sQ [.agg [.int .i64 b.f.x,.int .i64 b.f.y,.int .i64 b.f.z,.int .i64 b.f.k,.aH b.ck.length (b.ck.flatMap Rw.enc),.int .i64 b.bJ,.int .i64 b.lift,.int .i64 b.deep,.aH b.an.length (b.an.flatMap bG.enc)],.agg [.str m.name,.aH m.bh.length (m.bh.flatMap aT)]] σ)=some (.val (.dG [.agg d,.int .i64 1]) σ)∧d.length=11∧D.bz d=true:=by
 refine⟨[(.int .i64 0),(.int .i64 0),(.int .i64 0),(.int .i64 0),.aF,(.int .i64 0),(.int .i64 0),(.int .i64 0),.aF,(.str []),.aF],?_,rfl,by simp⟩;refine az Gu wU.eq_1 rfl ?_;cases hc:b.valid
 ·simp[-length_flatMap,-map_take,AF h1 h2,hc]
 ·have hf:=fun σ=>Ma (σ:=σ) (Bv.of hc) hn hl
  have hb':fits b m=false:=by simpa[Bd,hc]using hb
  simp[-length_flatMap,-map_take,AF h1 h2,hc,hf,hb']
theorem afa{n:Int}:lim T (.call false jn [.int .i64 n] σ)=some (.val (.bool (cG n (-100000) 100000)) σ):=by
 refine az CK oJ.eq_1 rfl ?_;simp[-length_flatMap,-map_take,dH]
theorem Qv{l:List Int}{p:Int→Bool}{fv:D}(hl:l.length≤1000000000)(ht:pK T fv (fun n => .int .i64 n) p l)(hc:fv.cells=some [fv]):
  lim T (.call false jZ [.aH l.length (l.flatMap aT),fv] σ)=some (.val (.bool (gQ l p)) σ) :=
 zt (Jo .i64) (f:=jZ) (g:=oe) (h:=cc) (i:=eu) (l:=l) (p:=p) (fv:=fv) rfl rfl rfl rfl (by omega) ht hc
theorem afb{b:cr}{l:List Int}(hl:l.length≤1000000000):lim T (.call false od [.agg [.int .i64 b.f.x,.int .i64 b.f.y,.int .i64 b.f.z,.int .i64 b.f.k,.aH b.ck.length (b.ck.flatMap Rw.enc),.int .i64 b.bJ,.int .i64 b.lift,.int .i64 b.deep,.aH b.an.length (b.an.flatMap bG.enc)],.aH l.length (l.flatMap aT)] σ)=some (.val (.int .i64 (zW b l)) σ):=by
 refine az Em rA.eq_1 rfl ?_;have ha:=fun σ=>Qv (σ:=σ) (l:=l) (p:=fun n=>cG n (-100000) 100000) (fv:=.fn jn [] []) hl (pK.fn fun x _ σ=>afa) rfl
 unfold zW;by_cases hc1:l.length=b.an.length
 ·rw[← hc1];cases hc2:gQ l (fun n=>cG n (-100000) 100000)<;>simp[-length_flatMap,-map_take,hc1,ha,hc2,hc1 ▸ ha]
 ·simp[-length_flatMap,-map_take,hc1,show ¬(l.length:Int)=b.an.length by omega]
def FT(l:List Int):List D:=[.aH l.length (l.flatMap aT)]
theorem SF{b:cr}{av:List (List Int)}(hl:av.length≤1000000000)(hs:∀l∈av,l.length≤1000000000):∀(m i:Nat),i+m=av.length →
  WL T [2,11,12,13] false nL [(2,.bF [.int .i64 b.f.x,.int .i64 b.f.y,.int .i64 b.f.z,.int .i64 b.f.k,.aH b.ck.length (b.ck.flatMap Rw.enc),.int .i64 b.bJ,.int .i64 b.lift,.int .i64 b.deep,.aH b.an.length (b.an.flatMap bG.enc)]),(11,.aH av.length (av.flatMap FT)),(12,.int .i64 av.length),(13,.int .i64 i)] σ
   (fun x e σ'=>σ'=σ∧if da (zW b) (av.drop i)=0 then x=.exit 0 else x=.ret∧get e 4=.int .i64 (da (zW b) (av.drop i)))
 |0,i,hi=>by
  refine aN nL.eq_1 ?_;have h1:¬i<av.length:=by omega
  have h2:av.drop i=[]:=aA (by omega);simp[-length_flatMap,-map_take,h1,h2,da]
 |m+1,i,hi=>by
  refine aN nL.eq_1 ?_;have h1:i<av.length:=by omega
  obtain⟨l,hx⟩:=gE h1;have h2:=bR (f:=FT) (w:=1) (fun _=>rfl) hx;simp only[FT,dX]at h2;have h4:=gG h1 (by omega);have h5:=cS hx;have hC:=fun σ=>afb (σ:=σ) (b:=b) (l:=l) (hs l (ai hx))
  rw[h5,da];have ih:=SF (b:=b) hl hs m (i+1) (by omega);by_cases hc:zW b l=0
  ·simp[-length_flatMap,-map_take,h1,h2,h4,hC,hc,FT];exact WL.to ih (by simp[FT]) rfl fun x e σ' hh=>by simpa[hc]using hh
  ·simp[-length_flatMap,-map_take,h1,h2,h4,hC,hc,FT]
theorem Sj{b:cr}{av:List (List Int)}(hl:av.length≤1000000000)(hs:∀l∈av,l.length≤1000000000):
  lim T (.call false mF [.agg [.int .i64 b.f.x,.int .i64 b.f.y,.int .i64 b.f.z,.int .i64 b.f.k,.aH b.ck.length (b.ck.flatMap Rw.enc),.int .i64 b.bJ,.int .i64 b.lift,.int .i64 b.deep,.aH b.an.length (b.an.flatMap bG.enc)],.aH av.length (av.flatMap FT)] σ)=some (.val (.int .i64 (vV b av)) σ):=by
 refine az FF sw.eq_1 rfl ?_;unfold vV;by_cases hc:200<av.length
 ·simp[-length_flatMap,-map_take,hc,show(200:Int)<av.length by omega]
 ·simp[-length_flatMap,-map_take,hc,show ¬(200:Int)<av.length by omega];refine WL.to (SF (σ:=[]::σ) (b:=b) hl hs av.length 0 (by omega)) (by simp) rfl ?_;rintro x e σ' ⟨rfl,h⟩;simp only[aO]at h;by_cases hc2:da (zW b) av=0
  ·rw[if_pos hc2]at h;subst h;simp[-length_flatMap,-map_take,hc2,show av.length≤200 by omega]
  ·rw[if_neg hc2]at h;obtain⟨rfl,h⟩:=h;simp[h,show ¬200<av.length by omega]
structure Fv(b:cr)(m:cN):Prop extends Mv b m where
 hold:∀i,i<b.n→1000≤Rock.hold b m i∧Rock.hold b m i≤100000
 HW:∀i,i<b.n→0≤Rock.HW b m i∧Rock.HW b m i≤1000
 H4:∀i,i<b.n→0≤Rock.H4 b m i∧Rock.H4 b m i≤3000
 feed:∀i,i<b.n→0≤Rock.feed b m i∧Rock.feed b m i≤1000
theorem Fv.of{b:cr}{m:cN}(h:Bd b m=true):Fv b m:=by
 simp only[Bd,fits,af,au]at h;obtain⟨h1,h2,h3,h4,h5,h6⟩:=h;have hm:=Mv.of (Bv.of h1) h2;have key:∀{k:Nat} {lo hi:Int},k<4→gQ (vx b m k) (fun n=>cG n lo hi)=true→∀i,i<b.n→lo≤uQ b m k i∧uQ b m k i≤hi:=by
  intro k lo hi hk ha i hi';exact ba.1 (jP.1 ha _ (ai (wX hm hk hi')))
 exact⟨hm,key (by omega) h3,key (by omega) h4,key (by omega) h5,key (by omega) h6⟩
theorem Bt{b:cr}(h:Bv b){i:Nat}(hi:i<b.n):0≤weight b i∧weight b i≤64000:=by
 have hl:=h.lift;have hn:=h.n;have hle:i / (b.f.x.toNat*b.f.y.toNat)≤i:=Nat.div_le_self _ _;have hq:=Int.natCast_nonneg (i / (b.f.x.toNat*b.f.y.toNat));have hle2:((i / (b.f.x.toNat*b.f.y.toNat):Nat):Int)≤64:=by
  have:i / (b.f.x.toNat*b.f.y.toNat)≤64:=by omega
  exact Int.ofNat_le.2 this
 unfold weight;exact oq (A:=64) (B:=1000) hq hle2 hl.1 hl.2
theorem Gh{b:cr}{m:cN}(h:Bv b){i:Nat}(hi:i<b.n):lim T (.call false fA [.agg [.int .i64 b.f.x,.int .i64 b.f.y,.int .i64 b.f.z,.int .i64 b.f.k,.aH b.ck.length (b.ck.flatMap Rw.enc),.int .i64 b.bJ,.int .i64 b.lift,.int .i64 b.deep,.aH b.an.length (b.an.flatMap bG.enc),.str m.name,.aH m.bh.length (m.bh.flatMap aT)],.int .i64 i] σ)=some (.val (.int .i64 (weight b i)) σ):=by
 refine az AP mS.eq_1 rfl ?_;have hx:=h.x;have hy:=h.y;have hn:=h.n;obtain⟨s1,_⟩:=fP.sz h.x h.y h.z;have w1:=fR (n:=b.f.x*b.f.y) (by omega);have e1:b.f.x*b.f.y=((b.f.x.toNat*b.f.y.toNat:Nat):Int):=by push_cast;rw[fT (by omega),fT (by omega)]
 have e2:(i:Int) / (b.f.x*b.f.y)=((i / (b.f.x.toNat*b.f.y.toNat):Nat):Int):=by
  rw[e1];rfl
 have hle:i / (b.f.x.toNat*b.f.y.toNat)≤i:=Nat.div_le_self _ _;have hw:=Bt h hi;have hq:(0:Int)≤(i:Int) / (b.f.x*b.f.y):=by rw[e2];exact Int.natCast_nonneg _
 have hq2:(i:Int) / (b.f.x*b.f.y)≤64:=by
  rw[e2];have:i / (b.f.x.toNat*b.f.y.toNat)≤64:=by omega
  exact Int.ofNat_le.2 this
 have w2:=fR (n:=(i:Int) / (b.f.x*b.f.y)) (by omega);have w3:=fR (n:=weight b i) (by omega);have hne:¬b.f.x*b.f.y=0:=by omega
 have hnx:¬b.f.x=0:=by omega
 have hny:¬b.f.y=0:=by omega
 have e3:(i:Int) / (b.f.x*b.f.y)*b.lift=weight b i:=by rw[e2];rfl
 simp[-length_flatMap,-map_take,w1,w2,hne,hnx,hny,e3,w3]
theorem al6{n d:Int}(hn : -200000000000≤n∧n≤200000000000)(hd:1≤d∧d≤100000):lim T (.call false vw [.int .i64 n,.int .i64 d] σ)=some (.val (.int .i64 (down n d)) σ):=by
 refine az Kq xK.eq_1 rfl ?_;have h1:=Int.mul_tdiv_add_tmod n d;have h2:=Int.tmod_lt_of_pos n (show 0<d by omega);have h3:=Int.lt_tmod_of_pos n (show 0<d by omega);unfold down;generalize hq:n.tdiv d=q at *
 generalize n.tmod d=r at *
 have h4:d*q=q*d:=Int.mul_comm _ _;have hb : -200000100001≤q∧q≤200000100001:=by
  rcases mH 0 q with h | h
  ·have:=Int.mul_le_mul_of_nonneg_left hd.1 h;omega
  ·have:=Int.mul_le_mul_of_nonpos_left h hd.1;omega
 have w1:=fR (n:=q) (by omega);have w2:=fR (n:=q*d) (by omega);have w3:=fR (n:=q-1) (by omega);have hne:¬d=0:=by omega
 have key:n / d=if n<q*d then q-1 else q:=by
  split
  ·rename_i hc;refine((Int.ediv_emod_unique (r:=r+d) (show 0<d by omega)).2 ⟨?_,?_,?_⟩).1
   ·rw[Int.mul_sub];omega
   ·omega
   ·omega
  ·rename_i hc;refine((Int.ediv_emod_unique (r:=r) (show 0<d by omega)).2 ⟨?_,?_,?_⟩).1<;>omega
 rw[key];by_cases hc:n<q*d<;>simp[-length_flatMap,-map_take,hq,w1,w2,w3,hne,hc]
theorem xO{α:Type}{f:α→List D}{w n:Nat}(hn:1<n)(hw:∀x,(f x).length=w)(hc:∀x,D.bz (f x)=true){l:List α}{j v:Nat}{bs:List Abs.aE}(hσ:σ≠[])(hj:bs[j]?=some (.cells v (l.flatMap f))):
  cz (σ.length-1) n (.sl σ.length j v 0 l.length w) (bs::σ)=(.aH l.length (l.flatMap f),bs.set j .dead::σ):=by
 have h3:¬σ.length≤σ.length-1:=by have:=aK.2 hσ;omega
 rw[C7 h3 (cs:=l.flatMap f) (by simp[hj]) (by omega)];have h4:0<n-1:=by omega
 simp[Jw hw l,gX hc l,h4]
theorem BG{b:cr}{m:cN}:(dS b m).length=b.n:=by simp[dS]
theorem F2(l:List Rock.aE):(l.flatMap aE.enc).length=l.length*3:=bZ (f:=aE.enc) (w:=3) (fun _=>rfl) l
theorem Nw{b:cr}{m:cN}(h:Fv b m):∀(n i v:Nat),i+n=b.n →
  WL T [1,2,6,7] false kY [(1,.bF [.int .i64 b.f.x,.int .i64 b.f.y,.int .i64 b.f.z,.int .i64 b.f.k,.aH b.ck.length (b.ck.flatMap Rw.enc),.int .i64 b.bJ,.int .i64 b.lift,.int .i64 b.deep,.aH b.an.length (b.an.flatMap bG.enc),.str m.name,.aH m.bh.length (m.bh.flatMap aT)]),(2,.sl σ.length 0 v 0 i 3),(6,.int .i64 b.n),(7,.int .i64 i)] ([.cells v (((dS b m).take i).flatMap aE.enc)]::σ)
   (fun x e σ'=>x=.exit 0∧get e 2=.sl σ.length 0 (v+n) 0 (dS b m).length 3∧σ'=[.cells (v+n) ((dS b m).flatMap aE.enc)]::σ)
 |0,i,v,hi=>by
  refine aN kY.eq_1 ?_;obtain rfl:i=b.n:=by omega
  have h3:(dS b m).take b.n=dS b m:=aj (by simp[BG]);simp[-length_flatMap,-map_take,h3,BG]
 |n+1,i,v,hi=>by
  refine aN kY.eq_1 ?_;have h1:i<b.n:=by omega
  have hn:=h.bv.n;have h4:=gG h1 (by omega);have ho:=fun σ=>R8 (σ:=σ) h.toMv h1
  have hw:=fun σ=>amm (σ:=σ) h.toMv h1
  have b1:=h.hold i h1;have b2:=h.H4 i h1;have b3:=oq (by omega:0≤hold b m i) b1.2 b2.1 b2.2;have w1:=fR (n:=hold b m i*H4 b m i) (by omega);have ih:=Nw h n (i+1) (v+1) (by omega);have hx:(dS b m)[i]?=some ⟨hold b m i,hold b m i*H4 b m i,0⟩:=by simp[dS,h1]
  have a3:=EG (f:=aE.enc) hx;have a4:=F2 ((dS b m).take i);rw[lA,BG,Nat.min_eq_left (by omega)]at a4;have a6:(((dS b m).take i).flatMap aE.enc).take (i*3)=((dS b m).take i).flatMap aE.enc:=aj (by omega);have h7:(i+1)*24≤room:=by unfold room;omega
  simp[-length_flatMap,-map_take,h1,h4,ho,hw,w1,a4,a6,h7,cI,bj,bq];refine WL.to ih (by simp[cI,bj,bq]) (by simp[← a3]) fun x e σ hh=>by simpa[dr,Nat.add_comm 1 n]using hh
theorem Eg{b:cr}{m:cN}(h:Fv b m)(hσ:σ≠[]):lim T (.call false iN [.agg [.int .i64 b.f.x,.int .i64 b.f.y,.int .i64 b.f.z,.int .i64 b.f.k,.aH b.ck.length (b.ck.flatMap Rw.enc),.int .i64 b.bJ,.int .i64 b.lift,.int .i64 b.deep,.aH b.an.length (b.an.flatMap bG.enc),.str m.name,.aH m.bh.length (m.bh.flatMap aT)]] σ)=some (.val (RW (dS b m)) σ):=by
 refine az Ca nN.eq_1 rfl ?_;have hs:=fun σ=>yG (σ:=σ) h.bv
 simp[-length_flatMap,-map_take,hs,cI,bj,bq];refine WL.to (Nw (σ:=σ) h b.n 0 0 (by omega)) (by simp) (by simp) ?_;rintro x e σ' ⟨rfl,g2,rfl⟩;simp[-length_flatMap,-map_take,g2];rw[xO (f:=aE.enc) (by decide) (fun _=>rfl) (fun x=>by simp) hσ (by simp)];simp[RW]
end Go.Proofs.YtfgljaglidhjiaaGreatDoor
