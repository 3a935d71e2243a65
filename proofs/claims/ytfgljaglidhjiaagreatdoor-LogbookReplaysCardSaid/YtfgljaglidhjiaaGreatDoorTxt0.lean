import Derived.Test.YtfgljaglidhjiaaGreatDoorBase20
import Derived.Test.YtfgljaglidhjiaaGreatDoorTab
set_option linter.all false
namespace Go.Rock
open List(length_flatMap map_take)
open Go Go.Abs
structure fT where
 x:Int
 y:Int
 z:Int
 k:Int
structure Rw where
 t:Int
 p:Int
 l:Int
 v:Int
 s:Int
structure bH where
 b:Int
 h:Int
 m:Int
structure cC where
 f:fT
 cf:List Rw
 bJ:Int
 lift:Int
 deep:Int
 av:List bH
structure cX where
 name:List UInt8
 bg:List Int
structure aG where
 m:Int
 h:Int
 k:Int
@[simp] theorem fT.eta(p:fT):fT.mk p.x p.y p.z p.k=p:=rfl
@[simp] theorem Rw.eta(p:Rw):Rw.mk p.t p.p p.l p.v p.s=p:=rfl
@[simp] theorem bH.eta(p:bH):bH.mk p.b p.h p.m=p:=rfl
@[simp] theorem aG.eta(p:aG):aG.mk p.m p.h p.k=p:=rfl
@[simp] def fT.enc(f:fT):List D:=[.int .i64 f.x,.int .i64 f.y,.int .i64 f.z,.int .i64 f.k]
@[simp] def Rw.enc(r:Rw):List D:=[.int .i64 r.t,.int .i64 r.p,.int .i64 r.l,.int .i64 r.v,.int .i64 r.s]
@[simp] def bH.enc(r:bH):List D:=[.int .i64 r.b,.int .i64 r.h,.int .i64 r.m]
@[simp] def aG.enc(r:aG):List D:=[.int .i64 r.m,.int .i64 r.h,.int .i64 r.k]
@[simp] def aU(n:Int):List D:=[.int .i64 n]
@[simp] def cC.enc(b:cC):List D:=[.int .i64 b.f.x,.int .i64 b.f.y,.int .i64 b.f.z,.int .i64 b.f.k,.aK b.cf.length (b.cf.flatMap Rw.enc),.int .i64 b.bJ,.int .i64 b.lift,.int .i64 b.deep,.aK b.av.length (b.av.flatMap bH.enc)]
@[simp] def cX.enc(m:cX):List D:=[.str m.name,.aK m.bg.length (m.bg.flatMap aU)]
def stE(s:List aG):D:=.aK s.length (s.flatMap aG.enc)
def cV(n lo hi:Int):Bool:=decide (lo≤n) && decide (n≤hi)
theorem bf{n lo hi:Int}:cV n lo hi=true↔lo≤n∧n≤hi:=by simp[cV]
def fT.size(f:fT):Int:=f.x*f.y*f.z
def fT.valid(f:fT):Bool:=cV f.x 1 8 && (cV f.y 1 8 && (cV f.z 1 8 && (decide (f.size≤64) && cV f.k 1 6)))
theorem fT.ur{f:fT}:f.valid=true↔(1≤f.x∧f.x≤8)∧(1≤f.y∧f.y≤8)∧(1≤f.z∧f.z≤8)∧f.size≤64∧(1≤f.k∧f.k≤6):=by
 simp[fT.valid,cV,and_assoc]
def fT.shape(f:fT):Int:=if f.valid then 0 else 1
def letter(c:UInt8):Bool:=decide (97≤c.toNat) && decide (c.toNat≤122)
def digit(c:UInt8):Bool:=decide (48≤c.toNat) && decide (c.toNat≤57)
def yr(i:Nat):List UInt8→Bool
 |[]=>true
 |c::l=>(letter c || (decide (i≠0) && digit c)) && yr (i+1) l
def named(s:List UInt8):Bool:=yr 0 s && cV s.length 1 16
def fT.model(f:fT)(m:cX):Int:=if named m.name then(if(m.bg.length:Int)=f.k*f.size∧gW m.bg (fun n=>cV n (-100000) 100000)=true then 0 else 1)else 5
def fT.each(f:fT)(met:List (List UInt8)):List cX→Int
 |[]=>0
 |m::l=>if f.model m=0 then(if met.contains m.name then 6 else f.each (met++[m.name]) l)else f.model m
def fT.az(f:fT)(l:List cX):Int:=if cV l.length 1 40 then f.each [] l else 3
def gX(f:fT)(l:List cX):Int:=if f.valid then f.az l else 1
def Rw.alone(r:Rw):Bool:=cV r.t 0 400 && (cV r.p 1 10000 && (cV r.l 0 4000 && (cV r.s 0 2000 && (decide (r.l<r.v) && decide (r.v≤4000)))))
def Rw.PC(o r:Rw):Bool := !(decide (r.t≤o.t) || (decide (r.p≤o.p) || (decide (r.l≤o.l) || decide (r.s<o.s))))
def KH:List Rw→Bool
 |o::r::l=>o.PC r && KH (r::l)
 |_=>true
def lB(t:List Rw):Bool:=cV t.length 2 20 && (gW t Rw.alone && KH t)
def bH.ok(size:Int)(used:List Int)(w:bH):Bool:=cV w.b 0 (size-1) && (!used.contains w.b && (cV w.h 0 3000 && cV w.m 0 1000000))
def vy(size:Int)(used:List Int):List bH→Bool
 |[]=>true
 |w::l=>w.ok size used && vy size (used++[w.b]) l
def cC.size(b:cC):Int:=b.f.size
def cC.ok1(b:cC):Bool:=b.f.valid && (decide (4≤b.f.k) && (lB b.cf && (cV b.bJ 1 100000 && (cV b.lift 0 1000 && (cV b.deep 0 3000 && decide (b.av.length≤8))))))
def cC.valid(b:cC):Bool:=b.ok1 && vy b.size [] b.av
def cC.n(b:cC):Nat:=b.size.toNat
def xi(b:cC)(m:cX)(k:Nat):List Int:=(m.bg.drop (k*b.n)).take b.n
def wz(b:cC)(m:cX)(k:Nat)(i:Nat):Int:=(m.bg[k*b.n+i]?).getD 0
def hold(b:cC)(m:cX)(i:Nat):Int:=wz b m 0 i
def OL(b:cC)(m:cX)(i:Nat):Int:=wz b m 1 i
def OR(b:cC)(m:cX)(i:Nat):Int:=wz b m 2 i
def feed(b:cC)(m:cX)(i:Nat):Int:=wz b m 3 i
def fits(b:cC)(m:cX):Bool:=decide (gX b.f [m]=0) && (gW (xi b m 0) (fun n=>cV n 1000 100000) && (gW (xi b m 1) (fun n=>cV n 0 1000) && (gW (xi b m 2) (fun n=>cV n 0 3000) && gW (xi b m 3) (fun n=>cV n 0 1000))))
def Bd(b:cC)(m:cX):Bool:=b.valid && fits b m
def dX(b:cC)(m:cX):List aG:=(List.range b.n).map fun i=>⟨hold b m i,hold b m i*OR b m i,0⟩
def aG.valid(x:aG):Bool:=cV x.m 1 1000000 && (cV x.h 0 10000000000 && cV x.k 0 1000000000000)
def zY(b:cC)(s:List aG):Bool:=decide ((s.length:Int)=b.size) && gW s aG.valid
def weight(b:cC)(i:Nat):Int:=((i / (b.f.x.toNat*b.f.y.toNat):Nat):Int)*b.lift
def down(n d:Int):Int:=n / d
def bS(s:List aG)(i:Nat):aG:=(s[i]?).getD ⟨0,0,0⟩
def rz(x:aG)(out:Int)(r:Rw):Int:=if r.l*x.m≤x.h then max out r.p else out
def mf(b:cC)(m:cX)(s:List aG)(i:Nat):Int :=
 b.cf.foldl (rz (bS s i)) (max 0 (weight b i+down (b.bJ*((bS s i).m-hold b m i)) (hold b m i)))
def bX(b:cC)(m:cX)(s:List aG):List Int:=(List.range s.length).map (mf b m s)
def zO(b:cC)(i:Nat):List (Nat×Nat) :=
 (if(i+1)%b.f.x.toNat≠0 then [(i,i+1)]else [])++((if i / b.f.x.toNat%b.f.y.toNat≠b.f.y.toNat-1 then [(i,i+b.f.x.toNat)]else [])++(if i+b.f.x.toNat*b.f.y.toNat<b.n then [(i,i+b.f.x.toNat*b.f.y.toNat)]else []))
def Ps(b:cC):List (Nat×Nat):=(List.range b.n).flatMap (zO b)
def aG.out(x:aG)(m:Int):aG:=⟨m,(x.h*m).tdiv x.m,(x.k*m).tdiv x.m⟩
def aG.move(x o:aG)(sign:Int):aG:=⟨x.m+sign*o.m,x.h+sign*o.h,x.k+sign*o.k⟩
def R4(b:cC)(m:cX)(s:List aG)(p:List Int)(l:Nat×Nat):Option ((Nat×Nat)×aG) :=
 let d:=(p[l.1]?).getD 0-weight b l.1-(p[l.2]?).getD 0+weight b l.2
 let l':=if d<0 then(l.2,l.1)else l
 let d':=if d<0 then -d else d
 let q:=min ((min (OL b m l'.1) (OL b m l'.2)*d').tdiv 1000) ((bS s l'.1).m.tdiv 8)
 if 0<q then some (l',(bS s l'.1).out q)else none
def ail(es:List ((Nat×Nat)×aG))(k:Nat×Nat)(o:aG):List ((Nat×Nat)×aG) :=
 match es.findIdx? (fun e=>e.1 == k)with
 |some j=>es.set j (k,o)
 |none=>es++[(k,o)]
def qY(b:cC)(m:cX)(s:List aG)(p:List Int)(es:List ((Nat×Nat)×aG))(l:Nat×Nat):List ((Nat×Nat)×aG) :=
 match R4 b m s p l with
 |some e=>ail es e.1 e.2
 |none=>es
def xd(b:cC)(m:cX)(s:List aG):List ((Nat×Nat)×aG):=(Ps b).foldl (qY b m s (bX b m s)) []
def iY(s:List aG)(i:Nat)(o:aG)(sign:Int):List aG:=s.set i ((bS s i).move o sign)
def eW(s:List aG)(e:(Nat×Nat)×aG):List aG:=iY (iY s e.1.1 e.2 (-1)) e.1.2 e.2 1
def bH.given(w:bH)(rate:Int):aG:=⟨-rate,-rate*w.h,-rate*w.m⟩
def sC(s:List aG)(w:bH)(rate:Int):aG:=if rate<0 then⟨0,0,0⟩else(bS s w.b.toNat).out (min rate ((bS s w.b.toNat).m.tdiv 8))
def vx(s next:List aG)(w:bH)(rate:Int):List aG:=if rate<0 then iY next w.b.toNat (w.given rate) 1 else iY next w.b.toNat (sC s w rate) (-1)
def fed(b:cC)(m:cX)(i:Nat):aG:=⟨feed b m i,feed b m i*b.deep,0⟩
def H5(b:cC)(m:cX)(s:List aG)(aR:List Int):List aG :=
 let s1:=(xd b m s).foldl eW s
 let s2:=(b.av.zip aR).foldl (fun n wr=>vx s n wr.1 wr.2) s1
 (List.range s.length).foldl (fun n i=>iY n i (fed b m i) 1) s2
def eE(b:cC)(s:List aG)(aR:List Int):List aG:=(b.av.zip aR).map fun wr=>sC s wr.1 wr.2
def tick(b:cC)(m:cX)(s:List aG)(aR:List Int):Option (List aG×List aG) :=
 if zY b (H5 b m s aR)then some (H5 b m s aR,eE b s aR)else none
def AO(b:cC)(l:List Int):Int:=if l.length=b.av.length then(if gW l (fun n=>cV n (-100000) 100000)then 0 else 2)else 1
def cQ{α:Type}(f:α→Int):List α→Int
 |[]=>0
 |x::l=>if f x=0 then cQ f l else f x
def vU(b:cC)(aC:List (List Int)):Int:=if 200<aC.length then 3 else cQ (AO b) aC
def wE(b:cC)(m:cX):List (List aG)→List (List aG)→List aG→List (List Int)→Option (List (List aG)×List (List aG))
 |ss,ys,_,[]=>some (ss,ys)
 |ss,ys,s,r::aC =>
  match tick b m s r with
  |some (s',y)=>wE b m (ss++[s']) (ys++[y]) s' aC
  |none=>none
def run(b:cC)(m:cX)(aC:List (List Int)):Option (List (List aG)×List (List aG)):=wE b m [dX b m] [] (dX b m) aC
end Go.Rock
namespace Go.Proofs.YtfgljaglidhjiaaGreatDoor
open List(length_flatMap map_take)
open Go Go.Abs Go.Rock
variable {σ:SK}
theorem agR{a b A B:Int}(h1:1≤a)(h2:a≤A)(h3:1≤b)(h4:b≤B):1≤a*b∧a*b≤A*B :=
 ⟨by have:=Int.mul_pos (a:=a) (b:=b) (by omega) (by omega);omega,mK h2 h4 (by omega) (by omega)⟩
theorem pC{a b A B:Int}(h1:0≤a)(h2:a≤A)(h3:0≤b)(h4:b≤B):0≤a*b∧a*b≤A*B :=
 ⟨fq h1 h3,mK h2 h4 h3 (by omega)⟩
theorem fT.sz{f:fT}(hx:1≤f.x∧f.x≤8)(hy:1≤f.y∧f.y≤8)(hz:1≤f.z∧f.z≤8):(1≤f.x*f.y∧f.x*f.y≤64)∧(1≤f.x*f.y*f.z∧f.x*f.y*f.z≤512):=by
 have h1:=agR hx.1 hx.2 hy.1 hy.2;have h2:=agR h1.1 h1.2 hz.1 hz.2;exact⟨by omega,by omega⟩
theorem dN{a b c:Int}:bw T (.call false ct [.int .i64 a,.int .i64 b,.int .i64 c] σ)=some (.val (.bool (cV a b c)) σ):=by
 refine aD N6 OD rfl ?_;by_cases h:b≤a<;>simp[-length_flatMap,-map_take,h,cV]
theorem gS{a b c:Int}:bw T (.call false dR [.int .i64 a,.int .i64 b,.int .i64 c] σ)=some (.val (.bool (cV a b c)) σ):=by
 refine aD Mu M9 rfl ?_;by_cases h:b≤a<;>simp[-length_flatMap,-map_take,h,cV]
theorem kS{a b c:Int}:bw T (.call false dz [.int .i64 a,.int .i64 b,.int .i64 c] σ)=some (.val (.bool (cV a b c)) σ):=by
 refine aD MD Nh rfl ?_;by_cases h:b≤a<;>simp[-length_flatMap,-map_take,h,cV]
theorem Mf{f:fT}(hx:1≤f.x∧f.x≤8)(hy:1≤f.y∧f.y≤8)(hz:1≤f.z∧f.z≤8):bw T (.call false du [.agg [.int .i64 f.x,.int .i64 f.y,.int .i64 f.z,.int .i64 f.k]] σ)=some (.val (.int .i64 f.size) σ):=by
 refine aD DG Ee rfl ?_;obtain⟨h1,h2⟩:=fT.sz hx hy hz;have w1:=gQ (n:=f.x*f.y) (by omega);have w2:=gQ (n:=f.x*f.y*f.z) (by omega);simp[-length_flatMap,-map_take,w1,w2,fT.size]
theorem aiR{f:fT}:bw T (.call false l4 [.agg [.int .i64 f.x,.int .i64 f.y,.int .i64 f.z,.int .i64 f.k]] σ)=some (.val (.bool f.valid) σ):=by
 refine aD Ft Ga rfl ?_;cases hc1:cV f.x 1 8
 ·simp[-length_flatMap,-map_take,gS,fT.valid,hc1]
 cases hc2:cV f.y 1 8
 ·simp[-length_flatMap,-map_take,gS,fT.valid,hc1,hc2]
 cases hc3:cV f.z 1 8
 ·simp[-length_flatMap,-map_take,gS,fT.valid,hc1,hc2,hc3]
 have hb:=fun σ=>Mf (σ:=σ) (f:=f) (bf.1 hc1) (bf.1 hc2) (bf.1 hc3)
 by_cases hc4:f.size≤64
 ·simp[-length_flatMap,-map_take,gS,fT.valid,hc1,hc2,hc3,hc4,hb]
 ·simp[-length_flatMap,-map_take,gS,fT.valid,hc1,hc2,hc3,hc4,hb]
theorem LX{f:fT}:bw T (.call false cS [.agg [.int .i64 f.x,.int .i64 f.y,.int .i64 f.z,.int .i64 f.k]] σ)=some (.val (.int .i64 f.shape) σ):=by
 refine aD Fs F9 rfl ?_;have hb:=fun σ=>aiR (σ:=σ) (f:=f)
 cases hc:f.valid<;>rw[hc]at hb<;>simp[-length_flatMap,-map_take,hb,fT.shape,hc]
theorem j9{f:fT}:bw T (.call false jS [.agg [.int .i64 f.x,.int .i64 f.y,.int .i64 f.z,.int .i64 f.k]] σ)=some (.val (.int .i64 f.shape) σ):=by
 refine aD GJ HB rfl ?_;have hb:=fun σ=>LX (σ:=σ) (f:=f)
 simp[-length_flatMap,-map_take,hb]
theorem agd{s:List UInt8}(hl:s.length≤1000000000):∀(m i:Nat),i+m=s.length →
  WL T [0,6,7] false sr [(0,.str s),(6,.int .i64 s.length),(7,.int .i64 i)] σ
   (fun x e σ'=>σ'=σ∧if yr i (s.drop i)then x=.exit 0∧get e 0=.str s else x=.ret∧get e 2=.bool false)
 |0,i,hi=>by
  refine aM Bc ?_;have h1:¬i<s.length:=by omega
  have h2:s.drop i=[]:=aJ (by omega);simp[-length_flatMap,-map_take,h1,h2,yr]
 |m+1,i,hi=>by
  refine aM Bc ?_;have h1:i<s.length:=by omega
  obtain⟨c,hc⟩:=gE h1;have h4:=fK h1 (by omega);have h5:=dG hc;have ih:=agd hl m (i+1) (by omega);rw[h5,yr];have hd:KF .OO [.str s,.int .i64 (i:Int)]=some (.int .u8 c.toNat):=by simp[KF,hc]
  by_cases hc1:97≤c.toNat
  ·by_cases hc2:c.toNat≤122
   ·have hlet:letter c=true:=by simp[letter,hc1,hc2]
    simp[-length_flatMap,-map_take,h1,h4,hd,hlet,show(97:Int)≤(c.toNat:Int)by omega,show(c.toNat:Int)≤122 by omega];exact WL.to ih (by simp) rfl fun x e σ' hh=>by simpa[hlet]using hh
   ·have hlet:letter c=false:=by simp[letter,hc2]
    have hdig:digit c=false:=by simp[digit];omega
    by_cases hi0:i=0
    ·subst hi0;have hd0:KF .OO [.str s,.int .i64 0]=some (.int .u8 c.toNat):=by simpa using hd
     have h1':0<s.length:=h1;simp[-length_flatMap,-map_take,h1',h4,hd0,hlet,hdig,show(97:Int)≤(c.toNat:Int)by omega,show ¬(c.toNat:Int)≤122 by omega]
    ·simp[-length_flatMap,-map_take,h1,h4,hd,hlet,hdig,hi0,show(97:Int)≤(c.toNat:Int)by omega,show ¬(c.toNat:Int)≤122 by omega,show ¬(c.toNat:Int)<48 by omega,show(57:Int)<(c.toNat:Int)by omega,show(57:Nat)<c.toNat by omega,show ¬c.toNat<48 by omega]
  ·have hlet:letter c=false:=by simp[letter,hc1]
   by_cases hi0:i=0
   ·subst hi0;have hd0:KF .OO [.str s,.int .i64 0]=some (.int .u8 c.toNat):=by simpa using hd
    have h1':0<s.length:=h1;simp[-length_flatMap,-map_take,h1',h4,hd0,hlet,show ¬(97:Int)≤(c.toNat:Int)by omega]
   ·by_cases hc3:c.toNat<48
    ·have hdig:digit c=false:=by simp[digit];omega
     simp[-length_flatMap,-map_take,h1,h4,hd,hlet,hdig,hi0,show ¬(97:Int)≤(c.toNat:Int)by omega,show(c.toNat:Int)<48 by omega,hc3]
    ·by_cases hc4:57<c.toNat
     ·have hdig:digit c=false:=by simp[digit];omega
      simp[-length_flatMap,-map_take,h1,h4,hd,hlet,hdig,hi0,show ¬(97:Int)≤(c.toNat:Int)by omega,show ¬(c.toNat:Int)<48 by omega,show(57:Int)<(c.toNat:Int)by omega,hc3,hc4]
     ·have hdig:digit c=true:=by simp[digit];omega
      simp[-length_flatMap,-map_take,h1,h4,hd,hlet,hdig,hi0,show ¬(97:Int)≤(c.toNat:Int)by omega,show ¬(c.toNat:Int)<48 by omega,show ¬(57:Int)<(c.toNat:Int)by omega,hc3,hc4];exact WL.to ih (by simp) rfl fun x e σ' hh=>by simpa[hlet,hdig,hi0]using hh
theorem LW{s:List UInt8}(hl:s.length≤1000000000):bw T (.call false rp [.str s] σ)=some (.val (.bool (named s)) σ):=by
 refine aD N0 Ox rfl ?_;have hp:KF .Jv [.str s]=some (.int .i64 s.length):=rfl;simp[-length_flatMap,-map_take,hp];refine WL.to (agd (σ:=[]::σ) hl s.length 0 (by omega)) (by simp) rfl ?_;rintro x e σ' ⟨rfl,h⟩;simp only[aS]at h;unfold named;cases hc:yr 0 s
 ·simp[hc]at h;simp[h]
 ·simp[hc]at h;simp[-length_flatMap,-map_take,h,hp,gS]
theorem aqk{a:Int}:bw T (.call false gp [.int .i64 a] σ)=some (.val (.bool (cV a (-100000) 100000)) σ):=by
 refine aD C4 Dt rfl ?_;simp[-length_flatMap,-map_take,gS]
theorem aho{l:List Int}{p:Int→Bool}{fv:D}(hl:l.length≤1000000000)(ht:rE T fv (fun n => .int .i64 n) p l)(hc:fv.cells=some [fv]):
  bw T (.call false q7 [.aK l.length (l.flatMap aU),fv] σ)=some (.val (.bool (gW l p)) σ) :=
 Ca (Qu .i64) (f:=q7) (g:=rG) (h:=cg) (i:=eu) (l:=l) (p:=p) (fv:=fv) rfl rfl rfl rfl (by omega) ht hc
theorem Ul{f:fT}(hf:f.valid=true):(1≤f.size∧f.size≤64)∧1≤f.k*f.size∧f.k*f.size≤384:=by
 obtain⟨h1,h2,h3,h4,h5⟩:=fT.ur.1 hf;obtain⟨_,h6⟩:=fT.sz h1 h2 h3;have h7:=agR h5.1 h5.2 (b:=f.size) (B:=64) (by unfold fT.size;omega) h4;exact⟨⟨by unfold fT.size;omega,h4⟩,by omega,by omega⟩
theorem af4{f:fT}{m:cX}(hf:f.valid=true)(hn:m.name.length≤1000000000)(hl:m.bg.length≤1000000000):bw T (.call false je [.agg [.int .i64 f.x,.int .i64 f.y,.int .i64 f.z,.int .i64 f.k],.agg [.str m.name,.aK m.bg.length (m.bg.flatMap aU)]] σ)=some (.val (.int .i64 (f.model m)) σ):=by
 refine aD Fq F8 rfl ?_;obtain⟨h1,h2,h3,h4,h5⟩:=fT.ur.1 hf;obtain⟨h6,h7⟩:=Ul hf;have w1:=gQ (n:=f.k*f.size) (by omega);have hb:=fun σ=>Mf (σ:=σ) (f:=f) h1 h2 h3
 have ha:=fun σ=>aho (σ:=σ) (l:=m.bg) (p:=fun n=>cV n (-100000) 100000) (fv:=.fn gp [] []) hl (rE.fn fun x _ σ=>by simpa using aqk) rfl
 cases hc1:named m.name
 ·simp[-length_flatMap,-map_take,LW hn,hc1,fT.model]
 ·by_cases hc2:(m.bg.length:Int)=f.k*f.size
  ·cases hc3:gW m.bg (fun n=>cV n (-100000) 100000)<;>
    simp[-length_flatMap,-map_take,LW hn,hc1,hc2,hc3,fT.model,hb,ha,w1]
  ·simp[-length_flatMap,-map_take,LW hn,hc1,hc2,fT.model,hb,w1]
def Gp(met:List (List UInt8)):List D:=met.map fun n => .ez [.str n,.bool true]
theorem Kp{k:List UInt8}:∀{met:List (List UInt8)},∃r,sd none (.str k) (Gp met)=some r∧(met.contains k=true→∃j,r=some (j,.bool true))∧(met.contains k=false→r=none)
 |[]=>⟨none,rfl,by simp,by simp⟩
 |n::met=>by
  obtain⟨r,h1,h2,h3⟩:=Kp (k:=k) (met:=met);simp only[Gp,aj]at h1 ⊢;by_cases hk:k=n
  ·subst hk;exact⟨some (0,.bool true),by simp[sd,tV],fun _=>⟨0,rfl⟩,by simp⟩
  ·have hb:(k == n)=false:=by simpa using hk
   refine⟨r.map fun y=>(y.1+1,y.2),by simp[sd,tV,hb,h1],?_,?_⟩
   ·intro hc;have:met.contains k=true:=by simpa[hk]using hc
    obtain⟨j,rfl⟩:=h2 this;exact⟨j+1,rfl⟩
   ·intro hc;have:met.contains k=false:=by simp at hc ⊢;exact hc.2
    rw[h3 this];rfl
theorem asu{S:SK}{l i:Nat}{met:List (List UInt8)}{k:List UInt8}(h:cells? S l i 0=some (Gp met)):DE S (.get none (.bool false) false) [.nO l i,.str k]=some (.bool (met.contains k),S):=by
 obtain⟨r,h1,h2,h3⟩:=Kp (k:=k) (met:=met);simp only[DE,DD,h,aT,h1];cases hc:met.contains k
 ·rw[h3 hc];simp[tV]
 ·obtain⟨j,rfl⟩:=h2 hc;simp[tV]
theorem asv{S:SK}{l i:Nat}{met:List (List UInt8)}{k:List UInt8}(h:cells? S l i 0=some (Gp met))(hn:met.contains k=false):
  DE S (.put none) [.nO l i,.str k,.bool true]=some (.undef,aX S l i (.cells 0 (Gp (met++[k])))):=by
 obtain⟨r,h1,h2,h3⟩:=Kp (k:=k) (met:=met);simp only[DE,DD,h,aT,h1];rw[h3 hn];simp[tV,Gp,D.clean]
theorem aDC{f:fT}{m:cX}(hf:f.valid=true)(hn:m.name.length≤1000000000)(hl:m.bg.length≤1000000000):
  bw T (.call false ej [.agg [.str m.name,.aK m.bg.length (m.bg.flatMap aU)],.bE [.int .i64 f.x,.int .i64 f.y,.int .i64 f.z,.int .i64 f.k]] σ)=some (.val (.ez [.str m.name,.int .i64 (f.model m)]) σ):=by
 refine aD BO Cl rfl ?_;simp[-length_flatMap,-map_take,af4 hf hn hl]
theorem ajm{f:fT}{l:List cX}(hf:f.valid=true)(hs:∀m∈l,m.name.length≤1000000000∧m.bg.length≤1000000000)(hl:l.length≤1000000000):∀(k i:Nat) (met:List (List UInt8)),i+k=l.length →
  WL T [1,5,11,12,13] false gG [(1,.fn ej [] [.bE [.int .i64 f.x,.int .i64 f.y,.int .i64 f.z,.int .i64 f.k]]),(5,.nO σ.length 0),(11,.aK l.length (l.flatMap cX.enc)),(12,.int .i64 l.length),(13,.int .i64 i)] ([.cells 0 (Gp met)]::σ)
   (fun x e σ'=>∃s,σ'=s::σ∧if f.each met (l.drop i)=0 then x=.exit 0 else x=.ret∧get e 4=.int .i64 (f.each met (l.drop i)))
 |0,i,met,hi=>by
  refine aM qd ?_;have h1:¬i<l.length:=by omega
  have h2:l.drop i=[]:=aJ (by omega);simp[-length_flatMap,-map_take,h1,h2,fT.each]
 |k+1,i,met,hi=>by
  refine aM qd ?_;have h1:i<l.length:=by omega
  obtain⟨m,hm⟩:=gE h1;have h2:=bQ (f:=cX.enc) (w:=2) (fun _=>rfl) hm;have h4:=fK h1 (by omega);have h5:=dG hm;obtain⟨hs1,hs2⟩:=hs m (an hm);have hC:=fun σ=>aDC (σ:=σ) hf hs1 hs2
  rw[h5,fT.each];by_cases hc1:f.model m=0
  ·have hg:=asu (S:=[.cells 0 (Gp met)]::σ) (l:=σ.length) (i:=0) (met:=met) (k:=m.name) (by simp);cases hc2:met.contains m.name
   ·rw[hc2]at hg;have hp:=asv (S:=[.cells 0 (Gp met)]::σ) (l:=σ.length) (i:=0) (met:=met) (k:=m.name) (by simp) hc2;have ih:=ajm hf hs hl k (i+1) (met++[m.name]) (by omega);simp at hp;have hc3:¬m.name∈met:=by simpa using hc2
    simp[-length_flatMap,-map_take,h1,h2,h4,hC,hc1,hg,hp,hc3];exact WL.to ih (by simp) (by simp) fun x e σ' hh=>by simpa[hc1]using hh
   ·rw[hc2]at hg;have hc3:m.name∈met:=by simpa using hc2
    simp[-length_flatMap,-map_take,h1,h2,h4,hC,hc1,hg,hc3]
  ·simp[-length_flatMap,-map_take,h1,h2,h4,hC,hc1]
theorem as0{f:fT}{l:List cX}(hf:f.valid=true)(hs:∀m∈l,m.name.length≤1000000000∧m.bg.length≤1000000000)(hl:l.length≤1000000000):
  bw T (.call false gC [.aK l.length (l.flatMap cX.enc),.fn ej [] [.bE [.int .i64 f.x,.int .i64 f.y,.int .i64 f.z,.int .i64 f.k]]] σ)=some (.val (.int .i64 (f.each [] l)) σ):=by
 refine aD Ag AE rfl ?_;have hm:DE ([]::σ) .make []=some (.nO σ.length 0,[.cells 0 (Gp [])]::σ):=by simp[DE,Gp]
 simp[-length_flatMap,-map_take,hm];refine WL.to (ajm (σ:=σ) hf hs hl l.length 0 [] (by omega)) (by simp) (by simp) ?_;rintro x e σ' ⟨s,rfl,h⟩;simp only[aS]at h;by_cases hc:f.each [] l=0
 ·rw[if_pos hc]at h;subst h;simp[-length_flatMap,-map_take,hc]
 ·rw[if_neg hc]at h;obtain⟨rfl,h⟩:=h;simp[h]
theorem aiY{f:fT}{l:List cX}(hf:f.valid=true)(hs:∀m∈l,m.name.length≤1000000000∧m.bg.length≤1000000000)(hl:l.length≤1000000000):
  bw T (.call false kK [.agg [.int .i64 f.x,.int .i64 f.y,.int .i64 f.z,.int .i64 f.k],.aK l.length (l.flatMap cX.enc)] σ)=some (.val (.int .i64 (f.az l)) σ):=by
 refine aD DH Ef rfl ?_;cases hc:cV l.length 1 40
 ·simp[-length_flatMap,-map_take,gS,hc,fT.az]
 ·simp[-length_flatMap,-map_take,gS,hc,fT.az,as0 hf hs hl]
theorem Md{f:fT}{l:List cX}(hf:f.valid=true)(hs:∀m∈l,m.name.length≤1000000000∧m.bg.length≤1000000000)(hl:l.length≤1000000000):
  bw T (.call false gl [.bE [.int .i64 f.x,.int .i64 f.y,.int .i64 f.z,.int .i64 f.k],.bE [.aK l.length (l.flatMap cX.enc)]] σ)=some (.val (.int .i64 (f.az l)) σ):=by
 refine aD C0 Dr rfl ?_;simp[-length_flatMap,-map_take,aiY hf hs hl]
theorem PN{fs:List D}{es:List Int}(hlen:fs.length=es.length)(hl:fs.length≤100)(hfs:∀d∈fs,d.strip=d∧d.calm=d∧US false 1 (some [d])=some d)
  (hcall:∀(i:Nat) d n,fs[i]?=some d→es[i]?=some n→(∀j,j<i→es[j]?=some 0)→∀σ,pZ (bw T) false d [] σ=some (.int .i64 n,σ)):
  bw T (.call false oM [.aK fs.length fs] σ)=some (.val (.int .i64 (cQ id es)) σ):=by
 have loop:∀(k i:Nat) (σ:SK),i+k=fs.length→(∀j,j<i→es[j]?=some 0) →
   WL T [6,7,8] false so [(6,.aK fs.length fs),(7,.int .i64 fs.length),(8,.int .i64 i)] σ
    (fun x e σ'=>σ'=σ∧if cQ id (es.drop i)=0 then x=.exit 0 else x=.ret∧get e 2=.int .i64 (cQ id (es.drop i))):=by
  intro k;induction k with
  |zero =>
   intro i σ hi h0;refine aM Bb ?_;have h1:¬i<fs.length:=by omega
   have h2:es.drop i=[]:=aJ (by omega);simp[-length_flatMap,-map_take,h1,h2,cQ]
  |succ k ih =>
   intro i σ hi h0;refine aM Bb ?_;have h1:i<fs.length:=by omega
   obtain⟨d,hd⟩:=gE h1;obtain⟨n,hn⟩:∃n,es[i]?=some n:=gE (by omega);obtain⟨g1,g2,g3⟩:=hfs d (an hd);have h2:=bQ (f:=fun d:D=>[d]) (w:=1) (fun _=>rfl) (l:=fs) hd;rw[show(fs.flatMap fun d=>[d])=fs from by simp]at h2;have h4:=fK h1 (by omega);have h5:=dG hn;have hc:=hcall i d n hd hn h0;simp only[dM]at h2;rw[h5,cQ];by_cases hz:n=0
   ·subst hz;have ih':=ih (i+1) σ (by omega) (fun j hj=>by
     by_cases hji:j=i
     ·subst hji;exact hn
     ·exact h0 j (by omega))
    simp[-length_flatMap,-map_take,h1,h2,h4,g1,g2,hc];exact WL.to ih' (by simp) rfl fun x e σ' hh=>by simpa using hh
   ·simp[-length_flatMap,-map_take,h1,h2,h4,g1,g2,hc,hz]
 refine aD NZ Ow rfl ?_;simp[-length_flatMap,-map_take];refine WL.to (loop fs.length 0 ([]::σ) (by omega) (by simp)) (by simp) rfl ?_;rintro x e σ' ⟨rfl,h⟩;simp only[aS]at h;by_cases hc:cQ id es=0
 ·rw[if_pos hc]at h;subst h;simp[-length_flatMap,-map_take,hc]
 ·rw[if_neg hc]at h;obtain⟨rfl,h⟩:=h;simp[h]
theorem Gs{f:fT}{l:List cX}(hs:∀m∈l,m.name.length≤1000000000∧m.bg.length≤1000000000)(hl:l.length≤1000000000):
  bw T (.call false jd [.agg [.int .i64 f.x,.int .i64 f.y,.int .i64 f.z,.int .i64 f.k],.aK l.length (l.flatMap cX.enc)] σ)=some (.val (.int .i64 (gX f l)) σ):=by
 refine aD Fp F7 rfl ?_;have hC:=fun σ=>PN (σ:=σ) (fs:=[.fn cS [.agg [.int .i64 f.x,.int .i64 f.y,.int .i64 f.z,.int .i64 f.k]] [],.fn gl [] [.bE [.int .i64 f.x,.int .i64 f.y,.int .i64 f.z,.int .i64 f.k],.bE [.aK l.length (l.flatMap cX.enc)]]]) (es:=[f.shape,f.az l]) rfl (by simp) (by simp) (by
  intro i d n hd hn h0 σ;match i with
  |0 =>
   simp at hd hn;subst hd hn;simp[LX]
  |1 =>
   simp at hd hn;subst hd hn;have h1:f.valid=true:=by
    have:=h0 0 (by omega);simp[fT.shape]at this;exact this
   simp[Md h1 hs hl]
  |i+2=>simp at hd)
 simp at hC;have e1:cQ id [f.shape,f.az l]=gX f l:=by
  simp only[cQ,id,gX,fT.shape];by_cases h:f.valid=true
  ·by_cases h2:f.az l=0<;>simp[h,h2]
  ·simp[h]
 rw[e1]at hC;simp[-length_flatMap,-map_take,hC]
end Go.Proofs.YtfgljaglidhjiaaGreatDoor
namespace Go.Abs
open List(length_flatMap map_take)
open Go
variable {T:Ak}
def rm(q:Nat→Bool)(i:Nat):Nat→Bool×Nat
 |0=>(false,i)
 |m+1=>if q i then(true,i+1)else rm q (i+1) m
theorem Fj{q:Nat→Bool}:∀{m i:Nat},(rm q i m).1=false↔∀j,j<m→q (i+j)=false
 |0,i=>by simp[rm]
 |m+1,i=>by
  simp only[rm];by_cases h:q i=true
  ·simp only[h,if_true,Bool.true_eq_false,false_iff];intro hh;have:=hh 0 (by omega);simp[h]at this
  ·have h':q i=false:=by simpa using h
   simp only[h',aB,if_false];rw[Fj (m:=m) (i:=i+1)];constructor
   ·intro hh j hj;cases j with
    |zero=>simpa using h'
    |succ j=>have:=hh j (by omega);rwa[show i+1+j=i+(j+1)from by omega]at this
   ·intro hh j hj;have:=hh (j+1) (by omega);rwa[show i+(j+1)=i+1+j from by omega]at this
section
variable {α:Type} (E:Elt α) {fv:D} {l:List α} {q:Nat→Bool} {S:Nat→SK}
theorem Pk(hl:l.length≤9223372036854775807)(h1:fv.strip=fv)(h2:fv.calm=fv)(ht:∀i x,l[i]?=some x→pZ (bw T) false fv [E.val x] (S i)=some (.bool (q i),S (i+1))):∀(m i:Nat),i+m=l.length →
  WL T [0,1,7,8] false (Ns E.ag E.w) [(0,.aK l.length (l.flatMap E.enc)),(1,fv),(7,.int .i64 l.length),(8,.int .i64 i)] (S i)
   (fun x e σ'=>σ'=S (rm q i m).2∧if(rm q i m).1=true then x=.ret∧∃j:Nat,get e 4=.int .i64 j else x=.exit 0)
 |0,i,hi=>by
  refine aM (Ns.eq_1 _ _) ?_;have:¬i<l.length:=by omega
  simp[this,h1,h2,rm]
 |m+1,i,hi=>by
  refine aM (Ns.eq_1 _ _) ?_;have h4:i<l.length:=by omega
  obtain⟨x,hx⟩:=gE h4;have h5:=bQ (f:=E.enc) E.len hx;have h6:=ht i x hx;have h7:=fK h4 hl;have ih:=Pk hl h1 h2 ht m (i+1) (by omega);cases hq:q i
  ·rw[hq]at h6;simp[h4,h1,h2,h5,h6,h7,E.load,E.strip,E.calm];refine WL.mono (by simpa using ih) ?_;rintro x e σ' ⟨h9,h10⟩;simp only[rm,hq,aB,if_false];exact⟨h9,h10⟩
  ·rw[hq]at h6;simp[h4,h1,h2,h5,h6,h7,E.load,E.strip,E.calm,rm,hq];exact⟨i,rfl⟩
theorem ah4{f:Nat}(hT:T f=some (vT E.ag E.w))(hl:l.length≤9223372036854775807)(h1:fv.strip=fv)(h2:fv.calm=fv)(hlen:∀i,(S i).length=(S 0).length)
  (ht:∀i x,l[i]?=some x→pZ (bw T) false fv [E.val x] ([]::S i)=some (.bool (q i),[]::S (i+1))):
  ∃n:Int,bw T (.call false f [.aK l.length (l.flatMap E.enc),fv] (S 0))=some (.val (.int .i64 n) (S (rm q 0 l.length).2))∧(0≤n↔(rm q 0 l.length).1=true):=by
 have h:=Pk E (S:=fun i=>[]::S i) hl h1 h2 ht l.length 0 (by omega);cases hq:(rm q 0 l.length).1
 ·refine⟨-1,?_,by simp⟩;refine gF hT (vT.eq_1 _ _) rfl (hlen _) ?_;simp[h1,h2];refine WL.mono (by simpa using h) ?_;rintro x e σ' ⟨rfl,h10⟩;rw[hq]at h10;simp only[aB,if_false]at h10;subst h10;simp
 ·obtain⟨x,e,σ',hw,rfl,h10⟩:=h;rw[hq]at h10;simp only[if_true]at h10;obtain⟨rfl,j,hj⟩:=h10;refine⟨j,?_,by simp⟩;refine gF hT (vT.eq_1 _ _) rfl (hlen _) ?_;simp[h1,h2];refine⟨_,_,_,by simpa using hw,?_⟩;simp[hj]
theorem Qj{f i:Nat}(hT:T f=some (jP i))(hi:T i=some (vT E.ag E.w))(hl:l.length≤9223372036854775807)(h1:fv.strip=fv)(h2:fv.calm=fv)(hlen:∀i,(S i).length=(S 0).length)
  (ht:∀i x,l[i]?=some x→pZ (bw T) false fv [E.val x] ([]::[]::S i)=some (.bool (q i),[]::[]::S (i+1))):
  bw T (.call false f [.aK l.length (l.flatMap E.enc),fv] (S 0))=some (.val (.bool (rm q 0 l.length).1) (S (rm q 0 l.length).2)):=by
 obtain⟨n,h,hn⟩:=ah4 E (S:=fun i=>[]::S i) hi hl h1 h2 (fun i=>by simp[hlen i]) ht;refine gF hT (jP.eq_1 _) rfl (hlen _) ?_;have h4:decide (0≤n)=(rm q 0 l.length).1:=by
  cases hq:(rm q 0 l.length).1
  ·rw[hq]at hn;simp at hn;exact decide_eq_false (by omega)
  ·exact decide_eq_true (hn.2 hq)
 simp[h1,h2,h,h4]
theorem ajA{g:Nat}{x:α}{b:Bool}{σ σ':SK}(hT:T g=some (Aw E.ag E.w))(hlen:σ'.length=σ.length)(h1:fv.strip=fv)(h2:fv.calm=fv)(ht:pZ (bw T) false fv [E.val x] ([]::σ)=some (.bool b,[]::σ')):
  pZ (bw T) false (.fn g [] [.bE [fv]]) [E.val x] σ=some (.bool (!b),σ'):=by
 rw[sU];have hc:=E.cells x;have hl:=E.load x;have hs:=E.strip x;have hcm:=E.calm x;have key:bw T (.call false g ([]++[E.val x]++[.bE [fv]]) σ)=some (.val (.bool (!b)) σ'):=by
  generalize E.ag=ag at *
  cases ag with
  |true =>
   refine gF hT (Aw.eq_1 _) rfl hlen ?_;simp[h1,h2,ht,hc,hl,hs,hcm]
  |false =>
   refine gF hT (Aw.eq_2 _) rfl hlen ?_;simp[h1,h2,ht,hc,hl,hs,hcm]
 rw[key];rfl
theorem Qe{f g h i:Nat}{p:Nat→Bool}(hf:T f=some (IN g h))(hg:T g=some (Aw E.ag E.w))(hh:T h=some (jP i))(hi:T i=some (vT E.ag E.w))
  (hl:l.length≤9223372036854775807) (h1:fv.strip=fv) (h2:fv.calm=fv) (hcl:fv.cells=some [fv]) (hlen:∀i,(S i).length=(S 0).length)
  (ht:∀i x,l[i]?=some x→pZ (bw T) false fv [E.val x] ([]::[]::[]::[]::S i)=some (.bool (p i),[]::[]::[]::[]::S (i+1))):
  bw T (.call false f [.aK l.length (l.flatMap E.enc),fv] (S 0))=some (.val (.bool !(rm (fun i => !p i) 0 l.length).1) (S (rm (fun i => !p i) 0 l.length).2)):=by
 have hc:=Qj E (S:=fun i=>[]::S i) (fv:=.fn g [] [.bE [fv]]) (q:=fun i => !p i) hh hi hl rfl rfl (fun i=>by simp[hlen i]) (fun i x hx=>ajA E hg (by simp[hlen i,hlen (i+1)]) h1 h2 (ht i x hx));refine gF hf (IN.eq_1 _ _) rfl (hlen _) ?_;simp[h1,h2,hc,hcl]
theorem aqO{f g h i:Nat}{p:α→Bool}{σ:SK}(hf:T f=some (IN g h))(hg:T g=some (Aw E.ag E.w))(hh:T h=some (jP i))(hi:T i=some (vT E.ag E.w))
  (hl:l.length≤9223372036854775807) (h1:fv.strip=fv) (h2:fv.calm=fv) (hcl:fv.cells=some [fv])
  (ht:∀x∈l,pZ (bw T) false fv [E.val x] ([]::[]::[]::[]::σ)=some (.bool (p x),[]::[]::[]::[]::σ)):
  bw T (.call false f [.aK l.length (l.flatMap E.enc),fv] σ)=some (.val (.bool (gW l p)) σ):=by
 have h0:=Qe E (T:=T) (S:=fun _=>σ) (fv:=fv) (l:=l) (p:=fun i=>match l[i]? with | some x=>p x | none=>true) hf hg hh hi hl h1 h2 hcl (fun _=>rfl) (fun i x hx=>by
  rw[ht x (an hx)];simp[hx])
 have he:(!(rm (fun i => !(match l[i]? with | some x=>p x | none=>true)) 0 l.length).1)=gW l p:=by
  have h2:=Fj (q:=fun i => !(match l[i]? with | some x=>p x | none=>true)) (m:=l.length) (i:=0);cases hw:gW l p
  ·rw[Bool.not_eq_false'];cases hs:(rm (fun i => !(match l[i]? with | some x=>p x | none=>true)) 0 l.length).1
   ·have h3:=h2.1 hs;have h4:gW l p=true:=ki.2 fun x hx=>by
     obtain⟨j,hj⟩:=gU hx;have:=h3 j (aF.1 hj).1;simpa[hj]using this
    rw[hw]at h4;cases h4
   ·rfl
  ·rw[dU];refine h2.2 fun j hj=>?_
   have hx:=aP hj;have:=ki.1 hw _ (List.getElem_mem hj);simp[hx,this]
 rw[he]at h0;exact h0
end
end Go.Abs
namespace Go.Proofs.YtfgljaglidhjiaaGreatDoor
open List(length_flatMap map_take)
open Go Go.Abs Go.Rock
variable {σ:SK}
theorem aqb{r:Rw}:bw T (.call false ll [.agg r.enc] σ)=some (.val (.bool r.alone) σ):=by
 refine aD Is I1 rfl ?_;cases hc1:cV r.t 0 400
 ·simp[-length_flatMap,-map_take,kS,Rw.alone,hc1]
 cases hc2:cV r.p 1 10000
 ·simp[-length_flatMap,-map_take,kS,Rw.alone,hc1,hc2]
 cases hc3:cV r.l 0 4000
 ·simp[-length_flatMap,-map_take,kS,Rw.alone,hc1,hc2,hc3]
 cases hc4:cV r.s 0 2000
 ·simp[-length_flatMap,-map_take,kS,Rw.alone,hc1,hc2,hc3,hc4]
 by_cases hc5:r.l<r.v
 rotate_left
 ·simp[-length_flatMap,-map_take,kS,Rw.alone,hc1,hc2,hc3,hc4,hc5]
 simp[-length_flatMap,-map_take,kS,Rw.alone,hc1,hc2,hc3,hc4,hc5]
theorem as8{l:List Rw}(hl:l.length≤1000000000):bw T (.call false jO [.aK l.length (l.flatMap Rw.enc),.fn ll [] []] σ)=some (.val (.bool (gW l Rw.alone)) σ) :=
 Ca (yU 5 Rw.enc (fun _=>rfl)) (f:=jO) (g:=ln) (h:=fk) (i:=gI) (l:=l) (p:=Rw.alone) rfl rfl rfl rfl (by omega) (rE.fn fun x _ σ=>aqb) rfl
theorem asc{t l:List Rw}{o:Rw}(hto:t=o::l)(hl:l.length≤100):∀(m i:Nat),i+m=l.length →
  WL T [0,16,17,18] false lg [(0,.aK t.length (t.flatMap Rw.enc)),(16,.aK l.length (l.flatMap Rw.enc)),(17,.int .i64 l.length),(18,.int .i64 i)] σ
   (fun x e σ'=>σ'=σ∧if KH (t.drop i)then x=.exit 0 else x=.ret∧get e 2=.bool false)
 |0,i,hi=>by
  refine aM ug ?_;have h1:¬i<l.length:=by omega
  have h2:t.drop i=[t[i]'(by subst hto;simp;omega)]:=by
   rw[List.drop_eq_getElem_cons (by subst hto;simp;omega),aJ (by subst hto;simp;omega)]
  simp[-length_flatMap,-map_take,h1,h2,KH]
 |m+1,i,hi=>by
  refine aM ug ?_;have h1:i<l.length:=by omega
  have htl:t.length=l.length+1:=by subst hto;rfl
  obtain⟨r,hr⟩:=gE h1;obtain⟨r0,hr0⟩:∃r0,t[i]?=some r0:=gE (by omega);have h2:=bQ (f:=Rw.enc) (w:=5) (fun _=>rfl) hr;have h3:=bQ (f:=Rw.enc) (w:=5) (fun _=>rfl) hr0;have h4:=fK h1 (by omega);have h6:t.drop (i+1)=r::t.drop (i+2):=dG (by subst hto;simpa using hr);have h5:t.drop i=r0::r::t.drop (i+2):=by rw[dG hr0,h6]
  have ih:=asc hto hl m (i+1) (by omega);rw[h6]at ih;rw[h5,KH];have hlt:(i:Int)<(t.length:Int):=by omega
  have hlt':i<t.length:=by omega
  by_cases c1:r.t≤r0.t
  ·simp[-length_flatMap,-map_take,h1,hlt,hlt',h2,h3,h4,c1,Rw.PC]
  by_cases c2:r.p≤r0.p
  ·simp[-length_flatMap,-map_take,h1,hlt,hlt',h2,h3,h4,c1,c2,Rw.PC]
  by_cases c3:r.l≤r0.l
  ·simp[-length_flatMap,-map_take,h1,hlt,hlt',h2,h3,h4,c1,c2,c3,Rw.PC]
  by_cases c4:r.s<r0.s
  ·simp[-length_flatMap,-map_take,h1,hlt,hlt',h2,h3,h4,c1,c2,c3,c4,Rw.PC]
  ·simp[-length_flatMap,-map_take,h1,hlt,hlt',h2,h3,h4,c1,c2,c3,c4,Rw.PC];have hc:r0.t<r.t∧r0.p<r.p∧r0.l<r.l∧r0.s≤r.s:=by omega
   exact WL.to ih (by simp) rfl fun x e σ' hh=>by simpa[hc]using hh
theorem GH{t:List Rw}(hl:t.length≤1000000000):bw T (.call false ji [.aK t.length (t.flatMap Rw.enc)] σ)=some (.val (.bool (lB t)) σ):=by
 refine aD FF Gk rfl ?_;have ha:=fun σ=>as8 (σ:=σ) (l:=t) hl
 cases hc1:cV t.length 2 20
 ·simp[-length_flatMap,-map_take,kS,hc1,lB]
 cases hc2:gW t Rw.alone
 ·simp[-length_flatMap,-map_take,kS,hc1,hc2,ha,lB]
 obtain⟨o,l,hto⟩:∃o l,t=o::l:=by
  cases t with
  |nil=>simp[cV]at hc1
  |cons o l=>exact⟨o,l,rfl⟩
 have hi:=bf.1 hc1;have htl:t.length=l.length+1:=by subst hto;rfl
 have h1:(1:Int)≤(t.length:Int):=by omega
 have h2:t.length-1=l.length:=by omega
 have h3:((t.flatMap Rw.enc).drop 5).take (l.length*5)=l.flatMap Rw.enc:=by
  subst hto;have:=Sa (f:=Rw.enc) (w:=5) (fun _=>rfl) l;simpa using this
 simp[-length_flatMap,-map_take,kS,hc1,hc2,ha,h1,h2,h3];refine WL.to (asc (σ:=[]::σ) hto (by omega) l.length 0 (by omega)) (by simp) rfl ?_;rintro x e σ' ⟨rfl,h⟩;simp only[aS]at h;unfold lB;cases hc3:KH t
 ·rw[hc3]at h;simp at h;simp[h,hc2,hc1]
 ·rw[hc3]at h;simp at h;subst h;simp[-length_flatMap,-map_take,hc2,hc1]
theorem BK{l:List Rw}(hl:l.length≤1000000000):bw T (.call false j3 [.aK l.length (l.flatMap Rw.enc)] σ)=some (.val (.int .i64 (if lB l then 0 else 1)) σ):=by
 refine aD G4 HU rfl ?_;cases hc:lB l<;>simp[-length_flatMap,-map_take,GH hl,hc]
theorem af5{b:cC}(hx:1≤b.f.x∧b.f.x≤8)(hy:1≤b.f.y∧b.f.y≤8)(hz:1≤b.f.z∧b.f.z≤8):bw T (.call false dq [.agg [.int .i64 b.f.x,.int .i64 b.f.y,.int .i64 b.f.z,.int .i64 b.f.k,.aK b.cf.length (b.cf.flatMap Rw.enc),.int .i64 b.bJ,.int .i64 b.lift,.int .i64 b.deep,.aK b.av.length (b.av.flatMap bH.enc)]] σ)=some (.val (.int .i64 b.size) σ):=by
 refine aD Lq LO rfl ?_;obtain⟨h1,h2⟩:=fT.sz hx hy hz;have w1:=gQ (n:=b.f.x*b.f.y) (by omega);have w2:=gQ (n:=b.f.x*b.f.y*b.f.z) (by omega);simp[-length_flatMap,-map_take,w1,w2,cC.size,fT.size]
def uK(b:Bool):List D:=[.bool b]
def tF(n:Nat)(av:List bH):Nat→List Bool
 |0=>List.replicate n false
 |i+1=>match av[i]? with
  |some w=>if cV w.b 0 ((n:Int)-1)=true∧(tF n av i)[w.b.toNat]?=some false then(tF n av i).set w.b.toNat true else tF n av i
  |none=>tF n av i
theorem BH{n:Nat}{av:List bH}:∀i,(tF n av i).length=n
 |0=>by simp[tF]
 |i+1=>by
  simp only[tF];split
  ·split
   ·simp[BH i]
   ·exact BH i
  ·exact BH i
def z6(n:Nat)(av:List bH)(i:Nat):Bool :=
 match av[i]? with
 |some w=>cV w.b 0 ((n:Int)-1) && (decide ((tF n av i)[w.b.toNat]?=some false) && (cV w.h 0 3000 && cV w.m 0 1000000))
 |none=>true
def KR(n:Nat)(av:List bH)(σ:SK)(i:Nat):SK:=[.cells 0 ((tF n av i).flatMap uK),.cells 0 [.sl σ.length 0 0 0 n 1]]::σ
theorem ajG{l:List Bool}{j:Nat}{x:Bool}(h:l[j]?=some x):((l.flatMap uK).drop j)=.bool x::(l.flatMap uK).drop (j+1):=by
 have:=HZ (f:=uK) (w:=1) (fun _=>rfl) h;simpa[uK]using this
theorem ahH{l:List Bool}{j:Nat}{x:Bool}(h:j<l.length):(l.flatMap uK).take j++(.bool x::(l.flatMap uK).drop (j+1))=(l.set j x).flatMap uK:=by
 have:=agL (f:=uK) (w:=1) (fun _=>rfl) (x:=x) h;simpa[uK]using this
theorem ahG{l:List Bool}:(l.flatMap uK).length=l.length:=by
 have:=bV (f:=uK) (w:=1) (fun _=>rfl) l;omega
theorem Vb{n:Nat}{av:List bH}(hn:n≤512){i:Nat}{w:bH}(hw:av[i]?=some w):
  bw T (.call false fC [.agg w.enc,.ref σ.length 1 0 0] ([]::[]::[]::[]::KR n av σ i))=some (.val (.bool (z6 n av i)) ([]::[]::[]::[]::KR n av σ (i+1))):=by
 refine gF GS HK rfl (by simp[KR]) ?_;have hlen:=BH (n:=n) (av:=av) i;have w1:=gQ (n:=(n:Int)-1) (by omega);have hwp:z6 n av i=(cV w.b 0 ((n:Int)-1) && (decide ((tF n av i)[w.b.toNat]?=some false) && (cV w.h 0 3000 && cV w.m 0 1000000))):=by simp[z6,hw]
 have hus:tF n av (i+1)=if cV w.b 0 ((n:Int)-1)=true∧(tF n av i)[w.b.toNat]?=some false then(tF n av i).set w.b.toNat true else tF n av i:=by simp[tF,hw]
 rw[hwp];simp only[KR];generalize tF n av (i+1)=us' at *
 generalize tF n av i=us at *
 cases hc1:cV w.b 0 ((n:Int)-1)
 ·rw[hc1]at hus;simp at hus;subst hus;simp[-length_flatMap,-map_take,dN,w1,hc1]
 ·obtain⟨g1,g2⟩:=bf.1 hc1;have g3:w.b<(n:Int):=by omega
  obtain⟨u,hu⟩:∃u,us[w.b.toNat]?=some u:=⟨_,aP (by omega)⟩;have hat:=ajG hu;have hset:=ahH (l:=us) (j:=w.b.toNat) (x:=true) (by omega);have hlen2:(us.flatMap uK).length=n:=by rw[ahG,hlen]
  have hle:w.b.toNat+1≤n:=by omega
  rw[hc1,hu]at hus;cases u
  ·simp at hus;subst hus;cases hc2:cV w.h 0 3000<;>
    simp[-length_flatMap,-map_take,dN,w1,hc1,hu,g1,g3,hat,hset,hlen2,hle,hc2]
  ·simp at hus;subst hus;simp[-length_flatMap,-map_take,dN,w1,hc1,hu,g1,g3,hat,hlen2]
theorem UN{n:Nat}{av:List bH}:∀{i:Nat},i≤av.length→(∀j,j<i→z6 n av j=true)→∀k:Nat,k<n→(tF n av i)[k]?=some (((av.take i).map (·.b)).contains (k:Int))
 |0,_,_,k,hk=>by simp[tF,hk]
 |i+1,hi,h,k,hk=>by
  obtain⟨w,hw⟩:∃w,av[i]?=some w:=gE (by omega);have ih:=UN (i:=i) (by omega) (fun j hj=>h j (by omega));have hp:=h i (by omega);simp only[z6,hw,af,aA]at hp;obtain⟨h1,h2,_⟩:=hp;obtain⟨g1,g2⟩:=bf.1 h1;have ht:av.take (i+1)=av.take i++[w]:=by rw[List.take_add_one,hw];rfl
  simp only[tF,hw];rw[if_pos ⟨h1,h2⟩,ht];rw[List.getElem?_set];by_cases hkw:w.b.toNat=k
  ·subst hkw;have hb:w.b=((w.b.toNat:Nat):Int):=by omega
   simp[BH,hk];right;omega
  ·rw[if_neg hkw,ih k hk];congr 1;have:((k:Int) == w.b)=false:=by simp;omega
   simp[List.contains_append,this];intro hh;omega
theorem EW{n:Nat}{av:List bH}:∀(m i:Nat),i+m=av.length→(∀j,j<i→z6 n av j=true) →
  (vy (n:Int) ((av.take i).map (·.b)) (av.drop i)=true↔∀j,i≤j→j<av.length→z6 n av j=true)
 |0,i,hi,h=>by
  rw[aJ (by omega)];simp only[vy,true_iff];intro j h1 h2;omega
 |m+1,i,hi,h=>by
  obtain⟨w,hw⟩:∃w,av[i]?=some w:=gE (by omega);have hu:=UN (n:=n) (i:=i) (by omega) h;have hone:bH.ok (n:Int) ((av.take i).map (·.b)) w=z6 n av i:=by
   simp only[z6,hw,bH.ok];cases hc:cV w.b 0 ((n:Int)-1)
   ·rfl
   ·obtain⟨g1,g2⟩:=bf.1 hc;have:=hu w.b.toNat (by omega);rw[this,show((w.b.toNat:Nat):Int)=w.b from by omega];cases((av.take i).map (·.b)).contains w.b<;>simp
  rw[dG hw,vy,hone,af];have ht:(av.take i).map (·.b)++[w.b]=(av.take (i+1)).map (·.b):=by rw[List.take_add_one,hw];simp
  rw[ht];constructor
  ·rintro⟨h1,h2⟩ j hj1 hj2;by_cases hji:j=i
   ·subst hji;exact h1
   ·refine((EW m (i+1) (by omega) fun j hj=>?_).1 h2) j (by omega) hj2;by_cases hji:j=i
    ·subst hji;exact h1
    ·exact h j (by omega)
  ·intro hh;have h1:=hh i (by omega) (by omega);refine⟨h1,(EW m (i+1) (by omega) fun j hj=>?_).2 fun j hj1 hj2=>hh j (by omega) hj2⟩;by_cases hji:j=i
   ·subst hji;exact h1
   ·exact h j (by omega)
theorem Vc{n:Nat}{av:List bH}(hn:n≤512)(hl:av.length≤1000000000):∃s,
  bw T (.call false kO [.aK av.length (av.flatMap bH.enc),.fn fC [] [.ref σ.length 1 0 0]] ([.cells 0 ((List.replicate n false).flatMap uK),.cells 0 [.sl σ.length 0 0 0 n 1]]::σ)) =
   some (.val (.bool (vy (n:Int) [] av)) (s::σ)):=by
 have h:=Qe (yU 3 bH.enc (fun _=>rfl)) (T:=T) (S:=KR n av σ) (fv:=.fn fC [] [.ref σ.length 1 0 0]) (l:=av) (f:=kO) (g:=mw) (h:=fj) (i:=gH) (p:=z6 n av)
  rfl rfl rfl rfl (by omega) rfl rfl rfl (fun i=>by simp[KR]) (fun i x hx=>by
   rw[sU];have:=Vb (σ:=σ) hn hx;show R.bg (bw T (.call false fC [.agg x.enc,.ref σ.length 1 0 0] _))=_
   rw[this];rfl)
 have he:(!(rm (fun i => !z6 n av i) 0 av.length).1)=vy (n:Int) [] av:=by
  have h1:=EW (n:=n) (av:=av) av.length 0 (by omega) (by simp);have h2:=Fj (q:=fun i => !z6 n av i) (m:=av.length) (i:=0);simp only[List.take_zero,aw,aS]at h1;cases hw:vy (n:Int) [] av
  ·rw[Bool.not_eq_false'];cases hs:(rm (fun i => !z6 n av i) 0 av.length).1
   ·have h3:=h2.1 hs;have h4:=h1.2 fun j _ hj=>by have:=h3 j hj;simpa using this
    rw[hw]at h4;cases h4
   ·rfl
  ·rw[dU];refine h2.2 fun j hj=>?_
   have:=h1.1 hw j (by omega) hj;simpa using this
 rw[he]at h;refine⟨[.cells 0 ((tF n av (rm (fun i => !z6 n av i) 0 av.length).2).flatMap uK),.cells 0 [.sl σ.length 0 0 0 n 1]],?_⟩;exact h
theorem DF{b:cC}(h1:b.cf.length≤1000000000)(h2:b.av.length≤1000000000):bw T (.call false jW [.agg [.int .i64 b.f.x,.int .i64 b.f.y,.int .i64 b.f.z,.int .i64 b.f.k,.aK b.cf.length (b.cf.flatMap Rw.enc),.int .i64 b.bJ,.int .i64 b.lift,.int .i64 b.deep,.aK b.av.length (b.av.flatMap bH.enc)]] σ)=some (.val (.bool b.valid) σ):=by
 refine aD JJ Kf rfl ?_;have hT:=fun σ=>BK (σ:=σ) (l:=b.cf) h1
 unfold cC.valid cC.ok1;cases hc1:b.f.valid
 ·simp[-length_flatMap,-map_take,j9,fT.shape,hc1]
 by_cases hc2:b.f.k<4
 ·simp[-length_flatMap,-map_take,j9,fT.shape,hc1,hc2,show ¬4≤b.f.k by omega]
 have hc2':4≤b.f.k:=by omega
 cases hc3:lB b.cf
 ·simp[-length_flatMap,-map_take,j9,fT.shape,hc1,hc2,hT,hc3]
 cases hc4:cV b.bJ 1 100000
 ·simp[-length_flatMap,-map_take,j9,fT.shape,hc1,hc2,hT,hc3,dN,hc4]
 cases hc5:cV b.lift 0 1000
 ·simp[-length_flatMap,-map_take,j9,fT.shape,hc1,hc2,hT,hc3,dN,hc4,hc5]
 cases hc6:cV b.deep 0 3000
 ·simp[-length_flatMap,-map_take,j9,fT.shape,hc1,hc2,hT,hc3,dN,hc4,hc5,hc6]
 by_cases hc7:8<b.av.length
 ·simp[-length_flatMap,-map_take,j9,fT.shape,hc1,hc2,hT,hc3,dN,hc4,hc5,hc6,hc7,show ¬b.av.length≤8 by omega,show(8:Int)<b.av.length by omega]
 obtain⟨g1,g2,g3,g4,g5⟩:=fT.ur.1 hc1;obtain⟨_,g6⟩:=fT.sz g1 g2 g3;have hsz:=fun σ=>af5 (σ:=σ) (b:=b) g1 g2 g3
 have hs:b.size=((b.n:Nat):Int):=by unfold cC.n cC.size fT.size;omega
 have hn:b.n≤512:=by unfold cC.n cC.size fT.size;omega
 have hnil:((List.range b.n).flatMap fun _=>[D.bool false])=(List.replicate b.n false).flatMap uK:=by
  have:∀n,((List.range n).flatMap fun _=>[D.bool false])=(List.replicate n false).flatMap uK:=by
   intro n;induction n with
   |zero=>rfl
   |succ n ih=>rw[List.range_succ,jb,ih,List.replicate_succ'];simp[uK]
  exact this _
 obtain⟨s,hall⟩:=Vc (σ:=σ) (n:=b.n) (av:=b.av) hn h2;rw[← hs]at hall;have hroom:(b.n:Int)≤70368744177664:=by omega
 rw[hs]at hsz;simp[-length_flatMap,-map_take,j9,fT.shape,hc1,hc2,hT,hc3,dN,hc4,hc5,hc6,show ¬(8:Int)<b.av.length by omega,show b.av.length≤8 by omega,hsz,room,hroom,hnil,hall,hc2']
theorem aoP{l:List Int}{i n:Nat}:((l.flatMap aU).drop i).take n=((l.drop i).take n).flatMap aU:=by
 simp only[show aU=fun n=>[D.int .i64 n]from rfl,TQ,← List.map_drop,← List.map_take]
theorem rI{l:List Int}{j:Nat}{x:Int}(h:l[j]?=some x):((l.flatMap aU).drop j).take 1=[.int .i64 x]:=by
 have:=bQ (f:=aU) (w:=1) (fun _=>rfl) h;simpa using this
theorem cM(l:List Rw):D.bD (l.flatMap Rw.enc)=true:=ir (fun x=>by simp) l
theorem bu(l:List bH):D.bD (l.flatMap bH.enc)=true:=ir (fun x=>by simp) l
theorem bA(l:List Int):D.bD (l.flatMap aU)=true:=ir (fun x=>by simp) l
theorem M3(l:List Rock.aG):D.bD (l.flatMap aG.enc)=true:=ir (fun x=>by simp) l
structure Bv(b:cC):Prop where
 x:1≤b.f.x∧b.f.x≤8
 y:1≤b.f.y∧b.f.y≤8
 z:1≤b.f.z∧b.f.z≤8
 k:4≤b.f.k∧b.f.k≤6
 sz:b.f.size=((b.n:Nat):Int)
 n:1≤b.n∧b.n≤64
 cf:lB b.cf=true
 bJ:1≤b.bJ∧b.bJ≤100000
 lift:0≤b.lift∧b.lift≤1000
 deep:0≤b.deep∧b.deep≤3000
 av:b.av.length≤8
 ok:vy b.size [] b.av=true
theorem Bv.of{b:cC}(h:b.valid=true):Bv b:=by
 simp only[cC.valid,cC.ok1,af,aA]at h;obtain⟨⟨h1,h2,h3,h4,h5,h6,h7⟩,h8⟩:=h;obtain⟨g1,g2,g3,g4,g5⟩:=fT.ur.1 h1;obtain⟨_,g6⟩:=fT.sz g1 g2 g3;refine⟨g1,g2,g3,⟨h2,g5.2⟩,?_,?_,h3,bf.1 h4,bf.1 h5,bf.1 h6,h7,h8⟩
 ·unfold cC.n cC.size fT.size;omega
 ·unfold cC.n cC.size;unfold fT.size at g4 ⊢;omega
theorem Bv.fv{b:cC}(h:Bv b):b.f.valid=true:=fT.ur.2 ⟨h.x,h.y,h.z,by have:=h.sz;have:=h.n;omega,by have:=h.k;omega⟩
structure Mv(b:cC)(m:cX):Prop where
 bv:Bv b
 len:(m.bg.length:Int)=b.f.k*b.f.size
theorem Mv.le{b:cC}{m:cX}(h:Mv b m):4*b.n≤m.bg.length∧m.bg.length≤384:=by
 have h1:=h.bv.k;have h2:=h.bv.sz;have h3:=h.bv.n;have h4:=h.len;have h5:=(fL h1.1 (by omega:(0:Int)≤b.f.size));have h6:=agR (a:=b.f.k) (b:=b.f.size) (A:=6) (B:=64) (by omega) h1.2 (by omega) (by omega);omega
theorem AT{b:cC}(h:Bv b):bw T (.call false dq [.agg [.int .i64 b.f.x,.int .i64 b.f.y,.int .i64 b.f.z,.int .i64 b.f.k,.aK b.cf.length (b.cf.flatMap Rw.enc),.int .i64 b.bJ,.int .i64 b.lift,.int .i64 b.deep,.aK b.av.length (b.av.flatMap bH.enc)]] σ)=some (.val (.int .i64 b.n) σ):=by
 have:=af5 (σ:=σ) (b:=b) h.x h.y h.z;rw[show b.size=((b.n:Nat):Int)from h.sz]at this;exact this
theorem Mi{b:cC}{m:cX}(h:Mv b m){k:Nat}(hk:k<4):bw T (.call false eo [.agg [.int .i64 b.f.x,.int .i64 b.f.y,.int .i64 b.f.z,.int .i64 b.f.k,.aK b.cf.length (b.cf.flatMap Rw.enc),.int .i64 b.bJ,.int .i64 b.lift,.int .i64 b.deep,.aK b.av.length (b.av.flatMap bH.enc),.str m.name,.aK m.bg.length (m.bg.flatMap aU)],.int .i64 k] σ)=some (.val (.aK b.n ((xi b m k).flatMap aU)) σ):=by
 refine aD GZ HQ rfl ?_;obtain⟨h1,h2⟩:=h.le;have h3:=h.bv.n;have hs:=fun σ=>AT (σ:=σ) h.bv
 have e1:(k:Int)*(b.n:Int)=((k*b.n:Nat):Int):=by push_cast;rfl
 have e2:((k:Int)+1)*(b.n:Int)=(((k+1)*b.n:Nat):Int):=by push_cast;rfl
 have b1:(k+1)*b.n≤m.bg.length:=iB (dt _ (by omega:k+1≤4)) h1;have b2:(k+1)*b.n=k*b.n+b.n:=eV _ _;have w1:=gQ (n:=(k:Int)*b.n) (by rw[e1];omega);have w2:=gQ (n:=(k:Int)+1) (by omega);have w3:=gQ (n:=((k:Int)+1)*b.n) (by rw[e2];omega);have e3:(k+1)*b.n-k*b.n=b.n:=by omega
 have hsub:=aoP (l:=m.bg) (i:=k*b.n) (n:=b.n);have hle:(k:Int)*b.n≤((k:Int)+1)*b.n:=by rw[e1,e2];omega
 simp[-length_flatMap,-map_take,hs,w1,w2,w3];rw[e1,e2];have c1:(0:Int)≤((k*b.n:Nat):Int):=by omega
 have c2:((k*b.n:Nat):Int)≤(((k+1)*b.n:Nat):Int):=by omega
 have c3:(((k+1)*b.n:Nat):Int)≤(m.bg.length:Int):=by omega
 have c4:(0:Int)≤(((k+1)*b.n:Nat):Int):=by omega
 simp only[c1,c2,c3,c4,and_self,if_true,Int.toNat_natCast,Option.bind_some,aT,Iv,e3,hsub];simp[-length_flatMap,-map_take,xi,hle,e3,hsub,bA]
theorem Pp{b:cC}{m:cX}(h:Mv b m){k:Nat}(hk:k<4):(xi b m k).length=b.n:=by
 obtain⟨h1,h2⟩:=h.le;have b1:(k+1)*b.n≤m.bg.length:=iB (dt _ (by omega:k+1≤4)) h1;have b2:(k+1)*b.n=k*b.n+b.n:=eV _ _;simp[xi];omega
theorem y9{b:cC}{m:cX}(h:Mv b m){k i:Nat}(hk:k<4)(hi:i<b.n):(xi b m k)[i]?=some (wz b m k i):=by
 obtain⟨h1,h2⟩:=h.le;have b1:(k+1)*b.n≤m.bg.length:=iB (dt _ (by omega:k+1≤4)) h1;have b2:(k+1)*b.n=k*b.n+b.n:=eV _ _;have h3:k*b.n+i<m.bg.length:=by omega
 simp only[xi,wz,eh,gL,if_pos hi,aP h3,gV]
theorem aiS{b:cC}{m:cX}(h:Mv b m){i:Nat}(hi:i<b.n):bw T (.call false fD [.agg [.int .i64 b.f.x,.int .i64 b.f.y,.int .i64 b.f.z,.int .i64 b.f.k,.aK b.cf.length (b.cf.flatMap Rw.enc),.int .i64 b.bJ,.int .i64 b.lift,.int .i64 b.deep,.aK b.av.length (b.av.flatMap bH.enc),.str m.name,.aK m.bg.length (m.bg.flatMap aU)],.int .i64 i] σ)=some (.val (.int .i64 (hold b m i)) σ):=by
 refine aD GY HP rfl ?_;have hk:=fun σ=>Mi (σ:=σ) h (k:=0) (by omega)
 have ha:=rI (y9 h (k:=0) (by omega) hi);simp only[Int.ofNat_zero]at hk;simp[-length_flatMap,-map_take,hk,hi,ha,hold]
theorem ai0{b:cC}{m:cX}(h:Mv b m){i:Nat}(hi:i<b.n):bw T (.call false j2 [.agg [.int .i64 b.f.x,.int .i64 b.f.y,.int .i64 b.f.z,.int .i64 b.f.k,.aK b.cf.length (b.cf.flatMap Rw.enc),.int .i64 b.bJ,.int .i64 b.lift,.int .i64 b.deep,.aK b.av.length (b.av.flatMap bH.enc),.str m.name,.aK m.bg.length (m.bg.flatMap aU)],.int .i64 i] σ)=some (.val (.int .i64 (OL b m i)) σ):=by
 refine aD G1 HR rfl ?_;have hk:=fun σ=>Mi (σ:=σ) h (k:=1) (by omega)
 have ha:=rI (y9 h (k:=1) (by omega) hi);simp at hk;simp[-length_flatMap,-map_take,hk,hi,ha,OL]
theorem ate{b:cC}{m:cX}(h:Mv b m){i:Nat}(hi:i<b.n):bw T (.call false nF [.agg [.int .i64 b.f.x,.int .i64 b.f.y,.int .i64 b.f.z,.int .i64 b.f.k,.aK b.cf.length (b.cf.flatMap Rw.enc),.int .i64 b.bJ,.int .i64 b.lift,.int .i64 b.deep,.aK b.av.length (b.av.flatMap bH.enc),.str m.name,.aK m.bg.length (m.bg.flatMap aU)],.int .i64 i] σ)=some (.val (.int .i64 (OR b m i)) σ):=by
 refine aD G3 HT rfl ?_;have hk:=fun σ=>Mi (σ:=σ) h (k:=2) (by omega)
 have ha:=rI (y9 h (k:=2) (by omega) hi);simp at hk;simp[-length_flatMap,-map_take,hk,hi,ha,OR]
theorem as1{b:cC}{m:cX}(h:Mv b m){i:Nat}(hi:i<b.n):bw T (.call false jZ [.agg [.int .i64 b.f.x,.int .i64 b.f.y,.int .i64 b.f.z,.int .i64 b.f.k,.aK b.cf.length (b.cf.flatMap Rw.enc),.int .i64 b.bJ,.int .i64 b.lift,.int .i64 b.deep,.aK b.av.length (b.av.flatMap bH.enc),.str m.name,.aK m.bg.length (m.bg.flatMap aU)],.int .i64 i] σ)=some (.val (.int .i64 (feed b m i)) σ):=by
 refine aD GW HN rfl ?_;have hk:=fun σ=>Mi (σ:=σ) h (k:=3) (by omega)
 have ha:=rI (y9 h (k:=3) (by omega) hi);simp at hk;simp[-length_flatMap,-map_take,hk,hi,ha,feed]
theorem aqh{lo hi n:Int}:bw T (.call false ec [.int .i64 n,.ref σ.length 0 0 0] ([]::[]::[]::[]::[.cells 0 [.int .i64 lo,.int .i64 hi]]::σ))=some (.val (.bool (cV n lo hi)) ([]::[]::[]::[]::[.cells 0 [.int .i64 lo,.int .i64 hi]]::σ)):=by
 refine aD DN Em rfl ?_;simp[-length_flatMap,-map_take,dN]
theorem ahq{b:cC}{m:cX}(h:Mv b m){k:Nat}(hk:k<4){lo hi:Int}:bw T (.call false kN [.aK b.n ((xi b m k).flatMap aU),.fn ec [] [.ref σ.length 0 0 0]] ([.cells 0 [.int .i64 lo,.int .i64 hi]]::σ)) =
  some (.val (.bool (gW (xi b m k) fun n=>cV n lo hi)) ([.cells 0 [.int .i64 lo,.int .i64 hi]]::σ)):=by
 have hl:=Pp h hk;have hn:=h.bv.n;have:=aqO (Qu .i64) (T:=T) (f:=kN) (g:=pq) (h:=cg) (i:=eu) (l:=xi b m k) (p:=fun n=>cV n lo hi) (fv:=.fn ec [] [.ref σ.length 0 0 0]) (σ:=[.cells 0 [.int .i64 lo,.int .i64 hi]]::σ)
  rfl rfl rfl rfl (by omega) rfl rfl rfl (fun x _=>by
   rw[sU];have:=aqh (σ:=σ) (lo:=lo) (hi:=hi) (n:=x);show R.bg (bw T (.call false ec [.int .i64 x,.ref σ.length 0 0 0] _))=_
   rw[this];rfl)
 rw[hl]at this;exact this
def Ss:Nat→Int×Int
 |0=>(1000,100000)
 |1=>(0,1000)
 |2=>(0,3000)
 |_=>(0,1000)
def Bq(b:cC)(m:cX)(i:Nat):Nat→Bool
 |0=>true
 |n+1=>gW (xi b m i) (fun x=>cV x (Ss i).1 (Ss i).2) && Bq b m (i+1) n
theorem ajo{b:cC}{m:cX}(h:Mv b m):∀(n i:Nat),i+n=4 →
  WL T [1,17,18] true nH [(1,.bE [.int .i64 b.f.x,.int .i64 b.f.y,.int .i64 b.f.z,.int .i64 b.f.k,.aK b.cf.length (b.cf.flatMap Rw.enc),.int .i64 b.bJ,.int .i64 b.lift,.int .i64 b.deep,.aK b.av.length (b.av.flatMap bH.enc),.str m.name,.aK m.bg.length (m.bg.flatMap aU)]),(17,.agg [.int .i64 1000,.int .i64 100000,.int .i64 0,.int .i64 1000,.int .i64 0,.int .i64 3000,.int .i64 0,.int .i64 1000]),(18,.int .i64 i)] σ
   (fun x e σ'=>σ'=σ∧if Bq b m i n=true then x=.exit 0 else x=.ret∧get e 2=.bool false)
 |0,i,hi=>by
  refine Iw vN ?_;obtain rfl:i=4:=by omega
  simp[-length_flatMap,-map_take,Bq,cM,bu,bA]
 |n+1,i,hi=>by
  refine Iw vN ?_;have hk:i<4:=by omega
  have hK:=fun σ=>Mi (σ:=σ) h hk
  have ih:=ajo h n (i+1) (by omega);have hA:=ahq (σ:=σ) h hk (lo:=(Ss i).1) (hi:=(Ss i).2);simp only[Bq];rcases Bool.eq_false_or_eq_true (gW (xi b m i) (fun x=>cV x (Ss i).1 (Ss i).2))with hc | hc
  ·rw[hc]at hA;obtain rfl | rfl | rfl | rfl:i=0∨i=1∨i=2∨i=3:=by omega
   all_goals
    simp only[Ss]at hA hc ⊢
    try simp at hK
    simp[-length_flatMap,-map_take,hK,hA,hc,cM,bu,bA];exact WL.to ih (by simp[cM,bu,bA]) (by simp[cM,bu,bA]) fun x e σ' hh=>by simpa[hc]using hh
  ·rw[hc]at hA;obtain rfl | rfl | rfl | rfl:i=0∨i=1∨i=2∨i=3:=by omega
   all_goals
    simp only[Ss]at hA hc ⊢
    try simp at hK
    simp[-length_flatMap,-map_take,hK,hA,hc,cM,bu,bA]
theorem Mv.of{b:cC}{m:cX}(h:Bv b)(hc:gX b.f [m]=0):Mv b m:=by
 refine⟨h,?_⟩;simp only[gX,h.fv,if_true,fT.az]at hc;have h1:cV (([m]:List cX).length:Nat) 1 40=true:=by simp[cV]
 rw[if_pos h1]at hc;simp only[fT.each]at hc;split at hc
 ·rename_i hm;unfold fT.model at hm;split at hm
  ·split at hm
   ·rename_i hh;exact hh.1
   ·cases hm
  ·cases hm
 ·rename_i hm;exact absurd hc hm
theorem U4{b:cC}{m:cX}(h:Bv b)(hn:m.name.length≤1000000000)(hl:m.bg.length≤1000000000):bw T (.call false j1 [.agg [.int .i64 b.f.x,.int .i64 b.f.y,.int .i64 b.f.z,.int .i64 b.f.k,.aK b.cf.length (b.cf.flatMap Rw.enc),.int .i64 b.bJ,.int .i64 b.lift,.int .i64 b.deep,.aK b.av.length (b.av.flatMap bH.enc),.str m.name,.aK m.bg.length (m.bg.flatMap aU)]] σ)=some (.val (.bool (fits b m)) σ):=by
 refine aD GX HO rfl ?_;have hC:=fun σ=>Gs (σ:=σ) (f:=b.f) (l:=[m]) (by simpa using⟨hn,hl⟩) (by simp)
 simp at hC;by_cases hc:gX b.f [m]=0
 ·have hm:=Mv.of h hc;simp[-length_flatMap,-map_take,hC,hc];refine WL.to (ajo (σ:=[]::σ) hm 4 0 (by omega)) (by simp) rfl ?_;rintro x e σ' ⟨rfl,hh⟩;have he:Bq b m 0 4=fits b m:=by
   simp[Bq,fits,hc,Ss]
  rw[he]at hh;cases hf:fits b m
  ·rw[hf]at hh;simp at hh;simp[hh]
  ·rw[hf]at hh;simp at hh;subst hh;simp[-length_flatMap,-map_take]
 ·simp[-length_flatMap,-map_take,hC,hc,fits]
theorem ar4{b:cC}{m:cX}(h1:b.cf.length≤1000000000)(h2:b.av.length≤1000000000)(hn:m.name.length≤1000000000)(hl:m.bg.length≤1000000000)(hb:Bd b m=true):
  bw T (.call false tU [.agg [.int .i64 b.f.x,.int .i64 b.f.y,.int .i64 b.f.z,.int .i64 b.f.k,.aK b.cf.length (b.cf.flatMap Rw.enc),.int .i64 b.bJ,.int .i64 b.lift,.int .i64 b.deep,.aK b.av.length (b.av.flatMap bH.enc)],.agg [.str m.name,.aK m.bg.length (m.bg.flatMap aU)]] σ)=some (.val (.ez [.agg [.int .i64 b.f.x,.int .i64 b.f.y,.int .i64 b.f.z,.int .i64 b.f.k,.aK b.cf.length (b.cf.flatMap Rw.enc),.int .i64 b.bJ,.int .i64 b.lift,.int .i64 b.deep,.aK b.av.length (b.av.flatMap bH.enc),.str m.name,.aK m.bg.length (m.bg.flatMap aU)],.int .i64 0]) σ):=by
 refine aD MB Nf rfl ?_;simp only[Bd,af]at hb;have hf:=fun σ=>U4 (σ:=σ) (Bv.of hb.1) hn hl
 simp[-length_flatMap,-map_take,DF h1 h2,hb.1,hf,hb.2,cM,bu,bA]
theorem af3{b:cC}{m:cX}(h1:b.cf.length≤1000000000)(h2:b.av.length≤1000000000)(hn:m.name.length≤1000000000)(hl:m.bg.length≤1000000000)(hb:Bd b m=false):∃d,
  bw T (.call false tU [.agg [.int .i64 b.f.x,.int .i64 b.f.y,.int .i64 b.f.z,.int .i64 b.f.k,.aK b.cf.length (b.cf.flatMap Rw.enc),.int .i64 b.bJ,.int .i64 b.lift,.int .i64 b.deep,.aK b.av.length (b.av.flatMap bH.enc)],.agg [.str m.name,.aK m.bg.length (m.bg.flatMap aU)]] σ)=some (.val (.ez [.agg d,.int .i64 1]) σ)∧d.length=11∧D.bD d=true:=by
 refine⟨[(.int .i64 0),(.int .i64 0),(.int .i64 0),(.int .i64 0),.aH,(.int .i64 0),(.int .i64 0),(.int .i64 0),.aH,(.str []),.aH],?_,rfl,by simp⟩;refine aD MB Nf rfl ?_;cases hc:b.valid
 ·simp[-length_flatMap,-map_take,DF h1 h2,hc]
 ·have hf:=fun σ=>U4 (σ:=σ) (Bv.of hc) hn hl
  have hb':fits b m=false:=by simpa[Bd,hc]using hb
  simp[-length_flatMap,-map_take,DF h1 h2,hc,hf,hb']
theorem aqq{n:Int}:bw T (.call false jV [.int .i64 n] σ)=some (.val (.bool (cV n (-100000) 100000)) σ):=by
 refine aD GQ HI rfl ?_;simp[-length_flatMap,-map_take,dN]
theorem ahv{l:List Int}{p:Int→Bool}{fv:D}(hl:l.length≤1000000000)(ht:rE T fv (fun n => .int .i64 n) p l)(hc:fv.cells=some [fv]):
  bw T (.call false kN [.aK l.length (l.flatMap aU),fv] σ)=some (.val (.bool (gW l p)) σ) :=
 Ca (Qu .i64) (f:=kN) (g:=pq) (h:=cg) (i:=eu) (l:=l) (p:=p) (fv:=fv) rfl rfl rfl rfl (by omega) ht hc
theorem aqr{b:cC}{l:List Int}(hl:l.length≤1000000000):bw T (.call false po [.agg [.int .i64 b.f.x,.int .i64 b.f.y,.int .i64 b.f.z,.int .i64 b.f.k,.aK b.cf.length (b.cf.flatMap Rw.enc),.int .i64 b.bJ,.int .i64 b.lift,.int .i64 b.deep,.aK b.av.length (b.av.flatMap bH.enc)],.aK l.length (l.flatMap aU)] σ)=some (.val (.int .i64 (AO b l)) σ):=by
 refine aD JI Ke rfl ?_;have ha:=fun σ=>ahv (σ:=σ) (l:=l) (p:=fun n=>cV n (-100000) 100000) (fv:=.fn jV [] []) hl (rE.fn fun x _ σ=>aqq) rfl
 unfold AO;by_cases hc1:l.length=b.av.length
 ·rw[← hc1];cases hc2:gW l (fun n=>cV n (-100000) 100000)<;>simp[-length_flatMap,-map_take,hc1,ha,hc2,hc1 ▸ ha]
 ·simp[-length_flatMap,-map_take,hc1,show ¬(l.length:Int)=b.av.length by omega]
def LS(l:List Int):List D:=[.aK l.length (l.flatMap aU)]
theorem ajq{b:cC}{aC:List (List Int)}(hl:aC.length≤1000000000)(hs:∀l∈aC,l.length≤1000000000):∀(m i:Nat),i+m=aC.length →
  WL T [2,11,12,13] false oU [(2,.bE [.int .i64 b.f.x,.int .i64 b.f.y,.int .i64 b.f.z,.int .i64 b.f.k,.aK b.cf.length (b.cf.flatMap Rw.enc),.int .i64 b.bJ,.int .i64 b.lift,.int .i64 b.deep,.aK b.av.length (b.av.flatMap bH.enc)]),(11,.aK aC.length (aC.flatMap LS)),(12,.int .i64 aC.length),(13,.int .i64 i)] σ
   (fun x e σ'=>σ'=σ∧if cQ (AO b) (aC.drop i)=0 then x=.exit 0 else x=.ret∧get e 4=.int .i64 (cQ (AO b) (aC.drop i)))
 |0,i,hi=>by
  refine aM xV ?_;have h1:¬i<aC.length:=by omega
  have h2:aC.drop i=[]:=aJ (by omega);simp[-length_flatMap,-map_take,h1,h2,cQ]
 |m+1,i,hi=>by
  refine aM xV ?_;have h1:i<aC.length:=by omega
  obtain⟨l,hx⟩:=gE h1;have h2:=bQ (f:=LS) (w:=1) (fun _=>rfl) hx;simp only[LS,dM]at h2;have h4:=fK h1 (by omega);have h5:=dG hx;have hC:=fun σ=>aqr (σ:=σ) (b:=b) (l:=l) (hs l (an hx))
  rw[h5,cQ];have ih:=ajq (b:=b) hl hs m (i+1) (by omega);by_cases hc:AO b l=0
  ·simp[-length_flatMap,-map_take,h1,h2,h4,hC,hc,LS];exact WL.to ih (by simp[LS]) rfl fun x e σ' hh=>by simpa[hc]using hh
  ·simp[-length_flatMap,-map_take,h1,h2,h4,hC,hc,LS]
theorem ai3{b:cC}{aC:List (List Int)}(hl:aC.length≤1000000000)(hs:∀l∈aC,l.length≤1000000000):
  bw T (.call false nY [.agg [.int .i64 b.f.x,.int .i64 b.f.y,.int .i64 b.f.z,.int .i64 b.f.k,.aK b.cf.length (b.cf.flatMap Rw.enc),.int .i64 b.bJ,.int .i64 b.lift,.int .i64 b.deep,.aK b.av.length (b.av.flatMap bH.enc)],.aK aC.length (aC.flatMap LS)] σ)=some (.val (.int .i64 (vU b aC)) σ):=by
 refine aD Lp LN rfl ?_;unfold vU;by_cases hc:200<aC.length
 ·simp[-length_flatMap,-map_take,hc,show(200:Int)<aC.length by omega]
 ·simp[-length_flatMap,-map_take,hc,show ¬(200:Int)<aC.length by omega];refine WL.to (ajq (σ:=[]::σ) (b:=b) hl hs aC.length 0 (by omega)) (by simp) rfl ?_;rintro x e σ' ⟨rfl,h⟩;simp only[aS]at h;by_cases hc2:cQ (AO b) aC=0
  ·rw[if_pos hc2]at h;subst h;simp[-length_flatMap,-map_take,hc2,show aC.length≤200 by omega]
  ·rw[if_neg hc2]at h;obtain⟨rfl,h⟩:=h;simp[h,show ¬200<aC.length by omega]
structure Fv(b:cC)(m:cX):Prop extends Mv b m where
 hold:∀i,i<b.n→1000≤Rock.hold b m i∧Rock.hold b m i≤100000
 OL:∀i,i<b.n→0≤Rock.OL b m i∧Rock.OL b m i≤1000
 OR:∀i,i<b.n→0≤Rock.OR b m i∧Rock.OR b m i≤3000
 feed:∀i,i<b.n→0≤Rock.feed b m i∧Rock.feed b m i≤1000
theorem Fv.of{b:cC}{m:cX}(h:Bd b m=true):Fv b m:=by
 simp only[Bd,fits,af,aA]at h;obtain⟨h1,h2,h3,h4,h5,h6⟩:=h;have hm:=Mv.of (Bv.of h1) h2;have key:∀{k:Nat} {lo hi:Int},k<4→gW (xi b m k) (fun n=>cV n lo hi)=true→∀i,i<b.n→lo≤wz b m k i∧wz b m k i≤hi:=by
  intro k lo hi hk ha i hi';exact bf.1 (ki.1 ha _ (an (y9 hm hk hi')))
 exact⟨hm,key (by omega) h3,key (by omega) h4,key (by omega) h5,key (by omega) h6⟩
theorem EV{b:cC}(h:Bv b){i:Nat}(hi:i<b.n):0≤weight b i∧weight b i≤64000:=by
 have hl:=h.lift;have hn:=h.n;have hle:i / (b.f.x.toNat*b.f.y.toNat)≤i:=Nat.div_le_self _ _;have hq:=Int.natCast_nonneg (i / (b.f.x.toNat*b.f.y.toNat));have hle2:((i / (b.f.x.toNat*b.f.y.toNat):Nat):Int)≤64:=by
  have:i / (b.f.x.toNat*b.f.y.toNat)≤64:=by omega
  exact Int.ofNat_le.2 this
 unfold weight;exact pC (A:=64) (B:=1000) hq hle2 hl.1 hl.2
theorem Mm{b:cC}{m:cX}(h:Bv b){i:Nat}(hi:i<b.n):bw T (.call false fE [.agg [.int .i64 b.f.x,.int .i64 b.f.y,.int .i64 b.f.z,.int .i64 b.f.k,.aK b.cf.length (b.cf.flatMap Rw.enc),.int .i64 b.bJ,.int .i64 b.lift,.int .i64 b.deep,.aK b.av.length (b.av.flatMap bH.enc),.str m.name,.aK m.bg.length (m.bg.flatMap aU)],.int .i64 i] σ)=some (.val (.int .i64 (weight b i)) σ):=by
 refine aD DO En rfl ?_;have hx:=h.x;have hy:=h.y;have hn:=h.n;obtain⟨s1,_⟩:=fT.sz h.x h.y h.z;have w1:=gQ (n:=b.f.x*b.f.y) (by omega);have e1:b.f.x*b.f.y=((b.f.x.toNat*b.f.y.toNat:Nat):Int):=by push_cast;rw[eO (by omega),eO (by omega)]
 have e2:(i:Int) / (b.f.x*b.f.y)=((i / (b.f.x.toNat*b.f.y.toNat):Nat):Int):=by
  rw[e1];rfl
 have hle:i / (b.f.x.toNat*b.f.y.toNat)≤i:=Nat.div_le_self _ _;have hw:=EV h hi;have hq:(0:Int)≤(i:Int) / (b.f.x*b.f.y):=by rw[e2];exact Int.natCast_nonneg _
 have hq2:(i:Int) / (b.f.x*b.f.y)≤64:=by
  rw[e2];have:i / (b.f.x.toNat*b.f.y.toNat)≤64:=by omega
  exact Int.ofNat_le.2 this
 have w2:=gQ (n:=(i:Int) / (b.f.x*b.f.y)) (by omega);have w3:=gQ (n:=weight b i) (by omega);have hne:¬b.f.x*b.f.y=0:=by omega
 have hnx:¬b.f.x=0:=by omega
 have hny:¬b.f.y=0:=by omega
 have e3:(i:Int) / (b.f.x*b.f.y)*b.lift=weight b i:=by rw[e2];rfl
 simp[-length_flatMap,-map_take,w1,w2,hne,hnx,hny,e3,w3]
theorem asZ{n d:Int}(hn : -200000000000≤n∧n≤200000000000)(hd:1≤d∧d≤100000):bw T (.call false xh [.int .i64 n,.int .i64 d] σ)=some (.val (.int .i64 (down n d)) σ):=by
 refine aD Tc TI rfl ?_;have h1:=Int.mul_tdiv_add_tmod n d;have h2:=Int.tmod_lt_of_pos n (show 0<d by omega);have h3:=Int.lt_tmod_of_pos n (show 0<d by omega);unfold down;generalize hq:n.tdiv d=q at *
 generalize n.tmod d=r at *
 have h4:d*q=q*d:=Int.mul_comm _ _;have hb : -200000100001≤q∧q≤200000100001:=by
  rcases n0 0 q with h | h
  ·have:=Int.mul_le_mul_of_nonneg_left hd.1 h;omega
  ·have:=Int.mul_le_mul_of_nonpos_left h hd.1;omega
 have w1:=gQ (n:=q) (by omega);have w2:=gQ (n:=q*d) (by omega);have w3:=gQ (n:=q-1) (by omega);have hne:¬d=0:=by omega
 have key:n / d=if n<q*d then q-1 else q:=by
  split
  ·rename_i hc;refine((Int.ediv_emod_unique (r:=r+d) (show 0<d by omega)).2 ⟨?_,?_,?_⟩).1
   ·rw[Int.mul_sub];omega
   ·omega
   ·omega
  ·rename_i hc;refine((Int.ediv_emod_unique (r:=r) (show 0<d by omega)).2 ⟨?_,?_,?_⟩).1<;>omega
 rw[key];by_cases hc:n<q*d<;>simp[-length_flatMap,-map_take,hq,w1,w2,w3,hne,hc]
theorem zL{α:Type}{f:α→List D}{w n:Nat}(hn:1<n)(hw:∀x,(f x).length=w)(hc:∀x,D.bD (f x)=true){l:List α}{j v:Nat}{bs:List Abs.aG}(hσ:σ≠[])(hj:bs[j]?=some (.cells v (l.flatMap f))):
  cI (σ.length-1) n (.sl σ.length j v 0 l.length w) (bs::σ)=(.aK l.length (l.flatMap f),bs.set j .dead::σ):=by
 have h3:¬σ.length≤σ.length-1:=by have:=aV.2 hσ;omega
 rw[HW h3 (cs:=l.flatMap f) (by simp[hj]) (by omega)];have h4:0<n-1:=by omega
 simp[Sa hw l,ir hc l,h4]
theorem E5{b:cC}{m:cX}:(dX b m).length=b.n:=by simp[dX]
theorem L6(l:List Rock.aG):(l.flatMap aG.enc).length=l.length*3:=bV (f:=aG.enc) (w:=3) (fun _=>rfl) l
theorem agb{b:cC}{m:cX}(h:Fv b m):∀(n i v:Nat),i+n=b.n →
  WL T [1,2,6,7] false mo [(1,.bE [.int .i64 b.f.x,.int .i64 b.f.y,.int .i64 b.f.z,.int .i64 b.f.k,.aK b.cf.length (b.cf.flatMap Rw.enc),.int .i64 b.bJ,.int .i64 b.lift,.int .i64 b.deep,.aK b.av.length (b.av.flatMap bH.enc),.str m.name,.aK m.bg.length (m.bg.flatMap aU)]),(2,.sl σ.length 0 v 0 i 3),(6,.int .i64 b.n),(7,.int .i64 i)] ([.cells v (((dX b m).take i).flatMap aG.enc)]::σ)
   (fun x e σ'=>x=.exit 0∧get e 2=.sl σ.length 0 (v+n) 0 (dX b m).length 3∧σ'=[.cells (v+n) ((dX b m).flatMap aG.enc)]::σ)
 |0,i,v,hi=>by
  refine aM uR ?_;obtain rfl:i=b.n:=by omega
  have h3:(dX b m).take b.n=dX b m:=ar (by simp[E5]);simp[-length_flatMap,-map_take,h3,E5]
 |n+1,i,v,hi=>by
  refine aM uR ?_;have h1:i<b.n:=by omega
  have hn:=h.bv.n;have h4:=fK h1 (by omega);have ho:=fun σ=>aiS (σ:=σ) h.toMv h1
  have hw:=fun σ=>ate (σ:=σ) h.toMv h1
  have b1:=h.hold i h1;have b2:=h.OR i h1;have b3:=pC (by omega:0≤hold b m i) b1.2 b2.1 b2.2;have w1:=gQ (n:=hold b m i*OR b m i) (by omega);have ih:=agb h n (i+1) (v+1) (by omega);have hx:(dX b m)[i]?=some ⟨hold b m i,hold b m i*OR b m i,0⟩:=by simp[dX,h1]
  have a3:=Kr (f:=aG.enc) hx;have a4:=L6 ((dX b m).take i);rw[mD,E5,Nat.min_eq_left (by omega)]at a4;have a6:(((dX b m).take i).flatMap aG.enc).take (i*3)=((dX b m).take i).flatMap aG.enc:=ar (by omega);have h7:(i+1)*24≤room:=by unfold room;omega
  simp[-length_flatMap,-map_take,h1,h4,ho,hw,w1,a4,a6,h7,cM,bu,bA];refine WL.to ih (by simp[cM,bu,bA]) (by simp[← a3]) fun x e σ hh=>by simpa[dW,Nat.add_comm 1 n]using hh
theorem JC{b:cC}{m:cX}(h:Fv b m)(hσ:σ≠[]):bw T (.call false jh [.agg [.int .i64 b.f.x,.int .i64 b.f.y,.int .i64 b.f.z,.int .i64 b.f.k,.aK b.cf.length (b.cf.flatMap Rw.enc),.int .i64 b.bJ,.int .i64 b.lift,.int .i64 b.deep,.aK b.av.length (b.av.flatMap bH.enc),.str m.name,.aK m.bg.length (m.bg.flatMap aU)]] σ)=some (.val (stE (dX b m)) σ):=by
 refine aD Fz Gf rfl ?_;have hs:=fun σ=>AT (σ:=σ) h.bv
 simp[-length_flatMap,-map_take,hs,cM,bu,bA];refine WL.to (agb (σ:=σ) h b.n 0 0 (by omega)) (by simp) (by simp) ?_;rintro x e σ' ⟨rfl,g2,rfl⟩;simp[-length_flatMap,-map_take,g2];rw[zL (f:=aG.enc) (by decide) (fun _=>rfl) (fun x=>by simp) hσ (by simp)];simp[stE]
end Go.Proofs.YtfgljaglidhjiaaGreatDoor
