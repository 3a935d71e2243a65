import Derived.Test.YtfgljaglidhjiaaGreatDoorBase20
import Derived.Test.YtfgljaglidhjiaaGreatDoorTab
set_option linter.all false
namespace Go.Rock
open List(length_flatMap map_take)
open Go Go.Abs
structure fU where
 x:Int
 y:Int
 z:Int
 k:Int
structure Rw where
 t:Int
 p:Int
 l:Int
 v:Int
 s:Int
structure bJ where
 b:Int
 h:Int
 m:Int
structure cC where
 f:fU
 cz:List Rw
 bL:Int
 lift:Int
 deep:Int
 ar:List bJ
structure cU where
 name:List UInt8
 bu:List Int
structure aF where
 m:Int
 h:Int
 k:Int
@[simp] theorem fU.eta(p:fU):fU.mk p.x p.y p.z p.k=p:=rfl
@[simp] theorem Rw.eta(p:Rw):Rw.mk p.t p.p p.l p.v p.s=p:=rfl
@[simp] theorem bJ.eta(p:bJ):bJ.mk p.b p.h p.m=p:=rfl
@[simp] theorem aF.eta(p:aF):aF.mk p.m p.h p.k=p:=rfl
@[simp] def fU.enc(f:fU):List D:=[.int .i64 f.x,.int .i64 f.y,.int .i64 f.z,.int .i64 f.k]
@[simp] def Rw.enc(r:Rw):List D:=[.int .i64 r.t,.int .i64 r.p,.int .i64 r.l,.int .i64 r.v,.int .i64 r.s]
@[simp] def bJ.enc(r:bJ):List D:=[.int .i64 r.b,.int .i64 r.h,.int .i64 r.m]
@[simp] def aF.enc(r:aF):List D:=[.int .i64 r.m,.int .i64 r.h,.int .i64 r.k]
@[simp] def aT(n:Int):List D:=[.int .i64 n]
@[simp] def cC.enc(b:cC):List D:=[.int .i64 b.f.x,.int .i64 b.f.y,.int .i64 b.f.z,.int .i64 b.f.k,.aI b.cz.length (b.cz.flatMap Rw.enc),.int .i64 b.bL,.int .i64 b.lift,.int .i64 b.deep,.aI b.ar.length (b.ar.flatMap bJ.enc)]
@[simp] def cU.enc(m:cU):List D:=[.str m.name,.aI m.bu.length (m.bu.flatMap aT)]
def Vs(s:List aF):D:=.aI s.length (s.flatMap aF.enc)
def cA(n lo hi:Int):Bool:=decide (lo≤n) && decide (n≤hi)
theorem ba{n lo hi:Int}:cA n lo hi=true↔lo≤n∧n≤hi:=by simp[cA]
def fU.size(f:fU):Int:=f.x*f.y*f.z
def fU.valid(f:fU):Bool:=cA f.x 1 8 && (cA f.y 1 8 && (cA f.z 1 8 && (decide (f.size≤64) && cA f.k 1 6)))
theorem fU.tj{f:fU}:f.valid=true↔(1≤f.x∧f.x≤8)∧(1≤f.y∧f.y≤8)∧(1≤f.z∧f.z≤8)∧f.size≤64∧(1≤f.k∧f.k≤6):=by
 simp[fU.valid,cA,and_assoc]
def fU.shape(f:fU):Int:=if f.valid then 0 else 1
def letter(c:UInt8):Bool:=decide (97≤c.toNat) && decide (c.toNat≤122)
def digit(c:UInt8):Bool:=decide (48≤c.toNat) && decide (c.toNat≤57)
def xa(i:Nat):List UInt8→Bool
 |[]=>true
 |c::l=>(letter c || (decide (i≠0) && digit c)) && xa (i+1) l
def named(s:List UInt8):Bool:=xa 0 s && cA s.length 1 16
def fU.model(f:fU)(m:cU):Int:=if named m.name then(if(m.bu.length:Int)=f.k*f.size∧fV m.bu (fun n=>cA n (-100000) 100000)=true then 0 else 1)else 5
def fU.each(f:fU)(met:List (List UInt8)):List cU→Int
 |[]=>0
 |m::l=>if f.model m=0 then(if met.contains m.name then 6 else f.each (met++[m.name]) l)else f.model m
def fU.av(f:fU)(l:List cU):Int:=if cA l.length 1 40 then f.each [] l else 3
def gV(f:fU)(l:List cU):Int:=if f.valid then f.av l else 1
def Rw.alone(r:Rw):Bool:=cA r.t 0 400 && (cA r.p 1 10000 && (cA r.l 0 4000 && (cA r.s 0 2000 && (decide (r.l<r.v) && decide (r.v≤4000)))))
def Rw.L7(o r:Rw):Bool := !(decide (r.t≤o.t) || (decide (r.p≤o.p) || (decide (r.l≤o.l) || decide (r.s<o.s))))
def HI:List Rw→Bool
 |o::r::l=>o.L7 r && HI (r::l)
 |_=>true
def kE(t:List Rw):Bool:=cA t.length 2 20 && (fV t Rw.alone && HI t)
def bJ.ok(size:Int)(used:List Int)(w:bJ):Bool:=cA w.b 0 (size-1) && (!used.contains w.b && (cA w.h 0 3000 && cA w.m 0 1000000))
def uw(size:Int)(used:List Int):List bJ→Bool
 |[]=>true
 |w::l=>w.ok size used && uw size (used++[w.b]) l
def cC.size(b:cC):Int:=b.f.size
def cC.ok1(b:cC):Bool:=b.f.valid && (decide (4≤b.f.k) && (kE b.cz && (cA b.bL 1 100000 && (cA b.lift 0 1000 && (cA b.deep 0 3000 && decide (b.ar.length≤8))))))
def cC.valid(b:cC):Bool:=b.ok1 && uw b.size [] b.ar
def cC.n(b:cC):Nat:=b.size.toNat
def vR(b:cC)(m:cU)(k:Nat):List Int:=(m.bu.drop (k*b.n)).take b.n
def ve(b:cC)(m:cU)(k:Nat)(i:Nat):Int:=(m.bu[k*b.n+i]?).getD 0
def hold(b:cC)(m:cU)(i:Nat):Int:=ve b m 0 i
def Lf(b:cC)(m:cU)(i:Nat):Int:=ve b m 1 i
def Lm(b:cC)(m:cU)(i:Nat):Int:=ve b m 2 i
def feed(b:cC)(m:cU)(i:Nat):Int:=ve b m 3 i
def fits(b:cC)(m:cU):Bool:=decide (gV b.f [m]=0) && (fV (vR b m 0) (fun n=>cA n 1000 100000) && (fV (vR b m 1) (fun n=>cA n 0 1000) && (fV (vR b m 2) (fun n=>cA n 0 3000) && fV (vR b m 3) (fun n=>cA n 0 1000))))
def Bd(b:cC)(m:cU):Bool:=b.valid && fits b m
def dY(b:cC)(m:cU):List aF:=(List.range b.n).map fun i=>⟨hold b m i,hold b m i*Lm b m i,0⟩
def aF.valid(x:aF):Bool:=cA x.m 1 1000000 && (cA x.h 0 10000000000 && cA x.k 0 1000000000000)
def yL(b:cC)(s:List aF):Bool:=decide ((s.length:Int)=b.size) && fV s aF.valid
def weight(b:cC)(i:Nat):Int:=((i / (b.f.x.toNat*b.f.y.toNat):Nat):Int)*b.lift
def down(n d:Int):Int:=n / d
def bU(s:List aF)(i:Nat):aF:=(s[i]?).getD ⟨0,0,0⟩
def pK(x:aF)(out:Int)(r:Rw):Int:=if r.l*x.m≤x.h then max out r.p else out
def kW(b:cC)(m:cU)(s:List aF)(i:Nat):Int :=
 b.cz.foldl (pK (bU s i)) (max 0 (weight b i+down (b.bL*((bU s i).m-hold b m i)) (hold b m i)))
def bY(b:cC)(m:cU)(s:List aF):List Int:=(List.range s.length).map (kW b m s)
def yC(b:cC)(i:Nat):List (Nat×Nat) :=
 (if(i+1)%b.f.x.toNat≠0 then [(i,i+1)]else [])++((if i / b.f.x.toNat%b.f.y.toNat≠b.f.y.toNat-1 then [(i,i+b.f.x.toNat)]else [])++(if i+b.f.x.toNat*b.f.y.toNat<b.n then [(i,i+b.f.x.toNat*b.f.y.toNat)]else []))
def LU(b:cC):List (Nat×Nat):=(List.range b.n).flatMap (yC b)
def aF.out(x:aF)(m:Int):aF:=⟨m,(x.h*m).tdiv x.m,(x.k*m).tdiv x.m⟩
def aF.move(x o:aF)(sign:Int):aF:=⟨x.m+sign*o.m,x.h+sign*o.h,x.k+sign*o.k⟩
def MV(b:cC)(m:cU)(s:List aF)(p:List Int)(l:Nat×Nat):Option ((Nat×Nat)×aF) :=
 let d:=(p[l.1]?).getD 0-weight b l.1-(p[l.2]?).getD 0+weight b l.2
 let l':=if d<0 then(l.2,l.1)else l
 let d':=if d<0 then -d else d
 let q:=min ((min (Lf b m l'.1) (Lf b m l'.2)*d').tdiv 1000) ((bU s l'.1).m.tdiv 8)
 if 0<q then some (l',(bU s l'.1).out q)else none
def U4(es:List ((Nat×Nat)×aF))(k:Nat×Nat)(o:aF):List ((Nat×Nat)×aF) :=
 match es.findIdx? (fun e=>e.1 == k)with
 |some j=>es.set j (k,o)
 |none=>es++[(k,o)]
def pv(b:cC)(m:cU)(s:List aF)(p:List Int)(es:List ((Nat×Nat)×aF))(l:Nat×Nat):List ((Nat×Nat)×aF) :=
 match MV b m s p l with
 |some e=>U4 es e.1 e.2
 |none=>es
def vM(b:cC)(m:cU)(s:List aF):List ((Nat×Nat)×aF):=(LU b).foldl (pv b m s (bY b m s)) []
def iH(s:List aF)(i:Nat)(o:aF)(sign:Int):List aF:=s.set i ((bU s i).move o sign)
def eU(s:List aF)(e:(Nat×Nat)×aF):List aF:=iH (iH s e.1.1 e.2 (-1)) e.1.2 e.2 1
def bJ.given(w:bJ)(rate:Int):aF:=⟨-rate,-rate*w.h,-rate*w.m⟩
def rO(s:List aF)(w:bJ)(rate:Int):aF:=if rate<0 then⟨0,0,0⟩else(bU s w.b.toNat).out (min rate ((bU s w.b.toNat).m.tdiv 8))
def ur(s next:List aF)(w:bJ)(rate:Int):List aF:=if rate<0 then iH next w.b.toNat (w.given rate) 1 else iH next w.b.toNat (rO s w rate) (-1)
def Qf(b:cC)(m:cU)(i:Nat):aF:=⟨feed b m i,feed b m i*b.deep,0⟩
def Fe(b:cC)(m:cU)(s:List aF)(aS:List Int):List aF :=
 let s1:=(vM b m s).foldl eU s
 let s2:=(b.ar.zip aS).foldl (fun n wr=>ur s n wr.1 wr.2) s1
 (List.range s.length).foldl (fun n i=>iH n i (Qf b m i) 1) s2
def eF(b:cC)(s:List aF)(aS:List Int):List aF:=(b.ar.zip aS).map fun wr=>rO s wr.1 wr.2
def tick(b:cC)(m:cU)(s:List aF)(aS:List Int):Option (List aF×List aF) :=
 if yL b (Fe b m s aS)then some (Fe b m s aS,eF b s aS)else none
def AT(b:cC)(l:List Int):Int:=if l.length=b.ar.length then(if fV l (fun n=>cA n (-100000) 100000)then 0 else 2)else 1
def di{α:Type}(f:α→Int):List α→Int
 |[]=>0
 |x::l=>if f x=0 then di f l else f x
def uO(b:cC)(aw:List (List Int)):Int:=if 200<aw.length then 3 else di (AT b) aw
def vx(b:cC)(m:cU):List (List aF)→List (List aF)→List aF→List (List Int)→Option (List (List aF)×List (List aF))
 |ss,ys,_,[]=>some (ss,ys)
 |ss,ys,s,r::aw =>
  match tick b m s r with
  |some (s',y)=>vx b m (ss++[s']) (ys++[y]) s' aw
  |none=>none
def run(b:cC)(m:cU)(aw:List (List Int)):Option (List (List aF)×List (List aF)):=vx b m [dY b m] [] (dY b m) aw
end Go.Rock
namespace Go.Proofs.YtfgljaglidhjiaaGreatDoor
open List(length_flatMap map_take)
open Go Go.Abs Go.Rock
variable {σ:SK}
theorem Tx{a b A B:Int}(h1:1≤a)(h2:a≤A)(h3:1≤b)(h4:b≤B):1≤a*b∧a*b≤A*B :=
 ⟨by have:=Int.mul_pos (a:=a) (b:=b) (by omega) (by omega);omega,lL h2 h4 (by omega) (by omega)⟩
theorem oA{a b A B:Int}(h1:0≤a)(h2:a≤A)(h3:0≤b)(h4:b≤B):0≤a*b∧a*b≤A*B :=
 ⟨eC h1 h3,lL h2 h4 h3 (by omega)⟩
theorem fU.sz{f:fU}(hx:1≤f.x∧f.x≤8)(hy:1≤f.y∧f.y≤8)(hz:1≤f.z∧f.z≤8):(1≤f.x*f.y∧f.x*f.y≤64)∧(1≤f.x*f.y*f.z∧f.x*f.y*f.z≤512):=by
 have h1:=Tx hx.1 hx.2 hy.1 hy.2;have h2:=Tx h1.1 h1.2 hz.1 hz.2;exact⟨by omega,by omega⟩
theorem dQ{a b c:Int}:bx T (.call false cp [.int .i64 a,.int .i64 b,.int .i64 c] σ)=some (.val (.bool (cA a b c)) σ):=by
 refine aA KO vv.eq_1 rfl ?_;by_cases h:b≤a<;>simp[-length_flatMap,-map_take,h,cA]
theorem gS{a b c:Int}:bx T (.call false dU [.int .i64 a,.int .i64 b,.int .i64 c] σ)=some (.val (.bool (cA a b c)) σ):=by
 refine aA Jk tJ.eq_1 rfl ?_;by_cases h:b≤a<;>simp[-length_flatMap,-map_take,h,cA]
theorem j9{a b c:Int}:bx T (.call false du [.int .i64 a,.int .i64 b,.int .i64 c] σ)=some (.val (.bool (cA a b c)) σ):=by
 refine aA Jr tW.eq_1 rfl ?_;by_cases h:b≤a<;>simp[-length_flatMap,-map_take,h,cA]
theorem I6{f:fU}(hx:1≤f.x∧f.x≤8)(hy:1≤f.y∧f.y≤8)(hz:1≤f.z∧f.z≤8):bx T (.call false dr [.agg [.int .i64 f.x,.int .i64 f.y,.int .i64 f.z,.int .i64 f.k]] σ)=some (.val (.int .i64 f.size) σ):=by
 refine aA BQ mQ.eq_1 rfl ?_;obtain⟨h1,h2⟩:=fU.sz hx hy hz;have w1:=fT (n:=f.x*f.y) (by omega);have w2:=fT (n:=f.x*f.y*f.z) (by omega);simp[-length_flatMap,-map_take,w1,w2,fU.size]
theorem VC{f:fU}:bx T (.call false kP [.agg [.int .i64 f.x,.int .i64 f.y,.int .i64 f.z,.int .i64 f.k]] σ)=some (.val (.bool f.valid) σ):=by
 refine aA Ds nO.eq_1 rfl ?_;cases hc1:cA f.x 1 8
 ·simp[-length_flatMap,-map_take,gS,fU.valid,hc1]
 cases hc2:cA f.y 1 8
 ·simp[-length_flatMap,-map_take,gS,fU.valid,hc1,hc2]
 cases hc3:cA f.z 1 8
 ·simp[-length_flatMap,-map_take,gS,fU.valid,hc1,hc2,hc3]
 have hb:=fun σ=>I6 (σ:=σ) (f:=f) (ba.1 hc1) (ba.1 hc2) (ba.1 hc3)
 by_cases hc4:f.size≤64
 ·simp[-length_flatMap,-map_take,gS,fU.valid,hc1,hc2,hc3,hc4,hb]
 ·simp[-length_flatMap,-map_take,gS,fU.valid,hc1,hc2,hc3,hc4,hb]
theorem IQ{f:fU}:bx T (.call false cQ [.agg [.int .i64 f.x,.int .i64 f.y,.int .i64 f.z,.int .i64 f.k]] σ)=some (.val (.int .i64 f.shape) σ):=by
 refine aA Dr nN.eq_1 rfl ?_;have hb:=fun σ=>VC (σ:=σ) (f:=f)
 cases hc:f.valid<;>rw[hc]at hb<;>simp[-length_flatMap,-map_take,hb,fU.shape,hc]
theorem jK{f:fU}:bx T (.call false jv [.agg [.int .i64 f.x,.int .i64 f.y,.int .i64 f.z,.int .i64 f.k]] σ)=some (.val (.int .i64 f.shape) σ):=by
 refine aA Ek oI.eq_1 rfl ?_;have hb:=fun σ=>IQ (σ:=σ) (f:=f)
 simp[-length_flatMap,-map_take,hb]
theorem Re{s:List UInt8}(hl:s.length≤1000000000):∀(m i:Nat),i+m=s.length →
  WL T [0,6,7] false rA [(0,.str s),(6,.int .i64 s.length),(7,.int .i64 i)] σ
   (fun x e σ'=>σ'=σ∧if xa i (s.drop i)then x=.exit 0∧get e 0=.str s else x=.ret∧get e 2=.bool false)
 |0,i,hi=>by
  refine aO rA.eq_1 ?_;have h1:¬i<s.length:=by omega
  have h2:s.drop i=[]:=aB (by omega);simp[-length_flatMap,-map_take,h1,h2,xa]
 |m+1,i,hi=>by
  refine aO rA.eq_1 ?_;have h1:i<s.length:=by omega
  obtain⟨c,hc⟩:=gE h1;have h4:=gq h1 (by omega);have h5:=cM hc;have ih:=Re hl m (i+1) (by omega);rw[h5,xa];have hd:sw .D4 [.str s,.int .i64 (i:Int)]=some (.int .u8 c.toNat):=by simp[sw,hc]
  by_cases hc1:97≤c.toNat
  ·by_cases hc2:c.toNat≤122
   ·have hlet:letter c=true:=by simp[letter,hc1,hc2]
    simp[-length_flatMap,-map_take,h1,h4,hd,hlet,show(97:Int)≤(c.toNat:Int)by omega,show(c.toNat:Int)≤122 by omega];exact WL.to ih (by simp) rfl fun x e σ' hh=>by simpa[hlet]using hh
   ·have hlet:letter c=false:=by simp[letter,hc2]
    have hdig:digit c=false:=by simp[digit];omega
    by_cases hi0:i=0
    ·subst hi0;have hd0:sw .D4 [.str s,.int .i64 0]=some (.int .u8 c.toNat):=by simpa using hd
     have h1':0<s.length:=h1;simp[-length_flatMap,-map_take,h1',h4,hd0,hlet,hdig,show(97:Int)≤(c.toNat:Int)by omega,show ¬(c.toNat:Int)≤122 by omega]
    ·simp[-length_flatMap,-map_take,h1,h4,hd,hlet,hdig,hi0,show(97:Int)≤(c.toNat:Int)by omega,show ¬(c.toNat:Int)≤122 by omega,show ¬(c.toNat:Int)<48 by omega,show(57:Int)<(c.toNat:Int)by omega,show(57:Nat)<c.toNat by omega,show ¬c.toNat<48 by omega]
  ·have hlet:letter c=false:=by simp[letter,hc1]
   by_cases hi0:i=0
   ·subst hi0;have hd0:sw .D4 [.str s,.int .i64 0]=some (.int .u8 c.toNat):=by simpa using hd
    have h1':0<s.length:=h1;simp[-length_flatMap,-map_take,h1',h4,hd0,hlet,show ¬(97:Int)≤(c.toNat:Int)by omega]
   ·by_cases hc3:c.toNat<48
    ·have hdig:digit c=false:=by simp[digit];omega
     simp[-length_flatMap,-map_take,h1,h4,hd,hlet,hdig,hi0,show ¬(97:Int)≤(c.toNat:Int)by omega,show(c.toNat:Int)<48 by omega,hc3]
    ·by_cases hc4:57<c.toNat
     ·have hdig:digit c=false:=by simp[digit];omega
      simp[-length_flatMap,-map_take,h1,h4,hd,hlet,hdig,hi0,show ¬(97:Int)≤(c.toNat:Int)by omega,show ¬(c.toNat:Int)<48 by omega,show(57:Int)<(c.toNat:Int)by omega,hc3,hc4]
     ·have hdig:digit c=true:=by simp[digit];omega
      simp[-length_flatMap,-map_take,h1,h4,hd,hlet,hdig,hi0,show ¬(97:Int)≤(c.toNat:Int)by omega,show ¬(c.toNat:Int)<48 by omega,show ¬(57:Int)<(c.toNat:Int)by omega,hc3,hc4];exact WL.to ih (by simp) rfl fun x e σ' hh=>by simpa[hlet,hdig,hi0]using hh
theorem IP{s:List UInt8}(hl:s.length≤1000000000):bx T (.call false pH [.str s] σ)=some (.val (.bool (named s)) σ):=by
 refine aA KH vm.eq_1 rfl ?_;have hp:sw .z8 [.str s]=some (.int .i64 s.length):=rfl;simp[-length_flatMap,-map_take,hp];refine WL.to (Re (σ:=[]::σ) hl s.length 0 (by omega)) (by simp) rfl ?_;rintro x e σ' ⟨rfl,h⟩;simp only[aP]at h;unfold named;cases hc:xa 0 s
 ·simp[hc]at h;simp[h]
 ·simp[hc]at h;simp[-length_flatMap,-map_take,h,hp,gS]
theorem air{a:Int}:bx T (.call false gz [.int .i64 a] σ)=some (.val (.bool (cA a (-100000) 100000)) σ):=by
 refine aA Bl l9.eq_1 rfl ?_;simp[-length_flatMap,-map_take,gS]
theorem T5{l:List Int}{p:Int→Bool}{fv:D}(hl:l.length≤1000000000)(ht:pP T fv (fun n => .int .i64 n) p l)(hc:fv.cells=some [fv]):
  bx T (.call false pw [.aI l.length (l.flatMap aT),fv] σ)=some (.val (.bool (fV l p)) σ) :=
 Ax (MT .i64) (f:=pw) (g:=qG) (h:=cg) (i:=ew) (l:=l) (p:=p) (fv:=fv) rfl rfl rfl rfl (by omega) ht hc
theorem O7{f:fU}(hf:f.valid=true):(1≤f.size∧f.size≤64)∧1≤f.k*f.size∧f.k*f.size≤384:=by
 obtain⟨h1,h2,h3,h4,h5⟩:=fU.tj.1 hf;obtain⟨_,h6⟩:=fU.sz h1 h2 h3;have h7:=Tx h5.1 h5.2 (b:=f.size) (B:=64) (by unfold fU.size;omega) h4;exact⟨⟨by unfold fU.size;omega,h4⟩,by omega,by omega⟩
theorem Q5{f:fU}{m:cU}(hf:f.valid=true)(hn:m.name.length≤1000000000)(hl:m.bu.length≤1000000000):bx T (.call false iN [.agg [.int .i64 f.x,.int .i64 f.y,.int .i64 f.z,.int .i64 f.k],.agg [.str m.name,.aI m.bu.length (m.bu.flatMap aT)]] σ)=some (.val (.int .i64 (f.model m)) σ):=by
 refine aA Dq nM.eq_1 rfl ?_;obtain⟨h1,h2,h3,h4,h5⟩:=fU.tj.1 hf;obtain⟨h6,h7⟩:=O7 hf;have w1:=fT (n:=f.k*f.size) (by omega);have hb:=fun σ=>I6 (σ:=σ) (f:=f) h1 h2 h3
 have ha:=fun σ=>T5 (σ:=σ) (l:=m.bu) (p:=fun n=>cA n (-100000) 100000) (fv:=.fn gz [] []) hl (pP.fn fun x _ σ=>by simpa using air) rfl
 cases hc1:named m.name
 ·simp[-length_flatMap,-map_take,IP hn,hc1,fU.model]
 ·by_cases hc2:(m.bu.length:Int)=f.k*f.size
  ·cases hc3:fV m.bu (fun n=>cA n (-100000) 100000)<;>
    simp[-length_flatMap,-map_take,IP hn,hc1,hc2,hc3,fU.model,hb,ha,w1]
  ·simp[-length_flatMap,-map_take,IP hn,hc1,hc2,fU.model,hb,w1]
def D2(met:List (List UInt8)):List D:=met.map fun n => .dM [.str n,.bool true]
theorem Hq{k:List UInt8}:∀{met:List (List UInt8)},∃r,re none (.str k) (D2 met)=some r∧(met.contains k=true→∃j,r=some (j,.bool true))∧(met.contains k=false→r=none)
 |[]=>⟨none,rfl,by simp,by simp⟩
 |n::met=>by
  obtain⟨r,h1,h2,h3⟩:=Hq (k:=k) (met:=met);simp only[D2,aQ]at h1 ⊢;by_cases hk:k=n
  ·subst hk;exact⟨some (0,.bool true),by simp[re,sU],fun _=>⟨0,rfl⟩,by simp⟩
  ·have hb:(k == n)=false:=by simpa using hk
   refine⟨r.map fun y=>(y.1+1,y.2),by simp[re,sU,hb,h1],?_,?_⟩
   ·intro hc;have:met.contains k=true:=by simpa[hk]using hc
    obtain⟨j,rfl⟩:=h2 this;exact⟨j+1,rfl⟩
   ·intro hc;have:met.contains k=false:=by simp at hc ⊢;exact hc.2
    rw[h3 this];rfl
theorem aoX{S:SK}{l i:Nat}{met:List (List UInt8)}{k:List UInt8}(h:cells? S l i 0=some (D2 met)):BO S (.get none (.bool false) false) [.mB l i,.str k]=some (.bool (met.contains k),S):=by
 obtain⟨r,h1,h2,h3⟩:=Hq (k:=k) (met:=met);simp only[BO,BN,h,aU,h1];cases hc:met.contains k
 ·rw[h3 hc];simp[sU]
 ·obtain⟨j,rfl⟩:=h2 hc;simp[sU]
theorem aoY{S:SK}{l i:Nat}{met:List (List UInt8)}{k:List UInt8}(h:cells? S l i 0=some (D2 met))(hn:met.contains k=false):
  BO S (.put none) [.mB l i,.str k,.bool true]=some (.undef,aW S l i (.cells 0 (D2 (met++[k])))):=by
 obtain⟨r,h1,h2,h3⟩:=Hq (k:=k) (met:=met);simp only[BO,BN,h,aU,h1];rw[h3 hn];simp[sU,D2,D.clean]
theorem aAz{f:fU}{m:cU}(hf:f.valid=true)(hn:m.name.length≤1000000000)(hl:m.bu.length≤1000000000):
  bx T (.call false ek [.agg [.str m.name,.aI m.bu.length (m.bu.flatMap aT)],.bI [.int .i64 f.x,.int .i64 f.y,.int .i64 f.z,.int .i64 f.k]] σ)=some (.val (.dM [.str m.name,.int .i64 (f.model m)]) σ):=by
 refine aA Ag kY.eq_1 rfl ?_;simp[-length_flatMap,-map_take,Q5 hf hn hl]
theorem V2{f:fU}{l:List cU}(hf:f.valid=true)(hs:∀m∈l,m.name.length≤1000000000∧m.bu.length≤1000000000)(hl:l.length≤1000000000):∀(k i:Nat) (met:List (List UInt8)),i+k=l.length →
  WL T [1,5,11,12,13] false gI [(1,.fn ek [] [.bI [.int .i64 f.x,.int .i64 f.y,.int .i64 f.z,.int .i64 f.k]]),(5,.mB σ.length 0),(11,.aI l.length (l.flatMap cU.enc)),(12,.int .i64 l.length),(13,.int .i64 i)] ([.cells 0 (D2 met)]::σ)
   (fun x e σ'=>∃s,σ'=s::σ∧if f.each met (l.drop i)=0 then x=.exit 0 else x=.ret∧get e 4=.int .i64 (f.each met (l.drop i)))
 |0,i,met,hi=>by
  refine aO gI.eq_1 ?_;have h1:¬i<l.length:=by omega
  have h2:l.drop i=[]:=aB (by omega);simp[-length_flatMap,-map_take,h1,h2,fU.each]
 |k+1,i,met,hi=>by
  refine aO gI.eq_1 ?_;have h1:i<l.length:=by omega
  obtain⟨m,hm⟩:=gE h1;have h2:=bS (f:=cU.enc) (w:=2) (fun _=>rfl) hm;have h4:=gq h1 (by omega);have h5:=cM hm;obtain⟨hs1,hs2⟩:=hs m (aj hm);have hC:=fun σ=>aAz (σ:=σ) hf hs1 hs2
  rw[h5,fU.each];by_cases hc1:f.model m=0
  ·have hg:=aoX (S:=[.cells 0 (D2 met)]::σ) (l:=σ.length) (i:=0) (met:=met) (k:=m.name) (by simp);cases hc2:met.contains m.name
   ·rw[hc2]at hg;have hp:=aoY (S:=[.cells 0 (D2 met)]::σ) (l:=σ.length) (i:=0) (met:=met) (k:=m.name) (by simp) hc2;have ih:=V2 hf hs hl k (i+1) (met++[m.name]) (by omega);simp at hp;have hc3:¬m.name∈met:=by simpa using hc2
    simp[-length_flatMap,-map_take,h1,h2,h4,hC,hc1,hg,hp,hc3];exact WL.to ih (by simp) (by simp) fun x e σ' hh=>by simpa[hc1]using hh
   ·rw[hc2]at hg;have hc3:m.name∈met:=by simpa using hc2
    simp[-length_flatMap,-map_take,h1,h2,h4,hC,hc1,hg,hc3]
  ·simp[-length_flatMap,-map_take,h1,h2,h4,hC,hc1]
theorem apv{f:fU}{l:List cU}(hf:f.valid=true)(hs:∀m∈l,m.name.length≤1000000000∧m.bu.length≤1000000000)(hl:l.length≤1000000000):
  bx T (.call false gF [.aI l.length (l.flatMap cU.enc),.fn ek [] [.bI [.int .i64 f.x,.int .i64 f.y,.int .i64 f.z,.int .i64 f.k]]] σ)=some (.val (.int .i64 (f.each [] l)) σ):=by
 refine aA yV jO.eq_1 rfl ?_;have hm:BO ([]::σ) .make []=some (.mB σ.length 0,[.cells 0 (D2 [])]::σ):=by simp[BO,D2]
 simp[-length_flatMap,-map_take,hm];refine WL.to (V2 (σ:=σ) hf hs hl l.length 0 [] (by omega)) (by simp) (by simp) ?_;rintro x e σ' ⟨s,rfl,h⟩;simp only[aP]at h;by_cases hc:f.each [] l=0
 ·rw[if_pos hc]at h;subst h;simp[-length_flatMap,-map_take,hc]
 ·rw[if_neg hc]at h;obtain⟨rfl,h⟩:=h;simp[h]
theorem VI{f:fU}{l:List cU}(hf:f.valid=true)(hs:∀m∈l,m.name.length≤1000000000∧m.bu.length≤1000000000)(hl:l.length≤1000000000):
  bx T (.call false j2 [.agg [.int .i64 f.x,.int .i64 f.y,.int .i64 f.z,.int .i64 f.k],.aI l.length (l.flatMap cU.enc)] σ)=some (.val (.int .i64 (f.av l)) σ):=by
 refine aA BR mR.eq_1 rfl ?_;cases hc:cA l.length 1 40
 ·simp[-length_flatMap,-map_take,gS,hc,fU.av]
 ·simp[-length_flatMap,-map_take,gS,hc,fU.av,apv hf hs hl]
theorem I4{f:fU}{l:List cU}(hf:f.valid=true)(hs:∀m∈l,m.name.length≤1000000000∧m.bu.length≤1000000000)(hl:l.length≤1000000000):
  bx T (.call false gv [.bI [.int .i64 f.x,.int .i64 f.y,.int .i64 f.z,.int .i64 f.k],.bI [.aI l.length (l.flatMap cU.enc)]] σ)=some (.val (.int .i64 (f.av l)) σ):=by
 refine aA Bi l7.eq_1 rfl ?_;simp[-length_flatMap,-map_take,VI hf hs hl]
theorem Ml{fs:List D}{es:List Int}(hlen:fs.length=es.length)(hl:fs.length≤100)(hfs:∀d∈fs,d.strip=d∧d.calm=d∧PB false 1 (some [d])=some d)
  (hcall:∀(i:Nat) d n,fs[i]?=some d→es[i]?=some n→(∀j,j<i→es[j]?=some 0)→∀σ,pn (bx T) false d [] σ=some (.int .i64 n,σ)):
  bx T (.call false nD [.aI fs.length fs] σ)=some (.val (.int .i64 (di id es)) σ):=by
 have loop:∀(k i:Nat) (σ:SK),i+k=fs.length→(∀j,j<i→es[j]?=some 0) →
   WL T [6,7,8] false rz [(6,.aI fs.length fs),(7,.int .i64 fs.length),(8,.int .i64 i)] σ
    (fun x e σ'=>σ'=σ∧if di id (es.drop i)=0 then x=.exit 0 else x=.ret∧get e 2=.int .i64 (di id (es.drop i))):=by
  intro k;induction k with
  |zero =>
   intro i σ hi h0;refine aO rz.eq_1 ?_;have h1:¬i<fs.length:=by omega
   have h2:es.drop i=[]:=aB (by omega);simp[-length_flatMap,-map_take,h1,h2,di]
  |succ k ih =>
   intro i σ hi h0;refine aO rz.eq_1 ?_;have h1:i<fs.length:=by omega
   obtain⟨d,hd⟩:=gE h1;obtain⟨n,hn⟩:∃n,es[i]?=some n:=gE (by omega);obtain⟨g1,g2,g3⟩:=hfs d (aj hd);have h2:=bS (f:=fun d:D=>[d]) (w:=1) (fun _=>rfl) (l:=fs) hd;rw[show(fs.flatMap fun d=>[d])=fs from by simp]at h2;have h4:=gq h1 (by omega);have h5:=cM hn;have hc:=hcall i d n hd hn h0;simp only[dL]at h2;rw[h5,di];by_cases hz:n=0
   ·subst hz;have ih':=ih (i+1) σ (by omega) (fun j hj=>by
     by_cases hji:j=i
     ·subst hji;exact hn
     ·exact h0 j (by omega))
    simp[-length_flatMap,-map_take,h1,h2,h4,g1,g2,hc];exact WL.to ih' (by simp) rfl fun x e σ' hh=>by simpa using hh
   ·simp[-length_flatMap,-map_take,h1,h2,h4,g1,g2,hc,hz]
 refine aA KG vl.eq_1 rfl ?_;simp[-length_flatMap,-map_take];refine WL.to (loop fs.length 0 ([]::σ) (by omega) (by simp)) (by simp) rfl ?_;rintro x e σ' ⟨rfl,h⟩;simp only[aP]at h;by_cases hc:di id es=0
 ·rw[if_pos hc]at h;subst h;simp[-length_flatMap,-map_take,hc]
 ·rw[if_neg hc]at h;obtain⟨rfl,h⟩:=h;simp[h]
theorem D6{f:fU}{l:List cU}(hs:∀m∈l,m.name.length≤1000000000∧m.bu.length≤1000000000)(hl:l.length≤1000000000):
  bx T (.call false iM [.agg [.int .i64 f.x,.int .i64 f.y,.int .i64 f.z,.int .i64 f.k],.aI l.length (l.flatMap cU.enc)] σ)=some (.val (.int .i64 (gV f l)) σ):=by
 refine aA Dp nL.eq_1 rfl ?_;have hC:=fun σ=>Ml (σ:=σ) (fs:=[.fn cQ [.agg [.int .i64 f.x,.int .i64 f.y,.int .i64 f.z,.int .i64 f.k]] [],.fn gv [] [.bI [.int .i64 f.x,.int .i64 f.y,.int .i64 f.z,.int .i64 f.k],.bI [.aI l.length (l.flatMap cU.enc)]]]) (es:=[f.shape,f.av l]) rfl (by simp) (by simp) (by
  intro i d n hd hn h0 σ;match i with
  |0 =>
   simp at hd hn;subst hd hn;simp[IQ]
  |1 =>
   simp at hd hn;subst hd hn;have h1:f.valid=true:=by
    have:=h0 0 (by omega);simp[fU.shape]at this;exact this
   simp[I4 h1 hs hl]
  |i+2=>simp at hd)
 simp at hC;have e1:di id [f.shape,f.av l]=gV f l:=by
  simp only[di,id,gV,fU.shape];by_cases h:f.valid=true
  ·by_cases h2:f.av l=0<;>simp[h,h2]
  ·simp[h]
 rw[e1]at hC;simp[-length_flatMap,-map_take,hC]
end Go.Proofs.YtfgljaglidhjiaaGreatDoor
namespace Go.Abs
open List(length_flatMap map_take)
open Go
variable {T:yZ}
def pC(q:Nat→Bool)(i:Nat):Nat→Bool×Nat
 |0=>(false,i)
 |m+1=>if q i then(true,i+1)else pC q (i+1) m
theorem Dl{q:Nat→Bool}:∀{m i:Nat},(pC q i m).1=false↔∀j,j<m→q (i+j)=false
 |0,i=>by simp[pC]
 |m+1,i=>by
  simp only[pC];by_cases h:q i=true
  ·simp only[h,if_true,Bool.true_eq_false,false_iff];intro hh;have:=hh 0 (by omega);simp[h]at this
  ·have h':q i=false:=by simpa using h
   simp only[h',az,if_false];rw[Dl (m:=m) (i:=i+1)];constructor
   ·intro hh j hj;cases j with
    |zero=>simpa using h'
    |succ j=>have:=hh j (by omega);rwa[show i+1+j=i+(j+1)from by omega]at this
   ·intro hh j hj;have:=hh (j+1) (by omega);rwa[show i+(j+1)=i+1+j from by omega]at this
section
variable {α:Type} (E:Elt α) {fv:D} {l:List α} {q:Nat→Bool} {S:Nat→SK}
theorem LN(hl:l.length≤9223372036854775807)(h1:fv.strip=fv)(h2:fv.calm=fv)(ht:∀i x,l[i]?=some x→pn (bx T) false fv [E.val x] (S i)=some (.bool (q i),S (i+1))):∀(m i:Nat),i+m=l.length →
  WL T [0,1,7,8] false (J6 E.ag E.w) [(0,.aI l.length (l.flatMap E.enc)),(1,fv),(7,.int .i64 l.length),(8,.int .i64 i)] (S i)
   (fun x e σ'=>σ'=S (pC q i m).2∧if(pC q i m).1=true then x=.ret∧∃j:Nat,get e 4=.int .i64 j else x=.exit 0)
 |0,i,hi=>by
  refine aO (J6.eq_1 _ _) ?_;have:¬i<l.length:=by omega
  simp[this,h1,h2,pC]
 |m+1,i,hi=>by
  refine aO (J6.eq_1 _ _) ?_;have h4:i<l.length:=by omega
  obtain⟨x,hx⟩:=gE h4;have h5:=bS (f:=E.enc) E.len hx;have h6:=ht i x hx;have h7:=gq h4 hl;have ih:=LN hl h1 h2 ht m (i+1) (by omega);cases hq:q i
  ·rw[hq]at h6;simp[h4,h1,h2,h5,h6,h7,E.load,E.strip,E.calm];refine WL.mono (by simpa using ih) ?_;rintro x e σ' ⟨h9,h10⟩;simp only[pC,hq,az,if_false];exact⟨h9,h10⟩
  ·rw[hq]at h6;simp[h4,h1,h2,h5,h6,h7,E.load,E.strip,E.calm,pC,hq];exact⟨i,rfl⟩
theorem UL{f:Nat}(hT:T f=some (uN E.ag E.w))(hl:l.length≤9223372036854775807)(h1:fv.strip=fv)(h2:fv.calm=fv)(hlen:∀i,(S i).length=(S 0).length)
  (ht:∀i x,l[i]?=some x→pn (bx T) false fv [E.val x] ([]::S i)=some (.bool (q i),[]::S (i+1))):
  ∃n:Int,bx T (.call false f [.aI l.length (l.flatMap E.enc),fv] (S 0))=some (.val (.int .i64 n) (S (pC q 0 l.length).2))∧(0≤n↔(pC q 0 l.length).1=true):=by
 have h:=LN E (S:=fun i=>[]::S i) hl h1 h2 ht l.length 0 (by omega);cases hq:(pC q 0 l.length).1
 ·refine⟨-1,?_,by simp⟩;refine gH hT (uN.eq_1 _ _) rfl (hlen _) ?_;simp[h1,h2];refine WL.mono (by simpa using h) ?_;rintro x e σ' ⟨rfl,h10⟩;rw[hq]at h10;simp only[az,if_false]at h10;subst h10;simp
 ·obtain⟨x,e,σ',hw,rfl,h10⟩:=h;rw[hq]at h10;simp only[if_true]at h10;obtain⟨rfl,j,hj⟩:=h10;refine⟨j,?_,by simp⟩;refine gH hT (uN.eq_1 _ _) rfl (hlen _) ?_;simp[h1,h2];refine⟨_,_,_,by simpa using hw,?_⟩;simp[hj]
theorem MO{f i:Nat}(hT:T f=some (jn i))(hi:T i=some (uN E.ag E.w))(hl:l.length≤9223372036854775807)(h1:fv.strip=fv)(h2:fv.calm=fv)(hlen:∀i,(S i).length=(S 0).length)
  (ht:∀i x,l[i]?=some x→pn (bx T) false fv [E.val x] ([]::[]::S i)=some (.bool (q i),[]::[]::S (i+1))):
  bx T (.call false f [.aI l.length (l.flatMap E.enc),fv] (S 0))=some (.val (.bool (pC q 0 l.length).1) (S (pC q 0 l.length).2)):=by
 obtain⟨n,h,hn⟩:=UL E (S:=fun i=>[]::S i) hi hl h1 h2 (fun i=>by simp[hlen i]) ht;refine gH hT (jn.eq_1 _) rfl (hlen _) ?_;have h4:decide (0≤n)=(pC q 0 l.length).1:=by
  cases hq:(pC q 0 l.length).1
  ·rw[hq]at hn;simp at hn;exact decide_eq_false (by omega)
  ·exact decide_eq_true (hn.2 hq)
 simp[h1,h2,h,h4]
theorem Wh{g:Nat}{x:α}{b:Bool}{σ σ':SK}(hT:T g=some (zh E.ag E.w))(hlen:σ'.length=σ.length)(h1:fv.strip=fv)(h2:fv.calm=fv)(ht:pn (bx T) false fv [E.val x] ([]::σ)=some (.bool b,[]::σ')):
  pn (bx T) false (.fn g [] [.bI [fv]]) [E.val x] σ=some (.bool (!b),σ'):=by
 rw[sc];have hc:=E.cells x;have hl:=E.load x;have hs:=E.strip x;have hcm:=E.calm x;have key:bx T (.call false g ([]++[E.val x]++[.bI [fv]]) σ)=some (.val (.bool (!b)) σ'):=by
  generalize E.ag=ag at *
  cases ag with
  |true =>
   refine gH hT (zh.eq_1 _) rfl hlen ?_;simp[h1,h2,ht,hc,hl,hs,hcm]
  |false =>
   refine gH hT (zh.eq_2 _) rfl hlen ?_;simp[h1,h2,ht,hc,hl,hs,hcm]
 rw[key];rfl
theorem MH{f g h i:Nat}{p:Nat→Bool}(hf:T f=some (F3 g h))(hg:T g=some (zh E.ag E.w))(hh:T h=some (jn i))(hi:T i=some (uN E.ag E.w))
  (hl:l.length≤9223372036854775807) (h1:fv.strip=fv) (h2:fv.calm=fv) (hcl:fv.cells=some [fv]) (hlen:∀i,(S i).length=(S 0).length)
  (ht:∀i x,l[i]?=some x→pn (bx T) false fv [E.val x] ([]::[]::[]::[]::S i)=some (.bool (p i),[]::[]::[]::[]::S (i+1))):
  bx T (.call false f [.aI l.length (l.flatMap E.enc),fv] (S 0))=some (.val (.bool !(pC (fun i => !p i) 0 l.length).1) (S (pC (fun i => !p i) 0 l.length).2)):=by
 have hc:=MO E (S:=fun i=>[]::S i) (fv:=.fn g [] [.bI [fv]]) (q:=fun i => !p i) hh hi hl rfl rfl (fun i=>by simp[hlen i]) (fun i x hx=>Wh E hg (by simp[hlen i,hlen (i+1)]) h1 h2 (ht i x hx));refine gH hf (F3.eq_1 _ _) rfl (hlen _) ?_;simp[h1,h2,hc,hcl]
theorem aiW{f g h i:Nat}{p:α→Bool}{σ:SK}(hf:T f=some (F3 g h))(hg:T g=some (zh E.ag E.w))(hh:T h=some (jn i))(hi:T i=some (uN E.ag E.w))
  (hl:l.length≤9223372036854775807) (h1:fv.strip=fv) (h2:fv.calm=fv) (hcl:fv.cells=some [fv])
  (ht:∀x∈l,pn (bx T) false fv [E.val x] ([]::[]::[]::[]::σ)=some (.bool (p x),[]::[]::[]::[]::σ)):
  bx T (.call false f [.aI l.length (l.flatMap E.enc),fv] σ)=some (.val (.bool (fV l p)) σ):=by
 have h0:=MH E (T:=T) (S:=fun _=>σ) (fv:=fv) (l:=l) (p:=fun i=>match l[i]? with | some x=>p x | none=>true) hf hg hh hi hl h1 h2 hcl (fun _=>rfl) (fun i x hx=>by
  rw[ht x (aj hx)];simp[hx])
 have he:(!(pC (fun i => !(match l[i]? with | some x=>p x | none=>true)) 0 l.length).1)=fV l p:=by
  have h2:=Dl (q:=fun i => !(match l[i]? with | some x=>p x | none=>true)) (m:=l.length) (i:=0);cases hw:fV l p
  ·rw[Bool.not_eq_false'];cases hs:(pC (fun i => !(match l[i]? with | some x=>p x | none=>true)) 0 l.length).1
   ·have h3:=h2.1 hs;have h4:fV l p=true:=fW.2 fun x hx=>by
     obtain⟨j,hj⟩:=gT hx;have:=h3 j (aD.1 hj).1;simpa[hj]using this
    rw[hw]at h4;cases h4
   ·rfl
  ·rw[dX];refine h2.2 fun j hj=>?_
   have hx:=aJ hj;have:=fW.1 hw _ (List.getElem_mem hj);simp[hx,this]
 rw[he]at h0;exact h0
end
end Go.Abs
namespace Go.Proofs.YtfgljaglidhjiaaGreatDoor
open List(length_flatMap map_take)
open Go Go.Abs Go.Rock
variable {σ:SK}
theorem aii{r:Rw}:bx T (.call false kr [.agg r.enc] σ)=some (.val (.bool r.alone) σ):=by
 refine aA FG qq.eq_1 rfl ?_;cases hc1:cA r.t 0 400
 ·simp[-length_flatMap,-map_take,j9,Rw.alone,hc1]
 cases hc2:cA r.p 1 10000
 ·simp[-length_flatMap,-map_take,j9,Rw.alone,hc1,hc2]
 cases hc3:cA r.l 0 4000
 ·simp[-length_flatMap,-map_take,j9,Rw.alone,hc1,hc2,hc3]
 cases hc4:cA r.s 0 2000
 ·simp[-length_flatMap,-map_take,j9,Rw.alone,hc1,hc2,hc3,hc4]
 by_cases hc5:r.l<r.v
 rotate_left
 ·simp[-length_flatMap,-map_take,j9,Rw.alone,hc1,hc2,hc3,hc4,hc5]
 simp[-length_flatMap,-map_take,j9,Rw.alone,hc1,hc2,hc3,hc4,hc5]
theorem apF{l:List Rw}(hl:l.length≤1000000000):bx T (.call false jl [.aI l.length (l.flatMap Rw.enc),.fn kr [] []] σ)=some (.val (.bool (fV l Rw.alone)) σ) :=
 Ax (xq 5 Rw.enc (fun _=>rfl)) (f:=jl) (g:=ku) (h:=fk) (i:=gL) (l:=l) (p:=Rw.alone) rfl rfl rfl rfl (by omega) (pP.fn fun x _ σ=>aii) rfl
theorem akc{t l:List Rw}{o:Rw}(hto:t=o::l)(hl:l.length≤100):∀(m i:Nat),i+m=l.length →
  WL T [0,16,17,18] false km [(0,.aI t.length (t.flatMap Rw.enc)),(16,.aI l.length (l.flatMap Rw.enc)),(17,.int .i64 l.length),(18,.int .i64 i)] σ
   (fun x e σ'=>σ'=σ∧if HI (t.drop i)then x=.exit 0 else x=.ret∧get e 2=.bool false)
 |0,i,hi=>by
  refine aO km.eq_1 ?_;have h1:¬i<l.length:=by omega
  have h2:t.drop i=[t[i]'(by subst hto;simp;omega)]:=by
   rw[List.drop_eq_getElem_cons (by subst hto;simp;omega),aB (by subst hto;simp;omega)]
  simp[-length_flatMap,-map_take,h1,h2,HI]
 |m+1,i,hi=>by
  refine aO km.eq_1 ?_;have h1:i<l.length:=by omega
  have htl:t.length=l.length+1:=by subst hto;rfl
  obtain⟨r,hr⟩:=gE h1;obtain⟨r0,hr0⟩:∃r0,t[i]?=some r0:=gE (by omega);have h2:=bS (f:=Rw.enc) (w:=5) (fun _=>rfl) hr;have h3:=bS (f:=Rw.enc) (w:=5) (fun _=>rfl) hr0;have h4:=gq h1 (by omega);have h6:t.drop (i+1)=r::t.drop (i+2):=cM (by subst hto;simpa using hr);have h5:t.drop i=r0::r::t.drop (i+2):=by rw[cM hr0,h6]
  have ih:=akc hto hl m (i+1) (by omega);rw[h6]at ih;rw[h5,HI];have hlt:(i:Int)<(t.length:Int):=by omega
  have hlt':i<t.length:=by omega
  by_cases c1:r.t≤r0.t
  ·simp[-length_flatMap,-map_take,h1,hlt,hlt',h2,h3,h4,c1,Rw.L7]
  by_cases c2:r.p≤r0.p
  ·simp[-length_flatMap,-map_take,h1,hlt,hlt',h2,h3,h4,c1,c2,Rw.L7]
  by_cases c3:r.l≤r0.l
  ·simp[-length_flatMap,-map_take,h1,hlt,hlt',h2,h3,h4,c1,c2,c3,Rw.L7]
  by_cases c4:r.s<r0.s
  ·simp[-length_flatMap,-map_take,h1,hlt,hlt',h2,h3,h4,c1,c2,c3,c4,Rw.L7]
  ·simp[-length_flatMap,-map_take,h1,hlt,hlt',h2,h3,h4,c1,c2,c3,c4,Rw.L7];have hc:r0.t<r.t∧r0.p<r.p∧r0.l<r.l∧r0.s≤r.s:=by omega
   exact WL.to ih (by simp) rfl fun x e σ' hh=>by simpa[hc]using hh
theorem Ei{t:List Rw}(hl:t.length≤1000000000):bx T (.call false iR [.aI t.length (t.flatMap Rw.enc)] σ)=some (.val (.bool (kE t)) σ):=by
 refine aA DC n9.eq_1 rfl ?_;have ha:=fun σ=>apF (σ:=σ) (l:=t) hl
 cases hc1:cA t.length 2 20
 ·simp[-length_flatMap,-map_take,j9,hc1,kE]
 cases hc2:fV t Rw.alone
 ·simp[-length_flatMap,-map_take,j9,hc1,hc2,ha,kE]
 obtain⟨o,l,hto⟩:∃o l,t=o::l:=by
  cases t with
  |nil=>simp[cA]at hc1
  |cons o l=>exact⟨o,l,rfl⟩
 have hi:=ba.1 hc1;have htl:t.length=l.length+1:=by subst hto;rfl
 have h1:(1:Int)≤(t.length:Int):=by omega
 have h2:t.length-1=l.length:=by omega
 have h3:((t.flatMap Rw.enc).drop 5).take (l.length*5)=l.flatMap Rw.enc:=by
  subst hto;have:=M1 (f:=Rw.enc) (w:=5) (fun _=>rfl) l;simpa using this
 simp[-length_flatMap,-map_take,j9,hc1,hc2,ha,h1,h2,h3];refine WL.to (akc (σ:=[]::σ) hto (by omega) l.length 0 (by omega)) (by simp) rfl ?_;rintro x e σ' ⟨rfl,h⟩;simp only[aP]at h;unfold kE;cases hc3:HI t
 ·rw[hc3]at h;simp at h;simp[h,hc2,hc1]
 ·rw[hc3]at h;simp at h;subst h;simp[-length_flatMap,-map_take,hc2,hc1]
theorem Ac{l:List Rw}(hl:l.length≤1000000000):bx T (.call false jF [.aI l.length (l.flatMap Rw.enc)] σ)=some (.val (.int .i64 (if kE l then 0 else 1)) σ):=by
 refine aA EE o8.eq_1 rfl ?_;cases hc:kE l<;>simp[-length_flatMap,-map_take,Ei hl,hc]
theorem Q6{b:cC}(hx:1≤b.f.x∧b.f.x≤8)(hy:1≤b.f.y∧b.f.y≤8)(hz:1≤b.f.z∧b.f.z≤8):bx T (.call false dp [.agg [.int .i64 b.f.x,.int .i64 b.f.y,.int .i64 b.f.z,.int .i64 b.f.k,.aI b.cz.length (b.cz.flatMap Rw.enc),.int .i64 b.bL,.int .i64 b.lift,.int .i64 b.deep,.aI b.ar.length (b.ar.flatMap bJ.enc)]] σ)=some (.val (.int .i64 b.size) σ):=by
 refine aA Ir sG.eq_1 rfl ?_;obtain⟨h1,h2⟩:=fU.sz hx hy hz;have w1:=fT (n:=b.f.x*b.f.y) (by omega);have w2:=fT (n:=b.f.x*b.f.y*b.f.z) (by omega);simp[-length_flatMap,-map_take,w1,w2,cC.size,fU.size]
def tF(b:Bool):List D:=[.bool b]
def sA(n:Nat)(ar:List bJ):Nat→List Bool
 |0=>List.replicate n false
 |i+1=>match ar[i]? with
  |some w=>if cA w.b 0 ((n:Int)-1)=true∧(sA n ar i)[w.b.toNat]?=some false then(sA n ar i).set w.b.toNat true else sA n ar i
  |none=>sA n ar i
theorem Aa{n:Nat}{ar:List bJ}:∀i,(sA n ar i).length=n
 |0=>by simp[sA]
 |i+1=>by
  simp only[sA];split
  ·split
   ·simp[Aa i]
   ·exact Aa i
  ·exact Aa i
def yN(n:Nat)(ar:List bJ)(i:Nat):Bool :=
 match ar[i]? with
 |some w=>cA w.b 0 ((n:Int)-1) && (decide ((sA n ar i)[w.b.toNat]?=some false) && (cA w.h 0 3000 && cA w.m 0 1000000))
 |none=>true
def HS(n:Nat)(ar:List bJ)(σ:SK)(i:Nat):SK:=[.cells 0 ((sA n ar i).flatMap tF),.cells 0 [.sl σ.length 0 0 0 n 1]]::σ
theorem Wn{l:List Bool}{j:Nat}{x:Bool}(h:l[j]?=some x):((l.flatMap tF).drop j)=.bool x::(l.flatMap tF).drop (j+1):=by
 have:=Fa (f:=tF) (w:=1) (fun _=>rfl) h;simpa[tF]using this
theorem Uo{l:List Bool}{j:Nat}{x:Bool}(h:j<l.length):(l.flatMap tF).take j++(.bool x::(l.flatMap tF).drop (j+1))=(l.set j x).flatMap tF:=by
 have:=Tq (f:=tF) (w:=1) (fun _=>rfl) (x:=x) h;simpa[tF]using this
theorem Un{l:List Bool}:(l.flatMap tF).length=l.length:=by
 have:=cm (f:=tF) (w:=1) (fun _=>rfl) l;omega
theorem PS{n:Nat}{ar:List bJ}(hn:n≤512){i:Nat}{w:bJ}(hw:ar[i]?=some w):
  bx T (.call false fC [.agg w.enc,.ref σ.length 1 0 0] ([]::[]::[]::[]::HS n ar σ i))=some (.val (.bool (yN n ar i)) ([]::[]::[]::[]::HS n ar σ (i+1))):=by
 refine gH Et oQ.eq_1 rfl (by simp[HS]) ?_;have hlen:=Aa (n:=n) (ar:=ar) i;have w1:=fT (n:=(n:Int)-1) (by omega);have hwp:yN n ar i=(cA w.b 0 ((n:Int)-1) && (decide ((sA n ar i)[w.b.toNat]?=some false) && (cA w.h 0 3000 && cA w.m 0 1000000))):=by simp[yN,hw]
 have hus:sA n ar (i+1)=if cA w.b 0 ((n:Int)-1)=true∧(sA n ar i)[w.b.toNat]?=some false then(sA n ar i).set w.b.toNat true else sA n ar i:=by simp[sA,hw]
 rw[hwp];simp only[HS];generalize sA n ar (i+1)=us' at *
 generalize sA n ar i=us at *
 cases hc1:cA w.b 0 ((n:Int)-1)
 ·rw[hc1]at hus;simp at hus;subst hus;simp[-length_flatMap,-map_take,dQ,w1,hc1]
 ·obtain⟨g1,g2⟩:=ba.1 hc1;have g3:w.b<(n:Int):=by omega
  obtain⟨u,hu⟩:∃u,us[w.b.toNat]?=some u:=⟨_,aJ (by omega)⟩;have hat:=Wn hu;have hset:=Uo (l:=us) (j:=w.b.toNat) (x:=true) (by omega);have hlen2:(us.flatMap tF).length=n:=by rw[Un,hlen]
  have hle:w.b.toNat+1≤n:=by omega
  rw[hc1,hu]at hus;cases u
  ·simp at hus;subst hus;cases hc2:cA w.h 0 3000<;>
    simp[-length_flatMap,-map_take,dQ,w1,hc1,hu,g1,g3,hat,hset,hlen2,hle,hc2]
  ·simp at hus;subst hus;simp[-length_flatMap,-map_take,dQ,w1,hc1,hu,g1,g3,hat,hlen2]
theorem Px{n:Nat}{ar:List bJ}:∀{i:Nat},i≤ar.length→(∀j,j<i→yN n ar j=true)→∀k:Nat,k<n→(sA n ar i)[k]?=some (((ar.take i).map (·.b)).contains (k:Int))
 |0,_,_,k,hk=>by simp[sA,hk]
 |i+1,hi,h,k,hk=>by
  obtain⟨w,hw⟩:∃w,ar[i]?=some w:=gE (by omega);have ih:=Px (i:=i) (by omega) (fun j hj=>h j (by omega));have hp:=h i (by omega);simp only[yN,hw,af,au]at hp;obtain⟨h1,h2,_⟩:=hp;obtain⟨g1,g2⟩:=ba.1 h1;have ht:ar.take (i+1)=ar.take i++[w]:=by rw[List.take_add_one,hw];rfl
  simp only[sA,hw];rw[if_pos ⟨h1,h2⟩,ht];rw[List.getElem?_set];by_cases hkw:w.b.toNat=k
  ·subst hkw;have hb:w.b=((w.b.toNat:Nat):Int):=by omega
   simp[Aa,hk];right;omega
  ·rw[if_neg hkw,ih k hk];congr 1;have:((k:Int) == w.b)=false:=by simp;omega
   simp[List.contains_append,this];intro hh;omega
theorem CW{n:Nat}{ar:List bJ}:∀(m i:Nat),i+m=ar.length→(∀j,j<i→yN n ar j=true) →
  (uw (n:Int) ((ar.take i).map (·.b)) (ar.drop i)=true↔∀j,i≤j→j<ar.length→yN n ar j=true)
 |0,i,hi,h=>by
  rw[aB (by omega)];simp only[uw,true_iff];intro j h1 h2;omega
 |m+1,i,hi,h=>by
  obtain⟨w,hw⟩:∃w,ar[i]?=some w:=gE (by omega);have hu:=Px (n:=n) (i:=i) (by omega) h;have hone:bJ.ok (n:Int) ((ar.take i).map (·.b)) w=yN n ar i:=by
   simp only[yN,hw,bJ.ok];cases hc:cA w.b 0 ((n:Int)-1)
   ·rfl
   ·obtain⟨g1,g2⟩:=ba.1 hc;have:=hu w.b.toNat (by omega);rw[this,show((w.b.toNat:Nat):Int)=w.b from by omega];cases((ar.take i).map (·.b)).contains w.b<;>simp
  rw[cM hw,uw,hone,af];have ht:(ar.take i).map (·.b)++[w.b]=(ar.take (i+1)).map (·.b):=by rw[List.take_add_one,hw];simp
  rw[ht];constructor
  ·rintro⟨h1,h2⟩ j hj1 hj2;by_cases hji:j=i
   ·subst hji;exact h1
   ·refine((CW m (i+1) (by omega) fun j hj=>?_).1 h2) j (by omega) hj2;by_cases hji:j=i
    ·subst hji;exact h1
    ·exact h j (by omega)
  ·intro hh;have h1:=hh i (by omega) (by omega);refine⟨h1,(CW m (i+1) (by omega) fun j hj=>?_).2 fun j hj1 hj2=>hh j (by omega) hj2⟩;by_cases hji:j=i
   ·subst hji;exact h1
   ·exact h j (by omega)
theorem PT{n:Nat}{ar:List bJ}(hn:n≤512)(hl:ar.length≤1000000000):∃s,
  bx T (.call false j6 [.aI ar.length (ar.flatMap bJ.enc),.fn fC [] [.ref σ.length 1 0 0]] ([.cells 0 ((List.replicate n false).flatMap tF),.cells 0 [.sl σ.length 0 0 0 n 1]]::σ)) =
   some (.val (.bool (uw (n:Int) [] ar)) (s::σ)):=by
 have h:=MH (xq 3 bJ.enc (fun _=>rfl)) (T:=T) (S:=HS n ar σ) (fv:=.fn fC [] [.ref σ.length 1 0 0]) (l:=ar) (f:=j6) (g:=lA) (h:=fj) (i:=gK) (p:=yN n ar)
  rfl rfl rfl rfl (by omega) rfl rfl rfl (fun i=>by simp[HS]) (fun i x hx=>by
   rw[sc];have:=PS (σ:=σ) hn hx;show R.bu (bx T (.call false fC [.agg x.enc,.ref σ.length 1 0 0] _))=_
   rw[this];rfl)
 have he:(!(pC (fun i => !yN n ar i) 0 ar.length).1)=uw (n:Int) [] ar:=by
  have h1:=CW (n:=n) (ar:=ar) ar.length 0 (by omega) (by simp);have h2:=Dl (q:=fun i => !yN n ar i) (m:=ar.length) (i:=0);simp only[List.take_zero,bV,aP]at h1;cases hw:uw (n:Int) [] ar
  ·rw[Bool.not_eq_false'];cases hs:(pC (fun i => !yN n ar i) 0 ar.length).1
   ·have h3:=h2.1 hs;have h4:=h1.2 fun j _ hj=>by have:=h3 j hj;simpa using this
    rw[hw]at h4;cases h4
   ·rfl
  ·rw[dX];refine h2.2 fun j hj=>?_
   have:=h1.1 hw j (by omega) hj;simpa using this
 rw[he]at h;refine⟨[.cells 0 ((sA n ar (pC (fun i => !yN n ar i) 0 ar.length).2).flatMap tF),.cells 0 [.sl σ.length 0 0 0 n 1]],?_⟩;exact h
theorem BP{b:cC}(h1:b.cz.length≤1000000000)(h2:b.ar.length≤1000000000):bx T (.call false jz [.agg [.int .i64 b.f.x,.int .i64 b.f.y,.int .i64 b.f.z,.int .i64 b.f.k,.aI b.cz.length (b.cz.flatMap Rw.enc),.int .i64 b.bL,.int .i64 b.lift,.int .i64 b.deep,.aI b.ar.length (b.ar.flatMap bJ.enc)]] σ)=some (.val (.bool b.valid) σ):=by
 refine aA GP rH.eq_1 rfl ?_;have hT:=fun σ=>Ac (σ:=σ) (l:=b.cz) h1
 unfold cC.valid cC.ok1;cases hc1:b.f.valid
 ·simp[-length_flatMap,-map_take,jK,fU.shape,hc1]
 by_cases hc2:b.f.k<4
 ·simp[-length_flatMap,-map_take,jK,fU.shape,hc1,hc2,show ¬4≤b.f.k by omega]
 have hc2':4≤b.f.k:=by omega
 cases hc3:kE b.cz
 ·simp[-length_flatMap,-map_take,jK,fU.shape,hc1,hc2,hT,hc3]
 cases hc4:cA b.bL 1 100000
 ·simp[-length_flatMap,-map_take,jK,fU.shape,hc1,hc2,hT,hc3,dQ,hc4]
 cases hc5:cA b.lift 0 1000
 ·simp[-length_flatMap,-map_take,jK,fU.shape,hc1,hc2,hT,hc3,dQ,hc4,hc5]
 cases hc6:cA b.deep 0 3000
 ·simp[-length_flatMap,-map_take,jK,fU.shape,hc1,hc2,hT,hc3,dQ,hc4,hc5,hc6]
 by_cases hc7:8<b.ar.length
 ·simp[-length_flatMap,-map_take,jK,fU.shape,hc1,hc2,hT,hc3,dQ,hc4,hc5,hc6,hc7,show ¬b.ar.length≤8 by omega,show(8:Int)<b.ar.length by omega]
 obtain⟨g1,g2,g3,g4,g5⟩:=fU.tj.1 hc1;obtain⟨_,g6⟩:=fU.sz g1 g2 g3;have hsz:=fun σ=>Q6 (σ:=σ) (b:=b) g1 g2 g3
 have hs:b.size=((b.n:Nat):Int):=by unfold cC.n cC.size fU.size;omega
 have hn:b.n≤512:=by unfold cC.n cC.size fU.size;omega
 have hnil:((List.range b.n).flatMap fun _=>[D.bool false])=(List.replicate b.n false).flatMap tF:=by
  have:∀n,((List.range n).flatMap fun _=>[D.bool false])=(List.replicate n false).flatMap tF:=by
   intro n;induction n with
   |zero=>rfl
   |succ n ih=>rw[List.range_succ,iK,ih,List.replicate_succ'];simp[tF]
  exact this _
 obtain⟨s,hall⟩:=PT (σ:=σ) (n:=b.n) (ar:=b.ar) hn h2;rw[← hs]at hall;have hroom:(b.n:Int)≤70368744177664:=by omega
 rw[hs]at hsz;simp[-length_flatMap,-map_take,jK,fU.shape,hc1,hc2,hT,hc3,dQ,hc4,hc5,hc6,show ¬(8:Int)<b.ar.length by omega,show b.ar.length≤8 by omega,hsz,room,hroom,hnil,hall,hc2']
theorem agV{l:List Int}{i n:Nat}:((l.flatMap aT).drop i).take n=((l.drop i).take n).flatMap aT:=by
 simp only[show aT=fun n=>[D.int .i64 n]from rfl,OB,← List.map_drop,← List.map_take]
theorem qQ{l:List Int}{j:Nat}{x:Int}(h:l[j]?=some x):((l.flatMap aT).drop j).take 1=[.int .i64 x]:=by
 have:=bS (f:=aT) (w:=1) (fun _=>rfl) h;simpa using this
theorem cN(l:List Rw):D.bC (l.flatMap Rw.enc)=true:=ia (fun x=>by simp) l
theorem bw(l:List bJ):D.bC (l.flatMap bJ.enc)=true:=ia (fun x=>by simp) l
theorem bz(l:List Int):D.bC (l.flatMap aT)=true:=ia (fun x=>by simp) l
theorem JQ(l:List Rock.aF):D.bC (l.flatMap aF.enc)=true:=ia (fun x=>by simp) l
structure Bv(b:cC):Prop where
 x:1≤b.f.x∧b.f.x≤8
 y:1≤b.f.y∧b.f.y≤8
 z:1≤b.f.z∧b.f.z≤8
 k:4≤b.f.k∧b.f.k≤6
 sz:b.f.size=((b.n:Nat):Int)
 n:1≤b.n∧b.n≤64
 cz:kE b.cz=true
 bL:1≤b.bL∧b.bL≤100000
 lift:0≤b.lift∧b.lift≤1000
 deep:0≤b.deep∧b.deep≤3000
 ar:b.ar.length≤8
 ok:uw b.size [] b.ar=true
theorem Bv.of{b:cC}(h:b.valid=true):Bv b:=by
 simp only[cC.valid,cC.ok1,af,au]at h;obtain⟨⟨h1,h2,h3,h4,h5,h6,h7⟩,h8⟩:=h;obtain⟨g1,g2,g3,g4,g5⟩:=fU.tj.1 h1;obtain⟨_,g6⟩:=fU.sz g1 g2 g3;refine⟨g1,g2,g3,⟨h2,g5.2⟩,?_,?_,h3,ba.1 h4,ba.1 h5,ba.1 h6,h7,h8⟩
 ·unfold cC.n cC.size fU.size;omega
 ·unfold cC.n cC.size;unfold fU.size at g4 ⊢;omega
theorem Bv.fv{b:cC}(h:Bv b):b.f.valid=true:=fU.tj.2 ⟨h.x,h.y,h.z,by have:=h.sz;have:=h.n;omega,by have:=h.k;omega⟩
structure Mv(b:cC)(m:cU):Prop where
 bv:Bv b
 len:(m.bu.length:Int)=b.f.k*b.f.size
theorem Mv.le{b:cC}{m:cU}(h:Mv b m):4*b.n≤m.bu.length∧m.bu.length≤384:=by
 have h1:=h.bv.k;have h2:=h.bv.sz;have h3:=h.bv.n;have h4:=h.len;have h5:=(fJ h1.1 (by omega:(0:Int)≤b.f.size));have h6:=Tx (a:=b.f.k) (b:=b.f.size) (A:=6) (B:=64) (by omega) h1.2 (by omega) (by omega);omega
theorem zx{b:cC}(h:Bv b):bx T (.call false dp [.agg [.int .i64 b.f.x,.int .i64 b.f.y,.int .i64 b.f.z,.int .i64 b.f.k,.aI b.cz.length (b.cz.flatMap Rw.enc),.int .i64 b.bL,.int .i64 b.lift,.int .i64 b.deep,.aI b.ar.length (b.ar.flatMap bJ.enc)]] σ)=some (.val (.int .i64 b.n) σ):=by
 have:=Q6 (σ:=σ) (b:=b) h.x h.y h.z;rw[show b.size=((b.n:Nat):Int)from h.sz]at this;exact this
theorem I9{b:cC}{m:cU}(h:Mv b m){k:Nat}(hk:k<4):bx T (.call false ep [.agg [.int .i64 b.f.x,.int .i64 b.f.y,.int .i64 b.f.z,.int .i64 b.f.k,.aI b.cz.length (b.cz.flatMap Rw.enc),.int .i64 b.bL,.int .i64 b.lift,.int .i64 b.deep,.aI b.ar.length (b.ar.flatMap bJ.enc),.str m.name,.aI m.bu.length (m.bu.flatMap aT)],.int .i64 k] σ)=some (.val (.aI b.n ((vR b m k).flatMap aT)) σ):=by
 refine aA EA oZ.eq_1 rfl ?_;obtain⟨h1,h2⟩:=h.le;have h3:=h.bv.n;have hs:=fun σ=>zx (σ:=σ) h.bv
 have e1:(k:Int)*(b.n:Int)=((k*b.n:Nat):Int):=by push_cast;rfl
 have e2:((k:Int)+1)*(b.n:Int)=(((k+1)*b.n:Nat):Int):=by push_cast;rfl
 have b1:(k+1)*b.n≤m.bu.length:=jM (dq _ (by omega:k+1≤4)) h1;have b2:(k+1)*b.n=k*b.n+b.n:=eT _ _;have w1:=fT (n:=(k:Int)*b.n) (by rw[e1];omega);have w2:=fT (n:=(k:Int)+1) (by omega);have w3:=fT (n:=((k:Int)+1)*b.n) (by rw[e2];omega);have e3:(k+1)*b.n-k*b.n=b.n:=by omega
 have hsub:=agV (l:=m.bu) (i:=k*b.n) (n:=b.n);have hle:(k:Int)*b.n≤((k:Int)+1)*b.n:=by rw[e1,e2];omega
 simp[-length_flatMap,-map_take,hs,w1,w2,w3];rw[e1,e2];have c1:(0:Int)≤((k*b.n:Nat):Int):=by omega
 have c2:((k*b.n:Nat):Int)≤(((k+1)*b.n:Nat):Int):=by omega
 have c3:(((k+1)*b.n:Nat):Int)≤(m.bu.length:Int):=by omega
 have c4:(0:Int)≤(((k+1)*b.n:Nat):Int):=by omega
 simp only[c1,c2,c3,c4,and_self,if_true,Int.toNat_natCast,Option.bind_some,aU,FJ,e3,hsub];simp[-length_flatMap,-map_take,vR,hle,e3,hsub,bz]
theorem LQ{b:cC}{m:cU}(h:Mv b m){k:Nat}(hk:k<4):(vR b m k).length=b.n:=by
 obtain⟨h1,h2⟩:=h.le;have b1:(k+1)*b.n≤m.bu.length:=jM (dq _ (by omega:k+1≤4)) h1;have b2:(k+1)*b.n=k*b.n+b.n:=eT _ _;simp[vR];omega
theorem xC{b:cC}{m:cU}(h:Mv b m){k i:Nat}(hk:k<4)(hi:i<b.n):(vR b m k)[i]?=some (ve b m k i):=by
 obtain⟨h1,h2⟩:=h.le;have b1:(k+1)*b.n≤m.bu.length:=jM (dq _ (by omega:k+1≤4)) h1;have b2:(k+1)*b.n=k*b.n+b.n:=eT _ _;have h3:k*b.n+i<m.bu.length:=by omega
 simp only[vR,ve,ei,eh,if_pos hi,aJ h3,gU]
theorem VD{b:cC}{m:cU}(h:Mv b m){i:Nat}(hi:i<b.n):bx T (.call false fD [.agg [.int .i64 b.f.x,.int .i64 b.f.y,.int .i64 b.f.z,.int .i64 b.f.k,.aI b.cz.length (b.cz.flatMap Rw.enc),.int .i64 b.bL,.int .i64 b.lift,.int .i64 b.deep,.aI b.ar.length (b.ar.flatMap bJ.enc),.str m.name,.aI m.bu.length (m.bu.flatMap aT)],.int .i64 i] σ)=some (.val (.int .i64 (hold b m i)) σ):=by
 refine aA Ez oY.eq_1 rfl ?_;have hk:=fun σ=>I9 (σ:=σ) h (k:=0) (by omega)
 have ha:=qQ (xC h (k:=0) (by omega) hi);simp only[Int.ofNat_zero]at hk;simp[-length_flatMap,-map_take,hk,hi,ha,hold]
theorem VK{b:cC}{m:cU}(h:Mv b m){i:Nat}(hi:i<b.n):bx T (.call false jE [.agg [.int .i64 b.f.x,.int .i64 b.f.y,.int .i64 b.f.z,.int .i64 b.f.k,.aI b.cz.length (b.cz.flatMap Rw.enc),.int .i64 b.bL,.int .i64 b.lift,.int .i64 b.deep,.aI b.ar.length (b.ar.flatMap bJ.enc),.str m.name,.aI m.bu.length (m.bu.flatMap aT)],.int .i64 i] σ)=some (.val (.int .i64 (Lf b m i)) σ):=by
 refine aA EB o4.eq_1 rfl ?_;have hk:=fun σ=>I9 (σ:=σ) h (k:=1) (by omega)
 have ha:=qQ (xC h (k:=1) (by omega) hi);simp at hk;simp[-length_flatMap,-map_take,hk,hi,ha,Lf]
theorem apL{b:cC}{m:cU}(h:Mv b m){i:Nat}(hi:i<b.n):bx T (.call false l4 [.agg [.int .i64 b.f.x,.int .i64 b.f.y,.int .i64 b.f.z,.int .i64 b.f.k,.aI b.cz.length (b.cz.flatMap Rw.enc),.int .i64 b.bL,.int .i64 b.lift,.int .i64 b.deep,.aI b.ar.length (b.ar.flatMap bJ.enc),.str m.name,.aI m.bu.length (m.bu.flatMap aT)],.int .i64 i] σ)=some (.val (.int .i64 (Lm b m i)) σ):=by
 refine aA ED o6.eq_1 rfl ?_;have hk:=fun σ=>I9 (σ:=σ) h (k:=2) (by omega)
 have ha:=qQ (xC h (k:=2) (by omega) hi);simp at hk;simp[-length_flatMap,-map_take,hk,hi,ha,Lm]
theorem apw{b:cC}{m:cU}(h:Mv b m){i:Nat}(hi:i<b.n):bx T (.call false jC [.agg [.int .i64 b.f.x,.int .i64 b.f.y,.int .i64 b.f.z,.int .i64 b.f.k,.aI b.cz.length (b.cz.flatMap Rw.enc),.int .i64 b.bL,.int .i64 b.lift,.int .i64 b.deep,.aI b.ar.length (b.ar.flatMap bJ.enc),.str m.name,.aI m.bu.length (m.bu.flatMap aT)],.int .i64 i] σ)=some (.val (.int .i64 (feed b m i)) σ):=by
 refine aA Ex oW.eq_1 rfl ?_;have hk:=fun σ=>I9 (σ:=σ) h (k:=3) (by omega)
 have ha:=qQ (xC h (k:=3) (by omega) hi);simp at hk;simp[-length_flatMap,-map_take,hk,hi,ha,feed]
theorem aio{lo hi n:Int}:bx T (.call false ed [.int .i64 n,.ref σ.length 0 0 0] ([]::[]::[]::[]::[.cells 0 [.int .i64 lo,.int .i64 hi]]::σ))=some (.val (.bool (cA n lo hi)) ([]::[]::[]::[]::[.cells 0 [.int .i64 lo,.int .i64 hi]]::σ)):=by
 refine aA BY mW.eq_1 rfl ?_;simp[-length_flatMap,-map_take,dQ]
theorem T7{b:cC}{m:cU}(h:Mv b m){k:Nat}(hk:k<4){lo hi:Int}:bx T (.call false j5 [.aI b.n ((vR b m k).flatMap aT),.fn ed [] [.ref σ.length 0 0 0]] ([.cells 0 [.int .i64 lo,.int .i64 hi]]::σ)) =
  some (.val (.bool (fV (vR b m k) fun n=>cA n lo hi)) ([.cells 0 [.int .i64 lo,.int .i64 hi]]::σ)):=by
 have hl:=LQ h hk;have hn:=h.bv.n;have:=aiW (MT .i64) (T:=T) (f:=j5) (g:=oo) (h:=cg) (i:=ew) (l:=vR b m k) (p:=fun n=>cA n lo hi) (fv:=.fn ed [] [.ref σ.length 0 0 0]) (σ:=[.cells 0 [.int .i64 lo,.int .i64 hi]]::σ)
  rfl rfl rfl rfl (by omega) rfl rfl rfl (fun x _=>by
   rw[sc];have:=aio (σ:=σ) (lo:=lo) (hi:=hi) (n:=x);show R.bu (bx T (.call false ed [.int .i64 x,.ref σ.length 0 0 0] _))=_
   rw[this];rfl)
 rw[hl]at this;exact this
def Nk:Nat→Int×Int
 |0=>(1000,100000)
 |1=>(0,1000)
 |2=>(0,3000)
 |_=>(0,1000)
def zQ(b:cC)(m:cU)(i:Nat):Nat→Bool
 |0=>true
 |n+1=>fV (vR b m i) (fun x=>cA x (Nk i).1 (Nk i).2) && zQ b m (i+1) n
theorem V4{b:cC}{m:cU}(h:Mv b m):∀(n i:Nat),i+n=4 →
  WL T [1,17,18] true mq [(1,.bI [.int .i64 b.f.x,.int .i64 b.f.y,.int .i64 b.f.z,.int .i64 b.f.k,.aI b.cz.length (b.cz.flatMap Rw.enc),.int .i64 b.bL,.int .i64 b.lift,.int .i64 b.deep,.aI b.ar.length (b.ar.flatMap bJ.enc),.str m.name,.aI m.bu.length (m.bu.flatMap aT)]),(17,.agg [.int .i64 1000,.int .i64 100000,.int .i64 0,.int .i64 1000,.int .i64 0,.int .i64 3000,.int .i64 0,.int .i64 1000]),(18,.int .i64 i)] σ
   (fun x e σ'=>σ'=σ∧if zQ b m i n=true then x=.exit 0 else x=.ret∧get e 2=.bool false)
 |0,i,hi=>by
  refine FK mq.eq_1 ?_;obtain rfl:i=4:=by omega
  simp[-length_flatMap,-map_take,zQ,cN,bw,bz]
 |n+1,i,hi=>by
  refine FK mq.eq_1 ?_;have hk:i<4:=by omega
  have hK:=fun σ=>I9 (σ:=σ) h hk
  have ih:=V4 h n (i+1) (by omega);have hA:=T7 (σ:=σ) h hk (lo:=(Nk i).1) (hi:=(Nk i).2);simp only[zQ];rcases Bool.eq_false_or_eq_true (fV (vR b m i) (fun x=>cA x (Nk i).1 (Nk i).2))with hc | hc
  ·rw[hc]at hA;obtain rfl | rfl | rfl | rfl:i=0∨i=1∨i=2∨i=3:=by omega
   all_goals
    simp only[Nk]at hA hc ⊢
    try simp at hK
    simp[-length_flatMap,-map_take,hK,hA,hc,cN,bw,bz];exact WL.to ih (by simp[cN,bw,bz]) (by simp[cN,bw,bz]) fun x e σ' hh=>by simpa[hc]using hh
  ·rw[hc]at hA;obtain rfl | rfl | rfl | rfl:i=0∨i=1∨i=2∨i=3:=by omega
   all_goals
    simp only[Nk]at hA hc ⊢
    try simp at hK
    simp[-length_flatMap,-map_take,hK,hA,hc,cN,bw,bz]
theorem Mv.of{b:cC}{m:cU}(h:Bv b)(hc:gV b.f [m]=0):Mv b m:=by
 refine⟨h,?_⟩;simp only[gV,h.fv,if_true,fU.av]at hc;have h1:cA (([m]:List cU).length:Nat) 1 40=true:=by simp[cA]
 rw[if_pos h1]at hc;simp only[fU.each]at hc;split at hc
 ·rename_i hm;unfold fU.model at hm;split at hm
  ·split at hm
   ·rename_i hh;exact hh.1
   ·cases hm
  ·cases hm
 ·rename_i hm;exact absurd hc hm
theorem PK{b:cC}{m:cU}(h:Bv b)(hn:m.name.length≤1000000000)(hl:m.bu.length≤1000000000):bx T (.call false jD [.agg [.int .i64 b.f.x,.int .i64 b.f.y,.int .i64 b.f.z,.int .i64 b.f.k,.aI b.cz.length (b.cz.flatMap Rw.enc),.int .i64 b.bL,.int .i64 b.lift,.int .i64 b.deep,.aI b.ar.length (b.ar.flatMap bJ.enc),.str m.name,.aI m.bu.length (m.bu.flatMap aT)]] σ)=some (.val (.bool (fits b m)) σ):=by
 refine aA Ey oX.eq_1 rfl ?_;have hC:=fun σ=>D6 (σ:=σ) (f:=b.f) (l:=[m]) (by simpa using⟨hn,hl⟩) (by simp)
 simp at hC;by_cases hc:gV b.f [m]=0
 ·have hm:=Mv.of h hc;simp[-length_flatMap,-map_take,hC,hc];refine WL.to (V4 (σ:=[]::σ) hm 4 0 (by omega)) (by simp) rfl ?_;rintro x e σ' ⟨rfl,hh⟩;have he:zQ b m 0 4=fits b m:=by
   simp[zQ,fits,hc,Nk]
  rw[he]at hh;cases hf:fits b m
  ·rw[hf]at hh;simp at hh;simp[hh]
  ·rw[hf]at hh;simp at hh;subst hh;simp[-length_flatMap,-map_take]
 ·simp[-length_flatMap,-map_take,hC,hc,fits]
theorem aj4{b:cC}{m:cU}(h1:b.cz.length≤1000000000)(h2:b.ar.length≤1000000000)(hn:m.name.length≤1000000000)(hl:m.bu.length≤1000000000)(hb:Bd b m=true):
  bx T (.call false sT [.agg [.int .i64 b.f.x,.int .i64 b.f.y,.int .i64 b.f.z,.int .i64 b.f.k,.aI b.cz.length (b.cz.flatMap Rw.enc),.int .i64 b.bL,.int .i64 b.lift,.int .i64 b.deep,.aI b.ar.length (b.ar.flatMap bJ.enc)],.agg [.str m.name,.aI m.bu.length (m.bu.flatMap aT)]] σ)=some (.val (.dM [.agg [.int .i64 b.f.x,.int .i64 b.f.y,.int .i64 b.f.z,.int .i64 b.f.k,.aI b.cz.length (b.cz.flatMap Rw.enc),.int .i64 b.bL,.int .i64 b.lift,.int .i64 b.deep,.aI b.ar.length (b.ar.flatMap bJ.enc),.str m.name,.aI m.bu.length (m.bu.flatMap aT)],.int .i64 0]) σ):=by
 refine aA Jp xz.eq_1 rfl ?_;simp only[Bd,af]at hb;have hf:=fun σ=>PK (σ:=σ) (Bv.of hb.1) hn hl
 simp[-length_flatMap,-map_take,BP h1 h2,hb.1,hf,hb.2,cN,bw,bz]
theorem Q4{b:cC}{m:cU}(h1:b.cz.length≤1000000000)(h2:b.ar.length≤1000000000)(hn:m.name.length≤1000000000)(hl:m.bu.length≤1000000000)(hb:Bd b m=false):∃d,
  bx T (.call false sT [.agg [.int .i64 b.f.x,.int .i64 b.f.y,.int .i64 b.f.z,.int .i64 b.f.k,.aI b.cz.length (b.cz.flatMap Rw.enc),.int .i64 b.bL,.int .i64 b.lift,.int .i64 b.deep,.aI b.ar.length (b.ar.flatMap bJ.enc)],.agg [.str m.name,.aI m.bu.length (m.bu.flatMap aT)]] σ)=some (.val (.dM [.agg d,.int .i64 1]) σ)∧d.length=11∧D.bC d=true:=by
 refine⟨[(.int .i64 0),(.int .i64 0),(.int .i64 0),(.int .i64 0),.aG,(.int .i64 0),(.int .i64 0),(.int .i64 0),.aG,(.str []),.aG],?_,rfl,by simp⟩;refine aA Jp xz.eq_1 rfl ?_;cases hc:b.valid
 ·simp[-length_flatMap,-map_take,BP h1 h2,hc]
 ·have hf:=fun σ=>PK (σ:=σ) (Bv.of hc) hn hl
  have hb':fits b m=false:=by simpa[Bd,hc]using hb
  simp[-length_flatMap,-map_take,BP h1 h2,hc,hf,hb']
theorem aiy{n:Int}:bx T (.call false jy [.int .i64 n] σ)=some (.val (.bool (cA n (-100000) 100000)) σ):=by
 refine aA Er oO.eq_1 rfl ?_;simp[-length_flatMap,-map_take,dQ]
theorem Uc{l:List Int}{p:Int→Bool}{fv:D}(hl:l.length≤1000000000)(ht:pP T fv (fun n => .int .i64 n) p l)(hc:fv.cells=some [fv]):
  bx T (.call false j5 [.aI l.length (l.flatMap aT),fv] σ)=some (.val (.bool (fV l p)) σ) :=
 Ax (MT .i64) (f:=j5) (g:=oo) (h:=cg) (i:=ew) (l:=l) (p:=p) (fv:=fv) rfl rfl rfl rfl (by omega) ht hc
theorem aiz{b:cC}{l:List Int}(hl:l.length≤1000000000):bx T (.call false om [.agg [.int .i64 b.f.x,.int .i64 b.f.y,.int .i64 b.f.z,.int .i64 b.f.k,.aI b.cz.length (b.cz.flatMap Rw.enc),.int .i64 b.bL,.int .i64 b.lift,.int .i64 b.deep,.aI b.ar.length (b.ar.flatMap bJ.enc)],.aI l.length (l.flatMap aT)] σ)=some (.val (.int .i64 (AT b l)) σ):=by
 refine aA GO rG.eq_1 rfl ?_;have ha:=fun σ=>Uc (σ:=σ) (l:=l) (p:=fun n=>cA n (-100000) 100000) (fv:=.fn jy [] []) hl (pP.fn fun x _ σ=>aiy) rfl
 unfold AT;by_cases hc1:l.length=b.ar.length
 ·rw[← hc1];cases hc2:fV l (fun n=>cA n (-100000) 100000)<;>simp[-length_flatMap,-map_take,hc1,ha,hc2,hc1 ▸ ha]
 ·simp[-length_flatMap,-map_take,hc1,show ¬(l.length:Int)=b.ar.length by omega]
def IL(l:List Int):List D:=[.aI l.length (l.flatMap aT)]
theorem V5{b:cC}{aw:List (List Int)}(hl:aw.length≤1000000000)(hs:∀l∈aw,l.length≤1000000000):∀(m i:Nat),i+m=aw.length →
  WL T [2,11,12,13] false nT [(2,.bI [.int .i64 b.f.x,.int .i64 b.f.y,.int .i64 b.f.z,.int .i64 b.f.k,.aI b.cz.length (b.cz.flatMap Rw.enc),.int .i64 b.bL,.int .i64 b.lift,.int .i64 b.deep,.aI b.ar.length (b.ar.flatMap bJ.enc)]),(11,.aI aw.length (aw.flatMap IL)),(12,.int .i64 aw.length),(13,.int .i64 i)] σ
   (fun x e σ'=>σ'=σ∧if di (AT b) (aw.drop i)=0 then x=.exit 0 else x=.ret∧get e 4=.int .i64 (di (AT b) (aw.drop i)))
 |0,i,hi=>by
  refine aO nT.eq_1 ?_;have h1:¬i<aw.length:=by omega
  have h2:aw.drop i=[]:=aB (by omega);simp[-length_flatMap,-map_take,h1,h2,di]
 |m+1,i,hi=>by
  refine aO nT.eq_1 ?_;have h1:i<aw.length:=by omega
  obtain⟨l,hx⟩:=gE h1;have h2:=bS (f:=IL) (w:=1) (fun _=>rfl) hx;simp only[IL,dL]at h2;have h4:=gq h1 (by omega);have h5:=cM hx;have hC:=fun σ=>aiz (σ:=σ) (b:=b) (l:=l) (hs l (aj hx))
  rw[h5,di];have ih:=V5 (b:=b) hl hs m (i+1) (by omega);by_cases hc:AT b l=0
  ·simp[-length_flatMap,-map_take,h1,h2,h4,hC,hc,IL];exact WL.to ih (by simp[IL]) rfl fun x e σ' hh=>by simpa[hc]using hh
  ·simp[-length_flatMap,-map_take,h1,h2,h4,hC,hc,IL]
theorem VN{b:cC}{aw:List (List Int)}(hl:aw.length≤1000000000)(hs:∀l∈aw,l.length≤1000000000):
  bx T (.call false mL [.agg [.int .i64 b.f.x,.int .i64 b.f.y,.int .i64 b.f.z,.int .i64 b.f.k,.aI b.cz.length (b.cz.flatMap Rw.enc),.int .i64 b.bL,.int .i64 b.lift,.int .i64 b.deep,.aI b.ar.length (b.ar.flatMap bJ.enc)],.aI aw.length (aw.flatMap IL)] σ)=some (.val (.int .i64 (uO b aw)) σ):=by
 refine aA Iq sF.eq_1 rfl ?_;unfold uO;by_cases hc:200<aw.length
 ·simp[-length_flatMap,-map_take,hc,show(200:Int)<aw.length by omega]
 ·simp[-length_flatMap,-map_take,hc,show ¬(200:Int)<aw.length by omega];refine WL.to (V5 (σ:=[]::σ) (b:=b) hl hs aw.length 0 (by omega)) (by simp) rfl ?_;rintro x e σ' ⟨rfl,h⟩;simp only[aP]at h;by_cases hc2:di (AT b) aw=0
  ·rw[if_pos hc2]at h;subst h;simp[-length_flatMap,-map_take,hc2,show aw.length≤200 by omega]
  ·rw[if_neg hc2]at h;obtain⟨rfl,h⟩:=h;simp[h,show ¬200<aw.length by omega]
structure Fv(b:cC)(m:cU):Prop extends Mv b m where
 hold:∀i,i<b.n→1000≤Rock.hold b m i∧Rock.hold b m i≤100000
 Lf:∀i,i<b.n→0≤Rock.Lf b m i∧Rock.Lf b m i≤1000
 Lm:∀i,i<b.n→0≤Rock.Lm b m i∧Rock.Lm b m i≤3000
 feed:∀i,i<b.n→0≤Rock.feed b m i∧Rock.feed b m i≤1000
theorem Fv.of{b:cC}{m:cU}(h:Bd b m=true):Fv b m:=by
 simp only[Bd,fits,af,au]at h;obtain⟨h1,h2,h3,h4,h5,h6⟩:=h;have hm:=Mv.of (Bv.of h1) h2;have key:∀{k:Nat} {lo hi:Int},k<4→fV (vR b m k) (fun n=>cA n lo hi)=true→∀i,i<b.n→lo≤ve b m k i∧ve b m k i≤hi:=by
  intro k lo hi hk ha i hi';exact ba.1 (fW.1 ha _ (aj (xC hm hk hi')))
 exact⟨hm,key (by omega) h3,key (by omega) h4,key (by omega) h5,key (by omega) h6⟩
theorem CV{b:cC}(h:Bv b){i:Nat}(hi:i<b.n):0≤weight b i∧weight b i≤64000:=by
 have hl:=h.lift;have hn:=h.n;have hle:i / (b.f.x.toNat*b.f.y.toNat)≤i:=Nat.div_le_self _ _;have hq:=Int.natCast_nonneg (i / (b.f.x.toNat*b.f.y.toNat));have hle2:((i / (b.f.x.toNat*b.f.y.toNat):Nat):Int)≤64:=by
  have:i / (b.f.x.toNat*b.f.y.toNat)≤64:=by omega
  exact Int.ofNat_le.2 this
 unfold weight;exact oA (A:=64) (B:=1000) hq hle2 hl.1 hl.2
theorem Jd{b:cC}{m:cU}(h:Bv b){i:Nat}(hi:i<b.n):bx T (.call false fE [.agg [.int .i64 b.f.x,.int .i64 b.f.y,.int .i64 b.f.z,.int .i64 b.f.k,.aI b.cz.length (b.cz.flatMap Rw.enc),.int .i64 b.bL,.int .i64 b.lift,.int .i64 b.deep,.aI b.ar.length (b.ar.flatMap bJ.enc),.str m.name,.aI m.bu.length (m.bu.flatMap aT)],.int .i64 i] σ)=some (.val (.int .i64 (weight b i)) σ):=by
 refine aA BZ mY.eq_1 rfl ?_;have hx:=h.x;have hy:=h.y;have hn:=h.n;obtain⟨s1,_⟩:=fU.sz h.x h.y h.z;have w1:=fT (n:=b.f.x*b.f.y) (by omega);have e1:b.f.x*b.f.y=((b.f.x.toNat*b.f.y.toNat:Nat):Int):=by push_cast;rw[fZ (by omega),fZ (by omega)]
 have e2:(i:Int) / (b.f.x*b.f.y)=((i / (b.f.x.toNat*b.f.y.toNat):Nat):Int):=by
  rw[e1];rfl
 have hle:i / (b.f.x.toNat*b.f.y.toNat)≤i:=Nat.div_le_self _ _;have hw:=CV h hi;have hq:(0:Int)≤(i:Int) / (b.f.x*b.f.y):=by rw[e2];exact Int.natCast_nonneg _
 have hq2:(i:Int) / (b.f.x*b.f.y)≤64:=by
  rw[e2];have:i / (b.f.x.toNat*b.f.y.toNat)≤64:=by omega
  exact Int.ofNat_le.2 this
 have w2:=fT (n:=(i:Int) / (b.f.x*b.f.y)) (by omega);have w3:=fT (n:=weight b i) (by omega);have hne:¬b.f.x*b.f.y=0:=by omega
 have hnx:¬b.f.x=0:=by omega
 have hny:¬b.f.y=0:=by omega
 have e3:(i:Int) / (b.f.x*b.f.y)*b.lift=weight b i:=by rw[e2];rfl
 simp[-length_flatMap,-map_take,w1,w2,hne,hnx,hny,e3,w3]
theorem apu{n d:Int}(hn : -200000000000≤n∧n≤200000000000)(hd:1≤d∧d≤100000):bx T (.call false vQ [.int .i64 n,.int .i64 d] σ)=some (.val (.int .i64 (down n d)) σ):=by
 refine aA NZ yt.eq_1 rfl ?_;have h1:=Int.mul_tdiv_add_tmod n d;have h2:=Int.tmod_lt_of_pos n (show 0<d by omega);have h3:=Int.lt_tmod_of_pos n (show 0<d by omega);unfold down;generalize hq:n.tdiv d=q at *
 generalize n.tmod d=r at *
 have h4:d*q=q*d:=Int.mul_comm _ _;have hb : -200000100001≤q∧q≤200000100001:=by
  rcases mN 0 q with h | h
  ·have:=Int.mul_le_mul_of_nonneg_left hd.1 h;omega
  ·have:=Int.mul_le_mul_of_nonpos_left h hd.1;omega
 have w1:=fT (n:=q) (by omega);have w2:=fT (n:=q*d) (by omega);have w3:=fT (n:=q-1) (by omega);have hne:¬d=0:=by omega
 have key:n / d=if n<q*d then q-1 else q:=by
  split
  ·rename_i hc;refine((Int.ediv_emod_unique (r:=r+d) (show 0<d by omega)).2 ⟨?_,?_,?_⟩).1
   ·rw[Int.mul_sub];omega
   ·omega
   ·omega
  ·rename_i hc;refine((Int.ediv_emod_unique (r:=r) (show 0<d by omega)).2 ⟨?_,?_,?_⟩).1<;>omega
 rw[key];by_cases hc:n<q*d<;>simp[-length_flatMap,-map_take,hq,w1,w2,w3,hne,hc]
theorem yz{α:Type}{f:α→List D}{w n:Nat}(hn:1<n)(hw:∀x,(f x).length=w)(hc:∀x,D.bC (f x)=true){l:List α}{j v:Nat}{bs:List Abs.aF}(hσ:σ≠[])(hj:bs[j]?=some (.cells v (l.flatMap f))):
  cG (σ.length-1) n (.sl σ.length j v 0 l.length w) (bs::σ)=(.aI l.length (l.flatMap f),bs.set j .dead::σ):=by
 have h3:¬σ.length≤σ.length-1:=by have:=aN.2 hσ;omega
 rw[E7 h3 (cs:=l.flatMap f) (by simp[hj]) (by omega)];have h4:0<n-1:=by omega
 simp[M1 hw l,ia hc l,h4]
theorem C8{b:cC}{m:cU}:(dY b m).length=b.n:=by simp[dY]
theorem IW(l:List Rock.aF):(l.flatMap aF.enc).length=l.length*3:=cm (f:=aF.enc) (w:=3) (fun _=>rfl) l
theorem Rb{b:cC}{m:cU}(h:Fv b m):∀(n i v:Nat),i+n=b.n →
  WL T [1,2,6,7] false lj [(1,.bI [.int .i64 b.f.x,.int .i64 b.f.y,.int .i64 b.f.z,.int .i64 b.f.k,.aI b.cz.length (b.cz.flatMap Rw.enc),.int .i64 b.bL,.int .i64 b.lift,.int .i64 b.deep,.aI b.ar.length (b.ar.flatMap bJ.enc),.str m.name,.aI m.bu.length (m.bu.flatMap aT)]),(2,.sl σ.length 0 v 0 i 3),(6,.int .i64 b.n),(7,.int .i64 i)] ([.cells v (((dY b m).take i).flatMap aF.enc)]::σ)
   (fun x e σ'=>x=.exit 0∧get e 2=.sl σ.length 0 (v+n) 0 (dY b m).length 3∧σ'=[.cells (v+n) ((dY b m).flatMap aF.enc)]::σ)
 |0,i,v,hi=>by
  refine aO lj.eq_1 ?_;obtain rfl:i=b.n:=by omega
  have h3:(dY b m).take b.n=dY b m:=ak (by simp[C8]);simp[-length_flatMap,-map_take,h3,C8]
 |n+1,i,v,hi=>by
  refine aO lj.eq_1 ?_;have h1:i<b.n:=by omega
  have hn:=h.bv.n;have h4:=gq h1 (by omega);have ho:=fun σ=>VD (σ:=σ) h.toMv h1
  have hw:=fun σ=>apL (σ:=σ) h.toMv h1
  have b1:=h.hold i h1;have b2:=h.Lm i h1;have b3:=oA (by omega:0≤hold b m i) b1.2 b2.1 b2.2;have w1:=fT (n:=hold b m i*Lm b m i) (by omega);have ih:=Rb h n (i+1) (v+1) (by omega);have hx:(dY b m)[i]?=some ⟨hold b m i,hold b m i*Lm b m i,0⟩:=by simp[dY,h1]
  have a3:=Hs (f:=aF.enc) hx;have a4:=IW ((dY b m).take i);rw[lF,C8,Nat.min_eq_left (by omega)]at a4;have a6:(((dY b m).take i).flatMap aF.enc).take (i*3)=((dY b m).take i).flatMap aF.enc:=ak (by omega);have h7:(i+1)*24≤room:=by unfold room;omega
  simp[-length_flatMap,-map_take,h1,h4,ho,hw,w1,a4,a6,h7,cN,bw,bz];refine WL.to ih (by simp[cN,bw,bz]) (by simp[← a3]) fun x e σ hh=>by simpa[dA,Nat.add_comm 1 n]using hh
theorem GI{b:cC}{m:cU}(h:Fv b m)(hσ:σ≠[]):bx T (.call false iQ [.agg [.int .i64 b.f.x,.int .i64 b.f.y,.int .i64 b.f.z,.int .i64 b.f.k,.aI b.cz.length (b.cz.flatMap Rw.enc),.int .i64 b.bL,.int .i64 b.lift,.int .i64 b.deep,.aI b.ar.length (b.ar.flatMap bJ.enc),.str m.name,.aI m.bu.length (m.bu.flatMap aT)]] σ)=some (.val (Vs (dY b m)) σ):=by
 refine aA Dx nV.eq_1 rfl ?_;have hs:=fun σ=>zx (σ:=σ) h.bv
 simp[-length_flatMap,-map_take,hs,cN,bw,bz];refine WL.to (Rb (σ:=σ) h b.n 0 0 (by omega)) (by simp) (by simp) ?_;rintro x e σ' ⟨rfl,g2,rfl⟩;simp[-length_flatMap,-map_take,g2];rw[yz (f:=aF.enc) (by decide) (fun _=>rfl) (fun x=>by simp) hσ (by simp)];simp[Vs]
end Go.Proofs.YtfgljaglidhjiaaGreatDoor
