import Derived.Test.YtpapbbojmclkgaaGreatDoorTab
set_option linter.all false
namespace Go.Rock
open Go Go.Abs
structure dD where
 x:Int
 y:Int
 z:Int
 k:Int
structure Rw where
 t:Int
 p:Int
 l:Int
 v:Int
 s:Int
structure bG where
 b:Int
 h:Int
 m:Int
structure bU where
 f:dD
 dP:List Rw
 cC:Int
 lift:Int
 deep:Int
 av:List bG
structure b8 where
 name:List UInt8
 du:List Int
structure aG where
 m:Int
 h:Int
 k:Int
@[simp] theorem dD.eta(p:dD):dD.mk p.x p.y p.z p.k=p:=rfl
@[simp] theorem Rw.eta(p:Rw):Rw.mk p.t p.p p.l p.v p.s=p:=rfl
@[simp] theorem bG.eta(p:bG):bG.mk p.b p.h p.m=p:=rfl
@[simp] theorem aG.eta(p:aG):aG.mk p.m p.h p.k=p:=rfl
@[simp] def dD.enc(f:dD):List D:=[iI f.x,iI f.y,iI f.z,iI f.k]
@[simp] def Rw.enc(r:Rw):List D:=[iI r.t,iI r.p,iI r.l,iI r.v,iI r.s]
@[simp] def bG.enc(r:bG):List D:=[iI r.b,iI r.h,iI r.m]
@[simp] def aG.enc(r:aG):List D:=[iI r.m,iI r.h,iI r.k]
@[simp] def aP(n:Int):List D:=[iI n]
@[simp] def bU.enc(b:bU):List D:=[iI b.f.x,iI b.f.y,iI b.f.z,iI b.f.k,.bV b.dP.length (fM b.dP Rw.enc),iI b.cC,iI b.lift,iI b.deep,.bV b.av.length (fM b.av bG.enc)]
@[simp] def b8.enc(m:b8):List D:=[.str m.name,.bV m.du.length (fM m.du aP)]
@[reducible,simp] def fL(f:dD):List D:=[iI f.x,iI f.y,iI f.z,iI f.k]
@[reducible,simp] def mL(m:b8):List D:=[.str m.name,lF m.du aP]
@[reducible,simp] def bL(b:bU):List D:=[iI b.f.x,iI b.f.y,iI b.f.z,iI b.f.k,lF b.dP Rw.enc,iI b.cC,iI b.lift,iI b.deep,lF b.av bG.enc]
@[reducible,simp] def bM(b:bU)(m:b8):List D:=[iI b.f.x,iI b.f.y,iI b.f.z,iI b.f.k,lF b.dP Rw.enc,iI b.cC,iI b.lift,iI b.deep,lF b.av bG.enc,.str m.name,lF m.du aP]
def YA(s:List aG):D:=.bV s.length (fM s aG.enc)
def bC(n lo hi:Int):Bool:=decide (lo<=n) && decide (n<=hi)
theorem aR{n lo hi:Int}:bC n lo hi=true↔lo<=n/\n<=hi:=by simp[bC]
def dD.size(f:dD):Int:=f.x*f.y*f.z
def dD.valid(f:dD):Bool:=bC f.x 1 8 && (bC f.y 1 8 && (bC f.z 1 8 && (decide (f.size<=64) && bC f.k 1 6)))
theorem dD.nI{f:dD}:f.valid=true↔(1<=f.x/\f.x<=8)/\(1<=f.y/\f.y<=8)/\(1<=f.z/\f.z<=8)/\f.size<=64/\(1<=f.k/\f.k<=6):=by
 simp[dD.valid,bC,and_assoc]
def dD.shape(f:dD):Int:=if f.valid then 0 else 1
def letter(c:UInt8):Bool:=decide (97<=c.toNat) && decide (c.toNat<=122)
def digit(c:UInt8):Bool:=decide (48<=c.toNat) && decide (c.toNat<=57)
def oG(i:Nat):List UInt8->Bool
 |[]=>true
 |c::l=>(letter c || (decide (i≠0) && digit c)) && oG (i+1) l
def named(s:List UInt8):Bool:=oG 0 s && bC s.length 1 16
def dD.model(f:dD)(m:b8):Int:=if named m.name then(if(m.du.length:Int)=f.k*f.size/\dh m.du (λn=>bC n (-100000) 100000)=true then 0 else 1)else 5
def dD.each(f:dD)(met:List (List UInt8)):List b8->Int
 |[]=>0
 |m::l=>if f.model m=0 then(if met.contains m.name then 6 else f.each (met++[m.name]) l)else f.model m
def dD.ai(f:dD)(l:List b8):Int:=if bC l.length 1 40 then f.each [] l else 3
def fV(f:dD)(l:List b8):Int:=if f.valid then f.ai l else 1
def Rw.alone(r:Rw):Bool:=bC r.t 0 400 && (bC r.p 1 10000 && (bC r.l 0 4000 && (bC r.s 0 2000 && (decide (r.l<r.v) && decide (r.v<=4000)))))
def Rw.wB(o r:Rw):Bool := !(decide (r.t<=o.t) || (decide (r.p<=o.p) || (decide (r.l<=o.l) || decide (r.s<o.s))))
def uo:List Rw->Bool
 |o::r::l=>o.wB r && uo (r::l)
 |_=>true
def fK(t:List Rw):Bool:=bC t.length 2 20 && (dh t Rw.alone && uo t)
def bG.ok(size:Int)(used:List Int)(w:bG):Bool:=bC w.b 0 (size-1) && (!used.contains w.b && (bC w.h 0 3000 && bC w.m 0 1000000))
def od(size:Int)(used:List Int):List bG->Bool
 |[]=>true
 |w::l=>w.ok size used && od size (used++[w.b]) l
def bU.size(b:bU):Int:=b.f.size
def bU.ok1(b:bU):Bool:=b.f.valid && (decide (4<=b.f.k) && (fK b.dP && (bC b.cC 1 100000 && (bC b.lift 0 1000 && (bC b.deep 0 3000 && decide (b.av.length<=8))))))
def bU.valid(b:bU):Bool:=b.ok1 && od b.size [] b.av
def bU.n(b:bU):Nat:=b.size.toNat
def wx(b:bU)(m:b8)(k:Nat):List Int:=(m.du.drop (k*b.n)).take b.n
def jK(b:bU)(m:b8)(k:Nat)(i:Nat):Int:=(m.du[k*b.n+i]?).getD 0
def hold(b:bU)(m:b8)(i:Nat):Int:=jK b m 0 i
def zz(b:bU)(m:b8)(i:Nat):Int:=jK b m 1 i
def Hs(b:bU)(m:b8)(i:Nat):Int:=jK b m 2 i
def feed(b:bU)(m:b8)(i:Nat):Int:=jK b m 3 i
def fits(b:bU)(m:b8):Bool:=decide (fV b.f [m]=0) && (dh (wx b m 0) (λn=>bC n 1000 100000) && (dh (wx b m 1) (λn=>bC n 0 1000) && (dh (wx b m 2) (λn=>bC n 0 3000) && dh (wx b m 3) (λn=>bC n 0 1000))))
def Bd(b:bU)(m:b8):Bool:=b.valid && fits b m
def bY(b:bU)(m:b8):List aG:=(List.range b.n).map λi=>⟨hold b m i,hold b m i*Hs b m i,0⟩
def aG.valid(x:aG):Bool:=bC x.m 1 1000000 && (bC x.h 0 10000000000 && bC x.k 0 1000000000000)
def qI(b:bU)(s:List aG):Bool:=decide ((s.length:Int)=b.size) && dh s aG.valid
def weight(b:bU)(i:Nat):Int:=((i / (b.f.x.toNat*b.f.y.toNat):Nat):Int)*b.lift
def down(n d:Int):Int:=n / d
def aQ(s:List aG)(i:Nat):aG:=(s[i]?).getD ⟨0,0,0⟩
def ic(x:aG)(out:Int)(r:Rw):Int:=if r.l*x.m<=x.h then max out r.p else out
def dt(b:bU)(m:b8)(s:List aG)(i:Nat):Int :=
 b.dP.foldl (ic (aQ s i)) (max 0 (weight b i+down (b.cC*((aQ s i).m-hold b m i)) (hold b m i)))
def ba(b:bU)(m:b8)(s:List aG):List Int:=(List.range s.length).map (dt b m s)
def vH(b:bU)(i:Nat):List (Nat×Nat) :=
 (if(i+1)%b.f.x.toNat≠0 then [(i,i+1)]else [])++((if i / b.f.x.toNat%b.f.y.toNat≠b.f.y.toNat-1 then [(i,i+b.f.x.toNat)]else [])++(if i+b.f.x.toNat*b.f.y.toNat<b.n then [(i,i+b.f.x.toNat*b.f.y.toNat)]else []))
def y7(b:bU):List (Nat×Nat):=fM (List.range b.n) (vH b)
def aG.out(x:aG)(m:Int):aG:=⟨m,(x.h*m).tdiv x.m,(x.k*m).tdiv x.m⟩
def aG.move(x o:aG)(sign:Int):aG:=⟨x.m+sign*o.m,x.h+sign*o.h,x.k+sign*o.k⟩
def Ci(b:bU)(m:b8)(s:List aG)(p:List Int)(l:Nat×Nat):Option ((Nat×Nat)×aG) :=
 let d:=(p[l.1]?).getD 0-weight b l.1-(p[l.2]?).getD 0+weight b l.2
 let l':=if d<0 then(l.2,l.1)else l
 let d':=if d<0 then -d else d
 let q:=min ((min (zz b m l'.1) (zz b m l'.2)*d').tdiv 1000) ((aQ s l'.1).m.tdiv 8)
 if 0<q then some (l',(aQ s l'.1).out q)else none
def RM(es:List ((Nat×Nat)×aG))(k:Nat×Nat)(o:aG):List ((Nat×Nat)×aG) :=
 match es.findIdx? (λe=>e.1 == k)with
 |some j=>es.set j (k,o)
 |none=>es++[(k,o)]
def kQ(b:bU)(m:b8)(s:List aG)(p:List Int)(es:List ((Nat×Nat)×aG))(l:Nat×Nat):List ((Nat×Nat)×aG) :=
 match Ci b m s p l with
 |some e=>RM es e.1 e.2
 |none=>es
def tf(b:bU)(m:b8)(s:List aG):List ((Nat×Nat)×aG):=(y7 b).foldl (kQ b m s (ba b m s)) []
def ck(s:List aG)(i:Nat)(o:aG)(sign:Int):List aG:=s.set i ((aQ s i).move o sign)
def cz(s:List aG)(e:(Nat×Nat)×aG):List aG:=ck (ck s e.1.1 e.2 (-1)) e.1.2 e.2 1
def bG.given(w:bG)(rate:Int):aG:=⟨-rate,-rate*w.h,-rate*w.m⟩
def ie(s:List aG)(w:bG)(rate:Int):aG:=if rate<0 then⟨0,0,0⟩else(aQ s w.b.toNat).out (min rate ((aQ s w.b.toNat).m.tdiv 8))
def mq(s next:List aG)(w:bG)(rate:Int):List aG:=if rate<0 then ck next w.b.toNat (w.given rate) 1 else ck next w.b.toNat (ie s w rate) (-1)
def IM(b:bU)(m:b8)(i:Nat):aG:=⟨feed b m i,feed b m i*b.deep,0⟩
def mI(b:bU)(m:b8)(s:List aG)(aF:List Int):List aG :=
 let s1:=(tf b m s).foldl cz s
 let s2:=(b.av.zip aF).foldl (λn wr=>mq s n wr.1 wr.2) s1
 (List.range s.length).foldl (λn i=>ck n i (IM b m i) 1) s2
def bJ(b:bU)(s:List aG)(aF:List Int):List aG:=(b.av.zip aF).map λwr=>ie s wr.1 wr.2
def tick(b:bU)(m:b8)(s:List aG)(aF:List Int):Option (List aG×List aG) :=
 if qI b (mI b m s aF)then some (mI b m s aF,bJ b s aF)else none
def pS(b:bU)(l:List Int):Int:=if l.length=b.av.length then(if dh l (λn=>bC n (-100000) 100000)then 0 else 2)else 1
def bT{α:Type}(f:α->Int):List α->Int
 |[]=>0
 |x::l=>if f x=0 then bT f l else f x
def tg(b:bU)(aw:List (List Int)):Int:=if 200<aw.length then 3 else bT (pS b) aw
def oc(b:bU)(m:b8):List (List aG)->List (List aG)->List aG->List (List Int)->Option (List (List aG)×List (List aG))
 |ss,ys,_,[]=>some (ss,ys)
 |ss,ys,s,r::aw =>
  match tick b m s r with
  |some (s',y)=>oc b m (ss++[s']) (ys++[y]) s' aw
  |none=>none
def run(b:bU)(m:b8)(aw:List (List Int)):Option (List (List aG)×List (List aG)):=oc b m [bY b m] [] (bY b m) aw
end Go.Rock
namespace Go.Proofs.YtpapbbojmclkgaaGreatDoor
open Go Go.Abs Go.Rock
variable {J:SK}
theorem Tl{a b A B:Int}(h1:1<=a)(h2:a<=A)(h3:1<=b)(h4:b<=B):1<=a*b/\a*b<=A*B :=
 ⟨by have:=Int.mul_pos (a:=a) (b:=b) (by omega) (by omega);omega,cn h2 h4 (by omega) (by omega)⟩
theorem iS{a b A B:Int}(h1:0<=a)(h2:a<=A)(h3:0<=b)(h4:b<=B):0<=a*b/\a*b<=A*B :=
 ⟨bz h1 h3,cn h2 h4 h3 (by omega)⟩
theorem dD.sz{f:dD}(hx:1<=f.x/\f.x<=8)(hy:1<=f.y/\f.y<=8)(hz:1<=f.z/\f.z<=8):(1<=f.x*f.y/\f.x*f.y<=64)/\(1<=f.x*f.y*f.z/\f.x*f.y*f.z<=512):=by
 have h1:=Tl hx.1 hx.2 hy.1 hy.2;have h2:=Tl h1.1 h1.2 hz.1 hz.2;exact⟨by omega,by omega⟩
theorem dQ{a b c:Int}:Cl 283 [iI a,iI b,iI c] (.bool (bC a b c)) J:=by
 refine au ?_;by_cases h:b<=a<;>simp[h,bC]
theorem iU{a b c:Int}:Cl 296 [iI a,iI b,iI c] (.bool (bC a b c)) J:=by
 refine au ?_;by_cases h:b<=a<;>simp[h,bC]
theorem jN{a b c:Int}:Cl 280 [iI a,iI b,iI c] (.bool (bC a b c)) J:=by
 refine au ?_;by_cases h:b<=a<;>simp[h,bC]
theorem JA{f:dD}(hx:1<=f.x/\f.x<=8)(hy:1<=f.y/\f.y<=8)(hz:1<=f.z/\f.z<=8):Cl 293 [.agg (fL f)] (iI f.size) J:=by
 refine au ?_;obtain⟨h1,h2⟩:=dD.sz hx hy hz;have w1:=cb (n:=f.x*f.y);have w2:=cb (n:=f.x*f.y*f.z);simp[w1,w2,dD.size]
theorem VJ{f:dD}:Cl 279 [.agg (fL f)] (.bool f.valid) J:=by
 refine au ?_;cases hc1:bC f.x 1 8
 .simp[iU,dD.valid,hc1]
 cases hc2:bC f.y 1 8
 .simp[iU,dD.valid,hc1,hc2]
 cases hc3:bC f.z 1 8
 .simp[iU,dD.valid,hc1,hc2,hc3]
 have hb:=λJ=>JA (J:=J) (f:=f) (aR.1 hc1) (aR.1 hc2) (aR.1 hc3)
 by_cases hc4:f.size<=64
 .simp[iU,dD.valid,hc1,hc2,hc3,hc4,hb]
 .simp[iU,dD.valid,hc1,hc2,hc3,hc4,hb]
theorem Jd{f:dD}:Cl 232 [.agg (fL f)] (iI f.shape) J:=by
 refine au ?_;have hb:=λJ=>VJ (J:=J) (f:=f)
 cases hc:f.valid<;>rw[hc]at hb<;>simp[hb,dD.shape,hc]
theorem jl{f:dD}:Cl 199 [.agg (fL f)] (iI f.shape) J:=by
 refine au ?_;have hb:=λJ=>Jd (J:=J) (f:=f)
 simp[hb]
theorem SF{s:List UInt8}(hl:s.length<=1000000000):∀(m i:Nat),i+m=s.length ->
  WL T [0,6,7] false mZ [(0,.str s),(6,iI s.length),(7,iI i)] J
   (λx e J'=>J'=J/\if oG i (s.drop i)then x=.exit 0/\get e 0=.str s else x=.ret/\get e 2=.bool false)
 |0,i,hi=>by
  refine az mZ.eq_1 ?_;have h1:¬i<s.length:=by omega
  have h2:s.drop i=[]:=an (by omega);simp[h1,h2,oG]
 |m+1,i,hi=>by
  refine az mZ.eq_1 ?_;have h1:i<s.length:=by omega
  obtain⟨c,hc⟩:=gE h1;have h4:=cg h1;have h5:=bw hc;have ih:=SF hl m (i+1) (by omega);rw[h5,oG];have hd:fS .Lz [.str s,iI (i:Int)]=some (.int .u8 c.toNat):=by simp[fS,hc]
  by_cases hc1:97<=c.toNat
  .by_cases hc2:c.toNat<=122
   .have hlet:letter c=true:=by simp[letter,hc1,hc2]
    simp[h1,h4,hd,hlet,show(97:Int)<=(c.toNat:Int)by omega,show(c.toNat:Int)<=122 by omega];exact WL.to ih (by simp) rfl λx e J' hh=>by simpa[hlet]using hh
   .have hlet:letter c=false:=by simp[letter,hc2]
    have hdig:digit c=false:=by simp[digit];omega
    by_cases hi0:i=0
    .subst hi0;have hd0:fS .Lz [.str s,iI 0]=some (.int .u8 c.toNat):=by simpa using hd
     have h1':0<s.length:=h1;simp[h1',hd0,hlet,hdig,show(97:Int)<=(c.toNat:Int)by omega,show ¬(c.toNat:Int)<=122 by omega]
    .simp[h1,hd,hlet,hdig,hi0,show(97:Int)<=(c.toNat:Int)by omega,show ¬(c.toNat:Int)<=122 by omega,show ¬(c.toNat:Int)<48 by omega,show(57:Int)<(c.toNat:Int)by omega]
  .have hlet:letter c=false:=by simp[letter,hc1]
   by_cases hi0:i=0
   .subst hi0;have hd0:fS .Lz [.str s,iI 0]=some (.int .u8 c.toNat):=by simpa using hd
    have h1':0<s.length:=h1;simp[h1',hd0,hlet,show ¬(97:Int)<=(c.toNat:Int)by omega]
   .by_cases hc3:c.toNat<48
    .have hdig:digit c=false:=by simp[digit];omega
     simp[h1,hd,hlet,hdig,hi0,show ¬(97:Int)<=(c.toNat:Int)by omega,show(c.toNat:Int)<48 by omega]
    .by_cases hc4:57<c.toNat
     .have hdig:digit c=false:=by simp[digit];omega
      simp[h1,hd,hlet,hdig,hi0,show ¬(97:Int)<=(c.toNat:Int)by omega,show ¬(c.toNat:Int)<48 by omega,show(57:Int)<(c.toNat:Int)by omega]
     .have hdig:digit c=true:=by simp[digit];omega
      simp[h1,h4,hd,hlet,hdig,hi0,show ¬(97:Int)<=(c.toNat:Int)by omega,show ¬(c.toNat:Int)<48 by omega,show ¬(57:Int)<(c.toNat:Int)by omega];exact WL.to ih (by simp) rfl λx e J' hh=>by simpa[hlet,hdig,hi0]using hh
theorem Jc{s:List UInt8}(hl:s.length<=1000000000):Cl 292 [.str s] (.bool (named s)) J:=by
 refine au ?_;have hp:fS .Qq [.str s]=some (iI s.length):=rfl;simp[hp];refine WL.to (SF (J:=[]::J) hl s.length 0 (by omega)) (by simp) rfl ?_;rintro x e J' ⟨rfl,h⟩;simp only[aB]at h;unfold named;cases hc:oG 0 s
 .simp[hc]at h;simp[h]
 .simp[hc]at h;simp[h,hp,iU]
theorem Zf{a:Int}:Cl 295 [iI a] (.bool (bC a (-100000) 100000)) J:=by
 refine au ?_;simp[iU]
theorem T3{l:List Int}{p:Int->Bool}{fv:D}(hl:l.length<=1000000000)(ht:oS T fv (λn=>iI n) p l)(hc:fv.cells=some [fv]):
  Cl 294 [lF l aP,fv] (.bool (dh l p)) J :=
 B7 (Np .i64) (f:=294) (g:=329) (h:=226) (i:=273) (l:=l) (p:=p) (fv:=fv) rfl rfl rfl rfl (by omega) ht hc
theorem BK{f:dD}(hf:f.valid=true):(1<=f.size/\f.size<=64)/\1<=f.k*f.size/\f.k*f.size<=384:=by
 obtain⟨h1,h2,h3,h4,h5⟩:=dD.nI.1 hf;obtain⟨_,h6⟩:=dD.sz h1 h2 h3;have h7:=Tl h5.1 h5.2 (b:=f.size) (B:=64) (by unfold dD.size;omega) h4;exact⟨⟨by unfold dD.size;omega,h4⟩,by omega,by omega⟩
theorem Sl{f:dD}{m:b8}(hf:f.valid=true)(hn:m.name.length<=1000000000)(hl:m.du.length<=1000000000):Cl 241 [.agg (fL f),.agg (mL m)] (iI (f.model m)) J:=by
 refine au ?_;obtain⟨h1,h2,h3,h4,h5⟩:=dD.nI.1 hf;obtain⟨h6,h7⟩:=BK hf;have w1:=cb (n:=f.k*f.size);have hb:=λJ=>JA (J:=J) (f:=f) h1 h2 h3
 have ha:=λJ=>T3 (J:=J) (l:=m.du) (p:=λn=>bC n (-100000) 100000) (fv:=.fn 295 [] []) hl (oS.fn λx _ J=>by simpa using Zf) rfl
 cases hc1:named m.name
 .simp[Jc hn,hc1,dD.model]
 .by_cases hc2:(m.du.length:Int)=f.k*f.size
  .cases hc3:dh m.du (λn=>bC n (-100000) 100000)<;>
    simp[Jc hn,hc1,hc2,hc3,dD.model,hb,ha,w1]
  .simp[Jc hn,hc1,hc2,dD.model,hb,w1]
def EZ(met:List (List UInt8)):List D:=met.map λn => .cN [.str n,.bool true]
theorem HK{k:List UInt8}:∀{met:List (List UInt8)},∃r,pA none (.str k) (EZ met)=some r/\(met.contains k=true->∃j,r=some (j,.bool true))/\(met.contains k=false->r=none)
 |[]=>⟨none,rfl,by simp,by simp⟩
 |n::met=>by
  obtain⟨r,h1,h2,h3⟩:=HK (k:=k) (met:=met);simp only[EZ,aM]at h1 ⊢;by_cases hk:k=n
  .subst hk;exact⟨some (0,.bool true),by simp[pA,sT],λ_=>⟨0,rfl⟩,by simp⟩
  .have hb:(k == n)=false:=by simpa using hk
   refine⟨r.map λy=>(y.1+1,y.2),by simp[pA,sT,hb,h1],?_,?_⟩
   .intro hc;have:met.contains k=true:=by simpa[hk]using hc
    obtain⟨j,rfl⟩:=h2 this;exact⟨j+1,rfl⟩
   .intro hc;have:met.contains k=false:=by simp at hc ⊢;exact hc.2
    rw[h3 this];rfl
theorem abV{S:SK}{l i:Nat}{met:List (List UInt8)}{k:List UInt8}(h:cells? S l i 0=some (EZ met)):Dd S (.get none (.bool false) false) [.jS l i,.str k]=some (.bool (met.contains k),S):=by
 obtain⟨r,h1,h2,h3⟩:=HK (k:=k) (met:=met);simp only[Dd,Dh,h,aZ,h1];cases hc:met.contains k
 .rw[h3 hc];simp[sT]
 .obtain⟨j,rfl⟩:=h2 hc;simp[sT]
theorem abW{S:SK}{l i:Nat}{met:List (List UInt8)}{k:List UInt8}(h:cells? S l i 0=some (EZ met))(hn:met.contains k=false):
  Dd S (.put none) [.jS l i,.str k,.bool true]=some (.undef,bj S l i (.cells 0 (EZ (met++[k])))):=by
 obtain⟨r,h1,h2,h3⟩:=HK (k:=k) (met:=met);simp only[Dd,Dh,h,aZ,h1];rw[h3 hn];simp[sT,EZ,D.clean]
theorem ai7{f:dD}{m:b8}(hf:f.valid=true)(hn:m.name.length<=1000000000)(hl:m.du.length<=1000000000):
  Cl 365 [.agg (mL m),.bg (fL f)] (.cN [.str m.name,iI (f.model m)]) J:=by
 refine au ?_;simp[Sl hf hn hl]
theorem Wm{f:dD}{l:List b8}(hf:f.valid=true)(hs:∀m∈l,m.name.length<=1000000000/\m.du.length<=1000000000)(hl:l.length<=1000000000):∀(k i:Nat) (met:List (List UInt8)),i+k=l.length ->
  WL T [1,5,11,12,13] false ed [(1,.fn 365 [] [.bg (fL f)]),(5,.jS J.length 0),(11,lF l b8.enc),(12,iI l.length),(13,iI i)] ([.cells 0 (EZ met)]::J)
   (λx e J'=>∃s,J'=s::J/\if f.each met (l.drop i)=0 then x=.exit 0 else x=.ret/\get e 4=iI (f.each met (l.drop i)))
 |0,i,met,hi=>by
  refine az ed.eq_1 ?_;have h1:¬i<l.length:=by omega
  have h2:l.drop i=[]:=an (by omega);simp[h1,h2,dD.each]
 |k+1,i,met,hi=>by
  refine az ed.eq_1 ?_;have h1:i<l.length:=by omega
  obtain⟨m,hm⟩:=gE h1;have h2:=bd (f:=b8.enc) (w:=2) (λ_=>rfl) hm;have h4:=cg h1;have h5:=bw hm;obtain⟨hs1,hs2⟩:=hs m (aj hm);have hC:=λJ=>ai7 (J:=J) hf hs1 hs2
  rw[h5,dD.each];by_cases hc1:f.model m=0
  .have hg:=abV (S:=[.cells 0 (EZ met)]::J) (l:=J.length) (i:=0) (met:=met) (k:=m.name) (by simp);cases hc2:met.contains m.name
   .rw[hc2]at hg;have hp:=abW (S:=[.cells 0 (EZ met)]::J) (l:=J.length) (i:=0) (met:=met) (k:=m.name) (by simp) hc2;have ih:=Wm hf hs hl k (i+1) (met++[m.name]) (by omega);simp at hp;have hc3:¬m.name∈met:=by simpa using hc2
    simp[h1,h2,h4,hC,hc1,hg,hp];exact WL.to ih (by simp) (by simp) λx e J' hh=>by simpa[hc1]using hh
   .rw[hc2]at hg;have hc3:m.name∈met:=by simpa using hc2
    simp[h1,h2,hC,hc1,hg]
  .simp[h1,h2,hC,hc1]
theorem acG{f:dD}{l:List b8}(hf:f.valid=true)(hs:∀m∈l,m.name.length<=1000000000/\m.du.length<=1000000000)(hl:l.length<=1000000000):
  Cl 364 [lF l b8.enc,.fn 365 [] [.bg (fL f)]] (iI (f.each [] l)) J:=by
 refine au ?_;have hm:Dd ([]::J) .make []=some (.jS J.length 0,[.cells 0 (EZ [])]::J):=by simp[Dd,EZ]
 simp[hm];refine WL.to (Wm (J:=J) hf hs hl l.length 0 [] (by omega)) (by simp) (by simp) ?_;rintro x e J' ⟨s,rfl,h⟩;simp only[aB]at h;by_cases hc:f.each [] l=0
 .rw[if_pos hc]at h;subst h;simp[hc]
 .rw[if_neg hc]at h;obtain⟨rfl,h⟩:=h;simp[h]
theorem VQ{f:dD}{l:List b8}(hf:f.valid=true)(hs:∀m∈l,m.name.length<=1000000000/\m.du.length<=1000000000)(hl:l.length<=1000000000):
  Cl 340 [.agg (fL f),lF l b8.enc] (iI (f.ai l)) J:=by
 refine au ?_;cases hc:bC l.length 1 40
 .simp[iU,hc,dD.ai]
 .simp[iU,hc,dD.ai,acG hf hs hl]
theorem Jv{f:dD}{l:List b8}(hf:f.valid=true)(hs:∀m∈l,m.name.length<=1000000000/\m.du.length<=1000000000)(hl:l.length<=1000000000):
  Cl 339 [.bg (fL f),.bg [lF l b8.enc]] (iI (f.ai l)) J:=by
 refine au ?_;simp[VQ hf hs hl]
theorem M0{fs:List D}{es:List Int}(hlen:fs.length=es.length)(hl:fs.length<=100)(hfs:∀d∈fs,d.strip=d/\d.calm=d/\QH false 1 (some [d])=some d)
  (hcall:∀(i:Nat) d n,fs[i]?=some d->es[i]?=some n->(∀j,j<i->es[j]?=some 0)->∀J,og (dp T) false d [] J=some (iI n,J)):
  Cl 237 [.bV fs.length fs] (iI (bT id es)) J:=by
 have loop:∀(k i:Nat) (J:SK),i+k=fs.length->(∀j,j<i->es[j]?=some 0) ->
   WL T [6,7,8] false mY [(6,.bV fs.length fs),(7,iI fs.length),(8,iI i)] J
    (λx e J'=>J'=J/\if bT id (es.drop i)=0 then x=.exit 0 else x=.ret/\get e 2=iI (bT id (es.drop i))):=by
  intro k;induction k with
  |zero =>
   intro i J hi h0;refine az mY.eq_1 ?_;have h1:¬i<fs.length:=by omega
   have h2:es.drop i=[]:=an (by omega);simp[h1,h2,bT]
  |succ k ih =>
   intro i J hi h0;refine az mY.eq_1 ?_;have h1:i<fs.length:=by omega
   obtain⟨d,hd⟩:=gE h1;obtain⟨n,hn⟩:∃n,es[i]?=some n:=gE (by omega);obtain⟨g1,g2,g3⟩:=hfs d (aj hd);have h2:=bd (f:=λd:D=>[d]) (w:=1) (λ_=>rfl) (l:=fs) hd;rw[show(fM fs λd=>[d])=fs from by simp[fM]]at h2;have h4:=cg h1;have h5:=bw hn;have hc:=hcall i d n hd hn h0;simp only[bX]at h2;rw[h5,bT];by_cases hz:n=0
   .subst hz;have ih':=ih (i+1) J (by omega) (λj hj=>by
     by_cases hji:j=i
     .subst hji;exact hn
     .exact h0 j (by omega))
    simp[h1,h2,h4,g1,g2,hc];exact WL.to ih' (by simp) rfl λx e J' hh=>by simpa using hh
   .simp[h1,h2,g1,g2,hc,hz]
 refine au ?_;simp;refine WL.to (loop fs.length 0 ([]::J) (by omega) (by simp)) (by simp) rfl ?_;rintro x e J' ⟨rfl,h⟩;simp only[aB]at h;by_cases hc:bT id es=0
 .rw[if_pos hc]at h;subst h;simp[hc]
 .rw[if_neg hc]at h;obtain⟨rfl,h⟩:=h;simp[h]
theorem E2{f:dD}{l:List b8}(hs:∀m∈l,m.name.length<=1000000000/\m.du.length<=1000000000)(hl:l.length<=1000000000):
  Cl 304 [.agg (fL f),lF l b8.enc] (iI (fV f l)) J:=by
 refine au ?_;have hC:=λJ=>M0 (J:=J) (fs:=[.fn 232 [.agg (fL f)] [],.fn 339 [] [.bg (fL f),.bg [lF l b8.enc]]]) (es:=[f.shape,f.ai l]) rfl (by simp) (by simp) (by
  intro i d n hd hn h0 J;match i with
  |0 =>
   simp at hd hn;subst hd hn;simp[Jd]
  |1 =>
   simp at hd hn;subst hd hn;have h1:f.valid=true:=by
    have:=h0 0 (by omega);simp[dD.shape]at this;exact this
   simp[Jv h1 hs hl]
  |i+2=>simp at hd)
 simp at hC;have e1:bT id [f.shape,f.ai l]=fV f l:=by
  simp only[bT,id,fV,dD.shape];by_cases h:f.valid=true
  .by_cases h2:f.ai l=0<;>simp[h,h2]
  .simp[h]
 rw[e1]at hC;simp[hC]
end Go.Proofs.YtpapbbojmclkgaaGreatDoor
namespace Go.Abs
open Go
variable {T:CT}
def oC(q:Nat->Bool)(i:Nat):Nat->Bool×Nat
 |0=>(false,i)
 |m+1=>if q i then(true,i+1)else oC q (i+1) m
theorem ER{q:Nat->Bool}:∀{m i:Nat},(oC q i m).1=false↔∀j,j<m->q (i+j)=false
 |0,i=>by simp[oC]
 |m+1,i=>by
  simp only[oC];by_cases h:q i=true
  .simp only[h,if_true,Bool.true_eq_false,false_iff];intro hh;have:=hh 0 (by omega);simp[h]at this
  .have h':q i=false:=by simpa using h
   simp only[h',aD,if_false];rw[ER (m:=m) (i:=i+1)];constructor
   .intro hh j hj;cases j with
    |zero=>simpa using h'
    |succ j=>have:=hh j (by omega);rwa[show i+1+j=i+(j+1)from by omega]at this
   .intro hh j hj;have:=hh (j+1) (by omega);rwa[show i+(j+1)=i+1+j from by omega]at this
section
variable {α:Type} (E:ZK α) {fv:D} {l:List α} {q:Nat->Bool} {S:Nat->SK}
theorem Mp(hl:l.length<=9223372036854775807)(h1:fv.strip=fv)(h2:fv.calm=fv)(ht:∀i x,l[i]?=some x->og (dp T) false fv [E.val x] (S i)=some (.bool (q i),S (i+1))):∀(m i:Nat),i+m=l.length ->
  WL T [0,1,7,8] false (Kt E.ag E.w) [(0,.bV l.length (fM l E.enc)),(1,fv),(7,iI l.length),(8,iI i)] (S i)
   (λx e J'=>J'=S (oC q i m).2/\if(oC q i m).1=true then x=.ret/\∃j:Nat,get e 4=iI j else x=.exit 0)
 |0,i,hi=>by
  refine az (Kt.eq_1 _ _) ?_;have:¬i<l.length:=by omega
  simp[this,h2,oC]
 |m+1,i,hi=>by
  refine az (Kt.eq_1 _ _) ?_;have h4:i<l.length:=by omega
  obtain⟨x,hx⟩:=gE h4;have h5:=bd (f:=E.enc) E.len hx;have h6:=ht i x hx;have h7:=cg h4 hl;have ih:=Mp hl h1 h2 ht m (i+1) (by omega);cases hq:q i
  .rw[hq]at h6;simp[h4,h1,h2,h5,h6,h7,E.load,E.strip];refine WL.mono (by simpa using ih) ?_;rintro x e J' ⟨h9,h10⟩;simp only[oC,hq,aD,if_false];exact⟨h9,h10⟩
  .rw[hq]at h6;simp[h4,h1,h2,h5,h6,E.load,E.strip,oC,hq];exact⟨i,rfl⟩
theorem UI{f:Nat}(hT:T f=some (uV E.ag E.w))(hl:l.length<=9223372036854775807)(h1:fv.strip=fv)(h2:fv.calm=fv)(hlen:∀i,(S i).length=(S 0).length)
  (ht:∀i x,l[i]?=some x->og (dp T) false fv [E.val x] ([]::S i)=some (.bool (q i),[]::S (i+1))):
  ∃n:Int,dp T (.call false f [.bV l.length (fM l E.enc),fv] (S 0))=some (.val (iI n) (S (oC q 0 l.length).2))/\(0<=n↔(oC q 0 l.length).1=true):=by
 have h:=Mp E (S:=λi=>[]::S i) hl h1 h2 ht l.length 0 (by omega);cases hq:(oC q 0 l.length).1
 .refine⟨-1,?_,by simp⟩;refine fx hT (uV.eq_1 _ _) rfl (hlen _) ?_;simp[h2];refine WL.mono (by simpa using h) ?_;rintro x e J' ⟨rfl,h10⟩;rw[hq]at h10;simp only[aD,if_false]at h10;subst h10;simp
 .obtain⟨x,e,J',hw,rfl,h10⟩:=h;rw[hq]at h10;simp only[if_true]at h10;obtain⟨rfl,j,hj⟩:=h10;refine⟨j,?_,by simp⟩;refine fx hT (uV.eq_1 _ _) rfl (hlen _) ?_;simp[h2];refine⟨_,_,_,by simpa using hw,?_⟩;simp[hj]
theorem Nk{f i:Nat}(hT:T f=some (iW i))(hi:T i=some (uV E.ag E.w))(hl:l.length<=9223372036854775807)(h1:fv.strip=fv)(h2:fv.calm=fv)(hlen:∀i,(S i).length=(S 0).length)
  (ht:∀i x,l[i]?=some x->og (dp T) false fv [E.val x] ([]::[]::S i)=some (.bool (q i),[]::[]::S (i+1))):
  dp T (.call false f [.bV l.length (fM l E.enc),fv] (S 0))=some (.val (.bool (oC q 0 l.length).1) (S (oC q 0 l.length).2)):=by
 obtain⟨n,h,hn⟩:=UI E (S:=λi=>[]::S i) hi hl h1 h2 (λi=>by simp[hlen i]) ht;refine fx hT (iW.eq_1 _) rfl (hlen _) ?_;have h4:decide (0<=n)=(oC q 0 l.length).1:=by
  cases hq:(oC q 0 l.length).1
  .rw[hq]at hn;simp at hn;exact decide_eq_false (by omega)
  .exact decide_eq_true (hn.2 hq)
 simp[h1,h2,h,h4]
theorem WG{g:Nat}{x:α}{b:Bool}{J J':SK}(hT:T g=some (AB E.ag E.w))(hlen:J'.length=J.length)(h1:fv.strip=fv)(h2:fv.calm=fv)(ht:og (dp T) false fv [E.val x] ([]::J)=some (.bool b,[]::J')):
  og (dp T) false (.fn g [] [.bg [fv]]) [E.val x] J=some (.bool (!b),J'):=by
 rw[pf];have hc:=E.cells x;have hl:=E.load x;have hs:=E.strip x;have hcm:=E.calm x;have key:dp T (.call false g ([]++[E.val x]++[.bg [fv]]) J)=some (.val (.bool (!b)) J'):=by
  generalize E.ag=ag at *
  cases ag with
  |true =>
   refine fx hT (AB.eq_1 _) rfl hlen ?_;simp[h1,ht,hc,hl,hs]
  |false =>
   refine fx hT (AB.eq_2 _) rfl hlen ?_;simp[h1,ht,hs,hcm]
 rw[key];rfl
theorem Nb{f g h i:Nat}{p:Nat->Bool}(hf:T f=some (Gj g h))(hg:T g=some (AB E.ag E.w))(hh:T h=some (iW i))(hi:T i=some (uV E.ag E.w))
  (hl:l.length<=9223372036854775807) (h1:fv.strip=fv) (h2:fv.calm=fv) (hcl:fv.cells=some [fv]) (hlen:∀i,(S i).length=(S 0).length)
  (ht:∀i x,l[i]?=some x->og (dp T) false fv [E.val x] ([]::[]::[]::[]::S i)=some (.bool (p i),[]::[]::[]::[]::S (i+1))):
  dp T (.call false f [.bV l.length (fM l E.enc),fv] (S 0))=some (.val (.bool !(oC (λi => !p i) 0 l.length).1) (S (oC (λi => !p i) 0 l.length).2)):=by
 have hc:=Nk E (S:=λi=>[]::S i) (fv:=.fn g [] [.bg [fv]]) (q:=λi => !p i) hh hi hl rfl rfl (λi=>by simp[hlen i]) (λi x hx=>WG E hg (by simp[hlen i,hlen (i+1)]) h1 h2 (ht i x hx));refine fx hf (Gj.eq_1 _ _) rfl (hlen _) ?_;simp[h1,hc,hcl]
theorem ZU{f g h i:Nat}{p:α->Bool}{J:SK}(hf:T f=some (Gj g h))(hg:T g=some (AB E.ag E.w))(hh:T h=some (iW i))(hi:T i=some (uV E.ag E.w))
  (hl:l.length<=9223372036854775807) (h1:fv.strip=fv) (h2:fv.calm=fv) (hcl:fv.cells=some [fv])
  (ht:∀x∈l,og (dp T) false fv [E.val x] ([]::[]::[]::[]::J)=some (.bool (p x),[]::[]::[]::[]::J)):
  dp T (.call false f [.bV l.length (fM l E.enc),fv] J)=some (.val (.bool (dh l p)) J):=by
 have h0:=Nb E (T:=T) (S:=λ_=>J) (fv:=fv) (l:=l) (p:=λi=>match l[i]? with | some x=>p x | none=>true) hf hg hh hi hl h1 h2 hcl (λ_=>rfl) (λi x hx=>by
  rw[ht x (aj hx)];simp[hx])
 have he:(!(oC (λi => !(match l[i]? with | some x=>p x | none=>true)) 0 l.length).1)=dh l p:=by
  have h2:=ER (q:=λi => !(match l[i]? with | some x=>p x | none=>true)) (m:=l.length) (i:=0);cases hw:dh l p
  .rw[Bool.not_eq_false'];cases hs:(oC (λi => !(match l[i]? with | some x=>p x | none=>true)) 0 l.length).1
   .have h3:=h2.1 hs;have h4:dh l p=true:=eQ.2 λx hx=>by
     obtain⟨j,hj⟩:=fU hx;have:=h3 j (aC.1 hj).1;simpa[hj]using this
    rw[hw]at h4;cases h4
   .rfl
  .rw[dT];refine h2.2 λj hj=>?_
   have hx:=aJ hj;have:=eQ.1 hw _ (List.getElem_mem hj);simp[hx,this]
 rw[he]at h0;exact h0
end
end Go.Abs
namespace Go.Proofs.YtpapbbojmclkgaaGreatDoor
open Go Go.Abs Go.Rock
variable {J:SK}
theorem Y7{r:Rw}:Cl 282 [.agg r.enc] (.bool r.alone) J:=by
 refine au ?_;cases hc1:bC r.t 0 400
 .simp[jN,Rw.alone,hc1]
 cases hc2:bC r.p 1 10000
 .simp[jN,Rw.alone,hc1,hc2]
 cases hc3:bC r.l 0 4000
 .simp[jN,Rw.alone,hc1,hc2,hc3]
 cases hc4:bC r.s 0 2000
 .simp[jN,Rw.alone,hc1,hc2,hc3,hc4]
 by_cases hc5:r.l<r.v
 rotate_left
 .simp[jN,Rw.alone,hc1,hc2,hc3,hc4,hc5]
 simp[jN,Rw.alone,hc1,hc2,hc3,hc4,hc5]
theorem acV{l:List Rw}(hl:l.length<=1000000000):Cl 281 [lF l Rw.enc,.fn 282 [] []] (.bool (dh l Rw.alone)) J :=
 B7 (yc 5 Rw.enc (λ_=>rfl)) (f:=281) (g:=323) (h:=322) (i:=355) (l:=l) (p:=Rw.alone) rfl rfl rfl rfl (by omega) (oS.fn λx _ J=>Y7) rfl
theorem abA{t l:List Rw}{o:Rw}(hto:t=o::l)(hl:l.length<=100):∀(m i:Nat),i+m=l.length ->
  WL T [0,16,17,18] false gg [(0,lF t Rw.enc),(16,lF l Rw.enc),(17,iI l.length),(18,iI i)] J
   (λx e J'=>J'=J/\if uo (t.drop i)then x=.exit 0 else x=.ret/\get e 2=.bool false)
 |0,i,hi=>by
  refine az gg.eq_1 ?_;have h1:¬i<l.length:=by omega
  have h2:t.drop i=[t[i]'(by subst hto;simp;omega)]:=by
   rw[List.drop_eq_getElem_cons (by subst hto;simp;omega),an (by subst hto;simp;omega)]
  simp[h1,h2,uo]
 |m+1,i,hi=>by
  refine az gg.eq_1 ?_;have h1:i<l.length:=by omega
  have htl:t.length=l.length+1:=by subst hto;rfl
  obtain⟨r,hr⟩:=gE h1;obtain⟨r0,hr0⟩:∃r0,t[i]?=some r0:=gE (by omega);have h2:=bd (f:=Rw.enc) (w:=5) (λ_=>rfl) hr;have h3:=bd (f:=Rw.enc) (w:=5) (λ_=>rfl) hr0;have h4:=cg h1;have h6:t.drop (i+1)=r::t.drop (i+2):=bw (by subst hto;simpa using hr);have h5:t.drop i=r0::r::t.drop (i+2):=by rw[bw hr0,h6]
  have ih:=abA hto hl m (i+1) (by omega);rw[h6]at ih;rw[h5,uo];have⟨hlt,hlt'⟩:(i:Int)<(t.length:Int)/\i<t.length:=by omega
  by_cases c1:r.t<=r0.t
  .simp[h1,hlt,h2,h3,c1,Rw.wB]
  by_cases c2:r.p<=r0.p
  .simp[h1,hlt,h2,h3,c1,c2,Rw.wB]
  by_cases c3:r.l<=r0.l
  .simp[h1,hlt,h2,h3,c1,c2,c3,Rw.wB]
  by_cases c4:r.s<r0.s
  .simp[h1,hlt,h2,h3,c1,c2,c3,c4,Rw.wB]
  .simp[h1,hlt,h2,h3,h4,c1,c2,c3,c4,Rw.wB];have hc:r0.t<r.t/\r0.p<r.p/\r0.l<r.l/\r0.s<=r.s:=by omega
   exact WL.to ih (by simp) rfl λx e J' hh=>by simpa[hc]using hh
theorem FO{t:List Rw}(hl:t.length<=1000000000):Cl 233 [lF t Rw.enc] (.bool (fK t)) J:=by
 refine au ?_;have ha:=λJ=>acV (J:=J) (l:=t) hl
 cases hc1:bC t.length 2 20
 .simp[jN,hc1,fK]
 cases hc2:dh t Rw.alone
 .simp[jN,hc1,hc2,ha,fK]
 obtain⟨o,l,hto⟩:∃o l,t=o::l:=by
  cases t with
  |nil=>simp[bC]at hc1
  |cons o l=>exact⟨o,l,rfl⟩
 have hi:=aR.1 hc1;have htl:t.length=l.length+1:=by subst hto;rfl
 have⟨h1,h2⟩:(1:Int)<=(t.length:Int)/\t.length-1=l.length:=by omega
 have h3:((fM t Rw.enc).drop 5).take (l.length*5)=fM l Rw.enc:=by
  subst hto;have:=Nz (f:=Rw.enc) (w:=5) (λ_=>rfl) l;simpa using this
 simp[jN,hc1,hc2,ha,h1,h2,h3];refine WL.to (abA (J:=[]::J) hto (by omega) l.length 0 (by omega)) (by simp) rfl ?_;rintro x e J' ⟨rfl,h⟩;simp only[aB]at h;unfold fK;cases hc3:uo t
 .rw[hc3]at h;simp at h;simp[h,hc2,hc1]
 .rw[hc3]at h;simp at h;subst h;simp[hc2,hc1]
theorem BW{l:List Rw}(hl:l.length<=1000000000):Cl 201 [lF l Rw.enc] (iI (if fK l then 0 else 1)) J:=by
 refine au ?_;cases hc:fK l<;>simp[FO hl,hc]
theorem Sn{b:bU}(hx:1<=b.f.x/\b.f.x<=8)(hy:1<=b.f.y/\b.f.y<=8)(hz:1<=b.f.z/\b.f.z<=8):Cl 284 [.agg (bL b)] (iI b.size) J:=by
 refine au ?_;obtain⟨h1,h2⟩:=dD.sz hx hy hz;have w1:=cb (n:=b.f.x*b.f.y);have w2:=cb (n:=b.f.x*b.f.y*b.f.z);simp[w1,w2,bU.size,dD.size]
def tB(b:Bool):List D:=[.bool b]
def rX(n:Nat)(av:List bG):Nat->List Bool
 |0=>List.replicate n false
 |i+1=>match av[i]? with
  |some w=>if bC w.b 0 ((n:Int)-1)=true/\(rX n av i)[w.b.toNat]?=some false then(rX n av i).set w.b.toNat true else rX n av i
  |none=>rX n av i
theorem BT{n:Nat}{av:List bG}:∀i,(rX n av i).length=n
 |0=>by simp[rX]
 |i+1=>by
  simp only[rX];split
  .split
   .simp[BT i]
   .exact BT i
  .exact BT i
def Aq(n:Nat)(av:List bG)(i:Nat):Bool :=
 match av[i]? with
 |some w=>bC w.b 0 ((n:Int)-1) && (decide ((rX n av i)[w.b.toNat]?=some false) && (bC w.h 0 3000 && bC w.m 0 1000000))
 |none=>true
def Ij(n:Nat)(av:List bG)(J:SK)(i:Nat):SK:=[.cells 0 (fM (rX n av i) tB),.cells 0 [.sl J.length 0 0 0 n 1]]::J
theorem WW{l:List Bool}{j:Nat}{x:Bool}(h:l[j]?=some x):((fM l tB).drop j)=.bool x::(fM l tB).drop (j+1):=by
 have:=pP (f:=tB) (w:=1) (λ_=>rfl) h;simpa[tB]using this
theorem Ur{l:List Bool}{j:Nat}{x:Bool}(h:j<l.length):(fM l tB).take j++(.bool x::(fM l tB).drop (j+1))=fM (l.set j x) tB:=by
 have:=Mr (f:=tB) (w:=1) (λ_=>rfl) (x:=x) h;simpa[tB]using this
theorem Uq{l:List Bool}:(fM l tB).length=l.length:=by
 have:=bZ (f:=tB) (w:=1) (λ_=>rfl) l;omega
theorem Q0{n:Nat}{av:List bG}(hn:n<=512){i:Nat}{w:bG}(hw:av[i]?=some w):
  dp T (.call false 286 [.agg w.enc,.ref J.length 1 0 0] ([]::[]::[]::[]::Ij n av J i))=some (.val (.bool (Aq n av i)) ([]::[]::[]::[]::Ij n av J (i+1))):=by
 refine fx rfl rfl rfl (by simp[Ij]) ?_;have hlen:=BT (n:=n) (av:=av) i;have w1:=cb (n:=(n:Int)-1);have hwp:Aq n av i=(bC w.b 0 ((n:Int)-1) && (decide ((rX n av i)[w.b.toNat]?=some false) && (bC w.h 0 3000 && bC w.m 0 1000000))):=by simp[Aq,hw]
 have hus:rX n av (i+1)=if bC w.b 0 ((n:Int)-1)=true/\(rX n av i)[w.b.toNat]?=some false then(rX n av i).set w.b.toNat true else rX n av i:=by simp[rX,hw]
 rw[hwp];simp only[Ij];generalize rX n av (i+1)=us' at *
 generalize rX n av i=us at *
 cases hc1:bC w.b 0 ((n:Int)-1)
 .rw[hc1]at hus;simp at hus;subst hus;simp[dQ,w1,hc1]
 .obtain⟨g1,g2⟩:=aR.1 hc1;have g3:w.b<(n:Int):=by omega
  obtain⟨u,hu⟩:∃u,us[w.b.toNat]?=some u:=⟨_,aJ (by omega)⟩;have hat:=WW hu;have hset:=Ur (l:=us) (j:=w.b.toNat) (x:=true) (by omega);have hlen2:(fM us tB).length=n:=by rw[Uq,hlen]
  have hle:w.b.toNat+1<=n:=by omega
  rw[hc1,hu]at hus;cases u
  .simp at hus;subst hus;cases hc2:bC w.h 0 3000<;>
    simp[dQ,w1,hc1,hu,g1,g3,hat,hset,hlen2,hle,hc2]
  .simp at hus;subst hus;simp[dQ,w1,hc1,hu,g1,g3,hat]
theorem QC{n:Nat}{av:List bG}:∀{i:Nat},i<=av.length->(∀j,j<i->Aq n av j=true)->∀k:Nat,k<n->(rX n av i)[k]?=some (((av.take i).map (·.b)).contains (k:Int))
 |0,_,_,k,hk=>by simp[rX,hk]
 |i+1,hi,h,k,hk=>by
  obtain⟨w,hw⟩:∃w,av[i]?=some w:=gE (by omega);have ih:=QC (i:=i) (by omega) (λj hj=>h j (by omega));have hp:=h i (by omega);simp only[Aq,hw,af,aA]at hp;obtain⟨h1,h2,_⟩:=hp;obtain⟨g1,g2⟩:=aR.1 h1;have ht:av.take (i+1)=av.take i++[w]:=by rw[List.take_add_one,hw];rfl
  simp only[rX,hw];rw[if_pos ⟨h1,h2⟩,ht];rw[List.getElem?_set];by_cases hkw:w.b.toNat=k
  .subst hkw;have hb:w.b=((w.b.toNat:Nat):Int):=by omega
   simp[BT,hk];right;omega
  .rw[if_neg hkw,ih k hk];congr 1;have:((k:Int) == w.b)=false:=by simp;omega
   simp[];intro hh;omega
theorem Ep{n:Nat}{av:List bG}:∀(m i:Nat),i+m=av.length->(∀j,j<i->Aq n av j=true) ->
  (od (n:Int) ((av.take i).map (·.b)) (av.drop i)=true↔∀j,i<=j->j<av.length->Aq n av j=true)
 |0,i,hi,h=>by
  rw[an (by omega)];simp only[od,true_iff];intro j h1 h2;omega
 |m+1,i,hi,h=>by
  obtain⟨w,hw⟩:∃w,av[i]?=some w:=gE (by omega);have hu:=QC (n:=n) (i:=i) (by omega) h;have hone:bG.ok (n:Int) ((av.take i).map (·.b)) w=Aq n av i:=by
   simp only[Aq,hw,bG.ok];cases hc:bC w.b 0 ((n:Int)-1)
   .rfl
   .obtain⟨g1,g2⟩:=aR.1 hc;have:=hu w.b.toNat (by omega);rw[this,show((w.b.toNat:Nat):Int)=w.b from by omega];cases((av.take i).map (·.b)).contains w.b<;>simp
  rw[bw hw,od,hone,af];have ht:(av.take i).map (·.b)++[w.b]=(av.take (i+1)).map (·.b):=by rw[List.take_add_one,hw];simp
  rw[ht];constructor
  .rintro⟨h1,h2⟩ j hj1 hj2;by_cases hji:j=i
   .subst hji;exact h1
   .refine((Ep m (i+1) (by omega) λj hj=>?_).1 h2) j (by omega) hj2;by_cases hji:j=i
    .subst hji;exact h1
    .exact h j (by omega)
  .intro hh;have h1:=hh i (by omega) (by omega);refine⟨h1,(Ep m (i+1) (by omega) λj hj=>?_).2 λj hj1 hj2=>hh j (by omega) hj2⟩;by_cases hji:j=i
   .subst hji;exact h1
   .exact h j (by omega)
theorem Q1{n:Nat}{av:List bG}(hn:n<=512)(hl:av.length<=1000000000):∃s,
  dp T (.call false 285 [lF av bG.enc,.fn 286 [] [.ref J.length 1 0 0]] ([.cells 0 (fM (List.replicate n false) tB),.cells 0 [.sl J.length 0 0 0 n 1]]::J)) =
   some (.val (.bool (od (n:Int) [] av)) (s::J)):=by
 have h:=Nb (yc 3 bG.enc (λ_=>rfl)) (T:=T) (S:=Ij n av J) (fv:=.fn 286 [] [.ref J.length 1 0 0]) (l:=av) (f:=285) (g:=325) (h:=324) (i:=356) (p:=Aq n av)
  rfl rfl rfl rfl (by omega) rfl rfl rfl (λi=>by simp[Ij]) (λi x hx=>by
   rw[pf];have:=Q0 (J:=J) hn hx;show R.du (dp T (.call false 286 [.agg x.enc,.ref J.length 1 0 0] _))=_
   rw[this];rfl)
 have he:(!(oC (λi => !Aq n av i) 0 av.length).1)=od (n:Int) [] av:=by
  have h1:=Ep (n:=n) (av:=av) av.length 0 (by omega) (by simp);have h2:=ER (q:=λi => !Aq n av i) (m:=av.length) (i:=0);simp only[List.take_zero,bW,aB]at h1;cases hw:od (n:Int) [] av
  .rw[Bool.not_eq_false'];cases hs:(oC (λi => !Aq n av i) 0 av.length).1
   .have h3:=h2.1 hs;have h4:=h1.2 λj _ hj=>by have:=h3 j hj;simpa using this
    rw[hw]at h4;cases h4
   .rfl
  .rw[dT];refine h2.2 λj hj=>?_
   have:=h1.1 hw j (by omega) hj;simpa using this
 rw[he]at h;refine⟨[.cells 0 (fM (rX n av (oC (λi => !Aq n av i) 0 av.length).2) tB),.cells 0 [.sl J.length 0 0 0 n 1]],?_⟩;exact h
theorem Dl{b:bU}(h1:b.dP.length<=1000000000)(h2:b.av.length<=1000000000):Cl 234 [.agg (bL b)] (.bool b.valid) J:=by
 refine au ?_;have hT:=λJ=>BW (J:=J) (l:=b.dP) h1
 unfold bU.valid bU.ok1;cases hc1:b.f.valid
 .simp[jl,dD.shape,hc1]
 by_cases hc2:b.f.k<4
 .simp[jl,dD.shape,hc1,hc2,show ¬4<=b.f.k by omega]
 have hc2':4<=b.f.k:=by omega
 cases hc3:fK b.dP
 .simp[jl,dD.shape,hc1,hc2,hT,hc3]
 cases hc4:bC b.cC 1 100000
 .simp[jl,dD.shape,hc1,hc2,hT,hc3,dQ,hc4]
 cases hc5:bC b.lift 0 1000
 .simp[jl,dD.shape,hc1,hc2,hT,hc3,dQ,hc4,hc5]
 cases hc6:bC b.deep 0 3000
 .simp[jl,dD.shape,hc1,hc2,hT,hc3,dQ,hc4,hc5,hc6]
 by_cases hc7:8<b.av.length
 .simp[jl,dD.shape,hc1,hc2,hT,hc3,dQ,hc4,hc5,hc6,show ¬b.av.length<=8 by omega,show(8:Int)<b.av.length by omega]
 obtain⟨g1,g2,g3,g4,g5⟩:=dD.nI.1 hc1;obtain⟨_,g6⟩:=dD.sz g1 g2 g3;have hsz:=λJ=>Sn (J:=J) (b:=b) g1 g2 g3
 have hs:b.size=((b.n:Nat):Int):=by unfold bU.n bU.size dD.size;omega
 have hn:b.n<=512:=by unfold bU.n bU.size dD.size;omega
 have hnil:(fM (List.range b.n) λ_=>[D.bool false])=fM (List.replicate b.n false) tB:=by
  have:∀n,(fM (List.range n) λ_=>[D.bool false])=fM (List.replicate n false) tB:=by
   intro n;induction n with
   |zero=>rfl
   |succ n ih=>rw[List.range_succ,oE,ih,List.replicate_succ'];simp[tB]
  exact this _
 obtain⟨s,hall⟩:=Q1 (J:=J) (n:=b.n) (av:=b.av) hn h2;rw[<- hs]at hall;have hroom:(b.n:Int)<=70368744177664:=by omega
 rw[hs]at hsz;simp[jl,dD.shape,hc1,hc2,hT,hc3,dQ,hc4,hc5,hc6,show ¬(8:Int)<b.av.length by omega,show b.av.length<=8 by omega,hsz,room,hroom,hnil,hall,hc2']
theorem Xt{l:List Int}{i n:Nat}:((fM l aP).drop i).take n=fM ((l.drop i).take n) aP:=by
 simp only[show aP=λn=>[iI n]from rfl,Pp,<- List.map_drop,<- List.map_take]
theorem gq{l:List Int}{j:Nat}{x:Int}(h:l[j]?=some x):((fM l aP).drop j).take 1=[iI x]:=by
 have:=bd (f:=aP) (w:=1) (λ_=>rfl) h;simpa using this
theorem CW(l:List Rw):D.bf (fM l Rw.enc)=true:=fA (λx=>by simp) l
theorem xD(l:List bG):D.bf (fM l bG.enc)=true:=fA (λx=>by simp) l
theorem mw(l:List Int):D.bf (fM l aP)=true:=fA (λx=>by simp) l
theorem HG(l:List Rock.aG):D.bf (fM l aG.enc)=true:=fA (λx=>by simp) l
structure Bv(b:bU):Prop where
 x:1<=b.f.x/\b.f.x<=8
 y:1<=b.f.y/\b.f.y<=8
 z:1<=b.f.z/\b.f.z<=8
 k:4<=b.f.k/\b.f.k<=6
 sz:b.f.size=((b.n:Nat):Int)
 n:1<=b.n/\b.n<=64
 dP:fK b.dP=true
 cC:1<=b.cC/\b.cC<=100000
 lift:0<=b.lift/\b.lift<=1000
 deep:0<=b.deep/\b.deep<=3000
 av:b.av.length<=8
 ok:od b.size [] b.av=true
theorem Bv.of{b:bU}(h:b.valid=true):Bv b:=by
 simp only[bU.valid,bU.ok1,af,aA]at h;obtain⟨⟨h1,h2,h3,h4,h5,h6,h7⟩,h8⟩:=h;obtain⟨g1,g2,g3,g4,g5⟩:=dD.nI.1 h1;obtain⟨_,g6⟩:=dD.sz g1 g2 g3;refine⟨g1,g2,g3,⟨h2,g5.2⟩,?_,?_,h3,aR.1 h4,aR.1 h5,aR.1 h6,h7,h8⟩
 .unfold bU.n bU.size dD.size;omega
 .unfold bU.n bU.size;unfold dD.size at g4 ⊢;omega
theorem Bv.fv{b:bU}(h:Bv b):b.f.valid=true:=dD.nI.2 ⟨h.x,h.y,h.z,by have:=h.sz;have:=h.n;omega,by have:=h.k;omega⟩
structure Mv(b:bU)(m:b8):Prop where
 bv:Bv b
 len:(m.du.length:Int)=b.f.k*b.f.size
theorem Mv.le{b:bU}{m:b8}(h:Mv b m):4*b.n<=m.du.length/\m.du.length<=384:=by
 have h1:=h.bv.k;have h2:=h.bv.sz;have h3:=h.bv.n;have h4:=h.len;have h5:=(dR h1.1 (by omega:(0:Int)<=b.f.size));have h6:=Tl (a:=b.f.k) (b:=b.f.size) (A:=6) (B:=64) (by omega) h1.2 (by omega) (by omega);omega
theorem Bb{b:bU}(h:Bv b):Cl 284 [.agg (bL b)] (iI b.n) J:=by
 have:=Sn (J:=J) (b:=b) h.x h.y h.z;rw[show b.size=((b.n:Nat):Int)from h.sz]at this;exact this
theorem JD{b:bU}{m:b8}(h:Mv b m){k:Nat}(hk:k<4):Cl 327 [.agg (bM b m),iI k] (.bV b.n (fM (wx b m k) aP)) J:=by
 refine au ?_;obtain⟨h1,h2⟩:=h.le;have h3:=h.bv.n;have hs:=λJ=>Bb (J:=J) h.bv
 have e1:(k:Int)*(b.n:Int)=((k*b.n:Nat):Int):=by push_cast;rfl
 have e2:((k:Int)+1)*(b.n:Int)=(((k+1)*b.n:Nat):Int):=by push_cast;rfl
 have b1:(k+1)*b.n<=m.du.length:=jn (cY _ (by omega:k+1<=4)) h1;have b2:(k+1)*b.n=k*b.n+b.n:=eC _ _;have w1:=cb (n:=(k:Int)*b.n) (by rw[e1];omega);have w2:=cb (n:=(k:Int)+1);have w3:=cb (n:=((k:Int)+1)*b.n) (by rw[e2];omega);have e3:(k+1)*b.n-k*b.n=b.n:=by omega
 have hsub:=Xt (l:=m.du) (i:=k*b.n) (n:=b.n);have hle:(k:Int)*b.n<=((k:Int)+1)*b.n:=by rw[e1,e2];omega
 simp[hs,w1,w2,w3];rw[e1,e2];have⟨c1,c2,c3,c4⟩:(0:Int)<=((k*b.n:Nat):Int)/\((k*b.n:Nat):Int)<=(((k+1)*b.n:Nat):Int)/\(((k+1)*b.n:Nat):Int)<=(m.du.length:Int)/\(0:Int)<=(((k+1)*b.n:Nat):Int):=by omega
 simp only[c1,c3,c4,and_self,if_true,Int.toNat_natCast,Option.bind_some];simp[wx,hle,e3,hsub,mw]
theorem Mt{b:bU}{m:b8}(h:Mv b m){k:Nat}(hk:k<4):(wx b m k).length=b.n:=by
 obtain⟨h1,h2⟩:=h.le;have b1:(k+1)*b.n<=m.du.length:=jn (cY _ (by omega:k+1<=4)) h1;have b2:(k+1)*b.n=k*b.n+b.n:=eC _ _;simp[wx];omega
theorem yZ{b:bU}{m:b8}(h:Mv b m){k i:Nat}(hk:k<4)(hi:i<b.n):(wx b m k)[i]?=some (jK b m k i):=by
 obtain⟨h1,h2⟩:=h.le;have b1:(k+1)*b.n<=m.du.length:=jn (cY _ (by omega:k+1<=4)) h1;have b2:(k+1)*b.n=k*b.n+b.n:=eC _ _;have h3:k*b.n+i<m.du.length:=by omega
 simp only[wx,jK,de,dZ,if_pos hi,aJ h3,eW]
theorem VK{b:bU}{m:b8}(h:Mv b m){i:Nat}(hi:i<b.n):Cl 288 [.agg (bM b m),iI i] (iI (hold b m i)) J:=by
 refine au ?_;have hk:=λJ=>JD (J:=J) h (k:=0) (by omega)
 have ha:=gq (yZ h (k:=0) (by omega) hi);simp only[Int.ofNat_zero]at hk;simp[hk,hi,ha,hold]
theorem VS{b:bU}{m:b8}(h:Mv b m){i:Nat}(hi:i<b.n):Cl 360 [.agg (bM b m),iI i] (iI (zz b m i)) J:=by
 refine au ?_;have hk:=λJ=>JD (J:=J) h (k:=1) (by omega)
 have ha:=gq (yZ h (k:=1) (by omega) hi);simp at hk;simp[hk,hi,ha,zz]
theorem ac2{b:bU}{m:b8}(h:Mv b m){i:Nat}(hi:i<b.n):Cl 289 [.agg (bM b m),iI i] (iI (Hs b m i)) J:=by
 refine au ?_;have hk:=λJ=>JD (J:=J) h (k:=2) (by omega)
 have ha:=gq (yZ h (k:=2) (by omega) hi);simp at hk;simp[hk,hi,ha,Hs]
theorem acH{b:bU}{m:b8}(h:Mv b m){i:Nat}(hi:i<b.n):Cl 361 [.agg (bM b m),iI i] (iI (feed b m i)) J:=by
 refine au ?_;have hk:=λJ=>JD (J:=J) h (k:=3) (by omega)
 have ha:=gq (yZ h (k:=3) (by omega) hi);simp at hk;simp[hk,hi,ha,feed]
theorem Zc{lo hi n:Int}:Cl 328 [iI n,.ref J.length 0 0 0] (.bool (bC n lo hi)) ([]::[]::[]::[]::[.cells 0 [iI lo,iI hi]]::J):=by
 refine au ?_;simp[dQ]
theorem T5{b:bU}{m:b8}(h:Mv b m){k:Nat}(hk:k<4){lo hi:Int}:Cl 326 [.bV b.n (fM (wx b m k) aP),.fn 328 [] [.ref J.length 0 0 0]] (.bool (dh (wx b m k) λn=>bC n lo hi)) ([.cells 0 [iI lo,iI hi]]::J):=by
 have hl:=Mt h hk;have hn:=h.bv.n;have:=ZU (Np .i64) (T:=T) (f:=326) (g:=357) (h:=226) (i:=273) (l:=wx b m k) (p:=λn=>bC n lo hi) (fv:=.fn 328 [] [.ref J.length 0 0 0]) (J:=[.cells 0 [iI lo,iI hi]]::J)
  rfl rfl rfl rfl (by omega) rfl rfl rfl (λx _=>by
   rw[pf];have:=Zc (J:=J) (lo:=lo) (hi:=hi) (n:=x);show R.du (dp T (.call false 328 [iI x,.ref J.length 0 0 0] _))=_
   rw[this];rfl)
 rw[hl]at this;exact this
def NY:Nat->Int×Int
 |0=>(1000,100000)
 |1=>(0,1000)
 |2=>(0,3000)
 |_=>(0,1000)
def BG(b:bU)(m:b8)(i:Nat):Nat->Bool
 |0=>true
 |n+1=>dh (wx b m i) (λx=>bC x (NY i).1 (NY i).2) && BG b m (i+1) n
theorem Wo{b:bU}{m:b8}(h:Mv b m):∀(n i:Nat),i+n=4 ->
  WL T [1,17,18] true iM [(1,.bg (bM b m)),(17,.agg [iI 1000,iI 100000,iI 0,iI 1000,iI 0,iI 3000,iI 0,iI 1000]),(18,iI i)] J
   (λx e J'=>J'=J/\if BG b m i n=true then x=.exit 0 else x=.ret/\get e 2=.bool false)
 |0,i,hi=>by
  refine Gi iM.eq_1 ?_;obtain rfl:i=4:=by omega
  simp[BG,CW,xD,mw]
 |n+1,i,hi=>by
  refine Gi iM.eq_1 ?_;have hk:i<4:=by omega
  have hK:=λJ=>JD (J:=J) h hk
  have ih:=Wo h n (i+1) (by omega);have hA:=T5 (J:=J) h hk (lo:=(NY i).1) (hi:=(NY i).2);simp only[BG];rcases Bool.eq_false_or_eq_true (dh (wx b m i) (λx=>bC x (NY i).1 (NY i).2))with hc | hc
  .rw[hc]at hA;obtain rfl | rfl | rfl | rfl:i=0\/i=1\/i=2\/i=3:=by omega
   all_goals
    simp only[NY]at hA hc ⊢
    try simp at hK
    simp[hK,hA,hc,CW,xD,mw];exact WL.to ih (by simp[]) (by simp[]) λx e J' hh=>by simpa[hc]using hh
  .rw[hc]at hA;obtain rfl | rfl | rfl | rfl:i=0\/i=1\/i=2\/i=3:=by omega
   all_goals
    simp only[NY]at hA hc ⊢
    try simp at hK
    simp[hK,hA,hc]
theorem Mv.of{b:bU}{m:b8}(h:Bv b)(hc:fV b.f [m]=0):Mv b m:=by
 refine⟨h,?_⟩;simp only[fV,h.fv,if_true,dD.ai]at hc;have h1:bC (([m]:List b8).length:Nat) 1 40=true:=by simp[bC]
 rw[if_pos h1]at hc;simp only[dD.each]at hc;split at hc
 .rename_i hm;unfold dD.model at hm;split at hm
  .split at hm
   .rename_i hh;exact hh.1
   .cases hm
  .cases hm
 .rename_i hm;exact absurd hc hm
theorem QU{b:bU}{m:b8}(h:Bv b)(hn:m.name.length<=1000000000)(hl:m.du.length<=1000000000):Cl 287 [.agg (bM b m)] (.bool (fits b m)) J:=by
 refine au ?_;have hC:=λJ=>E2 (J:=J) (f:=b.f) (l:=[m]) (by simpa using⟨hn,hl⟩) (by simp)
 simp at hC;by_cases hc:fV b.f [m]=0
 .have hm:=Mv.of h hc;simp[hC,hc];refine WL.to (Wo (J:=[]::J) hm 4 0 (by omega)) (by simp) rfl ?_;rintro x e J' ⟨rfl,hh⟩;have he:BG b m 0 4=fits b m:=by
   simp[BG,fits,hc,NY]
  rw[he]at hh;cases hf:fits b m
  .rw[hf]at hh;simp at hh;simp[hh]
  .rw[hf]at hh;simp at hh;subst hh;simp
 .simp[hC,hc,fits]
theorem abo{b:bU}{m:b8}(h1:b.dP.length<=1000000000)(h2:b.av.length<=1000000000)(hn:m.name.length<=1000000000)(hl:m.du.length<=1000000000)(hb:Bd b m=true):
  Cl 235 [.agg (bL b),.agg (mL m)] (.cN [.agg (bM b m),iI 0]) J:=by
 refine au ?_;simp only[Bd,af]at hb;have hf:=λJ=>QU (J:=J) (Bv.of hb.1) hn hl
 simp[Dl h1 h2,hb.1,hf,hb.2,CW,xD,mw]
theorem Sk{b:bU}{m:b8}(h1:b.dP.length<=1000000000)(h2:b.av.length<=1000000000)(hn:m.name.length<=1000000000)(hl:m.du.length<=1000000000)(hb:Bd b m=false):∃d,
  Cl 235 [.agg (bL b),.agg (mL m)] (.cN [.agg d,iI 1]) J/\d.length=11/\D.bf d=true:=by
 refine⟨[(iI 0),(iI 0),(iI 0),(iI 0),.bA,(iI 0),(iI 0),(iI 0),.bA,(.str []),.bA],?_,rfl,by simp⟩;refine au ?_;cases hc:b.valid
 .simp[Dl h1 h2,hc]
 .have hf:=λJ=>QU (J:=J) (Bv.of hc) hn hl
  have hb':fits b m=false:=by simpa[Bd,hc]using hb
  simp[Dl h1 h2,hc,hf,hb']
theorem Zl{n:Int}:Cl 331 [iI n] (.bool (bC n (-100000) 100000)) J:=by
 refine au ?_;simp[dQ]
theorem Ub{l:List Int}{p:Int->Bool}{fv:D}(hl:l.length<=1000000000)(ht:oS T fv (λn=>iI n) p l)(hc:fv.cells=some [fv]):
  Cl 326 [lF l aP,fv] (.bool (dh l p)) J :=
 B7 (Np .i64) (f:=326) (g:=357) (h:=226) (i:=273) (l:=l) (p:=p) (fv:=fv) rfl rfl rfl rfl (by omega) ht hc
theorem Zm{b:bU}{l:List Int}(hl:l.length<=1000000000):Cl 302 [.agg (bL b),lF l aP] (iI (pS b l)) J:=by
 refine au ?_;have ha:=λJ=>Ub (J:=J) (l:=l) (p:=λn=>bC n (-100000) 100000) (fv:=.fn 331 [] []) hl (oS.fn λx _ J=>Zl) rfl
 try simp only[lF,Cl]at ha
 unfold pS;by_cases hc1:l.length=b.av.length
 .rw[<- hc1];cases hc2:dh l (λn=>bC n (-100000) 100000)<;>simp[hc1,hc2,hc1 ▸ ha]
 .simp[hc1,show ¬(l.length:Int)=b.av.length by omega]
def I6(l:List Int):List D:=[lF l aP]
theorem Wq{b:bU}{aw:List (List Int)}(hl:aw.length<=1000000000)(hs:∀l∈aw,l.length<=1000000000):∀(m i:Nat),i+m=aw.length ->
  WL T [2,11,12,13] false j5 [(2,.bg (bL b)),(11,lF aw I6),(12,iI aw.length),(13,iI i)] J
   (λx e J'=>J'=J/\if bT (pS b) (aw.drop i)=0 then x=.exit 0 else x=.ret/\get e 4=iI (bT (pS b) (aw.drop i)))
 |0,i,hi=>by
  refine az j5.eq_1 ?_;have h1:¬i<aw.length:=by omega
  have h2:aw.drop i=[]:=an (by omega);simp[h1,h2,bT]
 |m+1,i,hi=>by
  refine az j5.eq_1 ?_;have h1:i<aw.length:=by omega
  obtain⟨l,hx⟩:=gE h1;have h2:=bd (f:=I6) (w:=1) (λ_=>rfl) hx;simp only[I6,bX]at h2;have h4:=cg h1;have h5:=bw hx;have hC:=λJ=>Zm (J:=J) (b:=b) (l:=l) (hs l (aj hx))
  rw[h5,bT];have ih:=Wq (b:=b) hl hs m (i+1) (by omega);by_cases hc:pS b l=0
  .simp[h1,h2,h4,hC,hc];exact WL.to ih (by simp[]) rfl λx e J' hh=>by simpa[hc]using hh
  .simp[h1,h2,hC,hc]
theorem VV{b:bU}{aw:List (List Int)}(hl:aw.length<=1000000000)(hs:∀l∈aw,l.length<=1000000000):
  Cl 250 [.agg (bL b),lF aw I6] (iI (tg b aw)) J:=by
 refine au ?_;unfold tg;by_cases hc:200<aw.length
 .simp[hc,show(200:Int)<aw.length by omega]
 .simp[hc,show ¬(200:Int)<aw.length by omega];refine WL.to (Wq (J:=[]::J) (b:=b) hl hs aw.length 0 (by omega)) (by simp) rfl ?_;rintro x e J' ⟨rfl,h⟩;simp only[aB]at h;by_cases hc2:bT (pS b) aw=0
  .rw[if_pos hc2]at h;subst h;simp[hc2,show aw.length<=200 by omega]
  .rw[if_neg hc2]at h;obtain⟨rfl,h⟩:=h;simp[h,show ¬200<aw.length by omega]
structure Fv(b:bU)(m:b8):Prop extends Mv b m where
 hold:∀i,i<b.n->1000<=Rock.hold b m i/\Rock.hold b m i<=100000
 zz:∀i,i<b.n->0<=Rock.zz b m i/\Rock.zz b m i<=1000
 Hs:∀i,i<b.n->0<=Rock.Hs b m i/\Rock.Hs b m i<=3000
 feed:∀i,i<b.n->0<=Rock.feed b m i/\Rock.feed b m i<=1000
theorem Fv.of{b:bU}{m:b8}(h:Bd b m=true):Fv b m:=by
 simp only[Bd,fits,af,aA]at h;obtain⟨h1,h2,h3,h4,h5,h6⟩:=h;have hm:=Mv.of (Bv.of h1) h2;have key:∀{k:Nat} {lo hi:Int},k<4->dh (wx b m k) (λn=>bC n lo hi)=true->∀i,i<b.n->lo<=jK b m k i/\jK b m k i<=hi:=by
  intro k lo hi hk ha i hi';exact aR.1 (eQ.1 ha _ (aj (yZ hm hk hi')))
 exact⟨hm,key (by omega) h3,key (by omega) h4,key (by omega) h5,key (by omega) h6⟩
theorem wF{b:bU}(h:Bv b){i:Nat}(hi:i<b.n):0<=weight b i/\weight b i<=64000:=by
 have hl:=h.lift;have hn:=h.n;have hle:i / (b.f.x.toNat*b.f.y.toNat)<=i:=Nat.div_le_self _ _;have hq:=Int.natCast_nonneg (i / (b.f.x.toNat*b.f.y.toNat));have hle2:((i / (b.f.x.toNat*b.f.y.toNat):Nat):Int)<=64:=by
  have:i / (b.f.x.toNat*b.f.y.toNat)<=64:=by omega
  exact Int.ofNat_le.2 this
 unfold weight;exact iS (A:=64) (B:=1000) hq hle2 hl.1 hl.2
theorem JH{b:bU}{m:b8}(h:Bv b){i:Nat}(hi:i<b.n):Cl 343 [.agg (bM b m),iI i] (iI (weight b i)) J:=by
 refine au ?_;have hx:=h.x;have hy:=h.y;have hn:=h.n;obtain⟨s1,_⟩:=dD.sz h.x h.y h.z;have w1:=cb (n:=b.f.x*b.f.y);have e1:b.f.x*b.f.y=((b.f.x.toNat*b.f.y.toNat:Nat):Int):=by push_cast;rw[dO (by omega),dO (by omega)]
 have e2:(i:Int) / (b.f.x*b.f.y)=((i / (b.f.x.toNat*b.f.y.toNat):Nat):Int):=by
  rw[e1];rfl
 have hle:i / (b.f.x.toNat*b.f.y.toNat)<=i:=Nat.div_le_self _ _;have hw:=wF h hi;have hq:(0:Int)<=(i:Int) / (b.f.x*b.f.y):=by rw[e2];exact Int.natCast_nonneg _
 have hq2:(i:Int) / (b.f.x*b.f.y)<=64:=by
  rw[e2];have:i / (b.f.x.toNat*b.f.y.toNat)<=64:=by omega
  exact Int.ofNat_le.2 this
 have w2:=cb (n:=(i:Int) / (b.f.x*b.f.y));have w3:=cb (n:=weight b i);have⟨hne,hnx,hny⟩:¬b.f.x*b.f.y=0/\¬b.f.x=0/\¬b.f.y=0:=by omega
 have e3:(i:Int) / (b.f.x*b.f.y)*b.lift=weight b i:=by rw[e2];rfl
 simp[w1,w2,hne,e3,w3]
theorem acF{n d:Int}(hn : -200000000000<=n/\n<=200000000000)(hd:1<=d/\d<=100000):Cl 344 [iI n,iI d] (iI (down n d)) J:=by
 refine au ?_;have h1:=Int.mul_tdiv_add_tmod n d;have h2:=Int.tmod_lt_of_pos n (show 0<d by omega);have h3:=Int.lt_tmod_of_pos n (show 0<d by omega);unfold down;generalize hq:n.tdiv d=q at *
 generalize n.tmod d=r at *
 have h4:d*q=q*d:=Int.mul_comm _ _;have hb : -200000100001<=q/\q<=200000100001:=by
  rcases eV 0 q with h | h
  .have:=Int.mul_le_mul_of_nonneg_left hd.1 h;omega
  .have:=Int.mul_le_mul_of_nonpos_left h hd.1;omega
 have w1:=cb (n:=q);have w2:=cb (n:=q*d);have w3:=cb (n:=q-1);have hne:¬d=0:=by omega
 have key:n / d=if n<q*d then q-1 else q:=by
  split
  .rename_i hc;refine((Int.ediv_emod_unique (r:=r+d) (show 0<d by omega)).2 ⟨?_,?_,?_⟩).1
   .rw[Int.mul_sub];omega
   .omega
   .omega
  .rename_i hc;refine((Int.ediv_emod_unique (r:=r) (show 0<d by omega)).2 ⟨?_,?_,?_⟩).1<;>omega
 rw[key];by_cases hc:n<q*d<;>simp[hq,w1,w2,w3,hne,hc]
theorem lD{α:Type}{f:α->List D}{w n:Nat}(hn:1<n)(hw:∀x,(f x).length=w)(hc:∀x,D.bf (f x)=true){l:List α}{j v:Nat}{bs:List Abs.aG}(hJ:J≠[])(hj:bs[j]?=some (.cells v (fM l f))):
  cI (J.length-1) n (.sl J.length j v 0 l.length w) (bs::J)=(lF l f,bs.set j .dead::J):=by
 have h3:¬J.length<=J.length-1:=by have:=aH.2 hJ;omega
 rw[FX h3 (cs:=fM l f) (by simp[hj]) (by omega)];have h4:0<n-1:=by omega
 simp[Nz hw l,fA hc l,h4]
theorem oF{b:bU}{m:b8}:(bY b m).length=b.n:=by simp[bY]
theorem tA(l:List Rock.aG):(fM l aG.enc).length=l.length*3:=bZ (f:=aG.enc) (w:=3) (λ_=>rfl) l
theorem SD{b:bU}{m:b8}(h:Fv b m):∀(n i v:Nat),i+n=b.n ->
  WL T [1,2,6,7] false gJ [(1,.bg (bM b m)),(2,.sl J.length 0 v 0 i 3),(6,iI b.n),(7,iI i)] ([.cells v (fM ((bY b m).take i) aG.enc)]::J)
   (λx e J'=>x=.exit 0/\get e 2=.sl J.length 0 (v+n) 0 (bY b m).length 3/\J'=[.cells (v+n) (fM (bY b m) aG.enc)]::J)
 |0,i,v,hi=>by
  refine az gJ.eq_1 ?_;obtain rfl:i=b.n:=by omega
  have h3:(bY b m).take b.n=bY b m:=ah (by simp[oF]);simp[h3,oF]
 |n+1,i,v,hi=>by
  refine az gJ.eq_1 ?_;have h1:i<b.n:=by omega
  have hn:=h.bv.n;have h4:=cg h1;have ho:=λJ=>VK (J:=J) h.toMv h1
  have hw:=λJ=>ac2 (J:=J) h.toMv h1
  have b1:=h.hold i h1;have b2:=h.Hs i h1;have b3:=iS (by omega:0<=hold b m i) b1.2 b2.1 b2.2;have w1:=cb (n:=hold b m i*Hs b m i);have ih:=SD h n (i+1) (v+1) (by omega);have hx:(bY b m)[i]?=some ⟨hold b m i,hold b m i*Hs b m i,0⟩:=by simp[bY,h1]
  have a3:=BH (f:=aG.enc) hx;have a4:=tA ((bY b m).take i);rw[dw,oF,Nat.min_eq_left (by omega)]at a4;have a6:(fM ((bY b m).take i) aG.enc).take (i*3)=fM ((bY b m).take i) aG.enc:=ah (by omega);have h7:(i+1)*24<=room:=by unfold room;omega
  simp[h1,h4,ho,hw,w1,a4,a6,h7];refine WL.to ih (by simp[]) (by simp[<- a3]) λx e J hh=>by simpa[dG,Nat.add_comm 1 n]using hh
theorem Hx{b:bU}{m:b8}(h:Fv b m)(hJ:J≠[]):Cl 236 [.agg (bM b m)] (YA (bY b m)) J:=by
 refine au ?_;have hs:=λJ=>Bb (J:=J) h.bv
 simp[hs];refine WL.to (SD (J:=J) h b.n 0 0 (by omega)) (by simp) (by simp) ?_;rintro x e J' ⟨rfl,g2,rfl⟩;simp[g2];rw[lD (f:=aG.enc) (by decide) (λ_=>rfl) (λx=>by simp) hJ (by simp)];simp[YA]
theorem aG.NJ{x:Rock.aG}:x.valid=true↔(1<=x.m/\x.m<=1000000)/\(0<=x.h/\x.h<=10000000000)/\(0<=x.k/\x.k<=1000000000000):=by
 simp[Rock.aG.valid,bC]
structure Sv(b:bU)(s:List Rock.aG):Prop where
 len:s.length=b.n
 ok:∀x∈s,x.valid=true
theorem Sv.of{b:bU}{s:List Rock.aG}(h:Bv b):qI b s=true↔Sv b s:=by
 have hs:=h.sz;have hn:=h.n;unfold qI;simp only[af,aA];constructor
 .rintro⟨h1,h2⟩;exact⟨by unfold bU.size at h1;omega,eQ.1 h2⟩
 .rintro⟨h1,h2⟩;exact⟨by unfold bU.size;omega,eQ.2 h2⟩
theorem Sv.at{b:bU}{s:List Rock.aG}(h:Sv b s){i:Nat}(hi:i<b.n):s[i]?=some (aQ s i)/\(1<=(aQ s i).m/\(aQ s i).m<=1000000)/\(0<=(aQ s i).h/\(aQ s i).h<=10000000000)/\(0<=(aQ s i).k/\(aQ s i).k<=1000000000000):=by
 have h1:i<s.length:=by have:=h.len;omega
 have h2:s[i]?=some (aQ s i):=by simp[aQ,h1]
 exact⟨h2,aG.NJ.1 (h.ok _ (aj h2))⟩
theorem Sv.first{b:bU}{m:b8}(h:Fv b m):Sv b (bY b m):=by
 refine⟨oF,λx hx=>?_⟩;simp only[bY,bI,List.mem_range]at hx;obtain⟨i,hi,rfl⟩:=hx;have b1:=h.hold i hi;have b2:=h.Hs i hi;have b3:=iS (by omega:0<=hold b m i) b1.2 b2.1 b2.2;exact aG.NJ.2 ⟨⟨by simp only;omega,by simp only;omega⟩,⟨b3.1,by simp only;omega⟩,by simp⟩
theorem RQ{r:Rw}(h:r.alone=true):(1<=r.p/\r.p<=10000)/\(0<=r.l/\r.l<=4000):=by
 simp only[Rw.alone,af]at h;exact⟨aR.1 h.2.1,aR.1 h.2.2.1⟩
theorem SG{s:List Rock.aG}{i:Nat}{x:Rock.aG}{t:List Rw}(hx:s[i]?=some x)(hm:0<=x.m/\x.m<=1000000)(ht:∀r∈t,r.alone=true)(hl:t.length<=1000):∀(n j:Nat) (o:Int),j+n=t.length ->
  WL T [1,2,7,34,35,36] false fq [(1,lF s aG.enc),(2,iI i),(7,iI o),(34,lF t Rw.enc),(35,iI t.length),(36,iI j)] J
   (λx' e J'=>J'=J/\x'=.exit 0/\get e 7=iI ((t.drop j).foldl (ic x) o))
 |0,j,o,hj=>by
  refine az fq.eq_1 ?_;have h1:¬j<t.length:=by omega
  have h2:t.drop j=[]:=an (by omega);simp[h1,h2]
 |n+1,j,o,hj=>by
  refine az fq.eq_1 ?_;have h1:j<t.length:=by omega
  obtain⟨r,hr⟩:=gE h1;have hrb:=RQ (ht r (aj hr));have h2:=bd (f:=Rw.enc) (w:=5) (λ_=>rfl) hr;have h3:=bd (f:=aG.enc) (w:=3) (λ_=>rfl) hx;have h4:=cg h1;have h5:=bw hr;have hi:i<s.length:=(aC.1 hx).1;have b1:=iS hrb.2.1 hrb.2.2 hm.1 hm.2;have w1:=cb (n:=r.l*x.m);have ih:=SG hx hm ht hl n (j+1) (ic x o r) (by omega);rw[h5];simp only[List.foldl_cons];by_cases hc:r.l*x.m<=x.h
  .have hm2:(if o<r.p then r.p else o)=ic x o r:=by unfold ic;rw[if_pos hc];omega
   simp[h1,h2,h3,h4,hi,w1,hc];refine WL.to ih (by simp[ic,hc]) rfl λx e J hh=>hh
  .simp[h1,h2,h3,h4,hi,w1,hc];refine WL.to ih (by simp[ic,hc]) rfl λx e J hh=>hh
theorem JF{b:bU}{m:b8}{s:List Rock.aG}(h:Fv b m)(hs:Sv b s){i:Nat}(hi:i<b.n):
  Cl 307 [.agg (bM b m),lF s aG.enc,iI i] (iI (dt b m s i)) J:=by
 refine au ?_;have hw:=λJ=>JH (J:=J) (m:=m) h.bv hi
 have ho:=λJ=>VK (J:=J) h.toMv hi
 have b1:=h.hold i hi;obtain⟨hx,b2,b3,b4⟩:=hs.at hi;have hil:i<s.length:=by have:=hs.len;omega
 have hst:=h.bv.cC;have b5:=wF h.bv hi;have b6 : -100000000000<=b.cC*((aQ s i).m-hold b m i)/\b.cC*((aQ s i).m-hold b m i)<=100000000000:=by
  rcases eV (hold b m i) (aQ s i).m with hh | hh
  .have:=iS (a:=b.cC) (b:=(aQ s i).m-hold b m i) (A:=100000) (B:=1000000) (by omega) hst.2 (by omega) (by omega);omega
  .have:=iS (a:=b.cC) (b:=hold b m i-(aQ s i).m) (A:=100000) (B:=1000000) (by omega) hst.2 (by omega) (by omega);have e:b.cC*((aQ s i).m-hold b m i) = - (b.cC*(hold b m i-(aQ s i).m)):=by rw[<- Int.mul_neg];congr 1;omega
   omega
 have hd:=λJ=>acF (J:=J) (n:=b.cC*((aQ s i).m-hold b m i)) (d:=hold b m i) (by omega) (by omega)
 have b7 : -100000000000<=down (b.cC*((aQ s i).m-hold b m i)) (hold b m i)/\down (b.cC*((aQ s i).m-hold b m i)) (hold b m i)<=100000000000:=by
  unfold down;constructor
  .rw[Int.le_ediv_iff_mul_le (by omega)];omega
  .have:=Int.ediv_le_self (b:=hold b m i) (a:=b.cC*((aQ s i).m-hold b m i));rcases eV 0 (b.cC*((aQ s i).m-hold b m i))with hh | hh
   .have:=this hh;omega
   .have:=Int.ediv_le_of_le_mul (b:=0) (show 0<hold b m i by omega) (by omega:b.cC*((aQ s i).m-hold b m i)<=0*hold b m i);omega
 have w1:=cb (n:=(aQ s i).m-hold b m i);have w2:=cb (n:=b.cC*((aQ s i).m-hold b m i));have w3:=cb (n:=weight b i+down (b.cC*((aQ s i).m-hold b m i)) (hold b m i));have h3:=bd (f:=aG.enc) (w:=3) (λ_=>rfl) hx;have htab:=h.bv.dP;simp only[fK,af]at htab;have ht:=aR.1 htab.1;simp[hw,ho,hil,h3,w1,w2,hd,w3];refine WL.to (SG (J:=[]::J) hx ⟨by omega,by omega⟩ (eQ.1 htab.2.1) (by omega) b.dP.length 0 (max 0 (weight b i+down (b.cC*((aQ s i).m-hold b m i)) (hold b m i))) (by omega)) (by simp) rfl ?_;rintro x e J' ⟨rfl,rfl,g⟩;simp[g,dt]
theorem NO{b:bU}{m:b8}{s:List Rock.aG}:(ba b m s).length=s.length:=by simp[ba]
theorem Te(l:List Int):(fM l aP).length=l.length:=by
 have:=bZ (f:=aP) (w:=1) (λ_=>rfl) l;omega
theorem It{b:bU}{m:b8}{s:List Rock.aG}(h:Fv b m)(hs:Sv b s):∀(n i v:Nat),i+n=s.length ->
  WL T [1,2,4,7,8] false eR [(1,lF s aG.enc),(2,.bg (bM b m)),(4,.sl J.length 0 v 0 i 1),(7,iI s.length),(8,iI i)] ([.cells v (fM ((ba b m s).take i) aP)]::J)
   (λx e J'=>x=.exit 0/\get e 4=.sl J.length 0 (v+n) 0 (ba b m s).length 1/\J'=[.cells (v+n) (fM (ba b m s) aP)]::J)
 |0,i,v,hi=>by
  refine az eR.eq_1 ?_;have h1:¬i<s.length:=by omega
  have h3:(ba b m s).take i=ba b m s:=ah (by rw[NO];omega);simp[h1,h3,NO];omega
 |n+1,i,v,hi=>by
  refine az eR.eq_1 ?_;have h1:i<s.length:=by omega
  have hn:=h.bv.n;have hl:=hs.len;have h4:=cg h1;have hp:=λJ=>JF (J:=J) h hs (i:=i) (by omega)
  have ih:=It h hs n (i+1) (v+1) (by omega);have hx:(ba b m s)[i]?=some (dt b m s i):=by simp[ba,h1]
  have a3:=BH (f:=aP) hx;have a4:=Te ((ba b m s).take i);rw[dw,NO,Nat.min_eq_left (by omega)]at a4;have a6:(fM ((ba b m s).take i) aP).take i=fM ((ba b m s).take i) aP:=ah (by omega);have h7:(i+1)*8<=room:=by unfold room;omega
  simp[h1,h4,hp,a4,a6,h7];refine WL.to ih (by simp[]) (by simp[<- a3]) λx e J hh=>by simpa[dG,Nat.add_comm 1 n]using hh
theorem OJ{b:bU}{m:b8}{s:List Rock.aG}(h:Fv b m)(hs:Sv b s)(hJ:J≠[]):Cl 358 [.agg (bM b m),lF s aG.enc] (lF (ba b m s) aP) J:=by
 refine au ?_;simp[];refine WL.to (It (J:=J) h hs s.length 0 0 (by omega)) (by simp) (by simp) ?_;rintro x e J' ⟨rfl,g4,rfl⟩;simp[g4];rw[lD (f:=aP) (by decide) (λ_=>rfl) (λx=>by simp) hJ (by simp)];simp
theorem QR{x:Rock.aG}:Cl 363 [.agg x.enc] (.bool x.valid) J:=by
 refine au ?_;cases hc1:bC x.m 1 1000000
 .simp[dQ,Rock.aG.valid,hc1]
 cases hc2:bC x.h 0 10000000000
 .simp[dQ,Rock.aG.valid,hc1,hc2]
 cases hc3:bC x.k 0 1000000000000
 .simp[dQ,Rock.aG.valid,hc1,hc2,hc3]
 simp[dQ,Rock.aG.valid,hc1,hc2,hc3]
theorem IV{x q m A:Int}(hm:1<=m)(hx:0<=x/\x<=A)(hq:0<=q/\q<=m):0<=(x*q).tdiv m/\(x*q).tdiv m<=A:=by
 have h1:=bz hx.1 hq.1;rw[aO h1];refine⟨Int.ediv_nonneg h1 (by omega),Int.ediv_le_of_le_mul (by omega) ?_⟩;exact cn hx.2 hq.2 hq.1 (by omega)
theorem VT{x:Rock.aG}{q:Int}(hm:1<=x.m/\x.m<=1000000)(hh:0<=x.h/\x.h<=10000000000)(hk:0<=x.k/\x.k<=1000000000000)(hq:0<=q/\q<=x.m):
  Cl 336 [.agg x.enc,iI q] (.agg (x.out q).enc) J:=by
 refine au ?_;have b1:=iS hh.1 hh.2 hq.1 (show q<=1000000 by omega);have b2:=iS hk.1 hk.2 hq.1 (show q<=1000000 by omega);have b3:=IV hm.1 hh hq;have b4:=IV hm.1 hk hq;have w1:=cb (n:=x.h*q);have w2:=cb (n:=x.k*q);have w3:=cb (n:=(x.h*q).tdiv x.m);have w4:=cb (n:=(x.k*q).tdiv x.m);have hne:¬x.m=0:=by omega
 simp[w1,w2,w3,w4,hne,Rock.aG.out]
def sm(x:Rock.aG)(n:Int):Prop:=(-n<=x.m/\x.m<=n)/\(-n<=x.h/\x.h<=n)/\(-n<=x.k/\x.k<=n)
theorem JE{F:List Abs.aG}{j v i:Nat}{s:List Rock.aG}{x o:Rock.aG}{sign:Int}(hF:F[j]?=some (.cells v (fM s aG.enc)))(hx:s[i]?=some x)(h1:sm x 1000000000000000000)(h2:sm o 1000000000000000000)(hs:sign=1\/sign = -1):
  dp T (.call false 334 [.ref J.length j v (i*3),.agg o.enc,iI sign] (F::J))=some (.val (.cN []) (F.set j (.cells v (fM (ck s i o sign) aG.enc))::J)):=by
 refine fx rfl rfl rfl (by simp) ?_;obtain⟨a1,a2,a3⟩:=h1;obtain⟨c1,c2,c3⟩:=h2;have hi:i<s.length:=(aC.1 hx).1;obtain⟨A,B,hA,hAB⟩:∃A B:List D,A.length=i*3/\fM s aG.enc=A++(x.enc++B):=by
  have hd:=pP (f:=aG.enc) (w:=3) (λ_=>rfl) hx;have hlen:=tA s;refine⟨(fM s aG.enc).take (i*3),(fM s aG.enc).drop (i*3+3),by rw[dw];omega,?_⟩;rw[<- hd,List.take_append_drop]
 have hset:fM (ck s i o sign) aG.enc=A++((x.move o sign).enc++B):=by
  have h3:=Mr (f:=aG.enc) (w:=3) (λ_=>rfl) (x:=x.move o sign) hi;have hblk:aQ s i=x:=by simp[aQ,hx]
  rw[ck,hblk,<- h3,hAB];have e1:(A++(x.enc++B)).take (i*3)=A:=by rw[<- hA];simp
  have e2:(A++(x.enc++B)).drop (i*3+3)=B:=by
   rw[<- dc,<- hA];simp
  rw[e1,e2]
 rw[hAB]at hF;rw[hset];have hj:j<F.length:=(aC.1 hF).1;have gs:∀X:Abs.aG,(F.set j X)[j]?=some X:=λX=>by simp[hj]
 clear hset hAB hx hj;have t1:∀L:List D,(A++L).take (A.length+1)=A++L.take 1:=λL=>by rw[List.take_length_add_append]
 have t2:∀L:List D,(A++L).take (A.length+1+1)=A++L.take 2:=λL=>by rw[dG,List.take_length_add_append]
 have d2:∀L:List D,(A++L).drop (A.length+1+1)=L.drop 2:=λL=>by rw[dG,cX]
 have d1:∀L:List D,(A++L).drop (A.length+1)=L.drop 1:=λL=>by rw[cX]
 have d3:∀L:List D,(A++L).drop (A.length+1+1+1)=L.drop 3:=λL=>by rw[dG,dG,cX]
 have⟨k1,k2,k3,k4⟩:A.length+1+1<=A.length+(B.length+1+1+1)/\A.length+1+1+1<=A.length+(B.length+1+1+1)/\A.length+1<=A.length+(B.length+1+1+1)/\A.length+2+1<=A.length+(B.length+1+1+1):=by omega
 have d4:∀L:List D,(A++L).drop (A.length+2)=L.drop 2:=λL=>by rw[cX]
 have d5:∀L:List D,(A++L).drop (A.length+2+1)=L.drop 3:=λL=>by rw[dG,cX]
 have t4:∀L:List D,(A++L).take (A.length+2)=A++L.take 2:=λL=>by rw[List.take_length_add_append]
 have y1:=cb (n:=o.m);have y2:=cb (n:=o.h);have y3:=cb (n:=o.k);have y4:=cb (n := -o.m);have y5:=cb (n := -o.h);have y6:=cb (n := -o.k);rcases hs with rfl | rfl
 .have w1:=cb (n:=x.m+o.m);have w2:=cb (n:=x.h+o.h);have w3:=cb (n:=x.k+o.k);simp[hF,gs,<- hA,w1,w2,w3,y1,y2,y3,t1,t2,d1,d2,d3,k1,k2,k3,Rock.aG.move]
 .have w1:=cb (n:=x.m + -o.m);have w2:=cb (n:=x.h + -o.h);have w3:=cb (n:=x.k + -o.k);simp[hF,gs,<- hA,w1,w2,w3,y4,y5,y6,t1,t2,d1,d2,d3,k1,k2,k3,Rock.aG.move]
theorem Ze{w:bG}{r:Int}(hr : -100000<=r/\r<=100000)(h1:0<=w.h/\w.h<=3000)(h2:0<=w.m/\w.m<=1000000):
  Cl 335 [.agg w.enc,iI r] (.agg (w.given r).enc) J:=by
 refine au ?_;have b1 : -300000000<=r*w.h/\r*w.h<=300000000:=by
  rcases eV 0 r with h | h
  .have:=iS h hr.2 h1.1 h1.2;omega
  .have:=iS (a := -r) (A:=100000) (by omega) (by omega) h1.1 h1.2;rw[Int.neg_mul]at this;omega
 have b2 : -100000000000<=r*w.m/\r*w.m<=100000000000:=by
  rcases eV 0 r with h | h
  .have:=iS h hr.2 h2.1 h2.2;omega
  .have:=iS (a := -r) (A:=100000) (by omega) (by omega) h2.1 h2.2;rw[Int.neg_mul]at this;omega
 have w1:=cb (n := -r);have w2:=cb (n := -(r*w.h));have w3:=cb (n := -(r*w.m));simp[w1,w2,w3,bG.given,Int.neg_mul]
theorem af8{b:bU}{m:b8}(h:Fv b m){i:Nat}(hi:i<b.n):Cl 337 [.agg (bM b m),iI i] (.agg (IM b m i).enc) J:=by
 refine au ?_;have hf:=λJ=>acH (J:=J) h.toMv hi
 have b1:=h.feed i hi;have b2:=h.bv.deep;have b3:=iS b1.1 b1.2 b2.1 b2.2;have w1:=cb (n:=feed b m i*b.deep);simp[hf,w1,IM]
theorem Y8{s:List Rock.aG}{bs:List Abs.aG}(hl:s.length<=1000000)(hne:s≠[]):dp T (.call true 332 [lF s aG.enc] (bs::J)) =
  some (.val (.sl J.length (bs.length+1) 1 0 s.length 3) ((bs++[.cells 0 [],.cells 1 (fM s aG.enc)])::J)):=by
 refine vw rfl rfl rfl ?_;have h7:s.length*24<=room:=by unfold room;omega
 simp[hne,tA,h7]
end Go.Proofs.YtpapbbojmclkgaaGreatDoor
