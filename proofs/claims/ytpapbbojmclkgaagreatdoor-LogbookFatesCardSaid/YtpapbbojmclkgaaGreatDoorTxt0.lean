import Derived.Test.YtpapbbojmclkgaaGreatDoorTab
set_option linter.all false
namespace Go.Rock
open Go Go.Abs
structure dw where
 x:Int
 y:Int
 z:Int
 k:Int
structure Rw where
 t:Int
 p:Int
 l:Int
 v:Int
 s:Int
structure bG where
 b:Int
 h:Int
 m:Int
structure bU where
 f:dw
 dL:List Rw
 cz:Int
 lift:Int
 deep:Int
 av:List bG
structure bV where
 name:List UInt8
 dn:List Int
structure aD where
 m:Int
 h:Int
 k:Int
@[simp] theorem dw.eta(p:dw):dw.mk p.x p.y p.z p.k=p:=rfl
@[simp] theorem Rw.eta(p:Rw):Rw.mk p.t p.p p.l p.v p.s=p:=rfl
@[simp] theorem bG.eta(p:bG):bG.mk p.b p.h p.m=p:=rfl
@[simp] theorem aD.eta(p:aD):aD.mk p.m p.h p.k=p:=rfl
@[simp] def dw.enc(f:dw):List D:=[iI f.x,iI f.y,iI f.z,iI f.k]
@[simp] def Rw.enc(r:Rw):List D:=[iI r.t,iI r.p,iI r.l,iI r.v,iI r.s]
@[simp] def bG.enc(r:bG):List D:=[iI r.b,iI r.h,iI r.m]
@[simp] def aD.enc(r:aD):List D:=[iI r.m,iI r.h,iI r.k]
@[simp] def aT(n:Int):List D:=[iI n]
@[simp] def bU.enc(b:bU):List D:=[iI b.f.x,iI b.f.y,iI b.f.z,iI b.f.k,.bY b.dL.length (fM b.dL Rw.enc),iI b.cz,iI b.lift,iI b.deep,.bY b.av.length (fM b.av bG.enc)]
@[simp] def bV.enc(m:bV):List D:=[.str m.name,.bY m.dn.length (fM m.dn aT)]
@[reducible,simp] def fL(f:dw):List D:=[iI f.x,iI f.y,iI f.z,iI f.k]
@[reducible,simp] def mL(m:bV):List D:=[.str m.name,lF m.dn aT]
@[reducible,simp] def bL(b:bU):List D:=[iI b.f.x,iI b.f.y,iI b.f.z,iI b.f.k,lF b.dL Rw.enc,iI b.cz,iI b.lift,iI b.deep,lF b.av bG.enc]
@[reducible,simp] def bM(b:bU)(m:bV):List D:=[iI b.f.x,iI b.f.y,iI b.f.z,iI b.f.k,lF b.dL Rw.enc,iI b.cz,iI b.lift,iI b.deep,lF b.av bG.enc,.str m.name,lF m.dn aT]
def XN(s:List aD):D:=.bY s.length (fM s aD.enc)
def bA(n lo hi:Int):Bool:=decide (lo<=n) && decide (n<=hi)
theorem aS{n lo hi:Int}:bA n lo hi=true↔lo<=n/\n<=hi:=by simp[bA]
def dw.size(f:dw):Int:=f.x*f.y*f.z
def dw.valid(f:dw):Bool:=bA f.x 1 8 && (bA f.y 1 8 && (bA f.z 1 8 && (decide (f.size<=64) && bA f.k 1 6)))
theorem dw.nv{f:dw}:f.valid=true↔(1<=f.x/\f.x<=8)/\(1<=f.y/\f.y<=8)/\(1<=f.z/\f.z<=8)/\f.size<=64/\(1<=f.k/\f.k<=6):=by
 simp[dw.valid,bA,and_assoc]
def dw.shape(f:dw):Int:=if f.valid then 0 else 1
def letter(c:UInt8):Bool:=decide (97<=c.toNat) && decide (c.toNat<=122)
def digit(c:UInt8):Bool:=decide (48<=c.toNat) && decide (c.toNat<=57)
def ov(i:Nat):List UInt8->Bool
 |[]=>true
 |c::l=>(letter c || (decide (i≠0) && digit c)) && ov (i+1) l
def named(s:List UInt8):Bool:=ov 0 s && bA s.length 1 16
def dw.model(f:dw)(m:bV):Int:=if named m.name then(if(m.dn.length:Int)=f.k*f.size/\da m.dn (λn=>bA n (-100000) 100000)=true then 0 else 1)else 5
def dw.each(f:dw)(met:List (List UInt8)):List bV->Int
 |[]=>0
 |m::l=>if f.model m=0 then(if met.contains m.name then 6 else f.each (met++[m.name]) l)else f.model m
def dw.ah(f:dw)(l:List bV):Int:=if bA l.length 1 40 then f.each [] l else 3
def fW(f:dw)(l:List bV):Int:=if f.valid then f.ah l else 1
def Rw.alone(r:Rw):Bool:=bA r.t 0 400 && (bA r.p 1 10000 && (bA r.l 0 4000 && (bA r.s 0 2000 && (decide (r.l<r.v) && decide (r.v<=4000)))))
def Rw.vZ(o r:Rw):Bool := !(decide (r.t<=o.t) || (decide (r.p<=o.p) || (decide (r.l<=o.l) || decide (r.s<o.s))))
def tV:List Rw->Bool
 |o::r::l=>o.vZ r && tV (r::l)
 |_=>true
def fO(t:List Rw):Bool:=bA t.length 2 20 && (da t Rw.alone && tV t)
def bG.ok(size:Int)(used:List Int)(w:bG):Bool:=bA w.b 0 (size-1) && (!used.contains w.b && (bA w.h 0 3000 && bA w.m 0 1000000))
def nT(size:Int)(used:List Int):List bG->Bool
 |[]=>true
 |w::l=>w.ok size used && nT size (used++[w.b]) l
def bU.size(b:bU):Int:=b.f.size
def bU.ok1(b:bU):Bool:=b.f.valid && (decide (4<=b.f.k) && (fO b.dL && (bA b.cz 1 100000 && (bA b.lift 0 1000 && (bA b.deep 0 3000 && decide (b.av.length<=8))))))
def bU.valid(b:bU):Bool:=b.ok1 && nT b.size [] b.av
def bU.n(b:bU):Nat:=b.size.toNat
def vV(b:bU)(m:bV)(k:Nat):List Int:=(m.dn.drop (k*b.n)).take b.n
def jE(b:bU)(m:bV)(k:Nat)(i:Nat):Int:=(m.dn[k*b.n+i]?).getD 0
def hold(b:bU)(m:bV)(i:Nat):Int:=jE b m 0 i
def zb(b:bU)(m:bV)(i:Nat):Int:=jE b m 1 i
def GS(b:bU)(m:bV)(i:Nat):Int:=jE b m 2 i
def feed(b:bU)(m:bV)(i:Nat):Int:=jE b m 3 i
def fits(b:bU)(m:bV):Bool:=decide (fW b.f [m]=0) && (da (vV b m 0) (λn=>bA n 1000 100000) && (da (vV b m 1) (λn=>bA n 0 1000) && (da (vV b m 2) (λn=>bA n 0 3000) && da (vV b m 3) (λn=>bA n 0 1000))))
def Bd(b:bU)(m:bV):Bool:=b.valid && fits b m
def bX(b:bU)(m:bV):List aD:=(List.range b.n).map λi=>⟨hold b m i,hold b m i*GS b m i,0⟩
def aD.valid(x:aD):Bool:=bA x.m 1 1000000 && (bA x.h 0 10000000000 && bA x.k 0 1000000000000)
def pQ(b:bU)(s:List aD):Bool:=decide ((s.length:Int)=b.size) && da s aD.valid
def weight(b:bU)(i:Nat):Int:=((i / (b.f.x.toNat*b.f.y.toNat):Nat):Int)*b.lift
def down(n d:Int):Int:=n / d
def aP(s:List aD)(i:Nat):aD:=(s[i]?).getD ⟨0,0,0⟩
def ia(x:aD)(out:Int)(r:Rw):Int:=if r.l*x.m<=x.h then max out r.p else out
def dk(b:bU)(m:bV)(s:List aD)(i:Nat):Int :=
 b.dL.foldl (ia (aP s i)) (max 0 (weight b i+down (b.cz*((aP s i).m-hold b m i)) (hold b m i)))
def ba(b:bU)(m:bV)(s:List aD):List Int:=(List.range s.length).map (dk b m s)
def vl(b:bU)(i:Nat):List (Nat×Nat) :=
 (if(i+1)%b.f.x.toNat≠0 then [(i,i+1)]else [])++((if i / b.f.x.toNat%b.f.y.toNat≠b.f.y.toNat-1 then [(i,i+b.f.x.toNat)]else [])++(if i+b.f.x.toNat*b.f.y.toNat<b.n then [(i,i+b.f.x.toNat*b.f.y.toNat)]else []))
def yG(b:bU):List (Nat×Nat):=fM (List.range b.n) (vl b)
def aD.out(x:aD)(m:Int):aD:=⟨m,(x.h*m).tdiv x.m,(x.k*m).tdiv x.m⟩
def aD.move(x o:aD)(sign:Int):aD:=⟨x.m+sign*o.m,x.h+sign*o.h,x.k+sign*o.k⟩
def BU(b:bU)(m:bV)(s:List aD)(p:List Int)(l:Nat×Nat):Option ((Nat×Nat)×aD) :=
 let d:=(p[l.1]?).getD 0-weight b l.1-(p[l.2]?).getD 0+weight b l.2
 let l':=if d<0 then(l.2,l.1)else l
 let d':=if d<0 then -d else d
 let q:=min ((min (zb b m l'.1) (zb b m l'.2)*d').tdiv 1000) ((aP s l'.1).m.tdiv 8)
 if 0<q then some (l',(aP s l'.1).out q)else none
def QW(es:List ((Nat×Nat)×aD))(k:Nat×Nat)(o:aD):List ((Nat×Nat)×aD) :=
 match es.findIdx? (λe=>e.1 == k)with
 |some j=>es.set j (k,o)
 |none=>es++[(k,o)]
def kF(b:bU)(m:bV)(s:List aD)(p:List Int)(es:List ((Nat×Nat)×aD))(l:Nat×Nat):List ((Nat×Nat)×aD) :=
 match BU b m s p l with
 |some e=>QW es e.1 e.2
 |none=>es
def sH(b:bU)(m:bV)(s:List aD):List ((Nat×Nat)×aD):=(yG b).foldl (kF b m s (ba b m s)) []
def cj(s:List aD)(i:Nat)(o:aD)(sign:Int):List aD:=s.set i ((aP s i).move o sign)
def ct(s:List aD)(e:(Nat×Nat)×aD):List aD:=cj (cj s e.1.1 e.2 (-1)) e.1.2 e.2 1
def bG.given(w:bG)(rate:Int):aD:=⟨-rate,-rate*w.h,-rate*w.m⟩
def ic(s:List aD)(w:bG)(rate:Int):aD:=if rate<0 then⟨0,0,0⟩else(aP s w.b.toNat).out (min rate ((aP s w.b.toNat).m.tdiv 8))
def l7(s next:List aD)(w:bG)(rate:Int):List aD:=if rate<0 then cj next w.b.toNat (w.given rate) 1 else cj next w.b.toNat (ic s w rate) (-1)
def Ic(b:bU)(m:bV)(i:Nat):aD:=⟨feed b m i,feed b m i*b.deep,0⟩
def mu(b:bU)(m:bV)(s:List aD)(aF:List Int):List aD :=
 let s1:=(sH b m s).foldl ct s
 let s2:=(b.av.zip aF).foldl (λn wr=>l7 s n wr.1 wr.2) s1
 (List.range s.length).foldl (λn i=>cj n i (Ic b m i) 1) s2
def bI(b:bU)(s:List aD)(aF:List Int):List aD:=(b.av.zip aF).map λwr=>ic s wr.1 wr.2
def tick(b:bU)(m:bV)(s:List aD)(aF:List Int):Option (List aD×List aD) :=
 if pQ b (mu b m s aF)then some (mu b m s aF,bI b s aF)else none
def pD(b:bU)(l:List Int):Int:=if l.length=b.av.length then(if da l (λn=>bA n (-100000) 100000)then 0 else 2)else 1
def bT{α:Type}(f:α->Int):List α->Int
 |[]=>0
 |x::l=>if f x=0 then bT f l else f x
def sJ(b:bU)(az:List (List Int)):Int:=if 200<az.length then 3 else bT (pD b) az
def nS(b:bU)(m:bV):List (List aD)->List (List aD)->List aD->List (List Int)->Option (List (List aD)×List (List aD))
 |ss,ys,_,[]=>some (ss,ys)
 |ss,ys,s,r::az =>
  match tick b m s r with
  |some (s',y)=>nS b m (ss++[s']) (ys++[y]) s' az
  |none=>none
def run(b:bU)(m:bV)(az:List (List Int)):Option (List (List aD)×List (List aD)):=nS b m [bX b m] [] (bX b m) az
end Go.Rock
namespace Go.Proofs.YtpapbbojmclkgaaGreatDoor
open Go Go.Abs Go.Rock
variable {J:SK}
theorem SB{a b A B:Int}(h1:1<=a)(h2:a<=A)(h3:1<=b)(h4:b<=B):1<=a*b/\a*b<=A*B :=
 ⟨by have:=Int.mul_pos (a:=a) (b:=b) (by omega) (by omega);omega,cH h2 h4 (by omega) (by omega)⟩
theorem iS{a b A B:Int}(h1:0<=a)(h2:a<=A)(h3:0<=b)(h4:b<=B):0<=a*b/\a*b<=A*B :=
 ⟨bF h1 h3,cH h2 h4 h3 (by omega)⟩
theorem dw.sz{f:dw}(hx:1<=f.x/\f.x<=8)(hy:1<=f.y/\f.y<=8)(hz:1<=f.z/\f.z<=8):(1<=f.x*f.y/\f.x*f.y<=64)/\(1<=f.x*f.y*f.z/\f.x*f.y*f.z<=512):=by
 have h1:=SB hx.1 hx.2 hy.1 hy.2;have h2:=SB h1.1 h1.2 hz.1 hz.2;exact⟨by omega,by omega⟩
theorem dM{a b c:Int}:Cl AH [iI a,iI b,iI c] (.bool (bA a b c)) J:=by
 refine au rfl rfl rfl ?_;by_cases h:b<=a<;>simp[h,bA]
theorem iV{a b c:Int}:Cl yp [iI a,iI b,iI c] (.bool (bA a b c)) J:=by
 refine au rfl rfl rfl ?_;by_cases h:b<=a<;>simp[h,bA]
theorem jH{a b c:Int}:Cl yE [iI a,iI b,iI c] (.bool (bA a b c)) J:=by
 refine au rfl rfl rfl ?_;by_cases h:b<=a<;>simp[h,bA]
theorem I8{f:dw}(hx:1<=f.x/\f.x<=8)(hy:1<=f.y/\f.y<=8)(hz:1<=f.z/\f.z<=8):Cl lS [.agg (fL f)] (iI f.size) J:=by
 refine au rfl rfl rfl ?_;obtain⟨h1,h2⟩:=dw.sz hx hy hz;have w1:=cf (n:=f.x*f.y) (by omega);have w2:=cf (n:=f.x*f.y*f.z) (by omega);simp[w1,w2,dw.size]
theorem U8{f:dw}:Cl qq [.agg (fL f)] (.bool f.valid) J:=by
 refine au rfl rfl rfl ?_;cases hc1:bA f.x 1 8
 .simp[iV,dw.valid,hc1]
 cases hc2:bA f.y 1 8
 .simp[iV,dw.valid,hc1,hc2]
 cases hc3:bA f.z 1 8
 .simp[iV,dw.valid,hc1,hc2,hc3]
 have hb:=λJ=>I8 (J:=J) (f:=f) (aS.1 hc1) (aS.1 hc2) (aS.1 hc3)
 by_cases hc4:f.size<=64
 .simp[iV,dw.valid,hc1,hc2,hc3,hc4,hb]
 .simp[iV,dw.valid,hc1,hc2,hc3,hc4,hb]
theorem II{f:dw}:Cl gZ [.agg (fL f)] (iI f.shape) J:=by
 refine au rfl rfl rfl ?_;have hb:=λJ=>U8 (J:=J) (f:=f)
 cases hc:f.valid<;>rw[hc]at hb<;>simp[hb,dw.shape,hc]
theorem jk{f:dw}:Cl rR [.agg (fL f)] (iI f.shape) J:=by
 refine au rfl rfl rfl ?_;have hb:=λJ=>II (J:=J) (f:=f)
 simp[hb]
theorem RN{s:List UInt8}(hl:s.length<=1000000000):∀(m i:Nat),i+m=s.length ->
  WL T [0,6,7] false mK [(0,.str s),(6,iI s.length),(7,iI i)] J
   (λx e J'=>J'=J/\if ov i (s.drop i)then x=.exit 0/\get e 0=.str s else x=.ret/\get e 2=.bool false)
 |0,i,hi=>by
  refine aB mK.eq_1 ?_;have h1:¬i<s.length:=by omega
  have h2:s.drop i=[]:=an (by omega);simp[h1,h2,ov]
 |m+1,i,hi=>by
  refine aB mK.eq_1 ?_;have h1:i<s.length:=by omega
  obtain⟨c,hc⟩:=gE h1;have h4:=cr h1 (by omega);have h5:=bD hc;have ih:=RN hl m (i+1) (by omega);rw[h5,ov];have hd:gW .KZ [.str s,iI (i:Int)]=some (.int .u8 c.toNat):=by simp[gW,hc]
  by_cases hc1:97<=c.toNat
  .by_cases hc2:c.toNat<=122
   .have hlet:letter c=true:=by simp[letter,hc1,hc2]
    simp[h1,h4,hd,hlet,show(97:Int)<=(c.toNat:Int)by omega,show(c.toNat:Int)<=122 by omega];exact WL.to ih (by simp) rfl λx e J' hh=>by simpa[hlet]using hh
   .have hlet:letter c=false:=by simp[letter,hc2]
    have hdig:digit c=false:=by simp[digit];omega
    by_cases hi0:i=0
    .subst hi0;have hd0:gW .KZ [.str s,iI 0]=some (.int .u8 c.toNat):=by simpa using hd
     have h1':0<s.length:=h1;simp[h1',hd0,hlet,hdig,show(97:Int)<=(c.toNat:Int)by omega,show ¬(c.toNat:Int)<=122 by omega]
    .simp[h1,hd,hlet,hdig,hi0,show(97:Int)<=(c.toNat:Int)by omega,show ¬(c.toNat:Int)<=122 by omega,show ¬(c.toNat:Int)<48 by omega,show(57:Int)<(c.toNat:Int)by omega]
  .have hlet:letter c=false:=by simp[letter,hc1]
   by_cases hi0:i=0
   .subst hi0;have hd0:gW .KZ [.str s,iI 0]=some (.int .u8 c.toNat):=by simpa using hd
    have h1':0<s.length:=h1;simp[h1',hd0,hlet,show ¬(97:Int)<=(c.toNat:Int)by omega]
   .by_cases hc3:c.toNat<48
    .have hdig:digit c=false:=by simp[digit];omega
     simp[h1,hd,hlet,hdig,hi0,show ¬(97:Int)<=(c.toNat:Int)by omega,show(c.toNat:Int)<48 by omega]
    .by_cases hc4:57<c.toNat
     .have hdig:digit c=false:=by simp[digit];omega
      simp[h1,hd,hlet,hdig,hi0,show ¬(97:Int)<=(c.toNat:Int)by omega,show ¬(c.toNat:Int)<48 by omega,show(57:Int)<(c.toNat:Int)by omega]
     .have hdig:digit c=true:=by simp[digit];omega
      simp[h1,h4,hd,hlet,hdig,hi0,show ¬(97:Int)<=(c.toNat:Int)by omega,show ¬(c.toNat:Int)<48 by omega,show ¬(57:Int)<(c.toNat:Int)by omega];exact WL.to ih (by simp) rfl λx e J' hh=>by simpa[hlet,hdig,hi0]using hh
theorem IH{s:List UInt8}(hl:s.length<=1000000000):Cl Aj [.str s] (.bool (named s)) J:=by
 refine au rfl rfl rfl ?_;have hp:gW .PH [.str s]=some (iI s.length):=rfl;simp[hp];refine WL.to (RN (J:=[]::J) hl s.length 0 (by omega)) (by simp) rfl ?_;rintro x e J' ⟨rfl,h⟩;simp only[aE]at h;unfold named;cases hc:ov 0 s
 .simp[hc]at h;simp[h]
 .simp[hc]at h;simp[h,hp,iV]
theorem Yx{a:Int}:Cl kQ [iI a] (.bool (bA a (-100000) 100000)) J:=by
 refine au rfl rfl rfl ?_;simp[iV]
theorem Tk{l:List Int}{p:Int->Bool}{fv:D}(hl:l.length<=1000000000)(ht:oJ T fv (λn=>iI n) p l)(hc:fv.cells=some [fv]):
  Cl rH [lF l aT,fv] (.bool (da l p)) J :=
 BK (MK .i64) (f:=rH) (g:=tB) (h:=dW) (i:=eZ) (l:=l) (p:=p) (fv:=fv) rfl rfl rfl rfl (by omega) ht hc
theorem Br{f:dw}(hf:f.valid=true):(1<=f.size/\f.size<=64)/\1<=f.k*f.size/\f.k*f.size<=384:=by
 obtain⟨h1,h2,h3,h4,h5⟩:=dw.nv.1 hf;obtain⟨_,h6⟩:=dw.sz h1 h2 h3;have h7:=SB h5.1 h5.2 (b:=f.size) (B:=64) (by unfold dw.size;omega) h4;exact⟨⟨by unfold dw.size;omega,h4⟩,by omega,by omega⟩
theorem Rx{f:dw}{m:bV}(hf:f.valid=true)(hn:m.name.length<=1000000000)(hl:m.dn.length<=1000000000):Cl qh [.agg (fL f),.agg (mL m)] (iI (f.model m)) J:=by
 refine au rfl rfl rfl ?_;obtain⟨h1,h2,h3,h4,h5⟩:=dw.nv.1 hf;obtain⟨h6,h7⟩:=Br hf;have w1:=cf (n:=f.k*f.size) (by omega);have hb:=λJ=>I8 (J:=J) (f:=f) h1 h2 h3
 have ha:=λJ=>Tk (J:=J) (l:=m.dn) (p:=λn=>bA n (-100000) 100000) (fv:=.fn kQ [] []) hl (oJ.fn λx _ J=>by simpa using Yx) rfl
 cases hc1:named m.name
 .simp[IH hn,hc1,dw.model]
 .by_cases hc2:(m.dn.length:Int)=f.k*f.size
  .cases hc3:da m.dn (λn=>bA n (-100000) 100000)<;>
    simp[IH hn,hc1,hc2,hc3,dw.model,hb,ha,w1]
  .simp[IH hn,hc1,hc2,dw.model,hb,w1]
def Es(met:List (List UInt8)):List D:=met.map λn => .cV [.str n,.bool true]
theorem Hb{k:List UInt8}:∀{met:List (List UInt8)},∃r,pc none (.str k) (Es met)=some r/\(met.contains k=true->∃j,r=some (j,.bool true))/\(met.contains k=false->r=none)
 |[]=>⟨none,rfl,by simp,by simp⟩
 |n::met=>by
  obtain⟨r,h1,h2,h3⟩:=Hb (k:=k) (met:=met);simp only[Es,aN]at h1 ⊢;by_cases hk:k=n
  .subst hk;exact⟨some (0,.bool true),by simp[pc,so],λ_=>⟨0,rfl⟩,by simp⟩
  .have hb:(k == n)=false:=by simpa using hk
   refine⟨r.map λy=>(y.1+1,y.2),by simp[pc,so,hb,h1],?_,?_⟩
   .intro hc;have:met.contains k=true:=by simpa[hk]using hc
    obtain⟨j,rfl⟩:=h2 this;exact⟨j+1,rfl⟩
   .intro hc;have:met.contains k=false:=by simp at hc ⊢;exact hc.2
    rw[h3 this];rfl
theorem aa7{S:SK}{l i:Nat}{met:List (List UInt8)}{k:List UInt8}(h:cells? S l i 0=some (Es met)):CW S (.get none (.bool false) false) [.kV l i,.str k]=some (.bool (met.contains k),S):=by
 obtain⟨r,h1,h2,h3⟩:=Hb (k:=k) (met:=met);simp only[CW,CV,h,aZ,h1];cases hc:met.contains k
 .rw[h3 hc];simp[so]
 .obtain⟨j,rfl⟩:=h2 hc;simp[so]
theorem aa8{S:SK}{l i:Nat}{met:List (List UInt8)}{k:List UInt8}(h:cells? S l i 0=some (Es met))(hn:met.contains k=false):
  CW S (.put none) [.kV l i,.str k,.bool true]=some (.undef,bh S l i (.cells 0 (Es (met++[k])))):=by
 obtain⟨r,h1,h2,h3⟩:=Hb (k:=k) (met:=met);simp only[CW,CV,h,aZ,h1];rw[h3 hn];simp[so,Es,D.clean]
theorem aiv{f:dw}{m:bV}(hf:f.valid=true)(hn:m.name.length<=1000000000)(hl:m.dn.length<=1000000000):
  Cl gN [.agg (mL m),.bf (fL f)] (.cV [.str m.name,iI (f.model m)]) J:=by
 refine au rfl rfl rfl ?_;simp[Rx hf hn hl]
theorem VG{f:dw}{l:List bV}(hf:f.valid=true)(hs:∀m∈l,m.name.length<=1000000000/\m.dn.length<=1000000000)(hl:l.length<=1000000000):∀(k i:Nat) (met:List (List UInt8)),i+k=l.length ->
  WL T [1,5,11,12,13] false ef [(1,.fn gN [] [.bf (fL f)]),(5,.kV J.length 0),(11,lF l bV.enc),(12,iI l.length),(13,iI i)] ([.cells 0 (Es met)]::J)
   (λx e J'=>∃s,J'=s::J/\if f.each met (l.drop i)=0 then x=.exit 0 else x=.ret/\get e 4=iI (f.each met (l.drop i)))
 |0,i,met,hi=>by
  refine aB ef.eq_1 ?_;have h1:¬i<l.length:=by omega
  have h2:l.drop i=[]:=an (by omega);simp[h1,h2,dw.each]
 |k+1,i,met,hi=>by
  refine aB ef.eq_1 ?_;have h1:i<l.length:=by omega
  obtain⟨m,hm⟩:=gE h1;have h2:=bu (f:=bV.enc) (w:=2) (λ_=>rfl) hm;have h4:=cr h1 (by omega);have h5:=bD hm;obtain⟨hs1,hs2⟩:=hs m (aj hm);have hC:=λJ=>aiv (J:=J) hf hs1 hs2
  rw[h5,dw.each];by_cases hc1:f.model m=0
  .have hg:=aa7 (S:=[.cells 0 (Es met)]::J) (l:=J.length) (i:=0) (met:=met) (k:=m.name) (by simp);cases hc2:met.contains m.name
   .rw[hc2]at hg;have hp:=aa8 (S:=[.cells 0 (Es met)]::J) (l:=J.length) (i:=0) (met:=met) (k:=m.name) (by simp) hc2;have ih:=VG hf hs hl k (i+1) (met++[m.name]) (by omega);simp at hp;have hc3:¬m.name∈met:=by simpa using hc2
    simp[h1,h2,h4,hC,hc1,hg,hp];exact WL.to ih (by simp) (by simp) λx e J' hh=>by simpa[hc1]using hh
   .rw[hc2]at hg;have hc3:m.name∈met:=by simpa using hc2
    simp[h1,h2,hC,hc1,hg]
  .simp[h1,h2,hC,hc1]
theorem abP{f:dw}{l:List bV}(hf:f.valid=true)(hs:∀m∈l,m.name.length<=1000000000/\m.dn.length<=1000000000)(hl:l.length<=1000000000):
  Cl mj [lF l bV.enc,.fn gN [] [.bf (fL f)]] (iI (f.each [] l)) J:=by
 refine au rfl rfl rfl ?_;have hm:CW ([]::J) .make []=some (.kV J.length 0,[.cells 0 (Es [])]::J):=by simp[CW,Es]
 simp[hm];refine WL.to (VG (J:=J) hf hs hl l.length 0 [] (by omega)) (by simp) (by simp) ?_;rintro x e J' ⟨s,rfl,h⟩;simp only[aE]at h;by_cases hc:f.each [] l=0
 .rw[if_pos hc]at h;subst h;simp[hc]
 .rw[if_neg hc]at h;obtain⟨rfl,h⟩:=h;simp[h]
theorem Ve{f:dw}{l:List bV}(hf:f.valid=true)(hs:∀m∈l,m.name.length<=1000000000/\m.dn.length<=1000000000)(hl:l.length<=1000000000):
  Cl pg [.agg (fL f),lF l bV.enc] (iI (f.ah l)) J:=by
 refine au rfl rfl rfl ?_;cases hc:bA l.length 1 40
 .simp[iV,hc,dw.ah]
 .simp[iV,hc,dw.ah,abP hf hs hl]
theorem I3{f:dw}{l:List bV}(hf:f.valid=true)(hs:∀m∈l,m.name.length<=1000000000/\m.dn.length<=1000000000)(hl:l.length<=1000000000):
  Cl kP [.bf (fL f),.bf [lF l bV.enc]] (iI (f.ah l)) J:=by
 refine au rfl rfl rfl ?_;simp[Ve hf hs hl]
theorem Mk{fs:List D}{es:List Int}(hlen:fs.length=es.length)(hl:fs.length<=100)(hfs:∀d∈fs,d.strip=d/\d.calm=d/\PW false 1 (some [d])=some d)
  (hcall:∀(i:Nat) d n,fs[i]?=some d->es[i]?=some n->(∀j,j<i->es[j]?=some 0)->∀J,nV (dj T) false d [] J=some (iI n,J)):
  Cl Ai [.bY fs.length fs] (iI (bT id es)) J:=by
 have loop:∀(k i:Nat) (J:SK),i+k=fs.length->(∀j,j<i->es[j]?=some 0) ->
   WL T [6,7,8] false mJ [(6,.bY fs.length fs),(7,iI fs.length),(8,iI i)] J
    (λx e J'=>J'=J/\if bT id (es.drop i)=0 then x=.exit 0 else x=.ret/\get e 2=iI (bT id (es.drop i))):=by
  intro k;induction k with
  |zero =>
   intro i J hi h0;refine aB mJ.eq_1 ?_;have h1:¬i<fs.length:=by omega
   have h2:es.drop i=[]:=an (by omega);simp[h1,h2,bT]
  |succ k ih =>
   intro i J hi h0;refine aB mJ.eq_1 ?_;have h1:i<fs.length:=by omega
   obtain⟨d,hd⟩:=gE h1;obtain⟨n,hn⟩:∃n,es[i]?=some n:=gE (by omega);obtain⟨g1,g2,g3⟩:=hfs d (aj hd);have h2:=bu (f:=λd:D=>[d]) (w:=1) (λ_=>rfl) (l:=fs) hd;rw[show(fM fs λd=>[d])=fs from by simp[fM]]at h2;have h4:=cr h1 (by omega);have h5:=bD hn;have hc:=hcall i d n hd hn h0;simp only[cp]at h2;rw[h5,bT];by_cases hz:n=0
   .subst hz;have ih':=ih (i+1) J (by omega) (λj hj=>by
     by_cases hji:j=i
     .subst hji;exact hn
     .exact h0 j (by omega))
    simp[h1,h2,h4,g1,g2,hc];exact WL.to ih' (by simp) rfl λx e J' hh=>by simpa using hh
   .simp[h1,h2,g1,g2,hc,hz]
 refine au rfl rfl rfl ?_;simp;refine WL.to (loop fs.length 0 ([]::J) (by omega) (by simp)) (by simp) rfl ?_;rintro x e J' ⟨rfl,h⟩;simp only[aE]at h;by_cases hc:bT id es=0
 .rw[if_pos hc]at h;subst h;simp[hc]
 .rw[if_neg hc]at h;obtain⟨rfl,h⟩:=h;simp[h]
theorem Ex{f:dw}{l:List bV}(hs:∀m∈l,m.name.length<=1000000000/\m.dn.length<=1000000000)(hl:l.length<=1000000000):
  Cl qd [.agg (fL f),lF l bV.enc] (iI (fW f l)) J:=by
 refine au rfl rfl rfl ?_;have hC:=λJ=>Mk (J:=J) (fs:=[.fn gZ [.agg (fL f)] [],.fn kP [] [.bf (fL f),.bf [lF l bV.enc]]]) (es:=[f.shape,f.ah l]) rfl (by simp) (by simp) (by
  intro i d n hd hn h0 J;match i with
  |0 =>
   simp at hd hn;subst hd hn;simp[II]
  |1 =>
   simp at hd hn;subst hd hn;have h1:f.valid=true:=by
    have:=h0 0 (by omega);simp[dw.shape]at this;exact this
   simp[I3 h1 hs hl]
  |i+2=>simp at hd)
 simp at hC;have e1:bT id [f.shape,f.ah l]=fW f l:=by
  simp only[bT,id,fW,dw.shape];by_cases h:f.valid=true
  .by_cases h2:f.ah l=0<;>simp[h,h2]
  .simp[h]
 rw[e1]at hC;simp[hC]
end Go.Proofs.YtpapbbojmclkgaaGreatDoor
namespace Go.Abs
open Go
variable {T:Ad}
def oo(q:Nat->Bool)(i:Nat):Nat->Bool×Nat
 |0=>(false,i)
 |m+1=>if q i then(true,i+1)else oo q (i+1) m
theorem Ej{q:Nat->Bool}:∀{m i:Nat},(oo q i m).1=false↔∀j,j<m->q (i+j)=false
 |0,i=>by simp[oo]
 |m+1,i=>by
  simp only[oo];by_cases h:q i=true
  .simp only[h,if_true,Bool.true_eq_false,false_iff];intro hh;have:=hh 0 (by omega);simp[h]at this
  .have h':q i=false:=by simpa using h
   simp only[h',aC,if_false];rw[Ej (m:=m) (i:=i+1)];constructor
   .intro hh j hj;cases j with
    |zero=>simpa using h'
    |succ j=>have:=hh j (by omega);rwa[show i+1+j=i+(j+1)from by omega]at this
   .intro hh j hj;have:=hh (j+1) (by omega);rwa[show i+(j+1)=i+1+j from by omega]at this
section
variable {α:Type} (E:Y3 α) {fv:D} {l:List α} {q:Nat->Bool} {S:Nat->SK}
theorem LF(hl:l.length<=9223372036854775807)(h1:fv.strip=fv)(h2:fv.calm=fv)(ht:∀i x,l[i]?=some x->nV (dj T) false fv [E.val x] (S i)=some (.bool (q i),S (i+1))):∀(m i:Nat),i+m=l.length ->
  WL T [0,1,7,8] false (J1 E.ag E.w) [(0,.bY l.length (fM l E.enc)),(1,fv),(7,iI l.length),(8,iI i)] (S i)
   (λx e J'=>J'=S (oo q i m).2/\if(oo q i m).1=true then x=.ret/\∃j:Nat,get e 4=iI j else x=.exit 0)
 |0,i,hi=>by
  refine aB (J1.eq_1 _ _) ?_;have:¬i<l.length:=by omega
  simp[this,h2,oo]
 |m+1,i,hi=>by
  refine aB (J1.eq_1 _ _) ?_;have h4:i<l.length:=by omega
  obtain⟨x,hx⟩:=gE h4;have h5:=bu (f:=E.enc) E.len hx;have h6:=ht i x hx;have h7:=cr h4 hl;have ih:=LF hl h1 h2 ht m (i+1) (by omega);cases hq:q i
  .rw[hq]at h6;simp[h4,h1,h2,h5,h6,h7,E.load,E.strip];refine WL.mono (by simpa using ih) ?_;rintro x e J' ⟨h9,h10⟩;simp only[oo,hq,aC,if_false];exact⟨h9,h10⟩
  .rw[hq]at h6;simp[h4,h1,h2,h5,h6,E.load,E.strip,oo,hq];exact⟨i,rfl⟩
theorem T6{f:Nat}(hT:T f=some (uG E.ag E.w))(hl:l.length<=9223372036854775807)(h1:fv.strip=fv)(h2:fv.calm=fv)(hlen:∀i,(S i).length=(S 0).length)
  (ht:∀i x,l[i]?=some x->nV (dj T) false fv [E.val x] ([]::S i)=some (.bool (q i),[]::S (i+1))):
  ∃n:Int,dj T (.call false f [.bY l.length (fM l E.enc),fv] (S 0))=some (.val (iI n) (S (oo q 0 l.length).2))/\(0<=n↔(oo q 0 l.length).1=true):=by
 have h:=LF E (S:=λi=>[]::S i) hl h1 h2 ht l.length 0 (by omega);cases hq:(oo q 0 l.length).1
 .refine⟨-1,?_,by simp⟩;refine fJ hT (uG.eq_1 _ _) rfl (hlen _) ?_;simp[h2];refine WL.mono (by simpa using h) ?_;rintro x e J' ⟨rfl,h10⟩;rw[hq]at h10;simp only[aC,if_false]at h10;subst h10;simp
 .obtain⟨x,e,J',hw,rfl,h10⟩:=h;rw[hq]at h10;simp only[if_true]at h10;obtain⟨rfl,j,hj⟩:=h10;refine⟨j,?_,by simp⟩;refine fJ hT (uG.eq_1 _ _) rfl (hlen _) ?_;simp[h2];refine⟨_,_,_,by simpa using hw,?_⟩;simp[hj]
theorem MF{f i:Nat}(hT:T f=some (iX i))(hi:T i=some (uG E.ag E.w))(hl:l.length<=9223372036854775807)(h1:fv.strip=fv)(h2:fv.calm=fv)(hlen:∀i,(S i).length=(S 0).length)
  (ht:∀i x,l[i]?=some x->nV (dj T) false fv [E.val x] ([]::[]::S i)=some (.bool (q i),[]::[]::S (i+1))):
  dj T (.call false f [.bY l.length (fM l E.enc),fv] (S 0))=some (.val (.bool (oo q 0 l.length).1) (S (oo q 0 l.length).2)):=by
 obtain⟨n,h,hn⟩:=T6 E (S:=λi=>[]::S i) hi hl h1 h2 (λi=>by simp[hlen i]) ht;refine fJ hT (iX.eq_1 _) rfl (hlen _) ?_;have h4:decide (0<=n)=(oo q 0 l.length).1:=by
  cases hq:(oo q 0 l.length).1
  .rw[hq]at hn;simp at hn;exact decide_eq_false (by omega)
  .exact decide_eq_true (hn.2 hq)
 simp[h1,h2,h,h4]
theorem VV{g:Nat}{x:α}{b:Bool}{J J':SK}(hT:T g=some (Af E.ag E.w))(hlen:J'.length=J.length)(h1:fv.strip=fv)(h2:fv.calm=fv)(ht:nV (dj T) false fv [E.val x] ([]::J)=some (.bool b,[]::J')):
  nV (dj T) false (.fn g [] [.bf [fv]]) [E.val x] J=some (.bool (!b),J'):=by
 rw[oY];have hc:=E.cells x;have hl:=E.load x;have hs:=E.strip x;have hcm:=E.calm x;have key:dj T (.call false g ([]++[E.val x]++[.bf [fv]]) J)=some (.val (.bool (!b)) J'):=by
  generalize E.ag=ag at *
  cases ag with
  |true =>
   refine fJ hT (Af.eq_1 _) rfl hlen ?_;simp[h1,ht,hc,hl,hs]
  |false =>
   refine fJ hT (Af.eq_2 _) rfl hlen ?_;simp[h1,ht,hs,hcm]
 rw[key];rfl
theorem My{f g h i:Nat}{p:Nat->Bool}(hf:T f=some (FQ g h))(hg:T g=some (Af E.ag E.w))(hh:T h=some (iX i))(hi:T i=some (uG E.ag E.w))
  (hl:l.length<=9223372036854775807) (h1:fv.strip=fv) (h2:fv.calm=fv) (hcl:fv.cells=some [fv]) (hlen:∀i,(S i).length=(S 0).length)
  (ht:∀i x,l[i]?=some x->nV (dj T) false fv [E.val x] ([]::[]::[]::[]::S i)=some (.bool (p i),[]::[]::[]::[]::S (i+1))):
  dj T (.call false f [.bY l.length (fM l E.enc),fv] (S 0))=some (.val (.bool !(oo (λi => !p i) 0 l.length).1) (S (oo (λi => !p i) 0 l.length).2)):=by
 have hc:=MF E (S:=λi=>[]::S i) (fv:=.fn g [] [.bf [fv]]) (q:=λi => !p i) hh hi hl rfl rfl (λi=>by simp[hlen i]) (λi x hx=>VV E hg (by simp[hlen i,hlen (i+1)]) h1 h2 (ht i x hx));refine fJ hf (FQ.eq_1 _ _) rfl (hlen _) ?_;simp[h1,hc,hcl]
theorem Zd{f g h i:Nat}{p:α->Bool}{J:SK}(hf:T f=some (FQ g h))(hg:T g=some (Af E.ag E.w))(hh:T h=some (iX i))(hi:T i=some (uG E.ag E.w))
  (hl:l.length<=9223372036854775807) (h1:fv.strip=fv) (h2:fv.calm=fv) (hcl:fv.cells=some [fv])
  (ht:∀x∈l,nV (dj T) false fv [E.val x] ([]::[]::[]::[]::J)=some (.bool (p x),[]::[]::[]::[]::J)):
  dj T (.call false f [.bY l.length (fM l E.enc),fv] J)=some (.val (.bool (da l p)) J):=by
 have h0:=My E (T:=T) (S:=λ_=>J) (fv:=fv) (l:=l) (p:=λi=>match l[i]? with | some x=>p x | none=>true) hf hg hh hi hl h1 h2 hcl (λ_=>rfl) (λi x hx=>by
  rw[ht x (aj hx)];simp[hx])
 have he:(!(oo (λi => !(match l[i]? with | some x=>p x | none=>true)) 0 l.length).1)=da l p:=by
  have h2:=Ej (q:=λi => !(match l[i]? with | some x=>p x | none=>true)) (m:=l.length) (i:=0);cases hw:da l p
  .rw[Bool.not_eq_false'];cases hs:(oo (λi => !(match l[i]? with | some x=>p x | none=>true)) 0 l.length).1
   .have h3:=h2.1 hs;have h4:da l p=true:=eO.2 λx hx=>by
     obtain⟨j,hj⟩:=fV hx;have:=h3 j (aA.1 hj).1;simpa[hj]using this
    rw[hw]at h4;cases h4
   .rfl
  .rw[dR];refine h2.2 λj hj=>?_
   have hx:=aI hj;have:=eO.1 hw _ (List.getElem_mem hj);simp[hx,this]
 rw[he]at h0;exact h0
end
end Go.Abs
namespace Go.Proofs.YtpapbbojmclkgaaGreatDoor
open Go Go.Abs Go.Rock
variable {J:SK}
theorem Ym{r:Rw}:Cl oQ [.agg r.enc] (.bool r.alone) J:=by
 refine au rfl rfl rfl ?_;cases hc1:bA r.t 0 400
 .simp[jH,Rw.alone,hc1]
 cases hc2:bA r.p 1 10000
 .simp[jH,Rw.alone,hc1,hc2]
 cases hc3:bA r.l 0 4000
 .simp[jH,Rw.alone,hc1,hc2,hc3]
 cases hc4:bA r.s 0 2000
 .simp[jH,Rw.alone,hc1,hc2,hc3,hc4]
 by_cases hc5:r.l<r.v
 rotate_left
 .simp[jH,Rw.alone,hc1,hc2,hc3,hc4,hc5]
 simp[jH,Rw.alone,hc1,hc2,hc3,hc4,hc5]
theorem ab3{l:List Rw}(hl:l.length<=1000000000):Cl kR [lF l Rw.enc,.fn oQ [] []] (.bool (da l Rw.alone)) J :=
 BK (xJ 5 Rw.enc (λ_=>rfl)) (f:=kR) (g:=nk) (h:=iy) (i:=jO) (l:=l) (p:=Rw.alone) rfl rfl rfl rfl (by omega) (oJ.fn λx _ J=>Ym) rfl
theorem aaM{t l:List Rw}{o:Rw}(hto:t=o::l)(hl:l.length<=100):∀(m i:Nat),i+m=l.length ->
  WL T [0,16,17,18] false gg [(0,lF t Rw.enc),(16,lF l Rw.enc),(17,iI l.length),(18,iI i)] J
   (λx e J'=>J'=J/\if tV (t.drop i)then x=.exit 0 else x=.ret/\get e 2=.bool false)
 |0,i,hi=>by
  refine aB gg.eq_1 ?_;have h1:¬i<l.length:=by omega
  have h2:t.drop i=[t[i]'(by subst hto;simp;omega)]:=by
   rw[List.drop_eq_getElem_cons (by subst hto;simp;omega),an (by subst hto;simp;omega)]
  simp[h1,h2,tV]
 |m+1,i,hi=>by
  refine aB gg.eq_1 ?_;have h1:i<l.length:=by omega
  have htl:t.length=l.length+1:=by subst hto;rfl
  obtain⟨r,hr⟩:=gE h1;obtain⟨r0,hr0⟩:∃r0,t[i]?=some r0:=gE (by omega);have h2:=bu (f:=Rw.enc) (w:=5) (λ_=>rfl) hr;have h3:=bu (f:=Rw.enc) (w:=5) (λ_=>rfl) hr0;have h4:=cr h1 (by omega);have h6:t.drop (i+1)=r::t.drop (i+2):=bD (by subst hto;simpa using hr);have h5:t.drop i=r0::r::t.drop (i+2):=by rw[bD hr0,h6]
  have ih:=aaM hto hl m (i+1) (by omega);rw[h6]at ih;rw[h5,tV];have⟨hlt,hlt'⟩:(i:Int)<(t.length:Int)/\i<t.length:=by omega
  by_cases c1:r.t<=r0.t
  .simp[h1,hlt,h2,h3,c1,Rw.vZ]
  by_cases c2:r.p<=r0.p
  .simp[h1,hlt,h2,h3,c1,c2,Rw.vZ]
  by_cases c3:r.l<=r0.l
  .simp[h1,hlt,h2,h3,c1,c2,c3,Rw.vZ]
  by_cases c4:r.s<r0.s
  .simp[h1,hlt,h2,h3,c1,c2,c3,c4,Rw.vZ]
  .simp[h1,hlt,h2,h3,h4,c1,c2,c3,c4,Rw.vZ];have hc:r0.t<r.t/\r0.p<r.p/\r0.l<r.l/\r0.s<=r.s:=by omega
   exact WL.to ih (by simp) rfl λx e J' hh=>by simpa[hc]using hh
theorem Fg{t:List Rw}(hl:t.length<=1000000000):Cl qU [lF t Rw.enc] (.bool (fO t)) J:=by
 refine au rfl rfl rfl ?_;have ha:=λJ=>ab3 (J:=J) (l:=t) hl
 cases hc1:bA t.length 2 20
 .simp[jH,hc1,fO]
 cases hc2:da t Rw.alone
 .simp[jH,hc1,hc2,ha,fO]
 obtain⟨o,l,hto⟩:∃o l,t=o::l:=by
  cases t with
  |nil=>simp[bA]at hc1
  |cons o l=>exact⟨o,l,rfl⟩
 have hi:=aS.1 hc1;have htl:t.length=l.length+1:=by subst hto;rfl
 have⟨h1,h2⟩:(1:Int)<=(t.length:Int)/\t.length-1=l.length:=by omega
 have h3:((fM t Rw.enc).drop 5).take (l.length*5)=fM l Rw.enc:=by
  subst hto;have:=MT (f:=Rw.enc) (w:=5) (λ_=>rfl) l;simpa using this
 simp[jH,hc1,hc2,ha,h1,h2,h3];refine WL.to (aaM (J:=[]::J) hto (by omega) l.length 0 (by omega)) (by simp) rfl ?_;rintro x e J' ⟨rfl,h⟩;simp only[aE]at h;unfold fO;cases hc3:tV t
 .rw[hc3]at h;simp at h;simp[h,hc2,hc1]
 .rw[hc3]at h;simp at h;subst h;simp[hc2,hc1]
theorem BF{l:List Rw}(hl:l.length<=1000000000):Cl sj [lF l Rw.enc] (iI (if fO l then 0 else 1)) J:=by
 refine au rfl rfl rfl ?_;cases hc:fO l<;>simp[Fg hl,hc]
theorem Rz{b:bU}(hx:1<=b.f.x/\b.f.x<=8)(hy:1<=b.f.y/\b.f.y<=8)(hz:1<=b.f.z/\b.f.z<=8):Cl rK [.agg (bL b)] (iI b.size) J:=by
 refine au rfl rfl rfl ?_;obtain⟨h1,h2⟩:=dw.sz hx hy hz;have w1:=cf (n:=b.f.x*b.f.y) (by omega);have w2:=cf (n:=b.f.x*b.f.y*b.f.z) (by omega);simp[w1,w2,bU.size,dw.size]
def sX(b:Bool):List D:=[.bool b]
def rF(n:Nat)(av:List bG):Nat->List Bool
 |0=>List.replicate n false
 |i+1=>match av[i]? with
  |some w=>if bA w.b 0 ((n:Int)-1)=true/\(rF n av i)[w.b.toNat]?=some false then(rF n av i).set w.b.toNat true else rF n av i
  |none=>rF n av i
theorem BC{n:Nat}{av:List bG}:∀i,(rF n av i).length=n
 |0=>by simp[rF]
 |i+1=>by
  simp only[rF];split
  .split
   .simp[BC i]
   .exact BC i
  .exact BC i
def zX(n:Nat)(av:List bG)(i:Nat):Bool :=
 match av[i]? with
 |some w=>bA w.b 0 ((n:Int)-1) && (decide ((rF n av i)[w.b.toNat]?=some false) && (bA w.h 0 3000 && bA w.m 0 1000000))
 |none=>true
def HJ(n:Nat)(av:List bG)(J:SK)(i:Nat):SK:=[.cells 0 (fM (rF n av i) sX),.cells 0 [.sl J.length 0 0 0 n 1]]::J
theorem V4{l:List Bool}{j:Nat}{x:Bool}(h:l[j]?=some x):((fM l sX).drop j)=.bool x::(fM l sX).drop (j+1):=by
 have:=pA (f:=sX) (w:=1) (λ_=>rfl) h;simpa[sX]using this
theorem TJ{l:List Bool}{j:Nat}{x:Bool}(h:j<l.length):(fM l sX).take j++(.bool x::(fM l sX).drop (j+1))=fM (l.set j x) sX:=by
 have:=LH (f:=sX) (w:=1) (λ_=>rfl) (x:=x) h;simpa[sX]using this
theorem TI{l:List Bool}:(fM l sX).length=l.length:=by
 have:=ch (f:=sX) (w:=1) (λ_=>rfl) l;omega
theorem Qg{n:Nat}{av:List bG}(hn:n<=512){i:Nat}{w:bG}(hw:av[i]?=some w):
  dj T (.call false jc [.agg w.enc,.ref J.length 1 0 0] ([]::[]::[]::[]::HJ n av J i))=some (.val (.bool (zX n av i)) ([]::[]::[]::[]::HJ n av J (i+1))):=by
 refine fJ rfl rfl rfl (by simp[HJ]) ?_;have hlen:=BC (n:=n) (av:=av) i;have w1:=cf (n:=(n:Int)-1) (by omega);have hwp:zX n av i=(bA w.b 0 ((n:Int)-1) && (decide ((rF n av i)[w.b.toNat]?=some false) && (bA w.h 0 3000 && bA w.m 0 1000000))):=by simp[zX,hw]
 have hus:rF n av (i+1)=if bA w.b 0 ((n:Int)-1)=true/\(rF n av i)[w.b.toNat]?=some false then(rF n av i).set w.b.toNat true else rF n av i:=by simp[rF,hw]
 rw[hwp];simp only[HJ];generalize rF n av (i+1)=us' at *
 generalize rF n av i=us at *
 cases hc1:bA w.b 0 ((n:Int)-1)
 .rw[hc1]at hus;simp at hus;subst hus;simp[dM,w1,hc1]
 .obtain⟨g1,g2⟩:=aS.1 hc1;have g3:w.b<(n:Int):=by omega
  obtain⟨u,hu⟩:∃u,us[w.b.toNat]?=some u:=⟨_,aI (by omega)⟩;have hat:=V4 hu;have hset:=TJ (l:=us) (j:=w.b.toNat) (x:=true) (by omega);have hlen2:(fM us sX).length=n:=by rw[TI,hlen]
  have hle:w.b.toNat+1<=n:=by omega
  rw[hc1,hu]at hus;cases u
  .simp at hus;subst hus;cases hc2:bA w.h 0 3000<;>
    simp[dM,w1,hc1,hu,g1,g3,hat,hset,hlen2,hle,hc2]
  .simp at hus;subst hus;simp[dM,w1,hc1,hu,g1,g3,hat]
theorem PR{n:Nat}{av:List bG}:∀{i:Nat},i<=av.length->(∀j,j<i->zX n av j=true)->∀k:Nat,k<n->(rF n av i)[k]?=some (((av.take i).map (·.b)).contains (k:Int))
 |0,_,_,k,hk=>by simp[rF,hk]
 |i+1,hi,h,k,hk=>by
  obtain⟨w,hw⟩:∃w,av[i]?=some w:=gE (by omega);have ih:=PR (i:=i) (by omega) (λj hj=>h j (by omega));have hp:=h i (by omega);simp only[zX,hw,af,aw]at hp;obtain⟨h1,h2,_⟩:=hp;obtain⟨g1,g2⟩:=aS.1 h1;have ht:av.take (i+1)=av.take i++[w]:=by rw[List.take_add_one,hw];rfl
  simp only[rF,hw];rw[if_pos ⟨h1,h2⟩,ht];rw[List.getElem?_set];by_cases hkw:w.b.toNat=k
  .subst hkw;have hb:w.b=((w.b.toNat:Nat):Int):=by omega
   simp[BC,hk];right;omega
  .rw[if_neg hkw,ih k hk];congr 1;have:((k:Int) == w.b)=false:=by simp;omega
   simp[];intro hh;omega
theorem DV{n:Nat}{av:List bG}:∀(m i:Nat),i+m=av.length->(∀j,j<i->zX n av j=true) ->
  (nT (n:Int) ((av.take i).map (·.b)) (av.drop i)=true↔∀j,i<=j->j<av.length->zX n av j=true)
 |0,i,hi,h=>by
  rw[an (by omega)];simp only[nT,true_iff];intro j h1 h2;omega
 |m+1,i,hi,h=>by
  obtain⟨w,hw⟩:∃w,av[i]?=some w:=gE (by omega);have hu:=PR (n:=n) (i:=i) (by omega) h;have hone:bG.ok (n:Int) ((av.take i).map (·.b)) w=zX n av i:=by
   simp only[zX,hw,bG.ok];cases hc:bA w.b 0 ((n:Int)-1)
   .rfl
   .obtain⟨g1,g2⟩:=aS.1 hc;have:=hu w.b.toNat (by omega);rw[this,show((w.b.toNat:Nat):Int)=w.b from by omega];cases((av.take i).map (·.b)).contains w.b<;>simp
  rw[bD hw,nT,hone,af];have ht:(av.take i).map (·.b)++[w.b]=(av.take (i+1)).map (·.b):=by rw[List.take_add_one,hw];simp
  rw[ht];constructor
  .rintro⟨h1,h2⟩ j hj1 hj2;by_cases hji:j=i
   .subst hji;exact h1
   .refine((DV m (i+1) (by omega) λj hj=>?_).1 h2) j (by omega) hj2;by_cases hji:j=i
    .subst hji;exact h1
    .exact h j (by omega)
  .intro hh;have h1:=hh i (by omega) (by omega);refine⟨h1,(DV m (i+1) (by omega) λj hj=>?_).2 λj hj1 hj2=>hh j (by omega) hj2⟩;by_cases hji:j=i
   .subst hji;exact h1
   .exact h j (by omega)
theorem Qh{n:Nat}{av:List bG}(hn:n<=512)(hl:av.length<=1000000000):∃s,
  dj T (.call false lV [lF av bG.enc,.fn jc [] [.ref J.length 1 0 0]] ([.cells 0 (fM (List.replicate n false) sX),.cells 0 [.sl J.length 0 0 0 n 1]]::J)) =
   some (.val (.bool (nT (n:Int) [] av)) (s::J)):=by
 have h:=My (xJ 3 bG.enc (λ_=>rfl)) (T:=T) (S:=HJ n av J) (fv:=.fn jc [] [.ref J.length 1 0 0]) (l:=av) (f:=lV) (g:=nN) (h:=iw) (i:=jN) (p:=zX n av)
  rfl rfl rfl rfl (by omega) rfl rfl rfl (λi=>by simp[HJ]) (λi x hx=>by
   rw[oY];have:=Qg (J:=J) hn hx;show R.dn (dj T (.call false jc [.agg x.enc,.ref J.length 1 0 0] _))=_
   rw[this];rfl)
 have he:(!(oo (λi => !zX n av i) 0 av.length).1)=nT (n:Int) [] av:=by
  have h1:=DV (n:=n) (av:=av) av.length 0 (by omega) (by simp);have h2:=Ej (q:=λi => !zX n av i) (m:=av.length) (i:=0);simp only[List.take_zero,bW,aE]at h1;cases hw:nT (n:Int) [] av
  .rw[Bool.not_eq_false'];cases hs:(oo (λi => !zX n av i) 0 av.length).1
   .have h3:=h2.1 hs;have h4:=h1.2 λj _ hj=>by have:=h3 j hj;simpa using this
    rw[hw]at h4;cases h4
   .rfl
  .rw[dR];refine h2.2 λj hj=>?_
   have:=h1.1 hw j (by omega) hj;simpa using this
 rw[he]at h;refine⟨[.cells 0 (fM (rF n av (oo (λi => !zX n av i) 0 av.length).2) sX),.cells 0 [.sl J.length 0 0 0 n 1]],?_⟩;exact h
theorem CY{b:bU}(h1:b.dL.length<=1000000000)(h2:b.av.length<=1000000000):Cl uV [.agg (bL b)] (.bool b.valid) J:=by
 refine au rfl rfl rfl ?_;have hT:=λJ=>BF (J:=J) (l:=b.dL) h1
 unfold bU.valid bU.ok1;cases hc1:b.f.valid
 .simp[jk,dw.shape,hc1]
 by_cases hc2:b.f.k<4
 .simp[jk,dw.shape,hc1,hc2,show ¬4<=b.f.k by omega]
 have hc2':4<=b.f.k:=by omega
 cases hc3:fO b.dL
 .simp[jk,dw.shape,hc1,hc2,hT,hc3]
 cases hc4:bA b.cz 1 100000
 .simp[jk,dw.shape,hc1,hc2,hT,hc3,dM,hc4]
 cases hc5:bA b.lift 0 1000
 .simp[jk,dw.shape,hc1,hc2,hT,hc3,dM,hc4,hc5]
 cases hc6:bA b.deep 0 3000
 .simp[jk,dw.shape,hc1,hc2,hT,hc3,dM,hc4,hc5,hc6]
 by_cases hc7:8<b.av.length
 .simp[jk,dw.shape,hc1,hc2,hT,hc3,dM,hc4,hc5,hc6,show ¬b.av.length<=8 by omega,show(8:Int)<b.av.length by omega]
 obtain⟨g1,g2,g3,g4,g5⟩:=dw.nv.1 hc1;obtain⟨_,g6⟩:=dw.sz g1 g2 g3;have hsz:=λJ=>Rz (J:=J) (b:=b) g1 g2 g3
 have hs:b.size=((b.n:Nat):Int):=by unfold bU.n bU.size dw.size;omega
 have hn:b.n<=512:=by unfold bU.n bU.size dw.size;omega
 have hnil:(fM (List.range b.n) λ_=>[D.bool false])=fM (List.replicate b.n false) sX:=by
  have:∀n,(fM (List.range n) λ_=>[D.bool false])=fM (List.replicate n false) sX:=by
   intro n;induction n with
   |zero=>rfl
   |succ n ih=>rw[List.range_succ,ot,ih,List.replicate_succ'];simp[sX]
  exact this _
 obtain⟨s,hall⟩:=Qh (J:=J) (n:=b.n) (av:=b.av) hn h2;rw[<- hs]at hall;have hroom:(b.n:Int)<=70368744177664:=by omega
 rw[hs]at hsz;simp[jk,dw.shape,hc1,hc2,hT,hc3,dM,hc4,hc5,hc6,show ¬(8:Int)<b.av.length by omega,show b.av.length<=8 by omega,hsz,room,hroom,hnil,hall,hc2']
theorem Wy{l:List Int}{i n:Nat}:((fM l aT).drop i).take n=fM ((l.drop i).take n) aT:=by
 simp only[show aT=λn=>[iI n]from rfl,OL,<- List.map_drop,<- List.map_take]
theorem gr{l:List Int}{j:Nat}{x:Int}(h:l[j]?=some x):((fM l aT).drop j).take 1=[iI x]:=by
 have:=bu (f:=aT) (w:=1) (λ_=>rfl) h;simpa using this
theorem Cz(l:List Rw):D.bd (fM l Rw.enc)=true:=fN (λx=>by simp) l
theorem xl(l:List bG):D.bd (fM l bG.enc)=true:=fN (λx=>by simp) l
theorem ma(l:List Int):D.bd (fM l aT)=true:=fN (λx=>by simp) l
theorem G6(l:List Rock.aD):D.bd (fM l aD.enc)=true:=fN (λx=>by simp) l
structure Bv(b:bU):Prop where
 x:1<=b.f.x/\b.f.x<=8
 y:1<=b.f.y/\b.f.y<=8
 z:1<=b.f.z/\b.f.z<=8
 k:4<=b.f.k/\b.f.k<=6
 sz:b.f.size=((b.n:Nat):Int)
 n:1<=b.n/\b.n<=64
 dL:fO b.dL=true
 cz:1<=b.cz/\b.cz<=100000
 lift:0<=b.lift/\b.lift<=1000
 deep:0<=b.deep/\b.deep<=3000
 av:b.av.length<=8
 ok:nT b.size [] b.av=true
theorem Bv.of{b:bU}(h:b.valid=true):Bv b:=by
 simp only[bU.valid,bU.ok1,af,aw]at h;obtain⟨⟨h1,h2,h3,h4,h5,h6,h7⟩,h8⟩:=h;obtain⟨g1,g2,g3,g4,g5⟩:=dw.nv.1 h1;obtain⟨_,g6⟩:=dw.sz g1 g2 g3;refine⟨g1,g2,g3,⟨h2,g5.2⟩,?_,?_,h3,aS.1 h4,aS.1 h5,aS.1 h6,h7,h8⟩
 .unfold bU.n bU.size dw.size;omega
 .unfold bU.n bU.size;unfold dw.size at g4 ⊢;omega
theorem Bv.fv{b:bU}(h:Bv b):b.f.valid=true:=dw.nv.2 ⟨h.x,h.y,h.z,by have:=h.sz;have:=h.n;omega,by have:=h.k;omega⟩
structure Mv(b:bU)(m:bV):Prop where
 bv:Bv b
 len:(m.dn.length:Int)=b.f.k*b.f.size
theorem Mv.le{b:bU}{m:bV}(h:Mv b m):4*b.n<=m.dn.length/\m.dn.length<=384:=by
 have h1:=h.bv.k;have h2:=h.bv.sz;have h3:=h.bv.n;have h4:=h.len;have h5:=(dN h1.1 (by omega:(0:Int)<=b.f.size));have h6:=SB (a:=b.f.k) (b:=b.f.size) (A:=6) (B:=64) (by omega) h1.2 (by omega) (by omega);omega
theorem AM{b:bU}(h:Bv b):Cl rK [.agg (bL b)] (iI b.n) J:=by
 have:=Rz (J:=J) (b:=b) h.x h.y h.z;rw[show b.size=((b.n:Nat):Int)from h.sz]at this;exact this
theorem Jb{b:bU}{m:bV}(h:Mv b m){k:Nat}(hk:k<4):Cl se [.agg (bM b m),iI k] (.bY b.n (fM (vV b m k) aT)) J:=by
 refine au rfl rfl rfl ?_;obtain⟨h1,h2⟩:=h.le;have h3:=h.bv.n;have hs:=λJ=>AM (J:=J) h.bv
 have e1:(k:Int)*(b.n:Int)=((k*b.n:Nat):Int):=by push_cast;rfl
 have e2:((k:Int)+1)*(b.n:Int)=(((k+1)*b.n:Nat):Int):=by push_cast;rfl
 have b1:(k+1)*b.n<=m.dn.length:=jm (cU _ (by omega:k+1<=4)) h1;have b2:(k+1)*b.n=k*b.n+b.n:=eC _ _;have w1:=cf (n:=(k:Int)*b.n) (by rw[e1];omega);have w2:=cf (n:=(k:Int)+1) (by omega);have w3:=cf (n:=((k:Int)+1)*b.n) (by rw[e2];omega);have e3:(k+1)*b.n-k*b.n=b.n:=by omega
 have hsub:=Wy (l:=m.dn) (i:=k*b.n) (n:=b.n);have hle:(k:Int)*b.n<=((k:Int)+1)*b.n:=by rw[e1,e2];omega
 simp[hs,w1,w2,w3];rw[e1,e2];have⟨c1,c2,c3,c4⟩:(0:Int)<=((k*b.n:Nat):Int)/\((k*b.n:Nat):Int)<=(((k+1)*b.n:Nat):Int)/\(((k+1)*b.n:Nat):Int)<=(m.dn.length:Int)/\(0:Int)<=(((k+1)*b.n:Nat):Int):=by omega
 simp only[c1,c3,c4,and_self,if_true,Int.toNat_natCast,Option.bind_some];simp[vV,hle,e3,hsub,ma]
theorem LJ{b:bU}{m:bV}(h:Mv b m){k:Nat}(hk:k<4):(vV b m k).length=b.n:=by
 obtain⟨h1,h2⟩:=h.le;have b1:(k+1)*b.n<=m.dn.length:=jm (cU _ (by omega:k+1<=4)) h1;have b2:(k+1)*b.n=k*b.n+b.n:=eC _ _;simp[vV];omega
theorem yF{b:bU}{m:bV}(h:Mv b m){k i:Nat}(hk:k<4)(hi:i<b.n):(vV b m k)[i]?=some (jE b m k i):=by
 obtain⟨h1,h2⟩:=h.le;have b1:(k+1)*b.n<=m.dn.length:=jm (cU _ (by omega:k+1<=4)) h1;have b2:(k+1)*b.n=k*b.n+b.n:=eC _ _;have h3:k*b.n+i<m.dn.length:=by omega
 simp only[vV,jE,c9,dZ,if_pos hi,aI h3,eT]
theorem U9{b:bU}{m:bV}(h:Mv b m){i:Nat}(hi:i<b.n):Cl sd [.agg (bM b m),iI i] (iI (hold b m i)) J:=by
 refine au rfl rfl rfl ?_;have hk:=λJ=>Jb (J:=J) h (k:=0) (by omega)
 have ha:=gr (yF h (k:=0) (by omega) hi);simp only[Int.ofNat_zero]at hk;simp[hk,hi,ha,hold]
theorem Vg{b:bU}{m:bV}(h:Mv b m){i:Nat}(hi:i<b.n):Cl sf [.agg (bM b m),iI i] (iI (zb b m i)) J:=by
 refine au rfl rfl rfl ?_;have hk:=λJ=>Jb (J:=J) h (k:=1) (by omega)
 have ha:=gr (yF h (k:=1) (by omega) hi);simp at hk;simp[hk,hi,ha,zb]
theorem ab9{b:bU}{m:bV}(h:Mv b m){i:Nat}(hi:i<b.n):Cl si [.agg (bM b m),iI i] (iI (GS b m i)) J:=by
 refine au rfl rfl rfl ?_;have hk:=λJ=>Jb (J:=J) h (k:=2) (by omega)
 have ha:=gr (yF h (k:=2) (by omega) hi);simp at hk;simp[hk,hi,ha,GS]
theorem abQ{b:bU}{m:bV}(h:Mv b m){i:Nat}(hi:i<b.n):Cl sb [.agg (bM b m),iI i] (iI (feed b m i)) J:=by
 refine au rfl rfl rfl ?_;have hk:=λJ=>Jb (J:=J) h (k:=3) (by omega)
 have ha:=gr (yF h (k:=3) (by omega) hi);simp at hk;simp[hk,hi,ha,feed]
theorem Yt{lo hi n:Int}:Cl gj [iI n,.ref J.length 0 0 0] (.bool (bA n lo hi)) ([]::[]::[]::[]::[.cells 0 [iI lo,iI hi]]::J):=by
 refine au rfl rfl rfl ?_;simp[dM]
theorem Tm{b:bU}{m:bV}(h:Mv b m){k:Nat}(hk:k<4){lo hi:Int}:Cl nh [.bY b.n (fM (vV b m k) aT),.fn gj [] [.ref J.length 0 0 0]] (.bool (da (vV b m k) λn=>bA n lo hi)) ([.cells 0 [iI lo,iI hi]]::J):=by
 have hl:=LJ h hk;have hn:=h.bv.n;have:=Zd (MK .i64) (T:=T) (f:=nh) (g:=pN) (h:=dW) (i:=eZ) (l:=vV b m k) (p:=λn=>bA n lo hi) (fv:=.fn gj [] [.ref J.length 0 0 0]) (J:=[.cells 0 [iI lo,iI hi]]::J)
  rfl rfl rfl rfl (by omega) rfl rfl rfl (λx _=>by
   rw[oY];have:=Yt (J:=J) (lo:=lo) (hi:=hi) (n:=x);show R.dn (dj T (.call false gj [iI x,.ref J.length 0 0 0] _))=_
   rw[this];rfl)
 rw[hl]at this;exact this
def Nh:Nat->Int×Int
 |0=>(1000,100000)
 |1=>(0,1000)
 |2=>(0,3000)
 |_=>(0,1000)
def Bl(b:bU)(m:bV)(i:Nat):Nat->Bool
 |0=>true
 |n+1=>da (vV b m i) (λx=>bA x (Nh i).1 (Nh i).2) && Bl b m (i+1) n
theorem VI{b:bU}{m:bV}(h:Mv b m):∀(n i:Nat),i+n=4 ->
  WL T [1,17,18] true iM [(1,.bf (bM b m)),(17,.agg [iI 1000,iI 100000,iI 0,iI 1000,iI 0,iI 3000,iI 0,iI 1000]),(18,iI i)] J
   (λx e J'=>J'=J/\if Bl b m i n=true then x=.exit 0 else x=.ret/\get e 2=.bool false)
 |0,i,hi=>by
  refine FP iM.eq_1 ?_;obtain rfl:i=4:=by omega
  simp[Bl,Cz,xl,ma]
 |n+1,i,hi=>by
  refine FP iM.eq_1 ?_;have hk:i<4:=by omega
  have hK:=λJ=>Jb (J:=J) h hk
  have ih:=VI h n (i+1) (by omega);have hA:=Tm (J:=J) h hk (lo:=(Nh i).1) (hi:=(Nh i).2);simp only[Bl];rcases Bool.eq_false_or_eq_true (da (vV b m i) (λx=>bA x (Nh i).1 (Nh i).2))with hc | hc
  .rw[hc]at hA;obtain rfl | rfl | rfl | rfl:i=0\/i=1\/i=2\/i=3:=by omega
   all_goals
    simp only[Nh]at hA hc ⊢
    try simp at hK
    simp[hK,hA,hc,Cz,xl,ma];exact WL.to ih (by simp[]) (by simp[]) λx e J' hh=>by simpa[hc]using hh
  .rw[hc]at hA;obtain rfl | rfl | rfl | rfl:i=0\/i=1\/i=2\/i=3:=by omega
   all_goals
    simp only[Nh]at hA hc ⊢
    try simp at hK
    simp[hK,hA,hc]
theorem Mv.of{b:bU}{m:bV}(h:Bv b)(hc:fW b.f [m]=0):Mv b m:=by
 refine⟨h,?_⟩;simp only[fW,h.fv,if_true,dw.ah]at hc;have h1:bA (([m]:List bV).length:Nat) 1 40=true:=by simp[bA]
 rw[if_pos h1]at hc;simp only[dw.each]at hc;split at hc
 .rename_i hm;unfold dw.model at hm;split at hm
  .split at hm
   .rename_i hh;exact hh.1
   .cases hm
  .cases hm
 .rename_i hm;exact absurd hc hm
theorem Qa{b:bU}{m:bV}(h:Bv b)(hn:m.name.length<=1000000000)(hl:m.dn.length<=1000000000):Cl sc [.agg (bM b m)] (.bool (fits b m)) J:=by
 refine au rfl rfl rfl ?_;have hC:=λJ=>Ex (J:=J) (f:=b.f) (l:=[m]) (by simpa using⟨hn,hl⟩) (by simp)
 simp at hC;by_cases hc:fW b.f [m]=0
 .have hm:=Mv.of h hc;simp[hC,hc];refine WL.to (VI (J:=[]::J) hm 4 0 (by omega)) (by simp) rfl ?_;rintro x e J' ⟨rfl,hh⟩;have he:Bl b m 0 4=fits b m:=by
   simp[Bl,fits,hc,Nh]
  rw[he]at hh;cases hf:fits b m
  .rw[hf]at hh;simp at hh;simp[hh]
  .rw[hf]at hh;simp at hh;subst hh;simp
 .simp[hC,hc,fits]
theorem aaE{b:bU}{m:bV}(h1:b.dL.length<=1000000000)(h2:b.av.length<=1000000000)(hn:m.name.length<=1000000000)(hl:m.dn.length<=1000000000)(hb:Bd b m=true):
  Cl Cd [.agg (bL b),.agg (mL m)] (.cV [.agg (bM b m),iI 0]) J:=by
 refine au rfl rfl rfl ?_;simp only[Bd,af]at hb;have hf:=λJ=>Qa (J:=J) (Bv.of hb.1) hn hl
 simp[CY h1 h2,hb.1,hf,hb.2,Cz,xl,ma]
theorem Ru{b:bU}{m:bV}(h1:b.dL.length<=1000000000)(h2:b.av.length<=1000000000)(hn:m.name.length<=1000000000)(hl:m.dn.length<=1000000000)(hb:Bd b m=false):∃d,
  Cl Cd [.agg (bL b),.agg (mL m)] (.cV [.agg d,iI 1]) J/\d.length=11/\D.bd d=true:=by
 refine⟨[(iI 0),(iI 0),(iI 0),(iI 0),.aW,(iI 0),(iI 0),(iI 0),.aW,(.str []),.aW],?_,rfl,by simp⟩;refine au rfl rfl rfl ?_;cases hc:b.valid
 .simp[CY h1 h2,hc]
 .have hf:=λJ=>Qa (J:=J) (Bv.of hc) hn hl
  have hb':fits b m=false:=by simpa[Bd,hc]using hb
  simp[CY h1 h2,hc,hf,hb']
theorem YD{n:Int}:Cl nK [iI n] (.bool (bA n (-100000) 100000)) J:=by
 refine au rfl rfl rfl ?_;simp[dM]
theorem Tt{l:List Int}{p:Int->Bool}{fv:D}(hl:l.length<=1000000000)(ht:oJ T fv (λn=>iI n) p l)(hc:fv.cells=some [fv]):
  Cl nh [lF l aT,fv] (.bool (da l p)) J :=
 BK (MK .i64) (f:=nh) (g:=pN) (h:=dW) (i:=eZ) (l:=l) (p:=p) (fv:=fv) rfl rfl rfl rfl (by omega) ht hc
theorem YE{b:bU}{l:List Int}(hl:l.length<=1000000000):Cl uU [.agg (bL b),lF l aT] (iI (pD b l)) J:=by
 refine au rfl rfl rfl ?_;have ha:=λJ=>Tt (J:=J) (l:=l) (p:=λn=>bA n (-100000) 100000) (fv:=.fn nK [] []) hl (oJ.fn λx _ J=>YD) rfl
 try simp only[lF,Cl]at ha
 unfold pD;by_cases hc1:l.length=b.av.length
 .rw[<- hc1];cases hc2:da l (λn=>bA n (-100000) 100000)<;>simp[hc1,hc2,hc1 ▸ ha]
 .simp[hc1,show ¬(l.length:Int)=b.av.length by omega]
def IA(l:List Int):List D:=[lF l aT]
theorem VJ{b:bU}{az:List (List Int)}(hl:az.length<=1000000000)(hs:∀l∈az,l.length<=1000000000):∀(m i:Nat),i+m=az.length ->
  WL T [2,11,12,13] false jS [(2,.bf (bL b)),(11,lF az IA),(12,iI az.length),(13,iI i)] J
   (λx e J'=>J'=J/\if bT (pD b) (az.drop i)=0 then x=.exit 0 else x=.ret/\get e 4=iI (bT (pD b) (az.drop i)))
 |0,i,hi=>by
  refine aB jS.eq_1 ?_;have h1:¬i<az.length:=by omega
  have h2:az.drop i=[]:=an (by omega);simp[h1,h2,bT]
 |m+1,i,hi=>by
  refine aB jS.eq_1 ?_;have h1:i<az.length:=by omega
  obtain⟨l,hx⟩:=gE h1;have h2:=bu (f:=IA) (w:=1) (λ_=>rfl) hx;simp only[IA,cp]at h2;have h4:=cr h1 (by omega);have h5:=bD hx;have hC:=λJ=>YE (J:=J) (b:=b) (l:=l) (hs l (aj hx))
  rw[h5,bT];have ih:=VJ (b:=b) hl hs m (i+1) (by omega);by_cases hc:pD b l=0
  .simp[h1,h2,h4,hC,hc];exact WL.to ih (by simp[]) rfl λx e J' hh=>by simpa[hc]using hh
  .simp[h1,h2,hC,hc]
theorem Vj{b:bU}{az:List (List Int)}(hl:az.length<=1000000000)(hs:∀l∈az,l.length<=1000000000):
  Cl wu [.agg (bL b),lF az IA] (iI (sJ b az)) J:=by
 refine au rfl rfl rfl ?_;unfold sJ;by_cases hc:200<az.length
 .simp[hc,show(200:Int)<az.length by omega]
 .simp[hc,show ¬(200:Int)<az.length by omega];refine WL.to (VJ (J:=[]::J) (b:=b) hl hs az.length 0 (by omega)) (by simp) rfl ?_;rintro x e J' ⟨rfl,h⟩;simp only[aE]at h;by_cases hc2:bT (pD b) az=0
  .rw[if_pos hc2]at h;subst h;simp[hc2,show az.length<=200 by omega]
  .rw[if_neg hc2]at h;obtain⟨rfl,h⟩:=h;simp[h,show ¬200<az.length by omega]
structure Fv(b:bU)(m:bV):Prop extends Mv b m where
 hold:∀i,i<b.n->1000<=Rock.hold b m i/\Rock.hold b m i<=100000
 zb:∀i,i<b.n->0<=Rock.zb b m i/\Rock.zb b m i<=1000
 GS:∀i,i<b.n->0<=Rock.GS b m i/\Rock.GS b m i<=3000
 feed:∀i,i<b.n->0<=Rock.feed b m i/\Rock.feed b m i<=1000
theorem Fv.of{b:bU}{m:bV}(h:Bd b m=true):Fv b m:=by
 simp only[Bd,fits,af,aw]at h;obtain⟨h1,h2,h3,h4,h5,h6⟩:=h;have hm:=Mv.of (Bv.of h1) h2;have key:∀{k:Nat} {lo hi:Int},k<4->da (vV b m k) (λn=>bA n lo hi)=true->∀i,i<b.n->lo<=jE b m k i/\jE b m k i<=hi:=by
  intro k lo hi hk ha i hi';exact aS.1 (eO.1 ha _ (aj (yF hm hk hi')))
 exact⟨hm,key (by omega) h3,key (by omega) h4,key (by omega) h5,key (by omega) h6⟩
theorem wg{b:bU}(h:Bv b){i:Nat}(hi:i<b.n):0<=weight b i/\weight b i<=64000:=by
 have hl:=h.lift;have hn:=h.n;have hle:i / (b.f.x.toNat*b.f.y.toNat)<=i:=Nat.div_le_self _ _;have hq:=Int.natCast_nonneg (i / (b.f.x.toNat*b.f.y.toNat));have hle2:((i / (b.f.x.toNat*b.f.y.toNat):Nat):Int)<=64:=by
  have:i / (b.f.x.toNat*b.f.y.toNat)<=64:=by omega
  exact Int.ofNat_le.2 this
 unfold weight;exact iS (A:=64) (B:=1000) hq hle2 hl.1 hl.2
theorem Jf{b:bU}{m:bV}(h:Bv b){i:Nat}(hi:i<b.n):Cl po [.agg (bM b m),iI i] (iI (weight b i)) J:=by
 refine au rfl rfl rfl ?_;have hx:=h.x;have hy:=h.y;have hn:=h.n;obtain⟨s1,_⟩:=dw.sz h.x h.y h.z;have w1:=cf (n:=b.f.x*b.f.y) (by omega);have e1:b.f.x*b.f.y=((b.f.x.toNat*b.f.y.toNat:Nat):Int):=by push_cast;rw[dK (by omega),dK (by omega)]
 have e2:(i:Int) / (b.f.x*b.f.y)=((i / (b.f.x.toNat*b.f.y.toNat):Nat):Int):=by
  rw[e1];rfl
 have hle:i / (b.f.x.toNat*b.f.y.toNat)<=i:=Nat.div_le_self _ _;have hw:=wg h hi;have hq:(0:Int)<=(i:Int) / (b.f.x*b.f.y):=by rw[e2];exact Int.natCast_nonneg _
 have hq2:(i:Int) / (b.f.x*b.f.y)<=64:=by
  rw[e2];have:i / (b.f.x.toNat*b.f.y.toNat)<=64:=by omega
  exact Int.ofNat_le.2 this
 have w2:=cf (n:=(i:Int) / (b.f.x*b.f.y)) (by omega);have w3:=cf (n:=weight b i) (by omega);have⟨hne,hnx,hny⟩:¬b.f.x*b.f.y=0/\¬b.f.x=0/\¬b.f.y=0:=by omega
 have e3:(i:Int) / (b.f.x*b.f.y)*b.lift=weight b i:=by rw[e2];rfl
 simp[w1,w2,hne,e3,w3]
theorem abO{n d:Int}(hn : -200000000000<=n/\n<=200000000000)(hd:1<=d/\d<=100000):Cl DA [iI n,iI d] (iI (down n d)) J:=by
 refine au rfl rfl rfl ?_;have h1:=Int.mul_tdiv_add_tmod n d;have h2:=Int.tmod_lt_of_pos n (show 0<d by omega);have h3:=Int.lt_tmod_of_pos n (show 0<d by omega);unfold down;generalize hq:n.tdiv d=q at *
 generalize n.tmod d=r at *
 have h4:d*q=q*d:=Int.mul_comm _ _;have hb : -200000100001<=q/\q<=200000100001:=by
  rcases eS 0 q with h | h
  .have:=Int.mul_le_mul_of_nonneg_left hd.1 h;omega
  .have:=Int.mul_le_mul_of_nonpos_left h hd.1;omega
 have w1:=cf (n:=q) (by omega);have w2:=cf (n:=q*d) (by omega);have w3:=cf (n:=q-1) (by omega);have hne:¬d=0:=by omega
 have key:n / d=if n<q*d then q-1 else q:=by
  split
  .rename_i hc;refine((Int.ediv_emod_unique (r:=r+d) (show 0<d by omega)).2 ⟨?_,?_,?_⟩).1
   .rw[Int.mul_sub];omega
   .omega
   .omega
  .rename_i hc;refine((Int.ediv_emod_unique (r:=r) (show 0<d by omega)).2 ⟨?_,?_,?_⟩).1<;>omega
 rw[key];by_cases hc:n<q*d<;>simp[hq,w1,w2,w3,hne,hc]
theorem nB{α:Type}{f:α->List D}{w n:Nat}(hn:1<n)(hw:∀x,(f x).length=w)(hc:∀x,D.bd (f x)=true){l:List α}{j v:Nat}{bs:List Abs.aD}(hJ:J≠[])(hj:bs[j]?=some (.cells v (fM l f))):
  cG (J.length-1) n (.sl J.length j v 0 l.length w) (bs::J)=(lF l f,bs.set j .dead::J):=by
 have h3:¬J.length<=J.length-1:=by have:=aG.2 hJ;omega
 rw[Fs h3 (cs:=fM l f) (by simp[hj]) (by omega)];have h4:0<n-1:=by omega
 simp[MT hw l,fN hc l,h4]
theorem ou{b:bU}{m:bV}:(bX b m).length=b.n:=by simp[bX]
theorem sW(l:List Rock.aD):(fM l aD.enc).length=l.length*3:=ch (f:=aD.enc) (w:=3) (λ_=>rfl) l
theorem RL{b:bU}{m:bV}(h:Fv b m):∀(n i v:Nat),i+n=b.n ->
  WL T [1,2,6,7] false gK [(1,.bf (bM b m)),(2,.sl J.length 0 v 0 i 3),(6,iI b.n),(7,iI i)] ([.cells v (fM ((bX b m).take i) aD.enc)]::J)
   (λx e J'=>x=.exit 0/\get e 2=.sl J.length 0 (v+n) 0 (bX b m).length 3/\J'=[.cells (v+n) (fM (bX b m) aD.enc)]::J)
 |0,i,v,hi=>by
  refine aB gK.eq_1 ?_;obtain rfl:i=b.n:=by omega
  have h3:(bX b m).take b.n=bX b m:=ai (by simp[ou]);simp[h3,ou]
 |n+1,i,v,hi=>by
  refine aB gK.eq_1 ?_;have h1:i<b.n:=by omega
  have hn:=h.bv.n;have h4:=cr h1 (by omega);have ho:=λJ=>U9 (J:=J) h.toMv h1
  have hw:=λJ=>ab9 (J:=J) h.toMv h1
  have b1:=h.hold i h1;have b2:=h.GS i h1;have b3:=iS (by omega:0<=hold b m i) b1.2 b2.1 b2.2;have w1:=cf (n:=hold b m i*GS b m i) (by omega);have ih:=RL h n (i+1) (v+1) (by omega);have hx:(bX b m)[i]?=some ⟨hold b m i,hold b m i*GS b m i,0⟩:=by simp[bX,h1]
  have a3:=Bm (f:=aD.enc) hx;have a4:=sW ((bX b m).take i);rw[dp,ou,Nat.min_eq_left (by omega)]at a4;have a6:(fM ((bX b m).take i) aD.enc).take (i*3)=fM ((bX b m).take i) aD.enc:=ai (by omega);have h7:(i+1)*24<=room:=by unfold room;omega
  simp[h1,h4,ho,hw,w1,a4,a6,h7];refine WL.to ih (by simp[]) (by simp[<- a3]) λx e J hh=>by simpa[dA,Nat.add_comm 1 n]using hh
theorem GX{b:bU}{m:bV}(h:Fv b m)(hJ:J≠[]):Cl qG [.agg (bM b m)] (XN (bX b m)) J:=by
 refine au rfl rfl rfl ?_;have hs:=λJ=>AM (J:=J) h.bv
 simp[hs];refine WL.to (RL (J:=J) h b.n 0 0 (by omega)) (by simp) (by simp) ?_;rintro x e J' ⟨rfl,g2,rfl⟩;simp[g2];rw[nB (f:=aD.enc) (by decide) (λ_=>rfl) (λx=>by simp) hJ (by simp)];simp[XN]
theorem aD.M1{x:Rock.aD}:x.valid=true↔(1<=x.m/\x.m<=1000000)/\(0<=x.h/\x.h<=10000000000)/\(0<=x.k/\x.k<=1000000000000):=by
 simp[Rock.aD.valid,bA]
structure Sv(b:bU)(s:List Rock.aD):Prop where
 len:s.length=b.n
 ok:∀x∈s,x.valid=true
theorem Sv.of{b:bU}{s:List Rock.aD}(h:Bv b):pQ b s=true↔Sv b s:=by
 have hs:=h.sz;have hn:=h.n;unfold pQ;simp only[af,aw];constructor
 .rintro⟨h1,h2⟩;exact⟨by unfold bU.size at h1;omega,eO.1 h2⟩
 .rintro⟨h1,h2⟩;exact⟨by unfold bU.size;omega,eO.2 h2⟩
theorem Sv.at{b:bU}{s:List Rock.aD}(h:Sv b s){i:Nat}(hi:i<b.n):s[i]?=some (aP s i)/\(1<=(aP s i).m/\(aP s i).m<=1000000)/\(0<=(aP s i).h/\(aP s i).h<=10000000000)/\(0<=(aP s i).k/\(aP s i).k<=1000000000000):=by
 have h1:i<s.length:=by have:=h.len;omega
 have h2:s[i]?=some (aP s i):=by simp[aP,h1]
 exact⟨h2,aD.M1.1 (h.ok _ (aj h2))⟩
theorem Sv.first{b:bU}{m:bV}(h:Fv b m):Sv b (bX b m):=by
 refine⟨ou,λx hx=>?_⟩;simp only[bX,bJ,List.mem_range]at hx;obtain⟨i,hi,rfl⟩:=hx;have b1:=h.hold i hi;have b2:=h.GS i hi;have b3:=iS (by omega:0<=hold b m i) b1.2 b2.1 b2.2;exact aD.M1.2 ⟨⟨by simp only;omega,by simp only;omega⟩,⟨b3.1,by simp only;omega⟩,by simp⟩
theorem Q0{r:Rw}(h:r.alone=true):(1<=r.p/\r.p<=10000)/\(0<=r.l/\r.l<=4000):=by
 simp only[Rw.alone,af]at h;exact⟨aS.1 h.2.1,aS.1 h.2.2.1⟩
theorem RO{s:List Rock.aD}{i:Nat}{x:Rock.aD}{t:List Rw}(hx:s[i]?=some x)(hm:0<=x.m/\x.m<=1000000)(ht:∀r∈t,r.alone=true)(hl:t.length<=1000):∀(n j:Nat) (o:Int),j+n=t.length ->
  WL T [1,2,7,34,35,36] false fp [(1,lF s aD.enc),(2,iI i),(7,iI o),(34,lF t Rw.enc),(35,iI t.length),(36,iI j)] J
   (λx' e J'=>J'=J/\x'=.exit 0/\get e 7=iI ((t.drop j).foldl (ia x) o))
 |0,j,o,hj=>by
  refine aB fp.eq_1 ?_;have h1:¬j<t.length:=by omega
  have h2:t.drop j=[]:=an (by omega);simp[h1,h2]
 |n+1,j,o,hj=>by
  refine aB fp.eq_1 ?_;have h1:j<t.length:=by omega
  obtain⟨r,hr⟩:=gE h1;have hrb:=Q0 (ht r (aj hr));have h2:=bu (f:=Rw.enc) (w:=5) (λ_=>rfl) hr;have h3:=bu (f:=aD.enc) (w:=3) (λ_=>rfl) hx;have h4:=cr h1 (by omega);have h5:=bD hr;have hi:i<s.length:=(aA.1 hx).1;have b1:=iS hrb.2.1 hrb.2.2 hm.1 hm.2;have w1:=cf (n:=r.l*x.m) (by omega);have ih:=RO hx hm ht hl n (j+1) (ia x o r) (by omega);rw[h5];simp only[List.foldl_cons];by_cases hc:r.l*x.m<=x.h
  .have hm2:(if o<r.p then r.p else o)=ia x o r:=by unfold ia;rw[if_pos hc];omega
   simp[h1,h2,h3,h4,hi,w1,hc];refine WL.to ih (by simp[ia,hc]) rfl λx e J hh=>hh
  .simp[h1,h2,h3,h4,hi,w1,hc];refine WL.to ih (by simp[ia,hc]) rfl λx e J hh=>hh
theorem Jd{b:bU}{m:bV}{s:List Rock.aD}(h:Fv b m)(hs:Sv b s){i:Nat}(hi:i<b.n):
  Cl nO [.agg (bM b m),lF s aD.enc,iI i] (iI (dk b m s i)) J:=by
 refine au rfl rfl rfl ?_;have hw:=λJ=>Jf (J:=J) (m:=m) h.bv hi
 have ho:=λJ=>U9 (J:=J) h.toMv hi
 have b1:=h.hold i hi;obtain⟨hx,b2,b3,b4⟩:=hs.at hi;have hil:i<s.length:=by have:=hs.len;omega
 have hst:=h.bv.cz;have b5:=wg h.bv hi;have b6 : -100000000000<=b.cz*((aP s i).m-hold b m i)/\b.cz*((aP s i).m-hold b m i)<=100000000000:=by
  rcases eS (hold b m i) (aP s i).m with hh | hh
  .have:=iS (a:=b.cz) (b:=(aP s i).m-hold b m i) (A:=100000) (B:=1000000) (by omega) hst.2 (by omega) (by omega);omega
  .have:=iS (a:=b.cz) (b:=hold b m i-(aP s i).m) (A:=100000) (B:=1000000) (by omega) hst.2 (by omega) (by omega);have e:b.cz*((aP s i).m-hold b m i) = - (b.cz*(hold b m i-(aP s i).m)):=by rw[<- Int.mul_neg];congr 1;omega
   omega
 have hd:=λJ=>abO (J:=J) (n:=b.cz*((aP s i).m-hold b m i)) (d:=hold b m i) (by omega) (by omega)
 have b7 : -100000000000<=down (b.cz*((aP s i).m-hold b m i)) (hold b m i)/\down (b.cz*((aP s i).m-hold b m i)) (hold b m i)<=100000000000:=by
  unfold down;constructor
  .rw[Int.le_ediv_iff_mul_le (by omega)];omega
  .have:=Int.ediv_le_self (b:=hold b m i) (a:=b.cz*((aP s i).m-hold b m i));rcases eS 0 (b.cz*((aP s i).m-hold b m i))with hh | hh
   .have:=this hh;omega
   .have:=Int.ediv_le_of_le_mul (b:=0) (show 0<hold b m i by omega) (by omega:b.cz*((aP s i).m-hold b m i)<=0*hold b m i);omega
 have w1:=cf (n:=(aP s i).m-hold b m i) (by omega);have w2:=cf (n:=b.cz*((aP s i).m-hold b m i)) (by omega);have w3:=cf (n:=weight b i+down (b.cz*((aP s i).m-hold b m i)) (hold b m i)) (by omega);have h3:=bu (f:=aD.enc) (w:=3) (λ_=>rfl) hx;have htab:=h.bv.dL;simp only[fO,af]at htab;have ht:=aS.1 htab.1;simp[hw,ho,hil,h3,w1,w2,hd,w3];refine WL.to (RO (J:=[]::J) hx ⟨by omega,by omega⟩ (eO.1 htab.2.1) (by omega) b.dL.length 0 (max 0 (weight b i+down (b.cz*((aP s i).m-hold b m i)) (hold b m i))) (by omega)) (by simp) rfl ?_;rintro x e J' ⟨rfl,rfl,g⟩;simp[g,dk]
theorem M7{b:bU}{m:bV}{s:List Rock.aD}:(ba b m s).length=s.length:=by simp[ba]
theorem So(l:List Int):(fM l aT).length=l.length:=by
 have:=ch (f:=aT) (w:=1) (λ_=>rfl) l;omega
theorem HS{b:bU}{m:bV}{s:List Rock.aD}(h:Fv b m)(hs:Sv b s):∀(n i v:Nat),i+n=s.length ->
  WL T [1,2,4,7,8] false eP [(1,lF s aD.enc),(2,.bf (bM b m)),(4,.sl J.length 0 v 0 i 1),(7,iI s.length),(8,iI i)] ([.cells v (fM ((ba b m s).take i) aT)]::J)
   (λx e J'=>x=.exit 0/\get e 4=.sl J.length 0 (v+n) 0 (ba b m s).length 1/\J'=[.cells (v+n) (fM (ba b m s) aT)]::J)
 |0,i,v,hi=>by
  refine aB eP.eq_1 ?_;have h1:¬i<s.length:=by omega
  have h3:(ba b m s).take i=ba b m s:=ai (by rw[M7];omega);simp[h1,h3,M7];omega
 |n+1,i,v,hi=>by
  refine aB eP.eq_1 ?_;have h1:i<s.length:=by omega
  have hn:=h.bv.n;have hl:=hs.len;have h4:=cr h1 (by omega);have hp:=λJ=>Jd (J:=J) h hs (i:=i) (by omega)
  have ih:=HS h hs n (i+1) (v+1) (by omega);have hx:(ba b m s)[i]?=some (dk b m s i):=by simp[ba,h1]
  have a3:=Bm (f:=aT) hx;have a4:=So ((ba b m s).take i);rw[dp,M7,Nat.min_eq_left (by omega)]at a4;have a6:(fM ((ba b m s).take i) aT).take i=fM ((ba b m s).take i) aT:=ai (by omega);have h7:(i+1)*8<=room:=by unfold room;omega
  simp[h1,h4,hp,a4,a6,h7];refine WL.to ih (by simp[]) (by simp[<- a3]) λx e J hh=>by simpa[dA,Nat.add_comm 1 n]using hh
theorem NW{b:bU}{m:bV}{s:List Rock.aD}(h:Fv b m)(hs:Sv b s)(hJ:J≠[]):Cl nj [.agg (bM b m),lF s aD.enc] (lF (ba b m s) aT) J:=by
 refine au rfl rfl rfl ?_;simp[];refine WL.to (HS (J:=J) h hs s.length 0 0 (by omega)) (by simp) (by simp) ?_;rintro x e J' ⟨rfl,g4,rfl⟩;simp[g4];rw[nB (f:=aT) (by decide) (λ_=>rfl) (λx=>by simp) hJ (by simp)];simp
theorem P8{x:Rock.aD}:Cl nL [.agg x.enc] (.bool x.valid) J:=by
 refine au rfl rfl rfl ?_;cases hc1:bA x.m 1 1000000
 .simp[dM,Rock.aD.valid,hc1]
 cases hc2:bA x.h 0 10000000000
 .simp[dM,Rock.aD.valid,hc1,hc2]
 cases hc3:bA x.k 0 1000000000000
 .simp[dM,Rock.aD.valid,hc1,hc2,hc3]
 simp[dM,Rock.aD.valid,hc1,hc2,hc3]
theorem Im{x q m A:Int}(hm:1<=m)(hx:0<=x/\x<=A)(hq:0<=q/\q<=m):0<=(x*q).tdiv m/\(x*q).tdiv m<=A:=by
 have h1:=bF hx.1 hq.1;rw[aO h1];refine⟨Int.ediv_nonneg h1 (by omega),Int.ediv_le_of_le_mul (by omega) ?_⟩;exact cH hx.2 hq.2 hq.1 (by omega)
theorem Vh{x:Rock.aD}{q:Int}(hm:1<=x.m/\x.m<=1000000)(hh:0<=x.h/\x.h<=10000000000)(hk:0<=x.k/\x.k<=1000000000000)(hq:0<=q/\q<=x.m):
  Cl uW [.agg x.enc,iI q] (.agg (x.out q).enc) J:=by
 refine au rfl rfl rfl ?_;have b1:=iS hh.1 hh.2 hq.1 (show q<=1000000 by omega);have b2:=iS hk.1 hk.2 hq.1 (show q<=1000000 by omega);have b3:=Im hm.1 hh hq;have b4:=Im hm.1 hk hq;have w1:=cf (n:=x.h*q) (by omega);have w2:=cf (n:=x.k*q) (by omega);have w3:=cf (n:=(x.h*q).tdiv x.m) (by omega);have w4:=cf (n:=(x.k*q).tdiv x.m) (by omega);have hne:¬x.m=0:=by omega
 simp[w1,w2,w3,w4,hne,Rock.aD.out]
def sm(x:Rock.aD)(n:Int):Prop:=(-n<=x.m/\x.m<=n)/\(-n<=x.h/\x.h<=n)/\(-n<=x.k/\x.k<=n)
theorem Jc{F:List Abs.aD}{j v i:Nat}{s:List Rock.aD}{x o:Rock.aD}{sign:Int}(hF:F[j]?=some (.cells v (fM s aD.enc)))(hx:s[i]?=some x)(h1:sm x 1000000000000000000)(h2:sm o 1000000000000000000)(hs:sign=1\/sign = -1):
  dj T (.call false fx [.ref J.length j v (i*3),.agg o.enc,iI sign] (F::J))=some (.val (.cV []) (F.set j (.cells v (fM (cj s i o sign) aD.enc))::J)):=by
 refine fJ rfl rfl rfl (by simp) ?_;obtain⟨a1,a2,a3⟩:=h1;obtain⟨c1,c2,c3⟩:=h2;have hi:i<s.length:=(aA.1 hx).1;obtain⟨A,B,hA,hAB⟩:∃A B:List D,A.length=i*3/\fM s aD.enc=A++(x.enc++B):=by
  have hd:=pA (f:=aD.enc) (w:=3) (λ_=>rfl) hx;have hlen:=sW s;refine⟨(fM s aD.enc).take (i*3),(fM s aD.enc).drop (i*3+3),by rw[dp];omega,?_⟩;rw[<- hd,List.take_append_drop]
 have hset:fM (cj s i o sign) aD.enc=A++((x.move o sign).enc++B):=by
  have h3:=LH (f:=aD.enc) (w:=3) (λ_=>rfl) (x:=x.move o sign) hi;have hblk:aP s i=x:=by simp[aP,hx]
  rw[cj,hblk,<- h3,hAB];have e1:(A++(x.enc++B)).take (i*3)=A:=by rw[<- hA];simp
  have e2:(A++(x.enc++B)).drop (i*3+3)=B:=by
   rw[<- cS,<- hA];simp
  rw[e1,e2]
 rw[hAB]at hF;rw[hset];have hj:j<F.length:=(aA.1 hF).1;have gs:∀X:Abs.aD,(F.set j X)[j]?=some X:=λX=>by simp[hj]
 clear hset hAB hx hj;have t1:∀L:List D,(A++L).take (A.length+1)=A++L.take 1:=λL=>by rw[List.take_length_add_append]
 have t2:∀L:List D,(A++L).take (A.length+1+1)=A++L.take 2:=λL=>by rw[dA,List.take_length_add_append]
 have d2:∀L:List D,(A++L).drop (A.length+1+1)=L.drop 2:=λL=>by rw[dA,cT]
 have d1:∀L:List D,(A++L).drop (A.length+1)=L.drop 1:=λL=>by rw[cT]
 have d3:∀L:List D,(A++L).drop (A.length+1+1+1)=L.drop 3:=λL=>by rw[dA,dA,cT]
 have⟨k1,k2,k3,k4⟩:A.length+1+1<=A.length+(B.length+1+1+1)/\A.length+1+1+1<=A.length+(B.length+1+1+1)/\A.length+1<=A.length+(B.length+1+1+1)/\A.length+2+1<=A.length+(B.length+1+1+1):=by omega
 have d4:∀L:List D,(A++L).drop (A.length+2)=L.drop 2:=λL=>by rw[cT]
 have d5:∀L:List D,(A++L).drop (A.length+2+1)=L.drop 3:=λL=>by rw[dA,cT]
 have t4:∀L:List D,(A++L).take (A.length+2)=A++L.take 2:=λL=>by rw[List.take_length_add_append]
 have y1:=cf (n:=o.m) (by omega);have y2:=cf (n:=o.h) (by omega);have y3:=cf (n:=o.k) (by omega);have y4:=cf (n := -o.m) (by omega);have y5:=cf (n := -o.h) (by omega);have y6:=cf (n := -o.k) (by omega);rcases hs with rfl | rfl
 .have w1:=cf (n:=x.m+o.m) (by omega);have w2:=cf (n:=x.h+o.h) (by omega);have w3:=cf (n:=x.k+o.k) (by omega);simp[hF,gs,<- hA,w1,w2,w3,y1,y2,y3,t1,t2,d1,d2,d3,k1,k2,k3,Rock.aD.move]
 .have w1:=cf (n:=x.m + -o.m) (by omega);have w2:=cf (n:=x.h + -o.h) (by omega);have w3:=cf (n:=x.k + -o.k) (by omega);simp[hF,gs,<- hA,w1,w2,w3,y4,y5,y6,t1,t2,d1,d2,d3,k1,k2,k3,Rock.aD.move]
theorem Yw{w:bG}{r:Int}(hr : -100000<=r/\r<=100000)(h1:0<=w.h/\w.h<=3000)(h2:0<=w.m/\w.m<=1000000):
  Cl tJ [.agg w.enc,iI r] (.agg (w.given r).enc) J:=by
 refine au rfl rfl rfl ?_;have b1 : -300000000<=r*w.h/\r*w.h<=300000000:=by
  rcases eS 0 r with h | h
  .have:=iS h hr.2 h1.1 h1.2;omega
  .have:=iS (a := -r) (A:=100000) (by omega) (by omega) h1.1 h1.2;rw[Int.neg_mul]at this;omega
 have b2 : -100000000000<=r*w.m/\r*w.m<=100000000000:=by
  rcases eS 0 r with h | h
  .have:=iS h hr.2 h2.1 h2.2;omega
  .have:=iS (a := -r) (A:=100000) (by omega) (by omega) h2.1 h2.2;rw[Int.neg_mul]at this;omega
 have w1:=cf (n := -r) (by omega);have w2:=cf (n := -(r*w.h)) (by omega);have w3:=cf (n := -(r*w.m)) (by omega);simp[w1,w2,w3,bG.given,Int.neg_mul]
theorem afe{b:bU}{m:bV}(h:Fv b m){i:Nat}(hi:i<b.n):Cl tL [.agg (bM b m),iI i] (.agg (Ic b m i).enc) J:=by
 refine au rfl rfl rfl ?_;have hf:=λJ=>abQ (J:=J) h.toMv hi
 have b1:=h.feed i hi;have b2:=h.bv.deep;have b3:=iS b1.1 b1.2 b2.1 b2.2;have w1:=cf (n:=feed b m i*b.deep) (by omega);simp[hf,w1,Ic]
theorem Yo{s:List Rock.aD}{bs:List Abs.aD}(hl:s.length<=1000000)(hne:s≠[]):dj T (.call true fu [lF s aD.enc] (bs::J)) =
  some (.val (.sl J.length (bs.length+1) 1 0 s.length 3) ((bs++[.cells 0 [],.cells 1 (fM s aD.enc)])::J)):=by
 refine xk rfl rfl rfl ?_;have h7:s.length*24<=room:=by unfold room;omega
 simp[hne,sW,h7]
end Go.Proofs.YtpapbbojmclkgaaGreatDoor
