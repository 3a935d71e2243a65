import Derived.Test.YtpapbbojmclkgaaGreatDoorTab
set_option linter.all false
namespace Go.Rock
open Go Go.Abs
structure dD where
 x:Int
 y:Int
 z:Int
 k:Int
structure Rw where
 t:Int
 p:Int
 l:Int
 v:Int
 s:Int
structure bH where
 b:Int
 h:Int
 m:Int
structure bV where
 f:dD
 dP:List Rw
 cA:Int
 lift:Int
 deep:Int
 av:List bH
structure bZ where
 name:List UInt8
 dz:List Int
structure aG where
 m:Int
 h:Int
 k:Int
@[simp] theorem dD.eta(p:dD):dD.mk p.x p.y p.z p.k=p:=rfl
@[simp] theorem Rw.eta(p:Rw):Rw.mk p.t p.p p.l p.v p.s=p:=rfl
@[simp] theorem bH.eta(p:bH):bH.mk p.b p.h p.m=p:=rfl
@[simp] theorem aG.eta(p:aG):aG.mk p.m p.h p.k=p:=rfl
@[simp] def dD.enc(f:dD):List D:=[iI f.x,iI f.y,iI f.z,iI f.k]
@[simp] def Rw.enc(r:Rw):List D:=[iI r.t,iI r.p,iI r.l,iI r.v,iI r.s]
@[simp] def bH.enc(r:bH):List D:=[iI r.b,iI r.h,iI r.m]
@[simp] def aG.enc(r:aG):List D:=[iI r.m,iI r.h,iI r.k]
@[simp] def aO(n:Int):List D:=[iI n]
@[simp] def bV.enc(b:bV):List D:=[iI b.f.x,iI b.f.y,iI b.f.z,iI b.f.k,.bT b.dP.length (fM b.dP Rw.enc),iI b.cA,iI b.lift,iI b.deep,.bT b.av.length (fM b.av bH.enc)]
@[simp] def bZ.enc(m:bZ):List D:=[.str m.name,.bT m.dz.length (fM m.dz aO)]
@[reducible,simp] def fL(f:dD):List D:=[iI f.x,iI f.y,iI f.z,iI f.k]
@[reducible,simp] def mL(m:bZ):List D:=[.str m.name,lF m.dz aO]
@[reducible,simp] def bL(b:bV):List D:=[iI b.f.x,iI b.f.y,iI b.f.z,iI b.f.k,lF b.dP Rw.enc,iI b.cA,iI b.lift,iI b.deep,lF b.av bH.enc]
@[reducible,simp] def bM(b:bV)(m:bZ):List D:=[iI b.f.x,iI b.f.y,iI b.f.z,iI b.f.k,lF b.dP Rw.enc,iI b.cA,iI b.lift,iI b.deep,lF b.av bH.enc,.str m.name,lF m.dz aO]
def Yy(s:List aG):D:=.bT s.length (fM s aG.enc)
def bC(n lo hi:Int):Bool:=decide (lo<=n) && decide (n<=hi)
theorem aP{n lo hi:Int}:bC n lo hi=true↔lo<=n/\n<=hi:=by simp[bC]
def dD.size(f:dD):Int:=f.x*f.y*f.z
def dD.valid(f:dD):Bool:=bC f.x 1 8 && (bC f.y 1 8 && (bC f.z 1 8 && (decide (f.size<=64) && bC f.k 1 6)))
theorem dD.nJ{f:dD}:f.valid=true↔(1<=f.x/\f.x<=8)/\(1<=f.y/\f.y<=8)/\(1<=f.z/\f.z<=8)/\f.size<=64/\(1<=f.k/\f.k<=6):=by
 simp[dD.valid,bC,and_assoc]
def dD.shape(f:dD):Int:=if f.valid then 0 else 1
def letter(c:UInt8):Bool:=decide (97<=c.toNat) && decide (c.toNat<=122)
def digit(c:UInt8):Bool:=decide (48<=c.toNat) && decide (c.toNat<=57)
def oK(i:Nat):List UInt8->Bool
 |[]=>true
 |c::l=>(letter c || (decide (i≠0) && digit c)) && oK (i+1) l
def named(s:List UInt8):Bool:=oK 0 s && bC s.length 1 16
def dD.model(f:dD)(m:bZ):Int:=if named m.name then(if(m.dz.length:Int)=f.k*f.size/\dj m.dz (λn=>bC n (-100000) 100000)=true then 0 else 1)else 5
def dD.each(f:dD)(met:List (List UInt8)):List bZ->Int
 |[]=>0
 |m::l=>if f.model m=0 then(if met.contains m.name then 6 else f.each (met++[m.name]) l)else f.model m
def dD.ai(f:dD)(l:List bZ):Int:=if bC l.length 1 40 then f.each [] l else 3
def fU(f:dD)(l:List bZ):Int:=if f.valid then f.ai l else 1
def Rw.alone(r:Rw):Bool:=bC r.t 0 400 && (bC r.p 1 10000 && (bC r.l 0 4000 && (bC r.s 0 2000 && (decide (r.l<r.v) && decide (r.v<=4000)))))
def Rw.wF(o r:Rw):Bool := !(decide (r.t<=o.t) || (decide (r.p<=o.p) || (decide (r.l<=o.l) || decide (r.s<o.s))))
def uq:List Rw->Bool
 |o::r::l=>o.wF r && uq (r::l)
 |_=>true
def fK(t:List Rw):Bool:=bC t.length 2 20 && (dj t Rw.alone && uq t)
def bH.ok(size:Int)(used:List Int)(w:bH):Bool:=bC w.b 0 (size-1) && (!used.contains w.b && (bC w.h 0 3000 && bC w.m 0 1000000))
def og(size:Int)(used:List Int):List bH->Bool
 |[]=>true
 |w::l=>w.ok size used && og size (used++[w.b]) l
def bV.size(b:bV):Int:=b.f.size
def bV.ok1(b:bV):Bool:=b.f.valid && (decide (4<=b.f.k) && (fK b.dP && (bC b.cA 1 100000 && (bC b.lift 0 1000 && (bC b.deep 0 3000 && decide (b.av.length<=8))))))
def bV.valid(b:bV):Bool:=b.ok1 && og b.size [] b.av
def bV.n(b:bV):Nat:=b.size.toNat
def wB(b:bV)(m:bZ)(k:Nat):List Int:=(m.dz.drop (k*b.n)).take b.n
def jK(b:bV)(m:bZ)(k:Nat)(i:Nat):Int:=(m.dz[k*b.n+i]?).getD 0
def hold(b:bV)(m:bZ)(i:Nat):Int:=jK b m 0 i
def zB(b:bV)(m:bZ)(i:Nat):Int:=jK b m 1 i
def Hg(b:bV)(m:bZ)(i:Nat):Int:=jK b m 2 i
def feed(b:bV)(m:bZ)(i:Nat):Int:=jK b m 3 i
def fits(b:bV)(m:bZ):Bool:=decide (fU b.f [m]=0) && (dj (wB b m 0) (λn=>bC n 1000 100000) && (dj (wB b m 1) (λn=>bC n 0 1000) && (dj (wB b m 2) (λn=>bC n 0 3000) && dj (wB b m 3) (λn=>bC n 0 1000))))
def Bd(b:bV)(m:bZ):Bool:=b.valid && fits b m
def bX(b:bV)(m:bZ):List aG:=(List.range b.n).map λi=>⟨hold b m i,hold b m i*Hg b m i,0⟩
def aG.valid(x:aG):Bool:=bC x.m 1 1000000 && (bC x.h 0 10000000000 && bC x.k 0 1000000000000)
def qH(b:bV)(s:List aG):Bool:=decide ((s.length:Int)=b.size) && dj s aG.valid
def weight(b:bV)(i:Nat):Int:=((i / (b.f.x.toNat*b.f.y.toNat):Nat):Int)*b.lift
def down(n d:Int):Int:=n / d
def aR(s:List aG)(i:Nat):aG:=(s[i]?).getD ⟨0,0,0⟩
def gY(x:aG)(out:Int)(r:Rw):Int:=if r.l*x.m<=x.h then max out r.p else out
def dw(b:bV)(m:bZ)(s:List aG)(i:Nat):Int :=
 b.dP.foldl (gY (aR s i)) (max 0 (weight b i+down (b.cA*((aR s i).m-hold b m i)) (hold b m i)))
def ba(b:bV)(m:bZ)(s:List aG):List Int:=(List.range s.length).map (dw b m s)
def vK(b:bV)(i:Nat):List (Nat×Nat) :=
 (if(i+1)%b.f.x.toNat≠0 then [(i,i+1)]else [])++((if i / b.f.x.toNat%b.f.y.toNat≠b.f.y.toNat-1 then [(i,i+b.f.x.toNat)]else [])++(if i+b.f.x.toNat*b.f.y.toNat<b.n then [(i,i+b.f.x.toNat*b.f.y.toNat)]else []))
def y9(b:bV):List (Nat×Nat):=fM (List.range b.n) (vK b)
def aG.out(x:aG)(m:Int):aG:=⟨m,(x.h*m).tdiv x.m,(x.k*m).tdiv x.m⟩
def aG.move(x o:aG)(sign:Int):aG:=⟨x.m+sign*o.m,x.h+sign*o.h,x.k+sign*o.k⟩
def Ci(b:bV)(m:bZ)(s:List aG)(p:List Int)(l:Nat×Nat):Option ((Nat×Nat)×aG) :=
 let d:=(p[l.1]?).getD 0-weight b l.1-(p[l.2]?).getD 0+weight b l.2
 let l':=if d<0 then(l.2,l.1)else l
 let d':=if d<0 then -d else d
 let q:=min ((min (zB b m l'.1) (zB b m l'.2)*d').tdiv 1000) ((aR s l'.1).m.tdiv 8)
 if 0<q then some (l',(aR s l'.1).out q)else none
def RD(es:List ((Nat×Nat)×aG))(k:Nat×Nat)(o:aG):List ((Nat×Nat)×aG) :=
 match es.findIdx? (λe=>e.1 == k)with
 |some j=>es.set j (k,o)
 |none=>es++[(k,o)]
def kR(b:bV)(m:bZ)(s:List aG)(p:List Int)(es:List ((Nat×Nat)×aG))(l:Nat×Nat):List ((Nat×Nat)×aG) :=
 match Ci b m s p l with
 |some e=>RD es e.1 e.2
 |none=>es
def td(b:bV)(m:bZ)(s:List aG):List ((Nat×Nat)×aG):=(y9 b).foldl (kR b m s (ba b m s)) []
def ck(s:List aG)(i:Nat)(o:aG)(sign:Int):List aG:=s.set i ((aR s i).move o sign)
def cz(s:List aG)(e:(Nat×Nat)×aG):List aG:=ck (ck s e.1.1 e.2 (-1)) e.1.2 e.2 1
def bH.given(w:bH)(rate:Int):aG:=⟨-rate,-rate*w.h,-rate*w.m⟩
def gZ(s:List aG)(w:bH)(rate:Int):aG:=if rate<0 then⟨0,0,0⟩else(aR s w.b.toNat).out (min rate ((aR s w.b.toNat).m.tdiv 8))
def mq(s next:List aG)(w:bH)(rate:Int):List aG:=if rate<0 then ck next w.b.toNat (w.given rate) 1 else ck next w.b.toNat (gZ s w rate) (-1)
def IE(b:bV)(m:bZ)(i:Nat):aG:=⟨feed b m i,feed b m i*b.deep,0⟩
def mI(b:bV)(m:bZ)(s:List aG)(aF:List Int):List aG :=
 let s1:=(td b m s).foldl cz s
 let s2:=(b.av.zip aF).foldl (λn wr=>mq s n wr.1 wr.2) s1
 (List.range s.length).foldl (λn i=>ck n i (IE b m i) 1) s2
def bJ(b:bV)(s:List aG)(aF:List Int):List aG:=(b.av.zip aF).map λwr=>gZ s wr.1 wr.2
def tick(b:bV)(m:bZ)(s:List aG)(aF:List Int):Option (List aG×List aG) :=
 if qH b (mI b m s aF)then some (mI b m s aF,bJ b s aF)else none
def pS(b:bV)(l:List Int):Int:=if l.length=b.av.length then(if dj l (λn=>bC n (-100000) 100000)then 0 else 2)else 1
def bU{α:Type}(f:α->Int):List α->Int
 |[]=>0
 |x::l=>if f x=0 then bU f l else f x
def tf(b:bV)(aw:List (List Int)):Int:=if 200<aw.length then 3 else bU (pS b) aw
def oe(b:bV)(m:bZ):List (List aG)->List (List aG)->List aG->List (List Int)->Option (List (List aG)×List (List aG))
 |ss,ys,_,[]=>some (ss,ys)
 |ss,ys,s,r::aw =>
  match tick b m s r with
  |some (s',y)=>oe b m (ss++[s']) (ys++[y]) s' aw
  |none=>none
def run(b:bV)(m:bZ)(aw:List (List Int)):Option (List (List aG)×List (List aG)):=oe b m [bX b m] [] (bX b m) aw
end Go.Rock
namespace Go.Proofs.YtpapbbojmclkgaaGreatDoor
open Go Go.Abs Go.Rock
variable {J:SK}
theorem Th{a b A B:Int}(h1:1<=a)(h2:a<=A)(h3:1<=b)(h4:b<=B):1<=a*b/\a*b<=A*B :=
 ⟨by have:=Int.mul_pos (a:=a) (b:=b) (by omega) (by omega);omega,cp h2 h4 (by omega) (by omega)⟩
theorem iR{a b A B:Int}(h1:0<=a)(h2:a<=A)(h3:0<=b)(h4:b<=B):0<=a*b/\a*b<=A*B :=
 ⟨bA h1 h3,cp h2 h4 h3 (by omega)⟩
theorem dD.sz{f:dD}(hx:1<=f.x/\f.x<=8)(hy:1<=f.y/\f.y<=8)(hz:1<=f.z/\f.z<=8):(1<=f.x*f.y/\f.x*f.y<=64)/\(1<=f.x*f.y*f.z/\f.x*f.y*f.z<=512):=by
 have h1:=Th hx.1 hx.2 hy.1 hy.2;have h2:=Th h1.1 h1.2 hz.1 hz.2;exact⟨by omega,by omega⟩
theorem dQ{a b c:Int}:Cl 283 [iI a,iI b,iI c] (.bool (bC a b c)) J:=by
 refine au ?_;by_cases h:b<=a<;>simp[h,bC]
theorem iU{a b c:Int}:Cl 296 [iI a,iI b,iI c] (.bool (bC a b c)) J:=by
 refine au ?_;by_cases h:b<=a<;>simp[h,bC]
theorem jO{a b c:Int}:Cl 280 [iI a,iI b,iI c] (.bool (bC a b c)) J:=by
 refine au ?_;by_cases h:b<=a<;>simp[h,bC]
theorem Js{f:dD}(hx:1<=f.x/\f.x<=8)(hy:1<=f.y/\f.y<=8)(hz:1<=f.z/\f.z<=8):Cl 293 [.agg (fL f)] (iI f.size) J:=by
 refine au ?_;obtain⟨h1,h2⟩:=dD.sz hx hy hz;have w1:=cb (n:=f.x*f.y);have w2:=cb (n:=f.x*f.y*f.z);simp[w1,w2,dD.size]
theorem VG{f:dD}:Cl 279 [.agg (fL f)] (.bool f.valid) J:=by
 refine au ?_;cases hc1:bC f.x 1 8
 .simp[iU,dD.valid,hc1]
 cases hc2:bC f.y 1 8
 .simp[iU,dD.valid,hc1,hc2]
 cases hc3:bC f.z 1 8
 .simp[iU,dD.valid,hc1,hc2,hc3]
 have hb:=λJ=>Js (J:=J) (f:=f) (aP.1 hc1) (aP.1 hc2) (aP.1 hc3)
 by_cases hc4:f.size<=64
 .simp[iU,dD.valid,hc1,hc2,hc3,hc4,hb]
 .simp[iU,dD.valid,hc1,hc2,hc3,hc4,hb]
theorem I7{f:dD}:Cl 232 [.agg (fL f)] (iI f.shape) J:=by
 refine au ?_;have hb:=λJ=>VG (J:=J) (f:=f)
 cases hc:f.valid<;>rw[hc]at hb<;>simp[hb,dD.shape,hc]
theorem jl{f:dD}:Cl 199 [.agg (fL f)] (iI f.shape) J:=by
 refine au ?_;have hb:=λJ=>I7 (J:=J) (f:=f)
 simp[hb]
theorem Sy{s:List UInt8}(hl:s.length<=1000000000):∀(m i:Nat),i+m=s.length ->
  WL T [0,6,7] false m6 [(0,.str s),(6,iI s.length),(7,iI i)] J
   (λx e J'=>J'=J/\if oK i (s.drop i)then x=.exit 0/\get e 0=.str s else x=.ret/\get e 2=.bool false)
 |0,i,hi=>by
  refine aA m6.eq_1 ?_;have h1:¬i<s.length:=by omega
  have h2:s.drop i=[]:=an (by omega);simp[h1,h2,oK]
 |m+1,i,hi=>by
  refine aA m6.eq_1 ?_;have h1:i<s.length:=by omega
  obtain⟨c,hc⟩:=gE h1;have h4:=cg h1;have h5:=bx hc;have ih:=Sy hl m (i+1) (by omega);rw[h5,oK];have hd:ia .Ln [.str s,iI (i:Int)]=some (.int .u8 c.toNat):=by simp[ia,hc]
  by_cases hc1:97<=c.toNat
  .by_cases hc2:c.toNat<=122
   .have hlet:letter c=true:=by simp[letter,hc1,hc2]
    simp[h1,h4,hd,hlet,show(97:Int)<=(c.toNat:Int)by omega,show(c.toNat:Int)<=122 by omega];exact WL.to ih (by simp) rfl λx e J' hh=>by simpa[hlet]using hh
   .have hlet:letter c=false:=by simp[letter,hc2]
    have hdig:digit c=false:=by simp[digit];omega
    by_cases hi0:i=0
    .subst hi0;have hd0:ia .Ln [.str s,iI 0]=some (.int .u8 c.toNat):=by simpa using hd
     have h1':0<s.length:=h1;simp[h1',hd0,hlet,hdig,show(97:Int)<=(c.toNat:Int)by omega,show ¬(c.toNat:Int)<=122 by omega]
    .simp[h1,hd,hlet,hdig,hi0,show(97:Int)<=(c.toNat:Int)by omega,show ¬(c.toNat:Int)<=122 by omega,show ¬(c.toNat:Int)<48 by omega,show(57:Int)<(c.toNat:Int)by omega]
  .have hlet:letter c=false:=by simp[letter,hc1]
   by_cases hi0:i=0
   .subst hi0;have hd0:ia .Ln [.str s,iI 0]=some (.int .u8 c.toNat):=by simpa using hd
    have h1':0<s.length:=h1;simp[h1',hd0,hlet,show ¬(97:Int)<=(c.toNat:Int)by omega]
   .by_cases hc3:c.toNat<48
    .have hdig:digit c=false:=by simp[digit];omega
     simp[h1,hd,hlet,hdig,hi0,show ¬(97:Int)<=(c.toNat:Int)by omega,show(c.toNat:Int)<48 by omega]
    .by_cases hc4:57<c.toNat
     .have hdig:digit c=false:=by simp[digit];omega
      simp[h1,hd,hlet,hdig,hi0,show ¬(97:Int)<=(c.toNat:Int)by omega,show ¬(c.toNat:Int)<48 by omega,show(57:Int)<(c.toNat:Int)by omega]
     .have hdig:digit c=true:=by simp[digit];omega
      simp[h1,h4,hd,hlet,hdig,hi0,show ¬(97:Int)<=(c.toNat:Int)by omega,show ¬(c.toNat:Int)<48 by omega,show ¬(57:Int)<(c.toNat:Int)by omega];exact WL.to ih (by simp) rfl λx e J' hh=>by simpa[hlet,hdig,hi0]using hh
theorem I6{s:List UInt8}(hl:s.length<=1000000000):Cl 292 [.str s] (.bool (named s)) J:=by
 refine au ?_;have hp:ia .Qj [.str s]=some (iI s.length):=rfl;simp[hp];refine WL.to (Sy (J:=[]::J) hl s.length 0 (by omega)) (by simp) rfl ?_;rintro x e J' ⟨rfl,h⟩;simp only[aC]at h;unfold named;cases hc:oK 0 s
 .simp[hc]at h;simp[h]
 .simp[hc]at h;simp[h,hp,iU]
theorem Ze{a:Int}:Cl 295 [iI a] (.bool (bC a (-100000) 100000)) J:=by
 refine au ?_;simp[iU]
theorem TZ{l:List Int}{p:Int->Bool}{fv:D}(hl:l.length<=1000000000)(ht:oW T fv (λn=>iI n) p l)(hc:fv.cells=some [fv]):
  Cl 294 [lF l aO,fv] (.bool (dj l p)) J :=
 B8 (Nh .i64) (f:=294) (g:=329) (h:=226) (i:=273) (l:=l) (p:=p) (fv:=fv) rfl rfl rfl rfl (by omega) ht hc
theorem BL{f:dD}(hf:f.valid=true):(1<=f.size/\f.size<=64)/\1<=f.k*f.size/\f.k*f.size<=384:=by
 obtain⟨h1,h2,h3,h4,h5⟩:=dD.nJ.1 hf;obtain⟨_,h6⟩:=dD.sz h1 h2 h3;have h7:=Th h5.1 h5.2 (b:=f.size) (B:=64) (by unfold dD.size;omega) h4;exact⟨⟨by unfold dD.size;omega,h4⟩,by omega,by omega⟩
theorem Sf{f:dD}{m:bZ}(hf:f.valid=true)(hn:m.name.length<=1000000000)(hl:m.dz.length<=1000000000):Cl 241 [.agg (fL f),.agg (mL m)] (iI (f.model m)) J:=by
 refine au ?_;obtain⟨h1,h2,h3,h4,h5⟩:=dD.nJ.1 hf;obtain⟨h6,h7⟩:=BL hf;have w1:=cb (n:=f.k*f.size);have hb:=λJ=>Js (J:=J) (f:=f) h1 h2 h3
 have ha:=λJ=>TZ (J:=J) (l:=m.dz) (p:=λn=>bC n (-100000) 100000) (fv:=.fn 295 [] []) hl (oW.fn λx _ J=>by simpa using Ze) rfl
 cases hc1:named m.name
 .simp[I6 hn,hc1,dD.model]
 .by_cases hc2:(m.dz.length:Int)=f.k*f.size
  .cases hc3:dj m.dz (λn=>bC n (-100000) 100000)<;>
    simp[I6 hn,hc1,hc2,hc3,dD.model,hb,ha,w1]
  .simp[I6 hn,hc1,hc2,dD.model,hb,w1]
def ER(met:List (List UInt8)):List D:=met.map λn => .cK [.str n,.bool true]
theorem Hy{k:List UInt8}:∀{met:List (List UInt8)},∃r,pD none (.str k) (ER met)=some r/\(met.contains k=true->∃j,r=some (j,.bool true))/\(met.contains k=false->r=none)
 |[]=>⟨none,rfl,by simp,by simp⟩
 |n::met=>by
  obtain⟨r,h1,h2,h3⟩:=Hy (k:=k) (met:=met);simp only[ER,aM]at h1 ⊢;by_cases hk:k=n
  .subst hk;exact⟨some (0,.bool true),by simp[pD,sS],λ_=>⟨0,rfl⟩,by simp⟩
  .have hb:(k == n)=false:=by simpa using hk
   refine⟨r.map λy=>(y.1+1,y.2),by simp[pD,sS,hb,h1],?_,?_⟩
   .intro hc;have:met.contains k=true:=by simpa[hk]using hc
    obtain⟨j,rfl⟩:=h2 this;exact⟨j+1,rfl⟩
   .intro hc;have:met.contains k=false:=by simp at hc ⊢;exact hc.2
    rw[h3 this];rfl
theorem abS{S:SK}{l i:Nat}{met:List (List UInt8)}{k:List UInt8}(h:cells? S l i 0=some (ER met)):Dc S (.get none (.bool false) false) [.jU l i,.str k]=some (.bool (met.contains k),S):=by
 obtain⟨r,h1,h2,h3⟩:=Hy (k:=k) (met:=met);simp only[Dc,Dg,h,aZ,h1];cases hc:met.contains k
 .rw[h3 hc];simp[sS]
 .obtain⟨j,rfl⟩:=h2 hc;simp[sS]
theorem abT{S:SK}{l i:Nat}{met:List (List UInt8)}{k:List UInt8}(h:cells? S l i 0=some (ER met))(hn:met.contains k=false):
  Dc S (.put none) [.jU l i,.str k,.bool true]=some (.undef,bj S l i (.cells 0 (ER (met++[k])))):=by
 obtain⟨r,h1,h2,h3⟩:=Hy (k:=k) (met:=met);simp only[Dc,Dg,h,aZ,h1];rw[h3 hn];simp[sS,ER,D.clean]
theorem ai1{f:dD}{m:bZ}(hf:f.valid=true)(hn:m.name.length<=1000000000)(hl:m.dz.length<=1000000000):
  Cl 365 [.agg (mL m),.bg (fL f)] (.cK [.str m.name,iI (f.model m)]) J:=by
 refine au ?_;simp[Sf hf hn hl]
theorem Wk{f:dD}{l:List bZ}(hf:f.valid=true)(hs:∀m∈l,m.name.length<=1000000000/\m.dz.length<=1000000000)(hl:l.length<=1000000000):∀(k i:Nat) (met:List (List UInt8)),i+k=l.length ->
  WL T [1,5,11,12,13] false ed [(1,.fn 365 [] [.bg (fL f)]),(5,.jU J.length 0),(11,lF l bZ.enc),(12,iI l.length),(13,iI i)] ([.cells 0 (ER met)]::J)
   (λx e J'=>∃s,J'=s::J/\if f.each met (l.drop i)=0 then x=.exit 0 else x=.ret/\get e 4=iI (f.each met (l.drop i)))
 |0,i,met,hi=>by
  refine aA ed.eq_1 ?_;have h1:¬i<l.length:=by omega
  have h2:l.drop i=[]:=an (by omega);simp[h1,h2,dD.each]
 |k+1,i,met,hi=>by
  refine aA ed.eq_1 ?_;have h1:i<l.length:=by omega
  obtain⟨m,hm⟩:=gE h1;have h2:=bd (f:=bZ.enc) (w:=2) (λ_=>rfl) hm;have h4:=cg h1;have h5:=bx hm;obtain⟨hs1,hs2⟩:=hs m (aj hm);have hC:=λJ=>ai1 (J:=J) hf hs1 hs2
  rw[h5,dD.each];by_cases hc1:f.model m=0
  .have hg:=abS (S:=[.cells 0 (ER met)]::J) (l:=J.length) (i:=0) (met:=met) (k:=m.name) (by simp);cases hc2:met.contains m.name
   .rw[hc2]at hg;have hp:=abT (S:=[.cells 0 (ER met)]::J) (l:=J.length) (i:=0) (met:=met) (k:=m.name) (by simp) hc2;have ih:=Wk hf hs hl k (i+1) (met++[m.name]) (by omega);simp at hp;have hc3:¬m.name∈met:=by simpa using hc2
    simp[h1,h2,h4,hC,hc1,hg,hp];exact WL.to ih (by simp) (by simp) λx e J' hh=>by simpa[hc1]using hh
   .rw[hc2]at hg;have hc3:m.name∈met:=by simpa using hc2
    simp[h1,h2,hC,hc1,hg]
  .simp[h1,h2,hC,hc1]
theorem acD{f:dD}{l:List bZ}(hf:f.valid=true)(hs:∀m∈l,m.name.length<=1000000000/\m.dz.length<=1000000000)(hl:l.length<=1000000000):
  Cl 364 [lF l bZ.enc,.fn 365 [] [.bg (fL f)]] (iI (f.each [] l)) J:=by
 refine au ?_;have hm:Dc ([]::J) .make []=some (.jU J.length 0,[.cells 0 (ER [])]::J):=by simp[Dc,ER]
 simp[hm];refine WL.to (Wk (J:=J) hf hs hl l.length 0 [] (by omega)) (by simp) (by simp) ?_;rintro x e J' ⟨s,rfl,h⟩;simp only[aC]at h;by_cases hc:f.each [] l=0
 .rw[if_pos hc]at h;subst h;simp[hc]
 .rw[if_neg hc]at h;obtain⟨rfl,h⟩:=h;simp[h]
theorem VO{f:dD}{l:List bZ}(hf:f.valid=true)(hs:∀m∈l,m.name.length<=1000000000/\m.dz.length<=1000000000)(hl:l.length<=1000000000):
  Cl 340 [.agg (fL f),lF l bZ.enc] (iI (f.ai l)) J:=by
 refine au ?_;cases hc:bC l.length 1 40
 .simp[iU,hc,dD.ai]
 .simp[iU,hc,dD.ai,acD hf hs hl]
theorem Jn{f:dD}{l:List bZ}(hf:f.valid=true)(hs:∀m∈l,m.name.length<=1000000000/\m.dz.length<=1000000000)(hl:l.length<=1000000000):
  Cl 339 [.bg (fL f),.bg [lF l bZ.enc]] (iI (f.ai l)) J:=by
 refine au ?_;simp[VO hf hs hl]
theorem MQ{fs:List D}{es:List Int}(hlen:fs.length=es.length)(hl:fs.length<=100)(hfs:∀d∈fs,d.strip=d/\d.calm=d/\Qz false 1 (some [d])=some d)
  (hcall:∀(i:Nat) d n,fs[i]?=some d->es[i]?=some n->(∀j,j<i->es[j]?=some 0)->∀J,oi (dr T) false d [] J=some (iI n,J)):
  Cl 237 [.bT fs.length fs] (iI (bU id es)) J:=by
 have loop:∀(k i:Nat) (J:SK),i+k=fs.length->(∀j,j<i->es[j]?=some 0) ->
   WL T [6,7,8] false mZ [(6,.bT fs.length fs),(7,iI fs.length),(8,iI i)] J
    (λx e J'=>J'=J/\if bU id (es.drop i)=0 then x=.exit 0 else x=.ret/\get e 2=iI (bU id (es.drop i))):=by
  intro k;induction k with
  |zero =>
   intro i J hi h0;refine aA mZ.eq_1 ?_;have h1:¬i<fs.length:=by omega
   have h2:es.drop i=[]:=an (by omega);simp[h1,h2,bU]
  |succ k ih =>
   intro i J hi h0;refine aA mZ.eq_1 ?_;have h1:i<fs.length:=by omega
   obtain⟨d,hd⟩:=gE h1;obtain⟨n,hn⟩:∃n,es[i]?=some n:=gE (by omega);obtain⟨g1,g2,g3⟩:=hfs d (aj hd);have h2:=bd (f:=λd:D=>[d]) (w:=1) (λ_=>rfl) (l:=fs) hd;rw[show(fM fs λd=>[d])=fs from by simp[fM]]at h2;have h4:=cg h1;have h5:=bx hn;have hc:=hcall i d n hd hn h0;simp only[bS]at h2;rw[h5,bU];by_cases hz:n=0
   .subst hz;have ih':=ih (i+1) J (by omega) (λj hj=>by
     by_cases hji:j=i
     .subst hji;exact hn
     .exact h0 j (by omega))
    simp[h1,h2,h4,g1,g2,hc];exact WL.to ih' (by simp) rfl λx e J' hh=>by simpa using hh
   .simp[h1,h2,g1,g2,hc,hz]
 refine au ?_;simp;refine WL.to (loop fs.length 0 ([]::J) (by omega) (by simp)) (by simp) rfl ?_;rintro x e J' ⟨rfl,h⟩;simp only[aC]at h;by_cases hc:bU id es=0
 .rw[if_pos hc]at h;subst h;simp[hc]
 .rw[if_neg hc]at h;obtain⟨rfl,h⟩:=h;simp[h]
theorem EU{f:dD}{l:List bZ}(hs:∀m∈l,m.name.length<=1000000000/\m.dz.length<=1000000000)(hl:l.length<=1000000000):
  Cl 304 [.agg (fL f),lF l bZ.enc] (iI (fU f l)) J:=by
 refine au ?_;have hC:=λJ=>MQ (J:=J) (fs:=[.fn 232 [.agg (fL f)] [],.fn 339 [] [.bg (fL f),.bg [lF l bZ.enc]]]) (es:=[f.shape,f.ai l]) rfl (by simp) (by simp) (by
  intro i d n hd hn h0 J;match i with
  |0 =>
   simp at hd hn;subst hd hn;simp[I7]
  |1 =>
   simp at hd hn;subst hd hn;have h1:f.valid=true:=by
    have:=h0 0 (by omega);simp[dD.shape]at this;exact this
   simp[Jn h1 hs hl]
  |i+2=>simp at hd)
 simp at hC;have e1:bU id [f.shape,f.ai l]=fU f l:=by
  simp only[bU,id,fU,dD.shape];by_cases h:f.valid=true
  .by_cases h2:f.ai l=0<;>simp[h,h2]
  .simp[h]
 rw[e1]at hC;simp[hC]
end Go.Proofs.YtpapbbojmclkgaaGreatDoor
namespace Go.Abs
open Go
variable {T:CT}
def oF(q:Nat->Bool)(i:Nat):Nat->Bool×Nat
 |0=>(false,i)
 |m+1=>if q i then(true,i+1)else oF q (i+1) m
theorem EJ{q:Nat->Bool}:∀{m i:Nat},(oF q i m).1=false↔∀j,j<m->q (i+j)=false
 |0,i=>by simp[oF]
 |m+1,i=>by
  simp only[oF];by_cases h:q i=true
  .simp only[h,if_true,Bool.true_eq_false,false_iff];intro hh;have:=hh 0 (by omega);simp[h]at this
  .have h':q i=false:=by simpa using h
   simp only[h',aD,if_false];rw[EJ (m:=m) (i:=i+1)];constructor
   .intro hh j hj;cases j with
    |zero=>simpa using h'
    |succ j=>have:=hh j (by omega);rwa[show i+1+j=i+(j+1)from by omega]at this
   .intro hh j hj;have:=hh (j+1) (by omega);rwa[show i+(j+1)=i+1+j from by omega]at this
section
variable {α:Type} (E:ZK α) {fv:D} {l:List α} {q:Nat->Bool} {S:Nat->SK}
theorem Mb(hl:l.length<=9223372036854775807)(h1:fv.strip=fv)(h2:fv.calm=fv)(ht:∀i x,l[i]?=some x->oi (dr T) false fv [E.val x] (S i)=some (.bool (q i),S (i+1))):∀(m i:Nat),i+m=l.length ->
  WL T [0,1,7,8] false (Km E.ag E.w) [(0,.bT l.length (fM l E.enc)),(1,fv),(7,iI l.length),(8,iI i)] (S i)
   (λx e J'=>J'=S (oF q i m).2/\if(oF q i m).1=true then x=.ret/\∃j:Nat,get e 4=iI j else x=.exit 0)
 |0,i,hi=>by
  refine aA (Km.eq_1 _ _) ?_;have:¬i<l.length:=by omega
  simp[this,h2,oF]
 |m+1,i,hi=>by
  refine aA (Km.eq_1 _ _) ?_;have h4:i<l.length:=by omega
  obtain⟨x,hx⟩:=gE h4;have h5:=bd (f:=E.enc) E.len hx;have h6:=ht i x hx;have h7:=cg h4 hl;have ih:=Mb hl h1 h2 ht m (i+1) (by omega);cases hq:q i
  .rw[hq]at h6;simp[h4,h1,h2,h5,h6,h7,E.load,E.strip];refine WL.mono (by simpa using ih) ?_;rintro x e J' ⟨h9,h10⟩;simp only[oF,hq,aD,if_false];exact⟨h9,h10⟩
  .rw[hq]at h6;simp[h4,h1,h2,h5,h6,E.load,E.strip,oF,hq];exact⟨i,rfl⟩
theorem UD{f:Nat}(hT:T f=some (uW E.ag E.w))(hl:l.length<=9223372036854775807)(h1:fv.strip=fv)(h2:fv.calm=fv)(hlen:∀i,(S i).length=(S 0).length)
  (ht:∀i x,l[i]?=some x->oi (dr T) false fv [E.val x] ([]::S i)=some (.bool (q i),[]::S (i+1))):
  ∃n:Int,dr T (.call false f [.bT l.length (fM l E.enc),fv] (S 0))=some (.val (iI n) (S (oF q 0 l.length).2))/\(0<=n↔(oF q 0 l.length).1=true):=by
 have h:=Mb E (S:=λi=>[]::S i) hl h1 h2 ht l.length 0 (by omega);cases hq:(oF q 0 l.length).1
 .refine⟨-1,?_,by simp⟩;refine fy hT (uW.eq_1 _ _) rfl (hlen _) ?_;simp[h2];refine WL.mono (by simpa using h) ?_;rintro x e J' ⟨rfl,h10⟩;rw[hq]at h10;simp only[aD,if_false]at h10;subst h10;simp
 .obtain⟨x,e,J',hw,rfl,h10⟩:=h;rw[hq]at h10;simp only[if_true]at h10;obtain⟨rfl,j,hj⟩:=h10;refine⟨j,?_,by simp⟩;refine fy hT (uW.eq_1 _ _) rfl (hlen _) ?_;simp[h2];refine⟨_,_,_,by simpa using hw,?_⟩;simp[hj]
theorem Nb{f i:Nat}(hT:T f=some (iW i))(hi:T i=some (uW E.ag E.w))(hl:l.length<=9223372036854775807)(h1:fv.strip=fv)(h2:fv.calm=fv)(hlen:∀i,(S i).length=(S 0).length)
  (ht:∀i x,l[i]?=some x->oi (dr T) false fv [E.val x] ([]::[]::S i)=some (.bool (q i),[]::[]::S (i+1))):
  dr T (.call false f [.bT l.length (fM l E.enc),fv] (S 0))=some (.val (.bool (oF q 0 l.length).1) (S (oF q 0 l.length).2)):=by
 obtain⟨n,h,hn⟩:=UD E (S:=λi=>[]::S i) hi hl h1 h2 (λi=>by simp[hlen i]) ht;refine fy hT (iW.eq_1 _) rfl (hlen _) ?_;have h4:decide (0<=n)=(oF q 0 l.length).1:=by
  cases hq:(oF q 0 l.length).1
  .rw[hq]at hn;simp at hn;exact decide_eq_false (by omega)
  .exact decide_eq_true (hn.2 hq)
 simp[h1,h2,h,h4]
theorem WA{g:Nat}{x:α}{b:Bool}{J J':SK}(hT:T g=some (AD E.ag E.w))(hlen:J'.length=J.length)(h1:fv.strip=fv)(h2:fv.calm=fv)(ht:oi (dr T) false fv [E.val x] ([]::J)=some (.bool b,[]::J')):
  oi (dr T) false (.fn g [] [.bg [fv]]) [E.val x] J=some (.bool (!b),J'):=by
 rw[pn];have hc:=E.cells x;have hl:=E.load x;have hs:=E.strip x;have hcm:=E.calm x;have key:dr T (.call false g ([]++[E.val x]++[.bg [fv]]) J)=some (.val (.bool (!b)) J'):=by
  generalize E.ag=ag at *
  cases ag with
  |true =>
   refine fy hT (AD.eq_1 _) rfl hlen ?_;simp[h1,ht,hc,hl,hs]
  |false =>
   refine fy hT (AD.eq_2 _) rfl hlen ?_;simp[h1,ht,hs,hcm]
 rw[key];rfl
theorem M1{f g h i:Nat}{p:Nat->Bool}(hf:T f=some (F8 g h))(hg:T g=some (AD E.ag E.w))(hh:T h=some (iW i))(hi:T i=some (uW E.ag E.w))
  (hl:l.length<=9223372036854775807) (h1:fv.strip=fv) (h2:fv.calm=fv) (hcl:fv.cells=some [fv]) (hlen:∀i,(S i).length=(S 0).length)
  (ht:∀i x,l[i]?=some x->oi (dr T) false fv [E.val x] ([]::[]::[]::[]::S i)=some (.bool (p i),[]::[]::[]::[]::S (i+1))):
  dr T (.call false f [.bT l.length (fM l E.enc),fv] (S 0))=some (.val (.bool !(oF (λi => !p i) 0 l.length).1) (S (oF (λi => !p i) 0 l.length).2)):=by
 have hc:=Nb E (S:=λi=>[]::S i) (fv:=.fn g [] [.bg [fv]]) (q:=λi => !p i) hh hi hl rfl rfl (λi=>by simp[hlen i]) (λi x hx=>WA E hg (by simp[hlen i,hlen (i+1)]) h1 h2 (ht i x hx));refine fy hf (F8.eq_1 _ _) rfl (hlen _) ?_;simp[h1,hc,hcl]
theorem ZU{f g h i:Nat}{p:α->Bool}{J:SK}(hf:T f=some (F8 g h))(hg:T g=some (AD E.ag E.w))(hh:T h=some (iW i))(hi:T i=some (uW E.ag E.w))
  (hl:l.length<=9223372036854775807) (h1:fv.strip=fv) (h2:fv.calm=fv) (hcl:fv.cells=some [fv])
  (ht:∀x∈l,oi (dr T) false fv [E.val x] ([]::[]::[]::[]::J)=some (.bool (p x),[]::[]::[]::[]::J)):
  dr T (.call false f [.bT l.length (fM l E.enc),fv] J)=some (.val (.bool (dj l p)) J):=by
 have h0:=M1 E (T:=T) (S:=λ_=>J) (fv:=fv) (l:=l) (p:=λi=>match l[i]? with | some x=>p x | none=>true) hf hg hh hi hl h1 h2 hcl (λ_=>rfl) (λi x hx=>by
  rw[ht x (aj hx)];simp[hx])
 have he:(!(oF (λi => !(match l[i]? with | some x=>p x | none=>true)) 0 l.length).1)=dj l p:=by
  have h2:=EJ (q:=λi => !(match l[i]? with | some x=>p x | none=>true)) (m:=l.length) (i:=0);cases hw:dj l p
  .rw[Bool.not_eq_false'];cases hs:(oF (λi => !(match l[i]? with | some x=>p x | none=>true)) 0 l.length).1
   .have h3:=h2.1 hs;have h4:dj l p=true:=eP.2 λx hx=>by
     obtain⟨j,hj⟩:=fT hx;have:=h3 j (aB.1 hj).1;simpa[hj]using this
    rw[hw]at h4;cases h4
   .rfl
  .rw[dT];refine h2.2 λj hj=>?_
   have hx:=aH hj;have:=eP.1 hw _ (List.getElem_mem hj);simp[hx,this]
 rw[he]at h0;exact h0
end
end Go.Abs
namespace Go.Proofs.YtpapbbojmclkgaaGreatDoor
open Go Go.Abs Go.Rock
variable {J:SK}
theorem Y6{r:Rw}:Cl 282 [.agg r.enc] (.bool r.alone) J:=by
 refine au ?_;cases hc1:bC r.t 0 400
 .simp[jO,Rw.alone,hc1]
 cases hc2:bC r.p 1 10000
 .simp[jO,Rw.alone,hc1,hc2]
 cases hc3:bC r.l 0 4000
 .simp[jO,Rw.alone,hc1,hc2,hc3]
 cases hc4:bC r.s 0 2000
 .simp[jO,Rw.alone,hc1,hc2,hc3,hc4]
 by_cases hc5:r.l<r.v
 rotate_left
 .simp[jO,Rw.alone,hc1,hc2,hc3,hc4,hc5]
 simp[jO,Rw.alone,hc1,hc2,hc3,hc4,hc5]
theorem acR{l:List Rw}(hl:l.length<=1000000000):Cl 281 [lF l Rw.enc,.fn 282 [] []] (.bool (dj l Rw.alone)) J :=
 B8 (yg 5 Rw.enc (λ_=>rfl)) (f:=281) (g:=323) (h:=322) (i:=355) (l:=l) (p:=Rw.alone) rfl rfl rfl rfl (by omega) (oW.fn λx _ J=>Y6) rfl
theorem abx{t l:List Rw}{o:Rw}(hto:t=o::l)(hl:l.length<=100):∀(m i:Nat),i+m=l.length ->
  WL T [0,16,17,18] false gf [(0,lF t Rw.enc),(16,lF l Rw.enc),(17,iI l.length),(18,iI i)] J
   (λx e J'=>J'=J/\if uq (t.drop i)then x=.exit 0 else x=.ret/\get e 2=.bool false)
 |0,i,hi=>by
  refine aA gf.eq_1 ?_;have h1:¬i<l.length:=by omega
  have h2:t.drop i=[t[i]'(by subst hto;simp;omega)]:=by
   rw[List.drop_eq_getElem_cons (by subst hto;simp;omega),an (by subst hto;simp;omega)]
  simp[h1,h2,uq]
 |m+1,i,hi=>by
  refine aA gf.eq_1 ?_;have h1:i<l.length:=by omega
  have htl:t.length=l.length+1:=by subst hto;rfl
  obtain⟨r,hr⟩:=gE h1;obtain⟨r0,hr0⟩:∃r0,t[i]?=some r0:=gE (by omega);have h2:=bd (f:=Rw.enc) (w:=5) (λ_=>rfl) hr;have h3:=bd (f:=Rw.enc) (w:=5) (λ_=>rfl) hr0;have h4:=cg h1;have h6:t.drop (i+1)=r::t.drop (i+2):=bx (by subst hto;simpa using hr);have h5:t.drop i=r0::r::t.drop (i+2):=by rw[bx hr0,h6]
  have ih:=abx hto hl m (i+1) (by omega);rw[h6]at ih;rw[h5,uq];have⟨hlt,hlt'⟩:(i:Int)<(t.length:Int)/\i<t.length:=by omega
  by_cases c1:r.t<=r0.t
  .simp[h1,hlt,h2,h3,c1,Rw.wF]
  by_cases c2:r.p<=r0.p
  .simp[h1,hlt,h2,h3,c1,c2,Rw.wF]
  by_cases c3:r.l<=r0.l
  .simp[h1,hlt,h2,h3,c1,c2,c3,Rw.wF]
  by_cases c4:r.s<r0.s
  .simp[h1,hlt,h2,h3,c1,c2,c3,c4,Rw.wF]
  .simp[h1,hlt,h2,h3,h4,c1,c2,c3,c4,Rw.wF];have hc:r0.t<r.t/\r0.p<r.p/\r0.l<r.l/\r0.s<=r.s:=by omega
   exact WL.to ih (by simp) rfl λx e J' hh=>by simpa[hc]using hh
theorem FG{t:List Rw}(hl:t.length<=1000000000):Cl 233 [lF t Rw.enc] (.bool (fK t)) J:=by
 refine au ?_;have ha:=λJ=>acR (J:=J) (l:=t) hl
 cases hc1:bC t.length 2 20
 .simp[jO,hc1,fK]
 cases hc2:dj t Rw.alone
 .simp[jO,hc1,hc2,ha,fK]
 obtain⟨o,l,hto⟩:∃o l,t=o::l:=by
  cases t with
  |nil=>simp[bC]at hc1
  |cons o l=>exact⟨o,l,rfl⟩
 have hi:=aP.1 hc1;have htl:t.length=l.length+1:=by subst hto;rfl
 have⟨h1,h2⟩:(1:Int)<=(t.length:Int)/\t.length-1=l.length:=by omega
 have h3:((fM t Rw.enc).drop 5).take (l.length*5)=fM l Rw.enc:=by
  subst hto;have:=Nr (f:=Rw.enc) (w:=5) (λ_=>rfl) l;simpa using this
 simp[jO,hc1,hc2,ha,h1,h2,h3];refine WL.to (abx (J:=[]::J) hto (by omega) l.length 0 (by omega)) (by simp) rfl ?_;rintro x e J' ⟨rfl,h⟩;simp only[aC]at h;unfold fK;cases hc3:uq t
 .rw[hc3]at h;simp at h;simp[h,hc2,hc1]
 .rw[hc3]at h;simp at h;subst h;simp[hc2,hc1]
theorem BX{l:List Rw}(hl:l.length<=1000000000):Cl 201 [lF l Rw.enc] (iI (if fK l then 0 else 1)) J:=by
 refine au ?_;cases hc:fK l<;>simp[FG hl,hc]
theorem Sh{b:bV}(hx:1<=b.f.x/\b.f.x<=8)(hy:1<=b.f.y/\b.f.y<=8)(hz:1<=b.f.z/\b.f.z<=8):Cl 284 [.agg (bL b)] (iI b.size) J:=by
 refine au ?_;obtain⟨h1,h2⟩:=dD.sz hx hy hz;have w1:=cb (n:=b.f.x*b.f.y);have w2:=cb (n:=b.f.x*b.f.y*b.f.z);simp[w1,w2,bV.size,dD.size]
def tC(b:Bool):List D:=[.bool b]
def rV(n:Nat)(av:List bH):Nat->List Bool
 |0=>List.replicate n false
 |i+1=>match av[i]? with
  |some w=>if bC w.b 0 ((n:Int)-1)=true/\(rV n av i)[w.b.toNat]?=some false then(rV n av i).set w.b.toNat true else rV n av i
  |none=>rV n av i
theorem BU{n:Nat}{av:List bH}:∀i,(rV n av i).length=n
 |0=>by simp[rV]
 |i+1=>by
  simp only[rV];split
  .split
   .simp[BU i]
   .exact BU i
  .exact BU i
def As(n:Nat)(av:List bH)(i:Nat):Bool :=
 match av[i]? with
 |some w=>bC w.b 0 ((n:Int)-1) && (decide ((rV n av i)[w.b.toNat]?=some false) && (bC w.h 0 3000 && bC w.m 0 1000000))
 |none=>true
def H9(n:Nat)(av:List bH)(J:SK)(i:Nat):SK:=[.cells 0 (fM (rV n av i) tC),.cells 0 [.sl J.length 0 0 0 n 1]]::J
theorem WT{l:List Bool}{j:Nat}{x:Bool}(h:l[j]?=some x):((fM l tC).drop j)=.bool x::(fM l tC).drop (j+1):=by
 have:=rD (f:=tC) (w:=1) (λ_=>rfl) h;simpa[tC]using this
theorem Um{l:List Bool}{j:Nat}{x:Bool}(h:j<l.length):(fM l tC).take j++(.bool x::(fM l tC).drop (j+1))=fM (l.set j x) tC:=by
 have:=Md (f:=tC) (w:=1) (λ_=>rfl) (x:=x) h;simpa[tC]using this
theorem Ul{l:List Bool}:(fM l tC).length=l.length:=by
 have:=b8 (f:=tC) (w:=1) (λ_=>rfl) l;omega
theorem QQ{n:Nat}{av:List bH}(hn:n<=512){i:Nat}{w:bH}(hw:av[i]?=some w):
  dr T (.call false 286 [.agg w.enc,.ref J.length 1 0 0] ([]::[]::[]::[]::H9 n av J i))=some (.val (.bool (As n av i)) ([]::[]::[]::[]::H9 n av J (i+1))):=by
 refine fy rfl rfl rfl (by simp[H9]) ?_;have hlen:=BU (n:=n) (av:=av) i;have w1:=cb (n:=(n:Int)-1);have hwp:As n av i=(bC w.b 0 ((n:Int)-1) && (decide ((rV n av i)[w.b.toNat]?=some false) && (bC w.h 0 3000 && bC w.m 0 1000000))):=by simp[As,hw]
 have hus:rV n av (i+1)=if bC w.b 0 ((n:Int)-1)=true/\(rV n av i)[w.b.toNat]?=some false then(rV n av i).set w.b.toNat true else rV n av i:=by simp[rV,hw]
 rw[hwp];simp only[H9];generalize rV n av (i+1)=us' at *
 generalize rV n av i=us at *
 cases hc1:bC w.b 0 ((n:Int)-1)
 .rw[hc1]at hus;simp at hus;subst hus;simp[dQ,w1,hc1]
 .obtain⟨g1,g2⟩:=aP.1 hc1;have g3:w.b<(n:Int):=by omega
  obtain⟨u,hu⟩:∃u,us[w.b.toNat]?=some u:=⟨_,aH (by omega)⟩;have hat:=WT hu;have hset:=Um (l:=us) (j:=w.b.toNat) (x:=true) (by omega);have hlen2:(fM us tC).length=n:=by rw[Ul,hlen]
  have hle:w.b.toNat+1<=n:=by omega
  rw[hc1,hu]at hus;cases u
  .simp at hus;subst hus;cases hc2:bC w.h 0 3000<;>
    simp[dQ,w1,hc1,hu,g1,g3,hat,hset,hlen2,hle,hc2]
  .simp at hus;subst hus;simp[dQ,w1,hc1,hu,g1,g3,hat]
theorem Qv{n:Nat}{av:List bH}:∀{i:Nat},i<=av.length->(∀j,j<i->As n av j=true)->∀k:Nat,k<n->(rV n av i)[k]?=some (((av.take i).map (·.b)).contains (k:Int))
 |0,_,_,k,hk=>by simp[rV,hk]
 |i+1,hi,h,k,hk=>by
  obtain⟨w,hw⟩:∃w,av[i]?=some w:=gE (by omega);have ih:=Qv (i:=i) (by omega) (λj hj=>h j (by omega));have hp:=h i (by omega);simp only[As,hw,af,az]at hp;obtain⟨h1,h2,_⟩:=hp;obtain⟨g1,g2⟩:=aP.1 h1;have ht:av.take (i+1)=av.take i++[w]:=by rw[List.take_add_one,hw];rfl
  simp only[rV,hw];rw[if_pos ⟨h1,h2⟩,ht];rw[List.getElem?_set];by_cases hkw:w.b.toNat=k
  .subst hkw;have hb:w.b=((w.b.toNat:Nat):Int):=by omega
   simp[BU,hk];right;omega
  .rw[if_neg hkw,ih k hk];congr 1;have:((k:Int) == w.b)=false:=by simp;omega
   simp[];intro hh;omega
theorem Ei{n:Nat}{av:List bH}:∀(m i:Nat),i+m=av.length->(∀j,j<i->As n av j=true) ->
  (og (n:Int) ((av.take i).map (·.b)) (av.drop i)=true↔∀j,i<=j->j<av.length->As n av j=true)
 |0,i,hi,h=>by
  rw[an (by omega)];simp only[og,true_iff];intro j h1 h2;omega
 |m+1,i,hi,h=>by
  obtain⟨w,hw⟩:∃w,av[i]?=some w:=gE (by omega);have hu:=Qv (n:=n) (i:=i) (by omega) h;have hone:bH.ok (n:Int) ((av.take i).map (·.b)) w=As n av i:=by
   simp only[As,hw,bH.ok];cases hc:bC w.b 0 ((n:Int)-1)
   .rfl
   .obtain⟨g1,g2⟩:=aP.1 hc;have:=hu w.b.toNat (by omega);rw[this,show((w.b.toNat:Nat):Int)=w.b from by omega];cases((av.take i).map (·.b)).contains w.b<;>simp
  rw[bx hw,og,hone,af];have ht:(av.take i).map (·.b)++[w.b]=(av.take (i+1)).map (·.b):=by rw[List.take_add_one,hw];simp
  rw[ht];constructor
  .rintro⟨h1,h2⟩ j hj1 hj2;by_cases hji:j=i
   .subst hji;exact h1
   .refine((Ei m (i+1) (by omega) λj hj=>?_).1 h2) j (by omega) hj2;by_cases hji:j=i
    .subst hji;exact h1
    .exact h j (by omega)
  .intro hh;have h1:=hh i (by omega) (by omega);refine⟨h1,(Ei m (i+1) (by omega) λj hj=>?_).2 λj hj1 hj2=>hh j (by omega) hj2⟩;by_cases hji:j=i
   .subst hji;exact h1
   .exact h j (by omega)
theorem QR{n:Nat}{av:List bH}(hn:n<=512)(hl:av.length<=1000000000):∃s,
  dr T (.call false 285 [lF av bH.enc,.fn 286 [] [.ref J.length 1 0 0]] ([.cells 0 (fM (List.replicate n false) tC),.cells 0 [.sl J.length 0 0 0 n 1]]::J)) =
   some (.val (.bool (og (n:Int) [] av)) (s::J)):=by
 have h:=M1 (yg 3 bH.enc (λ_=>rfl)) (T:=T) (S:=H9 n av J) (fv:=.fn 286 [] [.ref J.length 1 0 0]) (l:=av) (f:=285) (g:=325) (h:=324) (i:=356) (p:=As n av)
  rfl rfl rfl rfl (by omega) rfl rfl rfl (λi=>by simp[H9]) (λi x hx=>by
   rw[pn];have:=QQ (J:=J) hn hx;show R.dz (dr T (.call false 286 [.agg x.enc,.ref J.length 1 0 0] _))=_
   rw[this];rfl)
 have he:(!(oF (λi => !As n av i) 0 av.length).1)=og (n:Int) [] av:=by
  have h1:=Ei (n:=n) (av:=av) av.length 0 (by omega) (by simp);have h2:=EJ (q:=λi => !As n av i) (m:=av.length) (i:=0);simp only[List.take_zero,bW,aC]at h1;cases hw:og (n:Int) [] av
  .rw[Bool.not_eq_false'];cases hs:(oF (λi => !As n av i) 0 av.length).1
   .have h3:=h2.1 hs;have h4:=h1.2 λj _ hj=>by have:=h3 j hj;simpa using this
    rw[hw]at h4;cases h4
   .rfl
  .rw[dT];refine h2.2 λj hj=>?_
   have:=h1.1 hw j (by omega) hj;simpa using this
 rw[he]at h;refine⟨[.cells 0 (fM (rV n av (oF (λi => !As n av i) 0 av.length).2) tC),.cells 0 [.sl J.length 0 0 0 n 1]],?_⟩;exact h
theorem Dk{b:bV}(h1:b.dP.length<=1000000000)(h2:b.av.length<=1000000000):Cl 234 [.agg (bL b)] (.bool b.valid) J:=by
 refine au ?_;have hT:=λJ=>BX (J:=J) (l:=b.dP) h1
 unfold bV.valid bV.ok1;cases hc1:b.f.valid
 .simp[jl,dD.shape,hc1]
 by_cases hc2:b.f.k<4
 .simp[jl,dD.shape,hc1,hc2,show ¬4<=b.f.k by omega]
 have hc2':4<=b.f.k:=by omega
 cases hc3:fK b.dP
 .simp[jl,dD.shape,hc1,hc2,hT,hc3]
 cases hc4:bC b.cA 1 100000
 .simp[jl,dD.shape,hc1,hc2,hT,hc3,dQ,hc4]
 cases hc5:bC b.lift 0 1000
 .simp[jl,dD.shape,hc1,hc2,hT,hc3,dQ,hc4,hc5]
 cases hc6:bC b.deep 0 3000
 .simp[jl,dD.shape,hc1,hc2,hT,hc3,dQ,hc4,hc5,hc6]
 by_cases hc7:8<b.av.length
 .simp[jl,dD.shape,hc1,hc2,hT,hc3,dQ,hc4,hc5,hc6,show ¬b.av.length<=8 by omega,show(8:Int)<b.av.length by omega]
 obtain⟨g1,g2,g3,g4,g5⟩:=dD.nJ.1 hc1;obtain⟨_,g6⟩:=dD.sz g1 g2 g3;have hsz:=λJ=>Sh (J:=J) (b:=b) g1 g2 g3
 have hs:b.size=((b.n:Nat):Int):=by unfold bV.n bV.size dD.size;omega
 have hn:b.n<=512:=by unfold bV.n bV.size dD.size;omega
 have hnil:(fM (List.range b.n) λ_=>[D.bool false])=fM (List.replicate b.n false) tC:=by
  have:∀n,(fM (List.range n) λ_=>[D.bool false])=fM (List.replicate n false) tC:=by
   intro n;induction n with
   |zero=>rfl
   |succ n ih=>rw[List.range_succ,oI,ih,List.replicate_succ'];simp[tC]
  exact this _
 obtain⟨s,hall⟩:=QR (J:=J) (n:=b.n) (av:=b.av) hn h2;rw[<- hs]at hall;have hroom:(b.n:Int)<=70368744177664:=by omega
 rw[hs]at hsz;simp[jl,dD.shape,hc1,hc2,hT,hc3,dQ,hc4,hc5,hc6,show ¬(8:Int)<b.av.length by omega,show b.av.length<=8 by omega,hsz,room,hroom,hnil,hall,hc2']
theorem Xr{l:List Int}{i n:Nat}:((fM l aO).drop i).take n=fM ((l.drop i).take n) aO:=by
 simp only[show aO=λn=>[iI n]from rfl,Pf,<- List.map_drop,<- List.map_take]
theorem gp{l:List Int}{j:Nat}{x:Int}(h:l[j]?=some x):((fM l aO).drop j).take 1=[iI x]:=by
 have:=bd (f:=aO) (w:=1) (λ_=>rfl) h;simpa using this
theorem CW(l:List Rw):D.bf (fM l Rw.enc)=true:=fB (λx=>by simp) l
theorem xI(l:List bH):D.bf (fM l bH.enc)=true:=fB (λx=>by simp) l
theorem mw(l:List Int):D.bf (fM l aO)=true:=fB (λx=>by simp) l
theorem Hu(l:List Rock.aG):D.bf (fM l aG.enc)=true:=fB (λx=>by simp) l
structure Bv(b:bV):Prop where
 x:1<=b.f.x/\b.f.x<=8
 y:1<=b.f.y/\b.f.y<=8
 z:1<=b.f.z/\b.f.z<=8
 k:4<=b.f.k/\b.f.k<=6
 sz:b.f.size=((b.n:Nat):Int)
 n:1<=b.n/\b.n<=64
 dP:fK b.dP=true
 cA:1<=b.cA/\b.cA<=100000
 lift:0<=b.lift/\b.lift<=1000
 deep:0<=b.deep/\b.deep<=3000
 av:b.av.length<=8
 ok:og b.size [] b.av=true
theorem Bv.of{b:bV}(h:b.valid=true):Bv b:=by
 simp only[bV.valid,bV.ok1,af,az]at h;obtain⟨⟨h1,h2,h3,h4,h5,h6,h7⟩,h8⟩:=h;obtain⟨g1,g2,g3,g4,g5⟩:=dD.nJ.1 h1;obtain⟨_,g6⟩:=dD.sz g1 g2 g3;refine⟨g1,g2,g3,⟨h2,g5.2⟩,?_,?_,h3,aP.1 h4,aP.1 h5,aP.1 h6,h7,h8⟩
 .unfold bV.n bV.size dD.size;omega
 .unfold bV.n bV.size;unfold dD.size at g4 ⊢;omega
theorem Bv.fv{b:bV}(h:Bv b):b.f.valid=true:=dD.nJ.2 ⟨h.x,h.y,h.z,by have:=h.sz;have:=h.n;omega,by have:=h.k;omega⟩
structure Mv(b:bV)(m:bZ):Prop where
 bv:Bv b
 len:(m.dz.length:Int)=b.f.k*b.f.size
theorem Mv.le{b:bV}{m:bZ}(h:Mv b m):4*b.n<=m.dz.length/\m.dz.length<=384:=by
 have h1:=h.bv.k;have h2:=h.bv.sz;have h3:=h.bv.n;have h4:=h.len;have h5:=(dR h1.1 (by omega:(0:Int)<=b.f.size));have h6:=Th (a:=b.f.k) (b:=b.f.size) (A:=6) (B:=64) (by omega) h1.2 (by omega) (by omega);omega
theorem Be{b:bV}(h:Bv b):Cl 284 [.agg (bL b)] (iI b.n) J:=by
 have:=Sh (J:=J) (b:=b) h.x h.y h.z;rw[show b.size=((b.n:Nat):Int)from h.sz]at this;exact this
theorem Jv{b:bV}{m:bZ}(h:Mv b m){k:Nat}(hk:k<4):Cl 327 [.agg (bM b m),iI k] (.bT b.n (fM (wB b m k) aO)) J:=by
 refine au ?_;obtain⟨h1,h2⟩:=h.le;have h3:=h.bv.n;have hs:=λJ=>Be (J:=J) h.bv
 have e1:(k:Int)*(b.n:Int)=((k*b.n:Nat):Int):=by push_cast;rfl
 have e2:((k:Int)+1)*(b.n:Int)=(((k+1)*b.n:Nat):Int):=by push_cast;rfl
 have b1:(k+1)*b.n<=m.dz.length:=jn (cZ _ (by omega:k+1<=4)) h1;have b2:(k+1)*b.n=k*b.n+b.n:=eC _ _;have w1:=cb (n:=(k:Int)*b.n) (by rw[e1];omega);have w2:=cb (n:=(k:Int)+1);have w3:=cb (n:=((k:Int)+1)*b.n) (by rw[e2];omega);have e3:(k+1)*b.n-k*b.n=b.n:=by omega
 have hsub:=Xr (l:=m.dz) (i:=k*b.n) (n:=b.n);have hle:(k:Int)*b.n<=((k:Int)+1)*b.n:=by rw[e1,e2];omega
 simp[hs,w1,w2,w3];rw[e1,e2];have⟨c1,c2,c3,c4⟩:(0:Int)<=((k*b.n:Nat):Int)/\((k*b.n:Nat):Int)<=(((k+1)*b.n:Nat):Int)/\(((k+1)*b.n:Nat):Int)<=(m.dz.length:Int)/\(0:Int)<=(((k+1)*b.n:Nat):Int):=by omega
 simp only[c1,c3,c4,and_self,if_true,Int.toNat_natCast,Option.bind_some];simp[wB,hle,e3,hsub,mw]
theorem Mg{b:bV}{m:bZ}(h:Mv b m){k:Nat}(hk:k<4):(wB b m k).length=b.n:=by
 obtain⟨h1,h2⟩:=h.le;have b1:(k+1)*b.n<=m.dz.length:=jn (cZ _ (by omega:k+1<=4)) h1;have b2:(k+1)*b.n=k*b.n+b.n:=eC _ _;simp[wB];omega
theorem y8{b:bV}{m:bZ}(h:Mv b m){k i:Nat}(hk:k<4)(hi:i<b.n):(wB b m k)[i]?=some (jK b m k i):=by
 obtain⟨h1,h2⟩:=h.le;have b1:(k+1)*b.n<=m.dz.length:=jn (cZ _ (by omega:k+1<=4)) h1;have b2:(k+1)*b.n=k*b.n+b.n:=eC _ _;have h3:k*b.n+i<m.dz.length:=by omega
 simp only[wB,jK,di,dY,if_pos hi,aH h3,eW]
theorem VH{b:bV}{m:bZ}(h:Mv b m){i:Nat}(hi:i<b.n):Cl 288 [.agg (bM b m),iI i] (iI (hold b m i)) J:=by
 refine au ?_;have hk:=λJ=>Jv (J:=J) h (k:=0) (by omega)
 have ha:=gp (y8 h (k:=0) (by omega) hi);simp only[Int.ofNat_zero]at hk;simp[hk,hi,ha,hold]
theorem VQ{b:bV}{m:bZ}(h:Mv b m){i:Nat}(hi:i<b.n):Cl 360 [.agg (bM b m),iI i] (iI (zB b m i)) J:=by
 refine au ?_;have hk:=λJ=>Jv (J:=J) h (k:=1) (by omega)
 have ha:=gp (y8 h (k:=1) (by omega) hi);simp at hk;simp[hk,hi,ha,zB]
theorem acY{b:bV}{m:bZ}(h:Mv b m){i:Nat}(hi:i<b.n):Cl 289 [.agg (bM b m),iI i] (iI (Hg b m i)) J:=by
 refine au ?_;have hk:=λJ=>Jv (J:=J) h (k:=2) (by omega)
 have ha:=gp (y8 h (k:=2) (by omega) hi);simp at hk;simp[hk,hi,ha,Hg]
theorem acE{b:bV}{m:bZ}(h:Mv b m){i:Nat}(hi:i<b.n):Cl 361 [.agg (bM b m),iI i] (iI (feed b m i)) J:=by
 refine au ?_;have hk:=λJ=>Jv (J:=J) h (k:=3) (by omega)
 have ha:=gp (y8 h (k:=3) (by omega) hi);simp at hk;simp[hk,hi,ha,feed]
theorem Zb{lo hi n:Int}:Cl 328 [iI n,.ref J.length 0 0 0] (.bool (bC n lo hi)) ([]::[]::[]::[]::[.cells 0 [iI lo,iI hi]]::J):=by
 refine au ?_;simp[dQ]
theorem T1{b:bV}{m:bZ}(h:Mv b m){k:Nat}(hk:k<4){lo hi:Int}:Cl 326 [.bT b.n (fM (wB b m k) aO),.fn 328 [] [.ref J.length 0 0 0]] (.bool (dj (wB b m k) λn=>bC n lo hi)) ([.cells 0 [iI lo,iI hi]]::J):=by
 have hl:=Mg h hk;have hn:=h.bv.n;have:=ZU (Nh .i64) (T:=T) (f:=326) (g:=357) (h:=226) (i:=273) (l:=wB b m k) (p:=λn=>bC n lo hi) (fv:=.fn 328 [] [.ref J.length 0 0 0]) (J:=[.cells 0 [iI lo,iI hi]]::J)
  rfl rfl rfl rfl (by omega) rfl rfl rfl (λx _=>by
   rw[pn];have:=Zb (J:=J) (lo:=lo) (hi:=hi) (n:=x);show R.dz (dr T (.call false 328 [iI x,.ref J.length 0 0 0] _))=_
   rw[this];rfl)
 rw[hl]at this;exact this
def NP:Nat->Int×Int
 |0=>(1000,100000)
 |1=>(0,1000)
 |2=>(0,3000)
 |_=>(0,1000)
def BH(b:bV)(m:bZ)(i:Nat):Nat->Bool
 |0=>true
 |n+1=>dj (wB b m i) (λx=>bC x (NP i).1 (NP i).2) && BH b m (i+1) n
theorem Wm{b:bV}{m:bZ}(h:Mv b m):∀(n i:Nat),i+n=4 ->
  WL T [1,17,18] true iL [(1,.bg (bM b m)),(17,.agg [iI 1000,iI 100000,iI 0,iI 1000,iI 0,iI 3000,iI 0,iI 1000]),(18,iI i)] J
   (λx e J'=>J'=J/\if BH b m i n=true then x=.exit 0 else x=.ret/\get e 2=.bool false)
 |0,i,hi=>by
  refine F7 iL.eq_1 ?_;obtain rfl:i=4:=by omega
  simp[BH,CW,xI,mw]
 |n+1,i,hi=>by
  refine F7 iL.eq_1 ?_;have hk:i<4:=by omega
  have hK:=λJ=>Jv (J:=J) h hk
  have ih:=Wm h n (i+1) (by omega);have hA:=T1 (J:=J) h hk (lo:=(NP i).1) (hi:=(NP i).2);simp only[BH];rcases Bool.eq_false_or_eq_true (dj (wB b m i) (λx=>bC x (NP i).1 (NP i).2))with hc | hc
  .rw[hc]at hA;obtain rfl | rfl | rfl | rfl:i=0\/i=1\/i=2\/i=3:=by omega
   all_goals
    simp only[NP]at hA hc ⊢
    try simp at hK
    simp[hK,hA,hc,CW,xI,mw];exact WL.to ih (by simp[]) (by simp[]) λx e J' hh=>by simpa[hc]using hh
  .rw[hc]at hA;obtain rfl | rfl | rfl | rfl:i=0\/i=1\/i=2\/i=3:=by omega
   all_goals
    simp only[NP]at hA hc ⊢
    try simp at hK
    simp[hK,hA,hc]
theorem Mv.of{b:bV}{m:bZ}(h:Bv b)(hc:fU b.f [m]=0):Mv b m:=by
 refine⟨h,?_⟩;simp only[fU,h.fv,if_true,dD.ai]at hc;have h1:bC (([m]:List bZ).length:Nat) 1 40=true:=by simp[bC]
 rw[if_pos h1]at hc;simp only[dD.each]at hc;split at hc
 .rename_i hm;unfold dD.model at hm;split at hm
  .split at hm
   .rename_i hh;exact hh.1
   .cases hm
  .cases hm
 .rename_i hm;exact absurd hc hm
theorem QK{b:bV}{m:bZ}(h:Bv b)(hn:m.name.length<=1000000000)(hl:m.dz.length<=1000000000):Cl 287 [.agg (bM b m)] (.bool (fits b m)) J:=by
 refine au ?_;have hC:=λJ=>EU (J:=J) (f:=b.f) (l:=[m]) (by simpa using⟨hn,hl⟩) (by simp)
 simp at hC;by_cases hc:fU b.f [m]=0
 .have hm:=Mv.of h hc;simp[hC,hc];refine WL.to (Wm (J:=[]::J) hm 4 0 (by omega)) (by simp) rfl ?_;rintro x e J' ⟨rfl,hh⟩;have he:BH b m 0 4=fits b m:=by
   simp[BH,fits,hc,NP]
  rw[he]at hh;cases hf:fits b m
  .rw[hf]at hh;simp at hh;simp[hh]
  .rw[hf]at hh;simp at hh;subst hh;simp
 .simp[hC,hc,fits]
theorem abn{b:bV}{m:bZ}(h1:b.dP.length<=1000000000)(h2:b.av.length<=1000000000)(hn:m.name.length<=1000000000)(hl:m.dz.length<=1000000000)(hb:Bd b m=true):
  Cl 235 [.agg (bL b),.agg (mL m)] (.cK [.agg (bM b m),iI 0]) J:=by
 refine au ?_;simp only[Bd,af]at hb;have hf:=λJ=>QK (J:=J) (Bv.of hb.1) hn hl
 simp[Dk h1 h2,hb.1,hf,hb.2,CW,xI,mw]
theorem Se{b:bV}{m:bZ}(h1:b.dP.length<=1000000000)(h2:b.av.length<=1000000000)(hn:m.name.length<=1000000000)(hl:m.dz.length<=1000000000)(hb:Bd b m=false):∃d,
  Cl 235 [.agg (bL b),.agg (mL m)] (.cK [.agg d,iI 1]) J/\d.length=11/\D.bf d=true:=by
 refine⟨[(iI 0),(iI 0),(iI 0),(iI 0),.bz,(iI 0),(iI 0),(iI 0),.bz,(.str []),.bz],?_,rfl,by simp⟩;refine au ?_;cases hc:b.valid
 .simp[Dk h1 h2,hc]
 .have hf:=λJ=>QK (J:=J) (Bv.of hc) hn hl
  have hb':fits b m=false:=by simpa[Bd,hc]using hb
  simp[Dk h1 h2,hc,hf,hb']
theorem Zk{n:Int}:Cl 331 [iI n] (.bool (bC n (-100000) 100000)) J:=by
 refine au ?_;simp[dQ]
theorem T7{l:List Int}{p:Int->Bool}{fv:D}(hl:l.length<=1000000000)(ht:oW T fv (λn=>iI n) p l)(hc:fv.cells=some [fv]):
  Cl 326 [lF l aO,fv] (.bool (dj l p)) J :=
 B8 (Nh .i64) (f:=326) (g:=357) (h:=226) (i:=273) (l:=l) (p:=p) (fv:=fv) rfl rfl rfl rfl (by omega) ht hc
theorem Zl{b:bV}{l:List Int}(hl:l.length<=1000000000):Cl 302 [.agg (bL b),lF l aO] (iI (pS b l)) J:=by
 refine au ?_;have ha:=λJ=>T7 (J:=J) (l:=l) (p:=λn=>bC n (-100000) 100000) (fv:=.fn 331 [] []) hl (oW.fn λx _ J=>Zk) rfl
 try simp only[lF,Cl]at ha
 unfold pS;by_cases hc1:l.length=b.av.length
 .rw[<- hc1];cases hc2:dj l (λn=>bC n (-100000) 100000)<;>simp[hc1,hc2,hc1 ▸ ha]
 .simp[hc1,show ¬(l.length:Int)=b.av.length by omega]
def IY(l:List Int):List D:=[lF l aO]
theorem Wo{b:bV}{aw:List (List Int)}(hl:aw.length<=1000000000)(hs:∀l∈aw,l.length<=1000000000):∀(m i:Nat),i+m=aw.length ->
  WL T [2,11,12,13] false j5 [(2,.bg (bL b)),(11,lF aw IY),(12,iI aw.length),(13,iI i)] J
   (λx e J'=>J'=J/\if bU (pS b) (aw.drop i)=0 then x=.exit 0 else x=.ret/\get e 4=iI (bU (pS b) (aw.drop i)))
 |0,i,hi=>by
  refine aA j5.eq_1 ?_;have h1:¬i<aw.length:=by omega
  have h2:aw.drop i=[]:=an (by omega);simp[h1,h2,bU]
 |m+1,i,hi=>by
  refine aA j5.eq_1 ?_;have h1:i<aw.length:=by omega
  obtain⟨l,hx⟩:=gE h1;have h2:=bd (f:=IY) (w:=1) (λ_=>rfl) hx;simp only[IY,bS]at h2;have h4:=cg h1;have h5:=bx hx;have hC:=λJ=>Zl (J:=J) (b:=b) (l:=l) (hs l (aj hx))
  rw[h5,bU];have ih:=Wo (b:=b) hl hs m (i+1) (by omega);by_cases hc:pS b l=0
  .simp[h1,h2,h4,hC,hc];exact WL.to ih (by simp[]) rfl λx e J' hh=>by simpa[hc]using hh
  .simp[h1,h2,hC,hc]
theorem VT{b:bV}{aw:List (List Int)}(hl:aw.length<=1000000000)(hs:∀l∈aw,l.length<=1000000000):
  Cl 250 [.agg (bL b),lF aw IY] (iI (tf b aw)) J:=by
 refine au ?_;unfold tf;by_cases hc:200<aw.length
 .simp[hc,show(200:Int)<aw.length by omega]
 .simp[hc,show ¬(200:Int)<aw.length by omega];refine WL.to (Wo (J:=[]::J) (b:=b) hl hs aw.length 0 (by omega)) (by simp) rfl ?_;rintro x e J' ⟨rfl,h⟩;simp only[aC]at h;by_cases hc2:bU (pS b) aw=0
  .rw[if_pos hc2]at h;subst h;simp[hc2,show aw.length<=200 by omega]
  .rw[if_neg hc2]at h;obtain⟨rfl,h⟩:=h;simp[h,show ¬200<aw.length by omega]
structure Fv(b:bV)(m:bZ):Prop extends Mv b m where
 hold:∀i,i<b.n->1000<=Rock.hold b m i/\Rock.hold b m i<=100000
 zB:∀i,i<b.n->0<=Rock.zB b m i/\Rock.zB b m i<=1000
 Hg:∀i,i<b.n->0<=Rock.Hg b m i/\Rock.Hg b m i<=3000
 feed:∀i,i<b.n->0<=Rock.feed b m i/\Rock.feed b m i<=1000
theorem Fv.of{b:bV}{m:bZ}(h:Bd b m=true):Fv b m:=by
 simp only[Bd,fits,af,az]at h;obtain⟨h1,h2,h3,h4,h5,h6⟩:=h;have hm:=Mv.of (Bv.of h1) h2;have key:∀{k:Nat} {lo hi:Int},k<4->dj (wB b m k) (λn=>bC n lo hi)=true->∀i,i<b.n->lo<=jK b m k i/\jK b m k i<=hi:=by
  intro k lo hi hk ha i hi';exact aP.1 (eP.1 ha _ (aj (y8 hm hk hi')))
 exact⟨hm,key (by omega) h3,key (by omega) h4,key (by omega) h5,key (by omega) h6⟩
theorem wJ{b:bV}(h:Bv b){i:Nat}(hi:i<b.n):0<=weight b i/\weight b i<=64000:=by
 have hl:=h.lift;have hn:=h.n;have hle:i / (b.f.x.toNat*b.f.y.toNat)<=i:=Nat.div_le_self _ _;have hq:=Int.natCast_nonneg (i / (b.f.x.toNat*b.f.y.toNat));have hle2:((i / (b.f.x.toNat*b.f.y.toNat):Nat):Int)<=64:=by
  have:i / (b.f.x.toNat*b.f.y.toNat)<=64:=by omega
  exact Int.ofNat_le.2 this
 unfold weight;exact iR (A:=64) (B:=1000) hq hle2 hl.1 hl.2
theorem Jz{b:bV}{m:bZ}(h:Bv b){i:Nat}(hi:i<b.n):Cl 343 [.agg (bM b m),iI i] (iI (weight b i)) J:=by
 refine au ?_;have hx:=h.x;have hy:=h.y;have hn:=h.n;obtain⟨s1,_⟩:=dD.sz h.x h.y h.z;have w1:=cb (n:=b.f.x*b.f.y);have e1:b.f.x*b.f.y=((b.f.x.toNat*b.f.y.toNat:Nat):Int):=by push_cast;rw[dO (by omega),dO (by omega)]
 have e2:(i:Int) / (b.f.x*b.f.y)=((i / (b.f.x.toNat*b.f.y.toNat):Nat):Int):=by
  rw[e1];rfl
 have hle:i / (b.f.x.toNat*b.f.y.toNat)<=i:=Nat.div_le_self _ _;have hw:=wJ h hi;have hq:(0:Int)<=(i:Int) / (b.f.x*b.f.y):=by rw[e2];exact Int.natCast_nonneg _
 have hq2:(i:Int) / (b.f.x*b.f.y)<=64:=by
  rw[e2];have:i / (b.f.x.toNat*b.f.y.toNat)<=64:=by omega
  exact Int.ofNat_le.2 this
 have w2:=cb (n:=(i:Int) / (b.f.x*b.f.y));have w3:=cb (n:=weight b i);have⟨hne,hnx,hny⟩:¬b.f.x*b.f.y=0/\¬b.f.x=0/\¬b.f.y=0:=by omega
 have e3:(i:Int) / (b.f.x*b.f.y)*b.lift=weight b i:=by rw[e2];rfl
 simp[w1,w2,hne,e3,w3]
theorem acC{n d:Int}(hn : -200000000000<=n/\n<=200000000000)(hd:1<=d/\d<=100000):Cl 344 [iI n,iI d] (iI (down n d)) J:=by
 refine au ?_;have h1:=Int.mul_tdiv_add_tmod n d;have h2:=Int.tmod_lt_of_pos n (show 0<d by omega);have h3:=Int.lt_tmod_of_pos n (show 0<d by omega);unfold down;generalize hq:n.tdiv d=q at *
 generalize n.tmod d=r at *
 have h4:d*q=q*d:=Int.mul_comm _ _;have hb : -200000100001<=q/\q<=200000100001:=by
  rcases eV 0 q with h | h
  .have:=Int.mul_le_mul_of_nonneg_left hd.1 h;omega
  .have:=Int.mul_le_mul_of_nonpos_left h hd.1;omega
 have w1:=cb (n:=q);have w2:=cb (n:=q*d);have w3:=cb (n:=q-1);have hne:¬d=0:=by omega
 have key:n / d=if n<q*d then q-1 else q:=by
  split
  .rename_i hc;refine((Int.ediv_emod_unique (r:=r+d) (show 0<d by omega)).2 ⟨?_,?_,?_⟩).1
   .rw[Int.mul_sub];omega
   .omega
   .omega
  .rename_i hc;refine((Int.ediv_emod_unique (r:=r) (show 0<d by omega)).2 ⟨?_,?_,?_⟩).1<;>omega
 rw[key];by_cases hc:n<q*d<;>simp[hq,w1,w2,w3,hne,hc]
theorem ki{α:Type}{f:α->List D}{w n:Nat}(hn:1<n)(hw:∀x,(f x).length=w)(hc:∀x,D.bf (f x)=true){l:List α}{j v:Nat}{bs:List Abs.aG}(hJ:J≠[])(hj:bs[j]?=some (.cells v (fM l f))):
  cF (J.length-1) n (.sl J.length j v 0 l.length w) (bs::J)=(lF l f,bs.set j .dead::J):=by
 have h3:¬J.length<=J.length-1:=by have:=aI.2 hJ;omega
 rw[FP h3 (cs:=fM l f) (by simp[hj]) (by omega)];have h4:0<n-1:=by omega
 simp[Nr hw l,fB hc l,h4]
theorem oJ{b:bV}{m:bZ}:(bX b m).length=b.n:=by simp[bX]
theorem tB(l:List Rock.aG):(fM l aG.enc).length=l.length*3:=b8 (f:=aG.enc) (w:=3) (λ_=>rfl) l
theorem Sw{b:bV}{m:bZ}(h:Fv b m):∀(n i v:Nat),i+n=b.n ->
  WL T [1,2,6,7] false gI [(1,.bg (bM b m)),(2,.sl J.length 0 v 0 i 3),(6,iI b.n),(7,iI i)] ([.cells v (fM ((bX b m).take i) aG.enc)]::J)
   (λx e J'=>x=.exit 0/\get e 2=.sl J.length 0 (v+n) 0 (bX b m).length 3/\J'=[.cells (v+n) (fM (bX b m) aG.enc)]::J)
 |0,i,v,hi=>by
  refine aA gI.eq_1 ?_;obtain rfl:i=b.n:=by omega
  have h3:(bX b m).take b.n=bX b m:=ah (by simp[oJ]);simp[h3,oJ]
 |n+1,i,v,hi=>by
  refine aA gI.eq_1 ?_;have h1:i<b.n:=by omega
  have hn:=h.bv.n;have h4:=cg h1;have ho:=λJ=>VH (J:=J) h.toMv h1
  have hw:=λJ=>acY (J:=J) h.toMv h1
  have b1:=h.hold i h1;have b2:=h.Hg i h1;have b3:=iR (by omega:0<=hold b m i) b1.2 b2.1 b2.2;have w1:=cb (n:=hold b m i*Hg b m i);have ih:=Sw h n (i+1) (v+1) (by omega);have hx:(bX b m)[i]?=some ⟨hold b m i,hold b m i*Hg b m i,0⟩:=by simp[bX,h1]
  have a3:=BI (f:=aG.enc) hx;have a4:=tB ((bX b m).take i);rw[dA,oJ,Nat.min_eq_left (by omega)]at a4;have a6:(fM ((bX b m).take i) aG.enc).take (i*3)=fM ((bX b m).take i) aG.enc:=ah (by omega);have h7:(i+1)*24<=room:=by unfold room;omega
  simp[h1,h4,ho,hw,w1,a4,a6,h7];refine WL.to ih (by simp[]) (by simp[<- a3]) λx e J hh=>by simpa[dG,Nat.add_comm 1 n]using hh
theorem Hm{b:bV}{m:bZ}(h:Fv b m)(hJ:J≠[]):Cl 236 [.agg (bM b m)] (Yy (bX b m)) J:=by
 refine au ?_;have hs:=λJ=>Be (J:=J) h.bv
 simp[hs];refine WL.to (Sw (J:=J) h b.n 0 0 (by omega)) (by simp) (by simp) ?_;rintro x e J' ⟨rfl,g2,rfl⟩;simp[g2];rw[ki (f:=aG.enc) (by decide) (λ_=>rfl) (λx=>by simp) hJ (by simp)];simp[Yy]
theorem aG.Nz{x:Rock.aG}:x.valid=true↔(1<=x.m/\x.m<=1000000)/\(0<=x.h/\x.h<=10000000000)/\(0<=x.k/\x.k<=1000000000000):=by
 simp[Rock.aG.valid,bC]
structure Sv(b:bV)(s:List Rock.aG):Prop where
 len:s.length=b.n
 ok:∀x∈s,x.valid=true
theorem Sv.of{b:bV}{s:List Rock.aG}(h:Bv b):qH b s=true↔Sv b s:=by
 have hs:=h.sz;have hn:=h.n;unfold qH;simp only[af,az];constructor
 .rintro⟨h1,h2⟩;exact⟨by unfold bV.size at h1;omega,eP.1 h2⟩
 .rintro⟨h1,h2⟩;exact⟨by unfold bV.size;omega,eP.2 h2⟩
theorem Sv.at{b:bV}{s:List Rock.aG}(h:Sv b s){i:Nat}(hi:i<b.n):s[i]?=some (aR s i)/\(1<=(aR s i).m/\(aR s i).m<=1000000)/\(0<=(aR s i).h/\(aR s i).h<=10000000000)/\(0<=(aR s i).k/\(aR s i).k<=1000000000000):=by
 have h1:i<s.length:=by have:=h.len;omega
 have h2:s[i]?=some (aR s i):=by simp[aR,h1]
 exact⟨h2,aG.Nz.1 (h.ok _ (aj h2))⟩
theorem Sv.first{b:bV}{m:bZ}(h:Fv b m):Sv b (bX b m):=by
 refine⟨oJ,λx hx=>?_⟩;simp only[bX,bI,List.mem_range]at hx;obtain⟨i,hi,rfl⟩:=hx;have b1:=h.hold i hi;have b2:=h.Hg i hi;have b3:=iR (by omega:0<=hold b m i) b1.2 b2.1 b2.2;exact aG.Nz.2 ⟨⟨by simp only;omega,by simp only;omega⟩,⟨b3.1,by simp only;omega⟩,by simp⟩
theorem RI{r:Rw}(h:r.alone=true):(1<=r.p/\r.p<=10000)/\(0<=r.l/\r.l<=4000):=by
 simp only[Rw.alone,af]at h;exact⟨aP.1 h.2.1,aP.1 h.2.2.1⟩
theorem SA{s:List Rock.aG}{i:Nat}{x:Rock.aG}{t:List Rw}(hx:s[i]?=some x)(hm:0<=x.m/\x.m<=1000000)(ht:∀r∈t,r.alone=true)(hl:t.length<=1000):∀(n j:Nat) (o:Int),j+n=t.length ->
  WL T [1,2,7,34,35,36] false ft [(1,lF s aG.enc),(2,iI i),(7,iI o),(34,lF t Rw.enc),(35,iI t.length),(36,iI j)] J
   (λx' e J'=>J'=J/\x'=.exit 0/\get e 7=iI ((t.drop j).foldl (gY x) o))
 |0,j,o,hj=>by
  refine aA ft.eq_1 ?_;have h1:¬j<t.length:=by omega
  have h2:t.drop j=[]:=an (by omega);simp[h1,h2]
 |n+1,j,o,hj=>by
  refine aA ft.eq_1 ?_;have h1:j<t.length:=by omega
  obtain⟨r,hr⟩:=gE h1;have hrb:=RI (ht r (aj hr));have h2:=bd (f:=Rw.enc) (w:=5) (λ_=>rfl) hr;have h3:=bd (f:=aG.enc) (w:=3) (λ_=>rfl) hx;have h4:=cg h1;have h5:=bx hr;have hi:i<s.length:=(aB.1 hx).1;have b1:=iR hrb.2.1 hrb.2.2 hm.1 hm.2;have w1:=cb (n:=r.l*x.m);have ih:=SA hx hm ht hl n (j+1) (gY x o r) (by omega);rw[h5];simp only[List.foldl_cons];by_cases hc:r.l*x.m<=x.h
  .have hm2:(if o<r.p then r.p else o)=gY x o r:=by unfold gY;rw[if_pos hc];omega
   simp[h1,h2,h3,h4,hi,w1,hc];refine WL.to ih (by simp[gY,hc]) rfl λx e J hh=>hh
  .simp[h1,h2,h3,h4,hi,w1,hc];refine WL.to ih (by simp[gY,hc]) rfl λx e J hh=>hh
theorem Jx{b:bV}{m:bZ}{s:List Rock.aG}(h:Fv b m)(hs:Sv b s){i:Nat}(hi:i<b.n):
  Cl 307 [.agg (bM b m),lF s aG.enc,iI i] (iI (dw b m s i)) J:=by
 refine au ?_;have hw:=λJ=>Jz (J:=J) (m:=m) h.bv hi
 have ho:=λJ=>VH (J:=J) h.toMv hi
 have b1:=h.hold i hi;obtain⟨hx,b2,b3,b4⟩:=hs.at hi;have hil:i<s.length:=by have:=hs.len;omega
 have hst:=h.bv.cA;have b5:=wJ h.bv hi;have b6 : -100000000000<=b.cA*((aR s i).m-hold b m i)/\b.cA*((aR s i).m-hold b m i)<=100000000000:=by
  rcases eV (hold b m i) (aR s i).m with hh | hh
  .have:=iR (a:=b.cA) (b:=(aR s i).m-hold b m i) (A:=100000) (B:=1000000) (by omega) hst.2 (by omega) (by omega);omega
  .have:=iR (a:=b.cA) (b:=hold b m i-(aR s i).m) (A:=100000) (B:=1000000) (by omega) hst.2 (by omega) (by omega);have e:b.cA*((aR s i).m-hold b m i) = - (b.cA*(hold b m i-(aR s i).m)):=by rw[<- Int.mul_neg];congr 1;omega
   omega
 have hd:=λJ=>acC (J:=J) (n:=b.cA*((aR s i).m-hold b m i)) (d:=hold b m i) (by omega) (by omega)
 have b7 : -100000000000<=down (b.cA*((aR s i).m-hold b m i)) (hold b m i)/\down (b.cA*((aR s i).m-hold b m i)) (hold b m i)<=100000000000:=by
  unfold down;constructor
  .rw[Int.le_ediv_iff_mul_le (by omega)];omega
  .have:=Int.ediv_le_self (b:=hold b m i) (a:=b.cA*((aR s i).m-hold b m i));rcases eV 0 (b.cA*((aR s i).m-hold b m i))with hh | hh
   .have:=this hh;omega
   .have:=Int.ediv_le_of_le_mul (b:=0) (show 0<hold b m i by omega) (by omega:b.cA*((aR s i).m-hold b m i)<=0*hold b m i);omega
 have w1:=cb (n:=(aR s i).m-hold b m i);have w2:=cb (n:=b.cA*((aR s i).m-hold b m i));have w3:=cb (n:=weight b i+down (b.cA*((aR s i).m-hold b m i)) (hold b m i));have h3:=bd (f:=aG.enc) (w:=3) (λ_=>rfl) hx;have htab:=h.bv.dP;simp only[fK,af]at htab;have ht:=aP.1 htab.1;simp[hw,ho,hil,h3,w1,w2,hd,w3];refine WL.to (SA (J:=[]::J) hx ⟨by omega,by omega⟩ (eP.1 htab.2.1) (by omega) b.dP.length 0 (max 0 (weight b i+down (b.cA*((aR s i).m-hold b m i)) (hold b m i))) (by omega)) (by simp) rfl ?_;rintro x e J' ⟨rfl,rfl,g⟩;simp[g,dw]
theorem NF{b:bV}{m:bZ}{s:List Rock.aG}:(ba b m s).length=s.length:=by simp[ba]
theorem Ta(l:List Int):(fM l aO).length=l.length:=by
 have:=b8 (f:=aO) (w:=1) (λ_=>rfl) l;omega
theorem Ik{b:bV}{m:bZ}{s:List Rock.aG}(h:Fv b m)(hs:Sv b s):∀(n i v:Nat),i+n=s.length ->
  WL T [1,2,4,7,8] false eQ [(1,lF s aG.enc),(2,.bg (bM b m)),(4,.sl J.length 0 v 0 i 1),(7,iI s.length),(8,iI i)] ([.cells v (fM ((ba b m s).take i) aO)]::J)
   (λx e J'=>x=.exit 0/\get e 4=.sl J.length 0 (v+n) 0 (ba b m s).length 1/\J'=[.cells (v+n) (fM (ba b m s) aO)]::J)
 |0,i,v,hi=>by
  refine aA eQ.eq_1 ?_;have h1:¬i<s.length:=by omega
  have h3:(ba b m s).take i=ba b m s:=ah (by rw[NF];omega);simp[h1,h3,NF];omega
 |n+1,i,v,hi=>by
  refine aA eQ.eq_1 ?_;have h1:i<s.length:=by omega
  have hn:=h.bv.n;have hl:=hs.len;have h4:=cg h1;have hp:=λJ=>Jx (J:=J) h hs (i:=i) (by omega)
  have ih:=Ik h hs n (i+1) (v+1) (by omega);have hx:(ba b m s)[i]?=some (dw b m s i):=by simp[ba,h1]
  have a3:=BI (f:=aO) hx;have a4:=Ta ((ba b m s).take i);rw[dA,NF,Nat.min_eq_left (by omega)]at a4;have a6:(fM ((ba b m s).take i) aO).take i=fM ((ba b m s).take i) aO:=ah (by omega);have h7:(i+1)*8<=room:=by unfold room;omega
  simp[h1,h4,hp,a4,a6,h7];refine WL.to ih (by simp[]) (by simp[<- a3]) λx e J hh=>by simpa[dG,Nat.add_comm 1 n]using hh
theorem Oz{b:bV}{m:bZ}{s:List Rock.aG}(h:Fv b m)(hs:Sv b s)(hJ:J≠[]):Cl 358 [.agg (bM b m),lF s aG.enc] (lF (ba b m s) aO) J:=by
 refine au ?_;simp[];refine WL.to (Ik (J:=J) h hs s.length 0 0 (by omega)) (by simp) (by simp) ?_;rintro x e J' ⟨rfl,g4,rfl⟩;simp[g4];rw[ki (f:=aO) (by decide) (λ_=>rfl) (λx=>by simp) hJ (by simp)];simp
theorem QI{x:Rock.aG}:Cl 363 [.agg x.enc] (.bool x.valid) J:=by
 refine au ?_;cases hc1:bC x.m 1 1000000
 .simp[dQ,Rock.aG.valid,hc1]
 cases hc2:bC x.h 0 10000000000
 .simp[dQ,Rock.aG.valid,hc1,hc2]
 cases hc3:bC x.k 0 1000000000000
 .simp[dQ,Rock.aG.valid,hc1,hc2,hc3]
 simp[dQ,Rock.aG.valid,hc1,hc2,hc3]
theorem IL{x q m A:Int}(hm:1<=m)(hx:0<=x/\x<=A)(hq:0<=q/\q<=m):0<=(x*q).tdiv m/\(x*q).tdiv m<=A:=by
 have h1:=bA hx.1 hq.1;rw[aQ h1];refine⟨Int.ediv_nonneg h1 (by omega),Int.ediv_le_of_le_mul (by omega) ?_⟩;exact cp hx.2 hq.2 hq.1 (by omega)
theorem VR{x:Rock.aG}{q:Int}(hm:1<=x.m/\x.m<=1000000)(hh:0<=x.h/\x.h<=10000000000)(hk:0<=x.k/\x.k<=1000000000000)(hq:0<=q/\q<=x.m):
  Cl 336 [.agg x.enc,iI q] (.agg (x.out q).enc) J:=by
 refine au ?_;have b1:=iR hh.1 hh.2 hq.1 (show q<=1000000 by omega);have b2:=iR hk.1 hk.2 hq.1 (show q<=1000000 by omega);have b3:=IL hm.1 hh hq;have b4:=IL hm.1 hk hq;have w1:=cb (n:=x.h*q);have w2:=cb (n:=x.k*q);have w3:=cb (n:=(x.h*q).tdiv x.m);have w4:=cb (n:=(x.k*q).tdiv x.m);have hne:¬x.m=0:=by omega
 simp[w1,w2,w3,w4,hne,Rock.aG.out]
def sm(x:Rock.aG)(n:Int):Prop:=(-n<=x.m/\x.m<=n)/\(-n<=x.h/\x.h<=n)/\(-n<=x.k/\x.k<=n)
theorem Jw{F:List Abs.aG}{j v i:Nat}{s:List Rock.aG}{x o:Rock.aG}{sign:Int}(hF:F[j]?=some (.cells v (fM s aG.enc)))(hx:s[i]?=some x)(h1:sm x 1000000000000000000)(h2:sm o 1000000000000000000)(hs:sign=1\/sign = -1):
  dr T (.call false 334 [.ref J.length j v (i*3),.agg o.enc,iI sign] (F::J))=some (.val (.cK []) (F.set j (.cells v (fM (ck s i o sign) aG.enc))::J)):=by
 refine fy rfl rfl rfl (by simp) ?_;obtain⟨a1,a2,a3⟩:=h1;obtain⟨c1,c2,c3⟩:=h2;have hi:i<s.length:=(aB.1 hx).1;obtain⟨A,B,hA,hAB⟩:∃A B:List D,A.length=i*3/\fM s aG.enc=A++(x.enc++B):=by
  have hd:=rD (f:=aG.enc) (w:=3) (λ_=>rfl) hx;have hlen:=tB s;refine⟨(fM s aG.enc).take (i*3),(fM s aG.enc).drop (i*3+3),by rw[dA];omega,?_⟩;rw[<- hd,List.take_append_drop]
 have hset:fM (ck s i o sign) aG.enc=A++((x.move o sign).enc++B):=by
  have h3:=Md (f:=aG.enc) (w:=3) (λ_=>rfl) (x:=x.move o sign) hi;have hblk:aR s i=x:=by simp[aR,hx]
  rw[ck,hblk,<- h3,hAB];have e1:(A++(x.enc++B)).take (i*3)=A:=by rw[<- hA];simp
  have e2:(A++(x.enc++B)).drop (i*3+3)=B:=by
   rw[<- dh,<- hA];simp
  rw[e1,e2]
 rw[hAB]at hF;rw[hset];have hj:j<F.length:=(aB.1 hF).1;have gs:∀X:Abs.aG,(F.set j X)[j]?=some X:=λX=>by simp[hj]
 clear hset hAB hx hj;have t1:∀L:List D,(A++L).take (A.length+1)=A++L.take 1:=λL=>by rw[List.take_length_add_append]
 have t2:∀L:List D,(A++L).take (A.length+1+1)=A++L.take 2:=λL=>by rw[dG,List.take_length_add_append]
 have d2:∀L:List D,(A++L).drop (A.length+1+1)=L.drop 2:=λL=>by rw[dG,cV]
 have d1:∀L:List D,(A++L).drop (A.length+1)=L.drop 1:=λL=>by rw[cV]
 have d3:∀L:List D,(A++L).drop (A.length+1+1+1)=L.drop 3:=λL=>by rw[dG,dG,cV]
 have⟨k1,k2,k3,k4⟩:A.length+1+1<=A.length+(B.length+1+1+1)/\A.length+1+1+1<=A.length+(B.length+1+1+1)/\A.length+1<=A.length+(B.length+1+1+1)/\A.length+2+1<=A.length+(B.length+1+1+1):=by omega
 have d4:∀L:List D,(A++L).drop (A.length+2)=L.drop 2:=λL=>by rw[cV]
 have d5:∀L:List D,(A++L).drop (A.length+2+1)=L.drop 3:=λL=>by rw[dG,cV]
 have t4:∀L:List D,(A++L).take (A.length+2)=A++L.take 2:=λL=>by rw[List.take_length_add_append]
 have y1:=cb (n:=o.m);have y2:=cb (n:=o.h);have y3:=cb (n:=o.k);have y4:=cb (n := -o.m);have y5:=cb (n := -o.h);have y6:=cb (n := -o.k);rcases hs with rfl | rfl
 .have w1:=cb (n:=x.m+o.m);have w2:=cb (n:=x.h+o.h);have w3:=cb (n:=x.k+o.k);simp[hF,gs,<- hA,w1,w2,w3,y1,y2,y3,t1,t2,d1,d2,d3,k1,k2,k3,Rock.aG.move]
 .have w1:=cb (n:=x.m + -o.m);have w2:=cb (n:=x.h + -o.h);have w3:=cb (n:=x.k + -o.k);simp[hF,gs,<- hA,w1,w2,w3,y4,y5,y6,t1,t2,d1,d2,d3,k1,k2,k3,Rock.aG.move]
theorem Zd{w:bH}{r:Int}(hr : -100000<=r/\r<=100000)(h1:0<=w.h/\w.h<=3000)(h2:0<=w.m/\w.m<=1000000):
  Cl 335 [.agg w.enc,iI r] (.agg (w.given r).enc) J:=by
 refine au ?_;have b1 : -300000000<=r*w.h/\r*w.h<=300000000:=by
  rcases eV 0 r with h | h
  .have:=iR h hr.2 h1.1 h1.2;omega
  .have:=iR (a := -r) (A:=100000) (by omega) (by omega) h1.1 h1.2;rw[Int.neg_mul]at this;omega
 have b2 : -100000000000<=r*w.m/\r*w.m<=100000000000:=by
  rcases eV 0 r with h | h
  .have:=iR h hr.2 h2.1 h2.2;omega
  .have:=iR (a := -r) (A:=100000) (by omega) (by omega) h2.1 h2.2;rw[Int.neg_mul]at this;omega
 have w1:=cb (n := -r);have w2:=cb (n := -(r*w.h));have w3:=cb (n := -(r*w.m));simp[w1,w2,w3,bH.given,Int.neg_mul]
theorem af2{b:bV}{m:bZ}(h:Fv b m){i:Nat}(hi:i<b.n):Cl 337 [.agg (bM b m),iI i] (.agg (IE b m i).enc) J:=by
 refine au ?_;have hf:=λJ=>acE (J:=J) h.toMv hi
 have b1:=h.feed i hi;have b2:=h.bv.deep;have b3:=iR b1.1 b1.2 b2.1 b2.2;have w1:=cb (n:=feed b m i*b.deep);simp[hf,w1,IE]
theorem Y7{s:List Rock.aG}{bs:List Abs.aG}(hl:s.length<=1000000)(hne:s≠[]):dr T (.call true 332 [lF s aG.enc] (bs::J)) =
  some (.val (.sl J.length (bs.length+1) 1 0 s.length 3) ((bs++[.cells 0 [],.cells 1 (fM s aG.enc)])::J)):=by
 refine vy rfl rfl rfl ?_;have h7:s.length*24<=room:=by unfold room;omega
 simp[hne,tB,h7]
end Go.Proofs.YtpapbbojmclkgaaGreatDoor
