import Derived.Test.YtanhdobabijmoaaGreatDoorTab
set_option linter.all false
namespace Go.aI
open List(length_flatMap map_take)
open Go Go.aA
structure cU where
 x:Int
 y:Int
 z:Int
 k:Int
structure Rw where
 t:Int
 p:Int
 l:Int
 v:Int
 s:Int
structure bJ where
 b:Int
 h:Int
 m:Int
structure cp where
 f:cU
 cn:List Rw
 bL:Int
 lift:Int
 deep:Int
 an:List bJ
structure bE where
 name:List UInt8
 aU:List Int
structure aO where
 m:Int
 h:Int
 k:Int
@[simp] theorem cU.eta(p:cU):cU.mk p.x p.y p.z p.k=p:=rfl
@[simp] theorem Rw.eta(p:Rw):Rw.mk p.t p.p p.l p.v p.s=p:=rfl
@[simp] theorem bJ.eta(p:bJ):bJ.mk p.b p.h p.m=p:=rfl
@[simp] theorem aO.eta(p:aO):aO.mk p.m p.h p.k=p:=rfl
@[simp] def cU.enc(f:cU):List D:=[.int .i64 f.x,.int .i64 f.y,.int .i64 f.z,.int .i64 f.k]
@[simp] def Rw.enc(r:Rw):List D:=[.int .i64 r.t,.int .i64 r.p,.int .i64 r.l,.int .i64 r.v,.int .i64 r.s]
@[simp] def bJ.enc(r:bJ):List D:=[.int .i64 r.b,.int .i64 r.h,.int .i64 r.m]
@[simp] def aO.enc(r:aO):List D:=[.int .i64 r.m,.int .i64 r.h,.int .i64 r.k]
@[simp] def aM(n:Int):List D:=[.int .i64 n]
@[simp] def cp.enc(b:cp):List D:=[.int .i64 b.f.x,.int .i64 b.f.y,.int .i64 b.f.z,.int .i64 b.f.k,.aJ b.cn.length (b.cn.flatMap Rw.enc),.int .i64 b.bL,.int .i64 b.lift,.int .i64 b.deep,.aJ b.an.length (b.an.flatMap bJ.enc)]
@[simp] def bE.enc(m:bE):List D:=[.str m.name,.aJ m.aU.length (m.aU.flatMap aM)]
def SY(s:List aO):D:=.aJ s.length (s.flatMap aO.enc)
def cj(n lo hi:Int):Bool:=decide (lo<=n) && decide (n<=hi)
theorem bk{n lo hi:Int}:cj n lo hi=true↔lo<=n/\n<=hi:=by simp[cj]
def cU.size(f:cU):Int:=f.x*f.y*f.z
def cU.valid(f:cU):Bool:=cj f.x 1 8 && (cj f.y 1 8 && (cj f.z 1 8 && (decide (f.size<=64) && cj f.k 1 6)))
theorem cU.mo{f:cU}:f.valid=true↔(1<=f.x/\f.x<=8)/\(1<=f.y/\f.y<=8)/\(1<=f.z/\f.z<=8)/\f.size<=64/\(1<=f.k/\f.k<=6):=by
 simp[cU.valid,cj,and_assoc]
def cU.shape(f:cU):Int:=if f.valid then 0 else 1
def letter(c:UInt8):Bool:=decide (97<=c.toNat) && decide (c.toNat<=122)
def digit(c:UInt8):Bool:=decide (48<=c.toNat) && decide (c.toNat<=57)
def um(i:Nat):List UInt8->Bool
 |[]=>true
 |c::l=>(letter c || (decide (i≠0) && digit c)) && um (i+1) l
def named(s:List UInt8):Bool:=um 0 s && cj s.length 1 16
def cU.model(f:cU)(m:bE):Int:=if named m.name then(if(m.aU.length:Int)=f.k*f.size/\fL m.aU (λn=>cj n (-100000) 100000)=true then 0 else 1)else 5
def cU.each(f:cU)(met:List (List UInt8)):List bE->Int
 |[]=>0
 |m::l=>if f.model m=0 then(if met.contains m.name then 6 else f.each (met++[m.name]) l)else f.model m
def cU.aj(f:cU)(l:List bE):Int:=if cj l.length 1 40 then f.each [] l else 3
def ed(f:cU)(l:List bE):Int:=if f.valid then f.aj l else 1
def Rw.alone(r:Rw):Bool:=cj r.t 0 400 && (cj r.p 1 10000 && (cj r.l 0 4000 && (cj r.s 0 2000 && (decide (r.l<r.v) && decide (r.v<=4000)))))
def Rw.KP(o r:Rw):Bool := !(decide (r.t<=o.t) || (decide (r.p<=o.p) || (decide (r.l<=o.l) || decide (r.s<o.s))))
def Gj:List Rw->Bool
 |o::r::l=>o.KP r && Gj (r::l)
 |_=>true
def jV(t:List Rw):Bool:=cj t.length 2 20 && (fL t Rw.alone && Gj t)
def bJ.ok(size:Int)(used:List Int)(w:bJ):Bool:=cj w.b 0 (size-1) && (!used.contains w.b && (cj w.h 0 3000 && cj w.m 0 1000000))
def vo(size:Int)(used:List Int):List bJ->Bool
 |[]=>true
 |w::l=>w.ok size used && vo size (used++[w.b]) l
def cp.size(b:cp):Int:=b.f.size
def cp.ok1(b:cp):Bool:=b.f.valid && (decide (4<=b.f.k) && (jV b.cn && (cj b.bL 1 100000 && (cj b.lift 0 1000 && (cj b.deep 0 3000 && decide (b.an.length<=8))))))
def cp.valid(b:cp):Bool:=b.ok1 && vo b.size [] b.an
def cp.n(b:cp):Nat:=b.size.toNat
def wW(b:cp)(m:bE)(k:Nat):List Int:=(m.aU.drop (k*b.n)).take b.n
def vK(b:cp)(m:bE)(k:Nat)(i:Nat):Int:=(m.aU[k*b.n+i]?).getD 0
def hold(b:cp)(m:bE)(i:Nat):Int:=vK b m 0 i
def JM(b:cp)(m:bE)(i:Nat):Int:=vK b m 1 i
def JV(b:cp)(m:bE)(i:Nat):Int:=vK b m 2 i
def feed(b:cp)(m:bE)(i:Nat):Int:=vK b m 3 i
def fits(b:cp)(m:bE):Bool:=decide (ed b.f [m]=0) && (fL (wW b m 0) (λn=>cj n 1000 100000) && (fL (wW b m 1) (λn=>cj n 0 1000) && (fL (wW b m 2) (λn=>cj n 0 3000) && fL (wW b m 3) (λn=>cj n 0 1000))))
def Bd(b:cp)(m:bE):Bool:=b.valid && fits b m
def dH(b:cp)(m:bE):List aO:=(List.range b.n).map λi=>⟨hold b m i,hold b m i*JV b m i,0⟩
def aO.valid(x:aO):Bool:=cj x.m 1 1000000 && (cj x.h 0 10000000000 && cj x.k 0 1000000000000)
def zD(b:cp)(s:List aO):Bool:=decide ((s.length:Int)=b.size) && fL s aO.valid
def weight(b:cp)(i:Nat):Int:=((i / (b.f.x.toNat*b.f.y.toNat):Nat):Int)*b.lift
def down(n d:Int):Int:=n / d
def bZ(s:List aO)(i:Nat):aO:=(s[i]?).getD ⟨0,0,0⟩
def qR(x:aO)(out:Int)(r:Rw):Int:=if r.l*x.m<=x.h then max out r.p else out
def kj(b:cp)(m:bE)(s:List aO)(i:Nat):Int :=
 b.cn.foldl (qR (bZ s i)) (max 0 (weight b i+down (b.bL*((bZ s i).m-hold b m i)) (hold b m i)))
def b9(b:cp)(m:bE)(s:List aO):List Int:=(List.range s.length).map (kj b m s)
def zu(b:cp)(i:Nat):List (Nat×Nat) :=
 (if(i+1)%b.f.x.toNat≠0 then [(i,i+1)]else [])++((if i / b.f.x.toNat%b.f.y.toNat≠b.f.y.toNat-1 then [(i,i+b.f.x.toNat)]else [])++(if i+b.f.x.toNat*b.f.y.toNat<b.n then [(i,i+b.f.x.toNat*b.f.y.toNat)]else []))
def KE(b:cp):List (Nat×Nat):=(List.range b.n).flatMap (zu b)
def aO.out(x:aO)(m:Int):aO:=⟨m,(x.h*m).tdiv x.m,(x.k*m).tdiv x.m⟩
def aO.move(x o:aO)(sign:Int):aO:=⟨x.m+sign*o.m,x.h+sign*o.h,x.k+sign*o.k⟩
def Ly(b:cp)(m:bE)(s:List aO)(p:List Int)(l:Nat×Nat):Option ((Nat×Nat)×aO) :=
 let d:=(p[l.1]?).getD 0-weight b l.1-(p[l.2]?).getD 0+weight b l.2
 let l':=if d<0 then(l.2,l.1)else l
 let d':=if d<0 then -d else d
 let q:=min ((min (JM b m l'.1) (JM b m l'.2)*d').tdiv 1000) ((bZ s l'.1).m.tdiv 8)
 if 0<q then some (l',(bZ s l'.1).out q)else none
def Sw(es:List ((Nat×Nat)×aO))(k:Nat×Nat)(o:aO):List ((Nat×Nat)×aO) :=
 match es.findIdx? (λe=>e.1 == k)with
 |some j=>es.set j (k,o)
 |none=>es++[(k,o)]
def pV(b:cp)(m:bE)(s:List aO)(p:List Int)(es:List ((Nat×Nat)×aO))(l:Nat×Nat):List ((Nat×Nat)×aO) :=
 match Ly b m s p l with
 |some e=>Sw es e.1 e.2
 |none=>es
def wR(b:cp)(m:bE)(s:List aO):List ((Nat×Nat)×aO):=(KE b).foldl (pV b m s (b9 b m s)) []
def gT(s:List aO)(i:Nat)(o:aO)(sign:Int):List aO:=s.set i ((bZ s i).move o sign)
def eo(s:List aO)(e:(Nat×Nat)×aO):List aO:=gT (gT s e.1.1 e.2 (-1)) e.1.2 e.2 1
def bJ.given(w:bJ)(rate:Int):aO:=⟨-rate,-rate*w.h,-rate*w.m⟩
def sS(s:List aO)(w:bJ)(rate:Int):aO:=if rate<0 then⟨0,0,0⟩else(bZ s w.b.toNat).out (min rate ((bZ s w.b.toNat).m.tdiv 8))
def vn(s next:List aO)(w:bJ)(rate:Int):List aO:=if rate<0 then gT next w.b.toNat (w.given rate) 1 else gT next w.b.toNat (sS s w rate) (-1)
def O2(b:cp)(m:bE)(i:Nat):aO:=⟨feed b m i,feed b m i*b.deep,0⟩
def Ek(b:cp)(m:bE)(s:List aO)(aW:List Int):List aO :=
 let s1:=(wR b m s).foldl eo s
 let s2:=(b.an.zip aW).foldl (λn wr=>vn s n wr.1 wr.2) s1
 (List.range s.length).foldl (λn i=>gT n i (O2 b m i) 1) s2
def dR(b:cp)(s:List aO)(aW:List Int):List aO:=(b.an.zip aW).map λwr=>sS s wr.1 wr.2
def tick(b:cp)(m:bE)(s:List aO)(aW:List Int):Option (List aO×List aO) :=
 if zD b (Ek b m s aW)then some (Ek b m s aW,dR b s aW)else none
def Bu(b:cp)(l:List Int):Int:=if l.length=b.an.length then(if fL l (λn=>cj n (-100000) 100000)then 0 else 2)else 1
def cQ{α:Type}(f:α->Int):List α->Int
 |[]=>0
 |x::l=>if f x=0 then cQ f l else f x
def xu(b:cp)(aD:List (List Int)):Int:=if 200<aD.length then 3 else cQ (Bu b) aD
def wC(b:cp)(m:bE):List (List aO)->List (List aO)->List aO->List (List Int)->Option (List (List aO)×List (List aO))
 |ss,ys,_,[]=>some (ss,ys)
 |ss,ys,s,r::aD =>
  match tick b m s r with
  |some (s',y)=>wC b m (ss++[s']) (ys++[y]) s' aD
  |none=>none
def run(b:cp)(m:bE)(aD:List (List Int)):Option (List (List aO)×List (List aO)):=wC b m [dH b m] [] (dH b m) aD
end Go.aI
namespace Go.dk
open List(length_flatMap map_take)
open Go Go.aA Go.aI
def El(s:List UInt8):Option Int:=if((q7 s).1=0/\dp (q7 s).2=s)/\cj (q7 s).2 (-999999999) 999999999=true then some (q7 s).2 else none
def oN:List (List UInt8)->Option (List Int)
 |[]=>some []
 |s::l=>match El s with
  |some n=>(oN l).map (n :: ·)
  |none=>none
structure Wd where
 named:Bool
 least:Int
 step:Int
 k:Nat
def oP:List (List UInt8×Wd):=[
 ([102,105,101,108,100],⟨false,4,0,0⟩),([116,97,98,108,101],⟨false,0,5,1⟩),([98,101,100],⟨false,3,0,2⟩),([119,101,108,108],⟨false,3,0,3⟩),
 ([109,111,100,101,108],⟨true,0,1,4⟩),([108,111,103],⟨true,3,2,5⟩),([114,117,108,101],⟨false,10,0,6⟩),([107,101,101,112],⟨false,3,0,7⟩),
 ([113,117,97,107,101],⟨false,0,4,8⟩),([116,105,99,107],⟨false,0,1,9⟩),([114,101,97,100],⟨false,4,0,10⟩),([117,110,105,116],⟨false,1,2,11⟩),([115,101,108,108],⟨false,4,0,12⟩)]
def DK(s:List UInt8):List (List UInt8×Wd)->Option Wd
 |[]=>none
 |(k,w)::l=>if s=k then some w else DK s l
def yS(s:List UInt8):Option Wd:=DK s oP
theorem CZ{s:List UInt8}{w:Wd}:∀{l:List (List UInt8×Wd)},DK s l=some w->(s,w)∈l
 |[],h=>by cases h
 |(k,v)::l,h=>by
  simp only[DK]at h;split at h
  .rename_i e;cases h;subst e;simp
  .exact List.mem_cons_of_mem _ (CZ h)
theorem FE{s:List UInt8}{w:Wd}(h:yS s=some w):0<=w.least/\w.least<=10/\0<=w.step/\w.step<=5/\w.k<13:=by
 have h1:=CZ h;simp only[oP,aY,ak,List.not_mem_nil,or_false]at h1;rcases h1 with⟨_,rfl⟩ | ⟨_,rfl⟩ | ⟨_,rfl⟩ | ⟨_,rfl⟩ | ⟨_,rfl⟩ | ⟨_,rfl⟩ | ⟨_,rfl⟩ | ⟨_,rfl⟩ | ⟨_,rfl⟩ | ⟨_,rfl⟩ | ⟨_,rfl⟩ | ⟨_,rfl⟩ | ⟨_,rfl⟩<;>simp
def F6(w:Wd)(n:Int):Bool:=decide (n-w.least=0) || (decide (0<n-w.least) && (decide (0<w.step) && decide ((n-w.least).tmod w.step=0)))
def vd(w:Wd)(name:List UInt8)(l:List (List UInt8)):Option (Wd×List UInt8×List Int) :=
 match oN l with
 |some ns=>if F6 w ns.length=true then some (w,name,ns)else none
 |none=>none
def parse(s:List UInt8):Option (Wd×List UInt8×List Int) :=
 match bQ 32 s with
 |[]=>none
 |a::all=>match yS a with
  |none=>none
  |some w=>if w.named=true then(match all with
   |[]=>none
   |n::r=>vd w n r)else vd w [] all
theorem vP(b:UInt8)(s:List UInt8):bQ b s≠[]:=by
 cases s with
 |nil=>simp[bQ]
 |cons c r =>
  simp only[bQ];split
  .simp
  .split<;>simp
theorem BA(b:UInt8):∀s:List UInt8,(bQ b s).length<=s.length+1
 |[]=>by simp[bQ]
 |c::r=>by
  have:=BA b r;simp only[bQ];split
  .simp;omega
  .split
   .rename_i h;rw[h]at this;simp at this ⊢;omega
   .simp
theorem Ls:∀(j k u:Nat),u<10^j->0<j->(kl k u).length<=j
 |_,0,u,_,_=>by simp[kl]
 |0,_,u,_,h=>by omega
 |j+1,k+1,u,h,_=>by
  unfold kl;split
  .simp
  .rename_i h1;have hj:0<j:=by
    rcases Nat.eq_zero_or_pos j with rfl | h2
    .simp at h;omega
    .exact h2
   have:=Ls j k (u / 10) (by rw[Nat.pow_succ]at h;omega) hj;simp;omega
theorem Jh{u:Nat}(h:u<256):(UInt8.ofNat u).toNat=u:=by simp;omega
theorem Aj:∀(k u:Nat),∀b∈kl k u,48<=b.toNat/\b.toNat<=57
 |0,u,b,h=>by simp[kl]at h
 |k+1,u,b,h=>by
  unfold kl at h;split at h
  .simp only[List.mem_singleton]at h;rw[h,Jh (by omega)];omega
  .simp only[ba,List.mem_singleton]at h;rcases h with h | h
   .exact Aj k (u / 10) b h
   .rw[h,Jh (by omega)];omega
theorem Lt{k u:Nat}:kl (k+1) u≠[]:=by
 unfold kl;split<;>simp
theorem F1:∀(k u:Nat),u<10^k->u≠0->∃c r,kl k u=c::r/\c.toNat≠48
 |0,u,h,h0=>by simp at h;omega
 |k+1,u,h,h0=>by
  unfold kl;split
  .exact⟨_,_,rfl,by rw[Jh (by omega)];omega⟩
  .obtain⟨c,r,h1,h2⟩:=F1 k (u / 10) (by rw[Nat.pow_succ]at h;omega) (by omega);exact⟨c,r++[UInt8.ofNat (48+u%10)],by rw[h1];rfl,h2⟩
theorem Gi:∀(k u:Nat) (r:List UInt8),u<10^k->u<1000000000000->Lib.parseUint10 0 (kl k u++r)=Lib.parseUint10 u r
 |0,u,r,h,_=>by
  simp at h;subst h;rfl
 |k+1,u,r,h,hs=>by
  unfold kl;split
  .have h1:(UInt8.ofNat (48+u)).toNat=48+u:=Jh (by omega);simp only[cf,Lib.parseUint10,h1];rw[if_pos (by omega),if_neg (by omega),if_neg (by omega)];congr 1;omega
  .have h1:(UInt8.ofNat (48+u%10)).toNat=48+u%10:=Jh (by omega);rw[c8,Gi k (u / 10) _ (by rw[Nat.pow_succ]at h;omega) (by omega)];simp only[cf,Lib.parseUint10,h1];rw[if_pos (by omega),if_neg (by omega),if_neg (by omega)];congr 1;omega
def n7(n:Int):Prop := -100000<=n/\n<=100000
theorem FW{n:Int}(h:n7 n):q7 (dp n)=(0,n):=by
 unfold n7 at h;unfold dp;split
 .rename_i hn;have h1:=Gi 20 n.natAbs [] (by omega) (by omega);rw[ct]at h1;have h2:Lib.parseMag (kl 20 n.natAbs)=.ok n.natAbs:=by
   unfold Lib.parseMag;rw[if_neg Lt,h1];rfl
  unfold q7;simp only[Lib.atoiAll];have e:(45:UInt8).toNat=45:=rfl;simp only[e,or_true,if_true,h2,not_true_eq_false,false_and,if_false,true_and];rw[if_neg (by omega)];dsimp only;congr 1;omega
 .rename_i hn;have h1:=Gi 20 n.toNat [] (by omega) (by omega);rw[ct]at h1;have h2:Lib.parseMag (kl 20 n.toNat)=.ok n.toNat:=by
   unfold Lib.parseMag;rw[if_neg Lt,h1];rfl
  obtain⟨c,r,hc⟩:∃c r,kl 20 n.toNat=c::r:=by
   cases hd:kl 20 n.toNat with
   |nil=>exact absurd hd Lt
   |cons c r=>exact⟨c,r,rfl⟩
  have hd:=Aj 20 n.toNat c (by rw[hc];simp);rw[hc]at h2 ⊢;unfold q7;simp only[Lib.atoiAll];rw[if_neg (by omega),h2];dsimp only;rw[if_neg (by omega),if_neg (by omega),if_neg (by omega)];dsimp only;congr 1;omega
def nb(b:UInt8):Prop:=b.toNat=45\/(48<=b.toNat/\b.toNat<=57)
theorem Xx(n:Int):∀b∈dp n,nb b:=by
 intro b hb;unfold dp at hb;split at hb
 .rcases aY.1 hb with rfl | hb
  .exact .inl rfl
  .exact .inr (Aj _ _ _ hb)
 .exact .inr (Aj _ _ _ hb)
theorem CB{n:Int}(h:n7 n):(dp n).length<=7:=by
 unfold n7 at h;unfold dp;have h1:=Ls 6 20 n.natAbs (by omega) (by omega);have h2:=Ls 6 20 n.toNat (by omega) (by omega);split<;>simp<;>omega
def tp(s:List UInt8):List UInt8:=match s with
 |c::r=>if c=45 then r else s
 |[]=>[]
theorem M1{α:Type}{p:α->Bool}:∀{l:List α},(∀x∈l,p x=true)->l.dropWhile p=[]
 |[],_=>rfl
 |x::l,h=>by
  rw[List.dropWhile_cons_of_pos (h x (by simp))];exact M1 λy hy=>h y (by simp[hy])
theorem VO{cs s:List UInt8}(h:∀b∈s,cs.contains b=true):GU cs s=[]:=by
 unfold GU;rw[M1 (l:=s.reverse) λx hx=>h x (by simpa using hx)];rfl
def RR:List UInt8:=[48,49,50,51,52,53,54,55,56,57]
theorem Xd{b:UInt8}(h:48<=b.toNat/\b.toNat<=57):RR.contains b=true:=by
 have:b.toNat=48\/b.toNat=49\/b.toNat=50\/b.toNat=51\/b.toNat=52\/b.toNat=53\/b.toNat=54\/b.toNat=55\/b.toNat=56\/b.toNat=57:=by omega
 have key:∀k:UInt8,b.toNat=k.toNat->b=k:=λk hk=>UInt8.toNat_inj.1 hk
 rcases this with h | h | h | h | h | h | h | h | h | h
 .rw[key 48 h];decide
 .rw[key 49 h];decide
 .rw[key 50 h];decide
 .rw[key 51 h];decide
 .rw[key 52 h];decide
 .rw[key 53 h];decide
 .rw[key 54 h];decide
 .rw[key 55 h];decide
 .rw[key 56 h];decide
 .rw[key 57 h];decide
theorem PM{n:Int}(h:n7 n):∃c r,tp (dp n)=c::r/\GU RR (tp (dp n))=[]/\(c≠48\/dp n=[48]):=by
 unfold n7 at h;have key:∀u,u<1000000->∃c r,kl 20 u=c::r/\GU RR (kl 20 u)=[]/\(c≠48\/kl 20 u=[48])/\c≠45:=by
  intro u hu;have ht:GU RR (kl 20 u)=[]:=VO λb hb=>Xd (Aj _ _ _ hb)
  by_cases h0:u=0
  .subst h0;exact⟨48,[],rfl,ht,.inr rfl,by decide⟩
  .obtain⟨c,r,h1,h2⟩:=F1 20 u (by omega) h0;refine⟨c,r,h1,ht,.inl λe=>h2 (by rw[e];rfl),λe=>?_⟩;have:=Aj 20 u c (by rw[h1];simp);rw[e]at this;exact absurd this.1 (by decide)
 unfold dp;split
 .rename_i hn;obtain⟨c,r,h1,h2,h3,h4⟩:=key n.natAbs (by omega);refine⟨c,r,by simp[tp,h1],by simp[tp,h2],?_⟩;rcases h3 with h3 | h3
  .exact .inl h3
  .obtain⟨c',r',h5,h6⟩:=F1 20 n.natAbs (by omega) (by omega);rw[h1]at h3 h5;cases h3;cases h5;exact absurd rfl h6
 .rename_i hn;obtain⟨c,r,h1,h2,h3,h4⟩:=key n.toNat (by omega);have h5:tp (kl 20 n.toNat)=kl 20 n.toNat:=by
   rw[h1];simp[tp,h4]
  exact⟨c,r,by rw[h5,h1],by rw[h5,h2],h3⟩
theorem Iu:∀{a r:List UInt8},(∀b∈a,b≠10)->yk 10 (a++10::r)=(a,r,true)
 |[],r,h=>by simp[yk]
 |c::a,r,h=>by
  have h1:¬c=10:=h c (by simp);have ih:=Iu (a:=a) (r:=r) λb hb=>h b (by simp[hb])
  simp[yk,h1,ih]
theorem BB:∀{a:List UInt8},(∀b∈a,b≠32)->bQ 32 a=[a]
 |[],h=>rfl
 |c::a,h=>by
  have h1:¬c=32:=h c (by simp);have ih:=BB (a:=a) λb hb=>h b (by simp[hb])
  simp[bQ,h1,ih]
theorem GS:∀{a r:List UInt8},(∀b∈a,b≠32)->bQ 32 (a++32::r)=a::bQ 32 r
 |[],r,h=>by simp[bQ]
 |c::a,r,h=>by
  have h1:¬c=32:=h c (by simp);have ih:=GS (a:=a) (r:=r) λb hb=>h b (by simp[hb])
  simp[bQ,h1,ih]
theorem Jb:∀{xs:List (List UInt8)} {x:List UInt8},(∀y∈x::xs,∀b∈y,b≠32)->bQ 32 (x++xs.flatMap ([32] ++ ·))=x::xs
 |[],x,h=>by simpa using BB (h x (by simp))
 |y::xs,x,h=>by
  have ih:=Jb (xs:=xs) (x:=y) λz hz=>h z (by simp only[aY]at hz ⊢;exact .inr hz)
  have h1:=GS (a:=x) (r:=y++xs.flatMap ([32] ++ ·)) (h x (by simp));rw[ih]at h1;simpa using h1
theorem Ja{xs:List (List UInt8)}(hne:xs≠[])(h:∀y∈xs,∀b∈y,b≠32):bQ 32 (kh [32] xs)=xs:=by
 cases xs with
 |nil=>exact absurd rfl hne
 |cons x xs=>exact Jb h
theorem QI{xs:List (List UInt8)}{c:UInt8}(hc:c≠32)(h:∀y∈xs,∀b∈y,b≠c):∀b∈kh [32] xs,b≠c:=by
 cases xs with
 |nil=>simp[kh]
 |cons x xs =>
  intro b hb;simp only[kh,ba,List.mem_flatMap,List.mem_singleton]at hb;rcases hb with hb | ⟨y,hy,hb | hb⟩
  .exact h x (by simp) b hb
  .rw[hb];exact λe=>hc e.symm
  .exact h y (by simp[hy]) b hb
theorem Kz{xs:List (List UInt8)}{x:List UInt8}(hne:xs≠[]):kh [32] (xs++[x])=kh [32] xs++32::x:=by
 cases xs with
 |nil=>exact absurd rfl hne
 |cons y ys=>simp[kh]
theorem Kx{s:List UInt8}:∀{l:List (List UInt8)} {m:Nat},(∀x∈l,x.length<=m)->(kh s l).length<=l.length*(m+s.length)
 |[],m,h=>by simp[kh]
 |x::r,m,h=>by
  have key:∀r:List (List UInt8),(∀x∈r,x.length<=m)->(r.flatMap (s ++ ·)).length<=r.length*(m+s.length):=by
   intro r;induction r with
   |nil=>simp
   |cons y r ih =>
    intro h;have:=ih λx hx=>h x (by simp[hx])
    have h1:=h y (by simp);simp only[aS,aF,av,cq];omega
  have h1:=key r λx hx=>h x (by simp[hx])
  have h2:=h x (by simp);simp only[kh,aF,av,cq];omega
def uf:List UInt8:=[102,105,101,108,100]
def BE:List UInt8:=[109,111,100,101,108]
def AH:List UInt8:=[101,110,100]
def eh(w:List UInt8)(l:List Int):List (List UInt8):=(if w=[]then []else [w])++l.map dp
def jf(w:List UInt8)(l:List Int):List UInt8:=kh [32] (eh w l)
def sf(x:Nat):Nat->List Int->List UInt8
 |0,_=>[]
 |n+1,l=>jf [] (l.take x)++10::sf x n (l.drop x)
def NR(x n:Nat)(m:bE):List UInt8:=kh [32] [BE,m.name]++10::sf x n m.aU
def tz(x n:Nat):List bE->List UInt8
 |[]=>[]
 |m::l=>NR x n m++tz x n l
def vm(f:cU)(x n:Nat)(l:List bE):List UInt8:=jf uf [f.x,f.y,f.z,f.k]++10::(tz x n l++(jf AH [(l.length:Int)]++[10]))
theorem Xy{n:Int}{c:UInt8}(hc:¬nb c):∀b∈dp n,b≠c:=λb hb e=>hc (e ▸ Xx n b hb)
theorem NZ{w:List UInt8}{l:List Int}{c:UInt8}(hc:¬nb c)(hw:∀b∈w,b≠c):∀y∈eh w l,∀b∈y,b≠c:=by
 intro y hy;simp only[eh,ba,bN]at hy;rcases hy with hy | ⟨n,_,rfl⟩
 .split at hy
  .cases hy
  .simp only[List.mem_singleton]at hy;subst hy;exact hw
 .exact Xy hc
theorem agE:¬nb 10:=by simp[nb]
theorem agF:¬nb 32:=by simp[nb]
theorem IP{w r:List UInt8}{l:List Int}(hw:∀b∈w,b≠10):yk 10 (jf w l++10::r)=(jf w l,r,true):=Iu (QI (by decide) (NZ agE hw))
theorem Ej{w:List UInt8}{l:List Int}(hne:eh w l≠[])(hw:∀b∈w,b≠32):bQ 32 (jf w l)=eh w l:=Ja hne (NZ agF hw)
theorem NW{s:List UInt8}(h:named s=true):∀b∈s,b≠10/\b≠32:=by
 have key:∀(s:List UInt8) (i:Nat),um i s=true->∀b∈s,b≠10/\b≠32:=by
  intro s;induction s with
  |nil=>intro i _ b hb;cases hb
  |cons c s ih =>
   intro i h b hb;simp only[um,ae,bY]at h;rcases aY.1 hb with rfl | hb
   .have h1:letter b=true\/digit b=true:=h.1.imp id And.right;constructor<;>rintro rfl<;>simp[letter,digit]at h1
   .exact ih _ h.2 b hb
 simp only[named,ae]at h;exact key s 0 h.1
theorem Au{s:List UInt8}(h:named s=true):1<=s.length/\s.length<=16:=by
 simp only[named,ae]at h;have:=bk.1 h.2;omega
theorem Sj{nm r:List UInt8}(h:named nm=true):yk 10 (kh [32] [BE,nm]++10::r)=(kh [32] [BE,nm],r,true) :=
 Iu (QI (by decide) λy hy=>by
  simp only[aY,List.not_mem_nil,or_false]at hy;rcases hy with rfl | rfl
  .decide
  .exact λb hb=>(NW h b hb).1)
theorem NT{nm:List UInt8}(h:named nm=true):bQ 32 (kh [32] [BE,nm])=[BE,nm] :=
 Ja (by simp) λy hy=>by
  simp only[aY,List.not_mem_nil,or_false]at hy;rcases hy with rfl | rfl
  .decide
  .exact λb hb=>(NW h b hb).2
theorem AI{w:List UInt8}{l:List Int}(h:∀n∈l,n7 n)(hw:w.length<=7):(jf w l).length<=(l.length+1)*8:=by
 have h1:=Kx (s:=[32]) (l:=eh w l) (m:=7) (by
  intro y hy;simp only[eh,ba,bN]at hy;rcases hy with hy | ⟨n,hn,rfl⟩
  .split at hy
   .cases hy
   .simp only[List.mem_singleton]at hy;subst hy;exact hw
  .exact CB (h n hn))
 have h2:(eh w l).length<=l.length+1:=by
  simp only[eh,aF,cV];split<;>simp<;>omega
 unfold jf;simp only[List.length_singleton]at h1;have:=bU 8 h2;omega
theorem Ou{l:List Int}(h:∀n∈l,n7 n):(jf [] l).length<=l.length*8:=by
 have h1:=Kx (s:=[32]) (l:=eh [] l) (m:=7) (by
  intro y hy;simp only[eh,if_true,aQ,bN]at hy;obtain⟨n,hn,rfl⟩:=hy;exact CB (h n hn))
 simpa[eh,jf]using h1
theorem KZ:∀{x n:Nat} {l:List Int},(∀v∈l,n7 v)->l.length=n*x->1<=x->(sf x n l).length<=l.length*9
 |x,0,l,_,h,_=>by simp[sf]
 |x,n+1,l,hv,h,hx=>by
  rw[cq]at h;have h1:=Ou (l:=l.take x) λv hv'=>hv v (bR hv')
  have h2:=KZ (x:=x) (n:=n) (l:=l.drop x) (λv hv'=>hv v (ck hv')) (by simp;omega) hx;simp only[sf,aF,av];simp only[fT,List.length_drop]at h1 h2;have h3:min x l.length=x:=by omega
  rw[h3]at h1;omega
theorem Ot{x n:Nat}{m:bE}(hn:named m.name=true)(hv:∀v∈m.aU,n7 v)(h:m.aU.length=n*x)(hx:1<=x):(NR x n m).length<=30+m.aU.length*9:=by
 have h1:=KZ hv h hx;have h2:=Au hn;simp only[NR,kh,BE,aF,av,aS,bM,aV];omega
theorem Gu{x n k:Nat}:∀{l:List bE},(∀m∈l,named m.name=true/\(∀v∈m.aU,n7 v)/\m.aU.length=n*x)->1<=x->n*x<=k->(tz x n l).length<=l.length*(30+k*9)
 |[],_,_,_=>by simp[tz]
 |m::l,h,hx,hk=>by
  obtain⟨h1,h2,h3⟩:=h m (by simp);have h4:=Ot h1 h2 h3 hx;have h5:=Gu (l:=l) (λm hm=>h m (by simp[hm])) hx hk;simp only[tz,aF,av,cq];omega
theorem K0{f:cU}{x n:Nat}{l:List bE}(hf:n7 f.x/\n7 f.y/\n7 f.z/\n7 f.k)(h:∀m∈l,named m.name=true/\(∀v∈m.aU,n7 v)/\m.aU.length=n*x)(hx:1<=x)(hk:n*x<=384)(hl:l.length<=40):
  (vm f x n l).length<=150000:=by
 have h1:=Gu h hx hk;have h2:=AI (w:=uf) (l:=[f.x,f.y,f.z,f.k]) (by intro v hv;simp only[aY,List.not_mem_nil,or_false]at hv;rcases hv with rfl | rfl | rfl | rfl<;>simp[hf]) (by decide);have h3:=AI (w:=AH) (l:=[(l.length:Int)]) (by intro v hv;simp only[List.mem_singleton]at hv;subst hv;unfold n7;omega) (by decide);simp only[vm,aF,av,aV]at h2 h3 ⊢;have:=bU (30+384*9) hl;omega
end Go.dk
namespace Go.Proofs.YtanhdobabijmoaaGreatDoor
open List(length_flatMap map_take)
open Go Go.aA Go.aI
variable {J:SK}
theorem NV{a b A B:Int}(h1:1<=a)(h2:a<=A)(h3:1<=b)(h4:b<=B):1<=a*b/\a*b<=A*B :=
 ⟨by have:=Int.mul_pos (a:=a) (b:=b) (by omega) (by omega);omega,kO h2 h4 (by omega) (by omega)⟩
theorem oG{a b A B:Int}(h1:0<=a)(h2:a<=A)(h3:0<=b)(h4:b<=B):0<=a*b/\a*b<=A*B :=
 ⟨cZ h1 h3,kO h2 h4 h3 (by omega)⟩
theorem cU.sz{f:cU}(hx:1<=f.x/\f.x<=8)(hy:1<=f.y/\f.y<=8)(hz:1<=f.z/\f.z<=8):(1<=f.x*f.y/\f.x*f.y<=64)/\(1<=f.x*f.y*f.z/\f.x*f.y*f.z<=512):=by
 have h1:=NV hx.1 hx.2 hy.1 hy.2;have h2:=NV h1.1 h1.2 hz.1 hz.2;exact⟨by omega,by omega⟩
theorem dB{a b c:Int}:lim T (.call false 215 [.int .i64 a,.int .i64 b,.int .i64 c] J)=some (.val (.bool (cj a b c)) J):=by
 refine aw Jz wg.eq_1 rfl ?_;by_cases h:b<=a<;>simp[-length_flatMap,-map_take,h,cj]
theorem fy{a b c:Int}:lim T (.call false 52 [.int .i64 a,.int .i64 b,.int .i64 c] J)=some (.val (.bool (cj a b c)) J):=by
 refine aw HY uI.eq_1 rfl ?_;by_cases h:b<=a<;>simp[-length_flatMap,-map_take,h,cj]
theorem jK{a b c:Int}:lim T (.call false 212 [.int .i64 a,.int .i64 b,.int .i64 c] J)=some (.val (.bool (cj a b c)) J):=by
 refine aw H6 uT.eq_1 rfl ?_;by_cases h:b<=a<;>simp[-length_flatMap,-map_take,h,cj]
theorem HD{f:cU}(hx:1<=f.x/\f.x<=8)(hy:1<=f.y/\f.y<=8)(hz:1<=f.z/\f.z<=8):lim T (.call false 60 [.agg [.int .i64 f.x,.int .i64 f.y,.int .i64 f.z,.int .i64 f.k]] J)=some (.val (.int .i64 f.size) J):=by
 refine aw B9 mr.eq_1 rfl ?_;obtain⟨h1,h2⟩:=cU.sz hx hy hz;have w1:=eQ (n:=f.x*f.y);have w2:=eQ (n:=f.x*f.y*f.z);simp[-length_flatMap,-map_take,w1,w2,cU.size]
theorem Mt{f:cU}:lim T (.call false 41 [.agg [.int .i64 f.x,.int .i64 f.y,.int .i64 f.z,.int .i64 f.k]] J)=some (.val (.bool f.valid) J):=by
 refine aw Dk nH.eq_1 rfl ?_;cases hc1:cj f.x 1 8
 .simp[-length_flatMap,-map_take,fy,cU.valid,hc1]
 cases hc2:cj f.y 1 8
 .simp[-length_flatMap,-map_take,fy,cU.valid,hc1,hc2]
 cases hc3:cj f.z 1 8
 .simp[-length_flatMap,-map_take,fy,cU.valid,hc1,hc2,hc3]
 have hb:=λJ=>HD (J:=J) (f:=f) (bk.1 hc1) (bk.1 hc2) (bk.1 hc3)
 by_cases hc4:f.size<=64
 .simp[-length_flatMap,-map_take,fy,cU.valid,hc1,hc2,hc3,hc4,hb]
 .simp[-length_flatMap,-map_take,fy,cU.valid,hc1,hc2,hc3,hc4,hb]
theorem EC{f:cU}:lim T (.call false 33 [.agg [.int .i64 f.x,.int .i64 f.y,.int .i64 f.z,.int .i64 f.k]] J)=some (.val (.int .i64 f.shape) J):=by
 refine aw Dj nG.eq_1 rfl ?_;have hb:=λJ=>Mt (J:=J) (f:=f)
 cases hc:f.valid<;>rw[hc]at hb<;>simp[-length_flatMap,-map_take,hb,cU.shape,hc]
theorem jg{f:cU}:lim T (.call false 128 [.agg [.int .i64 f.x,.int .i64 f.y,.int .i64 f.z,.int .i64 f.k]] J)=some (.val (.int .i64 f.shape) J):=by
 refine aw DR oS.eq_1 rfl ?_;have hb:=λJ=>EC (J:=J) (f:=f)
 simp[-length_flatMap,-map_take,hb]
theorem P6{s:List UInt8}(hl:s.length<=1000000000):∀(m i:Nat),i+m=s.length ->
  WL T [0,6,7] false om [(0,.str s),(6,.int .i64 s.length),(7,.int .i64 i)] J
   (λx e J'=>J'=J/\if um i (s.drop i)then x=.exit 0/\get e 0=.str s else x=.ret/\get e 2=.bool false)
 |0,i,hi=>by
  refine aH om.eq_1 ?_;have h1:¬i<s.length:=by omega
  have h2:s.drop i=[]:=aE (by omega);simp[-length_flatMap,-map_take,h1,h2,um]
 |m+1,i,hi=>by
  refine aH om.eq_1 ?_;have h1:i<s.length:=by omega
  obtain⟨c,hc⟩:=gE h1;have h4:=dJ h1;have h5:=drop_at hc;have ih:=P6 hl m (i+1) (by omega);rw[h5,um];have hd:lX .Ps [.str s,.int .i64 (i:Int)]=some (.int .u8 c.toNat):=by simp[lX,hc]
  by_cases hc1:97<=c.toNat
  .by_cases hc2:c.toNat<=122
   .have hlet:letter c=true:=by simp[letter,hc1,hc2]
    simp[-length_flatMap,-map_take,h1,h4,hd,hlet,show(97:Int)<=(c.toNat:Int)by omega,show(c.toNat:Int)<=122 by omega];exact WL.to ih (by simp) rfl λx e J' hh=>by simpa[hlet]using hh
   .have hlet:letter c=false:=by simp[letter,hc2]
    have hdig:digit c=false:=by simp[digit];omega
    by_cases hi0:i=0
    .subst hi0;have hd0:lX .Ps [.str s,.int .i64 0]=some (.int .u8 c.toNat):=by simpa using hd
     have h1':0<s.length:=h1;simp[-length_flatMap,-map_take,h1',h4,hd0,hlet,hdig,show(97:Int)<=(c.toNat:Int)by omega,show ¬(c.toNat:Int)<=122 by omega]
    .simp[-length_flatMap,-map_take,h1,h4,hd,hlet,hdig,hi0,show(97:Int)<=(c.toNat:Int)by omega,show ¬(c.toNat:Int)<=122 by omega,show ¬(c.toNat:Int)<48 by omega,show(57:Int)<(c.toNat:Int)by omega,show(57:Nat)<c.toNat by omega,show ¬c.toNat<48 by omega]
  .have hlet:letter c=false:=by simp[letter,hc1]
   by_cases hi0:i=0
   .subst hi0;have hd0:lX .Ps [.str s,.int .i64 0]=some (.int .u8 c.toNat):=by simpa using hd
    have h1':0<s.length:=h1;simp[-length_flatMap,-map_take,h1',h4,hd0,hlet,show ¬(97:Int)<=(c.toNat:Int)by omega]
   .by_cases hc3:c.toNat<48
    .have hdig:digit c=false:=by simp[digit];omega
     simp[-length_flatMap,-map_take,h1,h4,hd,hlet,hdig,hi0,show ¬(97:Int)<=(c.toNat:Int)by omega,show(c.toNat:Int)<48 by omega,hc3]
    .by_cases hc4:57<c.toNat
     .have hdig:digit c=false:=by simp[digit];omega
      simp[-length_flatMap,-map_take,h1,h4,hd,hlet,hdig,hi0,show ¬(97:Int)<=(c.toNat:Int)by omega,show ¬(c.toNat:Int)<48 by omega,show(57:Int)<(c.toNat:Int)by omega,hc3,hc4]
     .have hdig:digit c=true:=by simp[digit];omega
      simp[-length_flatMap,-map_take,h1,h4,hd,hlet,hdig,hi0,show ¬(97:Int)<=(c.toNat:Int)by omega,show ¬(c.toNat:Int)<48 by omega,show ¬(57:Int)<(c.toNat:Int)by omega,hc3,hc4];exact WL.to ih (by simp) rfl λx e J' hh=>by simpa[hlet,hdig,hi0]using hh
theorem EB{s:List UInt8}(hl:s.length<=1000000000):lim T (.call false 61 [.str s] J)=some (.val (.bool (named s)) J):=by
 refine aw Jr vW.eq_1 rfl ?_;have hp:lX .Vw [.str s]=some (.int .i64 s.length):=rfl;simp[-length_flatMap,-map_take,hp];refine WL.to (P6 (J:=[]::J) hl s.length 0 (by omega)) (by simp) rfl ?_;rintro x e J' ⟨rfl,h⟩;simp only[aP]at h;unfold named;cases hc:um 0 s
 .simp[hc]at h;simp[h]
 .simp[hc]at h;simp[-length_flatMap,-map_take,h,hp,fy]
theorem Wg{a:Int}:lim T (.call false 74 [.int .i64 a] J)=some (.val (.bool (cj a (-100000) 100000)) J):=by
 refine aw BW lI.eq_1 rfl ?_;simp[-length_flatMap,-map_take,fy]
theorem J1{l:List Int}{p:Int->Bool}{fv:D}(hl:l.length<=1000000000)(ht:oJ T fv (λn => .int .i64 n) p l)(hc:fv.cells=some [fv]):
  lim T (.call false 62 [.aJ l.length (l.flatMap aM),fv] J)=some (.val (.bool (fL l p)) J) :=
 AX (IA .i64) (f:=62) (g:=82) (h:=81) (i:=27) (l:=l) (p:=p) (fv:=fv) rfl rfl rfl rfl (by omega) ht hc
theorem Fe{f:cU}(hf:f.valid=true):(1<=f.size/\f.size<=64)/\1<=f.k*f.size/\f.k*f.size<=384:=by
 obtain⟨h1,h2,h3,h4,h5⟩:=cU.mo.1 hf;obtain⟨_,h6⟩:=cU.sz h1 h2 h3;have h7:=NV h5.1 h5.2 (b:=f.size) (B:=64) (by unfold cU.size;omega) h4;exact⟨⟨by unfold cU.size;omega,h4⟩,by omega,by omega⟩
theorem PS{f:cU}{m:bE}(hf:f.valid=true)(hn:m.name.length<=1000000000)(hl:m.aU.length<=1000000000):lim T (.call false 55 [.agg [.int .i64 f.x,.int .i64 f.y,.int .i64 f.z,.int .i64 f.k],.agg [.str m.name,.aJ m.aU.length (m.aU.flatMap aM)]] J)=some (.val (.int .i64 (f.model m)) J):=by
 refine aw Di nF.eq_1 rfl ?_;obtain⟨h1,h2,h3,h4,h5⟩:=cU.mo.1 hf;obtain⟨h6,h7⟩:=Fe hf;have w1:=eQ (n:=f.k*f.size);have hb:=λJ=>HD (J:=J) (f:=f) h1 h2 h3
 have ha:=λJ=>J1 (J:=J) (l:=m.aU) (p:=λn=>cj n (-100000) 100000) (fv:=.fn 74 [] []) hl (oJ.fn λx _ J=>by simpa using Wg) rfl
 cases hc1:named m.name
 .simp[-length_flatMap,-map_take,EB hn,hc1,cU.model]
 .by_cases hc2:(m.aU.length:Int)=f.k*f.size
  .cases hc3:fL m.aU (λn=>cj n (-100000) 100000)<;>
    simp[-length_flatMap,-map_take,EB hn,hc1,hc2,hc3,cU.model,hb,ha,w1]
  .simp[-length_flatMap,-map_take,EB hn,hc1,hc2,cU.model,hb,w1]
def DB(met:List (List UInt8)):List D:=met.map λn => .db [.str n,.bool true]
theorem F5{k:List UInt8}:∀{met:List (List UInt8)},∃r,rS none (.str k) (DB met)=some r/\(met.contains k=true->∃j,r=some (j,.bool true))/\(met.contains k=false->r=none)
 |[]=>⟨none,rfl,by simp,by simp⟩
 |n::met=>by
  obtain⟨r,h1,h2,h3⟩:=F5 (k:=k) (met:=met);simp only[DB,aR]at h1 ⊢;by_cases hk:k=n
  .subst hk;exact⟨some (0,.bool true),by simp[rS,tZ],λ_=>⟨0,rfl⟩,by simp⟩
  .have hb:(k == n)=false:=by simpa using hk
   refine⟨r.map λy=>(y.1+1,y.2),by simp[rS,tZ,hb,h1],?_,?_⟩
   .intro hc;have:met.contains k=true:=by simpa[hk]using hc
    obtain⟨j,rfl⟩:=h2 this;exact⟨j+1,rfl⟩
   .intro hc;have:met.contains k=false:=by simp at hc ⊢;exact hc.2
    rw[h3 this];rfl
theorem Y7{S:SK}{l i:Nat}{met:List (List UInt8)}{k:List UInt8}(h:cells? S l i 0=some (DB met)):BO S (.get none (.bool false) false) [.jm l i,.str k]=some (.bool (met.contains k),S):=by
 obtain⟨r,h1,h2,h3⟩:=F5 (k:=k) (met:=met);simp only[BO,B6,h,aX,h1];cases hc:met.contains k
 .rw[h3 hc];simp[tZ]
 .obtain⟨j,rfl⟩:=h2 hc;simp[tZ]
theorem Y8{S:SK}{l i:Nat}{met:List (List UInt8)}{k:List UInt8}(h:cells? S l i 0=some (DB met))(hn:met.contains k=false):
  BO S (.put none) [.jm l i,.str k,.bool true]=some (.undef,aZ S l i (.cells 0 (DB (met++[k])))):=by
 obtain⟨r,h1,h2,h3⟩:=F5 (k:=k) (met:=met);simp only[BO,B6,h,aX,h1];rw[h3 hn];simp[tZ,DB,D.clean]
theorem afI{f:cU}{m:bE}(hf:f.valid=true)(hn:m.name.length<=1000000000)(hl:m.aU.length<=1000000000):
  lim T (.call false 54 [.agg [.str m.name,.aJ m.aU.length (m.aU.flatMap aM)],.bq [.int .i64 f.x,.int .i64 f.y,.int .i64 f.z,.int .i64 f.k]] J)=some (.val (.db [.str m.name,.int .i64 (f.model m)]) J):=by
 refine aw AP kn.eq_1 rfl ?_;simp[-length_flatMap,-map_take,PS hf hn hl]
theorem TF{f:cU}{l:List bE}(hf:f.valid=true)(hs:∀m∈l,m.name.length<=1000000000/\m.aU.length<=1000000000)(hl:l.length<=1000000000):∀(k i:Nat) (met:List (List UInt8)),i+k=l.length ->
  WL T [1,5,11,12,13] false dQ [(1,.fn 54 [] [.bq [.int .i64 f.x,.int .i64 f.y,.int .i64 f.z,.int .i64 f.k]]),(5,.jm J.length 0),(11,.aJ l.length (l.flatMap bE.enc)),(12,.int .i64 l.length),(13,.int .i64 i)] ([.cells 0 (DB met)]::J)
   (λx e J'=>∃s,J'=s::J/\if f.each met (l.drop i)=0 then x=.exit 0 else x=.ret/\get e 4=.int .i64 (f.each met (l.drop i)))
 |0,i,met,hi=>by
  refine aH dQ.eq_1 ?_;have h1:¬i<l.length:=by omega
  have h2:l.drop i=[]:=aE (by omega);simp[-length_flatMap,-map_take,h1,h2,cU.each]
 |k+1,i,met,hi=>by
  refine aH dQ.eq_1 ?_;have h1:i<l.length:=by omega
  obtain⟨m,hm⟩:=gE h1;have h2:=bX (f:=bE.enc) (w:=2) (λ_=>rfl) hm;have h4:=dJ h1;have h5:=drop_at hm;obtain⟨hs1,hs2⟩:=hs m (ai hm);have hC:=λJ=>afI (J:=J) hf hs1 hs2
  rw[h5,cU.each];by_cases hc1:f.model m=0
  .have hg:=Y7 (S:=[.cells 0 (DB met)]::J) (l:=J.length) (i:=0) (met:=met) (k:=m.name) (by simp);cases hc2:met.contains m.name
   .rw[hc2]at hg;have hp:=Y8 (S:=[.cells 0 (DB met)]::J) (l:=J.length) (i:=0) (met:=met) (k:=m.name) (by simp) hc2;have ih:=TF hf hs hl k (i+1) (met++[m.name]) (by omega);simp at hp;have hc3:¬m.name∈met:=by simpa using hc2
    simp[-length_flatMap,-map_take,h1,h2,h4,hC,hc1,hg,hp,hc3];exact WL.to ih (by simp) (by simp) λx e J' hh=>by simpa[hc1]using hh
   .rw[hc2]at hg;have hc3:m.name∈met:=by simpa using hc2
    simp[-length_flatMap,-map_take,h1,h2,h4,hC,hc1,hg,hc3]
  .simp[-length_flatMap,-map_take,h1,h2,h4,hC,hc1]
theorem ZJ{f:cU}{l:List bE}(hf:f.valid=true)(hs:∀m∈l,m.name.length<=1000000000/\m.aU.length<=1000000000)(hl:l.length<=1000000000):
  lim T (.call false 53 [.aJ l.length (l.flatMap bE.enc),.fn 54 [] [.bq [.int .i64 f.x,.int .i64 f.y,.int .i64 f.z,.int .i64 f.k]]] J)=some (.val (.int .i64 (f.each [] l)) J):=by
 refine aw zP jj.eq_1 rfl ?_;have hm:BO ([]::J) .make []=some (.jm J.length 0,[.cells 0 (DB [])]::J):=by simp[BO,DB]
 simp[-length_flatMap,-map_take,hm];refine WL.to (TF (J:=J) hf hs hl l.length 0 [] (by omega)) (by simp) (by simp) ?_;rintro x e J' ⟨s,rfl,h⟩;simp only[aP]at h;by_cases hc:f.each [] l=0
 .rw[if_pos hc]at h;subst h;simp[-length_flatMap,-map_take,hc]
 .rw[if_neg hc]at h;obtain⟨rfl,h⟩:=h;simp[h]
theorem Mw{f:cU}{l:List bE}(hf:f.valid=true)(hs:∀m∈l,m.name.length<=1000000000/\m.aU.length<=1000000000)(hl:l.length<=1000000000):
  lim T (.call false 35 [.agg [.int .i64 f.x,.int .i64 f.y,.int .i64 f.z,.int .i64 f.k],.aJ l.length (l.flatMap bE.enc)] J)=some (.val (.int .i64 (f.aj l)) J):=by
 refine aw Cb mw.eq_1 rfl ?_;cases hc:cj l.length 1 40
 .simp[-length_flatMap,-map_take,fy,hc,cU.aj]
 .simp[-length_flatMap,-map_take,fy,hc,cU.aj,ZJ hf hs hl]
theorem HC{f:cU}{l:List bE}(hf:f.valid=true)(hs:∀m∈l,m.name.length<=1000000000/\m.aU.length<=1000000000)(hl:l.length<=1000000000):
  lim T (.call false 34 [.bq [.int .i64 f.x,.int .i64 f.y,.int .i64 f.z,.int .i64 f.k],.bq [.aJ l.length (l.flatMap bE.enc)]] J)=some (.val (.int .i64 (f.aj l)) J):=by
 refine aw BU lG.eq_1 rfl ?_;simp[-length_flatMap,-map_take,Mw hf hs hl]
theorem Hk{fs:List D}{es:List Int}(hlen:fs.length=es.length)(hl:fs.length<=100)(hfs:∀d∈fs,d.strip=d/\d.calm=d/\Ov false 1 (some [d])=some d)
  (hcall:∀(i:Nat) d n,fs[i]?=some d->es[i]?=some n->(∀j,j<i->es[j]?=some 0)->∀J,pO (lim T) false d [] J=some (.int .i64 n,J)):
  lim T (.call false 32 [.aJ fs.length fs] J)=some (.val (.int .i64 (cQ id es)) J):=by
 have loop:∀(k i:Nat) (J:SK),i+k=fs.length->(∀j,j<i->es[j]?=some 0) ->
   WL T [6,7,8] false oj [(6,.aJ fs.length fs),(7,.int .i64 fs.length),(8,.int .i64 i)] J
    (λx e J'=>J'=J/\if cQ id (es.drop i)=0 then x=.exit 0 else x=.ret/\get e 2=.int .i64 (cQ id (es.drop i))):=by
  intro k;induction k with
  |zero =>
   intro i J hi h0;refine aH oj.eq_1 ?_;have h1:¬i<fs.length:=by omega
   have h2:es.drop i=[]:=aE (by omega);simp[-length_flatMap,-map_take,h1,h2,cQ]
  |succ k ih =>
   intro i J hi h0;refine aH oj.eq_1 ?_;have h1:i<fs.length:=by omega
   obtain⟨d,hd⟩:=gE h1;obtain⟨n,hn⟩:∃n,es[i]?=some n:=gE (by omega);obtain⟨g1,g2,g3⟩:=hfs d (ai hd);have h2:=bX (f:=λd:D=>[d]) (w:=1) (λ_=>rfl) (l:=fs) hd;rw[show(fs.flatMap λd=>[d])=fs from by simp]at h2;have h4:=dJ h1;have h5:=drop_at hn;have hc:=hcall i d n hd hn h0;simp only[ec]at h2;rw[h5,cQ];by_cases hz:n=0
   .subst hz;have ih':=ih (i+1) J (by omega) (λj hj=>by
     by_cases hji:j=i
     .subst hji;exact hn
     .exact h0 j (by omega))
    simp[-length_flatMap,-map_take,h1,h2,h4,g1,g2,hc];exact WL.to ih' (by simp) rfl λx e J' hh=>by simpa using hh
   .simp[-length_flatMap,-map_take,h1,h2,h4,g1,g2,hc,hz]
 refine aw Jq vV.eq_1 rfl ?_;simp[-length_flatMap,-map_take];refine WL.to (loop fs.length 0 ([]::J) (by omega) (by simp)) (by simp) rfl ?_;rintro x e J' ⟨rfl,h⟩;simp only[aP]at h;by_cases hc:cQ id es=0
 .rw[if_pos hc]at h;subst h;simp[-length_flatMap,-map_take,hc]
 .rw[if_neg hc]at h;obtain⟨rfl,h⟩:=h;simp[h]
theorem zH{f:cU}{l:List bE}(hs:∀m∈l,m.name.length<=1000000000/\m.aU.length<=1000000000)(hl:l.length<=1000000000):
  lim T (.call false 16 [.agg [.int .i64 f.x,.int .i64 f.y,.int .i64 f.z,.int .i64 f.k],.aJ l.length (l.flatMap bE.enc)] J)=some (.val (.int .i64 (ed f l)) J):=by
 refine aw Dh nE.eq_1 rfl ?_;have hC:=λJ=>Hk (J:=J) (fs:=[.fn 33 [.agg [.int .i64 f.x,.int .i64 f.y,.int .i64 f.z,.int .i64 f.k]] [],.fn 34 [] [.bq [.int .i64 f.x,.int .i64 f.y,.int .i64 f.z,.int .i64 f.k],.bq [.aJ l.length (l.flatMap bE.enc)]]]) (es:=[f.shape,f.aj l]) rfl (by simp) (by simp) (by
  intro i d n hd hn h0 J;match i with
  |0 =>
   simp at hd hn;subst hd hn;simp[EC]
  |1 =>
   simp at hd hn;subst hd hn;have h1:f.valid=true:=by
    have:=h0 0 (by omega);simp[cU.shape]at this;exact this
   simp[HC h1 hs hl]
  |i+2=>simp at hd)
 simp at hC;have e1:cQ id [f.shape,f.aj l]=ed f l:=by
  simp only[cQ,id,ed,cU.shape];by_cases h:f.valid=true
  .by_cases h2:f.aj l=0<;>simp[h,h2]
  .simp[h]
 rw[e1]at hC;simp[-length_flatMap,-map_take,hC]
end Go.Proofs.YtanhdobabijmoaaGreatDoor
namespace Go.aA
open List(length_flatMap map_take)
open Go
variable {T:BJ}
def qD(q:Nat->Bool)(i:Nat):Nat->Bool×Nat
 |0=>(false,i)
 |m+1=>if q i then(true,i+1)else qD q (i+1) m
theorem Df{q:Nat->Bool}:∀{m i:Nat},(qD q i m).1=false↔∀j,j<m->q (i+j)=false
 |0,i=>by simp[qD]
 |m+1,i=>by
  simp only[qD];by_cases h:q i=true
  .simp only[h,if_true,Bool.true_eq_false,false_iff];intro hh;have:=hh 0 (by omega);simp[h]at this
  .have h':q i=false:=by simpa using h
   simp only[h',az,if_false];rw[Df (m:=m) (i:=i+1)];constructor
   .intro hh j hj;cases j with
    |zero=>simpa using h'
    |succ j=>have:=hh j (by omega);rwa[show i+1+j=i+(j+1)from by omega]at this
   .intro hh j hj;have:=hh (j+1) (by omega);rwa[show i+(j+1)=i+1+j from by omega]at this
section
variable {α:Type} (E:WI α) {fv:D} {l:List α} {q:Nat->Bool} {S:Nat->SK}
theorem Ku(hl:l.length<=9223372036854775807)(h1:fv.strip=fv)(h2:fv.calm=fv)(ht:∀i x,l[i]?=some x->pO (lim T) false fv [E.val x] (S i)=some (.bool (q i),S (i+1))):∀(m i:Nat),i+m=l.length ->
  WL T [0,1,7,8] false (IJ E.ag E.w) [(0,.aJ l.length (l.flatMap E.enc)),(1,fv),(7,.int .i64 l.length),(8,.int .i64 i)] (S i)
   (λx e J'=>J'=S (qD q i m).2/\if(qD q i m).1=true then x=.ret/\∃j:Nat,get e 4=.int .i64 j else x=.exit 0)
 |0,i,hi=>by
  refine aH (IJ.eq_1 _ _) ?_;have:¬i<l.length:=by omega
  simp[this,h1,h2,qD]
 |m+1,i,hi=>by
  refine aH (IJ.eq_1 _ _) ?_;have h4:i<l.length:=by omega
  obtain⟨x,hx⟩:=gE h4;have h5:=bX (f:=E.enc) E.len hx;have h6:=ht i x hx;have h7:=dJ h4 hl;have ih:=Ku hl h1 h2 ht m (i+1) (by omega);cases hq:q i
  .rw[hq]at h6;simp[h4,h1,h2,h5,h6,h7,E.load,E.strip,E.calm];refine WL.mono (by simpa using ih) ?_;rintro x e J' ⟨h9,h10⟩;simp only[qD,hq,az,if_false];exact⟨h9,h10⟩
  .rw[hq]at h6;simp[h4,h1,h2,h5,h6,h7,E.load,E.strip,E.calm,qD,hq];exact⟨i,rfl⟩
theorem R7{f:Nat}(hT:T f=some (vA E.ag E.w))(hl:l.length<=9223372036854775807)(h1:fv.strip=fv)(h2:fv.calm=fv)(hlen:∀i,(S i).length=(S 0).length)
  (ht:∀i x,l[i]?=some x->pO (lim T) false fv [E.val x] ([]::S i)=some (.bool (q i),[]::S (i+1))):
  ∃n:Int,lim T (.call false f [.aJ l.length (l.flatMap E.enc),fv] (S 0))=some (.val (.int .i64 n) (S (qD q 0 l.length).2))/\(0<=n↔(qD q 0 l.length).1=true):=by
 have h:=Ku E (S:=λi=>[]::S i) hl h1 h2 ht l.length 0 (by omega);cases hq:(qD q 0 l.length).1
 .refine⟨-1,?_,by simp⟩;refine dN hT (vA.eq_1 _ _) rfl (hlen _) ?_;simp[h1,h2];refine WL.mono (by simpa using h) ?_;rintro x e J' ⟨rfl,h10⟩;rw[hq]at h10;simp only[az,if_false]at h10;subst h10;simp
 .obtain⟨x,e,J',hw,rfl,h10⟩:=h;rw[hq]at h10;simp only[if_true]at h10;obtain⟨rfl,j,hj⟩:=h10;refine⟨j,?_,by simp⟩;refine dN hT (vA.eq_1 _ _) rfl (hlen _) ?_;simp[h1,h2];refine⟨_,_,_,by simpa using hw,?_⟩;simp[hj]
theorem Lq{f i:Nat}(hT:T f=some (iS i))(hi:T i=some (vA E.ag E.w))(hl:l.length<=9223372036854775807)(h1:fv.strip=fv)(h2:fv.calm=fv)(hlen:∀i,(S i).length=(S 0).length)
  (ht:∀i x,l[i]?=some x->pO (lim T) false fv [E.val x] ([]::[]::S i)=some (.bool (q i),[]::[]::S (i+1))):
  lim T (.call false f [.aJ l.length (l.flatMap E.enc),fv] (S 0))=some (.val (.bool (qD q 0 l.length).1) (S (qD q 0 l.length).2)):=by
 obtain⟨n,h,hn⟩:=R7 E (S:=λi=>[]::S i) hi hl h1 h2 (λi=>by simp[hlen i]) ht;refine dN hT (iS.eq_1 _) rfl (hlen _) ?_;have h4:decide (0<=n)=(qD q 0 l.length).1:=by
  cases hq:(qD q 0 l.length).1
  .rw[hq]at hn;simp at hn;exact decide_eq_false (by omega)
  .exact decide_eq_true (hn.2 hq)
 simp[h1,h2,h,h4]
theorem TU{g:Nat}{x:α}{b:Bool}{J J':SK}(hT:T g=some (zU E.ag E.w))(hlen:J'.length=J.length)(h1:fv.strip=fv)(h2:fv.calm=fv)(ht:pO (lim T) false fv [E.val x] ([]::J)=some (.bool b,[]::J')):
  pO (lim T) false (.fn g [] [.bq [fv]]) [E.val x] J=some (.bool (!b),J'):=by
 rw[td];have hc:=E.cells x;have hl:=E.load x;have hs:=E.strip x;have hcm:=E.calm x;have key:lim T (.call false g ([]++[E.val x]++[.bq [fv]]) J)=some (.val (.bool (!b)) J'):=by
  generalize E.ag=ag at *
  cases ag with
  |true =>
   refine dN hT (zU.eq_1 _) rfl hlen ?_;simp[h1,h2,ht,hc,hl,hs,hcm]
  |false =>
   refine dN hT (zU.eq_2 _) rfl hlen ?_;simp[h1,h2,ht,hc,hl,hs,hcm]
 rw[key];rfl
theorem Li{f g h i:Nat}{p:Nat->Bool}(hf:T f=some (ET g h))(hg:T g=some (zU E.ag E.w))(hh:T h=some (iS i))(hi:T i=some (vA E.ag E.w))
  (hl:l.length<=9223372036854775807) (h1:fv.strip=fv) (h2:fv.calm=fv) (hcl:fv.cells=some [fv]) (hlen:∀i,(S i).length=(S 0).length)
  (ht:∀i x,l[i]?=some x->pO (lim T) false fv [E.val x] ([]::[]::[]::[]::S i)=some (.bool (p i),[]::[]::[]::[]::S (i+1))):
  lim T (.call false f [.aJ l.length (l.flatMap E.enc),fv] (S 0))=some (.val (.bool !(qD (λi => !p i) 0 l.length).1) (S (qD (λi => !p i) 0 l.length).2)):=by
 have hc:=Lq E (S:=λi=>[]::S i) (fv:=.fn g [] [.bq [fv]]) (q:=λi => !p i) hh hi hl rfl rfl (λi=>by simp[hlen i]) (λi x hx=>TU E hg (by simp[hlen i,hlen (i+1)]) h1 h2 (ht i x hx));refine dN hf (ET.eq_1 _ _) rfl (hlen _) ?_;simp[h1,h2,hc,hcl]
theorem WZ{f g h i:Nat}{p:α->Bool}{J:SK}(hf:T f=some (ET g h))(hg:T g=some (zU E.ag E.w))(hh:T h=some (iS i))(hi:T i=some (vA E.ag E.w))
  (hl:l.length<=9223372036854775807) (h1:fv.strip=fv) (h2:fv.calm=fv) (hcl:fv.cells=some [fv])
  (ht:∀x∈l,pO (lim T) false fv [E.val x] ([]::[]::[]::[]::J)=some (.bool (p x),[]::[]::[]::[]::J)):
  lim T (.call false f [.aJ l.length (l.flatMap E.enc),fv] J)=some (.val (.bool (fL l p)) J):=by
 have h0:=Li E (T:=T) (S:=λ_=>J) (fv:=fv) (l:=l) (p:=λi=>match l[i]? with | some x=>p x | none=>true) hf hg hh hi hl h1 h2 hcl (λ_=>rfl) (λi x hx=>by
  rw[ht x (ai hx)];simp[hx])
 have he:(!(qD (λi => !(match l[i]? with | some x=>p x | none=>true)) 0 l.length).1)=fL l p:=by
  have h2:=Df (q:=λi => !(match l[i]? with | some x=>p x | none=>true)) (m:=l.length) (i:=0);cases hw:fL l p
  .rw[Bool.not_eq_false'];cases hs:(qD (λi => !(match l[i]? with | some x=>p x | none=>true)) 0 l.length).1
   .have h3:=h2.1 hs;have h4:fL l p=true:=jq.2 λx hx=>by
     obtain⟨j,hj⟩:=eG hx;have:=h3 j (ar.1 hj).1;simpa[hj]using this
    rw[hw]at h4;cases h4
   .rfl
  .rw[cY];refine h2.2 λj hj=>?_
   have hx:=aC hj;have:=jq.1 hw _ (List.getElem_mem hj);simp[hx,this]
 rw[he]at h0;exact h0
end
end Go.aA
namespace Go.Proofs.YtanhdobabijmoaaGreatDoor
open List(length_flatMap map_take)
open Go Go.aA Go.aI
variable {J:SK}
theorem V4{r:Rw}:lim T (.call false 214 [.agg r.enc] J)=some (.val (.bool r.alone) J):=by
 refine aw EN rz.eq_1 rfl ?_;cases hc1:cj r.t 0 400
 .simp[-length_flatMap,-map_take,jK,Rw.alone,hc1]
 cases hc2:cj r.p 1 10000
 .simp[-length_flatMap,-map_take,jK,Rw.alone,hc1,hc2]
 cases hc3:cj r.l 0 4000
 .simp[-length_flatMap,-map_take,jK,Rw.alone,hc1,hc2,hc3]
 cases hc4:cj r.s 0 2000
 .simp[-length_flatMap,-map_take,jK,Rw.alone,hc1,hc2,hc3,hc4]
 by_cases hc5:r.l<r.v
 rotate_left
 .simp[-length_flatMap,-map_take,jK,Rw.alone,hc1,hc2,hc3,hc4,hc5]
 simp[-length_flatMap,-map_take,jK,Rw.alone,hc1,hc2,hc3,hc4,hc5]
theorem ZS{l:List Rw}(hl:l.length<=1000000000):lim T (.call false 213 [.aJ l.length (l.flatMap Rw.enc),.fn 214 [] []] J)=some (.val (.bool (fL l Rw.alone)) J) :=
 AX (yt 5 Rw.enc (λ_=>rfl)) (f:=213) (g:=249) (h:=248) (i:=279) (l:=l) (p:=Rw.alone) rfl rfl rfl rfl (by omega) (oJ.fn λx _ J=>V4) rfl
theorem YR{t l:List Rw}{o:Rw}(hto:t=o::l)(hl:l.length<=100):∀(m i:Nat),i+m=l.length ->
  WL T [0,16,17,18] false gg [(0,.aJ t.length (t.flatMap Rw.enc)),(16,.aJ l.length (l.flatMap Rw.enc)),(17,.int .i64 l.length),(18,.int .i64 i)] J
   (λx e J'=>J'=J/\if Gj (t.drop i)then x=.exit 0 else x=.ret/\get e 2=.bool false)
 |0,i,hi=>by
  refine aH gg.eq_1 ?_;have h1:¬i<l.length:=by omega
  have h2:t.drop i=[t[i]'(by subst hto;simp;omega)]:=by
   rw[List.drop_eq_getElem_cons (by subst hto;simp;omega),aE (by subst hto;simp;omega)]
  simp[-length_flatMap,-map_take,h1,h2,Gj]
 |m+1,i,hi=>by
  refine aH gg.eq_1 ?_;have h1:i<l.length:=by omega
  have htl:t.length=l.length+1:=by subst hto;rfl
  obtain⟨r,hr⟩:=gE h1;obtain⟨r0,hr0⟩:∃r0,t[i]?=some r0:=gE (by omega);have h2:=bX (f:=Rw.enc) (w:=5) (λ_=>rfl) hr;have h3:=bX (f:=Rw.enc) (w:=5) (λ_=>rfl) hr0;have h4:=dJ h1;have h6:t.drop (i+1)=r::t.drop (i+2):=drop_at (by subst hto;simpa using hr);have h5:t.drop i=r0::r::t.drop (i+2):=by rw[drop_at hr0,h6]
  have ih:=YR hto hl m (i+1) (by omega);rw[h6]at ih;rw[h5,Gj];have hlt:(i:Int)<(t.length:Int):=by omega
  have hlt':i<t.length:=by omega
  by_cases c1:r.t<=r0.t
  .simp[-length_flatMap,-map_take,h1,hlt,hlt',h2,h3,h4,c1,Rw.KP]
  by_cases c2:r.p<=r0.p
  .simp[-length_flatMap,-map_take,h1,hlt,hlt',h2,h3,h4,c1,c2,Rw.KP]
  by_cases c3:r.l<=r0.l
  .simp[-length_flatMap,-map_take,h1,hlt,hlt',h2,h3,h4,c1,c2,c3,Rw.KP]
  by_cases c4:r.s<r0.s
  .simp[-length_flatMap,-map_take,h1,hlt,hlt',h2,h3,h4,c1,c2,c3,c4,Rw.KP]
  .simp[-length_flatMap,-map_take,h1,hlt,hlt',h2,h3,h4,c1,c2,c3,c4,Rw.KP];have hc:r0.t<r.t/\r0.p<r.p/\r0.l<r.l/\r0.s<=r.s:=by omega
   exact WL.to ih (by simp) rfl λx e J' hh=>by simpa[hc]using hh
theorem DP{t:List Rw}(hl:t.length<=1000000000):lim T (.call false 166 [.aJ t.length (t.flatMap Rw.enc)] J)=some (.val (.bool (jV t)) J):=by
 refine aw Dw nS.eq_1 rfl ?_;have ha:=λJ=>ZS (J:=J) (l:=t) hl
 cases hc1:cj t.length 2 20
 .simp[-length_flatMap,-map_take,jK,hc1,jV]
 cases hc2:fL t Rw.alone
 .simp[-length_flatMap,-map_take,jK,hc1,hc2,ha,jV]
 obtain⟨o,l,hto⟩:∃o l,t=o::l:=by
  cases t with
  |nil=>simp[cj]at hc1
  |cons o l=>exact⟨o,l,rfl⟩
 have hi:=bk.1 hc1;have htl:t.length=l.length+1:=by subst hto;rfl
 have h1:(1:Int)<=(t.length:Int):=by omega
 have h2:t.length-1=l.length:=by omega
 have h3:((t.flatMap Rw.enc).drop 5).take (l.length*5)=l.flatMap Rw.enc:=by
  subst hto;have:=LG (f:=Rw.enc) (w:=5) (λ_=>rfl) l;simpa using this
 simp[-length_flatMap,-map_take,jK,hc1,hc2,ha,h1,h2,h3];refine WL.to (YR (J:=[]::J) hto (by omega) l.length 0 (by omega)) (by simp) rfl ?_;rintro x e J' ⟨rfl,h⟩;simp only[aP]at h;unfold jV;cases hc3:Gj t
 .rw[hc3]at h;simp at h;simp[h,hc2,hc1]
 .rw[hc3]at h;simp at h;subst h;simp[-length_flatMap,-map_take,hc2,hc1]
theorem AL{l:List Rw}(hl:l.length<=1000000000):lim T (.call false 130 [.aJ l.length (l.flatMap Rw.enc)] J)=some (.val (.int .i64 (if jV l then 0 else 1)) J):=by
 refine aw Ea po.eq_1 rfl ?_;cases hc:jV l<;>simp[-length_flatMap,-map_take,DP hl,hc]
theorem PT{b:cp}(hx:1<=b.f.x/\b.f.x<=8)(hy:1<=b.f.y/\b.f.y<=8)(hz:1<=b.f.z/\b.f.z<=8):lim T (.call false 216 [.agg [.int .i64 b.f.x,.int .i64 b.f.y,.int .i64 b.f.z,.int .i64 b.f.k,.aJ b.cn.length (b.cn.flatMap Rw.enc),.int .i64 b.bL,.int .i64 b.lift,.int .i64 b.deep,.aJ b.an.length (b.an.flatMap bJ.enc)]] J)=some (.val (.int .i64 b.size) J):=by
 refine aw G5 tI.eq_1 rfl ?_;obtain⟨h1,h2⟩:=cU.sz hx hy hz;have w1:=eQ (n:=b.f.x*b.f.y);have w2:=eQ (n:=b.f.x*b.f.y*b.f.z);simp[-length_flatMap,-map_take,w1,w2,cp.size,cU.size]
def uB(b:Bool):List D:=[.bool b]
def tA(n:Nat)(an:List bJ):Nat->List Bool
 |0=>List.replicate n false
 |i+1=>match an[i]? with
  |some w=>if cj w.b 0 ((n:Int)-1)=true/\(tA n an i)[w.b.toNat]?=some false then(tA n an i).set w.b.toNat true else tA n an i
  |none=>tA n an i
theorem AG{n:Nat}{an:List bJ}:∀i,(tA n an i).length=n
 |0=>by simp[tA]
 |i+1=>by
  simp only[tA];split
  .split
   .simp[AG i]
   .exact AG i
  .exact AG i
def zF(n:Nat)(an:List bJ)(i:Nat):Bool :=
 match an[i]? with
 |some w=>cj w.b 0 ((n:Int)-1) && (decide ((tA n an i)[w.b.toNat]?=some false) && (cj w.h 0 3000 && cj w.m 0 1000000))
 |none=>true
def Gt(n:Nat)(an:List bJ)(J:SK)(i:Nat):SK:=[.cells 0 ((tA n an i).flatMap uB),.cells 0 [.sl J.length 0 0 0 n 1]]::J
theorem TZ{l:List Bool}{j:Nat}{x:Bool}(h:l[j]?=some x):((l.flatMap uB).drop j)=.bool x::(l.flatMap uB).drop (j+1):=by
 have:=zY (f:=uB) (w:=1) (λ_=>rfl) h;simpa[uB]using this
theorem RI{l:List Bool}{j:Nat}{x:Bool}(h:j<l.length):(l.flatMap uB).take j++(.bool x::(l.flatMap uB).drop (j+1))=(l.set j x).flatMap uB:=by
 have:=QJ (f:=uB) (w:=1) (λ_=>rfl) (x:=x) h;simpa[uB]using this
theorem RH{l:List Bool}:(l.flatMap uB).length=l.length:=by
 have:=bK (f:=uB) (w:=1) (λ_=>rfl) l;omega
theorem OI{n:Nat}{an:List bJ}(hn:n<=512){i:Nat}{w:bJ}(hw:an[i]?=some w):
  lim T (.call false 218 [.agg w.enc,.ref J.length 1 0 0] ([]::[]::[]::[]::Gt n an J i))=some (.val (.bool (zF n an i)) ([]::[]::[]::[]::Gt n an J (i+1))):=by
 refine dN D0 o5.eq_1 rfl (by simp[Gt]) ?_;have hlen:=AG (n:=n) (an:=an) i;have w1:=eQ (n:=(n:Int)-1);have hwp:zF n an i=(cj w.b 0 ((n:Int)-1) && (decide ((tA n an i)[w.b.toNat]?=some false) && (cj w.h 0 3000 && cj w.m 0 1000000))):=by simp[zF,hw]
 have hus:tA n an (i+1)=if cj w.b 0 ((n:Int)-1)=true/\(tA n an i)[w.b.toNat]?=some false then(tA n an i).set w.b.toNat true else tA n an i:=by simp[tA,hw]
 rw[hwp];simp only[Gt];generalize tA n an (i+1)=us' at *
 generalize tA n an i=us at *
 cases hc1:cj w.b 0 ((n:Int)-1)
 .rw[hc1]at hus;simp at hus;subst hus;simp[-length_flatMap,-map_take,dB,w1,hc1]
 .obtain⟨g1,g2⟩:=bk.1 hc1;have g3:w.b<(n:Int):=by omega
  obtain⟨u,hu⟩:∃u,us[w.b.toNat]?=some u:=⟨_,aC (by omega)⟩;have hat:=TZ hu;have hset:=RI (l:=us) (j:=w.b.toNat) (x:=true) (by omega);have hlen2:(us.flatMap uB).length=n:=by rw[RH,hlen]
  have hle:w.b.toNat+1<=n:=by omega
  rw[hc1,hu]at hus;cases u
  .simp at hus;subst hus;cases hc2:cj w.h 0 3000<;>
    simp[-length_flatMap,-map_take,dB,w1,hc1,hu,g1,g3,hat,hset,hlen2,hle,hc2]
  .simp at hus;subst hus;simp[-length_flatMap,-map_take,dB,w1,hc1,hu,g1,g3,hat,hlen2]
theorem On{n:Nat}{an:List bJ}:∀{i:Nat},i<=an.length->(∀j,j<i->zF n an j=true)->∀k:Nat,k<n->(tA n an i)[k]?=some (((an.take i).map (·.b)).contains (k:Int))
 |0,_,_,k,hk=>by simp[tA,hk]
 |i+1,hi,h,k,hk=>by
  obtain⟨w,hw⟩:∃w,an[i]?=some w:=gE (by omega);have ih:=On (i:=i) (by omega) (λj hj=>h j (by omega));have hp:=h i (by omega);simp only[zF,hw,ae,au]at hp;obtain⟨h1,h2,_⟩:=hp;obtain⟨g1,g2⟩:=bk.1 h1;have ht:an.take (i+1)=an.take i++[w]:=by rw[List.take_add_one,hw];rfl
  simp only[tA,hw];rw[if_pos ⟨h1,h2⟩,ht];rw[List.getElem?_set];by_cases hkw:w.b.toNat=k
  .subst hkw;have hb:w.b=((w.b.toNat:Nat):Int):=by omega
   simp[AG,hk];right;omega
  .rw[if_neg hkw,ih k hk];congr 1;have:((k:Int) == w.b)=false:=by simp;omega
   simp[List.contains_append,this];intro hh;omega
theorem CS{n:Nat}{an:List bJ}:∀(m i:Nat),i+m=an.length->(∀j,j<i->zF n an j=true) ->
  (vo (n:Int) ((an.take i).map (·.b)) (an.drop i)=true↔∀j,i<=j->j<an.length->zF n an j=true)
 |0,i,hi,h=>by
  rw[aE (by omega)];simp only[vo,true_iff];intro j h1 h2;omega
 |m+1,i,hi,h=>by
  obtain⟨w,hw⟩:∃w,an[i]?=some w:=gE (by omega);have hu:=On (n:=n) (i:=i) (by omega) h;have hone:bJ.ok (n:Int) ((an.take i).map (·.b)) w=zF n an i:=by
   simp only[zF,hw,bJ.ok];cases hc:cj w.b 0 ((n:Int)-1)
   .rfl
   .obtain⟨g1,g2⟩:=bk.1 hc;have:=hu w.b.toNat (by omega);rw[this,show((w.b.toNat:Nat):Int)=w.b from by omega];cases((an.take i).map (·.b)).contains w.b<;>simp
  rw[drop_at hw,vo,hone,ae];have ht:(an.take i).map (·.b)++[w.b]=(an.take (i+1)).map (·.b):=by rw[List.take_add_one,hw];simp
  rw[ht];constructor
  .rintro⟨h1,h2⟩ j hj1 hj2;by_cases hji:j=i
   .subst hji;exact h1
   .refine((CS m (i+1) (by omega) λj hj=>?_).1 h2) j (by omega) hj2;by_cases hji:j=i
    .subst hji;exact h1
    .exact h j (by omega)
  .intro hh;have h1:=hh i (by omega) (by omega);refine⟨h1,(CS m (i+1) (by omega) λj hj=>?_).2 λj hj1 hj2=>hh j (by omega) hj2⟩;by_cases hji:j=i
   .subst hji;exact h1
   .exact h j (by omega)
theorem OJ{n:Nat}{an:List bJ}(hn:n<=512)(hl:an.length<=1000000000):∃s,
  lim T (.call false 217 [.aJ an.length (an.flatMap bJ.enc),.fn 218 [] [.ref J.length 1 0 0]] ([.cells 0 ((List.replicate n false).flatMap uB),.cells 0 [.sl J.length 0 0 0 n 1]]::J)) =
   some (.val (.bool (vo (n:Int) [] an)) (s::J)):=by
 have h:=Li (yt 3 bJ.enc (λ_=>rfl)) (T:=T) (S:=Gt n an J) (fv:=.fn 218 [] [.ref J.length 1 0 0]) (l:=an) (f:=217) (g:=251) (h:=250) (i:=280) (p:=zF n an)
  rfl rfl rfl rfl (by omega) rfl rfl rfl (λi=>by simp[Gt]) (λi x hx=>by
   rw[td];have:=OI (J:=J) hn hx;show R.aU (lim T (.call false 218 [.agg x.enc,.ref J.length 1 0 0] _))=_
   rw[this];rfl)
 have he:(!(qD (λi => !zF n an i) 0 an.length).1)=vo (n:Int) [] an:=by
  have h1:=CS (n:=n) (an:=an) an.length 0 (by omega) (by simp);have h2:=Df (q:=λi => !zF n an i) (m:=an.length) (i:=0);simp only[List.take_zero,bV,aP]at h1;cases hw:vo (n:Int) [] an
  .rw[Bool.not_eq_false'];cases hs:(qD (λi => !zF n an i) 0 an.length).1
   .have h3:=h2.1 hs;have h4:=h1.2 λj _ hj=>by have:=h3 j hj;simpa using this
    rw[hw]at h4;cases h4
   .rfl
  .rw[cY];refine h2.2 λj hj=>?_
   have:=h1.1 hw j (by omega) hj;simpa using this
 rw[he]at h;refine⟨[.cells 0 ((tA n an (qD (λi => !zF n an i) 0 an.length).2).flatMap uB),.cells 0 [.sl J.length 0 0 0 n 1]],?_⟩;exact h
theorem B8{b:cp}(h1:b.cn.length<=1000000000)(h2:b.an.length<=1000000000):lim T (.call false 167 [.agg [.int .i64 b.f.x,.int .i64 b.f.y,.int .i64 b.f.z,.int .i64 b.f.k,.aJ b.cn.length (b.cn.flatMap Rw.enc),.int .i64 b.bL,.int .i64 b.lift,.int .i64 b.deep,.aJ b.an.length (b.an.flatMap bJ.enc)]] J)=some (.val (.bool b.valid) J):=by
 refine aw FO sw.eq_1 rfl ?_;have hT:=λJ=>AL (J:=J) (l:=b.cn) h1
 unfold cp.valid cp.ok1;cases hc1:b.f.valid
 .simp[-length_flatMap,-map_take,jg,cU.shape,hc1]
 by_cases hc2:b.f.k<4
 .simp[-length_flatMap,-map_take,jg,cU.shape,hc1,hc2,show ¬4<=b.f.k by omega]
 have hc2':4<=b.f.k:=by omega
 cases hc3:jV b.cn
 .simp[-length_flatMap,-map_take,jg,cU.shape,hc1,hc2,hT,hc3]
 cases hc4:cj b.bL 1 100000
 .simp[-length_flatMap,-map_take,jg,cU.shape,hc1,hc2,hT,hc3,dB,hc4]
 cases hc5:cj b.lift 0 1000
 .simp[-length_flatMap,-map_take,jg,cU.shape,hc1,hc2,hT,hc3,dB,hc4,hc5]
 cases hc6:cj b.deep 0 3000
 .simp[-length_flatMap,-map_take,jg,cU.shape,hc1,hc2,hT,hc3,dB,hc4,hc5,hc6]
 by_cases hc7:8<b.an.length
 .simp[-length_flatMap,-map_take,jg,cU.shape,hc1,hc2,hT,hc3,dB,hc4,hc5,hc6,hc7,show ¬b.an.length<=8 by omega,show(8:Int)<b.an.length by omega]
 obtain⟨g1,g2,g3,g4,g5⟩:=cU.mo.1 hc1;obtain⟨_,g6⟩:=cU.sz g1 g2 g3;have hsz:=λJ=>PT (J:=J) (b:=b) g1 g2 g3
 have hs:b.size=((b.n:Nat):Int):=by unfold cp.n cp.size cU.size;omega
 have hn:b.n<=512:=by unfold cp.n cp.size cU.size;omega
 have hnil:((List.range b.n).flatMap λ_=>[D.bool false])=(List.replicate b.n false).flatMap uB:=by
  have:∀n,((List.range n).flatMap λ_=>[D.bool false])=(List.replicate n false).flatMap uB:=by
   intro n;induction n with
   |zero=>rfl
   |succ n ih=>rw[List.range_succ,cF,ih,List.replicate_succ'];simp[uB]
  exact this _
 obtain⟨s,hall⟩:=OJ (J:=J) (n:=b.n) (an:=b.an) hn h2;rw[<- hs]at hall;have hroom:(b.n:Int)<=70368744177664:=by omega
 rw[hs]at hsz;simp[-length_flatMap,-map_take,jg,cU.shape,hc1,hc2,hT,hc3,dB,hc4,hc5,hc6,show ¬(8:Int)<b.an.length by omega,show b.an.length<=8 by omega,hsz,room,hroom,hnil,hall,hc2']
theorem Ny{l:List Int}{i n:Nat}:((l.flatMap aM).drop i).take n=((l.drop i).take n).flatMap aM:=by
 simp only[show aM=λn=>[D.int .i64 n]from rfl,M9,<- List.map_drop,<- List.map_take]
theorem lU{l:List Int}{j:Nat}{x:Int}(h:l[j]?=some x):((l.flatMap aM).drop j).take 1=[.int .i64 x]:=by
 have:=bX (f:=aM) (w:=1) (λ_=>rfl) h;simpa using this
theorem cG(l:List Rw):D.bj (l.flatMap Rw.enc)=true:=cT (λx=>by simp) l
theorem bA(l:List bJ):D.bj (l.flatMap bJ.enc)=true:=cT (λx=>by simp) l
theorem bh(l:List Int):D.bj (l.flatMap aM)=true:=cT (λx=>by simp) l
theorem Ir(l:List aI.aO):D.bj (l.flatMap aO.enc)=true:=cT (λx=>by simp) l
structure Bv(b:cp):Prop where
 x:1<=b.f.x/\b.f.x<=8
 y:1<=b.f.y/\b.f.y<=8
 z:1<=b.f.z/\b.f.z<=8
 k:4<=b.f.k/\b.f.k<=6
 sz:b.f.size=((b.n:Nat):Int)
 n:1<=b.n/\b.n<=64
 cn:jV b.cn=true
 bL:1<=b.bL/\b.bL<=100000
 lift:0<=b.lift/\b.lift<=1000
 deep:0<=b.deep/\b.deep<=3000
 an:b.an.length<=8
 ok:vo b.size [] b.an=true
theorem Bv.of{b:cp}(h:b.valid=true):Bv b:=by
 simp only[cp.valid,cp.ok1,ae,au]at h;obtain⟨⟨h1,h2,h3,h4,h5,h6,h7⟩,h8⟩:=h;obtain⟨g1,g2,g3,g4,g5⟩:=cU.mo.1 h1;obtain⟨_,g6⟩:=cU.sz g1 g2 g3;refine⟨g1,g2,g3,⟨h2,g5.2⟩,?_,?_,h3,bk.1 h4,bk.1 h5,bk.1 h6,h7,h8⟩
 .unfold cp.n cp.size cU.size;omega
 .unfold cp.n cp.size;unfold cU.size at g4 ⊢;omega
theorem Bv.fv{b:cp}(h:Bv b):b.f.valid=true:=cU.mo.2 ⟨h.x,h.y,h.z,by have:=h.sz;have:=h.n;omega,by have:=h.k;omega⟩
structure Mv(b:cp)(m:bE):Prop where
 bv:Bv b
 len:(m.aU.length:Int)=b.f.k*b.f.size
theorem Mv.le{b:cp}{m:bE}(h:Mv b m):4*b.n<=m.aU.length/\m.aU.length<=384:=by
 have h1:=h.bv.k;have h2:=h.bv.sz;have h3:=h.bv.n;have h4:=h.len;have h5:=(eR h1.1 (by omega:(0:Int)<=b.f.size));have h6:=NV (a:=b.f.k) (b:=b.f.size) (A:=6) (B:=64) (by omega) h1.2 (by omega) (by omega);omega
theorem Ab{b:cp}(h:Bv b):lim T (.call false 216 [.agg [.int .i64 b.f.x,.int .i64 b.f.y,.int .i64 b.f.z,.int .i64 b.f.k,.aJ b.cn.length (b.cn.flatMap Rw.enc),.int .i64 b.bL,.int .i64 b.lift,.int .i64 b.deep,.aJ b.an.length (b.an.flatMap bJ.enc)]] J)=some (.val (.int .i64 b.n) J):=by
 have:=PT (J:=J) (b:=b) h.x h.y h.z;rw[show b.size=((b.n:Nat):Int)from h.sz]at this;exact this
theorem HG{b:cp}{m:bE}(h:Mv b m){k:Nat}(hk:k<4):lim T (.call false 253 [.agg [.int .i64 b.f.x,.int .i64 b.f.y,.int .i64 b.f.z,.int .i64 b.f.k,.aJ b.cn.length (b.cn.flatMap Rw.enc),.int .i64 b.bL,.int .i64 b.lift,.int .i64 b.deep,.aJ b.an.length (b.an.flatMap bJ.enc),.str m.name,.aJ m.aU.length (m.aU.flatMap aM)],.int .i64 k] J)=some (.val (.aJ b.n ((wW b m k).flatMap aM)) J):=by
 refine aw D6 pf.eq_1 rfl ?_;obtain⟨h1,h2⟩:=h.le;have h3:=h.bv.n;have hs:=λJ=>Ab (J:=J) h.bv
 have e1:(k:Int)*(b.n:Int)=((k*b.n:Nat):Int):=by push_cast;rfl
 have e2:((k:Int)+1)*(b.n:Int)=(((k+1)*b.n:Nat):Int):=by push_cast;rfl
 have b1:(k+1)*b.n<=m.aU.length:=gz (bU _ (by omega:k+1<=4)) h1;have b2:(k+1)*b.n=k*b.n+b.n:=cq _ _;have w1:=eQ (n:=(k:Int)*b.n) (by rw[e1];omega);have w2:=eQ (n:=(k:Int)+1);have w3:=eQ (n:=((k:Int)+1)*b.n) (by rw[e2];omega);have e3:(k+1)*b.n-k*b.n=b.n:=by omega
 have hsub:=Ny (l:=m.aU) (i:=k*b.n) (n:=b.n);have hle:(k:Int)*b.n<=((k:Int)+1)*b.n:=by rw[e1,e2];omega
 simp[-length_flatMap,-map_take,hs,w1,w2,w3];rw[e1,e2];have c1:(0:Int)<=((k*b.n:Nat):Int):=by omega
 have c2:((k*b.n:Nat):Int)<=(((k+1)*b.n:Nat):Int):=by omega
 have c3:(((k+1)*b.n:Nat):Int)<=(m.aU.length:Int):=by omega
 have c4:(0:Int)<=(((k+1)*b.n:Nat):Int):=by omega
 simp only[c1,c2,c3,c4,and_self,if_true,Int.toNat_natCast,Option.bind_some,aX,ER,e3,hsub];simp[-length_flatMap,-map_take,wW,hle,e3,hsub,bh]
theorem KB{b:cp}{m:bE}(h:Mv b m){k:Nat}(hk:k<4):(wW b m k).length=b.n:=by
 obtain⟨h1,h2⟩:=h.le;have b1:(k+1)*b.n<=m.aU.length:=gz (bU _ (by omega:k+1<=4)) h1;have b2:(k+1)*b.n=k*b.n+b.n:=cq _ _;simp[wW];omega
theorem yD{b:cp}{m:bE}(h:Mv b m){k i:Nat}(hk:k<4)(hi:i<b.n):(wW b m k)[i]?=some (vK b m k i):=by
 obtain⟨h1,h2⟩:=h.le;have b1:(k+1)*b.n<=m.aU.length:=gz (bU _ (by omega:k+1<=4)) h1;have b2:(k+1)*b.n=k*b.n+b.n:=cq _ _;have h3:k*b.n+i<m.aU.length:=by omega
 simp only[wW,vK,eH,eE,if_pos hi,aC h3,eS]
theorem Ta{b:cp}{m:bE}(h:Mv b m){i:Nat}(hi:i<b.n):lim T (.call false 220 [.agg [.int .i64 b.f.x,.int .i64 b.f.y,.int .i64 b.f.z,.int .i64 b.f.k,.aJ b.cn.length (b.cn.flatMap Rw.enc),.int .i64 b.bL,.int .i64 b.lift,.int .i64 b.deep,.aJ b.an.length (b.an.flatMap bJ.enc),.str m.name,.aJ m.aU.length (m.aU.flatMap aM)],.int .i64 i] J)=some (.val (.int .i64 (hold b m i)) J):=by
 refine aw D5 pc.eq_1 rfl ?_;have hk:=λJ=>HG (J:=J) h (k:=0) (by omega)
 have ha:=lU (yD h (k:=0) (by omega) hi);simp only[Int.ofNat_zero]at hk;simp[-length_flatMap,-map_take,hk,hi,ha,hold]
theorem Ti{b:cp}{m:bE}(h:Mv b m){i:Nat}(hi:i<b.n):lim T (.call false 284 [.agg [.int .i64 b.f.x,.int .i64 b.f.y,.int .i64 b.f.z,.int .i64 b.f.k,.aJ b.cn.length (b.cn.flatMap Rw.enc),.int .i64 b.bL,.int .i64 b.lift,.int .i64 b.deep,.aJ b.an.length (b.an.flatMap bJ.enc),.str m.name,.aJ m.aU.length (m.aU.flatMap aM)],.int .i64 i] J)=some (.val (.int .i64 (JM b m i)) J):=by
 refine aw D7 pg.eq_1 rfl ?_;have hk:=λJ=>HG (J:=J) h (k:=1) (by omega)
 have ha:=lU (yD h (k:=1) (by omega) hi);simp at hk;simp[-length_flatMap,-map_take,hk,hi,ha,JM]
theorem ZY{b:cp}{m:bE}(h:Mv b m){i:Nat}(hi:i<b.n):lim T (.call false 221 [.agg [.int .i64 b.f.x,.int .i64 b.f.y,.int .i64 b.f.z,.int .i64 b.f.k,.aJ b.cn.length (b.cn.flatMap Rw.enc),.int .i64 b.bL,.int .i64 b.lift,.int .i64 b.deep,.aJ b.an.length (b.an.flatMap bJ.enc),.str m.name,.aJ m.aU.length (m.aU.flatMap aM)],.int .i64 i] J)=some (.val (.int .i64 (JV b m i)) J):=by
 refine aw D9 pk.eq_1 rfl ?_;have hk:=λJ=>HG (J:=J) h (k:=2) (by omega)
 have ha:=lU (yD h (k:=2) (by omega) hi);simp at hk;simp[-length_flatMap,-map_take,hk,hi,ha,JV]
theorem ZK{b:cp}{m:bE}(h:Mv b m){i:Nat}(hi:i<b.n):lim T (.call false 285 [.agg [.int .i64 b.f.x,.int .i64 b.f.y,.int .i64 b.f.z,.int .i64 b.f.k,.aJ b.cn.length (b.cn.flatMap Rw.enc),.int .i64 b.bL,.int .i64 b.lift,.int .i64 b.deep,.aJ b.an.length (b.an.flatMap bJ.enc),.str m.name,.aJ m.aU.length (m.aU.flatMap aM)],.int .i64 i] J)=some (.val (.int .i64 (feed b m i)) J):=by
 refine aw D3 o9.eq_1 rfl ?_;have hk:=λJ=>HG (J:=J) h (k:=3) (by omega)
 have ha:=lU (yD h (k:=3) (by omega) hi);simp at hk;simp[-length_flatMap,-map_take,hk,hi,ha,feed]
theorem Wb{lo hi n:Int}:lim T (.call false 254 [.int .i64 n,.ref J.length 0 0 0] ([]::[]::[]::[]::[.cells 0 [.int .i64 lo,.int .i64 hi]]::J))=some (.val (.bool (cj n lo hi)) ([]::[]::[]::[]::[.cells 0 [.int .i64 lo,.int .i64 hi]]::J)):=by
 refine aw Cj mH.eq_1 rfl ?_;simp[-length_flatMap,-map_take,dB]
theorem Rp{b:cp}{m:bE}(h:Mv b m){k:Nat}(hk:k<4){lo hi:Int}:lim T (.call false 252 [.aJ b.n ((wW b m k).flatMap aM),.fn 254 [] [.ref J.length 0 0 0]] ([.cells 0 [.int .i64 lo,.int .i64 hi]]::J)) =
  some (.val (.bool (fL (wW b m k) λn=>cj n lo hi)) ([.cells 0 [.int .i64 lo,.int .i64 hi]]::J)):=by
 have hl:=KB h hk;have hn:=h.bv.n;have:=WZ (IA .i64) (T:=T) (f:=252) (g:=281) (h:=81) (i:=27) (l:=wW b m k) (p:=λn=>cj n lo hi) (fv:=.fn 254 [] [.ref J.length 0 0 0]) (J:=[.cells 0 [.int .i64 lo,.int .i64 hi]]::J)
  rfl rfl rfl rfl (by omega) rfl rfl rfl (λx _=>by
   rw[td];have:=Wb (J:=J) (lo:=lo) (hi:=hi) (n:=x);show R.aU (lim T (.call false 254 [.int .i64 x,.ref J.length 0 0 0] _))=_
   rw[this];rfl)
 rw[hl]at this;exact this
def LX:Nat->Int×Int
 |0=>(1000,100000)
 |1=>(0,1000)
 |2=>(0,3000)
 |_=>(0,1000)
def An(b:cp)(m:bE)(i:Nat):Nat->Bool
 |0=>true
 |n+1=>fL (wW b m i) (λx=>cj x (LX i).1 (LX i).2) && An b m (i+1) n
theorem TH{b:cp}{m:bE}(h:Mv b m):∀(n i:Nat),i+n=4 ->
  WL T [1,17,18] true iN [(1,.bq [.int .i64 b.f.x,.int .i64 b.f.y,.int .i64 b.f.z,.int .i64 b.f.k,.aJ b.cn.length (b.cn.flatMap Rw.enc),.int .i64 b.bL,.int .i64 b.lift,.int .i64 b.deep,.aJ b.an.length (b.an.flatMap bJ.enc),.str m.name,.aJ m.aU.length (m.aU.flatMap aM)]),(17,.agg [.int .i64 1000,.int .i64 100000,.int .i64 0,.int .i64 1000,.int .i64 0,.int .i64 3000,.int .i64 0,.int .i64 1000]),(18,.int .i64 i)] J
   (λx e J'=>J'=J/\if An b m i n=true then x=.exit 0 else x=.ret/\get e 2=.bool false)
 |0,i,hi=>by
  refine ES iN.eq_1 ?_;obtain rfl:i=4:=by omega
  simp[-length_flatMap,-map_take,An,cG,bA,bh]
 |n+1,i,hi=>by
  refine ES iN.eq_1 ?_;have hk:i<4:=by omega
  have hK:=λJ=>HG (J:=J) h hk
  have ih:=TH h n (i+1) (by omega);have hA:=Rp (J:=J) h hk (lo:=(LX i).1) (hi:=(LX i).2);simp only[An];rcases Bool.eq_false_or_eq_true (fL (wW b m i) (λx=>cj x (LX i).1 (LX i).2))with hc | hc
  .rw[hc]at hA;obtain rfl | rfl | rfl | rfl:i=0\/i=1\/i=2\/i=3:=by omega
   all_goals
    simp only[LX]at hA hc ⊢
    try simp at hK
    simp[-length_flatMap,-map_take,hK,hA,hc,cG,bA,bh];exact WL.to ih (by simp[cG,bA,bh]) (by simp[cG,bA,bh]) λx e J' hh=>by simpa[hc]using hh
  .rw[hc]at hA;obtain rfl | rfl | rfl | rfl:i=0\/i=1\/i=2\/i=3:=by omega
   all_goals
    simp only[LX]at hA hc ⊢
    try simp at hK
    simp[-length_flatMap,-map_take,hK,hA,hc,cG,bA,bh]
end Go.Proofs.YtanhdobabijmoaaGreatDoor
