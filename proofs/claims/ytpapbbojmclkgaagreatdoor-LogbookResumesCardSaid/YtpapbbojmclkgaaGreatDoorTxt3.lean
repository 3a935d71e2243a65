import Derived.Test.YtpapbbojmclkgaaGreatDoorTxt2
set_option linter.all false
namespace Go.ba
open Go Go.aw
structure Pt where
 x:Int
 y:Int
 z:Int
 deriving DecidableEq
structure Rg where
 lo:Int
 hi:Int
 deriving DecidableEq
structure Ss where
 p:Pt
 err:Int
structure Net where
 st:List Ss
 s0:Rg
 s1:Rg
 low:Pt
 high:Pt
 step:Int
structure Ix where
 st:Int
 ph:Int
 t:Rg
structure Plc where
 p:Pt
 o:Rg
 deriving DecidableEq
structure Bi where
 far:Int
 add:Int
structure KU where
 levels:List Int
 rows:List Bi
structure CQ where
 st:Int
 amt:Int
structure ahX where
 fst:Int
 thn:Int
structure Bet where
 num:Int
 den:Int
 a:Int
 b:Int
 afL:Int
@[simp] theorem Pt.eta(p:Pt):Pt.mk p.x p.y p.z=p:=rfl
@[simp] theorem Rg.eta(p:Rg):Rg.mk p.lo p.hi=p:=rfl
@[simp] theorem Ss.eta(p:Ss):Ss.mk p.p p.err=p:=rfl
@[simp] theorem Net.eta(p:Net):Net.mk p.st p.s0 p.s1 p.low p.high p.step=p:=rfl
@[simp] theorem Ix.eta(p:Ix):Ix.mk p.st p.ph p.t=p:=rfl
@[simp] theorem KU.eta(p:KU):KU.mk p.levels p.rows=p:=rfl
@[simp] theorem CQ.eta(p:CQ):CQ.mk p.st p.amt=p:=rfl
@[simp] theorem Bi.eta(p:Bi):Bi.mk p.far p.add=p:=rfl
@[simp] theorem Bet.eta(p:Bet):Bet.mk p.num p.den p.a p.b p.afL=p:=rfl
@[simp] def Pt.enc(p:Pt):List D:=[iI p.x,iI p.y,iI p.z]
@[simp] def Rg.enc(r:Rg):List D:=[iI r.lo,iI r.hi]
@[simp] def Ss.enc(s:Ss):List D:=[iI s.p.x,iI s.p.y,iI s.p.z,iI s.err]
@[simp] def Ix.enc(p:Ix):List D:=[iI p.st,.int .u8 p.ph,iI p.t.lo,iI p.t.hi]
@[simp] def Plc.enc(p:Plc):List D:=[iI p.p.x,iI p.p.y,iI p.p.z,iI p.o.lo,iI p.o.hi]
@[simp] def Bi.enc(p:Bi):List D:=[iI p.far,iI p.add]
@[simp] def CQ.enc(p:CQ):List D:=[iI p.st,iI p.amt]
@[simp] def ahX.enc(p:ahX):List D:=[iI p.fst,iI p.thn]
@[simp] def Bet.enc(b:Bet):List D:=[iI b.num,iI b.den,iI b.a,iI b.b,iI b.afL]
@[simp] def aQ(n:Int):List D:=[iI n]
@[simp] def tc(n:Bool):List D:=[.bool n]
@[simp] def Net.enc(n:Net):List D:=[.bZ n.st.length (fM n.st Ss.enc),iI n.s0.lo,iI n.s0.hi,iI n.s1.lo,iI n.s1.hi,
 iI n.low.x,iI n.low.y,iI n.low.z,iI n.high.x,iI n.high.y,iI n.high.z,iI n.step]
@[simp] def KU.enc(s:KU):List D:=[.bZ s.levels.length (fM s.levels aQ),.bZ s.rows.length (fM s.rows Bi.enc)]
def bI(n lo hi:Int):Bool:=decide (lo<=n) && decide (n<=hi)
theorem aS{n lo hi:Int}:bI n lo hi=true↔lo<=n/\n<=hi:=by simp[bI]
def Pt.ok(p:Pt):Bool:=bI p.x (-20000) 20000 && (bI p.y (-20000) 20000 && bI p.z (-20000) 20000)
def ux(a b:Pt):Bool:=a.ok && (b.ok && (decide (a.x<=b.x) && (decide (a.y<=b.y) && decide (a.z<=b.z))))
def Ss.ok(s:Ss):Bool:=s.p.ok && bI s.err 0 1000
def Rg.bI(r:Rg)(lo hi:Int):Bool:=decide (lo<=r.lo) && (decide (r.lo<=r.hi) && decide (r.hi<=hi))
def steps(n:Net)(lo hi:Int):Int:=(hi-lo).tdiv n.step+1
def Net.pre(n:Net):Bool:=ba.bI n.st.length 1 12 && (dz n.st Ss.ok && (ux n.low n.high && (ba.bI n.step 1 20000 && (n.s0.bI 1 2000 && n.s1.bI 1 2000))))
def Net.count(n:Net):Int:=steps n n.low.x n.high.x*steps n n.low.y n.high.y*steps n n.low.z n.high.z
def Net.ok(n:Net):Bool:=n.pre && decide (n.count<=2000)
theorem Pt.OO{p:Pt}:p.ok=true↔(-20000<=p.x/\p.x<=20000)/\(-20000<=p.y/\p.y<=20000)/\(-20000<=p.z/\p.z<=20000):=by
 simp only[Pt.ok,af,aS]
def bsr:Nat->Int->Int->Int->Int
 |0,_,lo,_=>lo
 |f+1,n,lo,hi=>if lo<hi then(if((lo+hi+1) / 2)*((lo+hi+1) / 2)<=n then bsr f n ((lo+hi+1) / 2) hi else bsr f n lo ((lo+hi+1) / 2-1))else lo
def sq(p q:Pt):Int:=(p.x-q.x)*(p.x-q.x)+(p.y-q.y)*(p.y-q.y)+(p.z-q.z)*(p.z-q.z)
def aio(p q:Pt):Int:=bsr 17 (sq p q) 0 70000
def prog(lo hi st:Int):List Int:=(List.range ((hi-lo) / st+1).toNat).map λ(i:Nat)=>lo+i*st
def zs(n:Net)(x y:Int)(z:Int):List Pt:=(prog z n.high.z n.step).map λz=>⟨x,y,z⟩
def ys(n:Net)(x:Int)(y:Int):List Pt:=fM (prog y n.high.y n.step) λy=>zs n x y n.low.z
def xs(n:Net)(x:Int):List Pt:=fM (prog x n.high.x n.step) λx=>ys n x n.low.y
def ab6(n:Net):List Pt:=xs n n.low.x
def Net.stn(n:Net)(i:Int):Ss:=n.st.getD i.toNat ⟨⟨0,0,0⟩,0⟩
def Net.Tk(n:Net)(ph:Int):Rg:=if ph=0 then n.s0 else n.s1
def aam(n:Net)(i ph:Int)(p:Pt):Rg:=⟨(n.Tk ph).lo*aio (n.stn i).p p / 1000,((n.Tk ph).hi*(aio (n.stn i).p p+1)+999) / 1000⟩
def Ix.ok(n:Net)(p:Ix):Bool:=ba.bI p.st 0 (n.st.length-1) && (decide (p.ph<2) && p.t.bI (-100000000) 100000000)
def span(n:Net)(p:Ix)(q:Pt):Rg:=⟨p.t.lo-(n.stn p.st).err-(aam n p.st p.ph q).hi,p.t.hi+(n.stn p.st).err-(aam n p.st p.ph q).lo⟩
def meet(a b:Rg):Rg:=⟨max a.lo b.lo,min a.hi b.hi⟩
def common:List Rg->Rg
 |[]=>⟨0,0⟩
 |r::l=>l.foldl meet r
def Rg.ne(r:Rg):Bool:=decide (r.lo<=r.hi)
end Go.ba
namespace Go.Proofs.YtpapbbojmclkgaaGreatDoor
open Go Go.aw Go.ba
variable {J:SK}
theorem iq{a b c:Int}:Cl 118 [iI a,iI b,iI c] (.bool (bI a b c)) J:=by
 refine an ?_;by_cases h:b<=a<;>simp[h,bI]
theorem ym{a b c:Int}:Cl 133 [iI a,iI b,iI c] (.bool (bI a b c)) J:=by
 refine an ?_;by_cases h:b<=a<;>simp[h,bI]
theorem ahS{a:Int}:Cl 194 [iI a] (.bool (bI a (-20000) 20000)) J:=by
 refine an ?_;simp[iq]
theorem Vu{l:List Int}(hl:l.length<=9223372036854775807){fv:D}{p:Int->Bool}(ht:om T fv (.int .i64) p l)(hc:fv.cells=some [fv]):
  Cl 193 [lF l aQ,fv] (.bool (dz l p)) J :=
 CW (Ov .i64) Iy GA Ag CU hl ht hc
theorem yH{x y z:Int}:Cl 155 [.agg [iI x,iI y,iI z]] (.bool (Pt.ok ⟨x,y,z⟩)) J:=by
 refine an ?_;have h:∀J,Cl 193 [.bZ 3 [iI x,iI y,iI z],.fn 194 [] []] (.bool (Pt.ok ⟨x,y,z⟩)) J:=λJ=>by
  have:=Vu (J:=J) (l:=[x,y,z]) (by simp) (fv:=.fn 194 [] []) (p:=λa=>bI a (-20000) 20000) (.fn λa _ J=>ahS) rfl;simpa[Pt.ok,Bool.and_assoc,dz]using this
 simp[h]
theorem Jm{x y z:Int}:Cl 134 [.agg [iI x,iI y,iI z]] (.bool (Pt.ok ⟨x,y,z⟩)) J:=by
 refine an ?_;cases hc1:bI x (-20000) 20000
 .simp[ym,Pt.ok,hc1]
 cases hc2:bI y (-20000) 20000
 .simp[ym,Pt.ok,hc1,hc2]
 simp[ym,Pt.ok,hc1,hc2]
theorem MP{x y z a b c:Int}:Cl 151 [.agg [iI x,iI y,iI z],.agg [iI a,iI b,iI c]] (.bool (ux ⟨x,y,z⟩ ⟨a,b,c⟩)) J:=by
 refine an ?_;cases hc1:Pt.ok ⟨x,y,z⟩
 .simp[yH,ux,hc1]
 cases hc2:Pt.ok ⟨a,b,c⟩
 .simp[yH,ux,hc1,hc2]
 by_cases hc3:x<=a
 rotate_left
 .simp[yH,ux,hc1,hc2,hc3]
 by_cases hc4:y<=b
 rotate_left
 .simp[yH,ux,hc1,hc2,hc3,hc4]
 simp[yH,ux,hc1,hc2,hc3,hc4]
theorem ML{x y z a b c:Int}:Cl 132 [.agg [iI x,iI y,iI z],.agg [iI a,iI b,iI c]] (.bool (ux ⟨x,y,z⟩ ⟨a,b,c⟩)) J:=by
 refine an ?_;cases hc1:Pt.ok ⟨x,y,z⟩
 .simp[Jm,ux,hc1]
 cases hc2:Pt.ok ⟨a,b,c⟩
 .simp[Jm,ux,hc1,hc2]
 by_cases hc3:x<=a
 rotate_left
 .simp[Jm,ux,hc1,hc2,hc3]
 by_cases hc4:y<=b
 rotate_left
 .simp[Jm,ux,hc1,hc2,hc3,hc4]
 simp[Jm,ux,hc1,hc2,hc3,hc4]
theorem aco{n:Net}:n.pre=true↔(1<=(n.st.length:Int)/\(n.st.length:Int)<=12)/\dz n.st Ss.ok=true/\(n.low.ok=true/\n.high.ok=true/\n.low.x<=n.high.x/\n.low.y<=n.high.y/\n.low.z<=n.high.z) /\
  (1<=n.step/\n.step<=20000)/\(1<=n.s0.lo/\n.s0.lo<=n.s0.hi/\n.s0.hi<=2000)/\(1<=n.s1.lo/\n.s1.lo<=n.s1.hi/\n.s1.hi<=2000):=by
 simp only[Net.pre,af,aS,ux,Rg.bI,au]
structure ahV(n:Net)(i ph:Int):Prop where
 i0:0<=i
 i1:i<n.st.length
 hph:ph=0\/ph=1
 p:(n.stn i).p.ok=true
 e:0<=(n.stn i).err/\(n.stn i).err<=1000
 s:1<=(n.Tk ph).lo/\(n.Tk ph).lo<=(n.Tk ph).hi/\(n.Tk ph).hi<=2000
 cells:((fM n.st Ss.enc).drop (i.toNat*4)).take 4=(n.stn i).enc
theorem Zz{n:Net}(h:n.ok=true){i ph:Int}(hi:bI i 0 (n.st.length-1)=true)(hp:0<=ph)(hp':ph<2):ahV n i ph:=by
 simp only[Net.ok,af]at h;have h0:=aco.1 h.1;rw[aS]at hi;have h1:i.toNat<n.st.length:=by omega
 have h2:n.st[i.toNat]?=some (n.stn i):=by
  simp[Net.stn,List.getD,aE h1]
 have h3:=ff.1 h0.2.1 _ (ah h2);simp only[Ss.ok,af,aS]at h3;refine⟨by omega,by omega,by omega,h3.1,h3.2,?_,bx (f:=Ss.enc) (w:=4) h2⟩;unfold Net.Tk;split<;>omega
structure Hd(n:Net)(l:List Ix):Prop where
 ok:n.ok=true
 len:l.length<=60
 all:∀p∈l,Ix.ok n p=true/\0<=p.ph
theorem Hd.amu{n:Net}{l:List Ix}(h:Hd n l){p:Ix}(hp:p∈l):ahV n p.st p.ph:=by
 have h1:=h.all p hp;simp only[Ix.ok,af,au]at h1;exact Zz h.ok h1.1.1 h1.2 h1.1.2.1
end Go.Proofs.YtpapbbojmclkgaaGreatDoor
namespace Go.ba
open Go Go.aw
theorem HV{α β:Type}{f:α->List β}{c:Nat}{l:List α}(h:∀x∈l,(f x).length=c):(fM l f).length=l.length*c:=by
 induction l with
 |nil=>simp
 |cons a l ih =>
  rw[cT,aP,h a (by simp),ih λx hx=>h x (by simp[hx]),aB,eM];omega
end Go.ba
namespace Go.Proofs.YtpapbbojmclkgaaGreatDoor
open Go Go.aw Go.ba
variable {J:SK}
structure Bx(n:Net):Prop where
 st:1<=n.step/\n.step<=20000
 lx : -20000<=n.low.x/\n.low.x<=20000
 ly : -20000<=n.low.y/\n.low.y<=20000
 lz : -20000<=n.low.z/\n.low.z<=20000
 hx:n.low.x<=n.high.x/\n.high.x<=20000
 hy:n.low.y<=n.high.y/\n.high.y<=20000
 hz:n.low.z<=n.high.z/\n.high.z<=20000
 len:(ab6 n).length<=2000
end Go.Proofs.YtpapbbojmclkgaaGreatDoor
namespace Go.ba
open Go Go.aw
def ajd(l:List Int)(i:Nat):Bool:=decide (i=0) || decide (l.getD (i-1) 0<l.getD i 0)
def aje(l:List Int):Bool:=dz (List.range' 0 l.length) (ajd l)
def Bi.ok(r:Bi):Bool:=bI r.far 0 20000 && bI r.add 0 100
def KU.ok(s:KU):Bool:=bI s.levels.length 1 60 && (dz s.levels (λn=>bI n 1 1000000000) && (aje s.levels && (bI s.rows.length 1 20 && (decide ((s.rows.getD 0 ⟨0,0⟩).far=0) && (dz s.rows Bi.ok && aje (s.rows.map (·.far)))))))
def lvl(l:List Int)(a:Int):Nat:=(l.takeWhile λx=>decide (x<=a)).length
def CQ.ok(n:Net)(r:CQ):Bool:=bI r.st 0 (n.st.length-1) && bI r.amt 0 1000000000
end Go.ba
namespace Go.Proofs.YtpapbbojmclkgaaGreatDoor
open Go Go.aw Go.ba
variable {J:SK}
end Go.Proofs.YtpapbbojmclkgaaGreatDoor
namespace Go.ba
open Go Go.aw
def Bet.ok(b:Bet):Bool:=bI b.den 2 1000 && (bI b.num 1 (b.den-1) && (bI b.b 1 1000 && (bI b.a 0 b.b && bI b.afL 2 1000)))
def next(b:Bet)(c:Int)(hit:Bool):Int:=if hit then min (c*(b.b*b.num+b.a*(b.den-b.num)) / (b.b*b.num)) 1000000000000 else c*(b.b-b.a) / b.b
structure amr(b:Bet)(c:Int):Prop where
 w1:IntKind.i64.wrap (b.b*b.num)=b.b*b.num
 w2:IntKind.i64.wrap (b.den-b.num)=b.den-b.num
 w3:IntKind.i64.wrap (b.a*(b.den-b.num))=b.a*(b.den-b.num)
 w4:IntKind.i64.wrap (b.b*b.num+b.a*(b.den-b.num))=b.b*b.num+b.a*(b.den-b.num)
 w5:IntKind.i64.wrap (c*(b.b*b.num+b.a*(b.den-b.num)))=c*(b.b*b.num+b.a*(b.den-b.num))
 w6:IntKind.i64.wrap ((c*(b.b*b.num+b.a*(b.den-b.num))).tdiv (b.b*b.num))=c*(b.b*b.num+b.a*(b.den-b.num)) / (b.b*b.num)
 w7:b.b*b.num≠0
 w8:IntKind.i64.wrap (b.b-b.a)=b.b-b.a
 w9:IntKind.i64.wrap (c*(b.b-b.a))=c*(b.b-b.a)
 w10:IntKind.i64.wrap ((c*(b.b-b.a)).tdiv b.b)=c*(b.b-b.a) / b.b
 w11:b.b≠0
 w12:∀h,0<=next b c h/\next b c h<=1000000000000
 w13:min (c*(b.b-b.a) / b.b) 1000000000000=c*(b.b-b.a) / b.b
def fB(k0 k1 k2:Int):Bool:=decide (k0<=1000) && (decide (k1<=k0) && (decide (k2<=k1) && decide (0<=k2)))
def Yq(n:Int):Bool:=bI n 0 1000000000
theorem ab2{o:List Int}{i:Nat}(hi:i<o.length)(v:Int):(fM o aQ).take i++(iI v::(fM o aQ).drop (i+1))=fM (o.set i v) aQ:=by
 induction o generalizing i with
 |nil=>simp at hi
 |cons a o ih =>
  cases i with
  |zero=>simp
  |succ i=>simp at hi;simpa using ih hi
theorem WS(n:Nat):(fM (List.range n) λ_=>[iI 0])=fM (List.replicate n (0:Int)) aQ:=by
 induction n with
 |zero=>rfl
 |succ n ih=>rw[List.range_succ,ln,ih,List.replicate_succ',ln];rfl
end Go.ba
namespace Go.Proofs.YtpapbbojmclkgaaGreatDoor
open Go Go.aw Go.ba
variable {J:SK}
theorem KF{a:Int}:Cl 245 [iI a] (.bool (Yq a)) J:=by
 refine an ?_;simp[iq,Yq]
structure ams(p k:Int):Prop where
 w1:IntKind.i64.wrap (p*k)=p*k
 w2:IntKind.i64.wrap ((p*k).tdiv 1000)=p*k / 1000
 w3:0<=p*k / 1000
 w4:p*k / 1000<=1000000000
theorem Z7{acc:List Int}{k:Nat}{v:Int}:(acc++List.replicate (k+1) 0).set acc.length v=(acc++[v])++List.replicate k 0:=by
 rw[List.set_append_right _ _ (aO _)];simp[List.replicate_succ]
end Go.Proofs.YtpapbbojmclkgaaGreatDoor
namespace Go.ba
open Go Go.aw
structure pn where
 p:Pt
 mag:Int
structure Ev where
 tick:Int
 sp:List pn
structure cQ where
 lo:Pt
 hi:Pt
 least:Int
 uQ:Int
 count:Int
 Ol:Int
@[simp] theorem pn.eta(p:pn):pn.mk p.p p.mag=p:=rfl
@[simp] theorem Ev.eta(p:Ev):Ev.mk p.tick p.sp=p:=rfl
@[simp] theorem cQ.eta(p:cQ):cQ.mk p.lo p.hi p.least p.uQ p.count p.Ol=p:=rfl
@[simp] def pn.enc(s:pn):List D:=[iI s.p.x,iI s.p.y,iI s.p.z,iI s.mag]
@[simp] def Ev.enc(e:Ev):List D:=[iI e.tick,lF e.sp pn.enc]
@[simp] def cQ.enc(r:cQ):List D:=[iI r.lo.x,iI r.lo.y,iI r.lo.z,iI r.hi.x,iI r.hi.y,iI r.hi.z,iI r.least,iI r.uQ,iI r.count,.int .u8 r.Ol]
def SE:Elt pn:=yR 4 pn.enc λ_=>rfl
def air:Elt Ev:=yR 2 Ev.enc λ_=>rfl
def abN:Elt cQ:=yR 10 cQ.enc λ_=>rfl
def cQ.Kg(r:cQ)(s:pn):Bool:=decide (r.least<=s.mag) && (bI s.p.x r.lo.x r.hi.x && (bI s.p.y r.lo.y r.hi.y && bI s.p.z r.lo.z r.hi.z))
def cQ.ok(r:cQ):Bool:=ux r.lo r.hi && (bI r.least 0 160 && (bI r.uQ 1 1000000 && (bI r.count 1 200 && (r.Ol == 1 || r.Ol == 2))))
def pn.ok(s:pn):Bool:=s.p.ok && bI s.mag 0 160
def Ev.ok(e:Ev):Bool:=bI e.tick 0 1000000 && (bI e.sp.length 1 2000 && dz e.sp pn.ok)
def cQ.act(r:cQ)(now:Int)(e:Ev):Bool:=decide (now-r.uQ<e.tick) && decide (e.tick<=now)
def Ai(f:Ev->Bool):List Ev->Nat
 |[]=>0
 |e::l=>Ai f l+(if f e then 1 else 0)
def sO(r:cQ)(now:Int)(e:Ev):Bool:=r.act now e && lN e.sp r.Kg
def lQ(r:cQ)(now:Int)(e:Ev):Bool:=r.act now e && dz e.sp r.Kg
def vI(f:cQ->Ev->Bool)(l:List Ev):List cQ->Int->Int
 |[],a=>a
 |r::R,a=>vI f l R (if r.count<=Ai (f r) l then max a r.Ol else a)
def Ny(R:List cQ)(l:List Ev)(now:Int):Int:=vI (λr=>sO r now) l R 0
def Pm(R:List cQ)(l:List Ev)(now:Int):Int:=vI (λr=>lQ r now) l R 0
def kF(R:List cQ)(l:List Ev)(now:Int):Int :=
 if 20<R.length then 3 else if dz R cQ.ok=false then 1 else if 200<l.length then 3 else if dz l Ev.ok=false then 1 else if bI now 0 1000000=false then 2 else 0
theorem zZ{r:cQ}:r.ok=true↔ux r.lo r.hi=true/\(0<=r.least/\r.least<=160)/\(1<=r.uQ/\r.uQ<=1000000)/\(1<=r.count/\r.count<=200)/\(r.Ol=1\/r.Ol=2):=by
 simp only[cQ.ok,af,aS,cq,beq_iff_eq]
end Go.ba
namespace Go.Proofs.YtpapbbojmclkgaaGreatDoor
open Go Go.aw Go.ba
variable {J:SK}
theorem PH{r:cQ}{s:pn}:Cl 119 [.agg r.enc,.agg s.enc] (.bool (r.Kg s)) J:=by
 refine an ?_;by_cases hc1:r.least<=s.mag
 rotate_left
 .simp[cQ.Kg,hc1]
 cases hc2:bI s.p.x r.lo.x r.hi.x
 .simp[iq,cQ.Kg,hc1,hc2]
 cases hc3:bI s.p.y r.lo.y r.hi.y
 .simp[iq,cQ.Kg,hc1,hc2,hc3]
 simp[iq,cQ.Kg,hc1,hc2,hc3]
theorem PR{r:cQ}:Cl 115 [.agg r.enc] (.bool r.ok) J:=by
 refine an ?_;cases hc1:ux r.lo r.hi
 .simp[MP,cQ.ok,hc1]
 cases hc2:bI r.least 0 160
 .simp[iq,MP,cQ.ok,hc1,hc2]
 cases hc3:bI r.uQ 1 1000000
 .simp[iq,MP,cQ.ok,hc1,hc2,hc3]
 cases hc4:bI r.count 1 200
 .simp[iq,MP,cQ.ok,hc1,hc2,hc3,hc4]
 by_cases hc5:r.Ol=1
 rotate_left
 .simp[iq,MP,cQ.ok,hc1,hc2,hc3,hc4,hc5]
 simp[iq,MP,cQ.ok,hc1,hc2,hc3,hc4,hc5]
theorem ahM{s:pn}:Cl 154 [.agg s.enc] (.bool s.ok) J:=by
 refine an ?_;cases hc1:Pt.ok s.p
 .simp[yH,pn.ok,hc1]
 simp[iq,yH,pn.ok,hc1]
theorem MN{l:List pn}{p:pn->Bool}{fv:D}(ht:om T fv SE.val p l)(hc:fv.cells=some [fv])(hl:l.length<=9223372036854775807):
  Cl 121 [lF l pn.enc,fv] (.bool (dz l p)) J :=
 CW SE Bp yJ kP mq hl ht hc
theorem PI{e:Ev}(hl:e.sp.length<=9223372036854775807):Cl 117 [.agg e.enc] (.bool e.ok) J:=by
 refine an ?_;have ha:=λJ=>@MN J e.sp pn.ok (.fn 154 [] []) (.fn λs _ J=>ahM) rfl hl
 cases hc1:bI e.tick 0 1000000
 .simp[iq,Ev.ok,hc1]
 cases hc2:bI e.sp.length 1 2000
 .simp[iq,Ev.ok,hc1,hc2]
 simp[iq,ha,Ev.ok,hc1,hc2]
theorem R9{R:List cQ}(hl:R.length<=9223372036854775807):
  Cl 114 [lF R cQ.enc,.fn 115 [] []] (.bool (dz R cQ.ok)) J :=
 CW abN Bo yI sT uR hl (.fn λr _ J=>PR) rfl
theorem Xj{l:List Ev}(hl:l.length<=9223372036854775807)(hs:∀e∈l,e.sp.length<=9223372036854775807):
  Cl 116 [lF l Ev.enc,.fn 117 [] []] (.bool (dz l Ev.ok)) J :=
 CW air Ah yp rN uo hl (.fn λr hr J=>PI (hs r hr)) rfl
end Go.Proofs.YtpapbbojmclkgaaGreatDoor
namespace Go.cY
open Go Go.aw Go.aD
structure ep where
 m:ck
 left:Bool
 Oi:Int
structure Ea where
 line:Int
 value:Int
 lo:Int
 hi:Int
structure Prt where
 width:Int
 kr:Int
structure oF where
 yf:Int
 parts:List Prt
structure KT where
 tick:Int
 TD:Int
 wlo:Int
 whi:Int
 mlo:Int
 mhi:Int
structure Bk where
 aT:b9
 ai:List ep
 av:List (List Int)
 rules:List ba.cQ
 pr:List ba.Ev
 k0:Int
 k1:Int
 k2:Int
 cV:List oF
 dA:List KT
 ready:Bool
 eR:List Ea
 at_:Int
@[simp] def ep.enc(e:ep):List D:=[.str e.m.name,lF e.m.dG aQ,.bool e.left,iI e.Oi]
@[simp] def Ea.enc(e:Ea):List D:=[iI e.line,iI e.value,iI e.lo,iI e.hi]
@[simp] def Prt.enc(e:Prt):List D:=[iI e.width,iI e.kr]
@[simp] def oF.enc(e:oF):List D:=[iI e.yf,lF e.parts Prt.enc]
@[simp] def KT.enc(e:KT):List D:=[iI e.tick,iI e.TD,iI e.wlo,iI e.whi,iI e.mlo,iI e.mhi]
def nl{α:Type}(f:α->List D)(l:List α):D:=if l=[]then .bB else lF l f
def pE(r:List Int):List D:=[lF r aQ]
def Bk.cells(L:Nat)(b:Bk):List D:=[iI b.aT.f.x,iI b.aT.f.y,iI b.aT.f.z,iI b.aT.f.k,nl Rw.enc b.aT.dX,iI b.aT.cJ,iI b.aT.lift,iI b.aT.deep,nl bN.enc b.aT.ar,
 .sl L 0 b.ai.length 0 b.ai.length 4,nl pE b.av,.sl L 1 b.rules.length 0 b.rules.length 10,.sl L 2 b.pr.length 0 b.pr.length 2,iI b.k0,iI b.k1,iI b.k2,
 .sl L 3 b.cV.length 0 b.cV.length 2,.sl L 4 b.dA.length 0 b.dA.length 6,.bool b.ready,.sl L 5 b.eR.length 0 b.eR.length 4,iI b.at_]
def Bk.bC(L:Nat)(b:Bk)(er:List Int):List aw.aF:=[.cells b.ai.length (fM b.ai ep.enc),.cells b.rules.length (fM b.rules ba.cQ.enc),.cells b.pr.length (fM b.pr ba.Ev.enc),.cells b.cV.length (fM b.cV oF.enc),
 .cells b.dA.length (fM b.dA KT.enc),.cells b.eR.length (fM b.eR Ea.enc),.cells 0 (b.cells L),.cells er.length (fM er aQ)]
def gr:Bk:=⟨⟨⟨0,0,0,0⟩,[],0,0,0,[]⟩,[],[],[],[],1000,500,0,[],[],false,[],0⟩
def Prt.ok(last:Int)(p:Prt):Bool:=bI p.kr 0 last && bI p.width 1 100000
def Bt:Int->List Prt->Bool
 |_,[]=>true
 |last,p::l=>p.ok last && Bt p.kr l
def oF.ok(u:oF):Bool:=bI u.yf 0 5 && (bI u.parts.length 1 8 && Bt 1000 u.parts)
def kE(l:List Prt):Nat->Int
 |0=>1000
 |i+1=>match l[i]? with
  |some p=>p.kr
  |none=>0
def Ct(l:List Prt)(i:Nat):Bool:=match l[i]? with
 |some p=>p.ok (kE l i)
 |none=>true
theorem Nc{l:List Prt}:Bt 1000 l=true↔∀j,j<l.length->Ct l j=true:=by
 have key:∀(r pre:List Prt),l=pre++r->(Bt (kE l pre.length) r=true↔∀j,j<r.length->Ct l (pre.length+j)=true):=by
  intro r;induction r with
  |nil=>intro pre h;simp[Bt]
  |cons p r ih =>
   intro pre h;have hp:l[pre.length]?=some p:=by rw[h];simp
   have h1:=ih (pre++[p]) (by rw[h];simp);have h2:kE l (pre++[p]).length=p.kr:=by simp[kE,hp]
   rw[h2]at h1;simp only[Bt,af,h1];constructor
   .rintro⟨h3,h4⟩ j hj;cases j with
    |zero=>simpa[Ct,hp]using h3
    |succ j =>
     have:=h4 j (by simpa using hj);rwa[show(pre++[p]).length+j=pre.length+(j+1)by simp;omega]at this
   .intro h3;refine⟨?_,λj hj=>?_⟩
    .have:=h3 0 (by simp);simpa[Ct,hp]using this
    .have:=h3 (j+1) (by simpa using hj);rwa[show(pre++[p]).length+j=pre.length+(j+1)by simp;omega]
 have:=key l [] rfl;simpa[kE]using this
def mY(b:Bk)(x y z k:Int):Bk×Int :=
 if(b.aT.f.x=0/\b.aT.f.y=0)/\b.aT.f.z=0/\b.aT.f.k=0 then
  (if(dK.mk x y z k).valid=true/\4<=k then({b with aT:={b.aT with f:=⟨x,y,z,k⟩ } },0)else(b,1))
 else(b,8)
end Go.cY
namespace Go.aw
open Go
variable {T:CL} {fv:D} {J:SK}
theorem Wb{f w:Nat}{ag:Bool}(hT:T f=some (uO ag w))(h1:fv.strip=fv)(h2:fv.calm=fv):di T (.call false f [.bB,fv] J)=some (.val (iI (-1)) J):=by
 refine mX hT (uO.eq_1 _ _) rfl ?_;simp[h2];refine Am (Lz.eq_1 _ _) ?_;simp[h2]
theorem contains_nil{f i w:Nat}{ag:Bool}(hT:T f=some (iL i))(hi:T i=some (uO ag w))(h1:fv.strip=fv)(h2:fv.calm=fv):di T (.call false f [.bB,fv] J)=some (.val (.bool false) J):=by
 refine mX hT (iL.eq_1 _) rfl ?_;simp[h1,h2,Wb hi h1 h2]
theorem all_nil{f g h i w:Nat}{ag:Bool}(hf:T f=some (G7 g h))(hh:T h=some (iL i))(hi:T i=some (uO ag w))(h1:fv.strip=fv)(h2:fv.calm=fv)(hcl:fv.cells=some [fv]):
  di T (.call false f [.bB,fv] J)=some (.val (.bool true) J):=by
 refine mX hf (G7.eq_1 _ _) rfl ?_;have h3:=λJ=>contains_nil (fv:=.fn g [] [.bq [fv]]) (J:=J) hh hi rfl rfl
 simp[h1,h3,hcl]
end Go.aw
namespace Go.Proofs.YtpapbbojmclkgaaGreatDoor
open Go Go.aw Go.aD Go.cY
variable {J:SK}
theorem aaN{F:List aw.aF}{b:Bk}{er:List Int}{nm:List UInt8}{x y z k:Int}{b':Bk}{e:Int}(hd:mY b x y z k=(b',e))(he:e=0):
  di T (.call false 160 [.ref J.length 6 0 0,.str nm,.bZ 4 [iI x,iI y,iI z,iI k]] (F::b.bC J.length er::J))=some (.val (.cS []) (F::b'.bC J.length er::J)):=by
 refine eZ rfl rfl rfl (by simp) ?_;unfold mY at hd;split at hd
 case isFalse=>cases hd;cases he
 rename_i h1;split at hd
 case isFalse=>cases hd;cases he
 rename_i h2;cases hd;obtain⟨⟨f1,f2⟩,f3,f4⟩:=h1;have hS:(dK.mk x y z k).shape=0:=by simp[dK.shape,h2.1]
 have hC:=λJ=>ja (J:=J) (f:=⟨x,y,z,k⟩)
 simp only[hS]at hC;simp[Bk.bC,Bk.cells,f1,f2,f3,f4,da,hC,h2.2]
theorem Vy{F:List aw.aF}{b:Bk}{er:List Int}{nm:List UInt8}{x y z k:Int}{b':Bk}{e:Int}(hd:mY b x y z k=(b',e))(he:e≠0):
  di T (.call false 160 [.ref J.length 6 0 0,.str nm,.bZ 4 [iI x,iI y,iI z,iI k]] (F::b.bC J.length er::J))=some (.fy (rf e) (F::b.bC J.length er::J)):=by
 refine ej rfl rfl rfl ?_;have hC:=λJ=>ja (J:=J) (f:=⟨x,y,z,k⟩)
 unfold mY at hd;split at hd
 .rename_i h1;obtain⟨⟨f1,f2⟩,f3,f4⟩:=h1;split at hd
  .cases hd;exact absurd rfl he
  rename_i h2;cases hd;by_cases h3:(dK.mk x y z k).valid=true
  .have h4:¬4<=k:=λhh=>h2 ⟨h3,hh⟩
   have hS:(dK.mk x y z k).shape=0:=by simp[dK.shape,h3]
   simp only[hS]at hC;simp[Bk.bC,Bk.cells,f1,f2,f3,f4,da,dU,hC,h4,D.clean,rf]
  .have hS:(dK.mk x y z k).shape=1:=by simp[dK.shape,h3]
   simp only[hS]at hC;simp[Bk.bC,Bk.cells,f1,f2,f3,f4,da,dU,hC,D.clean,rf]
 .rename_i h1;cases hd;have hz:(b.aT.f.x == 0 && (b.aT.f.y == 0 && (b.aT.f.z == 0 && b.aT.f.k == 0)))=false:=by
   cases hb:(b.aT.f.x == 0 && (b.aT.f.y == 0 && (b.aT.f.z == 0 && b.aT.f.k == 0)))with
   |false=>rfl
   |true =>
    simp only[af,beq_iff_eq]at hb;exact absurd ⟨⟨hb.1,hb.2.1⟩,hb.2.2.1,hb.2.2.2⟩ h1
  simp[Bk.bC,Bk.cells,hz,dU,D.clean,rf]
theorem Jn{k0 k1 k2:Int}(hJ:J≠[]):
  Cl 211 [.bB,.bB,.agg [iI k0,iI k1,iI k2],iI 0] (.cS [if ba.fB k0 k1 k2 then .bZ 0 []else .bB,iI (if ba.fB k0 k1 k2 then 0 else 1)]) J:=by
 refine an ?_;have hA:=λJ=>all_nil (T:=T) (J:=J) (fv:=.fn 245 [] []) (f:=193) (ag:=false) (w:=1) rfl rfl rfl rfl rfl rfl
 have hB:=λJ=>all_nil (T:=T) (J:=J) (fv:=.fn 247 [] []) (f:=246) (ag:=false) (w:=1) rfl rfl rfl rfl rfl rfl
 have hC:ba.Yq 0=true:=by decide
 by_cases c1:1000<k0
 .have d1:¬k0<=1000:=by omega
  simp[ba.fB,hA,hB,KF,hC,c1,d1]
 have d1:k0<=1000:=by omega
 by_cases c2:k0<k1
 .have d2:¬k1<=k0:=by omega
  simp[ba.fB,hA,hB,KF,hC,c1,c2,d1,d2]
 have d2:k1<=k0:=by omega
 by_cases c3:k1<k2
 .have d3:¬k2<=k1:=by omega
  simp[ba.fB,hA,hB,KF,hC,c1,c2,c3,d1,d2,d3]
 have d3:k2<=k1:=by omega
 by_cases c4:k2<0
 .have d4:¬0<=k2:=by omega
  simp[ba.fB,hA,hB,KF,hC,c1,c2,c3,c4,d1,d2,d3,d4]
 have d4:0<=k2:=by omega
 simp[ba.fB,hA,hB,KF,hC,c1,c2,c3,c4,d1,d2,d3,d4];refine aK ?_;simp[d1,d2,d3,d4];have h3:¬J.length<=J.length-1:=by have:=aG.2 hJ;omega
 refine⟨[.dead],?_⟩;rw[pw (by simp[D.bh,D.clean]) (by omega)];have h6:=GI (l:=J.length-1) (n:=15) (l':=J.length) (i:=0) (v:=0) (off:=0) (m:=0) (w:=1) (J:=[aw.aF.cells 0 []]::J) (cs:=[]) h3 (by simp) (by omega);simp only[Nat.reduceSub,cK.frzL,h6];simp
def LD(b:Bk)(k0 k1 k2:Int):Bk:={b with k0:=k0,k1:=k1,k2:=k2 }
theorem aeq{F:List aw.aF}{b:Bk}{er:List Int}{nm:List UInt8}{x y z:Int}(h:ba.fB x y z=true):
  di T (.call false 167 [.ref J.length 6 0 0,.str nm,.bZ 3 [iI x,iI y,iI z]] (F::b.bC J.length er::J))=some (.val (.cS []) (F::(LD b x y z).bC J.length er::J)):=by
 refine eZ rfl rfl rfl (by simp) ?_;have hI:=λJ hJ=>Jn (J:=J) (k0:=x) (k1:=y) (k2:=z) hJ
 simp only[h,if_true]at hI;simp[hI,Pv,mW,Bk.bC,Bk.cells,LD]
theorem Xv{F:List aw.aF}{b:Bk}{er:List Int}{nm:List UInt8}{x y z:Int}(h:ba.fB x y z=false):
  di T (.call false 167 [.ref J.length 6 0 0,.str nm,.bZ 3 [iI x,iI y,iI z]] (F::b.bC J.length er::J))=some (.fy (rf 1) (F::b.bC J.length er::J)):=by
 refine ej rfl rfl rfl ?_;have hI:=λJ hJ=>Jn (J:=J) (k0:=x) (k1:=y) (k2:=z) hJ
 simp only[h]at hI;have hM:=λJ=>oj (J:=J) (e:=1) (by decide)
 simp[hI,Pv,hM,Bk.bC,Bk.cells,D.clean,rf]
theorem Pz{r:ba.cQ}:Cl 76 [.bZ 1 r.enc,.bB,iI 0] (.cS [.int .u8 0,.int .u8 0,iI (if r.ok then 0 else 1)]) J:=by
 refine an ?_;have hA:=λJ=>@R9 J [r] (by simp)
 try simp only[lF,Cl]at hA
 have hN:=λJ=>all_nil (T:=T) (J:=J) (fv:=.fn 117 [] []) (f:=116) (ag:=true) (w:=2) rfl rfl rfl rfl rfl rfl
 simp only[List.length_singleton,cT,mZ,dq,dz,jb,List.all_nil,Bool.and_true]at hA;have w0:ba.bI 0 0 1000000=true:=by decide
 cases hr:r.ok
 .rw[hr]at hA;simp only[ba.cQ.enc]at hA ⊢;simp[hA]
 .rw[hr]at hA;have hc:=(ba.zZ.1 hr).2.2.2.1;have c1:¬r.count<=0:=by omega
  simp only[ba.cQ.enc]at hA ⊢;simp[hA,hN,iq,w0];refine aK ?_;simp;refine aK ?_;simp[c1];refine aK ?_;simp[]
def rO(b:Bk)(r:ba.cQ)(c:Int):Bk×Int :=
 if b.rules.length<20 then(if bI c 1 2=true then(if r.ok=true then({b with rules:=b.rules++[r] },0)else(b,1))else(b,1))else(b,3)
theorem Rt(l:List ba.cQ):(fM l ba.cQ.enc).length=l.length*10:=dF (f:=ba.cQ.enc) (w:=10) l
theorem aex{F:List aw.aF}{b:Bk}{er:List Int}{nm:List UInt8}{x0 x1 x2 x3 x4 x5 x6 x7 x8 x9:Int}{b':Bk}{e:Int}(hd:rO b ⟨⟨x0,x1,x2⟩,⟨x3,x4,x5⟩,x6,x7,x8,x9⟩ x9=(b',e))(he:e=0):
  di T (.call false 166 [.ref J.length 6 0 0,.str nm,.bZ 10 [iI x0,iI x1,iI x2,iI x3,iI x4,iI x5,iI x6,iI x7,iI x8,iI x9]] (F::b.bC J.length er::J))=some (.val (.cS []) (F::b'.bC J.length er::J)):=by
 refine eZ rfl rfl rfl (by simp) ?_;have hL:=λJ=>Pz (J:=J) (r:=⟨⟨x0,x1,x2⟩,⟨x3,x4,x5⟩,x6,x7,x8,x9⟩)
 unfold rO at hd;split at hd
 case isFalse=>cases hd;cases he
 rename_i h1;split at hd
 case isFalse=>cases hd;cases he
 rename_i h2;split at hd
 case isFalse=>cases hd;cases he
 rename_i h3;cases hd;have h1':(b.rules.length:Int)<20:=by omega
 have h4:=aS.1 h2;have w1:IntKind.u8.wrap x9=x9:=TG (by omega);have w2:(b.rules.length+1)*80<=room:=by unfold room;omega
 have w3:=Rt b.rules;have w4:(fM b.rules ba.cQ.enc).take (b.rules.length*10)=fM b.rules ba.cQ.enc:=cZ;simp only[h3,if_true,ba.cQ.enc]at hL;simp[Bk.bC,Bk.cells,h1',eU,h2,da,w1,hL,mW,w2,w3,w4]
theorem XO{F:List aw.aF}{b:Bk}{er:List Int}{nm:List UInt8}{x0 x1 x2 x3 x4 x5 x6 x7 x8 x9:Int}{b':Bk}{e:Int}(hd:rO b ⟨⟨x0,x1,x2⟩,⟨x3,x4,x5⟩,x6,x7,x8,x9⟩ x9=(b',e))(he:e≠0):
  di T (.call false 166 [.ref J.length 6 0 0,.str nm,.bZ 10 [iI x0,iI x1,iI x2,iI x3,iI x4,iI x5,iI x6,iI x7,iI x8,iI x9]] (F::b.bC J.length er::J))=some (.fy (rf e) (F::b.bC J.length er::J)):=by
 refine ej rfl rfl rfl ?_;have hL:=λJ=>Pz (J:=J) (r:=⟨⟨x0,x1,x2⟩,⟨x3,x4,x5⟩,x6,x7,x8,x9⟩)
 have hM:=λJ=>oj (J:=J) (e:=1) (by decide)
 unfold rO at hd;split at hd
 .rename_i h1;have h1':(b.rules.length:Int)<20:=by omega
  split at hd
  .rename_i h2;have h4:=aS.1 h2;have w1:IntKind.u8.wrap x9=x9:=TG (by omega);split at hd
   .cases hd;exact absurd rfl he
   .rename_i h3;cases hd;have h3':ba.cQ.ok ⟨⟨x0,x1,x2⟩,⟨x3,x4,x5⟩,x6,x7,x8,x9⟩=false:=by simpa using h3
    simp only[h3',ba.cQ.enc]at hL;simp[Bk.bC,Bk.cells,h1',eU,h2,da,w1,hL,hM,D.clean,rf]
  .rename_i h2;cases hd;have h2':bI x9 1 2=false:=by simpa using h2
   simp[Bk.bC,Bk.cells,h1',eU,h2',da,dU,D.clean,rf]
 .rename_i h1;cases hd;have h1':¬(b.rules.length:Int)<20:=by omega
  simp[Bk.bC,Bk.cells,h1',dU,D.clean,rf]
theorem j6{α:Type}{f:α->List D}{l:List α}:(nl f l).pO=lF l f:=by
 unfold nl;split
 .rename_i h;subst h;rfl
 .rfl
theorem afb{l:List bN}:(nl bN.enc l).clean=true:=by unfold nl;split<;>simp[D.clean,yq]
theorem CN{b:b9}{tq wq:D}(htq:tq.pO=lF b.dX Rw.enc)(hwq:wq.pO=lF b.ar bN.enc)(h1:b.dX.length<=1000000000)(h2:b.ar.length<=1000000000):
  Cl 202 [.agg [iI b.f.x,iI b.f.y,iI b.f.z,iI b.f.k,tq,iI b.cJ,iI b.lift,iI b.deep,wq]] (iI (if b.valid then 0 else 1)) J:=by
 refine an ?_;have hB:=λJ=>D9 (J:=J) (b:=b) h1 h2
 cases hv:b.valid<;>rw[hv]at hB<;>simp[htq,hwq,hB]
def D2(b:Bk)(x y z:Int):Bk:={b with aT:={b.aT with cJ:=x,lift:=y,deep:=z },ready:=true }
def yP(b:Bk)(x y z:Int):Bk×Int :=
 if((b.aT.f.x=0/\b.aT.f.y=0)/\b.aT.f.z=0/\b.aT.f.k=0)\/b.aT.dX=[]\/b.ready=true then(b,8)
 else if(D2 b x y z).aT.valid=true then(D2 b x y z,0)else(b,1)
theorem Lv{f:dK}:(f.x == 0 && (f.y == 0 && (f.z == 0 && f.k == 0)))=decide ((f.x=0/\f.y=0)/\f.z=0/\f.k=0):=by
 by_cases h1:f.x=0<;>by_cases h2:f.y=0<;>by_cases h3:f.z=0<;>by_cases h4:f.k=0<;>simp[h1,h2,h3,h4]
theorem eD{α:Type}{f:α->List D}{l:List α}(h:l≠[]):nl f l=lF l f:=if_neg h
theorem ael{F:List aw.aF}{b:Bk}{er:List Int}{nm:List UInt8}{x y z:Int}{b':Bk}{e:Int}(h1:b.aT.dX.length<=1000000000)(h2:b.aT.ar.length<=1000000000)(hd:yP b x y z=(b',e))(he:e=0):
  di T (.call false 162 [.ref J.length 6 0 0,.str nm,.bZ 3 [iI x,iI y,iI z]] (F::b.bC J.length er::J))=some (.val (.cS []) (F::b'.bC J.length er::J)):=by
 refine eZ rfl rfl rfl (by simp) ?_;unfold yP at hd;split at hd
 case isTrue=>cases hd;cases he
 rename_i h0;split at hd
 case isFalse=>cases hd;cases he
 rename_i h3;cases hd;have c1:(b.aT.f.x == 0 && (b.aT.f.y == 0 && (b.aT.f.z == 0 && b.aT.f.k == 0)))=false:=by rw[Lv];simpa using λhh=>h0 (.inl hh)
 have c2:b.aT.dX≠[]:=λhh=>h0 (.inr (.inl hh))
 have c3:b.ready=false:=by cases hr:b.ready with | false=>rfl | true=>exact absurd (.inr (.inr hr)) h0
 have c4:0<b.aT.dX.length:=aG.2 c2;have hcl:(D.bZ b.aT.dX.length (fM b.aT.dX Rw.enc)).clean=true:=by simp[D.clean,DJ]
 have hC:=λJ=>CN (J:=J) (b:=(D2 b x y z).aT) (tq:=nl Rw.enc b.aT.dX) (wq:=nl bN.enc b.aT.ar) j6 j6 h1 h2
 rw[h3]at hC;simp only[eD c2,D2]at hC;simp[Bk.bC,Bk.cells,c1,eD c2,c4,c3,da,mW,hC,D2,afb,hcl]
theorem Xl{F:List aw.aF}{b:Bk}{er:List Int}{nm:List UInt8}{x y z:Int}{b':Bk}{e:Int}(h1:b.aT.dX.length<=1000000000)(h2:b.aT.ar.length<=1000000000)(hd:yP b x y z=(b',e))(he:e≠0):
  di T (.call false 162 [.ref J.length 6 0 0,.str nm,.bZ 3 [iI x,iI y,iI z]] (F::b.bC J.length er::J))=some (.fy (rf e) (F::b.bC J.length er::J)):=by
 refine ej rfl rfl rfl ?_;have hM:=λJ=>oj (J:=J) (e:=1) (by decide)
 unfold yP at hd;split at hd
 .rename_i h0;cases hd;cases c1:(b.aT.f.x == 0 && (b.aT.f.y == 0 && (b.aT.f.z == 0 && b.aT.f.k == 0)))
  .by_cases c2:b.aT.dX=[]
   .simp[Bk.bC,Bk.cells,c1,c2,nl,dU,D.clean,rf]
   .have c4:0<b.aT.dX.length:=aG.2 c2;have c3:b.ready=true:=by
     rw[Lv]at c1;rcases h0 with h | h | h
     .exact absurd h (by simpa using c1)
     .exact absurd h c2
     .exact h
    simp[Bk.bC,Bk.cells,c1,eD c2,c4,c3,dU,D.clean,rf]
  .simp[Bk.bC,Bk.cells,c1,dU,D.clean,rf]
 .rename_i h0;split at hd
  .cases hd;exact absurd rfl he
  rename_i h3;cases hd;have c1:(b.aT.f.x == 0 && (b.aT.f.y == 0 && (b.aT.f.z == 0 && b.aT.f.k == 0)))=false:=by rw[Lv];simpa using λhh=>h0 (.inl hh)
  have c2:b.aT.dX≠[]:=λhh=>h0 (.inr (.inl hh))
  have c3:b.ready=false:=by cases hr:b.ready with | false=>rfl | true=>exact absurd (.inr (.inr hr)) h0
  have c4:0<b.aT.dX.length:=aG.2 c2;have hC:=λJ=>CN (J:=J) (b:=(D2 b x y z).aT) (tq:=nl Rw.enc b.aT.dX) (wq:=nl bN.enc b.aT.ar) j6 j6 h1 h2
  have h3':(D2 b x y z).aT.valid=false:=by simpa using h3
  rw[h3']at hC;simp only[eD c2,D2]at hC;simp[Bk.bC,Bk.cells,c1,eD c2,c4,c3,da,hM,hC,D.clean,rf]
theorem MR{bs:List aw.aF}:di T (.call true 203 [.bB] (bs::J))=some (.val (.sl J.length (bs.length+1) 0 0 0 3) ((bs++[.cells 0 [],.cells 0 []])::J)):=by
 refine mh rfl rfl rfl ?_;simp
theorem PF{bs:List aw.aF}{l:List bN}(hne:l≠[])(hl:l.length<=1000000):di T (.call true 203 [lF l bN.enc] (bs::J)) =
  some (.val (.sl J.length (bs.length+1) 1 0 l.length 3) ((bs++[.cells 0 [],.cells 1 (fM l bN.enc)])::J)):=by
 refine mh rfl rfl rfl ?_;have h7:l.length*24<=room:=by unfold room;omega
 simp[hne,yM,h7]
def mV(b:Bk)(x y z:Int):Bk:={b with aT:={b.aT with ar:=b.aT.ar++[⟨x,y,z⟩] } }
def ti(b:Bk)(x y z:Int):Bk×Int :=
 if b.ready=true/\b.ai=[]then(if(mV b x y z).aT.valid=true then(mV b x y z,0)else(b,1))else(b,8)
theorem aeI{F:List aw.aF}{b:Bk}{er:List Int}{nm:List UInt8}{x y z:Int}{b':Bk}{e:Int}(ht:b.aT.dX≠[])(h1:b.aT.dX.length<=1000000000)(h2:b.aT.ar.length<=1000000)(hd:ti b x y z=(b',e))(he:e=0):
  di T (.call false 163 [.ref J.length 6 0 0,.str nm,.bZ 3 [iI x,iI y,iI z]] (F::b.bC J.length er::J))=some (.val (.cS []) (F::b'.bC J.length er::J)):=by
 refine eZ rfl rfl rfl (by simp) ?_;unfold ti at hd;split at hd
 case isFalse=>cases hd;cases he
 rename_i h0;obtain⟨c1,c2⟩:=h0;split at hd
 case isFalse=>cases hd;cases he
 rename_i h3;cases hd;have hC:=λJ=>CN (J:=J) (b:=(mV b x y z).aT) (tq:=.bZ b.aT.dX.length (fM b.aT.dX Rw.enc)) (wq:=.bZ (b.aT.ar.length+1) (fM b.aT.ar bN.enc++[iI x,iI y,iI z])) rfl (by simp[mV,D.pO]) h1 (by simp[mV];omega)
 rw[h3]at hC;simp only[mV]at hC;have hcl:(D.bZ b.aT.dX.length (fM b.aT.dX Rw.enc)).clean=true:=by simp[D.clean,DJ]
 have hroom:(b.aT.ar.length+1)*24<=room:=by unfold room;omega
 have hlen:=yM b.aT.ar;have htake:(fM b.aT.ar bN.enc).take (b.aT.ar.length*3)=fM b.aT.ar bN.enc:=cZ;have hcw:D.bh (fM b.aT.ar bN.enc++[iI x,iI y,iI z])=true:=by
  have:=yq (b.aT.ar++[⟨x,y,z⟩]);simpa using this
 have hfr:∀(v:Nat) (S:SK),S.length=J.length+1+1->cK 0 16 (.sl (J.length+1+1) 1 v 0 (b.aT.ar.length+1) 3) ([.cells 0 [],.cells v (fM b.aT.ar bN.enc++[iI x,iI y,iI z])]::S) =
   (.bZ (b.aT.ar.length+1) (fM b.aT.ar bN.enc++[iI x,iI y,iI z]),[.cells 0 [],.dead]::S):=by
  intro v S hS;have:=o9 (f:=bN.enc) (w:=3) (λ_=>rfl) (λ_=>by simp[D.clean]) (l:=b.aT.ar++[⟨x,y,z⟩]) (j:=1) (v:=v) (bs:=[aw.aF.cells 0 [],.cells v (fM b.aT.ar bN.enc++[iI x,iI y,iI z])]) (J:=S) (by intro h;subst h;simp at hS) (by simp);rw[hS]at this;simpa using this
 have h24:24<=room:=by unfold room;omega
 have hcw2:(D.bZ (b.aT.ar.length+1) (fM b.aT.ar bN.enc++[iI x,iI y,iI z])).clean=true:=by simpa[D.clean]using hcw
 by_cases hw:b.aT.ar=[]
 .have hfr':=hfr;simp only[hw,bd,mZ,aV,cr]at hfr' hC;have ht':=eD (f:=Rw.enc) ht;simp only[nl]at ht';simp[Bk.bC,Bk.cells,c1,c2,ht',hC,hw,nl,da,mW,MR,mV,hcl,h24,hfr']
 .simp[Bk.bC,Bk.cells,c1,c2,eD ht,eD hw,da,mW,PF hw h2,mV,hcl,hroom,hlen,htake,hfr,hC,hcw2];simp[nl]
theorem XY{F:List aw.aF}{b:Bk}{er:List Int}{nm:List UInt8}{x y z:Int}{b':Bk}{e:Int}(ht:b.ready=true->b.aT.dX≠[])(h1:b.aT.dX.length<=1000000000)(h2:b.aT.ar.length<=1000000)(hd:ti b x y z=(b',e))(he:e≠0):
  di T (.call false 163 [.ref J.length 6 0 0,.str nm,.bZ 3 [iI x,iI y,iI z]] (F::b.bC J.length er::J))=some (.fy (rf e) (F::b.bC J.length er::J)):=by
 refine ej rfl rfl rfl ?_;have hM:=λJ=>oj (J:=J) (e:=1) (by decide)
 have hrc:(D.ua 200 (.agg [iI 1])).clean=true:=rfl;unfold ti at hd;split at hd
 case isFalse h0 =>
  cases hd;cases c1:b.ready with
  |false=>simp[Bk.bC,Bk.cells,c1,dU,D.clean,rf]
  |true =>
   have c2:b.ai≠[]:=λhh=>h0 ⟨c1,hh⟩
   have c2':((b.ai.length:Int) == 0)=false:=by simpa using c2
   simp[Bk.bC,Bk.cells,c1,c2',dU,D.clean,rf]
 rename_i h0;obtain⟨c1,c2⟩:=h0;have ht:=ht c1;split at hd
 case isTrue=>cases hd;exact absurd rfl he
 rename_i h3;cases hd;have h3':(mV b x y z).aT.valid=false:=by simpa using h3
 have hC:=λJ=>CN (J:=J) (b:=(mV b x y z).aT) (tq:=.bZ b.aT.dX.length (fM b.aT.dX Rw.enc)) (wq:=.bZ (b.aT.ar.length+1) (fM b.aT.ar bN.enc++[iI x,iI y,iI z])) rfl (by simp[mV,D.pO]) h1 (by simp[mV];omega)
 rw[h3']at hC;simp only[mV]at hC;have hcl:(D.bZ b.aT.dX.length (fM b.aT.dX Rw.enc)).clean=true:=by simp[D.clean,DJ]
 have hroom:(b.aT.ar.length+1)*24<=room:=by unfold room;omega
 have hlen:=yM b.aT.ar;have htake:(fM b.aT.ar bN.enc).take (b.aT.ar.length*3)=fM b.aT.ar bN.enc:=cZ;have hcw:D.bh (fM b.aT.ar bN.enc++[iI x,iI y,iI z])=true:=by
  have:=yq (b.aT.ar++[⟨x,y,z⟩]);simpa using this
 have hfr:∀(v:Nat) (S:SK),S.length=J.length+1+1->cK 0 16 (.sl (J.length+1+1) 1 v 0 (b.aT.ar.length+1) 3) ([.cells 0 [],.cells v (fM b.aT.ar bN.enc++[iI x,iI y,iI z])]::S) =
   (.bZ (b.aT.ar.length+1) (fM b.aT.ar bN.enc++[iI x,iI y,iI z]),[.cells 0 [],.dead]::S):=by
  intro v S hS;have:=o9 (f:=bN.enc) (w:=3) (λ_=>rfl) (λ_=>by simp[D.clean]) (l:=b.aT.ar++[⟨x,y,z⟩]) (j:=1) (v:=v) (bs:=[aw.aF.cells 0 [],.cells v (fM b.aT.ar bN.enc++[iI x,iI y,iI z])]) (J:=S) (by intro h;subst h;simp at hS) (by simp);rw[hS]at this;simpa using this
 have h24:24<=room:=by unfold room;omega
 have hcw2:(D.bZ (b.aT.ar.length+1) (fM b.aT.ar bN.enc++[iI x,iI y,iI z])).clean=true:=by simpa[D.clean]using hcw
 by_cases hw:b.aT.ar=[]
 .have hfr':=hfr;simp only[hw,bd,mZ,aV,cr]at hfr' hC;have ht':=eD (f:=Rw.enc) ht;simp only[nl]at ht';simp[Bk.bC,Bk.cells,c1,c2,ht',hC,hw,nl,da,hM,MR,hcl,h24,hfr',rf,hrc]
 .simp[Bk.bC,Bk.cells,c1,c2,eD ht,eD hw,da,hM,PF hw h2,hcl,hroom,hlen,htake,hfr,hC,rf,hrc]
theorem So{bp:D}(hb1:bp.calm=bp):∀(rs acc:List Rw),acc.length+rs.length<=1000000 ->
  WL T [0,2,6] false mz [(0,bp),(2,.bZ (rs.length*5) (fM rs Rw.enc)),(6,.sl J.length 0 acc.length 0 acc.length 5)] ([.cells acc.length (fM acc Rw.enc)]::J)
   (λx e J'=>x=.exit 0/\get e 0=bp/\get e 6=.sl J.length 0 (acc++rs).length 0 (acc++rs).length 5/\J'=[.cells (acc++rs).length (fM (acc++rs) Rw.enc)]::J)
 |[],acc,h=>by
  refine aK ?_;simp[hb1]
 |r::rs,acc,h=>by
  refine aK ?_;simp only[aB]at h;have⟨e1,q0,q1,q2,q3,q4⟩:(rs.length+1)*5=rs.length*5+5/\(0:Int)<(rs.length:Int)*5+5/\(1:Int)<(rs.length:Int)*5+5/\(2:Int)<(rs.length:Int)*5+5/\(3:Int)<(rs.length:Int)*5+5/\(4:Int)<(rs.length:Int)*5+5:=by omega
  have q5:(5:Int)<=(rs.length:Int)*5+5:=by omega
  have hroom:(acc.length+1)*40<=room:=by unfold room;omega
  have hl:=O8 acc;have ht:(fM acc Rw.enc).take (acc.length*5)=fM acc Rw.enc:=cZ;have hl2:=O8 rs;have ht2:(fM rs Rw.enc).take (rs.length*5)=fM rs Rw.enc:=cZ;simp[hb1,e1,q0,q1,q2,q3,q4,q5,hroom,hl,ht];refine WL.to (So hb1 rs (acc++[r]) (by simp;omega)) (by simp[ht2]) (by simp) λx e J' hh=>?_
  simpa using hh
def Jg(b:Bk)(t:List Rw):Bk:={b with aT:={b.aT with dX:=t } }
def lA(b:Bk)(t:List Rw):Bk×Int:=if b.aT.dX=[]then(if fP t=true then(Jg b t,0)else(b,1))else(b,8)
theorem abj{F:List aw.aF}{b:Bk}{er:List Int}{nm:List UInt8}{t:List Rw}{b':Bk}{e:Int}(hl:t.length<=1000000)(hd:lA b t=(b',e))(he:e=0):
  di T (.call false 161 [.ref J.length 6 0 0,.str nm,.bZ (t.length*5) (fM t Rw.enc)] (F::b.bC J.length er::J))=some (.val (.cS []) (F::b'.bC J.length er::J)):=by
 refine eZ rfl rfl rfl (by simp) ?_;unfold lA at hd;split at hd
 case isFalse=>cases hd;cases he
 rename_i h0;split at hd
 case isFalse=>cases hd;cases he
 rename_i h3;cases hd;have hne:t≠[]:=by intro h;subst h;simp[fP,bI]at h3
 have hC:=λJ=>CO (J:=J) (l:=t) (by omega)
 rw[h3]at hC;have hL:=So (J:=F::b.bC J.length er::J) (bp:=.ref J.length 6 0 0) rfl t [] (by simpa using hl);simp[Bk.bC,Bk.cells,h0,nl,da];refine WL.to hL (by simp) (by simp[Bk.bC,Bk.cells,h0,nl]) ?_;rintro x e J' ⟨rfl,g0,g6,rfl⟩;have hcl:(D.bZ t.length (fM t Rw.enc)).clean=true:=by simp[D.clean,DJ]
 have hfr:∀S:SK,S.length=J.length+1+1->cK 0 16 (.sl (J.length+1+1) 0 t.length 0 t.length 5) ([.cells t.length (fM t Rw.enc)]::S)=(.bZ t.length (fM t Rw.enc),[.dead]::S):=by
  intro S hS;have:=o9 (f:=Rw.enc) (w:=5) (λ_=>rfl) (λ_=>by simp[D.clean]) (l:=t) (j:=0) (v:=t.length) (bs:=[aw.aF.cells t.length (fM t Rw.enc)]) (J:=S) (by intro h;subst h;simp at hS) (by simp);rw[hS]at this;simpa using this
 simp[g0,g6,hfr,hC,mW,hcl,Bk.bC,Bk.cells,h0,nl,hne,Jg];exact⟨rfl,rfl⟩
theorem VK{F:List aw.aF}{b:Bk}{er:List Int}{nm:List UInt8}{t:List Rw}{b':Bk}{e:Int}(hl:t.length<=1000000)(hd:lA b t=(b',e))(he:e≠0):
  di T (.call false 161 [.ref J.length 6 0 0,.str nm,.bZ (t.length*5) (fM t Rw.enc)] (F::b.bC J.length er::J))=some (.fy (rf e) (F::b.bC J.length er::J)):=by
 refine ej rfl rfl rfl ?_;have hM:=λJ=>oj (J:=J) (e:=1) (by decide)
 have hrc:(D.ua 200 (.agg [iI 1])).clean=true:=rfl;unfold lA at hd;split at hd
 case isFalse h0 =>
  cases hd;have h0':((b.aT.dX.length:Int) == 0)=false:=by simpa using h0
  simp[Bk.bC,Bk.cells,eD h0,h0',dU,D.clean,rf]
 rename_i h0;split at hd
 case isTrue=>cases hd;exact absurd rfl he
 rename_i h3;cases hd;have h3':fP t=false:=by simpa using h3
 have hC:=λJ=>CO (J:=J) (l:=t) (by omega)
 rw[h3']at hC;have hL:=So (J:=F::b.bC J.length er::J) (bp:=.ref J.length 6 0 0) rfl t [] (by simpa using hl);simp[Bk.bC,Bk.cells,h0,nl,da];refine WL.to hL (by simp) (by simp[Bk.bC,Bk.cells,h0,nl]) ?_;rintro x e J' ⟨rfl,g0,g6,rfl⟩;have hcl:(D.bZ t.length (fM t Rw.enc)).clean=true:=by simp[D.clean,DJ]
 have hfr:∀S:SK,S.length=J.length+1+1->cK 0 16 (.sl (J.length+1+1) 0 t.length 0 t.length 5) ([.cells t.length (fM t Rw.enc)]::S)=(.bZ t.length (fM t Rw.enc),[.dead]::S):=by
  intro S hS;have:=o9 (f:=Rw.enc) (w:=5) (λ_=>rfl) (λ_=>by simp[D.clean]) (l:=t) (j:=0) (v:=t.length) (bs:=[aw.aF.cells t.length (fM t Rw.enc)]) (J:=S) (by intro h;subst h;simp at hS) (by simp);rw[hS]at this;simpa using this
 simp[g6,hfr,hC,hM,Bk.bC,Bk.cells,h0,nl,rf,hrc]
@[simp] theorem aks{α:Type}{f:α->List D}{l:List α}:Wf (nl f l)=some (iI l.length):=by
 unfold nl;split
 .rename_i h;subst h;rfl
 .rfl
@[simp] theorem ajN{α:Type}{f:α->List D}{l:List α}:(nl f l).strip=nl f l:=by unfold nl;split<;>rfl
@[simp] theorem aki{α:Type}{f:α->List D}{l:List α}:(nl f l).calm=nl f l:=by unfold nl;split<;>rfl
theorem Py{x:ba.Ev}(hs:x.sp.length<=9223372036854775807):Cl 76 [.bB,.bZ 1 x.enc,iI 0] (.cS [.int .u8 0,.int .u8 0,iI (if x.ok then 0 else 1)]) J:=by
 refine an ?_;have hA:=λJ=>@Xj J [x] (by simp) (by simpa using hs)
 try simp only[lF,Cl]at hA
 have hN:=λJ=>all_nil (T:=T) (J:=J) (fv:=.fn 115 [] []) (f:=114) (ag:=true) (w:=10) rfl rfl rfl rfl rfl rfl
 simp only[List.length_singleton,cT,mZ,dq,dz,jb,List.all_nil,Bool.and_true]at hA;have w0:ba.bI 0 0 1000000=true:=by decide
 cases hr:x.ok
 .rw[hr]at hA;simp only[lF,ba.Ev.enc]at hA ⊢;simp[hA,hN]
 .rw[hr]at hA;simp only[lF,ba.Ev.enc]at hA ⊢;simp[hA,hN,iq,w0];refine aK ?_;simp
def spD(L:Nat)(acc:List ba.pn):D:=.sl L 0 acc.length 0 acc.length 4
def spS(acc:List ba.pn):List aw.aF:=[.cells acc.length (fM acc ba.pn.enc)]
theorem Ph(l:List ba.pn):(fM l ba.pn.enc).length=l.length*4:=dF (f:=ba.pn.enc) (w:=4) l
theorem Ob{bp:D}(hb1:bp.calm=bp){tk:Int}:∀(rs acc:List ba.pn),acc.length+rs.length<=1000000 ->
  WL T [0,2,6] false mu [(0,bp),(2,.bZ (rs.length*4) (fM rs ba.pn.enc)),(6,.own 0 [iI tk,spD J.length acc])] (spS acc::J)
   (λx e J'=>x=.exit 0/\get e 0=bp/\get e 6=.own 0 [iI tk,spD J.length (acc++rs)]/\get e 1000006=.undef/\J'=spS (acc++rs)::J)
 |[],acc,h=>by
  refine aK ?_;simp[hb1]
 |r::rs,acc,h=>by
  refine aK ?_;simp only[aB]at h;have⟨e1,q0,q1,q2,q3,q4⟩:(rs.length+1)*4=rs.length*4+4/\(0:Int)<(rs.length:Int)*4+4/\(1:Int)<(rs.length:Int)*4+4/\(2:Int)<(rs.length:Int)*4+4/\(3:Int)<(rs.length:Int)*4+4/\(4:Int)<=(rs.length:Int)*4+4:=by omega
  have⟨hroom,h32⟩:(acc.length+1)*32<=room/\32<=room:=by unfold room;omega
  have hl:=Ph acc;have ht:(fM acc ba.pn.enc).take (acc.length*4)=fM acc ba.pn.enc:=cZ;have hl2:=Ph rs;have ht2:(fM rs ba.pn.enc).take (rs.length*4)=fM rs ba.pn.enc:=cZ;simp[hb1,e1,q0,q1,q2,q3,q4,hroom,hl,ht,spD,spS];refine WL.to (Ob hb1 (tk:=tk) rs (acc++[r]) (by simp;omega)) (by simp[ht2,spD]) (by simp[spS]) λx e J' hh=>?_
  simpa[spD,spS]using hh
def E2(b:Bk)(x:ba.Ev):Bk:={b with pr:=b.pr++[x] }
def oo(b:Bk)(sp:List ba.pn):Bk×Int:=if b.pr.length<200 then(if ba.Ev.ok ⟨b.av.length,sp⟩=true then(E2 b ⟨b.av.length,sp⟩,0)else(b,1))else(b,3)
theorem YQ(l:List ba.Ev):(fM l ba.Ev.enc).length=l.length*2:=dF (f:=ba.Ev.enc) (w:=2) l
theorem YZ{S:SK}{L:Nat}(hS:S.length=L)(hL:0<L){sp:List ba.pn}{tk:Int}:cK.frzL (cK 0 16) [iI tk,spD L sp] (spS sp::S)=([iI tk,lF sp ba.pn.enc],[.dead]::S):=by
 have hf:=o9 (f:=ba.pn.enc) (w:=4) (λ_=>rfl) (λ_=>by simp[D.clean]) (l:=sp) (j:=0) (v:=sp.length) (bs:=[aw.aF.cells sp.length (fM sp ba.pn.enc)]) (J:=S) (by intro h;subst h;simp at hS;omega) (by simp);rw[hS]at hf;simp[spD,spS,hf]
theorem aaY{F:List aw.aF}{b:Bk}{er:List Int}{nm:List UInt8}{sp:List ba.pn}{b':Bk}{e:Int}(hl:sp.length<=1000000)(hd:oo b sp=(b',e))(he:e=0):
  di T (.call false 168 [.ref J.length 6 0 0,.str nm,.bZ (sp.length*4) (fM sp ba.pn.enc)] (F::b.bC J.length er::J))=some (.val (.cS []) (F::b'.bC J.length er::J)):=by
 refine eZ rfl rfl rfl (by simp) ?_;unfold oo at hd;split at hd
 case isFalse=>cases hd;cases he
 rename_i h1;split at hd
 case isFalse=>cases hd;cases he
 rename_i h2;cases hd;have h1':(b.pr.length:Int)<200:=by omega
 have hC:=λJ=>Py (J:=J) (x:=⟨b.av.length,sp⟩) (by simp;omega)
 simp only[h2,if_true,ba.Ev.enc]at hC;have hL:=Ob (J:=F::b.bC J.length er::J) (bp:=.ref J.length 6 0 0) rfl (tk:=b.av.length) sp [] (by simpa using hl);have hne:sp≠[]:=by
  intro hh;subst hh;simp[ba.Ev.ok,ba.bI]at h2
 simp[Bk.bC,Bk.cells,h1',da];refine WL.to hL (by simp[spD]) (by simp[Bk.bC,Bk.cells,spS]) ?_;rintro x e J' ⟨rfl,g0,g6,gu,rfl⟩;have hf:=λS hS=>YZ (S:=S) (L:=J.length+1+1) hS (by omega) (sp:=sp) (tk:=b.av.length)
 have w2:(b.pr.length+1)*32<=room:=by unfold room;omega
 have w3:=YQ b.pr;have w4:(fM b.pr ba.Ev.enc).take (b.pr.length*2)=fM b.pr ba.Ev.enc:=cZ;have hcl:D.bh (fM sp ba.pn.enc)=true:=fD (λ_=>by simp[D.clean]) sp;simp only[aV]at g6;simp[g0,g6,gu,hf,hC,mW,Bk.bC,Bk.cells,E2,w2,w3,w4,hcl]
theorem VE{F:List aw.aF}{b:Bk}{er:List Int}{nm:List UInt8}{sp:List ba.pn}{b':Bk}{e:Int}(hl:sp.length<=1000000)(hd:oo b sp=(b',e))(he:e≠0):
  di T (.call false 168 [.ref J.length 6 0 0,.str nm,.bZ (sp.length*4) (fM sp ba.pn.enc)] (F::b.bC J.length er::J))=some (.fy (rf e) (F::b.bC J.length er::J)):=by
 refine ej rfl rfl rfl ?_;have hM:=λJ=>oj (J:=J) (e:=1) (by decide)
 have hrc:(D.ua 200 (.agg [iI 1])).clean=true:=rfl;unfold oo at hd;split at hd
 case isFalse h1 =>
  cases hd;have h1':¬(b.pr.length:Int)<200:=by omega
  simp[Bk.bC,Bk.cells,h1',dU,D.clean,rf]
 rename_i h1;split at hd
 case isTrue=>cases hd;exact absurd rfl he
 rename_i h2;cases hd;have h1':(b.pr.length:Int)<200:=by omega
 have h2':ba.Ev.ok ⟨b.av.length,sp⟩=false:=by simpa using h2
 have hC:=λJ=>Py (J:=J) (x:=⟨b.av.length,sp⟩) (by simp;omega)
 simp only[h2',ba.Ev.enc]at hC;have hL:=Ob (J:=F::b.bC J.length er::J) (bp:=.ref J.length 6 0 0) rfl (tk:=b.av.length) sp [] (by simpa using hl);simp[Bk.bC,Bk.cells,h1',da];refine WL.to hL (by simp[spD]) (by simp[Bk.bC,Bk.cells,spS]) ?_;rintro x e J' ⟨rfl,g0,g6,gu,rfl⟩;have hf:=λS hS=>YZ (S:=S) (L:=J.length+1+1) hS (by omega) (sp:=sp) (tk:=b.av.length)
 have hcl:D.bh (fM sp ba.pn.enc)=true:=fD (λ_=>by simp[D.clean]) sp;simp only[aV]at g6;simp[g0,g6,gu,hf,hC,hM,Bk.bC,Bk.cells,rf,hrc]
theorem Fe{a b c:Int}:Cl 309 [iI a,iI b,iI c] (.bool (bI a b c)) J:=by
 refine an ?_;by_cases h:b<=a<;>simp[h,bI]
theorem VL{p:Prt}{last:Int}:di T (.call false 311 [.agg p.enc,.ref J.length 0 0 0] ([]::[]::[]::[]::[.cells 0 [iI last]]::J))=some (.val (.bool (p.ok last)) ([]::[]::[]::[]::[.cells 0 [iI p.kr]]::J)):=by
 refine eZ rfl rfl rfl (by simp) ?_;cases h:bI p.kr 0 last<;>simp[Fe,h,Prt.ok]
theorem PT{u:oF}(hl:u.parts.length<=1000000000):Cl 258 [.agg u.enc] (.bool u.ok) J:=by
 refine an ?_;have hA:=Od (yR 2 Prt.enc (λ_=>rfl)) (T:=T) (S:=λi=>[.cells 0 [iI (kE u.parts i)]]::J) (fv:=.fn 311 [] [.ref J.length 0 0 0]) (l:=u.parts) (p:=Ct u.parts)
  (f:=310) (g:=349) (h:=348) (i:=367) rfl rfl rfl rfl (by omega) rfl rfl rfl (λ_=>rfl) (λi x hx=>by
   rw[oI];have h:=VL (J:=J) (p:=x) (last:=kE u.parts i);have e1:kE u.parts (i+1)=x.kr:=by simp[kE,hx]
   have e2:Ct u.parts i=x.ok (kE u.parts i):=by simp[Ct,hx]
   have h':di T (.call false 311 ([]++[(yR 2 Prt.enc (λ_=>rfl)).val x]++[.ref J.length 0 0 0]) ([]::[]::[]::[]::[.cells 0 [iI (kE u.parts i)]]::J))=_:=h;rw[h',e1,e2];rfl)
 have hb:(!(nO (λi => !Ct u.parts i) 0 u.parts.length).1)=Bt 1000 u.parts:=by
  have h1:=FF (q:=λi => !Ct u.parts i) (m:=u.parts.length) (i:=0);have h2:=Nc (l:=u.parts);cases hf:Bt 1000 u.parts
  .cases hs:(nO (λi => !Ct u.parts i) 0 u.parts.length).1
   .have h3:=h1.1 hs;have h4:=h2.2 λj hj=>by simpa using h3 j hj
    rw[hf]at h4;cases h4
   .rfl
  .have h3:=h2.1 hf;have h4:=h1.2 λj hj=>by simp[h3 j hj]
   rw[h4];rfl
 rw[hb]at hA;have e0:kE u.parts 0=1000:=rfl;have hA':di T (.call false 310 [lF u.parts Prt.enc,.fn 311 [] [.ref J.length 0 0 0]] ([.cells 0 [iI 1000]]::J))=_:=hA;cases h1:bI u.yf 0 5
 .simp[Fe,h1,oF.ok]
 cases h2:bI u.parts.length 1 8
 .simp[Fe,h1,h2,oF.ok]
 simp[Fe,h1,h2,oF.ok,hA']
theorem Jl{u:oF}(hl:u.parts.length<=1000000000):Cl 217 [.agg u.enc] (iI (if u.ok then 0 else 1)) J:=by
 refine an ?_;have hC:=λJ=>PT (J:=J) hl
 simp only[oF.enc]at hC ⊢;cases hc:u.ok<;>rw[hc]at hC<;>simp[hC]
def ptD(L:Nat)(acc:List Prt):D:=.sl L 0 acc.length 0 acc.length 2
def ptS(acc:List Prt):List aw.aF:=[.cells acc.length (fM acc Prt.enc)]
theorem H4(l:List Prt):(fM l Prt.enc).length=l.length*2:=dF (f:=Prt.enc) (w:=2) l
theorem N7{bp:D}(hb1:bp.calm=bp){tk:Int}:∀(rs acc:List Prt),acc.length+rs.length<=1000000 ->
  WL T [0,2,6] false m8 [(0,bp),(2,.bZ (rs.length*2) (fM rs Prt.enc)),(6,.own 0 [iI tk,ptD J.length acc])] (ptS acc::J)
   (λx e J'=>x=.exit 0/\get e 0=bp/\get e 6=.own 0 [iI tk,ptD J.length (acc++rs)]/\get e 1000006=.undef/\J'=ptS (acc++rs)::J)
 |[],acc,h=>by
  refine aK ?_;simp[hb1]
 |r::rs,acc,h=>by
  refine aK ?_;simp only[aB]at h;have⟨e1,q0,q1,q2⟩:(rs.length+1)*2=rs.length*2+2/\(0:Int)<(rs.length:Int)*2+2/\(1:Int)<(rs.length:Int)*2+2/\(2:Int)<=(rs.length:Int)*2+2:=by omega
  have⟨hroom,h32⟩:(acc.length+1)*16<=room/\16<=room:=by unfold room;omega
  have hl:=H4 acc;have ht:(fM acc Prt.enc).take (acc.length*2)=fM acc Prt.enc:=cZ;have hl2:=H4 rs;have ht2:(fM rs Prt.enc).take (rs.length*2)=fM rs Prt.enc:=cZ;simp[hb1,e1,q0,q1,q2,hroom,hl,ht,ptD,ptS];refine WL.to (N7 hb1 (tk:=tk) rs (acc++[r]) (by simp;omega)) (by simp[ht2,ptD]) (by simp[ptS]) λx e J' hh=>?_
  simpa[ptD,ptS]using hh
def JY(b:Bk)(u:oF):Bk:={b with cV:=b.cV++[u] }
def tf(b:Bk)(u:oF):Bk×Int:=if b.cV.length<10 then(if u.ok=true then(JY b u,0)else(b,1))else(b,3)
theorem Ku(l:List oF):(fM l oF.enc).length=l.length*2:=dF (f:=oF.enc) (w:=2) l
theorem YY{S:SK}{L:Nat}(hS:S.length=L)(hL:0<L){pt:List Prt}{tk:Int}:cK.frzL (cK 0 16) [iI tk,ptD L pt] (ptS pt::S)=([iI tk,lF pt Prt.enc],[.dead]::S):=by
 have hf:=o9 (f:=Prt.enc) (w:=2) (λ_=>rfl) (λ_=>by simp[D.clean]) (l:=pt) (j:=0) (v:=pt.length) (bs:=[aw.aF.cells pt.length (fM pt Prt.enc)]) (J:=S) (by intro h;subst h;simp at hS;omega) (by simp);rw[hS]at hf;simp[ptD,ptS,hf]
theorem afc{l:List Prt}:D.bh (fM l Prt.enc)=true:=fD (λ_=>by simp[D.clean]) l
theorem aeF{F:List aw.aF}{b:Bk}{er:List Int}{nm:List UInt8}{u:oF}{b':Bk}{e:Int}(hl:u.parts.length<=1000000)(hd:tf b u=(b',e))(he:e=0):
  di T (.call false 171 [.ref J.length 6 0 0,.str nm,.bZ (u.parts.length*2+1) (iI u.yf::fM u.parts Prt.enc)] (F::b.bC J.length er::J))=some (.val (.cS []) (F::b'.bC J.length er::J)):=by
 refine eZ rfl rfl rfl (by simp) ?_;unfold tf at hd;split at hd
 case isFalse=>cases hd;cases he
 rename_i h1;split at hd
 case isFalse=>cases hd;cases he
 rename_i h2;cases hd;have h1':(b.cV.length:Int)<10:=by omega
 have hC:=λJ=>Jl (J:=J) (u:=u) (by omega)
 simp only[h2,if_true,oF.enc]at hC;have hL:=N7 (J:=F::b.bC J.length er::J) (bp:=.ref J.length 6 0 0) rfl (tk:=u.yf) u.parts [] (by simpa using hl);have hne:u.parts≠[]:=by
  intro hh;simp[oF.ok,bI,hh]at h2
 have⟨q0,q1⟩:(0:Int)<(u.parts.length:Int)*2+1/\(1:Int)<=(u.parts.length:Int)*2+1:=by omega
 have hlp:=H4 u.parts;have htp:(fM u.parts Prt.enc).take (u.parts.length*2)=fM u.parts Prt.enc:=cZ;simp[Bk.bC,Bk.cells,h1',da,q0,q1];refine WL.to hL (by simp[ptD,htp]) (by simp[Bk.bC,Bk.cells,ptS]) ?_;rintro x e J' ⟨rfl,g0,g6,gu,rfl⟩;have hf:=λS hS=>YY (S:=S) (L:=J.length+1+1) hS (by omega) (pt:=u.parts) (tk:=u.yf)
 have w2:(b.cV.length+1)*32<=room:=by unfold room;omega
 have w3:=Ku b.cV;have w4:(fM b.cV oF.enc).take (b.cV.length*2)=fM b.cV oF.enc:=cZ;simp only[aV]at g6;simp[g0,g6,gu,hf,hC,mW,Bk.bC,Bk.cells,JY,w2,w3,w4,afc]
theorem XV{F:List aw.aF}{b:Bk}{er:List Int}{nm:List UInt8}{u:oF}{b':Bk}{e:Int}(hl:u.parts.length<=1000000)(hd:tf b u=(b',e))(he:e≠0):
  di T (.call false 171 [.ref J.length 6 0 0,.str nm,.bZ (u.parts.length*2+1) (iI u.yf::fM u.parts Prt.enc)] (F::b.bC J.length er::J))=some (.fy (rf e) (F::b.bC J.length er::J)):=by
 refine ej rfl rfl rfl ?_;have hM:=λJ=>oj (J:=J) (e:=1) (by decide)
 have hrc:(D.ua 200 (.agg [iI 1])).clean=true:=rfl;unfold tf at hd;split at hd
 case isFalse h1 =>
  cases hd;have h1':¬(b.cV.length:Int)<10:=by omega
  simp[Bk.bC,Bk.cells,h1',dU,D.clean,rf]
 rename_i h1;split at hd
 case isTrue=>cases hd;exact absurd rfl he
 rename_i h2;cases hd;have h1':(b.cV.length:Int)<10:=by omega
 have h2':u.ok=false:=by simpa using h2
 have hC:=λJ=>Jl (J:=J) (u:=u) (by omega)
 simp only[h2',oF.enc]at hC;have hL:=N7 (J:=F::b.bC J.length er::J) (bp:=.ref J.length 6 0 0) rfl (tk:=u.yf) u.parts [] (by simpa using hl);have⟨q0,q1⟩:(0:Int)<(u.parts.length:Int)*2+1/\(1:Int)<=(u.parts.length:Int)*2+1:=by omega
 have hlp:=H4 u.parts;have htp:(fM u.parts Prt.enc).take (u.parts.length*2)=fM u.parts Prt.enc:=cZ;simp[Bk.bC,Bk.cells,h1',da,q0,q1];refine WL.to hL (by simp[ptD,htp]) (by simp[Bk.bC,Bk.cells,ptS]) ?_;rintro x e J' ⟨rfl,g0,g6,gu,rfl⟩;have hf:=λS hS=>YY (S:=S) (L:=J.length+1+1) hS (by omega) (pt:=u.parts) (tk:=u.yf)
 simp only[aV]at g6;simp[g6,gu,hf,hC,hM,Bk.bC,Bk.cells,rf,hrc]
def Ma(b:b9)(m:ck):D:=if Bd b m then stE (cf b m)else .bB
theorem RK{b:b9}{m:ck}:(Ma b m).strip=Ma b m:=by unfold Ma;split<;>rfl
theorem TJ{b:b9}{m:ck}{tq wq:D}(htq:tq.pO=lF b.dX Rw.enc)(hwq:wq.pO=lF b.ar bN.enc)(h1:b.dX.length<=1000000000)(h2:b.ar.length<=1000000000)(hn:m.name.length<=1000000000)(hl:m.dG.length<=1000000000)(hJ:J≠[]):
  Cl 206 [.agg [iI b.f.x,iI b.f.y,iI b.f.z,iI b.f.k,tq,iI b.cJ,iI b.lift,iI b.deep,wq],.agg (mL m)] (.cS [Ma b m,iI (if Bd b m then 0 else 1)]) J:=by
 unfold Ma;cases hb:Bd b m
 .refine an ?_;obtain⟨d,hd,hd1,hd2⟩:=TK (J:=[]::J) h1 h2 hn hl hb;simp[htq,hwq,hd,hd1]
 .refine an ?_;have hd:=λJ=>ac9 (J:=J) h1 h2 hn hl hb
  have hf:=λJ hJ=>It (J:=J) (b:=b) (m:=m) (Fv.of hb) hJ
  have hcl:(stE (cf b m)).clean=true:=by simp[stE,fD (f:=aD.aF.enc) (λ_=>by simp[D.clean])]
  have hs1:(stE (cf b m)).strip=stE (cf b m):=rfl;have hs2:(stE (cf b m)).calm=stE (cf b m):=rfl;simp[htq,hwq,hd,hf,hs1,hs2,hcl]
theorem Xx{e:ep}{nm:List UInt8}:Cl 205 [.agg e.enc,.bq [.str nm]] (.bool (e.m.name == nm)) J:=by
 refine an ?_;simp[fO]
theorem yt(l:List ep):(fM l ep.enc).length=l.length*4:=dF (f:=ep.enc) (w:=4) l
theorem Iq(l:List Ea):(fM l Ea.enc).length=l.length*4:=dF (f:=Ea.enc) (w:=4) l
theorem MS{b:Bk}{er:List Int}{nm:List UInt8}{S:SK}(hl:b.ai.length<=1000000)(hs:eK S J.length=some (b.bC J.length er)):
  Cl 204 [.sl J.length 0 b.ai.length 0 b.ai.length 4,.fn 205 [] [.bq [.str nm]]] (.bool (lN b.ai λe=>e.m.name == nm)) S :=
 FT (enc:=ep.enc) (w:=4) (λ_=>rfl) (F:=b.bC J.length er) (bi:=0) (v:=b.ai.length) (l:=b.ai) (i:=33) rfl rfl (by simp[Bk.bC]) (by omega)
  ⟨rfl,rfl,λe _ J=>by rw[oI];have h:=Xx (J:=J) (e:=e) (nm:=nm);have h':di T (.call false 205 ([]++[.agg e.enc]++[.bq [.str nm]]) J)=_:=h;rw[h'];rfl⟩ hs
def zP(b:Bk)(m:ck):Bk:={b with ai:=b.ai++[⟨m,true,0⟩],eR:=b.eR++[⟨0,0,0,0⟩] }
def pq(b:Bk)(m:ck):Bk×Int :=
 if b.ready=true/\b.av=[]then
  (if(lN b.ai λe=>e.m.name == m.name)=true then(b,6)else if b.ai.length<40 then(if Bd b.aT m=true then(zP b m,0)else(b,1))else(b,3))
 else(b,8)
theorem Xy{F:List aw.aF}{b:Bk}{er:List Int}{m:ck}{b':Bk}{e:Int}(h1:b.aT.dX.length<=1000000000)(h2:b.aT.ar.length<=1000000000)(hn:m.name.length<=1000000000)(hl:m.dG.length<=1000000000)(hw:b.eR.length=b.ai.length)(hd:pq b m=(b',e))(he:e=0):
  di T (.call false 164 [.ref J.length 6 0 0,.str m.name,lF m.dG aQ] (F::b.bC J.length er::J))=some (.val (.cS []) (F::b'.bC J.length er::J)):=by
 refine eZ rfl rfl rfl (by simp) ?_;unfold pq at hd;split at hd
 case isFalse=>cases hd;cases he
 rename_i c0;obtain⟨c1,c2⟩:=c0;split at hd
 case isTrue=>cases hd;cases he
 rename_i c3;split at hd
 case isFalse=>cases hd;cases he
 rename_i c4;split at hd
 case isFalse=>cases hd;cases he
 rename_i c5;cases hd;have c3':(lN b.ai λe=>e.m.name == m.name)=false:=by simpa using c3
 have c4':(b.ai.length:Int)<40:=by omega
 have hH:=λS=>MS (J:=J) (b:=b) (er:=er) (nm:=m.name) (S:=S) (by omega)
 simp only[c3']at hH;have hS:=λS hJ=>TJ (J:=S) (b:=b.aT) (m:=m) (tq:=nl Rw.enc b.aT.dX) (wq:=nl bN.enc b.aT.ar) j6 j6 h1 h2 hn hl hJ
 simp only[c5]at hS;simp only[Bk.bC,Bk.cells]at hH;have w2:(b.ai.length+1)*56<=room:=by unfold room;omega
 have w3:=yt b.ai;have w4:(fM b.ai ep.enc).take (b.ai.length*4)=fM b.ai ep.enc:=cZ;have w5:(b.eR.length+1)*32<=room:=by unfold room;omega
 have w6:=Iq b.eR;have w7:(fM b.eR Ea.enc).take (b.eR.length*4)=fM b.eR Ea.enc:=cZ;simp[Bk.bC,Bk.cells,c1,c2,hH,c4',hS,RK,acA,da,mW,zP,w2,w3,w4,w5,w6,w7,lO]
theorem VB{F:List aw.aF}{b:Bk}{er:List Int}{m:ck}{b':Bk}{e:Int}(h1:b.aT.dX.length<=1000000000)(h2:b.aT.ar.length<=1000000000)(hn:m.name.length<=1000000000)(hl:m.dG.length<=1000000000)(hml:b.ai.length<=40)(hd:pq b m=(b',e))(he:e≠0):
  di T (.call false 164 [.ref J.length 6 0 0,.str m.name,lF m.dG aQ] (F::b.bC J.length er::J))=some (.fy (rf e) (F::b.bC J.length er::J)):=by
 refine ej rfl rfl rfl ?_;have hM:=λJ=>oj (J:=J) (e:=1) (by decide)
 have hrc:(D.ua 200 (.agg [iI 1])).clean=true:=rfl;unfold pq at hd;split at hd
 case isFalse c0 =>
  cases hd;cases c1:b.ready with
  |false=>simp[Bk.bC,Bk.cells,c1,dU,D.clean,rf]
  |true =>
   have c2:((b.av.length:Int) == 0)=false:=by simpa using λhh=>c0 ⟨c1,hh⟩
   simp[Bk.bC,Bk.cells,c1,c2,dU,D.clean,rf]
 rename_i c0;obtain⟨c1,c2⟩:=c0;have hH:=λS=>MS (J:=J) (b:=b) (er:=er) (nm:=m.name) (S:=S) (by omega)
 split at hd
 case isTrue c3 =>
  cases hd;simp only[c3]at hH;simp only[Bk.bC,Bk.cells]at hH;simp[Bk.bC,Bk.cells,c1,c2,hH,da,dU,D.clean,rf]
 rename_i c3;have c3':(lN b.ai λe=>e.m.name == m.name)=false:=by simpa using c3
 simp only[c3']at hH;split at hd
 case isFalse c4 =>
  cases hd;have c4':¬(b.ai.length:Int)<40:=by omega
  simp only[Bk.bC,Bk.cells]at hH;simp[Bk.bC,Bk.cells,c1,c2,hH,c4',da,dU,D.clean,rf]
 rename_i c4;have c4':(b.ai.length:Int)<40:=by omega
 split at hd
 case isTrue=>cases hd;exact absurd rfl he
 rename_i c5;cases hd;have c5':Bd b.aT m=false:=by simpa using c5
 have hS:=λS hJ=>TJ (J:=S) (b:=b.aT) (m:=m) (tq:=nl Rw.enc b.aT.dX) (wq:=nl bN.enc b.aT.ar) j6 j6 h1 h2 hn hl hJ
 simp only[c5']at hS;simp only[Bk.bC,Bk.cells]at hH;simp[Bk.bC,Bk.cells,c1,c2,hH,c4',hS,RK,da,hM,rf,hrc]
end Go.Proofs.YtpapbbojmclkgaaGreatDoor
namespace Go.cY
open Go Go.aw Go.aD
def isStr(lo hi:Int)(val:ck->Int)(e:ep):Bool:=e.left && !bI (val e.m) lo hi
def bD(at_ lo hi:Int)(val:ck->Int)(e:ep):ep:=if isStr lo hi val e then⟨e.m,false,at_⟩else e
def agM(at_ lo hi:Int)(val:ck->Int)(ms:List ep)(j:Nat)(w:Ea):Ea:=match ms[j]? with
 |some e=>if isStr lo hi val e then⟨at_,val e.m,lo,hi⟩else w
 |none=>w
def Bk.gq(b:Bk)(lo hi:Int)(val:ck->Int)(i:Nat):Bk :=
 {b with ai:=b.ai.mapIdx λj e=>if j<i then bD b.at_ lo hi val e else e,eR:=b.eR.mapIdx λj w=>if j<i then agM b.at_ lo hi val b.ai j w else w }
section
variable {b:Bk} {lo hi:Int} {val:ck->Int} {i:Nat}
@[simp] theorem aag:(b.gq lo hi val i).aT=b.aT:=aJ
@[simp] theorem WK:(b.gq lo hi val i).av=b.av:=aJ
@[simp] theorem Tu:(b.gq lo hi val i).rules=b.rules:=aJ
@[simp] theorem aah:(b.gq lo hi val i).pr=b.pr:=aJ
@[simp] theorem acY:(b.gq lo hi val i).k0=b.k0:=aJ
@[simp] theorem acZ:(b.gq lo hi val i).k1=b.k1:=aJ
@[simp] theorem ac0:(b.gq lo hi val i).k2=b.k2:=aJ
@[simp] theorem Tw:(b.gq lo hi val i).cV=b.cV:=aJ
@[simp] theorem Tv:(b.gq lo hi val i).dA=b.dA:=aJ
@[simp] theorem Tt:(b.gq lo hi val i).ready=b.ready:=aJ
@[simp] theorem acX:(b.gq lo hi val i).at_=b.at_:=aJ
end
theorem NU{b:Bk}{lo hi:Int}{val:ck->Int}:b.gq lo hi val 0=b:=by
 cases b;simp only[Bk.gq,Bk.mk.injEq,true_and,and_true];constructor<;>(apply eL;intro j;simp[jh])
theorem uk{b:Bk}{lo hi:Int}{val:ck->Int}{i:Nat}:(b.gq lo hi val i).ai.length=b.ai.length:=by simp[Bk.gq]
theorem we{b:Bk}{lo hi:Int}{val:ck->Int}{i:Nat}:(b.gq lo hi val i).eR.length=b.eR.length:=by simp[Bk.gq]
theorem Vg{b:Bk}{lo hi:Int}{val:ck->Int}{i:Nat}{e:ep}(h:b.ai[i]?=some e):(b.gq lo hi val i).ai[i]?=some e:=by simp[Bk.gq,h]
theorem NT{b:Bk}{lo hi:Int}{val:ck->Int}{i:Nat}{e:ep}(h:b.ai[i]?=some e)(hs:isStr lo hi val e=true)(hw:b.eR.length=b.ai.length):
  (b.gq lo hi val (i+1)).ai=(b.gq lo hi val i).ai.set i ⟨e.m,false,b.at_⟩/\(b.gq lo hi val (i+1)).eR=(b.gq lo hi val i).eR.set i ⟨b.at_,val e.m,lo,hi⟩:=by
 obtain⟨hi',he⟩:=aA.1 h;constructor
 .apply eL;intro j;simp only[Bk.gq,jh,List.getElem?_set];by_cases hj:i=j
  .subst hj;rw[h];simp[hi',bD,hs]
  .rw[if_neg hj];cases b.ai[j]? with
   |none=>rfl
   |some x=>simp only[aZ];congr 1;by_cases h1:j<i<;>simp[h1]<;>omega
 .apply eL;intro j;simp only[Bk.gq,jh,List.getElem?_set];by_cases hj:i=j
  .subst hj;have:i<b.eR.length:=by omega
   rw[aE this];simp[h,this,agM,hs]
  .rw[if_neg hj];cases b.eR[j]? with
   |none=>rfl
   |some x=>simp only[aZ];congr 1;by_cases h1:j<i<;>simp[h1]<;>omega
theorem FH{b:Bk}{lo hi:Int}{val:ck->Int}{i:Nat}{e:ep}(h:b.ai[i]?=some e)(hs:isStr lo hi val e=false):b.gq lo hi val (i+1)=b.gq lo hi val i:=by
 have h1:(b.gq lo hi val (i+1)).ai=(b.gq lo hi val i).ai:=by
  apply eL;intro j;simp only[Bk.gq,jh];by_cases hj:i=j
  .subst hj;simp[h,bD,hs]
  .cases b.ai[j]? with
   |none=>rfl
   |some x=>simp only[aZ];congr 1;by_cases h1:j<i<;>simp[h1]<;>omega
 have h2:(b.gq lo hi val (i+1)).eR=(b.gq lo hi val i).eR:=by
  apply eL;intro j;simp only[Bk.gq,jh];by_cases hj:i=j
  .subst hj;cases b.eR[i]? with
   |none=>rfl
   |some x=>simp[h,agM,hs]
  .cases b.eR[j]? with
   |none=>rfl
   |some x=>simp only[aZ];congr 1;by_cases h1:j<i<;>simp[h1]<;>omega
 simp only[Bk.gq]at h1 h2 ⊢;rw[h1,h2]
end Go.cY
namespace Go.Proofs.YtpapbbojmclkgaaGreatDoor
section
open Go Go.aw Go.aD Go.cY
variable {J:SK}
theorem Qq{α:Type}{f:α->List D}{w k:Nat}{v:D}(hw:∀x,(f x).length=w)(hk:k<w):∀{l:List α} {i:Nat} {x x':α},l[i]?=some x->(f x).set k v=f x'->(fM l f).set (i*w+k) v=fM (l.set i x') f
 |[],i,x,x',h,_=>by simp at h
 |a::l,0,x,x',h,hs=>by
  simp at h;subst h;simp only[cT,List.set_cons_zero,Nat.zero_mul,cr];rw[List.set_append_left _ _ (by rw[hw];exact hk),hs]
 |a::l,i+1,x,x',h,hs=>by
  have ih:=Qq hw hk (l:=l) (i:=i) (by simpa using h) hs;simp only[cT,List.set_cons_succ];have e:=hw a;rw[List.set_append_right _ _ (by rw[e,eM];omega),<- ih];congr 2;rw[e,eM];omega
theorem Hb{α:Type}{f:α->List D}{w k:Nat}{v:D}(hw:∀x,(f x).length=w)(hk:k<w){l:List α}{i:Nat}{x x':α}(h:l[i]?=some x)(hs:(f x).set k v=f x'):(fM l f).take (i*w+k)++v::(fM l f).drop (i*w+k+1)=fM (l.set i x') f:=by
 rw[<- Qq hw hk h hs,List.set_eq_take_append_cons_drop,if_pos];rw[nL hw];have h1:=(aA.1 h).1;have:(i+1)*w<=l.length*w:=dk _ h1;rw[eM]at this;omega
theorem Qb{A F:List aw.aF}{b:Bk}{er:List Int}{lo hi:Int}{val:ck->Int}{fv:D}(hf1:fv.strip=fv)(hf2:fv.calm=fv)(hw:b.eR.length=b.ai.length)(hl:b.ai.length<=40)
  (hv:∀i e,e∈b.ai->e.left=true->nG (di T) false fv [.agg (mL e.m)] ([]::A::F::(b.gq lo hi val i).bC J.length er::J)=some (iI (val e.m),[]::A::F::(b.gq lo hi val i).bC J.length er::J)):∀(m i:Nat),i+m=b.ai.length ->
  WL T [0,2,4,13,14,15] false kW [(0,.ref J.length 6 0 0),(2,fv),(4,.bq [iI lo,iI hi]),(13,.sl J.length 0 b.ai.length 0 b.ai.length 4),(14,iI b.ai.length),(15,iI i)] ([]::A::F::(b.gq lo hi val i).bC J.length er::J)
   (λx e J'=>x=.exit 0/\J'=[]::A::F::(b.gq lo hi val b.ai.length).bC J.length er::J)
 |0,i,h=>by
  refine aK ?_;have⟨h1,h2⟩:¬i<b.ai.length/\i=b.ai.length:=by omega
  simp[hf2,h2]
 |m+1,i,h=>by
  refine aK ?_;have h1:i<b.ai.length:=by omega
  obtain⟨e,he⟩:=gE h1;have hat:=Vg (lo:=lo) (hi:=hi) (val:=val) he;have hfl:=bx (f:=ep.enc) (w:=4) hat;have hml:=uk (b:=b) (lo:=lo) (hi:=hi) (val:=val) (i:=i);have hwl:=we (b:=b) (lo:=lo) (hi:=hi) (val:=val) (i:=i);have h4:=cj h1;have ih:=Qb hf1 hf2 hw hl hv m (i+1) (by omega);have hlen:=yt (b.gq lo hi val i).ai;rw[hml]at hlen;have q:4<=b.ai.length*4-i*4:=by omega
  cases hc1:e.left with
  |false =>
   have hst:isStr lo hi val e=false:=by simp[isStr,hc1]
   rw[FH he hst]at ih;simp[h1,hf2,Bk.bC,Bk.cells,hml,hwl,hfl,hlen,q,h4,hc1];exact WL.to ih (by simp) (by simp[Bk.bC,Bk.cells,hml,hwl]) λx e J' hh=>by simpa[Bk.bC,Bk.cells,uk,we]using hh
  |true =>
   have hcall:=hv i e (ah he) hc1;simp only[Bk.bC,Bk.cells,hml,hwl,aag,WK,Tu,aah,acY,acZ,ac0,Tw,Tv,Tt,acX]at hcall;cases hc2:bI (val e.m) lo hi with
   |true =>
    have hst:isStr lo hi val e=false:=by simp[isStr,hc2]
    rw[FH he hst]at ih;simp[h1,hf1,hf2,Bk.bC,Bk.cells,hml,hwl,hfl,hlen,q,h4,hc1,hcall,eU,hc2];exact WL.to ih (by simp) (by simp[Bk.bC,Bk.cells,hml,hwl]) λx e J' hh=>by simpa[Bk.bC,Bk.cells,uk,we]using hh
   |false =>
    have hst:isStr lo hi val e=true:=by simp[isStr,hc1,hc2]
    obtain⟨hn1,hn2⟩:=NT he hst hw;have⟨q2,q3⟩:i*4+2+1<=b.ai.length*4/\i*4+3+1<=b.ai.length*4:=by omega
    have p1:=Hb (f:=ep.enc) (w:=4) (k:=2) (v:=.bool false) (λ_=>rfl) (by omega) (x':=⟨e.m,false,e.Oi⟩) hat rfl;have hat2:((b.gq lo hi val i).ai.set i ⟨e.m,false,e.Oi⟩)[i]?=some ⟨e.m,false,e.Oi⟩:=by simp[hml,h1]
    have p2:=Hb (f:=ep.enc) (w:=4) (k:=3) (v:=iI b.at_) (λ_=>rfl) (by omega) (x':=⟨e.m,false,b.at_⟩) hat2 rfl;rw[List.set_set]at p2;have hl2:=yt ((b.gq lo hi val i).ai.set i ⟨e.m,false,e.Oi⟩);rw[List.length_set,hml]at hl2;have⟨h5,q5⟩:i<b.eR.length/\i*4+4<=b.eR.length*4:=by omega
    have hwe:=Iq (b.gq lo hi val i).eR;rw[hwl]at hwe;have p3:=Nq (f:=Ea.enc) (w:=4) (λ_=>rfl) (l:=(b.gq lo hi val i).eR) (i:=i) (x:=⟨b.at_,val e.m,lo,hi⟩) (by omega);simp only[Ea.enc,cF,aV]at p3;simp[h1,hf1,hf2,Bk.bC,Bk.cells,hml,hwl,hfl,hlen,q,h4,hc1,hcall,eU,hc2,q2,q3,p1,p2,hl2,h5,q5,hwe,p3];exact WL.to ih (by simp) (by simp[Bk.bC,Bk.cells,hwl,hn1,hn2,hml]) λx e J' hh=>by simpa[Bk.bC,Bk.cells,uk,we]using hh
def gM(b:Bk)(lo hi:Int)(val:ck->Int):Bk:=b.gq lo hi val b.ai.length
theorem PS{A F:List aw.aF}{b:Bk}{er:List Int}{lo hi:Int}{val:ck->Int}{fv:D}(hf1:fv.strip=fv)(hf2:fv.calm=fv)(hw:b.eR.length=b.ai.length)(hl:b.ai.length<=40)
  (hv:∀i e,e∈b.ai->e.left=true->nG (di T) false fv [.agg (mL e.m)] ([]::A::F::(b.gq lo hi val i).bC J.length er::J)=some (iI (val e.m),[]::A::F::(b.gq lo hi val i).bC J.length er::J)):
  di T (.call false 208 [.ref J.length 6 0 0,.agg [iI lo,iI hi],fv] (A::F::b.bC J.length er::J))=some (.val (.cS []) (A::F::(gM b lo hi val).bC J.length er::J)):=by
 refine eZ rfl rfl rfl (by simp) ?_;have h:=Qb (A:=A) (F:=F) (er:=er) hf1 hf2 hw hl hv b.ai.length 0 (by omega);rw[NU]at h;simp[Bk.bC,Bk.cells,hf2];refine WL.to h (by simp) (by simp[Bk.bC,Bk.cells]) ?_;rintro x e J' ⟨rfl,rfl⟩;simp[gM,Bk.bC,Bk.cells]
end
section
open Go Go.aw Go.aD
variable {J:SK}
theorem QB(l:List Nat):(fM l λ_=>[D.bZ 0 []])=List.replicate l.length (.bZ 0 []):=by
 induction l with
 |nil=>rfl
 |cons a l ih=>rw[cT,ih];rfl
