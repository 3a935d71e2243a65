import Derived.Test.YtpapbbojmclkgaaGreatDoorBase13
import Derived.Test.YtpapbbojmclkgaaGreatDoorBase20
import Derived.Test.YtpapbbojmclkgaaGreatDoorRows
set_option linter.all false
set_option maxRecDepth 100000
namespace Go.Proofs.YtpapbbojmclkgaaGreatDoor
open Go Go.Abs
theorem eF:True:=trivial
noncomputable def chk(p:Nat×tT×Abs.Fn):Option Abs.Fn:=(Tryz.prog.funcs[p.1]?).bind λF=>if F.name != "runtime.NumGoroutine" && (F.body.isSome && decide (p.1<1000000))then fnC Tryz.prog p.2.1 F else none
@[reducible] def sR(l:List Nat)(r:List Abs.Op)(c:Abs.bV):Abs.bV:=.seq (.sQ l r) c
@[reducible] def sE(l:List Nat)(r:List Abs.Op)(t:Nat)(m:List Nat)(s:List Abs.Op)(c:Abs.bV):Abs.bV:=.seq (.seq (.sQ l r) (.ite (.t t) (.seq (.sQ m s) .ret) .Kk)) c
@[reducible] def sI(l:List Nat)(r:List Abs.Op)(t:Nat)(a b c:Abs.bV):Abs.bV:=.seq (.seq (.sQ l r) (.ite (.t t) a b)) c
@[reducible] def sL(l:List Nat)(r:List Abs.Op)(n:Nat)(m:List Nat)(s:Bool)(a c:Abs.bV):Abs.bV:=.seq (.seq (.sQ l r) (.dK n (.loop m s a))) c
def Uu:Abs.bV->List (List Nat)
 |.sQ l _=>[l]
 |.RH l _ _ _=>[l]
 |.seq a b=>Uu a++Uu b
 |.ite _ a b=>Uu a++Uu b
 |.dK _ a=>Uu a
 |.loop _ _ a=>Uu a
 |.O1 _ _ _ a b=>Uu a++Uu b
 |.iC _ _ _ _ _ a b=>Uu a++Uu b
 |.VK _ _ a=>Uu a
 |.sgm a=>Uu a
 |_=>[]
def V4:Abs.bV->List (Nat×List Nat)
 |.seq a b=>V4 a++V4 b
 |.ite _ a b=>V4 a++V4 b
 |.dK n (.loop l _ a)=>(n,l)::V4 a
 |.dK _ a=>V4 a
 |.O1 _ _ _ a b=>V4 a++V4 b
 |.iC _ _ _ _ _ a b=>V4 a++V4 b
 |.VK _ _ a=>V4 a
 |.sgm a=>V4 a
 |_=>[]
def A4(q:List Nat)(i:Nat)(f:Abs.Fn)(a b c:List Nat)(d:List (Nat×List (Nat×Nat)))(e:List Nat)(g:List (Nat×List Nat))(h:List Nat)(j:List (Nat×Option (List Nat)))(k:List (Nat×Option Nat)):Nat×tT×Abs.Fn:=(i,⟨(if q=[]then List.range (Uu f.body).length else q).zip (Uu f.body),V4 f.body,a,b,c,d,e,g,h,j,k⟩,f)
def A3(q:List Nat)(i:Nat)(f:Abs.Fn)(a b c:List Nat)(d:List (Nat×List (Nat×Nat)))(e:List Nat):Nat×tT×Abs.Fn:=A4 q i f a b c d e [] [] [] []
def A2(q:List Nat)(i:Nat)(f:Abs.Fn)(a b:List Nat):Nat×tT×Abs.Fn:=A3 q i f a b [] [] []
def A1(q:List Nat)(i:Nat)(f:Abs.Fn):Nat×tT×Abs.Fn:=A3 q i f [] [] [] [] []
def A0(i:Nat)(f:Abs.Fn):Nat×tT×Abs.Fn:=A1 [] i f
attribute [simp] qA qC qE qF qJ qK qL qM qN qO qP qS qV qW qZ qa qb qc qe qf qg qi qj qk ql qm qn qo qp qs qt qu qv qw qx qy qz
def ba(n:Nat):Int:=n
def Ac(n:Nat):Int := -n
@[simp] theorem amj{n:Nat}:ba n=n:=rfl
@[simp] theorem amk{n:Nat}:Ac n = -n:=rfl
structure jt where
 x:Nat
 n:Nat
 l:List Nat
 o:List Abs.Op
 p:List (List Nat×List Abs.Op)
 c:List Abs.bV
 g:Option (Nat×Bool)
 q:List (Nat×Nat×Abs.bS)
 k:List Abs.bV
 r:List Abs.Op
def ai5{A:Type}(R a S U x:Nat)(k:Nat->Nat->A):A:=cond (Nat.blt (x%R) a) (k (x%R) (x / R)) (cond (Nat.blt (x%R) (R-1)) (k (a+(x%R-a)*S+x / R%S) (x / R / S)) (k (a+(R-1-a)*S+x / R%U) (x / R / U)))
def sd{A:Type}(x:Nat)(k:Nat->Nat->A):A:=ai5 13 10 47 4067 x k
def Zz{A:Type}(n:Nat)(k:Nat->A):A:=match n with
 |0=>k 0
 |m+1=>k (m+1)
def afQ{A:Type}:List Nat->(List Nat->A)->A
 |[],k=>k []
 |a::l,k=>Zz a λa=>afQ l λl=>k (a::l)
def adG(v:Nat):List Nat->List Nat
 |[]=>[v]
 |a::l=>cond (Nat.ble v a) (v::a::l) (a::adG v l)
def adH{A:Type}:Nat->Nat->List Nat->Nat->(List Nat->Nat->A)->A
 |0,_,l,x,k=>k l x
 |m+1,b,l,x,k=>sd x λd x=>Zz (b-d-1) λv=>adH m v (v::l) x k
def alP(g:Option (Nat×Bool))(o:Abs.Op):Abs.Op:=match g with
 |none=>o
 |some (t,b)=>qg t b o
def EU(s:jt)(o:Abs.Op)(x n:Nat):jt:={s with x:=x,n:=n,o:=alP s.g o::s.o,q:=[]}
def EV(f:jt->Nat->Nat->jt)(s:jt):jt:=sd s.x λv x=>f s v x
def acm(f:jt->Abs.bV->List Abs.bV->jt)(s:jt):jt:=match s.c with
 |a::c=>f s a c
 |[]=>s
def Zy(f:jt->Abs.bV->Abs.bV->List Abs.bV->jt)(s:jt):jt:=match s.c with
 |a::b::c=>f s a b c
 |_=>s
def ZA(f:jt->List Nat->List Abs.Op->jt)(s:jt):jt:=match s.p with
 |(m,r)::p=>f {s with p:=p} m r
 |[]=>s
def IX(q:List (Nat×Nat×Abs.bS)):List Abs.bS:=q.map λp=>p.2.2
def ZB(f:Nat->Nat->Abs.bS)(s:jt):jt:=sd s.x λv x=>{s with x:=x,q:=(0,0,f s.n v)::s.q}
def ZC(f:Nat->Nat->Abs.bS)(s:jt):jt:=sd s.x λa x=>sd x λb x=>sd x λv x=>{s with x:=x,q:=(a,b,f s.n v)::s.q}
def alQ(f:Nat->Abs.Op)(s:jt):jt:=EU s (f s.n) s.x s.n
def ai9(f:Nat->List (Nat×Nat×Abs.bS)->Abs.Op)(s:jt):jt:=EU s (f s.n s.q) s.x s.n
def LL(f:Nat->Nat->Abs.Op)(s:jt):jt:=sd s.x λa x=>EU s (f s.n a) x s.n
def J2(f:Nat->Nat->Nat->Abs.Op)(s:jt):jt:=sd s.x λa x=>sd x λb x=>EU s (f s.n a b) x s.n
def afR(f:Nat->Nat->Nat->Nat->Abs.Op)(s:jt):jt:=sd s.x λa x=>sd x λb x=>sd x λc x=>EU s (f s.n a b c) x s.n
def ZD(f:Nat->Nat->Nat->Nat->Nat->Abs.Op)(s:jt):jt:=sd s.x λa x=>sd x λb x=>sd x λc x=>sd x λd x=>EU s (f s.n a b c d) x s.n
def oe(f:Nat->Abs.Op)(s:jt):jt:=EU s (f s.n) s.x (s.n-1)
def UG(f:Nat->List (Nat×Nat×Abs.bS)->Abs.Op)(s:jt):jt:=EU s (f s.n s.q) s.x (s.n-1)
def j9(f:Nat->Nat->Abs.Op)(s:jt):jt:=sd s.x λa x=>EU s (f s.n a) x (s.n-1)
def GC(f:Nat->List (Nat×Nat×Abs.bS)->Nat->Abs.Op)(s:jt):jt:=sd s.x λa x=>EU s (f s.n s.q a) x (s.n-1)
def gH(f:Nat->Nat->Nat->Abs.Op)(s:jt):jt:=sd s.x λa x=>sd x λb x=>EU s (f s.n a b) x (s.n-1)
def ai8(f:Nat->List (Nat×Nat×Abs.bS)->Nat->Nat->Abs.Op)(s:jt):jt:=sd s.x λa x=>sd x λb x=>EU s (f s.n s.q a b) x (s.n-1)
def J1(f:Nat->Nat->Nat->Nat->Abs.Op)(s:jt):jt:=sd s.x λa x=>sd x λb x=>sd x λc x=>EU s (f s.n a b c) x (s.n-1)
def adI(f:Nat->List (Nat×Nat×Abs.bS)->Nat->Nat->Nat->Abs.Op)(s:jt):jt:=sd s.x λa x=>sd x λb x=>sd x λc x=>EU s (f s.n s.q a b c) x (s.n-1)
def Wf(f:Nat->Nat->Nat->Nat->Nat->Abs.Op)(s:jt):jt:=sd s.x λa x=>sd x λb x=>sd x λc x=>sd x λd x=>EU s (f s.n a b c d) x (s.n-1)
def ai4(i:Nat):D:=List.getD [.bool false,.str [109,111,100,101,108],.bool true,.bu,.str [116,105,99,107],.str [119,101,108,108],.int .i64 (Ac 100000),.str [108,111,103],.str [113,117,97,107,101],.str [107,101,101,112],.str [114,117,108,101],.str [98,101,100],.str [116,97,98,108,101],.str [102,105,101,108,100],.int .i64 (Ac 20000),.str [117,110,105,116],.str [114,101,97,100],.str [32],.str [],.str [115,101,108,108],.int .i64 (Ac 1000),.int .i64 (Ac 10000000000),.int .i64 (Ac 1),.str [0,1,255,254,97,0,128],.str [116,105,99,107,115,32,50,32,99,111,108,111,117,114,32,49,32,119,101,108,108,115,32,49,10,109,111,100,101,108,32,97,32,108,101,102,116,10,109,111,100,101,108,32,98,32,115,116,114,117,99,107,32,54,10,115,97,108,101,32,48,32,116,105,99,107,32,50,32,119,101,108,108,32,48,32,119,111,114,107,32,52,48,48,48,46,46,52,48,48,48,32,109,111,110,101,121,32,49,50,48,48,48,46,46,49,50,48,48,48,10],.str [98],.str [97],.str [115,116,114,117,99,107],.str [108,101,102,116],.str [115,97,108,101],.str [119,111,114,107],.str [109,111,110,101,121],.str [116,105,99,107,115],.str [99,111,108,111,117,114],.str [119,101,108,108,115],.str [102,105,101,108,100,32,50,32,49,32,49,32,52],.str [116,97,98,108,101,32,49,48,48,32,49,48,49,32,52,49,57,32,50,54,55,54,32,49,53,48,32,49,53,48,32,52,55,54,32,54,51,50,32,50,55,52,54,32,51,48,48,32,50,48,48,32,49,53,53,53,32,56,53,50,32,50,55,57,51,32,54,48,48],.str [98,101,100,32,49,48,48,48,32,48,32,56,48,48],.str [119,101,108,108,32,48,32,53,48,48,32,53],.str [109,111,100,101,108,32,97,32,56,48,48,48,32,56,48,48,48,32,53,48,48,32,52,48,48,32,57,48,48,32,52,48,48,32,48,32,49,48],.str [109,111,100,101,108,32,98,32,56,48,48,48,32,56,48,48,48,32,53,48,48,32,52,48,48,32,57,48,48,32,53,48,48,32,48,32,49,48],.str [108,111,103,32,116,49,32,50,32,51,57,48,32,52,49,48,32,49,32,49],.str [114,117,108,101,32,48,32,48,32,48,32,57,32,57,32,57,32,50,48,32,53,32,49,32,49],.str [113,117,97,107,101,32,49,32,49,32,49,32,50,53],.str [116,105,99,107,32,45,49,48,48],.str [116,105,99,107,32,53,48],.str [117,110,105,116,32,48,32,49,48,48,32,52,48,48],.str [115,101,108,108,32,48,32,48,32,48,32,51],.str [10],.str [46,46],.int .i64 (Ac 999999999)] i .undef
def GY(i:Nat):List D:=List.getD [[.int .i64 (ba 0),.int .i64 (ba 0),.int .i64 (ba 0)],[.int .i64 (ba 0),.int .i64 (ba 0),.int .i64 (ba 0),.int .i64 (ba 0)],[.int .i64 (ba 0),.int .i64 (ba 0)],[.int .i64 (ba 0)],[.int .i64 (ba 0),.bu],[.int .i64 (ba 0),.int .i64 (ba 0),.int .i64 (ba 0),.int .i64 (ba 0),.bu,.int .i64 (ba 0),.int .i64 (ba 0),.int .i64 (ba 0),.bu,.bu,.bu,.bu,.bu,.int .i64 (ba 0),.int .i64 (ba 0),.int .i64 (ba 0),.bu,.bu,.bool false,.bu],[.bool false,.int .i64 (ba 0),.int .i64 (ba 0),.ri],[.bu,.bu],[.int .i64 (ba 0),.int .i64 (ba 0),.int .i64 (ba 0),.int .i64 (ba 0),.int .i64 (ba 0)],[.str [],.bu],[.str [],.bu,.bool false,.int .i64 (ba 0)],[.int .i64 (ba 0),.int .i64 (ba 0),.int .i64 (ba 0),.int .i64 (ba 0),.int .i64 (ba 0),.int .i64 (ba 0),.int .i64 (ba 0),.int .i64 (ba 0),.int .i64 (ba 0),.int .u8 (ba 0)],[.bu],[.int .i64 (ba 0),.int .u8 (ba 0),.int .i64 (ba 0),.int .i64 (ba 0),.int .i64 (ba 0)],[.int .i64 (ba 0),.int .i64 (ba 0),.int .i64 (ba 0),.int .i64 (ba 0),.bu,.int .i64 (ba 0),.int .i64 (ba 0),.int .i64 (ba 0),.bu,.str [],.bu],[.int .i64 (ba 0),.int .i64 (ba 0),.int .i64 (ba 0),.int .i64 (ba 0),.int .i64 (ba 0),.int .i64 (ba 0)],[.int .i64 (ba 0),.int .i64 (ba 0),.int .i64 (ba 0),.int .i64 (ba 0),.int .i64 (ba 0),.int .i64 (ba 0),.int .i64 (ba 0),.int .i64 (ba 0),.int .i64 (ba 0),.int .i64 (ba 0)],[.str [],.int .i64 (ba 0),.bu,.bu,.int .i64 (ba 0),.int .i64 (ba 0)],[.int .i64 (ba 0),.int .i64 (ba 0),.int .i64 (ba 0),.int .i64 (ba 0),.bu,.int .i64 (ba 0),.int .i64 (ba 0),.int .i64 (ba 0),.bu],[.str []],[.int .i64 (ba 0),.int .i64 (ba 0),.int .i64 (ba 0),.int .i64 (ba 0),.bu,.int .i64 (ba 0),.int .i64 (ba 0),.int .i64 (ba 0),.bu,.bu,.bu,.bu,.bu,.int .i64 (ba 0),.int .i64 (ba 0),.int .i64 (ba 0),.bu,.bu],[.ri,.ri],[.ri,.ri,.ri,.ri,.ri],[.str [],.str [],.str [],.str []],[.str [],.str [],.str []],[.str [],.str [],.str [],.str [],.str [],.str [],.str [],.str [],.str [],.str []],[.str [],.str [],.str [],.str [],.str [],.str []],[.str [],.str [],.str [],.str [],.str [],.str [],.str [],.str [],.str [],.str [],.str [],.str [],.str []],[.int .i64 (ba 0),.int .i64 (ba 0),.int .i64 (ba 0),.int .i64 (ba 0),.bu,.int .i64 (ba 0),.int .i64 (ba 0),.int .i64 (ba 0),.bu,.bu,.bu,.bu,.bu,.int .i64 (ba 0),.int .i64 (ba 0),.int .i64 (ba 0),.bu,.bu,.bool false,.bu,.int .i64 (ba 0)],[.int .u8 (ba 0),.int .u8 (ba 0)],[.int .u8 (ba 0),.int .u8 (ba 0),.int .u8 (ba 0),.int .u8 (ba 0)],[.ri,.ri,.ri],[.bool false],[.int .i64 (ba 0),.int .i64 (ba 0),.int .i64 (ba 0),.int .i64 (ba 0),.int .i64 (ba 0),.bu,.bu],[.int .i64 (ba 0),.int .i64 (ba 0),.int .i64 (ba 0),.int .i64 (ba 0),.int .i64 (ba 0),.int .i64 (ba 0),.int .i64 (ba 0),.int .i64 (ba 0)],[.undef]] i []
def ai7:List (jt->jt):=[EV λs v x=>{s with x:=x,n:=v},
 acm λs a c=>{s with o:=[],c:=sR s.l s.o a::c},
 EV λs m x=>sd x λv x=>Zz v λv=>adH (m-1) v [v] x λl x=>{s with x:=x,l:=l},
 EV λs v x=>afQ (adG v s.l) λl=>{s with x:=x,l:=l},
 EV λs v x=>afQ (s.l.eraseIdx v) λl=>{s with x:=x,l:=l},
 j9 λn a=>ql n 1 (n-a),
 λs=>{s with c:=.ret::s.c},
 j9 λn a=>qL n 1 (n-a),
 λs=>{s with o:=[],p:=(s.l,s.o)::s.p},
 Zy λs a b c=>{s with c:=.seq a b::c},
 λs=>{s with o:=[],c:=.sQ s.l s.o::s.c},
 j9 λn a=>qM n a,
 oe λn=>qm n 0,
 ZC λn v => .t (n-v),
 ZB λn v => .t (n-v),
 λs=>{s with c:=.Kk::s.c},
 oe λn=>qi n (ba 0),
 j9 λn a=>qe n (n-a),
 J2 λn a b=>qm a (n-b),
 λs=>{s with g:=none},
 EV λs v x=>Zy (λs a b c=>{s with x:=x,c:=.ite (.t v) a b::c}) s,
 j9 λn a=>qm n a,
 EV λs v x=>acm (λs a c=>{s with x:=x,c:=.dK v a::c}) s,
 J1 λn a b c=>qJ n a (n-b) (n-c),
 oe λn=>qm n 5,
 EV λs v x=>{s with x:=x,g:=some (v,true)},
 j9 λn a=>qm n (n-a),
 j9 λn a=>qu n (n-a),
 EV λs v x=>{s with x:=x,c:=s.k.getD v .Kk::s.c},
 oe λn=>qm n 1,
 EV λs v x=>{s with x:=x,c:=.exit v::s.c},
 gH λn a b=>qk n .lss (n-a) (n-b),
 gH λn a b=>qp n (n-a) (n-b),
 EV λs v x=>{s with x:=x,g:=some (v,false)},
 j9 λn a=>qn n .add (n-a) (ba 1),
 oe λn=>qb n false,
 EV λs v x=>EU s (s.r.getD v default) x (s.n-1),
 ZB λ_ v => .t v,
 oe λn=>qM n 2,
 j9 λn a=>qf n 0 (n-a),
 EV λs v x=>ZA (λs m _=>Zy (λs a b c=>{s with x:=x,o:=[],c:=sL s.l s.o v m false a b::c}) s) s,
 EV λs v x=>Zy (λs a b c=>{s with x:=x,o:=[],c:=sI s.l s.o v a b (c.headD .Kk)::c.tail}) s,
 oe λn=>qx n 0,
 gH λn a b=>qP n (n-a) (n-b),
 j9 λn a=>qF n 0 (n-a),
 gH λn a b=>qF n a b,
 gH λn a b=>qc n a [(n-b)],
 gH λn a b=>qv n a 1 (n-b),
 gH λn a b=>qO n (.IL 1 (.t (n-a)) (.c (.int .i64 (ba b)))),
 EV λs v x=>ZA (λs m r=>acm (λs a c=>{s with x:=x,o:=[],c:=sE s.l s.o v m r a::c}) s) s,
 oe λn=>qm n 8,
 j9 λn a=>qf n 1 a,
 oe λn=>qm n 3,
 oe λn=>qm n 6,
 oe λn=>qm n 7,
 gH λn a b=>qV n a 1 (n-b),
 gH λn a b=>qF n a (n-b),
 oe λn=>qm n 4,
 gH λn a b=>qz n (n-a) b,
 oe λn=>qm n 9,
 gH λn a b=>qA n a (n-b),
 gH λn a b=>qf n a b,
 J2 λn a b=>qm (n-a) (n-b),
 ZB λ_ v => .c (ai4 v),
 GC λn q a=>qo n (.Ml (GY a) q),
 oe λn=>qm n 2,
 GC λn q a=>qo n (.call false (.c (.fn a [] [])) (IX q)),
 J1 λn a b c=>qj n a (n-b) (n-c),
 ZC λ_ v => .t v,
 ZD λn a b c d=>qs a b c (n-d),
 oe λn=>qM n 0,
 oe λn=>qm n 10,
 gH λn a b=>qf n a (n-b),
 J2 λ_ a b=>qi a (ba b),
 j9 λn a=>qf n a 1,
 oe λn=>qm n 11,
 J1 λn a b c=>qc n a [(n-b),(n-c)],
 J1 λn a b c=>qw n a b c,
 oe λn=>qM n 1,
 j9 λn a=>qf n a 3,
 j9 λn a=>qf n a 2,
 LL λ_ a=>qb a false,
 Wf λn a b c d=>qy n a b (n-c) (n-d),
 gH λn a b=>qj n 1 (n-a) (n-b),
 ZB λ_ v => .c (.int .i64 (ba v)),
 gH λn a b=>qa n a b,
 ZA λs _ a=>ZA (λs _ b=>{s with o:=[],c:=.RH s.l s.o (a.headD default) b::s.c}) s,
 gH λn a b=>qa n a (n-b),
 oe λn=>qx n 1,
 j9 λn a=>qo n (.nck (.t (n-a))),
 LL λn a=>qm 5 (n-a),
 LL λ_ a=>qi a (ba 0),
 ZC λ_ v => .c (.int .i64 (ba v)),
 J2 λ_ a b=>qo a (.CK [] (GY b)),
 j9 λn a=>qo n (.CK [] (GY a)),
 gH λn a b=>qn n .gtr (n-a) (ba b),
 j9 λn a=>qF n 0 a,
 GC λn q a=>qO n (.Ml (GY a) q),
 gH λn a b=>qA n a b,
 ZC λ_ v => .c (ai4 v),
 oe λn=>qf n 0 1,
 Wf λn a b c d=>qo n (.call false (.c (.fn a [] [])) [(.t (n-b)),(.c (.int .i64 (ba c))),(.c (.int .i64 (ba d)))]),
 UG λn q=>qo n (.IY (.seq false) (IX q)),
 J2 λ_ a b=>qs 4 a 4 b,
 j9 λn a=>qa n a 3,
 LL λ_ a=>qx a 0,
 gH λn a b=>qZ n (n-a) b,
 j9 λn a=>qF n 1 a,
 gH λn a b=>qk n .mul (n-a) (n-b),
 gH λn a b=>qo n (.call false (.t (n-a)) [(.t (n-b))]),
 adI λn q a b c=>qO n (.bsi a b (GY c) q),
 j9 λn a=>qa n a 2,
 gH λn a b=>qn n .eql (n-a) (ba b),
 j9 λn a=>qf n a 4,
 J2 λn a b=>qM a (n-b),
 oe λn=>qf n 1 1,
 ZD λ_ a b c d=>qs a b c d,
 oe λn=>qf n 0 3,
 oe λn=>qm n 12,
 J1 λn a b c=>qW n a b c,
 j9 λn a=>qO n (.nck (.t (n-a))),
 J1 λn a b c=>qC n a [(n-b),(n-c)],
 afR λ_ a b c=>qt a b c,
 EV λs v x=>EU s (s.r.getD v default) x s.n,
 oe λn=>qM n 11,
 oe λn=>qm n 14,
 j9 λn a=>qn n .neq (n-a) (ba 0),
 oe λn=>qm n 18,
 gH λn a b=>qk n .leq (n-a) (n-b),
 gH λn a b=>qK n .mul (n-a) (n-b),
 adI λn q a b c=>qo n (.bsi a b (GY c) q),
 GC λn q a=>qo n (.Zj a [] (IX q)),
 oe λn=>qo n (.mv (.c .bu)),
 j9 λn a=>qi n (ba a),
 gH λn a b=>qk n .add (n-a) (n-b),
 gH λn a b=>qC n a [(n-b)],
 gH λn a b=>qk n .neq (n-a) (n-b),
 oe λn=>qm n 17,
 Wf λn a b c d=>qc n a [(n-b),(n-c),(n-d)],
 LL λn a=>qs 6 20 6 (n-a),
 j9 λn a=>qc n a [5,6],
 gH λn a b=>⟨(some n),none,false,(.call false (.c (.fn 127 [] [])) [(.t (n-a)),(.c (.int .i64 (ba b)))])⟩,
 J2 λ_ a b=>qm a b,
 λs=>{s with c:=.cH s.l::s.c},
 oe λn=>qm n 16,
 j9 λn a=>qE n (n-a),
 gH λn a b=>qn n .geq (n-a) (ba b),
 oe λn=>qm n 13,
 oe λn=>qm n 15,
 afR λn a b c=>qs a 1 (n-b) (n-c),
 gH λn a b=>qk n .sub (n-a) (n-b),
 gH λn a b=>qw n a 20 b,
 gH λn a b=>qn n .lss (n-a) (ba b),
 j9 λn a=>qo n (.Ml (GY a) []),
 J2 λ_ a b=>qo a (.LG b),
 GC λn q a=>⟨(some n),none,false,(.call false (.c (.fn a [] [])) (IX q))⟩,
 oe λn=>qw n 3 20 3,
 j9 λn a=>qo n (.IY .Ry [(.t (n-a))]),
 j9 λn a=>qN n .sub (n-a) (ba 1),
 j9 λn a=>qO n (.Y7 false 1 (.t (n-a))),
 j9 λn a=>qo n (.LG a),
 J2 λ_ a b=>qO a (.CK [] (GY b)),
 oe λn=>qb n true,
 oe λn=>qo n (.mv (.c (.int .u8 (ba 0)))),
 GC λn q a=>qO n (.call false (.c (.fn a [] [])) (IX q)),
 ZC λ_ v => .c (.fn v [] []),
 gH λn a b=>qn n .leq (n-a) (ba b),
 ZD λn a b c d=>qS a b c (n-d),
 ai9 λ_ q=>⟨none,none,false,(.mp (.put none) (IX q))⟩,
 Wf λn a b c d=>qC n a [(n-b),(n-c),(n-d)],
 j9 λn a=>qn n .sub (n-a) (ba 1),
 UG λn q=>qo n (.IY .MD (IX q)),
 j9 λn a=>qo n (.bsi 1 1 [(.int .i64 (ba 0))] [(0,1,(.t (n-a)))]),
 gH λn a b=>qO n (.pick (.t (n-a)) (.c (.bool true)) (.t (n-b))),
 oe λn=>qi n (Ac 1),
 Wf λn a b c d=>qO n (.app a b (.t (n-c)) (.t (n-d))),
 j9 λn a=>qO n (.un .not (.t (n-a))),
 gH λn a b=>qk n .geq (n-a) (n-b),
 ZB λ_ v => .c (.fn v [] []),
 gH λn a b=>qo n (.bin .eql (.t (n-a)) (.c (.int .u8 (ba b)))),
 j9 λn a=>qo n (.un .neg (.t (n-a))),
 GC λn q a=>qo n (.call true (.c (.fn a [] [])) (IX q)),
 LL λ_ a=>qo a (.mv (.c .bu)),
 acm λs a c=>{s with c:=.loop s.l false a::c},
 gH λn a b=>qN n .add (n-a) (ba b),
 J1 λn a b c=>qo n (.IL a (.t (n-b)) (.c (.int .i64 (ba c)))),
 J1 λn a b c=>qo n (.call false (.c (.fn a [] [])) [(.t (n-b)),(.c (.int .i64 (ba c))),(.c (.int .i64 (ba 1000000)))]),
 gH λn a b=>qK n .sub (n-a) (n-b),
 gH λn a b=>qK n .quo (n-a) (n-b),
 ZD λ_ a b c d=>⟨none,none,false,(.Iq a [(0,b)] 1 c (.t d))⟩,
 J1 λn a b c=>qO n (.app a b (.c .bu) (.t (n-c))),
 gH λn a b=>qk n .gtr (n-a) (n-b),
 λs=>{s with l:=[]},
 oe λn=>qo n (.mv (.c (.str []))),
 gH λn a b=>qk n .eql (n-a) (n-b),
 J1 λn a b c=>qo n (.Mt a 1 (.t b) (.c (.int .i64 (ba c)))),
 gH λn a b=>qk n .quo a b,
 j9 λn a=>qc n a [],
 GC λn q a=>qO n (.call false (.t (n-a)) (IX q)),
 LL λ_ a=>qo a (.GM (.t 0)),
 gH λn a b=>qo n (.mn (.t (n-a)) (.t (n-b))),
 J1 λn a b c=>qo n (.slc a (.t (n-b)) (some (.c (.int .i64 (ba c)))) none none),
 j9 λn a=>qx n a,
 ZD λ_ a b c d=>⟨none,none,false,(.Iq a [(1,b)] 2 c (.t d))⟩,
 J2 λ_ a b=>⟨none,none,false,(.st [] 1 (.t a) (.c (.int .i64 (ba b))))⟩,
 J2 λ_ a b=>qo a (.VA [] (GY b)),
 gH λn a b=>qo n (.mx (.t (n-a)) (.t (n-b))),
 LL λ_ a=>⟨none,none,false,(.Zx (.t a))⟩,
 afR λ_ a b c=>⟨none,none,false,(.st [(0,a)] 1 (.t b) (.t c))⟩,
 j9 λn a=>qo n (.Mt 3 1 (.t 6) (.c (.int .u8 (ba a)))),
 j9 λn a=>qo n (.Y7 false 1 (.t a)),
 EV λs v x=>Zz v λv=>{s with x:=x,l:=v::s.l},
 LL λ_ a=>qo a (.mv (.c (.str []))),
 gH λn a b=>qn n .rem (n-a) (ba b),
 GC λn q a=>qo n (.Zj a (IX q) []),
 gH λn a b=>qo n (.bin .gtr (.t a) (.c (.int .u8 (ba b)))),
 gH λn a b=>qo n (.call false (.c (.fn a [] [])) [(.t b),(.c (.int .i64 (ba 0))),(.c (.int .i64 (ba 1000000000)))]),
 gH λn a b=>qo n (.call false (.c (.fn a [] [])) [(.t b),(.c (.int .i64 (Ac 100000))),(.c (.int .i64 (ba 100000)))]),
 j9 λn a=>qo n (.mx (.c (.int .i64 (ba 0))) (.t (n-a))),
 gH λn a b=>qO n (.mn (.t (n-a)) (.t (n-b))),
 j9 λn a=>qo n (.Yr 0 a [] []),
 oe λn=>qo n (.isn false false (.t 3)),
 gH λn a b=>qo n (.eqv true [(some .i64),(some .i64),(some .i64),(some .i64)] true (.t a) (.t b)),
 ai8 λn q a b=>qo n (.Yr a 1 (GY b) q),
 j9 λn a=>qO n (.YB .u8 (.t a)),
 Wf λn a b c d=>qo n (.mks 1 a (GY b) (.t c) (.t d)),
 j9 λn a=>qo n (.YB .u8 (.t a)),
 gH λn a b=>qo n (.bin .mul (.c (.int .i64 (ba a))) (.t b)),
 gH λn a b=>qo n (.bin .lss (.t a) (.c (.int .u8 (ba b)))),
 J1 λn a b c=>qo n (.call false (.c (.fn a [] [])) [(.t b),(.c (.int .i64 (ba c))),(.c (.int .i64 (ba 100000)))]),
 oe λn=>qo n (.mp .make []),
 gH λn a b=>qo n (.call false (.c (.fn a [] [])) [(.t b),(.c (.int .i64 (Ac 20000))),(.c (.int .i64 (ba 20000)))]),
 gH λn a b=>qo n (.eqv true [(some .i64),(some .i64),(some .i64),(some .i64)] false (.t a) (.t b)),
 LL λ_ a=>qo a (.mv (.c (.int .u8 (ba 0)))),
 j9 λn a=>qO n (.CK [] (GY a)),
 gH λn a b=>qO n (.Y7 true a (.t b)),
 j9 λn a=>qO n (.slc 1 (.t a) (some (.c (.int .i64 (ba 1)))) none none),
 j9 λn a=>qO n (.Ml (GY a) []),
 gH λn a b=>qo n (.Y7 true a (.t b)),
 j9 λn a=>qo n (.isi false (.t a)),
 j9 λn a=>qo n (.YB .i64 (.t a)),
 gH λn a b=>qo n (.Mt 3 1 (.t a) (.t b)),
 gH λn a b=>qO n (.IL a (.t b) (.c (.int .i64 (ba 0)))),
 gH λn a b=>qo n (.bin .leq (.t a) (.c (.int .u8 (ba b)))),
 oe λn=>qo n (.VA [] (GY 3)),
 oe λn=>qo n (.mv (.c .ri)),
 UG λn q=>qo n (.IY (.Pd true false) (IX q)),
 gH λn a b=>qo n (.call false (.c (.fn a [] [])) [(.t b),(.c (.int .i64 (ba 1))),(.c (.int .i64 (ba 10000)))]),
 alQ λ_=>⟨none,none,true,(.st [] 1 (.t 51) (.c (.bool false)))⟩,
 LL λ_ a=>⟨none,none,false,(.st [] 1 (.t a) (.c (.bool true)))⟩,
 GC λn q a=>qO n (.Zj a [] (IX q)),
 J2 λ_ a b=>qO a (.VA [] (GY b)),
 j9 λn a=>qo n (.call false (.c (.fn 130 [] [])) [(.t a),(.c (.int .i64 (Ac 10000000000))),(.c (.int .i64 (ba 10000000000)))]),
 EV λs v x=>ZA (λs m _=>Zy (λs a b c=>{s with x:=x,o:=[],c:=sL s.l s.o v m true a b::c}) s) s,
 j9 λn a=>qo n (.call false (.c (.fn a [] [])) [(.t 13),(.c (.int .i64 (ba 0))),(.c (.int .i64 (ba 1000000000000)))]),
 j9 λn a=>qo n (.call false (.c (.fn a [] [])) [(.t 8),(.c (.int .i64 (ba 0))),(.c (.int .i64 (ba 10000000000)))]),
 UG λn q=>qo n (.mp (.get none (.bool false) false) (IX q))]
def adF:Nat->jt->Abs.bV
 |0,s=>s.c.headD .Kk
 |k+1,⟨x,n,l,o,p,c,g,q,K,r⟩=>match x with
  |0=>c.headD .Kk
  |1=>c.headD .Kk
  |y+2=>Zz n λn=>ai5 41 21 7 103 (y+2) λa x=>adF k (ai7.getD a id ⟨x,n,l,o,p,c,g,q,K,r⟩)
def ai6:List Char->Nat->Nat
 |[],a=>a
 |c::r,a=>ai6 r (a*80+(c.toNat-40-(1-(46-c.toNat))-(1-(48-c.toNat))-(1-(93-c.toNat))))
inductive pkD (K:List Abs.bV) (r:List Abs.Op) (t:String) (c:Abs.bV):Prop
 |mk {x:List Char} (h:t=String.ofList x) (g:adF 100000 ⟨ai6 x 0,0,[],[],[],[],none,[],K,r⟩=c):pkD K r t c
def gD(K:List Abs.bV)(r:List Abs.Op)(t:String){c:Abs.bV}(_:pkD K r t c:=by exact .mk rfl (by conv=>lhs;reduce)):Abs.bV:=c
def gC(t:String){c:Abs.bV}(_:pkD [] [] t c:=by exact .mk rfl (by conv=>lhs;reduce)):Abs.bV:=c
@[simp,simp ↓] theorem gDe{K r t c g}:@gD K r t c g=c:=rfl
@[simp,simp ↓] theorem gCe{t c g}:@gC t c g=c:=rfl
@[simp] def zI:D:=.int .i64 0
def an7(x0:List (Nat×List Nat))(x1:List (Nat×List Nat))(x2:List Nat)(x3:List Nat)(x4:List Nat)(x5:List (Nat×List (Nat×Nat)))(x6:List Nat):tT:=⟨x0,x1,x2,x3,x4,x5,x6,[],[],[],[]⟩
end Go.Proofs.YtpapbbojmclkgaaGreatDoor
