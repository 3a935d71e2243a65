import Derived.Test.YtpapbbojmclkgaaGreatDoorBase13
import Derived.Test.YtpapbbojmclkgaaGreatDoorBase20
import Derived.Test.YtpapbbojmclkgaaGreatDoorRows
set_option linter.all false
set_option maxRecDepth 100000
namespace Go.Proofs.YtpapbbojmclkgaaGreatDoor
open Go Go.aw
noncomputable def chk(p:Nat×sS×aw.Fn):Option aw.Fn:=(Tryz.prog.funcs[p.1]?).bind λF=>if F.name != "runtime.NumGoroutine" && (F.body.isSome && decide (p.1<1000000))then fnC Tryz.prog p.2.1 F else none
@[reducible] def sR(l:List Nat)(r:List aw.Op)(c:aw.cb):aw.cb:=.seq (.rM l r) c
@[reducible] def sE(l:List Nat)(r:List aw.Op)(t:Nat)(m:List Nat)(s:List aw.Op)(c:aw.cb):aw.cb:=.seq (.seq (.rM l r) (.ite (.t t) (.seq (.rM m s) .ret) .Ko)) c
@[reducible] def sI(l:List Nat)(r:List aw.Op)(t:Nat)(a b c:aw.cb):aw.cb:=.seq (.seq (.rM l r) (.ite (.t t) a b)) c
@[reducible] def sL(l:List Nat)(r:List aw.Op)(n:Nat)(m:List Nat)(s:Bool)(a c:aw.cb):aw.cb:=.seq (.seq (.rM l r) (.dR n (.loop m s a))) c
def UK:aw.cb->List (List Nat)
 |.rM l _=>[l]
 |.RQ l _ _ _=>[l]
 |.seq a b=>UK a++UK b
 |.ite _ a b=>UK a++UK b
 |.dR _ a=>UK a
 |.loop _ _ a=>UK a
 |.ME _ _ _ a b=>UK a++UK b
 |.gX _ _ _ _ _ a b=>UK a++UK b
 |.VY _ _ a=>UK a
 |.sgm a=>UK a
 |_=>[]
def Wj:aw.cb->List (Nat×List Nat)
 |.seq a b=>Wj a++Wj b
 |.ite _ a b=>Wj a++Wj b
 |.dR n (.loop l _ a)=>(n,l)::Wj a
 |.dR _ a=>Wj a
 |.ME _ _ _ a b=>Wj a++Wj b
 |.gX _ _ _ _ _ a b=>Wj a++Wj b
 |.VY _ _ a=>Wj a
 |.sgm a=>Wj a
 |_=>[]
def A4(q:List Nat)(i:Nat)(f:aw.Fn)(a b c:List Nat)(d:List (Nat×List (Nat×Nat)))(e:List Nat)(g:List (Nat×List Nat))(h:List Nat)(j:List (Nat×Option (List Nat)))(k:List (Nat×Option Nat)):Nat×sS×aw.Fn:=(i,⟨(if q=[]then List.range (UK f.body).length else q).zip (UK f.body),Wj f.body,a,b,c,d,e,g,h,j,k⟩,f)
def A3(q:List Nat)(i:Nat)(f:aw.Fn)(a b c:List Nat)(d:List (Nat×List (Nat×Nat)))(e:List Nat):Nat×sS×aw.Fn:=A4 q i f a b c d e [] [] [] []
def A2(q:List Nat)(i:Nat)(f:aw.Fn)(a b:List Nat):Nat×sS×aw.Fn:=A3 q i f a b [] [] []
def A1(q:List Nat)(i:Nat)(f:aw.Fn):Nat×sS×aw.Fn:=A3 q i f [] [] [] [] []
def A0(i:Nat)(f:aw.Fn):Nat×sS×aw.Fn:=A1 [] i f
attribute [simp] qA qC qE qF qJ qK qL qM qN qO qP qS qV qW qZ qa qb qc qe qf qg qi qj qk ql qm qn qo qp qs qt qu qv qw qx qy qz
def aY(n:Nat):Int:=n
def Al(n:Nat):Int := -n
@[simp] theorem amj{n:Nat}:aY n=n:=rfl
@[simp] theorem amk{n:Nat}:Al n = -n:=rfl
structure iX where
 x:Nat
 n:Nat
 l:List Nat
 o:List aw.Op
 p:List (List Nat×List aw.Op)
 c:List aw.cb
 g:Option (Nat×Bool)
 q:List (Nat×Nat×aw.bU)
 k:List aw.cb
 r:List aw.Op
def ai0{A:Type}(R a S U x:Nat)(k:Nat->Nat->A):A:=cond (Nat.blt (x%R) a) (k (x%R) (x / R)) (cond (Nat.blt (x%R) (R-1)) (k (a+(x%R-a)*S+x / R%S) (x / R / S)) (k (a+(R-1-a)*S+x / R%U) (x / R / U)))
def qR{A:Type}(x:Nat)(k:Nat->Nat->A):A:=ai0 13 10 48 4065 x k
def ZH{A:Type}(n:Nat)(k:Nat->A):A:=match n with
 |0=>k 0
 |m+1=>k (m+1)
def afS{A:Type}:List Nat->(List Nat->A)->A
 |[],k=>k []
 |a::l,k=>ZH a λa=>afS l λl=>k (a::l)
def adL(v:Nat):List Nat->List Nat
 |[]=>[v]
 |a::l=>cond (Nat.ble v a) (v::a::l) (a::adL v l)
def adM{A:Type}:Nat->Nat->List Nat->Nat->(List Nat->Nat->A)->A
 |0,_,l,x,k=>k l x
 |m+1,b,l,x,k=>qR x λd x=>ZH (b-d-1) λv=>adM m v (v::l) x k
def alP(g:Option (Nat×Bool))(o:aw.Op):aw.Op:=match g with
 |none=>o
 |some (t,b)=>qg t b o
def EX(s:iX)(o:aw.Op)(x n:Nat):iX:={s with x:=x,n:=n,o:=alP s.g o::s.o,q:=[]}
def EZ(f:iX->Nat->Nat->iX)(s:iX):iX:=qR s.x λv x=>f s v x
def ZF(f:iX->aw.cb->List aw.cb->iX)(s:iX):iX:=match s.c with
 |a::c=>f s a c
 |[]=>s
def ZG(f:iX->aw.cb->aw.cb->List aw.cb->iX)(s:iX):iX:=match s.c with
 |a::b::c=>f s a b c
 |_=>s
def ZI(f:iX->List Nat->List aw.Op->iX)(s:iX):iX:=match s.p with
 |(m,r)::p=>f {s with p:=p} m r
 |[]=>s
def EY(q:List (Nat×Nat×aw.bU)):List aw.bU:=q.map λp=>p.2.2
def ZJ(f:Nat->Nat->aw.bU)(s:iX):iX:=qR s.x λv x=>{s with x:=x,q:=(0,0,f s.n v)::s.q}
def ZK(f:Nat->Nat->aw.bU)(s:iX):iX:=qR s.x λa x=>qR x λb x=>qR x λv x=>{s with x:=x,q:=(a,b,f s.n v)::s.q}
def alQ(f:Nat->aw.Op)(s:iX):iX:=EX s (f s.n) s.x s.n
def ai4(f:Nat->List (Nat×Nat×aw.bU)->aw.Op)(s:iX):iX:=EX s (f s.n s.q) s.x s.n
def J4(f:Nat->Nat->aw.Op)(s:iX):iX:=qR s.x λa x=>EX s (f s.n a) x s.n
def J5(f:Nat->Nat->Nat->aw.Op)(s:iX):iX:=qR s.x λa x=>qR x λb x=>EX s (f s.n a b) x s.n
def afT(f:Nat->Nat->Nat->Nat->aw.Op)(s:iX):iX:=qR s.x λa x=>qR x λb x=>qR x λc x=>EX s (f s.n a b c) x s.n
def ZL(f:Nat->Nat->Nat->Nat->Nat->aw.Op)(s:iX):iX:=qR s.x λa x=>qR x λb x=>qR x λc x=>qR x λd x=>EX s (f s.n a b c d) x s.n
def nC(f:Nat->aw.Op)(s:iX):iX:=EX s (f s.n) s.x (s.n-1)
def LP(f:Nat->List (Nat×Nat×aw.bU)->aw.Op)(s:iX):iX:=EX s (f s.n s.q) s.x (s.n-1)
def jU(f:Nat->Nat->aw.Op)(s:iX):iX:=qR s.x λa x=>EX s (f s.n a) x (s.n-1)
def E0(f:Nat->List (Nat×Nat×aw.bU)->Nat->aw.Op)(s:iX):iX:=qR s.x λa x=>EX s (f s.n s.q a) x (s.n-1)
def gK(f:Nat->Nat->Nat->aw.Op)(s:iX):iX:=qR s.x λa x=>qR x λb x=>EX s (f s.n a b) x (s.n-1)
def ai3(f:Nat->List (Nat×Nat×aw.bU)->Nat->Nat->aw.Op)(s:iX):iX:=qR s.x λa x=>qR x λb x=>EX s (f s.n s.q a b) x (s.n-1)
def I0(f:Nat->Nat->Nat->Nat->aw.Op)(s:iX):iX:=qR s.x λa x=>qR x λb x=>qR x λc x=>EX s (f s.n a b c) x (s.n-1)
def adN(f:Nat->List (Nat×Nat×aw.bU)->Nat->Nat->Nat->aw.Op)(s:iX):iX:=qR s.x λa x=>qR x λb x=>qR x λc x=>EX s (f s.n s.q a b c) x (s.n-1)
def Ws(f:Nat->Nat->Nat->Nat->Nat->aw.Op)(s:iX):iX:=qR s.x λa x=>qR x λb x=>qR x λc x=>qR x λd x=>EX s (f s.n a b c d) x (s.n-1)
def aiZ(i:Nat):D:=List.getD [.bool false,.str [109,111,100,101,108],.bool true,.bB,.str [116,105,99,107],.str [119,101,108,108],.int .i64 (Al 100000),.str [108,111,103],.str [113,117,97,107,101],.str [107,101,101,112],.str [114,117,108,101],.str [98,101,100],.str [116,97,98,108,101],.str [102,105,101,108,100],.int .i64 (Al 20000),.str [117,110,105,116],.str [114,101,97,100],.str [32],.str [],.str [115,101,108,108],.int .i64 (Al 1000),.int .i64 (Al 10000000000),.int .i64 (Al 1),.str [0,1,255,254,97,0,128],.str [116,105,99,107,115,32,50,32,99,111,108,111,117,114,32,49,32,119,101,108,108,115,32,49,10,109,111,100,101,108,32,97,32,108,101,102,116,10,109,111,100,101,108,32,98,32,115,116,114,117,99,107,32,54,10,115,97,108,101,32,48,32,116,105,99,107,32,50,32,119,101,108,108,32,48,32,119,111,114,107,32,52,48,48,48,46,46,52,48,48,48,32,109,111,110,101,121,32,49,50,48,48,48,46,46,49,50,48,48,48,10],.str [98],.str [97],.str [115,116,114,117,99,107],.str [108,101,102,116],.str [115,97,108,101],.str [119,111,114,107],.str [109,111,110,101,121],.str [116,105,99,107,115],.str [99,111,108,111,117,114],.str [119,101,108,108,115],.str [102,105,101,108,100,32,50,32,49,32,49,32,52],.str [116,97,98,108,101,32,49,48,48,32,49,48,49,32,52,49,57,32,50,54,55,54,32,49,53,48,32,49,53,48,32,52,55,54,32,54,51,50,32,50,55,52,54,32,51,48,48,32,50,48,48,32,49,53,53,53,32,56,53,50,32,50,55,57,51,32,54,48,48],.str [98,101,100,32,49,48,48,48,32,48,32,56,48,48],.str [119,101,108,108,32,48,32,53,48,48,32,53],.str [109,111,100,101,108,32,97,32,56,48,48,48,32,56,48,48,48,32,53,48,48,32,52,48,48,32,57,48,48,32,52,48,48,32,48,32,49,48],.str [109,111,100,101,108,32,98,32,56,48,48,48,32,56,48,48,48,32,53,48,48,32,52,48,48,32,57,48,48,32,53,48,48,32,48,32,49,48],.str [108,111,103,32,116,49,32,50,32,51,57,48,32,52,49,48,32,49,32,49],.str [114,117,108,101,32,48,32,48,32,48,32,57,32,57,32,57,32,50,48,32,53,32,49,32,49],.str [113,117,97,107,101,32,49,32,49,32,49,32,50,53],.str [116,105,99,107,32,45,49,48,48],.str [116,105,99,107,32,53,48],.str [117,110,105,116,32,48,32,49,48,48,32,52,48,48],.str [115,101,108,108,32,48,32,48,32,48,32,51],.str [10],.str [46,46],.int .i64 (Al 999999999)] i .undef
def GS(i:Nat):List D:=List.getD [[.int .i64 (aY 0),.int .i64 (aY 0),.int .i64 (aY 0)],[.int .i64 (aY 0),.int .i64 (aY 0),.int .i64 (aY 0),.int .i64 (aY 0)],[.int .i64 (aY 0),.int .i64 (aY 0)],[.int .i64 (aY 0)],[.int .i64 (aY 0),.int .i64 (aY 0),.int .i64 (aY 0),.int .i64 (aY 0),.bB,.int .i64 (aY 0),.int .i64 (aY 0),.int .i64 (aY 0),.bB,.bB,.bB,.bB,.bB,.int .i64 (aY 0),.int .i64 (aY 0),.int .i64 (aY 0),.bB,.bB,.bool false,.bB],[.bool false,.int .i64 (aY 0),.int .i64 (aY 0),.pc],[.int .i64 (aY 0),.bB],[.bB,.bB],[.bB],[.str [],.bB],[.str [],.bB,.bool false,.int .i64 (aY 0)],[.int .i64 (aY 0),.int .i64 (aY 0),.int .i64 (aY 0),.int .i64 (aY 0),.int .i64 (aY 0)],[.int .i64 (aY 0),.int .u8 (aY 0),.int .i64 (aY 0),.int .i64 (aY 0),.int .i64 (aY 0)],[.int .i64 (aY 0),.int .i64 (aY 0),.int .i64 (aY 0),.int .i64 (aY 0),.bB,.int .i64 (aY 0),.int .i64 (aY 0),.int .i64 (aY 0),.bB,.str [],.bB],[.int .i64 (aY 0),.int .i64 (aY 0),.int .i64 (aY 0),.int .i64 (aY 0),.int .i64 (aY 0),.int .i64 (aY 0),.int .i64 (aY 0),.int .i64 (aY 0),.int .i64 (aY 0),.int .u8 (aY 0)],[.int .i64 (aY 0),.int .i64 (aY 0),.int .i64 (aY 0),.int .i64 (aY 0),.int .i64 (aY 0),.int .i64 (aY 0),.int .i64 (aY 0),.int .i64 (aY 0),.int .i64 (aY 0),.int .i64 (aY 0)],[.str []],[.str [],.int .i64 (aY 0),.bB,.bB,.int .i64 (aY 0),.int .i64 (aY 0)],[.int .i64 (aY 0),.int .i64 (aY 0),.int .i64 (aY 0),.int .i64 (aY 0),.int .i64 (aY 0),.int .i64 (aY 0)],[.int .i64 (aY 0),.int .i64 (aY 0),.int .i64 (aY 0),.int .i64 (aY 0),.bB,.int .i64 (aY 0),.int .i64 (aY 0),.int .i64 (aY 0),.bB],[.int .u8 (aY 0),.int .u8 (aY 0)],[.int .u8 (aY 0),.int .u8 (aY 0),.int .u8 (aY 0),.int .u8 (aY 0)],[.pc,.pc],[.pc,.pc,.pc,.pc,.pc],[.str [],.str [],.str [],.str []],[.str [],.str [],.str []],[.str [],.str [],.str [],.str [],.str [],.str [],.str [],.str [],.str [],.str []],[.str [],.str [],.str [],.str [],.str [],.str []],[.str [],.str [],.str [],.str [],.str [],.str [],.str [],.str [],.str [],.str [],.str [],.str [],.str []],[.int .i64 (aY 0),.int .i64 (aY 0),.int .i64 (aY 0),.int .i64 (aY 0),.bB,.int .i64 (aY 0),.int .i64 (aY 0),.int .i64 (aY 0),.bB,.bB,.bB,.bB,.bB,.int .i64 (aY 0),.int .i64 (aY 0),.int .i64 (aY 0),.bB,.bB,.bool false,.bB,.int .i64 (aY 0)],[.int .i64 (aY 0),.int .i64 (aY 0),.int .i64 (aY 0),.int .i64 (aY 0),.bB,.int .i64 (aY 0),.int .i64 (aY 0),.int .i64 (aY 0),.bB,.bB,.bB,.bB,.bB,.int .i64 (aY 0),.int .i64 (aY 0),.int .i64 (aY 0),.bB,.bB],[.pc,.pc,.pc],[.bool false],[.int .i64 (aY 0),.int .i64 (aY 0),.int .i64 (aY 0),.int .i64 (aY 0),.int .i64 (aY 0),.bB,.bB],[.int .i64 (aY 0),.int .i64 (aY 0),.int .i64 (aY 0),.int .i64 (aY 0),.int .i64 (aY 0),.int .i64 (aY 0),.int .i64 (aY 0),.int .i64 (aY 0)],[.undef]] i []
def ai2:List (iX->iX):=[EZ λs v x=>{s with x:=x,n:=v},
 ZF λs a c=>{s with o:=[],c:=sR s.l s.o a::c},
 EZ λs m x=>qR x λv x=>ZH v λv=>adM (m-1) v [v] x λl x=>{s with x:=x,l:=l},
 EZ λs v x=>afS (adL v s.l) λl=>{s with x:=x,l:=l},
 EZ λs v x=>afS (s.l.eraseIdx v) λl=>{s with x:=x,l:=l},
 jU λn a=>ql n 1 (n-a),
 λs=>{s with c:=.ret::s.c},
 ZJ λn v => .t (n-v),
 ZG λs a b c=>{s with c:=.seq a b::c},
 λs=>{s with o:=[],p:=(s.l,s.o)::s.p},
 jU λn a=>qL n 1 (n-a),
 λs=>{s with o:=[],c:=.rM s.l s.o::s.c},
 nC λn=>qm n 0,
 λs=>{s with c:=.Ko::s.c},
 ZK λn v => .t (n-v),
 nC λn=>qi n (aY 0),
 jU λn a=>qM n a,
 λs=>{s with g:=none},
 jU λn a=>qe n (n-a),
 EZ λs v x=>ZG (λs a b c=>{s with x:=x,c:=.ite (.t v) a b::c}) s,
 J5 λn a b=>qm a (n-b),
 jU λn a=>qm n a,
 nC λn=>qm n 5,
 EZ λs v x=>ZF (λs a c=>{s with x:=x,c:=.dR v a::c}) s,
 EZ λs v x=>{s with x:=x,g:=some (v,true)},
 jU λn a=>qu n (n-a),
 nC λn=>qm n 1,
 ZJ λ_ v => .t v,
 jU λn a=>qm n (n-a),
 gK λn a b=>qp n (n-a) (n-b),
 EZ λs v x=>{s with x:=x,c:=s.k.getD v .Ko::s.c},
 EZ λs v x=>{s with x:=x,c:=.exit v::s.c},
 jU λn a=>qf n 1 a,
 nC λn=>qM n 2,
 gK λn a b=>qk n .lss (n-a) (n-b),
 nC λn=>qb n false,
 jU λn a=>qn n .add (n-a) (aY 1),
 EZ λs v x=>{s with x:=x,g:=some (v,false)},
 jU λn a=>qf n 0 (n-a),
 gK λn a b=>qF n a b,
 EZ λs v x=>EX s (s.r.getD v default) x (s.n-1),
 I0 λn a b c=>qJ n a (n-b) (n-c),
 gK λn a b=>qf n a b,
 gK λn a b=>qa n a b,
 gK λn a b=>qc n a [(n-b)],
 nC λn=>qx n 0,
 EZ λs v x=>ZG (λs a b c=>{s with x:=x,o:=[],c:=sI s.l s.o v a b (c.headD .Ko)::c.tail}) s,
 EZ λs v x=>ZI (λs m _=>ZG (λs a b c=>{s with x:=x,o:=[],c:=sL s.l s.o v m false a b::c}) s) s,
 gK λn a b=>qP n (n-a) (n-b),
 gK λn a b=>qv n a 1 (n-b),
 gK λn a b=>qO n (.IQ 1 (.t (n-a)) (.c (.int .i64 (aY b)))),
 nC λn=>qm n 3,
 nC λn=>qm n 8,
 EZ λs v x=>ZI (λs m r=>ZF (λs a c=>{s with x:=x,o:=[],c:=sE s.l s.o v m r a::c}) s) s,
 jU λn a=>qF n 0 (n-a),
 nC λn=>qm n 7,
 gK λn a b=>qz n (n-a) b,
 nC λn=>qm n 6,
 gK λn a b=>qV n a 1 (n-b),
 nC λn=>qm n 4,
 nC λn=>qm n 9,
 ZJ λ_ v => .c (aiZ v),
 J5 λn a b=>qm (n-a) (n-b),
 ZL λn a b c d=>qs a b c (n-d),
 jU λn a=>qf n a 3,
 E0 λn q a=>qo n (.call false (.c (.fn a [] [])) (EY q)),
 nC λn=>qm n 2,
 E0 λn q a=>qo n (.Mp (GS a) q),
 J5 λ_ a b=>qi a (aY b),
 I0 λn a b c=>qj n a (n-b) (n-c),
 gK λn a b=>qf n a (n-b),
 nC λn=>qm n 10,
 gK λn a b=>qA n a (n-b),
 nC λn=>qm n 11,
 jU λn a=>qf n a 1,
 I0 λn a b c=>qc n a [(n-b),(n-c)],
 J4 λn a=>qm 5 (n-a),
 I0 λn a b c=>qw n a b c,
 ZJ λ_ v => .c (.int .i64 (aY v)),
 ZI λs _ a=>ZI (λs _ b=>{s with o:=[],c:=.RQ s.l s.o (a.headD default) b::s.c}) s,
 gK λn a b=>qj n 1 (n-a) (n-b),
 gK λn a b=>qF n a (n-b),
 nC λn=>qM n 1,
 gK λn a b=>qn n .gtr (n-a) (aY b),
 ZK λ_ v => .c (.int .i64 (aY v)),
 jU λn a=>qo n (.nck (.t (n-a))),
 nC λn=>qx n 1,
 Ws λn a b c d=>qy n a b (n-c) (n-d),
 J4 λ_ a=>qi a (aY 0),
 nC λn=>qM n 0,
 ZK λ_ v => .t v,
 J5 λ_ a b=>qo a (.CV [] (GS b)),
 jU λn a=>qF n 0 a,
 gK λn a b=>qA n a b,
 gK λn a b=>qZ n (n-a) b,
 LP λn q=>qo n (.Is (.seq false) (EY q)),
 ZK λ_ v => .c (aiZ v),
 Ws λn a b c d=>qo n (.call false (.c (.fn a [] [])) [(.t (n-b)),(.c (.int .i64 (aY c))),(.c (.int .i64 (aY d)))]),
 J4 λn a=>qm 4 (n-a),
 J5 λ_ a b=>qs 4 a 4 b,
 E0 λn q a=>qo n (.call false (.t (n-a)) (EY q)),
 gK λn a b=>qn n .eql (n-a) (aY b),
 J4 λ_ a=>qx a 0,
 gK λn a b=>qk n .mul (n-a) (n-b),
 J5 λn a b=>qM a (n-b),
 jU λn a=>qo n (.CV [] (GS a)),
 J4 λ_ a=>qb a false,
 jU λn a=>qa n a 3,
 jU λn a=>qf n a 4,
 nC λn=>qf n 0 1,
 E0 λn q a=>qO n (.call false (.c (.fn a [] [])) (EY q)),
 E0 λn q a=>qO n (.Mp (GS a) q),
 nC λn=>qm n 12,
 jU λn a=>qa n 4 (n-a),
 afT λ_ a b c=>qt a b c,
 jU λn a=>qO n (.nck (.t (n-a))),
 I0 λn a b c=>qW n a b c,
 adN λn q a b c=>qO n (.bsi a b (GS c) q),
 EZ λs v x=>EX s (s.r.getD v default) x s.n,
 nC λn=>qf n 0 2,
 I0 λn a b c=>qC n a [(n-b),(n-c)],
 gK λn a b=>qk n .add (n-a) (n-b),
 nC λn=>qm n 18,
 gK λn a b=>qk n .leq (n-a) (n-b),
 adN λn q a b c=>qo n (.bsi a b (GS c) q),
 nC λn=>qM n 11,
 E0 λn q a=>qo n (.Zp a [] (EY q)),
 jU λn a=>qi n (aY a),
 nC λn=>qm n 14,
 gK λn a b=>qK n .mul (n-a) (n-b),
 jU λn a=>qn n .neq (n-a) (aY 0),
 Ws λn a b c d=>qc n a [(n-b),(n-c),(n-d)],
 nC λn=>qm n 17,
 ZL λ_ a b c d=>qs a b c d,
 J4 λn a=>qs 6 20 6 (n-a),
 jU λn a=>qc n a [5,6],
 gK λn a b=>qn n .geq (n-a) (aY b),
 gK λn a b=>⟨(some n),none,false,(.call false (.c (.fn 127 [] [])) [(.t (n-a)),(.c (.int .i64 (aY b)))])⟩,
 nC λn=>qm n 13,
 λs=>{s with c:=.cK s.l::s.c},
 jU λn a=>qo n (.Is .RH [(.t (n-a))]),
 gK λn a b=>qk n .sub (n-a) (n-b),
 nC λn=>qm n 16,
 nC λn=>qo n (.mv (.c .bB)),
 afT λn a b c=>qs a 1 (n-b) (n-c),
 J5 λ_ a b=>qm a b,
 gK λn a b=>qn n .lss (n-a) (aY b),
 nC λn=>qm n 15,
 gK λn a b=>qw n a 20 b,
 E0 λn q a=>⟨(some n),none,false,(.call false (.c (.fn a [] [])) (EY q))⟩,
 nC λn=>qw n 3 20 3,
 J5 λ_ a b=>qO a (.CV [] (GS b)),
 jU λn a=>qN n .sub (n-a) (aY 1),
 J5 λ_ a b=>qo a (.LL b),
 jU λn a=>qo n (.Mp (GS a) []),
 jU λn a=>qE n (n-a),
 nC λn=>qo n (.mv (.c (.int .u8 (aY 0)))),
 ZL λn a b c d=>qS a b c (n-d),
 ZK λ_ v => .c (.fn v [] []),
 gK λn a b=>qn n .leq (n-a) (aY b),
 jU λn a=>qo n (.LL a),
 LP λn q=>qo n (.Is .J8 (EY q)),
 ai4 λ_ q=>⟨none,none,false,(.mp (.put none) (EY q))⟩,
 Ws λn a b c d=>qC n a [(n-b),(n-c),(n-d)],
 gK λn a b=>qk n .neq (n-a) (n-b),
 jU λn a=>qn n .sub (n-a) (aY 1),
 gK λn a b=>qN n .add (n-a) (aY b),
 jU λn a=>qo n (.bsi 1 1 [(.int .i64 (aY 0))] [(0,1,(.t (n-a)))]),
 nC λn=>qi n (Al 1),
 Ws λn a b c d=>qO n (.app a b (.t (n-c)) (.t (n-d))),
 E0 λn q a=>qo n (.call true (.c (.fn a [] [])) (EY q)),
 J4 λ_ a=>qo a (.mv (.c .bB)),
 nC λn=>qb n true,
 gK λn a b=>qk n .geq (n-a) (n-b),
 ZJ λ_ v => .c (.fn v [] []),
 gK λn a b=>qo n (.bin .eql (.t (n-a)) (.c (.int .u8 (aY b)))),
 jU λn a=>qO n (.WY false 1 (.t (n-a))),
 jU λn a=>qo n (.un .neg (.t (n-a))),
 gK λn a b=>qn n .add (n-a) (aY b),
 gK λn a b=>qk n .gtr (n-a) (n-b),
 ZF λs a c=>{s with c:=.loop s.l false a::c},
 I0 λn a b c=>qo n (.IQ a (.t (n-b)) (.c (.int .i64 (aY c)))),
 I0 λn a b c=>qo n (.call false (.c (.fn a [] [])) [(.t (n-b)),(.c (.int .i64 (aY c))),(.c (.int .i64 (aY 1000000)))]),
 gK λn a b=>qK n .sub (n-a) (n-b),
 gK λn a b=>qK n .quo (n-a) (n-b),
 nC λn=>qo n (.mv (.c (.str []))),
 jU λn a=>qo n (.YI .u8 (.t (n-a))),
 jU λn a=>qc n a [],
 I0 λn a b c=>qO n (.app a b (.c .bB) (.t (n-c))),
 jU λn a=>qO n (.un .not (.t (n-a))),
 λs=>{s with l:=[]},
 gK λn a b=>qk n .eql (n-a) (n-b),
 I0 λn a b c=>qo n (.My a 1 (.t b) (.c (.int .i64 (aY c)))),
 gK λn a b=>qk n .quo a b,
 E0 λn q a=>qO n (.call false (.t (n-a)) (EY q)),
 gK λn a b=>qn n .rem (n-a) (aY b),
 gK λn a b=>qn n .quo (n-a) (aY b),
 afT λ_ a b c=>⟨none,none,false,(.st [(0,a)] 1 (.t b) (.t c))⟩,
 J4 λ_ a=>qo a (.GD (.t 0)),
 ZL λ_ a b c d=>⟨none,none,false,(.Je a [(0,b)] 1 c (.t d))⟩,
 gK λn a b=>qo n (.mn (.t (n-a)) (.t (n-b))),
 I0 λn a b c=>qo n (.W3 a (.t (n-b)) (some (.c (.int .i64 (aY c)))) none none),
 jU λn a=>qx n a,
 J4 λ_ a=>qo a (.mv (.c (.str []))),
 J5 λ_ a b=>⟨none,none,false,(.st [] 1 (.t a) (.c (.int .i64 (aY b))))⟩,
 J5 λ_ a b=>qo a (.Un [] (GS b)),
 gK λn a b=>qo n (.mx (.t (n-a)) (.t (n-b))),
 gK λn a b=>qO n (.pick (.t a) (.c (.bool true)) (.t (n-b))),
 J4 λ_ a=>⟨none,none,false,(.ZE (.t a))⟩,
 jU λn a=>qo n (.My 3 1 (.t 6) (.c (.int .u8 (aY a)))),
 LP λn q=>qo n (.me .b2s (EY q)),
 jU λn a=>qO n (.YI .i64 (.t a)),
 gK λn a b=>qK n .add (n-a) (n-b),
 LP λn q=>qo n (.Is .Z5 (EY q)),
 EZ λs v x=>ZH v λv=>{s with x:=x,l:=v::s.l},
 E0 λn q a=>qo n (.Zp a (EY q) []),
 gK λn a b=>qo n (.bin .mul (.c (.int .i64 (aY a))) (.t b)),
 gK λn a b=>qo n (.bin .gtr (.t a) (.c (.int .u8 (aY b)))),
 gK λn a b=>qo n (.call false (.c (.fn a [] [])) [(.t b),(.c (.int .i64 (aY 0))),(.c (.int .i64 (aY 1000000000)))]),
 gK λn a b=>qo n (.call false (.c (.fn a [] [])) [(.t b),(.c (.int .i64 (Al 100000))),(.c (.int .i64 (aY 100000)))]),
 jU λn a=>qo n (.mx (.c (.int .i64 (aY 0))) (.t (n-a))),
 gK λn a b=>qO n (.mn (.t (n-a)) (.t (n-b))),
 jU λn a=>qo n (.YB 0 a [] []),
 nC λn=>qo n (.isn false false (.t 3)),
 nC λn=>qo n (.Un [] (GS 3)),
 ai3 λn q a b=>qo n (.YB a 1 (GS b) q),
 ZL λ_ a b c d=>⟨none,none,false,(.Je a [(1,b)] 2 c (.t d))⟩,
 jU λn a=>qO n (.YI .u8 (.t a)),
 jU λn a=>qo n (.WY false 1 (.t a)),
 Ws λn a b c d=>qo n (.mks 1 a (GS b) (.t c) (.t d)),
 jU λn a=>qo n (.YI .i64 (.t a)),
 nC λn=>qo n (.mv (.c .pc)),
 gK λn a b=>qo n (.bin .lss (.t a) (.c (.int .u8 (aY b)))),
 I0 λn a b c=>qo n (.call false (.c (.fn a [] [])) [(.t b),(.c (.int .i64 (aY c))),(.c (.int .i64 (aY 100000)))]),
 nC λn=>qo n (.mp .make []),
 gK λn a b=>qo n (.call false (.c (.fn a [] [])) [(.t b),(.c (.int .i64 (Al 20000))),(.c (.int .i64 (aY 20000)))]),
 gK λn a b=>qo n (.eqv true [(some .i64),(some .i64),(some .i64),(some .i64)] false (.t a) (.t b)),
 I0 λn a b c=>qo n (.app a b (.c .bB) (.t c)),
 J4 λ_ a=>qo a (.mv (.c (.int .u8 (aY 0)))),
 jU λn a=>qO n (.W3 1 (.t a) (some (.c (.int .i64 (aY 1)))) none none),
 jU λn a=>qO n (.Mp (GS a) []),
 gK λn a b=>qo n (.WY true a (.t b)),
 jU λn a=>qo n (.isi false (.t a)),
 gK λn a b=>qo n (.My 3 1 (.t a) (.t b)),
 gK λn a b=>qO n (.IQ a (.t b) (.c (.int .i64 (aY 0)))),
 gK λn a b=>qo n (.bin .leq (.t a) (.c (.int .u8 (aY b)))),
 LP λn q=>qo n (.Is (.MH true true) (EY q)),
 LP λn q=>qo n (.Is (.MH true false) (EY q)),
 gK λn a b=>qo n (.eqv true [(some .i64),(some .i64),(some .i64),(some .i64)] true (.t a) (.t b)),
 jU λn a=>qO n (.CV [] (GS a)),
 gK λn a b=>qo n (.call false (.c (.fn a [] [])) [(.t b),(.c (.int .i64 (aY 1))),(.c (.int .i64 (aY 10000)))]),
 alQ λ_=>⟨none,none,true,(.st [] 1 (.t 51) (.c (.bool false)))⟩,
 J4 λ_ a=>⟨none,none,false,(.st [] 1 (.t a) (.c (.bool true)))⟩,
 E0 λn q a=>qO n (.Zp a [] (EY q)),
 J5 λ_ a b=>qO a (.Un [] (GS b)),
 jU λn a=>qo n (.call false (.c (.fn 130 [] [])) [(.t a),(.c (.int .i64 (Al 10000000000))),(.c (.int .i64 (aY 10000000000)))]),
 EZ λs v x=>ZI (λs m _=>ZG (λs a b c=>{s with x:=x,o:=[],c:=sL s.l s.o v m true a b::c}) s) s,
 jU λn a=>qo n (.call false (.c (.fn a [] [])) [(.t 13),(.c (.int .i64 (aY 0))),(.c (.int .i64 (aY 1000000000000)))]),
 jU λn a=>qo n (.call false (.c (.fn a [] [])) [(.t 8),(.c (.int .i64 (aY 0))),(.c (.int .i64 (aY 10000000000)))]),
 LP λn q=>qo n (.mp (.get none (.bool false) false) (EY q)),
 ZF λs a c=>{s with c:=.sgm a::c}]
def adK:Nat->iX->aw.cb
 |0,s=>s.c.headD .Ko
 |k+1,⟨x,n,l,o,p,c,g,q,K,r⟩=>match x with
  |0=>c.headD .Ko
  |1=>c.headD .Ko
  |y+2=>ZH n λn=>ai0 42 22 7 106 (y+2) λa x=>adK k (ai2.getD a id ⟨x,n,l,o,p,c,g,q,K,r⟩)
def ai1:List Char->Nat->Nat
 |[],a=>a
 |c::r,a=>ai1 r (a*80+(c.toNat-40-(1-(46-c.toNat))-(1-(48-c.toNat))-(1-(93-c.toNat))))
inductive pkD (K:List aw.cb) (r:List aw.Op) (t:String) (c:aw.cb):Prop
 |mk {x:List Char} (h:t=String.ofList x) (g:adK 100000 ⟨ai1 x 0,0,[],[],[],[],none,[],K,r⟩=c):pkD K r t c
def gD(K:List aw.cb)(r:List aw.Op)(t:String){c:aw.cb}(_:pkD K r t c:=by exact .mk rfl (by conv=>lhs;reduce)):aw.cb:=c
def gC(t:String){c:aw.cb}(_:pkD [] [] t c:=by exact .mk rfl (by conv=>lhs;reduce)):aw.cb:=c
@[simp,simp ↓] theorem gDe{K r t c g}:@gD K r t c g=c:=rfl
@[simp,simp ↓] theorem gCe{t c g}:@gC t c g=c:=rfl
@[simp] def zI:D:=.int .i64 0
def an7(x0:List (Nat×List Nat))(x1:List (Nat×List Nat))(x2:List Nat)(x3:List Nat)(x4:List Nat)(x5:List (Nat×List (Nat×Nat)))(x6:List Nat):sS:=⟨x0,x1,x2,x3,x4,x5,x6,[],[],[],[]⟩
