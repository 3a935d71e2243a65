import Derived.Test.YtpapbbojmclkgaaGreatDoorBase13
import Derived.Test.YtpapbbojmclkgaaGreatDoorBase20
import Derived.Test.YtpapbbojmclkgaaGreatDoorRows
set_option linter.all false
set_option maxRecDepth 100000
namespace Go.Proofs.YtpapbbojmclkgaaGreatDoor
open Go Go.Abs
noncomputable def chk(p:Nat×tv×Abs.Fn):Option Abs.Fn:=(Tryz.prog.funcs[p.1]?).bind λF=>if F.name != "runtime.NumGoroutine" && (F.body.isSome && decide (p.1<1000000))then fnC Tryz.prog p.2.1 F else none
@[reducible] def sR(l:List Nat)(r:List Abs.Op)(c:Abs.b9):Abs.b9:=.seq (.si l r) c
@[reducible] def sE(l:List Nat)(r:List Abs.Op)(t:Nat)(m:List Nat)(s:List Abs.Op)(c:Abs.b9):Abs.b9:=.seq (.seq (.si l r) (.ite (.t t) (.seq (.si m s) .ret) .Jp)) c
@[reducible] def sI(l:List Nat)(r:List Abs.Op)(t:Nat)(a b c:Abs.b9):Abs.b9:=.seq (.seq (.si l r) (.ite (.t t) a b)) c
@[reducible] def sL(l:List Nat)(r:List Abs.Op)(n:Nat)(m:List Nat)(s:Bool)(a c:Abs.b9):Abs.b9:=.seq (.seq (.si l r) (.dI n (.loop m s a))) c
def Ti:Abs.b9->List (List Nat)
 |.si l _=>[l]
 |.QA l _ _ _=>[l]
 |.seq a b=>Ti a++Ti b
 |.ite _ a b=>Ti a++Ti b
 |.dI _ a=>Ti a
 |.loop _ _ a=>Ti a
 |.N0 _ _ _ a b=>Ti a++Ti b
 |.ir _ _ _ _ _ a b=>Ti a++Ti b
 |.Uv _ _ a=>Ti a
 |.sgm a=>Ti a
 |_=>[]
def UO:Abs.b9->List (Nat×List Nat)
 |.seq a b=>UO a++UO b
 |.ite _ a b=>UO a++UO b
 |.dI n (.loop l _ a)=>(n,l)::UO a
 |.dI _ a=>UO a
 |.N0 _ _ _ a b=>UO a++UO b
 |.ir _ _ _ _ _ a b=>UO a++UO b
 |.Uv _ _ a=>UO a
 |.sgm a=>UO a
 |_=>[]
def A4(q:List Nat)(i:Nat)(f:Abs.Fn)(a b c:List Nat)(d:List (Nat×List (Nat×Nat)))(e:List Nat)(g:List (Nat×List Nat))(h:List Nat)(j:List (Nat×Option (List Nat)))(k:List (Nat×Option Nat)):Nat×tv×Abs.Fn:=(i,⟨(if q=[]then List.range (Ti f.body).length else q).zip (Ti f.body),UO f.body,a,b,c,d,e,g,h,j,k⟩,f)
def A3(q:List Nat)(i:Nat)(f:Abs.Fn)(a b c:List Nat)(d:List (Nat×List (Nat×Nat)))(e:List Nat):Nat×tv×Abs.Fn:=A4 q i f a b c d e [] [] [] []
def A2(q:List Nat)(i:Nat)(f:Abs.Fn)(a b:List Nat):Nat×tv×Abs.Fn:=A3 q i f a b [] [] []
def A1(q:List Nat)(i:Nat)(f:Abs.Fn):Nat×tv×Abs.Fn:=A3 q i f [] [] [] [] []
def A0(i:Nat)(f:Abs.Fn):Nat×tv×Abs.Fn:=A1 [] i f
attribute [simp] qA qC qE qF qJ qK qL qM qN qO qP qS qV qW qZ qa qb qc qe qf qg qi qj qk ql qm qn qo qp qs qt qu qv qw qx qy qz
def aX(n:Nat):Int:=n
def zA(n:Nat):Int := -n
@[simp] theorem aky{n:Nat}:aX n=n:=rfl
@[simp] theorem akz{n:Nat}:zA n = -n:=rfl
structure jh where
 x:Nat
 n:Nat
 l:List Nat
 o:List Abs.Op
 p:List (List Nat×List Abs.Op)
 c:List Abs.b9
 g:Option (Nat×Bool)
 q:List (Nat×Nat×Abs.bP)
 k:List Abs.b9
 r:List Abs.Op
def ahm{A:Type}(R a S U x:Nat)(k:Nat->Nat->A):A:=cond (Nat.blt (x%R) a) (k (x%R) (x / R)) (cond (Nat.blt (x%R) (R-1)) (k (a+(x%R-a)*S+x / R%S) (x / R / S)) (k (a+(R-1-a)*S+x / R%U) (x / R / U)))
def rH{A:Type}(x:Nat)(k:Nat->Nat->A):A:=ahm 13 10 48 4065 x k
def X4{A:Type}(n:Nat)(k:Nat->A):A:=match n with
 |0=>k 0
 |m+1=>k (m+1)
def aeg{A:Type}:List Nat->(List Nat->A)->A
 |[],k=>k []
 |a::l,k=>X4 a λa=>aeg l λl=>k (a::l)
def ab0(v:Nat):List Nat->List Nat
 |[]=>[v]
 |a::l=>cond (Nat.ble v a) (v::a::l) (a::ab0 v l)
def ab1{A:Type}:Nat->Nat->List Nat->Nat->(List Nat->Nat->A)->A
 |0,_,l,x,k=>k l x
 |m+1,b,l,x,k=>rH x λd x=>X4 (b-d-1) λv=>ab1 m v (v::l) x k
def aj4(g:Option (Nat×Bool))(o:Abs.Op):Abs.Op:=match g with
 |none=>o
 |some (t,b)=>qg t b o
def Ec(s:jh)(o:Abs.Op)(x n:Nat):jh:={s with x:=x,n:=n,o:=aj4 s.g o::s.o,q:=[]}
def Ed(f:jh->Nat->Nat->jh)(s:jh):jh:=rH s.x λv x=>f s v x
def aaI(f:jh->Abs.b9->List Abs.b9->jh)(s:jh):jh:=match s.c with
 |a::c=>f s a c
 |[]=>s
def X3(f:jh->Abs.b9->Abs.b9->List Abs.b9->jh)(s:jh):jh:=match s.c with
 |a::b::c=>f s a b c
 |_=>s
def X5(f:jh->List Nat->List Abs.Op->jh)(s:jh):jh:=match s.p with
 |(m,r)::p=>f {s with p:=p} m r
 |[]=>s
def F6(q:List (Nat×Nat×Abs.bP)):List Abs.bP:=q.map λp=>p.2.2
def X6(f:Nat->Nat->Abs.bP)(s:jh):jh:=rH s.x λv x=>{s with x:=x,q:=(0,0,f s.n v)::s.q}
def X7(f:Nat->Nat->Abs.bP)(s:jh):jh:=rH s.x λa x=>rH x λb x=>rH x λv x=>{s with x:=x,q:=(a,b,f s.n v)::s.q}
def aj5(f:Nat->Abs.Op)(s:jh):jh:=Ec s (f s.n) s.x s.n
def ahq(f:Nat->List (Nat×Nat×Abs.bP)->Abs.Op)(s:jh):jh:=Ec s (f s.n s.q) s.x s.n
def KK(f:Nat->Nat->Abs.Op)(s:jh):jh:=rH s.x λa x=>Ec s (f s.n a) x s.n
def I8(f:Nat->Nat->Nat->Abs.Op)(s:jh):jh:=rH s.x λa x=>rH x λb x=>Ec s (f s.n a b) x s.n
def aeh(f:Nat->Nat->Nat->Nat->Abs.Op)(s:jh):jh:=rH s.x λa x=>rH x λb x=>rH x λc x=>Ec s (f s.n a b c) x s.n
def X8(f:Nat->Nat->Nat->Nat->Nat->Abs.Op)(s:jh):jh:=rH s.x λa x=>rH x λb x=>rH x λc x=>rH x λd x=>Ec s (f s.n a b c d) x s.n
def n9(f:Nat->Abs.Op)(s:jh):jh:=Ec s (f s.n) s.x (s.n-1)
def MG(f:Nat->List (Nat×Nat×Abs.bP)->Abs.Op)(s:jh):jh:=Ec s (f s.n s.q) s.x (s.n-1)
def ki(f:Nat->Nat->Abs.Op)(s:jh):jh:=rH s.x λa x=>Ec s (f s.n a) x (s.n-1)
def FM(f:Nat->List (Nat×Nat×Abs.bP)->Nat->Abs.Op)(s:jh):jh:=rH s.x λa x=>Ec s (f s.n s.q a) x (s.n-1)
def gU(f:Nat->Nat->Nat->Abs.Op)(s:jh):jh:=rH s.x λa x=>rH x λb x=>Ec s (f s.n a b) x (s.n-1)
def ahp(f:Nat->List (Nat×Nat×Abs.bP)->Nat->Nat->Abs.Op)(s:jh):jh:=rH s.x λa x=>rH x λb x=>Ec s (f s.n s.q a b) x (s.n-1)
def I7(f:Nat->Nat->Nat->Nat->Abs.Op)(s:jh):jh:=rH s.x λa x=>rH x λb x=>rH x λc x=>Ec s (f s.n a b c) x (s.n-1)
def ab2(f:Nat->List (Nat×Nat×Abs.bP)->Nat->Nat->Nat->Abs.Op)(s:jh):jh:=rH s.x λa x=>rH x λb x=>rH x λc x=>Ec s (f s.n s.q a b c) x (s.n-1)
def U0(f:Nat->Nat->Nat->Nat->Nat->Abs.Op)(s:jh):jh:=rH s.x λa x=>rH x λb x=>rH x λc x=>rH x λd x=>Ec s (f s.n a b c d) x (s.n-1)
def ahl(i:Nat):D:=List.getD [.bool false,.str [109,111,100,101,108],.bool true,.bA,.str [116,105,99,107],.str [119,101,108,108],.int .i64 (zA 100000),.str [10],.str [108,111,103],.str [113,117,97,107,101],.str [107,101,101,112],.str [114,117,108,101],.str [98,101,100],.str [116,97,98,108,101],.str [102,105,101,108,100],.int .i64 (zA 20000),.str [],.str [117,110,105,116],.str [114,101,97,100],.str [109,111,100,101,108,32],.str [32],.str [46,46],.str [115,101,108,108],.int .i64 (zA 1000),.int .i64 (zA 10000000000),.int .i64 (zA 1),.str [0,1,255,254,97,0,128],.str [116,105,99,107,115,32,50,32,99,111,108,111,117,114,32,49,32,119,101,108,108,115,32,49,10,109,111,100,101,108,32,97,32,108,101,102,116,10,109,111,100,101,108,32,98,32,115,116,114,117,99,107,32,54,10,115,97,108,101,32,48,32,116,105,99,107,32,50,32,119,101,108,108,32,48,32,119,111,114,107,32,52,48,48,48,46,46,52,48,48,48,32,109,111,110,101,121,32,49,50,48,48,48,46,46,49,50,48,48,48,10],.str [98],.str [97],.str [115,116,114,117,99,107],.str [108,101,102,116],.str [115,97,108,101],.str [119,111,114,107],.str [109,111,110,101,121],.str [116,105,99,107,115],.str [99,111,108,111,117,114],.str [119,101,108,108,115],.str [32,115,116,114,117,99,107,32],.str [32,108,101,102,116,10],.str [32,109,111,110,101,121,32],.str [32,119,111,114,107,32],.str [32,119,101,108,108,32],.str [32,116,105,99,107,32],.str [115,97,108,101,32],.str [32,119,101,108,108,115,32],.str [32,99,111,108,111,117,114,32],.str [116,105,99,107,115,32],.str [102,105,101,108,100,32,50,32,49,32,49,32,52],.str [116,97,98,108,101,32,49,48,48,32,49,48,49,32,52,49,57,32,50,54,55,54,32,49,53,48,32,49,53,48,32,52,55,54,32,54,51,50,32,50,55,52,54,32,51,48,48,32,50,48,48,32,49,53,53,53,32,56,53,50,32,50,55,57,51,32,54,48,48],.str [98,101,100,32,49,48,48,48,32,48,32,56,48,48],.str [119,101,108,108,32,48,32,53,48,48,32,53],.str [109,111,100,101,108,32,97,32,56,48,48,48,32,56,48,48,48,32,53,48,48,32,52,48,48,32,57,48,48,32,52,48,48,32,48,32,49,48],.str [109,111,100,101,108,32,98,32,56,48,48,48,32,56,48,48,48,32,53,48,48,32,52,48,48,32,57,48,48,32,53,48,48,32,48,32,49,48],.str [108,111,103,32,116,49,32,50,32,51,57,48,32,52,49,48,32,49,32,49],.str [114,117,108,101,32,48,32,48,32,48,32,57,32,57,32,57,32,50,48,32,53,32,49,32,49],.str [113,117,97,107,101,32,49,32,49,32,49,32,50,53],.str [116,105,99,107,32,45,49,48,48],.str [116,105,99,107,32,53,48],.str [117,110,105,116,32,48,32,49,48,48,32,52,48,48],.str [115,101,108,108,32,48,32,48,32,48,32,51],.str [45],.int .i64 (zA 999999999)] i .undef
def F7(i:Nat):List D:=List.getD [[.int .i64 (aX 0),.int .i64 (aX 0),.int .i64 (aX 0)],[.int .i64 (aX 0),.int .i64 (aX 0),.int .i64 (aX 0),.int .i64 (aX 0)],[.int .i64 (aX 0),.int .i64 (aX 0)],[.int .i64 (aX 0)],[.int .i64 (aX 0),.int .i64 (aX 0),.int .i64 (aX 0),.int .i64 (aX 0),.bA,.int .i64 (aX 0),.int .i64 (aX 0),.int .i64 (aX 0),.bA,.bA,.bA,.bA,.bA,.int .i64 (aX 0),.int .i64 (aX 0),.int .i64 (aX 0),.bA,.bA,.bool false,.bA],[.bool false,.int .i64 (aX 0),.int .i64 (aX 0),.pR],[.int .i64 (aX 0),.bA],[.bA,.bA],[.str [],.bA],[.str [],.bA,.bool false,.int .i64 (aX 0)],[.int .i64 (aX 0),.int .i64 (aX 0),.int .i64 (aX 0),.int .i64 (aX 0),.int .i64 (aX 0)],[.bA],[.int .i64 (aX 0),.int .u8 (aX 0),.int .i64 (aX 0),.int .i64 (aX 0),.int .i64 (aX 0)],[.int .i64 (aX 0),.int .i64 (aX 0),.int .i64 (aX 0),.int .i64 (aX 0),.bA,.int .i64 (aX 0),.int .i64 (aX 0),.int .i64 (aX 0),.bA,.str [],.bA],[.int .i64 (aX 0),.int .i64 (aX 0),.int .i64 (aX 0),.int .i64 (aX 0),.int .i64 (aX 0),.int .i64 (aX 0),.int .i64 (aX 0),.int .i64 (aX 0),.int .i64 (aX 0),.int .u8 (aX 0)],[.int .i64 (aX 0),.int .i64 (aX 0),.int .i64 (aX 0),.int .i64 (aX 0),.int .i64 (aX 0),.int .i64 (aX 0),.int .i64 (aX 0),.int .i64 (aX 0),.int .i64 (aX 0),.int .i64 (aX 0)],[.int .i64 (aX 0),.int .i64 (aX 0),.int .i64 (aX 0),.int .i64 (aX 0),.int .i64 (aX 0),.int .i64 (aX 0)],[.str [],.int .i64 (aX 0),.bA,.bA,.int .i64 (aX 0),.int .i64 (aX 0)],[.str []],[.int .i64 (aX 0),.int .i64 (aX 0),.int .i64 (aX 0),.int .i64 (aX 0),.bA,.int .i64 (aX 0),.int .i64 (aX 0),.int .i64 (aX 0),.bA],[.pR,.pR],[.pR,.pR,.pR,.pR,.pR],[.str [],.str [],.str [],.str []],[.str [],.str [],.str []],[.str [],.str [],.str [],.str [],.str [],.str [],.str [],.str [],.str [],.str []],[.str [],.str [],.str [],.str [],.str [],.str []],[.str [],.str [],.str [],.str [],.str [],.str [],.str [],.str [],.str [],.str [],.str [],.str [],.str []],[.int .i64 (aX 0),.int .i64 (aX 0),.int .i64 (aX 0),.int .i64 (aX 0),.bA,.int .i64 (aX 0),.int .i64 (aX 0),.int .i64 (aX 0),.bA,.bA,.bA,.bA,.bA,.int .i64 (aX 0),.int .i64 (aX 0),.int .i64 (aX 0),.bA,.bA,.bool false,.bA,.int .i64 (aX 0)],[.int .i64 (aX 0),.int .i64 (aX 0),.int .i64 (aX 0),.int .i64 (aX 0),.bA,.int .i64 (aX 0),.int .i64 (aX 0),.int .i64 (aX 0),.bA,.bA,.bA,.bA,.bA,.int .i64 (aX 0),.int .i64 (aX 0),.int .i64 (aX 0),.bA,.bA],[.int .u8 (aX 0)],[.int .u8 (aX 0),.int .u8 (aX 0)],[.int .u8 (aX 0),.int .u8 (aX 0),.int .u8 (aX 0),.int .u8 (aX 0)],[.pR,.pR,.pR],[.bool false],[.int .i64 (aX 0),.int .i64 (aX 0),.int .i64 (aX 0),.int .i64 (aX 0),.int .i64 (aX 0),.bA,.bA],[.int .i64 (aX 0),.int .i64 (aX 0),.int .i64 (aX 0),.int .i64 (aX 0),.int .i64 (aX 0),.int .i64 (aX 0),.int .i64 (aX 0),.int .i64 (aX 0)],[.undef]] i []
def aho:List (jh->jh):=[Ed λs v x=>{s with x:=x,n:=v},
 aaI λs a c=>{s with o:=[],c:=sR s.l s.o a::c},
 Ed λs m x=>rH x λv x=>X4 v λv=>ab1 (m-1) v [v] x λl x=>{s with x:=x,l:=l},
 Ed λs v x=>aeg (ab0 v s.l) λl=>{s with x:=x,l:=l},
 Ed λs v x=>aeg (s.l.eraseIdx v) λl=>{s with x:=x,l:=l},
 ki λn a=>ql n 1 (n-a),
 λs=>{s with c:=.ret::s.c},
 X6 λn v => .t (n-v),
 λs=>{s with o:=[],p:=(s.l,s.o)::s.p},
 X3 λs a b c=>{s with c:=.seq a b::c},
 ki λn a=>qL n 1 (n-a),
 λs=>{s with o:=[],c:=.si s.l s.o::s.c},
 n9 λn=>qm n 0,
 X7 λn v => .t (n-v),
 λs=>{s with c:=.Jp::s.c},
 I8 λn a b=>qm a (n-b),
 n9 λn=>qi n (aX 0),
 ki λn a=>qM n a,
 λs=>{s with g:=none},
 Ed λs v x=>X3 (λs a b c=>{s with x:=x,c:=.ite (.t v) a b::c}) s,
 ki λn a=>qe n (n-a),
 ki λn a=>qm n a,
 Ed λs v x=>{s with x:=x,g:=some (v,true)},
 ki λn a=>qu n (n-a),
 n9 λn=>qm n 5,
 Ed λs v x=>aaI (λs a c=>{s with x:=x,c:=.dI v a::c}) s,
 ki λn a=>qm n (n-a),
 n9 λn=>qm n 1,
 X6 λ_ v => .t v,
 gU λn a b=>qp n (n-a) (n-b),
 Ed λs v x=>{s with x:=x,c:=s.k.getD v .Jp::s.c},
 ki λn a=>qf n 1 a,
 n9 λn=>qM n 2,
 I7 λn a b c=>qj n a (n-b) (n-c),
 n9 λn=>qb n false,
 Ed λs v x=>{s with x:=x,c:=.exit v::s.c},
 ki λn a=>qf n 0 (n-a),
 gU λn a b=>qk n .lss (n-a) (n-b),
 ki λn a=>qn n .add (n-a) (aX 1),
 Ed λs v x=>{s with x:=x,g:=some (v,false)},
 gU λn a b=>qf n a b,
 Ed λs v x=>Ec s (s.r.getD v default) x (s.n-1),
 I7 λn a b c=>qJ n a (n-b) (n-c),
 n9 λn=>qx n 0,
 gU λn a b=>qc n a [(n-b)],
 gU λn a b=>qv n a 1 (n-b),
 gU λn a b=>qO n (.HS 1 (.t (n-a)) (.c (.int .i64 (aX b)))),
 Ed λs v x=>X5 (λs m _=>X3 (λs a b c=>{s with x:=x,o:=[],c:=sL s.l s.o v m false a b::c}) s) s,
 gU λn a b=>qP n (n-a) (n-b),
 Ed λs v x=>X3 (λs a b c=>{s with x:=x,o:=[],c:=sI s.l s.o v a b (c.headD .Jp)::c.tail}) s,
 ki λn a=>qF n 0 (n-a),
 X6 λ_ v => .c (ahl v),
 Ed λs v x=>X5 (λs m r=>aaI (λs a c=>{s with x:=x,o:=[],c:=sE s.l s.o v m r a::c}) s) s,
 n9 λn=>qm n 3,
 n9 λn=>qm n 8,
 gU λn a b=>qV n a 1 (n-b),
 gU λn a b=>qF n a b,
 n9 λn=>qm n 7,
 gU λn a b=>qz n (n-a) b,
 n9 λn=>qm n 9,
 X8 λn a b c d=>qs a b c (n-d),
 n9 λn=>qm n 6,
 ki λn a=>qf n a 3,
 FM λn q a=>qo n (.call false (.c (.fn a [] [])) (F6 q)),
 n9 λn=>qm n 4,
 I8 λn a b=>qm (n-a) (n-b),
 n9 λn=>qm n 2,
 FM λn q a=>qo n (.Lj (F7 a) q),
 gU λn a b=>qf n a (n-b),
 I8 λ_ a b=>qi a (aX b),
 ki λn a=>qf n a 1,
 n9 λn=>qm n 10,
 gU λn a b=>qA n a (n-b),
 I7 λn a b c=>qc n a [(n-b),(n-c)],
 I7 λn a b c=>qw n a b c,
 X6 λ_ v => .c (.int .i64 (aX v)),
 n9 λn=>qm n 11,
 gU λn a b=>qF n a (n-b),
 X5 λs _ a=>X5 (λs _ b=>{s with o:=[],c:=.QA s.l s.o (a.headD default) b::s.c}) s,
 X7 λ_ v => .c (.int .i64 (aX v)),
 gU λn a b=>qa n a (n-b),
 ki λn a=>qo n (.nck (.t (n-a))),
 n9 λn=>qx n 1,
 gU λn a b=>qa n a b,
 KK λn a=>qm 5 (n-a),
 KK λ_ a=>qi a (aX 0),
 I8 λ_ a b=>qo a (.B6 [] (F7 b)),
 n9 λn=>qM n 1,
 ki λn a=>qF n 0 a,
 X7 λ_ v => .t v,
 gU λn a b=>qn n .gtr (n-a) (aX b),
 gU λn a b=>qA n a b,
 MG λn q=>qo n (.Jq (.seq false) (F6 q)),
 X7 λ_ v => .c (ahl v),
 U0 λn a b c d=>qy n a b (n-c) (n-d),
 U0 λn a b c d=>qo n (.call false (.c (.fn a [] [])) [(.t (n-b)),(.c (.int .i64 (aX c))),(.c (.int .i64 (aX d)))]),
 I8 λ_ a b=>qs 4 a 4 b,
 n9 λn=>qM n 0,
 ki λn a=>qa n a 3,
 gU λn a b=>qZ n (n-a) b,
 KK λ_ a=>qx a 0,
 gU λn a b=>qk n .mul (n-a) (n-b),
 gU λn a b=>qo n (.call false (.t (n-a)) [(.t (n-b))]),
 ki λn a=>qa n a 2,
 ki λn a=>qf n a 4,
 n9 λn=>qf n 0 1,
 ki λn a=>qo n (.B6 [] (F7 a)),
 I8 λn a b=>qM a (n-b),
 ki λn a=>qF n 1 a,
 FM λn q a=>qO n (.Lj (F7 a) q),
 gU λn a b=>qn n .eql (n-a) (aX b),
 KK λ_ a=>qb a false,
 I7 λn a b c=>qW n a b c,
 ki λn a=>qO n (.nck (.t (n-a))),
 aeh λ_ a b c=>qt a b c,
 n9 λn=>qm n 12,
 ab2 λn q a b c=>qO n (.YO a b (F7 c) q),
 n9 λn=>qf n 0 2,
 Ed λs v x=>Ec s (s.r.getD v default) x s.n,
 I7 λn a b c=>qC n a [(n-b),(n-c)],
 n9 λn=>qm n 18,
 gU λn a b=>qk n .leq (n-a) (n-b),
 gU λn a b=>qC n a [(n-b)],
 n9 λn=>qm n 14,
 n9 λn=>qM n 11,
 gU λn a b=>qK n .mul (n-a) (n-b),
 FM λn q a=>qo n (.XN a [] (F6 q)),
 ki λn a=>qi n (aX a),
 gU λn a b=>qk n .add (n-a) (n-b),
 ki λn a=>qn n .neq (n-a) (aX 0),
 U0 λn a b c d=>qc n a [(n-b),(n-c),(n-d)],
 ab2 λn q a b c=>qo n (.YO a b (F7 c) q),
 n9 λn=>qm n 17,
 KK λn a=>qs 6 20 6 (n-a),
 ki λn a=>qc n a [5,6],
 X8 λ_ a b c d=>qs a b c d,
 gU λn a b=>⟨(some n),none,false,(.call false (.c (.fn 127 [] [])) [(.t (n-a)),(.c (.int .i64 (aX b)))])⟩,
 gU λn a b=>qn n .geq (n-a) (aX b),
 gU λn a b=>qn n .lss (n-a) (aX b),
 aeh λn a b c=>qs a 1 (n-b) (n-c),
 gU λn a b=>qk n .sub (n-a) (n-b),
 n9 λn=>qm n 13,
 n9 λn=>qm n 15,
 n9 λn=>qm n 16,
 λs=>{s with c:=.cI s.l::s.c},
 gU λn a b=>qw n a 20 b,
 I8 λ_ a b=>qm a b,
 n9 λn=>qo n (.mv (.c .bA)),
 MG λn q=>qO n (.Jq .Yr (F6 q)),
 FM λn q a=>⟨(some n),none,false,(.call false (.c (.fn a [] [])) (F6 q))⟩,
 n9 λn=>qw n 3 20 3,
 ki λn a=>qo n (.Jq .Qq [(.t (n-a))]),
 ki λn a=>qN n .sub (n-a) (aX 1),
 I8 λ_ a b=>qo a (.KG b),
 ki λn a=>qo n (.Lj (F7 a) []),
 I8 λ_ a b=>qO a (.B6 [] (F7 b)),
 ki λn a=>qE n (n-a),
 n9 λn=>qo n (.mv (.c (.int .u8 (aX 0)))),
 FM λn q a=>qO n (.call false (.c (.fn a [] [])) (F6 q)),
 X7 λ_ v => .c (.fn v [] []),
 gU λn a b=>qn n .leq (n-a) (aX b),
 X8 λn a b c d=>qS a b c (n-d),
 ahq λ_ q=>⟨none,none,false,(.mp (.put none) (F6 q))⟩,
 ki λn a=>qn n .sub (n-a) (aX 1),
 MG λn q=>qo n (.Jq .Lz (F6 q)),
 ki λn a=>qo n (.YO 1 1 [(.int .i64 (aX 0))] [(0,1,(.t (n-a)))]),
 U0 λn a b c d=>qC n a [(n-b),(n-c),(n-d)],
 ki λn a=>qo n (.KG a),
 n9 λn=>qi n (zA 1),
 ki λn a=>qo n (.un .neg (.t (n-a))),
 U0 λn a b c d=>qO n (.app a b (.t (n-c)) (.t (n-d))),
 gU λn a b=>qk n .neq (n-a) (n-b),
 MG λn q=>qo n (.Jq .Yr (F6 q)),
 gU λn a b=>qk n .geq (n-a) (n-b),
 X6 λ_ v => .c (.fn v [] []),
 gU λn a b=>qo n (.bin .eql (.t (n-a)) (.c (.int .u8 (aX b)))),
 ki λn a=>qO n (.Vl false 1 (.t (n-a))),
 KK λ_ a=>qo a (.mv (.c .bA)),
 n9 λn=>qb n true,
 n9 λn=>qo n (.mv (.c (.str []))),
 gU λn a b=>qN n .add (n-a) (aX b),
 I7 λn a b c=>qo n (.HS a (.t (n-b)) (.c (.int .i64 (aX c)))),
 I7 λn a b c=>qo n (.call false (.c (.fn a [] [])) [(.t (n-b)),(.c (.int .i64 (aX c))),(.c (.int .i64 (aX 1000000)))]),
 gU λn a b=>qK n .sub (n-a) (n-b),
 gU λn a b=>qK n .quo (n-a) (n-b),
 I7 λn a b c=>qO n (.app a b (.c .bA) (.t (n-c))),
 gU λn a b=>qk n .gtr (n-a) (n-b),
 aaI λs a c=>{s with c:=.loop s.l false a::c},
 λs=>{s with l:=[]},
 FM λn q a=>qo n (.call true (.c (.fn a [] [])) (F6 q)),
 ki λn a=>qO n (.un .not (.t (n-a))),
 gU λn a b=>qk n .eql (n-a) (n-b),
 I7 λn a b c=>qo n (.Lr a 1 (.t b) (.c (.int .i64 (aX c)))),
 gU λn a b=>qk n .quo a b,
 ki λn a=>qc n a [],
 FM λn q a=>qO n (.call false (.t (n-a)) (F6 q)),
 KK λ_ a=>qo a (.FU (.t 0)),
 X8 λ_ a b c d=>⟨none,none,false,(.Ie a [(0,b)] 1 c (.t d))⟩,
 gU λn a b=>qo n (.mn (.t (n-a)) (.t (n-b))),
 I7 λn a b c=>qo n (.YU a (.t (n-b)) (some (.c (.int .i64 (aX c)))) none none),
 ki λn a=>qx n a,
 gU λn a b=>qn n .rem (n-a) (aX b),
 gU λn a b=>qn n .quo (n-a) (aX b),
 I8 λ_ a b=>⟨none,none,false,(.st [] 1 (.t a) (.c (.int .i64 (aX b))))⟩,
 I8 λ_ a b=>qo a (.Ul [] (F7 b)),
 gU λn a b=>qo n (.mx (.t (n-a)) (.t (n-b))),
 gU λn a b=>qO n (.pick (.t a) (.c (.bool true)) (.t (n-b))),
 KK λ_ a=>⟨none,none,false,(.X2 (.t a))⟩,
 aeh λ_ a b c=>⟨none,none,false,(.st [(0,a)] 1 (.t b) (.t c))⟩,
 ki λn a=>qo n (.Lr 3 1 (.t 6) (.c (.int .u8 (aX a)))),
 ki λn a=>qo n (.Vi .u8 (.t a)),
 Ed λs v x=>X4 v λv=>{s with x:=x,l:=v::s.l},
 KK λ_ a=>qo a (.mv (.c (.str []))),
 FM λn q a=>qo n (.XN a (F6 q) []),
 gU λn a b=>qo n (.bin .gtr (.t a) (.c (.int .u8 (aX b)))),
 gU λn a b=>qo n (.call false (.c (.fn a [] [])) [(.t b),(.c (.int .i64 (aX 0))),(.c (.int .i64 (aX 1000000000)))]),
 gU λn a b=>qo n (.call false (.c (.fn a [] [])) [(.t b),(.c (.int .i64 (zA 100000))),(.c (.int .i64 (aX 100000)))]),
 ki λn a=>qo n (.mx (.c (.int .i64 (aX 0))) (.t (n-a))),
 gU λn a b=>qO n (.mn (.t (n-a)) (.t (n-b))),
 ki λn a=>qo n (.WX 0 a [] []),
 n9 λn=>qo n (.isn false false (.t 3)),
 ahp λn q a b=>qo n (.WX a 1 (F7 b) q),
 X8 λ_ a b c d=>⟨none,none,false,(.Ie a [(1,b)] 2 c (.t d))⟩,
 ki λn a=>qO n (.Vi .u8 (.t a)),
 ki λn a=>qo n (.Vl false 1 (.t a)),
 U0 λn a b c d=>qo n (.YS 1 a (F7 b) (.t c) (.t d)),
 gU λn a b=>qo n (.bin .mul (.c (.int .i64 (aX a))) (.t b)),
 gU λn a b=>qo n (.bin .lss (.t a) (.c (.int .u8 (aX b)))),
 I7 λn a b c=>qo n (.call false (.c (.fn a [] [])) [(.t b),(.c (.int .i64 (aX c))),(.c (.int .i64 (aX 100000)))]),
 n9 λn=>qo n (.mp .make []),
 gU λn a b=>qo n (.call false (.c (.fn a [] [])) [(.t b),(.c (.int .i64 (zA 20000))),(.c (.int .i64 (aX 20000)))]),
 gU λn a b=>qo n (.eqv true [(some .i64),(some .i64),(some .i64),(some .i64)] false (.t a) (.t b)),
 KK λ_ a=>qo a (.mv (.c (.int .u8 (aX 0)))),
 ki λn a=>qO n (.YU 1 (.t a) (some (.c (.int .i64 (aX 1)))) none none),
 ki λn a=>qO n (.Lj (F7 a) []),
 gU λn a b=>qo n (.Vl true a (.t b)),
 ki λn a=>qo n (.isi false (.t a)),
 ki λn a=>qo n (.Vi .i64 (.t a)),
 gU λn a b=>qo n (.Lr 3 1 (.t a) (.t b)),
 gU λn a b=>qO n (.HS a (.t b) (.c (.int .i64 (aX 0)))),
 gU λn a b=>qo n (.bin .leq (.t a) (.c (.int .u8 (aX b)))),
 n9 λn=>qo n (.Ul [] (F7 3)),
 n9 λn=>qo n (.mv (.c .pR)),
 MG λn q=>qo n (.Jq (.Oe true false) (F6 q)),
 gU λn a b=>qo n (.eqv true [(some .i64),(some .i64),(some .i64),(some .i64)] true (.t a) (.t b)),
 ki λn a=>qO n (.B6 [] (F7 a)),
 gU λn a b=>qo n (.call false (.c (.fn a [] [])) [(.t b),(.c (.int .i64 (aX 1))),(.c (.int .i64 (aX 10000)))]),
 aj5 λ_=>⟨none,none,true,(.st [] 1 (.t 51) (.c (.bool false)))⟩,
 KK λ_ a=>⟨none,none,false,(.st [] 1 (.t a) (.c (.bool true)))⟩,
 FM λn q a=>qO n (.XN a [] (F6 q)),
 I8 λ_ a b=>qO a (.Ul [] (F7 b)),
 ki λn a=>qo n (.call false (.c (.fn 130 [] [])) [(.t a),(.c (.int .i64 (zA 10000000000))),(.c (.int .i64 (aX 10000000000)))]),
 Ed λs v x=>X5 (λs m _=>X3 (λs a b c=>{s with x:=x,o:=[],c:=sL s.l s.o v m true a b::c}) s) s,
 ki λn a=>qo n (.call false (.c (.fn a [] [])) [(.t 13),(.c (.int .i64 (aX 0))),(.c (.int .i64 (aX 1000000000000)))]),
 ki λn a=>qo n (.call false (.c (.fn a [] [])) [(.t 8),(.c (.int .i64 (aX 0))),(.c (.int .i64 (aX 10000000000)))]),
 MG λn q=>qo n (.mp (.get none (.bool false) false) (F6 q))]
def abZ:Nat->jh->Abs.b9
 |0,s=>s.c.headD .Jp
 |k+1,⟨x,n,l,o,p,c,g,q,K,r⟩=>match x with
  |0=>c.headD .Jp
  |1=>c.headD .Jp
  |y+2=>X4 n λn=>ahm 41 21 7 102 (y+2) λa x=>abZ k (aho.getD a id ⟨x,n,l,o,p,c,g,q,K,r⟩)
def ahn:List Char->Nat->Nat
 |[],a=>a
 |c::r,a=>ahn r (a*80+(c.toNat-40-(1-(46-c.toNat))-(1-(48-c.toNat))-(1-(93-c.toNat))))
inductive pkD (K:List Abs.b9) (r:List Abs.Op) (t:String) (c:Abs.b9):Prop
 |mk {x:List Char} (h:t=String.ofList x) (g:abZ 100000 ⟨ahn x 0,0,[],[],[],[],none,[],K,r⟩=c):pkD K r t c
def gD(K:List Abs.b9)(r:List Abs.Op)(t:String){c:Abs.b9}(_:pkD K r t c:=by exact .mk rfl (by conv=>lhs;reduce)):Abs.b9:=c
def gC(t:String){c:Abs.b9}(_:pkD [] [] t c:=by exact .mk rfl (by conv=>lhs;reduce)):Abs.b9:=c
@[simp,simp ↓] theorem gDe{K r t c g}:@gD K r t c g=c:=rfl
@[simp,simp ↓] theorem gCe{t c g}:@gC t c g=c:=rfl
@[simp] def zI:D:=.int .i64 0
def an7(x0:List (Nat×List Nat))(x1:List (Nat×List Nat))(x2:List Nat)(x3:List Nat)(x4:List Nat)(x5:List (Nat×List (Nat×Nat)))(x6:List Nat):tv:=⟨x0,x1,x2,x3,x4,x5,x6,[],[],[],[]⟩
end Go.Proofs.YtpapbbojmclkgaaGreatDoor
