import Derived.Test.YtpapbbojmclkgaaGreatDoorBase13
import Derived.Test.YtpapbbojmclkgaaGreatDoorBase20
import Derived.Test.YtpapbbojmclkgaaGreatDoorRows
set_option linter.all false
set_option maxRecDepth 100000
namespace Go.Proofs.YtpapbbojmclkgaaGreatDoor
open Go Go.Abs
theorem eF:True:=trivial
noncomputable def chk(p:Nat×tx×Abs.Fn):Option Abs.Fn:=(Tryz.prog.funcs[p.1]?).bind λF=>if F.name != "runtime.NumGoroutine" && (F.body.isSome && decide (p.1<1000000))then fnC Tryz.prog p.2.1 F else none
@[reducible] def sR(l:List Nat)(r:List Abs.Op)(c:Abs.b9):Abs.b9:=.seq (.si l r) c
@[reducible] def sE(l:List Nat)(r:List Abs.Op)(t:Nat)(m:List Nat)(s:List Abs.Op)(c:Abs.b9):Abs.b9:=.seq (.seq (.si l r) (.ite (.t t) (.seq (.si m s) .ret) .Ji)) c
@[reducible] def sI(l:List Nat)(r:List Abs.Op)(t:Nat)(a b c:Abs.b9):Abs.b9:=.seq (.seq (.si l r) (.ite (.t t) a b)) c
@[reducible] def sL(l:List Nat)(r:List Abs.Op)(n:Nat)(m:List Nat)(s:Bool)(a c:Abs.b9):Abs.b9:=.seq (.seq (.si l r) (.dJ n (.loop m s a))) c
def Te:Abs.b9->List (List Nat)
 |.si l _=>[l]
 |.Qs l _ _ _=>[l]
 |.seq a b=>Te a++Te b
 |.ite _ a b=>Te a++Te b
 |.dJ _ a=>Te a
 |.loop _ _ a=>Te a
 |.NR _ _ _ a b=>Te a++Te b
 |.iq _ _ _ _ _ a b=>Te a++Te b
 |.Uq _ _ a=>Te a
 |.sgm a=>Te a
 |_=>[]
def UJ:Abs.b9->List (Nat×List Nat)
 |.seq a b=>UJ a++UJ b
 |.ite _ a b=>UJ a++UJ b
 |.dJ n (.loop l _ a)=>(n,l)::UJ a
 |.dJ _ a=>UJ a
 |.NR _ _ _ a b=>UJ a++UJ b
 |.iq _ _ _ _ _ a b=>UJ a++UJ b
 |.Uq _ _ a=>UJ a
 |.sgm a=>UJ a
 |_=>[]
def A4(q:List Nat)(i:Nat)(f:Abs.Fn)(a b c:List Nat)(d:List (Nat×List (Nat×Nat)))(e:List Nat)(g:List (Nat×List Nat))(h:List Nat)(j:List (Nat×Option (List Nat)))(k:List (Nat×Option Nat)):Nat×tx×Abs.Fn:=(i,⟨(if q=[]then List.range (Te f.body).length else q).zip (Te f.body),UJ f.body,a,b,c,d,e,g,h,j,k⟩,f)
def A3(q:List Nat)(i:Nat)(f:Abs.Fn)(a b c:List Nat)(d:List (Nat×List (Nat×Nat)))(e:List Nat):Nat×tx×Abs.Fn:=A4 q i f a b c d e [] [] [] []
def A2(q:List Nat)(i:Nat)(f:Abs.Fn)(a b:List Nat):Nat×tx×Abs.Fn:=A3 q i f a b [] [] []
def A1(q:List Nat)(i:Nat)(f:Abs.Fn):Nat×tx×Abs.Fn:=A3 q i f [] [] [] [] []
def A0(i:Nat)(f:Abs.Fn):Nat×tx×Abs.Fn:=A1 [] i f
attribute [simp] qA qC qE qF qJ qK qL qM qN qO qP qS qV qW qZ qa qb qc qe qf qg qi qj qk ql qm qn qo qp qs qt qu qv qw qx qy qz
def aX(n:Nat):Int:=n
def zC(n:Nat):Int := -n
@[simp] theorem akt{n:Nat}:aX n=n:=rfl
@[simp] theorem aku{n:Nat}:zC n = -n:=rfl
structure ji where
 x:Nat
 n:Nat
 l:List Nat
 o:List Abs.Op
 p:List (List Nat×List Abs.Op)
 c:List Abs.b9
 g:Option (Nat×Bool)
 q:List (Nat×Nat×Abs.bP)
 k:List Abs.b9
 r:List Abs.Op
def ahg{A:Type}(R a S U x:Nat)(k:Nat->Nat->A):A:=cond (Nat.blt (x%R) a) (k (x%R) (x / R)) (cond (Nat.blt (x%R) (R-1)) (k (a+(x%R-a)*S+x / R%S) (x / R / S)) (k (a+(R-1-a)*S+x / R%U) (x / R / U)))
def rG{A:Type}(x:Nat)(k:Nat->Nat->A):A:=ahg 13 10 33 4095 x k
def X2{A:Type}(n:Nat)(k:Nat->A):A:=match n with
 |0=>k 0
 |m+1=>k (m+1)
def ad9{A:Type}:List Nat->(List Nat->A)->A
 |[],k=>k []
 |a::l,k=>X2 a λa=>ad9 l λl=>k (a::l)
def abX(v:Nat):List Nat->List Nat
 |[]=>[v]
 |a::l=>cond (Nat.ble v a) (v::a::l) (a::abX v l)
def abY{A:Type}:Nat->Nat->List Nat->Nat->(List Nat->Nat->A)->A
 |0,_,l,x,k=>k l x
 |m+1,b,l,x,k=>rG x λd x=>X2 (b-d-1) λv=>abY m v (v::l) x k
def ajZ(g:Option (Nat×Bool))(o:Abs.Op):Abs.Op:=match g with
 |none=>o
 |some (t,b)=>qg t b o
def D7(s:ji)(o:Abs.Op)(x n:Nat):ji:={s with x:=x,n:=n,o:=ajZ s.g o::s.o,q:=[]}
def D8(f:ji->Nat->Nat->ji)(s:ji):ji:=rG s.x λv x=>f s v x
def aaH(f:ji->Abs.b9->List Abs.b9->ji)(s:ji):ji:=match s.c with
 |a::c=>f s a c
 |[]=>s
def X0(f:ji->Abs.b9->Abs.b9->List Abs.b9->ji)(s:ji):ji:=match s.c with
 |a::b::c=>f s a b c
 |_=>s
def X3(f:ji->List Nat->List Abs.Op->ji)(s:ji):ji:=match s.p with
 |(m,r)::p=>f {s with p:=p} m r
 |[]=>s
def HQ(q:List (Nat×Nat×Abs.bP)):List Abs.bP:=q.map λp=>p.2.2
def X4(f:Nat->Nat->Abs.bP)(s:ji):ji:=rG s.x λv x=>{s with x:=x,q:=(0,0,f s.n v)::s.q}
def X5(f:Nat->Nat->Abs.bP)(s:ji):ji:=rG s.x λa x=>rG x λb x=>rG x λv x=>{s with x:=x,q:=(a,b,f s.n v)::s.q}
def aj0(f:Nat->Abs.Op)(s:ji):ji:=D7 s (f s.n) s.x s.n
def ahk(f:Nat->List (Nat×Nat×Abs.bP)->Abs.Op)(s:ji):ji:=D7 s (f s.n s.q) s.x s.n
def KE(f:Nat->Nat->Abs.Op)(s:ji):ji:=rG s.x λa x=>D7 s (f s.n a) x s.n
def I1(f:Nat->Nat->Nat->Abs.Op)(s:ji):ji:=rG s.x λa x=>rG x λb x=>D7 s (f s.n a b) x s.n
def aea(f:Nat->Nat->Nat->Nat->Abs.Op)(s:ji):ji:=rG s.x λa x=>rG x λb x=>rG x λc x=>D7 s (f s.n a b c) x s.n
def X6(f:Nat->Nat->Nat->Nat->Nat->Abs.Op)(s:ji):ji:=rG s.x λa x=>rG x λb x=>rG x λc x=>rG x λd x=>D7 s (f s.n a b c d) x s.n
def od(f:Nat->Abs.Op)(s:ji):ji:=D7 s (f s.n) s.x (s.n-1)
def Tq(f:Nat->List (Nat×Nat×Abs.bP)->Abs.Op)(s:ji):ji:=D7 s (f s.n s.q) s.x (s.n-1)
def kz(f:Nat->Nat->Abs.Op)(s:ji):ji:=rG s.x λa x=>D7 s (f s.n a) x (s.n-1)
def FE(f:Nat->List (Nat×Nat×Abs.bP)->Nat->Abs.Op)(s:ji):ji:=rG s.x λa x=>D7 s (f s.n s.q a) x (s.n-1)
def iS(f:Nat->Nat->Nat->Abs.Op)(s:ji):ji:=rG s.x λa x=>rG x λb x=>D7 s (f s.n a b) x (s.n-1)
def ahj(f:Nat->List (Nat×Nat×Abs.bP)->Nat->Nat->Abs.Op)(s:ji):ji:=rG s.x λa x=>rG x λb x=>D7 s (f s.n s.q a b) x (s.n-1)
def I0(f:Nat->Nat->Nat->Nat->Abs.Op)(s:ji):ji:=rG s.x λa x=>rG x λb x=>rG x λc x=>D7 s (f s.n a b c) x (s.n-1)
def abZ(f:Nat->List (Nat×Nat×Abs.bP)->Nat->Nat->Nat->Abs.Op)(s:ji):ji:=rG s.x λa x=>rG x λb x=>rG x λc x=>D7 s (f s.n s.q a b c) x (s.n-1)
def UT(f:Nat->Nat->Nat->Nat->Nat->Abs.Op)(s:ji):ji:=rG s.x λa x=>rG x λb x=>rG x λc x=>rG x λd x=>D7 s (f s.n a b c d) x (s.n-1)
def ahf(i:Nat):D:=List.getD [.bool false,.str [109,111,100,101,108],.bool true,.bz,.str [116,105,99,107],.str [119,101,108,108],.int .i64 (zC 100000),.str [108,111,103],.str [113,117,97,107,101],.str [107,101,101,112],.str [114,117,108,101],.str [98,101,100],.str [116,97,98,108,101],.str [102,105,101,108,100],.int .i64 (zC 20000),.str [117,110,105,116],.str [114,101,97,100],.str [32],.str [],.str [115,101,108,108],.int .i64 (zC 1000),.int .i64 (zC 10000000000),.int .i64 (zC 1),.str [0,1,255,254,97,0,128],.str [116,105,99,107,115,32,50,32,99,111,108,111,117,114,32,49,32,119,101,108,108,115,32,49,10,109,111,100,101,108,32,97,32,108,101,102,116,10,109,111,100,101,108,32,98,32,115,116,114,117,99,107,32,54,10,115,97,108,101,32,48,32,116,105,99,107,32,50,32,119,101,108,108,32,48,32,119,111,114,107,32,52,48,48,48,46,46,52,48,48,48,32,109,111,110,101,121,32,49,50,48,48,48,46,46,49,50,48,48,48,10],.str [98],.str [97],.str [115,116,114,117,99,107],.str [108,101,102,116],.str [115,97,108,101],.str [119,111,114,107],.str [109,111,110,101,121],.str [116,105,99,107,115],.str [99,111,108,111,117,114],.str [119,101,108,108,115],.str [102,105,101,108,100,32,50,32,49,32,49,32,52],.str [116,97,98,108,101,32,49,48,48,32,49,48,49,32,52,49,57,32,50,54,55,54,32,49,53,48,32,49,53,48,32,52,55,54,32,54,51,50,32,50,55,52,54,32,51,48,48,32,50,48,48,32,49,53,53,53,32,56,53,50,32,50,55,57,51,32,54,48,48],.str [98,101,100,32,49,48,48,48,32,48,32,56,48,48],.str [119,101,108,108,32,48,32,53,48,48,32,53],.str [109,111,100,101,108,32,97,32,56,48,48,48,32,56,48,48,48,32,53,48,48,32,52,48,48,32,57,48,48,32,52,48,48,32,48,32,49,48],.str [109,111,100,101,108,32,98,32,56,48,48,48,32,56,48,48,48,32,53,48,48,32,52,48,48,32,57,48,48,32,53,48,48,32,48,32,49,48],.str [108,111,103,32,116,49,32,50,32,51,57,48,32,52,49,48,32,49,32,49],.str [114,117,108,101,32,48,32,48,32,48,32,57,32,57,32,57,32,50,48,32,53,32,49,32,49],.str [113,117,97,107,101,32,49,32,49,32,49,32,50,53],.str [116,105,99,107,32,45,49,48,48],.str [116,105,99,107,32,53,48],.str [117,110,105,116,32,48,32,49,48,48,32,52,48,48],.str [115,101,108,108,32,48,32,48,32,48,32,51],.str [10],.str [46,46],.int .i64 (zC 999999999)] i .undef
def FZ(i:Nat):List D:=List.getD [[.int .i64 (aX 0),.int .i64 (aX 0),.int .i64 (aX 0)],[.int .i64 (aX 0),.int .i64 (aX 0),.int .i64 (aX 0),.int .i64 (aX 0)],[.int .i64 (aX 0),.int .i64 (aX 0)],[.int .i64 (aX 0)],[.int .i64 (aX 0),.int .i64 (aX 0),.int .i64 (aX 0),.int .i64 (aX 0),.bz,.int .i64 (aX 0),.int .i64 (aX 0),.int .i64 (aX 0),.bz,.bz,.bz,.bz,.bz,.int .i64 (aX 0),.int .i64 (aX 0),.int .i64 (aX 0),.bz,.bz,.bool false,.bz],[.bool false,.int .i64 (aX 0),.int .i64 (aX 0),.pR],[.int .i64 (aX 0),.bz],[.bz,.bz],[.str [],.bz],[.str [],.bz,.bool false,.int .i64 (aX 0)],[.int .i64 (aX 0),.int .i64 (aX 0),.int .i64 (aX 0),.int .i64 (aX 0),.int .i64 (aX 0)],[.bz],[.int .i64 (aX 0),.int .u8 (aX 0),.int .i64 (aX 0),.int .i64 (aX 0),.int .i64 (aX 0)],[.int .i64 (aX 0),.int .i64 (aX 0),.int .i64 (aX 0),.int .i64 (aX 0),.bz,.int .i64 (aX 0),.int .i64 (aX 0),.int .i64 (aX 0),.bz,.str [],.bz],[.int .i64 (aX 0),.int .i64 (aX 0),.int .i64 (aX 0),.int .i64 (aX 0),.int .i64 (aX 0),.int .i64 (aX 0),.int .i64 (aX 0),.int .i64 (aX 0),.int .i64 (aX 0),.int .u8 (aX 0)],[.int .i64 (aX 0),.int .i64 (aX 0),.int .i64 (aX 0),.int .i64 (aX 0),.int .i64 (aX 0),.int .i64 (aX 0),.int .i64 (aX 0),.int .i64 (aX 0),.int .i64 (aX 0),.int .i64 (aX 0)],[.str [],.int .i64 (aX 0),.bz,.bz,.int .i64 (aX 0),.int .i64 (aX 0)],[.int .i64 (aX 0),.int .i64 (aX 0),.int .i64 (aX 0),.int .i64 (aX 0),.int .i64 (aX 0),.int .i64 (aX 0)],[.str []],[.int .i64 (aX 0),.int .i64 (aX 0),.int .i64 (aX 0),.int .i64 (aX 0),.bz,.int .i64 (aX 0),.int .i64 (aX 0),.int .i64 (aX 0),.bz],[.pR,.pR],[.pR,.pR,.pR,.pR,.pR],[.str [],.str [],.str [],.str []],[.str [],.str [],.str []],[.str [],.str [],.str [],.str [],.str [],.str [],.str [],.str [],.str [],.str []],[.str [],.str [],.str [],.str [],.str [],.str []],[.str [],.str [],.str [],.str [],.str [],.str [],.str [],.str [],.str [],.str [],.str [],.str [],.str []],[.int .i64 (aX 0),.int .i64 (aX 0),.int .i64 (aX 0),.int .i64 (aX 0),.bz,.int .i64 (aX 0),.int .i64 (aX 0),.int .i64 (aX 0),.bz,.bz,.bz,.bz,.bz,.int .i64 (aX 0),.int .i64 (aX 0),.int .i64 (aX 0),.bz,.bz,.bool false,.bz,.int .i64 (aX 0)],[.int .i64 (aX 0),.int .i64 (aX 0),.int .i64 (aX 0),.int .i64 (aX 0),.bz,.int .i64 (aX 0),.int .i64 (aX 0),.int .i64 (aX 0),.bz,.bz,.bz,.bz,.bz,.int .i64 (aX 0),.int .i64 (aX 0),.int .i64 (aX 0),.bz,.bz],[.int .u8 (aX 0),.int .u8 (aX 0)],[.int .u8 (aX 0),.int .u8 (aX 0),.int .u8 (aX 0),.int .u8 (aX 0)],[.pR,.pR,.pR],[.bool false],[.int .i64 (aX 0),.int .i64 (aX 0),.int .i64 (aX 0),.int .i64 (aX 0),.int .i64 (aX 0),.bz,.bz],[.int .i64 (aX 0),.int .i64 (aX 0),.int .i64 (aX 0),.int .i64 (aX 0),.int .i64 (aX 0),.int .i64 (aX 0),.int .i64 (aX 0),.int .i64 (aX 0)],[.undef]] i []
def ahi:List (ji->ji):=[D8 λs v x=>{s with x:=x,n:=v},
 aaH λs a c=>{s with o:=[],c:=sR s.l s.o a::c},
 D8 λs m x=>rG x λv x=>X2 v λv=>abY (m-1) v [v] x λl x=>{s with x:=x,l:=l},
 D8 λs v x=>ad9 (abX v s.l) λl=>{s with x:=x,l:=l},
 D8 λs v x=>ad9 (s.l.eraseIdx v) λl=>{s with x:=x,l:=l},
 kz λn a=>ql n 1 (n-a),
 λs=>{s with c:=.ret::s.c},
 λs=>{s with o:=[],p:=(s.l,s.o)::s.p},
 X0 λs a b c=>{s with c:=.seq a b::c},
 X4 λn v => .t (n-v),
 kz λn a=>qL n 1 (n-a),
 λs=>{s with o:=[],c:=.si s.l s.o::s.c},
 od λn=>qm n 0,
 X5 λn v => .t (n-v),
 λs=>{s with c:=.Ji::s.c},
 I1 λn a b=>qm a (n-b),
 od λn=>qi n (aX 0),
 λs=>{s with g:=none},
 kz λn a=>qM n a,
 kz λn a=>qe n (n-a),
 D8 λs v x=>X0 (λs a b c=>{s with x:=x,c:=.ite (.t v) a b::c}) s,
 kz λn a=>qm n a,
 D8 λs v x=>{s with x:=x,g:=some (v,true)},
 kz λn a=>qu n (n-a),
 od λn=>qm n 5,
 D8 λs v x=>aaH (λs a c=>{s with x:=x,c:=.dJ v a::c}) s,
 od λn=>qm n 1,
 kz λn a=>qm n (n-a),
 iS λn a b=>qp n (n-a) (n-b),
 X4 λ_ v => .t v,
 kz λn a=>qf n 1 a,
 D8 λs v x=>{s with x:=x,c:=s.k.getD v .Ji::s.c},
 od λn=>qM n 2,
 D8 λs v x=>D7 s (s.r.getD v default) x (s.n-1),
 od λn=>qb n false,
 I0 λn a b c=>qj n a (n-b) (n-c),
 D8 λs v x=>{s with x:=x,c:=.exit v::s.c},
 iS λn a b=>qk n .lss (n-a) (n-b),
 kz λn a=>qf n 0 (n-a),
 D8 λs v x=>{s with x:=x,g:=some (v,false)},
 kz λn a=>qn n .add (n-a) (aX 1),
 iS λn a b=>qF n a b,
 iS λn a b=>qf n a b,
 iS λn a b=>qa n a b,
 I0 λn a b c=>qJ n a (n-b) (n-c),
 od λn=>qx n 0,
 iS λn a b=>qv n a 1 (n-b),
 iS λn a b=>qO n (.HG 1 (.t (n-a)) (.c (.int .i64 (aX b)))),
 iS λn a b=>qc n a [(n-b)],
 iS λn a b=>qP n (n-a) (n-b),
 D8 λs v x=>X3 (λs m _=>X0 (λs a b c=>{s with x:=x,o:=[],c:=sL s.l s.o v m false a b::c}) s) s,
 D8 λs v x=>X0 (λs a b c=>{s with x:=x,o:=[],c:=sI s.l s.o v a b (c.headD .Ji)::c.tail}) s,
 kz λn a=>qF n 0 (n-a),
 D8 λs v x=>X3 (λs m r=>aaH (λs a c=>{s with x:=x,o:=[],c:=sE s.l s.o v m r a::c}) s) s,
 od λn=>qm n 8,
 od λn=>qm n 3,
 od λn=>qm n 7,
 iS λn a b=>qV n a 1 (n-b),
 od λn=>qm n 9,
 iS λn a b=>qz n (n-a) b,
 od λn=>qm n 6,
 X4 λ_ v => .c (ahf v),
 kz λn a=>qf n a 3,
 FE λn q a=>qo n (.call false (.c (.fn a [] [])) (HQ q)),
 X6 λn a b c d=>qs a b c (n-d),
 I1 λn a b=>qm (n-a) (n-b),
 od λn=>qm n 2,
 FE λn q a=>qo n (.K8 (FZ a) q),
 I1 λ_ a b=>qi a (aX b),
 iS λn a b=>qf n a (n-b),
 od λn=>qm n 4,
 od λn=>qm n 10,
 iS λn a b=>qA n a (n-b),
 I0 λn a b c=>qc n a [(n-b),(n-c)],
 kz λn a=>qf n a 1,
 I0 λn a b c=>qw n a b c,
 X4 λ_ v => .c (.int .i64 (aX v)),
 od λn=>qm n 11,
 X3 λs _ a=>X3 (λs _ b=>{s with o:=[],c:=.Qs s.l s.o (a.headD default) b::s.c}) s,
 iS λn a b=>qF n a (n-b),
 KE λ_ a=>qi a (aX 0),
 KE λn a=>qm 5 (n-a),
 X5 λ_ v => .c (.int .i64 (aX v)),
 kz λn a=>qo n (.nck (.t (n-a))),
 od λn=>qx n 1,
 od λn=>qM n 1,
 X5 λ_ v => .t v,
 iS λn a b=>qn n .gtr (n-a) (aX b),
 I1 λ_ a b=>qo a (.B7 [] (FZ b)),
 UT λn a b c d=>qy n a b (n-c) (n-d),
 od λn=>qM n 0,
 kz λn a=>qF n 0 a,
 iS λn a b=>qA n a b,
 X5 λ_ v => .c (ahf v),
 iS λn a b=>qZ n (n-a) b,
 UT λn a b c d=>qo n (.call false (.c (.fn a [] [])) [(.t (n-b)),(.c (.int .i64 (aX c))),(.c (.int .i64 (aX d)))]),
 Tq λn q=>qo n (.I2 (.seq false) (HQ q)),
 I1 λ_ a b=>qs 4 a 4 b,
 KE λ_ a=>qx a 0,
 iS λn a b=>qk n .mul (n-a) (n-b),
 iS λn a b=>qo n (.call false (.t (n-a)) [(.t (n-b))]),
 kz λn a=>qo n (.B7 [] (FZ a)),
 I1 λn a b=>qM a (n-b),
 kz λn a=>qa n a 3,
 kz λn a=>qf n a 4,
 od λn=>qf n 0 1,
 FE λn q a=>qO n (.K8 (FZ a) q),
 kz λn a=>qa n 4 (n-a),
 iS λn a b=>qn n .eql (n-a) (aX b),
 KE λ_ a=>qb a false,
 FE λn q a=>qO n (.call false (.c (.fn a [] [])) (HQ q)),
 kz λn a=>qO n (.nck (.t (n-a))),
 aea λ_ a b c=>qt a b c,
 od λn=>qm n 12,
 abZ λn q a b c=>qO n (.YN a b (FZ c) q),
 I0 λn a b c=>qW n a b c,
 od λn=>qf n 0 2,
 D8 λs v x=>D7 s (s.r.getD v default) x s.n,
 I0 λn a b c=>qC n a [(n-b),(n-c)],
 od λn=>qm n 18,
 iS λn a b=>qk n .leq (n-a) (n-b),
 od λn=>qm n 14,
 od λn=>qM n 11,
 iS λn a b=>qK n .mul (n-a) (n-b),
 FE λn q a=>qo n (.XM a [] (HQ q)),
 kz λn a=>qi n (aX a),
 kz λn a=>qn n .neq (n-a) (aX 0),
 iS λn a b=>qk n .add (n-a) (n-b),
 UT λn a b c d=>qc n a [(n-b),(n-c),(n-d)],
 X6 λ_ a b c d=>qs a b c d,
 od λn=>qm n 17,
 KE λn a=>qs 6 20 6 (n-a),
 kz λn a=>qc n a [5,6],
 abZ λn q a b c=>qo n (.YN a b (FZ c) q),
 iS λn a b=>⟨(some n),none,false,(.call false (.c (.fn 127 [] [])) [(.t (n-a)),(.c (.int .i64 (aX b)))])⟩,
 iS λn a b=>qn n .geq (n-a) (aX b),
 od λn=>qm n 15,
 aea λn a b c=>qs a 1 (n-b) (n-c),
 iS λn a b=>qk n .sub (n-a) (n-b),
 iS λn a b=>qn n .lss (n-a) (aX b),
 od λn=>qm n 13,
 od λn=>qm n 16,
 λs=>{s with c:=.cF s.l::s.c},
 od λn=>qo n (.mv (.c .bz)),
 I1 λ_ a b=>qm a b,
 iS λn a b=>qw n a 20 b,
 kz λn a=>qN n .sub (n-a) (aX 1),
 I1 λ_ a b=>qo a (.KA b),
 FE λn q a=>⟨(some n),none,false,(.call false (.c (.fn a [] [])) (HQ q))⟩,
 od λn=>qw n 3 20 3,
 kz λn a=>qo n (.I2 .Qj [(.t (n-a))]),
 I1 λ_ a b=>qO a (.B7 [] (FZ b)),
 kz λn a=>qo n (.K8 (FZ a) []),
 od λn=>qo n (.mv (.c (.int .u8 (aX 0)))),
 X6 λn a b c d=>qS a b c (n-d),
 kz λn a=>qE n (n-a),
 X5 λ_ v => .c (.fn v [] []),
 iS λn a b=>qn n .leq (n-a) (aX b),
 ahk λ_ q=>⟨none,none,false,(.mp (.put none) (HQ q))⟩,
 kz λn a=>qo n (.YN 1 1 [(.int .i64 (aX 0))] [(0,1,(.t (n-a)))]),
 kz λn a=>qn n .sub (n-a) (aX 1),
 Tq λn q=>qo n (.I2 .Ln (HQ q)),
 iS λn a b=>qk n .geq (n-a) (n-b),
 UT λn a b c d=>qC n a [(n-b),(n-c),(n-d)],
 kz λn a=>qo n (.KA a),
 iS λn a b=>qk n .neq (n-a) (n-b),
 od λn=>qi n (zC 1),
 UT λn a b c d=>qO n (.app a b (.t (n-c)) (.t (n-d))),
 KE λ_ a=>qo a (.mv (.c .bz)),
 iS λn a b=>qN n .add (n-a) (aX b),
 X4 λ_ v => .c (.fn v [] []),
 iS λn a b=>qo n (.bin .eql (.t (n-a)) (.c (.int .u8 (aX b)))),
 kz λn a=>qO n (.Vf false 1 (.t (n-a))),
 kz λn a=>qo n (.un .neg (.t (n-a))),
 od λn=>qb n true,
 I0 λn a b c=>qo n (.HG a (.t (n-b)) (.c (.int .i64 (aX c)))),
 I0 λn a b c=>qo n (.call false (.c (.fn a [] [])) [(.t (n-b)),(.c (.int .i64 (aX c))),(.c (.int .i64 (aX 1000000)))]),
 iS λn a b=>qK n .sub (n-a) (n-b),
 iS λn a b=>qK n .quo (n-a) (n-b),
 I0 λn a b c=>qO n (.app a b (.c .bz) (.t (n-c))),
 iS λn a b=>qk n .eql (n-a) (n-b),
 iS λn a b=>qk n .gtr (n-a) (n-b),
 aaH λs a c=>{s with c:=.loop s.l false a::c},
 λs=>{s with l:=[]},
 FE λn q a=>qo n (.call true (.c (.fn a [] [])) (HQ q)),
 od λn=>qo n (.mv (.c (.str []))),
 kz λn a=>qO n (.un .not (.t (n-a))),
 I0 λn a b c=>qo n (.Lf a 1 (.t b) (.c (.int .i64 (aX c)))),
 iS λn a b=>qk n .quo a b,
 kz λn a=>qc n a [],
 FE λn q a=>qO n (.call false (.t (n-a)) (HQ q)),
 KE λ_ a=>qo a (.FM (.t 0)),
 X6 λ_ a b c d=>⟨none,none,false,(.H5 a [(0,b)] 1 c (.t d))⟩,
 iS λn a b=>qo n (.mn (.t (n-a)) (.t (n-b))),
 I0 λn a b c=>qo n (.Vj a (.t (n-b)) (some (.c (.int .i64 (aX c)))) none none),
 kz λn a=>qx n a,
 I1 λ_ a b=>⟨none,none,false,(.st [] 1 (.t a) (.c (.int .i64 (aX b))))⟩,
 I1 λ_ a b=>qo a (.Ug [] (FZ b)),
 iS λn a b=>qo n (.mx (.t (n-a)) (.t (n-b))),
 iS λn a b=>qO n (.pick (.t a) (.c (.bool true)) (.t (n-b))),
 KE λ_ a=>⟨none,none,false,(.XZ (.t a))⟩,
 aea λ_ a b c=>⟨none,none,false,(.st [(0,a)] 1 (.t b) (.t c))⟩,
 kz λn a=>qo n (.Lf 3 1 (.t 6) (.c (.int .u8 (aX a)))),
 D8 λs v x=>X2 v λv=>{s with x:=x,l:=v::s.l},
 KE λ_ a=>qo a (.mv (.c (.str []))),
 iS λn a b=>qn n .rem (n-a) (aX b),
 FE λn q a=>qo n (.XM a (HQ q) []),
 iS λn a b=>qo n (.bin .gtr (.t a) (.c (.int .u8 (aX b)))),
 iS λn a b=>qo n (.call false (.c (.fn a [] [])) [(.t b),(.c (.int .i64 (aX 0))),(.c (.int .i64 (aX 1000000000)))]),
 iS λn a b=>qo n (.call false (.c (.fn a [] [])) [(.t b),(.c (.int .i64 (zC 100000))),(.c (.int .i64 (aX 100000)))]),
 kz λn a=>qo n (.mx (.c (.int .i64 (aX 0))) (.t (n-a))),
 iS λn a b=>qO n (.mn (.t (n-a)) (.t (n-b))),
 kz λn a=>qo n (.WU 0 a [] []),
 od λn=>qo n (.isn false false (.t 3)),
 ahj λn q a b=>qo n (.WU a 1 (FZ b) q),
 X6 λ_ a b c d=>⟨none,none,false,(.H5 a [(1,b)] 2 c (.t d))⟩,
 kz λn a=>qO n (.W4 .u8 (.t a)),
 kz λn a=>qo n (.Vf false 1 (.t a)),
 UT λn a b c d=>qo n (.YR 1 a (FZ b) (.t c) (.t d)),
 kz λn a=>qo n (.W4 .u8 (.t a)),
 iS λn a b=>qo n (.bin .mul (.c (.int .i64 (aX a))) (.t b)),
 iS λn a b=>qo n (.bin .lss (.t a) (.c (.int .u8 (aX b)))),
 I0 λn a b c=>qo n (.call false (.c (.fn a [] [])) [(.t b),(.c (.int .i64 (aX c))),(.c (.int .i64 (aX 100000)))]),
 od λn=>qo n (.mp .make []),
 iS λn a b=>qo n (.call false (.c (.fn a [] [])) [(.t b),(.c (.int .i64 (zC 20000))),(.c (.int .i64 (aX 20000)))]),
 iS λn a b=>qo n (.eqv true [(some .i64),(some .i64),(some .i64),(some .i64)] false (.t a) (.t b)),
 KE λ_ a=>qo a (.mv (.c (.int .u8 (aX 0)))),
 kz λn a=>qO n (.Vj 1 (.t a) (some (.c (.int .i64 (aX 1)))) none none),
 kz λn a=>qO n (.K8 (FZ a) []),
 iS λn a b=>qo n (.Vf true a (.t b)),
 kz λn a=>qo n (.isi false (.t a)),
 kz λn a=>qo n (.W4 .i64 (.t a)),
 iS λn a b=>qo n (.Lf 3 1 (.t a) (.t b)),
 iS λn a b=>qO n (.HG a (.t b) (.c (.int .i64 (aX 0)))),
 iS λn a b=>qo n (.bin .leq (.t a) (.c (.int .u8 (aX b)))),
 od λn=>qo n (.Ug [] (FZ 3)),
 od λn=>qo n (.mv (.c .pR)),
 Tq λn q=>qo n (.I2 (.N5 true false) (HQ q)),
 iS λn a b=>qo n (.eqv true [(some .i64),(some .i64),(some .i64),(some .i64)] true (.t a) (.t b)),
 kz λn a=>qO n (.B7 [] (FZ a)),
 iS λn a b=>qo n (.call false (.c (.fn a [] [])) [(.t b),(.c (.int .i64 (aX 1))),(.c (.int .i64 (aX 10000)))]),
 aj0 λ_=>⟨none,none,true,(.st [] 1 (.t 51) (.c (.bool false)))⟩,
 KE λ_ a=>⟨none,none,false,(.st [] 1 (.t a) (.c (.bool true)))⟩,
 FE λn q a=>qO n (.XM a [] (HQ q)),
 I1 λ_ a b=>qO a (.Ug [] (FZ b)),
 kz λn a=>qo n (.call false (.c (.fn 130 [] [])) [(.t a),(.c (.int .i64 (zC 10000000000))),(.c (.int .i64 (aX 10000000000)))]),
 D8 λs v x=>X3 (λs m _=>X0 (λs a b c=>{s with x:=x,o:=[],c:=sL s.l s.o v m true a b::c}) s) s,
 kz λn a=>qo n (.call false (.c (.fn a [] [])) [(.t 13),(.c (.int .i64 (aX 0))),(.c (.int .i64 (aX 1000000000000)))]),
 kz λn a=>qo n (.call false (.c (.fn a [] [])) [(.t 8),(.c (.int .i64 (aX 0))),(.c (.int .i64 (aX 10000000000)))]),
 Tq λn q=>qo n (.mp (.get none (.bool false) false) (HQ q))]
def abW:Nat->ji->Abs.b9
 |0,s=>s.c.headD .Ji
 |k+1,⟨x,n,l,o,p,c,g,q,K,r⟩=>match x with
  |0=>c.headD .Ji
  |1=>c.headD .Ji
  |y+2=>X2 n λn=>ahg 40 21 7 103 (y+2) λa x=>abW k (ahi.getD a id ⟨x,n,l,o,p,c,g,q,K,r⟩)
def ahh:List Char->Nat->Nat
 |[],a=>a
 |c::r,a=>ahh r (a*80+(c.toNat-40-(1-(46-c.toNat))-(1-(48-c.toNat))-(1-(93-c.toNat))))
inductive pkD (K:List Abs.b9) (r:List Abs.Op) (t:String) (c:Abs.b9):Prop
 |mk {x:List Char} (h:t=String.ofList x) (g:abW 100000 ⟨ahh x 0,0,[],[],[],[],none,[],K,r⟩=c):pkD K r t c
def gD(K:List Abs.b9)(r:List Abs.Op)(t:String){c:Abs.b9}(_:pkD K r t c:=by exact .mk rfl (by conv=>lhs;reduce)):Abs.b9:=c
def gC(t:String){c:Abs.b9}(_:pkD [] [] t c:=by exact .mk rfl (by conv=>lhs;reduce)):Abs.b9:=c
@[simp,simp ↓] theorem gDe{K r t c g}:@gD K r t c g=c:=rfl
@[simp,simp ↓] theorem gCe{t c g}:@gC t c g=c:=rfl
@[simp] def zI:D:=.int .i64 0
def an7(x0:List (Nat×List Nat))(x1:List (Nat×List Nat))(x2:List Nat)(x3:List Nat)(x4:List Nat)(x5:List (Nat×List (Nat×Nat)))(x6:List Nat):tx:=⟨x0,x1,x2,x3,x4,x5,x6,[],[],[],[]⟩
end Go.Proofs.YtpapbbojmclkgaaGreatDoor
