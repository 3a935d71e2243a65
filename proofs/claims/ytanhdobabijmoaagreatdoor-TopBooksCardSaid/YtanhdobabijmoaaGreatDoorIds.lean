import Derived.Test.YtanhdobabijmoaaGreatDoorBase13
import Derived.Test.YtanhdobabijmoaaGreatDoorBase21
import Derived.Test.YtanhdobabijmoaaGreatDoorRows
set_option linter.all false
set_option maxRecDepth 100000
namespace Go.Proofs.YtanhdobabijmoaaGreatDoor
open Go Go.aA
noncomputable def chk(p:Nat×ux×aA.Fn):Option aA.Fn:=(Tryz.prog.funcs[p.1]?).bind λF=>if F.name != "runtime.NumGoroutine" && (F.body.isSome && decide (p.1<1000000))then fnC Tryz.prog p.2.1 F else none
@[reducible] def sR(l:List Nat)(r:List aA.Op)(c:aA.cc):aA.cc:=.seq (.tT l r) c
@[reducible] def sE(l:List Nat)(r:List aA.Op)(t:Nat)(m:List Nat)(s:List aA.Op)(c:aA.cc):aA.cc:=.seq (.seq (.tT l r) (.ite (.t t) (.seq (.tT m s) .ret) .Hu)) c
@[reducible] def sI(l:List Nat)(r:List aA.Op)(t:Nat)(a b c:aA.cc):aA.cc:=.seq (.seq (.tT l r) (.ite (.t t) a b)) c
@[reducible] def sL(l:List Nat)(r:List aA.Op)(n:Nat)(m:List Nat)(s:Bool)(a c:aA.cc):aA.cc:=.seq (.seq (.tT l r) (.dr n (.loop m s a))) c
def QN:aA.cc->List (List Nat)
 |.tT l _=>[l]
 |.Om l _ _ _=>[l]
 |.seq a b=>QN a++QN b
 |.ite _ a b=>QN a++QN b
 |.dr _ a=>QN a
 |.loop _ _ a=>QN a
 |.LY _ _ _ a b=>QN a++QN b
 |.iu _ _ _ _ _ a b=>QN a++QN b
 |.Qs _ _ a=>QN a
 |.VY a=>QN a
 |_=>[]
def Se:aA.cc->List (Nat×List Nat)
 |.seq a b=>Se a++Se b
 |.ite _ a b=>Se a++Se b
 |.dr n (.loop l _ a)=>(n,l)::Se a
 |.dr _ a=>Se a
 |.LY _ _ _ a b=>Se a++Se b
 |.iu _ _ _ _ _ a b=>Se a++Se b
 |.Qs _ _ a=>Se a
 |.VY a=>Se a
 |_=>[]
def A4(q:List Nat)(i:Nat)(f:aA.Fn)(a b c:List Nat)(d:List (Nat×List (Nat×Nat)))(e:List Nat)(g:List (Nat×List Nat))(h:List Nat)(j:List (Nat×Option (List Nat)))(k:List (Nat×Option Nat)):Nat×ux×aA.Fn:=(i,⟨(if q=[]then List.range (QN f.body).length else q).zip (QN f.body),Se f.body,a,b,c,d,e,g,h,j,k⟩,f)
def A3(q:List Nat)(i:Nat)(f:aA.Fn)(a b c:List Nat)(d:List (Nat×List (Nat×Nat)))(e:List Nat):Nat×ux×aA.Fn:=A4 q i f a b c d e [] [] [] []
def A2(q:List Nat)(i:Nat)(f:aA.Fn)(a b:List Nat):Nat×ux×aA.Fn:=A3 q i f a b [] [] []
def A1(q:List Nat)(i:Nat)(f:aA.Fn):Nat×ux×aA.Fn:=A3 q i f [] [] [] [] []
def A0(i:Nat)(f:aA.Fn):Nat×ux×aA.Fn:=A1 [] i f
attribute [simp] qA qC qE qF qJ qK qL qM qN qO qP qS qV qW qZ qa qb qc qe qf qg qi qj qk ql qm qn qo qp qs qt qu qv qw qx qy qz
def bf(n:Nat):Int:=n
def CK(n:Nat):Int := -n
@[simp] theorem ahf{n:Nat}:bf n=n:=rfl
@[simp] theorem ahg{n:Nat}:CK n = -n:=rfl
structure jc where
 x:Nat
 n:Nat
 l:List Nat
 o:List aA.Op
 p:List (List Nat×List aA.Op)
 c:List aA.cc
 g:Option (Nat×Bool)
 q:List (Nat×Nat×aA.bI)
 k:List aA.cc
 r:List aA.Op
def ad1{A:Type}(R a S U x:Nat)(k:Nat->Nat->A):A:=cond (Nat.blt (x%R) a) (k (x%R) (x / R)) (cond (Nat.blt (x%R) (R-1)) (k (a+(x%R-a)*S+x / R%S) (x / R / S)) (k (a+(R-1-a)*S+x / R%U) (x / R / U)))
def qq{A:Type}(x:Nat)(k:Nat->Nat->A):A:=ad1 10 7 24 4116 x k
def U5{A:Type}(n:Nat)(k:Nat->A):A:=match n with
 |0=>k 0
 |m+1=>k (m+1)
def aaV{A:Type}:List Nat->(List Nat->A)->A
 |[],k=>k []
 |a::l,k=>U5 a λa=>aaV l λl=>k (a::l)
def Zd(v:Nat):List Nat->List Nat
 |[]=>[v]
 |a::l=>cond (Nat.ble v a) (v::a::l) (a::Zd v l)
def Ze{A:Type}:Nat->Nat->List Nat->Nat->(List Nat->Nat->A)->A
 |0,_,l,x,k=>k l x
 |m+1,b,l,x,k=>qq x λd x=>U5 (b-d-1) λv=>Ze m v (v::l) x k
def agI(g:Option (Nat×Bool))(o:aA.Op):aA.Op:=match g with
 |none=>o
 |some (t,b)=>qg t b o
def CI(s:jc)(o:aA.Op)(x n:Nat):jc:={s with x:=x,n:=n,o:=agI s.g o::s.o,q:=[]}
def CJ(f:jc->Nat->Nat->jc)(s:jc):jc:=qq s.x λv x=>f s v x
def U3(f:jc->aA.cc->List aA.cc->jc)(s:jc):jc:=match s.c with
 |a::c=>f s a c
 |[]=>s
def U4(f:jc->aA.cc->aA.cc->List aA.cc->jc)(s:jc):jc:=match s.c with
 |a::b::c=>f s a b c
 |_=>s
def U6(f:jc->List Nat->List aA.Op->jc)(s:jc):jc:=match s.p with
 |(m,r)::p=>f {s with p:=p} m r
 |[]=>s
def En(q:List (Nat×Nat×aA.bI)):List aA.bI:=q.map λp=>p.2.2
def U7(f:Nat->Nat->aA.bI)(s:jc):jc:=qq s.x λv x=>{s with x:=x,q:=(0,0,f s.n v)::s.q}
def U8(f:Nat->Nat->aA.bI)(s:jc):jc:=qq s.x λa x=>qq x λb x=>qq x λv x=>{s with x:=x,q:=(a,b,f s.n v)::s.q}
def ad6(f:Nat->List (Nat×Nat×aA.bI)->aA.Op)(s:jc):jc:=CI s (f s.n s.q) s.x s.n
def N0(f:Nat->Nat->aA.Op)(s:jc):jc:=qq s.x λa x=>CI s (f s.n a) x s.n
def IX(f:Nat->Nat->Nat->aA.Op)(s:jc):jc:=qq s.x λa x=>qq x λb x=>CI s (f s.n a b) x s.n
def aaW(f:Nat->Nat->Nat->Nat->aA.Op)(s:jc):jc:=qq s.x λa x=>qq x λb x=>qq x λc x=>CI s (f s.n a b c) x s.n
def aaX(f:Nat->Nat->Nat->Nat->Nat->aA.Op)(s:jc):jc:=qq s.x λa x=>qq x λb x=>qq x λc x=>qq x λd x=>CI s (f s.n a b c d) x s.n
def agJ(f:Nat->Nat->Nat->Nat->Nat->Nat->aA.Op)(s:jc):jc:=qq s.x λa x=>qq x λb x=>qq x λc x=>qq x λd x=>qq x λe x=>CI s (f s.n a b c d e) x s.n
def vM(f:Nat->aA.Op)(s:jc):jc:=CI s (f s.n) s.x (s.n-1)
def IW(f:Nat->List (Nat×Nat×aA.bI)->aA.Op)(s:jc):jc:=CI s (f s.n s.q) s.x (s.n-1)
def uc(f:Nat->Nat->aA.Op)(s:jc):jc:=qq s.x λa x=>CI s (f s.n a) x (s.n-1)
def DN(f:Nat->List (Nat×Nat×aA.bI)->Nat->aA.Op)(s:jc):jc:=qq s.x λa x=>CI s (f s.n s.q a) x (s.n-1)
def qB(f:Nat->Nat->Nat->aA.Op)(s:jc):jc:=qq s.x λa x=>qq x λb x=>CI s (f s.n a b) x (s.n-1)
def ad4(f:Nat->List (Nat×Nat×aA.bI)->Nat->Nat->aA.Op)(s:jc):jc:=qq s.x λa x=>qq x λb x=>CI s (f s.n s.q a b) x (s.n-1)
def JN(f:Nat->Nat->Nat->Nat->aA.Op)(s:jc):jc:=qq s.x λa x=>qq x λb x=>qq x λc x=>CI s (f s.n a b c) x (s.n-1)
def ad5(f:Nat->List (Nat×Nat×aA.bI)->Nat->Nat->Nat->aA.Op)(s:jc):jc:=qq s.x λa x=>qq x λb x=>qq x λc x=>CI s (f s.n s.q a b c) x (s.n-1)
def XZ(f:Nat->Nat->Nat->Nat->Nat->aA.Op)(s:jc):jc:=qq s.x λa x=>qq x λb x=>qq x λc x=>qq x λd x=>CI s (f s.n a b c d) x (s.n-1)
def ad0(i:Nat):D:=List.getD [.bool false,.str [109,111,100,101,108],.str [],.bP,.bool true,.str [108,111,103],.str [102,105,101,108,100],.int .i64 (CK 100000),.str [116,105,99,107],.str [32],.str [101,110,100],.str [117,110,105,116],.str [113,117,97,107,101],.str [116,97,98,108,101],.str [114,117,108,101],.str [107,101,101,112],.str [119,101,108,108],.str [98,101,100],.str [115,101,108,108],.str [114,101,97,100],.str [45],.str [10],.int .i64 (CK 1),.str [116],.str [107,101,101,112,32,57,32,56,32,55],.str [109,111,100,101,108,32],.str [48],.str [48,49,50,51,52,53,54,55,56,57],.int .i64 (CK 999999999),.int .i64 (CK 1000),.int .i64 (CK 20000)] i .undef
def Fk(i:Nat):List D:=List.getD [[.int .i64 (bf 0)],[.int .i64 (bf 0),.int .i64 (bf 0)],[.int .i64 (bf 0),.int .i64 (bf 0),.int .i64 (bf 0),.int .i64 (bf 0)],[.int .i64 (bf 0),.int .i64 (bf 0),.int .i64 (bf 0)],[.bool false,.int .i64 (bf 0),.int .i64 (bf 0),.se],[.str [],.bP],[.int .i64 (bf 0),.int .i64 (bf 0),.int .i64 (bf 0),.int .i64 (bf 0),.bP,.int .i64 (bf 0),.int .i64 (bf 0),.int .i64 (bf 0),.bP,.str [],.bP],[.str [],.int .i64 (bf 0),.bP,.bP,.int .i64 (bf 0),.int .i64 (bf 0)],[.int .i64 (bf 0),.bP],[.bP],[.int .i64 (bf 0),.int .i64 (bf 0),.int .i64 (bf 0),.int .i64 (bf 0),.int .i64 (bf 0)],[.str [],.bP,.bool false,.int .i64 (bf 0)],[.bP,.bP],[.int .i64 (bf 0),.int .u8 (bf 0),.int .i64 (bf 0),.int .i64 (bf 0),.int .i64 (bf 0)],[.int .i64 (bf 0),.int .i64 (bf 0),.int .i64 (bf 0),.int .i64 (bf 0),.int .i64 (bf 0),.int .i64 (bf 0),.int .i64 (bf 0),.int .i64 (bf 0),.int .i64 (bf 0),.int .i64 (bf 0)],[.int .i64 (bf 0),.int .i64 (bf 0),.int .i64 (bf 0),.int .i64 (bf 0),.bP,.int .i64 (bf 0),.int .i64 (bf 0),.int .i64 (bf 0),.bP,.bP,.bP,.bP,.bP,.int .i64 (bf 0),.int .i64 (bf 0),.int .i64 (bf 0),.bP,.bP],[.int .i64 (bf 0),.int .i64 (bf 0),.int .i64 (bf 0),.int .i64 (bf 0),.int .i64 (bf 0),.int .i64 (bf 0),.int .i64 (bf 0),.int .i64 (bf 0),.int .i64 (bf 0),.int .u8 (bf 0)],[.str []],[.se,.se],[.se,.se,.se],[.int .i64 (bf 0),.int .i64 (bf 0),.int .i64 (bf 0),.int .i64 (bf 0),.bP,.int .i64 (bf 0),.int .i64 (bf 0),.int .i64 (bf 0),.bP],[.int .i64 (bf 0),.int .i64 (bf 0),.int .i64 (bf 0),.int .i64 (bf 0),.int .i64 (bf 0),.int .i64 (bf 0)],[.se,.se,.se,.se,.se],[.xU],[.int .i64 (bf 0),.int .i64 (bf 0),.int .i64 (bf 0),.int .i64 (bf 0),.str [],.int .i64 (bf 0),.bP],[.int .u8 (bf 0)],[.int .i64 (bf 0),.int .i64 (bf 0),.int .i64 (bf 0),.int .i64 (bf 0),.bP,.int .i64 (bf 0),.int .i64 (bf 0),.int .i64 (bf 0),.bP,.bP,.bP,.bP,.bP,.int .i64 (bf 0),.int .i64 (bf 0),.int .i64 (bf 0),.bP,.bP,.bool false,.bP,.int .i64 (bf 0)],[.int .i64 (bf 0),.int .i64 (bf 0),.int .i64 (bf 0),.int .i64 (bf 0),.int .i64 (bf 0),.bP,.bP],[.bool false],[.int .i64 (bf 0),.int .i64 (bf 0),.int .i64 (bf 0),.int .i64 (bf 0),.int .i64 (bf 0),.int .i64 (bf 0),.int .i64 (bf 0),.int .i64 (bf 0)],[.undef]] i []
def ad3:List (jc->jc):=[U3 λs a c=>{s with o:=[],c:=sR s.l s.o a::c},
 CJ λs v x=>{s with x:=x,n:=v},
 CJ λs m x=>qq x λv x=>U5 v λv=>Ze (m-1) v [v] x λl x=>{s with x:=x,l:=l},
 CJ λs v x=>aaV (Zd v s.l) λl=>{s with x:=x,l:=l},
 CJ λs v x=>aaV (s.l.eraseIdx v) λl=>{s with x:=x,l:=l},
 uc λn a=>ql n 1 (n-a),
 λs=>{s with o:=[],p:=(s.l,s.o)::s.p},
 λs=>{s with c:=.ret::s.c},
 U7 λn v => .t (n-v),
 uc λn a=>qm n a,
 vM λn=>qm n 0,
 U4 λs a b c=>{s with c:=.seq a b::c},
 IX λn a b=>qm a (n-b),
 λs=>{s with o:=[],c:=.tT s.l s.o::s.c},
 uc λn a=>qL n 1 (n-a),
 U8 λn v => .t (n-v),
 λs=>{s with c:=.Hu::s.c},
 vM λn=>qi n (bf 0),
 CJ λs v x=>U4 (λs a b c=>{s with x:=x,c:=.ite (.t v) a b::c}) s,
 uc λn a=>qe n (n-a),
 qB λn a b=>qa n a (n-b),
 λs=>{s with g:=none},
 U7 λ_ v => .t v,
 qB λn a b=>qf n a b,
 CJ λs v x=>CI s (s.r.getD v default) x (s.n-1),
 uc λn a=>qf n 0 (n-a),
 uc λn a=>qM n a,
 uc λn a=>qm n (n-a),
 vM λn=>qm n 1,
 CJ λs v x=>U3 (λs a c=>{s with x:=x,c:=.dr v a::c}) s,
 vM λn=>qm n 5,
 CJ λs v x=>{s with x:=x,g:=some (v,true)},
 vM λn=>qb n false,
 U7 λ_ v => .c (.int .i64 (bf v)),
 CJ λs v x=>{s with x:=x,c:=s.k.getD v .Hu::s.c},
 uc λn a=>qu n (n-a),
 JN λn a b c=>qj n a (n-b) (n-c),
 qB λn a b=>qp n (n-a) (n-b),
 CJ λs v x=>{s with x:=x,c:=.exit v::s.c},
 vM λn=>qm n 8,
 U6 λs _ a=>U6 (λs _ b=>{s with o:=[],c:=.Om s.l s.o (a.headD default) b::s.c}) s,
 uc λn a=>qn n .add (n-a) (bf 1),
 qB λn a b=>qk n .lss (n-a) (n-b),
 DN λn q a=>qo n (.call false (.c (.fn a [] [])) (En q)),
 qB λn a b=>qc n a [(n-b)],
 uc λn a=>qF n 0 (n-a),
 vM λn=>qx n 0,
 U7 λ_ v => .c (ad0 v),
 JN λn a b c=>qO n (.He a (.t (n-b)) (.c (.int .i64 (bf c)))),
 IX λ_ a b=>qi a (bf b),
 CJ λs v x=>U6 (λs m _=>U4 (λs a b c=>{s with x:=x,o:=[],c:=sL s.l s.o v m false a b::c}) s) s,
 qB λn a b=>qf n a (n-b),
 CJ λs v x=>{s with x:=x,g:=some (v,false)},
 uc λn a=>qo n (.XR (.t (n-a))),
 qB λn a b=>qz n (n-a) b,
 qB λn a b=>qP n (n-a) (n-b),
 uc λn a=>qf n 1 a,
 vM λn=>qm n 7,
 qB λn a b=>qF n a b,
 vM λn=>qm n 4,
 qB λn a b=>qv n a 1 (n-b),
 qB λn a b=>qF n a (n-b),
 qB λn a b=>qA n a b,
 aaX λn a b c d=>qs a b c (n-d),
 vM λn=>qm n 2,
 vM λn=>qM n 2,
 CJ λs v x=>U6 (λs m r=>U3 (λs a c=>{s with x:=x,o:=[],c:=sE s.l s.o v m r a::c}) s) s,
 vM λn=>qm n 9,
 DN λn q a=>qo n (.JB (Fk a) q),
 vM λn=>qm n 6,
 CJ λs v x=>U4 (λs a b c=>{s with x:=x,o:=[],c:=sI s.l s.o v a b (c.headD .Hu)::c.tail}) s,
 N0 λn a=>qm 5 (n-a),
 vM λn=>qm n 3,
 CJ λs v x=>CI s (s.r.getD v default) x s.n,
 IX λ_ a b=>qo a (.AW [] (Fk b)),
 DN λn q a=>qo n (.call false (.t (n-a)) (En q)),
 uc λn a=>qO n (.XR (.t (n-a))),
 DN λn q a=>⟨(some n),none,false,(.call false (.c (.fn a [] [])) (En q))⟩,
 vM λn=>qM n 0,
 JN λn a b c=>qc n a [(n-b),(n-c)],
 U8 λ_ v => .c (.int .i64 (bf v)),
 IX λn a b=>qm (n-a) (n-b),
 JN λn a b c=>qJ n a (n-b) (n-c),
 U8 λ_ v => .t v,
 uc λn a=>qx n a,
 JN λn a b c=>qw n a b c,
 qB λn a b=>qn n .gtr (n-a) (bf b),
 ad5 λn q a b c=>qo n (.W6 a b (Fk c) q),
 qB λn a b=>qn n .eql (n-a) (bf b),
 DN λn q a=>qo n (.UJ a [] (En q)),
 N0 λ_ a=>qx a 0,
 XZ λn a b c d=>qy n a b (n-c) (n-d),
 vM λn=>qm n 11,
 uc λn a=>qc n a [5,6],
 vM λn=>qf n 0 2,
 qB λn a b=>qZ n (n-a) b,
 uc λn a=>qn n .neq (n-a) (bf 0),
 vM λn=>qm n 18,
 IW λn q=>qo n (.GO (.seq false) (En q)),
 IX λn a b=>qM a (n-b),
 N0 λ_ a=>qb a false,
 qB λn a b=>qV n a 1 (n-b),
 DN λn q a=>qO n (.JB (Fk a) q),
 qB λn a b=>⟨(some n),none,false,(.call false (.c (.fn 72 [] [])) [(.t (n-a)),(.c (.int .i64 (bf b)))])⟩,
 aaX λ_ a b c d=>qs a b c d,
 IX λn a b=>qt 1 (n-a) (n-b),
 vM λn=>qm n 12,
 JN λn a b c=>qC n a [(n-b),(n-c)],
 qB λn a b=>qk n .leq (n-a) (n-b),
 ad4 λn q a b=>qO n (.W6 1 a (Fk b) q),
 qB λn a b=>qk n .mul (n-a) (n-b),
 uc λn a=>qi n (bf a),
 IX λ_ a b=>qo a (.IT b),
 uc λn a=>qo n (.GO .Vw [(.t (n-a))]),
 JN λn a b c=>qW n a b c,
 qB λn a b=>qk n .add (n-a) (n-b),
 aaW λ_ a b c=>qt a b c,
 qB λn a b=>qK n .mul (n-a) (n-b),
 U8 λ_ v => .c (ad0 v),
 qB λn a b=>qn n .lss (n-a) (bf b),
 DN λn q a=>qO n (.call false (.c (.fn a [] [])) (En q)),
 XZ λn a b c d=>qc n a [(n-b),(n-c),(n-d)],
 qB λn a b=>qn n .geq a (bf b),
 U8 λ_ v => .c (.fn v [] []),
 uc λn a=>qo n (.AW [] (Fk a)),
 ad6 λ_ q=>⟨none,none,false,(.mp (.put none) (En q))⟩,
 JN λn a b c=>qo n (.He a (.t (n-b)) (.c (.int .i64 (bf c)))),
 U7 λ_ v => .c (.fn v [] []),
 vM λn=>qi n (CK 1),
 qB λn a b=>qk n .sub (n-a) (n-b),
 uc λn a=>qo n (.IT a),
 vM λn=>qo n (.mv (.c .bP)),
 uc λn a=>qo n (.JB (Fk a) []),
 CJ λs v x=>U5 v λv=>{s with x:=x,l:=v::s.l},
 uc λn a=>qn n .sub (n-a) (bf 1),
 IW λn q=>qo n (.GO .Ps (En q)),
 XZ λn a b c d=>qO n (.app a b (.t (n-c)) (.t (n-d))),
 λs=>{s with l:=[]},
 IX λ_ a b=>⟨none,none,false,(.st [] 1 (.t a) (.c (.int .i64 (bf b))))⟩,
 vM λn=>qo n (.mv (.c (.int .u8 (bf 0)))),
 qB λn a b=>qk n .neq (n-a) (n-b),
 U3 λs a c=>{s with c:=.loop s.l false a::c},
 uc λn a=>qE n (n-a),
 uc λn a=>qO n (.VU false 1 (.t (n-a))),
 λs=>{s with c:=.cC s.l::s.c},
 qB λn a b=>qn n .leq (n-a) (bf b),
 vM λn=>qo n (.mv (.c (.str []))),
 N0 λ_ a=>qo a (.mv (.c .bP)),
 qB λn a b=>qk n .eql (n-a) (n-b),
 uc λn a=>qo n (.un .neg (.t a)),
 N0 λ_ a=>⟨none,none,false,(.U1 (.t a))⟩,
 JN λn a b c=>qo n (.Vv a (.t (n-b)) (some (.c (.int .i64 (bf c)))) none none),
 aaX λn a b c d=>qS a b c (n-d),
 N0 λ_ a=>qo a (.mv (.c (.str []))),
 IX λ_ a b=>qo a (.RE [] (Fk b)),
 uc λn a=>qo n (.RE [] (Fk a)),
 qB λn a b=>qo n (.bin .eql (.t (n-a)) (.c (.int .u8 (bf b)))),
 qB λn a b=>qk n .geq (n-a) (n-b),
 aaW λ_ a b c=>⟨none,none,false,(.st [(0,a)] 1 (.t b) (.t c))⟩,
 qB λn a b=>qk n .gtr (n-a) (n-b),
 IX λ_ a b=>qO a (.AW [] (Fk b)),
 DN λn q a=>qo n (.call true (.c (.fn a [] [])) (En q)),
 IW λn q=>qo n (.GO .Vs (En q)),
 qB λn a b=>qn n .rem (n-a) (bf b),
 qB λn a b=>qo n (.UJ a [(.t b)] []),
 agJ λ_ a b c d e=>⟨none,none,false,(.Hj 6 [(a,b)] c d (.t e))⟩,
 JN λn a b c=>qo n (.call false (.c (.fn a [] [])) [(.t b),(.c (.int .i64 (bf c))),(.c (.int .i64 (bf 1000000)))]),
 uc λn a=>qo n (.Hc 3 1 (.t 6) (.c (.int .u8 (bf a)))),
 IW λn q=>qo n (.GO (.seq true) (En q)),
 qB λn a b=>qo n (.mn (.t a) (.t b)),
 uc λn a=>qo n (.Xv false (.t a)),
 XZ λn a b c d=>qo n (.VV 1 a (Fk b) (.t c) (.t d)),
 vM λn=>qo n (.mp .make []),
 qB λn a b=>qo n (.call false (.c (.fn a [] [])) [(.t b),(.c (.int .i64 (CK 100000))),(.c (.int .i64 (bf 100000)))]),
 qB λn a b=>qo n (.mx (.t (n-a)) (.t (n-b))),
 vM λn=>qc n 6 [],
 aaW λ_ a b c=>⟨none,none,true,(.st [] a (.t b) (.t c))⟩,
 uc λn a=>qO n (.Vv 1 (.t a) (some (.c (.int .i64 (bf 1)))) none none),
 IW λn q=>qo n (.GO (.Mc true false) (En q)),
 uc λn a=>qO n (.JB (Fk a) []),
 vM λn=>qo n (.mv (.c .se)),
 vM λn=>qo n (.Xw false false (.t 3)),
 N0 λ_ a=>qo a (.mv (.c (.int .u8 (bf 0)))),
 uc λn a=>qo n (.mx (.c (.int .i64 (bf 0))) (.t a)),
 qB λn a b=>qo n (.eqv true [(some .i64),(some .i64),(some .i64),(some .i64)] true (.t a) (.t b)),
 DN λn q a=>qo n (.RJ 1 1 (Fk a) q),
 IW λn q=>qo n (.GO (.Mc false true) (En q)),
 IW λn q=>qo n (.mp (.get none (.bool false) false) (En q)),
 N0 λ_ a=>⟨none,none,false,(.st [] 1 (.t a) (.c (.bool true)))⟩,
 DN λn q a=>qO n (.UJ a [] (En q)),
 IX λ_ a b=>qO a (.RE [] (Fk b)),
 CJ λs v x=>U6 (λs m _=>U4 (λs a b c=>{s with x:=x,o:=[],c:=sL s.l s.o v m true a b::c}) s) s,
 qB λn a b=>qo n (.call false (.c (.fn a [] [])) [(.t b),(.c (.int .i64 (bf 1))),(.c (.int .i64 (bf 100000)))]),
 qB λn a b=>qo n (.call false (.c (.fn a [] [])) [(.t b),(.c (.int .i64 (bf 0))),(.c (.int .i64 (bf 1000000000)))]),
 U3 λs a c=>{s with c:=.VY a::c}]
def Zc:Nat->jc->aA.cc
 |0,s=>s.c.headD .Hu
 |k+1,⟨x,n,l,o,p,c,g,q,K,r⟩=>match x with
  |0=>c.headD .Hu
  |1=>c.headD .Hu
  |y+2=>U5 n λn=>ad1 31 14 6 85 (y+2) λa x=>Zc k (ad3.getD a id ⟨x,n,l,o,p,c,g,q,K,r⟩)
def ad2:List Char->Nat->Nat
 |[],a=>a
 |c::r,a=>ad2 r (a*80+(c.toNat-40-(1-(46-c.toNat))-(1-(48-c.toNat))-(1-(93-c.toNat))))
inductive pkD (K:List aA.cc) (r:List aA.Op) (t:String) (c:aA.cc):Prop
 |mk {x:List Char} (h:t=String.ofList x) (g:Zc 100000 ⟨ad2 x 0,0,[],[],[],[],none,[],K,r⟩=c):pkD K r t c
def gD(K:List aA.cc)(r:List aA.Op)(t:String){c:aA.cc}(_:pkD K r t c:=by exact .mk rfl (by conv=>lhs;reduce)):aA.cc:=c
def gC(t:String){c:aA.cc}(_:pkD [] [] t c:=by exact .mk rfl (by conv=>lhs;reduce)):aA.cc:=c
@[simp,simp ↓] theorem gDe{K r t c g}:@gD K r t c g=c:=rfl
@[simp,simp ↓] theorem gCe{t c g}:@gC t c g=c:=rfl
@[simp] def zI:D:=.int .i64 0
def an7(x0:List (Nat×List Nat))(x1:List (Nat×List Nat))(x2:List Nat)(x3:List Nat)(x4:List Nat)(x5:List (Nat×List (Nat×Nat)))(x6:List Nat):ux:=⟨x0,x1,x2,x3,x4,x5,x6,[],[],[],[]⟩
end Go.Proofs.YtanhdobabijmoaaGreatDoor
