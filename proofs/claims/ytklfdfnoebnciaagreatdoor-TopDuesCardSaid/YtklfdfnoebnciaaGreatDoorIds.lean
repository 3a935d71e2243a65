import Derived.Test.YtklfdfnoebnciaaGreatDoorBase14
import Derived.Test.YtklfdfnoebnciaaGreatDoorBase21
import Derived.Test.YtklfdfnoebnciaaGreatDoorRows
set_option linter.all false
set_option maxRecDepth 100000
namespace Go.Proofs.YtklfdfnoebnciaaGreatDoor
open Go Go.az
noncomputable def Yl(p:Nat×tW×az.Fn):Option az.Fn:=(Tryz.prog.funcs[p.1]?).bind λF=>if F.name != "runtime.NumGoroutine" && (F.body.isSome && decide (p.1<1000000))then fnC Tryz.prog p.2.1 F else none
@[reducible] def sR(l:List Nat)(r:List az.Op)(c:az.bX):az.bX:=.seq (.sy l r) c
@[reducible] def sE(l:List Nat)(r:List az.Op)(t:Nat)(m:List Nat)(s:List az.Op)(c:az.bX):az.bX:=.seq (.seq (.sy l r) (.ite (.t t) (.seq (.sy m s) .ret) .FB)) c
@[reducible] def sI(l:List Nat)(r:List az.Op)(t:Nat)(a b c:az.bX):az.bX:=.seq (.seq (.sy l r) (.ite (.t t) a b)) c
@[reducible] def sL(l:List Nat)(r:List az.Op)(n:Nat)(m:List Nat)(s:Bool)(a c:az.bX):az.bX:=.seq (.seq (.sy l r) (.cT n (.loop m s a))) c
def NC:az.bX->List (List Nat)
 |.sy l _=>[l]
 |.Lh l _ _ _=>[l]
 |.seq a b=>NC a++NC b
 |.ite _ a b=>NC a++NC b
 |.cT _ a=>NC a
 |.loop _ _ a=>NC a
 |.Jw _ _ _ a b=>NC a++NC b
 |.gv _ _ _ _ _ a b=>NC a++NC b
 |.OI _ _ a=>NC a
 |.VC a=>NC a
 |_=>[]
def O7:az.bX->List (Nat×List Nat)
 |.seq a b=>O7 a++O7 b
 |.ite _ a b=>O7 a++O7 b
 |.cT n (.loop l _ a)=>(n,l)::O7 a
 |.cT _ a=>O7 a
 |.Jw _ _ _ a b=>O7 a++O7 b
 |.gv _ _ _ _ _ a b=>O7 a++O7 b
 |.OI _ _ a=>O7 a
 |.VC a=>O7 a
 |_=>[]
def A4(q:List Nat)(i:Nat)(f:az.Fn)(a b c:List Nat)(d:List (Nat×List (Nat×Nat)))(e:List Nat)(g:List (Nat×List Nat))(h:List Nat)(j:List (Nat×Option (List Nat)))(k:List (Nat×Option Nat)):Nat×tW×az.Fn:=(i,⟨(if q=[]then List.range (NC f.body).length else q).zip (NC f.body),O7 f.body,a,b,c,d,e,g,h,j,k⟩,f)
def A3(q:List Nat)(i:Nat)(f:az.Fn)(a b c:List Nat)(d:List (Nat×List (Nat×Nat)))(e:List Nat):Nat×tW×az.Fn:=A4 q i f a b c d e [] [] [] []
def A2(q:List Nat)(i:Nat)(f:az.Fn)(a b:List Nat):Nat×tW×az.Fn:=A3 q i f a b [] [] []
def A1(q:List Nat)(i:Nat)(f:az.Fn):Nat×tW×az.Fn:=A3 q i f [] [] [] [] []
def A0(i:Nat)(f:az.Fn):Nat×tW×az.Fn:=A1 [] i f
attribute [simp] qA qC qE qF qJ qK qL qM qN qO qP qS qV qW qZ qa qb qc qe qf qg qi qj qk ql qm qn qo qp qs qt qu qv qw qx qy qz
def aW(n:Nat):Int:=n
def AV(n:Nat):Int := -n
@[simp] theorem adu{n:Nat}:aW n=n:=rfl
@[simp] theorem adv{n:Nat}:AV n = -n:=rfl
structure iX where
 x:Nat
 n:Nat
 l:List Nat
 o:List az.Op
 p:List (List Nat×List az.Op)
 c:List az.bX
 g:Option (Nat×Bool)
 q:List (Nat×Nat×az.bD)
 k:List az.bX
 r:List az.Op
def aac{A:Type}(R a S U x:Nat)(k:Nat->Nat->A):A:=cond (Nat.blt (x%R) a) (k (x%R) (x / R)) (cond (Nat.blt (x%R) (R-1)) (k (a+(x%R-a)*S+x / R%S) (x / R / S)) (k (a+(R-1-a)*S+x / R%U) (x / R / U)))
def rE{A:Type}(x:Nat)(k:Nat->Nat->A):A:=aac 10 7 17 4130 x k
def RO{A:Type}(n:Nat)(k:Nat->A):A:=match n with
 |0=>k 0
 |m+1=>k (m+1)
def Xc{A:Type}:List Nat->(List Nat->A)->A
 |[],k=>k []
 |a::l,k=>RO a λa=>Xc l λl=>k (a::l)
def Vi(v:Nat):List Nat->List Nat
 |[]=>[v]
 |a::l=>cond (Nat.ble v a) (v::a::l) (a::Vi v l)
def Vj{A:Type}:Nat->Nat->List Nat->Nat->(List Nat->Nat->A)->A
 |0,_,l,x,k=>k l x
 |m+1,b,l,x,k=>rE x λd x=>RO (b-d-1) λv=>Vj m v (v::l) x k
def acX(g:Option (Nat×Bool))(o:az.Op):az.Op:=match g with
 |none=>o
 |some (t,b)=>qg t b o
def BW(s:iX)(o:az.Op)(x n:Nat):iX:={s with x:=x,n:=n,o:=acX s.g o::s.o,q:=[]}
def AU(f:iX->Nat->Nat->iX)(s:iX):iX:=rE s.x λv x=>f s v x
def Uf(f:iX->az.bX->List az.bX->iX)(s:iX):iX:=match s.c with
 |a::c=>f s a c
 |[]=>s
def RN(f:iX->az.bX->az.bX->List az.bX->iX)(s:iX):iX:=match s.c with
 |a::b::c=>f s a b c
 |_=>s
def RP(f:iX->List Nat->List az.Op->iX)(s:iX):iX:=match s.p with
 |(m,r)::p=>f {s with p:=p} m r
 |[]=>s
def GM(q:List (Nat×Nat×az.bD)):List az.bD:=q.map λp=>p.2.2
def RQ(f:Nat->Nat->az.bD)(s:iX):iX:=rE s.x λv x=>{s with x:=x,q:=(0,0,f s.n v)::s.q}
def RR(f:Nat->Nat->az.bD)(s:iX):iX:=rE s.x λa x=>rE x λb x=>rE x λv x=>{s with x:=x,q:=(a,b,f s.n v)::s.q}
def aah(f:Nat->List (Nat×Nat×az.bD)->az.Op)(s:iX):iX:=BW s (f s.n s.q) s.x s.n
def Ph(f:Nat->Nat->az.Op)(s:iX):iX:=rE s.x λa x=>BW s (f s.n a) x s.n
def Jn(f:Nat->Nat->Nat->az.Op)(s:iX):iX:=rE s.x λa x=>rE x λb x=>BW s (f s.n a b) x s.n
def aai(f:Nat->Nat->Nat->Nat->az.Op)(s:iX):iX:=rE s.x λa x=>rE x λb x=>rE x λc x=>BW s (f s.n a b c) x s.n
def RT(f:Nat->Nat->Nat->Nat->Nat->az.Op)(s:iX):iX:=rE s.x λa x=>rE x λb x=>rE x λc x=>rE x λd x=>BW s (f s.n a b c d) x s.n
def vZ(f:Nat->az.Op)(s:iX):iX:=BW s (f s.n) s.x (s.n-1)
def RS(f:Nat->List (Nat×Nat×az.bD)->az.Op)(s:iX):iX:=BW s (f s.n s.q) s.x (s.n-1)
def pS(f:Nat->Nat->az.Op)(s:iX):iX:=rE s.x λa x=>BW s (f s.n a) x (s.n-1)
def DD(f:Nat->List (Nat×Nat×az.bD)->Nat->az.Op)(s:iX):iX:=rE s.x λa x=>BW s (f s.n s.q a) x (s.n-1)
def oE(f:Nat->Nat->Nat->az.Op)(s:iX):iX:=rE s.x λa x=>rE x λb x=>BW s (f s.n a b) x (s.n-1)
def aaf(f:Nat->List (Nat×Nat×az.bD)->Nat->Nat->az.Op)(s:iX):iX:=rE s.x λa x=>rE x λb x=>BW s (f s.n s.q a b) x (s.n-1)
def Hy(f:Nat->Nat->Nat->Nat->az.Op)(s:iX):iX:=rE s.x λa x=>rE x λb x=>rE x λc x=>BW s (f s.n a b c) x (s.n-1)
def aag(f:Nat->List (Nat×Nat×az.bD)->Nat->Nat->Nat->az.Op)(s:iX):iX:=rE s.x λa x=>rE x λb x=>rE x λc x=>BW s (f s.n s.q a b c) x (s.n-1)
def Ug(f:Nat->Nat->Nat->Nat->Nat->az.Op)(s:iX):iX:=rE s.x λa x=>rE x λb x=>rE x λc x=>rE x λd x=>BW s (f s.n a b c d) x (s.n-1)
def aab(i:Nat):D:=List.getD [.bool false,.bool true,.bN,.int .i64 (AV 100000),.str [116,105,99,107],.str [109,111,100,101,108],.int .i64 (AV 1),.str [107,101,101,112,32,57,32,56,32,55],.str [32],.str [115,101,108,108],.str [117,110,105,116],.str [114,101,97,100],.str [113,117,97,107,101],.str [107,101,101,112],.str [114,117,108,101],.str [108,111,103],.str [119,101,108,108],.str [98,101,100],.str [116,97,98,108,101],.str [102,105,101,108,100],.int .i64 (AV 999999999),.int .i64 (AV 1000),.int .i64 (AV 20000)] i .undef
def Fk(i:Nat):List D:=List.getD [[.int .i64 (aW 0),.int .i64 (aW 0)],[.int .i64 (aW 0),.int .i64 (aW 0),.int .i64 (aW 0)],[.int .i64 (aW 0)],[.int .i64 (aW 0),.int .i64 (aW 0),.int .i64 (aW 0),.int .i64 (aW 0)],[.bool false,.int .i64 (aW 0),.int .i64 (aW 0),.pR],[.int .i64 (aW 0),.bN],[.int .i64 (aW 0),.int .i64 (aW 0),.int .i64 (aW 0),.int .i64 (aW 0),.bN,.int .i64 (aW 0),.int .i64 (aW 0),.int .i64 (aW 0),.bN,.str [],.bN],[.str [],.bN],[.bN],[.int .i64 (aW 0),.int .i64 (aW 0),.int .i64 (aW 0),.int .i64 (aW 0),.int .i64 (aW 0)],[.str [],.bN,.bool false,.int .i64 (aW 0)],[.int .i64 (aW 0),.int .i64 (aW 0),.int .i64 (aW 0),.int .i64 (aW 0),.bN,.int .i64 (aW 0),.int .i64 (aW 0),.int .i64 (aW 0),.bN,.bN,.bN,.bN,.bN,.int .i64 (aW 0),.int .i64 (aW 0),.int .i64 (aW 0),.bN,.bN],[.bN,.bN],[.int .i64 (aW 0),.int .u8 (aW 0),.int .i64 (aW 0),.int .i64 (aW 0),.int .i64 (aW 0)],[.int .i64 (aW 0),.int .i64 (aW 0),.int .i64 (aW 0),.int .i64 (aW 0),.int .i64 (aW 0),.int .i64 (aW 0),.int .i64 (aW 0),.int .i64 (aW 0),.int .i64 (aW 0),.int .i64 (aW 0)],[.int .i64 (aW 0),.int .i64 (aW 0),.int .i64 (aW 0),.int .i64 (aW 0),.int .i64 (aW 0),.int .i64 (aW 0),.int .i64 (aW 0),.int .i64 (aW 0),.int .i64 (aW 0),.int .u8 (aW 0)],[.str [],.int .i64 (aW 0),.bN,.bN,.int .i64 (aW 0),.int .i64 (aW 0)],[.str []],[.int .i64 (aW 0),.int .i64 (aW 0),.int .i64 (aW 0),.int .i64 (aW 0),.bN,.int .i64 (aW 0),.int .i64 (aW 0),.int .i64 (aW 0),.bN],[.int .i64 (aW 0),.int .i64 (aW 0),.int .i64 (aW 0),.int .i64 (aW 0),.int .i64 (aW 0),.int .i64 (aW 0)],[.pR,.pR],[.pR,.pR,.pR,.pR,.pR],[.int .i64 (aW 0),.int .i64 (aW 0),.int .i64 (aW 0),.int .i64 (aW 0),.bN,.int .i64 (aW 0),.int .i64 (aW 0),.int .i64 (aW 0),.bN,.bN,.bN,.bN,.bN,.int .i64 (aW 0),.int .i64 (aW 0),.int .i64 (aW 0),.bN,.bN,.bool false,.bN,.int .i64 (aW 0)],[.pR,.pR,.pR],[.bool false],[.int .i64 (aW 0),.int .i64 (aW 0),.int .i64 (aW 0),.int .i64 (aW 0),.int .i64 (aW 0),.bN,.bN],[.int .i64 (aW 0),.int .i64 (aW 0),.int .i64 (aW 0),.int .i64 (aW 0),.int .i64 (aW 0),.int .i64 (aW 0),.int .i64 (aW 0),.int .i64 (aW 0)],[.undef]] i []
def aae:List (iX->iX):=[Uf λs a c=>{s with o:=[],c:=sR s.l s.o a::c},
 AU λs v x=>{s with x:=x,n:=v},
 AU λs m x=>rE x λv x=>RO v λv=>Vj (m-1) v [v] x λl x=>{s with x:=x,l:=l},
 AU λs v x=>Xc (Vi v s.l) λl=>{s with x:=x,l:=l},
 AU λs v x=>Xc (s.l.eraseIdx v) λl=>{s with x:=x,l:=l},
 pS λn a=>ql n 1 (n-a),
 λs=>{s with c:=.ret::s.c},
 pS λn a=>qm n a,
 Jn λn a b=>qm a (n-b),
 vZ λn=>qm n 0,
 RN λs a b c=>{s with c:=.seq a b::c},
 λs=>{s with o:=[],p:=(s.l,s.o)::s.p},
 pS λn a=>qL n 1 (n-a),
 vZ λn=>qi n (aW 0),
 λs=>{s with o:=[],c:=.sy s.l s.o::s.c},
 RQ λn v => .t (n-v),
 λs=>{s with c:=.FB::s.c},
 RR λn v => .t (n-v),
 λs=>{s with g:=none},
 AU λs v x=>RN (λs a b c=>{s with x:=x,c:=.ite (.t v) a b::c}) s,
 pS λn a=>qe n (n-a),
 pS λn a=>qM n a,
 oE λn a b=>qa n a (n-b),
 pS λn a=>qm n (n-a),
 pS λn a=>qf n 0 (n-a),
 AU λs v x=>BW s (s.r.getD v default) x (s.n-1),
 vZ λn=>qm n 1,
 oE λn a b=>qf n a b,
 vZ λn=>qb n false,
 RQ λ_ v => .t v,
 AU λs v x=>{s with x:=x,g:=some (v,true)},
 pS λn a=>qu n (n-a),
 vZ λn=>qm n 5,
 AU λs v x=>Uf (λs a c=>{s with x:=x,c:=.cT v a::c}) s,
 oE λn a b=>qp n (n-a) (n-b),
 Hy λn a b c=>qj n a (n-b) (n-c),
 vZ λn=>qm n 8,
 AU λs v x=>{s with x:=x,c:=s.k.getD v .FB::s.c},
 pS λn a=>qf n 1 a,
 vZ λn=>qx n 0,
 pS λn a=>qF n 0 (n-a),
 AU λs v x=>{s with x:=x,c:=.exit v::s.c},
 pS λn a=>qn n .add (n-a) (aW 1),
 oE λn a b=>qk n .lss (n-a) (n-b),
 oE λn a b=>qF n a b,
 oE λn a b=>qc n a [(n-b)],
 AU λs v x=>{s with x:=x,g:=some (v,false)},
 Jn λ_ a b=>qi a (aW b),
 AU λs v x=>RP (λs m _=>RN (λs a b c=>{s with x:=x,o:=[],c:=sL s.l s.o v m false a b::c}) s) s,
 oE λn a b=>qA n a b,
 Hy λn a b c=>qO n (.Fi a (.t (n-b)) (.c (.int .i64 (aW c)))),
 oE λn a b=>qP n (n-a) (n-b),
 RP λs _ a=>RP (λs _ b=>{s with o:=[],c:=.Lh s.l s.o (a.headD default) b::s.c}) s,
 vZ λn=>qm n 2,
 vZ λn=>qM n 2,
 RT λn a b c d=>qs a b c (n-d),
 oE λn a b=>qF n a (n-b),
 oE λn a b=>qv n a 1 (n-b),
 vZ λn=>qm n 4,
 vZ λn=>qm n 3,
 vZ λn=>qm n 9,
 DD λn q a=>qo n (.IZ (Fk a) q),
 pS λn a=>qo n (.T7 (.t (n-a))),
 oE λn a b=>qz n (n-a) b,
 RR λ_ v => .c (.int .i64 (aW v)),
 vZ λn=>qm n 7,
 oE λn a b=>qf n a (n-b),
 DD λn q a=>qo n (.call false (.c (.fn a [] [])) (GM q)),
 oE λn a b=>qo n (.call false (.t (n-a)) [(.t (n-b))]),
 pS λn a=>qf n 0 a,
 Hy λn a b c=>qc n a [(n-b),(n-c)],
 Jn λ_ a b=>qo a (.Ag [] (Fk b)),
 RR λ_ v => .t v,
 pS λn a=>qx n a,
 Hy λn a b c=>qJ n a (n-b) (n-c),
 AU λs v x=>RP (λs m r=>Uf (λs a c=>{s with x:=x,o:=[],c:=sE s.l s.o v m r a::c}) s) s,
 pS λn a=>qO n (.T7 (.t (n-a))),
 oE λn a b=>qZ n (n-a) b,
 oE λn a b=>qV n a 1 (n-b),
 AU λs v x=>RN (λs a b c=>{s with x:=x,o:=[],c:=sI s.l s.o v a b (c.headD .FB)::c.tail}) s,
 oE λn a b=>qn n .gtr (n-a) (aW b),
 Hy λn a b c=>qw n a b c,
 Ph λ_ a=>qx a 0,
 DD λn q a=>qo n (.Rz a [] (GM q)),
 Jn λn a b=>qM a (n-b),
 Ug λn a b c d=>qo n (.call false (.c (.fn a [] [])) [(.t (n-b)),(.c (.int .i64 (aW c))),(.c (.int .i64 (aW d)))]),
 pS λn a=>qc n a [5,6],
 aag λn q a b c=>qo n (.TE a b (Fk c) q),
 aai λ_ a b c=>qt a b c,
 oE λn a b=>qk n .leq (n-a) (n-b),
 RT λ_ a b c d=>qs a b c d,
 AU λs v x=>BW s (s.r.getD v default) x s.n,
 Ug λn a b c d=>qy n a b (n-c) (n-d),
 RQ λ_ v => .c (aab v),
 RQ λ_ v => .c (.int .i64 (aW v)),
 oE λn a b=>qk n .mul (n-a) (n-b),
 oE λn a b=>⟨(some n),none,false,(.call false (.c (.fn 40 [] [])) [(.t (n-a)),(.c (.int .i64 (aW b)))])⟩,
 vZ λn=>qm n 18,
 vZ λn=>qm n 11,
 DD λn q a=>qO n (.call false (.c (.fn a [] [])) (GM q)),
 pS λn a=>qi n (aW a),
 DD λn q a=>qO n (.IZ (Fk a) q),
 pS λn a=>qn n .neq (n-a) (aW 0),
 oE λn a b=>qn n .eql (n-a) (aW b),
 Ph λ_ a=>qb a false,
 oE λn a b=>qk n .add (n-a) (n-b),
 DD λn q a=>⟨(some n),none,false,(.call false (.c (.fn a [] [])) (GM q))⟩,
 Hy λn a b c=>qC n a [(n-b),(n-c)],
 aaf λn q a b=>qO n (.TE 1 a (Fk b) q),
 pS λn a=>qo n (.Ag [] (Fk a)),
 Jn λ_ a b=>qo a (.GJ b),
 RR λ_ v => .c (.fn v [] []),
 Hy λn a b c=>qW n a b c,
 oE λn a b=>qK n .mul (n-a) (n-b),
 RR λ_ v => .c (aab v),
 aah λ_ q=>⟨none,none,false,(.mp (.put none) (GM q))⟩,
 vZ λn=>qo n (.mv (.c .bN)),
 RQ λ_ v => .c (.fn v [] []),
 vZ λn=>qn n .geq 7 (aW 0),
 vZ λn=>qi n (AV 1),
 oE λn a b=>qn n .lss (n-a) (aW b),
 oE λn a b=>qk n .sub (n-a) (n-b),
 Ug λn a b c d=>qc n a [(n-b),(n-c),(n-d)],
 oE λn a b=>qn n .leq (n-a) (aW b),
 pS λn a=>qo n (.IZ (Fk a) []),
 pS λn a=>qn n .sub (n-a) (aW 1),
 vZ λn=>qo n (.mv (.c (.int .u8 (aW 0)))),
 pS λn a=>qo n (.Im .Si [(.t a)]),
 Hy λn a b c=>qo n (.Fi a (.t (n-b)) (.c (.int .i64 (aW c)))),
 λs=>{s with l:=[]},
 oE λn a b=>qk n .eql (n-a) (n-b),
 pS λn a=>qo n (.GJ a),
 RT λn a b c d=>qS a b c (n-d),
 oE λn a b=>qk n .gtr (n-a) (n-b),
 oE λn a b=>qk n .geq (n-a) (n-b),
 Hy λn a b c=>qo n (.SL a (.t (n-b)) (some (.c (.int .i64 (aW c)))) none none),
 Jn λ_ a b=>qO a (.Ag [] (Fk b)),
 λs=>{s with c:=.cn s.l::s.c},
 Ug λn a b c d=>qO n (.app a b (.t (n-c)) (.t (n-d))),
 oE λn a b=>qk n .neq (n-a) (n-b),
 pS λn a=>qo n (.QH 0 a [] []),
 DD λn q a=>qo n (.call true (.c (.fn a [] [])) (GM q)),
 oE λn a b=>qo n (.mx (.t (n-a)) (.t (n-b))),
 oE λn a b=>qo n (.mn (.t (n-a)) (.t (n-b))),
 Jn λ_ a b=>⟨none,none,false,(.st [] 1 (.t a) (.c (.int .i64 (aW b))))⟩,
 Jn λ_ a b=>qo a (.Ox [] (Fk b)),
 Ph λ_ a=>⟨none,none,false,(.RM (.t a))⟩,
 Uf λs a c=>{s with c:=.loop s.l false a::c},
 aai λ_ a b c=>⟨none,none,false,(.st [(0,a)] 1 (.t b) (.t c))⟩,
 pS λn a=>qo n (.un .neg (.t a)),
 pS λn a=>qE n (n-a),
 Hy λn a b c=>qo n (.call false (.c (.fn a [] [])) [(.t b),(.c (.int .i64 (aW c))),(.c (.int .i64 (aW 1000000)))]),
 pS λn a=>qo n (.Fh 3 1 (.t 6) (.c (.int .u8 (aW a)))),
 pS λn a=>qN n .sub (n-a) (aW 1),
 pS λn a=>qn n .quo (n-a) (aW 1000),
 AU λs v x=>RO v λv=>{s with x:=x,l:=v::s.l},
 DD λn q a=>qo n (.Rz a (GM q) []),
 pS λn a=>qc n a [],
 pS λn a=>qO n (.un .not (.t a)),
 pS λn a=>qo n (.mx (.c (.int .i64 (aW 0))) (.t a)),
 RT λ_ a b c d=>⟨none,none,false,(.G6 a [(0,b)] 1 c (.t d))⟩,
 pS λn a=>qO n (.T1 false 1 (.t a)),
 vZ λn=>qo n (.mp .make []),
 Ph λ_ a=>qo a (.mv (.c .bN)),
 oE λn a b=>qo n (.bin .eql (.t a) (.c (.int .u8 (aW b)))),
 RS λn q=>qo n (.Im .MA (GM q)),
 oE λn a b=>qo n (.SF 1 16 (.t a) (.t b)),
 oE λn a b=>qo n (.call false (.c (.fn a [] [])) [(.t b),(.c (.int .i64 (aW 0))),(.c (.int .i64 (aW 1000000000000)))]),
 RT λ_ a b c d=>⟨none,none,false,(.G6 a [(1,b)] 2 c (.t d))⟩,
 RS λn q=>qo n (.Im (.seq false) (GM q)),
 pS λn a=>qo n (.TU false (.t a)),
 vZ λn=>qo n (.mv (.c (.str []))),
 oE λn a b=>qo n (.call false (.c (.fn a [] [])) [(.t b),(.c (.int .i64 (AV 100000))),(.c (.int .i64 (aW 100000)))]),
 vZ λn=>qo n (.TV false false (.t 3)),
 Ph λ_ a=>qo a (.mv (.c (.int .u8 (aW 0)))),
 vZ λn=>qo n (.Ox [] (Fk 2)),
 vZ λn=>qo n (.mv (.c .pR)),
 oE λn a b=>qO n (.call false (.c (.fn a [] [])) [(.t b),(.c (.int .i64 (aW 1))),(.c (.int .i64 (aW 1000000000000)))]),
 Ph λ_ a=>⟨none,none,false,(.st [] 1 (.t a) (.c (.bool true)))⟩,
 pS λn a=>qO n (.IZ (Fk a) []),
 DD λn q a=>qO n (.Rz a [] (GM q)),
 Jn λ_ a b=>qO a (.Ox [] (Fk b)),
 AU λs v x=>RP (λs m _=>RN (λs a b c=>{s with x:=x,o:=[],c:=sL s.l s.o v m true a b::c}) s) s,
 oE λn a b=>qo n (.call false (.c (.fn a [] [])) [(.t b),(.c (.int .i64 (aW 1))),(.c (.int .i64 (aW 100000)))]),
 oE λn a b=>qo n (.call false (.c (.fn a [] [])) [(.t b),(.c (.int .i64 (aW 0))),(.c (.int .i64 (aW 1000000000)))]),
 RS λn q=>qo n (.mp (.get none (.bool false) false) (GM q))]
def Vh:Nat->iX->az.bX
 |0,s=>s.c.headD .FB
 |k+1,⟨x,n,l,o,p,c,g,q,K,r⟩=>match x with
  |0=>c.headD .FB
  |1=>c.headD .FB
  |y+2=>RO n λn=>aac 29 12 6 78 (y+2) λa x=>Vh k (aae.getD a id ⟨x,n,l,o,p,c,g,q,K,r⟩)
def aad:List Char->Nat->Nat
 |[],a=>a
 |c::r,a=>aad r (a*80+(c.toNat-40-(1-(46-c.toNat))-(1-(48-c.toNat))-(1-(93-c.toNat))))
inductive pkD (K:List az.bX) (r:List az.Op) (t:String) (c:az.bX):Prop
 |mk {x:List Char} (h:t=String.ofList x) (g:Vh 100000 ⟨aad x 0,0,[],[],[],[],none,[],K,r⟩=c):pkD K r t c
def gD(K:List az.bX)(r:List az.Op)(t:String){c:az.bX}(_:pkD K r t c:=by exact .mk rfl (by conv=>lhs;reduce)):az.bX:=c
def gC(t:String){c:az.bX}(_:pkD [] [] t c:=by exact .mk rfl (by conv=>lhs;reduce)):az.bX:=c
@[simp,simp ↓] theorem gDe{K r t c g}:@gD K r t c g=c:=rfl
@[simp,simp ↓] theorem gCe{t c g}:@gC t c g=c:=rfl
@[simp] def zI:D:=.int .i64 0
def an7(x0:List (Nat×List Nat))(x1:List (Nat×List Nat))(x2:List Nat)(x3:List Nat)(x4:List Nat)(x5:List (Nat×List (Nat×Nat)))(x6:List Nat):tW:=⟨x0,x1,x2,x3,x4,x5,x6,[],[],[],[]⟩
end Go.Proofs.YtklfdfnoebnciaaGreatDoor
