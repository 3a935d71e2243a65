import Derived.Test.YtnlkaeapgmkbnaaDoorBase13
import Derived.Test.YtnlkaeapgmkbnaaDoorBase19
import Derived.Test.YtnlkaeapgmkbnaaDoorBase20
import Derived.Test.YtnlkaeapgmkbnaaDoorRows
set_option linter.all false
set_option maxRecDepth 100000
namespace Go.Proofs.YtnlkaeapgmkbnaaDoor
open Go Go.Abs
def eY:Nat:=3
def gQ:Nat:=4
def jG:Nat:=5
def gi:Nat:=6
def gj:Nat:=7
def fB:Nat:=8
def gk:Nat:=9
def gl:Nat:=10
def fx:Nat:=11
def dD:Nat:=12
def dR:Nat:=13
def cK:Nat:=14
def bY:Nat:=15
def jQ:Nat:=16
def cC:Nat:=17
def bM:Nat:=18
def bF:Nat:=19
def bu:Nat:=20
def dt:Nat:=21
def dW:Nat:=22
def bj:Nat:=23
def cM:Nat:=24
def gP:Nat:=25
def dE:Nat:=26
def fy:Nat:=27
def cJ:Nat:=28
def cF:Nat:=29
def dC:Nat:=30
def dI:Nat:=31
def de:Nat:=32
def eJ:Nat:=33
def cg:Nat:=34
def ij:Nat:=35
def gG:Nat:=36
def cf:Nat:=37
def dV:Nat:=38
def il:Nat:=39
def aO:Nat:=40
def ew:Nat:=41
def eK:Nat:=42
def dr:Nat:=43
def cY:Nat:=44
def fV:Nat:=45
def dh:Nat:=47
def fH:Nat:=48
def aT:Nat:=49
def ck:Nat:=50
def bR:Nat:=51
def bZ:Nat:=52
def bV:Nat:=53
def bw:Nat:=54
def bN:Nat:=55
def cb:Nat:=56
def iJ:Nat:=57
def eL:Nat:=58
def eu:Nat:=59
def dM:Nat:=60
def dL:Nat:=62
def bG:Nat:=63
def eX:Nat:=64
def fm:Nat:=65
def aQ:Nat:=66
def bO:Nat:=67
def bn:Nat:=72
noncomputable def MG(p:Nat×jq×Abs.Fn):Option Abs.Fn:=(Tryd.prog.funcs[p.1]?).bind fun F=>if F.name != "runtime.NumGoroutine" && (F.body.isSome && decide (p.1<1000000))then MJ Tryd.prog p.2.1 F else none
@[reducible] def sR(l:List Nat)(r:List Abs.Op)(c:Abs.bC):Abs.bC:=.seq (.b7 l r) c
@[reducible] def sE(l:List Nat)(r:List Abs.Op)(t:Nat)(m:List Nat)(s:List Abs.Op)(c:Abs.bC):Abs.bC:=.seq (.seq (.b7 l r) (.ite (.t t) (.seq (.b7 m s) .ret) .dY)) c
@[reducible] def sI(l:List Nat)(r:List Abs.Op)(t:Nat)(a b c:Abs.bC):Abs.bC:=.seq (.seq (.b7 l r) (.ite (.t t) a b)) c
@[reducible] def sL(l:List Nat)(r:List Abs.Op)(n:Nat)(m:List Nat)(s:Bool)(a c:Abs.bC):Abs.bC:=.seq (.seq (.b7 l r) (.aR n (.loop m s a))) c
def vq:Abs.bC→List (List Nat)
 |.b7 l _=>[l]
 |.yY l _ _ _=>[l]
 |.seq a b=>vq a++vq b
 |.ite _ a b=>vq a++vq b
 |.aR _ a=>vq a
 |.loop _ _ a=>vq a
 |.tS _ _ _ a b=>vq a++vq b
 |.cU _ _ _ _ _ a b=>vq a++vq b
 |.zf _ _ a=>vq a
 |.EF a=>vq a
 |_=>[]
def v7:Abs.bC→List (Nat×List Nat)
 |.seq a b=>v7 a++v7 b
 |.ite _ a b=>v7 a++v7 b
 |.aR n (.loop l _ a)=>(n,l)::v7 a
 |.aR _ a=>v7 a
 |.tS _ _ _ a b=>v7 a++v7 b
 |.cU _ _ _ _ _ a b=>v7 a++v7 b
 |.zf _ _ a=>v7 a
 |.EF a=>v7 a
 |_=>[]
def A4(q:List Nat)(i:Nat)(f:Abs.Fn)(a b c:List Nat)(d:List (Nat×List (Nat×Nat)))(e:List Nat)(g:List (Nat×List Nat))(h:List Nat)(j:List (Nat×Option (List Nat)))(k:List (Nat×Option Nat)):Nat×jq×Abs.Fn:=(i,⟨(if q=[]then List.range (vq f.body).length else q).zip (vq f.body),v7 f.body,a,b,c,d,e,g,h,j,k⟩,f)
def A3(q:List Nat)(i:Nat)(f:Abs.Fn)(a b c:List Nat)(d:List (Nat×List (Nat×Nat)))(e:List Nat):Nat×jq×Abs.Fn:=A4 q i f a b c d e [] [] [] []
def A2(q:List Nat)(i:Nat)(f:Abs.Fn)(a b:List Nat):Nat×jq×Abs.Fn:=A3 q i f a b [] [] []
def A1(q:List Nat)(i:Nat)(f:Abs.Fn):Nat×jq×Abs.Fn:=A3 q i f [] [] [] [] []
def A0(i:Nat)(f:Abs.Fn):Nat×jq×Abs.Fn:=A1 [] i f
attribute [simp] qA qC qF qJ qK qL qM qN qO qP qS qV qW qZ qa qb qc qe qf qg qi qj qk ql qm qn qo qp qs qt qu qv qw qx qy qz
@[simp] def zI:D:=.int .i64 0
def Oo(x0:List (Nat×List Nat))(x1:List (Nat×List Nat))(x2:List Nat)(x3:List Nat)(x4:List Nat)(x5:List (Nat×List (Nat×Nat)))(x6:List Nat):jq:=⟨x0,x1,x2,x3,x4,x5,x6,[],[],[],[]⟩
end Go.Proofs.YtnlkaeapgmkbnaaDoor
