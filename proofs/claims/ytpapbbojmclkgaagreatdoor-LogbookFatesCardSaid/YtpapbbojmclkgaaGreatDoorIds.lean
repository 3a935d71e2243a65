import Derived.Test.YtpapbbojmclkgaaGreatDoorBase13
import Derived.Test.YtpapbbojmclkgaaGreatDoorBase20
import Derived.Test.YtpapbbojmclkgaaGreatDoorRows
set_option linter.all false
set_option maxRecDepth 100000
namespace Go.Proofs.YtpapbbojmclkgaaGreatDoor
open Go Go.Abs
@[reducible] def lT:Nat:=3
@[reducible] def Ds:Nat:=8
@[reducible] def rC:Nat:=9
@[reducible] def tD:Nat:=10
@[reducible] def BX:Nat:=11
@[reducible] def AF:Nat:=12
@[reducible] def Dz:Nat:=13
@[reducible] def zH:Nat:=14
@[reducible] def Gt:Nat:=15
@[reducible] def Bo:Nat:=17
@[reducible] def yC:Nat:=26
@[reducible] def tC:Nat:=28
@[reducible] def Ii:Nat:=29
@[reducible] def CN:Nat:=30
@[reducible] def wo:Nat:=31
@[reducible] def Ak:Nat:=32
@[reducible] def eE:Nat:=33
@[reducible] def ng:Nat:=34
@[reducible] def AB:Nat:=35
@[reducible] def pM:Nat:=36
@[reducible] def gR:Nat:=37
@[reducible] def uF:Nat:=38
@[reducible] def yq:Nat:=39
@[reducible] def dV:Nat:=40
@[reducible] def pr:Nat:=41
@[reducible] def gS:Nat:=42
@[reducible] def oC:Nat:=43
@[reducible] def vT:Nat:=44
@[reducible] def fH:Nat:=45
@[reducible] def yB:Nat:=47
@[reducible] def aR:Nat:=60
@[reducible] def zJ:Nat:=61
@[reducible] def AD:Nat:=62
@[reducible] def jA:Nat:=63
@[reducible] def kj:Nat:=64
@[reducible] def vj:Nat:=65
@[reducible] def zK:Nat:=66
@[reducible] def xu:Nat:=67
@[reducible] def xq:Nat:=68
@[reducible] def xw:Nat:=69
@[reducible] def xr:Nat:=70
@[reducible] def fK:Nat:=71
@[reducible] def lU:Nat:=72
@[reducible] def pv:Nat:=76
@[reducible] def AA:Nat:=77
@[reducible] def ew:Nat:=84
@[reducible] def eo:Nat:=85
@[reducible] def Bp:Nat:=86
@[reducible] def AG:Nat:=87
@[reducible] def An:Nat:=88
@[reducible] def vh:Nat:=89
@[reducible] def vi:Nat:=90
@[reducible] def tI:Nat:=91
@[reducible] def tH:Nat:=92
@[reducible] def rY:Nat:=93
@[reducible] def B7:Nat:=94
@[reducible] def oF:Nat:=95
@[reducible] def Dt:Nat:=96
@[reducible] def yD:Nat:=97
@[reducible] def Cb:Nat:=98
@[reducible] def rX:Nat:=99
@[reducible] def AE:Nat:=100
@[reducible] def Ca:Nat:=101
@[reducible] def ka:Nat:=102
@[reducible] def BY:Nat:=103
@[reducible] def oG:Nat:=104
@[reducible] def As:Nat:=105
@[reducible] def Az:Nat:=106
@[reducible] def qD:Nat:=107
@[reducible] def yy:Nat:=108
@[reducible] def Am:Nat:=109
@[reducible] def ln:Nat:=110
@[reducible] def ep:Nat:=114
@[reducible] def hJ:Nat:=115
@[reducible] def dX:Nat:=116
@[reducible] def gk:Nat:=117
@[reducible] def wy:Nat:=118
@[reducible] def gl:Nat:=119
@[reducible] def ei:Nat:=120
@[reducible] def jq:Nat:=121
@[reducible] def B9:Nat:=122
@[reducible] def ij:Nat:=125
@[reducible] def rI:Nat:=126
@[reducible] def vg:Nat:=127
@[reducible] def pL:Nat:=128
@[reducible] def Fb:Nat:=129
@[reducible] def Fw:Nat:=130
@[reducible] def xo:Nat:=131
@[reducible] def Dx:Nat:=132
@[reducible] def Fx:Nat:=133
@[reducible] def Dy:Nat:=134
@[reducible] def rW:Nat:=135
@[reducible] def Aw:Nat:=136
@[reducible] def pk:Nat:=137
@[reducible] def Ao:Nat:=138
@[reducible] def Au:Nat:=139
@[reducible] def xp:Nat:=140
@[reducible] def Ar:Nat:=141
@[reducible] def uS:Nat:=142
@[reducible] def Ay:Nat:=143
@[reducible] def eh:Nat:=149
@[reducible] def gU:Nat:=150
@[reducible] def Cf:Nat:=151
@[reducible] def ec:Nat:=152
@[reducible] def gq:Nat:=153
@[reducible] def kc:Nat:=154
@[reducible] def pw:Nat:=155
@[reducible] def je:Nat:=156
@[reducible] def kL:Nat:=157
@[reducible] def yz:Nat:=158
@[reducible] def jv:Nat:=160
@[reducible] def jz:Nat:=161
@[reducible] def kI:Nat:=162
@[reducible] def j6:Nat:=163
@[reducible] def jx:Nat:=164
@[reducible] def kJ:Nat:=165
@[reducible] def jY:Nat:=166
@[reducible] def jW:Nat:=167
@[reducible] def jy:Nat:=168
@[reducible] def j4:Nat:=169
@[reducible] def jX:Nat:=170
@[reducible] def j5:Nat:=171
@[reducible] def jZ:Nat:=172
@[reducible] def jD:Nat:=173
@[reducible] def B0:Nat:=174
@[reducible] def B5:Nat:=175
@[reducible] def BZ:Nat:=176
@[reducible] def B8:Nat:=177
@[reducible] def Du:Nat:=178
@[reducible] def Aq:Nat:=179
@[reducible] def yw:Nat:=180
@[reducible] def Dw:Nat:=181
@[reducible] def Ax:Nat:=182
@[reducible] def Ap:Nat:=183
@[reducible] def Av:Nat:=184
@[reducible] def B6:Nat:=185
@[reducible] def fa:Nat:=191
@[reducible] def eJ:Nat:=192
@[reducible] def ko:Nat:=193
@[reducible] def gT:Nat:=194
@[reducible] def yA:Nat:=195
@[reducible] def rR:Nat:=199
@[reducible] def tE:Nat:=200
@[reducible] def sj:Nat:=201
@[reducible] def wv:Nat:=202
@[reducible] def jn:Nat:=203
@[reducible] def fG:Nat:=204
@[reducible] def gO:Nat:=205
@[reducible] def Cc:Nat:=206
@[reducible] def oA:Nat:=207
@[reducible] def oD:Nat:=208
@[reducible] def jw:Nat:=209
@[reducible] def Dr:Nat:=210
@[reducible] def wx:Nat:=211
@[reducible] def qB:Nat:=212
@[reducible] def lW:Nat:=213
@[reducible] def zL:Nat:=214
@[reducible] def pn:Nat:=215
@[reducible] def iR:Nat:=216
@[reducible] def tF:Nat:=217
@[reducible] def vk:Nat:=218
@[reducible] def yt:Nat:=219
@[reducible] def yr:Nat:=220
@[reducible] def Dv:Nat:=223
@[reducible] def dW:Nat:=226
@[reducible] def sk:Nat:=227
@[reducible] def gZ:Nat:=232
@[reducible] def qU:Nat:=233
@[reducible] def uV:Nat:=234
@[reducible] def Cd:Nat:=235
@[reducible] def qG:Nat:=236
@[reducible] def Ai:Nat:=237
@[reducible] def gh:Nat:=238
@[reducible] def nI:Nat:=239
@[reducible] def vf:Nat:=240
@[reducible] def qh:Nat:=241
@[reducible] def rB:Nat:=242
@[reducible] def oB:Nat:=243
@[reducible] def pj:Nat:=244
@[reducible] def lX:Nat:=245
@[reducible] def sn:Nat:=246
@[reducible] def tO:Nat:=247
@[reducible] def jb:Nat:=248
@[reducible] def iQ:Nat:=249
@[reducible] def wu:Nat:=250
@[reducible] def fF:Nat:=251
@[reducible] def oO:Nat:=252
@[reducible] def Ce:Nat:=253
@[reducible] def rZ:Nat:=254
@[reducible] def zM:Nat:=255
@[reducible] def tK:Nat:=256
@[reducible] def qR:Nat:=257
@[reducible] def rV:Nat:=258
@[reducible] def tN:Nat:=259
@[reducible] def pq:Nat:=260
@[reducible] def uZ:Nat:=261
@[reducible] def u0:Nat:=262
@[reducible] def Al:Nat:=263
@[reducible] def oE:Nat:=264
@[reducible] def rU:Nat:=265
@[reducible] def uY:Nat:=266
@[reducible] def uX:Nat:=267
@[reducible] def eZ:Nat:=273
@[reducible] def qq:Nat:=279
@[reducible] def yE:Nat:=280
@[reducible] def kR:Nat:=281
@[reducible] def oQ:Nat:=282
@[reducible] def AH:Nat:=283
@[reducible] def rK:Nat:=284
@[reducible] def lV:Nat:=285
@[reducible] def jc:Nat:=286
@[reducible] def sc:Nat:=287
@[reducible] def sd:Nat:=288
@[reducible] def si:Nat:=289
@[reducible] def kH:Nat:=290
@[reducible] def fE:Nat:=291
@[reducible] def Aj:Nat:=292
@[reducible] def lS:Nat:=293
@[reducible] def rH:Nat:=294
@[reducible] def kQ:Nat:=295
@[reducible] def yp:Nat:=296
@[reducible] def rS:Nat:=297
@[reducible] def rT:Nat:=298
@[reducible] def pK:Nat:=299
@[reducible] def oP:Nat:=300
@[reducible] def vU:Nat:=301
@[reducible] def uU:Nat:=302
@[reducible] def sh:Nat:=303
@[reducible] def qd:Nat:=304
@[reducible] def kb:Nat:=305
@[reducible] def tM:Nat:=306
@[reducible] def nO:Nat:=307
@[reducible] def xx:Nat:=308
@[reducible] def yu:Nat:=309
@[reducible] def j9:Nat:=310
@[reducible] def gi:Nat:=311
@[reducible] def qX:Nat:=312
@[reducible] def mo:Nat:=313
@[reducible] def rJ:Nat:=314
@[reducible] def qT:Nat:=315
@[reducible] def tG:Nat:=316
@[reducible] def iy:Nat:=322
@[reducible] def nk:Nat:=323
@[reducible] def iw:Nat:=324
@[reducible] def nN:Nat:=325
@[reducible] def nh:Nat:=326
@[reducible] def se:Nat:=327
@[reducible] def gj:Nat:=328
@[reducible] def tB:Nat:=329
@[reducible] def rD:Nat:=330
@[reducible] def nK:Nat:=331
@[reducible] def fu:Nat:=332
@[reducible] def qH:Nat:=333
@[reducible] def fx:Nat:=334
@[reducible] def tJ:Nat:=335
@[reducible] def uW:Nat:=336
@[reducible] def tL:Nat:=337
@[reducible] def qQ:Nat:=338
@[reducible] def kP:Nat:=339
@[reducible] def pg:Nat:=340
@[reducible] def gz:Nat:=341
@[reducible] def mq:Nat:=342
@[reducible] def po:Nat:=343
@[reducible] def DA:Nat:=344
@[reducible] def oN:Nat:=345
@[reducible] def mG:Nat:=346
@[reducible] def nM:Nat:=347
@[reducible] def gP:Nat:=348
@[reducible] def mm:Nat:=349
@[reducible] def fR:Nat:=350
@[reducible] def kK:Nat:=351
@[reducible] def mF:Nat:=352
@[reducible] def jO:Nat:=355
@[reducible] def jN:Nat:=356
@[reducible] def pN:Nat:=357
@[reducible] def nj:Nat:=358
@[reducible] def uT:Nat:=359
@[reducible] def sf:Nat:=360
@[reducible] def sb:Nat:=361
@[reducible] def oH:Nat:=362
@[reducible] def nL:Nat:=363
@[reducible] def mj:Nat:=364
@[reducible] def gN:Nat:=365
@[reducible] def jd:Nat:=366
@[reducible] def jB:Nat:=367
@[reducible] def iA:Nat:=368
@[reducible] def nJ:Nat:=369
@[reducible] def gQ:Nat:=370
@[reducible] def ni:Nat:=371
@[reducible] def jC:Nat:=372
noncomputable def chk(p:Nat×sS×Abs.Fn):Option Abs.Fn:=(Tryz.prog.funcs[p.1]?).bind λF=>if F.name != "runtime.NumGoroutine" && (F.body.isSome && decide (p.1<1000000))then fnC Tryz.prog p.2.1 F else none
@[reducible] def sR(l:List Nat)(r:List Abs.Op)(c:Abs.cb):Abs.cb:=.seq (.rM l r) c
@[reducible] def sE(l:List Nat)(r:List Abs.Op)(t:Nat)(m:List Nat)(s:List Abs.Op)(c:Abs.cb):Abs.cb:=.seq (.seq (.rM l r) (.ite (.t t) (.seq (.rM m s) .ret) .IX)) c
@[reducible] def sI(l:List Nat)(r:List Abs.Op)(t:Nat)(a b c:Abs.cb):Abs.cb:=.seq (.seq (.rM l r) (.ite (.t t) a b)) c
@[reducible] def sL(l:List Nat)(r:List Abs.Op)(n:Nat)(m:List Nat)(s:Bool)(a c:Abs.cb):Abs.cb:=.seq (.seq (.rM l r) (.dC n (.loop m s a))) c
def Sx:Abs.cb->List (List Nat)
 |.rM l _=>[l]
 |.PQ l _ _ _=>[l]
 |.seq a b=>Sx a++Sx b
 |.ite _ a b=>Sx a++Sx b
 |.dC _ a=>Sx a
 |.loop _ _ a=>Sx a
 |.Nj _ _ _ a b=>Sx a++Sx b
 |.iq _ _ _ _ _ a b=>Sx a++Sx b
 |.TN _ _ a=>Sx a
 |.sgm a=>Sx a
 |_=>[]
def Ue:Abs.cb->List (Nat×List Nat)
 |.seq a b=>Ue a++Ue b
 |.ite _ a b=>Ue a++Ue b
 |.dC n (.loop l _ a)=>(n,l)::Ue a
 |.dC _ a=>Ue a
 |.Nj _ _ _ a b=>Ue a++Ue b
 |.iq _ _ _ _ _ a b=>Ue a++Ue b
 |.TN _ _ a=>Ue a
 |.sgm a=>Ue a
 |_=>[]
def A4(q:List Nat)(i:Nat)(f:Abs.Fn)(a b c:List Nat)(d:List (Nat×List (Nat×Nat)))(e:List Nat)(g:List (Nat×List Nat))(h:List Nat)(j:List (Nat×Option (List Nat)))(k:List (Nat×Option Nat)):Nat×sS×Abs.Fn:=(i,⟨(if q=[]then List.range (Sx f.body).length else q).zip (Sx f.body),Ue f.body,a,b,c,d,e,g,h,j,k⟩,f)
def A3(q:List Nat)(i:Nat)(f:Abs.Fn)(a b c:List Nat)(d:List (Nat×List (Nat×Nat)))(e:List Nat):Nat×sS×Abs.Fn:=A4 q i f a b c d e [] [] [] []
def A2(q:List Nat)(i:Nat)(f:Abs.Fn)(a b:List Nat):Nat×sS×Abs.Fn:=A3 q i f a b [] [] []
def A1(q:List Nat)(i:Nat)(f:Abs.Fn):Nat×sS×Abs.Fn:=A3 q i f [] [] [] [] []
def A0(i:Nat)(f:Abs.Fn):Nat×sS×Abs.Fn:=A1 [] i f
attribute [simp] qA qC qE qF qJ qK qL qM qN qO qP qS qV qW qZ qa qb qc qe qf qg qi qj qk ql qm qn qo qp qs qt qu qv qw qx qy qz
def aV(n:Nat):Int:=n
def zc(n:Nat):Int := -n
@[simp] theorem akC{n:Nat}:aV n=n:=rfl
@[simp] theorem akD{n:Nat}:zc n = -n:=rfl
structure jg where
 x:Nat
 n:Nat
 l:List Nat
 o:List Abs.Op
 p:List (List Nat×List Abs.Op)
 c:List Abs.cb
 g:Option (Nat×Bool)
 q:List (Nat×Nat×Abs.bP)
 k:List Abs.cb
 r:List Abs.Op
def ago{A:Type}(R a S U x:Nat)(k:Nat->Nat->A):A:=cond (Nat.blt (x%R) a) (k (x%R) (x / R)) (cond (Nat.blt (x%R) (R-1)) (k (a+(x%R-a)*S+x / R%S) (x / R / S)) (k (a+(R-1-a)*S+x / R%U) (x / R / U)))
def re{A:Type}(x:Nat)(k:Nat->Nat->A):A:=ago 13 10 47 4067 x k
def Xj{A:Type}(n:Nat)(k:Nat->A):A:=match n with
 |0=>k 0
 |m+1=>k (m+1)
def adq{A:Type}:List Nat->(List Nat->A)->A
 |[],k=>k []
 |a::l,k=>Xj a λa=>adq l λl=>k (a::l)
def abb(v:Nat):List Nat->List Nat
 |[]=>[v]
 |a::l=>cond (Nat.ble v a) (v::a::l) (a::abb v l)
def abc{A:Type}:Nat->Nat->List Nat->Nat->(List Nat->Nat->A)->A
 |0,_,l,x,k=>k l x
 |m+1,b,l,x,k=>re x λd x=>Xj (b-d-1) λv=>abc m v (v::l) x k
def ajs(g:Option (Nat×Bool))(o:Abs.Op):Abs.Op:=match g with
 |none=>o
 |some (t,b)=>qg t b o
def DL(s:jg)(o:Abs.Op)(x n:Nat):jg:={s with x:=x,n:=n,o:=ajs s.g o::s.o,q:=[]}
def DM(f:jg->Nat->Nat->jg)(s:jg):jg:=re s.x λv x=>f s v x
def Z0(f:jg->Abs.cb->List Abs.cb->jg)(s:jg):jg:=match s.c with
 |a::c=>f s a c
 |[]=>s
def Xi(f:jg->Abs.cb->Abs.cb->List Abs.cb->jg)(s:jg):jg:=match s.c with
 |a::b::c=>f s a b c
 |_=>s
def Xk(f:jg->List Nat->List Abs.Op->jg)(s:jg):jg:=match s.p with
 |(m,r)::p=>f {s with p:=p} m r
 |[]=>s
def Hv(q:List (Nat×Nat×Abs.bP)):List Abs.bP:=q.map λp=>p.2.2
def Xl(f:Nat->Nat->Abs.bP)(s:jg):jg:=re s.x λv x=>{s with x:=x,q:=(0,0,f s.n v)::s.q}
def Xm(f:Nat->Nat->Abs.bP)(s:jg):jg:=re s.x λa x=>re x λb x=>re x λv x=>{s with x:=x,q:=(a,b,f s.n v)::s.q}
def ajt(f:Nat->Abs.Op)(s:jg):jg:=DL s (f s.n) s.x s.n
def agr(f:Nat->List (Nat×Nat×Abs.bP)->Abs.Op)(s:jg):jg:=DL s (f s.n s.q) s.x s.n
def Kg(f:Nat->Nat->Abs.Op)(s:jg):jg:=re s.x λa x=>DL s (f s.n a) x s.n
def IC(f:Nat->Nat->Nat->Abs.Op)(s:jg):jg:=re s.x λa x=>re x λb x=>DL s (f s.n a b) x s.n
def ads(f:Nat->Nat->Nat->Nat->Abs.Op)(s:jg):jg:=re s.x λa x=>re x λb x=>re x λc x=>DL s (f s.n a b c) x s.n
def Xn(f:Nat->Nat->Nat->Nat->Nat->Abs.Op)(s:jg):jg:=re s.x λa x=>re x λb x=>re x λc x=>re x λd x=>DL s (f s.n a b c d) x s.n
def om(f:Nat->Abs.Op)(s:jg):jg:=DL s (f s.n) s.x (s.n-1)
def SL(f:Nat->List (Nat×Nat×Abs.bP)->Abs.Op)(s:jg):jg:=DL s (f s.n s.q) s.x (s.n-1)
def kf(f:Nat->Nat->Abs.Op)(s:jg):jg:=re s.x λa x=>DL s (f s.n a) x (s.n-1)
def Fe(f:Nat->List (Nat×Nat×Abs.bP)->Nat->Abs.Op)(s:jg):jg:=re s.x λa x=>DL s (f s.n s.q a) x (s.n-1)
def iT(f:Nat->Nat->Nat->Abs.Op)(s:jg):jg:=re s.x λa x=>re x λb x=>DL s (f s.n a b) x (s.n-1)
def agq(f:Nat->List (Nat×Nat×Abs.bP)->Nat->Nat->Abs.Op)(s:jg):jg:=re s.x λa x=>re x λb x=>DL s (f s.n s.q a b) x (s.n-1)
def IB(f:Nat->Nat->Nat->Nat->Abs.Op)(s:jg):jg:=re s.x λa x=>re x λb x=>re x λc x=>DL s (f s.n a b c) x (s.n-1)
def abd(f:Nat->List (Nat×Nat×Abs.bP)->Nat->Nat->Nat->Abs.Op)(s:jg):jg:=re s.x λa x=>re x λb x=>re x λc x=>DL s (f s.n s.q a b c) x (s.n-1)
def Uo(f:Nat->Nat->Nat->Nat->Nat->Abs.Op)(s:jg):jg:=re s.x λa x=>re x λb x=>re x λc x=>re x λd x=>DL s (f s.n a b c d) x (s.n-1)
def agn(i:Nat):D:=List.getD [.bool false,.str [109,111,100,101,108],.bool true,.aW,.str [116,105,99,107],.str [119,101,108,108],.int .i64 (zc 100000),.str [108,111,103],.str [113,117,97,107,101],.str [107,101,101,112],.str [114,117,108,101],.str [98,101,100],.str [116,97,98,108,101],.str [102,105,101,108,100],.int .i64 (zc 20000),.str [117,110,105,116],.str [114,101,97,100],.str [32],.str [],.str [115,101,108,108],.int .i64 (zc 1000),.int .i64 (zc 10000000000),.int .i64 (zc 1),.str [0,1,255,254,97,0,128],.str [116,105,99,107,115,32,50,32,99,111,108,111,117,114,32,49,32,119,101,108,108,115,32,49,10,109,111,100,101,108,32,97,32,108,101,102,116,10,109,111,100,101,108,32,98,32,115,116,114,117,99,107,32,54,10,115,97,108,101,32,48,32,116,105,99,107,32,50,32,119,101,108,108,32,48,32,119,111,114,107,32,52,48,48,48,46,46,52,48,48,48,32,109,111,110,101,121,32,49,50,48,48,48,46,46,49,50,48,48,48,10],.str [98],.str [97],.str [115,116,114,117,99,107],.str [108,101,102,116],.str [115,97,108,101],.str [119,111,114,107],.str [109,111,110,101,121],.str [116,105,99,107,115],.str [99,111,108,111,117,114],.str [119,101,108,108,115],.str [102,105,101,108,100,32,50,32,49,32,49,32,52],.str [116,97,98,108,101,32,49,48,48,32,49,48,49,32,52,49,57,32,50,54,55,54,32,49,53,48,32,49,53,48,32,52,55,54,32,54,51,50,32,50,55,52,54,32,51,48,48,32,50,48,48,32,49,53,53,53,32,56,53,50,32,50,55,57,51,32,54,48,48],.str [98,101,100,32,49,48,48,48,32,48,32,56,48,48],.str [119,101,108,108,32,48,32,53,48,48,32,53],.str [109,111,100,101,108,32,97,32,56,48,48,48,32,56,48,48,48,32,53,48,48,32,52,48,48,32,57,48,48,32,52,48,48,32,48,32,49,48],.str [109,111,100,101,108,32,98,32,56,48,48,48,32,56,48,48,48,32,53,48,48,32,52,48,48,32,57,48,48,32,53,48,48,32,48,32,49,48],.str [108,111,103,32,116,49,32,50,32,51,57,48,32,52,49,48,32,49,32,49],.str [114,117,108,101,32,48,32,48,32,48,32,57,32,57,32,57,32,50,48,32,53,32,49,32,49],.str [113,117,97,107,101,32,49,32,49,32,49,32,50,53],.str [116,105,99,107,32,45,49,48,48],.str [116,105,99,107,32,53,48],.str [117,110,105,116,32,48,32,49,48,48,32,52,48,48],.str [115,101,108,108,32,48,32,48,32,48,32,51],.str [10],.str [46,46],.int .i64 (zc 999999999)] i .undef
def FE(i:Nat):List D:=List.getD [[.int .i64 (aV 0),.int .i64 (aV 0),.int .i64 (aV 0)],[.int .i64 (aV 0),.int .i64 (aV 0),.int .i64 (aV 0),.int .i64 (aV 0)],[.int .i64 (aV 0),.int .i64 (aV 0)],[.int .i64 (aV 0)],[.int .i64 (aV 0),.int .i64 (aV 0),.int .i64 (aV 0),.int .i64 (aV 0),.aW,.int .i64 (aV 0),.int .i64 (aV 0),.int .i64 (aV 0),.aW,.aW,.aW,.aW,.aW,.int .i64 (aV 0),.int .i64 (aV 0),.int .i64 (aV 0),.aW,.aW,.bool false,.aW],[.bool false,.int .i64 (aV 0),.int .i64 (aV 0),.pC],[.int .i64 (aV 0),.aW],[.aW,.aW],[.str [],.aW],[.str [],.aW,.bool false,.int .i64 (aV 0)],[.int .i64 (aV 0),.int .i64 (aV 0),.int .i64 (aV 0),.int .i64 (aV 0),.int .i64 (aV 0)],[.aW],[.int .i64 (aV 0),.int .u8 (aV 0),.int .i64 (aV 0),.int .i64 (aV 0),.int .i64 (aV 0)],[.int .i64 (aV 0),.int .i64 (aV 0),.int .i64 (aV 0),.int .i64 (aV 0),.aW,.int .i64 (aV 0),.int .i64 (aV 0),.int .i64 (aV 0),.aW,.str [],.aW],[.int .i64 (aV 0),.int .i64 (aV 0),.int .i64 (aV 0),.int .i64 (aV 0),.int .i64 (aV 0),.int .i64 (aV 0),.int .i64 (aV 0),.int .i64 (aV 0),.int .i64 (aV 0),.int .u8 (aV 0)],[.int .i64 (aV 0),.int .i64 (aV 0),.int .i64 (aV 0),.int .i64 (aV 0),.int .i64 (aV 0),.int .i64 (aV 0),.int .i64 (aV 0),.int .i64 (aV 0),.int .i64 (aV 0),.int .i64 (aV 0)],[.str [],.int .i64 (aV 0),.aW,.aW,.int .i64 (aV 0),.int .i64 (aV 0)],[.int .i64 (aV 0),.int .i64 (aV 0),.int .i64 (aV 0),.int .i64 (aV 0),.int .i64 (aV 0),.int .i64 (aV 0)],[.str []],[.int .i64 (aV 0),.int .i64 (aV 0),.int .i64 (aV 0),.int .i64 (aV 0),.aW,.int .i64 (aV 0),.int .i64 (aV 0),.int .i64 (aV 0),.aW],[.pC,.pC],[.pC,.pC,.pC,.pC,.pC],[.str [],.str [],.str [],.str []],[.str [],.str [],.str []],[.str [],.str [],.str [],.str [],.str [],.str [],.str [],.str [],.str [],.str []],[.str [],.str [],.str [],.str [],.str [],.str []],[.str [],.str [],.str [],.str [],.str [],.str [],.str [],.str [],.str [],.str [],.str [],.str [],.str []],[.int .i64 (aV 0),.int .i64 (aV 0),.int .i64 (aV 0),.int .i64 (aV 0),.aW,.int .i64 (aV 0),.int .i64 (aV 0),.int .i64 (aV 0),.aW,.aW,.aW,.aW,.aW,.int .i64 (aV 0),.int .i64 (aV 0),.int .i64 (aV 0),.aW,.aW,.bool false,.aW,.int .i64 (aV 0)],[.int .i64 (aV 0),.int .i64 (aV 0),.int .i64 (aV 0),.int .i64 (aV 0),.aW,.int .i64 (aV 0),.int .i64 (aV 0),.int .i64 (aV 0),.aW,.aW,.aW,.aW,.aW,.int .i64 (aV 0),.int .i64 (aV 0),.int .i64 (aV 0),.aW,.aW],[.int .u8 (aV 0),.int .u8 (aV 0)],[.int .u8 (aV 0),.int .u8 (aV 0),.int .u8 (aV 0),.int .u8 (aV 0)],[.pC,.pC,.pC],[.bool false],[.int .i64 (aV 0),.int .i64 (aV 0),.int .i64 (aV 0),.int .i64 (aV 0),.int .i64 (aV 0),.aW,.aW],[.int .i64 (aV 0),.int .i64 (aV 0),.int .i64 (aV 0),.int .i64 (aV 0),.int .i64 (aV 0),.int .i64 (aV 0),.int .i64 (aV 0),.int .i64 (aV 0)],[.undef]] i []
def agp:List (jg->jg):=[DM λs v x=>{s with x:=x,n:=v},
 Z0 λs a c=>{s with o:=[],c:=sR s.l s.o a::c},
 DM λs m x=>re x λv x=>Xj v λv=>abc (m-1) v [v] x λl x=>{s with x:=x,l:=l},
 DM λs v x=>adq (abb v s.l) λl=>{s with x:=x,l:=l},
 DM λs v x=>adq (s.l.eraseIdx v) λl=>{s with x:=x,l:=l},
 kf λn a=>ql n 1 (n-a),
 λs=>{s with c:=.ret::s.c},
 Xi λs a b c=>{s with c:=.seq a b::c},
 λs=>{s with o:=[],p:=(s.l,s.o)::s.p},
 Xl λn v => .t (n-v),
 kf λn a=>qL n 1 (n-a),
 λs=>{s with o:=[],c:=.rM s.l s.o::s.c},
 om λn=>qm n 0,
 Xm λn v => .t (n-v),
 λs=>{s with c:=.IX::s.c},
 IC λn a b=>qm a (n-b),
 om λn=>qi n (aV 0),
 λs=>{s with g:=none},
 kf λn a=>qM n a,
 DM λs v x=>Xi (λs a b c=>{s with x:=x,c:=.ite (.t v) a b::c}) s,
 kf λn a=>qe n (n-a),
 kf λn a=>qm n a,
 DM λs v x=>{s with x:=x,g:=some (v,true)},
 DM λs v x=>Z0 (λs a c=>{s with x:=x,c:=.dC v a::c}) s,
 kf λn a=>qu n (n-a),
 om λn=>qm n 5,
 om λn=>qm n 1,
 kf λn a=>qm n (n-a),
 kf λn a=>qf n 0 (n-a),
 iT λn a b=>qp n (n-a) (n-b),
 iT λn a b=>qf n a b,
 Xl λ_ v => .t v,
 kf λn a=>qf n 1 a,
 DM λs v x=>{s with x:=x,c:=s.k.getD v .IX::s.c},
 om λn=>qM n 2,
 IB λn a b c=>qj n a (n-b) (n-c),
 om λn=>qb n false,
 DM λs v x=>{s with x:=x,c:=.exit v::s.c},
 iT λn a b=>qF n a b,
 iT λn a b=>qk n .lss (n-a) (n-b),
 DM λs v x=>DL s (s.r.getD v default) x (s.n-1),
 DM λs v x=>{s with x:=x,g:=some (v,false)},
 kf λn a=>qn n .add (n-a) (aV 1),
 iT λn a b=>qa n a b,
 iT λn a b=>qv n a 1 (n-b),
 IB λn a b c=>qJ n a (n-b) (n-c),
 om λn=>qx n 0,
 iT λn a b=>qO n (.Hk 1 (.t (n-a)) (.c (.int .i64 (aV b)))),
 iT λn a b=>qc n a [(n-b)],
 iT λn a b=>qP n (n-a) (n-b),
 DM λs v x=>Xk (λs m _=>Xi (λs a b c=>{s with x:=x,o:=[],c:=sL s.l s.o v m false a b::c}) s) s,
 DM λs v x=>Xi (λs a b c=>{s with x:=x,o:=[],c:=sI s.l s.o v a b (c.headD .IX)::c.tail}) s,
 kf λn a=>qF n 0 (n-a),
 DM λs v x=>Xk (λs m r=>Z0 (λs a c=>{s with x:=x,o:=[],c:=sE s.l s.o v m r a::c}) s) s,
 om λn=>qm n 8,
 om λn=>qm n 3,
 iT λn a b=>qV n a 1 (n-b),
 om λn=>qm n 7,
 kf λn a=>qf n 2 a,
 iT λn a b=>qz n (n-a) b,
 om λn=>qm n 9,
 om λn=>qm n 6,
 Xn λn a b c d=>qs a b c (n-d),
 Xl λ_ v => .c (agn v),
 Fe λn q a=>qo n (.call false (.c (.fn a [] [])) (Hv q)),
 IC λn a b=>qm (n-a) (n-b),
 om λn=>qm n 2,
 Fe λn q a=>qo n (.Ln (FE a) q),
 IC λ_ a b=>qi a (aV b),
 om λn=>qm n 4,
 kf λn a=>qf n 0 a,
 iT λn a b=>qA n a (n-b),
 om λn=>qm n 11,
 om λn=>qm n 10,
 IB λn a b c=>qw n a b c,
 IB λn a b c=>qc n a [(n-b),(n-c)],
 Xl λ_ v => .c (.int .i64 (aV v)),
 Xk λs _ a=>Xk (λs _ b=>{s with o:=[],c:=.PQ s.l s.o (a.headD default) b::s.c}) s,
 iT λn a b=>qf n a (n-b),
 iT λn a b=>qF n a (n-b),
 Xm λ_ v => .c (.int .i64 (aV v)),
 kf λn a=>qo n (.ZS (.t (n-a))),
 om λn=>qx n 1,
 Kg λn a=>qm 5 (n-a),
 Kg λ_ a=>qi a (aV 0),
 IC λ_ a b=>qo a (.BJ [] (FE b)),
 om λn=>qM n 1,
 kf λn a=>qf n 3 a,
 iT λn a b=>qn n .gtr (n-a) (aV b),
 Xm λ_ v => .t v,
 kf λn a=>qF n 0 a,
 iT λn a b=>qA n a b,
 SL λn q=>qo n (.ID (.seq false) (Hv q)),
 Xm λ_ v => .c (agn v),
 Uo λn a b c d=>qy n a b (n-c) (n-d),
 Uo λn a b c d=>qo n (.call false (.c (.fn a [] [])) [(.t (n-b)),(.c (.int .i64 (aV c))),(.c (.int .i64 (aV d)))]),
 IC λ_ a b=>qs 4 a 4 b,
 om λn=>qM n 0,
 iT λn a b=>qZ n (n-a) b,
 Kg λ_ a=>qx a 0,
 iT λn a b=>qk n .mul (n-a) (n-b),
 iT λn a b=>qo n (.call false (.t (n-a)) [(.t (n-b))]),
 kf λn a=>qo n (.BJ [] (FE a)),
 kf λn a=>qa n a 3,
 om λn=>qf n 0 1,
 IC λn a b=>qM a (n-b),
 Fe λn q a=>qO n (.Ln (FE a) q),
 kf λn a=>qa n 4 (n-a),
 Kg λ_ a=>qb a false,
 kf λn a=>qO n (.ZS (.t (n-a))),
 ads λ_ a b c=>qt a b c,
 iT λn a b=>qn n .eql (n-a) (aV b),
 om λn=>qm n 12,
 abd λn q a b c=>qO n (.X3 a b (FE c) q),
 Fe λn q a=>qO n (.call false (.c (.fn a [] [])) (Hv q)),
 DM λs v x=>DL s (s.r.getD v default) x s.n,
 IB λn a b c=>qW n a b c,
 IB λn a b c=>qC n a [(n-b),(n-c)],
 om λn=>qM n 11,
 om λn=>qm n 14,
 om λn=>qm n 18,
 iT λn a b=>qk n .leq (n-a) (n-b),
 iT λn a b=>qK n .mul (n-a) (n-b),
 Fe λn q a=>qo n (.W4 a [] (Hv q)),
 kf λn a=>qi n (aV a),
 kf λn a=>qn n .neq (n-a) (aV 0),
 iT λn a b=>qk n .add (n-a) (n-b),
 Uo λn a b c d=>qc n a [(n-b),(n-c),(n-d)],
 Xn λ_ a b c d=>qs a b c d,
 om λn=>qm n 17,
 Kg λn a=>qs 6 20 6 (n-a),
 kf λn a=>qc n a [5,6],
 abd λn q a b c=>qo n (.X3 a b (FE c) q),
 iT λn a b=>⟨(some n),none,false,(.call false (.c (.fn 127 [] [])) [(.t (n-a)),(.c (.int .i64 (aV b)))])⟩,
 iT λn a b=>qn n .geq (n-a) (aV b),
 ads λn a b c=>qs a 1 (n-b) (n-c),
 iT λn a b=>qk n .sub (n-a) (n-b),
 om λn=>qm n 13,
 om λn=>qm n 15,
 om λn=>qm n 16,
 λs=>{s with c:=.cG s.l::s.c},
 iT λn a b=>qn n .lss (n-a) (aV b),
 om λn=>qo n (.mv (.c .aW)),
 kf λn a=>qo n (.ID .PH [(.t (n-a))]),
 iT λn a b=>qw n a 20 b,
 Fe λn q a=>⟨(some n),none,false,(.call false (.c (.fn a [] [])) (Hv q))⟩,
 om λn=>qw n 3 20 3,
 kf λn a=>qo n (.Ln (FE a) []),
 IC λ_ a b=>qm a b,
 kf λn a=>qN n .sub (n-a) (aV 1),
 IC λ_ a b=>qo a (.Kc b),
 IC λ_ a b=>qO a (.BJ [] (FE b)),
 om λn=>qo n (.mv (.c (.int .u8 (aV 0)))),
 kf λn a=>qE n (n-a),
 Xm λ_ v => .c (.fn v [] []),
 iT λn a b=>qn n .leq (n-a) (aV b),
 Xn λn a b c d=>qS a b c (n-d),
 agr λ_ q=>⟨none,none,false,(.mp (.put none) (Hv q))⟩,
 kf λn a=>qn n .sub (n-a) (aV 1),
 SL λn q=>qo n (.ID .KZ (Hv q)),
 kf λn a=>qo n (.X3 1 1 [(.int .i64 (aV 0))] [(0,1,(.t (n-a)))]),
 Uo λn a b c d=>qC n a [(n-b),(n-c),(n-d)],
 kf λn a=>qo n (.Kc a),
 om λn=>qi n (zc 1),
 Uo λn a b c d=>qO n (.app a b (.t (n-c)) (.t (n-d))),
 iT λn a b=>qk n .neq (n-a) (n-b),
 iT λn a b=>qk n .geq (n-a) (n-b),
 Xl λ_ v => .c (.fn v [] []),
 iT λn a b=>qo n (.bin .eql (.t (n-a)) (.c (.int .u8 (aV b)))),
 kf λn a=>qO n (.UK false 1 (.t (n-a))),
 kf λn a=>qo n (.un .neg (.t (n-a))),
 Kg λ_ a=>qo a (.mv (.c .aW)),
 om λn=>qb n true,
 iT λn a b=>qN n .add (n-a) (aV b),
 IB λn a b c=>qo n (.Hk a (.t (n-b)) (.c (.int .i64 (aV c)))),
 IB λn a b c=>qo n (.call false (.c (.fn a [] [])) [(.t (n-b)),(.c (.int .i64 (aV c))),(.c (.int .i64 (aV 1000000)))]),
 iT λn a b=>qK n .sub (n-a) (n-b),
 iT λn a b=>qK n .quo (n-a) (n-b),
 Z0 λs a c=>{s with c:=.loop s.l false a::c},
 Fe λn q a=>qo n (.call true (.c (.fn a [] [])) (Hv q)),
 iT λn a b=>qk n .eql (n-a) (n-b),
 IB λn a b c=>qO n (.app a b (.c .aW) (.t (n-c))),
 iT λn a b=>qk n .gtr (n-a) (n-b),
 λs=>{s with l:=[]},
 om λn=>qo n (.mv (.c (.str []))),
 kf λn a=>qO n (.un .not (.t (n-a))),
 IB λn a b c=>qo n (.KR a 1 (.t b) (.c (.int .i64 (aV c)))),
 iT λn a b=>qk n .quo a b,
 kf λn a=>qc n a [],
 Fe λn q a=>qO n (.call false (.t (n-a)) (Hv q)),
 Kg λ_ a=>qo a (.Fl (.t 0)),
 Xn λ_ a b c d=>⟨none,none,false,(.HF a [(0,b)] 1 c (.t d))⟩,
 iT λn a b=>qo n (.mn (.t (n-a)) (.t (n-b))),
 IB λn a b c=>qo n (.Yb a (.t (n-b)) (some (.c (.int .i64 (aV c)))) none none),
 kf λn a=>qx n a,
 IC λ_ a b=>⟨none,none,false,(.st [] 1 (.t a) (.c (.int .i64 (aV b))))⟩,
 IC λ_ a b=>qo a (.TB [] (FE b)),
 iT λn a b=>qo n (.mx (.t (n-a)) (.t (n-b))),
 iT λn a b=>qO n (.pick (.t a) (.c (.bool true)) (.t (n-b))),
 Kg λ_ a=>⟨none,none,false,(.Xh (.t a))⟩,
 ads λ_ a b c=>⟨none,none,false,(.st [(0,a)] 1 (.t b) (.t c))⟩,
 kf λn a=>qo n (.KR 3 1 (.t 6) (.c (.int .u8 (aV a)))),
 iT λn a b=>qo n (.eqv true [(some .i64),(some .i64),(some .i64),(some .i64)] false (.t (n-a)) (.t (n-b))),
 DM λs v x=>Xj v λv=>{s with x:=x,l:=v::s.l},
 Kg λ_ a=>qo a (.mv (.c (.str []))),
 iT λn a b=>qn n .rem (n-a) (aV b),
 Fe λn q a=>qo n (.W4 a (Hv q) []),
 iT λn a b=>qo n (.bin .gtr (.t a) (.c (.int .u8 (aV b)))),
 iT λn a b=>qo n (.call false (.c (.fn a [] [])) [(.t b),(.c (.int .i64 (aV 0))),(.c (.int .i64 (aV 1000000000)))]),
 iT λn a b=>qo n (.call false (.c (.fn a [] [])) [(.t b),(.c (.int .i64 (zc 100000))),(.c (.int .i64 (aV 100000)))]),
 kf λn a=>qo n (.mx (.c (.int .i64 (aV 0))) (.t (n-a))),
 iT λn a b=>qO n (.mn (.t (n-a)) (.t (n-b))),
 kf λn a=>qo n (.V5 0 a [] []),
 om λn=>qo n (.ZB false false (.t 3)),
 agq λn q a b=>qo n (.V5 a 1 (FE b) q),
 Xn λ_ a b c d=>⟨none,none,false,(.HF a [(1,b)] 2 c (.t d))⟩,
 kf λn a=>qO n (.Wc .u8 (.t a)),
 kf λn a=>qo n (.UK false 1 (.t a)),
 Uo λn a b c d=>qo n (.X9 1 a (FE b) (.t c) (.t d)),
 kf λn a=>qo n (.Wc .u8 (.t a)),
 iT λn a b=>qo n (.bin .mul (.c (.int .i64 (aV a))) (.t b)),
 iT λn a b=>qo n (.bin .lss (.t a) (.c (.int .u8 (aV b)))),
 IB λn a b c=>qo n (.call false (.c (.fn a [] [])) [(.t b),(.c (.int .i64 (aV c))),(.c (.int .i64 (aV 100000)))]),
 om λn=>qo n (.mp .make []),
 iT λn a b=>qo n (.call false (.c (.fn a [] [])) [(.t b),(.c (.int .i64 (zc 20000))),(.c (.int .i64 (aV 20000)))]),
 Kg λ_ a=>qo a (.mv (.c (.int .u8 (aV 0)))),
 kf λn a=>qO n (.Yb 1 (.t a) (some (.c (.int .i64 (aV 1)))) none none),
 kf λn a=>qO n (.Ln (FE a) []),
 iT λn a b=>qo n (.UK true a (.t b)),
 kf λn a=>qo n (.ZA false (.t a)),
 kf λn a=>qo n (.Wc .i64 (.t a)),
 iT λn a b=>qo n (.KR 3 1 (.t a) (.t b)),
 iT λn a b=>qO n (.Hk a (.t b) (.c (.int .i64 (aV 0)))),
 iT λn a b=>qo n (.bin .leq (.t a) (.c (.int .u8 (aV b)))),
 om λn=>qo n (.TB [] (FE 3)),
 om λn=>qo n (.mv (.c .pC)),
 SL λn q=>qo n (.ID (.Nv true false) (Hv q)),
 iT λn a b=>qo n (.eqv true [(some .i64),(some .i64),(some .i64),(some .i64)] true (.t a) (.t b)),
 kf λn a=>qO n (.BJ [] (FE a)),
 iT λn a b=>qo n (.call false (.c (.fn a [] [])) [(.t b),(.c (.int .i64 (aV 1))),(.c (.int .i64 (aV 10000)))]),
 ajt λ_=>⟨none,none,true,(.st [] 1 (.t 51) (.c (.bool false)))⟩,
 Kg λ_ a=>⟨none,none,false,(.st [] 1 (.t a) (.c (.bool true)))⟩,
 Fe λn q a=>qO n (.W4 a [] (Hv q)),
 IC λ_ a b=>qO a (.TB [] (FE b)),
 kf λn a=>qo n (.call false (.c (.fn 130 [] [])) [(.t a),(.c (.int .i64 (zc 10000000000))),(.c (.int .i64 (aV 10000000000)))]),
 DM λs v x=>Xk (λs m _=>Xi (λs a b c=>{s with x:=x,o:=[],c:=sL s.l s.o v m true a b::c}) s) s,
 kf λn a=>qo n (.call false (.c (.fn a [] [])) [(.t 13),(.c (.int .i64 (aV 0))),(.c (.int .i64 (aV 1000000000000)))]),
 kf λn a=>qo n (.call false (.c (.fn a [] [])) [(.t 8),(.c (.int .i64 (aV 0))),(.c (.int .i64 (aV 10000000000)))]),
 SL λn q=>qo n (.mp (.get none (.bool false) false) (Hv q))]
def Pl:Nat->jg->Abs.cb
 |0,s=>s.c.headD .IX
 |k+1,⟨x,n,l,o,p,c,g,q,K,r⟩=>match x with
  |0=>c.headD .IX
  |1=>c.headD .IX
  |y+2=>Xj n λn=>ago 40 21 7 102 (y+2) λa x=>Pl k (agp.getD a id ⟨x,n,l,o,p,c,g,q,K,r⟩)
def gD(K:List Abs.cb)(r:List Abs.Op)(x:Nat){c:Abs.cb}(_:Pl 100000 ⟨x,0,[],[],[],[],none,[],K,r⟩=c):Abs.cb:=c
def gC(x:Nat){c:Abs.cb}(_:Pl 100000 ⟨x,0,[],[],[],[],none,[],[],[]⟩=c):Abs.cb:=c
@[simp,simp ↓] theorem gDe{K:List Abs.cb}{r:List Abs.Op}{x:Nat}{c:Abs.cb}{h:Pl 100000 ⟨x,0,[],[],[],[],none,[],K,r⟩=c}:@gD K r x c h=c:=rfl
@[simp,simp ↓] theorem gCe{x:Nat}{c:Abs.cb}{h:Pl 100000 ⟨x,0,[],[],[],[],none,[],[],[]⟩=c}:@gC x c h=c:=rfl
@[simp] def zI:D:=.int .i64 0
def an7(x0:List (Nat×List Nat))(x1:List (Nat×List Nat))(x2:List Nat)(x3:List Nat)(x4:List Nat)(x5:List (Nat×List (Nat×Nat)))(x6:List Nat):sS:=⟨x0,x1,x2,x3,x4,x5,x6,[],[],[],[]⟩
end Go.Proofs.YtpapbbojmclkgaaGreatDoor
