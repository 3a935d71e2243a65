import Derived.Test.YtpapbbojmclkgaaGreatDoorIds
set_option linter.all false
set_option maxRecDepth 100000
namespace Go.Proofs.YtpapbbojmclkgaaGreatDoor
open Go Go.Abs
attribute [local irreducible] aX zC
def pC:Abs.b9:=gC ")Uv6IVn??>d7+Uihs)R(,e1sSig:2:f@aEPG^1t:bTtwo(VZ3Cn]_.y^dEFtDC<P:?ka)AYBK=<vfv?`qCgc("
def zV:Abs.Fn:=⟨2,[.t 4],gD [] [qo 14 (.mn (.c (.int .i64 (aX 0))) (.t 13))] "3Z86C)Gy,M;B^k>):^BatAvZu6hL=>kII>0"⟩
def xp:Abs.Fn:=⟨3,[.t 6],gD [] [qO 23 (.Nq false 5 1 (.t 20) (.t 22)),qC 20 308 []] "uKUfj[gMb_m:(([5SWoos62:y0Jw]=TX>V088tpgG`<G=k*d5fp=QFtCapgiv])ZOihI>1W=XKlVpDwjhy;h8m:Qg0"⟩
def yr:Abs.Fn:=⟨1,[.t 2],gC "+K.+<J0=CP.0QV[,H8Y=)O2]5XGXS1:J3qhuzNT7x]Gala*P`0Y]uERMKU<RHjXyKkSL>0"⟩
def z6:Abs.Fn:=⟨2,[.t 4],gC ".rZ+v,G^lYqQ@Cc+B_7+E<kWGCR0"⟩
def wu:Abs.Fn:=⟨1,[.t 2],gD [] [qo 19 (.bin .mul (.c (.int .i64 (aX 10000))) (.t 18))] "Q91LT^m?W5p(@co_*]pd`?daPtv<qCOy<RGfCwHt0WrL2@Odcu+Bm1@?+Jixs3Idvs(CoQ5y(zMa:CM.1+?JY,*RZg0"⟩
def BD:Abs.Fn:=⟨2,[.v 4 true 5],gC "?i*nX.oTjhCyL33zj;(j>6_ul9X"⟩
def BE:Abs.Fn:=⟨2,[.v 4 true 10],gC "*x,fx..ScYgybyf=IKFM?7cKMJmmQ+jilQBiWAB.ZN.`li>>Q:DiIRy`dk?:FUdqN,ZjcB_UU2UoHskhg^Jn_wd?nz*Go6Oo(IPl@qnFYMnC]=3jVMZ@f(_snLYb*HJrS*5minq<p;ybfN=g<a5pI=xmpMdomgl2raaT^xL[y7TVPpm5RR(`u]n8v2IHPtodt2=h6*AeG_NKf+XLPUVmQjVA1Ics3qfKAdW_ga3Z`3^@MPtxx_HK`BtW?S[7N:euRBlgLInX2nXFX[ypH3(_m9gV`>Mwt0G.bX"⟩
def E6:Abs.Fn:=⟨1,[.t 2],gC "+6D<cur6)iDq>)(hbxym5R0"⟩
def fE:Abs.b9:=gC "234JZJokXZMJgVgl2ayHs.3:Q+mCX<9_QP=v.[ziO;buC]MA:I("
def iF:Abs.b9:=gC "4ImWf<[b_HH<KBx1rR"
def iG:Abs.b9:=gC "EmmJ)Auhpq?)eV7zYZxnL"
def j8:Abs.b9:=gC "vuVw6,50(*5ti2fQ]Y8sbDF>36kyJwaBnV7cXpVoP>gsD9w("
def j7:Abs.b9:=gC "vuVw6,50(*5ti2fQ]Y8sbDF>36kyKIAo+T`wvDPGe>gsD9w("
def qQ:Abs.b9:=gC "2:WI.CUUsp>2^:?yd*e1*f,;r?X+q<^5_.4)Q@49B<qY=Ek)ME^RuH32srR"
def wY:Abs.Fn:=⟨1,[.t 2],gC ")?JV64qv?LdJGmMXDdeWhcbEJTcDG=Hz<4RlaHFK3Wo5*jPzRrGK2<[fN]SP9(ung,A]a0;KhR=[=gE:5.6rohOeg0"⟩
def DG:Abs.Fn:=⟨3,[.t 6],gC "IRK8_]_)6RL`WWtN6Thniw,kbDBb>0"⟩
def uV:Abs.Fn:=⟨2,[.t 4],gC ".WWVCRrjwW?ZWMhel*f38lk6>0"⟩
def zZ:Abs.Fn:=⟨1,[.t 2],gC "<rz9A@X7hn]xD14juO+T<(rXO.dlUMpCCij;29uk_d>,rpVVHl^@Pz1KjH,xPGh=PeFk:9Rns8V>kHd__GX@8GZwsx`a03paQQRNs7(9Zdog0"⟩
def FA:Abs.Fn:=⟨3,[.t 6],gC "IRK8_]_)6RL`WWtN6Thniw,kbDBb>0"⟩
def C6:Abs.Fn:=⟨1,[.t 2],gC ")NcDzkhn<4>.xo2v7dFBTWO2Ir]nJ3:V(0"⟩
def wh:Abs.Fn:=⟨2,[.t 4],gC ".WWVCRrjwW?eOPW,Yf:OJCk6>0"⟩
def yB:Abs.Fn:=⟨2,[.t 3],gC "4KvUQ8G>CWu9oj;*J:Wv`5T:n(66rs^(+3=y<fB5HJDWs2x;p:je2hg,YA7L]]t5ZKqqy_glYxTgA,bAzS^<tt]=+irN]8tV0Wm3l[=(0"⟩
def iL:Abs.b9:=gD [] [qo 21 (.Nq true 4 2 (.t 17) (.t 18))] "4ydN+C]zMX<)=r=kNh5h5k?djL?JLO8NhgkUkqJNb;Xq@;Gvj<b1vCg`[sKnwmj6w>1x2:E*0nr2ZT]zOGTx])R"
def yG:Abs.Fn:=⟨2,[.t 4],gC "f(ar+6:wDi@@*=:UYsWIup4914uCR0"⟩
def yK:Abs.Fn:=⟨2,[.t 4],gC "f(ar+6:wDi@@*=:UYui<pYCl14uCR0"⟩
def dS:Abs.b9:=gC ",fq7P<)8G4Qq``=Qg>xOYla6RCPFOUGCqI1,QEH1jrgUQNP2I=>r_EReEeYAUViHH51K5Eo7JujE5]wOr>Zp2r*^b<[HGXde:>C,]XK9n_UoC0K8ELpEtfwda*ep("
def rL:Abs.Fn:=⟨2,[.t 3,.t 4],gC ",@+]`SMx]>soErPfb5zZp)NZmvV(.R0"⟩
def m6:Abs.b9:=gD [] [qo 13 (.bin .geq (.t 12) (.c (.int .u8 (aX 97))))] ",XNGmrpXYjSsiGI0*AG(ptd5f:.K)m.0[5*FrhA)t:4nD.t7k>Sh),laupT[;zfBqpapoZmMifGpt^qcgU37u`lYXSCoDvstwy:9srryQTU5w_.S]a4OnA]b;8(_YtU0on8x@q;e:lWm>>("
def vT:Abs.Fn:=⟨1,[.t 2],gC "+3rDTgu3=En;I[va_pOnRXBVshR0"⟩
def CY:Abs.Fn:=⟨2,[.t 4],gC ".WWVCRrjwW?y?V5bi_Z,alk6>0"⟩
def uK:Abs.Fn:=⟨1,[.t 2],gC "*P2]w(BZN^kdiUm5R0"⟩
def Dr:Abs.Fn:=⟨3,[.t 6],gC "IRK8_]_)6RL`WWtN6Thniw,kbDBb>0"⟩
def gA:Abs.b9:=gC "KN9bgk[fZ<dOzd`T]XSUF4F@9MwYeU3HZM?*@x@Q(bndYbdqS?U8u@Yi*oX?hKL<MNw*;+uP2EW)JuxVc)Bl8lwD@gxX2>JI5*+)sKWk.BpfaM4pDMnEPPN<d`JR"
def ym:Abs.Fn:=⟨1,[.t 2],gD [] [qn 16 .leq 15 (aX 10000000000),qo 5 (.bin .leq (.c (.int .i64 (zC 10000000000))) (.t 4))] "007szq,defNK?aiWm<^(m^4f2zxS?@`c6g7i)pwzHZ6xR0"⟩
def jZ:Abs.b9:=gD [] [qK 30 .add 28 29] "<JgoY>.<26K[E[`w?FelN6Mq=*8_:u9N)[Li7smPQ.o09c`hm0;?xPypy2f2+(]Hw0maMN?+i38,XmnGe;EXwjK:<I4I;[R"
def oY:Abs.Fn:=⟨2,[.t 4],gC ",FKO,T6S`2[v^?Eeok6>0"⟩
def wz:Abs.Fn:=⟨2,[.t 3],gC "6^@WS>RrmEY5npH).>0"⟩
def Bw:Abs.Fn:=⟨2,[.t 4],gC "<Fl_>>2^8;K<cpiX?spEW4bES,G(iAbtnm)PW1PaXh]t8qD*2LmTK,<II>7xo:ZT<^hZqU(0"⟩
def iN:Abs.b9:=gD [] [qo 26 (.mp .ent [.t 23])] ")0gviSOhhGohK.<H)Ig>9X(E6b_`b]ZwK5GDxM9szJ+_(PWnSKW`L9g)oKUq]YgaZu:>,(e(kwQO0luxmk<GLrLa<Yeuw[X("
def gJ:Abs.b9:=gD [] [qN 79 .quo 78 (aX 8)] "R+ik.`Bg:lvX7A.2[b3(PNcIQt[X0zFAU2zVup_FDdOA*Ognjk]Db05rxU*n_Z^hjzkbfvRgh^YiRqx_w5A2id)KDfKT)@nMwaYrm6?5k`UUTbrKo9g41i3Q`QzA`*[4[^.q.DVs=EcHd@3G9faCqm``WWG0,RymLTT),jy91kR)w3;X`DSs@:V:viR60BkRJv^G4yCqwt[prDp5>h]("
def gK:Abs.b9:=gC "ea<0aO]9Ac@TpHhRS3tI5XaahK?s5A9PFzld+:4>t0,P;gj+<(4wHa@7eF+?(Cfb=tphAiVZ]R"
def wV:Abs.Fn:=⟨2,[.t 4],gC ")3IFilv,=v1ra>Xn(cUekK>0,:tpd].p[^X,]=[[CfCR0"⟩
def tO:Abs.Fn:=⟨2,[.t 4],gC ".WWVCRrjwW@i[iAAgf7x?.k6>0"⟩
def DF:Abs.Fn:=⟨2,[.t 3],gC "+UYCxF[.eERwzZ?4L7(rNrf*P+HfD.>0"⟩
def ft:Abs.b9:=gC ".jGGLI;[zSou)vsWr@zm`wpkt9l^TF7V03VrN(QZrm+w?xmSE=h55qS:kWnKLDm5i7?r2?5]E1(i1nGnQqnS1OA9A@4r;iyR"
def GB:Abs.Fn:=⟨0,[.v 0 true 5],gC "),upd@WXUgQNihs@k>t4_e_sg@BjtzP0"⟩
def Dx:Abs.Fn:=⟨3,[.t 6],gC "IRK8_]_)6RL`WWtN6Thniw,kbDBb>0"⟩
def tL:Abs.Fn:=⟨2,[.t 4],gC ".WWVCRrjwWA;?s,u(:kc*Ck6>0"⟩
def we:Abs.Fn:=⟨2,[.t 3],gC "]Q_Z9czGXE+hZcZA40x]0]j*6+oJ[dhh>7xeB7^.r`q3;(D]?Wx*;HIpa78>0"⟩
def xu:Abs.Fn:=⟨2,[.t 4],gC "**M^)4,@B1da8^ZI5+0anj:Btz^T8Z+)>CslQkU@O5`weS^vbr<d?fENUx>znM,BvfaeZaID2BuZ]aQ`Iqo1pz_M?0[miMj`PH+MR(yET`nio`O:e(x1CI]3>0"⟩
def rO:Abs.Fn:=⟨2,[.t 4],gC ".WWVCRrjwWAE7uo=it@,=lk6>0"⟩
def C4:Abs.Fn:=⟨1,[.t 2],gC ",x.1s1^?5MMqs[4+`UMeg0"⟩
def xq:Abs.Fn:=⟨1,[.t 2],gC "bGrj3>54xjrwmcUzcY.ONe)J>TR0"⟩
def zN:Abs.Fn:=⟨2,[.t 4],gD [] [qo 3 (.La (.t 1))] "+9:`FfRWu`CV7uE7Ze.M4f>0"⟩
def mM:Abs.Fn:=⟨2,[.t 4],gC ",FKO,T6S`2^6kBZ@Zk6>0"⟩
def tc:Abs.Fn:=⟨2,[.t 3],gC "28EdAyA04UHdSS_PuH).>0"⟩
def mK:Abs.Fn:=⟨2,[.t 4],gC ",FKO,T6S`2^:b<DcFk6>0"⟩
def tP:Abs.Fn:=⟨2,[.t 3],gC "28EdAyA04UHHC.UTaH).>0"⟩
def DE:Abs.Fn:=⟨2,[.t 4],gC ".WWVCRrjwWAcq+<:_7Nkalk6>0"⟩
def yH:Abs.Fn:=⟨2,[.t 4],gD [] [qo 19 (.Vj 1 (.t 7) (some (.t 12)) (some (.t 18)) none)] ")QTDA7L(8z)@McuCGm35W?U31JQV>,lQQhCgd5cj;t6d4EcHE,)l>Q>0"⟩
def wi:Abs.Fn:=⟨2,[.t 3],gC "3Ts@(6p@A;vy.8@G7PA2Z01<qQC>0"⟩
def zH:Abs.Fn:=⟨2,[.t 3],gC "6^@WS>RrmEY5npH).>0"⟩
def oZ:Abs.b9:=gC "2:WI.CUUsp>2^:?yd*e1*f,;r?X+q<^5_.4)Q@49B<qY=Ek)ME^RuH32srR"
def yz:Abs.Fn:=⟨1,[.t 2],gC "*P2]w(BZN]V7nSD5R0"⟩
def j6:Abs.Fn:=⟨1,[.t 2],gC "ZDf<SZd`)lZa3kKo3KvjuIHDyG(N.(0"⟩
def gb:Abs.b9:=gC "rX_O[q37A;p(w"
def dq:Abs.b9:=gD [] [⟨none,none,false,.mp (.put (some (true,[some .i64,some .i64]))) [.t 72,.t 73,.t 80]⟩,qn 68 .quo 67 (aX 8),qn 61 .quo 60 (aX 1000)] ",j`khkv@k3STRLe^_^`@q1G;m+w_>c1<hQmAcn4vntSc]:WHy(hhwpm:Rlx27^5wG[J`<LhZc4QC6)wElY,3DVkHLvZNB87@.aGEt>o]VgZZYi3vCXqyx@8g0eW2xP[C.1a(=tGujyaaj:ua1pZ,6Q=1(g[DoBo;<wzr0=[QaH6WyMME>+o:E]e6IC:I)pW3?poE[e(x^wJRX@cnhf?O8"
def zR:Abs.Fn:=⟨3,[],gD [] [qx 4 1] ".:A)K[3B7u?FAbwW5eII[@u8C*f7.JO6fhm*IRhT_XXkD6lhl3LyNs33rIzKk*]VmsD1aI2hi3ALJ=JF4gL]suDu"⟩
def zT:Abs.Fn:=⟨2,[.v 4 true 3],gC "5:fheUSRka]a8tYWB=ttYdhW_5hvsgWqF[qtQAUp31xl@z8,bX"⟩
def Bz:Abs.Fn:=⟨2,[.v 4 true 3],gC "0@dp9RnjQ@w<Y;_)6CUr5TN2DEf[FanVMCMT)QT7nkBfrW4+DHTt>?vX"⟩
def zX:Abs.Fn:=⟨2,[.v 4 true 3],gC "ABRHEd0Kw`b`H8b;bGL3vw871jPmtvWz;Q>1jIRH8Sm8wGEGt9X"⟩
def xo:Abs.Fn:=⟨2,[.t 4],gC ";@jJj[]ebOz*^xwbA0u;lqC9f2O3znv>;qy.Q8l36kAkag0"⟩
def uI:Abs.Fn:=⟨2,[.t 2],gC "H+Gy]wQ1BvKxS^lI>eg0"⟩
def vU:Abs.Fn:=⟨2,[.t 4],gC "*,<DyV4OLc0QqM6@LleV07jQQeBKh)5uQn:SZmDM[09>0"⟩
def lB:Abs.Fn:=⟨2,[.t 4],gC ",FKO,T6S`2^bVM]tok6>0"⟩
def rP:Abs.Fn:=⟨2,[.t 3],gC "28EdAyA04UH:cnQ,VH).>0"⟩
def wj:Abs.Fn:=⟨2,[.t 4],gC ")KF>0mva_mkxlI*byt@m1(k,a7:u*=@.BDrH6s2S`kd4Q>0"⟩
def IC:Abs.Fn:=⟨2,[.t 4],gC "DTq30*N(Lw_hJS@2=;F8)23nVO>90lQ*ifp4tfid[qx=<8R0"⟩
def zW:Abs.Fn:=⟨1,[.t 2],gC "kpAu7HmX5q;N5R0"⟩
def xl:Abs.Fn:=⟨1,[.t 2],gC "ZCm6xi6^w[AjW5eqnN1OQqQ:;ud`xLOhR0"⟩
def yD:Abs.Fn:=⟨1,[.t 2],gC "4U>r,8(ljkQfw5R0"⟩
def l8:Abs.Fn:=⟨2,[.t 4],gC ",FKO,T6S`2^fMGGEZk6>0"⟩
def rN:Abs.Fn:=⟨2,[.t 3],gC "28EdAyA04UH:cnQ,VH).>0"⟩
attribute [local irreducible] pC fE iF iG j8 j7 qQ iL dS m6 gA jZ iN gJ gK ft oZ gb dq
def ID:Abs.Fn:=⟨3,[.t 6],gD [pC] [] ".:i;=*.w`N.GH0,@Ak:GZjonv4V^Bkuo.apg0"⟩
def uQ:Abs.Fn:=⟨1,[.t 2],gD [fE] [] "=qHaeWs2;l7?Ee)[W+OwC@.q7eP_nxR0"⟩
def yq:Abs.Fn:=⟨2,[.c 4 false 1],gD [.NR [4] (.t 9) [10,11] iF iG] [] "3kN*xtJsF?pS[48X_<9Av.K0Fz;a8<_8f;c]+0eO0"⟩
def BC:Abs.Fn:=⟨1,[.t 2],gD [j8] [qo 8 (.XN 9 (.c (.str [115,108,105,99,101,115,46,77,105,110,58,32,101,109,112,116,121,32,108,105,115,116])))] "+*KhAy2foO2U^M3=uv>@,TXm,64uj=KgBSuydsh6WMQf5IgHdA61Qog0"⟩
def BB:Abs.Fn:=⟨1,[.t 2],gD [j7] [qo 8 (.XN 9 (.c (.str [115,108,105,99,101,115,46,77,97,120,58,32,101,109,112,116,121,32,108,105,115,116])))] "+*KhAy2foO2U^M3=uv>@,TXm,64uj=KgBSuydsh6WMQf5IgHdA61Qog0"⟩
def nU:Abs.Fn:=⟨2,[.t 4],gD [qQ] [] ":op5GANzS2MZjZ2SNWXtuGYg0"⟩
def yF:Abs.Fn:=⟨1,[.t 2],gD [iL] [qo 13 (.K8 [.int .i64 (aX 0),.int .i64 (aX 0)] [(0,1,.c (.int .i64 (aX 1000))),(1,1,.c (.int .i64 (aX 100000)))])] ")NIq@iBdIIbONSMrEfrx1Ad;aZGOC1WwKaJ^T0kb*PulZzJ;tpbiEh:.Xl7AzjzoW8^WmsPPOwvcgoX)1]GObUCzpxE6[ln<vT)?n6Y>0"⟩
def pr:Abs.Fn:=⟨2,[.t 4],gD [dS] [] ".[kp,^NVijrUcAPu(Qcl<CJEy*LEZqU(0"⟩
def E2:Abs.Fn:=⟨1,[.t 2],gD [m6] [] "*7:w42QG<W4XS9t01*zt<UCnP=fcAm=ypp<eg0"⟩
def yk:Abs.Fn:=⟨4,[.t 8],gD [gA] [qi 9 (zC 1)] "*W:Hyr2L2Jlj?rU(L,Y3*L1EMw(wbEIDm4qO,RZOt.>sl^ufm2Qd=Ag@SnqTeoh`Cq7TW,xj0AY.1g1(6mUAajZ?4@>23@Zg0"⟩
def Bm:Abs.Fn:=⟨2,[.t 4],gD [jZ] [] "+U>9p?<WD`w]0BMe05gc)4:>noJY[RdK0vaQG>0"⟩
def fe:Abs.b9:=gD [gK,gJ] [] ",.zG*<0f9AulyFhf+5WG)QJ(ljp.SDbpqrD=d5zPD^hVjuVE@[h2MQQNZsHUY9j^juyrU2CDOh(UcS*d68+uAEV9l]=YRvGk(0"
def tQ:Abs.Fn:=⟨3,[.t 6],gD [ft] [] ":D0t:[V4r.qnqQ+X;vfPHMQQ4yA(?@1p4`apb^5JiU6V8o9Ys9EJW4BjIKr)sry+52C+e[JUv=]zbpa*B9m+BH@5Wk5<=+aDtvqNl;mzg0"⟩
def rR:Abs.Fn:=⟨2,[.t 4],gD [oZ] [] ":op5GANzS2MZjZ2SNWXtuGYg0"⟩
def xn:Abs.Fn:=⟨2,[.t 4],gD [.NR [2,3,4,5,6] (.t 17) [18] gb dq] [ql 81 1 5,qo 4 (.mv (.c .undef))] "))D+L,07<dV8z+,F=NiT)dT:H6AJ=fa0Pd`:Cyr_kcr[7[Xy.dHRn:OS]uma*[Dz?JRp;pH1l:rf>0"⟩
attribute [local irreducible] fe
def yJ:Abs.Fn:=⟨3,[.t 6,.t 7,.t 8],gD [.iq [1,2,3,9,23] (.t 23) 24 25 0 iN fe] [qo 23 (.mp .rng [.t 22])] ",(Cy*X][Za`bAYQ=MxJt@4YI32hGzQq4)3+bh*.`P?mhi"⟩
def FJ:tx:=an7 [(5,[4]),(4,[]),(3,[4,5,6]),(2,[4,5,11]),(1,[4,9]),(0,[1,2,4])] [(0,[4])] [] [4,5] [5] [] [1002]
def FK:tx:=an7 [(26,[6,7,8]),(25,[6,7,8]),(24,[9,12,108]),(23,[3,9,12,93,94]),(22,[3,9,12,93,94]),(21,[3,9,12,17,93,94]),(20,[3,9,12,93,94,95]),(19,[3,9,12,93,94]),(18,[1,3,9,12,41,42,43]),(17,[1,3,9,12,41,42,43]),(14,[1,3,9,12,16,41,42,43]),(16,[1,3,9,12,16,41,42,43]),(15,[1,3,9,12,15,16,41,42,43]),(13,[1,3,9,12,13,14,15,16,41,42,43,56]),(12,[1,3,9,12,13,14,15,16,41,42,43]),(11,[1,3,9,12,13,14,15,41,42,43]),(10,[1,3,9,12,13,14,41,42,43]),(9,[1,3,9,12,41,42,43,44]),(8,[1,3,9,12,41,42,43]),(7,[1,2,3,9,12]),(6,[1,2,3,9,23]),(5,[1,2,3,9,10,11,23]),(4,[1,2,3,9,10,11,23]),(3,[1,2,3,9,23,25]),(2,[1,2,3,9,23]),(1,[1,2,3,9]),(0,[1,2,3])] [(4,[3,9,12,93,94]),(2,[1,3,9,12,41,42,43]),(0,[1,2,3,9,23])] [] [10,11,12,16] [10,11,16] [] [2002,1001]
def EP:tx:=an7 [(12,[4]),(11,[]),(10,[3,5,7,10,71]),(9,[3,5,7,10]),(8,[3,5,7,8,9]),(7,[2,3,5,7,8]),(6,[2,3,5,7,8,41]),(5,[2,3,5,7,8]),(4,[2,3,5,6,7]),(3,[2,3,4,5,6,17]),(2,[2,3,4,5,6]),(1,[2,3,4,5]),(0,[2,3,4])] [(0,[2,3,4,5,6])] [] [5,6,7] [7] [] []
def tF4:List (Nat×tx×Abs.Fn):=[A4 [] 255 ID [] [6,8] [8] [] [] [] [] [] [(4,some 5)],A0 256 zV,A0 257 xp,A2 [] 258 yr [] [3],A0 259 z6,A0 260 wu,A3 [] 261 BD [] [4] [4] [] [],A3 [0,1,4,3,6,5,2,7,8,9,10,11,12] 262 BE [] [4] [4] [] [],A0 263 E6,A3 [] 264 uQ [] [4] [4] [] [],(265,FJ,yq),A4 [] 266 BC [] [] [] [] [] [] [] [] [(2,some 1)],A4 [] 267 BB [] [] [] [] [] [] [] [] [(2,some 1)],A0 273 nU,A0 279 wY,A0 280 DG,A0 281 uV,A0 282 zZ,A0 283 FA,A0 284 C6,A0 285 wh,A0 286 yB,A2 [] 287 yF [0] [4],A0 288 yG,A0 289 yK,A3 [] 290 pr [] [7] [7] [] [],A0 291 rL,A0 292 E2,A0 293 vT,A0 294 CY,A0 295 uK,A0 296 Dr,A0 297 yk,A0 298 ym,A0 299 Bm,A0 300 oY,A0 301 wz,A0 302 Bw,(303,FK,yJ),A0 304 wV,A0 305 tO,A0 306 DF,A3 [] 307 tQ [] [9] [9] [] [],A3 [] 308 GB [] [0] [0] [] [],A0 309 Dx,A0 310 tL,A2 [] 311 we [] [1],A0 312 xu,A0 313 rO,A0 314 C4,A0 315 xq,A2 [] 316 zN [] [3],A0 322 mM,A0 323 tc,A0 324 mK,A0 325 tP,A0 326 DE,A0 327 yH,A0 328 wi,A0 329 zH,A0 330 rR,A0 331 yz,A2 [] 332 j6 [] [2,5],(333,EP,xn),A2 [] 334 zR [] [0],A3 [] 335 zT [] [4] [4] [] [],A3 [] 336 Bz [] [4] [4] [] [],A3 [] 337 zX [] [4] [4] [] [],A0 338 xo,A0 339 uI,A0 340 vU,A0 341 lB,A0 342 rP,A0 343 wj,A0 344 IC,A0 345 zW,A0 346 xl,A0 347 yD,A0 348 l8,A0 349 rN]
theorem kF4:(tF4.map λp=>chk p)=tF4.map λp=>some p.2.2:=by kernel_rfl
end Go.Proofs.YtpapbbojmclkgaaGreatDoor
