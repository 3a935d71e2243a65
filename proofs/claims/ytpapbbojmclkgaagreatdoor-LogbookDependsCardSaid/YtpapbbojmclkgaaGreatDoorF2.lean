import Derived.Test.YtpapbbojmclkgaaGreatDoorIds
set_option linter.all false
set_option maxRecDepth 100000
namespace Go.Proofs.YtpapbbojmclkgaaGreatDoor
open Go Go.Abs
attribute [local irreducible] aX zC
def C9:Abs.Fn:=⟨3,[.t 6],gC "IRK8_]_)6RL`WWtN6Thniw,kbDBb>0"⟩
def wy:Abs.Fn:=⟨2,[.t 4],gC "g.QNF*Z])zDY_U,b;QUFA.[Mom54K+1J)w?:;Jvk6=)hhyszgYj?)j05a1p(C:oWM@p_Uyp?Qwhw(`U2@G*KPJxeIuIKJAsQ_H0SY7ubMyNRBb_5O9JU6.Z@Kz2f,Ij0f>0"⟩
def gr:Abs.Fn:=⟨2,[.t 4],gC ",FKO,T6S`2SQHs@DFk6>0"⟩
def mC:Abs.Fn:=⟨2,[.t 4],gC ".WWVCRrjwW5DmV.y[axf1Ck6>0"⟩
def nq:Abs.b9:=gC "+eQIxTnl1;jb;Bad+ytI?ZL=pm[kYkdRen`5K@2LT_JT,,(xg<UQ*vsjLCr6oi=X8d=;JrKew`C2BW5u>po1+fSi(hiZA0;2m>CEPOA<CFt?Y8p("
def C3:Abs.Fn:=⟨0,[.t 0],gD [] [qo 0 (.mv (.c .undef))] ";z3QGj2WcDErL)GMRxw`sFLnjCqfw6N__==sOMoz8idMjcf^4Yn)9EefFnDdwbfbUMVHEfShJPf*Wj:[*pPEH0dHXSUwyU6nS`9^RVave.,)HdmEBymmC@NmP6ykLCp(mQuR,Y=hmCFZ7_H,@i1HK(Le6c+?U_4GWk^GDS4cX`PL20@(?n9jvl_ldaqj4uXQ>ZBajgF((PZ1a135hh.kiJ)`zTenVxxru?5EUwoo1yWfHItku?(O_GXfz5b@(E^MyLpeJN)WBt>@;EFCSvu:UXU7(rq,EWWT3n75:1J,<1zquO0,`6.I,@VT>Nu1pH]Po?YHKF+.12RyX"⟩
def E3:Abs.Fn:=⟨2,[],gD [] [qo 8 (.XN 200 (.t 7))] ".Aj+D7g9Gj88H.CdiD+S)Gja"⟩
def Bp:Abs.Fn:=⟨1,[.t 2],gD [] [qo 20 (.call false (.c (.fn 36 [] [])) [.t 19,.c (.int .i64 (zC 999999999)),.c (.int .i64 (aX 999999999))])] "*?3UnG]3ID:YB?eCewr,)hSKoC3T[ijpXI<S^]@<@[>y6g=`GdU0DPSf^oV=9275Wzk1jFlXNyg0"⟩
def m8:Abs.b9:=gD [] [qn 18 .rem 17 (aX 65521)] ",qoW]ztciD+F3fr]=kdz4XJ4;u::P:e1HF5)=.IklrfYM^sIm)RfSr)("
def Ka:Abs.Fn:=⟨3,[.t 6],gC ".jX2?IZ4ol4LW)se6WHO>4N,kbDBb>0"⟩
def Gk:Abs.Fn:=⟨1,[.t 2],gC "+3rDTgu3=En;I[va_pOnRXBVshR0"⟩
def Iy:Abs.Fn:=⟨2,[.t 4],gC "BoFLepD+wVuV:KmBqMn2z`_K)>f3=USOG_JmW*eX7LA4Pd4O]8h_,q@9:ELiZGI,5nskX)>Sy@Ia)ae.>6az>0"⟩
def Kb:Abs.Fn:=⟨3,[.t 6],gC ".jX2?IZ4ol4LW)se6WHO>4N,kbDBb>0"⟩
def Iz:Abs.Fn:=⟨1,[.t 2],gC "*L>b2cb5,im_vgUkt^g)OBxi1Rf<wfh,q9ZL63M3vX3lhl^M(?Hg0"⟩
def gH:Abs.b9:=gC "*E[*u,2cP=zEm^`A4AsW`h;XD1PNfG[FKkggk3S6@Te:=v*t[o^bQU@oU9>S>>+KMQ,CQ("
def Fj:Abs.Fn:=⟨4,[.t 8],gD [] [qK 17 .add 15 16] "LAB4G5a34AyD8GLgB@3[hJhfs0ZbMu6mM8QRPViX.R>0"⟩
def wg:Abs.Fn:=⟨2,[.t 4],gC "pN1p@*ytn,PYf^WQ<qx2iq.0w;Yz]u6co;)X=@cd9P^(i8haDCOS(nZAPqnKGC)bWze*L=4uGlm5;5jAtqU(0"⟩
def m9:Abs.b9:=gD [] [qK 34 .add 29 33] "=>]kjUbmSh^HqaaHXgz>w+E8Ua1_E3_IRug+,MAY9BbXcHnHWaQ_r8KqHwfdj]chZ7^lUw2=9g1f^*=QF71B83,.R"
def nc:Abs.b9:=gC "a2F70gKWbgnVbL661_RDI27Ay9=Jt:nbb53Y_j:(XqMlv>=oYNo1KQD+Au`<?2v]zq=I+ww2oqP^43T*rhGin.](vsPOC3*eSH@:cc26QHR"
def ng:Abs.b9:=gD [] [⟨none,none,true,.st [] 3 (.t 120) (.t 113)⟩,qN 101 .quo 100 (aX 1000),qN 89 .quo 88 (aX 8)] ");apJ4l^VnED063H:MJJAg=^[<DN8<C@]l((r+<h_:7kT<`P+DY1h?xX3oj^2E0u4YEHofVb]_5W>,(^4S^FcT(Y*5QLji)rxm:GTZ=)q0<]x+;9kk=wDaTWKs8j7xOJ@FIK1pp;.(a>Tt[*B_4`+pjLo*?VfDa[gN<q*MOMowD65R0tm:<omFc1uux>5OZDykl9mTy=A:[TvxO[:tPRyP?1ibm[YlEUA:3UeAcC,cYigCbM)eqT_H)Bxa,l5c[PQ,gUaK=(1D1q>Ml^tL73zmwz(3Gd2^,kbgkJ:cZ3w:@@28Q5b9ohAuG("
def ni:Abs.b9:=gD [] [qN 153 .quo 152 (aX 8)] "*+>UeLWQd:OFcUD=8jo^SiAjganb)?LB0.YmfL;xb)7DfTKpCl*bmf3yiN4NU=<f[czM8>5m@yUY9IiXFSe^wpHN;8lWba.e1AE@5VTWQ^pGU=h1>?14RE?6AUE0C8;DfhaP6EE]D4_7H7>XML@?@]Yp4*_q:t`ZmHOsui)m]FMD]h5zl5h3(O8vRNZHWhS`CYBZizUQ.6VY)u<fR)Dxbzlas)^a4pW4reEiR0QO]@iMEXP6Jnn;:<yq79("
def na:Abs.b9:=gC "[zRKezUoxe@qVbV3Rht`eo.F:ZBTal2k]VegsS?8Lx=uedeY,rchHhJ@0pQLbS+MDMpTPW?O6BSLN8]^qjmlXs2HTz:UvyR@1@,.Blw("
def j4:Abs.b9:=gC "Smnv`;=WbA=E8<)77gL?fdPwlM]S,rwpI11q;bXu6JV_k;i)<iHR"
def nj:Abs.b9:=gC "yo>eU?J,hy*_1o?AaG9N)3t.q7VUr[laymtAVeyGVs6d=TkuvuMvq(59Rz]Tuw?]yO>ZBx4L,KG9;fKYv3ao6QHR"
def gq:Abs.Fn:=⟨2,[.t 4],gC ",FKO,T6S`2U9K6n1Zk6>0"⟩
def kP:Abs.Fn:=⟨2,[.t 3],gC "+GtL]rASTErD4,?l[VH).>0"⟩
def GC:Abs.Fn:=⟨2,[.t 4],gC "BoFLepD+wVuV:LSa+_P`A5]Ch0v?0YbqrzUFrJ0GKigTBOXk>LLx5jlTzb<ZoGI,5nskX)>Sy@Ia)ae.>6az>0"⟩
def fP:Abs.Fn:=⟨2,[.t 4],gC ",FKO,T6S`2U=B0WSFk6>0"⟩
def kl:Abs.Fn:=⟨2,[.t 3],gC "28EdAyA04UH:cnQ,VH).>0"⟩
def tR:Abs.Fn:=⟨1,[.t 2],gC "*2Z>N5vL3iZRnkNWFA(Jh9aJOT5<W6@vI5]ThR0"⟩
def wx:Abs.Fn:=⟨1,[.t 2],gC "trzW],2qe5bpx6Ur:tLT`klk1)*doxQi8GrFGrxjXxhR0"⟩
def lE:Abs.b9:=gC "dMxdO<knH,ggPKtqz=0[=7GW<r*E5]QrPiYP>mk;rt`cMoVwME^RuH32srR"
def kQ:Abs.Fn:=⟨2,[.t 3],gC "]DfjH^(OedtLiHcZ4).>0"⟩
def DA:Abs.Fn:=⟨2,[.t 4],gC ",y8wmz]2:p.qjT?SWk+bWUcc5oTAUB4PsUV)ITJ,s4cLr9I1)Lg0"⟩
def vX:Abs.Fn:=⟨3,[],gC "4Nc[+?Yr887rXTxSma2m^UD`[SeTk43VTkXp0l6XiQXpietsM+YGoBf5)tuI]6upX>Wp],.Qim,R49np^)VN>A3e,=zlSsm(phG9S7CSao61.<Q<Gc:=AemSL"⟩
def fX:Abs.b9:=gC "),C4X[aCb=b4pW>6tx?tkdS1*z:BfvD9(=2AW*:*G9U6J53ily,<9p7kHweX7(uzq5i[uQ*AW8yP5jtC0*SgD^BN[`Jjx.wdR"
def yo:Abs.Fn:=⟨3,[],gC "0g6`jA2zBx>P<9GNAWO8zyKzp]NoU3cD]NN1xnBYNA1L,Yt_7jwv4KyheFOV05INzU9IhqaJR?9EhOM(i?]XVz_z^z?G,j5v?S=jN(7W0B?dnN[4u5Iy)9FyLwF;NR?7o7YW8PWec(n2?ezoQR8ofGr.`xNLH;f]m@bS9z"⟩
def xi:Abs.Fn:=⟨3,[],gC "<rvpoBivHdkrJ*uHfjlx5UGXsqQ3n4Y.CEr8<hBZ]8JI^Q)omHtxX6w`kF.J6^np0CU2r;Haz.wN+`Oc;s`upuzv0;Sq)LTnkf7oZD*aXY@i72[dBV.VMKX*dRkK]`*RO`>fdxqKIB7j(jzHrqPS>zcL"⟩
def vZ:Abs.Fn:=⟨3,[],gD [] [⟨none,none,true,.st [(0,4),(10,4)] 1 (.t 75) (.t 65)⟩,qO 69 (.Ve false 1 (.t 68)),qO 65 (.Ui [] 4 56 (.t 61) (.t 64)),qx 4 1] "YdK?P@1Rtm2D_(uvz`P+<Sc@>Jl5,?S21qaBRJQpaUcXWe=;@v[6xTin>ZL3F[djn1VWAt@MOCbfKx6eBo0f`l3QUHR?fWT[d`a=[p=eM1PaC<`sIV>H17fhoZmyJ@*Xf185X+rRUnTtm,8Hr@HbY^KvLPImTfTMbg8f4:m>e]lA)H=.+iFbs+DEt1:V:]7kR)?_Wy..];).jP;?DH:vYQlVo>Xjk.8,H:5^Dhx_>z"⟩
def fa:Abs.b9:=gD [] [⟨none,none,false,.st [(0,1),(1,1)] 1 (.t 45) (.t 44)⟩] "c_ab49p>f[5jFj;zK0]WVy:m_cyS7?oK;TsYZk8R5PNslhWwBgyLo)jld0@joG8lqnTy7Ho>S;L>y4nm,14jl<.V]t^LAbOV6R"
def xc:Abs.Fn:=⟨3,[],gC "5obdo>kSg4]LxHN3i>WgeJlNpqNy+,V(2yI(p5jPW?OhX40^dh7+24HJN[l_;@ifl6Ku=N<_Rwd1zCBogpAXGwpjYYb2(ypR;YI?T*3V)DQLIw3,<2d2HSR53uqdUV93d8f8:4Xp>z^p.`3dd]a;fOX_3IrJWcGrqrbTOk@JF(>IK1]K5a>nm;]V`Pf,>]HQ;p<r`0vA[0R3H>h7wc?*iUv+8t,dU3qj?n,_lqM(3pWh23otq9rZQzhjaz"⟩
def wZ:Abs.Fn:=⟨3,[],gD [] [qo 19 (.me (.s2a 3 1) [.t 18]),qo 10 (.me (.s2a 3 1) [.t 9])] "`u3q.WMyKs=Cu(z+:Yukh=<cXWs5QiZUih2rJz_*^5G1eL3mL6<M:Z`)q[3rdHzcWL"⟩
def fV:Abs.b9:=gC ")Bo+]t@mHtTlf5o`Cr>h@nOR*yZ5Lk0WD?zk*^i6dB6a4f<yXa:y7[*6o5ZkvyJB3MgbhN9yp6<<YeJQ>c.w`OKJ4fCEWfQZOR"
def fY:Abs.b9:=gD [] [qn 64 .quo 63 (aX 1000)] "BkFrs=tdI05W`Q7<l5,?HedNjYEDYf3k91^9Fo(1L0:F=l4ukZ[wF:jQ`rj@apxWe6rHp]JuRM?A+x<VUz5;42qA7Hj<T("
def fZ:Abs.b9:=gC ",HY4SnwnE.hmGb4:S;.gwo*ht=NE)RlMjwe<fcG0a0mzRbLZ=VAUuH@OH.vvu<Et[q?QsMui9=zeHbm*r[f4m`F2Ry;Zoe9[4,_+_xb^4lQH7qo9[kx,6wos@_R"
def xb:Abs.Fn:=⟨3,[],gD [] [qx 5 2] "0T`wvm<w12enf_+xXXx(PKiw<6GR`KMha.c:kl_gAFwz=n,cDl<.xgu6bYP8YLrLd4v+_N5U,`Z29w>*Md=U8i560obXx;Fic(@:CPqC@noe8g*MdjNhYw2NZ(4Qt<TEM4b5;,9OS*yscsrT8VT9kgsmR97yl+cR+zJVYQ0<lf_34t)@8^s:iGGhFwCDJsD7649.LCc;<zOQFa.mkyMN(09gzY`q55>D>_Dv:Vm8EIP>_i.,fu5,Gb[4PJmx`NttAJw("⟩
def gF:Abs.b9:=gC "*q;[,6TJWTKAeQnq3qR[XWtWB9=2Cz(^=o8>n`)+[>`u3m(3V.d);,PKnvSN(mYK>l.5)nl^;hCOR"
def fW:Abs.b9:=gD [] [qn 163 .add 88 (aX 1)] "B2K?4:fth.1sZeJJhIe:mCn>,qre8J]b+Gf?yt(ytdCAU0=uR@aRfRlxDYR@6_wg^^Hc9+XVf=)^xCNO8@.IZEu*xf`bAZ+h)sedC;W^(mW_qsJU0g,zBcTT34=qQc?vK:(,DJ0ElE9q5r.xA<X*fq*dcF8O+9Riv>(QVAeH=+Fm3@u5X<zK1.Uw=qQN@fO1veNlIlWxcEq_^iq?xhQ1^,27DjQ24`z9L@_FwUNZ^?AF8s.6h5ggsYXMe)^d;bW^WIuz,KmY;iqypWKC(18xQN4VVB_`;AdEIVy7`Dj9d*xLq6jq09j.Yrt:r@+Ct_+K+=1GO3xYfhYyb7*S(48xNK8wj,XM,hRh?nbmiJKgXrR"
attribute [local irreducible] nq m8 gH m9 nc ng ni na j4 nj lE fX fa fV fY fZ gF fW
def nr:Abs.b9:=gD [nq] [] "0hx_>C8L@.NvqRs8c`+2=Jq)),00+2R:i_MkDjkxiEM3D^[P*Z?0U+4zrkWi:6=?;X*Iw)dq9Mxj<kZ_x__C:><cN;L[FHAXQGygmFGH4v9xqLvuWb_qXPhlf:d96D:0z0dUV_[Ut8X_.1I*Zv^GR"
def E5:Abs.Fn:=⟨1,[.t 2],gD [m8] [qo 7 (.me .s2b [.t 6])] ",E0P5;qky^7OP7F,XS3Ggu[,3TU)QUD+FFg0"⟩
def yt:Abs.Fn:=⟨2,[.t 4],gD [gH] [] ")LWv*3VTy7gzXk^:G3`:Kl5Sh<*luo_l:e_y+zy6YvEE?P,r=8MEo4Wu@C97?GrlutuRi1`QSP1ZqU(0"⟩
def Fa:Abs.Fn:=⟨5,[.t 10],gD [m9] [] "3XlOaQ;7N0E^u6ks)4zym1;GF4aq2cA19yBg0"⟩
def Fh:Abs.Fn:=⟨2,[.t 4],gD [nc] [] "*c0GzDBiqjfq>[Hqi:Lwl7j?f`eY<O3>0"⟩
def nh:Abs.b9:=gD [ng] [] "P+=E@jYd*3QAnaM0+?s1y7TSB5jN3W2eylL2`QJvegmb:=WiiXaFQCiyn],nC2lrkP(ml5`Pt@xklBv@mT)McZvqB=iR"
def Fe:Abs.Fn:=⟨4,[.t 8],gD [na] [] "*yDr+?D)IF.1.=fMZHyV7m[YTYuelIzdl^6yvZFQ8[6:>kJ9K2tqyOhCwFQ=l)dH]c8NAi[_kJpsT8s:lIZGxgJctKHzCqeJrg13WgQ)di.g>0"⟩
def Bt:Abs.Fn:=⟨1,[.t 2],gD [j4] [] "+<uFqw)lkWF901LMa2v)i3UD+FFg0"⟩
def Fl:Abs.Fn:=⟨2,[.t 4],gD [nj] [] "0o(AOYZIbKQTcUV^JTTpke?ZDBaG>0"⟩
def iZ:Abs.Fn:=⟨2,[.t 4],gD [lE] [] ":op5GANzS2MZjZ2SNWXtuGYg0"⟩
def wc:Abs.Fn:=⟨3,[],gD [fX] [] "58Y4WDMlag_)Oc^m6O6+Zr,)LrLyMuVu35IY@9d.6.lVT.JBT.Es1P_g^;nXequXm+nNMm<7:Y7^Gu"⟩
def yp:Abs.Fn:=⟨3,[],gD [.cF [1000006],fa] [⟨none,none,false,.st [(2,1),(3,1)] 6 (.t 6) (.t 28)⟩] "4>sl.J`^BbTQIt1Xzawd>we@WFGIXbTA*jj.T1zC_*n^ekHSh(Xnso_HVzum1kX:916U>qbGWJH[3My[>)fLHucp2k6vhyL=4+SCOA9iO5Oq4]o9TEhDmR22.WRUL,e2vZeC>neVKTPK?Jft@ZPrhCN](^LzPerV>KI)leSw("⟩
def wa:Abs.Fn:=⟨3,[],gD [.cF [6,1000006],fV] [] ">iN+^)TKF8:`5r9g)CvvB.ATX^dyF,VCJAB^omGp7J_gZ`_roT)rj<SWngSw6oEeT^@0lcbrTi(LDC4=u>pmYaNl76Gplce*@:_Fx^ftS<=K;(Fq**_5nnGnr`L3CpzG`^1?)<sHS6YV0;JD,sBd=Hz"⟩
def xe:Abs.Fn:=⟨3,[],gD [fZ,fY] [] "4_pXWFoODM:e,`FlOcu[rA?j2vdd+vYju8AY9kZy(1a=yH@T9AKZtP+9E(ry)ccSjDfhrG6FqdiPJ)wL<*nF](q+zKZh3(xm_4R]zKU.ELP7bgULH,8V)dyh5)G2q_xVgGV>,onOmQI(w:R_WC<INt`1e2_A.zqiq?.q>JTtv]zUsKXWd<y0K8`1;.)P+=)JfFV.yL"⟩
def xf:Abs.Fn:=⟨3,[],gD [.cF [6,1000006],gF] [] "*QO.22>X2>,y25@Jpqw@*sbXGOwaC,n89P9krdSVCNB<,KQtdXs18[d.7M]KgF0v6hk3h49I>jGw@ltY2G+>bKfh__5Up`g_,wprw8gWlxA`Ax<><[nrY1Cz"⟩
def xd:Abs.Fn:=⟨3,[],gD [fW] [] "1.JXSWK;N,fp)L[uNEe>8_)hzGKw3MFCuoU]i?^xg8kPW`4a1ow:a<wUkF9;5B@aS<fMeHTMT+Bu3:F_pF*UyZIyX4pReKBRU>Bo4mto;bm]PBww6W8og)=LGQnE*e<ouSGC0p5SjtohVF>Sl)IfXmBTIWWrLJv<BOz8j+G:;Q;K6,e5pE+Wi3VVtL0Thb^sW`o0<XPpNwm3AMFO2;z9vaYJyHMY4g.Yy8WSBwwT^ZBCG+GI[DB^rw2tP7GF7(1]]iCi3znA:;q9a=v4=DmN^B<vZpINN*MnCyJQdRT:fmWRy64IU.>r`K3]1l?LVMCMUOM)>FvYzWIopUOG0r9C*mU[4gz"⟩
attribute [local irreducible] nr nh
def Gs:Abs.Fn:=⟨4,[.t 8],gD [nr] [] ",s^BI2SZzOwd62++>kWx8>xu6sszrNT<67]yy5`KNYffr]kyL<g0_qjoPg0"⟩
def Gq:Abs.Fn:=⟨4,[.t 8,.t 9,.t 10],gD [ni,nh] [qo 21 (.app 3 24 (.c .bz) (.t 20))] ")ZMCc=j)z`c5c^l>+r,iOM1.FcJos67EzFBg:qcRyR;ew=D*+A4()8J[r^_e1pK`X>I6,Y7<;(S4gQpJM>@4,^o7W1Kug0"⟩
def tF2:List (Nat×tx×Abs.Fn):=[A0 118 C9,A3 [] 119 wy [] [5] [5] [] [],A0 120 gr,A0 121 mC,A1 [0,1,2,3,5,6,7,8,10,9,11,12,4,13,14,15,16] 122 Gs ,A0 126 C3,A4 [] 127 E3 [] [] [] [] [] [] [] [] [(1,some 3)],A4 [] 128 Bp [] [] [] [] [] [] [] [] [(2,some 12)],A0 129 E5,A0 130 Ka,A0 131 Gk,A0 132 Iy,A0 133 Kb,A0 134 Iz,A1 [0,1,2,3,4,5,6,8,9,7,10] 135 yt ,A0 136 Fj,A0 137 wg,A0 138 Fa,A2 [0,1,2,3,5,4,6,7] 139 Fh [] [5],A4 [0,1,2,3,4,6,7,9,10,11,8,12,5,13,14,15,17,18,19,20,21,22,16,23,24] 140 Gq [] [15,16,19,21] [15,19] [] [] [(24,[11])] [] [] [],A1 [0,1,2,3,4,6,5,7,8] 141 Fe ,A0 142 Bt,A1 [0,1,2,3,5,6,4,7,8] 143 Fl ,A0 149 gq,A0 150 kP,A0 151 GC,A0 152 fP,A0 153 kl,A0 154 tR,A0 155 wx,A0 156 iZ,A0 157 kQ,A0 158 DA,A4 [] 160 vX [] [0,6] [6] [] [] [] [] [] [(0,some 8),(2,some 8)],A4 [] 161 wc [] [0,6] [] [] [] [(5,[6])] [] [] [(0,some 8),(5,some 2)],A4 [] 162 yo [] [0,6] [6] [] [] [] [] [] [(0,some 25),(3,some 2)],A4 [] 163 xi [] [0,6] [6] [] [2002] [(3,[6])] [29,32,35] [] [(0,some 13),(3,some 2)],A4 [] 164 vZ [] [0,6] [6] [(7021,[(0,4),(10,4)]),(7024,[(0,4)])] [3007014] [] [4] [(7010,some [])] [(1,some 13),(2,some 8),(3,some 7),(6,some 1)],A4 [] 165 yp [] [6] [] [(2013,[(2,1),(3,1)]),(7006,[(0,1),(1,1)]),(8006,[(0,1)])] [] [(10,[1000006])] [] [] [(1,some 7),(10,some 9)],A4 [] 166 xc [] [0,6] [6] [(5012,[(0,10)])] [] [] [] [] [(0,some 7),(1,some 4),(4,some 1)],A4 [] 167 wZ [] [0] [] [] [] [] [] [] [(1,some 1)],A4 [] 168 wa [] [0,6] [6] [(1008,[(1,4)]),(4019,[(0,4)]),(7012,[(0,2)])] [] [(5,[6,1000006])] [] [] [(0,some 7),(6,some 1)],A4 [] 169 xe [] [0,8,13,14] [13,14] [] [14005] [(15,[11])] [] [] [(1,some 3),(2,some 7),(3,some 10),(9,some 2),(19,some 1)],A4 [] 170 xb [] [7] [] [] [] [] [] [] [(2,some 3),(3,some 4),(6,some 1)],A4 [] 171 xf [] [0,6] [6] [(1005,[(1,2)]),(5012,[(0,2)]),(7012,[(0,2)])] [] [(6,[6,1000006]),(6,[6])] [] [] [(0,some 7),(6,some 2)],A4 [] 172 xd [] [0,11,13,14,16,17,18,20] [13,14,16,17,18,20] [(18029,[(0,6)])] [] [(17,[11])] [] [] [(1,some 12),(3,some 37),(9,some 1),(12,some 1),(14,some 1)]]
theorem kF2:(tF2.map λp=>chk p)=tF2.map λp=>some p.2.2:=by kernel_rfl
end Go.Proofs.YtpapbbojmclkgaaGreatDoor
