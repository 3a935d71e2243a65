import Derived.Test.YtanhdobabijmoaaGreatDoorIds
set_option linter.all false
set_option maxRecDepth 100000
namespace Go.Proofs.YtanhdobabijmoaaGreatDoor
open Go Go.aA
attribute [local irreducible] bf CK
def kY:aA.cc:=gD [] [qm 6 75] "hZ2m:g2?)3nxx8,<Q3iUe(hM)j6EaB9[R,Kmcj]Ah*Fy^Y>oWtb;Ha^hMJ.N0(KT*^RIq6twe"
def kZ:aA.cc:=gC ")L@2OHZwyM7hs,Vd;tT:g,DnOIW:dgPaxZ3MAP2taK+n2G;Vy9Fw3w1z`wD]jnvWH4yqWNV]]^*==<Zl]gLitTV+;(Q+g.1T*x^IBcv0IYMFa,B)Iwty1e"
def lg:aA.cc:=gD [] [qn 240 .add 239 (bf 2),⟨none,none,false,.Hj 22 [(0,1)] 1 259 (.t 257)⟩,⟨none,none,false,.Hj 22 [(0,1),(1,1)] 1 258 (.t 248)⟩,qN 253 .add 252 (bf 1)] ")>YOxA6>*?dkr,oO1PhQdvy53GKF.iDOd(oC0k@ijaacc*Hq4J4>4t:V?u+noXsGTJ;=DF`RqK]vY,`HOpvM6fZoY)dxyRvwMr6?ho<j8TJ4MHZ3ye"
def lj:aA.cc:=gD [] [qm 28 297] "6t[wOmsor(z*)H;Mds1)AmOaR=^sg>kW*:@METb5i)JZN70gV2x<>?wlBi@H2W;Is_T`nYFo?y"
def pQ:aA.cc:=gD [] [qm 5 33] "7>uPioA[hE_xKsl)G.B5AJ3R(swVzHasv,5H^gU5w[SNQJ<CrgLUO9vl<*ijMmiHC2dgywF(_tQDZw*?QL*.KF`=O6ARRk2gx"
def ot:aA.cc:=gC "*HBj:HE0s?rVd2d`ItR(V5tEIriLT;AqI+=]]E@qxI(gGlw?]nfg*lf*=9V"
def zg:aA.Fn:=⟨0,[.t 0],gD [] [qo 27 (.eqv true [some .i64,some .i64,some .i64] false (.t 25) (.t 26))] "Hl(weL(WoK4Vk>)[Zer_oGAyi=Ph>^SovC568q3sK)2BSv.gzFY=HkjSgV;+Ve1;`tZbn^5t;,.`c;Z5lCw_qt)+3datgcwJ?5]KLV]uA"⟩
def vY:aA.Fn:=⟨1,[.v 2 true 18,.t 3,.t 4],gC ")Nm(69n9q<XR>]fYTh2+ryYiPylwOF[4SkOcpLmHh0`t:DU19AvrW;8:3FI,f1J?usjE+y7gzu:t@<U1N3`>l:4m_(hNspcJ"⟩
def mz:aA.cc:=gD [] [qo 58 (.Vv 1 (.t 52) (some (.t 53)) (some (.t 57)) none)] "FGd5<C4^)CtD8f?u7iDYK+f:9Vkeab)+O0:jxLqHgXQxiNv0iiX]ov`4o*8*RMUk*=JXf<"
def xg:aA.cc:=gD [.cC [3000006]] [qO 20 (.VU true 4 (.t 19))] "0n9fhK0TklEag:9t,3VAdiZ@w81nW_;N7GBFr3oJXU;@VLY]o:*bq"
def mE:aA.cc:=gD [] [qo 36 (.GO (.Mc true true) [.t 33,.t 34,.t 35])] "b^55.f5`3zGGn*hf8h0O_r0D8WvCP)NiAxv?nNN1zC[K:m4]0zrn.RV@1s3qaSdk4pu_1_a5Cj2xJE04*<dpTVuE*l6f4?8Z"
def mF:aA.cc:=gD [] [qm 12 89] "N9g`<=eE)m3^Tb>SV[NRc4WEpjG<VtCj=l59wHFYFUTn`evI[8X]YAskK)8nW1oR4*mT;@bFfTc3@yvbc1HX:j07OnXEI[e*h]dWwj:U]1WWb3o1ltKW+*[y"
def rQ:aA.Fn:=⟨1,[.t 2],gD [] [qn 17 .quo 16 (bf 10),qo 15 (.me .b2s [.t 14]),qo 13 (.SR .u8 (.t 12)),qo 12 (.bin .add (.c (.int .i64 (bf 48))) (.t 11))] "@Kl+.OB.NNA5Z]2J2zy<^qrpP>;qU7NjGyonDBB]:`t4U?9Vx^`Ck3kh1@eH5mw3l<)]jfp]f;l+D@L("⟩
def jY:aA.cc:=gC "62cTBA9t?(a4[>8y5yaAkQwxGS1?a1IU]B4ReJLlcr;(4848p*Mtg*92)A1gzPMTd<Cl^R5Z6[.Q.<CDUsSZU)K9Fx@htCv^(hxsaJX,^,n_[MbzrfGA)Qy)3Tz^T_g1SAoaF1+i43PT]Z@GLnzRF5sxbe"
def uJ:aA.Fn:=⟨2,[.t 4],gC "6QXN@eXZZ.D(mTwi*D6Vb)fLyNH@QYTJ.U[vkan0UmV@"⟩
def tE:aA.Fn:=⟨1,[.t 2],gC ",`*goz`:klVBY2vfJJ[P^mNoOPMNzoNl29YM4SRWc0]"⟩
def oq:aA.cc:=gC ")MqkiLdp>iGN,4G4KMPYCRD;UbsP@^zCx.M;h[xB*ucZ<8NG=ewB@z56tGgeq`L?*;o"
def nE:aA.Fn:=⟨2,[.t 4],gC ")LQ5VpY0cK8VGdCc=*DQedFNLtqRJ.jhTDD)O1a6"⟩
def iT:aA.cc:=gC ")O^AKD?.u+a[QaTcWpe@kwXwe[e4TsDAwHuRr)15OzZCtQ0amszbg*SC[l0fqQS:FPltx1WIw,X^Js^cWV*9S)yP"
def uF:aA.Fn:=⟨5,[],gD [] [⟨none,none,true,.st [] 1 (.t 2) (.c .bP)⟩,qo 11 (.VJ 90 (some (.agg [.int .i64 (bf 0)])) (.t 8)),qo 8 .N1] "?QP<]`bL^oYEe;luGS]rXW3oMCrsl@N3+c5vnTmj04LOaUJyq52e:naVNX08BFXIIgOF?L6176TPD4.Yco)6)*jw]pA*^1o8gr"⟩
def fW:aA.cc:=gC ")l?ZVGA>?TMKHXwtoLJ]Z]OyMySI3bN1hrEtYlv*t8UUNlzF`:O*,hxQd?C?NW`+69GxwEEqM1yoZZrQhcA:*O5j,Y>pjGt`jhQw=sijY=TP*LdN3x=c2j1I:bZiy@fWpL6vvK@tKIQ:Gc<`jnsWLf39>zw*gCBe"
def mG:aA.cc:=gD [] [qm 6 64,qo 63 (.SR .i64 (.t 62)),qo 62 (.bin .sub (.t 61) (.c (.int .u8 (bf 48)))),qo 58 (.bin .mul (.c (.int .i64 (bf 10))) (.t 57)),qo 55 (.bin .gtr (.t 54) (.c (.int .u8 (bf 57)))),qo 50 (.bin .lss (.t 49) (.c (.int .u8 (bf 48))))] "Ri9PIK)54khKi88@)wpS29U:20F*rOt9`lysW[K.gyUL;lh=(E=5*<R_[Q5JWzr8zO?upGJTQ^DL;b0oE`M.Um8F+[IM[`jMKe"
def xK:aA.Fn:=⟨3,[.t 6],gC ")tagVmICUVWv8U@Y_hTzX:i]@PvLmKe6hkUSzoT]CCZS7OEkOJ=3u"⟩
def fU:aA.cc:=gD [] [qO 28 (.call false (.t 26) [.t 27])] ",uIjlJpM,avL[DHhh?0uQf7TUHB,8h3mg?B^V6N>tv@SQAll*96m>(+[f*^f+tZjBXAlaxRyLvK`VJtRr(r3oBB@Bg8e"
def sT:aA.cc:=gC "=0SRFtz6cH@y.m:Ukl`]Wh3LHEam7k6:+N<UiQ4qQB=W1;gnni[oDeGjJxwZ"
def re:aA.Fn:=⟨1,[.t 2],gC "zrEEozU3<hsTR"⟩
def pR:aA.Fn:=⟨2,[.t 4],gC "CkvhRl3*x[>Q>1xoOCH_"⟩
def rh:aA.Fn:=⟨1,[.t 2],gC "DML8ReYdUuO8iK1ip("⟩
def gF:aA.cc:=gD [] [⟨some 26,none,false,.call false (.t 22) [.t 23,.t 24,.t 25]⟩] ")x]e63w3Pi=^U5AQ,Ot:izWmI<=KH0[dJk+FjFSwpJ(EL@PCgkf?Hxd<N0AS708S12O>b"
def oj:aA.cc:=gD [] [qo 13 (.call false (.t 12) [])] ".xTb;YN@2O0,h3GrdqIYW;8Kk5^f=Bt+aAO6MHWIt=,_]2,Tt5ES`y<+L1qXZVZ"
def nG:aA.Fn:=⟨1,[.t 2],gC "7>Oe1NII?vZGo:XNx<edL(jNSc]"⟩
def lG:aA.Fn:=⟨2,[.t 2],gC ")FnF*]uw:sPiu]Q?K^R"⟩
def mw:aA.Fn:=⟨2,[.t 4],gC "+aUDGr.+jXzy[KLVg8MXKwb]57>e;jX4tCL9u?Wn*E]J"⟩
def jr:aA.Fn:=⟨1,[.t 2],gC "*h,Tc,s1@yb84yabgpHelUH4BC+dE9cnZ8MV*fU^rSFNM82Dk;j^Yw[@<=dr@m`>7mX^>K;GHJ9?Tj8U)pFM.`*[C.Nrd.>"⟩
def zd:aA.Fn:=⟨2,[],gD [] [qo 8 (.SW 90 (.t 7))] "K,oCWz(@kgG27Hw2??ixiE3i"⟩
def kP:aA.cc:=gC ")eEJ@2M+0)QVJ=EGD=qLdQonFdKFa)LUx]YkBxS+hmb6cy<6NACoksk4:<"
def nH:aA.Fn:=⟨1,[.t 2],gC "*MJeVk80?1m6pr(5Ez^?+mb3jdaSlCtA;Sqogq[Tr_J2l=MNxcE4]:LrPzqU2XDa4HXH[PvG>3Np+88Sid7IqhcpS8SmO`EMT>R4>"⟩
def fV:aA.cc:=gC "?F1>(M]vw,D@OAkZg(cvwirq5K=[`<3Q1EqW9xUI1a40hPcTTQgvj1._7S*GP"
def fE:aA.cc:=gC "]QMTkIbG73K>T,hN2HhqHsVO.JRpZQAmCk,JS3JK=1.OWX,TFw6[6Ifv4tAiuCMs=3hZOru:wF=X[k<]LKid;1xbw+^^7BYZXnjcJheBLI82Lp)*bRlc.ZiG"
def vX:aA.Fn:=⟨1,[.t 2],gD [] [qi 2 (bf 1000000),qo 18 (.bin .neq (.t 17) (.c (.int .u8 (bf 48))))] "*m=Ik;VmyF4dqKx1xH2(Dl5a4p<(2(7n+63I[Ld;oNc.n_CnbI)(1AaRsv+?L.K[zOw=W9??*x8s[FZrP`1;dOKF.N0Ipn<4(HJ[<,v]W7t@]7FC5WG)N93Y,UUZ5i=YfB4"⟩
def uG:aA.Fn:=⟨2,[.t 2],gC ")FnF*]uw:sPiu]Q?K^R"⟩
def uH:aA.Fn:=⟨2,[.t 2],gC ")FnF*]uw:sPjOqC(IhR"⟩
def km:aA.Fn:=⟨2,[.t 4],gC "083Ubkvv<;d<*o?w@yhRf6C6?L[?7IFVY:6Y35t*"⟩
def oV:aA.Fn:=⟨2,[.t 4],gC "W^X@T.7wTEs+J(AAfzoBiS0J:AR1Q;Y>e_4:(6rcNxg7SEWxGu.[DAOM:y^<Dz>hMG`Ar*A8_"⟩
def my:aA.Fn:=⟨2,[.t 4],gC "dKRwzOZ+FmnAg;?QYdO4vucXEut33mjl^0fY_hJDV.ieupf[@"⟩
def pU:aA.cc:=gC "=0SRFtz6cH@y.m:Ukl`]Wh3LHEam7k6:+N<UiQ4qQB=W1;gnni[oDeGjJxwZ"
def iJ:aA.Fn:=⟨1,[],gD [] [qo 7 (.VJ 116 (some (.agg [.int .i64 (bf 0)])) (.t 4)),qo 4 .N1] "n@=<Q4Mt`@PlRZ`12_WKI2^8(Ehos*9QX[YcX+bT:B7CojXt`9MV]yb^)sEFuHwJS"⟩
attribute [local irreducible] kY kZ lg lj pQ ot mz xg mE mF jY oq iT fW mG fU sT gF oj kP fV fE pU
def la:aA.cc:=gD [kZ] [qO 131 (.GO (.seq true) [.t 125,.t 130])] ")^wbHd=QJSxRJGoBQSXflB93l0Mj4SM,G5f9mc,Z5A8W7J`eLe`j=g[PVmL3ed)C8[qvdMLvIo7oAj0(lj?;4lPxSPRwR.mOPO*DIU,u)0>IbR]x[H;h3N+maEco;bWru@D]^zo>+VUo"
def lh:aA.cc:=gD [lg] [qm 16 263,⟨none,none,false,.Hj 22 [(2,1),(3,1)] 6 22 (.t 234)⟩,qO 22 (.AW [] [.str [],.int .i64 (bf 0),.bP,.bP,.int .i64 (bf 0),.int .i64 (bf 0)]),qO 223 (.GO .Vs [.c (.str [116]),.t 222])] "8aO>q8=8^*We50.2JB5hlAxpV3:YB]du=mtmYE.bDSRd1+nb(WCtc^5>d[:1dFlxNTQ7:@<vo8OC(3Tp?VdLTfycn6`P3XaNFCN?yQg+Joyj[5*FtWe+4^7Wk4nPJiuQ9UiyynwHWz]BH*_a7?3;[b37njPUT.U6*Q;UQGCI:mSPNWMea<xOGY`rv2pDxZYKir?J]FIQHiWRz:b])fXyYr=mRH6xe+BqmGVAVB9^?1CYdqbl,3nO^=61s`[y+i0J7x:9GA7LoQA@gldg@@<H,,5v`ZuO;+]n6[ft2,@aVi)lP"
def lk:aA.cc:=gD [lj] [] "4d^y)MW`q=;H>:U,.7Njb@px;?6p8C?Kex_yPwj8liyi_jH1)zQ7=aNbmaczGeR5:ZObc<_.eL:i2mg^XgCjp^[Qr@auL8^D_L@hEo7t]oy79Mu<"
def ze:aA.Fn:=⟨1,[.t 2],gD [pQ] [qn 42 .leq 41 (bf 5000)] "<9E<LsD[jOQX`z7fIXl.:7fnT4wxQQrsg56eGpIolgS2yHT`QD2SQ0?5G,HEfkumUGl<P_jQ*I(Cs+B[@aCbf1YTfcVnC?DuueUR<EP("⟩
def wc:aA.Fn:=⟨1,[.t 2],gD [ot] [] ")4vIt;B9Y:3TBQ,=)L()dsd(;zy>"⟩
def mA:aA.cc:=gD [mz] [] "pS1B(U[yWVk3,;4+:LC3:?YZ3J**?ZWlnX37FcLwAmK4T8e*c<anj>80S4a`KQ?bj`*yY0*`3zct2>hSgz"
def xJ:aA.Fn:=⟨1,[.c 2 true 4,.c 3 false 1,.c 4 false 1,.c 5 false 1],gD [.Qs (.t 14) [] xg] [qo 13 (.T0 [(6,2)] (.t 12)),⟨none,none,false,.st [] 1 (.t 3) (.c .bP)⟩,qn 9 .gtr 8 (bf 200000)] "q*`uNU0:`>M<.G,hc*hxJ^PL04d`o:fIH??>=2;A<l95[@kRMA6C0Pe`Fp_ThxGZ003Q6`DWXqfoZa?6.eD.JXPtBhz"⟩
def wa:aA.Fn:=⟨1,[.t 2,.t 3,.t 4,.t 5],gD [mF,mE] [qb 17 true,qm 10 69] ",wGcm[[+7<pM;3eDYk6Tf?IiVCWbL^,=Mk`B*+m*?)kqa75H7j0IHT(ZGVJEp`FHWQ09?@n_rkxdH1qHVs+:k2m6MX)it2yZw2GxN`t>2=snASJy7X4gjkL4fLpUC6`6q[)PYP5Uqm3nMCr=W(>QvYc(EEf.NEx?aHKQ6Is[[cGEY7NmYV.K@Pp+2g32ig_Bs<a.QYc9WJ9lueXe;ZgF0lWwp^<Dp]`YlcS[.]7*rvsIlo>HR75m>`hMU.Z>NsM*KRrh_>FZ*Y9B1fGNyIc1d=NYONP<>wl]@iCE1+867Oxr8(.lD(f85zH(<?A.:)lyD,HC.`mI*G.wAN@fTp1zM6Lp?3K9cGBV0uj..^]5fM.jhyAJAnZdABJv.KcwQSA@7JfRpKvrw.o[Fy8J9Ced*^5yTXaJ^*fyt2:LRP[x8.;NT?lT8;a<5pr*=0w,zqd:YMSUOd^[^zViHGmvOzpNZrJt*+uW4=AQhwNy88jjU[*p?dAIOLF.k.K^4xDjW8K+Kr<EJeJuzAb+[JYgDMZ*WEfag.PWJBKf:kkiW(dQfbhGjDJq325pP))..E5)?_`yPh>yHOrvH[dIc[l3GlHm;n7eW?U"⟩
def tC:aA.Fn:=⟨3,[.t 6,.t 7,.t 8],gD [jY] [] ",ojr2?z]ZC7g;pg_i9sj1x+tEVwHrk*j`fWLm^vPH6De@)G8lbm>:]*R:Y>;bg0>S261*1B=D9L;piuCsFIFned*,ZIb"⟩
def vZ:aA.Fn:=⟨1,[.t 2,.t 3],gD [oq] [qo 11 (.T0 [(9,4),(11,10),(12,2),(16,2),(17,6),(19,4)] (.t 10)),qo 2 (.mv (.c .xU))] "5o?c.9(tl@.)32@NjN1pM(<KH1QnTyf,vJGvB.egOTy;E`GBjg=M]Ov0I47iy<H=?bC4)uX:;<S"⟩
def pP:aA.Fn:=⟨3,[],gD [iT] [] ".X673jh<y1OWj=o`=IEzMw8Y6AYgy"⟩
def nI:aA.Fn:=⟨1,[],gD [fW] [] ".(=r*_B)Y`L8x2:V2+tCIPMq4bt@kds;XJ_Uzpt07dQlb^s7FZ=q9o;,`p,_,[a1I;imsO6>f6Up3IC56DfjFZ@H`TfjgriZ]CT0>+O9<<JuO<7[28y)2uhQrKrPwLQ:xzcZ_g[?wWTGE8f@F0ziv_V=m*8^`jAKpqlHg4nTW2:*LED^`9KmDXqU=_"⟩
def we:aA.Fn:=⟨1,[.t 2,.t 3],gD [mG] [qb 3 true] "+E+h>OTo>1`[Razx;xBErkvdr?A(2_yEYoiR=fiV+b3xKA6L(+LG4*9Y;lMP,D2;N,*d,LPv86?EbFi?TCV(YoTxg+JuQ>4n,]l7_yQo32?xxPF6ZH+[v7Zf*Ao*WMd)pDO:A1uqmdpKVv2l=iZ_m`ulpOkQL(,rMbUid7^kd3xd2D7V+Z9NI4or"⟩
def mu:aA.Fn:=⟨3,[.t 6],gD [fU] [] ")Ri?J,Zq:h1T;fD(W;yH[.<pZ;18KejVmZ_R8VF1>VHS3dU0]`L"⟩
def pn:aA.Fn:=⟨2,[.t 4],gD [sT] [] "1D`[f5<hEimQ>tOQrhi)V;+H<s"⟩
def nK:aA.Fn:=⟨3,[.c 6 false 1],gD [.Qs (.t 10) [] gF] [] "XmJ[6F_wh+^GzLcc^M+l*l.NRp<_rz"⟩
def vV:aA.Fn:=⟨1,[.t 2],gD [oj] [] "K4=r*n,xx=s8HIvnT;g_SiX]"⟩
def tD:aA.Fn:=⟨1,[.t 2],gD [kP] [] "3,>q8<M[b`st?r81k4d37?]3^v3(m;.[im4^5Hz*L("⟩
def mB:aA.Fn:=⟨2,[],gD [fE,fV] [qO 53 (.mv (.c (.int .i64 (bf 0))))] ">*Ct*ha.XCJa0J19;>`<(<z@<wS81fT`1pcoVENW7R1C5mPISx.:V9g(>WwV]baSiDsPcmRx+ZQ=dfQ684(,1Vd,Z^QBlXpUNWkj^=KhI?2Kd,(l>lK(o_*u9`CQcQ4(w*Dvi0TBE9fMsP(DRRAW`wIufb@5x>P"⟩
def sU:aA.Fn:=⟨2,[.t 4],gD [pU] [] "1D`[f5<hEimQ>tOQrhi)V;+H<s"⟩
attribute [local irreducible] la lh lk mA
def uU:aA.Fn:=⟨1,[.t 2],gD [lk,lh,la,kY] [qm 2 59,qo 41 (.VS 1 16 (.t 40))] "5d<c4>hR.P=lY)W.RL7Lt3`hfe4g:?.n;2+ntzM+txM^M[pUO^9m0xL[>ZW2P8ks:w5WwmMf7awuhXTfx=;aq02?^XD8VW`5o=z1>9(5M*q2YOi5@<hgn1u30A6nWQxZ,vUoBdTlrUICX,by8`RRO?E>0mi<>i+(`fvaty_kPK;VH+f:V<(9>oZuK=2Z`6l4yA)<Yxx`F;`4o?7wsfC7]ZC4unGjH5:o][5Gd9OEsMx06pTp:pX2Sn8XHXvran(l^.bN2=nxt@i`Y>_0avzxhErsdek@Mf(NZ278IItuR@Xcgp;_<LbI@qu(J_Cp@Wt3c3Ck?^<R,SofZ1zg7n)43p6olRQ;.C7_sLLgudM:BsItd[NbBCQsp9LO7k<4P(11>GJZGXv5iKNGS1JnV<LTbv9x;@)s,=tM@GJMNnHj]BiCX1)mr+FL>"⟩
def vU:aA.Fn:=⟨2,[.t 4,.t 5],gD [mA] [qn 67 .gtr 66 (bf 200000),qo 7 (.mp (.JB 78 5) [])] "LIMjFHca.LD9?aw3]elxr2`a?zT9ZXK@Q:>JS*Y1s)JYlWZr(huTnR(]eHSC=5a]ejEZA3kFy8jBDq36NnK_G4U0^8bg6MraOWdz]P16c+[Zxp*[_[zV+XVAqWh8eRfZzw,`xmGSzG=g^6rgF)wgJft4A7vJpzOlYW:G,YK"⟩
def Lg:ux:=⟨[(6,[2,3,4,5]),(5,[2,3,4,5,6]),(4,[2,3,4,5,6]),(3,[2,3,4,5,6]),(2,[2,3,4,5]),(1,[0,2,3,4,5,9]),(0,[0,2,3,4,5])],[],[],[2,3,4,5,6,13],[],[(3002,[(6,2)])],[4006000,4006003,4006004,4006007],[(6,[3000006])],[],[],[(5,some 1)]⟩
def Dz:ux:=⟨[(5,[6]),(4,[6]),(3,[0,6,7,8,9]),(2,[0,1,6,7,8,9]),(1,[0,1,2,6]),(0,[0,1,2,6])],[],[],[0,6,7],[7],[],[],[],[],[],[(2,some 1),(4,some 5)]⟩
def tF0:List (Nat×ux×aA.Fn):=[A4 [0,1,2,3,4,5,6,7,8,9,10,11,12,13,14,15,16,17,18,20,21,22,23,25,26,24,19,27,28,29,31,32,33,34,35,36,37,38,39,30,40,41,42,43,44,45,47,48,49,50,51,52,53,46,54] 3 uU [2000034] [3,6,10,16,22] [3,10,22] [(35016,[(2,1),(3,1)]),(39018,[(0,1),(1,1)]),(39020,[(0,1)])] [] [(41,[16]),(13,[6])] [243,251] [] [],A1 [0,1,2,3,4,6,5,8,7,9,10] 4 ze ,A1 [0,1,2,4,5,3,6] 5 wc ,A3 [] 6 zg [] [1] [1] [] [],A3 [] 7 vY [] [2] [2] [] [4001],A3 [] 8 vU [] [7,10] [10] [] [2004000],(9,Lg,xJ),A2 [0,1,2,3,4,6,7,8,5,9,10,11,12,13,14,15,16,17,18,20,21,22,19,23,24,25,26,27,28,29,30,31,32,33,34,35,36,37,38,39,40,41,42,43,44,45,46,47,48] 10 wa [] [12,18],A0 11 rQ,A3 [] 12 tC [] [6,7,11] [11] [] [],A0 13 uJ,A0 14 tE,A3 [] 15 vZ [] [5,11] [] [(1003,[(9,4),(11,10),(12,2),(16,2),(17,6),(19,4)])] [],A0 16 nE,A2 [] 17 pP [] [2],A4 [0,3,2,5,6,4,1,7] 22 uF [] [1,2,3,4,6] [6] [] [] [] [] [] [(2,some 1)],A4 [] 23 nI [] [0] [] [] [] [] [] [] [(0,some 1),(1,some 9),(2,some 2),(4,some 5),(5,some 1),(6,some 15),(8,some 4),(9,some 3),(10,some 11),(13,some 0)],A1 [0,1,2,3,4,5,6,7,8,9,11,12,10,13,14,15,16] 24 we ,A0 25 xK,A3 [] 26 mu [] [9] [9] [] [],A0 27 pn,A0 28 re,A0 29 pR,A0 30 rh,(31,Dz,nK),A0 32 vV,A0 33 nG,A0 34 lG,A0 35 mw,A4 [] 38 jr [] [0] [] [] [] [] [] [] [(3,some 1)],A4 [] 39 zd [] [] [] [] [] [] [] [] [(1,some 3)],A4 [] 40 tD [] [] [] [] [] [] [] [] [(5,some 3)],A0 41 nH,A4 [] 42 mB [] [0,5,6] [5,6] [(7003,[(1,1)]),(14005,[(0,1)]),(16010,[(0,2)])] [] [] [] [] [(0,some 2),(4,some 4),(6,some 6),(10,some 1),(11,some 8),(12,some 1),(13,some 2)],A4 [] 43 vX [] [] [] [] [] [] [] [] [(2,some 16)],A0 44 uG,A0 45 uH,A0 46 km,A0 47 oV,A0 48 my,A0 49 sU,A4 [0,3,2,5,6,4,1,7] 50 iJ [] [0,2] [2] [] [] [] [] [] [(2,some 1)]]
theorem kF0:(tF0.map λp=>chk p)=tF0.map λp=>some p.2.2:=by kernel_rfl
end Go.Proofs.YtanhdobabijmoaaGreatDoor
