import Derived.Test.YtpapbbojmclkgaaGreatDoorIds
set_option linter.all false
set_option maxRecDepth 100000
namespace Go.Proofs.YtpapbbojmclkgaaGreatDoor
open Go Go.aw
attribute [local irreducible] aY Al
def ke:aw.cb:=gC "8YhGz[g>ciVSsR::9wXWriShc1BKV4tT@pW]K,A:NZy)Czf,;)?9j?u,xt_J7fIy,G,Gnkrty2Y+*oudXgKLbsbkiHKirtEZ`_@94.ij*VpYnPmm5webd.=O^[:6(bRP=3[Wm0"
def rC:aw.cb:=gC ");;Cda>pY,<)7ggYhYXY<0S8BYKi1]9dSkF:llZJ1;QCDgfpwJh:aOHBeE0:HcdqB<X]`QI.Ce^+1p93S]Zp9sXH))7=UrU3;]XEW9R"
def vQ:aw.Fn:=⟨0,[.t 0],gC "*l].q<0b^[?CA0.[]L[O?bXLe+ost(a.)?QGLZYxcZ6y:4a,,[k:sl`Iul[ZUs8?(Oi4)+Jpv)2wRU3AyV@si@63fSurRCL,^d271uP`1ZITtbRgo*)gSl]2Ql7DAT]p5,qMHaL<8K3@`oJcG^ow1DbYePaY54@`km>xwq>4H@:pV8_kO@z>taJiEIQLK*2^;htbX,KL.SVv1<,*UE*ft`LK9_olGhbSHJ,9jCvZETmr<zqmb4_*CI95HDAEM)FITy0Y^:"⟩
def Eh:aw.Fn:=⟨2,[.v 4 true 4,.t 5],gC "WE+e0ngn^27MhDKFWHY;7F,P;n^MU7=<ZXt2RReY>gZ6R:ss]XATCdvvlCBt`Xpq3Rt*e2*V?)MqNQr)@+,iWP0:`ADqmqS7+<]hxeEa7?DpKt3)99i]CZg(6O1B,.GN+T<O^NB;U?`z]3[[M:BrU<V8H^k<K,Iy^aG:CcWk532b`e8dA8F26bkKpwH"⟩
def Hj:aw.Fn:=⟨1,[.t 2],gC ")]Yl8g]6+7Z82@D>35e"⟩
def vm:aw.cb:=gC "ViJ]7[xv6EB]0+HGG`UPI,@5t36W<C,h]7@65a=5BNMqc;nQixD30i2,Tc"
def zc:aw.cb:=gC "2_WRx?fc]QoLCf,wKgiCSYVYesdoU>wtTse1l6pa@c=n8YEPtAx:X0Nj<wBn7GADFF*p6uO[w*a?PAPVaEZkB5saO8Er+]8lJu"
def nU:aw.cb:=gC "7RefUgS7DLcf3@(uGJCA)Ib`y59n[yCPJdkRkhKv8jFWX)S4]sGH`[g(m6q?C.44hYd^ym01b>dI6vP6(s"
def xi:aw.cb:=gC "BCn7fyR:,PfLPk.)@Z7GV0GevJH3Et=IG[ASV72T@(>)npPzeDP4TMSd:f^]4G7O*u<_"
def oM:aw.cb:=gC "SX9<Z9rl;On>feLc4=p_w]^HKPAFOvdT3Y+iGJPJT1)v=mmw`m[y6CoOY5b5Od?25DzOQ;Tb()o_T6^MHI)Z=kKMtN4PK)BFzGwro,c=oOSTb*g];hW)?,^WxJ9bl7Ho,ojg<k"
def oN:aw.cb:=gC "^YjjU_8k*S,1(Z8lXjS3u34VI;7a;fmo^Y2<I69U)^+9h6y]x=F_Kg1iL_qcA=ijhkwR;N91qGKBkKX7U^XXY7]_6fXa2ji9wT7gFrDJG>Rdgoh*Et5v*uswvBa=Suvl]P).zJPBJ)91*?(5L*F5N<GKd8t@Bl1ZI4N"
def pR:aw.cb:=gD [] [qo 64 (.bin .add (.c (.int .i64 (aY 6))) (.t 63)),qo 57 (.Is (.seq true) [.t 49,.t 56]),qO 56 (.Is (.MH true true) [.t 50,.t 51,.t 55]),qO 26 (.Is .J8 [.t 23,.t 25]),qO 22 (.bin .mul (.c (.int .i64 (aY 256))) (.t 21)),qO 20 (.Is .J8 [.t 18,.t 19])] ")zAt.HuxYo*mv^su_)7p;jvR6+pYzgp4v+X:^SVNTqaiY<Y=Ex81XJNnu*F1?G6H45ABa[<xN;]U,DhKFccPX4q5r80g?=pUId7r0V,>udI0jT7g+S;WchUHH<`GNNHy*jNy[BK1WqcCBhwBE.5SoUrFXOXGEo?prvZQQBe5kWlqo2aVFkHYN=bh]UbR>"
def oO:aw.cb:=gC ")L?I9iutcpcE3E6ovrcT[_;C.S1g[K:uU<lv71+3XY23kJ1=bMMRg;mwioa.]v6s95muAjtnsD,Rai46"
def Lq:aw.Fn:=⟨3,[.v 6 true 20,.t 7],gC "+Cd]MUjdLXhp]0<6])@*<>+T.[XJYfAtc0T_1.7?Qw>ZUbqdG*]`3pXr<j:l6M6a@heyNyv87_yug8tsx_bjudTrVYvR6CeraH5MMkJnh^L>,qL`X(aJ5cUl=zAEcHbQuhvRS(1QLsvv6s1D*0k)mOWWSm<(2_(*g5yIOS(UOJh@p,=57Ht+ZiWchnM[YPx+T]2PXs=T;ev4hn[AHobuSD<1J]a8dq2vymrPO[?B5HkWoV?_D5uBnz6Q(^(?uQaf3m6S0UM4pksUgb9G?HArQIG5[nTvbNevyq+qL2zMqRX>u2qhioHl7(o:3iHNdHqRW;VC,Jx?S[uHdOnMs0lR`Xr8GtbX5o9CH;QPn`?tGMUR336Kd[h=9bre_(MZ7`@URFdGs7mlKxMj_jYTAfmeyD[Rap+)*KiQLR6k[+J]8y>t:FAPJR?PN8ipHI*i:(HN4S;R;xS?J15PpDOR6Fb;57pq0P"⟩
def xn:aw.cb:=gC "@<Cwt)c09IywEJD?1wVR.;(YwcmGmaiVyiKLF^?;8lXn.eXwgr*"
def Eg:aw.Fn:=⟨2,[.t 4],gD [] [qo 14 (.Is (.MH false true) [.t 11,.t 13])] "C>+E8LO:WX46N(3ZQy;v^[c_d[<?CN>a7Icy3]V]]"⟩
def Jz:aw.Fn:=⟨0,[.t 0],gC "7eTmdMX0cq=OJ7F3?KWp=YS,Ec4b^,+`Z=w4YuEQ9drq,OjsGY7:1hBzr.uB(42>O;B(4"⟩
def DM:aw.Fn:=⟨1,[.t 2,.t 3],gC "7Go.9+^.+sW`x1K47@txPUY,aI3P8ipljWJp,UFEpWXsi1@"⟩
def DN:aw.Fn:=⟨1,[.t 2],gC "A;11ae[lgu]jBDX6nglJRQn4:3tWI07o?Sb>V;,*"⟩
def mD:aw.cb:=gC "6.@NTKcJ@@).@<ui[biDug`l__ik5U)PFBNbErOC[SSSvAmP7A]E096lDwnHCZwow"
def j9:aw.cb:=gC ".(:vrd.H=3y`osK*evkU)B`@83dlbmm*uB=?7((hHA,VE@fA>EQkkf;e6M=RZ"
def Cb:aw.Fn:=⟨2,[.t 3],gC "2ljOH`*QmV]3A17u>yoq@`sWD"⟩
def Gl:aw.Fn:=⟨0,[.v 0 true 20],gC "2v`Ur4_@ntQ^osROT],suiK+6M4>SgSwk"⟩
def Ch:aw.Fn:=⟨3,[.t 6],gC "*2=75EjWG>lzVWOsYA5@2n_kP[*?dEe"⟩
def uM:aw.Fn:=⟨1,[.t 2],gC ".u*2gDg8Ia_e+Wz_zyAQNT1TNy@W1y"⟩
def yX:aw.Fn:=⟨2,[],gC ")^yz8dXXm)p;k70[=2UAG@"⟩
def uD:aw.Fn:=⟨1,[.t 2],gC "*M[khOGaaapu955<K7G:[z,+;sMbl2N.u[Fq^mT5[pO4RUnTBrgak2Zv.V7w3x=+@q?Z31zqDEVtD"⟩
def wx:aw.Fn:=⟨1,[.t 2],gD [] [qO 6 (.Is .Z5 [.t 5,.c (.str [46,46])])] ".J8FbbZRPL=Q*dJZq7Lpa]@o?csG)RnYiTUKj,]"⟩
def Er:aw.Fn:=⟨1,[.t 2],gC ")P;J[15t5trgjBA2BJpWbT?^xTBJ(q7<neZL4v@5*9qUJk6,KM]"⟩
def Es:aw.Fn:=⟨1,[.t 2],gD [] [qo 22 (.bin .sub (.c (.int .i64 (aY 255))) (.t 21)),qo 19 (.bin .sub (.c (.int .i64 (aY 255))) (.t 18))] "YsCC`?RjKr]rbnBV):+.[*l802td8@>XCSAvWN^_Nht)SDVK5ro*Ur989SQ@mN(KMdZdGVF]=f+g9cZ^Rxj=d@y1:_xU=_5L5sroVtxntdo5cxKI8OdV6X?v.m"⟩
def fg:aw.cb:=gC ".ohj<XvVSiB:g"
def fh:aw.cb:=gC "4<E+q4H[bWd_+?SXTrrK:A]Ns1xeLXU?9qCbQ*1W[LFRnXU"
def gw:aw.cb:=gD [] [⟨some 26,none,false,.call false (.t 22) [.t 23,.t 24,.t 25]⟩] "ltWV(l3HG00XZ[Oee@.7,hZ7SuE6N:UW@zP]Bcs.R:qWThuz^4kFsDOnFGEsF.g,RPYPxlw"
def oQ:aw.cb:=gC ")K?Et]DeMxY^yfY;s_,fX[V,E[:7_QJ(._k?uv64weB;@[N"
def tz:aw.cb:=gC "iLw8]cU[>]W*j3HHf6(FpCQAHdQGjmcdkjl`v[i^c_^U):HOY1^ong?g)F,gD6O9oxSOAu7yW;jGj9BWFO7<N?Z:H@9>CEis,HhNNpO@tu"
def tA:aw.cb:=gC "<?d8YK((Kh>zS=?syt=uD__GSC:DCCqiK8O)rjwI[6elNCmwb;btPt,^GzaLOdtekq0DG;(pa)I.UMfOUa0(`10]ZGJt=w4m4CR6NPU^U_Zv*u"
def xq:aw.cb:=gC "0)3i11iyBJ3hwQbSveFyoeBN`LaKY)>XRUFZYlR(1gPN;v4]?mBZ[Dy)0t^XOj=_+]q7hbYj^]CBA?J(a@`2lQ]*wt.xqM6hY;K@zxuf5FsIB4RZT+>VM10pA`Dso(QOekc"
def tC:aw.cb:=gC "emhd<EKBUGSmUP@6?`^GXL2b:U9+1Slh.^+yuHoW_nuG=AOk4gvR`1I^ez0)RGL;pxB`kUg`y+0ox_NyD_l4ercM68.[9SqrfS5k6hgziE4,gKam((kO^H`f^*8f(P"
def vn:aw.cb:=gC ",GUj;GTSF4upMsm8G]o>46^?>Ak>gBPE[pCa<9Rycq.PqbU1SSrdfL(yDlnj=H^qtD6XGv1@?Dw*s`Yj?VRam"
attribute [local irreducible] ke rC vm zc nU xi oM oN pR oO xn mD j9 fg fh gw oQ tz tA xq tC vn
def tt:aw.Fn:=⟨2,[.t 4],gD [ke] [qO 106 (.me .b2s [.t 105]),qN 103 .eql 102 (aY 0),qo 38 (.cpi 1 1 (.t 37)),qn 20 .gtr 19 (aY 6000)] "41K_Y)y[p[Ru`3RcR3Lm?OjSCHfe_Dh2;XhqdrBaL*wvc3)R0Ek<N)EsHpl27)Jur=A`*AQs2Eadg(hjUY<;q>S?ZNpN90EIZkHMWnmKhqLPr;<z`Z=w?M6unjv`S18iSnnkDg2a2PL@PX3?nFy`9fKIXSK)gQLjfR>Zfcyweqfy>yyPTKGhDW[Syyx^d`Ply,)0w[ylFPc:jHcazWETrA4vRqTZQeiDR)D(*+nkJfMf2G^,3qPK.jn<lt``44)3Pn*d_lusGw)YG<Iihdg<n0FD.fJrl:=_>V.0h[p:L;^)A?iMSa3IS^m"⟩
def Jy:aw.Fn:=⟨1,[.t 2],gD [rC] [qn 42 .leq 41 (aY 5000)] "Q;,jPrP3wYgaG2M`*Zd>KQZCR[0T6c*GdG:hYtMAOtApAWKGx@0,t<nQs`l,sunKTVEdI)_`xIDZYdUL*Sr=i>MhTd)jIlCmYo+th]hHe"⟩
def Gp:aw.Fn:=⟨1,[.t 2],gD [vm] [] "6Nwq8IN2z7DE_AP2Nc[COlLG7cfH"⟩
def AE:aw.Fn:=⟨1,[.v 2 true 20,.t 3],gD [zc,.cK [1000000]] [] "3k7Rp]MBpV^koiSel8Xwu?5wvP(+tpGa5ASagY=STyy6yQjy7rgAmO*G>2@"⟩
def Au:aw.Fn:=⟨2,[.t 4,.t 5],gD [nU] [] ",ODl7tkP[1Ih+TJTo?K]Q85u7eOx55f<ZV,.On)dt,7WM*FVB@.pkFM9mhK`)3TE9Un]aHezZnO8IIjyki[atQI[6mK[<NRJ*RWcTc2Z9pDZK[5S;^9:42?ImpUlTQp.(QOL7]p>@Yl*LcO@GDF?4o7Cq0AK^8[xmKHgyy"⟩
def Hh:aw.Fn:=⟨2,[.t 4],gD [xi] [] "*ksz:W.hj[0ckuogFSFjExg?:Qmi(>IvbmvI6>+Qg<m"⟩
def Cc:aw.Fn:=⟨1,[.t 2,.t 3],gD [oN,oM] [qo 9 (.mv (.c (.fn 42 [] []))),qo 7 (.mp (.Mp 115 5) [])] ")IX@8t;Y:10ZN8a`oZjpKCgUO3;Vh0vlOIpysDX:YJqdIh=Xz0qK=S^y3`nI+61u,1xo(_3WTa6fOW3?y=9BZ@ZtOwg(hoM9o<G>PQux0G_PzUKClMwl3x84=l;s=VmbNCbyu>^nWl[j[z=B](fRr;mopG@Mfbo7R]DQ0h99t_kjeh7slE71@qIKBGECG3fCjc<=Xt+NH?3tMm[.GoP[[d8wKN[(`Xz*AyF+TViWP"⟩
def DQ:aw.Fn:=⟨1,[.t 2,.t 3],gD [pR] [] "0PKdy40]iEgV7+@hYT>p4dnz]=Cj*,Ak`qtc)0"⟩
def Cd:aw.Fn:=⟨2,[.t 4,.t 5],gD [oO] [] "D`;QVGIS64`w=NpQ<J2iL4HUN?*PkPlwFV=_fpWm>os5(UCkGpO1`_XwEqIs46)7JYS[Cplc30Ct.R*tWyM@4VL:kkR.Y`^8UPxIutt=j1+eeg(`8z4c5DiaBS0XnZoe`IzFbA5Lkvqg].+r?JH"⟩
def Hu:aw.Fn:=⟨1,[.t 2],gD [xn] [] ")2sf0Zyiel<Zd3):t]DyZvO<FN5R8"⟩
def F1:aw.Fn:=⟨1,[.t 2,.t 3],gD [mD] [qo 11 (.bxn [(9,4),(11,10),(12,2),(16,2),(17,6),(19,4)] (.t 10)),qo 2 (.mv (.c .zV))] ".*JFaJ;P+1na]Td)M(XnS:@SehcJtes8XYIfEFH:9CH_wOkiv>mGFDj;MytcivlGSo9AzzjCJPm><M0"⟩
def lD:aw.Fn:=⟨2,[.t 4],gD [j9] [] "Om[L<xnD`PUb_qRied47[UR2m"⟩
def Av:aw.Fn:=⟨1,[.c 2 false 1,.c 3 false 1],gD [.ME [2,3] (.t 7) [8,9] fg fh] [⟨none,none,false,.RL [2] 1 (.t 3) (.t 19)⟩,⟨none,none,true,.RL [3] 1 (.t 2) (.t 18)⟩,qo 2 (.Un [(0,1)] [.bB])] "61,T2D=As9(KH[SP6bx)pgDYYDYRC6vDg<FP6"⟩
def mi:aw.Fn:=⟨3,[.c 6 false 1],gD [.VY (.t 10) [] gw] [] "D.IUUfBl<I_la;?;,:Djt.RWJng1AIE]C"⟩
def Ay:aw.Fn:=⟨1,[.t 2],gD [oQ] [] "03dk;c8;(il;QcE[7nn41]Uxsh(D*"⟩
def Gm:aw.Fn:=⟨1,[.t 2,.t 3,.t 4,.t 5],gD [tA,tz] [qb 17 true] ")1v@<9CcC9x?1NW4+45b[EwwZz`lkessW`B7cAIsw0WEG)ev_MtrkpK8<2D3N)Vk1*tg^a9SW3WdZku,lz,9?8sJ5nL?B+nYqac*3+Rp=b(:LUKt@HRuLHdEVlWkHVLQ:A]qhG=dS)58VX.r<6_7h`os(NYDQI_p_g7TGB.f6e;7;E]ve_.5,BS22yfgc8e`g^3]=b?3scAzyfmX*.Wb@qvEk(l)XDb@Bo*_RDMIhS.`Q)QoEa_nR(LpFmIPQI1[;6l^V6j*b<JHIQXGR>hJbK2;rvM[w+jCwpTAZo7kO6c`O)P(cQ2,];3G4`lQlf4>noP[1raK(xmNY:uOy8HnwA=N)sZeMe:E(eUt`s::=HWYq;ZdZl9l<xPjQVA7[SLT+E<`SnD<YkDoyH(QP27s3=NpmuPI3AWc6i@*(?5KjCG[4F.7KZupjH<(2;T*S.<ODYcK<L,TrN9Lqz.V6Wp_0Qpi?egujVFd(OVoxIH(fMdFhRr:w[ZPAQ,61fS0i?BgNGAn9aY=I6qNUOMRSgDiIeXU:r(<Cu_CaLwqaUy0fs=tGc2fgZUCcOJ;6GBc,L)h7oPe>[yR?PC2v(i"⟩
def AF:aw.Fn:=⟨3,[.v 6 true 20,.t 7],gD [xq] [⟨none,none,false,.Je 3 [] 1 135 (.c (.bool true))⟩] "1+*(R;V7UM[^ksnoQ`W7J_I=Dq:A)zMH<NEA>Qv<gTrOY<8_LF^iQF(a`x38pq3;)dH4J`t?hfv+C6Bq>4QOE^q@kwm_XsmEaMCY?yJl7fdDnfrihg[;n_a9cfQvQrLNX@3jgU<AiGtJj6tWlT(drX@T5sc(P6.M_(cfGFW2MhNlN@H^?hD<STv3kI0=cziGvTI<dZ1zm_zeo*=^T5HUS,HSC,g9m>nF7VdvmhNn>_7n483Ndd(CN*`ni92KeqH=gE2QCNc6b[gL;BKRgwjWqJ7`cY(trP@S`c4j;]x[`7uBexFPL4JvYQfMWzPxt7^VC8,aCA?]9GoBt=w87SZT^^,ppvrO_Q]pT,Cyxvh:i,+,V<FkC)ItPOfO85I)`]jD_Qc)ue@SEeSICn@lvwo8Nz,v95oC5ctu*6u?H*S>a4zPj6J4V6Uu;x1W7FYQx^tJJHt,GO*c=H4+@Gq.U,9vRm55N?`7>Y:,`c:YrvE<>3h])xw:4iF<6bVqEOV2G_V0W*3m<u.YD8+3^=g)5T4sE0wRA]6tHt>.MM,8U6lWe3]lN7?cmW`iEokNF_a()V)cT8J^oL`VAL[,v:_x^cVOBR],kzD_K3Shgi8u4xkmY?[OWIdUjf:EiKk]GonC8F;[SljGuia"⟩
def Gr:aw.Fn:=⟨3,[.v 6 true 20,.t 7],gD [tC] [qO 53 (.mx (.c (.int .i64 (aY 0))) (.t 52)),qO 52 (.mn (.t 51) (.c (.int .i64 (aY 9))))] "3f;Jmw[ahY,7m(.CxWNk2*<J6`[wmGp0wg@S8*iwbWUpDRTAcoo(1.EjR*]8t@V[;M;IE98Pbf]U.4qYAmmR@OVWEp@_AbTTb[oW=:XTDPfRS2OW4Bn.XNA?z<P4a.bH5R=X(VOtG9h42QbdIsIqFwWj:(i4<1Ct)R8kr:gAN5)vgwO?.Fl5,b^8;JUz0,Sqb)Mdr+boP1xl?UkRI8@DjYO>dFcMh4K=*R.cCuQC<ofBtZ6LGxnsfd<2syb_iBimLwcZ>(.R2ps+y^zN+a)Wh]9]BQ8K9o?cZh]dOGnlRtmAtyfJ]CjHRSrfu)i>2G7zLxbWphdx=,<zgc@4I<Up9:kYH+^D7?<=;9;>bZmZ?tl8pWvqy0lygKlhjBx,Tj@26LX]?zqWY]_<hj6?SP4<3r]^Pdy<h6)k8;*esr3fq)p;9+J4fZuXSLt;V8V1SQq(jv<ta=o^tB)(*;OlV6k7DV;ViidRi+G;M<cC7OmvFzk*Bnhd<+edQ+)Rsb2CebsQWr8a"⟩
def Gq:aw.Fn:=⟨3,[.v 6 true 20,.t 7],gD [vn] [] "QfBZBZpI^eGw4@t)=T0Z.2kWz=YWgl0OW?rDZwd2Z:po4RDL*Rh,ryn+LPqxqiBKB<kh]3imJ??:pRmt6N8xv>.hWa:gmSp5kLRy=ULgogYi3?ivh6;ZNM>uvRRF+fo;VPOrUPYzWEinN)4Hfc[OfpGyHw+IL8L+,GzD`a4uWloIdqeA)olsaO`73V@nR[k](L4YE>SB:L@OL416]4J;LQ?J4Dr7<7Wlf^SG1VLHa"⟩
def G6:sS:=⟨[(6,[2,3]),(5,[]),(4,[2,3,4,5,12]),(3,[2,3,4,5]),(2,[2,3,4,9]),(1,[2,3,7]),(0,[0,2,3])],[(0,[2,3])],[],[2,3],[],[(0,[(0,1)]),(5005,[(0,1)]),(6002,[(0,1)])],[],[],[],[(6003,some [2]),(6002,some [3])],[]⟩
def FJ:sS:=⟨[(5,[6]),(4,[6]),(3,[0,6,7,8,9]),(2,[0,1,6,7,8,9]),(1,[0,1,2,6]),(0,[0,1,2,6])],[],[],[0,6,7],[7],[],[],[],[],[],[(2,some 1),(4,some 5)]⟩
def tF0:List (Nat×sS×aw.Fn):=[A4 [0,1,2,3,4,5,6,7,8,9,10,11,13,14,15,12,16,17,18,19] 7 tt [] [9,12] [9,12] [] [3002,4001] [(17,[5])] [] [] [],A1 [0,1,2,3,4,6,5,8,7,9,10] 8 Jy ,A3 [] 9 vQ [] [5] [5] [] [],A3 [] 10 Eh [] [4] [4] [] [4001],A2 [] 11 Hj [] [2,4],A1 [0,1,2,4,5,3,6] 12 Gp ,A4 [0,1,2,3,4,6,7,5,8,9] 13 AE [] [2,4,5,7] [2,4,7] [] [] [(0,[1000000])] [] [] [],A3 [0,1,2,3,4,5,6,7,8,9,10,12,11,13,14] 14 Au [] [11] [] [] [7001],A1 [0,1,2,3,4,6,7,5,8] 15 Hh ,A3 [] 17 Cc [] [7,11,13] [11,13] [] [4001,2005000],A2 [] 24 DQ [] [4],A4 [] 25 Cd [1000004] [] [] [] [5001,4001] [(12,[7])] [] [] [],A3 [] 26 Lq [] [6] [6] [] [],A0 27 Hu,A0 28 Eg,A0 29 Jz,A0 30 DM,A0 31 DN,A3 [] 32 F1 [] [5,11] [] [(1003,[(9,4),(11,10),(12,2),(16,2),(17,6),(19,4)])] [],A0 33 lD,A0 34 Cb,A3 [] 35 Gl [] [0] [0] [] [],A0 36 Ch,A2 [] 38 uM [] [5],A2 [] 39 yX [] [1],A0 43 uD,A0 44 wx,A0 47 Er,A0 58 Es,(59,G6,Av),(60,FJ,mi),A2 [] 61 Ay [] [2],A2 [0,1,2,3,4,6,7,8,5,9,10,11,12,13,14,15,16,17,18,20,21,22,19,23,24,25,26,27,28,29,30,31,32,33,34,35,36,37,38,39,40,41,42,43,44,45,46,47,48] 62 Gm [] [12,18],A4 [] 63 AF [] [3,6,8,15] [3,6,8] [] [] [(17,[8]),(30,[8])] [] [] [],A4 [] 64 Gr [] [3,6,8,9,10,62,134] [3,6,8,9,10] [(17005,[(1,4)]),(21026,[(0,4)])] [] [(22,[10])] [] [] [],A3 [0,1,2,3,4,6,7,5,8,9,10,11,12,13,14] 65 Gq [] [3,6,9,53,60] [3,6,9] [] []]
theorem kF0:(tF0.map λp=>chk p)=tF0.map λp=>some p.2.2:=by kernel_rfl
def zd:aw.cb:=gD [] [⟨none,none,false,.Je 10 [(0,1),(1,1)] 1 55 (.t 45)⟩] ")ThsUA.fXO<e9GF.C,F+U`<MjKo3m3W3+j2hzT[3gP*wQn]2ubXDqjl@^;nZhM9k_o@bcPR)(rut1gP[@l3F?S2A8Fx0*[wIQ92MrHEl9?LZi0"
def xp:aw.cb:=gD [] [qt 1 91 90,qO 82 (.WY true 4 (.t 81))] ")JyzUc69l6)jk*c<T>I?e*Pu7fpgm*csz<u(yY4BTh=zHeZPVS)+Slg]=6p@.t=iAoYxQbpKNL]fTwc?y3Aqc6"
def vq:aw.cb:=gC ")+G,q].I[a[lO]1?IH0MZ5d)4X?YjA.J2r91bt;UOcZ?YaJV^aJ@n3;WZ8tBaU]*:2lrh>0GSVI1WGxAqmZJc_iV,C^y.mUElTX15nK2DLH.<ZVH_"
def vo:aw.cb:=gD [] [qt 1 98 97] "9H>T1Ehx4hBaTE@coh^ZS.V@;dtynz=16L0NKQ7q)nl4FQDlml]YEy9iiv8MhG4cFL2izX6]C>2SZULbSt>lqw>@(rN?mQq4[qnBDbE,mqcwe^d2=L;RQskE<LE,CDP94F_aCkgBladU?K7[DV`Who?LXW]dNZ];@"
def xr:aw.cb:=gC "Q78TcL,wW36Rsrh6oC)Lnf`XfXaH5>*hWIya.sJqckf624.@SgP9EEyHjP0]ah51NrEK1`fzOSZDd;(SDGZ**tB"
def vp:aw.cb:=gD [] [qO 134 (.fld true 0 4 (.t 133))] ")5`*TSNzbiQ+tgnzKM^xN`0XoW0jYo0,MtaPwGt00Ykx<)x),z=@R`p90FQtWCT)pVtZt>yx:8sYTnMgY,1:ajM52NuEvi[yCZ`aOX8*mWwqAqm*BI?S1F*x2A>_l)[SR>3[2j8.MI;Y(@eT<6[:>L)7l:D4n7X3ab:7*V809v]SP?oDcIZSOck2L[c0O:y>H9hu?,jLZlO;^jj`]300TJ;iO7Gxa=[6fYSXv?pF0O;PRy2VzT]wCy1lZuUfJ0?<P02:i)L3`2FbSA@*,J^tT+]I*p+yDR24EsZHxC9Un4J2W3okK9NY*l?gGjD.0CJk8Brgdc9(DDY,<Puf>i0K`O=XL@QrkExDEef0c[c1+Zkvq[A5EqV6vnsIpwTDc]qo1Z4_DLK*"
def nH:aw.Fn:=⟨2,[.t 4],gC "25KS:geM2m?<MB*=El>kX"⟩
def Aw:aw.Fn:=⟨1,[.t 2],gC "7]jn;csX`_)[DMMocTa"⟩
def rR:aw.cb:=gC ")pd+QhK24_o56uMtBkgEeQ_WEnxT:]5)7Tc7a39lBpR>anDrD8K4QmOn:R72(iU3SE.2]vPlt>g@y5I*yB__;_Ol@9jjuhn>`ME1a=]5*<acQKNjF:8Djr?vFktzK*jvHTtE9Af[jtr6gz8d^xEAlOBYQas*r[FWg"
def vh:aw.cb:=gD [] [qO 34 (.mx (.t 26) (.t 33)),qO 25 (.mx (.t 17) (.t 24))] "8hMq8^H67[h.iI:465XdEJWXRyyK?q:Rp;45e_(C5_SesGkHxt09h7k16xd`q1zKX>2u)fzV3iaKX3?sxW(umEs`2GekjqTL^>"
def vk:aw.cb:=gD [] [qn 18 .rem 17 (aY 65521)] "2I:QsFuIf2Ub^QD0A(=N<BA<j8ep+:i]J8hFU]n8tD0ag1jF>68?e+EZ]"
def Ax:aw.Fn:=⟨1,[.t 2],gC ")IH1B>oFqzJI;)Uf2c]X"⟩
def uF:aw.Fn:=⟨1,[],gD [] [qo 7 (.tas 200 (some (.agg [.int .i64 (aY 0)])) (.t 4)),qo 4 .RX] "GswsK;:f_49SEHF26fQv+8DjSL]hTG8XQFa`3)b[Ecp(mZqqKP@uDTbo0Ic.38Tiqm1"⟩
def oP:aw.cb:=gC "*Rv)hTpNuJ,UIOv:_RdnI+hK_PU(F>s,ysmil<xt7eT,GjbgNf)@rAU7WEXe"
def Cg:aw.Fn:=⟨1,[.t 2],gD [] [qo 27 (.bin .shr (.t 26) (.c (.int .u64 (aY 8)))),qo 21 (.un .xor (.t 20)),qo 19 (.un .xor (.t 18)),qo 9 (.bin .shr (.t 8) (.c (.int .u64 (aY 8))))] "3SawJmi(q7BfseM)7b<v4mWf,qwvRZxK9L?BG7Z5upjS:U28*]h(xMo1IWhj8y6kEGzlI0LWpuE8tkq>_SMAu1O>1Utw>z((8^u<"⟩
def tD:aw.cb:=gD [] [qo 62 (.bin .sub (.t 61) (.c (.int .u8 (aY 48))))] ";zr_]i,lL1y6D*526o+)cMntwz`e6OnP.F?=mpko9=Jp]Rh3ITv?mS:<kl1<ZL,(p5mM*ftF6vyM)K2>nH.sheq9;(4Sbnvr;UbIEZ5V+Ey=gDAB"
def F6:aw.Fn:=⟨1,[.t 2],gC "hjBfOXb<)*,Sq=ngy.Q*W00,:iuoUj;7yAd[T7HLh4]GCc^hd0x65nDl(4>6B;++W1Bf.eDW>xnem`W@POIx;bZiHs__<qb.ED"⟩
def uZ:aw.cb:=gD [] [qK 81 .leq 74 80,qK 70 .leq 63 69,qK 60 .leq 53 59,qN 50 .gtr 49 (aY 0)] "A(U8A@m85C)yhH@pSb>7lO?3k5Ln)WMuV^g]?h>OOS7?gfV@^Ovw`?2gpfT`eNS>.^d8mW3wN21B5nZayb.c7Ez0Ml29nOQV>H?*i@<9UbI)VO:YcEj`]z,n;tOZYRpIYu49FJQAe+(nBw<cx.b+N,m)SFZ;3DihIB0r4g)+v_pPRIRPW][cq,t:xl??dDZeg9E3pC7^C<ryiRt]w9C`g=+4vq5H6XK:kPA7dx]OY_^f,<mbJcMKzZ@Q`gzZk`,biS?nog9@b5FwusVQ)s5<+T4qEEH[M?>CBp4K;`<<TTL.r1eqZ2"
def tw:aw.cb:=gC "8WZqGqx?jhnX8*@]F9<]<f]3(,MnJEEv[G3eZj8XH[pHE7@XLwCtT8Z56JrT[,dgh:kCHjR"
def AD:aw.Fn:=⟨1,[.t 2],gC "3C`.`jciT,ZCv.j=El@<(d*^jJ_oRr*K)w2Fl*t.^qs=ZXVcSqslb)Ic03q[mcoRYHA+xzVgUzwB>+3TUY*UD(`1F.BlLOgb.Wc_h]jcuku.nm"⟩
def wF:aw.cb:=gC "614b;+Lb7W>C1zrzdiwC4U9NrWx44Or1EcU_Mk.k@v]U5,0MGK20p]`H+4(^+Hbw[c*;DzUS`1Z)]_ErDgBR"
def nW:aw.cb:=gC ",`6owdh65hB3tKim6Ms98iF::OW;gtGX=_5Oja`TIZ6_wA1Y^mH1D^`:sd7tk>2HQ,E7;eSF>s5]uj`fDy2KZ+Sx6x54o9r0R"
def xl:aw.cb:=gC "nxZwBF>oP1o>SRw`+QkafA_NN2)ovl]_QQlUeU^Mg6PQZ_**YwHr@`HfT)5jMIKc6ps[q?LGx(fbSYlndYYaM9mVUk;=NFyHYsB),8QbuBJ<M,NCJDh,^*coP;jqp)2e3g:5]=S1)p?MXJ@;TdhmMgn][LFSEu1wh`x:OZw2Rq]Lw_;R"
def kX:aw.cb:=gC "0?TZm74yr<^N;]mUARG`ypt0^*LZz:sa5BTv3.fe;h6?kD7>b3fRq`:]<Nzu7toIs^<7@,06gnB"
def JA:aw.Fn:=⟨3,[.t 6],gC "W[uJPh?(?PIdc^zlLk5R[NWWE(a*t5ddIoKtm+J@hVM3txD"⟩
def tB:aw.cb:=gC "mus.d.FyHwrAN@O<HWDIr92.HWB@5LUoBeQ*L:2jF?KnR.w6=Pm8jL5qH.<>.KS8Cm`3VDh4pZX2KaQX:>v9THB879f+nplZZD7<8thwsx]XHBV1]DSy4;xK3,l,Td?vCv_Mu]9QrXT8(?JiwcNV*k*l0euBFEx@"
def Hy:aw.Fn:=⟨1,[.t 2],gC ".m[@tJvhHzYttRue@FA`FCy4"⟩
def nV:aw.cb:=gC "+Seu0Rqvo<VlU7WYZD(,<TbZzrrqTR=P<6sL;>Yr[jhsCBaJ?]86zR14P[H>p7yB"
def vl:aw.cb:=gC ")TK:[zCRL<Ms_iTcKe_G?d_D.tylJNwzjzKzUFMbPe4r3ChN;V0@xC.1*X)`Z3j>2,JPl2q=a8w,x(<l@Z;Koq7Eld>de65AxlCB0"
def xo:aw.cb:=gC "0jKll+TTFd8p]g8NoM,p:ncIj2hI,]>dkNi]Sa02w=.9NmcBu1>3Ik6(xix^i8Dyg7i((l82Q+^)Ni@NSL"
def xm:aw.cb:=gD [] [⟨none,none,false,.Je 8 [(0,1),(1,1)] 1 53 (.t 47)⟩] "+71BMRtTm[S;DFDlh5v*+R7YhMPQiPP6t]IKTRO)4SF8A7OkYeWL[WbBuzkq5]0)7uVT7IMFvYgwqAlsT*1Adz`zQ*AOI5pK1NJo;]oO.N54jlRx_<_CL`V4wu25S8T+4>f.t=OIQ3XJ]iyOw_>B5lrx_buCqCk<3x@posOff[zZqqb:"
def Lm:aw.Fn:=⟨3,[.t 6],gC "In]:5mZAM[p2yeaAst=hdaX(l.Q1h8u"⟩
def kZ:aw.cb:=gD [] [qO 74 (.bin .gtr (.t 73) (.c (.int .u8 (aY 1)))),qO 70 (.pick (.t 54) (.t 69) (.c (.bool false))),qO 53 (.bin .eql (.t 52) (.c (.int .u8 (aY 1)))),qn 49 .gtr 48 (aY 10000000000),qn 34 .lss 33 (Al 10000000000)] ".gPyvANYDpu<[^:7diO65(tt5st@,MB,@d2ia29@sMu;plwcG@57tdVCfo@P:v)cr6ujiPTRQA09Q0kJ,Yi.=I>.EURCM_0pdY=Z8(C,aFF1Km=wU3N1(332wkXyQR)zk=poc7EY:pJ8E._K+_](fv5vbr[^[kg5fSiTw)06J3d2pYi@a^L@75Yq8IbE9NNW`vuIsq4Wtf[<FIR0kAzBkAu(7upy.etbimWr@z0xm3^K?taYSlwH?KY3but14]22z2<h8uVb<g)SB7F4I^NizM4QV.=Nwgy;u3T[PIgpF1XPjX+fL@pku.^k8IF"
def Gb:aw.Fn:=⟨4,[.t 8],gC "),lpAeF2T_I>o9.p+GCObw*a8go8J>src=C`>pZnEIYQ`C)Aa`^WC*fJ(+A^o6xD^.Cgp>yEv7JujUy<pKME;eT,8@`Fko>HJ,1;mHq5:ihhjG7>ENT9Ab<58hrt=.?vDH_B==A?]gBq_NiTL]7oV8JK<s?@Jr1.JQi>)fD>w8kMArcTt.,BSK2,R0v^Wsnj31CZRGeJ40e8i7pr]*"⟩
def pv:aw.cb:=gD [] [qN 29 .gtr 28 (aY 0),qO 19 (.call false (.c (.fn 103 [] [])) [.t 18,.c (.int .i64 (aY 1)),.c (.int .i64 (aY 100000))])] "2A^X@tV9U;B_jv;0hTK[1vb2,t]=s`XPATSpcTelx8(evuncu)3zL[8ag0.dhUJezmbfN(o[wv*7_POGuH`7dnZ5EY=4m5bb];*cYRlBV7GvFCrS;zm;M6+sd.J5V4yteiMGK,T[l?26XhA@yfb>or9B"
def xS:aw.Fn:=⟨1,[.t 2],gD [] [qo 19 (.bin .mul (.c (.int .i64 (aY 10000))) (.t 18))] ".;uqCY6^[C<r7pH+J^.Yj>RdRM5Vsz[U),OKQ7f@k*Z,y+j9jDhqisrB7U>jc3)]Hx<,=oFrep[E2.1F?7YBs]7]"⟩
def En:aw.Fn:=⟨2,[.v 4 true 4,.t 5,.t 6],gD [] [qo 3 (.GD (.t 1))] "IKzQ>33(z=.=1hWg1[o3,[jXewfj.4?=ML07_Zkc2ATYU*]l8l](8NFJMmThg3]sw@7tLYT8f+UCWToo,.xjN`w[=a_DZ0vRSkB7,*Oq:NT5kr48s+]m6xZDwGeLe6wY+z<"⟩
attribute [local irreducible] zd xp vq vo xr vp rR vh vk oP tD uZ tw wF nW xl kX tB nV vl xo xm kZ pv
def JG:aw.Fn:=⟨4,[.v 8 true 20,.t 9],gD [xp,zd] [qO 92 (.WY true 20 (.t 4)),⟨none,none,false,.Je 10 [(2,1),(3,1)] 6 10 (.t 31)⟩] "<Eg9EQObMvo,b5]>B_<sNUfZoQH8S7bcPlnNH,`E2ML+Tw_j@6n[Y2S)Az5oYKAc+aNYILLdV(H.J9e(gLcjedFnoJguQ`EG3^j+3r82X3QnqVatA2.h+<S>KlX):u]1w_^(`XwP;S_c)eLW_i,3aeX2,,2ja+)K=:3G)j8kk;vxmIo`[@1:sT*wEG<FTxeB(6tY2=MpKQZ+;(sdaz:LfH4ZutGY(67=6HReJd[]b1]*;GlEdZcnlrl8`c_vy"⟩
def Hz:aw.Fn:=⟨2,[.v 4 true 20,.t 5],gD [vq] [] "KG5cQn094k^3F;hWcf3L*(S9A:tc,DOwfgYp9bJYoWz[kW><^rk7V*0mw[i+0ZqkQ`6(iLsCNH,:Fq0ZKtn(ASJu9ur3McLH]gxvKUwVl?aJBL^*Hr^6R?RCI?z+z>WH_2`==cx5iSez*1nUO5,dv2m_a^C<zIGYumT9Xhrnwq^Z@7x0PcbOi?_^xbxD()tM5J0M,JW6KYEi"⟩
def Hw:aw.Fn:=⟨3,[.v 6 true 20,.t 7],gD [vo] [] "19>E(rUDbiC0Qx^S9^BOSYQ+DT^8zH.;Ub@mc4b)t3MKllZ?w5=J_]z`^_Ka[cMiHd)AtWoN>;RRciz(JOAN0CRbD49vW[oTGgU[Tk;qU@2ZNXPa>4)09^_,VH`f+znUQ]9_;lcpdVrRj3pMGv]8,PTV08Mb4xY0l9pQmNNSyp]Fys7i1lDStaL@l),;<Q<2<:wg,W@YcgK73G.[RNKPWjxlVkBzV@N*`c*mB;(JEZv.JM^Lwat7P4EMuyK_=@yD^_]zrvSBk>.M.0"⟩
def HA:aw.Fn:=⟨2,[.v 4 true 20,.t 5],gD [xr] [] "OpvmAGUSruNvK6Z(ISQ=O9mj74woqKa?c?vIK)FLNKw^wdo0CHds=D=6xsdnC<qoXR=:fvUSHT;fWrOfE>XLonX@nQXVjvVKI+3n;JI`K_@KDF>N7X<P1,kMvbTMMMP<rFXvq6X*IKA=x2rt)tlBeB;G1H,SN9^:?H"⟩
def Hx:aw.Fn:=⟨2,[.v 4 true 20,.t 5],gD [vp] [] "7I(i),smZn^xLXaO40L9bY)lGHK_=A0LYbOpt2?hIUotMtX<qfEXxiV<qz9ph@5U3`A@ps(XZYRtI,FW?z5jP@cq,DkTe7f3inDyEWYDNdMRz_TP^E<MQZfJ1DvE4EVQDDuDDLBcgBj>kA^6nhi*hq+pRkIJKC3@hV3.62u4T*g7*)4x>H@II;Ad@(G3JbOI<sXv:AxWdl`WnF9=sPdi9leuCJ`SyF[9^W>gXDL+t<wgLdMLCHgi(om;?X*DFV1Y6S.NIB@sG`L5*,h9[PE40jUY+]sMWuXpi(c[b^g9Fn1codNZsx(:;l.oG;_XJaMtGm.UsOqpI+s:qr?^?jGqB^XY]8mvEi"⟩
def rS:aw.cb:=gD [rR] [] "0;Rlt4`vBapIQhuexvL=<H?1dirzoySbLE?k2xmZM.ZxGmr<zL[Ot9^PyxzZtOo13l?^NWleY,<=r+HBJicNSDy.W43s1xv+1bSFaLD^5LLrq?<_ju_)UOYcVj2nTFF6nzDxN9_Mk*6KmAxP0>^X7ABoHFYuEOhOeXfmY[=7r*4:IB,,dV"
def Gj:aw.Fn:=⟨3,[.t 6,.t 7],gD [vh] [] ":4+I`oBlZ6*TwZr1XM=VOJKHC@P::Kl(zRy;fR;J4j@"⟩
def Gk:aw.Fn:=⟨1,[.t 2],gD [vk] [] "k97.`C>S5g>U1=+xZ>iMT;oLn45e"⟩
def Cf:aw.Fn:=⟨1,[.v 2 true 4,.t 3,.t 4],gD [oP] [qk 66 .rem 63 65,qO 17 (.mp (.get none (.agg [.bool false,.int .i64 (aY 0),.int .i64 (aY 0),.pc]) true) [.t 13,.t 16]),qo 13 (.call true (.c (.fn 126 [] [])) [])] ")Lz`lmtL3g><Zi0_H<C^;JAzE>,*7Nz6bAA.x;X5teHyn1[aL1=GzS^Ko)ROp.UqvGbO66nZ^>dQOV)p6P6*sKVA1HhO^QDBOQZly;Of[qKI,lz<N8UyABTvi0kLCbEDFbe9DK<,q3kk0J4WLBtPjyqXeO>hujKpqjh0WSLcG^3en0=tJvcfZrNZX]So<,NR<:0,5KwlSB@kS;vC[M<V^yWC`6XQUZ<Vv]TFMl0u"⟩
def Gs:aw.Fn:=⟨1,[.t 2,.t 3],gD [tD] [qb 3 true] "4g<*WpO;H.iIw;.QpA^F?qBl*+GZxYgY1j?p^[L,k88B2@B31:k+kimaMQiG2gkF)N1w@,7k=ZbCTlch[Udfiv<40NrR+_p_:_zjshGD??IF5MYGTeX=]qWrO6exc]Zq*);S_OzUL=V8rfQLQr*sknvpo^)bTEYk8^2TCgKhhnFsd]AlVK^*af*i"⟩
def F5:aw.Fn:=⟨1,[.t 2],gD [uZ,.cK [1000000]] [] "kYp)CN7H+E@Th4aeq7MvqQ[Y[6aOaM2jhDMnJqheV`]je"⟩
def tx:aw.cb:=gD [tw] [] ")Z2nWxfeoW((8@D,[fih,5YWuT9XJI6HKvpC<b(frJVQyzgybF?0SfS40m`;n<J=1US6eO9p`C9+KZWz,Q(1xK[i;GLd1]e+CBmMeNkCSffg*D<U5:wjU*E5K59kVaVAEiO`3_E@_kfEPIUTC5s"
def AB:aw.Fn:=⟨4,[.t 8],gD [wF] [qx 6 2] ")MQGLxrBc(p58PvS=c6yp:C8.o11B(4HljAXuB:7J.J74ziEOJRhl5WdUXbQq`d@;98y_jPIAlWfeTkloCGz;ChbeVQUe(3?f1srX.)p@q(G9j@>r>=)V>QZknUZmO`qX4BOxAZ]wIm"⟩
def zb:aw.Fn:=⟨1,[.t 2],gD [nW] [] "RvtPQjj4b[rFeaUQJ?iNBmbkjo_f;]1=jV]oWHAbtFca>hVAOpUv=Vu;@,6>Ey2;D"⟩
def Hp:aw.Fn:=⟨2,[.t 4],gD [xl] [] "3rg3vjfqtw4B29GS8H:dDA9Ihr8OhX@AcMdyznqZ6q8l2t:bdiIplgL"⟩
def kY:aw.cb:=gD [kX] [] "TyVe3,Hm50AVQ:)k9X>gtMl:nl<m<5n.5+F6p<(T8NfYYj0Sum_u4TmO918,p,LSVaqi3oY77srhqY5I*8[ysKg>"
def Et:aw.Fn:=⟨5,[.v 10 true 20],gD [tB] [] "=QUhmmOy)8bv7wbs?EhHNnZz2dqu(68XIGqeyMR3]C:Z@qCq_EtAtz)L)pS7FwwoNg12[Gp?.w2"⟩
def za:aw.Fn:=⟨2,[.t 4],gD [nV] [] "E6]pNzYk1@4Ii>he;[P1w^P,ZoSdiV^(sPGJzYR`BFweFOA*^@fD"⟩
def Gn:aw.Fn:=⟨2,[.t 4],gD [vl] [] "*fPy_RHK]f6h099Hj1lsHmO6,6txhx^K5)JVq[,JN2e,k61Iok7x9tJ]"⟩
def Hv:aw.Fn:=⟨1,[.t 2],gD [xo] [] "+sW,3R4Yu.xH8ID(@CcAqYv[EZ52Q6T"⟩
def Hq:aw.Fn:=⟨3,[.v 6 true 2,.t 7],gD [xm] [⟨none,none,false,.Je 8 [(0,1),(1,1)] 2 8 (.t 17)⟩] "+da0hYUXMAn(.@B<cj9]P2b3+2Z(@RIR?:0n;yE?77SfWv1QDNubmLkRko8aMAs,*JrlfvHO@8"⟩
def uK:aw.Fn:=⟨3,[.t 6],gD [kZ] [] "R<NU]2TGeLXZLP^FY4c(ay83C.nTY,AnT+Zz^Mh.e8Zm.RCL"⟩
def Gi:aw.Fn:=⟨1,[.t 2],gD [pv] [] "_@dU?EMY2P<qGStSNrpiV:hs1rc.fXXL::fT=w`5hptv=:g@g0k7?dVBVV[8`4"⟩
attribute [local irreducible] rS tx kY
def Ey:aw.Fn:=⟨3,[.t 6,.t 7,.t 8],gD [rS] [] "+P)NF0^i9>=*7PTz7)s`[PLZ)h1QT`XTSdBHz0^Dst<mn`C]bH?+(p7^trvv)_nWNX1zI;+CkC.<]`StiRzVR6@YO4Xn?DqKwM(N2r<bvPC(2::^@VF57(4[=+XRHDRpONExE_O>SVtBozC<DpL>q3?mP1=j8R1M_fUWS_.u+,.yroWnxj[HFj8+QL<jti[GknK(*FMWYb.tj;[_u?Q.lGHXcBB;fGTo8wOp(CaIe"⟩
def Gc:aw.Fn:=⟨1,[.t 2],gD [tx] [] "0iySTZVbhc0AOp)LlZ]vEV::*LLG(fUA>RLX,haS2M<K8XvV4XtsKIiYjvXn5k,Ma^lVfooI:yb*xS_:wEi_J6IgW5(TTrWM(Tte*XbPpXjP78X+CcEv)xArZ]JQP,Ho*dqxqwrVdGQ+nL[1:oV,cwW?Ou"⟩
def uJ:aw.Fn:=⟨2,[.t 4],gD [kY] [] "8WjAM+r.JhRdx(..nn6JfbX(a=9;pK4,pGi;]?<Kou"⟩
def tF1:List (Nat×sS×aw.Fn):=[A4 [] 66 JG [] [8,10] [8,10] [(3013,[(2,1),(3,1)]),(7018,[(0,1),(1,1)]),(7020,[(0,1)])] [] [(16,[13]),(8,[10])] [4,21,24,27,33,40,48,95,98] [] [],A4 [0,1,2,3,4,5,6,7,8,9,10,11,13,14,15,12,16,17] 67 Hz [] [2,4,10,31] [2,4,10] [] [] [(9,[7])] [] [] [],A4 [0,1,2,3,4,5,6,7,8,9,10,11,13,14,12,15,16] 68 Hw [] [6,8,12] [6,8,12] [] [] [(16,[10])] [] [] [],A4 [] 69 HA [] [2,4,6,44] [2,4,6] [(3005,[(1,2)]),(7015,[(0,2)])] [] [(8,[6])] [] [] [],A3 [0,1,2,3,4,5,6,7,8,10,11,12,13,14,15,16,17,18,19,9,20,21,22,23] 70 Hx [] [2,4,7,9,11,12,13,179] [2,4,7,9,11,12,13] [] [],A0 71 nH,A0 72 Aw,A3 [] 76 Ey [] [10,15] [10,15] [] [],A0 77 Gj,A0 82 Gk,A0 83 Ax,A4 [0,3,2,5,6,4,1,7] 84 uF [] [0,2] [2] [] [] [] [] [] [(2,some 1)],A4 [] 85 Cf [] [2,4] [2] [] [2000] [] [14] [] [(3,some 1),(6,some 3),(11,some 2),(14,some 18)],A2 [] 86 Cg [] [22],A1 [0,1,2,3,4,5,6,7,8,9,11,12,10,13,14,15,16] 87 Gs ,A0 88 F6,A4 [0,1,2,4,5,6,7,8,3,9] 89 F5 [] [4] [4] [] [] [(0,[1000000])] [] [] [],A4 [0,1,2,3,4,6,7,8,9,10,12,13,11,5,14] 90 Gc [] [4] [4] [] [] [(0,[0])] [] [] [],A0 91 AD,A1 [0,1,2,3,4,6,7,5,8] 92 AB ,A1 [0,1,2,4,5,3,6] 93 zb ,A4 [0,1,2,3,4,6,7,5,8] 94 Hp [] [] [] [] [] [(0,[0])] [] [] [],A1 [0,1,2,3,4,6,7,8,9,10,12,13,11,5,14] 95 uJ ,A0 96 JA,A3 [0,1,2,3,5,4,6,7,8] 97 Et [] [5,10,14,17] [5,10] [] [],A0 98 Hy,A4 [0,1,2,3,4,6,7,5,8] 99 za [] [] [] [] [] [(0,[0])] [] [] [],A2 [0,1,2,3,4,6,5,7,8,9] 100 Gn [] [6],A2 [0,1,2,3,5,4,6,7] 101 Hv [] [3],A4 [0,1,2,3,5,6,7,4,8,9] 102 Hq [] [6,8,16] [6,8] [(1006,[(0,1),(1,1)]),(8011,[(0,1),(1,1)]),(8013,[(0,1)])] [] [(0,[0])] [] [] [],A0 103 Lm,A4 [0,1,2,3,4,6,7,8,9,10,5,11] 104 uK [] [8] [8] [] [] [(0,[0])] [] [] [],A4 [] 105 Gb [] [9] [9] [] [] [(0,[0])] [] [] [],A3 [0,1,2,4,5,6,3,7] 106 Gi [] [4] [4] [] [],A0 107 xS,A3 [] 108 En [] [3,4] [3,4] [] []]
theorem kF1:(tF1.map λp=>chk p)=tF1.map λp=>some p.2.2:=by kernel_rfl
def F4:aw.Fn:=⟨2,[.v 4 true 10],gC "cYd?vMv`+:zfdC^WHv@1h;h`j,)*Fq]ceGR2E99k`1weGZXNH,cWCr3xdIy04Mb1q=8LH<sFH.Vv6Hxl?vhkFwLbA5NKMi(dDQ.RBgFwt[A(ab>,)@v=:x)ij)EE;b5NC[0[Z7a<midEvEvcse0+J(Dwl.RtZ:@4v2RH6JyXsT^1m[m[b)bH2A7@<::,^oE<6S2(@k+gL:3Yt4M`CCF[V+s`VS>SZjzeFZK:@^:^`@^lBMkyV]8`eEaEcOkqp6`(?ujcZDh.9w4sv2C91ex`8L(4Dg=Wwd2QmL,hIQ@4ft5[^Xo3t3)eage3ETUvae;f_3gZV+GrrKC)W0i9p,<8gaL<c3B*Mhh15eT?vvw0nyBYBqTConEO87aMY_iF0AmuIx9YrP^_s"⟩
def nK:aw.cb:=gC ",ImhMjFO4_e[2c]59i=l.U_z@0j57+G+bs>)JEXSXdDXZ.a,hv1HeBU0z)Y("
def lS:aw.Fn:=⟨2,[.t 4],gC "5IUd@uJJ3smTgO>^b3,1M8oljH"⟩
def yd:aw.Fn:=⟨1,[.t 2],gC "3C`.`jciT,ZCv.j=Ele4@_YutM9D]>.fv18pRUi=]2UZ*)p`ge*wg+E6*KWH6ZOEad+>xgYn=G7bT24ZoCON@JWCFD)FmWq5>vxhK<LxuXQS+m"⟩
def lh:aw.Fn:=⟨2,[.t 4],gC "5IUd@uJJ3smkTs.@U_;5Jr[:aX"⟩
def wL:aw.Fn:=⟨1,[.t 2],gC "xS1.(YL<e)^ukUYOZ,9_bAK8fCDB4Y43g9yF,`WK4l_;vb@sE7<v.Dha51rD*"⟩
def DV:aw.Fn:=⟨3,[.t 6],gC "*2=75EjWG>lzVWOsYA5@2n_kP[*?dEe"⟩
def wN:aw.Fn:=⟨2,[.t 4],gC ")85.d*zv8qEOJ9Xny2aEB6d(8t)oc]Kw>jBXmk?SJYG*1zhFP98x9d6e`gS6QFcg.KS5)wH2@Lm`yW+e:IV?iVg7gs:ixmAlv9FXQq_FdDRdDQ>Sm`hSXOf:N.ao,AAD8Amf<"⟩
def gn:aw.Fn:=⟨2,[.t 4],gC "25KS:geM2mB<)q9Nxdb5i"⟩
def lT:aw.Fn:=⟨2,[.t 4],gC "5IUd@uJJ3sn7X5kjR[>[86A.Ci"⟩
def vi:aw.cb:=gC ")pwXlw^_9HY0Bk)h[n9?51FUPbA+.4AYDW?ho5[]MxS=E>X^9l*XvbbOU]5ZH.O9LXk4bF1FsdxhT4?iZXQ=KEt?TzbaH<.qkTDeohV@gm3(WafGD"
def jV:aw.cb:=gD [] [qO 50 (.W3 1 (.t 47) (some (.t 48)) (some (.t 49)) none),qo 43 (.W3 1 (.t 38) (some (.t 40)) (some (.t 42)) none),qn 42 .sub 41 (aY 2),qk 24 .or 17 23,qO 17 (.bin .shl (.t 16) (.c (.int .u64 (aY 8))))] "9N,PK],Mk76iW[ICGla[Rt9fy?O=ajVqCV1hfAPdDtPWo5xJsV>wfaWxnQ1w6L,1SX=u6knInYB,7m5;on4>AyNJ[0OxW]YH4TcOvz4UC)p[*yb1p[o)@zDP*7j7v,cA]7Ewy3tM4zWJRPcf:YTOBd^nrkY+WEOiDecj:U266xflF?YRo6+sj=446"
def ni:aw.cb:=gC "p:oU_mjb[SQ5Y`<d+adnSXrfC0y9X3kC>yxJ,[hEcv5a4C<FJ)fT_*4Hi.O?Hk+LKzV<(Y)pD"
def DO:aw.Fn:=⟨0,[.t 0],gD [] [qo 0 (.mv (.c .undef))] ")PUGLJquL)T2H_RiGEYb=Cnuq;,m9v<wQ=:ffm*v:e1J`=rM2m(;vEjtkKvQi<A??ocC^ZmmC8SqYH*E>VHa9`MQX8W0eG[([Vpm6Cq4*l.hRb?[ls5)iaFTTh7EIVW,*4@lxk@6ko6ep=Np)tr=kz_i,0vl?v1;MY>=7M_.r4Z<A^]WdppYuW0_=ufSLG)k^qMgW).tt;+4zVK[4;+_HKcNLB:nl4a,<kJ5abPnne<;2VwC?i)l+D`[M++aOzjnPZPMjJ8;`nj41^<SMIXvNFNEX+@QWsSJDbF@>H6ETD]+s2Fe=5?(8g3B*ZZsF,c],gKOgRGycAa.doCg"⟩
def F0:aw.Fn:=⟨2,[],gD [] [qo 8 (.Zq 200 (.t 7))] "5CG@(ou1?HKUnpNW(<_wC`Y^"⟩
def Ce:aw.Fn:=⟨1,[.t 2],gD [] [qo 20 (.call false (.c (.fn 36 [] [])) [.t 19,.c (.int .i64 (Al 999999999)),.c (.int .i64 (aY 999999999))])] "8J0;eW+e.Zn.E6KTVycn<nRIPF.8n<dXKTFo5]=JqJUJMRXx*Nt_G]^ttKE*FgjT@=Lp`0:R([uT"⟩
def uY:aw.cb:=gD [] [qn 18 .rem 17 (aY 65521)] ",a_J1qx_vg:NmH>ot*>0r.uDHw)(:3z0t6T]6Qb(SGBHXBQS^VRz?l=k"
def Ln:aw.Fn:=⟨3,[.t 6],gC "In]:5mZAM[p2yeaAst=hdaX(l.Q1h8u"⟩
def Hm:aw.Fn:=⟨1,[.t 2],gC "4t_Om[*vAZX(8)3=CF[rE?bXyz1m"⟩
def JE:aw.Fn:=⟨2,[.t 4],gC "*a_f5azQd)oTG@k@Ezl.;2z8ha[U;Iv:z6BFn972z>;W1yaC6ZWDTW?80bqNQmEhIXM@*_I=1lYYDS)W1x0=IQL"⟩
def Lp:aw.Fn:=⟨3,[.t 6],gC "In]:5mZAM[p2yeaAst=hdaX(l.Q1h8u"⟩
def JF:aw.Fn:=⟨1,[.t 2],gC "GcXb9HUvmD+5KA9Pr36wOE*0yka`dX;Af;<ak:p_)`xc.yvy;`r`4"⟩
def na:aw.cb:=gC ".pUcqQeH[))e9?Hdyv>3v2`<.*=@^z4HQrK<W4tkS5,DCG)>Er2ksWAU<c9.Sl[S>RFy8k"
def Gf:aw.Fn:=⟨4,[.t 8],gC "0?pgtOgxz9uCMNy?xmWsL4EJFO?XtgDK30J29>mJdoj(*"⟩
def wE:aw.Fn:=⟨2,[.t 4],gC "_1@TE21.lM:,5U>CJY_VkBt3Ce`tPwAQJrYA7jSc^*J4s7Ax@LbV,.W6>:pf((HHx(jCkL]wt*pGT^aBNe.qne"⟩
def u0:aw.cb:=gC "4=uwiUYoRdWS3I]H0B=Jxe;45EL@YJvHzCxt:8Sr_Ii6V9k]tq99MAv6y`*,8H;DOBYlbUEpui]_,0mer]]]ls?DRCtB"
def vb:aw.cb:=gC "*5bmb;AsRD@qdbTU:HCz0kAjhyz6.RGKZ5t_:<_E]uLMz[7)]yT]W:vwjG5tRkMm:HUF;z=(]CIFCO>qez1N6Y)21Wf+??iD+Yzjo4ly9kG24"
def vd:aw.cb:=gD [] [⟨none,none,true,.st [] 3 (.t 120) (.t 113)⟩,qN 101 .quo 100 (aY 1000),qN 89 .quo 88 (aY 8)] "7]pB`6Tilh,eLlDz6rM[y=tyit;hj:GdkhlbXJ?e+)g:0L>Bz^9bTIf0qNBU[b26l+r1u4rP`1@eSaXhrY>PvG5ElNydlgSqr9FEKfKGBeB<@efbY,=)0Z)(c8JpOiGOB.LA0hc4(N]XCvLhj>q=._ZU;M_OOk=9n?E)xheex?^yxIqjXlM@;YP7HJ?CF(8HrbDbU[?.di(S(ZE;3gJQsxXwF`xrCe*Vn:C02f3QszOJF)vEW6SJcmUDq9*oOmoS(s6u(Ciyk0TQ:3Cb@W`^EwS.q]J[1,UpJdRpA^Xne1QTyX:GS1JP+Mfe"
def vf:aw.cb:=gD [] [qN 153 .quo 152 (aY 8)] ")J`5vY_b^v+y7xLPz4[IQmW<`HNK7(),KaG)>5q)=r?Y:N6H_NE<dpr.pqoc5QqyoA*,nwu?2N8>e?py6aTBNQI`Ohx.jU,W,AhIn,<aP7XFsHYJ6)6E`Jm.FiEK4T4[sEt9Z?Dn<fdvLBJ30z+ng`dg=LbchHrSN)S3b*=aoY7Q,,be^TB0,^3zlnZ`eOg.R[Tj^On8WCTGqwgI]`,R_h^XYD;Uybj++S1TrcWAv0?Qg*[@op?1Q_8(S4hB]"
def va:aw.cb:=gC ")b3b@6GYK+8Joc?N8.ng*m*z0@yY>yY(hkhvLbh8qiXyl+bG0^W3pTY5zyLeyZA46Litm]S26Nh_rytg6fT:Zw?)Bu:k76<RewM<,m5xe0"
def pQ:aw.cb:=gC "0zpT(s.__+4.*j^?4i]reij7gb;Y7M,(giL.]RK0<E89hJIcjM0M*"
def vg:aw.cb:=gC ")osY8W7K3Shady=1ksX5VDo3YcD`^^k8MBlYyfCleGU):(@J(bns6`0CUAb<GTsiYYM_tok3ScNjq@V4k_fUbQ.1R4"
def gk:aw.Fn:=⟨2,[.t 4],gC "25KS:geM2mDRC5JP:Vxji"⟩
def kl:aw.Fn:=⟨2,[.t 3],gC "M`F=XtFz7mr6tRtE)x3)B?m]"⟩
def HE:aw.Fn:=⟨2,[.t 4],gC "*a_f5azQd)oTG@oFh:t_oG+3[F.VZpi3Ssp5L*.;llrGk.PcFtxjYM[hxVJfqvvH]HG7FfSL,0_Tq.d73WT@y;*"⟩
def fR:aw.Fn:=⟨2,[.t 4],gC "25KS:geM2mDWSkXa=HrXy"⟩
def jW:aw.Fn:=⟨2,[.t 3],gC "fMY.y9ZCA,mtNYR^ccSu4`m"⟩
def tJ:aw.Fn:=⟨1,[.t 2],gC "1vc1RsQ0qM`7g=vox:vlmVI:X=@nRUi@0e?tLH<"⟩
def wM:aw.Fn:=⟨1,[.t 2],gC ",8IahfwBQzGs9t`3<l+ix6K7>on>0LLEgkN4<^@f4[_LAm"⟩
def kT:aw.cb:=gC ".(:vrd.H=3y`osK*evkU)B`@83dlbmm*uB=?7((hHA,VE@fA>EQkkf;e6M=RZ"
def km:aw.Fn:=⟨2,[.t 3],gC ",Wl6hIxW)hta_q.X0JGY;w<"⟩
def Eo:aw.Fn:=⟨2,[.t 4],gC "R3D=576ZnjrYJZ[S8C=>JCN?bOAkMh;gJApg=[OYylR)szljgL1P"⟩
def wy:aw.Fn:=⟨3,[],gC "5zV(Mre7`BsNLdXI,hq8s]rs^615K[afogGUwK)H@BoW(,q(9fLnfO3*wB4<_aAuj*xBiWF]VqA*.,:NCPRPmnXT<fDtJ90^hV4Q(WKv^4M;g2fBsxmQ8ocur"⟩
def mz:aw.cb:=gC "*3c3Ej?BpjzV+CW5J48s_tV`]U[@gJROww3^hD7u:3Bhq45rv6G5eQY*6>uh]IWF,eJtn86>4AJ,CvhmnI0fj;?dyuh3^lvrSi"
def yY:aw.Fn:=⟨3,[],gC ",;YKFRX3n8NalImu:YNn?74jWpTrodZRVv<bv),eA8r6lsz*L[eCA^iskWgTVEMLUm.J03YBw9qDw4+*,pHdAcx7ba;Ts>aWJGd3baA8ByxHTFfIMFp0pniD]I,Zm;cYqT.ywk@U7Z2,mDUo38g88J=Hz>ED))XtQ>DdW0Q"⟩
def xP:aw.Fn:=⟨3,[],gC "<mX`+_wq8Tnwt.Pld8xb,vdyfBB@EZ[VdoAOawe]j;wO;3@P>c=GCC=7quyT>whf,1xM81vfmbX>Tv1aG3u3LYiBH]Ej,=SfxSLf6j?jTYhx8h1zlzJ]@O=ACC.`6a0S.+;oG3DH0?^2X.ww1_=CCLX3d"⟩
def wA:aw.Fn:=⟨3,[],gD [] [⟨none,none,true,.st [(0,4),(10,4)] 1 (.t 75) (.t 65)⟩,qO 69 (.WX false 1 (.t 68)),qO 65 (.VP [] 4 56 (.t 61) (.t 64)),qx 4 1] ".^MOXi)S`Lb]_PRSPEN1s.;zz:RMOh9X>wuxZt<b[VJ,.59NAj.3(KIfb6uI]H[r0^zU6en4ij..Dr,<XkG2sLIW[es]Ih.@5l9N=pZDWnwrwv.ALLHMS=<+OoD)u1JLl:+1fhl`Ct@lY2Fx,cUYig4peW]hQ3wkTk^hQo)NZY.)QS<dGgm6F+IDM_^G34ABTZhW_G5=,ici(IYiypekHwTvd]GuUNXhg^uXbxeU:VHO"⟩
def m7:aw.cb:=gD [] [⟨none,none,false,.st [(0,1),(1,1)] 1 (.t 45) (.t 44)⟩] "20pUJ5=pN1^[hIJ5jscudbhfgKS?ESuqsTcgxcqMU)kl=jnf61Mjn8[?=_z*a5l,(Dr4Wc1Mq]37j=g_vG9EOF;VpuRtRaZ4[f("
def xL:aw.Fn:=⟨3,[],gC "8X3=JLmV<Q2JS0fMyhspEbR4eR?n?(4e_;3pXi4v7Ew0G,o7nk4dvWo>bqu:ONt9m>ll_C2(0dJ=WUHN11oEfEpfr*0J7a_@JBhZ0SjMV+DC>>>uG5BLr0eeeEHgrrcmKY@y:paRN*+rKHjb5UKtl*@.O?3oyhIbl2]C4j4*`aicb?85M[1WzUzsCwW3eZv?+=hjB11l8jMX.I`ZI>2ui)))QJD1H1v7Qig*u9L:9Pm*2fZL]aYnj[[O"⟩
def xI:aw.Fn:=⟨3,[],gD [] [qo 19 (.me (.s2a 3 1) [.t 18]),qo 10 (.me (.s2a 3 1) [.t 9])] "*4kffeTL^RV13Mt2j3r_wv>j,BXPcsO`4ZRQO+NSj3qbldtGMKp`;.T.^A`qkZXhu]3"⟩
def mu:aw.cb:=gC "n?XLlBIgj7c2:6Z5v.;J3CV92>8sCmeC=3BwlX?n,N2d_:o@n3.zfsCIO_)IWMCMWZZ+Ly9G)sawmICCh:JJ[if^r_boB8T`:]"
def mA:aw.cb:=gC ";FT5G0IBKMW<ZKqC=65@my0>6G:at?f1QKtRv9P68Y+HHEzInFyJipdSOY:3Tf2g1rff8r;t5=uV8pup5v1_IX[46<z(k(_zJa"
def mB:aw.cb:=gC ",0[0Y@ZkG`?cQIb[RVW1?,OkIgJ+5FdbUHdGU]4rR1bpCHEtCp,tZt=9@2A3gxzU1ooPbBN`d+9sZl;t*z7`VFjceUnexT4u@u8mCwHQVUolBfrzX;y"
attribute [local irreducible] nK vi jV ni uY na u0 vb vd vf va pQ vg kT mz m7 mu mA mB
def pK:aw.Fn:=⟨2,[.t 4],gD [nK] [] "Om[L<xnD`PUb_qRied47[UR2m"⟩
def vj:aw.cb:=gD [vi] [] "9SJ1hXL*uB>)e([AxdZ4L)1.B61+Qyen*ssqi,Zz+a5?I+*i^.6YQUfSzYLGTfp+7hW+czAf:ckwOImjKDU=@6Mvy`PV[?*;Ab7t+YO5[R]0*rJ2_N4sSP>5hsC98eVX)F`lbbfn,H66VYNq=W9EpB,"
def xQ:aw.Fn:=⟨2,[],gD [jV] [] ")4B_;lt0E7HK?"⟩
def xY:aw.Fn:=⟨2,[.t 4],gD [ni] [] ")3ju1cxeH9wm=s9JJPotMjWBpE<_lCNUkdglC+@;tDCYE0*"⟩
def F2:aw.Fn:=⟨1,[.t 2],gD [uY] [qo 7 (.me .s2b [.t 6])] ",)k;A:(zSIa[Ki8fkpPyq*[RLC6ecBGVxRe]"⟩
def y9:aw.Fn:=⟨2,[.t 4],gD [na] [] "^o^Gu83i*D2vs*pLJqaAB=kw7_ltUchu@gg?QJVK+eQ?n1fgrikpE1o6o?R(Ur`)sihX6h)9fSZWc]B4"⟩
def F7:aw.Fn:=⟨5,[.t 10],gD [u0] [] "Opn+I2sa[_K,mRJ)QGpoGsPAtqRzkPlEG:Eay"⟩
def Gd:aw.Fn:=⟨2,[.t 4],gD [vb] [] "*DzG6:,R(gc*odAr6[usZAzN7g,Vnq]m4"⟩
def ve:aw.cb:=gD [vd] [] "+?za8<,eg;R`[Tv9hnYPx(S7I5eb?35?lma0bNkHud8kN9(OvEQK(kAs:rGA9]jq60j:wB,APGM@3CCTQ6]QOx+yex?cqR"
def Ga:aw.Fn:=⟨4,[.t 8],gD [va] [] "7Byx2]gEKX9s?c8TH.A`s,al?gtPU<IC?Hc:6Kpx>uM(UNZMe*c0TIL.*dB6u_jSz<;EcgSti@KB,0Na;JtbOPMVcM*?d:wC9fE.P8IY>2UgcD"⟩
def Ci:aw.Fn:=⟨1,[.t 2],gD [pQ] [] "*YHU*=+.0PSR(BXB@xPhGVk`hevu]"⟩
def Gh:aw.Fn:=⟨2,[.t 4],gD [vg] [] ".Pple.pYDtNBAc.[*XThovdaaD9V?4"⟩
def iP:aw.Fn:=⟨2,[.t 4],gD [kT] [] "Om[L<xnD`PUb_qRied47[UR2m"⟩
def wC:aw.Fn:=⟨3,[],gD [mz] [] "*rUG3N@*rb=Q[+ytgA^Sg8c[3C+ysDA<A]7aci.ZMzLkY.1v0Ii*M?fNKo97lT7PTF0Pa:9oLw`jv="⟩
def yZ:aw.Fn:=⟨3,[],gD [.cK [1000006],m7] [⟨none,none,false,.st [(2,1),(3,1)] 6 (.t 6) (.t 28)⟩] ">E1NaNZvC1=sV;raVxnq8)WivYI7hbCzY0ZWjuMeYC,nY)T`Ca`ga2L7LI8mtk>V3u@PQEe8X7H)5lq]._1oLnXyWpLIpJ_Rg,Ch`>8BAhSr]q]sZ2VYAacahQteT:*XSRmdAFBK?dgBFX<(`(@WF=gUJLmihD.tjNu7xAf1PT"⟩
def wB:aw.Fn:=⟨3,[],gD [.cK [6,1000006],mu] [] "FN6n?[5sDJx6,Y;,Yy]E@j+8=?e8SmsOEj8?ik`(A]6o6vZfYV_z6gxtLGZP:`X)GZ1jeqM,d1_b@59LO[;O3QWn1*M+)VaMolt3hKsV<qWnzOlEmB>opO38;XDG2z7RI6EQdU)kyDFR76(v<,5l@JG"⟩
def xN:aw.Fn:=⟨3,[],gD [mB,mA] [] "1sj]2z>E5i6N:76gDobsS?kb=UHJKui`cwSJBEncFuC2?M;a3sV1THOYdkLwEVaB<ZEkFB_H112lnmUBYoWjNmOxcwGFp<pOAb8I.XtK6cQ(Maq<<gB7gy*1csT=NOsXkn3SmGHN1lH,,56SJ:0G?su2H*=DuhDhVBpXaaibRR>d1];O3iH6@BA2G?5O@E>EcA"⟩
attribute [local irreducible] vj ve
def Ht:aw.Fn:=⟨4,[.t 8],gD [vj] [] "1nioXIK0nVQ2fBS6U3EZBT)=fnFryWAB7aXUN_RJZ]t[>Md?`yScTvm"⟩
def Hr:aw.Fn:=⟨4,[.t 8,.t 9,.t 10],gD [vf,ve] [] "+TQ@K)vf@Yi+6lckxp.?(C,<7ad=`iCtrCq4=6`7MwJoYBrwxBJcCH1Dh?<x7E9@S4yH0c:ld(?N`:9A^X1StmA@sdy:QTd2X"⟩
def tF2:List (Nat×sS×aw.Fn):=[A3 [] 109 F4 [] [4,7] [4,7] [] [],A0 110 pK,A0 114 lS,A0 115 yd,A0 116 lh,A0 117 wL,A0 118 DV,A3 [] 119 wN [] [5] [5] [] [],A0 120 gn,A0 121 lT,A1 [0,1,2,3,5,6,7,8,10,9,11,12,4,13,14,15,16] 122 Ht ,A0 123 xQ,A0 124 xY,A0 126 DO,A4 [] 127 F0 [] [] [] [] [] [] [] [] [(1,some 3)],A4 [] 128 Ce [] [] [] [] [] [] [] [] [(2,some 12)],A0 129 F2,A0 130 Ln,A0 131 Hm,A0 132 JE,A0 133 Lp,A0 134 JF,A1 [0,1,2,3,4,5,6,8,9,7,10] 135 y9 ,A0 136 Gf,A0 137 wE,A0 138 F7,A2 [0,1,2,3,5,4,6,7] 139 Gd [] [5],A4 [0,1,2,3,4,6,7,9,10,11,8,12,5,13,14,15,17,18,19,20,21,22,16,23,24] 140 Hr [] [15,16,19,21] [15,19] [] [] [(24,[11])] [] [] [],A1 [0,1,2,3,4,6,5,7,8] 141 Ga ,A0 142 Ci,A1 [0,1,2,3,5,6,4,7,8] 143 Gh ,A0 149 gk,A0 150 kl,A0 151 HE,A0 152 fR,A0 153 jW,A0 154 tJ,A0 155 wM,A0 156 iP,A0 157 km,A0 158 Eo,A4 [] 160 wy [] [0,6] [6] [] [] [] [] [] [(0,some 8),(2,some 8)],A4 [] 161 wC [] [0,6] [] [] [] [(5,[6])] [] [] [(0,some 8),(5,some 2)],A4 [] 162 yY [] [0,6] [6] [] [] [] [] [] [(0,some 25),(3,some 2)],A4 [] 163 xP [] [0,6] [6] [] [2002] [(3,[6])] [29,32,35] [] [(0,some 13),(3,some 2)],A4 [] 164 wA [] [0,6] [6] [(7021,[(0,4),(10,4)]),(7024,[(0,4)])] [3007014] [] [4] [(7010,some [])] [(1,some 13),(2,some 8),(3,some 7),(6,some 1)],A4 [] 165 yZ [] [6] [] [(2013,[(2,1),(3,1)]),(7006,[(0,1),(1,1)]),(8006,[(0,1)])] [] [(10,[1000006])] [] [] [(1,some 7),(10,some 9)],A4 [] 166 xL [] [0,6] [6] [(5012,[(0,10)])] [] [] [] [] [(0,some 7),(1,some 4),(4,some 1)],A4 [] 167 xI [] [0] [] [] [] [] [] [] [(1,some 1)],A4 [] 168 wB [] [0,6] [6] [(1008,[(1,4)]),(4019,[(0,4)]),(7012,[(0,2)])] [] [(5,[6,1000006])] [] [] [(0,some 7),(6,some 1)],A4 [] 169 xN [] [0,8,13,14] [13,14] [] [14005] [(15,[11])] [] [] [(1,some 3),(2,some 7),(3,some 10),(9,some 2),(19,some 1)]]
theorem kF2:(tF2.map λp=>chk p)=tF2.map λp=>some p.2.2:=by kernel_rfl
def xK:aw.Fn:=⟨3,[],gD [] [qx 5 2] "?9]>7XqG2U?1KQ3W`R_mT3zCb17XrtkWgwaqnG7am*wwo<ZT>,8gT^g6KOr^ez.XFDC*rplW3WHDUrL4BNJjTf6gePKxls;4FOwDWjc)zyiRws7nkc8>z:uT0C4KX:MTbIoe?69*sx,4F_ZmF6mO]]4cqoI.6o1+m<2s9Xq`B,M9IsPCIXif7et;VE^@q:OCtk+_r0K,e)Fn7`J?VLFnXOW*`ck0WAKjQ)lg*Rx*R)`zHr>a(s7Fz;1YSny@MBtUc1+gSm"⟩
def m8:aw.cb:=gC "jVQW9*d,v@Ndbu@L]QcirChKYAw3R@7V)a_x4RPCAdISWhY@iRs?(:KF44QXGt5]N?dI5;uu4Ru(L"
def mw:aw.cb:=gD [] [qn 163 .add 88 (aY 1)] "0.uh5;SL0LGGnqLXTnM@cvAzLUzX1c*2D,vcjauA.xfvo`:_W=PVId:4V)vLTp^e(1mDyb_C1YE.Q@vRmAKV)r_T3,Vms2Tjr:7nH[VaLA>ET?c>Tn1,oMi`C4gfP;_9jcc3F+WNf93o>=]Ff8og0AszsT5vn6:;HVou]]=4Wf(qbiO1ml86TRI0emWdYTz2m_yw,pd?G7F3c2XvZ]];ihD)m=p,;Q^@;KP;87EQB]XMUmSFx_5HtXw^uS*.?tV?eAsfIN@<GJagdie>e1+fEgP)b)N9ayY9I(o7uuz5WrXrNPEJ+Kpc67Wtw83prS]X2E9L]Z<K`.1:p9@0yuRXeJCqE3a;msp4Hf2MIe"
def xj:aw.cb:=gD [] [qo 14 (.bin .geq (.t 13) (.c (.int .u8 (aY 97))))] ">kne80dVWaj>b7WVv,k.Q72ka:pvbChSWq^Jb=nEweAleKU)juV`PXbIepvDN*l8@)Z<f+ZhI*H:(@DC@g6;S>8igg1fx+]7=*fE@CIP=>p:t,=Dp8c9VgQ)d?EbC+op10woHS]0]?r=B"
def xk:aw.cb:=gD [] [qO 57 (.pick (.t 46) (.t 56) (.c (.bool false))),qK 56 .leq 50 55,qN 45 .gtr 44 (aY 0)] "D6bkK_9OZfsCl*^^Ntf8^jU[.r*Re`lxF_5*jrjefKTkuHW6q[;l[y>X>t0W5]7JHqN`MCEAVAsd,57OqHDkGjmiq8n<Vp<WeWfnWQSsIOM6S3E_t14Osi1_ifhfLMVMR0.F22k@g3RpEodHPuwMeH2"
def Hk:aw.Fn:=⟨1,[.t 2],gC ")rRFuR,NZAEg7cK?,5v+>2k7h77tEhSh?4m3NiSC<>5;`sPT"⟩
def Hs:aw.Fn:=⟨2,[.v 4 true 3],gC "3Du]q21@v*>v.I6rEYGg_X)oIRPh:h;.XEhA_@B(3gAf89^IGEgtsY,"⟩
def JB:aw.Fn:=⟨3,[.v 6 true 3],gC "+*ZeTPpyQxatP,i,DcCG(9H0W3F+mleLx^G2=UK[g7nksY:,^Xk2qoDy0i@7L0N("⟩
def F9:aw.Fn:=⟨2,[.t 4],gC ".82:^_v7:.i:>=AfWZAjmfj6Z=P=iq[8"⟩
def Em:aw.Fn:=⟨3,[.t 6],gD [] [qK 34 .rem 32 33,qK 29 .rem 27 28,qK 23 .rem 21 22,qK 20 .rem 18 19] ";_+J>BDQ+__.3I3lPJ.Qk=:t4=8UNc.Z^9DH9b_iqZTJyFJ]P?]GqJ5;n^aZ;ha1r*]Pb^y]XZHlQWt7WU+dtFsx7@bN?fjK,KnStFR)<4bT;BTzX<=nibIFarHTJ[mdBoRRD"⟩
def JD:aw.Fn:=⟨2,[.v 4 true 3],gC "dqO:;4l:mMny,0L7cVjENdeY`@fDbK:1+Xj,y`(*6MzQ^L^pONGc*hc_"⟩
def Gg:aw.Fn:=⟨2,[.v 4 true 3],gC "3Du]q21@v*>v.I6rEYCdhvcXR8[xP<]toq0qUi^I05z)*Z=r<K1RbB_"⟩
def F8:aw.Fn:=⟨2,[.v 4 true 3],gC ")5iq?:u9qLnaJq77`rjzzIKXAjh.3f9qXjN^N*+`FRQia`OtAH("⟩
def vc:aw.cb:=gC ",<T>4a4Izc61<6P)Zw+clBOHzlAJa<lyMH=cJBce7D3N@y^yY=Sry1t,=DoZTUZF"
def Ho:aw.Fn:=⟨2,[.t 4],gD [] [qk 11 .rem 9 10] "voajq>5ox_@U`lTL)4dBZS[+kz+Q,8vz4v3Hw[dZ*UoE`*JNU`Ca<B)1m"⟩
def kS:aw.cb:=gC "8+jYFWaiRs9Ox(NM:JHlfzR6zD_tginPIHgUvT;Zwm)FjNmlwnMIV`8.D7>=gxfk"
def kj:aw.cb:=gC "Q)_9zG3vp7p_3Nl`EjAIT:IVy5n(MS<oE3:rpOeDaHdUDHHKIg`xGBN2^@ElY("
def vt:aw.Fn:=⟨2,[.t 4],gC "5IUd@uJJ3stSixDAaAWc+,s.B8"⟩
def tK:aw.Fn:=⟨1,[.t 2],gC ",CfCFLD=qrFKFtMTtD"⟩
def Ep:aw.Fn:=⟨3,[.t 6],gC ")UqteC8+8rw:lJY^]f2V9:)v,?Gtd2B`sX,blrn;5KUh(tt,91HyNsp[p?Dy4Dym8LpWYW_IUP;oZLcu10e"⟩
def yU:aw.Fn:=⟨1,[.t 2],gC "7_fh,jOk05pHZxm1,^D"⟩
def Ei:aw.Fn:=⟨1,[],gC "*QMeoU)gQmCKJ@vBx"⟩
def zt:aw.Fn:=⟨1,[.t 2],gC "IUu8CdoppPSl*<wxr5DE7(H77]"⟩
def DT:aw.Fn:=⟨1,[.t 2],gC "F2d9`_IJY_=E_Ce[bP8F[`PIG?P1tmpBb<"⟩
def rm:aw.Fn:=⟨1,[.t 2],gC "6SGm=cQ=i(l=`yi^XctdMx+aqPY6z98"⟩
def j8:aw.Fn:=⟨2,[.t 4],gC "1bG(>VHJX5YdF8z:OooX"⟩
def tu:aw.Fn:=⟨2,[.t 3],gC "2ljOH`*QmV]3A17u>yoq@`sWD"⟩
def HB:aw.Fn:=⟨2,[.t 4,.t 5],gC "*prQm2yMxA`:Qi]M+7TlhzlyL*7MaHxGvfvd]`5jX0ASYlfu02cOBGv`bHS6x.ZLjAfSl`55uGvDOEa"⟩
def uz:aw.Fn:=⟨2,[.t 4],gC ",V<JiEj7fC2?)Ugj37.H1FP>QZ=Db>siym0:^A3r)WAve"⟩
def kW:aw.cb:=gC "6W0_J4NrP6iAvT^YSHa@QBI5PWNO9Hhj.`;PlSh(Ci:<9lhZb>r+ggoBOMaCXDM^Gv@Qx4)VFmLJc5`Jrfie5?Vg<MyjfGmRDU;+HpuLicah]_]xs.iU8uPz84r]cK9ixdG.WNdy174kQT6@,*Zf(Os)L=@UtA+9@INR=NYvxKLa,b=p9CSkWR(Ar_>t?`n3.?YJ*xyu_UoMH8"
def wz:aw.Fn:=⟨3,[.t 4],gC "*c^Bz]j`gi8nRVdyU2_nAz(Ptq9Ss?R@x`(MpD(?eT7ub(Sbs2n[=WJ_Am"⟩
def Jx:aw.Fn:=⟨3,[.t 6,.t 7],gC "?I6UBocebA=lNiTUl<)sSEI)TrUb4<M@hY?O<lpkVbour46XZgspv:VleQibrTe8gy_m4kUtC1Ge;PY^qL*Gq)5kZ]9Tvwz[Q70rJm@"⟩
def yc:aw.cb:=gD [] [qt 1 85 84] "*53[cz1F:BwhXk,uPgqbEz^>qzc;KvuKJVDYpdlVPYmjftvU<Z`kQC9L]NyWutw1lJ<YGe2RFEmtgA`OswydD53N25aUkVixv=cNdx>]y[.l.yPt=Ozqc=6V=NUhohW2nA*l+_"
def xJ:aw.Fn:=⟨1,[.t 2],gC ")Kn+[0iYHg],9(d5[tU>b0=GdJ;WDnq"⟩
def wJ:aw.Fn:=⟨1,[.t 2],gC "6SGBDaKZ8Qd^4VZ_I*8z,Bj`p6i*Yoi"⟩
def tE:aw.cb:=gC "*98SjqoF7TeS;h[*ErzXDkk*`k)U[>"
def kf:aw.cb:=gC "@ZoiS<UbZ(aBMiq?:>NM0sMc_rHS<)==3Cy2JsQ<7:_hz4i1z*G4C_,e)BR,X<)^qMt=4R,u)E(UpH)?5r+:^;jJMe)>n*.5P(;CWY5f]d??pJAn(_"
def rP:aw.cb:=gC "NjE>ZkZ2V@6,vM2<nmJ+H63;;`;arCB8b,mSx97;zWn<sEvv>P4B4[IWxN6*;fMvObOo]Z7FWVa=)KO=sM^,7w:`axP[.Z8V<8QvH<cbJqMh3l5.w+y9e77QJrCQ]bDyJTl,QgBBiPwiP@D?+<UG_8C]jW.?0g8:?VsbL*F[X(dweyfDm=4cAitB37>dka"
def uG:aw.Fn:=⟨4,[.t 5],gC "+_5@1Z1AdxaSw(w;6Mb+=Gz*6qj]AC9guIfmk^Kfu^J=tOm8O^WU?;juk_UmHS2m3M51qu31<r=RGARAr@<`)VbHW2RbZb(gaWII1W])O5x`TEYv6_KLzSKhzzLnIhHDihfPiz4ra6;<z9T0ls;iQ86I7BhSBsHAFQKH*esB,W8eGXYC]scj5>XAWI[y"⟩
def Az:aw.Fn:=⟨1,[.t 2],gC "?OWjPp.@bPq>u6M*1Q9>tsj5a>^W]"⟩
def Gv:aw.Fn:=⟨3,[.v 6 true 10,.t 7],gC ")e5MGX]Q3^;w3LBYfjjff=i9??l;O3O;.oGBULLw0^:z+m+h;ETzChHlVa0*MK7VM_tdI.d.aS8GEAk*cQ1v)LKJ8xi+=:2C52w8]raFh`d,0UzpdTIJCkuLS:A35Mq:JbPh1o7oy88Ia).P"⟩
def Ek:aw.Fn:=⟨2,[.v 4 true 4,.t 5,.t 6],gD [] [qo 3 (.GD (.t 1))] ",ZYj)>YcozCDhBMiyxrq3sjn7IPJA)[Pdj=Ey(N+d9Zd.B3nsaKbXVQZXB(oIu,c5PK=)];2^adf]TZK>XzA3*IXIftmM4aV94KKkpb0w,v+YScy0]13t0apP`p>J,xL?yQw<70xdTHJY0p(D.ed;+<+@Izl5,]WmEK_s+bdqUsepQvCK3J;eQ*W7elZDAjCL"⟩
def Ej:aw.Fn:=⟨1,[.v 2 true 2],gC "NeYWtBzAa;FjU(PG4z4TQ+Y*Y)2bERg"⟩
def JC:aw.Fn:=⟨1,[.t 2],gC "+:nWfpNcsg:jgYam@sO@5ws+cjOXh6pgd@d*+UX>?;JF20)sD"⟩
def lg:aw.Fn:=⟨2,[.t 4],gC "25KS:geM2mInI^wt24ZX8"⟩
def rT:aw.Fn:=⟨2,[.t 3],gC ")1QfstkGltAt[3k=Z>@_<"⟩
def xG:aw.Fn:=⟨1,[.t 2],gC ")_3a35ODFqnJEX1H[dhM*BE.kfxQ<"⟩
def mF:aw.cb:=gC ")zBZ=6h4fAl>Y^yg]ph9sBEmViDt.u=<ZB4g,,]>HsMEOJiuz>JafPCvx<9P0=zb(Lngv=GD:Qtl;e=7.Sv9gaC,).Vi2Zm3t4GRk<>iqAG(sK]1eTLbdC2qo*u6]2v6twVaeWa,fPaPAIndbNEz8MV6.@A3t*=xGo"
def Cm:aw.Fn:=⟨1,[.t 2],gC "*?]<MF4f85KTENQFeZGwtEmKA?:YC8WSig7mWF?[).Q<mCCCLtsP7`Q5mXz:*L^R0XT230PvW+mrsuS@l`b0zo`.Rs)By,tgAWflgn(x6WHUW,XViRNt,n.h]vMA)J+u<[zXjo6qM(+G),0]lqzL4ZDKJ.:nBv?aB7raW*]F^l;y@IFv5HhzE3]"⟩
def Lr:aw.Fn:=⟨2,[.v 4 true 11,.t 5],gC ":LA[9XJbnlV45nlrQYD[qV:(VFyzPmj932Y6_K4NXFb`Xo_?*T,2m>dm_3(T9niKEfogGKIfJZx<z3t)9x,Y;=5L9B]D(l@w=y"⟩
def nf:aw.cb:=gC "p_dgB.=;Lb2OE7sSqnV6kkdo8lEB=>3]6[+uUIfkRs:HSj<,Rl:H3cj_PbNhk+nFXN2doAJSMwbcA_VC1VxF]xCJ"
def uW:aw.cb:=gD [] [qo 13 (.call false (.t 12) [])] ",?L@_djn_+YO.>ub2P)=HzJaoqjs8KJwehXbs`aJPw;;@t>L5Rn7hqU1Go:9ga"
def sF:aw.Fn:=⟨2,[.t 2],gC "`QPs;TtE;hcs;F[YW.F0"⟩
def tn:aw.Fn:=⟨2,[.t 4],gC "9Q3iM,8^^6Ej_P0X8,NXl]@;PP1xFK>db1:DOU7T"⟩
def FW:aw.Fn:=⟨2,[.t 2],gC "gnt>5vlKw6ptPl9k8g7yP"⟩
def xF:aw.Fn:=⟨2,[.t 4],gC "*DAu96Ra:,YZ80poa.=AcY:*YFm3u]w=?x8Hj_mXi_+974Lo=AZtl[=mGqLVYiQtRvySh;,iq_n<Xp5+Nc8FB=`vrWuY1+RKpjR_bU4qle"⟩
def FX:aw.Fn:=⟨2,[.t 2],gC "gnt>5vlKwD2RY6iCI7Zsq"⟩
def uB:aw.Fn:=⟨2,[.t 4],gC "5S@Tp]4bKPZz)*x+mQL]JQi_k9Iw^=RP?>?xkF3HQbau*P6:ey?Ts3HYAVYzzaEmoioPA8,VxE+v.kBepBzn1@CFGaEpaBTa*9tos4"⟩
def wv:aw.Fn:=⟨2,[.t 4],gC ".^t@u;6Cu,+8`b;fu_ZrF+_ADXZVAi,B;B+wM4)rPBp6EyybX"⟩
def AP:aw.Fn:=⟨1,[.t 2],gC ",CfCFLD=qrFADl9mou"⟩
def zu:aw.Fn:=⟨2,[.t 4],gC "5IUd@uJJ3t(=+*YBkuu>`<8tti"⟩
def AQ:aw.Fn:=⟨1,[.t 2],gC "0kE?4)rTeXXA:`WD"⟩
attribute [local irreducible] m8 mw xj xk vc kS kj kW yc tE kf rP mF nf uW
def xO:aw.Fn:=⟨3,[],gD [.cK [6,1000006],m8] [] "*?5`Ix_G@mgy8G,2Al>VVI_ymMzVVGM(e9x34E:>`FAOIR]W)KYVVgqYSq[2sqOy*d=UT@)Qu7Gd6BVmjBn:6sNawM(lQ]x>+e0:z+8wKJ,O`6js+2aAPdIJ."⟩
def xM:aw.Fn:=⟨3,[],gD [mw] [] "WEqGYJafld[bquI5r5U0JS@t>4Q4wx:lypuNIWU1,xHyH;fhe2D)O,Jx*7Hzi:Pw87JDT0^psh,(`=fDIrM;+r?oxrt>L3M_YiOb((i9^Ey?fqko?x>Ij9EMuT8630ojJ(?X=K]awtxdTf<L[dHwt6[0aM_Q@CSHpOJt29rla,<Mx;A*2tf9tr8zFVT6G[8O)_nb)GH:)BqmYQLv[O>3rK6;n`,,F2CVIbw`kTalwPv3MXMr7sM_uBo_ABu5=pGnx4vGb1DZg9QCYHlaXMKH9u+ixUMnw,eF4EzaNk[h3bn0wuAykN5q[UE2A`L0b)hslc[_U8tgntAZz@i^(FM6L7]iSUUt"⟩
def Hl:aw.Fn:=⟨1,[.t 2],gD [xj] [] "*XEVec_mAq][[jpEyozxTWN<_(K+6tTuOuT4*zT8KK<"⟩
def Hn:aw.Fn:=⟨4,[.t 8],gD [xk] [] "21Z0;cTzdEKJS<31hlXGkq+6POpnOI?.Ls^OWwl@kdjj:W0?q^DEKMso;O030MXvNAjRLBPytROBRk][p5jJ:]Im"⟩
def Ge:aw.Fn:=⟨2,[.t 4],gD [vc] [] "*4LlE[RPrcVMzHzyzFI0WMDCoxK^[shKRsw4.+L"⟩
def iO:aw.Fn:=⟨2,[.t 4],gD [kS] [] "Om[L<xnD`PUb_qRied47[UR2m"⟩
def gY:aw.Fn:=⟨2,[.t 4],gD [kj] [] "Om[L<xnD`PUb_qRied47[UR2m"⟩
def uH:aw.Fn:=⟨3,[],gD [kW] [qx 4 1] "0rRRE*9)ewJ2i@TlVB0VCJuB3L6)xoDd"⟩
def DU:aw.Fn:=⟨4,[.t 8,.t 9],gD [yc] [qo 10 (.mv (.c (.fn 245 [] []))),qx 6 2] ")D@5RM=F?S+w>8^^Bmk+ACtcy:4LkvzyFq3@nRad?>);eUK*<iZ@?sT`kRKg,mm]?WaJs`6ZEG*LL>]?Fa`5h@W>Fg1h=2(KnkF([UFnUlPfak6(gf^QDn:OJ+H`O:lh`PI].ue:785^jU?+EE3:VbRphahUly?CPdMFRH.5O.rMMwx3f]3m`9P<wInQt,HTRxaL_3=6>LkalG62L_0x?AZ)CU32E8[WvFmEKzjU9gX)AS]>^dEFr+ILR[.iq89YRD9Bzl_X"⟩
def AI:aw.Fn:=⟨3,[.v 6 true 2,.c 7 false 1],gD [.VY (.c (.fn 251 [] [])) [.t 7] tE] [qS 6 2 6 22] "4pJtYVJf)5[`=7`dOHFL+?c0SOlH<RZiUC_k4Yym=3zk@zOsq33UE?yH(L@VOffgCG,>v>bYxGb7m4p^MEvM4O@o5wq[l@g>Ca3X,KHj^"⟩
def rQ:aw.cb:=gD [rP] [] "JJ:bU)PblAdO[3u*WThbKDBYsxJy9eSC.J;FXcXh=a1ek15Q2[M+oq6`;:>0dW0Mgq`.iZBe.ZBoWor76+g(<Put2lrfy]eoL,:^1uB7En,Nvki3G*Bi]Ma,vWIu"
def ya:aw.Fn:=⟨1,[.t 2],gD [mF] [] "*R>0<pq)rpW,J)CJxKlnat2.h.98dJ,<1]@tQ5BoFno0u)ZM?P7Lxz3+=D^yU?v)u0R(OS8C4"⟩
def xU:aw.Fn:=⟨1,[.t 2],gD [nf] [] ");]azfAdH9gv,pT=CSu.Pi4nF<4Wyp;eAX((G8e"⟩
def FY:aw.Fn:=⟨1,[.t 2],gD [uW] [] "7S@Qs2qg:ZT9+BJgn`iuBE]"⟩
attribute [local irreducible] rQ
def nc:aw.cb:=gD [rQ] [] "2[MTn8AcNjuf(KNla4iLZ^O<(xcFfC=58==yG>pw6B.h[AS1O^eVoaETQFeLH9(iAfbo"
attribute [local irreducible] nc
def tF:aw.Fn:=⟨4,[.t 8,.t 9,.c 10 false 1],gD [.VY (.c (.fn 251 [] [])) [.t 10] nc,kf,.cK [0,1000002]] [] "EsO0RgwLZhRvHsW,S<u=a^VuMgkEdw+*Bmy3M6Az3lHHZT,zrlPz];HB:YI>ni1LlHqDn<]3kR1Y4@x*.R4rcV;U,c+]M_[caJ9_.L=:m]xmfY=SU,JpZN:E"⟩
def Qg:sS:=⟨[(7,[6,7]),(6,[2,6,7,8]),(5,[6,7]),(4,[2,6,7,8,21]),(3,[2,6,7,8]),(2,[2,3,6,7,8,16]),(1,[2,3,6,7,8]),(0,[2,3,4,6,7])],[],[],[6,7,8],[6,8],[],[],[(0,[0])],[],[],[(7,some 2)]⟩
def K0:sS:=⟨[(30,[8,9,10]),(29,[3,4,8,9,10,15,51,52,53]),(28,[3,4,8,9,10,15,51,52,53]),(27,[3,4,8,9,10,15,16,51,52,53,99]),(26,[3,4,8,9,10,15,16,17,18,51,52,53,60,61,62]),(25,[3,4,8,9,10,15,16,17,18,51,52,53,60,61,62]),(24,[3,4,8,9,10,15,16,17,18,19,21,51,52,53,60,61,62]),(23,[3,4,8,9,10,15,16,17,18,19,21,51,52,53,60,61,62,86]),(22,[3,4,8,9,10,15,16,17,18,19,21,51,52,53,60,61,62]),(21,[3,4,8,9,10,15,16,17,18,19,20,51,52,53,60,61,62]),(20,[3,4,8,9,10,15,16,17,18,51,52,53,60,61,62,63]),(19,[3,4,8,9,10,15,16,17,18,51,52,53,60,61,62]),(18,[3,4,8,9,10,15,16,17,18,51,52,53]),(17,[3,4,8,9,10,15,16,17,51,52,53]),(16,[3,4,8,9,10,15,51,52,53,54]),(15,[3,4,8,9,10,15,51,52,53]),(14,[1,3,4,8,9,10,15]),(13,[1,2,3,4,8,9,10]),(12,[1,2,3,4,8,9,10,32,33,34]),(11,[8,9,10]),(10,[1,2,3,4,8,9,10,14,32,33,34,44]),(9,[1,2,3,4,8,9,10,14,32,33,34]),(8,[1,2,3,4,8,9,10,13,32,33,34]),(7,[1,2,3,4,8,9,10,32,33,34,35]),(6,[1,2,3,4,8,9,10,32,33,34]),(5,[8,9,10]),(4,[1,2,3,4,8,9,10,31]),(3,[8,9,10]),(2,[1,2,3,4,8,9,10,11,27]),(1,[1,2,3,4,8,9,10,11]),(0,[1,2,3,4,8,9,10])],[(4,[3,4,8,9,10,15,16,17,18,51,52,53,60,61,62]),(2,[3,4,8,9,10,15,51,52,53]),(0,[1,2,3,4,8,9,10,32,33,34])],[0],[8,9,10,13,17,20],[13,17,20],[],[],[(0,[0,1000002])],[],[],[(14,some 3)]⟩
def tF3:List (Nat×sS×aw.Fn):=[A4 [] 170 xK [] [7] [] [] [] [] [] [] [(2,some 3),(3,some 4),(6,some 1)],A4 [] 171 xO [] [0,6] [6] [(1005,[(1,2)]),(5012,[(0,2)]),(7012,[(0,2)])] [] [(6,[6,1000006]),(6,[6])] [] [] [(0,some 7),(6,some 2)],A4 [] 172 xM [] [0,11,13,14,16,17,18,20] [13,14,16,17,18,20] [(18029,[(0,6)])] [] [(17,[11])] [] [] [(1,some 12),(3,some 37),(9,some 1),(12,some 1),(14,some 1)],A1 [0,1,2,4,5,6,3,7] 174 Hl ,A1 [0,1,2,3,4,6,7,5,8] 175 Hn ,A0 176 Hk,A3 [] 177 Hs [] [4] [4] [] [],A3 [] 178 JB [] [6] [6] [] [],A0 179 F9,A0 180 Em,A3 [] 181 JD [] [4] [4] [] [],A3 [] 182 Gg [] [4] [4] [] [],A3 [] 183 F8 [] [4] [4] [] [],A1 [0,1,2,4,5,3,6] 184 Ge ,A0 185 Ho,A0 191 iO,A0 192 gY,A0 193 vt,A0 194 tK,A0 195 Ep,A0 199 yU,A4 [] 200 Ei [] [] [] [] [] [] [] [] [(0,some 3)],A0 201 zt,A4 [] 202 DT [] [] [] [] [] [(0,[0])] [] [] [],A2 [] 203 rm [] [2,5],A0 204 j8,A0 205 tu,A4 [] 206 HB [] [6] [6] [] [] [(0,[0])] [] [] [],A0 207 uz,A3 [] 208 uH [] [7] [7] [] [],A0 209 wz,A0 210 Jx,A0 211 DU,A0 212 xJ,A2 [] 213 wJ [] [2,5],(214,Qg,AI),(215,K0,tF),A0 216 uG,A0 217 Az,A3 [] 218 Gv [] [6] [6] [] [],A3 [] 219 Ek [] [3,4] [3,4] [] [],A3 [] 220 Ej [] [2] [2] [] [],A0 223 JC,A0 226 lg,A0 227 rT,A0 232 xG,A3 [] 233 ya [] [4,5] [4,5] [] [],A2 [] 234 Cm [] [3],A3 [] 235 Lr [] [4,6] [4,6] [] [],A2 [] 236 xU [] [2],A0 237 FY,A0 238 sF,A0 239 tn,A0 240 FW,A0 241 xF,A0 242 FX,A0 243 uB,A0 244 wv,A0 245 AP,A0 246 zu,A0 247 AQ]
theorem kF3:(tF3.map λp=>chk p)=tF3.map λp=>some p.2.2:=by kernel_rfl
def gj:aw.cb:=gC "9Hep_)3,rbO2f=xv`ZgNnMi2Y1,uf@[`r4;Mqe05]zYzfc`xy`:bm5B:DAApreliYeLkXR[pY^bmhN"
def uE:aw.Fn:=⟨1,[.t 2],gC ")_EBv.tQ>oN:^LD^e"⟩
def pS:aw.cb:=gC "8sMXdjdWRVCw_y*X:XRmgE4BZ*s7033jAP*+A5ukVaQcsk@AR:*8t`VsofanzBU*@Kedg:*c:T"
def Gt:aw.Fn:=⟨1,[],gD [] [qo 3 (.CV [] []),qo 8 (.tas 428 (some (.agg [])) (.t 5)),qo 5 .RX] "2bzKI]oi:]xpI@<]ko`No`)vx_Qz]Ek2C@r,@(9D[cpLwq6i4P@VF(=liF1pGctjPY"⟩
def nY:aw.cb:=gD [] [⟨none,none,false,.Je 4 [(0,1),(1,1)] 1 47 (.t 41)⟩,qo 36 (.Zq 428 (.t 35)),qo 35 (.Mp [] [])] "C.ej:4E`,t.mf(:*5O*0P@x)^O<],uowpEyqoR<Z61o7Va8w?l6EK;P`Xh]f`Hgwbx*HDOB@[[vuUvr6BOl]SHU`K^[vJ.`4<]ygJ;tCHh.x<4ZHGH`BUVN69I+UH;Ghcq+>QSMP+Gs]S0u>sUuMqSwrU=jl+sfG0k8iG("
def HC:aw.Fn:=⟨3,[.t 6],gC "*@cHhpHL4(Tdvkg66xl*6U8a0;JK_,;4+`+vCB+>1W,fLXu51qkkNNp,Xa<ewXAYBKe=ef,7Ff;8[M[C`XxI?+oZo]31GA.2K]C<6DWtGT,x(f?a@?2No_CXZ,hPfM[hUBQm"⟩
def zg:aw.Fn:=⟨3,[.t 6],gD [] [qO 7 (.mv (.c (.int .i64 (aY 1)))),qn 33 .gtr 32 (aY 10000000000),qn 18 .lss 17 (Al 10000000000)] ".(T>f@rB.,]68[930dbpE,s_6Y,ixiS`VL4zd85c1aFZ]q1,S?wklT0@8EkFq2e[m?om+E4iByh<@29>QE,6gQbujDxp>8m3`pW5<P9ttET(WyfbTso=,UM]POHU_pKZry1Nmc48KnFv;?4K>RFYTm9C90sQYQEdljMhu<4DMzyYjfv4UpeWdcJjy8]"⟩
def zr:aw.cb:=gC ",<oz`OKN2y=w);ZyDc:R3H;GGa<]SrZ(6UwS?GXLWL`9Od_atPnkXiw3]C5hrp6uh1):dD0XHo<>)JTR80@gP"
def AJ:aw.Fn:=⟨2,[.t 4],gD [] [qo 14 (.mn (.c (.int .i64 (aY 0))) (.t 13))] "Qzj:+0x>WWjJfB2SI.@gsMmuE]nTyF]AJ_L"⟩
def xX:aw.Fn:=⟨3,[.t 6],gD [] [qO 23 (.OF false 5 1 (.t 20) (.t 22)),qC 20 308 []] "*v_xh8wuz.=F5)l8DJNcuIBmZj[@,?qUMyNVL?+5x[+dQZbCqcU6<4ZM,cvi1,ce@1G:b]NV<Cz5YCwz[,ZIvBzsXrmD"⟩
def y8:aw.Fn:=⟨1,[.t 2],gC "PaF[5[OPjp(dOXECc7E?,mc0ouFKw;cA[mc1]Pu4pV;E3mzSrKoxM0hLlj[cC79APIi0>y"⟩
def AO:aw.Fn:=⟨2,[.t 4],gC "7iwhv)aMATw(F)9m84>SbpHlU<dT"⟩
def wK:aw.Fn:=⟨1,[.t 2],gD [] [qo 19 (.bin .mul (.c (.int .i64 (aY 10000))) (.t 18))] "0Vn;3>XB?33>dAyzSVx^l9i8erzP0:<[6f(S0bMQp3FfPjqC`b;;AcZa<IwMDe7msx:=wzu4i1]7.6Tsi;i5KrliY@_*"⟩
def Cr:aw.Fn:=⟨2,[.v 4 true 5],gC ")9_QNEP45db@YfU2aYdSLFRK2*Uc"⟩
def Cs:aw.Fn:=⟨2,[.v 4 true 10],gC ";4<mEXMuMrCoJ1wFZx)?Dsg]chk]t;d+f5rQrjV*ilL+xVs72.N_Ey@w*U(bil*xMbb[vG**25U^,;DtRSSLO;><O?G0kSO7GSQx(PpxL@_]vNV,uywhMK=pW0b6nhsbX[7n1Jw*GumO_@v`.*VpP+OnTj.OgnvMjra4iZS6eT](_fmGH]Wa2foSP5RS,gFx6?g]7p)OE0mVPBeWgAaZ_LNAj;1:?E72<<qKAwdhdHvnCgj1M)^mz(_Mr3mgpF+:jAZl[0Jm^b@e(`T[dCUVz43RMwp9]]q[z8R"⟩
def F3:aw.Fn:=⟨1,[.t 2],gC "0)vmV[eHf>1O<`^vKUim+Oe"⟩
def lR:aw.cb:=gC ");bcE@*:vQPUMG4dsIx>OD_n,0:enDtv?EWM.z:`e.omk4Kf@*[*"
def iw:aw.cb:=gC "L.jWr]:r_IZkg=rJG@"
def ix:aw.cb:=gC ")73UeGmRV8f<MzK<uaz@ZC"
def pU:aw.cb:=gC "*T^geEztN<QE.?_TI@;ZJxDtxEdYQd61qWknyRsM@alRp=k_8"
def pT:aw.cb:=gC "*T^geEztN<QE.?_TI@;ZJxDtxEdYQfgEN3`.;>._XjC<>_cDX"
def pJ:aw.cb:=gC ",ImhMjFO4_e[2c]59i=l.U_z@0j57+G+bs>)JEXSXdDXZ.a,hv1HeBU0z)Y("
def xH:aw.Fn:=⟨1,[.t 2],gC "6VeXj)aNkREBQ?RZdk0<=?(3PQCT[uz`>P6c2kXwY2F@5_(>_Fr1Okg,Wf8z*n[nfZcVK3U`L2?E?gz[u36]e@?h8e"⟩
def Ex:aw.Fn:=⟨3,[.t 6],gC "*2=75EjWG>lzVWOsYA5@2n_kP[*?dEe"⟩
def uN:aw.Fn:=⟨2,[.t 4],gC "5IUd@uJJ3t*<gr8^1VjA3h,KiX"⟩
def AN:aw.Fn:=⟨1,[.t 2],gC "+_M,8*1e.*945go7)LhcrLLzY=_f^H:J+[cKjH)@_=giGqB;meuj@MwBg_CD2ms?XfG(51<4fTRaGj<pnCq7;Snq3[rBewX]R0,B<LcIFWVpnm"⟩
def Gu:aw.Fn:=⟨3,[.t 6],gC "*2=75EjWG>lzVWOsYA5@2n_kP[*?dEe"⟩
def DS:aw.Fn:=⟨1,[.t 2],gC "2Y)e^<RtsH;MNZNwyi2lK8MgmX9gzJSQya"⟩
def wG:aw.Fn:=⟨2,[.t 4],gC "5IUd@uJJ3t*K@S,I`><_Ls<)+H"⟩
def zh:aw.Fn:=⟨2,[.t 3],gC ",gAZdBeis)i2r_LMK,`RF^r;u7>dZedWUg]P)9hC,idxJ5*7^3KfBMEk3BcE.k:Pv4`tpE?`d;7dDfEdcYza[e^Dx`OMl6zUyO.flS*+X"⟩
def iy:aw.cb:=gD [] [qo 21 (.OF true 4 2 (.t 17) (.t 18))] "C,FG^?*4gmxo9;HeonOeN9B)AYto[Xmc,@TG^Aq`H[H6t1(^EOwny7lpx8y)qrxCr)@UEj[*pzcyAA_6gcaZf2i_"
def zm:aw.Fn:=⟨2,[.t 4],gC "9(Dpl]=8o;SvC<yF4rEX`k+*0,B,We"⟩
def zq:aw.Fn:=⟨2,[.t 4],gC "9(Dpl]=8o;SvC<yF4rYaP9uc7mU*Ju"⟩
def iN:aw.cb:=gC "<zIF`o,XA_B7I>Sb*b1f9JxvgIG9ZP_bgu;<j3nloi8bkF1xJeBg?Dw]j,rxbfNUqE;Vc+z1Nk)[oe.Q:^o6q(rp+hj7twY09<FuJafqFxuqaNk_wi8MRo(<cU`+;JT"
def re:aw.Fn:=⟨2,[.t 3,.t 4],gC "3zwPa)egmvp@0Yh.Uz=:[UWO4YUAEKm"⟩
def uX:aw.cb:=gD [] [qo 13 (.bin .geq (.t 12) (.c (.int .u8 (aY 97))))] "+9xb8Hf:EbxJ2x*N^V8;>Wqn:rf8;Br2O;ckkYZG[I3JTkav)6D9Tm0LdCA2(JGcd<<puGM23lj@bz0(v3LBD`UJ<6^j*1FEBmi0mzuqxccgIjvtPsb^S=L6*Y>ou?7?Tbu2,I=;F?O(3q_T2"
def wk:aw.Fn:=⟨1,[.t 2],gC "4t_Om[*vAZX(8)3=CF[rE?bXyz1m"⟩
def DL:aw.Fn:=⟨2,[.t 4],gC "5IUd@uJJ3t*iCgjsAhs5wA82s8"⟩
def uC:aw.Fn:=⟨1,[.t 2],gC ",CfCFLD=r7wYu`^C4u"⟩
def Ef:aw.Fn:=⟨3,[.t 6],gC "*2=75EjWG>lzVWOsYA5@2n_kP[*?dEe"⟩
def m6:aw.cb:=gC ".0eKjwb(mfSR10LvykL8APG0e;<dEY:=xhCZBEvflguTxXS+..cZ@m<O>B>bDF6ykeIkO.E8*n;n,uKt.Www6FPV^e]MrThLcS,EtBGSLz7CKumR5>OEV<fj;Y@BZ"
def yW:aw.Fn:=⟨1,[.t 2],gD [] [qn 16 .leq 15 (aY 10000000000),qo 5 (.bin .leq (.c (.int .i64 (Al 10000000000))) (.t 4))] "_oTj.k.PF)tGJhHt_UU,bCi7E7i<URpVaV@YMve7AbijFu"⟩
def pP:aw.cb:=gC ")(TF:HSC(.UhsYLP03.DotSBc[TB_O5RNq6*seiNMdHa:k@n0ToVc[z2EaIIX_1GkP7.i7[GYpg2O[u;AnZ9igh=f7g?(GsBo"
def oq:aw.Fn:=⟨2,[.t 4],gC "25KS:geM2mMV?U0E328ZX"⟩
def wO:aw.Fn:=⟨2,[.t 3],gC ")1QfstkGltAt[3k=Z>@_<"⟩
def Ck:aw.Fn:=⟨2,[.t 4],gC "618,sZB[INrUIr16g:<?Tj.S+(L;;HaU[`cpV..]Bc50JNXFf@82twu<O0P_PDDu@U:]R)9c4"⟩
def iA:aw.cb:=gD [] [qo 26 (.mp .ent [.t 23])] "*[w*CIEHBm7iv0,+)o2yP49aAO2Jc3F7Dm:TE60Gt`ft(xM_u7I6Y0Q;ddylZq5qdnh26_W*4?u_E*8ps(eASgXESJiU`6jRC:"
def ng:aw.cb:=gD [] [qN 79 .quo 78 (aY 8)] "C]Z7t7IH7ftIc@JO64Qwc(xmol[xW5;BfZ)eR:[NYf:q`A[1P]@_ny?tz5CDEU9,]Z;E:52mZmSCn2?;V;l9+HEH]InnfheaXIs]HKdz842oAYU>Aujw9_N6lKLEGLbf;X(@4FSeNn6s>U(oX(seKAsNwis9uai^>k5pm^f+g=o3XnvEr?m@^G5hh6qzawn>oVp(a_[eyWKjZ4N)0v;@0"
def nh:aw.cb:=gC "*q9ddc)N)CKp9X9Iuojp[r@Ubmw`.8veuOP.<NGlWs.,hfnO<B<zpJvly?7FYs=u<oQ0"
def xE:aw.Fn:=⟨2,[.t 4],gC ",V<JiEj7fC2?)Ugj3717^2>U(+yv)UyT>yJ75eGsWqXEe"⟩
def tG:aw.Fn:=⟨2,[.t 4],gC "5IUd@uJJ3t+wcBxDS^Q?ZY7Tg8"⟩
def Ew:aw.Fn:=⟨2,[.t 3],gC "56iQ=DhaEV1y?@gyrxd0odB)+fQ<AB3<"⟩
def lf:aw.cb:=gC "3HKj=SN*Fwcqguv91FN,ZeUE1tQ<+:w6oR?@c?HfBXR?TBbxQF2Umw8t](+L9BQ1HN?KlJ]c28v9XqQNZhxQY0[DCepy=bE:c"
def HD:aw.Fn:=⟨0,[.v 0 true 5],gC ",0^cSL^2Or6qSEp0IHbYRI?@pYSXf,ZB"⟩
def El:aw.Fn:=⟨3,[.t 6],gC "*2=75EjWG>lzVWOsYA5@2n_kP[*?dEe"⟩
def tv:aw.Fn:=⟨2,[.t 4],gC "5IUd@uJJ3t,YSzSPSWU,:X?26y"⟩
def wD:aw.Fn:=⟨2,[.t 3],gC "21R_DSc]dP`a1]64p5iS@RMHf7^Nld`SgBG._IPTlCA;m*Ag,BwlyO[[YNqV0P"⟩
def yb:aw.Fn:=⟨2,[.t 4],gC "1@vSW_yj7]DPyzO;VI0@7V2N)N]^5WvZI_h8p_kfJDU6^GfnlS*Tnx)tbHWxp.sH)ZGjr,g34^bioJmjo1jRa(dKQ:7U4g:w.T1XZsT(LQaWQaK)ZUpRSME3`Ye"⟩
def rj:aw.Fn:=⟨2,[.t 4],gC "5IUd@uJJ3t,i+[I=1>yKSdLbKi"⟩
def DP:aw.Fn:=⟨1,[.t 2],gC "3@BC2_q(hR.81_@7BLm0Dq"⟩
def xZ:aw.Fn:=⟨1,[.t 2],gC ")_3a35ODFqnJEOgG`fS*`nzsHJQJm"⟩
def AA:aw.Fn:=⟨2,[.t 4],gD [] [qo 3 (.Mr (.t 1))] "0MYHS1)8CWGNdpL7vF:_[>78"⟩
def l9:aw.Fn:=⟨2,[.t 4],gC "25KS:geM2mO8P6SEzc=FX"⟩
def sJ:aw.Fn:=⟨2,[.t 3],gC "fMY.y9ZCA,pVPUbVBe9KEzL"⟩
def l8:aw.Fn:=⟨2,[.t 4],gC "25KS:geM2mO=albV*T75i"⟩
def tH:aw.Fn:=⟨2,[.t 3],gC "fMY.y9ZCA,njjss@X+fgU3*"⟩
def Eu:aw.Fn:=⟨2,[.t 4],gC "5IUd@uJJ3t.CZQ(R6>_fNic=B8"⟩
def zn:aw.Fn:=⟨2,[.t 4],gD [] [qo 19 (.W3 1 (.t 7) (some (.t 12)) (some (.t 18)) none)] "*PdT)IFA96vHBBJI?*QvAI:]qk_1Ax9.39Djb:eKiC^>GnI6:Xv_m_Am"⟩
def wH:aw.Fn:=⟨2,[.t 3],gC ">lR04g3a8@2>t:BRU46_P+]usX:ja"⟩
def As:aw.Fn:=⟨2,[.t 3],gC ")1QfstkGltAt[3k=Z>@_<"⟩
def ot:aw.cb:=gC ",ImhMjFO4_e[2c]59i=l.U_z@0j57+G+bs>)JEXSXdDXZ.a,hv1HeBU0z)Y("
def zf:aw.Fn:=⟨1,[.t 2],gC ",CfCFLD=r6BTXgQ_m4"⟩
def jL:aw.Fn:=⟨1,[.t 2],gC "6SGm=cQ=i(l=`yi^XctdMx+aqPY6z98"⟩
def fY:aw.cb:=gC ")^Sib7N17+>9qG"
def dC:aw.cb:=gD [] [⟨none,none,false,.mp (.put (some (true,[some .i64,some .i64]))) [.t 72,.t 73,.t 80]⟩] ")42.M`r=XY6Mi5)RY8eT>96:Iek(x@jN1)hFp4SU:Nyb8*FJVncP[60@YuX1)=ki0BbMUe0SkyG,lt5<y`+QxAN7xxZA<@v4Z4dIFH^4O<e@;pSDr+_g@uX+F*p@QCX(r1nJx`o2qMIfaRV2^gdqOH?*hX*kUS(]RfP,rjWdW(*W44A[=zwvLemZc:Zw46bKpSct:LVLIfqJoj8qrx@z<bwS9n1"
attribute [local irreducible] gj pS nY zr lR iw ix pU pT pJ iy iN uX m6 pP iA ng nh lf ot fY dC
def mC:aw.Fn:=⟨2,[.t 4],gD [gj] [] "8Hf=Zk)oe7[^Y@cerjwq>IhEO,)UU.]"⟩
def DR:aw.Fn:=⟨2,[.t 4],gD [pS] [] "roRsnga.P3^IiET^NkO@,Yk>]MeTU`*z4_HabIGu2yiM>u"⟩
def AM:aw.Fn:=⟨2,[.v 4 true 2],gD [nY] [⟨none,none,false,.Je 4 [(0,1),(1,1)] 2 4 (.t 50)⟩,⟨none,none,false,.Je 4 [(0,1),(1,1)] 1 13 (.t 12)⟩,qo 4 (.CV [(0,1),(1,1)] [.bB,.bB])] ")3JX=*h:PD@8Nz))VPx_?h5>Cd`MEVr`nu5ud`,EmCLv[puto).^c"⟩
def JI:aw.Fn:=⟨3,[.t 6],gD [zr] [] "Wd@6:R[xeKez2w^f.A4ls:`*s08eB*2HBUom"⟩
def uI:aw.Fn:=⟨1,[.t 2],gD [lR] [] ")(O5hECRmniDA@_N+^06H3+1H73AzVQVu"⟩
def y7:aw.Fn:=⟨2,[.c 4 false 1],gD [.ME [4] (.t 9) [10,11] iw ix] [] ")2@QP)WaY9,;pX=MiD^MG@Rx=iHkOHyzI1S]2gSC)g"⟩
def Cq:aw.Fn:=⟨1,[.t 2],gD [pU] [qo 8 (.Zq 9 (.c (.str [115,108,105,99,101,115,46,77,105,110,58,32,101,109,112,116,121,32,108,105,115,116])))] "1hm*5eg?,=`6_B3_bE+]F+AOmQI)>_E+sJySyf`NekEpt;Eu:3k6PIq<"⟩
def Cp:aw.Fn:=⟨1,[.t 2],gD [pT] [qo 8 (.Zq 9 (.c (.str [115,108,105,99,101,115,46,77,97,120,58,32,101,109,112,116,121,32,108,105,115,116])))] "1hm*5eg?,=`6_B3_bE+]F+AOmQI)>_E+sJySyf`NekEpt;Eu:3k6PIq<"⟩
def nj:aw.Fn:=⟨2,[.t 4],gD [pJ] [] "Om[L<xnD`PUb_qRied47[UR2m"⟩
def zl:aw.Fn:=⟨1,[.t 2],gD [iy] [qo 13 (.Mp [.int .i64 (aY 0),.int .i64 (aY 0)] [(0,1,.c (.int .i64 (aY 1000))),(1,1,.c (.int .i64 (aY 100000)))])] "*Bwi00AbWT<,4umvDjZ)Qyi>7fz(D_XhfmQho1UYgH7,KO(YKQxzvSLzr*RwPWh[>GS0_ACI*Ae2`Uq3?A12^8Baa,KbSeqoH^cKd_D*`u"⟩
def oL:aw.Fn:=⟨2,[.t 4],gD [iN] [] "JM0Jo(KcjwiTa4GwXcjCE.Dd:)h[n=3k4"⟩
def FZ:aw.Fn:=⟨1,[.t 2],gD [uX] [] "u)dSvCu>C[hDLTJTlB>T`^Yalcczp[6;`<du"⟩
def yV:aw.Fn:=⟨4,[.t 8],gD [m6] [qi 9 (Al 1)] "2FcF_zYq^jl^i7zalak:ae=DPe3MvZUdi@h,7nd)vI]?JOyJ`MKgEtSDPo=X[OkaGZC3(3id2XT9FXVfOhA5z(](M9N(OHKgP<"⟩
def Ca:aw.Fn:=⟨2,[.t 4],gD [pP] [] "0[<DpRXTDD3GO6aWT0OBBuM[3oDE052FeOYq=vT"⟩
def fq:aw.cb:=gD [nh,ng] [] "@OXVlG.quV);)xo4R6_p62`h6i[11Ka<qgSR6VV]p<NvX+Tg7X27hNNp4JxhdehSX5WHu_Mv9hSKZ:F3fHv8R2^3glJ4u"
def tI:aw.Fn:=⟨3,[.t 6],gD [lf] [] ";K>L[)Nkfh:l]2<@l0;UJ6ni]CN[7B[sgKa8Es*9cwJHjZ[Zvbta7ZLChmhN8ykG(h*qhQ1l7;WAv)y?*JpmAXESGU@nakMmE_i^M6vOuuL"⟩
def rn:aw.Fn:=⟨2,[.t 4],gD [ot] [] "Om[L<xnD`PUb_qRied47[UR2m"⟩
def xV:aw.Fn:=⟨2,[.t 4],gD [.ME [2,3,4,5,6] (.t 17) [18] fY dC] [ql 81 1 5,qo 4 (.mv (.c .undef))] "]mZA1(ffUa1]d91b,]j4N8GOgX+29(3)Ija`,?CCXG,Um[n=RxhQK]iATKm+Ty>bJKSHbd0<W9e"⟩
attribute [local irreducible] fq
def zp:aw.Fn:=⟨3,[.t 6,.t 7,.t 8],gD [.gX [1,2,3,9,23] (.t 23) 24 25 0 iA fq] [qo 23 (.mp .rng [.t 22])] "dG^TMWB(mFo8xc@ON;2u]?sbE9?lESFL8^s?cL@:on>JO"⟩
def GB:sS:=an7 [(5,[4]),(4,[]),(3,[4,5,6]),(2,[4,5,11]),(1,[4,9]),(0,[1,2,4])] [(0,[4])] [] [4,5] [5] [] [1002]
def GC:sS:=an7 [(26,[6,7,8]),(25,[6,7,8]),(24,[9,12,108]),(23,[3,9,12,93,94]),(22,[3,9,12,93,94]),(21,[3,9,12,17,93,94]),(20,[3,9,12,93,94,95]),(19,[3,9,12,93,94]),(18,[1,3,9,12,41,42,43]),(17,[1,3,9,12,41,42,43]),(14,[1,3,9,12,16,41,42,43]),(16,[1,3,9,12,16,41,42,43]),(15,[1,3,9,12,15,16,41,42,43]),(13,[1,3,9,12,13,14,15,16,41,42,43,56]),(12,[1,3,9,12,13,14,15,16,41,42,43]),(11,[1,3,9,12,13,14,15,41,42,43]),(10,[1,3,9,12,13,14,41,42,43]),(9,[1,3,9,12,41,42,43,44]),(8,[1,3,9,12,41,42,43]),(7,[1,2,3,9,12]),(6,[1,2,3,9,23]),(5,[1,2,3,9,10,11,23]),(4,[1,2,3,9,10,11,23]),(3,[1,2,3,9,23,25]),(2,[1,2,3,9,23]),(1,[1,2,3,9]),(0,[1,2,3])] [(4,[3,9,12,93,94]),(2,[1,3,9,12,41,42,43]),(0,[1,2,3,9,23])] [] [10,11,12,16] [10,11,16] [] [2002,1001]
def FK:sS:=an7 [(12,[4]),(11,[]),(10,[3,5,7,10,71]),(9,[3,5,7,10]),(8,[3,5,7,8,9]),(7,[2,3,5,7,8]),(6,[2,3,5,7,8,41]),(5,[2,3,5,7,8]),(4,[2,3,5,6,7]),(3,[2,3,4,5,6,17]),(2,[2,3,4,5,6]),(1,[2,3,4,5]),(0,[2,3,4])] [(0,[2,3,4,5,6])] [] [5,6,7] [7] [] []
def tF4:List (Nat×sS×aw.Fn):=[A3 [] 248 mC [] [4,6] [6] [] [],A0 249 uE,A0 250 DR,A4 [0,3,2,5,6,4,1,7] 251 Gt [] [0,3] [3] [] [] [] [] [] [(2,some 1)],A4 [] 252 AM [] [4,12] [4] [(1,[(0,1),(1,1)]),(1004,[(0,1),(1,1)]),(8011,[(0,1),(1,1)]),(8013,[(0,1)]),(10001,[(0,1),(1,1)])] [] [] [] [] [(7,some 2)],A0 253 HC,A0 254 zg,A4 [] 255 JI [] [6,8] [8] [] [] [] [] [] [(4,some 5)],A0 256 AJ,A0 257 xX,A2 [] 258 y8 [] [3],A0 259 AO,A0 260 wK,A3 [] 261 Cr [] [4] [4] [] [],A3 [0,1,4,3,6,5,2,7,8,9,10,11,12] 262 Cs [] [4] [4] [] [],A0 263 F3,A3 [] 264 uI [] [4] [4] [] [],(265,GB,y7),A4 [] 266 Cq [] [] [] [] [] [] [] [] [(2,some 1)],A4 [] 267 Cp [] [] [] [] [] [] [] [] [(2,some 1)],A0 273 nj,A0 279 xH,A0 280 Ex,A0 281 uN,A0 282 AN,A0 283 Gu,A0 284 DS,A0 285 wG,A0 286 zh,A2 [] 287 zl [0] [4],A0 288 zm,A0 289 zq,A3 [] 290 oL [] [7] [7] [] [],A0 291 re,A0 292 FZ,A0 293 wk,A0 294 DL,A0 295 uC,A0 296 Ef,A0 297 yV,A0 298 yW,A0 299 Ca,A0 300 oq,A0 301 wO,A0 302 Ck,(303,GC,zp),A0 304 xE,A0 305 tG,A0 306 Ew,A3 [] 307 tI [] [9] [9] [] [],A3 [] 308 HD [] [0] [0] [] [],A0 309 El,A0 310 tv,A2 [] 311 wD [] [1],A0 312 yb,A0 313 rj,A0 314 DP,A0 315 xZ,A2 [] 316 AA [] [3],A0 322 l9,A0 323 sJ,A0 324 l8,A0 325 tH,A0 326 Eu,A0 327 zn,A0 328 wH,A0 329 As,A0 330 rn,A0 331 zf,A2 [] 332 jL [] [2,5],(333,FK,xV)]
theorem kF4:(tF4.map λp=>chk p)=tF4.map λp=>some p.2.2:=by kernel_rfl
def AG:aw.Fn:=⟨3,[],gD [] [qx 4 1] "4Z^;o`0M6pJJdw`GCuA*h@^e7ssc(=MXsy2E:knNINwgBsF++7W]7b`r@>)Q0lgnNFhP9*]=:T3=pDYvi<V4i`]2Q"⟩
def AH:aw.Fn:=⟨2,[.v 4 true 3],gC ")5iq?:u9qLnaJq77`rjzzIKXAjh.3f9qXjN^N*+`FRQia`OtAH("⟩
def Cn:aw.Fn:=⟨2,[.v 4 true 3],gC "dqO:;4l:mMny,0L7cVjENdeY`@fDbK:1+Xj,y`(*6MzQ^L^pONGc*hc_"⟩
def AL:aw.Fn:=⟨2,[.v 4 true 3],gC "+vDCSsR?Of30N4[h^*>R(Q):1;`5dRMlEkbyewZN+=j8P?)w,TJR"⟩
def xW:aw.Fn:=⟨2,[.t 4],gC ")T+Iu8c[?QygcJu`ayP<V0gtA4EYPLN??c=E*KukcS5s10P*"⟩
def uA:aw.Fn:=⟨2,[.t 2],gC "`QPs;TtE;hct.3B?7m[@"⟩
def wu:aw.Fn:=⟨2,[.t 4],gC "6JrHxVct^Nupu0v8+w(zQGG1g,CN)*oPV<>EthVU[V]94"⟩
def kQ:aw.Fn:=⟨2,[.t 4],gC "25KS:geM2mOrhOOVHhI+i"⟩
def rk:aw.Fn:=⟨2,[.t 3],gC "fMY.y9ZCA,mtNYR^ccSu4`m"⟩
def wI:aw.Fn:=⟨2,[.t 4],gC "*7O,sUsre9J(aqfSEujbwvhVNdYPF?PTVsa@GV0qiCOnn_]"⟩
def JH:aw.Fn:=⟨2,[.t 4],gC ",WpJFgBtv;lLOhlgI_rU3uIOpt@oEsAU<z[Wh@df7H;38s_CD"⟩
def AK:aw.Fn:=⟨1,[.t 2],gC ")NET52pYGj[OT`@T"⟩
def xT:aw.Fn:=⟨1,[.t 2],gC "*^DDE3vEbz7j5:x;SNe[R;:Sm,9^WR[yf_]"⟩
def zj:aw.Fn:=⟨1,[.t 2],gC "<sOnkMBa=2.duo=e"⟩
def lB:aw.Fn:=⟨2,[.t 4],gC "25KS:geM2mOwy4^gKYBmy"⟩
def ri:aw.Fn:=⟨2,[.t 3],gC "fMY.y9ZCA,mtNYR^ccSu4`m"⟩
def kh:aw.Fn:=⟨2,[.t 4],gC "25KS:geM2mP*8jlwNK<]8"⟩
def oR:aw.Fn:=⟨2,[.t 3],gC ",Wl6hIxW)hta_q.X0JGY;w<"⟩
def m9:aw.cb:=gC "@h;`fb>.I^1Qmok[l3)Hia+z)]n_F(S3aLg3Z`=v?Q?7Dm6I`,:pBAwjVz,.0:g4rN`]XrHu?+e;31O85?gKpaxjZ4HsaN"
def mc:aw.cb:=gC "Q)_9zG3vp7p_3Nl`EjAIT:IVy5n(MS=:1n5STH+MO^B>J).O.b,RcKY3NCsQEk"
def ma:aw.cb:=gC "Q)_9zG3vp7p_3Nl`EjAIT:IVy5n(MS<xYFShgM7GZk=iF>ZhA.OPPEQi=]:+RZ"
def Co:aw.Fn:=⟨2,[.t 3],gC ")1QfstkGltAt[3k=Z>@_<"⟩
def kg:aw.cb:=gC ")j*atG.,?54e)K<UNGGGjZ;DEAqE:FR*`Rb)F<AFnpB>Ru1mKT8l0cZ"
def Cj:aw.Fn:=⟨1,[.t 2],gC ")IH1B>oFr(]vjB2d70ky"⟩
def zo:aw.Fn:=⟨2,[.t 4],gC "9(Dpl]=8o;SvC<yF4rO]Wzyp3vKUQD"⟩
def zk:aw.Fn:=⟨2,[.t 4],gC "9(Dpl]=8o;SvC<yF4rdeHIqU;d_SDT"⟩
def uL:aw.Fn:=⟨2,[.t 4],gC "5IUd@uJJ3t0Y=o2kk9J0`34Z)i"⟩
def zi:aw.Fn:=⟨1,[.t 2],gC "+kb;DXzPM7YQ)jsyX]VanVq)]VbB`FLzKxjmfk.]AJhNkdwK5icD"⟩
def jH:aw.cb:=gC "I_CYj0gx6gR@CL:5dl6rz)TgHln4A4x[F_He=),M86X7N>^bzgutwHLlJ?2X(xIMXdgNU`^dBdNvXP9BmtpU,3^Rw?Ax7.=^ObXrDHG+Hx4mU0srwpq]29EUW7,=D4"
def tp:aw.Fn:=⟨2,[.t 3,.t 4],gC "3zwPa)egmvp@0Yh.Uy]XBLs297:Jy(<"⟩
def kR:aw.cb:=gC "Q)_9zG3vp7p_3Nl`EjAIT:IVy5n(MS<oE3:rpOeDaHdUDHHKIg`xGBN2^@ElY("
def lE:aw.cb:=gC "Q)_9zG3vp7p_3Nl`EjAIT:IVy5n(MS<oE3:rpOeDaHdUDHHKIg`xGBN2^@ElY("
def ki:aw.cb:=gC ".(:vrd.H=3y`osK*evkU)B`@83dlbmm*uB=?7((hHA,VE@fA>EQkkf;e6M=RZ"
def nX:aw.cb:=gD [] [qk 35 .rem 33 34,qk 20 .rem 18 19] "Nvfck8+viDkLU.YO5?y4sBNzjgVvV2G`tx^XVTs:0m>XH9(hfB:k7yPqp,[x`gWlQVdgmM(CGri<KtJk8Yz8W6p,;XfCb,(_HvVvgQU^*iHl>KXJU_6x2@j[YlFP402N_HBVq.t2_DA,]N)*+Fj;.yk`;VnK6A*+;JHb++VV;Z4@Pnd_8+N<p(JA2HZDW(,w"
def lC:aw.Fn:=⟨2,[.t 4],gC "25KS:geM2mPA)NTgYctiy"⟩
def sG:aw.Fn:=⟨2,[.t 3],gC "fMY.y9ZCA,njjss@X+fgU3*"⟩
def lG:aw.cb:=gC "Q)_9zG3vp7p_3Nl`EjAIT:IVy5n(MS<xYFShgM7GZk=iF>ZhA.OPPEQi=]:+RZ"
attribute [local irreducible] m9 mc ma kg jH kR lE ki nX lG
def xR:aw.Fn:=⟨3,[],gD [m9] [] "AfZfmwt<JC7ttuC4;=B["⟩
def nJ:aw.Fn:=⟨2,[.t 4],gD [mc] [] "Om[L<xnD`PUb_qRied47[UR2m"⟩
def nI:aw.Fn:=⟨2,[.t 4],gD [ma] [] "Om[L<xnD`PUb_qRied47[UR2m"⟩
def sH:aw.Fn:=⟨2,[.t 4],gD [kg] [] "9)fY+NT3TvY_DQXiQXb?r09bL:Ki=^c5*"⟩
def rh:aw.Fn:=⟨2,[.t 4],gD [jH] [] "JM0Jo(KcjwiTa4GwXcjCE.Dd:)h[n=3k4"⟩
def mE:aw.Fn:=⟨2,[.t 4],gD [kR] [] "Om[L<xnD`PUb_qRied47[UR2m"⟩
def mS:aw.Fn:=⟨2,[.t 4],gD [lE] [] "Om[L<xnD`PUb_qRied47[UR2m"⟩
def mf:aw.Fn:=⟨2,[.t 4],gD [ki] [] "Om[L<xnD`PUb_qRied47[UR2m"⟩
def ze:aw.Fn:=⟨2,[],gD [nX] [] "1@A*hK_39F(h;@(YXuaBMEhP3hIto)Lo=l_BX+fG^h"⟩
def mT:aw.Fn:=⟨2,[.t 4],gD [lG] [] "Om[L<xnD`PUb_qRied47[UR2m"⟩
def tF5:List (Nat×sS×aw.Fn):=[A2 [] 334 AG [] [0],A3 [] 335 AH [] [4] [4] [] [],A3 [] 336 Cn [] [4] [4] [] [],A3 [] 337 AL [] [4] [4] [] [],A0 338 xW,A0 339 uA,A0 340 wu,A0 341 kQ,A0 342 rk,A0 343 wI,A0 344 JH,A0 345 AK,A0 346 xT,A0 347 zj,A0 348 lB,A0 349 ri,A0 350 kh,A0 351 oR,A3 [] 352 xR [] [2,5] [5] [] [],A0 355 nJ,A0 356 nI,A0 357 Co,A2 [] 358 sH [] [4],A0 359 Cj,A0 360 zo,A0 361 zk,A0 362 uL,A0 363 zi,A3 [] 364 rh [] [7] [7] [] [],A0 365 tp,A0 366 mE,A0 367 mS,A0 368 mf,A0 369 ze,A0 370 lC,A0 371 sG,A0 372 mT]
theorem kF5:(tF5.map λp=>chk p)=tF5.map λp=>some p.2.2:=by kernel_rfl
