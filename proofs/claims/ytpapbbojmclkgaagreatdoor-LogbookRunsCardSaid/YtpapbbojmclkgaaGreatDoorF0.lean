import Derived.Test.YtpapbbojmclkgaaGreatDoorIds
set_option linter.all false
set_option maxRecDepth 100000
namespace Go.Proofs.YtpapbbojmclkgaaGreatDoor
open Go Go.Abs
attribute [local irreducible] ba Ac
def fX:Abs.bV:=gC "@Cdm:.EplSGOD5ED+tfc_Cz;d?]7frsuzO>nP8YD3^^agb6z@(;mo^2GC.M],wrVc,QW58vK]IYci:6(Zr]mlmh3:G6@[h;W,8NYU=upzYPKTdw"
def oM:Abs.bV:=gC "0<KCv7HT3n30w3(k`YMn(O=u)OR<xDq@[)W(tTJvh[xX>b<,Q+YRkJ0_G=]*RmkEmXSdL,T(B<zR3yRK5ZVGB*8yUKqGVR=)0dXhUR:"
def vV:Abs.Fn:=⟨0,[.t 0],gD [] [qo 41 (.me .b2s [.t 40])] "PMGmR:7@EHlTW7g9vwfKT6QDjX7dTU(uOfsfucC9ZrI1LoO]15yF(N_w5k?w[gvy*e.v7i(E<V]bC?qBFLqp>GOhYknYnfnG,AkbCXTKM[;W0c]v@[RKJb5K8R8Iv+Z^6YZ8*^ZI)aCG:NzC3Q)VEwP,CfJzY>^vDFyufiMabHHq4^6wO*QlBV7r7i9?6?x_bbYYQPBgmPIgES`Vx_R;d^cCGrv,AXaM1QOyVNR>Gvx4iYU5wnO1ABc9KGq9yjmwxoWi"⟩
def Ed:Abs.Fn:=⟨2,[.v 4 true 4,.t 5],gC "MW_x2UAd2+:AzaIQR=l8DLQ6D>TD<ovzau*kFgXvzgdDs^qTM6vgHqD=a=6WJ1FUCX+kX`8fg:4:hxCD+xvf<X`ieP@QCsbfZ)r2tdwAn*aZ@k.Y9v6DdAHGYky(r5)juRuyM72ORY.3`x94<.APi+AtL]S3FA71IJdd>z;d?+bME4qI90r]).1Rc6z"⟩
def Hm:Abs.Fn:=⟨1,[.t 2],gD [] [qo 4 (.cpi 1 16 (.t 3))] "*3k(SB6PyZqGHlX"⟩
def nO:Abs.bV:=gC "+JYZ^mRXqvnVubAsoB00x:fGJtLA.C*thc_+:1I(lc:;<3a+t7GYpcy=Kcn"
def pY:Abs.bV:=gC "H*@4GTq,)seiw@`+izwM8+960Of;P^N9fGe_TXo^zCv,.O,;?<p^k[d.HAoe:2)wbZd[O^c56;7,@[GIo`Sgy8iT2*1A5;Dv>l"
def iP:Abs.bV:=gC "C.7fnjJzYyJ];]dO_zUE9e>n+Of,ZO5[zKKpwLYvQdvnYi5Dd<SEk[>fuCKcgj)ZuJbOVbNR;mO8S+hY.j"
def oO:Abs.bV:=gC "V]Um4xoBsq(cX,AAf?+gkuHeRYrmACNN?8,u;?5:QM)[dOzWUefBx>HlzA(xfq*h^tz"
def jG:Abs.bV:=gC "C5qR*E(t=f9IbrnGLQVw;6WeCsQ9mZNS_rAw8wLaR^e1n^,vs<lAPYM^c8t1l,v6iGqJQi8R+1OP?KqU))8d0.zv(EmLO,NaN_?6rDqy5tuyY(K+kw.Q9umw:@y9wKC.FusAX"
def jH:Abs.bV:=gC "N_m=XAca8hs?:9WuzT,f>IuO6(zE>T@Rq9Po?=3=k<M5Ef;Jotb38tVhQ)UgXjVTT^+Mbzkp^MrCVx=HNLk)`h[nR*WGFbTLmHsIa3t(]m0skq5Tz,QE@7mfT3,I60^aiJpvPEXGPcPlS55[Pl9R;RW1Yg,Ti;(r"
def F5:Abs.Fn:=⟨1,[.v 2 true 18,.t 3,.t 4],gC ">P[8TuFkzlqU9*uO=P7R0vLzJxP+^ZCF>,Av(tbswsm8=mL7[n=SotWi`W2Xl`GwJVAlnUu,EKTgDmFP(*p:E1aawF^xhgSRU=l"⟩
def gK:Abs.bV:=gC "1IebmZt21>i:0_3i8@B,YoQ*:dSn.oulgDiE1K_EMoj59wR2bo@>DDBx(7[Z::V+eigwkXJ8AtMfOk@L3"
def F2:Abs.Fn:=⟨1,[.t 2],gC "YvxluMXm,u*EVbm59;Y?EK"⟩
def oP:Abs.bV:=gC ")1[MZmeaita9ucWRUpf0YM:sREh(uie_pVM@^5wKVVe;8=6Dc?ilt,rmGo0Ed>7@G+1(Y97g:f_Ly6C)<+S"
def nw:Abs.bV:=gD [] [qo 115 (.eqv true [some .i64,some .i64,some .i64,some .i64,some .i64,some .i64] true (.t 103) (.t 114))] "715aopXKFBKF)=XcRM^:a=<n0rq^FAJ0d3avot.*:zf4HCbcCwW,xfbTRop97N5cwjN(h.3M]5L]9t=6Q:LsSzRGEc?p]+;SI8(YJ2yk2J,ql0TTex2Afb3m^>yEwte>mNFgI>@3f4"
def nz:Abs.bV:=gD [] [qo 25 (.IY (.seq true) [.t 20,.t 24])] "+L_Z765Jamts+UJVs>0MMh2SKrH5>>KWpCbh1PUv38k)2AH+Q`[L*9A(CAt+TG=cX1."
def Li:Abs.Fn:=⟨3,[.v 6 true 20,.t 7],gC "***h,0@l;KCqn;IF9t^(o83qMkHx3BMJjqc+A;<R[AaD@hYC0TM4T*qt9Q*iPkB0Lx[>n?VFYKy9HMdnTVO0Xow*<+g*mznxDOetsTV2dp8F^BpWkjP<.qS6QA=1S.J=Y<G:aQ?]OQoqn04LZZ@,ertWpM`cx;BVa[Mp3C4H;s_Md`,`_gzM2(QzseGchyK<L*nCtAd2Eg`uBkf]V(RpaUho<S:,?)>9b2u<ll:zV>FZx?K@^0TpANw^Ea2j>IswO1esw2fsQKFh+?)]2[T)YaHu^[e4Hx_=R@dcGZWRr4d2;>?+mx*uh3;0V+p+X2o7n7B(LW`9L3p:,)>ZgUjefVmB2Xmk+ZZR^)igRBKJC*ce<4ZaK9JJEdMS5YlP;wSy]JKAp9;CnM>3bu<UUQ;3(5mi2Ug48fden2]:G*IAv[AI1N5?h:gAY:j;8Y)8wB.32<2N9vNYlbaUYSBJ4d:>xE3El"⟩
def Ec:Abs.Fn:=⟨2,[.t 4],gD [] [qo 14 (.IY (.Pd false true) [.t 11,.t 13])] "0>vRnoMGLT]KNaN[J`vp*+gQ,M7zuBi*CL4rFqyGv?L"⟩
def Jx:Abs.Fn:=⟨0,[.t 0],gC ".Hi>.q;GxDi:r]FVeX5[_w5Owgv=cdYq[*qsQB],v7XF4?JLLZIm)V^mK6xm11fnqcLmV"⟩
def DI:Abs.Fn:=⟨1,[.t 2,.t 3],gC "4f>;ieqnoqg2NS)8?71G[KcsX^b,``*LOf^9FxbMu8c(w:?"⟩
def DJ:Abs.Fn:=⟨1,[.t 2],gC "5Yz_+,a*=]VFk>Gh(55vdROobFXWHC_o8g^62?ZB"⟩
def gg:Abs.bV:=gC "HXqN<U<Zp3j?lhlJYi82oke5(<R==Lg`WdJ+Nxwz:Nu,0ls:6,Hxsk`3jCe?@(yTh"
def kL:Abs.bV:=gC ")5._=]=W+)drLp92j?(Zo:@@sNvUvkn=,BdfhxehiTZ*X5IgM(.8Ydjy?Qqfu"
def B6:Abs.Fn:=⟨2,[.t 3],gC "w8i9DM=VqZ8Au7BmQi=9)f])("⟩
def Gr:Abs.Fn:=⟨0,[.v 0 true 20],gC "0A)d@)Qhxv<.^M1v`<Agqy*SI,mkE2epM"⟩
def Cb:Abs.Fn:=⟨3,[.t 6],gC ")@2FI`x0soONy@S)Rv:A09:@_c_]U]I"⟩
def vl:Abs.Fn:=⟨1,[.t 2],gC "+N6RYyJ+hrbDXy.@g^ufGQ>HbK=,Iw"⟩
def yP:Abs.Fn:=⟨2,[],gD [] [qo 5 (.IY .Wl [.t 4,.c (.str [10])])] ".,>wvbnnals?g1?:*"⟩
def vc:Abs.Fn:=⟨1,[.t 2],gC "G.SfxcizufvTM(Z=YhKK7R)G]),t:mos)mXRyC2Q^@U6g+^]PHJ4vN9xjJ2.O0U5yLwwXR5_EepT"⟩
def wI:Abs.Fn:=⟨1,[.t 2],gD [] [qo 10 (.IY .Wl [.t 6,.t 9]),qO 6 (.IY .Wl [.t 5,.c (.str [46,46])])] "+RK2mOr:<sZa97YH;_V7MCn3OR]:^9h="⟩
def Em:Abs.Fn:=⟨1,[.t 2],gC ")<64bIBcb,8r:D[.ID:2PC0M]4vZc6X=LSnm+tQ@EnSa>)WX<,d"⟩
def oN:Abs.bV:=gD [] [qo 68 (.eqv true [some .i64,some .i64,some .i64,some .i64,some .i64] true (.t 62) (.t 67))] "8>;ShBl@`G1n)1sUwBctFP]C;foO*8<;e`)wm,Tg`6lF;t<^iSL6J:52^^wPed1Ptd=;u7v^iBf<Jv"
def nv:Abs.bV:=gD [] [qo 86 (.eqv true [some .i64,some .i64,some .i64] true (.t 80) (.t 85))] "3l(<S]9rpxIP,Uv_@KW+H)`k)gDIl0sIedo?`4rwuKIs8KuJ+:TJzjR]qwE_1=X.ferZ[Z`IrRi`se"
def nq:Abs.bV:=gC ")0ER?s2HWFnJhzNPspitiP`shvj@k@uR<UxNuw8IETXwbo]3ZA84uh)fR3g@iSpwsSDIa9OxJql41Y(:i@`lz7bm1pnc`5m8Y:Rq5`]sX?W)JJHoS3ya"
def kc:Abs.bV:=gD [] [qO 54 (.IY (.seq true) [.t 47,.t 53]),qK 39 .neq 33 38,qO 27 (.eqv false [none] true (.t 21) (.t 26))] ")R9WV.Hi*iRJZRUgQzI7s[o2D*EJSXpuC4.VP<V<]@u6Dc]H84MIWKy.(SqmwIqWCywsqxFBU:b9leaLad4mUv(+YgLh95tYDG=taF6B>m*gbAHgGvH3HahvtjRkShXUJN7QTzDb0jN.z5,c2+:1d,evSZE3UZsq:+vO,Sdu,;VflYm"
def kT:Abs.bV:=gD [] [qo 39 (.eqv true [some .i64,some .i64,some .i64,some .i64,some .i64,some .i64,some .i64,some .i64,some .i64,some .u8] true (.t 34) (.t 38))] "1e6aABLPTTGl):]ZUpqvJKlx2SZEw4WoUPwNsyHNY+j2;tmQ+ojVI9[9c?Ombs,YZAvK5LCn,xkkZXT"
def ke:Abs.bV:=gC "bQs]qX(Icawo)vejwf)[(+Moe=b3s_Pkf.Ll@Q4mM47_r6iipYK<@mRh<2aLZY>M6*(xVats`x2;mk;T(FBp?@Qo6.N+H2V[M9.Rl>t"
def nu:Abs.bV:=gC "*0anLPabs2jNliF*YIA2]fOa2S_FH=U>GR82yQ:4gaql.CK5gJrsbDjzv(kq7p*jthq@jR^F1xbXI?v6z]<2XeCFv6Yc7<zGh1fwzm237oIolNn8.V+jyKD?OZyBiZ2kvsgD`)3vc(r>KwG7>8x"
def mf:Abs.bV:=gC "6uGzWn[fid9_V.Gp)p@QbG<_?)1g;fu^s_QLBdE=k(ZbRrHNB`rLTVBHzKR>W@aN0s*gnuECLy+cUCRXVw09;mKRfw*JK77[3Zan<4TwghX3rew5;2g?t"
def mg:Abs.bV:=gD [] [qo 70 (.eqv true [some .i64,some .i64] true (.t 61) (.t 69))] ".92AJyTrRGP`89]:d_bAN`Dl03<fkWj)dOE=sLbrbS>j2AuIs`ZvrL]_QFz53mW5CBvir>?C1M9_d^>6T[kcOoUe@.4t3o<VS"
def nr:Abs.bV:=gC "42iv8^HOvq3wFOQHu6@FwsI.5Yf(FkwCbo*UcpBquw<AwsF`h5L2z@[o]x"
def F1:Abs.Fn:=⟨1,[.v 2 true 2],gC ")EyIjd+)pKK4i[yNynpC@AjUF2D_"⟩
def gL:Abs.bV:=gD [] [⟨some 26,none,false,.call false (.t 22) [.t 23,.t 24,.t 25]⟩] ",Fl]BP<0`vzbD4v.K?1l4ZTKc;2)?2ILyq5A]?=]XV^u02VPUKyN83SjMYxEAyJ*AFF94=OJ"
def jJ:Abs.bV:=gC ")CC8z?ckh;I=cm^HFoC:QdPuhdxAdo?;M(MIbSd?r)HKI8["
attribute [local irreducible] fX oM nO pY iP oO jG jH gK oP nw nz gg kL oN nv nq kc kT ke nu mf mg nr gL jJ
def xF:Abs.Fn:=⟨1,[.t 2],gD [fX] [] "*,KhJ]_wdD+c2A,fR5*KG(rXA6=]4e0?GuBm0XZ11hTuF<KipXwcQKu.*,a<H`Cpw^je8TVeTI7K44`RAwKLEyJYDAQ]m_WATgOGZlPT4By3q:UhUoW5Se)H.Yiy^7)Td++7S@eeO;P[^9pBo8KC4c0]4Y)s2iILO=1>YYhulr*+KW?tgSX,GR?k7`@ehz(qOl4R)pAHT*mz;@4j<ec>FzzpRVms.TiHZ?=9,hPHwi9VA3o**99NDfeVVcJsO`@fh3_H*RSP1Conhp^HdREH2pmEs2ON0Q4ZN9aei<v2=E:lY@[vCuJCiW4`36*,H"⟩
def Jw:Abs.Fn:=⟨1,[.t 2],gD [oM] [qn 42 .leq 41 (ba 5000)] "]D1T:ZE_,orFOh.nN*`QZe6czoRn;AAi>bT`4]V(qLhe@LmQwj0(MKRIbx+bv`vXk7d2]zta^lc_0*+VjV48NKiB=ZQiQCe2EgP@lbunl"⟩
def Gu:Abs.Fn:=⟨1,[.t 2],gD [nO] [] "1T@B;Xng4*FZkZL:*iR.M;p5.Kza"⟩
def JE:Abs.Fn:=⟨1,[.v 2 true 20,.t 3],gD [pY,.cH [1000000]] [] "E.G4E5^G_>y?7;oPCQiMh3*qsX:ZiJXLF[q>7?E**B+R^Q)FcgRKM3c;Qr["⟩
def Ai:Abs.Fn:=⟨2,[.t 4,.t 5],gD [iP] [] ")d4BSVqI*:WK8)XJN=eS^Evh>?(=mp>[+mo_izEehup3f8s[qe,T[e0>VIZ<)U@,5>aYb_fCcTzT5xBUDg=sc[*PN?x?j](jP[PYdO7FLlK.Een7Bi@q+H+IrWOEugseOvr[OGOJYxv4Jccl7j1(GRSEMWn.nZ<VW?zq4vAG"⟩
def Hl:Abs.Fn:=⟨2,[.t 4],gD [oO] [] "1Kku`kgyEgn:bTiTBRGf4x<w`BkloPNU:n=K2B+5eN"⟩
def B7:Abs.Fn:=⟨1,[.t 2,.t 3],gD [jH,jG] [qO 37 (.YB .i64 (.t 36)),qo 9 (.mv (.c (.fn 42 [] []))),qo 7 (.mp (.Ml 115 5) [])] "0Y;x[ke)?sKn75nZZ*.cF6nOWaG`X=s9:pw+JknLA^L92pa`Lv_P+p8sRlQpxM?6OX3Sr6hER6M=pDhCizWvRRuzWTW,nfIu:MWEG0mQ1f:MfgBO1z+c7c[O2hmTlihv=It,.j=?5lWuZgCfIwS4?DM5)UGB:fu4KOj_EaC)fYn+V*LwD7YJ[>a6ODWhcWR+[Le<Fdd]cW0m_nqEI2XmQNytDNJvXJOHpLv("⟩
def yO:Abs.Fn:=⟨1,[.t 2,.t 3],gD [gK] [] "*U+YEn=MKdDUz:]?CJUq`Wi4p?y:c;?p29nO+_D5n4GHv,hgXH?z:@mJL[*_<5swUo;SmFrcrwSvt<?n2`8A2:lgsrhMC:9"⟩
def Hn:Abs.Fn:=⟨2,[.t 4],gD [nw,oP] [qK 57 .neq 53 56,qO 39 (.eqv true [some .i64,some .i64,some .i64] true (.t 36) (.t 38))] ".8ZCL]5k?UuK7_CQqiCz;@vxXfp`)nlWv(>z0Xk,ZGgf`_Xpf;MlcbA*Ve1RAAlhPYa5L6lN^cEm4RJo@=V;t.4mM[zr7XAJxZD+zfG2Nj=t8.Tj<oFmeO[AcGF^3TUs?<ExY3.es(Gt(Pza^k.;g16i4romtEi9+cdfLaIgXtf;:WJ4DOpN*LL,.=24G7[8g68g.mZyB*p5Ua0yuP>4]56_Ak7Sp`kkI"⟩
def F3:Abs.Fn:=⟨2,[.t 4],gD [nz] [] "1Kku`kgyEgn:bTiTBRGf4x<w`BkloPNU:n=K2B+5eN"⟩
def F7:Abs.Fn:=⟨1,[.t 2,.t 3],gD [gg] [qo 11 (.bxn [(9,4),(11,10),(12,2),(16,2),(17,6),(19,4)] (.t 10)),qo 2 (.mv (.c .zK))] "FZL4H?,iKtgcI=4U<N,GIOY0BDfKDQd(*^_AnJW:@QW6uzssGqZAXYIkxY@<^U7V=OuKggtp_3prQ0VS"⟩
def mA:Abs.Fn:=⟨2,[.t 4],gD [kL] [] "C)9jC9;th0fkF@W3xFN2nGlEO"⟩
def Hk:Abs.Fn:=⟨2,[.t 4],gD [nv,oN] [] "dKGSMzV_F99SlbmcpNbkt1+gzCH3<XCu^gI;)T1+7STEtqeEAaKa7_^Y`1P>1kuV.YcI[@G)D3X?P3]QiAkyIV0=0F.SACZrmRd93I)bH,1qn4GE^@+`K<C:MBsxS,S8HRwVO?:0C>LNg[NXQ(eJi"⟩
def Jv:Abs.Fn:=⟨1,[.v 2 true 9],gD [nq] [⟨none,none,false,.Iq 3 [(8,3)] 9 3 (.t 17)⟩] ")sNVi3>TBcQ5ESmy(tc(H(jX5,)3;WuH+2hNxoVEqbMy2^S<s+_Ggc=G(4)+)xS[Hx;D]HG,USV7tDq9I.s_oC*eS>2rb"⟩
def B5:Abs.Fn:=⟨2,[.t 4],gD [kc] [] "1Kku`kgyEgn:bTiTBRGf4x<w`BkloPNU:n=K2B+5eN"⟩
def kf:Abs.bV:=gD [ke] [qK 57 .neq 51 56] "4>(m66y]lC+j5M`Pybv5022Ws4uPc_00fJ_;1Z.yMREE+[hu>KH:ca_yLilgBtPm,8diaD]y7H;4IpcINSSx9^wOOD8dV;,MZGV=2b4R7eapWeiF^tSkn;?x[:"
def F0:Abs.Fn:=⟨1,[.t 2],gD [nu] [] "*X@l[?*zayLWhrA955k8Uv0U6lICV<:"⟩
def kS:Abs.bV:=gD [mf] [] "3<eP@V@l;etiGV^?B9:[XAD*EC;wvGVKjn*^W*:G4zM3orgmKCl`<mgJfG6aw4gH>KOR4O*e[3VzE^5QsZww59XTC^M83F"
def mh:Abs.bV:=gD [mg] [qK 28 .neq 22 27] "5eM23=eUXECjmHKi_mB?^UG6m9=)@)(_r079I8VASn;Ecuj=NV3LUfWD86^zSPn_Eo;YXWA`Nh[_>J8,A,nnKD,>1Kg6k:x]_kH+e2Ky,]yoJk.bs"
def FY:Abs.Fn:=⟨1,[.t 2],gD [nr] [] ",I3sU(0?>jiQ?HBUJR>[Nt@35h<j9,"⟩
def m8:Abs.Fn:=⟨3,[.c 6 false 1],gD [.VK (.t 10) [] gL] [] "8AL1aRdmarrAU:c8_sefqn2()nan,TA,q"⟩
def Ak:Abs.Fn:=⟨1,[.t 2],gD [jJ] [] "d9OfXTD1o]q9Q[AaWd=XVXmxQ5dCr"⟩
attribute [local irreducible] kf kS mh
def DH:Abs.Fn:=⟨3,[.t 6],gD [kf,kT] [] "4+K^RhW;Y1]Z0au@Tt,ab.oX9dStBR_cWA;:P@1NP.zXtKnBq:;2>_>WiDFoK9ZEy4q1g39=BDpU"⟩
def Eb:Abs.Fn:=⟨1,[.t 2],gD [kS] [] ",I3sU(0?>jiQ?HBUJR>[Nt?EJw4BD2"⟩
def F4:Abs.Fn:=⟨2,[.t 4],gD [mh] [] "1Kku`qug:g_I7>nH?3Hf5jTyYBuX[NnXySl+:U`y42"⟩
def FF:tT:=⟨[(5,[6]),(4,[6]),(3,[0,6,7,8,9]),(2,[0,1,6,7,8,9]),(1,[0,1,2,6]),(0,[0,1,2,6])],[],[],[0,6,7],[7],[],[],[],[],[],[(2,some 1),(4,some 5)]⟩
def tF0:List (Nat×tT×Abs.Fn):=[A4 [0,1,2,3,4,5,6,7,8,9,10,11,12,14,15,16,13,17,18] 6 xF [] [3,8,10] [3,8] [] [] [(18,[10])] [] [] [],A1 [0,1,2,3,4,6,5,8,7,9,10] 8 Jw ,A3 [] 9 vV [] [5] [5] [] [],A3 [] 10 Ed [] [4] [4] [] [4001],A0 11 Hm,A1 [0,1,2,4,5,3,6] 12 Gu ,A4 [0,1,2,3,4,6,7,5,8,9] 13 JE [] [2,4,5,7] [2,4,7] [] [] [(0,[1000000])] [] [] [],A3 [0,1,2,3,4,5,6,7,8,9,10,12,11,13,14] 14 Ai [] [11] [] [] [7001],A1 [0,1,2,3,4,6,7,5,8] 15 Hl ,A3 [] 17 B7 [] [7,11,13] [11,13] [] [4001,2005000],A3 [] 19 F5 [] [2] [2] [] [4001],A3 [] 20 yO [] [7] [] [] [4001],A0 21 F2,A3 [0,1,2,3,4,6,7,5,8,9,11,12,13,10,14] 22 Hn [] [7] [7] [] [],A1 [0,1,2,3,4,6,7,5,8] 23 F3 ,A3 [] 26 Li [] [6] [6] [] [],A0 28 Ec,A0 29 Jx,A0 30 DI,A0 31 DJ,A3 [] 32 F7 [] [5,11] [] [(1003,[(9,4),(11,10),(12,2),(16,2),(17,6),(19,4)])] [],A0 33 mA,A0 34 B6,A3 [] 35 Gr [] [0] [0] [] [],A0 36 Cb,A2 [] 38 vl [] [5],A2 [] 39 yP [] [1],A0 43 vc,A0 44 wI,A0 47 Em,A1 [0,1,2,3,4,6,7,5,8,9,11,12,10,13] 49 Hk ,A4 [] 50 Jv [] [2,3] [2,3] [(1014,[(8,3)]),(5024,[(0,3)])] [1005] [] [1] [] [],A1 [0,1,2,3,4,6,7,5,8] 51 B5 ,A1 [0,1,2,3,4,6,7,5,8,9,11,12,13,14,16,17,15,10,18] 52 DH ,A2 [] 53 F0 [] [3],A4 [0,1,2,3,5,6,7,8,9,4,10,11] 54 Eb [] [3,5] [5] [(5007,[(1,4)]),(9025,[(0,4)])] [] [(10,[5])] [] [] [],A1 [0,1,2,3,4,6,7,8,9,11,12,10,5,13] 55 F4 ,A2 [] 56 FY [] [3],A3 [] 57 F1 [] [2] [2] [] [],(60,FF,m8),A2 [] 61 Ak [] [2]]
theorem kF0:(tF0.map λp=>chk p)=tF0.map λp=>some p.2.2:=by kernel_rfl
end Go.Proofs.YtpapbbojmclkgaaGreatDoor
