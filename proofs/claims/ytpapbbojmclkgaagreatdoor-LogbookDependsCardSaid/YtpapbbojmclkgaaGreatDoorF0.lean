import Derived.Test.YtpapbbojmclkgaaGreatDoorIds
set_option linter.all false
set_option maxRecDepth 100000
namespace Go.Proofs.YtpapbbojmclkgaaGreatDoor
open Go Go.Abs
attribute [local irreducible] aX zC
def tJ:Abs.Fn:=⟨2,[.t 4],gC "?Q<yNc:(`s)7D*;Wms@lo0;M)QNoQecWf(NxU?171^1:A_L0Zfw1D4G:RrKyBJtpGz*3O[7`>0PlAEQv,+A>9^8CTO4vEtxlT5:w(s[JF>a61Xi;SCwCE0WebbfJ_3,d_mll,`d:7<K7dK=CQ?tG4miWK+UElYP@kU7De[mkx,^xqj9B+7;6J[>0"⟩
def oj:Abs.b9:=gC "X,S0FAZ)+s]yzxt:fUwC_89+nfo[3QA0,+72]6)A,MfEEW=yR57u2gT)9HAmFQklBTH2fGAyf1vix`cy*7>ECSBpbFxbg.oxEtVNc,("
def vC:Abs.Fn:=⟨0,[.t 0],gD [] [qo 41 (.me .b2s [.t 40])] "=p<=.nEH]3N(_L9^QC]PI)DMHJB6H?[Y+oR4Zx(OkFL0fpj40Au2ERV?uW@QAS.bD.ph5^4NXHvm:ch2oVmB0V_=Dhi7*c7FvQfF()8XLG:>x=3Lc0qgJhUS)<F@H*Yr,;.<,PC`_l*rQ)ZI.0)ca;Wn[HXKJRnzn?fFT)P)_d7q3PfbQ8,PInKfa^>;c`Lbo]KrEC)WP,f>XogspSq5CtyILARFUJa29oSQ:3.JKS?MOSdkK<3rPbCqCgG@>IPqX"⟩
def Dt:Abs.Fn:=⟨2,[.v 4 true 4,.t 5],gC "OpVko`):HV,_y?FUc0O==2S:V+)+JrgXGJY?RQ)T6GDky<lV7Jss,@HCNh`W2vECKAw,hJH;3uJnoP9hk_y_8(:<17*FN1yU42q:K=L@Js++7Z5O2n2^]6s:G@F1NE?f((:GivU<?IA8bG<MjvbTTH.u0pxJB3L`sA>iIAI8aBw4LMLq<[_9O`c+>0"⟩
def Gh:Abs.Fn:=⟨1,[.t 2],gD [] [qo 4 (.YP 1 16 (.t 3))] ")[Q7ICvGHB0r5R0"⟩
def nv:Abs.b9:=gC ",VPH`nI,ZcxV[Q1)k8SOXOJIL:52UXh?K[OrTK_Tw(*8@_E]A.ne:BooZ]R"
def pA:Abs.b9:=gC "5K?lc*2OKNuAg3]iIqoozYtLhU=H?Xr>u4M2gabpR[zC.d=XqBqS>N?,8c+y<l_X3eJ3Zlw+LkqO]mk;7jg*pbNAlqJF](JjR"
def iE:Abs.b9:=gC "*>6[9yK]Xj)M?H[uF6I3(EhtG.qp_*:<QlYrf^CZmO)m1=UB3xRpEmP.by`mLUfEJn,mfSbYhr2+lJB*R"
def om:Abs.b9:=gC ":6J2U.xE^0UEYx,<)QYSQ@W)bH8SRH1a[v5yZk6+gNgi^dZdyEWy6iOYn)iM8Nnj:GR"
def kI:Abs.b9:=gC "?ucloPqxzRCHGD,NSymKYZ+3ZdwGjBc3O@.odiGMNuH1thULd0YR=dmCCdZWYTrSiR6oJ.iy0MD[YGR"
def jw:Abs.b9:=gC ")GlL5UpjX6>pt5CZLW,5E+,HKsU5zlI8Xwv:]Rd9^=L(ORlDF7IaR0tQsvm`ti:okWz+NUfI(rzod5]65d6Mxziz)SrpFf+T5N9]oZ+yJ1CEt9]O^TghN0gBYlsJ>SxHrbuR"
def jx:Abs.b9:=gC "2Vy_DMY^zJL[iH:_X<z*b76Fywn8Stn=`Gu`SWf078x``F+C8NUjM4326a7K<JnF,@xX<.b.xxJ]?NvP.EfX[Nm2vH4Mn06Rq?Nf;f0Fr0`fUN^TXzevhQJF>w++kaeo^JVI];Otn0n?rfqh2R91O?i_DbbnRPH0)]LZ.J("
def Kc:Abs.Fn:=⟨3,[.v 6 true 20,.t 7],gC ")yDXVwyCkrsrjs6KN:`Dt.YkOVx6.NLVb6,=IN=rh+xPXng*Q=V;_(hoy@(JuWbc8VdCkI[`JTI;]+0Yz)sv(8A6)Vs2H]Hez`vw1N9.f=DipULOU<sw^ply@FLC*[XUQcF(hnwt`irKfJ+DwiQp(rwP761wD,J5X6i+KbFm)`iqUQA.E.L++uncNi2oeF.rftzYrVsVI`r>]dVHzpY>i?VPpQqot,2EARI4H6)IZ*qf)Jw2*+CJUHg2Oogkq+[>DmUsf7VFnMY8Ii[yWUF0)zKra.w=l_b`>_L4SC1f@RUfaLHzfcBbUAB.q2MQ+QIXx9y@TJnY,J*8_(tu5IzXoiWkc`8K.z8+vQK[(u7QZptrF<^+KrfoXQrgXD3rj)(eYcSiw]q)GDKr,`Lw7Mi<djqiatsu5no^Umhl8>[sS6ey`onAi3iLakgD9Z5L8nyJa4V,_W84Ls]oP86gXFmSR(0"⟩
def Ds:Abs.Fn:=⟨2,[.t 4],gD [] [qo 14 (.I2 (.N5 false true) [.t 11,.t 13])] ")]*lLYPyTEB@g=HH,WK8Mn;HGl3mS4YL2;24D3v_y(0"⟩
def It:Abs.Fn:=⟨0,[.t 0],gC "LM6Q3EzE+eLCE(e?iLz1ByJcm0<xy=,aR<vf64hea9PmO*,a`<l`YWAwP*ZB].aeSHX"⟩
def CZ:Abs.Fn:=⟨1,[.t 2,.t 3],gC ")eKdN7YRNRcryE[P(XxU6AupREn0Rg87nB.f]SXvVL`1ig0"⟩
def C0:Abs.Fn:=⟨1,[.t 2],gC "+Fsmekw7*1:sD*RF8`MMyC`=G+aAq)gZhd)hJ>TR0"⟩
def ga:Abs.b9:=gC "47+F;GOVK[QSem1JNez.w^Q*tMpgd`y98Ny4lxsgwCnsFR^iWt38pswyh[)Lfqq9R"
def kD:Abs.b9:=gC "dMxdO<knH,ggPKtqz=0[=7GW<r*E5]QrPiYP>mk;rt`cMoVwME^RuH32srR"
def Bn:Abs.Fn:=⟨2,[.t 3],gC "+oAm<;_Jr[Q`fQAMmG]>i=6(0"⟩
def Fq:Abs.Fn:=⟨0,[.v 0 true 20],gC "*@9J0OUpcp)cO`nTTrL?]L7>wn2Dv(fP0"⟩
def Bs:Abs.Fn:=⟨3,[.t 6],gC "IRK8_]_)6RL`WWtN6Thniw,kbDBb>0"⟩
def uU:Abs.Fn:=⟨1,[.t 2],gC ")VIrC])+FP_1AzykC6JBT`zff9N.(0"⟩
def yn:Abs.Fn:=⟨2,[],gD [] [qo 5 (.I2 .U0 [.t 4,.c (.str [10])])] ")Og9tJCJwYEGM:o.("⟩
def uL:Abs.Fn:=⟨1,[.t 2],gC "1ve=>peAEu=uxQwvUAH__ooi^.yBbBlm2oHf_hP6j9Y;i,.vM>=m0tXM?8CslerX3koKl`OI]ZPg0"⟩
def vW:Abs.Fn:=⟨1,[.t 2],gD [] [qo 10 (.I2 .U0 [.t 6,.t 9]),qO 6 (.I2 .U0 [.t 5,.c (.str [46,46])])] ")Uwv@2GQe]P)Tp56ROaH0Eqvt_PGJjy*hR0"⟩
def DC:Abs.Fn:=⟨1,[.t 2],gC "3G`WLoUqv?r8Z+_^)([D>KD]LEXT7WUe^*J_7Wr.qla@IX^P8(0"⟩
def gB:Abs.b9:=gD [] [⟨some 26,none,false,.call false (.t 22) [.t 23,.t 24,.t 25]⟩] "MNE1G7I+=W,Z9cDq[R+C8nupPL7vr5N7pf>nB4.*X@d@ND9utfUDJUzszHbhCmAtHou)5s=X"
def jz:Abs.b9:=gC "0e(?`55<FL:JiPL8A5:2?3JpU5c5@YYTYNsesv3MV[1eMJk("
def lW:Abs.b9:=gD [] [qo 36 (.I2 (.N5 true true) [.t 33,.t 34,.t 35])] "K*J<:whjU9rHO]?Cob<z6(eLm>E:WqvF21L1Est=HMs]>bfPHiZu9v+@)16.26sL;RiBUf1[Y^i+1SjWNtN=(Uhy>]uJb<Gz9I@=gR"
def lX:Abs.b9:=gC "*r?+i,PWRT(1h_)c3+6Ah)m[*XZdhdsw]VDuE5A7[),gNLhOz[R=xSGJwjCI=BMR8y15zc;H5x3RmPza6FJXM9WWuh(6>0>LJ6];bND1Ay:wYI:v0p("
def ow:Abs.b9:=gD [] [qn 64 .add 63 (aX 5)] ")PwgT.aq<0P.Wg+oz7+yf)@:AqtDldyVdt*.zBl^aIGo<O:A[G]rgyJakqC3qnNBYMfi>I8gFj@faV5?@*;yg[4sWO0nJNRFRC]GlekJv=6[Dz]]S,7iOy5lCosX,v+9HTh("
def lZ:Abs.b9:=gD [] [qn 101 .add 100 (aX 4)] "AG?qkB2Z8CaUbd2>+6RJ]p3?B?0d42Wr<[:_c[^.UL*Do2iWifkK*YAqP@d^Yu5:0v:<aiWr?soe6R@wzISESFi1+8v.p2;VH.+usz?wRq?*nmkc:tr;UGhz*blR2x[:("
def nw:Abs.b9:=gC ")+?v1z2tEiEb]y*]K>lgM_`DC3y=>=ltq.H(yCIACD[S;tMz)Fu9cmD0YMNWddN^tbK<Az_1EZ71bcY)ODI>R"
def pB:Abs.b9:=gD [] [qn 37 .add 36 (aX 2),⟨none,none,false,.H5 10 [(0,1),(1,1)] 1 55 (.t 45)⟩] ".e4TKm+t6OFp4=9muxLsTuDiZS6=kkf^eGyCa5**nLy)[;2FKk+Os(Fg:fx_ov<SWBMl^(fOoM`Sa9:.O@3gSC8G=TX*DCOF4;56E9anY:("
def ov:Abs.b9:=gD [] [qt 1 91 90,qO 82 (.Vf true 4 (.t 81))] "APZ8gl:gsw+_X96Mhl*+Kg@EZ_Y9qWRlC<5cL0::sGdG4EVn`;c]M23esF`gGPwv1rySVTmFhB7U2xrjOrNi_V.MR"
def nB:Abs.b9:=gC "gcy3xx;c<L>KqgNTTZY+)p*5igZ.faPO],2wf*UFLd9zNoaIe_Yk2)Rc:3lQci8)z`OMT3hbyxlt8J)YvaiOB:WiRSlHRs6;S4Sb>EiXFR59ROh("
attribute [local irreducible] oj nv pA iE om kI jw jx ga kD gB jz lW lX ow lZ nw pB ov nB
def Is:Abs.Fn:=⟨1,[.t 2],gD [oj] [qn 42 .leq 41 (aX 5000)] "AkMs,wGe>Z@3QkUUbs)TC4gkYH_*p;sBIJ,0yC8_+^_vhvar+5K[d1R@S:zO8eJODJj5s=fkeW9xoOO)?Jv5w(Twh,]5L^5Wc6qxU)<g0"⟩
def Fu:Abs.Fn:=⟨1,[.t 2],gD [nv] [] "+bQV9Q?h?<OcwfREdHs=NSL)lwL>0"⟩
def IA:Abs.Fn:=⟨1,[.v 2 true 20,.t 3],gD [pA,.cF [1000000]] [] ")MlD;?z=gMNKgP`Ln)wLFJXr@BsDROZHPfyTuCczd:.9bmZ*=4A^.X`AG(0"⟩
def zJ:Abs.Fn:=⟨2,[.t 4,.t 5],gD [iE] [] "H.v[]1SN]UNcFg^`JY@87bZXyULb?o=pT1IO8OtA3uE*W3S1njRkM._C2ribTGxeZt9?x?<ER+?i6@ENMWtj;w`3L=AE1cKjzSh7Rg<sq5S4UR(zxbcowQBThLb>QP+2mkDeEbt.(O1?.Jo7omZMXV<O[gOSOrYtPpj>0"⟩
def Gg:Abs.Fn:=⟨2,[.t 4],gD [om] [] ">JN@vn600Eh+OX@srbXKU>zGQ.3R33DtLl]v`uTYg0"⟩
def rX:Abs.Fn:=⟨2,[.t 4],gD [kI] [qo 25 (.YM 1 16 (.t 20) (.t 24)),qO 24 (.Vj 1 (.t 21) (some (.t 23)) none none),qO 19 (.Vj 1 (.t 17) none (some (.t 18)) none)] "5I]>E`:i=nIF[rL?51Pob]yilStbabN+tr7dQ8z7u7IpY]9^X14:y+=T<304mjM>:X@gQmt1W,NWp>0ACaoe]uv0ROtM(tKcQXo2<JNK[0M7kUz>0"⟩
def Bo:Abs.Fn:=⟨1,[.t 2,.t 3],gD [jx,jw] [qO 37 (.W4 .i64 (.t 36)),qo 9 (.mv (.c (.fn 42 [] []))),qo 7 (.mp (.K8 115 5) [])] ")dX*=sM+N4Bllppb=qJRiEF?<d2n3VXuG*`0qHp[xqm7iVLdh3aOMYc=+mf41WOyzOhXevsT5eKuwpm=`kq.2QpTV3Hx_Z:imRL<<tcj0+7;fsfPL5lUiGR]1`kH`JmJ[.JT1u*Suh[GikURTy2=4rQAp*p6ruZiCK`C+=cKQIgnSNGE_)I11vla]fMIXwjL[Pk(,JmCCDD=ktUN.^S0A0^(7hh@_HL1O2zig0"⟩
def E4:Abs.Fn:=⟨1,[.t 2,.t 3],gD [ga] [qo 11 (.YO [(9,4),(11,10),(12,2),(16,2),(17,6),(19,4)] (.t 10)),qo 2 (.mv (.c .zg))] "P[1E=I13t^:rrlZdN7d4vP=E9Wmm:[ICWtwJR,=HB@Ad,Z<>Gg)AyRM_Mqv@;an30Mdv)izn50;2f(0"⟩
def ma:Abs.Fn:=⟨2,[.t 4],gD [kD] [] ":op5GANzS2MZjZ2SNWXtuGYg0"⟩
def mR:Abs.Fn:=⟨3,[.c 6 false 1],gD [.Uq (.t 10) [] gB] [] ".LfCPI3+hOyI*g0IIl*eFG?^Qnht(jA@)i"⟩
def zL:Abs.Fn:=⟨1,[.t 2],gD [jz] [] "Ch3^`KfMz_)J1XcfuiPuxFeOeo8(0"⟩
def Fs:Abs.Fn:=⟨1,[.t 2,.t 3,.t 4,.t 5],gD [lX,lW] [qb 17 true] "H?kpc]]br5VtmNu?Ccp?c^?IY:R=7n@V)NIscWZ@r2WpoFMX[:`ooz@z_)nkCyE[r3phg0u=XlN;,vo_T8=<iobJUcNBid>.Xhpd5[k4r;kkgWGbV@ZKzFK*mvnN*4@I,0;l..b7Ogp0s]XuuIj[(eI)iJV)rxW=4gEYAH;qWKA1)+6ixR14HTVeAGp.1K?Pgdt17jJo?6j1.338n5l:[j[aaHQan;pjxT:+GN:t8C?VPeySYbGI<(Vv72E8Gb@(Rs_Fb9(d3eA]<J0xISWx)SZo.qJCZfacp33d.1]B3iVXwMv;cEe^3F+Op,+.pH9E_tMH*+ob?tCFOXz^WBv*Qwh`E`mk[_oF[;)gC6SzS0Inxr9ZZ_zPYxhDl7[p(7eqQw32YrT?*tL8(G3;(_+F:bMAsjz[JhLhjF.PJ5:rD@.EsDWa^tgmOzk=<SmMMba@WCc5?ozm`py>>jbSvc)ZlvlCs2gekTmWATn;aN:vOB,K[L*9XyZ?ULdVpA.VX8`]M^SwF4fO]Fq]oDh47+sV<po7KUZqE_4d?UqzZF.fSd_PwYJO)SBgflReKKsJcNY_tYpn3T0S@H@vODh?>Jz3R0"⟩
def zQ:Abs.Fn:=⟨3,[.v 6 true 20,.t 7],gD [ow] [⟨none,none,false,.H5 3 [] 1 135 (.c (.bool true))⟩,qo 15 (.app 3 24 (.c .bz) (.t 14))] "*j6=m@xXrFC*+4+]jh(o?E8UOP.NRWkQ0[kY6g2L;E`L@4e+r8bM9>yzaa<1<M=2d:<[rJt82uG8Y*IXGatA3tgC^iD)o^Ef:En_]mrJ6X;;SQ3Kib,x2xl<813.(@T@5z(mcw8=nN851>As2=P^);>k2s3*;lJ(TcW7(RgEfu;0*dLSY[jLs+:G6ku6?wklZe0o7J@dNI?mUf`PfJ9,A3r*2Mwqy`sct^iekyd^tnXy(RLd:w4+Y`>X3z6[dTKhO2RIpMvgbLL7JC2_+oISu*0[;[DaNsj`hC:bwk>=c+S5Br>jwF*<WdH2AW_6uEQV=pJz?g?0?>p7U;;<HlWEt^CeIesmp^Z[80z9f>:LbV[^ZNISCJQsDL7SbNPW8+JQ4H(5[(NFT^?kJ+N>L[2cV@r;:`qIdK+4IM(SGpu?@*8oOJ1s:h:AaL.<TjktCS5i<wL,JFgui+lKq5fmeV+;]WWX[UlbQ?+0>*k)](hDyjRI`O=O5b,*>(qi;.j;4M?iv=Upb3I43jY6ldm;XDRywqRZrC*IjQKnA3LXgdup)dd?4NFiY<RTW+F0SMJbxDqDgV*@sfUSO8,x*.@gdNovS9QhhP74??2>Hd4@yqvlF=Ji)Hzkts:TSPQjRfwcW:6i9.i:;<6`*ALF^p7g0"⟩
def Fx:Abs.Fn:=⟨3,[.v 6 true 20,.t 7],gD [lZ] [qO 53 (.mx (.c (.int .i64 (aX 0))) (.t 52)),qO 52 (.mn (.t 51) (.c (.int .i64 (aX 9))))] ";3B+X2FJKB^1@gl*k36,vIIgMR1YG+=7cO@xu6xMbq@5t*_i]aAwU5Av0Ek=M.tF=^kYj:>;FmUMg>EKo^fa0+q>XBW@f;CYERmj6J0U`pX^3gGCN7Ve_u.Lh=s`?YH`u]8ODGendOjm[]+l(w1o9_=lm7ZT9XAGm*7tQ6V_3kmIxxbxr7;6QY[`;R3,2gtqyo`?MIA:im*ufphe:eEz1nFeJNmSW60HT.DI+Is^Y>E5da3ULvU4jvDH_[W*2KAt5:d@c2KolKDEzP>BBA,ue0l]R[0r.9SXShSKgoaP`MFz>T]m[tcv4(]L[GctG[SQ16O_)B61b<8CTAt`P(G8lCCX`PXDsQZW15>EFWgb`2KbUnBkt9Ol6qbq5V1`ud9T*R05wRDKUYq[ebcnQn<NZ=nXvXMSf3PS0Xe*5Vvz[xwAyN[QZEPnR?he_0,RvkSrDoNv=9>8F:.X>;3ZVCqb2Of^lqWon45hjiMghg+Z+fihdD9?6(g5Z9n,YaSvMbX?4bd4X^:oh:W_[:=7g0"⟩
def Fw:Abs.Fn:=⟨3,[.v 6 true 20,.t 7],gD [nw] [] "*T67TdcsSG_48cx?lY4GT[@R4dpkfp]hKdGmLcsG`b*AyjLNl*oZ.p:u8IQUew914K^Zd>j><VH]E1)Ewt*QlAa8+zApu01^^K4Fiyvb@V]Q2TIe?n]U]ZtXHJf;;3bj>D0,L_?ZL3^m)=GP,yhV]ZPt>Jl)CPhO2nCpYD>NXlDuvW;@bil<Y*jadw(dPvG81FqS5wtw[Y9k_Nf0K:]A]iuY3h`g@+=xuyack7g0"⟩
def IB:Abs.Fn:=⟨4,[.v 8 true 20,.t 9],gD [ov,pB] [qO 92 (.Vf true 20 (.t 4)),⟨none,none,false,.H5 10 [(2,1),(3,1)] 6 10 (.t 31)⟩] ")Rl>O1Vc[uvud<T6IiK?X^6mE(jSzHFYGcn`s_ffdAHmf_F_m=;Q(lr`aZDG<O8.vPA(zVOZ^s`R4vqsqaiGCOJpQmHK;Hr@]A4qh8Vz3^*DC[j`7D;Ey2@z?>.3OK80.Hi(1+:;Cp3iQ)DtK>hkgQSv<]MQMbgqo42R5O[mKK1EPyEtnhGMiqCzZQf:T9=0pj?WJ;1_=vAeBn<`]H]uqLl+:;Y^sJ.+CGTOrd*Le1uoiG]b;_5>(s?MHjp8>0"⟩
def Gx:Abs.Fn:=⟨2,[.v 4 true 20,.t 5],gD [nB] [] "V<?(s0T4wG2EIu^tAftz49D31bt:^FF*W2Q?.65n_uo.:b91t3N<I<;Y)^3cAo9w1yCOxo^:[w_W+nntb]Myw,JkI]Ich=:F_<hROxt0N_D)BnIDf]Vi0sIR40ZxHV7f82ourz_eTj9j3T:[pl^7QA8HdSue[ofV3I1<Ns5.X3ssPLpTVi,NUY4:gWE94b3=ne5pIw:IqFw+>0"⟩
def EO:tx:=⟨[(5,[6]),(4,[6]),(3,[0,6,7,8,9]),(2,[0,1,6,7,8,9]),(1,[0,1,2,6]),(0,[0,1,2,6])],[],[],[0,6,7],[7],[],[],[],[],[],[(2,some 1),(4,some 5)]⟩
def tF0:List (Nat×tx×Abs.Fn):=[A0 4 tJ,A1 [0,1,2,3,4,6,5,8,7,9,10] 8 Is ,A3 [] 9 vC [] [5] [5] [] [],A3 [] 10 Dt [] [4] [4] [] [4001],A0 11 Gh,A1 [0,1,2,4,5,3,6] 12 Fu ,A4 [0,1,2,3,4,6,7,5,8,9] 13 IA [] [2,4,5,7] [2,4,7] [] [] [(0,[1000000])] [] [] [],A3 [0,1,2,3,4,5,6,7,8,9,10,12,11,13,14] 14 zJ [] [11] [] [] [7001],A1 [0,1,2,3,4,6,7,5,8] 15 Gg ,A3 [0,1,2,3,4,5,7,6,8,9] 16 rX [] [5,7,9,20] [5,7] [] [2008],A3 [] 17 Bo [] [7,11,13] [11,13] [] [4001,2005000],A3 [] 26 Kc [] [6] [6] [] [],A0 28 Ds,A0 29 It,A0 30 CZ,A0 31 C0,A3 [] 32 E4 [] [5,11] [] [(1003,[(9,4),(11,10),(12,2),(16,2),(17,6),(19,4)])] [],A0 33 ma,A0 34 Bn,A3 [] 35 Fq [] [0] [0] [] [],A0 36 Bs,A2 [] 38 uU [] [5],A2 [] 39 yn [] [1],A0 43 uL,A0 44 vW,A0 47 DC,(60,EO,mR),A2 [] 61 zL [] [2],A2 [0,1,2,3,4,6,7,8,5,9,10,11,12,13,14,15,16,17,18,20,21,22,19,23,24,25,26,27,28,29,30,31,32,33,34,35,36,37,38,39,40,41,42,43,44,45,46,47,48] 62 Fs [] [12,18],A4 [] 63 zQ [] [3,6,8,15] [3,6,8] [] [] [(17,[8]),(30,[8])] [] [] [],A4 [] 64 Fx [] [3,6,8,9,10,62,134] [3,6,8,9,10] [(17005,[(1,4)]),(21026,[(0,4)])] [] [(22,[10])] [] [] [],A3 [0,1,2,3,4,6,7,5,8,9,10,11,12,13,14] 65 Fw [] [3,6,9,53,60] [3,6,9] [] [],A4 [] 66 IB [] [8,10] [8,10] [(3013,[(2,1),(3,1)]),(7018,[(0,1),(1,1)]),(7020,[(0,1)])] [] [(16,[13]),(8,[10])] [4,21,24,27,33,40,48,95,98] [] [],A4 [0,1,2,3,4,5,6,7,8,9,10,11,13,14,15,12,16,17] 67 Gx [] [2,4,10,31] [2,4,10] [] [] [(9,[7])] [] [] []]
theorem kF0:(tF0.map λp=>chk p)=tF0.map λp=>some p.2.2:=by kernel_rfl
end Go.Proofs.YtpapbbojmclkgaaGreatDoor
