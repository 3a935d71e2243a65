import Derived.Test.YtklfdfnoebnciaaGreatDoorIds
set_option linter.all false
set_option maxRecDepth 100000
namespace Go.Proofs.YtklfdfnoebnciaaGreatDoor
open Go Go.az
attribute [local irreducible] aW AV
def ju:az.Fn:=⟨3,[],gD [] [qO 31 (.QN .u8 (.t 30)),qx 5 2] "7*LiNb>FF`FR@cVCu)r*ULws6bfiBapx8b0i?t)F)[)7*PEiCd0?]_9.e+RqBVoe8?W12TJ.yZE;VEdHI^D3L2Zo5MW53:MtT@=krk;spSU[=lSoA9R^HnCgB<qI15WOvdycvQ,adqc=Tc:HQq)YqQ1vN6JG[?Q`5VwMY882DLMdn6Lz=1PxZ<AK,nRkmKjb)1yvz3LWXM=0HYG]Zkxm)QYxx7o:GCR>yj;cVnFq1?Ul5EA4eGOpFv+lc9g]+lB=E1YN.LH+7(Tdnj0c3>46"⟩
def fO:az.bX:=gC ":BMtbOCLIrW:NEx59ChVE(mJjO9T?WzG[3IsT7czpw:PgNa7.=k`HiO90y@y)5>ieEEzCuy3u["
def fq:az.bX:=gD [] [qn 163 .add 88 (aW 1)] "0]cTYEyPUnhW[CA_qnIb=]4gpmZCcA2cMCEsM4*e5R+oX2c1bhU^HoGf0pGF]AVlt`n*yQ?bIq(ey<JxZPdTjIne`B*FK:q8aiX*fHah*XI9@4xKKPu>y_H]OI`B(ytfcGi]jK.aARw89fZlJQ11k;c4f(6:2F>2jTcLJ]RMmS^rG9i2,2XTcR2UYzo25mpN_DRIbTt3Hh<ws(C>u5?^4+(7YRz51^@30Ojha.(y*Wm?.[K9Q5>YV0LBILz_4UBUM+V79:4o6RBm@IGl00=8z<6YlW1y2A=DSK2y+Xm]FTiv^syv>0]XI0DJr.J[JSBqMG+ET.+PKTTrxvGd]u^2=l,5hPw8,qBrEj^oPQqadsMCU_"
def pY:az.Fn:=⟨3,[.t 6],gC ")Vz9EfL:8NDFj>V,F=?]^eFs6>^`S"⟩
def nh:az.Fn:=⟨1,[.t 2],gC "]_@n7oD3UpSPoHtZK1"⟩
def pG:az.Fn:=⟨1,[],gC ";tyo+oocelxeiM"⟩
def nL:az.Fn:=⟨1,[.t 2],gC "*wyUspBtyV)9(9dnIFrNK[_(n"⟩
def si:az.Fn:=⟨1,[.t 2],gC ")gdr@<Z)mUN804AP?82PHO1XP;CfVS@6(n"⟩
def eM:az.Fn:=⟨1,[.t 2],gC "C=;*t]f9H?x9)^WbHNBfUp>iznOhY"⟩
def jT:az.Fn:=⟨2,[.t 4],gC "RMGURy=1y][j5bZ2m`z"⟩
def jJ:az.Fn:=⟨2,[.t 3],gC "3cHvQvAl,HbLO(2nD>XFA:Xvy"⟩
def tv:az.Fn:=⟨2,[.t 4,.t 5],gC "dN>hKzStyi^BOWEWV7H,WS0wBtMa65:st<Mc8kjm>mb@z7X1T9[Wd.:9ktW+<W],jH6*LAe(YOa_H"⟩
def kj:az.Fn:=⟨2,[.t 4],gC "*_xT7c<*`Du_Hw?9Q*oYze5@N:5m9(TLD;`]QiMVeD?z"⟩
def ew:az.bX:=gD [] [⟨none,none,true,.st [] 1 (.t 51) (.c (.bool false))⟩] "L8e)tjRMIDuX*qQC0cA24nk@j0*RFf71,IzwdMj(e4Vbsn(Fd7mZI=vLmHD2n3ub8l0CSt;<^=VfMG8hJe1KmllY>v[To9Umig_vgPjrE=8@GLGzJi)9iU1o<uP*CoeHIwT(0SB`LdT<ktqGE9W0TIxYHrKR;7MNIR<8z2ABSVFA9zt*t^bLRnx5Iipp1>W,Q1<3*vNHQ1,FNS3=goo<:J+B"
def lg:az.Fn:=⟨3,[.t 4],gC "fZft@[m.O7l`p)`fk62G[;*_TXm9]70hp3n,d(G`_Q1fS(OyqhjeF.bc="⟩
def xj:az.Fn:=⟨3,[.t 6,.t 7],gC ",]?KBoH=>FUsC^I[RMu>eK1O5KU+BS^fR`k<=>(0XVL?ji3]zuS5H6o3c+*vB4nKq0KSWIfQpG1aQV0B^*SQts+cx>*VasQQ+HWD6"⟩
def ic:az.bX:=gC ")08.4OvW>qN9>SagiRb.:y=1ptzCkb5Ig6my.rH>^b3cj1Kuy7t=82x>+dq+h=zPi^2`.`:>qv`eeKX9kaWx99[.RjBH`3k?ElEQl*bF@yQ,mq)lP?pqhLm6eCk^fAY?ngj09wE8URiRWaL5iIdn4(:[do0;?y^E<LiIJ"
def rC:az.bX:=gD [] [qO 101 (.mn (.t 93) (.t 100)),qK 100 .add 98 99,qt 1 85 84,qo 81 (.Fh 3 1 (.t 6) (.t 80))] "+_fB+,CS)iGg](yq;mbyDbGDlUCD:TN1.DbI190,y*^5;@m2o`LCa55=G^LzMoEEEwpO..yUDpA@@MZ2T)Zm+o^bbZOAut2Tjz]NsMXd^CrL.uhN,(Q0XZHvlwZac;)cETHmkZPnOPOki"
def l9:az.Fn:=⟨1,[.t 2],gC ")IYu*QzQ6UW`u4XK@4E^V4c^cS<b+HO"⟩
def kq:az.Fn:=⟨1,[.t 2],gC ")eUNnM=qQYhD1JF3xyRt,KrwT`@`+@zGo3c]anvHH6XUYSPM`>i9^R]*x8?LrYxnc<91A18.)kKn"⟩
def iP:az.Fn:=⟨1,[.t 2],gC "C=7:kj=`S*HPwE7Z4x8lEwV_7d75Y"⟩
def tu:az.bX:=gC "3g_4mgZH3,UnnhmbK(i<Q`wlM]]@N("
def j3:az.bX:=gC ";S:Dg<9rg@3]cytVLbYhdB?W@?=RH[5?9X0bN+_N33JaK@>hTmkeeBWtWw]<z3vZ^<oVq5uO+7B3vn3(3Wv.TT0XMeiXl[L68.6SS]c@Y8eO3ve]]gt"
def j4:az.bX:=gC ";DDSChQzLFlO@Pvi0FD[()DlQceoEmf=SP89etID2v=j).bAf`rrO@q;L>7_S>s6C?k@o2q].3Ru(l?YqZF?=C[auKabr6>6(lOcN,[lXS)NF)TO_ZWozt_zE;=s*@u>X_6KVI=C@DbSBv`b08?(Cw[kx45xjFblj*g+Grg<d:Dxv<ovXd3@3e+m;J=BbWgOtr=J"
def ku:az.Fn:=⟨4,[.t 5],gC "+6tVYYsw7h<?f9=QHXO168??KB7ez?Sv^WR9MpmcR@`qc7fBObDf^DM*Cy0a4JQ^RBH3*Zb>b]YifuR+vjqp+.PnU=sK]M1V^K3)1ZINsUgW<jbrsW06Pf4,ncQ1D^rW8tSE9n<b`tJWv>XafFm;b_G<edD92:PLdv9`(AL)jN`iM0m5T*83*T6s4>"⟩
def oR:az.Fn:=⟨1,[.t 2],gC "ZQ2_D)WFdnzxdnfSP?Qu3h)Y6(n"⟩
def rP:az.Fn:=⟨3,[.v 6 true 10,.t 7],gC "mNE1nvFoF:<mKQyT,*jm=VX`o>PFq0sl^qSWxKT;[^EuJDoCnO5e+YdvE:6:*Tm>.8Yu_`>mDt[9?E:3NEYx(czXc^9,BGj_*t0a>lVk]@IEUu?oX;`p4H(`lcwecBMizKj`4v]]^n0Us"⟩
def tn:az.Fn:=⟨2,[.v 4 true 4,.t 5,.t 6],gD [] [qo 3 (.D6 (.t 1))] "*dc0hA2KV2)io*:?E8.j(qnSny2Z8oxhmmcwmS69Y^ipVdor.hWrQ>WbWfFcQe*P])J=l1^Of)25K+MSiMr9w`n[hAQ@Vdp9XkfXz41]K5),nKJgh0F0V`RqLNl=>Ua8:;fL1?o]8m72pXMvnOx0w[>n1MFjeR??1ngRQY5SV+rONVt^_,lccej_qPY0pI"⟩
def tj:az.Fn:=⟨1,[.v 2 true 2],gC ")>.kz30SicrZ@(j^JPI1*98KfwtUmcj"⟩
def l7:az.Fn:=⟨1,[.t 2],gC "ZQ2_D)WFdy1EIrw_Raqnv<wf_(n"⟩
def fy:az.bX:=gC "6O>[,?GuZ,j>A4+3T7F1VF[=tv@WU6RwU<<c,0,LC]6tI=eiYE0xhB@B??18N)vF5(R82n;;JFngOtU5o]Z,xiNqn_5J^YCVdbz`zy2pKWc4vjN@U@dZnkIhc4sH8D6Vad[F^MgXukfJSz(]enKXr^du"
def qh:az.Fn:=⟨1,[.t 2],gD [] [qo 46 (.RB 1 1 [.bool false] (.t 45) (.t 45))] "22Hc_PqQVS(k1bSieq?AAyp8?lFvUUX=0U6<QOree1O+6R)sLYW3K,u0,i6Jh);+xBWl0TWrhL5FuamT=3ao0E3Y*bt3Cc7`Otp]a:HQ(:b[KSw_5M):wIfwRMpcB05FdXcBgc?n,k`cGF9,cNiZU<Q35SDpMOt`lniA[jOG*ch507rhFXvPD*h;"⟩
def jU:az.bX:=gC ")ZexoMxw3Y@bXt;n@J2VGxi2Moe3K7V7`u@Yuy4W3[VQevAdr+CImoq<YvrV"
def wH:az.Fn:=⟨2,[.v 4 true 11,.t 5],gC ")N)Y;OoSWbGH*7X:8`]pogBjJ[1uPsN>BDj_IHHIKd@EwD^sk?[zs_7jhOKz;t9Psy3D<EG>:c281uOO[:^sS*N9MhCJ:[q"⟩
def fQ:az.bX:=gC "O_lUCbfs=GPcAYe=In+=B_Qoqc3TAh3(wou>zC*Jx2[=az)6+w,V93=)gnGq]m:ZZfh`F=4inJ5Qn30KS)mOza"
def mJ:az.bX:=gD [] [qo 13 (.call false (.t 12) [])] ";*f`9(v=O4`@Do?69:@Md,W+lz=Q2p*=5^V*V9UJ@mpVq9I[N]9m;hx@=`,)OL"
def jb:az.Fn:=⟨2,[.t 2],gC ")C7ZDKxk9AUuKGF)GGUY"⟩
def jH:az.Fn:=⟨2,[.t 4],gC "?q))NF@:;=v^OWcO0hia*8KC8_C9*E_;Rs^XrOQ"⟩
def uB:az.Fn:=⟨2,[.t 2],gC "yq:=lPF5OdhpiK^*F4jY"⟩
def l6:az.Fn:=⟨2,[.t 4],gC "0Pb^NF2nkyIU?BF`=ku4X,UO+,WpdOaeqP9B0vz`eJB)papL`oVVWqQjZ)I>O^gA.>pRE(ejMBvHx(l??uoolO?8SlQ0qECw0jG+Cp"⟩
def uC:az.Fn:=⟨2,[.t 2],gC "yq:=lPF5OxU?mC@q.x+Y"⟩
def km:az.Fn:=⟨2,[.t 4],gC "*r=?summsGONio;5z2aK2qrewJr,GiM3CGXYhE@oYgRF^MNIe:KW(tBy0o3sK+BuZqlX1D)LbFJ>b[UguF:1dYkY+9cnFefAG+Cp"⟩
def lf:az.Fn:=⟨2,[.t 4],gC "6_RpySsszrD.Bcw3h+aFx;Ok8dGo5H3rq`vH2b)v<e=Z5Tp<f"⟩
def lP:az.Fn:=⟨2,[.t 4],gC "8w2PI(wo>24bZ8s*P0_6ER]Uz"⟩
def mr:az.Fn:=⟨1,[.t 2],gC "BlvyZxyb(,)7i<FbJEB>xP35>E+h?d*^O@bf^o5hPpGgdXuylfs<8n,cAv@=HzOi:E+[r7vZxnkhm=7xCGD+x,BH(5Tj7By^bm7Km.@3^B?0+JC1"⟩
def kS:az.Fn:=⟨2,[.t 4],gC "8w2PI(wo>26V^,0c5<nUD,U+z"⟩
def lD:az.Fn:=⟨1,[.t 2],gC "<y91,1rtPIQOE7ou+5IDzXDpHprjd9jpgKsQGYa=vkFcWPf6vslBck.QAZx"⟩
def sk:az.Fn:=⟨3,[.t 6],gC ")Vz9EfL:8NDFj>V,F=?]^eFs6>^`S"⟩
def lF:az.Fn:=⟨2,[.t 4],gC ")m?QMcVb.H639zUIdOuFbnSd],J(y2KQy+K<MNMNF_Q;aB,=pin(7:Yk:MutrjYWoqdC3nq2+A^=4QEUgLpS,JxvbjM=jyRo4]1i3xtL<ncRrg6L;XU?bNA?IMFn4luD*Cz"⟩
def fH:az.Fn:=⟨2,[.t 4],gC "RMGURy=1ynxYKr^9B7z"⟩
def lQ:az.Fn:=⟨2,[.t 4],gC "8w2PI(wo>29+F:D4MqcBhtMUz"⟩
def o9:az.Fn:=⟨1,[.t 2],gC "R<CZ2F^TWVReB.t1"⟩
def um:az.Fn:=⟨2,[.t 4],gC ",tq(]R;Vg0Wmo[JyRJJp2[Az"⟩
def wI:az.Fn:=⟨2,[.t 4],gC "8w2PI(wo>2:sI.Rub>]2w(CUz"⟩
def xq:az.Fn:=⟨1,[.t 2],gD [] [qo 4 (.bin .leq (.t 3) (.c (.int .u8 (aW 2))))] "PG.*A9q9CJ14Y"⟩
def cz:az.bX:=gC "F[I0,1vneMk[FF8O*6Jp<kQM7e>,xD3(d.Ey47rWG1z:`8P?jOm0Q5Z;@LfByJBlLOwhbv[p*B"
def kr:az.Fn:=⟨1,[.t 2],gC ")B_gs;>,nml3_FP1"⟩
def jA:az.bX:=gC "*e(J;WYV3Rb]pjAvF(49n_3n,,hi2=(AU..Fb:<=+TEv9*jAnf.6k`EipzViTQgAN_cmabP,"
attribute [local irreducible] fO fq ew ic rC tu j3 j4 fy jU fQ mJ cz jA
def jy:az.Fn:=⟨3,[],gD [.cn [6,1000006],fO] [] ")dXJNRViir_mBXXxe+0fQ1tBr3w0qx>_lrjN^Jtu`@2Za;9@BUOE7>q1PLcj;.w6IDCSLP6J05c6s@Ucyog7qNtsgi=5@+@B+j72uKiwyryX;w4Pm:J7`_"⟩
def jw:az.Fn:=⟨3,[],gD [fq] [] "AKA0VoIi3i66Hv,^V@0)+i`UVzxhK*6yu4__gmS8rOYH8gA8e3;@8i+2dkb.uA(XfM=)oRy<HwzYa3jA*:^,.w_isyVboQVxgXm.Lq.C[esU1jb.Vx@MiZv^)8GGr>3ohP>ysI3mGCLNrR(gmzdq((+B0XUeTW)pD_RJDBrp4EGpgX+,B(ivvTtfhinYEn]5o_RkFy[`8QSWjXxjQ;p[@>M1ZxHZ[xu3<xJrZJm>)^(g819YfWvQfd2DumRDA9h*aSKowNI)16lE>5Bd)hzXcSciguPLrSwg;3qu`wtq9C:g5MvaqYUiV^n8CGU5eYVlm5if10sr6<_v_+yyPoGnYeBm+OZKu(]v5g"⟩
def kz:az.Fn:=⟨3,[],gD [ew] [qx 4 1] "*;_,u=@:o@_`NQ8Hye03]cWi,LDH7S."⟩
def dU:az.bX:=gD [ic] [] ")Gda5L9y]9:bZ`2lO*b4w^oj5xZvK)(:29?b(9>b[Y1R7O?hJ+XUgG7J?YMHKy;4GT[q;dQ_@)cFr^t+FJwi[iJz[uHGK9ibHXYclifk)<C2n644syv6XYLkxEywsWB:V<dyQw;rAOW9r*.f7aE[N)?8tXpvv1K.oUVz5?7RYk*V7gZit"
def sj:az.Fn:=⟨4,[.t 8,.t 9],gD [rC] [qo 66 (.RB 1 8 [.int .i64 (aW 0)] (.t 65) (.t 65)),qo 10 (.mv (.c (.fn 117 [] []))),qx 6 2] "1F5DgFKK;Lt:YG3q7N5Xt=p220URmR=HU0Ms])bCEWWmDE)KPiKNMgKmweRNH7Yyl2fr1yaxcbJdS+K>sks<T=^2].xn5NGfZ,PtLtotbFGo7JC6+C5Q.NMygl>Y,pmBE6Pd(K+:ux@sV*S6BLGsBbh1C@I.I+BH1._pQP=,+m*zJA7?0:J:Ek>*Z.Smj:N0DD;ZaWuWI?ZGAF,)3aI`*3>J6)30:t`BjL;X<z0niwH;j7MYuNJ*+XHq?yP;mlkEdC@`D?s"⟩
def sO:az.Fn:=⟨3,[.v 6 true 2,.c 7 false 1],gD [.OI (.c (.fn 124 [] [])) [.t 7] tu] [qS 6 2 6 22] ",T<PQ]ko9fACblyEL*Iw=<fLX+[zy5K``pC(+7j6KldiH1@mQ+8GVLw0[<X1:Qj?GyKZUDMAlFCo8;DqL29(RLBraZ8Xi_L<gK<^M)ayXpeb."⟩
def j5:az.bX:=gD [j4] [] "4qJFAJ_,4[jZ9^8wi6eb2dFiK,N^AEar@otm33G`*<rRVX0Z9bS<HpIDSLFH9hZhOfon4IaYzj`NJX4Yb7,rv8(1ctfld1gh?ye@M5;r1@BI?GJY@Y*d=cbgFa5,^c1Q=45+AQ@"
def mo:az.Fn:=⟨1,[.t 2],gD [fy] [qb 2 true] "5Y5YJy^eL3)5C365orW4ClIO:IZYW:1n:jgPk,z6Sag*<4c>p;D1Q*AH)AuHiuw5[kE"⟩
def lr:az.Fn:=⟨2,[.t 4],gD [jU] [] ")6u1*U1ETUcw;.^z1=IsTyF?9["⟩
def mg:az.Fn:=⟨1,[.t 2],gD [fQ] [] ")SZDRVLgX^f(`qQSsxYBczByiwXdf>wrsqirjn"⟩
def uD:az.Fn:=⟨1,[.t 2],gD [mJ] [] ".dNoWw9`*_@rbS<sS9;BDPCn"⟩
def ec:az.Fn:=⟨2,[.t 4],gD [cz] [] "owHy]adb0MpyNTxK:3G9Uwqo=R:ePf"⟩
def sf:az.Fn:=⟨2,[.t 4],gD [jA] [] "2f`iC^dcCbvbwjf.c^vUBq6hr6hKBrRUUV?[HlP=CS(eG"⟩
attribute [local irreducible] dU j5
def mQ:az.Fn:=⟨3,[.t 6,.t 7,.t 8],gD [dU] [] "J^O[)1`i>n9+6..O*5Fyn`VrmLv8hvD;KwuegkiEiFb@N:azR>?`@_mjkQU*Nmbfwo5sJ3<G9>6yhIBFAq>0PuXq8I46S;fa>0<B^4^*T03dzLAh>iiNiAu7jYW(BRSDq3y`ZmOr5?]:WCxi:+*BI=CX`pbGAvS3h5^crm+OgG^c4BnYzWlQJHH0_)zN9sxlKZ);2;)Lg<O23P,G;QxxGi`6vJ=lFq7eu)i"⟩
def nB:az.bX:=gD [j5] [] ")FBD=kG<)Upjn]YcnIFNj]kbIj23hssp7HY1^^HunjkWC.>zyFW*d^exi.4@QdD;]7JXvdg"
attribute [local irreducible] nB
def mO:az.Fn:=⟨4,[.t 8,.t 9,.c 10 false 1],gD [.OI (.c (.fn 124 [] [])) [.t 10] nB,j3,.cn [0,1000002]] [] "2Eo+(r;n[?(5+24OSuhjn>umc58P(In?DMa6]3UGBRrUCdm:Vs+rfJI7nBnR,4v]oEH>T5omj=6;F24OW)g.+YhgD[?9dPX_89;9we14w7uTmOsXat*8<l"⟩
def J8:tW:=⟨[(7,[6,7]),(6,[2,6,7,8]),(5,[6,7]),(4,[2,6,7,8,21]),(3,[2,6,7,8]),(2,[2,3,6,7,8,16]),(1,[2,3,6,7,8]),(0,[2,3,4,6,7])],[],[],[6,7,8],[6,8],[],[],[(0,[0])],[],[],[(7,some 2)]⟩
def F8:tW:=⟨[(30,[8,9,10]),(29,[3,4,8,9,10,15,51,52,53]),(28,[3,4,8,9,10,15,51,52,53]),(27,[3,4,8,9,10,15,16,51,52,53,99]),(26,[3,4,8,9,10,15,16,17,18,51,52,53,60,61,62]),(25,[3,4,8,9,10,15,16,17,18,51,52,53,60,61,62]),(24,[3,4,8,9,10,15,16,17,18,19,21,51,52,53,60,61,62]),(23,[3,4,8,9,10,15,16,17,18,19,21,51,52,53,60,61,62,86]),(22,[3,4,8,9,10,15,16,17,18,19,21,51,52,53,60,61,62]),(21,[3,4,8,9,10,15,16,17,18,19,20,51,52,53,60,61,62]),(20,[3,4,8,9,10,15,16,17,18,51,52,53,60,61,62,63]),(19,[3,4,8,9,10,15,16,17,18,51,52,53,60,61,62]),(18,[3,4,8,9,10,15,16,17,18,51,52,53]),(17,[3,4,8,9,10,15,16,17,51,52,53]),(16,[3,4,8,9,10,15,51,52,53,54]),(15,[3,4,8,9,10,15,51,52,53]),(14,[1,3,4,8,9,10,15]),(13,[1,2,3,4,8,9,10]),(12,[1,2,3,4,8,9,10,32,33,34]),(11,[8,9,10]),(10,[1,2,3,4,8,9,10,14,32,33,34,44]),(9,[1,2,3,4,8,9,10,14,32,33,34]),(8,[1,2,3,4,8,9,10,13,32,33,34]),(7,[1,2,3,4,8,9,10,32,33,34,35]),(6,[1,2,3,4,8,9,10,32,33,34]),(5,[8,9,10]),(4,[1,2,3,4,8,9,10,31]),(3,[8,9,10]),(2,[1,2,3,4,8,9,10,11,27]),(1,[1,2,3,4,8,9,10,11]),(0,[1,2,3,4,8,9,10])],[(4,[3,4,8,9,10,15,16,17,18,51,52,53,60,61,62]),(2,[3,4,8,9,10,15,51,52,53]),(0,[1,2,3,4,8,9,10,32,33,34])],[0],[8,9,10,13,17,20],[13,17,20],[],[],[(0,[0,1000002])],[],[],[(14,some 3)]⟩
def tF1:List (Nat×tW×az.Fn):=[A4 [] 55 ju [] [7] [] [] [] [] [] [] [(2,some 3),(3,some 4),(6,some 1)],A4 [] 56 jy [] [0,6] [6] [(1005,[(1,2)]),(5012,[(0,2)]),(7012,[(0,2)])] [] [(6,[6,1000006]),(6,[6])] [] [] [(0,some 7),(6,some 2)],A4 [] 57 jw [] [0,11,13,14,16,17,18,20] [13,14,16,17,18,20] [(18029,[(0,6)])] [] [(17,[11])] [] [] [(1,some 12),(3,some 37),(9,some 1),(12,some 1),(14,some 1)],A0 60 pY,A0 64 nh,A4 [] 65 pG [] [] [] [] [] [] [] [] [(0,some 3)],A0 66 nL,A4 [] 67 si [] [] [] [] [] [(0,[0])] [] [] [],A2 [] 68 eM [] [2,5],A0 69 jT,A0 70 jJ,A4 [] 71 tv [] [6] [6] [] [] [(0,[0])] [] [] [],A0 72 kj,A3 [] 73 kz [] [7] [7] [] [],A0 74 lg,A0 75 xj,A3 [] 76 mQ [] [10,15] [10,15] [] [],A0 77 sj,A0 78 l9,A0 79 kq,A2 [] 80 iP [] [2,5],(81,J8,sO),(82,F8,mO),A0 83 ku,A0 84 oR,A3 [] 85 rP [] [6] [6] [] [],A3 [] 86 tn [] [3,4] [3,4] [] [],A3 [] 87 tj [] [2] [2] [] [],A0 95 l7,A3 [] 96 mo [] [4,5] [4,5] [] [],A2 [] 97 qh [] [3],A0 98 lr,A3 [] 99 wH [] [4,6] [4,6] [] [],A2 [] 100 mg [] [2],A0 101 uD,A0 102 jb,A0 103 jH,A0 104 uB,A0 105 l6,A0 106 uC,A0 107 km,A0 108 lf,A0 109 lP,A0 110 mr,A0 111 kS,A0 112 lD,A0 113 sk,A3 [] 114 lF [] [5] [5] [] [],A0 115 fH,A0 116 lQ,A0 117 o9,A0 118 um,A0 119 wI,A0 120 xq,A3 [] 121 ec [] [4,6] [6] [] [],A0 122 kr,A0 123 sf]
theorem kF1:(tF1.map λp=>Yl p)=tF1.map λp=>some p.2.2:=by kernel_rfl
end Go.Proofs.YtklfdfnoebnciaaGreatDoor
