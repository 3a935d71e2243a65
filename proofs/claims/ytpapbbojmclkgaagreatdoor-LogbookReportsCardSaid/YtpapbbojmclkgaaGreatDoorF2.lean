import Derived.Test.YtpapbbojmclkgaaGreatDoorIds
set_option linter.all false
set_option maxRecDepth 100000
namespace Go.Proofs.YtpapbbojmclkgaaGreatDoor
open Go Go.Abs
attribute [local irreducible] aX zA
def Da:Abs.Fn:=⟨3,[.t 6],gC ")DQ^IVTj0X]+C.(hFrfZV(+h,8bMgPl"⟩
def wk:Abs.Fn:=⟨2,[.t 4],gC ")iL(_Xy>MgTi5Cjtp2gNv<Mnxvb;ddB)TdF61hIW_>L3<8vG,S6OsZXW7Taw>0utLNeP,B=,Agvc3lqcpJkwbbQ?BUc[K.Rf[S0UaWo?6^)uc,nDCu<n[UPG(P0`DRg1fQ3X8"⟩
def gv:Abs.Fn:=⟨2,[.t 4],gC ".wQU<LfRg1;+8zdBuKc:4"⟩
def mC:Abs.Fn:=⟨2,[.t 4],gC "1vNKQ@KpNi4xv)xyWJeAohIOx5"⟩
def nk:Abs.b9:=gC "*=9XFd@FF;Rr_.z6rHVdGWa<Wm:rbOl29r9o[3x1M10Ktj[(ql^uySLzQ=HH;q^,)z7pS*R]e;3*5jf9^Gb3X)1JOKnkRigkVg[rf)C(<u]^81w1qC"
def C4:Abs.Fn:=⟨0,[.t 0],gD [] [qo 0 (.mv (.c .undef))] ")4seREDF>eMYcjRDzc_ulJCZ9otO6uZS`a4E`,E_jwF:*JN=0Iozj_,phqpo8[]c<4i(;BJQWYK7=x4jy`3O`4]v4uqkJnA.);.P5v9VL+9tbh;0xBR+TNBL4E]`u?L<W+VZ;bfkR(ft(EfLEKy+KaN;Zb2+3WUG6Nb>^dtclcrcGNveVBhHMe8_+NelE6xn=7_6=TT,ja*xT^@Jmy25+6NTg(+NT2N5a[2i]:kqXV0Amj;Ob88;VBu`EXvJm?Ju*r;kbz:)8,(=;=VDOKK8+Lql*xMzL=sH)dHrySz6Oq*k7eaYS(<Zr6[9Zgy[3GoOx0i2CDU4MmHRevrM"⟩
def Fa:Abs.Fn:=⟨2,[],gD [] [qo 8 (.XO 200 (.t 7))] "1YFfMt:SYN*UpYpFM7d<wcif"⟩
def Bo:Abs.Fn:=⟨1,[.t 2],gD [] [qo 20 (.call false (.c (.fn 36 [] [])) [.t 19,.c (.int .i64 (zA 999999999)),.c (.int .i64 (aX 999999999))])] "iLNOrY=LDY=a8V4rfED6qd_rL.I4WIOXDA@`5EwY;f7LWOXcBBEhG8DdKi>YpO:2qzo2zL5q]o+L"⟩
def m7:Abs.b9:=gD [] [qn 18 .rem 17 (aX 65521)] "*NB59yeGY*Bgdxj8t)HXyiP5Zmkx:)>zusLaOD.UTg@o5yV6`;rt@crLY"
def Kg:Abs.Fn:=⟨3,[.t 6],gC "=IjFr>G9TG>a@D`h+2mfhy1t=kDv9e)"⟩
def Gx:Abs.Fn:=⟨1,[.t 2],gC "10U(L`<+9WghH?*0:3m)3.[e2KMb"⟩
def IG:Abs.Fn:=⟨2,[.t 4],gC "P7grJ5TfpK(oEX)pRyJN^b*tan2;3B8SBdf6`)FC96E45^(Fd^@^=u8<;ygGju4][D+mvA3_h(VbO(BUW?C<wV"⟩
def Kh:Abs.Fn:=⟨3,[.t 6],gC "=IjFr>G9TG>a@D`h+2mfhy1t=kDv9e)"⟩
def IH:Abs.Fn:=⟨1,[.t 2],gC "7lM=mR^22m*rL0ZamUira.[bqHJwNRt<Dx2jo[L98]tZt0aKr(Az3"⟩
def gI:Abs.b9:=gC "*bfQJBhtSXtz3.,T3SwGH22^m_SG?z@0_.G)JPi2e[1R;X,>EIN4_N*BEY8T.4XEwd8glj`"
def Ft:Abs.Fn:=⟨4,[.t 8],gD [] [qK 17 .add 15 16] "=U9<@X`hDX+taAYU+,[u,k@2V0+FX2(q<;ndj[kzO?6"⟩
def vZ:Abs.Fn:=⟨2,[.t 4],gC "F`s[k+Y53gb)8rP@qf;5huPC`),]W1:q9y.LPCMG;`VD24w5_?V;pNNn)nyjRHR>)osnIDWZxxT,[>Pcd6v=f"⟩
def m8:Abs.b9:=gD [] [qK 34 .add 29 33] "<7D@ozvOWj14`?DEoWo;tfqA9W4yO.8kY9<q9@A9v.cqRC3>b)P36WqXkLO:L@tQlF@uPv>i1U^GGp`fYY`gbFVkN"
def na:Abs.b9:=gC "+aKH+qmIVTCX6D(pNTsoFx3kr:?i*6]c=Ki8b72937;gS5G^NzspmG22UbQ>Iia7MJb_w4X=ZYih6<G]w(Zp=Xsmzi^P:WE0f2P7Jd?cyOqM"
def nf:Abs.b9:=gD [] [⟨none,none,true,.st [] 3 (.t 120) (.t 113)⟩,qN 101 .quo 100 (aX 1000),qN 89 .quo 88 (aX 8)] ",JA>u1H:jCS^_frs*]LArLbKS@:,7b(62I4_:wL0IuUjjI5.z1CIgA+P06^:=J1aPm?3lJF]bm.HYp^IE`?5dVIbN5^l[kpBC.6L>?f>>M7+;U]+3phF.H.](hcp`.D696,*Jgn^TLaJtgCrz^pI_m=Mj+T@8)0BP7d(isIZNoE:n)hG`UdQVEkvetL[Bi^(flV;p<mOQ,(<Hfms[*jquhk^2lt4Ew<3H`V)IUbd^OYag)+(9=HD*qH[`Yqlwdn0Rq1:ZezlKt,mV=:dx5HIen2Q,yb8bji9WF@nhoA5f)ngMd0@`9iGg6)gusC"
def nh:Abs.b9:=gD [] [qN 153 .quo 152 (aX 8)] "*.GPtTtOtd[rA(x]j9XAvwo31DU4QrSC7u<W3nkkxrl7x7:3dzExdp+rc;*+P4TJFlWnTWbf=l2eM9.uo<KfTDBcS4IpOCoS_hME.;17MeT`D?Ys2FkbM<R6l?2:i0M4g:N`(UAmuYZrw7RnEK_7Q6ZsY(Ukpx6MwNY1aUHSTO?CPcapb;9?6g?(?eTdtmjtY=YBn0IPkB6kzYO>jG3puD_.J>1,R`(1htw(CBpt_J<Kkr_:<9)bP)10Pdc,KW"
def m9:Abs.b9:=gC "+7`QTiL+s6*+PSt*vE?Up^_b==gUse<wJSJpxXjV3.08X@DtTPrGVI`Nk@C+o_e_yjG^q>4BFiEHFDoSk@Zymb;dI`nquoV;=(psR=KuaI"
def j4:Abs.b9:=gC "+DWzO5l0@>zIB8B1mAWe0DVgH6:dtMX+:Z`m<CK@BxA*iffg@(68n"
def ni:Abs.b9:=gC "UxDjh?6Mv]kt<v4LnBBl4ZVYMQ?VKnhvTT)9:[7Ow,p4t<]>Qa4hGt`?y?C64C5Dc2=Vzzll^F*,`TA[mnaNkH>Mn"
def gr:Abs.Fn:=⟨2,[.t 4],gC ".wQU<LfRg1=(v0>s_k^mv"⟩
def kO:Abs.Fn:=⟨2,[.t 3],gC "T^gU?7Z(rWbIHgVpoW+,,C"⟩
def GQ:Abs.Fn:=⟨2,[.t 4],gC "P7grJ5TfpK(oEdNG:WW@ca^,@JFekHW[e8A5UAeRwYTWRo:BL,f8H5cYRolRhxlW2Xk*pC><P*D?QiSe[VN]CF"⟩
def fO:Abs.Fn:=⟨2,[.t 4],gC ".wQU<LfRg1=.M_7(qP2@a"⟩
def kj:Abs.Fn:=⟨2,[.t 3],gC "r0>s2[DalwaG[cp`f,]*U"⟩
def tQ:Abs.Fn:=⟨1,[.t 2],gC ",smlThDyrc9Su4.nXcHQuM]PZa?1QOek9XSlhrA"⟩
def wj:Abs.Fn:=⟨1,[.t 2],gC "*By3`4mZCPzhf`lUf,.ux:F).P@ud;:BwV9Bp+:QzX[L`A"⟩
def lC:Abs.b9:=gC ")=.iHzJNX0mzoH<fac]<FkYf<W,3C(P9sM,ObgmRmU7^gA8iTMp.3Kl>zfn`u"
def kP:Abs.Fn:=⟨2,[.t 3],gC "r0>s2[Dalx0cf,:_RZ4Mp"⟩
def DC:Abs.Fn:=⟨2,[.t 4],gC ">625>3y_v<pX3hYFXKs_6yqZ7TM?]M:Z[vLt,<dO3:G:U0u:Z[mV"⟩
def vT:Abs.Fn:=⟨3,[],gC ")<LGbYP]M8Sw`nl.wvdOD1ekO9p+z>][g:?f(^K71?A^,<:5cU631g7H?Maee4n1jRgGYvgzh0b`a=d?C[JofyC:aM)Pe+@OU[cb(fbv(@aDIJQVrqtUi,CzLF`"⟩
def fY:Abs.b9:=gC ",m>zwOBe8VUX?v,+aOZ2Q^52ta)`)Jb<`,Ug=MelA8Eg9yVTuQlMKgYQz=^0.YE2Id]DX^uoP4FU?P;0aG_ct,]:;i,_j+r.V9"
def yk:Abs.Fn:=⟨3,[],gC "*06vur1(5ctskRz9Z9(*O;^7][dkuxMaB5P_PufYjkBgmR(M;P>dfToVj6la2wa9][4cB].xdt@O75J=UY6*1Yq+o[4RTm)Nb.LcTAWDHcUmJ;q53G1R^An,oC7Rj^uO>Gdr(edGj)^xdmt5L>Rg9CfLup``mh*xx46>6mN"⟩
def xc:Abs.Fn:=⟨3,[],gC ",]ci=]R_2Nv1AW`Y9i0NpJ?him4m1d>f7L,(zA[6af+38@mAjqn<1gOeV5v5P*ax<W)b+3y3w]FlUZaL9Maxp3c(lXBp^RWhDxgp+(12B9WSy6+Ckc52L8IkyqlQ:cb^Tkrgt*.^2VVp^wh3g1Sj:=YD"⟩
def vV:Abs.Fn:=⟨3,[],gD [] [⟨none,none,true,.st [(0,4),(10,4)] 1 (.t 75) (.t 65)⟩,qO 69 (.Vk false 1 (.t 68)),qO 65 (.Un [] 4 56 (.t 61) (.t 64)),qx 4 1] "qa[Blr2+wcW2CdMV^3*noUclNtt5Lhfz(eN*Cdd^iaOBfBgT^bSZo=rkZhJQK]V@SmJvuiEWuPKpxd>><+HXCzZ5AgB7>Kh[CcSd5meKb,>?nbhu):)?eM:R.4X?dv:yda5=^H9=mrX01hIn*ntDpkNI(F+u?)QtRUm(8EpWItZ72)A4?UZW@ie^AO)UNRU=V;l]7CF5hU@p,hAD3(yl+2i1Ac>VQ80fU9:wn>(J*"⟩
def eZ:Abs.b9:=gD [] [⟨none,none,false,.st [(0,1),(1,1)] 1 (.t 45) (.t 44)⟩] "*PYZ:CZ1+gC?HZB=[xXyyP>e]CSQpQaKU]F^p,J462R.:]F)+<0@0sw(vnjgwzyMHZ+V7cZ9cb?ODujc6_BZDN@3Dj`ecITfi:*c"
def wY:Abs.Fn:=⟨3,[],gC "6>4Q]UO]Jt6:D32Gt^hXZZwB5fbWg<^q+n2w)QFtYpBeD*GANI9k_eB;m:*J<`,,*gN+ISx_@_TVPcsR;,<Ab6Kuzr>=6Jk*Ar7FM^P45;FCL?MQPy=lF1z1:O3C:cnV*w?]YVy>vmPmqiP?Z^^jqeA*i[OH;Q_Nm3.8^+U3J*6`aOLBoo)Zga2xZga7d>5vTM1+><>H+ac9s@91U_BS`S`WCWEV<kACA4q9AD3rsJ2*rmwq0dGGqeuu"⟩
def wV:Abs.Fn:=⟨3,[],gD [] [qo 19 (.me (.s2a 3 1) [.t 18]),qo 10 (.me (.s2a 3 1) [.t 9])] ")Z^C9xhxO?:T7;+^QO;`dcqGH;5NeIfn7(1Qy`r<EBq[MI_LTSZsfG??o@ANXG+s,D"⟩
def fW:Abs.b9:=gC "5Dgg@HepI?c5tDArvCfh*M6ApJz1llkm)pMs?]hbW<uhHk2Vd(LlEC+9I1P@Tg.FI5)ysdU>InB8*,J_I=]E:(.l`m37S)XUd@"
def fZ:Abs.b9:=gC ".4ACvD`b=ibWBrPtQo<Wk:HjQ?2)mUEXF(7zRoG6c,GxSxcC?=n4g)UotShq8<eZ^ED2__(lt4aY*5tzBYCp+C2qb9=(Y*az+Cr"
def ga:Abs.b9:=gC "Ka7+cVSlI.mgnp2.GKvFSA.=ral0O03lEGgclY=7olBEAE1qIIphV85,WQI^N>fdAkKZXvHJ7NKoqeq887Zm<sM(_23.8Frs,p=UeTKEexvbV*(We7U"
def wX:Abs.Fn:=⟨3,[],gD [] [qx 5 2] "8]_U_:XDIH=fRP3.m)9]>8`K1I2ej8ZTbbU^3L>q0bwlwFvbCr?N<X(o2Cao.w1307m2,:lChDQw?<js:3Y.]jCbp2M_(V@rfYq*+rRN3+s^BWnup(7(QkT(*8weaYqlg)mP6biqP@.*@l+QiSuvspBmn_pBSG>@tjP@JpT@;Se=UL4w2f4EILH4_D:F:CBD.t?4GL:mAjL<Z]W<<_mT)xDt)^:0Fhd=GV6x(lv`nZcGo9tM.>XL@8?(L)hU+nE>D?3)sG"⟩
def gG:Abs.b9:=gC "7]2kA2[at>]o>Ca+xQqj7;>,]Snc3+mUpjrcv]jtstLFYWtiFrH+g_<w=Yui,yBhJ+x`:oIpgR4re"
def fX:Abs.b9:=gD [] [qn 163 .add 88 (aX 1)] "0=M;Ah;Dp>4>_hW.dL=AbxYl;5`d;ZRezHMLW3Mr+zw3I^Qf9p@Ov9KsTLNN>>qCb8UxM;ue;xTUD7@J;Bs*0OOi9[jgJgpvBZCmoS.Kl1*hN0hLiM2oBYE5NNM^nT18`+3?B*l>iFqwM:ZlkYf)Fem[;3jOD+:QndQ;O)76v*2wCPqZ7(`<CX2+*InluMmS9hCB7uEA)52cOpzJ*:)pVRy22)9RlL4^K4xkHr_,fT1P)ans7Uj*[Fu7o6WIh10gsXJ9Q(`gXrsqhE;_[ZqUm5F^,9LvzMCCv.7a`5qV:ceCeQ1S7gHSe[n`uGL)YvtM:2z>1ml>@*:7VZ[Tt+kQ0)tYNbIXJ[Ua4+z+@.3"
attribute [local irreducible] nk m7 gI m8 na nf nh m9 j4 ni lC fY eZ fW fZ ga gG fX
def nq:Abs.b9:=gD [nk] [] "9pjop2BX*[^1Yglv0Nw;TQetNnATYjPKe+[qQlpsu0+mRZ+,W]h5<mGU.At*Ak^L@J]d7JJn[17r@NH4=MwmOvXnjK>9F3g1Byl<jJWDN2w_GFKiLh^cQ=ZN9dg+7TL.O;l)x1j1ezGz?@nlmCBH8MD"
def Fc:Abs.Fn:=⟨1,[.t 2],gD [m7] [qo 7 (.me .s2b [.t 6])] ":8vhkJeWyZ<o35,)yqt;.3,bL=?u82KN7max"⟩
def yp:Abs.Fn:=⟨2,[.t 4],gD [gI] [] "*[bk]rurptNWUCBfB,]iRkAhlxmx]+:9gH(:JYyBl(UI6bc4.Z[RmwNeod>`cY3y0vKinWTtEkFCSn)"⟩
def Fi:Abs.Fn:=⟨5,[.t 10],gD [m8] [] ")w5WT[(<C1ueC_1E6w(*@*PGnm7nPY3=6VczO("⟩
def Fq:Abs.Fn:=⟨2,[.t 4],gD [na] [] "3Qnbc:MNnyr^if?DX.[+A[];XIdWd@va?"⟩
def ng:Abs.b9:=gD [nf] [] "21F7U[6Sk9iBD<z^kh6`xJ40CEDMmgQ=jK=Mn=Z8SX,k6uWd<ASdbZ)gSuI8^vk>Za@NL;cVnqhN<mFUq`SmCdxdgWoFI_"
def Fl:Abs.Fn:=⟨4,[.t 8],gD [m9] [] ")wj3Sf^ZjnkZ7QJn>vOy*TgmzQy,7OlKE8AALBB=47TDL(E9I).kUHglPN+LKlHtPcBnX[6PinX,iiBJ4qh+U,Se_63pIc=ezta9eP5diL]ZFvW"⟩
def Bs:Abs.Fn:=⟨1,[.t 2],gD [j4] [] "5;.QszH1tKs2(Q>B,vV5qL`L6jku7"⟩
def Fw:Abs.Fn:=⟨2,[.t 4],gD [ni] [] "AeSL<*[f<?q@=vY+1)h2nRZGG76=`Y"⟩
def iZ:Abs.Fn:=⟨2,[.t 4],gD [lC] [] "BhhO2J>G`gQ_4cA@f[tHiP*xe"⟩
def vX:Abs.Fn:=⟨3,[],gD [fY] [] "z,(:BL74t+JP^n^q@KIjb`_T@lN;U6F6f(obvK]2RUi)W6<phruIJ7Evnn3`8LS).^MUi_j+LBp4E"⟩
def ym:Abs.Fn:=⟨3,[],gD [.cI [1000006],eZ] [⟨none,none,false,.st [(2,1),(3,1)] 6 (.t 6) (.t 28)⟩] "*Wx9>^4n4?PC9T_VdsnSHS,uG9;*MkTLVAkst*jK0o2u(he>W`1Rfa7QL(imz8O10QkCTEWH4*]4k7BW2T^zOc+:k<>b78?:uUBr>cJjax57.h^lmq<l44WEWegy(67jeYItTE?THGX<4N[6^HEftYUQeMYEE1;kF5Ohi0XM?d"⟩
def vW:Abs.Fn:=⟨3,[],gD [.cI [6,1000006],fW] [] ",:+Mi)PCe;_,MTj,2_Yuo<FK12Iiw@CfiI*bFKUT)G(I*;x.Z`d0j4>1(cJ_egcc*8J:1xx4km,aLr)sf8;K:Q66Drtpme[I<^Gm;ZL<wARuYpQ4qv6Bv)WmP(OV)qM*rT4T;<TEviBsH7ia=9unQ80"⟩
def xa:Abs.Fn:=⟨3,[],gD [ga,fZ] [] "d32bLr:)1eLqWirP<yFGxArJ7F:h4*b0v7GemUsG,CVNkQNUYob<F;CAA^@^)AO2O2TunE>P?WBx5`+nTInZB<,B@47JCfy0>f.RnPwG*hFFJiytny:*LBvRb<4Uz<TvuNER@xk,I^amVpcz`W]8@hsLUWIuB8u>[H*4d[`8qvJg4KtaBCZ,FiTHzL_2,a36W"⟩
def xb:Abs.Fn:=⟨3,[],gD [.cI [6,1000006],gG] [] "QcfdSE]MKx*jr?sSq._:niFtl5zrTiSiUfimns+LpRPb.KxR8(KSF5VDLEoSIdv4H_R771oNm3?l[EWP_M2d^^6hR:Bsihcyl+JAId1(=XV6nQ+Le6PMRkA<"⟩
def wZ:Abs.Fn:=⟨3,[],gD [fX] [] ",Oe8c<,2jbgl):]k0dV2AuP?KY`Q3_J]tW<:=JW.MSVM5jGasklnb86oCp+9Vh[RzKo[5mVFJ=0d<IMZ4;]nH;NKW]numSO5qQK=[b?Nk?u@pGaZDi:*6s+Rb`.xt@_QLr;DQq^MMT5:aKE`s7kf8SzwZA4LKkuRyXKh]ox6eWJDd;ioa1qIS5]z;_qMy)_8MTHHKzxA[FDpq8.(x=NzJK_IV)ROIZqa<YO[X7I*SF@UfID]=tob*nFW[lE(_sm7eV.Eq2bSi=.n4E,@c>Gj^I(DRq>6ssZXKt+vpCdgUv;?,7yO?+?g4ujyFh_cB)GI+`VJjDkB?<FHuu*J7^J<(t9)8w*"⟩
attribute [local irreducible] nq ng
def GF:Abs.Fn:=⟨4,[.t 8],gD [nq] [] "Ahfhlq>BD7a5ALc)l`G0BZ5)(`csY4Ao4hev4c8uONLu.1jPG<rzRyG"⟩
def GC:Abs.Fn:=⟨4,[.t 8,.t 9,.t 10],gD [nh,ng] [qo 21 (.app 3 24 (.c .bA) (.t 20))] "*da(NOZZPj1umxXb1_.W6*mjnv:mD[isGTrdY)qCX)L[54g67^LYOP.(Wk.(SD@dQpK5Tqa@Perf]=D])l+fG_5pExdanu:"⟩
def tF2:List (Nat×tv×Abs.Fn):=[A0 118 Da,A3 [] 119 wk [] [5] [5] [] [],A0 120 gv,A0 121 mC,A1 [0,1,2,3,5,6,7,8,10,9,11,12,4,13,14,15,16] 122 GF ,A0 126 C4,A4 [] 127 Fa [] [] [] [] [] [] [] [] [(1,some 3)],A4 [] 128 Bo [] [] [] [] [] [] [] [] [(2,some 12)],A0 129 Fc,A0 130 Kg,A0 131 Gx,A0 132 IG,A0 133 Kh,A0 134 IH,A1 [0,1,2,3,4,5,6,8,9,7,10] 135 yp ,A0 136 Ft,A0 137 vZ,A0 138 Fi,A2 [0,1,2,3,5,4,6,7] 139 Fq [] [5],A4 [0,1,2,3,4,6,7,9,10,11,8,12,5,13,14,15,17,18,19,20,21,22,16,23,24] 140 GC [] [15,16,19,21] [15,19] [] [] [(24,[11])] [] [] [],A1 [0,1,2,3,4,6,5,7,8] 141 Fl ,A0 142 Bs,A1 [0,1,2,3,5,6,4,7,8] 143 Fw ,A0 149 gr,A0 150 kO,A0 151 GQ,A0 152 fO,A0 153 kj,A0 154 tQ,A0 155 wj,A0 156 iZ,A0 157 kP,A0 158 DC,A4 [] 160 vT [] [0,6] [6] [] [] [] [] [] [(0,some 8),(2,some 8)],A4 [] 161 vX [] [0,6] [] [] [] [(5,[6])] [] [] [(0,some 8),(5,some 2)],A4 [] 162 yk [] [0,6] [6] [] [] [] [] [] [(0,some 25),(3,some 2)],A4 [] 163 xc [] [0,6] [6] [] [2002] [(3,[6])] [29,32,35] [] [(0,some 13),(3,some 2)],A4 [] 164 vV [] [0,6] [6] [(7021,[(0,4),(10,4)]),(7024,[(0,4)])] [3007014] [] [4] [(7010,some [])] [(1,some 13),(2,some 8),(3,some 7),(6,some 1)],A4 [] 165 ym [] [6] [] [(2013,[(2,1),(3,1)]),(7006,[(0,1),(1,1)]),(8006,[(0,1)])] [] [(10,[1000006])] [] [] [(1,some 7),(10,some 9)],A4 [] 166 wY [] [0,6] [6] [(5012,[(0,10)])] [] [] [] [] [(0,some 7),(1,some 4),(4,some 1)],A4 [] 167 wV [] [0] [] [] [] [] [] [] [(1,some 1)],A4 [] 168 vW [] [0,6] [6] [(1008,[(1,4)]),(4019,[(0,4)]),(7012,[(0,2)])] [] [(5,[6,1000006])] [] [] [(0,some 7),(6,some 1)],A4 [] 169 xa [] [0,8,13,14] [13,14] [] [14005] [(15,[11])] [] [] [(1,some 3),(2,some 7),(3,some 10),(9,some 2),(19,some 1)],A4 [] 170 wX [] [7] [] [] [] [] [] [] [(2,some 3),(3,some 4),(6,some 1)],A4 [] 171 xb [] [0,6] [6] [(1005,[(1,2)]),(5012,[(0,2)]),(7012,[(0,2)])] [] [(6,[6,1000006]),(6,[6])] [] [] [(0,some 7),(6,some 2)],A4 [] 172 wZ [] [0,11,13,14,16,17,18,20] [13,14,16,17,18,20] [(18029,[(0,6)])] [] [(17,[11])] [] [] [(1,some 12),(3,some 37),(9,some 1),(12,some 1),(14,some 1)]]
theorem kF2:(tF2.map λp=>chk p)=tF2.map λp=>some p.2.2:=by kernel_rfl
end Go.Proofs.YtpapbbojmclkgaaGreatDoor
