import Derived.Test.YtpapbbojmclkgaaGreatDoorIds
set_option linter.all false
set_option maxRecDepth 100000
namespace Go.Proofs.YtpapbbojmclkgaaGreatDoor
open Go Go.Abs
attribute [local irreducible] aX zC
def oo:Abs.b9:=gD [] [qo 14 (.bin .geq (.t 13) (.c (.int .u8 (aX 97))))] ")W5LNNT)`<e8SS>i<l*x+Dma]^SfwlJ0Y_l4wN>zlx<q:hsD^7xtv.kqr)30duMT>o3ovaF:nn+J(PWYQ(Ou4@KT=M4acackgfVX>ZyTIlpmbTm<rNfp^IsltvPOO`?Buysv(e=rMvUR"
def oq:Abs.b9:=gD [] [qO 57 (.pick (.t 46) (.t 56) (.c (.bool false))),qK 56 .leq 50 55,qN 45 .gtr 44 (aX 0)] "0eO>EN[5R,:BPIb1kPj@d^Mtz@w(LPyTSv1H,<U0obO*C),5iE=XEvb=kytJXw*F(2S_oWC*@4Nc92G^khc;e[?c9AIZHsIzY2xaEp^S@hL>wa7).Wq^3sjY,9lPFM82o34H:RyAfiD?Zoy)2S.rS("
def Gi:Abs.Fn:=⟨1,[.t 2],gC ":MhZuAc_Q_HonD=`TgS]=;H.4+lsC2<f3**wjPdEbSK6xR0"⟩
def Gr:Abs.Fn:=⟨2,[.v 4 true 3],gC "))k@8LX)8DL.XtJnJ[0t>G8QwMJI@VM?T^g<3<t5I3,yF*>a[rP>?vX"⟩
def Iv:Abs.Fn:=⟨3,[.v 6 true 3],gC ":atkW[Z_9<La.+L`yuM>t:gg`w:bA1B`QF2;GBbr.Wm+Od]G@[:[N.tw^<oTKy0"⟩
def Fc:Abs.Fn:=⟨2,[.t 4],gC "vF;St._@lf]28ilx,htxWuNj(rw?VR0"⟩
def Dy:Abs.Fn:=⟨3,[.t 6],gD [] [qK 34 .rem 32 33,qK 29 .rem 27 28,qK 23 .rem 21 22,qK 20 .rem 18 19] "@73hWWKahd8juG`s^yjV.)Zqb9t0RydaVo+HHc5Lwb[QPuoRThS2d9OFKI>08Yc0.zdZAC=7XZUki+PxsJ38_0Ar?1pns2OV+r<Vn+jxI<ECr89t_Kc7k,9W)^d=6bS=33g0"⟩
def Ix:Abs.Fn:=⟨2,[.v 4 true 3],gC "0@dp9RnjQ@w<Y;_)6CUr5TN2DEf[FanVMCMT)QT7nkBfrW4+DHTt>?vX"⟩
def Fk:Abs.Fn:=⟨2,[.v 4 true 3],gC "))k@8LX)8DL.XtJnJ[4F4@O)63F2.p(6)Q`ViM7x>4nVE79;mhP>?vX"⟩
def Fb:Abs.Fn:=⟨2,[.v 4 true 3],gC "5:fheUSRka]a8tYWB=ttYdhW_5hvsgWqF[qtQAUp31xl@z8,bX"⟩
def nf:Abs.b9:=gC "0l(<>3O11T8@=O:h?TV9QB=)4pv5`v6Nerh6Nw`*w.GKLojQKQia.KT*0TyUiI("
def Gm:Abs.Fn:=⟨2,[.t 4],gD [] [qk 11 .rem 9 10] "8a@>bLThPuT+b:MvI>_0uibU(=Vn?<B=eSQ5+MI;ky2moa[n(Sf.Y.Q>0"⟩
def lD:Abs.b9:=gC "_K_?rSSD)*EB,]YAdgV;ItRL2;.^s,ZQ(BSSAu(jZ2tO8l@Amuq9E^RuH32srR"
def kO:Abs.b9:=gC "+o.rh6`pdB9SkD+t;atDP+ibUX@rUWGd<I52@Alm`1H`U_K.zq9E^RuH32srR"
def vc:Abs.Fn:=⟨2,[.t 4],gC ".WWVCRrjwW9`Ehi?96D8alk6>0"⟩
def tS:Abs.Fn:=⟨1,[.t 2],gC "*P2]w(BZNLZ,^?D5R0"⟩
def DB:Abs.Fn:=⟨3,[.t 6],gC "D.>BcAF7nuHumrVHG2P,GB7l@(Z_K16Ces;HQ,*7t=O,G(ZK.FAdINF2WOC1nVC>E7w0g_Is?Df.Udazg0"⟩
def yj:Abs.Fn:=⟨1,[.t 2],gC "1`fTtCU(d)?hDzY?5R0"⟩
def Du:Abs.Fn:=⟨1,[],gC "@dDXrW1qY[t2kX@g1"⟩
def yL:Abs.Fn:=⟨1,[.t 2],gC "7qZR;jKP._ALJ)^7IdNe)J>TR0"⟩
def C7:Abs.Fn:=⟨1,[.t 2],gC "3ge8jAjkrnkNsSuq.bEB7T?=AYNe)J>TR0"⟩
def rQ:Abs.Fn:=⟨1,[.t 2],gC "ZDf<SZd`)lZa3kKo3KvjuIHDyG(N.(0"⟩
def kB:Abs.Fn:=⟨2,[.t 4],gC "*k[cKIWpuycS_l*Zk6>0"⟩
def tK:Abs.Fn:=⟨2,[.t 3],gC "+oAm<;_Jr[Q`fQAMmG]>i=6(0"⟩
def Gz:Abs.Fn:=⟨2,[.t 4,.t 5],gC "+YwK;ba8g=1PG9No;PEMG@[jkv^EaIQoDOv)E_78yoq69kvxzrA:IBOQ?UVg+OjNl[Lw31J_[bdU>0"⟩
def uH:Abs.Fn:=⟨2,[.t 4],gC ")3IFilv,=v1ra>Xn(cU(a>qRvV2[O5esSu0>>=[[CfCR0"⟩
def fk:Abs.b9:=gC ")e@BynODid?lZe_of6s]::mNh1dXu(=RhB3t*bJUZ(?4LSTnYPtX@[MU,`s?,Q>g2Q8jk4(WlVARZV62Y>zuHL[VZrPcU]ft]lbZ6e7W^*g8U90:520,gLvSRgzaP+HYx]5oW.uKAz2u8hjupjkOK(_UI8tSrsK>D<nB^kJZ+FGROgNvwt^c[DcOo;YqpE@j>xz_m+A<@("
def vY:Abs.Fn:=⟨3,[.t 4],gC "),b]qo6^Yh1S23od`WX<2xX6.N>u@UX;14W+eTArj7Ls_dM(.0fVbY.Q>0"⟩
def Ir:Abs.Fn:=⟨3,[.t 6,.t 7],gC "*cIZSB8YXYNv9=>2bsrlaz=xileWs55m)P9hEV@pK@KaIH[g<vew(Qe@31;LVGJ7m]`m+)yR3_))<FN?X_1(dR<j),X_y@C>J[Vjg0"⟩
def re:Abs.b9:=gD [] [qK 100 .add 98 99,qt 1 85 84,qn 84 .quo 83 (aX 1000)] "7=IxtP]T8gW;2IJ2KQcyk18tch9(tZMaLqnmIpu=v[uz)R1,zzOpQXr^Kh2HSMGhoQD(s.rX_CkhYKbf^7z_vx480PC*olc*mPgRe9u1[B`jOOg>UChnfWg8jLbjm2sz4*]wP@>f("
def xa:Abs.Fn:=⟨1,[.t 2],gC "[*cK;W;mz@*=e@7k1sJawRyWF385g0"⟩
def wk:Abs.Fn:=⟨1,[.t 2],gC "ZDd(C._DG8H:bwA2:TO_yAi8K5MN.(0"⟩
def tM:Abs.b9:=gC ".;T)`Kf>T:6AdDNBC@xsx,p+Xvf9fX"
def kJ:Abs.b9:=gC "=2fyUl>BzIp7ZTsyO^wwW]?7en7fbYhxn_ebpxR1rWjxoIRZdpU+bzkJd:l*,BjCw2ZezAg5AQ]IZF*3h)R8P4`;w)oZ0,mOW;_YdF@u0c)rTEClR"
def kK:Abs.b9:=gC "*G=P6kqOXZpO5jsuGK6w7tIw,;uSgyoki16iiWsICC4YkCLh8J0JrO*A[HHecBy,VjpU:dy<J]Oaza5FrDwCqnq=m+x?oDBiM`N^5i(aXA`L=gyTAMQDeimQ2=p.Xlw`ogVY3)V1:KqaKxk6jcf<3Wg7t2Fg>*MLJuO)S6*guVETmK.S51,gaozDe=,G`ON@7R"
def uO:Abs.Fn:=⟨4,[.t 5],gC ")5WfpKA(ysy6I6[o8UVLGEwa.xe3S;nA,^eLttXixYZm4+;6ab92W7o;gFykT`bhzt@NmLQKp;IaprH]?_QS1@zJhU7yAmr=B@L2f:<=.A=kYtk5hudOFI+^?m75CJ_Mz0^I+4`Gm[QHdYQTYRA^X1JmDqTp9A(INzzbaQfR`01;<kX>.rh]B0ZGR0"⟩
def zM:Abs.Fn:=⟨1,[.t 2],gC "2zo`>R?ki[r)h+LdDyo+YNe)J>TR0"⟩
def FB:Abs.Fn:=⟨3,[.v 6 true 10,.t 7],gC "Nvvx_8mGTvA<v92Bij9x7YvyQfaqTvLwasA8;]]7Sm+^znJ2KtcWKaaenQzXxv7Nf0Sh4^6LaQW6MO8oZ10E[(EOkW?9,ogzNQ46NWLht?V)8]87bNoe.WdYLMd7;39qek,AZhGLynaV7g0"⟩
def Dw:Abs.Fn:=⟨2,[.v 4 true 4,.t 5,.t 6],gD [] [qo 3 (.FM (.t 1))] ".kTNE5l_xj5]+`A8yCq)NSV2p?q;1vn2?k4,zW4<ZY31^jbC,M3?q2mjQcELe<+H*+euCnyQ_:I*S@iefMhJ+6xmDr(=OfVct]FR[eli6tA3`wDc(PBv;?q^r4uVK;z2s;UMi?x..YFIGIQ<OH4Y2bQUB*_OWTQStBCtSb6xL?Ti.[6fkhCEmfYZET9+WzjR0"⟩
def Dv:Abs.Fn:=⟨1,[.v 2 true 2],gC ";w5>Nrd^6dfOh2n3DV^]af=fMiE)ke0"⟩
def Iw:Abs.Fn:=⟨1,[.t 2],gC "N<*MW.[[9>kPkR]qGB994o88>i3rbzE5jtghOX7gerLy`v(?Hg0"⟩
def lJ:Abs.Fn:=⟨2,[.t 4],gC ",FKO,T6S`2Y82edb2k6>0"⟩
def sn:Abs.Fn:=⟨2,[.t 3],gC "6^@WS>RrmEY5npH).>0"⟩
def wX:Abs.Fn:=⟨1,[.t 2],gC "bGrj3>54xjrwrXU+0F`YNe)J>TR0"⟩
def gf:Abs.b9:=gC ");gjS7n^ru+d(7?2M]hkSxC8YXVr5C<pv>oCFy0Gpq_Fb4V_D?u?ji@*q3qO;W?eF`Rm]hXmvfk(ZMsa(s7h._WaW]65K^gA2,BXKf@y1`4EhzTVC?]ppXSZ0Qp.5DKPQW0kn;6AQ]NpFLyD8D;;5*]1,X@5>shR"
def By:Abs.Fn:=⟨1,[.t 2],gC "+*Zx.84r_N=LqI]RgWt52wfmEZJe95c3P:AyL:FY`xk8KGBb<K=3t@Rle29eL]oG(snU_BDXT]6(m.TbsOkX_s2f()3MM5KtC2=tT]F9@Yk3LQIh(AJnAS42Rj`vrIGT8yCf`r75Y[Kcz7[IRPmE3r=S83gGBQHTLi1e1d`8<Q=u_@I6NQr2g0"⟩
def Kd:Abs.Fn:=⟨2,[.v 4 true 11,.t 5],gC "0BYkD23F4w3HBMDI_VA+TX+vmWEX9g9YLJ_qwgBT``^*<lau[nhL*PIh>_kg9k*Z;N3Utp[C?lc94LB6ty[Dz0(aVLXS]r+>0"⟩
def gI:Abs.b9:=gC "*VOPQv1+i6DQSOMgwN[+H>Aj1B30`P=]c?a9SpiKTFu:K9VCo61xOp35W1u@EZ`M]q3ojdi3[kCu.P0EdZiq1=g("
def mZ:Abs.b9:=gD [] [qo 13 (.call false (.t 12) [])] ".>AxOO<G;1EKu]Cy>ZP6,SqgVwV7:^DgR4U^U=nQwrQJDoJb.VPF[lv[hwc9y("
def sY:Abs.Fn:=⟨2,[.t 2],gC "H+Gy]wQ1BvKwoVWZgeg0"⟩
def tH:Abs.Fn:=⟨2,[.t 4],gC "*`]=ibf0MJoNx3Mso)kX*0YGmU>2yP9VU0l46i(0"⟩
def EZ:Abs.Fn:=⟨2,[.t 2],gC "L7n2Mx(OBXWUFsq.w>eg0"⟩
def wW:Abs.Fn:=⟨2,[.t 4],gC "2.wW_.wF40TR:qP;0KKh[=9Qt7OsSX2N8Dq>Wn7o+44,D1x,x;gF=tHsIiLi5WO@mLz19VSY+E8M3zF_8V+B5(kMa4Na=kjQf?5hZqU(0"⟩
def E0:Abs.Fn:=⟨2,[.t 2],gC "L7n2Mx(OBcSBW9kQ?>eg0"⟩
def uJ:Abs.Fn:=⟨2,[.t 4],gC "F@y`s]0]`V)*)a4AKo;V__bQL:L.VV.IfD]lBGjoWP0)0GK6u,;I90dAzyV43U94bpi1*?0M;uu>duOm>fs@.mf)fkjQf?5hZqU(0"⟩
def vV:Abs.Fn:=⟨2,[.t 4],gC "g.K+F@n23rxxryr(OpCB7XtRq<kAlKlBcHuCnk]nJR>o5VR0"⟩
def z7:Abs.Fn:=⟨1,[.t 2],gC "*P2]w(BZNLYx=hD5R0"⟩
def yM:Abs.Fn:=⟨2,[.t 4],gC ".WWVCRrjwW>=`..99?Z<iCk6>0"⟩
def z8:Abs.Fn:=⟨1,[.t 2],gC "+p[UI7@5I(6ID5R0"⟩
def du:Abs.b9:=gC "2bb*9OLKKFM4JaDDA*yjG;iAlgRJ>(OoDoETpbl9JN^uLJrOsmV+2_Oat`gO@)(?2WEeoiEZwh("
def uM:Abs.Fn:=⟨1,[.t 2],gC "tim;])jBj8Qfw5R0"⟩
def j5:Abs.b9:=gC "7)Jc,v71s5oSMa9v2vR4DRh^5L)cj1(.:Iid]8uTrYI=9NB4ycIcDyVh1ghBGU+(`2t3Lc9gp("
def Fz:Abs.Fn:=⟨1,[],gD [] [qo 3 (.B7 [] []),qo 8 (.YU 428 (some (.agg [])) (.t 5)),qo 5 .QA] "J>j^KXwpKiO>PL9=9FUvpvY1dOIkdY85]Cs`g5tQHZ6G]Z=ZcurvKm67;2.tx?I=Y"⟩
def iM:Abs.b9:=gD [] [⟨none,none,false,.H5 4 [(0,1),(1,1)] 1 47 (.t 41)⟩,qo 36 (.XN 428 (.t 35)),qo 35 (.K8 [] [])] ")xQylnOGMD>iK]Jbvo_qYTq]jSv2oSP+.i2wLxUbG1s.*xCC6DpVW]bHI6?F<G>Bj]m5(oP=TL2zlVspUC))grSQ)hcwi`SZCYO?QHsF5hK2=pS.u06^=hpZto<,l,yGjici2t6y,F,8Yz[M3wp<`zmkwN*N*uwOqQidKZR"
def GA:Abs.Fn:=⟨3,[.t 6],gC "b;DDH9:gWe]`J[XHV;<vH@>74u4x.]+J5F>hJWUo4lt8zS;6xJDBadD@4>G=o1qtQKBGGwzXaJ5ye.T)Q7cOqM04v1vyXF19s0w3q`;sW3c:kPei:)o,LWOj:]U9F7@3g0"⟩
def yA:Abs.Fn:=⟨3,[.t 6],gD [] [qO 7 (.mv (.c (.int .i64 (aX 1)))),qn 33 .gtr 32 (aX 10000000000),qn 18 .lss 17 (zC 10000000000)] ")2j1qMc6oCALx<I*vaEv)X+fU86Id:.B[NDY?XHZRg<j)W?7R8Cd82Nv7hZMKfh+lw*lOYp)<UMgI5yF)zQvPStDxYWvEZEcv`JN_[0oEfO=L0.[1<y4*IQXXHaS<j0d=6yqs*VK0PwC6Ercf)BYRJoz*jpMKIEpD)E[59ZJ0Xw,+bM=GfRNMRUR0"⟩
attribute [local irreducible] oo oq nf lD kO fk re tM kJ kK gf gI mZ du j5 iM
def Gj:Abs.Fn:=⟨1,[.t 2],gD [oo] [] "+4su<jNYF[H)iDW(dWTAZgN45wsMbd^@k0VScsap3Zg0"⟩
def Gl:Abs.Fn:=⟨4,[.t 8],gD [oq] [] ",IFEwQs.9R0A[ks<mvFm21FP<`=5gg(W,kS8``0=J?DL0?qtE*Bpbdw)waWTuY3xDV>5>MGDjbT44gT)ry3@Zg0"⟩
def Fi:Abs.Fn:=⟨2,[.t 4],gD [nf] [] "*Fw3Hy[4jebthhtX9,et+m?k6M*V^+@tY,FXz>0"⟩
def iY:Abs.Fn:=⟨2,[.t 4],gD [lD] [] ":op5GANzS2MZjZ2SNWXtuGYg0"⟩
def ir:Abs.Fn:=⟨2,[.t 4],gD [kO] [] ":op5GANzS2MZjZ2SNWXtuGYg0"⟩
def uP:Abs.Fn:=⟨3,[],gD [fk] [qx 4 1] ")N8b,Z44:B>tV9;,IS,R7d4K7pmgNK_i"⟩
def C8:Abs.Fn:=⟨4,[.t 8,.t 9],gD [re] [qo 10 (.mv (.c (.fn 245 [] []))),qx 6 2] "*p1)ep4KRvr+fWMiQ1oJNwkdXx=2M0`>,)_c^59N0xtL?VDXHTHvf(Yty306I__<72ncLrIU)Q1VE3NmjbQoYLH47`@H^3?xC_Jn7O>LYkKWqr1d.Y=]K831JR9IkK.IeQ;XAe5f_*<b;OIIw_yPJ6k)k?oUq7?cS[k82ukkYC;>LYDQ<FF(ze_hU:Bk,=ODLDym@D+dssp2yiH:STsc?qi?C]`7h8HjNi2B(mZ=p.6,VhG)OXOfrUfqJs(Q=DxE_:Lk>0"⟩
def zU:Abs.Fn:=⟨3,[.v 6 true 2,.c 7 false 1],gD [.Uq (.c (.fn 251 [] [])) [.t 7] tM] [qS 6 2 6 22] "lDEwsN.e,v]C>=GiHnG:zc4]Nw7s(9VvgQ_6N`NQh=u00wIL,@7e_TIBxY94<,pfjAyk<Izrw^s@>hD0mi8ogeSkP]JL9tTKFrhbcZi"⟩
def kL:Abs.b9:=gD [kK] [] ":x)wk6kuj.*xp4.oa`;RnbANO12VFhN7)@ZLyH6nUhMBIGnU5:kx<?UAKCC86Mf1,TO)aY;FSKGD^u96KSd+Md0TKAcQ9vuRy=k:nE^J3a@KVm8^0YMyLiIyfrup9("
def xr:Abs.Fn:=⟨1,[.t 2],gD [gf] [] ")c4:R`7QJ+LUb;c_7:_@Vv:qpCJ]_DX=ItDPvdvmggQv5v9jX?qN?CJoN<q<[eQKgGIn6Y>0"⟩
def xm:Abs.Fn:=⟨1,[.t 2],gD [gI] [] ")K][*,]rVKG_wp?DNNekjh^?H2pf[Y=KZx6Jeg0"⟩
def E1:Abs.Fn:=⟨1,[.t 2],gD [mZ] [] "09u7<.R[<UpN5?ke`dY>TR0"⟩
def m7:Abs.Fn:=⟨2,[.t 4],gD [du] [] "+^CkW[[LpUKD4y`*?59XWu+)u_Yyw=>0"⟩
def C5:Abs.Fn:=⟨2,[.t 4],gD [j5] [] ",iVM:57:Kx,x9??<Fvd+:sE.HHor`*emsz23u_5nOZqU(0"⟩
def zY:Abs.Fn:=⟨2,[.v 4 true 2],gD [iM] [⟨none,none,false,.H5 4 [(0,1),(1,1)] 2 4 (.t 50)⟩,⟨none,none,false,.H5 4 [(0,1),(1,1)] 1 13 (.t 12)⟩,qo 4 (.B7 [(0,1),(1,1)] [.bz,.bz])] "*H^VRdaK_5PE0ZV9vl1Fm9[ze<R24a4;E:i3QwljI<OmBakr*:hO0"⟩
attribute [local irreducible] kL
def nT:Abs.b9:=gD [kL] [] ")`I^KklFN<Q498i[5>zy[fo<Mm@wl9bt?K,^*lurzI5wu_E51btPASOStbC03^JmytS3zX"
attribute [local irreducible] nT
def tN:Abs.Fn:=⟨4,[.t 8,.t 9,.c 10 false 1],gD [.Uq (.c (.fn 251 [] [])) [.t 10] nT,kJ,.cF [0,1000002]] [] ")P8u<K5>k_yo(PvpseN)P)H9ufliH:)5LT`PSb3+fHsOcmBiTa+GRvB*Os>[g::1ca.AM1C*Yf(P75Wv9j(=qQ85UxQjzMHTjmJL2nDdlN6SjUOg1Jo)kS]Ti"⟩
def OX:tx:=⟨[(7,[6,7]),(6,[2,6,7,8]),(5,[6,7]),(4,[2,6,7,8,21]),(3,[2,6,7,8]),(2,[2,3,6,7,8,16]),(1,[2,3,6,7,8]),(0,[2,3,4,6,7])],[],[],[6,7,8],[6,8],[],[],[(0,[0])],[],[],[(7,some 2)]⟩
def JN:tx:=⟨[(30,[8,9,10]),(29,[3,4,8,9,10,15,51,52,53]),(28,[3,4,8,9,10,15,51,52,53]),(27,[3,4,8,9,10,15,16,51,52,53,99]),(26,[3,4,8,9,10,15,16,17,18,51,52,53,60,61,62]),(25,[3,4,8,9,10,15,16,17,18,51,52,53,60,61,62]),(24,[3,4,8,9,10,15,16,17,18,19,21,51,52,53,60,61,62]),(23,[3,4,8,9,10,15,16,17,18,19,21,51,52,53,60,61,62,86]),(22,[3,4,8,9,10,15,16,17,18,19,21,51,52,53,60,61,62]),(21,[3,4,8,9,10,15,16,17,18,19,20,51,52,53,60,61,62]),(20,[3,4,8,9,10,15,16,17,18,51,52,53,60,61,62,63]),(19,[3,4,8,9,10,15,16,17,18,51,52,53,60,61,62]),(18,[3,4,8,9,10,15,16,17,18,51,52,53]),(17,[3,4,8,9,10,15,16,17,51,52,53]),(16,[3,4,8,9,10,15,51,52,53,54]),(15,[3,4,8,9,10,15,51,52,53]),(14,[1,3,4,8,9,10,15]),(13,[1,2,3,4,8,9,10]),(12,[1,2,3,4,8,9,10,32,33,34]),(11,[8,9,10]),(10,[1,2,3,4,8,9,10,14,32,33,34,44]),(9,[1,2,3,4,8,9,10,14,32,33,34]),(8,[1,2,3,4,8,9,10,13,32,33,34]),(7,[1,2,3,4,8,9,10,32,33,34,35]),(6,[1,2,3,4,8,9,10,32,33,34]),(5,[8,9,10]),(4,[1,2,3,4,8,9,10,31]),(3,[8,9,10]),(2,[1,2,3,4,8,9,10,11,27]),(1,[1,2,3,4,8,9,10,11]),(0,[1,2,3,4,8,9,10])],[(4,[3,4,8,9,10,15,16,17,18,51,52,53,60,61,62]),(2,[3,4,8,9,10,15,51,52,53]),(0,[1,2,3,4,8,9,10,32,33,34])],[0],[8,9,10,13,17,20],[13,17,20],[],[],[(0,[0,1000002])],[],[],[(14,some 3)]⟩
def tF3:List (Nat×tx×Abs.Fn):=[A1 [0,1,2,4,5,6,3,7] 174 Gj ,A1 [0,1,2,3,4,6,7,5,8] 175 Gl ,A0 176 Gi,A3 [] 177 Gr [] [4] [4] [] [],A3 [] 178 Iv [] [6] [6] [] [],A0 179 Fc,A0 180 Dy,A3 [] 181 Ix [] [4] [4] [] [],A3 [] 182 Fk [] [4] [4] [] [],A3 [] 183 Fb [] [4] [4] [] [],A1 [0,1,2,4,5,3,6] 184 Fi ,A0 185 Gm,A0 191 iY,A0 192 ir,A0 193 vc,A0 194 tS,A0 195 DB,A0 199 yj,A4 [] 200 Du [] [] [] [] [] [] [] [] [(0,some 3)],A0 201 yL,A4 [] 202 C7 [] [] [] [] [] [(0,[0])] [] [] [],A2 [] 203 rQ [] [2,5],A0 204 kB,A0 205 tK,A4 [] 206 Gz [] [6] [6] [] [] [(0,[0])] [] [] [],A0 207 uH,A3 [] 208 uP [] [7] [7] [] [],A0 209 vY,A0 210 Ir,A0 211 C8,A0 212 xa,A2 [] 213 wk [] [2,5],(214,OX,zU),(215,JN,tN),A0 216 uO,A0 217 zM,A3 [] 218 FB [] [6] [6] [] [],A3 [] 219 Dw [] [3,4] [3,4] [] [],A3 [] 220 Dv [] [2] [2] [] [],A0 223 Iw,A0 226 lJ,A0 227 sn,A0 232 wX,A3 [] 233 xr [] [4,5] [4,5] [] [],A2 [] 234 By [] [3],A3 [] 235 Kd [] [4,6] [4,6] [] [],A2 [] 236 xm [] [2],A0 237 E1,A0 238 sY,A0 239 tH,A0 240 EZ,A0 241 wW,A0 242 E0,A0 243 uJ,A0 244 vV,A0 245 z7,A0 246 yM,A0 247 z8,A3 [] 248 m7 [] [4,6] [6] [] [],A0 249 uM,A0 250 C5,A4 [0,3,2,5,6,4,1,7] 251 Fz [] [0,3] [3] [] [] [] [] [] [(2,some 1)],A4 [] 252 zY [] [4,12] [4] [(1,[(0,1),(1,1)]),(1004,[(0,1),(1,1)]),(8011,[(0,1),(1,1)]),(8013,[(0,1)]),(10001,[(0,1),(1,1)])] [] [] [] [] [(7,some 2)],A0 253 GA,A0 254 yA]
theorem kF3:(tF3.map λp=>chk p)=tF3.map λp=>some p.2.2:=by kernel_rfl
end Go.Proofs.YtpapbbojmclkgaaGreatDoor
