import Derived.Test.YtpapbbojmclkgaaGreatDoorIds
set_option linter.all false
set_option maxRecDepth 100000
namespace Go.Proofs.YtpapbbojmclkgaaGreatDoor
open Go Go.Abs
attribute [local irreducible] aX zA
def oj:Abs.b9:=gD [] [qo 14 (.bin .geq (.t 13) (.c (.int .u8 (aX 97))))] ",]oxWF9VmLotmBYW+t]y=>kHE8Cg98mJHUuutlSHjg@X4452hNlmWa(HmL^svqIw^mwVLw9V,81=fQl19Yrl17.2h,?RtkxEx4X>]e?jh+djS.gktU,MBveC*Y_;q;bbui[eHLVs?2<<m"
def om:Abs.b9:=gD [] [qO 57 (.pick (.t 46) (.t 56) (.c (.bool false))),qK 56 .leq 50 55,qN 45 .gtr 44 (aX 0)] ")^[SRRIXX8?lJ]:Vc(?@UyVYam[iU<U`^kgLcAYS,lldc6;[=8d<0h;6ZJ85u;?LTLXVI_7>g1Rk3B@)[YKM*y0D)2C5xm1b@AwYHU?Xv7LKFj2GdqD<Oc8Izki?UHtpW6Bi_eT,.zInEQgs9<)5QCc)"
def Gv:Abs.Fn:=⟨1,[.t 2],gC "pj.<SY;QJaQ8bBQMSJkmmg+M^CCz,5z<EgsxdhnE6J+pqw["⟩
def GD:Abs.Fn:=⟨2,[.v 4 true 3],gC ",Th*dyB>mBx>MZQO?UzfdoOsHBnlbNAr3KPbl*7@>Um>KMclu2[JMXE"⟩
def ID:Abs.Fn:=⟨3,[.v 6 true 3],gC ")J?SHKR=Vl]+Wb=pIAZuaDYa8)eWfVB((9wiaesQ*3Nz*^J0TNz9gfjTKp5_N9zS"⟩
def Fk:Abs.Fn:=⟨2,[.t 4],gC "+6<v;`KGqvtM<Zt_TBf;I_*]]6wLM.NB"⟩
def DA:Abs.Fn:=⟨3,[.t 6],gD [] [qK 34 .rem 32 33,qK 29 .rem 27 28,qK 23 .rem 21 22,qK 20 .rem 18 19] ";m(k7ni_Zuus`UgI1,Y:c*nkotcWkZ]uSV^l9S`P1Sk*)pStadJ>s8clWhPG*y^X3>F6d`.<2*T`,nUj[V+t+w,`=mQUD@Q,0qJ9F)E:)jGU@gig<9^P3hu@S2G`k_eQ>]BOy"⟩
def IF:Abs.Fn:=⟨2,[.v 4 true 3],gC "*,0P6FbAu<jrQ7)Xy1XbIlt=sOIO,n=IWndn9sr^Ed[Kk3c;DyBXu3_f"⟩
def Fu:Abs.Fn:=⟨2,[.v 4 true 3],gC ",Th*dyB>mBx>MZQO?Uu>)eSl3q)kcTVLBC^+Ycx<dHL>hgj:4lC]qiE"⟩
def Fj:Abs.Fn:=⟨2,[.v 4 true 3],gC "UetRq59gdI(B<3CJSk8BHy?@o@;0S9TG80A@YEF?t:xjtr0=0i"⟩
def nc:Abs.b9:=gC "++w[[^,Rodra6VZ8R[4.glNe2C4^^*=;2.GglB^c_AW87csi92w<A:(,SuUX:Bg"
def Gz:Abs.Fn:=⟨2,[.t 4],gD [] [qk 11 .rem 9 10] "*cnfoE_^dL.wd`1R^8kd10OWk0jdH[6W?7+Vx<HiCzlDCU:tZ85R:+25Gs"⟩
def lB:Abs.b9:=gC "M`@NgXqhI>tUl@fqrXqZh_Htq[PV:7fG1,Fo=*P[RU5RH]hf+xft`zP2`ssEFD"
def kN:Abs.b9:=gC ")=.iHzJNX0mzoH<fac]<FkYf<W,3C(P8y<xnkzTUsJ0._OAgZkU9W^GOyj7t4"
def vb:Abs.Fn:=⟨2,[.t 4],gC "1vNKQ@KpNi:;+:+wx^()9ImkBf"⟩
def tR:Abs.Fn:=⟨1,[.t 2],gC "+9Gj3,mtryUqdKRN]_"⟩
def DD:Abs.Fn:=⟨3,[.t 6],gC "+qpbUhlpaTmg1RVR2V4RIa>8SOliFR+E3n)eRGuY7EHg^73MSBCD<:)DZjwiGB+5A<kPA5u[A;ELGCEOf(8"⟩
def yg:Abs.Fn:=⟨1,[.t 2],gC ")`,wS(Kvzt2AhqqwLfhL"⟩
def Dw:Abs.Fn:=⟨1,[],gC ")w[NF5CTeDJO?,+QR"⟩
def yI:Abs.Fn:=⟨1,[.t 2],gC ">wTdUlS+<5GLw]ogTRcg9fvV>p"⟩
def C8:Abs.Fn:=⟨1,[.t 2],gC ":wIYLC[w[+B6MjURSG[H*ZqqZASj_j]FcR"⟩
def rR:Abs.Fn:=⟨1,[.t 2],gC "1<Y,]?kN<g<b:yGo5o1WhWu=Qbjr`op"⟩
def kz:Abs.Fn:=⟨2,[.t 4],gC ".]3Z;K3@>h>U*2<sF<Pt"⟩
def tJ:Abs.Fn:=⟨2,[.t 3],gC ".omCslit.Wu=F,w9kbJl@,8jb"⟩
def GN:Abs.Fn:=⟨2,[.t 4,.t 5],gC "0l54zOmRlGd?s,(6WnQ*GIPrK8];_:8e@dHZWg_6b<=,dRggVbcloxdK(SKn.)<,M1,fLY9cpZtz]h"⟩
def uG:Abs.Fn:=⟨2,[.t 4],gC "*^K]BSf*cXi37N9ZdTVpfPn;d_epZo5?SZ4>atJ4g..yk"⟩
def fj:Abs.b9:=gC "Bf8_RvzN1=jk,4J>Bt6f]W_a:x?EA?h5u:yC2iu8q@Mc2cX>0K=cANlmtz,419[,5U:PzW=llQHX:y*4Ne?MiTH@L*2[+qUwaVwkR7U]NWWh2I>`0(ULS3F07``MmkEPU+gz^Gx8;>:BkcpXFmAf^q5P41Ae:zP;3IGZAYZ<wF(SS+ROw5A.+sehcn=UugzB@R5ST2n^:rG="
def vU:Abs.Fn:=⟨3,[.t 4],gC "3A[;]*Z5T>UAU6wdp2DO0t+iDW2YAGnJY1(E>:viLnkCU[QZXzc<OnTo;2"⟩
def Iz:Abs.Fn:=⟨3,[.t 6,.t 7],gC "))5*A[cy9UyYuj[ni`H?UK[rj9.lTJ.;?Y=1<]A*kEe@fVpgk^:[NeW4yd)]8>6TX:+R.91w.LxOXK08(,1:VC8W8H>Oazua_5d;NOR"⟩
def ri:Abs.b9:=gD [] [qK 100 .add 98 99,qt 1 85 84] ".BL4HvA(wlk><Dtp;;>Mywb2?Q*@3Kp7>uUB8`rOaMyVo;_8g1]@M*F;uGoF<*b<=5ln<@)0SELH3UE@lkn?QlX7sZybUDz,c9:?1MzJc@xiqQ0rpEG_FNLI0?YpcuFOKv>2vcD"
def wW:Abs.Fn:=⟨1,[.t 2],gC "sh3uY9b?_pgjT6lZK>=O2,rD_zQN+@"⟩
def wg:Abs.Fn:=⟨1,[.t 2],gC "1<Xf<Rm.LFb6)_q6>Up79qn.my+1;*M"⟩
def tL:Abs.b9:=gC ")U<V^]EA`hRxh0K``2X;IZztzc7s.="
def kI:Abs.b9:=gC ")5MU>OJzU:qttYTDJ+eK<;[gjoPDvuvS^l:NqTNiad)(_ok[Hf_0ui2U:yKeh9+C>OUQpecc4^nBxYT[wn>NvG2^ux6aK=_rQEc>)HX3BWAvz^hlG<"
def kJ:Abs.b9:=gC "BP^g(SlXFpiPE>f<GnWNJqnx[5:8<Rtq3ILjrbnaaFEk+OFvKJFeEkkdW<33:(:_F:)`orKIll`S)xK(NmO50jYgkGGt?=RV)9[oU@7K8e._W,1@t=nz@(jd@]SR,s1CxJodtyfx`*_VSnjTj;^I=]1^>b+06C^*5Y[2.?lqFjWja2Z6XBSW6RvQX927gNr"
def uN:Abs.Fn:=⟨4,[.t 5],gC "+?v5?tAxZ4e=INsQc*L)DGWcXhpL8?l87x3e6L3;UNLYCKYImk2BvUP)iyE?paM?pQ(,>88G;*K^K0Fr6[@m)[;yR`xf6KOcE>^zhm5fT:epk:9MNAxXPK1jo=?<3LL51aar,_Y2Pxbc6AG5)6q3IQ1ZwJ)rJ:4(1,+rz1^K>7B=BM7;qlu8h@S.9sB`6"⟩
def zK:Abs.Fn:=⟨1,[.t 2],gC "7tj:ZuNf[mvJRa6,olz+Cxw+0(aDu"⟩
def FJ:Abs.Fn:=⟨3,[.v 6 true 10,.t 7],gC "8LjrL]DZFb*d9cgTe@sq,^F`9P66gUwt=BVMGfyIiWR?Nk.Pj@oAIqdov(QN)q+6.fEO6eKmTykkImmww=Wq.S^3DGXf(=hUM6pb_MJ9Of+AwU]Dg,kXl,8T[IDPM[8@ICRtC:RUF[5SG<4=s"⟩
def Dy:Abs.Fn:=⟨2,[.v 4 true 4,.t 5,.t 6],gD [] [qo 3 (.FU (.t 1))] ")Oy7C>nMObhOnAd5AS0Z1MtMi;ww:n_BLzzMF`U`3vWver>7ICbv;^HfVB]Gdi4urDI53VUPE*n=.NriM@bIlXpT^uD]97sWULMlMVZ3>jCN:Oc5B.ztnhpD]^vOVqXJfkYLi+q7o=o@0c6v.N7C0J8l*tNH^,Fa^]AOT4MJRR*TFJENXn3e8zi>9IWud:2S`"⟩
def Dx:Abs.Fn:=⟨1,[.v 2 true 2],gC "CZFkNQ[KlAaxYZFmzh9H(.4X@mJg+SU"⟩
def IE:Abs.Fn:=⟨1,[.t 2],gC ")QOOHEf;Le=appcoxEd[iE@5+;5SXObpTIWP>DWt8ox8Rqasd"⟩
def lI:Abs.Fn:=⟨2,[.t 4],gC ".wQU<LfRg1A]T47DhZ(OK"⟩
def so:Abs.Fn:=⟨2,[.t 3],gC ";K<ATO^ALLrn`KR@lKF"⟩
def wT:Abs.Fn:=⟨1,[.t 2],gC "7tj:ZuNf[n9F+OvI,[Bh;Uyw5UO<M"⟩
def gg:Abs.b9:=gC "0:U7k,vO63E;8DFFZOqUsLHP43u10A,rOU(_ab*pxw<E^8D85=0`QOSkEH6s.uhp4aRLkAf;TW91aXsw>be+>:sUs<0@^.esj95vkg;KSg:gUyo6]YE=mMv,RFFSkcS=Zspk;nvSuw)S>3ToAwgJj1PLCyT1+K_m"
def Bw:Abs.Fn:=⟨1,[.t 2],gC ":05M?UlLPv5qiM5`U[,f`]we3m,+P2saXXHt?61tAVVoH=hmT?3?5enjUlzGr6tK<RcrlUxoJ@7x;.fvF2bxvE;SOu:oRWWiJf;z7tYWFxK)(YV[[jSt(dhfajQK@n7eghx[52plT.Aaw_bj?TIpm4axDeZ0toOiYa,zxKr],Hp)5[qO>uPjsM79"⟩
def Kj:Abs.Fn:=⟨2,[.v 4 true 11,.t 5],gC "S;?TyLo*gFjyY9WB`c+ODR,z0y.W5Tj_7B)k9[HAd_s784K?t+doPj=lN3`AAI)m>L;cz3IPyHGE29Pffp6Pb[trD)w319M6,"⟩
def gJ:Abs.b9:=gC "*HapH[lZ4rKy`]rDkiNaPdF,*,MiZ04@9]JZTu;^5o9^<v=wtbHfrcGejf+]^9dV;<r?@thEoGFSu+uo]ewktkL=R"
def mY:Abs.b9:=gD [] [qo 13 (.call false (.t 12) [])] "S@@t5qeBq8kFd=qKJBQB;PpPrpZKuilUG1p2VV7;@62spk;Pmb`k_@M_iQgL[t"
def sZ:Abs.Fn:=⟨2,[.t 2],gC "0S0dReIJh_78ER]z0RFK8"⟩
def tG:Abs.Fn:=⟨2,[.t 4],gC "3ET54s:p,gBXxU)zr`79N+9J0:6weRtdo*m,o`tt"⟩
def E6:Abs.Fn:=⟨2,[.t 2],gC "1Je^KDKe@3NJjX4MFUF2mR"⟩
def wS:Abs.Fn:=⟨2,[.t 4],gC "V90?]4S;gk>Fz;Q_FY[x9k32+9IgoOQ8]NSoE`1LyVbf:8a@bG;oHda=uf>Rk<3=4jdFTlCi+OE9EIUmVo_Ql6b>p8u*e(>MSdXsS3_>"⟩
def E7:Abs.Fn:=⟨2,[.t 2],gC "1Je^KDKe@3Yoq9XSJ.^=LX"⟩
def uI:Abs.Fn:=⟨2,[.t 4],gC "K<MvZ43]hU8MXXc]uTp<w6d9oqyISF6Vzmi?W3kT;0_+*np[C6Hh,37F:hC:_BRHw2UM(7I>hj51vg>ajRQpofQop9Jh;qFu*e?l,"⟩
def vR:Abs.Fn:=⟨2,[.t 4],gC "*p;xgow@(gna_Rb:ovu:m;JS6a,)l=g9s2gdBvky0*XUA+h)R"⟩
def zZ:Abs.Fn:=⟨1,[.t 2],gC "+9Gj3,mtryUiq)JcmE"⟩
def yJ:Abs.Fn:=⟨2,[.t 4],gC "1vNKQ@KpNi?g1?io>jr2>r=+fr"⟩
def z6:Abs.Fn:=⟨1,[.t 2],gC ".*,yRM7FjS3V(>@P"⟩
def dr:Abs.b9:=gC "qU=ZKVa`Cw<ix+uu[wE^`Z.dyg+beT@tXMrEn.L)<3N04Bjs_Pu.w1c+OTknMX>xhG5Pj)q1oW*y"
def uL:Abs.Fn:=⟨1,[.t 2],gC ")=7TXyxGha8J]4>zn"⟩
def j5:Abs.b9:=gC "vgHLe74^R<BHJLAzqNGS*7e=CMWzFCs`Y)+8qz17N_rWWi)=G4*4i9zC9+^xOmH8X@^pVE:3]C"
def FH:Abs.Fn:=⟨1,[],gD [] [qo 3 (.B6 [] []),qo 8 (.YW 428 (some (.agg [])) (.t 5)),qo 5 .QI] "*vXWRx8Kwo3xu@VR[vRU2egarQalRpb,>?hKkv,EBxnB6YO02JgI.Z8eE0Ld0G=Rfv"⟩
def iN:Abs.b9:=gD [] [⟨none,none,false,.Ie 4 [(0,1),(1,1)] 1 47 (.t 41)⟩,qo 36 (.XO 428 (.t 35)),qo 35 (.Lj [] [])] "hH,`9Hi8AoRUiLsfuj,YENDkiZge64sh<j,<9rU8PV]2O4?47HxL5o1ipm9tr7yWg.qP?Nx((V,6mFgOu<XAsy)9`n2oGa;zFL3[qzI?WV56RKy;qJec^Xe=A?i7F;mU7CSW:n*^@W@wSU^>OvR2sMjd]OYT9;6vpZROqIts"
def GO:Abs.Fn:=⟨3,[.t 6],gC "WW^L>`8N`:cN20Bj0jHmPfP^wR>:cxy4+FtiLxIT4_ZEMVSD(Q.q=;hKO1>fTV5DK675;^6Q1sD<ByEYN1`n999RQ<bC.`hG)5,AL]0URR=[Io=MOoXs*]OBUU6xOqH(+>nQ"⟩
def yw:Abs.Fn:=⟨3,[.t 6],gD [] [qO 7 (.mv (.c (.int .i64 (aX 1)))),qn 33 .gtr 32 (aX 10000000000),qn 18 .lss 17 (zA 10000000000)] "M7?q[sX<xx1BttL)83;b;g@wG7`33tr^yeD>.qt>CtmP^YYk<(@;1=IhOA]TD^F]7BLLt[yei^3bMsCvygwJFZh`WUAytM]sF;BJKrANmUMNydK^gNxc.V]ti,cJ0)jj[M)N4Ifly6QqIE+;cox](@qD1gCFSh6fv16sN57@,Y*WM7((pw[48ud]ur"⟩
attribute [local irreducible] oj om nc lB kN fj ri tL kI kJ gg gJ mY dr j5 iN
def Gw:Abs.Fn:=⟨1,[.t 2],gD [oj] [] "3SJjK6sQArkR8Gqs^upthNI*.Qko6QYws:K2oJch.Q="⟩
def Gy:Abs.Fn:=⟨4,[.t 8],gD [om] [] "*D*I6a?qcgwl;ma<FeOFDKZ:x2.hP)WQO>PcVDUVCu_<R>F8G1Nk0T5*`<Y;9:JX(VFZkWSW8d3?CrKE(kA=)fUw"⟩
def Fs:Abs.Fn:=⟨2,[.t 4],gD [nc] [] ")Gp,G<gP@*L@?`bTr+<WeS39Rs8rwu;,oKZy(4Q,"⟩
def iY:Abs.Fn:=⟨2,[.t 4],gD [lB] [] "BhhO2J>G`gQ_4cA@f[tHiP*xe"⟩
def iu:Abs.Fn:=⟨2,[.t 4],gD [kN] [] "BhhO2J>G`gQ_4cA@f[tHiP*xe"⟩
def uO:Abs.Fn:=⟨3,[],gD [fj] [qx 4 1] ",S4Ng)n.J_(5uTDnM*yHLpa]oXygnGh?"⟩
def C9:Abs.Fn:=⟨4,[.t 8,.t 9],gD [ri] [qo 10 (.mv (.c (.fn 245 [] []))),qx 6 2] "+X>R>9L[L0wBhCZIv<gc<5rDU]@`GuJkurDws>?16SsUKBrr]U74(QJZbBW?u^[)suX0`aR_z?WE8LEc`cpXOHYnCOFo=Ad,f6<V]XWo:kdihIE<p]nFS=0WyF.+4?pvpWAaihmlTC0nN;vB89L@Y+^o.zm4aUi*Nf]vP9b0R3>u19<4G^:VO`y7vAinty=b`y9f61+]9I>F+kGhNzX_gk9TbRj)VE9`vm9b*IA^v6lykHj)wDA3`N4vz?)o;rWiRjtEyI^"⟩
def zR:Abs.Fn:=⟨3,[.v 6 true 2,.c 7 false 1],gD [.Uv (.c (.fn 251 [] [])) [.t 7] tL] [qS 6 2 6 22] "+1BLULGUqlCC^?V[<`HT3vMM?ptn+:_LQ+PzFGj8G8fWbKDu,i3h=)*_I0o6e_NqETU)ZyuY4fh?4rbo7ZsBwW)bZWvVA[^G62O1Tiwpj"⟩
def kK:Abs.b9:=gD [kJ] [] ")*U,aCt9iF;OFTqJls5s@+@R(Rfd8i9Q54X5sL@=Mk34E3YU]@<)DLtCYL+=B+9EciZpKM9s.dz`aa;T8Bex_ZaDJwUmR0Q;kriXA2Rzo]UTg).aBmpoJ:O0wyY["
def xn:Abs.Fn:=⟨1,[.t 2],gD [gg] [] "wl.tmULHtt1iRIV).((5JBsFPUwYO5UoiS`Y7>udz)p`I@j=t+m6VbbC^:QsR4T>@QzC1DA_"⟩
def xi:Abs.Fn:=⟨1,[.t 2],gD [gJ] [] ",wcE49[TNosY4m*Pj^8233<?3<b`,BNX(X)R=J("⟩
def E8:Abs.Fn:=⟨1,[.t 2],gD [mY] [] "39h>P:ID8jKv[,1R4_;YQcE"⟩
def m6:Abs.Fn:=⟨2,[.t 4],gD [dr] [] "lAD8;34s1IaO*N^fQTF11nHz`6a`ceP"⟩
def C6:Abs.Fn:=⟨2,[.t 4],gD [j5] [] "QG=P40k:3UxAu3rnAW]PQ6DH0wB(8IhAMW@@c?i(gBHd4j"⟩
def zW:Abs.Fn:=⟨2,[.v 4 true 2],gD [iN] [⟨none,none,false,.Ie 4 [(0,1),(1,1)] 2 4 (.t 50)⟩,⟨none,none,false,.Ie 4 [(0,1),(1,1)] 1 13 (.t 12)⟩,qo 4 (.B6 [(0,1),(1,1)] [.bA,.bA])] "*7yb7u_StP1ZKzupdaI+hE>2uvfSlRz`I,)_vPo4r>NP6<v=3rVJN"⟩
attribute [local irreducible] kK
def nR:Abs.b9:=gD [kK] [] "*ANOd.o=8BM1D=Uou<;],B2`+Z[hNlXAgTx2FJ4R(Cxr2LC0LU>=1NqwRfgIOlTeW)SV5"
attribute [local irreducible] nR
def tM:Abs.Fn:=⟨4,[.t 8,.t 9,.c 10 false 1],gD [.Uv (.c (.fn 251 [] [])) [.t 10] nR,kI,.cI [0,1000002]] [] "1.o?z2iy:8=V:x6sK)BMB<H29Q4Mp8fRM@b(O,@O;Gb6^7XI<E_Swg[=alZU*b.Zo,m<=Jc(E]=dHx.,[HIH=dEz[3N0W;uvLRUNdV<_hcIn@yc`cXSzD8<S"⟩
def O6:tv:=⟨[(7,[6,7]),(6,[2,6,7,8]),(5,[6,7]),(4,[2,6,7,8,21]),(3,[2,6,7,8]),(2,[2,3,6,7,8,16]),(1,[2,3,6,7,8]),(0,[2,3,4,6,7])],[],[],[6,7,8],[6,8],[],[],[(0,[0])],[],[],[(7,some 2)]⟩
def JU:tv:=⟨[(30,[8,9,10]),(29,[3,4,8,9,10,15,51,52,53]),(28,[3,4,8,9,10,15,51,52,53]),(27,[3,4,8,9,10,15,16,51,52,53,99]),(26,[3,4,8,9,10,15,16,17,18,51,52,53,60,61,62]),(25,[3,4,8,9,10,15,16,17,18,51,52,53,60,61,62]),(24,[3,4,8,9,10,15,16,17,18,19,21,51,52,53,60,61,62]),(23,[3,4,8,9,10,15,16,17,18,19,21,51,52,53,60,61,62,86]),(22,[3,4,8,9,10,15,16,17,18,19,21,51,52,53,60,61,62]),(21,[3,4,8,9,10,15,16,17,18,19,20,51,52,53,60,61,62]),(20,[3,4,8,9,10,15,16,17,18,51,52,53,60,61,62,63]),(19,[3,4,8,9,10,15,16,17,18,51,52,53,60,61,62]),(18,[3,4,8,9,10,15,16,17,18,51,52,53]),(17,[3,4,8,9,10,15,16,17,51,52,53]),(16,[3,4,8,9,10,15,51,52,53,54]),(15,[3,4,8,9,10,15,51,52,53]),(14,[1,3,4,8,9,10,15]),(13,[1,2,3,4,8,9,10]),(12,[1,2,3,4,8,9,10,32,33,34]),(11,[8,9,10]),(10,[1,2,3,4,8,9,10,14,32,33,34,44]),(9,[1,2,3,4,8,9,10,14,32,33,34]),(8,[1,2,3,4,8,9,10,13,32,33,34]),(7,[1,2,3,4,8,9,10,32,33,34,35]),(6,[1,2,3,4,8,9,10,32,33,34]),(5,[8,9,10]),(4,[1,2,3,4,8,9,10,31]),(3,[8,9,10]),(2,[1,2,3,4,8,9,10,11,27]),(1,[1,2,3,4,8,9,10,11]),(0,[1,2,3,4,8,9,10])],[(4,[3,4,8,9,10,15,16,17,18,51,52,53,60,61,62]),(2,[3,4,8,9,10,15,51,52,53]),(0,[1,2,3,4,8,9,10,32,33,34])],[0],[8,9,10,13,17,20],[13,17,20],[],[],[(0,[0,1000002])],[],[],[(14,some 3)]⟩
def tF3:List (Nat×tv×Abs.Fn):=[A1 [0,1,2,4,5,6,3,7] 174 Gw ,A1 [0,1,2,3,4,6,7,5,8] 175 Gy ,A0 176 Gv,A3 [] 177 GD [] [4] [4] [] [],A3 [] 178 ID [] [6] [6] [] [],A0 179 Fk,A0 180 DA,A3 [] 181 IF [] [4] [4] [] [],A3 [] 182 Fu [] [4] [4] [] [],A3 [] 183 Fj [] [4] [4] [] [],A1 [0,1,2,4,5,3,6] 184 Fs ,A0 185 Gz,A0 191 iY,A0 192 iu,A0 193 vb,A0 194 tR,A0 195 DD,A0 199 yg,A4 [] 200 Dw [] [] [] [] [] [] [] [] [(0,some 3)],A0 201 yI,A4 [] 202 C8 [] [] [] [] [] [(0,[0])] [] [] [],A2 [] 203 rR [] [2,5],A0 204 kz,A0 205 tJ,A4 [] 206 GN [] [6] [6] [] [] [(0,[0])] [] [] [],A0 207 uG,A3 [] 208 uO [] [7] [7] [] [],A0 209 vU,A0 210 Iz,A0 211 C9,A0 212 wW,A2 [] 213 wg [] [2,5],(214,O6,zR),(215,JU,tM),A0 216 uN,A0 217 zK,A3 [] 218 FJ [] [6] [6] [] [],A3 [] 219 Dy [] [3,4] [3,4] [] [],A3 [] 220 Dx [] [2] [2] [] [],A0 223 IE,A0 226 lI,A0 227 so,A0 232 wT,A3 [] 233 xn [] [4,5] [4,5] [] [],A2 [] 234 Bw [] [3],A3 [] 235 Kj [] [4,6] [4,6] [] [],A2 [] 236 xi [] [2],A0 237 E8,A0 238 sZ,A0 239 tG,A0 240 E6,A0 241 wS,A0 242 E7,A0 243 uI,A0 244 vR,A0 245 zZ,A0 246 yJ,A0 247 z6,A3 [] 248 m6 [] [4,6] [6] [] [],A0 249 uL,A0 250 C6,A4 [0,3,2,5,6,4,1,7] 251 FH [] [0,3] [3] [] [] [] [] [] [(2,some 1)],A4 [] 252 zW [] [4,12] [4] [(1,[(0,1),(1,1)]),(1004,[(0,1),(1,1)]),(8011,[(0,1),(1,1)]),(8013,[(0,1)]),(10001,[(0,1),(1,1)])] [] [] [] [] [(7,some 2)],A0 253 GO,A0 254 yw]
theorem kF3:(tF3.map λp=>chk p)=tF3.map λp=>some p.2.2:=by kernel_rfl
end Go.Proofs.YtpapbbojmclkgaaGreatDoor
