import Derived.Test.YtpapbbojmclkgaaGreatDoorIds
set_option linter.all false
set_option maxRecDepth 100000
namespace Go.Proofs.YtpapbbojmclkgaaGreatDoor
open Go Go.Abs
attribute [local irreducible] aX zC
def nz:Abs.b9:=gD [] [qt 1 98 97] "47BGHf=udy^NX(E*Uvz[Nms`:<tx+85Ou[@`R,UKb[Tn?QH:V1Q+ltui+wQeBE.t^qwyvKI_xa>q8Vi,n?z]0BkWj3Ml9._>)4_^vcObNqBWd0c?HI5<f*WtXbA[UsSlJ=x_,frPI)wzWN;eSaF?IvCsSCxwMf[xzN("
def oz:Abs.b9:=gD [] [qn 22 .add 21 (aX 2)] "J0)iYe?_k9?@^q6,fM6=xns:)A.wxu9t8W=W?rWAH*FcFEQ6XBl9q6j>:z`B>K6E*hGXAa@9v=yarphDs5e>("
def nA:Abs.b9:=gD [] [qO 134 (.fld true 0 4 (.t 133))] "[fCNWA:[FQDKzJz.vjyUap6u:FYF0`[K6MCsf*O^n6VognBpoKZ)dZ?yvy.ZU+2o<Vo>1rHm[5Bj(LvW>^q`YF4qsMf6(iW?zX30_q)oU?A5nX])FJ?0`cJg:2w.uODi4pz;YEN<tA0n)zMJm=_?+iqzD:>iV;uV*w[d^fpy2BZJ<aKMySYvG8iLj7TrLj^l7gSouIIqluP6[]EYIO,>_SBn^Q[@@`b7?rF3ZuTZ]BmPD=+Az.I_:vD4LSvoPOfe0D?B1UYm*WL_wpAZ4`c<siO9+?t`oPiwS9lUj,PSI30Mv7Shl^:BSyk06bwk?,sj(+QR4guQjA?08LHq;Ur:ApfygCJzP<=tQ:;:R+:f6`dBG8DX,IDHvA7ilOgTWLJzv5[=Wm9clMU7RR"
def oA:Abs.Fn:=⟨2,[.t 4],gC ",FKO,T6S`2Q>ZRatok6>0"⟩
def zK:Abs.Fn:=⟨1,[.t 2],gC ")J`sy<7zQ7cZL8fV4eg0"⟩
def ja:Abs.b9:=gC "ETb*,Nwzw0un>>eiIsOH4WlKaZ5dMjQdY1br)VP7M*l5;?j6V2P[>,5J5xc@>>x4K)zM?.,LtV9wlfCQ:OgNs,;Hdy2iJi+IJM[y7,(P(?iVfx5^lr0bP8LDu=dnej@8.sVVx(x;Qt.u<E2*75ydsP0j+90pR"
def nk:Abs.b9:=gD [] [qO 34 (.mx (.t 26) (.t 33)),qO 25 (.mx (.t 17) (.t 24))] "*rrj?hjL=UlqHqM14Lv^<PEuf>CN3Pbj7,OLpCsT6=RwwkzQjdn>n5nA3npYGPAiOL`tSXN+W2C19P)=CoIKV6y^T0jW<>f:("
def uN:Abs.Fn:=⟨1,[],gD [] [qo 7 (.YU 200 (some (.agg [.int .i64 (aX 0)])) (.t 4)),qo 4 .QA] "*0*SEmF8r;Yd2SDu7>U(`EhK`8R5vOyU(]p05n_3@3]i(2lKVi,,sVg2`ZeZkvuh.QY"⟩
def jy:Abs.b9:=gC ")<]4`IfOj6W`AIAKON[1exlhEalEh7k8WH>Be+eKtF0OHReu*]qpf2QNsJD.("
def Br:Abs.Fn:=⟨1,[.t 2],gD [] [qo 27 (.bin .shr (.t 26) (.c (.int .u64 (aX 8)))),qo 21 (.un .xor (.t 20)),qo 19 (.un .xor (.t 18)),qo 9 (.bin .shr (.t 8) (.c (.int .u64 (aX 8))))] "J`:yZcS0znk92H=EoE50L,nA>oKHsQ39=KuY*RJwU<teB;Iiczc0:t+Yj]ZGpnPz=z_rS81B>.UR,Jf9I]l(aA:`qaLB0aHh@t,;og0"⟩
def l7:Abs.b9:=gD [] [qo 62 (.bin .sub (.t 61) (.c (.int .u8 (aX 48))))] "0@5WRh<Wm6ZC0M5b;UQfv4.2UjSGKps+y3^l+4=x>zZLRU9Qd>dFkWa6b]Y:tmi0B7cjo+`cc.k*.AcyVp9adr=.6Rg@2E_.oS9Bn3KK1oNV[>("
def E9:Abs.Fn:=⟨1,[.t 2],gC "+80hs_FAcXK84gjblB=>,5NFh5RFored9Z:u*[,=h,Q>rEn0oy1<:7t`<r:8?N5<.papMhrX.Tuv2A+8SXbn(jdWG:e7gEayg0"⟩
def kF:Abs.b9:=gD [] [qK 81 .leq 74 80,qK 70 .leq 63 69,qK 60 .leq 53 59,qN 50 .gtr 49 (aX 0)] ")J5_E4Hp4A]=3,Ys@G,=(YT5lDMiQ@rW^)XD^UAm<GABc^M^Mxz`mbZPd[gvWRN9=q]m^*,ZX[1`zS7etUavnsw8EM,H5M^gcVPVAAuuOK2c@FdHS8w8r2m)^N+C*i4V9;>Mb4`P]K0U<R8]c>^y2jMiRk?4trvu,cy.?cVYWlHXNxhytk6Bo.dWKa1F3hMRuiNDyT7CMN`,Sub;RBMVc(WRPxP:u,(NHNFTO(+Qa]qN]d=RLGlc*mlMRl0WmddJTAfvCM<t3^A4zuZwF<z(rVd[)XEGp^lqC`*?M:p.;EVqjzysv(e=rMvUR"
def lU:Abs.b9:=gC ">bBjwzhIc0MmI>;>9EQiY`rng2a?N7)e.Xfiuaz<ueb7tosJjm]v18_@MxZjAk<DWVY*L:IX(jqbsQ=("
def zP:Abs.Fn:=⟨1,[.t 2],gC "Ids=Hi`Cn]Ek[@)oC]CcTGILB0d)oXEe;ZTPZ^2m1U+Yjfdy,yGyMDyeIIjrUJzdZC7tMpJ*QQ`j84]>ZR9H+p@0iQINLAclGE@3BjQ]5;og0"⟩
def pw:Abs.b9:=gC "5vr74=EBcPeLCKcUdAh=Jy_S[D.v^Y0T42O;L]*RRTI=pl<IzhO`D92[,)LT@g10A@[LR,:;6Mr8o3t>]mS("
def iJ:Abs.b9:=gC "*SVM>V?uKZSP:Yy[In0i6aVz+fp0d)p2Hcz:[@@*@?sR7xc5JlUt42US6eI9DlN7v,HP]6OEp5Ams9:Dz`XsqsBaY]D5MvUR"
def ot:Abs.b9:=gC ")^=^`+w:5(dn(3MrK9Wk0q<DiA[Bed+_rsKzXffzm.yc8F8LaI(*_gP4>4[p7u1tdL?Uqi8WQS>fHhe9GP0PVQNjfTBNmmfU]Ng^06<Y;7`A6Uy,9zv*mON55X21YIcMT5hBdyfFFYyzlfD>FrOzgwgr22A0G_RNiI]uV^suFl?Zy[G^9wR"
def fm:Abs.b9:=gC "=Ag>k,oy9tWWkBsn2XayErnhUXB]mwE=aUEqWATr3_vhH)TJUSBTVMUW]VH?2Vwuy<tB*Nza>("
def Iu:Abs.Fn:=⟨3,[.t 6],gC ".vPx]99xz2874rByk,aQhbq63J?0PX`WTrgGw^B=Z[r0Ig0"⟩
def lY:Abs.b9:=gC "B^v6XK`xdjLr;bu]hx`R(O5s51iXIKDQEY@u)5BD]C1AY)*d..4HZieElBe=OMSdqXJPY_1=2R1)s=y@1]xoqjD2wt7ypgjAe=4JZVe>fIgIj4:6nt8yywiHw2tPrm<k4o_Vaxe9imZ?FuCx47)c:36nbn`n]pw("
def Gw:Abs.Fn:=⟨1,[.t 2],gC "*7(6;sPDGk?VgXn^BgAvanW(0"⟩
def iH:Abs.b9:=gC "Czo_ahzef*6GWtbj=1*gLnb18x7makJ?+wsLln`xUD^1LoU,ss(_@Pjsx.P3^9wR"
def nu:Abs.b9:=gD [] [qn 32 .quo 31 (aX 1000)] ".heMzHeqc18GFFXEz:3VW+jK,Dz1ZVoK:vYFv(Ju8QQWh8VgQdcH<b7B;K)yP48n_,wIk2FqX:HhWSp:,NzXV9EDK4y[olUsr("
def ou:Abs.b9:=gC ",kpnN*OBq<O9HEkQWc]rf?qkXn3jB3w^n<z[4]O9v@FdVWcjS3y6d^KU^Zv.fCEEnzu=6Gy:Br6i)<iHR"
def lP:Abs.b9:=gD [] [⟨none,none,false,.H5 8 [(0,1),(1,1)] 1 53 (.t 47)⟩] "):1IE2s9aG>GRt(OE)UP;56WslXzWHH:73VzMu`NW@upEH0(G.Hg;pplbY_W_w,NVvp(Gx3MToHSCF,8omv6+*VpodGJPKosdZhe9t_ojiNjrLH9pmqXs4FN`NqwE,n8]Y9]Ln;.S:GmGZ?2@FLwipzC;Ln;kb(u6_@DM8*L_kkHl8)("
def J9:Abs.Fn:=⟨3,[.t 6],gC ".jX2?IZ4ol4LW)se6WHO>4N,kbDBb>0"⟩
def fq:Abs.b9:=gD [] [qO 74 (.bin .gtr (.t 73) (.c (.int .u8 (aX 1)))),qO 70 (.pick (.t 54) (.t 69) (.c (.bool false))),qO 53 (.bin .eql (.t 52) (.c (.int .u8 (aX 1)))),qn 49 .gtr 48 (aX 10000000000),qn 34 .lss 33 (zC 10000000000)] "+7bpSqPz>FfA<hUzNlTD[Khei(Q:C)UKrnFBYisVH0lqVYC7w@`BNe^3AN98pq7q9Cs+j>.GDLUNOF]j1asmwT*eP?^[wJ5xIK:+s:zM^0J.@OdQWM@3Ld0^0jP`DB3Lx7Tbq[q9W3+[>,axZ0+*9jL5;o2f=Y6Zf_?20MkZH24=v0ExA?.TRd>3+HnbLJi*PwYz>Y(IqOAoBatdhtH7w4upT=bdn9:+1fA_uu:LLVJstlrMXXEQK>?70glu:66fLtbY`zIyK9Xcz62q,6`],V)8`xtxPt*iKv0BF_:,[tuSe9_erf3uK9dnvZi<jc9xR"
def Ff:Abs.Fn:=⟨4,[.t 8],gC "*8f_FomIL:OM1OvCn7DFGQ^`Iq*ySz>09I,mVokd]ca++dMVBvxaPmBVBSy9ziVR*lmTzBRfOXkCnZDZhDZ6Ylx>mJMD8b).w3IKDvF:ilw.2naT]P7O)VkmKS]WO,Uv1Tjb=ZZbkPF29q,pv2Y0G=f.IOb_ow*>toO5ugdc4Eqq=@M1Gq.H5Uw6edATdbP)XqII.NpG;psR4R>0"⟩
def kG:Abs.b9:=gD [] [qN 29 .gtr 28 (aX 0),qO 19 (.call false (.c (.fn 103 [] [])) [.t 18,.c (.int .i64 (aX 1)),.c (.int .i64 (aX 100000))])] "*E9z10IMh]L[ukreqt42h?gVlt6Bh@axi5YB685a,OTHz@>0GbM,6tuMVpeEnEgw5f+^R8s=PC@qW8^il;MblEQJf79x>R8)_zmOn@uEODnx(+j^J5`xEQ6gye8eyznrz1Eo[?eh^b5NnBaY]D7AiH("
def xk:Abs.Fn:=⟨1,[.t 2],gD [] [qo 19 (.bin .mul (.c (.int .i64 (aX 10000))) (.t 18))] "Q91LT^m?W5p(6?<caHT)bama[YRWAyS_OHFWM.tOIYCYeSTr1J]3VDddRQhl>0YYndtDRT^*.vDboMJM8V*f7u*RZg0"⟩
def Dz:Abs.Fn:=⟨2,[.v 4 true 4,.t 5,.t 6],gD [] [qo 3 (.FM (.t 1))] "Tq9L,GQtJMS8qMAK7I9FS)D[QdwBNh4;<Ie>XEq@2[RZ)yr]HN_VcezEfsmK)k49WKj=r,qPrspXPG^;vDa`ozQWs4Qz_lvfE1d+ptO:=KaBFbP<Uh(YgS;YGgH5P_W8jR0"⟩
def E7:Abs.Fn:=⟨2,[.v 4 true 10],gC "JH2TGHv6<@6ZK(:<Bc*KJNMyjM<X0V==dx;j).=8Drl36`LYTXCi@Eub8.7G7+VM=0hCP3X^x_Rf*7akCtWC_DK<dGTgyBR_M69P:R3LAI8p,7kfcoIcbT_AUA)es580`q:XkXC.TXPT[+4U73skIm`^z@r]q8JiVd;7mNjTt3p=.M8p6mVO)Cft634[a2<p)=psXAJ1]pKBRvLXKMK1hw]gfmXi_MZ+b,IK@^=V.mWa3CaKud9<.uz+2<EcrTz<MAbZhiAdQ4(GvY(+)T=s:iZe_mDlXgSu]5@YlFrKs`QWP+OyE@v7x^Dj.xbRh)GUzVz8WHn720Y+lzqL?x=;m.q_tLMvB@nQdjph6*9lKciL<,KbI7q7P]LdG)AaPjTr,(d[MEvX"⟩
def oD:Abs.b9:=gC "2:WI.CUUsp>2^:?yd*e1*f,;r?X+q<^5_.4)Q@49B<qY=Ek)ME^RuH32srR"
def mB:Abs.Fn:=⟨2,[.t 4],gC ".WWVCRrjwW4s8LBFRyF2?.k6>0"⟩
def xw:Abs.Fn:=⟨1,[.t 2],gC "Ids=Hi`Cn]Ek[@)oC_j+xaz]J[u?H4KlOWvF5T(y:fOpz_*OklG1SrEmYsO>sC*0MgZ2xrn>he7TL1QMt4U(ZP8wZj[25jclGE@3BjQ]5;og0"⟩
def lK:Abs.Fn:=⟨2,[.t 4],gC ".WWVCRrjwW51*PQE9+,4YCk6>0"⟩
def wv:Abs.Fn:=⟨1,[.t 2],gC "2C4kLjYCC5Qzkdl7H?=C0[XooA9WXK2xQ0x*UFsq*y,D=6=,>2jm`VSpa78(0"⟩
attribute [local irreducible] nz oz nA ja nk jy l7 kF lU pw iJ ot fm lY iH nu ou lP fq kG oD
def Gu:Abs.Fn:=⟨3,[.v 6 true 20,.t 7],gD [nz] [] "4L+u0]f]Q0??WxNMWblki_y[>Fchz=]2g40qyZOYYx8flYSSgb(q0d*_T0.c[ecHN>Y>]]kcO7B3ZR>3OGn`H(+UE73DRZ.Lx0mas<l,,:(MP^elZ)6KXqe=6:+4Io4cjYKkq`JHIQJB[z0Wo,5cfS^]DC:(2)qHw7(wYCnRL8=VoUH.UH;;yjTR.B3Op)XWWro(niY]H51@[i^anc[D*O+>5lygQb8`rWFJ@Rh>sK6=I?.2]Gj=RE]CVHij1EfVGP[^rr,EVcqL7g0"⟩
def Gy:Abs.Fn:=⟨2,[.v 4 true 20,.t 5],gD [oz] [] "+yyF.Cg_E?tW.a4MwJ5j?SkwXU1IH88bkFjw5G9ZQStagrD74XC_>hM)<n.FMWHanoUUI[p1AtXiJBMpwsWLGKXmfigL9j)TLLSF6uY0h29W8ZY@N4x_6USPx80^)K5Y<CxF5rW0koSXyQY7A<fwa.0G<YUoc+>0"⟩
def Gv:Abs.Fn:=⟨2,[.v 4 true 20,.t 5],gD [nA] [] "+4oP34yDi;xjrrYTsq<q@*=7v@BnI)+V+dRtX^qZ[ixo=K4ah?fflOSz@>SkLxlEgXc75+o6PL)_x?0rgY5gUxfQ3svD)kBg*.]YOq]IFr^lJGB3S;tV(i^S?Hcc(LOisYBW7h5MzlygY(=R.LBL_ho95mOu3H];Uy^?4ls`i<CIW[;M0u_4EOR)DIJiVj(l0dzQ7]N*I8FU1gq_?7(p8g]m.<ITJkxT]`IKG7ABW;iKPcgF4uDfkoTn`mHD7Yv]U?S94.wL5uAD@bT5.ub_Qc7b[duZpBO_)55(a^KEhuyBS3LU8LvQ5I9uKjHfq9V^KTGP_[Ln0Dqq2Cm80MB*ae3HXB,e?+>0"⟩
def eR:Abs.b9:=gD [ja] [] "iNH[aMane5,A;gNpI6bW4yh5@:on8R5@ICa:=N0,nX<yF+O3MTyJMSu+qT2erKD(^>2tFp(s=jO9Xf8>4nP?0;+Nhn;?RdX[T1iSV+?gqTE3Hzs>ANLqlu1LKBc.9_TiZflXetUwso4DngC_sFu??z(:u>GlIK5NPOkrkYvd0?@n9FqUyK^R"
def Fp:Abs.Fn:=⟨3,[.t 6,.t 7],gD [nk] [] "KY^J:_>8_^iiS5rZqHEVwA_WFKImjT3_Xz0O@derg(0"⟩
def Bq:Abs.Fn:=⟨1,[.v 2 true 4,.t 3,.t 4],gD [jy] [qk 66 .rem 63 65,qO 17 (.mp (.get none (.agg [.bool false,.int .i64 (aX 0),.int .i64 (aX 0),.pR]) true) [.t 13,.t 16]),qo 13 (.call true (.c (.fn 126 [] [])) [])] "^?f=0pY;Wn9dYx14I7FkKTXDLRaN(IBCC.43poMzciKY@1NOmANqxw.Y*8`t[5eEN^vCe@bR6<><RzHjILWL[6_gEU8MAt<.rASjvfOd@lOXF?9N<qRlV;kK?(i[oo(;nE;r64Kdw_WM@5n3nvK1a]dN<BaDlX9JVfPuED07T2nvZI_GNndx[=olwcE=aIBzp)`P;;slu<6Ip+goh=Rp@FVD(PqQWpebIQ[>0"⟩
def Fy:Abs.Fn:=⟨1,[.t 2,.t 3],gD [l7] [qb 3 true] "9[,3*qJaM(NQShJ0XVuqg]Oe_=45A(bz@D;Riuw.^6x:s@B1F6l@S>n5JB0zhc49)iXFnh4,H5o9EOmwN4DlYXp6o81wUz1U;wFV7ZOcqX;MS@V^SYTSBQI`EKBJTbf7B)EU>DlnMo(`bj26lJQF<KpEjQALJ7`PMXB<?,tDVFlq5t+`Ak]*RER0"⟩
def E8:Abs.Fn:=⟨1,[.t 2],gD [kF,.cF [1000000]] [] ")8<kKw+*Yv*Ej7?YlCAEg4;,VgE?:bEai;jidd8xX()rVi2g0"⟩
def lV:Abs.b9:=gD [lU] [] "_P2Wc]0iC31OX7txK57Ocza7]PbV(=CWc7P8Zn=ukQbM`.2ti8g`4o(k^A9;V;QN]Vi>`K^W;IM02c]mR2l(k?HUL5Et53e+1iVXb]]lP5kjCJP>h0Sg`N8AwpE>)a1Dfw^j5^_[bN)jdIK;:CG_+e("
def zO:Abs.Fn:=⟨4,[.t 8],gD [pw] [qx 6 2] "17rUrYr_*c<]@^[b*3dN+*;hW[eVI`x=54*ZgR:d(2JY.a>867_hL(D0e4wm_m[T.A=;ZpdhDB.mHisZh,SiNWMqhpRid*x4?1+zFawUP9B+Mz*(aREzf7@Q,H3RhrttKrHe3@Zg0"⟩
def yw:Abs.Fn:=⟨1,[.t 2],gD [iJ] [] "55+XNabh7.=,JEVPptQSP0.o(+(Da?__.?eT<Fhe?jCxCJQ0dV>(;ACn(E1:PRyg0"⟩
def Gn:Abs.Fn:=⟨2,[.t 4],gD [ot] [] "`@o<wl_,xt5f?cV0;V?xo(yRjlS3Vkdd^MJQEUepYsNl?>+=KuTYg0"⟩
def fp:Abs.b9:=gD [fm] [] "65+brMBPqsB4T>]bG2HJ[Fils3)p9>KE5p[ELW]jlS1Vx8Tef>nB:CRwP]`bH4,In<VDj^(+1][D4Fe1rU1j:GR"
def DD:Abs.Fn:=⟨5,[.v 10 true 20],gD [lY] [] "wQy]0q=+]I4^gaI+t<hk5;bQ>5Ro7M6.wlP;YnR,ofubZU>65N+O3`KJ3[N.txJt[orQsttP0"⟩
def yu:Abs.Fn:=⟨2,[.t 4],gD [iH] [] ")sJUPD5lg`F*zFm]fRBa9jQ5Puk(^JXJ+FXRt>e.61fn5^nZqU(0"⟩
def Ft:Abs.Fn:=⟨2,[.t 4],gD [nu] [] "Br<RdS4CQR*Fo`m)Jvb[zY:3(D>7OefDiGYHp0_H^xfLs:i:zar>z>0"⟩
def Gt:Abs.Fn:=⟨1,[.t 2],gD [ou] [] ",f:mIh`6Vu^tkJ55m`0q*Si3y)]ZPg0"⟩
def Gp:Abs.Fn:=⟨3,[.v 6 true 2,.t 7],gD [lP] [⟨none,none,false,.H5 8 [(0,1),(1,1)] 2 8 (.t 17)⟩] ".zGw>ffvN;ds,v9_Q[eGTC0iELqSu^Qd,.gzv*eQf>DWG4oqzt,B=_Id7D<Du.do)5ejpkgyR0"⟩
def uS:Abs.Fn:=⟨3,[.t 6],gD [fq] [] "*Bt?so*.74Q2iF`z?f)Ij_UM?y4VCp6;2^)mU@pi,[E]RUR0"⟩
def Fo:Abs.Fn:=⟨1,[.t 2],gD [kG] [] "9HF=[TOlVFyLsMy>G<GsTAfdS*?fAMUd@iU4M^(gj:^ulD],yuO0u=nbMW7)<g0"⟩
def qR:Abs.Fn:=⟨2,[.t 4],gD [oD] [] ":op5GANzS2MZjZ2SNWXtuGYg0"⟩
attribute [local irreducible] eR lV fp
def DH:Abs.Fn:=⟨3,[.t 6,.t 7,.t 8],gD [eR] [] ")lspXfP9.M>r)AYWeP)>e:5cHpcuJwHvYbEZM4)E.876x;zwb:3.bA<oOrW4jZHB(mxCcG<WvAt;y>2OZ+s?*EhhM;MvW]4x_D_Nz5OwH*xq(e_LIUsiBp+Zl95.CaoV.FwWHA>PmY3fFYy.[n^*+AI=E`r3z8GT;a5px7;QB]@61`YHCEbOVdfC8c0`n*16`5zclpqm:q>k5U]kfu)wXWa6k;rGa)MT7`*r.o_Gk(0"⟩
def Fg:Abs.Fn:=⟨1,[.t 2],gD [lV] [] ">qC;3j;2be9]v7y_vi0INwV^`RfP1;NA;mXGF_,5wt[9q+qr5fh]K>XD=WM+HS[@8?+D74nb41dotCNVGUM)6dfE60p3Uf9_G5a=D^5el2UY@xo[slkg1v1C@e(<QkdGIfSVl*tEdh(L9Oy)pa]C9[TSn6Y>0"⟩
def uR:Abs.Fn:=⟨2,[.t 4],gD [fp] [] ")(p4=3=AUUFS*jVPvZ?BXCwwzdm0Q[.7MLqVEZqU(0"⟩
def tF1:List (Nat×tx×Abs.Fn):=[A4 [0,1,2,3,4,5,6,7,8,9,10,11,13,14,12,15,16] 68 Gu [] [6,8,12] [6,8,12] [] [] [(16,[10])] [] [] [],A4 [] 69 Gy [] [2,4,6,44] [2,4,6] [(3005,[(1,2)]),(7015,[(0,2)])] [] [(8,[6])] [] [] [],A3 [0,1,2,3,4,5,6,7,8,10,11,12,13,14,15,16,17,18,19,9,20,21,22,23] 70 Gv [] [2,4,7,9,11,12,13,179] [2,4,7,9,11,12,13] [] [],A0 71 oA,A0 72 zK,A3 [] 76 DH [] [10,15] [10,15] [] [],A0 77 Fp,A4 [0,3,2,5,6,4,1,7] 84 uN [] [0,2] [2] [] [] [] [] [] [(2,some 1)],A4 [] 85 Bq [] [2,4] [2] [] [2000] [] [14] [] [(3,some 1),(6,some 3),(11,some 2),(14,some 18)],A2 [] 86 Br [] [22],A1 [0,1,2,3,4,5,6,7,8,9,11,12,10,13,14,15,16] 87 Fy ,A0 88 E9,A4 [0,1,2,4,5,6,7,8,3,9] 89 E8 [] [4] [4] [] [] [(0,[1000000])] [] [] [],A4 [0,1,2,3,4,6,7,8,9,10,12,13,11,5,14] 90 Fg [] [4] [4] [] [] [(0,[0])] [] [] [],A0 91 zP,A1 [0,1,2,3,4,6,7,5,8] 92 zO ,A1 [0,1,2,4,5,3,6] 93 yw ,A4 [0,1,2,3,4,6,7,5,8] 94 Gn [] [] [] [] [] [(0,[0])] [] [] [],A1 [0,1,2,3,4,6,7,8,9,10,12,13,11,5,14] 95 uR ,A0 96 Iu,A3 [0,1,2,3,5,4,6,7,8] 97 DD [] [5,10,14,17] [5,10] [] [],A0 98 Gw,A4 [0,1,2,3,4,6,7,5,8] 99 yu [] [] [] [] [] [(0,[0])] [] [] [],A2 [0,1,2,3,4,6,5,7,8,9] 100 Ft [] [6],A2 [0,1,2,3,5,4,6,7] 101 Gt [] [3],A4 [0,1,2,3,5,6,7,4,8,9] 102 Gp [] [6,8,16] [6,8] [(1006,[(0,1),(1,1)]),(8011,[(0,1),(1,1)]),(8013,[(0,1)])] [] [(0,[0])] [] [] [],A0 103 J9,A4 [0,1,2,3,4,6,7,8,9,10,5,11] 104 uS [] [8] [8] [] [] [(0,[0])] [] [] [],A4 [] 105 Ff [] [9] [9] [] [] [(0,[0])] [] [] [],A3 [0,1,2,4,5,6,3,7] 106 Fo [] [4] [4] [] [],A0 107 xk,A3 [] 108 Dz [] [3,4] [3,4] [] [],A3 [] 109 E7 [] [4,7] [4,7] [] [],A0 110 qR,A0 114 mB,A0 115 xw,A0 116 lK,A0 117 wv]
theorem kF1:(tF1.map λp=>chk p)=tF1.map λp=>some p.2.2:=by kernel_rfl
end Go.Proofs.YtpapbbojmclkgaaGreatDoor
