import Derived.Test.YtpapbbojmclkgaaGreatDoorIds
set_option linter.all false
set_option maxRecDepth 100000
namespace Go.Proofs.YtpapbbojmclkgaaGreatDoor
open Go Go.Abs
attribute [local irreducible] ba Ac
def vf:Abs.Fn:=⟨4,[.t 5],gC "**Vn4uAvU?;;@)=UskEWi0rbUhB,i_*446,k(d>Dff9,lVHAaWjby0um<Y;wwHlqeZqF^O=X.:(lEIhg+o2dL5sEsNygjFhXzT)<Vi<;EDLy*^7QymKtau_F[(<.5Ue>f9<hyS=v?AO<)Ht)VlQe@80APczntw@XrdkuPuPf8vds?AU7e2LNRj(v.g1h6"⟩
def Al:Abs.Fn:=⟨1,[.t 2],gC "7uE(>IMcsA:mCFGGBO.10P[>MigvH"⟩
def GA:Abs.Fn:=⟨3,[.v 6 true 10,.t 7],gC "?4]1QH=zafNyFPI_Kq2a50sDbl)y_g^;dX(F]QYsf]n<VMnp>hlmdRe>2F0xRdoF]y51WL:p]IsM9pJ33AdaXJ)NuK*.A9aMHdE]r>yG*JIe17Kc?5pzu>Rg,;ANjJ_pedmh5[l<jom`3yv"⟩
def Eg:Abs.Fn:=⟨2,[.v 4 true 4,.t 5,.t 6],gD [] [qo 3 (.GM (.t 1))] "85[DWyQCvrH8NNr=S[)j@]=^kyAth<4x[PvITJD=w.Ts9jV^O0dB`uycU5K*JX4E*j`0VKeVHFpqNxCuPI18:X+>vw(g:+Sr=p1xIIe`rh,qQ5EoiVKcg.jug*r7NA0Sx<Yo20k633);OLT37tN[<1cgwNRToS<@b@6J_FK?z+croONY16y(4:b*G]LP)y"⟩
def Ef:Abs.Fn:=⟨1,[.v 2 true 2],gC "C]H>0>^.xYh)HNLzg]i^Q7jJY9yc.Oz"⟩
def JA:Abs.Fn:=⟨1,[.t 2],gC "2SHtNAfAd0ghXnXe2CmKyYkDn0Kb.Deji<@Xh(Aeh+>ciO*O"⟩
def lT:Abs.Fn:=⟨2,[.t 4],gC ".we@vH2nYdsr]btg*.lL3"⟩
def sU:Abs.Fn:=⟨2,[.t 3],gC ";K<?SU0O@mKCWX[)_kx"⟩
def xD:Abs.Fn:=⟨1,[.t 2],gC "7uE(>IMcsANi]w<0)M,2yKdIkAQDv"⟩
def gi:Abs.bV:=gC "6BtiNoMQW.)F[@DYRviJ9=jB26BksR?,)iPJ2Jsmu>R,i46X,NqJUJ@k6Bd3`X5PMe03DjOus9u:9hf<_t>5kev>yA<kH2[jAXw8us>>rJE2SRSJ<wy6M60>8r<ywFB6HiyuL)5;=jpeHa?SG]p_nH80ZME?;@"
def Cf:Abs.Fn:=⟨1,[.t 2],gC "5q>D<.9XdkQDaL+eIJ1FThKG2>RiI69XzOv;Z1wZEALuFdFyFqYuYR^^u;V)R;.RHrGu)BiJvsE>no7>31.Zzn5^p2+WuKMFu?Sz,lXcldVUonXa6rtPeDvNiQHJ=]mS0b88nAYhNmdz8mSr7:C[SJne3o`SU?UScOsH.74C.0oIRF0si,rU=I[X"⟩
def Lj:Abs.Fn:=⟨2,[.v 4 true 11,.t 5],gC "*)e=f_VU1dp@aHr)x]c8+wYdCa[+XCQzDPlEw3abF>oHHZ8Ux;l6Xg=kS=f,nj7bsjF5pl7SQv^A6TuS3hjA<.[d5?K_AQkz5"⟩
def gP:Abs.bV:=gC ")y(ERA]46qNJ,@+y^V+?OGdfRNh*Oh4aK*BM,`j_BnlbIRK:ha_R+;A@D9<LtTNV@_CyN^5GDI`8itU0Z_IXQQ@p5"
def nj:Abs.bV:=gD [] [qo 13 (.call false (.t 12) [])] "*yOuEogAfxk,oBCu+rbvDx*`0hNXft8*CJ,>C4^IXd7wfRzyF`htj*Sjmx>,:Z"
def tG:Abs.Fn:=⟨2,[.t 2],gC "0SE<C8]]OGo)c=0CEh,8U"⟩
def uc:Abs.Fn:=⟨2,[.t 4],gC "2xJdGfU:t_KmPLKwO:Nofq?]X9DS)f3`EAAlAvw0"⟩
def FR:Abs.Fn:=⟨2,[.t 2],gC "1K)xm^^YJR+dhT60O1k;3S"⟩
def xC:Abs.Fn:=⟨2,[.t 4],gC ")5G*Zt<s2^:na<(L?0]k50jWFbtsZ2pf:fSkRqYb5p)OSHw,SEL8GHSZ>(`N>nk<A+ZKtlJ^,Bag:v55AtGeC+Vou9=6ZJYqKY4A7(k"⟩
def FT:Abs.Fn:=⟨2,[.t 2],gC "1K)xm^^YJR98B:9GDILzAQ"⟩
def va:Abs.Fn:=⟨2,[.t 4],gC "*>QSl^5?@;13WmZ_Ubs7jk<PZXBu1z4Lv6Ht4A_f;lU)snINb8GRVu8X6Z:0XQDB1,@3geQnWbWlab,l(uRnUJ,>.6xb=v?cA.3zu"⟩
def wH:Abs.Fn:=⟨2,[.t 4],gC "*k;21d58CG41jiRj*<i3eLt1:NNo@ZMplMvH+K6p0=ltX]R@6"⟩
def AA:Abs.Fn:=⟨1,[.t 2],gC "+<(7^Hz?A^5,*(N^C6"⟩
def zi:Abs.Fn:=⟨2,[.t 4],gC "1w0N:O@kvJIO6n<]PlGAO9.mfq"⟩
def AB:Abs.Fn:=⟨1,[.t 2],gC ".0(<C`Y)I@HO2JOI"⟩
def dz:Abs.bV:=gC ">WrBi5Rwzi*oa3*B@7j4B;1@eYi<Yl*iSZ:bnh21]6,IMSf9i1dM.bg0W<AAJrmu4nRoQtbQzKfsTn"
def vd:Abs.Fn:=⟨1,[.t 2],gC ")=7T?YR=<XL3:2zu0"⟩
def kh:Abs.bV:=gC ",ltsIiF`hOkhX9lbzpund7RA<h19qzJ@LmCfHaT0jmAQ+6;KvL3<A8(n3^[s0.lEY+6vkL)_I1"
def Gy:Abs.Fn:=⟨1,[],gD [] [qo 3 (.CK [] []),qo 8 (.tas 428 (some (.agg [])) (.t 5)),qo 5 .RO] ")cL?x1T<>R_]9UYFQTKbY[uph=pQg^y`F]rLqDuWws7dL44=Ux@nlu4GLOY)wXqw]OV"⟩
def iW:Abs.bV:=gD [] [⟨none,none,false,.Iq 4 [(0,1),(1,1)] 1 47 (.t 41)⟩,qo 36 (.Zk 428 (.t 35)),qo 35 (.Ml [] [])] "+,R+v02W,9Fo`0h;oUsuvUVu_nw`,d.P2iJ>>O142Z>UmoiJ3:=tfBwqiI.yE::BmL3kXRsrOIy+>sSe3p8nTBinW:+L0N6MO6u2.,XG>XRyfgJM)@7=gy@2Bzm7VN`^]hIan,xi^SMan:<3=x3.76XRh`:bZ2+Ar,28nKd+"
def HF:Abs.Fn:=⟨3,[.t 6],gC "*eOY2ODDvNN>gSo_SVFL6mi`G2wX08J(gJ4t)hz:x_+ia7=O*wq:j*LVjAzW.rAJ;8Z8EzG)wQ<g?Y5lgTB+TdhO.?;2bOE[+PFu9vNF]uEvuErr93]LLF@KRzg;WPS[;4AM"⟩
def yZ:Abs.Fn:=⟨3,[.t 6],gD [] [qO 7 (.mv (.c (.int .i64 (ba 1)))),qn 33 .gtr 32 (ba 10000000000),qn 18 .lss 17 (Ac 10000000000)] ")ma0Li=YLaEqS6g[XjNbhUsVw)=4rDBhJG+Sz8S@+b+aAHx[[[YOGrPAuvIT6ykEwE^KkS9^FE01nSm<*vFT3s`XP@W.<WdUr.k3K5ze5THcJa.dXNuiT59p^mm^L=1kUqbed[UnnvZ2J0W9ya1>xZyc,+nKc[UcKM>bg51qmhTQQYDUkej8G30k6L"⟩
def qd:Abs.bV:=gC "*vCkV.ye)Pog1y.[n3?3AiW<1x.f,YUXNm_2je8DGYb^:c4P+M:l9fvm*6NwqNcJ[dUizLGPprmt@DwE__4Yi"
def Au:Abs.Fn:=⟨2,[.t 4],gD [] [qo 14 (.mn (.c (.int .i64 (ba 0))) (.t 13))] "+eL6UsB;jjBd00G;kjSVBBfOcwrj]Wny^e2Q"⟩
def xU:Abs.Fn:=⟨3,[.t 6],gD [] [qO 23 (.OB false 5 1 (.t 20) (.t 22)),qC 20 308 []] ")(H?ZNh5UoJANREZ6zlZdYXdzB,MOPMm_HXTXkJO0]r@>C`ELE*DwCU;df@vT+ap2TxFA^ml3[h*b1Kf[N2s,[cD1=S"⟩
def yT:Abs.Fn:=⟨1,[.t 2],gC "1D;3R`sQ,]D>EMn)tog)Ki`[RME;vMan5ISLR[^i1zczA?gB7yN2@a30+l94>]s3Y=^kM"⟩
def Az:Abs.Fn:=⟨2,[.t 4],gC "2s>zu.kHgtAcR2eGlsS=5wmaFe_M"⟩
def wU:Abs.Fn:=⟨1,[.t 2],gD [] [qo 19 (.bin .mul (.c (.int .i64 (ba 10000))) (.t 18))] "v_L9jN*f(^aGJ9vsW0EX9sErTM7GbSTCB.,`=):GZmPX6hsqdpS]O*[3;h[=prlotxTEPM+5<KrU^bX2,IGIV7eqTbg"⟩
def Ck:Abs.Fn:=⟨2,[.v 4 true 5],gC "*C;rBz<I78L2OS[uVJ?4dd+zg+"⟩
def Cm:Abs.Fn:=⟨2,[.v 4 true 10],gC "*8)S89)+Nc,@irRwts9v)W9;.cWn<p3,q.+U7:wsYjp<+32n+QsqVAixQV(T=8A.Ct;0?x?B:*+N7:TD8QDvOo?KoEKOvL<M@Uf9hu;`C(J?JyzW?MHh<[FDbge91;jvaSM2SzZk)>+J(:0h6MYtc_mXdcWlJ=bNY,e=aK*]GKHg^^hOVFYo3vPZo7O03nFSAAj5Wi,VSnW1*iUCJvl9)+d6;Zdyhof>ww0s1Qu(dEcb3z)JTD+@RJla)e9Tos`6XXfv4@j:Y1[;b]A:CtEgoUDm1;h?5OD.L)3]"⟩
def F9:Abs.Fn:=⟨1,[.t 2],gC ",@r9@QjI8*VvYnRD,iTwLEV"⟩
def fE:Abs.bV:=gC "XgJJPl(hpOaXTq7kS>OpGYJlQ`;X_3.3Iv1F0BCo(I<[x6WqLSx"
def iQ:Abs.bV:=gC "DC53y)FXDuz9v0G:3("
def iR:Abs.bV:=gC "q6=q6pzWiQf`l=32MHTb["
def kl:Abs.bV:=gC ")4kHhrYbk.T=C0gMPE676DTsxsU@MS05t<UEj4c_SKX7eVHD("
def kj:Abs.bV:=gC ")4kHhrYbk.T=C0gMPE676DTsxsU@MTzibAP[C0;7sg)gId1RT"
def rI:Abs.bV:=gC "06b9pDUgN]cs5cvjMy5lvm11U(MLUOg@cXKdf=t=];nMz_VcvVwDZaT>br_"
def xE:Abs.Fn:=⟨1,[.t 2],gC "*7*Y6suZ^4Rs@sXNtbaPAm*`_LrUk]uY:Kxy+RBVPbqwU7J,<`1ZR`hGXCeLpa=VZiz<W3l`.F>9zNzxyHXsb0fw,3"⟩
def Er:Abs.Fn:=⟨3,[.t 6],gC ")@2FI`x0soONy@S)Rv:A09:@_c_]U]I"⟩
def vm:Abs.Fn:=⟨2,[.t 4],gC "1w0N:O@kvJK2vN4<cLDzU)F:6y"⟩
def Ay:Abs.Fn:=⟨1,[.t 2],gC "QNESQ<isZ2,QA98Xi:vz3<oqnOyAWtC<SVQgYvRQjtn8(rd43nBrG.GVJi*TEzNRS=FSAZtDw*)SZI8CtDhLWYrd`eCX<,1e5F?HHRebKVP4s"⟩
def Gz:Abs.Fn:=⟨3,[.t 6],gC ")@2FI`x0soONy@S)Rv:A09:@_c_]U]I"⟩
def DN:Abs.Fn:=⟨1,[.t 2],gC "HW=ONVGZhiIL=wrEoH2=[DUq?b__3E(bx"⟩
def wQ:Abs.Fn:=⟨2,[.t 4],gC "1w0N:O@kvJK>tp`2UPj5s^)5W0"⟩
def y7:Abs.Fn:=⟨2,[.t 3],gC "9D=(?)ZEMJjckxGa(:K3)xAsR<U8RcE,biWTUtAy9GHx4JO];0a5Rd5j2]Ka1):C0VBEF0QisDTX=HaJtryI1H^Nd^dVpVOBg.aph]wy73"⟩
def iV:Abs.bV:=gD [] [qo 21 (.OB true 4 2 (.t 17) (.t 18))] "[bNVyU<):YWIl^fn<U47gYxbXvQn,8rZF`X6rfnKSoZJ1PkMAntt+_7Ab3xRALRiO0RV)i3pPcYq;:.EkIQg3[mt"
def zc:Abs.Fn:=⟨2,[.t 4],gC "g0kSszsteCgN7yd)CK:NOy?Z<m9Of"⟩
def zg:Abs.Fn:=⟨2,[.t 4],gC "g0kSszsteCgN7yd)C[iF>z1xi3sV."⟩
def dT:Abs.bV:=gC ")Y:0]C:v.]c]8Q4v15wb)psfAXv806ZR8on)X5;@@JZHBvIYb@FmJRlh.`zP7*br3<w`XNO(tGk=EDL2,er>I)NBuytcen)Lf7Ynep1QVwk`]4mr<4i=(.,O;GBm90"
def sj:Abs.Fn:=⟨2,[.t 3,.t 4],gC "0NYIZPHAv0FHSpbvT<,L^DPXgLiGmFd"⟩
def nk:Abs.bV:=gD [] [qo 13 (.bin .geq (.t 12) (.c (.int .u8 (ba 97))))] "+fjvLPcd3@.?jf,ubotp(h:y`fhNFn^ZFA^;DlCF?;zx]=1I3n=ydI3X9jxS]T_8is)pJkzM2mpHXv0GlLB2=O.P,g*FQmb6^ir.SFqsC]?LPuscJ+LhVAtpF5CW?+1F+JA*vNQdB<cDm0T3_"
def wF:Abs.Fn:=⟨1,[.t 2],gC "T`g*71^D@>09PaB3W(*WgXXFVHN"⟩
def DG:Abs.Fn:=⟨2,[.t 4],gC "1w0N:O@kvJKVqceni<X0BB)NIw"⟩
def vb:Abs.Fn:=⟨1,[.t 2],gC "+<(7^Hz?AqZduNDskh"⟩
def Ea:Abs.Fn:=⟨3,[.t 6],gC ")@2FI`x0soONy@S)Rv:A09:@_c_]U]I"⟩
def gJ:Abs.bV:=gC ".pCrs8c=L6g0;np,jzUpwpnQz*+9B7gd4f@2EuM3rzfPZU==gm;hkb;)p]+m(ghxm=V@ig.IAO?noA+23ASvrouq7Xlc4UIrRXAXDqP,(3]e2xR6;X6)[`=f7p+oN"
def yN:Abs.Fn:=⟨1,[.t 2],gD [] [qn 16 .leq 15 (ba 10000000000),qo 5 (.bin .leq (.c (.int .i64 (Ac 10000000000))) (.t 4))] "5udH+lxsZ^=G=cDFIJl9[K7k8MLP=Gtf.,plaYKJ:fP*+"⟩
def kb:Abs.bV:=gD [] [qK 30 .add 28 29] ":]pP6x:)e(P>v?y;4tiKkzCOnsEl`8I,F4z>YHvc>e6P?j(?5k(m^r)OSP1eDk8pkczR`D;_l0xz0fK9K80=1mo0>h3Onk"
def pD:Abs.Fn:=⟨2,[.t 4],gC ".we@vH2nYdw2UJAZ[6ir6"⟩
def wY:Abs.Fn:=⟨2,[.t 3],gC ";K<?SU0O@mKCWX[)_kx"⟩
def Ce:Abs.Fn:=⟨2,[.t 4],gC ")W4z;<?^PFLsk3*HP+4Kd<[o8s`mFld)o)+Vf.S3F)([YI1A.@vOBfAC<?[PKVzmEaqEZk(B"⟩
attribute [local irreducible] gi gP nj dz kh iW qd fE iQ iR kl kj rI iV dT nk gJ kb
def xW:Abs.Fn:=⟨1,[.t 2],gD [gi] [] "mu_WHeC>aIVvH(.rhiaHKm`swB26W`P`LcYZ,ta@C_]);Zf(ii+vrX)dr6hABS3Nx>[3DL.k"⟩
def xR:Abs.Fn:=⟨1,[.t 2],gD [gP] [] ",k?9Qt,1ygulNe^jcUZ9.iXa0f>rI7yi>Vxb=`x"⟩
def FU:Abs.Fn:=⟨1,[.t 2],gD [nj] [] "39h>BDC;DFIeae5Myd>J[x;"⟩
def nA:Abs.Fn:=⟨2,[.t 4],gD [dz] [] "5S2Q<@.;T9,lACKc10cSJvAZCm7KlEUy"⟩
def DM:Abs.Fn:=⟨2,[.t 4],gD [kh] [] "N:C?LrLF_NK8<FP4Is12Uo9.7*VsJg)<4Y=N5,iLQp@Xs@"⟩
def Ax:Abs.Fn:=⟨2,[.v 4 true 2],gD [iW] [⟨none,none,false,.Iq 4 [(0,1),(1,1)] 2 4 (.t 50)⟩,⟨none,none,false,.Iq 4 [(0,1),(1,1)] 1 13 (.t 12)⟩,qo 4 (.CK [(0,1),(1,1)] [.bu,.bu])] ")y4SrquR<kc3fEZ]6gz*MvcQAjvaVAxRuZ4+fg)1X:Bc[1Gli43HO"⟩
def JH:Abs.Fn:=⟨3,[.t 6],gD [qd] [] "L=s051SOh.)qI]B9wfg01RfgyQ[bJP]1sBkt."⟩
def vh:Abs.Fn:=⟨1,[.t 2],gD [fE] [] "+_O]R7XX^._sQe:18E>To_yT6JKvpk57"⟩
def yS:Abs.Fn:=⟨2,[.c 4 false 1],gD [.O1 [4] (.t 9) [10,11] iQ iR] [] "+]]2R@0(IC(,1KctbuQL,K_p9c_kvWL.uVw8AuWL6"⟩
def Cj:Abs.Fn:=⟨1,[.t 2],gD [kl] [qo 8 (.Zk 9 (.c (.str [115,108,105,99,101,115,46,77,105,110,58,32,101,109,112,116,121,32,108,105,115,116])))] ">h*7aHHBt5T>wu0IHsg3,t52z9KAC,vyBpus8NVlf=_sUgeOfUdQPG8M"⟩
def Ci:Abs.Fn:=⟨1,[.t 2],gD [kj] [qo 8 (.Zk 9 (.c (.str [115,108,105,99,101,115,46,77,97,120,58,32,101,109,112,116,121,32,108,105,115,116])))] ">h*7aHHBt5T>wu0IHsg3,t52z9KAC,vyBpus8NVlf=_sUgeOfUdQPG8M"⟩
def ov:Abs.Fn:=⟨2,[.t 4],gD [rI] [] "C)9jC9;th0fkF@W3xFN2nGlEO"⟩
def zb:Abs.Fn:=⟨1,[.t 2],gD [iV] [qo 13 (.Ml [.int .i64 (ba 0),.int .i64 (ba 0)] [(0,1,.c (.int .i64 (ba 1000))),(1,1,.c (.int .i64 (ba 100000)))])] "2B4D`9TiH3VeatHU4:qLRfy3>XfC,F9N=:cbZ(4WY4>0BL4UtGQNboHV5BmSJBeUgf`0AzU(HD:MByS1iB`wSztMoAO0`74=]_IlYiUFbx"⟩
def pV:Abs.Fn:=⟨2,[.t 4],gD [dT] [] "<a09LLHw[M5LL;LobA=(h,BvM>x)TACZR"⟩
def FV:Abs.Fn:=⟨1,[.t 2],gD [nk] [] "47rHng7L2@eO,B*1kjw1xf@m6M_sG92kAl3Xq<"⟩
def yM:Abs.Fn:=⟨4,[.t 8],gD [gJ] [qi 9 (Ac 1)] "4CZz_YHvDkOZYK@xnRp@et^cipO+uk[FORN*u5OW_drtRv^9asesJgr_xy7dKT<g@p1,4t5HKSa[yM*KSkLJ7QQa@]j]gG]Rs"⟩
def B0:Abs.Fn:=⟨2,[.t 4],gD [kb] [] ")u>9pq?LXX,wD0a+HUVemf0f(pbf4JDQC3mmxfK"⟩
def GJ:tT:=an7 [(5,[4]),(4,[]),(3,[4,5,6]),(2,[4,5,11]),(1,[4,9]),(0,[1,2,4])] [(0,[4])] [] [4,5] [5] [] [1002]
def tF4:List (Nat×tT×Abs.Fn):=[A0 216 vf,A0 217 Al,A3 [] 218 GA [] [6] [6] [] [],A3 [] 219 Eg [] [3,4] [3,4] [] [],A3 [] 220 Ef [] [2] [2] [] [],A0 223 JA,A0 226 lT,A0 227 sU,A0 232 xD,A3 [] 233 xW [] [4,5] [4,5] [] [],A2 [] 234 Cf [] [3],A3 [] 235 Lj [] [4,6] [4,6] [] [],A2 [] 236 xR [] [2],A0 237 FU,A0 238 tG,A0 239 uc,A0 240 FR,A0 241 xC,A0 242 FT,A0 243 va,A0 244 wH,A0 245 AA,A0 246 zi,A0 247 AB,A3 [] 248 nA [] [4,6] [6] [] [],A0 249 vd,A0 250 DM,A4 [0,3,2,5,6,4,1,7] 251 Gy [] [0,3] [3] [] [] [] [] [] [(2,some 1)],A4 [] 252 Ax [] [4,12] [4] [(1,[(0,1),(1,1)]),(1004,[(0,1),(1,1)]),(8011,[(0,1),(1,1)]),(8013,[(0,1)]),(10001,[(0,1),(1,1)])] [] [] [] [] [(7,some 2)],A0 253 HF,A0 254 yZ,A4 [] 255 JH [] [6,8] [8] [] [] [] [] [] [(4,some 5)],A0 256 Au,A0 257 xU,A2 [] 258 yT [] [3],A0 259 Az,A0 260 wU,A3 [] 261 Ck [] [4] [4] [] [],A3 [0,1,4,3,6,5,2,7,8,9,10,11,12] 262 Cm [] [4] [4] [] [],A0 263 F9,A3 [] 264 vh [] [4] [4] [] [],(265,GJ,yS),A4 [] 266 Cj [] [] [] [] [] [] [] [] [(2,some 1)],A4 [] 267 Ci [] [] [] [] [] [] [] [] [(2,some 1)],A0 273 ov,A0 279 xE,A0 280 Er,A0 281 vm,A0 282 Ay,A0 283 Gz,A0 284 DN,A0 285 wQ,A0 286 y7,A2 [] 287 zb [0] [4],A0 288 zc,A0 289 zg,A3 [] 290 pV [] [7] [7] [] [],A0 291 sj,A0 292 FV,A0 293 wF,A0 294 DG,A0 295 vb,A0 296 Ea,A0 297 yM,A0 298 yN,A0 299 B0,A0 300 pD,A0 301 wY,A0 302 Ce]
theorem kF4:(tF4.map λp=>chk p)=tF4.map λp=>some p.2.2:=by kernel_rfl
end Go.Proofs.YtpapbbojmclkgaaGreatDoor
