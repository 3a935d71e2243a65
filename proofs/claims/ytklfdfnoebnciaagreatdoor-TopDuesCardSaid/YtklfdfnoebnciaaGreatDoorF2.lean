import Derived.Test.YtklfdfnoebnciaaGreatDoorIds
set_option linter.all false
set_option maxRecDepth 100000
namespace Go.Proofs.YtklfdfnoebnciaaGreatDoor
open Go Go.az
attribute [local irreducible] aW AV
def oH:az.Fn:=⟨1,[],gD [] [qo 3 (.Ag [] []),qo 8 (.SO 259 (some (.agg [])) (.t 5)),qo 5 .Lp] "9[ELie+xs`v[]+?,,QuqE4E2qC<9@WH+o4srRnq:dk@Pc(6MMjXAk@g3Hy>i,Pg["⟩
def gT:az.bX:=gD [] [⟨none,none,false,.G6 4 [(0,1),(1,1)] 1 47 (.t 41)⟩,qo 36 (.RA 259 (.t 35)),qo 35 (.IZ [] [])] "7)VMb^9g4?g,pzaMpoDtRtNL]=(.fOLc[QVBq8lb0oYiFMNIheG+9jx=Ijfup>rz,Xg94V5<2=5+rKN<WK)U1;z*8B^RJ)pF],vGEx9SzHF]Ma5oC9RW94PAeJ8>aP7>bEO:[XuRLL1>YYKuCS);tAEp>i^aJ=Nyigo4h`?xuQBCa"
def vS:az.Fn:=⟨3,[.t 6],gC "E?;NCujy.C5UJYetyP?LBz+FwnzmIX)aU*ybbWtXgUBC@M9*NL^EoeQy`s_ywQmXv@b8MSG;aKR53*^S]o1ot>R2,,nQk=6t)dFkQ46eOZkurz?KapBmEwC4pmyhYl,^"⟩
def nw:az.Fn:=⟨3,[.t 6],gD [] [qO 7 (.mv (.c (.int .i64 (aW 1)))),qn 33 .gtr 32 (aW 10000000000),qn 18 .lss 17 (AV 10000000000),qo 11 (.QN .i64 (.t 10))] ")1A.?Gk8fthUllydIOwY:]40XR0vvp<)>L(Z3`U)wd95zX+:YCwI]AC4?Gh+EgCR(V<RVMH?n,WiZLko=g+WQ.zhH88[Dfd5*;akqyzYy85;Mq[svAQ.Jg<tsaLHH.0RXHXGswqPtzYpe1_9,5?J0>`SstSr7jl)=o8kE>O;(.G3.rwLd)j,,;bB]SWr"⟩
def pI:az.bX:=gC "xQr8DnOH)f0;Gf4`<WCjnCci=7`SPHotsmj[UsFLnh7*c@`Pq[Ho4AZ77NGme,jhxps7T<s26r0K7f3]u[;v6qk"
def oW:az.Fn:=⟨2,[.t 4],gD [] [qo 14 (.mn (.c (.int .i64 (aW 0))) (.t 13))] "2LJ2MOYI?YPx(J+=on8+:I3[WhX),`wVELFf"⟩
def mj:az.Fn:=⟨3,[.t 6],gD [] [qO 23 (.Je false 5 1 (.t 20) (.t 22)),qC 20 191 []] "0FKkr^IKxYiR5;IeZ.5m2^d3avLbEK<QB41[Aewu68FeiSyh`E1wC[7ZZqgKaS6:kWR*tb9Ii,rMBK)^C^FfM>26yk+I"⟩
def nr:az.Fn:=⟨1,[.t 2],gC "03c@)xuTQuzv2p9TMqd>;Pb,5rp:Z.M8f3k.6Pb<F;6zH[5KwiA>*(CjBYAYCitTF6>E"⟩
def o8:az.Fn:=⟨2,[.t 4],gC "OW*z<ZB@Dun27D7HxXWGkKHdGBQ"⟩
def lB:az.Fn:=⟨1,[.t 2],gD [] [qo 19 (.bin .mul (.c (.int .i64 (aW 10000))) (.t 18)),qo 11 (.bin .mul (.c (.int .i64 (aW 4000))) (.t 10))] "*EJmq)6UpVdPJ_^9;7a74C;93lNEV;L@MJo+gy.FhlRAGAexx6ueUhTB4Qd:97U=pa)bV@UmW9z?T2(@7cSF`kYY"⟩
def qG:az.Fn:=⟨2,[.v 4 true 5],gC "<RsD5B[V]3fsU><:?wb)<fGR3jH9"⟩
def qH:az.Fn:=⟨2,[.v 4 true 10],gD [] [qK 65 .sub 63 64] "27Ms.K=)th.MAA<jrdufLKY_KVDHxe2t+ZR^L^wcroSfU(;ufC`B]5_g(KUY8UOjwDM[`mDk1U_a<ss0naB951Xhi8kpmjtxi;Y7PFG@tJB6rVb]HYv3[]X^iu8>G=MUL7AWFnrW7IFjPEm7yw3y3Jw*t]SmBcrbkT9XM.V._E5mpdTgB]pv[9jKQ,:x(Vm894@H8*]rleb)3lrSPt7r,9iZ5bibItN9@nIkBhF29jJEYJ.mC@8F;R5wuN+UZ^M(XaRm)OEqU[)RJM(e3P,WS_?C`fr`1hFzgy6*E.o,e0kk89"⟩
def uI:az.Fn:=⟨1,[.t 2],gC "9F0`GgE[)<b;f`R@xeD>Y"⟩
def eL:az.bX:=gC "9EUY:;1CI]G[9_SNC_P0S16LB.mgzi(Mc];7q^+zOELq3<Vnwkja"
def gP:az.bX:=gC "CDj:E]s<>:on6guFM"
def gQ:az.bX:=gC "XT5vZ;o,,z(8GzYX>3UL"
def jC:az.bX:=gD [] [qm 3 23] "1S.ni^ao5Sn`xFt=9yYA=HZ6vRC[inWy1@):]2HR=tmTd"
def jB:az.bX:=gD [] [qm 3 23] "1S.ni^ao5Sn`xFt=9yYA=HZ6vRC[`D<C6PCC05W7A`mTd"
def l8:az.Fn:=⟨1,[.t 2],gC "+.cq.makJ)vXVrU9PbG]ZA2Kf1I>OpM>Nm:tuOKKxVRir]B<Q1xviJoZt)UCp4?vnJ.rEcYR)zv148NrFZM=))ooFn"⟩
def tA:az.Fn:=⟨3,[.t 6],gC ")Vz9EfL:8NDFj>V,F=?]^eFs6>^`S"⟩
def uc:az.Fn:=⟨2,[.t 4],gC "8w2PI(wo>2K,*W20Mswk41RUz"⟩
def o7:az.Fn:=⟨1,[.t 2],gD [] [qo 9 (.call false (.c (.fn 153 [] [])) [.t 8,.c (.int .i64 (aW 1)),.c (.int .i64 (aW 10000))])] "Ij(Rk_4(X*u0>*6XQeSj.i,C74+p+DANJ.o5_?,I.]3;ajwq5QFUW`OIY*KmS)jHB@aqD]BM9l_=sJO;fP;b4J3h`r72Dlv,dMv)kR1"⟩
def uK:az.Fn:=⟨3,[.t 6],gC ")Vz9EfL:8NDFj>V,F=?]^eFs6>^`S"⟩
def sh:az.Fn:=⟨1,[.t 2],gC ",2LP=JfvPbo62(YWjUGD:fDhN.7Ix?v3g;"⟩
def u9:az.Fn:=⟨2,[.t 4],gC "8w2PI(wo>2LAI5;orEgIMjMUz"⟩
def nz:az.Fn:=⟨2,[.t 3],gC ".qD=sPH1wxgfykg.91iImWFgh>Xw4L=MufIBc,;;*k>LE^ikb6uOE29Czx0]DLVSsRkOZ6FI=B_XJYXNUUhiPKtPDMM2=Qq9I(uF"⟩
def gS:az.bX:=gD [] [qo 21 (.Je true 4 2 (.t 17) (.t 18))] "3qcd;2y1EC9;4_r;WbxjTP;;9[gSJz,ngRGODDib3snZZtckcUn;VTde*oitEb`F(.*Et)7HJ(zOpC9]8V"
def nF:az.Fn:=⟨2,[.t 4],gC ",SBTbE*`@3Q_d:@iaw>A,ktD2^Rhz"⟩
def nJ:az.Fn:=⟨2,[.t 4],gC ",SBTbE*`@3Q_d:@ib?t95ymD3L(hz"⟩
def cX:az.bX:=gC "*K]G]dGdioot@KiwphukWnwA`g0v3aC4L^<z,KxSzvV,]*[R8L3(SyE?Iq?ALJ;]?o2B<27,TY49@*l@;<S83f<[]ollxCEy)E>tOjf_IwO37OIPEWTIW(PKda"
def iC:az.Fn:=⟨2,[.t 3,.t 4],gC ",CGESi4vo`:)v1YBE5d<F)>c>=hGhf"⟩
def mK:az.bX:=gD [] [qo 35 (.bin .gtr (.t 34) (.c (.int .u8 (aW 57)))),qo 29 (.bin .lss (.t 28) (.c (.int .u8 (aW 48)))),qo 18 (.bin .leq (.t 17) (.c (.int .u8 (aW 122)))),qo 13 (.bin .geq (.t 12) (.c (.int .u8 (aW 97))))] "RF.IY:l=blf7QQHd6TEk:kb2WATy*cy6=*n[Lr_sRqs=:NYNQIK7o_j+AgF8WEVn?byu(H+.+aD6`hm+j<aeu@vBFe:PUY=0IFu3:4E2i6`O._pQI.D5M0(4eZIy7NnE8"
def kZ:az.Fn:=⟨1,[.t 2],gC "cV,p*),^xw[894]AZAFKoRCKZox"⟩
def zT:az.Fn:=⟨2,[.t 4],gC ",tq(]R;Vg0_j.=wP,a[jj[Az"⟩
def kn:az.Fn:=⟨1,[.t 2],gC "R<CZ2F^Tr8VjCPA1"⟩
def td:az.Fn:=⟨3,[.t 6],gC ")Vz9EfL:8NDFj>V,F=?]^eFs6>^`S"⟩
def fL:az.bX:=gC "5KXf+7I)47.sxPMA=;LkjxvgqLrLNMyN=Gs)v?HKHy5`<d6lCfUlA^k_))L3j,AeLPq38y()BdHjDs?dT426TULGnbCao0(Z=U.7exO)h1WQI>3ByLSKTkuKoqMC=t"
def nj:az.Fn:=⟨1,[.t 2],gD [] [qn 16 .leq 15 (aW 10000000000),qo 5 (.bin .leq (.c (.int .i64 (AV 10000000000))) (.t 4))] "+uwH*IfyABol.CN5din`,[g,sywO`wb8=7]6gQ4WpyBnd"⟩
def jq:az.bX:=gD [] [qK 30 .add 28 29] ")mLC`ZPtE>nve:BB=u[RClFT7_cJ7GjxCLMzU`*05o]S9LY@7DtTa0?Rmo^`6E.+uKMI7WkZmd@vU.lT^,u^>`bC(4EMwmk"
def fG:az.Fn:=⟨2,[.t 4],gC "RMGURy=1yvjjfSkA1tz"⟩
def j9:az.Fn:=⟨2,[.t 3],gC "Lm2jC7?;kPgb6@w^+CRQZ"⟩
def vU:az.Fn:=⟨2,[.t 4],gC "a=Pni,aIoHM_TWpC)j<If9=Uogwh5,,]RDG^gCt11fmNeRYbayY3NZXMJPaspN.3lCXUxE3[jZh4t6N6OEsG"⟩
def eU:az.Fn:=⟨2,[.t 4],gC "RMGURy=1yw(dbr?Iw`z"⟩
def jN:az.Fn:=⟨2,[.t 3],gC "*+r2LKddSM=Tkj_jx2]QZ"⟩
def jL:az.Fn:=⟨1,[.t 2],gC "]Uk,K)Xhrrlsp+LnEJ5rM:kNc*^OWNz5ul;<cO"⟩
def lE:az.Fn:=⟨1,[.t 2],gC "+:aYnr`<>n=7t78iGQ?YU._,Qlx>M;L>(K^:YZ5av`pwO"⟩
def kP:az.bX:=gC ")ZexoMxw3Y@bXt;n@J2VGxi2Moe3K7V7`u@Yuy4W3[VQevAdr+CImoq<YvrV"
def ka:az.Fn:=⟨2,[.t 3],gC "*+r2LKddSMD[49ycS=qQZ"⟩
def sC:az.Fn:=⟨2,[.t 3],gC "4+OTIw0m2HiN=57]QZ"⟩
def o4:az.Fn:=⟨2,[.t 4],gC "RMGURy=1ywLWZ]9[a7z"⟩
def vb:az.Fn:=⟨2,[.t 3],gC "4+OTIw0m2HiN=57]QZ"⟩
def qd:az.Fn:=⟨2,[.t 4],gC ")6INuRupgy8+>EK8Vl(be8mRwAhmCmh.h^L_8+Xu?VcwjlBe@C3rU=Uf`]ZCe;;PkAsS@.p"⟩
def gU:az.bX:=gD [] [qo 26 (.mp .Yn [.t 23])] "oEFup7cI>2<0KH?Y<]CcWa18GL6FkI>W7ugV`=y16WV9C@9izf9<+3eO)S,fQes,4=nM8E>7KavAzq*p3aDg6`A7G4A"
def fR:az.bX:=gD [] [qO 80 (.mn (.t 73) (.t 79)),qN 79 .quo 78 (aW 8)] "*v>Rrito@4uO=>?H5;slg<eq1Mqxq0x<oCQ,1riB_:[3,68FE`^<xXQ.>g7B^YfR)+;p[W_Y.XlPsvpGIO^[Qa^U5RnT_>6rWEkl(ChmHzgWTfzi*N*DRKtlJo.gy.7oraY<_V<R9D,7W5Z5FWXl8oXj)*U9E1vX`l78i>@kGpKMtKKk2ij2WkZ3Yu0sP2DFls,uR2oB4VKF]lAGXjd52;?3AQd>T"
def fS:az.bX:=gC ")jNGb=bP)0wNgi1QHRhSs7.60ExxDq[5ghCs`QV5w2Bnq3;RgoIeGjR]=*N;]7tA3*qaEOHEs"
def l4:az.Fn:=⟨2,[.t 4],gC "*_xT7c<*`Du_Hw?9Q*pzlSTb2dH_7EupWH9p:_MVeD?z"⟩
def tw:az.Fn:=⟨2,[.t 4],gC "8w2PI(wo>2XcwsM`CbcB_ilUz"⟩
def tz:az.Fn:=⟨2,[.t 3],gC "1*Y[:]u?x5Rzokil5y0g(09n3qGUlpZ"⟩
def ez:az.bX:=gC ")2@MmW4UUSH0(hzJdLX<]T9G>IY7+Vr,zcAN*v7eggCn0Cl`y]1EsU+y2E1z@yzeIrsz].^ZBFmg25@q`fLcCpGjTq>P@@(DOwUsj7"
def vT:az.Fn:=⟨0,[.v 0 true 5],gC "*:;KY_3i*i[lnwNZkpg+5Z,z9ZK]Or"⟩
def tt:az.Fn:=⟨3,[.t 6],gC ")Vz9EfL:8NDFj>V,F=?]^eFs6>^`S"⟩
def tp:az.Fn:=⟨2,[.t 4],gC "8w2PI(wo>2^,ctprpdPq@eZ+z"⟩
def lh:az.Fn:=⟨2,[.t 3],gC "*a42jRl5Cp9IUn5gz>I(KGLn2hnZ]lxA4opJW3zPC2P31+B0H,*GCFktfP"⟩
def mq:az.Fn:=⟨2,[.t 4],gD [] [qk 38 .quo 30 37] "q;o3yELRFB3SnB[<dfYvhVOBO8;z7b_1FP6^f2cv;9DYngaV,9`jN[xP)(VsTu5p8,;A*YcXkxk::w9.Zkw[B^tOeRFoxa`vlP8KXitKS2Sr_(jhc2K["⟩
def rL:az.Fn:=⟨2,[.t 4],gC "8w2PI(wo>2_B.QzaC6@OZLU+z"⟩
def se:az.Fn:=⟨1,[.t 2],gC ")dd640XVQP:_)bcz=hdc1"⟩
def mm:az.Fn:=⟨1,[.t 2],gC "ZQ2_D)WFdy1EC.Q)1vNnvG766(n"⟩
def oS:az.Fn:=⟨2,[.t 4],gD [] [qo 3 (.Ho (.t 1))] ",oD`Ih7=HcE9O>][xj@=[["⟩
def lV:az.Fn:=⟨2,[.t 4],gC "RMGURy=1z*iB=a2vN`z"⟩
def sQ:az.Fn:=⟨2,[.t 3],gC "*+r2LKddSMH6@s5_jCRQZ"⟩
def lU:az.Fn:=⟨2,[.t 4],gC "RMGURy=1z*z<:+X,CKz"⟩
def tx:az.Fn:=⟨2,[.t 3],gC "*+r2LKddSMA.xQlg=8>QZ"⟩
def AG:az.Fn:=⟨2,[.t 4],gC ",tq(]R;Vg0g5zDK3F*ne7[Az"⟩
def nG:az.Fn:=⟨2,[.t 4],gD [] [qo 19 (.SL 1 (.t 7) (some (.t 12)) (some (.t 18)) none),qN 14 .add 13 (aW 1)] "@389K3(YRlk_UZVtmsM_LWeW5GRE=JFqs0*.r>7Aca(A,aO4QdE34RND="⟩
def lj:az.Fn:=⟨2,[.t 3],gD [] [qo 7 (.Fh 2 1 (.t 1) (.c (.int .i64 (aW 1)))),qo 5 (.Fh 2 1 (.t 1) (.c (.int .i64 (aW 0))))] ")Aj`FG0hiBB))u2AJ)Qr>>UcP"⟩
def xk:az.Fn:=⟨2,[.t 3],gC "4+OTIw0m2HiN=57]QZ"⟩
def kO:az.bX:=gC ".l.+>?wYy^kykPSN+tysB?xFSU?w(lwEJj(u=Osh)=j]ZM?mY9`4QbhH<YvrV"
def j8:az.bX:=gC ")ZexoMxw3Y@bXt;n@J2VGxi2Moe3K7V3xdS5kDgfrX>AQ4Ypo<_OG+q<YvrV"
def jM:az.Fn:=⟨1,[.t 2],gD [] [qo 4 (.call false (.c (.fn 113 [] [])) [.t 3,.c (.int .i64 (AV 20000)),.c (.int .i64 (aW 20000))])] "PG.*A9q9CJ14Y"⟩
attribute [local irreducible] gT pI eL gP gQ jC jB gS cX mK fL jq kP gU fR fS ez kO j8
def lk:az.Fn:=⟨2,[.v 4 true 2],gD [gT] [⟨none,none,false,.G6 4 [(0,1),(1,1)] 2 4 (.t 50)⟩,⟨none,none,false,.G6 4 [(0,1),(1,1)] 1 13 (.t 12)⟩,qo 12 (.QH 1 1 [.bN] [(0,1,.t 11)]),qo 4 (.Ag [(0,1),(1,1)] [.bN,.bN])] ")O*K6]*Qx=gCcMO<st,?zmlf@7T_r6FRMJ,IbFJ3Y.n*Q1A_"⟩
def va:az.Fn:=⟨3,[.t 6],gD [pI] [] "*u727LC]A@jz=P+CM>wbn@lH:OC]NV1E*5"⟩
def kA:az.Fn:=⟨1,[.t 2],gD [eL] [] "sgwsI9W6L.Tty)dp<0dXbTZ5Q:+The@d"⟩
def nq:az.Fn:=⟨2,[.c 4 false 1],gD [.Jw [4] (.t 9) [10,11] gP gQ] [] ".F9lWz74,b=f]_,Wf,s[k1H](sVoqD^q+OqYQaVJ"⟩
def qD:az.Fn:=⟨1,[.t 2],gD [jC] [qo 8 (.RA 9 (.c (.str [115,108,105,99,101,115,46,77,105,110,58,32,101,109,112,116,121,32,108,105,115,116])))] "2dXIeaUjBO[EFI0ismdVvmrfQ`]3iRbMPpnO@C@.sdPEyO7z@o2ldY"⟩
def qB:az.Fn:=⟨1,[.t 2],gD [jB] [qo 8 (.RA 9 (.c (.str [115,108,105,99,101,115,46,77,97,120,58,32,101,109,112,116,121,32,108,105,115,116])))] "2dXIeaUjBO[EFI0ismdVvmrfQ`]3iRbMPpnO@C@.sdPEyO7z@o2ldY"⟩
def nE:az.Fn:=⟨1,[.t 2],gD [gS] [qb 2 true,qo 13 (.IZ [.int .i64 (aW 0),.int .i64 (aW 0)] [(0,1,.c (.int .i64 (aW 1000))),(1,1,.c (.int .i64 (aW 100000)))])] ")tfe,kV6Eq5G?o;(MDkZbx;z0[WMO:=bVfvZnB@v1<pin<VGJS2p29aFll3*JzMZvoE==XFwUgVm]pYlQ=,y)taz]l9]mp:6hFeVE"⟩
def fM:az.Fn:=⟨2,[.t 4],gD [cX] [] ")rPDGdMR.gg@2fuSj,JQkci7E,CC0PoG"⟩
def uE:az.Fn:=⟨1,[.t 2],gD [mK] [] "*Gn*zbVlZL4UXHa+Vrvs907VvWpgXGi``=qsM=x"⟩
def ni:az.Fn:=⟨4,[.t 8],gD [fL] [qb 8 true,qi 9 (AV 1)] "**1d;lV_[3cYYfrp=7o*Xumy:@gqfO4+_xz]k*RmJw0Wod6OsBT0VGA@L(aRJ)V9+CpkVMfj.ykip:szx_2BM=+2+@XyVH9gT"⟩
def pX:az.Fn:=⟨2,[.t 4],gD [jq] [] "Hr>TpZx3F^d=h298O(?U_Gr33PTp^>H8v<53"⟩
def ia:az.Fn:=⟨2,[.t 4],gD [kP] [] ")6u1*U1ETUcw;.^z1=IsTyF?9["⟩
def ef:az.bX:=gD [fS,fR] [qa 105 11 3] "0Qm,*RNZ4_TGDzKVuGqTDS2Su4JDgAIJMb:yP7`tCd.cuns79HMUkxkrI89LqfsMl1Gdmy(a]oS?eN]*je)fRsX>TBFac@C,Si"
def jK:az.Fn:=⟨3,[.t 6],gD [ez] [qK 24 .sub 20 23] "utAIFW1`VqUh4+ll+NZ>^@q.+F(O>mekSCN?[G29qH)`EBT4Y^,IXa[3Q72,9ZzwZr_4oD3)ie]>5YYbH38mZ2Y6ziMpMtia;n6tBS"⟩
def hJ:az.Fn:=⟨2,[.t 4],gD [kO] [] ")6u1*U1ETUcw;.^z1=IsTyF?9["⟩
def gw:az.Fn:=⟨2,[.t 4],gD [j8] [] ")6u1*U1ETUcw;.^z1=IsTyF?9["⟩
attribute [local irreducible] ef
def nI:az.Fn:=⟨3,[.t 6,.t 7,.t 8],gD [.gv [1,2,3,9,23] (.t 23) 24 25 0 gU ef] [qo 23 (.mp .rng [.t 22])] "9bS1,KhPh`k)ztrSlcpR?8:EW^nJEY.7vdRHRwYhR6e6H."⟩
def Cz:tW:=an7 [(5,[4]),(4,[]),(3,[4,5,6]),(2,[4,5,11]),(1,[4,9]),(0,[1,2,4])] [(0,[4])] [] [4,5] [5] [] [1002]
def CA:tW:=an7 [(26,[6,7,8]),(25,[6,7,8]),(24,[9,12,108]),(23,[3,9,12,93,94]),(22,[3,9,12,93,94]),(21,[3,9,12,17,93,94]),(20,[3,9,12,93,94,95]),(19,[3,9,12,93,94]),(18,[1,3,9,12,41,42,43]),(17,[1,3,9,12,41,42,43]),(14,[1,3,9,12,16,41,42,43]),(16,[1,3,9,12,16,41,42,43]),(15,[1,3,9,12,15,16,41,42,43]),(13,[1,3,9,12,13,14,15,16,41,42,43,56]),(12,[1,3,9,12,13,14,15,16,41,42,43]),(11,[1,3,9,12,13,14,15,41,42,43]),(10,[1,3,9,12,13,14,41,42,43]),(9,[1,3,9,12,41,42,43,44]),(8,[1,3,9,12,41,42,43]),(7,[1,2,3,9,12]),(6,[1,2,3,9,23]),(5,[1,2,3,9,10,11,23]),(4,[1,2,3,9,10,11,23]),(3,[1,2,3,9,23,25]),(2,[1,2,3,9,23]),(1,[1,2,3,9]),(0,[1,2,3])] [(4,[3,9,12,93,94]),(2,[1,3,9,12,41,42,43]),(0,[1,2,3,9,23])] [] [10,11,12,16] [10,11,16] [] [2002,1001]
def tF2:List (Nat×tW×az.Fn):=[A4 [0,3,2,5,6,4,1,7] 124 oH [] [0,3] [3] [] [] [] [] [] [(2,some 1)],A4 [] 125 lk [] [4,12] [4] [(1,[(0,1),(1,1)]),(1004,[(0,1),(1,1)]),(8011,[(0,1),(1,1)]),(8013,[(0,1)]),(10001,[(0,1),(1,1)])] [] [] [] [] [(7,some 2)],A0 126 vS,A0 127 nw,A4 [] 128 va [] [6,8] [8] [] [] [] [] [] [(4,some 5)],A0 129 oW,A0 130 mj,A2 [] 131 nr [] [3],A0 132 o8,A0 133 lB,A3 [] 134 qG [] [4] [4] [] [],A3 [0,1,4,3,6,5,2,7,8,9,10,11,12] 135 qH [] [4] [4] [] [],A0 136 uI,A3 [] 137 kA [] [4] [4] [] [],(138,Cz,nq),A4 [] 139 qD [] [] [] [] [] [] [] [] [(2,some 1)],A4 [] 140 qB [] [] [] [] [] [] [] [] [(2,some 1)],A0 152 l8,A0 153 tA,A0 154 uc,A0 155 o7,A0 156 uK,A0 157 sh,A0 158 u9,A0 159 nz,A2 [] 160 nE [0] [4],A0 161 nF,A0 162 nJ,A3 [] 163 fM [] [7] [7] [] [],A0 164 iC,A0 165 uE,A0 166 kZ,A0 167 zT,A0 168 kn,A0 169 td,A0 170 ni,A0 171 nj,A0 172 pX,A0 173 fG,A0 174 j9,A0 175 vU,A0 176 eU,A0 177 jN,A0 178 jL,A0 179 lE,A0 180 ia,A0 181 ka,A0 182 sC,A0 183 o4,A0 184 vb,A0 185 qd,(186,CA,nI),A0 187 l4,A0 188 tw,A0 189 tz,A3 [] 190 jK [] [9] [9] [] [],A3 [] 191 vT [] [0] [0] [] [],A0 192 tt,A0 193 tp,A2 [] 194 lh [] [1],A0 195 mq,A0 196 rL,A0 197 se,A0 198 mm,A2 [] 199 oS [] [3],A0 209 lV,A0 210 sQ,A0 211 lU,A0 212 tx,A0 213 AG,A0 214 nG,A0 215 lj,A0 216 xk,A0 217 hJ,A0 218 gw,A0 219 jM]
theorem kF2:(tF2.map λp=>Yl p)=tF2.map λp=>some p.2.2:=by kernel_rfl
end Go.Proofs.YtklfdfnoebnciaaGreatDoor
