import Derived.Test.YtpapbbojmclkgaaGreatDoorIds
set_option linter.all false
set_option maxRecDepth 100000
namespace Go.Proofs.YtpapbbojmclkgaaGreatDoor
open Go Go.Abs
attribute [local irreducible] aX zA
def nw:Abs.b9:=gD [] [qt 1 98 97] "1X?wUb8[)2,S3U;KIaRV6a.Mc0Jz_k=Nb=)Nm`q.**K:kkM`k1OY=<sRr`JfJ>d3(34Ty.2KQnIo_xK]LHp5>ceE?9V0^ya7@^QV3;^50w>VdAlm*ZN(Mvc9p7dpqb3(0ou=Qo(>._8;l@es,W9vVDgr^<zYkn7=ozj"
def ov:Abs.b9:=gD [] [qn 22 .add 21 (aX 2)] "+1rodMv^PqM29DEN4ghSxLs:LF`hp[zM?MsD.aq:h[ArodH@;^lw+c;9K[6[RWLOKsvsi^v5m1`82@`7,QcpjT"
def nz:Abs.b9:=gD [] [qO 134 (.fld true 0 4 (.t 133))] "UnR21m9I.yD<pclQaIzDKXirs:2rWzUVegOIYJfO8?av_^Xdiw*dGElWFEfX;m?=lE9P5LYMbh^hBU9,J^yJOpcsp(:UZ[M_n;GvZ3gK.6iWIqqX2CIXVNPQLIgNG5yW>L`d6Nq5xC*DIEE6xPQgSL*E,d([5]*j4e]w9f.]ZtQZJEiOOqPW?0SW^<sJ5bUecoT6H@MEq.gjc_?(e*ScfQwt,kc,hT;GC+Q2a*OT5N;MHV`I*]>HBGF6it*JuNf17EP47h@rqFaJ(NA<>,7G[Wo>:y:49ra?FX8Ur?`<o=q75*.xfa@V4hq;Ujf?6N;^[]?0a_lcfRZV<d:MC`c`y6`a[3pmU>?lW,j^cor]vK=.`a9[*l8x7TZlD?fy@C,^w9juxXQ+"
def ow:Abs.Fn:=⟨2,[.t 4],gC ".wQU<LfRg18MoZ>Xhaf_:"⟩
def zH:Abs.Fn:=⟨1,[.t 2],gC "4;EnKl)T5F,d.e@EI75"⟩
def ja:Abs.b9:=gC ",8hf9;jsVrdXm3:qNYOYW*q*,>HQN_bD>eU+i>^q(j]yUoF[lGJeYevM+BLhZU]4r8oJ_`?=Z([9,L)Ldt_]hT?,g@tW(.gGV1GBXGULx1U7sU(HQvHJ_(nq^vagVJ[D?:y6toNl?A4VS6laM2(c5AKQz.i9>^LH"
def nj:Abs.b9:=gD [] [qO 34 (.mx (.t 26) (.t 33)),qO 25 (.mx (.t 17) (.t 24))] "),9:XNprk1V_X)9R4m0CcW>ts]_@^;o9P<8sLn;Al@`Muc.aC,76WwiQEVfGQFelk(rHgamG1@6dGgxR,LmRyzk*xh0:zoFB_l0T"
def uM:Abs.Fn:=⟨1,[],gD [] [qo 7 (.YW 200 (some (.agg [.int .i64 (aX 0)])) (.t 4)),qo 4 .QI] "4SfEj:<xhuykytfsH>xla.)^5qG4DG::7UB+:5vSK*SR:T<.xyql8l)Z44PcC^MIc<v"⟩
def jy:Abs.b9:=gC "*KbIQ1(qzQBgvhD3oU(bV[Y6@n[m5E7zR)5Ikq4[s@bL4H];HNIJvt_HKXtul"
def Bq:Abs.Fn:=⟨1,[.t 2],gD [] [qo 27 (.bin .shr (.t 26) (.c (.int .u64 (aX 8)))),qo 21 (.un .xor (.t 20)),qo 19 (.un .xor (.t 18)),qo 9 (.bin .shr (.t 8) (.c (.int .u64 (aX 8))))] "0S_8565BBzTBDQ.7_NqG+@XlfTV^sj[eT0oALd4rY`n?ufF.g50[m]J]>u:MA2Xm52c:<W^Qx4b9S^A@1IAnX;N_:_P.mBn1LbKPtBl"⟩
def lZ:Abs.b9:=gD [] [qo 62 (.bin .sub (.t 61) (.c (.int .u8 (aX 48))))] "D8zr1rPij<S:gcNdmu`qy2D^U?[b,9f8^,vzp+<g[oP(+7wfcYYH3t3A6m3Gn0S:XP]N;Be`^Rm>87*aqD<Kie9GHYmyoo>1X@RL`b2XZ(hUoBsm"
def Fh:Abs.Fn:=⟨1,[.t 2],gC ")a8x]*VDMVJYD7tsmn:R,k?mtQ0_Gc6LfB]ghuu=66zz*dc)KZa2iwMu>(sURgyIjE2ubIM4f3hy`A;cqfy[WlaIB)i+T[?y^<T"⟩
def kE:Abs.b9:=gD [] [qK 81 .leq 74 80,qK 70 .leq 63 69,qK 60 .leq 53 59,qN 50 .gtr 49 (aX 0)] "1<`t_vC1(<f2gO>gxVR70i:z@0_`zvOLxX,5[buNbpEyRLVSDe*Muqf5;h>rrM5;rZO?p>CVaXgM@^e9luI[FZ7<Qd[R`M^kAzP+KK0)V=nDE]ai,L>)pKI70TmPE?UMtrk^O<[2Y?y23BDk_B[F:F,oPOl1I5mqGCWkwS*tZsG*Zpr:m,zryTyYKtTN(;H+tpW25mYjX8yJjUm:PSNSPq(o^?5P9s2YObmTXTElb??to[xW,YX]kyyRqPO(D2wdhH@.zJY>LCV_=G:Qv.c_PyMS0jojBAT;Tb^*N>jj(U7R1;AL"
def lS:Abs.b9:=gC "S:)AnE,QLO>g;0iWJ?y@y1vhbl=(G;ds0NcvU+=YI*Kaa2_7UX_NVk2)?wsOQS]Jj<reAd1"
def zN:Abs.Fn:=⟨1,[.t 2],gC ";LlZXuvkEFji(VpRxMWv0kS?lJG0tKkjm<ax7hJxA,x0]6VWXX_[A:ns>5zZW;puV*5S5cJ>)tntKWFN<58VO`>3bIIGiC`1_::3<A8@NQOULK"⟩
def pq:Abs.b9:=gC "ec`bTH_)1STu.[?rrSUrcCNBhRs]PP,4X*<1P)]6xSk^I,YCg(ujoookrKGP637]26I*s=Q(,,Q9LeIa:D>1l"
def iK:Abs.b9:=gC "*E7q.meFkvkjdYBsfvYwt>fEOA8=iCMNF2CWUe+7I+^yWb5VtK?>pKW9LtcumAD].Xymn8X?;YCV8],g@@8`*FMsIbTtc=Ym"
def oo:Abs.b9:=gC "E+6CXwMUdO?Ul[6fS0RXYmSj,ztJ;0yi<D7>VVPZMgT3Mue.Q:u(<NyboQ.MSQ[fXt8.e1CgfNiv+jzW^b.T=3u_<<Es*9SgPr=<DQ)Y1kb:rT=Hi,)=X:NDltv2O_]N6qpH<Y.D.OJ]?SuNnUWA?Pmip3r]YbI35=;^hbx3*GNN]i"
def fk:Abs.b9:=gC ":eE<Nb3Tk=QH`qVSc8WJ(,8b;a.25*+iR:TCAvCTnCxsJ`=(wWvLSFVur=.=@ANcz[M8m^vfLpm"
def IC:Abs.Fn:=⟨3,[.t 6],gC "AP3xo.T9=J=J]b.KqUk`]^FapM94ml5a>cOJb_R,q<E+Y8x"⟩
def lX:Abs.b9:=gC "6)B`^;ATYblWq2IgQGDR75e.YI80F_GUYhSkiw]<eX1lamj)X2HHKuRVK8jDgEE6v`GO^e0xi_1Y*.O>qvPu,u=F5F<9_)=:GGNNoBpQsM4;=rRGle`4yn1`E;TlDqPoASfgLcPsMv_K,?2?o4+.W)s<43^yLC(Vj"
def GK:Abs.Fn:=⟨1,[.t 2],gC ",7:A?)f(klBQ7he[;N,Bo^;1"⟩
def iJ:Abs.b9:=gC "=JFOEg9>,Ofu]^9*k)xpT@h<UACgB=_Epfay7xL;n+;R1`zbwhChr(li3rq;_AH8"
def nr:Abs.b9:=gC "45,?[2d1Ic11J4RY.?k2Qud7k?Z:?uKM.m=7OP?;kE4z<+>o`W4Gc:7zN]527>I0LRMM(uR^Lsr:=yFVqVX0RviTS]iah,JoQbHteK"
def oq:Abs.b9:=gC "+v>jXcCPOrZ:zKslw<Zp]j[Z;g8y4.`Kb)38sUkrjRkObi3*M8s,1]i,)R?GF;mJDkQ=RcA+K*_LmvQq^"
def lO:Abs.b9:=gD [] [⟨none,none,false,.Ie 8 [(0,1),(1,1)] 1 53 (.t 47)⟩] "=QECmX4wZhD[o1d(u?sewdOH8BJ6jaYcF21QTU]0wT:WTFB(GP`WjB]d2;JhCy2Aubj^j6b8+z8IoA<4*hR>9u7m2[KR8Ib8LCgC)P5jM6]aKqiivmv(Jioe;A8].Pzti<gdL8UCg3HmAc*L,eC0N4Dd,]92SvYm)[.1lt7D>Nyg:Ic,AE"
def Kf:Abs.Fn:=⟨3,[.t 6],gC "=IjFr>G9TG>a@D`h+2mfhy1t=kDv9e)"⟩
def fp:Abs.b9:=gD [] [qO 74 (.bin .gtr (.t 73) (.c (.int .u8 (aX 1)))),qO 70 (.pick (.t 54) (.t 69) (.c (.bool false))),qO 53 (.bin .eql (.t 52) (.c (.int .u8 (aX 1)))),qn 49 .gtr 48 (aX 10000000000),qn 34 .lss 33 (zA 10000000000)] "2)yjSOt@,kzQrKxhtP.Nxv[fTfHuH>]zu:FyXO(01Ad)Esy[V(R2U62Cz5a>MOz6)e]>wG)a*(?=[Ti,cXweac*QhhCv)g^Lae+<B0+rMQ=rz4rtPd2nkL2;zj7J+8ty6iHvDPi=z;ZdHPmnalWjcXGbcPM=X5C<in^T,NQSPn[<S58sVSnMu2Mh?1[JE49MG99):1L=BTDzcpc*Wx5pW7rmDeiKl=SpIE9fsgE8]Vyw]AKLu69eK41T_O[;?NNHIMk]zqt)Iz<GYqNwJ]T(fK7JQ=;r2V^ZdpgjjM0yp2k(]imxPJ.Jcem^("
def Fo:Abs.Fn:=⟨4,[.t 8],gC "W>YEgWk220Gl8:fZ<B5+UD@@zUF;wj7.8lppO5lf=]_1y*yR8cX.)>t+fum4*9rh?<Hwxij=kyYLd(<W;jp?IBioZ]WQ34^WVZoM9>>*?ad`O9K.tVC>,fGlca>n.IJBVudy@y_RObIEYgYBnKH5@s7,xrg@R<D.`SNN>ln2.jH5q^4u2f=ujnF;HYzJ74]e:<U^oKenPy52@SpK2"⟩
def kF:Abs.b9:=gD [] [qN 29 .gtr 28 (aX 0),qO 19 (.call false (.c (.fn 103 [] [])) [.t 18,.c (.int .i64 (aX 1)),.c (.int .i64 (aX 100000))])] ")*yNr^WkUuTJz,rpfnCQAN))8WKxKYC<DE21H3KTNaW.(96zV<3D+Id(9DWzUCH[(2`iRuehu29m(_:O24g@7kr(C@p<lH3V@bD=I@NwdFjUkYFWlXk0D`K7P2E^H(e@NFxUUFMAT)t3O)3mR:GO*T"
def xe:Abs.Fn:=⟨1,[.t 2],gD [] [qo 19 (.bin .mul (.c (.int .i64 (aX 10000))) (.t 18))] "4gr0,L?:piB,)xva4efI3MEb[?v@Eb+5,jXEhsvBcni0.gW[[bX:0lxMV=?22,=t_jHN23xpk6:R,q)GD]klmrYr"⟩
def DB:Abs.Fn:=⟨2,[.v 4 true 4,.t 5,.t 6],gD [] [qo 3 (.FU (.t 1))] ",nlC^<vdy`X@FVwkSIiv_qy]+O_SJ`xm_bVazf=T375Sh((hP76yNZ8`uZ=zWpgwi3Ln2>3_Adh1L;k,@YRd0aLHGQL<HWzLC5v2Y)_P=EVC:R(bGuyN]GlmY)GVO<P]qJ"⟩
def Ff:Abs.Fn:=⟨2,[.v 4 true 10],gC "LT(7kMZ?286eIViVcDE+f=alIC8d+z_<2<mjpaP<5f)8X5cM_W5TiUV3*<pg;(gZ2u].>_>6T^n3?8b;qH)fZA_U,_.NVOrTw,l1.Y_8^2<K+vl8.I7zVH2meYNC,PVdJCE0QwMy1>o^PBj6_51)B>zFB6k5M3fd6X^qwt6u=QrGSyZYzrqot4RtmO@;(bR+r,[rv1fViZnkBMPL:*MJ6z,Q0Fxtwdegr2F9M[>4zkj;j27<2OB,PJ7Rl`Ne8e^H2GZ6WzAX(nM.J4aF;1lvQOnSZirrs=(Y38H<]TT6D.r4+q.>@s5DdiSd>.aYCbcqt54Lf0.0aH@9**nL<3>eOT2,c2R,03G=C5]W6b`8eFzR09+bmYtmPEGJP]gYmKoVN6@siDVs"⟩
def oB:Abs.b9:=gC ")11dP`y^Q]nb>V6x0i1<i=p;it(ySCt43j=Cf=w`8D)+JEzO,oUkc@z`P5zT"
def mB:Abs.Fn:=⟨2,[.t 4],gC "1vNKQ@KpNi4N*:WHrt?8H;ouF7"⟩
def xp:Abs.Fn:=⟨1,[.t 2],gC ";LlZXuvkEFji(VpRxN^Ef=pIhtah?]Tqzy,?[mmfNZ.IKo8alcW2B7=zWhQ`Y+Yne(tzCp8Cldy+<?zzz[FHl]pkH<_gUZvnMX=gL0ilmuUB<K"⟩
def lJ:Abs.Fn:=⟨2,[.t 4],gC "1vNKQ@KpNi4`z4C.aP2u3sLVpY"⟩
def wi:Abs.Fn:=⟨1,[.t 2],gC "LoLDa=t.++ajcAV0<]l`U)Q8^NLknK+].p8?gjH;sj(I0>vjqBgBRT[E(qt@x"⟩
attribute [local irreducible] nw ov nz ja nj jy lZ kE lS pq iK oo fk lX iJ nr oq lO fp kF oB
def GI:Abs.Fn:=⟨3,[.v 6 true 20,.t 7],gD [nw] [] "bNFOnyXaDQl9hl>m0[YS;ABce=G3wcWsz3Mj)v<]2w@]*clg)z2F614T1];Jz;Q)c6pEz>tgp>`K*ZMs_(?JVHoJ(?x6OSNIg9V1QlCnbB)s=RZFM+v6dF(1w`rOngx?b>C.feRrE<O<66K9ZAIQNoG3da:mI0sp@bnJkcQlP[<Plp3tX4ba.7K5CTco,7nr[Cfs=81b>rF7n6SBGfTxSg23`dQtmJc8;;Yk;c[TVm15uVG[)@TBb_Tz07L=xw(:FDU+Fnod6Dpta"⟩
def GM:Abs.Fn:=⟨2,[.v 4 true 20,.t 5],gD [ov] [] "0);*K]dGjhR5F6q(=L)Lqhr*XruJwCmF;gY^sYCmjOQsR>[ynXTC.(1mlp`SP+r@=,ooLNG82*BsKP,Z@hrX^53oO5D=^L4m78HK530Yqz(=>7Iz7O[OD9plN_OC(@6o*4bQ04vZt+TL7:yGy7vLCR:0DpmE(>nHCv"⟩
def GJ:Abs.Fn:=⟨2,[.v 4 true 20,.t 5],gD [nz] [] "X`Zh9w225>>luutoFt+*S.GSgdGLM_imn43SRUXT)jc[D(kzPU@+i.aojexs^^.u]R6`oyQN?<7c)Htq?9FY`awJ6)RT]YF3uxKbqPkeh+.EJ)a>9Nmr=B_H.@uoToT@=TY:gCUl]<sFP,hTSt^=<fB:]o[WrUJ2s2LNp3BnqMbsWI>H(gT.3na)JKO30:NvRQE9a6:n@7]_LOnBhTTQ9tDx,Rzivp[?,bqobHf885ZA80m5c+rR?kqWAoY[]XX@`nH2xPfM<95p]bQsgLQ0tDoe51lOKM]*jjMo403vf)0pABxa=ZT<sbLghxv@to4U@<0T3lQlSqR,mi)gSk8.y`lVV9AFB5"⟩
def eS:Abs.b9:=gD [ja] [] "4CEmcqGlQnssf72C>+L,8[x5R4,2?HsH?8XWK:,Iy2D=yCn>M1MN9>b,TkfoQCiCN.+m=_*O5AOY=blds]=2VvH8OHc1RGSF(y>LHSXa76E=?2c;9cHgP<wxr;hH9pG)N>[ks=d37HL_BJiOZ)Tf2WkVVTNkwer]heAGj1^QkLZp[awP0"
def Fy:Abs.Fn:=⟨3,[.t 6,.t 7],gD [nj] [] ",g:cF^?`)k+4Eh_qNoo(+[Cs4i*J,tukarhmfz_+X`2<"⟩
def Bp:Abs.Fn:=⟨1,[.v 2 true 4,.t 3,.t 4],gD [jy] [qk 66 .rem 63 65,qO 17 (.mp (.get none (.agg [.bool false,.int .i64 (aX 0),.int .i64 (aX 0),.pR]) true) [.t 13,.t 16]),qo 13 (.call true (.c (.fn 126 [] [])) [])] "+8ISe+qW4]uKsD6yOkjt:@YDwOM@SqS@^5+0.pFN,y]vt?GO*g,eP4S;u0dI^BP,b=[(=c8Pw*XB+QcK`DG1<cucXpSNkowhYc;3NV]7Whe:)B(V<lUmiHUEZ=.iuEbt=DiTYtmN]wfhsW;dNK)5y,ygRLM,ubRbOL]YbHPV1AR.1j]iWPEr=vBXnv8CZ`aPk8?IDyUFEon0im+Vi+EiqrRFNX^@Zv8sj[z1n4(?"⟩
def FG:Abs.Fn:=⟨1,[.t 2,.t 3],gD [lZ] [qb 3 true] "3Yx=?z?51Gus^W+uP(jHMnT+A2DZ[^)tCG79swxGJ(mwuxkpNOVBVNC)IuAOVIB=?)NdxX1XL:MI7.cJ.(HnIk1sT6_E;A4M(>P]ysxkRdm.wRVvOyOx4NeplJA<EOj*K2G^kQ6`S9+)iiha0(xNyLk1sYPrQxcWIVK<39(OUSlY4OsEVJ4j?9LS"⟩
def Fg:Abs.Fn:=⟨1,[.t 2],gD [kE,.cI [1000000]] [] "*n5Q8(M,GQ7ztYH:nSXfS2Zs:]U=uCSDPB9S<TfGnL8sti"⟩
def lT:Abs.b9:=gD [lS] [] "0=`lWWBs(`;YbQ,J[zy,XwjXnEvuYuL[zH_AjfwBrHPEzOyZN)V44m8.eGBWvYejGDjxI_lUpSzdVVrxlLNs<4At,3Q3]Ab<s4wN2pP2>P[uwFekrBobI(wEk.,i7Z;>SZ@N`Bc).JKlsGAVB"
def zM:Abs.Fn:=⟨4,[.t 8],gD [pq] [qx 6 2] ";.PS2gGT:7B8hwJ]bUzwvPGeYn,BCnr[asPAt^dc0Jwyn@n<`vsJXFBVCHCjFsroRFsB+ij]i,N,=T1W)<WZo@z`tm^0ZzWqoOozYR8@nW*;CAiiMqwqwpI:cRFQ:BSepF4ASB>GTZ"⟩
def yr:Abs.Fn:=⟨1,[.t 2],gD [iK] [] ")L?*tI0JP+G=f[EyzYLxc1Gcte61]65:R1<:SP]n_W+TAamrl>ERJ,T[FUv`=`.i7y"⟩
def GA:Abs.Fn:=⟨2,[.t 4],gD [oo] [] "eapx.;gU4i+SCYq6aC:h[m^livecdTAvZ8ku6EfOvkHg>RKmp>X4ghP"⟩
def fm:Abs.b9:=gD [fk] [] "7CLSV@PiFlDsP0<o7],^0X?Ix8CAvQ88fVpXc^8Vp^>NFjy[NKx)?GWSu2G?]pj)nzUy*zl6fgi;@zr(R16@Qg?T"
def DH:Abs.Fn:=⟨5,[.v 10 true 20],gD [lX] [] "3.UdoStV@::J0Wg)dLP<0ty04rZ6CYmkU5.r3EVZ[j*:ync+L+g*.Q[_.2lOY1(tHNxLfKTf]55"⟩
def yq:Abs.Fn:=⟨2,[.t 4],gD [iJ] [] "6b8YS8T:UoNuurrfU9c<+E,lY`s8]jQ_nOQtAOZ>bMf:nkSLXqbi"⟩
def FB:Abs.Fn:=⟨2,[.t 4],gD [nr] [] "_Hd`aPD64BR8psF*bxyjf>P)j(oY^c*M*KTZyobqKLtcoqR;ZvOc;ok"⟩
def GG:Abs.Fn:=⟨1,[.t 2],gD [oq] [] ":?*IaNSxU@XTa54j7*ha+bx=NBqz<FX"⟩
def GB:Abs.Fn:=⟨3,[.v 6 true 2,.t 7],gD [lO] [⟨none,none,false,.Ie 8 [(0,1),(1,1)] 2 8 (.t 17)⟩] "nn<eiv*z<M,Uvq6D)c@7ZHnysE)H[_[RxYJOkUawj498F@67*pDmFf8y)V8laS]CCrCwOYXeZd"⟩
def uR:Abs.Fn:=⟨3,[.t 6],gD [fp] [] ">zz=@<v,cluPYX(.UUCx@7xdS]MO`LDG5@bS>xdrDTa8n0<B"⟩
def Fx:Abs.Fn:=⟨1,[.t 2],gD [kF] [] ")r[+vHxa<<+Ej224(^xwt6SrqM)yur9f6I,2Xcko6)EF*7<<;<`zwlkDL4oOkjZ"⟩
def qT:Abs.Fn:=⟨2,[.t 4],gD [oB] [] "BhhO2J>G`gQ_4cA@f[tHiP*xe"⟩
attribute [local irreducible] eS lT fm
def DL:Abs.Fn:=⟨3,[.t 6,.t 7,.t 8],gD [eS] [] "*_jyKBf(xjy2Q];IO=Ie@E)qYv*Mq6E`4jVvKtbwRR3>23I`Swx?kcryYoaa7n705Q`q)My)2zI56m=f;z992?J4yKLke8@iacw`0T)DYg`W1Gx7Mow<spp>qX:i_lXE*@cEs,A0lK;Wul>Ugn34W*dt]:R<FwG1:=XPRZXv)o1@>RnMJC=B5BmEJhtiltd>8DX)g`qcH4)W[(gJO(.isp)it^:z)9HTCvc(*4Vx_Ng"⟩
def Fp:Abs.Fn:=⟨1,[.t 2],gD [lT] [] "6iYfke1Y)5d3[_(rM)Nr9ke>;`3O7t>zy_N(kT_Kw(mBcKOSRpS_JiW^cX5tM+EqkGQ];K_(6ESqK_:I[j[dn_DGnSS:fanW<A.Ds^Wl@hkypA^?ZW*CAX8d0NPRRN2RlVm:KNjDNH(l,pQ^0n5,wdv7tB"⟩
def uQ:Abs.Fn:=⟨2,[.t 4],gD [fm] [] "28=9K4:2xwC^Cu_R@<Pc]cZk+(]oU0rz2b1IQs)5F3"⟩
def tF1:List (Nat×tv×Abs.Fn):=[A4 [0,1,2,3,4,5,6,7,8,9,10,11,13,14,12,15,16] 68 GI [] [6,8,12] [6,8,12] [] [] [(16,[10])] [] [] [],A4 [] 69 GM [] [2,4,6,44] [2,4,6] [(3005,[(1,2)]),(7015,[(0,2)])] [] [(8,[6])] [] [] [],A3 [0,1,2,3,4,5,6,7,8,10,11,12,13,14,15,16,17,18,19,9,20,21,22,23] 70 GJ [] [2,4,7,9,11,12,13,179] [2,4,7,9,11,12,13] [] [],A0 71 ow,A0 72 zH,A3 [] 76 DL [] [10,15] [10,15] [] [],A0 77 Fy,A4 [0,3,2,5,6,4,1,7] 84 uM [] [0,2] [2] [] [] [] [] [] [(2,some 1)],A4 [] 85 Bp [] [2,4] [2] [] [2000] [] [14] [] [(3,some 1),(6,some 3),(11,some 2),(14,some 18)],A2 [] 86 Bq [] [22],A1 [0,1,2,3,4,5,6,7,8,9,11,12,10,13,14,15,16] 87 FG ,A0 88 Fh,A4 [0,1,2,4,5,6,7,8,3,9] 89 Fg [] [4] [4] [] [] [(0,[1000000])] [] [] [],A4 [0,1,2,3,4,6,7,8,9,10,12,13,11,5,14] 90 Fp [] [4] [4] [] [] [(0,[0])] [] [] [],A0 91 zN,A1 [0,1,2,3,4,6,7,5,8] 92 zM ,A1 [0,1,2,4,5,3,6] 93 yr ,A4 [0,1,2,3,4,6,7,5,8] 94 GA [] [] [] [] [] [(0,[0])] [] [] [],A1 [0,1,2,3,4,6,7,8,9,10,12,13,11,5,14] 95 uQ ,A0 96 IC,A3 [0,1,2,3,5,4,6,7,8] 97 DH [] [5,10,14,17] [5,10] [] [],A0 98 GK,A4 [0,1,2,3,4,6,7,5,8] 99 yq [] [] [] [] [] [(0,[0])] [] [] [],A2 [0,1,2,3,4,6,5,7,8,9] 100 FB [] [6],A2 [0,1,2,3,5,4,6,7] 101 GG [] [3],A4 [0,1,2,3,5,6,7,4,8,9] 102 GB [] [6,8,16] [6,8] [(1006,[(0,1),(1,1)]),(8011,[(0,1),(1,1)]),(8013,[(0,1)])] [] [(0,[0])] [] [] [],A0 103 Kf,A4 [0,1,2,3,4,6,7,8,9,10,5,11] 104 uR [] [8] [8] [] [] [(0,[0])] [] [] [],A4 [] 105 Fo [] [9] [9] [] [] [(0,[0])] [] [] [],A3 [0,1,2,4,5,6,3,7] 106 Fx [] [4] [4] [] [],A0 107 xe,A3 [] 108 DB [] [3,4] [3,4] [] [],A3 [] 109 Ff [] [4,7] [4,7] [] [],A0 110 qT,A0 114 mB,A0 115 xp,A0 116 lJ,A0 117 wi]
theorem kF1:(tF1.map λp=>chk p)=tF1.map λp=>some p.2.2:=by kernel_rfl
end Go.Proofs.YtpapbbojmclkgaaGreatDoor
