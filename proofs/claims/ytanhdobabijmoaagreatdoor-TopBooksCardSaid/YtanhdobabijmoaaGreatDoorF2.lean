import Derived.Test.YtanhdobabijmoaaGreatDoorIds
set_option linter.all false
set_option maxRecDepth 100000
namespace Go.Proofs.YtanhdobabijmoaaGreatDoor
open Go Go.aA
attribute [local irreducible] bf CK
def iW:aA.cc:=gC ")Akn:.ptRGaV9L.:>l?@Jyp27VtqUKX,3NT9GJs_g.zHEzG7^XE[dL[SkV4ztETPKJt?AVlNzp]nn06fxqwGgEHKxrfrlOed8wR1QAgAd:99G,aM83ir4BpV2mMrSxT]FTTmZ)MBYq+NVmPlgTcz:RdKZ`umnH+.="
def s9:aA.cc:=gD [] [qO 101 (.mn (.t 93) (.t 100)),qK 100 .add 98 99,qN 96 .sub 95 (bf 1),qn 84 .quo 83 (bf 1000),qo 81 (.Hc 3 1 (.t 6) (.t 80))] "+??ZTmI6ok+Vj9,kspf<2Qz<MGfbc@:paEe4jr=jbJPsS(OtVCKYe]TgGQqM.phk3kIgS(ZY>.NXF:>Vk8bmHJjj*n.+a=Nl>YS=dGn@?nRid3YZwNT2Y_?wyu4CS`26.sx7_ltg"
def nJ:aA.Fn:=⟨1,[.t 2],gC "8Ho32>[CQe@6`pBf)WvokSVbBP6krD]"⟩
def lJ:aA.Fn:=⟨1,[.t 2],gC ":Jb66(NS8_^VY8(_m]lr(o6l;1N>]ln*<o:1W;*[)GDhMU4qUJGV<HWNmhrhX=gMr0zRG<34oYg"⟩
def jy:aA.Fn:=⟨1,[.t 2],gD [] [qo 5 (.RJ 0 1 [] [])] ":]AzJhiemq+kl]Bw]:]`,t0lQ3aQR"⟩
def uO:aA.cc:=gC "2FCiGsV0nqCF.Fv,*tT?zYO57wLWWR"
def kS:aA.cc:=gC ")eiP`5dvdubPLGQjs>m+Uov++B1F2Z:Uq`?<^BI>SDJn]ND9b8=XL.9N,zU5iWJd=tYb6?MlkTj:d9p5vl6VhzQ9z@psY5EIEENu(v6pjh69MWf"
def kT:aA.cc:=gC ")<*mMxL6GTuO?j5ntb3*m6eI^@q8C]MMZRzDuGz:`Q:D+HvfHu^79kLkZQIhE+`4oJ[4+e0g1(w+VjYX4=HvjlCPUd_wS*.H7nEoG5PjnuQG;E1[H(TMENoI.^@bX[EE`[hsqC:dCHr0lDlwk8wQbZ.5EGGMai=Zv,TXNcunQtdb5O`]OhjUXiJm05m3VuD_<(O50]"
def lL:aA.Fn:=⟨4,[.t 5],gC ",G>vNm6ofdP:a>gN3>[qR0XjWDWot=iE2BSIS3Al*Ejf,mZxYqqrtcW[+>qlMk@3K=Nh;N74YX+LXv,2SW=yWX>m7*XTxngsuV+vh9y(Ks^Q,v<rn)wD(P?znNcelL^t1irhop2Pkq2O0xGdT9Uu1?LLvca`9y_D1,4VgYIFXvl[9ZS0p?_WPYR[CA"⟩
def ri:aA.Fn:=⟨1,[.t 2],gC "FKHq*ySAUQZwhZ8mW6=aK.HJ(rc]"⟩
def tt:aA.Fn:=⟨3,[.v 6 true 10,.t 7],gC "+0`nq.crI>RB0*@yFy8*i(YA>U93>(:EjCdu^tV)pDBrm=+NmWYd6gMtzOiqYVZJXD4GjgsSzkJ7netZSUeN^2b4f^WLyVaTrL6Lf<CxRuY)N?VkviqH@mg4NGz<qqIS;Gl)mcnZVD:^DivW"⟩
def uL:aA.Fn:=⟨2,[.v 4 true 4,.t 5,.t 6],gD [] [qo 3 (.FZ (.t 1))] "*b.;B5*fo`gEX3C=jWMAHHc*l`Ung*Q)GlLdivgn)_`4<*OzDW_.?OXZCq(u3bQTmMH3M=SE>D8Iz5o6B*86ZaSYp@M^l;WuV<rPu^fM*0SF]2qzHm:xkp5mAY405YHIpJGgP*^FL]j]=Ibmyer)<WXRx*bNzxd:,[=vuIg85lw*Cii@7T4lNTJ_j9LeLyLzFa"⟩
def uK:aA.Fn:=⟨1,[.v 2 true 2],gC "1E)xIgy<dXq;(9NyVq5qis.gT>6LNcy"⟩
def gg:aA.cc:=gC "0x0p0xkKMR5.yEe8*`gqoS2j5l`oh1(<sCNs7^9?3;;HcsJ2ecZc*Yr>[yZSvp6n`cp^K2.<@wO]OrGSZhfVq(5oDWy09CeS1tBM@atqw;@bEFODpS:zBmbgs1XxBPS<y:MoQicL`hMy73rOct2XF"
def sw:aA.Fn:=⟨1,[.t 2],gC "W_Y09a1=a?eQ+O<SY4c.u+MT+uKJrnv5EQMSDA8N7Ed[^TFd3LZOXdLcLv(KnxuTcOW?BXA?Z4KpEC2]SGOF7U_.sm@bckCbZpA1Wb=V`sUu:N:c(3q(>Zwfc5Jls9gFMSV3TUa^SWq6,PgpyGNh50xEWx=0r[c3M]Qol_m8,zg9BafJ?XwF00aZnX@q"⟩
def kJ:aA.cc:=gC "8Br4?bQGT@d<VG_Jo[>;uCn.igh3]F3;qFwjR1Sv<fS8o49P<>bLoDeGjJxwZ"
def yy:aA.Fn:=⟨2,[.v 4 true 11,.t 5],gC "B^PliXRzd24b(Jb`oIm,Pwtywp,^<7C:+o1HKmLBTv^aHIdn@ha?;vGBj5sNxW4a3i`U4)YcN:O>n>LZ(+y.bO21:F8tlGS7"⟩
def gI:aA.cc:=gC ")AJ.ij?QE,NyermHhUfKwsod5tSfaBSAZJI20c.l)Tqs9gWHc_w04VlK^`Qr^.^jLa[A054kU5L+KzOx=LIT?4e"
def jM:aA.Fn:=⟨2,[.t 2],gC ")FnF*]uw:sPjOqC(IhR"⟩
def vS:aA.Fn:=⟨2,[.t 2],gC "*8zivf5giaXS5e)D.`KXR"⟩
def vT:aA.Fn:=⟨2,[.t 2],gC "*8zivf5giavs`^GcgZumR"⟩
def ni:aA.Fn:=⟨2,[.t 4],gC "cyLXzr@*nd.l5I(6KuEUmWW]_"⟩
def nU:aA.Fn:=⟨1,[.t 2],gC "+hV6*dn5>t7XcaAr?PB:cH>RMsqL7?RdLTJ<0h0b5wmULmnCsxPzNeN+M_tav)*t^,DH:VWJ6G*NPY,IDS2PapL5LXE2^RtmjbKfO=@(@VBszz7e?,xJ9].H"⟩
def mf:aA.Fn:=⟨2,[.t 4],gC "cyLXzr@*nd4@_72R3].;gGC]_"⟩
def mR:aA.Fn:=⟨1,[.t 2],gC "+[]8AUDUr:F>aJ:x<)5pWySxNbyjWhTU(rXkafXKV+BN*l6MYh(TW.Z79)v9;d)R"⟩
def tL:aA.Fn:=⟨3,[.t 6],gC "9ZebYh?yIfJnuZr2FDQzmeJHqCz6,"⟩
def mT:aA.Fn:=⟨2,[.t 4],gC ",<c^,f[_JdFMyzsfWc3yon7J9qLZbKRJhc)a_Gh1ilQj.xxMUkyMXbl;(xGfPZ2V>5(@+_IN;8y2CVYl3Wm5ShV)QEGBf_vZ,`H1rrRO.C<mZdK1CvjlrD[1c;r2uHK6"⟩
def gr:aA.Fn:=⟨2,[.t 4],gC "bDeLFzXpiLmBJ4jSm@CH_"⟩
def nj:aA.Fn:=⟨2,[.t 4],gC "cyLXzr@*nd:=DTX0tQNiyK.]_"⟩
def rB:aA.Fn:=⟨1,[.t 2],gC ")4yr6ui@A*Ya7Xkl("⟩
def vG:aA.Fn:=⟨2,[.t 4],gC "cyLXzr@*nd;eR3v2U1;Gj3C]_"⟩
def yz:aA.Fn:=⟨2,[.t 4],gC "cyLXzr@*nd>cnBa^JtK4=<.]_"⟩
def zh:aA.Fn:=⟨1,[.t 2],gD [] [qo 4 (.bin .leq (.t 3) (.c (.int .u8 (bf 2))))] "zrEEozTbg:7xR"⟩
def cS:aA.cc:=gC "*(F*+4YtI7hdi:@D([y;P]P8S,o1nZrwGHBXzZXHb4gX2YyQbG3;(*BEbXOYDuM93;Iaer7>,feP"
def lK:aA.Fn:=⟨1,[.t 2],gC "*suk7+YsABxE7pv("⟩
def kb:aA.cc:=gC ".aqCe1r2@^=ga@d5o(Brzn=4]UC,tp6L4zda]<?Isq]t.tqeku2u;y[)me2]T4ERh73gHir+y"
def qH:aA.Fn:=⟨1,[],gD [] [qo 3 (.AW [] []),qo 8 (.VJ 313 (some (.agg [])) (.t 5)),qo 5 .N1] ")V(^n?9=gAL[Cku;Gcw>E.qWXOo*)1;NQfe7=4MqA:t*N7A5oEIB>EGPINK+w`;_w"⟩
def iO:aA.cc:=gD [] [⟨none,none,false,.Hj 4 [(0,1)] 1 48 (.t 46)⟩,⟨none,none,false,.Hj 4 [(0,1),(1,1)] 1 47 (.t 41)⟩,qo 36 (.SW 313 (.t 35)),qo 35 (.JB [] [])] "2Tqq^bna`(?8SH2eGi(c,M1UFNK5zsFxjJnrRBoa>SvtkNwxAZR4=Gu0DG.lwip9_i2KOi?7JTcrnYS9+w,2@WC5::LzAUrsV5K;XSnaad78DcenB,pUXMz6x_cET;N?vjVE7=:dE,=I,hLXvP5OHFfJs_,2A3MTIXMXyZ"
def xL:aA.Fn:=⟨3,[.t 6],gC "5qCo[)Hzl`=CvwgX90VLYF;U56+OTl@=SNQODAgSMaPSor);t1nh,=Ce(p<TP=CIwX0f]u0v.oB8AXXS@8V3@a71t[K.G(G;rrwUXmlMtpc][+6?qYra8NQ,D*RN=.zcZPws,"⟩
def o4:aA.Fn:=⟨3,[.t 6],gD [] [qO 7 (.mv (.c (.int .i64 (bf 1)))),qn 33 .gtr 32 (bf 10000000000),qn 18 .lss 17 (CK 10000000000),qo 11 (.SR .i64 (.t 10))] "X6nTBfn^=9Pm*qVv^A7P(iKuzJ]I]m^8vZ.NdeMwr+ViwV9kT=*X_rkbLE<+7K(wnE,?It[N+U8FTKLloTY9ic6C7U*ILD4=SuNk)1Vu`+9n`hmAoviQK@3qq4YHp=,(;U<C]Y:DSKm.rIP2EUj]Bi?r>qQO+[WpyBk0OizgQBu9S)B,v`3OI_m5f?=zFia"⟩
def rR:aA.cc:=gC "b8^Ofn0DZQa29WI;sa2gP.w=[eTxSRq(obgXGWvAQ+;iFnx]z+Hj*qQsEil]q;Oi)zX*XljRg,eOu([qJU@qw<"
def rm:aA.Fn:=⟨2,[.t 4],gD [] [qo 14 (.mn (.c (.int .i64 (bf 0))) (.t 13))] "4H>aBpjx+?nfF<:iRsX53Ew]b1j]tT2LVP0i"⟩
def nQ:aA.Fn:=⟨3,[.t 6],gD [] [qN 28 .sub 27 (bf 1),qO 23 (.LF false 5 1 (.t 20) (.t 22)),qC 20 239 []] "2Ddf[5P1maTkDWbxHv2)N.tFHvJ0D6)pePh3CtiON9W_Mr0haFt8JG:=?MSB*pt)qhj*YKK]l0l0t[DU;c1=BPKy]sZGa"⟩
def oX:aA.Fn:=⟨1,[.t 2],gC ");IBw@L.>FqCin[k+zh_tUw*P`+EDtWJOe4^fsT^NS[o>3t=iFnAmm43NVGMUADFMFsooIw,ZPaP>"⟩
def rA:aA.Fn:=⟨2,[.t 4],gC "+6^DSQp.g?TCRQiGAO]^dZ93Qza6"⟩
def mP:aA.Fn:=⟨1,[.t 2],gD [] [qo 19 (.bin .mul (.c (.int .i64 (bf 10000))) (.t 18)),qo 11 (.bin .mul (.c (.int .i64 (bf 4000))) (.t 10))] "gm(K[l48tmk2nGrbP]2bJHx`^8Z<.o0NHHaH;n0R)^eOV;(n`8@T_V;da<s:uKDB^YZXWNILf@nMXHkTZZP[cGG("⟩
def sC:aA.Fn:=⟨2,[.v 4 true 5],gC "+nUm37MSbIgK+J;q*lK.,dmx7w,PH"⟩
def sD:aA.Fn:=⟨2,[.v 4 true 10],gD [] [qK 65 .sub 63 64] ")l1,QCXKXpPtm6L_Z=5TW]6Ze_W@9TTqCyO=[c7c90,h^Y?tlF18LgqdG8_v8GT+mStOIgmo?[Sa305yLfBH+Hz8vw0TmX,_dJFm3:yFELKowtK*Z3^yN(Hu0AlNy?NH.A_,yn8[HST_Jrm4,ZHv6SPv)foz4*Xv=W5?2iy.5]K(Bvd[WAztwgV[mHn@Hs)aYcLX.2k<VOG:8mb.O)3=?tc6jh4tn@r=.2hW;2bx0x2vur_fxTkhL^IP>oZEW2xNk2DasO.]8b<[VV,h3h`)20[8N_,^WmIF]?WKU+pb6GK,UYH"⟩
def v8:aA.Fn:=⟨1,[.t 2],gC "QU4,CJ??ev=m4MNCb:SM("⟩
def fF:aA.cc:=gC "1bMvEQ<k6a.S7<gJOeSsj;inlG5uwFowM;;7W+N<sAm?30Z2dE<8Z"
def iK:aA.cc:=gC ":_q:MyIb]>sbJoi7;"
def iL:aA.cc:=gC "5DL)b.Q3YSg0<UOHuKx[kI"
def ke:aA.cc:=gD [] [qm 3 23] "qg5,6+W5=H*8qF65plg7D[P5t)TfJu(3rxc=)<q<+eXMGl"
def kc:aA.cc:=gD [] [qm 3 23] "3m4KsidHN)voe_jsgkb)o5CAq5>8D=W8qfvux1^jeXMGl"
def uT:aA.Fn:=⟨3,[.t 6],gC "9ZebYh?yIfJnuZr2FDQzmeJHqCz6,"⟩
def vx:aA.Fn:=⟨2,[.t 4],gC "cyLXzr@*ndVUViWljAu,QP.]_"⟩
def rz:aA.Fn:=⟨1,[.t 2],gD [] [qo 9 (.call false (.c (.fn 212 [] [])) [.t 8,.c (.int .i64 (bf 1)),.c (.int .i64 (bf 10000))])] ")5Jmurt3GZ>nlgkqUaf4y9+eM9[>v*3yL2sBKnofa:UwtQ5?2oh*pko*e.V5z*HU6ZIF2]4osAvdfzErcGQIVn,7*QZXkNY,*3(CUQgVMl@f:izgH.H"⟩
def wg:aA.Fn:=⟨3,[.t 6],gC "9ZebYh?yIfJnuZr2FDQzmeJHqCz6,"⟩
def tI:aA.Fn:=⟨1,[.t 2],gC "*.w*5H,3)p;SchzeqHb>BmvW@`9LqIz>13C>"⟩
def wN:aA.Fn:=⟨2,[.t 4],gC "cyLXzr@*ndYSrxBdY1f7i(W]_"⟩
def o5:aA.Fn:=⟨2,[.t 3],gC "SdS+7ACTkQwny.fL,`j8*zP)`M+iXS[@76EWIzC93_Mqs6n[==_db)J:G=2L:KLM*0x(hD8gre5t,x@z3OO]>cx2s86gtA*bG@@+x;?"⟩
attribute [local irreducible] iW s9 uO kS kT gg kJ gI cS kb iO rR fF iK iL ke kc
def eJ:aA.cc:=gD [iW] [] ".gwE5Q<Qkomj<nvhjOW3y,(N3zt*uZq4BzE_ph5FQ24Eg<GjNVz8j4,Z<[;xCU)aJGDT7j;Mc31A8D<Peg8JEGCFvyL`hPxpM8AQzlZoBk4LB?vhQddHMsW5ew;I;d9e0y)5pf6(kWcNeTp33K93,eNvz[^>9S3t2gCguD[*.@0u8,="
def tK:aA.Fn:=⟨4,[.t 8,.t 9],gD [s9] [qo 10 (.mv (.c (.fn 182 [] []))),qx 6 2] "1aqDKj(J*bv)rvZiz>XLS2p3kkB(sam^FN6s,h9F5zvd7=`I=y+zdgRhCeKPyg=1c8`ABr4F7.tchq:yvs+C+fTIO7=t0PBA`R,cNySs0r*74b+VGDIgioU7[@[jDf9G80Mt*BBK?AL`gKYIiYU9wg3[Sn;8q)6o+5uqH4SYx=m=HoFxW:r3WuhAVawL)JO>H,_XSpv;Z0:GzU@x).4n7s0:t`SExT0FgD7SooahnYCM5.Bl1=XpTTKok]`2iYTIv86l.LR<Tv:d3l"⟩
def ui:aA.Fn:=⟨3,[.v 6 true 2,.c 7 false 1],gD [.Qs (.c (.fn 189 [] [])) [.t 7] uO] [qS 6 2 6 22] "+Gnprsj3TOT:N7MDK8T(9Cr7BaJY2HxBWdlH>*N7(@U+0b@XQf>QE+g[+L,uuIS?>dK;[?wPuV9PF[xtG@Z_Ef,Q^PpCJ9HVa*NsHY_kU5;hp="⟩
def kU:aA.cc:=gD [kT] [] "6>Gh?*;seX(v>aI)=[YRGC=WO4qPc3Ap7F<Jy?LMVNO=mts[iz6X=*i(cEx;_@mGT>xg+>3`?pLoKuPN]M(.enuRGj;`o+u6y5i1hKqSOt.7@tS48Dml9zs?ZmqdZKWz@G"
def nS:aA.Fn:=⟨1,[.t 2],gD [gg] [qb 2 true] ";KqK:RSn3bs=;;]vIy<kqhE84N]UVEs+yJ_nI4=PKbM+>X`2wA]9OiEFK)mcYb)^fYb4UypH"⟩
def mM:aA.Fn:=⟨2,[.t 4],gD [kJ] [] "1D`[f5<hEimQ>tOQrhi)V;+H<s"⟩
def nN:aA.Fn:=⟨1,[.t 2],gD [gI] [] "OVp]Kv6QFbwzOY[@L6^payTK<SnMi(kF4*bg4>"⟩
def eU:aA.Fn:=⟨2,[.t 4],gD [cS] [] "6IL@aRI?CukZJY8yY>)]c=isXwepUQ@"⟩
def tH:aA.Fn:=⟨2,[.t 4],gD [kb] [] ",WJWoTGej_m`VtXb4XC=yJEm19BSQ[9,TpOfThi*frJgi6"⟩
def mI:aA.Fn:=⟨2,[.v 4 true 2],gD [iO] [⟨none,none,false,.Hj 4 [(0,1),(1,1)] 2 4 (.t 50)⟩,⟨none,none,false,.Hj 4 [(0,1),(1,1)] 1 13 (.t 12)⟩,qo 4 (.AW [(0,1),(1,1)] [.bP,.bP])] "S*nu`kniL022;TlieIxP)E108be^80Ph)D[Z.XVB8GaygZ9GZKC"⟩
def wO:aA.Fn:=⟨3,[.t 6],gD [rR] [] "DzQ[512aPf=U;WBT.:zekC=4nl<_Es75QV"⟩
def lN:aA.Fn:=⟨1,[.t 2],gD [fF] [] "8__H(x6XPzRjk1bzx`;i]b:Ve*Gv4Zm>>"⟩
def oW:aA.Fn:=⟨2,[.c 4 false 1],gD [.LY [4] (.t 9) [10,11] iK iL] [] "]p^=sPw;?9123gK@vV_hBdW]<vDp^yzta)CJ[eQeZ"⟩
def sB:aA.Fn:=⟨1,[.t 2],gD [ke] [qo 8 (.SW 9 (.c (.str [115,108,105,99,101,115,46,77,105,110,58,32,101,109,112,116,121,32,108,105,115,116])))] "*+=P91>kHuaTWVBn4IaSkBgf;n65C.NAuPbjISd[V9C<?xlmZ;m6ggrR"⟩
def sA:aA.Fn:=⟨1,[.t 2],gD [kc] [qo 8 (.SW 9 (.c (.str [115,108,105,99,101,115,46,77,97,120,58,32,101,109,112,116,121,32,108,105,115,116])))] "*+=P91>kHuaTWVBn4IaSkBgf;n65C.NAuPbjISd[V9C<?xlmZ;m6ggrR"⟩
attribute [local irreducible] eJ kU
def ow:aA.Fn:=⟨3,[.t 6,.t 7,.t 8],gD [eJ] [] "=+]i67lHZ<HQF@;W;cB(iV9jcHUa`gTM1M<JBs0h6*gG?@xv.ayfZBj:YEu?+s@oJ?S^A*[khDW+mHw(JP+3t101fgnqCUla<rtG.)p;u:eiZd;1m.j5jRH(GCl)g.4<AYm<0^ZuEY>[h**Rt]Kn`M)^I5cvP<a0[R1XJ[M4sPwlG6ANt3F29>fnBW5PEyCkpYL;Bq+R.2`smfSI)Vn2SU([n4(Ofte82_]=uMLr3b"⟩
def o7:aA.cc:=gD [kU] [] ".ma**4N@*fG@=xJk,k]xcc(zD9m3:6>ZQX*Z*:J`yph?m;l3nKgg:O.+9P)Kv;N+YnH"
attribute [local irreducible] o7
def ou:aA.Fn:=⟨4,[.t 8,.t 9,.c 10 false 1],gD [.Qs (.c (.fn 189 [] [])) [.t 10] o7,kS,.cC [0,1000002]] [] "3JNO0xK2fZtM]hq,@B.i?n;3M>f4fZ[5A`H:HOM6qI2oBveayLcDk=LB.X9uvYDUTZC2Uv6H+,]_COg+)GWfCf0GXK;,3pMK^4N(Y[6*kFwL.hcJ0h0x_`E="⟩
def MQ:ux:=⟨[(7,[6,7]),(6,[2,6,7,8]),(5,[6,7]),(4,[2,6,7,8,21]),(3,[2,6,7,8]),(2,[2,3,6,7,8,16]),(1,[2,3,6,7,8]),(0,[2,3,4,6,7])],[],[],[6,7,8],[6,8],[],[],[(0,[0])],[],[],[(7,some 2)]⟩
def Ic:ux:=⟨[(30,[8,9,10]),(29,[3,4,8,9,10,15,51,52,53]),(28,[3,4,8,9,10,15,51,52,53]),(27,[3,4,8,9,10,15,16,51,52,53,99]),(26,[3,4,8,9,10,15,16,17,18,51,52,53,60,61,62]),(25,[3,4,8,9,10,15,16,17,18,51,52,53,60,61,62]),(24,[3,4,8,9,10,15,16,17,18,19,21,51,52,53,60,61,62]),(23,[3,4,8,9,10,15,16,17,18,19,21,51,52,53,60,61,62,86]),(22,[3,4,8,9,10,15,16,17,18,19,21,51,52,53,60,61,62]),(21,[3,4,8,9,10,15,16,17,18,19,20,51,52,53,60,61,62]),(20,[3,4,8,9,10,15,16,17,18,51,52,53,60,61,62,63]),(19,[3,4,8,9,10,15,16,17,18,51,52,53,60,61,62]),(18,[3,4,8,9,10,15,16,17,18,51,52,53]),(17,[3,4,8,9,10,15,16,17,51,52,53]),(16,[3,4,8,9,10,15,51,52,53,54]),(15,[3,4,8,9,10,15,51,52,53]),(14,[1,3,4,8,9,10,15]),(13,[1,2,3,4,8,9,10]),(12,[1,2,3,4,8,9,10,32,33,34]),(11,[8,9,10]),(10,[1,2,3,4,8,9,10,14,32,33,34,44]),(9,[1,2,3,4,8,9,10,14,32,33,34]),(8,[1,2,3,4,8,9,10,13,32,33,34]),(7,[1,2,3,4,8,9,10,32,33,34,35]),(6,[1,2,3,4,8,9,10,32,33,34]),(5,[8,9,10]),(4,[1,2,3,4,8,9,10,31]),(3,[8,9,10]),(2,[1,2,3,4,8,9,10,11,27]),(1,[1,2,3,4,8,9,10,11]),(0,[1,2,3,4,8,9,10])],[(4,[3,4,8,9,10,15,16,17,18,51,52,53,60,61,62]),(2,[3,4,8,9,10,15,51,52,53]),(0,[1,2,3,4,8,9,10,32,33,34])],[0],[8,9,10,13,17,20],[13,17,20],[],[],[(0,[0,1000002])],[],[],[(14,some 3)]⟩
def Ec:ux:=an7 [(5,[4]),(4,[]),(3,[4,5,6]),(2,[4,5,11]),(1,[4,9]),(0,[1,2,4])] [(0,[4])] [] [4,5] [5] [] [1002]
def tF2:List (Nat×ux×aA.Fn):=[A3 [] 140 ow [] [10,15] [10,15] [] [],A0 141 tK,A0 142 nJ,A0 143 lJ,A2 [] 144 jy [] [2,5],(145,MQ,ui),(146,Ic,ou),A0 147 lL,A0 148 ri,A3 [] 149 tt [] [6] [6] [] [],A3 [] 150 uL [] [3,4] [3,4] [] [],A3 [] 151 uK [] [2] [2] [] [],A3 [] 166 nS [] [4,5] [4,5] [] [],A2 [] 167 sw [] [3],A0 168 mM,A3 [] 169 yy [] [4,6] [4,6] [] [],A2 [] 170 nN [] [2],A0 171 jM,A0 172 vS,A0 173 vT,A0 174 ni,A0 175 nU,A0 176 mf,A0 177 mR,A0 178 tL,A3 [] 179 mT [] [5] [5] [] [],A0 180 gr,A0 181 nj,A0 182 rB,A0 183 vG,A0 184 yz,A0 185 zh,A3 [] 186 eU [] [4,6] [6] [] [],A0 187 lK,A0 188 tH,A4 [0,3,2,5,6,4,1,7] 189 qH [] [0,3] [3] [] [] [] [] [] [(2,some 1)],A4 [] 190 mI [] [4,12] [4] [(1,[(0,1),(1,1)]),(1004,[(0,1),(1,1)]),(8011,[(0,1),(1,1)]),(8013,[(0,1)]),(10001,[(0,1),(1,1)])] [] [] [] [] [(7,some 2)],A0 191 xL,A0 192 o4,A4 [] 193 wO [] [6,8] [8] [] [] [] [] [] [(4,some 5)],A0 194 rm,A0 195 nQ,A2 [] 196 oX [] [3],A0 197 rA,A0 198 mP,A3 [] 199 sC [] [4] [4] [] [],A3 [0,1,4,3,6,5,2,7,8,9,10,11,12] 200 sD [] [4] [4] [] [],A0 201 v8,A3 [] 202 lN [] [4] [4] [] [],(203,Ec,oW),A4 [] 204 sB [] [] [] [] [] [] [] [] [(2,some 1)],A4 [] 205 sA [] [] [] [] [] [] [] [] [(2,some 1)],A0 212 uT,A0 213 vx,A0 214 rz,A0 215 wg,A0 216 tI,A0 217 wN,A0 218 o5]
theorem kF2:(tF2.map λp=>chk p)=tF2.map λp=>some p.2.2:=by kernel_rfl
end Go.Proofs.YtanhdobabijmoaaGreatDoor
