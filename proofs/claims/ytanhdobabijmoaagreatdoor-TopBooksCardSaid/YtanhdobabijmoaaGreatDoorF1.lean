import Derived.Test.YtanhdobabijmoaaGreatDoorIds
set_option linter.all false
set_option maxRecDepth 100000
namespace Go.Proofs.YtanhdobabijmoaaGreatDoor
open Go Go.aA
attribute [local irreducible] bf CK
def jx:aA.cc:=gC "*5=r65iqGIL5GX`IeaM6yQw[@@s@VG79wG04;o^AIBKMVZ]oTjpJA60hOCMMdG"
def uI:aA.Fn:=⟨3,[.t 6],gC "9ZebYh?yIfJnuZr2FDQzmeJHqCz6,"⟩
def dQ:aA.cc:=gC "5x.oBt;ZS65K6AidH@CUn^niXE0X0ZJ:RPnQiSQ@,+PgEgJ9=zDC+69gaL[gqA*,<ru[_BL29rju8e^2qog8N_e.9q_=g^Rt[gg3N<eXvkKB:2da^)ohQNkg0y"
def kn:aA.Fn:=⟨2,[.t 3,.t 4],gC "6E:((D(TO?bs?r]9E[bJKCP);M).;6"⟩
def nF:aA.Fn:=⟨2,[.t 4],gC "+D?B2Gagmvvou,SE0A7y,6S*V<qYY2D[`VcOxd`[B5JumIhHZUX@R8aw,I?5;Z=Gbv)YFY)[BZogVCvYDnquAaekqoYh.,DNFeb@)9a_"⟩
def mr:aA.Fn:=⟨1,[.t 2],gC "5eweuo4F3C1^O4y)t<q,db.9rv5[("⟩
def om:aA.cc:=gD [] [qo 35 (.bin .gtr (.t 34) (.c (.int .u8 (bf 57)))),qo 29 (.bin .lss (.t 28) (.c (.int .u8 (bf 48)))),qo 18 (.bin .leq (.t 17) (.c (.int .u8 (bf 122)))),qo 13 (.bin .geq (.t 12) (.c (.int .u8 (bf 97))))] "+T)k:>Kl:Mm=]kEwpnQEVJSIj]HWu]gHok6*030gcKp*J.kr0DD,KUOXPwGaIUEg3C;1vhiL+;0tm`tD3eOVQlH6s><I3GOEAg:s7RS@V1y[P=Fnf(2XP5;n;@L,C*JKe"
def BM:aA.Fn:=⟨2,[.t 4],gC "cyLXzr@*naMi8s1qc9NpP3C]_"⟩
def kq:aA.Fn:=⟨1,[.t 2],gC "TMJ*B6>nN>PNp*R"⟩
def mQ:aA.Fn:=⟨2,[.t 4],gC "jO>KlC72O7SVMr<S+T"⟩
def dD:aA.cc:=gC "+Y3gQOx@VE^Kvb4l;0b`6Ad;]Jp:wlQx`iR:EARd+2Yn3,@(cpdEF0^_5z2j[s7v2.AKAlUNhXD)Qe:)e,7U8h.u:t+Bfg^Rt[gg3N<eXvkKB:2da^)ohQNkg0y"
def ji:aA.Fn:=⟨2,[.t 3,.t 4],gC "6E:((D(TO?bs?r]9Eq9YN@`lUBil;6"⟩
def lH:aA.Fn:=⟨2,[.t 4],gC "=zQ::o@U)PD6Cl8jT0Y<3K>f<0r1U`D46*qCkuFqw_`]LES`F[]obWpuyc5217Q,H?nfx7eUhr62aQ;5dA*<zV.Jds>mFeb@)9a_"⟩
def jZ:aA.cc:=gD [] [qK 30 .add 28 29] "A7Ff*yTYe>Dt.5Jtv24z_Bsb=3WgocxLl*arAv;rx2u>+wMpJl7hEIc(vqM@qfF9Rd(iVY41S=<X6V40+_[5;L6alN=(T?MF"
def tF:aA.Fn:=⟨0,[.t 0],gD [] [qo 0 (.mv (.c .undef))] "7.E,358th]KKklGOKL0HhV2RQ_HhXfJ.*v_N)CX[3GEP>A2ZuSednbKVr),v4c:xU(1fLVG6@ha?C1p)e:xBpNx5E`H9[SYa)@4LsIWvAMt7`hLa?jj3pTaom1u@=Ho`O1T2L=`7hOT]lRPN6YZz;N..@OsDvoy_u;QIML[NKISH]kVmHVYpn5F@>CnzEg0PGN:rY0XqBjaG*B=Ip0c<[1+ZtXGabyKT)*9j^zv:6YlNO==+dZdPYBwz4kn+;<>]qast>hY]HcDoEus)]D*dhCd7PU3vUWsidSXnrXONT3NYcTa,R`p)Iz^Dg]n.n=N@`"⟩
def tf:aA.Fn:=⟨2,[],gD [] [qo 8 (.SW 116 (.t 7))] "K,oCWz(@kgG27Hw2??ixiE3i"⟩
def oo:aA.Fn:=⟨1,[.t 2],gD [] [qo 20 (.call false (.c (.fn 108 [] [])) [.t 19,.c (.int .i64 (CK 999999999)),.c (.int .i64 (bf 999999999))])] "@Aj?,B92Z[Bz33oR7tAa[+d=g^ts9JkSxedAMDA,25^95n5AJa:k]T:YefJxZ2k^]M:[r_g"⟩
def lI:aA.Fn:=⟨1,[.t 2],gC "TMJ*B6>nN>PNp*R"⟩
def mc:aA.Fn:=⟨2,[.t 4],gC "CkvhRl3*xwurw7KkJCH_"⟩
def zc:aA.Fn:=⟨2,[.t 3],gC "yMlWh=4h;2U3CGQXkrS"⟩
def dS:aA.Fn:=⟨2,[.t 4],gC ",GqFusM<5qu*0V:PJ^TVHdJA];rQ+sI>SlH`ls"⟩
def gA:aA.cc:=gC "*8Y5O*@pt2qX9qg4YdA^z5_6l,6tXkYAI0CJXLgNEi8FLD^AERNq5h33XASggj>O2Pw3@G3P[Z]7QVmdbP.5o2y]kkzfAoZVW<.IdLYdF3*5q]EqLs3rox,2aqz"
def oU:aA.Fn:=⟨1,[.t 2],gD [] [qn 16 .leq 15 (bf 10000000000),qo 5 (.bin .leq (.c (.int .i64 (CK 10000000000))) (.t 4))] "1_q<MzFtP@laxne<VrszG*+OpRPwG14Yy;Tgm<xes`X>>"⟩
def jt:aA.Fn:=⟨3,[],gD [] [qo 14 (.eqv true [some .i64,some .i64,some .i64,some .i64] false (.t 12) (.t 13))] "K;5+Xep<)vm+b7_joeLuVL*@;`lreyqi:g1=qRq+I6.BZEX[:0k2Mszy=W*s[k9]Pkw,hm(iL1Fhr<l(,Ybm+(>2c.rx9>Yqldu_5:<<Us@Sui]YuS;taN"⟩
def fZ:aA.cc:=gD [] [qm 6 39] ".@rNjLS+r_q6;`_m^Ulu^+FJ5+HZdtG);i*.[Pg2*WH1V6?9FBe6MNV4^Q;[`xC_stmeK4[.dOp`Vg2?cU7*31oA<>2l=6j"
def kQ:aA.Fn:=⟨3,[],gC ")2Q@UIn*K^:TRtO0W3:NIpIiXWPhz3yWubI](sTGlhA5^Id=[*,z_)rEqJP4>(f8DPvBzIyL)+GyL@k5WAc7VX.;pCGgiBtwTIlfZ0I1e=1b7REf8PyIzok)NNm?l3hKPa*te;=t[s=zE2kZ@VlC4WT=PYPlG7e=N4,iYYhGyt"⟩
def ka:aA.Fn:=⟨3,[],gC "O2>yNw@Xs,83WXpq*L7Ph<uQu)ZZpB)w>RMEwzUH_[N;GLXW<i3L3Vk)4O)L(b(*=)nxQdGNl)Z0vzKma7ll:ub>@9Q4oI4lqU64,30PV0c^A+36y^cTZxxtp@MdwCb@>Xyc^fKv,BbKx3kMW0DRK4uOs)"⟩
def ju:aA.Fn:=⟨3,[],gD [] [⟨none,none,true,.st [(0,4),(10,4)] 1 (.t 75) (.t 65)⟩,qO 69 (.SU false 1 (.t 68)),qO 65 (.RF [] 4 56 (.t 61) (.t 64)),qo 40 (.VU false 1 (.t 4)),qx 4 1] "+fHIzRHOmpeG><8O8FNv@Ma)w>kZOW;,orRh)+^OSpYkAH_0@SadcTgNAoGTN*YlZ0Gls5pycgWMpj1[>uDT6*S[bUnqNBW7uyYlE+PsVlk0*Pmc<cdiwQlsd(Gcs4`fx[n:exPkX^44vmkNS^*r4ukeaofCzDR=6dkbZ(SrvcXqijABiwVH7XHcYVke9aqp(m>XA>Bwq[9AC^o=Y(VlYp@yGBJg6ZFgl@]WK4*Z"⟩
def eT:aA.cc:=gD [] [⟨none,none,false,.st [(0,1),(1,1)] 1 (.t 45) (.t 44)⟩] ")]_4nvXC`U=_sKRp9WQXbY+VccumF:YiUFoMmsh.Jrl;HQ>2?n_rR?<vQxpP9BN9IHx^0jhZrAGtjTO=FK^J2m3U4Axq;Pehxb*5ddz"
def j6:aA.Fn:=⟨3,[],gD [] [qO 55 (.SR .u8 (.t 54))] ".;2Ag+WbfPA1(xQ[r=:nNy^X:GE[iylWZBg3Z0=LC8g<^Q>FoMCHZXQ^Llt_7lKmbB:MeHg.`ibtIwO^aTEHR@_W.ghHw>a249M3>^k+V^Q+VGmfM0:M31dY=sI29j42FsYu*kWwpyF.j*ih?_1wjVAOFA6;t>[fXIK>Vw,?wQoyRXp2`2Bt1d_EoV5HcBf3[,6)O+CqF)xrU>=,W1MAgG0^ZLZ16VM9d;=U<N@0F0RQa?T(FDKn90:8za5r2ka?=b?*`"⟩
def j4:aA.Fn:=⟨3,[],gD [] [qo 19 (.me (.s2a 3 1) [.t 18]),qo 10 (.me (.s2a 3 1) [.t 9])] "2y_`4eu_O_zB:iSn8bP`K^3Jbqmave3kKMtlwB^TrYU4NI(<TT:WwS_.Z;BSx5"⟩
def fX:aA.cc:=gC "*ULhEoUywOpsRL+1Qv5`0SEQBj2WR8)MYbJ(nO4yJ)qWcKUvbLEZLSKw2_g5p9A`I(_NX185xvajc.smkiXugx=W`Nu[wJRV+"
def ga:aA.cc:=gD [] [qn 64 .quo 63 (bf 1000)] "0O><v14xdJ2>Qq`hTt:rAh]X2ERhDE4vUh[E<.tVdmmn,if>P[jO+J70>k]SPU@kM1Fb727w*.XH.9m.l..*z+M@GEit;uFXws8YiVjEts:L["
def gb:aA.cc:=gC ")AHCp+ysAoTOMb7PRqbvk06FJ[4^;8oUJZr[w0F+K0I8RUb.hCAD;9Hfr?_Ff.*GiS;f^QKvTBw3kf.0D(])12Mc:xod]WB0L`W8OlS)=NXLo0)V0j6]X^2JTz0h34"
def j5:aA.Fn:=⟨3,[],gD [] [qO 31 (.SR .u8 (.t 30)),qx 5 2] "s0BBsthDOu=Au5`osMJf;bXD6V[YOvRiaVRbt<nC@zvvV3:`UHP*^2?Czwz`AWk3_nh9pG6AZ0GyxWFv><<e2yJrY*.hSJu)9uC+)qwRm>i+HWqXNRmsh1]tH9vaJ)8)3U5)m?fc*yaz_S8,n6c5Jm[RA)f>sx:hGslkU`oKT(.cbx[[FJ0Nm<JsXnxx[=D1FKRGYh;x+:aJMz@6)TNA0jiQ_mwYkADEhDO^?*_y;d(78iDxEHG?KRDhW90*ly(sRvg*);vNw<J9y^q"⟩
def gG:aA.cc:=gC ")LtVr>]CwsM@:<DV48N1YnVYsnZRl>kzeLr]wVnZd*uBtnKt[L]W)q0oz?^],qQDtTXZXh1RvQ+"
def fY:aA.cc:=gD [] [qn 163 .add 88 (bf 1),qN 118 .sub 117 (bf 1)] "4TIrCSWLPq)C13le=6?Xs1WOe.vQO:m+BwaOv^uQOW]7s[L]O::[:wRXXbC^*oID0loXj<fv)h4(VK35pI;E8`qyoiAF3pO:Np]Feh6h.Q(5eFAt1vD2nqDYs=GRzUtxc8OTv`wE[W36w7ol_,.7W;=@ryeNvo4=xCVua>,ZXikzUq_(l>;ApajPHRfZt0KAsfdoY0,w7eKW=Cf:5jM9iBZ0UiuhWE]zweZ^w_IlP0e1^zgklWscY6F5nZhOMIt^ET^r<_xk*35=Xa?56._wVPhzW*d6=Q=?J<)v?_lk4Jo`52UiH57_8P*b8bOVhg(Zt?bx]nOJ:zd,4G9vZwP.iMXyXF7uc>dOr7`pLQ6H[SBSbYH"
def so:aA.Fn:=⟨3,[.t 6],gC "9ZebYh?yIfJnuZr2FDQzmeJHqCz6,"⟩
def ek:aA.Fn:=⟨2,[.t 4],gC "6QXN@eXZZ.D(mTwi*D6Vb)fLyNH@QYTJ.U[vkan0UmV@"⟩
def oS:aA.Fn:=⟨1,[.t 2],gC "_JmM_d<cA(TLopYnR"⟩
def rO:aA.Fn:=⟨1,[],gC ").JKY;O<Y,h6x.q_"⟩
def po:aA.Fn:=⟨1,[.t 2],gC ")[wFrTQ8AF5LJ2K1dag>b,`Ic]"⟩
def tJ:aA.Fn:=⟨1,[.t 2],gC "El+I0g2]<XjPzf+Qk9j6h_I=<;wXJbz^c]"⟩
def fG:aA.Fn:=⟨1,[.t 2],gD [] [qo 5 (.RJ 0 3 [] [])] ":]D9w>,g0.go5d<+Rs;YQC[@eF5QR"⟩
def kI:aA.Fn:=⟨2,[.t 4],gC "bDeLFzXpiAd]<,Ie9_CH_"⟩
def kr:aA.Fn:=⟨2,[.t 3],gC "NyhFohAo5A5)8J6,P75IgT<^"⟩
def uP:aA.Fn:=⟨2,[.t 4,.t 5],gC "b[r?jk(oaz=)8+g2[+=oH>HTGasVfyLEB]JozIqqDU[mZoC]zX>[;ZC`oFG7ihm=q?eRJBm,b;[4rK"⟩
def lF:aA.Fn:=⟨2,[.t 4],gC "+.Lt@b8Lpv4c3cHYoLQ:^y+.4)EMDZk0?TDD)O1a6"⟩
def fk:aA.cc:=gD [] [⟨none,none,true,.st [] 1 (.t 51) (.c (.bool false))⟩] "D`jyxJ(i*sPYBicUVs1G*P6grld+fzwpv*1HG)=+BA6;.+tCANuNq;knGf?xyKYSd2auv?(*P^>0aRPD^r;6tXL>[^v0SE8*]=EWZ:kKX0onfFV,vl8l@JDwe1dSNRg1W5SzWb8XrF4U9j:x3ec^7d*=G>olHdJwQNb[v=`[SoPJ3RJ=xm=m8pkdCcg1>y8WvlaE4[X*y()`.]4)L<vh9ne"
def mC:aA.Fn:=⟨3,[.t 4],gC ",B=9t+SnheJ8ba4ND0Hrl.<G1^ZNkI)aAQr<h1F;RgY93TtOP,f;(cLW)i"⟩
def zb:aA.Fn:=⟨3,[.t 6,.t 7],gC "*Lh:og>CF9Fn(Z+?Si2jtTA9nXJzS?XsBoWXtS_?SVdtg*MLn3P:kGtHnctM+*bWWdWAG74(kb;:?C6Fs9j@FoL8y?eZFqv0M7W"⟩
attribute [local irreducible] jx dQ om dD jZ gA fZ eT fX ga gb gG fY fk
def eV:aA.Fn:=⟨1,[.v 2 true 4,.t 3,.t 4],gD [jx] [qk 66 .rem 63 65,qO 17 (.mp (.get none (.agg [.bool false,.int .i64 (bf 0),.int .i64 (bf 0),.se]) true) [.t 13,.t 16]),qo 13 (.call true (.c (.fn 71 [] [])) [])] "qv:aS)Lp4?9IctD]zP3mDNO[3Z1Ji7Nv5CNRIsy6(yRNw)M?gp@+^=Hax@v<Mhfo,nW<.Q?b:,phV6*45fj[gPH+Vl`CHEzETO[1FG1jCr([Ax`l(fZixkS3xdX2mCb)pZ[1DJw>jKfB`D*i^0lGaos`IiAb5*6tvWTTzLJHwW<hyuXtRwlb)?F2Cz8vX`z?RC@:KqwBk6L8c5,(F@UxPLK(jg`SbrpJ*"⟩
def jj:aA.Fn:=⟨2,[.t 4],gD [dQ] [] "3FpxZhP)ddA9SKdfZ`p+mlBHcCC`*M66"⟩
def vW:aA.Fn:=⟨1,[.t 2],gD [om] [] "GkPJv(rBBBrSs5A;E<]`Io0l+==Gs(g@6=XK84"⟩
def gB:aA.Fn:=⟨2,[.t 4],gD [dD] [] "3FpxZhP)ddA9SKdfZ`p+mlBHcCC`*M66"⟩
def sn:aA.Fn:=⟨2,[.t 4],gD [jZ] [] "0_9vKr*BPU3(X0dhAEy8[:36POR6RxgJp0EBJ"⟩
def oT:aA.Fn:=⟨4,[.t 8],gD [gA] [qb 8 true,qi 9 (CK 1)] ")Xqga^m*++DOR2y()gOnY>l+W9.XMw2[2t3C8xT8z?n?6@8a,4+L4llZSXorq5De;JfWZX7Kp5aG;p4(qN8*8uN4yibLclQ?b"⟩
def jw:aA.Fn:=⟨3,[],gD [fZ] [] "0xp)=hVc.09tCGr:KFgOvJbN@E^>QGOwbz71Mqu0v(;NLj3Ml)mdrwNSnQWLJ34_+Z3l2QGBVI"⟩
def kR:aA.Fn:=⟨3,[],gD [.cC [1000006],eT] [⟨none,none,false,.st [(2,1),(3,1)] 6 (.t 6) (.t 28)⟩] "LATkQr6m;)Eb@s;8w*fbFI6hVihI*S.c3g3dGVQFMX=FL6vSn6cIMQ?6J>T<[zT@)lCoL7Rbjm*DoyS2_VqyQ_@e3x2UKcum0T@cr5]Xv@2BJyt2gsYgV_kQmJ9t;aiorL6qK,DOiGz5wU314WRl@9Mzjt2H0Yw2+ivT[rQ[.yNH"⟩
def jv:aA.Fn:=⟨3,[],gD [.cC [6,1000006],fX] [] "R34Az.Cx7+InF=C3?wRZ6wVlJIxPoEaa_Sa>gx(Qi`X8BL9[KCe^b(;A65txs[lzH8sax>,3lx8dsF.39>pYX2vASBx65BxUHag0NBA<`;Jk43pH_=sy;E*H,86Q0gHEzdlIfS7*s_9caenYu[*^jtXe"⟩
def j8:aA.Fn:=⟨3,[],gD [gb,ga] [qo 47 (.Hc 3 1 (.t 46) (.t 43))] "3zQ,f2q<F6HJg[>iy95E9Tu4AUR1TX4L^ZIFVmbDT>or2Oz6kJdc3KKEMYD=j2<yOeuPjKWg<RL8ASkX]LixSXeC^HD_Ni^ZvRE*h`b)j1icvPVy7<7n1Vb]Vh?>z6SL[l9AtbYjrd582V]z9T;IL7Rb0muFuEWCrP<?=;FxsmuX=VRTFiZ]KRWf=+L6Kg,6_S"⟩
def j9:aA.Fn:=⟨3,[],gD [.cC [6,1000006],gG] [] "9:24j`XI]Ags*jgL4WeZ5uJnvfr)GInTaf:HU_GO(^[G:`)ez8ZDm@dN*D*_jd0WS)h33Xy@^zzH8y[yjyyBu<Rxg*Wd<di5V>PGDGQ)_.ITF.R57w2Z"⟩
def j7:aA.Fn:=⟨3,[],gD [fY] [] "*9=9XFgl@GQvV]K:O(gzO]_>m+pAhLuGwyh@KY`7]2fK:qFYqD9lwmc:cPX>=?FVh160WyK,zCD_h5zD)wHV)_Im31*u<F,Kz9c@?9Re<(*PVcuhn>F2+Q,OIbAUWRMIcecPaEc9su.BasHs0^iP_h6oIwkU8y2_wwk)rrvd>rnuvqRHc8i]d.[fZ:DJnG;nQ`Ic*54STL2An>s`74<K>WudjzAIC,^d^7QxcH9*C13Qjp*;K*Vx).17uVDc<oaxx5jCfb^hUh>;@7?1cpf[y@uGUi1;X;d)8D66^mAg2[yJR1cy9ZT>[cTV:jML1_,E)IAosjFd^X*X2?_3s@2?bLG)>J95=n0^1YAY<"⟩
def lM:aA.Fn:=⟨3,[],gD [fk] [qx 4 1] "EuoY2Tq)G83TloYf3^PLRUcI*UdmikQ"⟩
def tF1:List (Nat×ux×aA.Fn):=[A4 [] 51 eV [] [2,4] [2] [] [2000] [] [14] [] [(3,some 1),(6,some 3),(11,some 2),(14,some 18)],A0 52 uI,A3 [] 53 jj [] [7] [7] [] [],A0 54 kn,A0 55 nF,A0 60 mr,A0 61 vW,A0 62 BM,A0 63 kq,A0 64 mQ,A3 [] 67 gB [] [7] [7] [] [],A0 68 ji,A0 69 lH,A0 70 sn,A0 71 tF,A4 [] 72 tf [] [] [] [] [] [] [] [] [(1,some 3)],A4 [] 73 oo [] [] [] [] [] [] [] [] [(2,some 12)],A0 74 lI,A0 81 mc,A0 82 zc,A0 83 dS,A0 93 oT,A0 94 oU,A4 [] 95 jt [] [0,6] [6] [] [] [] [] [] [(0,some 8),(2,some 8)],A4 [] 96 jw [] [0,6] [] [] [] [(5,[6])] [] [] [(0,some 8),(5,some 2)],A4 [] 97 kQ [] [0,6] [6] [] [] [] [] [] [(0,some 25),(3,some 2)],A4 [] 98 ka [] [0,6] [6] [] [2002] [(3,[6])] [29,32,35] [] [(0,some 13),(3,some 2)],A4 [] 99 ju [] [0,6] [6] [(7021,[(0,4),(10,4)]),(7024,[(0,4)])] [3007014] [] [4] [(7010,some [])] [(1,some 13),(2,some 8),(3,some 7),(6,some 1)],A4 [] 100 kR [] [6] [] [(2013,[(2,1),(3,1)]),(7006,[(0,1),(1,1)]),(8006,[(0,1)])] [] [(10,[1000006])] [] [] [(1,some 7),(10,some 9)],A4 [] 101 j6 [] [0,6] [6] [(5012,[(0,10)])] [] [] [] [] [(0,some 7),(1,some 4),(4,some 1)],A4 [] 102 j4 [] [0] [] [] [] [] [] [] [(1,some 1)],A4 [] 103 jv [] [0,6] [6] [(1008,[(1,4)]),(4019,[(0,4)]),(7012,[(0,2)])] [] [(5,[6,1000006])] [] [] [(0,some 7),(6,some 1)],A4 [] 104 j8 [] [0,8,13,14] [13,14] [] [14005] [(15,[11])] [] [] [(1,some 3),(2,some 7),(3,some 10),(9,some 2),(19,some 1)],A4 [] 105 j5 [] [7] [] [] [] [] [] [] [(2,some 3),(3,some 4),(6,some 1)],A4 [] 106 j9 [] [0,6] [6] [(1005,[(1,2)]),(5012,[(0,2)]),(7012,[(0,2)])] [] [(6,[6,1000006]),(6,[6])] [] [] [(0,some 7),(6,some 2)],A4 [] 107 j7 [] [0,11,13,14,16,17,18,20] [13,14,16,17,18,20] [(18029,[(0,6)])] [] [(17,[11])] [] [] [(1,some 12),(3,some 37),(9,some 1),(12,some 1),(14,some 1)],A0 108 so,A0 118 ek,A0 128 oS,A4 [] 129 rO [] [] [] [] [] [] [] [] [(0,some 3)],A0 130 po,A4 [] 131 tJ [] [] [] [] [] [(0,[0])] [] [] [],A2 [] 132 fG [] [2,5],A0 133 kI,A0 134 kr,A4 [] 135 uP [] [6] [6] [] [] [(0,[0])] [] [] [],A0 136 lF,A3 [] 137 lM [] [7] [7] [] [],A0 138 mC,A0 139 zb]
theorem kF1:(tF1.map λp=>chk p)=tF1.map λp=>some p.2.2:=by kernel_rfl
end Go.Proofs.YtanhdobabijmoaaGreatDoor
