import Derived.Test.YtanhdobabijmoaaGreatDoorIds
set_option linter.all false
set_option maxRecDepth 100000
namespace Go.Proofs.YtanhdobabijmoaaGreatDoor
open Go Go.aA
attribute [local irreducible] bf CK
def iN:aA.cc:=gD [] [qo 21 (.LF true 4 2 (.t 17) (.t 18))] "8AwckN,nV.wjJDW<_^(oQss3HUn.2rb]Gy+I7cnA@5KoV,F1FYdC29zWGlc:m.r()*A5>5VdwNquxZNffj7F"
def pc:aA.Fn:=⟨2,[.t 4],gC "EpslMa,[WC?B<4,0PSKx:zx[QJML6"⟩
def pk:aA.Fn:=⟨2,[.t 4],gC "EpslMa,[WC?B<4,0QA9>*7p2P6ML6"⟩
def gq:aA.Fn:=⟨2,[.t 4],gC "bDeLFzXpiQW0mz1WETCH_"⟩
def ll:aA.Fn:=⟨2,[.t 3],gC ".4RyGauA;P@b9PRFdv8rkrS"⟩
def xN:aA.Fn:=⟨2,[.t 4],gC ".ckp.7cVjnbx29`Id+?HTamT@gpGCf=M)d36?INtk:2wITQ2:iFDx?Ka16_Tp4B@pnZyk?ai0cO_yVkJQ+)4_"⟩
def fO:aA.Fn:=⟨2,[.t 4],gC "bDeLFzXpiQf_C>8^]_CH_"⟩
def kB:aA.Fn:=⟨2,[.t 3],gC ";2GuW[gxIYet,kri7?hkrS"⟩
def kz:aA.Fn:=⟨1,[.t 2],gC ";mi6wHkkif6wFVjzzD+CJw7I3<(Ub68^^+p=(G`_S[("⟩
def mS:aA.Fn:=⟨1,[.t 2],gC "jvGdr:cO0+C4M=fX41SCUL4)L)_JYx.GlwMt*fku(A)[("⟩
def l7:aA.cc:=gC "8Br4?bQGT@d<VG_Jo[>;uCn.igh3]F3;qFwjR1Sv<fS8o49P<>bLoDeGjJxwZ"
def lq:aA.Fn:=⟨2,[.t 3],gC ";2GuW[gxIZ9xmR(3,`)krS"⟩
def tW:aA.Fn:=⟨2,[.t 3],gC "yMlWh=4h;2U3CGQXkrS"⟩
def rq:aA.Fn:=⟨2,[.t 4],gC "bDeLFzXpiR2j?iFk:sCH_"⟩
def wP:aA.Fn:=⟨2,[.t 3],gC "yMlWh=4h;2U3CGQXkrS"⟩
def su:aA.Fn:=⟨2,[.t 4],gC ",M.7Rm2Tv[,gcKY**@)y^HJl*9ysXIAnhABDG3+,Q6?p)7iJOT3GP9wfRuE,U7`qUa?paYV_"⟩
def iP:aA.cc:=gD [] [qo 26 (.mp .ent [.t 23])] "tzp=kPjrSO>.5Q^[4oWI<FYw1)jdo.=2,<>Nz)LtvyZR^_dL[Vh`>r1ZZT0(U.LvI?yRRiF+(Mf?4rR>kjq*A:Fb0>=z"
def gJ:aA.cc:=gD [] [qO 80 (.mn (.t 73) (.t 79)),qN 79 .quo 78 (bf 8)] "ZwXboU>KT4Hm<sZ.FZAW;CryauhHAi5?1Es=hXyq3(d5zJ85y<n*grVClczKk33=9FIu(egm;BS@]D3sYk7,PZ^7_,P.0jr2=KRV*9<myu.6>:@m^zWVRt_z6(U^KAVvDcPDgc?E:L4*IpJurmBad?K1+Z)c@HDgzk@0*x3LF=bp)2:42^+2`3jsnN>8k[+:qTUdasN:sYGuS(hHF]F4yZt["
def gK:aA.cc:=gC "3Pd6lk?=r6DtXrE(RtkP;9z93Mw?dmtLU<_`G`>v,T?o[]KLy^P^ihgh8^eq)7bSxl.q.ov]"
def uQ:aA.Fn:=⟨2,[.t 4],gC "cyLXzr@*ndsnj*WEpH6_`Sl]_"⟩
def uS:aA.Fn:=⟨2,[.t 3],gC ")(tudD@+Dobvvcnx<?]M:8P4duW==75S"⟩
def fm:aA.cc:=gC "hwRLT=)STQeIMaCMAP6Ca1:@vhYl7*KU5hl8]?Rdynuyd8Q0sbU20aqx:i0i=6hkLg]U<G51_a`B(,F<g(yy=,cZb]2qj,.FgI:Q"
def xM:aA.Fn:=⟨0,[.v 0 true 5],gC "6_LJQtPz8z*P:00nlQ44k.BRewxGq0"⟩
def uN:aA.Fn:=⟨3,[.t 6],gC "9ZebYh?yIfJnuZr2FDQzmeJHqCz6,"⟩
def uM:aA.Fn:=⟨2,[.t 4],gC "cyLXzr@*ne+?y85Q6`RW6HW]_"⟩
def mD:aA.Fn:=⟨2,[.t 3],gC "*;.xCP`H,UZCgbXWsRb8IqkNgQS35*7YH>MRvDBxoI?LGG^gpL2yBW;d7S"⟩
def nT:aA.Fn:=⟨2,[.t 4],gD [] [qk 38 .quo 30 37] ")ieZ?dR*z+N;+evg_tAM?Q0NoP7[si(GXbi4zgffVpf0e>(LMt?B]pjR_l8<HrS][m<ZZb8H?]=PlHmUgxe+D*q.F+MIajswBgZZ.]RsRORXJyaY79B0Mhs"⟩
def ti:aA.Fn:=⟨2,[.t 4],gC "cyLXzr@*ne0>CFqHwOCaLt.]_"⟩
def tG:aA.Fn:=⟨1,[.t 2],gC ",0TPKQuBf0H@dJp)Zg=B("⟩
def nR:aA.Fn:=⟨1,[.t 2],gC "FKHq*ySAUUX76z)nk::,2oXB`Ic]"⟩
def rj:aA.Fn:=⟨2,[.t 4],gD [] [qo 3 (.JD (.t 1))] "7Jj=U,2,d,2*)5IqQSW?WT"⟩
def nv:aA.Fn:=⟨2,[.t 4],gC "bDeLFzXpiUueCC;N@TCH_"⟩
def uk:aA.Fn:=⟨2,[.t 3],gC ";2GuW[gxIZLR;EV@RF^krS"⟩
def nu:aA.Fn:=⟨2,[.t 4],gC "bDeLFzXpiV3AjXBTW_CH_"⟩
def uR:aA.Fn:=⟨2,[.t 3],gC ";2GuW[gxIYxMM_MvZxIkrS"⟩
def Cu:aA.Fn:=⟨2,[.t 4],gC "cyLXzr@*ne6:zeEDDqQ@t3C]_"⟩
def pf:aA.Fn:=⟨2,[.t 4],gD [] [qo 19 (.Vv 1 (.t 7) (some (.t 12)) (some (.t 18)) none),qN 14 .add 13 (bf 1)] ">*dlO*UNEG77ADF]wO7Y@;[*+N@7.zA:zHF<nqN=M,:vz*hRatmJL+Uw9)i"⟩
def mH:aA.Fn:=⟨2,[.t 3],gD [] [qo 7 (.Hc 2 1 (.t 1) (.c (.int .i64 (bf 1)))),qo 5 (.Hc 2 1 (.t 1) (.c (.int .i64 (bf 0))))] ".JfoOD.qztG7X:>5BGV,XoM@5"⟩
def l6:aA.cc:=gC ")A+:3w9UNZMV.YOSFX*[[14*t^pR.DTKo*QI3DDQ2u_SMM?VD>5WEBoDeGjJxwZ"
def kX:aA.cc:=gC "8Br4?bQGT@d<VG_Jo[>;uCn.igh3]F37yRj6fL^aB.5ve[kEW:V8oDeGjJxwZ"
def kA:aA.Fn:=⟨1,[.t 2],gD [] [qo 4 (.call false (.c (.fn 178 [] [])) [.t 3,.c (.int .i64 (CK 20000)),.c (.int .i64 (bf 20000))])] "zrEEozTbg:7xR"⟩
def ru:aA.cc:=gC "=0SRFtz6cH@y.m:Ukl`]Wh3LHEam7k6:+N<UiQ4qQB=W1;gnni[oDeGjJxwZ"
def oZ:aA.Fn:=⟨1,[.t 2],gC ")4yr6ui@AFE9.r2>("⟩
def dw:aA.Fn:=⟨1,[.t 2],gD [] [qo 5 (.RJ 0 3 [] [])] ":]D9w>,g0.go5d<+Rs;YQC[@eF5QR"⟩
def gf:aA.cc:=gC ",bA+V778KLw9ZTJ^"
def cN:aA.cc:=gD [] [⟨none,none,false,.mp (.put (some (true,[some .i64,some .i64]))) [.t 72,.t 73,.t 80]⟩,qn 68 .quo 67 (bf 8),qn 61 .quo 60 (bf 1000),qK 34 .sub 28 33,qK 28 .sub 23 27] "@I7a3l9QXZ<sOSbX7[nDx(dGr)_Z<ciY8JFdU1[DQ?1)R:Wf<BSMR6H+I<q0ULFz:m]aSPuJN5vpQ837G_yq4mrPPYpxzpyf088vh37P[3@m`Z?<t`b]kVZxni,5>6yq;[v4OC]Bj?B2cknS0y8h<e(zTjQll*=AscO6R[>NKH]8?,0r+yd9xC1)bY+WLnf.H`g>dLP]jk5v]I0oar2ZQ)N`]qKepT=<k12:vo]zlEn*<]pk"
def rk:aA.Fn:=⟨3,[],gD [] [qx 4 1] "1We_xaxqueFL3rAlFWrfsmUxTpsVM`p=DW5z=MOGFfOhbw@.rF,JDf<qRB;VlC1+uq=raIB>vm6vD8)q5BtTmr"⟩
def rl:aA.Fn:=⟨2,[.v 4 true 3],gC "=1I00a5D_@m(F888mC9`+I@wYn,BpgDva`[y4dV3N2heoQ3XhNq"⟩
def sy:aA.Fn:=⟨2,[.v 4 true 3],gD [] [qK 19 .quo 16 18,qK 12 .quo 9 11] "1KK4XnxqQOK*c:Q1.?Fk:Ut[_pF5?ns);:P(n1[wSb_WxvH(`NL>fL(=Xq"⟩
def rp:aA.Fn:=⟨2,[.v 4 true 3],gC ");+Bmf7Qfj1:wDf9ZEw@_^>1:Kyela^RpYKFK_f>aY5Aq<7GNBEicq"⟩
def nP:aA.Fn:=⟨2,[.t 4],gC "9VePnG>UHh687ilIfoWNAAzFMrylX*?D5DQvsBBMj]Sweo*"⟩
def lZ:aA.Fn:=⟨2,[.t 4],gC "bDeLFzXpiWWn[b)6q_CH_"⟩
def tj:aA.Fn:=⟨2,[.t 3],gC ";2GuW[gxIYet,kri7?hkrS"⟩
def mJ:aA.Fn:=⟨2,[.t 4],gD [] [qK 15 .quo 5 14] ":Z.vK=mVw3sz=Ar^BSf:c+snGGZbrKH>:ZK_Ov[:@sC)i"⟩
def zf:aA.Fn:=⟨2,[.t 4],gD [] [qk 8 .quo 6 7] "+*kvnSR5kpxE1p(ypVW9[K;`p4Rl(A_0QfLz_j*.3CrxCT"⟩
def rn:aA.Fn:=⟨1,[.t 2],gC "AAPK]1_hERr^cl("⟩
def nM:aA.Fn:=⟨1,[.t 2],gD [] [qk 10 .quo 7 9] "8=Hw`@9@;rwoBDz0Rm1Z+y:sE55<,ggr[("⟩
def o8:aA.Fn:=⟨1,[.t 2],gC "*suk:>wYF:9:?zv("⟩
def mK:aA.Fn:=⟨2,[.t 4],gC "bDeLFzXpiWgK1w2=7iCH_"⟩
def tg:aA.Fn:=⟨2,[.t 3],gC ";2GuW[gxIYet,kri7?hkrS"⟩
def kV:aA.Fn:=⟨2,[.t 4],gC "bDeLFzXpiWuyX;9CNsCH_"⟩
def rP:aA.Fn:=⟨2,[.t 3],gC ";2GuW[gxIZ9xmR(3,`)krS"⟩
def gH:aA.cc:=gC "+Yld1)T<]EcRSveWoLn@7,HC9hTLj]7AI38r8?bRU0s)1rgmv:;yiNmrAbRcssVpk+Tp38;ZJvz6XD+cJFM?**F"
def nz:aA.cc:=gC "8Br4?bQGT@d<VG_Jo[>;uCn.igh3]F3=mA+ZqKx.c0bkJqI+Vih,oDeGjJxwZ"
def nw:aA.cc:=gC "8Br4?bQGT@d<VG_Jo[>;uCn.igh3]F39uLpy3h0khJDWAGzsre[koDeGjJxwZ"
def Am:aA.Fn:=⟨2,[.t 3],gC "yMlWh=4h;2U3CGQXkrS"⟩
def eI:aA.cc:=gC "0)Jt[4R`=h>m:G<LLLV)CrLp?xXSR]?oHATS;rKTHeeTA@js=1Mh6E2,xwZ"
def sr:aA.Fn:=⟨1,[.t 2],gC "9tFC54YMb_7YIQ,tHq"⟩
def pg:aA.Fn:=⟨2,[.t 4],gC "EpslMa,[WC?B<4,0PsBZ[XtFyiML6"⟩
def o9:aA.Fn:=⟨2,[.t 4],gC "EpslMa,[WC?B<4,0Qa.rLgknxTML6"⟩
def vw:aA.Fn:=⟨2,[.t 4],gC "cyLXzr@*neH1*mhWDnmZb7.]_"⟩
def o6:aA.Fn:=⟨1,[.t 2],gD [] [qo 14 (.call false (.c (.fn 215 [] [])) [.t 13,.c (.int .i64 (bf 0)),.c (.int .i64 (bf 1000000000000))]),qo 9 (.call false (.c (.fn 215 [] [])) [.t 8,.c (.int .i64 (bf 0)),.c (.int .i64 (bf 10000000000))])] "Peuex4.,(+x[`j0aV,cPsy*5EGJR]8Ht,6>LeKI*1dhnig"⟩
def l4:aA.cc:=gC "8Br4?bQGT@d<VG_Jo[>;uCn.igh3]F37yRj6fL^aB.5ve[kEW:V8oDeGjJxwZ"
def mN:aA.cc:=gC "8Br4?bQGT@d<VG_Jo[>;uCn.igh3]F37yRj6fL^aB.5ve[kEW:V8oDeGjJxwZ"
def kW:aA.cc:=gC "8Br4?bQGT@d<VG_Jo[>;uCn.igh3]F3;qFwjR1Sv<fS8o49P<>bLoDeGjJxwZ"
def iM:aA.cc:=gD [] [qk 35 .rem 33 34,qk 33 .quo 31 32,qk 20 .rem 18 19] "<Hu3@h^B>AMMbH^p8+P[>7sS(7>kN<:b2pTmto5*)<>Xk_p7_6MBuLq;+<UZ2`83Y6;@xvvCEvcg,Gpsc:6Zyo3Ql+@WSqIBQ4QFAEAveJa*a+KHVA_y^Gl+Lb.65UsQHJ0W;LMf79fiyXWTjYif(kYZ5d49@p:EpSD@Qv5SyX*>dd80]6ecq6iBemEWOK9]Ko"
def mL:aA.Fn:=⟨2,[.t 4],gC "bDeLFzXpiX`>Q?U][JCH_"⟩
def uj:aA.Fn:=⟨2,[.t 3],gC ";2GuW[gxIYxMM_MvZxIkrS"⟩
def mO:aA.cc:=gC "8Br4?bQGT@d<VG_Jo[>;uCn.igh3]F39uLpy3h0khJDWAGzsre[koDeGjJxwZ"
attribute [local irreducible] iN l7 iP gJ gK fm l6 kX ru gf cN gH nz nw eI l4 mN kW iM mO
def pa:aA.Fn:=⟨1,[.t 2],gD [iN] [qb 2 true,qo 13 (.JB [.int .i64 (bf 0),.int .i64 (bf 0)] [(0,1,.c (.int .i64 (bf 1000))),(1,1,.c (.int .i64 (bf 100000)))])] "CHx22b_]f)k9D1=dd>J;uP+h,;PH*WUSy_WXWRH?K7v9Z4i^>ikQ?lPZ6pcybjafjB.MU6QV>Y5?k]]zSzz)mrE_bBla6:nG_93H"⟩
def iV:aA.Fn:=⟨2,[.t 4],gD [l7] [] "1D`[f5<hEimQ>tOQrhi)V;+H<s"⟩
def eW:aA.cc:=gD [gK,gJ] [qa 105 11 3] "<[3;b==YX8]YTA4ecmn7LJvwoOH_OBrqgF2cuSwp:CFOh=MX6>SIGC6_zl0YPA58iwqy1+^5Q?IOFcgXP15m1R<rqJ)PhE3b"
def ku:aA.Fn:=⟨3,[.t 6],gD [fm] [qK 24 .sub 20 23] "JOu1pBL0Xq?s]QH@`mlj1G63SH_^62YGZhcTQHDqhL?X:__YJk6]CO8MH=hmJtIGgNfGh;foYLFQf@towIgl:S0N;T)Y]KlIsMQ][eCAV"⟩
def iU:aA.Fn:=⟨2,[.t 4],gD [l6] [] "1D`[f5<hEimQ>tOQrhi)V;+H<s"⟩
def iy:aA.Fn:=⟨2,[.t 4],gD [kX] [] "1D`[f5<hEimQ>tOQrhi)V;+H<s"⟩
def tn:aA.Fn:=⟨2,[.t 4],gD [ru] [] "1D`[f5<hEimQ>tOQrhi)V;+H<s"⟩
def nO:aA.Fn:=⟨2,[.t 4],gD [.LY [2,3,4,5,6] (.t 17) [18] gf cN] [ql 81 1 5,qo 4 (.mv (.c .undef))] ",VRZUXkh_+NH2OUI?bMEPj@9NJ0>:gn+9Ob[z5*RVg.90.+BneHKuc27PX:N(>u]pebBms*"⟩
def nL:aA.Fn:=⟨3,[],gD [gH] [] ";He9`r*1znQ6rO6z32f"⟩
def pT:aA.Fn:=⟨2,[.t 4],gD [nz] [] "1D`[f5<hEimQ>tOQrhi)V;+H<s"⟩
def pS:aA.Fn:=⟨2,[.t 4],gD [nw] [] "1D`[f5<hEimQ>tOQrhi)V;+H<s"⟩
def jN:aA.Fn:=⟨2,[.t 4],gD [eI] [] "0guV??L,jrK;WIIGdo^IqTjhvLBhPxl)i"⟩
def ov:aA.Fn:=⟨2,[.t 4],gD [l4] [] "1D`[f5<hEimQ>tOQrhi)V;+H<s"⟩
def oL:aA.Fn:=⟨2,[.t 4],gD [mN] [] "1D`[f5<hEimQ>tOQrhi)V;+H<s"⟩
def nA:aA.Fn:=⟨2,[.t 4],gD [kW] [] "1D`[f5<hEimQ>tOQrhi)V;+H<s"⟩
def oY:aA.Fn:=⟨2,[],gD [iM] [] ")77h^5II:(>zUVrie@m6<(;YS3]DCxt_@pMzXGkl:pQ"⟩
def oM:aA.Fn:=⟨2,[.t 4],gD [mO] [] "1D`[f5<hEimQ>tOQrhi)V;+H<s"⟩
attribute [local irreducible] eW
def pj:aA.Fn:=⟨3,[.t 6,.t 7,.t 8],gD [.iu [1,2,3,9,23] (.t 23) 24 25 0 iP eW] [qo 23 (.mp .rng [.t 22])] ".?Z3<]Z(e*DJq7=rQWhNErJzVCGRi6?*9j?B1n8JPk=_[Q"⟩
def Ed:ux:=an7 [(26,[6,7,8]),(25,[6,7,8]),(24,[9,12,108]),(23,[3,9,12,93,94]),(22,[3,9,12,93,94]),(21,[3,9,12,17,93,94]),(20,[3,9,12,93,94,95]),(19,[3,9,12,93,94]),(18,[1,3,9,12,41,42,43]),(17,[1,3,9,12,41,42,43]),(14,[1,3,9,12,16,41,42,43]),(16,[1,3,9,12,16,41,42,43]),(15,[1,3,9,12,15,16,41,42,43]),(13,[1,3,9,12,13,14,15,16,41,42,43,56]),(12,[1,3,9,12,13,14,15,16,41,42,43]),(11,[1,3,9,12,13,14,15,41,42,43]),(10,[1,3,9,12,13,14,41,42,43]),(9,[1,3,9,12,41,42,43,44]),(8,[1,3,9,12,41,42,43]),(7,[1,2,3,9,12]),(6,[1,2,3,9,23]),(5,[1,2,3,9,10,11,23]),(4,[1,2,3,9,10,11,23]),(3,[1,2,3,9,23,25]),(2,[1,2,3,9,23]),(1,[1,2,3,9]),(0,[1,2,3])] [(4,[3,9,12,93,94]),(2,[1,3,9,12,41,42,43]),(0,[1,2,3,9,23])] [] [10,11,12,16] [10,11,16] [] [2002,1001]
def DA:ux:=an7 [(12,[4]),(11,[]),(10,[3,5,7,10,71]),(9,[3,5,7,10]),(8,[3,5,7,8,9]),(7,[2,3,5,7,8]),(6,[2,3,5,7,8,41]),(5,[2,3,5,7,8]),(4,[2,3,5,6,7]),(3,[2,3,4,5,6,17]),(2,[2,3,4,5,6]),(1,[2,3,4,5]),(0,[2,3,4])] [(0,[2,3,4,5,6])] [] [5,6,7] [7] [] []
def tF3:List (Nat×ux×aA.Fn):=[A2 [] 219 pa [0] [4],A0 220 pc,A0 221 pk,A0 222 gq,A0 223 ll,A0 224 xN,A0 225 fO,A0 226 kB,A0 227 kz,A0 228 mS,A0 229 iV,A0 230 lq,A0 231 tW,A0 232 rq,A0 233 wP,A0 234 su,(235,Ed,pj),A0 236 uQ,A0 237 uS,A3 [] 238 ku [] [9] [9] [] [],A3 [] 239 xM [] [0] [0] [] [],A0 240 uN,A0 241 uM,A2 [] 242 mD [] [1],A0 243 nT,A0 244 ti,A0 245 tG,A0 246 nR,A2 [] 247 rj [] [3],A0 248 nv,A0 249 uk,A0 250 nu,A0 251 uR,A0 252 Cu,A0 253 pf,A0 254 mH,A0 255 iU,A0 256 iy,A0 257 kA,A0 258 tn,A0 259 oZ,A2 [] 260 dw [] [2,5],(261,DA,nO),A2 [] 262 rk [] [0],A3 [] 263 rl [] [4] [4] [] [],A3 [] 264 sy [] [4] [4] [] [],A3 [] 265 rp [] [4] [4] [] [],A0 266 nP,A0 267 lZ,A0 268 tj,A0 269 mJ,A0 270 zf,A0 271 rn,A0 272 nM,A0 273 o8,A0 274 mK,A0 275 tg,A0 276 kV,A0 277 rP,A3 [] 278 nL [] [2,5] [5] [] [],A0 279 pT,A0 280 pS,A0 281 Am,A2 [] 282 jN [] [4],A0 283 sr,A0 284 pg,A0 285 o9,A0 286 vw,A0 287 o6,A0 288 ov,A0 289 oL,A0 290 nA,A0 291 oY,A0 292 mL,A0 293 uj,A0 294 oM]
theorem kF3:(tF3.map λp=>chk p)=tF3.map λp=>some p.2.2:=by kernel_rfl
end Go.Proofs.YtanhdobabijmoaaGreatDoor
