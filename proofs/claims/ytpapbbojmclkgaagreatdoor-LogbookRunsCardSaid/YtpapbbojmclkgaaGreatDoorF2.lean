import Derived.Test.YtpapbbojmclkgaaGreatDoorIds
set_option linter.all false
set_option maxRecDepth 100000
namespace Go.Proofs.YtpapbbojmclkgaaGreatDoor
open Go Go.Abs
attribute [local irreducible] ba Ac
def iT:Abs.bV:=gC "0>_KwOT<X^eg>gU>+1g]HR2A0S:Tf,45p:Ce7tNNweKOOc;=E@MtU(gmz66EDc72wULYX`MX3rbWSiA2JpvlRloX:H8)N."
def oS:Abs.bV:=gC ")q0xZi,KyDp?p3Cbwx7wnZ5;_InT57*+AavukVlAK;qXd7C0H1HyoiIrkrck(^R[S?xePk;(MnhP)(60lbOK5>KabeJ8BAe^QYD8nb,W_@4UGHFsB=8ek5gD?^nVkBXI?Hau`dCO()vhVGjzy=xCNwN_IPbuUSGEZ_N(8dKdD3ElS>UJ"
def fp:Abs.bV:=gC "7v,jTvPX]Bq)bqExQaP3^sK_I14b>;=xAQ2qwPGEJB3Jh]+x93CSDTg_+61L]dOQ:I[V02vuU^l"
def Jy:Abs.Fn:=⟨3,[.t 6],gC "@f<^FpG?RzY:*bQA2>N18SoEKKTCYJhBjfIS5nUIY1[<ko3"⟩
def mq:Abs.bV:=gC "^LA(7HLz;)29v31vuBh<o.gVo6e7cd<d<n^F_+G]GZ6Axp2yBOlI,Q3DF3dmpRTBnc`b0?Q4rjspPhuk?dMs1kaI<Uj3,X5qn7ncF)KEbliDQ3EZCG(E4yEgDC9R0AKN>aqV:0VSB)A>L4XWXg9m__6rI=Uv3gzt"
def HB:Abs.Fn:=⟨1,[.t 2],gC "+zO7R>z0y86[+jV@>VqoFdk("⟩
def iS:Abs.bV:=gC ")<*ipDlm)6y78QuxS+k2FCmsn]vWQ8HcV4LH*N4GO;HLNeIv2p:C?*jRo6r_Vl*]"
def nN:Abs.bV:=gD [] [qn 32 .quo 31 (ba 1000)] ":wd_sgt*oaC@*q`ML(D5ET^<DGf`sR7rp=_gnQ=w4,GE(^*XhZs(]rIh3UT0`UkS3OEO^YkRm?0L997iI7e*Umk)FXo^]qDaW"
def oT:Abs.bV:=gC "+ZUJ9;DeW69*zB6<[IsZ2@S9e*>b^N7uY[7UMr;Y)G].W:Aa,PBESd7m_jiBy.)N:og[<6D0T]fxmg6Ke"
def lZ:Abs.bV:=gD [] [⟨none,none,false,.Iq 8 [(0,1),(1,1)] 1 53 (.t 47)⟩] "kf9t;krq+kp1y@n777ycb*MKGq5VvTw;N9yU8m8x;pZ<mqTQ1^GmE3(9K,9mjxPb>4h<5Y.hRw<wyo+fZQ)(+C=Pv:2_W=85eHc;,;6M_Q+Xy22+WTO[1BZe^Rr*1:pAs5TF,09=sc_n=tx2Q?O=?A_w+[gF1G*+B,0PCg7MhH_c0`N^j"
def Lf:Abs.Fn:=⟨3,[.t 6],gC "<iIRa^8?ij^(<PsWU4ly?rhVfn>00uF"⟩
def ft:Abs.bV:=gD [] [qO 74 (.bin .gtr (.t 73) (.c (.int .u8 (ba 1)))),qO 70 (.pick (.t 54) (.t 69) (.c (.bool false))),qO 53 (.bin .eql (.t 52) (.c (.int .u8 (ba 1)))),qn 49 .gtr 48 (ba 10000000000),qn 34 .lss 33 (Ac 10000000000)] "):iCv2bCEHXb.o:(^TzJfQc9QS)?,2jt;N.ZjnzGqVrfH2ovwAg[qSUJ]GM;R.r(dkjbFKJ.ZPhJ0qWD03O5ZcJ2mpMs=tO9>e=W[fRg(UB(`ZonmGWEiRB7:PC68vSpaJ46Nc+DJrk3bvfRf52(D:9`kY;AAe9_?BEFKe*A]]0oZJ)bUUGvD84ZbRJ+.gHg+=aSu`EHp0TzY,`=pbn7a7OmV)?k)nlhj_AXPtY_U*>JnBdEwgcLDj=c..VtshE1Siw=eaPo<Td_[0Q6G6vevx8kguQnM<8bS)TXIIe1ORmezFDl_[Zr=ko^B"
def Gh:Abs.Fn:=⟨4,[.t 8],gC ".o7^;<=*,PQ8DnCZSUBpTeC2G^*j9GBfKQ3O)oZi4.(n.ljG`lcHp:T;XgH7sn`LV3D<(x^^`(1EUq80lchfn5mrNSyy0_Qic;N2^TYp,=lnYmW^lrl(u5QQoB<ljN(qf=4h:o]M*`jAuog<jtOyJJCIsHsmKY823xWt01ZtY[FZIY_^ptL:WYtD(z?VxuufYb*>8sO+u,tm`CK^(("⟩
def kP:Abs.bV:=gD [] [qN 29 .gtr 28 (ba 0),qO 19 (.call false (.c (.fn 103 [] [])) [.t 18,.c (.int .i64 (ba 1)),.c (.int .i64 (ba 100000))])] "3HGR^HfZMBxnTZ9g0BbJHxgiEIDGqFYn(q[<ZDBmJBd8H_CyET*c>jSg+E6iFO61ZQ:QgtZR.]]YAwDAyEofhNPkcHuk@UJ_>_z6CFbtauZ2m8NOYDXO=Wz.hvjc7(hzZYcX6,niA62c;)XH.@n:"
def xP:Abs.Fn:=⟨1,[.t 2],gD [] [qo 19 (.bin .mul (.c (.int .i64 (ba 10000))) (.t 18))] "b?^uoM>wFj.SY+l2tW^jTwu5m@stn?ybKKu)F<[Tks_[C_RBs=`jQsF<;*C;F^>m_Vey*5Oy]0s>iiVJ[9^[=OD"⟩
def Ej:Abs.Fn:=⟨2,[.v 4 true 4,.t 5,.t 6],gD [] [qo 3 (.GM (.t 1))] "3:F@jZ5)SO;Bvo;YfgTX5s_+QuJK.asDG^mW9XHM8`>,udqN<Akb:W_.C^nZOtjd(f?MF=7tPFx5jDgzoh1r=z@C7o+KN<HP,q[01lLgMACx:zP?wb)8Vj)9NB24sbGH"⟩
def Ga:Abs.Fn:=⟨2,[.v 4 true 10],gC ")M5I7zgRlou+T,bzA]4br[J:Zeeu]:teeEp7b.i@[<B@R,Kls,`cPnsf^LF+7rm)(;,WY*rzZ8a^_Lzr2Hw_[vn(VG,1gzj5ESEzzjYxr+tu(1>648Ml[GHyBDoPyUW0MA@2B1b[5^t4sMBUEk9mS;;cL[4Ys;bccXHjf>7BS^4cM;shYGX*rx1+7Y8)kIxefE0z5R2V+nJt<R1]9oIUSxf)x4RMTL*:N>S(noa]?.;>NkWG4MRO39<AOmQ=j(;^R>Oe(((v3,ci2L0]DZ(oftD5C<mpoS[oygo+Niq);Rrah,ixqJg;:R,U,P]6w:Mal]9Diu+c47,(y3wppi?5J+<*vBbIP909H^gDK.vSB1+:JCkCm<TKwb;[<,g3rQ:dM"⟩
def o4:Abs.bV:=gC "06b9pDUgN]cs5cvjMy5lvm11U(MLUOg@cXKdf=t=];nMz_VcvVwDZaT>br_"
def mO:Abs.Fn:=⟨2,[.t 4],gC "1w0N:O@kvJ>6_9?dc3=[RlZ`wD"⟩
def xY:Abs.Fn:=⟨1,[.t 2],gC "9U2?+4E4SMjghc8_4*][Y?;O@:C^?lNMx(g*R5B6`)L*V.Wz5pn:yG)qR.l,E7(kgC5[Z@>lnroCnx)aX=(>ji:K>L(9K`bJaD7g9Dwa0.b>[d"⟩
def lU:Abs.Fn:=⟨2,[.t 4],gC "1w0N:O@kvJ>H[lX*Nbto.>21,P"⟩
def wV:Abs.Fn:=⟨1,[.t 2],gC ":7_Cd(;;W_rVAE=crFJhYp_UAEtL(RR^;QukW8Q@92Uuxn>s)*EjG?k>z`m^"⟩
def DQ:Abs.Fn:=⟨3,[.t 6],gC ")@2FI`x0soONy@S)Rv:A09:@_c_]U]I"⟩
def wX:Abs.Fn:=⟨2,[.t 4],gC "b<xbFtoN[c6AT9PVJhL5(KL0B4t.B1>>Of;Q`jEK3<3dxePFg(k+]A`n(6P<bOOoH,=gPwI;aR>)V1.9w6xl)DTYkcV.jeK5R.ypb?zJ8dmeQ`F;5<wU1u`pw?Z3qM<n^1_"⟩
def gA:Abs.Fn:=⟨2,[.t 4],gC ".we@vH2nYdmBAWOe8rS6m"⟩
def mP:Abs.Fn:=⟨2,[.t 4],gC "1w0N:O@kvJ>aX_^hyDC:;2wcuD"⟩
def nL:Abs.bV:=gC ")SAU0IC(RqBn1sGnt`p;Nk`*O>c]zfm92LC=7)UnM2qcagoGpZ[FQ+J,SG*ifDJrz);NbMD>@BBBWm2oe5_cBSFvy]TnP1IBJ`K+hcaQ:mPcVj3:v="
def DK:Abs.Fn:=⟨0,[.t 0],gD [] [qo 0 (.mv (.c .undef))] "**PLTIxjLV]q7cgAP56U.6iB_jhyyBdB>@.@z]]>vy]qKEBEabb:)Y`1Tbi=r7BMYmcZEb4DF>:CA+j[l=X3O>=^:jCX3;*Tqx]h):fhQ[gifH35W76yaghIfyLyD<bZPeCJAfpT7WYJn,,0<IHFSw6NB0:)nRdD9fQowb8A6ai3=V:W0nSIFpb[44jM<g7G.iA5hPY(A>71q**X67n=pKjg+QJy6M5,u;X*3x]Db2vhmR^ic^Fjhw<BdP*iHx:ur[?c1Rg(LG1Am9I8IWkk(l5uf18]74yTfC.hBMo77:d(]tV2Yk[*?_9<g,qYUqZtF^UWn10kHhvV;TD"⟩
def F6:Abs.Fn:=⟨2,[],gD [] [qo 8 (.Zk 200 (.t 7))] "1`C2?NAOARB<1?qAP;m26bm2"⟩
def B8:Abs.Fn:=⟨1,[.t 2],gD [] [qo 20 (.call false (.c (.fn 36 [] [])) [.t 19,.c (.int .i64 (Ac 999999999)),.c (.int .i64 (ba 999999999))])] "bY3GX,C,+=OYq89j+zXK@eXU0.LU`+t+44R7Ev)g?F4f7Z)(F3*hb39yuq*g8^I<,BK4;@TXaDjj"⟩
def nB:Abs.bV:=gD [] [qn 18 .rem 17 (ba 65521)] "7(qUcaHX@O*SC;VfM@TkGKAmjLkYfX_au.JgJNWj(^_kUZae<i_d[BF1"
def Lg:Abs.Fn:=⟨3,[.t 6],gC "<iIRa^8?ij^(<PsWU4ly?rhVfn>00uF"⟩
def Hq:Abs.Fn:=⟨1,[.t 2],gC "T`g*71^D@>09PaB3W(*WgXXFVHN"⟩
def JC:Abs.Fn:=⟨2,[.t 4],gC ")VE8?>hcc8DqVbCBMDz<ZZ+A1=(9iby?QY<52Wap6a5K`Ot=JZ:7ade0EUTph9V>YQ,fGg876bH2=W?_Gf@_^_H"⟩
def Lh:Abs.Fn:=⟨3,[.t 6],gC "<iIRa^8?ij^(<PsWU4ly?rhVfn>00uF"⟩
def JD:Abs.Fn:=⟨1,[.t 2],gC ")*Ce6*u0iVSeCV_+QFRI0+7`[F*OcTYyIs8Gi8V^tRiJz4QhUkl=a"⟩
def gO:Abs.bV:=gC "7`(nFhaR4,i`?u<X7Y[v>QiL]:sdID[+vdw3.(vzRok*TF`8cewL]*,@*OfJ7x.[q>?M55"
def Gl:Abs.Fn:=⟨4,[.t 8],gD [] [qK 17 .add 15 16] ")MET<EG?.>YQJKNq60C.gTZ+GA<FWwH`yEQ;:?bfa.b"⟩
def wP:Abs.Fn:=⟨2,[.t 4],gC "**MD,QiU1hmqB)YsZO>GZElluczC,MeZ4yiRwUI,V7N==Oukg:CV2,6Jh.7(CppcIE>pgT*EqHV6Ah0Rx,`Y,"⟩
def nC:Abs.bV:=gD [] [qK 34 .add 29 33] "7Y)zgG1;eE0M,_<,MdR<C<w89lZ<VFG>^WMstWX8CmygdmgEMG,a1^[r?b8jB4b672XcH4)Rg[;pJ_gPSTl]5j.8S"
def nE:Abs.bV:=gC "RXvt:k02weq?M]FYj:wwcexB<.<G8lbARVc`a4MINegIapcQNGV+a0ohFdaxq54WZsfU8Rqi2,h>pNfJMG;hF@+SyM=P`62YAPaGq<yji8:p"
def nG:Abs.bV:=gD [] [⟨none,none,true,.st [] 3 (.t 120) (.t 113)⟩,qN 101 .quo 100 (ba 1000),qN 89 .quo 88 (ba 8)] "*7[q=y2oL[G4Khu?fEK:u(It*NpJFZsTa>^2K7yIzKab)VP<7`gs725YZ=ZS^:[=N5j:X^H8axm)kI@b2U,2vG=hSz.D?leS0t[5M4iV50N3Of1d2LrtWm6fniY(tir=:DhAIZfSo7N0JZcL`=mD`VZFcbT6U8um@G:Td<F;WXwS]5@VFaedTasx92FLzk..FX9u^T)KoR:ZFl9Fw_SJ;lPsm*fyao)3:*>ApQv]Wm76kBhk*X452*k4]e,kAJS[bQY8w.Ula4Jd(bBCEbK=XvOG*Ry_EEIy2Nc[>0EYF<pWIOR7iebDCO<r[:."
def nI:Abs.bV:=gD [] [qN 153 .quo 152 (ba 8)] "P^3x(V[wO6=XI1M_v,+R9+b:SWQNtKLyx24<vmVp<5+HdL+Zm7?(zg3aAAJMa_[b1)elGvA<n_QgU@S]zvH;i]c;GbEAr6X;2LYh,aiKlbljyw<J;.W@,,pnbc5IcgQ(Kn7cTBbwRW=A^taP,b,)[a+Wh>bE;_Ys_@e@hq,fObva`;`UP[S4Xb29`J<kkssYZ2i25VzlBqecWv,EHl)ZaaU=_>yt335Ed9Y`5luz)h:16zDrwO0MmxYXyDUZ"
def nD:Abs.bV:=gC "*NZYyB7=ACaZ+xNmzrCaOk5k]7yObkIa0*K+:he]b,09B*s`p0)kfQWp=:8Sj`sb;dij5=qz60*X5`=ziu`:tEH?+:P=w3DXPjl`i6LWW2"
def kg:Abs.bV:=gC ")U*(bF];P6wF[QSR^wK7D<4^uqPbrb<l0cCZ1n;Sie]JRa3.jK1H"
def nJ:Abs.bV:=gC "PJd7cfxl;YIDY7najara`Ek3aa9.l@Hl+[:K9*Xzy=hBo0Y5vMY;npm(m76td)*qCI]XWKpx`@<QiLIb@:lZy;<`C"
def gz:Abs.Fn:=⟨2,[.t 4],gC ".we@vH2nYdo@+_)Ct@Nj^"⟩
def lf:Abs.Fn:=⟨2,[.t 3],gC "Sga?U6.CJF4T9a(D*n`L[3"⟩
def HH:Abs.Fn:=⟨2,[.t 4],gC ")VE8?>hcc8DqVbiSl30xB*<:`IDjuqbkucI@k:.S[efZ+;Y^_J.7VYIsq(^tmn.rSzCzxHMyOPlbQAS_Wa,I.(J"⟩
def fP:Abs.Fn:=⟨2,[.t 4],gC ".we@vH2nYdoDV;tL4vt=H"⟩
def kD:Abs.Fn:=⟨2,[.t 3],gC "r0>qcL6NL^nC0Y.S6li<7"⟩
def um:Abs.Fn:=⟨1,[.t 2],gC ",l;S`*5hDA^QZ@6T3anUQgrrv1oN3lOOHbxc@,)"⟩
def wW:Abs.Fn:=⟨1,[.t 2],gC "80]v?)CZ4sMOp;FJmeh^7XWQs]nd)vTokLFb)<i:Y,zRH"⟩
def lQ:Abs.bV:=gC ")5._=]=W+)drLp92j?(Zo:@@sNvUvkn=,BdfhxehiTZ*X5IgM(.8Ydjy?Qqfu"
def lg:Abs.Fn:=⟨2,[.t 3],gC "r0>qcL6NL_=_9uJQuG@^Q"⟩
def Ek:Abs.Fn:=⟨2,[.t 4],gC "3=9aaYwGNzweEZnf>LMFR*YxPALV;:0u*dykYVG43XLqg2+?3,?"⟩
attribute [local irreducible] iT oS fp mq iS nN oT lZ ft kP o4 nL nB gO nC nE nG nI nD kg nJ lQ
def yW:Abs.Fn:=⟨1,[.t 2],gD [iT] [] "]fy@HjT1y,`ZrL+^OPb`TGO*te@=)`di`FjruXj0ry9m_E8j+JD)9a<y(L23SBY1"⟩
def Ht:Abs.Fn:=⟨2,[.t 4],gD [oS] [] "3+Urd;jEDSMhQ;k.T6KJTyL+(neVF1ovZ.*)Cgi,jx:J[65V>zni>_X["⟩
def fq:Abs.bV:=gD [fp] [] "57MojDVxQwl^5fhD@5y_@s?GEoc^Wg(6ZW;j88o@E51ZnkCld*IsR*EJN+on8XRKCi5Q4vaUEBX*,)OsdXGd4OHP"
def En:Abs.Fn:=⟨5,[.v 10 true 20],gD [mq] [] "0`Nln)TnCX<[e^aMxbT4]Gcb<@M+fZgVukA*=r4*Dos*A>+8iNk3AQI+qIm)5EH;Txxte0jl,xd"⟩
def yV:Abs.Fn:=⟨2,[.t 4],gD [iS] [] ".*O;?G3G+)(d+DDc?==DgXt^`Ay5l3*p38ITk@dZ@=BL:pncx(D"⟩
def Gt:Abs.Fn:=⟨2,[.t 4],gD [nN] [] "+XN;4LP0AR`n?CW]`ox+a5pPA1`,B<=a8.@8@*z<`2Wq@DyrEny],JH"⟩
def Hy:Abs.Fn:=⟨1,[.t 2],gD [oT] [] "9fZSEuMHj.[[AB05;CU*^9rU4ohQi=b"⟩
def Hu:Abs.Fn:=⟨3,[.v 6 true 2,.t 7],gD [lZ] [⟨none,none,false,.Iq 8 [(0,1),(1,1)] 2 8 (.t 17)⟩] "j[FBkIK>w=0*tQ^4<2VZRq5V:4]NasFGh+tRr;i8,x2BuTAf@Y@TUwhMMglGGniDs`k_kFL@_<"⟩
def vj:Abs.Fn:=⟨3,[.t 6],gD [ft] [] "=B9rl3Cl^I_j?CyG]EO2<eB?DM[FIYjJ;`1e;CfT3s]*x7Bh"⟩
def Gp:Abs.Fn:=⟨1,[.t 2],gD [kP] [] "l<S[h>Ub0JxUp=CCh;cGzM]+vyn=m^VnPkbx7i:dhvSlYz_Z;)NJCyd`8x;P5"⟩
def rJ:Abs.Fn:=⟨2,[.t 4],gD [o4] [] "C)9jC9;th0fkF@W3xFN2nGlEO"⟩
def nM:Abs.bV:=gD [nL] [] "4VOOto2G7>,N2;iaXDPvt+ArVRT+tdZW?5I+fD0vwUySgH6`o1J*i2^]W9t?Od;(ayx69O:.Oha:GYRb^+g?Qx><^`0Y0n4^=Ayz5I+8m^>xFhiiL+d9XdCiKpn[6(4(yADFt=s4=l0H>[Dq2Z8ZUS("
def F8:Abs.Fn:=⟨1,[.t 2],gD [nB] [qo 7 (.me .s2b [.t 6])] "9SV=^1QPJSHe1zk;oy<sR(uDwaUHK,Z1RUM]"⟩
def yU:Abs.Fn:=⟨2,[.t 4],gD [gO] [] ".YHKH0fO6V]5pGAmHSZ5jN8TEWYEzd;<6dPCIU*]BQc5o@:a4LcnwilQv7TdZe63h83NH3D`ok_V("⟩
def Gd:Abs.Fn:=⟨5,[.t 10],gD [nC] [] ")d[6FU6,ubDNDl^:[YIlgqPKivkY3v)<hl7KAM"⟩
def Gj:Abs.Fn:=⟨2,[.t 4],gD [nE] [] "39_?QQz<oNT:;@OTAPWXLwG?[<tXCqg1p"⟩
def nH:Abs.bV:=gD [nG] [] ".kq)[dUi,D7_0ar*4X=hAyt0L;EqckEq89ZcLhEB6o:,2Ratng9Qjw^23mT3Fk=iYfk.*8?buKGO83goxkhs;`Bzo+vG(P"
def Gg:Abs.Fn:=⟨4,[.t 8],gD [nD] [] ")e7ubaE+K(eF.+8L=@kU,S78:)`24.P<?zW8xZPlx7XHRWiMoc@0G0Asoz<<:;o9`+6^)D=d8X0hBp_`i>Ou7Mu6ZJ(:g+do*)Y`vJWpCv;dtsN"⟩
def Cc:Abs.Fn:=⟨1,[.t 2],gD [kg] [] "4g.yHckvlIFSxh^UL)X,XccSHFRWj"⟩
def Gn:Abs.Fn:=⟨2,[.t 4],gD [nJ] [] "@g<l:N0i(=;Tp56>yi?J[Dq22x[F?g"⟩
def ji:Abs.Fn:=⟨2,[.t 4],gD [lQ] [] "C)9jC9;th0fkF@W3xFN2nGlEO"⟩
attribute [local irreducible] fq nM nH
def vi:Abs.Fn:=⟨2,[.t 4],gD [fq] [] "1SIx0vfcSS`oCZI_p;6DZa4epYrCUAK6Tu8Yh:MwZi"⟩
def Hx:Abs.Fn:=⟨4,[.t 8],gD [nM] [] "?3r^Q`nsh.[D=]d(jj6dv8Bi)B]5RHv;GvNt?KFqbBrsWo;5?B[>HG1"⟩
def Hv:Abs.Fn:=⟨4,[.t 8,.t 9,.t 10],gD [nI,nH] [qo 21 (.app 3 24 (.c .bu) (.t 20))] "*<S@lN6UI^XGZkRT*VbPMEAZ9e1?pCHTd+,h@_31x]KXCO^qZ>L2J]+:Ea:5dQdroK<_yBXf^mTdz8^@QMzw`DD)W^X?ZX6"⟩
def tF2:List (Nat×tT×Abs.Fn):=[A1 [0,1,2,4,5,3,6] 93 yW ,A4 [0,1,2,3,4,6,7,5,8] 94 Ht [] [] [] [] [] [(0,[0])] [] [] [],A1 [0,1,2,3,4,6,7,8,9,10,12,13,11,5,14] 95 vi ,A0 96 Jy,A3 [0,1,2,3,5,4,6,7,8] 97 En [] [5,10,14,17] [5,10] [] [],A0 98 HB,A4 [0,1,2,3,4,6,7,5,8] 99 yV [] [] [] [] [] [(0,[0])] [] [] [],A2 [0,1,2,3,4,6,5,7,8,9] 100 Gt [] [6],A2 [0,1,2,3,5,4,6,7] 101 Hy [] [3],A4 [0,1,2,3,5,6,7,4,8,9] 102 Hu [] [6,8,16] [6,8] [(1006,[(0,1),(1,1)]),(8011,[(0,1),(1,1)]),(8013,[(0,1)])] [] [(0,[0])] [] [] [],A0 103 Lf,A4 [0,1,2,3,4,6,7,8,9,10,5,11] 104 vj [] [8] [8] [] [] [(0,[0])] [] [] [],A4 [] 105 Gh [] [9] [9] [] [] [(0,[0])] [] [] [],A3 [0,1,2,4,5,6,3,7] 106 Gp [] [4] [4] [] [],A0 107 xP,A3 [] 108 Ej [] [3,4] [3,4] [] [],A3 [] 109 Ga [] [4,7] [4,7] [] [],A0 110 rJ,A0 114 mO,A0 115 xY,A0 116 lU,A0 117 wV,A0 118 DQ,A3 [] 119 wX [] [5] [5] [] [],A0 120 gA,A0 121 mP,A1 [0,1,2,3,5,6,7,8,10,9,11,12,4,13,14,15,16] 122 Hx ,A0 126 DK,A4 [] 127 F6 [] [] [] [] [] [] [] [] [(1,some 3)],A4 [] 128 B8 [] [] [] [] [] [] [] [] [(2,some 12)],A0 129 F8,A0 130 Lg,A0 131 Hq,A0 132 JC,A0 133 Lh,A0 134 JD,A1 [0,1,2,3,4,5,6,8,9,7,10] 135 yU ,A0 136 Gl,A0 137 wP,A0 138 Gd,A2 [0,1,2,3,5,4,6,7] 139 Gj [] [5],A4 [0,1,2,3,4,6,7,9,10,11,8,12,5,13,14,15,17,18,19,20,21,22,16,23,24] 140 Hv [] [15,16,19,21] [15,19] [] [] [(24,[11])] [] [] [],A1 [0,1,2,3,4,6,5,7,8] 141 Gg ,A0 142 Cc,A1 [0,1,2,3,5,6,4,7,8] 143 Gn ,A0 149 gz,A0 150 lf,A0 151 HH,A0 152 fP,A0 153 kD,A0 154 um,A0 155 wW,A0 156 ji,A0 157 lg,A0 158 Ek]
theorem kF2:(tF2.map λp=>chk p)=tF2.map λp=>some p.2.2:=by kernel_rfl
end Go.Proofs.YtpapbbojmclkgaaGreatDoor
