import Derived.Test.YtpapbbojmclkgaaGreatDoorIds
set_option linter.all false
set_option maxRecDepth 100000
namespace Go.Proofs.YtpapbbojmclkgaaGreatDoor
open Go Go.Abs
attribute [local irreducible] aX zA
def pw:Abs.b9:=gC "=CTc>7<nCJom5s5wDXIsl9^;5A>fxK]iXgOs9hF?K>4[Ytbq=Pw*THPcdFum1LuC[(I6OYx*1i^iu8:Gfl5I"
def zT:Abs.Fn:=⟨2,[.t 4],gD [] [qo 14 (.mn (.c (.int .i64 (aX 0))) (.t 13))] "A;E.?89NS9jUh6?FkV9v@A*O<z[L:8u4f5v"⟩
def xl:Abs.Fn:=⟨3,[.t 6],gD [] [qO 23 (.Ny false 5 1 (.t 20) (.t 22)),qC 20 308 []] ".lzG^I=E;?Y7,iDP9_5ZbnA=dA7Id=i^>D`W.Y2o:[Q`>d*1^g7=aZ;T2G(rTlFysnkQ4G=3mLHb8Gfm*nv(LBQiwT"⟩
def yo:Abs.Fn:=⟨1,[.t 2],gC "9jWlcZylX0,2<=_*iBul;7ujZY^cG.+FdJ<qUXtOl>bElecy055^LI(UF,`c[rQT6PAms4"⟩
def zY:Abs.Fn:=⟨2,[.t 4],gC "2l(+uG3Ro4*O1D]1aQde@phQvYL("⟩
def wh:Abs.Fn:=⟨1,[.t 2],gD [] [qo 19 (.bin .mul (.c (.int .i64 (aX 10000))) (.t 18))] "7S1`5EOy>l=xC(V+AVWpkNs0(TBp5hG6JkQ+5e2UFJzm@(hX(vnEdhVhs<[j<yIZ+lZe?<E6]Do=xc@ZlVMRU=`O?[9r"⟩
def BC:Abs.Fn:=⟨2,[.v 4 true 5],gC "maM=xNa?IlQxJUyULe5.m4S?wfe"⟩
def BD:Abs.Fn:=⟨2,[.v 4 true 10],gC "*c[Iv7KUYf:`y@z4lpgelR+T>RGj7ZXRPNgqv1a*bxUO+.rmZ4.YfFgIRt(TyhDywGTf7XbTRx0WT,uI(;P8_rJJTy_Q;^muY7l]ksKx(eOTapt;?^afk;pzhIO.kBQ9sp+*<CA@F5DU+CIr)R)w[2O3Px88?)]w[WYi*N(lM,qjm@z(w6FEfXpQih4iMV+,Z;`2W]tpBYF]pQFVj,MrpxYGKGQr0FtlNPUv*V*temX^z?z.slTAR`G*0GOiut7j7]kzGE(v_OHK=lJzl`tEakiZE>]5WoC]<s"⟩
def Fe:Abs.Fn:=⟨1,[.t 2],gC ",=<=(T?kzaP@cSkZ=*Gl^N_"⟩
def fD:Abs.b9:=gC "[k?ZoWu.jjA)32:B,xZ.aoHhFWWz0Bjmt1WGMpBO4MA08Zc>,qp"
def iG:Abs.b9:=gC "EM]RR.2KaIJ;(FrueG"
def iH:Abs.b9:=gC "vH20X0+lK,Q]Wz6x)EO`<"
def j8:Abs.b9:=gC ":Sf=zZd0wa*ntZ6[yzD)Cd20Z)h1LYnSLt8_Mo`rt3=s)oxb?"
def j7:Abs.b9:=gC ":Sf=zZd0wa*ntZ6[yzD)Cd20Z)h1L]<MVXqVeXn_Iwu`41,eO"
def qR:Abs.b9:=gC ")11dP`y^Q]nb>V6x0i1<i=p;it(ySCt43j=Cf=w`8D)+JEzO,oUkc@z`P5zT"
def wU:Abs.Fn:=⟨1,[.t 2],gC "ISBc4Pj^RayYdPj1[7lt7,[>R<D[3Ic3oM?KNqjx(6R_<ESniHkH13PG7Q*oCbPfOijrCY)O`lGpWW>Do0JiSzKWdZ"⟩
def DK:Abs.Fn:=⟨3,[.t 6],gC ")DQ^IVTj0X]+C.(hFrfZV(+h,8bMgPl"⟩
def uU:Abs.Fn:=⟨2,[.t 4],gC "1vNKQ@KpNiAIkbtpzX1t.<1(qE"⟩
def zX:Abs.Fn:=⟨1,[.t 2],gC "12PI>(0@DB9NJ?Lhq*5b1`BJZ`c^SoJ>v1+6*Na*mZ_SV<wCsPSCAkXx,Qa_0]zZQa,.hajWT8Nnptl[uhSNj@OTdEy_vjWbf,*o3uIE@e^uV)"⟩
def FI:Abs.Fn:=⟨3,[.t 6],gC ")DQ^IVTj0X]+C.(hFrfZV(+h,8bMgPl"⟩
def C7:Abs.Fn:=⟨1,[.t 2],gC ".8M>]j0oO2JH@F4*xRTek4D);^M5Nzhoba"⟩
def wa:Abs.Fn:=⟨2,[.t 4],gC "1vNKQ@KpNiAUi^gDS@`0<Ek1rA"⟩
def yy:Abs.Fn:=⟨2,[.t 3],gC "<E,88j4rPJb*vNEEYvvlbx_CzyOteRQHhGTOesto:<nVIwagBsq;l6aEAmgDp7qb3jc;ke:J:G6dG<ki=eEePFHfQm[>Q5tsqVNLj?^j1h"⟩
def iM:Abs.b9:=gD [] [qo 21 (.Ny true 4 2 (.t 17) (.t 18))] "ly>49V,A<x?Kbpo_8Y>bfp0Q.Dj80>6dFv>AIu<xu0.)agR3<:)cz[hoV(2K1h4vLcvP9^P[<MgkS.0Q_oUoupMm"
def yD:Abs.Fn:=⟨2,[.t 4],gC "3xD^V48:K?iuUUwub5m(iRK,^_yT`N"⟩
def yH:Abs.Fn:=⟨2,[.t 4],gC "3xD^V48:K?iuUUwub8SOMfUnMbmkba"⟩
def dS:Abs.b9:=gC "*5,c?2N>P>6E1x[dVBO.U,,8_d=H(KRgJ1YDUDpB`9ze_(uBBhWqnT0U>blI>,F)KPcQz@]YjGM8wAfc+VMBSs,KhXmVq15+>eKqtLBdJy5Q?QnJ>BcJu_s)1OCQ(d"
def rM:Abs.Fn:=⟨2,[.t 3,.t 4],gC "0ID*cCHglZPu1,fqPS1b5l`k@rC[tXs"⟩
def mZ:Abs.b9:=gD [] [qo 13 (.bin .geq (.t 12) (.c (.int .u8 (aX 97))))] ".;Svo9).H@nE9exB>kbQN^kiX9k+DO:Nhf;5E=J?TcPfgR5d0OBA;^kw9[,+JqDZ:SVL)3rSWV=dj0H7<WsP9DW1w=BI7x)Z]qi,c=LJfSc2i0eL+R2;HaBtdOgov[bTX^DPm7I2;h^r:P`mT"
def vP:Abs.Fn:=⟨1,[.t 2],gC "10U(L`<+9WghH?*0:3m)3.[e2KMb"⟩
def CZ:Abs.Fn:=⟨2,[.t 4],gC "1vNKQ@KpNiAneUK=3Da*;(sbvp"⟩
def uJ:Abs.Fn:=⟨1,[.t 2],gC "+9Gj3,mts;mDvGl3sa"⟩
def Dt:Abs.Fn:=⟨3,[.t 6],gC ")DQ^IVTj0X]+C.(hFrfZV(+h,8bMgPl"⟩
def gB:Abs.b9:=gC ";rf@>HDO<3QWkk+MQ(sy1>5dS=?K783)w=q1Gj**ZdN0rBY3M1nBN2QikRcXvc(SKqWJB*FdSVS2^QFc]URLy=f7s.Je+_LxNr[t?oT:i0P?tNQ`Ufa@Dm4QPuXvZs"
def yi:Abs.Fn:=⟨1,[.t 2],gD [] [qn 16 .leq 15 (aX 10000000000),qo 5 (.bin .leq (.c (.int .i64 (zA 10000000000))) (.t 4))] "DAX7VjkCjmW4esNIMZgSh?ChSVgz,hYjp+obDBYz3N[uUl"⟩
def jZ:Abs.b9:=gD [] [qK 30 .add 28 29] "+?>+CbWS82HOc;<[f`Oxd:K^X9KNOF.q41BL`Br0oH6.BD2PmDXNO<VDxkw4zlRi:U+AW4TVlQT;p@PEAV0F:>o5ieYVMnu"
def oV:Abs.Fn:=⟨2,[.t 4],gC ".wQU<LfRg1DnLmU9FaxuN"⟩
def wu:Abs.Fn:=⟨2,[.t 3],gC ";K<ATO^ALLrn`KR@lKF"⟩
def Bu:Abs.Fn:=⟨2,[.t 4],gC ",.a^P<Ko_:ugFwqH?OtG:anIpZw:cj?g+kzJZ;Kk(JzmkeLDL*E0*L^v*O?tIG1u8jFStTEe."⟩
def iO:Abs.b9:=gD [] [qo 26 (.mp .ent [.t 23])] "0i]k2aPv6`fD8Slz_go5sdOM]jG+*J_<JClZ`wKOeJ,*F;<_3E3G@Tq@djQq3nt@d9P9jLrSJmMz8`vPGkyvW7[yN;Lb**l]k"
def gK:Abs.b9:=gD [] [qN 79 .quo 78 (aX 8)] "*t<kkl.VF5qAJQzd]ZCL9ORui7=^[fG*0oo]MA3W`Gi4`my4lPiCR.VkI?3Z29=f6Lb2u,1eUCBzENZ;=j3mR5)4oW0(nB*]3FX3sEJNxSMmVlU+)PsAA5y=yl`ADtqyeS^P]t5(Ko@nKZ5.vFvFfPm*Jaq?UuQxH@a8msjh[Q7)RJd[pkN4WF<AaH>(z.cmG1u?TRX6(F:LolJ<)[]SNj"
def gL:Abs.b9:=gC "3V941=W^ZwKe(,SFyw0RS^kpa`LsA<rbT.?Q[t(7RGfmbKOngb,fo]V1fCKmK0.^.);Q"
def wR:Abs.Fn:=⟨2,[.t 4],gC "*^K]BSf*cXi37N9ZdTX=p=@>m,w:IatIelQiy*=h?e)dk"⟩
def tN:Abs.Fn:=⟨2,[.t 4],gC "1vNKQ@KpNiBlW:C:vjNy3qGEQG"⟩
def DJ:Abs.Fn:=⟨2,[.t 3],gC "XeOb)c?@biqJDuEKnQb@]L[Vf^H8AG>"⟩
def fq:Abs.b9:=gC "Kwic)n`XuC2=X0*s<`V_XvTl79A<M0AWs`MBE,dqc9`[byYtLwthTsf+1QN)R3j<0sz^iF_NJ`CY`R5HbFCPF2d,x>Gxz6dw"
def GP:Abs.Fn:=⟨0,[.v 0 true 5],gC "*j:sV3qM,ifzY8ek4sRmfeeb`ore,*C9"⟩
def Dz:Abs.Fn:=⟨3,[.t 6],gC ")DQ^IVTj0X]+C.(hFrfZV(+h,8bMgPl"⟩
def tK:Abs.Fn:=⟨2,[.t 4],gC "1vNKQ@KpNiCEP)dkhhM,9kG6*b"⟩
def vY:Abs.Fn:=⟨2,[.t 3],gC "0HCh[G3Jb[^)(55<8tyH;lt+xxP>ovs8ORhGo`B(+jPFDMFa1QCCF[<5K.s<si"⟩
def xo:Abs.Fn:=⟨2,[.t 4],gC ":kP6C?nqkB]_Tk@u4q3^1GVR_znYye70PiBZ;EGx5XVrU<ZFjOw6tGU_C=D7,5bMgB8<Sf8QCr36f3dWyiV[C]<f*VYDt=8?<K1OQ8whjxd2;^o=K*hC>lwFaOG"⟩
def rP:Abs.Fn:=⟨2,[.t 4],gC "1vNKQ@KpNiCQMxV?AP(;Fu0=+^"⟩
def C5:Abs.Fn:=⟨1,[.t 2],gC ")2<wZEeu,5p)?Ul]p7xVY[r"⟩
def xm:Abs.Fn:=⟨1,[.t 2],gC "7tj:ZuNf[n9F+IUb:oplgsJ?cTSTm"⟩
def zL:Abs.Fn:=⟨2,[.t 4],gD [] [qo 3 (.Ll (.t 1))] ",L?`=91oWR3AtwKbMOkq0JPT"⟩
def mK:Abs.Fn:=⟨2,[.t 4],gC ".wQU<LfRg1F>38.gqIG1r"⟩
def td:Abs.Fn:=⟨2,[.t 3],gC "r0>s2[Dalx@qAdq5rGq_T"⟩
def mJ:Abs.Fn:=⟨2,[.t 4],gC ".wQU<LfRg1FB[fxp2,lU]"⟩
def tO:Abs.Fn:=⟨2,[.t 3],gC "r0>s2[DalwqU8HU73mH=:"⟩
def DI:Abs.Fn:=⟨2,[.t 4],gC "1vNKQ@KpNiCvGl+]ASwbm0Tv[3"⟩
def yE:Abs.Fn:=⟨2,[.t 4],gD [] [qo 19 (.YU 1 (.t 7) (some (.t 12)) (some (.t 18)) none)] "Zdn@N+6q`5nm]wCLODsqtAIdThXe5zspI(zF=b^Lpw]MdLDFoDGs"⟩
def wc:Abs.Fn:=⟨2,[.t 3],gC "7LyB_*y6KdOJaweJS=g;bbOd@P<`A"⟩
def zF:Abs.Fn:=⟨2,[.t 3],gC ";K<ATO^ALLrn`KR@lKF"⟩
def oW:Abs.b9:=gC ")11dP`y^Q]nb>V6x0i1<i=p;it(ySCt43j=Cf=w`8D)+JEzO,oUkc@z`P5zT"
def yu:Abs.Fn:=⟨1,[.t 2],gC "+9Gj3,mts:KaCs3^>g"⟩
def j6:Abs.Fn:=⟨1,[.t 2],gC "1<Y,]?kN<g<b:yGo5o1WhWu=Qbjr`op"⟩
def gf:Abs.b9:=gC ")O8`b:49c9J,ZG"
def dn:Abs.b9:=gD [] [⟨none,none,false,.mp (.put (some (true,[some .i64,some .i64]))) [.t 72,.t 73,.t 80]⟩] "B8qGZvAk1.;bNgSTjcWHN<Gj[7mkSXVIHJ<klSWCjFESzBqOgR@u4MnG@lh@xo6;LYGa9xFb69hY0`qq0tD6featHSd<fWzpDZ3YblW1yAx*Rjy9:F9MU)MNyMO,xm7GE7bBR?x._F[U9Nku8b;>^:[QImXim[[dS2u6[Az[4F2ZqKln`Ub(aBriRM64=[ANAV,rk`67j@WJal;0*i_nvY_;"
def zP:Abs.Fn:=⟨3,[],gD [] [qx 4 1] "A8SSzt9;L>0swytD[+bs))TmqtS_+UahzvcCAXq71KK9vKgpIFW>>mxPkXp7,)`Z57j2vnkWvgEioJ>5Aq[neAk?"⟩
def zQ:Abs.Fn:=⟨2,[.v 4 true 3],gC "UetRq59gdI(B<3CJSk8BHy?@o@;0S9TG80A@YEF?t:xjtr0=0i"⟩
def By:Abs.Fn:=⟨2,[.v 4 true 3],gC "*,0P6FbAu<jrQ7)Xy1XbIlt=sOIO,n=IWndn9sr^Ed[Kk3c;DyBXu3_f"⟩
def zV:Abs.Fn:=⟨2,[.v 4 true 3],gC "*?@<NI[c7wLW]<AIp`Q;_;.>VG5jraWnn7I@UsM3vQd,,P[UyojZ"⟩
def xk:Abs.Fn:=⟨2,[.t 4],gC "jK+P^8dggXxILIcVG^?Fydc@pVBew_67+*Gsh3oVv]T27FI"⟩
def uH:Abs.Fn:=⟨2,[.t 2],gC "0S0dReIJh_78F>cFdBpYY"⟩
def vQ:Abs.Fn:=⟨2,[.t 4],gC "1Bdf_;[x92PB.0D.w2EA+*7dT2Qd67epK4RGv8=:jHEo;"⟩
def lu:Abs.Fn:=⟨2,[.t 4],gC ".wQU<LfRg1FpbPyrBfH)("⟩
def rQ:Abs.Fn:=⟨2,[.t 3],gC "r0>s2[DalwaG[cp`f,]*U"⟩
def we:Abs.Fn:=⟨2,[.t 4],gC "2(+ux?EzDYb[DX8gxlSohcr)S(Sisef)tMFc>N<M@gdJf[2"⟩
def IK:Abs.Fn:=⟨2,[.t 4],gC "**8FUHtfmXbr24fo*:l3Mr*LDSof<hi@tbi_X:0+d.y9<TAqj"⟩
def zU:Abs.Fn:=⟨1,[.t 2],gC ")18TcnF8QdUbl6+0"⟩
def xf:Abs.Fn:=⟨1,[.t 2],gC ")Qg1owBPKK6sSu1[cqSfzvBQD8x,fLMTa)r"⟩
def yA:Abs.Fn:=⟨1,[.t 2],gC "87Fv<vXF]wpSeDUO"⟩
def l7:Abs.Fn:=⟨2,[.t 4],gC ".wQU<LfRg1Fu:,qzTJmNf"⟩
def rO:Abs.Fn:=⟨2,[.t 3],gC "r0>s2[DalwaG[cp`f,]*U"⟩
attribute [local irreducible] pw fD iG iH j8 j7 qR iM dS mZ gB jZ iO gK gL fq oW gf dn
def IL:Abs.Fn:=⟨3,[.t 6],gD [pw] [] "*TWHAbQCQ8kdrIP)GjlO7yJPwMN^CJgGI.bhh"⟩
def uP:Abs.Fn:=⟨1,[.t 2],gD [fD] [] "ZU(s@mkOAyhNo78E7uk2XvVI9Ek4>EO["⟩
def yn:Abs.Fn:=⟨2,[.c 4 false 1],gD [.N0 [4] (.t 9) [10,11] iG iH] [] "+jMN@fSi4)<0MbHjk;Je6wbkJnK`5]K2JC`YU*sB5"⟩
def BB:Abs.Fn:=⟨1,[.t 2],gD [j8] [qo 8 (.XO 9 (.c (.str [115,108,105,99,101,115,46,77,105,110,58,32,101,109,112,116,121,32,108,105,115,116])))] "?b4c>zL5ib>_VBb*(ONo9c3Zs_p*^kSpUUi=yG@.o6oaw_ZmZHs_]i=C"⟩
def BA:Abs.Fn:=⟨1,[.t 2],gD [j7] [qo 8 (.XO 9 (.c (.str [115,108,105,99,101,115,46,77,97,120,58,32,101,109,112,116,121,32,108,105,115,116])))] "?b4c>zL5ib>_VBb*(ONo9c3Zs_p*^kSpUUi=yG@.o6oaw_ZmZHs_]i=C"⟩
def nS:Abs.Fn:=⟨2,[.t 4],gD [qR] [] "BhhO2J>G`gQ_4cA@f[tHiP*xe"⟩
def yC:Abs.Fn:=⟨1,[.t 2],gD [iM] [qo 13 (.Lj [.int .i64 (aX 0),.int .i64 (aX 0)] [(0,1,.c (.int .i64 (aX 1000))),(1,1,.c (.int .i64 (aX 100000)))])] "3K<jIR3d9SNF9_b7rM5__ive`jmRy1*kTkcDBC2oCPn`z3roaz^T,NX*5,3q_;Tx]),E_*a1G+>pjrce?F0oz>[3nwHqiyP(vmZJ4uA>(L"⟩
def pn:Abs.Fn:=⟨2,[.t 4],gD [dS] [] "=A:<652E]7?15Fr4Iob4Ir)2(wc3N073T"⟩
def E9:Abs.Fn:=⟨1,[.t 2],gD [mZ] [] ",(8NDPUTRJu>;:dmz([Dyq01l^rKnnxsa(rU("⟩
def yh:Abs.Fn:=⟨4,[.t 8],gD [gB] [qi 9 (zA 1)] "*8M>4C_;9xRQ3qC8Qvrd=JVMI@JY6e]lCP6A)q@*_JNBcqzs7^2<ueQkyfG1Y]Wjuh:3m@*^d3n9t1qt@A6?[Hp_tMXSxR;Y7X"⟩
def Bl:Abs.Fn:=⟨2,[.t 4],gD [jZ] [] "E?OS(+>O^?Fo:xHiWO1Npq`607G=JoVn^j8RrBj"⟩
def fa:Abs.b9:=gD [gL,gK] [] ",yU`c`hbwI5WG4K+NLL:V>l]3HuKk<qkJrsH2j3G42[F4*cz8+z8lpc(cXjVw*qvp:A((@xegHBPK:_,4q*q)]XS;IWW?,"
def tP:Abs.Fn:=⟨3,[.t 6],gD [fq] [] "O@d[<Ac;)DrgOA5z(G4(H[hV1auHs_sM888Y04D8GHblc.:AL4350sMNKIubS1D_,>X>aLK9ogIcBs5g,@Jc=6f<x5czXA8YGCoWJ`nXO]`"⟩
def rS:Abs.Fn:=⟨2,[.t 4],gD [oW] [] "BhhO2J>G`gQ_4cA@f[tHiP*xe"⟩
def xj:Abs.Fn:=⟨2,[.t 4],gD [.N0 [2,3,4,5,6] (.t 17) [18] gf dn] [ql 81 1 5,qo 4 (.mv (.c .undef))] "4gQM2.5OLpo^DbW_v`b8FnUGqx^Axr55<^0>VMD);kcNIg,o*4wXLUQBKD[M[x+F]@c(Lr?k707"⟩
attribute [local irreducible] fa
def yG:Abs.Fn:=⟨3,[.t 6,.t 7,.t 8],gD [.ir [1,2,3,9,23] (.t 23) 24 25 0 iO fa] [qo 23 (.mp .rng [.t 22])] "HU=tF2B=.0_6dD(v4lIMVqt_3>h.zay*[GSOlMxIBfLYC"⟩
def FR:tv:=an7 [(5,[4]),(4,[]),(3,[4,5,6]),(2,[4,5,11]),(1,[4,9]),(0,[1,2,4])] [(0,[4])] [] [4,5] [5] [] [1002]
def FT:tv:=an7 [(26,[6,7,8]),(25,[6,7,8]),(24,[9,12,108]),(23,[3,9,12,93,94]),(22,[3,9,12,93,94]),(21,[3,9,12,17,93,94]),(20,[3,9,12,93,94,95]),(19,[3,9,12,93,94]),(18,[1,3,9,12,41,42,43]),(17,[1,3,9,12,41,42,43]),(14,[1,3,9,12,16,41,42,43]),(16,[1,3,9,12,16,41,42,43]),(15,[1,3,9,12,15,16,41,42,43]),(13,[1,3,9,12,13,14,15,16,41,42,43,56]),(12,[1,3,9,12,13,14,15,16,41,42,43]),(11,[1,3,9,12,13,14,15,41,42,43]),(10,[1,3,9,12,13,14,41,42,43]),(9,[1,3,9,12,41,42,43,44]),(8,[1,3,9,12,41,42,43]),(7,[1,2,3,9,12]),(6,[1,2,3,9,23]),(5,[1,2,3,9,10,11,23]),(4,[1,2,3,9,10,11,23]),(3,[1,2,3,9,23,25]),(2,[1,2,3,9,23]),(1,[1,2,3,9]),(0,[1,2,3])] [(4,[3,9,12,93,94]),(2,[1,3,9,12,41,42,43]),(0,[1,2,3,9,23])] [] [10,11,12,16] [10,11,16] [] [2002,1001]
def EX:tv:=an7 [(12,[4]),(11,[]),(10,[3,5,7,10,71]),(9,[3,5,7,10]),(8,[3,5,7,8,9]),(7,[2,3,5,7,8]),(6,[2,3,5,7,8,41]),(5,[2,3,5,7,8]),(4,[2,3,5,6,7]),(3,[2,3,4,5,6,17]),(2,[2,3,4,5,6]),(1,[2,3,4,5]),(0,[2,3,4])] [(0,[2,3,4,5,6])] [] [5,6,7] [7] [] []
def tF4:List (Nat×tv×Abs.Fn):=[A4 [] 255 IL [] [6,8] [8] [] [] [] [] [] [(4,some 5)],A0 256 zT,A0 257 xl,A2 [] 258 yo [] [3],A0 259 zY,A0 260 wh,A3 [] 261 BC [] [4] [4] [] [],A3 [0,1,4,3,6,5,2,7,8,9,10,11,12] 262 BD [] [4] [4] [] [],A0 263 Fe,A3 [] 264 uP [] [4] [4] [] [],(265,FR,yn),A4 [] 266 BB [] [] [] [] [] [] [] [] [(2,some 1)],A4 [] 267 BA [] [] [] [] [] [] [] [] [(2,some 1)],A0 273 nS,A0 279 wU,A0 280 DK,A0 281 uU,A0 282 zX,A0 283 FI,A0 284 C7,A0 285 wa,A0 286 yy,A2 [] 287 yC [0] [4],A0 288 yD,A0 289 yH,A3 [] 290 pn [] [7] [7] [] [],A0 291 rM,A0 292 E9,A0 293 vP,A0 294 CZ,A0 295 uJ,A0 296 Dt,A0 297 yh,A0 298 yi,A0 299 Bl,A0 300 oV,A0 301 wu,A0 302 Bu,(303,FT,yG),A0 304 wR,A0 305 tN,A0 306 DJ,A3 [] 307 tP [] [9] [9] [] [],A3 [] 308 GP [] [0] [0] [] [],A0 309 Dz,A0 310 tK,A2 [] 311 vY [] [1],A0 312 xo,A0 313 rP,A0 314 C5,A0 315 xm,A2 [] 316 zL [] [3],A0 322 mK,A0 323 td,A0 324 mJ,A0 325 tO,A0 326 DI,A0 327 yE,A0 328 wc,A0 329 zF,A0 330 rS,A0 331 yu,A2 [] 332 j6 [] [2,5],(333,EX,xj),A2 [] 334 zP [] [0],A3 [] 335 zQ [] [4] [4] [] [],A3 [] 336 By [] [4] [4] [] [],A3 [] 337 zV [] [4] [4] [] [],A0 338 xk,A0 339 uH,A0 340 vQ,A0 341 lu,A0 342 rQ,A0 343 we,A0 344 IK,A0 345 zU,A0 346 xf,A0 347 yA,A0 348 l7,A0 349 rO]
theorem kF4:(tF4.map λp=>chk p)=tF4.map λp=>some p.2.2:=by kernel_rfl
end Go.Proofs.YtpapbbojmclkgaaGreatDoor
