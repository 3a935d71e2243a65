import Derived.Test.YtpapbbojmclkgaaGreatDoorIds
set_option linter.all false
set_option maxRecDepth 100000
namespace Go.Proofs.YtpapbbojmclkgaaGreatDoor
open Go Go.Abs
attribute [local irreducible] aX zA
def tI:Abs.Fn:=⟨1,[.t 2],gC "Z2CtMNvO^v0*g1`NC)0]`.i.=QVgmm4b.<*FYvW[_DILZSNkQ<*[eWM5VbAJsj,Uw?^550L1,l@6d2L?e@^^_n`Zp^<R);8nztQ<op>TnCasbYe(q;26cUFh=[E@DrTd^>60(fl.>4[mG9gIVQGwm;oA0I6z?:YxO1O"⟩
def oh:Abs.b9:=gC "8vW3sO@4QBEI0;]khe*RVwzb^N5nY[QsPfOTnUth.:x9KrZBAdj?zA*.bH^DarX.9Dqhnwc99uf:l6=uHJK<Pi1^EAeL3)r)?Mfy:pR+"
def vy:Abs.Fn:=⟨0,[.t 0],gD [] [qo 41 (.me .b2s [.t 40])] "q6MxH+5=8[@XGG>M:by`g6v[c]v*a4EYxvQr1fXLelOEJUfy3KtY3ox(nK@VLQzgfi7KU_R?UPmaOeAd2.Pwfq<DJ9b`I95N:R;ZvXO_Q@5;^SuP_*rY0gR)sSgV6J0>pu>n)BQ8FrA?XqmcJx*F5l.xLM0QCt(Rn*p:l5zbxR=GM?9Slv`2I<tcAC2Wf;ds)vcqJ@h:usV0J>0Q=(k3ip8:*GIDtLBRsVn>q)Jrh30BO>xSw7EE3wL`+csLjn0[yjp["⟩
def Dv:Abs.Fn:=⟨2,[.v 4 true 4,.t 5],gC "DQg`64.G(pvmfF8,IlHEdfgE9.n?<2Gfq<qU`7a`ki3HRw^yFVVAi4pJ9lmY[Yqm3vNIAxlgs.@c[XUx,BQgszhPr`qx,42:(M+]MQg3qBbDs_7,7aQA*t^)j35FlF:lROn(J[][jF2Ab]*WB[pb@X;s+^<NhSwZIaIRng1bS0VHdU00=;]]m,e_Q^0_i"⟩
def Gu:Abs.Fn:=⟨1,[.t 2],gD [] [qo 4 (.YQ 1 16 (.t 3))] "*3jxFJ>=wP=zqBE"⟩
def nu:Abs.b9:=gC "+5<mfOP,]XSOzCRZ?Hq.?3(=5@Rp6cpy;[Jl^R7@u9575c,ez0@z?sh^djy"
def pr:Abs.b9:=gC "O.vUV_N?4zCu@q]u>is`,m4Rg[ePzZuO5xKz]VlfCgi8p.>2OiS[h(b1sB3NmJthE`s.m;.gE^PJr?jMmsw7kqu0Di@DYX8ZGY"
def iF:Abs.b9:=gC "KH^ZJH:3nZ.EF;n8UU?pLFvY(UGbI37fU4OCp,WZFkid5QK=sjbS+S[a_*9j<V9U77rWjPt?1sZ[rto(l,"
def oi:Abs.b9:=gC "3Y:>b@6Bp9CD9i4+:@KWMmAvvB*mkvb22@T.C+okJ@76,biX6Lpkxy`]cl]SuqRNzHVu"
def jw:Abs.b9:=gC "uypr3+Ce6m9j3.w>@;arBa*FiKufsbSgnl42tk)Jr<cK3fHO^=dJwaG@xANg5pGOM>bx*0<*jnYgf=;w1gHF5r[I.prW,GKAYWr3wX4f[xCl_QsXd*M9JHrMoKWjL.gp0,CZ"
def jx:Abs.b9:=gC "n;[3vkSwv<^T98S.XKG@3WBdeoyJVbA@mR[zv*A:b*YSpjIyAH:+[su_VKGC0s_zYFpL>09,.)3ehfaPFFhS>`Cb3Ea``hNZxBeU0XA(*5P9^Jk9ZFd<8]wMve_:EL6J=fLwECTPtjEgKna),Ll8makJ9)cMGge"
def lW:Abs.b9:=gC ".+?(603u6H1Up0S7_69ld8awnI51]ywn?w]vBH;UM.CKF5PNT5zn:y5Il`Y1M.LdxG`F.zB52=.wpmYqivbo:]n4S5oz7xZEAZZ<wwRDdznIC0`8i<<^Ke<w6hheNzzB4:@v2Z93xaQ@=fwuEpT),R)p"
def kH:Abs.b9:=gC "71t@?w;3BsVzCj3mx`uJ__Fc[cr;@C(U(Hp^WS.I>>BmuKLCzys*JNL=ZnR[wFwRV(Ooq]Ot^XzA,`AB1x9@rq>PV)(u=`^p2QLY,Zfr^<sK^S0*Y=+*xE<0n_UpB_bPszJ0tyr*m=ky[ttzvNP*1VAL]FWIvqCAkG"
def Ki:Abs.Fn:=⟨3,[.v 6 true 20,.t 7],gC "0@@0TghsE=^ZyH7RIp6+qic(@q7:P@+6;38B]BynrV68M,YfcK@`uJ7m<b.CG`oMy[rxPw7z>FA)0JIwB>7sQ=AN3aaOuS?M:LVWVgRAMIQps=P20v(JXDFouCsVbkrrzFhZfV74j@.VZqBwTEVY=qs.B;^6UY_R5hXKa.eFW:>ikrFK]zm,4L[?0Y>:Ku8+GfQ*P2Kl*7`PYiUFv5OpX4F@MXOmIb;w1l9O)5fRmn+d)NPDvjJQTrTW7rE1_d`g]Pl.yhYy4tIX8>RXRr8)f6*pxcZmz[^l2=81[:l`M>tmmmeBr>h7U=?4IOlE*Dnv;C9(q]Hwtnyq;wvNJjCtMgnkp_i?YK06c5njMh`ib49z5QJcR5loeWSSoHQRp9N[fUK=[a7Hbn3QhOlIUSybCij6<vuo.RKc)MT<X:5YsZ(sSrOTrBcb>xIIQUsVq,w6IHO`1)^38T*l9gGkmEyk:xP9]D"⟩
def Du:Abs.Fn:=⟨2,[.t 4],gD [] [qo 14 (.Jq (.Oe false true) [.t 11,.t 13])] "6zMVe_Dd>qz7Z=[njc(+9Vq<sXWc7(quffEhB=3^n"⟩
def IB:Abs.Fn:=⟨0,[.t 0],gC "1i]V2hRp3IZ24,W_Pg2utvyan4IhR>:lBdPKk*Ng3^Jyno>WdIG0IBCTJ?`fT?rx8sc;9"⟩
def C0:Abs.Fn:=⟨1,[.t 2,.t 3],gC "5DF@bEuIi`mly*g+9e3bsaKuz9fc5`2GR0)jne91)gYCn+2"⟩
def C3:Abs.Fn:=⟨1,[.t 2],gC "6<s3vod3I?HMs7x08X?io_:yMYZGo)FgD,mFPT9y"⟩
def gb:Abs.b9:=gC ".lwrYQKCdVoeGOVPoA]L,PfG9Bsvp3fK.Ic5krPaqvm6,Tmffs^s:Ys3q2Ll?]j34H"
def kA:Abs.b9:=gC ")=.iHzJNX0mzoH<fac]<FkYf<W,3C(P9sM,ObgmRmU7^gA8iTMp.3Kl>zfn`u"
def Bm:Abs.Fn:=⟨2,[.t 3],gC ".omCslit.Wu=F,w9kbJl@,8jb"⟩
def Fz:Abs.Fn:=⟨0,[.v 0 true 20],gC "0Tto^?:+c>.9,S+ftSa5lIbo`RlPhEA1t"⟩
def Br:Abs.Fn:=⟨3,[.t 6],gC ")DQ^IVTj0X]+C.(hFrfZV(+h,8bMgPl"⟩
def uT:Abs.Fn:=⟨1,[.t 2],gC "+KquS]PIV=_=aDCJuSc=7ngu]DiSpv"⟩
def yj:Abs.Fn:=⟨2,[],gC "*1<^q*gwLNgqP57=BB3ld"⟩
def uK:Abs.Fn:=⟨1,[.t 2],gC "0Jeeb9y)]2pAzjyd;@v;Cn^[<dY3qDl*ONV_q1IkJ)]?jUE^1g;_jS^1,mQ8QgBP_m]q^c2kjDGa8"⟩
def vS:Abs.Fn:=⟨1,[.t 2],gC ")hIRfAfRg+Rtt.<tw7BrUjR@EMvpzz*Fgc+x>r2b"⟩
def DF:Abs.Fn:=⟨1,[.t 2],gD [] [qo 15 (.me .b2s [.t 14]),qo 12 (.bin .add (.c (.int .i64 (aX 48))) (.t 11))] "8*NHF=Oov4z*AN47I**PLmOXIB)tH,kl7ufMT[szp0uP+wymvTo,Nsz`]3:(b8;L5>vrTIH[2fkH*L5MUvmDAJOdv"⟩
def DE:Abs.Fn:=⟨1,[.t 2],gC ")H@r[4Vi+57KCDpoWf+>MEA(P=pn:fZg<4=>[T=3by,@Y;>oknW"⟩
def GH:Abs.Fn:=⟨1,[.t 2],gC ")hIRfAfRg+Rtt3DUGjpqIY]J?U8VfEtB=lj`DM+r"⟩
def gF:Abs.b9:=gD [] [⟨some 26,none,false,.call false (.t 22) [.t 23,.t 24,.t 25]⟩] "D(R^=Dxy3H:e48ZHZ=G5M:F<+M(r4vik`6C1+4jI)qru5LpU7DTzxPa0G.uV[QRU]k6bM)="
def jz:Abs.b9:=gC ";nxgm3oltzsvB5VaC0zRJav^VKlZC_rfC,=NIfxcISHy4As"
def lU:Abs.b9:=gD [] [qo 36 (.Jq (.Oe true true) [.t 33,.t 34,.t 35])] "D*]t[FdH_c05+YnID9orpM`)I53Dd1,j>w00vrjXuEnKbU@e(:m9Rge8YT:PfT`bw1*`M=+TWoDyEiDG4KvV[Y@+jO>A@rCf469nWZl"
def lV:Abs.b9:=gC ".E.IxX(<i8RZU<:eGre@rY=[l;t;LhgXFlnA?cpCS8]SpQX?,Kdp5qVDP]TQM7@8zt9**^ra1Bmw>jDd^Tgl;D:JOimfd=`D8rIAYAckAirTM=C"
def ou:Abs.b9:=gD [] [qn 64 .add 63 (aX 5)] "+cv@lC_zoM[L_Yb[<P=H+tYGMn4AMB;A^pFfTagPh0qT::E.zwlOUkrKGgFO9Y;.X?5nhev,tZI.e.^Al,)tq]IN_WQctzC8p=tIiHr^[Dx@zhyX7><T,ou.Lszu]Zk34W"
def lY:Abs.b9:=gD [] [qn 101 .add 100 (aX 4)] "+04T0tzyhHaSb_wUzY?VhouAvV9WMV@GMo:@1E1k[fU>zr@8OLP*;wG9oaOvSW^PU?8Uxkic1BtliwsJMnkaEGszjEI=SS7bteQ:aL=:30t3Chnnp0G.Y=WC6U(6j"
def nv:Abs.b9:=gC "52o0XZmB4R1lsfrTOqIRnjK0r81w06`sN1)^Pq71U_ffmJ<Nj_lP;h+fG6nV7.rIQ1Tf8JG;2OQB9Cd6Z7gQz"
def pv:Abs.b9:=gD [] [qn 37 .add 36 (aX 2),⟨none,none,false,.Ie 10 [(0,1),(1,1)] 1 55 (.t 45)⟩] ")<Damg9hcBnrR]J_n7b`=jt][4:W1v5eiD>BX[W>pa4jwsv`t.qOg;V3+FK5o1<VH:SG7vcw6w*g=:pFrcw])So@6]vwn3g(8`[IPe+CuaQYj"
def ot:Abs.b9:=gD [] [qt 1 91 90,qO 82 (.Vl true 4 (.t 81))] "Z.h,4pJorOkA0YHY1G?4=EX0aK0X53b9pnFj7`szF?ol<(MUicWLt32FlA>;JBe711^]pw]>x*L2m2srW)xO.X"
def nA:Abs.b9:=gC "H:OH<*568WVH,PiBNp@HgX5spbNNCUI>bv^PBW.kqL6Zw9MG[sGA<8T@Qx@oP99<y]S7ht[GE;=3t*04`6b=GtFC0M@?`56)K<=Lw<8;S,seSoW.q"
attribute [local irreducible] oh nu pr iF oi jw jx lW kH gb kA gF jz lU lV ou lY nv pv ot nA
def IA:Abs.Fn:=⟨1,[.t 2],gD [oh] [qn 42 .leq 41 (aX 5000)] "ha1(z;:zD:;Cc<Gt,U2:l2MkVuPJxzZ(V(By[Dak0[4dBNedAFefD(ASl*7s6:3ZAx>d@jSk5]jmBMjuucdGcg.1i1[5lG5pu(HC5QQq("⟩
def FC:Abs.Fn:=⟨1,[.t 2],gD [nu] [] "1i2JyEco(=F[h36H8GjOJ5F,CxPu"⟩
def II:Abs.Fn:=⟨1,[.v 2 true 20,.t 3],gD [pr,.cI [1000000]] [] "H3Objyiz@Qk8ds=zJd+=f[uN4>rY>K`dJ^iG[j2YOOr+=PeH^O:qEwOi]im"⟩
def zG:Abs.Fn:=⟨2,[.t 4,.t 5],gD [iF] [] "8b*XD*SozTFh5t;1XsSVl*43CO7Vv],UPLnt7Zs?<+BW63WZm,gLodV6TJ_^JYJz6Ausk.vTRbs=A17qC?dwUMv)]V6QC0UfWFV:*B,huOs4;s7_kV;<+WXnM94)D3FhuXaI.GgIpC?e.6K8y7[ieLoTwVC7NH9bX(Yn4UT"⟩
def Gt:Abs.Fn:=⟨2,[.t 4],gD [oi] [] ")L1EOZ@x=zxKY68dY;>naoDt;cSlMFi)vFMrHfNO^?T"⟩
def Bn:Abs.Fn:=⟨1,[.t 2,.t 3],gD [jx,jw] [qO 37 (.Vi .i64 (.t 36)),qo 9 (.mv (.c (.fn 42 [] []))),qo 7 (.mp (.Lj 115 5) [])] "EC=3.I+voqs+sT4aWMv;96MoJQ;Q`8)gpA7*81jKztNFV]Q2RxWujR.YN@:hDi6PR`7oPS5JS;vom=ePN1TOMv0fQqXkq_7aPkT3PZHY;:z9(Rto<FBi?>oS1?(fk>WBOb+Drnaj^?]ODObo,LSbXOiUSadQ^iF@FAP*r`A.`a1*vLLYy=3SbQgpk(SH6m.WaUk<_MwQQLj4]dW2[5CYPS*f1infP1nHNHOGE"⟩
def DG:Abs.Fn:=⟨1,[.t 2],gD [kH,lW] [qO 15 (.Vi .i64 (.t 14))] "<+5sJN5pm3yySIh^WRZQd@C8Juk(b(r@,p)lP?(6gb>G@KsFu3fiwyljFQ3>a;l.ZciS@3ms?Rj*=s)E3j+J?1e=sHtoVYgXEGN0D:QiUy4^,lHf"⟩
def Fb:Abs.Fn:=⟨1,[.t 2,.t 3],gD [gb] [qo 11 (.YP [(9,4),(11,10),(12,2),(16,2),(17,6),(19,4)] (.t 10)),qo 2 (.mv (.c .ze))] "*Ein5nGlI59qYM4+]_I_a3H0IO3F..hB,BsLTmxYg[HYp)pfJ*EofMpQAM6_UP:`V5aYPG0;us05KTya"⟩
def l9:Abs.Fn:=⟨2,[.t 4],gD [kA] [] "BhhO2J>G`gQ_4cA@f[tHiP*xe"⟩
def mQ:Abs.Fn:=⟨3,[.c 6 false 1],gD [.Uv (.t 10) [] gF] [] "8;Wh)_goW).3J65)]<,Op))?wdDJh.h]q"⟩
def zJ:Abs.Fn:=⟨1,[.t 2],gD [jz] [] "+xW]oQ<ti5?7c?Fvxg?y)hKklIoKx"⟩
def FA:Abs.Fn:=⟨1,[.t 2,.t 3,.t 4,.t 5],gD [lV,lU] [qb 17 true] "=apryY>10HG@*lh7_Phq.h,*yrKQln4bRtC2j.p@nZ[X9oBJr0P:Z:mi3MjIIk,3*;EWgrwn@,a8A8eiwAzZybT`QF0^B:?:<W_;*]kZi0H?vQ?wm^aBmu>_08;HC)F?t`,5q,8(M)(MPS98(^cTHH?MHH>QsWkk?V<>k8G:y+L>C:y=e]RCXhWjg=(K,sQCp_c:)Ofy7TrEkHV5TQe8Ugg],_xm+ZX9XRFNNYmeViDZ(K)]lw<6*WZ>`e=LE]*)PrF0j4]@nSpaTfg[9q?<`mxR6.5<p1s^0]_UBl*[vw_A1qR_QHpLaRUrFz^q04<xp<OhmEKgrt^3:olswbEhK<QaZ7Z*_vr,fCZRBhdC]w*45IEPu8kX.TFJ8QAl8OIF_:I.wdy[e0Krf0LLkTNf@kBCk>?lxk:uE;xZX.nvstsN5*5*=<`GBZUYQUt_J03.9+,0k0PgL;;tL11`owgWU`(w..)P+r=U_sHLfn:h9V8E)iY`JkU2x6Jp?pRKiST2+*IYpp?H;)tR3RF0:dOnb7LN>dXwie[]Zh61<t0iH_C4bo5MQ4.o@y.5EB(jK;[=WtO^l]4Ys2bW^QPv"⟩
def zO:Abs.Fn:=⟨3,[.v 6 true 20,.t 7],gD [ou] [⟨none,none,false,.Ie 3 [] 1 135 (.c (.bool true))⟩,qo 15 (.app 3 24 (.c .bA) (.t 14))] "2XaWOeV6]aRSTwdU@DcqouvsvB0@[L_6s)o1ehz*Ppk9wc9TWxLN@DfT)Ts5_Z7U<c=4L;TOB_BXg=rzI6y3xliX9KA?d_2OJqEU)dS)zcB2ZvHeg2`FN@6,2*ga[aa=:iL5,9_tULK(EQ=>T,o2_8Tcr(=F*Zy[;c;gn(*67;q^m<nmy?6,,RWP6?M45>DeNd]J^EP)+W;z`Z[8Cx:20^B=EYj,(=S7?xJD+p5z7w(ugPxFySL=wP51JC>7rLB029odhq`bJn:Og3s_(u)8dOUKvzeeP4<aO`=3w4Vu`J(qv0g8sknq_(dfu0O[E0^rDB6iRQm0XXk3SqiTvQP<DW`0U=Up1KzzcFS+8F6mU(E=EYm*glEjVkLSzl,8a8Z[3dZBy3NTDNjP3Qlc_dhIO:1pee6p`YY]<27km@<n:=EsNmYChbMNQ)]A7nV9Gz2,erk;c4JpUF^nikF*Nybt(0^?xnDSA[UUY9o7@A7z*MDg+`t,D9e_rJkyIN5FvzI^@8>E+fT=Xf4TG`aR8tyAUDv8e*OS<S.3E9x>ab:AMzRTpK5@P*P63+2Oe_[pO1C@ylqGh00<Ra0fyZ[vps8rZmWK0G(R+hU09]V^yTy1>mXfSSpv?A7PYo5lvwSJ7TdbdZ@"⟩
def FF:Abs.Fn:=⟨3,[.v 6 true 20,.t 7],gD [lY] [qO 53 (.mx (.c (.int .i64 (aX 0))) (.t 52)),qO 52 (.mn (.t 51) (.c (.int .i64 (aX 9))))] ",yfJWb;CtABmqQi(@LxBi?_,][jF+^,NaLS@HQIQD6t4,hi4IZsm<[9IPiw6_h_y4i6V+jo6gBE9xO7z,_APe(08jvMB<UY.o]jMiX`^.Yfj,aHlP=f5[G+rJ6hUuxV8NYXBsM.D3akWZ3*_JjIXh.d;W_0jvfS[KANFn@.G)6U+?C`_=,xKlT.mY)28intJ<Y[]Ad(o.YkneMdW@J41P:@N.K<+h9G7NPF;`8,B@j,A7UORsE4dYHkckp5wEOZuTv1GcUpSh<0GQchuPY9)LvnAbiUZU_Pvx=<yU5BJr0^,E`6wpvC_2ODZP9?Nbu`(TMfu0Qcj2+D?2lUdGQV(y]Rd1S?02KPo.>jvdO]I;FqN[rY,jIyK_N_NRGg>9e`YSdJMVQlJJMAbwCGxC7b+[tjOcBZvu+X4J6`^i_=d.grZltn2xhJonxXsaLTe<M9.J(E;^QV]Gff*q+,k5X5W(_x38pw@v^yM61BixBY4QbvjI6CBjvE*@]x2B;i<wRaBRKV.@"⟩
def FE:Abs.Fn:=⟨3,[.v 6 true 20,.t 7],gD [nv] [] "2a4)+UdZHWx(HCeKiH(clS(do4u.+DbSJ<2Ou`I[loEfuSMn*eh?yJ^]wti,f^^Z@^le8:2slFjTAXs^,Fdd6,i9<[i*^dYf<`[q;L;A,*+(h0zC,yUoKv=TueqZ8w1Ew[e_dnR3B_XQeH4zkAe[rg`pMeE<HYN`E:.Oel63k5TO:b[)wx5dl*plErwATyN@S[D*bFA=hHWj<d7mCI^ax6=ZxkRLOh*yjP`cW80"⟩
def IJ:Abs.Fn:=⟨4,[.v 8 true 20,.t 9],gD [ot,pv] [qO 92 (.Vl true 20 (.t 4)),⟨none,none,false,.Ie 10 [(2,1),(3,1)] 6 10 (.t 31)⟩] ".C]<[hpqg;AsIfv5Bs.GlRLSByVosPL4`1,FnsQ04H.2sZqDU[Zmp@nb]h^mNZPzOd42?3wy^(]cbfd?iC*pb[5N8=<6wjdq3lVs14A)tqMVOcCpo)q?KS*l6naufxltqNr(rcVWWMHZS7xm`25;mmZuYd>5M_87.EZ4f]EaauO)Ol3Q6.qa(KH)w>+u[iLYti<gbxCELlnwVCx)^xqj:2t`G1D5LJUwNoqN+YX+l6?,SLmc5^b=BfryR,QbH"⟩
def GL:Abs.Fn:=⟨2,[.v 4 true 20,.t 5],gD [nA] [] "8nPLxkdXu]PB5S^SH7DUGnQ.u`zW+<lHVdxXP5bWvcHoCsV@sRN9)vyt^0oXv3SB:qlo3<g4e]8+MH9i.eK>o3(+84<5^uCwwj+a>UfB8wfeuS>@Qn0KToi2`3.fXmH,fRv7QPSi13_:^0C;]n.ea(eu=ro3uqZF,72h^NxkQZ^2k?vUFf?_pvvC>Z*uIlAb>gHscV;+7`g`E"⟩
def EW:tv:=⟨[(5,[6]),(4,[6]),(3,[0,6,7,8,9]),(2,[0,1,6,7,8,9]),(1,[0,1,2,6]),(0,[0,1,2,6])],[],[],[0,6,7],[7],[],[],[],[],[],[(2,some 1),(4,some 5)]⟩
def tF0:List (Nat×tv×Abs.Fn):=[A3 [] 5 tI [] [5] [5] [] [],A1 [0,1,2,3,4,6,5,8,7,9,10] 8 IA ,A3 [] 9 vy [] [5] [5] [] [],A3 [] 10 Dv [] [4] [4] [] [4001],A0 11 Gu,A1 [0,1,2,4,5,3,6] 12 FC ,A4 [0,1,2,3,4,6,7,5,8,9] 13 II [] [2,4,5,7] [2,4,7] [] [] [(0,[1000000])] [] [] [],A3 [0,1,2,3,4,5,6,7,8,9,10,12,11,13,14] 14 zG [] [11] [] [] [7001],A1 [0,1,2,3,4,6,7,5,8] 15 Gt ,A3 [] 17 Bn [] [7,11,13] [11,13] [] [4001,2005000],A3 [0,1,2,3,5,4,6,7,8,9,11,10,12,13] 18 DG [] [6] [6] [] [],A3 [] 26 Ki [] [6] [6] [] [],A0 28 Du,A0 29 IB,A0 30 C0,A0 31 C3,A3 [] 32 Fb [] [5,11] [] [(1003,[(9,4),(11,10),(12,2),(16,2),(17,6),(19,4)])] [],A0 33 l9,A0 34 Bm,A3 [] 35 Fz [] [0] [0] [] [],A0 36 Br,A2 [] 38 uT [] [5],A2 [] 39 yj [] [1],A0 43 uK,A0 44 vS,A0 46 DF,A0 47 DE,A0 48 GH,(60,EW,mQ),A2 [] 61 zJ [] [2],A2 [0,1,2,3,4,6,7,8,5,9,10,11,12,13,14,15,16,17,18,20,21,22,19,23,24,25,26,27,28,29,30,31,32,33,34,35,36,37,38,39,40,41,42,43,44,45,46,47,48] 62 FA [] [12,18],A4 [] 63 zO [] [3,6,8,15] [3,6,8] [] [] [(17,[8]),(30,[8])] [] [] [],A4 [] 64 FF [] [3,6,8,9,10,62,134] [3,6,8,9,10] [(17005,[(1,4)]),(21026,[(0,4)])] [] [(22,[10])] [] [] [],A3 [0,1,2,3,4,6,7,5,8,9,10,11,12,13,14] 65 FE [] [3,6,9,53,60] [3,6,9] [] [],A4 [] 66 IJ [] [8,10] [8,10] [(3013,[(2,1),(3,1)]),(7018,[(0,1),(1,1)]),(7020,[(0,1)])] [] [(16,[13]),(8,[10])] [4,21,24,27,33,40,48,95,98] [] [],A4 [0,1,2,3,4,5,6,7,8,9,10,11,13,14,15,12,16,17] 67 GL [] [2,4,10,31] [2,4,10] [] [] [(9,[7])] [] [] []]
theorem kF0:(tF0.map λp=>chk p)=tF0.map λp=>some p.2.2:=by kernel_rfl
end Go.Proofs.YtpapbbojmclkgaaGreatDoor
