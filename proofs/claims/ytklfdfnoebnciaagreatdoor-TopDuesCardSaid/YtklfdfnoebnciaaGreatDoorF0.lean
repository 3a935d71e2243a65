import Derived.Test.YtklfdfnoebnciaaGreatDoorIds
set_option linter.all false
set_option maxRecDepth 100000
namespace Go.Proofs.YtklfdfnoebnciaaGreatDoor
open Go Go.az
attribute [local irreducible] aW AV
def lC:az.bX:=gC "fVV(`9:3*yse`()2g2zrEKTu7R6j0oGwf+cEOqHRB:y[8Nwf)V52S3dN_k.`xw>guN]7pFDTp`AvI,s^(0id(xa0<gL+.hmizbMF,bgFPzsVRCs3.Xc?gB(AVF?<MEi_J)*mV>D,YoV].ZU*(fr[Sh*i)u,YXTxDI+X+mQVunGyb48eB57HLQw[JgjPs4EzUI1Nus?cNi4W>qs3E[4I`jZ]f2v=INeVQ3e]3Np:W?Uz*>L?gnw7X9supp,:tmd2a+0J(CSe+7D91aBsDspt`2Zh_+ZidaphNZ2jBzw1J13ORerN@Vx?NPUtEQ2DjeNdKie>QL"
def oh:az.bX:=gD [] [qm 5 33] "4(alQFYqvhF+Bakq3c8JNdiu.(Z(tiND.aa)e;^,FLPN2R96,C<V<.5]uX48.lLEs5X4_][PL1YagYi*itUF3o4=w:A[XM4.ab"
def mN:az.bX:=gC ")P`.9.1M_zGrV(AA9QuPt^7pRV6C.63jK,j3x=DiWRRuXw?ANvmD02i7wB2"
def iO:az.bX:=gD [] [qN 29 .gtr 28 (aW 0),qO 26 (.pick (.t 21) (.c (.bool true)) (.t 25))] ".GNoh@F0Daki?KA;2]CR^+1._3M^]uL_MVF)qba2Pntpo.k3e`nJLO75PY632a0Kp5oJIfj=OO<h0mNAVZ0Iq0>iH,:6uLIHTQdJ*I3*edG==](>=@,a^GMMhar]jI3;y<X<tj7d9e8]FV,a^?O52"
def xp:az.Fn:=⟨0,[.t 0],gD [] [qo 27 (.eqv true [some .i64,some .i64,some .i64] false (.t 25) (.t 26))] "AA*AM5hDSx2t0v:TSVXjN>dAcw6EOrP>.xjGD+rWI[XzX)orS:Onxqhx[btILi;uhf?`<TEe*(3y.zkpvniR`1?EcuA[O.50BT9>E7Y"⟩
def Gs:az.Fn:=⟨0,[.t 0],gC ")r2c,iOlRj@8njK;Nm*w2>mI)cC8v`)pzw7oj>zbR?48VmU<2@^mm4AbiluM+IQl=USO4pcE.PaV8=RA9ZIdwb5+YHh*=V(,A6]FaSGx"⟩
def uG:az.Fn:=⟨1,[.v 2 true 18,.t 3,.t 4],gC "E=NOL`nbWQNg:Iv_s`:aj+3c^GFtI8yWoQ_6ZYw1BXH)H5wS62y+`z_d:,W>4`KZBHQ[ubbMH>o*H@Qqx@^+S5bzK]V,E["⟩
def jr:az.bX:=gC "H):O7GeBNy1b`WP]D7=uXADC+gMco2)eV;KB)MNhe5c4kr;>Gefq_Ij<UzhHozav+_F7]v,[wD7PHxPt@j]E>D)GV6SA6AaVUYmc9.9l+7M_6)Z>?Gz,ja3pDXyuv530@>w)?U"
def og:az.bX:=gC "d95:y6*+3W+9URo+w?)@,(5Qk@b<a:,120P6sVZ*N^.K+b9S`+t+slm9nbkMEsh,8?0DRTAEthtcSE`L_LFFlqASO"
def tf:az.Fn:=⟨2,[.t 4],gD [] [qo 14 (.Im (.ME false true) [.t 11,.t 13])] "IB:INS(G1XVC3SFq`*kq]jykGV3)Unr=mIAvTfeiD`f"⟩
def zo:az.Fn:=⟨3,[.t 6],gC ">BpQR_VY:,:6(uE4W7sF(:Z2PR^`S"⟩
def EO:az.Fn:=⟨2,[.t 4,.t 5,.t 6],gC "737AuPSqHe*iZiTk(ie3MyKjL*QJ.2qzKkkbBZ7W2*=lK)>G_9Q]U<;D:Jh)K>60T)SwHkZt.PCO>6FDbhkVR`?:n^_:K0<eL?1?(GK)=BrI5"⟩
def sc:az.Fn:=⟨1,[.t 2],gC "X=Z2,5<v1@?VfYumJ55EK7c^vIbF9nTB47Rs0X<>n"⟩
def mM:az.bX:=gC "AEGWCJ^4F9eA,g=+wNpSZ9ls8ZZk:q:n*7Q2s=7[N.d1Y4j7De>E6rPE[AJ;AvNz6V"
def gN:az.bX:=gD [] [qN 25 .gtr 24 (aW 0),qO 22 (.pick (.t 17) (.c (.bool true)) (.t 21))] "65EUGirVRxP7Suscob1]DJ2<E_dyPGs*hH]B)Gv,0IxmUWnNrXqnc,^+UWCwS=B2LZA4WJ][=X(Ht2r0QnJd9a+5VWYIuWU5XjguJGK866W9Dei@c)xZO0NHzl4[*a1iaa3waGJlGQ.>uV"
def uF:az.Fn:=⟨1,[.t 2],gC "7=iot>owA=WKX9Y"⟩
def ti:az.Fn:=⟨3,[.t 6],gC ")Vz9EfL:8NDFj>V,F=?]^eFs6>^`S"⟩
def rI:az.Fn:=⟨1,[.t 2],gC "1ID_7AgT)eb*a`U7<yD0zmDpvTD;kOz[ZR4O2hr?0IALbqBtWX6i*d"⟩
def rk:az.Fn:=⟨2,[.t 4],gC "+)*H[M;75+mpJlLXsqM6lQ9Wd6PqrGcn6okR*D8;Q"⟩
def pC:az.bX:=gD [] [qn 40 .rem 39 (aW 1000)] ")W<13eS=GN>NQz8Gry7Giphi+2c7Ox?PLALh*Z=S`1N=4`oM7]<<+5*8JXynuYi0w*sJJHH+PufXiMlNUk^Zob72nY0b]MlC^XYh*;(QkWB[Ja"
def oj:az.Fn:=⟨2,[.t 4],gC "7CJ(HU9iRA)bVODZAz"⟩
def oQ:az.Fn:=⟨1,[.t 2],gC "4uyNm?j*FX*P7EoBKY"⟩
def fN:az.bX:=gD [] [⟨some 26,none,false,.call false (.t 22) [.t 23,.t 24,.t 25]⟩] ")z(j.XNV0Y<QgE2LGDagMyfq,)P.XTw:Mf[2](71)gRbJ79r.z4q=^M.9kEb]^YmmDidc*"
def xm:az.Fn:=⟨2,[.t 4],gC ")[c86GS<KGo=4;HY@GpeuAz"⟩
def pF:az.Fn:=⟨2,[.t 3],gC "B2?1G:I:LU)mhA8f8THqKXUOOTepf^i>5lIl,;dPf>`fxJeBC8y<"⟩
def zU:az.Fn:=⟨2,[.t 4],gC ")[c86GS<KH>wX4oGFw9fpAz"⟩
def oi:az.Fn:=⟨1,[.t 2],gC "lgd<]XlM2U>?.9[4Y"⟩
def AF:az.bX:=gC "7p>97OL;=NHllvDc9emk_^Xy]9Q+^tGPn0m6j4hsmQTV"
def oq:az.bX:=gC "*5^x5?Aum3cu3;]NGpP.m]GOuPB6V<.OQPpia)zi4.HP(8(Sc:2>T]<YvrV"
def gO:az.Fn:=⟨1,[],gD [] [qo 7 (.SO 90 (some (.agg [.int .i64 (aW 0)])) (.t 4)),qo 4 .Lp] "+rg(e81fVgg*`O]il?AKFyUFWp(Mwq8H:@hCQwZ<K`lJo@RwH3,)l_za=sgPxuS,2I"⟩
def iN:az.bX:=gC ")uzfUwOvr:mCXEMK5Zmz^5=fyffLYWrdF62V[6ow03M[kwM7^]U_;7sD[tH<qvrj"
def oZ:az.Fn:=⟨2,[.t 4],gC "RMGURy=1yPi)b.[sc`z"⟩
def vD:az.Fn:=⟨2,[.t 3],gC "4+OTIw0m2HiN=57]QZ"⟩
def kR:az.Fn:=⟨2,[.t 4],gC "RMGURy=1yPyv^M1)WKz"⟩
def xn:az.Fn:=⟨2,[.t 3],gC "4+OTIw0m2HiN=57]QZ"⟩
def sd:az.Fn:=⟨0,[.t 0],gD [] [qo 0 (.mv (.c .undef))] "Knp7yFTH+gKCT<Y;akRuiqz?r]lmApG3F4;WCc41X+e<DwLuyG+.B<N>ZVGzIK[FsigWmFm6z.8>uZtt4;7<;xpOtqcNltNc[F9p2p0S><bMTaD)D1S:;]ufYzdkiIhUKu2Pv?rIIiUm_GVEw;KQf;Ik]jj:shx@Pk5abfIi[kkg6Ylr>0EQR*KTU*dn3OZft>l:JNK,p=.g0_=p:viwbS7`d2:WMS?*aJ[Qm)t;9]Byo[28Za1TKSjbQbvxz5*2MQJu[h]yKuf3N9t<3iilG53dGHwnWCs.y+N`YUHAa1+uG@)A3>@;Jfa0)OV`iK:"⟩
def rJ:az.Fn:=⟨2,[],gD [] [qo 8 (.RA 90 (.t 7))] ".Z6n>fh[kaa^P2F<aacQ.]Gm"⟩
def mL:az.Fn:=⟨1,[.t 2],gD [] [qo 20 (.call false (.c (.fn 60 [] [])) [.t 19,.c (.int .i64 (AV 999999999)),.c (.int .i64 (aW 999999999))])] ",0Uany??LU(cEJi3lDWeqO5(e^<@8PhaXJyW,h9y5mz,,;YSelR*2mI^G<P[jzdX8+5Nvb,Yd"⟩
def o5:az.bX:=gC "*5^x5?Aum3cu3;]NGpP.m]GOuPB6V<.OQPpia)zi4.HP(8(Sc:2>T]<YvrV"
def rl:az.bX:=gC "*5^x5?Aum3cu3;]NGpP.m]GOuPB6V<.OQPpia)zi4.HP(8(Sc:2>T]<YvrV"
def iJ:az.Fn:=⟨3,[],gD [] [qn 35 .geq 34 (aW 4),qo 14 (.eqv true [some .i64,some .i64,some .i64,some .i64] false (.t 12) (.t 13))] "Fu5JZxp^Qohb0n(x<xsWPU`3SKPC>uu8Npd1:`bmqL+T6kH2L0f2T@=zd1yg:rayJhY[8xP>F[OdMgK]Qn[c*ZDf><^sL<05<G[L@kJg`rSKR+7C=Far:"⟩
def ft:az.bX:=gD [] [qm 6 39] ")MksNB7DRTAD63=f],zIF8J7TRqHjS@A0mD,U,YR3,IoxH::k<NljRHR(@s*o=CS+]y9R@O3Z*5y.=P(HhU0D5x?Y0g^+Z="
def j1:az.Fn:=⟨3,[],gD [] [qo 14 (.eqv true [some .i64,some .i64,some .i64,some .i64] true (.t 12) (.t 13))] "GIAc^TBvXYgoAr?8jy,UIuZKv8Bargz,w:@]0FVnXhJ4QwjLkVF2sW=+Ms^SCX`OzyY*O+<.ZKbj@oOXq+P,[;3k(,ZWXz1Qc^D+xSd*<mEGEcNqxeD(bAHh_t6f5L6jk??_@H.s1tBFBD)D`CQ2Uc+vT^I8iDjnba(a7OJN"⟩
def jz:az.Fn:=⟨3,[],gC ")6>e,Ll)kimeaS^s=t[<iLWPzeQ6+KE.e`v9rbMDe,AmAmUU=);YZq@pc9E@SnhZQzf5wEtlBS8`oTE9o*I6So<e7z,uvVyT;9>7HR)CnS`B+LJVM@*x=`.OlmA0gAQ@v6F@uO5gW5eO<CMV,c=YiqwtidmVLEK<"⟩
def iK:az.Fn:=⟨3,[],gD [] [⟨none,none,true,.st [(0,4),(10,4)] 1 (.t 75) (.t 65)⟩,qO 69 (.PD false 1 (.t 68)),qO 65 (.Oy [] 4 56 (.t 61) (.t 64)),qo 40 (.T1 false 1 (.t 4)),qx 4 1] "3eb2Kq0D]wc7mevTv]q=ch^d^wZ)>APaDuZdLvp3mUg3:ly^i(5N)<Nrvpkl71F0+T8>l?521pJXlu8Wa];_C5F3[feV?3OcGR3NrVKPDzD9k[_gE()lOqFwII27Q<<1uJK,D7)a*:pP4]koxc]xOp27[_btUM[mqCkQBD*oOa_yGlOiuqWsn*zv(sm;b)4*prxL*xICK]L3*IVWdnyZSqg>DLzvuJGZzhgNQb[qzLHtYc"⟩
def ea:az.bX:=gD [] [⟨none,none,false,.st [(0,1),(1,1)] 1 (.t 45) (.t 44)⟩,qn 38 .rem 37 (aW 2)] "k?.:?K?lsPxs7qqju:GZ9oitZX(Q[Gl:=9?;>KyMnq*0:da86aL0V`?B;?iPfpfkBUWS2jURS`0?uIY+L`zzX3;r3wFop`d2;;fkt3nr7"
def jv:az.Fn:=⟨3,[],gD [] [qO 55 (.QN .u8 (.t 54))] "2E;6o0ICutXOZiT]+s;Ebx2`G,31?nqC,zS)FVTerAOJ*Ekl*]OD[fbQ3,Q28G)4.PkZF(Tk2xLO+AUt3BIOvooygI[DwvlyAJ*G8LE?gOc*Rl24yCsV8hTGzofMWB4GG([oZzb*S1hdkii4`;CLV(BCBftVOWenJnOFbNTIREam36H_s(YppiL1QSES*uL,HzU[mFi^?uq6[KU.q`Cl;T1*RSNcoE*K(xolGTH9yewy,QXu+LH=jTM>)=e]F*+nD]wi"⟩
def jt:az.Fn:=⟨3,[],gD [] [qo 19 (.me (.s2a 3 1) [.t 18]),qo 10 (.me (.s2a 3 1) [.t 9])] ")GD?_)(mghBZsDD_C9@zF00)(<:n*Xh5)dBzKznlmkkIHx0hG[cwxvf*A,ZIo*"⟩
def fp:az.bX:=gC "*.?hexza;H5jW^@;7xTn3z4X:S;L;IIYsBeGobD(]J=N,hFF?wA>?eQ+b`So9?AJHNy=6g1TGsep>n73Iwn;unJd>EEC6CRBgt3["
def fu:az.bX:=gC "2FjGYz@y2(JQizg^)YlG_YMi@LEPTOvLLIR?dBa_26iGx2nKb(Qy0E]l0UFL;FSv(*sHLMBe9^o`fmPZHteO:T+;Eis<xA9xJl,1dtYl8q:KqM(Y*"
def fw:az.bX:=gC ":RjQXK:11gLX62rVz+sLTymmghzD<^GWmMFUSWRM@tFS1kYnFYrnrQOcf=3bcH8eLO1WpJOvt?g]Vncsw)W+FFsqNhk:W8Jam4yJ]LW]AgE:pA6k5X.4OH:W]N88J"
attribute [local irreducible] lC oh mN iO jr og mM gN pC fN AF oq iN o5 rl ft ea fp fu fw
def uL:az.Fn:=⟨4,[.t 8],gD [lC] [qn 97 .rem 96 (aW 1001),qo 96 (.QN .i64 (.t 95)),qx 5 1] ".vtefSE,h3R@3O=nY^aOCZ^IHRwl4rTOFv]crVeS[o4<C8:Q+G7619;U@YYkdUYHqmRt=JDaxQ3u1We3ybE[H)Wa<,PVbqnCIfEwhB(+@Id0ZAgUqCh3kJT@i:MmnMv[[t8pxEQ`y,3eR89Go7NS:Vf6,hAG4fm<K*DyJ.YDK0SCl+.WLCbb`l^YZ3[]9^@ZGMehkejx5]U^3S,Vx6pDUXsfxU1*p<e6,ei;TApKg?`DA:y3<FlNM+jqt.Ry@@DF5.Od6wYDBv1t^Ht2[7A.3*XDjs8LL+T1Xv+H0<s;>,)[ac[mx^H?TUXT5C<iirTMIl=z)DhMPOV+*JW3J4BX.+F@yJ,d9LZc^KN+JJ"⟩
def xl:az.Fn:=⟨1,[.t 2],gD [oh] [qn 42 .leq 41 (aW 5000)] ")sG=FNH(HGt*G;s5:mPkFtfdmI+K*F]c6<md<Q:o]Ae0;g.Z06[cJPY`=QVT1hBC7TyJp*NQxA*YsorH3Bi@m:=F58=0ei[hSzXGfa]VMs^=x"⟩
def uJ:az.Fn:=⟨1,[.t 2],gD [mN] [] ";p.qu^R1MOQ+5<tO_uuJTpmFxHE"⟩
def oT:az.Fn:=⟨1,[.t 2],gD [iO] [qn 50 .geq 49 (aW 1)] "8jyIR8bwVNOT+Rtb]D]DD?,MB]DmBI`dJJ)Pj;eZCQm7XKUr16VF,`1M]5IZ=Ffx"⟩
def sb:az.Fn:=⟨3,[.t 6,.t 7],gD [jr] [qn 63 .quo 62 (aW 1000000)] "+PP^i]HpEf@CgC]8i^Ss)aAhCoHzFNZe49`+3Nebhs91xdFW(X4JZxJCh;),sla2q<LSs_yEq;8AFrKWjGhk^Q9ozOCrVMb:Mg[k[>=dJcMdqdo_mt(@5idvrNCu_N9.LeLak98y+7Lr_"⟩
def vR:az.Fn:=⟨1,[.v 2 true 2],gD [og] [] "66_Voxo;J7geV_hJHVXDK],Uq:cLPjjx)F)rBrId5Q)cR5j"⟩
def uH:az.Fn:=⟨1,[.t 2,.t 3],gD [mM] [qo 11 (.SG [(9,4),(11,10),(12,2),(16,2),(17,6),(19,4)] (.t 10)),qo 2 (.mv (.c .wN))] ")ToYdmnoXMMyNzQisqa2CF^L6@9**WSmSShvA=rcETDJI?@OfX@jFz]Yq,+hjXW_kX.A20WHgZ"⟩
def nk:az.Fn:=⟨1,[.t 2],gD [gN] [] "wu]Rt;fYBbHlaKSaHmH6?9jR8f).+<,2Kf(C4_fs4SxFvV.T4OW;1D<d"⟩
def pD:az.bX:=gD [pC] [] "3SK4ISO6@Haz6Q@J+to@6)Qoe>ogiI8O*Jr;d6TlaDmWdye<FCR?^o54*(a:im;]P:7n[eK[OWpo:r8L)oz@w9va5S?m35aFR5B6]sp+F3i,"
def ma:az.Fn:=⟨3,[.c 6 false 1],gD [.OI (.t 10) [] fN] [] "+XjQZ:zmV3cl4B]KEB>R3`EaU?Wj*W"⟩
def EP:az.Fn:=⟨1,[.t 2],gD [AF] [] ",>[.mk;R:r_8kdNGsi@P2yaB,?9l;"⟩
def rm:az.Fn:=⟨2,[.t 4],gD [oq] [] ")6u1*U1ETUcw;.^z1=IsTyF?9["⟩
def ed:az.Fn:=⟨1,[.v 2 true 4,.t 3,.t 4],gD [iN] [qk 66 .rem 63 65,qO 34 (.SL 1 (.t 33) (some (.c (.int .i64 (aW 1)))) none none),qO 17 (.mp (.get none (.agg [.bool false,.int .i64 (aW 0),.int .i64 (aW 0),.pR]) true) [.t 13,.t 16]),qo 13 (.call true (.c (.fn 39 [] [])) [])] "XoKn=.zX*giX7af<,Pc6OLi5lI:)SxD]g)eg(w^vjao=3tp9clbO8oZKI_KEf;WtI2fu@v2ipp2r;Xw*+FIEclZtCiWTTb0hOuuZnr[V+G6VK[k,VDo)Uxv0q@E7fG.*Xv4V`+Iok:j]*v234gcG,kFlU<3QH`f3USe.=;Habn`6AMG:^,LtSM[>]c:,8(9fU)zoqJ6E=>vrhNswc03=Be^?wbq0f3rqz"⟩
def rN:az.Fn:=⟨2,[.t 4],gD [o5] [] ")6u1*U1ETUcw;.^z1=IsTyF?9["⟩
def nK:az.Fn:=⟨2,[.t 4],gD [rl] [] ")6u1*U1ETUcw;.^z1=IsTyF?9["⟩
def iM:az.Fn:=⟨3,[],gD [ft] [] "1;;WCJo]:Qn*YS*8<pC=)m^LC4c.eaNPoGsw22v^*=^co37]pWrsa1k77^X]RWqs:EiX8HUisGgY8"⟩
def j2:az.Fn:=⟨3,[],gD [.cn [1000006],ea] [⟨none,none,false,.st [(2,1),(3,1)] 6 (.t 6) (.t 28)⟩] "*UhS`^AF5DL3,m]?9^`<^3JnxDo)P<g696dAKWg>)**fh)f91;QFx1k0ZF,srK<];*yAW_D1a;W?n__ab.LF3]316kJWi5O8xHIY,t;46daBK^,(zz`*wFenC;]z^d4BbWO[`Rov,ld;VF>6mx845uTS`ayK;+kBws<cXG4rksGv_"⟩
def iL:az.Fn:=⟨3,[],gD [.cn [6,1000006],fp] [] "yVO61*BT=.evv;is+qu=iB:YqwIWra3==+=7^5uj70ahe@umhojZ01a<de<CF(IM.f7;k6+@lJ)xQgNn1_LZ7_+<KZtll;(pcVZLvpC1ZA8x,cGFzGpBtTVEruC3yM3y_bUSYWj190tLXvC8J9pOZr6"⟩
def jx:az.Fn:=⟨3,[],gD [fw,fu] [qo 47 (.Fh 3 1 (.t 46) (.t 43))] "8kYza5+p>mjh=Q1H.[aa9H]BdF.SF:A)3cH2UM^BUa5zaZqFrYKPcNPeijEbYZH`EGsEhTMwBmC@MNLwYTvH(ReSuM^SUD1TD1xwrEhF)+zSDB^,u=PSR(9eYk=5OJK<Qc[=c]3c,,0j*^qbY4X.e[uzMLaXmPH2+m^CTtRmZngG>)@D@oSuK(gNwLPaPsN)Nka"⟩
attribute [local irreducible] pD
def tg:az.Fn:=⟨2,[.t 4,.t 5],gD [pD] [] "]O5<5(p:@nA,n*,TM5Ufp4c`rZzVP+4t*U(bqyfrE(45:[@(uB("⟩
def BS:tW:=⟨[(5,[6]),(4,[6]),(3,[0,6,7,8,9]),(2,[0,1,6,7,8,9]),(1,[0,1,2,6]),(0,[0,1,2,6])],[],[],[0,6,7],[7],[],[],[],[],[],[(2,some 1),(4,some 5)]⟩
def tF0:List (Nat×tW×az.Fn):=[A3 [0,1,2,3,4,5,6,7,8,9,11,12,13,14,15,10,16] 3 uL [] [9,12,23,62,70] [9,12] [] [3002,1005,4005],A1 [0,1,2,3,4,6,5,8,7,9,10] 4 xl ,A1 [0,1,2,4,5,3,6] 5 uJ ,A3 [0,1,2,4,5,6,3,7] 6 oT [] [4] [4] [] [],A3 [] 7 xp [] [1] [1] [] [],A0 8 Gs,A3 [] 9 uG [] [2] [2] [] [4001],A3 [] 10 sb [] [11] [11] [] [],A3 [] 11 vR [] [2,3] [2,3] [(1004,[(1,2)]),(5018,[(0,2)])] [],A0 12 tf,A0 13 zo,A0 14 EO,A0 15 sc,A3 [] 16 uH [] [5,11] [] [(1003,[(9,4),(11,10),(12,2),(16,2),(17,6),(19,4)])] [],A3 [] 17 nk [] [4] [4] [] [],A0 18 uF,A0 19 ti,A0 20 rI,A0 21 rk,A2 [] 22 tg [] [4],A0 23 oj,A0 24 oQ,(25,BS,ma),A0 26 xm,A0 27 pF,A0 28 zU,A0 29 oi,A0 30 EP,A0 31 rm,A4 [0,3,2,5,6,4,1,7] 32 gO [] [0,2] [2] [] [] [] [] [] [(2,some 1)],A4 [] 33 ed [] [2,4] [2] [] [2000] [] [14] [] [(3,some 1),(6,some 3),(11,some 2),(14,some 18)],A0 34 oZ,A0 35 vD,A0 36 kR,A0 37 xn,A0 39 sd,A4 [] 40 rJ [] [] [] [] [] [] [] [] [(1,some 3)],A4 [] 41 mL [] [] [] [] [] [] [] [] [(2,some 12)],A0 42 rN,A0 43 nK,A4 [] 45 iJ [] [0,6] [6] [] [] [] [] [] [(0,some 8),(2,some 8)],A4 [] 46 iM [] [0,6] [] [] [] [(5,[6])] [] [] [(0,some 8),(5,some 2)],A4 [] 47 j1 [] [0,6] [6] [] [] [] [] [] [(0,some 25),(3,some 2)],A4 [] 48 jz [] [0,6] [6] [] [2002] [(3,[6])] [29,32,35] [] [(0,some 13),(3,some 2)],A4 [] 49 iK [] [0,6] [6] [(7021,[(0,4),(10,4)]),(7024,[(0,4)])] [3007014] [] [4] [(7010,some [])] [(1,some 13),(2,some 8),(3,some 7),(6,some 1)],A4 [] 50 j2 [] [6] [] [(2013,[(2,1),(3,1)]),(7006,[(0,1),(1,1)]),(8006,[(0,1)])] [] [(10,[1000006])] [] [] [(1,some 7),(10,some 9)],A4 [] 51 jv [] [0,6] [6] [(5012,[(0,10)])] [] [] [] [] [(0,some 7),(1,some 4),(4,some 1)],A4 [] 52 jt [] [0] [] [] [] [] [] [] [(1,some 1)],A4 [] 53 iL [] [0,6] [6] [(1008,[(1,4)]),(4019,[(0,4)]),(7012,[(0,2)])] [] [(5,[6,1000006])] [] [] [(0,some 7),(6,some 1)],A4 [] 54 jx [] [0,8,13,14] [13,14] [] [14005] [(15,[11])] [] [] [(1,some 3),(2,some 7),(3,some 10),(9,some 2),(19,some 1)]]
theorem kF0:(tF0.map λp=>Yl p)=tF0.map λp=>some p.2.2:=by kernel_rfl
end Go.Proofs.YtklfdfnoebnciaaGreatDoor
