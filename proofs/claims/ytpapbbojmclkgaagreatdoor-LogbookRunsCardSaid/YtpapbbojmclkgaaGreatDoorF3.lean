import Derived.Test.YtpapbbojmclkgaaGreatDoorIds
set_option linter.all false
set_option maxRecDepth 100000
namespace Go.Proofs.YtpapbbojmclkgaaGreatDoor
open Go Go.Abs
attribute [local irreducible] ba Ac
def wJ:Abs.Fn:=⟨3,[],gC ".x6T0D:ARI=9;OaI+mdwGrIRI_YWrXv9EUDu,di,Ra2K5WH@pnezC[(^XQMhhbMMU5I)O``y:[IYY^azcY@0[*,sSkWi9U+1S[vNXmmu:wJN)2sVEmEur6IsFf"⟩
def ga:Abs.bV:=gC "4jD0,2K`fnmh9dS[[OdDn9lKPzy7;jCdQ[wuf@7UKOscZN4@eTf)9gv9vdHT9KnLP>3x[3jqfy3=PdBhz.tq;HCpA>mT=w87"
def yQ:Abs.Fn:=⟨3,[],gC ")`:w6)kf4d7nT5[?wtY??h4M+5,s`r^4ifD7):MWIA4L01Dz7F[O@C>wPS(M(E@uXYxmI02uf[Y(+;pT(O:o5*,Z6h:5Rqo]3RaOfF1]LPpR,Qs0k1UX1>nOh`y.CQ2tSf.:Mi@[BRY9`X1>2mM7=q:@ZURarv,b3ej^rr]"⟩
def xN:Abs.Fn:=⟨3,[],gC "g7bF>k.FC6ZIc6JVQ(yoUTD4L2I5Y?*Qco0`QQm3=CXuN@r48FILfAzgkIux4aadV0gfyOCvNCo>vS`6Sc=,@@7g6R@Z*x=:7cE?LH.,GkI_1Je+Vbwp??.baAbot=G;X?+F;.V>v>(CWH`cTzQN9LdR"⟩
def wL:Abs.Fn:=⟨3,[],gD [] [⟨none,none,true,.st [(0,4),(10,4)] 1 (.t 75) (.t 65)⟩,qO 69 (.Wz false 1 (.t 68)),qO 65 (.VC [] 4 56 (.t 61) (.t 64)),qx 4 1] "+JXVn.njbSGCB51k^o)k[.6ctEj2Fu:`3N_A2twlh@bf7q<N<HHVGKJNKfQ>bU34ZY`:9O3ULArW_^Kd<br:XAw`Qzdn=J>,[DrZgq5d33bngHCM;2o[dYVPqOxRJ?:iWPi.A[OYEDWsVc`g*j]Bjr(I2+oZC]jmEoO57WyBFA>EmeeWES]P3CZMHMbi_BpsL=ZOO0Pt0zQzOc^2cV7OhyrfMZB10,AQbw(:NX=Q8Wtm"⟩
def fa:Abs.bV:=gD [] [⟨none,none,false,.st [(0,1),(1,1)] 1 (.t 45) (.t 44)⟩] "6EB;nAm.@pK[YEL2DVc6irrRHp06htA.nLz,vAv_nhMBLcZehj9mtK;Gj2sQ:0n]T(lL)QkMp<CKhl(vrz*thevx58kLA20WYrc"
def xJ:Abs.Fn:=⟨3,[],gC ")CDwQj(xMLEEOceEX+0^?*3EsV@WuEl)U^*^gO>r_;90cG^c]Y`;e0d[NKeh[0NP:zot??0go,yam,op1^x[kJV?*YDJv:CIS6o(rCGk=UH;Jsm*:AF_5VzeFxM+J:QGi09aN8GK8Li,sKN4B?wrpV;imblQ91kuh5T<Zse<JD2buzVEIX>,7`3+4oBNSyc8eYS)sms7]Q(HRmeNkY[u.j`ga:?lcfA@`]jtoM7B?A?V.LD4jXIHNqdBq"⟩
def xG:Abs.Fn:=⟨3,[],gD [] [qo 19 (.me (.s2a 3 1) [.t 18]),qo 10 (.me (.s2a 3 1) [.t 9])] "?CJM^i_MfS2bU)RRY(n]N+5eNly])e1HPlcozeH7tb;rR1KNaerb6wdYlDZ7B^nG?,"⟩
def fY:Abs.bV:=gC "3L6JqDU6Ey1.e2rBu0f=`jx7D:KhjLMOJ4yB2[KYHzTVOQEvX1)bsYHDszA(M4Be_N9qn9v+8j8Ei>b;@ebcKP]*l`OYCbi1Kr"
def gb:Abs.bV:=gD [] [qn 64 .quo 63 (ba 1000)] "9tPRrg8quOtHZ3W`Q9DmMU[drU:pKD0CeT*>?tnhK99I<rbTSnPfz2:`KF.9NGxSS<nh769[rXigXOhriv7ck;eUPrAM=16"
def gf:Abs.bV:=gC "*;JR1]Xv?,V>k(Z0:_9?naBwuR9a?Io[n9>pkk3Grcw1PbndtDk.csw:tPfjoI(n7lH^^G<i[RHw?ng=pvzV<SDgaTNo01GIvu899bDClAyTQK):K>r_("
def xI:Abs.Fn:=⟨3,[],gD [] [qx 5 2] "28St1;V?99p,OC;wD?*N<Wi+BK.t,P3D7lMPTf26P,i7pSjX2[.m2G?cp.m[K2ObxB>,B.1_j.OPaXxdjv[7JFkD4ccZ^xLFl_1Q.TaakrMTeqr;n<nM<u3cdeMfWwKsVsyL)<6a>P<MU:whE,b+cuYdYhA>QC@xo]:,jFc0^*hcm81992A`iL;FJsUlPOXLthgkl7:QwlIhGSVe99vX]Ot.695[qq@YiM3NvB+>3L2Nt:,;bAW?7Uqy=*.Tru25M5F??3"⟩
def gM:Abs.bV:=gC "5W.yGjC5NTr@kPiC[Lg>wF?dUD?5kVqsiT<Kw;UkMSmO(ispvPHpXP<<9BWt_r:`MJ5cp,Lup5ssm"
def fZ:Abs.bV:=gD [] [qn 163 .add 88 (ba 1)] "YAYK]0B;fWGa0N^zV:Zqo6+:c[xs`IamLN:>vZ[:SA[yI]0?7z*7l,(s3xEbVFp4(?kQ88@XGFz*Qp)3Jbj=a=;87B7uT9BbD,@l+<9mWbOX..b;kk2HKdk754C7[Jw8]@gNaM?TaH8xV8:F9Wy:lXYgnpX?NWgtOSowaqvVK(y2c0=z<TsUlDaH^;VxBw6@;TVWuFi_<x*w+P8a>eU_B)0dLX+s5yB61@e4_DI8j52,ED3*z_Yph*Zcu=Bg3pfYl8CClNCEwzIlAJhRF(6)l@aMZ(byKROc@p*Z.dpWbjjRHCHpqKpJDA7`@X_8bAeQNYO>@5@;mV1;1+yUiAs[<vu5q6bbUdYQVTDvx4N=j"
def oQ:Abs.bV:=gD [] [qo 14 (.bin .geq (.t 13) (.c (.int .u8 (ba 97))))] "`5Y3`g3+`]YMjVRyQNrGByR2NXm3SKdbF`.KVxs6J8`:JnS=^NoI5tDFM6R9R?;Dhd<B]wtPs_<j6,M5Rj:b;<vqG>Zcx535om=rgU>Qn>hw.SN`(^MToiKy@AYGNlU*.jUbeuG@`,,4m"
def oR:Abs.bV:=gD [] [qO 57 (.pick (.t 46) (.t 56) (.c (.bool false))),qK 56 .leq 50 55,qN 45 .gtr 44 (ba 0)] "=R(<3g4KR[;L1>gOgvDnhOoZWe?dxqJOFG1;F[y+[PK73O6)<_7ldhNMuey;3iYsi[lr=JnSI6Yo3@:[Fjwt3Erio_FyQfcy<UgNjjg_2+ZD0`43`)xR_:WtVymHnU@+lUv1766HqoX5:t6*AXT4AjvF"
def Ho:Abs.Fn:=⟨1,[.t 2],gC "JAm)8<@irIYRe=^Pr)KxExAg.nkwi6mVZD^)NJ0(Xt>cNn"⟩
def Hw:Abs.Fn:=⟨2,[.v 4 true 3],gC "DgE9wL,1VCz<9zDCpuo?5:X`Ks+4NxXHo[DUyv^d8x1H@xY*rJbkD2"⟩
def Jz:Abs.Fn:=⟨3,[.v 6 true 3],gC ")CMufzE]pstBDI6?H;2DArQL_C+6BOtMup1a^xvQG@;hVePG;,R*9_tJo.@J:NfQ"⟩
def Gf:Abs.Fn:=⟨2,[.t 4],gC "0Mr*m4O0930(AYc`sXtDspb3o;:=bnbFU"⟩
def Ei:Abs.Fn:=⟨3,[.t 6],gD [] [qK 34 .rem 32 33,qK 29 .rem 27 28,qK 23 .rem 21 22,qK 20 .rem 18 19] ":jU^ZzyoSPQiV*omM.u_m[@wo(GsaNP.]9`DuL^[`2[>oSX5G>C:bonJ[yS3[y9(NEF<2YbftrtO4b7RT7QH,vDt_.y_B_D4Z(OU8yyaM<dW^pi.eCVYAkllP).Le,,J(+[zh"⟩
def JB:Abs.Fn:=⟨2,[.v 4 true 3],gC "*(K;DSe8@?4HQoFYBACKDk(U+YPpG699iRNYRclokogFL+lyC:?lr3o>"⟩
def Gm:Abs.Fn:=⟨2,[.v 4 true 3],gC "DgE9wL,1VCz<9zDCpv@C5=S2=RP7v^K8:sSYm1?+,a3.j0F[Jg^P@N"⟩
def Ge:Abs.Fn:=⟨2,[.v 4 true 3],gC "+Cd5QcSZ.cpaG9=],p:32e<*C+IVQ=*COt<FC9=h0Dh.tW]>3c"⟩
def nF:Abs.bV:=gC "*o5`jx4^No]udAc]3(CwnN;U9hVzTM3:<vIT>ko80ghAJ^teH:Z]GVy3HxT7*Iw"
def Hs:Abs.Fn:=⟨2,[.t 4],gD [] [qk 11 .rem 9 10] "*Q*1BSl>UeYdYQ>zbNg6@VC7ry+IBWx.Q)Rjfky4*ZRK_P4gNV?y;YS_>6"⟩
def lP:Abs.bV:=gC "ILb1[yH8ZLYWScP;en.ov?QHPo42RCIvgz;(ELrDv9DushyD2YCpZ0lWMH25na"
def kZ:Abs.bV:=gC ")5._=]=W+)drLp92j?(Zo:@@sNvUvkn<8^xQ7x0=<[oCqG]=Bpghc`dWH8S3e"
def vA:Abs.Fn:=⟨2,[.t 4],gC "1w0N:O@kvJCtrDJDOg^Wh;Xws8"⟩
def uo:Abs.Fn:=⟨1,[.t 2],gC "+<(7^Hz?A^55pJVI3O"⟩
def El:Abs.Fn:=⟨3,[.t 6],gC "@<J`^_bEA2R^3szXuhG9^r.5MFdsckHvNOgN1oKT5bkA4A@sKM;BZiE6C=U=Ky4t=[60QdcCN2tzOmrIl*"⟩
def yL:Abs.Fn:=⟨1,[.t 2],gC ")`490ipH7(pdBY1Pw^Z_"⟩
def Ee:Abs.Fn:=⟨1,[],gC "J:b5s@?akHoA3>]_F"⟩
def zh:Abs.Fn:=⟨1,[.t 2],gC ">xFc^A._QVzKGu4=;u@F)JZNZ_"⟩
def DO:Abs.Fn:=⟨1,[.t 2],gC ":wxN1u?wt(=8T<D:O5thv0R9+QVQ<lneaT"⟩
def su:Abs.Fn:=⟨1,[.t 2],gC ")EAf*nhf21ZvOe_.4dXh3)][3VjwEe?J"⟩
def kK:Abs.Fn:=⟨2,[.t 4],gC ".RfIX5@(N?PsAVY0QAf["⟩
def ue:Abs.Fn:=⟨2,[.t 3],gC "w8i9DM=VqZ8Au7BmQi=9)f])("⟩
def HE:Abs.Fn:=⟨2,[.t 4,.t 5],gC "0.Z<vD3lsM5N*>eKg:dPM`hGPFQ7hmA<BW.nVzbaaFcwYIM_hO)PrXct*T)+bYkgl@SaUFi+tKdRpV"⟩
def u6:Abs.Fn:=⟨2,[.t 4],gC "*[FClCZR([ANa:()B.kEL+vYa)S]2u.YAy+b6eTP@rJua"⟩
def fm:Abs.bV:=gC "2oORaEk^rw>=wE]Pp[VVmG9b0[pxXpc@UE>fADe0CaVF61c(Uh.mcU;(^^9Anb;^pKddiYyh4O,WM8Xk>N4pp)6Bh8pjRs2aLYMdcnzEc.o*?);)(T:bC37M?<Le;)6pBnnl>E2gT[m60Znm7RF1]OYOyMc2ZB_;nmRqcoZr_xvm3(5F]w8jX;dQ0pAIHP`lz(WhXheQO.+0t"
def wK:Abs.Fn:=⟨3,[.t 4],gC "2]YoStpkB^`yn]4gk9fH]KItYC,h@:Es@:Qo68S=eQ2Hl+r;:BPObYYk?i"⟩
def Ju:Abs.Fn:=⟨3,[.t 6,.t 7],gC "t1k:f5ql9L37vj2_;b,2in1G3Z.m0kEwM3]t1A+uQa9^3KItm4jHaCcHY97IIerMM2J0HcfQ2a:f8a3kfNRS;0_WRjrqprbIHY`bZC"⟩
def rO:Abs.bV:=gD [] [qK 100 .add 98 99,qt 1 85 84,qn 84 .quo 83 (ba 1000)] "16m+ApKgYyX1A>Uk)49I(7^Q4[ppTMF[1nNuNE]fnLDYLGN,).h*6G_nZH:?H97L*Pvex]8Ilfl94l9oL.bwB54_VJj^_w.odm87L^`ioByI:Apg:g6)ps,[BUNuagWVu4"
def xH:Abs.Fn:=⟨1,[.t 2],gC "tUzf4Uy0ghhRL@pdB)=aykh;eG>47Y"⟩
def wT:Abs.Fn:=⟨1,[.t 2],gC ")EAaD.<S.H<C2)+4phb])fG8YZ)41`3o"⟩
def ug:Abs.bV:=gC "?VmH:QLckx=,WwUXiEbJ^[07*=zsUf"
def kU:Abs.bV:=gC ")mC=hI8u9cFBSZ(d`gI=+*[2WBDnCc=4[vSQnsEF>KmAyXi6^2]1;M5;8MzZ57QoB9S0ee?]M<w(jVa[?0c;yUtJ0iZ1CIOWtd[VUvXp?PrqNh08sK8"
def kV:Abs.bV:=gC "4hdvq<c`<cnD)[vZETr4Z,]CzH0J8,<0+m(,u]M.;k@J28SY7KXzn<1?FWNT2rY_S(:ZI<l2@=Qb8Ep[@vupnqQGu:vpZs8aRPMV])q2KM^(l8uN141;HL<XP``QqY_<kfbLumstlDw>5R,4MqXESHLRomN@pKo(6[.wo]g1XycKdWM`;Q^TtoD7N4T@6_w"
attribute [local irreducible] ga fa fY gb gf gM fZ oQ oR nF lP kZ fm rO ug kU kV
def wN:Abs.Fn:=⟨3,[],gD [ga] [] "*M:gc6Bo6B)[tk=E)y=CXzIRk8h7*jBWy:AY.ChIjrDb29S4e_7>.;iXTH6<gQJPnGD9nQ17_ISOt+,"⟩
def yR:Abs.Fn:=⟨3,[],gD [.cH [1000006],fa] [⟨none,none,false,.st [(2,1),(3,1)] 6 (.t 6) (.t 28)⟩] "I^pMawKe^+7*+MJblyS;*]L[ltxD.4jx+I]EtHfT1?IEr.LRuEjHx8vD7j0GYK)sqBoEZJF1RK9`,3nWlP_7:2qH(Gk7E>D.SPc^b_DT=.i[cB]xKsXV6LnWPZe5l063[lL>4>mSZOj6jtzYc;Mo>zT^DJ]vu2V3t;=>)sy6+z"⟩
def wM:Abs.Fn:=⟨3,[],gD [.cH [6,1000006],fY] [] "^8Mwmpa0E_LCrRrf96H@P,JG5NX4=Ri9Rea,IJfz@<x.brgVJgN6yMe1[2Dbru,?W_hNJGWN>,AlF@7;mo>cE+3u4d)BUFkZ`jGfUG^ueqq,1*et.hj6Y.+yxQc*6b58N:EBv1hb9Gf_R^Zx]yqbI^A"⟩
def xL:Abs.Fn:=⟨3,[],gD [gf,gb] [] "2<(`x[jy;^dEh0^XWUboqgo?Ox8raSwLOY:9O3a(_vSQ[c3`A`kI2y+)fK>beoBY3kYIQUk*xSyRrLkv)<9RKG5WE`R,zq::U>AG8IlB[deo2K903TyJfxo?JpagJ>c2Utfy.Y9djfi;y*>:IC+t_8g+FMy9Wj;C[`6(H:((d7,H;GtG:9s4I?U@xb?QY@amED^e"⟩
def xM:Abs.Fn:=⟨3,[],gD [.cH [6,1000006],gM] [] "02WsCrP53B>2JrMMu+,XLqm358aNLeZRSJs5CckqW_pLNlvW_=Nr8a;8n:1Sf*Pb7DcprlSJpA.LJMqZSwwpsUVgmYnZlpOb:wWu0EWSR;qj^5sF3Qz2E8R2D"⟩
def xK:Abs.Fn:=⟨3,[],gD [fZ] [] "*(O3TfXwS5?Ql,+5[O(F<o[0EuDhJ4NiNmvA9it49qC6sv9d=V2o9ZjwWh_ic59N=M97udv7K@N2N+U7glEB*m_)0sE`EJ8?9`OcjN0:au5F2Yg7dOWuf2yBE0r.<<[M?iYmOPK3cJ0,6z<YFcz2icYbWjMUKFN65NWrNN267i,G9nEru)w^,a5VL=eY,gxxWalv?x??aJm=YkLeVs:<Nl3N7C5T*Dy:3dG<yTzrhx:sBn;aID?p[yF?2zJXc2EStkE4m><A4jDHoo0xM^(9*R7)mOk17f=g>[.GS1qDm*n*`van720CNoUzDk_fZMvbluownFTLE.LeLJjPH*^?geX:4s;"⟩
def Hp:Abs.Fn:=⟨1,[.t 2],gD [oQ] [] "AsePrKhCgi*dxx6>a(mnNK,1h:D(pjP7=w8Xy(VqfYy6"⟩
def Hr:Abs.Fn:=⟨4,[.t 8],gD [oR] [] "5=9dWu:3*zg`:.lFc.<tu*qfr4E.>>Mtyu+aLR<wP1=tQpusBMr_rD[BS:nHomG)hXl80EFZ@6k:8*lv2tvvwi)"⟩
def Gk:Abs.Fn:=⟨2,[.t 4],gD [nF] [] ";ALpAmkDWk,mIgS`hv,=.;=huVBE0j+9J`.gpl40"⟩
def jh:Abs.Fn:=⟨2,[.t 4],gD [lP] [] "C)9jC9;th0fkF@W3xFN2nGlEO"⟩
def iE:Abs.Fn:=⟨2,[.t 4],gD [kZ] [] "C)9jC9;th0fkF@W3xFN2nGlEO"⟩
def vg:Abs.Fn:=⟨3,[],gD [fm] [qx 4 1] ",G]j=Y8ZAxMD7gKwO5gv7HfcgHAly7ry"⟩
def DP:Abs.Fn:=⟨4,[.t 8,.t 9],gD [rO] [qo 10 (.mv (.c (.fn 245 [] []))),qx 6 2] "7^7(;=wiuJrKK*1>ctRp7DbfdT*,ZP6G.>nO[DMc0O.wexU9+Gg@e0m^p*+tftm4JObpWI_fHd_[5e]c*p;[ku>gh*mg9(]k0iPl7U.@pToQBM)TAkoOGE?JGT+h.8`9c,e`Li,EC2YX9gwe:BKC^;.l,YLC@PlA(1JPRrcSfL=1T0A,J`mvRX57VjFq7AC43hwk72ovC)59]?]nBDJ^;8:IN;3Y>phG;7SlW*alc?kqqi)p;IX]eV7Vk`EHC(zTq,x7FlNa"⟩
def As:Abs.Fn:=⟨3,[.v 6 true 2,.c 7 false 1],gD [.VK (.c (.fn 251 [] [])) [.t 7] ug] [qS 6 2 6 22] "*N,]Dx]8KjmsIE1jTRv)`>VQ(SD6@O4t=2?x,61Q^QPtJdVf9@X*:RSttgY[l]@QzJHUHd7Ia.MZS[rSxmT^MK=aZcxZPH>nSfDuYrEI6"⟩
def kW:Abs.bV:=gD [kV] [] "cyvvV`Pq_v165qN]f*AD;(R8.([_yCAVt8M05i2vbT[qi)El;(T7H1dcy;tWM@8:ZK0Q4PLYkKGTDKutSDnm=@fl5lUAcuuO]*[*7sll>fh(MKEKVElP;Fy1`,aLW"
attribute [local irreducible] kW
def ou:Abs.bV:=gD [kW] [] "IvZi=9ZiVguL8OYiME(:4,*c^Y>Y>Q1b(AJJ`6h1Q?Yw5AhIizfc+mwpB2e:RX_>]c8q`e"
attribute [local irreducible] ou
def uh:Abs.Fn:=⟨4,[.t 8,.t 9,.c 10 false 1],gD [.VK (.c (.fn 251 [] [])) [.t 10] ou,kU,.cH [0,1000002]] [] "O>TgDTVG;eM:M(G)<Pf7Qavin)F5n3]eKohqT_e3EUksGYsNiGrUI_TcZ@NZKKDNAGCInMlcdad8O]@<b7bw5G[_7ioCjeQKLbXT3HiN_Z]USHa;O9DQg(akZe"⟩
def Qb:tT:=⟨[(7,[6,7]),(6,[2,6,7,8]),(5,[6,7]),(4,[2,6,7,8,21]),(3,[2,6,7,8]),(2,[2,3,6,7,8,16]),(1,[2,3,6,7,8]),(0,[2,3,4,6,7])],[],[],[6,7,8],[6,8],[],[],[(0,[0])],[],[],[(7,some 2)]⟩
def KR:tT:=⟨[(30,[8,9,10]),(29,[3,4,8,9,10,15,51,52,53]),(28,[3,4,8,9,10,15,51,52,53]),(27,[3,4,8,9,10,15,16,51,52,53,99]),(26,[3,4,8,9,10,15,16,17,18,51,52,53,60,61,62]),(25,[3,4,8,9,10,15,16,17,18,51,52,53,60,61,62]),(24,[3,4,8,9,10,15,16,17,18,19,21,51,52,53,60,61,62]),(23,[3,4,8,9,10,15,16,17,18,19,21,51,52,53,60,61,62,86]),(22,[3,4,8,9,10,15,16,17,18,19,21,51,52,53,60,61,62]),(21,[3,4,8,9,10,15,16,17,18,19,20,51,52,53,60,61,62]),(20,[3,4,8,9,10,15,16,17,18,51,52,53,60,61,62,63]),(19,[3,4,8,9,10,15,16,17,18,51,52,53,60,61,62]),(18,[3,4,8,9,10,15,16,17,18,51,52,53]),(17,[3,4,8,9,10,15,16,17,51,52,53]),(16,[3,4,8,9,10,15,51,52,53,54]),(15,[3,4,8,9,10,15,51,52,53]),(14,[1,3,4,8,9,10,15]),(13,[1,2,3,4,8,9,10]),(12,[1,2,3,4,8,9,10,32,33,34]),(11,[8,9,10]),(10,[1,2,3,4,8,9,10,14,32,33,34,44]),(9,[1,2,3,4,8,9,10,14,32,33,34]),(8,[1,2,3,4,8,9,10,13,32,33,34]),(7,[1,2,3,4,8,9,10,32,33,34,35]),(6,[1,2,3,4,8,9,10,32,33,34]),(5,[8,9,10]),(4,[1,2,3,4,8,9,10,31]),(3,[8,9,10]),(2,[1,2,3,4,8,9,10,11,27]),(1,[1,2,3,4,8,9,10,11]),(0,[1,2,3,4,8,9,10])],[(4,[3,4,8,9,10,15,16,17,18,51,52,53,60,61,62]),(2,[3,4,8,9,10,15,51,52,53]),(0,[1,2,3,4,8,9,10,32,33,34])],[0],[8,9,10,13,17,20],[13,17,20],[],[],[(0,[0,1000002])],[],[],[(14,some 3)]⟩
def tF3:List (Nat×tT×Abs.Fn):=[A4 [] 160 wJ [] [0,6] [6] [] [] [] [] [] [(0,some 8),(2,some 8)],A4 [] 161 wN [] [0,6] [] [] [] [(5,[6])] [] [] [(0,some 8),(5,some 2)],A4 [] 162 yQ [] [0,6] [6] [] [] [] [] [] [(0,some 25),(3,some 2)],A4 [] 163 xN [] [0,6] [6] [] [2002] [(3,[6])] [29,32,35] [] [(0,some 13),(3,some 2)],A4 [] 164 wL [] [0,6] [6] [(7021,[(0,4),(10,4)]),(7024,[(0,4)])] [3007014] [] [4] [(7010,some [])] [(1,some 13),(2,some 8),(3,some 7),(6,some 1)],A4 [] 165 yR [] [6] [] [(2013,[(2,1),(3,1)]),(7006,[(0,1),(1,1)]),(8006,[(0,1)])] [] [(10,[1000006])] [] [] [(1,some 7),(10,some 9)],A4 [] 166 xJ [] [0,6] [6] [(5012,[(0,10)])] [] [] [] [] [(0,some 7),(1,some 4),(4,some 1)],A4 [] 167 xG [] [0] [] [] [] [] [] [] [(1,some 1)],A4 [] 168 wM [] [0,6] [6] [(1008,[(1,4)]),(4019,[(0,4)]),(7012,[(0,2)])] [] [(5,[6,1000006])] [] [] [(0,some 7),(6,some 1)],A4 [] 169 xL [] [0,8,13,14] [13,14] [] [14005] [(15,[11])] [] [] [(1,some 3),(2,some 7),(3,some 10),(9,some 2),(19,some 1)],A4 [] 170 xI [] [7] [] [] [] [] [] [] [(2,some 3),(3,some 4),(6,some 1)],A4 [] 171 xM [] [0,6] [6] [(1005,[(1,2)]),(5012,[(0,2)]),(7012,[(0,2)])] [] [(6,[6,1000006]),(6,[6])] [] [] [(0,some 7),(6,some 2)],A4 [] 172 xK [] [0,11,13,14,16,17,18,20] [13,14,16,17,18,20] [(18029,[(0,6)])] [] [(17,[11])] [] [] [(1,some 12),(3,some 37),(9,some 1),(12,some 1),(14,some 1)],A1 [0,1,2,4,5,6,3,7] 174 Hp ,A1 [0,1,2,3,4,6,7,5,8] 175 Hr ,A0 176 Ho,A3 [] 177 Hw [] [4] [4] [] [],A3 [] 178 Jz [] [6] [6] [] [],A0 179 Gf,A0 180 Ei,A3 [] 181 JB [] [4] [4] [] [],A3 [] 182 Gm [] [4] [4] [] [],A3 [] 183 Ge [] [4] [4] [] [],A1 [0,1,2,4,5,3,6] 184 Gk ,A0 185 Hs,A0 191 jh,A0 192 iE,A0 193 vA,A0 194 uo,A0 195 El,A0 199 yL,A4 [] 200 Ee [] [] [] [] [] [] [] [] [(0,some 3)],A0 201 zh,A4 [] 202 DO [] [] [] [] [] [(0,[0])] [] [] [],A2 [] 203 su [] [2,5],A0 204 kK,A0 205 ue,A4 [] 206 HE [] [6] [6] [] [] [(0,[0])] [] [] [],A0 207 u6,A3 [] 208 vg [] [7] [7] [] [],A0 209 wK,A0 210 Ju,A0 211 DP,A0 212 xH,A2 [] 213 wT [] [2,5],(214,Qb,As),(215,KR,uh)]
theorem kF3:(tF3.map λp=>chk p)=tF3.map λp=>some p.2.2:=by kernel_rfl
end Go.Proofs.YtpapbbojmclkgaaGreatDoor
