import Derived.Test.YtpapbbojmclkgaaGreatDoorIds
set_option linter.all false
set_option maxRecDepth 100000
namespace Go.Proofs.YtpapbbojmclkgaaGreatDoor
open Go Go.Abs
attribute [local irreducible] ba Ac
def iX:Abs.bV:=gD [] [qo 26 (.mp .ent [.t 23])] ",G4>Bt,B:u3=i00:u?sjLeSi<brO.bnyDtC?pnG*BiW3;o@zG+G.>vc+[FbFXyxnI=CSMhgW:`T>QK].0ndYw_HmIPmFup;RF"
def gQ:Abs.bV:=gD [] [qN 79 .quo 78 (ba 8)] "_GZujnqz1NsKu]<.kj,RfnheH)gau4UY+SYC@RkUbS0ZuUTYC,J,lt)?Qa2OAdlN=XygnB)w7tW;2k0P8if?7a5YehX).vQ5(+`VtCJ*vE3H8)90gPT(]42`of(vae=Kep<WbGbibzW2t]t;xC?dfFefg`A8,.HX22_Pmhx8.df:P.L07r3]`1taZH_L9MNHT:UD:U=7DG0i7tDS)MiT"
def gR:Abs.bV:=gC "2S@,:TXpHaU[MU^XKgBz+)e_Oxh9fn4N]2ahmKylIq?KmSZjmMoFacN)3=I]w=9Z:in`;v"
def xB:Abs.Fn:=⟨2,[.t 4],gC "*[FClCZR([ANa:()B.lbBRz0QFd>+3sdFLSK*xk6HKOSj"⟩
def ui:Abs.Fn:=⟨2,[.t 4],gC "1w0N:O@kvJLTgLdT7N]O,K56Ou"⟩
def Ep:Abs.Fn:=⟨2,[.t 3],gC "WiHxpwXJ34E*N6[LodxNs4ghOm5YiQK"⟩
def fu:Abs.bV:=gC "XCHCi80._y2,AI2Fua?qHD*KD2wO]msq<zdUQEeB7Mfs?p?rXLddV<m4oyTZn5(m4<tc@Ai@nUI2+Rq7t*E*UO?W:u(.Ml_"
def HG:Abs.Fn:=⟨0,[.v 0 true 5],gC "*gmKZCdh(XwbUJ@Z0Bi]*mm)Bg7fI7*a"⟩
def Eh:Abs.Fn:=⟨3,[.t 6],gC ")@2FI`x0soONy@S)Rv:A09:@_c_]U]I"⟩
def uf:Abs.Fn:=⟨2,[.t 4],gC "1w0N:O@kvJM,as1XZ6;(F0wNH@"⟩
def wO:Abs.Fn:=⟨2,[.t 3],gC "x,8oR[t[Vq3R8uaZ@I3O:ZBDCy)Kti?0]A1Ug^2p`_*64WL^OJ^g@v<,fTK6Kg"⟩
def xX:Abs.Fn:=⟨2,[.t 4],gC "*52*upOIWZma5Q8bR7i@Z3Ax5U+yVTj.gh0SW(_8QeOwQXsZ4IW3pR]3]P9aAvL[X@[;?Bx+9@vM[;+D1,hBO@1_`*?)MSjliVt3`al[(k`DVssKZU7DtG)K`;>="⟩
def so:Abs.Fn:=⟨2,[.t 4],gC "1w0N:O@kvJM:`C]NM:`6dc[IiH"⟩
def DL:Abs.Fn:=⟨1,[.t 2],gC ")2@L7:g<BZTgkuU_ou5P2r^"⟩
def xV:Abs.Fn:=⟨1,[.t 2],gC "7uE(>IMcsANi]pmH7a[7Si4dG@U^D"⟩
def Am:Abs.Fn:=⟨2,[.t 4],gD [] [qo 3 (.Mn (.t 1))] ",OtZHsF.P5*k)A`mDW4AHpSE"⟩
def mX:Abs.Fn:=⟨2,[.t 4],gC ".we@vH2nYdxS;fm84p8,Y"⟩
def tJ:Abs.Fn:=⟨2,[.t 3],gC "r0>qcL6NL_MlgZ.zC5*o6"⟩
def mW:Abs.Fn:=⟨2,[.t 4],gC ".we@vH2nYdxWeCe@FT]RD"⟩
def uj:Abs.Fn:=⟨2,[.t 3],gC "r0>qcL6NL_+P^>f(UYTLm"⟩
def Eo:Abs.Fn:=⟨2,[.t 4],gC "1w0N:O@kvJM_ZX=.IB@ZkFt`SB"⟩
def zd:Abs.Fn:=⟨2,[.t 4],gD [] [qo 19 (.slc 1 (.t 7) (some (.t 12)) (some (.t 18)) none)] "Y;P+<ouQXw1kOY)7W[_xC`fQLYFJd)elv8IAQsE.CBT+Fvlz+j:."⟩
def wR:Abs.Fn:=⟨2,[.t 3],gC "7cbv?QUfZv=NwfH8e3F]D1q8)](2M"⟩
def Ah:Abs.Fn:=⟨2,[.t 3],gC ";K<?SU0O@mKCWX[)_kx"⟩
def pF:Abs.bV:=gC "06b9pDUgN]cs5cvjMy5lvm11U(MLUOg@cXKdf=t=];nMz_VcvVwDZaT>br_"
def yY:Abs.Fn:=⟨1,[.t 2],gC "+<(7^Hz?Ap8ww?)Oc>"⟩
def ki:Abs.Fn:=⟨1,[.t 2],gC ")EAf*nhf21ZvOe_.4dXh3)][3VjwEe?J"⟩
def gh:Abs.bV:=gC ")JTofxQN?6VLu?"
def du:Abs.bV:=gD [] [⟨none,none,false,.mp (.put (some (true,[some .i64,some .i64]))) [.t 72,.t 73,.t 80]⟩,qn 68 .quo 67 (ba 8),qn 61 .quo 60 (ba 1000)] ",o4UAa>Q+ehR)LR+:.d?>G`)Hctc_K=pWjI5YTD1G:T9KHQ2MkxBG`ozTCsX@3`S=OePwZ<;`8uxxR1[abU@4rF`a^lK8`^,*XMwm,*Y(YDKzxip,`_A)zeVuY0>.yRq(U3HYV1N>,j@(K@YN5+d=`rbZ<1sQXXTvx.9a=oIOU4ps3LsM3n0(+C[YkltF]yQG4LMVCzx6V5x74,.UI@6"
def Aq:Abs.Fn:=⟨3,[],gD [] [qx 4 1] "=X=cIn0XcLirr]lj?H+QkzG>U1qTIf^`E,u+jcR1y`6Ztvu*vz9y)E9p@_t@rtV.>wy*JlY8e<HPlnQmVGv`I;ce"⟩
def Ar:Abs.Fn:=⟨2,[.v 4 true 3],gC "+Cd5QcSZ.cpaG9=],p:32e<*C+IVQ=*COt<FC9=h0Dh.tW]>3c"⟩
def Cg:Abs.Fn:=⟨2,[.v 4 true 3],gC "*(K;DSe8@?4HQoFYBACKDk(U+YPpG699iRNYRclokogFL+lyC:?lr3o>"⟩
def Aw:Abs.Fn:=⟨2,[.v 4 true 3],gC "*0k06,e,oTCD6^fG`AV6Uz[H`lg4)(uc[,lmW6e<_01)wvmFXDBC"⟩
def xT:Abs.Fn:=⟨2,[.t 4],gC "415IKN^y.3pr:xKve>:A]:^(]SkI9?1ltlR=BNOS;;ooODm@"⟩
def u7:Abs.Fn:=⟨2,[.t 2],gC "0SE<C8]]OGo)cz5ayWWFw"⟩
def wG:Abs.Fn:=⟨2,[.t 4],gC "1)M7)?4acTH,yqGB7[(Zf0wVL.f?ULIf[OeH=L4fcTNrr"⟩
def lN:Abs.Fn:=⟨2,[.t 4],gC ".we@vH2nYdy4k,fBW;8xc"⟩
def sr:Abs.Fn:=⟨2,[.t 3],gC "r0>qcL6NL^nC0Y.S6li<7"⟩
def wS:Abs.Fn:=⟨2,[.t 4],gC "1Xh7nS@RUFoxa;Y+^U>K*ZyGYBiFZBq=+TmZq5iMiy7G81W"⟩
def JG:Abs.Fn:=⟨2,[.t 4],gC ")whz_pXaNcAs>jh*>(IQ:DCXaXrSlx7.Wz=mmZ5Q@<,:r=+;;"⟩
def Av:Abs.Fn:=⟨1,[.t 2],gC ")18TLxq+1?8=wgq+"⟩
def xQ:Abs.Fn:=⟨1,[.t 2],gC "32^kLWNWBbV=>3M*u=X)JhhW[`ju7n7m=`"⟩
def y9:Abs.Fn:=⟨1,[.t 2],gC "87Fra_HQKSay.qlA"⟩
def mw:Abs.Fn:=⟨2,[.t 4],gC ".we@vH2nYdy9B]^Jiq^KM"⟩
def sn:Abs.Fn:=⟨2,[.t 3],gC "r0>qcL6NL^nC0Y.S6li<7"⟩
def kX:Abs.Fn:=⟨2,[.t 4],gC ".we@vH2nYdy=l:US(V1p8"⟩
def pW:Abs.Fn:=⟨2,[.t 3],gC "r0>qcL6NL_=_9uJQuG@^Q"⟩
def gN:Abs.bV:=gD [] [qo 21 (.call false (.t 18) [.t 19,.t 20])] ")L+r_l2Soe[kqxq5uaC1qs4AU1x[WPHphaKVagwkLw5k,Klt8qN<p+N:KOyeC;j7y*U93WqCnjr5f>AD04leaRs,Wk`"
def mZ:Abs.bV:=gC ")5._=]=W+)drLp92j?(Zo:@@sNvUvkn=Q51q.y.+,Pxqu*@S(.;I+=n8d6WW*"
def mY:Abs.bV:=gC ")5._=]=W+)drLp92j?(Zo:@@sNvUvkn<[PE[OxJRRX<8<>Rzpusy69ghln9um"
def Ch:Abs.Fn:=⟨2,[.t 3],gC ";K<?SU0O@mKCWX[)_kx"⟩
def eR:Abs.bV:=gC "3@M*pIf_:A6IR1_4*8q3>bff4j?3FK*_Oo6xj1`vsR=?5QgW@JewK0"
def Cd:Abs.Fn:=⟨1,[.t 2],gC "))4vOSafFwoTx<0lNC:>"⟩
def ze:Abs.Fn:=⟨2,[.t 4],gC "g0kSszsteCgN7yd)CSQJGPaj(P,(s"⟩
def za:Abs.Fn:=⟨2,[.t 4],gC "g0kSszsteCgN7yd)Ce.B6QS6Uhh1<"⟩
def vk:Abs.Fn:=⟨2,[.t 4],gC "1w0N:O@kvJNcORz8lh8cKt<ljH"⟩
def y8:Abs.Fn:=⟨1,[.t 2],gC "4iA.2rR*w?b]+zK7Z[YSCSZ1^Gu+L5.oCqz(`Ckb1PMMR?^UmKY"⟩
def eh:Abs.bV:=gC "*cRzGOkX08lfq[YVJYY4>:oN=1DkBdjYF)JjO:[r6=aKXXa4i7ss;o=_fRRkvsUo[*+lNdwHft+9.QkPhkHHuT18qRw5VTR0q.5ZQS@Kx?HI*JjF1Oy,hARe*sraR"
def ud:Abs.Fn:=⟨2,[.t 3,.t 4],gC "0NYIZPHAv0FHSpbvT;UDX<Zjdmz:i;r"⟩
def lO:Abs.bV:=gC ")5._=]=W+)drLp92j?(Zo:@@sNvUvkn<8^xQ7x0=<[oCqG]=Bpghc`dWH8S3e"
def mB:Abs.bV:=gC ")5._=]=W+)drLp92j?(Zo:@@sNvUvkn<8^xQ7x0=<[oCqG]=Bpghc`dWH8S3e"
def kY:Abs.bV:=gC ")5._=]=W+)drLp92j?(Zo:@@sNvUvkn=,BdfhxehiTZ*X5IgM(.8Ydjy?Qqfu"
def iU:Abs.bV:=gD [] [qk 35 .rem 33 34,qk 20 .rem 18 19] "0dS3Zx0S:G.yTH)zmy;*H^YT5,Tx4KF6FLE6fz>z*;YtoyulFg+f)fxzez^YzhdM^6C*HRK(p(O409?DzMrQHwoEF+a[SpGtify+],7mPppm.=AgE+tD*7PV=8378lqVdW*I08Mt6r8nbH:``z]_JU54b0PJNab9w?o;5[*XqBSG;3N5),gu,:pcD<b@A"
def mz:Abs.Fn:=⟨2,[.t 4],gC ".we@vH2nYdyOnR5tr;t_4"⟩
def tH:Abs.Fn:=⟨2,[.t 3],gC "r0>qcL6NL_+P^>f(UYTLm"⟩
def mC:Abs.bV:=gC ")5._=]=W+)drLp92j?(Zo:@@sNvUvkn<[PE[OxJRRX<8<>Rzpusy69ghln9um"
attribute [local irreducible] iX gQ gR fu pF gh du gN mZ mY eR eh lO mB kY iU mC
def fe:Abs.bV:=gD [gR,gQ] [] "getM1WGZ]BQy+quLFz+[2.:88dp;j;6D;DIc1:v^p5(?0h.Z*,Yp@j`kLecC9NaksOdvx`>B0lXxv.:=?5npNYk)jQTiLN"
def uk:Abs.Fn:=⟨3,[.t 6],gD [fu] [] "*CwldWp9Q7390Bu9T7Kt=vf.,dsK4o1<WHbdp3C9:<EB<rs7o9rs*QP:v7j02O*WLnf4H9b8i06JS<eP]hZeq3ixud)e>0nczXTz04PF(cl"⟩
def sw:Abs.Fn:=⟨2,[.t 4],gD [pF] [] "C)9jC9;th0fkF@W3xFN2nGlEO"⟩
def xS:Abs.Fn:=⟨2,[.t 4],gD [.O1 [2,3,4,5,6] (.t 17) [18] gh du] [ql 81 1 5,qo 4 (.mv (.c .undef))] ")LDH=r3Y]2NXEI^]]+yXF7<`o:Y^BtO1j2XT]ANhQjs+in`Ef8)4`x;V?;;gb,tDA2UNRBU+]1D9"⟩
def xO:Abs.Fn:=⟨3,[],gD [gN] [] ")F5bdwo;aCm)ZsT]NM(3"⟩
def oZ:Abs.Fn:=⟨2,[.t 4],gD [mZ] [] "C)9jC9;th0fkF@W3xFN2nGlEO"⟩
def oY:Abs.Fn:=⟨2,[.t 4],gD [mY] [] "C)9jC9;th0fkF@W3xFN2nGlEO"⟩
def tI:Abs.Fn:=⟨2,[.t 4],gD [eR] [] "5Nj2iIMc[8hQhC3F5LYz=CMH_l0*Nb6kYn"⟩
def sk:Abs.Fn:=⟨2,[.t 4],gD [eh] [] "<a09LLHw[M5LL;LobA=(h,BvM>x)TACZR"⟩
def nT:Abs.Fn:=⟨2,[.t 4],gD [lO] [] "C)9jC9;th0fkF@W3xFN2nGlEO"⟩
def oh:Abs.Fn:=⟨2,[.t 4],gD [mB] [] "C)9jC9;th0fkF@W3xFN2nGlEO"⟩
def m6:Abs.Fn:=⟨2,[.t 4],gD [kY] [] "C)9jC9;th0fkF@W3xFN2nGlEO"⟩
def yX:Abs.Fn:=⟨2,[],gD [iU] [] "YtW<5y7xzJPrz5)Zz:BtXR=@Jb;4`H4+.f3hrBZ:Y"⟩
def oi:Abs.Fn:=⟨2,[.t 4],gD [mC] [] "C)9jC9;th0fkF@W3xFN2nGlEO"⟩
attribute [local irreducible] fe
def zf:Abs.Fn:=⟨3,[.t 6,.t 7,.t 8],gD [.iC [1,2,3,9,23] (.t 23) 24 25 0 iX fe] [qo 23 (.mp .rng [.t 22])] "F_L(8e<ah5(+Tzm[lmaDi)FtHE>FyGd6J2Mud,J2DEI>E"⟩
def GK:tT:=an7 [(26,[6,7,8]),(25,[6,7,8]),(24,[9,12,108]),(23,[3,9,12,93,94]),(22,[3,9,12,93,94]),(21,[3,9,12,17,93,94]),(20,[3,9,12,93,94,95]),(19,[3,9,12,93,94]),(18,[1,3,9,12,41,42,43]),(17,[1,3,9,12,41,42,43]),(14,[1,3,9,12,16,41,42,43]),(16,[1,3,9,12,16,41,42,43]),(15,[1,3,9,12,15,16,41,42,43]),(13,[1,3,9,12,13,14,15,16,41,42,43,56]),(12,[1,3,9,12,13,14,15,16,41,42,43]),(11,[1,3,9,12,13,14,15,41,42,43]),(10,[1,3,9,12,13,14,41,42,43]),(9,[1,3,9,12,41,42,43,44]),(8,[1,3,9,12,41,42,43]),(7,[1,2,3,9,12]),(6,[1,2,3,9,23]),(5,[1,2,3,9,10,11,23]),(4,[1,2,3,9,10,11,23]),(3,[1,2,3,9,23,25]),(2,[1,2,3,9,23]),(1,[1,2,3,9]),(0,[1,2,3])] [(4,[3,9,12,93,94]),(2,[1,3,9,12,41,42,43]),(0,[1,2,3,9,23])] [] [10,11,12,16] [10,11,16] [] [2002,1001]
def FG:tT:=an7 [(12,[4]),(11,[]),(10,[3,5,7,10,71]),(9,[3,5,7,10]),(8,[3,5,7,8,9]),(7,[2,3,5,7,8]),(6,[2,3,5,7,8,41]),(5,[2,3,5,7,8]),(4,[2,3,5,6,7]),(3,[2,3,4,5,6,17]),(2,[2,3,4,5,6]),(1,[2,3,4,5]),(0,[2,3,4])] [(0,[2,3,4,5,6])] [] [5,6,7] [7] [] []
def tF5:List (Nat×tT×Abs.Fn):=[(303,GK,zf),A0 304 xB,A0 305 ui,A0 306 Ep,A3 [] 307 uk [] [9] [9] [] [],A3 [] 308 HG [] [0] [0] [] [],A0 309 Eh,A0 310 uf,A2 [] 311 wO [] [1],A0 312 xX,A0 313 so,A0 314 DL,A0 315 xV,A2 [] 316 Am [] [3],A0 322 mX,A0 323 tJ,A0 324 mW,A0 325 uj,A0 326 Eo,A0 327 zd,A0 328 wR,A0 329 Ah,A0 330 sw,A0 331 yY,A2 [] 332 ki [] [2,5],(333,FG,xS),A2 [] 334 Aq [] [0],A3 [] 335 Ar [] [4] [4] [] [],A3 [] 336 Cg [] [4] [4] [] [],A3 [] 337 Aw [] [4] [4] [] [],A0 338 xT,A0 339 u7,A0 340 wG,A0 341 lN,A0 342 sr,A0 343 wS,A0 344 JG,A0 345 Av,A0 346 xQ,A0 347 y9,A0 348 mw,A0 349 sn,A0 350 kX,A0 351 pW,A3 [] 352 xO [] [2,5] [5] [] [],A0 355 oZ,A0 356 oY,A0 357 Ch,A2 [] 358 tI [] [4],A0 359 Cd,A0 360 ze,A0 361 za,A0 362 vk,A0 363 y8,A3 [] 364 sk [] [7] [7] [] [],A0 365 ud,A0 366 nT,A0 367 oh,A0 368 m6,A0 369 yX,A0 370 mz,A0 371 tH,A0 372 oi]
theorem kF5:(tF5.map λp=>chk p)=tF5.map λp=>some p.2.2:=by kernel_rfl
end Go.Proofs.YtpapbbojmclkgaaGreatDoor
