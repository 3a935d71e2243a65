import Derived.Test.YtklfdfnoebnciaaGreatDoorIds
set_option linter.all false
set_option maxRecDepth 100000
namespace Go.Proofs.YtklfdfnoebnciaaGreatDoor
open Go Go.az
attribute [local irreducible] aW AV
def o6:az.bX:=gC "*5^x5?Aum3cu3;]NGpP.m]GOuPB6V<.OQPpia)zi4.HP(8(Sc:2>T]<YvrV"
def nv:az.Fn:=⟨1,[.t 2],gC "R<CZ2F^Tl<SwYg71"⟩
def cQ:az.Fn:=⟨1,[.t 2],gC "C=;*t]f9H?x9)^WbHNBfUp>iznOhY"⟩
def fx:az.bX:=gC "+>g@opja4^qgJW6U"
def cu:az.bX:=gD [] [⟨none,none,false,.mp (.put (some (true,[some .i64,some .i64]))) [.t 72,.t 73,.t 80]⟩,qn 68 .quo 67 (aW 8),qK 34 .sub 28 33,qK 28 .sub 23 27] "*uOZK=9ylp6fm[>[u04>b+YVi2U]^4y=:NjxosixFBmmA@jp*=FYv:q<3y5:YZr+qU?NNkN)Nr*^piN?4<]iuEYGC4OHDpNHdP==A:C+,o]ggLPGK^t[^xKXRs]U=e:vmQ7>]3b_g=zgRD6K@M68VqGO,j44S:I)vGOpjbVv[RYV3m*cOz.hY@KAE6MKHX4FK9Cw<HO6Vb=)?az:^zCKc9TM3Znwc^(OD+N1dM77,"
def oU:az.Fn:=⟨3,[],gD [] [qx 4 1] "3kqTbL6H:kD6q,xQaH>`J4uvhN4j1;P,d8UD(mG]a^S^[1)=SGdg`@,Q>(2)X+eM@S;35R=lk9R6rSW)1llHo=1u"⟩
def oV:az.Fn:=⟨2,[.v 4 true 3],gC "=:+KUzC;A`16a+q5d?7ufaEo=mC:WM<mDjt)piK.dPZe(I<ob"⟩
def qq:az.Fn:=⟨2,[.v 4 true 3],gD [] [qK 19 .quo 16 18,qK 12 .quo 9 11] ":b^KEFIdO,TZ2bM^QIad,l[Z4RPo`yt=eI;(A0QdW3FyfbSLww4gH(e<b"⟩
def oY:az.Fn:=⟨2,[.v 4 true 3],gC "3hzed=A708T>xiDF[1*@rzyD.??w@3c.f<aGJnVifWl5T4lS,42b"⟩
def mi:az.Fn:=⟨2,[.t 4],gC "FX*xKbb;>]DRNml?FmbC4j5iA.WAsw;.8:TjLcSghmK?8;Q"⟩
def kl:az.Fn:=⟨2,[.t 2],gC ")C7ZDKxk9AUuOn0P>:KY"⟩
def la:az.Fn:=⟨2,[.t 4],gC "7U]hmk>Z@K(0;KZQ<9e^qgqrS*c@]nLtNe*qhrkmU6Q"⟩
def kM:az.Fn:=⟨2,[.t 4],gC "RMGURy=1z.2Ofe;6stz"⟩
def rM:az.Fn:=⟨2,[.t 3],gC "*+r2LKddSM=Tkj_jx2]QZ"⟩
def ll:az.Fn:=⟨2,[.t 4],gD [] [qK 15 .quo 5 14] ".hc;.O3xPC;ImdFR92U6iLe81q_hf0JTJOL=S?DwRutf"⟩
def xo:az.Fn:=⟨2,[.t 4],gD [] [qk 8 .quo 6 7] "2g`[*:e`3cZy+?JwJ.1qMKxhBAupK3*7ErH1gUu?84Szz"⟩
def oX:az.Fn:=⟨1,[.t 2],gC "4O@1*jmjar>EP71"⟩
def mf:az.Fn:=⟨1,[.t 2],gD [] [qk 10 .quo 7 9] ")7IO1=I)r>fN_KA+i:P:*Cd1wPRkTFb:mO"⟩
def nC:az.Fn:=⟨1,[.t 2],gC ")B_gqEyEoNZCkUP1"⟩
def ln:az.Fn:=⟨2,[.t 4],gC "RMGURy=1z.CIc1a?h`z"⟩
def rK:az.Fn:=⟨2,[.t 3],gC "*+r2LKddSM=Tkj_jx2]QZ"⟩
def j6:az.Fn:=⟨2,[.t 4],gC "RMGURy=1z.TC_O5H]Kz"⟩
def pH:az.Fn:=⟨2,[.t 3],gC "*+r2LKddSMD[49ycS=qQZ"⟩
def fP:az.bX:=gD [] [qo 21 (.call false (.t 18) [.t 19,.t 20])] ")?2v00mm6.VjNF`Z*o,*rOdbY0os+BUUehNcHUQ)[M,4tbPqSiy`GSyoPtri3llHP@o,8X,nzSCc3`hsNP,"
def lX:az.bX:=gC ")ZexoMxw3Y@bXt;n@J2VGxi2Moe3K7V9T*`D(AlOe^:Yon^^sM^p.hH<YvrV"
def lW:az.bX:=gC ")ZexoMxw3Y@bXt;n@J2VGxi2Moe3K7V5llrpp_M_RYsI[*vjp]yuYwH<YvrV"
def yG:az.Fn:=⟨2,[.t 3],gC "4+OTIw0m2HiN=57]QZ"⟩
def dT:az.bX:=gC "*)g4y;]W=CP]03`JFKF9JjRSTCDtIkhYt<0?1AfEo6=x6^JUo0Q>B>pzu)V"
def pZ:az.Fn:=⟨1,[.t 2],gC "0XjhaRaq1O_Zr3Ow`O"⟩
def nH:az.Fn:=⟨2,[.t 4],gC ",SBTbE*`@3Q_d:@ib30f2Ipm3*ghz"⟩
def nD:az.Fn:=⟨2,[.t 4],gC ",SBTbE*`@3Q_d:@ibLf^9Wim3l>hz"⟩
def ub:az.Fn:=⟨2,[.t 4],gC "8w2PI(wo>2p.I@^dAT(wMGbUz"⟩
def nA:az.Fn:=⟨1,[.t 2],gD [] [qo 9 (.call false (.c (.fn 156 [] [])) [.t 8,.c (.int .i64 (aW 0)),.c (.int .i64 (aW 10000000000))])] "DMjpsAkGSQ2TG0a>5+)lYE<IFMh;n]BNSNb<s0q4+cXN+UJH;"⟩
def dq:az.bX:=gC "*K]G]dGdioot@KiwphukWn8KQ6E=:4O7MxO]qWI43rE4;<AKct[[?Ij<>sA,=X:SN2_WXlQ0E;)[`*WhK^ex4IXPnzOUEd>E4IuLDUf_IwO37OIPEWTIW(PKda"
def jI:az.Fn:=⟨2,[.t 3,.t 4],gC ",CGESi4vo`:)v1YBDwQ,U)9I:m2d?f"⟩
def kN:az.bX:=gC ")ZexoMxw3Y@bXt;n@J2VGxi2Moe3K7V3xdS5kDgfrX>AQ4Ypo<_OG+q<YvrV"
def lu:az.bX:=gC ")ZexoMxw3Y@bXt;n@J2VGxi2Moe3K7V3xdS5kDgfrX>AQ4Ypo<_OG+q<YvrV"
def j7:az.bX:=gC ")ZexoMxw3Y@bXt;n@J2VGxi2Moe3K7V7`u@Yuy4W3[VQevAdr+CImoq<YvrV"
def gR:az.bX:=gD [] [qk 35 .rem 33 34,qk 33 .quo 31 32,qk 20 .rem 18 19] "3yerPtJ9@WbuEAVeyvB4R@G0+qg0bG[Iw)`*M8k>zp]NBpF+.B_c9,,AUZO17fQ<lUagNAg,`I+SAQYmBVlNu4yG*slYnrLO+Cdy+,X+p)65.;h2YBJUX3jNXXAu@>BZjC3_tpts.GNPA,2^SjE81x?BW^Zf3q?kPrW,lMyhf2,NN_]mkd0Wc6;NCg4O+L"
def lq:az.Fn:=⟨2,[.t 4],gC "RMGURy=1z0jpH`u+itz"⟩
def sP:az.Fn:=⟨2,[.t 3],gC "*+r2LKddSMA.xQlg=8>QZ"⟩
def lA:az.bX:=gC ")ZexoMxw3Y@bXt;n@J2VGxi2Moe3K7V5llrpp_M_RYsI[*vjp]yuYwH<YvrV"
attribute [local irreducible] o6 fx cu fP lX lW dT dq kN lu j7 gR lA
def rO:az.Fn:=⟨2,[.t 4],gD [o6] [] ")6u1*U1ETUcw;.^z1=IsTyF?9["⟩
def mh:az.Fn:=⟨2,[.t 4],gD [.Jw [2,3,4,5,6] (.t 17) [18] fx cu] [ql 81 1 5,qo 4 (.mv (.c .undef))] "*Qw68V73xPGVfl;r1NWmV=b0poGhhZ6Jp..kgA@jga9Mx)8@6L[BQ5y3(wI7v5`qmLez8o]z"⟩
def mc:az.Fn:=⟨3,[],gD [fP] [] ",3202NVV1eVKvr_;yMC"⟩
def oo:az.Fn:=⟨2,[.t 4],gD [lX] [] ")6u1*U1ETUcw;.^z1=IsTyF?9["⟩
def om:az.Fn:=⟨2,[.t 4],gD [lW] [] ")6u1*U1ETUcw;.^z1=IsTyF?9["⟩
def jc:az.Fn:=⟨2,[.t 4],gD [dT] [] "JvdcMKLa3l017kx(3b+_Tg@7G2=t2c)="⟩
def iD:az.Fn:=⟨2,[.t 4],gD [dq] [] ")rPDGdMR.gg@2fuSj,JQkci7E,CC0PoG"⟩
def mP:az.Fn:=⟨2,[.t 4],gD [kN] [] ")6u1*U1ETUcw;.^z1=IsTyF?9["⟩
def nc:az.Fn:=⟨2,[.t 4],gD [lu] [] ")6u1*U1ETUcw;.^z1=IsTyF?9["⟩
def lY:az.Fn:=⟨2,[.t 4],gD [j7] [] ")6u1*U1ETUcw;.^z1=IsTyF?9["⟩
def nu:az.Fn:=⟨2,[],gD [gR] [] "*oZQ;s[@(=952Bzcu(p8glHzE]k,_YxOk8k@OC,qc."⟩
def nd:az.Fn:=⟨2,[.t 4],gD [lA] [] ")6u1*U1ETUcw;.^z1=IsTyF?9["⟩
def BU:tW:=an7 [(12,[4]),(11,[]),(10,[3,5,7,10,71]),(9,[3,5,7,10]),(8,[3,5,7,8,9]),(7,[2,3,5,7,8]),(6,[2,3,5,7,8,41]),(5,[2,3,5,7,8]),(4,[2,3,5,6,7]),(3,[2,3,4,5,6,17]),(2,[2,3,4,5,6]),(1,[2,3,4,5]),(0,[2,3,4])] [(0,[2,3,4,5,6])] [] [5,6,7] [7] [] []
def tF3:List (Nat×tW×az.Fn):=[A0 220 rO,A0 221 nv,A2 [] 222 cQ [] [2,5],(223,BU,mh),A2 [] 224 oU [] [0],A3 [] 225 oV [] [4] [4] [] [],A3 [] 226 qq [] [4] [4] [] [],A3 [] 227 oY [] [4] [4] [] [],A0 228 mi,A0 229 kl,A0 230 la,A0 231 kM,A0 232 rM,A0 233 ll,A0 234 xo,A0 235 oX,A0 236 mf,A0 237 nC,A0 238 ln,A0 239 rK,A0 240 j6,A0 241 pH,A3 [] 242 mc [] [2,5] [5] [] [],A0 250 oo,A0 251 om,A0 252 yG,A2 [] 253 jc [] [4],A0 254 pZ,A0 255 nH,A0 256 nD,A0 257 ub,A0 258 nA,A3 [] 259 iD [] [7] [7] [] [],A0 260 jI,A0 261 mP,A0 262 nc,A0 263 lY,A0 266 nu,A0 267 lq,A0 268 sP,A0 269 nd]
theorem kF3:(tF3.map λp=>Yl p)=tF3.map λp=>some p.2.2:=by kernel_rfl
end Go.Proofs.YtklfdfnoebnciaaGreatDoor
