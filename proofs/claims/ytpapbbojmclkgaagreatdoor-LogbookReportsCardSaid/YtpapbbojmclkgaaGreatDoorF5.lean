import Derived.Test.YtpapbbojmclkgaaGreatDoorIds
set_option linter.all false
set_option maxRecDepth 100000
namespace Go.Proofs.YtpapbbojmclkgaaGreatDoor
open Go Go.Abs
attribute [local irreducible] aX zA
def kL:Abs.Fn:=⟨2,[.t 4],gC ".wQU<LfRg1Fyc]j1g0@sP"⟩
def po:Abs.Fn:=⟨2,[.t 3],gC "r0>s2[Dalx0cf,:_RZ4Mp"⟩
def gH:Abs.b9:=gD [] [qo 21 (.call false (.t 18) [.t 19,.t 20])] ")oQSy2wLZ0Y7E(a?TZlitLIw`JLELPZp0ENsC8EDs*>`biv>1_QHZ3meahzWGUjIDvYm0]>[M)nj^ZbR.gR,eUS>XVT"
def mN:Abs.b9:=gC ")=.iHzJNX0mzoH<fac]<FkYf<W,3C(P:GU1i^5PQAZdLk:4AQ?SzrC+6R<8VD"
def mM:Abs.b9:=gC ")=.iHzJNX0mzoH<fac]<FkYf<W,3C(P9ME)6gH8TGO[ocH=?W]:4ETYGQ?RjT"
def Bz:Abs.Fn:=⟨2,[.t 3],gC ";K<ATO^ALLrn`KR@lKF"⟩
def eR:Abs.b9:=gC "3iiHr5M,_L;Ew]8@=5ZvqxYk8p7(z?3yFC,,*YgYqO<gfR;PdpY*S4"
def Bt:Abs.Fn:=⟨1,[.t 2],gC ")(BhDJLWanVOZI5L6C:u"⟩
def yF:Abs.Fn:=⟨2,[.t 4],gC "3xD^V48:K?iuUUwub77f33yN+aJ`aW"⟩
def yB:Abs.Fn:=⟨2,[.t 4],gC "3xD^V48:K?iuUUwub9p9iG3<nd>vcj"⟩
def uS:Abs.Fn:=⟨2,[.t 4],gC "1vNKQ@KpNiDz9MomRU^p(5;375"⟩
def yz:Abs.Fn:=⟨1,[.t 2],gC ")hdo8aM?V:`_.YSZni2agM=TrXE]a?rcswBdyhd.8G>GD33u]Icd"⟩
def ed:Abs.b9:=gC "+W1n2RgL4KY<Qw*p>RhiW0f87,CZRtUibNuZDkivesQP3b<h0N9`S_1G[;*9PEFH@F<mGaNG;0(rZ0.H.IYhoHORv*5UJQ>HH9tJFyzrJJO?Jl*JDTR_T3l=8P`eC"
def tH:Abs.Fn:=⟨2,[.t 3,.t 4],gC "0ID*cCHglZPu1,fqPRXZc0?HZ<Z]r3H"⟩
def lA:Abs.b9:=gC ")=.iHzJNX0mzoH<fac]<FkYf<W,3C(P8y<xnkzTUsJ0._OAgZkU9W^GOyj7t4"
def ma:Abs.b9:=gC ")=.iHzJNX0mzoH<fac]<FkYf<W,3C(P8y<xnkzTUsJ0._OAgZkU9W^GOyj7t4"
def kM:Abs.b9:=gC ")=.iHzJNX0mzoH<fac]<FkYf<W,3C(P9sM,ObgmRmU7^gA8iTMp.3Kl>zfn`u"
def iL:Abs.b9:=gD [] [qk 35 .rem 33 34,qk 20 .rem 18 19] ")j6UXd,=P<8:<AB0n(quWxePZTbNwb)]<WYqU7YT1ablP.vfAHerEPDaxg4HF<PwRL>`].weO)JPfXkI=QJ)Ro?zwsqdO(]>0iwL57.u@e+Xpm+hr(U_)2=6J<0mHSBYK6AM*UY.AJ<9x+9GVIY[KqBrob^dzY7fboaiCY0>5i`A;?tWvvEMvL2UaGoT=y"
def l8:Abs.Fn:=⟨2,[.t 4],gC ".wQU<LfRg1G:euIR]g2bL"⟩
def s9:Abs.Fn:=⟨2,[.t 3],gC "r0>s2[DalwqU8HU73mH=:"⟩
def mc:Abs.b9:=gC ")=.iHzJNX0mzoH<fac]<FkYf<W,3C(P9ME)6gH8TGO[ocH=?W]:4ETYGQ?RjT"
attribute [local irreducible] gH mN mM eR ed lA ma kM iL mc
def xd:Abs.Fn:=⟨3,[],gD [gH] [] ";xIoMU[cQf2[W8Znh=GE"⟩
def oA:Abs.Fn:=⟨2,[.t 4],gD [mN] [] "BhhO2J>G`gQ_4cA@f[tHiP*xe"⟩
def oz:Abs.Fn:=⟨2,[.t 4],gD [mM] [] "BhhO2J>G`gQ_4cA@f[tHiP*xe"⟩
def tc:Abs.Fn:=⟨2,[.t 4],gD [eR] [] "kyn[x9[z9]_@gI`O8M<:Q:xFj@o2gSDec"⟩
def rN:Abs.Fn:=⟨2,[.t 4],gD [ed] [] "=A:<652E]7?15Fr4Iob4Ir)2(wc3N073T"⟩
def nB:Abs.Fn:=⟨2,[.t 4],gD [lA] [] "BhhO2J>G`gQ_4cA@f[tHiP*xe"⟩
def nL:Abs.Fn:=⟨2,[.t 4],gD [ma] [] "BhhO2J>G`gQ_4cA@f[tHiP*xe"⟩
def mO:Abs.Fn:=⟨2,[.t 4],gD [kM] [] "BhhO2J>G`gQ_4cA@f[tHiP*xe"⟩
def yt:Abs.Fn:=⟨2,[],gD [iL] [] "[O`5OCqcf,_Y()ib;hfQ;r]m[hR(ItuZt4W*[Z`OL"⟩
def nM:Abs.Fn:=⟨2,[.t 4],gD [mc] [] "BhhO2J>G`gQ_4cA@f[tHiP*xe"⟩
def tF5:List (Nat×tv×Abs.Fn):=[A0 350 kL,A0 351 po,A3 [] 352 xd [] [2,5] [5] [] [],A0 355 oA,A0 356 oz,A0 357 Bz,A2 [] 358 tc [] [4],A0 359 Bt,A0 360 yF,A0 361 yB,A0 362 uS,A0 363 yz,A3 [] 364 rN [] [7] [7] [] [],A0 365 tH,A0 366 nB,A0 367 nL,A0 368 mO,A0 369 yt,A0 370 l8,A0 371 s9,A0 372 nM]
theorem kF5:(tF5.map λp=>chk p)=tF5.map λp=>some p.2.2:=by kernel_rfl
end Go.Proofs.YtpapbbojmclkgaaGreatDoor
