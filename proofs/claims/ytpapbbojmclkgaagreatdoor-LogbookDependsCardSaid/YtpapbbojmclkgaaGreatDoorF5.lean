import Derived.Test.YtpapbbojmclkgaaGreatDoorIds
set_option linter.all false
set_option maxRecDepth 100000
namespace Go.Proofs.YtpapbbojmclkgaaGreatDoor
open Go Go.Abs
attribute [local irreducible] aX zC
def kM:Abs.Fn:=⟨2,[.t 4],gC ",FKO,T6S`2^jDA1hFk6>0"⟩
def pv:Abs.Fn:=⟨2,[.t 3],gC "]DfjH^(OedtLiHcZ4).>0"⟩
def gG:Abs.b9:=gD [] [qo 21 (.call false (.t 18) [.t 19,.t 20])] "6QtsKl=+SB=YpA;=8dej9q8mmp4;e`0PSyxSkP[D:)O*plUXrT3Gz;i(<>P:@Ya]_(?,Wx];:>kSCt;dI`Sj4F4ppR"
def mO:Abs.b9:=gC "+o.rh6`pdB9SkD+t;atDP+ibUX@rUWGn@G7RO5g0HGg0xAa7bR9E^RuH32srR"
def mN:Abs.b9:=gC "+o.rh6`pdB9SkD+t;atDP+ibUX@rUWGgXHPW`t4XWSRP)Tmhrg9E^RuH32srR"
def BA:Abs.Fn:=⟨2,[.t 3],gC "6^@WS>RrmEY5npH).>0"⟩
def eQ:Abs.b9:=gC ">WJEa(mBIcs;jt@eK<L<Ifu=fuJd2NI]Bm)un4(*mM25V2LipNZsrR"
def Bu:Abs.Fn:=⟨1,[.t 2],gC "gifJT:QVUcqvYlSChg0"⟩
def yI:Abs.Fn:=⟨2,[.t 4],gC "f(ar+6:wDi@@*=:UYt`lJ<<(14uCR0"⟩
def yE:Abs.Fn:=⟨2,[.t 4],gC "f(ar+6:wDi@@*=:UYvq_DwK]14uCR0"⟩
def uT:Abs.Fn:=⟨2,[.t 4],gC ".WWVCRrjwWBX8@hO[xvXLlk6>0"⟩
def yC:Abs.Fn:=⟨1,[.t 2],gC "N<*MW.[[9>kPuD7A)k@n@DElTXs88ovt1G0M+,^eKNBFmM(?Hg0"⟩
def ed:Abs.b9:=gC "5Rt4oKy(q[bOz94s4DY9zW5C^b(Q^kN5Vn2N8E(TR:IEYhvMyha>ZJ8GM8GZPwbM1l,FE18^aIIz<O>yeP(K+;ivNKX7u``:>C,]XK9n_UoC0K8ELpEtfwda*ep("
def tI:Abs.Fn:=⟨2,[.t 3,.t 4],gC ",@+]`SMx]>soErPfb5VjakNFHF,(.R0"⟩
def lC:Abs.b9:=gC "+o.rh6`pdB9SkD+t;atDP+ibUX@rUWGd<I52@Alm`1H`U_K.zq9E^RuH32srR"
def mc:Abs.b9:=gC "+o.rh6`pdB9SkD+t;atDP+ibUX@rUWGd<I52@Alm`1H`U_K.zq9E^RuH32srR"
def kN:Abs.b9:=gC "dMxdO<knH,ggPKtqz=0[=7GW<r*E5]QrPiYP>mk;rt`cMoVwME^RuH32srR"
def iK:Abs.b9:=gD [] [qk 35 .rem 33 34,qk 20 .rem 18 19] "l=d`k<;.FboA@LgfhdxE_ZZyZ@XNV,tZ+b8)>mD;FjH2zYv<1yeC3guu_iqHnqbKQ+3w(tGWU>3HrN`d(sGb@wC^G0v)syR*01+G@?jdW8fatDkthYXLrA3I857;@D)+D_WVtMj)sT7`]fSjMHDnfFbdA?Q`YwV^ujcxVc`FbZ@KxkbZ(bUI)voLoMR"
def l9:Abs.Fn:=⟨2,[.t 4],gC ",FKO,T6S`2^ypy)NFk6>0"⟩
def sZ:Abs.Fn:=⟨2,[.t 3],gC "28EdAyA04UHHC.UTaH).>0"⟩
def mf:Abs.b9:=gC "+o.rh6`pdB9SkD+t;atDP+ibUX@rUWGgXHPW`t4XWSRP)Tmhrg9E^RuH32srR"
attribute [local irreducible] gG mO mN eQ ed lC mc kN iK mf
def xj:Abs.Fn:=⟨3,[],gD [gG] [] "0c6g;]J>_+t)Uai0xf6i"⟩
def oC:Abs.Fn:=⟨2,[.t 4],gD [mO] [] ":op5GANzS2MZjZ2SNWXtuGYg0"⟩
def oB:Abs.Fn:=⟨2,[.t 4],gD [mN] [] ":op5GANzS2MZjZ2SNWXtuGYg0"⟩
def s9:Abs.Fn:=⟨2,[.t 4],gD [eQ] [] "+N)kI.Dw<qPS:;thsC5UM17[xxpTawqQ>0"⟩
def rM:Abs.Fn:=⟨2,[.t 4],gD [ed] [] ".[kp,^NVijrUcAPu(Qcl<CJEy*LEZqU(0"⟩
def nC:Abs.Fn:=⟨2,[.t 4],gD [lC] [] ":op5GANzS2MZjZ2SNWXtuGYg0"⟩
def nM:Abs.Fn:=⟨2,[.t 4],gD [mc] [] ":op5GANzS2MZjZ2SNWXtuGYg0"⟩
def mP:Abs.Fn:=⟨2,[.t 4],gD [kN] [] ":op5GANzS2MZjZ2SNWXtuGYg0"⟩
def yy:Abs.Fn:=⟨2,[],gD [iK] [] "*FoOJ[GgFTpNI2tnenrkb9T>[EHtOrKXh4C;r8.F6i"⟩
def nN:Abs.Fn:=⟨2,[.t 4],gD [mf] [] ":op5GANzS2MZjZ2SNWXtuGYg0"⟩
def tF5:List (Nat×tx×Abs.Fn):=[A0 350 kM,A0 351 pv,A3 [] 352 xj [] [2,5] [5] [] [],A0 355 oC,A0 356 oB,A0 357 BA,A2 [] 358 s9 [] [4],A0 359 Bu,A0 360 yI,A0 361 yE,A0 362 uT,A0 363 yC,A3 [] 364 rM [] [7] [7] [] [],A0 365 tI,A0 366 nC,A0 367 nM,A0 368 mP,A0 369 yy,A0 370 l9,A0 371 sZ,A0 372 nN]
theorem kF5:(tF5.map λp=>chk p)=tF5.map λp=>some p.2.2:=by kernel_rfl
end Go.Proofs.YtpapbbojmclkgaaGreatDoor
