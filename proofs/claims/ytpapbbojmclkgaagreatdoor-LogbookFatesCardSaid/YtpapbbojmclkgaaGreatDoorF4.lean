import Derived.Test.YtpapbbojmclkgaaGreatDoorIds
set_option linter.all false
set_option maxRecDepth 100000
namespace Go.Proofs.YtpapbbojmclkgaaGreatDoor
open Go Go.Abs
attribute [local irreducible] aV zc
def vO:Abs.Fn:=⟨1,[.t 2],gD [] [qo 19 (.bin .mul (.c (.int .i64 (aV 10000))) (.t 18))] 0x25ab8536ffff5394be3ead2c218c1f4decabad0427a6eb22c73eac9ce70bba91005b45a136b4f9f03761926fc7d2c08b13d61c2d36dcf7543cf561094a9f9f26b6d3f06bbf59002c6 (by conv=>lhs;reduce)⟩
def Bg:Abs.Fn:=⟨2,[.v 4 true 5],gC 0x3916e0d7042c7080e90a783e674bd19059ba117079e (by conv=>lhs;reduce)⟩
def Bh:Abs.Fn:=⟨2,[.v 4 true 10],gC 0x13ceb27a369fc0018ecb501eb1b361ad2daf407f7fd843fac4154469c4bd78f270c73072f935e3c37d84505e5f656138477c68627ec9470fd89e5d890f815df1d7e09bdd565dc4cf37d5dd48aadd50b606767d4a94d3416a9d46da43116df5e68cfae5815e6180f266ced2116e5265878637505f670b7fcb486b36bddf7bf9e9d7708c346ab52ef0d3396f6f38ef5aadb90c33178ecd4113b6cecdc431168aeb8d356d518e8e32a46c822451095743a21cecd4e101cb8b834bfdeab19503d42fecd2b30592256e76e4111a43f873b857cbd6ee2374b3dff5447a98fea5af3b9c95846df7fff855dd66469e (by conv=>lhs;reduce)⟩
def EJ:Abs.Fn:=⟨1,[.t 2],gC 0x1a18a36ac1f753372ba19d8d64f6e2681a46 (by conv=>lhs;reduce)⟩
def fD:Abs.cb:=gC 0x190fd9946c61a5f40265f2e5ddaa75c782efae1972ce9a989ba936d9078f050bea142efbd22c2d3e8 (by conv=>lhs;reduce)
def iG:Abs.cb:=gC 0xea1316b6d8de2f2962e1d26375d0 (by conv=>lhs;reduce)
def iH:Abs.cb:=gC 0x12c1ddd8958c5eb676c857f6e7f105fd59 (by conv=>lhs;reduce)
def jV:Abs.cb:=gC 0x4abc559337f45a0bc873175ca09de446b1f59fa6c0112ba55798dfe28745076ecb0ff071ed4380 (by conv=>lhs;reduce)
def jU:Abs.cb:=gC 0x4abc559337f45a0bc873175ca09de446b1f59fa6c0112bb917e291e92e86c3558183e3f1ed4380 (by conv=>lhs;reduce)
def pS:Abs.cb:=gC 0xd7311c44182d8ac4164fce0b8d4162a6889117d941961636a31035dc86604829459e6ee1c7fbd4b5e23a8bf6ce598 (by conv=>lhs;reduce)
def wF:Abs.Fn:=⟨1,[.t 2],gC 0x3f9d5654a9612fb5b9e2b1284c564be700bedb4b5aa762fb911227757c87ed234bd0730cba778811d6f76a55ec72a5919ff8f8f249a3b555491f02564ec0d88065baeee3cdecc6 (by conv=>lhs;reduce)⟩
def Dj:Abs.Fn:=⟨3,[.t 6],gC 0x2854c447cb7ee81077757555ecc3d6f6cd8153bf64eec146 (by conv=>lhs;reduce)⟩
def uE:Abs.Fn:=⟨2,[.t 4],gC 0x16b8b20bd60b3202bffe80fb0cdb6f9d09397b246 (by conv=>lhs;reduce)⟩
def zz:Abs.Fn:=⟨1,[.t 2],gC 0x32a9453f427e59b270f8e5e849179c22b795e8db39db4bb363872d22a25e0380e9268f36f157a9599975e220bac10a7f21ffadb70d065293401e1cd4340a20b62d666a99af8d0e390dd439609a3db3034c8c5f30fc86c6 (by conv=>lhs;reduce)⟩
def E9:Abs.Fn:=⟨3,[.t 6],gC 0x2854c447cb7ee81077757555ecc3d6f6cd8153bf64eec146 (by conv=>lhs;reduce)⟩
def CI:Abs.Fn:=⟨1,[.t 2],gC 0x59c8522acf3776bad7e411073a06e840775c2d441117fcaa42c6 (by conv=>lhs;reduce)⟩
def vK:Abs.Fn:=⟨2,[.t 4],gC 0x16b8b20bd60b3202c0de1310be1a2cb65b18fb246 (by conv=>lhs;reduce)⟩
def ya:Abs.Fn:=⟨2,[.t 3],gC 0x26f246c903e79f55607d6b6df426931dc807867e85181c1e103a70c84c3606a2ac213c1ac8153eb8baf015d7fc42690399231529c1901df40c3437ff44cb9a79f0f06ffe17b0651561a5e5c790f42b5e9b3964b06 (by conv=>lhs;reduce)⟩
def iM:Abs.cb:=gD [] [qo 21 (.MS true 4 2 (.t 17) (.t 18))] 0x4b9910f13c58fcaa0a9f5e44995c601c84a3df3eeb7a0b6c1a240500a3d4743a9ec3ebf286748c21444f00d590d6bdc9747f11b93d0a8e0b1e0e2f3f63026012186708907a8 (by conv=>lhs;reduce)
def yg:Abs.Fn:=⟨2,[.t 4],gC 0x34acf61e8bc962353a7c4e84521fb5d35d8ac5da68f80186 (by conv=>lhs;reduce)⟩
def yk:Abs.Fn:=⟨2,[.t 4],gC 0x34acf61e8bc962353a7c4e84521fd5fdf6fec9fa5af80186 (by conv=>lhs;reduce)⟩
def dO:Abs.cb:=gC 0x4ecb0a03793ed12239a4b706f027dc4dddd6bb79a9c90a091d7ad024a32fbfa1ba12bb60d9a15258846aeff81905eb3cecc21c72a6fd5c83f59804cbcb01305df2a4a73d476b013a2c520b6c2c57b9db94e3a5d7e2b827fd949abba44ec81aeed1bbe40 (by conv=>lhs;reduce)
def rk:Abs.Fn:=⟨2,[.t 3,.t 4],gC 0xd44dbaec70c3ac8f35a08ba3c670e28d57d791d001f49d86 (by conv=>lhs;reduce)⟩
def mK:Abs.cb:=gD [] [qo 13 (.bin .geq (.t 12) (.c (.int .u8 (aV 97))))] 0x2d162cb49cf21c8e5396c675dfc699e7e4637968cf6fcb675e2251a2344bd99d34dd04ace6f4b6f7661b105203ee6976b776f44325a0a3034e5d52807fb728e07be4474207d62141b1fc66043c60fb976577df8647c83aac50a8f1da9f5a5ecb0c92ed33dea2661aef08dd9a4b1a18093040 (by conv=>lhs;reduce)
def vu:Abs.Fn:=⟨1,[.t 2],gC 0x1cbff925a12381cbd37ff41553e9e5279ad423f06586 (by conv=>lhs;reduce)⟩
def CB:Abs.Fn:=⟨2,[.t 4],gC 0x16b8b20bd60b3202c29d373c1d0ada5912317b246 (by conv=>lhs;reduce)⟩
def um:Abs.Fn:=⟨1,[.t 2],gC 0x1b0a33944e6cec276cbd60641a46 (by conv=>lhs;reduce)⟩
def C4:Abs.Fn:=⟨3,[.t 6],gC 0x2854c447cb7ee81077757555ecc3d6f6cd8153bf64eec146 (by conv=>lhs;reduce)⟩
def gF:Abs.cb:=gC 0xdddb8accb744ea4c0defa36966199b2a48b4afdc7b671ec7f72db8f92df84a694d1426baef851dc1fcf837d8b7db30eead0c3dc3254c76775c93f6d534f2b56f5bb4d24fad75d38208e9a00ee6bb3a6acecbe668b01c2a20c1818df243d66a5bf49ad8 (by conv=>lhs;reduce)
def xO:Abs.Fn:=⟨1,[.t 2],gD [] [qn 16 .leq 15 (aV 10000000000),qo 5 (.bin .leq (.c (.int .i64 (zc 10000000000))) (.t 4))] 0x1146384557c2c374473e7c33323347ddca06e490d05947914a49f77041e2085c970e9df86 (by conv=>lhs;reduce)⟩
def jQ:Abs.cb:=gD [] [qK 30 .add 28 29] 0x840c1be4e4bf6c8f68f74a766b491453bd37960ab8df0a8047e470ad472a40b0923a4f7c0cea3a9c72a7c31bd3da104d036a55b47147fd49073c2da7c01233897da1cc5cb89fc3e262bc928 (by conv=>lhs;reduce)
def oL:Abs.Fn:=⟨2,[.t 4],gC 0x1772c3fb2ca51035fdfbcb8bfa01fb246 (by conv=>lhs;reduce)⟩
def vS:Abs.Fn:=⟨2,[.t 3],gC 0x2bdb7c110ce30ac3c5bf0b140c8546 (by conv=>lhs;reduce)⟩
def A9:Abs.Fn:=⟨2,[.t 4],gC 0xbc807f2414b82add8458bc9ded32a53880e6e51a03df3cd772a2c090d7e106253cb756c906f3113101696759d4e95403d435e1a0e664671306 (by conv=>lhs;reduce)⟩
def iO:Abs.cb:=gD [] [qo 26 (.mp .ent [.t 23])] 0xa44a73b22c92d2140d2330798af5cc159dac37755b10480d0798d809755851910fd48afd398762aaa885bf308e19af50418e1a4a95f269950fac02f6af86a6510947c67d82a2e86d17f2f6ba0 (by conv=>lhs;reduce)
def gL:Abs.cb:=gD [] [qN 79 .quo 78 (aV 8)] 0xccaa6780703f5862da1d1a27d25e412f5171c8412aae5c76de4e7783ad8289e9ffdec522481509a73e94dc68e79904c2925b850fcd4e934c31ef8b8c6fa7c9ff9dc14c92279557363dde9d6e668faf97113b484deb2031b11cecf65f91f3902ac2bcf36aef07c9997c13603519c0621d5a86217c7f016052840e7204e44488d88eb16427ffeab8658dfbdb2159fd12bd379ffc6278699239dace8acfe23912a38e5d5fc6cdb44fb0 (by conv=>lhs;reduce)
def gM:Abs.cb:=gC 0x498983ed3caf0ee7d75936dc2923cfefe67da07e9af45307caabce9b6bc39a890074837df4906640405eba592cfebce5ebedac4cf580b8 (by conv=>lhs;reduce)
def wC:Abs.Fn:=⟨2,[.t 4],gC 0x6ec4c79cbd705f639ad80a2b760034f36a61eea0e3a15e624d2c9100e286ce2885d186 (by conv=>lhs;reduce)⟩
def tt:Abs.Fn:=⟨2,[.t 4],gC 0x16b8b20bd60b3202c84a6cc920af740d9304bb246 (by conv=>lhs;reduce)⟩
def Di:Abs.Fn:=⟨2,[.t 3],gC 0x4f1c773b7048aa0ac621e3555c8e743786cdea72d7d6b75546 (by conv=>lhs;reduce)⟩
def fp:Abs.cb:=gC 0x2530a56294db83678d84be38da3b3860f5c3eb5958d10893a9f0fc9f619e6820264f07e45526aae40bc1749a24dd2333edfe8def1a1a7e3a1cd286e39f2dd920a919ef3cf395543f87b581938 (by conv=>lhs;reduce)
def Gi:Abs.Fn:=⟨0,[.v 0 true 5],gC 0x203e1e13f50666fb0c3d0f391e2bf1bfa3abc5d8891f853ca6 (by conv=>lhs;reduce)⟩
def Da:Abs.Fn:=⟨3,[.t 6],gC 0x2854c447cb7ee81077757555ecc3d6f6cd8153bf64eec146 (by conv=>lhs;reduce)⟩
def tj:Abs.Fn:=⟨2,[.t 4],gC 0x16b8b20bd60b3202cb58ec150d0b09e63192fb246 (by conv=>lhs;reduce)⟩
def vI:Abs.Fn:=⟨2,[.t 3],gC 0x669e0aaee72a8495e0c4086c009f5cb9ac09f983a7721eb514030f09145114baf6df68bff68643921099b4d0d3f3395d06 (by conv=>lhs;reduce)⟩
def wX:Abs.Fn:=⟨2,[.t 4],gC 0x2dead6c3e49a091c72ae7e49f3b5751390c6e1a9b19eaca0e5facf4e182171dee2ba557fe03f8c64b56ea622a3bfc202ded1cc6e7f596524da42161a68806deff61052c956811d93b7c35caa4f9f6817bdb3570c147b90268fe38b65972e203e3c746 (by conv=>lhs;reduce)⟩
def rp:Abs.Fn:=⟨2,[.t 4],gC 0x16b8b20bd60b3202cc387e2abe49c6ff83727b246 (by conv=>lhs;reduce)⟩
def CG:Abs.Fn:=⟨1,[.t 2],gC 0x859c5215196d0ec4bb746679415edf5ec6 (by conv=>lhs;reduce)⟩
def wV:Abs.Fn:=⟨1,[.t 2],gC 0x16365cbf81228e297243a9358b652236d797503506686 (by conv=>lhs;reduce)⟩
def zm:Abs.Fn:=⟨2,[.t 4],gD [] [qo 3 (.KM (.t 1))] 0x84e12f6bfb90c10d2811badba8082ad569b46 (by conv=>lhs;reduce)⟩
def mz:Abs.Fn:=⟨2,[.t 4],gC 0x1772c3fb2ca51036094b7a79b250bb246 (by conv=>lhs;reduce)⟩
def sF:Abs.Fn:=⟨2,[.t 3],gC 0xddb3828813fdaba92c46eb6518af9c8546 (by conv=>lhs;reduce)⟩
def mw:Abs.Fn:=⟨2,[.t 4],gC 0x1772c3fb2ca5103609bf4e45c3ed7b246 (by conv=>lhs;reduce)⟩
def tu:Abs.Fn:=⟨2,[.t 3],gC 0xddb3828813fdaba91c70f67eb0415c8546 (by conv=>lhs;reduce)⟩
def Dh:Abs.Fn:=⟨2,[.t 4],gC 0x16b8b20bd60b3202ced7346bcd7fb852c8f17b246 (by conv=>lhs;reduce)⟩
def yh:Abs.Fn:=⟨2,[.t 4],gD [] [qo 19 (.Yb 1 (.t 7) (some (.t 12)) (some (.t 18)) none)] 0x3706b688e23752c3d3f1fa5630e1280db980b9d09e38e21d2424127420db8fc4cedcbfba3ee4fe26deb42546 (by conv=>lhs;reduce)⟩
def vL:Abs.Fn:=⟨2,[.t 3],gC 0x12c1d2569984a5016e73b5a4e6ba709c55e63a1fdb0b46 (by conv=>lhs;reduce)⟩
def zh:Abs.Fn:=⟨2,[.t 3],gC 0x2bdb7c110ce30ac3c5bf0b140c8546 (by conv=>lhs;reduce)⟩
def oM:Abs.cb:=gC 0xd7311c44182d8ac4164fce0b8d4162a6889117d941961636a31035dc86604829459e6ee1c7fbd4b5e23a8bf6ce598 (by conv=>lhs;reduce)
def xY:Abs.Fn:=⟨1,[.t 2],gC 0x1b0a33944e6cec200189006b1a46 (by conv=>lhs;reduce)⟩
def jT:Abs.Fn:=⟨1,[.t 2],gC 0xd0e7f67caf37f0becc03846a155c1947e00b69be264d75f06 (by conv=>lhs;reduce)⟩
def gf:Abs.cb:=gC 0x5cb982802ba3b99c3f2a4 (by conv=>lhs;reduce)
def de:Abs.cb:=gD [] [⟨none,none,false,.mp (.put (some (true,[some .i64,some .i64]))) [.t 72,.t 73,.t 80]⟩,qn 68 .quo 67 (aV 8),qn 61 .quo 60 (aV 1000)] 0x199fdaaad0d9420a1109a2776c1f510df8bca2ec88c1e2874dadded43171b29c545a6aa60fd553f3a13d7e3ae8ab42f944999d6b24981197173d5b6b15f8a8ef4b4fc86cf8b51778a354bf3f17124d07be94353cf46b377df547c9392a258d119fba4858210c13e34fba96d3214317541157e82cc4f0c645df33b11323a06c4d80777ef8d2bc81de947610444bc324ca6e3d5589673633f03f73888a4a2303bcd9cc8ccb496001e (by conv=>lhs;reduce)
def zq:Abs.Fn:=⟨3,[],gD [] [qx 4 1] 0x5003b099da624e8932f2d5fe8bb71fa62671d59b7710efe64447aaf4e005aaf7975a55d30c01a45a13c8226f2b00de569d623dc3bb92d8e3c6079135764f5842cf941339af31 (by conv=>lhs;reduce)⟩
def zr:Abs.Fn:=⟨2,[.v 4 true 3],gC 0x5cfa93d580e7b26d0bd5a078276c2d1d259a06040171e67a16b4b596f7e29b3605b392dab3b31e (by conv=>lhs;reduce)⟩
def Bb:Abs.Fn:=⟨2,[.v 4 true 3],gC 0xa3242303135bcbfda955e074644fb55da04c95b86f57a15d8993f8c0c502d67042b238cc15343b65a3198e5e (by conv=>lhs;reduce)⟩
def zx:Abs.Fn:=⟨2,[.v 4 true 3],gC 0x6520b587765de1a8563693fcf7d3341525fda19018978277d8bd80128111b9a4c2dc79175f7108b9e (by conv=>lhs;reduce)⟩
def wT:Abs.Fn:=⟨2,[.t 4],gC 0xbfc1287498a585da5d5faba19e9daf30d67bf4eb2f1d95633e0727f7aeb69942911869134c6 (by conv=>lhs;reduce)⟩
def uj:Abs.Fn:=⟨2,[.t 2],gC 0x20595de3b9783b366fa5d08279d2aec6 (by conv=>lhs;reduce)⟩
def vv:Abs.Fn:=⟨2,[.t 4],gC 0x124ad896858b6ab38bd5e3231a089cdb5436cb0d222d1285345741aff9d1003553af006 (by conv=>lhs;reduce)⟩
def kX:Abs.Fn:=⟨2,[.t 4],gC 0x1772c3fb2ca510360e45943e740cfb246 (by conv=>lhs;reduce)⟩
def ru:Abs.Fn:=⟨2,[.t 3],gC 0xddb3828813fdaba91485fc0b7c0a3c8546 (by conv=>lhs;reduce)⟩
def vM:Abs.Fn:=⟨2,[.t 4],gC 0x1c67144bb7143381f94f8704a326ae7eda21004823b58976d3eacf753412c5d9bfe1c95546 (by conv=>lhs;reduce)⟩
def Ia:Abs.Fn:=⟨2,[.t 4],gC 0xa3039ff97fd19a3222828291a2d15ea92f0ac1d319ee0aaff6daa609fe7e7125637f0fa25346 (by conv=>lhs;reduce)⟩
def zw:Abs.Fn:=⟨1,[.t 2],gC 0x5c2e3657939efed743d7ba46 (by conv=>lhs;reduce)⟩
def wQ:Abs.Fn:=⟨1,[.t 2],gC 0x6902af4730a293df3c7a70a2a12ccf4e2f52f2b927dcd6f3655586 (by conv=>lhs;reduce)⟩
def yc:Abs.Fn:=⟨1,[.t 2],gC 0x4ae58c2727f014fbfabdeba46 (by conv=>lhs;reduce)⟩
def lN:Abs.Fn:=⟨2,[.t 4],gC 0x1772c3fb2ca510360eb9680a85a9bb246 (by conv=>lhs;reduce)⟩
def rn:Abs.Fn:=⟨2,[.t 3],gC 0xddb3828813fdaba91485fc0b7c0a3c8546 (by conv=>lhs;reduce)⟩
def kz:Abs.Fn:=⟨2,[.t 4],gC 0x1772c3fb2ca510360f2d3bd697467b246 (by conv=>lhs;reduce)⟩
def o6:Abs.Fn:=⟨2,[.t 3],gC 0x110dcef6c675f98332b8c171e36aa88546 (by conv=>lhs;reduce)⟩
def gI:Abs.cb:=gD [] [qo 21 (.call false (.t 18) [.t 19,.t 20])] 0x2aea6d1ae22890cd7d6434bafba345275c6dedfe10be095461357b5c1dc527c6d956050e2d2d9d118706acd98f0aec675d01e09fff6e5233a76ac8d79fcdad675eb80855390996e8 (by conv=>lhs;reduce)
def mB:Abs.cb:=gC 0xe0b377d3da7f0df5e08c34d66fef5652847a01370b4c08120ff084266cad189212e1672cc95e3974281267a8bf6ce598 (by conv=>lhs;reduce)
attribute [local irreducible] fD iG iH jV jU pS iM dO mK gF jQ iO gL gM fp oM gf de gI mB
def uz:Abs.Fn:=⟨1,[.t 2],gD [fD] [] 0x1beb5e98ccbd690c6868fb38a04da614b9c2e9274d11330af86 (by conv=>lhs;reduce)⟩
def xS:Abs.Fn:=⟨2,[.c 4 false 1],gD [.Nj [4] (.t 9) [10,11] iG iH] [] 0x32ad67c97afb165e13fbcc8c2908ce8e653a87042f91e775c13cc5ec80a001cae (by conv=>lhs;reduce)⟩
def Bf:Abs.Fn:=⟨1,[.t 2],gD [jV] [qo 8 (.W5 9 (.c (.str [115,108,105,99,101,115,46,77,105,110,58,32,101,109,112,116,121,32,108,105,115,116])))] 0x700b5a33d68257ef47f098d9bba359141b85167eb180ac0ac35c91a1a40908712fcfcac882c4d1bbb31866c6 (by conv=>lhs;reduce)⟩
def Be:Abs.Fn:=⟨1,[.t 2],gD [jU] [qo 8 (.W5 9 (.c (.str [115,108,105,99,101,115,46,77,97,120,58,32,101,109,112,116,121,32,108,105,115,116])))] 0x700b5a33d68257ef47f098d9bba359141b85167eb180ac0ac35c91a1a40908712fcfcac882c4d1bbb31866c6 (by conv=>lhs;reduce)⟩
def nH:Abs.Fn:=⟨2,[.t 4],gD [pS] [] 0xdcfbff0881e65818d4559d3bf3a10e2e2493dc6 (by conv=>lhs;reduce)⟩
def yf:Abs.Fn:=⟨1,[.t 2],gD [iM] [qo 13 (.Ln [.int .i64 (aV 0),.int .i64 (aV 0)] [(0,1,.c (.int .i64 (aV 1000))),(1,1,.c (.int .i64 (aV 100000)))])] 0x256a8aacb9c2771fe5090a33ac32abbae0f9ed72cedda03f3f492247904ecf5715a24519812fc7120a380b0f7c3bd7471c173ed55d39319d750d5b216e501c05533bf43ed490878dd152f3142a16b25b351b346 (by conv=>lhs;reduce)⟩
def o5:Abs.Fn:=⟨2,[.t 4],gD [dO] [] 0x37afc2ec36d3c3dd6581590842d92b3ec04205992d106f2f1306 (by conv=>lhs;reduce)⟩
def EE:Abs.Fn:=⟨1,[.t 2],gD [mK] [] 0x1ba1756548d8931a71be9176c141c293d44f854f7226ad5677225a7cc6 (by conv=>lhs;reduce)⟩
def xN:Abs.Fn:=⟨4,[.t 8],gD [gF] [qi 9 (zc 1)] 0x139c2e78b335873c3da8bedb223c96a7b643f55a9dfa54cf41e18a72b74992acfb3ac0d737457efcbcb8118b17558ffe1709ef7688473cbe247e54ea4ed03ede0daf951351dfab69a7b94f18c6 (by conv=>lhs;reduce)⟩
def AU:Abs.Fn:=⟨2,[.t 4],gD [jQ] [] 0x1120183857c7078b7a69007eadb249ccfabf0cdf9a14c2efc509bfb5d1db46 (by conv=>lhs;reduce)⟩
def eV:Abs.cb:=gD [gM,gL] [] 0x159a29f407e7d7ffc55e75dc815c0c7c8d69a6c2ae495603277d320e1b176a64a27cafe6e094b65ee2bf534537afe0b339e52a9666815a7d93575a55f551014dacf2bbcb76c564ac25006 (by conv=>lhs;reduce)
def tv:Abs.Fn:=⟨3,[.t 6],gD [fp] [] 0x2986bec615c3af7bc65e7320218698cf4732879b6940ef486004937cf4ab48e4f9493ff6a53d5aa293730677a2e93c78b69fcc9d207da357821382b5837a0b1dd6b27d1c0d6612c58285896ce4ce81f99d0c115c6 (by conv=>lhs;reduce)⟩
def rA:Abs.Fn:=⟨2,[.t 4],gD [oM] [] 0xdcfbff0881e65818d4559d3bf3a10e2e2493dc6 (by conv=>lhs;reduce)⟩
def wS:Abs.Fn:=⟨2,[.t 4],gD [.Nj [2,3,4,5,6] (.t 17) [18] gf de] [ql 81 1 5,qo 4 (.mv (.c .undef))] 0x654baf2ed0c9fbddce23df05522ecae27bc28dc0ee2f9932d63651bc9b042474f364b101d304fb015350d68eb36da2f74355e8221b7806f19afc25d46 (by conv=>lhs;reduce)⟩
def wO:Abs.Fn:=⟨3,[],gD [gI] [] 0xe9aab7a0dce9d89a0ad29d910da57ce (by conv=>lhs;reduce)⟩
def oi:Abs.Fn:=⟨2,[.t 4],gD [mB] [] 0xdcfbff0881e65818d4559d3bf3a10e2e2493dc6 (by conv=>lhs;reduce)⟩
attribute [local irreducible] eV
def yj:Abs.Fn:=⟨3,[.t 6,.t 7,.t 8],gD [.iq [1,2,3,9,23] (.t 23) 24 25 0 iO eV] [qo 23 (.mp .rng [.t 22])] 0x47769e2980817314fb2b300fbdcee90d49bde393503e88c0ed1d5443cca0751431342de (by conv=>lhs;reduce)⟩
def Fj:sS:=an7 [(5,[4]),(4,[]),(3,[4,5,6]),(2,[4,5,11]),(1,[4,9]),(0,[1,2,4])] [(0,[4])] [] [4,5] [5] [] [1002]
def Fk:sS:=an7 [(26,[6,7,8]),(25,[6,7,8]),(24,[9,12,108]),(23,[3,9,12,93,94]),(22,[3,9,12,93,94]),(21,[3,9,12,17,93,94]),(20,[3,9,12,93,94,95]),(19,[3,9,12,93,94]),(18,[1,3,9,12,41,42,43]),(17,[1,3,9,12,41,42,43]),(14,[1,3,9,12,16,41,42,43]),(16,[1,3,9,12,16,41,42,43]),(15,[1,3,9,12,15,16,41,42,43]),(13,[1,3,9,12,13,14,15,16,41,42,43,56]),(12,[1,3,9,12,13,14,15,16,41,42,43]),(11,[1,3,9,12,13,14,15,41,42,43]),(10,[1,3,9,12,13,14,41,42,43]),(9,[1,3,9,12,41,42,43,44]),(8,[1,3,9,12,41,42,43]),(7,[1,2,3,9,12]),(6,[1,2,3,9,23]),(5,[1,2,3,9,10,11,23]),(4,[1,2,3,9,10,11,23]),(3,[1,2,3,9,23,25]),(2,[1,2,3,9,23]),(1,[1,2,3,9]),(0,[1,2,3])] [(4,[3,9,12,93,94]),(2,[1,3,9,12,41,42,43]),(0,[1,2,3,9,23])] [] [10,11,12,16] [10,11,16] [] [2002,1001]
def Ep:sS:=an7 [(12,[4]),(11,[]),(10,[3,5,7,10,71]),(9,[3,5,7,10]),(8,[3,5,7,8,9]),(7,[2,3,5,7,8]),(6,[2,3,5,7,8,41]),(5,[2,3,5,7,8]),(4,[2,3,5,6,7]),(3,[2,3,4,5,6,17]),(2,[2,3,4,5,6]),(1,[2,3,4,5]),(0,[2,3,4])] [(0,[2,3,4,5,6])] [] [5,6,7] [7] [] []
def tF4:List (Nat×sS×Abs.Fn):=[A0 pq vO,A3 [] uZ Bg [] [4] [4] [] [],A3 [0,1,4,3,6,5,2,7,8,9,10,11,12] u0 Bh [] [4] [4] [] [],A0 Al EJ,A3 [] oE uz [] [4] [4] [] [],(rU,Fj,xS),A4 [] uY Bf [] [] [] [] [] [] [] [] [(2,some 1)],A4 [] uX Be [] [] [] [] [] [] [] [] [(2,some 1)],A0 eZ nH,A0 qq wF,A0 yE Dj,A0 kR uE,A0 oQ zz,A0 AH E9,A0 rK CI,A0 lV vK,A0 jc ya,A2 [] sc yf [0] [4],A0 sd yg,A0 si yk,A3 [] kH o5 [] [7] [7] [] [],A0 fE rk,A0 Aj EE,A0 lS vu,A0 rH CB,A0 kQ um,A0 yp C4,A0 rS xN,A0 rT xO,A0 pK AU,A0 oP oL,A0 vU vS,A0 uU A9,(sh,Fk,yj),A0 qd wC,A0 kb tt,A0 tM Di,A3 [] nO tv [] [9] [9] [] [],A3 [] xx Gi [] [0] [0] [] [],A0 yu Da,A0 j9 tj,A2 [] gi vI [] [1],A0 qX wX,A0 mo rp,A0 rJ CG,A0 qT wV,A2 [] tG zm [] [3],A0 iy mz,A0 nk sF,A0 iw mw,A0 nN tu,A0 nh Dh,A0 se yh,A0 gj vL,A0 tB zh,A0 rD rA,A0 nK xY,A2 [] fu jT [] [2,5],(qH,Ep,wS),A2 [] fx zq [] [0],A3 [] tJ zr [] [4] [4] [] [],A3 [] uW Bb [] [4] [4] [] [],A3 [] tL zx [] [4] [4] [] [],A0 qQ wT,A0 kP uj,A0 pg vv,A0 gz kX,A0 mq ru,A0 po vM,A0 DA Ia,A0 oN zw,A0 mG wQ,A0 nM yc,A0 gP lN,A0 mm rn,A0 fR kz,A0 kK o6,A3 [] mF wO [] [2,5] [5] [] [],A0 jO oi]
theorem kF4:(tF4.map λp=>chk p)=tF4.map λp=>some p.2.2:=by kernel_rfl
end Go.Proofs.YtpapbbojmclkgaaGreatDoor
