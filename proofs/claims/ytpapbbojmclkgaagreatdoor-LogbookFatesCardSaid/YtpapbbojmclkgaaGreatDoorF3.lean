import Derived.Test.YtpapbbojmclkgaaGreatDoorIds
set_option linter.all false
set_option maxRecDepth 100000
namespace Go.Proofs.YtpapbbojmclkgaaGreatDoor
open Go Go.Abs
attribute [local irreducible] aV zc
def F0:Abs.Fn:=⟨1,[.t 2],gC 0xe53ca96e695b340b0a2dc3204d92f1c193a0d1396620ffdb5887bd900cb35199016d74df86 (by conv=>lhs;reduce)⟩
def F8:Abs.Fn:=⟨2,[.v 4 true 3],gC 0x569f56eaf41b935ee453e5421654feeb5974c74096523c21360f7e05e46f717caeb898ca0965ddcd968e5e (by conv=>lhs;reduce)⟩
def H3:Abs.Fn:=⟨3,[.v 6 true 3],gC 0x25d346d88ab1c9dcec510141bf2d11798a05b6a232e254750b1e520bb08c6c87fb9e462540b8c163e1947d89dcd49be7c8f26 (by conv=>lhs;reduce)⟩
def EP:Abs.Fn:=⟨2,[.t 4],gC 0x13b4f381a67acf7fe32b8f216c3d83d53986d64affdd3415bf46 (by conv=>lhs;reduce)⟩
def Db:Abs.Fn:=⟨3,[.t 6],gD [] [qK 34 .rem 32 33,qK 29 .rem 27 28,qK 23 .rem 21 22,qK 20 .rem 18 19] 0x10ffdb0aaba8f21fff8d2d3703c1ba6d938de81d545e2fff7ed76e63c666ef2ba28013cc2e4a08119ffd82b9848af3f17a5f8e8e9a1d883b70ae50e71b5357d2e3cd3f121de3ad50a4c7071772fb407b048d853eb7d45c1a4125e0022bb6a3c18d419d7f0a73c14fc6 (by conv=>lhs;reduce)⟩
def H5:Abs.Fn:=⟨2,[.v 4 true 3],gC 0xa3242303135bcbfda955e074644fb55da04c95b86f57a15d8993f8c0c502d67042b238cc15343b65a3198e5e (by conv=>lhs;reduce)⟩
def EX:Abs.Fn:=⟨2,[.v 4 true 3],gC 0x569f56eaf41b935ee453e542165503c4f7b21b26568e3188138696e88233a5398d10106c12f3ceae768e5e (by conv=>lhs;reduce)⟩
def EO:Abs.Fn:=⟨2,[.v 4 true 3],gC 0x5cfa93d580e7b26d0bd5a078276c2d1d259a06040171e67a16b4b596f7e29b3605b392dab3b31e (by conv=>lhs;reduce)⟩
def mR:Abs.cb:=gC 0x36e9066e7596caedd79c2e1aa42d4d172159ce589c8eea301b744b038bf77bc6477e235f04648d51985b46e54ca038801e28 (by conv=>lhs;reduce)
def F4:Abs.Fn:=⟨2,[.t 4],gD [] [qk 11 .rem 9 10] 0x15809c6392c37b8d6264f2d0201b0e88dc28d727b95bdf84ea60b07f3f9262c867993d86e531b0e664e28024546 (by conv=>lhs;reduce)⟩
def kZ:Abs.cb:=gC 0x792ec9cfb10625776a699d3ee5be037de0920c47bf87b11a26e255007000f950918b14ce6264567753324df47a8bf6ce598 (by conv=>lhs;reduce)
def kB:Abs.cb:=gC 0xe0b377d3da7f0df5e08c34d66fef5652847a01370b4c0811f5d7ddb015e797c76456c1044329e84327d807a8bf6ce598 (by conv=>lhs;reduce)
def uP:Abs.Fn:=⟨2,[.t 4],gC 0x16b8b20bd60b320296131ce9d117faddaf517b246 (by conv=>lhs;reduce)⟩
def tx:Abs.Fn:=⟨1,[.t 2],gC 0x1b0a33944e6cebc1d9e6161c9a46 (by conv=>lhs;reduce)⟩
def De:Abs.Fn:=⟨3,[.t 6],gC 0x870030c83df34798d92dddb6fe123571e5f53a12cfaf33978a25df05449bcd7898384cae3a99da3b34ca337dd55b29e143e889839920c0f2b23a62cb44f1089c6 (by conv=>lhs;reduce)⟩
def xM:Abs.Fn:=⟨1,[.t 2],gC 0x1a6f578ceeb815485d90ceeece0a46 (by conv=>lhs;reduce)⟩
def C7:Abs.Fn:=⟨1,[],gC 0x303c4c21ca6d47e589261c0cc8 (by conv=>lhs;reduce)⟩
def ym:Abs.Fn:=⟨1,[.t 2],gC 0x39063f5c7df2b197792a2ccc3d3e96b3103506686 (by conv=>lhs;reduce)⟩
def CJ:Abs.Fn:=⟨1,[.t 2],gC 0xe9d1dea96b8fbd7e9cbdb00b9576da892369a841beb4703506686 (by conv=>lhs;reduce)⟩
def rz:Abs.Fn:=⟨1,[.t 2],gC 0xd0e7f67caf37f0becc03846a155c1947e00b69be264d75f06 (by conv=>lhs;reduce)⟩
def kh:Abs.Fn:=⟨2,[.t 4],gC 0x455edb9fe4f3d9a2982fc8081b3b246 (by conv=>lhs;reduce)⟩
def ti:Abs.Fn:=⟨2,[.t 3],gC 0x2970bfd4238c985f2c8aac7235ccd6f17d069c06 (by conv=>lhs;reduce)⟩
def Gg:Abs.Fn:=⟨2,[.t 4,.t 5],gC 0xc667dd749a9f92280c926a607238835745d1949af49a25e4aea58732b1a146ae5bf923efe7bf5c9b20e67d289bbc701fbbc0ce351e6e6ccd19df0e45946 (by conv=>lhs;reduce)⟩
def ui:Abs.Fn:=⟨2,[.t 4],gC 0x6ec4c79cbd705f639ad80a2b76001fb28031f943c2496eeae063be123800942885d186 (by conv=>lhs;reduce)⟩
def fh:Abs.cb:=gC 0x14099b24ada2865dac263dd7fa8e3e2d77b4f35d5e7c4740b8247496ea0ddfe7e998fda44c7a5c60f38e587fc625c2ea7a77c3a324b43fc961d7c7377412729e302cf2fd4174224a59b09a61b94ca5e467af9571a9a9aecfe4eeedc34dc2abe9503e63e81b7b285b74aaaf54df90703e6eab11f189f92da15252da7856d53dec33ee582b41af2003c09a9e26960a6ea25cc44b58f6db630b4f990540c93d6190 (by conv=>lhs;reduce)
def vD:Abs.Fn:=⟨3,[.t 4],gC 0x575d8f07eb88ef9ce46418f1144140d89270520f63047191179343d05b1b59b7abe293291f8e9ca2d0673a24546 (by conv=>lhs;reduce)⟩
def HY:Abs.Fn:=⟨3,[.t 6,.t 7],gC 0x7a43ddcf5aaad5ee3064d8e992ec5426d339f3b4a2cf5b2e0cce13196220281fc4aebb53d75c297be22ab96668ccdfe7855cb34399971179dfeab536d525a7a74013ba3ea3571bc846a311186d3b8f9c6 (by conv=>lhs;reduce)⟩
def pZ:Abs.cb:=gD [] [qK 100 .add 98 99,qt 1 85 84,qn 84 .quo 83 (aV 1000)] 0x76330bcd4c5c35ba7701f43505bd1554ae8f42a5b15a3af3979c678ed309b3bc9a763a033c1c382fbcdb09949b1daa54aed4968575fca893c741900fdad988a2d5316382e7f11a38ba4027358734606277533055d2211918157ef73d0894d0bc670dd69e85760830 (by conv=>lhs;reduce)
def wH:Abs.Fn:=⟨1,[.t 2],gC 0x1e3a02bc076ccd1a7420df5b542f579e5a27c4e8c42885c6 (by conv=>lhs;reduce)⟩
def vN:Abs.Fn:=⟨1,[.t 2],gC 0xd0e793e5cca67fbd479e1f9eab586ebb91c437afdc5ea5f06 (by conv=>lhs;reduce)⟩
def tn:Abs.cb:=gC 0x9ef79d1d53d42d45c321bee15c4279f25e6ce78311ee9e (by conv=>lhs;reduce)
def kq:Abs.cb:=gC 0x2e3dcbe751a173deeae2294a6b5d76d84801b874ed156fa2e4bf15b7f481a4072df3abbc10e46d36b3fa150f74a72300fd6c0d089b1217040e294acd573e00fbe8e88910f66429b9efcc22c79d6183520f54782bebe78f9c5f8ca8 (by conv=>lhs;reduce)
def kr:Abs.cb:=gC 0xaefd1d55e5baa886b53235b489af9df13690ba3c5921b990ed4e6109c6b25a03282a5d0acb871d12cc06be6ad870843cc473fd6f0e62a7f0a22a78523540884ae3c20e0627c5c5af2e51635eb1cfa1edf1cc350c6dd510776cd2445634f4841831cbb2a80435ecb9bc3394de099f81225729518da8f1ac3428e78e72075acbd96d9e26d04728d447bb43733b604797cfd5114453bd07f8 (by conv=>lhs;reduce)
def ux:Abs.Fn:=⟨4,[.t 5],gC 0x139f4d135306c4f05c8ced009550e0156ce6a6494fdd8aa94099e6016a46ba9974edc5d273466b3e7e486561b966c503ef6e34ac402c7da84546c1ad9ae2156b831b06eff700399e539729720524bfff9b393322cf5cb7a058e0df2f6d9b05c3c409a0d22164c79dfc3f9fd9d23f6d8e67da5a9dfa1a8f13a13a37776eec9334e8182ca4092d23e988c22a09296d6d25cc3e0c986 (by conv=>lhs;reduce)⟩
def zl:Abs.Fn:=⟨1,[.t 2],gC 0x120c2b5b98ec1380107c3695c762ecc13fe64703506686 (by conv=>lhs;reduce)⟩
def Fa:Abs.Fn:=⟨3,[.v 6 true 10,.t 7],gC 0xb39e198ac7e56e627eb9e5c1f8f51adfeebdb85a58b7feeb011b8e74d9a0e1d8793ee829022bfe668879dae97c4a49a9080363a65d664e68d11a8df5ef1a84aceb061e72d42a629aaf4b8f9728412768d33a7a60327f4188340f489e46525e1f6983dd70392f047714a3b22b9182eebd87c6 (by conv=>lhs;reduce)⟩
def C9:Abs.Fn:=⟨2,[.v 4 true 4,.t 5,.t 6],gD [] [qo 3 (.Fl (.t 1))] 0xa848344700b3f885702d27ead463f72253a878398cf27d2e32a88734ab1b181d3948baf4bbe71766eb09bd8fef3eca876a5dec1f4a823fb1d28720250e2677acb4516aeb19e917e65a4a8c2b0b490eff973c37ca83b8e93da4a9ef84a0b235e10bee4d9cbfb1d19b10462176396d7c2c332d983c8c8ece8563a6fd5345f5c48375c23cd98abe973eac255ea6afcf41b945645cffd7d4f3c386 (by conv=>lhs;reduce)⟩
def C8:Abs.Fn:=⟨1,[.v 2 true 2],gC 0x37dfb124ea24897fc5dde5b13137142533867a86e4aa1abe6 (by conv=>lhs;reduce)⟩
def H4:Abs.Fn:=⟨1,[.t 2],gC 0x78f46019e029b9697f8d58dfb62232b854a3f54ae424ddea7f432ce21c2bf7d5f7cdbbf5b4c6 (by conv=>lhs;reduce)⟩
def lh:Abs.Fn:=⟨2,[.t 4],gC 0x1772c3fb2ca51035e431a31c0e1b3b246 (by conv=>lhs;reduce)⟩
def rQ:Abs.Fn:=⟨2,[.t 3],gC 0x2bdb7c110ce30ac3c5bf0b140c8546 (by conv=>lhs;reduce)⟩
def wE:Abs.Fn:=⟨1,[.t 2],gC 0x16365cbf81228e297243cbd8d87a6055a283f03506686 (by conv=>lhs;reduce)⟩
def gg:Abs.cb:=gC 0xfbcece64d843410fea7d4da8325120ec9a96ed63397d4e6d9f654268e3e6d281c3060ee764316f3c131607d795e5654071b2ad1479ee985a5a6670f9f274d68df9d6e1dacb3175f638467dc0cb79e0c47c539c60379efb73f88a210f4f951c165ec28a3dc038b3626567d615c991921f5639f9f4451110629e58bcad2bde8 (by conv=>lhs;reduce)
def Ba:Abs.Fn:=⟨1,[.t 2],gC 0x15051292a6bad4169bafd6734cad9756a9a8b58e22c52f7b4dd1bd375966bba16a10650029bbd5d43de5da68213c5d37dc772b4c4a03d382db3b9d3ba70f4e554188c78662b8d16ff1e87ef7b0c48debca2b2f5ae52f39cc611ed83d2f01f3b8403c09c8b963b90633ab52b328bfdff236f1104cd9fc8a71073e6206610f80eef38e037a36d2f54982e55ee84cadcebec632c6 (by conv=>lhs;reduce)⟩
def JR:Abs.Fn:=⟨2,[.v 4 true 11,.t 5],gC 0x33acde4ed5fbcff840bab242a70193ce7a42640750832155bd79e2fdb92adf9f020d3dd61dd3c67bda613405daf2895b9b333df5f7cb9f2dfe68c4a45d77cd9378fb84cf99e817e38a6ad901146 (by conv=>lhs;reduce)⟩
def gK:Abs.cb:=gC 0xf2cc188dbffa749ac88968c8278473a264120e2314c55389742c3f1bec3c63daa9a6ba247096cfa879e98fccc283d928d2fe095cea6f9dbe2816fa79352bf367e40b6357bc0 (by conv=>lhs;reduce)
def mJ:Abs.cb:=gD [] [qo 13 (.call false (.t 12) [])] 0x2f3a25a9226ccd580c72d65e37492468016b9aafa2f646c405f269db20ca0daf63f242a407c9e328822f8a815efdab9420 (by conv=>lhs;reduce)
def sB:Abs.Fn:=⟨2,[.t 2],gC 0x20595de3b9783b366fa1dbe3134c2ec6 (by conv=>lhs;reduce)⟩
def tf:Abs.Fn:=⟨2,[.t 4],gC 0x1f6719d5f3cac60a611592551de51d04a75fe32a011050ed2fb1d9efce1b206 (by conv=>lhs;reduce)⟩
def EB:Abs.Fn:=⟨2,[.t 2],gC 0xb7fc45ff2edbd00ed9e9d716a8ad5aec6 (by conv=>lhs;reduce)⟩
def wD:Abs.Fn:=⟨2,[.t 4],gC 0xb1b189e9bc752b027f31098469bc890d02c1057eea099246f123c65dc4300e957d818e82dc1768258b42c00b64f454783e199c935d055e9ab4a65593b94f129bbef914616bc7e6f0c15f6bf5d3a9766c671306 (by conv=>lhs;reduce)⟩
def EC:Abs.Fn:=⟨2,[.t 2],gC 0xb7fc45ff2edbd02b9a60e446b25eeaec6 (by conv=>lhs;reduce)⟩
def uk:Abs.Fn:=⟨2,[.t 4],gC 0x131eb6e058c481a707adfa3539831e8c675c61d96bc3ea3d947cce34e18b18d696ea75f16c5705987ccd926cc81fc42718dc1c67478f5ec24c93c83148dd8517440fef25f475b296f3a97ba9766c671306 (by conv=>lhs;reduce)⟩
def vw:Abs.Fn:=⟨2,[.t 4],gC 0x103d6f3361b6a55ee8ec311e02e6f6906e8ba1cbdcd48ff87a4f32495848452d5cea262dedf46 (by conv=>lhs;reduce)⟩
def zB:Abs.Fn:=⟨1,[.t 2],gC 0x1b0a33944e6cebc1d822cec49a46 (by conv=>lhs;reduce)⟩
def yn:Abs.Fn:=⟨2,[.t 4],gC 0x16b8b20bd60b3202b6633a0c6f294f86849efb246 (by conv=>lhs;reduce)⟩
def zC:Abs.Fn:=⟨1,[.t 2],gC 0x1b3b8f8875c255935271c1a46 (by conv=>lhs;reduce)⟩
def di:Abs.cb:=gC 0x822df6914dfc1592e5812ff4d5a0171777683a549772ca34fb167f7030a1c1e294ebaf48ea57b92907d30ae9a6ef8b9fcf5e51e02f9c95cafd94d10 (by conv=>lhs;reduce)
def ur:Abs.Fn:=⟨1,[.t 2],gC 0x20c46d4fe3a208c30f6edeba46 (by conv=>lhs;reduce)⟩
def jS:Abs.cb:=gC 0x3714c32e9628e0431cf8d0a17986f5c5e3ff51f400dc34fd8e71c2d5088b578c4810b19a6b32fe62762da15184a56c5aef365028403c77529bbc40 (by conv=>lhs;reduce)
def E8:Abs.Fn:=⟨1,[],gD [] [qo 3 (.BJ [] []),qo 8 (.Yd 428 (some (.agg [])) (.t 5)),qo 5 .PX] 0x86db28ede2e9688f1ffad8d6e34f665e5745b7b7730017609bc1a07fa6bbeaec23837d912a802c467f04433ab3b071dea469820 (by conv=>lhs;reduce)⟩
def iN:Abs.cb:=gD [] [⟨none,none,false,.HF 4 [(0,1),(1,1)] 1 47 (.t 41)⟩,qo 36 (.W5 428 (.t 35)),qo 35 (.Ln [] [])] 0x4323b32fc9a2e8c1117f2a31910ba2bab0e9a63ff1b816207436a51df70f8ccf9316768bf122cdfee5cc5825341b1ddc99b3d248a686348f96dae81cfa8363cde7a6778d30973d489623621090287a70aa24d43f815c121879a90a724daa5b0b5c3162d6f05f6aba270eb3599d5a97719479da9b55dfd79b6380a628198e1c0be10524d8d8 (by conv=>lhs;reduce)
def Gh:Abs.Fn:=⟨3,[.t 6],gC 0xa66c01e2e6a2978af91ab7885dc2631a2f8dcfd4b9e9c60ded70f7b6bdf4fee3f0be50db989e55991059e1298b774c1dfb6627f9b58a8b47dcbb0159e68ac8c30a345e0813ff2a4cf3a5efd3d3d509e091ef3b3ee3d53ed6dcce7b2bad43ffab1943cef42be93c6 (by conv=>lhs;reduce)⟩
def xZ:Abs.Fn:=⟨3,[.t 6],gD [] [qO 7 (.mv (.c (.int .i64 (aV 1)))),qn 33 .gtr 32 (aV 10000000000),qn 18 .lss 17 (zc 10000000000)] 0x79c71c3b8c0b9fac01a80c1e40c3d66d39da19a9f6be288fcb6a254684247c364ec977df3bf59e8a08f8aa9ff3aa3a9a8f52f627d6ff2f98c17ac4e2975fcd20740e27d1d99c188a44079aecc0318ac72cab2e7037f9fdd4fdda748dd31da405f86109f7cd7240e0a07a86c2e734850a700ce11f21134abed9a3b428a3bb745f60f14363531401845c98479d0dff73d2fbf86 (by conv=>lhs;reduce)⟩
def pa:Abs.cb:=gC 0x1d8f36ecee64d44802f129c551c3e83d28105fc344ecd48a14d1949fbe3487e8db7a10215f2ae49b484f86dd0004bf527f43fa7ec6361b236ea3ec69f27ba28f7d9830 (by conv=>lhs;reduce)
def zu:Abs.Fn:=⟨2,[.t 4],gD [] [qo 14 (.mn (.c (.int .i64 (aV 0))) (.t 13))] 0x54c51c28443618481a0f7d02bee86a406513cd66c9f16f917d922146 (by conv=>lhs;reduce)⟩
def wU:Abs.Fn:=⟨3,[.t 6],gD [] [qO 23 (.MS false 5 1 (.t 20) (.t 22)),qC 20 xx []] 0x6aaba0990c239f982940782a45d219ae8a84175354bf4deedd1f0e2b8a47534ebe9a1c769259aa60503eb935f578594cf87773c862addb20c284068a7a25583195cce687654641c6 (by conv=>lhs;reduce)⟩
def xT:Abs.Fn:=⟨1,[.t 2],gC 0x79ae439acd276889e25e551e3a6427870031cc070dac59447961d58ac421fcaaba3d6d52e1e8096654b6676ee591b1208d936c99509a46 (by conv=>lhs;reduce)⟩
def zA:Abs.Fn:=⟨2,[.t 4],gC 0x2577bff9a05e2a4290bd9c29e93915449c5219867186 (by conv=>lhs;reduce)⟩
attribute [local irreducible] mR kZ kB fh pZ tn kq kr gg gK mJ di jS iN pa
def EV:Abs.Fn:=⟨2,[.t 4],gD [mR] [] 0x4801d2afc98c7be56ed76ac95e71cadc0de1e43f052875d9fae0fd727afd46 (by conv=>lhs;reduce)⟩
def iY:Abs.Fn:=⟨2,[.t 4],gD [kZ] [] 0xdcfbff0881e65818d4559d3bf3a10e2e2493dc6 (by conv=>lhs;reduce)⟩
def iu:Abs.Fn:=⟨2,[.t 4],gD [kB] [] 0xdcfbff0881e65818d4559d3bf3a10e2e2493dc6 (by conv=>lhs;reduce)⟩
def uy:Abs.Fn:=⟨3,[],gD [fh] [qx 4 1] 0x2e07010ebb51233ede427842f1b9fdf2e510b52a9a4288a24e (by conv=>lhs;reduce)⟩
def CK:Abs.Fn:=⟨4,[.t 8,.t 9],gD [pZ] [qo 10 (.mv (.c (.fn lX [] []))),qx 6 2] 0x301ca3545ea864660b76a8769dc88b8679b61b4db344162d9206a616859604ec3708feb1d7ca73558720b9185f6186aee8e41faef508e3d9301c7bf992d63a7ba4f10868a27405918f9c0c2ee2a09588e7fcab7ec7ed059db1a6508d8078e8fc4aad26d89715af72a4f634e1b641c55466f2831d782e7dac8b60ac26ebc0862be7978cb5ac4d56095dadaa970bd6ff26f9c52c947d888a5be811ae8ff65e34350395555c9658d7705707bf2df76a156852b361d1c496acf27b8c7d77e6bc20f878ae829123df117427fc2998dfe582646 (by conv=>lhs;reduce)⟩
def zt:Abs.Fn:=⟨3,[.v 6 true 2,.c 7 false 1],gD [.TN (.c (.fn fF [] [])) [.t 7] tn] [qS 6 2 6 22] 0x1e0ddd6b9837a511228916bdbc521d9670527fbd63e2c44f409b0140e7bf84d2677f786ffb02e99208b0d48aa7cd6d68155b228c8e3f7fc46f9f7aeb5cb7c5304286cb675052a16231e1b1cb7f54c4a7a9416 (by conv=>lhs;reduce)⟩
def ku:Abs.cb:=gD [kr] [] 0x23511bf756ed2926260a569189f28c3d0a423c76101e504e162ad1696aa477c793d82554fb9ef2fdcc557255d6ea9bb2c0fc71e883ae0c7c55a5ec657eea1a81730f89d0cade0df43cc42ba54614b49e9eb9ddc1026babbb9427f22349be241f5227cc0 (by conv=>lhs;reduce)
def wW:Abs.Fn:=⟨1,[.t 2],gD [gg] [] 0x31a3ba245978a2f6bfad025f1ed2f46546151d9be8a4eea6678d650d22b78e63af49e0f376e5d391758bba51574f1e9b13b05b57665791b346 (by conv=>lhs;reduce)⟩
def wR:Abs.Fn:=⟨1,[.t 2],gD [gK] [] 0x354c186dbef81f29988d2c82bda77c5780fbc445ca72be7614f450a305cc6 (by conv=>lhs;reduce)⟩
def ED:Abs.Fn:=⟨1,[.t 2],gD [mJ] [] 0x348220e4990672e7b7d03e450df78d976686 (by conv=>lhs;reduce)⟩
def mM:Abs.Fn:=⟨2,[.t 4],gD [di] [] 0x736917a4459b9cc29fa658d015a13cf2b9c1f5777436769146 (by conv=>lhs;reduce)⟩
def CH:Abs.Fn:=⟨2,[.t 4],gD [jS] [] 0x1b62369ecdd46b7a4919924cb2e358dd50f38f54792fe767a7824c10348efbec91fcf1306 (by conv=>lhs;reduce)⟩
def zy:Abs.Fn:=⟨2,[.v 4 true 2],gD [iN] [⟨none,none,false,.HF 4 [(0,1),(1,1)] 2 4 (.t 50)⟩,⟨none,none,false,.HF 4 [(0,1),(1,1)] 1 13 (.t 12)⟩,qo 4 (.BJ [(0,1),(1,1)] [.aW,.aW])] 0x16f358fdb1c1caa50c4b0d5a8b521ff74930fe23b62084ce581b3624942d106d5a4842e48e6fd255bc16 (by conv=>lhs;reduce)⟩
def Ib:Abs.Fn:=⟨3,[.t 6],gD [pa] [] 0xff866e4f2df9d32f2dce20a63a7a5007359f541a0a7cfa60dfd3452fc6 (by conv=>lhs;reduce)⟩
attribute [local irreducible] ku
def nG:Abs.cb:=gD [ku] [] 0x1080265b3b4867f7910b18f1858d7c160d691f06f80925f11448a493f61b6adfa7be469eed57b6565ff0cf94d54f2f8a1bc4dc1b61e11e (by conv=>lhs;reduce)
attribute [local irreducible] nG
def tp:Abs.Fn:=⟨4,[.t 8,.t 9,.c 10 false 1],gD [.TN (.c (.fn fF [] [])) [.t 10] nG,kq,.cG [0,1000002]] [] 0x1282cc290f7f54d593724af94db1a4ddfc25d20971ef2fb5125c17fc7cbe171e2772b0b79d6a34bc65c35dfe65436f90d60cacbae38210e8ee1ee2bf83a2b227480530704de2a787e03378e36a30b5dee4e07fa8cfd587d6197b29a0f253e6f2e (by conv=>lhs;reduce)⟩
def Ol:sS:=⟨[(7,[6,7]),(6,[2,6,7,8]),(5,[6,7]),(4,[2,6,7,8,21]),(3,[2,6,7,8]),(2,[2,3,6,7,8,16]),(1,[2,3,6,7,8]),(0,[2,3,4,6,7])],[],[],[6,7,8],[6,8],[],[],[(0,[0])],[],[],[(7,some 2)]⟩
def Jq:sS:=⟨[(30,[8,9,10]),(29,[3,4,8,9,10,15,51,52,53]),(28,[3,4,8,9,10,15,51,52,53]),(27,[3,4,8,9,10,15,16,51,52,53,99]),(26,[3,4,8,9,10,15,16,17,18,51,52,53,60,61,62]),(25,[3,4,8,9,10,15,16,17,18,51,52,53,60,61,62]),(24,[3,4,8,9,10,15,16,17,18,19,21,51,52,53,60,61,62]),(23,[3,4,8,9,10,15,16,17,18,19,21,51,52,53,60,61,62,86]),(22,[3,4,8,9,10,15,16,17,18,19,21,51,52,53,60,61,62]),(21,[3,4,8,9,10,15,16,17,18,19,20,51,52,53,60,61,62]),(20,[3,4,8,9,10,15,16,17,18,51,52,53,60,61,62,63]),(19,[3,4,8,9,10,15,16,17,18,51,52,53,60,61,62]),(18,[3,4,8,9,10,15,16,17,18,51,52,53]),(17,[3,4,8,9,10,15,16,17,51,52,53]),(16,[3,4,8,9,10,15,51,52,53,54]),(15,[3,4,8,9,10,15,51,52,53]),(14,[1,3,4,8,9,10,15]),(13,[1,2,3,4,8,9,10]),(12,[1,2,3,4,8,9,10,32,33,34]),(11,[8,9,10]),(10,[1,2,3,4,8,9,10,14,32,33,34,44]),(9,[1,2,3,4,8,9,10,14,32,33,34]),(8,[1,2,3,4,8,9,10,13,32,33,34]),(7,[1,2,3,4,8,9,10,32,33,34,35]),(6,[1,2,3,4,8,9,10,32,33,34]),(5,[8,9,10]),(4,[1,2,3,4,8,9,10,31]),(3,[8,9,10]),(2,[1,2,3,4,8,9,10,11,27]),(1,[1,2,3,4,8,9,10,11]),(0,[1,2,3,4,8,9,10])],[(4,[3,4,8,9,10,15,16,17,18,51,52,53,60,61,62]),(2,[3,4,8,9,10,15,51,52,53]),(0,[1,2,3,4,8,9,10,32,33,34])],[0],[8,9,10,13,17,20],[13,17,20],[],[],[(0,[0,1000002])],[],[],[(14,some 3)]⟩
def tF3:List (Nat×sS×Abs.Fn):=[A0 BZ F0,A3 [] B8 F8 [] [4] [4] [] [],A3 [] Du H3 [] [6] [6] [] [],A0 Aq EP,A0 yw Db,A3 [] Dw H5 [] [4] [4] [] [],A3 [] Ax EX [] [4] [4] [] [],A3 [] Ap EO [] [4] [4] [] [],A1 [0,1,2,4,5,3,6] Av EV ,A0 B6 F4,A0 fa iY,A0 eJ iu,A0 ko uP,A0 gT tx,A0 yA De,A0 rR xM,A4 [] tE C7 [] [] [] [] [] [] [] [] [(0,some 3)],A0 sj ym,A4 [] wv CJ [] [] [] [] [] [(0,[0])] [] [] [],A2 [] jn rz [] [2,5],A0 fG kh,A0 gO ti,A4 [] Cc Gg [] [6] [6] [] [] [(0,[0])] [] [] [],A0 oA ui,A3 [] oD uy [] [7] [7] [] [],A0 jw vD,A0 Dr HY,A0 wx CK,A0 qB wH,A2 [] lW vN [] [2,5],(zL,Ol,zt),(pn,Jq,tp),A0 iR ux,A0 tF zl,A3 [] vk Fa [] [6] [6] [] [],A3 [] yt C9 [] [3,4] [3,4] [] [],A3 [] yr C8 [] [2] [2] [] [],A0 Dv H4,A0 dW lh,A0 sk rQ,A0 gZ wE,A3 [] qU wW [] [4,5] [4,5] [] [],A2 [] uV Ba [] [3],A3 [] Cd JR [] [4,6] [4,6] [] [],A2 [] qG wR [] [2],A0 Ai ED,A0 gh sB,A0 nI tf,A0 vf EB,A0 qh wD,A0 rB EC,A0 oB uk,A0 pj vw,A0 lX zB,A0 sn yn,A0 tO zC,A3 [] jb mM [] [4,6] [6] [] [],A0 iQ ur,A0 wu CH,A4 [0,3,2,5,6,4,1,7] fF E8 [] [0,3] [3] [] [] [] [] [] [(2,some 1)],A4 [] oO zy [] [4,12] [4] [(1,[(0,1),(1,1)]),(1004,[(0,1),(1,1)]),(8011,[(0,1),(1,1)]),(8013,[(0,1)]),(10001,[(0,1),(1,1)])] [] [] [] [] [(7,some 2)],A0 Ce Gh,A0 rZ xZ,A4 [] zM Ib [] [6,8] [8] [] [] [] [] [] [(4,some 5)],A0 tK zu,A0 qR wU,A2 [] rV xT [] [3],A0 tN zA]
theorem kF3:(tF3.map λp=>chk p)=tF3.map λp=>some p.2.2:=by kernel_rfl
end Go.Proofs.YtpapbbojmclkgaaGreatDoor
