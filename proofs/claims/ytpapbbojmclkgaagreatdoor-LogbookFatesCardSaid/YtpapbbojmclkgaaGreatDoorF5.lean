import Derived.Test.YtpapbbojmclkgaaGreatDoorIds
set_option linter.all false
set_option maxRecDepth 100000
namespace Go.Proofs.YtpapbbojmclkgaaGreatDoor
open Go Go.Abs
attribute [local irreducible] aV zc
def mA:Abs.cb:=gC 0xe0b377d3da7f0df5e08c34d66fef5652847a01370b4c0811fe8abfd788296d60492fa311c53b58a8d29627a8bf6ce598 (by conv=>lhs;reduce)
def Bc:Abs.Fn:=⟨2,[.t 3],gC 0x2bdb7c110ce30ac3c5bf0b140c8546 (by conv=>lhs;reduce)⟩
def eP:Abs.cb:=gC 0x1e81f3a241dd59e082236ae186d938c2c687d2079b7fabbb13ad19e3604b77c9e4149f7cab07b80b306598 (by conv=>lhs;reduce)
def A8:Abs.Fn:=⟨1,[.t 2],gC 0xcf699b53305892225bb23f09a957c6 (by conv=>lhs;reduce)⟩
def yi:Abs.Fn:=⟨2,[.t 4],gC 0x34acf61e8bc962353a7c4e84521fc5e8aa44c7ea61f80186 (by conv=>lhs;reduce)⟩
def yd:Abs.Fn:=⟨2,[.t 4],gC 0x34acf61e8bc962353a7c4e84521fe61343b8cc0a53f80186 (by conv=>lhs;reduce)⟩
def uC:Abs.Fn:=⟨2,[.t 4],gC 0x16b8b20bd60b3202d4f43303aabd29fcb62d7b246 (by conv=>lhs;reduce)⟩
def yb:Abs.Fn:=⟨1,[.t 2],gC 0x4abd5d69cc1985a6718ab84884c451e364f85bdc36b48421b2aad2e72bd614132a2b6c9eac375b4c6 (by conv=>lhs;reduce)⟩
def ef:Abs.cb:=gC 0x1ad2bc99b171faf06ac5b0b0a8e7711ff45d693863eb25365a33cdf2c3b876ea8dbf28a76bde197ec704fda8eda5efa5b3e5063cd551f675304a78fb9870adc670d8de1c9f4aa0681faf0b4c755252070076979a6b827fd949abba44ec81aeed1bbe40 (by conv=>lhs;reduce)
def tg:Abs.Fn:=⟨2,[.t 3,.t 4],gC 0xd44dbaec70c3ac8f35a08ba3c66eeb653470c9265e9c9d86 (by conv=>lhs;reduce)⟩
def kY:Abs.cb:=gC 0xe0b377d3da7f0df5e08c34d66fef5652847a01370b4c0811f5d7ddb015e797c76456c1044329e84327d807a8bf6ce598 (by conv=>lhs;reduce)
def lQ:Abs.cb:=gC 0xe0b377d3da7f0df5e08c34d66fef5652847a01370b4c0811f5d7ddb015e797c76456c1044329e84327d807a8bf6ce598 (by conv=>lhs;reduce)
def kA:Abs.cb:=gC 0x5e257c5dca93ecb5c9c2ea250dcc9b28dbbf7a6f0cb1a9b7f24641718adf6cf8f27b0b43268326aa6733a8bf6ce598 (by conv=>lhs;reduce)
def iL:Abs.cb:=gD [] [qk 35 .rem 33 34,qk 20 .rem 18 19] 0xbae90c4aa76e980712038e169436e67ce330450a9bdd69701529f96d0243128f54bd54425ece7dc4ee5286c604186505edf4f3124b9935b32db0c1128a81c46105fee7519bc6f37971f52b0f59caf4fbd04bc980917156bc72f774021555562c58643e6908e8c1e93474a76bec5ba2934f982aa90db55bdff70e4b0e306f936c4f7b2663bfdc3f51924e3ec8bb5f00467d36bc9f48 (by conv=>lhs;reduce)
def lO:Abs.Fn:=⟨2,[.t 4],gC 0x1772c3fb2ca5103610fc8b06ddb97b246 (by conv=>lhs;reduce)⟩
def sC:Abs.Fn:=⟨2,[.t 3],gC 0xddb3828813fdaba91c70f67eb0415c8546 (by conv=>lhs;reduce)⟩
def lR:Abs.cb:=gC 0xe0b377d3da7f0df5e08c34d66fef5652847a01370b4c0811fe8abfd788296d60492fa311c53b58a8d29627a8bf6ce598 (by conv=>lhs;reduce)
attribute [local irreducible] mA eP ef kY lQ kA iL lR
def oh:Abs.Fn:=⟨2,[.t 4],gD [mA] [] 0xdcfbff0881e65818d4559d3bf3a10e2e2493dc6 (by conv=>lhs;reduce)⟩
def sD:Abs.Fn:=⟨2,[.t 4],gD [eP] [] 0xaadbb3244fa8d1a08de6f16cecc8ff6a759883c34fc1e746a6546 (by conv=>lhs;reduce)⟩
def rm:Abs.Fn:=⟨2,[.t 4],gD [ef] [] 0x37afc2ec36d3c3dd6581590842d92b3ec04205992d106f2f1306 (by conv=>lhs;reduce)⟩
def nc:Abs.Fn:=⟨2,[.t 4],gD [kY] [] 0xdcfbff0881e65818d4559d3bf3a10e2e2493dc6 (by conv=>lhs;reduce)⟩
def nz:Abs.Fn:=⟨2,[.t 4],gD [lQ] [] 0xdcfbff0881e65818d4559d3bf3a10e2e2493dc6 (by conv=>lhs;reduce)⟩
def mC:Abs.Fn:=⟨2,[.t 4],gD [kA] [] 0xdcfbff0881e65818d4559d3bf3a10e2e2493dc6 (by conv=>lhs;reduce)⟩
def xX:Abs.Fn:=⟨2,[],gD [iL] [] 0x2b406826b5894b758b471da254aa9dfcebac411ce631fa05847f409e45fc0e924e (by conv=>lhs;reduce)⟩
def nA:Abs.Fn:=⟨2,[.t 4],gD [lR] [] 0xdcfbff0881e65818d4559d3bf3a10e2e2493dc6 (by conv=>lhs;reduce)⟩
def tF5:List (Nat×sS×Abs.Fn):=[A0 jN oh,A0 pN Bc,A2 [] nj sD [] [4],A0 uT A8,A0 sf yi,A0 sb yd,A0 oH uC,A0 nL yb,A3 [] mj rm [] [7] [7] [] [],A0 gN tg,A0 jd nc,A0 jB nz,A0 iA mC,A0 nJ xX,A0 gQ lO,A0 ni sC,A0 jC nA]
theorem kF5:(tF5.map λp=>chk p)=tF5.map λp=>some p.2.2:=by kernel_rfl
end Go.Proofs.YtpapbbojmclkgaaGreatDoor
