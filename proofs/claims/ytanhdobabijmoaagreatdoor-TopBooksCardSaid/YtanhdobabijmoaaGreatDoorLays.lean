import Derived.Test.YtanhdobabijmoaaGreatDoorIds
import Derived.Test.YtanhdobabijmoaaGreatDoorBase19
set_option linter.all false
set_option maxRecDepth 100000
namespace Go.Proofs.YtanhdobabijmoaaGreatDoor
open Go Go.aA
def NI:Go.Shelf.Ren:=⟨λ| 171=>18 | 243=>36 | 246=>56 | 283=>75 | 284=>76 | 285=>77 | 286=>78 | 129=>110 | 317=>109 | 318=>111 | 319=>112 | 320=>113 | 337=>152 | 338=>153 | n=>n,λ| 3=>3 | 9=>9 | 2=>2 | 4=>4 | 171=>144 | 0=>0 | 53=>145 | 37=>76 | 5=>5 | 173=>148 | 212=>162 | 51=>163 | 20=>20 | 213=>164 | 46=>165 | 232=>290 | 233=>291 | n=>n,λ| 17=>0 | 18=>4 | 19=>5 | n=>n⟩
theorem XH:Go.Proofs.LaysM.n171 Tryz.prog NI:=by constructor<;>first | kernel_rfl | (intro _;kernel_rfl) | decide | (constructor<;>first | kernel_rfl | (intro _;kernel_rfl) | decide)
def NJ:Go.Shelf.Ren:=⟨λ| 172=>66 | 244=>91 | 245=>92 | 247=>123 | 279=>124 | 280=>125 | 281=>126 | 282=>127 | 287=>163 | 316=>164 | 171=>18 | 205=>165 | 321=>210 | 322=>211 | 243=>36 | 246=>56 | 283=>75 | 284=>76 | 285=>77 | 286=>78 | 129=>110 | 317=>109 | 318=>111 | 319=>112 | 320=>113 | 337=>152 | 338=>153 | n=>n,λ| 9=>9 | 3=>3 | 75=>80 | 76=>81 | 4=>4 | 5=>5 | 167=>173 | 37=>76 | 0=>0 | 85=>174 | 2=>2 | 168=>176 | 53=>145 | 175=>255 | 46=>165 | 210=>259 | 127=>105 | 145=>302 | 143=>300 | 21=>21 | 171=>144 | 173=>148 | 212=>162 | 51=>163 | 20=>20 | 213=>164 | 232=>290 | 233=>291 | 80=>85 | n=>n,λ| 15=>2 | 16=>3 | 17=>0 | 18=>4 | 19=>5 | n=>n⟩
theorem XI:Go.Proofs.LaysC.n172 Tryz.prog NJ:=by constructor<;>first | kernel_rfl | (intro _;kernel_rfl) | decide | (constructor<;>first | kernel_rfl | (intro _;kernel_rfl) | decide | (constructor<;>first | kernel_rfl | (intro _;kernel_rfl) | decide))
def NF:Go.Shelf.Ren:=⟨λ| 146=>59 | 221=>80 | 268=>115 | 138=>116 | 143=>117 | 195=>158 | 197=>120 | 218=>159 | 219=>114 | 260=>160 | 217=>154 | 225=>155 | 224=>156 | 267=>157 | 266=>206 | 314=>207 | n=>n,λ| 9=>9 | 31=>22 | 3=>3 | 4=>4 | 0=>0 | 105=>170 | 21=>21 | 5=>5 | 46=>165 | 119=>294 | 139=>297 | 138=>296 | 146=>292 | 51=>163 | n=>n,λ| 1=>1 | 3=>6 | 4=>7 | n=>n⟩
theorem XC:Go.Proofs.Lays.n146 Tryz.prog NF:=by constructor<;>first | kernel_rfl | (intro _;kernel_rfl) | decide
def GN:Go.Shelf.Ren:=⟨λ| 169=>21 | n=>n,λ| 70=>75 | 9=>9 | 0=>0 | 72=>78 | 37=>76 | 127=>105 | 3=>3 | 5=>5 | n=>n,λ| n=>n⟩
theorem XF:Go.Proofs.Lays.n169 Tryz.prog GN:=by constructor<;>first | kernel_rfl | (intro _;kernel_rfl) | decide
def ND:Go.Shelf.Ren:=⟨λ| 145=>58 | 220=>79 | 219=>114 | 217=>154 | 225=>155 | 224=>156 | 267=>157 | 266=>206 | 314=>207 | n=>n,λ| 9=>9 | 4=>4 | 59=>130 | 3=>3 | 5=>5 | 46=>165 | 146=>292 | 51=>163 | n=>n,λ| 1=>1 | n=>n⟩
theorem XB:Go.Proofs.Lays.n145 Tryz.prog ND:=by constructor<;>first | kernel_rfl | (intro _;kernel_rfl) | decide
def NG:Go.Shelf.Ren:=⟨λ| 160=>65 | 232=>85 | 231=>84 | 227=>86 | 234=>88 | 233=>87 | 236=>90 | 235=>89 | 228=>119 | 271=>122 | 151=>121 | 197=>120 | 120=>162 | 152=>161 | 260=>160 | 137=>208 | 119=>209 | 224=>156 | 225=>155 | 217=>154 | 266=>206 | n=>n,λ| 9=>9 | 4=>4 | 3=>3 | 5=>5 | 117=>154 | 116=>153 | 0=>0 | 124=>157 | 21=>21 | 105=>170 | 46=>165 | 119=>294 | 139=>297 | 138=>296 | n=>n,λ| 3=>6 | 4=>7 | n=>n⟩
theorem XD:Go.Proofs.Lays.n160 Tryz.prog NG:=by constructor<;>first | kernel_rfl | (intro _;kernel_rfl) | decide
def NH:Go.Shelf.Ren:=⟨λ| 170=>20 | n=>n,λ| 70=>75 | 3=>3 | 0=>0 | 72=>78 | 37=>76 | 5=>5 | n=>n,λ| n=>n⟩
theorem XG:Go.Proofs.Lays.n170 Tryz.prog NH:=by constructor<;>first | kernel_rfl | (intro _;kernel_rfl) | decide
def GM:Go.Shelf.Ren:=⟨λ| 166=>19 | 240=>37 | 276=>57 | n=>n,λ| 0=>0 | 3=>3 | 4=>4 | 5=>5 | 9=>9 | 20=>20 | 37=>76 | 70=>75 | 72=>78 | 75=>80 | 80=>85 | 164=>128 | n=>n,λ| n=>n⟩
theorem XE:Go.Proofs.Lays.n166 Tryz.prog GM:=by constructor<;>first | kernel_rfl | (intro _;kernel_rfl) | decide
theorem Ub:Go.Proofs.Builder.Extra Tryz.prog GM:=by constructor<;>first | kernel_rfl | (intro _;kernel_rfl) | decide | (constructor<;>first | kernel_rfl | (intro _;kernel_rfl) | decide)
theorem Uc:Go.Proofs.Builder.Extra Tryz.prog GN:=by constructor<;>first | kernel_rfl | (intro _;kernel_rfl) | decide | (constructor<;>first | kernel_rfl | (intro _;kernel_rfl) | decide)
theorem Gf:xc Tryz.prog (iw Tryz.prog) 3 18:=Go.aA.UT XH rfl ⟨Tryz.f18,_,Tryz.func18,by decide,rfl⟩
theorem Ge:xc Tryz.prog (iw Tryz.prog) 2820 66:=Go.aA.UQ XI rfl (t:=176) rfl ⟨Tryz.f66,_,Tryz.func66,by decide,rfl⟩
theorem Fg:xc Tryz.prog (iw Tryz.prog) 6 59:=Go.aA.Sl XC rfl (m:=1) (by kernel_rfl) rfl (by kernel_rfl) ⟨Tryz.f59,_,Tryz.func59,by decide,rfl⟩
theorem Hg:xc Tryz.prog (iw Tryz.prog) 10 58:=Go.aA.XQ XB rfl (m:=1) (by kernel_rfl) rfl ⟨Tryz.f58,_,Tryz.func58,by decide,rfl⟩
theorem Gg:xc Tryz.prog (iw Tryz.prog) 11 65:=Go.aA.UU XD rfl (by kernel_rfl) ⟨Tryz.f65,_,Tryz.func65,by decide,rfl⟩
theorem vq:xc Tryz.prog (iw Tryz.prog) 5244135 19:=Go.aA.UW XE Ub rfl (T:=78) (e:=5) rfl rfl (by decide) ⟨Tryz.f19,_,Tryz.func19,by decide,rfl⟩
theorem yF:xc Tryz.prog (iw Tryz.prog) 5244136 21:=Go.aA.US XF Uc rfl (T:=78) (e:=5) rfl rfl (by decide) ⟨Tryz.f21,_,Tryz.func21,by decide,rfl⟩
theorem Av:xc Tryz.prog (iw Tryz.prog) 5244140 20:=Go.aA.UR XG rfl (T:=78) (e:=5) rfl rfl (by decide) ⟨Tryz.f20,_,Tryz.func20,by decide,rfl⟩
end Go.Proofs.YtanhdobabijmoaaGreatDoor
