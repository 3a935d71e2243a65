import Derived.Test.YtklfdfnoebnciaaGreatDoorIds
import Derived.Test.YtklfdfnoebnciaaGreatDoorBase19
set_option linter.all false
set_option maxRecDepth 100000
namespace Go.Proofs.YtklfdfnoebnciaaGreatDoor
open Go Go.az
def KP:Go.Shelf.Ren:=⟨λ| 171=>59 | 243=>90 | 246=>146 | 283=>203 | 284=>204 | 285=>205 | 286=>206 | 129=>246 | 317=>245 | 318=>247 | 319=>248 | 320=>249 | 337=>264 | 338=>265 | n=>n,λ| 3=>3 | 9=>9 | 2=>2 | 4=>4 | 171=>286 | 0=>0 | 53=>279 | 37=>214 | 5=>5 | 173=>289 | 212=>323 | 51=>295 | 20=>20 | 213=>324 | 46=>242 | 232=>342 | 233=>343 | n=>n,λ| 17=>5 | 18=>6 | 19=>7 | n=>n⟩
theorem TZ:Go.Proofs.LaysM.n171 Tryz.prog KP:=by constructor<;>first | kernel_rfl | (intro _;kernel_rfl) | decide | (constructor<;>first | kernel_rfl | (intro _;kernel_rfl) | decide)
theorem Em:E2 Tryz.prog (ix Tryz.prog) 3 59:=Go.az.RH TZ rfl ⟨Tryz.f59,_,Tryz.func59,by decide,rfl⟩
def KQ:Go.Shelf.Ren:=⟨λ| 172=>58 | 244=>88 | 245=>89 | 247=>141 | 279=>142 | 280=>143 | 281=>144 | 282=>145 | 287=>200 | 316=>201 | 171=>59 | 205=>202 | 321=>243 | 322=>244 | 243=>90 | 246=>146 | 283=>203 | 284=>204 | 285=>205 | 286=>206 | 129=>246 | 317=>245 | 318=>247 | 319=>248 | 320=>249 | 337=>264 | 338=>265 | n=>n,λ| 9=>9 | 3=>3 | 75=>107 | 76=>108 | 4=>4 | 5=>5 | 167=>235 | 37=>214 | 0=>0 | 85=>236 | 2=>2 | 168=>238 | 53=>279 | 175=>280 | 46=>242 | 210=>284 | 127=>318 | 145=>321 | 143=>319 | 21=>21 | 171=>286 | 173=>289 | 212=>323 | 51=>295 | 20=>20 | 213=>324 | 232=>342 | 233=>343 | 80=>345 | n=>n,λ| 15=>1 | 16=>2 | 17=>5 | 18=>6 | 19=>7 | n=>n⟩
theorem T0:Go.Proofs.LaysC.n172 Tryz.prog KQ:=by constructor<;>first | kernel_rfl | (intro _;kernel_rfl) | decide | (constructor<;>first | kernel_rfl | (intro _;kernel_rfl) | decide | (constructor<;>first | kernel_rfl | (intro _;kernel_rfl) | decide))
theorem El:E2 Tryz.prog (ix Tryz.prog) 3812 58:=Go.az.RG T0 rfl (t:=238) rfl ⟨Tryz.f58,_,Tryz.func58,by decide,rfl⟩
def KO:Go.Shelf.Ren:=⟨λ| 146=>38 | 221=>44 | 268=>61 | 138=>62 | 143=>63 | 195=>91 | 197=>92 | 218=>93 | 219=>94 | 260=>147 | 217=>148 | 225=>149 | 224=>150 | 267=>151 | 266=>207 | 314=>208 | n=>n,λ| 9=>9 | 31=>22 | 3=>3 | 4=>4 | 0=>0 | 105=>193 | 21=>21 | 5=>5 | 46=>242 | 119=>291 | 139=>294 | 138=>293 | 146=>296 | 51=>295 | n=>n,λ| 1=>0 | 3=>3 | 4=>4 | n=>n⟩
theorem TY:Go.Proofs.Lays.n146 Tryz.prog KO:=by constructor<;>first | kernel_rfl | (intro _;kernel_rfl) | decide
theorem Dy:E2 Tryz.prog (ix Tryz.prog) 6 38:=Go.az.Pc TY rfl (m:=0) (by kernel_rfl) rfl (by kernel_rfl) ⟨Tryz.f38,_,Tryz.func38,by decide,rfl⟩
end Go.Proofs.YtklfdfnoebnciaaGreatDoor
