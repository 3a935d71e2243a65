import Derived.Test.YtpapbbojmclkgaaGreatDoorIds
import Derived.Test.YtpapbbojmclkgaaGreatDoorBase18
set_option linter.all false
set_option maxRecDepth 100000
namespace Go.Proofs.YtpapbbojmclkgaaGreatDoor
open Go Go.aw
def Q2:Go.Shelf.Ren:=⟨λ| 171=>42 | 243=>75 | 246=>113 | 283=>145 | 284=>146 | 285=>147 | 286=>148 | 129=>187 | 317=>186 | 318=>188 | 319=>189 | 320=>190 | 337=>224 | 338=>225 | n=>n,λ| 3=>3 | 9=>9 | 2=>2 | 4=>4 | 171=>286 | 0=>0 | 53=>287 | 37=>86 | 5=>5 | 173=>290 | 212=>309 | 51=>310 | 20=>20 | 213=>311 | 46=>265 | 232=>411 | 233=>412 | n=>n,λ| 17=>1 | 18=>2 | 19=>3 | n=>n⟩
theorem acb:Go.Proofs.LaysM.n171 Tryz.prog Q2:=by constructor<;>first | kernel_rfl | (intro _;kernel_rfl) | decide | (constructor<;>first | kernel_rfl | (intro _;kernel_rfl) | decide)
def Q3:Go.Shelf.Ren:=⟨λ| 172=>173 | 244=>221 | 245=>222 | 247=>268 | 279=>269 | 280=>270 | 281=>271 | 282=>272 | 287=>317 | 316=>318 | 171=>42 | 205=>319 | 321=>353 | 322=>354 | 243=>75 | 246=>113 | 283=>145 | 284=>146 | 285=>147 | 286=>148 | 129=>187 | 317=>186 | 318=>188 | 319=>189 | 320=>190 | 337=>224 | 338=>225 | n=>n,λ| 9=>9 | 3=>3 | 75=>117 | 76=>118 | 4=>4 | 5=>5 | 167=>405 | 37=>86 | 0=>0 | 85=>406 | 2=>2 | 168=>408 | 53=>287 | 175=>448 | 46=>265 | 210=>451 | 127=>158 | 145=>477 | 143=>475 | 21=>21 | 171=>286 | 173=>290 | 212=>309 | 51=>310 | 20=>20 | 213=>311 | 232=>411 | 233=>412 | 80=>128 | n=>n,λ| 15=>4 | 16=>5 | 17=>1 | 18=>2 | 19=>3 | n=>n⟩
theorem acd:Go.Proofs.LaysC.n172 Tryz.prog Q3:=by constructor<;>first | kernel_rfl | (intro _;kernel_rfl) | decide | (constructor<;>first | kernel_rfl | (intro _;kernel_rfl) | decide | (constructor<;>first | kernel_rfl | (intro _;kernel_rfl) | decide))
def EO:Go.Shelf.Ren:=⟨λ| 156=>41 | 165=>74 | 166=>40 | 169=>45 | 240=>73 | 241=>112 | 276=>111 | 277=>144 | n=>n,λ| 31=>22 | 9=>9 | 3=>3 | 4=>4 | 0=>0 | 20=>20 | 72=>115 | 76=>118 | 70=>113 | 37=>86 | 75=>117 | 127=>158 | 164=>254 | 5=>5 | 80=>128 | n=>n,λ| n=>n⟩
theorem ab8:Go.Proofs.Lays.n156 Tryz.prog EO:=by constructor<;>first | kernel_rfl | (intro _;kernel_rfl) | decide
def Q1:Go.Shelf.Ren:=⟨λ| 146=>125 | 221=>159 | 268=>196 | 138=>197 | 143=>198 | 195=>228 | 197=>229 | 218=>230 | 219=>231 | 260=>274 | 217=>275 | 225=>276 | 224=>277 | 267=>278 | 266=>320 | 314=>321 | n=>n,λ| 9=>9 | 31=>22 | 3=>3 | 4=>4 | 0=>0 | 105=>372 | 21=>21 | 5=>5 | 46=>265 | 119=>453 | 139=>456 | 138=>455 | 146=>457 | 51=>310 | n=>n,λ| 1=>0 | 3=>6 | 4=>7 | n=>n⟩
theorem ab7:Go.Proofs.Lays.n146 Tryz.prog Q1:=by constructor<;>first | kernel_rfl | (intro _;kernel_rfl) | decide
def JP:Go.Shelf.Ren:=⟨λ| 169=>45 | n=>n,λ| 70=>113 | 9=>9 | 0=>0 | 72=>115 | 37=>86 | 127=>158 | 3=>3 | 5=>5 | n=>n,λ| n=>n⟩
theorem aca:Go.Proofs.Lays.n169 Tryz.prog JP:=by constructor<;>first | kernel_rfl | (intro _;kernel_rfl) | decide
def SQ:Go.Shelf.Ren:=⟨λ| 24=>37 | n=>n,λ| 24=>22 | 9=>9 | 3=>3 | 4=>4 | 0=>0 | n=>n,λ| n=>n⟩
theorem afy:Go.Proofs.Lays2.n24 Tryz.prog SQ:=by constructor<;>first | kernel_rfl | (intro _;kernel_rfl) | decide
theorem ab9:Go.Proofs.Lays.n166 Tryz.prog EO:=by constructor<;>first | kernel_rfl | (intro _;kernel_rfl) | decide
theorem Qw:Go.Proofs.Builder.Extra Tryz.prog EO:=by constructor<;>first | kernel_rfl | (intro _;kernel_rfl) | decide | (constructor<;>first | kernel_rfl | (intro _;kernel_rfl) | decide)
theorem YR:Go.Proofs.Builder.Extra Tryz.prog JP:=by constructor<;>first | kernel_rfl | (intro _;kernel_rfl) | decide | (constructor<;>first | kernel_rfl | (intro _;kernel_rfl) | decide)
theorem IW:yn Tryz.prog (iH Tryz.prog) 3 42:=Go.aw.Zx acb rfl ⟨Tryz.f42,_,Tryz.func42,by decide,rfl⟩
theorem IV:yn Tryz.prog (iH Tryz.prog) 6532 173:=Go.aw.Zv acd rfl (t:=408) rfl ⟨Tryz.f173,_,Tryz.func173,by decide,rfl⟩
theorem HY:yn Tryz.prog (iH Tryz.prog) 6 125:=Go.aw.Wn ab7 rfl (m:=0) (by kernel_rfl) rfl (by kernel_rfl) ⟨Tryz.f125,_,Tryz.func125,by decide,rfl⟩
theorem IX:yn Tryz.prog (iH Tryz.prog) 5 41:=Go.aw.nat_join ab8 Qw rfl ⟨Tryz.f41,_,Tryz.func41,by decide,rfl⟩
theorem uq:yn Tryz.prog (iH Tryz.prog) 5244727 40:=Go.aw.Zy ab9 Qw rfl (T:=115) (e:=5) rfl rfl (by decide) ⟨Tryz.f40,_,Tryz.func40,by decide,rfl⟩
theorem zT:yn Tryz.prog (iH Tryz.prog) 5244728 45:=Go.aw.Zw aca YR rfl (T:=115) (e:=5) rfl rfl (by decide) ⟨Tryz.f45,_,Tryz.func45,by decide,rfl⟩
theorem BX:yn Tryz.prog (iH Tryz.prog) 9 37:=Go.aw.acm afy rfl ⟨Tryz.f37,_,Tryz.func37,by decide,rfl⟩
