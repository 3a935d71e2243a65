import Derived.Test.YtklfdfnoebnciaaGreatDoorBase17
import Derived.Test.YtklfdfnoebnciaaGreatDoorBase18
import Derived.Shelf.Slices.Delete
import Derived.Shelf.Strconv.Itoa3
import Derived.Shelf.Strconv.AtoiAll
import Derived.Shelf.Strings.OnBuilder
import Derived.Shelf.Strings.Split
import Derived.Lib.SmallJoins
set_option linter.all false
namespace Go.az
open Go
open Go.RowKit Go.Shelf Go.Sort Go.Proofs
section
variable {P:Program} {ρ:Ren} {k:Nat}
theorem RH(L:LaysM.n171 P ρ)(hk:ρ.f 171=k)(h0:∃F c,P.funcs[k]?=some F/\F.name ≠ "runtime.NumGoroutine" /\ F.body=some c):E2 P (ix P) 3 k:=by
 subst hk;refine ZZ L.m17 h0 λn w h1 h2 ht=>(Any.strconv_Itoa L n h1 h2 w ht).mono ?_
 rintro e w' ⟨he,q,os,rfl⟩;exact⟨he,rfl,rfl,rfl,by simp[grow],λj hj=>by simp only[grow];rw[Array.getElem?_append_left (by simpa using hj)];rfl⟩
theorem RG(L:LaysC.n172 P ρ)(hk:ρ.f 172=k){t:Nat}(ht:ρ.t 168=t)(h0:∃F c,P.funcs[k]?=some F/\F.name ≠ "runtime.NumGoroutine" /\ F.body=some c):E2 P (ix P) (4+16*t) k:=by
 subst hk ht;refine Zj L.m15 L.m16 h0 (λs v w hs h=>(Any.strconv_Atoi_ok L s hs v h w).mono ?_) (λs ev w hs h hv he=>(Any.strconv_Atoi_syntax L s hs h ev w hv he).mono ?_) (λs ev w hs h hv he=>(Any.strconv_Atoi_range L s hs h ev w hv he).mono ?_)
 .rintro e w' ⟨he,rfl | ⟨s,rfl⟩⟩
  .exact⟨he,Below.refl _ _⟩
  .exact⟨he,Joins.below_bytesWorld _ _ _ _ (aH _)⟩
 .rintro e w' ⟨N,he,_,_,hb⟩;exact⟨_,he,hb⟩
 .rintro e w' ⟨N,he,_,_,hb⟩;exact⟨_,he,hb⟩
theorem Pc(L:Lays.n146 P ρ)(hk:ρ.f 146=k){m:Nat}(hm:P.globalNamed "internal/bytealg.MaxLen" = some m)(hm':ρ.g 1=m)(hi:(P.info? (ρ.t 9)).map (λi=>(i.zero,i.size,i.bytes))=some (some (.string ByteArray.empty),1,16))
  (h0:∃F c,P.funcs[k]?=some F/\F.name ≠ "runtime.NumGoroutine" /\ F.body=some c):E2 P (ix P) 6 k:=by
 subst hk hm';exact X6 hm h0 λs sep m w h1 h2 h3=>Any.strings_Split L hi s sep m w h1 h2 h3
end
end Go.az
