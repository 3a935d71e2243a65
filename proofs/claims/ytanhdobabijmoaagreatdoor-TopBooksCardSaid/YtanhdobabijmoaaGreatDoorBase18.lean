import Derived.Test.YtanhdobabijmoaaGreatDoorBase16
import Derived.Test.YtanhdobabijmoaaGreatDoorBase17
import Derived.Shelf.Slices.Delete
import Derived.Shelf.Strconv.Itoa3
import Derived.Shelf.Strconv.AtoiAll
import Derived.Shelf.Strings.OnBuilder
import Derived.Shelf.Strings.Split
import Derived.Lib.SmallJoins
set_option linter.all false
namespace Go.aA
open Go
open Go.RowKit Go.Shelf Go.Sort Go.Proofs
section
variable {P:Program} {ρ:Ren} {k:Nat}
theorem UT(L:LaysM.n171 P ρ)(hk:ρ.f 171=k)(h0:∃F c,P.funcs[k]?=some F/\F.name ≠ "runtime.NumGoroutine" /\ F.body=some c):xc P (iw P) 3 k:=by
 subst hk;refine adP L.m17 h0 λn w h1 h2 ht=>(Any.strconv_Itoa L n h1 h2 w ht).mono ?_
 rintro e w' ⟨he,q,os,rfl⟩;exact⟨he,rfl,rfl,rfl,by simp[grow],λj hj=>by simp only[grow];rw[Array.getElem?_append_left (by simpa using hj)];rfl⟩
theorem UQ(L:LaysC.n172 P ρ)(hk:ρ.f 172=k){t:Nat}(ht:ρ.t 168=t)(h0:∃F c,P.funcs[k]?=some F/\F.name ≠ "runtime.NumGoroutine" /\ F.body=some c):xc P (iw P) (4+16*t) k:=by
 subst hk ht;refine ac1 L.m15 L.m16 h0 (λs v w hs h=>(Any.strconv_Atoi_ok L s hs v h w).mono ?_) (λs ev w hs h hv he=>(Any.strconv_Atoi_syntax L s hs h ev w hv he).mono ?_) (λs ev w hs h hv he=>(Any.strconv_Atoi_range L s hs h ev w hv he).mono ?_)
 .rintro e w' ⟨he,rfl | ⟨s,rfl⟩⟩
  .exact⟨he,Below.refl _ _⟩
  .exact⟨he,Joins.below_bytesWorld _ _ _ _ (aL _)⟩
 .rintro e w' ⟨N,he,_,_,hb⟩;exact⟨_,he,hb⟩
 .rintro e w' ⟨N,he,_,_,hb⟩;exact⟨_,he,hb⟩
theorem Sl(L:Lays.n146 P ρ)(hk:ρ.f 146=k){m:Nat}(hm:P.globalNamed "internal/bytealg.MaxLen" = some m)(hm':ρ.g 1=m)(hi:(P.info? (ρ.t 9)).map (λi=>(i.zero,i.size,i.bytes))=some (some (.string ByteArray.empty),1,16))
  (h0:∃F c,P.funcs[k]?=some F/\F.name ≠ "runtime.NumGoroutine" /\ F.body=some c):xc P (iw P) 6 k:=by
 subst hk hm';exact abN hm h0 λs sep m w h1 h2 h3=>Any.strings_Split L hi s sep m w h1 h2 h3
theorem UW{CR:eP}(L:Lays.n166 P ρ)(X:Builder.Extra P ρ)(hk:ρ.f 166=k){T e:Nat}(hT:ρ.t 72=T)(he:ρ.t 5=e)(hlt:T<65536)(h0:∃F c,P.funcs[k]?=some F/\F.name ≠ "runtime.NumGoroutine" /\ F.body=some c):
  xc P CR (7+16*(T+65536*e)) k:=by
 subst hk hT he;exact aeY hlt h0 λb v bs s w h1 h2=>agW L X b v bs s w h1 h2
theorem US{CR:eP}(L:Lays.n169 P ρ)(X:Builder.Extra P ρ)(hk:ρ.f 169=k){T e:Nat}(hT:ρ.t 72=T)(he:ρ.t 5=e)(hlt:T<65536)(h0:∃F c,P.funcs[k]?=some F/\F.name ≠ "runtime.NumGoroutine" /\ F.body=some c):
  xc P CR (8+16*(T+65536*e)) k:=by
 subst hk hT he;exact adl hlt h0 λb v bs w h1 h2=>agt L X b v bs w h1 h2
end
end Go.aA
