import Derived.Test.YtnlkaeapgmkbnaaDoorBase16
import Derived.Test.YtnlkaeapgmkbnaaDoorBase17
import Derived.Shelf.Slices.Delete
import Derived.Shelf.Strconv.Itoa3
import Derived.Shelf.Strconv.AtoiAll
import Derived.Shelf.Strings.OnBuilder
import Derived.Shelf.Strings.Split
import Derived.Lib.SmallJoins
set_option linter.all false
namespace Go.Abs
open Go
open Go.RowKit Go.Shelf Go.Sort Go.Proofs
section
variable {P:Program} {ρ:Ren} {k:Nat}
theorem yA(L:LaysM.n171 P ρ)(hk:ρ.f 171=k)(h0:∃F c,P.funcs[k]?=some F∧F.name ≠ "runtime.NumGoroutine" ∧ F.body=some c):vN P (dO P) 3 k:=by
 subst hk;refine Lp L.m17 h0 fun n w h1 h2 ht=>(Any.strconv_Itoa L n h1 h2 w ht).mono ?_
 rintro e w' ⟨he,q,os,rfl⟩;exact⟨he,rfl,rfl,rfl,by simp[grow],fun j hj=>by simp only[grow];rw[Array.getElem?_append_left (by simpa using hj)];rfl⟩
end
end Go.Abs
