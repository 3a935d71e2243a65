import Derived.Test.YtnlkaeapgmkbnaaDoorBase15
import Derived.Shelf.Strings.BuilderK
set_option linter.all false
namespace Go.Abs
open Go
open Go.RowKit Go.Shelf Go.Proofs
structure NV(T e:TypeId)(b:Nat)(v:Value)(bs:List UInt8)(w:World):Prop where
 aR:∃p,w.heap[b]?=some (.cells #[p,v] T (0,0))∧(p=.pointer none∨p=.pointer (some ⟨b,0,none⟩))
 own:w.ownsRowF 0 e 1 v bs.length (bs.map fun x => .int .u8 x.toNat)
 ne:v.ownBlock≠some b
structure On(w w':World)(b:Nat)(c:Option Nat):Prop where
 os:w'.os=w.os
 tape:w'.tape=w.tape
 output:w'.output=w.output
 size:w.heap.size≤w'.heap.size
 aR:∀k,k<w.heap.size→k≠b→c≠some k→w'.heap[k]?=w.heap[k]?
section
variable {P:Program} {ρ:Ren}
end
section
variable {P:Program} {CR:cm} {f:Nat} {σ:SK}
end
end Go.Abs
