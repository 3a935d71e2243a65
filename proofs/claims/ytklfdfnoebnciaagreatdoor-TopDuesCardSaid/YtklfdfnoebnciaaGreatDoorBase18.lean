import Derived.Test.YtklfdfnoebnciaaGreatDoorBase13
import Derived.Sort.EncStr
set_option linter.all false
namespace Go.az
open Go
open Go.RowKit
structure ab3(w:World)(b o:Nat)(us:List Value)(w':World):Prop where
 row:∀c el,w.heap[b]?=some (.cells c el (0,0))->o+us.length<=c.size->∃c',w'.heap[b]?=some (.cells c' el (0,0))/\c'.size=c.size /\
  ∀j,c'[j]?=if o<=j/\j<o+us.length then us[j-o]? else c[j]?
 other:∀x,x<w.heap.size->x≠b->w'.heap[x]?=w.heap[x]?
 size:w.heap.size<=w'.heap.size
 os:w'.os=w.os
 tape:w'.tape=w.tape
 output:w'.output=w.output
def ac9(P:Program)(f:Nat):Prop :=
 (∃F c,P.funcs[f]?=some F/\F.name ≠ "runtime.NumGoroutine" /\ F.body=some c) /\
 ∀(b o cap i j:Nat) (xs:List (List UInt8)) (w:World) (c:Array Value) (el:TypeId),w.heap[b]?=some (.cells c el (0,0))->o+xs.length<=c.size ->
  (∀k s,xs[k]?=some s->c[o+k]?=some (Go.Proofs.encStr s))->xs.length<4611686018427387904->xs.length<=cap->cap<=9223372036854775807->i<=j->j<=xs.length ->
  Calls P f #[.slice (some ⟨b,o,none⟩) xs.length cap,.int .i64 i,.int .i64 j] w λe w'=>e=.returned (.slice (some ⟨b,o,none⟩) (xs.length-(j-i)) cap)/\ab3 w b o ((ZB i j xs).map Go.Proofs.encStr) w'
end Go.az
