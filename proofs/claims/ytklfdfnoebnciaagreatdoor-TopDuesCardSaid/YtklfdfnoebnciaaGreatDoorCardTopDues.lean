/- The card of the law TopDues: the row, with the variables that it lists tied to the program's text. -/
import Derived.Test.YtklfdfnoebnciaaGreatDoorCards
import Derived.Test.YtklfdfnoebnciaaGreatDoorTie
import Derived.SevenTiedAt
import Derived.Test.YtklfdfnoebnciaaGreatDoorTxt7
set_option linter.all false
namespace Go.Proofs.YtklfdfnoebnciaaGreatDoor
open Go
set_option maxRecDepth 100000
theorem topDues_holds:Rows.TopDuesCardSaid :=
 Claim7.holds_tied_plain_at .later [] [.data,.data,.data,.data,.sentinel,.sentinel,.pinned] true (true, "ecfa4281c8dc9c87f2248a84de6002083db879adce9346a80789be3dd817b7d7") true
  topDuesDone.over (λ_ h=>by cases h) (by as_aux_lemma=>kernel_rfl) (λ_ h=>by cases h) topDues_row_tie rfl ⟨rfl,rfl⟩ (by as_aux_lemma=>kernel_rfl) rfl
  (λf fn hf hfn=>by
   obtain rfl:f=3:=Option.some.inj ((show Tryz.prog.funcNamed "fumarole/fumaroletop.TopDues" = some 3 by kernel_rfl).symm.trans hf) |>.symm
   obtain rfl:fn=Tryz.f3:=(Option.some.inj (Tryz.func3.symm.trans hfn)).symm;exact⟨by as_aux_lemma=>kernel_rfl,λj t ht=>by
    rw[Tryz.params3]at ht;have hm:t∈[22,25,26,9]:=by simpa using Array.mem_of_getElem? ht
    have hall:([22,25,26,9].all λu => !Tryz.prog.wantsStandIn u)=true:=by as_aux_lemma=>kernel_rfl
    exact(show Tryz.prog.wantsStandIn t=false by simpa using gX.1 hall t hm)⟩)
  (by as_aux_lemma=>kernel_rfl)
#print axioms topDues_holds
end Go.Proofs.YtklfdfnoebnciaaGreatDoor
