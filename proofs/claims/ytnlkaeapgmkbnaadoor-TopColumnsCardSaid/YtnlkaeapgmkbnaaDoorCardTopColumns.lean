/- The card of the law TopColumns: the row, with the variables that it lists tied to the program's text. -/
import Derived.Test.YtnlkaeapgmkbnaaDoorCards
import Derived.Test.YtnlkaeapgmkbnaaDoorTie
import Derived.SevenTiedAt
import Derived.Test.YtnlkaeapgmkbnaaDoorTxt2
set_option linter.all false
namespace Go.Proofs.YtnlkaeapgmkbnaaDoor
open Go
set_option maxRecDepth 100000
theorem topColumns_holds:Rows.TopColumnsCardSaid :=
 Claim7.holds_tied_plain_at .later [] [.data,.data,.data] true (true, "091ca57825ba4231aab5dd0b4546523114bbeceac9325f9f26bc155804abaf89") false
  topColumnsDone.over (fun _ h=>by cases h) (by as_aux_lemma=>kernel_rfl) (fun _ h=>by cases h) topColumns_row_tie rfl ⟨rfl,rfl⟩ (by as_aux_lemma=>kernel_rfl) rfl
  (fun f fn hf hfn=>by
   obtain rfl:f=3:=Option.some.inj ((show Tryd.prog.funcNamed "fumarole/fumaroletop.TopColumns" = some 3 by kernel_rfl).symm.trans hf) |>.symm
   obtain rfl:fn=Tryd.f3:=(Option.some.inj (Tryd.func3.symm.trans hfn)).symm;exact⟨by as_aux_lemma=>kernel_rfl,fun j t ht=>by
    rw[Tryd.params3]at ht;have hm:t∈[23,5,5,24]:=by simpa using Array.mem_of_getElem? ht
    have hall:([23,5,5,24].all fun u => !Tryd.prog.wantsStandIn u)=true:=by as_aux_lemma=>kernel_rfl
    exact(show Tryd.prog.wantsStandIn t=false by simpa using b6.1 hall t hm)⟩)
  (by as_aux_lemma=>kernel_rfl)
#print axioms topColumns_holds
end Go.Proofs.YtnlkaeapgmkbnaaDoor
