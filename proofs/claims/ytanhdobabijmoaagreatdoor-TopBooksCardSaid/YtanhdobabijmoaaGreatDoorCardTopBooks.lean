/- The card of the law TopBooks: the row, with the variables that it lists tied to the program's text. -/
import Derived.Test.YtanhdobabijmoaaGreatDoorCards
import Derived.Test.YtanhdobabijmoaaGreatDoorTie
import Derived.SevenTiedAt
import Derived.Test.YtanhdobabijmoaaGreatDoorTxt9
set_option linter.all false
namespace Go.Proofs.YtanhdobabijmoaaGreatDoor
open Go
set_option maxRecDepth 100000
theorem topBooks_holds:Rows.TopBooksCardSaid :=
 Claim7.holds_tied_plain_at .later [] [.data,.data,.data,.data,.sentinel,.sentinel,.pinned] true (true, "0974322127a97b94e65eaf18aedb514fecd3047f959ca1ed971f8cfd57dafd03") true
  topBooksDone.over (λ_ h=>by cases h) (by as_aux_lemma=>kernel_rfl) (λ_ h=>by cases h) topBooks_row_tie rfl ⟨rfl,rfl⟩ (by as_aux_lemma=>kernel_rfl) rfl
  (λf fn hf hfn=>by
   obtain rfl:f=3:=Option.some.inj ((show Tryz.prog.funcNamed "fumarole/fumaroletop.TopBooks" = some 3 by kernel_rfl).symm.trans hf) |>.symm
   obtain rfl:fn=Tryz.f3:=(Option.some.inj (Tryz.func3.symm.trans hfn)).symm;exact⟨by as_aux_lemma=>kernel_rfl,λj t ht=>by
    rw[Tryz.params3]at ht;have hm:t∈[22]:=by simpa using Array.mem_of_getElem? ht
    have hall:([22].all λu => !Tryz.prog.wantsStandIn u)=true:=by as_aux_lemma=>kernel_rfl
    exact(show Tryz.prog.wantsStandIn t=false by simpa using dX.1 hall t hm)⟩)
  (by as_aux_lemma=>kernel_rfl)
#print axioms topBooks_holds
end Go.Proofs.YtanhdobabijmoaaGreatDoor
