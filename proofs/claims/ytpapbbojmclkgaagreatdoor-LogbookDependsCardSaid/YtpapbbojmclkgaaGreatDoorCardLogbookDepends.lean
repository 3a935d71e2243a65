/- The card of the law LogbookDepends: the row, with the variables that it lists tied to the program's text. -/
import Derived.Test.YtpapbbojmclkgaaGreatDoorCards
import Derived.Test.YtpapbbojmclkgaaGreatDoorTie
import Derived.SevenTiedAt
import Derived.Test.YtpapbbojmclkgaaGreatDoorTxt10
set_option linter.all false
namespace Go.Proofs.YtpapbbojmclkgaaGreatDoor
open Go
set_option maxRecDepth 100000
theorem logbookDepends_holds:Rows.LogbookDependsCardSaid :=
 Claim7.holds_tied_plain_at .later [] [.data,.data,.data,.data,.sentinel,.sentinel,.pinned] true (true, "e74012a85a76613f41f5a5caea9c2e91984ae5b10bf66cfe07d86d3cb09fbb06") true
  logbookDependsDone.over (λ_ h=>by cases h) (by as_aux_lemma=>kernel_rfl) (λ_ h=>by cases h) logbookDepends_row_tie rfl ⟨rfl,rfl⟩ (by as_aux_lemma=>kernel_rfl) rfl
  (λf fn hf hfn=>by
   obtain rfl:f=4:=Option.some.inj ((show Tryz.prog.funcNamed "fumarole/fumarolelaw12.LogbookDepends" = some 4 by kernel_rfl).symm.trans hf) |>.symm
   obtain rfl:fn=Tryz.f4:=(Option.some.inj (Tryz.func4.symm.trans hfn)).symm;exact⟨by as_aux_lemma=>kernel_rfl,λj t ht=>by
    rw[Tryz.params4]at ht;have hm:t∈[22,3]:=by simpa using Array.mem_of_getElem? ht
    have hall:([22,3].all λu => !Tryz.prog.wantsStandIn u)=true:=by as_aux_lemma=>kernel_rfl
    exact(show Tryz.prog.wantsStandIn t=false by simpa using iV.1 hall t hm)⟩)
  (by as_aux_lemma=>kernel_rfl)
#print axioms logbookDepends_holds
end Go.Proofs.YtpapbbojmclkgaaGreatDoor
