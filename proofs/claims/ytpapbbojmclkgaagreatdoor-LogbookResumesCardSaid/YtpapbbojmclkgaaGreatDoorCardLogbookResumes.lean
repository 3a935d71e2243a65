/- The card of the law LogbookResumes: the row, with the variables that it lists tied to the program's text. -/
import Derived.Test.YtpapbbojmclkgaaGreatDoorCards
import Derived.Test.YtpapbbojmclkgaaGreatDoorTie
import Derived.SevenTiedAt
import Derived.Test.YtpapbbojmclkgaaGreatDoorTxt11
set_option linter.all false
namespace Go.Proofs.YtpapbbojmclkgaaGreatDoor
open Go
set_option maxRecDepth 100000
theorem logbookResumes_holds:Rows.LogbookResumesCardSaid :=
 Claim7.holds_tied_plain_at .later [] [.data,.data,.data,.data,.sentinel,.sentinel,.pinned] true (true, "e74012a85a76613f41f5a5caea9c2e91984ae5b10bf66cfe07d86d3cb09fbb06") true
  logbookResumesDone.over (λ_ h=>by cases h) (by as_aux_lemma=>kernel_rfl) (λ_ h=>by cases h) logbookResumes_row_tie rfl ⟨rfl,rfl⟩ (by as_aux_lemma=>kernel_rfl) rfl
  (λf fn hf hfn=>by
   obtain rfl:f=7:=Option.some.inj ((show Tryz.prog.funcNamed "fumarole/fumarolelaw12.LogbookResumes" = some 7 by kernel_rfl).symm.trans hf) |>.symm
   obtain rfl:fn=Tryz.f7:=(Option.some.inj (Tryz.func7.symm.trans hfn)).symm;exact⟨by as_aux_lemma=>kernel_rfl,λj t ht=>by
    rw[Tryz.params7]at ht;have hm:t∈[86,22]:=by simpa using Array.mem_of_getElem? ht
    have hall:([86,22].all λu => !Tryz.prog.wantsStandIn u)=true:=by as_aux_lemma=>kernel_rfl
    exact(show Tryz.prog.wantsStandIn t=false by simpa using iK.1 hall t hm)⟩)
  (by as_aux_lemma=>kernel_rfl)
#print axioms logbookResumes_holds
end Go.Proofs.YtpapbbojmclkgaaGreatDoor
