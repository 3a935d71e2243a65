/- The card of the law LogbookSells: the row, with the variables that it lists tied to the program's text. -/
import Derived.Test.YtfgljaglidhjiaaGreatDoorCards
import Derived.Test.YtfgljaglidhjiaaGreatDoorTie
import Derived.SevenTiedAt
import Derived.Test.YtfgljaglidhjiaaGreatDoorTxt8
set_option linter.all false
namespace Go.Proofs.YtfgljaglidhjiaaGreatDoor
open Go
set_option maxRecDepth 100000
theorem logbookSells_holds:Rows.LogbookSellsCardSaid :=
 Claim7.holds_tied_plain_at .later [] [.data,.data,.data,.data,.sentinel,.sentinel,.pinned] true (true, "e4af0e600dc707d1cda0043eb6d02356b15fe7900dfd728733660a3ca8173e94") true
  logbookSellsDone.over (fun _ h=>by cases h) (by as_aux_lemma=>kernel_rfl) (fun _ h=>by cases h) logbookSells_row_tie rfl ⟨rfl,rfl⟩ (by as_aux_lemma=>kernel_rfl) rfl
  (fun f fn hf hfn=>by
   obtain rfl:f=8:=Option.some.inj ((show Tryz.prog.funcNamed "fumarole/fumarolelaw12.LogbookSells" = some 8 by kernel_rfl).symm.trans hf) |>.symm
   obtain rfl:fn=Tryz.f8:=(Option.some.inj (Tryz.func8.symm.trans hfn)).symm;exact⟨by as_aux_lemma=>kernel_rfl,fun j t ht=>by
    rw[Tryz.params8]at ht;have hm:t∈[22]:=by simpa using Array.mem_of_getElem? ht
    have hall:([22].all fun u => !Tryz.prog.wantsStandIn u)=true:=by as_aux_lemma=>kernel_rfl
    exact(show Tryz.prog.wantsStandIn t=false by simpa using lu.1 hall t hm)⟩)
  (by as_aux_lemma=>kernel_rfl)
#print axioms logbookSells_holds
end Go.Proofs.YtfgljaglidhjiaaGreatDoor
