/- The card of the law LogbookGoesOn: the row, with the variables that it lists tied to the program's text. -/
import Derived.Test.YtfgljaglidhjiaaGreatDoorCards
import Derived.Test.YtfgljaglidhjiaaGreatDoorTie
import Derived.SevenTiedAt
import Derived.Test.YtfgljaglidhjiaaGreatDoorTxt8
set_option linter.all false
namespace Go.Proofs.YtfgljaglidhjiaaGreatDoor
open Go
set_option maxRecDepth 100000
theorem logbookGoesOn_holds:Rows.LogbookGoesOnCardSaid :=
 Claim7.holds_tied_plain_at .later [] [.data,.data,.data,.data,.sentinel,.sentinel,.pinned] true (true, "e4af0e600dc707d1cda0043eb6d02356b15fe7900dfd728733660a3ca8173e94") true
  logbookGoesOnDone.over (fun _ h=>by cases h) (by as_aux_lemma=>kernel_rfl) (fun _ h=>by cases h) logbookGoesOn_row_tie rfl ⟨rfl,rfl⟩ (by as_aux_lemma=>kernel_rfl) rfl
  (fun f fn hf hfn=>by
   obtain rfl:f=15:=Option.some.inj ((show Tryz.prog.funcNamed "fumarole/fumarolelaw12.LogbookGoesOn" = some 15 by kernel_rfl).symm.trans hf) |>.symm
   obtain rfl:fn=Tryz.f15:=(Option.some.inj (Tryz.func15.symm.trans hfn)).symm;exact⟨by as_aux_lemma=>kernel_rfl,fun j t ht=>by
    rw[Tryz.params15]at ht;have hm:t∈[22,143]:=by simpa using Array.mem_of_getElem? ht
    have hall:([22,143].all fun u => !Tryz.prog.wantsStandIn u)=true:=by as_aux_lemma=>kernel_rfl
    exact(show Tryz.prog.wantsStandIn t=false by simpa using lU.1 hall t hm)⟩)
  (by as_aux_lemma=>kernel_rfl)
#print axioms logbookGoesOn_holds
end Go.Proofs.YtfgljaglidhjiaaGreatDoor
