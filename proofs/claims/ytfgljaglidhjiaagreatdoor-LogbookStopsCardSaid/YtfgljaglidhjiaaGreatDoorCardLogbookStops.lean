/- The card of the law LogbookStops: the row, with the variables that it lists tied to the program's text. -/
import Derived.Test.YtfgljaglidhjiaaGreatDoorCards
import Derived.Test.YtfgljaglidhjiaaGreatDoorTie
import Derived.SevenTiedAt
import Derived.ProofKit
import Derived.Test.YtfgljaglidhjiaaGreatDoorTxt4
namespace Go.Proofs.YtfgljaglidhjiaaGreatDoor
open Go
set_option maxRecDepth 100000
/-- The statement. -/
theorem logbookStops_holds : Rows.LogbookStopsCardSaid :=
  Claim7.holds_tied_plain_at .later [] [.data, .data, .data, .data, .sentinel, .sentinel, .pinned] true (true, "e4af0e600dc707d1cda0043eb6d02356b15fe7900dfd728733660a3ca8173e94") true
    logbookStopsDone.over (fun _ h => by cases h) (by as_aux_lemma => kernel_rfl) (fun _ h => by cases h) logbookStops_row_tie rfl ⟨rfl, rfl⟩ (by as_aux_lemma => kernel_rfl) rfl
    (fun f fn hf hfn => by
      obtain rfl : f = 12 := Option.some.inj ((show Tryz.prog.funcNamed "fumarole/fumarolelaw12.LogbookStops" = some 12 by kernel_rfl).symm.trans hf) |>.symm
      obtain rfl : fn = Tryz.f12 := (Option.some.inj (Tryz.func12.symm.trans hfn)).symm
      exact ⟨by as_aux_lemma => kernel_rfl, fun j t ht => by
        rw [Tryz.params12] at ht
        have hm : t ∈ [22, 143, 143] := by simpa using Array.mem_of_getElem? ht
        have hall : ([22, 143, 143].all fun u => !Tryz.prog.wantsStandIn u) = true := by as_aux_lemma => kernel_rfl
        exact (show Tryz.prog.wantsStandIn t = false by simpa using List.all_eq_true.1 hall t hm)⟩)
    (by as_aux_lemma => kernel_rfl)
#print axioms logbookStops_holds
end Go.Proofs.YtfgljaglidhjiaaGreatDoor

