/- The card of the law LogbookNames: the row, with the variables that it lists tied to the program's text. -/
import Derived.Test.YtfgljaglidhjiaaGreatDoorCards
import Derived.Test.YtfgljaglidhjiaaGreatDoorTie
import Derived.SevenTiedAt
import Derived.ProofKit
import Derived.Test.YtfgljaglidhjiaaGreatDoorTxt2
namespace Go.Proofs.YtfgljaglidhjiaaGreatDoor
open Go
set_option maxRecDepth 100000
/-- The statement. -/
theorem logbookNames_holds : Rows.LogbookNamesCardSaid :=
  Claim7.holds_tied_plain_at .later [] [.data, .data, .data, .data, .sentinel, .sentinel, .pinned] true (true, "e4af0e600dc707d1cda0043eb6d02356b15fe7900dfd728733660a3ca8173e94") true
    logbookNamesDone.over (fun _ h => by cases h) (by as_aux_lemma => kernel_rfl) (fun _ h => by cases h) logbookNames_row_tie rfl ⟨rfl, rfl⟩ (by as_aux_lemma => kernel_rfl) rfl
    (fun f fn hf hfn => by
      obtain rfl : f = 13 := Option.some.inj ((show Tryz.prog.funcNamed "fumarole/fumarolelaw12.LogbookNames" = some 13 by kernel_rfl).symm.trans hf) |>.symm
      obtain rfl : fn = Tryz.f13 := (Option.some.inj (Tryz.func13.symm.trans hfn)).symm
      exact ⟨by as_aux_lemma => kernel_rfl, fun j t ht => by
        rw [Tryz.params13] at ht
        simp at ht⟩)
    (by as_aux_lemma => kernel_rfl)
#print axioms logbookNames_holds
end Go.Proofs.YtfgljaglidhjiaaGreatDoor

