/-
  DERIVED. GIVEN WITH THE SEED: THE CARDS: each row of YtfgljaglidhjiaaGreatDoorRows.lean that lists a variable, with what it lists TIED to the program's text (the seventh form; the later family's looks); each row that meets fmt, with fmt's text TOLD by the authors' own Lean function (tested against real Go, not proved from fmt's source: count such statements apart). THE CARD IS WHAT COUNTS. Prove the row's statement (the work); the ties are given (YtfgljaglidhjiaaGreatDoorTie.lean); close each card by the builder's one call (the guide's Derived/Test/ToyasCard.lean, 'card_holds'). Laid BY PROGRAM, IN A SANDBOX (cutbox-door.mjs). By AI agents, Wed Nov 11 2026. No macro, syntax, notation, axiom, sorry.
-/
import Derived.Test.YtfgljaglidhjiaaGreatDoorRows
import GoSem.ClaimSeven
namespace Go.Proofs.YtfgljaglidhjiaaGreatDoor
namespace Rows

/-- THE TIED CARD OF 'fumarolelaw12.LogbookFates'. -/
def logbookFatesCard : Claim7 := { stood := { row := logbookFatesRow, standIns := [], harness := (true, "e4af0e600dc707d1cda0043eb6d02356b15fe7900dfd728733660a3ca8173e94"), looks := true }, kinds := [], alts := [], laidByText := true, laidKinds := [.data, .data, .data, .data, .sentinel, .sentinel, .pinned], laidTests := true, laidLooks := .later }
def LogbookFatesCardSaid : Prop := Claim7.holds Tryz.pinned (.plain (OpenSpec.ofChange logbookFatesSpec)) logbookFatesCard

/-- THE TIED CARD OF 'fumarolelaw12.LogbookDepends'. -/
def logbookDependsCard : Claim7 := { stood := { row := logbookDependsRow, standIns := [], harness := (true, "e4af0e600dc707d1cda0043eb6d02356b15fe7900dfd728733660a3ca8173e94"), looks := true }, kinds := [], alts := [], laidByText := true, laidKinds := [.data, .data, .data, .data, .sentinel, .sentinel, .pinned], laidTests := true, laidLooks := .later }
def LogbookDependsCardSaid : Prop := Claim7.holds Tryz.pinned (.plain (OpenSpec.ofChange logbookDependsSpec)) logbookDependsCard

/-- THE TIED CARD OF 'fumarolelaw12.LogbookReports'. -/
def logbookReportsCard : Claim7 := { stood := { row := logbookReportsRow, standIns := [], harness := (true, "e4af0e600dc707d1cda0043eb6d02356b15fe7900dfd728733660a3ca8173e94"), looks := true }, kinds := [], alts := [], laidByText := true, laidKinds := [.data, .data, .data, .data, .sentinel, .sentinel, .pinned], laidTests := true, laidLooks := .later }
def LogbookReportsCardSaid : Prop := Claim7.holds Tryz.pinned (.plain (OpenSpec.ofChange logbookReportsSpec)) logbookReportsCard

/-- THE TIED CARD OF 'fumarolelaw12.LogbookReasons'. -/
def logbookReasonsCard : Claim7 := { stood := { row := logbookReasonsRow, standIns := [], harness := (true, "e4af0e600dc707d1cda0043eb6d02356b15fe7900dfd728733660a3ca8173e94"), looks := true }, kinds := [], alts := [], laidByText := true, laidKinds := [.data, .data, .data, .data, .sentinel, .sentinel, .pinned], laidTests := true, laidLooks := .later }
def LogbookReasonsCardSaid : Prop := Claim7.holds Tryz.pinned (.plain (OpenSpec.ofChange logbookReasonsSpec)) logbookReasonsCard

/-- THE TIED CARD OF 'fumarolelaw12.LogbookLights'. -/
def logbookLightsCard : Claim7 := { stood := { row := logbookLightsRow, standIns := [], harness := (true, "e4af0e600dc707d1cda0043eb6d02356b15fe7900dfd728733660a3ca8173e94"), looks := true }, kinds := [], alts := [], laidByText := true, laidKinds := [.data, .data, .data, .data, .sentinel, .sentinel, .pinned], laidTests := true, laidLooks := .later }
def LogbookLightsCardSaid : Prop := Claim7.holds Tryz.pinned (.plain (OpenSpec.ofChange logbookLightsSpec)) logbookLightsCard

/-- THE TIED CARD OF 'fumarolelaw12.LogbookSells'. -/
def logbookSellsCard : Claim7 := { stood := { row := logbookSellsRow, standIns := [], harness := (true, "e4af0e600dc707d1cda0043eb6d02356b15fe7900dfd728733660a3ca8173e94"), looks := true }, kinds := [], alts := [], laidByText := true, laidKinds := [.data, .data, .data, .data, .sentinel, .sentinel, .pinned], laidTests := true, laidLooks := .later }
def LogbookSellsCardSaid : Prop := Claim7.holds Tryz.pinned (.plain (OpenSpec.ofChange logbookSellsSpec)) logbookSellsCard

/-- THE TIED CARD OF 'fumarolelaw12.LogbookRuns'. -/
def logbookRunsCard : Claim7 := { stood := { row := logbookRunsRow, standIns := [], harness := (true, "e4af0e600dc707d1cda0043eb6d02356b15fe7900dfd728733660a3ca8173e94"), looks := true }, kinds := [], alts := [], laidByText := true, laidKinds := [.data, .data, .data, .data, .sentinel, .sentinel, .pinned], laidTests := true, laidLooks := .later }
def LogbookRunsCardSaid : Prop := Claim7.holds Tryz.pinned (.plain (OpenSpec.ofChange logbookRunsSpec)) logbookRunsCard

/-- THE TIED CARD OF 'fumarolelaw12.LogbookReplays'. -/
def logbookReplaysCard : Claim7 := { stood := { row := logbookReplaysRow, standIns := [], harness := (true, "e4af0e600dc707d1cda0043eb6d02356b15fe7900dfd728733660a3ca8173e94"), looks := true }, kinds := [], alts := [], laidByText := true, laidKinds := [.data, .data, .data, .data, .sentinel, .sentinel, .pinned], laidTests := true, laidLooks := .later }
def LogbookReplaysCardSaid : Prop := Claim7.holds Tryz.pinned (.plain (OpenSpec.ofChange logbookReplaysSpec)) logbookReplaysCard

/-- THE TIED CARD OF 'fumarolelaw12.LogbookWrites'. -/
def logbookWritesCard : Claim7 := { stood := { row := logbookWritesRow, standIns := [], harness := (true, "e4af0e600dc707d1cda0043eb6d02356b15fe7900dfd728733660a3ca8173e94"), looks := true }, kinds := [], alts := [], laidByText := true, laidKinds := [.data, .data, .data, .data, .sentinel, .sentinel, .pinned], laidTests := true, laidLooks := .later }
def LogbookWritesCardSaid : Prop := Claim7.holds Tryz.pinned (.plain (OpenSpec.ofChange logbookWritesSpec)) logbookWritesCard

/-- THE TIED CARD OF 'fumarolelaw12.LogbookStops'. -/
def logbookStopsCard : Claim7 := { stood := { row := logbookStopsRow, standIns := [], harness := (true, "e4af0e600dc707d1cda0043eb6d02356b15fe7900dfd728733660a3ca8173e94"), looks := true }, kinds := [], alts := [], laidByText := true, laidKinds := [.data, .data, .data, .data, .sentinel, .sentinel, .pinned], laidTests := true, laidLooks := .later }
def LogbookStopsCardSaid : Prop := Claim7.holds Tryz.pinned (.plain (OpenSpec.ofChange logbookStopsSpec)) logbookStopsCard

/-- THE TIED CARD OF 'fumarolelaw12.LogbookNames'. -/
def logbookNamesCard : Claim7 := { stood := { row := logbookNamesRow, standIns := [], harness := (true, "e4af0e600dc707d1cda0043eb6d02356b15fe7900dfd728733660a3ca8173e94"), looks := true }, kinds := [], alts := [], laidByText := true, laidKinds := [.data, .data, .data, .data, .sentinel, .sentinel, .pinned], laidTests := true, laidLooks := .later }
def LogbookNamesCardSaid : Prop := Claim7.holds Tryz.pinned (.plain (OpenSpec.ofChange logbookNamesSpec)) logbookNamesCard

/-- THE TIED CARD OF 'fumarolelaw12.LogbookResumes'. -/
def logbookResumesCard : Claim7 := { stood := { row := logbookResumesRow, standIns := [], harness := (true, "e4af0e600dc707d1cda0043eb6d02356b15fe7900dfd728733660a3ca8173e94"), looks := true }, kinds := [], alts := [], laidByText := true, laidKinds := [.data, .data, .data, .data, .sentinel, .sentinel, .pinned], laidTests := true, laidLooks := .later }
def LogbookResumesCardSaid : Prop := Claim7.holds Tryz.pinned (.plain (OpenSpec.ofChange logbookResumesSpec)) logbookResumesCard

/-- THE TIED CARD OF 'fumarolelaw12.LogbookGoesOn'. -/
def logbookGoesOnCard : Claim7 := { stood := { row := logbookGoesOnRow, standIns := [], harness := (true, "e4af0e600dc707d1cda0043eb6d02356b15fe7900dfd728733660a3ca8173e94"), looks := true }, kinds := [], alts := [], laidByText := true, laidKinds := [.data, .data, .data, .data, .sentinel, .sentinel, .pinned], laidTests := true, laidLooks := .later }
def LogbookGoesOnCardSaid : Prop := Claim7.holds Tryz.pinned (.plain (OpenSpec.ofChange logbookGoesOnSpec)) logbookGoesOnCard

/-- THE SECOND FORM's CARD OF 'fumarolelaw12.LogbookFates'. -/
def logbookFatesUptoCard : Claim7 := { stood := { row := logbookFatesUptoRow, standIns := [], harness := (true, "e4af0e600dc707d1cda0043eb6d02356b15fe7900dfd728733660a3ca8173e94"), looks := true }, kinds := [], alts := [], laidByText := true, laidKinds := [.data, .data, .data, .data, .sentinel, .sentinel, .pinned], laidTests := true, laidLooks := .later }
def LogbookFatesUptoCardSaid : Prop := Claim7.holds Tryz.pinned (.plain (OpenSpec.upto logbookFatesSpec)) logbookFatesUptoCard

/-- THE SECOND FORM's CARD OF 'fumarolelaw12.LogbookDepends'. -/
def logbookDependsUptoCard : Claim7 := { stood := { row := logbookDependsUptoRow, standIns := [], harness := (true, "e4af0e600dc707d1cda0043eb6d02356b15fe7900dfd728733660a3ca8173e94"), looks := true }, kinds := [], alts := [], laidByText := true, laidKinds := [.data, .data, .data, .data, .sentinel, .sentinel, .pinned], laidTests := true, laidLooks := .later }
def LogbookDependsUptoCardSaid : Prop := Claim7.holds Tryz.pinned (.plain (OpenSpec.upto logbookDependsSpec)) logbookDependsUptoCard

/-- THE SECOND FORM's CARD OF 'fumarolelaw12.LogbookReports'. -/
def logbookReportsUptoCard : Claim7 := { stood := { row := logbookReportsUptoRow, standIns := [], harness := (true, "e4af0e600dc707d1cda0043eb6d02356b15fe7900dfd728733660a3ca8173e94"), looks := true }, kinds := [], alts := [], laidByText := true, laidKinds := [.data, .data, .data, .data, .sentinel, .sentinel, .pinned], laidTests := true, laidLooks := .later }
def LogbookReportsUptoCardSaid : Prop := Claim7.holds Tryz.pinned (.plain (OpenSpec.upto logbookReportsSpec)) logbookReportsUptoCard

/-- THE SECOND FORM's CARD OF 'fumarolelaw12.LogbookReasons'. -/
def logbookReasonsUptoCard : Claim7 := { stood := { row := logbookReasonsUptoRow, standIns := [], harness := (true, "e4af0e600dc707d1cda0043eb6d02356b15fe7900dfd728733660a3ca8173e94"), looks := true }, kinds := [], alts := [], laidByText := true, laidKinds := [.data, .data, .data, .data, .sentinel, .sentinel, .pinned], laidTests := true, laidLooks := .later }
def LogbookReasonsUptoCardSaid : Prop := Claim7.holds Tryz.pinned (.plain (OpenSpec.upto logbookReasonsSpec)) logbookReasonsUptoCard

/-- THE SECOND FORM's CARD OF 'fumarolelaw12.LogbookLights'. -/
def logbookLightsUptoCard : Claim7 := { stood := { row := logbookLightsUptoRow, standIns := [], harness := (true, "e4af0e600dc707d1cda0043eb6d02356b15fe7900dfd728733660a3ca8173e94"), looks := true }, kinds := [], alts := [], laidByText := true, laidKinds := [.data, .data, .data, .data, .sentinel, .sentinel, .pinned], laidTests := true, laidLooks := .later }
def LogbookLightsUptoCardSaid : Prop := Claim7.holds Tryz.pinned (.plain (OpenSpec.upto logbookLightsSpec)) logbookLightsUptoCard

/-- THE SECOND FORM's CARD OF 'fumarolelaw12.LogbookSells'. -/
def logbookSellsUptoCard : Claim7 := { stood := { row := logbookSellsUptoRow, standIns := [], harness := (true, "e4af0e600dc707d1cda0043eb6d02356b15fe7900dfd728733660a3ca8173e94"), looks := true }, kinds := [], alts := [], laidByText := true, laidKinds := [.data, .data, .data, .data, .sentinel, .sentinel, .pinned], laidTests := true, laidLooks := .later }
def LogbookSellsUptoCardSaid : Prop := Claim7.holds Tryz.pinned (.plain (OpenSpec.upto logbookSellsSpec)) logbookSellsUptoCard

/-- THE SECOND FORM's CARD OF 'fumarolelaw12.LogbookRuns'. -/
def logbookRunsUptoCard : Claim7 := { stood := { row := logbookRunsUptoRow, standIns := [], harness := (true, "e4af0e600dc707d1cda0043eb6d02356b15fe7900dfd728733660a3ca8173e94"), looks := true }, kinds := [], alts := [], laidByText := true, laidKinds := [.data, .data, .data, .data, .sentinel, .sentinel, .pinned], laidTests := true, laidLooks := .later }
def LogbookRunsUptoCardSaid : Prop := Claim7.holds Tryz.pinned (.plain (OpenSpec.upto logbookRunsSpec)) logbookRunsUptoCard

/-- THE SECOND FORM's CARD OF 'fumarolelaw12.LogbookReplays'. -/
def logbookReplaysUptoCard : Claim7 := { stood := { row := logbookReplaysUptoRow, standIns := [], harness := (true, "e4af0e600dc707d1cda0043eb6d02356b15fe7900dfd728733660a3ca8173e94"), looks := true }, kinds := [], alts := [], laidByText := true, laidKinds := [.data, .data, .data, .data, .sentinel, .sentinel, .pinned], laidTests := true, laidLooks := .later }
def LogbookReplaysUptoCardSaid : Prop := Claim7.holds Tryz.pinned (.plain (OpenSpec.upto logbookReplaysSpec)) logbookReplaysUptoCard

/-- THE SECOND FORM's CARD OF 'fumarolelaw12.LogbookWrites'. -/
def logbookWritesUptoCard : Claim7 := { stood := { row := logbookWritesUptoRow, standIns := [], harness := (true, "e4af0e600dc707d1cda0043eb6d02356b15fe7900dfd728733660a3ca8173e94"), looks := true }, kinds := [], alts := [], laidByText := true, laidKinds := [.data, .data, .data, .data, .sentinel, .sentinel, .pinned], laidTests := true, laidLooks := .later }
def LogbookWritesUptoCardSaid : Prop := Claim7.holds Tryz.pinned (.plain (OpenSpec.upto logbookWritesSpec)) logbookWritesUptoCard

/-- THE SECOND FORM's CARD OF 'fumarolelaw12.LogbookStops'. -/
def logbookStopsUptoCard : Claim7 := { stood := { row := logbookStopsUptoRow, standIns := [], harness := (true, "e4af0e600dc707d1cda0043eb6d02356b15fe7900dfd728733660a3ca8173e94"), looks := true }, kinds := [], alts := [], laidByText := true, laidKinds := [.data, .data, .data, .data, .sentinel, .sentinel, .pinned], laidTests := true, laidLooks := .later }
def LogbookStopsUptoCardSaid : Prop := Claim7.holds Tryz.pinned (.plain (OpenSpec.upto logbookStopsSpec)) logbookStopsUptoCard

/-- THE SECOND FORM's CARD OF 'fumarolelaw12.LogbookNames'. -/
def logbookNamesUptoCard : Claim7 := { stood := { row := logbookNamesUptoRow, standIns := [], harness := (true, "e4af0e600dc707d1cda0043eb6d02356b15fe7900dfd728733660a3ca8173e94"), looks := true }, kinds := [], alts := [], laidByText := true, laidKinds := [.data, .data, .data, .data, .sentinel, .sentinel, .pinned], laidTests := true, laidLooks := .later }
def LogbookNamesUptoCardSaid : Prop := Claim7.holds Tryz.pinned (.plain (OpenSpec.upto logbookNamesSpec)) logbookNamesUptoCard

/-- THE SECOND FORM's CARD OF 'fumarolelaw12.LogbookResumes'. -/
def logbookResumesUptoCard : Claim7 := { stood := { row := logbookResumesUptoRow, standIns := [], harness := (true, "e4af0e600dc707d1cda0043eb6d02356b15fe7900dfd728733660a3ca8173e94"), looks := true }, kinds := [], alts := [], laidByText := true, laidKinds := [.data, .data, .data, .data, .sentinel, .sentinel, .pinned], laidTests := true, laidLooks := .later }
def LogbookResumesUptoCardSaid : Prop := Claim7.holds Tryz.pinned (.plain (OpenSpec.upto logbookResumesSpec)) logbookResumesUptoCard

/-- THE SECOND FORM's CARD OF 'fumarolelaw12.LogbookGoesOn'. -/
def logbookGoesOnUptoCard : Claim7 := { stood := { row := logbookGoesOnUptoRow, standIns := [], harness := (true, "e4af0e600dc707d1cda0043eb6d02356b15fe7900dfd728733660a3ca8173e94"), looks := true }, kinds := [], alts := [], laidByText := true, laidKinds := [.data, .data, .data, .data, .sentinel, .sentinel, .pinned], laidTests := true, laidLooks := .later }
def LogbookGoesOnUptoCardSaid : Prop := Claim7.holds Tryz.pinned (.plain (OpenSpec.upto logbookGoesOnSpec)) logbookGoesOnUptoCard
end Rows
end Go.Proofs.YtfgljaglidhjiaaGreatDoor
