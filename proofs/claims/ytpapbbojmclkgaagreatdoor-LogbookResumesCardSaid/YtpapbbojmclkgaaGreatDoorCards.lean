/-
  DERIVED. GIVEN WITH THE SEED: THE CARDS: each row of YtpapbbojmclkgaaGreatDoorRows.lean that lists a variable, with what it lists TIED to the program's text (the seventh form; the later family's looks); each row that meets fmt, with fmt's text TOLD by the authors' own Lean function (tested against real Go, not proved from fmt's source: count such statements apart). THE CARD IS WHAT COUNTS. Prove the row's statement (the work); the ties are given (YtpapbbojmclkgaaGreatDoorTie.lean); close each card by the builder's one call (the guide's Derived/Test/ToyasCard.lean, 'card_holds'). Laid BY PROGRAM, IN A SANDBOX (cutbox-door.mjs). By AI agents, Wed Nov 11 2026. No macro, syntax, notation, axiom, sorry.
-/
import Derived.Test.YtpapbbojmclkgaaGreatDoorRows
import GoSem.ClaimSeven
namespace Go.Proofs.YtpapbbojmclkgaaGreatDoor
namespace Rows

/-- THE TIED CARD OF 'fumarolelaw12.LogbookFates'. -/
def logbookFatesCard : Claim7 := { stood := { row := logbookFatesRow, standIns := [], harness := (true, "e74012a85a76613f41f5a5caea9c2e91984ae5b10bf66cfe07d86d3cb09fbb06"), looks := true }, kinds := [], alts := [], laidByText := true, laidKinds := [.data, .data, .data, .data, .sentinel, .sentinel, .pinned], laidTests := true, laidLooks := .later }
def LogbookFatesCardSaid : Prop := Claim7.holds Tryz.pinned (.plain (OpenSpec.ofChange logbookFatesSpec)) logbookFatesCard

/-- THE TIED CARD OF 'fumarolelaw12.LogbookDepends'. -/
def logbookDependsCard : Claim7 := { stood := { row := logbookDependsRow, standIns := [], harness := (true, "e74012a85a76613f41f5a5caea9c2e91984ae5b10bf66cfe07d86d3cb09fbb06"), looks := true }, kinds := [], alts := [], laidByText := true, laidKinds := [.data, .data, .data, .data, .sentinel, .sentinel, .pinned], laidTests := true, laidLooks := .later }
def LogbookDependsCardSaid : Prop := Claim7.holds Tryz.pinned (.plain (OpenSpec.ofChange logbookDependsSpec)) logbookDependsCard

/-- THE TIED CARD OF 'fumarolelaw12.LogbookReports'. -/
def logbookReportsCard : Claim7 := { stood := { row := logbookReportsRow, standIns := [], harness := (true, "e74012a85a76613f41f5a5caea9c2e91984ae5b10bf66cfe07d86d3cb09fbb06"), looks := true }, kinds := [], alts := [], laidByText := true, laidKinds := [.data, .data, .data, .data, .sentinel, .sentinel, .pinned], laidTests := true, laidLooks := .later }
def LogbookReportsCardSaid : Prop := Claim7.holds Tryz.pinned (.plain (OpenSpec.ofChange logbookReportsSpec)) logbookReportsCard

/-- THE TIED CARD OF 'fumarolelaw12.LogbookRuns'. -/
def logbookRunsCard : Claim7 := { stood := { row := logbookRunsRow, standIns := [], harness := (true, "e74012a85a76613f41f5a5caea9c2e91984ae5b10bf66cfe07d86d3cb09fbb06"), looks := true }, kinds := [], alts := [], laidByText := true, laidKinds := [.data, .data, .data, .data, .sentinel, .sentinel, .pinned], laidTests := true, laidLooks := .later }
def LogbookRunsCardSaid : Prop := Claim7.holds Tryz.pinned (.plain (OpenSpec.ofChange logbookRunsSpec)) logbookRunsCard

/-- THE TIED CARD OF 'fumarolelaw12.LogbookResumes'. -/
def logbookResumesCard : Claim7 := { stood := { row := logbookResumesRow, standIns := [], harness := (true, "e74012a85a76613f41f5a5caea9c2e91984ae5b10bf66cfe07d86d3cb09fbb06"), looks := true }, kinds := [], alts := [], laidByText := true, laidKinds := [.data, .data, .data, .data, .sentinel, .sentinel, .pinned], laidTests := true, laidLooks := .later }
def LogbookResumesCardSaid : Prop := Claim7.holds Tryz.pinned (.plain (OpenSpec.ofChange logbookResumesSpec)) logbookResumesCard

/-- THE SECOND FORM's CARD OF 'fumarolelaw12.LogbookFates'. -/
def logbookFatesUptoCard : Claim7 := { stood := { row := logbookFatesUptoRow, standIns := [], harness := (true, "e74012a85a76613f41f5a5caea9c2e91984ae5b10bf66cfe07d86d3cb09fbb06"), looks := true }, kinds := [], alts := [], laidByText := true, laidKinds := [.data, .data, .data, .data, .sentinel, .sentinel, .pinned], laidTests := true, laidLooks := .later }
def LogbookFatesUptoCardSaid : Prop := Claim7.holds Tryz.pinned (.plain (OpenSpec.upto logbookFatesSpec)) logbookFatesUptoCard

/-- THE SECOND FORM's CARD OF 'fumarolelaw12.LogbookDepends'. -/
def logbookDependsUptoCard : Claim7 := { stood := { row := logbookDependsUptoRow, standIns := [], harness := (true, "e74012a85a76613f41f5a5caea9c2e91984ae5b10bf66cfe07d86d3cb09fbb06"), looks := true }, kinds := [], alts := [], laidByText := true, laidKinds := [.data, .data, .data, .data, .sentinel, .sentinel, .pinned], laidTests := true, laidLooks := .later }
def LogbookDependsUptoCardSaid : Prop := Claim7.holds Tryz.pinned (.plain (OpenSpec.upto logbookDependsSpec)) logbookDependsUptoCard

/-- THE SECOND FORM's CARD OF 'fumarolelaw12.LogbookReports'. -/
def logbookReportsUptoCard : Claim7 := { stood := { row := logbookReportsUptoRow, standIns := [], harness := (true, "e74012a85a76613f41f5a5caea9c2e91984ae5b10bf66cfe07d86d3cb09fbb06"), looks := true }, kinds := [], alts := [], laidByText := true, laidKinds := [.data, .data, .data, .data, .sentinel, .sentinel, .pinned], laidTests := true, laidLooks := .later }
def LogbookReportsUptoCardSaid : Prop := Claim7.holds Tryz.pinned (.plain (OpenSpec.upto logbookReportsSpec)) logbookReportsUptoCard

/-- THE SECOND FORM's CARD OF 'fumarolelaw12.LogbookRuns'. -/
def logbookRunsUptoCard : Claim7 := { stood := { row := logbookRunsUptoRow, standIns := [], harness := (true, "e74012a85a76613f41f5a5caea9c2e91984ae5b10bf66cfe07d86d3cb09fbb06"), looks := true }, kinds := [], alts := [], laidByText := true, laidKinds := [.data, .data, .data, .data, .sentinel, .sentinel, .pinned], laidTests := true, laidLooks := .later }
def LogbookRunsUptoCardSaid : Prop := Claim7.holds Tryz.pinned (.plain (OpenSpec.upto logbookRunsSpec)) logbookRunsUptoCard

/-- THE SECOND FORM's CARD OF 'fumarolelaw12.LogbookResumes'. -/
def logbookResumesUptoCard : Claim7 := { stood := { row := logbookResumesUptoRow, standIns := [], harness := (true, "e74012a85a76613f41f5a5caea9c2e91984ae5b10bf66cfe07d86d3cb09fbb06"), looks := true }, kinds := [], alts := [], laidByText := true, laidKinds := [.data, .data, .data, .data, .sentinel, .sentinel, .pinned], laidTests := true, laidLooks := .later }
def LogbookResumesUptoCardSaid : Prop := Claim7.holds Tryz.pinned (.plain (OpenSpec.upto logbookResumesSpec)) logbookResumesUptoCard
end Rows
end Go.Proofs.YtpapbbojmclkgaaGreatDoor
