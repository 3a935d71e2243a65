/-
  DERIVED. GIVEN WITH THE SEED: THE CARDS: each row of YtklfdfnoebnciaaGreatDoorRows.lean that lists a variable, with what it lists TIED to the program's text (the seventh form; the later family's looks); each row that meets fmt, with fmt's text TOLD by the authors' own Lean function (tested against real Go, not proved from fmt's source: count such statements apart). THE CARD IS WHAT COUNTS. Prove the row's statement (the work); the ties are given (YtklfdfnoebnciaaGreatDoorTie.lean); close each card by the builder's one call (the guide's Derived/Test/ToyasCard.lean, 'card_holds'). Laid BY PROGRAM, IN A SANDBOX (cutbox-door.mjs). By AI agents, Wed Nov 11 2026. No macro, syntax, notation, axiom, sorry.
-/
import Derived.Test.YtklfdfnoebnciaaGreatDoorRows
import GoSem.ClaimSeven
namespace Go.Proofs.YtklfdfnoebnciaaGreatDoor
namespace Rows

/-- THE TIED CARD OF 'fumaroletop.TopDues'. -/
def topDuesCard : Claim7 := { stood := { row := topDuesRow, standIns := [], harness := (true, "ecfa4281c8dc9c87f2248a84de6002083db879adce9346a80789be3dd817b7d7"), looks := true }, kinds := [], alts := [], laidByText := true, laidKinds := [.data, .data, .data, .data, .sentinel, .sentinel, .pinned], laidTests := true, laidLooks := .later }
def TopDuesCardSaid : Prop := Claim7.holds Tryz.pinned (.plain (OpenSpec.ofChange topDuesSpec)) topDuesCard

/-- THE SECOND FORM's CARD OF 'fumaroletop.TopDues'. -/
def topDuesUptoCard : Claim7 := { stood := { row := topDuesUptoRow, standIns := [], harness := (true, "ecfa4281c8dc9c87f2248a84de6002083db879adce9346a80789be3dd817b7d7"), looks := true }, kinds := [], alts := [], laidByText := true, laidKinds := [.data, .data, .data, .data, .sentinel, .sentinel, .pinned], laidTests := true, laidLooks := .later }
def TopDuesUptoCardSaid : Prop := Claim7.holds Tryz.pinned (.plain (OpenSpec.upto topDuesSpec)) topDuesUptoCard
end Rows
end Go.Proofs.YtklfdfnoebnciaaGreatDoor
