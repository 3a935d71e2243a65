/-
  No cell of these rows narrows 'for every input' (looked for: loops, veiled, ifaces, maps, wideKeys, modest, calm, conditions, laid).
  DERIVED. THE GIVEN ROWS OF THIS SEAT. 12 by the template 'for every input the law returns true; each argument reads behind the call as it read before'; 0 by the template 'total and deterministic' (their statements: YticpenoicajakaaTotals.lean).
  GIVEN WITH THE SEED: the statements are not yours to turn. If you find one false, say at which input.
  Laid BY PROGRAM, IN A SANDBOX (cutbox-rows.mjs): the forced cells as the released guide's own fill.sh prints them over the translation 1e8daa23f6fc3729… (all of the seat's roots in one cut). By AI agents, Wed Nov 11 2026. No macro, syntax, notation, axiom, sorry.
-/
import Derived.Test.YticpenoicajakaaChecked
import GoSem.Claim
import GoSem.ClaimJoined
import GoSem.ClaimMapViews
import Derived.JoinedTies
import Derived.KernelRfl
namespace Go.Proofs.Yticpenoicajakaa
/- THE CELL 'sum', in the pinned program and in every row, IS THE sha256 OF THE DUMP (.gsa) THAT YticpenoicajakaaProg.lean LOADS. Nothing in Lean hashes anything: it is a label: what it is worth is what the hold of that sum in a sandbox is worth. -/
noncomputable def Try.pinned : Pinned := { name := "yticpenoicajakaa", sum := "1e8daa23f6fc3729b326effde4b98d2f5384bc9780251d91459f7f1f08176b2f", checked := Try.checked }
namespace Rows
def none {H : Type} : Left H := { results := [], args := [] }

/-- 'fumarolelaw09.TremorLocates': WHATEVER THE INPUT: true; the input reads as it did. -/
def tremorLocatesSpec : ChangeSpec := { name := "tremorLocates", fn := fun _ => fun
  | [d1, d2] => { results := [.lit (.bool true)], args := [d1, d2] }
  | _ => none }
def tremorLocatesRow : OpenClaim := { program := "yticpenoicajakaa", sum := "1e8daa23f6fc3729b326effde4b98d2f5384bc9780251d91459f7f1f08176b2f", func := "fumarole/fumarolelaw09.TremorLocates", spec := "tremorLocates", unfollowed := true, recurses := true, apart := false }
def TremorLocatesSaid : Prop := tremorLocatesRow.holds Try.pinned (OpenSpec.ofChange tremorLocatesSpec)

/-- ITS FALSE NEIGHBOUR: 'it returns false'. Refute it at one input. -/
def tremorLocatesWrong : ChangeSpec := { name := "tremorLocates", fn := fun _ => fun
  | [d1, d2] => { results := [.lit (.bool false)], args := [d1, d2] }
  | _ => none }
def TremorLocatesWrongFalsely : Prop := tremorLocatesRow.holds Try.pinned (OpenSpec.ofChange tremorLocatesWrong)

/-- 'fumarolelaw09.TremorSizes': WHATEVER THE INPUT: true; the input reads as it did. -/
def tremorSizesSpec : ChangeSpec := { name := "tremorSizes", fn := fun _ => fun
  | [d1, d2, d3, d4] => { results := [.lit (.bool true)], args := [d1, d2, d3, d4] }
  | _ => none }
def tremorSizesRow : OpenClaim := { program := "yticpenoicajakaa", sum := "1e8daa23f6fc3729b326effde4b98d2f5384bc9780251d91459f7f1f08176b2f", func := "fumarole/fumarolelaw09.TremorSizes", spec := "tremorSizes", unfollowed := true, recurses := true, apart := false }
def TremorSizesSaid : Prop := tremorSizesRow.holds Try.pinned (OpenSpec.ofChange tremorSizesSpec)

/-- ITS FALSE NEIGHBOUR: 'it returns false'. Refute it at one input. -/
def tremorSizesWrong : ChangeSpec := { name := "tremorSizes", fn := fun _ => fun
  | [d1, d2, d3, d4] => { results := [.lit (.bool false)], args := [d1, d2, d3, d4] }
  | _ => none }
def TremorSizesWrongFalsely : Prop := tremorSizesRow.holds Try.pinned (OpenSpec.ofChange tremorSizesWrong)

/-- 'fumarolelaw09.TremorInjects': WHATEVER THE INPUT: true; the input reads as it did. -/
def tremorInjectsSpec : ChangeSpec := { name := "tremorInjects", fn := fun _ => fun
  | [d1, d2, d3, d4] => { results := [.lit (.bool true)], args := [d1, d2, d3, d4] }
  | _ => none }
def tremorInjectsRow : OpenClaim := { program := "yticpenoicajakaa", sum := "1e8daa23f6fc3729b326effde4b98d2f5384bc9780251d91459f7f1f08176b2f", func := "fumarole/fumarolelaw09.TremorInjects", spec := "tremorInjects", unfollowed := true, recurses := true, apart := false }
def TremorInjectsSaid : Prop := tremorInjectsRow.holds Try.pinned (OpenSpec.ofChange tremorInjectsSpec)

/-- ITS FALSE NEIGHBOUR: 'it returns false'. Refute it at one input. -/
def tremorInjectsWrong : ChangeSpec := { name := "tremorInjects", fn := fun _ => fun
  | [d1, d2, d3, d4] => { results := [.lit (.bool false)], args := [d1, d2, d3, d4] }
  | _ => none }
def TremorInjectsWrongFalsely : Prop := tremorInjectsRow.holds Try.pinned (OpenSpec.ofChange tremorInjectsWrong)

/-- 'fumarolelaw09.TremorKeeps': WHATEVER THE INPUT: true; the input reads as it did. -/
def tremorKeepsSpec : ChangeSpec := { name := "tremorKeeps", fn := fun _ => fun
  | [d1, d2, d3, d4, d5] => { results := [.lit (.bool true)], args := [d1, d2, d3, d4, d5] }
  | _ => none }
def tremorKeepsRow : OpenClaim := { program := "yticpenoicajakaa", sum := "1e8daa23f6fc3729b326effde4b98d2f5384bc9780251d91459f7f1f08176b2f", func := "fumarole/fumarolelaw09.TremorKeeps", spec := "tremorKeeps", unfollowed := true, recurses := true, apart := false }
def TremorKeepsSaid : Prop := tremorKeepsRow.holds Try.pinned (OpenSpec.ofChange tremorKeepsSpec)

/-- ITS FALSE NEIGHBOUR: 'it returns false'. Refute it at one input. -/
def tremorKeepsWrong : ChangeSpec := { name := "tremorKeeps", fn := fun _ => fun
  | [d1, d2, d3, d4, d5] => { results := [.lit (.bool false)], args := [d1, d2, d3, d4, d5] }
  | _ => none }
def TremorKeepsWrongFalsely : Prop := tremorKeepsRow.holds Try.pinned (OpenSpec.ofChange tremorKeepsWrong)

/-- 'fumarolelaw09.TremorEases': WHATEVER THE INPUT: true; the input reads as it did. -/
def tremorEasesSpec : ChangeSpec := { name := "tremorEases", fn := fun _ => fun
  | [d1, d2, d3, d4, d5] => { results := [.lit (.bool true)], args := [d1, d2, d3, d4, d5] }
  | _ => none }
def tremorEasesRow : OpenClaim := { program := "yticpenoicajakaa", sum := "1e8daa23f6fc3729b326effde4b98d2f5384bc9780251d91459f7f1f08176b2f", func := "fumarole/fumarolelaw09.TremorEases", spec := "tremorEases", unfollowed := true, recurses := true, apart := false }
def TremorEasesSaid : Prop := tremorEasesRow.holds Try.pinned (OpenSpec.ofChange tremorEasesSpec)

/-- ITS FALSE NEIGHBOUR: 'it returns false'. Refute it at one input. -/
def tremorEasesWrong : ChangeSpec := { name := "tremorEases", fn := fun _ => fun
  | [d1, d2, d3, d4, d5] => { results := [.lit (.bool false)], args := [d1, d2, d3, d4, d5] }
  | _ => none }
def TremorEasesWrongFalsely : Prop := tremorEasesRow.holds Try.pinned (OpenSpec.ofChange tremorEasesWrong)

/-- 'fumarolelaw09.TremorLouder': WHATEVER THE INPUT: true; the input reads as it did. -/
def tremorLouderSpec : ChangeSpec := { name := "tremorLouder", fn := fun _ => fun
  | [d1, d2, d3, d4, d5, d6] => { results := [.lit (.bool true)], args := [d1, d2, d3, d4, d5, d6] }
  | _ => none }
def tremorLouderRow : OpenClaim := { program := "yticpenoicajakaa", sum := "1e8daa23f6fc3729b326effde4b98d2f5384bc9780251d91459f7f1f08176b2f", func := "fumarole/fumarolelaw09.TremorLouder", spec := "tremorLouder", unfollowed := true, recurses := true, apart := false }
def TremorLouderSaid : Prop := tremorLouderRow.holds Try.pinned (OpenSpec.ofChange tremorLouderSpec)

/-- ITS FALSE NEIGHBOUR: 'it returns false'. Refute it at one input. -/
def tremorLouderWrong : ChangeSpec := { name := "tremorLouder", fn := fun _ => fun
  | [d1, d2, d3, d4, d5, d6] => { results := [.lit (.bool false)], args := [d1, d2, d3, d4, d5, d6] }
  | _ => none }
def TremorLouderWrongFalsely : Prop := tremorLouderRow.holds Try.pinned (OpenSpec.ofChange tremorLouderWrong)

/-- 'fumarolelaw09.TremorTravels': WHATEVER THE INPUT: true; the input reads as it did. -/
def tremorTravelsSpec : ChangeSpec := { name := "tremorTravels", fn := fun _ => fun
  | [d1, d2, d3, d4] => { results := [.lit (.bool true)], args := [d1, d2, d3, d4] }
  | _ => none }
def tremorTravelsRow : OpenClaim := { program := "yticpenoicajakaa", sum := "1e8daa23f6fc3729b326effde4b98d2f5384bc9780251d91459f7f1f08176b2f", func := "fumarole/fumarolelaw09.TremorTravels", spec := "tremorTravels", unfollowed := true, recurses := true, apart := false }
def TremorTravelsSaid : Prop := tremorTravelsRow.holds Try.pinned (OpenSpec.ofChange tremorTravelsSpec)

/-- ITS FALSE NEIGHBOUR: 'it returns false'. Refute it at one input. -/
def tremorTravelsWrong : ChangeSpec := { name := "tremorTravels", fn := fun _ => fun
  | [d1, d2, d3, d4] => { results := [.lit (.bool false)], args := [d1, d2, d3, d4] }
  | _ => none }
def TremorTravelsWrongFalsely : Prop := tremorTravelsRow.holds Try.pinned (OpenSpec.ofChange tremorTravelsWrong)

/-- 'fumarolelaw09.TremorBets': WHATEVER THE INPUT: true; the input reads as it did. -/
def tremorBetsSpec : ChangeSpec := { name := "tremorBets", fn := fun _ => fun
  | [d1, d2] => { results := [.lit (.bool true)], args := [d1, d2] }
  | _ => none }
def tremorBetsRow : OpenClaim := { program := "yticpenoicajakaa", sum := "1e8daa23f6fc3729b326effde4b98d2f5384bc9780251d91459f7f1f08176b2f", func := "fumarole/fumarolelaw09.TremorBets", spec := "tremorBets", unfollowed := true, recurses := true, apart := false }
def TremorBetsSaid : Prop := tremorBetsRow.holds Try.pinned (OpenSpec.ofChange tremorBetsSpec)

/-- ITS FALSE NEIGHBOUR: 'it returns false'. Refute it at one input. -/
def tremorBetsWrong : ChangeSpec := { name := "tremorBets", fn := fun _ => fun
  | [d1, d2] => { results := [.lit (.bool false)], args := [d1, d2] }
  | _ => none }
def TremorBetsWrongFalsely : Prop := tremorBetsRow.holds Try.pinned (OpenSpec.ofChange tremorBetsWrong)

/-- 'fumarolelaw09.TremorOdds': WHATEVER THE INPUT: true; the input reads as it did. -/
def tremorOddsSpec : ChangeSpec := { name := "tremorOdds", fn := fun _ => fun
  | [d1, d2] => { results := [.lit (.bool true)], args := [d1, d2] }
  | _ => none }
def tremorOddsRow : OpenClaim := { program := "yticpenoicajakaa", sum := "1e8daa23f6fc3729b326effde4b98d2f5384bc9780251d91459f7f1f08176b2f", func := "fumarole/fumarolelaw09.TremorOdds", spec := "tremorOdds", unfollowed := true, recurses := true, apart := false }
def TremorOddsSaid : Prop := tremorOddsRow.holds Try.pinned (OpenSpec.ofChange tremorOddsSpec)

/-- ITS FALSE NEIGHBOUR: 'it returns false'. Refute it at one input. -/
def tremorOddsWrong : ChangeSpec := { name := "tremorOdds", fn := fun _ => fun
  | [d1, d2] => { results := [.lit (.bool false)], args := [d1, d2] }
  | _ => none }
def TremorOddsWrongFalsely : Prop := tremorOddsRow.holds Try.pinned (OpenSpec.ofChange tremorOddsWrong)

/-- 'fumarolelaw09.TremorEither': WHATEVER THE INPUT: true; the input reads as it did. -/
def tremorEitherSpec : ChangeSpec := { name := "tremorEither", fn := fun _ => fun
  | [d1, d2, d3] => { results := [.lit (.bool true)], args := [d1, d2, d3] }
  | _ => none }
def tremorEitherRow : OpenClaim := { program := "yticpenoicajakaa", sum := "1e8daa23f6fc3729b326effde4b98d2f5384bc9780251d91459f7f1f08176b2f", func := "fumarole/fumarolelaw09.TremorEither", spec := "tremorEither", unfollowed := true, recurses := true, apart := false }
def TremorEitherSaid : Prop := tremorEitherRow.holds Try.pinned (OpenSpec.ofChange tremorEitherSpec)

/-- ITS FALSE NEIGHBOUR: 'it returns false'. Refute it at one input. -/
def tremorEitherWrong : ChangeSpec := { name := "tremorEither", fn := fun _ => fun
  | [d1, d2, d3] => { results := [.lit (.bool false)], args := [d1, d2, d3] }
  | _ => none }
def TremorEitherWrongFalsely : Prop := tremorEitherRow.holds Try.pinned (OpenSpec.ofChange tremorEitherWrong)

/-- 'fumarolelaw09.TremorReasons': WHATEVER THE INPUT: true; the input reads as it did. -/
def tremorReasonsSpec : ChangeSpec := { name := "tremorReasons", fn := fun _ => fun
  | [d1, d2, d3, d4, d5, d6, d7] => { results := [.lit (.bool true)], args := [d1, d2, d3, d4, d5, d6, d7] }
  | _ => none }
def tremorReasonsRow : OpenClaim := { program := "yticpenoicajakaa", sum := "1e8daa23f6fc3729b326effde4b98d2f5384bc9780251d91459f7f1f08176b2f", func := "fumarole/fumarolelaw09.TremorReasons", spec := "tremorReasons", unfollowed := true, recurses := true, apart := false }
def TremorReasonsSaid : Prop := tremorReasonsRow.holds Try.pinned (OpenSpec.ofChange tremorReasonsSpec)

/-- ITS FALSE NEIGHBOUR: 'it returns false'. Refute it at one input. -/
def tremorReasonsWrong : ChangeSpec := { name := "tremorReasons", fn := fun _ => fun
  | [d1, d2, d3, d4, d5, d6, d7] => { results := [.lit (.bool false)], args := [d1, d2, d3, d4, d5, d6, d7] }
  | _ => none }
def TremorReasonsWrongFalsely : Prop := tremorReasonsRow.holds Try.pinned (OpenSpec.ofChange tremorReasonsWrong)

/-- 'fumarolelaw09.TremorNames': WHATEVER THE INPUT: true; the input reads as it did. -/
def tremorNamesSpec : ChangeSpec := { name := "tremorNames", fn := fun _ => fun
  | [] => { results := [.lit (.bool true)], args := [] }
  | _ => none }
def tremorNamesRow : OpenClaim := { program := "yticpenoicajakaa", sum := "1e8daa23f6fc3729b326effde4b98d2f5384bc9780251d91459f7f1f08176b2f", func := "fumarole/fumarolelaw09.TremorNames", spec := "tremorNames", unfollowed := true, recurses := true, apart := false }
def TremorNamesSaid : Prop := tremorNamesRow.holds Try.pinned (OpenSpec.ofChange tremorNamesSpec)

/-- ITS FALSE NEIGHBOUR: 'it returns false'. Refute it at one input. -/
def tremorNamesWrong : ChangeSpec := { name := "tremorNames", fn := fun _ => fun
  | [] => { results := [.lit (.bool false)], args := [] }
  | _ => none }
def TremorNamesWrongFalsely : Prop := tremorNamesRow.holds Try.pinned (OpenSpec.ofChange tremorNamesWrong)

/- THE SECOND FORM. 'bulk': how many values and letters a reading holds, each counted each time it is reached (what is shared counts as often as it is met; a slice's spare places count too). A statement '..UptoSaid' is the law's where the arguments, and the package variables that the reading takes, are together of bulk at most 1048576: NARROWER than '..Said'. Prove '..Said' where nothing that the law and all that it calls make is longer than what came in: it says more and counts as full. Else prove '..UptoSaid'. A law counts once. -/
mutual
def uptoBulk {H : Type} : DataW H → Nat
  | .lit (.string bytes) => bytes.length + 1
  | .lit _ => 1
  | .nil => 1
  | .ptr d => uptoBulk d + 1
  | .slice elems spare => uptoBulkAll elems + uptoBulkAll spare + 1
  | .agg parts => uptoBulkAll parts + 1
  | .iface _ d => uptoBulk d + 1
  | .map entries => uptoBulkEntries entries + 1
  | .held _ => 1
def uptoBulkAll {H : Type} : List (DataW H) → Nat
  | [] => 0
  | d :: r => uptoBulk d + uptoBulkAll r
def uptoBulkEntries {H : Type} : List (Lit × DataW H) → Nat
  | [] => 0
  | x :: r => uptoBulkEntry x + uptoBulkEntries r
def uptoBulkEntry {H : Type} : Lit × DataW H → Nat
  | (.string bytes, d) => bytes.length + uptoBulk d + 1
  | (_, d) => uptoBulk d + 1
 end
def uptoSmall : (H : Type) → List (DataW H) → Bool := fun _ ds => decide (uptoBulkAll ds ≤ 1048576)
def OpenSpec.upto (s : _root_.Go.ChangeSpec) : _root_.Go.OpenSpec := { _root_.Go.OpenSpec.ofChange s with cond := some uptoSmall }

/-- 'fumarolelaw09.TremorLocates', WHERE WHAT IT READS IS OF BULK AT MOST 1048576: true; the input reads as it did. -/
def tremorLocatesUptoRow : OpenClaim := { program := "yticpenoicajakaa", sum := "1e8daa23f6fc3729b326effde4b98d2f5384bc9780251d91459f7f1f08176b2f", func := "fumarole/fumarolelaw09.TremorLocates", spec := "tremorLocates", unfollowed := true, recurses := true, apart := false, narrowed := true }
def TremorLocatesUptoSaid : Prop := tremorLocatesUptoRow.holds Try.pinned (OpenSpec.upto tremorLocatesSpec)

/-- 'fumarolelaw09.TremorSizes', WHERE WHAT IT READS IS OF BULK AT MOST 1048576: true; the input reads as it did. -/
def tremorSizesUptoRow : OpenClaim := { program := "yticpenoicajakaa", sum := "1e8daa23f6fc3729b326effde4b98d2f5384bc9780251d91459f7f1f08176b2f", func := "fumarole/fumarolelaw09.TremorSizes", spec := "tremorSizes", unfollowed := true, recurses := true, apart := false, narrowed := true }
def TremorSizesUptoSaid : Prop := tremorSizesUptoRow.holds Try.pinned (OpenSpec.upto tremorSizesSpec)

/-- 'fumarolelaw09.TremorInjects', WHERE WHAT IT READS IS OF BULK AT MOST 1048576: true; the input reads as it did. -/
def tremorInjectsUptoRow : OpenClaim := { program := "yticpenoicajakaa", sum := "1e8daa23f6fc3729b326effde4b98d2f5384bc9780251d91459f7f1f08176b2f", func := "fumarole/fumarolelaw09.TremorInjects", spec := "tremorInjects", unfollowed := true, recurses := true, apart := false, narrowed := true }
def TremorInjectsUptoSaid : Prop := tremorInjectsUptoRow.holds Try.pinned (OpenSpec.upto tremorInjectsSpec)

/-- 'fumarolelaw09.TremorKeeps', WHERE WHAT IT READS IS OF BULK AT MOST 1048576: true; the input reads as it did. -/
def tremorKeepsUptoRow : OpenClaim := { program := "yticpenoicajakaa", sum := "1e8daa23f6fc3729b326effde4b98d2f5384bc9780251d91459f7f1f08176b2f", func := "fumarole/fumarolelaw09.TremorKeeps", spec := "tremorKeeps", unfollowed := true, recurses := true, apart := false, narrowed := true }
def TremorKeepsUptoSaid : Prop := tremorKeepsUptoRow.holds Try.pinned (OpenSpec.upto tremorKeepsSpec)

/-- 'fumarolelaw09.TremorEases', WHERE WHAT IT READS IS OF BULK AT MOST 1048576: true; the input reads as it did. -/
def tremorEasesUptoRow : OpenClaim := { program := "yticpenoicajakaa", sum := "1e8daa23f6fc3729b326effde4b98d2f5384bc9780251d91459f7f1f08176b2f", func := "fumarole/fumarolelaw09.TremorEases", spec := "tremorEases", unfollowed := true, recurses := true, apart := false, narrowed := true }
def TremorEasesUptoSaid : Prop := tremorEasesUptoRow.holds Try.pinned (OpenSpec.upto tremorEasesSpec)

/-- 'fumarolelaw09.TremorLouder', WHERE WHAT IT READS IS OF BULK AT MOST 1048576: true; the input reads as it did. -/
def tremorLouderUptoRow : OpenClaim := { program := "yticpenoicajakaa", sum := "1e8daa23f6fc3729b326effde4b98d2f5384bc9780251d91459f7f1f08176b2f", func := "fumarole/fumarolelaw09.TremorLouder", spec := "tremorLouder", unfollowed := true, recurses := true, apart := false, narrowed := true }
def TremorLouderUptoSaid : Prop := tremorLouderUptoRow.holds Try.pinned (OpenSpec.upto tremorLouderSpec)

/-- 'fumarolelaw09.TremorTravels', WHERE WHAT IT READS IS OF BULK AT MOST 1048576: true; the input reads as it did. -/
def tremorTravelsUptoRow : OpenClaim := { program := "yticpenoicajakaa", sum := "1e8daa23f6fc3729b326effde4b98d2f5384bc9780251d91459f7f1f08176b2f", func := "fumarole/fumarolelaw09.TremorTravels", spec := "tremorTravels", unfollowed := true, recurses := true, apart := false, narrowed := true }
def TremorTravelsUptoSaid : Prop := tremorTravelsUptoRow.holds Try.pinned (OpenSpec.upto tremorTravelsSpec)

/-- 'fumarolelaw09.TremorBets', WHERE WHAT IT READS IS OF BULK AT MOST 1048576: true; the input reads as it did. -/
def tremorBetsUptoRow : OpenClaim := { program := "yticpenoicajakaa", sum := "1e8daa23f6fc3729b326effde4b98d2f5384bc9780251d91459f7f1f08176b2f", func := "fumarole/fumarolelaw09.TremorBets", spec := "tremorBets", unfollowed := true, recurses := true, apart := false, narrowed := true }
def TremorBetsUptoSaid : Prop := tremorBetsUptoRow.holds Try.pinned (OpenSpec.upto tremorBetsSpec)

/-- 'fumarolelaw09.TremorOdds', WHERE WHAT IT READS IS OF BULK AT MOST 1048576: true; the input reads as it did. -/
def tremorOddsUptoRow : OpenClaim := { program := "yticpenoicajakaa", sum := "1e8daa23f6fc3729b326effde4b98d2f5384bc9780251d91459f7f1f08176b2f", func := "fumarole/fumarolelaw09.TremorOdds", spec := "tremorOdds", unfollowed := true, recurses := true, apart := false, narrowed := true }
def TremorOddsUptoSaid : Prop := tremorOddsUptoRow.holds Try.pinned (OpenSpec.upto tremorOddsSpec)

/-- 'fumarolelaw09.TremorEither', WHERE WHAT IT READS IS OF BULK AT MOST 1048576: true; the input reads as it did. -/
def tremorEitherUptoRow : OpenClaim := { program := "yticpenoicajakaa", sum := "1e8daa23f6fc3729b326effde4b98d2f5384bc9780251d91459f7f1f08176b2f", func := "fumarole/fumarolelaw09.TremorEither", spec := "tremorEither", unfollowed := true, recurses := true, apart := false, narrowed := true }
def TremorEitherUptoSaid : Prop := tremorEitherUptoRow.holds Try.pinned (OpenSpec.upto tremorEitherSpec)

/-- 'fumarolelaw09.TremorReasons', WHERE WHAT IT READS IS OF BULK AT MOST 1048576: true; the input reads as it did. -/
def tremorReasonsUptoRow : OpenClaim := { program := "yticpenoicajakaa", sum := "1e8daa23f6fc3729b326effde4b98d2f5384bc9780251d91459f7f1f08176b2f", func := "fumarole/fumarolelaw09.TremorReasons", spec := "tremorReasons", unfollowed := true, recurses := true, apart := false, narrowed := true }
def TremorReasonsUptoSaid : Prop := tremorReasonsUptoRow.holds Try.pinned (OpenSpec.upto tremorReasonsSpec)

/-- 'fumarolelaw09.TremorNames', WHERE WHAT IT READS IS OF BULK AT MOST 1048576: true; the input reads as it did. -/
def tremorNamesUptoRow : OpenClaim := { program := "yticpenoicajakaa", sum := "1e8daa23f6fc3729b326effde4b98d2f5384bc9780251d91459f7f1f08176b2f", func := "fumarole/fumarolelaw09.TremorNames", spec := "tremorNames", unfollowed := true, recurses := true, apart := false, narrowed := true }
def TremorNamesUptoSaid : Prop := tremorNamesUptoRow.holds Try.pinned (OpenSpec.upto tremorNamesSpec)

end Rows
end Go.Proofs.Yticpenoicajakaa
