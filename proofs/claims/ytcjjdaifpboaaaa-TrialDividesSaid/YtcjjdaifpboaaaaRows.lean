/-
  No cell of these rows narrows 'for every input' (looked for: loops, veiled, ifaces, maps, wideKeys, modest, calm, conditions, laid).
  DERIVED. THE GIVEN ROWS OF THIS SEAT. 15 by the template 'for every input the law returns true; each argument reads behind the call as it read before'; 0 by the template 'total and deterministic' (their statements: YtcjjdaifpboaaaaTotals.lean).
  GIVEN WITH THE SEED: the statements are not yours to turn. If you find one false, say at which input.
  Laid BY PROGRAM, IN A SANDBOX (cutbox-rows.mjs): the forced cells as the released guide's own fill.sh prints them over the translation 25e3c54ae9bb4b9e… (all of the seat's roots in one cut). By AI agents, Wed Nov 11 2026. No macro, syntax, notation, axiom, sorry.
-/
import Derived.Test.YtcjjdaifpboaaaaChecked
import GoSem.Claim
import GoSem.ClaimJoined
import GoSem.ClaimMapViews
import Derived.JoinedTies
import Derived.KernelRfl
namespace Go.Proofs.Ytcjjdaifpboaaaa
/- THE CELL 'sum', in the pinned program and in every row, IS THE sha256 OF THE DUMP (.gsa) THAT YtcjjdaifpboaaaaProg.lean LOADS. Nothing in Lean hashes anything: it is a label: what it is worth is what the hold of that sum in a sandbox is worth. -/
noncomputable def Try.pinned : Pinned := { name := "ytcjjdaifpboaaaa", sum := "25e3c54ae9bb4b9ed414e1b32fd857d4b09756b5e4476ff0a32e8bff9d03f8e4", checked := Try.checked }
namespace Rows
def none {H : Type} : Left H := { results := [], args := [] }

/-- 'fumarolelaw04.TrialCurves': WHATEVER THE INPUT: true; the input reads as it did. -/
def trialCurvesSpec : ChangeSpec := { name := "trialCurves", fn := fun _ => fun
  | [d1, d2] => { results := [.lit (.bool true)], args := [d1, d2] }
  | _ => none }
def trialCurvesRow : OpenClaim := { program := "ytcjjdaifpboaaaa", sum := "25e3c54ae9bb4b9ed414e1b32fd857d4b09756b5e4476ff0a32e8bff9d03f8e4", func := "fumarole/fumarolelaw04.TrialCurves", spec := "trialCurves", unfollowed := true, recurses := true, apart := false }
def TrialCurvesSaid : Prop := trialCurvesRow.holds Try.pinned (OpenSpec.ofChange trialCurvesSpec)

/-- ITS FALSE NEIGHBOUR: 'it returns false'. Refute it at one input. -/
def trialCurvesWrong : ChangeSpec := { name := "trialCurves", fn := fun _ => fun
  | [d1, d2] => { results := [.lit (.bool false)], args := [d1, d2] }
  | _ => none }
def TrialCurvesWrongFalsely : Prop := trialCurvesRow.holds Try.pinned (OpenSpec.ofChange trialCurvesWrong)

/-- 'fumarolelaw04.TrialKept': WHATEVER THE INPUT: true; the input reads as it did. -/
def trialKeptSpec : ChangeSpec := { name := "trialKept", fn := fun _ => fun
  | [d1, d2, d3] => { results := [.lit (.bool true)], args := [d1, d2, d3] }
  | _ => none }
def trialKeptRow : OpenClaim := { program := "ytcjjdaifpboaaaa", sum := "25e3c54ae9bb4b9ed414e1b32fd857d4b09756b5e4476ff0a32e8bff9d03f8e4", func := "fumarole/fumarolelaw04.TrialKept", spec := "trialKept", unfollowed := true, recurses := true, apart := false }
def TrialKeptSaid : Prop := trialKeptRow.holds Try.pinned (OpenSpec.ofChange trialKeptSpec)

/-- ITS FALSE NEIGHBOUR: 'it returns false'. Refute it at one input. -/
def trialKeptWrong : ChangeSpec := { name := "trialKept", fn := fun _ => fun
  | [d1, d2, d3] => { results := [.lit (.bool false)], args := [d1, d2, d3] }
  | _ => none }
def TrialKeptWrongFalsely : Prop := trialKeptRow.holds Try.pinned (OpenSpec.ofChange trialKeptWrong)

/-- 'fumarolelaw04.TrialRelations': WHATEVER THE INPUT: true; the input reads as it did. -/
def trialRelationsSpec : ChangeSpec := { name := "trialRelations", fn := fun _ => fun
  | [d] => { results := [.lit (.bool true)], args := [d] }
  | _ => none }
def trialRelationsRow : OpenClaim := { program := "ytcjjdaifpboaaaa", sum := "25e3c54ae9bb4b9ed414e1b32fd857d4b09756b5e4476ff0a32e8bff9d03f8e4", func := "fumarole/fumarolelaw04.TrialRelations", spec := "trialRelations", unfollowed := true, recurses := true, apart := false }
def TrialRelationsSaid : Prop := trialRelationsRow.holds Try.pinned (OpenSpec.ofChange trialRelationsSpec)

/-- ITS FALSE NEIGHBOUR: 'it returns false'. Refute it at one input. -/
def trialRelationsWrong : ChangeSpec := { name := "trialRelations", fn := fun _ => fun
  | [d] => { results := [.lit (.bool false)], args := [d] }
  | _ => none }
def TrialRelationsWrongFalsely : Prop := trialRelationsRow.holds Try.pinned (OpenSpec.ofChange trialRelationsWrong)

/-- 'fumarolelaw04.TrialProves': WHATEVER THE INPUT: true; the input reads as it did. -/
def trialProvesSpec : ChangeSpec := { name := "trialProves", fn := fun _ => fun
  | [d1, d2, d3, d4, d5] => { results := [.lit (.bool true)], args := [d1, d2, d3, d4, d5] }
  | _ => none }
def trialProvesRow : OpenClaim := { program := "ytcjjdaifpboaaaa", sum := "25e3c54ae9bb4b9ed414e1b32fd857d4b09756b5e4476ff0a32e8bff9d03f8e4", func := "fumarole/fumarolelaw04.TrialProves", spec := "trialProves", unfollowed := true, recurses := true, apart := false }
def TrialProvesSaid : Prop := trialProvesRow.holds Try.pinned (OpenSpec.ofChange trialProvesSpec)

/-- ITS FALSE NEIGHBOUR: 'it returns false'. Refute it at one input. -/
def trialProvesWrong : ChangeSpec := { name := "trialProves", fn := fun _ => fun
  | [d1, d2, d3, d4, d5] => { results := [.lit (.bool false)], args := [d1, d2, d3, d4, d5] }
  | _ => none }
def TrialProvesWrongFalsely : Prop := trialProvesRow.holds Try.pinned (OpenSpec.ofChange trialProvesWrong)

/-- 'fumarolelaw04.TrialDrops': WHATEVER THE INPUT: true; the input reads as it did. -/
def trialDropsSpec : ChangeSpec := { name := "trialDrops", fn := fun _ => fun
  | [d1, d2, d3] => { results := [.lit (.bool true)], args := [d1, d2, d3] }
  | _ => none }
def trialDropsRow : OpenClaim := { program := "ytcjjdaifpboaaaa", sum := "25e3c54ae9bb4b9ed414e1b32fd857d4b09756b5e4476ff0a32e8bff9d03f8e4", func := "fumarole/fumarolelaw04.TrialDrops", spec := "trialDrops", unfollowed := true, recurses := true, apart := false }
def TrialDropsSaid : Prop := trialDropsRow.holds Try.pinned (OpenSpec.ofChange trialDropsSpec)

/-- ITS FALSE NEIGHBOUR: 'it returns false'. Refute it at one input. -/
def trialDropsWrong : ChangeSpec := { name := "trialDrops", fn := fun _ => fun
  | [d1, d2, d3] => { results := [.lit (.bool false)], args := [d1, d2, d3] }
  | _ => none }
def TrialDropsWrongFalsely : Prop := trialDropsRow.holds Try.pinned (OpenSpec.ofChange trialDropsWrong)

/-- 'fumarolelaw04.TrialGives': WHATEVER THE INPUT: true; the input reads as it did. -/
def trialGivesSpec : ChangeSpec := { name := "trialGives", fn := fun _ => fun
  | [d1, d2] => { results := [.lit (.bool true)], args := [d1, d2] }
  | _ => none }
def trialGivesRow : OpenClaim := { program := "ytcjjdaifpboaaaa", sum := "25e3c54ae9bb4b9ed414e1b32fd857d4b09756b5e4476ff0a32e8bff9d03f8e4", func := "fumarole/fumarolelaw04.TrialGives", spec := "trialGives", unfollowed := true, recurses := true, apart := false }
def TrialGivesSaid : Prop := trialGivesRow.holds Try.pinned (OpenSpec.ofChange trialGivesSpec)

/-- ITS FALSE NEIGHBOUR: 'it returns false'. Refute it at one input. -/
def trialGivesWrong : ChangeSpec := { name := "trialGives", fn := fun _ => fun
  | [d1, d2] => { results := [.lit (.bool false)], args := [d1, d2] }
  | _ => none }
def TrialGivesWrongFalsely : Prop := trialGivesRow.holds Try.pinned (OpenSpec.ofChange trialGivesWrong)

/-- 'fumarolelaw04.TrialCapacities': WHATEVER THE INPUT: true; the input reads as it did. -/
def trialCapacitiesSpec : ChangeSpec := { name := "trialCapacities", fn := fun _ => fun
  | [d1, d2, d3, d4] => { results := [.lit (.bool true)], args := [d1, d2, d3, d4] }
  | _ => none }
def trialCapacitiesRow : OpenClaim := { program := "ytcjjdaifpboaaaa", sum := "25e3c54ae9bb4b9ed414e1b32fd857d4b09756b5e4476ff0a32e8bff9d03f8e4", func := "fumarole/fumarolelaw04.TrialCapacities", spec := "trialCapacities", unfollowed := true, recurses := true, apart := false }
def TrialCapacitiesSaid : Prop := trialCapacitiesRow.holds Try.pinned (OpenSpec.ofChange trialCapacitiesSpec)

/-- ITS FALSE NEIGHBOUR: 'it returns false'. Refute it at one input. -/
def trialCapacitiesWrong : ChangeSpec := { name := "trialCapacities", fn := fun _ => fun
  | [d1, d2, d3, d4] => { results := [.lit (.bool false)], args := [d1, d2, d3, d4] }
  | _ => none }
def TrialCapacitiesWrongFalsely : Prop := trialCapacitiesRow.holds Try.pinned (OpenSpec.ofChange trialCapacitiesWrong)

/-- 'fumarolelaw04.TrialPulses': WHATEVER THE INPUT: true; the input reads as it did. -/
def trialPulsesSpec : ChangeSpec := { name := "trialPulses", fn := fun _ => fun
  | [d1, d2, d3] => { results := [.lit (.bool true)], args := [d1, d2, d3] }
  | _ => none }
def trialPulsesRow : OpenClaim := { program := "ytcjjdaifpboaaaa", sum := "25e3c54ae9bb4b9ed414e1b32fd857d4b09756b5e4476ff0a32e8bff9d03f8e4", func := "fumarole/fumarolelaw04.TrialPulses", spec := "trialPulses", unfollowed := true, recurses := true, apart := false }
def TrialPulsesSaid : Prop := trialPulsesRow.holds Try.pinned (OpenSpec.ofChange trialPulsesSpec)

/-- ITS FALSE NEIGHBOUR: 'it returns false'. Refute it at one input. -/
def trialPulsesWrong : ChangeSpec := { name := "trialPulses", fn := fun _ => fun
  | [d1, d2, d3] => { results := [.lit (.bool false)], args := [d1, d2, d3] }
  | _ => none }
def TrialPulsesWrongFalsely : Prop := trialPulsesRow.holds Try.pinned (OpenSpec.ofChange trialPulsesWrong)

/-- 'fumarolelaw04.TrialFails': WHATEVER THE INPUT: true; the input reads as it did. -/
def trialFailsSpec : ChangeSpec := { name := "trialFails", fn := fun _ => fun
  | [d] => { results := [.lit (.bool true)], args := [d] }
  | _ => none }
def trialFailsRow : OpenClaim := { program := "ytcjjdaifpboaaaa", sum := "25e3c54ae9bb4b9ed414e1b32fd857d4b09756b5e4476ff0a32e8bff9d03f8e4", func := "fumarole/fumarolelaw04.TrialFails", spec := "trialFails", unfollowed := true, recurses := true, apart := false }
def TrialFailsSaid : Prop := trialFailsRow.holds Try.pinned (OpenSpec.ofChange trialFailsSpec)

/-- ITS FALSE NEIGHBOUR: 'it returns false'. Refute it at one input. -/
def trialFailsWrong : ChangeSpec := { name := "trialFails", fn := fun _ => fun
  | [d] => { results := [.lit (.bool false)], args := [d] }
  | _ => none }
def TrialFailsWrongFalsely : Prop := trialFailsRow.holds Try.pinned (OpenSpec.ofChange trialFailsWrong)

/-- 'fumarolelaw04.TrialPlans': WHATEVER THE INPUT: true; the input reads as it did. -/
def trialPlansSpec : ChangeSpec := { name := "trialPlans", fn := fun _ => fun
  | [d1, d2, d3] => { results := [.lit (.bool true)], args := [d1, d2, d3] }
  | _ => none }
def trialPlansRow : OpenClaim := { program := "ytcjjdaifpboaaaa", sum := "25e3c54ae9bb4b9ed414e1b32fd857d4b09756b5e4476ff0a32e8bff9d03f8e4", func := "fumarole/fumarolelaw04.TrialPlans", spec := "trialPlans", unfollowed := true, recurses := true, apart := false }
def TrialPlansSaid : Prop := trialPlansRow.holds Try.pinned (OpenSpec.ofChange trialPlansSpec)

/-- ITS FALSE NEIGHBOUR: 'it returns false'. Refute it at one input. -/
def trialPlansWrong : ChangeSpec := { name := "trialPlans", fn := fun _ => fun
  | [d1, d2, d3] => { results := [.lit (.bool false)], args := [d1, d2, d3] }
  | _ => none }
def TrialPlansWrongFalsely : Prop := trialPlansRow.holds Try.pinned (OpenSpec.ofChange trialPlansWrong)

/-- 'fumarolelaw04.TrialPulsed': WHATEVER THE INPUT: true; the input reads as it did. -/
def trialPulsedSpec : ChangeSpec := { name := "trialPulsed", fn := fun _ => fun
  | [d1, d2, d3] => { results := [.lit (.bool true)], args := [d1, d2, d3] }
  | _ => none }
def trialPulsedRow : OpenClaim := { program := "ytcjjdaifpboaaaa", sum := "25e3c54ae9bb4b9ed414e1b32fd857d4b09756b5e4476ff0a32e8bff9d03f8e4", func := "fumarole/fumarolelaw04.TrialPulsed", spec := "trialPulsed", unfollowed := true, recurses := true, apart := false }
def TrialPulsedSaid : Prop := trialPulsedRow.holds Try.pinned (OpenSpec.ofChange trialPulsedSpec)

/-- ITS FALSE NEIGHBOUR: 'it returns false'. Refute it at one input. -/
def trialPulsedWrong : ChangeSpec := { name := "trialPulsed", fn := fun _ => fun
  | [d1, d2, d3] => { results := [.lit (.bool false)], args := [d1, d2, d3] }
  | _ => none }
def TrialPulsedWrongFalsely : Prop := trialPulsedRow.holds Try.pinned (OpenSpec.ofChange trialPulsedWrong)

/-- 'fumarolelaw04.TrialEither': WHATEVER THE INPUT: true; the input reads as it did. -/
def trialEitherSpec : ChangeSpec := { name := "trialEither", fn := fun _ => fun
  | [d1, d2, d3] => { results := [.lit (.bool true)], args := [d1, d2, d3] }
  | _ => none }
def trialEitherRow : OpenClaim := { program := "ytcjjdaifpboaaaa", sum := "25e3c54ae9bb4b9ed414e1b32fd857d4b09756b5e4476ff0a32e8bff9d03f8e4", func := "fumarole/fumarolelaw04.TrialEither", spec := "trialEither", unfollowed := true, recurses := true, apart := false }
def TrialEitherSaid : Prop := trialEitherRow.holds Try.pinned (OpenSpec.ofChange trialEitherSpec)

/-- ITS FALSE NEIGHBOUR: 'it returns false'. Refute it at one input. -/
def trialEitherWrong : ChangeSpec := { name := "trialEither", fn := fun _ => fun
  | [d1, d2, d3] => { results := [.lit (.bool false)], args := [d1, d2, d3] }
  | _ => none }
def TrialEitherWrongFalsely : Prop := trialEitherRow.holds Try.pinned (OpenSpec.ofChange trialEitherWrong)

/-- 'fumarolelaw04.TrialGroups': WHATEVER THE INPUT: true; the input reads as it did. -/
def trialGroupsSpec : ChangeSpec := { name := "trialGroups", fn := fun _ => fun
  | [d] => { results := [.lit (.bool true)], args := [d] }
  | _ => none }
def trialGroupsRow : OpenClaim := { program := "ytcjjdaifpboaaaa", sum := "25e3c54ae9bb4b9ed414e1b32fd857d4b09756b5e4476ff0a32e8bff9d03f8e4", func := "fumarole/fumarolelaw04.TrialGroups", spec := "trialGroups", unfollowed := true, recurses := true, apart := false }
def TrialGroupsSaid : Prop := trialGroupsRow.holds Try.pinned (OpenSpec.ofChange trialGroupsSpec)

/-- ITS FALSE NEIGHBOUR: 'it returns false'. Refute it at one input. -/
def trialGroupsWrong : ChangeSpec := { name := "trialGroups", fn := fun _ => fun
  | [d] => { results := [.lit (.bool false)], args := [d] }
  | _ => none }
def TrialGroupsWrongFalsely : Prop := trialGroupsRow.holds Try.pinned (OpenSpec.ofChange trialGroupsWrong)

/-- 'fumarolelaw04.TrialDivides': WHATEVER THE INPUT: true; the input reads as it did. -/
def trialDividesSpec : ChangeSpec := { name := "trialDivides", fn := fun _ => fun
  | [d1, d2] => { results := [.lit (.bool true)], args := [d1, d2] }
  | _ => none }
def trialDividesRow : OpenClaim := { program := "ytcjjdaifpboaaaa", sum := "25e3c54ae9bb4b9ed414e1b32fd857d4b09756b5e4476ff0a32e8bff9d03f8e4", func := "fumarole/fumarolelaw04.TrialDivides", spec := "trialDivides", unfollowed := true, recurses := true, apart := false }
def TrialDividesSaid : Prop := trialDividesRow.holds Try.pinned (OpenSpec.ofChange trialDividesSpec)

/-- ITS FALSE NEIGHBOUR: 'it returns false'. Refute it at one input. -/
def trialDividesWrong : ChangeSpec := { name := "trialDivides", fn := fun _ => fun
  | [d1, d2] => { results := [.lit (.bool false)], args := [d1, d2] }
  | _ => none }
def TrialDividesWrongFalsely : Prop := trialDividesRow.holds Try.pinned (OpenSpec.ofChange trialDividesWrong)

/-- 'fumarolelaw04.TrialNames': WHATEVER THE INPUT: true; the input reads as it did. -/
def trialNamesSpec : ChangeSpec := { name := "trialNames", fn := fun _ => fun
  | [] => { results := [.lit (.bool true)], args := [] }
  | _ => none }
def trialNamesRow : OpenClaim := { program := "ytcjjdaifpboaaaa", sum := "25e3c54ae9bb4b9ed414e1b32fd857d4b09756b5e4476ff0a32e8bff9d03f8e4", func := "fumarole/fumarolelaw04.TrialNames", spec := "trialNames", unfollowed := true, recurses := true, apart := false }
def TrialNamesSaid : Prop := trialNamesRow.holds Try.pinned (OpenSpec.ofChange trialNamesSpec)

/-- ITS FALSE NEIGHBOUR: 'it returns false'. Refute it at one input. -/
def trialNamesWrong : ChangeSpec := { name := "trialNames", fn := fun _ => fun
  | [] => { results := [.lit (.bool false)], args := [] }
  | _ => none }
def TrialNamesWrongFalsely : Prop := trialNamesRow.holds Try.pinned (OpenSpec.ofChange trialNamesWrong)

/- THE SECOND FORM. 'bulk': how many values and letters a reading holds, each counted each time it is reached (what is shared counts as often as it is met; a slice's spare places count too). A statement '..UptoSaid' is the law's where the arguments, and the package variables that the reading takes, are together of bulk at most 1048576: NARROWER than '..Said'. Prove '..Said' where nothing that the law and all that it calls make is longer than what came in: it says more and counts as full. Else prove '..UptoSaid'. A law counts once. -/
mutual
def uptoBulk {H : Type} : DataW H → Nat
  | .lit (.string bytes) => bytes.length + 1
  | .lit _ => 1
  | .nil => 1
  | .ptr d => uptoBulk d + 1
  | .slice elems spare => uptoBulkAll elems + uptoBulkAll spare + 1
  | .agg parts => uptoBulkAll parts + 1
  | .iface _ d => uptoBulk d + 1
  | .map entries => uptoBulkEntries entries + 1
  | .held _ => 1
def uptoBulkAll {H : Type} : List (DataW H) → Nat
  | [] => 0
  | d :: r => uptoBulk d + uptoBulkAll r
def uptoBulkEntries {H : Type} : List (Lit × DataW H) → Nat
  | [] => 0
  | x :: r => uptoBulkEntry x + uptoBulkEntries r
def uptoBulkEntry {H : Type} : Lit × DataW H → Nat
  | (.string bytes, d) => bytes.length + uptoBulk d + 1
  | (_, d) => uptoBulk d + 1
 end
def uptoSmall : (H : Type) → List (DataW H) → Bool := fun _ ds => decide (uptoBulkAll ds ≤ 1048576)
def OpenSpec.upto (s : _root_.Go.ChangeSpec) : _root_.Go.OpenSpec := { _root_.Go.OpenSpec.ofChange s with cond := some uptoSmall }

/-- 'fumarolelaw04.TrialCurves', WHERE WHAT IT READS IS OF BULK AT MOST 1048576: true; the input reads as it did. -/
def trialCurvesUptoRow : OpenClaim := { program := "ytcjjdaifpboaaaa", sum := "25e3c54ae9bb4b9ed414e1b32fd857d4b09756b5e4476ff0a32e8bff9d03f8e4", func := "fumarole/fumarolelaw04.TrialCurves", spec := "trialCurves", unfollowed := true, recurses := true, apart := false, narrowed := true }
def TrialCurvesUptoSaid : Prop := trialCurvesUptoRow.holds Try.pinned (OpenSpec.upto trialCurvesSpec)

/-- 'fumarolelaw04.TrialKept', WHERE WHAT IT READS IS OF BULK AT MOST 1048576: true; the input reads as it did. -/
def trialKeptUptoRow : OpenClaim := { program := "ytcjjdaifpboaaaa", sum := "25e3c54ae9bb4b9ed414e1b32fd857d4b09756b5e4476ff0a32e8bff9d03f8e4", func := "fumarole/fumarolelaw04.TrialKept", spec := "trialKept", unfollowed := true, recurses := true, apart := false, narrowed := true }
def TrialKeptUptoSaid : Prop := trialKeptUptoRow.holds Try.pinned (OpenSpec.upto trialKeptSpec)

/-- 'fumarolelaw04.TrialRelations', WHERE WHAT IT READS IS OF BULK AT MOST 1048576: true; the input reads as it did. -/
def trialRelationsUptoRow : OpenClaim := { program := "ytcjjdaifpboaaaa", sum := "25e3c54ae9bb4b9ed414e1b32fd857d4b09756b5e4476ff0a32e8bff9d03f8e4", func := "fumarole/fumarolelaw04.TrialRelations", spec := "trialRelations", unfollowed := true, recurses := true, apart := false, narrowed := true }
def TrialRelationsUptoSaid : Prop := trialRelationsUptoRow.holds Try.pinned (OpenSpec.upto trialRelationsSpec)

/-- 'fumarolelaw04.TrialProves', WHERE WHAT IT READS IS OF BULK AT MOST 1048576: true; the input reads as it did. -/
def trialProvesUptoRow : OpenClaim := { program := "ytcjjdaifpboaaaa", sum := "25e3c54ae9bb4b9ed414e1b32fd857d4b09756b5e4476ff0a32e8bff9d03f8e4", func := "fumarole/fumarolelaw04.TrialProves", spec := "trialProves", unfollowed := true, recurses := true, apart := false, narrowed := true }
def TrialProvesUptoSaid : Prop := trialProvesUptoRow.holds Try.pinned (OpenSpec.upto trialProvesSpec)

/-- 'fumarolelaw04.TrialDrops', WHERE WHAT IT READS IS OF BULK AT MOST 1048576: true; the input reads as it did. -/
def trialDropsUptoRow : OpenClaim := { program := "ytcjjdaifpboaaaa", sum := "25e3c54ae9bb4b9ed414e1b32fd857d4b09756b5e4476ff0a32e8bff9d03f8e4", func := "fumarole/fumarolelaw04.TrialDrops", spec := "trialDrops", unfollowed := true, recurses := true, apart := false, narrowed := true }
def TrialDropsUptoSaid : Prop := trialDropsUptoRow.holds Try.pinned (OpenSpec.upto trialDropsSpec)

/-- 'fumarolelaw04.TrialGives', WHERE WHAT IT READS IS OF BULK AT MOST 1048576: true; the input reads as it did. -/
def trialGivesUptoRow : OpenClaim := { program := "ytcjjdaifpboaaaa", sum := "25e3c54ae9bb4b9ed414e1b32fd857d4b09756b5e4476ff0a32e8bff9d03f8e4", func := "fumarole/fumarolelaw04.TrialGives", spec := "trialGives", unfollowed := true, recurses := true, apart := false, narrowed := true }
def TrialGivesUptoSaid : Prop := trialGivesUptoRow.holds Try.pinned (OpenSpec.upto trialGivesSpec)

/-- 'fumarolelaw04.TrialCapacities', WHERE WHAT IT READS IS OF BULK AT MOST 1048576: true; the input reads as it did. -/
def trialCapacitiesUptoRow : OpenClaim := { program := "ytcjjdaifpboaaaa", sum := "25e3c54ae9bb4b9ed414e1b32fd857d4b09756b5e4476ff0a32e8bff9d03f8e4", func := "fumarole/fumarolelaw04.TrialCapacities", spec := "trialCapacities", unfollowed := true, recurses := true, apart := false, narrowed := true }
def TrialCapacitiesUptoSaid : Prop := trialCapacitiesUptoRow.holds Try.pinned (OpenSpec.upto trialCapacitiesSpec)

/-- 'fumarolelaw04.TrialPulses', WHERE WHAT IT READS IS OF BULK AT MOST 1048576: true; the input reads as it did. -/
def trialPulsesUptoRow : OpenClaim := { program := "ytcjjdaifpboaaaa", sum := "25e3c54ae9bb4b9ed414e1b32fd857d4b09756b5e4476ff0a32e8bff9d03f8e4", func := "fumarole/fumarolelaw04.TrialPulses", spec := "trialPulses", unfollowed := true, recurses := true, apart := false, narrowed := true }
def TrialPulsesUptoSaid : Prop := trialPulsesUptoRow.holds Try.pinned (OpenSpec.upto trialPulsesSpec)

/-- 'fumarolelaw04.TrialFails', WHERE WHAT IT READS IS OF BULK AT MOST 1048576: true; the input reads as it did. -/
def trialFailsUptoRow : OpenClaim := { program := "ytcjjdaifpboaaaa", sum := "25e3c54ae9bb4b9ed414e1b32fd857d4b09756b5e4476ff0a32e8bff9d03f8e4", func := "fumarole/fumarolelaw04.TrialFails", spec := "trialFails", unfollowed := true, recurses := true, apart := false, narrowed := true }
def TrialFailsUptoSaid : Prop := trialFailsUptoRow.holds Try.pinned (OpenSpec.upto trialFailsSpec)

/-- 'fumarolelaw04.TrialPlans', WHERE WHAT IT READS IS OF BULK AT MOST 1048576: true; the input reads as it did. -/
def trialPlansUptoRow : OpenClaim := { program := "ytcjjdaifpboaaaa", sum := "25e3c54ae9bb4b9ed414e1b32fd857d4b09756b5e4476ff0a32e8bff9d03f8e4", func := "fumarole/fumarolelaw04.TrialPlans", spec := "trialPlans", unfollowed := true, recurses := true, apart := false, narrowed := true }
def TrialPlansUptoSaid : Prop := trialPlansUptoRow.holds Try.pinned (OpenSpec.upto trialPlansSpec)

/-- 'fumarolelaw04.TrialPulsed', WHERE WHAT IT READS IS OF BULK AT MOST 1048576: true; the input reads as it did. -/
def trialPulsedUptoRow : OpenClaim := { program := "ytcjjdaifpboaaaa", sum := "25e3c54ae9bb4b9ed414e1b32fd857d4b09756b5e4476ff0a32e8bff9d03f8e4", func := "fumarole/fumarolelaw04.TrialPulsed", spec := "trialPulsed", unfollowed := true, recurses := true, apart := false, narrowed := true }
def TrialPulsedUptoSaid : Prop := trialPulsedUptoRow.holds Try.pinned (OpenSpec.upto trialPulsedSpec)

/-- 'fumarolelaw04.TrialEither', WHERE WHAT IT READS IS OF BULK AT MOST 1048576: true; the input reads as it did. -/
def trialEitherUptoRow : OpenClaim := { program := "ytcjjdaifpboaaaa", sum := "25e3c54ae9bb4b9ed414e1b32fd857d4b09756b5e4476ff0a32e8bff9d03f8e4", func := "fumarole/fumarolelaw04.TrialEither", spec := "trialEither", unfollowed := true, recurses := true, apart := false, narrowed := true }
def TrialEitherUptoSaid : Prop := trialEitherUptoRow.holds Try.pinned (OpenSpec.upto trialEitherSpec)

/-- 'fumarolelaw04.TrialGroups', WHERE WHAT IT READS IS OF BULK AT MOST 1048576: true; the input reads as it did. -/
def trialGroupsUptoRow : OpenClaim := { program := "ytcjjdaifpboaaaa", sum := "25e3c54ae9bb4b9ed414e1b32fd857d4b09756b5e4476ff0a32e8bff9d03f8e4", func := "fumarole/fumarolelaw04.TrialGroups", spec := "trialGroups", unfollowed := true, recurses := true, apart := false, narrowed := true }
def TrialGroupsUptoSaid : Prop := trialGroupsUptoRow.holds Try.pinned (OpenSpec.upto trialGroupsSpec)

/-- 'fumarolelaw04.TrialDivides', WHERE WHAT IT READS IS OF BULK AT MOST 1048576: true; the input reads as it did. -/
def trialDividesUptoRow : OpenClaim := { program := "ytcjjdaifpboaaaa", sum := "25e3c54ae9bb4b9ed414e1b32fd857d4b09756b5e4476ff0a32e8bff9d03f8e4", func := "fumarole/fumarolelaw04.TrialDivides", spec := "trialDivides", unfollowed := true, recurses := true, apart := false, narrowed := true }
def TrialDividesUptoSaid : Prop := trialDividesUptoRow.holds Try.pinned (OpenSpec.upto trialDividesSpec)

/-- 'fumarolelaw04.TrialNames', WHERE WHAT IT READS IS OF BULK AT MOST 1048576: true; the input reads as it did. -/
def trialNamesUptoRow : OpenClaim := { program := "ytcjjdaifpboaaaa", sum := "25e3c54ae9bb4b9ed414e1b32fd857d4b09756b5e4476ff0a32e8bff9d03f8e4", func := "fumarole/fumarolelaw04.TrialNames", spec := "trialNames", unfollowed := true, recurses := true, apart := false, narrowed := true }
def TrialNamesUptoSaid : Prop := trialNamesUptoRow.holds Try.pinned (OpenSpec.upto trialNamesSpec)

end Rows
end Go.Proofs.Ytcjjdaifpboaaaa
