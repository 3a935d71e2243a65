/-
  No cell of these rows narrows 'for every input' (looked for: loops, veiled, ifaces, maps, wideKeys, modest, calm, conditions, laid).
  DERIVED. THE GIVEN ROWS OF THIS SEAT. 7 by the template 'for every input the law returns true; each argument reads behind the call as it read before'; 0 by the template 'total and deterministic' (their statements: YtcccafphhmcifaaGreatTotals.lean).
  GIVEN WITH THE SEED: the statements are not yours to turn. If you find one false, say at which input.
  Laid BY PROGRAM, IN A SANDBOX (cutbox-rows.mjs): the forced cells as the released guide's own fill.sh prints them over the translation 853cb467cbe3000d… (all of the seat's roots in one cut). By AI agents, Wed Nov 11 2026. No macro, syntax, notation, axiom, sorry.
-/
import Derived.Test.YtcccafphhmcifaaGreatChecked
import GoSem.Claim
import GoSem.ClaimJoined
import GoSem.ClaimMapViews
import Derived.JoinedTies
import Derived.KernelRfl
namespace Go.Proofs.YtcccafphhmcifaaGreat
/- THE CELL 'sum', in the pinned program and in every row, IS THE sha256 OF THE DUMP (.gsa) THAT YtcccafphhmcifaaGreatProg.lean LOADS. Nothing in Lean hashes anything: it is a label: what it is worth is what the hold of that sum in a sandbox is worth. -/
noncomputable def Tryz.pinned : Pinned := { name := "ytcccafphhmcifaagreat", sum := "853cb467cbe3000d2cc0c759040620c96dc8bc168ff655aa7c351eaa00f1c9db", checked := Tryz.checked }
namespace Rows
def none {H : Type} : Left H := { results := [], args := [] }

/-- 'fumarolelaw11.LeaseDrills': WHATEVER THE INPUT: true; the input reads as it did. -/
def leaseDrillsSpec : ChangeSpec := { name := "leaseDrills", fn := fun _ => fun
  | [d] => { results := [.lit (.bool true)], args := [d] }
  | _ => none }
def leaseDrillsRow : OpenClaim := { program := "ytcccafphhmcifaagreat", sum := "853cb467cbe3000d2cc0c759040620c96dc8bc168ff655aa7c351eaa00f1c9db", func := "fumarole/fumarolelaw11.LeaseDrills", spec := "leaseDrills", unfollowed := true, recurses := true, apart := false }
def LeaseDrillsSaid : Prop := leaseDrillsRow.holds Tryz.pinned (OpenSpec.ofChange leaseDrillsSpec)

/-- ITS FALSE NEIGHBOUR: 'it returns false'. Refute it at one input. -/
def leaseDrillsWrong : ChangeSpec := { name := "leaseDrills", fn := fun _ => fun
  | [d] => { results := [.lit (.bool false)], args := [d] }
  | _ => none }
def LeaseDrillsWrongFalsely : Prop := leaseDrillsRow.holds Tryz.pinned (OpenSpec.ofChange leaseDrillsWrong)

/-- 'fumarolelaw11.LeaseSprings': WHATEVER THE INPUT: true; the input reads as it did. -/
def leaseSpringsSpec : ChangeSpec := { name := "leaseSprings", fn := fun _ => fun
  | [d1, d2, d3] => { results := [.lit (.bool true)], args := [d1, d2, d3] }
  | _ => none }
def leaseSpringsRow : OpenClaim := { program := "ytcccafphhmcifaagreat", sum := "853cb467cbe3000d2cc0c759040620c96dc8bc168ff655aa7c351eaa00f1c9db", func := "fumarole/fumarolelaw11.LeaseSprings", spec := "leaseSprings", unfollowed := true, recurses := true, apart := false }
def LeaseSpringsSaid : Prop := leaseSpringsRow.holds Tryz.pinned (OpenSpec.ofChange leaseSpringsSpec)

/-- ITS FALSE NEIGHBOUR: 'it returns false'. Refute it at one input. -/
def leaseSpringsWrong : ChangeSpec := { name := "leaseSprings", fn := fun _ => fun
  | [d1, d2, d3] => { results := [.lit (.bool false)], args := [d1, d2, d3] }
  | _ => none }
def LeaseSpringsWrongFalsely : Prop := leaseSpringsRow.holds Tryz.pinned (OpenSpec.ofChange leaseSpringsWrong)

/-- 'fumarolelaw11.LeaseDues': WHATEVER THE INPUT: true; the input reads as it did. -/
def leaseDuesSpec : ChangeSpec := { name := "leaseDues", fn := fun _ => fun
  | [d1, d2, d3] => { results := [.lit (.bool true)], args := [d1, d2, d3] }
  | _ => none }
def leaseDuesRow : OpenClaim := { program := "ytcccafphhmcifaagreat", sum := "853cb467cbe3000d2cc0c759040620c96dc8bc168ff655aa7c351eaa00f1c9db", func := "fumarole/fumarolelaw11.LeaseDues", spec := "leaseDues", unfollowed := true, recurses := true, apart := false }
def LeaseDuesSaid : Prop := leaseDuesRow.holds Tryz.pinned (OpenSpec.ofChange leaseDuesSpec)

/-- ITS FALSE NEIGHBOUR: 'it returns false'. Refute it at one input. -/
def leaseDuesWrong : ChangeSpec := { name := "leaseDues", fn := fun _ => fun
  | [d1, d2, d3] => { results := [.lit (.bool false)], args := [d1, d2, d3] }
  | _ => none }
def LeaseDuesWrongFalsely : Prop := leaseDuesRow.holds Tryz.pinned (OpenSpec.ofChange leaseDuesWrong)

/-- 'fumarolelaw11.LeaseProves': WHATEVER THE INPUT: true; the input reads as it did. -/
def leaseProvesSpec : ChangeSpec := { name := "leaseProves", fn := fun _ => fun
  | [d1, d2, d3, d4, d5, d6, d7] => { results := [.lit (.bool true)], args := [d1, d2, d3, d4, d5, d6, d7] }
  | _ => none }
def leaseProvesRow : OpenClaim := { program := "ytcccafphhmcifaagreat", sum := "853cb467cbe3000d2cc0c759040620c96dc8bc168ff655aa7c351eaa00f1c9db", func := "fumarole/fumarolelaw11.LeaseProves", spec := "leaseProves", unfollowed := true, recurses := true, apart := false }
def LeaseProvesSaid : Prop := leaseProvesRow.holds Tryz.pinned (OpenSpec.ofChange leaseProvesSpec)

/-- ITS FALSE NEIGHBOUR: 'it returns false'. Refute it at one input. -/
def leaseProvesWrong : ChangeSpec := { name := "leaseProves", fn := fun _ => fun
  | [d1, d2, d3, d4, d5, d6, d7] => { results := [.lit (.bool false)], args := [d1, d2, d3, d4, d5, d6, d7] }
  | _ => none }
def LeaseProvesWrongFalsely : Prop := leaseProvesRow.holds Tryz.pinned (OpenSpec.ofChange leaseProvesWrong)

/-- 'fumarolelaw11.LeaseOutlooks': WHATEVER THE INPUT: true; the input reads as it did. -/
def leaseOutlooksSpec : ChangeSpec := { name := "leaseOutlooks", fn := fun _ => fun
  | [d1, d2] => { results := [.lit (.bool true)], args := [d1, d2] }
  | _ => none }
def leaseOutlooksRow : OpenClaim := { program := "ytcccafphhmcifaagreat", sum := "853cb467cbe3000d2cc0c759040620c96dc8bc168ff655aa7c351eaa00f1c9db", func := "fumarole/fumarolelaw11.LeaseOutlooks", spec := "leaseOutlooks", unfollowed := true, recurses := true, apart := false }
def LeaseOutlooksSaid : Prop := leaseOutlooksRow.holds Tryz.pinned (OpenSpec.ofChange leaseOutlooksSpec)

/-- ITS FALSE NEIGHBOUR: 'it returns false'. Refute it at one input. -/
def leaseOutlooksWrong : ChangeSpec := { name := "leaseOutlooks", fn := fun _ => fun
  | [d1, d2] => { results := [.lit (.bool false)], args := [d1, d2] }
  | _ => none }
def LeaseOutlooksWrongFalsely : Prop := leaseOutlooksRow.holds Tryz.pinned (OpenSpec.ofChange leaseOutlooksWrong)

/-- 'fumarolelaw11.LeaseCheapest': WHATEVER THE INPUT: true; the input reads as it did. -/
def leaseCheapestSpec : ChangeSpec := { name := "leaseCheapest", fn := fun _ => fun
  | [d1, d2, d3, d4] => { results := [.lit (.bool true)], args := [d1, d2, d3, d4] }
  | _ => none }
def leaseCheapestRow : OpenClaim := { program := "ytcccafphhmcifaagreat", sum := "853cb467cbe3000d2cc0c759040620c96dc8bc168ff655aa7c351eaa00f1c9db", func := "fumarole/fumarolelaw11.LeaseCheapest", spec := "leaseCheapest", unfollowed := true, recurses := true, apart := false }
def LeaseCheapestSaid : Prop := leaseCheapestRow.holds Tryz.pinned (OpenSpec.ofChange leaseCheapestSpec)

/-- ITS FALSE NEIGHBOUR: 'it returns false'. Refute it at one input. -/
def leaseCheapestWrong : ChangeSpec := { name := "leaseCheapest", fn := fun _ => fun
  | [d1, d2, d3, d4] => { results := [.lit (.bool false)], args := [d1, d2, d3, d4] }
  | _ => none }
def LeaseCheapestWrongFalsely : Prop := leaseCheapestRow.holds Tryz.pinned (OpenSpec.ofChange leaseCheapestWrong)

/-- 'fumarolelaw11.LeaseNames': WHATEVER THE INPUT: true; the input reads as it did. -/
def leaseNamesSpec : ChangeSpec := { name := "leaseNames", fn := fun _ => fun
  | [] => { results := [.lit (.bool true)], args := [] }
  | _ => none }
def leaseNamesRow : OpenClaim := { program := "ytcccafphhmcifaagreat", sum := "853cb467cbe3000d2cc0c759040620c96dc8bc168ff655aa7c351eaa00f1c9db", func := "fumarole/fumarolelaw11.LeaseNames", spec := "leaseNames", unfollowed := true, recurses := true, apart := false }
def LeaseNamesSaid : Prop := leaseNamesRow.holds Tryz.pinned (OpenSpec.ofChange leaseNamesSpec)

/-- ITS FALSE NEIGHBOUR: 'it returns false'. Refute it at one input. -/
def leaseNamesWrong : ChangeSpec := { name := "leaseNames", fn := fun _ => fun
  | [] => { results := [.lit (.bool false)], args := [] }
  | _ => none }
def LeaseNamesWrongFalsely : Prop := leaseNamesRow.holds Tryz.pinned (OpenSpec.ofChange leaseNamesWrong)

/- THE SECOND FORM. 'bulk': how many values and letters a reading holds, each counted each time it is reached (what is shared counts as often as it is met; a slice's spare places count too). A statement '..UptoSaid' is the law's where the arguments, and the package variables that the reading takes, are together of bulk at most 1048576: NARROWER than '..Said'. Prove '..Said' where nothing that the law and all that it calls make is longer than what came in: it says more and counts as full. Else prove '..UptoSaid'. A law counts once. -/
mutual
def uptoBulk {H : Type} : DataW H → Nat
  | .lit (.string bytes) => bytes.length + 1
  | .lit _ => 1
  | .nil => 1
  | .ptr d => uptoBulk d + 1
  | .slice elems spare => uptoBulkAll elems + uptoBulkAll spare + 1
  | .agg parts => uptoBulkAll parts + 1
  | .iface _ d => uptoBulk d + 1
  | .map entries => uptoBulkEntries entries + 1
  | .held _ => 1
def uptoBulkAll {H : Type} : List (DataW H) → Nat
  | [] => 0
  | d :: r => uptoBulk d + uptoBulkAll r
def uptoBulkEntries {H : Type} : List (Lit × DataW H) → Nat
  | [] => 0
  | x :: r => uptoBulkEntry x + uptoBulkEntries r
def uptoBulkEntry {H : Type} : Lit × DataW H → Nat
  | (.string bytes, d) => bytes.length + uptoBulk d + 1
  | (_, d) => uptoBulk d + 1
 end
def uptoSmall : (H : Type) → List (DataW H) → Bool := fun _ ds => decide (uptoBulkAll ds ≤ 1048576)
def OpenSpec.upto (s : _root_.Go.ChangeSpec) : _root_.Go.OpenSpec := { _root_.Go.OpenSpec.ofChange s with cond := some uptoSmall }

/-- 'fumarolelaw11.LeaseDrills', WHERE WHAT IT READS IS OF BULK AT MOST 1048576: true; the input reads as it did. -/
def leaseDrillsUptoRow : OpenClaim := { program := "ytcccafphhmcifaagreat", sum := "853cb467cbe3000d2cc0c759040620c96dc8bc168ff655aa7c351eaa00f1c9db", func := "fumarole/fumarolelaw11.LeaseDrills", spec := "leaseDrills", unfollowed := true, recurses := true, apart := false, narrowed := true }
def LeaseDrillsUptoSaid : Prop := leaseDrillsUptoRow.holds Tryz.pinned (OpenSpec.upto leaseDrillsSpec)

/-- 'fumarolelaw11.LeaseSprings', WHERE WHAT IT READS IS OF BULK AT MOST 1048576: true; the input reads as it did. -/
def leaseSpringsUptoRow : OpenClaim := { program := "ytcccafphhmcifaagreat", sum := "853cb467cbe3000d2cc0c759040620c96dc8bc168ff655aa7c351eaa00f1c9db", func := "fumarole/fumarolelaw11.LeaseSprings", spec := "leaseSprings", unfollowed := true, recurses := true, apart := false, narrowed := true }
def LeaseSpringsUptoSaid : Prop := leaseSpringsUptoRow.holds Tryz.pinned (OpenSpec.upto leaseSpringsSpec)

/-- 'fumarolelaw11.LeaseDues', WHERE WHAT IT READS IS OF BULK AT MOST 1048576: true; the input reads as it did. -/
def leaseDuesUptoRow : OpenClaim := { program := "ytcccafphhmcifaagreat", sum := "853cb467cbe3000d2cc0c759040620c96dc8bc168ff655aa7c351eaa00f1c9db", func := "fumarole/fumarolelaw11.LeaseDues", spec := "leaseDues", unfollowed := true, recurses := true, apart := false, narrowed := true }
def LeaseDuesUptoSaid : Prop := leaseDuesUptoRow.holds Tryz.pinned (OpenSpec.upto leaseDuesSpec)

/-- 'fumarolelaw11.LeaseProves', WHERE WHAT IT READS IS OF BULK AT MOST 1048576: true; the input reads as it did. -/
def leaseProvesUptoRow : OpenClaim := { program := "ytcccafphhmcifaagreat", sum := "853cb467cbe3000d2cc0c759040620c96dc8bc168ff655aa7c351eaa00f1c9db", func := "fumarole/fumarolelaw11.LeaseProves", spec := "leaseProves", unfollowed := true, recurses := true, apart := false, narrowed := true }
def LeaseProvesUptoSaid : Prop := leaseProvesUptoRow.holds Tryz.pinned (OpenSpec.upto leaseProvesSpec)

/-- 'fumarolelaw11.LeaseOutlooks', WHERE WHAT IT READS IS OF BULK AT MOST 1048576: true; the input reads as it did. -/
def leaseOutlooksUptoRow : OpenClaim := { program := "ytcccafphhmcifaagreat", sum := "853cb467cbe3000d2cc0c759040620c96dc8bc168ff655aa7c351eaa00f1c9db", func := "fumarole/fumarolelaw11.LeaseOutlooks", spec := "leaseOutlooks", unfollowed := true, recurses := true, apart := false, narrowed := true }
def LeaseOutlooksUptoSaid : Prop := leaseOutlooksUptoRow.holds Tryz.pinned (OpenSpec.upto leaseOutlooksSpec)

/-- 'fumarolelaw11.LeaseCheapest', WHERE WHAT IT READS IS OF BULK AT MOST 1048576: true; the input reads as it did. -/
def leaseCheapestUptoRow : OpenClaim := { program := "ytcccafphhmcifaagreat", sum := "853cb467cbe3000d2cc0c759040620c96dc8bc168ff655aa7c351eaa00f1c9db", func := "fumarole/fumarolelaw11.LeaseCheapest", spec := "leaseCheapest", unfollowed := true, recurses := true, apart := false, narrowed := true }
def LeaseCheapestUptoSaid : Prop := leaseCheapestUptoRow.holds Tryz.pinned (OpenSpec.upto leaseCheapestSpec)

/-- 'fumarolelaw11.LeaseNames', WHERE WHAT IT READS IS OF BULK AT MOST 1048576: true; the input reads as it did. -/
def leaseNamesUptoRow : OpenClaim := { program := "ytcccafphhmcifaagreat", sum := "853cb467cbe3000d2cc0c759040620c96dc8bc168ff655aa7c351eaa00f1c9db", func := "fumarole/fumarolelaw11.LeaseNames", spec := "leaseNames", unfollowed := true, recurses := true, apart := false, narrowed := true }
def LeaseNamesUptoSaid : Prop := leaseNamesUptoRow.holds Tryz.pinned (OpenSpec.upto leaseNamesSpec)

end Rows
end Go.Proofs.YtcccafphhmcifaaGreat
