/-
  No cell of these rows narrows 'for every input' (looked for: loops, veiled, ifaces, maps, wideKeys, modest, calm, conditions, laid).
  DERIVED. THE GIVEN ROWS OF THIS SEAT. 9 by the template 'for every input the law returns true; each argument reads behind the call as it read before'; 0 by the template 'total and deterministic' (their statements: YtcccafphhmcifaaTotals.lean).
  GIVEN WITH THE SEED: the statements are not yours to turn. If you find one false, say at which input.
  Laid BY PROGRAM, IN A SANDBOX (cutbox-rows.mjs): the forced cells as the released guide's own fill.sh prints them over the translation 924b4070729c9344… (all of the seat's roots in one cut). By AI agents, Wed Nov 11 2026. No macro, syntax, notation, axiom, sorry.
-/
import Derived.Test.YtcccafphhmcifaaChecked
import GoSem.Claim
import GoSem.ClaimJoined
import GoSem.ClaimMapViews
import Derived.JoinedTies
import Derived.KernelRfl
namespace Go.Proofs.Ytcccafphhmcifaa
/- THE CELL 'sum', in the pinned program and in every row, IS THE sha256 OF THE DUMP (.gsa) THAT YtcccafphhmcifaaProg.lean LOADS. Nothing in Lean hashes anything: it is a label: what it is worth is what the hold of that sum in a sandbox is worth. -/
noncomputable def Try.pinned : Pinned := { name := "ytcccafphhmcifaa", sum := "924b4070729c9344844cfb926aba54e79720a89d4440735e009ff35336292891", checked := Try.checked }
namespace Rows
def none {H : Type} : Left H := { results := [], args := [] }

/-- 'fumarolelaw11.LeaseSplits': WHATEVER THE INPUT: true; the input reads as it did. -/
def leaseSplitsSpec : ChangeSpec := { name := "leaseSplits", fn := fun _ => fun
  | [d1, d2] => { results := [.lit (.bool true)], args := [d1, d2] }
  | _ => none }
def leaseSplitsRow : OpenClaim := { program := "ytcccafphhmcifaa", sum := "924b4070729c9344844cfb926aba54e79720a89d4440735e009ff35336292891", func := "fumarole/fumarolelaw11.LeaseSplits", spec := "leaseSplits", unfollowed := true, recurses := true, apart := false }
def LeaseSplitsSaid : Prop := leaseSplitsRow.holds Try.pinned (OpenSpec.ofChange leaseSplitsSpec)

/-- ITS FALSE NEIGHBOUR: 'it returns false'. Refute it at one input. -/
def leaseSplitsWrong : ChangeSpec := { name := "leaseSplits", fn := fun _ => fun
  | [d1, d2] => { results := [.lit (.bool false)], args := [d1, d2] }
  | _ => none }
def LeaseSplitsWrongFalsely : Prop := leaseSplitsRow.holds Try.pinned (OpenSpec.ofChange leaseSplitsWrong)

/-- 'fumarolelaw11.LeaseFair': WHATEVER THE INPUT: true; the input reads as it did. -/
def leaseFairSpec : ChangeSpec := { name := "leaseFair", fn := fun _ => fun
  | [d1, d2] => { results := [.lit (.bool true)], args := [d1, d2] }
  | _ => none }
def leaseFairRow : OpenClaim := { program := "ytcccafphhmcifaa", sum := "924b4070729c9344844cfb926aba54e79720a89d4440735e009ff35336292891", func := "fumarole/fumarolelaw11.LeaseFair", spec := "leaseFair", unfollowed := true, recurses := true, apart := false }
def LeaseFairSaid : Prop := leaseFairRow.holds Try.pinned (OpenSpec.ofChange leaseFairSpec)

/-- ITS FALSE NEIGHBOUR: 'it returns false'. Refute it at one input. -/
def leaseFairWrong : ChangeSpec := { name := "leaseFair", fn := fun _ => fun
  | [d1, d2] => { results := [.lit (.bool false)], args := [d1, d2] }
  | _ => none }
def LeaseFairWrongFalsely : Prop := leaseFairRow.holds Try.pinned (OpenSpec.ofChange leaseFairWrong)

/-- 'fumarolelaw11.LeaseEither': WHATEVER THE INPUT: true; the input reads as it did. -/
def leaseEitherSpec : ChangeSpec := { name := "leaseEither", fn := fun _ => fun
  | [d] => { results := [.lit (.bool true)], args := [d] }
  | _ => none }
def leaseEitherRow : OpenClaim := { program := "ytcccafphhmcifaa", sum := "924b4070729c9344844cfb926aba54e79720a89d4440735e009ff35336292891", func := "fumarole/fumarolelaw11.LeaseEither", spec := "leaseEither", unfollowed := true, recurses := true, apart := false }
def LeaseEitherSaid : Prop := leaseEitherRow.holds Try.pinned (OpenSpec.ofChange leaseEitherSpec)

/-- ITS FALSE NEIGHBOUR: 'it returns false'. Refute it at one input. -/
def leaseEitherWrong : ChangeSpec := { name := "leaseEither", fn := fun _ => fun
  | [d] => { results := [.lit (.bool false)], args := [d] }
  | _ => none }
def LeaseEitherWrongFalsely : Prop := leaseEitherRow.holds Try.pinned (OpenSpec.ofChange leaseEitherWrong)

/-- 'fumarolelaw11.LeaseLeasts': WHATEVER THE INPUT: true; the input reads as it did. -/
def leaseLeastsSpec : ChangeSpec := { name := "leaseLeasts", fn := fun _ => fun
  | [d1, d2, d3] => { results := [.lit (.bool true)], args := [d1, d2, d3] }
  | _ => none }
def leaseLeastsRow : OpenClaim := { program := "ytcccafphhmcifaa", sum := "924b4070729c9344844cfb926aba54e79720a89d4440735e009ff35336292891", func := "fumarole/fumarolelaw11.LeaseLeasts", spec := "leaseLeasts", unfollowed := true, recurses := true, apart := false }
def LeaseLeastsSaid : Prop := leaseLeastsRow.holds Try.pinned (OpenSpec.ofChange leaseLeastsSpec)

/-- ITS FALSE NEIGHBOUR: 'it returns false'. Refute it at one input. -/
def leaseLeastsWrong : ChangeSpec := { name := "leaseLeasts", fn := fun _ => fun
  | [d1, d2, d3] => { results := [.lit (.bool false)], args := [d1, d2, d3] }
  | _ => none }
def LeaseLeastsWrongFalsely : Prop := leaseLeastsRow.holds Try.pinned (OpenSpec.ofChange leaseLeastsWrong)

/-- 'fumarolelaw11.LeaseWider': WHATEVER THE INPUT: true; the input reads as it did. -/
def leaseWiderSpec : ChangeSpec := { name := "leaseWider", fn := fun _ => fun
  | [d1, d2, d3, d4] => { results := [.lit (.bool true)], args := [d1, d2, d3, d4] }
  | _ => none }
def leaseWiderRow : OpenClaim := { program := "ytcccafphhmcifaa", sum := "924b4070729c9344844cfb926aba54e79720a89d4440735e009ff35336292891", func := "fumarole/fumarolelaw11.LeaseWider", spec := "leaseWider", unfollowed := true, recurses := true, apart := false }
def LeaseWiderSaid : Prop := leaseWiderRow.holds Try.pinned (OpenSpec.ofChange leaseWiderSpec)

/-- ITS FALSE NEIGHBOUR: 'it returns false'. Refute it at one input. -/
def leaseWiderWrong : ChangeSpec := { name := "leaseWider", fn := fun _ => fun
  | [d1, d2, d3, d4] => { results := [.lit (.bool false)], args := [d1, d2, d3, d4] }
  | _ => none }
def LeaseWiderWrongFalsely : Prop := leaseWiderRow.holds Try.pinned (OpenSpec.ofChange leaseWiderWrong)

/-- 'fumarolelaw11.LeaseSafe': WHATEVER THE INPUT: true; the input reads as it did. -/
def leaseSafeSpec : ChangeSpec := { name := "leaseSafe", fn := fun _ => fun
  | [d1, d2, d3, d4] => { results := [.lit (.bool true)], args := [d1, d2, d3, d4] }
  | _ => none }
def leaseSafeRow : OpenClaim := { program := "ytcccafphhmcifaa", sum := "924b4070729c9344844cfb926aba54e79720a89d4440735e009ff35336292891", func := "fumarole/fumarolelaw11.LeaseSafe", spec := "leaseSafe", unfollowed := true, recurses := true, apart := false }
def LeaseSafeSaid : Prop := leaseSafeRow.holds Try.pinned (OpenSpec.ofChange leaseSafeSpec)

/-- ITS FALSE NEIGHBOUR: 'it returns false'. Refute it at one input. -/
def leaseSafeWrong : ChangeSpec := { name := "leaseSafe", fn := fun _ => fun
  | [d1, d2, d3, d4] => { results := [.lit (.bool false)], args := [d1, d2, d3, d4] }
  | _ => none }
def LeaseSafeWrongFalsely : Prop := leaseSafeRow.holds Try.pinned (OpenSpec.ofChange leaseSafeWrong)

/-- 'fumarolelaw11.LeaseRoyalties': WHATEVER THE INPUT: true; the input reads as it did. -/
def leaseRoyaltiesSpec : ChangeSpec := { name := "leaseRoyalties", fn := fun _ => fun
  | [d1, d2, d3] => { results := [.lit (.bool true)], args := [d1, d2, d3] }
  | _ => none }
def leaseRoyaltiesRow : OpenClaim := { program := "ytcccafphhmcifaa", sum := "924b4070729c9344844cfb926aba54e79720a89d4440735e009ff35336292891", func := "fumarole/fumarolelaw11.LeaseRoyalties", spec := "leaseRoyalties", unfollowed := true, recurses := true, apart := false }
def LeaseRoyaltiesSaid : Prop := leaseRoyaltiesRow.holds Try.pinned (OpenSpec.ofChange leaseRoyaltiesSpec)

/-- ITS FALSE NEIGHBOUR: 'it returns false'. Refute it at one input. -/
def leaseRoyaltiesWrong : ChangeSpec := { name := "leaseRoyalties", fn := fun _ => fun
  | [d1, d2, d3] => { results := [.lit (.bool false)], args := [d1, d2, d3] }
  | _ => none }
def LeaseRoyaltiesWrongFalsely : Prop := leaseRoyaltiesRow.holds Try.pinned (OpenSpec.ofChange leaseRoyaltiesWrong)

/-- 'fumarolelaw11.LeaseMore': WHATEVER THE INPUT: true; the input reads as it did. -/
def leaseMoreSpec : ChangeSpec := { name := "leaseMore", fn := fun _ => fun
  | [d1, d2, d3, d4, d5] => { results := [.lit (.bool true)], args := [d1, d2, d3, d4, d5] }
  | _ => none }
def leaseMoreRow : OpenClaim := { program := "ytcccafphhmcifaa", sum := "924b4070729c9344844cfb926aba54e79720a89d4440735e009ff35336292891", func := "fumarole/fumarolelaw11.LeaseMore", spec := "leaseMore", unfollowed := true, recurses := true, apart := false }
def LeaseMoreSaid : Prop := leaseMoreRow.holds Try.pinned (OpenSpec.ofChange leaseMoreSpec)

/-- ITS FALSE NEIGHBOUR: 'it returns false'. Refute it at one input. -/
def leaseMoreWrong : ChangeSpec := { name := "leaseMore", fn := fun _ => fun
  | [d1, d2, d3, d4, d5] => { results := [.lit (.bool false)], args := [d1, d2, d3, d4, d5] }
  | _ => none }
def LeaseMoreWrongFalsely : Prop := leaseMoreRow.holds Try.pinned (OpenSpec.ofChange leaseMoreWrong)

/-- 'fumarolelaw11.LeaseAll': WHATEVER THE INPUT: true; the input reads as it did. -/
def leaseAllSpec : ChangeSpec := { name := "leaseAll", fn := fun _ => fun
  | [d1, d2] => { results := [.lit (.bool true)], args := [d1, d2] }
  | _ => none }
def leaseAllRow : OpenClaim := { program := "ytcccafphhmcifaa", sum := "924b4070729c9344844cfb926aba54e79720a89d4440735e009ff35336292891", func := "fumarole/fumarolelaw11.LeaseAll", spec := "leaseAll", unfollowed := true, recurses := true, apart := false }
def LeaseAllSaid : Prop := leaseAllRow.holds Try.pinned (OpenSpec.ofChange leaseAllSpec)

/-- ITS FALSE NEIGHBOUR: 'it returns false'. Refute it at one input. -/
def leaseAllWrong : ChangeSpec := { name := "leaseAll", fn := fun _ => fun
  | [d1, d2] => { results := [.lit (.bool false)], args := [d1, d2] }
  | _ => none }
def LeaseAllWrongFalsely : Prop := leaseAllRow.holds Try.pinned (OpenSpec.ofChange leaseAllWrong)

/- THE SECOND FORM. 'bulk': how many values and letters a reading holds, each counted each time it is reached (what is shared counts as often as it is met; a slice's spare places count too). A statement '..UptoSaid' is the law's where the arguments, and the package variables that the reading takes, are together of bulk at most 1048576: NARROWER than '..Said'. Prove '..Said' where nothing that the law and all that it calls make is longer than what came in: it says more and counts as full. Else prove '..UptoSaid'. A law counts once. -/
mutual
def uptoBulk {H : Type} : DataW H → Nat
  | .lit (.string bytes) => bytes.length + 1
  | .lit _ => 1
  | .nil => 1
  | .ptr d => uptoBulk d + 1
  | .slice elems spare => uptoBulkAll elems + uptoBulkAll spare + 1
  | .agg parts => uptoBulkAll parts + 1
  | .iface _ d => uptoBulk d + 1
  | .map entries => uptoBulkEntries entries + 1
  | .held _ => 1
def uptoBulkAll {H : Type} : List (DataW H) → Nat
  | [] => 0
  | d :: r => uptoBulk d + uptoBulkAll r
def uptoBulkEntries {H : Type} : List (Lit × DataW H) → Nat
  | [] => 0
  | x :: r => uptoBulkEntry x + uptoBulkEntries r
def uptoBulkEntry {H : Type} : Lit × DataW H → Nat
  | (.string bytes, d) => bytes.length + uptoBulk d + 1
  | (_, d) => uptoBulk d + 1
 end
def uptoSmall : (H : Type) → List (DataW H) → Bool := fun _ ds => decide (uptoBulkAll ds ≤ 1048576)
def OpenSpec.upto (s : _root_.Go.ChangeSpec) : _root_.Go.OpenSpec := { _root_.Go.OpenSpec.ofChange s with cond := some uptoSmall }

/-- 'fumarolelaw11.LeaseSplits', WHERE WHAT IT READS IS OF BULK AT MOST 1048576: true; the input reads as it did. -/
def leaseSplitsUptoRow : OpenClaim := { program := "ytcccafphhmcifaa", sum := "924b4070729c9344844cfb926aba54e79720a89d4440735e009ff35336292891", func := "fumarole/fumarolelaw11.LeaseSplits", spec := "leaseSplits", unfollowed := true, recurses := true, apart := false, narrowed := true }
def LeaseSplitsUptoSaid : Prop := leaseSplitsUptoRow.holds Try.pinned (OpenSpec.upto leaseSplitsSpec)

/-- 'fumarolelaw11.LeaseFair', WHERE WHAT IT READS IS OF BULK AT MOST 1048576: true; the input reads as it did. -/
def leaseFairUptoRow : OpenClaim := { program := "ytcccafphhmcifaa", sum := "924b4070729c9344844cfb926aba54e79720a89d4440735e009ff35336292891", func := "fumarole/fumarolelaw11.LeaseFair", spec := "leaseFair", unfollowed := true, recurses := true, apart := false, narrowed := true }
def LeaseFairUptoSaid : Prop := leaseFairUptoRow.holds Try.pinned (OpenSpec.upto leaseFairSpec)

/-- 'fumarolelaw11.LeaseEither', WHERE WHAT IT READS IS OF BULK AT MOST 1048576: true; the input reads as it did. -/
def leaseEitherUptoRow : OpenClaim := { program := "ytcccafphhmcifaa", sum := "924b4070729c9344844cfb926aba54e79720a89d4440735e009ff35336292891", func := "fumarole/fumarolelaw11.LeaseEither", spec := "leaseEither", unfollowed := true, recurses := true, apart := false, narrowed := true }
def LeaseEitherUptoSaid : Prop := leaseEitherUptoRow.holds Try.pinned (OpenSpec.upto leaseEitherSpec)

/-- 'fumarolelaw11.LeaseLeasts', WHERE WHAT IT READS IS OF BULK AT MOST 1048576: true; the input reads as it did. -/
def leaseLeastsUptoRow : OpenClaim := { program := "ytcccafphhmcifaa", sum := "924b4070729c9344844cfb926aba54e79720a89d4440735e009ff35336292891", func := "fumarole/fumarolelaw11.LeaseLeasts", spec := "leaseLeasts", unfollowed := true, recurses := true, apart := false, narrowed := true }
def LeaseLeastsUptoSaid : Prop := leaseLeastsUptoRow.holds Try.pinned (OpenSpec.upto leaseLeastsSpec)

/-- 'fumarolelaw11.LeaseWider', WHERE WHAT IT READS IS OF BULK AT MOST 1048576: true; the input reads as it did. -/
def leaseWiderUptoRow : OpenClaim := { program := "ytcccafphhmcifaa", sum := "924b4070729c9344844cfb926aba54e79720a89d4440735e009ff35336292891", func := "fumarole/fumarolelaw11.LeaseWider", spec := "leaseWider", unfollowed := true, recurses := true, apart := false, narrowed := true }
def LeaseWiderUptoSaid : Prop := leaseWiderUptoRow.holds Try.pinned (OpenSpec.upto leaseWiderSpec)

/-- 'fumarolelaw11.LeaseSafe', WHERE WHAT IT READS IS OF BULK AT MOST 1048576: true; the input reads as it did. -/
def leaseSafeUptoRow : OpenClaim := { program := "ytcccafphhmcifaa", sum := "924b4070729c9344844cfb926aba54e79720a89d4440735e009ff35336292891", func := "fumarole/fumarolelaw11.LeaseSafe", spec := "leaseSafe", unfollowed := true, recurses := true, apart := false, narrowed := true }
def LeaseSafeUptoSaid : Prop := leaseSafeUptoRow.holds Try.pinned (OpenSpec.upto leaseSafeSpec)

/-- 'fumarolelaw11.LeaseRoyalties', WHERE WHAT IT READS IS OF BULK AT MOST 1048576: true; the input reads as it did. -/
def leaseRoyaltiesUptoRow : OpenClaim := { program := "ytcccafphhmcifaa", sum := "924b4070729c9344844cfb926aba54e79720a89d4440735e009ff35336292891", func := "fumarole/fumarolelaw11.LeaseRoyalties", spec := "leaseRoyalties", unfollowed := true, recurses := true, apart := false, narrowed := true }
def LeaseRoyaltiesUptoSaid : Prop := leaseRoyaltiesUptoRow.holds Try.pinned (OpenSpec.upto leaseRoyaltiesSpec)

/-- 'fumarolelaw11.LeaseMore', WHERE WHAT IT READS IS OF BULK AT MOST 1048576: true; the input reads as it did. -/
def leaseMoreUptoRow : OpenClaim := { program := "ytcccafphhmcifaa", sum := "924b4070729c9344844cfb926aba54e79720a89d4440735e009ff35336292891", func := "fumarole/fumarolelaw11.LeaseMore", spec := "leaseMore", unfollowed := true, recurses := true, apart := false, narrowed := true }
def LeaseMoreUptoSaid : Prop := leaseMoreUptoRow.holds Try.pinned (OpenSpec.upto leaseMoreSpec)

/-- 'fumarolelaw11.LeaseAll', WHERE WHAT IT READS IS OF BULK AT MOST 1048576: true; the input reads as it did. -/
def leaseAllUptoRow : OpenClaim := { program := "ytcccafphhmcifaa", sum := "924b4070729c9344844cfb926aba54e79720a89d4440735e009ff35336292891", func := "fumarole/fumarolelaw11.LeaseAll", spec := "leaseAll", unfollowed := true, recurses := true, apart := false, narrowed := true }
def LeaseAllUptoSaid : Prop := leaseAllUptoRow.holds Try.pinned (OpenSpec.upto leaseAllSpec)

end Rows
end Go.Proofs.Ytcccafphhmcifaa
