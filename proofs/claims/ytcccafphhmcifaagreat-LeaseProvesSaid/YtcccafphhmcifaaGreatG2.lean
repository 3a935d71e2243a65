/-
  Springs of layer 11: all flows, harm, the room, of the program.
-/
import Derived.Test.YtcccafphhmcifaaGreatG1
set_option linter.unusedVariables false
set_option linter.unusedSimpArgs false
namespace Go.Proofs.YtcccafphhmcifaaGreat
open Go Go.Abs Go.Lease
variable {σ : Stack}

theorem map_snoc {l : List Sp} {f : Sp → Rg} {j : Nat} {s : Sp} (h : l[j]? = some s) : ((l.take j).map f).flatMap Rg.enc ++ Rg.enc (f s) = ((l.take (j + 1)).map f).flatMap Rg.enc := by
  rw [List.take_add_one, h]
  simp
theorem which_snoc {p : Sp → Bool} {l : List Sp} {j : Nat} {s : Sp} (h : l[j]? = some s) : whichF p 0 (l.take (j + 1)) = whichF p 0 (l.take j) ++ (if p s then [(j : Int)] else []) := by
  have hj : j < l.length := (List.getElem?_eq_some_iff.1 h).1
  rw [List.take_add_one, h]
  simp only [Option.toList_some]
  rw [which_app]
  have : (l.take j).length = j := by simp; omega
  rw [this, Nat.zero_add]
theorem which_len (p : Sp → Bool) : ∀ (l : List Sp) (i : Nat), (whichF p i l).length ≤ l.length
  | [], _ => by simp [whichF]
  | a :: l, i => by
    have := which_len p l (i + 1)
    simp only [whichF]
    split <;> simp <;> omega
end Go.Proofs.YtcccafphhmcifaaGreat
