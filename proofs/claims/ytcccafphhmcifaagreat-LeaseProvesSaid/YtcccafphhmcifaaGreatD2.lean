/-
  Concessions of layer 11: the law's copies and the document's words.
-/
import Derived.Test.YtcccafphhmcifaaGreatD1
set_option linter.unusedVariables false
set_option linter.unusedSimpArgs false
namespace Go.Proofs.YtcccafphhmcifaaGreat
open Go Go.Abs Go.Lease
variable {σ : Stack}

@[simp] theorem ci {l : List Int} : D.cleanL (l.flatMap intE) = true := k_clean (fun x => by simp) _
@[simp] theorem cr {l : List (List Int)} : D.cleanL (l.flatMap rowE) = true := k_clean (fun x => by simp) _
theorem frz_ownN {l n s : Nat} {cs : List D} {σ : Stack} (h : D.cleanL cs = false) (hn : 0 < n) : frz l n (.own s cs) σ = (.own s (frz.frzL (frz l (n - 1)) cs σ).1, (frz.frzL (frz l (n - 1)) cs σ).2) := by
  obtain ⟨m, rfl⟩ : ∃ m, n = m + 1 := ⟨n - 1, by omega⟩
  conv => lhs; unfold frz
  simp [h]
def fewB (c : Cn) : Bool := allB c.l (fun r => decide ((r.length : Int) ≤ 12)) && decide ((c.l.length : Int) ≤ 25)
theorem fewB_iff {c : Cn} : fewB c = true ↔ Few c := by
  simp only [fewB, Bool.and_eq_true, allB_iff, decide_eq_true_eq, Few]
  constructor
  · rintro ⟨h1, h2⟩; exact ⟨by omega, fun r hr => by have := h1 r hr; omega⟩
  · rintro ⟨h1, h2⟩; exact ⟨fun r hr => by have := h2 r hr; omega, by omega⟩
theorem out_atS {α : Type} {f : α → List D} {w n : Nat} (hn : 1 < n) (hw : ∀ x, (f x).length = w) (hc : ∀ x, D.cleanL (f x) = true) {l : List α} {j v : Nat} {bs S F : List Blk} (hj : bs[j]? = some (.cells v (l.flatMap f))) :
    frz (σ.length + 1) n (.sl (σ.length + 1 + 1) j v 0 l.length w) (bs :: S :: F :: σ) = (.lst l.length (l.flatMap f), bs.set j .dead :: S :: F :: σ) := by
  have := out_at (σ := S :: F :: σ) hn hw hc (by simp) hj
  simpa using this
theorem C_listS {l : List Int} {S : List Blk} {G : Blk} {u : Nat} (hl : l.length ≤ 100000) : lim T (.call false i_law11_list [.sl σ.length 0 u 0 l.length 1] (S :: [.cells u (l.flatMap intE), G] :: σ)) = some (.val (.lst l.length (l.flatMap intE)) (S :: [.cells u (l.flatMap intE), G] :: σ)) := by
  refine call_of T_law11_list e_law11_list rfl ?_
  have h5 := flat_len (f := intE) (w := 1) (fun _ => rfl) l
  rw [Nat.mul_one] at h5
  have h6 : l.length * 8 ≤ room := by unfold room; omega
  have h8 : (l.flatMap intE).take l.length = l.flatMap intE := List.take_of_length_le (by omega)
  simp [-List.length_flatMap, -List.map_take, e_law11_list_r0, e_law11_list_r1, h5, h6, h8]
  rw [out_atS (n := 16) (f := intE) (w := 1) (by decide) (fun _ => rfl) (fun x => by simp) (by simp)]
  simp
end Go.Proofs.YtcccafphhmcifaaGreat
