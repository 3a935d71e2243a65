/-
  The lattice: as a list, and as a loop over a function.
-/
import Derived.Test.YticpenoicajakaaGreatK5
import Derived.Test.YticpenoicajakaaGreatBase2
set_option linter.unusedVariables false
set_option linter.unusedSimpArgs false
namespace Go.Trem
open Go Go.Abs

theorem prog_mem {lo hi st x : Int} (hs : 0 < st) (h : x ∈ prog lo hi st) : lo ≤ x ∧ x ≤ hi := by
  simp only [prog, List.mem_map, List.mem_range] at h
  obtain ⟨i, hi', rfl⟩ := h
  have h1 : 0 ≤ (i : Int) * st := Int.mul_nonneg (by omega) (by omega)
  have h2 : (i : Int) ≤ (hi - lo) / st := by omega
  have h3 : (i : Int) * st ≤ (hi - lo) / st * st := Int.mul_le_mul_of_nonneg_right h2 (by omega)
  have h4 : (hi - lo) / st * st ≤ hi - lo := Int.ediv_mul_le _ (by omega)
  omega

theorem len_flat {α β : Type} {f : α → List β} {c : Nat} {l : List α} (h : ∀ x ∈ l, (f x).length = c) : (l.flatMap f).length = l.length * c := by
  induction l with
  | nil => simp
  | cons a l ih =>
    rw [List.flatMap_cons, List.length_append, h a (by simp), ih fun x hx => h x (by simp [hx]), List.length_cons, Nat.succ_mul]
    omega

theorem zs_len {n : Net} {x y z : Int} : (zs n x y z).length = (prog z n.high.z n.step).length := by simp [zs]
theorem ys_len {n : Net} {x y : Int} : (ys n x y).length = (prog y n.high.y n.step).length * (prog n.low.z n.high.z n.step).length := len_flat fun _ _ => zs_len
theorem xs_len {n : Net} {x : Int} : (xs n x).length = (prog x n.high.x n.step).length * ((prog n.low.y n.high.y n.step).length * (prog n.low.z n.high.z n.step).length) := len_flat fun _ _ => ys_len
theorem prog_len {lo hi st : Int} (h : lo ≤ hi) (hs : 0 < st) : ((prog lo hi st).length : Int) = (hi - lo).tdiv st + 1 := by
  have : 0 ≤ (hi - lo) / st := Int.ediv_nonneg (by omega) (by omega)
  rw [Int.tdiv_eq_ediv_of_nonneg (by omega)]
  simp only [prog, List.length_map, List.length_range]
  omega

theorem zs_nil {n : Net} {x y z : Int} (h : n.high.z < z) (hs : 0 < n.step) : zs n x y z = [] := by simp [zs, prog_nil h hs]
theorem zs_cons {n : Net} {x y z : Int} (h : z ≤ n.high.z) (hs : 0 < n.step) : zs n x y z = ⟨x, y, z⟩ :: zs n x y (z + n.step) := by simp [zs, prog_cons h hs]
theorem ys_nil {n : Net} {x y : Int} (h : n.high.y < y) (hs : 0 < n.step) : ys n x y = [] := by simp [ys, prog_nil h hs]
theorem ys_cons {n : Net} {x y : Int} (h : y ≤ n.high.y) (hs : 0 < n.step) : ys n x y = zs n x y n.low.z ++ ys n x (y + n.step) := by simp [ys, prog_cons h hs]
theorem xs_nil {n : Net} {x : Int} (h : n.high.x < x) (hs : 0 < n.step) : xs n x = [] := by simp [xs, prog_nil h hs]
theorem xs_cons {n : Net} {x : Int} (h : x ≤ n.high.x) (hs : 0 < n.step) : xs n x = ys n x n.low.y ++ xs n (x + n.step) := by simp [xs, prog_cons h hs]

end Go.Trem
namespace Go.Proofs.YticpenoicajakaaGreat
open Go Go.Abs Go.Trem
variable {σ : Stack}

/-- The box of a valid network, and its step. -/
structure Bx (n : Net) : Prop where
  st : 1 ≤ n.step ∧ n.step ≤ 20000
  lx : -20000 ≤ n.low.x ∧ n.low.x ≤ 20000
  ly : -20000 ≤ n.low.y ∧ n.low.y ≤ 20000
  lz : -20000 ≤ n.low.z ∧ n.low.z ≤ 20000
  hx : n.low.x ≤ n.high.x ∧ n.high.x ≤ 20000
  hy : n.low.y ≤ n.high.y ∧ n.high.y ≤ 20000
  hz : n.low.z ≤ n.high.z ∧ n.high.z ≤ 20000
  len : (lattice n).length ≤ 2000

theorem net_bx {n : Net} (h : n.ok = true) : Bx n := by
  simp only [Net.ok, Bool.and_eq_true, decide_eq_true_eq] at h
  have h0 := net_pre.1 h.1
  simp only [Pt.ok_iff] at h0
  refine ⟨by omega, by omega, by omega, by omega, by omega, by omega, by omega, ?_⟩
  have h1 := h.2
  have e1 := prog_len (lo := n.low.x) (hi := n.high.x) (st := n.step) (by omega) (by omega)
  have e2 := prog_len (lo := n.low.y) (hi := n.high.y) (st := n.step) (by omega) (by omega)
  have e3 := prog_len (lo := n.low.z) (hi := n.high.z) (st := n.step) (by omega) (by omega)
  unfold Net.count steps at h1
  rw [← e1, ← e2, ← e3] at h1
  have h2 : ((lattice n).length : Int) ≤ 2000 := by
    unfold lattice
    rw [xs_len]
    push_cast
    rw [← Int.mul_assoc]
    exact h1
  omega

theorem lattice_ok {n : Net} (h : Bx n) {p : Pt} (hp : p ∈ lattice n) : p.ok = true := by
  have h0 := h.st
  have a1 := h.lx
  have a2 := h.ly
  have a3 := h.lz
  have b1 := h.hx
  have b2 := h.hy
  have b3 := h.hz
  simp only [lattice, xs, ys, zs, List.mem_flatMap, List.mem_map] at hp
  obtain ⟨x, hx, y, hy, z, hz, rfl⟩ := hp
  have h1 := prog_mem (by omega) hx
  have h2 := prog_mem (by omega) hy
  have h3 := prog_mem (by omega) hz
  rw [Pt.ok_iff]
  dsimp only
  omega

theorem flat_self {α : Type} {f : α → List D} {w : Nat} (hw : ∀ x, (f x).length = w) (l : List α) : (l.flatMap f).take (l.length * w) = l.flatMap f :=
  List.take_of_length_le (by rw [flat_len hw]; exact Nat.le_refl _)

/-- One element more, at the end of the newest segment's block j. -/
theorem cleanPts (l : List Pt) : D.cleanL (l.flatMap Pt.enc) = true := cleanL_flat fun x _ => by simp

/-- A slice of the newest segment, written out at the end of a call. -/
theorem frz_out {α : Type} {f : α → List D} {w : Nat} (hw : ∀ x, (f x).length = w) (hc : ∀ x, D.cleanL (f x) = true) {l : List α} {j v : Nat} {bs : List Blk} (hσ : σ ≠ []) (hj : bs[j]? = some (.cells v (l.flatMap f))) :
    frz (σ.length - 1) 16 (.sl σ.length j v 0 l.length w) (bs :: σ) = (.lst l.length (l.flatMap f), bs.set j .dead :: σ) := by
  have h3 : ¬ σ.length ≤ σ.length - 1 := by have := List.length_pos_iff.2 hσ; omega
  rw [frz_sl h3 (cs := l.flatMap f) (by simp [hj]) (by omega)]
  have h4 := flat_self hw l
  have h5 : D.cleanL (l.flatMap f) = true := cleanL_flat fun x _ => hc x
  simp [h4, h5]

end Go.Proofs.YticpenoicajakaaGreat
