/-
  Layer 4, between wells, in plain Lean: surveys, what is valid, sure observations, groups.
-/
import Derived.Test.YtehandllpmlcoaaTrialSpec
import Derived.Test.YtehandllpmlcoaaSurvPlain
set_option linter.unusedVariables false
set_option linter.unusedSimpArgs false
namespace Go.Trial
open Go Go.Abs

structure Seen where
  f : Int
  t : Int
  d : Rg
  deriving DecidableEq
structure Surv where
  w : Int
  lv : Int
  l : List Seen
@[simp] theorem Seen.eta (x : Seen) : Seen.mk x.f x.t x.d = x := rfl
@[simp] theorem Surv.eta (s : Surv) : Surv.mk s.w s.lv s.l = s := rfl
@[simp] def Seen.enc (x : Seen) : List D := [.int .i64 x.f, .int .i64 x.t, .int .i64 x.d.lo, .int .i64 x.d.hi]
@[simp] def Surv.enc (s : Surv) : List D := [.int .i64 s.w, .int .i64 s.lv, .lst s.l.length (s.l.flatMap Seen.enc)]
def seenOk (w : Int) (x : Seen) : Bool := inn x.f 0 (w - 1) && (inn x.t 0 (w - 1) && (!decide (x.f = x.t) && x.d.drops))
/-- The error of a survey: 0 (none), 1 (wrong), 3 (too many). -/
def sFault (s : Surv) : Int := if 60 < s.l.length then 3 else if inn s.w 1 10 && inn s.lv (-2000000000) 2000000000 then (if allB s.l (seenOk s.w) then 0 else 1) else 1
structure Sv (s : Surv) : Prop where
  n : s.l.length ≤ 60
  w : 1 ≤ s.w ∧ s.w ≤ 10
  lv : -2000000000 ≤ s.lv ∧ s.lv ≤ 2000000000
  l : ∀ x ∈ s.l, (0 ≤ x.f ∧ x.f < s.w) ∧ (0 ≤ x.t ∧ x.t < s.w) ∧ x.f ≠ x.t ∧ -2000000000 ≤ x.d.lo ∧ x.d.lo ≤ x.d.hi ∧ x.d.hi ≤ 2000000000
theorem sFault_sv {s : Surv} (h : sFault s = 0) : Sv s := by
  unfold sFault at h
  split at h
  · cases h
  rename_i h1
  split at h
  case isFalse => cases h
  rename_i h2
  split at h
  case isFalse => cases h
  rename_i h3
  rw [Bool.and_eq_true, inn_iff, inn_iff] at h2
  rw [allB_iff] at h3
  refine ⟨by omega, h2.1, h2.2, fun x hx => ?_⟩
  have h4 := h3 x hx
  simp only [seenOk, Bool.and_eq_true, inn_iff, Bool.not_eq_true', decide_eq_false_iff_not, Rg.drops, Rg.right, decide_eq_true_eq] at h4
  omega
def sure (s : Surv) (x : Seen) : Bool := decide (s.lv ≤ x.d.lo)
def agin (s : Surv) (x : Seen) : Bool := decide (x.d.hi < s.lv)
def edge (x : Seen) : Nat × Nat := (x.f.toNat, x.t.toNat)
def stpS (s : Surv) (g : Lab) (x : Seen) : Lab := if sure s x then stp g (edge x) else g
def edges (s : Surv) : List (Nat × Nat) := (s.l.filter (sure s)).map edge
theorem fold_stpS {s : Surv} : ∀ (l : List Seen) (g : Lab), l.foldl (stpS s) g = ((l.filter (sure s)).map edge).foldl stp g
  | [], g => rfl
  | x :: l, g => by
    rw [List.foldl_cons, fold_stpS l, List.filter_cons]
    unfold stpS
    split <;> rfl
theorem rnd_eq {s : Surv} (g : Lab) : rnd (edges s) g = s.l.foldl (stpS s) g := (fold_stpS _ _).symm
theorem edges_lt {s : Surv} (h : Sv s) : ∀ e ∈ edges s, e.1 < s.w.toNat ∧ e.2 < s.w.toNat := by
  intro e he
  simp only [edges, List.mem_map, List.mem_filter] at he
  obtain ⟨x, ⟨hx, _⟩, rfl⟩ := he
  have := h.l x hx
  simp only [edge]
  omega
/-- The groups. -/
def Gr (s : Surv) : Lab := rep (rnd (edges s)) s.w.toNat id
theorem Gr_fix {s : Surv} (h : Sv s) : rnd (edges s) (Gr s) = Gr s := settled (edges_lt h)
theorem Gr_edge {s : Surv} (h : Sv s) {x : Seen} (hx : x ∈ s.l) (hs : sure s x = true) : Gr s x.f.toNat = Gr s x.t.toNat :=
  fix_edge (Gr_fix h) (edge x) (by simp only [edges, List.mem_map, List.mem_filter]; exact ⟨x, ⟨hx, hs⟩, rfl⟩)
theorem rep_out {s : Surv} (h : Sv s) : ∀ (k : Nat) {z : Nat}, s.w.toNat ≤ z → rep (rnd (edges s)) k id z = z
  | 0, z, _ => rfl
  | k + 1, z, hz => by rw [rep, rnd_out (edges_lt h) _ hz, rep_out h k hz]
theorem Gr_le (s : Surv) (z : Nat) : Gr s z ≤ z := rep_le _ _ _ _
theorem rep_le_rep {s : Surv} (k z : Nat) : rep (rnd (edges s)) k id z ≤ z := rep_le _ _ _ _
/-- Is an observation a clash? -/
def clashT (s : Surv) (x : Seen) : Bool := agin s x && decide (Gr s x.f.toNat = Gr s x.t.toNat)
/-- The first one that is; -1: none is. -/
def clash (s : Surv) : Int := idxOf (clashT s) s.l
/-- The relation of two wells: 0 (no), 1 (maybe), 2 (yes). -/
def against (s : Surv) (a b : Nat) (x : Seen) : Bool := agin s x && ((decide (Gr s x.f.toNat = Gr s a) && decide (Gr s x.t.toNat = Gr s b)) || (decide (Gr s x.f.toNat = Gr s b) && decide (Gr s x.t.toNat = Gr s a)))
def relOf (s : Surv) (a b : Nat) : Int := if Gr s a = Gr s b then 2 else if anyB s.l (against s a b) then 0 else 1
end Go.Trial
