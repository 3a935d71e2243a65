/-
  TopParts: pulses.
-/
import Derived.Test.YtehandllpmlcoaaT5
set_option linter.unusedVariables false
set_option linter.unusedSimpArgs false
namespace Go.Proofs.Ytehandllpmlcoaa
open Go Go.Abs Go.Rock
variable {σ : Stack}

def bdL (n : Nat) : List D := [.int .i64 n, .int .i64 1, .int .i64 1, .int .i64 4, .lst 3 (three.flatMap Rw.enc), .int .i64 10000, .int .i64 0, .int .i64 0, .lst n ((rowB n).wells.flatMap Bore.enc)]
def mdL (os : List Int) : List D := [.str [109], .lst (rowM os).vals.length ((rowM os).vals.flatMap intE)]
theorem idl_plan {n : Nat} (hn : 1 ≤ n ∧ n ≤ 8) {t : List (List Int)} (ht : t.length ≤ 200) (hr : ∀ r ∈ t, r.length = n ∧ ∀ x ∈ r, x = 0 ∨ x = -2000) : planE (rowB n) t = 0 := by
  unfold planE
  rw [if_neg (by omega)]
  have key : ∀ l : List (List Int), (∀ r ∈ l, r.length = n ∧ ∀ x ∈ r, x = 0 ∨ x = -2000) → firstE (ratesE (rowB n)) l = 0 := by
    intro l
    induction l with
    | nil => intro _; rfl
    | cons a l ih =>
      intro h
      obtain ⟨h1, h2⟩ := h a (by simp)
      have : ratesE (rowB n) a = 0 := by
        unfold ratesE
        rw [if_pos (by rw [h1, row_wells]), if_pos]
        exact allB_iff.2 fun x hx => inn_iff.2 (by rcases h2 x hx with rfl | rfl <;> omega)
      simp only [firstE, this, if_true]
      exact ih fun r hr => h r (by simp [hr])
  exact key t hr
theorem C_playR {os : List Int} (hn : 1 ≤ os.length ∧ os.length ≤ 8) (hos : ∀ o ∈ os, 0 ≤ o ∧ o ≤ 255) {t : List (List Int)} (ht : t.length ≤ 200) (hr : ∀ r ∈ t, r.length = os.length ∧ ∀ x ∈ r, x = 0 ∨ x = -2000)
    {ss ys : List (List Rock.Blk)} (hrun : Rock.run (rowB os.length) (rowM os) t = some (ss, ys)) (hσ : σ ≠ []) :
    lim T (.call false i_rock_Play [.agg (bdL os.length), .agg (mdL os), .lst t.length (t.flatMap inL)] σ) = some (.val (.tup [.agg [.lst ss.length (ss.flatMap stL), .lst ys.length (ys.flatMap stL)], .int .i64 0]) σ) := by
  have hP := C_Play (σ := σ) (b := rowB os.length) (m := rowM os) (plan := t) (show (3 : Nat) ≤ _ by decide) (by rw [row_wells]; omega) (show (1 : Nat) ≤ _ by decide) (by rw [vals_len]; omega) (by omega) (fun l hl => by rw [(hr l hl).1]; omega) hσ
  have hE : playE (rowB os.length) (rowM os) t = 0 := by simp [playE, row_bd hn hos, idl_plan hn ht hr, hrun]
  have hD : playD (rowB os.length) (rowM os) t = .agg [.lst ss.length (ss.flatMap stL), .lst ys.length (ys.flatMap stL)] := by simp [playD, hE, hrun]
  rw [hE, hD, row_wells] at hP
  exact hP
theorem C_pressR {os : List Int} (hn : 1 ≤ os.length ∧ os.length ≤ 8) (hos : ∀ o ∈ os, 0 ≤ o ∧ o ≤ 255) {P : Nat → Int} {c : Int} {s : List Rock.Blk} (hs : Cold os.length P c 1000000 s) (hσ : σ ≠ []) :
    lim T (.call false i_rock_Pressures [.agg (bdL os.length), .agg (mdL os), .lst s.length (s.flatMap Blk.enc)] σ) = some (.val (.tup [.lst os.length ((pressures (rowB os.length) (rowM os) s).flatMap intE), .int .i64 0]) σ) := by
  have hP := C_Pressures (σ := σ) (b := rowB os.length) (m := rowM os) (s := s) (show (3 : Nat) ≤ _ by decide) (by rw [row_wells]; omega) (show (1 : Nat) ≤ _ by decide) (by rw [vals_len]; omega) (by rw [hs.len]; omega) hσ
  have hD : pressD (rowB os.length) (rowM os) s = .tup [.lst os.length ((pressures (rowB os.length) (rowM os) s).flatMap intE), .int .i64 0] := by
    simp [pressD, pressOk, row_bd hn hos, cold_ok hs (by omega), (cold_pressures hs).1]
  rw [hD, row_wells] at hP
  exact hP
theorem parts_hP {os : List Int} (hos : ∀ o ∈ os, 0 ≤ o ∧ o ≤ 255) : ∀ i, i + 1 < os.length → 0 < opnOf ((os[i]?).getD 0) → 0 < opnOf ((os[i + 1]?).getD 0) → prOs os i = prOs os (i + 1) := by
  intro i hi h1 h2
  have key : ∀ o : Int, 0 < opnOf o → ¬ o.tmod 3 = 0 := by
    intro o ho hh
    unfold opnOf at ho
    rw [hh] at ho
    simp at ho
  have k1 := key _ h1
  have k2 := key _ h2
  simp [prOs, shut, k1, k2]
theorem psAt_pAt {os : List Int} {j : Nat} (hj : j < os.length) : Srv.pAt (psAt os os.length) j = prOs os j := by
  simp only [Srv.pAt, Int.toNat_natCast]
  rw [psAt_get hj (Nat.le_refl _)]; rfl
/-- What a pulse makes felt lies in its part. -/
theorem felt_of {os : List Int} (hn : 1 ≤ os.length ∧ os.length ≤ 8) {w j : Nat} {a : Int} {s : List Rock.Blk} (hs : Cold os.length (prOs os) (prOs os w) 1000000 s) (hw : w < os.length) (hj : j < os.length) (hne : j ≠ w)
    (ha : (pressures (rowB os.length) (rowM os) s)[j]? = some a) (hp : 0 < a) : Felt os.length (psAt os os.length) ⟨w, j, ⟨a, a⟩⟩ := by
  rw [(cold_pressures hs).2 j hj] at ha
  obtain ⟨h1, h2, h3, h4, h5⟩ := hs.at_ j hj
  simp only [Option.some.injEq] at ha
  refine ⟨⟨by simp, by simpa using hw⟩, ⟨by simp, by simpa using hj⟩, by simp only; omega, ⟨by simp only; omega, by simp only; omega, rfl⟩, ?_⟩
  simp only
  rw [psAt_pAt hw, psAt_pAt hj]
  rcases Classical.em (prOs os j = prOs os w) with h | h
  · exact h.symm
  · have := h5 h; omega
theorem press_ok {os : List Int} {P : Nat → Int} {c : Int} {s : List Rock.Blk} (hs : Cold os.length P c 1000000 s) : ∀ x ∈ pressures (rowB os.length) (rowM os) s, 0 ≤ x ∧ x ≤ 2000000000 := by
  intro x hx
  obtain ⟨j, hj⟩ := List.getElem?_of_mem hx
  have hjn : j < os.length := by have := (List.getElem?_eq_some_iff.1 hj).1; rw [(cold_pressures hs).1] at this; exact this
  rw [(cold_pressures hs).2 j hjn] at hj
  obtain ⟨h1, h2, h3, h4, h5⟩ := hs.at_ j hjn
  simp only [Option.some.injEq] at hj
  omega
end Go.Proofs.Ytehandllpmlcoaa
