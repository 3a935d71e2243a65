/- What functions of the program answer, and what follows; part 3. -/
import Derived.Test.YtehandllpmlcoaaGreatTxt2
import Derived.Test.YtehandllpmlcoaaGreatBase3
/-
  What is read in a run.
-/
set_option linter.unusedVariables false
set_option linter.unusedSimpArgs false
set_option maxRecDepth 100000
namespace Go.Proofs.YtehandllpmlcoaaGreat
open Go Go.Abs Go.Rock
variable {σ : Stack}

theorem C_reading {b : Bed} {x : Rdg} {n : Nat} (h : Bv b) (hw : 0 ≤ x.what ∧ x.what ≤ 255) :
    lim T (.call false i_rock_Bed_reading [.agg [.int .i64 b.f.x, .int .i64 b.f.y, .int .i64 b.f.z, .int .i64 b.f.k, .lst b.tab.length (b.tab.flatMap Rw.enc), .int .i64 b.stiff, .int .i64 b.lift, .int .i64 b.deep, .lst b.wells.length (b.wells.flatMap Bore.enc)], .agg x.enc, .int .i64 n] σ) = some (.val (.int .i64 (readE b n x)) σ) := by
  refine call_of T_rock_Bed_reading e_rock_Bed_reading rfl ?_
  have hs := fun σ => C_rsize' (σ := σ) h
  have hz := h.sz
  have hn := h.n
  have hwl := h.wells
  have w1 := w64 (n := x.what) (by omega)
  have w2 := w64 (n := (b.n : Int) - 1) (by omega)
  have w3 := w64 (n := (b.wells.length : Int) - 1) (by omega)
  unfold readE
  cases c1 : inn x.what 1 4
  · simp [-List.length_flatMap, -List.map_take, eF, C_rwithin, w1, c1]
  by_cases c2 : x.lo < -10000000000
  · simp [-List.length_flatMap, -List.map_take, eF, C_rwithin, w1, c1, c2]
  by_cases c3 : x.hi < x.lo
  · simp [-List.length_flatMap, -List.map_take, eF, C_rwithin, w1, c1, c2, c3]
  by_cases c4 : 10000000000 < x.hi
  · simp [-List.length_flatMap, -List.map_take, eF, C_rwithin, w1, c1, c2, c3, c4]
  have hsz : b.size = (b.n : Int) := hz
  by_cases c5 : x.what = 1
  · cases c6 : inn x.tick 0 n
    · simp [-List.length_flatMap, -List.map_take, eF, C_rwithin, w1, w2, show inn 1 1 4 = true from rfl, c2, c3, c4, c5, c6, hs, cl_rw, cl_bore]
    · cases c7 : inn x.idx 0 ((b.n : Int) - 1) <;>
        simp [-List.length_flatMap, -List.map_take, eF, C_rwithin, w1, w2, show inn 1 1 4 = true from rfl, c2, c3, c4, c5, c6, c7, hs, hsz, cl_rw, cl_bore]
  · cases c6 : inn x.tick 1 n
    · simp [-List.length_flatMap, -List.map_take, eF, C_rwithin, w1, w3, c1, c2, c3, c4, c5, c6, cl_rw, cl_bore]
    · cases c7 : inn x.idx 0 ((b.wells.length : Int) - 1) <;>
        simp [-List.length_flatMap, -List.map_take, eF, C_rwithin, w1, w3, c1, c2, c3, c4, c5, c6, c7, cl_rw, cl_bore]
theorem C_rmiss {lo hi n : Int} (h1 : -10000000000 ≤ lo ∧ lo ≤ 10000000000) (h2 : -10000000000 ≤ hi ∧ hi ≤ 10000000000) (hn : -100000000000000 ≤ n ∧ n ≤ 100000000000000) :
    lim T (.call false i_rock_Range_miss [.agg [.int .i64 lo, .int .i64 hi], .int .i64 n] σ) = some (.val (.int .i64 (missR lo hi n)) σ) := by
  refine call_of T_rock_Range_miss e_rock_Range_miss rfl ?_
  have w1 := w64 (n := n - hi) (by omega)
  have w2 := w64 (n := n - lo) (by omega)
  have w3 := w64 (n := max 0 (n - hi) + min 0 (n - lo)) (by omega)
  simp [-List.length_flatMap, -List.map_take, eF, w1, w2, w3, missR]
theorem C_warmth {y : Rock.Blk} (h1 : 0 ≤ y.m ∧ y.m ≤ 1000000) (h2 : 0 ≤ y.h ∧ y.h ≤ 10000000000) : lim T (.call false i_rock_Yield_warmth [.agg y.enc] σ) = some (.val (.int .i64 y.warmth) σ) := by
  refine call_of T_rock_Yield_warmth e_rock_Yield_warmth rfl ?_
  unfold Rock.Blk.warmth
  by_cases c : y.m = 0
  · simp [-List.length_flatMap, -List.map_take, eF, c]
  · have e : y.h.tdiv y.m = y.h / y.m := Int.tdiv_eq_ediv_of_nonneg h2.1
    have b1 : 0 ≤ y.h / y.m ∧ y.h / y.m ≤ y.h := ⟨Int.ediv_nonneg h2.1 h1.1, Int.ediv_le_self _ h2.1⟩
    have w1 := w64 (n := y.h.tdiv y.m) (by omega)
    simp [-List.length_flatMap, -List.map_take, eF, c, w1]
theorem C_tells : lim T (.call false i_rock_tells [] σ) = some (.val (.agg [.nilf, .nilf, .fn i_rock_Yield_mass [] [], .fn i_rock_Yield_warmth [] [], .fn i_rock_Yield_stain [] []]) σ) := by
  refine call_of T_rock_tells e_rock_tells rfl ?_
  simp [-List.length_flatMap, -List.map_take, eF]
theorem warmth_b {y : Rock.Blk} (h1 : 0 ≤ y.m ∧ y.m ≤ 1000000) (h2 : 0 ≤ y.h ∧ y.h ≤ 10000000000) : 0 ≤ y.warmth ∧ y.warmth ≤ 10000000000 := by
  unfold Rock.Blk.warmth
  split
  · omega
  · rw [Int.tdiv_eq_ediv_of_nonneg h2.1]
    have b1 : 0 ≤ y.h / y.m ∧ y.h / y.m ≤ y.h := ⟨Int.ediv_nonneg h2.1 h1.1, Int.ediv_le_self _ h2.1⟩
    omega
theorem readV_b {b : Bed} {m : Mdl} {r : RunT} {n : Nat} {x : Rdg} (h : Fv b m) (hr : Run b n r.1 r.2) (hx : Rdv b n x) : 0 ≤ readV b m r x ∧ readV b m r x ≤ 1000000000000 := by
  unfold readV
  split
  · rename_i h1
    obtain ⟨p1, p2, p3⟩ := hx.p h1
    have hz := h.bv.sz
    obtain ⟨s1, s2⟩ := row_s hr (t := x.tick.toNat) (by omega)
    rw [s1]
    have := press_b h s2 (i := x.idx.toNat) (by unfold Bed.size at p3; omega)
    simp only [Option.getD_some]; omega
  · rename_i h1
    obtain ⟨p1, p2, p3⟩ := hx.y h1
    obtain ⟨y1, y2⟩ := row_y hr (t := x.tick.toNat - 1) (by omega)
    have y3 := yv_at y2 (w := x.idx.toNat) (by omega)
    obtain ⟨g1, g2, g3⟩ := y2.ok _ (List.mem_of_getElem? y3)
    rw [y1]
    simp only [Option.getD_some, Rock.Blk.tells]
    have := warmth_b g1 g2
    split
    · omega
    · split <;> omega
theorem C_value {b : Bed} {m : Mdl} {r : RunT} {n : Nat} {x : Rdg} (h : Fv b m) (hr : Run b n r.1 r.2) (hx : Rdv b n x) (hn : n ≤ 200) :
    lim T (.call false i_rock_bedded_value [.agg [.int .i64 b.f.x, .int .i64 b.f.y, .int .i64 b.f.z, .int .i64 b.f.k, .lst b.tab.length (b.tab.flatMap Rw.enc), .int .i64 b.stiff, .int .i64 b.lift, .int .i64 b.deep, .lst b.wells.length (b.wells.flatMap Bore.enc), .str m.name, .lst m.vals.length (m.vals.flatMap intE)], .agg [.lst r.1.length (r.1.flatMap stL), .lst r.2.length (r.2.flatMap stL)], .agg x.enc] σ) = some (.val (.int .i64 (readV b m r x)) σ) := by
  refine call_of T_rock_bedded_value e_rock_bedded_value rfl ?_
  unfold readV
  have hsl := hr.sl
  have hyl := hr.yl
  by_cases h1 : x.what = 1
  · obtain ⟨p1, p2, p3⟩ := hx.p h1
    have hz := h.bv.sz
    obtain ⟨s1, s2⟩ := row_s hr (t := x.tick.toNat) (by omega)
    have hP := fun σ => C_pressure (σ := σ) h s2 (i := x.idx.toNat) (by unfold Bed.size at p3; omega)
    rw [Int.toNat_of_nonneg p2] at hP
    have a1 := stL_at s1
    have e2 : x.tick < ((n : Int) + 1) := by omega
    rw [s1]
    simp [-List.length_flatMap, -List.map_take, eF, h1, hsl, p1.1, e2, a1, hP]
  · obtain ⟨p1, p2, p3⟩ := hx.y h1
    obtain ⟨y1, y2⟩ := row_y hr (t := x.tick.toNat - 1) (by omega)
    have y3 := yv_at y2 (w := x.idx.toNat) (by omega)
    obtain ⟨g1, g2, g3⟩ := y2.ok _ (List.mem_of_getElem? y3)
    have a1 := stL_at y1
    have a4 := flat_at (f := Blk.enc) (w := 3) (fun _ => rfl) y3
    have hyw := y2.len
    have w1 := w64 (n := x.tick - 1) (by omega)
    have e1 : 0 ≤ x.tick - 1 := by omega
    have e2 : x.tick - 1 < (n : Int) := by omega
    have e3 : (x.tick - 1).toNat = x.tick.toNat - 1 := by omega
    have hw := hx.what
    rw [if_neg h1, y1]
    have hA := fun σ => C_ymass (σ := σ) (x := blkAt (rowAt r.2 (x.tick.toNat - 1)) x.idx.toNat)
    have hK := fun σ => C_ystain (σ := σ) (x := blkAt (rowAt r.2 (x.tick.toNat - 1)) x.idx.toNat)
    simp only [Blk.enc] at hA hK
    rcases (show x.what = 2 ∨ x.what = 3 ∨ x.what = 4 by omega) with h2 | h2 | h2
    · simp [-List.length_flatMap, -List.map_take, eF, h2, hyl, w1, p1.1, e1, e2, e3, a1, a4, C_tells, hA, hyw, p2, p3, Rock.Blk.tells]
    · have hW := fun σ => C_warmth (σ := σ) g1 g2
      simp only [Blk.enc] at hW
      simp [-List.length_flatMap, -List.map_take, eF, h2, hyl, w1, p1.1, e1, e2, e3, a1, a4, C_tells, hW, hyw, p2, p3, Rock.Blk.tells]
    · simp [-List.length_flatMap, -List.map_take, eF, h2, hyl, w1, p1.1, e1, e2, e3, a1, a4, C_tells, hK, hyw, p2, p3, Rock.Blk.tells]
end Go.Proofs.YtehandllpmlcoaaGreat

/-
  Which models the readings leave.
-/
set_option linter.unusedVariables false
set_option linter.unusedSimpArgs false
set_option maxRecDepth 100000
namespace Go.Proofs.YtehandllpmlcoaaGreat
open Go Go.Abs Go.Rock
variable {σ : Stack}

theorem rdgE_at {l : List Rdg} {j : Nat} {m : Rdg} (h : l[j]? = some m) : ((l.flatMap Rdg.enc).drop (j * 5)).take 5 = m.enc :=
  flat_at (f := Rdg.enc) (w := 5) (fun _ => rfl) h
theorem X_caught2 {A B : Abs.Blk} : lim T (.dcall i_rock_caught [.ref σ.length 2 0 0] (some (.ifc 205 (.agg []))) ([A, B, .cells 0 [.int .i64 0]] :: σ)) = some (.val (.tup []) ([A, B, .cells 0 [.int .i64 9]] :: σ)) := by
  refine dcall_of T_rock_caught e_rock_caught rfl (by simp [-List.length_flatMap, -List.map_take, eF, afterRcv]; exact ⟨rfl, rfl⟩) ?_
  simp [-List.length_flatMap, -List.map_take, eF]
theorem cl_rdg (l : List Rdg) : D.cleanL (l.flatMap Rdg.enc) = true := k_clean (fun x => by simp) l
theorem cl_plan (l : List (List Int)) : D.cleanL (l.flatMap inL) = true := k_clean (fun x => by simp [inL, D.clean, cl_int]) l
theorem frz_empN {l0 L i w n : Nat} {S : Stack} (hn : 0 < n) (h : ¬ L ≤ l0) (hc : cells? S L i 0 = some []) : frz l0 n (.sl L i 0 0 0 w) S = (.lst 0 [], setBlk S L i .dead) := by
  rw [frz_sl h hc hn]; simp
theorem frz_emp {l0 L i w : Nat} {S : Stack} (h : ¬ L ≤ l0) (hc : cells? S L i 0 = some []) : frz l0 16 (.sl L i 0 0 0 w) S = (.lst 0 [], setBlk S L i .dead) := frz_empN (by omega) h hc
/-- The readings are right, or the first that is not. -/
theorem L_rcheck {b : Bed} {l : List Mdl} {plan : List (List Int)} {rd : List Rdg} (h : Ok b l plan) (hl : rd.length ≤ 40) (hw : ∀ x ∈ rd, 0 ≤ x.what ∧ x.what ≤ 255) {A B : Abs.Blk} : ∀ (k i : Nat), i + k = rd.length →
    WL T [1, 2, 3, 4, 8, 9, 10, 32, 33, 34] true f_rock_Strikes_l13 [(1, .lst l.length (l.flatMap Mdl.enc)), (2, .lst plan.length (plan.flatMap inL)), (3, .lst rd.length (rd.flatMap Rdg.enc)), (4, .cref [.int .i64 b.f.x, .int .i64 b.f.y, .int .i64 b.f.z, .int .i64 b.f.k, .lst b.tab.length (b.tab.flatMap Rw.enc), .int .i64 b.stiff, .int .i64 b.lift, .int .i64 b.deep, .lst b.wells.length (b.wells.flatMap Bore.enc)]), (8, .sl σ.length 0 0 0 0 1), (9, .sl σ.length 1 0 0 0 3), (10, .ref σ.length 2 0 0), (32, .lst rd.length (rd.flatMap Rdg.enc)), (33, .int .i64 rd.length), (34, .int .i64 i)] ([A, B, .cells 0 [.int .i64 0]] :: σ)
      (fun x e σ' => if firstE (readE b plan.length) (rd.drop i) = 0 then x = .exit 0 ∧ σ' = [A, B, .cells 0 [.int .i64 0]] :: σ ∧ get e 1 = .lst l.length (l.flatMap Mdl.enc) ∧ get e 2 = .lst plan.length (plan.flatMap inL) ∧ get e 3 = .lst rd.length (rd.flatMap Rdg.enc) ∧ get e 4 = .cref [.int .i64 b.f.x, .int .i64 b.f.y, .int .i64 b.f.z, .int .i64 b.f.k, .lst b.tab.length (b.tab.flatMap Rw.enc), .int .i64 b.stiff, .int .i64 b.lift, .int .i64 b.deep, .lst b.wells.length (b.wells.flatMap Bore.enc)] ∧ get e 8 = .sl σ.length 0 0 0 0 1 ∧ get e 9 = .sl σ.length 1 0 0 0 3 ∧ get e 10 = .ref σ.length 2 0 0
        else x = .ret ∧ get e 8 = .lst 0 [] ∧ get e 9 = .lst 0 [] ∧ get e 10 = .ref σ.length 2 0 0 ∧ σ' = [A, B, .cells 0 [.int .i64 (firstE (readE b plan.length) (rd.drop i))]] :: σ) := by
  intro k
  induction k with
  | zero =>
    intro i hi
    refine WL_stepS e_rock_Strikes_l13 ?_
    have h1 : ¬ i < rd.length := by omega
    have h2 : rd.drop i = [] := List.drop_eq_nil_of_le (by omega)
    simp [-List.length_flatMap, -List.map_take, eF, h1, h2, firstE, cl_mdl, cl_rdg, cl_rw, cl_bore, cl_plan]
  | succ k ih0 =>
    intro i hi
    refine WL_stepS e_rock_Strikes_l13 ?_
    have h1 : i < rd.length := by omega
    obtain ⟨x, hx⟩ : ∃ x, rd[i]? = some x := ⟨_, List.getElem?_eq_getElem h1⟩
    have h2 := rdgE_at hx
    have h4 := wnext h1 (by omega)
    have h5 := drop_at hx
    have hC := fun σ => C_reading (σ := σ) (n := plan.length) h.bv (hw x (List.mem_of_getElem? hx))
    simp only [Rdg.enc] at h2 hC
    have ih := ih0 (i + 1) (by omega)
    rw [h5, firstE]
    by_cases hc : readE b plan.length x = 0
    · simp [-List.length_flatMap, -List.map_take, eF, h1, h2, h4, hC, hc, cl_mdl, cl_rdg, cl_rw, cl_bore, cl_plan]
      exact WL.to ih (by simp) (by simp) fun x e σ hh => by simpa [hc] using hh
    · simp [-List.length_flatMap, -List.map_take, eF, h1, h2, h4, hC, hc, cl_mdl, cl_rdg, cl_rw, cl_bore, cl_plan]
      have z := frz_emp (l0 := σ.length) (L := σ.length + 1) (i := 0) (w := 1) (S := [.cells 0 [], .cells 0 []] :: [A, B, .cells 0 [D.int .i64 (readE b (plan.length : Int) x)]] :: σ) (by omega) (by simp)
      simp at z
      rw [z]
      simp only []
      rw [frz_emp (by omega) (by simp)]
      simp
end Go.Proofs.YtehandllpmlcoaaGreat

/-
  Which models the readings leave: the loops.
-/
set_option linter.unusedVariables false
set_option linter.unusedSimpArgs false
set_option maxRecDepth 100000
namespace Go.Proofs.YtehandllpmlcoaaGreat
open Go Go.Abs Go.Rock
variable {σ : Stack}

abbrev Tri := Int × Int × Int
/-- The first reading with a miss: where, and the strikes. -/
def scanM (i n : Nat) : Nat → List Int → Nat × List Tri → Nat × List Tri
  | _, [], st => st
  | k, v :: vs, st => scanM i n (k + 1) vs (if v ≠ 0 ∧ st.1 = n then (k, st.2 ++ [((i : Int), (k : Int), v)]) else st)
theorem scanM_kept {i n : Nat} : ∀ (vs : List Int) (k : Nat) (st : Nat × List Tri), st.1 ≠ n → scanM i n k vs st = st
  | [], k, st, h => rfl
  | v :: vs, k, st, h => by
    simp only [scanM]
    rw [if_neg (fun hh => h hh.2)]
    exact scanM_kept vs (k + 1) st h
theorem scanM_fst {i n : Nat} : ∀ (vs : List Int) (k : Nat) (S : List Tri), k + vs.length = n → ((scanM i n k vs (n, S)).1 = n ↔ vs.all (fun v => v == 0) = true)
  | [], k, S, h => by simp [scanM]
  | v :: vs, k, S, h => by
    simp only [scanM, List.all_cons]
    simp only [List.length_cons] at h
    by_cases hv : v = 0
    · rw [if_neg (by simp [hv])]
      rw [scanM_fst vs (k + 1) S (by omega)]
      simp [hv]
    · rw [if_pos (by simp [hv]), scanM_kept vs (k + 1) _ (by simp only; omega)]
      simp [hv]; omega
theorem scanM_len {i n : Nat} : ∀ (vs : List Int) (k : Nat) (st : Nat × List Tri), k + vs.length = n → (st.1 ≠ n → st.1 < n) → (scanM i n k vs st).2.length ≤ st.2.length + 1 ∧ (scanM i n k vs st).1 ≤ n
  | [], k, st, h, hh => by simp only [scanM]; exact ⟨by omega, Classical.byContradiction fun h1 => by have := hh (by omega); omega⟩
  | v :: vs, k, st, h, hh => by
    simp only [scanM]
    simp only [List.length_cons] at h
    by_cases hc : v ≠ 0 ∧ st.1 = n
    · rw [if_pos hc, scanM_kept vs (k + 1) _ (by simp only; omega)]
      simp; omega
    · rw [if_neg hc]
      exact scanM_len vs (k + 1) st (by omega) hh
def missM (b : Bed) (m : Mdl) (r : RunT) (rd : List Rdg) : List Int := rd.map fun x => missR x.lo x.hi (readV b m r x)
theorem missM_len (b : Bed) (m : Mdl) (r : RunT) (rd : List Rdg) : (missM b m r rd).length = rd.length := by simp [missM]
theorem L_scan {b : Bed} {l : List Mdl} {plan : List (List Int)} {rd : List Rdg} {rs : List RunT} {m : Mdl} {r : RunT} {i : Nat} (h : Ok b l plan) (hR : Rs b l plan.length rs) (hl : rd.length ≤ 40) (hx : ∀ x ∈ rd, Rdv b plan.length x) (hm : l[i]? = some m) (hr : rs[i]? = some r) {A B : Abs.Blk} {L10 : Nat} {s0 : Nat} (hs0 : s0 ≤ 100) :
    ∀ (k j : Nat) (st : Nat × List Tri), j + k = rd.length → st.1 ≤ rd.length → st.2.length ≤ s0 + j →
    WL T [3, 4, 8, 9, 10, 15, 16, 17, 18, 51, 52, 53, 60, 61, 62] false f_rock_Strikes_l28 [(3, .lst rd.length (rd.flatMap Rdg.enc)), (4, .cref [.int .i64 b.f.x, .int .i64 b.f.y, .int .i64 b.f.z, .int .i64 b.f.k, .lst b.tab.length (b.tab.flatMap Rw.enc), .int .i64 b.stiff, .int .i64 b.lift, .int .i64 b.deep, .lst b.wells.length (b.wells.flatMap Bore.enc)]), (8, .sl σ.length 0 L10 0 L10 1), (9, .sl σ.length 1 st.2.length 0 st.2.length 3), (10, .ref σ.length 2 0 0), (15, .lst rs.length (rs.flatMap runE)), (16, .int .i64 i), (17, .own 0 [.str m.name, .lst m.vals.length (m.vals.flatMap intE)]), (18, .int .i64 st.1), (51, .lst l.length (l.flatMap Mdl.enc)), (52, .int .i64 l.length), (53, .int .i64 i), (60, .lst rd.length (rd.flatMap Rdg.enc)), (61, .int .i64 rd.length), (62, .int .i64 j)]
      ([A, .cells st.2.length (st.2.flatMap triE), B] :: σ)
      (fun x e σ' => x = .exit 4 ∧ ∃ st', st' = scanM i rd.length j ((missM b m r rd).drop j) st ∧ get e 3 = .lst rd.length (rd.flatMap Rdg.enc) ∧ get e 4 = .cref [.int .i64 b.f.x, .int .i64 b.f.y, .int .i64 b.f.z, .int .i64 b.f.k, .lst b.tab.length (b.tab.flatMap Rw.enc), .int .i64 b.stiff, .int .i64 b.lift, .int .i64 b.deep, .lst b.wells.length (b.wells.flatMap Bore.enc)] ∧ get e 8 = .sl σ.length 0 L10 0 L10 1 ∧ get e 9 = .sl σ.length 1 st'.2.length 0 st'.2.length 3 ∧ get e 10 = .ref σ.length 2 0 0 ∧ get e 15 = .lst rs.length (rs.flatMap runE) ∧ get e 16 = .int .i64 i ∧ get e 18 = .int .i64 st'.1 ∧ get e 51 = .lst l.length (l.flatMap Mdl.enc) ∧ get e 52 = .int .i64 l.length ∧ get e 53 = .int .i64 i ∧
        σ' = [A, .cells st'.2.length (st'.2.flatMap triE), B] :: σ) := by
  intro k
  induction k with
  | zero =>
    intro j st hj h1 h2
    refine WL_step e_rock_Strikes_l28 ?_
    have h3 : ¬ j < rd.length := by omega
    have h4 : (missM b m r rd).drop j = [] := List.drop_eq_nil_of_le (by rw [missM_len]; omega)
    simp [-List.length_flatMap, -List.map_take, eF, h3, h4, scanM]
  | succ k ih0 =>
    intro j st hj g1 g2
    refine WL_step e_rock_Strikes_l28 ?_
    have h1 : j < rd.length := by omega
    obtain ⟨x, hxj⟩ : ∃ x, rd[j]? = some x := ⟨_, List.getElem?_eq_getElem h1⟩
    have hmm := List.mem_of_getElem? hm
    have hrr := hR.all r (List.mem_of_getElem? hr)
    have hxv := hx x (List.mem_of_getElem? hxj)
    have h2 := rdgE_at hxj
    have h4 := wnext h1 (by omega)
    have hpl := h.plen
    have hi : i < rs.length := (List.getElem?_eq_some_iff.1 hr).1
    have hV := fun σ => C_value (σ := σ) (h.fv m hmm) hrr hxv hpl
    have hb := readV_b (h.fv m hmm) hrr hxv
    have hen := hxv.ends
    have hM := fun σ => C_rmiss (σ := σ) (lo := x.lo) (hi := x.hi) (n := readV b m r x) (by omega) (by omega) (by omega)
    have a1 := runE_at hr
    have e1 : (missM b m r rd)[j]? = some (missR x.lo x.hi (readV b m r x)) := by simp [missM, hxj]
    have h5 := drop_at e1
    simp only [Rdg.enc] at h2 hV
    have a7 := tri_len st.2
    have a8 : (st.2.flatMap triE).take (st.2.length * 3) = st.2.flatMap triE := List.take_of_length_le (by omega)
    have h8 : (st.2.length + 1) * 24 ≤ room := by unfold room; omega
    rw [h5, scanM]
    generalize missR x.lo x.hi (readV b m r x) = v at *
    by_cases c1 : v = 0
    · have ih := ih0 (j + 1) st (by omega) g1 (by omega)
      simp [-List.length_flatMap, -List.map_take, eF, h1, h2, h4, hV, hM, hi, a1, c1, cl_int, cl_st, D.clean]
      exact WL.to ih (by simp) (by simp) fun x e σ hh => by simpa [c1] using hh
    · by_cases c2 : st.1 = rd.length
      · have ih := ih0 (j + 1) (j, st.2 ++ [((i : Int), (j : Int), v)]) (by omega) (by simp only; omega) (by simp; omega)
        simp [-List.length_flatMap, -List.map_take, eF, h1, h2, h4, hV, hM, hi, a1, c1, c2, a7, a8, h8, cl_int, cl_st, D.clean]
        exact WL.to ih (by simp) (by simp [triE]) fun x e σ hh => by simpa [c1, c2] using hh
      · have ih := ih0 (j + 1) st (by omega) g1 (by omega)
        have c3 : ¬ (st.1 : Int) = rd.length := by omega
        simp [-List.length_flatMap, -List.map_take, eF, h1, h2, h4, hV, hM, hi, a1, c1, c2, c3, cl_int, cl_st, D.clean]
        exact WL.to ih (by simp) (by simp) fun x e σ hh => by simpa [c2] using hh
end Go.Proofs.YtehandllpmlcoaaGreat

/-
  rock.Strikes.
-/
set_option linter.unusedVariables false
set_option linter.unusedSimpArgs false
set_option maxRecDepth 100000
namespace Go.Proofs.YtehandllpmlcoaaGreat
open Go Go.Abs Go.Rock
variable {σ : Stack}

def rOut (b : Bed) (rd : List Rdg) : Nat → List (Mdl × RunT) → List Int × List Tri → List Int × List Tri
  | _, [], st => st
  | i, p :: t, st => rOut b rd (i + 1) t (if (scanM i rd.length 0 (missM b p.1 p.2 rd) (rd.length, st.2)).1 = rd.length then st.1 ++ [(i : Int)] else st.1, (scanM i rd.length 0 (missM b p.1 p.2 rd) (rd.length, st.2)).2)
theorem rOut_fst {b : Bed} {rd : List Rdg} : ∀ (t : List (Mdl × RunT)) (i : Nat) (st : List Int × List Tri), (rOut b rd i t st).1 = st.1 ++ idxs (fun p : Mdl × RunT => (missM b p.1 p.2 rd).all fun v => v == 0) i t
  | [], i, st => by simp [rOut, idxs]
  | p :: t, i, st => by
    simp only [rOut, idxs]
    rw [rOut_fst t]
    have := scanM_fst (i := i) (missM b p.1 p.2 rd) 0 st.2 (n := rd.length) (by rw [missM_len]; omega)
    by_cases hc : ((missM b p.1 p.2 rd).all fun v => v == 0) = true
    · rw [if_pos (this.2 hc), if_pos hc]
      simp
    · rw [if_neg (fun h => hc (this.1 h)), if_neg hc]
theorem L_rmod {b : Bed} {l : List Mdl} {plan : List (List Int)} {rd : List Rdg} {rs : List RunT} (h : Ok b l plan) (hR : Rs b l plan.length rs) (hl : rd.length ≤ 40) (hx : ∀ x ∈ rd, Rdv b plan.length x) {B : Abs.Blk} :
    ∀ (k i : Nat) (st : List Int × List Tri), i + k = l.length → st.1.length ≤ i → st.2.length ≤ i →
    WL T [3, 4, 8, 9, 10, 15, 51, 52, 53] false f_rock_Strikes_l32 [(3, .lst rd.length (rd.flatMap Rdg.enc)), (4, .cref [.int .i64 b.f.x, .int .i64 b.f.y, .int .i64 b.f.z, .int .i64 b.f.k, .lst b.tab.length (b.tab.flatMap Rw.enc), .int .i64 b.stiff, .int .i64 b.lift, .int .i64 b.deep, .lst b.wells.length (b.wells.flatMap Bore.enc)]), (8, .sl σ.length 0 st.1.length 0 st.1.length 1), (9, .sl σ.length 1 st.2.length 0 st.2.length 3), (10, .ref σ.length 2 0 0), (15, .lst rs.length (rs.flatMap runE)), (51, .lst l.length (l.flatMap Mdl.enc)), (52, .int .i64 l.length), (53, .int .i64 i)]
      ([.cells st.1.length (st.1.flatMap intE), .cells st.2.length (st.2.flatMap triE), B] :: σ)
      (fun x e σ' => x = .exit 2 ∧ ∃ st', st' = rOut b rd i ((l.zip rs).drop i) st ∧ get e 8 = .sl σ.length 0 st'.1.length 0 st'.1.length 1 ∧ get e 9 = .sl σ.length 1 st'.2.length 0 st'.2.length 3 ∧ get e 10 = .ref σ.length 2 0 0 ∧
        σ' = [.cells st'.1.length (st'.1.flatMap intE), .cells st'.2.length (st'.2.flatMap triE), B] :: σ) := by
  intro k
  induction k with
  | zero =>
    intro i st hi g1 g2
    refine WL_step e_rock_Strikes_l32 ?_
    have h1 : ¬ i < l.length := by omega
    have h2 : (l.zip rs).drop i = [] := List.drop_eq_nil_of_le (by rw [List.length_zip]; omega)
    simp [-List.length_flatMap, -List.map_take, eF, h1, h2, rOut]
  | succ k ih0 =>
    intro i st hi g1 g2
    refine WL_step e_rock_Strikes_l32 ?_
    have h1 : i < l.length := by omega
    have hlen := hR.len
    have hne := hR.ne
    obtain ⟨m, hm⟩ : ∃ m, l[i]? = some m := ⟨_, List.getElem?_eq_getElem h1⟩
    obtain ⟨r, hr⟩ : ∃ r, rs[i]? = some r := ⟨_, List.getElem?_eq_getElem (by omega)⟩
    have h2 := mdlE_at hm
    have h4 := wnext h1 (by omega)
    have hz : (l.zip rs)[i]? = some (m, r) := by simp [List.getElem?_zip_eq_some, hm, hr]
    have h5 := drop_at hz
    have hsl := scanM_len (i := i) (missM b m r rd) 0 (rd.length, st.2) (n := rd.length) (by rw [missM_len]; omega) (by simp)
    rw [h5, rOut]
    simp [-List.length_flatMap, -List.map_take, eF, h1, h2, cl_int, D.clean]
    refine WL.to (L_scan (σ := σ) h hR hl hx hm hr (A := .cells st.1.length (st.1.flatMap intE)) (B := B) (L10 := st.1.length) (s0 := 50) (by omega) rd.length 0 (rd.length, st.2) (by omega) (by simp) (by simp only; omega)) (by simp) (by simp) ?_
    rintro x e σ' ⟨rfl, st', hst, q3, q4, q8, q9, q10, q15, q16, q18, q51, q52, q53, rfl⟩
    rw [List.drop_zero] at hst
    rw [← hst]
    rw [← hst] at hsl
    have a4 := int_len st.1
    have a6 : (st.1.flatMap intE).take st.1.length = st.1.flatMap intE := List.take_of_length_le (by omega)
    have h7 : (st.1.length + 1) * 8 ≤ room := by unfold room; omega
    by_cases hc : st'.1 = rd.length
    · have ih := ih0 (i + 1) (st.1 ++ [(i : Int)], st'.2) (by omega) (by simp; omega) (by simp only at hsl ⊢; omega)
      rw [if_pos hc]
      simp [-List.length_flatMap, -List.map_take, eF, q3, q4, q8, q9, q10, q15, q16, q18, q51, q52, q53, hc, h4, a4, a6, h7]
      exact WL.to ih (by simp) (by simp) fun x e σ hh => by simpa using hh
    · have ih := ih0 (i + 1) (st.1, st'.2) (by omega) (by simp only; omega) (by simp only at hsl ⊢; omega)
      rw [if_neg hc]
      have hc' : ¬ (st'.1 : Int) = rd.length := by omega
      simp [-List.length_flatMap, -List.map_take, eF, q3, q4, q8, q9, q10, q15, q16, q18, q51, q52, q53, hc, hc', h4]
      exact WL.to ih (by simp) (by simp) fun x e σ hh => by simpa using hh
/-- What rock.Strikes answers for a bed, models and a plan without an error. -/
def strD (b : Bed) (l : List Mdl) (plan : List (List Int)) (rd : List Rdg) : D :=
  if readsE b plan.length rd = 0 then
    match runsL b plan l with
    | some rs => .tup [.lst (rOut b rd 0 (l.zip rs) ([], [])).1.length ((rOut b rd 0 (l.zip rs) ([], [])).1.flatMap intE), .lst (rOut b rd 0 (l.zip rs) ([], [])).2.length ((rOut b rd 0 (l.zip rs) ([], [])).2.flatMap triE), .int .i64 0]
    | none => .tup [.lst 0 [], .lst 0 [], .int .i64 9]
  else .tup [.lst 0 [], .lst 0 [], .int .i64 (readsE b plan.length rd)]
theorem frz_three {l0 a b : Nat} {k : Int} {A B : List D} {S S1 S2 : Stack} {d1 d2 : D} (h1 : frz l0 15 d1 S = (.lst a A, S1)) (h2 : frz l0 15 d2 S1 = (.lst b B, S2)) : frz l0 16 (.tup [d1, d2, .int .i64 k]) S = (.tup [.lst a A, .lst b B, .int .i64 k], S2) := by
  by_cases hc : D.clean (.tup [d1, d2, .int .i64 k]) = true
  · rw [frz_clean hc (by omega)]
    simp only [D.clean, D.cleanL, Bool.and_true, Bool.and_eq_true] at hc
    rw [frz_clean hc.1 (by omega)] at h1
    rw [frz_clean hc.2 (by omega)] at h2
    cases h1; cases h2; rfl
  · rw [frz_tup (by simpa using hc) (by omega)]
    simp only [frzL_cons, frzL_nil]
    rw [h1]; simp only; rw [h2]; simp only; rw [frz_clean (by rfl) (by omega)]
theorem C_RStrikes {b : Bed} {l : List Mdl} {plan : List (List Int)} {rd : List Rdg} (h : Ok b l plan) (hl : rd.length ≤ 1000000000) (hw : ∀ x ∈ rd, 0 ≤ x.what ∧ x.what ≤ 255) (hσ : σ ≠ []) :
    lim T (.call false i_rock_Strikes [.agg [.int .i64 b.f.x, .int .i64 b.f.y, .int .i64 b.f.z, .int .i64 b.f.k, .lst b.tab.length (b.tab.flatMap Rw.enc), .int .i64 b.stiff, .int .i64 b.lift, .int .i64 b.deep, .lst b.wells.length (b.wells.flatMap Bore.enc)], .lst l.length (l.flatMap Mdl.enc), .lst plan.length (plan.flatMap inL), .lst rd.length (rd.flatMap Rdg.enc)] σ) = some (.val (strD b l plan rd) σ) := by
  have h1 := fun σ => C_ready (σ := σ) h
  unfold strD
  by_cases c0 : 40 < rd.length
  · have e1 : readsE b plan.length rd = 3 := by simp [readsE, c0]
    rw [e1]
    refine call_of T_rock_Strikes e_rock_Strikes rfl ?_
    simp [-List.length_flatMap, -List.map_take, eF, h1, show (40 : Int) < rd.length by omega, cl_rw, cl_bore]
    have hp := List.length_pos_iff.2 hσ
    rw [frz_three (frz_empN (by omega) (by omega) (by simp)) (frz_empN (by omega) (by omega) (by simp))]
    simp
  have e1 : readsE b plan.length rd = firstE (readE b plan.length) rd := by simp [readsE, c0]
  rw [e1]
  have c0' : ¬ (40 : Int) < rd.length := by omega
  have hL := L_rcheck (σ := σ) h (by omega) hw (A := .cells 0 []) (B := .cells 0 []) rd.length 0 (by omega)
  rw [List.drop_zero] at hL
  by_cases c1 : firstE (readE b plan.length) rd = 0
  · rw [c1] at hL
    rw [if_pos c1]
    have hx : ∀ x ∈ rd, Rdv b plan.length x := fun x hx => Rdv.of (firstE_zero c1 x hx)
    refine call_dfr T_rock_Strikes e_rock_Strikes rfl rfl ?_
    cases hrs : runsL b plan l with
    | none =>
      have h2 := fun σ => C_runsNo (σ := σ) h hrs
      have hX : dcallV T (.fn i_rock_caught [] []) [.ref σ.length 2 0 0] (some (.ifc 205 (.agg []))) ([.cells 0 [], .cells 0 [], .cells 0 [.int .i64 0]] :: σ) = some ([.cells 0 [], .cells 0 [], .cells 0 [.int .i64 9]] :: σ) := dcallV_fn X_caught2
      simp [-List.length_flatMap, -List.map_take, eF, toD, endD, h1, c0', cl_rw, cl_bore]
      refine WL.to hL (by simp) (by simp) ?_
      intro x e σ' hh
      rw [if_pos rfl] at hh
      obtain ⟨rfl, rfl, g1, g2, g3, g4, g8, g9, g10⟩ := hh
      simp [-List.length_flatMap, -List.map_take, eF, toD, endD, g1, g2, g3, g4, g8, g9, g10, cl_rw, cl_bore]
      rw [WC_eq e_rock_Strikes_b34]
      simp [-List.length_flatMap, -List.map_take, eF, toD, endD, g1, g2, g3, g4, g8, g9, g10, h2, hX, cl_rw, cl_bore, cl_int]
      have hp := List.length_pos_iff.2 hσ
      rw [frz_three (frz_empN (by omega) (by omega) (by simp)) (frz_empN (by omega) (by omega) (by simp))]
      simp
    | some rs =>
      have hR := Rs.of h hrs
      have h2 := fun σ hσ => C_runsOk (σ := σ) h hσ hrs hR.len
      simp [-List.length_flatMap, -List.map_take, eF, toD, endD, h1, c0', cl_rw, cl_bore]
      refine WL.to hL (by simp) (by simp) ?_
      intro x e σ' hh
      rw [if_pos rfl] at hh
      obtain ⟨rfl, rfl, g1, g2, g3, g4, g8, g9, g10⟩ := hh
      simp [-List.length_flatMap, -List.map_take, eF, toD, endD, g1, g2, g3, g4, g8, g9, g10, cl_rw, cl_bore]
      rw [WC_eq e_rock_Strikes_b34]
      simp [-List.length_flatMap, -List.map_take, eF, toD, endD, g1, g2, g3, g4, g8, g9, g10, h2, cl_rw, cl_bore, cl_int]
      refine WL.to (L_rmod (σ := σ) h hR (by omega) hx (B := .cells 0 [.int .i64 0]) l.length 0 ([], []) (by omega) (by simp) (by simp)) (by simp) (by simp) ?_
      rintro x e σ' ⟨rfl, st, hst, q8, q9, q10, rfl⟩
      rw [List.drop_zero] at hst
      rw [← hst]
      have hX : dcallV T (.fn i_rock_caught [] []) [.ref σ.length 2 0 0] none ([.cells st.1.length (st.1.flatMap intE), .cells st.2.length (st.2.flatMap triE), .cells 0 [.int .i64 0]] :: σ) = some ([.cells st.1.length (st.1.flatMap intE), .cells st.2.length (st.2.flatMap triE), .cells 0 [.int .i64 0]] :: σ) := dcallV_fn X_caughtNo
      simp [-List.length_flatMap, -List.map_take, eF, toD, endD, q8, q9, q10, g10, hX]
      rw [frz_three (k_out (n := 15) (f := intE) (w := 1) (l := st.1) (by decide) (fun _ => rfl) (fun x => by simp) hσ (by simp)) (k_out (n := 15) (f := triE) (w := 3) (l := st.2) (by decide) (fun _ => rfl) (fun x => by simp [triE]) hσ (by simp))]
      simp
  · simp only [c1, if_false]
    refine call_of T_rock_Strikes e_rock_Strikes rfl ?_
    simp [-List.length_flatMap, -List.map_take, eF, h1, c0', cl_rw, cl_bore]
    refine WL.to hL (by simp) (by simp) ?_
    intro x e σ' hh
    rw [if_neg c1] at hh
    obtain ⟨rfl, g8, g9, g10, rfl⟩ := hh
    simp [g8, g9, g10]
end Go.Proofs.YtehandllpmlcoaaGreat

/-
  The reference's checks of measures and readings.
-/
set_option linter.unusedVariables false
set_option linter.unusedSimpArgs false
set_option maxRecDepth 100000
namespace Go.Proofs.YtehandllpmlcoaaGreat
open Go Go.Abs Go.Rock
variable {σ : Stack}

theorem L_rsums {f : Fld} {bl wt : List Int} (hf : f.valid = true) (hl : bl.length ≤ 9223372036854775807) (hw : bl.length = wt.length) : ∀ (k i : Nat) (last : Int), i + k = bl.length → (i = 0 → last = -1) → (∀ j, i = j + 1 → bl[j]? = some last) → (-1 ≤ last) →
    WL T [2, 3, 4, 9] false f_ref02_sums_l8 [(2, .lst bl.length (bl.flatMap intE)), (3, .lst wt.length (wt.flatMap intE)), (4, .cref [.int .i64 f.x, .int .i64 f.y, .int .i64 f.z, .int .i64 f.k]), (9, .int .i64 i)] σ
      (fun x e σ' => σ' = σ ∧ if sumsL f.size last (bl.drop i) (wt.drop i) then x = .exit 0 else x = .ret ∧ get e 8 = .bool false)
  | 0, i, last, hi, _, _, _ => by
    refine WL_step e_ref02_sums_l8 ?_
    have h1 : ¬ i < bl.length := by omega
    have h2 : bl.drop i = [] := List.drop_eq_nil_of_le (by omega)
    simp [-List.length_flatMap, -List.map_take, eF, h1, h2, sumsL]
  | k + 1, i, last, hi, g0, g1, g2 => by
    refine WL_step e_ref02_sums_l8 ?_
    have h1 : i < bl.length := by omega
    have h1' : i < wt.length := by omega
    obtain ⟨q1, q2⟩ := model_sz hf
    obtain ⟨b, hb⟩ : ∃ r, bl[i]? = some r := ⟨_, List.getElem?_eq_getElem h1⟩
    obtain ⟨w, hw'⟩ : ∃ r, wt[i]? = some r := ⟨_, List.getElem?_eq_getElem h1'⟩
    have h2 := intE_at hb
    have h3 := intE_at hw'
    have h4 := wnext h1 hl
    have h5 := drop_at hb
    have h6 := drop_at hw'
    have hB := fun σ => C_RSize' (σ := σ) hf
    have w1 := w64 (n := f.size - 1) (by omega)
    have ih := fun g2 => L_rsums hf hl hw k (i + 1) b (by omega) (by omega) (fun j hj => (show j = i by omega) ▸ hb) g2
    rw [h5, h6, sumsL]
    by_cases c0 : b < 0
    · have c1 : inn b 0 (f.size - 1) = false := by simp [inn]; omega
      simp [-List.length_flatMap, -List.map_take, eF, h1, h1', h2, h3, h4, hB, C_In2, w1, c1, show ¬ last < b by omega]
    by_cases c2 : f.size ≤ b
    · have c1 : inn b 0 (f.size - 1) = false := by simp [inn]; omega
      simp [-List.length_flatMap, -List.map_take, eF, h1, h1', h2, h3, h4, hB, C_In2, w1, c1, show ¬ b < f.size by omega]
    have c1 : inn b 0 (f.size - 1) = true := by simp [inn]; omega
    have c3 : b < f.size := by omega
    by_cases ci : i = 0
    · have := g0 ci
      subst ci
      have c4 : last < b := by omega
      have h1z : 0 < bl.length := h1
      have h1z' : 0 < wt.length := h1'
      simp only [Nat.zero_mul, List.drop_zero, Int.ofNat_zero] at h2 h3 h4
      cases c5 : inn w (-1000) 1000
      · simp [-List.length_flatMap, -List.map_take, eF, h1z, h1z', h2, h3, h4, hB, C_In2, w1, c1, c3, c4, c5]
      · simp [-List.length_flatMap, -List.map_take, eF, h1z, h1z', h2, h3, h4, hB, C_In2, w1, c1, c3, c4, c5]
        exact WL.to (ih (by omega)) (by simp) rfl fun x e σ hh => by simpa [c4, c3] using hh
    · have hj := g1 (i - 1) (by omega)
      have h7 := intE_at hj
      have e1 : (((i : Int) - 1)) = ((i - 1 : Nat) : Int) := by omega
      have w2 := w64 (n := (((i - 1 : Nat) : Nat) : Int)) (by omega)
      have h8 : i - 1 < bl.length := by omega
      have c6 : 0 < i := by omega
      by_cases c4 : b ≤ last
      · simp [-List.length_flatMap, -List.map_take, eF, h1, h1', h2, h3, h4, h7, h8, hB, C_In2, w1, w2, e1, c1, c3, c4, c6, show ¬ last < b by omega]
      · cases c5 : inn w (-1000) 1000
        · simp [-List.length_flatMap, -List.map_take, eF, h1, h1', h2, h3, h4, h7, h8, hB, C_In2, w1, w2, e1, c1, c3, c4, c5, c6, show last < b by omega]
        · simp [-List.length_flatMap, -List.map_take, eF, h1, h1', h2, h3, h4, h7, h8, hB, C_In2, w1, w2, e1, c1, c3, c4, c5, c6, show last < b by omega]
          exact WL.to (ih (by omega)) (by simp) rfl fun x e σ hh => by simpa [show last < b by omega, c3] using hh
theorem C_rsums {f : Fld} {k : Int} {bl wt : List Int} (hf : f.valid = true) (hl : bl.length ≤ 9223372036854775807) :
    lim T (.call false i_ref02_sums [.agg [.int .i64 f.x, .int .i64 f.y, .int .i64 f.z, .int .i64 f.k], .int .i64 k, .lst bl.length (bl.flatMap intE), .lst wt.length (wt.flatMap intE)] σ) = some (.val (.bool (sumsOk f k bl wt)) σ) := by
  refine call_of T_ref02_sums e_ref02_sums rfl ?_
  obtain ⟨q1, q2, q3, q4, q5⟩ := Fld.valid_iff.1 hf
  have w1 := w64 (n := f.k - 1) (by omega)
  unfold sumsOk
  cases c1 : inn k 0 (f.k - 1)
  · simp [-List.length_flatMap, -List.map_take, eF, C_In2, w1, c1]
  by_cases c2 : 1 ≤ bl.length
  rotate_left
  · have : bl = [] := List.length_eq_zero_iff.1 (by omega)
    subst this
    simp [-List.length_flatMap, -List.map_take, eF, C_In2, w1, c1]
  have c2' : ¬ (bl.length : Int) < 1 := by omega
  have c2'' : ¬ bl = [] := fun h => by rw [h] at c2; simp at c2
  by_cases c3 : bl.length = wt.length
  rotate_left
  · simp [-List.length_flatMap, -List.map_take, eF, C_In2, w1, c1, c2', c2'', c3, show ¬ (bl.length : Int) = wt.length by omega]
  have c4 : ¬ (wt.length : Int) < 1 := by omega
  have c5 : ¬ wt = [] := fun h => by rw [h] at c3; simp at c3; exact c2'' c3
  simp [-List.length_flatMap, -List.map_take, eF, C_In2, w1, c1, c2, c2', c2'', c3, c4, c5]
  refine WL.to (L_rsums (σ := [] :: σ) hf hl c3 bl.length 0 (-1) (by omega) (fun _ => rfl) (by omega) (by omega)) (by simp [c3]) rfl ?_
  rintro x e σ' ⟨rfl, h⟩
  simp only [List.drop_zero] at h
  cases hc : sumsL f.size (-1) bl wt
  · simp [hc] at h
    simp [h]
  · simp [hc] at h
    simp [-List.length_flatMap, -List.map_take, eF, h]
    omega
theorem C_rends {lo hi : Int} : lim T (.call false i_ref02_Ends [.agg [.int .i64 lo, .int .i64 hi]] σ) = some (.val (.bool (endsOk lo hi)) σ) := by
  refine call_of T_ref02_Ends e_ref02_Ends rfl ?_
  unfold endsOk
  by_cases c1 : -10000000000 ≤ lo
  rotate_left
  · have : inn lo (-10000000000) 10000000000 = false := by simp [inn]; omega
    simp [-List.length_flatMap, -List.map_take, eF, C_In2, this, c1]
  by_cases c2 : lo ≤ hi
  · by_cases c3 : hi ≤ 10000000000
    · have e1 : inn lo (-10000000000) 10000000000 = true := inn_iff.2 (by omega)
      have e2 : inn hi (-10000000000) 10000000000 = true := inn_iff.2 (by omega)
      simp [-List.length_flatMap, -List.map_take, eF, C_In2, e1, e2, c1, c2, c3]
    · have e2 : inn hi (-10000000000) 10000000000 = false := by simp [inn]; omega
      cases e1 : inn lo (-10000000000) 10000000000 <;> simp [-List.length_flatMap, -List.map_take, eF, C_In2, e1, e2, c1, c2, c3]
  · cases e1 : inn lo (-10000000000) 10000000000 <;> cases e2 : inn hi (-10000000000) 10000000000 <;> simp [-List.length_flatMap, -List.map_take, eF, C_In2, e1, e2, c1, c2]
theorem C_RMeasure {f : Fld} {m : Mea} (hf : f.valid = true) (hn : m.name.length ≤ 9223372036854775807) (hl : m.bl.length ≤ 9223372036854775807) :
    lim T (.call false i_ref02_MeasureFault [.agg [.int .i64 f.x, .int .i64 f.y, .int .i64 f.z, .int .i64 f.k], .agg m.enc] σ) = some (.val (.int .i64 (f.measure m)) σ) := by
  refine call_of T_ref02_MeasureFault e_ref02_MeasureFault rfl ?_
  have h1 := fun σ => C_RName (σ := σ) hn
  have h2 := fun σ => C_rsums (σ := σ) (k := m.kind) (wt := m.wt) hf hl
  unfold Fld.measure
  cases c1 : named m.name
  · simp [-List.length_flatMap, -List.map_take, eF, h1, c1]
  cases c2 : sumsOk f m.kind m.bl m.wt
  · simp [-List.length_flatMap, -List.map_take, eF, h1, h2, c1, c2]
  cases c3 : endsOk m.lo m.hi <;> simp [-List.length_flatMap, -List.map_take, eF, h1, h2, C_rends, c1, c2, c3]
end Go.Proofs.YtehandllpmlcoaaGreat

/-
  The reference's checks of lists; copies; elements by their indices.
-/
set_option linter.unusedVariables false
set_option linter.unusedSimpArgs false
set_option maxRecDepth 100000
namespace Go.Proofs.YtehandllpmlcoaaGreat
open Go Go.Abs Go.Rock
variable {σ : Stack}

theorem L_RTwiceM {l : List Mea} {m : Mea} {i : Nat} {d2 : D} (hd2 : d2.strip = d2 ∧ d2.calm = d2) (hm : l[i]? = some m) (hl : l.length ≤ 9223372036854775807) : ∀ (k j : Nat), j + k = i →
    WL T [1, 2, 5, 7] false f_ref02_MeasuresFault_l13 [(1, .lst l.length (l.flatMap Mea.enc)), (2, d2), (5, .int .i64 i), (7, .int .i64 j)] σ
      (fun x e σ' => σ' = σ ∧ if (((l.take i).drop j).map Mea.name).contains m.name then x = .ret ∧ get e 4 = .int .i64 6 else x = .exit 2 ∧ get e 1 = .lst l.length (l.flatMap Mea.enc) ∧ get e 2 = d2 ∧ get e 5 = .int .i64 i)
  | 0, j, hj => by
    refine WL_step e_ref02_MeasuresFault_l13 ?_
    obtain rfl : j = i := by omega
    have h2 : (l.take j).drop j = [] := List.drop_eq_nil_of_le (by rw [List.length_take]; omega)
    rw [h2]
    simp [-List.length_flatMap, -List.map_take, eF, hd2.1, hd2.2]
  | k + 1, j, hj => by
    refine WL_step e_ref02_MeasuresFault_l13 ?_
    have h0 : i < l.length := (List.getElem?_eq_some_iff.1 hm).1
    have h1 : j < i := by omega
    have h1' : j < l.length := by omega
    obtain ⟨r, hr⟩ : ∃ r, l[j]? = some r := ⟨_, List.getElem?_eq_getElem (by omega)⟩
    have h2 := meaE_at hr
    have h3 := meaE_at hm
    simp only [Mea.enc] at h2 h3
    have h4 := wnext h1' (by omega)
    have h5 : (l.take i).drop j = r :: (l.take i).drop (j + 1) := drop_at (by rw [List.getElem?_take]; simp [h1, hr])
    have ih := L_RTwiceM hd2 hm hl k (j + 1) (by omega)
    rw [h5, List.map_cons]
    have hp : puD (.seq false) [.str r.name, .str m.name] = some (.bool (r.name == m.name)) := rfl
    by_cases hc : r.name = m.name
    · rw [hc] at hp
      simp [-List.length_flatMap, -List.map_take, eF, h0, h1, h1', h2, h3, h4, hp, hc, hd2.1, hd2.2]
    · have hc' : ¬ m.name = r.name := fun h => hc h.symm
      have hb : (r.name == m.name) = false := by simpa using hc
      rw [hb] at hp
      simp [-List.length_flatMap, -List.map_take, eF, h0, h1, h1', h2, h3, h4, hp, hd2.1, hd2.2]
      exact WL.to ih (by simp) rfl fun x e σ' hh => by simpa [hc'] using hh
theorem L_RMeasures {f : Fld} {l : List Mea} (hf : f.valid = true) (hs : ∀ m ∈ l, m.name.length ≤ 9223372036854775807 ∧ m.bl.length ≤ 9223372036854775807) (hl : l.length ≤ 9223372036854775807) : ∀ (k i : Nat), i + k = l.length →
    WL T [1, 2, 5] false f_ref02_MeasuresFault_l15 [(1, .lst l.length (l.flatMap Mea.enc)), (2, .cref [.int .i64 f.x, .int .i64 f.y, .int .i64 f.z, .int .i64 f.k]), (5, .int .i64 i)] σ
      (fun x e σ' => σ' = σ ∧ if f.eachM ((l.take i).map Mea.name) (l.drop i) = 0 then x = .exit 0 else x = .ret ∧ get e 4 = .int .i64 (f.eachM ((l.take i).map Mea.name) (l.drop i)))
  | 0, i, hi => by
    refine WL_step e_ref02_MeasuresFault_l15 ?_
    have h1 : ¬ i < l.length := by omega
    have h2 : l.drop i = [] := List.drop_eq_nil_of_le (by omega)
    simp [-List.length_flatMap, -List.map_take, eF, h1, h2, Fld.eachM]
  | k + 1, i, hi => by
    refine WL_step e_ref02_MeasuresFault_l15 ?_
    have h1 : i < l.length := by omega
    obtain ⟨m, hm⟩ : ∃ m, l[i]? = some m := ⟨_, List.getElem?_eq_getElem h1⟩
    have h2 := meaE_at hm
    have h4 := wnext h1 (by omega)
    have h5 := drop_at hm
    obtain ⟨hs1, hs2⟩ := hs m (List.mem_of_getElem? hm)
    have hC := fun σ => C_RMeasure (σ := σ) hf hs1 hs2
    simp only [Mea.enc] at h2 hC
    have ih := L_RMeasures hf hs hl k (i + 1) (by omega)
    have e1 : (l.take (i + 1)).map Mea.name = (l.take i).map Mea.name ++ [m.name] := by rw [List.take_add_one, hm]; simp
    rw [e1] at ih
    rw [h5, Fld.eachM]
    by_cases hc1 : f.measure m = 0
    · simp [-List.length_flatMap, -List.map_take, eF, h1, h2, h4, hC, hc1]
      refine WL.to (L_RTwiceM (d2 := .cref [.int .i64 f.x, .int .i64 f.y, .int .i64 f.z, .int .i64 f.k]) ⟨rfl, rfl⟩ hm hl i 0 (by omega)) (by simp) rfl ?_
      rintro x e σ' ⟨rfl, h⟩
      simp only [List.drop_zero] at h
      cases hc : ((l.take i).map Mea.name).contains m.name
      · rw [hc] at h
        simp at h
        obtain ⟨rfl, g1, g2, g5⟩ := h
        simp [-List.length_flatMap, -List.map_take, eF, g1, g2, g5, h4]
        have hc' : ¬ m.name ∈ List.take i (List.map Mea.name l) := by simpa using hc
        exact WL.to ih (by simp) rfl fun x e σ' hh => by simpa [hc1, hc'] using hh
      · rw [hc] at h
        simp at h
        have hc' : m.name ∈ List.take i (List.map Mea.name l) := by simpa using hc
        simp [h, hc', hc1]
    · simp [-List.length_flatMap, -List.map_take, eF, h1, h2, h4, hC, hc1]
theorem C_RMeasures {f : Fld} {l : List Mea} (hf : f.valid = true) (hs : ∀ m ∈ l, m.name.length ≤ 9223372036854775807 ∧ m.bl.length ≤ 9223372036854775807) (hl : l.length ≤ 9223372036854775807) :
    lim T (.call false i_ref02_MeasuresFault [.agg [.int .i64 f.x, .int .i64 f.y, .int .i64 f.z, .int .i64 f.k], .lst l.length (l.flatMap Mea.enc)] σ) = some (.val (.int .i64 (f.measures l)) σ) := by
  refine call_of T_ref02_MeasuresFault e_ref02_MeasuresFault rfl ?_
  unfold Fld.measures
  by_cases h2 : 12 < l.length
  · simp [-List.length_flatMap, -List.map_take, eF, h2, show (12 : Int) < l.length by omega]
  rw [if_neg h2]
  simp [-List.length_flatMap, -List.map_take, eF, h2, show ¬ (12 : Int) < l.length by omega]
  refine WL.to (L_RMeasures (σ := [] :: σ) hf hs hl l.length 0 (by omega)) (by simp) (by simp) ?_
  rintro x e σ' ⟨rfl, h⟩
  simp only [List.drop_zero, List.take_zero, List.map_nil] at h
  by_cases hc : f.eachM [] l = 0
  · rw [if_pos hc] at h
    subst h
    simp [-List.length_flatMap, -List.map_take, eF, hc]
  · rw [if_neg hc] at h
    obtain ⟨rfl, h⟩ := h
    simp [h]

/-! ### Readings -/
theorem L_RReadings {b : Bed} {rd : List Rdg} {n : Nat} (h : Bv b) (hl : rd.length ≤ 40) (hw : ∀ x ∈ rd, 0 ≤ x.what ∧ x.what ≤ 255) : ∀ (k i : Nat), i + k = rd.length →
    WL T [1, 2, 3, 7] false f_ref05_ReadingsFault_l11 [(1, .int .i64 n), (2, .lst rd.length (rd.flatMap Rdg.enc)), (3, .cref [.int .i64 b.f.x, .int .i64 b.f.y, .int .i64 b.f.z, .int .i64 b.f.k, .lst b.tab.length (b.tab.flatMap Rw.enc), .int .i64 b.stiff, .int .i64 b.lift, .int .i64 b.deep, .lst b.wells.length (b.wells.flatMap Bore.enc)]), (7, .int .i64 i)] σ
      (fun x e σ' => σ' = σ ∧ if firstE (readE b n) (rd.drop i) = 0 then x = .exit 0 else x = .ret ∧ get e 6 = .int .i64 (firstE (readE b n) (rd.drop i)))
  | 0, i, hi => by
    refine WL_step e_ref05_ReadingsFault_l11 ?_
    have h1 : ¬ i < rd.length := by omega
    have h2 : rd.drop i = [] := List.drop_eq_nil_of_le (by omega)
    simp [-List.length_flatMap, -List.map_take, eF, h1, h2, firstE]
  | k + 1, i, hi => by
    refine WL_step e_ref05_ReadingsFault_l11 ?_
    have h1 : i < rd.length := by omega
    obtain ⟨x, hx⟩ : ∃ x, rd[i]? = some x := ⟨_, List.getElem?_eq_getElem h1⟩
    have h2 := rdgE_at hx
    simp only [Rdg.enc] at h2
    have h4 := wnext h1 (by omega)
    have h5 := drop_at hx
    have hwx := hw x (List.mem_of_getElem? hx)
    have hz := h.sz
    have hn := h.n
    have hwl := h.wells
    have hS := fun σ => C_RSize' (σ := σ) h.fv
    have hsz : b.f.size = (b.n : Int) := hz
    rw [hsz] at hS
    have hsz' : b.size = (b.n : Int) := hz
    have w2 := w64 (n := (b.n : Int) - 1) (by omega)
    have w3 := w64 (n := (b.wells.length : Int) - 1) (by omega)
    have ih := L_RReadings (n := n) h hl hw k (i + 1) (by omega)
    rw [h5, firstE]
    by_cases c0 : x.what < 1
    · have c1 : inn x.what 1 4 = false := by simp [inn]; omega
      have hE : readE b n x = 1 := by simp [readE, c1]
      rw [hE]
      simp [-List.length_flatMap, -List.map_take, eF, h1, h2, c0, c1]
    by_cases c0' : 4 < x.what
    · have c1 : inn x.what 1 4 = false := by simp [inn]; omega
      have hE : readE b n x = 1 := by simp [readE, c1]
      rw [hE]
      simp [-List.length_flatMap, -List.map_take, eF, h1, h2, c0, c0', c1]
    have c1 : inn x.what 1 4 = true := inn_iff.2 (by omega)
    by_cases c2 : x.lo < -10000000000
    · have hE : readE b n x = 1 := by simp [readE, c1, c2]
      rw [hE]
      simp [-List.length_flatMap, -List.map_take, eF, h1, h2, c0, c0', c1, c2]
    by_cases c3 : x.hi < x.lo
    · have hE : readE b n x = 1 := by simp [readE, c1, c2, c3]
      rw [hE]
      simp [-List.length_flatMap, -List.map_take, eF, h1, h2, c0, c0', c1, c2, c3]
    by_cases c4 : 10000000000 < x.hi
    · have hE : readE b n x = 1 := by simp [readE, c1, c2, c3, c4]
      rw [hE]
      simp [-List.length_flatMap, -List.map_take, eF, h1, h2, c0, c0', c1, c2, c3, c4]
    by_cases c5 : x.what = 1
    · have c1' : inn 1 1 4 = true := rfl
      cases c6 : inn x.tick 0 n
      · have hE : readE b n x = 2 := by simp [readE, c1', c2, c3, c4, c5, c6]
        rw [hE]
        simp [-List.length_flatMap, -List.map_take, eF, h1, h2, c1', c2, c3, c4, c5, c6, C_In1]
      · cases c7 : inn x.idx 0 ((b.n : Int) - 1)
        · have hE : readE b n x = 2 := by simp [readE, c1', c2, c3, c4, c5, c6, c7, hsz']
          rw [hE]
          simp [-List.length_flatMap, -List.map_take, eF, h1, h2, c1', c2, c3, c4, c5, c6, c7, C_In1, hS, w2, hsz', cl_rw, cl_bore]
        · have hE : readE b n x = 0 := by simp [readE, c1', c2, c3, c4, c5, c6, c7, hsz']
          rw [hE]
          simp [-List.length_flatMap, -List.map_take, eF, h1, h2, h4, c1', c2, c3, c4, c5, c6, c7, C_In1, hS, w2, hsz', cl_rw, cl_bore]
          exact WL.to ih (by simp) rfl fun x e σ hh => by simpa using hh
    · have c8 : 1 < x.what := by omega
      cases c6 : inn x.tick 1 n
      · have hE : readE b n x = 2 := by simp [readE, c1, c2, c3, c4, c5, c6]
        rw [hE]
        simp [-List.length_flatMap, -List.map_take, eF, h1, h2, c0, c0', c1, c2, c3, c4, c5, c8, c6, C_In1]
      · cases c7 : inn x.idx 0 ((b.wells.length : Int) - 1)
        · have hE : readE b n x = 2 := by simp [readE, c1, c2, c3, c4, c5, c6, c7]
          rw [hE]
          simp [-List.length_flatMap, -List.map_take, eF, h1, h2, c0, c0', c1, c2, c3, c4, c5, c8, c6, c7, C_In1, w3]
        · have hE : readE b n x = 0 := by simp [readE, c1, c2, c3, c4, c5, c6, c7]
          rw [hE]
          simp [-List.length_flatMap, -List.map_take, eF, h1, h2, h4, c0, c0', c1, c2, c3, c4, c5, c8, c6, c7, C_In1, w3]
          exact WL.to ih (by simp) rfl fun x e σ hh => by simpa using hh
theorem C_RReadings {b : Bed} {rd : List Rdg} {n : Nat} (h : Bv b) (hl : rd.length ≤ 9223372036854775807) (hw : ∀ x ∈ rd, 0 ≤ x.what ∧ x.what ≤ 255) :
    lim T (.call false i_ref05_ReadingsFault [.agg [.int .i64 b.f.x, .int .i64 b.f.y, .int .i64 b.f.z, .int .i64 b.f.k, .lst b.tab.length (b.tab.flatMap Rw.enc), .int .i64 b.stiff, .int .i64 b.lift, .int .i64 b.deep, .lst b.wells.length (b.wells.flatMap Bore.enc)], .int .i64 n, .lst rd.length (rd.flatMap Rdg.enc)] σ) = some (.val (.int .i64 (readsE b n rd)) σ) := by
  refine call_of T_ref05_ReadingsFault e_ref05_ReadingsFault rfl ?_
  unfold readsE
  by_cases h2 : 40 < rd.length
  · simp [-List.length_flatMap, -List.map_take, eF, h2, show (40 : Int) < rd.length by omega]
  rw [if_neg h2]
  simp [-List.length_flatMap, -List.map_take, eF, h2, show ¬ (40 : Int) < rd.length by omega, cl_rw, cl_bore]
  refine WL.to (L_RReadings (σ := [] :: σ) (n := n) h (by omega) hw rd.length 0 (by omega)) (by simp) (by simp) ?_
  rintro x e σ' ⟨rfl, hh⟩
  simp only [List.drop_zero] at hh
  by_cases hc : firstE (readE b n) rd = 0
  · rw [if_pos hc] at hh
    subst hh
    simp [-List.length_flatMap, -List.map_take, eF, hc]
  · rw [if_neg hc] at hh
    obtain ⟨rfl, hh⟩ := hh
    simp [hh]
end Go.Proofs.YtehandllpmlcoaaGreat

/-
  Measures and readings in new memory; elements by their indices.
-/
set_option linter.unusedVariables false
set_option linter.unusedSimpArgs false
set_option maxRecDepth 100000
namespace Go.Proofs.YtehandllpmlcoaaGreat
open Go Go.Abs Go.Rock
variable {σ : Stack}

theorem mea_len (l : List Mea) : (l.flatMap Mea.enc).length = l.length * 6 := flat_len (f := Mea.enc) (w := 6) (fun _ => rfl) l
theorem rdg_len (l : List Rdg) : (l.flatMap Rdg.enc).length = l.length * 5 := flat_len (f := Rdg.enc) (w := 5) (fun _ => rfl) l
theorem cl_mea (l : List Mea) : D.cleanL (l.flatMap Mea.enc) = true := k_clean (fun x => by simp [D.clean, cl_int]) l
theorem C_LRange {lo hi : Int} : lim T (.call false i_law02_Range [.agg [.int .i64 lo, .int .i64 hi]] σ) = some (.val (.agg [.int .i64 lo, .int .i64 hi]) σ) := by
  refine call_of T_law02_Range e_law02_Range rfl ?_
  simp [-List.length_flatMap, -List.map_take, eF]
theorem C_LMeasure {m : Mea} (h1 : m.bl.length ≤ 1000) (h2 : m.wt.length ≤ 1000) : lim T (.call false i_law02_Measure [.agg m.enc] σ) = some (.val (.agg m.enc) σ) := by
  refine call_of T_law02_Measure e_law02_Measure rfl ?_
  have h8 : m.bl.length * 8 ≤ room := by unfold room; omega
  have h9 : m.wt.length * 8 ≤ room := by unfold room; omega
  have i1 := int_len m.bl
  have i2 := int_len m.wt
  simp [-List.length_flatMap, -List.map_take, eF, C_LRange, cl_int, h8, h9, i1, i2]
theorem L_LMeasures {l : List Mea} (hl : l.length ≤ 12) (hs : ∀ m ∈ l, m.bl.length ≤ 1000 ∧ m.wt.length ≤ 1000) : ∀ (n i : Nat), i + n = l.length →
    WL T [0, 3, 4] false f_law02_Measures_l6 [(0, .lst l.length (l.flatMap Mea.enc)), (3, .sl σ.length 0 i 0 i 6), (4, .int .i64 i)] ([.cells i ((l.take i).flatMap Mea.enc)] :: σ)
      (fun x e σ' => x = .exit 0 ∧ get e 3 = .sl σ.length 0 l.length 0 l.length 6 ∧ σ' = [.cells l.length (l.flatMap Mea.enc)] :: σ)
  | 0, i, hi => by
    refine WL_step e_law02_Measures_l6 ?_
    obtain rfl : i = l.length := by omega
    simp [-List.length_flatMap, -List.map_take, eF]
  | n + 1, i, hi => by
    refine WL_step e_law02_Measures_l6 ?_
    have h1 : i < l.length := by omega
    obtain ⟨r, hr⟩ : ∃ r, l[i]? = some r := ⟨_, List.getElem?_eq_getElem h1⟩
    have h2 := meaE_at hr
    have h4 := wnext h1 (by omega)
    obtain ⟨s1, s2⟩ := hs r (List.mem_of_getElem? hr)
    have hC := fun σ => C_LMeasure (σ := σ) (m := r) s1 s2
    simp only [Mea.enc] at h2 hC
    have ih := L_LMeasures hl hs n (i + 1) (by omega)
    have a3 := flat_snoc (f := Mea.enc) hr
    have a4 := mea_len (l.take i)
    rw [List.length_take, Nat.min_eq_left (by omega)] at a4
    have a6 : ((l.take i).flatMap Mea.enc).take (i * 6) = (l.take i).flatMap Mea.enc := List.take_of_length_le (by omega)
    have h7 : (i + 1) * 88 ≤ room := by unfold room; omega
    simp [-List.length_flatMap, -List.map_take, eF, h1, h2, h4, hC, a4, a6, h7, D.clean, cl_int]
    exact WL.to ih (by simp) (by simp [← a3]) fun x e σ hh => hh
theorem C_LMeasures {l : List Mea} (hl : l.length ≤ 12) (hs : ∀ m ∈ l, m.bl.length ≤ 1000 ∧ m.wt.length ≤ 1000) (hσ : σ ≠ []) : lim T (.call false i_law02_Measures [.lst l.length (l.flatMap Mea.enc)] σ) = some (.val (.lst l.length (l.flatMap Mea.enc)) σ) := by
  refine call_of T_law02_Measures e_law02_Measures rfl ?_
  simp [-List.length_flatMap, -List.map_take, eF]
  refine WL.to (L_LMeasures (σ := σ) hl hs l.length 0 (by omega)) (by simp) (by simp) ?_
  rintro x e σ' ⟨rfl, g3, rfl⟩
  simp [-List.length_flatMap, -List.map_take, eF, g3]
  rw [k_out (f := Mea.enc) (by decide) (fun _ => rfl) (fun x => by simp [D.clean, cl_int]) hσ (by simp)]
  simp
theorem L_LReadings {l : List Rdg} (hl : l.length ≤ 40) : ∀ (n i : Nat), i + n = l.length →
    WL T [0, 3, 4] false f_law05_Readings_l6 [(0, .lst l.length (l.flatMap Rdg.enc)), (3, .sl σ.length 0 i 0 i 5), (4, .int .i64 i)] ([.cells i ((l.take i).flatMap Rdg.enc)] :: σ)
      (fun x e σ' => x = .exit 0 ∧ get e 3 = .sl σ.length 0 l.length 0 l.length 5 ∧ σ' = [.cells l.length (l.flatMap Rdg.enc)] :: σ)
  | 0, i, hi => by
    refine WL_step e_law05_Readings_l6 ?_
    obtain rfl : i = l.length := by omega
    simp [-List.length_flatMap, -List.map_take, eF]
  | n + 1, i, hi => by
    refine WL_step e_law05_Readings_l6 ?_
    have h1 : i < l.length := by omega
    obtain ⟨r, hr⟩ : ∃ r, l[i]? = some r := ⟨_, List.getElem?_eq_getElem h1⟩
    have h2 := rdgE_at hr
    simp only [Rdg.enc] at h2
    have h4 := wnext h1 (by omega)
    have ih := L_LReadings hl n (i + 1) (by omega)
    have a3 := flat_snoc (f := Rdg.enc) hr
    have a4 := rdg_len (l.take i)
    rw [List.length_take, Nat.min_eq_left (by omega)] at a4
    have a6 : ((l.take i).flatMap Rdg.enc).take (i * 5) = (l.take i).flatMap Rdg.enc := List.take_of_length_le (by omega)
    have h7 : (i + 1) * 40 ≤ room := by unfold room; omega
    simp [-List.length_flatMap, -List.map_take, eF, h1, h2, h4, a4, a6, h7]
    exact WL.to ih (by simp) (by simp [← a3]) fun x e σ hh => hh
theorem C_LReadings {l : List Rdg} (hl : l.length ≤ 40) (hσ : σ ≠ []) : lim T (.call false i_law05_Readings [.lst l.length (l.flatMap Rdg.enc)] σ) = some (.val (.lst l.length (l.flatMap Rdg.enc)) σ) := by
  refine call_of T_law05_Readings e_law05_Readings rfl ?_
  simp [-List.length_flatMap, -List.map_take, eF]
  refine WL.to (L_LReadings (σ := σ) hl l.length 0 (by omega)) (by simp) (by simp) ?_
  rintro x e σ' ⟨rfl, g3, rfl⟩
  simp [-List.length_flatMap, -List.map_take, eF, g3]
  rw [k_out (f := Rdg.enc) (by decide) (fun _ => rfl) (fun x => by simp) hσ (by simp)]
  simp

/-! ### Elements by their indices -/
def dM : Mdl := ⟨[], []⟩
def picks (l : List Mdl) (ix : List Int) : List Mdl := ix.map fun n => (l[n.toNat]?).getD dM
theorem L_some {l : List Mdl} {ix : List Int} (hl : l.length ≤ 40) (ha : ix.length ≤ 40) (hin : ∀ n ∈ ix, 0 ≤ n ∧ n < l.length) : ∀ (k i : Nat), i + k = ix.length →
    WL T [0, 1, 6, 7] false f_top_some_l8 [(0, .lst l.length (l.flatMap Mdl.enc)), (1, .lst ix.length (ix.flatMap intE)), (6, .sl σ.length 0 i 0 i 2), (7, .int .i64 i)] ([.cells i (((picks l ix).take i).flatMap Mdl.enc)] :: σ)
      (fun x e σ' => x = .exit 0 ∧ get e 6 = .sl σ.length 0 ix.length 0 ix.length 2 ∧ σ' = [.cells ix.length ((picks l ix).flatMap Mdl.enc)] :: σ)
  | 0, i, hi => by
    refine WL_step e_top_some_l8 ?_
    obtain rfl : i = ix.length := by omega
    have h3 : (picks l ix).take ix.length = picks l ix := List.take_of_length_le (by simp [picks])
    simp [-List.length_flatMap, -List.map_take, eF, h3]
  | k + 1, i, hi => by
    refine WL_step e_top_some_l8 ?_
    have h1 : i < ix.length := by omega
    obtain ⟨n, hn⟩ : ∃ r, ix[i]? = some r := ⟨_, List.getElem?_eq_getElem h1⟩
    obtain ⟨n1, n2⟩ := hin n (List.mem_of_getElem? hn)
    obtain ⟨j, rfl⟩ : ∃ j : Nat, n = j := ⟨n.toNat, by omega⟩
    have n3 : j < l.length := by omega
    obtain ⟨m, hm⟩ : ∃ r, l[j]? = some r := ⟨_, List.getElem?_eq_getElem n3⟩
    have h2 := intE_at hn
    have h3 := mdlE_at hm
    have h4 := wnext h1 (by omega)
    have ih := L_some hl ha hin k (i + 1) (by omega)
    have hx : (picks l ix)[i]? = some m := by simp [picks, hn, hm]
    have a3 := flat_snoc (f := Mdl.enc) hx
    have a4 := mdl_len ((picks l ix).take i)
    rw [List.length_take, show (picks l ix).length = ix.length from by simp [picks], Nat.min_eq_left (by omega)] at a4
    have a6 : (((picks l ix).take i).flatMap Mdl.enc).take (i * 2) = ((picks l ix).take i).flatMap Mdl.enc := List.take_of_length_le (by omega)
    have h7 : (i + 1) * 40 ≤ room := by unfold room; omega
    have n4 : ¬ l.length ≤ j := by omega
    have n5 : ¬ (j : Int) < 0 := by omega
    simp [-List.length_flatMap, -List.map_take, eF, h1, h2, h3, h4, n3, n4, n5, a4, a6, h7, D.clean, cl_int]
    exact WL.to ih (by simp) (by simp [← a3]) fun x e σ hh => hh
theorem frz_two {l0 n w u i : Nat} {b : Bool} {S S' : Stack} {cs : List D} (h : frz l0 15 (.sl u i n 0 n w) S = (.lst n cs, S')) : frz l0 16 (.tup [.sl u i n 0 n w, .bool b]) S = (.tup [.lst n cs, .bool b], S') := by
  rw [frz_tup (by rfl) (by omega)]
  simp only [frzL_cons, frzL_nil]
  rw [h, frz_clean (by rfl) (by omega)]
theorem C_some {l : List Mdl} {ix : List Int} (hl : l.length ≤ 40) (ha : ix.length ≤ 40) (hin : ∀ n ∈ ix, 0 ≤ n ∧ n < l.length) (hσ : σ ≠ []) :
    lim T (.call false i_top_some [.lst l.length (l.flatMap Mdl.enc), .lst ix.length (ix.flatMap intE)] σ) = some (.val (.tup [.lst (picks l ix).length ((picks l ix).flatMap Mdl.enc), .bool true]) σ) := by
  refine call_of T_top_some e_top_some rfl ?_
  simp [-List.length_flatMap, -List.map_take, eF]
  refine WL.to (L_some (σ := σ) hl ha hin ix.length 0 (by omega)) (by simp) (by simp) ?_
  rintro x e σ' ⟨rfl, g6, rfl⟩
  simp [-List.length_flatMap, -List.map_take, eF, g6]
  have hk := k_out (n := 15) (f := Mdl.enc) (w := 2) (l := picks l ix) (j := 0) (v := ix.length) (bs := [.cells ix.length ((picks l ix).flatMap Mdl.enc)]) (by decide) (fun _ => rfl) (fun x => by simp [D.clean, cl_int]) hσ rfl
  have e1 : (picks l ix).length = ix.length := by simp [picks]
  rw [e1] at hk ⊢
  rw [frz_two hk]
  exact ⟨_, rfl⟩
/-- Those that are so. -/
theorem picks_idxs {p : Mdl → Bool} (l : List Mdl) : picks l (idxs p 0 l) = l.filter p := idxs_map (d := dM) (L := l) rfl
end Go.Proofs.YtehandllpmlcoaaGreat

/-
  TopEither: the law.
-/
set_option linter.unusedVariables false
set_option linter.unusedSimpArgs false
set_option maxRecDepth 100000
namespace Go.Proofs.YtehandllpmlcoaaGreat
open Go Go.Abs Go.Rock
variable {σ : Stack}

theorem each_all {f : Fld} : ∀ {l : List Mdl} {met : List (List UInt8)}, f.each met l = 0 → ∀ x ∈ l, f.model x = 0
  | [], met, h, x, hx => by cases hx
  | m :: l, met, h, x, hx => by
    simp only [Fld.each] at h
    split at h
    · rename_i h1
      split at h
      · cases h
      · rcases List.mem_cons.1 hx with rfl | hx
        · exact h1
        · exact each_all h x hx
    · rename_i h1; exact absurd h h1
theorem each_filter {f : Fld} {p : Mdl → Bool} : ∀ {l : List Mdl} {met met' : List (List UInt8)}, (∀ n ∈ met', n ∈ met) → f.each met l = 0 → f.each met' (l.filter p) = 0
  | [], met, met', hm, h => by simp [Fld.each]
  | m :: l, met, met', hm, h => by
    simp only [Fld.each] at h
    split at h
    · rename_i h1
      split at h
      · cases h
      · rename_i h2
        have h2' : met'.contains m.name = false := by
          have : ¬ m.name ∈ met := by simpa using h2
          simpa using fun hh => this (hm _ hh)
        by_cases hp : p m = true
        · rw [List.filter_cons_of_pos hp]
          simp only [Fld.each, h1, h2', if_true, Bool.false_eq_true, if_false]
          exact each_filter (by
            intro n hn
            rcases List.mem_append.1 hn with hn | hn
            · exact List.mem_append.2 (.inl (hm n hn))
            · exact List.mem_append.2 (.inr hn)) h
        · rw [List.filter_cons_of_neg hp]
          exact each_filter (fun n hn => List.mem_append.2 (.inl (hm n hn))) h
    · rename_i h1; exact absurd h h1
theorem models_filter {f : Fld} {p : Mdl → Bool} {l : List Mdl} (h : f.models l = 0) (hne : l.filter p ≠ []) : f.models (l.filter p) = 0 := by
  unfold Fld.models at h ⊢
  split at h
  · rename_i h1
    have h2 := inn_iff.1 h1
    have h3 := List.length_filter_le p l
    have h4 := List.length_pos_iff.2 hne
    rw [if_pos (inn_iff.2 (by omega))]
    exact each_filter (fun n hn => hn) h
  · cases h
theorem ok_filter {b : Bed} {l : List Mdl} {plan : List (List Int)} {p : Mdl → Bool} (h : Ok b l plan) (hne : l.filter p ≠ []) : Ok b (l.filter p) plan := by
  have h3 := List.length_filter_le p l
  have h4 := List.length_pos_iff.2 hne
  have hl := h.len
  exact ⟨h.bv, h.valid, by omega, models_filter h.models hne, fun m hm => h.fit m (List.mem_filter.1 hm).1, fun m hm => h.fv m (List.mem_filter.1 hm).1, fun m hm => h.short m (List.mem_filter.1 hm).1, h.pl, h.plen, h.rates⟩
theorem runsL_filter {b : Bed} {plan : List (List Int)} {p : Mdl → Bool} : ∀ {l : List Mdl} {rs : List RunT}, runsL b plan l = some rs → ∃ rs', runsL b plan (l.filter p) = some rs'
  | [], rs, h => ⟨[], rfl⟩
  | m :: l, rs, h => by
    simp only [runsL] at h
    cases hr : Rock.run b m plan with
    | none => rw [hr] at h; cases h
    | some r =>
      rw [hr] at h
      simp only [Option.map_eq_some_iff] at h
      obtain ⟨rs', h1, rfl⟩ := h
      obtain ⟨rs2, h2⟩ := runsL_filter (p := p) h1
      by_cases hp : p m = true
      · rw [List.filter_cons_of_pos hp]
        exact ⟨r :: rs2, by simp [runsL, hr, h2]⟩
      · rw [List.filter_cons_of_neg hp]
        exact ⟨rs2, h2⟩
theorem idxs_zip {b : Bed} {plan : List (List Int)} {rd : List Rdg} : ∀ {l : List Mdl} {rs : List RunT} {i : Nat}, runsL b plan l = some rs → idxs (fun p : Mdl × RunT => (missM b p.1 p.2 rd).all fun v => v == 0) i (l.zip rs) = idxs (okR b (fun m => Rock.run b m plan) rd) i l
  | [], rs, i, h => by simp [idxs]
  | m :: l, rs, i, h => by
    simp only [runsL] at h
    cases hr : Rock.run b m plan with
    | none => rw [hr] at h; cases h
    | some r =>
      rw [hr] at h
      simp only [Option.map_eq_some_iff] at h
      obtain ⟨rs', h1, rfl⟩ := h
      have e1 : okR b (fun m => Rock.run b m plan) rd m = (missM b m r rd).all fun v => v == 0 := by simp [okR, hr, missM, List.all_map, Function.comp_def]
      simp only [List.zip_cons_cons, idxs, e1, idxs_zip (i := i + 1) h1]
theorem L_names {l : List Mdl} (hl : l.length ≤ 1000) : ∀ (k i : Nat), i + k = l.length →
    WL T [24, 25, 36] false f_top_TopEither_l32 [(24, .lst l.length (l.flatMap Mdl.enc)), (25, .lst l.length (l.flatMap Mdl.enc)), (36, .int .i64 i)] σ (fun x e σ' => x = .exit 0 ∧ σ' = σ)
  | 0, i, hi => by
    refine WL_step e_top_TopEither_l32 ?_
    obtain rfl : i = l.length := by omega
    simp [-List.length_flatMap, -List.map_take, eF]
  | k + 1, i, hi => by
    refine WL_step e_top_TopEither_l32 ?_
    have h1 : i < l.length := by omega
    obtain ⟨m, hm⟩ : ∃ r, l[i]? = some r := ⟨_, List.getElem?_eq_getElem h1⟩
    have h2 := mdlE_at hm
    have h4 := wnext h1 (by omega)
    have ih := L_names hl k (i + 1) (by omega)
    have hp : puD (.seq true) [.str m.name, .str m.name] = some (.bool false) := by simp [puD]
    simp [-List.length_flatMap, -List.map_take, eF, h1, h2, h4, hp]
    exact WL.to ih (by simp) rfl fun x e σ hh => hh
theorem idxs_in {p : Mdl → Bool} {l : List Mdl} : ∀ n ∈ idxs p 0 l, 0 ≤ n ∧ n < l.length := by
  intro n hn
  obtain ⟨k, x, h1, h2, h3⟩ := idxs_get hn
  have := (List.getElem?_eq_some_iff.1 h2).1
  omega
theorem C_pickF {p : Mdl → Bool} {l : List Mdl} (hl : l.length ≤ 40) (hσ : σ ≠ []) :
    lim T (.call false i_top_some [.lst l.length (l.flatMap Mdl.enc), .lst (idxs p 0 l).length ((idxs p 0 l).flatMap intE)] σ) = some (.val (.tup [.lst (l.filter p).length ((l.filter p).flatMap Mdl.enc), .bool true]) σ) := by
  have := C_some (l := l) (ix := idxs p 0 l) hl (by have := idxs_len (p := p) (l := l) (i := 0); omega) idxs_in hσ
  rw [picks_idxs] at this
  exact this
theorem law_Either {b : Bed} {l : List Mdl} {plan : List (List Int)} {logs : List Mea} {rd : List Rdg} (h1 : b.tab.length ≤ 9223372036854775807) (h2 : b.wells.length ≤ 9223372036854775807) (hs : ∀ m ∈ l, m.name.length ≤ 9223372036854775807 ∧ m.vals.length ≤ 9223372036854775807) (hl : l.length ≤ 9223372036854775807) (hp : plan.length ≤ 9223372036854775807) (hr : ∀ l ∈ plan, l.length ≤ 9223372036854775807)
    (hg : ∀ m ∈ logs, m.name.length ≤ 9223372036854775807 ∧ m.bl.length ≤ 9223372036854775807) (hgl : logs.length ≤ 9223372036854775807) (hd : ∀ x ∈ rd, 0 ≤ x.what ∧ x.what ≤ 255) (hdl : rd.length ≤ 9223372036854775807) :
    lim T (.call false i_top_TopEither [.agg [.int .i64 b.f.x, .int .i64 b.f.y, .int .i64 b.f.z, .int .i64 b.f.k, .lst b.tab.length (b.tab.flatMap Rw.enc), .int .i64 b.stiff, .int .i64 b.lift, .int .i64 b.deep, .lst b.wells.length (b.wells.flatMap Bore.enc)], .lst l.length (l.flatMap Mdl.enc), .lst plan.length (plan.flatMap inL), .lst logs.length (logs.flatMap Mea.enc), .lst rd.length (rd.flatMap Rdg.enc)] [[]]) = some (.val (.bool true) [[]]) := by
  refine call_of T_top_TopEither e_top_TopEither rfl ?_
  have hS := fun σ hσ => C_still (σ := σ) hσ
  have hC := fun σ => C_run (σ := σ) h1 h2 hs hl hp hr
  cases hc : runOk b l plan
  · rw [hc] at hC
    simp [-List.length_flatMap, -List.map_take, eF, hC, hS, cl_rw, cl_bore]
  rw [hc] at hC
  have h := Ok.of hc
  have hll := h.len
  have hpl := h.plen
  have hM := fun σ => C_RMeasures (σ := σ) h.bv.fv hg hgl
  by_cases c1 : b.f.measures logs = 0
  rotate_left
  · simp [-List.length_flatMap, -List.map_take, eF, hC, hS, hM, c1, cl_rw, cl_bore]
  rw [c1] at hM
  by_cases c2 : 8 < rd.length
  · simp [-List.length_flatMap, -List.map_take, eF, hC, hS, hM, show (8 : Int) < rd.length by omega, cl_rw, cl_bore]
  have c2' : ¬ (8 : Int) < rd.length := by omega
  have hR := fun σ => C_RReadings (σ := σ) (n := plan.length) h.bv hdl hd
  by_cases c3 : readsE b plan.length rd = 0
  rotate_left
  · simp [-List.length_flatMap, -List.map_take, eF, hC, hS, hM, c2', hR, c3, cl_rw, cl_bore]
  rw [c3] at hR
  have hlog : logs.length ≤ 12 ∧ b.f.eachM [] logs = 0 := by
    unfold Fld.measures at c1
    split at c1
    · cases c1
    · exact ⟨by omega, c1⟩
  have hmv : ∀ x ∈ logs, Mev b.f x := fun x hx => Mev.of (eachM_all hlog.2 x hx)
  obtain ⟨q1, q2⟩ := model_sz h.bv.fv
  have hb64 : ∀ x ∈ logs, x.bl.length ≤ 1000 ∧ x.wt.length ≤ 1000 := fun x hx => by
    have hv := hmv x hx
    have := sumsL_len hv.len hv.rise (by omega)
    have := hv.len
    omega
  have hsm : shortM logs := fun x hx => ⟨by have := (hmv x hx).name; omega, (hg x hx).2⟩
  have hmod : b.f.each [] l = 0 := by
    have := h.models
    unfold Fld.models at this
    split at this
    · exact this
    · cases this
  have hfm : ∀ m ∈ l, Fm b.f m := fun m hm => Fm.of h.bv.fv (each_all hmod m hm)
  have hsh : ∀ m ∈ l, m.name.length ≤ 1000000000 ∧ m.vals.length ≤ 1000000000 := fun m hm => ⟨(h.short m hm).1, by have := (h.short m hm).2; omega⟩
  have htab := h.bv.tab
  have ht : b.tab.length ≤ 20 := by
    simp only [tabOk, Bool.and_eq_true] at htab
    have := inn_iff.1 htab.1; omega
  have kB := fun σ hσ => C_LBed (σ := σ) (b := b) ht h.bv.wells hσ
  have kF := fun σ => C_LField (σ := σ) (f := b.f)
  have kM := fun σ hσ => C_LModels (σ := σ) (l := l) (by omega) (fun m hm => by have := (h.short m hm).2; omega) hσ
  have kP := fun σ hσ => C_PlanL (σ := σ) h.bv.wells (t := plan) (by omega) h.rates hσ
  have kG := fun σ hσ => C_LMeasures (σ := σ) hlog.1 hb64 hσ
  have kR := fun σ hσ => C_LReadings (σ := σ) (l := rd) (by omega) hσ
  have kS := fun σ hσ => C_FStrikes (σ := σ) h.bv.fv hsh h.models hsm c1 hfm hll.2 hlog.1 hmv hσ
  have kT := fun σ hσ => C_RStrikes (σ := σ) (rd := rd) h (by omega) hd hσ
  simp only [strD, c3, if_true] at kT
  cases hrs : runsL b plan l with
  | none =>
    simp only [hrs] at kT
    simp [-List.length_flatMap, -List.map_take, eF, hC, hS, hM, c2', hR, kB, kF, kM, kP, kG, kR, kS, kT, cl_rw, cl_bore]
  | some rs =>
    simp only [hrs, rOut_fst, List.nil_append, idxs_zip hrs] at kT
    have kA1 := fun (σ : Stack) hσ => C_pickF (σ := σ) (p := okF b.f logs) (l := l) hll.2 hσ
    have kA2 := fun (σ : Stack) hσ => C_pickF (σ := σ) (p := okR b (fun m => Rock.run b m plan) rd) (l := l) hll.2 hσ
    have hcomm : (l.filter (okF b.f logs)).filter (okR b (fun m => Rock.run b m plan) rd) = (l.filter (okR b (fun m => Rock.run b m plan) rd)).filter (okF b.f logs) := by
      rw [List.filter_filter, List.filter_filter]
      congr 1; funext x; exact Bool.and_comm _ _
    generalize hpF : okF b.f logs = pF at *
    generalize hpR : okR b (fun m => Rock.run b m plan) rd = pR at *
    have fA : l.filter pF ≠ [] → ∀ σ, σ ≠ [] → ∃ S, lim T (.call false i_rock_Strikes [.agg [.int .i64 b.f.x, .int .i64 b.f.y, .int .i64 b.f.z, .int .i64 b.f.k, .lst b.tab.length (b.tab.flatMap Rw.enc), .int .i64 b.stiff, .int .i64 b.lift, .int .i64 b.deep, .lst b.wells.length (b.wells.flatMap Bore.enc)], .lst (l.filter pF).length ((l.filter pF).flatMap Mdl.enc), .lst plan.length (plan.flatMap inL), .lst rd.length (rd.flatMap Rdg.enc)] σ) = some (.val (.tup [.lst (idxs pR 0 (l.filter pF)).length ((idxs pR 0 (l.filter pF)).flatMap intE), .lst (List.length S) (S.flatMap triE), .int .i64 0]) σ) := by
      intro hne σ hσ
      have hA := ok_filter h hne
      obtain ⟨rsA, hrA⟩ := runsL_filter (p := pF) hrs
      have := C_RStrikes (σ := σ) (rd := rd) hA (by omega) hd hσ
      simp only [strD, c3, if_true, hrA, rOut_fst, List.nil_append, idxs_zip hrA, hpR] at this
      exact ⟨_, this⟩
    have fC : l.filter pR ≠ [] → ∀ σ, σ ≠ [] → ∃ S, lim T (.call false i_field_Strikes [.agg [.int .i64 b.f.x, .int .i64 b.f.y, .int .i64 b.f.z, .int .i64 b.f.k], .lst (l.filter pR).length ((l.filter pR).flatMap Mdl.enc), .lst logs.length (logs.flatMap Mea.enc)] σ) = some (.val (.tup [.lst (idxs pF 0 (l.filter pR)).length ((idxs pF 0 (l.filter pR)).flatMap intE), .lst (List.length S) (S.flatMap triE), .int .i64 0]) σ) := by
      intro hne σ hσ
      have hA := ok_filter h hne
      have := C_FStrikes (σ := σ) h.bv.fv (fun m hm => hsh m (List.mem_filter.1 hm).1) hA.models hsm c1 (fun m hm => hfm m (List.mem_filter.1 hm).1) hA.len.2 hlog.1 hmv hσ
      rw [hpF] at this
      exact ⟨_, this⟩
    have gA := fun (σ : Stack) hσ => C_pickF (σ := σ) (p := pR) (l := l.filter pF) (by have := List.length_filter_le pF l; omega) hσ
    have gC := fun (σ : Stack) hσ => C_pickF (σ := σ) (p := pF) (l := l.filter pR) (by have := List.length_filter_le pR l; omega) hσ
    have hX : ((l.filter pR).filter pF).length ≤ 1000 := by have := List.length_filter_le pF (l.filter pR); have := List.length_filter_le pR l; omega
    rw [hcomm] at gA
    by_cases hA : l.filter pF = []
    · have hX0 : (l.filter pR).filter pF = [] := by rw [← hcomm, hA]; rfl
      by_cases hC' : l.filter pR = []
      · simp [-List.length_flatMap, -List.map_take, eF, hC, hS, hM, c2', hR, kB, kF, kM, kP, kG, kR, kS, kT, kA1, kA2, hA, hC', cl_rw, cl_bore]
        refine WL_step e_top_TopEither_l32 ?_
        simp [-List.length_flatMap, -List.map_take, eF, hS]
      · obtain ⟨S, hSt⟩ := fC hC' [[], []] (by simp)
        rw [hX0] at gC
        have hpos := List.length_pos_iff.2 hC'
        generalize l.filter pR = C at *
        simp [-List.length_flatMap, -List.map_take, eF, hC, hS, hM, c2', hR, kB, kF, kM, kP, kG, kR, kS, kT, kA1, kA2, hA, hSt, gC, hpos, hC', cl_rw, cl_bore]
        refine WL_step e_top_TopEither_l32 ?_
        simp [-List.length_flatMap, -List.map_take, eF, hS]
    · obtain ⟨S, hSt⟩ := fA hA [[], []] (by simp)
      have hpos := List.length_pos_iff.2 hA
      by_cases hC' : l.filter pR = []
      · have hX0 : (l.filter pR).filter pF = [] := by rw [hC']; rfl
        rw [hX0] at gA
        generalize l.filter pF = A at *
        simp [-List.length_flatMap, -List.map_take, eF, hC, hS, hM, c2', hR, kB, kF, kM, kP, kG, kR, kS, kT, kA1, kA2, hC', hSt, gA, hpos, hA, cl_rw, cl_bore]
        refine WL_step e_top_TopEither_l32 ?_
        simp [-List.length_flatMap, -List.map_take, eF, hS]
      · obtain ⟨S', hSt'⟩ := fC hC' [[], []] (by simp)
        have hpos' := List.length_pos_iff.2 hC'
        generalize (l.filter pR).filter pF = X at *
        generalize l.filter pF = A at *
        generalize l.filter pR = C at *
        simp [-List.length_flatMap, -List.map_take, eF, hC, hS, hM, c2', hR, kB, kF, kM, kP, kG, kR, kS, kT, kA1, kA2, hSt, gA, hpos, hA, hSt', gC, hpos', hC', cl_rw, cl_bore]
        refine WL.to (L_names (σ := [[], []]) hX X.length 0 (by omega)) (by simp) rfl ?_
        rintro x e σ' ⟨rfl, rfl⟩
        simp [-List.length_flatMap, -List.map_take, eF, hS]
end Go.Proofs.YtehandllpmlcoaaGreat

/-
  Arguments: what can be read as data of their types is a number, a row of elements.
-/
set_option linter.unusedVariables false
set_option linter.unusedSimpArgs false
namespace Go.Abs
open Go

theorem rows_of {α : Type} {T : Ty} {w : Nat} {f : α → List D} {Q : α → Prop} (h : ∀ ds, T.has ds → ∃ a, ds = f a ∧ Q a) {d : D} (hd : (Ty.slice w T).has [d]) :
    ∃ l : List α, d = .lst l.length (l.flatMap f) ∧ l.length ≤ maxLen ∧ ∀ a ∈ l, Q a := by
  simp only [Ty.has, List.cons.injEq, and_true] at hd
  obtain ⟨xs, rfl, hl, hx⟩ := hd
  have key : ∀ xs : List (List D), (∀ x ∈ xs, x.length = w ∧ T.has x) → ∃ l : List α, xs.flatten = l.flatMap f ∧ l.length = xs.length ∧ ∀ a ∈ l, Q a := by
    intro xs
    induction xs with
    | nil => intro _; exact ⟨[], rfl, rfl, by simp⟩
    | cons x xs ih =>
      intro hx
      obtain ⟨l, h1, h2, h3⟩ := ih fun y hy => hx y (by simp [hy])
      obtain ⟨a, rfl, ha⟩ := h x (hx x (by simp)).2
      exact ⟨a :: l, by simp [h1], by simp [h2], fun b hb => by
        rcases List.mem_cons.1 hb with rfl | hb
        · exact ha
        · exact h3 b hb⟩
  obtain ⟨l, h1, h2, h3⟩ := key xs hx
  exact ⟨l, by rw [h1, h2], by omega, h3⟩

theorem wf_i64 {n : Int} (h : (Lit.int .i64 n).wf = true) : -9223372036854775808 ≤ n ∧ n ≤ 9223372036854775807 := by
  simp only [Lit.wf, Bool.and_eq_true, decide_eq_true_eq] at h
  exact h
theorem wf_u8 {n : Int} (h : (Lit.int .u8 n).wf = true) : 0 ≤ n ∧ n ≤ 255 := by
  simp only [Lit.wf, Bool.and_eq_true, decide_eq_true_eq] at h
  exact h
theorem wf_u16 {n : Int} (h : (Lit.int .u16 n).wf = true) : 0 ≤ n ∧ n ≤ 65535 := by
  simp only [Lit.wf, Bool.and_eq_true, decide_eq_true_eq] at h
  exact h
theorem wf_u32 {n : Int} (h : (Lit.int .u32 n).wf = true) : 0 ≤ n ∧ n ≤ 4294967295 := by
  simp only [Lit.wf, Bool.and_eq_true, decide_eq_true_eq] at h
  exact h
theorem one_of' {T : Ty} {d : D} (h : T.hasV d) (hT : ∀ fs, T ≠ .struct fs) (hT' : ∀ n e, T ≠ .arr n e) : T.has [d] := by
  cases T <;> first | exact h | exact absurd rfl (hT _) | exact absurd rfl (hT' _ _)

theorem i64_of {d : D} (h : (Ty.int .i64).hasV d) : ∃ n : Int, d = .int .i64 n ∧ -9223372036854775808 ≤ n ∧ n ≤ 9223372036854775807 := by
  simp only [Ty.hasV, Ty.has, List.cons.injEq, and_true] at h
  obtain ⟨n, rfl, hw⟩ := h
  exact ⟨n, rfl, wf_i64 hw⟩
theorem u8_of {d : D} (h : (Ty.int .u8).hasV d) : ∃ n : Int, d = .int .u8 n ∧ 0 ≤ n ∧ n ≤ 255 := by
  simp only [Ty.hasV, Ty.has, List.cons.injEq, and_true] at h
  obtain ⟨n, rfl, hw⟩ := h
  exact ⟨n, rfl, wf_u8 hw⟩
theorem u16_of {d : D} (h : (Ty.int .u16).hasV d) : ∃ n : Int, d = .int .u16 n ∧ 0 ≤ n ∧ n ≤ 65535 := by
  simp only [Ty.hasV, Ty.has, List.cons.injEq, and_true] at h
  obtain ⟨n, rfl, hw⟩ := h
  exact ⟨n, rfl, wf_u16 hw⟩
theorem u32_of {d : D} (h : (Ty.int .u32).hasV d) : ∃ n : Int, d = .int .u32 n ∧ 0 ≤ n ∧ n ≤ 4294967295 := by
  simp only [Ty.hasV, Ty.has, List.cons.injEq, and_true] at h
  obtain ⟨n, rfl, hw⟩ := h
  exact ⟨n, rfl, wf_u32 hw⟩
theorem bool_of {d : D} (h : Ty.bool.hasV d) : ∃ b : Bool, d = .bool b := by
  simp only [Ty.hasV, Ty.has, List.cons.injEq, and_true] at h
  exact h
theorem slice_one {w : Nat} {e : Ty} {ds : List D} (h : (Ty.slice w e).has ds) : ∃ d, ds = [d] := by
  simp only [Ty.has] at h
  obtain ⟨xs, rfl, _⟩ := h
  exact ⟨_, rfl⟩
end Go.Abs

/-
  TopEither.
-/
set_option linter.unusedVariables false
set_option linter.unusedSimpArgs false
namespace Go.Proofs.YtehandllpmlcoaaGreat
open Go Go.Abs Go.Rock
variable {σ : Stack}

theorem intE_of {ds : List D} (h : (Ty.int .i64).has ds) : ∃ x : Int, ds = intE x ∧ True := by
  obtain ⟨n, rfl, hw⟩ := h
  exact ⟨n, rfl, trivial⟩
theorem inL_of {ds : List D} (h : (Ty.slice 1 (.int .i64)).has ds) : ∃ r : List Int, ds = inL r ∧ r.length ≤ maxLen := by
  obtain ⟨d, rfl⟩ := slice_one h
  obtain ⟨l, rfl, hl, _⟩ := rows_of (fun ds h => intE_of h) h
  exact ⟨l, rfl, hl⟩
theorem rw_of {ds : List D} (h : (Ty.struct [.int .i64, .int .i64, .int .i64, .int .i64, .int .i64]).has ds) : ∃ x : Rw, ds = x.enc ∧ True := by
  obtain ⟨_, _, rfl, ⟨a, rfl, _⟩, _, _, rfl, ⟨b, rfl, _⟩, _, _, rfl, ⟨c, rfl, _⟩, _, _, rfl, ⟨d, rfl, _⟩, _, _, rfl, ⟨e, rfl, _⟩, rfl⟩ := h
  exact ⟨⟨a, b, c, d, e⟩, rfl, trivial⟩
theorem bore_of {ds : List D} (h : (Ty.struct [.int .i64, .int .i64, .int .i64]).has ds) : ∃ x : Bore, ds = x.enc ∧ True := by
  obtain ⟨_, _, rfl, ⟨a, rfl, _⟩, _, _, rfl, ⟨b, rfl, _⟩, _, _, rfl, ⟨c, rfl, _⟩, rfl⟩ := h
  exact ⟨⟨a, b, c⟩, rfl, trivial⟩
theorem mdl_of {ds : List D} (h : (Ty.struct [.str, .slice 1 (.int .i64)]).has ds) : ∃ x : Mdl, ds = x.enc ∧ (x.name.length ≤ maxLen ∧ x.vals.length ≤ maxLen) := by
  obtain ⟨_, _, rfl, ⟨a, rfl, h1⟩, _, _, rfl, h2, rfl⟩ := h
  obtain ⟨r, rfl, h3⟩ := inL_of h2
  exact ⟨⟨a, r⟩, rfl, h1, h3⟩
theorem fld_of {ds : List D} (h : (Ty.struct [.int .i64, .int .i64, .int .i64, .int .i64]).has ds) : ∃ x : Fld, ds = x.enc := by
  obtain ⟨_, _, rfl, ⟨a, rfl, _⟩, _, _, rfl, ⟨b, rfl, _⟩, _, _, rfl, ⟨c, rfl, _⟩, _, _, rfl, ⟨d, rfl, _⟩, rfl⟩ := h
  exact ⟨⟨a, b, c, d⟩, rfl⟩
theorem bed_of {d : D} (h : (Ty.struct [.struct [.int .i64, .int .i64, .int .i64, .int .i64], .slice 5 (.struct [.int .i64, .int .i64, .int .i64, .int .i64, .int .i64]), .int .i64, .int .i64, .int .i64, .slice 3 (.struct [.int .i64, .int .i64, .int .i64])]).hasV d) :
    ∃ b : Bed, d = .agg [.int .i64 b.f.x, .int .i64 b.f.y, .int .i64 b.f.z, .int .i64 b.f.k, .lst b.tab.length (b.tab.flatMap Rw.enc), .int .i64 b.stiff, .int .i64 b.lift, .int .i64 b.deep, .lst b.wells.length (b.wells.flatMap Bore.enc)] ∧ b.tab.length ≤ maxLen ∧ b.wells.length ≤ maxLen := by
  obtain ⟨ds, rfl, h⟩ := h
  obtain ⟨_, _, rfl, hf, _, _, rfl, ht, _, _, rfl, ⟨s, rfl, _⟩, _, _, rfl, ⟨u, rfl, _⟩, _, _, rfl, ⟨v, rfl, _⟩, _, _, rfl, hw, rfl⟩ := h
  obtain ⟨f, rfl⟩ := fld_of hf
  obtain ⟨d1, rfl⟩ := slice_one ht
  obtain ⟨d2, rfl⟩ := slice_one hw
  obtain ⟨t, rfl, hl1, _⟩ := rows_of (fun ds h => rw_of h) ht
  obtain ⟨w, rfl, hl2, _⟩ := rows_of (fun ds h => bore_of h) hw
  exact ⟨⟨f, t, s, u, v, w⟩, rfl, hl1, hl2⟩
theorem mea_of {ds : List D} (h : (Ty.struct [.str, .int .i64, .slice 1 (.int .i64), .slice 1 (.int .i64), .struct [.int .i64, .int .i64]]).has ds) : ∃ x : Mea, ds = x.enc ∧ (x.name.length ≤ maxLen ∧ x.bl.length ≤ maxLen) := by
  obtain ⟨_, _, rfl, ⟨a, rfl, h1⟩, _, _, rfl, ⟨k, rfl, _⟩, _, _, rfl, h2, _, _, rfl, h3, _, _, rfl, ⟨_, _, rfl, ⟨lo, rfl, _⟩, _, _, rfl, ⟨hi, rfl, _⟩, rfl⟩, rfl⟩ := h
  obtain ⟨r, rfl, h4⟩ := inL_of h2
  obtain ⟨s, rfl, h5⟩ := inL_of h3
  exact ⟨⟨a, k, r, s, lo, hi⟩, rfl, h1, h4⟩
theorem rdg_of {ds : List D} (h : (Ty.struct [.int .i64, .int .u8, .int .i64, .struct [.int .i64, .int .i64]]).has ds) : ∃ x : Rdg, ds = x.enc ∧ (0 ≤ x.what ∧ x.what ≤ 255) := by
  obtain ⟨_, _, rfl, ⟨a, rfl, _⟩, _, _, rfl, ⟨k, rfl, hk⟩, _, _, rfl, ⟨i, rfl, _⟩, _, _, rfl, ⟨_, _, rfl, ⟨lo, rfl, _⟩, _, _, rfl, ⟨hi, rfl, _⟩, rfl⟩, rfl⟩ := h
  exact ⟨⟨a, k, i, lo, hi⟩, rfl, wf_u8 hk⟩
theorem go_TopEither (x0 x1 x2 x3 x4 : D) (t0 : (Ty.struct [.struct [.int .i64, .int .i64, .int .i64, .int .i64], .slice 5 (.struct [.int .i64, .int .i64, .int .i64, .int .i64, .int .i64]), .int .i64, .int .i64, .int .i64, .slice 3 (.struct [.int .i64, .int .i64, .int .i64])]).hasV x0) (t1 : (Ty.slice 2 (.struct [.str, .slice 1 (.int .i64)])).hasV x1) (t2 : (Ty.slice 1 (.slice 1 (.int .i64))).hasV x2)
    (t3 : (Ty.slice 6 (.struct [.str, .int .i64, .slice 1 (.int .i64), .slice 1 (.int .i64), .struct [.int .i64, .int .i64]])).hasV x3) (t4 : (Ty.slice 5 (.struct [.int .i64, .int .u8, .int .i64, .struct [.int .i64, .int .i64]])).hasV x4) :
    ∃ σ', lim T (.call false i_top_TopEither [x0, x1, x2, x3, x4] [[]]) = some (.val (.bool true) σ') := by
  obtain ⟨b, rfl, hb1, hb2⟩ := bed_of t0
  obtain ⟨l, rfl, hl, hs⟩ := rows_of (fun ds h => mdl_of h) t1
  obtain ⟨p, rfl, hp, hr⟩ := rows_of (fun ds h => inL_of h) t2
  obtain ⟨g, rfl, hg, hgs⟩ := rows_of (fun ds h => mea_of h) t3
  obtain ⟨d, rfl, hd, hds⟩ := rows_of (fun ds h => rdg_of h) t4
  have hm : maxLen ≤ 9223372036854775807 := by decide
  exact ⟨_, law_Either (b := b) (l := l) (plan := p) (logs := g) (rd := d) (by omega) (by omega) (fun m h => ⟨by have := (hs m h).1; omega, by have := (hs m h).2; omega⟩) (by omega) (by omega) (fun r h => by have := hr r h; omega) (fun m h => ⟨by have := (hgs m h).1; omega, by have := (hgs m h).2; omega⟩) (by omega) hds (by omega)⟩
end Go.Proofs.YtehandllpmlcoaaGreat
