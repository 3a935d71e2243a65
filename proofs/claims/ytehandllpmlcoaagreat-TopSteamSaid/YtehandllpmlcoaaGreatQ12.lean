/-
  The runs of all models; ranges.
-/
import Derived.Test.YtehandllpmlcoaaGreatQ11
import Derived.Test.YtehandllpmlcoaaGreatR19
set_option linter.unusedVariables false
set_option linter.unusedSimpArgs false
namespace Go.Proofs.YtehandllpmlcoaaGreat
open Go Go.Abs Go.Rock
variable {σ : Stack}

/-! ### What the law knows of its arguments -/
structure Ok (b : Bed) (l : List Mdl) (plan : List (List Int)) : Prop where
  bv : Bv b
  valid : b.valid = true
  len : 1 ≤ l.length ∧ l.length ≤ 4
  models : b.f.models l = 0
  fit : ∀ m ∈ l, fits b m = true
  fv : ∀ m ∈ l, Fv b m
  short : ∀ m ∈ l, m.name.length ≤ 1000000000 ∧ m.vals.length ≤ 384
  pl : planE b plan = 0
  plen : plan.length ≤ 6
  rates : ∀ r ∈ plan, Rv b r
theorem name_b {b : Bed} {m : Mdl} (h : Bv b) (hf : fits b m = true) : m.name.length ≤ 16 := by
  rw [fits_eq h, Bool.and_eq_true, decide_eq_true_eq] at hf
  have hm := hf.1
  unfold Fld.model at hm
  split at hm
  · rename_i hn
    simp only [named, Bool.and_eq_true] at hn
    have := inn_iff.1 hn.2; omega
  · cases hm
theorem Ok.of {b : Bed} {l : List Mdl} {plan : List (List Int)} (h : runOk b l plan = true) : Ok b l plan := by
  simp only [runOk, Bool.and_eq_true, decide_eq_true_eq] at h
  obtain ⟨h1, h2, h3, h4, h5⟩ := h
  have hb := Bv.of h1
  unfold mfault at h3
  split at h3
  · rename_i hi
    split at h3
    · rename_i hm
      split at h3
      · rename_i hf
        have hfit : ∀ m ∈ l, fits b m = true := allB_iff.1 hf
        have hfv : ∀ m ∈ l, Fv b m := fun m hm => Fv.of (by simp [Bd, h1, hfit m hm])
        exact ⟨hb, h1, ⟨by have := inn_iff.1 hi; omega, h2⟩, hm, hfit, hfv, fun m hm => ⟨by have := name_b hb (hfit m hm); omega, (hfv m hm).toMv.le.2⟩, h5, h4, (planE_zero h5).2⟩
      · cases h3
    · cases h3
  · cases h3
theorem Ok.check {b : Bed} {l : List Mdl} {plan : List (List Int)} (h : Ok b l plan) : checkModels b.f l = 0 := by
  simp [checkModels, h.bv.fv, h.models]
theorem C_ready1 {b : Bed} {m : Mdl} (h : Bv b) (hn : m.name.length ≤ 1000000000) (hl : m.vals.length ≤ 1000000000) : lim T (.call false i_rock_ready_1 [.agg [.str m.name, .lst m.vals.length (m.vals.flatMap intE)], .cref [.int .i64 b.f.x, .int .i64 b.f.y, .int .i64 b.f.z, .int .i64 b.f.k, .lst b.tab.length (b.tab.flatMap Rw.enc), .int .i64 b.stiff, .int .i64 b.lift, .int .i64 b.deep, .lst b.wells.length (b.wells.flatMap Bore.enc)]] σ) = some (.val (.bool (fits b m)) σ) := by
  refine call_of T_rock_ready_1 e_rock_ready_1 rfl ?_
  have hC := fun σ => C_fits (σ := σ) (m := m) h hn hl
  simp [-List.length_flatMap, -List.map_take, eF, hC, cl_rw, cl_bore, cl_int]
theorem C_readyAll {b : Bed} {l : List Mdl} (h : Bv b) (hs : ∀ m ∈ l, m.name.length ≤ 1000000000 ∧ m.vals.length ≤ 1000000000) (hl : l.length ≤ 1000000000) :
    lim T (.call false i_rock_all_field_Model [.lst l.length (l.flatMap Mdl.enc), .fn i_rock_ready_1 [] [.cref [.int .i64 b.f.x, .int .i64 b.f.y, .int .i64 b.f.z, .int .i64 b.f.k, .lst b.tab.length (b.tab.flatMap Rw.enc), .int .i64 b.stiff, .int .i64 b.lift, .int .i64 b.deep, .lst b.wells.length (b.wells.flatMap Bore.enc)]]] σ) = some (.val (.bool (allB l (fits b))) σ) :=
  all_of (eltAgg 2 Mdl.enc (fun _ => rfl)) (f := i_rock_all_field_Model) (g := i_rock_all_field_Model_1) (h := i_slices_ContainsFunc_field_Model) (i := i_slices_IndexFunc_field_Model) (l := l) (p := fits b) rfl rfl rfl rfl (by omega) (Tests.fn fun x hx σ => C_ready1 h (hs x hx).1 (hs x hx).2) rfl
theorem C_ready {b : Bed} {l : List Mdl} {plan : List (List Int)} (h : Ok b l plan) :
    lim T (.call false i_rock_ready [.agg [.int .i64 b.f.x, .int .i64 b.f.y, .int .i64 b.f.z, .int .i64 b.f.k, .lst b.tab.length (b.tab.flatMap Rw.enc), .int .i64 b.stiff, .int .i64 b.lift, .int .i64 b.deep, .lst b.wells.length (b.wells.flatMap Bore.enc)], .lst l.length (l.flatMap Mdl.enc), .lst plan.length (plan.flatMap inL)] σ) = some (.val (.int .i64 0) σ) := by
  refine call_of T_rock_ready e_rock_ready rfl ?_
  have hs : ∀ m ∈ l, m.name.length ≤ 1000000000 ∧ m.vals.length ≤ 1000000000 := fun m hm => ⟨(h.short m hm).1, by have := (h.short m hm).2; omega⟩
  have hl := h.len
  have htab := h.bv.tab
  have ht : b.tab.length ≤ 1000000000 := by
    simp only [tabOk, Bool.and_eq_true] at htab
    have := inn_iff.1 htab.1; omega
  have h1 := fun σ => C_bvalid (σ := σ) (b := b) ht (by have := h.bv.wells; omega)
  have h2 := fun σ => C_CheckModels (σ := σ) (f := b.f) (l := l) hs (by omega)
  have h3 := fun σ => C_readyAll (σ := σ) (l := l) h.bv hs (by omega)
  have h4 := fun σ => C_plan (σ := σ) (b := b) (plan := plan) (by have := h.plen; omega) (fun r hr => by have := (h.rates r hr).len; have := h.bv.wells; omega)
  have hi : inn l.length 1 40 = true := inn_iff.2 (by omega)
  have ha : allB l (fits b) = true := allB_iff.2 h.fit
  rw [h.valid] at h1
  rw [h.check] at h2
  rw [ha] at h3
  rw [h.pl] at h4
  simp [-List.length_flatMap, -List.map_take, eF, h1, h2, h3, h4, C_rwithin, hi, cl_rw, cl_bore, cl_int]

/-! ### Runs -/
abbrev RunT := List (List Rock.Blk) × List (List Rock.Blk)
def runE (r : RunT) : List D := [.lst r.1.length (r.1.flatMap stL), .lst r.2.length (r.2.flatMap stL)]
theorem runE_len (l : List RunT) : (l.flatMap runE).length = l.length * 2 := flat_len (f := runE) (w := 2) (fun _ => rfl) l
theorem cl_run (l : List RunT) : D.cleanL (l.flatMap runE) = true := k_clean (fun x => by simp [runE, D.clean, cl_st]) l
def runsL (b : Bed) (plan : List (List Int)) : List Mdl → Option (List RunT)
  | [] => some []
  | m :: l => match Rock.run b m plan with
    | some r => (runsL b plan l).map (r :: ·)
    | none => none
def runsQ (n : Nat) (acc : List RunT) (σ : Stack) (r : Option (List RunT)) (x : Abs.Exit) (e : Env) (σ' : Stack) : Prop := match r with
  | some rs => x = .exit 0 ∧ get e 6 = .sl σ.length 0 n 0 n 2 ∧ σ' = [.cells n ((acc ++ rs).flatMap runE)] :: σ
  | none => x = .thr (.ifc 205 (.agg [])) ∧ ∃ seg, σ' = seg :: σ
theorem L_runs {b : Bed} {l : List Mdl} {plan : List (List Int)} (h : Ok b l plan) : ∀ (k i : Nat) (acc : List RunT), i + k = l.length → acc.length = i →
    WL T [2, 3, 6, 9, 10, 11] false f_rock_runs_l7 [(2, .lst plan.length (plan.flatMap inL)), (3, .cref [.int .i64 b.f.x, .int .i64 b.f.y, .int .i64 b.f.z, .int .i64 b.f.k, .lst b.tab.length (b.tab.flatMap Rw.enc), .int .i64 b.stiff, .int .i64 b.lift, .int .i64 b.deep, .lst b.wells.length (b.wells.flatMap Bore.enc)]), (6, .sl σ.length 0 i 0 i 2), (9, .lst l.length (l.flatMap Mdl.enc)), (10, .int .i64 l.length), (11, .int .i64 i)] ([.cells i (acc.flatMap runE)] :: σ)
      (runsQ l.length acc σ (runsL b plan (l.drop i)))
  | 0, i, acc, hi, ha => by
    refine WL_step e_rock_runs_l7 ?_
    obtain rfl : i = l.length := by omega
    have h2 : l.drop l.length = [] := List.drop_eq_nil_of_le (by omega)
    simp [-List.length_flatMap, -List.map_take, eF, h2, runsL, runsQ]
  | k + 1, i, acc, hi, ha => by
    refine WL_step e_rock_runs_l7 ?_
    have h1 : i < l.length := by omega
    obtain ⟨m, hm⟩ : ∃ m, l[i]? = some m := ⟨_, List.getElem?_eq_getElem h1⟩
    have hlen := h.len
    have h2 := mdlE_at hm
    have h4 := wnext h1 (by omega)
    have h5 := drop_at hm
    have hmem := List.mem_of_getElem? hm
    have a4 := runE_len acc
    rw [ha] at a4
    have a6 : (acc.flatMap runE).take (i * 2) = acc.flatMap runE := List.take_of_length_le (by omega)
    have h7 : (i + 1) * 48 ≤ room := by unfold room; omega
    have hp : plan.length ≤ 200 := by have := h.plen; omega
    rw [h5, runsL]
    cases hr : Rock.run b m plan with
    | none =>
      have hC := fun σ => C_runNo (σ := σ) (h.fv m hmem) hp h.rates hr
      simp [-List.length_flatMap, -List.map_take, eF, h1, h2, h4, hC, runsQ, cl_rw, cl_bore, cl_int]
    | some r =>
      obtain ⟨ss, ys⟩ := r
      have hC := fun σ hσ => C_runOk (σ := σ) (h.fv m hmem) hp h.rates hσ hr
      have ih := L_runs h k (i + 1) (acc ++ [(ss, ys)]) (by omega) (by simp [ha])
      simp [-List.length_flatMap, -List.map_take, eF, h1, h2, h4, hC, a4, a6, h7, cl_rw, cl_bore, cl_int, D.clean, cl_st]
      refine WL.to ih (by simp) (by simp [runE]) fun x e σ' hh => ?_
      cases hq : runsL b plan (l.drop (i + 1)) with
      | none => rw [hq] at hh; simpa [runsQ] using hh
      | some rs => rw [hq] at hh; simpa [runsQ] using hh
theorem C_runsOk {b : Bed} {l : List Mdl} {plan : List (List Int)} (h : Ok b l plan) (hσ : σ ≠ []) {rs : List RunT} (hr : runsL b plan l = some rs) (hl : rs.length = l.length) :
    lim T (.call false i_rock_runs [.agg [.int .i64 b.f.x, .int .i64 b.f.y, .int .i64 b.f.z, .int .i64 b.f.k, .lst b.tab.length (b.tab.flatMap Rw.enc), .int .i64 b.stiff, .int .i64 b.lift, .int .i64 b.deep, .lst b.wells.length (b.wells.flatMap Bore.enc)], .lst l.length (l.flatMap Mdl.enc), .lst plan.length (plan.flatMap inL)] σ) = some (.val (.lst rs.length (rs.flatMap runE)) σ) := by
  refine call_of T_rock_runs e_rock_runs rfl ?_
  simp [-List.length_flatMap, -List.map_take, eF, cl_rw, cl_bore, cl_int]
  refine WL.to (L_runs (σ := σ) h l.length 0 [] (by omega) rfl) (by simp) (by simp) ?_
  rw [List.drop_zero, hr]
  rintro x e σ' ⟨rfl, g6, rfl⟩
  simp [-List.length_flatMap, -List.map_take, eF, g6]
  rw [← hl, k_out (f := runE) (by decide) (fun _ => rfl) (fun x => by simp [runE, D.clean, cl_st]) hσ (by simp)]
  simp
theorem C_runsNo {b : Bed} {l : List Mdl} {plan : List (List Int)} (h : Ok b l plan) (hr : runsL b plan l = none) :
    lim T (.call false i_rock_runs [.agg [.int .i64 b.f.x, .int .i64 b.f.y, .int .i64 b.f.z, .int .i64 b.f.k, .lst b.tab.length (b.tab.flatMap Rw.enc), .int .i64 b.stiff, .int .i64 b.lift, .int .i64 b.deep, .lst b.wells.length (b.wells.flatMap Bore.enc)], .lst l.length (l.flatMap Mdl.enc), .lst plan.length (plan.flatMap inL)] σ) = some (.thr (.ifc 205 (.agg [])) σ) := by
  refine throws_of T_rock_runs e_rock_runs rfl ?_
  simp [-List.length_flatMap, -List.map_take, eF, cl_rw, cl_bore, cl_int]
  refine WL.to (L_runs (σ := σ) h l.length 0 [] (by omega) rfl) (by simp) (by simp) ?_
  rw [List.drop_zero, hr]
  rintro x e σ' ⟨rfl, seg, rfl⟩
  simp [D.clean]
theorem runsL_len {b : Bed} {plan : List (List Int)} : ∀ {l : List Mdl} {rs : List RunT}, runsL b plan l = some rs → rs.length = l.length ∧ ∀ (i : Nat) m, l[i]? = some m → ∃ r, rs[i]? = some r ∧ Rock.run b m plan = some r
  | [], rs, h => by simp only [runsL, Option.some.injEq] at h; subst h; simp
  | m :: l, rs, h => by
    simp only [runsL] at h
    cases hr : Rock.run b m plan with
    | none => rw [hr] at h; cases h
    | some r =>
      rw [hr] at h
      simp only [Option.map_eq_some_iff] at h
      obtain ⟨rs', h1, rfl⟩ := h
      obtain ⟨g1, g2⟩ := runsL_len h1
      refine ⟨by simp [g1], ?_⟩
      intro i m' hm'
      cases i with
      | zero => simp only [List.getElem?_cons_zero, Option.some.injEq] at hm'; subst hm'; exact ⟨r, rfl, hr⟩
      | succ i => simpa using g2 i m' (by simpa using hm')

/-! ### Ranges -/
def spanB {α : Type} (of : α → Int) : List α → Int × Int
  | [] => (0, 0)
  | x :: l => (x :: l).foldl (fun r y => (min r.1 (of y), max r.2 (of y))) (of x, of x)
theorem span_fold {α : Type} {of : α → Int} : ∀ (l : List α) (a c : Int), (∀ y ∈ l, (l.foldl (fun r y => (min r.1 (of y), max r.2 (of y))) (a, c)).1 ≤ of y ∧ of y ≤ (l.foldl (fun r y => (min r.1 (of y), max r.2 (of y))) (a, c)).2) ∧
    (l.foldl (fun r y => (min r.1 (of y), max r.2 (of y))) (a, c)).1 ≤ a ∧ c ≤ (l.foldl (fun r y => (min r.1 (of y), max r.2 (of y))) (a, c)).2
  | [], a, c => by simp
  | x :: l, a, c => by
    obtain ⟨h1, h2, h3⟩ := span_fold (of := of) l (min a (of x)) (max c (of x))
    simp only [List.foldl_cons]
    refine ⟨?_, by omega, by omega⟩
    intro y hy
    rcases List.mem_cons.1 hy with rfl | hy
    · omega
    · exact h1 y hy
theorem span_least {α : Type} {of : α → Int} {k : Int} : ∀ (l : List α) (a c : Int), k ≤ a → (∀ y ∈ l, k ≤ of y) → k ≤ (l.foldl (fun r y => (min r.1 (of y), max r.2 (of y))) (a, c)).1
  | [], a, c, h, _ => h
  | x :: l, a, c, h, hl => by
    simp only [List.foldl_cons]
    exact span_least l _ _ (by have := hl x (List.mem_cons_self ..); omega) fun y hy => hl y (List.mem_cons_of_mem _ hy)
theorem spanB_in {α : Type} {of : α → Int} {l : List α} {y : α} (hy : y ∈ l) : (spanB of l).1 ≤ of y ∧ of y ≤ (spanB of l).2 := by
  cases l with
  | nil => cases hy
  | cons x l => exact (span_fold (x :: l) (of x) (of x)).1 y hy
theorem spanB_least {α : Type} {of : α → Int} {k : Int} {l : List α} (hk : 0 ≤ k → l ≠ []) (hl : ∀ y ∈ l, 0 ≤ of y) : 0 ≤ (spanB of l).1 := by
  cases l with
  | nil => simp [spanB]
  | cons x l => exact span_least (x :: l) _ _ (hl x (List.mem_cons_self ..)) hl
def spanE (r : Int × Int) : List D := [.int .i64 r.1, .int .i64 r.2]
theorem L_spanY {l : List Rock.Blk} {g : Nat} {of : Rock.Blk → Int} (hl : l.length ≤ 1000) (hof : ∀ (x : Rock.Blk) (σ : Stack), lim T (.call false g [.agg x.enc] σ) = some (.val (.int .i64 (of x)) σ)) : ∀ (k i : Nat) (r : Int × Int), i + k = l.length →
    WL T [1, 4, 5, 19, 20, 21] false f_rock_span_rock_Yield_l7 [(1, .fn g [] []), (4, .own 0 [.int .i64 0, .int .i64 0]), (5, .own 0 (spanE r)), (19, .lst l.length (l.flatMap Blk.enc)), (20, .int .i64 l.length), (21, .int .i64 i)] σ
      (fun x e σ' => x = .exit 0 ∧ get e 4 = .own 0 [.int .i64 0, .int .i64 0] ∧ get e 5 = .own 0 (spanE ((l.drop i).foldl (fun r y => (min r.1 (of y), max r.2 (of y))) r)) ∧ σ' = σ)
  | 0, i, r, hi => by
    refine WL_step e_rock_span_rock_Yield_l7 ?_
    obtain rfl : i = l.length := by omega
    have h2 : l.drop l.length = [] := List.drop_eq_nil_of_le (by omega)
    simp [-List.length_flatMap, -List.map_take, eF, h2, spanE]
  | k + 1, i, r, hi => by
    refine WL_step e_rock_span_rock_Yield_l7 ?_
    have h1 : i < l.length := by omega
    obtain ⟨x, hx⟩ : ∃ x, l[i]? = some x := ⟨_, List.getElem?_eq_getElem h1⟩
    have h2 := flat_at (f := Blk.enc) (w := 3) (fun _ => rfl) hx
    have h4 := wnext h1 (by omega)
    have h5 := drop_at hx
    have hC := hof x
    simp only [Blk.enc] at hC
    rw [h5, List.foldl_cons]
    have ih := L_spanY (l := l) (g := g) (of := of) hl hof k (i + 1) (min r.1 (of x), max r.2 (of x)) (by omega)
    simp only [spanE] at ih ⊢
    simp [-List.length_flatMap, -List.map_take, eF, h1, h2, h4, hC]
    exact WL.to ih (by simp) rfl fun x e σ hh => hh
theorem C_spanY {l : List Rock.Blk} {g : Nat} {of : Rock.Blk → Int} (hne : l ≠ []) (hl : l.length ≤ 1000) (hof : ∀ (x : Rock.Blk) (σ : Stack), lim T (.call false g [.agg x.enc] σ) = some (.val (.int .i64 (of x)) σ)) :
    lim T (.call false i_rock_span_rock_Yield [.lst l.length (l.flatMap Blk.enc), .fn g [] []] σ) = some (.val (.agg (spanE (spanB of l))) σ) := by
  refine call_of T_rock_span_rock_Yield e_rock_span_rock_Yield rfl ?_
  obtain ⟨y, t, rfl⟩ : ∃ y t, l = y :: t := by
    cases l with
    | nil => exact absurd rfl hne
    | cons y t => exact ⟨y, t, rfl⟩
  have hC := hof y
  simp only [Blk.enc] at hC
  have hlt : 0 < (y :: t).length := by simp
  have h2 : (((y :: t).flatMap Blk.enc).take 3) = [.int .i64 y.m, .int .i64 y.h, .int .i64 y.k] := by simp
  generalize hL : y :: t = L at *
  have hlt' : (0 : Int) < L.length := by omega
  simp [-List.length_flatMap, -List.map_take, eF, hlt, hlt', h2, hC]
  refine WL.to (L_spanY (σ := [] :: σ) hl hof L.length 0 (of y, of y) (by omega)) (by simp [spanE]) (by simp) ?_
  rintro x e σ' ⟨rfl, g4, g5, rfl⟩
  have hs : spanB of L = L.foldl (fun r y => (min r.1 (of y), max r.2 (of y))) (of y, of y) := by rw [← hL]; rfl
  rw [hs]
  simp only [List.drop_zero, spanE] at g5 ⊢
  simp [-List.length_flatMap, -List.map_take, eF, g4, g5]
end Go.Proofs.YtehandllpmlcoaaGreat
