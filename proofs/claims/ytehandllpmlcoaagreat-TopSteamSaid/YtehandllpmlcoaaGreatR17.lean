/-
  A tick.
-/
import Derived.Test.YtehandllpmlcoaaGreatR16
set_option linter.unusedVariables false
set_option linter.unusedSimpArgs false
namespace Go.Proofs.YtehandllpmlcoaaGreat
open Go Go.Abs Go.Rock
variable {σ : Stack}

theorem next_eq {b : Bed} {m : Mdl} {s : List Rock.Blk} {rates : List Int} (hr : Rv b rates) (hl : s.length = b.n) : feedTo b m (wellsTo b s ((flows b m s).foldl flowMove s) rates rates.length) b.n = nextSt b m s rates := by
  have : (b.wells.zip rates).take rates.length = b.wells.zip rates := List.take_of_length_le (by rw [List.length_zip]; omega)
  simp only [nextSt, feedTo, wellsTo, this, hl]
theorem flows_bnd {b : Bed} {m : Mdl} {s : List Rock.Blk} (h : Fv b m) (hs : Sv b s) : bnd 500000000000000 ((flows b m s).foldl flowMove s) ∧ ((flows b m s).foldl flowMove s).length = s.length := by
  obtain ⟨h1, h2⟩ := flows_ok (m := m) h.bv hs
  have key : ∀ (es : List ((Nat × Nat) × Rock.Blk)) (s : List Rock.Blk) (N : Int), (∀ e ∈ es, Flw b e) → bnd N s → bnd (N + 2000000000000 * es.length) (es.foldl flowMove s) ∧ (es.foldl flowMove s).length = s.length := by
    intro es
    induction es with
    | nil => intro s N _ h; exact ⟨by simpa using h, rfl⟩
    | cons e es ih =>
      intro s N he hb
      obtain ⟨a1, a2⟩ := ih (flowMove s e) _ (fun x hx => he x (by simp [hx])) (flow_bnd hb (he e (by simp)))
      simp only [List.foldl_cons, List.length_cons]
      exact ⟨fun x hx => sm_mono (a1 x hx) (by push_cast; omega), by rw [a2, flow_len]⟩
  obtain ⟨a1, a2⟩ := key _ s _ h1 hs.bnd
  exact ⟨fun x hx => sm_mono (a1 x hx) (by omega), a2⟩
theorem C_rest {b : Bed} {m : Mdl} {s s1 : List Rock.Blk} {rates : List Int} {A FL X Y Z W : Abs.Blk} (h : Fv b m) (hs : Sv b s) (hr : Rv b rates) (hb : bnd 500000000000000 s1) (hl1 : s1.length = s.length) :
    WC (lim T) f_rock_bedded_tick_l29 ((25, .bool false) :: (24, .undef) :: envT b m s rates σ.length) ([A, .cells 1 (s1.flatMap Blk.enc), FL, X, Y, Z, W] :: σ) fun x e σ' =>
      x = .ret ∧ σ' = [A, .cells 1 ((feedTo b m (wellsTo b s s1 rates rates.length) b.n).flatMap Blk.enc), FL, X, Y, Z, W, .cells rates.length ((yieldsOf b s rates).flatMap Blk.enc)] :: σ ∧
      (if stateOk b (feedTo b m (wellsTo b s s1 rates rates.length) b.n) = true then get e 6 = .sl σ.length 1 1 0 b.n 3 ∧ get e 7 = .sl σ.length 7 rates.length 0 rates.length 3 ∧ get e 8 = .int .i64 0
        else get e 6 = .nils ∧ get e 7 = .nils ∧ get e 8 = .int .i64 9) := by
  have hl := hs.len
  have hn := h.bv.n
  have hwl := h.bv.wells
  have hrl := hr.len
  obtain ⟨wb, wl⟩ := wellsTo_ok h.bv hs hr hb rates.length (Nat.le_refl _)
  have fl := feedTo_len (b := b) (m := m) (s2 := wellsTo b s s1 rates rates.length) b.n
  rw [WC_eq e_rock_bedded_tick_l29]
  simp [-List.length_flatMap, -List.map_take, eF, envT, cl_rw, cl_bore, cl_int]
  refine WL.to (L_wells (σ := σ) (A := A) (FL := FL) (X := X) (Y := Y) (Z := Z) (W := W) h hs hr hb hl1 rates.length 0 0 (by omega)) (by simp [cl_rw, cl_bore, cl_int]) (by simp [wellsTo]) ?_
  rintro x e σ' ⟨rfl, g3, g9, g12, rfl⟩
  rw [hl] at g9
  simp [-List.length_flatMap, -List.map_take, eF, g3, g9, g12, cl_rw, cl_bore, cl_int]
  refine WL.to (L_feed (σ := σ) (A := A) (FL := FL) (X := X) (Y := Y) (Z := Z) (W := W) (V := .cells (0 + rates.length) ((yieldsOf b s rates).flatMap Blk.enc)) (d12 := .sl σ.length 7 (0 + rates.length) 0 rates.length 3) h (fun x hx => sm_mono (wb x hx) (by omega)) (by rw [wl, hl1, hl]) ⟨rfl, rfl⟩ b.n 0 (by omega)) (by simp [cl_rw, cl_bore, cl_int]) (by simp [feedTo]) ?_
  rintro x e σ' ⟨rfl, g3, g9, g12, rfl⟩
  have hS := C_stateSl (m := m) (b := b) (s := feedTo b m (wellsTo b s s1 rates rates.length) b.n) h.bv (lv := σ.length) (bi := 1) (v := 1) (F := [A, .cells 1 ((feedTo b m (wellsTo b s s1 rates rates.length) b.n).flatMap Blk.enc), FL, X, Y, Z, W, .cells (0 + rates.length) ((yieldsOf b s rates).flatMap Blk.enc)]) (σ := [A, .cells 1 ((feedTo b m (wellsTo b s s1 rates rates.length) b.n).flatMap Blk.enc), FL, X, Y, Z, W, .cells (0 + rates.length) ((yieldsOf b s rates).flatMap Blk.enc)] :: σ) rfl (by simp [seg?]) (by rw [fl, wl, hl1, hl])
  rw [show (feedTo b m (wellsTo b s s1 rates rates.length) b.n).length = b.n by rw [fl, wl, hl1, hl]] at hS
  cases hc : stateOk b (feedTo b m (wellsTo b s s1 rates rates.length) b.n)
  · rw [hc] at hS
    simp at hS
    simp [-List.length_flatMap, -List.map_take, eF, g3, g9, g12, hS, cl_rw, cl_bore, cl_int]
  · rw [hc] at hS
    simp at hS
    simp [-List.length_flatMap, -List.map_take, eF, g3, g9, g12, hS, cl_rw, cl_bore, cl_int]
def tickD (b : Bed) (m : Mdl) (s : List Rock.Blk) (rates : List Int) : D := match tick b m s rates with
  | some (s', y) => .tup [.lst s'.length (s'.flatMap Blk.enc), .lst y.length (y.flatMap Blk.enc), .int .i64 0]
  | none => .tup [.nils, .nils, .int .i64 9]
theorem C_tick {b : Bed} {m : Mdl} {s : List Rock.Blk} {rates : List Int} (h : Fv b m) (hs : Sv b s) (hr : Rv b rates) (hσ : σ ≠ []) :
    lim T (.call false i_rock_bedded_tick [.agg [.int .i64 b.f.x, .int .i64 b.f.y, .int .i64 b.f.z, .int .i64 b.f.k, .lst b.tab.length (b.tab.flatMap Rw.enc), .int .i64 b.stiff, .int .i64 b.lift, .int .i64 b.deep, .lst b.wells.length (b.wells.flatMap Bore.enc), .str m.name, .lst m.vals.length (m.vals.flatMap intE)], .lst s.length (s.flatMap Blk.enc), .lst rates.length (rates.flatMap intE)] σ) = some (.val (tickD b m s rates) σ) := by
  refine call_of T_rock_bedded_tick e_rock_bedded_tick rfl ?_
  have hl := hs.len
  have hn := h.bv.n
  have hne : s ≠ [] := by intro h0; rw [h0] at hl; simp at hl; omega
  have hC := C_clone (σ := σ) (s := s) (bs := []) (by omega) hne
  obtain ⟨X, Y, Z, hF⟩ := C_flows (σ := σ) (A := .cells 0 []) (B := .cells 1 (s.flatMap Blk.enc)) h hs
  obtain ⟨fb, fl⟩ := flows_bnd h hs
  obtain ⟨x, e', σ', hrun, rfl, rfl, hq⟩ := C_rest (σ := σ) (A := .cells 0 []) (FL := .cells 0 (flE (flows b m s))) (X := X) (Y := Y) (Z := Z) (W := .dead) h hs hr fb fl
  obtain ⟨f1, f2⟩ := flows_ok (m := m) h.bv hs
  have hM := L_move (σ := σ) (rates := rates) (m := m) (A := .cells 0 []) (X := X) (Y := Y) (Z := Z) (es := flows b m s) hs f1 f2 (r := .ctl .ret e' ([.cells 0 [], .cells 1 ((feedTo b m (wellsTo b s ((flows b m s).foldl flowMove s) rates rates.length) b.n).flatMap Blk.enc), .cells 0 (flE (flows b m s)), X, Y, Z, .dead, .cells rates.length ((yieldsOf b s rates).flatMap Blk.enc)] :: σ)) ⟨_, _, _, hrun, rfl⟩ _ [] List.nodup_nil (by simp) rfl
  simp only [List.nil_append, List.length_nil, Nat.zero_add] at hC
  have hG : mpD ([.cells 0 [], .cells 1 (s.flatMap Blk.enc), .cells 0 (flE (flows b m s)), X, Y, Z] :: σ) .rng [.yld σ.length 2] = some (.yld σ.length 6, [.cells 0 [], .cells 1 (s.flatMap Blk.enc), .cells 0 (flE (flows b m s)), X, Y, Z, itB σ.length (flows b m s).length []] :: σ) := by
    simp [mpD, mapD, itB, jsD, flE]
  simp [-List.length_flatMap, -List.map_take, eF, hC, hF, hG, cl_rw, cl_bore, cl_int, cl_blk]
  refine ⟨_, _, _, by simpa [envT, stT] using hM, ?_⟩
  rw [next_eq hr hl] at hq ⊢
  have hnl : (nextSt b m s rates).length = b.n := by
    rw [← next_eq hr hl, feedTo_len, (wellsTo_ok h.bv hs hr fb rates.length (Nat.le_refl _)).2, fl, hl]
  have hyl : (yieldsOf b s rates).length = rates.length := by simp [yieldsOf, hr.len]
  unfold tickD tick
  cases hc : stateOk b (nextSt b m s rates)
  · rw [hc] at hq
    simp at hq
    obtain ⟨g6, g7, g8⟩ := hq
    simp [g6, g7, g8]
  · rw [hc] at hq
    simp only [if_true] at hq
    obtain ⟨g6, g7, g8⟩ := hq
    simp only [if_true]
    simp [g6, g7, g8]
    rw [frz_tup (by simp) (by omega)]
    simp only [frzL_cons, frzL_nil]
    rw [← hnl, k_out (f := Blk.enc) (l := nextSt b m s rates) (by decide) (fun _ => rfl) (fun x => by simp) hσ (by simp)]
    simp only [List.set_cons_succ, List.set_cons_zero]
    rw [← hyl, k_out (f := Blk.enc) (l := yieldsOf b s rates) (by decide) (fun _ => rfl) (fun x => by simp) hσ (by simp)]
    rw [frz_clean (by simp) (by omega)]
    exact ⟨_, rfl⟩
end Go.Proofs.YtehandllpmlcoaaGreat
