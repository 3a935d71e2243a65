/-
  The forecasts.
-/
import Derived.Test.YtehandllpmlcoaaGreatQ13
set_option linter.unusedVariables false
set_option linter.unusedSimpArgs false
namespace Go.Proofs.YtehandllpmlcoaaGreat
open Go Go.Abs Go.Rock
variable {σ : Stack}

@[simp] theorem frz_own2 {L l1 i1 u1 o1 m1 w1 l2 i2 u2 o2 m2 w2 : Nat} {S : Stack} (h1 : l1 ≤ L) (h2 : l2 ≤ L) : frz L 16 (.own 0 [.sl l1 i1 u1 o1 m1 w1, .sl l2 i2 u2 o2 m2 w2]) S = (.own 0 [.sl l1 i1 u1 o1 m1 w1, .sl l2 i2 u2 o2 m2 w2], S) := by
  have hc : D.clean (.own 0 [.sl l1 i1 u1 o1 m1 w1, .sl l2 i2 u2 o2 m2 w2]) = false := rfl
  rw [frz, if_neg (by rw [hc]; decide)]
  simp [frz_sl_low h1, frz_sl_low h2]
theorem bndE_len (rs : List RunT) (t : Nat) (l : List Nat) : (l.flatMap (bndE rs t)).length = l.length * 6 := flat_len (f := bndE rs t) (w := 6) (fun _ => rfl) l
theorem ysL_ne {b : Bed} {l : List Mdl} {n : Nat} {rs : List RunT} (h : Rs b l n rs) {t w : Nat} : ysL rs t w ≠ [] ∧ (ysL rs t w).length = rs.length := by
  have h1 := h.len; have h2 := h.ne
  refine ⟨fun hh => ?_, by simp [ysL]⟩
  have := congrArg List.length hh
  simp [ysL] at this; subst this; simp at h1; omega
theorem L_wl {b : Bed} {l : List Mdl} {n : Nat} {rs : List RunT} (h : Rs b l n rs) {t : Nat} {A B C : Abs.Blk} (ht : t < n) : ∀ (k w : Nat), w + k = b.wells.length →
    WL T [1, 3, 6, 7, 9, 10, 11, 32, 33, 38, 39] true f_rock_Ahead_l22 [(1, .lst l.length (l.flatMap Mdl.enc)), (3, .cref [.int .i64 b.f.x, .int .i64 b.f.y, .int .i64 b.f.z, .int .i64 b.f.k, .lst b.tab.length (b.tab.flatMap Rw.enc), .int .i64 b.stiff, .int .i64 b.lift, .int .i64 b.deep, .lst b.wells.length (b.wells.flatMap Bore.enc)]), (6, .sl σ.length 0 t 0 t 2), (7, .ref σ.length 1 0 0), (9, .lst rs.length (rs.flatMap runE)), (10, .int .i64 t), (11, .own 0 [.sl (σ.length + 1) 0 w 0 w 6, .sl (σ.length + 1) 1 0 0 0 2]), (32, .int .i64 n), (33, .int .i64 t), (38, .int .i64 b.wells.length), (39, .int .i64 w)]
      ([.cells w ((List.range w).flatMap (bndE rs t)), C] :: [A, B] :: σ)
      (fun x e σ' => x = .exit 2 ∧ e = [(1, .lst l.length (l.flatMap Mdl.enc)), (3, .cref [.int .i64 b.f.x, .int .i64 b.f.y, .int .i64 b.f.z, .int .i64 b.f.k, .lst b.tab.length (b.tab.flatMap Rw.enc), .int .i64 b.stiff, .int .i64 b.lift, .int .i64 b.deep, .lst b.wells.length (b.wells.flatMap Bore.enc)]), (6, .sl σ.length 0 t 0 t 2), (7, .ref σ.length 1 0 0), (9, .lst rs.length (rs.flatMap runE)), (10, .int .i64 t), (11, .own 0 [.sl (σ.length + 1) 0 b.wells.length 0 b.wells.length 6, .sl (σ.length + 1) 1 0 0 0 2]), (32, .int .i64 n), (33, .int .i64 t), (38, .int .i64 b.wells.length), (39, .int .i64 b.wells.length), (40, .bool false)] ∧
        σ' = [.cells b.wells.length ((List.range b.wells.length).flatMap (bndE rs t)), C] :: [A, B] :: σ)
  | 0, w, hi => by
    refine WL_stepS e_rock_Ahead_l22 ?_
    obtain rfl : w = b.wells.length := by omega
    simp [-List.length_flatMap, -List.map_take, eF, cl_mdl, cl_run, cl_rw, cl_bore]
  | k + 1, w, hi => by
    refine WL_stepS e_rock_Ahead_l22 ?_
    have h1 : w < b.wells.length := by omega
    have hw8 := h.wells
    have h4 := wnext h1 (by omega)
    have ih := L_wl h (A := A) (B := B) (C := C) ht k (w + 1) (by omega)
    simp [-List.length_flatMap, -List.map_take, eF, h1, cl_mdl, cl_run, cl_rw, cl_bore]
    refine WL.to (L_ys (σ := [.cells w ((List.range w).flatMap (bndE rs t)), C] :: [A, B] :: σ) h (L6 := σ.length) (L7 := σ.length) (L11 := σ.length + 1) (j := w) (v := 0) ht h1 rs.length 0 (by omega)) (by simp) (by simp) ?_
    rintro x e σ' ⟨rfl, rfl, rfl⟩
    obtain ⟨y1, y2⟩ := ysL_ne h (t := t) (w := w)
    have hlen := h.len; have hne := h.ne
    have c1 := fun σ => C_spanY (σ := σ) (of := Rock.Blk.m) (g := i_rock_Yield_mass) y1 (by omega) (fun x σ => C_ymass)
    have c2 := fun σ => C_spanY (σ := σ) (of := Rock.Blk.h) (g := i_rock_Ahead_1) y1 (by omega) (fun x σ => C_yheat)
    have c3 := fun σ => C_spanY (σ := σ) (of := Rock.Blk.k) (g := i_rock_Yield_stain) y1 (by omega) (fun x σ => C_ystain)
    rw [y2] at c1 c2 c3
    have hfz := k_frz (f := Blk.enc) (w := 3) (fun _ => rfl) (fun x => by simp) (l := ysL rs t w) (j := 0) (v := rs.length) (bs := [.cells rs.length ((ysL rs t w).flatMap Blk.enc)]) (σ := [.cells w ((List.range w).flatMap (bndE rs t)), C] :: [A, B] :: σ) (by simp) rfl
    rw [y2] at hfz
    have a4 := bndE_len rs t (List.range w)
    rw [List.length_range] at a4
    have a6 : ((List.range w).flatMap (bndE rs t)).take (w * 6) = (List.range w).flatMap (bndE rs t) := List.take_of_length_le (by omega)
    have h7 : (w + 1) * 48 ≤ room := by unfold room; omega
    have hr : (List.range (w + 1)).flatMap (bndE rs t) = (List.range w).flatMap (bndE rs t) ++ bndE rs t w := by rw [List.range_succ, List.flatMap_append]; simp
    rw [hr] at ih
    simp only [bndE, spanE] at ih c1 c2 c3
    simp at hfz
    simp [-List.length_flatMap, -List.map_take, eF, h4, hfz, c1, c2, c3, a4, a6, h7, cl_mdl, cl_run, cl_rw, cl_bore]
    exact WL.to ih (by simp) (by simp) fun x e σ hh => hh
end Go.Proofs.YtehandllpmlcoaaGreat
