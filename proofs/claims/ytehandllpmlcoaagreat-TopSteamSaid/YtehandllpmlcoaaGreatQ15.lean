/-
  The forecasts: pressures; all ticks.
-/
import Derived.Test.YtehandllpmlcoaaGreatQ14
set_option linter.unusedVariables false
set_option linter.unusedSimpArgs false
namespace Go.Proofs.YtehandllpmlcoaaGreat
open Go Go.Abs Go.Rock
variable {σ : Stack}

theorem prL_len {b : Bed} {l : List Mdl} {n : Nat} {rs : List RunT} (h : Rs b l n rs) {t i : Nat} : (prL b l rs t i).length = rs.length := by
  have := h.len
  simp [prL]; omega
theorem L_pr {b : Bed} {l : List Mdl} {n : Nat} {rs : List RunT} (h : Rs b l n rs) {t i W L6 L7 L11 : Nat} (ht : t < n) (hi : i < b.n) : ∀ (k j : Nat), j + k = rs.length →
    WL T [1, 3, 6, 7, 9, 10, 11, 16, 17, 32, 33, 74, 75, 78, 79, 80] false f_rock_Ahead_l32 [(1, .lst l.length (l.flatMap Mdl.enc)), (3, .cref [.int .i64 b.f.x, .int .i64 b.f.y, .int .i64 b.f.z, .int .i64 b.f.k, .lst b.tab.length (b.tab.flatMap Rw.enc), .int .i64 b.stiff, .int .i64 b.lift, .int .i64 b.deep, .lst b.wells.length (b.wells.flatMap Bore.enc)]), (6, .sl L6 0 t 0 t 2), (7, .ref L7 1 0 0), (9, .lst rs.length (rs.flatMap runE)), (10, .int .i64 t), (11, .own 0 [.sl L11 0 W 0 W 6, .sl L11 1 i 0 i 2]), (16, .int .i64 i), (17, .sl σ.length 0 j 0 j 1), (32, .int .i64 n), (33, .int .i64 t), (74, .int .i64 b.n), (75, .int .i64 i), (78, .lst rs.length (rs.flatMap runE)), (79, .int .i64 rs.length), (80, .int .i64 j)]
      ([.cells j (((prL b l rs t i).take j).flatMap intE)] :: σ)
      (fun x e σ' => x = .exit 8 ∧ e = [(1, .lst l.length (l.flatMap Mdl.enc)), (3, .cref [.int .i64 b.f.x, .int .i64 b.f.y, .int .i64 b.f.z, .int .i64 b.f.k, .lst b.tab.length (b.tab.flatMap Rw.enc), .int .i64 b.stiff, .int .i64 b.lift, .int .i64 b.deep, .lst b.wells.length (b.wells.flatMap Bore.enc)]), (6, .sl L6 0 t 0 t 2), (7, .ref L7 1 0 0), (9, .lst rs.length (rs.flatMap runE)), (10, .int .i64 t), (11, .own 0 [.sl L11 0 W 0 W 6, .sl L11 1 i 0 i 2]), (16, .int .i64 i), (17, .sl σ.length 0 rs.length 0 rs.length 1), (32, .int .i64 n), (33, .int .i64 t), (74, .int .i64 b.n), (75, .int .i64 i), (78, .lst rs.length (rs.flatMap runE)), (79, .int .i64 rs.length), (80, .int .i64 rs.length), (81, .bool false)] ∧
        σ' = [.cells rs.length ((prL b l rs t i).flatMap intE)] :: σ)
  | 0, j, hj => by
    refine WL_step e_rock_Ahead_l32 ?_
    obtain rfl : j = rs.length := by omega
    have h3 : (prL b l rs t i).take rs.length = prL b l rs t i := List.take_of_length_le (by rw [prL_len h]; omega)
    simp [-List.length_flatMap, -List.map_take, eF, h3, cl_mdl, cl_run, cl_rw, cl_bore]
  | k + 1, j, hj => by
    refine WL_step e_rock_Ahead_l32 ?_
    have hlen := h.len; have hne := h.ne; have hn6 := h.n6; have hw8 := h.wells
    have h1 : j < rs.length := by omega
    have h1' : j < l.length := by omega
    obtain ⟨r, hr⟩ : ∃ r, rs[j]? = some r := ⟨_, List.getElem?_eq_getElem h1⟩
    obtain ⟨m, hm⟩ : ∃ m, l[j]? = some m := ⟨_, List.getElem?_eq_getElem h1'⟩
    have hR := h.all r (List.mem_of_getElem? hr)
    have hv := h.fv m (List.mem_of_getElem? hm)
    obtain ⟨y1, y2⟩ := row_s hR (t := t + 1) (by omega)
    have hP := fun σ => C_pressure (σ := σ) hv y2 hi
    have h2 := runE_at hr
    have h3 := stL_at y1
    have h6 := mdlE_at hm
    have h4 := wnext h1 (by omega)
    have w1 := wnext ht (by omega)
    have hx : (prL b l rs t i)[j]? = some (pressure b m (rowAt r.1 (t + 1)) i) := by simp [prL, List.getElem?_zipWith, hr, hm]
    have plen := prL_len h (t := t) (i := i)
    have a3 := flat_snoc (f := intE) hx
    have a4 := int_len ((prL b l rs t i).take j)
    rw [List.length_take, plen, Nat.min_eq_left (by omega)] at a4
    have a6 : (((prL b l rs t i).take j).flatMap intE).take j = ((prL b l rs t i).take j).flatMap intE := List.take_of_length_le (by omega)
    have h7 : (j + 1) * 8 ≤ room := by unfold room; omega
    have ih := L_pr h (L6 := L6) (L7 := L7) (L11 := L11) (W := W) ht hi k (j + 1) (by omega)
    have hsl := hR.sl
    have ht' : t + 1 < r.1.length := by omega
    have ht2 : (t : Int) + 1 < (r.1.length : Int) := by omega
    have ht3 : (0 : Int) ≤ (t : Int) + 1 := by omega
    have ht4 : ((t : Int) + 1).toNat = t + 1 := by omega
    generalize rowAt r.1 (t + 1) = y at *
    simp [-List.length_flatMap, -List.map_take, eF, h1, h1', h2, h3, h4, h6, w1, hP, a4, a6, h7, ht', ht2, ht3, ht4, cl_mdl, cl_run, cl_rw, cl_bore, cl_st, cl_int, D.clean]
    exact WL.to ih (by simp) (by simp [← a3]) fun x e σ hh => hh
theorem prE_len (b : Bed) (l : List Mdl) (rs : List RunT) (t : Nat) (is : List Nat) : (is.flatMap (prE b l rs t)).length = is.length * 2 := flat_len (f := prE b l rs t) (w := 2) (fun _ => rfl) is
theorem L_bl {b : Bed} {l : List Mdl} {n : Nat} {rs : List RunT} (h : Rs b l n rs) {t W : Nat} {A B C : Abs.Blk} (ht : t < n) : ∀ (k i : Nat), i + k = b.n →
    WL T [1, 3, 6, 7, 9, 10, 11, 32, 33, 74, 75] true f_rock_Ahead_l35 [(1, .lst l.length (l.flatMap Mdl.enc)), (3, .cref [.int .i64 b.f.x, .int .i64 b.f.y, .int .i64 b.f.z, .int .i64 b.f.k, .lst b.tab.length (b.tab.flatMap Rw.enc), .int .i64 b.stiff, .int .i64 b.lift, .int .i64 b.deep, .lst b.wells.length (b.wells.flatMap Bore.enc)]), (6, .sl σ.length 0 t 0 t 2), (7, .ref σ.length 1 0 0), (9, .lst rs.length (rs.flatMap runE)), (10, .int .i64 t), (11, .own 0 [.sl (σ.length + 1) 0 W 0 W 6, .sl (σ.length + 1) 1 i 0 i 2]), (32, .int .i64 n), (33, .int .i64 t), (74, .int .i64 b.n), (75, .int .i64 i)]
      ([C, .cells i ((List.range i).flatMap (prE b l rs t))] :: [A, B] :: σ)
      (fun x e σ' => x = .exit 6 ∧ e = [(1, .lst l.length (l.flatMap Mdl.enc)), (3, .cref [.int .i64 b.f.x, .int .i64 b.f.y, .int .i64 b.f.z, .int .i64 b.f.k, .lst b.tab.length (b.tab.flatMap Rw.enc), .int .i64 b.stiff, .int .i64 b.lift, .int .i64 b.deep, .lst b.wells.length (b.wells.flatMap Bore.enc)]), (6, .sl σ.length 0 t 0 t 2), (7, .ref σ.length 1 0 0), (9, .lst rs.length (rs.flatMap runE)), (10, .int .i64 t), (11, .own 0 [.sl (σ.length + 1) 0 W 0 W 6, .sl (σ.length + 1) 1 b.n 0 b.n 2]), (32, .int .i64 n), (33, .int .i64 t), (74, .int .i64 b.n), (75, .int .i64 b.n), (76, .bool false)] ∧
        σ' = [C, .cells b.n ((List.range b.n).flatMap (prE b l rs t))] :: [A, B] :: σ)
  | 0, i, hi => by
    refine WL_stepS e_rock_Ahead_l35 ?_
    obtain rfl : i = b.n := by omega
    simp [-List.length_flatMap, -List.map_take, eF, cl_mdl, cl_run, cl_rw, cl_bore]
  | k + 1, i, hi => by
    refine WL_stepS e_rock_Ahead_l35 ?_
    have h1 : i < b.n := by omega
    have hbn := h.bn
    have h4 := wnext h1 (by omega)
    have ih := L_bl h (A := A) (B := B) (C := C) (W := W) ht k (i + 1) (by omega)
    simp [-List.length_flatMap, -List.map_take, eF, h1, cl_mdl, cl_run, cl_rw, cl_bore]
    refine WL.to (L_pr (σ := [C, .cells i ((List.range i).flatMap (prE b l rs t))] :: [A, B] :: σ) h (L6 := σ.length) (L7 := σ.length) (L11 := σ.length + 1) (W := W) ht h1 rs.length 0 (by omega)) (by simp) (by simp) ?_
    rintro x e σ' ⟨rfl, rfl, rfl⟩
    have hlen := h.len; have hne := h.ne
    have y2 := prL_len h (t := t) (i := i)
    have y1 : prL b l rs t i ≠ [] := fun hh => by rw [hh] at y2; simp at y2; omega
    have c1 := fun σ => C_spanI (σ := σ) y1 (by omega)
    rw [y2] at c1
    have hfz := k_frz (f := intE) (w := 1) (fun _ => rfl) (fun x => by simp) (l := prL b l rs t i) (j := 0) (v := rs.length) (bs := [.cells rs.length ((prL b l rs t i).flatMap intE)]) (σ := [C, .cells i ((List.range i).flatMap (prE b l rs t))] :: [A, B] :: σ) (by simp) rfl
    rw [y2] at hfz
    have a4 := prE_len b l rs t (List.range i)
    rw [List.length_range] at a4
    have a6 : ((List.range i).flatMap (prE b l rs t)).take (i * 2) = (List.range i).flatMap (prE b l rs t) := List.take_of_length_le (by omega)
    have h7 : (i + 1) * 16 ≤ room := by unfold room; omega
    have hr : (List.range (i + 1)).flatMap (prE b l rs t) = (List.range i).flatMap (prE b l rs t) ++ prE b l rs t i := by rw [List.range_succ, List.flatMap_append]; simp
    rw [hr] at ih
    simp only [prE, spanE] at ih c1
    simp at hfz
    simp [-List.length_flatMap, -List.map_take, eF, h4, hfz, c1, a4, a6, h7, cl_mdl, cl_run, cl_rw, cl_bore]
    exact WL.to ih (by simp) (by simp [prE, spanE]) fun x e σ hh => hh
theorem foreE_len (b : Bed) (l : List Mdl) (rs : List RunT) (ts : List Nat) : (ts.flatMap (foreE b l rs)).length = ts.length * 2 := flat_len (f := foreE b l rs) (w := 2) (fun _ => rfl) ts
theorem cl_bnd (rs : List RunT) (t : Nat) (ws : List Nat) : D.cleanL (ws.flatMap (bndE rs t)) = true := k_clean (fun x => by simp [bndE, spanE]) ws
theorem cl_pr (b : Bed) (l : List Mdl) (rs : List RunT) (t : Nat) (is : List Nat) : D.cleanL (is.flatMap (prE b l rs t)) = true := k_clean (fun x => by simp [prE, spanE]) is
theorem cl_fore (b : Bed) (l : List Mdl) (rs : List RunT) (ts : List Nat) : D.cleanL (ts.flatMap (foreE b l rs)) = true := k_clean (fun x => by simp [foreE, D.clean, cl_bnd, cl_pr]) ts
theorem L_tk {b : Bed} {l : List Mdl} {n : Nat} {rs : List RunT} (hb : Bv b) (h : Rs b l n rs) {B : Abs.Blk} : ∀ (k t : Nat), t + k = n →
    WL T [1, 3, 6, 7, 9, 32, 33] true f_rock_Ahead_l38 [(1, .lst l.length (l.flatMap Mdl.enc)), (3, .cref [.int .i64 b.f.x, .int .i64 b.f.y, .int .i64 b.f.z, .int .i64 b.f.k, .lst b.tab.length (b.tab.flatMap Rw.enc), .int .i64 b.stiff, .int .i64 b.lift, .int .i64 b.deep, .lst b.wells.length (b.wells.flatMap Bore.enc)]), (6, .sl σ.length 0 t 0 t 2), (7, .ref σ.length 1 0 0), (9, .lst rs.length (rs.flatMap runE)), (32, .int .i64 n), (33, .int .i64 t)]
      ([.cells t ((List.range t).flatMap (foreE b l rs)), B] :: σ)
      (fun x e σ' => x = .exit 0 ∧ e = [(1, .lst l.length (l.flatMap Mdl.enc)), (3, .cref [.int .i64 b.f.x, .int .i64 b.f.y, .int .i64 b.f.z, .int .i64 b.f.k, .lst b.tab.length (b.tab.flatMap Rw.enc), .int .i64 b.stiff, .int .i64 b.lift, .int .i64 b.deep, .lst b.wells.length (b.wells.flatMap Bore.enc)]), (6, .sl σ.length 0 n 0 n 2), (7, .ref σ.length 1 0 0), (9, .lst rs.length (rs.flatMap runE)), (32, .int .i64 n), (33, .int .i64 n), (34, .bool false)] ∧
        σ' = [.cells n ((List.range n).flatMap (foreE b l rs)), B] :: σ)
  | 0, t, hi => by
    refine WL_stepS e_rock_Ahead_l38 ?_
    obtain rfl : t = n := by omega
    simp [-List.length_flatMap, -List.map_take, eF, cl_mdl, cl_run, cl_rw, cl_bore]
  | k + 1, t, hi => by
    refine WL_stepS e_rock_Ahead_l38 ?_
    have h1 : t < n := by omega
    have hn6 := h.n6
    have hw8 := h.wells
    have hbn := h.bn
    have h4 := wnext h1 (by omega)
    have hS := fun σ => C_rsize' (σ := σ) hb
    have ih := L_tk hb h (B := B) k (t + 1) (by omega)
    simp [-List.length_flatMap, -List.map_take, eF, h1, cl_mdl, cl_run, cl_rw, cl_bore]
    refine WL.to (L_wl (σ := σ) h (A := .cells t ((List.range t).flatMap (foreE b l rs))) (B := B) (C := .cells 0 []) h1 b.wells.length 0 (by omega)) (by simp) (by simp) ?_
    rintro x e σ' ⟨rfl, rfl, rfl⟩
    simp [-List.length_flatMap, -List.map_take, eF, hS, cl_mdl, cl_run, cl_rw, cl_bore]
    refine WL.to (L_bl (σ := σ) h (A := .cells t ((List.range t).flatMap (foreE b l rs))) (B := B) (C := .cells b.wells.length ((List.range b.wells.length).flatMap (bndE rs t))) (W := b.wells.length) h1 b.n 0 (by omega)) (by simp) (by simp) ?_
    rintro x e σ' ⟨rfl, rfl, rfl⟩
    have f1 := k_frz (f := bndE rs t) (w := 6) (fun _ => rfl) (fun x => by simp [bndE, spanE]) (l := List.range b.wells.length) (j := 0) (v := b.wells.length) (bs := [.cells b.wells.length ((List.range b.wells.length).flatMap (bndE rs t)), .cells b.n ((List.range b.n).flatMap (prE b l rs t))]) (σ := [.cells t ((List.range t).flatMap (foreE b l rs)), B] :: σ) (by simp) rfl
    have f2 := k_frz (f := prE b l rs t) (w := 2) (fun _ => rfl) (fun x => by simp [prE, spanE]) (l := List.range b.n) (j := 1) (v := b.n) (bs := [.dead, .cells b.n ((List.range b.n).flatMap (prE b l rs t))]) (σ := [.cells t ((List.range t).flatMap (foreE b l rs)), B] :: σ) (by simp) rfl
    simp only [List.length_range, List.length_cons, List.set_cons_zero, List.set_cons_succ] at f1 f2
    have a4 := foreE_len b l rs (List.range t)
    rw [List.length_range] at a4
    have a6 : ((List.range t).flatMap (foreE b l rs)).take (t * 2) = (List.range t).flatMap (foreE b l rs) := List.take_of_length_le (by omega)
    have h7 : (t + 1) * 48 ≤ room := by unfold room; omega
    have hr : (List.range (t + 1)).flatMap (foreE b l rs) = (List.range t).flatMap (foreE b l rs) ++ foreE b l rs t := by rw [List.range_succ, List.flatMap_append]; simp
    rw [hr] at ih
    simp [-List.length_flatMap, -List.map_take, eF, h4, f1, f2, a4, a6, h7, cl_mdl, cl_run, cl_rw, cl_bore, D.clean, cl_bnd, cl_pr]
    exact WL.to ih (by simp) (by simp [foreE]) fun x e σ hh => hh
end Go.Proofs.YtehandllpmlcoaaGreat
