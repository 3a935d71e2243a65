/-
  TopSteam: the loops.
-/
import Derived.Test.YtehandllpmlcoaaGreatQ17
set_option linter.unusedVariables false
set_option linter.unusedSimpArgs false
namespace Go.Proofs.YtehandllpmlcoaaGreat
open Go Go.Abs Go.Rock
variable {σ : Stack}

theorem foreE_at {b : Bed} {l : List Mdl} {rs : List RunT} {n t : Nat} (h : t < n) : (((List.range n).flatMap (foreE b l rs)).drop (t * 2)).take 2 = [.lst b.wells.length ((List.range b.wells.length).flatMap (bndE rs t)), .lst b.n ((List.range b.n).flatMap (prE b l rs t))] :=
  flat_at (f := foreE b l rs) (w := 2) (fun _ => rfl) (by simp [h])
theorem bndE_at {rs : List RunT} {n t w : Nat} (h : w < n) : (((List.range n).flatMap (bndE rs t)).drop (w * 6)).take 6 = bndE rs t w :=
  flat_at (f := bndE rs t) (w := 6) (fun _ => rfl) (by simp [h])
/-- What is known of a well's yields in a tick. -/
theorem ys_b {b : Bed} {l : List Mdl} {n : Nat} {rs : List RunT} (h : Rs b l n rs) {t w : Nat} (ht : t < n) (hw : w < b.wells.length) : ∀ y ∈ ysL rs t w, (0 ≤ y.m ∧ y.m ≤ 1000000) ∧ (0 ≤ y.h ∧ y.h ≤ 10000000000) := by
  intro y hy
  simp only [ysL, List.mem_map] at hy
  obtain ⟨r, hr, rfl⟩ := hy
  obtain ⟨y1, y2⟩ := row_y (h.all r hr) ht
  have y3 := yv_at y2 hw
  have := y2.ok _ (List.mem_of_getElem? y3)
  exact ⟨this.1, this.2.1⟩
theorem L_sw {b : Bed} {l : List Mdl} {plan : List (List Int)} {rs : List RunT} {r : RunT} {row : Rw} {lev i t : Nat} (h : Ok b l plan) (hR : Rs b l plan.length rs) (hr : r ∈ rs) (hlev : b.tab[lev]? = some row) (ht : t < plan.length) : ∀ (k w : Nat), w + k = b.wells.length →
    WL T [2, 4, 9, 10, 11, 12, 14, 15, 17, 18] false f_top_TopSteam_l25 [(2, .lst plan.length (plan.flatMap inL)), (4, .cref [.int .i64 b.f.x, .int .i64 b.f.y, .int .i64 b.f.z, .int .i64 b.f.k, .lst b.tab.length (b.tab.flatMap Rw.enc), .int .i64 b.stiff, .int .i64 b.lift, .int .i64 b.deep, .lst b.wells.length (b.wells.flatMap Bore.enc)]), (9, .own 0 [.int .i64 b.f.x, .int .i64 b.f.y, .int .i64 b.f.z, .int .i64 b.f.k, .lst b.tab.length (b.tab.flatMap Rw.enc), .int .i64 b.stiff, .int .i64 b.lift, .int .i64 b.deep, .lst b.wells.length (b.wells.flatMap Bore.enc)]), (10, .lst l.length (l.flatMap Mdl.enc)), (11, .int .i64 lev), (12, .lst plan.length ((List.range plan.length).flatMap (foreE b l rs))), (14, .int .i64 i), (15, .own 0 [.lst r.1.length (r.1.flatMap stL), .lst r.2.length (r.2.flatMap stL)]), (17, .int .i64 t), (18, .int .i64 w)] σ
      (fun x e σ' => x = .exit 4 ∧ e = [(2, .lst plan.length (plan.flatMap inL)), (4, .cref [.int .i64 b.f.x, .int .i64 b.f.y, .int .i64 b.f.z, .int .i64 b.f.k, .lst b.tab.length (b.tab.flatMap Rw.enc), .int .i64 b.stiff, .int .i64 b.lift, .int .i64 b.deep, .lst b.wells.length (b.wells.flatMap Bore.enc)]), (9, .own 0 [.int .i64 b.f.x, .int .i64 b.f.y, .int .i64 b.f.z, .int .i64 b.f.k, .lst b.tab.length (b.tab.flatMap Rw.enc), .int .i64 b.stiff, .int .i64 b.lift, .int .i64 b.deep, .lst b.wells.length (b.wells.flatMap Bore.enc)]), (10, .lst l.length (l.flatMap Mdl.enc)), (11, .int .i64 lev), (12, .lst plan.length ((List.range plan.length).flatMap (foreE b l rs))), (14, .int .i64 i), (15, .own 0 [.lst r.1.length (r.1.flatMap stL), .lst r.2.length (r.2.flatMap stL)]), (17, .int .i64 t), (18, .int .i64 b.wells.length), (123, .bool false)] ∧ σ' = σ)
  | 0, w, hi => by
    refine WL_step e_top_TopSteam_l25 ?_
    obtain rfl : w = b.wells.length := by omega
    simp [-List.length_flatMap, -List.map_take, eF]
  | k + 1, w, hi => by
    refine WL_step e_top_TopSteam_l25 ?_
    have h1 : w < b.wells.length := by omega
    have hw8 := h.bv.wells
    have h4 := wnext h1 (by omega)
    have ih := L_sw (i := i) h hR hr hlev ht k (w + 1) (by omega)
    have hRr := hR.all r hr
    obtain ⟨y1, y2⟩ := row_y hRr ht
    have y3 := yv_at y2 h1
    have hmem : blkAt (rowAt r.2 t) w ∈ ysL rs t w := List.mem_map.2 ⟨r, hr, rfl⟩
    obtain ⟨b1, b2⟩ := ys_b hR ht h1 _ hmem
    obtain ⟨m1, m2⟩ := spanB_in (of := Rock.Blk.m) hmem
    obtain ⟨g1, g2⟩ := spanB_in (of := Rock.Blk.h) hmem
    have hne := (ysL_ne hR (t := t) (w := w)).1
    have m0 : 0 ≤ (spanB Rock.Blk.m (ysL rs t w)).1 := spanB_least (k := 0) (fun _ => hne) fun y hy => (ys_b hR ht h1 y hy).1.1
    have g0 : 0 ≤ (spanB Rock.Blk.h (ysL rs t w)).1 := spanB_least (k := 0) (fun _ => hne) fun y hy => (ys_b hR ht h1 y hy).2.1
    have a1 := foreE_at (b := b) (l := l) (rs := rs) ht
    have a2 := bndE_at (rs := rs) (t := t) h1
    have a3 := stL_at y1
    have a4 := flat_at (f := Blk.enc) (w := 3) (fun _ => rfl) y3
    simp only [bndE, spanE] at a2
    have hyl := hRr.yl
    have hyw := y2.len
    have ht' : t < r.2.length := by omega
    have hw' : w < (rowAt r.2 t).length := by omega
    have hp6 := h.plen
    generalize spanB Rock.Blk.m (ysL rs t w) = ms at *
    generalize spanB Rock.Blk.h (ysL rs t w) = hs at *
    generalize spanB Rock.Blk.k (ysL rs t w) = ks at *
    generalize rowAt r.2 t = yr at *
    generalize blkAt yr w = y at *
    have w1 := w64 (n := 4000 * ms.1) (by omega)
    by_cases c1 : ms.1 = ms.2
    · by_cases c2 : 4000 * ms.1 < hs.2
      · simp [-List.length_flatMap, -List.map_take, eF, h1, ht, ht', hw', a1, a2, a3, a4, ← c1, c2, h4, w1]
        exact WL.to ih (by simp) rfl fun x e σ hh => hh
      · have em : y.m = ms.1 := by omega
        obtain ⟨r1, r2⟩ := row_in h.bv.tab hlev
        have hx : Stm.valid ⟨y.m, y.h, 0, 0⟩ = true := by simp only [Stm.valid, Bool.and_eq_true, inn_iff]; omega
        have k1 := fun σ => C_Bounds (σ := σ) h.bv.tab hlev (m := ms.1) (lo := hs.1) (hi' := hs.2) (by omega) g0 (by omega) (by omega)
        have k2 := fun σ => C_Flash (σ := σ) h.bv.tab hlev hx
        have f1 := fsteam_mono (m := ms.1) (a := hs.1) (b := y.h) (s := 0) (t := 0) (g := 0) (k := 0) r1.2.1 (by omega) g1
        have f2 := fsteam_mono (m := ms.1) (a := y.h) (b := hs.2) (s := 0) (t := 0) (g := 0) (k := 0) r1.2.1 (by omega) g2
        simp only [parts, Stm.enc] at k2
        rw [em] at k2
        generalize fsteam row ⟨ms.1, hs.1, 0, 0⟩ = z1 at *
        generalize fsteam row ⟨ms.1, hs.2, 0, 0⟩ = z2 at *
        generalize fsteam row ⟨ms.1, y.h, 0, 0⟩ = z3 at *
        have f1' : ¬ z3 < z1 := by omega
        have f2' : ¬ z2 < z3 := by omega
        simp [-List.length_flatMap, -List.map_take, eF, h1, ht, ht', hw', a1, a2, a3, a4, ← c1, c2, h4, w1, k1, k2, em, f1', f2']
        exact WL.to ih (by simp) rfl fun x e σ hh => hh
    · simp [-List.length_flatMap, -List.map_take, eF, h1, ht, ht', hw', a1, a2, a3, a4, c1, h4, w1]
      exact WL.to ih (by simp) rfl fun x e σ hh => hh
end Go.Proofs.YtehandllpmlcoaaGreat
