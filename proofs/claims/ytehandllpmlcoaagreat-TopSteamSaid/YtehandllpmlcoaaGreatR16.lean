/-
  A tick: behind the range over the flows; the whole tick.
-/
import Derived.Test.YtehandllpmlcoaaGreatR15
set_option linter.unusedVariables false
set_option linter.unusedSimpArgs false
namespace Go.Proofs.YtehandllpmlcoaaGreat
open Go Go.Abs Go.Rock
variable {σ : Stack}

theorem bore_at {b : Bed} {j : Nat} {w : Bore} (h : b.wells[j]? = some w) : ((b.wells.flatMap Bore.enc).drop (j * 3)).take 3 = [.int .i64 w.b, .int .i64 w.h, .int .i64 w.m] :=
  flat_at (f := Bore.enc) (w := 3) (fun _ => rfl) h
theorem L_wells {b : Bed} {m : Mdl} {s s1 : List Rock.Blk} {rates : List Int} {A FL X Y Z W : Abs.Blk} (h : Fv b m) (hs : Sv b s) (hr : Rv b rates) (hb : bnd 500000000000000 s1) (hl1 : s1.length = s.length) : ∀ (k j v : Nat), j + k = rates.length →
    WL T [1, 3, 9, 12, 41, 42, 43] false f_rock_bedded_tick_l19 [(1, .lst s.length (s.flatMap Blk.enc)), (3, .cref [.int .i64 b.f.x, .int .i64 b.f.y, .int .i64 b.f.z, .int .i64 b.f.k, .lst b.tab.length (b.tab.flatMap Rw.enc), .int .i64 b.stiff, .int .i64 b.lift, .int .i64 b.deep, .lst b.wells.length (b.wells.flatMap Bore.enc), .str m.name, .lst m.vals.length (m.vals.flatMap intE)]), (9, .sl σ.length 1 1 0 s.length 3), (12, .sl σ.length 7 v 0 j 3), (41, .lst rates.length (rates.flatMap intE)), (42, .int .i64 rates.length), (43, .int .i64 j)]
      ([A, .cells 1 ((wellsTo b s s1 rates j).flatMap Blk.enc), FL, X, Y, Z, W, .cells v (((yieldsOf b s rates).take j).flatMap Blk.enc)] :: σ)
      (fun x e σ' => x = .exit 2 ∧ get e 3 = .cref [.int .i64 b.f.x, .int .i64 b.f.y, .int .i64 b.f.z, .int .i64 b.f.k, .lst b.tab.length (b.tab.flatMap Rw.enc), .int .i64 b.stiff, .int .i64 b.lift, .int .i64 b.deep, .lst b.wells.length (b.wells.flatMap Bore.enc), .str m.name, .lst m.vals.length (m.vals.flatMap intE)] ∧ get e 9 = .sl σ.length 1 1 0 s.length 3 ∧ get e 12 = .sl σ.length 7 (v + k) 0 rates.length 3 ∧
        σ' = [A, .cells 1 ((wellsTo b s s1 rates rates.length).flatMap Blk.enc), FL, X, Y, Z, W, .cells (v + k) ((yieldsOf b s rates).flatMap Blk.enc)] :: σ)
  | 0, j, v, hj => by
    refine WL_step e_rock_bedded_tick_l19 ?_
    obtain rfl : j = rates.length := by omega
    have hyl : (yieldsOf b s rates).length = rates.length := by simp [yieldsOf, hr.len]
    have h3 : (yieldsOf b s rates).take rates.length = yieldsOf b s rates := List.take_of_length_le (by omega)
    simp [-List.length_flatMap, -List.map_take, eF, h3, cl_rw, cl_bore, cl_int]
  | k + 1, j, v, hj => by
    refine WL_step e_rock_bedded_tick_l19 ?_
    have h1 : j < rates.length := by omega
    have hwl := h.bv.wells
    have hrl := hr.len
    obtain ⟨r, hr2⟩ : ∃ r, rates[j]? = some r := ⟨_, List.getElem?_eq_getElem (by omega)⟩
    obtain ⟨w, hw1⟩ : ∃ w, b.wells[j]? = some w := ⟨_, List.getElem?_eq_getElem (by omega)⟩
    have hw := wells_ok h.bv w (List.mem_of_getElem? hw1)
    have hrr := hr.ok r (List.mem_of_getElem? hr2)
    have hwn : w.b.toNat < b.n := by omega
    have hlen := hs.len
    obtain ⟨x0, m1, m2, m3⟩ := hs.at (i := w.b.toNat) hwn
    obtain ⟨ib, il⟩ := wellsTo_ok h.bv hs hr hb j (by omega)
    obtain ⟨x1, y1⟩ := bnd_at ib (i := w.b.toNat) (by omega)
    have h4 := wnext h1 (by omega)
    have a1 := bore_at hw1
    have a2 := intE_at hr2
    have a3 := flat_at (f := Blk.enc) (w := 3) (fun _ => rfl) x0
    have hy := yield_at (s := s) hw1 hr2
    have f3 := flat_snoc (f := Blk.enc) hy
    have hyl : (yieldsOf b s rates).length = rates.length := by simp [yieldsOf, hr.len]
    have f4 := blk_len ((yieldsOf b s rates).take j)
    rw [List.length_take, hyl, Nat.min_eq_left (by omega)] at f4
    have f6 : (((yieldsOf b s rates).take j).flatMap Blk.enc).take (j * 3) = ((yieldsOf b s rates).take j).flatMap Blk.enc := List.take_of_length_le (by omega)
    have h7 : (j + 1) * 24 ≤ room := by unfold room; omega
    have ih := L_wells (A := A) (FL := FL) (X := X) (Y := Y) (Z := Z) (W := W) h hs hr hb hl1 k (j + 1) (v + 1) (by omega)
    have hsucc := wellsTo_succ (s := s) (s1 := s1) hw1 hr2
    have hB0 : (0 : Int) ≤ w.b := hw.1.1
    have hB1 : w.b < (s.length : Int) := by omega
    have hjw : j < b.wells.length := by omega
    have d2 := Int.tdiv_eq_ediv_of_nonneg (b := 8) (show 0 ≤ (blkAt s w.b.toNat).m by omega)
    by_cases hc : r < 0
    · have hg := fun σ => C_given (σ := σ) hrr hw.2.1 hw.2.2
      have hM : ∀ V, lim T (.call false i_rock_Block_move [.ref σ.length 1 1 (w.b.toNat * 3), .agg [.int .i64 (w.given r).m, .int .i64 (w.given r).h, .int .i64 (w.given r).k], .int .i64 1] ([A, .cells 1 ((wellsTo b s s1 rates j).flatMap Blk.enc), FL, X, Y, Z, W, V] :: σ)) =
          some (.val (.tup []) ([A, .cells 1 ((wellsTo b s s1 rates (j + 1)).flatMap Blk.enc), FL, X, Y, Z, W, V] :: σ)) := by
        intro V
        rw [hsucc, wellMove, if_pos hc]
        exact C_move (F := [A, .cells 1 ((wellsTo b s s1 rates j).flatMap Blk.enc), FL, X, Y, Z, W, V]) (j := 1) rfl x1 (sm_mono y1 (by omega)) (sm_mono (given_sm hrr hw.2.1 hw.2.2) (by omega)) (.inl rfl)
      have hwy : wellYield s w r = ⟨0, 0, 0⟩ := by simp [wellYield, hc]
      rw [hwy] at f3
      simp only [Bore.enc, Blk.enc] at hg
      simp [-List.length_flatMap, -List.map_take, eF, h1, h4, a1, a2, a3, f4, f6, h7, hB0, hB1, hjw, hc, hg, hM, cl_rw, cl_bore, cl_int]
      refine WL.to ih (by simp [cl_rw, cl_bore, cl_int]) (by simp [← f3]) fun x e σ hh => by simpa [Nat.add_assoc, Nat.add_comm 1 k] using hh
    · have w7 := w64 (n := (blkAt s w.b.toNat).m.tdiv 8) (by rw [d2]; omega)
      have hO := fun σ => C_out (σ := σ) (q := min r ((blkAt s w.b.toNat).m.tdiv 8)) m1 m2 m3 ⟨by rw [d2]; omega, by rw [d2]; omega⟩
      have hos := out_sm (q := min r ((blkAt s w.b.toNat).m.tdiv 8)) m1 m2 m3 ⟨by rw [d2]; omega, by rw [d2]; omega⟩
      have hwy : wellYield s w r = (blkAt s w.b.toNat).out (min r ((blkAt s w.b.toNat).m.tdiv 8)) := by simp [wellYield, hc]
      have hsucc' : wellsTo b s s1 rates (j + 1) = moveAt (wellsTo b s s1 rates j) w.b.toNat ((blkAt s w.b.toNat).out (min r ((blkAt s w.b.toNat).m.tdiv 8))) (-1) := by
        rw [hsucc, wellMove, if_neg hc, hwy]
      rw [hwy] at f3
      generalize hQ : min r ((blkAt s w.b.toNat).m.tdiv 8) = Q at *
      generalize (blkAt s w.b.toNat).out Q = O at *
      have hM : ∀ V, lim T (.call false i_rock_Block_move [.ref σ.length 1 1 (w.b.toNat * 3), .agg [.int .i64 O.m, .int .i64 O.h, .int .i64 O.k], .int .i64 (-1)] ([A, .cells 1 ((wellsTo b s s1 rates j).flatMap Blk.enc), FL, X, Y, Z, W, V] :: σ)) =
          some (.val (.tup []) ([A, .cells 1 ((wellsTo b s s1 rates (j + 1)).flatMap Blk.enc), FL, X, Y, Z, W, V] :: σ)) := by
        intro V
        rw [hsucc']
        exact C_move (F := [A, .cells 1 ((wellsTo b s s1 rates j).flatMap Blk.enc), FL, X, Y, Z, W, V]) (j := 1) rfl x1 (sm_mono y1 (by omega)) (sm_mono hos (by omega)) (.inr rfl)
      simp only [Blk.enc] at hO
      simp [-List.length_flatMap, -List.map_take, eF, h1, h4, a1, a2, a3, f4, f6, h7, hB0, hB1, hjw, hc, w7, hQ, hO, hM, cl_rw, cl_bore, cl_int]
      refine WL.to ih (by simp [cl_rw, cl_bore, cl_int]) (by simp [← f3]) fun x e σ hh => by simpa [Nat.add_assoc, Nat.add_comm 1 k] using hh
theorem L_feed {b : Bed} {m : Mdl} {s2 : List Rock.Blk} {A FL X Y Z W V : Abs.Blk} {d12 : D} (h : Fv b m) (hb : bnd 600000000000000 s2) (hl2 : s2.length = b.n) (hd : d12.strip = d12 ∧ d12.calm = d12) : ∀ (k i : Nat), i + k = b.n →
    WL T [3, 9, 12, 93, 94] false f_rock_bedded_tick_l25 [(3, .cref [.int .i64 b.f.x, .int .i64 b.f.y, .int .i64 b.f.z, .int .i64 b.f.k, .lst b.tab.length (b.tab.flatMap Rw.enc), .int .i64 b.stiff, .int .i64 b.lift, .int .i64 b.deep, .lst b.wells.length (b.wells.flatMap Bore.enc), .str m.name, .lst m.vals.length (m.vals.flatMap intE)]), (9, .sl σ.length 1 1 0 b.n 3), (12, d12), (93, .int .i64 b.n), (94, .int .i64 i)]
      ([A, .cells 1 ((feedTo b m s2 i).flatMap Blk.enc), FL, X, Y, Z, W, V] :: σ)
      (fun x e σ' => x = .exit 4 ∧ get e 3 = .cref [.int .i64 b.f.x, .int .i64 b.f.y, .int .i64 b.f.z, .int .i64 b.f.k, .lst b.tab.length (b.tab.flatMap Rw.enc), .int .i64 b.stiff, .int .i64 b.lift, .int .i64 b.deep, .lst b.wells.length (b.wells.flatMap Bore.enc), .str m.name, .lst m.vals.length (m.vals.flatMap intE)] ∧ get e 9 = .sl σ.length 1 1 0 b.n 3 ∧ get e 12 = d12 ∧ σ' = [A, .cells 1 ((feedTo b m s2 b.n).flatMap Blk.enc), FL, X, Y, Z, W, V] :: σ)
  | 0, i, hi => by
    refine WL_step e_rock_bedded_tick_l25 ?_
    obtain rfl : i = b.n := by omega
    simp [-List.length_flatMap, -List.map_take, eF, hd, cl_rw, cl_bore, cl_int]
  | k + 1, i, hi => by
    refine WL_step e_rock_bedded_tick_l25 ?_
    have h1 : i < b.n := by omega
    have hn := h.bv.n
    have h4 := wnext h1 (by omega)
    have hf := fun σ => C_fed (σ := σ) h h1
    have ih := L_feed (A := A) (FL := FL) (X := X) (Y := Y) (Z := Z) (W := W) (V := V) h hb hl2 hd k (i + 1) (by omega)
    have ib := feedTo_ok h hb i (by omega)
    obtain ⟨x1, y1⟩ := bnd_at ib (i := i) (by rw [feedTo_len, hl2]; omega)
    have hM : lim T (.call false i_rock_Block_move [.ref σ.length 1 1 (i * 3), .agg [.int .i64 (fed b m i).m, .int .i64 (fed b m i).h, .int .i64 (fed b m i).k], .int .i64 1] ([A, .cells 1 ((feedTo b m s2 i).flatMap Blk.enc), FL, X, Y, Z, W, V] :: σ)) =
        some (.val (.tup []) ([A, .cells 1 ((feedTo b m s2 (i + 1)).flatMap Blk.enc), FL, X, Y, Z, W, V] :: σ)) := by
      rw [feedTo_succ]
      exact C_move (F := [A, .cells 1 ((feedTo b m s2 i).flatMap Blk.enc), FL, X, Y, Z, W, V]) (j := 1) rfl x1 (sm_mono y1 (by omega)) (sm_mono (fed_sm h h1) (by omega)) (.inl rfl)
    simp only [Blk.enc] at hf
    simp [-List.length_flatMap, -List.map_take, eF, h1, h4, hf, hM, hd, cl_rw, cl_bore, cl_int]
    refine WL.to ih (by simp [hd, cl_rw, cl_bore, cl_int]) rfl fun x e σ hh => hh
end Go.Proofs.YtehandllpmlcoaaGreat
