/-
  What is valid of a state; what is moved; copies of states.
-/
import Derived.Test.YtehandllpmlcoaaGreatR9
set_option linter.unusedVariables false
set_option linter.unusedSimpArgs false
namespace Go.Proofs.YtehandllpmlcoaaGreat
open Go Go.Abs Go.Rock
variable {σ : Stack}

theorem C_blkValid {x : Rock.Blk} : lim T (.call false i_rock_Block_valid [.agg x.enc] σ) = some (.val (.bool x.valid) σ) := by
  refine call_of T_rock_Block_valid e_rock_Block_valid rfl ?_
  cases hc1 : inn x.m 1 1000000
  · simp [-List.length_flatMap, -List.map_take, eF, C_rwithin, Rock.Blk.valid, hc1]
  cases hc2 : inn x.h 0 10000000000
  · simp [-List.length_flatMap, -List.map_take, eF, C_rwithin, Rock.Blk.valid, hc1, hc2]
  cases hc3 : inn x.k 0 1000000000000
  · simp [-List.length_flatMap, -List.map_take, eF, C_rwithin, Rock.Blk.valid, hc1, hc2, hc3]
  simp [-List.length_flatMap, -List.map_take, eF, C_rwithin, Rock.Blk.valid, hc1, hc2, hc3]
theorem C_blkAll {l : List Rock.Blk} (hl : l.length ≤ 1000000000) : lim T (.call false i_rock_all_rock_Block [.lst l.length (l.flatMap Blk.enc), .fn i_rock_Block_valid [] []] σ) = some (.val (.bool (allB l Rock.Blk.valid)) σ) :=
  all_of (eltAgg 3 Blk.enc (fun _ => rfl)) (f := i_rock_all_rock_Block) (g := i_rock_all_rock_Block_1) (h := i_slices_ContainsFunc_rock_Block) (i := i_slices_IndexFunc_rock_Block) (l := l) (p := Rock.Blk.valid) rfl rfl rfl rfl (by omega) (Tests.fn fun x _ σ => C_blkValid) rfl
theorem C_state {b : Bed} {m : Mdl} {s : List Rock.Blk} (h : Bv b) (hl : s.length ≤ 1000000000) : lim T (.call false i_rock_bedded_state [.agg [.int .i64 b.f.x, .int .i64 b.f.y, .int .i64 b.f.z, .int .i64 b.f.k, .lst b.tab.length (b.tab.flatMap Rw.enc), .int .i64 b.stiff, .int .i64 b.lift, .int .i64 b.deep, .lst b.wells.length (b.wells.flatMap Bore.enc), .str m.name, .lst m.vals.length (m.vals.flatMap intE)], .lst s.length (s.flatMap Blk.enc)] σ) = some (.val (.bool (stateOk b s)) σ) := by
  refine call_of T_rock_bedded_state e_rock_bedded_state rfl ?_
  have hs := fun σ => C_rsize' (σ := σ) h
  have ha := fun σ => C_blkAll (σ := σ) (l := s) hl
  have hz := h.sz
  unfold stateOk
  by_cases hc1 : s.length = b.n
  · have hc2 : (s.length : Int) = b.size := by unfold Bed.size; omega
    have ha' := ha
    rw [hc1] at ha'
    have hc3 : ((b.n : Nat) : Int) = b.size := hz.symm
    cases hc : allB s Rock.Blk.valid <;> simp [-List.length_flatMap, -List.map_take, eF, hs, hc1, ha', hc, hc3]
  · have hc2 : ¬ (s.length : Int) = b.size := by unfold Bed.size; omega
    simp [-List.length_flatMap, -List.map_take, eF, hs, hc1, hc2, show ¬ (s.length : Int) = (b.n : Int) by omega]
theorem out_b {x q m A : Int} (hm : 1 ≤ m) (hx : 0 ≤ x ∧ x ≤ A) (hq : 0 ≤ q ∧ q ≤ m) : 0 ≤ (x * q).tdiv m ∧ (x * q).tdiv m ≤ A := by
  have h1 := Int.mul_nonneg hx.1 hq.1
  rw [Int.tdiv_eq_ediv_of_nonneg h1]
  refine ⟨Int.ediv_nonneg h1 (by omega), Int.ediv_le_of_le_mul (by omega) ?_⟩
  exact Int.mul_le_mul hx.2 hq.2 hq.1 (by omega)
theorem C_out {x : Rock.Blk} {q : Int} (hm : 1 ≤ x.m ∧ x.m ≤ 1000000) (hh : 0 ≤ x.h ∧ x.h ≤ 10000000000) (hk : 0 ≤ x.k ∧ x.k ≤ 1000000000000) (hq : 0 ≤ q ∧ q ≤ x.m) :
    lim T (.call false i_rock_Block_out [.agg x.enc, .int .i64 q] σ) = some (.val (.agg (x.out q).enc) σ) := by
  refine call_of T_rock_Block_out e_rock_Block_out rfl ?_
  have b1 := mul_n hh.1 hh.2 hq.1 (show q ≤ 1000000 by omega)
  have b2 := mul_n hk.1 hk.2 hq.1 (show q ≤ 1000000 by omega)
  have b3 := out_b hm.1 hh hq
  have b4 := out_b hm.1 hk hq
  have w1 := w64 (n := x.h * q) (by omega)
  have w2 := w64 (n := x.k * q) (by omega)
  have w3 := w64 (n := (x.h * q).tdiv x.m) (by omega)
  have w4 := w64 (n := (x.k * q).tdiv x.m) (by omega)
  have hne : ¬ x.m = 0 := by omega
  simp [-List.length_flatMap, -List.map_take, eF, w1, w2, w3, w4, hne, Rock.Blk.out]
/-- A block's numbers are small. -/
def sm (x : Rock.Blk) (n : Int) : Prop := (-n ≤ x.m ∧ x.m ≤ n) ∧ (-n ≤ x.h ∧ x.h ≤ n) ∧ (-n ≤ x.k ∧ x.k ≤ n)
theorem C_move {F : List Abs.Blk} {j v i : Nat} {s : List Rock.Blk} {x o : Rock.Blk} {sign : Int} (hF : F[j]? = some (.cells v (s.flatMap Blk.enc))) (hx : s[i]? = some x) (h1 : sm x 1000000000000000000) (h2 : sm o 1000000000000000000) (hs : sign = 1 ∨ sign = -1) :
    lim T (.call false i_rock_Block_move [.ref σ.length j v (i * 3), .agg o.enc, .int .i64 sign] (F :: σ)) = some (.val (.tup []) (F.set j (.cells v ((moveAt s i o sign).flatMap Blk.enc)) :: σ)) := by
  refine call_to T_rock_Block_move e_rock_Block_move rfl (by simp) ?_
  obtain ⟨a1, a2, a3⟩ := h1
  obtain ⟨c1, c2, c3⟩ := h2
  have hi : i < s.length := (List.getElem?_eq_some_iff.1 hx).1
  obtain ⟨A, B, hA, hAB⟩ : ∃ A B : List D, A.length = i * 3 ∧ s.flatMap Blk.enc = A ++ (x.enc ++ B) := by
    have hd := k_drop (f := Blk.enc) (w := 3) (fun _ => rfl) hx
    have hlen := blk_len s
    refine ⟨(s.flatMap Blk.enc).take (i * 3), (s.flatMap Blk.enc).drop (i * 3 + 3), by rw [List.length_take]; omega, ?_⟩
    rw [← hd, List.take_append_drop]
  have hset : (moveAt s i o sign).flatMap Blk.enc = A ++ ((x.move o sign).enc ++ B) := by
    have h3 := k_set (f := Blk.enc) (w := 3) (fun _ => rfl) (x := x.move o sign) hi
    have hblk : blkAt s i = x := by simp [blkAt, hx]
    rw [moveAt, hblk, ← h3, hAB]
    have e1 : (A ++ (x.enc ++ B)).take (i * 3) = A := by rw [← hA]; simp
    have e2 : (A ++ (x.enc ++ B)).drop (i * 3 + 3) = B := by
      rw [← List.drop_drop, ← hA]; simp
    rw [e1, e2]
  rw [hAB] at hF
  rw [hset]
  have hj : j < F.length := (List.getElem?_eq_some_iff.1 hF).1
  have gs : ∀ X : Abs.Blk, (F.set j X)[j]? = some X := fun X => by simp [hj]
  clear hset hAB hx hj
  have t1 : ∀ L : List D, (A ++ L).take (A.length + 1) = A ++ L.take 1 := fun L => by rw [List.take_length_add_append]
  have t2 : ∀ L : List D, (A ++ L).take (A.length + 1 + 1) = A ++ L.take 2 := fun L => by rw [Nat.add_assoc, List.take_length_add_append]
  have d2 : ∀ L : List D, (A ++ L).drop (A.length + 1 + 1) = L.drop 2 := fun L => by rw [Nat.add_assoc, List.drop_length_add_append]
  have d1 : ∀ L : List D, (A ++ L).drop (A.length + 1) = L.drop 1 := fun L => by rw [List.drop_length_add_append]
  have d3 : ∀ L : List D, (A ++ L).drop (A.length + 1 + 1 + 1) = L.drop 3 := fun L => by rw [Nat.add_assoc, Nat.add_assoc, List.drop_length_add_append]
  have k1 : A.length + 1 + 1 ≤ A.length + (B.length + 1 + 1 + 1) := by omega
  have k2 : A.length + 1 + 1 + 1 ≤ A.length + (B.length + 1 + 1 + 1) := by omega
  have k3 : A.length + 1 ≤ A.length + (B.length + 1 + 1 + 1) := by omega
  have k4 : A.length + 2 + 1 ≤ A.length + (B.length + 1 + 1 + 1) := by omega
  have d4 : ∀ L : List D, (A ++ L).drop (A.length + 2) = L.drop 2 := fun L => by rw [List.drop_length_add_append]
  have d5 : ∀ L : List D, (A ++ L).drop (A.length + 2 + 1) = L.drop 3 := fun L => by rw [Nat.add_assoc, List.drop_length_add_append]
  have t4 : ∀ L : List D, (A ++ L).take (A.length + 2) = A ++ L.take 2 := fun L => by rw [List.take_length_add_append]
  have y1 := w64 (n := o.m) (by omega)
  have y2 := w64 (n := o.h) (by omega)
  have y3 := w64 (n := o.k) (by omega)
  have y4 := w64 (n := -o.m) (by omega)
  have y5 := w64 (n := -o.h) (by omega)
  have y6 := w64 (n := -o.k) (by omega)
  rcases hs with rfl | rfl
  · have w1 := w64 (n := x.m + o.m) (by omega)
    have w2 := w64 (n := x.h + o.h) (by omega)
    have w3 := w64 (n := x.k + o.k) (by omega)
    simp [-List.length_flatMap, -List.map_take, eF, hF, gs, ← hA, w1, w2, w3, y1, y2, y3, t1, t2, t4, d1, d2, d3, d4, d5, k1, k2, k3, k4, Rock.Blk.move]
  · have w1 := w64 (n := x.m + -o.m) (by omega)
    have w2 := w64 (n := x.h + -o.h) (by omega)
    have w3 := w64 (n := x.k + -o.k) (by omega)
    simp [-List.length_flatMap, -List.map_take, eF, hF, gs, ← hA, w1, w2, w3, y4, y5, y6, t1, t2, t4, d1, d2, d3, d4, d5, k1, k2, k3, k4, Rock.Blk.move]
theorem C_given {w : Bore} {r : Int} (hr : -100000 ≤ r ∧ r ≤ 100000) (h1 : 0 ≤ w.h ∧ w.h ≤ 3000) (h2 : 0 ≤ w.m ∧ w.m ≤ 1000000) :
    lim T (.call false i_rock_Bore_given [.agg w.enc, .int .i64 r] σ) = some (.val (.agg (w.given r).enc) σ) := by
  refine call_of T_rock_Bore_given e_rock_Bore_given rfl ?_
  have b1 : -300000000 ≤ r * w.h ∧ r * w.h ≤ 300000000 := by
    rcases Int.le_total 0 r with h | h
    · have := mul_n h hr.2 h1.1 h1.2; omega
    · have := mul_n (a := -r) (A := 100000) (by omega) (by omega) h1.1 h1.2
      rw [Int.neg_mul] at this; omega
  have b2 : -100000000000 ≤ r * w.m ∧ r * w.m ≤ 100000000000 := by
    rcases Int.le_total 0 r with h | h
    · have := mul_n h hr.2 h2.1 h2.2; omega
    · have := mul_n (a := -r) (A := 100000) (by omega) (by omega) h2.1 h2.2
      rw [Int.neg_mul] at this; omega
  have w1 := w64 (n := -r) (by omega)
  have w2 := w64 (n := -(r * w.h)) (by omega)
  have w3 := w64 (n := -(r * w.m)) (by omega)
  simp [-List.length_flatMap, -List.map_take, eF, w1, w2, w3, Bore.given, Int.neg_mul]
theorem C_fed {b : Bed} {m : Mdl} (h : Fv b m) {i : Nat} (hi : i < b.n) : lim T (.call false i_rock_bedded_fed [.agg [.int .i64 b.f.x, .int .i64 b.f.y, .int .i64 b.f.z, .int .i64 b.f.k, .lst b.tab.length (b.tab.flatMap Rw.enc), .int .i64 b.stiff, .int .i64 b.lift, .int .i64 b.deep, .lst b.wells.length (b.wells.flatMap Bore.enc), .str m.name, .lst m.vals.length (m.vals.flatMap intE)], .int .i64 i] σ) = some (.val (.agg (fed b m i).enc) σ) := by
  refine call_of T_rock_bedded_fed e_rock_bedded_fed rfl ?_
  have hf := fun σ => C_feed (σ := σ) h.toMv hi
  have b1 := h.feed i hi
  have b2 := h.bv.deep
  have b3 := mul_n b1.1 b1.2 b2.1 b2.2
  have w1 := w64 (n := feed b m i * b.deep) (by omega)
  simp [-List.length_flatMap, -List.map_take, eF, hf, w1, fed]
/-- A copy of a state, kept in its caller's segment. -/
theorem C_clone {s : List Rock.Blk} {bs : List Abs.Blk} (hl : s.length ≤ 1000000) (hne : s ≠ []) : lim T (.call true i_slices_Clone_rock_State_rock_Block [.lst s.length (s.flatMap Blk.enc)] (bs :: σ)) =
    some (.val (.sl σ.length (bs.length + 1) 1 0 s.length 3) ((bs ++ [.cells 0 [], .cells 1 (s.flatMap Blk.enc)]) :: σ)) := by
  refine call_kp T_slices_Clone_rock_State_rock_Block e_slices_Clone_rock_State_rock_Block rfl ?_
  have h7 : s.length * 24 ≤ room := by unfold room; omega
  simp [-List.length_flatMap, -List.map_take, eF, hne, blk_len, h7]
end Go.Proofs.YtehandllpmlcoaaGreat
