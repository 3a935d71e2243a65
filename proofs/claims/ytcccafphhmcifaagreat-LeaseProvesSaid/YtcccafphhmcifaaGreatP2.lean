/-
  An amount in parts, layer 11: ranks by insertion.
-/
import Derived.Test.YtcccafphhmcifaaGreatP1
set_option linter.unusedVariables false
set_option linter.unusedSimpArgs false
namespace Go.Proofs.YtcccafphhmcifaaGreat
open Go Go.Abs Go.Lease
variable {σ : Stack}

@[simp] def natE (i : Nat) : List D := [.int .i64 (i : Int)]
@[simp] theorem cn {l : List Nat} : D.cleanL (l.flatMap natE) = true := k_clean (fun x => by simp) _
@[simp] def ptE (a W : Int) (w : Int) : List D := [.int .i64 (a * w / W), .int .i64 (a * w % W)]
@[simp] theorem cp {a W : Int} {l : List Int} : D.cleanL (l.flatMap (ptE a W)) = true := k_clean (fun x => by simp) _
theorem nat_at {l : List Nat} {i : Nat} {x : Nat} (hx : l[i]? = some x) : ((l.flatMap natE).drop i).take 1 = [.int .i64 (x : Int)] := by
  have := flat_at (f := natE) (w := 1) (fun _ => rfl) hx
  simpa using this
theorem nat_drop {l : List Nat} {i : Nat} {x : Nat} (hx : l[i]? = some x) : (l.flatMap natE).drop i = .int .i64 (x : Int) :: (l.flatMap natE).drop (i + 1) := by
  have := k_drop (f := natE) (w := 1) (fun _ => rfl) hx
  simpa using this
theorem nat_len (l : List Nat) : (l.flatMap natE).length = l.length := by
  have := flat_len (f := natE) (w := 1) (fun _ => rfl) l
  simpa using this
theorem nat_set {l : List Nat} {i : Nat} {x : Nat} (hi : i < l.length) : (l.flatMap natE).take i ++ .int .i64 (x : Int) :: (l.flatMap natE).drop (i + 1) = (l.set i x).flatMap natE := by
  have := k_set (f := natE) (w := 1) (l := l) (i := i) (x := x) (fun _ => rfl) hi
  simpa using this
theorem pt_at {a W : Int} {l : List Int} {i : Nat} {x : Int} (hx : l[i]? = some x) : ((l.flatMap (ptE a W)).drop (i * 2)).take 2 = [.int .i64 (a * x / W), .int .i64 (a * x % W)] := by
  have := flat_at (f := ptE a W) (w := 2) (fun _ => rfl) hx
  simpa using this
theorem key_at {a W : Int} {ws : List Int} {i : Nat} {x : Int} (hx : ws[i]? = some x) : keyN (splitR a W ws) i = a * x % W := by
  simp [keyN, splitR, hx]
theorem C_Split1 {n r : Int} : lim T (.call false i_lease_Split_1 [.agg [.int .i64 n, .int .i64 r]] σ) = some (.val (.int .i64 r) σ) := by
  refine call_of T_lease_Split_1 e_lease_Split_1 rfl ?_
  simp [-List.length_flatMap, -List.map_take, e_lease_Split_1_r0, e_lease_Split_1_r1]
/-- What compares two of a list. -/
@[simp] def cmpV (a W : Int) (ws : List Int) : D := .fn i_lease_ranked_lease_portion_1 [] [.cref [.fn i_lease_Split_1 [] []], .cref [.lst ws.length (ws.flatMap (ptE a W))]]
theorem C_cmp {a W : Int} {ws : List Int} {x y : Nat} (hx : x < ws.length) (hy : y < ws.length) :
    lim T (.call false i_lease_ranked_lease_portion_1 [.int .i64 x, .int .i64 y, .cref [.fn i_lease_Split_1 [] []], .cref [.lst ws.length (ws.flatMap (ptE a W))]] σ) =
      some (.val (.int .i64 (if keyN (splitR a W ws) y < keyN (splitR a W ws) x then -1 else if keyN (splitR a W ws) x < keyN (splitR a W ws) y then 1 else 0)) σ) := by
  refine call_of T_lease_ranked_lease_portion_1 e_lease_ranked_lease_portion_1 rfl ?_
  obtain ⟨u, hu⟩ : ∃ x', ws[x]? = some x' := ⟨_, List.getElem?_eq_getElem hx⟩
  obtain ⟨v, hv⟩ : ∃ x', ws[y]? = some x' := ⟨_, List.getElem?_eq_getElem hy⟩
  have a1 := pt_at (a := a) (W := W) hu
  have a2 := pt_at (a := a) (W := W) hv
  rw [key_at hu, key_at hv]
  generalize a * u % W = ku at *
  generalize a * v % W = kv at *
  by_cases h1 : kv < ku
  · simp [-List.length_flatMap, -List.map_take, e_lease_ranked_lease_portion_1_r0, e_lease_ranked_lease_portion_1_r1, e_lease_ranked_lease_portion_1_r2, e_lease_ranked_lease_portion_1_r3, e_lease_ranked_lease_portion_1_r4, e_lease_ranked_lease_portion_1_r5, e_lease_ranked_lease_portion_1_r6, hx, hy, a1, a2, C_Split1, h1]
  · by_cases h2 : ku < kv
    · simp [-List.length_flatMap, -List.map_take, e_lease_ranked_lease_portion_1_r0, e_lease_ranked_lease_portion_1_r1, e_lease_ranked_lease_portion_1_r2, e_lease_ranked_lease_portion_1_r3, e_lease_ranked_lease_portion_1_r4, e_lease_ranked_lease_portion_1_r5, e_lease_ranked_lease_portion_1_r6, hx, hy, a1, a2, C_Split1, h1, h2]
    · simp [-List.length_flatMap, -List.map_take, e_lease_ranked_lease_portion_1_r0, e_lease_ranked_lease_portion_1_r1, e_lease_ranked_lease_portion_1_r2, e_lease_ranked_lease_portion_1_r3, e_lease_ranked_lease_portion_1_r4, e_lease_ranked_lease_portion_1_r5, e_lease_ranked_lease_portion_1_r6, hx, hy, a1, a2, C_Split1, h1, h2]
/-- A list with x at place j of another. -/
def midN (l : List Nat) (x j : Nat) (rest : List Nat) : List Nat := l.take j ++ x :: (l.drop j ++ rest)
theorem mid_len {l : List Nat} {x j : Nat} {rest : List Nat} (h : j ≤ l.length) : (midN l x j rest).length = l.length + 1 + rest.length := by simp [midN]; omega
theorem mid_x {l : List Nat} {x j : Nat} {rest : List Nat} (h : j ≤ l.length) : (midN l x j rest)[j]? = some x := by
  have : (l.take j).length = j := by simp; omega
  unfold midN
  rw [List.getElem?_append_right (by omega), this]
  simp
theorem mid_y {l : List Nat} {x j y : Nat} {rest : List Nat} (h : l[j]? = some y) : (midN l x (j + 1) rest)[j]? = some y := by
  have hj : j < l.length := (List.getElem?_eq_some_iff.1 h).1
  unfold midN
  rw [List.getElem?_append_left (by simp; omega), List.getElem?_take_of_lt (by omega), h]
theorem mid_swap {l : List Nat} {x j y : Nat} {rest : List Nat} (h : l[j]? = some y) : ((midN l x (j + 1) rest).set (j + 1) y).set j x = midN l x j rest := by
  have hj : j < l.length := (List.getElem?_eq_some_iff.1 h).1
  have h1 : l.drop j = y :: l.drop (j + 1) := dropS h
  have h2 : l.take (j + 1) = l.take j ++ [y] := by rw [List.take_add_one, h]; rfl
  have h3 : (l.take j).length = j := by simp; omega
  unfold midN
  rw [h1, h2]
  generalize l.take j = A at *
  subst h3
  simp [List.set_append]
theorem L_ins1 {a W : Int} {ws : List Int} {l : List Nat} {x : Nat} {rest : List Nat} (hws : ws.length ≤ 1000) (hx : x < ws.length) (hl : ∀ y ∈ l, y < ws.length) (hn : l.length + 1 + rest.length = ws.length) {A B S : List Blk} {d2 d8 : D} (s2 : d2.calm = d2) (s8 : d8.calm = d8) {v : Nat} : ∀ (j : Nat), j ≤ l.length →
    WL T [0, 1, 2, 3, 8, 9] false f_slices_insertionSortCmpFunc_int_l6 [(0, .sl σ.length 0 v 0 ws.length 1), (1, .int .i64 0), (2, d2), (3, cmpV a W ws), (8, d8), (9, .int .i64 j)] (S :: A :: B :: [.cells v ((midN l x j rest).flatMap natE)] :: σ)
      (fun x' e σ' => x' = .exit 2 ∧ get e 0 = .sl σ.length 0 v 0 ws.length 1 ∧ get e 1 = .int .i64 0 ∧ get e 2 = d2 ∧ get e 3 = cmpV a W ws ∧ get e 8 = d8 ∧ σ' = S :: A :: B :: [.cells v ((insJ (splitR a W ws) l x j ++ rest).flatMap natE)] :: σ)
  | 0, _ => by
    refine WL_step e_slices_insertionSortCmpFunc_int_l6 ?_
    have h1 : midN l x 0 rest = insJ (splitR a W ws) l x 0 ++ rest := by simp [midN, insJ]
    rw [h1]
    simp [-List.length_flatMap, -List.map_take, e_slices_insertionSortCmpFunc_int_r0, e_slices_insertionSortCmpFunc_int_r1, e_slices_insertionSortCmpFunc_int_r2, e_slices_insertionSortCmpFunc_int_r3, e_slices_insertionSortCmpFunc_int_r4, e_slices_insertionSortCmpFunc_int_r5, e_slices_insertionSortCmpFunc_int_r7, s2, s8]
  | j + 1, hj => by
    refine WL_step e_slices_insertionSortCmpFunc_int_l6 ?_
    have hjl : j < l.length := by omega
    obtain ⟨y, hy⟩ : ∃ y, l[j]? = some y := ⟨_, List.getElem?_eq_getElem hjl⟩
    have hyl := hl y (List.mem_of_getElem? hy)
    have g : l.getD j 0 = y := by rw [List.getD_eq_getElem?_getD, hy]; rfl
    have m1 := mid_x (x := x) (rest := rest) hj
    have m2 := mid_y (x := x) (rest := rest) hy
    have m3 := mid_len (x := x) (rest := rest) hj
    have m4 := mid_swap (x := x) (rest := rest) hy
    have c1 := fun σ => C_cmp (σ := σ) (a := a) (W := W) hx hyl
    have ih := L_ins1 (a := a) (W := W) hws hx hl hn (A := A) (B := B) (S := S) s2 s8 (v := v) j (by omega)
    have i1 : j + 1 < ws.length := by omega
    have i2 : j < ws.length := by omega
    have w1 : IntKind.i64.wrap (((j + 1 : Nat) : Int) - 1) = (j : Int) := by rw [show ((j + 1 : Nat) : Int) - 1 = j by omega]; exact w64 (by omega)
    rw [insJ, g]
    by_cases hk : keyN (splitR a W ws) y < keyN (splitR a W ws) x
    · simp only [if_pos hk] at c1
      have n1 := nat_drop m1
      have n2 := nat_drop m2
      have n3 := nat_set (l := midN l x (j + 1) rest) (i := j + 1) (x := y) (by omega)
      have n4 := nat_set (l := (midN l x (j + 1) rest).set (j + 1) y) (i := j) (x := x) (by simp; omega)
      rw [m4] at n4
      have n5 := nat_len (midN l x (j + 1) rest)
      have n6 := nat_len ((midN l x (j + 1) rest).set (j + 1) y)
      rw [List.length_set] at n6
      have k1 : j + 1 + 1 ≤ ws.length := by omega
      have k2 : j + 1 ≤ ws.length := by omega
      have n1' := nat_at m1
      have n2' := nat_at m2
      have p0 : 0 < j + 1 := by omega
      generalize hq : j + 1 = q at *
      have k3 : j + 1 ≤ ws.length := by omega
      have n4' : (((midN l x q rest).set q y).flatMap natE).take j ++ .int .i64 (x : Int) :: (((midN l x q rest).set q y).flatMap natE).drop (j + 1) = (midN l x j rest).flatMap natE := by rw [hq]; exact n4
      clear hq
      simp [-List.length_flatMap, -List.map_take, e_slices_insertionSortCmpFunc_int_r0, e_slices_insertionSortCmpFunc_int_r1, e_slices_insertionSortCmpFunc_int_r2, e_slices_insertionSortCmpFunc_int_r3, e_slices_insertionSortCmpFunc_int_r4, e_slices_insertionSortCmpFunc_int_r5, e_slices_insertionSortCmpFunc_int_r7, s2, s8, i1, i2, w1, n1, n2, n1', n2', n3, n4', n5, n6, c1, m3, hn, k1, k2, k3, p0]
      refine WL.to ih (by simp) rfl fun x e σ hh => ?_
      simpa [hk] using hh
    · simp only [if_neg hk] at c1
      have n1' := nat_at m1
      have n2' := nat_at m2
      have hc : ∀ q : Prop, [Decidable q] → ¬ (if q then (1 : Int) else 0) < 0 := by intro q _; split <;> decide
      have h1 : midN l x (j + 1) rest = l.take (j + 1) ++ x :: l.drop (j + 1) ++ rest := by simp [midN]
      have p0 : 0 < j + 1 := by omega
      generalize j + 1 = q at *
      have n1 := nat_drop m1
      have n2 := nat_drop m2
      generalize hM : midN l x q rest = M at *
      simp [-List.length_flatMap, -List.map_take, e_slices_insertionSortCmpFunc_int_r0, e_slices_insertionSortCmpFunc_int_r1, e_slices_insertionSortCmpFunc_int_r2, e_slices_insertionSortCmpFunc_int_r3, e_slices_insertionSortCmpFunc_int_r4, e_slices_insertionSortCmpFunc_int_r5, e_slices_insertionSortCmpFunc_int_r7, s2, s8, i1, i2, w1, n1, n2, c1, hc, p0, hk]
      rw [← hM]
      simp [midN]
theorem L_ins {a W : Int} {ws : List Int} (hws : ws.length ≤ 1000) {A B S : List Blk} {v : Nat} : ∀ (m i : Nat), i + m = ws.length →
    WL T [0, 1, 2, 3, 8] false f_slices_insertionSortCmpFunc_int_l8 [(0, .sl σ.length 0 v 0 ws.length 1), (1, .int .i64 0), (2, .int .i64 ws.length), (3, cmpV a W ws), (8, .int .i64 i)] (S :: A :: B :: [.cells v ((rankL (splitR a W ws) i ++ List.range' i (ws.length - i)).flatMap natE)] :: σ)
      (fun x' e σ' => x' = .exit 0 ∧ σ' = S :: A :: B :: [.cells v ((rankL (splitR a W ws) ws.length).flatMap natE)] :: σ)
  | 0, i, hi => by
    refine WL_step e_slices_insertionSortCmpFunc_int_l8 ?_
    have h1 : ¬ i < ws.length := by omega
    have h2 : rankL (splitR a W ws) i ++ List.range' i (ws.length - i) = rankL (splitR a W ws) ws.length := by
      rw [show i = ws.length by omega]; simp
    rw [h2]
    simp [-List.length_flatMap, -List.map_take, e_slices_insertionSortCmpFunc_int_r0, e_slices_insertionSortCmpFunc_int_r1, e_slices_insertionSortCmpFunc_int_r2, e_slices_insertionSortCmpFunc_int_r3, e_slices_insertionSortCmpFunc_int_r4, e_slices_insertionSortCmpFunc_int_r5, e_slices_insertionSortCmpFunc_int_r7, h1]
  | m + 1, i, hi => by
    refine WL_step e_slices_insertionSortCmpFunc_int_l8 ?_
    have h1 : i < ws.length := by omega
    have hl := rankL_len (splitR a W ws) i
    have hm : rankL (splitR a W ws) i ++ List.range' i (ws.length - i) = midN (rankL (splitR a W ws) i) i i (List.range' (i + 1) m) := by
      rw [show ws.length - i = m + 1 by omega, List.range'_succ]
      unfold midN
      rw [List.take_of_length_le (by omega), List.drop_eq_nil_of_le (by omega)]
      rfl
    have w1 := wnext h1 (by omega)
    have ih := L_ins (a := a) (W := W) hws (A := A) (B := B) (S := S) (v := v) m (i + 1) (by omega)
    rw [hm]
    simp [-List.length_flatMap, -List.map_take, e_slices_insertionSortCmpFunc_int_r0, e_slices_insertionSortCmpFunc_int_r1, e_slices_insertionSortCmpFunc_int_r2, e_slices_insertionSortCmpFunc_int_r3, e_slices_insertionSortCmpFunc_int_r4, e_slices_insertionSortCmpFunc_int_r5, e_slices_insertionSortCmpFunc_int_r7, h1]
    refine WL.to (L_ins1 (σ := σ) (a := a) (W := W) (ws := ws) (l := rankL (splitR a W ws) i) (x := i) (rest := List.range' (i + 1) m) hws h1 (fun y hy => by have := rankL_lt hy; omega) (by simp [hl]; omega) (A := A) (B := B) (S := S) (d2 := .int .i64 ws.length) (d8 := .int .i64 i) rfl rfl (v := v) i (by omega)) (by simp) rfl ?_
    rintro x' e σ' ⟨rfl, g0, g1, g2, g3, g8, rfl⟩
    have hr : insJ (splitR a W ws) (rankL (splitR a W ws) i) i i = rankL (splitR a W ws) (i + 1) := rfl
    have hmm : m = ws.length - (i + 1) := by omega
    rw [hr]
    simp [-List.length_flatMap, -List.map_take, e_slices_insertionSortCmpFunc_int_r7, g0, g1, g2, g3, g8, w1]
    exact WL.to ih (by simp) (by rw [hmm]; simp) fun x e σ hh => hh
/-- From the second on. -/
theorem ins_first {ks : List Int} {n : Nat} (h : 0 < n) : List.range n = rankL ks 1 ++ List.range' 1 (n - 1) := by
  have : rankL ks 1 = [0] := rfl
  rw [this, List.range_eq_range', show n = n - 1 + 1 by omega, List.range'_succ]
  simp
theorem C_ins {a W : Int} {ws : List Int} (h0 : 0 < ws.length) (hws : ws.length ≤ 1000) {A B : List Blk} {v : Nat} :
    lim T (.call false i_slices_insertionSortCmpFunc_int [.sl σ.length 0 v 0 ws.length 1, .int .i64 0, .int .i64 ws.length, cmpV a W ws] (A :: B :: [.cells v ((List.range ws.length).flatMap natE)] :: σ)) =
      some (.val (.tup []) (A :: B :: [.cells v ((rankL (splitR a W ws) ws.length).flatMap natE)] :: σ)) := by
  refine call_to T_slices_insertionSortCmpFunc_int e_slices_insertionSortCmpFunc_int rfl (by simp) ?_
  rw [ins_first (ks := splitR a W ws) h0]
  simp [-List.length_flatMap, -List.map_take, e_slices_insertionSortCmpFunc_int_r0, e_slices_insertionSortCmpFunc_int_r1, e_slices_insertionSortCmpFunc_int_r2, e_slices_insertionSortCmpFunc_int_r3, e_slices_insertionSortCmpFunc_int_r4, e_slices_insertionSortCmpFunc_int_r5, e_slices_insertionSortCmpFunc_int_r7]
  refine WL.to (L_ins (σ := σ) (a := a) (W := W) hws (A := A) (B := B) (S := []) (v := v) (ws.length - 1) 1 (by omega)) (by simp) (by simp) ?_
  rintro x' e σ' ⟨rfl, rfl⟩
  simp
theorem C_stable {a W : Int} {ws : List Int} (h0 : 0 < ws.length) (hws : ws.length ≤ 12) {A : List Blk} {v : Nat} :
    lim T (.call false i_slices_stableCmpFunc_int [.sl σ.length 0 v 0 ws.length 1, .int .i64 ws.length, cmpV a W ws] (A :: [.cells v ((List.range ws.length).flatMap natE)] :: σ)) =
      some (.val (.tup []) (A :: [.cells v ((rankL (splitR a W ws) ws.length).flatMap natE)] :: σ)) := by
  refine call_to T_slices_stableCmpFunc_int e_slices_stableCmpFunc_int rfl (by simp) ?_
  have h1 : ¬ (20 : Int) ≤ ws.length := by omega
  have h2 : ¬ (20 : Int) < ws.length := by omega
  have hI := fun (A B : List Blk) => C_ins (σ := σ) (a := a) (W := W) h0 (by omega) (A := A) (B := B) (v := v)
  simp only [cmpV] at hI
  simp [-List.length_flatMap, -List.map_take, e_slices_stableCmpFunc_int_r0, e_slices_stableCmpFunc_int_r1, e_slices_stableCmpFunc_int_r2, e_slices_stableCmpFunc_int_r3, e_slices_stableCmpFunc_int_r4, e_slices_stableCmpFunc_int_r5, e_slices_stableCmpFunc_int_r7, e_slices_stableCmpFunc_int_r8, e_slices_stableCmpFunc_int_r9, e_slices_stableCmpFunc_int_r10, e_slices_stableCmpFunc_int_r11, e_slices_stableCmpFunc_int_r12, e_slices_stableCmpFunc_int_r13, e_slices_stableCmpFunc_int_r15, e_slices_stableCmpFunc_int_r16, e_slices_stableCmpFunc_int_r17, e_slices_stableCmpFunc_int_r18]
  refine WL_step e_slices_stableCmpFunc_int_l6 ?_
  simp [-List.length_flatMap, -List.map_take, e_slices_stableCmpFunc_int_r0, e_slices_stableCmpFunc_int_r1, e_slices_stableCmpFunc_int_r2, e_slices_stableCmpFunc_int_r3, e_slices_stableCmpFunc_int_r4, e_slices_stableCmpFunc_int_r5, e_slices_stableCmpFunc_int_r7, e_slices_stableCmpFunc_int_r8, e_slices_stableCmpFunc_int_r9, e_slices_stableCmpFunc_int_r10, e_slices_stableCmpFunc_int_r11, e_slices_stableCmpFunc_int_r12, e_slices_stableCmpFunc_int_r13, e_slices_stableCmpFunc_int_r15, e_slices_stableCmpFunc_int_r16, e_slices_stableCmpFunc_int_r17, e_slices_stableCmpFunc_int_r18, h1, hI]
  refine WL_step e_slices_stableCmpFunc_int_l19 ?_
  simp [-List.length_flatMap, -List.map_take, e_slices_stableCmpFunc_int_r0, e_slices_stableCmpFunc_int_r1, e_slices_stableCmpFunc_int_r2, e_slices_stableCmpFunc_int_r3, e_slices_stableCmpFunc_int_r4, e_slices_stableCmpFunc_int_r5, e_slices_stableCmpFunc_int_r7, e_slices_stableCmpFunc_int_r8, e_slices_stableCmpFunc_int_r9, e_slices_stableCmpFunc_int_r10, e_slices_stableCmpFunc_int_r11, e_slices_stableCmpFunc_int_r12, e_slices_stableCmpFunc_int_r13, e_slices_stableCmpFunc_int_r15, e_slices_stableCmpFunc_int_r16, e_slices_stableCmpFunc_int_r17, e_slices_stableCmpFunc_int_r18, h2]
theorem C_sortS {a W : Int} {ws : List Int} (h0 : 0 < ws.length) (hws : ws.length ≤ 12) {v : Nat} :
    lim T (.call false i_slices_SortStableFunc_int [.sl σ.length 0 v 0 ws.length 1, cmpV a W ws] ([.cells v ((List.range ws.length).flatMap natE)] :: σ)) =
      some (.val (.tup []) ([.cells v ((rankL (splitR a W ws) ws.length).flatMap natE)] :: σ)) := by
  refine call_to T_slices_SortStableFunc_int e_slices_SortStableFunc_int rfl (by simp) ?_
  have hI := fun (A : List Blk) => C_stable (σ := σ) (a := a) (W := W) h0 hws (A := A) (v := v)
  simp only [cmpV] at hI
  simp [-List.length_flatMap, -List.map_take, e_slices_SortStableFunc_int_r0, hI]
theorem L_ranked {n : Nat} (hn : n ≤ 1000) {d2 d3 : D} (s2 : d2.calm = d2) (s3 : d3.calm = d3) : ∀ (m i v : Nat), i + m = n →
    WL T [2, 3, 5, 8, 9] false f_lease_ranked_lease_portion_l7 [(2, d2), (3, d3), (5, .sl σ.length 0 v 0 i 1), (8, .int .i64 n), (9, .int .i64 i)] ([.cells v ((List.range i).flatMap natE)] :: σ)
      (fun x e σ' => x = .exit 0 ∧ get e 2 = d2 ∧ get e 3 = d3 ∧ get e 5 = .sl σ.length 0 (v + m) 0 n 1 ∧ σ' = [.cells (v + m) ((List.range n).flatMap natE)] :: σ)
  | 0, i, v, hi => by
    refine WL_step e_lease_ranked_lease_portion_l7 ?_
    have h1 : i = n := by omega
    subst h1
    simp [-List.length_flatMap, -List.map_take, e_lease_ranked_lease_portion_r0, e_lease_ranked_lease_portion_r1, e_lease_ranked_lease_portion_r2, e_lease_ranked_lease_portion_r3, e_lease_ranked_lease_portion_r4, e_lease_ranked_lease_portion_r5, e_lease_ranked_lease_portion_r6, e_lease_ranked_lease_portion_r8, e_lease_ranked_lease_portion_r9, s2, s3]
  | m + 1, i, v, hi => by
    refine WL_step e_lease_ranked_lease_portion_l7 ?_
    have h1 : i < n := by omega
    have w1 := wnext h1 (by omega)
    have f1 := nat_len (List.range i)
    rw [List.length_range] at f1
    have f2 : ((List.range i).flatMap natE).take i = (List.range i).flatMap natE := List.take_of_length_le (by omega)
    have f3 : (i + 1) * 8 ≤ room := by unfold room; omega
    have f4 : (List.range (i + 1)).flatMap natE = (List.range i).flatMap natE ++ [.int .i64 (i : Int)] := by rw [List.range_succ, List.flatMap_append]; rfl
    have ih := L_ranked hn s2 s3 m (i + 1) (v + 1) (by omega)
    simp [-List.length_flatMap, -List.map_take, e_lease_ranked_lease_portion_r0, e_lease_ranked_lease_portion_r1, e_lease_ranked_lease_portion_r2, e_lease_ranked_lease_portion_r3, e_lease_ranked_lease_portion_r4, e_lease_ranked_lease_portion_r5, e_lease_ranked_lease_portion_r6, e_lease_ranked_lease_portion_r8, e_lease_ranked_lease_portion_r9, s2, s3, h1, w1, f1, f2, f3]
    exact WL.to ih (by simp) (by simp [f4]) fun x e σ hh => by simpa [Nat.add_assoc, Nat.add_comm 1 m] using hh
theorem C_ranked {a W : Int} {ws : List Int} (h0 : 0 < ws.length) (hws : ws.length ≤ 12) (hσ : σ ≠ []) :
    lim T (.call false i_lease_ranked_lease_portion [.lst ws.length (ws.flatMap (ptE a W)), .fn i_lease_Split_1 [] []] σ) = some (.val (.lst ws.length ((rankL (splitR a W ws) ws.length).flatMap natE)) σ) := by
  refine call_of T_lease_ranked_lease_portion e_lease_ranked_lease_portion rfl ?_
  simp [-List.length_flatMap, -List.map_take, e_lease_ranked_lease_portion_r0, e_lease_ranked_lease_portion_r1, e_lease_ranked_lease_portion_r2, e_lease_ranked_lease_portion_r3, e_lease_ranked_lease_portion_r4, e_lease_ranked_lease_portion_r5, e_lease_ranked_lease_portion_r6, e_lease_ranked_lease_portion_r8, e_lease_ranked_lease_portion_r9]
  refine WL.to (L_ranked (σ := σ) (n := ws.length) (by omega) (d2 := .cref [.lst ws.length (ws.flatMap (ptE a W))]) (d3 := .cref [.fn i_lease_Split_1 [] []]) rfl rfl ws.length 0 0 (by omega)) (by simp) (by simp) ?_
  rintro x e σ' ⟨rfl, g2, g3, g5, rfl⟩
  have hS := C_sortS (σ := σ) (a := a) (W := W) h0 hws (v := 0 + ws.length)
  simp only [cmpV, Nat.zero_add] at hS
  simp only [Nat.zero_add] at g5
  simp [-List.length_flatMap, -List.map_take, e_lease_ranked_lease_portion_r8, e_lease_ranked_lease_portion_r9, g2, g3, g5, hS]
  have := out_at (σ := σ) (n := 16) (f := natE) (w := 1) (by decide) (fun _ => rfl) (fun x => by simp) (l := rankL (splitR a W ws) ws.length) (j := 0) (v := ws.length) (bs := [.cells ws.length ((rankL (splitR a W ws) ws.length).flatMap natE)]) hσ rfl
  rw [rankL_len] at this
  simp [this]
end Go.Proofs.YtcccafphhmcifaaGreat
