/-
  Pulses in a row of blocks: plain Lean.
-/
import Derived.Test.YtehandllpmlcoaaSlopePlain
set_option linter.unusedVariables false
set_option linter.unusedSimpArgs false
namespace Go.Rock
open Go Go.Abs

theorem blkAt_set {s : List Blk} {i j : Nat} {x : Blk} : blkAt (s.set i x) j = if j = i ∧ i < s.length then x else blkAt s j := by
  unfold blkAt
  rw [List.getElem?_set]
  by_cases h : i = j
  · subst h
    by_cases h2 : i < s.length
    · simp [h2]
    · simp [h2]
  · rw [if_neg h, if_neg (fun hh => h hh.1.symm)]
theorem blkAt_move {s : List Blk} {i j : Nat} {o : Blk} {sg : Int} (hi : i < s.length) : blkAt (moveAt s i o sg) j = if j = i then (blkAt s i).move o sg else blkAt s j := by
  unfold moveAt
  rw [blkAt_set]
  by_cases h : j = i
  · rw [if_pos ⟨h, hi⟩, if_pos h]
  · rw [if_neg (fun hh => h hh.1), if_neg h]
theorem moveAt_len {s : List Blk} {i : Nat} {o : Blk} {sg : Int} : (moveAt s i o sg).length = s.length := by simp [moveAt]
theorem moveAt_zero {s : List Blk} {i : Nat} {sg : Int} : moveAt s i ⟨0, 0, 0⟩ sg = s := by
  have h : (blkAt s i).move ⟨0, 0, 0⟩ sg = blkAt s i := by simp [Blk.move]
  unfold moveAt
  rw [h]
  by_cases hi : i < s.length
  · apply List.ext_getElem?
    intro j
    rw [List.getElem?_set]
    by_cases hj : i = j
    · subst hj; simp [hi, blkAt]
    · simp [hj]
  · exact List.set_eq_of_length_le (by omega)

/-! ### The bed, its model -/
def opnOf (o : Int) : Int := if 0 < o.tmod 3 then 200 + 3 * o else 0
def rowB (n : Nat) : Bed := ⟨⟨n, 1, 1, 4⟩, three, 10000, 0, 0, (List.range n).map fun i : Nat => ⟨(i : Int), 0, 0⟩⟩
def rowM (os : List Int) : Mdl := ⟨[109], List.replicate os.length 2000 ++ (os.map opnOf ++ (List.replicate os.length 0 ++ List.replicate os.length 0))⟩
theorem row_n {n : Nat} : (rowB n).n = n := by simp [Bed.n, Bed.size, Fld.size, rowB]
theorem row_hold {os : List Int} {i : Nat} (hi : i < os.length) : hold (rowB os.length) (rowM os) i = 2000 := by
  simp only [hold, kindAt, row_n, rowM]
  rw [List.getElem?_append_left (by simp; omega), List.getElem?_replicate, if_pos (by omega)]
  rfl
theorem row_open {os : List Int} {i : Nat} (hi : i < os.length) : opn (rowB os.length) (rowM os) i = opnOf ((os[i]?).getD 0) := by
  simp only [opn, kindAt, row_n, rowM]
  rw [List.getElem?_append_right (by simp), List.getElem?_append_left (by simp; omega)]
  simp [hi]
theorem row_feed {os : List Int} {i : Nat} (hi : i < os.length) : feed (rowB os.length) (rowM os) i = 0 := by
  simp only [feed, kindAt, row_n, rowM]
  rw [List.getElem?_append_right (by simp; omega), List.getElem?_append_right (by simp; omega), List.getElem?_append_right (by simp; omega), List.getElem?_replicate, if_pos (by simp; omega)]
  rfl
theorem row_warm {os : List Int} {i : Nat} (hi : i < os.length) : warm (rowB os.length) (rowM os) i = 0 := by
  simp only [warm, kindAt, row_n, rowM]
  rw [List.getElem?_append_right (by simp; omega), List.getElem?_append_right (by simp; omega), List.getElem?_append_left (by simp; omega), List.getElem?_replicate, if_pos (by simp; omega)]
  rfl
theorem opnOf_b {o : Int} (h : 0 ≤ o ∧ o ≤ 255) : 0 ≤ opnOf o ∧ opnOf o ≤ 1000 := by
  unfold opnOf; split <;> omega
theorem row_bd {os : List Int} (hn : 1 ≤ os.length ∧ os.length ≤ 8) (h : ∀ o ∈ os, 0 ≤ o ∧ o ≤ 255) : Bd (rowB os.length) (rowM os) = true := by
  have h4 : named [109] = true := by decide
  have hv : (rowB os.length).valid = true := by
    generalize os.length = n at hn
    obtain rfl | rfl | rfl | rfl | rfl | rfl | rfl | rfl : n = 1 ∨ n = 2 ∨ n = 3 ∨ n = 4 ∨ n = 5 ∨ n = 6 ∨ n = 7 ∨ n = 8 := by omega
    all_goals decide
  have hf : (rowB os.length).f.valid = true := by
    simp only [Bed.valid, Bed.ok1, Bool.and_eq_true] at hv
    exact hv.1.1
  have hsz : (rowB os.length).f.size = (os.length : Int) := by simp [Fld.size, rowB]
  have hvl : ((rowM os).vals.length : Int) = (rowB os.length).f.k * (rowB os.length).f.size := by
    rw [hsz]; simp [rowM, rowB]; omega
  have hin : ∀ x ∈ (rowM os).vals, 0 ≤ x ∧ x ≤ 2000 := by
    intro x hx
    simp only [rowM, List.mem_append, List.mem_replicate, List.mem_map] at hx
    rcases hx with ⟨_, rfl⟩ | ⟨o, ho, rfl⟩ | ⟨_, rfl⟩ | ⟨_, rfl⟩
    · omega
    · have := opnOf_b (h o ho); omega
    · omega
    · omega
  have hall : allB (rowM os).vals (fun n => inn n (-100000) 100000) = true := allB_iff.2 fun x hx => inn_iff.2 (by have := hin x hx; omega)
  have hk : ∀ k, kindL (rowB os.length) (rowM os) k = ((rowM os).vals.drop (k * os.length)).take os.length := fun k => by simp only [kindL, row_n]
  have k0 : kindL (rowB os.length) (rowM os) 0 = List.replicate os.length 2000 := by
    rw [hk]; simp [rowM]
  have k1 : kindL (rowB os.length) (rowM os) 1 = os.map opnOf := by
    rw [hk]; simp only [rowM, Nat.one_mul]
    rw [List.drop_left' (by simp), List.take_left' (by simp)]
  have k2 : kindL (rowB os.length) (rowM os) 2 = List.replicate os.length 0 := by
    rw [hk]; simp only [rowM]
    rw [show 2 * os.length = os.length + os.length by omega, ← List.drop_drop, List.drop_left' (by simp), List.drop_left' (by simp), List.take_left' (by simp)]
  have k3 : kindL (rowB os.length) (rowM os) 3 = List.replicate os.length 0 := by
    rw [hk]; simp only [rowM]
    rw [show 3 * os.length = os.length + (os.length + os.length) by omega, ← List.drop_drop, List.drop_left' (by simp), ← List.drop_drop, List.drop_left' (by simp), List.drop_left' (by simp)]
    exact List.take_of_length_le (by simp)
  have hc : checkModels (rowB os.length).f [rowM os] = 0 := by
    simp only [checkModels, hf, if_true, Fld.models]
    rw [if_pos (by simp [inn])]
    simp only [Fld.each]
    have : (rowB os.length).f.model (rowM os) = 0 := by
      unfold Fld.model
      rw [if_pos (show named (rowM os).name = true from h4), if_pos ⟨hvl, hall⟩]
    rw [if_pos this]
    simp
  simp only [Bd, hv, fits, hc, k0, k1, k2, k3, Bool.true_and, decide_true, Bool.and_eq_true, allB_iff, inn_iff]
  refine ⟨?_, ?_, ?_, ?_⟩
  · intro x hx; have := (List.mem_replicate.1 hx).2; omega
  · intro x hx
    obtain ⟨o, ho, rfl⟩ := List.mem_map.1 hx
    exact opnOf_b (h o ho)
  · intro x hx; have := (List.mem_replicate.1 hx).2; omega
  · intro x hx; have := (List.mem_replicate.1 hx).2; omega

/-! ### A step -/
theorem row_links {n : Nat} {l : Nat × Nat} (hl : l ∈ links (rowB n)) : l.2 = l.1 + 1 ∧ l.2 < n := by
  obtain ⟨i, hi, hh⟩ := List.mem_flatMap.1 hl
  rw [row_n] at hi
  have hi' : i < n := by simpa using hi
  have hx : (rowB n).f.x.toNat = n := by simp [rowB]
  have hy : (rowB n).f.y.toNat = 1 := rfl
  unfold linksAt at hh
  rw [hx, hy, row_n] at hh
  simp only [List.mem_append] at hh
  rcases hh with hh | hh | hh
  · split at hh
    · rename_i hc
      simp at hh; subst hh
      refine ⟨rfl, ?_⟩
      rcases Nat.lt_or_ge (i + 1) n with h | h
      · exact h
      · have : i + 1 = n := by omega
        rw [this, Nat.mod_self] at hc; exact absurd rfl hc
    · cases hh
  · rw [Nat.mod_one] at hh; simp at hh
  · split at hh
    · rename_i hc; omega
    · cases hh
theorem row_links_len {n : Nat} (hn : n ≤ 8) : (links (rowB n)).length ≤ 7 := by
  have hx : (rowB n).f.x.toNat = n := by simp [rowB]
  have hy : (rowB n).f.y.toNat = 1 := rfl
  unfold links
  rw [row_n]
  cases n with
  | zero => simp
  | succ k =>
    have h1 : linksAt (rowB (k + 1)) k = [] := by
      unfold linksAt
      rw [hx, hy, row_n, Nat.mod_self, Nat.mod_one]
      simp
    have h2 : ∀ i, i < k → (linksAt (rowB (k + 1)) i).length ≤ 1 := by
      intro i hi
      unfold linksAt
      rw [hx, hy, row_n, Nat.mod_one]
      have : ¬ i + (k + 1) * 1 < k + 1 := by omega
      rw [if_neg this]
      split <;> simp
    have h3 : ∀ j, j ≤ k → ((List.range j).flatMap (linksAt (rowB (k + 1)))).length ≤ j := by
      intro j
      induction j with
      | zero => simp
      | succ j ih =>
        intro hj
        rw [List.range_succ, List.flatMap_append, List.length_append]
        have := ih (by omega)
        have := h2 j (by omega)
        simp only [List.flatMap_cons, List.flatMap_nil, List.append_nil]
        omega
    rw [List.range_succ, List.flatMap_append, List.length_append]
    simp only [List.flatMap_cons, List.flatMap_nil, List.append_nil, h1, List.length_nil]
    have := h3 k (Nat.le_refl _)
    omega
/-- A state without heat, whose blocks out of a part hold what they held. -/
structure Cold (n : Nat) (P : Nat → Int) (c M : Int) (s : List Blk) : Prop where
  len : s.length = n
  at_ : ∀ i, i < n → (blkAt s i).h = 0 ∧ (blkAt s i).k = 0 ∧ 1 ≤ (blkAt s i).m ∧ (blkAt s i).m ≤ M ∧ (P i ≠ c → (blkAt s i).m = 2000)
theorem cold_press {os : List Int} {P : Nat → Int} {c M : Int} {s : List Blk} (h : Cold os.length P c M s) {i : Nat} (hi : i < os.length) :
    pressure (rowB os.length) (rowM os) s i = max 0 (5 * ((blkAt s i).m - 2000)) := by
  obtain ⟨h1, h2, h3, h4, h5⟩ := h.at_ i hi
  have e1 : down (10000 * ((blkAt s i).m - 2000)) 2000 = 5 * ((blkAt s i).m - 2000) := by
    unfold down; omega
  have e5 : weight (rowB os.length) i = 0 := by
    unfold weight
    have : (rowB os.length).lift = 0 := rfl
    rw [this, Int.mul_zero]
  simp only [pressure, row_hold hi, e5]
  have hs : (rowB os.length).stiff = 10000 := rfl
  rw [hs, e1, Int.zero_add]
  have ht : (rowB os.length).tab = three := rfl
  rw [ht]
  have f2 : ¬ 419 * (blkAt s i).m ≤ 0 := by omega
  have f3 : ¬ 632 * (blkAt s i).m ≤ 0 := by omega
  have f4 : ¬ 852 * (blkAt s i).m ≤ 0 := by omega
  simp [three, pressStep, h1, f2, f3, f4]
/-- What an entry of the flows is. -/
structure Fe (n : Nat) (P : Nat → Int) (c : Int) (s : List Blk) (e : (Nat × Nat) × Blk) : Prop where
  a : e.1.1 < n
  b : e.1.2 < n
  pa : P e.1.1 = c
  pb : P e.1.2 = c
  h : e.2.h = 0
  k : e.2.k = 0
  lo : 0 ≤ e.2.m
  hi : e.2.m ≤ (blkAt s e.1.1).m / 8
theorem cold_at {os : List Int} {P : Nat → Int} {c M : Int} {s : List Blk} (h : Cold os.length P c M s)
    (hP : ∀ i, i + 1 < os.length → 0 < opnOf ((os[i]?).getD 0) → 0 < opnOf ((os[i + 1]?).getD 0) → P i = P (i + 1)) (hos : ∀ o ∈ os, 0 ≤ o ∧ o ≤ 255)
    {l : Nat × Nat} (hl : l ∈ links (rowB os.length)) {e : (Nat × Nat) × Blk} (he : flowAt (rowB os.length) (rowM os) s (pressures (rowB os.length) (rowM os) s) l = some e) : Fe os.length P c s e := by
  obtain ⟨l1, l2⟩ := row_links hl
  obtain ⟨i, j⟩ := l
  simp only at l1 l2
  subst l1
  have hi : i < os.length := by omega
  have e5 : ∀ i, weight (rowB os.length) i = 0 := fun i => by
    unfold weight
    have : (rowB os.length).lift = 0 := rfl
    rw [this, Int.mul_zero]
  have p1 : (pressures (rowB os.length) (rowM os) s)[i]? = some (max 0 (5 * ((blkAt s i).m - 2000))) := by
    simp only [pressures, h.len]; simp [hi]; rw [cold_press h hi]
  have p2 : (pressures (rowB os.length) (rowM os) s)[i + 1]? = some (max 0 (5 * ((blkAt s (i + 1)).m - 2000))) := by
    simp only [pressures, h.len]; simp [l2]; rw [cold_press h l2]
  obtain ⟨a1, a2, a3, a4, a5⟩ := h.at_ i hi
  obtain ⟨b1, b2, b3, b4, b5⟩ := h.at_ (i + 1) l2
  have o1 : 0 ≤ opnOf ((os[i]?).getD 0) := (opnOf_b (hos _ (by simp [hi]))).1
  have o2 : 0 ≤ opnOf ((os[i + 1]?).getD 0) := (opnOf_b (hos _ (by simp [l2]))).1
  unfold flowAt at he
  simp only [p1, p2, Option.getD_some, e5, Int.sub_zero, Int.add_zero] at he
  -- what goes, goes where both are open and one is of the part
  have key : ∀ (u v : Nat) (d : Int), (u = i ∧ v = i + 1 ∨ u = i + 1 ∧ v = i) → 0 ≤ d → (d ≠ 0 → (blkAt s i).m ≠ 2000 ∨ (blkAt s (i + 1)).m ≠ 2000) →
      (if 0 < min ((min (opn (rowB os.length) (rowM os) u) (opn (rowB os.length) (rowM os) v) * d).tdiv 1000) ((blkAt s u).m.tdiv 8) then some ((u, v), (blkAt s u).out (min ((min (opn (rowB os.length) (rowM os) u) (opn (rowB os.length) (rowM os) v) * d).tdiv 1000) ((blkAt s u).m.tdiv 8))) else none) = some e →
      Fe os.length P c s e := by
    intro u v d huv hd hd2 he
    have hu : u < os.length := by omega
    have hv : v < os.length := by omega
    have hum : 1 ≤ (blkAt s u).m ∧ (blkAt s u).h = 0 ∧ (blkAt s u).k = 0 := by
      obtain ⟨x1, x2, x3, _⟩ := h.at_ u hu; exact ⟨x3, x1, x2⟩
    have t8 : (blkAt s u).m.tdiv 8 = (blkAt s u).m / 8 := Int.tdiv_eq_ediv_of_nonneg (by omega)
    rw [row_open hu, row_open hv, t8] at he
    split at he
    · rename_i hq
      simp only [Option.some.injEq] at he
      have hpos : 0 < opnOf ((os[u]?).getD 0) ∧ 0 < opnOf ((os[v]?).getD 0) ∧ d ≠ 0 := by
        have hx : 0 < (min (opnOf ((os[u]?).getD 0)) (opnOf ((os[v]?).getD 0)) * d).tdiv 1000 := by omega
        have hu0 : 0 ≤ opnOf ((os[u]?).getD 0) := by rcases huv with ⟨rfl, rfl⟩ | ⟨rfl, rfl⟩ <;> assumption
        have hv0 : 0 ≤ opnOf ((os[v]?).getD 0) := by rcases huv with ⟨rfl, rfl⟩ | ⟨rfl, rfl⟩ <;> assumption
        refine ⟨?_, ?_, ?_⟩
        · rcases Int.lt_or_eq_of_le hu0 with hh | hh
          · exact hh
          · rw [← hh] at hx
            have : min 0 (opnOf ((os[v]?).getD 0)) = 0 := by omega
            rw [this, Int.zero_mul] at hx; simp at hx
        · rcases Int.lt_or_eq_of_le hv0 with hh | hh
          · exact hh
          · rw [← hh] at hx
            have : min (opnOf ((os[u]?).getD 0)) 0 = 0 := by omega
            rw [this, Int.zero_mul] at hx; simp at hx
        · rintro rfl
          rw [Int.mul_zero] at hx; simp at hx
      have hPP : P i = P (i + 1) := hP i l2 (by rcases huv with ⟨rfl, rfl⟩ | ⟨rfl, rfl⟩ <;> first | exact hpos.1 | exact hpos.2.1) (by rcases huv with ⟨rfl, rfl⟩ | ⟨rfl, rfl⟩ <;> first | exact hpos.2.1 | exact hpos.1)
      have hc : P i = c := by
        rcases Classical.em (P i = c) with hh | hh
        · exact hh
        · have := a5 hh
          have := b5 (by rw [← hPP]; exact hh)
          rcases hd2 hpos.2.2 with h9 | h9 <;> contradiction
      subst he
      have hPu : P u = c := by rcases huv with ⟨rfl, rfl⟩ | ⟨rfl, rfl⟩ <;> first | exact hc | (rw [← hPP]; exact hc)
      have hPv : P v = c := by rcases huv with ⟨rfl, rfl⟩ | ⟨rfl, rfl⟩ <;> first | exact hc | (rw [← hPP]; exact hc)
      refine ⟨hu, hv, hPu, hPv, ?_, ?_, ?_, ?_⟩
      · simp [Blk.out, hum.2.1]
      · simp [Blk.out, hum.2.2]
      · simp only [Blk.out]; omega
      · simp only [Blk.out]; omega
    · cases he
  split at he
  · rename_i hlt
    simp only [hlt, if_true] at he
    exact key (i + 1) i _ (.inr ⟨rfl, rfl⟩) (by omega) (by omega) he
  · rename_i hlt
    simp only [hlt, if_false] at he
    exact key i (i + 1) _ (.inl ⟨rfl, rfl⟩) (by omega) (by omega) he
theorem cold_flows {os : List Int} {P : Nat → Int} {c M : Int} {s : List Blk} (h : Cold os.length P c M s)
    (hP : ∀ i, i + 1 < os.length → 0 < opnOf ((os[i]?).getD 0) → 0 < opnOf ((os[i + 1]?).getD 0) → P i = P (i + 1)) (hos : ∀ o ∈ os, 0 ≤ o ∧ o ≤ 255) (hn : os.length ≤ 8) :
    (∀ e ∈ flows (rowB os.length) (rowM os) s, Fe os.length P c s e) ∧ (flows (rowB os.length) (rowM os) s).length ≤ 7 := by
  have key : ∀ (ls : List (Nat × Nat)) (es : List ((Nat × Nat) × Blk)), (∀ l ∈ ls, l ∈ links (rowB os.length)) → (∀ e ∈ es, Fe os.length P c s e) →
      (∀ e ∈ ls.foldl (flowStep (rowB os.length) (rowM os) s (pressures (rowB os.length) (rowM os) s)) es, Fe os.length P c s e) ∧ (ls.foldl (flowStep (rowB os.length) (rowM os) s (pressures (rowB os.length) (rowM os) s)) es).length ≤ es.length + ls.length := by
    intro ls
    induction ls with
    | nil => intro es _ h; exact ⟨h, by simp⟩
    | cons l ls ih =>
      intro es hl he
      simp only [List.foldl_cons]
      have h1 : (∀ e ∈ flowStep (rowB os.length) (rowM os) s (pressures (rowB os.length) (rowM os) s) es l, Fe os.length P c s e) ∧ (flowStep (rowB os.length) (rowM os) s (pressures (rowB os.length) (rowM os) s) es l).length ≤ es.length + 1 := by
        unfold flowStep
        split
        · rename_i e hfe
          have hF := cold_at h hP hos (hl l (by simp)) hfe
          unfold putL
          split
          · refine ⟨fun e' he' => ?_, by simp⟩
            rcases List.mem_or_eq_of_mem_set he' with he' | rfl
            · exact he e' he'
            · exact hF
          · refine ⟨fun e' he' => ?_, by simp⟩
            rcases List.mem_append.1 he' with he' | he'
            · exact he e' he'
            · simp at he'; subst he'; exact hF
        · exact ⟨he, by omega⟩
      obtain ⟨h2, h3⟩ := ih _ (fun l hh => hl l (by simp [hh])) h1.1
      exact ⟨h2, by simp only [List.length_cons]; omega⟩
  obtain ⟨h1, h2⟩ := key (links (rowB os.length)) [] (fun l hl => hl) (by simp)
  have := row_links_len hn
  exact ⟨h1, by simp only [List.length_nil] at h2; unfold flows; omega⟩
/-- What moves of flows leave of a state. -/
structure Mov (n : Nat) (P : Nat → Int) (c M : Int) (s : List Blk) (j : Nat) (s' : List Blk) : Prop where
  len : s'.length = n
  at_ : ∀ i, i < n → (blkAt s' i).h = 0 ∧ (blkAt s' i).k = 0 ∧ (blkAt s i).m - j * ((blkAt s i).m / 8) ≤ (blkAt s' i).m ∧ (blkAt s' i).m ≤ (blkAt s i).m + j * (M / 8) ∧ (P i ≠ c → (blkAt s' i).m = (blkAt s i).m)
theorem mov_step {n : Nat} {P : Nat → Int} {c M : Int} {s s' : List Blk} {j : Nat} {e : (Nat × Nat) × Blk} (h : Cold n P c M s) (hM : Mov n P c M s j s') (he : Fe n P c s e) : Mov n P c M s (j + 1) (flowMove s' e) := by
  obtain ⟨⟨a, b⟩, o⟩ := e
  obtain ⟨ha, hb, pa, pb, eh, ek, elo, ehi⟩ := he
  simp only at ha hb pa pb eh ek elo ehi
  refine ⟨by simp [flowMove, moveAt_len, hM.len], fun i hi => ?_⟩
  obtain ⟨m1, m2, m3, m4, m5⟩ := hM.at_ i hi
  have hla : a < s'.length := by rw [hM.len]; exact ha
  have hlb : b < (moveAt s' a o (-1)).length := by rw [moveAt_len, hM.len]; exact hb
  have hoM : o.m ≤ M / 8 := by
    obtain ⟨_, _, _, x4, _⟩ := h.at_ a ha
    omega
  have h8 : 0 ≤ (blkAt s i).m / 8 := by
    obtain ⟨_, _, x3, _, _⟩ := h.at_ i hi
    omega
  have hM8 : 0 ≤ M / 8 := by omega
  have ej1 : ((j + 1 : Nat) : Int) * ((blkAt s i).m / 8) = j * ((blkAt s i).m / 8) + (blkAt s i).m / 8 := by push_cast; rw [Int.add_mul, Int.one_mul]
  have ej2 : ((j + 1 : Nat) : Int) * (M / 8) = j * (M / 8) + M / 8 := by push_cast; rw [Int.add_mul, Int.one_mul]
  rw [ej1, ej2]
  show _ ∧ _
  unfold flowMove
  simp only
  rw [blkAt_move hlb, blkAt_move hla, blkAt_move hla]
  generalize (j : Int) * ((blkAt s i).m / 8) = J1 at *
  generalize (j : Int) * (M / 8) = J2 at *
  by_cases hib : i = b
  · rw [if_pos hib]
    subst hib
    by_cases hia : i = a
    · rw [if_pos hia]
      subst hia
      simp only [Blk.move, eh, ek]
      refine ⟨by omega, by omega, by omega, by omega, fun hc => absurd pa hc⟩
    · rw [if_neg hia]
      simp only [Blk.move, eh, ek]
      refine ⟨by omega, by omega, by omega, by omega, fun hc => absurd pb hc⟩
  · rw [if_neg hib]
    by_cases hia : i = a
    · rw [if_pos hia]
      subst hia
      simp only [Blk.move, eh, ek]
      refine ⟨by omega, by omega, by omega, by omega, fun hc => absurd pa hc⟩
    · rw [if_neg hia]
      exact ⟨m1, m2, by omega, by omega, m5⟩
theorem mov_all {n : Nat} {P : Nat → Int} {c M : Int} {s : List Blk} (h : Cold n P c M s) : ∀ (es : List ((Nat × Nat) × Blk)) (j : Nat) (s' : List Blk), (∀ e ∈ es, Fe n P c s e) → Mov n P c M s j s' → Mov n P c M s (j + es.length) (es.foldl flowMove s')
  | [], j, s', _, hM => by simpa using hM
  | e :: es, j, s', he, hM => by
    have := mov_all h es (j + 1) (flowMove s' e) (fun x hx => he x (by simp [hx])) (mov_step h hM (he e (by simp)))
    rw [List.length_cons, show j + (es.length + 1) = j + 1 + es.length by omega]
    exact this

/-- What the wells leave of a state: some give 2000 into a block of the part. -/
structure Wmv (n : Nat) (P : Nat → Int) (c : Int) (s1 : List Blk) (j : Nat) (s' : List Blk) : Prop where
  len : s'.length = n
  at_ : ∀ i, i < n → (blkAt s' i).h = (blkAt s1 i).h ∧ (blkAt s' i).k = (blkAt s1 i).k ∧ (blkAt s1 i).m ≤ (blkAt s' i).m ∧ (blkAt s' i).m ≤ (blkAt s1 i).m + 2000 * j ∧ (P i ≠ c → (blkAt s' i).m = (blkAt s1 i).m)
def Wrt (n : Nat) (P : Nat → Int) (c : Int) (q : Bool) (wr : Bore × Int) : Prop := (0 ≤ wr.1.b ∧ wr.1.b.toNat < n) ∧ wr.1.h = 0 ∧ wr.1.m = 0 ∧ (wr.2 = 0 ∨ (q = true ∧ wr.2 = -2000 ∧ P wr.1.b.toNat = c))
theorem wmv_all {n : Nat} {P : Nat → Int} {c M : Int} {s s1 : List Blk} (h : Cold n P c M s) : ∀ (ws : List (Bore × Int)) (j : Nat) (s' : List Blk), (∀ x ∈ ws, Wrt n P c true x) → Wmv n P c s1 j s' →
    Wmv n P c s1 (j + ws.length) (ws.foldl (fun n wr => wellMove s n wr.1 wr.2) s')
  | [], j, s', _, hM => by simpa using hM
  | (w, r) :: ws, j, s', hw, hM => by
    obtain ⟨⟨w1, w2⟩, w3, w4, w5⟩ := hw (w, r) (by simp)
    simp only at w1 w2 w3 w4 w5
    have hnext : Wmv n P c s1 (j + 1) (wellMove s s' w r) := by
      rcases w5 with rfl | ⟨_, rfl, w6⟩
      · have hy : wellYield s w 0 = ⟨0, 0, 0⟩ := by
          obtain ⟨x1, x2, x3, _⟩ := h.at_ w.b.toNat w2
          have t8 : (blkAt s w.b.toNat).m.tdiv 8 = (blkAt s w.b.toNat).m / 8 := Int.tdiv_eq_ediv_of_nonneg (by omega)
          have hm : min 0 ((blkAt s w.b.toNat).m.tdiv 8) = 0 := by rw [t8]; omega
          unfold wellYield
          rw [if_neg (by omega), hm]
          simp [Blk.out]
        have : wellMove s s' w 0 = s' := by
          unfold wellMove
          rw [if_neg (by omega), hy, moveAt_zero]
        rw [this]
        refine ⟨hM.len, fun i hi => ?_⟩
        obtain ⟨m1, m2, m3, m4, m5⟩ := hM.at_ i hi
        exact ⟨m1, m2, m3, by push_cast; omega, m5⟩
      · have : wellMove s s' w (-2000) = moveAt s' w.b.toNat ⟨2000, 0, 0⟩ 1 := by
          unfold wellMove
          rw [if_pos (by omega)]
          simp [Bore.given, w3, w4]
        rw [this]
        refine ⟨by rw [moveAt_len, hM.len], fun i hi => ?_⟩
        obtain ⟨m1, m2, m3, m4, m5⟩ := hM.at_ i hi
        rw [blkAt_move (by rw [hM.len]; exact w2)]
        by_cases hib : i = w.b.toNat
        · rw [if_pos hib]
          rw [← hib]
          simp only [Blk.move]
          exact ⟨by omega, by omega, by omega, by push_cast; omega, fun hc => absurd (hib ▸ w6) hc⟩
        · rw [if_neg hib]
          exact ⟨m1, m2, m3, by push_cast; omega, m5⟩
    have := wmv_all h ws (j + 1) (wellMove s s' w r) (fun x hx => hw x (by simp [hx])) hnext
    rw [List.length_cons, show j + (ws.length + 1) = j + 1 + ws.length by omega]
    exact this
/-- .. and where no well gives. -/
theorem wmv_idle {n : Nat} {P : Nat → Int} {c M : Int} {s : List Blk} (h : Cold n P c M s) : ∀ (ws : List (Bore × Int)) (s' : List Blk), (∀ x ∈ ws, Wrt n P c false x) → ws.foldl (fun n wr => wellMove s n wr.1 wr.2) s' = s'
  | [], s', _ => rfl
  | (w, r) :: ws, s', hw => by
    obtain ⟨⟨w1, w2⟩, w3, w4, w5⟩ := hw (w, r) (by simp)
    simp only at w1 w2 w3 w4 w5
    obtain rfl : r = 0 := by
      rcases w5 with h0 | ⟨h0, _⟩
      · exact h0
      · cases h0
    have hy : wellYield s w 0 = ⟨0, 0, 0⟩ := by
      obtain ⟨x1, x2, x3, _⟩ := h.at_ w.b.toNat w2
      have t8 : (blkAt s w.b.toNat).m.tdiv 8 = (blkAt s w.b.toNat).m / 8 := Int.tdiv_eq_ediv_of_nonneg (by omega)
      have hm : min 0 ((blkAt s w.b.toNat).m.tdiv 8) = 0 := by rw [t8]; omega
      unfold wellYield
      rw [if_neg (by omega), hm]
      simp [Blk.out]
    simp only [List.foldl_cons]
    rw [show wellMove s s' w 0 = s' by unfold wellMove; rw [if_neg (by omega), hy, moveAt_zero]]
    exact wmv_idle h ws s' fun x hx => hw x (by simp [hx])
theorem wells_wrt {n : Nat} {P : Nat → Int} {c : Int} {q : Bool} {rates : List Int} (hl : rates.length = n) (hr : ∀ j r, rates[j]? = some r → r = 0 ∨ (q = true ∧ r = -2000 ∧ P j = c)) : ∀ x ∈ (rowB n).wells.zip rates, Wrt n P c q x := by
  intro x hx
  obtain ⟨j, hj⟩ := List.getElem?_of_mem hx
  obtain ⟨w, r⟩ := x
  rw [List.getElem?_zip_eq_some] at hj
  obtain ⟨h1, h2⟩ := hj
  have hjn : j < n := by have := (List.getElem?_eq_some_iff.1 h2).1; omega
  simp only [rowB, List.getElem?_map, List.getElem?_range hjn, Option.map_some, Option.some.injEq] at h1
  subst h1
  exact ⟨⟨by simp, by simpa using hjn⟩, rfl, rfl, by simpa using hr j r h2⟩
theorem row_tick {os : List Int} {P : Nat → Int} {c M : Int} {s : List Blk} {q : Bool} {rates : List Int} (h : Cold os.length P c M s)
    (hP : ∀ i, i + 1 < os.length → 0 < opnOf ((os[i]?).getD 0) → 0 < opnOf ((os[i + 1]?).getD 0) → P i = P (i + 1)) (hos : ∀ o ∈ os, 0 ≤ o ∧ o ≤ 255) (hn : 1 ≤ os.length ∧ os.length ≤ 8)
    (hl : rates.length = os.length) (hr : ∀ j r, rates[j]? = some r → r = 0 ∨ (q = true ∧ r = -2000 ∧ P j = c)) (hM : 2 * M + (if q = true then 16000 else 0) ≤ 1000000) :
    ∃ s' y, tick (rowB os.length) (rowM os) s rates = some (s', y) ∧ Cold os.length P c (2 * M + (if q = true then 16000 else 0)) s' := by
  obtain ⟨f1, f2⟩ := cold_flows h hP hos hn.2
  have m0 : Mov os.length P c M s 0 s := ⟨h.len, fun i hi => by
    obtain ⟨a1, a2, a3, a4, a5⟩ := h.at_ i hi
    exact ⟨a1, a2, by simp, by simp, fun _ => rfl⟩⟩
  have m1 := mov_all h (flows (rowB os.length) (rowM os) s) 0 s f1 m0
  rw [Nat.zero_add] at m1
  generalize hs1 : (flows (rowB os.length) (rowM os) s).foldl flowMove s = s1 at m1
  have hM1 : 1 ≤ M := by
    obtain ⟨_, _, a3, a4, _⟩ := h.at_ 0 (by omega); omega
  have c1 : Cold os.length P c (2 * M) s1 := by
    refine ⟨m1.len, fun i hi => ?_⟩
    obtain ⟨a1, a2, a3, a4, a5⟩ := h.at_ i hi
    obtain ⟨b1, b2, b3, b4, b5⟩ := m1.at_ i hi
    have k1 : ((flows (rowB os.length) (rowM os) s).length : Int) * ((blkAt s i).m / 8) ≤ 7 * ((blkAt s i).m / 8) := Int.mul_le_mul_of_nonneg_right (by omega) (by omega)
    have k2 : ((flows (rowB os.length) (rowM os) s).length : Int) * (M / 8) ≤ 7 * (M / 8) := Int.mul_le_mul_of_nonneg_right (by omega) (by omega)
    exact ⟨b1, b2, by omega, by omega, fun hc => by rw [b5 hc, a5 hc]⟩
  have hw := wells_wrt hl hr
  have hzl : ((rowB os.length).wells.zip rates).length ≤ 8 := by rw [List.length_zip]; omega
  have c2 : Cold os.length P c (2 * M + (if q = true then 16000 else 0)) (((rowB os.length).wells.zip rates).foldl (fun n wr => wellMove s n wr.1 wr.2) s1) := by
    cases q with
    | false =>
      rw [wmv_idle h _ s1 hw]
      simpa using c1
    | true =>
      have w0 : Wmv os.length P c s1 0 s1 := ⟨c1.len, fun i hi => ⟨rfl, rfl, by omega, by simp, fun _ => rfl⟩⟩
      have w1 := wmv_all h ((rowB os.length).wells.zip rates) 0 s1 hw w0
      rw [Nat.zero_add] at w1
      refine ⟨w1.len, fun i hi => ?_⟩
      obtain ⟨a1, a2, a3, a4, a5⟩ := c1.at_ i hi
      obtain ⟨b1, b2, b3, b4, b5⟩ := w1.at_ i hi
      simp only [if_true]
      exact ⟨by omega, by omega, by omega, by omega, fun hc => by rw [b5 hc, a5 hc]⟩
  generalize hs2 : ((rowB os.length).wells.zip rates).foldl (fun n wr => wellMove s n wr.1 wr.2) s1 = s2 at c2
  have hN : nextSt (rowB os.length) (rowM os) s rates = s2 := by
    simp only [nextSt, hs1, hs2]
    have key : ∀ k, k ≤ os.length → (List.range k).foldl (fun n i => moveAt n i (fed (rowB os.length) (rowM os) i) 1) s2 = s2 := by
      intro k
      induction k with
      | zero => intro _; rfl
      | succ k ih =>
        intro hk
        rw [List.range_succ, List.foldl_append, ih (by omega)]
        have : fed (rowB os.length) (rowM os) k = ⟨0, 0, 0⟩ := by simp [fed, row_feed (show k < os.length by omega)]
        simp only [List.foldl_cons, List.foldl_nil, this, moveAt_zero]
    rw [h.len]
    exact key _ (Nat.le_refl _)
  have hS : stateOk (rowB os.length) s2 = true := by
    have hsz : (rowB os.length).size = (os.length : Int) := by simp [Bed.size, Fld.size, rowB]
    simp only [stateOk, hsz, c2.len, Bool.and_eq_true, decide_true, true_and, allB_iff]
    intro x hx
    obtain ⟨i, hi⟩ := List.getElem?_of_mem hx
    have hil : i < os.length := by have := (List.getElem?_eq_some_iff.1 hi).1; rw [c2.len] at this; exact this
    have hb : blkAt s2 i = x := by simp [blkAt, hi]
    obtain ⟨a1, a2, a3, a4, a5⟩ := c2.at_ i hil
    rw [hb] at a1 a2 a3 a4
    simp only [Blk.valid, Bool.and_eq_true, inn_iff]
    exact ⟨⟨by omega, by omega⟩, ⟨by omega, by omega⟩, by omega, by omega⟩
  refine ⟨s2, yieldsOf (rowB os.length) s rates, ?_, c2⟩
  simp only [tick, hN, hS, if_true]

/-! ### Runs -/
theorem cold_ok {os : List Int} {P : Nat → Int} {c M : Int} {s : List Blk} (h : Cold os.length P c M s) (hM : M ≤ 1000000) : stateOk (rowB os.length) s = true := by
  have hsz : (rowB os.length).size = (os.length : Int) := by simp [Bed.size, Fld.size, rowB]
  simp only [stateOk, hsz, h.len, Bool.and_eq_true, decide_true, true_and, allB_iff]
  intro x hx
  obtain ⟨i, hi⟩ := List.getElem?_of_mem hx
  have hil : i < os.length := by have := (List.getElem?_eq_some_iff.1 hi).1; rw [h.len] at this; exact this
  have hb : blkAt s i = x := by simp [blkAt, hi]
  obtain ⟨a1, a2, a3, a4, a5⟩ := h.at_ i hil
  rw [hb] at a1 a2 a3 a4
  simp only [Blk.valid, Bool.and_eq_true, inn_iff]
  exact ⟨⟨by omega, by omega⟩, ⟨by omega, by omega⟩, by omega, by omega⟩
theorem cold_first {os : List Int} {P : Nat → Int} {c : Int} : Cold os.length P c 2000 (firstSt (rowB os.length) (rowM os)) := by
  refine ⟨by simp [firstSt, row_n], fun i hi => ?_⟩
  have : blkAt (firstSt (rowB os.length) (rowM os)) i = ⟨2000, 0, 0⟩ := by
    simp [blkAt, firstSt, row_n, hi, row_hold hi, row_warm hi]
  rw [this]
  exact ⟨rfl, rfl, by decide, by decide, fun _ => rfl⟩
/-- Rows of zeros. -/
def Idle (n : Nat) (plan : List (List Int)) : Prop := ∀ r ∈ plan, r = List.replicate n 0
theorem row_runs {os : List Int} {P : Nat → Int} {c : Int} (hP : ∀ i, i + 1 < os.length → 0 < opnOf ((os[i]?).getD 0) → 0 < opnOf ((os[i + 1]?).getD 0) → P i = P (i + 1)) (hos : ∀ o ∈ os, 0 ≤ o ∧ o ≤ 255) (hn : 1 ≤ os.length ∧ os.length ≤ 8) :
    ∀ (plan : List (List Int)) (ss ys : List (List Blk)) (s : List Blk) (M : Int), Idle os.length plan → Cold os.length P c M s → ss.getLast? = some s → M * 2 ^ plan.length ≤ 1000000 →
      ∃ ss' ys' s', runFrom (rowB os.length) (rowM os) ss ys s plan = some (ss', ys') ∧ ss'.length = ss.length + plan.length ∧ ss'.getLast? = some s' ∧ Cold os.length P c 1000000 s'
  | [], ss, ys, s, M, _, h, hl, hM => by
    refine ⟨ss, ys, s, rfl, rfl, hl, h.len, fun i hi => ?_⟩
    obtain ⟨a1, a2, a3, a4, a5⟩ := h.at_ i hi
    simp only [List.length_nil, Int.pow_zero, Int.mul_one] at hM
    exact ⟨a1, a2, a3, by omega, a5⟩
  | r :: plan, ss, ys, s, M, hI, h, hl, hM => by
    have hr := hI r (by simp)
    subst hr
    have hM1 : 1 ≤ M := by
      obtain ⟨_, _, a3, a4, _⟩ := h.at_ 0 (by omega); omega
    have hpw : (1 : Int) ≤ 2 ^ plan.length := Int.pow_pos (by decide)
    have e1 : M * 2 ^ (plan.length + 1) = 2 * M * 2 ^ plan.length := by rw [Int.pow_succ, Int.mul_comm (2 ^ plan.length) 2, ← Int.mul_assoc, Int.mul_comm M 2]
    rw [List.length_cons, e1] at hM
    have h2M : 2 * M ≤ 1000000 := by
      have := Int.mul_le_mul_of_nonneg_left hpw (show 0 ≤ 2 * M by omega)
      omega
    obtain ⟨s', y, ht, hc⟩ := row_tick (q := false) (rates := List.replicate os.length 0) h hP hos hn (by simp) (fun j r hj => by
      rw [List.getElem?_replicate] at hj
      split at hj
      · simp at hj; exact .inl hj.symm
      · cases hj) (by simpa using h2M)
    simp only [Bool.false_eq_true, if_false, Int.add_zero] at hc
    simp only [runFrom, ht]
    obtain ⟨ss', ys', s'', h1, h2, h3, h4⟩ := row_runs hP hos hn plan (ss ++ [s']) (ys ++ [y]) s' (2 * M) (fun x hx => hI x (by simp [hx])) hc (by simp) hM
    exact ⟨ss', ys', s'', h1, by rw [h2]; simp; omega, h3, h4⟩
/-- A run where nothing is done. -/
theorem quiet_run {os : List Int} (hos : ∀ o ∈ os, 0 ≤ o ∧ o ≤ 255) (hn : 1 ≤ os.length ∧ os.length ≤ 8) {T : Nat} (hT : T ≤ 6) :
    ∃ ss ys s, run (rowB os.length) (rowM os) (List.replicate T (List.replicate os.length 0)) = some (ss, ys) ∧ ss.length = T + 1 ∧ ss[T]? = some s ∧ Cold os.length (fun _ => 0) 1 1000000 s := by
  have hp : (2000 : Int) * 2 ^ T ≤ 1000000 := by
    obtain rfl | rfl | rfl | rfl | rfl | rfl | rfl : T = 0 ∨ T = 1 ∨ T = 2 ∨ T = 3 ∨ T = 4 ∨ T = 5 ∨ T = 6 := by omega
    all_goals decide
  obtain ⟨ss, ys, s, h1, h2, h3, h4⟩ := row_runs (P := fun _ => 0) (c := 1) (fun _ _ _ _ => rfl) hos hn (List.replicate T (List.replicate os.length 0)) [firstSt (rowB os.length) (rowM os)] [] (firstSt (rowB os.length) (rowM os)) 2000 (fun r hr => (List.mem_replicate.1 hr).2) cold_first rfl (by simpa using hp)
  have hl : ss.length = T + 1 := by rw [h2]; simp; omega
  refine ⟨ss, ys, s, h1, hl, ?_, h4⟩
  rw [List.getLast?_eq_getElem?, hl] at h3
  exact h3
/-- A run with a pulse at one well. -/
theorem pulse_run {os : List Int} {P : Nat → Int} (hP : ∀ i, i + 1 < os.length → 0 < opnOf ((os[i]?).getD 0) → 0 < opnOf ((os[i + 1]?).getD 0) → P i = P (i + 1)) (hos : ∀ o ∈ os, 0 ≤ o ∧ o ≤ 255) (hn : 1 ≤ os.length ∧ os.length ≤ 8) {T w : Nat} (hT : T ≤ 5) (hw : w < os.length) :
    ∃ ss ys s, run (rowB os.length) (rowM os) ((List.replicate os.length 0).set w (-2000) :: List.replicate T (List.replicate os.length 0)) = some (ss, ys) ∧ ss.length = T + 2 ∧ ss[T + 1]? = some s ∧ Cold os.length P (P w) 1000000 s := by
  have hp : (20000 : Int) * 2 ^ T ≤ 1000000 := by
    obtain rfl | rfl | rfl | rfl | rfl | rfl : T = 0 ∨ T = 1 ∨ T = 2 ∨ T = 3 ∨ T = 4 ∨ T = 5 := by omega
    all_goals decide
  obtain ⟨s', y, ht, hc⟩ := row_tick (q := true) (rates := (List.replicate os.length 0).set w (-2000)) (cold_first (P := P) (c := P w)) hP hos hn (by simp) (fun j r hj => by
    rw [List.getElem?_set] at hj
    split at hj
    · rename_i hwj
      simp at hj
      obtain ⟨_, hj⟩ := hj
      exact .inr ⟨rfl, hj.symm, by rw [hwj]⟩
    · rw [List.getElem?_replicate] at hj
      split at hj
      · simp at hj; exact .inl hj.symm
      · cases hj) (by simp)
  simp only [if_true] at hc
  obtain ⟨ss, ys, s, h1, h2, h3, h4⟩ := row_runs (c := P w) hP hos hn (List.replicate T (List.replicate os.length 0)) [firstSt (rowB os.length) (rowM os), s'] [y] s' 20000 (fun r hr => (List.mem_replicate.1 hr).2) hc rfl (by simpa using hp)
  have hl : ss.length = T + 2 := by rw [h2]; simp; omega
  refine ⟨ss, ys, s, ?_, hl, ?_, h4⟩
  · unfold run
    simp only [runFrom, ht]
    exact h1
  · rw [List.getLast?_eq_getElem?, hl] at h3
    exact h3
theorem cold_pressures {os : List Int} {P : Nat → Int} {c M : Int} {s : List Blk} (h : Cold os.length P c M s) : (pressures (rowB os.length) (rowM os) s).length = os.length ∧ ∀ i, i < os.length → (pressures (rowB os.length) (rowM os) s)[i]? = some (max 0 (5 * ((blkAt s i).m - 2000))) := by
  refine ⟨by simp [pressures, h.len], fun i hi => ?_⟩
  simp only [pressures, h.len]; simp [hi]; rw [cold_press h hi]
end Go.Rock
