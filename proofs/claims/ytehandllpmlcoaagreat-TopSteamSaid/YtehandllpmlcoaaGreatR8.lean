/-
  The first state; weights and pressures.
-/
import Derived.Test.YtehandllpmlcoaaGreatR7
set_option linter.unusedVariables false
set_option linter.unusedSimpArgs false
namespace Go.Proofs.YtehandllpmlcoaaGreat
open Go Go.Abs Go.Rock
variable {σ : Stack}

/-- What is known of a model that fits. -/
structure Fv (b : Bed) (m : Mdl) : Prop extends Mv b m where
  hold : ∀ i, i < b.n → 1000 ≤ Rock.hold b m i ∧ Rock.hold b m i ≤ 100000
  opn : ∀ i, i < b.n → 0 ≤ Rock.opn b m i ∧ Rock.opn b m i ≤ 1000
  warm : ∀ i, i < b.n → 0 ≤ Rock.warm b m i ∧ Rock.warm b m i ≤ 3000
  feed : ∀ i, i < b.n → 0 ≤ Rock.feed b m i ∧ Rock.feed b m i ≤ 1000
theorem Fv.of {b : Bed} {m : Mdl} (h : Bd b m = true) : Fv b m := by
  simp only [Bd, fits, Bool.and_eq_true, decide_eq_true_eq] at h
  obtain ⟨h1, h2, h3, h4, h5, h6⟩ := h
  have hm := Mv.of (Bv.of h1) h2
  have key : ∀ {k : Nat} {lo hi : Int}, k < 4 → allB (kindL b m k) (fun n => inn n lo hi) = true → ∀ i, i < b.n → lo ≤ kindAt b m k i ∧ kindAt b m k i ≤ hi := by
    intro k lo hi hk ha i hi'
    exact inn_iff.1 (allB_iff.1 ha _ (List.mem_of_getElem? (kindL_at hm hk hi')))
  exact ⟨hm, key (by omega) h3, key (by omega) h4, key (by omega) h5, key (by omega) h6⟩

theorem weight_b {b : Bed} (h : Bv b) {i : Nat} (hi : i < b.n) : 0 ≤ weight b i ∧ weight b i ≤ 64000 := by
  have hl := h.lift; have hn := h.n
  have hle : i / (b.f.x.toNat * b.f.y.toNat) ≤ i := Nat.div_le_self _ _
  have hq := Int.natCast_nonneg (i / (b.f.x.toNat * b.f.y.toNat))
  have hle2 : ((i / (b.f.x.toNat * b.f.y.toNat) : Nat) : Int) ≤ 64 := by
    have : i / (b.f.x.toNat * b.f.y.toNat) ≤ 64 := by omega
    exact Int.ofNat_le.2 this
  unfold weight
  exact mul_n (A := 64) (B := 1000) hq hle2 hl.1 hl.2
theorem C_weight {b : Bed} {m : Mdl} (h : Bv b) {i : Nat} (hi : i < b.n) : lim T (.call false i_rock_bedded_weight [.agg [.int .i64 b.f.x, .int .i64 b.f.y, .int .i64 b.f.z, .int .i64 b.f.k, .lst b.tab.length (b.tab.flatMap Rw.enc), .int .i64 b.stiff, .int .i64 b.lift, .int .i64 b.deep, .lst b.wells.length (b.wells.flatMap Bore.enc), .str m.name, .lst m.vals.length (m.vals.flatMap intE)], .int .i64 i] σ) = some (.val (.int .i64 (weight b i)) σ) := by
  refine call_of T_rock_bedded_weight e_rock_bedded_weight rfl ?_
  have hx := h.x; have hy := h.y; have hn := h.n
  obtain ⟨s1, _⟩ := Fld.sz h.x h.y h.z
  have w1 := w64 (n := b.f.x * b.f.y) (by omega)
  have e1 : b.f.x * b.f.y = ((b.f.x.toNat * b.f.y.toNat : Nat) : Int) := by push_cast; rw [Int.toNat_of_nonneg (by omega), Int.toNat_of_nonneg (by omega)]
  have e2 : (i : Int) / (b.f.x * b.f.y) = ((i / (b.f.x.toNat * b.f.y.toNat) : Nat) : Int) := by
    rw [e1]; rfl
  have hle : i / (b.f.x.toNat * b.f.y.toNat) ≤ i := Nat.div_le_self _ _
  have hw := weight_b h hi
  have hq : (0 : Int) ≤ (i : Int) / (b.f.x * b.f.y) := by rw [e2]; exact Int.natCast_nonneg _
  have hq2 : (i : Int) / (b.f.x * b.f.y) ≤ 64 := by
    rw [e2]; have : i / (b.f.x.toNat * b.f.y.toNat) ≤ 64 := by omega
    exact Int.ofNat_le.2 this
  have w2 := w64 (n := (i : Int) / (b.f.x * b.f.y)) (by omega)
  have w3 := w64 (n := weight b i) (by omega)
  have hne : ¬ b.f.x * b.f.y = 0 := by omega
  have hnx : ¬ b.f.x = 0 := by omega
  have hny : ¬ b.f.y = 0 := by omega
  have e3 : (i : Int) / (b.f.x * b.f.y) * b.lift = weight b i := by rw [e2]; rfl
  simp [-List.length_flatMap, -List.map_take, eF, w1, w2, hne, hnx, hny, e3, w3]
theorem C_down {n d : Int} (hn : -200000000000 ≤ n ∧ n ≤ 200000000000) (hd : 1 ≤ d ∧ d ≤ 100000) : lim T (.call false i_rock_down [.int .i64 n, .int .i64 d] σ) = some (.val (.int .i64 (down n d)) σ) := by
  refine call_of T_rock_down e_rock_down rfl ?_
  have h1 := Int.mul_tdiv_add_tmod n d
  have h2 := Int.tmod_lt_of_pos n (show 0 < d by omega)
  have h3 := Int.lt_tmod_of_pos n (show 0 < d by omega)
  unfold down
  generalize hq : n.tdiv d = q at *
  generalize n.tmod d = r at *
  have h4 : d * q = q * d := Int.mul_comm _ _
  have hb : -200000100001 ≤ q ∧ q ≤ 200000100001 := by
    rcases Int.le_total 0 q with h | h
    · have := Int.mul_le_mul_of_nonneg_left hd.1 h; omega
    · have := Int.mul_le_mul_of_nonpos_left h hd.1; omega
  have w1 := w64 (n := q) (by omega)
  have w2 := w64 (n := q * d) (by omega)
  have w3 := w64 (n := q - 1) (by omega)
  have hne : ¬ d = 0 := by omega
  have key : n / d = if n < q * d then q - 1 else q := by
    split
    · rename_i hc
      refine ((Int.ediv_emod_unique (r := r + d) (show 0 < d by omega)).2 ⟨?_, ?_, ?_⟩).1
      · rw [Int.mul_sub]; omega
      · omega
      · omega
    · rename_i hc
      refine ((Int.ediv_emod_unique (r := r) (show 0 < d by omega)).2 ⟨?_, ?_, ?_⟩).1 <;> omega
  rw [key]
  by_cases hc : n < q * d <;> simp [-List.length_flatMap, -List.map_take, eF, hq, w1, w2, w3, hne, hc]

/-- A slice of the newest segment, written out, at any depth. -/
theorem k_out {α : Type} {f : α → List D} {w n : Nat} (hn : 1 < n) (hw : ∀ x, (f x).length = w) (hc : ∀ x, D.cleanL (f x) = true) {l : List α} {j v : Nat} {bs : List Abs.Blk} (hσ : σ ≠ []) (hj : bs[j]? = some (.cells v (l.flatMap f))) :
    frz (σ.length - 1) n (.sl σ.length j v 0 l.length w) (bs :: σ) = (.lst l.length (l.flatMap f), bs.set j .dead :: σ) := by
  have h3 : ¬ σ.length ≤ σ.length - 1 := by have := List.length_pos_iff.2 hσ; omega
  rw [frz_sl h3 (cs := l.flatMap f) (by simp [hj]) (by omega)]
  have h4 : 0 < n - 1 := by omega
  simp [k_self hw l, k_clean hc l, h4]

/-! ### The first state -/
theorem first_len {b : Bed} {m : Mdl} : (firstSt b m).length = b.n := by simp [firstSt]
theorem blk_len (l : List Rock.Blk) : (l.flatMap Blk.enc).length = l.length * 3 := flat_len (f := Blk.enc) (w := 3) (fun _ => rfl) l
theorem L_first {b : Bed} {m : Mdl} (h : Fv b m) : ∀ (n i v : Nat), i + n = b.n →
    WL T [1, 2, 6, 7] false f_rock_bedded_first_l6 [(1, .cref [.int .i64 b.f.x, .int .i64 b.f.y, .int .i64 b.f.z, .int .i64 b.f.k, .lst b.tab.length (b.tab.flatMap Rw.enc), .int .i64 b.stiff, .int .i64 b.lift, .int .i64 b.deep, .lst b.wells.length (b.wells.flatMap Bore.enc), .str m.name, .lst m.vals.length (m.vals.flatMap intE)]), (2, .sl σ.length 0 v 0 i 3), (6, .int .i64 b.n), (7, .int .i64 i)] ([.cells v (((firstSt b m).take i).flatMap Blk.enc)] :: σ)
      (fun x e σ' => x = .exit 0 ∧ get e 2 = .sl σ.length 0 (v + n) 0 (firstSt b m).length 3 ∧ σ' = [.cells (v + n) ((firstSt b m).flatMap Blk.enc)] :: σ)
  | 0, i, v, hi => by
    refine WL_step e_rock_bedded_first_l6 ?_
    obtain rfl : i = b.n := by omega
    have h3 : (firstSt b m).take b.n = firstSt b m := List.take_of_length_le (by simp [first_len])
    simp [-List.length_flatMap, -List.map_take, eF, h3, first_len]
  | n + 1, i, v, hi => by
    refine WL_step e_rock_bedded_first_l6 ?_
    have h1 : i < b.n := by omega
    have hn := h.bv.n
    have h4 := wnext h1 (by omega)
    have ho := fun σ => C_hold (σ := σ) h.toMv h1
    have hw := fun σ => C_warm (σ := σ) h.toMv h1
    have b1 := h.hold i h1
    have b2 := h.warm i h1
    have b3 := mul_n (by omega : 0 ≤ hold b m i) b1.2 b2.1 b2.2
    have w1 := w64 (n := hold b m i * warm b m i) (by omega)
    have ih := L_first h n (i + 1) (v + 1) (by omega)
    have hx : (firstSt b m)[i]? = some ⟨hold b m i, hold b m i * warm b m i, 0⟩ := by simp [firstSt, h1]
    have a3 := flat_snoc (f := Blk.enc) hx
    have a4 := blk_len ((firstSt b m).take i)
    rw [List.length_take, first_len, Nat.min_eq_left (by omega)] at a4
    have a6 : (((firstSt b m).take i).flatMap Blk.enc).take (i * 3) = ((firstSt b m).take i).flatMap Blk.enc := List.take_of_length_le (by omega)
    have h7 : (i + 1) * 24 ≤ room := by unfold room; omega
    simp [-List.length_flatMap, -List.map_take, eF, h1, h4, ho, hw, w1, a4, a6, h7, cl_rw, cl_bore, cl_int]
    refine WL.to ih (by simp [cl_rw, cl_bore, cl_int]) (by simp [← a3]) fun x e σ hh => by simpa [Nat.add_assoc, Nat.add_comm 1 n] using hh
theorem C_firstSt {b : Bed} {m : Mdl} (h : Fv b m) (hσ : σ ≠ []) : lim T (.call false i_rock_bedded_first [.agg [.int .i64 b.f.x, .int .i64 b.f.y, .int .i64 b.f.z, .int .i64 b.f.k, .lst b.tab.length (b.tab.flatMap Rw.enc), .int .i64 b.stiff, .int .i64 b.lift, .int .i64 b.deep, .lst b.wells.length (b.wells.flatMap Bore.enc), .str m.name, .lst m.vals.length (m.vals.flatMap intE)]] σ) = some (.val (stE (firstSt b m)) σ) := by
  refine call_of T_rock_bedded_first e_rock_bedded_first rfl ?_
  have hs := fun σ => C_rsize' (σ := σ) h.bv
  simp [-List.length_flatMap, -List.map_take, eF, hs, cl_rw, cl_bore, cl_int]
  refine WL.to (L_first (σ := σ) h b.n 0 0 (by omega)) (by simp) (by simp) ?_
  rintro x e σ' ⟨rfl, g2, rfl⟩
  simp [-List.length_flatMap, -List.map_take, eF, g2]
  rw [k_out (f := Blk.enc) (by decide) (fun _ => rfl) (fun x => by simp) hσ (by simp)]
  simp [stE]
end Go.Proofs.YtehandllpmlcoaaGreat
