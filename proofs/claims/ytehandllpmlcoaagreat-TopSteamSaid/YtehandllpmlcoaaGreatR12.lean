/-
  Flows.
-/
import Derived.Test.YtehandllpmlcoaaGreatR11
set_option linter.unusedVariables false
set_option linter.unusedSimpArgs false
namespace Go.Proofs.YtehandllpmlcoaaGreat
open Go Go.Abs Go.Rock
variable {σ : Stack}

/-- Flows, as a map's entries. -/
def flE (es : List ((Nat × Nat) × Rock.Blk)) : List D := es.map fun e => .tup [.agg [.int .i64 e.1.1, .int .i64 e.1.2], .agg e.2.enc]
def kyL : Ky := some (true, [some .i64, some .i64])
theorem keyL {a b : Nat × Nat} : keyQ kyL (.agg [.int .i64 a.1, .int .i64 a.2]) (.agg [.int .i64 b.1, .int .i64 b.2]) = some (b == a) := by
  simp only [keyQ, kyL, D.row, eqK, and_self, if_true, Option.map_some, Bool.and_true]
  congr 1
  rw [Bool.eq_iff_iff]
  simp only [Bool.and_eq_true, beq_iff_eq]
  constructor
  · rintro ⟨h1, h2⟩; exact Prod.ext (by omega) (by omega)
  · rintro rfl; exact ⟨rfl, rfl⟩
theorem findK_fl {k : Nat × Nat} : ∀ {es : List ((Nat × Nat) × Rock.Blk)}, ∃ r, findK kyL (.agg [.int .i64 k.1, .int .i64 k.2]) (flE es) = some r ∧ r.map Prod.fst = es.findIdx? (fun e => e.1 == k)
  | [] => ⟨none, rfl, rfl⟩
  | e :: es => by
    obtain ⟨r, h1, h2⟩ := findK_fl (k := k) (es := es)
    simp only [flE, List.map_cons] at h1 ⊢
    simp only [findK, keyL]
    cases hk : e.1 == k
    · refine ⟨_, by rw [h1]; rfl, ?_⟩
      rw [List.findIdx?_cons, hk, ← h2]
      cases r <;> rfl
    · exact ⟨_, rfl, by rw [List.findIdx?_cons, hk]; rfl⟩
theorem mpPutL {S : Stack} {l i : Nat} {es : List ((Nat × Nat) × Rock.Blk)} {k : Nat × Nat} {o : Rock.Blk} (h : cells? S l i 0 = some (flE es)) :
    mpD S (.put kyL) [.yld l i, .agg [.int .i64 k.1, .int .i64 k.2], .agg o.enc] = some (.undef, setBlk S l i (.cells 0 (flE (putL es k o)))) := by
  obtain ⟨r, h1, h2⟩ := findK_fl (k := k) (es := es)
  simp only [mpD, mapD, h, Option.map_some, h1, keyL, Option.isSome_some, true_and]
  rw [if_pos (.inr ⟨by simp [D.clean], by simp [D.clean]⟩)]
  unfold putL
  rw [← h2]
  cases r with
  | none => simp [flE]
  | some y => simp [flE, List.map_set]

/-! ### Bounds -/
theorem press_fold {x : Rock.Blk} {A : Int} (hA : 10000 ≤ A) : ∀ (t : List Rw) (o : Int), (∀ r ∈ t, r.alone = true) → (0 ≤ o ∧ o ≤ A) → 0 ≤ t.foldl (pressStep x) o ∧ t.foldl (pressStep x) o ≤ A
  | [], o, _, h => h
  | r :: t, o, ht, h => by
    have h1 := row_ok (ht r (by simp))
    refine press_fold hA t _ (fun r hr => ht r (by simp [hr])) ?_
    unfold pressStep
    split <;> omega
theorem press_b {b : Bed} {m : Mdl} {s : List Rock.Blk} (h : Fv b m) (hs : Sv b s) {i : Nat} (hi : i < b.n) : 0 ≤ pressure b m s i ∧ pressure b m s i ≤ 200000000000 := by
  have htab := h.bv.tab
  simp only [tabOk, Bool.and_eq_true] at htab
  refine press_fold (by omega) _ _ (allB_iff.1 htab.2.1) ?_
  have b5 := weight_b h.bv hi
  have b1 := h.hold i hi
  obtain ⟨hx, b2, b3, b4⟩ := hs.at hi
  have hst := h.bv.stiff
  have b6 : b.stiff * ((blkAt s i).m - hold b m i) ≤ 100000000000 := by
    rcases Int.le_total (hold b m i) (blkAt s i).m with hh | hh
    · have := mul_n (a := b.stiff) (b := (blkAt s i).m - hold b m i) (A := 100000) (B := 1000000) (by omega) hst.2 (by omega) (by omega); omega
    · have := mul_n (a := b.stiff) (b := hold b m i - (blkAt s i).m) (A := 100000) (B := 1000000) (by omega) hst.2 (by omega) (by omega)
      have e : b.stiff * ((blkAt s i).m - hold b m i) = - (b.stiff * (hold b m i - (blkAt s i).m)) := by rw [← Int.mul_neg]; congr 1; omega
      omega
  have b7 : down (b.stiff * ((blkAt s i).m - hold b m i)) (hold b m i) ≤ 100000000000 := by
    unfold down
    have := Int.ediv_le_self (b := hold b m i) (a := b.stiff * ((blkAt s i).m - hold b m i))
    rcases Int.le_total 0 (b.stiff * ((blkAt s i).m - hold b m i)) with hh | hh
    · have := this hh; omega
    · have := Int.ediv_le_of_le_mul (b := 0) (show 0 < hold b m i by omega) (by omega : b.stiff * ((blkAt s i).m - hold b m i) ≤ 0 * hold b m i); omega
  omega

/-! ### A round -/
theorem WC_eq {O : Oracle} {c c' : Cmd} (hc : c = c') {e : Env} {σ : Stack} {Q : Abs.Exit → Env → Stack → Prop} : WC O c e σ Q .mk .mk = WC O c' e σ Q .mk .mk := by subst hc; rfl

def lpF (b : Bed) (m : Mdl) (s : List Rock.Blk) (L : Nat) : LoopSt :=
  { state := 0, pend := none, env := [(2, .cref [.int .i64 b.f.x, .int .i64 b.f.y, .int .i64 b.f.z, .int .i64 b.f.k, .lst b.tab.length (b.tab.flatMap Rw.enc), .int .i64 b.stiff, .int .i64 b.lift, .int .i64 b.deep, .lst b.wells.length (b.wells.flatMap Bore.enc), .str m.name, .lst m.vals.length (m.vals.flatMap intE)]), (3, .cref [.lst s.length (s.flatMap Blk.enc)]), (4, .undef), (5, .ref L 3 0 0), (6, .ref L 4 0 0)], params := [18], asg := f_rock_bedded_flows_a12, body := f_rock_bedded_flows_b12 }
def stF (A B : Abs.Blk) (b : Bed) (m : Mdl) (s : List Rock.Blk) (σ : Stack) (es : List ((Nat × Nat) × Rock.Blk)) : Stack :=
  [A, B, .cells 0 (flE es), .cells 0 [.yld σ.length 2], .cells 0 [.lst (pressures b m s).length ((pressures b m s).flatMap intE)], .loop (lpF b m s σ.length)] :: σ
theorem R_flow {A B : Abs.Blk} {b : Bed} {m : Mdl} {s : List Rock.Blk} (h : Fv b m) (hs : Sv b s) (es : List ((Nat × Nat) × Rock.Blk)) (l : Nat × Nat) (h1 : l.1 < b.n) (h2 : l.2 < b.n) :
    lim T (.round σ.length 5 [.agg [.int .i64 l.1, .int .i64 l.2]] ([] :: stF A B b m s σ es)) = some (.val (.bool true) ([] :: stF A B b m s σ (flowStep b m s (pressures b m s) es l))) := by
  have hn := h.bv.n
  have hl := hs.len
  have hp1 : (pressures b m s)[l.1]? = some (pressure b m s l.1) := by simp [pressures, hl, h1]
  have hp2 : (pressures b m s)[l.2]? = some (pressure b m s l.2) := by simp [pressures, hl, h2]
  have a1 := intE_at hp1
  have a2 := intE_at hp2
  have hpl : (pressures b m s).length = b.n := by rw [pr_len, hl]
  have bp1 := press_b h hs h1
  have bp2 := press_b h hs h2
  have bw1 := weight_b h.bv h1
  have bw2 := weight_b h.bv h2
  have cw1 := fun σ => C_weight (σ := σ) (m := m) h.bv h1
  have cw2 := fun σ => C_weight (σ := σ) (m := m) h.bv h2
  have co1 := fun σ => C_open (σ := σ) h.toMv h1
  have co2 := fun σ => C_open (σ := σ) h.toMv h2
  have bo1 := h.opn l.1 h1
  have bo2 := h.opn l.2 h2
  obtain ⟨x1, m1, m2, m3⟩ := hs.at h1
  obtain ⟨y1, n1, n2, n3⟩ := hs.at h2
  have f1 := flat_at (f := Blk.enc) (w := 3) (fun _ => rfl) x1
  have f2 := flat_at (f := Blk.enc) (w := 3) (fun _ => rfl) y1
  have w1 := w64 (n := pressure b m s l.1 - weight b l.1) (by omega)
  have w2 := w64 (n := pressure b m s l.1 - weight b l.1 - pressure b m s l.2) (by omega)
  have w3 := w64 (n := pressure b m s l.1 - weight b l.1 - pressure b m s l.2 + weight b l.2) (by omega)
  have hL1 : l.1 < s.length := by omega
  have hL2 : l.2 < s.length := by omega
  have hE : flowStep b m s (pressures b m s) es l = flowStep b m s (pressures b m s) es l := rfl
  conv at hE => rhs; unfold flowStep flowAt
  simp only [hp1, hp2, Option.getD_some] at hE
  generalize flowStep b m s (pressures b m s) es l = es' at *
  have hmin : 0 ≤ min (opn b m l.2) (opn b m l.1) ∧ min (opn b m l.2) (opn b m l.1) ≤ 1000 := by omega
  have hmin' : 0 ≤ min (opn b m l.1) (opn b m l.2) ∧ min (opn b m l.1) (opn b m l.2) ≤ 1000 := by omega
  generalize hw1 : weight b l.1 = W1 at *
  generalize hw2 : weight b l.2 = W2 at *
  generalize hq1 : pressure b m s l.1 = P1 at *
  generalize hq2 : pressure b m s l.2 = P2 at *
  generalize hD : P1 - W1 - P2 + W2 = d at *
  refine round_of (lp := lpF b m s σ.length) (by simp [stF]) rfl ?_
  rw [show (lpF b m s σ.length).asg = f_rock_bedded_flows_a12 from rfl, e_rock_bedded_flows_a12, show (lpF b m s σ.length).body = f_rock_bedded_flows_b12 from rfl]
  by_cases hd : d < 0
  · simp only [hd, if_true] at hE
    have b3 := mul_n hmin.1 hmin.2 (show 0 ≤ -d by omega) (show -d ≤ 1000000000000 by omega)
    have w4 := w64 (n := -d) (by omega)
    have d1 := Int.tdiv_eq_ediv_of_nonneg (b := 1000) b3.1
    have d2 := Int.tdiv_eq_ediv_of_nonneg (b := 8) (show 0 ≤ (blkAt s l.2).m by omega)
    generalize hX : min (opn b m l.2) (opn b m l.1) * -d = X at *
    have w5 := w64 (n := X) (by omega)
    generalize hY : X.tdiv 1000 = Y at *
    generalize hZ : (blkAt s l.2).m.tdiv 8 = Z at *
    have w6 := w64 (n := Y) (by rw [d1]; omega)
    have w7 := w64 (n := Z) (by rw [d2]; omega)
    by_cases hq : 0 < min Y Z
    · have hO := fun σ => C_out (σ := σ) (q := min Y Z) n1 n2 n3 ⟨by omega, by rw [d2]; omega⟩
      have hP := fun S h => mpPutL (S := S) (l := σ.length) (i := 2) (es := es) (k := (l.2, l.1)) (o := (blkAt s l.2).out (min Y Z)) h
      rw [if_pos hq] at hE
      simp only at hE
      subst hE
      generalize (blkAt s l.2).out (min Y Z) = O at *
      simp only [Blk.enc] at hO
      simp only [Blk.enc, kyL] at hP

      simp [-List.length_flatMap, -List.map_take, eF, WC_eq e_rock_bedded_flows_b12, lpF, stF, midR, hpl, h1, h2, a1, a2, cw1, cw2, w1, w2, w3, hD, hd, co1, co2, hL1, hL2, f1, f2, w4, w5, w6, w7, hX, hY, hZ, hq, hO, hP]
    · rw [if_neg hq] at hE
      simp only at hE
      subst hE
      simp [-List.length_flatMap, -List.map_take, eF, WC_eq e_rock_bedded_flows_b12, lpF, stF, midR, hpl, h1, h2, a1, a2, cw1, cw2, w1, w2, w3, hD, hd, co1, co2, hL1, hL2, f1, f2, w4, w5, w6, w7, hX, hY, hZ, hq]
  · simp only [hd, if_false] at hE
    have b3 := mul_n hmin'.1 hmin'.2 (show 0 ≤ d by omega) (show d ≤ 1000000000000 by omega)
    have w4 := w64 (n := d) (by omega)
    have d1 := Int.tdiv_eq_ediv_of_nonneg (b := 1000) b3.1
    have d2 := Int.tdiv_eq_ediv_of_nonneg (b := 8) (show 0 ≤ (blkAt s l.1).m by omega)
    generalize hX : min (opn b m l.1) (opn b m l.2) * d = X at *
    have w5 := w64 (n := X) (by omega)
    generalize hY : X.tdiv 1000 = Y at *
    generalize hZ : (blkAt s l.1).m.tdiv 8 = Z at *
    have w6 := w64 (n := Y) (by rw [d1]; omega)
    have w7 := w64 (n := Z) (by rw [d2]; omega)
    by_cases hq : 0 < min Y Z
    · have hO := fun σ => C_out (σ := σ) (q := min Y Z) m1 m2 m3 ⟨by omega, by rw [d2]; omega⟩
      have hP := fun S h => mpPutL (S := S) (l := σ.length) (i := 2) (es := es) (k := l) (o := (blkAt s l.1).out (min Y Z)) h
      rw [if_pos hq] at hE
      simp only at hE
      subst hE
      generalize (blkAt s l.1).out (min Y Z) = O at *
      simp only [Blk.enc] at hO
      simp only [Blk.enc, kyL] at hP

      simp [-List.length_flatMap, -List.map_take, eF, WC_eq e_rock_bedded_flows_b12, lpF, stF, midR, hpl, h1, h2, a1, a2, cw1, cw2, w1, w2, w3, hD, hd, co1, co2, hL1, hL2, f1, f2, w4, w5, w6, w7, hX, hY, hZ, hq, hO, hP]
    · rw [if_neg hq] at hE
      simp only at hE
      subst hE
      simp [-List.length_flatMap, -List.map_take, eF, WC_eq e_rock_bedded_flows_b12, lpF, stF, midR, hpl, h1, h2, a1, a2, cw1, cw2, w1, w2, w3, hD, hd, co1, co2, hL1, hL2, f1, f2, w4, w5, w6, w7, hX, hY, hZ, hq]
/-- The flows of a state, kept in the caller's segment. -/
theorem C_flows {A B : Abs.Blk} {b : Bed} {m : Mdl} {s : List Rock.Blk} (h : Fv b m) (hs : Sv b s) : ∃ X Y Z : Abs.Blk,
    lim T (.call true i_rock_bedded_flows [.agg [.int .i64 b.f.x, .int .i64 b.f.y, .int .i64 b.f.z, .int .i64 b.f.k, .lst b.tab.length (b.tab.flatMap Rw.enc), .int .i64 b.stiff, .int .i64 b.lift, .int .i64 b.deep, .lst b.wells.length (b.wells.flatMap Bore.enc), .str m.name, .lst m.vals.length (m.vals.flatMap intE)], .lst s.length (s.flatMap Blk.enc)] ([A, B] :: σ)) = some (.val (.yld σ.length 2) ([A, B, .cells 0 (flE (flows b m s)), X, Y, Z] :: σ)) := by
  refine ⟨.cells 0 [.yld σ.length 2], .cells 0 [.lst (pressures b m s).length ((pressures b m s).flatMap intE)], .loop { lpF b m s σ.length with state := 3 }, ?_⟩
  refine call_kp T_rock_bedded_flows e_rock_bedded_flows rfl ?_
  have hp := fun σ hσ => C_pressures (σ := σ) h hs hσ
  have hl := C_links1 (b := b) h.bv (lv := σ.length) (j := 5) (N := σ.length + 1) (St := fun pre => stF A B b m s σ (pre.foldl (flowStep b m s (pressures b m s)) [])) (fun pre => by simp [stF])
    (fun pre l h1 h2 _ => by rw [List.foldl_append]; exact R_flow h hs _ l h1 h2)
  have hm : mpD ([A, B] :: σ) .make [] = some (.yld σ.length 2, [A, B, .cells 0 (flE [])] :: σ) := by simp [mpD, flE]
  simp [-List.length_flatMap, -List.map_take, eF, hp, C_links, cl_rw, cl_bore, cl_int, cl_blk, hm]
  refine WC_rngf (d := .tup []) (σ2 := stF A B b m s σ (flows b m s)) (lp := lpF b m s σ.length) (by simp; exact ⟨rfl, rfl, rfl⟩) ?_ (by simp [stF]) (by simp [lpF]) ?_
  · simpa [lpF, stF, flows] using hl
  · simp [-List.length_flatMap, -List.map_take, lpF, stF, eF]
end Go.Proofs.YtehandllpmlcoaaGreat
