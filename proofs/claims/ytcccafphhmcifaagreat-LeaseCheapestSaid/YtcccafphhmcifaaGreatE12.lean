/-
  Programmes of layer 11: the cheapest plan by the document's words.
-/
import Derived.Test.YtcccafphhmcifaaGreatE11
set_option linter.unusedVariables false
set_option linter.unusedSimpArgs false
namespace Go.Proofs.YtcccafphhmcifaaGreat
open Go Go.Abs Go.Lease
variable {σ : Stack}

theorem L_DrR {p : Pg} (hp : pgOk p = true) {i : Nat} {y : Yr} (hy : p.l[i]? = some y) {now : Int} (hc : 0 ≤ now ∧ now ≤ 1000000 + 3000000 * i) (hn : leastF p (p.l.drop i) now < never) {pl : List Int} (hpl : pl.length = i) : ∀ (m k : Nat), (k : Int) + m = drillK p y (p.l.drop (i + 1)) now →
    WL T [1, 3, 4, 5, 6, 7] false f_ref11_Drill_l13 [(1, .cref p.enc), (3, .sl σ.length 0 i 0 i 1), (4, .int .i64 now), (5, .int .i64 i), (6, .int .i64 (leastF p (p.l.drop i) now)), (7, .int .i64 k)] ([.cells i (pl.flatMap intE)] :: σ)
      (fun x e σ' => x = .exit 2 ∧ get e 1 = .cref p.enc ∧ get e 3 = .sl σ.length 0 (i + 1) 0 (i + 1) 1 ∧ get e 4 = .int .i64 (aft p now (drillK p y (p.l.drop (i + 1)) now)) ∧ get e 5 = .int .i64 i ∧ σ' = [.cells (i + 1) ((pl ++ [drillK p y (p.l.drop (i + 1)) now]).flatMap intE)] :: σ) := by
  have hp1 := pgOk_iff.1 hp
  have hi := (List.getElem?_eq_some_iff.1 hy).1
  have hyk := hp1.2.2.2.2.2 y (List.mem_of_getElem? hy)
  have hd : leastF p (p.l.drop i) now = leastF p (y :: p.l.drop (i + 1)) now := by rw [dropS hy]
  rw [hd] at hn ⊢
  have hK := drillK_ok hp1.2.2.2.1.1 hn
  have a1 := yr_at hy
  have i1 := flat_len (f := intE) (w := 1) (fun _ => rfl) pl
  rw [Nat.mul_one, hpl] at i1
  have i2 : (pl.flatMap intE).take i = pl.flatMap intE := List.take_of_length_le (by omega)
  have i3 : (i + 1) * 8 ≤ room := by unfold room; omega
  have step : ∀ k : Nat, (k : Int) ≤ p.most → (∀ σ, lim T (.call false i_ref11_Least [.agg [.int .i64 p.start, .int .i64 p.gain, .int .i64 p.keep, .int .i64 p.most, .lst p.l.length (p.l.flatMap Yr.enc)], .int .i64 ((i : Int) + 1), .int .i64 (aft p now k)] σ) = some (.val (.int .i64 (leastF p (p.l.drop (i + 1)) (aft p now k))) σ)) ∧ IntKind.i64.wrap ((k : Int) * p.gain) = k * p.gain ∧ IntKind.i64.wrap (now + (k : Int) * p.gain) = now + k * p.gain ∧ IntKind.i64.wrap ((k : Int) * y.price) = k * y.price ∧ IntKind.i64.wrap ((now + (k : Int) * p.gain) * p.keep) = (now + k * p.gain) * p.keep ∧ ((now + (k : Int) * p.gain) * p.keep).tdiv 1000 = aft p now k ∧ IntKind.i64.wrap (aft p now k) = aft p now k ∧ IntKind.i64.wrap (k * y.price + leastF p (p.l.drop (i + 1)) (aft p now k)) = k * y.price + leastF p (p.l.drop (i + 1)) (aft p now k) ∧ IntKind.i64.wrap ((k : Int) + 1) = (k : Int) + 1 := by
    intro k hk
    have hk3 : 0 ≤ (k : Int) ∧ (k : Int) ≤ 3 := by omega
    have ha := aft_le hp (c := now) (j := k) hc.1 (by omega) hk
    have hb := leastF_nonneg hp1.2.2.2.1.1 (p.l.drop (i + 1)) (fun z hz => hp1.2.2.2.2.2 z (List.mem_of_mem_drop hz)) (aft p now k)
    have hb2 := leastF_le (p := p) (p.l.drop (i + 1)) (aft p now k)
    simp only [never] at hb2
    have hpr := price_bd hk3 (yrOk_iff.1 hyk).2
    have hg := gain_bd hp hk3
    have m0 : 0 ≤ (now + k * p.gain) * p.keep := Int.mul_nonneg (by omega) hp1.2.2.1.1
    have m1 : (now + k * p.gain) * p.keep ≤ 503000000 * 1000 := Int.le_trans (Int.mul_le_mul_of_nonneg_right (by omega) hp1.2.2.1.1) (Int.mul_le_mul_of_nonneg_left hp1.2.2.1.2 (by decide))
    refine ⟨fun σ => ?_, w64 (by omega), w64 (by omega), w64 (by omega), w64 (by omega), Int.tdiv_eq_ediv_of_nonneg m0, w64 (by omega), w64 (by omega), w64 (by omega)⟩
    have := C_LeastR hp (p.l.length - (i + 1)) (i + 1) (aft p now k) σ (by omega) ha.1 (by omega)
    rw [show (((i + 1 : Nat)) : Int) = (i : Int) + 1 by omega] at this
    exact this
  have w9 : IntKind.i64.wrap ((i : Int) + 1) = (i : Int) + 1 := w64 (by omega)
  intro m
  induction m with
  | zero =>
    intro k hk
    refine WL_step e_ref11_Drill_l13 ?_
    have hk' : drillK p y (p.l.drop (i + 1)) now = (k : Int) := by omega
    rw [hk'] at hK ⊢
    obtain ⟨h1, w1, w2, w3, w4, w5, w6, w7, w8⟩ := step k hK.2.1
    have hn1 := hK.2.2.1
    have hn2 := hK.2.2.2
    rw [hn2] at w7
    have hle := hK.2.1
    generalize leastF p (y :: p.l.drop (i + 1)) now = best at *
    generalize leastF p (p.l.drop (i + 1)) (aft p now k) = nx at *
    simp [-List.length_flatMap, -List.map_take, e_ref11_Drill_r0, e_ref11_Drill_r1, e_ref11_Drill_r2, e_ref11_Drill_r3, e_ref11_Drill_r4, e_ref11_Drill_r5, e_ref11_Drill_r6, e_ref11_Drill_r7, e_ref11_Drill_r8, e_ref11_Drill_r9, e_ref11_Drill_r10, e_ref11_Drill_r11, e_ref11_Drill_r12, e_ref11_Drill_r14, e_ref11_Drill_r16, hle, h1, w1, w2, w3, w4, w5, w6, w7, w9, hn1, hn2, a1, hi, i1, i2, i3]
  | succ m ih =>
    intro k hk
    refine WL_step e_ref11_Drill_l13 ?_
    have ih := ih (k + 1) (by omega)
    obtain ⟨h1, w1, w2, w3, w4, w5, w6, w7, w8⟩ := step k (by omega)
    have hle : (k : Int) ≤ p.most := by omega
    have hno : ¬ (y.need ≤ now + (k : Int) * p.gain ∧ (k : Int) * y.price + leastF p (p.l.drop (i + 1)) (aft p now k) = leastF p (y :: p.l.drop (i + 1)) now) := firstK_lt (p := p) (y := y) (g := leastF p (p.l.drop (i + 1))) (c := now) (best := leastF p (y :: p.l.drop (i + 1)) now) (p.most.toNat + 1) 0 k (by omega) (show (k : Int) < drillK p y (p.l.drop (i + 1)) now by omega)
    generalize drillK p y (p.l.drop (i + 1)) now = K at *
    generalize leastF p (y :: p.l.drop (i + 1)) now = best at *
    generalize leastF p (p.l.drop (i + 1)) (aft p now k) = nx at *
    by_cases c1 : y.need ≤ now + k * p.gain
    · have c2 : ¬ (k : Int) * y.price + nx = best := fun h => hno ⟨c1, h⟩
      simp [-List.length_flatMap, -List.map_take, e_ref11_Drill_r0, e_ref11_Drill_r1, e_ref11_Drill_r2, e_ref11_Drill_r3, e_ref11_Drill_r4, e_ref11_Drill_r5, e_ref11_Drill_r6, e_ref11_Drill_r7, e_ref11_Drill_r8, e_ref11_Drill_r9, e_ref11_Drill_r10, e_ref11_Drill_r11, e_ref11_Drill_r12, e_ref11_Drill_r14, e_ref11_Drill_r16, hle, h1, w1, w2, w3, w4, w5, w6, w7, w8, w9, c1, c2, a1, hi]
      exact WL.to ih (by simp) rfl fun x e σ hh => by simpa using hh
    · simp [-List.length_flatMap, -List.map_take, e_ref11_Drill_r0, e_ref11_Drill_r1, e_ref11_Drill_r2, e_ref11_Drill_r3, e_ref11_Drill_r4, e_ref11_Drill_r5, e_ref11_Drill_r6, e_ref11_Drill_r7, e_ref11_Drill_r8, e_ref11_Drill_r9, e_ref11_Drill_r10, e_ref11_Drill_r11, e_ref11_Drill_r12, e_ref11_Drill_r14, e_ref11_Drill_r16, hle, h1, w1, w2, w3, w4, w5, w6, w7, w8, w9, c1, a1, hi]
      exact WL.to ih (by simp) rfl fun x e σ hh => by simpa using hh
theorem L_DrR2 {p : Pg} (hp : pgOk p = true) : ∀ (m i : Nat) (now : Int) (pl : List Int), i + m = p.l.length → pl.length = i → 0 ≤ now → now ≤ 1000000 + 3000000 * i → leastF p (p.l.drop i) now < never →
    WL T [1, 3, 4, 5] false f_ref11_Drill_l15 [(1, .cref p.enc), (3, .sl σ.length 0 i 0 i 1), (4, .int .i64 now), (5, .int .i64 i)] ([.cells i (pl.flatMap intE)] :: σ)
      (fun x e σ' => x = .exit 0 ∧ get e 3 = .sl σ.length 0 p.l.length 0 p.l.length 1 ∧ σ' = [.cells p.l.length ((pl ++ drillL p (p.l.drop i) now).flatMap intE)] :: σ)
  | 0, i, now, pl, hi, hl, h0, h1, hn => by
    refine WL_step e_ref11_Drill_l15 ?_
    have g1 : i = p.l.length := by omega
    subst g1
    rw [List.drop_length]
    simp [-List.length_flatMap, -List.map_take, e_ref11_Drill_r0, e_ref11_Drill_r1, e_ref11_Drill_r2, e_ref11_Drill_r3, e_ref11_Drill_r4, e_ref11_Drill_r5, e_ref11_Drill_r6, e_ref11_Drill_r7, e_ref11_Drill_r8, e_ref11_Drill_r9, e_ref11_Drill_r10, e_ref11_Drill_r11, e_ref11_Drill_r12, e_ref11_Drill_r14, e_ref11_Drill_r16, drillL]
  | m + 1, i, now, pl, hi, hl, h0, h1, hn => by
    refine WL_step e_ref11_Drill_l15 ?_
    have hp1 := pgOk_iff.1 hp
    have g1 : i < p.l.length := by omega
    obtain ⟨y, hy⟩ : ∃ x, p.l[i]? = some x := ⟨_, List.getElem?_eq_getElem g1⟩
    have hyk := hp1.2.2.2.2.2 y (List.mem_of_getElem? hy)
    have w1 := wnext g1 (by omega)
    have hd : leastF p (p.l.drop i) now = leastF p (y :: p.l.drop (i + 1)) now := by rw [dropS hy]
    have hK := drillK_ok hp1.2.2.2.1.1 (p := p) (y := y) (ys := p.l.drop (i + 1)) (c := now) (by rw [← hd]; exact hn)
    have hnx := drill_next hp1.2.2.2.1.1 (yrOk_iff.1 hyk).2.1 (p := p) (y := y) (ys := p.l.drop (i + 1)) (c := now) (by rw [← hd]; exact hn)
    have ha := aft_le hp (c := now) (j := drillK p y (p.l.drop (i + 1)) now) h0 hK.1 hK.2.1
    have hL := fun σ => C_LeastR hp (p.l.length - i) i now σ (by omega) h0 (by omega)
    have hF := L_DrR (σ := σ) hp hy ⟨h0, h1⟩ hn hl (drillK p y (p.l.drop (i + 1)) now).toNat 0 (by omega)
    have e0 : drillL p (p.l.drop i) now = drillK p y (p.l.drop (i + 1)) now :: drillL p (p.l.drop (i + 1)) (aft p now (drillK p y (p.l.drop (i + 1)) now)) := by rw [dropS hy, drillL]
    have ih := L_DrR2 hp m (i + 1) (aft p now (drillK p y (p.l.drop (i + 1)) now)) (pl ++ [drillK p y (p.l.drop (i + 1)) now]) (by omega) (by simp [hl]) ha.1 (by omega) hnx
    rw [e0]
    simp [-List.length_flatMap, -List.map_take, e_ref11_Drill_r0, e_ref11_Drill_r1, e_ref11_Drill_r2, e_ref11_Drill_r3, e_ref11_Drill_r4, e_ref11_Drill_r5, e_ref11_Drill_r6, e_ref11_Drill_r7, e_ref11_Drill_r8, e_ref11_Drill_r9, e_ref11_Drill_r10, e_ref11_Drill_r11, e_ref11_Drill_r12, e_ref11_Drill_r14, e_ref11_Drill_r16, g1, hL]
    refine WL.to hF (by simp) rfl ?_
    rintro x e σ' ⟨rfl, g1, g3, g4, g5, rfl⟩
    simp [-List.length_flatMap, -List.map_take, e_ref11_Drill_r14, g1, g3, g4, g5, w1]
    exact WL.to ih (by simp) (by simp) fun x e σ hh => by simpa using hh
theorem C_DrillR {p : Pg} (hp : pgOk p = true) (hn : leastF p p.l p.start < never) (hσ : σ ≠ []) : lim T (.call false i_ref11_Drill [.agg [.int .i64 p.start, .int .i64 p.gain, .int .i64 p.keep, .int .i64 p.most, .lst p.l.length (p.l.flatMap Yr.enc)]] σ) = some (.val (.lst p.l.length ((drillL p p.l p.start).flatMap intE)) σ) := by
  refine call_of T_ref11_Drill e_ref11_Drill rfl ?_
  have hp1 := pgOk_iff.1 hp
  have hd := drillL_ok hp1.2.2.2.1.1 p.l p.start hp1.2.2.2.2.2 hn
  simp [-List.length_flatMap, -List.map_take, e_ref11_Drill_r0, e_ref11_Drill_r1, e_ref11_Drill_r2, e_ref11_Drill_r3, e_ref11_Drill_r4, e_ref11_Drill_r5, e_ref11_Drill_r6, e_ref11_Drill_r7, e_ref11_Drill_r8, e_ref11_Drill_r9, e_ref11_Drill_r10, e_ref11_Drill_r11, e_ref11_Drill_r12, e_ref11_Drill_r14, e_ref11_Drill_r16]
  refine WL.to (L_DrR2 (σ := σ) hp p.l.length 0 p.start [] (by omega) rfl hp1.1.1 (by omega) (by rw [List.drop_zero]; exact hn)) (by simp) (by simp) ?_
  rintro x e σ' ⟨rfl, g3, rfl⟩
  rw [List.nil_append, List.drop_zero]
  have ho := k_out (f := intE) (w := 1) (fun _ => rfl) (fun x => by simp) (l := drillL p p.l p.start) (j := 0) (v := p.l.length) (bs := [.cells p.l.length ((drillL p p.l p.start).flatMap intE)]) hσ rfl
  rw [hd.1] at ho
  simp [-List.length_flatMap, -List.map_take, e_ref11_Drill_r16, g3]
  rw [ho]
  simp
end Go.Proofs.YtcccafphhmcifaaGreat
