/-
  Programmes of layer 11: the cheapest plan, of the program.
-/
import Derived.Test.YtcccafphhmcifaaGreatE4
set_option linter.unusedVariables false
set_option linter.unusedSimpArgs false
namespace Go.Proofs.YtcccafphhmcifaaGreat
open Go Go.Abs Go.Lease
variable {σ : Stack}

theorem firstK_lt {p : Pg} {y : Yr} {g : Int → Int} {c best : Int} : ∀ (n : Nat) (k j : Int), k ≤ j → j < firstK p y g c best n k → ¬ (y.need ≤ c + j * p.gain ∧ j * y.price + g (aft p c j) = best)
  | 0, k, j, h1, h2 => by simp only [firstK] at h2; omega
  | n + 1, k, j, h1, h2 => by
    unfold firstK at h2
    split at h2
    · omega
    · rename_i h
      by_cases hj : j = k
      · subst hj; exact h
      · exact firstK_lt n (k + 1) j (by omega) h2
theorem L_find {p : Pg} (hp : pgOk p = true) {i : Nat} {y : Yr} (hy : p.l[i]? = some y) {c : Int} (hc : 0 ≤ c ∧ c ≤ held) (hn : leastF p (p.l.drop i) c < never) {d2 d4 d7 : D} {cost : Int} (s2 : d2.calm = d2) (s4 : d4.calm = d4) (s7 : d7.calm = d7) : ∀ (m k : Nat), (k : Int) + m = drillK p y (p.l.drop (i + 1)) c →
    WL T [2, 3, 4, 6, 7, 8, 9, 10, 11, 12, 34, 35] false f_lease_Drill_l19 [(2, d2), (3, .int .i64 cost), (4, d4), (6, .own 0 p.enc), (7, d7), (8, .int .i64 c), (9, .int .i64 i), (10, .lst (ladF p (p.l.drop (i + 1))).length ((ladF p (p.l.drop (i + 1))).flatMap Rn.enc)), (11, .int .i64 (leastF p (p.l.drop i) c)), (12, .int .i64 k), (34, .int .i64 p.l.length), (35, .int .i64 i)] σ
      (fun x e σ' => σ' = σ ∧ x = .exit 2 ∧ get e 2 = d2 ∧ get e 3 = .int .i64 cost ∧ get e 4 = d4 ∧ get e 6 = .own 0 p.enc ∧ get e 7 = d7 ∧ get e 8 = .int .i64 c ∧ get e 12 = .int .i64 (drillK p y (p.l.drop (i + 1)) c) ∧ get e 34 = .int .i64 p.l.length ∧ get e 35 = .int .i64 i) := by
  have hp1 := pgOk_iff.1 hp
  have hi := (List.getElem?_eq_some_iff.1 hy).1
  have hyk := hp1.2.2.2.2.2 y (List.mem_of_getElem? hy)
  have hd : leastF p (p.l.drop i) c = leastF p (y :: p.l.drop (i + 1)) c := by rw [dropS hy]
  rw [hd] at hn ⊢
  have hK := drillK_ok hp1.2.2.2.1.1 hn
  have hr := ladF_right hp (j := i + 1)
  have a1 := yr_at hy
  have step : ∀ k : Nat, (k : Int) ≤ p.most → (∀ σ, lim T (.call false i_lease_Programme_meets [.agg [.int .i64 p.start, .int .i64 p.gain, .int .i64 p.keep, .int .i64 p.most, .lst p.l.length (p.l.flatMap Yr.enc)], .int .i64 i, .int .i64 c, .int .i64 k] σ) = some (.val (.bool (decide (y.need ≤ c + k * p.gain))) σ)) ∧ (∀ σ, lim T (.call false i_lease_Year_cost [.agg [.int .i64 y.need, .int .i64 y.price], .int .i64 k] σ) = some (.val (.int .i64 (k * y.price)) σ)) ∧ (∀ σ, lim T (.call false i_lease_Programme_after [.agg [.int .i64 p.start, .int .i64 p.gain, .int .i64 p.keep, .int .i64 p.most, .lst p.l.length (p.l.flatMap Yr.enc)], .int .i64 c, .int .i64 k] σ) = some (.val (.int .i64 (aft p c k)) σ)) ∧ (∀ σ, lim T (.call false i_lease_ladder_at [.lst (ladF p (p.l.drop (i + 1))).length ((ladF p (p.l.drop (i + 1))).flatMap Rn.enc), .int .i64 (aft p c k)] σ) = some (.val (.int .i64 (leastF p (p.l.drop (i + 1)) (aft p c k))) σ)) ∧ IntKind.i64.wrap (k * y.price + leastF p (p.l.drop (i + 1)) (aft p c k)) = k * y.price + leastF p (p.l.drop (i + 1)) (aft p c k) := by
    intro k hk
    have hk3 : 0 ≤ (k : Int) ∧ (k : Int) ≤ 3 := by omega
    have hc' : 0 ≤ c ∧ c ≤ 1000000000 := by simp only [held] at hc; omega
    have hall := hr.2.all hp (fun z hz => hp1.2.2.2.2.2 z (List.mem_of_mem_drop hz)) (by simp; omega) hc.1 hc.2 (j := (k : Int)) (by omega) hk
    have ha := aft_le hp (c := c) (j := k) hc.1 (by omega) hk
    have hb := leastF_nonneg hp1.2.2.2.1.1 (p.l.drop (i + 1)) (fun z hz => hp1.2.2.2.2.2 z (List.mem_of_mem_drop hz)) (aft p c k)
    have hb2 := leastF_le (p := p) (p.l.drop (i + 1)) (aft p c k)
    have hpr := price_bd hk3 (yrOk_iff.1 hyk).2
    refine ⟨fun σ => C_meets hp hy hc' hk3, fun σ => C_cost hyk hk3, fun σ => C_after hp hc' hk3, fun σ => ?_, w64 (by simp only [never] at hb2; omega)⟩
    rw [C_at hr.1 ha.1, hall]
  intro m
  induction m with
  | zero =>
    intro k hk
    refine WL_step e_lease_Drill_l19 ?_
    have hk' : drillK p y (p.l.drop (i + 1)) c = (k : Int) := by omega
    rw [hk'] at hK ⊢
    obtain ⟨h1, h2, h3, h4, h5⟩ := step k hK.2.1
    have hn1 := hK.2.2.1
    have hn2 := hK.2.2.2
    rw [hn2] at h5
    generalize leastF p (y :: p.l.drop (i + 1)) c = best at *
    generalize leastF p (p.l.drop (i + 1)) (aft p c k) = nx at *
    generalize ladF p (p.l.drop (i + 1)) = l at *
    simp [-List.length_flatMap, -List.map_take, e_lease_Drill_r0, e_lease_Drill_r1, e_lease_Drill_r2, e_lease_Drill_r3, e_lease_Drill_r4, e_lease_Drill_r5, e_lease_Drill_r6, e_lease_Drill_r7, e_lease_Drill_r8, e_lease_Drill_r9, e_lease_Drill_r10, e_lease_Drill_r11, e_lease_Drill_r12, e_lease_Drill_r13, e_lease_Drill_r14, e_lease_Drill_r15, e_lease_Drill_r16, e_lease_Drill_r17, e_lease_Drill_r18, e_lease_Drill_r20, e_lease_Drill_r21, e_lease_Drill_r23, e_lease_Drill_r24, e_lease_Drill_r25, e_lease_Drill_r26, e_lease_Drill_r27, e_lease_Drill_r29, h1, h2, h3, h4, h5, hn1, hn2, a1, hi, s2, s4, s7]
  | succ m ih =>
    intro k hk
    refine WL_step e_lease_Drill_l19 ?_
    have ih := ih (k + 1) (by omega)
    obtain ⟨h1, h2, h3, h4, h5⟩ := step k (by omega)
    have hno : ¬ (y.need ≤ c + (k : Int) * p.gain ∧ (k : Int) * y.price + leastF p (p.l.drop (i + 1)) (aft p c k) = leastF p (y :: p.l.drop (i + 1)) c) := firstK_lt (p := p) (y := y) (g := leastF p (p.l.drop (i + 1))) (c := c) (best := leastF p (y :: p.l.drop (i + 1)) c) (p.most.toNat + 1) 0 k (by omega) (show (k : Int) < drillK p y (p.l.drop (i + 1)) c by omega)
    have w1 := w64 (n := (k : Int) + 1) (by omega)
    generalize drillK p y (p.l.drop (i + 1)) c = K at *
    generalize leastF p (y :: p.l.drop (i + 1)) c = best at *
    generalize leastF p (p.l.drop (i + 1)) (aft p c k) = nx at *
    generalize ladF p (p.l.drop (i + 1)) = l at *
    by_cases c1 : y.need ≤ c + k * p.gain
    · have c2 : ¬ (k : Int) * y.price + nx = best := fun h => hno ⟨c1, h⟩
      simp [-List.length_flatMap, -List.map_take, e_lease_Drill_r0, e_lease_Drill_r1, e_lease_Drill_r2, e_lease_Drill_r3, e_lease_Drill_r4, e_lease_Drill_r5, e_lease_Drill_r6, e_lease_Drill_r7, e_lease_Drill_r8, e_lease_Drill_r9, e_lease_Drill_r10, e_lease_Drill_r11, e_lease_Drill_r12, e_lease_Drill_r13, e_lease_Drill_r14, e_lease_Drill_r15, e_lease_Drill_r16, e_lease_Drill_r17, e_lease_Drill_r18, e_lease_Drill_r20, e_lease_Drill_r21, e_lease_Drill_r23, e_lease_Drill_r24, e_lease_Drill_r25, e_lease_Drill_r26, e_lease_Drill_r27, e_lease_Drill_r29, h1, h2, h3, h4, h5, c1, c2, a1, hi, s2, s4, s7, w1]
      exact WL.to ih (by simp) rfl fun x e σ hh => hh
    · simp [-List.length_flatMap, -List.map_take, e_lease_Drill_r0, e_lease_Drill_r1, e_lease_Drill_r2, e_lease_Drill_r3, e_lease_Drill_r4, e_lease_Drill_r5, e_lease_Drill_r6, e_lease_Drill_r7, e_lease_Drill_r8, e_lease_Drill_r9, e_lease_Drill_r10, e_lease_Drill_r11, e_lease_Drill_r12, e_lease_Drill_r13, e_lease_Drill_r14, e_lease_Drill_r15, e_lease_Drill_r16, e_lease_Drill_r17, e_lease_Drill_r18, e_lease_Drill_r20, e_lease_Drill_r21, e_lease_Drill_r23, e_lease_Drill_r24, e_lease_Drill_r25, e_lease_Drill_r26, e_lease_Drill_r27, e_lease_Drill_r29, h1, h2, h3, h4, h5, c1, a1, hi, s2, s4, s7, w1]
      exact WL.to ih (by simp) rfl fun x e σ hh => hh
theorem L_years {p : Pg} (hp : pgOk p = true) {cost : Int} : ∀ (m i : Nat) (now : Int) (pl : List Int), i + m = p.l.length → pl.length = i → 0 ≤ now → now ≤ 1000000 + 3000000 * i → leastF p (p.l.drop i) now < never →
    WL T [2, 3, 4, 6, 7, 8, 34, 35] false f_lease_Drill_l22 [(2, .sl σ.length 0 i 0 i 1), (3, .int .i64 cost), (4, .sl σ.length 1 0 0 0 1), (6, .own 0 p.enc), (7, .lst p.l.length ((lads p p.l).flatMap ladE)), (8, .int .i64 now), (34, .int .i64 p.l.length), (35, .int .i64 i)] ([.cells i (pl.flatMap intE), .cells 0 []] :: σ)
      (fun x e σ' => x = .exit 0 ∧ get e 2 = .sl σ.length 0 p.l.length 0 p.l.length 1 ∧ get e 3 = .int .i64 cost ∧ get e 4 = .sl σ.length 1 0 0 0 1 ∧ get e 7 = .lst p.l.length ((lads p p.l).flatMap ladE) ∧ σ' = [.cells p.l.length ((pl ++ drillL p (p.l.drop i) now).flatMap intE), .cells 0 []] :: σ)
  | 0, i, now, pl, hi, hl, h0, h1, hn => by
    refine WL_step e_lease_Drill_l22 ?_
    have g1 : i = p.l.length := by omega
    subst g1
    rw [List.drop_length]
    simp [-List.length_flatMap, -List.map_take, e_lease_Drill_r0, e_lease_Drill_r1, e_lease_Drill_r2, e_lease_Drill_r3, e_lease_Drill_r4, e_lease_Drill_r5, e_lease_Drill_r6, e_lease_Drill_r7, e_lease_Drill_r8, e_lease_Drill_r9, e_lease_Drill_r10, e_lease_Drill_r11, e_lease_Drill_r12, e_lease_Drill_r13, e_lease_Drill_r14, e_lease_Drill_r15, e_lease_Drill_r16, e_lease_Drill_r17, e_lease_Drill_r18, e_lease_Drill_r20, e_lease_Drill_r21, e_lease_Drill_r23, e_lease_Drill_r24, e_lease_Drill_r25, e_lease_Drill_r26, e_lease_Drill_r27, e_lease_Drill_r29, drillL]
  | m + 1, i, now, pl, hi, hl, h0, h1, hn => by
    refine WL_step e_lease_Drill_l22 ?_
    have hp1 := pgOk_iff.1 hp
    have g1 : i < p.l.length := by omega
    obtain ⟨y, hy⟩ : ∃ x, p.l[i]? = some x := ⟨_, List.getElem?_eq_getElem g1⟩
    have hyk := hp1.2.2.2.2.2 y (List.mem_of_getElem? hy)
    have hheld : now ≤ held := by simp only [held]; omega
    have hr := ladF_right hp (j := i)
    have hA := fun σ => C_at (σ := σ) hr.1 h0
    have hv : costI (ladF p (p.l.drop i)) now = leastF p (p.l.drop i) now := hr.2.val now h0 hheld
    rw [hv] at hA
    have a1 := lad_at g1
    have w1 := wnext g1 (by omega)
    have hd : leastF p (p.l.drop i) now = leastF p (y :: p.l.drop (i + 1)) now := by rw [dropS hy]
    have hK := drillK_ok hp1.2.2.2.1.1 (p := p) (y := y) (ys := p.l.drop (i + 1)) (c := now) (by rw [← hd]; exact hn)
    have hnx := drill_next hp1.2.2.2.1.1 (yrOk_iff.1 hyk).2.1 (p := p) (y := y) (ys := p.l.drop (i + 1)) (c := now) (by rw [← hd]; exact hn)
    have ha := aft_le hp (c := now) (j := drillK p y (p.l.drop (i + 1)) now) h0 hK.1 hK.2.1
    have hF := fun σ1 => L_find (σ := σ1) hp hy ⟨h0, hheld⟩ hn (d2 := .sl σ.length 0 i 0 i 1) (d4 := .sl σ.length 1 0 0 0 1) (d7 := .lst p.l.length ((lads p p.l).flatMap ladE)) (cost := cost) (by simp) (by simp) (by simp) (drillK p y (p.l.drop (i + 1)) now).toNat 0 (by omega)
    have hAf := fun σ => C_after (σ := σ) hp (c := now) (k := drillK p y (p.l.drop (i + 1)) now) (by simp only [held] at hheld; omega) (by omega)
    have e0 : drillL p (p.l.drop i) now = drillK p y (p.l.drop (i + 1)) now :: drillL p (p.l.drop (i + 1)) (aft p now (drillK p y (p.l.drop (i + 1)) now)) := by rw [dropS hy, drillL]
    have ih := L_years hp (cost := cost) m (i + 1) (aft p now (drillK p y (p.l.drop (i + 1)) now)) (pl ++ [drillK p y (p.l.drop (i + 1)) now]) (by omega) (by simp [hl]) ha.1 (by omega) hnx
    rw [e0]
    have i1 := flat_len (f := intE) (w := 1) (fun _ => rfl) pl
    rw [Nat.mul_one, hl] at i1
    have i2 : (pl.flatMap intE).take i = pl.flatMap intE := List.take_of_length_le (by omega)
    have i3 : (i + 1) * 8 ≤ room := by unfold room; omega
    have c0 : (0 : Int) ≤ (i : Int) + 1 := by omega
    by_cases c1 : i + 1 < p.l.length
    · have a2 := lad_at c1
      have c1' : (i : Int) + 1 < p.l.length := by omega
      simp [-List.length_flatMap, -List.map_take, e_lease_Drill_r0, e_lease_Drill_r1, e_lease_Drill_r2, e_lease_Drill_r3, e_lease_Drill_r4, e_lease_Drill_r5, e_lease_Drill_r6, e_lease_Drill_r7, e_lease_Drill_r8, e_lease_Drill_r9, e_lease_Drill_r10, e_lease_Drill_r11, e_lease_Drill_r12, e_lease_Drill_r13, e_lease_Drill_r14, e_lease_Drill_r15, e_lease_Drill_r16, e_lease_Drill_r17, e_lease_Drill_r18, e_lease_Drill_r20, e_lease_Drill_r21, e_lease_Drill_r23, e_lease_Drill_r24, e_lease_Drill_r25, e_lease_Drill_r26, e_lease_Drill_r27, e_lease_Drill_r29, g1, w1, c0, c1, c1', a1, a2, hA]
      refine WL.to (hF ([.cells i (pl.flatMap intE), .cells 0 []] :: σ)) (by simp) rfl ?_
      rintro x e σ' ⟨rfl, rfl, g2, g3, g4, g6, g7, g8, g12, g34, g35⟩
      simp [-List.length_flatMap, -List.map_take, e_lease_Drill_r20, e_lease_Drill_r21, g2, g3, g4, g6, g7, g8, g12, g34, g35, hAf, i1, i2, i3, w1]
      exact WL.to ih (by simp) (by simp) fun x e σ hh => by simpa using hh
    · have c1' : ¬ (i : Int) + 1 < p.l.length := by omega
      have hnil : ladF p (p.l.drop (i + 1)) = [⟨held, 0⟩] := by rw [List.drop_eq_nil_of_le (by omega)]; rfl
      simp [-List.length_flatMap, -List.map_take, e_lease_Drill_r0, e_lease_Drill_r1, e_lease_Drill_r2, e_lease_Drill_r3, e_lease_Drill_r4, e_lease_Drill_r5, e_lease_Drill_r6, e_lease_Drill_r7, e_lease_Drill_r8, e_lease_Drill_r9, e_lease_Drill_r10, e_lease_Drill_r11, e_lease_Drill_r12, e_lease_Drill_r13, e_lease_Drill_r14, e_lease_Drill_r15, e_lease_Drill_r16, e_lease_Drill_r17, e_lease_Drill_r18, e_lease_Drill_r20, e_lease_Drill_r21, e_lease_Drill_r23, e_lease_Drill_r24, e_lease_Drill_r25, e_lease_Drill_r26, e_lease_Drill_r27, e_lease_Drill_r29, g1, w1, c1, c1', a1, hA]
      refine WL.to (hF ([.cells i (pl.flatMap intE), .cells 0 []] :: σ)) (by simp [hnil]) rfl ?_
      rintro x e σ' ⟨rfl, rfl, g2, g3, g4, g6, g7, g8, g12, g34, g35⟩
      simp [-List.length_flatMap, -List.map_take, e_lease_Drill_r20, e_lease_Drill_r21, g2, g3, g4, g6, g7, g8, g12, g34, g35, hAf, i1, i2, i3, w1]
      exact WL.to ih (by simp) (by simp) fun x e σ hh => by simpa using hh
theorem L_tabs {p : Pg} {b0 : Blk} {d2 : D} {cost : Int} (s2 : d2.calm = d2) {t : List (List Rn)} (ht : t.length ≤ 1000) : ∀ (m j : Nat), j + m = t.length →
    WL T [2, 3, 4, 95, 96, 97] false f_lease_Drill_l28 [(2, d2), (3, .int .i64 cost), (4, .sl σ.length 1 j 0 j 1), (95, .lst t.length (t.flatMap ladE)), (96, .int .i64 t.length), (97, .int .i64 j)] ([b0, .cells j ((t.take j).flatMap ladE)] :: σ)
      (fun x e σ' => x = .exit 4 ∧ get e 2 = d2 ∧ get e 3 = .int .i64 cost ∧ get e 4 = .sl σ.length 1 t.length 0 t.length 1 ∧ σ' = [b0, .cells t.length (t.flatMap ladE)] :: σ)
  | 0, j, hj => by
    refine WL_step e_lease_Drill_l28 ?_
    have g1 : j = t.length := by omega
    subst g1
    simp [-List.length_flatMap, -List.map_take, e_lease_Drill_r0, e_lease_Drill_r1, e_lease_Drill_r2, e_lease_Drill_r3, e_lease_Drill_r4, e_lease_Drill_r5, e_lease_Drill_r6, e_lease_Drill_r7, e_lease_Drill_r8, e_lease_Drill_r9, e_lease_Drill_r10, e_lease_Drill_r11, e_lease_Drill_r12, e_lease_Drill_r13, e_lease_Drill_r14, e_lease_Drill_r15, e_lease_Drill_r16, e_lease_Drill_r17, e_lease_Drill_r18, e_lease_Drill_r20, e_lease_Drill_r21, e_lease_Drill_r23, e_lease_Drill_r24, e_lease_Drill_r25, e_lease_Drill_r26, e_lease_Drill_r27, e_lease_Drill_r29, s2]
  | m + 1, j, hj => by
    refine WL_step e_lease_Drill_l28 ?_
    have g1 : j < t.length := by omega
    obtain ⟨l, hx⟩ : ∃ x, t[j]? = some x := ⟨_, List.getElem?_eq_getElem g1⟩
    have a1 : ((t.flatMap ladE).drop j).take 1 = [.lst l.length (l.flatMap Rn.enc)] := by
      have := flat_at (f := ladE) (w := 1) (fun _ => rfl) hx
      simpa using this
    have a2 := flat_snoc (f := ladE) hx
    have a3 := flat_len (f := ladE) (w := 1) (fun _ => rfl) (t.take j)
    have a4 : min j t.length = j := by omega
    simp only [List.length_take, a4, Nat.mul_one] at a3
    have a5 : ((t.take j).flatMap ladE).take j = (t.take j).flatMap ladE := List.take_of_length_le (by omega)
    have w1 := wnext g1 (by omega)
    have g7 : (j + 1) * 24 ≤ room := by unfold room; omega
    have ih := L_tabs (p := p) (b0 := b0) (cost := cost) s2 ht m (j + 1) (by omega)
    rw [← a2] at ih
    simp [-List.length_flatMap, -List.map_take, e_lease_Drill_r0, e_lease_Drill_r1, e_lease_Drill_r2, e_lease_Drill_r3, e_lease_Drill_r4, e_lease_Drill_r5, e_lease_Drill_r6, e_lease_Drill_r7, e_lease_Drill_r8, e_lease_Drill_r9, e_lease_Drill_r10, e_lease_Drill_r11, e_lease_Drill_r12, e_lease_Drill_r13, e_lease_Drill_r14, e_lease_Drill_r15, e_lease_Drill_r16, e_lease_Drill_r17, e_lease_Drill_r18, e_lease_Drill_r20, e_lease_Drill_r21, e_lease_Drill_r23, e_lease_Drill_r24, e_lease_Drill_r25, e_lease_Drill_r26, e_lease_Drill_r27, e_lease_Drill_r29, g1, a1, a3, a4, a5, w1, g7, s2]
    exact WL.to ih (by simp) (by simp) fun x e σ hh => hh
def drillD (p : Pg) : D :=
  if pgOk p then (if leastF p p.l p.start = never then .tup [.lst 0 [], .int .i64 0, .lst 0 [], .int .i64 7] else .tup [.lst p.l.length ((drillL p p.l p.start).flatMap intE), .int .i64 (leastF p p.l p.start), .lst p.l.length ((lads p p.l).flatMap ladE), .int .i64 0]) else .tup [.lst 0 [], .int .i64 0, .lst 0 [], .int .i64 1]
theorem C_Drill {p : Pg} (hl : p.l.length ≤ 1000000) (hσ : σ ≠ []) : lim T (.call false i_lease_Drill [.agg [.int .i64 p.start, .int .i64 p.gain, .int .i64 p.keep, .int .i64 p.most, .lst p.l.length (p.l.flatMap Yr.enc)]] σ) = some (.val (drillD p) σ) := by
  refine call_of T_lease_Drill e_lease_Drill rfl ?_
  have hV := fun σ => C_pvalid (σ := σ) hl
  have h3 : ¬ σ.length ≤ σ.length - 1 := by have := List.length_pos_iff.2 hσ; omega
  unfold drillD
  cases h1 : pgOk p
  · simp [-List.length_flatMap, -List.map_take, e_lease_Drill_r0, e_lease_Drill_r1, e_lease_Drill_r2, e_lease_Drill_r3, e_lease_Drill_r4, e_lease_Drill_r5, e_lease_Drill_r6, e_lease_Drill_r7, e_lease_Drill_r8, e_lease_Drill_r9, e_lease_Drill_r10, e_lease_Drill_r11, e_lease_Drill_r12, e_lease_Drill_r13, e_lease_Drill_r14, e_lease_Drill_r15, e_lease_Drill_r16, e_lease_Drill_r17, e_lease_Drill_r18, e_lease_Drill_r20, e_lease_Drill_r21, e_lease_Drill_r23, e_lease_Drill_r24, e_lease_Drill_r25, e_lease_Drill_r26, e_lease_Drill_r27, e_lease_Drill_r29, hV, h1]
    rw [frz_tup (by simp) (by omega)]
    have e1 : frz (σ.length - 1) 15 (.sl σ.length 2 0 0 0 1) ([.cells 0 [], .cells 0 [], .cells 0 [], .cells 0 []] :: σ) = (.lst 0 [], [.cells 0 [], .cells 0 [], .dead, .cells 0 []] :: σ) := by
      rw [frz_sl h3 (cs := []) (by simp) (by omega)]
      simp
    have e2 : frz (σ.length - 1) 15 (.sl σ.length 3 0 0 0 1) ([.cells 0 [], .cells 0 [], .dead, .cells 0 []] :: σ) = (.lst 0 [], [.cells 0 [], .cells 0 [], .dead, .dead] :: σ) := by
      rw [frz_sl h3 (cs := []) (by simp) (by omega)]
      simp
    simp [e1, e2]
  have hp1 := pgOk_iff.1 h1
  have hj : 0 < p.l.length := by omega
  have hT := fun σ (hσ : σ ≠ []) => C_table (σ := σ) h1 hσ
  have hr := ladF_right h1 (j := 0)
  have hA := fun σ => C_at (σ := σ) hr.1 hp1.1.1
  have hv : costI (ladF p (p.l.drop 0)) p.start = leastF p (p.l.drop 0) p.start := hr.2.val p.start hp1.1.1 (by simp only [held]; omega)
  have a1 := lad_at hj
  rw [hv] at hA
  simp only [List.drop_zero] at hA a1
  by_cases h5 : leastF p p.l p.start = 1000000000000
  · simp [-List.length_flatMap, -List.map_take, e_lease_Drill_r0, e_lease_Drill_r1, e_lease_Drill_r2, e_lease_Drill_r3, e_lease_Drill_r4, e_lease_Drill_r5, e_lease_Drill_r6, e_lease_Drill_r7, e_lease_Drill_r8, e_lease_Drill_r9, e_lease_Drill_r10, e_lease_Drill_r11, e_lease_Drill_r12, e_lease_Drill_r13, e_lease_Drill_r14, e_lease_Drill_r15, e_lease_Drill_r16, e_lease_Drill_r17, e_lease_Drill_r18, e_lease_Drill_r20, e_lease_Drill_r21, e_lease_Drill_r23, e_lease_Drill_r24, e_lease_Drill_r25, e_lease_Drill_r26, e_lease_Drill_r27, e_lease_Drill_r29, hV, h1, hT, a1, hj, hA, h5]
    rw [frz_tup (by simp) (by omega)]
    have e1 : frz (σ.length - 1) 15 (.sl σ.length 2 0 0 0 1) ([.cells 0 [], .cells 0 [], .cells 0 [], .cells 0 []] :: σ) = (.lst 0 [], [.cells 0 [], .cells 0 [], .dead, .cells 0 []] :: σ) := by
      rw [frz_sl h3 (cs := []) (by simp) (by omega)]
      simp
    have e2 : frz (σ.length - 1) 15 (.sl σ.length 3 0 0 0 1) ([.cells 0 [], .cells 0 [], .dead, .cells 0 []] :: σ) = (.lst 0 [], [.cells 0 [], .cells 0 [], .dead, .dead] :: σ) := by
      rw [frz_sl h3 (cs := []) (by simp) (by omega)]
      simp
    simp [e1, e2]
  · simp [-List.length_flatMap, -List.map_take, e_lease_Drill_r0, e_lease_Drill_r1, e_lease_Drill_r2, e_lease_Drill_r3, e_lease_Drill_r4, e_lease_Drill_r5, e_lease_Drill_r6, e_lease_Drill_r7, e_lease_Drill_r8, e_lease_Drill_r9, e_lease_Drill_r10, e_lease_Drill_r11, e_lease_Drill_r12, e_lease_Drill_r13, e_lease_Drill_r14, e_lease_Drill_r15, e_lease_Drill_r16, e_lease_Drill_r17, e_lease_Drill_r18, e_lease_Drill_r20, e_lease_Drill_r21, e_lease_Drill_r23, e_lease_Drill_r24, e_lease_Drill_r25, e_lease_Drill_r26, e_lease_Drill_r27, e_lease_Drill_r29, hV, h1, hT, a1, hj, hA, h5]
    have hd := drillL_ok hp1.2.2.2.1.1 p.l p.start hp1.2.2.2.2.2 (by have := leastF_le (p := p) p.l p.start; simp only [never] at *; omega)
    refine WL.to (L_years (σ := σ) h1 (cost := leastF p p.l p.start) p.l.length 0 p.start [] (by omega) rfl hp1.1.1 (by omega) (by have := leastF_le (p := p) p.l p.start; simp only [never, List.drop_zero] at *; omega)) (by simp) (by simp) ?_
    rintro x e σ' ⟨rfl, g2, g3, g4, g7, rfl⟩
    rw [List.nil_append, List.drop_zero]
    have hlen := lads_len (p := p) p.l
    have hL := L_tabs (σ := σ) (p := p) (b0 := .cells p.l.length ((drillL p p.l p.start).flatMap intE)) (d2 := .sl σ.length 0 p.l.length 0 p.l.length 1) (cost := leastF p p.l p.start) (by simp) (t := lads p p.l) (by omega) p.l.length 0 (by omega)
    rw [hlen] at hL
    simp [-List.length_flatMap, -List.map_take, e_lease_Drill_r23, g2, g3, g4, g7]
    refine WL.to hL (by simp) (by simp) ?_
    rintro x e σ' ⟨rfl, g2, g3, g4, rfl⟩
    simp [-List.length_flatMap, -List.map_take, e_lease_Drill_r29, g2, g3, g4]
    rw [frz_tup (by simp) (by omega)]
    have e1 := out_at (σ := σ) (n := 15) (f := intE) (w := 1) (by decide) (fun _ => rfl) (fun x => by simp) (l := drillL p p.l p.start) (j := 0) (v := p.l.length) (bs := [.cells p.l.length ((drillL p p.l p.start).flatMap intE), .cells p.l.length ((lads p p.l).flatMap ladE)]) hσ rfl
    have e2 := out_at (σ := σ) (n := 15) (f := ladE) (w := 1) (by decide) (fun _ => rfl) (fun x => by simp) (l := lads p p.l) (j := 1) (v := p.l.length) (bs := [.dead, .cells p.l.length ((lads p p.l).flatMap ladE)]) hσ rfl
    rw [hd.1] at e1
    rw [hlen] at e2
    simp only [List.set_cons_zero, List.set_cons_succ] at e1 e2
    simp [e1, e2, h5]
end Go.Proofs.YtcccafphhmcifaaGreat
