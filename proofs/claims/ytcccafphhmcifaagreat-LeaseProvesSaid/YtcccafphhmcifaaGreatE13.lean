/-
  Programmes of layer 11: calls that are kept in their caller's segment.
-/
import Derived.Test.YtcccafphhmcifaaGreatE11
import Derived.Test.YtcccafphhmcifaaGreatD2
set_option linter.unusedVariables false
set_option linter.unusedSimpArgs false
namespace Go.Proofs.YtcccafphhmcifaaGreat
open Go Go.Abs Go.Lease
variable {σ : Stack}

@[simp] theorem gb0 {bs r : List Blk} {a : Blk} : (bs ++ a :: r)[bs.length]? = some a := by simp
@[simp] theorem gb1 {bs r : List Blk} {a b : Blk} : (bs ++ a :: b :: r)[bs.length + 1]? = some b := by
  rw [List.getElem?_append_right (by omega), show bs.length + 1 - bs.length = 1 by omega]; rfl
@[simp] theorem sb0 {bs r : List Blk} {a x : Blk} : (bs ++ a :: r).set bs.length x = bs ++ x :: r := by
  rw [List.set_append_right _ _ (by omega), Nat.sub_self]; rfl
@[simp] theorem sb1 {bs r : List Blk} {a b x : Blk} : (bs ++ a :: b :: r).set (bs.length + 1) x = bs ++ a :: x :: r := by
  rw [List.set_append_right _ _ (by omega), show bs.length + 1 - bs.length = 1 by omega]; rfl
theorem L_yearsK {bs : List Blk} {p : Pg} (hp : pgOk p = true) {cost : Int} : ∀ (m i : Nat) (now : Int) (pl : List Int), i + m = p.l.length → pl.length = i → 0 ≤ now → now ≤ 1000000 + 3000000 * i → leastF p (p.l.drop i) now < never →
    WL T [2, 3, 4, 6, 7, 8, 34, 35] false f_lease_Drill_l22 [(2, .sl σ.length bs.length i 0 i 1), (3, .int .i64 cost), (4, .sl σ.length (bs.length + 1) 0 0 0 1), (6, .own 0 p.enc), (7, .lst p.l.length ((lads p p.l).flatMap ladE)), (8, .int .i64 now), (34, .int .i64 p.l.length), (35, .int .i64 i)] ((bs ++ [.cells i (pl.flatMap intE), .cells 0 []]) :: σ)
      (fun x e σ' => x = .exit 0 ∧ get e 2 = .sl σ.length bs.length p.l.length 0 p.l.length 1 ∧ get e 3 = .int .i64 cost ∧ get e 4 = .sl σ.length (bs.length + 1) 0 0 0 1 ∧ get e 7 = .lst p.l.length ((lads p p.l).flatMap ladE) ∧ σ' = (bs ++ [.cells p.l.length ((pl ++ drillL p (p.l.drop i) now).flatMap intE), .cells 0 []]) :: σ)
  | 0, i, now, pl, hi, hl, h0, h1, hn => by
    refine WL_step e_lease_Drill_l22 ?_
    have g1 : i = p.l.length := by omega
    subst g1
    rw [List.drop_length]
    simp [-List.length_flatMap, -List.map_take, e_lease_Drill_r0, e_lease_Drill_r1, e_lease_Drill_r2, e_lease_Drill_r3, e_lease_Drill_r4, e_lease_Drill_r5, e_lease_Drill_r6, e_lease_Drill_r7, e_lease_Drill_r8, e_lease_Drill_r9, e_lease_Drill_r10, e_lease_Drill_r11, e_lease_Drill_r12, e_lease_Drill_r13, e_lease_Drill_r14, e_lease_Drill_r15, e_lease_Drill_r16, e_lease_Drill_r17, e_lease_Drill_r18, e_lease_Drill_r20, e_lease_Drill_r21, e_lease_Drill_r23, e_lease_Drill_r24, e_lease_Drill_r25, e_lease_Drill_r26, e_lease_Drill_r27, e_lease_Drill_r29, drillL]
  | m + 1, i, now, pl, hi, hl, h0, h1, hn => by
    refine WL_step e_lease_Drill_l22 ?_
    have hp1 := pgOk_iff.1 hp
    have g1 : i < p.l.length := by omega
    obtain ⟨y, hy⟩ : ∃ x, p.l[i]? = some x := ⟨_, List.getElem?_eq_getElem g1⟩
    have hyk := hp1.2.2.2.2.2 y (List.mem_of_getElem? hy)
    have hheld : now ≤ held := by simp only [held]; omega
    have hr := ladF_right hp (j := i)
    have hA := fun σ => C_at (σ := σ) hr.1 h0
    have hv : costI (ladF p (p.l.drop i)) now = leastF p (p.l.drop i) now := hr.2.val now h0 hheld
    rw [hv] at hA
    have a1 := lad_at g1
    have w1 := wnext g1 (by omega)
    have hd : leastF p (p.l.drop i) now = leastF p (y :: p.l.drop (i + 1)) now := by rw [dropS hy]
    have hK := drillK_ok hp1.2.2.2.1.1 (p := p) (y := y) (ys := p.l.drop (i + 1)) (c := now) (by rw [← hd]; exact hn)
    have hnx := drill_next hp1.2.2.2.1.1 (yrOk_iff.1 hyk).2.1 (p := p) (y := y) (ys := p.l.drop (i + 1)) (c := now) (by rw [← hd]; exact hn)
    have ha := aft_le hp (c := now) (j := drillK p y (p.l.drop (i + 1)) now) h0 hK.1 hK.2.1
    have hF := fun σ1 => L_find (σ := σ1) hp hy ⟨h0, hheld⟩ hn (d2 := .sl σ.length bs.length i 0 i 1) (d4 := .sl σ.length (bs.length + 1) 0 0 0 1) (d7 := .lst p.l.length ((lads p p.l).flatMap ladE)) (cost := cost) (by simp) (by simp) (by simp) (drillK p y (p.l.drop (i + 1)) now).toNat 0 (by omega)
    have hAf := fun σ => C_after (σ := σ) hp (c := now) (k := drillK p y (p.l.drop (i + 1)) now) (by simp only [held] at hheld; omega) (by omega)
    have e0 : drillL p (p.l.drop i) now = drillK p y (p.l.drop (i + 1)) now :: drillL p (p.l.drop (i + 1)) (aft p now (drillK p y (p.l.drop (i + 1)) now)) := by rw [dropS hy, drillL]
    have ih := L_yearsK (bs := bs) hp (cost := cost) m (i + 1) (aft p now (drillK p y (p.l.drop (i + 1)) now)) (pl ++ [drillK p y (p.l.drop (i + 1)) now]) (by omega) (by simp [hl]) ha.1 (by omega) hnx
    rw [e0]
    have i1 := flat_len (f := intE) (w := 1) (fun _ => rfl) pl
    rw [Nat.mul_one, hl] at i1
    have i2 : (pl.flatMap intE).take i = pl.flatMap intE := List.take_of_length_le (by omega)
    have i3 : (i + 1) * 8 ≤ room := by unfold room; omega
    have c0 : (0 : Int) ≤ (i : Int) + 1 := by omega
    by_cases c1 : i + 1 < p.l.length
    · have a2 := lad_at c1
      have c1' : (i : Int) + 1 < p.l.length := by omega
      simp [-List.length_flatMap, -List.map_take, e_lease_Drill_r0, e_lease_Drill_r1, e_lease_Drill_r2, e_lease_Drill_r3, e_lease_Drill_r4, e_lease_Drill_r5, e_lease_Drill_r6, e_lease_Drill_r7, e_lease_Drill_r8, e_lease_Drill_r9, e_lease_Drill_r10, e_lease_Drill_r11, e_lease_Drill_r12, e_lease_Drill_r13, e_lease_Drill_r14, e_lease_Drill_r15, e_lease_Drill_r16, e_lease_Drill_r17, e_lease_Drill_r18, e_lease_Drill_r20, e_lease_Drill_r21, e_lease_Drill_r23, e_lease_Drill_r24, e_lease_Drill_r25, e_lease_Drill_r26, e_lease_Drill_r27, e_lease_Drill_r29, g1, w1, c0, c1, c1', a1, a2, hA]
      refine WL.to (hF ((bs ++ [.cells i (pl.flatMap intE), .cells 0 []]) :: σ)) (by simp) rfl ?_
      rintro x e σ' ⟨rfl, rfl, g2, g3, g4, g6, g7, g8, g12, g34, g35⟩
      simp [-List.length_flatMap, -List.map_take, e_lease_Drill_r20, e_lease_Drill_r21, g2, g3, g4, g6, g7, g8, g12, g34, g35, hAf, i1, i2, i3, w1]
      exact WL.to ih (by simp) (by simp) fun x e σ hh => by simpa using hh
    · have c1' : ¬ (i : Int) + 1 < p.l.length := by omega
      have hnil : ladF p (p.l.drop (i + 1)) = [⟨held, 0⟩] := by rw [List.drop_eq_nil_of_le (by omega)]; rfl
      simp [-List.length_flatMap, -List.map_take, e_lease_Drill_r0, e_lease_Drill_r1, e_lease_Drill_r2, e_lease_Drill_r3, e_lease_Drill_r4, e_lease_Drill_r5, e_lease_Drill_r6, e_lease_Drill_r7, e_lease_Drill_r8, e_lease_Drill_r9, e_lease_Drill_r10, e_lease_Drill_r11, e_lease_Drill_r12, e_lease_Drill_r13, e_lease_Drill_r14, e_lease_Drill_r15, e_lease_Drill_r16, e_lease_Drill_r17, e_lease_Drill_r18, e_lease_Drill_r20, e_lease_Drill_r21, e_lease_Drill_r23, e_lease_Drill_r24, e_lease_Drill_r25, e_lease_Drill_r26, e_lease_Drill_r27, e_lease_Drill_r29, g1, w1, c1, c1', a1, hA]
      refine WL.to (hF ((bs ++ [.cells i (pl.flatMap intE), .cells 0 []]) :: σ)) (by simp [hnil]) rfl ?_
      rintro x e σ' ⟨rfl, rfl, g2, g3, g4, g6, g7, g8, g12, g34, g35⟩
      simp [-List.length_flatMap, -List.map_take, e_lease_Drill_r20, e_lease_Drill_r21, g2, g3, g4, g6, g7, g8, g12, g34, g35, hAf, i1, i2, i3, w1]
      exact WL.to ih (by simp) (by simp) fun x e σ hh => by simpa using hh
theorem L_tabsK {bs : List Blk} {p : Pg} {b0 : Blk} {d2 : D} {cost : Int} (s2 : d2.calm = d2) {t : List (List Rn)} (ht : t.length ≤ 1000) : ∀ (m j : Nat), j + m = t.length →
    WL T [2, 3, 4, 95, 96, 97] false f_lease_Drill_l28 [(2, d2), (3, .int .i64 cost), (4, .sl σ.length (bs.length + 1) j 0 j 1), (95, .lst t.length (t.flatMap ladE)), (96, .int .i64 t.length), (97, .int .i64 j)] ((bs ++ [b0, .cells j ((t.take j).flatMap ladE)]) :: σ)
      (fun x e σ' => x = .exit 4 ∧ get e 2 = d2 ∧ get e 3 = .int .i64 cost ∧ get e 4 = .sl σ.length (bs.length + 1) t.length 0 t.length 1 ∧ σ' = (bs ++ [b0, .cells t.length (t.flatMap ladE)]) :: σ)
  | 0, j, hj => by
    refine WL_step e_lease_Drill_l28 ?_
    have g1 : j = t.length := by omega
    subst g1
    simp [-List.length_flatMap, -List.map_take, e_lease_Drill_r0, e_lease_Drill_r1, e_lease_Drill_r2, e_lease_Drill_r3, e_lease_Drill_r4, e_lease_Drill_r5, e_lease_Drill_r6, e_lease_Drill_r7, e_lease_Drill_r8, e_lease_Drill_r9, e_lease_Drill_r10, e_lease_Drill_r11, e_lease_Drill_r12, e_lease_Drill_r13, e_lease_Drill_r14, e_lease_Drill_r15, e_lease_Drill_r16, e_lease_Drill_r17, e_lease_Drill_r18, e_lease_Drill_r20, e_lease_Drill_r21, e_lease_Drill_r23, e_lease_Drill_r24, e_lease_Drill_r25, e_lease_Drill_r26, e_lease_Drill_r27, e_lease_Drill_r29, s2]
  | m + 1, j, hj => by
    refine WL_step e_lease_Drill_l28 ?_
    have g1 : j < t.length := by omega
    obtain ⟨l, hx⟩ : ∃ x, t[j]? = some x := ⟨_, List.getElem?_eq_getElem g1⟩
    have a1 : ((t.flatMap ladE).drop j).take 1 = [.lst l.length (l.flatMap Rn.enc)] := by
      have := flat_at (f := ladE) (w := 1) (fun _ => rfl) hx
      simpa using this
    have a2 := flat_snoc (f := ladE) hx
    have a3 := flat_len (f := ladE) (w := 1) (fun _ => rfl) (t.take j)
    have a4 : min j t.length = j := by omega
    simp only [List.length_take, a4, Nat.mul_one] at a3
    have a5 : ((t.take j).flatMap ladE).take j = (t.take j).flatMap ladE := List.take_of_length_le (by omega)
    have w1 := wnext g1 (by omega)
    have g7 : (j + 1) * 24 ≤ room := by unfold room; omega
    have ih := L_tabsK (bs := bs) (p := p) (b0 := b0) (cost := cost) s2 ht m (j + 1) (by omega)
    rw [← a2] at ih
    simp [-List.length_flatMap, -List.map_take, e_lease_Drill_r0, e_lease_Drill_r1, e_lease_Drill_r2, e_lease_Drill_r3, e_lease_Drill_r4, e_lease_Drill_r5, e_lease_Drill_r6, e_lease_Drill_r7, e_lease_Drill_r8, e_lease_Drill_r9, e_lease_Drill_r10, e_lease_Drill_r11, e_lease_Drill_r12, e_lease_Drill_r13, e_lease_Drill_r14, e_lease_Drill_r15, e_lease_Drill_r16, e_lease_Drill_r17, e_lease_Drill_r18, e_lease_Drill_r20, e_lease_Drill_r21, e_lease_Drill_r23, e_lease_Drill_r24, e_lease_Drill_r25, e_lease_Drill_r26, e_lease_Drill_r27, e_lease_Drill_r29, g1, a1, a3, a4, a5, w1, g7, s2]
    exact WL.to ih (by simp) (by simp) fun x e σ hh => hh
theorem C_DrillK {p : Pg} (h1 : pgOk p = true) {bs : List Blk} : lim T (.call true i_lease_Drill [.agg [.int .i64 p.start, .int .i64 p.gain, .int .i64 p.keep, .int .i64 p.most, .lst p.l.length (p.l.flatMap Yr.enc)]] (bs :: σ)) = some (.val
    (if leastF p p.l p.start = never then .tup [.sl σ.length (bs.length + 2) 0 0 0 1, .int .i64 0, .sl σ.length (bs.length + 3) 0 0 0 1, .int .i64 7] else .tup [.sl σ.length bs.length p.l.length 0 p.l.length 1, .int .i64 (leastF p p.l p.start), .sl σ.length (bs.length + 1) p.l.length 0 p.l.length 1, .int .i64 0])
    (if leastF p p.l p.start = never then (bs ++ [.cells 0 [], .cells 0 [], .cells 0 [], .cells 0 []]) :: σ else (bs ++ [.cells p.l.length ((drillL p p.l p.start).flatMap intE), .cells p.l.length ((lads p p.l).flatMap ladE)]) :: σ)) := by
  refine call_kp T_lease_Drill e_lease_Drill rfl ?_
  have hp1 := pgOk_iff.1 h1
  have hV := fun σ => C_pvalid (σ := σ) (p := p) (by omega)
  have hj : 0 < p.l.length := by omega
  have hT := fun σ (hσ : σ ≠ []) => C_table (σ := σ) h1 hσ
  have hr := ladF_right h1 (j := 0)
  have hA := fun σ => C_at (σ := σ) hr.1 hp1.1.1
  have hv : costI (ladF p (p.l.drop 0)) p.start = leastF p (p.l.drop 0) p.start := hr.2.val p.start hp1.1.1 (by simp only [held]; omega)
  have a1 := lad_at hj
  rw [hv] at hA
  simp only [List.drop_zero] at hA a1
  by_cases h5 : leastF p p.l p.start = 1000000000000
  · simp [-List.length_flatMap, -List.map_take, e_lease_Drill_r0, e_lease_Drill_r1, e_lease_Drill_r2, e_lease_Drill_r3, e_lease_Drill_r4, e_lease_Drill_r5, e_lease_Drill_r6, e_lease_Drill_r7, e_lease_Drill_r8, e_lease_Drill_r9, e_lease_Drill_r10, e_lease_Drill_r11, e_lease_Drill_r12, e_lease_Drill_r13, e_lease_Drill_r14, e_lease_Drill_r15, e_lease_Drill_r16, e_lease_Drill_r17, e_lease_Drill_r18, e_lease_Drill_r20, e_lease_Drill_r21, e_lease_Drill_r23, e_lease_Drill_r24, e_lease_Drill_r25, e_lease_Drill_r26, e_lease_Drill_r27, e_lease_Drill_r29, hV, h1, hT, a1, hj, hA, h5]
  · simp [-List.length_flatMap, -List.map_take, e_lease_Drill_r0, e_lease_Drill_r1, e_lease_Drill_r2, e_lease_Drill_r3, e_lease_Drill_r4, e_lease_Drill_r5, e_lease_Drill_r6, e_lease_Drill_r7, e_lease_Drill_r8, e_lease_Drill_r9, e_lease_Drill_r10, e_lease_Drill_r11, e_lease_Drill_r12, e_lease_Drill_r13, e_lease_Drill_r14, e_lease_Drill_r15, e_lease_Drill_r16, e_lease_Drill_r17, e_lease_Drill_r18, e_lease_Drill_r20, e_lease_Drill_r21, e_lease_Drill_r23, e_lease_Drill_r24, e_lease_Drill_r25, e_lease_Drill_r26, e_lease_Drill_r27, e_lease_Drill_r29, hV, h1, hT, a1, hj, hA, h5]
    have hd := drillL_ok hp1.2.2.2.1.1 p.l p.start hp1.2.2.2.2.2 (by have := leastF_le (p := p) p.l p.start; simp only [never] at *; omega)
    refine WL.to (L_yearsK (σ := σ) (bs := bs) h1 (cost := leastF p p.l p.start) p.l.length 0 p.start [] (by omega) rfl hp1.1.1 (by omega) (by have := leastF_le (p := p) p.l p.start; simp only [never, List.drop_zero] at *; omega)) (by simp) (by simp) ?_
    rintro x e σ' ⟨rfl, g2, g3, g4, g7, rfl⟩
    rw [List.nil_append, List.drop_zero]
    have hlen := lads_len (p := p) p.l
    have hL := L_tabsK (σ := σ) (bs := bs) (p := p) (b0 := .cells p.l.length ((drillL p p.l p.start).flatMap intE)) (d2 := .sl σ.length bs.length p.l.length 0 p.l.length 1) (cost := leastF p p.l p.start) (by simp) (t := lads p p.l) (by omega) p.l.length 0 (by omega)
    rw [hlen] at hL
    simp [-List.length_flatMap, -List.map_take, e_lease_Drill_r23, g2, g3, g4, g7]
    refine WL.to hL (by simp) (by simp) ?_
    rintro x e σ' ⟨rfl, g2, g3, g4, rfl⟩
    simp [-List.length_flatMap, -List.map_take, e_lease_Drill_r29, g2, g3, g4, h5]
theorem C_listK {bs : List Blk} {l : List Int} (hl : l.length ≤ 100000) : lim T (.call true i_law11_list [.lst l.length (l.flatMap intE)] (bs :: σ)) = some (.val (.sl σ.length bs.length 1 0 l.length 1) ((bs ++ [.cells 1 (l.flatMap intE)]) :: σ)) := by
  refine call_kp T_law11_list e_law11_list rfl ?_
  have h5 := flat_len (f := intE) (w := 1) (fun _ => rfl) l
  rw [Nat.mul_one] at h5
  have h6 : l.length * 8 ≤ room := by unfold room; omega
  simp [-List.length_flatMap, -List.map_take, e_law11_list_r0, e_law11_list_r1, h5, h6]

/-! ### Tables whose rows stand in blocks of their own -/

def rowB (l : List Rn) : Blk := .cells l.length (l.flatMap Rn.enc)
def rowsD (L : Nat) : Nat → List (List Rn) → List D
  | _, [] => []
  | n, l :: t => .sl L n l.length 0 l.length 2 :: rowsD L (n + 1) t
theorem rowsD_len (L : Nat) : ∀ (n : Nat) (t : List (List Rn)), (rowsD L n t).length = t.length
  | _, [] => rfl
  | n, l :: t => by simp [rowsD, rowsD_len L (n + 1) t]
theorem rowsD_snoc (L : Nat) (l : List Rn) : ∀ (n : Nat) (t : List (List Rn)), rowsD L n (t ++ [l]) = rowsD L n t ++ [.sl L (n + t.length) l.length 0 l.length 2]
  | n, [] => by simp [rowsD]
  | n, a :: t => by simp [rowsD, rowsD_snoc L l (n + 1) t, Nat.add_assoc, Nat.add_comm 1]
theorem rowsD_at (L : Nat) : ∀ (n y : Nat) (t : List (List Rn)) (l : List Rn), t[y]? = some l → (rowsD L n t).drop y = .sl L (n + y) l.length 0 l.length 2 :: (rowsD L n t).drop (y + 1)
  | n, y, [], l, h => by simp at h
  | n, 0, a :: t, l, h => by simp at h; subst h; simp [rowsD]
  | n, y + 1, a :: t, l, h => by
    have := rowsD_at L (n + 1) y t l (by simpa using h)
    simp only [rowsD, List.drop_succ_cons]
    rw [this, show n + 1 + y = n + (y + 1) by omega]
theorem rowsD_set (L : Nat) {l' : List Rn} : ∀ (n y : Nat) (t : List (List Rn)) (l : List Rn), t[y]? = some l → l'.length = l.length → rowsD L n (t.set y l') = rowsD L n t
  | n, y, [], l, h, _ => by simp at h
  | n, 0, a :: t, l, h, hl => by simp at h; subst h; simp [rowsD, hl]
  | n, y + 1, a :: t, l, h, hl => by
    have := rowsD_set L (l' := l') (n + 1) y t l (by simpa using h) hl
    simp only [List.set_cons_succ, rowsD, this]
theorem frz_nest {l0 n : Nat} (h0 : l0 < σ.length) (hn : 1 < n) : ∀ (t : List (List Rn)) (A C : List Blk), frz.frzL (frz l0 n) (rowsD σ.length A.length t) ((A ++ (t.map rowB ++ C)) :: σ) = (t.flatMap ladE, (A ++ (List.replicate t.length .dead ++ C)) :: σ)
  | [], A, C => by simp [rowsD]
  | l :: t, A, C => by
    have h1 : ¬ σ.length ≤ l0 := by omega
    have h2 := k_self (f := Rn.enc) (w := 2) (fun _ => rfl) l
    have h3 : 0 < n - 1 := by omega
    have ih := frz_nest h0 hn t (A ++ [.dead]) C
    simp only [List.length_append, List.length_cons, List.length_nil, Nat.zero_add] at ih
    have e1 : frz l0 n (.sl σ.length A.length l.length 0 l.length 2) ((A ++ (rowB l :: (t.map rowB ++ C))) :: σ) = (.lst l.length (l.flatMap Rn.enc), (A ++ (.dead :: (t.map rowB ++ C))) :: σ) := by
      rw [frz_sl h1 (cs := l.flatMap Rn.enc) (by simp [rowB]) (by omega)]
      simp [h2, h3]
    have e2 : (A ++ (.dead :: (t.map rowB ++ C))) = (A ++ [.dead]) ++ (t.map rowB ++ C) := by simp
    simp only [rowsD, frzL_cons, List.map_cons, List.cons_append]
    rw [e1, e2, ih]
    simp [List.replicate_succ]
def segK (L : Nat) (bs : List Blk) (t : List (List Rn)) : List Blk := bs ++ (.cells t.length (rowsD L (bs.length + 1) t) :: t.map rowB)
theorem L_tk1 {pre : List Blk} {t : List (List Rn)} (ht : t.length ≤ 100000) {y : Nat} {l : List Rn} (hy : t[y]? = some l) (hl : l.length ≤ 100000) {d3 : D} (s3 : d3.calm = d3) : ∀ (m k v : Nat), k + m = l.length → v = k →
    WL T [0, 3, 4, 5, 6] false f_law11_table_l9 [(0, .lst t.length (t.flatMap ladE)), (3, d3), (4, .int .i64 y), (5, .sl σ.length pre.length v 0 k 2), (6, .int .i64 k)] ((pre ++ [.cells v ((l.take k).flatMap Rn.enc)]) :: σ)
      (fun x e σ' => x = .exit 2 ∧ get e 0 = .lst t.length (t.flatMap ladE) ∧ get e 3 = d3 ∧ get e 4 = .int .i64 y ∧ get e 5 = .sl σ.length pre.length l.length 0 l.length 2 ∧ σ' = (pre ++ [rowB l]) :: σ)
  | 0, k, v, hk, hv => by
    refine WL_step e_law11_table_l9 ?_
    have g1 : k = l.length := by omega
    have g2 := ladE_at hy
    have g3 : y < t.length := (List.getElem?_eq_some_iff.1 hy).1
    subst hv g1
    simp [-List.length_flatMap, -List.map_take, e_law11_table_r0, e_law11_table_r1, e_law11_table_r2, e_law11_table_r3, e_law11_table_r4, e_law11_table_r5, e_law11_table_r6, e_law11_table_r7, e_law11_table_r8, e_law11_table_r10, e_law11_table_r11, e_law11_table_r13, g2, g3, s3, rowB]
  | m + 1, k, v, hk, hv => by
    refine WL_step e_law11_table_l9 ?_
    subst hv
    have g1 : v < l.length := by omega
    have g2 := ladE_at hy
    have g3 : y < t.length := (List.getElem?_eq_some_iff.1 hy).1
    obtain ⟨r, hx⟩ : ∃ x, l[v]? = some x := ⟨_, List.getElem?_eq_getElem g1⟩
    have a1 := rn_dr hx
    have w1 := wnext g1 (by omega)
    have h3 := flat_take (f := Rn.enc) (w := 2) (fun _ => rfl) (Nat.le_of_lt g1)
    have h4 := flat_snoc (f := Rn.enc) hx
    have h5 := flat_len (f := Rn.enc) (w := 2) (fun _ => rfl) (l.take v)
    have h7 : (v + 1) * 16 ≤ room := by unfold room; omega
    have h8 : min v l.length = v := by omega
    have ih := L_tk1 (pre := pre) ht hy hl s3 m (v + 1) (v + 1) (by omega) rfl
    simp [-List.length_flatMap, -List.map_take, e_law11_table_r0, e_law11_table_r1, e_law11_table_r2, e_law11_table_r3, e_law11_table_r4, e_law11_table_r5, e_law11_table_r6, e_law11_table_r7, e_law11_table_r8, e_law11_table_r10, e_law11_table_r11, e_law11_table_r13, g1, g2, g3, a1, w1, h3, h5, h7, h8, s3]
    refine WL.to ih (by simp) (by simp [← h4]) fun x e σ hh => hh
theorem L_tk {bs : List Blk} {t : List (List Rn)} (ht : t.length ≤ 100000) (hl : ∀ l ∈ t, l.length ≤ 100000) : ∀ (m y : Nat), y + m = t.length →
    WL T [0, 3, 4] false f_law11_table_l12 [(0, .lst t.length (t.flatMap ladE)), (3, .sl σ.length bs.length y 0 y 1), (4, .int .i64 y)] (segK σ.length bs (t.take y) :: σ)
      (fun x e σ' => x = .exit 0 ∧ get e 3 = .sl σ.length bs.length t.length 0 t.length 1 ∧ σ' = segK σ.length bs t :: σ)
  | 0, y, hy => by
    refine WL_step e_law11_table_l12 ?_
    have g1 : y = t.length := by omega
    subst g1
    simp [-List.length_flatMap, -List.map_take, e_law11_table_r0, e_law11_table_r1, e_law11_table_r2, e_law11_table_r3, e_law11_table_r4, e_law11_table_r5, e_law11_table_r6, e_law11_table_r7, e_law11_table_r8, e_law11_table_r10, e_law11_table_r11, e_law11_table_r13]
  | m + 1, y, hy => by
    refine WL_step e_law11_table_l12 ?_
    have g1 : y < t.length := by omega
    obtain ⟨l, hx⟩ : ∃ x, t[y]? = some x := ⟨_, List.getElem?_eq_getElem g1⟩
    have w1 := wnext g1 (by omega)
    have ih := L_tk (bs := bs) ht hl m (y + 1) (by omega)
    have h8 : min y t.length = y := by omega
    have h6 : (t.take y).length = y := by simp [h8]
    have h7 : (y + 1) * 24 ≤ room := by unfold room; omega
    have e1 : t.take (y + 1) = t.take y ++ [l] := by rw [List.take_add_one, hx]; rfl
    have r1 := rowsD_len σ.length (bs.length + 1) (t.take y)
    rw [h6] at r1
    have r2 : (rowsD σ.length (bs.length + 1) (t.take y)).take y = rowsD σ.length (bs.length + 1) (t.take y) := List.take_of_length_le (by omega)
    have r3 := rowsD_snoc σ.length l (bs.length + 1) (t.take y)
    rw [h6] at r3
    rw [e1] at ih
    have hseg : (segK σ.length bs (t.take y)).length = bs.length + 1 + y := by simp [segK, h8]; omega
    simp [-List.length_flatMap, -List.map_take, e_law11_table_r0, e_law11_table_r1, e_law11_table_r2, e_law11_table_r3, e_law11_table_r4, e_law11_table_r5, e_law11_table_r6, e_law11_table_r7, e_law11_table_r8, e_law11_table_r10, e_law11_table_r11, e_law11_table_r13, g1]
    refine WL.to (L_tk1 (σ := σ) (pre := segK σ.length bs (t.take y)) ht hx (hl l (List.mem_of_getElem? hx)) (d3 := .sl σ.length bs.length y 0 y 1) (by simp) l.length 0 0 (by omega) rfl) (by simp) (by simp) ?_
    rintro x e σ' ⟨rfl, g0, g3, g4, g5, rfl⟩
    rw [hseg] at g5
    unfold segK at ih ⊢
    rw [r3, List.length_append, h6] at ih
    rw [h6]
    generalize rowsD σ.length (bs.length + 1) (t.take y) = R at *
    simp [-List.length_flatMap, -List.map_take, e_law11_table_r10, e_law11_table_r11, g0, g3, g4, g5, w1, r1, r2, h7]
    exact WL.to ih (by simp) (by simp [h8]) fun x e σ hh => hh
theorem C_tableK {bs : List Blk} {t : List (List Rn)} (ht : t.length ≤ 100000) (hl : ∀ l ∈ t, l.length ≤ 100000) : lim T (.call true i_law11_table [.lst t.length (t.flatMap ladE)] (bs :: σ)) = some (.val (.sl σ.length bs.length t.length 0 t.length 1) (segK σ.length bs t :: σ)) := by
  refine call_kp T_law11_table e_law11_table rfl ?_
  simp [-List.length_flatMap, -List.map_take, e_law11_table_r0, e_law11_table_r1, e_law11_table_r2, e_law11_table_r3, e_law11_table_r4, e_law11_table_r5, e_law11_table_r6, e_law11_table_r7, e_law11_table_r8, e_law11_table_r10, e_law11_table_r11, e_law11_table_r13]
  refine WL.to (L_tk (σ := σ) (bs := bs) ht hl t.length 0 (by omega)) (by simp) (by simp [segK, rowsD]) ?_
  rintro x e σ' ⟨rfl, g3, rfl⟩
  simp [-List.length_flatMap, -List.map_take, e_law11_table_r13, g3]
/-- A table of blocks, written out. -/
theorem frz_tab {l0 n : Nat} (h0 : l0 < σ.length) (hn : 2 < n) {bs C : List Blk} {t : List (List Rn)} : frz l0 n (.sl σ.length bs.length t.length 0 t.length 1) ((bs ++ (.cells t.length (rowsD σ.length (bs.length + 1) t) :: (t.map rowB ++ C))) :: σ) = (.lst t.length (t.flatMap ladE), (bs ++ (.dead :: (List.replicate t.length .dead ++ C))) :: σ) := by
  have h1 : ¬ σ.length ≤ l0 := by omega
  have r1 := rowsD_len σ.length (bs.length + 1) t
  have r2 : (rowsD σ.length (bs.length + 1) t).take t.length = rowsD σ.length (bs.length + 1) t := List.take_of_length_le (by omega)
  have hN := frz_nest (σ := σ) (n := n - 1) h0 (by omega) t (bs ++ [.dead]) C
  simp only [List.length_append, List.length_cons, List.length_nil, Nat.zero_add] at hN
  rw [frz_sl h1 (cs := rowsD σ.length (bs.length + 1) t) (by simp) (by omega)]
  have e2 : (bs ++ (.dead :: (t.map rowB ++ C))) = (bs ++ [.dead]) ++ (t.map rowB ++ C) := by simp
  simp [r2]
  rw [e2, hN]
  simp
theorem C_tabL {t : List (List Rn)} (ht : t.length ≤ 100000) (hl : ∀ l ∈ t, l.length ≤ 100000) (hσ : σ ≠ []) : lim T (.call false i_law11_table [.lst t.length (t.flatMap ladE)] σ) = some (.val (.lst t.length (t.flatMap ladE)) σ) := by
  refine call_of T_law11_table e_law11_table rfl ?_
  simp [-List.length_flatMap, -List.map_take, e_law11_table_r0, e_law11_table_r1, e_law11_table_r2, e_law11_table_r3, e_law11_table_r4, e_law11_table_r5, e_law11_table_r6, e_law11_table_r7, e_law11_table_r8, e_law11_table_r10, e_law11_table_r11, e_law11_table_r13]
  refine WL.to (L_tk (σ := σ) (bs := []) ht hl t.length 0 (by omega)) (by simp) (by simp [segK, rowsD]) ?_
  rintro x e σ' ⟨rfl, g3, rfl⟩
  have h0 : σ.length - 1 < σ.length := by have := List.length_pos_iff.2 hσ; omega
  have hf := frz_tab (σ := σ) (n := 16) h0 (by decide) (bs := []) (C := []) (t := t)
  simp only [List.append_nil, List.nil_append, List.length_nil] at hf g3
  simp [-List.length_flatMap, -List.map_take, e_law11_table_r13, g3]
  unfold segK
  simp only [List.nil_append, List.length_nil]
  rw [hf]
  simp
end Go.Proofs.YtcccafphhmcifaaGreat
