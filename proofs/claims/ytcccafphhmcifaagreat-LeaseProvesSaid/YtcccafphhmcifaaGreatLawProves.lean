/-
  The law LeaseProves answers true.
-/
import Derived.Test.YtcccafphhmcifaaGreatE14
set_option linter.unusedVariables false
set_option linter.unusedSimpArgs false
namespace Go.Proofs.YtcccafphhmcifaaGreat
open Go Go.Abs Go.Lease
variable {σ : Stack}

theorem lads_few {p : Pg} (hp : pgOk p = true) : ∀ l ∈ lads p p.l, l.length ≤ 100000 := by
  have hp1 := pgOk_iff.1 hp
  intro l hl
  have := (rightL_iff.1 (lads_right hp p.l hp1.2.2.2.2.2 (by omega) l hl)).2.2.1
  omega
/-- The last region: what the program accepts is what the document says. -/
theorem fin28 {p : Pg} (hpl : p.l.length ≤ 1000) {a : List Int} (ha : a.length ≤ 1000) {u : List (List Rn)} (hu : u.length ≤ 1000) (hl : ∀ l ∈ u, l.length ≤ 100000) {e : Env} {Z : List Blk} (g7 : get e 7 = .cref p.enc) (g16 : get e 16 = .bool (pgOk p)) (g17 : get e 17 = .lst a.length (a.flatMap intE)) (g18 : get e 18 = .lst u.length (u.flatMap ladE)) :
    WO (lim T) f_law11_LeaseProves_r28 e (Z :: [[]]) fun e' σ' => get e' 14 = .bool true ∧ σ' = Z :: [[]] := by
  have hP := fun σ (hσ : σ ≠ []) => C_Pg (σ := σ) (p := p) (by omega) hσ
  have hL := fun σ (hσ : σ ≠ []) => C_list (σ := σ) (l := a) (by omega) hσ
  have hB := fun σ (hσ : σ ≠ []) => C_back (σ := σ) (t := u) (by omega) hl hσ
  have hT := fun σ (hσ : σ ≠ []) => C_tabL (σ := σ) (t := u) (by omega) hl hσ
  have hV := fun σ (hσ : σ ≠ []) => C_ProveDrill (σ := σ) (p := p) (by omega) (ks := a) (by omega) (t := u) (by omega) hl hσ
  have hW := fun σ (hσ : σ ≠ []) => C_wakesG (σ := σ) hσ
  rw [e_law11_LeaseProves_r28]
  cases c1 : pgOk p
  · rw [c1] at g16
    rw [c1, Bool.false_and] at hV
    simp [g7, g16, g17, g18, hP, hL, hB, hT, hV, hW]
  · rw [c1] at g16
    rw [c1, Bool.true_and] at hV
    have hS := fun σ (hσ : σ ≠ []) => C_Shows (σ := σ) c1 (ks := a) (by omega) (t := u) (by omega) hl hσ
    simp [g7, g16, g17, g18, hP, hL, hB, hT, hV, hS, hW]
theorem L_few60 {d1 d3 d4 d5 d6 d7 : D} (s1 : d1.calm = d1) (s3 : d3.calm = d3) (s4 : d4.calm = d4) (s5 : d5.calm = d5) (s6 : d6.calm = d6) (s7 : d7.calm = d7) {t : List (List Rn)} (ht : t.length ≤ 12) : ∀ (m i : Nat), i + m = t.length →
    WL T [1, 2, 3, 4, 5, 6, 7, 15] false f_law11_LeaseProves_l8 [(1, d1), (2, .lst t.length (t.flatMap ladE)), (3, d3), (4, d4), (5, d5), (6, d6), (7, d7), (15, .int .i64 i)] [[], []]
      (fun x e σ' => σ' = [[], []] ∧ if allB (t.drop i) (fun l => decide (l.length ≤ 60)) then x = .exit 0 ∧ get e 1 = d1 ∧ get e 2 = .lst t.length (t.flatMap ladE) ∧ get e 3 = d3 ∧ get e 4 = d4 ∧ get e 5 = d5 ∧ get e 6 = d6 ∧ get e 7 = d7 else x = .ret ∧ get e 14 = .bool true)
  | 0, i, hi => by
    refine WL_step e_law11_LeaseProves_l8 ?_
    have h1 : ¬ i < t.length := by omega
    have h2 : t.drop i = [] := List.drop_eq_nil_of_le (by omega)
    rw [h2]
    simp [-List.length_flatMap, -List.map_take, e_law11_LeaseProves_r4, e_law11_LeaseProves_r5, e_law11_LeaseProves_r6, e_law11_LeaseProves_r7, h1, allB_nil, s1, s3, s4, s5, s6, s7]
  | m + 1, i, hi => by
    refine WL_step e_law11_LeaseProves_l8 ?_
    have h1 : i < t.length := by omega
    obtain ⟨l, hx⟩ : ∃ x, t[i]? = some x := ⟨_, List.getElem?_eq_getElem h1⟩
    have a1 := ladE_at hx
    have w1 := wnext h1 (by omega)
    have hW := C_wakesG (σ := [[], []]) (by simp)
    have ih := L_few60 s1 s3 s4 s5 s6 s7 ht m (i + 1) (by omega)
    rw [dropS hx, allB_cons]
    generalize allB (t.drop (i + 1)) (fun l => decide (l.length ≤ 60)) = G at *
    by_cases hc : l.length ≤ 60
    · have hc' : ¬ (60 : Int) < l.length := by omega
      simp [-List.length_flatMap, -List.map_take, e_law11_LeaseProves_r4, e_law11_LeaseProves_r5, e_law11_LeaseProves_r6, e_law11_LeaseProves_r7, h1, a1, w1, hc', s1, s3, s4, s5, s6, s7]
      exact WL.to ih (by simp) rfl fun x e σ hh => by simpa [hc] using hh
    · have hc' : (60 : Int) < l.length := by omega
      simp [-List.length_flatMap, -List.map_take, e_law11_LeaseProves_r4, e_law11_LeaseProves_r5, e_law11_LeaseProves_r6, e_law11_LeaseProves_r7, h1, a1, w1, hc', hc, hW]
theorem segK_set {L : Nat} {bs : List Blk} {t : List (List Rn)} {y : Nat} {l l' : List Rn} (hy : t[y]? = some l) (hl : l'.length = l.length) : (segK L bs t).set (bs.length + 1 + y) (rowB l') = segK L bs (t.set y l') := by
  have hyt := (List.getElem?_eq_some_iff.1 hy).1
  unfold segK
  rw [rowsD_set L _ y t l hy hl, List.set_append_right _ _ (by omega), show bs.length + 1 + y - bs.length = y + 1 by omega, List.set_cons_succ, List.map_set, List.length_set]
theorem segK_row {L : Nat} {bs : List Blk} {t : List (List Rn)} {y : Nat} {l : List Rn} (hy : t[y]? = some l) : (segK L bs t)[bs.length + 1 + y]? = some (rowB l) := by
  unfold segK
  rw [List.getElem?_append_right (by omega), show bs.length + 1 + y - bs.length = y + 1 by omega, List.getElem?_cons_succ, List.getElem?_map, hy]
  rfl
theorem segK_top {L : Nat} {bs : List Blk} {t : List (List Rn)} : (segK L bs t)[bs.length]? = some (.cells t.length (rowsD L (bs.length + 1) t)) := by
  unfold segK
  simp
theorem segK_low {L : Nat} {bs : List Blk} {t : List (List Rn)} {i : Nat} (h : i < bs.length) : (segK L bs t)[i]? = bs[i]? := by
  unfold segK
  rw [List.getElem?_append_left h]
theorem segK_setlow {L : Nat} {bs : List Blk} {t : List (List Rn)} {i : Nat} {x : Blk} (h : i < bs.length) : (segK L bs t).set i x = segK L (bs.set i x) t := by
  unfold segK
  rw [List.set_append_left _ _ h, List.length_set]
theorem law_Proves {p : Pg} {ks : List Int} {t : List (List Rn)} {own : Bool} {at_ rung by_ : Int} (h4 : 0 ≤ at_ ∧ at_ ≤ 255) (h5 : 0 ≤ rung ∧ rung ≤ 255) (h6 : -32768 ≤ by_ ∧ by_ ≤ 32767) :
    lim T (.call false i_law11_LeaseProves [.agg [.int .i64 p.start, .int .i64 p.gain, .int .i64 p.keep, .int .i64 p.most, .lst p.l.length (p.l.flatMap Yr.enc)], .lst ks.length (ks.flatMap intE), .lst t.length (t.flatMap ladE), .bool own, .int .u8 at_, .int .u8 rung, .int .i16 by_] [[]]) = some (.val (.bool true) [[]]) := by
  refine call_of T_law11_LeaseProves e_law11_LeaseProves rfl ?_
  have hW := fun σ (hσ : σ ≠ []) => C_wakesG (σ := σ) hσ
  by_cases b1 : p.l.length ≤ 6
  rotate_left
  · have h1 : (6 : Int) < p.l.length := by omega
    simp [-List.length_flatMap, -List.map_take, e_law11_LeaseProves_r0, e_law11_LeaseProves_r1, e_law11_LeaseProves_r2, h1, hW]
  have n1 : ¬ (6 : Int) < p.l.length := by omega
  by_cases b2 : ks.length ≤ 12
  rotate_left
  · have h2 : (12 : Int) < ks.length := by omega
    simp [-List.length_flatMap, -List.map_take, e_law11_LeaseProves_r0, e_law11_LeaseProves_r1, e_law11_LeaseProves_r2, n1, h2, hW]
  have n2 : ¬ (12 : Int) < ks.length := by omega
  by_cases b3 : t.length ≤ 12
  rotate_left
  · have h3 : (12 : Int) < t.length := by omega
    simp [-List.length_flatMap, -List.map_take, e_law11_LeaseProves_r0, e_law11_LeaseProves_r1, e_law11_LeaseProves_r2, n1, n2, h3, hW]
  have n3 : ¬ (12 : Int) < t.length := by omega
  simp [-List.length_flatMap, -List.map_take, e_law11_LeaseProves_r0, e_law11_LeaseProves_r1, e_law11_LeaseProves_r3, n1, n2, n3]
  refine WL.to (L_few60 (d1 := .lst ks.length (ks.flatMap intE)) (d3 := .bool own) (d4 := .int .u8 at_) (d5 := .int .u8 rung) (d6 := .int .i16 by_) (d7 := .cref p.enc) (by simp) (by simp) (by simp) (by simp) (by simp) (by simp) b3 t.length 0 (by omega)) (by simp) rfl ?_
  rintro x e σ' ⟨rfl, hh⟩
  rw [List.drop_zero] at hh
  cases c2 : allB t (fun l => decide (l.length ≤ 60))
  · simp only [c2, Bool.false_eq_true, if_false] at hh
    obtain ⟨rfl, g14⟩ := hh
    simp [g14]
  simp only [c2, if_true] at hh
  obtain ⟨rfl, g1, g2, g3, g4, g5, g6, g7⟩ := hh
  have hfew : ∀ l ∈ t, l.length ≤ 100000 := fun l hl => by have := allB_iff.1 c2 l hl; simp only [decide_eq_true_eq] at this; omega
  have hR := fun σ => C_RPg (σ := σ) (p := p)
  have hLK := C_listK (σ := [[]]) (bs := []) (l := ks) (by omega)
  have hTK := C_tableK (σ := [[]]) (bs := [.cells 1 (ks.flatMap intE)]) (t := t) (by omega) hfew
  simp only [List.nil_append, List.length_nil, List.length_cons, Nat.zero_add] at hLK hTK
  have ho : (own && pgOk p) = true ∨ (own && pgOk p) = false := by cases own <;> cases pgOk p <;> simp
  rcases ho with ho | ho
  rotate_left
  · -- what is handed in
    have hz17 := k_frz (f := intE) (w := 1) (fun _ => rfl) (fun x => by simp) (l := ks) (j := 0) (v := 1) (bs := segK 1 [.cells 1 (ks.flatMap intE)] t) (σ := [[]]) (by simp) rfl
    have hz18 := frz_tab (σ := [[]]) (l0 := 0) (n := 16) (by decide) (by decide) (bs := [.dead]) (C := []) (t := t)
    have hF := fun e Z => fin28 (e := e) (Z := Z) (p := p) (by omega) (a := ks) (by omega) (u := t) (by omega) hfew
    have hset : (segK 1 [.cells 1 (ks.flatMap intE)] t).set 0 .dead = [.dead] ++ (.cells t.length (rowsD 1 2 t) :: (t.map rowB ++ [])) := by simp [segK]
    rw [hset] at hz17
    simp only [List.length_cons, List.length_nil, Nat.zero_add, Nat.reduceAdd, List.append_nil, List.cons_append, List.nil_append] at hz17 hz18
    generalize segK 1 [.cells 1 (ks.flatMap intE)] t = S at *
    cases own
    · simp [-List.length_flatMap, -List.map_take, e_law11_LeaseProves_r9, e_law11_LeaseProves_r10, e_law11_LeaseProves_r11, g1, g2, g3, g4, g5, g6, g7, hR, hLK, hTK, hz17, hz18]
      exact (hF _ _ (by simp) (by simp) (by simp) (by simp)).mono fun e' σ' ⟨g, hs⟩ => by subst hs; simp [g]
    · simp only [Bool.true_and] at ho
      simp [-List.length_flatMap, -List.map_take, e_law11_LeaseProves_r9, e_law11_LeaseProves_r10, e_law11_LeaseProves_r11, g1, g2, g3, g4, g5, g6, g7, hR, ho, hLK, hTK, hz17, hz18]
      exact (hF _ _ (by simp) (by simp [ho]) (by simp) (by simp)).mono fun e' σ' ⟨g, hs⟩ => by subst hs; simp [g]
  -- the program's own, with a number changed
  simp only [Bool.and_eq_true] at ho
  obtain ⟨rfl, c1⟩ := ho
  have hp1 := pgOk_iff.1 c1
  have hP := fun σ (hσ : σ ≠ []) => C_Pg (σ := σ) (p := p) (by omega) hσ
  obtain ⟨B0, hB0⟩ : ∃ B, B = segK 1 [.cells 1 (ks.flatMap intE)] t := ⟨_, rfl⟩
  have hDK := C_DrillK (σ := [[]]) (bs := B0) c1
  rw [← hB0] at hTK
  simp only [List.length_cons, List.length_nil, Nat.zero_add] at hDK
  have hle := leastF_le (p := p) p.l p.start
  simp only [never] at hle hDK
  by_cases h7 : leastF p p.l p.start = 1000000000000
  · simp only [h7, if_true] at hDK
    simp [-List.length_flatMap, -List.map_take, e_law11_LeaseProves_r9, e_law11_LeaseProves_r10, e_law11_LeaseProves_r11, e_law11_LeaseProves_r12, e_law11_LeaseProves_r13, e_law11_LeaseProves_r14, g1, g2, g3, g4, g5, g6, g7, hR, c1, hLK, hTK, hP, hDK, hW]
  simp only [h7, if_false] at hDK
  have hlt : leastF p p.l p.start < never := by simp only [never]; omega
  have hd := drillL_ok hp1.2.2.2.1.1 p.l p.start hp1.2.2.2.2.2 hlt
  have hlen := lads_len (p := p) p.l
  have hlf := lads_few c1
  have hrt := lads_right c1 p.l hp1.2.2.2.2.2 (by omega)
  generalize drillL p p.l p.start = dl at *
  generalize lads p p.l = ld at *
  -- the table that the program gave is read
  have hz21 := k_frz (f := ladE) (w := 1) (fun _ => rfl) (fun x => by simp) (l := ld) (j := B0.length + 1) (v := p.l.length) (bs := B0 ++ [.cells p.l.length (dl.flatMap intE), .cells p.l.length (ld.flatMap ladE)]) (σ := [[]]) (by simp) (by simp)
  rw [hlen] at hz21
  simp only [sb1, List.length_cons, List.length_nil, Nat.zero_add] at hz21
  obtain ⟨B1, hB1⟩ : ∃ B, B = B0 ++ [.cells p.l.length (dl.flatMap intE), .dead] := ⟨_, rfl⟩
  have hB1l : B1.length = B0.length + 2 := by rw [hB1]; simp
  have hBk := fun σ (hσ : σ ≠ []) => C_back (σ := σ) (t := ld) (by omega) hlf hσ
  have hTK2 := C_tableK (σ := [[]]) (bs := B1) (t := ld) (by omega) hlf
  rw [hlen] at hBk hTK2
  simp only [List.length_cons, List.length_nil, Nat.zero_add] at hTK2
  rw [← hB1] at hz21
  -- which rung
  obtain ⟨y, hy⟩ : ∃ y : Nat, at_ % (p.l.length : Int) = y := ⟨(at_ % (p.l.length : Int)).toNat, by have := Int.emod_nonneg at_ (show (p.l.length : Int) ≠ 0 by omega); omega⟩
  have hy1 : y < p.l.length := by have := Int.emod_lt_of_pos at_ (show 0 < (p.l.length : Int) by omega); omega
  have r1 : at_.tmod (p.l.length : Int) = y := by rw [Int.tmod_eq_emod_of_nonneg h4.1, hy]
  obtain ⟨l, hl⟩ : ∃ l, ld[y]? = some l := ⟨_, List.getElem?_eq_getElem (by omega)⟩
  have hlr := hrt l (List.mem_of_getElem? hl)
  have hll := (rightL_iff.1 hlr).2.2.1
  obtain ⟨k, hk⟩ : ∃ k : Nat, rung % (l.length : Int) = k := ⟨(rung % (l.length : Int)).toNat, by have := Int.emod_nonneg rung (show (l.length : Int) ≠ 0 by omega); omega⟩
  have hk1 : k < l.length := by have := Int.emod_lt_of_pos rung (show 0 < (l.length : Int) by omega); omega
  have r2 : rung.tmod (l.length : Int) = k := by rw [Int.tmod_eq_emod_of_nonneg h5.1, hk]
  obtain ⟨r, hr⟩ : ∃ r, l[k]? = some r := ⟨_, List.getElem?_eq_getElem hk1⟩
  have hrm := right_mem hlr r (List.mem_of_getElem? hr)
  simp only [held, never] at hrm
  obtain ⟨dk, hdk⟩ : ∃ d, dl[y]? = some d := ⟨_, List.getElem?_eq_getElem (by omega)⟩
  have hdkb := hd.2.1 dk (List.mem_of_getElem? hdk)
  have w1 := w64 (n := at_) (by omega)
  have w2 := w64 (n := rung) (by omega)
  have w3 := w64 (n := by_) (by omega)
  have c17 : (segK 1 B1 ld)[B0.length]? = some (.cells p.l.length (dl.flatMap intE)) := by rw [segK_low (by omega), hB1]; simp
  have c18 := segK_top (L := 1) (bs := B1) (t := ld)
  rw [hlen] at c18
  have cy := segK_row (L := 1) (bs := B1) hl
  have ra := rowsD_at 1 (B1.length + 1) y ld l hl
  have rl := rowsD_len 1 (B1.length + 1) ld
  rw [hlen] at rl
  have ne1 : (p.l.length : Int) ≠ 0 := by omega
  have ne2 : (l.length : Int) ≠ 0 := by omega
  have ne3 : l ≠ [] := by rintro rfl; simp at hk1
  have pne : ¬ p.l = [] := by intro h; rw [h] at hy1; simp at hy1
  simp [-List.length_flatMap, -List.map_take, e_law11_LeaseProves_r9, e_law11_LeaseProves_r10, e_law11_LeaseProves_r11, e_law11_LeaseProves_r12, e_law11_LeaseProves_r13, e_law11_LeaseProves_r15, e_law11_LeaseProves_r17, e_law11_LeaseProves_r18, e_law11_LeaseProves_r19, e_law11_LeaseProves_r21, e_law11_LeaseProves_r22, g1, g2, g3, g4, g5, g6, g7, hR, c1, hLK, hTK, hP, hDK, hW, hlen, hz21, hBk, hTK2, w1, w2, w3, r1, r2, c18, cy, ra, rl, ne1, ne2, ne3, pne, hy1]
  have hz17 : ∀ (a : List Int) (u : List (List Rn)), a.length = p.l.length → frz 0 16 (.sl 1 B0.length p.l.length 0 p.l.length 1) [segK 1 (B0 ++ [.cells p.l.length (a.flatMap intE), .dead]) u, []] = (.lst p.l.length (a.flatMap intE), [segK 1 (B0 ++ [.dead, .dead]) u, []]) := fun a u ha => by
    have h := k_frz (f := intE) (w := 1) (fun _ => rfl) (fun x => by simp) (l := a) (j := B0.length) (v := p.l.length) (bs := segK 1 (B0 ++ [.cells p.l.length (a.flatMap intE), .dead]) u) (σ := [[]]) (by simp) (by rw [segK_low (by simp)]; simp)
    rw [segK_setlow (by simp), sb0, ha] at h
    simpa using h
  have hz18 : ∀ (u : List (List Rn)), u.length = p.l.length → ∃ Z, frz 0 16 (.sl 1 B1.length p.l.length 0 p.l.length 1) [segK 1 (B0 ++ [.dead, .dead]) u, []] = (.lst p.l.length (u.flatMap ladE), [Z, []]) := fun u hu => by
    have h := frz_tab (σ := [[]]) (l0 := 0) (n := 16) (by decide) (by decide) (bs := B0 ++ [.dead, .dead]) (C := []) (t := u)
    have e : B1.length = (B0 ++ [Blk.dead, .dead]).length := by simp [hB1l]
    refine ⟨(B0 ++ [.dead, .dead]) ++ (.dead :: (List.replicate u.length .dead ++ [])), ?_⟩
    rw [e, ← hu]
    simp [segK] at h ⊢
    exact h
  have hm3 := Int.tmod_lt_of_pos by_ (show (0 : Int) < 3 by decide)
  have hF := fun (a : List Int) (ha : a.length = p.l.length) (u : List (List Rn)) (hu : u.length = p.l.length) (hl) e Z => fin28 (e := e) (Z := Z) (p := p) (by omega) (a := a) (by omega) (u := u) (by omega) hl
  have f1 := rn_dr hr
  have f2 : (l.flatMap Rn.enc).drop (k * 2 + 1) = .int .i64 r.c :: (l.flatMap Rn.enc).drop (k * 2 + 2) := by rw [← List.drop_drop, f1]; rfl
  have e0 : (l.flatMap Rn.enc).take (k * 2 + 1) = (l.flatMap Rn.enc).take (k * 2) ++ [.int .i64 r.u] := by rw [List.take_add, f1]; rfl
  have f3 := flat_len (f := Rn.enc) (w := 2) (fun _ => rfl) l
  have f4 : k * 2 + 1 + 1 ≤ l.length * 2 := by omega
  have f5 : k * 2 + 1 ≤ l.length * 2 := by omega
  have q1 : -10923 ≤ by_.tdiv 3 ∧ by_.tdiv 3 ≤ 10923 := by
    have := Int.mul_tdiv_add_tmod by_ 3
    have := Int.lt_tmod_of_pos by_ (show (0 : Int) < 3 by decide)
    omega
  have v1 := w64 (n := by_.tdiv 3) (by omega)
  have v2 := w64 (n := r.c + by_.tdiv 3) (by omega)
  have v3 := w64 (n := r.u + by_.tdiv 3) (by omega)
  by_cases m0 : by_.tmod 3 = 0
  · rw [m0]
    have hset := segK_set (L := 1) (bs := B1) (l' := l.set k ⟨r.u, r.c + by_.tdiv 3⟩) hl (by simp)
    simp [-List.length_flatMap, -List.map_take, e_law11_LeaseProves_r23, e_law11_LeaseProves_r24, c18, cy, ra, rl, hy1, hk1, rowB, f1, f2, f3, f4, f5, v1, v2, w3]
    have hst : (segK 1 B1 ld).set (B1.length + 1 + y) (.cells l.length ((l.flatMap Rn.enc).take (k * 2 + 1) ++ .int .i64 (r.c + by_.tdiv 3) :: (l.flatMap Rn.enc).drop (k * 2 + 1 + 1))) = segK 1 B1 (ld.set y (l.set k ⟨r.u, r.c + by_.tdiv 3⟩)) := by
      rw [← hset]
      congr 1
      unfold rowB
      have hks := k_set (f := Rn.enc) (w := 2) (fun _ => rfl) (l := l) (i := k) (x := ⟨r.u, r.c + by_.tdiv 3⟩) hk1
      rw [List.length_set, ← hks]
      simp [e0]
    have hu : (ld.set y (l.set k ⟨r.u, r.c + by_.tdiv 3⟩)).length = p.l.length := by rw [List.length_set]; exact hlen
    have hfu : ∀ x ∈ ld.set y (l.set k ⟨r.u, r.c + by_.tdiv 3⟩), x.length ≤ 100000 := fun x hx => by
      rcases List.mem_or_eq_of_mem_set hx with hx | rfl
      · exact hlf x hx
      · rw [List.length_set]; omega
    have h17 := hz17 dl (ld.set y (l.set k ⟨r.u, r.c + by_.tdiv 3⟩)) hd.1
    rw [← hB1] at h17
    obtain ⟨Z, h18⟩ := hz18 _ hu
    rw [hst, h17]
    dsimp only
    rw [h18]
    exact (hF dl hd.1 _ hu hfu _ Z (by simp) (by simp [c1]) (by simp [hd.1]) (by simp [hlen])).mono fun e' σ' ⟨g, hs⟩ => by subst hs; simp [g]
  by_cases m1 : by_.tmod 3 = 1
  · rw [m1]
    have hset := segK_set (L := 1) (bs := B1) (l' := l.set k ⟨r.u + by_.tdiv 3, r.c⟩) hl (by simp)
    simp [-List.length_flatMap, -List.map_take, e_law11_LeaseProves_r23, e_law11_LeaseProves_r25, e_law11_LeaseProves_r26, c18, cy, ra, rl, hy1, hk1, rowB, f1, f2, f3, f4, f5, v1, v3, w3]
    have hst : (segK 1 B1 ld).set (B1.length + 1 + y) (.cells l.length ((l.flatMap Rn.enc).take (k * 2) ++ .int .i64 (r.u + by_.tdiv 3) :: .int .i64 r.c :: (l.flatMap Rn.enc).drop (k * 2 + 2))) = segK 1 B1 (ld.set y (l.set k ⟨r.u + by_.tdiv 3, r.c⟩)) := by
      rw [← hset]
      congr 1
      unfold rowB
      have hks := k_set (f := Rn.enc) (w := 2) (fun _ => rfl) (l := l) (i := k) (x := ⟨r.u + by_.tdiv 3, r.c⟩) hk1
      rw [List.length_set, ← hks]
      simp [e0]
    have hu : (ld.set y (l.set k ⟨r.u + by_.tdiv 3, r.c⟩)).length = p.l.length := by rw [List.length_set]; exact hlen
    have hfu : ∀ x ∈ ld.set y (l.set k ⟨r.u + by_.tdiv 3, r.c⟩), x.length ≤ 100000 := fun x hx => by
      rcases List.mem_or_eq_of_mem_set hx with hx | rfl
      · exact hlf x hx
      · rw [List.length_set]; omega
    have h17 := hz17 dl (ld.set y (l.set k ⟨r.u + by_.tdiv 3, r.c⟩)) hd.1
    rw [← hB1] at h17
    obtain ⟨Z, h18⟩ := hz18 _ hu
    rw [hst, h17]
    dsimp only
    rw [h18]
    exact (hF dl hd.1 _ hu hfu _ Z (by simp) (by simp [c1]) (by simp [hd.1]) (by simp [hlen])).mono fun e' σ' ⟨g, hs⟩ => by subst hs; simp [g]
  · have d1 : (dl.flatMap intE).drop y = .int .i64 dk :: (dl.flatMap intE).drop (y + 1) := by
      have := k_drop (f := intE) (w := 1) (fun _ => rfl) hdk
      simpa using this
    have d2 := flat_len (f := intE) (w := 1) (fun _ => rfl) dl
    rw [hd.1, Nat.mul_one] at d2
    have d3 : y + 1 ≤ p.l.length := by omega
    have t1 := Int.tmod_lt_of_pos by_ (show (0 : Int) < 2 by decide)
    have t2 := Int.lt_tmod_of_pos by_ (show (0 : Int) < 2 by decide)
    have v4 := w64 (n := dk + by_.tmod 2) (by omega)
    simp [-List.length_flatMap, -List.map_take, e_law11_LeaseProves_r23, e_law11_LeaseProves_r25, e_law11_LeaseProves_r27, m0, m1, c17, hy1, w3, d1, d2, d3, v4]
    have hks := k_set (f := intE) (w := 1) (fun _ => rfl) (l := dl) (i := y) (x := dk + by_.tmod 2) (by omega)
    have hst : (segK 1 B1 ld).set B0.length (.cells p.l.length ((dl.flatMap intE).take y ++ .int .i64 (dk + by_.tmod 2) :: (dl.flatMap intE).drop (y + 1))) = segK 1 (B0 ++ [.cells p.l.length ((dl.set y (dk + by_.tmod 2)).flatMap intE), .dead]) ld := by
      rw [segK_setlow (by omega), hB1, sb0, ← hks]
      simp
    have ha : (dl.set y (dk + by_.tmod 2)).length = p.l.length := by rw [List.length_set]; exact hd.1
    have h17 := hz17 (dl.set y (dk + by_.tmod 2)) ld ha
    obtain ⟨Z, h18⟩ := hz18 _ hlen
    rw [hst, h17]
    dsimp only
    rw [h18]
    exact (hF _ ha _ hlen hlf _ Z (by simp) (by simp [c1]) (by simp [hd.1]) (by simp [hlen])).mono fun e' σ' ⟨g, hs⟩ => by subst hs; simp [g]
theorem rows_i64 {ds : List D} (h : (Ty.int .i64).has ds) : ∃ x : Int, ds = intE x ∧ (-9223372036854775808 ≤ x ∧ x ≤ 9223372036854775807) := by
  obtain ⟨n, rfl, hw⟩ := h
  exact ⟨n, rfl, wf_i64 hw⟩
theorem rn_of {ds : List D} (h : (Ty.struct [.int .i64, .int .i64]).has ds) : ∃ x : Rn, ds = x.enc ∧ True := by
  obtain ⟨_, _, rfl, ⟨f, rfl, _⟩, _, _, rfl, ⟨t, rfl, _⟩, rfl⟩ := h
  exact ⟨⟨f, t⟩, rfl, trivial⟩
theorem lad_of {ds : List D} (h : (Ty.slice 2 (.struct [.int .i64, .int .i64])).has ds) : ∃ l : List Rn, ds = ladE l ∧ True := by
  obtain ⟨x, hx⟩ := slice_one h
  subst hx
  obtain ⟨l, rfl, _⟩ := rows_of (fun ds h => rn_of h) h
  exact ⟨l, rfl, trivial⟩
theorem wf_i16 {n : Int} (h : (Lit.int .i16 n).wf = true) : -32768 ≤ n ∧ n ≤ 32767 := by
  simp only [Lit.wf, Bool.and_eq_true, decide_eq_true_eq] at h
  exact h
theorem i16_of {d : D} (h : (Ty.int .i16).hasV d) : ∃ n : Int, d = .int .i16 n ∧ -32768 ≤ n ∧ n ≤ 32767 := by
  simp only [Ty.hasV, Ty.has, List.cons.injEq, and_true] at h
  obtain ⟨n, rfl, hw⟩ := h
  exact ⟨n, rfl, wf_i16 hw⟩
theorem go_LeaseProves (x0 x1 x2 x3 x4 x5 x6 : D) (t0 : (Ty.struct [.int .i64, .int .i64, .int .i64, .int .i64, .slice 2 (.struct [.int .i64, .int .i64])]).hasV x0) (t1 : (Ty.slice 1 (.int .i64)).hasV x1) (t2 : (Ty.slice 1 (.slice 2 (.struct [.int .i64, .int .i64]))).hasV x2) (t3 : Ty.bool.hasV x3) (t4 : (Ty.int .u8).hasV x4) (t5 : (Ty.int .u8).hasV x5) (t6 : (Ty.int .i16).hasV x6) :
    ∃ σ', lim T (.call false i_law11_LeaseProves [x0, x1, x2, x3, x4, x5, x6] [[]]) = some (.val (.bool true) σ') := by
  obtain ⟨p, rfl⟩ := pg_of t0
  obtain ⟨ks, rfl, _, _⟩ := rows_of (fun ds h => rows_i64 h) t1
  obtain ⟨t, rfl, _, _⟩ := rows_of (fun ds h => lad_of h) t2
  obtain ⟨b, rfl⟩ := bool_of t3
  obtain ⟨y, rfl, hy⟩ := u8_of t4
  obtain ⟨k, rfl, hk⟩ := u8_of t5
  obtain ⟨n, rfl, hn⟩ := i16_of t6
  exact ⟨_, law_Proves hy hk hn⟩
end Go.Proofs.YtcccafphhmcifaaGreat
