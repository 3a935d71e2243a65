/-
  Programmes of layer 11: what a table proves, of the program; the cheapest plan by the document's words.
-/
import Derived.Test.YtcccafphhmcifaaGreatE10
set_option linter.unusedVariables false
set_option linter.unusedSimpArgs false
namespace Go.Proofs.YtcccafphhmcifaaGreat
open Go Go.Abs Go.Lease
variable {σ : Stack}

/-- Rungs one by one, as the program reads them. -/
def rgP (p : Option Rn) : List Rn → Bool
  | [] => true
  | r :: l => rungOk r && ((match p with | none => true | some q => decide (q.u < r.u) && decide (r.c < q.c)) && rgP (some r) l)
theorem rgP_iff : ∀ {l : List Rn} {p : Option Rn}, rgP p l = true ↔ allB l rungOk = true ∧ steps l = true ∧ (∀ q r, p = some q → l.head? = some r → q.u < r.u ∧ r.c < q.c)
  | [], p => by simp [rgP, steps, allB_nil]
  | [r], p => by
    cases p <;> simp [rgP, steps, allB_cons, allB_nil]
  | r :: s :: l, p => by
    have ih := rgP_iff (l := s :: l) (p := some r)
    have e : rgP p (r :: s :: l) = (rungOk r && ((match p with | none => true | some q => decide (q.u < r.u) && decide (r.c < q.c)) && rgP (some r) (s :: l))) := rfl
    have e2 : allB (r :: s :: l) rungOk = (rungOk r && allB (s :: l) rungOk) := rfl
    rw [e, e2]
    simp only [Bool.and_eq_true, decide_eq_true_eq, ih, steps, List.head?_cons, Option.some.injEq]
    constructor
    · rintro ⟨h2, h3, h4, h5, h6⟩
      refine ⟨⟨h2, h4⟩, ⟨(h6 r s rfl rfl).1, (h6 r s rfl rfl).2, h5⟩, fun q r' hq hr => ?_⟩
      subst hq hr
      simpa using h3
    · rintro ⟨⟨h1, h1'⟩, ⟨h2, h3, h4⟩, h5⟩
      refine ⟨h1, ?_, h1', h4, fun q r' hq hr => by subst hq hr; exact ⟨h2, h3⟩⟩
      cases p with
      | none => rfl
      | some q => simpa using h5 q r rfl rfl
theorem rightP (l : List Rn) : rightL l = (rgP none l && (inn l.length 1 70000 && (decide (0 ≤ (l.headD ⟨-1, 0⟩).u) && decide ((l.getLastD ⟨-1, 0⟩).u = held)))) := by
  have h : rgP none l = (allB l rungOk && steps l) := by
    rw [Bool.eq_iff_iff, rgP_iff, Bool.and_eq_true]
    exact ⟨fun h => ⟨h.1, h.2.1⟩, fun h => ⟨h.1, h.2, fun q r hq => by cases hq⟩⟩
  rw [h]
  unfold rightL
  simp only [Bool.and_assoc]
theorem L_right {l : List Rn} (hl : l.length ≤ 100000) : ∀ (m i : Nat), i + m = l.length →
    WL T [0, 5, 6, 7] false f_lease_ladder_right_l7 [(0, .lst l.length (l.flatMap Rn.enc)), (5, .lst l.length (l.flatMap Rn.enc)), (6, .int .i64 l.length), (7, .int .i64 i)] σ
      (fun x e σ' => σ' = σ ∧ if rgP (prevR l i) (l.drop i) then x = .exit 0 ∧ get e 0 = .lst l.length (l.flatMap Rn.enc) else x = .ret ∧ get e 2 = .bool false)
  | 0, i, hi => by
    refine WL_step e_lease_ladder_right_l7 ?_
    have h1 : ¬ i < l.length := by omega
    have h2 : l.drop i = [] := List.drop_eq_nil_of_le (by omega)
    rw [h2]
    simp [-List.length_flatMap, -List.map_take, e_lease_ladder_right_r0, e_lease_ladder_right_r1, e_lease_ladder_right_r2, e_lease_ladder_right_r3, e_lease_ladder_right_r4, e_lease_ladder_right_r5, e_lease_ladder_right_r6, e_lease_ladder_right_r8, h1, rgP]
  | m + 1, i, hi => by
    refine WL_step e_lease_ladder_right_l7 ?_
    have h1 : i < l.length := by omega
    obtain ⟨r, hx⟩ : ∃ x, l[i]? = some x := ⟨_, List.getElem?_eq_getElem h1⟩
    have a1 := rn_dr hx
    have a1' : (l.flatMap Rn.enc).drop (i * 2 + 1) = .int .i64 r.c :: (l.flatMap Rn.enc).drop (i * 2 + 2) := by rw [← List.drop_drop, a1]; rfl
    have w1 := wnext h1 (by omega)
    have ih := L_right hl m (i + 1) (by omega)
    have hpv : prevR l (i + 1) = some r := by unfold prevR; simp [hx]
    rw [hpv] at ih
    rw [dropS hx]
    have e : rgP (prevR l i) (r :: l.drop (i + 1)) = (rungOk r && ((match prevR l i with | none => true | some q => decide (q.u < r.u) && decide (r.c < q.c)) && rgP (some r) (l.drop (i + 1)))) := rfl
    rw [e]
    generalize rgP (some r) (l.drop (i + 1)) = G at *
    cases c2 : inn r.c 0 1000000000000
    · have c2' : rungOk r = false := c2
      simp [-List.length_flatMap, -List.map_take, e_lease_ladder_right_r0, e_lease_ladder_right_r1, e_lease_ladder_right_r2, e_lease_ladder_right_r3, e_lease_ladder_right_r4, e_lease_ladder_right_r5, e_lease_ladder_right_r6, e_lease_ladder_right_r8, h1, a1, a1', D_within, c2, c2']
    have c2' : rungOk r = true := c2
    by_cases hz : i = 0
    · have e0 : prevR l i = none := by unfold prevR; simp [hz]
      have hz2 : ¬ (0 : Int) < i := by omega
      have hz3 : ¬ 0 < i := by omega
      rw [e0]
      simp [-List.length_flatMap, -List.map_take, e_lease_ladder_right_r0, e_lease_ladder_right_r1, e_lease_ladder_right_r2, e_lease_ladder_right_r3, e_lease_ladder_right_r4, e_lease_ladder_right_r5, e_lease_ladder_right_r6, e_lease_ladder_right_r8, h1, a1, a1', w1, hz2, hz3, D_within, c2, c2']
      exact WL.to ih (by simp) rfl fun x e σ hh => by simpa [c2'] using hh
    obtain ⟨j, rfl⟩ : ∃ j, i = j + 1 := ⟨i - 1, by omega⟩
    have hj : j < l.length := by omega
    obtain ⟨q, hq⟩ : ∃ x, l[j]? = some x := ⟨_, List.getElem?_eq_getElem hj⟩
    have b1 := rn_dr hq
    have b1' : (l.flatMap Rn.enc).drop (j * 2 + 1) = .int .i64 q.c :: (l.flatMap Rn.enc).drop (j * 2 + 2) := by rw [← List.drop_drop, b1]; rfl
    have e0 : prevR l (j + 1) = some q := by unfold prevR; simp [hq]
    rw [e0]
    have w2 : IntKind.i64.wrap (((j + 1 : Nat) : Int) - 1) = (j : Int) := by rw [show ((j + 1 : Nat) : Int) - 1 = j by omega]; exact w64 (by omega)
    have hz' : (0 : Int) < ((j + 1 : Nat) : Int) := by omega
    generalize j + 1 = i at *
    have hz2 : 0 < i := by omega
    by_cases c3 : r.u ≤ q.u
    · have c3' : ¬ q.u < r.u := by omega
      simp [-List.length_flatMap, -List.map_take, e_lease_ladder_right_r0, e_lease_ladder_right_r1, e_lease_ladder_right_r2, e_lease_ladder_right_r3, e_lease_ladder_right_r4, e_lease_ladder_right_r5, e_lease_ladder_right_r6, e_lease_ladder_right_r8, h1, a1, a1', b1, b1', hj, w2, hz', hz2, D_within, c2, c2', c3, c3']
    have c3' : q.u < r.u := by omega
    by_cases c4 : q.c ≤ r.c
    · have c4' : ¬ r.c < q.c := by omega
      simp [-List.length_flatMap, -List.map_take, e_lease_ladder_right_r0, e_lease_ladder_right_r1, e_lease_ladder_right_r2, e_lease_ladder_right_r3, e_lease_ladder_right_r4, e_lease_ladder_right_r5, e_lease_ladder_right_r6, e_lease_ladder_right_r8, h1, a1, a1', b1, b1', hj, w2, hz', hz2, D_within, c2, c2', c3, c3', c4, c4']
    have c4' : r.c < q.c := by omega
    simp [-List.length_flatMap, -List.map_take, e_lease_ladder_right_r0, e_lease_ladder_right_r1, e_lease_ladder_right_r2, e_lease_ladder_right_r3, e_lease_ladder_right_r4, e_lease_ladder_right_r5, e_lease_ladder_right_r6, e_lease_ladder_right_r8, h1, a1, a1', b1, b1', hj, w1, w2, hz', hz2, D_within, c2, c2', c3, c3', c4, c4']
    exact WL.to ih (by simp) rfl fun x e σ hh => by simpa [c2', c3', c4'] using hh
theorem C_right {l : List Rn} (hl : l.length ≤ 100000) : lim T (.call false i_lease_ladder_right [.lst l.length (l.flatMap Rn.enc)] σ) = some (.val (.bool (rightL l)) σ) := by
  refine call_of T_lease_ladder_right e_lease_ladder_right rfl ?_
  simp [-List.length_flatMap, -List.map_take, e_lease_ladder_right_r0, e_lease_ladder_right_r1, e_lease_ladder_right_r2, e_lease_ladder_right_r3, e_lease_ladder_right_r4, e_lease_ladder_right_r5, e_lease_ladder_right_r6, e_lease_ladder_right_r8]
  refine WL.to (L_right (σ := [] :: σ) hl l.length 0 (by omega)) (by simp) rfl ?_
  rintro x e σ' ⟨rfl, hh⟩
  have e0 : prevR l 0 = none := rfl
  rw [List.drop_zero, e0] at hh
  rw [rightP]
  cases hg : rgP none l
  · simp only [hg, Bool.false_eq_true, if_false] at hh
    obtain ⟨rfl, g2⟩ := hh
    simp [g2]
  simp only [hg, if_true] at hh
  obtain ⟨rfl, g0⟩ := hh
  rw [Bool.true_and]
  cases c1 : inn l.length 1 70000
  · simp [-List.length_flatMap, -List.map_take, e_lease_ladder_right_r8, g0, D_within, c1]
  have h1 := inn_iff.1 c1
  have hb : l.length - 1 < l.length := by omega
  obtain ⟨r, hr⟩ : ∃ r, l[l.length - 1]? = some r := ⟨_, List.getElem?_eq_getElem hb⟩
  have a2 := rn_dr hr
  have hlast : l.getLastD ⟨-1, 0⟩ = r := by rw [List.getLastD_eq_getLast?, List.getLast?_eq_getElem?, hr]; rfl
  obtain ⟨q, hq⟩ : ∃ q, l[0]? = some q := ⟨_, List.getElem?_eq_getElem (show 0 < l.length by omega)⟩
  have hhd : l.headD ⟨-1, 0⟩ = q := by cases l with | nil => simp at hq | cons a b => simpa using hq
  obtain ⟨X, a3⟩ : ∃ X, l.flatMap Rn.enc = .int .i64 q.u :: X := by
    cases l with
    | nil => simp at hq
    | cons a b => simp at hq; subst hq; exact ⟨.int .i64 a.c :: b.flatMap Rn.enc, by simp⟩
  have h0 : 0 < l.length := by omega
  have w2 : IntKind.i64.wrap ((l.length : Int) - 1) = ((l.length - 1 : Nat) : Int) := by rw [w64 (by omega)]; omega
  rw [hlast, hhd]
  have e1 : (r.u == 100000000) = decide (r.u = held) := rfl
  generalize l.flatMap Rn.enc = F at *
  subst a3
  by_cases c2 : 0 ≤ q.u
  · simp [-List.length_flatMap, -List.map_take, e_lease_ladder_right_r8, g0, D_within, c1, h0, c2, w2, hb, a2, e1]
  · simp [-List.length_flatMap, -List.map_take, e_lease_ladder_right_r8, g0, D_within, c1, h0, c2]
def eltLad : Elt (List Rn) := ⟨false, 1, ladE, fun r => .lst r.length (r.flatMap Rn.enc), fun _ => rfl, fun _ => by simp, fun _ => rfl, fun _ => rfl, fun _ => rfl⟩
theorem C_pd1 {l : List Rn} (hl : l.length ≤ 100000) : lim T (.call false i_lease_ProveDrill_1 [.lst l.length (l.flatMap Rn.enc)] σ) = some (.val (.bool (rightL l)) σ) := by
  refine call_of T_lease_ProveDrill_1 e_lease_ProveDrill_1 rfl ?_
  have hR := fun σ => C_right (σ := σ) hl
  simp [-List.length_flatMap, -List.map_take, e_lease_ProveDrill_1_r0, e_lease_ProveDrill_1_r1, hR]
theorem C_pd2 {c : Int} : lim T (.call false i_lease_ProveDrill_2 [.int .i64 c] σ) = some (.val (.tup []) σ) := by
  refine call_of T_lease_ProveDrill_2 e_lease_ProveDrill_2 rfl ?_
  simp
theorem L_pd3 {p : Pg} (hp : pgOk p = true) {d2 : D} (s2 : d2.calm = d2) {n y : Nat} {d57 : D} (s57 : d57.calm = d57) {yr : Yr} (hyr : p.l[y]? = some yr) {next : List Rn} (hnx : rightL next = true) {l : List Rn} (hlr : rightL l = true) : ∀ (m i : Nat), i + m = l.length →
    WL T [2, 9, 10, 12, 57, 58, 59, 76, 77, 78] false f_lease_ProveDrill_l19 [(2, d2), (9, .own 0 p.enc), (10, .int .i64 y), (12, .lst next.length (next.flatMap Rn.enc)), (57, d57), (58, .int .i64 n), (59, .int .i64 y), (76, .lst l.length (l.flatMap Rn.enc)), (77, .int .i64 l.length), (78, .int .i64 i)] σ
      (fun x e σ' => σ' = σ ∧ if below p yr next (l.drop i) then x = .exit 2 ∧ get e 2 = d2 ∧ get e 9 = .own 0 p.enc ∧ get e 57 = d57 ∧ get e 58 = .int .i64 n ∧ get e 59 = .int .i64 y else x = .ret ∧ get e 6 = .bool false)
  | 0, i, hi => by
    refine WL_step e_lease_ProveDrill_l19 ?_
    have h1 : ¬ i < l.length := by omega
    have h2 : l.drop i = [] := List.drop_eq_nil_of_le (by omega)
    rw [h2]
    simp [-List.length_flatMap, -List.map_take, e_lease_ProveDrill_r0, e_lease_ProveDrill_r1, e_lease_ProveDrill_r2, e_lease_ProveDrill_r3, e_lease_ProveDrill_r4, e_lease_ProveDrill_r5, e_lease_ProveDrill_r6, e_lease_ProveDrill_r7, e_lease_ProveDrill_r8, e_lease_ProveDrill_r9, e_lease_ProveDrill_r10, e_lease_ProveDrill_r11, e_lease_ProveDrill_r12, e_lease_ProveDrill_r13, e_lease_ProveDrill_r14, e_lease_ProveDrill_r15, e_lease_ProveDrill_r16, e_lease_ProveDrill_r17, e_lease_ProveDrill_r18, e_lease_ProveDrill_r20, e_lease_ProveDrill_r22, h1, below, allB_nil, s2, s57]
  | m + 1, i, hi => by
    refine WL_step e_lease_ProveDrill_l19 ?_
    have hp1 := pgOk_iff.1 hp
    have h1 : i < l.length := by omega
    obtain ⟨r, hx⟩ : ∃ x, l[i]? = some x := ⟨_, List.getElem?_eq_getElem h1⟩
    have hll := (rightL_iff.1 hlr).2.2.1
    have hrm := right_mem hlr r (List.mem_of_getElem? hx)
    have a1 := rn_at hx
    have w1 := wnext h1 (by omega)
    have hW := fun σ => C_least (σ := σ) hp hyr hnx hrm.1
    have ih := L_pd3 hp s2 (n := n) s57 hyr hnx hlr m (i + 1) (by omega)
    have e1 : below p yr next (l.drop i) = (decide (r.c ≤ leastW p yr (costI next) r.u) && below p yr next (l.drop (i + 1))) := by unfold below; rw [dropS hx, allB_cons]
    rw [e1]
    generalize below p yr next (l.drop (i + 1)) = G at *
    by_cases hc : r.c ≤ leastW p yr (costI next) r.u
    · have hc' : ¬ leastW p yr (costI next) r.u < r.c := by omega
      simp [-List.length_flatMap, -List.map_take, e_lease_ProveDrill_r0, e_lease_ProveDrill_r1, e_lease_ProveDrill_r2, e_lease_ProveDrill_r3, e_lease_ProveDrill_r4, e_lease_ProveDrill_r5, e_lease_ProveDrill_r6, e_lease_ProveDrill_r7, e_lease_ProveDrill_r8, e_lease_ProveDrill_r9, e_lease_ProveDrill_r10, e_lease_ProveDrill_r11, e_lease_ProveDrill_r12, e_lease_ProveDrill_r13, e_lease_ProveDrill_r14, e_lease_ProveDrill_r15, e_lease_ProveDrill_r16, e_lease_ProveDrill_r17, e_lease_ProveDrill_r18, e_lease_ProveDrill_r20, e_lease_ProveDrill_r22, h1, a1, w1, hW, hc', s2, s57]
      exact WL.to ih (by simp) rfl fun x e σ hh => by simpa [hc] using hh
    · have hc' : leastW p yr (costI next) r.u < r.c := by omega
      simp [-List.length_flatMap, -List.map_take, e_lease_ProveDrill_r0, e_lease_ProveDrill_r1, e_lease_ProveDrill_r2, e_lease_ProveDrill_r3, e_lease_ProveDrill_r4, e_lease_ProveDrill_r5, e_lease_ProveDrill_r6, e_lease_ProveDrill_r7, e_lease_ProveDrill_r8, e_lease_ProveDrill_r9, e_lease_ProveDrill_r10, e_lease_ProveDrill_r11, e_lease_ProveDrill_r12, e_lease_ProveDrill_r13, e_lease_ProveDrill_r14, e_lease_ProveDrill_r15, e_lease_ProveDrill_r16, e_lease_ProveDrill_r17, e_lease_ProveDrill_r18, e_lease_ProveDrill_r20, e_lease_ProveDrill_r22, h1, a1, w1, hW, hc', hc, s2, s57]
theorem L_pd4 {p : Pg} (hp : pgOk p = true) {t : List (List Rn)} (ht : t.length = p.l.length) (hr : ∀ l ∈ t, rightL l = true) : ∀ (m y : Nat), y + m = t.length →
    WL T [2, 9, 57, 58, 59] false f_lease_ProveDrill_l21 [(2, .lst t.length (t.flatMap ladE)), (9, .own 0 p.enc), (57, .lst t.length (t.flatMap ladE)), (58, .int .i64 t.length), (59, .int .i64 y)] σ
      (fun x e σ' => σ' = σ ∧ if belows p (p.l.drop y) (t.drop y) then x = .exit 0 else x = .ret ∧ get e 6 = .bool false)
  | 0, y, hy => by
    refine WL_step e_lease_ProveDrill_l21 ?_
    have h1 : ¬ y < t.length := by omega
    have h2 : t.drop y = [] := List.drop_eq_nil_of_le (by omega)
    have h3 : p.l.drop y = [] := List.drop_eq_nil_of_le (by omega)
    rw [h2, h3]
    simp [-List.length_flatMap, -List.map_take, e_lease_ProveDrill_r0, e_lease_ProveDrill_r1, e_lease_ProveDrill_r2, e_lease_ProveDrill_r3, e_lease_ProveDrill_r4, e_lease_ProveDrill_r5, e_lease_ProveDrill_r6, e_lease_ProveDrill_r7, e_lease_ProveDrill_r8, e_lease_ProveDrill_r9, e_lease_ProveDrill_r10, e_lease_ProveDrill_r11, e_lease_ProveDrill_r12, e_lease_ProveDrill_r13, e_lease_ProveDrill_r14, e_lease_ProveDrill_r15, e_lease_ProveDrill_r16, e_lease_ProveDrill_r17, e_lease_ProveDrill_r18, e_lease_ProveDrill_r20, e_lease_ProveDrill_r22, h1, belows]
  | m + 1, y, hy => by
    refine WL_step e_lease_ProveDrill_l21 ?_
    have hp1 := pgOk_iff.1 hp
    have h1 : y < t.length := by omega
    obtain ⟨l, hl⟩ : ∃ x, t[y]? = some x := ⟨_, List.getElem?_eq_getElem h1⟩
    obtain ⟨yr, hyr⟩ : ∃ x, p.l[y]? = some x := ⟨_, List.getElem?_eq_getElem (show y < p.l.length by omega)⟩
    have a1 := ladE_at hl
    have w1 := wnext h1 (by omega)
    have w9 : IntKind.i64.wrap ((y : Int) + 1) = (y : Int) + 1 := w64 (by omega)
    have ih := L_pd4 hp ht hr m (y + 1) (by omega)
    have e1 : belows p (p.l.drop y) (t.drop y) = (below p yr ((t.drop (y + 1)).headD [⟨held, 0⟩]) l && belows p (p.l.drop (y + 1)) (t.drop (y + 1))) := by
      rw [dropS hl, dropS hyr, belows]
    rw [e1]
    generalize belows p (p.l.drop (y + 1)) (t.drop (y + 1)) = G at *
    have fin : ∀ (next : List Rn), rightL next = true → (t.drop (y + 1)).headD [⟨held, 0⟩] = next →
        WL T [2, 9, 10, 12, 57, 58, 59, 76, 77, 78] false f_lease_ProveDrill_l19 [(2, .lst t.length (t.flatMap ladE)), (9, .own 0 p.enc), (10, .int .i64 y), (12, .lst next.length (next.flatMap Rn.enc)), (57, .lst t.length (t.flatMap ladE)), (58, .int .i64 t.length), (59, .int .i64 y), (76, .lst l.length (l.flatMap Rn.enc)), (77, .int .i64 l.length), (78, .int .i64 0)] σ
          (fun x e σ' => σ' = σ ∧ if below p yr next (l.drop 0) then x = .exit 2 ∧ get e 2 = .lst t.length (t.flatMap ladE) ∧ get e 9 = .own 0 p.enc ∧ get e 57 = .lst t.length (t.flatMap ladE) ∧ get e 58 = .int .i64 t.length ∧ get e 59 = .int .i64 y else x = .ret ∧ get e 6 = .bool false) :=
      fun next hn _ => L_pd3 hp (by simp) (by simp) hyr hn (hr l (List.mem_of_getElem? hl)) l.length 0 (by omega)
    by_cases hc : y + 1 < t.length
    · obtain ⟨nx, hnx⟩ : ∃ x, t[y + 1]? = some x := ⟨_, List.getElem?_eq_getElem hc⟩
      have hhd : (t.drop (y + 1)).headD [⟨held, 0⟩] = nx := by rw [dropS hnx]; rfl
      have b1 := ladE_at hnx
      have hc' : (y : Int) + 1 < t.length := by omega
      have hc0 : (0 : Int) ≤ (y : Int) + 1 := by omega
      rw [hhd]
      simp [-List.length_flatMap, -List.map_take, e_lease_ProveDrill_r0, e_lease_ProveDrill_r1, e_lease_ProveDrill_r2, e_lease_ProveDrill_r3, e_lease_ProveDrill_r4, e_lease_ProveDrill_r5, e_lease_ProveDrill_r6, e_lease_ProveDrill_r7, e_lease_ProveDrill_r8, e_lease_ProveDrill_r9, e_lease_ProveDrill_r10, e_lease_ProveDrill_r11, e_lease_ProveDrill_r12, e_lease_ProveDrill_r13, e_lease_ProveDrill_r14, e_lease_ProveDrill_r15, e_lease_ProveDrill_r16, e_lease_ProveDrill_r17, e_lease_ProveDrill_r18, e_lease_ProveDrill_r20, e_lease_ProveDrill_r22, h1, a1, w1, w9, hc, hc', hc0, b1]
      refine WL.to (fin nx (hr nx (List.mem_of_getElem? hnx)) hhd) (by simp) rfl ?_
      rintro x e σ' ⟨rfl, hh⟩
      rw [List.drop_zero] at hh
      cases hb : below p yr nx l
      · simp only [hb, Bool.false_eq_true, if_false] at hh
        obtain ⟨rfl, g6⟩ := hh
        simp [g6]
      · simp only [hb, if_true] at hh
        obtain ⟨rfl, g2, g9, g57, g58, g59⟩ := hh
        simp [-List.length_flatMap, -List.map_take, e_lease_ProveDrill_r20, g2, g9, g57, g58, g59, w1]
        exact WL.to ih (by simp) rfl fun x e σ hh => by simpa using hh
    · have hc' : ¬ (y : Int) + 1 < t.length := by omega
      have hhd : (t.drop (y + 1)).headD [⟨held, 0⟩] = [⟨held, 0⟩] := by rw [List.drop_eq_nil_of_le (by omega)]; rfl
      rw [hhd]
      simp [-List.length_flatMap, -List.map_take, e_lease_ProveDrill_r0, e_lease_ProveDrill_r1, e_lease_ProveDrill_r2, e_lease_ProveDrill_r3, e_lease_ProveDrill_r4, e_lease_ProveDrill_r5, e_lease_ProveDrill_r6, e_lease_ProveDrill_r7, e_lease_ProveDrill_r8, e_lease_ProveDrill_r9, e_lease_ProveDrill_r10, e_lease_ProveDrill_r11, e_lease_ProveDrill_r12, e_lease_ProveDrill_r13, e_lease_ProveDrill_r14, e_lease_ProveDrill_r15, e_lease_ProveDrill_r16, e_lease_ProveDrill_r17, e_lease_ProveDrill_r18, e_lease_ProveDrill_r20, e_lease_ProveDrill_r22, h1, a1, w1, w9, hc, hc']
      refine WL.to (fin [⟨held, 0⟩] (by decide) hhd) (by simp) rfl ?_
      rintro x e σ' ⟨rfl, hh⟩
      rw [List.drop_zero] at hh
      cases hb : below p yr [⟨held, 0⟩] l
      · simp only [hb, Bool.false_eq_true, if_false] at hh
        obtain ⟨rfl, g6⟩ := hh
        simp [g6]
      · simp only [hb, if_true] at hh
        obtain ⟨rfl, g2, g9, g57, g58, g59⟩ := hh
        simp [-List.length_flatMap, -List.map_take, e_lease_ProveDrill_r20, g2, g9, g57, g58, g59, w1]
        exact WL.to ih (by simp) rfl fun x e σ hh => by simpa using hh
theorem C_ProveDrill {p : Pg} (hpl : p.l.length ≤ 1000000) {ks : List Int} (hk : ks.length ≤ 1000000) {t : List (List Rn)} (ht : t.length ≤ 100000) (hl : ∀ l ∈ t, l.length ≤ 100000) (hσ : σ ≠ []) :
    lim T (.call false i_lease_ProveDrill [.agg [.int .i64 p.start, .int .i64 p.gain, .int .i64 p.keep, .int .i64 p.most, .lst p.l.length (p.l.flatMap Yr.enc)], .lst ks.length (ks.flatMap intE), .lst t.length (t.flatMap ladE)] σ) = some (.val (.bool (pgOk p && shows p ks t)) σ) := by
  refine call_of T_lease_ProveDrill e_lease_ProveDrill rfl ?_
  have hV := fun σ => C_pvalid (σ := σ) hpl
  have hP := fun σ => C_planned (σ := σ) (p := p) hk
  have hA := fun σ => all_of (σ := σ) eltLad T_lease_all_L_lease_Rung T_lease_all_L_lease_Rung_1 T_slices_ContainsFunc_L_lease_Rung T_slices_IndexFunc_L_lease_Rung (l := t) (p := rightL) (fv := .fn i_lease_ProveDrill_1 [] []) (by omega) (.fn fun l h σ => C_pd1 (hl l h)) rfl
  have hE : eltLad.enc = ladE := rfl
  rw [hE] at hA
  unfold shows tableOk
  cases h1 : pgOk p
  · simp [-List.length_flatMap, -List.map_take, e_lease_ProveDrill_r0, e_lease_ProveDrill_r1, e_lease_ProveDrill_r2, e_lease_ProveDrill_r3, e_lease_ProveDrill_r4, e_lease_ProveDrill_r5, e_lease_ProveDrill_r6, e_lease_ProveDrill_r7, e_lease_ProveDrill_r8, e_lease_ProveDrill_r9, e_lease_ProveDrill_r10, e_lease_ProveDrill_r11, e_lease_ProveDrill_r12, e_lease_ProveDrill_r13, e_lease_ProveDrill_r14, e_lease_ProveDrill_r15, e_lease_ProveDrill_r16, e_lease_ProveDrill_r17, e_lease_ProveDrill_r18, e_lease_ProveDrill_r20, e_lease_ProveDrill_r22, hV, h1]
  have hp1 := pgOk_iff.1 h1
  cases h2 : planOk p ks
  · simp [-List.length_flatMap, -List.map_take, e_lease_ProveDrill_r0, e_lease_ProveDrill_r1, e_lease_ProveDrill_r2, e_lease_ProveDrill_r3, e_lease_ProveDrill_r4, e_lease_ProveDrill_r5, e_lease_ProveDrill_r6, e_lease_ProveDrill_r7, e_lease_ProveDrill_r8, e_lease_ProveDrill_r9, e_lease_ProveDrill_r10, e_lease_ProveDrill_r11, e_lease_ProveDrill_r12, e_lease_ProveDrill_r13, e_lease_ProveDrill_r14, e_lease_ProveDrill_r15, e_lease_ProveDrill_r16, e_lease_ProveDrill_r17, e_lease_ProveDrill_r18, e_lease_ProveDrill_r20, e_lease_ProveDrill_r22, hV, hP, h1, h2]
  by_cases h3 : t.length = p.l.length
  rotate_left
  · have h3' : ¬ (t.length : Int) = p.l.length := by omega
    simp [-List.length_flatMap, -List.map_take, e_lease_ProveDrill_r0, e_lease_ProveDrill_r1, e_lease_ProveDrill_r2, e_lease_ProveDrill_r3, e_lease_ProveDrill_r4, e_lease_ProveDrill_r5, e_lease_ProveDrill_r6, e_lease_ProveDrill_r7, e_lease_ProveDrill_r8, e_lease_ProveDrill_r9, e_lease_ProveDrill_r10, e_lease_ProveDrill_r11, e_lease_ProveDrill_r12, e_lease_ProveDrill_r13, e_lease_ProveDrill_r14, e_lease_ProveDrill_r15, e_lease_ProveDrill_r16, e_lease_ProveDrill_r17, e_lease_ProveDrill_r18, e_lease_ProveDrill_r20, e_lease_ProveDrill_r22, hV, hP, h1, h2, h3, h3']
  have h3' : ((t.length : Int) != p.l.length) = false := by simp [h3]
  rw [decide_eq_true h3]
  cases h4 : allB t rightL
  · simp [-List.length_flatMap, -List.map_take, e_lease_ProveDrill_r0, e_lease_ProveDrill_r1, e_lease_ProveDrill_r2, e_lease_ProveDrill_r3, e_lease_ProveDrill_r4, e_lease_ProveDrill_r5, e_lease_ProveDrill_r6, e_lease_ProveDrill_r7, e_lease_ProveDrill_r8, e_lease_ProveDrill_r9, e_lease_ProveDrill_r10, e_lease_ProveDrill_r11, e_lease_ProveDrill_r12, e_lease_ProveDrill_r13, e_lease_ProveDrill_r14, e_lease_ProveDrill_r15, e_lease_ProveDrill_r16, e_lease_ProveDrill_r17, e_lease_ProveDrill_r18, e_lease_ProveDrill_r20, e_lease_ProveDrill_r22, hV, hP, h1, h2, h3', hA, h4]
  have hF := C_follow h1 h2 (g := i_lease_ProveDrill_2) (cap := []) (.inl rfl) (St := fun _ => [] :: σ) (n := σ.length + 1) (fun _ => by simp) (fun acc c ha => C_pd2)
  obtain ⟨l, hl0⟩ : ∃ x, t[0]? = some x := ⟨_, List.getElem?_eq_getElem (show 0 < t.length by omega)⟩
  have a1 := ladE_at hl0
  rw [List.drop_zero] at a1
  have ht0 : 0 < t.length := by omega
  have hh : t.headD [] = l := by cases t with | nil => simp at hl0 | cons a b => simpa using hl0
  have hrr := allB_iff.1 h4
  have hC := fun σ => C_at (σ := σ) (hrr l (List.mem_of_getElem? hl0)) hp1.1.1
  rw [hh]
  cases h5 : folIs p p.l ks p.start
  · simp only [h5, Bool.false_eq_true, if_false] at hF
    obtain ⟨_, hF⟩ := hF
    simp [-List.length_flatMap, -List.map_take, e_lease_ProveDrill_r0, e_lease_ProveDrill_r1, e_lease_ProveDrill_r2, e_lease_ProveDrill_r3, e_lease_ProveDrill_r4, e_lease_ProveDrill_r5, e_lease_ProveDrill_r6, e_lease_ProveDrill_r7, e_lease_ProveDrill_r8, e_lease_ProveDrill_r9, e_lease_ProveDrill_r10, e_lease_ProveDrill_r11, e_lease_ProveDrill_r12, e_lease_ProveDrill_r13, e_lease_ProveDrill_r14, e_lease_ProveDrill_r15, e_lease_ProveDrill_r16, e_lease_ProveDrill_r17, e_lease_ProveDrill_r18, e_lease_ProveDrill_r20, e_lease_ProveDrill_r22, hV, hP, h1, h2, h3', hA, h4, hF]
  simp only [h5, if_true] at hF
  by_cases h6 : costI l p.start = folCost p p.l ks p.start
  rotate_left
  · simp [-List.length_flatMap, -List.map_take, e_lease_ProveDrill_r0, e_lease_ProveDrill_r1, e_lease_ProveDrill_r2, e_lease_ProveDrill_r3, e_lease_ProveDrill_r4, e_lease_ProveDrill_r5, e_lease_ProveDrill_r6, e_lease_ProveDrill_r7, e_lease_ProveDrill_r8, e_lease_ProveDrill_r9, e_lease_ProveDrill_r10, e_lease_ProveDrill_r11, e_lease_ProveDrill_r12, e_lease_ProveDrill_r13, e_lease_ProveDrill_r14, e_lease_ProveDrill_r15, e_lease_ProveDrill_r16, e_lease_ProveDrill_r17, e_lease_ProveDrill_r18, e_lease_ProveDrill_r20, e_lease_ProveDrill_r22, hV, hP, h1, h2, h3', hA, h4, hF, ht0, a1, hC, h6]
  simp [-List.length_flatMap, -List.map_take, e_lease_ProveDrill_r0, e_lease_ProveDrill_r1, e_lease_ProveDrill_r2, e_lease_ProveDrill_r3, e_lease_ProveDrill_r4, e_lease_ProveDrill_r5, e_lease_ProveDrill_r6, e_lease_ProveDrill_r7, e_lease_ProveDrill_r8, e_lease_ProveDrill_r9, e_lease_ProveDrill_r10, e_lease_ProveDrill_r11, e_lease_ProveDrill_r12, e_lease_ProveDrill_r13, e_lease_ProveDrill_r14, e_lease_ProveDrill_r15, e_lease_ProveDrill_r16, e_lease_ProveDrill_r17, e_lease_ProveDrill_r18, e_lease_ProveDrill_r20, e_lease_ProveDrill_r22, hV, hP, h1, h2, h3', hA, h4, hF, ht0, a1, hC, h6]
  refine WL.to (L_pd4 (σ := [] :: σ) h1 h3 hrr t.length 0 (by omega)) (by simp) rfl ?_
  rintro x e σ' ⟨rfl, hh⟩
  simp only [List.drop_zero] at hh
  cases hB : belows p p.l t
  · simp only [hB, Bool.false_eq_true, if_false] at hh
    obtain ⟨rfl, g6⟩ := hh
    simp [g6]
  · simp only [hB, if_true] at hh
    subst hh
    simp [-List.length_flatMap, -List.map_take, e_lease_ProveDrill_r22]
    exact h6
end Go.Proofs.YtcccafphhmcifaaGreat
