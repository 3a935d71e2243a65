/-
  The law TremorLights answers true.
-/
import Derived.Test.YticpenoicajakaaGreatKL
import Derived.Test.YticpenoicajakaaGreatTremTy
import Derived.Test.YticpenoicajakaaGreatBase2
set_option linter.unusedVariables false
set_option linter.unusedSimpArgs false
namespace Go.Trem
open Go Go.Abs

theorem allB_nil {α : Type} {p : α → Bool} : allB [] p = true := rfl
theorem allB_cons {α : Type} {x : α} {l : List α} {p : α → Bool} : allB (x :: l) p = (p x && allB l p) := rfl
theorem anyB_nil {α : Type} {p : α → Bool} : anyB [] p = false := rfl
theorem anyB_cons {α : Type} {x : α} {l : List α} {p : α → Bool} : anyB (x :: l) p = (p x || anyB l p) := rfl

/-- The rows of a list of events whose spots lie in blocks of their own. -/
def evRows (L : Nat) : Nat → List Ev → List D
  | _, [] => []
  | j, e :: es => .int .i64 e.tick :: .sl L (j + 1) e.sp.length 0 e.sp.length 4 :: evRows L (j + 1) es
def evBlks (es : List Ev) : List Blk := es.map fun e => .cells e.sp.length (e.sp.flatMap Spt.enc)
theorem evRows_len (L : Nat) : ∀ (j : Nat) (es : List Ev), (evRows L j es).length = es.length * 2
  | _, [] => rfl
  | j, e :: es => by simp [evRows, evRows_len L (j + 1) es]; omega
theorem evRows_snoc (L : Nat) (e : Ev) : ∀ (j : Nat) (es : List Ev), evRows L j (es ++ [e]) = evRows L j es ++ [.int .i64 e.tick, .sl L (j + es.length + 1) e.sp.length 0 e.sp.length 4]
  | j, [] => by simp [evRows]
  | j, x :: es => by
    have := evRows_snoc L e (j + 1) es
    simp only [List.cons_append, evRows, this, List.length_cons]
    rw [show j + 1 + es.length + 1 = j + (es.length + 1) + 1 by omega]
theorem evBlks_snoc (es : List Ev) (e : Ev) : evBlks (es ++ [e]) = evBlks es ++ [.cells e.sp.length (e.sp.flatMap Spt.enc)] := by simp [evBlks]
theorem evBlks_len (es : List Ev) : (evBlks es).length = es.length := by simp [evBlks]

theorem frz_evs {l n : Nat} {σ : Stack} (hl : ¬ σ.length ≤ l) : ∀ (es : List Ev) (j : Nat) (pre : List Blk), pre.length = j + 1 →
    frz.frzL (frz l (n + 2)) (evRows σ.length j es) ((pre ++ evBlks es) :: σ) = (es.flatMap Ev.enc, (pre ++ es.map fun _ => Blk.dead) :: σ)
  | [], j, pre, hp => by simp [evRows, evBlks]
  | e :: es, j, pre, hp => by
    have ih := frz_evs (n := n) hl es (j + 1) (pre ++ [.dead]) (by simp [hp])
    have h4 := k_self (f := Spt.enc) (w := 4) (fun _ => rfl) e.sp
    have h5 := k_clean (f := Spt.enc) (fun x => by simp) e.sp
    simp only [evRows, frzL_cons]
    rw [frz_clean (d := .int .i64 e.tick) (by simp) (by omega)]
    dsimp only
    have hc : cells? ((pre ++ evBlks (e :: es)) :: σ) σ.length (j + 1) e.sp.length = some (e.sp.flatMap Spt.enc) := by
      simp [evBlks, ← hp]
    rw [frz_sl hl hc (by omega)]
    have hs : setBlk ((pre ++ evBlks (e :: es)) :: σ) σ.length (j + 1) .dead = ((pre ++ [.dead]) ++ evBlks es) :: σ := by
      simp [evBlks, ← hp]
    rw [hs]
    simp only [List.drop_zero, h4]
    rw [frzL_clean h5 (by omega)]
    dsimp only
    rw [ih]
    simp
end Go.Trem
namespace Go.Proofs.YticpenoicajakaaGreat
open Go Go.Abs Go.Trem
variable {σ : Stack}

theorem L_Rules {l : List Rule} (hl : l.length ≤ 100000) : ∀ (m i : Nat), i + m = l.length →
    WL T [0, 3, 4] false f_law09_Rules_l6 [(0, .lst l.length (l.flatMap Rule.enc)), (3, .sl σ.length 0 i 0 i 10), (4, .int .i64 i)] ([.cells i ((l.take i).flatMap Rule.enc)] :: σ)
      (fun x e σ' => x = .exit 0 ∧ get e 3 = .sl σ.length 0 l.length 0 l.length 10 ∧ σ' = [.cells l.length (l.flatMap Rule.enc)] :: σ)
  | 0, i, hi => by
    refine WL_step e_law09_Rules_l6 ?_
    have h2 : i = l.length := by omega
    subst h2
    simp [-List.length_flatMap, -List.map_take, e_law09_Rules_r0, e_law09_Rules_r1, e_law09_Rules_r2, e_law09_Rules_r3, e_law09_Rules_r4, e_law09_Rules_r5, e_law09_Rules_r7]
  | m + 1, i, hi => by
    refine WL_step e_law09_Rules_l6 ?_
    have h1 : i < l.length := by omega
    obtain ⟨x, hx⟩ : ∃ x, l[i]? = some x := ⟨_, List.getElem?_eq_getElem h1⟩
    have h2 := flat_at (f := Rule.enc) (w := 10) (fun _ => rfl) hx
    have h3 := flat_take (f := Rule.enc) (w := 10) (fun _ => rfl) (Nat.le_of_lt h1)
    have h4 := flat_snoc (f := Rule.enc) hx
    have h5 := flat_len (f := Rule.enc) (w := 10) (fun _ => rfl) (l.take i)
    have h6 := wnext h1 (by omega)
    have h7 : (i + 1) * 80 ≤ room := by unfold room; omega
    have h8 : min i l.length = i := by omega
    have ih := L_Rules hl m (i + 1) (by omega)
    simp [-List.length_flatMap, -List.map_take, e_law09_Rules_r0, e_law09_Rules_r1, e_law09_Rules_r2, e_law09_Rules_r3, e_law09_Rules_r4, e_law09_Rules_r5, e_law09_Rules_r7, h1, h2, h3, h5, h6, h7, h8, C_Point]
    refine WL.to ih (by simp) (by simp [← h4]) fun x e σ hh => hh
theorem C_RulesL {l : List Rule} (hl : l.length ≤ 100000) (hσ : σ ≠ []) :
    lim T (.call false i_law09_Rules [.lst l.length (l.flatMap Rule.enc)] σ) = some (.val (.lst l.length (l.flatMap Rule.enc)) σ) := by
  refine call_of T_law09_Rules e_law09_Rules rfl ?_
  simp [-List.length_flatMap, -List.map_take, e_law09_Rules_r0, e_law09_Rules_r1, e_law09_Rules_r2, e_law09_Rules_r3, e_law09_Rules_r4, e_law09_Rules_r5, e_law09_Rules_r7]
  refine WL.to (L_Rules (σ := σ) hl l.length 0 (by omega)) (by simp) (by simp) ?_
  rintro x e σ' ⟨rfl, h2, rfl⟩
  simp [-List.length_flatMap, -List.map_take, h2, e_law09_Rules_r7]
  rw [k_out (f := Rule.enc) (fun _ => rfl) (fun x => by simp) hσ rfl]
  simp

theorem L_spots {l : List Ev} (hl : l.length ≤ 100000) {i : Nat} {e0 : Ev} (he : l[i]? = some e0) (hs : e0.sp.length ≤ 100000) {B : List Blk} (hB : B.length = i + 1) {v : Nat} : ∀ (m k : Nat), k + m = e0.sp.length →
    WL T [0, 3, 4, 5, 6] false f_law09_Events_l9 [(0, .lst l.length (l.flatMap Ev.enc)), (3, .sl σ.length 0 v 0 v 2), (4, .int .i64 i), (5, .own 0 [.int .i64 e0.tick, .sl σ.length (i + 1) k 0 k 4]), (6, .int .i64 k)] ((B ++ [.cells k ((e0.sp.take k).flatMap Spt.enc)]) :: σ)
      (fun x e σ' => x = .exit 2 ∧ get e 0 = .lst l.length (l.flatMap Ev.enc) ∧ get e 3 = .sl σ.length 0 v 0 v 2 ∧ get e 4 = .int .i64 i ∧ get e 5 = .own 0 [.int .i64 e0.tick, .sl σ.length (i + 1) e0.sp.length 0 e0.sp.length 4] ∧ σ' = (B ++ [.cells e0.sp.length (e0.sp.flatMap Spt.enc)]) :: σ)
  | 0, k, hk => by
    refine WL_step e_law09_Events_l9 ?_
    have g1 : i < l.length := (List.getElem?_eq_some_iff.1 he).1
    have a1 := flat_at (f := Ev.enc) (w := 2) (fun _ => rfl) he
    have h2 : k = e0.sp.length := by omega
    subst h2
    simp [-List.length_flatMap, -List.map_take, e_law09_Events_r0, e_law09_Events_r1, e_law09_Events_r2, e_law09_Events_r3, e_law09_Events_r4, e_law09_Events_r5, e_law09_Events_r6, e_law09_Events_r7, e_law09_Events_r8, e_law09_Events_r10, e_law09_Events_r11, e_law09_Events_r13, g1, a1]
  | m + 1, k, hk => by
    refine WL_step e_law09_Events_l9 ?_
    have g1 : i < l.length := (List.getElem?_eq_some_iff.1 he).1
    have a1 := flat_at (f := Ev.enc) (w := 2) (fun _ => rfl) he
    have h1 : k < e0.sp.length := by omega
    obtain ⟨x, hx⟩ : ∃ x, e0.sp[k]? = some x := ⟨_, List.getElem?_eq_getElem h1⟩
    have h2 := flat_at (f := Spt.enc) (w := 4) (fun _ => rfl) hx
    have h3 := flat_take (f := Spt.enc) (w := 4) (fun _ => rfl) (Nat.le_of_lt h1)
    have h4 := flat_snoc (f := Spt.enc) hx
    have h5 := flat_len (f := Spt.enc) (w := 4) (fun _ => rfl) (e0.sp.take k)
    have h6 := wnext h1 (by omega)
    have h7 : (k + 1) * 32 ≤ room := by unfold room; omega
    have h8 : min k e0.sp.length = k := by omega
    have ih := L_spots hl he hs hB (v := v) m (k + 1) (by omega)
    have q1 : ∀ c : Blk, (B ++ [c])[i + 1]? = some c := fun c => by rw [← hB]; simp
    have q2 : ∀ c c' : Blk, (B ++ [c]).set (i + 1) c' = B ++ [c'] := fun c c' => by rw [← hB]; simp
    simp [-List.length_flatMap, -List.map_take, e_law09_Events_r0, e_law09_Events_r1, e_law09_Events_r2, e_law09_Events_r3, e_law09_Events_r4, e_law09_Events_r5, e_law09_Events_r6, e_law09_Events_r7, e_law09_Events_r8, e_law09_Events_r10, e_law09_Events_r11, e_law09_Events_r13, g1, a1, h1, h2, h3, h5, h6, h7, h8, C_Point, q1, q2]
    refine WL.to ih (by simp) (by simp [← h4]) fun x e σ hh => hh

theorem L_events {l : List Ev} (hl : l.length ≤ 100000) (hs : ∀ e ∈ l, e.sp.length ≤ 100000) : ∀ (m i : Nat), i + m = l.length →
    WL T [0, 3, 4] false f_law09_Events_l12 [(0, .lst l.length (l.flatMap Ev.enc)), (3, .sl σ.length 0 i 0 i 2), (4, .int .i64 i)] ((.cells i (evRows σ.length 0 (l.take i)) :: evBlks (l.take i)) :: σ)
      (fun x e σ' => x = .exit 0 ∧ get e 3 = .sl σ.length 0 l.length 0 l.length 2 ∧ σ' = (.cells l.length (evRows σ.length 0 l) :: evBlks l) :: σ)
  | 0, i, hi => by
    refine WL_step e_law09_Events_l12 ?_
    have h2 : i = l.length := by omega
    subst h2
    simp [-List.length_flatMap, -List.map_take, e_law09_Events_r0, e_law09_Events_r1, e_law09_Events_r2, e_law09_Events_r3, e_law09_Events_r4, e_law09_Events_r5, e_law09_Events_r6, e_law09_Events_r7, e_law09_Events_r8, e_law09_Events_r10, e_law09_Events_r11, e_law09_Events_r13]
  | m + 1, i, hi => by
    refine WL_step e_law09_Events_l12 ?_
    have g1 : i < l.length := by omega
    obtain ⟨e0, he⟩ : ∃ x, l[i]? = some x := ⟨_, List.getElem?_eq_getElem g1⟩
    have a1 := flat_at (f := Ev.enc) (w := 2) (fun _ => rfl) he
    have hse := hs e0 (List.mem_of_getElem? he)
    have hlen : (l.take i).length = i := by simp; omega
    have hbl : (evBlks (l.take i)).length = i := by rw [evBlks_len, hlen]
    have hta : l.take (i + 1) = l.take i ++ [e0] := by rw [List.take_add_one, he]; rfl
    have ih := L_events hl hs m (i + 1) (by omega)
    rw [hta, evRows_snoc, evBlks_snoc, hlen, Nat.zero_add] at ih
    have h6 := wnext g1 (by omega)
    have h7 : (i + 1) * 32 ≤ room := by unfold room; omega
    have h3 := evRows_len σ.length 0 (l.take i)
    rw [hlen] at h3
    have h3' : (evRows σ.length 0 (l.take i)).take (i * 2) = evRows σ.length 0 (l.take i) := List.take_of_length_le (by omega)
    simp [-List.length_flatMap, -List.map_take, e_law09_Events_r0, e_law09_Events_r1, e_law09_Events_r2, e_law09_Events_r3, e_law09_Events_r4, e_law09_Events_r5, e_law09_Events_r6, e_law09_Events_r7, e_law09_Events_r8, e_law09_Events_r10, e_law09_Events_r11, e_law09_Events_r13, g1, a1, hbl]
    refine WL.to (L_spots (σ := σ) hl he hse (B := .cells i (evRows σ.length 0 (l.take i)) :: evBlks (l.take i)) (by simp [hbl]) (v := i) e0.sp.length 0 (by omega)) (by simp) (by simp) ?_
    rintro x e σ' ⟨rfl, e1, e3, e4, e5, rfl⟩
    simp [-List.length_flatMap, -List.map_take, e_law09_Events_r10, e_law09_Events_r11, e1, e3, e4, e5, h3, h3', h6, h7]
    refine WL.to ih (by simp) (by simp) fun x e σ hh => hh

theorem C_EventsL {l : List Ev} (hl : l.length ≤ 100000) (hs : ∀ e ∈ l, e.sp.length ≤ 100000) (hσ : σ ≠ []) :
    lim T (.call false i_law09_Events [.lst l.length (l.flatMap Ev.enc)] σ) = some (.val (.lst l.length (l.flatMap Ev.enc)) σ) := by
  refine call_of T_law09_Events e_law09_Events rfl ?_
  simp [-List.length_flatMap, -List.map_take, e_law09_Events_r0, e_law09_Events_r1, e_law09_Events_r2, e_law09_Events_r3, e_law09_Events_r4, e_law09_Events_r5, e_law09_Events_r6, e_law09_Events_r7, e_law09_Events_r8, e_law09_Events_r10, e_law09_Events_r11, e_law09_Events_r13]
  refine WL.to (L_events (σ := σ) hl hs l.length 0 (by omega)) (by simp) (by simp [evRows, evBlks]) ?_
  rintro x e σ' ⟨rfl, h2, rfl⟩
  simp [-List.length_flatMap, -List.map_take, h2, e_law09_Events_r13]
  have h3 : ¬ σ.length ≤ σ.length - 1 := by have := List.length_pos_iff.2 hσ; omega
  have h4 := evRows_len σ.length 0 l
  rw [frz_sl h3 (cs := evRows σ.length 0 l) (by simp) (by omega)]
  have hf := frz_evs (n := 13) h3 l 0 [.dead] rfl
  have h5 : (evRows σ.length 0 l).take (l.length * 2) = evRows σ.length 0 l := List.take_of_length_le (by omega)
  simp only [List.cons_append, List.nil_append] at hf
  simp [h5, hf]

theorem C_RightRule {r : Rule} : lim T (.call false i_ref09_RightRule [.agg r.enc] σ) = some (.val (.bool r.ok) σ) := by
  refine call_of T_ref09_RightRule e_ref09_RightRule rfl ?_
  cases hc1 : boxOk r.lo r.hi
  · simp [-List.length_flatMap, -List.map_take, e_ref09_RightRule_r0, e_ref09_RightRule_r1, C_In, C_Box, Rule.ok, hc1]
  cases hc2 : inn r.least 0 160
  · simp [-List.length_flatMap, -List.map_take, e_ref09_RightRule_r0, e_ref09_RightRule_r1, C_In, C_Box, Rule.ok, hc1, hc2]
  cases hc3 : inn r.ticks 1 1000000
  · simp [-List.length_flatMap, -List.map_take, e_ref09_RightRule_r0, e_ref09_RightRule_r1, C_In, C_Box, Rule.ok, hc1, hc2, hc3]
  cases hc4 : inn r.count 1 200
  · simp [-List.length_flatMap, -List.map_take, e_ref09_RightRule_r0, e_ref09_RightRule_r1, C_In, C_Box, Rule.ok, hc1, hc2, hc3, hc4]
  by_cases hc5 : r.col = 1
  rotate_left
  · simp [-List.length_flatMap, -List.map_take, e_ref09_RightRule_r0, e_ref09_RightRule_r1, C_In, C_Box, Rule.ok, hc1, hc2, hc3, hc4, hc5]
  simp [-List.length_flatMap, -List.map_take, e_ref09_RightRule_r0, e_ref09_RightRule_r1, C_In, C_Box, Rule.ok, hc1, hc2, hc3, hc4, hc5]

theorem L_rev {e0 : Ev} (hl : e0.sp.length ≤ 9223372036854775807) : ∀ (m i : Nat), i + m = e0.sp.length →
    WL T [1, 3] false f_ref09_RightEvent_l6 [(1, .cref e0.enc), (3, .int .i64 i)] σ
      (fun x e σ' => σ' = σ ∧ if allB (e0.sp.drop i) Spt.ok then x = .exit 0 ∧ get e 1 = .cref e0.enc else x = .ret ∧ get e 2 = .bool false)
  | 0, i, hi => by
    refine WL_step e_ref09_RightEvent_l6 ?_
    have h1 : ¬ i < e0.sp.length := by omega
    have h2 : e0.sp.drop i = [] := by simp; omega
    simp [-List.length_flatMap, -List.map_take, e_ref09_RightEvent_r0, e_ref09_RightEvent_r1, e_ref09_RightEvent_r2, e_ref09_RightEvent_r3, e_ref09_RightEvent_r4, e_ref09_RightEvent_r5, e_ref09_RightEvent_r7, h1, h2, allB_nil]
  | m + 1, i, hi => by
    refine WL_step e_ref09_RightEvent_l6 ?_
    have h1 : i < e0.sp.length := by omega
    obtain ⟨x, hx⟩ : ∃ x, e0.sp[i]? = some x := ⟨_, List.getElem?_eq_getElem h1⟩
    have h2 := flat_at (f := Spt.enc) (w := 4) (fun _ => rfl) hx
    have h6 := wnext h1 (by omega)
    have ih := L_rev hl m (i + 1) (by omega)
    rw [drop_at hx, allB_cons]
    have ho : Spt.ok x = (x.p.ok && inn x.mag 0 160) := rfl
    cases c1 : x.p.ok
    · simp [-List.length_flatMap, -List.map_take, e_ref09_RightEvent_r0, e_ref09_RightEvent_r1, e_ref09_RightEvent_r2, e_ref09_RightEvent_r3, e_ref09_RightEvent_r4, e_ref09_RightEvent_r5, e_ref09_RightEvent_r7, h1, h2, h6, C_Dot, c1, ho]
    cases c2 : inn x.mag 0 160
    · simp [-List.length_flatMap, -List.map_take, e_ref09_RightEvent_r0, e_ref09_RightEvent_r1, e_ref09_RightEvent_r2, e_ref09_RightEvent_r3, e_ref09_RightEvent_r4, e_ref09_RightEvent_r5, e_ref09_RightEvent_r7, h1, h2, h6, C_Dot, c1, C_In, c2, ho]
    simp [-List.length_flatMap, -List.map_take, e_ref09_RightEvent_r0, e_ref09_RightEvent_r1, e_ref09_RightEvent_r2, e_ref09_RightEvent_r3, e_ref09_RightEvent_r4, e_ref09_RightEvent_r5, e_ref09_RightEvent_r7, h1, h2, h6, C_Dot, c1, C_In, c2]
    refine WL.to ih (by simp) rfl fun x e σ' hh => ?_
    simpa [ho, c1, c2] using hh

theorem C_RightEvent {e0 : Ev} (hl : e0.sp.length ≤ 9223372036854775807) : lim T (.call false i_ref09_RightEvent [.agg e0.enc] σ) = some (.val (.bool e0.ok) σ) := by
  refine call_of T_ref09_RightEvent e_ref09_RightEvent rfl ?_
  simp [-List.length_flatMap, -List.map_take, e_ref09_RightEvent_r0, e_ref09_RightEvent_r1, e_ref09_RightEvent_r2, e_ref09_RightEvent_r3, e_ref09_RightEvent_r4, e_ref09_RightEvent_r5, e_ref09_RightEvent_r7]
  refine WL.to (L_rev (σ := [] :: σ) hl e0.sp.length 0 (by omega)) (by simp) rfl ?_
  rintro x e σ' ⟨rfl, h⟩
  simp only [List.drop_zero] at h
  have ho : e0.ok = (inn e0.tick 0 1000000 && (inn e0.sp.length 1 2000 && allB e0.sp Spt.ok)) := rfl
  cases c : allB e0.sp Spt.ok
  · rw [c] at h
    obtain ⟨rfl, h⟩ := h
    simp [h, ho, c]
  · rw [c] at h
    simp at h
    obtain ⟨rfl, h⟩ := h
    have hi : inn e0.sp.length 1 2000 = (decide (1 ≤ (e0.sp.length : Int)) && decide ((e0.sp.length : Int) ≤ 2000)) := rfl
    cases c1 : inn e0.tick 0 1000000
    · simp [-List.length_flatMap, -List.map_take, h, e_ref09_RightEvent_r7, C_In, c1, ho]
    by_cases c2 : (1 : Int) ≤ e0.sp.length
    · by_cases c3 : (e0.sp.length : Int) ≤ 2000
      · simp [-List.length_flatMap, -List.map_take, h, e_ref09_RightEvent_r7, C_In, c1, ho, c, hi, c2, c3]
      · simp [-List.length_flatMap, -List.map_take, h, e_ref09_RightEvent_r7, C_In, c1, ho, c, hi, c2, c3]
    · simp [-List.length_flatMap, -List.map_take, h, e_ref09_RightEvent_r7, C_In, c1, ho, c, hi, c2]

theorem C_Inside {a b c x y z u v w : Int} : lim T (.call false i_ref09_Inside [.agg [.int .i64 a, .int .i64 b, .int .i64 c], .agg [.int .i64 x, .int .i64 y, .int .i64 z], .agg [.int .i64 u, .int .i64 v, .int .i64 w]] σ) = some (.val (.bool (inn a x u && (inn b y v && inn c z w))) σ) := by
  refine call_of T_ref09_Inside e_ref09_Inside rfl ?_
  cases hc1 : inn a x u
  · simp [-List.length_flatMap, -List.map_take, e_ref09_Inside_r0, e_ref09_Inside_r1, C_In, hc1]
  cases hc2 : inn b y v
  · simp [-List.length_flatMap, -List.map_take, e_ref09_Inside_r0, e_ref09_Inside_r1, C_In, hc1, hc2]
  simp [-List.length_flatMap, -List.map_take, e_ref09_Inside_r0, e_ref09_Inside_r1, C_In, hc1, hc2]
theorem C_Counts {r : Rule} {s : Spt} : lim T (.call false i_ref09_Counts [.agg r.enc, .agg s.enc] σ) = some (.val (.bool (r.cnt s)) σ) := by
  refine call_of T_ref09_Counts e_ref09_Counts rfl ?_
  have ho : r.cnt s = (decide (r.least ≤ s.mag) && (inn s.p.x r.lo.x r.hi.x && (inn s.p.y r.lo.y r.hi.y && inn s.p.z r.lo.z r.hi.z))) := rfl
  rw [ho]
  cases c : (inn s.p.x r.lo.x r.hi.x && (inn s.p.y r.lo.y r.hi.y && inn s.p.z r.lo.z r.hi.z))
  · simp [-List.length_flatMap, -List.map_take, e_ref09_Counts_r0, e_ref09_Counts_r1, C_Inside, c]
  · by_cases h : r.least ≤ s.mag <;> simp [-List.length_flatMap, -List.map_take, e_ref09_Counts_r0, e_ref09_Counts_r1, C_Inside, c, h]

theorem L_says1 {r : Rule} {l : List Ev} {i : Nat} {e0 : Ev} (he : l[i]? = some e0) (hs : e0.sp.length ≤ 9223372036854775807) {now : Int} {all : Bool} {n : Int} : ∀ (m k : Nat) (a b : Bool), k + m = e0.sp.length →
    WL T [1, 2, 3, 4, 9, 10, 11, 12, 13] false f_ref09_Says_l11 [(1, .lst l.length (l.flatMap Ev.enc)), (2, .int .i64 now), (3, .bool all), (4, .cref r.enc), (9, .int .i64 n), (10, .int .i64 i), (11, .bool a), (12, .bool b), (13, .int .i64 k)] σ
      (fun x e σ' => x = .exit 2 ∧ σ' = σ ∧ get e 1 = .lst l.length (l.flatMap Ev.enc) ∧ get e 2 = .int .i64 now ∧ get e 3 = .bool all ∧ get e 4 = .cref r.enc ∧ get e 9 = .int .i64 n ∧ get e 10 = .int .i64 i ∧ get e 11 = .bool (a || anyB (e0.sp.drop k) r.cnt) ∧ get e 12 = .bool (b && allB (e0.sp.drop k) r.cnt))
  | 0, k, a, b, hk => by
    refine WL_step e_ref09_Says_l11 ?_
    have g1 : i < l.length := (List.getElem?_eq_some_iff.1 he).1
    have a1 := flat_at (f := Ev.enc) (w := 2) (fun _ => rfl) he
    have h1 : ¬ k < e0.sp.length := by omega
    have h2 : e0.sp.drop k = [] := by simp; omega
    simp [-List.length_flatMap, -List.map_take, e_ref09_Says_r0, e_ref09_Says_r1, e_ref09_Says_r2, e_ref09_Says_r3, e_ref09_Says_r4, e_ref09_Says_r5, e_ref09_Says_r6, e_ref09_Says_r7, e_ref09_Says_r8, e_ref09_Says_r9, e_ref09_Says_r10, e_ref09_Says_r12, e_ref09_Says_r13, e_ref09_Says_r14, e_ref09_Says_r16, e_ref09_Says_r17, e_ref09_Says_r18, g1, a1, h1, h2, anyB_nil, allB_nil]
  | m + 1, k, a, b, hk => by
    refine WL_step e_ref09_Says_l11 ?_
    have g1 : i < l.length := (List.getElem?_eq_some_iff.1 he).1
    have a1 := flat_at (f := Ev.enc) (w := 2) (fun _ => rfl) he
    have h1 : k < e0.sp.length := by omega
    obtain ⟨x, hx⟩ : ∃ x, e0.sp[k]? = some x := ⟨_, List.getElem?_eq_getElem h1⟩
    have h2 := flat_at (f := Spt.enc) (w := 4) (fun _ => rfl) hx
    have h6 := wnext h1 (by omega)
    have ih := L_says1 (now := now) (all := all) (n := n) (r := r) he hs m (k + 1) (a || r.cnt x) (b && r.cnt x) (by omega)
    have hC := fun σ => @C_Counts σ r x
    simp only [Rule.enc, Spt.enc] at hC
    rw [drop_at hx, anyB_cons, allB_cons, ← Bool.or_assoc, ← Bool.and_assoc]
    cases a <;> cases b <;> cases c : r.cnt x <;> simp only [c] at hC ih <;> simp [-List.length_flatMap, -List.map_take, e_ref09_Says_r0, e_ref09_Says_r1, e_ref09_Says_r2, e_ref09_Says_r3, e_ref09_Says_r4, e_ref09_Says_r5, e_ref09_Says_r6, e_ref09_Says_r7, e_ref09_Says_r8, e_ref09_Says_r9, e_ref09_Says_r10, e_ref09_Says_r12, e_ref09_Says_r13, e_ref09_Says_r14, e_ref09_Says_r16, e_ref09_Says_r17, e_ref09_Says_r18, g1, a1, h1, h2, h6, hC] <;> exact (WL.to ih (by simp) rfl fun x e σ' hh => by simpa [c] using hh)

def saysF (r : Rule) (now : Int) (all : Bool) (e : Ev) : Bool := if all then everyE r now e else someE r now e

theorem L_says {r : Rule} (hr : r.ok = true) {l : List Ev} (hl : l.length ≤ 200) (hs : ∀ e ∈ l, e.sp.length ≤ 2000) {now : Int} (hn : inn now 0 1000000 = true) {all : Bool} : ∀ (m i : Nat) (n : Nat), i + m = l.length → n + m ≤ 200 →
    WL T [1, 2, 3, 4, 9, 10] false f_ref09_Says_l15 [(1, .lst l.length (l.flatMap Ev.enc)), (2, .int .i64 now), (3, .bool all), (4, .cref r.enc), (9, .int .i64 n), (10, .int .i64 i)] σ
      (fun x e σ' => x = .exit 0 ∧ σ' = σ ∧ get e 4 = .cref r.enc ∧ get e 9 = .int .i64 (n + cntE (saysF r now all) (l.drop i) : Nat))
  | 0, i, n, hi, hb => by
    refine WL_step e_ref09_Says_l15 ?_
    have h1 : ¬ i < l.length := by omega
    have h2 : l.drop i = [] := by simp; omega
    simp [-List.length_flatMap, -List.map_take, e_ref09_Says_r0, e_ref09_Says_r1, e_ref09_Says_r2, e_ref09_Says_r3, e_ref09_Says_r4, e_ref09_Says_r5, e_ref09_Says_r6, e_ref09_Says_r7, e_ref09_Says_r8, e_ref09_Says_r9, e_ref09_Says_r10, e_ref09_Says_r12, e_ref09_Says_r13, e_ref09_Says_r14, e_ref09_Says_r16, e_ref09_Says_r17, e_ref09_Says_r18, h1, h2, cntE]
  | m + 1, i, n, hi, hb => by
    refine WL_step e_ref09_Says_l15 ?_
    have g1 : i < l.length := by omega
    obtain ⟨e0, he⟩ : ∃ x, l[i]? = some x := ⟨_, List.getElem?_eq_getElem g1⟩
    have a1 := flat_at (f := Ev.enc) (w := 2) (fun _ => rfl) he
    have hse := hs e0 (List.mem_of_getElem? he)
    have h6 := wnext g1 (by omega)
    have hr' := rule_iff.1 hr
    have hn' := inn_iff.1 hn
    have w2 := w64 (n := now - r.ticks) (by omega)
    have w3 := w64 (n := now - r.ticks + 1) (by omega)
    have w4 := w64 (n := (n : Int) + 1) (by omega)
    have d1 : cntE (saysF r now all) (l.drop i) = cntE (saysF r now all) (l.drop (i + 1)) + (if saysF r now all e0 then 1 else 0) := by rw [drop_at he]; rfl
    have ih := fun n h => L_says hr hl hs hn (all := all) m (i + 1) n (by omega) h
    have hact : r.act now e0 = inn e0.tick (now - r.ticks + 1) now := by
      unfold Rule.act inn
      congr 1
    have k1 : ∀ u v : Nat, u + 1 + v = u + (v + 1) := by intro u v; omega
    rw [d1]
    cases c1 : inn e0.tick (now - r.ticks + 1) now
    · have e1 : saysF r now all e0 = false := by simp [saysF, someE, everyE, hact, c1]
      simp [-List.length_flatMap, -List.map_take, e_ref09_Says_r0, e_ref09_Says_r1, e_ref09_Says_r2, e_ref09_Says_r3, e_ref09_Says_r4, e_ref09_Says_r5, e_ref09_Says_r6, e_ref09_Says_r7, e_ref09_Says_r8, e_ref09_Says_r9, e_ref09_Says_r10, e_ref09_Says_r12, e_ref09_Says_r13, e_ref09_Says_r14, e_ref09_Says_r16, e_ref09_Says_r17, e_ref09_Says_r18, g1, a1, h6, w2, w3, C_In, c1]
      exact WL.to (ih n (by omega)) (by simp) rfl fun x e σ' hh => by simpa [e1] using hh
    · have e1 : saysF r now all e0 = if all then allB e0.sp r.cnt else anyB e0.sp r.cnt := by simp [saysF, someE, everyE, hact, c1]
      simp [-List.length_flatMap, -List.map_take, e_ref09_Says_r0, e_ref09_Says_r1, e_ref09_Says_r2, e_ref09_Says_r3, e_ref09_Says_r4, e_ref09_Says_r5, e_ref09_Says_r6, e_ref09_Says_r7, e_ref09_Says_r8, e_ref09_Says_r9, e_ref09_Says_r10, e_ref09_Says_r12, e_ref09_Says_r13, e_ref09_Says_r14, e_ref09_Says_r16, e_ref09_Says_r17, e_ref09_Says_r18, g1, a1, h6, w2, w3, C_In, c1]
      refine WL.to (L_says1 (σ := σ) (now := now) (all := all) (n := n) (r := r) he (by omega) e0.sp.length 0 false true (by omega)) (by simp) rfl ?_
      rintro x e σ' ⟨rfl, rfl, f1, f2, f3, f4, f9, f10, f11, f12⟩
      simp only [List.drop_zero, Bool.false_or, Bool.true_and] at f11 f12
      have ih0 := ih n (by omega)
      have ih1 := ih (n + 1) (by omega)
      cases all
      · simp only [Bool.false_eq_true, if_false] at e1
        cases c2 : anyB e0.sp r.cnt
        · rw [c2] at f11 e1
          simp [-List.length_flatMap, -List.map_take, e_ref09_Says_r12, e_ref09_Says_r13, e_ref09_Says_r14, f1, f2, f3, f4, f9, f10, f11, f12, h6]
          exact WL.to ih0 (by simp) rfl fun x e σ' hh => by simpa [e1] using hh
        · rw [c2] at f11 e1
          simp [-List.length_flatMap, -List.map_take, e_ref09_Says_r12, e_ref09_Says_r13, e_ref09_Says_r14, f1, f2, f3, f4, f9, f10, f11, f12, h6, w4]
          exact WL.to ih1 (by simp) rfl fun x e σ' hh => by simp only [k1] at hh; simpa [e1] using hh
      · simp only [if_true] at e1
        cases c2 : allB e0.sp r.cnt
        · rw [c2] at f12 e1
          simp [-List.length_flatMap, -List.map_take, e_ref09_Says_r12, e_ref09_Says_r13, e_ref09_Says_r14, f1, f2, f3, f4, f9, f10, f11, f12, h6]
          exact WL.to ih0 (by simp) rfl fun x e σ' hh => by simpa [e1] using hh
        · rw [c2] at f12 e1
          simp [-List.length_flatMap, -List.map_take, e_ref09_Says_r12, e_ref09_Says_r13, e_ref09_Says_r14, f1, f2, f3, f4, f9, f10, f11, f12, h6, w4]
          exact WL.to ih1 (by simp) rfl fun x e σ' hh => by simp only [k1] at hh; simpa [e1] using hh

theorem C_Says {r : Rule} (hr : r.ok = true) {l : List Ev} (hl : l.length ≤ 200) (hs : ∀ e ∈ l, e.sp.length ≤ 2000) {now : Int} (hn : inn now 0 1000000 = true) {all : Bool} :
    lim T (.call false i_ref09_Says [.agg r.enc, .lst l.length (l.flatMap Ev.enc), .int .i64 now, .bool all] σ) = some (.val (.int .u8 (if r.count ≤ cntE (saysF r now all) l then r.col else 0)) σ) := by
  refine call_of T_ref09_Says e_ref09_Says rfl ?_
  simp [-List.length_flatMap, -List.map_take, e_ref09_Says_r0, e_ref09_Says_r1, e_ref09_Says_r2, e_ref09_Says_r3, e_ref09_Says_r4, e_ref09_Says_r5, e_ref09_Says_r6, e_ref09_Says_r7, e_ref09_Says_r8, e_ref09_Says_r9, e_ref09_Says_r10, e_ref09_Says_r12, e_ref09_Says_r13, e_ref09_Says_r14, e_ref09_Says_r16, e_ref09_Says_r17, e_ref09_Says_r18]
  refine WL.to (L_says (σ := [] :: σ) hr hl hs hn (all := all) l.length 0 0 (by omega) (by omega)) (by simp) rfl ?_
  rintro x e σ' ⟨rfl, rfl, e4, e9⟩
  simp only [List.drop_zero, Nat.zero_add] at e9
  by_cases c : r.count ≤ cntE (saysF r now all) l <;> simp [-List.length_flatMap, -List.map_take, e_ref09_Says_r16, e_ref09_Says_r17, e_ref09_Says_r18, e4, e9, c]

theorem lightF_max {f : Rule → Ev → Bool} {l : List Ev} {r : Rule} (hr : r.ok = true) {a : Int} (ha : 0 ≤ a) : max a (if r.count ≤ cntE (f r) l then r.col else 0) = if r.count ≤ cntE (f r) l then max a r.col else a := by
  split
  · rfl
  · omega

theorem L_lightR {R : List Rule} (hR : R.length ≤ 20) (hr : ∀ r ∈ R, r.ok = true) {l : List Ev} (hl : l.length ≤ 200) (hs : ∀ e ∈ l, e.sp.length ≤ 2000) {now : Int} (hn : inn now 0 1000000 = true) : ∀ (m i : Nat) (a b : Int), i + m = R.length → 0 ≤ a → 0 ≤ b →
    WL T [0, 1, 2, 8, 9, 10] false f_ref09_Light_l6 [(0, .lst R.length (R.flatMap Rule.enc)), (1, .lst l.length (l.flatMap Ev.enc)), (2, .int .i64 now), (8, .int .u8 a), (9, .int .u8 b), (10, .int .i64 i)] σ
      (fun x e σ' => x = .exit 0 ∧ σ' = σ ∧ get e 8 = .int .u8 (lightF (fun r => someE r now) l (R.drop i) a) ∧ get e 9 = .int .u8 (lightF (fun r => everyE r now) l (R.drop i) b))
  | 0, i, a, b, hi, ha, hb => by
    refine WL_step e_ref09_Light_l6 ?_
    have h1 : ¬ i < R.length := by omega
    have h2 : R.drop i = [] := by simp; omega
    simp [-List.length_flatMap, -List.map_take, e_ref09_Light_r0, e_ref09_Light_r1, e_ref09_Light_r2, e_ref09_Light_r3, e_ref09_Light_r4, e_ref09_Light_r5, e_ref09_Light_r7, h1, h2, lightF]
  | m + 1, i, a, b, hi, ha, hb => by
    refine WL_step e_ref09_Light_l6 ?_
    have g1 : i < R.length := by omega
    obtain ⟨r, hri⟩ : ∃ x, R[i]? = some x := ⟨_, List.getElem?_eq_getElem g1⟩
    have a1 := flat_at (f := Rule.enc) (w := 10) (fun _ => rfl) hri
    have hrr := hr r (List.mem_of_getElem? hri)
    have h6 := wnext g1 (by omega)
    have s0 := fun σ => @C_Says σ r hrr l hl hs now hn false
    have s1 := fun σ => @C_Says σ r hrr l hl hs now hn true
    have q0 : saysF r now false = someE r now := rfl
    have q1 : saysF r now true = everyE r now := rfl
    rw [q0] at s0
    rw [q1] at s1
    simp only [Rule.enc] at s0 s1
    have m0 := lightF_max (f := fun r => someE r now) (l := l) hrr ha
    have m1 := lightF_max (f := fun r => everyE r now) (l := l) hrr hb
    have hc := (rule_iff.1 hrr).2.2.2.2
    have ih := L_lightR hR hr hl hs hn m (i + 1) (if r.count ≤ cntE (someE r now) l then max a r.col else a) (if r.count ≤ cntE (everyE r now) l then max b r.col else b) (by omega) (by split <;> omega) (by split <;> omega)
    rw [drop_at hri]
    simp [-List.length_flatMap, -List.map_take, e_ref09_Light_r0, e_ref09_Light_r1, e_ref09_Light_r2, e_ref09_Light_r3, e_ref09_Light_r4, e_ref09_Light_r5, e_ref09_Light_r7, g1, a1, h6, s0, s1, m0, m1]
    exact WL.to ih (by simp) rfl fun x e σ' hh => hh

theorem C_LightR {R : List Rule} (hR : R.length ≤ 20) (hr : ∀ r ∈ R, r.ok = true) {l : List Ev} (hl : l.length ≤ 200) (hs : ∀ e ∈ l, e.sp.length ≤ 2000) {now : Int} (hn : inn now 0 1000000 = true) :
    lim T (.call false i_ref09_Light [.lst R.length (R.flatMap Rule.enc), .lst l.length (l.flatMap Ev.enc), .int .i64 now] σ) = some (.val (.tup [.int .u8 (mayOf R l now), .int .u8 (sureOf R l now)]) σ) := by
  refine call_of T_ref09_Light e_ref09_Light rfl ?_
  simp [-List.length_flatMap, -List.map_take, e_ref09_Light_r0, e_ref09_Light_r1, e_ref09_Light_r2, e_ref09_Light_r3, e_ref09_Light_r4, e_ref09_Light_r5, e_ref09_Light_r7]
  refine WL.to (L_lightR (σ := [] :: σ) hR hr hl hs hn R.length 0 0 0 (by omega) (by omega) (by omega)) (by simp) rfl ?_
  rintro x e σ' ⟨rfl, rfl, e8, e9⟩
  simp only [List.drop_zero] at e8 e9
  simp [-List.length_flatMap, -List.map_take, e_ref09_Light_r7, e8, e9, mayOf, sureOf]

def bigSp (l : List Ev) (e : Ev) : Bool := decide (20 < e.sp.length) && (decide (e.sp.length ≤ 2000) || (decide (2002 < e.sp.length) || decide (3 < l.length)))

theorem L_big {R : List Rule} {l : List Ev} {now : Int} (hl : l.length ≤ 100000) (hs : ∀ e ∈ l, e.sp.length ≤ 9223372036854775807) (hσ : σ ≠ []) : ∀ (m i : Nat), i + m = l.length →
    WL T [0, 1, 2, 7] false f_law09_TremorLights_l8 [(0, .lst R.length (R.flatMap Rule.enc)), (1, .lst l.length (l.flatMap Ev.enc)), (2, .int .i64 now), (7, .int .i64 i)] σ
      (fun x e σ' => σ' = σ ∧ if anyB (l.drop i) (bigSp l) then x = .ret ∧ get e 6 = .bool true else x = .exit 0 ∧ get e 0 = .lst R.length (R.flatMap Rule.enc) ∧ get e 1 = .lst l.length (l.flatMap Ev.enc) ∧ get e 2 = .int .i64 now)
  | 0, i, hi => by
    refine WL_step e_law09_TremorLights_l8 ?_
    have h1 : ¬ i < l.length := by omega
    have h2 : l.drop i = [] := by simp; omega
    simp [-List.length_flatMap, -List.map_take, e_law09_TremorLights_r0, e_law09_TremorLights_r1, e_law09_TremorLights_r2, e_law09_TremorLights_r3, e_law09_TremorLights_r4, e_law09_TremorLights_r5, e_law09_TremorLights_r6, e_law09_TremorLights_r7, e_law09_TremorLights_r9, e_law09_TremorLights_r10, e_law09_TremorLights_r11, e_law09_TremorLights_r12, e_law09_TremorLights_r13, e_law09_TremorLights_r14, e_law09_TremorLights_r15, e_law09_TremorLights_r16, e_law09_TremorLights_r17, e_law09_TremorLights_r19, e_law09_TremorLights_r20, e_law09_TremorLights_r21, e_law09_TremorLights_r22, e_law09_TremorLights_r23, e_law09_TremorLights_r24, e_law09_TremorLights_r25, e_law09_TremorLights_r27, e_law09_TremorLights_r28, e_law09_TremorLights_r29, e_law09_TremorLights_r30, e_law09_TremorLights_r31, e_law09_TremorLights_r32, h1, h2, anyB_nil]
  | m + 1, i, hi => by
    refine WL_step e_law09_TremorLights_l8 ?_
    have g1 : i < l.length := by omega
    obtain ⟨e0, he⟩ : ∃ x, l[i]? = some x := ⟨_, List.getElem?_eq_getElem g1⟩
    have a1 := flat_at (f := Ev.enc) (w := 2) (fun _ => rfl) he
    have h6 := wnext g1 (by omega)
    have ih := L_big (R := R) (now := now) hl hs hσ m (i + 1) (by omega)
    rw [drop_at he, anyB_cons]
    by_cases c1 : (20 : Int) < e0.sp.length
    rotate_left
    · have e1 : bigSp l e0 = false := by simp [bigSp]; omega
      simp [-List.length_flatMap, -List.map_take, e_law09_TremorLights_r0, e_law09_TremorLights_r1, e_law09_TremorLights_r2, e_law09_TremorLights_r3, e_law09_TremorLights_r4, e_law09_TremorLights_r5, e_law09_TremorLights_r6, e_law09_TremorLights_r7, e_law09_TremorLights_r9, e_law09_TremorLights_r10, e_law09_TremorLights_r11, e_law09_TremorLights_r12, e_law09_TremorLights_r13, e_law09_TremorLights_r14, e_law09_TremorLights_r15, e_law09_TremorLights_r16, e_law09_TremorLights_r17, e_law09_TremorLights_r19, e_law09_TremorLights_r20, e_law09_TremorLights_r21, e_law09_TremorLights_r22, e_law09_TremorLights_r23, e_law09_TremorLights_r24, e_law09_TremorLights_r25, e_law09_TremorLights_r27, e_law09_TremorLights_r28, e_law09_TremorLights_r29, e_law09_TremorLights_r30, e_law09_TremorLights_r31, e_law09_TremorLights_r32, g1, a1, h6, c1]
      exact WL.to ih (by simp) rfl fun x e σ' hh => by simpa [e1] using hh
    by_cases c2 : (e0.sp.length : Int) ≤ 2000
    · have e1 : bigSp l e0 = true := by simp [bigSp]; omega
      simp [-List.length_flatMap, -List.map_take, e_law09_TremorLights_r0, e_law09_TremorLights_r1, e_law09_TremorLights_r2, e_law09_TremorLights_r3, e_law09_TremorLights_r4, e_law09_TremorLights_r5, e_law09_TremorLights_r6, e_law09_TremorLights_r7, e_law09_TremorLights_r9, e_law09_TremorLights_r10, e_law09_TremorLights_r11, e_law09_TremorLights_r12, e_law09_TremorLights_r13, e_law09_TremorLights_r14, e_law09_TremorLights_r15, e_law09_TremorLights_r16, e_law09_TremorLights_r17, e_law09_TremorLights_r19, e_law09_TremorLights_r20, e_law09_TremorLights_r21, e_law09_TremorLights_r22, e_law09_TremorLights_r23, e_law09_TremorLights_r24, e_law09_TremorLights_r25, e_law09_TremorLights_r27, e_law09_TremorLights_r28, e_law09_TremorLights_r29, e_law09_TremorLights_r30, e_law09_TremorLights_r31, e_law09_TremorLights_r32, g1, a1, h6, c1, c2, C_awake, hσ, e1]
    by_cases c3 : (2002 : Int) < e0.sp.length
    · have e1 : bigSp l e0 = true := by simp [bigSp]; omega
      simp [-List.length_flatMap, -List.map_take, e_law09_TremorLights_r0, e_law09_TremorLights_r1, e_law09_TremorLights_r2, e_law09_TremorLights_r3, e_law09_TremorLights_r4, e_law09_TremorLights_r5, e_law09_TremorLights_r6, e_law09_TremorLights_r7, e_law09_TremorLights_r9, e_law09_TremorLights_r10, e_law09_TremorLights_r11, e_law09_TremorLights_r12, e_law09_TremorLights_r13, e_law09_TremorLights_r14, e_law09_TremorLights_r15, e_law09_TremorLights_r16, e_law09_TremorLights_r17, e_law09_TremorLights_r19, e_law09_TremorLights_r20, e_law09_TremorLights_r21, e_law09_TremorLights_r22, e_law09_TremorLights_r23, e_law09_TremorLights_r24, e_law09_TremorLights_r25, e_law09_TremorLights_r27, e_law09_TremorLights_r28, e_law09_TremorLights_r29, e_law09_TremorLights_r30, e_law09_TremorLights_r31, e_law09_TremorLights_r32, g1, a1, h6, c1, c2, c3, C_awake, hσ, e1]
    by_cases c4 : (3 : Int) < l.length
    · have e1 : bigSp l e0 = true := by simp [bigSp]; omega
      simp [-List.length_flatMap, -List.map_take, e_law09_TremorLights_r0, e_law09_TremorLights_r1, e_law09_TremorLights_r2, e_law09_TremorLights_r3, e_law09_TremorLights_r4, e_law09_TremorLights_r5, e_law09_TremorLights_r6, e_law09_TremorLights_r7, e_law09_TremorLights_r9, e_law09_TremorLights_r10, e_law09_TremorLights_r11, e_law09_TremorLights_r12, e_law09_TremorLights_r13, e_law09_TremorLights_r14, e_law09_TremorLights_r15, e_law09_TremorLights_r16, e_law09_TremorLights_r17, e_law09_TremorLights_r19, e_law09_TremorLights_r20, e_law09_TremorLights_r21, e_law09_TremorLights_r22, e_law09_TremorLights_r23, e_law09_TremorLights_r24, e_law09_TremorLights_r25, e_law09_TremorLights_r27, e_law09_TremorLights_r28, e_law09_TremorLights_r29, e_law09_TremorLights_r30, e_law09_TremorLights_r31, e_law09_TremorLights_r32, g1, a1, h6, c1, c2, c3, c4, C_awake, hσ, e1]
    have e1 : bigSp l e0 = false := by simp [bigSp]; omega
    simp [-List.length_flatMap, -List.map_take, e_law09_TremorLights_r0, e_law09_TremorLights_r1, e_law09_TremorLights_r2, e_law09_TremorLights_r3, e_law09_TremorLights_r4, e_law09_TremorLights_r5, e_law09_TremorLights_r6, e_law09_TremorLights_r7, e_law09_TremorLights_r9, e_law09_TremorLights_r10, e_law09_TremorLights_r11, e_law09_TremorLights_r12, e_law09_TremorLights_r13, e_law09_TremorLights_r14, e_law09_TremorLights_r15, e_law09_TremorLights_r16, e_law09_TremorLights_r17, e_law09_TremorLights_r19, e_law09_TremorLights_r20, e_law09_TremorLights_r21, e_law09_TremorLights_r22, e_law09_TremorLights_r23, e_law09_TremorLights_r24, e_law09_TremorLights_r25, e_law09_TremorLights_r27, e_law09_TremorLights_r28, e_law09_TremorLights_r29, e_law09_TremorLights_r30, e_law09_TremorLights_r31, e_law09_TremorLights_r32, g1, a1, h6, c1, c2, c3, c4]
    exact WL.to ih (by simp) rfl fun x e σ' hh => by simpa [e1] using hh

/-- An error goes on, or the first element that is not right makes one. -/
def errB (w : Int) (b : Bool) : Int := if w = 0 then (if b then 0 else 1) else w

theorem L_rr {R : List Rule} {l : List Ev} {now a b c : Int} (hR : R.length ≤ 100000) : ∀ (m i : Nat) (w : Int), i + m = R.length →
    WL T [0, 1, 2, 8, 9, 10, 11, 12] false f_law09_TremorLights_l18 [(0, .lst R.length (R.flatMap Rule.enc)), (1, .lst l.length (l.flatMap Ev.enc)), (2, .int .i64 now), (8, .int .u8 a), (9, .int .u8 b), (10, .int .i64 c), (11, .int .i64 w), (12, .int .i64 i)] σ
      (fun x e σ' => x = .exit 2 ∧ σ' = σ ∧ get e 0 = .lst R.length (R.flatMap Rule.enc) ∧ get e 1 = .lst l.length (l.flatMap Ev.enc) ∧ get e 2 = .int .i64 now ∧ get e 8 = .int .u8 a ∧ get e 9 = .int .u8 b ∧ get e 10 = .int .i64 c ∧ get e 11 = .int .i64 (errB w (allB (R.drop i) Rule.ok)))
  | 0, i, w, hi => by
    refine WL_step e_law09_TremorLights_l18 ?_
    have h1 : ¬ i < R.length := by omega
    have h2 : R.drop i = [] := by simp; omega
    have h3 : errB w true = w := by unfold errB; split <;> simp_all
    simp [-List.length_flatMap, -List.map_take, e_law09_TremorLights_r0, e_law09_TremorLights_r1, e_law09_TremorLights_r2, e_law09_TremorLights_r3, e_law09_TremorLights_r4, e_law09_TremorLights_r5, e_law09_TremorLights_r6, e_law09_TremorLights_r7, e_law09_TremorLights_r9, e_law09_TremorLights_r10, e_law09_TremorLights_r11, e_law09_TremorLights_r12, e_law09_TremorLights_r13, e_law09_TremorLights_r14, e_law09_TremorLights_r15, e_law09_TremorLights_r16, e_law09_TremorLights_r17, e_law09_TremorLights_r19, e_law09_TremorLights_r20, e_law09_TremorLights_r21, e_law09_TremorLights_r22, e_law09_TremorLights_r23, e_law09_TremorLights_r24, e_law09_TremorLights_r25, e_law09_TremorLights_r27, e_law09_TremorLights_r28, e_law09_TremorLights_r29, e_law09_TremorLights_r30, e_law09_TremorLights_r31, e_law09_TremorLights_r32, h1, h2, allB_nil, h3]
  | m + 1, i, w, hi => by
    refine WL_step e_law09_TremorLights_l18 ?_
    have g1 : i < R.length := by omega
    obtain ⟨r, hr⟩ : ∃ x, R[i]? = some x := ⟨_, List.getElem?_eq_getElem g1⟩
    have a1 := flat_at (f := Rule.enc) (w := 10) (fun _ => rfl) hr
    have h6 := wnext g1 (by omega)
    have hC := fun σ => @C_RightRule σ r
    simp only [Rule.enc] at hC
    have ih := fun w => L_rr (l := l) (now := now) (a := a) (b := b) (c := c) hR m (i + 1) w (by omega)
    by_cases hw : w = 0
    rotate_left
    · have h3 : ∀ b, errB w b = w := by intro b; unfold errB; simp [hw]
      simp [-List.length_flatMap, -List.map_take, e_law09_TremorLights_r0, e_law09_TremorLights_r1, e_law09_TremorLights_r2, e_law09_TremorLights_r3, e_law09_TremorLights_r4, e_law09_TremorLights_r5, e_law09_TremorLights_r6, e_law09_TremorLights_r7, e_law09_TremorLights_r9, e_law09_TremorLights_r10, e_law09_TremorLights_r11, e_law09_TremorLights_r12, e_law09_TremorLights_r13, e_law09_TremorLights_r14, e_law09_TremorLights_r15, e_law09_TremorLights_r16, e_law09_TremorLights_r17, e_law09_TremorLights_r19, e_law09_TremorLights_r20, e_law09_TremorLights_r21, e_law09_TremorLights_r22, e_law09_TremorLights_r23, e_law09_TremorLights_r24, e_law09_TremorLights_r25, e_law09_TremorLights_r27, e_law09_TremorLights_r28, e_law09_TremorLights_r29, e_law09_TremorLights_r30, e_law09_TremorLights_r31, e_law09_TremorLights_r32, g1, hw, h3]
    subst hw
    rw [drop_at hr, allB_cons]
    cases c1 : r.ok <;> simp only [c1] at hC
    · have h3 : errB 0 (false && allB (R.drop (i + 1)) Rule.ok) = errB 1 (allB (R.drop (i + 1)) Rule.ok) := by simp [errB]
      rw [h3]
      simp [-List.length_flatMap, -List.map_take, e_law09_TremorLights_r0, e_law09_TremorLights_r1, e_law09_TremorLights_r2, e_law09_TremorLights_r3, e_law09_TremorLights_r4, e_law09_TremorLights_r5, e_law09_TremorLights_r6, e_law09_TremorLights_r7, e_law09_TremorLights_r9, e_law09_TremorLights_r10, e_law09_TremorLights_r11, e_law09_TremorLights_r12, e_law09_TremorLights_r13, e_law09_TremorLights_r14, e_law09_TremorLights_r15, e_law09_TremorLights_r16, e_law09_TremorLights_r17, e_law09_TremorLights_r19, e_law09_TremorLights_r20, e_law09_TremorLights_r21, e_law09_TremorLights_r22, e_law09_TremorLights_r23, e_law09_TremorLights_r24, e_law09_TremorLights_r25, e_law09_TremorLights_r27, e_law09_TremorLights_r28, e_law09_TremorLights_r29, e_law09_TremorLights_r30, e_law09_TremorLights_r31, e_law09_TremorLights_r32, g1, a1, h6, hC]
      exact WL.to (ih 1) (by simp) rfl fun x e σ' hh => hh
    · rw [Bool.true_and]
      simp [-List.length_flatMap, -List.map_take, e_law09_TremorLights_r0, e_law09_TremorLights_r1, e_law09_TremorLights_r2, e_law09_TremorLights_r3, e_law09_TremorLights_r4, e_law09_TremorLights_r5, e_law09_TremorLights_r6, e_law09_TremorLights_r7, e_law09_TremorLights_r9, e_law09_TremorLights_r10, e_law09_TremorLights_r11, e_law09_TremorLights_r12, e_law09_TremorLights_r13, e_law09_TremorLights_r14, e_law09_TremorLights_r15, e_law09_TremorLights_r16, e_law09_TremorLights_r17, e_law09_TremorLights_r19, e_law09_TremorLights_r20, e_law09_TremorLights_r21, e_law09_TremorLights_r22, e_law09_TremorLights_r23, e_law09_TremorLights_r24, e_law09_TremorLights_r25, e_law09_TremorLights_r27, e_law09_TremorLights_r28, e_law09_TremorLights_r29, e_law09_TremorLights_r30, e_law09_TremorLights_r31, e_law09_TremorLights_r32, g1, a1, h6, hC]
      exact WL.to (ih 0) (by simp) rfl fun x e σ' hh => hh

theorem L_re {R : List Rule} {l : List Ev} {now a b c : Int} (hl : l.length ≤ 100000) (hs : ∀ e ∈ l, e.sp.length ≤ 9223372036854775807) : ∀ (m i : Nat) (w : Int), i + m = l.length →
    WL T [0, 1, 2, 8, 9, 10, 11, 13] false f_law09_TremorLights_l26 [(0, .lst R.length (R.flatMap Rule.enc)), (1, .lst l.length (l.flatMap Ev.enc)), (2, .int .i64 now), (8, .int .u8 a), (9, .int .u8 b), (10, .int .i64 c), (11, .int .i64 w), (13, .int .i64 i)] σ
      (fun x e σ' => x = .exit 4 ∧ σ' = σ ∧ get e 0 = .lst R.length (R.flatMap Rule.enc) ∧ get e 1 = .lst l.length (l.flatMap Ev.enc) ∧ get e 2 = .int .i64 now ∧ get e 8 = .int .u8 a ∧ get e 9 = .int .u8 b ∧ get e 10 = .int .i64 c ∧ get e 11 = .int .i64 (errB w (allB (l.drop i) Ev.ok)))
  | 0, i, w, hi => by
    refine WL_step e_law09_TremorLights_l26 ?_
    have h1 : ¬ i < l.length := by omega
    have h2 : l.drop i = [] := by simp; omega
    have h3 : errB w true = w := by unfold errB; split <;> simp_all
    simp [-List.length_flatMap, -List.map_take, e_law09_TremorLights_r0, e_law09_TremorLights_r1, e_law09_TremorLights_r2, e_law09_TremorLights_r3, e_law09_TremorLights_r4, e_law09_TremorLights_r5, e_law09_TremorLights_r6, e_law09_TremorLights_r7, e_law09_TremorLights_r9, e_law09_TremorLights_r10, e_law09_TremorLights_r11, e_law09_TremorLights_r12, e_law09_TremorLights_r13, e_law09_TremorLights_r14, e_law09_TremorLights_r15, e_law09_TremorLights_r16, e_law09_TremorLights_r17, e_law09_TremorLights_r19, e_law09_TremorLights_r20, e_law09_TremorLights_r21, e_law09_TremorLights_r22, e_law09_TremorLights_r23, e_law09_TremorLights_r24, e_law09_TremorLights_r25, e_law09_TremorLights_r27, e_law09_TremorLights_r28, e_law09_TremorLights_r29, e_law09_TremorLights_r30, e_law09_TremorLights_r31, e_law09_TremorLights_r32, h1, h2, allB_nil, h3]
  | m + 1, i, w, hi => by
    refine WL_step e_law09_TremorLights_l26 ?_
    have g1 : i < l.length := by omega
    obtain ⟨r, hr⟩ : ∃ x, l[i]? = some x := ⟨_, List.getElem?_eq_getElem g1⟩
    have a1 := flat_at (f := Ev.enc) (w := 2) (fun _ => rfl) hr
    have h6 := wnext g1 (by omega)
    have hC := fun σ => @C_RightEvent σ r (hs r (List.mem_of_getElem? hr))
    simp only [Ev.enc] at hC
    have ih := fun w => L_re (R := R) (now := now) (a := a) (b := b) (c := c) hl hs m (i + 1) w (by omega)
    by_cases hw : w = 0
    rotate_left
    · have h3 : ∀ b, errB w b = w := by intro b; unfold errB; simp [hw]
      simp [-List.length_flatMap, -List.map_take, e_law09_TremorLights_r0, e_law09_TremorLights_r1, e_law09_TremorLights_r2, e_law09_TremorLights_r3, e_law09_TremorLights_r4, e_law09_TremorLights_r5, e_law09_TremorLights_r6, e_law09_TremorLights_r7, e_law09_TremorLights_r9, e_law09_TremorLights_r10, e_law09_TremorLights_r11, e_law09_TremorLights_r12, e_law09_TremorLights_r13, e_law09_TremorLights_r14, e_law09_TremorLights_r15, e_law09_TremorLights_r16, e_law09_TremorLights_r17, e_law09_TremorLights_r19, e_law09_TremorLights_r20, e_law09_TremorLights_r21, e_law09_TremorLights_r22, e_law09_TremorLights_r23, e_law09_TremorLights_r24, e_law09_TremorLights_r25, e_law09_TremorLights_r27, e_law09_TremorLights_r28, e_law09_TremorLights_r29, e_law09_TremorLights_r30, e_law09_TremorLights_r31, e_law09_TremorLights_r32, g1, hw, h3]
    subst hw
    rw [drop_at hr, allB_cons]
    cases c1 : r.ok <;> simp only [c1] at hC
    · have h3 : errB 0 (false && allB (l.drop (i + 1)) Ev.ok) = errB 1 (allB (l.drop (i + 1)) Ev.ok) := by simp [errB]
      rw [h3]
      simp [-List.length_flatMap, -List.map_take, e_law09_TremorLights_r0, e_law09_TremorLights_r1, e_law09_TremorLights_r2, e_law09_TremorLights_r3, e_law09_TremorLights_r4, e_law09_TremorLights_r5, e_law09_TremorLights_r6, e_law09_TremorLights_r7, e_law09_TremorLights_r9, e_law09_TremorLights_r10, e_law09_TremorLights_r11, e_law09_TremorLights_r12, e_law09_TremorLights_r13, e_law09_TremorLights_r14, e_law09_TremorLights_r15, e_law09_TremorLights_r16, e_law09_TremorLights_r17, e_law09_TremorLights_r19, e_law09_TremorLights_r20, e_law09_TremorLights_r21, e_law09_TremorLights_r22, e_law09_TremorLights_r23, e_law09_TremorLights_r24, e_law09_TremorLights_r25, e_law09_TremorLights_r27, e_law09_TremorLights_r28, e_law09_TremorLights_r29, e_law09_TremorLights_r30, e_law09_TremorLights_r31, e_law09_TremorLights_r32, g1, a1, h6, hC]
      exact WL.to (ih 1) (by simp) rfl fun x e σ' hh => hh
    · rw [Bool.true_and]
      simp [-List.length_flatMap, -List.map_take, e_law09_TremorLights_r0, e_law09_TremorLights_r1, e_law09_TremorLights_r2, e_law09_TremorLights_r3, e_law09_TremorLights_r4, e_law09_TremorLights_r5, e_law09_TremorLights_r6, e_law09_TremorLights_r7, e_law09_TremorLights_r9, e_law09_TremorLights_r10, e_law09_TremorLights_r11, e_law09_TremorLights_r12, e_law09_TremorLights_r13, e_law09_TremorLights_r14, e_law09_TremorLights_r15, e_law09_TremorLights_r16, e_law09_TremorLights_r17, e_law09_TremorLights_r19, e_law09_TremorLights_r20, e_law09_TremorLights_r21, e_law09_TremorLights_r22, e_law09_TremorLights_r23, e_law09_TremorLights_r24, e_law09_TremorLights_r25, e_law09_TremorLights_r27, e_law09_TremorLights_r28, e_law09_TremorLights_r29, e_law09_TremorLights_r30, e_law09_TremorLights_r31, e_law09_TremorLights_r32, g1, a1, h6, hC]
      exact WL.to (ih 0) (by simp) rfl fun x e σ' hh => hh

theorem law_Lights {R : List Rule} {l : List Ev} {now : Int} (hR : R.length ≤ 9223372036854775807) (hl : l.length ≤ 9223372036854775807) (hs : ∀ e ∈ l, e.sp.length ≤ 9223372036854775807) (hσ : σ ≠ []) :
    lim T (.call false i_law09_TremorLights [.lst R.length (R.flatMap Rule.enc), .lst l.length (l.flatMap Ev.enc), .int .i64 now] σ) = some (.val (.bool true) σ) := by
  refine call_of T_law09_TremorLights e_law09_TremorLights rfl ?_
  by_cases a1 : (22 : Int) < R.length
  · simp [-List.length_flatMap, -List.map_take, e_law09_TremorLights_r0, e_law09_TremorLights_r1, e_law09_TremorLights_r2, e_law09_TremorLights_r3, e_law09_TremorLights_r4, e_law09_TremorLights_r5, e_law09_TremorLights_r6, e_law09_TremorLights_r7, e_law09_TremorLights_r9, e_law09_TremorLights_r10, e_law09_TremorLights_r11, e_law09_TremorLights_r12, e_law09_TremorLights_r13, e_law09_TremorLights_r14, e_law09_TremorLights_r15, e_law09_TremorLights_r16, e_law09_TremorLights_r17, e_law09_TremorLights_r19, e_law09_TremorLights_r20, e_law09_TremorLights_r21, e_law09_TremorLights_r22, e_law09_TremorLights_r23, e_law09_TremorLights_r24, e_law09_TremorLights_r25, e_law09_TremorLights_r27, e_law09_TremorLights_r28, e_law09_TremorLights_r29, e_law09_TremorLights_r30, e_law09_TremorLights_r31, e_law09_TremorLights_r32, a1, C_awake]
  by_cases a2 : (30 : Int) < l.length ∧ (l.length : Int) ≤ 200
  · simp [-List.length_flatMap, -List.map_take, e_law09_TremorLights_r0, e_law09_TremorLights_r1, e_law09_TremorLights_r2, e_law09_TremorLights_r3, e_law09_TremorLights_r4, e_law09_TremorLights_r5, e_law09_TremorLights_r6, e_law09_TremorLights_r7, e_law09_TremorLights_r9, e_law09_TremorLights_r10, e_law09_TremorLights_r11, e_law09_TremorLights_r12, e_law09_TremorLights_r13, e_law09_TremorLights_r14, e_law09_TremorLights_r15, e_law09_TremorLights_r16, e_law09_TremorLights_r17, e_law09_TremorLights_r19, e_law09_TremorLights_r20, e_law09_TremorLights_r21, e_law09_TremorLights_r22, e_law09_TremorLights_r23, e_law09_TremorLights_r24, e_law09_TremorLights_r25, e_law09_TremorLights_r27, e_law09_TremorLights_r28, e_law09_TremorLights_r29, e_law09_TremorLights_r30, e_law09_TremorLights_r31, e_law09_TremorLights_r32, a1, a2.1, a2.2, C_awake]
  by_cases a3 : (202 : Int) < l.length
  · have b1 : (30 : Int) < l.length := by omega
    have b2 : ¬ (l.length : Int) ≤ 200 := by omega
    simp [-List.length_flatMap, -List.map_take, e_law09_TremorLights_r0, e_law09_TremorLights_r1, e_law09_TremorLights_r2, e_law09_TremorLights_r3, e_law09_TremorLights_r4, e_law09_TremorLights_r5, e_law09_TremorLights_r6, e_law09_TremorLights_r7, e_law09_TremorLights_r9, e_law09_TremorLights_r10, e_law09_TremorLights_r11, e_law09_TremorLights_r12, e_law09_TremorLights_r13, e_law09_TremorLights_r14, e_law09_TremorLights_r15, e_law09_TremorLights_r16, e_law09_TremorLights_r17, e_law09_TremorLights_r19, e_law09_TremorLights_r20, e_law09_TremorLights_r21, e_law09_TremorLights_r22, e_law09_TremorLights_r23, e_law09_TremorLights_r24, e_law09_TremorLights_r25, e_law09_TremorLights_r27, e_law09_TremorLights_r28, e_law09_TremorLights_r29, e_law09_TremorLights_r30, e_law09_TremorLights_r31, e_law09_TremorLights_r32, a1, a3, b1, b2, C_awake]
  have L1 := L_big (σ := [] :: σ) (R := R) (l := l) (now := now) (by omega) hs (by simp) l.length 0 (by omega)
  by_cases b1 : (30 : Int) < l.length
  · have b2 : ¬ (l.length : Int) ≤ 200 := by omega
    simp [-List.length_flatMap, -List.map_take, e_law09_TremorLights_r0, e_law09_TremorLights_r1, e_law09_TremorLights_r2, e_law09_TremorLights_r3, a1, a3, b1, b2]
    refine WL.to L1 (by simp) rfl ?_
    rintro x e σ' ⟨rfl, h⟩
    simp only [List.drop_zero] at h
    cases c0 : anyB l (bigSp l)
    rotate_left
    · rw [c0] at h
      obtain ⟨rfl, h⟩ := h
      simp [h]
    rw [c0] at h
    simp at h
    obtain ⟨rfl, e0, e1, e2⟩ := h
    have hsp : ∀ e ∈ l, e.sp.length ≤ 100000 := by
      intro e he
      have : bigSp l e = false := by
        cases hb : bigSp l e
        · rfl
        · rw [anyB_iff.2 ⟨e, he, hb⟩] at c0; cases c0
      simp [bigSp] at this
      omega
    have h1 := fun σ (hσ : σ ≠ []) => @C_RulesL σ R (by omega) hσ
    have h2 := fun σ (hσ : σ ≠ []) => @C_EventsL σ l (by omega) hsp hσ
    have h3 := fun σ => @C_Light σ R l now (by omega) (by omega) hs
    by_cases c1 : (20 : Int) < R.length
    · have c1' : 20 < R.length := by omega
      have hE : lightErr R l now = 3 := by simp [lightErr, c1, c1']
      rw [hE] at h3
      simp at h3
      simp [-List.length_flatMap, -List.map_take, e_law09_TremorLights_r9, e_law09_TremorLights_r10, e_law09_TremorLights_r11, e_law09_TremorLights_r12, e_law09_TremorLights_r13, e0, e1, e2, h1, h2, h3, c1, c1']
      refine WL.to (L_rr (R := R) (l := l) (now := now) (a := 0) (b := 0) (c := 3) (by omega) R.length 0 3 (by omega)) (by simp) rfl ?_
      rintro x e σ'' ⟨rfl, rfl, e0, e1, e2, e8, e9, e10, e11⟩
      simp [errB, c1, c1'] at e11
      simp [-List.length_flatMap, -List.map_take, e_law09_TremorLights_r19, e_law09_TremorLights_r20, e_law09_TremorLights_r21, e0, e1, e2, e8, e9, e10, e11, c1, c1']
      refine WL.to (L_re (R := R) (l := l) (now := now) (a := 0) (b := 0) (c := 3) (by omega) hs l.length 0 3 (by omega)) (by simp) rfl ?_
      rintro x e σ'' ⟨rfl, rfl, e0, e1, e2, e8, e9, e10, e11⟩
      simp [errB, c1, c1'] at e11
      simp [-List.length_flatMap, -List.map_take, e_law09_TremorLights_r27, e_law09_TremorLights_r28, e_law09_TremorLights_r29, e_law09_TremorLights_r30, e_law09_TremorLights_r31, e_law09_TremorLights_r32, e0, e1, e2, e8, e9, e10, e11, C_In, C_awake, c1, c1']
    have c1' : ¬ 20 < R.length := by omega
    cases c2 : allB R Rule.ok
    · have hE : lightErr R l now = 1 := by simp [lightErr, c1, c1', c2]
      rw [hE] at h3
      simp at h3
      simp [-List.length_flatMap, -List.map_take, e_law09_TremorLights_r9, e_law09_TremorLights_r10, e_law09_TremorLights_r11, e_law09_TremorLights_r12, e_law09_TremorLights_r13, e0, e1, e2, h1, h2, h3, c1, c1', c2]
      refine WL.to (L_rr (R := R) (l := l) (now := now) (a := 0) (b := 0) (c := 1) (by omega) R.length 0 0 (by omega)) (by simp) rfl ?_
      rintro x e σ'' ⟨rfl, rfl, e0, e1, e2, e8, e9, e10, e11⟩
      simp [errB, c1, c1', c2] at e11
      simp [-List.length_flatMap, -List.map_take, e_law09_TremorLights_r19, e_law09_TremorLights_r20, e_law09_TremorLights_r21, e0, e1, e2, e8, e9, e10, e11, c1, c1', c2]
      refine WL.to (L_re (R := R) (l := l) (now := now) (a := 0) (b := 0) (c := 1) (by omega) hs l.length 0 1 (by omega)) (by simp) rfl ?_
      rintro x e σ'' ⟨rfl, rfl, e0, e1, e2, e8, e9, e10, e11⟩
      simp [errB, c1, c1', c2] at e11
      simp [-List.length_flatMap, -List.map_take, e_law09_TremorLights_r27, e_law09_TremorLights_r28, e_law09_TremorLights_r29, e_law09_TremorLights_r30, e_law09_TremorLights_r31, e_law09_TremorLights_r32, e0, e1, e2, e8, e9, e10, e11, C_In, C_awake, c1, c1', c2]
    by_cases c3 : (200 : Int) < l.length
    · have c3' : 200 < l.length := by omega
      have hE : lightErr R l now = 3 := by simp [lightErr, c1, c1', c2, c3, c3']
      rw [hE] at h3
      simp at h3
      simp [-List.length_flatMap, -List.map_take, e_law09_TremorLights_r9, e_law09_TremorLights_r10, e_law09_TremorLights_r11, e_law09_TremorLights_r12, e_law09_TremorLights_r13, e0, e1, e2, h1, h2, h3, c1, c1', c2, c3, c3']
      refine WL.to (L_rr (R := R) (l := l) (now := now) (a := 0) (b := 0) (c := 3) (by omega) R.length 0 0 (by omega)) (by simp) rfl ?_
      rintro x e σ'' ⟨rfl, rfl, e0, e1, e2, e8, e9, e10, e11⟩
      simp [errB, c1, c1', c2, c3, c3'] at e11
      simp [-List.length_flatMap, -List.map_take, e_law09_TremorLights_r19, e_law09_TremorLights_r20, e_law09_TremorLights_r21, e0, e1, e2, e8, e9, e10, e11, c1, c1', c2, c3, c3']
      refine WL.to (L_re (R := R) (l := l) (now := now) (a := 0) (b := 0) (c := 3) (by omega) hs l.length 0 3 (by omega)) (by simp) rfl ?_
      rintro x e σ'' ⟨rfl, rfl, e0, e1, e2, e8, e9, e10, e11⟩
      simp [errB, c1, c1', c2, c3, c3'] at e11
      simp [-List.length_flatMap, -List.map_take, e_law09_TremorLights_r27, e_law09_TremorLights_r28, e_law09_TremorLights_r29, e_law09_TremorLights_r30, e_law09_TremorLights_r31, e_law09_TremorLights_r32, e0, e1, e2, e8, e9, e10, e11, C_In, C_awake, c1, c1', c2, c3, c3']
    have c3' : ¬ 200 < l.length := by omega
    cases c4 : allB l Ev.ok
    · have hE : lightErr R l now = 1 := by simp [lightErr, c1, c1', c2, c3, c3', c4]
      rw [hE] at h3
      simp at h3
      simp [-List.length_flatMap, -List.map_take, e_law09_TremorLights_r9, e_law09_TremorLights_r10, e_law09_TremorLights_r11, e_law09_TremorLights_r12, e_law09_TremorLights_r13, e0, e1, e2, h1, h2, h3, c1, c1', c2, c3, c3', c4]
      refine WL.to (L_rr (R := R) (l := l) (now := now) (a := 0) (b := 0) (c := 1) (by omega) R.length 0 0 (by omega)) (by simp) rfl ?_
      rintro x e σ'' ⟨rfl, rfl, e0, e1, e2, e8, e9, e10, e11⟩
      simp [errB, c1, c1', c2, c3, c3', c4] at e11
      simp [-List.length_flatMap, -List.map_take, e_law09_TremorLights_r19, e_law09_TremorLights_r20, e_law09_TremorLights_r21, e0, e1, e2, e8, e9, e10, e11, c1, c1', c2, c3, c3', c4]
      refine WL.to (L_re (R := R) (l := l) (now := now) (a := 0) (b := 0) (c := 1) (by omega) hs l.length 0 0 (by omega)) (by simp) rfl ?_
      rintro x e σ'' ⟨rfl, rfl, e0, e1, e2, e8, e9, e10, e11⟩
      simp [errB, c1, c1', c2, c3, c3', c4] at e11
      simp [-List.length_flatMap, -List.map_take, e_law09_TremorLights_r27, e_law09_TremorLights_r28, e_law09_TremorLights_r29, e_law09_TremorLights_r30, e_law09_TremorLights_r31, e_law09_TremorLights_r32, e0, e1, e2, e8, e9, e10, e11, C_In, C_awake, c1, c1', c2, c3, c3', c4]
    cases c5 : inn now 0 1000000
    · have hE : lightErr R l now = 2 := by simp [lightErr, c1, c1', c2, c3, c3', c4, c5]
      rw [hE] at h3
      simp at h3
      simp [-List.length_flatMap, -List.map_take, e_law09_TremorLights_r9, e_law09_TremorLights_r10, e_law09_TremorLights_r11, e_law09_TremorLights_r12, e_law09_TremorLights_r13, e0, e1, e2, h1, h2, h3, c1, c1', c2, c3, c3', c4, c5]
      refine WL.to (L_rr (R := R) (l := l) (now := now) (a := 0) (b := 0) (c := 2) (by omega) R.length 0 0 (by omega)) (by simp) rfl ?_
      rintro x e σ'' ⟨rfl, rfl, e0, e1, e2, e8, e9, e10, e11⟩
      simp [errB, c1, c1', c2, c3, c3', c4, c5] at e11
      simp [-List.length_flatMap, -List.map_take, e_law09_TremorLights_r19, e_law09_TremorLights_r20, e_law09_TremorLights_r21, e0, e1, e2, e8, e9, e10, e11, c1, c1', c2, c3, c3', c4, c5]
      refine WL.to (L_re (R := R) (l := l) (now := now) (a := 0) (b := 0) (c := 2) (by omega) hs l.length 0 0 (by omega)) (by simp) rfl ?_
      rintro x e σ'' ⟨rfl, rfl, e0, e1, e2, e8, e9, e10, e11⟩
      simp [errB, c1, c1', c2, c3, c3', c4, c5] at e11
      simp [-List.length_flatMap, -List.map_take, e_law09_TremorLights_r27, e_law09_TremorLights_r28, e_law09_TremorLights_r29, e_law09_TremorLights_r30, e_law09_TremorLights_r31, e_law09_TremorLights_r32, e0, e1, e2, e8, e9, e10, e11, C_In, C_awake, c1, c1', c2, c3, c3', c4, c5]
    have hs2 : ∀ e ∈ l, e.sp.length ≤ 2000 := by
      intro e he
      have := allB_iff.1 c4 e he
      simp only [Ev.ok, Bool.and_eq_true, inn_iff] at this
      omega
    have h4 := fun σ => @C_LightR σ R (by omega) (allB_iff.1 c2) l (by omega) hs2 now c5
    have hE : lightErr R l now = 0 := by simp [lightErr, c1, c1', c2, c3, c3', c4, c5]
    rw [hE] at h3
    simp at h3
    simp [-List.length_flatMap, -List.map_take, e_law09_TremorLights_r9, e_law09_TremorLights_r10, e_law09_TremorLights_r11, e_law09_TremorLights_r12, e_law09_TremorLights_r13, e0, e1, e2, h1, h2, h3, c1, c1', c2, c3, c3', c4, c5]
    refine WL.to (L_rr (R := R) (l := l) (now := now) (a := mayOf R l now) (b := sureOf R l now) (c := 0) (by omega) R.length 0 0 (by omega)) (by simp) rfl ?_
    rintro x e σ'' ⟨rfl, rfl, e0, e1, e2, e8, e9, e10, e11⟩
    simp [errB, c1, c1', c2, c3, c3', c4, c5] at e11
    simp [-List.length_flatMap, -List.map_take, e_law09_TremorLights_r19, e_law09_TremorLights_r20, e_law09_TremorLights_r21, e0, e1, e2, e8, e9, e10, e11, c1, c1', c2, c3, c3', c4, c5]
    refine WL.to (L_re (R := R) (l := l) (now := now) (a := mayOf R l now) (b := sureOf R l now) (c := 0) (by omega) hs l.length 0 0 (by omega)) (by simp) rfl ?_
    rintro x e σ'' ⟨rfl, rfl, e0, e1, e2, e8, e9, e10, e11⟩
    simp [errB, c1, c1', c2, c3, c3', c4, c5] at e11
    simp [-List.length_flatMap, -List.map_take, e_law09_TremorLights_r27, e_law09_TremorLights_r28, e_law09_TremorLights_r29, e_law09_TremorLights_r30, e_law09_TremorLights_r31, e_law09_TremorLights_r32, e0, e1, e2, e8, e9, e10, e11, C_In, C_awake, c1, c1', c2, c3, c3', c4, c5, h4]
  · simp [-List.length_flatMap, -List.map_take, e_law09_TremorLights_r0, e_law09_TremorLights_r1, e_law09_TremorLights_r2, e_law09_TremorLights_r3, a1, a3, b1]
    refine WL.to L1 (by simp) rfl ?_
    rintro x e σ' ⟨rfl, h⟩
    simp only [List.drop_zero] at h
    cases c0 : anyB l (bigSp l)
    rotate_left
    · rw [c0] at h
      obtain ⟨rfl, h⟩ := h
      simp [h]
    rw [c0] at h
    simp at h
    obtain ⟨rfl, e0, e1, e2⟩ := h
    have hsp : ∀ e ∈ l, e.sp.length ≤ 100000 := by
      intro e he
      have : bigSp l e = false := by
        cases hb : bigSp l e
        · rfl
        · rw [anyB_iff.2 ⟨e, he, hb⟩] at c0; cases c0
      simp [bigSp] at this
      omega
    have h1 := fun σ (hσ : σ ≠ []) => @C_RulesL σ R (by omega) hσ
    have h2 := fun σ (hσ : σ ≠ []) => @C_EventsL σ l (by omega) hsp hσ
    have h3 := fun σ => @C_Light σ R l now (by omega) (by omega) hs
    by_cases c1 : (20 : Int) < R.length
    · have c1' : 20 < R.length := by omega
      have hE : lightErr R l now = 3 := by simp [lightErr, c1, c1']
      rw [hE] at h3
      simp at h3
      simp [-List.length_flatMap, -List.map_take, e_law09_TremorLights_r9, e_law09_TremorLights_r10, e_law09_TremorLights_r11, e_law09_TremorLights_r12, e_law09_TremorLights_r13, e0, e1, e2, h1, h2, h3, c1, c1']
      refine WL.to (L_rr (R := R) (l := l) (now := now) (a := 0) (b := 0) (c := 3) (by omega) R.length 0 3 (by omega)) (by simp) rfl ?_
      rintro x e σ'' ⟨rfl, rfl, e0, e1, e2, e8, e9, e10, e11⟩
      simp [errB, c1, c1'] at e11
      simp [-List.length_flatMap, -List.map_take, e_law09_TremorLights_r19, e_law09_TremorLights_r20, e_law09_TremorLights_r21, e0, e1, e2, e8, e9, e10, e11, c1, c1']
      refine WL.to (L_re (R := R) (l := l) (now := now) (a := 0) (b := 0) (c := 3) (by omega) hs l.length 0 3 (by omega)) (by simp) rfl ?_
      rintro x e σ'' ⟨rfl, rfl, e0, e1, e2, e8, e9, e10, e11⟩
      simp [errB, c1, c1'] at e11
      simp [-List.length_flatMap, -List.map_take, e_law09_TremorLights_r27, e_law09_TremorLights_r28, e_law09_TremorLights_r29, e_law09_TremorLights_r30, e_law09_TremorLights_r31, e_law09_TremorLights_r32, e0, e1, e2, e8, e9, e10, e11, C_In, C_awake, c1, c1']
    have c1' : ¬ 20 < R.length := by omega
    cases c2 : allB R Rule.ok
    · have hE : lightErr R l now = 1 := by simp [lightErr, c1, c1', c2]
      rw [hE] at h3
      simp at h3
      simp [-List.length_flatMap, -List.map_take, e_law09_TremorLights_r9, e_law09_TremorLights_r10, e_law09_TremorLights_r11, e_law09_TremorLights_r12, e_law09_TremorLights_r13, e0, e1, e2, h1, h2, h3, c1, c1', c2]
      refine WL.to (L_rr (R := R) (l := l) (now := now) (a := 0) (b := 0) (c := 1) (by omega) R.length 0 0 (by omega)) (by simp) rfl ?_
      rintro x e σ'' ⟨rfl, rfl, e0, e1, e2, e8, e9, e10, e11⟩
      simp [errB, c1, c1', c2] at e11
      simp [-List.length_flatMap, -List.map_take, e_law09_TremorLights_r19, e_law09_TremorLights_r20, e_law09_TremorLights_r21, e0, e1, e2, e8, e9, e10, e11, c1, c1', c2]
      refine WL.to (L_re (R := R) (l := l) (now := now) (a := 0) (b := 0) (c := 1) (by omega) hs l.length 0 1 (by omega)) (by simp) rfl ?_
      rintro x e σ'' ⟨rfl, rfl, e0, e1, e2, e8, e9, e10, e11⟩
      simp [errB, c1, c1', c2] at e11
      simp [-List.length_flatMap, -List.map_take, e_law09_TremorLights_r27, e_law09_TremorLights_r28, e_law09_TremorLights_r29, e_law09_TremorLights_r30, e_law09_TremorLights_r31, e_law09_TremorLights_r32, e0, e1, e2, e8, e9, e10, e11, C_In, C_awake, c1, c1', c2]
    by_cases c3 : (200 : Int) < l.length
    · have c3' : 200 < l.length := by omega
      have hE : lightErr R l now = 3 := by simp [lightErr, c1, c1', c2, c3, c3']
      rw [hE] at h3
      simp at h3
      simp [-List.length_flatMap, -List.map_take, e_law09_TremorLights_r9, e_law09_TremorLights_r10, e_law09_TremorLights_r11, e_law09_TremorLights_r12, e_law09_TremorLights_r13, e0, e1, e2, h1, h2, h3, c1, c1', c2, c3, c3']
      refine WL.to (L_rr (R := R) (l := l) (now := now) (a := 0) (b := 0) (c := 3) (by omega) R.length 0 0 (by omega)) (by simp) rfl ?_
      rintro x e σ'' ⟨rfl, rfl, e0, e1, e2, e8, e9, e10, e11⟩
      simp [errB, c1, c1', c2, c3, c3'] at e11
      simp [-List.length_flatMap, -List.map_take, e_law09_TremorLights_r19, e_law09_TremorLights_r20, e_law09_TremorLights_r21, e0, e1, e2, e8, e9, e10, e11, c1, c1', c2, c3, c3']
      refine WL.to (L_re (R := R) (l := l) (now := now) (a := 0) (b := 0) (c := 3) (by omega) hs l.length 0 3 (by omega)) (by simp) rfl ?_
      rintro x e σ'' ⟨rfl, rfl, e0, e1, e2, e8, e9, e10, e11⟩
      simp [errB, c1, c1', c2, c3, c3'] at e11
      simp [-List.length_flatMap, -List.map_take, e_law09_TremorLights_r27, e_law09_TremorLights_r28, e_law09_TremorLights_r29, e_law09_TremorLights_r30, e_law09_TremorLights_r31, e_law09_TremorLights_r32, e0, e1, e2, e8, e9, e10, e11, C_In, C_awake, c1, c1', c2, c3, c3']
    have c3' : ¬ 200 < l.length := by omega
    cases c4 : allB l Ev.ok
    · have hE : lightErr R l now = 1 := by simp [lightErr, c1, c1', c2, c3, c3', c4]
      rw [hE] at h3
      simp at h3
      simp [-List.length_flatMap, -List.map_take, e_law09_TremorLights_r9, e_law09_TremorLights_r10, e_law09_TremorLights_r11, e_law09_TremorLights_r12, e_law09_TremorLights_r13, e0, e1, e2, h1, h2, h3, c1, c1', c2, c3, c3', c4]
      refine WL.to (L_rr (R := R) (l := l) (now := now) (a := 0) (b := 0) (c := 1) (by omega) R.length 0 0 (by omega)) (by simp) rfl ?_
      rintro x e σ'' ⟨rfl, rfl, e0, e1, e2, e8, e9, e10, e11⟩
      simp [errB, c1, c1', c2, c3, c3', c4] at e11
      simp [-List.length_flatMap, -List.map_take, e_law09_TremorLights_r19, e_law09_TremorLights_r20, e_law09_TremorLights_r21, e0, e1, e2, e8, e9, e10, e11, c1, c1', c2, c3, c3', c4]
      refine WL.to (L_re (R := R) (l := l) (now := now) (a := 0) (b := 0) (c := 1) (by omega) hs l.length 0 0 (by omega)) (by simp) rfl ?_
      rintro x e σ'' ⟨rfl, rfl, e0, e1, e2, e8, e9, e10, e11⟩
      simp [errB, c1, c1', c2, c3, c3', c4] at e11
      simp [-List.length_flatMap, -List.map_take, e_law09_TremorLights_r27, e_law09_TremorLights_r28, e_law09_TremorLights_r29, e_law09_TremorLights_r30, e_law09_TremorLights_r31, e_law09_TremorLights_r32, e0, e1, e2, e8, e9, e10, e11, C_In, C_awake, c1, c1', c2, c3, c3', c4]
    cases c5 : inn now 0 1000000
    · have hE : lightErr R l now = 2 := by simp [lightErr, c1, c1', c2, c3, c3', c4, c5]
      rw [hE] at h3
      simp at h3
      simp [-List.length_flatMap, -List.map_take, e_law09_TremorLights_r9, e_law09_TremorLights_r10, e_law09_TremorLights_r11, e_law09_TremorLights_r12, e_law09_TremorLights_r13, e0, e1, e2, h1, h2, h3, c1, c1', c2, c3, c3', c4, c5]
      refine WL.to (L_rr (R := R) (l := l) (now := now) (a := 0) (b := 0) (c := 2) (by omega) R.length 0 0 (by omega)) (by simp) rfl ?_
      rintro x e σ'' ⟨rfl, rfl, e0, e1, e2, e8, e9, e10, e11⟩
      simp [errB, c1, c1', c2, c3, c3', c4, c5] at e11
      simp [-List.length_flatMap, -List.map_take, e_law09_TremorLights_r19, e_law09_TremorLights_r20, e_law09_TremorLights_r21, e0, e1, e2, e8, e9, e10, e11, c1, c1', c2, c3, c3', c4, c5]
      refine WL.to (L_re (R := R) (l := l) (now := now) (a := 0) (b := 0) (c := 2) (by omega) hs l.length 0 0 (by omega)) (by simp) rfl ?_
      rintro x e σ'' ⟨rfl, rfl, e0, e1, e2, e8, e9, e10, e11⟩
      simp [errB, c1, c1', c2, c3, c3', c4, c5] at e11
      simp [-List.length_flatMap, -List.map_take, e_law09_TremorLights_r27, e_law09_TremorLights_r28, e_law09_TremorLights_r29, e_law09_TremorLights_r30, e_law09_TremorLights_r31, e_law09_TremorLights_r32, e0, e1, e2, e8, e9, e10, e11, C_In, C_awake, c1, c1', c2, c3, c3', c4, c5]
    have hs2 : ∀ e ∈ l, e.sp.length ≤ 2000 := by
      intro e he
      have := allB_iff.1 c4 e he
      simp only [Ev.ok, Bool.and_eq_true, inn_iff] at this
      omega
    have h4 := fun σ => @C_LightR σ R (by omega) (allB_iff.1 c2) l (by omega) hs2 now c5
    have hE : lightErr R l now = 0 := by simp [lightErr, c1, c1', c2, c3, c3', c4, c5]
    rw [hE] at h3
    simp at h3
    simp [-List.length_flatMap, -List.map_take, e_law09_TremorLights_r9, e_law09_TremorLights_r10, e_law09_TremorLights_r11, e_law09_TremorLights_r12, e_law09_TremorLights_r13, e0, e1, e2, h1, h2, h3, c1, c1', c2, c3, c3', c4, c5]
    refine WL.to (L_rr (R := R) (l := l) (now := now) (a := mayOf R l now) (b := sureOf R l now) (c := 0) (by omega) R.length 0 0 (by omega)) (by simp) rfl ?_
    rintro x e σ'' ⟨rfl, rfl, e0, e1, e2, e8, e9, e10, e11⟩
    simp [errB, c1, c1', c2, c3, c3', c4, c5] at e11
    simp [-List.length_flatMap, -List.map_take, e_law09_TremorLights_r19, e_law09_TremorLights_r20, e_law09_TremorLights_r21, e0, e1, e2, e8, e9, e10, e11, c1, c1', c2, c3, c3', c4, c5]
    refine WL.to (L_re (R := R) (l := l) (now := now) (a := mayOf R l now) (b := sureOf R l now) (c := 0) (by omega) hs l.length 0 0 (by omega)) (by simp) rfl ?_
    rintro x e σ'' ⟨rfl, rfl, e0, e1, e2, e8, e9, e10, e11⟩
    simp [errB, c1, c1', c2, c3, c3', c4, c5] at e11
    simp [-List.length_flatMap, -List.map_take, e_law09_TremorLights_r27, e_law09_TremorLights_r28, e_law09_TremorLights_r29, e_law09_TremorLights_r30, e_law09_TremorLights_r31, e_law09_TremorLights_r32, e0, e1, e2, e8, e9, e10, e11, C_In, C_awake, c1, c1', c2, c3, c3', c4, c5, h4]

abbrev tySpt : Ty := .struct [tyPt, tyI]
abbrev tyEv : Ty := .struct [tyI, .slice 4 tySpt]
abbrev tyRule : Ty := .struct [tyPt, tyPt, tyI, tyI, tyI, .int .u8]
theorem spt_of {ds : List D} (h : tySpt.has ds) : ∃ s : Spt, ds = s.enc ∧ True := by
  obtain ⟨a, b, rfl, h1, _, _, rfl, ⟨n, rfl, hn⟩, rfl⟩ := h
  obtain ⟨p, rfl, _⟩ := pt_of h1
  exact ⟨⟨p, n⟩, rfl, trivial⟩
theorem ev_of {ds : List D} (h : tyEv.has ds) : ∃ s : Ev, ds = s.enc ∧ s.sp.length ≤ maxLen := by
  obtain ⟨_, _, rfl, ⟨n, rfl, hn⟩, b, _, rfl, hb, rfl⟩ := h
  obtain ⟨d, rfl⟩ := slice_one hb
  obtain ⟨l, rfl, hl, _⟩ := rows_of (fun ds h => spt_of h) hb
  exact ⟨⟨n, l⟩, rfl, hl⟩
theorem rule_of {ds : List D} (h : tyRule.has ds) : ∃ s : Rule, ds = s.enc ∧ 0 ≤ s.col ∧ s.col ≤ 255 := by
  obtain ⟨a, _, rfl, h1, b, _, rfl, h2, _, _, rfl, ⟨n1, rfl, _⟩, _, _, rfl, ⟨n2, rfl, _⟩, _, _, rfl, ⟨n3, rfl, _⟩, _, _, rfl, ⟨n4, rfl, h4⟩, rfl⟩ := h
  obtain ⟨p, rfl, _⟩ := pt_of h1
  obtain ⟨q, rfl, _⟩ := pt_of h2
  exact ⟨⟨p, q, n1, n2, n3, n4⟩, rfl, wf_u8 h4⟩

theorem go_TremorLights (x0 x1 x2 : D) (t0 : (Ty.slice 10 tyRule).hasV x0) (t1 : (Ty.slice 2 tyEv).hasV x1) (t2 : tyI.hasV x2) :
    ∃ σ', lim T (.call false i_law09_TremorLights [x0, x1, x2] [[]]) = some (.val (.bool true) σ') := by
  obtain ⟨R, rfl, hR, _⟩ := rows_of (fun ds h => rule_of h) t0
  obtain ⟨l, rfl, hl, hs⟩ := rows_of (fun ds h => ev_of h) t1
  obtain ⟨n, rfl, _⟩ := i64_of t2
  exact ⟨_, law_Lights (by unfold maxLen at *; omega) (by unfold maxLen at *; omega) (fun e he => by have := hs e he; unfold maxLen at *; omega) (by simp)⟩
end Go.Proofs.YticpenoicajakaaGreat
