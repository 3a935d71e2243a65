/-
  Which lists show that no curve agrees: of the reference, of the program.
-/
import Derived.Test.YtcjjdaifpboaaaaH12
set_option linter.unusedVariables false
set_option linter.unusedSimpArgs false
namespace Go.Proofs.Ytcjjdaifpboaaaa
open Go Go.Abs Go.Trial
variable {σ : Stack}

def shA (t : Test) (l : List (Int × Int)) (p : Int × Int) (n : Nat) : Bool := match l[n]? with
  | some x => conf t p.1 p.2 x
  | none => false
def shB (t : Test) (l : List (Int × Int)) : List (Int × Int) → Nat → Bool
  | [], _ => true
  | p :: ps, n => shA t l p n && shB t l ps (n + 1)
def shows (t : Test) (l : List (Int × Int)) : Bool := shB t l (pairs t) 0 && decide ((pairs t).length = l.length)
theorem shB_app {t : Test} {l : List (Int × Int)} : ∀ (a b : List (Int × Int)) (n : Nat), shB t l (a ++ b) n = (shB t l a n && shB t l b (n + a.length))
  | [], b, n => by simp [shB]
  | p :: a, b, n => by
    simp only [List.cons_append, shB, shB_app a b (n + 1), List.length_cons, Bool.and_assoc]
    rw [show n + 1 + a.length = n + (a.length + 1) by omega]

theorem L_sh2 {t : Test} (h : Tv t) {l : List (Int × Int)} (hl : l.length ≤ 100000) {b : Int} (hb : t.b.lo ≤ b ∧ b ≤ t.b.hi) {N : Nat} (hN : N ≤ 1600) : ∀ (m : Nat) (c : Int) (n : Nat), t.c.lo ≤ c → (cRow t b c).length = m → n + m = N →
    WL T [1, 2, 5, 6, 7] false f_ref04_Shows_l10 [(1, .lst l.length (l.flatMap prE)), (2, .cref t.enc), (5, .int .i64 n), (6, .int .i64 b), (7, .int .i64 c)] σ
      (fun x' e σ' => σ' = σ ∧ if shB t l (cRow t b c) n then x' = .exit 2 ∧ get e 1 = .lst l.length (l.flatMap prE) ∧ get e 2 = .cref t.enc ∧ get e 5 = .int .i64 N ∧ get e 6 = .int .i64 b else x' = .ret ∧ get e 4 = .bool false)
  | 0, c, n, hc0, hm, hn => by
    refine WL_step e_ref04_Shows_l10 ?_
    by_cases hc : c ≤ t.c.hi
    · rw [cRow_cons hc] at hm; cases hm
    · have hn' : n = N := by omega
      subst hn'
      simp [-List.length_flatMap, -List.map_take, e_ref04_Shows_r0, e_ref04_Shows_r1, e_ref04_Shows_r2, e_ref04_Shows_r3, e_ref04_Shows_r4, e_ref04_Shows_r5, e_ref04_Shows_r6, e_ref04_Shows_r7, e_ref04_Shows_r8, e_ref04_Shows_r9, e_ref04_Shows_r11, e_ref04_Shows_r13, hc, cRow_nil (show t.c.hi < c by omega), shB]
  | m + 1, c, n, hc0, hm, hn => by
    refine WL_step e_ref04_Shows_l10 ?_
    by_cases hc : c ≤ t.c.hi
    rotate_left
    · rw [cRow_nil (by omega)] at hm; cases hm
    rw [cRow_cons hc] at hm
    simp only [List.length_cons, Nat.add_right_cancel_iff] at hm
    have hC := h.c
    have w0 := w64 (n := c + 1) (by omega)
    have w1 := w64 (n := (n : Int) + 1) (by omega)
    have hB : BC t b c := ⟨hb, by omega, hc⟩
    rw [cRow_cons hc]
    cases hx : l[n]? with
    | none =>
      have h1 : (l.length : Int) ≤ n := by have := List.getElem?_eq_none_iff.1 hx; omega
      have e1 : shB t l ((b, c) :: cRow t b (c + 1)) n = false := by simp [shB, shA, hx]
      rw [e1]
      simp [-List.length_flatMap, -List.map_take, e_ref04_Shows_r0, e_ref04_Shows_r1, e_ref04_Shows_r2, e_ref04_Shows_r3, e_ref04_Shows_r4, e_ref04_Shows_r5, e_ref04_Shows_r6, e_ref04_Shows_r7, e_ref04_Shows_r8, e_ref04_Shows_r9, e_ref04_Shows_r11, e_ref04_Shows_r13, hc, h1]
    | some x =>
      have h1 : ¬ (l.length : Int) ≤ n := by have := (List.getElem?_eq_some_iff.1 hx).1; omega
      have h2 := flat_at (f := prE) (w := 2) (fun _ => rfl) hx
      have hF := fun σ => @C_Conflict σ t h b c hB x.1 x.2
      have h3 : n < l.length := by omega
      cases hc2 : conf t b c (x.1, x.2)
      · have e1 : shB t l ((b, c) :: cRow t b (c + 1)) n = false := by simp [shB, shA, hx, hc2]
        rw [e1]
        rw [hc2] at hF
        simp [-List.length_flatMap, -List.map_take, e_ref04_Shows_r0, e_ref04_Shows_r1, e_ref04_Shows_r2, e_ref04_Shows_r3, e_ref04_Shows_r4, e_ref04_Shows_r5, e_ref04_Shows_r6, e_ref04_Shows_r7, e_ref04_Shows_r8, e_ref04_Shows_r9, e_ref04_Shows_r11, e_ref04_Shows_r13, hc, h1, h2, h3, hF]
      · have e1 : shB t l ((b, c) :: cRow t b (c + 1)) n = shB t l (cRow t b (c + 1)) (n + 1) := by simp [shB, shA, hx, hc2]
        rw [e1]
        rw [hc2] at hF
        have ih := L_sh2 h hl hb hN m (c + 1) (n + 1) (by omega) hm (by omega)
        simp [-List.length_flatMap, -List.map_take, e_ref04_Shows_r0, e_ref04_Shows_r1, e_ref04_Shows_r2, e_ref04_Shows_r3, e_ref04_Shows_r4, e_ref04_Shows_r5, e_ref04_Shows_r6, e_ref04_Shows_r7, e_ref04_Shows_r8, e_ref04_Shows_r9, e_ref04_Shows_r11, e_ref04_Shows_r13, hc, h1, h2, h3, hF, w0, w1]
        exact WL.to ih (by simp) rfl fun x e σ' hh => hh
theorem L_sh1 {t : Test} (h : Tv t) {l : List (Int × Int)} (hl : l.length ≤ 100000) {N : Nat} (hN : N ≤ 1600) : ∀ (m : Nat) (b : Int) (n : Nat), t.b.lo ≤ b → (upto b t.b.hi).length = m → n + (bRows t b).length = N →
    WL T [1, 2, 5, 6] false f_ref04_Shows_l12 [(1, .lst l.length (l.flatMap prE)), (2, .cref t.enc), (5, .int .i64 n), (6, .int .i64 b)] σ
      (fun x' e σ' => σ' = σ ∧ if shB t l (bRows t b) n then x' = .exit 0 ∧ get e 1 = .lst l.length (l.flatMap prE) ∧ get e 5 = .int .i64 N else x' = .ret ∧ get e 4 = .bool false)
  | 0, b, n, hb0, hm, hn => by
    refine WL_step e_ref04_Shows_l12 ?_
    by_cases hc : b ≤ t.b.hi
    · rw [upto_cons hc] at hm; cases hm
    · rw [bRows_nil (by omega)] at hn ⊢
      have hn' : n = N := by simpa using hn
      subst hn'
      simp [-List.length_flatMap, -List.map_take, e_ref04_Shows_r0, e_ref04_Shows_r1, e_ref04_Shows_r2, e_ref04_Shows_r3, e_ref04_Shows_r4, e_ref04_Shows_r5, e_ref04_Shows_r6, e_ref04_Shows_r7, e_ref04_Shows_r8, e_ref04_Shows_r9, e_ref04_Shows_r11, e_ref04_Shows_r13, hc, shB]
  | m + 1, b, n, hb0, hm, hn => by
    refine WL_step e_ref04_Shows_l12 ?_
    by_cases hc : b ≤ t.b.hi
    rotate_left
    · rw [upto_nil (by omega)] at hm; cases hm
    rw [upto_cons hc] at hm
    simp only [List.length_cons, Nat.add_right_cancel_iff] at hm
    have hB := h.b
    have w0 := w64 (n := b + 1) (by omega)
    rw [bRows_cons hc] at hn ⊢
    rw [List.length_append] at hn
    rw [shB_app]
    simp [-List.length_flatMap, -List.map_take, e_ref04_Shows_r0, e_ref04_Shows_r1, e_ref04_Shows_r2, e_ref04_Shows_r3, e_ref04_Shows_r4, e_ref04_Shows_r5, e_ref04_Shows_r6, e_ref04_Shows_r7, e_ref04_Shows_r8, e_ref04_Shows_r9, e_ref04_Shows_r11, e_ref04_Shows_r13, hc]
    refine WL.to (L_sh2 (σ := σ) h hl (N := n + (cRow t b t.c.lo).length) ⟨hb0, hc⟩ (by omega) _ t.c.lo n (by omega) rfl rfl) (by simp) (by simp) ?_
    rintro x' e σ' ⟨hs, hh⟩
    have hs := hs.symm
    subst hs
    cases hq : shB t l (cRow t b t.c.lo) n
    · rw [hq] at hh
      simp only [Bool.false_eq_true, if_false] at hh
      obtain ⟨rfl, g4⟩ := hh
      simp [g4]
    · rw [hq] at hh
      simp only [if_true] at hh
      obtain ⟨rfl, g1, g2, g5, g6⟩ := hh
      have ih := L_sh1 h hl hN m (b + 1) (n + (cRow t b t.c.lo).length) (by omega) hm (by omega)
      generalize n + (cRow t b t.c.lo).length = k at *
      simp [-List.length_flatMap, -List.map_take, e_ref04_Shows_r11, g1, g2, g5, g6, w0]
      exact WL.to ih (by simp) rfl fun x e σ' hh => hh
theorem C_Shows {t : Test} (h : Tv t) {l : List (Int × Int)} (hl : l.length ≤ 100000) : lim T (.call false i_ref04_Shows [.agg [.int .i64 t.a.lo, .int .i64 t.a.hi, .int .i64 t.b.lo, .int .i64 t.b.hi, .int .i64 t.c.lo, .int .i64 t.c.hi, .lst t.st.length (t.st.flatMap Step.enc)], .lst l.length (l.flatMap prE)] σ) = some (.val (.bool (shows t l)) σ) := by
  refine call_of T_ref04_Shows e_ref04_Shows rfl ?_
  have hp := pairs_len h
  simp [-List.length_flatMap, -List.map_take, e_ref04_Shows_r0, e_ref04_Shows_r1, e_ref04_Shows_r2, e_ref04_Shows_r3, e_ref04_Shows_r4, e_ref04_Shows_r5, e_ref04_Shows_r6, e_ref04_Shows_r7, e_ref04_Shows_r8, e_ref04_Shows_r9, e_ref04_Shows_r11, e_ref04_Shows_r13]
  refine WL.to (L_sh1 (σ := [] :: σ) h hl hp _ t.b.lo 0 (by omega) rfl (by rw [bRows_all]; omega)) (by simp) rfl ?_
  rintro x' e σ' ⟨rfl, hh⟩
  rw [bRows_all] at hh
  unfold shows
  cases hq : shB t l (pairs t) 0
  · rw [hq] at hh
    simp only [Bool.false_eq_true, if_false] at hh
    obtain ⟨rfl, g4⟩ := hh
    simp [-List.length_flatMap, -List.map_take, e_ref04_Shows_r0, e_ref04_Shows_r1, e_ref04_Shows_r2, e_ref04_Shows_r3, e_ref04_Shows_r4, e_ref04_Shows_r5, e_ref04_Shows_r6, e_ref04_Shows_r7, e_ref04_Shows_r8, e_ref04_Shows_r9, e_ref04_Shows_r11, e_ref04_Shows_r13, g4]
  · rw [hq] at hh
    simp only [if_true] at hh
    obtain ⟨rfl, g1, g5⟩ := hh
    have e9 : ((↑(pairs t).length : Int) == ↑l.length) = decide ((pairs t).length = l.length) := by rw [Bool.eq_iff_iff]; simp; omega
    simp [-List.length_flatMap, -List.map_take, e_ref04_Shows_r0, e_ref04_Shows_r1, e_ref04_Shows_r2, e_ref04_Shows_r3, e_ref04_Shows_r4, e_ref04_Shows_r5, e_ref04_Shows_r6, e_ref04_Shows_r7, e_ref04_Shows_r8, e_ref04_Shows_r9, e_ref04_Shows_r11, e_ref04_Shows_r13, g1, g5, e9]

/-! ### The program's -/

def shL (L : Nat) (l : List (Int × Int)) : LoopSt := { state := 0, pend := none, env := [(3, .cref [.lst l.length (l.flatMap prE)]), (4, .ref L 0 0 0), (5, .ref L 1 0 0)], params := [15, 16], asg := f_trial_ProveNone_a12, body := f_trial_ProveNone_b12 }
def shS (l : List (Int × Int)) (n : Nat) (σ : Stack) : Stack := [.cells 0 [.bool false], .cells 0 [.int .i64 n], .loop (shL σ.length l)] :: σ
def shX (l : List (Int × Int)) (n : Nat) (σ : Stack) : Stack := [.cells 0 [.bool false], .cells 0 [.int .i64 n], .loop { shL σ.length l with state := 2, pend := some .ret }] :: σ
theorem R_shF {t : Test} (h : Tv t) {l : List (Int × Int)} (hl : l.length ≤ 100000) {p : Int × Int} {n : Nat} (hn : n ≤ l.length) (hA : shA t l p n = false) :
    lim T (.round σ.length 2 (rmA t p) (rmP p ++ shS l n σ)) = some (.val (.bool false) (rmP p ++ shX l n σ)) := by
  have hs := h.n
  have hlen := @rooms_len t p.1 p.2
  have w1 := w64 (n := (n : Int) + 1) (by omega)
  refine round_of (lp := shL σ.length l) (by simp [rmP, shS]) rfl ?_
  rw [show (shL σ.length l).asg = f_trial_ProveNone_a12 from rfl, e_trial_ProveNone_a12, show (shL σ.length l).body = f_trial_ProveNone_b12 from rfl]
  unfold shA at hA
  cases hx : l[n]? with
  | none =>
    have hA : n = l.length := by have := List.getElem?_eq_none_iff.1 hx; omega
    subst hA
    simp only [rmA]
    generalize (roomsOf t p.1 p.2).flatMap Rg.enc = F at *
    simp [-List.length_flatMap, -List.map_take, e_trial_ProveNone_r0, e_trial_ProveNone_r1, e_trial_ProveNone_r2, e_trial_ProveNone_r3, e_trial_ProveNone_r4, e_trial_ProveNone_r5, e_trial_ProveNone_r6, e_trial_ProveNone_r7, e_trial_ProveNone_r8, e_trial_ProveNone_r9, e_trial_ProveNone_r10, e_trial_ProveNone_r11, e_trial_ProveNone_r13, WC_eq e_trial_ProveNone_b12, shL, shS, shX, rmP, cvA, midR]
  | some x =>
    obtain ⟨i, j⟩ := x
    rw [hx] at hA
    dsimp only at hA
    have h1 : n < l.length := (List.getElem?_eq_some_iff.1 hx).1
    have h0 : (n : Int) ≠ l.length := by omega
    have h2 := flat_at (f := prE) (w := 2) (fun _ => rfl) hx
    have e2 : ((t.st.length + 1 : Nat) : Int) - 2 = t.st.length - 1 := by omega
    have e3 : ((t.st.length : Int) + 1) - 2 = t.st.length - 1 := by omega
    have w2 := w64 (n := (t.st.length : Int) - 1) (by omega)
    simp only [rmA, hlen]
    cases hi : inn i (-1) (t.st.length - 1)
    · generalize (roomsOf t p.1 p.2).flatMap Rg.enc = F at *
      simp [-List.length_flatMap, -List.map_take, e_trial_ProveNone_r0, e_trial_ProveNone_r1, e_trial_ProveNone_r2, e_trial_ProveNone_r3, e_trial_ProveNone_r4, e_trial_ProveNone_r5, e_trial_ProveNone_r6, e_trial_ProveNone_r7, e_trial_ProveNone_r8, e_trial_ProveNone_r9, e_trial_ProveNone_r10, e_trial_ProveNone_r11, e_trial_ProveNone_r13, WC_eq e_trial_ProveNone_b12, shL, shS, shX, rmP, cvA, midR, h0, h1, h2, e2, e3, w2, C_within, hi]
    cases hj : inn j (-1) (t.st.length - 1)
    · generalize (roomsOf t p.1 p.2).flatMap Rg.enc = F at *
      simp [-List.length_flatMap, -List.map_take, e_trial_ProveNone_r0, e_trial_ProveNone_r1, e_trial_ProveNone_r2, e_trial_ProveNone_r3, e_trial_ProveNone_r4, e_trial_ProveNone_r5, e_trial_ProveNone_r6, e_trial_ProveNone_r7, e_trial_ProveNone_r8, e_trial_ProveNone_r9, e_trial_ProveNone_r10, e_trial_ProveNone_r11, e_trial_ProveNone_r13, WC_eq e_trial_ProveNone_b12, shL, shS, shX, rmP, cvA, midR, h0, h1, h2, e2, e3, w2, C_within, hi, hj]
    obtain ⟨I, rfl⟩ : ∃ I : Nat, i = (I : Int) - 1 := ⟨(i + 1).toNat, by have := inn_iff.1 hi; omega⟩
    obtain ⟨J, rfl⟩ : ∃ J : Nat, j = (J : Int) - 1 := ⟨(j + 1).toNat, by have := inn_iff.1 hj; omega⟩
    have hI := inn_iff.1 hi
    have hJ := inn_iff.1 hj
    obtain ⟨a, ha⟩ : ∃ a, (roomsOf t p.1 p.2)[I]? = some a := ⟨_, List.getElem?_eq_getElem (by rw [rooms_len]; omega)⟩
    obtain ⟨b, hb⟩ : ∃ b, (roomsOf t p.1 p.2)[J]? = some b := ⟨_, List.getElem?_eq_getElem (by rw [rooms_len]; omega)⟩
    rw [conf_at ha hb, decide_eq_false_iff_not] at hA
    have hA' : a.lo ≤ b.hi := by omega
    have a2 := flat_at (f := Rg.enc) (w := 2) (fun _ => rfl) ha
    have b2 := flat_at (f := Rg.enc) (w := 2) (fun _ => rfl) hb
    have wI := w64 (n := (I : Int)) (by omega)
    have wJ := w64 (n := (J : Int)) (by omega)
    have lI : (I : Int) < t.st.length + 1 := by omega
    have lJ : (J : Int) < t.st.length + 1 := by omega
    generalize (roomsOf t p.1 p.2).flatMap Rg.enc = F at *
    simp [-List.length_flatMap, -List.map_take, e_trial_ProveNone_r0, e_trial_ProveNone_r1, e_trial_ProveNone_r2, e_trial_ProveNone_r3, e_trial_ProveNone_r4, e_trial_ProveNone_r5, e_trial_ProveNone_r6, e_trial_ProveNone_r7, e_trial_ProveNone_r8, e_trial_ProveNone_r9, e_trial_ProveNone_r10, e_trial_ProveNone_r11, e_trial_ProveNone_r13, WC_eq e_trial_ProveNone_b12, shL, shS, shX, rmP, cvA, midR, h0, h1, h2, e2, e3, w2, C_within, hi, hj, a2, b2, wI, wJ, lI, lJ, hA']
theorem R_shT {t : Test} (h : Tv t) {l : List (Int × Int)} (hl : l.length ≤ 100000) {p : Int × Int} {n : Nat} (hn : n ≤ l.length) (hA : shA t l p n = true) :
    lim T (.round σ.length 2 (rmA t p) (rmP p ++ shS l n σ)) = some (.val (.bool true) (rmP p ++ shS l (n + 1) σ)) := by
  have hs := h.n
  have hlen := @rooms_len t p.1 p.2
  have w1 := w64 (n := (n : Int) + 1) (by omega)
  refine round_of (lp := shL σ.length l) (by simp [rmP, shS]) rfl ?_
  rw [show (shL σ.length l).asg = f_trial_ProveNone_a12 from rfl, e_trial_ProveNone_a12, show (shL σ.length l).body = f_trial_ProveNone_b12 from rfl]
  unfold shA at hA
  cases hx : l[n]? with
  | none => rw [hx] at hA; cases hA
  | some x =>
    obtain ⟨i, j⟩ := x
    rw [hx] at hA
    dsimp only at hA
    have h1 : n < l.length := (List.getElem?_eq_some_iff.1 hx).1
    have h0 : (n : Int) ≠ l.length := by omega
    have h2 := flat_at (f := prE) (w := 2) (fun _ => rfl) hx
    have e2 : ((t.st.length + 1 : Nat) : Int) - 2 = t.st.length - 1 := by omega
    have e3 : ((t.st.length : Int) + 1) - 2 = t.st.length - 1 := by omega
    have w2 := w64 (n := (t.st.length : Int) - 1) (by omega)
    simp only [rmA, hlen]
    have hA0 := hA
    simp only [conf, Bool.and_eq_true, decide_eq_true_eq] at hA0
    obtain ⟨hi, hj, _⟩ := hA0
    obtain ⟨I, rfl⟩ : ∃ I : Nat, i = (I : Int) - 1 := ⟨(i + 1).toNat, by have := inn_iff.1 hi; omega⟩
    obtain ⟨J, rfl⟩ : ∃ J : Nat, j = (J : Int) - 1 := ⟨(j + 1).toNat, by have := inn_iff.1 hj; omega⟩
    have hI := inn_iff.1 hi
    have hJ := inn_iff.1 hj
    obtain ⟨a, ha⟩ : ∃ a, (roomsOf t p.1 p.2)[I]? = some a := ⟨_, List.getElem?_eq_getElem (by rw [rooms_len]; omega)⟩
    obtain ⟨b, hb⟩ : ∃ b, (roomsOf t p.1 p.2)[J]? = some b := ⟨_, List.getElem?_eq_getElem (by rw [rooms_len]; omega)⟩
    rw [conf_at ha hb, decide_eq_true_eq] at hA
    have hA' : ¬ a.lo ≤ b.hi := by omega
    have a2 := flat_at (f := Rg.enc) (w := 2) (fun _ => rfl) ha
    have b2 := flat_at (f := Rg.enc) (w := 2) (fun _ => rfl) hb
    have wI := w64 (n := (I : Int)) (by omega)
    have wJ := w64 (n := (J : Int)) (by omega)
    have lI : (I : Int) < t.st.length + 1 := by omega
    have lJ : (J : Int) < t.st.length + 1 := by omega
    generalize (roomsOf t p.1 p.2).flatMap Rg.enc = F at *
    simp [-List.length_flatMap, -List.map_take, e_trial_ProveNone_r0, e_trial_ProveNone_r1, e_trial_ProveNone_r2, e_trial_ProveNone_r3, e_trial_ProveNone_r4, e_trial_ProveNone_r5, e_trial_ProveNone_r6, e_trial_ProveNone_r7, e_trial_ProveNone_r8, e_trial_ProveNone_r9, e_trial_ProveNone_r10, e_trial_ProveNone_r11, e_trial_ProveNone_r13, WC_eq e_trial_ProveNone_b12, shL, shS, shX, rmP, cvA, midR, h0, h1, h2, e2, e3, w1, w2, C_within, hi, hj, a2, b2, wI, wJ, lI, lJ, hA']
theorem Rs_sh {t : Test} (h : Tv t) {l : List (Int × Int)} (hl : l.length ≤ 100000) : ∀ (ps : List (Int × Int)) (n : Nat), n ≤ l.length →
    ∃ r : Nat, (shB t l ps n = true → r = n + ps.length) ∧ Rnds T (σ.length + 1) σ.length 2 (rmA t) rmP ps (shS l n σ) (shB t l ps n) (if shB t l ps n then shS l r σ else shX l r σ)
  | [], n, _ => ⟨n, fun _ => by simp, by simpa [shB] using Rnds.nil _ (by simp [shS])⟩
  | p :: ps, n, hn => by
    cases hq : shA t l p n
    · have e : shB t l (p :: ps) n = false := by simp [shB, hq]
      rw [e]
      refine ⟨n, (fun hh => (by cases hh)), ?_⟩
      simp only [Bool.false_eq_true, if_false]
      exact .stop _ _ _ _ (by simp [shS]) (by simp [shX]) (R_shF h hl hn hq)
    · have e : shB t l (p :: ps) n = shB t l ps (n + 1) := by simp [shB, hq]
      have hn' : n + 1 ≤ l.length := by
        unfold shA at hq
        cases hx : l[n]? with
        | none => rw [hx] at hq; cases hq
        | some x => have := (List.getElem?_eq_some_iff.1 hx).1; omega
      obtain ⟨r, hr, hR⟩ := Rs_sh h hl ps (n + 1) hn'
      rw [e]
      exact ⟨r, fun ha => by rw [hr ha]; simp; omega, .go _ _ _ _ _ _ (by simp [shS]) (R_shT h hl hn hq) hR⟩
theorem C_prove {t : Test} (ht : t.st.length ≤ 100000) {l : List (Int × Int)} (hl : l.length ≤ 100000) (hσ : σ ≠ []) :
    lim T (.call false i_trial_ProveNone [.agg [.int .i64 t.a.lo, .int .i64 t.a.hi, .int .i64 t.b.lo, .int .i64 t.b.hi, .int .i64 t.c.lo, .int .i64 t.c.hi, .lst t.st.length (t.st.flatMap Step.enc)], .lst l.length (l.flatMap prE)] σ) = some (.val (.bool (decide (fault t = 0) && shows t l)) σ) := by
  refine call_of T_trial_ProveNone e_trial_ProveNone rfl ?_
  have hf := fun σ => @C_check σ t ht
  by_cases h0 : fault t = 0
  rotate_left
  · simp [-List.length_flatMap, -List.map_take, e_trial_ProveNone_r0, e_trial_ProveNone_r1, e_trial_ProveNone_r2, e_trial_ProveNone_r3, e_trial_ProveNone_r4, e_trial_ProveNone_r5, e_trial_ProveNone_r6, e_trial_ProveNone_r7, e_trial_ProveNone_r8, e_trial_ProveNone_r9, e_trial_ProveNone_r10, e_trial_ProveNone_r11, e_trial_ProveNone_r13, hf, h0]
  have h := fault_tv h0
  obtain ⟨r, hr, hR⟩ := Rs_sh (σ := σ) h hl (pairs t) 0 (by omega)
  have hc := C_rooms1 h (l := σ.length) (i := 2) (S := shS l 0 σ) (by simp [shS]) (by simpa [shS] using hR)
  simp [-List.length_flatMap, -List.map_take, e_trial_ProveNone_r0, e_trial_ProveNone_r1, e_trial_ProveNone_r2, e_trial_ProveNone_r3, e_trial_ProveNone_r4, e_trial_ProveNone_r5, e_trial_ProveNone_r6, e_trial_ProveNone_r7, e_trial_ProveNone_r8, e_trial_ProveNone_r9, e_trial_ProveNone_r10, e_trial_ProveNone_r11, e_trial_ProveNone_r13, hf, h0, C_rooms]
  unfold shows
  cases ha : shB t l (pairs t) 0
  · rw [ha] at hc
    simp only [Bool.false_eq_true, if_false] at hc
    refine WC_rngf (d := .tup []) (σ2 := shX l r σ) (lp := { shL σ.length l with state := 2, pend := some .ret }) (by simp; exact ⟨rfl, rfl, rfl⟩) ?_ (by simp [shX]) (by simp [shL]) ?_
    · simpa [shL, shS] using hc
    · simp [-List.length_flatMap, -List.map_take, shL, shX, e_trial_ProveNone_r0, e_trial_ProveNone_r1, e_trial_ProveNone_r2, e_trial_ProveNone_r3, e_trial_ProveNone_r4, e_trial_ProveNone_r5, e_trial_ProveNone_r6, e_trial_ProveNone_r7, e_trial_ProveNone_r8, e_trial_ProveNone_r9, e_trial_ProveNone_r10, e_trial_ProveNone_r11, e_trial_ProveNone_r13, h0]
  · rw [ha] at hc
    simp only [if_true] at hc
    have hr' : r = (pairs t).length := by rw [hr ha]; omega
    subst hr'
    have e9 : ((↑(pairs t).length : Int) == ↑l.length) = decide ((pairs t).length = l.length) := by rw [Bool.eq_iff_iff]; simp; omega
    refine WC_rngf (d := .tup []) (σ2 := shS l (pairs t).length σ) (lp := shL σ.length l) (by simp; exact ⟨rfl, rfl, rfl⟩) ?_ (by simp [shS]) (by simp [shL]) ?_
    · simpa [shL, shS] using hc
    · simp [-List.length_flatMap, -List.map_take, shL, shS, e_trial_ProveNone_r0, e_trial_ProveNone_r1, e_trial_ProveNone_r2, e_trial_ProveNone_r3, e_trial_ProveNone_r4, e_trial_ProveNone_r5, e_trial_ProveNone_r6, e_trial_ProveNone_r7, e_trial_ProveNone_r8, e_trial_ProveNone_r9, e_trial_ProveNone_r10, e_trial_ProveNone_r11, e_trial_ProveNone_r13, e9, h0]
end Go.Proofs.Ytcjjdaifpboaaaa
