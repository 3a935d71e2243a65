/-
  The least plan, of the reference.
-/
import Derived.Test.YtcjjdaifpboaaaaS9
set_option linter.unusedVariables false
set_option linter.unusedSimpArgs false
namespace Go.Proofs.Ytcjjdaifpboaaaa
open Go Go.Abs Go.Trial
variable {σ : Stack}

def nE (l : List Nat) : List D := l.map fun n : Nat => .int .i64 n
theorem nE_len {l : List Nat} : (nE l).length = l.length := by simp [nE]
theorem nE_app {l : List Nat} {x : Nat} : nE (l ++ [x]) = nE l ++ [.int .i64 x] := by simp [nE]
theorem nE_at {l : List Nat} {i x : Nat} (h : l[i]? = some x) : (nE l).drop i = .int .i64 x :: (nE l).drop (i + 1) := dropS (by simp [nE, h])
theorem nE_clean {l : List Nat} : D.cleanL (nE l) = true := by
  induction l with
  | nil => rfl
  | cons a l ih => simp only [nE, List.map_cons, D.cleanL, D.clean, Bool.true_and] at ih ⊢; exact ih
theorem u64w {i : Nat} (h : i < 100) : IntKind.u64.wrap (i : Int) = i := by
  unfold IntKind.wrap
  simp [IntKind.signed, IntKind.bits]
  omega
theorem fdv (n i : Nat) (h : i < 64) : (n : Int).fdiv (2 ^ min i IntKind.i64.bits) = ((n / 2 ^ i : Nat) : Int) := by
  have e : min i IntKind.i64.bits = i := by simp [IntKind.bits]; omega
  rw [e, Int.fdiv_eq_ediv_of_nonneg _ (by exact Int.pow_nonneg (by decide))]
  simp
theorem and1 {m : Nat} (h : m < 2000) : IntKind.i64.wrap ((m % 2 ^ IntKind.i64.bits &&& 1 % 2 ^ IntKind.i64.bits : Nat) : Int) = ((m % 2 : Nat) : Int) := by
  have e : (m % 2 ^ IntKind.i64.bits &&& 1 % 2 ^ IntKind.i64.bits : Nat) = m % 2 := by
    have e3 : (2 : Nat) ^ IntKind.i64.bits = 18446744073709551616 := by decide
    rw [e3, Nat.mod_eq_of_lt (by omega : m < 18446744073709551616)]
    exact Nat.and_one_is_mod m
  rw [e]
  exact w64 (by omega)
/-- A bit of a set, as the code asks for it. -/
structure Bit (n i Q : Nat) (b : Bool) : Prop where
  sh : (n : Int).fdiv (2 ^ min i IntKind.i64.bits) = (Q : Int)
  an : IntKind.i64.wrap ((Q % 2 ^ IntKind.i64.bits &&& 1 % 2 ^ IntKind.i64.bits : Nat) : Int) = if b then 1 else 0
theorem bit_of {n i : Nat} (hn : n < 2000) (hi : i < 64) : ∃ Q, Bit n i Q (n.testBit i) := by
  refine ⟨n / 2 ^ i, fdv n i hi, ?_⟩
  rw [and1 (Nat.lt_of_le_of_lt (Nat.div_le_self _ _) hn), Nat.testBit_eq_decide_div_mod_eq]
  by_cases h : n / 2 ^ i % 2 = 1
  · rw [h]; simp
  · have : n / 2 ^ i % 2 = 0 := by omega
    rw [this]; simp
theorem L_mem {n : Nat} (hn : n < 2000) : ∀ (m i : Nat) (acc : List Nat), i + m = 10 → acc.length ≤ i →
    WL T [0, 3, 4] false f_ref04_Members_l7 [(0, .int .i64 n), (3, .sl σ.length 0 acc.length 0 acc.length 1), (4, .int .i64 i)] ([.cells acc.length (nE acc)] :: σ)
      (fun x e σ' => ∃ r, r = acc ++ (List.range' i m).filter (fun i => n.testBit i) ∧ σ' = [.cells r.length (nE r)] :: σ ∧ x = .exit 0 ∧ get e 3 = .sl σ.length 0 r.length 0 r.length 1)
  | 0, i, acc, hi, ha => by
    refine WL_step e_ref04_Members_l7 ?_
    have h1 : ¬ (i : Int) < 10 := by omega
    simp [-List.length_flatMap, -List.map_take, e_ref04_Members_r0, e_ref04_Members_r1, e_ref04_Members_r2, e_ref04_Members_r3, e_ref04_Members_r4, e_ref04_Members_r5, e_ref04_Members_r6, e_ref04_Members_r8, h1]
  | m + 1, i, acc, hi, ha => by
    refine WL_step e_ref04_Members_l7 ?_
    have h1 : (i : Int) < 10 := by omega
    have w1 := w64 (n := (i : Int) + 1) (by omega)
    have q1 := u64w (i := i) (by omega)
    obtain ⟨Q, q2, q3⟩ := bit_of (n := n) (i := i) hn (by omega)
    have h0 : ¬ (i : Int) < 0 := by omega
    rw [List.range'_succ, List.filter_cons]
    cases hb : n.testBit i
    · rw [hb] at q3
      simp only [Bool.false_eq_true, if_false, if_true] at q3
      have ih := L_mem hn m (i + 1) acc (by omega) (by omega)
      simp [-List.length_flatMap, -List.map_take, e_ref04_Members_r0, e_ref04_Members_r1, e_ref04_Members_r2, e_ref04_Members_r3, e_ref04_Members_r4, e_ref04_Members_r5, e_ref04_Members_r6, e_ref04_Members_r8, h1, w1, q1, q2, q3, h0]
      refine WL.to ih (by simp) (by simp) ?_
      exact fun x e σ' hh => hh
    · rw [hb] at q3
      simp only [Bool.false_eq_true, if_false, if_true] at q3
      have ih := L_mem hn m (i + 1) (acc ++ [i]) (by omega) (by simp; omega)
      have a1 := @nE_len acc
      have a2 : (nE acc).take acc.length = nE acc := List.take_of_length_le (by rw [a1]; exact Nat.le_refl _)
      have h7 : (acc.length + 1) * 8 ≤ room := by unfold room; omega
      simp only [List.length_append, List.length_cons, List.length_nil, Nat.zero_add, nE_app] at ih
      simp [-List.length_flatMap, -List.map_take, e_ref04_Members_r0, e_ref04_Members_r1, e_ref04_Members_r2, e_ref04_Members_r3, e_ref04_Members_r4, e_ref04_Members_r5, e_ref04_Members_r6, e_ref04_Members_r8, h1, w1, q1, q2, q3, h0, a1, a2, h7]
      refine WL.to ih (by simp) (by simp) ?_
      intro x e σ' hh
      simpa using hh
theorem C_Members {n : Nat} (hn : n < 2000) (hσ : σ ≠ []) : lim T (.call false i_ref04_Members [.int .i64 n] σ) = some (.val (.lst (memb n).length (nE (memb n))) σ) := by
  refine call_of T_ref04_Members e_ref04_Members rfl ?_
  simp [-List.length_flatMap, -List.map_take, e_ref04_Members_r0, e_ref04_Members_r1, e_ref04_Members_r2, e_ref04_Members_r3, e_ref04_Members_r4, e_ref04_Members_r5, e_ref04_Members_r6, e_ref04_Members_r8]
  refine WL.to (L_mem (σ := σ) hn 10 0 [] (by omega) (by simp)) (by simp) (by simp [nE]) ?_
  rintro x e σ' ⟨r, hr, rfl, rfl, g3⟩
  have hr : r = memb n := by rw [hr]; rfl
  subst hr
  simp [-List.length_flatMap, -List.map_take, e_ref04_Members_r8, g3]
  have h3 : ¬ σ.length ≤ σ.length - 1 := by have := List.length_pos_iff.2 hσ; omega
  rw [frz_sl h3 (cs := nE (memb n)) (by simp) (by omega)]
  have h6 : (nE (memb n)).take (memb n).length = nE (memb n) := List.take_of_length_le (by rw [nE_len]; exact Nat.le_refl _)
  simp [h6, nE_clean]
theorem L_bef {a b : List Nat} (hl : a.length = b.length) (hla : a.length ≤ 100) : ∀ (m i : Nat), i + m = a.length →
    WL T [0, 1, 5] false f_ref04_before_l8 [(0, .lst a.length (nE a)), (1, .lst b.length (nE b)), (5, .int .i64 i)] σ
      (fun x e σ' => σ' = σ ∧ ((x = .exit 0 ∧ bef1 (a.drop i) (b.drop i) = false) ∨ (x = .ret ∧ get e 4 = .bool (bef1 (a.drop i) (b.drop i)))))
  | 0, i, hi => by
    refine WL_step e_ref04_before_l8 ?_
    have h1 : ¬ i < a.length := by omega
    have h2 : a.drop i = [] := List.drop_eq_nil_of_le (by omega)
    simp [-List.length_flatMap, -List.map_take, e_ref04_before_r0, e_ref04_before_r1, e_ref04_before_r2, e_ref04_before_r3, e_ref04_before_r4, e_ref04_before_r5, e_ref04_before_r6, e_ref04_before_r7, e_ref04_before_r9, h1, h2, bef1]
  | m + 1, i, hi => by
    refine WL_step e_ref04_before_l8 ?_
    have h1 : i < a.length := by omega
    have h1' : i < b.length := by omega
    obtain ⟨x, hx⟩ : ∃ x, a[i]? = some x := ⟨_, List.getElem?_eq_getElem h1⟩
    obtain ⟨y, hy⟩ : ∃ y, b[i]? = some y := ⟨_, List.getElem?_eq_getElem h1'⟩
    have h2 := nE_at hx
    have h3 := nE_at hy
    have h4 := wnext h1 (by omega)
    have ih := L_bef hl hla m (i + 1) (by omega)
    have e1 : bef1 (a.drop i) (b.drop i) = if x = y then bef1 (a.drop (i + 1)) (b.drop (i + 1)) else decide (x < y) := by rw [dropS hx, dropS hy]; rfl
    rw [e1]
    by_cases hq : x = y
    · subst hq
      rw [if_pos rfl]
      simp [-List.length_flatMap, -List.map_take, e_ref04_before_r0, e_ref04_before_r1, e_ref04_before_r2, e_ref04_before_r3, e_ref04_before_r4, e_ref04_before_r5, e_ref04_before_r6, e_ref04_before_r7, e_ref04_before_r9, h1, h1', h2, h3, h4]
      exact WL.to ih (by simp) rfl fun x e σ' hh => hh
    · have hq' : ¬ ((x : Int) = y) := by omega
      rw [if_neg hq]
      simp [-List.length_flatMap, -List.map_take, e_ref04_before_r0, e_ref04_before_r1, e_ref04_before_r2, e_ref04_before_r3, e_ref04_before_r4, e_ref04_before_r5, e_ref04_before_r6, e_ref04_before_r7, e_ref04_before_r9, h1, h1', h2, h3, h4, hq']
theorem C_before {a b : List Nat} (hla : a.length ≤ 100) (hlb : b.length ≤ 100) : lim T (.call false i_ref04_before [.lst a.length (nE a), .lst b.length (nE b)] σ) = some (.val (.bool (bef a b)) σ) := by
  refine call_of T_ref04_before e_ref04_before rfl ?_
  unfold bef
  by_cases hl : a.length = b.length
  · rw [if_pos hl]
    have hl' : (a.length : Int) = b.length := by omega
    simp [-List.length_flatMap, -List.map_take, e_ref04_before_r0, e_ref04_before_r1, e_ref04_before_r2, e_ref04_before_r3, e_ref04_before_r4, e_ref04_before_r5, e_ref04_before_r6, e_ref04_before_r7, e_ref04_before_r9, hl']
    rw [← hl]
    refine WL.to (L_bef (σ := [] :: σ) hl hla a.length 0 (by omega)) (by simp [hl]) rfl ?_
    rintro x e σ' ⟨rfl, ⟨rfl, hh⟩ | ⟨rfl, hh⟩⟩
    · simp only [List.drop_zero] at hh
      simp [-List.length_flatMap, -List.map_take, e_ref04_before_r0, e_ref04_before_r1, e_ref04_before_r2, e_ref04_before_r3, e_ref04_before_r4, e_ref04_before_r5, e_ref04_before_r6, e_ref04_before_r7, e_ref04_before_r9, hh]
    · simp only [List.drop_zero] at hh
      simp [hh]
  · rw [if_neg hl]
    have hl' : ¬ ((a.length : Int) = b.length) := by omega
    simp [-List.length_flatMap, -List.map_take, e_ref04_before_r0, e_ref04_before_r1, e_ref04_before_r2, e_ref04_before_r3, e_ref04_before_r4, e_ref04_before_r5, e_ref04_before_r6, e_ref04_before_r7, e_ref04_before_r9, hl']
theorem L_ints {a : List Nat} (hla : a.length ≤ 100) : ∀ (m i : Nat), i + m = a.length →
    WL T [0, 1, 5] false f_law04_ints_l8 [(0, .lst a.length (nE a)), (1, .lst a.length (nE a)), (5, .int .i64 i)] σ
      (fun x e σ' => σ' = σ ∧ x = .exit 0)
  | 0, i, hi => by
    refine WL_step e_law04_ints_l8 ?_
    have h1 : ¬ i < a.length := by omega
    simp [-List.length_flatMap, -List.map_take, e_law04_ints_r0, e_law04_ints_r1, e_law04_ints_r2, e_law04_ints_r3, e_law04_ints_r4, e_law04_ints_r5, e_law04_ints_r6, e_law04_ints_r7, e_law04_ints_r9, h1]
  | m + 1, i, hi => by
    refine WL_step e_law04_ints_l8 ?_
    have h1 : i < a.length := by omega
    obtain ⟨x, hx⟩ : ∃ x, a[i]? = some x := ⟨_, List.getElem?_eq_getElem h1⟩
    have h2 := nE_at hx
    have h4 := wnext h1 (by omega)
    have ih := L_ints hla m (i + 1) (by omega)
    simp [-List.length_flatMap, -List.map_take, e_law04_ints_r0, e_law04_ints_r1, e_law04_ints_r2, e_law04_ints_r3, e_law04_ints_r4, e_law04_ints_r5, e_law04_ints_r6, e_law04_ints_r7, e_law04_ints_r9, h1, h2, h4]
    exact WL.to ih (by simp) rfl fun x e σ' hh => hh
theorem C_ints {a : List Nat} (hla : a.length ≤ 100) : lim T (.call false i_law04_ints [.lst a.length (nE a), .lst a.length (nE a)] σ) = some (.val (.bool true) σ) := by
  refine call_of T_law04_ints e_law04_ints rfl ?_
  simp [-List.length_flatMap, -List.map_take, e_law04_ints_r0, e_law04_ints_r1, e_law04_ints_r2, e_law04_ints_r3, e_law04_ints_r4, e_law04_ints_r5, e_law04_ints_r6, e_law04_ints_r7, e_law04_ints_r9]
  refine WL.to (L_ints (σ := [] :: σ) hla a.length 0 (by omega)) (by simp) rfl ?_
  rintro x e σ' ⟨rfl, rfl⟩
  simp [-List.length_flatMap, -List.map_take, e_law04_ints_r0, e_law04_ints_r1, e_law04_ints_r2, e_law04_ints_r3, e_law04_ints_r4, e_law04_ints_r5, e_law04_ints_r6, e_law04_ints_r7, e_law04_ints_r9]

/-! ### Is a set a plan? -/

def metF (s : Surv) (n a b : Nat) : Nat → Nat → Bool → Bool
  | 0, _, met => met
  | m + 1, w, met => metF s n a b m (w + 1) (met || (n.testBit w && (decide (Gr s w = Gr s a) || decide (Gr s w = Gr s b))))
theorem L_met {s : Surv} (h : Sv s) {W : Nat} (hW : s.w = W) {n a b : Nat} (hn : n < 2000) (ha : a < W) (hb : b < W) : ∀ (m w : Nat) (met : Bool), w + m = W →
    WL T [1, 2, 5, 6, 7, 8, 9] false f_ref04_Plans_l12 [(1, .int .i64 n), (2, .cref s.enc), (5, .lst W ((gI W (Gr s)).flatMap intE)), (6, .int .i64 a), (7, .int .i64 b), (8, .bool met), (9, .int .i64 w)] σ
      (fun x e σ' => σ' = σ ∧ x = .exit 4 ∧ get e 1 = .int .i64 n ∧ get e 2 = .cref s.enc ∧ get e 5 = .lst W ((gI W (Gr s)).flatMap intE) ∧ get e 6 = .int .i64 a ∧ get e 7 = .int .i64 b ∧ get e 8 = .bool (metF s n a b m w met))
  | 0, w, met, hw => by
    refine WL_step e_ref04_Plans_l12 ?_
    have h1 : ¬ (w : Int) < s.w := by omega
    simp [-List.length_flatMap, -List.map_take, e_ref04_Plans_r0, e_ref04_Plans_r1, e_ref04_Plans_r2, e_ref04_Plans_r3, e_ref04_Plans_r4, e_ref04_Plans_r5, e_ref04_Plans_r6, e_ref04_Plans_r7, e_ref04_Plans_r8, e_ref04_Plans_r9, e_ref04_Plans_r10, e_ref04_Plans_r11, e_ref04_Plans_r13, e_ref04_Plans_r14, e_ref04_Plans_r15, e_ref04_Plans_r17, e_ref04_Plans_r19, h1, metF]
  | m + 1, w, met, hm => by
    refine WL_step e_ref04_Plans_l12 ?_
    have h1 : (w : Int) < s.w := by omega
    have hw := h.w
    have w1 := w64 (n := (w : Int) + 1) (by omega)
    have q1 := u64w (i := w) (by omega)
    obtain ⟨Q, q2, q3⟩ := bit_of (n := n) (i := w) hn (by omega)
    have h0 : ¬ (w : Int) < 0 := by omega
    have lw : w < W := by omega
    have a0 := g1_at (g := Gr s) lw
    have a1 := g1_at (g := Gr s) ha
    have a2 := g1_at (g := Gr s) hb
    have a3 := @g1_len W (Gr s)
    simp only [metF]
    cases met
    rotate_left
    · have ih := L_met h hW hn ha hb m (w + 1) true (by omega)
      rw [Bool.true_or]
      simp [-List.length_flatMap, -List.map_take, e_ref04_Plans_r0, e_ref04_Plans_r1, e_ref04_Plans_r2, e_ref04_Plans_r3, e_ref04_Plans_r4, e_ref04_Plans_r5, e_ref04_Plans_r6, e_ref04_Plans_r7, e_ref04_Plans_r8, e_ref04_Plans_r9, e_ref04_Plans_r10, e_ref04_Plans_r11, e_ref04_Plans_r13, e_ref04_Plans_r14, e_ref04_Plans_r15, e_ref04_Plans_r17, e_ref04_Plans_r19, h1, w1]
      exact WL.to ih (by simp) rfl fun x e σ' hh => hh
    cases hbt : n.testBit w
    · have ih := L_met h hW hn ha hb m (w + 1) false (by omega)
      rw [hbt] at q3
      simp only [Bool.false_eq_true, if_false] at q3
      rw [Bool.false_and, Bool.or_false]
      simp [-List.length_flatMap, -List.map_take, e_ref04_Plans_r0, e_ref04_Plans_r1, e_ref04_Plans_r2, e_ref04_Plans_r3, e_ref04_Plans_r4, e_ref04_Plans_r5, e_ref04_Plans_r6, e_ref04_Plans_r7, e_ref04_Plans_r8, e_ref04_Plans_r9, e_ref04_Plans_r10, e_ref04_Plans_r11, e_ref04_Plans_r13, e_ref04_Plans_r14, e_ref04_Plans_r15, e_ref04_Plans_r17, e_ref04_Plans_r19, h1, w1, q1, q2, q3, h0]
      exact WL.to ih (by simp) rfl fun x e σ' hh => hh
    rw [hbt] at q3
    simp only [if_true] at q3
    rw [Bool.true_and, Bool.false_or]
    obtain ⟨p1, hp1⟩ : ∃ p, p = decide (Gr s w = Gr s a) := ⟨_, rfl⟩
    obtain ⟨p2, hp2⟩ : ∃ p, p = decide (Gr s w = Gr s b) := ⟨_, rfl⟩
    have e1 : ((Gr s w : Int) == (Gr s a : Int)) = p1 := by rw [qN, hp1]
    have e2 : ((Gr s w : Int) == (Gr s b : Int)) = p2 := by rw [qN, hp2]
    rw [← hp1, ← hp2]
    clear hp1 hp2
    cases p1
    · cases p2
      · have ih := L_met h hW hn ha hb m (w + 1) false (by omega)
        rw [show (false || false) = false from rfl]
        simp [-List.length_flatMap, -List.map_take, e_ref04_Plans_r0, e_ref04_Plans_r1, e_ref04_Plans_r2, e_ref04_Plans_r3, e_ref04_Plans_r4, e_ref04_Plans_r5, e_ref04_Plans_r6, e_ref04_Plans_r7, e_ref04_Plans_r8, e_ref04_Plans_r9, e_ref04_Plans_r10, e_ref04_Plans_r11, e_ref04_Plans_r13, e_ref04_Plans_r14, e_ref04_Plans_r15, e_ref04_Plans_r17, e_ref04_Plans_r19, h1, w1, q1, q2, q3, h0, lw, ha, hb, a0, a1, a2, a3, e1, e2]
        exact WL.to ih (by simp) rfl fun x e σ' hh => hh
      · have ih := L_met h hW hn ha hb m (w + 1) true (by omega)
        rw [show (false || true) = true from rfl]
        simp [-List.length_flatMap, -List.map_take, e_ref04_Plans_r0, e_ref04_Plans_r1, e_ref04_Plans_r2, e_ref04_Plans_r3, e_ref04_Plans_r4, e_ref04_Plans_r5, e_ref04_Plans_r6, e_ref04_Plans_r7, e_ref04_Plans_r8, e_ref04_Plans_r9, e_ref04_Plans_r10, e_ref04_Plans_r11, e_ref04_Plans_r13, e_ref04_Plans_r14, e_ref04_Plans_r15, e_ref04_Plans_r17, e_ref04_Plans_r19, h1, w1, q1, q2, q3, h0, lw, ha, hb, a0, a1, a2, a3, e1, e2]
        exact WL.to ih (by simp) rfl fun x e σ' hh => hh
    · have ih := L_met h hW hn ha hb m (w + 1) true (by omega)
      rw [Bool.true_or]
      simp [-List.length_flatMap, -List.map_take, e_ref04_Plans_r0, e_ref04_Plans_r1, e_ref04_Plans_r2, e_ref04_Plans_r3, e_ref04_Plans_r4, e_ref04_Plans_r5, e_ref04_Plans_r6, e_ref04_Plans_r7, e_ref04_Plans_r8, e_ref04_Plans_r9, e_ref04_Plans_r10, e_ref04_Plans_r11, e_ref04_Plans_r13, e_ref04_Plans_r14, e_ref04_Plans_r15, e_ref04_Plans_r17, e_ref04_Plans_r19, h1, w1, q1, q2, q3, h0, lw, ha, hb, a0, a1, a2, a3, e1, e2]
      exact WL.to ih (by simp) rfl fun x e σ' hh => hh
end Go.Proofs.Ytcjjdaifpboaaaa
