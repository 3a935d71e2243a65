/-
  The law TremorOdds answers true.
-/
import Derived.Test.YticpenoicajakaaLawBets
import Derived.Test.YticpenoicajakaaBase2
set_option linter.unusedVariables false
set_option linter.unusedSimpArgs false
namespace Go.Trem
open Go Go.Abs

def bitAt (c i : Nat) : Bool := decide (c / 2 ^ i % 2 = 1)
def bitsFrom (c : Nat) : Nat → Nat → List Bool
  | _, 0 => []
  | i, m + 1 => bitAt c i :: bitsFrom c (i + 1) m
def courseL (n c : Nat) : List Bool := bitsFrom c 0 n
def facOf (b : Bet) (h : Bool) : Int := if h then b.num else b.den - b.num
def wgt (b : Bet) : List Bool → Int
  | [] => 1
  | h :: t => facOf b h * wgt b t
def sumTo (f : Nat → Int) : Nat → Int
  | 0 => 0
  | k + 1 => sumTo f k + f k
def allB2 : Nat → (List Bool → Int) → Int
  | 0, g => g []
  | n + 1, g => allB2 n (fun l => g (false :: l)) + allB2 n (fun l => g (true :: l))

theorem bitAt_succ (c i : Nat) : bitAt c (i + 1) = bitAt (c / 2) i := by
  unfold bitAt
  rw [Nat.pow_succ, Nat.mul_comm, ← Nat.div_div_eq_div_mul]
theorem bitsFrom_succ (c : Nat) : ∀ (m i : Nat), bitsFrom c (i + 1) m = bitsFrom (c / 2) i m
  | 0, i => rfl
  | m + 1, i => by simp only [bitsFrom, bitAt_succ]; rw [bitsFrom_succ c m (i + 1)]
theorem bitsFrom_len (c : Nat) : ∀ (m i : Nat), (bitsFrom c i m).length = m
  | 0, i => rfl
  | m + 1, i => by simp [bitsFrom, bitsFrom_len c m]
theorem course_succ (n c : Nat) : courseL (n + 1) c = bitAt c 0 :: courseL n (c / 2) := by
  unfold courseL
  simp only [bitsFrom]
  rw [bitsFrom_succ]
theorem course_even (n c : Nat) : courseL (n + 1) (2 * c) = false :: courseL n c := by
  rw [course_succ]
  have h1 : bitAt (2 * c) 0 = false := by simp [bitAt]
  have h2 : 2 * c / 2 = c := by omega
  rw [h1, h2]
theorem course_odd (n c : Nat) : courseL (n + 1) (2 * c + 1) = true :: courseL n c := by
  rw [course_succ]
  have h1 : bitAt (2 * c + 1) 0 = true := by simp [bitAt]
  have h2 : (2 * c + 1) / 2 = c := by omega
  rw [h1, h2]
theorem sumTo_two (f : Nat → Int) : ∀ k, sumTo f (2 * k) = sumTo (fun c => f (2 * c)) k + sumTo (fun c => f (2 * c + 1)) k
  | 0 => rfl
  | k + 1 => by
    have ih := sumTo_two f k
    rw [show 2 * (k + 1) = 2 * k + 1 + 1 by omega]
    simp only [sumTo]
    omega
theorem sumTo_all : ∀ (n : Nat) (g : List Bool → Int), sumTo (fun c => g (courseL n c)) (2 ^ n) = allB2 n g
  | 0, g => by simp [sumTo, allB2, courseL, bitsFrom]
  | n + 1, g => by
    rw [Nat.pow_succ, Nat.mul_comm, sumTo_two]
    simp only [course_even, course_odd, allB2]
    rw [sumTo_all n fun l => g (false :: l), sumTo_all n fun l => g (true :: l)]
theorem all_mul (p : Int) : ∀ (n : Nat) (g : List Bool → Int), allB2 n (fun l => p * g l) = p * allB2 n g
  | 0, g => rfl
  | n + 1, g => by
    simp only [allB2]
    rw [all_mul p n fun l => g (false :: l), all_mul p n fun l => g (true :: l), Int.mul_add]
theorem all_wgt (b : Bet) : ∀ n : Nat, allB2 n (wgt b) = b.den ^ n
  | 0 => by simp [allB2, wgt]
  | n + 1 => by
    simp only [allB2, wgt]
    rw [all_mul, all_mul, all_wgt b n, Int.pow_succ, ← Int.add_mul, Int.mul_comm]
    congr 1
    simp [facOf]

def won (b : Bet) (c : Int) (l : List Bool) : Bool := (caps b c l).any fun n => decide (1000000 * b.odds ≤ n)
def wonW (b : Bet) (c : Int) (l : List Bool) : Int := if won b c l then wgt b l else 0

theorem fac_next {b : Bet} (h : b.ok = true) {c : Int} (h0 : 0 ≤ c) : facOf b false * next b c false + facOf b true * next b c true ≤ b.den * c := by
  rw [bet_iff] at h
  have a2 : 1 * 1 ≤ b.b * b.num := Int.mul_le_mul (by omega) (by omega) (by omega) (by omega)
  have e1 : next b c true ≤ c * (b.b * b.num + b.a * (b.den - b.num)) / (b.b * b.num) := by
    simp only [next, if_true]; omega
  have e2 : next b c false = c * (b.b - b.a) / b.b := by simp [next]
  have e3 : (c * (b.b * b.num + b.a * (b.den - b.num)) / (b.b * b.num)) * (b.b * b.num) ≤ c * (b.b * b.num + b.a * (b.den - b.num)) := Int.ediv_mul_le _ (by omega)
  have e4 : (c * (b.b - b.a) / b.b) * b.b ≤ c * (b.b - b.a) := Int.ediv_mul_le _ (by omega)
  simp only [facOf, Bool.false_eq_true, if_false, if_true, e2]
  generalize hx : c * (b.b - b.a) / b.b = x at *
  generalize hy : next b c true = y at *
  generalize hz : c * (b.b * b.num + b.a * (b.den - b.num)) / (b.b * b.num) = z at *
  have f1 : y * (b.b * b.num) ≤ z * (b.b * b.num) := Int.mul_le_mul_of_nonneg_right e1 (by omega)
  have f2 : (b.den - b.num) * (x * b.b) ≤ (b.den - b.num) * (c * (b.b - b.a)) := Int.mul_le_mul_of_nonneg_left e4 (by omega)
  have f3 : ((b.den - b.num) * x + b.num * y) * b.b ≤ (b.den * c) * b.b := by
    have g1 : ((b.den - b.num) * x + b.num * y) * b.b = (b.den - b.num) * (x * b.b) + y * (b.b * b.num) := by
      rw [Int.add_mul]; congr 1
      · rw [Int.mul_assoc]
      · rw [Int.mul_comm b.num y, Int.mul_assoc, Int.mul_comm b.num b.b]
    have g2 : (b.den - b.num) * (c * (b.b - b.a)) + c * (b.b * b.num + b.a * (b.den - b.num)) = (b.den * c) * b.b := by
      have : ∀ d n c B A : Int, (d - n) * (c * (B - A)) + c * (B * n + A * (d - n)) = (d * c) * B := by
        intro d n c B A
        simp only [Int.mul_sub, Int.sub_mul, Int.mul_add, Int.add_mul]
        simp only [Int.mul_assoc, Int.mul_comm, Int.mul_left_comm]
        omega
      exact this _ _ _ _ _
    rw [g1, ← g2]
    omega
  exact Int.le_of_mul_le_mul_right f3 (by omega)

theorem ville {b : Bet} (h : b.ok = true) : ∀ (n : Nat) (c : Int), 0 ≤ c → c ≤ 1000000000000 → allB2 n (wonW b c) * (1000000 * b.odds) ≤ c * b.den ^ n
  | 0, c, h0, h1 => by
    simp only [allB2, wonW, won, caps, List.any_nil]
    simp
    exact h0
  | n + 1, c, h0, h1 => by
    have hn := (betW h h0 h1).w12
    have hb := h
    rw [bet_iff] at hb
    have hp : 0 < b.den ^ n := Int.pow_pos (by omega)
    have key : ∀ hh : Bool, allB2 n (fun l => wonW b c (hh :: l)) * (1000000 * b.odds) ≤ facOf b hh * next b c hh * b.den ^ n := by
      intro hh
      have hf : 0 ≤ facOf b hh := by unfold facOf; split <;> omega
      have ih := ville h n (next b c hh) (hn hh).1 (hn hh).2
      by_cases hw : 1000000 * b.odds ≤ next b c hh
      · have e : (fun l => wonW b c (hh :: l)) = fun l => facOf b hh * wgt b l := by
          funext l
          simp [wonW, won, caps, hw, wgt]
        rw [e, all_mul, all_wgt, Int.mul_assoc, Int.mul_assoc]
        refine Int.mul_le_mul_of_nonneg_left ?_ hf
        rw [Int.mul_comm]
        exact Int.mul_le_mul_of_nonneg_right hw (by omega)
      · have e : (fun l => wonW b c (hh :: l)) = fun l => facOf b hh * wonW b (next b c hh) l := by
          funext l
          have e1 : won b c (hh :: l) = won b (next b c hh) l := by simp [won, caps, hw]
          simp only [wonW, e1, wgt]
          split <;> simp
        rw [e, all_mul, Int.mul_assoc, Int.mul_assoc]
        exact Int.mul_le_mul_of_nonneg_left ih hf
    have k0 := key false
    have k1 := key true
    have hfn := fac_next h h0
    simp only [allB2]
    rw [Int.add_mul, Int.pow_succ]
    have e : c * (b.den ^ n * b.den) = b.den * c * b.den ^ n := by
      rw [Int.mul_comm (b.den ^ n), ← Int.mul_assoc, Int.mul_comm c]
    rw [e]
    have f : (facOf b false * next b c false + facOf b true * next b c true) * b.den ^ n ≤ b.den * c * b.den ^ n := Int.mul_le_mul_of_nonneg_right hfn (by omega)
    rw [Int.add_mul] at f
    omega

theorem wgt_bound {b : Bet} (h : b.ok = true) (hd : b.den ≤ 20) : ∀ l : List Bool, 0 ≤ wgt b l ∧ wgt b l ≤ 20 ^ l.length
  | [] => by simp [wgt]
  | x :: l => by
    obtain ⟨h1, h2⟩ := wgt_bound h hd l
    rw [bet_iff] at h
    have hf : 0 ≤ facOf b x ∧ facOf b x ≤ 20 := by unfold facOf; split <;> omega
    simp only [wgt, List.length_cons, Int.pow_succ]
    refine ⟨Int.mul_nonneg hf.1 h1, ?_⟩
    rw [Int.mul_comm (20 ^ l.length)]
    exact Int.mul_le_mul hf.2 h2 h1 (by omega)

theorem sumTo_mono {f : Nat → Int} (h : ∀ c, 0 ≤ f c) : ∀ {k m : Nat}, k ≤ m → sumTo f k ≤ sumTo f m := by
  intro k m hkm
  induction m with
  | zero => have : k = 0 := by omega
            subst this; exact Int.le_refl _
  | succ m ih =>
    by_cases hk : k = m + 1
    · subst hk; exact Int.le_refl _
    · have := ih (by omega)
      have := h m
      simp only [sumTo]
      omega
theorem sumTo_le {f g : Nat → Int} (h : ∀ c, f c ≤ g c) : ∀ k, sumTo f k ≤ sumTo g k
  | 0 => Int.le_refl _
  | k + 1 => by
    have := sumTo_le h k
    have := h k
    simp only [sumTo]
    omega
theorem sumTo_nonneg {f : Nat → Int} (h : ∀ c, 0 ≤ f c) (k : Nat) : 0 ≤ sumTo f k := by
  have := sumTo_mono h (Nat.zero_le k)
  simpa [sumTo] using this

theorem pow20 : ∀ {i : Nat}, i ≤ 8 → (1 : Int) ≤ 20 ^ i ∧ (20 : Int) ^ i ≤ 25600000000 := by
  intro i hi
  match i, hi with
  | 0, _ | 1, _ | 2, _ | 3, _ | 4, _ | 5, _ | 6, _ | 7, _ | 8, _ => decide
theorem pow_den {d : Int} (h0 : 0 ≤ d) (h : d ≤ 20) : ∀ i : Nat, 0 ≤ d ^ i ∧ d ^ i ≤ 20 ^ i
  | 0 => by simp
  | i + 1 => by
    obtain ⟨h1, h2⟩ := pow_den h0 h i
    rw [Int.pow_succ, Int.pow_succ]
    exact ⟨Int.mul_nonneg h1 h0, Int.mul_le_mul h2 h h0 (by omega)⟩

theorem part_sum {b : Bet} (h : b.ok = true) (hd : b.den ≤ 20) {n k : Nat} (hk : k ≤ 2 ^ n) :
    0 ≤ sumTo (fun c => wonW b 1000000 (courseL n c)) k ∧ sumTo (fun c => wonW b 1000000 (courseL n c)) k ≤ b.den ^ n := by
  have h1 : ∀ l, 0 ≤ wonW b 1000000 l := by
    intro l
    have := (wgt_bound h hd l).1
    unfold wonW
    split <;> omega
  have h2 : ∀ l, wonW b 1000000 l ≤ wgt b l := by
    intro l
    have := (wgt_bound h hd l).1
    unfold wonW
    split <;> omega
  refine ⟨sumTo_nonneg (fun c => h1 _) k, ?_⟩
  refine Int.le_trans (sumTo_mono (fun c => h1 _) hk) ?_
  refine Int.le_trans (sumTo_le (fun c => h2 _) _) ?_
  rw [sumTo_all n (wgt b), all_wgt]
  exact Int.le_refl _

theorem and_one (a : Nat) : IntKind.i64.wrap ((BitVec.ofInt 64 (a : Int) &&& BitVec.ofInt 64 1).toNat : Int) = ((a % 2 : Nat) : Int) := by
  have h1 : (BitVec.ofInt 64 (a : Int) &&& BitVec.ofInt 64 1).toNat = a % 2 := by
    have e1 : BitVec.ofInt 64 (a : Int) = BitVec.ofNat 64 a := by
      apply BitVec.eq_of_toNat_eq
      simp [BitVec.toNat_ofInt]
    have e2 : BitVec.ofInt 64 1 = BitVec.ofNat 64 1 := by decide
    rw [e1, e2, BitVec.toNat_and]
    simp only [BitVec.toNat_ofNat]
    rw [show (1 % 2 ^ 64) = 1 by decide, Nat.and_one_is_mod]
    omega
  rw [h1]
  have : a % 2 < 2 := Nat.mod_lt _ (by omega)
  exact w64 (by omega)
end Go.Trem
namespace Go.Proofs.Yticpenoicajakaa
open Go Go.Abs Go.Trem
variable {σ : Stack}

theorem and_div (c i : Nat) : IntKind.i64.wrap ((BitVec.ofInt 64 ((c : Int) / 2 ^ i) &&& 1#64).toNat : Int) = (c : Int) / 2 ^ i % 2 := by
  have := and_one (c / 2 ^ i)
  rw [show BitVec.ofInt 64 1 = 1#64 by decide] at this
  push_cast at this
  exact this
theorem and_bin (c i : Nat) : binD .and (.int .i64 ((c : Int) / 2 ^ i)) (.int .i64 1) = some (.int .i64 ((c : Int) / 2 ^ i % 2)) := by
  have h : BitVec.ofInt 64 1 = 1#64 := by decide
  have := and_div c i
  rw [← h] at this
  rw [binD_and]
  exact congrArg (fun x => some (D.int .i64 x)) this
theorem pow2 {n : Nat} (hn : n ≤ 8) : IntKind.u64.wrap (n : Int) = n ∧ IntKind.i64.wrap (2 ^ n) = 2 ^ n ∧ (2 : Int) ^ n ≤ 256 ∧ min n 64 = n := by
  match n, hn with
  | 0, _ | 1, _ | 2, _ | 3, _ | 4, _ | 5, _ | 6, _ | 7, _ | 8, _ => decide
theorem L_whole {b : Bet} (h : b.ok = true) (hd : b.den ≤ 20) {n : Nat} (hn : n ≤ 8) {w0 : Int} : ∀ (m i : Nat), i + m = n →
    WL T [2, 5, 6, 7, 8] false f_law09_TremorOdds_l9 [(2, .cref b.enc), (5, .int .i64 n), (6, .int .i64 w0), (7, .int .i64 (b.den ^ i)), (8, .int .i64 i)] σ
      (fun x e σ' => x = .exit 0 ∧ σ' = σ ∧ get e 2 = .cref b.enc ∧ get e 5 = .int .i64 n ∧ get e 6 = .int .i64 w0 ∧ get e 7 = .int .i64 (b.den ^ n))
  | 0, i, hi => by
    refine WL_step e_law09_TremorOdds_l9 ?_
    have : i = n := by omega
    subst this
    simp [-List.length_flatMap, -List.map_take, e_law09_TremorOdds_r0, e_law09_TremorOdds_r1, e_law09_TremorOdds_r2, e_law09_TremorOdds_r3, e_law09_TremorOdds_r4, e_law09_TremorOdds_r5, e_law09_TremorOdds_r6, e_law09_TremorOdds_r7, e_law09_TremorOdds_r8, e_law09_TremorOdds_r10, e_law09_TremorOdds_r11, e_law09_TremorOdds_r12, e_law09_TremorOdds_r13, e_law09_TremorOdds_r14, e_law09_TremorOdds_r15, e_law09_TremorOdds_r16, e_law09_TremorOdds_r17, e_law09_TremorOdds_r18, e_law09_TremorOdds_r19, e_law09_TremorOdds_r20, e_law09_TremorOdds_r21, e_law09_TremorOdds_r23, e_law09_TremorOdds_r24, e_law09_TremorOdds_r25, e_law09_TremorOdds_r26, e_law09_TremorOdds_r27, e_law09_TremorOdds_r28, e_law09_TremorOdds_r30]
  | m + 1, i, hi => by
    refine WL_step e_law09_TremorOdds_l9 ?_
    have g1 : i < n := by omega
    have hb := h
    rw [bet_iff] at hb
    have p1 := pow_den (d := b.den) (by omega) hd (i + 1)
    have p2 := pow20 (i := i + 1) (by omega)
    have ih := L_whole h hd hn (w0 := w0) m (i + 1) (by omega)
    rw [Int.pow_succ] at p1 ih
    have w1 := w64 (n := b.den ^ i * b.den) (by omega)
    have w2 := w64 (n := (i : Int) + 1) (by omega)
    simp [-List.length_flatMap, -List.map_take, e_law09_TremorOdds_r0, e_law09_TremorOdds_r1, e_law09_TremorOdds_r2, e_law09_TremorOdds_r3, e_law09_TremorOdds_r4, e_law09_TremorOdds_r5, e_law09_TremorOdds_r6, e_law09_TremorOdds_r7, e_law09_TremorOdds_r8, e_law09_TremorOdds_r10, e_law09_TremorOdds_r11, e_law09_TremorOdds_r12, e_law09_TremorOdds_r13, e_law09_TremorOdds_r14, e_law09_TremorOdds_r15, e_law09_TremorOdds_r16, e_law09_TremorOdds_r17, e_law09_TremorOdds_r18, e_law09_TremorOdds_r19, e_law09_TremorOdds_r20, e_law09_TremorOdds_r21, e_law09_TremorOdds_r23, e_law09_TremorOdds_r24, e_law09_TremorOdds_r25, e_law09_TremorOdds_r26, e_law09_TremorOdds_r27, e_law09_TremorOdds_r28, e_law09_TremorOdds_r30, g1, w1, w2]
    exact WL.to ih (by simp) rfl fun x e σ' hh => hh

theorem L_course {b : Bet} (h : b.ok = true) (hd : b.den ≤ 20) {n c : Nat} (hn : n ≤ 8) {w0 wh : Int} : ∀ (m i : Nat) (acc : List Bool) (w : Int), i + m = n → acc.length = i → 0 ≤ w → w ≤ 20 ^ i →
    WL T [2, 5, 6, 7, 9, 10, 11, 12] false f_law09_TremorOdds_l22 [(2, .cref b.enc), (5, .int .i64 n), (6, .int .i64 w0), (7, .int .i64 wh), (9, .int .i64 c), (10, .sl σ.length 0 i 0 i 1), (11, .int .i64 w), (12, .int .i64 i)] ([.cells i (acc.flatMap boolE)] :: σ)
      (fun x e σ' => x = .exit 4 ∧ get e 2 = .cref b.enc ∧ get e 5 = .int .i64 n ∧ get e 6 = .int .i64 w0 ∧ get e 7 = .int .i64 wh ∧ get e 9 = .int .i64 c ∧ get e 10 = .sl σ.length 0 n 0 n 1 ∧ get e 11 = .int .i64 (w * wgt b (bitsFrom c i m)) ∧
        σ' = [.cells n ((acc ++ bitsFrom c i m).flatMap boolE)] :: σ)
  | 0, i, acc, w, hi, ha, hw0, hw => by
    refine WL_step e_law09_TremorOdds_l22 ?_
    have : i = n := by omega
    subst this
    simp [-List.length_flatMap, -List.map_take, e_law09_TremorOdds_r0, e_law09_TremorOdds_r1, e_law09_TremorOdds_r2, e_law09_TremorOdds_r3, e_law09_TremorOdds_r4, e_law09_TremorOdds_r5, e_law09_TremorOdds_r6, e_law09_TremorOdds_r7, e_law09_TremorOdds_r8, e_law09_TremorOdds_r10, e_law09_TremorOdds_r11, e_law09_TremorOdds_r12, e_law09_TremorOdds_r13, e_law09_TremorOdds_r14, e_law09_TremorOdds_r15, e_law09_TremorOdds_r16, e_law09_TremorOdds_r17, e_law09_TremorOdds_r18, e_law09_TremorOdds_r19, e_law09_TremorOdds_r20, e_law09_TremorOdds_r21, e_law09_TremorOdds_r23, e_law09_TremorOdds_r24, e_law09_TremorOdds_r25, e_law09_TremorOdds_r26, e_law09_TremorOdds_r27, e_law09_TremorOdds_r28, e_law09_TremorOdds_r30, bitsFrom, wgt]
  | m + 1, i, acc, w, hi, ha, hw0, hw => by
    refine WL_step e_law09_TremorOdds_l22 ?_
    have g1 : i < n := by omega
    have hb := h
    rw [bet_iff] at hb
    have hf : 0 ≤ facOf b (bitAt c i) ∧ facOf b (bitAt c i) ≤ 20 := by unfold facOf; split <;> omega
    have hw1 : 0 ≤ w * facOf b (bitAt c i) := Int.mul_nonneg hw0 hf.1
    have hw2 : w * facOf b (bitAt c i) ≤ 20 ^ (i + 1) := by
      rw [Int.pow_succ]
      exact Int.mul_le_mul hw hf.2 hf.1 (by have := pow20 (i := i) (by omega); omega)
    have p2 := pow20 (i := i + 1) (by omega)
    have ih := L_course (c := c) h hd hn (w0 := w0) (wh := wh) m (i + 1) (acc ++ [bitAt c i]) (w * facOf b (bitAt c i)) (by omega) (by simp [ha]) hw1 hw2
    have w1 := w64 (n := w * facOf b (bitAt c i)) (by omega)
    have w2 := w64 (n := (i : Int) + 1) (by omega)
    have w3 : IntKind.u64.wrap (i : Int) = i := by
      have : (i : Int) % 18446744073709551616 = i := by omega
      simpa [IntKind.wrap, IntKind.bits, IntKind.signed] using this
    have w4 := w64 (n := b.den - b.num) (by omega)
    have s1 : (c : Int).fdiv (2 ^ (min i 64)) = ((c / 2 ^ i : Nat) : Int) := by
      rw [Nat.min_eq_left (by omega), Int.fdiv_eq_ediv_of_nonneg _ (Int.le_of_lt (Int.pow_pos (by omega)))]
      norm_cast
    have a1 := flat_len (f := boolE) (w := 1) (fun _ => rfl) acc
    have a2 := k_self (f := boolE) (w := 1) (fun _ => rfl) acc
    rw [ha] at a1 a2
    simp only [Nat.mul_one] at a1 a2
    have r1 : i + 1 ≤ room := by unfold room; omega
    have hneg : ¬ (i : Int) < 0 := by omega
    have s2 := and_bin c i
    by_cases hbit : c / 2 ^ i % 2 = 1
    · have hb1 : bitAt c i = true := by simp [bitAt, hbit]
      have hbit' : (c : Int) / 2 ^ i % 2 = 1 := by exact_mod_cast hbit
      rw [hbit'] at s2
      rw [hb1] at w1 ih
      simp only [facOf, if_true] at w1 ih
      simp [-List.length_flatMap, -List.map_take, e_law09_TremorOdds_r0, e_law09_TremorOdds_r1, e_law09_TremorOdds_r2, e_law09_TremorOdds_r3, e_law09_TremorOdds_r4, e_law09_TremorOdds_r5, e_law09_TremorOdds_r6, e_law09_TremorOdds_r7, e_law09_TremorOdds_r8, e_law09_TremorOdds_r10, e_law09_TremorOdds_r11, e_law09_TremorOdds_r12, e_law09_TremorOdds_r13, e_law09_TremorOdds_r14, e_law09_TremorOdds_r15, e_law09_TremorOdds_r16, e_law09_TremorOdds_r17, e_law09_TremorOdds_r18, e_law09_TremorOdds_r19, e_law09_TremorOdds_r20, e_law09_TremorOdds_r21, e_law09_TremorOdds_r23, e_law09_TremorOdds_r24, e_law09_TremorOdds_r25, e_law09_TremorOdds_r26, e_law09_TremorOdds_r27, e_law09_TremorOdds_r28, e_law09_TremorOdds_r30, g1, w1, w2, w3, s1, s2, a1, a2, r1, hneg, IntKind.bits, -binD_and]
      refine WL.to ih (by simp) (by simp) fun x e σ' hh => ?_
      simp only [bitsFrom, wgt, hb1, facOf, if_true]
      simpa [Int.mul_assoc] using hh
    · have hb1 : bitAt c i = false := by simp [bitAt, hbit]
      have hbit0 : c / 2 ^ i % 2 = 0 := by omega
      have hbit' : (c : Int) / 2 ^ i % 2 = 0 := by exact_mod_cast hbit0
      rw [hbit'] at s2
      rw [hb1] at w1 ih
      simp only [facOf, Bool.false_eq_true, if_false] at w1 ih
      simp [-List.length_flatMap, -List.map_take, e_law09_TremorOdds_r0, e_law09_TremorOdds_r1, e_law09_TremorOdds_r2, e_law09_TremorOdds_r3, e_law09_TremorOdds_r4, e_law09_TremorOdds_r5, e_law09_TremorOdds_r6, e_law09_TremorOdds_r7, e_law09_TremorOdds_r8, e_law09_TremorOdds_r10, e_law09_TremorOdds_r11, e_law09_TremorOdds_r12, e_law09_TremorOdds_r13, e_law09_TremorOdds_r14, e_law09_TremorOdds_r15, e_law09_TremorOdds_r16, e_law09_TremorOdds_r17, e_law09_TremorOdds_r18, e_law09_TremorOdds_r19, e_law09_TremorOdds_r20, e_law09_TremorOdds_r21, e_law09_TremorOdds_r23, e_law09_TremorOdds_r24, e_law09_TremorOdds_r25, e_law09_TremorOdds_r26, e_law09_TremorOdds_r27, e_law09_TremorOdds_r28, e_law09_TremorOdds_r30, g1, w1, w2, w3, w4, s1, s2, a1, a2, r1, hneg, IntKind.bits, -binD_and]
      refine WL.to ih (by simp) (by simp) fun x e σ' hh => ?_
      simp only [bitsFrom, wgt, hb1, facOf, Bool.false_eq_true, if_false]
      simpa [Int.mul_assoc] using hh

theorem won_idx {b : Bet} {l : List Bool} : (0 ≤ idxOf (wins b) (caps b 1000000 l)) ↔ won b 1000000 l = true := by
  have h := idxOf_neg (p := wins b) (l := caps b 1000000 l)
  have e : won b 1000000 l = (caps b 1000000 l).any (wins b) := rfl
  rw [e]
  cases hc : (caps b 1000000 l).any (wins b)
  · have := h.2 hc
    simp; omega
  · have : ¬ idxOf (wins b) (caps b 1000000 l) < 0 := fun h' => by have := h.1 h'; rw [hc] at this; cases this
    simp; omega
theorem idxOf_lt {α : Type} {p : α → Bool} : ∀ l : List α, idxOf p l < l.length ∨ l = []
  | [] => .inr rfl
  | x :: l => by
    left
    simp only [idxOf, List.length_cons]
    rcases idxOf_lt (p := p) l with h | rfl
    · split
      · omega
      · split <;> omega
    · simp [idxOf]; split <;> omega

theorem L_odds {b : Bet} (h : b.ok = true) (hd : b.den ≤ 20) {n : Nat} (hn : n ≤ 8) (hn1 : 1 ≤ n) (hσ : σ ≠ []) : ∀ (m c : Nat), c + m = 2 ^ n →
    WL T [2, 5, 6, 7, 9] true f_law09_TremorOdds_l29 [(2, .cref b.enc), (5, .int .i64 n), (6, .int .i64 (sumTo (fun c => wonW b 1000000 (courseL n c)) c)), (7, .int .i64 (b.den ^ n)), (9, .int .i64 c)] σ
      (fun x e σ' => x = .exit 2 ∧ σ' = σ ∧ get e 2 = .cref b.enc ∧ get e 6 = .int .i64 (sumTo (fun c => wonW b 1000000 (courseL n c)) (2 ^ n)) ∧ get e 7 = .int .i64 (b.den ^ n))
  | 0, c, hc => by
    refine WL_stepS e_law09_TremorOdds_l29 ?_
    have : c = 2 ^ n := by omega
    subst this
    have hw := pow2 hn
    have hneg : ¬ (n : Int) < 0 := by omega
    simp [-List.length_flatMap, -List.map_take, e_law09_TremorOdds_r0, e_law09_TremorOdds_r1, e_law09_TremorOdds_r2, e_law09_TremorOdds_r3, e_law09_TremorOdds_r4, e_law09_TremorOdds_r5, e_law09_TremorOdds_r6, e_law09_TremorOdds_r7, e_law09_TremorOdds_r8, e_law09_TremorOdds_r10, e_law09_TremorOdds_r11, e_law09_TremorOdds_r12, e_law09_TremorOdds_r13, e_law09_TremorOdds_r14, e_law09_TremorOdds_r15, e_law09_TremorOdds_r16, e_law09_TremorOdds_r17, e_law09_TremorOdds_r18, e_law09_TremorOdds_r19, e_law09_TremorOdds_r20, e_law09_TremorOdds_r21, e_law09_TremorOdds_r23, e_law09_TremorOdds_r24, e_law09_TremorOdds_r25, e_law09_TremorOdds_r26, e_law09_TremorOdds_r27, e_law09_TremorOdds_r28, e_law09_TremorOdds_r30, IntKind.bits, hw, hneg]
  | m + 1, c, hc => by
    refine WL_stepS e_law09_TremorOdds_l29 ?_
    have hw := pow2 hn
    have hneg : ¬ (n : Int) < 0 := by omega
    have hlt : c < 2 ^ n := by omega
    have hlt' : (c : Int) < 2 ^ n := by exact_mod_cast hlt
    simp [-List.length_flatMap, -List.map_take, e_law09_TremorOdds_r0, e_law09_TremorOdds_r1, e_law09_TremorOdds_r2, e_law09_TremorOdds_r3, e_law09_TremorOdds_r4, e_law09_TremorOdds_r5, e_law09_TremorOdds_r6, e_law09_TremorOdds_r7, e_law09_TremorOdds_r8, e_law09_TremorOdds_r10, e_law09_TremorOdds_r11, e_law09_TremorOdds_r12, e_law09_TremorOdds_r13, e_law09_TremorOdds_r14, e_law09_TremorOdds_r15, e_law09_TremorOdds_r16, e_law09_TremorOdds_r17, e_law09_TremorOdds_r18, e_law09_TremorOdds_r19, e_law09_TremorOdds_r20, e_law09_TremorOdds_r21, e_law09_TremorOdds_r23, e_law09_TremorOdds_r24, e_law09_TremorOdds_r25, e_law09_TremorOdds_r26, e_law09_TremorOdds_r27, e_law09_TremorOdds_r28, e_law09_TremorOdds_r30, IntKind.bits, hw, hneg, hlt']
    refine WL.to (L_course (σ := σ) h hd hn (c := c) (w0 := sumTo (fun c => wonW b 1000000 (courseL n c)) c) (wh := b.den ^ n) n 0 [] 1 (by omega) rfl (by omega) (by simp)) (by simp) (by simp) ?_
    rintro x e σ' ⟨rfl, e2, e5, e6, e7, e9, e10, e11, rfl⟩
    simp only [List.nil_append, Int.one_mul] at e11 ⊢
    have hcl : bitsFrom c 0 n = courseL n c := rfl
    rw [hcl] at e11 ⊢
    have hlen : (courseL n c).length = n := bitsFrom_len c n 0
    have hfz := fun σ (hσ : σ ≠ []) => @k_frz _ boolE 1 (fun _ => rfl) (fun x => by simp) (courseL n c) 0 n [.cells n ((courseL n c).flatMap boolE)] σ hσ rfl
    have hW := fun σ (hσ : σ ≠ []) => @C_Won σ b (courseL n c) (by omega) hσ
    have h20 : ¬ 2000 < n := by omega
    rw [hlen] at hfz
    simp only [h, hlen, h20, if_true, if_false] at hW
    have ps := part_sum h hd (n := n) (k := c + 1) (by omega)
    have ps0 := part_sum h hd (n := n) (k := c) (by omega)
    have p1 := pow_den (d := b.den) (by rw [bet_iff] at h; omega) hd n
    have p2 := pow20 (i := n) hn
    have w1 := w64 (n := (c : Int) + 1) (by omega)
    have w2 := w64 (n := (n : Int) - 1) (by omega)
    have ih := L_odds h hd hn hn1 hσ m (c + 1) (by omega)
    have hwb := wgt_bound h hd (courseL n c)
    have hs : sumTo (fun c => wonW b 1000000 (courseL n c)) (c + 1) = sumTo (fun c => wonW b 1000000 (courseL n c)) c + wonW b 1000000 (courseL n c) := rfl
    by_cases c1 : won b 1000000 (courseL n c) = true
    · have c2 := won_idx.2 c1
      have c3 := idxOf_lt (p := wins b) (caps b 1000000 (courseL n c))
      rw [caps_len, hlen] at c3
      have c4 : idxOf (wins b) (caps b 1000000 (courseL n c)) < n := by
        rcases c3 with c3 | c3
        · exact c3
        · have := congrArg List.length c3
          rw [caps_len, hlen] at this
          simp at this; omega
      simp only [c2, if_true] at hW
      have c5 : inn (idxOf (wins b) (caps b 1000000 (courseL n c))) 0 (n - 1) = true := by rw [inn_iff]; omega
      have hv : wonW b 1000000 (courseL n c) = wgt b (courseL n c) := by simp [wonW, c1]
      rw [hs, hv] at ih ps
      have w3 := w64 (n := sumTo (fun c => wonW b 1000000 (courseL n c)) c + wgt b (courseL n c)) (by omega)
      simp [-List.length_flatMap, -List.map_take, e_law09_TremorOdds_r23, e_law09_TremorOdds_r24, e_law09_TremorOdds_r25, e_law09_TremorOdds_r26, e_law09_TremorOdds_r27, e_law09_TremorOdds_r28, e2, e5, e6, e7, e9, e10, e11, hfz, hσ, C_BetL, hW, C_In, w1, w2, w3, c5]
      exact WL.to ih (by simp) rfl fun x e σ' hh => hh
    · have c2 : ¬ 0 ≤ idxOf (wins b) (caps b 1000000 (courseL n c)) := fun hh => c1 (won_idx.1 hh)
      simp only [c2, if_false] at hW
      have hv : wonW b 1000000 (courseL n c) = 0 := by simp [wonW, c1]
      rw [hs, hv, Int.add_zero] at ih
      simp [-List.length_flatMap, -List.map_take, e_law09_TremorOdds_r23, e_law09_TremorOdds_r24, e_law09_TremorOdds_r25, e_law09_TremorOdds_r26, e_law09_TremorOdds_r27, e_law09_TremorOdds_r28, e2, e5, e6, e7, e9, e10, e11, hfz, hσ, C_BetL, hW, C_In, w1, w2]
      exact WL.to ih (by simp) rfl fun x e σ' hh => hh

theorem law_Odds {b : Bet} {tk : Int} (ht : 0 ≤ tk ∧ tk ≤ 255) (hσ : σ ≠ []) :
    lim T (.call false i_law09_TremorOdds [.agg [.int .i64 b.num, .int .i64 b.den, .int .i64 b.a, .int .i64 b.b, .int .i64 b.odds], .int .u8 tk] σ) = some (.val (.bool true) σ) := by
  refine call_of T_law09_TremorOdds e_law09_TremorOdds rfl ?_
  cases c1 : b.ok
  · simp [-List.length_flatMap, -List.map_take, e_law09_TremorOdds_r0, e_law09_TremorOdds_r1, e_law09_TremorOdds_r2, e_law09_TremorOdds_r3, e_law09_TremorOdds_r4, e_law09_TremorOdds_r5, e_law09_TremorOdds_r6, e_law09_TremorOdds_r7, e_law09_TremorOdds_r8, e_law09_TremorOdds_r10, e_law09_TremorOdds_r11, e_law09_TremorOdds_r12, e_law09_TremorOdds_r13, e_law09_TremorOdds_r14, e_law09_TremorOdds_r15, e_law09_TremorOdds_r16, e_law09_TremorOdds_r17, e_law09_TremorOdds_r18, e_law09_TremorOdds_r19, e_law09_TremorOdds_r20, e_law09_TremorOdds_r21, e_law09_TremorOdds_r23, e_law09_TremorOdds_r24, e_law09_TremorOdds_r25, e_law09_TremorOdds_r26, e_law09_TremorOdds_r27, e_law09_TremorOdds_r28, e_law09_TremorOdds_r30, C_RightBet, c1, C_awake]
  by_cases c2 : 20 < b.den
  · simp [-List.length_flatMap, -List.map_take, e_law09_TremorOdds_r0, e_law09_TremorOdds_r1, e_law09_TremorOdds_r2, e_law09_TremorOdds_r3, e_law09_TremorOdds_r4, e_law09_TremorOdds_r5, e_law09_TremorOdds_r6, e_law09_TremorOdds_r7, e_law09_TremorOdds_r8, e_law09_TremorOdds_r10, e_law09_TremorOdds_r11, e_law09_TremorOdds_r12, e_law09_TremorOdds_r13, e_law09_TremorOdds_r14, e_law09_TremorOdds_r15, e_law09_TremorOdds_r16, e_law09_TremorOdds_r17, e_law09_TremorOdds_r18, e_law09_TremorOdds_r19, e_law09_TremorOdds_r20, e_law09_TremorOdds_r21, e_law09_TremorOdds_r23, e_law09_TremorOdds_r24, e_law09_TremorOdds_r25, e_law09_TremorOdds_r26, e_law09_TremorOdds_r27, e_law09_TremorOdds_r28, e_law09_TremorOdds_r30, C_RightBet, c1, c2, C_awake]
  obtain ⟨n, hn, hn1, hn8⟩ : ∃ n : Nat, 1 + tk.tmod 8 = n ∧ 1 ≤ n ∧ n ≤ 8 := by
    have h0 : 0 ≤ tk.tmod 8 := Int.tmod_nonneg _ ht.1
    have h1 : tk.tmod 8 < 8 := Int.tmod_lt_of_pos _ (by omega)
    exact ⟨(1 + tk.tmod 8).toNat, by omega, by omega, by omega⟩
  have w1 := w64 (n := tk) (by omega)
  have w2 := w64 (n := (n : Int)) (by omega)
  have hd : b.den ≤ 20 := by omega
  simp [-List.length_flatMap, -List.map_take, e_law09_TremorOdds_r0, e_law09_TremorOdds_r1, e_law09_TremorOdds_r2, e_law09_TremorOdds_r3, e_law09_TremorOdds_r4, e_law09_TremorOdds_r5, e_law09_TremorOdds_r6, e_law09_TremorOdds_r7, e_law09_TremorOdds_r8, e_law09_TremorOdds_r10, e_law09_TremorOdds_r11, e_law09_TremorOdds_r12, e_law09_TremorOdds_r13, e_law09_TremorOdds_r14, e_law09_TremorOdds_r15, e_law09_TremorOdds_r16, e_law09_TremorOdds_r17, e_law09_TremorOdds_r18, e_law09_TremorOdds_r19, e_law09_TremorOdds_r20, e_law09_TremorOdds_r21, e_law09_TremorOdds_r23, e_law09_TremorOdds_r24, e_law09_TremorOdds_r25, e_law09_TremorOdds_r26, e_law09_TremorOdds_r27, e_law09_TremorOdds_r28, e_law09_TremorOdds_r30, C_RightBet, c1, c2, w1, w2, hn]
  refine WL.to (L_whole (σ := [] :: σ) c1 hd hn8 (w0 := 0) n 0 (by omega)) (by simp) rfl ?_
  rintro x e σ' ⟨rfl, rfl, e2, e5, e6, e7⟩
  simp [-List.length_flatMap, -List.map_take, e_law09_TremorOdds_r10, e2, e5, e6, e7]
  refine WL.to (L_odds (σ := [] :: σ) c1 hd hn8 hn1 (by simp) (2 ^ n) 0 (by omega)) (by simp [sumTo]) rfl ?_
  rintro x e σ' ⟨rfl, rfl, e2, e6, e7⟩
  have hv := ville c1 n 1000000 (by omega) (by omega)
  rw [← sumTo_all] at hv
  have ps := part_sum c1 hd (n := n) (k := 2 ^ n) (Nat.le_refl _)
  generalize sumTo (fun c => wonW b 1000000 (courseL n c)) (2 ^ n) = S at *
  have p1 := pow_den (d := b.den) (by rw [bet_iff] at c1; omega) hd n
  have p2 := pow20 (i := n) hn8
  have hb := c1
  rw [bet_iff] at hb
  have q1 : 0 ≤ S * b.odds := Int.mul_nonneg ps.1 (by omega)
  have q2 : S * b.odds ≤ 25600000000 * 1000 := Int.mul_le_mul (by omega) (by omega) (by omega) (by omega)
  have w3 := w64 (n := S * b.odds) (by omega)
  have q3 : S * b.odds ≤ b.den ^ n := by
    have : S * (1000000 * b.odds) = 1000000 * (S * b.odds) := by rw [← Int.mul_assoc, Int.mul_comm S, Int.mul_assoc]
    omega
  simp [-List.length_flatMap, -List.map_take, e_law09_TremorOdds_r30, e2, e6, e7, w3, q3, C_awake]

theorem go_TremorOdds (x0 x1 : D) (t0 : tyBet.hasV x0) (t1 : (Ty.int .u8).hasV x1) :
    ∃ σ', lim T (.call false i_law09_TremorOdds [x0, x1] [[]]) = some (.val (.bool true) σ') := by
  obtain ⟨b, rfl, _⟩ := bet_of t0
  obtain ⟨t, rfl, ht⟩ := u8_of t1
  exact ⟨_, law_Odds ht (by simp)⟩
end Go.Proofs.Yticpenoicajakaa
