/-
  Bets and injections: of the program. Lists of numbers compared.
-/
import Derived.Test.YticpenoicajakaaGreatK9
set_option linter.unusedVariables false
set_option linter.unusedSimpArgs false
namespace Go.Trem
open Go Go.Abs

def Bet.ok (b : Bet) : Bool := inn b.den 2 1000 && (inn b.num 1 (b.den - 1) && (inn b.b 1 1000 && (inn b.a 0 b.b && inn b.odds 2 1000)))
def next (b : Bet) (c : Int) (hit : Bool) : Int := if hit then min (c * (b.b * b.num + b.a * (b.den - b.num)) / (b.b * b.num)) 1000000000000 else c * (b.b - b.a) / b.b
def caps (b : Bet) : Int → List Bool → List Int
  | _, [] => []
  | c, h :: t => next b c h :: caps b (next b c h) t

theorem bet_iff {b : Bet} : b.ok = true ↔ (2 ≤ b.den ∧ b.den ≤ 1000) ∧ (1 ≤ b.num ∧ b.num ≤ b.den - 1) ∧ (1 ≤ b.b ∧ b.b ≤ 1000) ∧ (0 ≤ b.a ∧ b.a ≤ b.b) ∧ 2 ≤ b.odds ∧ b.odds ≤ 1000 := by
  simp only [Bet.ok, Bool.and_eq_true, inn_iff]

structure BetW (b : Bet) (c : Int) : Prop where
  w1 : IntKind.i64.wrap (b.b * b.num) = b.b * b.num
  w2 : IntKind.i64.wrap (b.den - b.num) = b.den - b.num
  w3 : IntKind.i64.wrap (b.a * (b.den - b.num)) = b.a * (b.den - b.num)
  w4 : IntKind.i64.wrap (b.b * b.num + b.a * (b.den - b.num)) = b.b * b.num + b.a * (b.den - b.num)
  w5 : IntKind.i64.wrap (c * (b.b * b.num + b.a * (b.den - b.num))) = c * (b.b * b.num + b.a * (b.den - b.num))
  w6 : IntKind.i64.wrap ((c * (b.b * b.num + b.a * (b.den - b.num))).tdiv (b.b * b.num)) = c * (b.b * b.num + b.a * (b.den - b.num)) / (b.b * b.num)
  w7 : b.b * b.num ≠ 0
  w8 : IntKind.i64.wrap (b.b - b.a) = b.b - b.a
  w9 : IntKind.i64.wrap (c * (b.b - b.a)) = c * (b.b - b.a)
  w10 : IntKind.i64.wrap ((c * (b.b - b.a)).tdiv b.b) = c * (b.b - b.a) / b.b
  w11 : b.b ≠ 0
  w12 : ∀ h, 0 ≤ next b c h ∧ next b c h ≤ 1000000000000
  w13 : min (c * (b.b - b.a) / b.b) 1000000000000 = c * (b.b - b.a) / b.b

theorem betW {b : Bet} (h : b.ok = true) {c : Int} (h0 : 0 ≤ c) (h1 : c ≤ 1000000000000) : BetW b c := by
  rw [bet_iff] at h
  have a1 : b.b * b.num ≤ 1000 * 1000 := Int.mul_le_mul (by omega) (by omega) (by omega) (by omega)
  have a2 : 1 * 1 ≤ b.b * b.num := Int.mul_le_mul (by omega) (by omega) (by omega) (by omega)
  have a3 : b.a * (b.den - b.num) ≤ 1000 * 1000 := Int.mul_le_mul (by omega) (by omega) (by omega) (by omega)
  have a4 : 0 ≤ b.a * (b.den - b.num) := Int.mul_nonneg (by omega) (by omega)
  have a5 : c * (b.b - b.a) ≤ c * b.b := Int.mul_le_mul_of_nonneg_left (by omega) h0
  have a6 : c * b.b ≤ 1000000000000 * 1000 := Int.mul_le_mul h1 (by omega) (by omega) (by omega)
  have a7 : 0 ≤ c * (b.b - b.a) := Int.mul_nonneg h0 (by omega)
  have d1 : b.b * b.num ≠ 0 := by omega
  have e3 : c * (b.b - b.a) / b.b ≤ c := by
    have := Int.ediv_le_ediv (show 0 < b.b by omega) a5
    rwa [Int.mul_ediv_cancel _ (by omega)] at this
  have e4 : 0 ≤ c * (b.b - b.a) / b.b := Int.ediv_nonneg a7 (by omega)
  have w8 := w64 (n := b.b - b.a) (by omega)
  have w9 := w64 (n := c * (b.b - b.a)) (by omega)
  have t2 : (c * (b.b - b.a)).tdiv b.b = c * (b.b - b.a) / b.b := Int.tdiv_eq_ediv_of_nonneg a7
  have w10 := w64 (n := c * (b.b - b.a) / b.b) (by omega)
  have w2 := w64 (n := b.den - b.num) (by omega)
  have b1 : c * (b.b * b.num + b.a * (b.den - b.num)) ≤ 1000000000000 * 2000000 := Int.mul_le_mul h1 (by omega) (by omega) (by omega)
  have b2 : 0 ≤ c * (b.b * b.num + b.a * (b.den - b.num)) := Int.mul_nonneg h0 (by omega)
  have t1 : (c * (b.b * b.num + b.a * (b.den - b.num))).tdiv (b.b * b.num) = c * (b.b * b.num + b.a * (b.den - b.num)) / (b.b * b.num) := Int.tdiv_eq_ediv_of_nonneg b2
  have e1 : 0 ≤ c * (b.b * b.num + b.a * (b.den - b.num)) / (b.b * b.num) := Int.ediv_nonneg b2 (by omega)
  have e2 : c * (b.b * b.num + b.a * (b.den - b.num)) / (b.b * b.num) ≤ c * (b.b * b.num + b.a * (b.den - b.num)) := Int.ediv_le_self _ b2
  refine ⟨w64 (by omega), w2, w64 (by omega), w64 (by omega), w64 (by omega), ?_, d1, w8, w9, ?_, by omega, ?_, by omega⟩
  · rw [t1]; exact w64 (by omega)
  · rw [t2]; exact w10
  · intro h
    unfold next
    cases h
    · simp only [Bool.false_eq_true, if_false]; omega
    · simp only [if_true]; omega

/-- What may be injected. -/
def injL (k : Int → Int) (ramp : Int) : List Int → List Int → Option Int → List Int
  | p :: ps, c :: cs, none => (p * k c / 1000) :: injL k ramp ps cs (some (p * k c / 1000))
  | p :: ps, c :: cs, some q => min (p * k c / 1000) (q + ramp) :: injL k ramp ps cs (some (min (p * k c / 1000) (q + ramp)))
  | _, _, _ => []
def keepOf (k0 k1 k2 : Int) (c : Int) : Int := if c = 0 then k0 else if c = 1 then k1 else k2
def keepOk (k0 k1 k2 : Int) : Bool := decide (k0 ≤ 1000) && (decide (k1 ≤ k0) && (decide (k2 ≤ k1) && decide (0 ≤ k2)))
def amtOk (n : Int) : Bool := inn n 0 1000000000
def planOk (plan cols : List Int) (k0 k1 k2 ramp : Int) : Bool := allB plan amtOk && (decide (cols.length = plan.length) && (allB cols (fun c => decide (c ≤ 2)) && (amtOk ramp && keepOk k0 k1 k2)))

theorem int_set {o : List Int} {i : Nat} (hi : i < o.length) (v : Int) : (o.flatMap intE).take i ++ (.int .i64 v :: (o.flatMap intE).drop (i + 1)) = (o.set i v).flatMap intE := by
  induction o generalizing i with
  | nil => simp at hi
  | cons a o ih =>
    cases i with
    | zero => simp
    | succ i => simp at hi; simpa using ih hi
theorem int_drop {o : List Int} {i : Nat} {x : Int} (h : o[i]? = some x) : (o.flatMap intE).drop i = .int .i64 x :: (o.flatMap intE).drop (i + 1) := by
  induction o generalizing i with
  | nil => simp at h
  | cons a o ih =>
    cases i with
    | zero => simp at h; subst h; simp
    | succ i => simp at h; simpa using ih h
theorem zeros_int (n : Nat) : ((List.range n).flatMap fun _ => [D.int .i64 0]) = (List.replicate n (0 : Int)).flatMap intE := by
  induction n with
  | zero => rfl
  | succ n ih => rw [List.range_succ, List.flatMap_append, ih, List.replicate_succ', List.flatMap_append]; rfl
end Go.Trem
namespace Go.Proofs.YticpenoicajakaaGreat
open Go Go.Abs Go.Trem
variable {σ : Stack}

theorem C_betok {n d a b o : Int} : lim T (.call false i_tremor_Bet_valid [.agg [.int .i64 n, .int .i64 d, .int .i64 a, .int .i64 b, .int .i64 o]] σ) = some (.val (.bool (Bet.ok ⟨n, d, a, b, o⟩)) σ) := by
  refine call_of T_tremor_Bet_valid e_tremor_Bet_valid rfl ?_
  have ho : Bet.ok ⟨n, d, a, b, o⟩ = (inn d 2 1000 && (inn n 1 (d - 1) && (inn b 1 1000 && (inn a 0 b && inn o 2 1000)))) := rfl
  cases c1 : inn d 2 1000
  · simp [-List.length_flatMap, -List.map_take, e_tremor_Bet_valid_r0, e_tremor_Bet_valid_r1, C_within, ho, c1]
  have c1' := inn_iff.1 c1
  have hw := w64 (n := d - 1) (by omega)
  cases c2 : inn n 1 (d - 1)
  · simp [-List.length_flatMap, -List.map_take, e_tremor_Bet_valid_r0, e_tremor_Bet_valid_r1, C_within, ho, c1, hw, c2]
  cases c3 : inn b 1 1000
  · simp [-List.length_flatMap, -List.map_take, e_tremor_Bet_valid_r0, e_tremor_Bet_valid_r1, C_within, ho, c1, hw, c2, c3]
  cases c4 : inn a 0 b
  · simp [-List.length_flatMap, -List.map_take, e_tremor_Bet_valid_r0, e_tremor_Bet_valid_r1, C_within, ho, c1, hw, c2, c3, c4]
  simp [-List.length_flatMap, -List.map_take, e_tremor_Bet_valid_r0, e_tremor_Bet_valid_r1, C_within, ho, c1, hw, c2, c3, c4]

theorem C_going {n d a b o : Int} {v : Nat} {cs : List D} : lim T (.call true i_tremor_Bet_going [.agg [.int .i64 n, .int .i64 d, .int .i64 a, .int .i64 b, .int .i64 o]] ([.cells v cs] :: σ)) =
    some (.val (.fn i_tremor_Bet_going_1 [] [.ref σ.length 1 0 0, .cref [.int .i64 n, .int .i64 d, .int .i64 a, .int .i64 b, .int .i64 o]]) ([.cells v cs, .cells 0 [.int .i64 1000000]] :: σ)) := by
  refine call_kp T_tremor_Bet_going e_tremor_Bet_going rfl ?_
  simp [-List.length_flatMap, -List.map_take, e_tremor_Bet_going_r0, e_tremor_Bet_going_r1, e_tremor_Bet_going_r2]

theorem C_going1 {b : Bet} (hb : b.ok = true) {c : Int} (h0 : 0 ≤ c) (h1 : c ≤ 1000000000000) {hit : Bool} {b0 : Blk} :
    lim T (.call false i_tremor_Bet_going_1 [.bool hit, .ref σ.length 1 0 0, .cref b.enc] ([b0, .cells 0 [.int .i64 c]] :: σ)) =
      some (.val (.int .i64 (next b c hit)) ([b0, .cells 0 [.int .i64 (next b c hit)]] :: σ)) := by
  refine call_to T_tremor_Bet_going_1 e_tremor_Bet_going_1 rfl rfl ?_
  obtain ⟨w1, w2, w3, w4, w5, w6, w7, w8, w9, w10, w11, w12, w13⟩ := betW hb h0 h1
  cases hit
  · simp [-List.length_flatMap, -List.map_take, e_tremor_Bet_going_1_r0, e_tremor_Bet_going_1_r1, e_tremor_Bet_going_1_r2, e_tremor_Bet_going_1_r3, e_tremor_Bet_going_1_r4, e_tremor_Bet_going_1_r5, w8, w9, w10, w11, w13, next]
  · simp [-List.length_flatMap, -List.map_take, e_tremor_Bet_going_1_r0, e_tremor_Bet_going_1_r1, e_tremor_Bet_going_1_r2, e_tremor_Bet_going_1_r3, e_tremor_Bet_going_1_r4, e_tremor_Bet_going_1_r5, w1, w2, w3, w4, w5, w6, w7, next]

theorem caps_len {b : Bet} : ∀ (hits : List Bool) (c : Int), (caps b c hits).length = hits.length
  | [], c => rfl
  | h :: t, c => by simp [caps, caps_len t]

theorem L_cap {b : Bet} (hb : b.ok = true) {hits : List Bool} (hl : hits.length ≤ 2000) : ∀ (m i : Nat) (acc : List Int) (c : Int), i + m = hits.length → acc.length = i → 0 ≤ c → c ≤ 1000000000000 →
    WL T [6, 7, 20, 21, 22] false f_tremor_Capital_l12 [(6, .sl σ.length 0 i 0 i 1), (7, .fn i_tremor_Bet_going_1 [] [.ref σ.length 1 0 0, .cref b.enc]), (20, .lst hits.length (hits.flatMap boolE)), (21, .int .i64 hits.length), (22, .int .i64 i)]
        ([.cells i (acc.flatMap intE), .cells 0 [.int .i64 c]] :: σ)
      (fun x e σ' => x = .exit 1 ∧ get e 6 = .sl σ.length 0 hits.length 0 hits.length 1 ∧ ∃ c', σ' = [.cells hits.length ((acc ++ caps b c (hits.drop i)).flatMap intE), .cells 0 [.int .i64 c']] :: σ)
  | 0, i, acc, c, hi, ha, _, _ => by
    refine WL_step e_tremor_Capital_l12 ?_
    have h1 : ¬ i < hits.length := by omega
    have h2 : hits.drop i = [] := by simp; omega
    have h3 : i = hits.length := by omega
    subst h3
    simp [-List.length_flatMap, -List.map_take, e_tremor_Capital_r0, e_tremor_Capital_r1, e_tremor_Capital_r2, e_tremor_Capital_r3, e_tremor_Capital_r4, e_tremor_Capital_r5, e_tremor_Capital_r6, e_tremor_Capital_r7, e_tremor_Capital_r8, e_tremor_Capital_r9, e_tremor_Capital_r10, e_tremor_Capital_r11, e_tremor_Capital_r13, caps]
  | m + 1, i, acc, c, hi, ha, h0, hc => by
    refine WL_step e_tremor_Capital_l12 ?_
    have h1 : i < hits.length := by omega
    obtain ⟨x, hx⟩ : ∃ x, hits[i]? = some x := ⟨_, List.getElem?_eq_getElem h1⟩
    have h2 := flat_at (f := boolE) (w := 1) (fun _ => rfl) hx
    simp only [Nat.mul_one] at h2
    have h4 := wnext h1 (by omega)
    have hn := (betW hb h0 hc).w12 x
    have ih := L_cap hb hl m (i + 1) (acc ++ [next b c x]) (next b c x) (by omega) (by simp [ha]) hn.1 hn.2
    have hg := fun b0 => @C_going1 σ b hb c h0 hc x b0
    have w3 := flat_self (f := intE) (w := 1) (fun _ => rfl) acc
    have w4 := flat_len (f := intE) (w := 1) (fun _ => rfl) acc
    rw [ha] at w3 w4
    simp only [Nat.mul_one] at w3 w4
    have w2 : (i + 1) * 8 ≤ room := by unfold room; omega
    simp only [Bet.enc] at hg
    simp [-List.length_flatMap, -List.map_take, e_tremor_Capital_r0, e_tremor_Capital_r1, e_tremor_Capital_r2, e_tremor_Capital_r3, e_tremor_Capital_r4, e_tremor_Capital_r5, e_tremor_Capital_r6, e_tremor_Capital_r7, e_tremor_Capital_r8, e_tremor_Capital_r9, e_tremor_Capital_r10, e_tremor_Capital_r11, e_tremor_Capital_r13, h1, h2, h4, hg, w2, w3, w4]
    refine WL.to ih (by simp) (by simp) fun x' e σ' hh => ?_
    rw [drop_at hx]
    simpa [caps, List.append_assoc] using hh

theorem C_Capital {b : Bet} {hits : List Bool} (hl : hits.length ≤ 9223372036854775807) (hσ : σ ≠ []) :
    lim T (.call false i_tremor_Capital [.agg [.int .i64 b.num, .int .i64 b.den, .int .i64 b.a, .int .i64 b.b, .int .i64 b.odds], .lst hits.length (hits.flatMap boolE)] σ) =
      some (.val (if b.ok then (if 2000 < hits.length then .tup [.nils, .int .i64 3] else .tup [.lst (caps b 1000000 hits).length ((caps b 1000000 hits).flatMap intE), .int .i64 0]) else .tup [.nils, .int .i64 1]) σ) := by
  refine call_of T_tremor_Capital e_tremor_Capital rfl ?_
  cases c1 : b.ok
  · simp [-List.length_flatMap, -List.map_take, e_tremor_Capital_r0, e_tremor_Capital_r1, e_tremor_Capital_r2, e_tremor_Capital_r3, e_tremor_Capital_r4, e_tremor_Capital_r5, e_tremor_Capital_r6, e_tremor_Capital_r7, e_tremor_Capital_r8, e_tremor_Capital_r9, e_tremor_Capital_r10, e_tremor_Capital_r11, e_tremor_Capital_r13, C_betok, c1]
  by_cases c2 : 2000 < hits.length
  · have c2' : (2000 : Int) < hits.length := by omega
    simp [-List.length_flatMap, -List.map_take, e_tremor_Capital_r0, e_tremor_Capital_r1, e_tremor_Capital_r2, e_tremor_Capital_r3, e_tremor_Capital_r4, e_tremor_Capital_r5, e_tremor_Capital_r6, e_tremor_Capital_r7, e_tremor_Capital_r8, e_tremor_Capital_r9, e_tremor_Capital_r10, e_tremor_Capital_r11, e_tremor_Capital_r13, C_betok, c1, c2, c2']
  have c2' : ¬ (2000 : Int) < hits.length := by omega
  simp [-List.length_flatMap, -List.map_take, e_tremor_Capital_r0, e_tremor_Capital_r1, e_tremor_Capital_r2, e_tremor_Capital_r3, e_tremor_Capital_r4, e_tremor_Capital_r5, e_tremor_Capital_r6, e_tremor_Capital_r7, e_tremor_Capital_r8, e_tremor_Capital_r9, e_tremor_Capital_r10, e_tremor_Capital_r11, e_tremor_Capital_r13, C_betok, c1, c2, c2', C_going]
  refine WL.to (L_cap (σ := σ) (hits := hits) c1 (by omega) hits.length 0 [] 1000000 (by omega) rfl (by omega) (by omega)) (by simp) (by simp) ?_
  rintro x e σ' ⟨rfl, h2, c', rfl⟩
  simp only [List.nil_append, List.drop_zero] at h2 ⊢
  simp [-List.length_flatMap, -List.map_take, h2, e_tremor_Capital_r13]
  rw [frz_tup (by simp) (by omega)]
  have hcl := caps_len (b := b) hits 1000000
  have h3 : ¬ σ.length ≤ σ.length - 1 := by have := List.length_pos_iff.2 hσ; omega
  have h4 := flat_self (f := intE) (w := 1) (fun _ => rfl) (caps b 1000000 hits)
  rw [hcl] at h4
  simp only [Nat.mul_one] at h4
  have h5 : D.cleanL ((caps b 1000000 hits).flatMap intE) = true := cleanL_flat fun x _ => by simp
  simp only [frzL_cons, frzL_nil]
  rw [frz_sl h3 (cs := (caps b 1000000 hits).flatMap intE) (by simp) (by omega)]
  simp [h4, h5, hcl, c2]

theorem L_ints {a : List Int} (hl : a.length ≤ 9223372036854775807) : ∀ (m i : Nat), i + m = a.length →
    WL T [0, 1, 5] false f_law09_ints_l8 [(0, .lst a.length (a.flatMap intE)), (1, .lst a.length (a.flatMap intE)), (5, .int .i64 i)] σ (fun x e σ' => σ' = σ ∧ x = .exit 0)
  | 0, i, hi => by
    refine WL_step e_law09_ints_l8 ?_
    have h1 : ¬ i < a.length := by omega
    simp [-List.length_flatMap, -List.map_take, e_law09_ints_r0, e_law09_ints_r1, e_law09_ints_r2, e_law09_ints_r3, e_law09_ints_r4, e_law09_ints_r5, e_law09_ints_r6, e_law09_ints_r7, e_law09_ints_r9, h1]
  | m + 1, i, hi => by
    refine WL_step e_law09_ints_l8 ?_
    have ih := L_ints hl m (i + 1) (by omega)
    have h1 : i < a.length := by omega
    obtain ⟨x, hx⟩ : ∃ x, a[i]? = some x := ⟨_, List.getElem?_eq_getElem h1⟩
    have h2 := flat_at (f := intE) (w := 1) (fun _ => rfl) hx
    simp only [Nat.mul_one] at h2
    have h4 := wnext h1 hl
    simp [-List.length_flatMap, -List.map_take, e_law09_ints_r0, e_law09_ints_r1, e_law09_ints_r2, e_law09_ints_r3, e_law09_ints_r4, e_law09_ints_r5, e_law09_ints_r6, e_law09_ints_r7, e_law09_ints_r9, h1, h2, h4]
    exact WL.to ih (by simp) rfl fun x e σ hh => hh
theorem C_ints {a : List Int} (hl : a.length ≤ 9223372036854775807) :
    lim T (.call false i_law09_ints [.lst a.length (a.flatMap intE), .lst a.length (a.flatMap intE)] σ) = some (.val (.bool true) σ) := by
  refine call_of T_law09_ints e_law09_ints rfl ?_
  simp [-List.length_flatMap, -List.map_take, e_law09_ints_r0, e_law09_ints_r1, e_law09_ints_r2, e_law09_ints_r3, e_law09_ints_r4, e_law09_ints_r5, e_law09_ints_r6, e_law09_ints_r7, e_law09_ints_r9]
  refine WL.to (L_ints (σ := [] :: σ) hl a.length 0 (by omega)) (by simp) rfl ?_
  rintro x e σ' ⟨rfl, rfl⟩
  simp [-List.length_flatMap, -List.map_take, e_law09_ints_r9]
end Go.Proofs.YticpenoicajakaaGreat
