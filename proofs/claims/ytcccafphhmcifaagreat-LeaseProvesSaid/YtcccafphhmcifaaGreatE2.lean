/-
  Programmes of layer 11: where something changes, ladders, tables, of the program.
-/
import Derived.Test.YtcccafphhmcifaaGreatE1
set_option linter.unusedVariables false
set_option linter.unusedSimpArgs false
namespace Go.Proofs.YtcccafphhmcifaaGreat
open Go Go.Abs Go.Lease
variable {σ : Stack}

/-! ### The library's order of numbers -/

theorem nat_call {T : Tbl} {kp : Bool} {f k : Nat} {args : List D} {σ : Stack} {r : R} (hT : T f = none) (hN : T (1000000 + f) = some ⟨k, [], .exit 0⟩) (h : natQ k args σ = some r) : lim T (.call kp f args σ) = some r :=
  lim_step (by simp [stepQ, hT, hN, h])
theorem intsOf_flat : ∀ zs : List Int, intsOf (zs.flatMap intE) = some zs
  | [] => rfl
  | z :: zs => by
    have := intsOf_flat zs
    simp only [List.flatMap_cons, intE, List.singleton_append, intsOf] at this ⊢
    simp [this]
theorem intCells_flat (zs : List Int) : intCells zs = zs.flatMap intE := by
  rw [intCells, show intE = fun x => [D.int .i64 x] from rfl, flat_one]
theorem nat_sort {l i v : Nat} {zs : List Int} (hc : cells? σ l i v = some (zs.flatMap intE)) (h1 : 1 ≤ zs.length) (h2 : zs.length ≤ 1000000) :
    natQ 1 [.sl l i v 0 zs.length 1] σ = some (.val (.tup []) (setBlk σ l i (.cells v ((sortI zs).flatMap intE)))) := by
  have e1 := flat_len (f := intE) (w := 1) (fun _ => rfl) zs
  have e2 : (zs.flatMap intE).take zs.length = zs.flatMap intE := List.take_of_length_le (by omega)
  have e3 : (zs.flatMap intE).drop zs.length = [] := List.drop_eq_nil_of_le (by omega)
  have e4 : (zs.flatMap intE).length = zs.length := by omega
  have h0 : zs.length ≠ 0 := by omega
  unfold natQ
  simp only [h0, h2, ne_eq, not_false_eq_true, true_and, if_true, hc, List.drop_zero, Nat.zero_add, e2, intsOf_flat, e4, Nat.le_refl, natRes, natRow, List.take_zero, List.nil_append, e3, List.append_nil, intCells_flat]
theorem nat_comp {l i v : Nat} {zs : List Int} (hc : cells? σ l i v = some (zs.flatMap intE)) (h1 : 1 ≤ zs.length) (h2 : zs.length ≤ 1000000) :
    natQ 2 [.sl l i v 0 zs.length 1] σ = some (.val (.sl l i v 0 (compI zs).length 1) (setBlk σ l i (.cells v ((compI zs ++ List.replicate (zs.length - (compI zs).length) 0).flatMap intE)))) := by
  have e1 := flat_len (f := intE) (w := 1) (fun _ => rfl) zs
  have e2 : (zs.flatMap intE).take zs.length = zs.flatMap intE := List.take_of_length_le (by omega)
  have e3 : (zs.flatMap intE).drop zs.length = [] := List.drop_eq_nil_of_le (by omega)
  have e4 : (zs.flatMap intE).length = zs.length := by omega
  have h0 : zs.length ≠ 0 := by omega
  unfold natQ
  simp only [h0, h2, ne_eq, not_false_eq_true, true_and, if_true, hc, List.drop_zero, Nat.zero_add, e2, intsOf_flat, e4, Nat.le_refl, natRes, natRow, List.take_zero, List.nil_append, e3, List.append_nil, intCells_flat, show ((2 : Nat) = 1) = False by decide, if_false]

/-! ### Breaks -/

def stB (a : List Int) (σ : Stack) : Stack := [.cells a.length ((held :: a).flatMap intE), .cells 0 [.sl σ.length 0 a.length 0 (a.length + 1) 1]] :: σ
def brF (σ : Stack) : D := .fn i_lease_work_breaks_1 [] [.ref σ.length 1 0 0]
theorem C_br1 {c : Int} {a : List Int} (ha : a.length ≤ 10000000) : lim T (.call false i_lease_work_breaks_1 [.int .i64 c, .ref σ.length 1 0 0] (stB a σ)) = some (.val (.tup []) (stB (a ++ inHeld c) σ)) := by
  refine call_to T_lease_work_breaks_1 e_lease_work_breaks_1 rfl (by simp [stB]) ?_
  have a1 := flat_len (f := intE) (w := 1) (fun _ => rfl) (held :: a)
  simp only [List.length_cons, Nat.mul_one] at a1
  have a2 : ((held :: a).flatMap intE).take (a.length + 1) = (held :: a).flatMap intE := List.take_of_length_le (by omega)
  have a3 : (a.length + 1 + 1) * 8 ≤ room := by unfold room; omega
  have a4 : ∀ c : Int, (held :: (a ++ [c])).flatMap intE = (held :: a).flatMap intE ++ [.int .i64 c] := fun c => by simp
  cases h : inn c 0 held
  · have h' : inn c 0 100000000 = false := h
    have hi : inHeld c = [] := by unfold inHeld; rw [h]; rfl
    rw [hi]
    simp [-List.length_flatMap, -List.map_take, e_lease_work_breaks_1_r0, e_lease_work_breaks_1_r1, D_within, h', stB]
  · have h' : inn c 0 100000000 = true := h
    have hi : inHeld c = [c] := by unfold inHeld; rw [h]; rfl
    rw [hi]
    simp only [stB, a4, List.length_append, List.length_cons, List.length_nil]
    generalize hF : (held :: a).flatMap intE = F at *
    simp [-List.length_flatMap, -List.map_take, e_lease_work_breaks_1_r0, e_lease_work_breaks_1_r1, D_within, h', a1, a2, a3]
    rw [← hF]
    simp
theorem k_take {α : Type} {f : α → List D} {w : Nat} (hw : ∀ x, (f x).length = w) {l : List α} {i : Nat} (hi : i ≤ l.length) : (l.flatMap f).take (i * w) = (l.take i).flatMap f := by
  conv => lhs; rw [← List.take_append_drop i l]
  rw [List.flatMap_append, List.take_append_of_le_length (by rw [flat_len hw]; simp [Nat.min_eq_left hi]), List.take_of_length_le (by rw [flat_len hw]; simp [Nat.min_eq_left hi])]
theorem drop_last_len {l : List Rn} : l.dropLast.length = l.length - 1 := List.length_dropLast
theorem brk_val {p : Pg} (hp : pgOk p = true) {k u : Int} (hk : 0 ≤ k ∧ k ≤ 3) (hu : 0 ≤ u ∧ u ≤ held) (h0 : 0 < p.keep) :
    (0 ≤ 1000 * (u + 1) + p.keep - 1 ∧ 1000 * (u + 1) + p.keep - 1 ≤ 100000002000) ∧ 0 ≤ (1000 * (u + 1) + p.keep - 1) / p.keep ∧ (1000 * (u + 1) + p.keep - 1) / p.keep ≤ 100000002000 := by
  have hp1 := pgOk_iff.1 hp
  simp only [held] at hu
  have h1 : 0 ≤ 1000 * (u + 1) + p.keep - 1 ∧ 1000 * (u + 1) + p.keep - 1 ≤ 100000002000 := by omega
  refine ⟨h1, Int.ediv_nonneg h1.1 (by omega), Int.le_trans (Int.ediv_le_self _ h1.1) h1.2⟩
theorem L_brk {p : Pg} (hp : pgOk p = true) {i : Nat} {next : List Rn} (hr : rightL next = true) {k : Nat} (hk : (k : Int) ≤ p.most) : ∀ (m j : Nat) (a : List Int), j + m = next.dropLast.length → a.length + m ≤ 10000000 →
    WL T [1, 2, 3, 7, 8, 9, 17, 18, 44, 45, 46] false f_lease_work_breaks_l13 [(1, .int .i64 i), (2, .lst next.length (next.flatMap Rn.enc)), (3, .cref p.enc), (7, .ref σ.length 1 0 0), (8, brF σ), (9, .int .i64 k), (17, .int .i64 (p.most + 1)), (18, .int .i64 k), (44, .lst next.dropLast.length (next.dropLast.flatMap Rn.enc)), (45, .int .i64 next.dropLast.length), (46, .int .i64 j)] (stB a σ)
      (fun x e σ' => x = .exit 2 ∧ get e 1 = .int .i64 i ∧ get e 2 = .lst next.length (next.flatMap Rn.enc) ∧ get e 3 = .cref p.enc ∧ get e 7 = .ref σ.length 1 0 0 ∧ get e 8 = brF σ ∧ get e 17 = .int .i64 (p.most + 1) ∧ get e 18 = .int .i64 k ∧ σ' = stB (a ++ (next.dropLast.drop j).flatMap (brk p k)) σ)
  | 0, j, a, hj, ha => by
    refine WL_step e_lease_work_breaks_l13 ?_
    have h1 : ¬ j < next.dropLast.length := by omega
    have h2 : next.dropLast.drop j = [] := List.drop_eq_nil_of_le (by omega)
    rw [h2]
    generalize hD : next.dropLast = dl at *
    simp [-List.length_flatMap, -List.map_take, e_lease_work_breaks_r0, e_lease_work_breaks_r1, e_lease_work_breaks_r2, e_lease_work_breaks_r3, e_lease_work_breaks_r4, e_lease_work_breaks_r5, e_lease_work_breaks_r6, e_lease_work_breaks_r7, e_lease_work_breaks_r8, e_lease_work_breaks_r9, e_lease_work_breaks_r10, e_lease_work_breaks_r11, e_lease_work_breaks_r12, e_lease_work_breaks_r14, e_lease_work_breaks_r16, e_lease_work_breaks_r17, h1, brF]
  | m + 1, j, a, hj, ha => by
    refine WL_step e_lease_work_breaks_l13 ?_
    have hp1 := pgOk_iff.1 hp
    have h1 : j < next.dropLast.length := by omega
    obtain ⟨r, hx⟩ : ∃ x, next.dropLast[j]? = some x := ⟨_, List.getElem?_eq_getElem h1⟩
    have hrm := right_mem hr r ((List.dropLast_sublist next).subset (List.mem_of_getElem? hx))
    have a1 := rn_at hx
    have hl := (rightL_iff.1 hr).2.2.1
    have hlen : next.dropLast.length ≤ 70000 := by rw [drop_last_len]; omega
    have w1 := wnext h1 (by omega)
    have hk3 : 0 ≤ (k : Int) ∧ (k : Int) ≤ 3 := by omega
    have hg := gain_bd hp hk3
    rw [dropS hx, List.flatMap_cons]
    generalize hD : next.dropLast = dl at *
    by_cases h0 : 0 < p.keep
    · have hb := brk_val hp hk3 hrm.1 h0
      simp only [held] at hrm
      have e1 : (1000 * (r.u + 1) + p.keep - 1).tdiv p.keep = (1000 * (r.u + 1) + p.keep - 1) / p.keep := Int.tdiv_eq_ediv_of_nonneg hb.1.1
      have v1 := w64 (n := r.u + 1) (by omega)
      have v2 := w64 (n := 1000 * (r.u + 1)) (by omega)
      have v3 := w64 (n := 1000 * (r.u + 1) + p.keep) (by omega)
      have v4 := w64 (n := 1000 * (r.u + 1) + p.keep - 1) (by omega)
      have hbk : brk p k r = inHeld ((1000 * (r.u + 1) + p.keep - 1) / p.keep - 1 - k * p.gain) := by unfold brk; rw [if_pos h0]
      have v5 := w64 (n := (1000 * (r.u + 1) + p.keep - 1) / p.keep) (by omega)
      have v6 := w64 (n := (1000 * (r.u + 1) + p.keep - 1) / p.keep - 1) (by omega)
      have v7 := w64 (n := (k : Int) * p.gain) (by omega)
      have v8 := w64 (n := (1000 * (r.u + 1) + p.keep - 1) / p.keep - 1 - k * p.gain) (by omega)
      have hB := C_br1 (σ := σ) (c := (1000 * (r.u + 1) + p.keep - 1) / p.keep - 1 - k * p.gain) (a := a) (by omega)
      rw [← hbk] at hB
      have hbl : (brk p k r).length ≤ 1 := by rw [hbk]; unfold inHeld; split <;> simp
      have ih := L_brk hp (i := i) hr hk m (j + 1) (a ++ brk p k r) (by rw [hD]; omega) (by simp only [List.length_append]; omega)
      rw [hD] at ih
      have hne : ¬ p.keep = 0 := by omega
      simp [-List.length_flatMap, -List.map_take, e_lease_work_breaks_r0, e_lease_work_breaks_r1, e_lease_work_breaks_r2, e_lease_work_breaks_r3, e_lease_work_breaks_r4, e_lease_work_breaks_r5, e_lease_work_breaks_r6, e_lease_work_breaks_r7, e_lease_work_breaks_r8, e_lease_work_breaks_r9, e_lease_work_breaks_r10, e_lease_work_breaks_r11, e_lease_work_breaks_r12, e_lease_work_breaks_r14, e_lease_work_breaks_r16, e_lease_work_breaks_r17, h1, a1, w1, h0, hne, e1, v1, v2, v3, v4, v5, v6, v7, v8, hB, brF]
      exact WL.to ih (by simp [brF]) rfl fun x e σ hh => by simpa [List.append_assoc, brF] using hh
    · have hbk : brk p k r = [] := by unfold brk; rw [if_neg h0]
      have ih := L_brk hp (i := i) hr hk m (j + 1) a (by rw [hD]; omega) (by omega)
      rw [hD] at ih
      rw [hbk, List.nil_append]
      simp [-List.length_flatMap, -List.map_take, e_lease_work_breaks_r0, e_lease_work_breaks_r1, e_lease_work_breaks_r2, e_lease_work_breaks_r3, e_lease_work_breaks_r4, e_lease_work_breaks_r5, e_lease_work_breaks_r6, e_lease_work_breaks_r7, e_lease_work_breaks_r8, e_lease_work_breaks_r9, e_lease_work_breaks_r10, e_lease_work_breaks_r11, e_lease_work_breaks_r12, e_lease_work_breaks_r14, e_lease_work_breaks_r16, e_lease_work_breaks_r17, h1, a1, w1, h0, brF]
      exact WL.to ih (by simp [brF]) rfl fun x e σ hh => by simpa [brF] using hh
theorem brkK_len {p : Pg} {y : Yr} {next : List Rn} {k : Int} : (brkK p y next k).length ≤ 1 + next.dropLast.length := by
  have h1 : ∀ c, (inHeld c).length ≤ 1 := fun c => by unfold inHeld; split <;> simp
  have h2 : ∀ l : List Rn, (l.flatMap (brk p k)).length ≤ l.length := fun l => by
    induction l with
    | nil => simp
    | cons a l ih =>
      have : (brk p k a).length ≤ 1 := by unfold brk; split <;> simp [h1]
      simp only [List.flatMap_cons, List.length_append, List.length_cons]; omega
  have := h1 (y.need - k * p.gain - 1)
  have := h2 next.dropLast
  simp only [brkK, List.length_append]; omega
theorem L_brks {p : Pg} (hp : pgOk p = true) {i : Nat} {y : Yr} (hy : p.l[i]? = some y) {next : List Rn} (hr : rightL next = true) : ∀ (m k : Nat) (a : List Int), (k : Int) + m = p.most + 1 → a.length + m * 100000 ≤ 1000000 →
    WL T [1, 2, 3, 7, 8, 17, 18] false f_lease_work_breaks_l15 [(1, .int .i64 i), (2, .lst next.length (next.flatMap Rn.enc)), (3, .cref p.enc), (7, .ref σ.length 1 0 0), (8, brF σ), (17, .int .i64 (p.most + 1)), (18, .int .i64 k)] (stB a σ)
      (fun x e σ' => x = .exit 0 ∧ get e 7 = .ref σ.length 1 0 0 ∧ σ' = stB (a ++ brks p y next m k) σ)
  | 0, k, a, hk, ha => by
    refine WL_step e_lease_work_breaks_l15 ?_
    have h1 : ¬ (k : Int) < p.most + 1 := by omega
    simp [-List.length_flatMap, -List.map_take, e_lease_work_breaks_r0, e_lease_work_breaks_r1, e_lease_work_breaks_r2, e_lease_work_breaks_r3, e_lease_work_breaks_r4, e_lease_work_breaks_r5, e_lease_work_breaks_r6, e_lease_work_breaks_r7, e_lease_work_breaks_r8, e_lease_work_breaks_r9, e_lease_work_breaks_r10, e_lease_work_breaks_r11, e_lease_work_breaks_r12, e_lease_work_breaks_r14, e_lease_work_breaks_r16, e_lease_work_breaks_r17, h1, brks, brF]
  | m + 1, k, a, hk, ha => by
    refine WL_step e_lease_work_breaks_l15 ?_
    have hp1 := pgOk_iff.1 hp
    have h1 : (k : Int) < p.most + 1 := by omega
    have hk3 : 0 ≤ (k : Int) ∧ (k : Int) ≤ 3 := by omega
    have hg := gain_bd hp hk3
    have hi := (List.getElem?_eq_some_iff.1 hy).1
    have hyk := yrOk_iff.1 (hp1.2.2.2.2.2 y (List.mem_of_getElem? hy))
    have a1 := yr_at hy
    have v1 := w64 (n := (k : Int) * p.gain) (by omega)
    have v2 := w64 (n := y.need - k * p.gain) (by omega)
    have v3 := w64 (n := y.need - k * p.gain - 1) (by omega)
    have hl := (rightL_iff.1 hr).2.2.1
    have v4 : IntKind.i64.wrap ((next.length : Int) - 1) = ((next.length - 1 : Nat) : Int) := by rw [w64 (by omega)]; omega
    have hB := C_br1 (σ := σ) (c := y.need - k * p.gain - 1) (a := a) (by omega)
    have hih : (inHeld (y.need - k * p.gain - 1)).length ≤ 1 := by unfold inHeld; split <;> simp
    have hD1 : (next.flatMap Rn.enc).take ((next.length - 1) * 2) = next.dropLast.flatMap Rn.enc := by
      rw [List.dropLast_eq_take]
      exact k_take (f := Rn.enc) (w := 2) (fun _ => rfl) (by omega)
    have hD2 := drop_last_len (l := next)
    have w1 := w64 (n := (k : Int) + 1) (by omega)
    have c1 : 0 ≤ ((next.length - 1 : Nat) : Int) ∧ ((next.length - 1 : Nat) : Int) ≤ next.length := by omega
    have c2 : next.length ≤ next.length - 1 + 1 := by omega
    simp [-List.length_flatMap, -List.map_take, e_lease_work_breaks_r0, e_lease_work_breaks_r1, e_lease_work_breaks_r2, e_lease_work_breaks_r3, e_lease_work_breaks_r4, e_lease_work_breaks_r5, e_lease_work_breaks_r6, e_lease_work_breaks_r7, e_lease_work_breaks_r8, e_lease_work_breaks_r9, e_lease_work_breaks_r10, e_lease_work_breaks_r11, e_lease_work_breaks_r12, e_lease_work_breaks_r14, e_lease_work_breaks_r16, e_lease_work_breaks_r17, h1, hi, a1, v1, v2, v3, v4, hB, c1, c2, hD1, brF]
    refine WL.to (L_brk (σ := σ) hp (i := i) hr (k := k) (by omega) next.dropLast.length 0 (a ++ inHeld (y.need - k * p.gain - 1)) (by omega) (by simp only [List.length_append]; omega)) (by simp [brF, hD2]) rfl ?_
    rintro x e σ' ⟨rfl, g1, g2, g3, g7, g8, g17, g18, rfl⟩
    have hK := brkK_len (p := p) (y := y) (next := next) (k := k)
    have e1 : a ++ inHeld (y.need - k * p.gain - 1) ++ (next.dropLast.drop 0).flatMap (brk p k) = a ++ brkK p y next k := by simp [brkK]
    rw [e1]
    have ih := L_brks hp hy hr m (k + 1) (a ++ brkK p y next k) (by omega) (by simp only [List.length_append]; omega)
    simp [-List.length_flatMap, -List.map_take, e_lease_work_breaks_r14, g1, g2, g3, g7, g8, g17, g18, w1, brF]
    exact WL.to ih (by simp [brF]) rfl fun x e σ hh => by simpa [brks, List.append_assoc] using hh
theorem C_breaks {p : Pg} (hp : pgOk p = true) {i : Nat} {y : Yr} (hy : p.l[i]? = some y) {next : List Rn} (hr : rightL next = true) (hσ : σ ≠ []) :
    lim T (.call false i_lease_work_breaks [.agg [.int .i64 p.start, .int .i64 p.gain, .int .i64 p.keep, .int .i64 p.most, .lst p.l.length (p.l.flatMap Yr.enc)], .int .i64 i, .lst next.length (next.flatMap Rn.enc)] σ) = some (.val (.lst (breaksL p y next).length ((breaksL p y next).flatMap intE)) σ) := by
  refine call_of T_lease_work_breaks e_lease_work_breaks rfl ?_
  have hp1 := pgOk_iff.1 hp
  have w1 := w64 (n := p.most + 1) (by omega)
  simp [-List.length_flatMap, -List.map_take, e_lease_work_breaks_r0, e_lease_work_breaks_r1, e_lease_work_breaks_r2, e_lease_work_breaks_r3, e_lease_work_breaks_r4, e_lease_work_breaks_r5, e_lease_work_breaks_r6, e_lease_work_breaks_r7, e_lease_work_breaks_r8, e_lease_work_breaks_r9, e_lease_work_breaks_r10, e_lease_work_breaks_r11, e_lease_work_breaks_r12, e_lease_work_breaks_r14, e_lease_work_breaks_r16, e_lease_work_breaks_r17, w1]
  refine WL.to (L_brks (σ := σ) hp hy hr (p.most.toNat + 1) 0 [] (by omega) (by simp; omega)) (by simp [brF]) (by simp [stB]) ?_
  rintro x e σ' ⟨rfl, g7, rfl⟩
  have hlen : (brks p y next (p.most.toNat + 1) 0).length ≤ (p.most.toNat + 1) * (1 + next.dropLast.length) := by
    have key : ∀ (n : Nat) (k : Int), (brks p y next n k).length ≤ n * (1 + next.dropLast.length) := by
      intro n
      induction n with
      | zero => intro k; simp [brks]
      | succ n ih =>
        intro k
        have := ih (k + 1)
        have := brkK_len (p := p) (y := y) (next := next) (k := k)
        simp only [brks, List.length_append, Nat.succ_mul]; omega
    exact key _ _
  have hl := (rightL_iff.1 hr).2.2.1
  have hl2 : (brks p y next (p.most.toNat + 1) 0).length ≤ 300000 := by
    refine Nat.le_trans hlen (Nat.le_trans (Nat.mul_le_mul (show p.most.toNat + 1 ≤ 4 by omega) (show 1 + next.dropLast.length ≤ 70001 by rw [drop_last_len]; omega)) (by decide))
  have hbr : breaksL p y next = compI (sortI (held :: brks p y next (p.most.toNat + 1) 0)) := rfl
  rw [hbr]
  generalize brks p y next (p.most.toNat + 1) 0 = a at *
  have hs := sortI_length (held :: a)
  simp only [List.length_cons] at hs
  have hS := nat_call (T := T) (kp := false) T_slices_Sort_int N_slices_Sort_int (nat_sort (σ := stB a σ) (l := σ.length) (i := 0) (v := a.length) (zs := held :: a) (by simp [stB]) (by simp) (by simp; omega))
  have hC := nat_call (T := T) (kp := false) T_slices_Compact_int N_slices_Compact_int (nat_comp (σ := setBlk (stB a σ) σ.length 0 (.cells a.length ((sortI (held :: a)).flatMap intE))) (l := σ.length) (i := 0) (v := a.length) (zs := sortI (held :: a)) (by simp [stB]) (by omega) (by omega))
  rw [hs] at hC
  simp only [List.length_cons] at hS
  generalize sortI (held :: a) = s at *
  simp only [List.nil_append]
  simp [stB] at hS hC ⊢
  simp [-List.length_flatMap, -List.map_take, e_lease_work_breaks_r16, e_lease_work_breaks_r17, g7, hS, hC]
  have h3 : ¬ σ.length ≤ σ.length - 1 := by have := List.length_pos_iff.2 hσ; omega
  have e1 := flat_len (f := intE) (w := 1) (fun _ => rfl) (compI s)
  rw [Nat.mul_one] at e1
  have hcl : D.cleanL ((compI s).flatMap intE) = true := k_clean (fun x => by simp) _
  rw [frz_sl h3 (cs := (compI s).flatMap intE ++ (List.replicate (a.length + 1 - (compI s).length) 0).flatMap intE) (by simp) (by omega)]
  generalize (List.replicate (a.length + 1 - (compI s).length) (0 : Int)).flatMap intE = X
  generalize hF : (compI s).flatMap intE = F at *
  have e2 : (F ++ X).take (compI s).length = F := List.take_left' e1
  simp [e2, hcl]
end Go.Proofs.YtcccafphhmcifaaGreat
