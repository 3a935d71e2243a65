/-
  The wells beside one, of both.
-/
import Derived.Test.YtcjjdaifpboaaaaS6
import Derived.Test.YtcjjdaifpboaaaaNearSpec
set_option linter.unusedVariables false
set_option linter.unusedSimpArgs false
namespace Go.Proofs.Ytcjjdaifpboaaaa
open Go Go.Abs Go.Trial
variable {σ : Stack}

theorem nat_call {T : Tbl} {kp : Bool} {f k : Nat} {args : List D} {σ : Stack} {r : R} (hT : T f = none) (hN : T (1000000 + f) = some ⟨k, [], .exit 0⟩) (h : natQ k args σ = some r) : lim T (.call kp f args σ) = some r :=
  lim_step (by simp [stepQ, hT, hN, h])
theorem intsOf_flat : ∀ zs : List Int, intsOf (zs.flatMap intE) = some zs
  | [] => rfl
  | z :: zs => by
    have := intsOf_flat zs
    simp only [List.flatMap_cons, intE, List.singleton_append, intsOf] at this ⊢
    simp [this]
theorem intCells_flat (zs : List Int) : intCells zs = zs.flatMap intE := by
  rw [intCells, show intE = fun x => [D.int .i64 x] from rfl, flat_one]
theorem nat_sort {l i v : Nat} {zs : List Int} (hc : cells? σ l i v = some (zs.flatMap intE)) (h1 : 1 ≤ zs.length) (h2 : zs.length ≤ 1000000) :
    natQ 1 [.sl l i v 0 zs.length 1] σ = some (.val (.tup []) (setBlk σ l i (.cells v ((sortI zs).flatMap intE)))) := by
  have e1 := flat_len (f := intE) (w := 1) (fun _ => rfl) zs
  have e2 : (zs.flatMap intE).take zs.length = zs.flatMap intE := List.take_of_length_le (by omega)
  have e3 : (zs.flatMap intE).drop zs.length = [] := List.drop_eq_nil_of_le (by omega)
  have e4 : (zs.flatMap intE).length = zs.length := by omega
  have h0 : zs.length ≠ 0 := by omega
  unfold natQ
  simp only [h0, h2, ne_eq, not_false_eq_true, true_and, if_true, hc, List.drop_zero, Nat.zero_add, e2, intsOf_flat, e4, Nat.le_refl, natRes, natRow, List.take_zero, List.nil_append, e3, List.append_nil, intCells_flat]
theorem nat_comp {l i v : Nat} {zs : List Int} (hc : cells? σ l i v = some (zs.flatMap intE)) (h1 : 1 ≤ zs.length) (h2 : zs.length ≤ 1000000) :
    natQ 2 [.sl l i v 0 zs.length 1] σ = some (.val (.sl l i v 0 (compI zs).length 1) (setBlk σ l i (.cells v ((compI zs ++ List.replicate (zs.length - (compI zs).length) 0).flatMap intE)))) := by
  have e1 := flat_len (f := intE) (w := 1) (fun _ => rfl) zs
  have e2 : (zs.flatMap intE).take zs.length = zs.flatMap intE := List.take_of_length_le (by omega)
  have e3 : (zs.flatMap intE).drop zs.length = [] := List.drop_eq_nil_of_le (by omega)
  have e4 : (zs.flatMap intE).length = zs.length := by omega
  have h0 : zs.length ≠ 0 := by omega
  unfold natQ
  simp only [h0, h2, ne_eq, not_false_eq_true, true_and, if_true, hc, List.drop_zero, Nat.zero_add, e2, intsOf_flat, e4, Nat.le_refl, natRes, natRow, List.take_zero, List.nil_append, e3, List.append_nil, intCells_flat, show ((2 : Nat) = 1) = False by decide, if_false]

/-- What near has gathered. -/
theorem L_near {s : Surv} (h : Sv s) {w : Nat} : ∀ (m i : Nat) (a : List Int), i + m = s.l.length → a.length ≤ i →
    WL T [1, 2, 5, 9, 10, 11] false f_trial_Survey_near_l10 [(1, .int .i64 w), (2, .cref s.enc), (5, .sl σ.length 0 a.length 0 a.length 1), (9, .lst s.l.length (s.l.flatMap Seen.enc)), (10, .int .i64 s.l.length), (11, .int .i64 i)] ([.cells a.length (a.flatMap intE)] :: σ)
      (fun x e σ' => x = .exit 0 ∧ ∃ r, r = a ++ (s.l.drop i).flatMap (nearC s w) ∧ get e 5 = .sl σ.length 0 r.length 0 r.length 1 ∧ σ' = [.cells r.length (r.flatMap intE)] :: σ)
  | 0, i, a, hi, ha => by
    refine WL_step e_trial_Survey_near_l10 ?_
    have h1 : ¬ i < s.l.length := by omega
    have h2 : s.l.drop i = [] := List.drop_eq_nil_of_le (by omega)
    simp [-List.length_flatMap, -List.map_take, e_trial_Survey_near_r0, e_trial_Survey_near_r1, e_trial_Survey_near_r2, e_trial_Survey_near_r3, e_trial_Survey_near_r4, e_trial_Survey_near_r5, e_trial_Survey_near_r6, e_trial_Survey_near_r7, e_trial_Survey_near_r8, e_trial_Survey_near_r9, e_trial_Survey_near_r11, e_trial_Survey_near_r12, h1, h2]
  | m + 1, i, a, hi, ha => by
    refine WL_step e_trial_Survey_near_l10 ?_
    have h1 : i < s.l.length := by omega
    obtain ⟨x, hx⟩ : ∃ x, s.l[i]? = some x := ⟨_, List.getElem?_eq_getElem h1⟩
    have hn := h.n
    have h4 := wnext h1 (by omega)
    have h2 := flat_at (f := Seen.enc) (w := 4) (fun _ => rfl) hx
    have hS := fun σ => @C_joined σ s x
    have hcl := nearC_len (s := s) (w := w) (x := x)
    have ih := L_near h (w := w) m (i + 1) (a ++ nearC s w x) (by omega) (by simp only [List.length_append]; omega)
    rw [dropS hx, List.flatMap_cons, ← List.append_assoc]
    have a1 := flat_len (f := intE) (w := 1) (fun _ => rfl) a
    rw [Nat.mul_one] at a1
    have a2 : (a.flatMap intE).take a.length = a.flatMap intE := List.take_of_length_le (by omega)
    have h7 : (a.length + 1) * 8 ≤ room := by unfold room; omega
    have h8 : ∀ z : Int, (a ++ [z]).flatMap intE = a.flatMap intE ++ [.int .i64 z] := fun z => by simp
    have h9 : ∀ z : Int, (a ++ [z]).length = a.length + 1 := fun z => by simp
    simp only [Seen.enc] at hS h2
    generalize (s.l.drop (i + 1)).flatMap (nearC s w) = rest at *
    cases hs : sure s x
    · have e1 : nearC s w x = [] := by simp [nearC, hs]
      rw [e1, List.append_nil] at ih ⊢
      rw [hs] at hS
      simp [-List.length_flatMap, -List.map_take, e_trial_Survey_near_r0, e_trial_Survey_near_r1, e_trial_Survey_near_r2, e_trial_Survey_near_r3, e_trial_Survey_near_r4, e_trial_Survey_near_r5, e_trial_Survey_near_r6, e_trial_Survey_near_r7, e_trial_Survey_near_r8, e_trial_Survey_near_r9, e_trial_Survey_near_r11, e_trial_Survey_near_r12, h1, h2, h4, hS]
      exact WL.to ih (by simp) (by simp) fun x e σ' hh => by simpa using hh
    · rw [hs] at hS
      by_cases hf : x.f = w
      · have q1 : (x.f == (w : Int)) = true := by simp [hf]
        have e1 : nearC s w x = [x.t] := by simp [nearC, hs, hf]
        rw [e1, h8, h9] at ih
        rw [e1]
        simp [-List.length_flatMap, -List.map_take, e_trial_Survey_near_r0, e_trial_Survey_near_r1, e_trial_Survey_near_r2, e_trial_Survey_near_r3, e_trial_Survey_near_r4, e_trial_Survey_near_r5, e_trial_Survey_near_r6, e_trial_Survey_near_r7, e_trial_Survey_near_r8, e_trial_Survey_near_r9, e_trial_Survey_near_r11, e_trial_Survey_near_r12, h1, h2, h4, hS, q1, a1, a2, h7]
        exact WL.to ih (by simp) (by simp) fun x e σ' hh => by simpa using hh
      · have q1 : (x.f == (w : Int)) = false := by simp [hf]
        by_cases ht : x.t = w
        · have q2 : (x.t == (w : Int)) = true := by simp [ht]
          have e1 : nearC s w x = [x.f] := by simp [nearC, hs, hf, ht]
          rw [e1, h8, h9] at ih
          rw [e1]
          simp [-List.length_flatMap, -List.map_take, e_trial_Survey_near_r0, e_trial_Survey_near_r1, e_trial_Survey_near_r2, e_trial_Survey_near_r3, e_trial_Survey_near_r4, e_trial_Survey_near_r5, e_trial_Survey_near_r6, e_trial_Survey_near_r7, e_trial_Survey_near_r8, e_trial_Survey_near_r9, e_trial_Survey_near_r11, e_trial_Survey_near_r12, h1, h2, h4, hS, q1, q2, a1, a2, h7]
          exact WL.to ih (by simp) (by simp) fun x e σ' hh => by simpa using hh
        · have q2 : (x.t == (w : Int)) = false := by simp [ht]
          have e1 : nearC s w x = [] := by simp [nearC, hs, hf, ht]
          rw [e1, List.append_nil] at ih ⊢
          simp [-List.length_flatMap, -List.map_take, e_trial_Survey_near_r0, e_trial_Survey_near_r1, e_trial_Survey_near_r2, e_trial_Survey_near_r3, e_trial_Survey_near_r4, e_trial_Survey_near_r5, e_trial_Survey_near_r6, e_trial_Survey_near_r7, e_trial_Survey_near_r8, e_trial_Survey_near_r9, e_trial_Survey_near_r11, e_trial_Survey_near_r12, h1, h2, h4, hS, q1, q2]
          exact WL.to ih (by simp) (by simp) fun x e σ' hh => by simpa using hh
theorem C_near {s : Surv} (h : Sv s) {w : Nat} (hne : nearR s w ≠ []) (hσ : σ ≠ []) :
    lim T (.call false i_trial_Survey_near [.agg [.int .i64 s.w, .int .i64 s.lv, .lst s.l.length (s.l.flatMap Seen.enc)], .int .i64 w] σ) = some (.val (.lst (nearN s w).length ((iN (nearN s w)).flatMap intE)) σ) := by
  refine call_of T_trial_Survey_near e_trial_Survey_near rfl ?_
  simp [-List.length_flatMap, -List.map_take, e_trial_Survey_near_r0, e_trial_Survey_near_r1, e_trial_Survey_near_r2, e_trial_Survey_near_r3, e_trial_Survey_near_r4, e_trial_Survey_near_r5, e_trial_Survey_near_r6, e_trial_Survey_near_r7, e_trial_Survey_near_r8, e_trial_Survey_near_r9, e_trial_Survey_near_r11, e_trial_Survey_near_r12]
  refine WL.to (L_near (σ := σ) h (w := w) s.l.length 0 [] (by omega) (by simp)) (by simp) (by simp) ?_
  rintro x e σ' ⟨rfl, a, hr, g5, rfl⟩
  rw [List.drop_zero, List.nil_append] at hr
  have hn := h.n
  have hlen := nearR_len (s := s) (w := w) s.l
  have hb : nearL s w = compI (sortI (nearR s w)) := rfl
  have hi := near_iN h (w := w)
  have hil : (nearN s w).length = (nearL s w).length := by rw [hi]; simp [iN]
  rw [hil, ← hi, hb]
  rw [← hr] at hlen
  have hpos : a.length ≠ 0 := fun e => hne (hr.symm.trans (List.eq_nil_of_length_eq_zero e))
  rw [show nearR s w = a from hr.symm]
  have hs := sortI_length a
  have hS := nat_call (T := T) (kp := false) T_slices_Sort_int N_slices_Sort_int (nat_sort (σ := [.cells a.length (a.flatMap intE)] :: σ) (l := σ.length) (i := 0) (v := a.length) (zs := a) (by simp) (by omega) (by omega))
  have hC := nat_call (T := T) (kp := false) T_slices_Compact_int N_slices_Compact_int (nat_comp (σ := setBlk ([.cells a.length (a.flatMap intE)] :: σ) σ.length 0 (.cells a.length ((sortI a).flatMap intE))) (l := σ.length) (i := 0) (v := a.length) (zs := sortI a) (by simp) (by omega) (by omega))
  rw [hs] at hC
  generalize sortI a = b at *
  simp at hS hC ⊢
  simp [-List.length_flatMap, -List.map_take, e_trial_Survey_near_r11, e_trial_Survey_near_r12, g5, hS, hC]
  have h3 : ¬ σ.length ≤ σ.length - 1 := by have := List.length_pos_iff.2 hσ; omega
  have e1 := flat_len (f := intE) (w := 1) (fun _ => rfl) (compI b)
  rw [Nat.mul_one] at e1
  have hcl : D.cleanL ((compI b).flatMap intE) = true := k_clean (fun x => by simp) _
  rw [frz_sl h3 (cs := (compI b).flatMap intE ++ (List.replicate (a.length - (compI b).length) 0).flatMap intE) (by simp) (by omega)]
  generalize (List.replicate (a.length - (compI b).length) (0 : Int)).flatMap intE = X
  generalize hF : (compI b).flatMap intE = F at *
  have e2 : (F ++ X).take (compI b).length = F := List.take_left' e1
  simp [e2, hcl]

/-! ### The reference's -/

theorem L_bes {s : Surv} (h : Sv s) {a b : Nat} : ∀ (m i : Nat), i + m = s.l.length →
    WL T [1, 2, 3, 7] false f_ref04_beside_l7 [(1, .int .i64 a), (2, .int .i64 b), (3, .cref s.enc), (7, .int .i64 i)] σ
      (fun x e σ' => σ' = σ ∧ if anyB (s.l.drop i) (besT s a b) then x = .ret ∧ get e 6 = .bool true else x = .exit 0)
  | 0, i, hi => by
    refine WL_step e_ref04_beside_l7 ?_
    have h1 : ¬ i < s.l.length := by omega
    have h2 : s.l.drop i = [] := List.drop_eq_nil_of_le (by omega)
    simp [-List.length_flatMap, -List.map_take, e_ref04_beside_r0, e_ref04_beside_r1, e_ref04_beside_r2, e_ref04_beside_r3, e_ref04_beside_r4, e_ref04_beside_r5, e_ref04_beside_r6, e_ref04_beside_r8, h1, h2, anyB]
  | m + 1, i, hi => by
    refine WL_step e_ref04_beside_l7 ?_
    have h1 : i < s.l.length := by omega
    obtain ⟨x, hx⟩ : ∃ x, s.l[i]? = some x := ⟨_, List.getElem?_eq_getElem h1⟩
    have hn := h.n
    have h4 := wnext h1 (by omega)
    have h2 := flat_at (f := Seen.enc) (w := 4) (fun _ => rfl) hx
    have hS := fun σ => @C_Sure σ s x
    have ih := L_bes h (a := a) (b := b) m (i + 1) (by omega)
    have e1 : anyB (s.l.drop i) (besT s a b) = (besT s a b x || anyB (s.l.drop (i + 1)) (besT s a b)) := by rw [dropS hx]; rfl
    rw [e1]
    simp only [Seen.enc] at hS h2
    cases hs : sure s x
    · have e2 : besT s a b x = false := by simp [besT, hs]
      rw [hs] at hS
      rw [e2, Bool.false_or]
      simp [-List.length_flatMap, -List.map_take, e_ref04_beside_r0, e_ref04_beside_r1, e_ref04_beside_r2, e_ref04_beside_r3, e_ref04_beside_r4, e_ref04_beside_r5, e_ref04_beside_r6, e_ref04_beside_r8, h1, h2, h4, hS]
      exact WL.to ih (by simp) (by simp) fun x e σ' hh => hh
    · have e2 : besT s a b x = ((decide (x.f = a) && decide (x.t = b)) || (decide (x.f = b) && decide (x.t = a))) := by simp [besT, hs]
      rw [hs] at hS
      rw [e2]
      clear e1 e2
      obtain ⟨p1, hp1⟩ : ∃ p, p = decide (x.f = a) := ⟨_, rfl⟩
      obtain ⟨p2, hp2⟩ : ∃ p, p = decide (x.t = b) := ⟨_, rfl⟩
      obtain ⟨p3, hp3⟩ : ∃ p, p = decide (x.f = b) := ⟨_, rfl⟩
      obtain ⟨p4, hp4⟩ : ∃ p, p = decide (x.t = a) := ⟨_, rfl⟩
      have q1 : (x.f == (a : Int)) = p1 := by rw [hp1]; exact Bool.eq_iff_iff.2 (by simp)
      have q2 : (x.t == (b : Int)) = p2 := by rw [hp2]; exact Bool.eq_iff_iff.2 (by simp)
      have q3 : (x.f == (b : Int)) = p3 := by rw [hp3]; exact Bool.eq_iff_iff.2 (by simp)
      have q4 : (x.t == (a : Int)) = p4 := by rw [hp4]; exact Bool.eq_iff_iff.2 (by simp)
      rw [← hp1, ← hp2, ← hp3, ← hp4]
      clear hp1 hp2 hp3 hp4
      cases p1 <;> cases p2 <;> cases p3 <;> cases p4
      all_goals try simp only [Bool.and_self, Bool.or_self, Bool.and_true, Bool.and_false, Bool.true_and, Bool.false_and, Bool.or_true, Bool.or_false, Bool.true_or, Bool.false_or, if_true, Bool.false_eq_true, if_false]
      all_goals simp [-List.length_flatMap, -List.map_take, e_ref04_beside_r0, e_ref04_beside_r1, e_ref04_beside_r2, e_ref04_beside_r3, e_ref04_beside_r4, e_ref04_beside_r5, e_ref04_beside_r6, e_ref04_beside_r8, h1, h2, h4, hS, q1, q2, q3, q4]
      all_goals exact WL.to ih (by simp) rfl fun x e σ' hh => hh
theorem C_beside {s : Surv} (h : Sv s) {a b : Nat} : lim T (.call false i_ref04_beside [.agg [.int .i64 s.w, .int .i64 s.lv, .lst s.l.length (s.l.flatMap Seen.enc)], .int .i64 a, .int .i64 b] σ) = some (.val (.bool (adj s a b)) σ) := by
  refine call_of T_ref04_beside e_ref04_beside rfl ?_
  simp [-List.length_flatMap, -List.map_take, e_ref04_beside_r0, e_ref04_beside_r1, e_ref04_beside_r2, e_ref04_beside_r3, e_ref04_beside_r4, e_ref04_beside_r5, e_ref04_beside_r6, e_ref04_beside_r8]
  refine WL.to (L_bes (σ := [] :: σ) h (a := a) (b := b) s.l.length 0 (by omega)) (by simp) rfl ?_
  rintro x e σ' ⟨rfl, hh⟩
  rw [List.drop_zero] at hh
  unfold adj
  cases hA : anyB s.l (besT s a b)
  · rw [hA] at hh
    simp only [Bool.false_eq_true, if_false] at hh
    subst hh
    simp [-List.length_flatMap, -List.map_take, e_ref04_beside_r0, e_ref04_beside_r1, e_ref04_beside_r2, e_ref04_beside_r3, e_ref04_beside_r4, e_ref04_beside_r5, e_ref04_beside_r6, e_ref04_beside_r8]
  · rw [hA] at hh
    simp only [if_true] at hh
    obtain ⟨rfl, g6⟩ := hh
    simp [g6]
end Go.Proofs.Ytcjjdaifpboaaaa
