/-
  Programmes of layer 11: ladders and tables of the program.
-/
import Derived.Test.YtcccafphhmcifaaGreatE2
set_option linter.unusedVariables false
set_option linter.unusedSimpArgs false
namespace Go.Proofs.YtcccafphhmcifaaGreat
open Go Go.Abs Go.Lease
variable {σ : Stack}

theorem buildL_snoc (g : Int → Int) (bs : List Int) (b : Int) : buildL g (bs ++ [b]) = addR (buildL g bs) b (g b) := by
  unfold buildL; rw [List.foldl_append]; rfl
theorem addR_len {l : List Rn} {b c : Int} : (addR l b c).length ≤ l.length + 1 := by
  unfold addR
  cases h : l.getLast? with
  | none => have : l = [] := by simpa using h
            subst this; simp
  | some r =>
    simp only
    split <;> simp [List.length_dropLast]
theorem buildL_len (g : Int → Int) : ∀ (n : Nat) (bs : List Int), (buildL g (bs.take n)).length ≤ n
  | 0, bs => by simp [buildL]
  | n + 1, bs => by
    have ih := buildL_len g n bs
    rw [List.take_add_one]
    cases h : bs[n]? with
    | none => simpa using Nat.le_trans ih (Nat.le_succ n)
    | some b =>
      simp only [Option.toList_some]
      rw [buildL_snoc]
      exact Nat.le_trans addR_len (by omega)
/-- One more rung: a new one, or the last one is raised. -/
theorem addR_new {l : List Rn} {b c : Int} (h : ∀ r, l.getLast? = some r → r.c ≠ c) : addR l b c = l ++ [⟨b, c⟩] := by
  unfold addR
  cases hl : l.getLast? with
  | none => have : l = [] := by simpa using hl
            subst this; rfl
  | some r => simp only; rw [if_neg (h r hl)]
theorem addR_old {l : List Rn} {r : Rn} {b : Int} (h : l.getLast? = some r) : addR l b r.c = l.set (l.length - 1) ⟨b, r.c⟩ := by
  unfold addR
  rw [h]
  simp only [if_true]
  have hne : l ≠ [] := by rintro rfl; simp at h
  have e := List.dropLast_concat_getLast hne
  have hp := List.length_pos_iff.2 hne
  conv => rhs; rw [← e]
  rw [List.set_append_right _ _ (by simp [List.length_dropLast])]
  simp [List.length_dropLast]
theorem L_now {p : Pg} (hp : pgOk p = true) {i : Nat} {y : Yr} (hy : p.l[i]? = some y) {next : List Rn} (hr : rightL next = true) {bs : List Int} (hb : ∀ b ∈ bs, 0 ≤ b ∧ b ≤ held) (hbl : bs.length ≤ 1000000) {yl yi : Nat} : ∀ (m j v : Nat), j + m = bs.length →
    WL T [0, 1, 3, 4, 5, 24, 25, 26] false f_lease_work_ladders_1_l13 [(0, .yld yl yi), (1, .cref p.enc), (3, .lst next.length (next.flatMap Rn.enc)), (4, .int .i64 i), (5, .sl σ.length 0 v 0 (buildL (leastW p y (costI next)) (bs.take j)).length 2), (24, .lst bs.length (bs.flatMap intE)), (25, .int .i64 bs.length), (26, .int .i64 j)] ([.cells v ((buildL (leastW p y (costI next)) (bs.take j)).flatMap Rn.enc)] :: σ)
      (fun x e σ' => ∃ v, x = .exit 2 ∧ get e 0 = .yld yl yi ∧ get e 1 = .cref p.enc ∧ get e 3 = .lst next.length (next.flatMap Rn.enc) ∧ get e 4 = .int .i64 i ∧ get e 5 = .sl σ.length 0 v 0 (buildL (leastW p y (costI next)) bs).length 2 ∧ σ' = [.cells v ((buildL (leastW p y (costI next)) bs).flatMap Rn.enc)] :: σ)
  | 0, j, v, hj => by
    refine WL_step e_lease_work_ladders_1_l13 ?_
    have h1 : ¬ j < bs.length := by omega
    have h2 : bs.take j = bs := List.take_of_length_le (by omega)
    rw [h2]
    simp [-List.length_flatMap, -List.map_take, e_lease_work_ladders_1_r0, e_lease_work_ladders_1_r1, e_lease_work_ladders_1_r2, e_lease_work_ladders_1_r3, e_lease_work_ladders_1_r4, e_lease_work_ladders_1_r5, e_lease_work_ladders_1_r6, e_lease_work_ladders_1_r7, e_lease_work_ladders_1_r8, e_lease_work_ladders_1_r9, e_lease_work_ladders_1_r10, e_lease_work_ladders_1_r11, e_lease_work_ladders_1_r12, e_lease_work_ladders_1_r14, e_lease_work_ladders_1_r15, e_lease_work_ladders_1_r16, h1]
  | m + 1, j, v, hj => by
    refine WL_step e_lease_work_ladders_1_l13 ?_
    have h1 : j < bs.length := by omega
    obtain ⟨b, hx⟩ : ∃ x, bs[j]? = some x := ⟨_, List.getElem?_eq_getElem h1⟩
    have hbb := hb b (List.mem_of_getElem? hx)
    have a1 := int_at hx
    have w1 := wnext h1 (by omega)
    have hL := fun σ => C_least (σ := σ) hp hy hr hbb
    have ih := fun v => L_now hp hy hr hb hbl (yl := yl) (yi := yi) m (j + 1) v (by omega)
    have e1 : bs.take (j + 1) = bs.take j ++ [b] := by rw [List.take_add_one, hx]; rfl
    rw [e1, buildL_snoc] at ih
    have hll := buildL_len (leastW p y (costI next)) j bs
    generalize buildL (leastW p y (costI next)) (bs.take j) = l at *
    generalize leastW p y (costI next) b = c at *
    have a3 := flat_len (f := Rn.enc) (w := 2) (fun _ => rfl) l
    have a5 : (l.flatMap Rn.enc).take (l.length * 2) = l.flatMap Rn.enc := List.take_of_length_le (by omega)
    have g7 : (l.length + 1) * 16 ≤ room := by unfold room; omega
    by_cases hn : l = []
    · subst hn
      rw [addR_new (by simp)] at ih
      have r16 : 16 ≤ room := by unfold room; omega
      simp [-List.length_flatMap, -List.map_take, e_lease_work_ladders_1_r0, e_lease_work_ladders_1_r1, e_lease_work_ladders_1_r2, e_lease_work_ladders_1_r3, e_lease_work_ladders_1_r4, e_lease_work_ladders_1_r5, e_lease_work_ladders_1_r6, e_lease_work_ladders_1_r7, e_lease_work_ladders_1_r8, e_lease_work_ladders_1_r9, e_lease_work_ladders_1_r10, e_lease_work_ladders_1_r11, e_lease_work_ladders_1_r12, e_lease_work_ladders_1_r14, e_lease_work_ladders_1_r15, e_lease_work_ladders_1_r16, h1, a1, w1, hL, r16]
      refine WL.to (ih (v + 1)) (by simp) (by simp) fun x e σ hh => hh
    have hp0 := List.length_pos_iff.2 hn
    obtain ⟨r, hlast⟩ : ∃ r, l.getLast? = some r := ⟨_, List.getLast?_eq_some_getLast hn⟩
    have hlr : l[l.length - 1]? = some r := by rw [← List.getLast?_eq_getElem?]; exact hlast
    have a2 := k_drop (f := Rn.enc) (w := 2) (fun _ => rfl) hlr
    have a2' : (l.flatMap Rn.enc).drop ((l.length - 1) * 2 + 1) = .int .i64 r.c :: (l.flatMap Rn.enc).drop ((l.length - 1) * 2 + 2) := by rw [← List.drop_drop, a2]; rfl
    have c3 : (l.length - 1) * 2 + 1 ≤ l.length * 2 := by omega
    have v1 : IntKind.i64.wrap ((l.length : Int) - 1) = ((l.length - 1 : Nat) : Int) := by rw [w64 (by omega)]; omega
    have c1 : l.length - 1 < l.length := by omega
    have c2 : (0 : Int) < l.length := by omega
    by_cases hc : r.c = c
    · subst hc
      rw [addR_old hlast] at ih
      have k1 := k_set (f := Rn.enc) (w := 2) (fun _ => rfl) (x := ⟨b, r.c⟩) c1
      have hsl : (l.set (l.length - 1) ⟨b, r.c⟩).length = l.length := by simp
      rw [hsl, ← k1] at ih
      simp [-List.length_flatMap, -List.map_take, e_lease_work_ladders_1_r0, e_lease_work_ladders_1_r1, e_lease_work_ladders_1_r2, e_lease_work_ladders_1_r3, e_lease_work_ladders_1_r4, e_lease_work_ladders_1_r5, e_lease_work_ladders_1_r6, e_lease_work_ladders_1_r7, e_lease_work_ladders_1_r8, e_lease_work_ladders_1_r9, e_lease_work_ladders_1_r10, e_lease_work_ladders_1_r11, e_lease_work_ladders_1_r12, e_lease_work_ladders_1_r14, e_lease_work_ladders_1_r15, e_lease_work_ladders_1_r16, h1, a1, a2, a2', a3, w1, hL, v1, c1, c2, c3, hp0]
      refine WL.to (ih v) (by simp) (by simp) fun x e σ hh => hh
    · rw [addR_new (fun r' h' => by rw [hlast] at h'; cases h'; exact hc)] at ih
      simp [-List.length_flatMap, -List.map_take, e_lease_work_ladders_1_r0, e_lease_work_ladders_1_r1, e_lease_work_ladders_1_r2, e_lease_work_ladders_1_r3, e_lease_work_ladders_1_r4, e_lease_work_ladders_1_r5, e_lease_work_ladders_1_r6, e_lease_work_ladders_1_r7, e_lease_work_ladders_1_r8, e_lease_work_ladders_1_r9, e_lease_work_ladders_1_r10, e_lease_work_ladders_1_r11, e_lease_work_ladders_1_r12, e_lease_work_ladders_1_r14, e_lease_work_ladders_1_r15, e_lease_work_ladders_1_r16, h1, a1, a2, a2', a3, a5, w1, hL, v1, c1, c2, hp0, hc, g7]
      refine WL.to (ih (v + 1)) (by simp) (by simp) fun x e σ hh => hh
end Go.Proofs.YtcccafphhmcifaaGreat
