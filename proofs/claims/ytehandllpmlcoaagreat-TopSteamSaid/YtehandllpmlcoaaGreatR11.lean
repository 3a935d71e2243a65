/-
  Links.
-/
import Derived.Test.YtehandllpmlcoaaGreatR10
set_option linter.unusedVariables false
set_option linter.unusedSimpArgs false
namespace Go.Proofs.YtehandllpmlcoaaGreat
open Go Go.Abs Go.Rock
variable {σ : Stack}

theorem C_links {b : Bed} : lim T (.call false i_rock_Bed_links [.agg [.int .i64 b.f.x, .int .i64 b.f.y, .int .i64 b.f.z, .int .i64 b.f.k, .lst b.tab.length (b.tab.flatMap Rw.enc), .int .i64 b.stiff, .int .i64 b.lift, .int .i64 b.deep, .lst b.wells.length (b.wells.flatMap Bore.enc)]] σ) = some (.val (.fn i_rock_Bed_links_1 [] [.cref [.int .i64 b.f.x, .int .i64 b.f.y, .int .i64 b.f.z, .int .i64 b.f.k, .lst b.tab.length (b.tab.flatMap Rw.enc), .int .i64 b.stiff, .int .i64 b.lift, .int .i64 b.deep, .lst b.wells.length (b.wells.flatMap Bore.enc)]]) σ) := by
  refine call_of T_rock_Bed_links e_rock_Bed_links rfl ?_
  simp [-List.length_flatMap, -List.map_take, eF, cl_rw, cl_bore, cl_int]
theorem Bv.xy {b : Bed} (h : Bv b) : b.f.x = (b.f.x.toNat : Int) ∧ b.f.y = (b.f.y.toNat : Int) ∧ 1 ≤ b.f.x.toNat * b.f.y.toNat ∧ b.f.x.toNat * b.f.y.toNat ≤ 64 := by
  have hx := h.x; have hy := h.y
  obtain ⟨s1, _⟩ := Fld.sz h.x h.y h.z
  have e1 : b.f.x * b.f.y = ((b.f.x.toNat * b.f.y.toNat : Nat) : Int) := by push_cast; rw [Int.toNat_of_nonneg (by omega), Int.toNat_of_nonneg (by omega)]
  rw [e1] at s1
  refine ⟨by omega, by omega, by omega, by omega⟩
theorem Bv.nat {b : Bed} (h : Bv b) : b.n = b.f.x.toNat * b.f.y.toNat * b.f.z.toNat ∧ 1 ≤ b.f.x.toNat ∧ 1 ≤ b.f.y.toNat := by
  have hx := h.x; have hy := h.y; have hz := h.z; have hs := h.sz
  refine ⟨?_, by omega, by omega⟩
  have : ((b.f.x.toNat * b.f.y.toNat * b.f.z.toNat : Nat) : Int) = b.f.size := by
    push_cast; rw [Int.toNat_of_nonneg (by omega), Int.toNat_of_nonneg (by omega), Int.toNat_of_nonneg (by omega)]; rfl
  omega
theorem link1 {X W i n : Nat} (hn : n = X * W) (hi : i < n) (hc : (i + 1) % X ≠ 0) : i + 1 < n := by
  rcases Nat.lt_or_ge (i + 1) n with h | h
  · exact h
  · have : i + 1 = X * W := by omega
    rw [this, Nat.mul_mod_right] at hc
    exact absurd rfl hc
theorem link2 {X Y Z i n : Nat} (hX : 1 ≤ X) (hY : 1 ≤ Y) (hn : n = X * Y * Z) (hi : i < n) (hc : i / X % Y ≠ Y - 1) : i + X < n := by
  have h1 : i / X < Y * Z := by rw [Nat.div_lt_iff_lt_mul hX, Nat.mul_comm, ← Nat.mul_assoc]; omega
  have h2 : i / X + 1 < Y * Z := by
    rcases Nat.lt_or_ge (i / X + 1) (Y * Z) with h | h
    · exact h
    · exfalso
      have h3 : i / X + 1 = Y * Z := by omega
      have hZ : 1 ≤ Z := by
        rcases Nat.eq_zero_or_pos Z with h0 | h0
        · subst h0; omega
        · exact h0
      have h4 : i / X = Y * (Z - 1) + (Y - 1) := by
        have : Y * Z = Y * (Z - 1) + Y := by rw [← Nat.mul_succ]; congr 1; omega
        omega
      rw [h4, Nat.mul_add_mod, Nat.mod_eq_of_lt (by omega)] at hc
      exact hc rfl
  have h3 : i < (i / X + 1) * X := by
    have := Nat.div_add_mod i X
    have h4 := Nat.mod_lt i (show X > 0 by omega)
    rw [Nat.add_mul, Nat.one_mul, Nat.mul_comm (i / X) X]; omega
  have h5 : (i / X + 1) * X + X ≤ n := by
    have : (i / X + 1 + 1) * X ≤ Y * Z * X := Nat.mul_le_mul_right _ h2
    rw [Nat.add_mul (i / X + 1) 1 X, Nat.one_mul, Nat.mul_comm (Y * Z) X, ← Nat.mul_assoc] at this
    omega
  omega
theorem L_links {b : Bed} (h : Bv b) {lv j N : Nat} {St : List (Nat × Nat) → Stack} (hN : ∀ pre, (St pre).length = N)
    (hR : ∀ pre, ∀ l : Nat × Nat, l.1 < b.n → l.2 < b.n → l.1 ≠ l.2 → lim T (.round lv j [.agg [.int .i64 l.1, .int .i64 l.2]] ([] :: St pre)) = some (.val (.bool true) ([] :: St (pre ++ [l])))) : ∀ (n i : Nat) (pre : List (Nat × Nat)), i + n = b.n →
    WL T [0, 1, 3, 4, 13, 14] false f_rock_Bed_links_1_l8 [(0, .yld lv j), (1, .cref [.int .i64 b.f.x, .int .i64 b.f.y, .int .i64 b.f.z, .int .i64 b.f.k, .lst b.tab.length (b.tab.flatMap Rw.enc), .int .i64 b.stiff, .int .i64 b.lift, .int .i64 b.deep, .lst b.wells.length (b.wells.flatMap Bore.enc)]), (3, .int .i64 b.f.x), (4, .int .i64 b.f.y), (13, .int .i64 b.n), (14, .int .i64 i)] ([] :: St pre)
      (fun x e σ' => σ' = [] :: St (pre ++ ((List.range b.n).drop i).flatMap (linksAt b)) ∧ x = .exit 0)
  | 0, i, pre, hi => by
    refine WL_step e_rock_Bed_links_1_l8 ?_
    have h1 : ¬ i < b.n := by omega
    have h2 : (List.range b.n).drop i = [] := List.drop_eq_nil_of_le (by simp; omega)
    simp [-List.length_flatMap, -List.map_take, eF, h1, h2]
  | n + 1, i, pre, hi => by
    refine WL_step e_rock_Bed_links_1_l8 ?_
    have h1 : i < b.n := by omega
    have hn := h.n
    have hx := h.x; have hy := h.y
    obtain ⟨eX, eY, p1, p2⟩ := h.xy
    have h4 := wnext h1 (by omega)
    have hs := fun σ => C_rsize' (σ := σ) h
    have h5 : (List.range b.n).drop i = i :: (List.range b.n).drop (i + 1) := drop_at (by simp [h1])
    have w1 := w64 (n := b.f.x * b.f.y) (by rw [eX, eY]; omega)
    obtain ⟨hnn, X1, Y1⟩ := h.nat
    have hx0 : ¬ b.f.x = 0 := by omega
    have hy0 : ¬ b.f.y = 0 := by omega
    have ih := fun pre => L_links h hN hR n (i + 1) pre (by omega)
    have e1 : ((i : Int) + 1).tmod b.f.x = (((i + 1) % b.f.x.toNat : Nat) : Int) := by
      conv => lhs; rw [eX]
      rfl
    have e2 : (i : Int) / b.f.x = ((i / b.f.x.toNat : Nat) : Int) := by
      conv => lhs; rw [eX]
      rfl
    have e2b : (i : Int).tdiv b.f.x = ((i / b.f.x.toNat : Nat) : Int) := by
      conv => lhs; rw [eX]
      rfl
    have e3 : ((i / b.f.x.toNat : Nat) : Int).tmod b.f.y = ((i / b.f.x.toNat % b.f.y.toNat : Nat) : Int) := by
      conv => lhs; rw [eY]
      rfl
    have e4 : b.f.x * b.f.y = ((b.f.x.toNat * b.f.y.toNat : Nat) : Int) := by
      conv => lhs; rw [eX, eY]
      rfl
    have hq : i / b.f.x.toNat ≤ i := Nat.div_le_self _ _
    have hr1 : (i + 1) % b.f.x.toNat ≤ i + 1 := Nat.mod_le _ _
    have hr2 : i / b.f.x.toNat % b.f.y.toNat ≤ i / b.f.x.toNat := Nat.mod_le _ _
    have l1 := link1 (W := b.f.y.toNat * b.f.z.toNat) (by rw [hnn, Nat.mul_assoc]) h1
    have l2 := link2 (Z := b.f.z.toNat) X1 Y1 hnn h1
    have R1 := fun pre hc => hR pre (i, i + 1) h1 (l1 hc) (by simp)
    have R2 := fun pre hc => hR pre (i, i + b.f.x.toNat) h1 (l2 hc) (by simp; omega)
    have R3 := fun pre hc => hR pre (i, i + b.f.x.toNat * b.f.y.toNat) h1 hc (by simp; omega)
    have z2 : ((i + b.f.x.toNat : Nat) : Int) = (i : Int) + b.f.x := by omega
    have z3 : ((i + b.f.x.toNat * b.f.y.toNat : Nat) : Int) = (i : Int) + b.f.x * b.f.y := by rw [e4]; omega
    have z1 : ((i + 1 : Nat) : Int) = (i : Int) + 1 := rfl
    simp only [z1, z2, z3] at R1 R2 R3
    generalize hA : i / b.f.x.toNat = A at *
    generalize hB : A % b.f.y.toNat = B at *
    generalize hC : (i + 1) % b.f.x.toNat = C at *
    generalize hP : b.f.x.toNat * b.f.y.toNat = P at *
    have v1 := w64 (n := (A : Int)) (by omega)
    have v2 := w64 (n := (B : Int)) (by omega)
    have v3 := w64 (n := (C : Int)) (by omega)
    have v4 := w64 (n := b.f.y - 1) (by omega)
    have v5 := w64 (n := (i : Int) + b.f.x) (by omega)
    have v6 := w64 (n := (i : Int) + b.f.x * b.f.y) (by rw [e4]; omega)
    have v7 := w64 (n := b.f.x * b.f.y) (by rw [e4]; omega)
    have c3 : ((i : Int) + b.f.x * b.f.y < (b.n : Int)) ↔ (i + P < b.n) := by rw [e4]; omega
    have hL : linksAt b i = (if C ≠ 0 then [(i, i + 1)] else []) ++ ((if B ≠ b.f.y.toNat - 1 then [(i, i + b.f.x.toNat)] else []) ++ (if i + P < b.n then [(i, i + P)] else [])) := by
      unfold linksAt; rw [hC, hA, hB, hP]
    rw [h5, List.flatMap_cons, hL]
    clear hL hnn l1 l2
    have t1 : ((C : Int) = 0) ↔ (C = 0) := by omega
    have t2 : ((B : Int) = b.f.y - 1) ↔ (B = b.f.y.toNat - 1) := by omega
    by_cases k1 : C = 0 <;> by_cases k2 : B = b.f.y.toNat - 1 <;> by_cases k3 : i + P < b.n
    all_goals
      first | (have u1 := t1.2 k1) | (have u1 := mt t1.1 k1)
      first | (have u2 := t2.2 k2) | (have u2 := mt t2.1 k2)
      have ih' := ih (pre ++ ((if C ≠ 0 then [(i, i + 1)] else []) ++ ((if B ≠ b.f.y.toNat - 1 then [(i, i + b.f.x.toNat)] else []) ++ (if i + P < b.n then [(i, i + P)] else []))))
      first
        | (rw [if_neg (not_not_intro k1)] at ih' ⊢) | (rw [if_pos k1] at ih' ⊢)
      first
        | (rw [if_neg (not_not_intro k2)] at ih' ⊢) | (rw [if_pos k2] at ih' ⊢)
      first
        | (rw [if_neg k3] at ih' ⊢) | (rw [if_pos k3] at ih' ⊢)
      have g1 := fun pre => R1 pre
      have g2 := fun pre => R2 pre
      have g3 := fun pre => R3 pre
      first | (have g1 := fun pre => R1 pre k1) | skip
      first | (have g2 := fun pre => R2 pre k2) | skip
      first | (have g3 := fun pre => R3 pre k3) | skip
      simp [-List.length_flatMap, -List.map_take, eF, h1, h4, hx0, hy0, e1, e2, e2b, e3, v1, v2, v3, v4, v5, v6, v7, c3, u1, u2, k1, k3, hs, g1, g2, g3]
      refine WL.to ih' (by simp) (by simp) fun x e σ hh => by simpa using hh
theorem C_links1 {b : Bed} (h : Bv b) {lv j N : Nat} {St : List (Nat × Nat) → Stack} (hN : ∀ pre, (St pre).length = N)
    (hR : ∀ pre, ∀ l : Nat × Nat, l.1 < b.n → l.2 < b.n → l.1 ≠ l.2 → lim T (.round lv j [.agg [.int .i64 l.1, .int .i64 l.2]] ([] :: St pre)) = some (.val (.bool true) ([] :: St (pre ++ [l])))) :
    lim T (.call false i_rock_Bed_links_1 [.yld lv j, .cref [.int .i64 b.f.x, .int .i64 b.f.y, .int .i64 b.f.z, .int .i64 b.f.k, .lst b.tab.length (b.tab.flatMap Rw.enc), .int .i64 b.stiff, .int .i64 b.lift, .int .i64 b.deep, .lst b.wells.length (b.wells.flatMap Bore.enc)]] (St [])) = some (.val (.tup []) (St (links b))) := by
  refine call_to T_rock_Bed_links_1 e_rock_Bed_links_1 rfl (by rw [hN, hN]) ?_
  have hs := fun σ => C_rsize' (σ := σ) h
  simp [-List.length_flatMap, -List.map_take, eF, hs]
  refine WL.to (L_links h hN hR b.n 0 [] (by omega)) (by simp) rfl ?_
  rintro x e σ' ⟨rfl, rfl⟩
  simp [-List.length_flatMap, -List.map_take, eF, links]
end Go.Proofs.YtehandllpmlcoaaGreat
