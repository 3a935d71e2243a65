/- What functions of the program answer, and what follows; part 1. -/
import Derived.Test.YtehandllpmlcoaaGreatTxt0
/-
  Links.
-/
set_option linter.unusedVariables false
set_option linter.unusedSimpArgs false
namespace Go.Proofs.YtehandllpmlcoaaGreat
open Go Go.Abs Go.Rock
variable {σ : Stack}

theorem C_links {b : Bed} : lim T (.call false i_rock_Bed_links [.agg [.int .i64 b.f.x, .int .i64 b.f.y, .int .i64 b.f.z, .int .i64 b.f.k, .lst b.tab.length (b.tab.flatMap Rw.enc), .int .i64 b.stiff, .int .i64 b.lift, .int .i64 b.deep, .lst b.wells.length (b.wells.flatMap Bore.enc)]] σ) = some (.val (.fn i_rock_Bed_links_1 [] [.cref [.int .i64 b.f.x, .int .i64 b.f.y, .int .i64 b.f.z, .int .i64 b.f.k, .lst b.tab.length (b.tab.flatMap Rw.enc), .int .i64 b.stiff, .int .i64 b.lift, .int .i64 b.deep, .lst b.wells.length (b.wells.flatMap Bore.enc)]]) σ) := by
  refine call_of T_rock_Bed_links e_rock_Bed_links rfl ?_
  simp [-List.length_flatMap, -List.map_take, eF, cl_rw, cl_bore, cl_int]
theorem Bv.xy {b : Bed} (h : Bv b) : b.f.x = (b.f.x.toNat : Int) ∧ b.f.y = (b.f.y.toNat : Int) ∧ 1 ≤ b.f.x.toNat * b.f.y.toNat ∧ b.f.x.toNat * b.f.y.toNat ≤ 64 := by
  have hx := h.x; have hy := h.y
  obtain ⟨s1, _⟩ := Fld.sz h.x h.y h.z
  have e1 : b.f.x * b.f.y = ((b.f.x.toNat * b.f.y.toNat : Nat) : Int) := by push_cast; rw [Int.toNat_of_nonneg (by omega), Int.toNat_of_nonneg (by omega)]
  rw [e1] at s1
  refine ⟨by omega, by omega, by omega, by omega⟩
theorem Bv.nat {b : Bed} (h : Bv b) : b.n = b.f.x.toNat * b.f.y.toNat * b.f.z.toNat ∧ 1 ≤ b.f.x.toNat ∧ 1 ≤ b.f.y.toNat := by
  have hx := h.x; have hy := h.y; have hz := h.z; have hs := h.sz
  refine ⟨?_, by omega, by omega⟩
  have : ((b.f.x.toNat * b.f.y.toNat * b.f.z.toNat : Nat) : Int) = b.f.size := by
    push_cast; rw [Int.toNat_of_nonneg (by omega), Int.toNat_of_nonneg (by omega), Int.toNat_of_nonneg (by omega)]; rfl
  omega
theorem link1 {X W i n : Nat} (hn : n = X * W) (hi : i < n) (hc : (i + 1) % X ≠ 0) : i + 1 < n := by
  rcases Nat.lt_or_ge (i + 1) n with h | h
  · exact h
  · have : i + 1 = X * W := by omega
    rw [this, Nat.mul_mod_right] at hc
    exact absurd rfl hc
theorem link2 {X Y Z i n : Nat} (hX : 1 ≤ X) (hY : 1 ≤ Y) (hn : n = X * Y * Z) (hi : i < n) (hc : i / X % Y ≠ Y - 1) : i + X < n := by
  have h1 : i / X < Y * Z := by rw [Nat.div_lt_iff_lt_mul hX, Nat.mul_comm, ← Nat.mul_assoc]; omega
  have h2 : i / X + 1 < Y * Z := by
    rcases Nat.lt_or_ge (i / X + 1) (Y * Z) with h | h
    · exact h
    · exfalso
      have h3 : i / X + 1 = Y * Z := by omega
      have hZ : 1 ≤ Z := by
        rcases Nat.eq_zero_or_pos Z with h0 | h0
        · subst h0; omega
        · exact h0
      have h4 : i / X = Y * (Z - 1) + (Y - 1) := by
        have : Y * Z = Y * (Z - 1) + Y := by rw [← Nat.mul_succ]; congr 1; omega
        omega
      rw [h4, Nat.mul_add_mod, Nat.mod_eq_of_lt (by omega)] at hc
      exact hc rfl
  have h3 : i < (i / X + 1) * X := by
    have := Nat.div_add_mod i X
    have h4 := Nat.mod_lt i (show X > 0 by omega)
    rw [Nat.add_mul, Nat.one_mul, Nat.mul_comm (i / X) X]; omega
  have h5 : (i / X + 1) * X + X ≤ n := by
    have : (i / X + 1 + 1) * X ≤ Y * Z * X := Nat.mul_le_mul_right _ h2
    rw [Nat.add_mul (i / X + 1) 1 X, Nat.one_mul, Nat.mul_comm (Y * Z) X, ← Nat.mul_assoc] at this
    omega
  omega
theorem L_links {b : Bed} (h : Bv b) {lv j N : Nat} {St : List (Nat × Nat) → Stack} (hN : ∀ pre, (St pre).length = N)
    (hR : ∀ pre, ∀ l : Nat × Nat, l.1 < b.n → l.2 < b.n → l.1 ≠ l.2 → lim T (.round lv j [.agg [.int .i64 l.1, .int .i64 l.2]] ([] :: St pre)) = some (.val (.bool true) ([] :: St (pre ++ [l])))) : ∀ (n i : Nat) (pre : List (Nat × Nat)), i + n = b.n →
    WL T [0, 1, 3, 4, 13, 14] false f_rock_Bed_links_1_l8 [(0, .yld lv j), (1, .cref [.int .i64 b.f.x, .int .i64 b.f.y, .int .i64 b.f.z, .int .i64 b.f.k, .lst b.tab.length (b.tab.flatMap Rw.enc), .int .i64 b.stiff, .int .i64 b.lift, .int .i64 b.deep, .lst b.wells.length (b.wells.flatMap Bore.enc)]), (3, .int .i64 b.f.x), (4, .int .i64 b.f.y), (13, .int .i64 b.n), (14, .int .i64 i)] ([] :: St pre)
      (fun x e σ' => σ' = [] :: St (pre ++ ((List.range b.n).drop i).flatMap (linksAt b)) ∧ x = .exit 0)
  | 0, i, pre, hi => by
    refine WL_step e_rock_Bed_links_1_l8 ?_
    have h1 : ¬ i < b.n := by omega
    have h2 : (List.range b.n).drop i = [] := List.drop_eq_nil_of_le (by simp; omega)
    simp [-List.length_flatMap, -List.map_take, eF, h1, h2]
  | n + 1, i, pre, hi => by
    refine WL_step e_rock_Bed_links_1_l8 ?_
    have h1 : i < b.n := by omega
    have hn := h.n
    have hx := h.x; have hy := h.y
    obtain ⟨eX, eY, p1, p2⟩ := h.xy
    have h4 := wnext h1 (by omega)
    have hs := fun σ => C_rsize' (σ := σ) h
    have h5 : (List.range b.n).drop i = i :: (List.range b.n).drop (i + 1) := drop_at (by simp [h1])
    have w1 := w64 (n := b.f.x * b.f.y) (by rw [eX, eY]; omega)
    obtain ⟨hnn, X1, Y1⟩ := h.nat
    have hx0 : ¬ b.f.x = 0 := by omega
    have hy0 : ¬ b.f.y = 0 := by omega
    have ih := fun pre => L_links h hN hR n (i + 1) pre (by omega)
    have e1 : ((i : Int) + 1).tmod b.f.x = (((i + 1) % b.f.x.toNat : Nat) : Int) := by
      conv => lhs; rw [eX]
      rfl
    have e2 : (i : Int) / b.f.x = ((i / b.f.x.toNat : Nat) : Int) := by
      conv => lhs; rw [eX]
      rfl
    have e2b : (i : Int).tdiv b.f.x = ((i / b.f.x.toNat : Nat) : Int) := by
      conv => lhs; rw [eX]
      rfl
    have e3 : ((i / b.f.x.toNat : Nat) : Int).tmod b.f.y = ((i / b.f.x.toNat % b.f.y.toNat : Nat) : Int) := by
      conv => lhs; rw [eY]
      rfl
    have e4 : b.f.x * b.f.y = ((b.f.x.toNat * b.f.y.toNat : Nat) : Int) := by
      conv => lhs; rw [eX, eY]
      rfl
    have hq : i / b.f.x.toNat ≤ i := Nat.div_le_self _ _
    have hr1 : (i + 1) % b.f.x.toNat ≤ i + 1 := Nat.mod_le _ _
    have hr2 : i / b.f.x.toNat % b.f.y.toNat ≤ i / b.f.x.toNat := Nat.mod_le _ _
    have l1 := link1 (W := b.f.y.toNat * b.f.z.toNat) (by rw [hnn, Nat.mul_assoc]) h1
    have l2 := link2 (Z := b.f.z.toNat) X1 Y1 hnn h1
    have R1 := fun pre hc => hR pre (i, i + 1) h1 (l1 hc) (by simp)
    have R2 := fun pre hc => hR pre (i, i + b.f.x.toNat) h1 (l2 hc) (by simp; omega)
    have R3 := fun pre hc => hR pre (i, i + b.f.x.toNat * b.f.y.toNat) h1 hc (by simp; omega)
    have z2 : ((i + b.f.x.toNat : Nat) : Int) = (i : Int) + b.f.x := by omega
    have z3 : ((i + b.f.x.toNat * b.f.y.toNat : Nat) : Int) = (i : Int) + b.f.x * b.f.y := by rw [e4]; omega
    have z1 : ((i + 1 : Nat) : Int) = (i : Int) + 1 := rfl
    simp only [z1, z2, z3] at R1 R2 R3
    generalize hA : i / b.f.x.toNat = A at *
    generalize hB : A % b.f.y.toNat = B at *
    generalize hC : (i + 1) % b.f.x.toNat = C at *
    generalize hP : b.f.x.toNat * b.f.y.toNat = P at *
    have v1 := w64 (n := (A : Int)) (by omega)
    have v2 := w64 (n := (B : Int)) (by omega)
    have v3 := w64 (n := (C : Int)) (by omega)
    have v4 := w64 (n := b.f.y - 1) (by omega)
    have v5 := w64 (n := (i : Int) + b.f.x) (by omega)
    have v6 := w64 (n := (i : Int) + b.f.x * b.f.y) (by rw [e4]; omega)
    have v7 := w64 (n := b.f.x * b.f.y) (by rw [e4]; omega)
    have c3 : ((i : Int) + b.f.x * b.f.y < (b.n : Int)) ↔ (i + P < b.n) := by rw [e4]; omega
    have hL : linksAt b i = (if C ≠ 0 then [(i, i + 1)] else []) ++ ((if B ≠ b.f.y.toNat - 1 then [(i, i + b.f.x.toNat)] else []) ++ (if i + P < b.n then [(i, i + P)] else [])) := by
      unfold linksAt; rw [hC, hA, hB, hP]
    rw [h5, List.flatMap_cons, hL]
    clear hL hnn l1 l2
    have t1 : ((C : Int) = 0) ↔ (C = 0) := by omega
    have t2 : ((B : Int) = b.f.y - 1) ↔ (B = b.f.y.toNat - 1) := by omega
    by_cases k1 : C = 0 <;> by_cases k2 : B = b.f.y.toNat - 1 <;> by_cases k3 : i + P < b.n
    all_goals
      first | (have u1 := t1.2 k1) | (have u1 := mt t1.1 k1)
      first | (have u2 := t2.2 k2) | (have u2 := mt t2.1 k2)
      have ih' := ih (pre ++ ((if C ≠ 0 then [(i, i + 1)] else []) ++ ((if B ≠ b.f.y.toNat - 1 then [(i, i + b.f.x.toNat)] else []) ++ (if i + P < b.n then [(i, i + P)] else []))))
      first
        | (rw [if_neg (not_not_intro k1)] at ih' ⊢) | (rw [if_pos k1] at ih' ⊢)
      first
        | (rw [if_neg (not_not_intro k2)] at ih' ⊢) | (rw [if_pos k2] at ih' ⊢)
      first
        | (rw [if_neg k3] at ih' ⊢) | (rw [if_pos k3] at ih' ⊢)
      have g1 := fun pre => R1 pre
      have g2 := fun pre => R2 pre
      have g3 := fun pre => R3 pre
      first | (have g1 := fun pre => R1 pre k1) | skip
      first | (have g2 := fun pre => R2 pre k2) | skip
      first | (have g3 := fun pre => R3 pre k3) | skip
      simp [-List.length_flatMap, -List.map_take, eF, h1, h4, hx0, hy0, e1, e2, e2b, e3, v1, v2, v3, v4, v5, v6, v7, c3, u1, u2, k1, k3, hs, g1, g2, g3]
      refine WL.to ih' (by simp) (by simp) fun x e σ hh => by simpa using hh
theorem C_links1 {b : Bed} (h : Bv b) {lv j N : Nat} {St : List (Nat × Nat) → Stack} (hN : ∀ pre, (St pre).length = N)
    (hR : ∀ pre, ∀ l : Nat × Nat, l.1 < b.n → l.2 < b.n → l.1 ≠ l.2 → lim T (.round lv j [.agg [.int .i64 l.1, .int .i64 l.2]] ([] :: St pre)) = some (.val (.bool true) ([] :: St (pre ++ [l])))) :
    lim T (.call false i_rock_Bed_links_1 [.yld lv j, .cref [.int .i64 b.f.x, .int .i64 b.f.y, .int .i64 b.f.z, .int .i64 b.f.k, .lst b.tab.length (b.tab.flatMap Rw.enc), .int .i64 b.stiff, .int .i64 b.lift, .int .i64 b.deep, .lst b.wells.length (b.wells.flatMap Bore.enc)]] (St [])) = some (.val (.tup []) (St (links b))) := by
  refine call_to T_rock_Bed_links_1 e_rock_Bed_links_1 rfl (by rw [hN, hN]) ?_
  have hs := fun σ => C_rsize' (σ := σ) h
  simp [-List.length_flatMap, -List.map_take, eF, hs]
  refine WL.to (L_links h hN hR b.n 0 [] (by omega)) (by simp) rfl ?_
  rintro x e σ' ⟨rfl, rfl⟩
  simp [-List.length_flatMap, -List.map_take, eF, links]
end Go.Proofs.YtehandllpmlcoaaGreat

/-
  Flows.
-/
set_option linter.unusedVariables false
set_option linter.unusedSimpArgs false
namespace Go.Proofs.YtehandllpmlcoaaGreat
open Go Go.Abs Go.Rock
variable {σ : Stack}

/-- Flows, as a map's entries. -/
def flE (es : List ((Nat × Nat) × Rock.Blk)) : List D := es.map fun e => .tup [.agg [.int .i64 e.1.1, .int .i64 e.1.2], .agg e.2.enc]
def kyL : Ky := some (true, [some .i64, some .i64])
theorem keyL {a b : Nat × Nat} : keyQ kyL (.agg [.int .i64 a.1, .int .i64 a.2]) (.agg [.int .i64 b.1, .int .i64 b.2]) = some (b == a) := by
  simp only [keyQ, kyL, D.row, eqK, and_self, if_true, Option.map_some, Bool.and_true]
  congr 1
  rw [Bool.eq_iff_iff]
  simp only [Bool.and_eq_true, beq_iff_eq]
  constructor
  · rintro ⟨h1, h2⟩; exact Prod.ext (by omega) (by omega)
  · rintro rfl; exact ⟨rfl, rfl⟩
theorem findK_fl {k : Nat × Nat} : ∀ {es : List ((Nat × Nat) × Rock.Blk)}, ∃ r, findK kyL (.agg [.int .i64 k.1, .int .i64 k.2]) (flE es) = some r ∧ r.map Prod.fst = es.findIdx? (fun e => e.1 == k)
  | [] => ⟨none, rfl, rfl⟩
  | e :: es => by
    obtain ⟨r, h1, h2⟩ := findK_fl (k := k) (es := es)
    simp only [flE, List.map_cons] at h1 ⊢
    simp only [findK, keyL]
    cases hk : e.1 == k
    · refine ⟨_, by rw [h1]; rfl, ?_⟩
      rw [List.findIdx?_cons, hk, ← h2]
      cases r <;> rfl
    · exact ⟨_, rfl, by rw [List.findIdx?_cons, hk]; rfl⟩
theorem mpPutL {S : Stack} {l i : Nat} {es : List ((Nat × Nat) × Rock.Blk)} {k : Nat × Nat} {o : Rock.Blk} (h : cells? S l i 0 = some (flE es)) :
    mpD S (.put kyL) [.yld l i, .agg [.int .i64 k.1, .int .i64 k.2], .agg o.enc] = some (.undef, setBlk S l i (.cells 0 (flE (putL es k o)))) := by
  obtain ⟨r, h1, h2⟩ := findK_fl (k := k) (es := es)
  simp only [mpD, mapD, h, Option.map_some, h1, keyL, Option.isSome_some, true_and]
  rw [if_pos (.inr ⟨by simp [D.clean], by simp [D.clean]⟩)]
  unfold putL
  rw [← h2]
  cases r with
  | none => simp [flE]
  | some y => simp [flE, List.map_set]

/-! ### Bounds -/
theorem press_fold {x : Rock.Blk} {A : Int} (hA : 10000 ≤ A) : ∀ (t : List Rw) (o : Int), (∀ r ∈ t, r.alone = true) → (0 ≤ o ∧ o ≤ A) → 0 ≤ t.foldl (pressStep x) o ∧ t.foldl (pressStep x) o ≤ A
  | [], o, _, h => h
  | r :: t, o, ht, h => by
    have h1 := row_ok (ht r (by simp))
    refine press_fold hA t _ (fun r hr => ht r (by simp [hr])) ?_
    unfold pressStep
    split <;> omega
theorem press_b {b : Bed} {m : Mdl} {s : List Rock.Blk} (h : Fv b m) (hs : Sv b s) {i : Nat} (hi : i < b.n) : 0 ≤ pressure b m s i ∧ pressure b m s i ≤ 200000000000 := by
  have htab := h.bv.tab
  simp only [tabOk, Bool.and_eq_true] at htab
  refine press_fold (by omega) _ _ (allB_iff.1 htab.2.1) ?_
  have b5 := weight_b h.bv hi
  have b1 := h.hold i hi
  obtain ⟨hx, b2, b3, b4⟩ := hs.at hi
  have hst := h.bv.stiff
  have b6 : b.stiff * ((blkAt s i).m - hold b m i) ≤ 100000000000 := by
    rcases Int.le_total (hold b m i) (blkAt s i).m with hh | hh
    · have := mul_n (a := b.stiff) (b := (blkAt s i).m - hold b m i) (A := 100000) (B := 1000000) (by omega) hst.2 (by omega) (by omega); omega
    · have := mul_n (a := b.stiff) (b := hold b m i - (blkAt s i).m) (A := 100000) (B := 1000000) (by omega) hst.2 (by omega) (by omega)
      have e : b.stiff * ((blkAt s i).m - hold b m i) = - (b.stiff * (hold b m i - (blkAt s i).m)) := by rw [← Int.mul_neg]; congr 1; omega
      omega
  have b7 : down (b.stiff * ((blkAt s i).m - hold b m i)) (hold b m i) ≤ 100000000000 := by
    unfold down
    have := Int.ediv_le_self (b := hold b m i) (a := b.stiff * ((blkAt s i).m - hold b m i))
    rcases Int.le_total 0 (b.stiff * ((blkAt s i).m - hold b m i)) with hh | hh
    · have := this hh; omega
    · have := Int.ediv_le_of_le_mul (b := 0) (show 0 < hold b m i by omega) (by omega : b.stiff * ((blkAt s i).m - hold b m i) ≤ 0 * hold b m i); omega
  omega

/-! ### A round -/
theorem WC_eq {O : Oracle} {c c' : Cmd} (hc : c = c') {e : Env} {σ : Stack} {Q : Abs.Exit → Env → Stack → Prop} : WC O c e σ Q .mk .mk = WC O c' e σ Q .mk .mk := by subst hc; rfl

def lpF (b : Bed) (m : Mdl) (s : List Rock.Blk) (L : Nat) : LoopSt :=
  { state := 0, pend := none, env := [(2, .cref [.int .i64 b.f.x, .int .i64 b.f.y, .int .i64 b.f.z, .int .i64 b.f.k, .lst b.tab.length (b.tab.flatMap Rw.enc), .int .i64 b.stiff, .int .i64 b.lift, .int .i64 b.deep, .lst b.wells.length (b.wells.flatMap Bore.enc), .str m.name, .lst m.vals.length (m.vals.flatMap intE)]), (3, .cref [.lst s.length (s.flatMap Blk.enc)]), (4, .undef), (5, .ref L 3 0 0), (6, .ref L 4 0 0)], params := [18], asg := f_rock_bedded_flows_a12, body := f_rock_bedded_flows_b12 }
def stF (A B : Abs.Blk) (b : Bed) (m : Mdl) (s : List Rock.Blk) (σ : Stack) (es : List ((Nat × Nat) × Rock.Blk)) : Stack :=
  [A, B, .cells 0 (flE es), .cells 0 [.yld σ.length 2], .cells 0 [.lst (pressures b m s).length ((pressures b m s).flatMap intE)], .loop (lpF b m s σ.length)] :: σ
theorem R_flow {A B : Abs.Blk} {b : Bed} {m : Mdl} {s : List Rock.Blk} (h : Fv b m) (hs : Sv b s) (es : List ((Nat × Nat) × Rock.Blk)) (l : Nat × Nat) (h1 : l.1 < b.n) (h2 : l.2 < b.n) :
    lim T (.round σ.length 5 [.agg [.int .i64 l.1, .int .i64 l.2]] ([] :: stF A B b m s σ es)) = some (.val (.bool true) ([] :: stF A B b m s σ (flowStep b m s (pressures b m s) es l))) := by
  have hn := h.bv.n
  have hl := hs.len
  have hp1 : (pressures b m s)[l.1]? = some (pressure b m s l.1) := by simp [pressures, hl, h1]
  have hp2 : (pressures b m s)[l.2]? = some (pressure b m s l.2) := by simp [pressures, hl, h2]
  have a1 := intE_at hp1
  have a2 := intE_at hp2
  have hpl : (pressures b m s).length = b.n := by rw [pr_len, hl]
  have bp1 := press_b h hs h1
  have bp2 := press_b h hs h2
  have bw1 := weight_b h.bv h1
  have bw2 := weight_b h.bv h2
  have cw1 := fun σ => C_weight (σ := σ) (m := m) h.bv h1
  have cw2 := fun σ => C_weight (σ := σ) (m := m) h.bv h2
  have co1 := fun σ => C_open (σ := σ) h.toMv h1
  have co2 := fun σ => C_open (σ := σ) h.toMv h2
  have bo1 := h.opn l.1 h1
  have bo2 := h.opn l.2 h2
  obtain ⟨x1, m1, m2, m3⟩ := hs.at h1
  obtain ⟨y1, n1, n2, n3⟩ := hs.at h2
  have f1 := flat_at (f := Blk.enc) (w := 3) (fun _ => rfl) x1
  have f2 := flat_at (f := Blk.enc) (w := 3) (fun _ => rfl) y1
  have w1 := w64 (n := pressure b m s l.1 - weight b l.1) (by omega)
  have w2 := w64 (n := pressure b m s l.1 - weight b l.1 - pressure b m s l.2) (by omega)
  have w3 := w64 (n := pressure b m s l.1 - weight b l.1 - pressure b m s l.2 + weight b l.2) (by omega)
  have hL1 : l.1 < s.length := by omega
  have hL2 : l.2 < s.length := by omega
  have hE : flowStep b m s (pressures b m s) es l = flowStep b m s (pressures b m s) es l := rfl
  conv at hE => rhs; unfold flowStep flowAt
  simp only [hp1, hp2, Option.getD_some] at hE
  generalize flowStep b m s (pressures b m s) es l = es' at *
  have hmin : 0 ≤ min (opn b m l.2) (opn b m l.1) ∧ min (opn b m l.2) (opn b m l.1) ≤ 1000 := by omega
  have hmin' : 0 ≤ min (opn b m l.1) (opn b m l.2) ∧ min (opn b m l.1) (opn b m l.2) ≤ 1000 := by omega
  generalize hw1 : weight b l.1 = W1 at *
  generalize hw2 : weight b l.2 = W2 at *
  generalize hq1 : pressure b m s l.1 = P1 at *
  generalize hq2 : pressure b m s l.2 = P2 at *
  generalize hD : P1 - W1 - P2 + W2 = d at *
  refine round_of (lp := lpF b m s σ.length) (by simp [stF]) rfl ?_
  rw [show (lpF b m s σ.length).asg = f_rock_bedded_flows_a12 from rfl, e_rock_bedded_flows_a12, show (lpF b m s σ.length).body = f_rock_bedded_flows_b12 from rfl]
  by_cases hd : d < 0
  · simp only [hd, if_true] at hE
    have b3 := mul_n hmin.1 hmin.2 (show 0 ≤ -d by omega) (show -d ≤ 1000000000000 by omega)
    have w4 := w64 (n := -d) (by omega)
    have d1 := Int.tdiv_eq_ediv_of_nonneg (b := 1000) b3.1
    have d2 := Int.tdiv_eq_ediv_of_nonneg (b := 8) (show 0 ≤ (blkAt s l.2).m by omega)
    generalize hX : min (opn b m l.2) (opn b m l.1) * -d = X at *
    have w5 := w64 (n := X) (by omega)
    generalize hY : X.tdiv 1000 = Y at *
    generalize hZ : (blkAt s l.2).m.tdiv 8 = Z at *
    have w6 := w64 (n := Y) (by rw [d1]; omega)
    have w7 := w64 (n := Z) (by rw [d2]; omega)
    by_cases hq : 0 < min Y Z
    · have hO := fun σ => C_out (σ := σ) (q := min Y Z) n1 n2 n3 ⟨by omega, by rw [d2]; omega⟩
      have hP := fun S h => mpPutL (S := S) (l := σ.length) (i := 2) (es := es) (k := (l.2, l.1)) (o := (blkAt s l.2).out (min Y Z)) h
      rw [if_pos hq] at hE
      simp only at hE
      subst hE
      generalize (blkAt s l.2).out (min Y Z) = O at *
      simp only [Blk.enc] at hO
      simp only [Blk.enc, kyL] at hP

      simp [-List.length_flatMap, -List.map_take, eF, WC_eq e_rock_bedded_flows_b12, lpF, stF, midR, hpl, h1, h2, a1, a2, cw1, cw2, w1, w2, w3, hD, hd, co1, co2, hL1, hL2, f1, f2, w4, w5, w6, w7, hX, hY, hZ, hq, hO, hP]
    · rw [if_neg hq] at hE
      simp only at hE
      subst hE
      simp [-List.length_flatMap, -List.map_take, eF, WC_eq e_rock_bedded_flows_b12, lpF, stF, midR, hpl, h1, h2, a1, a2, cw1, cw2, w1, w2, w3, hD, hd, co1, co2, hL1, hL2, f1, f2, w4, w5, w6, w7, hX, hY, hZ, hq]
  · simp only [hd, if_false] at hE
    have b3 := mul_n hmin'.1 hmin'.2 (show 0 ≤ d by omega) (show d ≤ 1000000000000 by omega)
    have w4 := w64 (n := d) (by omega)
    have d1 := Int.tdiv_eq_ediv_of_nonneg (b := 1000) b3.1
    have d2 := Int.tdiv_eq_ediv_of_nonneg (b := 8) (show 0 ≤ (blkAt s l.1).m by omega)
    generalize hX : min (opn b m l.1) (opn b m l.2) * d = X at *
    have w5 := w64 (n := X) (by omega)
    generalize hY : X.tdiv 1000 = Y at *
    generalize hZ : (blkAt s l.1).m.tdiv 8 = Z at *
    have w6 := w64 (n := Y) (by rw [d1]; omega)
    have w7 := w64 (n := Z) (by rw [d2]; omega)
    by_cases hq : 0 < min Y Z
    · have hO := fun σ => C_out (σ := σ) (q := min Y Z) m1 m2 m3 ⟨by omega, by rw [d2]; omega⟩
      have hP := fun S h => mpPutL (S := S) (l := σ.length) (i := 2) (es := es) (k := l) (o := (blkAt s l.1).out (min Y Z)) h
      rw [if_pos hq] at hE
      simp only at hE
      subst hE
      generalize (blkAt s l.1).out (min Y Z) = O at *
      simp only [Blk.enc] at hO
      simp only [Blk.enc, kyL] at hP

      simp [-List.length_flatMap, -List.map_take, eF, WC_eq e_rock_bedded_flows_b12, lpF, stF, midR, hpl, h1, h2, a1, a2, cw1, cw2, w1, w2, w3, hD, hd, co1, co2, hL1, hL2, f1, f2, w4, w5, w6, w7, hX, hY, hZ, hq, hO, hP]
    · rw [if_neg hq] at hE
      simp only at hE
      subst hE
      simp [-List.length_flatMap, -List.map_take, eF, WC_eq e_rock_bedded_flows_b12, lpF, stF, midR, hpl, h1, h2, a1, a2, cw1, cw2, w1, w2, w3, hD, hd, co1, co2, hL1, hL2, f1, f2, w4, w5, w6, w7, hX, hY, hZ, hq]
/-- The flows of a state, kept in the caller's segment. -/
theorem C_flows {A B : Abs.Blk} {b : Bed} {m : Mdl} {s : List Rock.Blk} (h : Fv b m) (hs : Sv b s) : ∃ X Y Z : Abs.Blk,
    lim T (.call true i_rock_bedded_flows [.agg [.int .i64 b.f.x, .int .i64 b.f.y, .int .i64 b.f.z, .int .i64 b.f.k, .lst b.tab.length (b.tab.flatMap Rw.enc), .int .i64 b.stiff, .int .i64 b.lift, .int .i64 b.deep, .lst b.wells.length (b.wells.flatMap Bore.enc), .str m.name, .lst m.vals.length (m.vals.flatMap intE)], .lst s.length (s.flatMap Blk.enc)] ([A, B] :: σ)) = some (.val (.yld σ.length 2) ([A, B, .cells 0 (flE (flows b m s)), X, Y, Z] :: σ)) := by
  refine ⟨.cells 0 [.yld σ.length 2], .cells 0 [.lst (pressures b m s).length ((pressures b m s).flatMap intE)], .loop { lpF b m s σ.length with state := 3 }, ?_⟩
  refine call_kp T_rock_bedded_flows e_rock_bedded_flows rfl ?_
  have hp := fun σ hσ => C_pressures (σ := σ) h hs hσ
  have hl := C_links1 (b := b) h.bv (lv := σ.length) (j := 5) (N := σ.length + 1) (St := fun pre => stF A B b m s σ (pre.foldl (flowStep b m s (pressures b m s)) [])) (fun pre => by simp [stF])
    (fun pre l h1 h2 _ => by rw [List.foldl_append]; exact R_flow h hs _ l h1 h2)
  have hm : mpD ([A, B] :: σ) .make [] = some (.yld σ.length 2, [A, B, .cells 0 (flE [])] :: σ) := by simp [mpD, flE]
  simp [-List.length_flatMap, -List.map_take, eF, hp, C_links, cl_rw, cl_bore, cl_int, cl_blk, hm]
  refine WC_rngf (d := .tup []) (σ2 := stF A B b m s σ (flows b m s)) (lp := lpF b m s σ.length) (by simp; exact ⟨rfl, rfl, rfl⟩) ?_ (by simp [stF]) (by simp [lpF]) ?_
  · simpa [lpF, stF, flows] using hl
  · simp [-List.length_flatMap, -List.map_take, lpF, stF, eF]
end Go.Proofs.YtehandllpmlcoaaGreat

/-
  What is moved, in any order: plain Lean.
-/
set_option linter.unusedVariables false
set_option linter.unusedSimpArgs false
namespace Go.Proofs.YtehandllpmlcoaaGreat
open Go Go.Abs Go.Rock

/-- A state's numbers are small. -/
def bnd (N : Int) (s : List Rock.Blk) : Prop := ∀ x ∈ s, sm x N
theorem sm_mono {x : Rock.Blk} {N M : Int} (h : sm x N) (hN : N ≤ M) : sm x M := by
  obtain ⟨h1, h2, h3⟩ := h
  exact ⟨⟨by omega, by omega⟩, ⟨by omega, by omega⟩, ⟨by omega, by omega⟩⟩
theorem bnd_at {N : Int} {s : List Rock.Blk} (h : bnd N s) {i : Nat} (hi : i < s.length) : s[i]? = some (blkAt s i) ∧ sm (blkAt s i) N := by
  have h2 : s[i]? = some (blkAt s i) := by simp [blkAt, hi]
  exact ⟨h2, h _ (List.mem_of_getElem? h2)⟩
theorem move_len {s : List Rock.Blk} {i : Nat} {o : Rock.Blk} {sign : Int} : (moveAt s i o sign).length = s.length := by simp [moveAt]
theorem move_bnd {N M : Int} {s : List Rock.Blk} (h : bnd N s) {i : Nat} {o : Rock.Blk} {sign : Int} (ho : sm o M) (hs : sign = 1 ∨ sign = -1) (hM : 0 ≤ M) : bnd (N + M) (moveAt s i o sign) := by
  intro x hx
  unfold moveAt at hx
  by_cases hi : i < s.length
  · rcases List.mem_or_eq_of_mem_set hx with hx | rfl
    · exact sm_mono (h x hx) (by omega)
    · obtain ⟨a1, a2, a3⟩ := (bnd_at h hi).2
      obtain ⟨b1, b2, b3⟩ := ho
      rcases hs with rfl | rfl
      · exact ⟨⟨by simp only [Rock.Blk.move]; omega, by simp only [Rock.Blk.move]; omega⟩, ⟨by simp only [Rock.Blk.move]; omega, by simp only [Rock.Blk.move]; omega⟩, ⟨by simp only [Rock.Blk.move]; omega, by simp only [Rock.Blk.move]; omega⟩⟩
      · exact ⟨⟨by simp only [Rock.Blk.move]; omega, by simp only [Rock.Blk.move]; omega⟩, ⟨by simp only [Rock.Blk.move]; omega, by simp only [Rock.Blk.move]; omega⟩, ⟨by simp only [Rock.Blk.move]; omega, by simp only [Rock.Blk.move]; omega⟩⟩
  · rw [List.set_eq_of_length_le (by omega)] at hx
    exact sm_mono (h x hx) (by omega)
theorem move_comm {s : List Rock.Blk} {i j : Nat} {o p : Rock.Blk} {a c : Int} : moveAt (moveAt s i o a) j p c = moveAt (moveAt s j p c) i o a := by
  by_cases hij : i = j
  · subst hij
    by_cases hi : i < s.length
    · simp only [moveAt, blkAt, List.getElem?_set_self hi, Option.getD_some, List.set_set, Rock.Blk.move]
      congr 2 <;> omega
    · simp only [moveAt, List.set_eq_of_length_le (show s.length ≤ i by omega)]
  · have hji : ¬ j = i := fun h => hij h.symm
    simp only [moveAt, blkAt, List.getElem?_set_ne hij, List.getElem?_set_ne hji]
    rw [List.set_comm _ _ hij]
theorem flow_comm {s : List Rock.Blk} {e f : (Nat × Nat) × Rock.Blk} : flowMove (flowMove s e) f = flowMove (flowMove s f) e := by
  unfold flowMove
  rw [move_comm (i := e.1.2) (j := f.1.1), move_comm (i := e.1.1) (j := f.1.1), move_comm (i := e.1.2) (j := f.1.2), move_comm (i := e.1.1) (j := f.1.2)]
theorem flow_len {s : List Rock.Blk} {e : (Nat × Nat) × Rock.Blk} : (flowMove s e).length = s.length := by simp [flowMove, move_len]

/-- A step of the range over the flows. -/
def stp (es : List ((Nat × Nat) × Rock.Blk)) (s : List Rock.Blk) (j : Nat) : List Rock.Blk := match es[j]? with | some e => flowMove s e | none => s
theorem stp_comm {es : List ((Nat × Nat) × Rock.Blk)} {s : List Rock.Blk} {i j : Nat} : stp es (stp es s i) j = stp es (stp es s j) i := by
  unfold stp
  cases es[i]? <;> cases es[j]? <;> simp [flow_comm]
theorem stp_len {es : List ((Nat × Nat) × Rock.Blk)} {s : List Rock.Blk} {j : Nat} : (stp es s j).length = s.length := by
  unfold stp; split <;> simp [flow_len]
theorem stp_range : ∀ (es : List ((Nat × Nat) × Rock.Blk)) (s : List Rock.Blk) (n : Nat), n ≤ es.length → (List.range n).foldl (stp es) s = (es.take n).foldl flowMove s
  | es, s, 0, _ => by simp
  | es, s, n + 1, h => by
    obtain ⟨e, he⟩ : ∃ e, es[n]? = some e := ⟨_, List.getElem?_eq_getElem (by omega)⟩
    rw [List.range_succ, List.foldl_append, stp_range es s n (by omega), List.take_add_one, he, List.foldl_append]
    simp [stp, he]
theorem stp_all {es : List ((Nat × Nat) × Rock.Blk)} {s : List Rock.Blk} {js : List Nat} (hd : js.Nodup) (hm : ∀ j, j ∈ js ↔ j < es.length) : js.foldl (stp es) s = es.foldl flowMove s := by
  have hp : js.Perm (List.range es.length) := (List.perm_ext_iff_of_nodup hd List.nodup_range).2 fun a => by simp [hm]
  rw [hp.foldl_eq' (fun x _ y _ z => stp_comm), stp_range es s es.length (Nat.le_refl _), List.take_of_length_le (Nat.le_refl _)]

/-! ### Bounds of the flows -/
theorem links_len {b : Bed} : (links b).length ≤ 3 * b.n := by
  have key : ∀ l : List Nat, (l.flatMap (linksAt b)).length ≤ 3 * l.length := by
    intro l
    induction l with
    | nil => simp
    | cons i l ih =>
      rw [List.flatMap_cons, List.length_append, List.length_cons]
      have : (linksAt b i).length ≤ 3 := by
        unfold linksAt
        simp only [List.length_append]
        split <;> split <;> split <;> simp
      omega
  have := key (List.range b.n)
  rw [List.length_range] at this
  exact this
theorem links_in {b : Bed} (h : Bv b) {l : Nat × Nat} (hl : l ∈ links b) : l.1 < b.n ∧ l.2 < b.n := by
  obtain ⟨hnn, X1, Y1⟩ := h.nat
  obtain ⟨i, hi, hh⟩ := List.mem_flatMap.1 hl
  have h1 : i < b.n := by simpa using hi
  unfold linksAt at hh
  simp only [List.mem_append] at hh
  rcases hh with hh | hh | hh
  · split at hh
    · rename_i hc
      simp at hh; subst hh
      exact ⟨h1, link1 (W := b.f.y.toNat * b.f.z.toNat) (by rw [hnn, Nat.mul_assoc]) h1 hc⟩
    · cases hh
  · split at hh
    · rename_i hc
      simp at hh; subst hh
      exact ⟨h1, link2 (Z := b.f.z.toNat) X1 Y1 hnn h1 hc⟩
    · cases hh
  · split at hh
    · rename_i hc
      simp at hh; subst hh
      exact ⟨h1, hc⟩
    · cases hh
/-- An entry of the flows: two blocks, and little. -/
def Flw (b : Bed) (e : (Nat × Nat) × Rock.Blk) : Prop := (e.1.1 < b.n ∧ e.1.2 < b.n) ∧ sm e.2 1000000000000
theorem out_sm {x : Rock.Blk} {q : Int} (hm : 1 ≤ x.m ∧ x.m ≤ 1000000) (hh : 0 ≤ x.h ∧ x.h ≤ 10000000000) (hk : 0 ≤ x.k ∧ x.k ≤ 1000000000000) (hq : 0 ≤ q ∧ q ≤ x.m) : sm (x.out q) 1000000000000 := by
  have b3 := out_b hm.1 hh hq
  have b4 := out_b hm.1 hk hq
  exact ⟨⟨by simp only [Rock.Blk.out]; omega, by simp only [Rock.Blk.out]; omega⟩, ⟨by simp only [Rock.Blk.out]; omega, by simp only [Rock.Blk.out]; omega⟩, ⟨by simp only [Rock.Blk.out]; omega, by simp only [Rock.Blk.out]; omega⟩⟩
theorem flowAt_ok {b : Bed} {m : Mdl} {s : List Rock.Blk} (hs : Sv b s) {p : List Int} {l : Nat × Nat} (h1 : l.1 < b.n) (h2 : l.2 < b.n) {e : (Nat × Nat) × Rock.Blk} (he : flowAt b m s p l = some e) : Flw b e := by
  unfold flowAt at he
  simp only at he
  generalize hd : (p[l.1]?).getD 0 - weight b l.1 - (p[l.2]?).getD 0 + weight b l.2 = d at he
  generalize hl' : (if d < 0 then (l.2, l.1) else l) = l' at he
  generalize hd' : (if d < 0 then -d else d) = d' at he
  have hll : l'.1 < b.n ∧ l'.2 < b.n := by
    rw [← hl']; split <;> exact ⟨by assumption, by assumption⟩
  obtain ⟨_, m1, m2, m3⟩ := hs.at hll.1
  split at he
  · rename_i hq
    simp only [Option.some.injEq] at he
    subst he
    have d2 := Int.tdiv_eq_ediv_of_nonneg (b := 8) (show 0 ≤ (blkAt s l'.1).m by omega)
    exact ⟨hll, out_sm m1 m2 m3 ⟨by omega, by rw [d2]; omega⟩⟩
  · cases he
theorem putL_ok {b : Bed} {es : List ((Nat × Nat) × Rock.Blk)} {k : Nat × Nat} {o : Rock.Blk} (h : ∀ e ∈ es, Flw b e) (ho : Flw b (k, o)) : (∀ e ∈ putL es k o, Flw b e) ∧ (putL es k o).length ≤ es.length + 1 := by
  unfold putL
  split
  · constructor
    · intro e he
      rcases List.mem_or_eq_of_mem_set he with he | rfl
      · exact h e he
      · exact ho
    · simp
  · constructor
    · intro e he
      rcases List.mem_append.1 he with he | he
      · exact h e he
      · simp at he; subst he; exact ho
    · simp
theorem flows_ok {b : Bed} {m : Mdl} {s : List Rock.Blk} (h : Bv b) (hs : Sv b s) : (∀ e ∈ flows b m s, Flw b e) ∧ (flows b m s).length ≤ 192 := by
  have key : ∀ (ls : List (Nat × Nat)) (es : List ((Nat × Nat) × Rock.Blk)), (∀ l ∈ ls, l.1 < b.n ∧ l.2 < b.n) → (∀ e ∈ es, Flw b e) → (∀ e ∈ ls.foldl (flowStep b m s (pressures b m s)) es, Flw b e) ∧ (ls.foldl (flowStep b m s (pressures b m s)) es).length ≤ es.length + ls.length := by
    intro ls
    induction ls with
    | nil => intro es _ h; exact ⟨h, by simp⟩
    | cons l ls ih =>
      intro es hl he
      have hl0 := hl l (by simp)
      simp only [List.foldl_cons]
      have h1 : (∀ e ∈ flowStep b m s (pressures b m s) es l, Flw b e) ∧ (flowStep b m s (pressures b m s) es l).length ≤ es.length + 1 := by
        unfold flowStep
        split
        · rename_i e hfe
          exact putL_ok he (flowAt_ok hs hl0.1 hl0.2 hfe)
        · exact ⟨he, by omega⟩
      obtain ⟨h2, h3⟩ := ih _ (fun l hh => hl l (by simp [hh])) h1.1
      exact ⟨h2, by simp only [List.length_cons]; omega⟩
  obtain ⟨h1, h2⟩ := key (links b) [] (fun l hl => links_in h hl) (by simp)
  have := @links_len b
  have hn := h.n
  exact ⟨h1, by simp only [List.length_nil] at h2; unfold flows; omega⟩
theorem flow_bnd {b : Bed} {N : Int} {s : List Rock.Blk} {e : (Nat × Nat) × Rock.Blk} (h : bnd N s) (he : Flw b e) : bnd (N + 2000000000000) (flowMove s e) := by
  have h1 := move_bnd (i := e.1.1) (sign := -1) h he.2 (.inr rfl) (by omega)
  have h2 := move_bnd (i := e.1.2) (sign := 1) h1 he.2 (.inl rfl) (by omega)
  unfold flowMove
  rw [show N + 2000000000000 = N + 1000000000000 + 1000000000000 by omega]
  exact h2
theorem stp_bnd {b : Bed} {es : List ((Nat × Nat) × Rock.Blk)} (hes : ∀ e ∈ es, Flw b e) : ∀ (js : List Nat) (s : List Rock.Blk) (N : Int), bnd N s → bnd (N + 2000000000000 * js.length) (js.foldr (fun j s => stp es s j) s)
  | [], s, N, h => by simpa using h
  | j :: js, s, N, h => by
    have ih := stp_bnd hes js s N h
    simp only [List.foldr_cons, List.length_cons]
    generalize js.foldr (fun j s => stp es s j) s = s1 at *
    unfold stp
    split
    · rename_i e he
      have := flow_bnd ih (hes e (List.mem_of_getElem? he))
      intro x hx
      exact sm_mono (this x hx) (by push_cast; omega)
    · intro x hx
      exact sm_mono (ih x hx) (by push_cast; omega)
theorem Sv.bnd {b : Bed} {s : List Rock.Blk} (h : Sv b s) : bnd 1000000000000 s := by
  intro x hx
  obtain ⟨h1, h2, h3⟩ := Blk.ok_iff.1 (h.ok x hx)
  exact ⟨⟨by omega, by omega⟩, ⟨by omega, by omega⟩, ⟨by omega, by omega⟩⟩
end Go.Proofs.YtehandllpmlcoaaGreat

/-
  'All' of a slice that lies in the store.
-/
set_option linter.unusedVariables false
set_option linter.unusedSimpArgs false
namespace Go.Abs
open Go
variable {T : Tbl}

theorem seg_lt {F : List Blk} : ∀ {σ : Stack} {lv : Nat}, seg? σ lv = some F → lv < σ.length
  | [], lv, h => by simp [seg?] at h
  | s :: σ, lv, h => by
    simp only [seg?] at h
    split at h
    · rename_i h1; simp; omega
    · have := seg_lt h; simp; omega

section
variable {α : Type} {w : Nat} {enc : α → List D} (hw : ∀ x, (enc x).length = w) {p : α → Bool} {fv : D} {l : List α} {lv bi v : Nat} {F : List Blk}

include hw in
theorem idx_loopSl (hF : F[bi]? = some (.cells v (l.flatMap enc))) (hl : l.length ≤ 9223372036854775807) (ht : Tests T fv (fun x => .agg (enc x)) p l) {σ : Stack} (hs : seg? σ lv = some F) : ∀ (m i : Nat), i + m = l.length →
    WL T [0, 1, 7, 8] false (idxL true w) [(0, .sl lv bi v 0 l.length w), (1, fv), (7, .int .i64 l.length), (8, .int .i64 i)] σ
      (fun x e σ' => σ' = σ ∧ if idxOf p (l.drop i) < 0 then x = .exit 0 else x = .ret ∧ get e 4 = .int .i64 (i + idxOf p (l.drop i)))
  | 0, i, hi => by
    obtain ⟨h1, h2, h3⟩ := ht
    refine WL_step (idxL.eq_1 _ _) ?_
    have : ¬ i < l.length := by omega
    have h5 : l.drop i = [] := by simp; omega
    simp [this, h1, h2, h5, idxOf]
  | m + 1, i, hi => by
    have ih := idx_loopSl hF hl ht hs m (i + 1) (by omega)
    obtain ⟨h1, h2, h3⟩ := ht
    refine WL_step (idxL.eq_1 _ _) ?_
    have h4 : i < l.length := by omega
    obtain ⟨x, hx⟩ : ∃ x, l[i]? = some x := ⟨_, List.getElem?_eq_getElem h4⟩
    have h5 := k_drop (f := enc) hw hx
    have h6 := h3 x (List.mem_of_getElem? hx) σ
    have h7 := wnext h4 hl
    have h8 : l.drop i = x :: l.drop (i + 1) := drop_at hx
    have e1 : ∀ r : List D, (enc x ++ r).take w = enc x := fun r => by rw [← hw x]; simp
    have e2 : ∀ r : Nat, w ≤ (enc x).length + r := fun r => by rw [hw]; omega
    cases hp : p x
    · rw [hp] at h6
      simp [h4, h1, h2, h5, h6, h7, hs, hF, e1, e2]
      refine WL.mono (by simpa using ih) ?_
      rintro x e σ' ⟨h9, h10⟩
      refine ⟨h9, ?_⟩
      rw [h8]
      simp only [idxOf, hp, Bool.false_eq_true, if_false]
      by_cases h11 : idxOf p (l.drop (i + 1)) < 0
      · simpa [h11] using h10
      · rw [if_neg h11] at h10
        rw [if_neg h11, if_neg (by omega)]
        refine ⟨h10.1, ?_⟩
        rw [h10.2]
        congr 1
        push_cast
        omega
    · rw [hp] at h6
      simp [h4, h1, h2, h5, h6, h7, hs, hF, e1, e2, h8, idxOf, hp]

include hw in
theorem index_ofSl {f : Nat} (hT : T f = some (idxFn true w)) (hF : F[bi]? = some (.cells v (l.flatMap enc))) (hl : l.length ≤ 9223372036854775807) (ht : Tests T fv (fun x => .agg (enc x)) p l) {σ : Stack} (hs : seg? σ lv = some F) :
    lim T (.call false f [.sl lv bi v 0 l.length w, fv] σ) = some (.val (.int .i64 (idxOf p l)) σ) := by
  refine call_of hT (idxFn.eq_1 _ _) rfl ?_
  have hlt := seg_lt hs
  have h := idx_loopSl hw hF hl ht (lv := lv) (F := F) (σ := [] :: σ) (by simp [seg?, hs, show ¬ σ.length = lv by omega]) l.length 0 (by simp)
  obtain ⟨h1, h2, h3⟩ := ht
  simp [h1, h2]
  refine WL.mono (by simpa using h) ?_
  rintro x e σ' ⟨rfl, h10⟩
  try simp only [List.drop_zero] at h10
  by_cases h11 : idxOf p l < 0
  · rw [if_pos h11] at h10
    subst h10
    have : idxOf p l = -1 := by
      cases l with
      | nil => rfl
      | cons a l =>
        simp only [idxOf] at h11 ⊢
        split at h11 <;> rename_i ha
        · omega
        · rw [if_neg ha]
          split at h11 <;> rename_i hb
          · rw [if_pos hb]
          · omega
    simp [this]
  · rw [if_neg h11] at h10
    obtain ⟨rfl, h12⟩ := h10
    try simp at h12
    simp [h12]

include hw in
theorem contains_ofSl {f i : Nat} (hT : T f = some (containsFn i)) (hi : T i = some (idxFn true w)) (hF : F[bi]? = some (.cells v (l.flatMap enc))) (hl : l.length ≤ 9223372036854775807) (ht : Tests T fv (fun x => .agg (enc x)) p l) {σ : Stack} (hs : seg? σ lv = some F) :
    lim T (.call false f [.sl lv bi v 0 l.length w, fv] σ) = some (.val (.bool (anyB l p)) σ) := by
  refine call_of hT (containsFn.eq_1 _) rfl ?_
  have hlt := seg_lt hs
  have h := index_ofSl hw hi hF hl ht (lv := lv) (F := F) (σ := [] :: σ) (by simp [seg?, hs, show ¬ σ.length = lv by omega])
  obtain ⟨h1, h2, h3⟩ := ht
  have h4 : decide (0 ≤ idxOf p l) = anyB l p := by
    unfold anyB
    have h6 := idxOf_neg (p := p) (l := l)
    cases h5 : l.any p
    · have := h6.2 h5
      exact decide_eq_false (by omega)
    · exact decide_eq_true (by
        have : ¬ idxOf p l < 0 := fun h => by rw [h6.1 h] at h5; cases h5
        omega)
  simp [h1, h2, h, h4]

include hw in
theorem all_ofSl {f g h i : Nat} (hf : T f = some (allFn g h)) (hg : T g = some (all1Fn true w)) (hh : T h = some (containsFn i)) (hi : T i = some (idxFn true w))
    (hF : F[bi]? = some (.cells v (l.flatMap enc))) (hl : l.length ≤ 9223372036854775807) (ht : Tests T fv (fun x => .agg (enc x)) p l) (hcl : fv.cells = some [fv]) {σ : Stack} (hs : seg? σ lv = some F) :
    lim T (.call false f [.sl lv bi v 0 l.length w, fv] σ) = some (.val (.bool (allB l p)) σ) := by
  refine call_of hf (allFn.eq_1 _ _) rfl ?_
  have hlt := seg_lt hs
  have h := contains_ofSl hw hh hi hF hl (all1_of (eltAgg w enc hw) hg ht) (lv := lv) (F := F) (σ := [] :: σ) (by simp [seg?, hs, show ¬ σ.length = lv by omega])
  obtain ⟨h1, h2, h3⟩ := ht
  have h4 : (anyB l fun x => !p x) = !allB l p := by
    unfold anyB allB
    rw [List.all_eq_not_any_not, Bool.not_not]
  simp [h1, h2, h, h4, hcl]
end
end Go.Abs

/-
  A tick: the range over the flows.
-/
set_option linter.unusedVariables false
set_option linter.unusedSimpArgs false
namespace Go.Proofs.YtehandllpmlcoaaGreat
open Go Go.Abs Go.Rock
variable {σ : Stack}

theorem C_stateSl {b : Bed} {m : Mdl} {s : List Rock.Blk} (h : Bv b) {lv bi v : Nat} {F : List Abs.Blk} (hF : F[bi]? = some (.cells v (s.flatMap Blk.enc))) (hs : seg? σ lv = some F) (hl : s.length = b.n) :
    lim T (.call false i_rock_bedded_state [.agg [.int .i64 b.f.x, .int .i64 b.f.y, .int .i64 b.f.z, .int .i64 b.f.k, .lst b.tab.length (b.tab.flatMap Rw.enc), .int .i64 b.stiff, .int .i64 b.lift, .int .i64 b.deep, .lst b.wells.length (b.wells.flatMap Bore.enc), .str m.name, .lst m.vals.length (m.vals.flatMap intE)], .sl lv bi v 0 s.length 3] σ) = some (.val (.bool (stateOk b s)) σ) := by
  refine call_of T_rock_bedded_state e_rock_bedded_state rfl ?_
  have hlt := seg_lt hs
  have hz := h.sz; have hn := h.n
  have hsz := fun σ => C_rsize' (σ := σ) h
  have ha := all_ofSl (T := T) (w := 3) (enc := Blk.enc) (fun _ => rfl) (f := i_rock_all_rock_Block) (g := i_rock_all_rock_Block_1) (h := i_slices_ContainsFunc_rock_Block) (i := i_slices_IndexFunc_rock_Block) (l := s) (p := Rock.Blk.valid) (fv := .fn i_rock_Block_valid [] []) rfl rfl rfl rfl hF (by omega) (Tests.fn fun x _ σ => C_blkValid) rfl (lv := lv) (F := F) (σ := [] :: σ) (by simp [seg?, hs, show ¬ σ.length = lv by omega])
  unfold stateOk
  have hc3 : ((b.n : Nat) : Int) = b.size := hz.symm
  rw [hl] at ha ⊢
  cases hc : allB s Rock.Blk.valid <;> simp [-List.length_flatMap, -List.map_take, eF, hsz, hl, ha, hc, hc3]

def jsD (js : List Nat) : List D := js.map fun j => .int .i64 (j : Nat)
def usL (n : Nat) (js : List Nat) : List Nat := (List.range n).filter fun j => !(js.contains j)
theorem jsD_mem {js : List Nat} {j : Nat} : D.int .i64 (j : Nat) ∈ jsD js ↔ j ∈ js := by
  simp only [jsD, List.mem_map]
  constructor
  · rintro ⟨a, h1, h2⟩
    simp only [D.int.injEq, true_and] at h2
    have : a = j := by omega
    exact this ▸ h1
  · intro h; exact ⟨j, h, rfl⟩
def envT (b : Bed) (m : Mdl) (s : List Rock.Blk) (rates : List Int) (L : Nat) : Env :=
  [(1, .lst s.length (s.flatMap Blk.enc)), (2, .lst rates.length (rates.flatMap intE)), (3, .cref [.int .i64 b.f.x, .int .i64 b.f.y, .int .i64 b.f.z, .int .i64 b.f.k, .lst b.tab.length (b.tab.flatMap Rw.enc), .int .i64 b.stiff, .int .i64 b.lift, .int .i64 b.deep, .lst b.wells.length (b.wells.flatMap Bore.enc), .str m.name, .lst m.vals.length (m.vals.flatMap intE)]), (9, .sl L 1 1 0 s.length 3), (23, .yld L 6)]
def stT (A X Y Z : Abs.Blk) (σ : Stack) (es : List ((Nat × Nat) × Rock.Blk)) (s : List Rock.Blk) (it : Abs.Blk) : Stack :=
  [A, .cells 1 (s.flatMap Blk.enc), .cells 0 (flE es), X, Y, Z, it] :: σ
def itB (L n : Nat) (js : List Nat) : Abs.Blk := .cells 1 (.yld L 2 :: .int .i64 (n : Nat) :: jsD js)
theorem iter_T {A X Y Z : Abs.Blk} {es : List ((Nat × Nat) × Rock.Blk)} {s : List Rock.Blk} {js : List Nat} :
    iterD (stT A X Y Z σ es s (itB σ.length es.length js)) σ.length 6 = some (.yld σ.length 2, es.length, jsD js, usL es.length js) := by
  have hl : (flE es).length = es.length := by simp [flE]
  simp [iterD, stT, itB, mapD, hl, usL, jsD_mem]
theorem us_lt {n : Nat} {js : List Nat} {u : Nat} (hu : u ∈ usL n js) : (usL n (u :: js)).length < (usL n js).length := by
  have e : usL n (u :: js) = (usL n js).filter fun j => !decide (j = u) := by
    unfold usL
    rw [List.filter_filter]
    congr 1
    funext j
    simp [List.contains_cons, Bool.not_or]
  rw [e, List.length_filter_lt_length_iff_exists]
  exact ⟨u, hu, by simp⟩

theorem L_move {b : Bed} {m : Mdl} {s : List Rock.Blk} {rates : List Int} {A X Y Z : Abs.Blk} {es : List ((Nat × Nat) × Rock.Blk)} {r : R} (hs : Sv b s) (hes : ∀ e ∈ es, Flw b e) (hel : es.length ≤ 192)
    (hr : WC (lim T) f_rock_bedded_tick_l29 ((25, .bool false) :: (24, .undef) :: envT b m s rates σ.length) (stT A X Y Z σ es (es.foldl flowMove s) .dead) fun x e' σ' => r = .ctl x e' σ') :
    ∀ (k : Nat) (js : List Nat), js.Nodup → (∀ j ∈ js, j < es.length) → (usL es.length js).length = k →
      lim T (.mloop [1, 2, 3, 9, 23] (.t 23) 24 25 0 f_rock_bedded_tick_l6 f_rock_bedded_tick_l29 (envT b m s rates σ.length) (stT A X Y Z σ es (js.foldr (fun j s => stp es s j) s) (itB σ.length es.length js))) = some r := by
  intro k
  induction k using Nat.strongRecOn with
  | _ k ih =>
  intro js hd hj hk
  by_cases hus : usL es.length js = []
  · have hall : ∀ j, j ∈ js ↔ j < es.length := by
      intro j
      refine ⟨hj j, fun hlt => ?_⟩
      have h1 : j ∉ usL es.length js := by rw [hus]; simp
      simpa [usL, hlt] using h1
    have hfin : js.foldr (fun j s => stp es s j) s = es.foldl flowMove s := by
      rw [← stp_all (js := js.reverse) ((List.reverse_perm js).nodup_iff.2 hd) (fun j => by simp [hall]), List.foldl_reverse]
    rw [hfin]
    have hit := iter_T (σ := σ) (A := A) (X := X) (Y := Y) (Z := Z) (es := es) (s := es.foldl flowMove s) (js := js)
    rw [hus] at hit
    refine mloop_end e_rock_bedded_tick_l6 rfl (by simp [envT]) hit ?_
    simp [stT, envT, itB] at hr ⊢
    exact hr
  · have hit := iter_T (σ := σ) (A := A) (X := X) (Y := Y) (Z := Z) (es := es) (s := js.foldr (fun j s => stp es s j) s) (js := js)
    refine mloop_of e_rock_bedded_tick_l6 rfl (by simp [envT]) hit hus ?_
    intro u hu
    have hu2 : u < es.length ∧ u ∉ js := by simpa [usL] using hu
    obtain ⟨e, he⟩ : ∃ e, es[u]? = some e := ⟨_, List.getElem?_eq_getElem hu2.1⟩
    have hf := hes e (List.mem_of_getElem? he)
    have hnext := ih _ (by rw [← hk]; exact us_lt hu) (u :: js) (List.nodup_cons.2 ⟨hu2.2, hd⟩) (by intro j hjm; rcases List.mem_cons.1 hjm with rfl | hjm; exact hu2.1; exact hj j hjm) rfl
    have hb := stp_bnd hes js s 1000000000000 hs.bnd
    have hjl : js.length ≤ 192 := by
      have h1 : js.length ≤ es.length := by
        have := hd.length_le_of_subset (l₂ := List.range es.length) (fun j hjm => by simpa using hj j hjm)
        simpa using this
      omega
    have hlen : (js.foldr (fun j s => stp es s j) s).length = b.n := by
      have : ∀ js : List Nat, (js.foldr (fun j s => stp es s j) s).length = s.length := by
        intro js; induction js with
        | nil => rfl
        | cons a l ih => simp only [List.foldr_cons, stp_len]; exact ih
      rw [this, hs.len]
    simp only [List.foldr_cons] at hnext
    generalize hs1 : js.foldr (fun j s => stp es s j) s = s1 at *
    have hstp : stp es s1 u = moveAt (moveAt s1 e.1.1 e.2 (-1)) e.1.2 e.2 1 := by simp [stp, he, flowMove]
    rw [hstp] at hnext
    have hbn : bnd 400000000000000 s1 := fun x hx => sm_mono (hb x hx) (by omega)
    have hb1 := move_bnd (i := e.1.1) (sign := -1) hbn hf.2 (.inr rfl) (by omega)
    obtain ⟨x1, y1⟩ := bnd_at hbn (i := e.1.1) (by have := hf.1.1; omega)
    obtain ⟨x2, y2⟩ := bnd_at hb1 (i := e.1.2) (by rw [move_len]; have := hf.1.2; omega)
    have hM1 : ∀ I, lim T (.call false i_rock_Block_move [.ref σ.length 1 1 (e.1.1 * 3), .agg [.int .i64 e.2.m, .int .i64 e.2.h, .int .i64 e.2.k], .int .i64 (-1)] ([A, .cells 1 (s1.flatMap Blk.enc), .cells 0 (flE es), X, Y, Z, I] :: σ)) =
        some (.val (.tup []) ([A, .cells 1 ((moveAt s1 e.1.1 e.2 (-1)).flatMap Blk.enc), .cells 0 (flE es), X, Y, Z, I] :: σ)) :=
      fun I => C_move (F := [A, .cells 1 (s1.flatMap Blk.enc), .cells 0 (flE es), X, Y, Z, I]) (j := 1) rfl x1 (sm_mono y1 (by omega)) (sm_mono hf.2 (by omega)) (.inr rfl)
    have hM2 : ∀ I, lim T (.call false i_rock_Block_move [.ref σ.length 1 1 (e.1.2 * 3), .agg [.int .i64 e.2.m, .int .i64 e.2.h, .int .i64 e.2.k], .int .i64 1] ([A, .cells 1 ((moveAt s1 e.1.1 e.2 (-1)).flatMap Blk.enc), .cells 0 (flE es), X, Y, Z, I] :: σ)) =
        some (.val (.tup []) ([A, .cells 1 ((moveAt (moveAt s1 e.1.1 e.2 (-1)) e.1.2 e.2 1).flatMap Blk.enc), .cells 0 (flE es), X, Y, Z, I] :: σ)) :=
      fun I => C_move (F := [A, .cells 1 ((moveAt s1 e.1.1 e.2 (-1)).flatMap Blk.enc), .cells 0 (flE es), X, Y, Z, I]) (j := 1) rfl x2 (sm_mono y2 (by omega)) (sm_mono hf.2 (by omega)) (.inl rfl)
    have hfe : (flE es)[u]? = some (.tup [.agg [.int .i64 e.1.1, .int .i64 e.1.2], .agg [.int .i64 e.2.m, .int .i64 e.2.h, .int .i64 e.2.k]]) := by simp [flE, he]
    have hfl : (flE es).length = es.length := by simp [flE]
    have hE : mpD ([A, .cells 1 (s1.flatMap Blk.enc), .cells 0 (flE es), X, Y, Z, .cells 1 (.yld σ.length 2 :: .int .i64 (es.length : Nat) :: .int .i64 (u : Nat) :: jsD js)] :: σ) .ent [.yld σ.length 6] =
        some (.tup [.agg [.int .i64 e.1.1, .int .i64 e.1.2], .agg [.int .i64 e.2.m, .int .i64 e.2.h, .int .i64 e.2.k]], [A, .cells 1 (s1.flatMap Blk.enc), .cells 0 (flE es), X, Y, Z, .cells 1 (.yld σ.length 2 :: .int .i64 (es.length : Nat) :: .int .i64 (u : Nat) :: jsD js)] :: σ) := by
      simp [mpD, mapD, hfl, hfe]
    have hi1 : e.1.1 < s.length := by have := hf.1.1; have := hs.len; omega
    have hi2 : e.1.2 < s.length := by have := hf.1.2; have := hs.len; omega
    simp [-List.length_flatMap, -List.map_take, envT, stT, itB, eF, hE, hM1, hM2, hi1, hi2, cl_rw, cl_bore, cl_int, cl_blk]
    simpa [envT, stT, itB, jsD] using hnext
end Go.Proofs.YtehandllpmlcoaaGreat

/-
  A tick: the wells, what is fed, the answer.
-/
set_option linter.unusedVariables false
set_option linter.unusedSimpArgs false
namespace Go.Proofs.YtehandllpmlcoaaGreat
open Go Go.Abs Go.Rock
variable {σ : Stack}

theorem wells_ok {b : Bed} (h : Bv b) : ∀ w ∈ b.wells, (0 ≤ w.b ∧ w.b < (b.n : Int)) ∧ (0 ≤ w.h ∧ w.h ≤ 3000) ∧ (0 ≤ w.m ∧ w.m ≤ 1000000) := by
  have key : ∀ (l : List Bore) (u : List Int), wellsOk b.size u l = true → ∀ w ∈ l, (0 ≤ w.b ∧ w.b < (b.n : Int)) ∧ (0 ≤ w.h ∧ w.h ≤ 3000) ∧ (0 ≤ w.m ∧ w.m ≤ 1000000) := by
    intro l
    induction l with
    | nil => intro u _ w hw; cases hw
    | cons a l ih =>
      intro u hu w hw
      simp only [wellsOk, Bore.ok, Bool.and_eq_true] at hu
      obtain ⟨⟨h1, h2, h3, h4⟩, h5⟩ := hu
      rcases List.mem_cons.1 hw with rfl | hw
      · have hs := h.sz
        have := inn_iff.1 h1
        unfold Bed.size at this
        exact ⟨⟨this.1, by omega⟩, inn_iff.1 h3, inn_iff.1 h4⟩
      · exact ih _ h5 w hw
  exact key _ _ h.ok
theorem mulR {a r A R : Int} (ha : 0 ≤ a ∧ a ≤ A) (hr : -R ≤ r ∧ r ≤ R) : -(R * A) ≤ r * a ∧ r * a ≤ R * A := by
  rcases Int.le_total 0 r with h | h
  · have := mul_n h hr.2 ha.1 ha.2
    have h2 := Int.mul_nonneg (show 0 ≤ R by omega) (show 0 ≤ A by omega)
    omega
  · have := mul_n (a := -r) (A := R) (by omega) (by omega) ha.1 ha.2
    rw [Int.neg_mul] at this
    have h2 := Int.mul_nonneg (show 0 ≤ R by omega) (show 0 ≤ A by omega)
    omega
theorem given_sm {w : Bore} {r : Int} (hr : -100000 ≤ r ∧ r ≤ 100000) (h1 : 0 ≤ w.h ∧ w.h ≤ 3000) (h2 : 0 ≤ w.m ∧ w.m ≤ 1000000) : sm (w.given r) 1000000000000 := by
  have b1 := mulR h1 hr
  have b2 := mulR h2 hr
  exact ⟨⟨by simp only [Bore.given]; omega, by simp only [Bore.given]; omega⟩, ⟨by simp only [Bore.given, Int.neg_mul]; omega, by simp only [Bore.given, Int.neg_mul]; omega⟩, ⟨by simp only [Bore.given, Int.neg_mul]; omega, by simp only [Bore.given, Int.neg_mul]; omega⟩⟩
theorem fed_sm {b : Bed} {m : Mdl} (h : Fv b m) {i : Nat} (hi : i < b.n) : sm (fed b m i) 1000000000000 := by
  have b1 := h.feed i hi
  have b2 := h.bv.deep
  have b3 := mul_n b1.1 b1.2 b2.1 b2.2
  exact ⟨⟨by simp only [fed]; omega, by simp only [fed]; omega⟩, ⟨by simp only [fed]; omega, by simp only [fed]; omega⟩, ⟨by simp [fed], by simp [fed]⟩⟩
def wellsTo (b : Bed) (s s1 : List Rock.Blk) (rates : List Int) (j : Nat) : List Rock.Blk := ((b.wells.zip rates).take j).foldl (fun n wr => wellMove s n wr.1 wr.2) s1
def feedTo (b : Bed) (m : Mdl) (s2 : List Rock.Blk) (i : Nat) : List Rock.Blk := (List.range i).foldl (fun n i => moveAt n i (fed b m i) 1) s2
theorem wellsTo_succ {b : Bed} {s s1 : List Rock.Blk} {rates : List Int} {j : Nat} {w : Bore} {r : Int} (h1 : b.wells[j]? = some w) (h2 : rates[j]? = some r) : wellsTo b s s1 rates (j + 1) = wellMove s (wellsTo b s s1 rates j) w r := by
  have : (b.wells.zip rates)[j]? = some (w, r) := by rw [List.getElem?_zip_eq_some]; exact ⟨h1, h2⟩
  unfold wellsTo
  rw [List.take_add_one, this, List.foldl_append]; rfl
theorem feedTo_succ {b : Bed} {m : Mdl} {s2 : List Rock.Blk} {i : Nat} : feedTo b m s2 (i + 1) = moveAt (feedTo b m s2 i) i (fed b m i) 1 := by
  unfold feedTo
  rw [List.range_succ, List.foldl_append]; rfl
theorem feedTo_len {b : Bed} {m : Mdl} {s2 : List Rock.Blk} : ∀ i, (feedTo b m s2 i).length = s2.length
  | 0 => rfl
  | i + 1 => by rw [feedTo_succ, move_len, feedTo_len i]
theorem yield_at {b : Bed} {s : List Rock.Blk} {rates : List Int} {j : Nat} {w : Bore} {r : Int} (h1 : b.wells[j]? = some w) (h2 : rates[j]? = some r) : (yieldsOf b s rates)[j]? = some (wellYield s w r) := by
  have : (b.wells.zip rates)[j]? = some (w, r) := by rw [List.getElem?_zip_eq_some]; exact ⟨h1, h2⟩
  simp [yieldsOf, this]
/-- What a tick needs of the rates. -/
structure Rv (b : Bed) (rates : List Int) : Prop where
  len : rates.length = b.wells.length
  ok : ∀ r ∈ rates, -100000 ≤ r ∧ r ≤ 100000
theorem Rv.of {b : Bed} {rates : List Int} (h : ratesE b rates = 0) : Rv b rates := by
  unfold ratesE at h
  split at h
  · rename_i hl
    split at h
    · rename_i ha
      exact ⟨hl, fun r hr => inn_iff.1 (allB_iff.1 ha r hr)⟩
    · cases h
  · cases h
theorem move_sm {b : Bed} {s next : List Rock.Blk} (h : Bv b) (hs : Sv b s) {rates : List Int} (hr : Rv b rates) {j : Nat} {w : Bore} {r : Int} (h1 : b.wells[j]? = some w) (h2 : rates[j]? = some r) {N : Int} (hb : bnd N next) : bnd (N + 1000000000000) (wellMove s next w r) := by
  have hw := wells_ok h w (List.mem_of_getElem? h1)
  have hrr := hr.ok r (List.mem_of_getElem? h2)
  obtain ⟨_, m1, m2, m3⟩ := hs.at (i := w.b.toNat) (by omega)
  have d2 := Int.tdiv_eq_ediv_of_nonneg (b := 8) (show 0 ≤ (blkAt s w.b.toNat).m by omega)
  unfold wellMove wellYield
  split
  · exact move_bnd hb (given_sm hrr hw.2.1 hw.2.2) (.inl rfl) (by omega)
  · exact move_bnd hb (out_sm m1 m2 m3 ⟨by rw [d2]; omega, by rw [d2]; omega⟩) (.inr rfl) (by omega)
theorem wellMove_len {s n : List Rock.Blk} {w : Bore} {r : Int} : (wellMove s n w r).length = n.length := by
  unfold wellMove; split <;> simp [move_len]
theorem wellsTo_ok {b : Bed} {s s1 : List Rock.Blk} (h : Bv b) (hs : Sv b s) {rates : List Int} (hr : Rv b rates) (hb : bnd 500000000000000 s1) : ∀ j, j ≤ rates.length → bnd (500000000000000 + 1000000000000 * j) (wellsTo b s s1 rates j) ∧ (wellsTo b s s1 rates j).length = s1.length
  | 0, _ => ⟨by simpa [wellsTo] using hb, by simp [wellsTo]⟩
  | j + 1, hj => by
    obtain ⟨r, h2⟩ : ∃ r, rates[j]? = some r := ⟨_, List.getElem?_eq_getElem (by omega)⟩
    obtain ⟨w, h1⟩ : ∃ w, b.wells[j]? = some w := ⟨_, List.getElem?_eq_getElem (by rw [← hr.len]; omega)⟩
    obtain ⟨ih1, ih2⟩ := wellsTo_ok h hs hr hb j (by omega)
    rw [wellsTo_succ h1 h2]
    have h3 := move_sm h hs hr h1 h2 ih1
    exact ⟨fun x hx => sm_mono (h3 x hx) (by push_cast; omega), by rw [wellMove_len, ih2]⟩
theorem feedTo_ok {b : Bed} {m : Mdl} {s2 : List Rock.Blk} (h : Fv b m) (hb : bnd 600000000000000 s2) : ∀ i, i ≤ b.n → bnd (600000000000000 + 1000000000000 * i) (feedTo b m s2 i)
  | 0, _ => by simpa [feedTo] using hb
  | i + 1, hi => by
    have ih := feedTo_ok h hb i (by omega)
    rw [feedTo_succ]
    have h3 := move_bnd (i := i) ih (fed_sm h (i := i) (by omega)) (.inl rfl) (by omega)
    exact fun x hx => sm_mono (h3 x hx) (by push_cast; omega)
end Go.Proofs.YtehandllpmlcoaaGreat

/-
  A tick: behind the range over the flows; the whole tick.
-/
set_option linter.unusedVariables false
set_option linter.unusedSimpArgs false
namespace Go.Proofs.YtehandllpmlcoaaGreat
open Go Go.Abs Go.Rock
variable {σ : Stack}

theorem bore_at {b : Bed} {j : Nat} {w : Bore} (h : b.wells[j]? = some w) : ((b.wells.flatMap Bore.enc).drop (j * 3)).take 3 = [.int .i64 w.b, .int .i64 w.h, .int .i64 w.m] :=
  flat_at (f := Bore.enc) (w := 3) (fun _ => rfl) h
theorem L_wells {b : Bed} {m : Mdl} {s s1 : List Rock.Blk} {rates : List Int} {A FL X Y Z W : Abs.Blk} (h : Fv b m) (hs : Sv b s) (hr : Rv b rates) (hb : bnd 500000000000000 s1) (hl1 : s1.length = s.length) : ∀ (k j v : Nat), j + k = rates.length →
    WL T [1, 3, 9, 12, 41, 42, 43] false f_rock_bedded_tick_l19 [(1, .lst s.length (s.flatMap Blk.enc)), (3, .cref [.int .i64 b.f.x, .int .i64 b.f.y, .int .i64 b.f.z, .int .i64 b.f.k, .lst b.tab.length (b.tab.flatMap Rw.enc), .int .i64 b.stiff, .int .i64 b.lift, .int .i64 b.deep, .lst b.wells.length (b.wells.flatMap Bore.enc), .str m.name, .lst m.vals.length (m.vals.flatMap intE)]), (9, .sl σ.length 1 1 0 s.length 3), (12, .sl σ.length 7 v 0 j 3), (41, .lst rates.length (rates.flatMap intE)), (42, .int .i64 rates.length), (43, .int .i64 j)]
      ([A, .cells 1 ((wellsTo b s s1 rates j).flatMap Blk.enc), FL, X, Y, Z, W, .cells v (((yieldsOf b s rates).take j).flatMap Blk.enc)] :: σ)
      (fun x e σ' => x = .exit 2 ∧ get e 3 = .cref [.int .i64 b.f.x, .int .i64 b.f.y, .int .i64 b.f.z, .int .i64 b.f.k, .lst b.tab.length (b.tab.flatMap Rw.enc), .int .i64 b.stiff, .int .i64 b.lift, .int .i64 b.deep, .lst b.wells.length (b.wells.flatMap Bore.enc), .str m.name, .lst m.vals.length (m.vals.flatMap intE)] ∧ get e 9 = .sl σ.length 1 1 0 s.length 3 ∧ get e 12 = .sl σ.length 7 (v + k) 0 rates.length 3 ∧
        σ' = [A, .cells 1 ((wellsTo b s s1 rates rates.length).flatMap Blk.enc), FL, X, Y, Z, W, .cells (v + k) ((yieldsOf b s rates).flatMap Blk.enc)] :: σ)
  | 0, j, v, hj => by
    refine WL_step e_rock_bedded_tick_l19 ?_
    obtain rfl : j = rates.length := by omega
    have hyl : (yieldsOf b s rates).length = rates.length := by simp [yieldsOf, hr.len]
    have h3 : (yieldsOf b s rates).take rates.length = yieldsOf b s rates := List.take_of_length_le (by omega)
    simp [-List.length_flatMap, -List.map_take, eF, h3, cl_rw, cl_bore, cl_int]
  | k + 1, j, v, hj => by
    refine WL_step e_rock_bedded_tick_l19 ?_
    have h1 : j < rates.length := by omega
    have hwl := h.bv.wells
    have hrl := hr.len
    obtain ⟨r, hr2⟩ : ∃ r, rates[j]? = some r := ⟨_, List.getElem?_eq_getElem (by omega)⟩
    obtain ⟨w, hw1⟩ : ∃ w, b.wells[j]? = some w := ⟨_, List.getElem?_eq_getElem (by omega)⟩
    have hw := wells_ok h.bv w (List.mem_of_getElem? hw1)
    have hrr := hr.ok r (List.mem_of_getElem? hr2)
    have hwn : w.b.toNat < b.n := by omega
    have hlen := hs.len
    obtain ⟨x0, m1, m2, m3⟩ := hs.at (i := w.b.toNat) hwn
    obtain ⟨ib, il⟩ := wellsTo_ok h.bv hs hr hb j (by omega)
    obtain ⟨x1, y1⟩ := bnd_at ib (i := w.b.toNat) (by omega)
    have h4 := wnext h1 (by omega)
    have a1 := bore_at hw1
    have a2 := intE_at hr2
    have a3 := flat_at (f := Blk.enc) (w := 3) (fun _ => rfl) x0
    have hy := yield_at (s := s) hw1 hr2
    have f3 := flat_snoc (f := Blk.enc) hy
    have hyl : (yieldsOf b s rates).length = rates.length := by simp [yieldsOf, hr.len]
    have f4 := blk_len ((yieldsOf b s rates).take j)
    rw [List.length_take, hyl, Nat.min_eq_left (by omega)] at f4
    have f6 : (((yieldsOf b s rates).take j).flatMap Blk.enc).take (j * 3) = ((yieldsOf b s rates).take j).flatMap Blk.enc := List.take_of_length_le (by omega)
    have h7 : (j + 1) * 24 ≤ room := by unfold room; omega
    have ih := L_wells (A := A) (FL := FL) (X := X) (Y := Y) (Z := Z) (W := W) h hs hr hb hl1 k (j + 1) (v + 1) (by omega)
    have hsucc := wellsTo_succ (s := s) (s1 := s1) hw1 hr2
    have hB0 : (0 : Int) ≤ w.b := hw.1.1
    have hB1 : w.b < (s.length : Int) := by omega
    have hjw : j < b.wells.length := by omega
    have d2 := Int.tdiv_eq_ediv_of_nonneg (b := 8) (show 0 ≤ (blkAt s w.b.toNat).m by omega)
    by_cases hc : r < 0
    · have hg := fun σ => C_given (σ := σ) hrr hw.2.1 hw.2.2
      have hM : ∀ V, lim T (.call false i_rock_Block_move [.ref σ.length 1 1 (w.b.toNat * 3), .agg [.int .i64 (w.given r).m, .int .i64 (w.given r).h, .int .i64 (w.given r).k], .int .i64 1] ([A, .cells 1 ((wellsTo b s s1 rates j).flatMap Blk.enc), FL, X, Y, Z, W, V] :: σ)) =
          some (.val (.tup []) ([A, .cells 1 ((wellsTo b s s1 rates (j + 1)).flatMap Blk.enc), FL, X, Y, Z, W, V] :: σ)) := by
        intro V
        rw [hsucc, wellMove, if_pos hc]
        exact C_move (F := [A, .cells 1 ((wellsTo b s s1 rates j).flatMap Blk.enc), FL, X, Y, Z, W, V]) (j := 1) rfl x1 (sm_mono y1 (by omega)) (sm_mono (given_sm hrr hw.2.1 hw.2.2) (by omega)) (.inl rfl)
      have hwy : wellYield s w r = ⟨0, 0, 0⟩ := by simp [wellYield, hc]
      rw [hwy] at f3
      simp only [Bore.enc, Blk.enc] at hg
      simp [-List.length_flatMap, -List.map_take, eF, h1, h4, a1, a2, a3, f4, f6, h7, hB0, hB1, hjw, hc, hg, hM, cl_rw, cl_bore, cl_int]
      refine WL.to ih (by simp [cl_rw, cl_bore, cl_int]) (by simp [← f3]) fun x e σ hh => by simpa [Nat.add_assoc, Nat.add_comm 1 k] using hh
    · have w7 := w64 (n := (blkAt s w.b.toNat).m.tdiv 8) (by rw [d2]; omega)
      have hO := fun σ => C_out (σ := σ) (q := min r ((blkAt s w.b.toNat).m.tdiv 8)) m1 m2 m3 ⟨by rw [d2]; omega, by rw [d2]; omega⟩
      have hos := out_sm (q := min r ((blkAt s w.b.toNat).m.tdiv 8)) m1 m2 m3 ⟨by rw [d2]; omega, by rw [d2]; omega⟩
      have hwy : wellYield s w r = (blkAt s w.b.toNat).out (min r ((blkAt s w.b.toNat).m.tdiv 8)) := by simp [wellYield, hc]
      have hsucc' : wellsTo b s s1 rates (j + 1) = moveAt (wellsTo b s s1 rates j) w.b.toNat ((blkAt s w.b.toNat).out (min r ((blkAt s w.b.toNat).m.tdiv 8))) (-1) := by
        rw [hsucc, wellMove, if_neg hc, hwy]
      rw [hwy] at f3
      generalize hQ : min r ((blkAt s w.b.toNat).m.tdiv 8) = Q at *
      generalize (blkAt s w.b.toNat).out Q = O at *
      have hM : ∀ V, lim T (.call false i_rock_Block_move [.ref σ.length 1 1 (w.b.toNat * 3), .agg [.int .i64 O.m, .int .i64 O.h, .int .i64 O.k], .int .i64 (-1)] ([A, .cells 1 ((wellsTo b s s1 rates j).flatMap Blk.enc), FL, X, Y, Z, W, V] :: σ)) =
          some (.val (.tup []) ([A, .cells 1 ((wellsTo b s s1 rates (j + 1)).flatMap Blk.enc), FL, X, Y, Z, W, V] :: σ)) := by
        intro V
        rw [hsucc']
        exact C_move (F := [A, .cells 1 ((wellsTo b s s1 rates j).flatMap Blk.enc), FL, X, Y, Z, W, V]) (j := 1) rfl x1 (sm_mono y1 (by omega)) (sm_mono hos (by omega)) (.inr rfl)
      simp only [Blk.enc] at hO
      simp [-List.length_flatMap, -List.map_take, eF, h1, h4, a1, a2, a3, f4, f6, h7, hB0, hB1, hjw, hc, w7, hQ, hO, hM, cl_rw, cl_bore, cl_int]
      refine WL.to ih (by simp [cl_rw, cl_bore, cl_int]) (by simp [← f3]) fun x e σ hh => by simpa [Nat.add_assoc, Nat.add_comm 1 k] using hh
theorem L_feed {b : Bed} {m : Mdl} {s2 : List Rock.Blk} {A FL X Y Z W V : Abs.Blk} {d12 : D} (h : Fv b m) (hb : bnd 600000000000000 s2) (hl2 : s2.length = b.n) (hd : d12.strip = d12 ∧ d12.calm = d12) : ∀ (k i : Nat), i + k = b.n →
    WL T [3, 9, 12, 93, 94] false f_rock_bedded_tick_l25 [(3, .cref [.int .i64 b.f.x, .int .i64 b.f.y, .int .i64 b.f.z, .int .i64 b.f.k, .lst b.tab.length (b.tab.flatMap Rw.enc), .int .i64 b.stiff, .int .i64 b.lift, .int .i64 b.deep, .lst b.wells.length (b.wells.flatMap Bore.enc), .str m.name, .lst m.vals.length (m.vals.flatMap intE)]), (9, .sl σ.length 1 1 0 b.n 3), (12, d12), (93, .int .i64 b.n), (94, .int .i64 i)]
      ([A, .cells 1 ((feedTo b m s2 i).flatMap Blk.enc), FL, X, Y, Z, W, V] :: σ)
      (fun x e σ' => x = .exit 4 ∧ get e 3 = .cref [.int .i64 b.f.x, .int .i64 b.f.y, .int .i64 b.f.z, .int .i64 b.f.k, .lst b.tab.length (b.tab.flatMap Rw.enc), .int .i64 b.stiff, .int .i64 b.lift, .int .i64 b.deep, .lst b.wells.length (b.wells.flatMap Bore.enc), .str m.name, .lst m.vals.length (m.vals.flatMap intE)] ∧ get e 9 = .sl σ.length 1 1 0 b.n 3 ∧ get e 12 = d12 ∧ σ' = [A, .cells 1 ((feedTo b m s2 b.n).flatMap Blk.enc), FL, X, Y, Z, W, V] :: σ)
  | 0, i, hi => by
    refine WL_step e_rock_bedded_tick_l25 ?_
    obtain rfl : i = b.n := by omega
    simp [-List.length_flatMap, -List.map_take, eF, hd, cl_rw, cl_bore, cl_int]
  | k + 1, i, hi => by
    refine WL_step e_rock_bedded_tick_l25 ?_
    have h1 : i < b.n := by omega
    have hn := h.bv.n
    have h4 := wnext h1 (by omega)
    have hf := fun σ => C_fed (σ := σ) h h1
    have ih := L_feed (A := A) (FL := FL) (X := X) (Y := Y) (Z := Z) (W := W) (V := V) h hb hl2 hd k (i + 1) (by omega)
    have ib := feedTo_ok h hb i (by omega)
    obtain ⟨x1, y1⟩ := bnd_at ib (i := i) (by rw [feedTo_len, hl2]; omega)
    have hM : lim T (.call false i_rock_Block_move [.ref σ.length 1 1 (i * 3), .agg [.int .i64 (fed b m i).m, .int .i64 (fed b m i).h, .int .i64 (fed b m i).k], .int .i64 1] ([A, .cells 1 ((feedTo b m s2 i).flatMap Blk.enc), FL, X, Y, Z, W, V] :: σ)) =
        some (.val (.tup []) ([A, .cells 1 ((feedTo b m s2 (i + 1)).flatMap Blk.enc), FL, X, Y, Z, W, V] :: σ)) := by
      rw [feedTo_succ]
      exact C_move (F := [A, .cells 1 ((feedTo b m s2 i).flatMap Blk.enc), FL, X, Y, Z, W, V]) (j := 1) rfl x1 (sm_mono y1 (by omega)) (sm_mono (fed_sm h h1) (by omega)) (.inl rfl)
    simp only [Blk.enc] at hf
    simp [-List.length_flatMap, -List.map_take, eF, h1, h4, hf, hM, hd, cl_rw, cl_bore, cl_int]
    refine WL.to ih (by simp [hd, cl_rw, cl_bore, cl_int]) rfl fun x e σ hh => hh
end Go.Proofs.YtehandllpmlcoaaGreat

/-
  A tick.
-/
set_option linter.unusedVariables false
set_option linter.unusedSimpArgs false
namespace Go.Proofs.YtehandllpmlcoaaGreat
open Go Go.Abs Go.Rock
variable {σ : Stack}

theorem next_eq {b : Bed} {m : Mdl} {s : List Rock.Blk} {rates : List Int} (hr : Rv b rates) (hl : s.length = b.n) : feedTo b m (wellsTo b s ((flows b m s).foldl flowMove s) rates rates.length) b.n = nextSt b m s rates := by
  have : (b.wells.zip rates).take rates.length = b.wells.zip rates := List.take_of_length_le (by rw [List.length_zip]; omega)
  simp only [nextSt, feedTo, wellsTo, this, hl]
theorem flows_bnd {b : Bed} {m : Mdl} {s : List Rock.Blk} (h : Fv b m) (hs : Sv b s) : bnd 500000000000000 ((flows b m s).foldl flowMove s) ∧ ((flows b m s).foldl flowMove s).length = s.length := by
  obtain ⟨h1, h2⟩ := flows_ok (m := m) h.bv hs
  have key : ∀ (es : List ((Nat × Nat) × Rock.Blk)) (s : List Rock.Blk) (N : Int), (∀ e ∈ es, Flw b e) → bnd N s → bnd (N + 2000000000000 * es.length) (es.foldl flowMove s) ∧ (es.foldl flowMove s).length = s.length := by
    intro es
    induction es with
    | nil => intro s N _ h; exact ⟨by simpa using h, rfl⟩
    | cons e es ih =>
      intro s N he hb
      obtain ⟨a1, a2⟩ := ih (flowMove s e) _ (fun x hx => he x (by simp [hx])) (flow_bnd hb (he e (by simp)))
      simp only [List.foldl_cons, List.length_cons]
      exact ⟨fun x hx => sm_mono (a1 x hx) (by push_cast; omega), by rw [a2, flow_len]⟩
  obtain ⟨a1, a2⟩ := key _ s _ h1 hs.bnd
  exact ⟨fun x hx => sm_mono (a1 x hx) (by omega), a2⟩
theorem C_rest {b : Bed} {m : Mdl} {s s1 : List Rock.Blk} {rates : List Int} {A FL X Y Z W : Abs.Blk} (h : Fv b m) (hs : Sv b s) (hr : Rv b rates) (hb : bnd 500000000000000 s1) (hl1 : s1.length = s.length) :
    WC (lim T) f_rock_bedded_tick_l29 ((25, .bool false) :: (24, .undef) :: envT b m s rates σ.length) ([A, .cells 1 (s1.flatMap Blk.enc), FL, X, Y, Z, W] :: σ) fun x e σ' =>
      x = .ret ∧ σ' = [A, .cells 1 ((feedTo b m (wellsTo b s s1 rates rates.length) b.n).flatMap Blk.enc), FL, X, Y, Z, W, .cells rates.length ((yieldsOf b s rates).flatMap Blk.enc)] :: σ ∧
      (if stateOk b (feedTo b m (wellsTo b s s1 rates rates.length) b.n) = true then get e 6 = .sl σ.length 1 1 0 b.n 3 ∧ get e 7 = .sl σ.length 7 rates.length 0 rates.length 3 ∧ get e 8 = .int .i64 0
        else get e 6 = .nils ∧ get e 7 = .nils ∧ get e 8 = .int .i64 9) := by
  have hl := hs.len
  have hn := h.bv.n
  have hwl := h.bv.wells
  have hrl := hr.len
  obtain ⟨wb, wl⟩ := wellsTo_ok h.bv hs hr hb rates.length (Nat.le_refl _)
  have fl := feedTo_len (b := b) (m := m) (s2 := wellsTo b s s1 rates rates.length) b.n
  rw [WC_eq e_rock_bedded_tick_l29]
  simp [-List.length_flatMap, -List.map_take, eF, envT, cl_rw, cl_bore, cl_int]
  refine WL.to (L_wells (σ := σ) (A := A) (FL := FL) (X := X) (Y := Y) (Z := Z) (W := W) h hs hr hb hl1 rates.length 0 0 (by omega)) (by simp [cl_rw, cl_bore, cl_int]) (by simp [wellsTo]) ?_
  rintro x e σ' ⟨rfl, g3, g9, g12, rfl⟩
  rw [hl] at g9
  simp [-List.length_flatMap, -List.map_take, eF, g3, g9, g12, cl_rw, cl_bore, cl_int]
  refine WL.to (L_feed (σ := σ) (A := A) (FL := FL) (X := X) (Y := Y) (Z := Z) (W := W) (V := .cells (0 + rates.length) ((yieldsOf b s rates).flatMap Blk.enc)) (d12 := .sl σ.length 7 (0 + rates.length) 0 rates.length 3) h (fun x hx => sm_mono (wb x hx) (by omega)) (by rw [wl, hl1, hl]) ⟨rfl, rfl⟩ b.n 0 (by omega)) (by simp [cl_rw, cl_bore, cl_int]) (by simp [feedTo]) ?_
  rintro x e σ' ⟨rfl, g3, g9, g12, rfl⟩
  have hS := C_stateSl (m := m) (b := b) (s := feedTo b m (wellsTo b s s1 rates rates.length) b.n) h.bv (lv := σ.length) (bi := 1) (v := 1) (F := [A, .cells 1 ((feedTo b m (wellsTo b s s1 rates rates.length) b.n).flatMap Blk.enc), FL, X, Y, Z, W, .cells (0 + rates.length) ((yieldsOf b s rates).flatMap Blk.enc)]) (σ := [A, .cells 1 ((feedTo b m (wellsTo b s s1 rates rates.length) b.n).flatMap Blk.enc), FL, X, Y, Z, W, .cells (0 + rates.length) ((yieldsOf b s rates).flatMap Blk.enc)] :: σ) rfl (by simp [seg?]) (by rw [fl, wl, hl1, hl])
  rw [show (feedTo b m (wellsTo b s s1 rates rates.length) b.n).length = b.n by rw [fl, wl, hl1, hl]] at hS
  cases hc : stateOk b (feedTo b m (wellsTo b s s1 rates rates.length) b.n)
  · rw [hc] at hS
    simp at hS
    simp [-List.length_flatMap, -List.map_take, eF, g3, g9, g12, hS, cl_rw, cl_bore, cl_int]
  · rw [hc] at hS
    simp at hS
    simp [-List.length_flatMap, -List.map_take, eF, g3, g9, g12, hS, cl_rw, cl_bore, cl_int]
def tickD (b : Bed) (m : Mdl) (s : List Rock.Blk) (rates : List Int) : D := match tick b m s rates with
  | some (s', y) => .tup [.lst s'.length (s'.flatMap Blk.enc), .lst y.length (y.flatMap Blk.enc), .int .i64 0]
  | none => .tup [.nils, .nils, .int .i64 9]
theorem C_tick {b : Bed} {m : Mdl} {s : List Rock.Blk} {rates : List Int} (h : Fv b m) (hs : Sv b s) (hr : Rv b rates) (hσ : σ ≠ []) :
    lim T (.call false i_rock_bedded_tick [.agg [.int .i64 b.f.x, .int .i64 b.f.y, .int .i64 b.f.z, .int .i64 b.f.k, .lst b.tab.length (b.tab.flatMap Rw.enc), .int .i64 b.stiff, .int .i64 b.lift, .int .i64 b.deep, .lst b.wells.length (b.wells.flatMap Bore.enc), .str m.name, .lst m.vals.length (m.vals.flatMap intE)], .lst s.length (s.flatMap Blk.enc), .lst rates.length (rates.flatMap intE)] σ) = some (.val (tickD b m s rates) σ) := by
  refine call_of T_rock_bedded_tick e_rock_bedded_tick rfl ?_
  have hl := hs.len
  have hn := h.bv.n
  have hne : s ≠ [] := by intro h0; rw [h0] at hl; simp at hl; omega
  have hC := C_clone (σ := σ) (s := s) (bs := []) (by omega) hne
  obtain ⟨X, Y, Z, hF⟩ := C_flows (σ := σ) (A := .cells 0 []) (B := .cells 1 (s.flatMap Blk.enc)) h hs
  obtain ⟨fb, fl⟩ := flows_bnd h hs
  obtain ⟨x, e', σ', hrun, rfl, rfl, hq⟩ := C_rest (σ := σ) (A := .cells 0 []) (FL := .cells 0 (flE (flows b m s))) (X := X) (Y := Y) (Z := Z) (W := .dead) h hs hr fb fl
  obtain ⟨f1, f2⟩ := flows_ok (m := m) h.bv hs
  have hM := L_move (σ := σ) (rates := rates) (m := m) (A := .cells 0 []) (X := X) (Y := Y) (Z := Z) (es := flows b m s) hs f1 f2 (r := .ctl .ret e' ([.cells 0 [], .cells 1 ((feedTo b m (wellsTo b s ((flows b m s).foldl flowMove s) rates rates.length) b.n).flatMap Blk.enc), .cells 0 (flE (flows b m s)), X, Y, Z, .dead, .cells rates.length ((yieldsOf b s rates).flatMap Blk.enc)] :: σ)) ⟨_, _, _, hrun, rfl⟩ _ [] List.nodup_nil (by simp) rfl
  simp only [List.nil_append, List.length_nil, Nat.zero_add] at hC
  have hG : mpD ([.cells 0 [], .cells 1 (s.flatMap Blk.enc), .cells 0 (flE (flows b m s)), X, Y, Z] :: σ) .rng [.yld σ.length 2] = some (.yld σ.length 6, [.cells 0 [], .cells 1 (s.flatMap Blk.enc), .cells 0 (flE (flows b m s)), X, Y, Z, itB σ.length (flows b m s).length []] :: σ) := by
    simp [mpD, mapD, itB, jsD, flE]
  simp [-List.length_flatMap, -List.map_take, eF, hC, hF, hG, cl_rw, cl_bore, cl_int, cl_blk]
  refine ⟨_, _, _, by simpa [envT, stT] using hM, ?_⟩
  rw [next_eq hr hl] at hq ⊢
  have hnl : (nextSt b m s rates).length = b.n := by
    rw [← next_eq hr hl, feedTo_len, (wellsTo_ok h.bv hs hr fb rates.length (Nat.le_refl _)).2, fl, hl]
  have hyl : (yieldsOf b s rates).length = rates.length := by simp [yieldsOf, hr.len]
  unfold tickD tick
  cases hc : stateOk b (nextSt b m s rates)
  · rw [hc] at hq
    simp at hq
    obtain ⟨g6, g7, g8⟩ := hq
    simp [g6, g7, g8]
  · rw [hc] at hq
    simp only [if_true] at hq
    obtain ⟨g6, g7, g8⟩ := hq
    simp only [if_true]
    simp [g6, g7, g8]
    rw [frz_tup (by simp) (by omega)]
    simp only [frzL_cons, frzL_nil]
    rw [← hnl, k_out (f := Blk.enc) (l := nextSt b m s rates) (by decide) (fun _ => rfl) (fun x => by simp) hσ (by simp)]
    simp only [List.set_cons_succ, List.set_cons_zero]
    rw [← hyl, k_out (f := Blk.enc) (l := yieldsOf b s rates) (by decide) (fun _ => rfl) (fun x => by simp) hσ (by simp)]
    rw [frz_clean (by simp) (by omega)]
    exact ⟨_, rfl⟩
end Go.Proofs.YtehandllpmlcoaaGreat

/-
  A run.
-/
set_option linter.unusedVariables false
set_option linter.unusedSimpArgs false
namespace Go.Proofs.YtehandllpmlcoaaGreat
open Go Go.Abs Go.Rock
variable {σ : Stack}

def stL (s : List Rock.Blk) : List D := [.lst s.length (s.flatMap Blk.enc)]
theorem stL_len (l : List (List Rock.Blk)) : (l.flatMap stL).length = l.length := by
  have := flat_len (f := stL) (w := 1) (fun _ => rfl) l
  omega
theorem Sv.next {b : Bed} {m : Mdl} {s : List Rock.Blk} {rates : List Int} (h : Bv b) {s' y : List Rock.Blk} (ht : tick b m s rates = some (s', y)) : Sv b s' := by
  unfold tick at ht
  split at ht
  · rename_i hc
    simp only [Option.some.injEq, Prod.mk.injEq] at ht
    obtain ⟨rfl, _⟩ := ht
    exact (Sv.of h).1 hc
  · cases ht
theorem room24 {n : Nat} (h : n ≤ 1000000) : n * 24 ≤ room := by unfold room; omega
theorem cl_st (l : List (List Rock.Blk)) : D.cleanL (l.flatMap stL) = true := k_clean (fun x => by simp [stL, D.clean, cl_blk]) l
def runQ (b : Bed) (m : Mdl) (σ : Stack) (r : Option (List (List Rock.Blk) × List (List Rock.Blk))) (x : Abs.Exit) (e : Env) (σ' : Stack) : Prop := match r with
  | some (ss, ys) => ∃ v u, x = .exit 0 ∧ get e 4 = .own 0 [.sl σ.length 2 v 0 ss.length 1, .sl σ.length 1 u 0 ys.length 1] ∧ σ' = [.cells 0 [], .cells u (ys.flatMap stL), .cells v (ss.flatMap stL)] :: σ
  | none => x = .thr (.ifc 205 (.agg [])) ∧ ∃ seg, σ' = seg :: σ
theorem L_run {b : Bed} {m : Mdl} {plan : List (List Int)} (h : Fv b m) (hp : plan.length ≤ 200) (hr : ∀ r ∈ plan, Rv b r) : ∀ (k i v u : Nat) (ss ys : List (List Rock.Blk)) (s : List Rock.Blk), i + k = plan.length → ss.length = i + 1 → ys.length = i → ss[i]? = some s → Sv b s →
    WL T [2, 4, 14, 15, 16] false f_rock_bedded_run_l11 [(2, .cref [.int .i64 b.f.x, .int .i64 b.f.y, .int .i64 b.f.z, .int .i64 b.f.k, .lst b.tab.length (b.tab.flatMap Rw.enc), .int .i64 b.stiff, .int .i64 b.lift, .int .i64 b.deep, .lst b.wells.length (b.wells.flatMap Bore.enc), .str m.name, .lst m.vals.length (m.vals.flatMap intE)]), (4, .own 0 [.sl σ.length 2 v 0 (i + 1) 1, .sl σ.length 1 u 0 i 1]), (14, .lst plan.length (plan.flatMap inL)), (15, .int .i64 plan.length), (16, .int .i64 i)]
      ([.cells 0 [], .cells u (ys.flatMap stL), .cells v (ss.flatMap stL)] :: σ) (runQ b m σ (runFrom b m ss ys s (plan.drop i)))
  | 0, i, v, u, ss, ys, s, hi, h1, h2, h3, hs => by
    refine WL_step e_rock_bedded_run_l11 ?_
    obtain rfl : i = plan.length := by omega
    have h5 : plan.drop plan.length = [] := List.drop_eq_nil_of_le (by omega)
    simp [-List.length_flatMap, -List.map_take, eF, h5, runFrom, runQ]
    exact ⟨v, u, by simp [h1, h2]⟩
  | k + 1, i, v, u, ss, ys, s, hi, h1, h2, h3, hs => by
    refine WL_step e_rock_bedded_run_l11 ?_
    have hlt : i < plan.length := by omega
    have hii : (i : Int) < i + 1 := by omega
    obtain ⟨r, hx⟩ : ∃ r, plan[i]? = some r := ⟨_, List.getElem?_eq_getElem hlt⟩
    have h4 := wnext hlt (by omega)
    have h5 := drop_at hx
    have a1 := flat_at (f := inL) (w := 1) (fun _ => rfl) hx
    simp only [inL, Nat.mul_one] at a1
    have a2 := k_drop (f := stL) (w := 1) (fun _ => rfl) h3
    simp only [stL, Nat.mul_one, List.singleton_append] at a2
    have hT := fun σ hσ => C_tick (σ := σ) h hs (hr r (List.mem_of_getElem? hx)) hσ
    rw [h5, runFrom]
    unfold tickD at hT
    cases ht : tick b m s r with
    | none =>
      rw [ht] at hT
      simp only at hT
      simp [-List.length_flatMap, -List.map_take, eF, hlt, hii, h4, a1, a2, hT, inL, runQ]
    | some p =>
      obtain ⟨s', y⟩ := p
      rw [ht] at hT
      simp only at hT
      have ih := L_run h hp hr k (i + 1) (v + 1) (u + 1) (ss ++ [s']) (ys ++ [y]) s' (by omega) (by simp [h1]) (by simp [h2]) (by simp [← h1]) (Sv.next h.bv ht)
      have l1 := stL_len ss
      have l2 := stL_len ys
      rw [h1] at l1
      rw [h2] at l2
      have f1 : (ss.flatMap stL).take (i + 1) = ss.flatMap stL := List.take_of_length_le (by omega)
      have f2 : (ys.flatMap stL).take i = ys.flatMap stL := List.take_of_length_le (by omega)
      have h7 := room24 (n := i + 1) (by omega)
      have h8 := room24 (n := i + 1 + 1) (by omega)
      simp [-List.length_flatMap, -List.map_take, eF, hlt, hii, h4, a1, a2, hT, inL, f1, f2, l1, l2, h7, h8]
      exact WL.to ih (by simp) (by simp [stL]) fun x e σ hh => hh
theorem runFrom_len {b : Bed} {m : Mdl} : ∀ (plan : List (List Int)) (ss ys : List (List Rock.Blk)) (s : List Rock.Blk) {ss' ys' : List (List Rock.Blk)}, runFrom b m ss ys s plan = some (ss', ys') → ss'.length = ss.length + plan.length ∧ ys'.length = ys.length + plan.length
  | [], ss, ys, s, ss', ys', h => by simp only [runFrom, Option.some.injEq, Prod.mk.injEq] at h; obtain ⟨rfl, rfl⟩ := h; exact ⟨rfl, rfl⟩
  | r :: plan, ss, ys, s, ss', ys', h => by
    simp only [runFrom] at h
    split at h
    · have := runFrom_len plan _ _ _ h
      simp at this ⊢; omega
    · cases h
theorem C_runOk {b : Bed} {m : Mdl} {plan : List (List Int)} (h : Fv b m) (hp : plan.length ≤ 200) (hr : ∀ r ∈ plan, Rv b r) (hσ : σ ≠ []) {ss ys : List (List Rock.Blk)} (hrun : Rock.run b m plan = some (ss, ys)) :
    lim T (.call false i_rock_bedded_run [.agg [.int .i64 b.f.x, .int .i64 b.f.y, .int .i64 b.f.z, .int .i64 b.f.k, .lst b.tab.length (b.tab.flatMap Rw.enc), .int .i64 b.stiff, .int .i64 b.lift, .int .i64 b.deep, .lst b.wells.length (b.wells.flatMap Bore.enc), .str m.name, .lst m.vals.length (m.vals.flatMap intE)], .lst plan.length (plan.flatMap inL)] σ) = some (.val (.agg [.lst ss.length (ss.flatMap stL), .lst ys.length (ys.flatMap stL)]) σ) := by
  refine call_of T_rock_bedded_run e_rock_bedded_run rfl ?_
  have hf := fun σ hσ => C_firstSt (σ := σ) h hσ
  simp only [stE] at hf
  simp [-List.length_flatMap, -List.map_take, eF, hf, cl_rw, cl_bore, cl_int]
  refine WL.to (L_run (σ := σ) h hp hr plan.length 0 0 0 [firstSt b m] [] (firstSt b m) (by omega) rfl rfl rfl (Sv.first h)) (by simp) (by simp [stL]) ?_
  rw [List.drop_zero, show runFrom b m [firstSt b m] [] (firstSt b m) plan = some (ss, ys) from hrun]
  rintro x e σ' ⟨v, u, rfl, g4, rfl⟩
  simp [-List.length_flatMap, -List.map_take, eF, g4]
  have c1 : ∀ x : List Rock.Blk, D.cleanL (stL x) = true := fun x => by simp [stL, D.clean, cl_blk]
  rw [frz_agg (by simp) (by omega)]
  simp only [frzL_cons, frzL_nil]
  rw [k_out (f := stL) (w := 1) (l := ss) (by decide) (fun _ => rfl) c1 hσ (by simp)]
  simp only [List.set_cons_succ, List.set_cons_zero]
  rw [k_out (f := stL) (w := 1) (l := ys) (by decide) (fun _ => rfl) c1 hσ (by simp)]
  exact ⟨_, rfl⟩
theorem C_runNo {b : Bed} {m : Mdl} {plan : List (List Int)} (h : Fv b m) (hp : plan.length ≤ 200) (hr : ∀ r ∈ plan, Rv b r) (hrun : Rock.run b m plan = none) :
    lim T (.call false i_rock_bedded_run [.agg [.int .i64 b.f.x, .int .i64 b.f.y, .int .i64 b.f.z, .int .i64 b.f.k, .lst b.tab.length (b.tab.flatMap Rw.enc), .int .i64 b.stiff, .int .i64 b.lift, .int .i64 b.deep, .lst b.wells.length (b.wells.flatMap Bore.enc), .str m.name, .lst m.vals.length (m.vals.flatMap intE)], .lst plan.length (plan.flatMap inL)] σ) = some (.thr (.ifc 205 (.agg [])) σ) := by
  refine throws_of T_rock_bedded_run e_rock_bedded_run rfl ?_
  have hf := fun σ hσ => C_firstSt (σ := σ) h hσ
  simp only [stE] at hf
  simp [-List.length_flatMap, -List.map_take, eF, hf, cl_rw, cl_bore, cl_int]
  refine WL.to (L_run (σ := σ) h hp hr plan.length 0 0 0 [firstSt b m] [] (firstSt b m) (by omega) rfl rfl rfl (Sv.first h)) (by simp) (by simp [stL]) ?_
  rw [List.drop_zero, show runFrom b m [firstSt b m] [] (firstSt b m) plan = none from hrun]
  rintro x e σ' ⟨rfl, seg, rfl⟩
  simp [D.clean]
end Go.Proofs.YtehandllpmlcoaaGreat

/-
  Flashes: what becomes steam.
-/
set_option linter.unusedVariables false
set_option linter.unusedSimpArgs false
namespace Go.Proofs.YtehandllpmlcoaaGreat
open Go Go.Abs Go.Rock
variable {σ : Stack}

/-- A stream. -/
structure Stm where
  m : Int
  h : Int
  s : Int
  g : Int
@[simp] def Stm.enc (x : Stm) : List D := [.int .i64 x.m, .int .i64 x.h, .int .i64 x.s, .int .i64 x.g]
def Stm.valid (x : Stm) : Bool := inn x.m 0 1000000 && (inn x.h 0 (4000 * x.m) && (inn x.s 0 (10000 * x.m) && inn x.g 0 1000000000))
/-- What of it becomes steam at a level. -/
def fsteam (r : Rw) (x : Stm) : Int := if x.h - x.m * r.l ≤ 0 then 0 else if x.m * r.v ≤ x.h then x.m else (x.h - x.m * r.l) / (r.v - r.l)
/-- It rises with the heat. -/
theorem fsteam_mono {r : Rw} {m a b s t g k : Int} (hr : r.l < r.v) (hm : 0 ≤ m) (hab : a ≤ b) : fsteam r ⟨m, a, s, g⟩ ≤ fsteam r ⟨m, b, t, k⟩ := by
  have hd : 0 < r.v - r.l := by omega
  have hmv : m * r.v = m * r.l + m * (r.v - r.l) := by rw [← Int.mul_add]; congr 1; omega
  unfold fsteam
  simp only
  have key : ∀ x, ¬ m * r.v ≤ x → (x - m * r.l) / (r.v - r.l) ≤ m := by
    intro x hx
    exact Int.ediv_le_of_le_mul hd (by omega)
  by_cases c1 : a - m * r.l ≤ 0
  · rw [if_pos c1]
    by_cases c2 : b - m * r.l ≤ 0
    · rw [if_pos c2]; omega
    · rw [if_neg c2]
      by_cases c3 : m * r.v ≤ b
      · rw [if_pos c3]; exact hm
      · rw [if_neg c3]; exact Int.ediv_nonneg (by omega) (by omega)
  · have c2 : ¬ b - m * r.l ≤ 0 := by omega
    rw [if_neg c1, if_neg c2]
    by_cases c3 : m * r.v ≤ b
    · rw [if_pos c3]
      by_cases c4 : m * r.v ≤ a
      · rw [if_pos c4]; omega
      · rw [if_neg c4]; exact key _ c4
    · rw [if_neg c3, if_neg (show ¬ m * r.v ≤ a by omega)]
      exact Int.ediv_le_ediv hd (by omega)
end Go.Proofs.YtehandllpmlcoaaGreat

/-
  Flashes: their parts.
-/
set_option linter.unusedVariables false
set_option linter.unusedSimpArgs false
namespace Go.Proofs.YtehandllpmlcoaaGreat
open Go Go.Abs Go.Rock
variable {σ : Stack}

/-- The parts: steam, water, rest, scale. -/
def wat (r : Rw) (x : Stm) : Int × Int := if fsteam r x = 0 then (x.m, x.h) else if fsteam r x = x.m then (0, 0) else (x.m - fsteam r x, x.h - fsteam r x * r.v)
def stmH (r : Rw) (x : Stm) : Int := if fsteam r x = 0 then 0 else if fsteam r x = x.m then x.h else fsteam r x * r.v
def watG (r : Rw) (x : Stm) : Int := if fsteam r x = 0 then x.g else 0
def stmG (r : Rw) (x : Stm) : Int := if fsteam r x = 0 then 0 else x.g
def held (r : Rw) (x : Stm) : Int := min x.s ((wat r x).1 * r.s)
def parts (r : Rw) (x : Stm) : List D := [.int .i64 (fsteam r x), .int .i64 (stmH r x), .int .i64 0, .int .i64 (stmG r x), .int .i64 (wat r x).1, .int .i64 (wat r x).2, .int .i64 (held r x), .int .i64 (watG r x),
  .int .i64 (if 0 < (wat r x).1 then max 0 ((wat r x).2 - (wat r x).1 * r.l) else 0), .int .i64 (x.s - held r x)]
end Go.Proofs.YtehandllpmlcoaaGreat

/-
  Flashes: what the program makes of a stream.
-/
set_option linter.unusedVariables false
set_option linter.unusedSimpArgs false
namespace Go.Proofs.YtehandllpmlcoaaGreat
open Go Go.Abs Go.Rock
variable {σ : Stack}

theorem fsteam_b {r : Rw} {x : Stm} (hr : 0 ≤ r.l ∧ r.l < r.v ∧ r.v ≤ 4000) (hm : 0 ≤ x.m) : 0 ≤ fsteam r x ∧ fsteam r x ≤ x.m ∧ (fsteam r x ≠ 0 → fsteam r x ≠ x.m → 0 ≤ x.h - fsteam r x * r.v + x.m * r.v) := by
  have hmv : x.m * r.v = x.m * r.l + x.m * (r.v - r.l) := by rw [← Int.mul_add]; congr 1; omega
  have hml := Int.mul_nonneg hm hr.1
  have key : ¬ x.h - x.m * r.l ≤ 0 → ¬ x.m * r.v ≤ x.h → 0 ≤ (x.h - x.m * r.l) / (r.v - r.l) ∧ (x.h - x.m * r.l) / (r.v - r.l) ≤ x.m := fun h1 h2 => ⟨Int.ediv_nonneg (by omega) (by omega), Int.ediv_le_of_le_mul (by omega) (by omega)⟩
  have h2 : 0 ≤ fsteam r x ∧ fsteam r x ≤ x.m := by
    unfold fsteam
    by_cases c1 : x.h - x.m * r.l ≤ 0
    · rw [if_pos c1]; omega
    · rw [if_neg c1]
      by_cases c2 : x.m * r.v ≤ x.h
      · rw [if_pos c2]; omega
      · rw [if_neg c2]; exact key c1 c2
  refine ⟨h2.1, h2.2, fun h3 _ => ?_⟩
  have h4 := Int.mul_le_mul_of_nonneg_right h2.2 (show 0 ≤ r.v by omega)
  have h5 : ¬ x.h - x.m * r.l ≤ 0 := by
    intro hh; exact h3 (by unfold fsteam; rw [if_pos hh])
  omega
end Go.Proofs.YtehandllpmlcoaaGreat

/-
  Flash and Bounds.
-/
set_option linter.unusedVariables false
set_option linter.unusedSimpArgs false
namespace Go.Proofs.YtehandllpmlcoaaGreat
open Go Go.Abs Go.Rock
variable {σ : Stack}

theorem row_in {t : List Rw} (ht : tabOk t = true) {i : Nat} {r : Rw} (h : t[i]? = some r) : (0 ≤ r.l ∧ r.l < r.v ∧ r.v ≤ 4000) ∧ (0 ≤ r.s ∧ r.s ≤ 2000) := by
  simp only [tabOk, Bool.and_eq_true] at ht
  have := allB_iff.1 ht.2.1 r (List.mem_of_getElem? h)
  simp only [Rw.alone, Bool.and_eq_true, inn_iff, decide_eq_true_eq] at this
  obtain ⟨_, _, h3, h4, h5, h6⟩ := this
  exact ⟨⟨h3.1, h5, h6⟩, h4⟩
end Go.Proofs.YtehandllpmlcoaaGreat

/-
  Bounds.
-/
set_option linter.unusedVariables false
set_option linter.unusedSimpArgs false
namespace Go.Proofs.YtehandllpmlcoaaGreat
open Go Go.Abs Go.Rock
variable {σ : Stack}

end Go.Proofs.YtehandllpmlcoaaGreat

/-
  What is known of the runs.
-/
set_option linter.unusedVariables false
set_option linter.unusedSimpArgs false
namespace Go.Proofs.YtehandllpmlcoaaGreat
open Go Go.Abs Go.Rock
variable {σ : Stack}

/-- What is known of the yields of a tick. -/
structure Yv (b : Bed) (y : List Rock.Blk) : Prop where
  len : y.length = b.wells.length
  ok : ∀ o ∈ y, (0 ≤ o.m ∧ o.m ≤ 1000000) ∧ (0 ≤ o.h ∧ o.h ≤ 10000000000) ∧ (0 ≤ o.k ∧ o.k ≤ 1000000000000)
theorem Yv.of {b : Bed} {s : List Rock.Blk} {rates : List Int} (h : Bv b) (hs : Sv b s) (hr : Rv b rates) : Yv b (yieldsOf b s rates) := by
  refine ⟨by simp [yieldsOf, hr.len], ?_⟩
  intro o ho
  simp only [yieldsOf, List.mem_map] at ho
  obtain ⟨⟨w, r⟩, hm, rfl⟩ := ho
  have hw := wells_ok h w (List.of_mem_zip hm).1
  have hb := hr.ok r (List.of_mem_zip hm).2
  simp only [wellYield]
  split
  · simp
  · obtain ⟨_, h1, h2, h3⟩ := hs.at (i := w.b.toNat) (by omega)
    generalize blkAt s w.b.toNat = x at *
    have h8 : x.m.tdiv 8 = x.m / 8 := Int.tdiv_eq_ediv_of_nonneg (by omega)
    have hq : 0 ≤ min r (x.m.tdiv 8) ∧ min r (x.m.tdiv 8) ≤ x.m := by omega
    exact ⟨⟨hq.1, by simp only [Rock.Blk.out]; omega⟩, out_b h1.1 h2 hq, out_b h1.1 h3 hq⟩
theorem tick_out {b : Bed} {m : Mdl} {s : List Rock.Blk} {rates : List Int} {s' y : List Rock.Blk} (h : Bv b) (hs : Sv b s) (hr : Rv b rates) (ht : tick b m s rates = some (s', y)) : Sv b s' ∧ Yv b y := by
  refine ⟨Sv.next h ht, ?_⟩
  unfold tick at ht
  split at ht
  · simp only [Option.some.injEq, Prod.mk.injEq] at ht
    rw [← ht.2]
    exact Yv.of h hs hr
  · cases ht
/-- What is known of a run. -/
structure Run (b : Bed) (n : Nat) (ss ys : List (List Rock.Blk)) : Prop where
  sl : ss.length = n + 1
  yl : ys.length = n
  sv : ∀ s ∈ ss, Sv b s
  yv : ∀ y ∈ ys, Yv b y
theorem Run.from {b : Bed} {m : Mdl} (h : Fv b m) : ∀ (plan : List (List Int)) (n : Nat) (ss ys : List (List Rock.Blk)) (s : List Rock.Blk) {ss' ys' : List (List Rock.Blk)}, (∀ r ∈ plan, Rv b r) → Run b n ss ys → Sv b s → runFrom b m ss ys s plan = some (ss', ys') → Run b (n + plan.length) ss' ys'
  | [], n, ss, ys, s, ss', ys', hr, h1, h2, he => by
    simp only [runFrom, Option.some.injEq, Prod.mk.injEq] at he
    obtain ⟨rfl, rfl⟩ := he; exact h1
  | r :: plan, n, ss, ys, s, ss', ys', hr, h1, h2, he => by
    simp only [runFrom] at he
    split at he
    · rename_i s' y ht
      obtain ⟨g1, g2⟩ := tick_out h.bv h2 (hr r (List.mem_cons_self ..)) ht
      have := Run.from h plan (n + 1) _ _ _ (fun x hx => hr x (List.mem_cons_of_mem _ hx)) (⟨by simp [h1.sl], by simp [h1.yl], by
        intro x hx
        rcases List.mem_append.1 hx with hx | hx
        · exact h1.sv x hx
        · rw [List.mem_singleton.1 hx]; exact g1, by
        intro x hx
        rcases List.mem_append.1 hx with hx | hx
        · exact h1.yv x hx
        · rw [List.mem_singleton.1 hx]; exact g2⟩ : Run b (n + 1) (ss ++ [s']) (ys ++ [y])) g1 he
      rw [show n + (r :: plan).length = n + 1 + plan.length by simp; omega]
      exact this
    · cases he
theorem Run.of {b : Bed} {m : Mdl} {plan : List (List Int)} {ss ys : List (List Rock.Blk)} (h : Fv b m) (hr : ∀ r ∈ plan, Rv b r) (he : Rock.run b m plan = some (ss, ys)) : Run b plan.length ss ys := by
  have := Run.from h plan 0 _ _ _ hr (⟨rfl, rfl, by simpa using Sv.first h, by simp⟩ : Run b 0 [firstSt b m] []) (Sv.first h) he
  simpa using this
end Go.Proofs.YtehandllpmlcoaaGreat

/-
  What the reference's functions on fields, names and models answer.
-/
set_option linter.unusedVariables false
set_option linter.unusedSimpArgs false
namespace Go.Proofs.YtehandllpmlcoaaGreat
open Go Go.Abs Go.Rock
variable {σ : Stack}

theorem allB_cons {α : Type} {p : α → Bool} {x : α} {l : List α} : allB (x :: l) p = (p x && allB l p) := by simp [allB]
theorem C_In1 {a b c : Int} : lim T (.call false i_ref01_In [.int .i64 a, .int .i64 b, .int .i64 c] σ) = some (.val (.bool (inn a b c)) σ) := by
  refine call_of T_ref01_In e_ref01_In rfl ?_
  by_cases h : b ≤ a <;> simp [-List.length_flatMap, -List.map_take, eF, h, inn]
theorem C_In2 {a b c : Int} : lim T (.call false i_ref02_In [.int .i64 a, .int .i64 b, .int .i64 c] σ) = some (.val (.bool (inn a b c)) σ) := by
  refine call_of T_ref02_In e_ref02_In rfl ?_
  by_cases h : b ≤ a <;> simp [-List.length_flatMap, -List.map_take, eF, h, inn]
theorem C_RSize {f : Fld} (hx : 1 ≤ f.x ∧ f.x ≤ 8) (hy : 1 ≤ f.y ∧ f.y ≤ 8) (hz : 1 ≤ f.z ∧ f.z ≤ 8) : lim T (.call false i_ref02_Size [.agg [.int .i64 f.x, .int .i64 f.y, .int .i64 f.z, .int .i64 f.k]] σ) = some (.val (.int .i64 f.size) σ) := by
  refine call_of T_ref02_Size e_ref02_Size rfl ?_
  obtain ⟨h1, h2⟩ := Fld.sz hx hy hz
  have w1 := w64 (n := f.x * f.y) (by omega)
  have w2 := w64 (n := f.x * f.y * f.z) (by omega)
  simp [-List.length_flatMap, -List.map_take, eF, w1, w2, Fld.size]
theorem C_RSize' {f : Fld} (h : f.valid = true) : lim T (.call false i_ref02_Size [.agg [.int .i64 f.x, .int .i64 f.y, .int .i64 f.z, .int .i64 f.k]] σ) = some (.val (.int .i64 f.size) σ) := by
  obtain ⟨h1, h2, h3, h4, h5⟩ := Fld.valid_iff.1 h
  exact C_RSize h1 h2 h3
theorem C_FRight {f : Fld} : lim T (.call false i_ref02_Right [.agg [.int .i64 f.x, .int .i64 f.y, .int .i64 f.z, .int .i64 f.k]] σ) = some (.val (.bool f.valid) σ) := by
  refine call_of T_ref02_Right e_ref02_Right rfl ?_
  cases hc1 : inn f.x 1 8
  · simp [-List.length_flatMap, -List.map_take, eF, C_In2, Fld.valid, hc1]
  cases hc2 : inn f.y 1 8
  · simp [-List.length_flatMap, -List.map_take, eF, C_In2, Fld.valid, hc1, hc2]
  cases hc3 : inn f.z 1 8
  · simp [-List.length_flatMap, -List.map_take, eF, C_In2, Fld.valid, hc1, hc2, hc3]
  obtain ⟨h1, h2⟩ := Fld.sz (inn_iff.1 hc1) (inn_iff.1 hc2) (inn_iff.1 hc3)
  have w1 := w64 (n := f.x * f.y) (by omega)
  have w2 := w64 (n := f.x * f.y * f.z) (by omega)
  by_cases hc4 : f.x * f.y * f.z ≤ 64
  · simp [-List.length_flatMap, -List.map_take, eF, C_In2, Fld.valid, Fld.size, hc1, hc2, hc3, hc4, w1, w2]
  · simp [-List.length_flatMap, -List.map_take, eF, C_In2, Fld.valid, Fld.size, hc1, hc2, hc3, hc4, w1, w2]

/-! ### Names -/
theorem L_RName {s : List UInt8} (hl : s.length ≤ 9223372036854775807) : ∀ (m i : Nat), i + m = s.length →
    WL T [0, 3] false f_ref02_Name_l7 [(0, .str s), (3, .int .i64 i)] σ
      (fun x e σ' => σ' = σ ∧ if namedFrom i (s.drop i) then x = .exit 0 ∧ get e 0 = .str s else x = .ret ∧ get e 2 = .bool false)
  | 0, i, hi => by
    refine WL_step e_ref02_Name_l7 ?_
    have h1 : ¬ i < s.length := by omega
    have h2 : s.drop i = [] := List.drop_eq_nil_of_le (by omega)
    have hp : puD .slen [.str s] = some (.int .i64 s.length) := rfl
    simp [-List.length_flatMap, -List.map_take, eF, h1, h2, hp, namedFrom]
  | m + 1, i, hi => by
    refine WL_step e_ref02_Name_l7 ?_
    have h1 : i < s.length := by omega
    obtain ⟨c, hc⟩ : ∃ c, s[i]? = some c := ⟨_, List.getElem?_eq_getElem h1⟩
    have h4 := wnext h1 (by omega)
    have h5 := drop_at hc
    have ih := L_RName hl m (i + 1) (by omega)
    have hp : puD .slen [.str s] = some (.int .i64 s.length) := rfl
    rw [h5, namedFrom]
    have hd : puD .sidx [.str s, .int .i64 (i : Int)] = some (.int .u8 c.toNat) := by simp [puD, hc]
    by_cases hc1 : 97 ≤ c.toNat
    · by_cases hc2 : c.toNat ≤ 122
      · have hlet : letter c = true := by simp [letter, hc1, hc2]
        simp [-List.length_flatMap, -List.map_take, eF, h1, h4, hd, hp, hlet, show (97 : Int) ≤ (c.toNat : Int) by omega, show (c.toNat : Int) ≤ 122 by omega]
        exact WL.to ih (by simp) rfl fun x e σ' hh => by simpa [hlet] using hh
      · have hlet : letter c = false := by simp [letter, hc2]
        have hdig : digit c = false := by simp [digit]; omega
        by_cases hi0 : i = 0
        · subst hi0
          have hd0 : puD .sidx [.str s, .int .i64 0] = some (.int .u8 c.toNat) := by simpa using hd
          have h1' : 0 < s.length := h1
          simp [-List.length_flatMap, -List.map_take, eF, h1', h4, hd0, hp, hlet, hdig, show (97 : Int) ≤ (c.toNat : Int) by omega, show ¬ (c.toNat : Int) ≤ 122 by omega]
        · simp [-List.length_flatMap, -List.map_take, eF, h1, h4, hd, hp, hlet, hdig, hi0, show (97 : Int) ≤ (c.toNat : Int) by omega, show ¬ (c.toNat : Int) ≤ 122 by omega, show ¬ (c.toNat : Int) < 48 by omega, show (57 : Int) < (c.toNat : Int) by omega, show (57 : Nat) < c.toNat by omega, show ¬ c.toNat < 48 by omega]
    · have hlet : letter c = false := by simp [letter, hc1]
      by_cases hi0 : i = 0
      · subst hi0
        have hd0 : puD .sidx [.str s, .int .i64 0] = some (.int .u8 c.toNat) := by simpa using hd
        have h1' : 0 < s.length := h1
        simp [-List.length_flatMap, -List.map_take, eF, h1', h4, hd0, hp, hlet, show ¬ (97 : Int) ≤ (c.toNat : Int) by omega]
      · by_cases hc3 : c.toNat < 48
        · have hdig : digit c = false := by simp [digit]; omega
          simp [-List.length_flatMap, -List.map_take, eF, h1, h4, hd, hp, hlet, hdig, hi0, show ¬ (97 : Int) ≤ (c.toNat : Int) by omega, show (c.toNat : Int) < 48 by omega, hc3]
        · by_cases hc4 : 57 < c.toNat
          · have hdig : digit c = false := by simp [digit]; omega
            simp [-List.length_flatMap, -List.map_take, eF, h1, h4, hd, hp, hlet, hdig, hi0, show ¬ (97 : Int) ≤ (c.toNat : Int) by omega, show ¬ (c.toNat : Int) < 48 by omega, show (57 : Int) < (c.toNat : Int) by omega, hc3, hc4]
          · have hdig : digit c = true := by simp [digit]; omega
            simp [-List.length_flatMap, -List.map_take, eF, h1, h4, hd, hp, hlet, hdig, hi0, show ¬ (97 : Int) ≤ (c.toNat : Int) by omega, show ¬ (c.toNat : Int) < 48 by omega, show ¬ (57 : Int) < (c.toNat : Int) by omega, hc3, hc4]
            exact WL.to ih (by simp) rfl fun x e σ' hh => by simpa [hlet, hdig, hi0] using hh
theorem C_RName {s : List UInt8} (hl : s.length ≤ 9223372036854775807) : lim T (.call false i_ref02_Name [.str s] σ) = some (.val (.bool (named s)) σ) := by
  refine call_of T_ref02_Name e_ref02_Name rfl ?_
  have hp : puD .slen [.str s] = some (.int .i64 s.length) := rfl
  simp [-List.length_flatMap, -List.map_take, eF]
  refine WL.to (L_RName (σ := [] :: σ) hl s.length 0 (by omega)) (by simp) rfl ?_
  rintro x e σ' ⟨rfl, h⟩
  simp only [List.drop_zero] at h
  unfold named
  cases hc : namedFrom 0 s
  · simp [hc] at h
    simp [h]
  · simp [hc] at h
    obtain ⟨rfl, g0⟩ := h
    by_cases h1 : 1 ≤ s.length
    · by_cases h2 : s.length ≤ 16
      · simp [-List.length_flatMap, -List.map_take, eF, g0, hp, inn, show (1 : Int) ≤ s.length by omega, show (s.length : Int) ≤ 16 by omega]
      · simp [-List.length_flatMap, -List.map_take, eF, g0, hp, inn, show (1 : Int) ≤ s.length by omega, show ¬ (s.length : Int) ≤ 16 by omega]
    · simp [-List.length_flatMap, -List.map_take, eF, g0, hp, inn, show ¬ (1 : Int) ≤ s.length by omega]

/-! ### Models -/
theorem L_RModel {f : Fld} {m : Mdl} (hl : m.vals.length ≤ 9223372036854775807) : ∀ (k i : Nat), i + k = m.vals.length →
    WL T [3, 5] false f_ref02_ModelFault_l10 [(3, .cref [.str m.name, .lst m.vals.length (m.vals.flatMap intE)]), (5, .int .i64 i)] σ
      (fun x e σ' => σ' = σ ∧ if allB (m.vals.drop i) (fun n => inn n (-100000) 100000) then x = .exit 0 else x = .ret ∧ get e 4 = .int .i64 1)
  | 0, i, hi => by
    refine WL_step e_ref02_ModelFault_l10 ?_
    have h1 : ¬ i < m.vals.length := by omega
    have h2 : m.vals.drop i = [] := List.drop_eq_nil_of_le (by omega)
    simp [-List.length_flatMap, -List.map_take, eF, h1, h2, allB]
  | k + 1, i, hi => by
    refine WL_step e_ref02_ModelFault_l10 ?_
    have h1 : i < m.vals.length := by omega
    obtain ⟨c, hc⟩ : ∃ c, m.vals[i]? = some c := ⟨_, List.getElem?_eq_getElem h1⟩
    have h2 := intE_at hc
    have h4 := wnext h1 (by omega)
    have h5 := drop_at hc
    have ih := L_RModel (f := f) hl k (i + 1) (by omega)
    rw [h5, allB_cons]
    cases hb : inn c (-100000) 100000
    · simp [-List.length_flatMap, -List.map_take, eF, h1, h2, h4, C_In2, hb]
    · simp [-List.length_flatMap, -List.map_take, eF, h1, h2, h4, C_In2, hb]
      exact WL.to ih (by simp) rfl fun x e σ' hh => by simpa [hb] using hh
theorem C_RModel {f : Fld} {m : Mdl} (hf : f.valid = true) (hn : m.name.length ≤ 9223372036854775807) (hl : m.vals.length ≤ 9223372036854775807) : lim T (.call false i_ref02_ModelFault [.agg [.int .i64 f.x, .int .i64 f.y, .int .i64 f.z, .int .i64 f.k], .agg [.str m.name, .lst m.vals.length (m.vals.flatMap intE)]] σ) = some (.val (.int .i64 (f.model m)) σ) := by
  refine call_of T_ref02_ModelFault e_ref02_ModelFault rfl ?_
  obtain ⟨h6, h7⟩ := model_sz hf
  have w1 := w64 (n := f.k * f.size) (by omega)
  have hb := fun σ => C_RSize' (σ := σ) (f := f) hf
  cases hc1 : named m.name
  · simp [-List.length_flatMap, -List.map_take, eF, C_RName hn, hc1, Fld.model]
  · by_cases hc2 : (m.vals.length : Int) = f.k * f.size
    · simp [-List.length_flatMap, -List.map_take, eF, C_RName hn, hc1, hc2, hb, w1, cl_int]
      refine WL.to (L_RModel (σ := [] :: σ) (f := f) (m := m) hl m.vals.length 0 (by omega)) (by simp) (by simp) ?_
      rintro x e σ' ⟨rfl, h⟩
      simp only [List.drop_zero] at h
      cases hc3 : allB m.vals (fun n => inn n (-100000) 100000)
      · simp [hc3] at h
        simp [h, Fld.model, hc1, hc2, hc3]
      · simp [hc3] at h
        simp [-List.length_flatMap, -List.map_take, eF, h, Fld.model, hc1, hc2, hc3]
    · simp [-List.length_flatMap, -List.map_take, eF, C_RName hn, hc1, hc2, Fld.model, hb, w1]
end Go.Proofs.YtehandllpmlcoaaGreat

/-
  What the reference's functions on tables, beds and plans answer.
-/
set_option linter.unusedVariables false
set_option linter.unusedSimpArgs false
namespace Go.Proofs.YtehandllpmlcoaaGreat
open Go Go.Abs Go.Rock
variable {σ : Stack}

def risesO : Option Rw → Rw → Bool
  | some o, r => o.rises r
  | none, _ => true
/-- The rows of a table one by one, each with the one ahead of it. -/
def rowsOk (o : Option Rw) : List Rw → Bool
  | [] => true
  | r :: l => r.alone && (risesO o r && rowsOk (some r) l)
theorem rowsOk_cons {o : Option Rw} {r : Rw} {l : List Rw} : rowsOk o (r :: l) = (r.alone && (risesO o r && rowsOk (some r) l)) := rfl
theorem rowsOk_some (l : List Rw) : ∀ o, rowsOk (some o) l = (allB l Rw.alone && risesB (o :: l)) := by
  induction l with
  | nil => intro o; simp [rowsOk, allB, risesB]
  | cons r l ih =>
    intro o
    rw [rowsOk_cons, ih, allB_cons, risesB]
    show (r.alone && (o.rises r && (allB l Rw.alone && risesB (r :: l)))) = (r.alone && allB l Rw.alone && (o.rises r && risesB (r :: l)))
    cases r.alone <;> cases o.rises r <;> cases allB l Rw.alone <;> simp
theorem rowsOk_none (l : List Rw) : rowsOk none l = (allB l Rw.alone && risesB l) := by
  cases l with
  | nil => simp [rowsOk, allB, risesB]
  | cons r l => rw [rowsOk_cons, rowsOk_some, allB_cons]; cases r.alone <;> rfl
def befo (t : List Rw) : Nat → Option Rw
  | 0 => none
  | i + 1 => t[i]?
theorem L_TRight {t : List Rw} (hl : t.length ≤ 9223372036854775807) : ∀ (m i : Nat), i + m = t.length →
    WL T [0, 3] false f_ref01_Right_l9 [(0, .lst t.length (t.flatMap Rw.enc)), (3, .int .i64 i)] σ
      (fun x e σ' => σ' = σ ∧ if rowsOk (befo t i) (t.drop i) then x = .exit 0 ∧ get e 0 = .lst t.length (t.flatMap Rw.enc) else x = .ret ∧ get e 2 = .bool false)
  | 0, i, hi => by
    refine WL_step e_ref01_Right_l9 ?_
    have h1 : ¬ i < t.length := by omega
    have h2 : t.drop i = [] := List.drop_eq_nil_of_le (by omega)
    simp [-List.length_flatMap, -List.map_take, eF, h1, h2, rowsOk]
  | m + 1, i, hi => by
    refine WL_step e_ref01_Right_l9 ?_
    have h1 : i < t.length := by omega
    obtain ⟨r, hr⟩ : ∃ r, t[i]? = some r := ⟨_, List.getElem?_eq_getElem h1⟩
    have h2 := flat_at (f := Rw.enc) (w := 5) (fun _ => rfl) hr
    have h4 := wnext h1 (by omega)
    have h5 := drop_at hr
    have ih := L_TRight hl m (i + 1) (by omega)
    rw [show befo t (i + 1) = some r from hr] at ih
    rw [h5, rowsOk_cons]
    cases c1 : inn r.t 0 400
    · simp [-List.length_flatMap, -List.map_take, eF, h1, h2, h4, C_In1, c1, Rw.alone]
    cases c2 : inn r.p 1 10000
    · simp [-List.length_flatMap, -List.map_take, eF, h1, h2, h4, C_In1, c1, c2, Rw.alone]
    cases c3 : inn r.l 0 4000
    · simp [-List.length_flatMap, -List.map_take, eF, h1, h2, h4, C_In1, c1, c2, c3, Rw.alone]
    cases c4 : inn r.s 0 2000
    · simp [-List.length_flatMap, -List.map_take, eF, h1, h2, h4, C_In1, c1, c2, c3, c4, Rw.alone]
    by_cases c5 : r.l < r.v
    rotate_left
    · simp [-List.length_flatMap, -List.map_take, eF, h1, h2, h4, C_In1, c1, c2, c3, c4, c5, show r.v ≤ r.l by omega, Rw.alone]
    have c5' : ¬ r.v ≤ r.l := by omega
    by_cases c6 : r.v ≤ 4000
    rotate_left
    · simp [-List.length_flatMap, -List.map_take, eF, h1, h2, h4, C_In1, c1, c2, c3, c4, c5, c5', c6, show 4000 < r.v by omega, Rw.alone]
    have c6' : ¬ 4000 < r.v := by omega
    have ha : r.alone = true := by simp [Rw.alone, c1, c2, c3, c4, c5, c6]
    rw [ha]
    cases i with
    | zero =>
      rw [show risesO (befo t 0) r = true from rfl]
      have h2' : (t.flatMap Rw.enc).take 5 = [.int .i64 r.t, .int .i64 r.p, .int .i64 r.l, .int .i64 r.v, .int .i64 r.s] := by simpa using h2
      have h1' : 0 < t.length := by omega
      have hr0 : t[0]? = some r := hr
      simp [-List.length_flatMap, -List.map_take, eF, h1', h2', h4, C_In1, c1, c2, c3, c4, c5, c5', c6, c6']
      exact WL.to ih (by simp) (by simp) fun x e σ' hh => by simpa [hr0] using hh
    | succ j =>
      obtain ⟨o, ho⟩ : ∃ r, t[j]? = some r := ⟨_, List.getElem?_eq_getElem (by omega)⟩
      have h3 := flat_at (f := Rw.enc) (w := 5) (fun _ => rfl) ho
      rw [show befo t (j + 1) = some o from ho, show risesO (some o) r = o.rises r from rfl]
      have w1 := w64 (n := (j : Int)) (by omega)
      have w2 := w64 (n := (j : Int) + 1 + 1) (by omega)
      have hj : j < t.length := by omega
      have e1 : (j : Int) + 1 - 1 = j := by omega
      have hA : (j : Int) + 1 < (t.length : Int) := by omega
      have hB : (0 : Int) ≤ (j : Int) + 1 := by omega
      have hC : ((j : Int) + 1).toNat = j + 1 := by omega
      have hD : (0 : Int) < (j : Int) + 1 := by omega
      by_cases d1 : r.t ≤ o.t
      · simp [-List.length_flatMap, -List.map_take, eF, h1, h2, h3, h4, C_In1, c1, c2, c3, c4, c5, c5', c6, c6', e1, w1, hj, hA, hB, hC, hD, d1, Rw.rises]
      by_cases d2 : r.p ≤ o.p
      · simp [-List.length_flatMap, -List.map_take, eF, h1, h2, h3, h4, C_In1, c1, c2, c3, c4, c5, c5', c6, c6', e1, w1, hj, hA, hB, hC, hD, d1, d2, Rw.rises]
      by_cases d3 : r.l ≤ o.l
      · simp [-List.length_flatMap, -List.map_take, eF, h1, h2, h3, h4, C_In1, c1, c2, c3, c4, c5, c5', c6, c6', e1, w1, hj, hA, hB, hC, hD, d1, d2, d3, Rw.rises]
      by_cases d4 : r.s < o.s
      · simp [-List.length_flatMap, -List.map_take, eF, h1, h2, h3, h4, C_In1, c1, c2, c3, c4, c5, c5', c6, c6', e1, w1, hj, hA, hB, hC, hD, d1, d2, d3, d4, Rw.rises]
      have hrs : o.rises r = true := by simp [Rw.rises, d1, d2, d3, d4]
      simp [-List.length_flatMap, -List.map_take, eF, h1, h2, h3, h4, C_In1, c1, c2, c3, c4, c5, c5', c6, c6', e1, w1, hj, hA, hB, hC, hD, d1, d2, d3, d4, hrs, w2]
      exact WL.to ih (by simp) (by simp [w2]) fun x e σ' hh => by simpa [hrs] using hh
theorem C_TRight {t : List Rw} (hl : t.length ≤ 9223372036854775807) : lim T (.call false i_ref01_Right [.lst t.length (t.flatMap Rw.enc)] σ) = some (.val (.bool (tabOk t)) σ) := by
  refine call_of T_ref01_Right e_ref01_Right rfl ?_
  simp [-List.length_flatMap, -List.map_take, eF]
  refine WL.to (L_TRight (σ := [] :: σ) hl t.length 0 (by omega)) (by simp) rfl ?_
  rintro x e σ' ⟨rfl, h⟩
  simp only [List.drop_zero, befo, rowsOk_none] at h
  unfold tabOk
  cases hc : (allB t Rw.alone && risesB t)
  · simp [hc] at h
    simp [h]
  · simp only [hc, if_true] at h
    obtain ⟨rfl, g0⟩ := h
    by_cases h1 : 2 ≤ t.length
    · by_cases h2 : t.length ≤ 20
      · simp [-List.length_flatMap, -List.map_take, eF, g0, inn, show (2 : Int) ≤ t.length by omega, show (t.length : Int) ≤ 20 by omega, h1, h2]
      · simp [-List.length_flatMap, -List.map_take, eF, g0, inn, show (2 : Int) ≤ t.length by omega, show ¬ (t.length : Int) ≤ 20 by omega, h1, h2]
    · simp [-List.length_flatMap, -List.map_take, eF, g0, inn, show ¬ (2 : Int) ≤ t.length by omega, h1]

/-! ### Rates and plans -/
theorem L_RRates {l : List Int} (hl : l.length ≤ 9223372036854775807) : ∀ (k i : Nat), i + k = l.length →
    WL T [1, 5] false f_ref05_RatesFault_l8 [(1, .lst l.length (l.flatMap intE)), (5, .int .i64 i)] σ
      (fun x e σ' => σ' = σ ∧ if allB (l.drop i) (fun n => inn n (-100000) 100000) then x = .exit 0 else x = .ret ∧ get e 4 = .int .i64 2)
  | 0, i, hi => by
    refine WL_step e_ref05_RatesFault_l8 ?_
    have h1 : ¬ i < l.length := by omega
    have h2 : l.drop i = [] := List.drop_eq_nil_of_le (by omega)
    simp [-List.length_flatMap, -List.map_take, eF, h1, h2, allB]
  | k + 1, i, hi => by
    refine WL_step e_ref05_RatesFault_l8 ?_
    have h1 : i < l.length := by omega
    obtain ⟨c, hc⟩ : ∃ c, l[i]? = some c := ⟨_, List.getElem?_eq_getElem h1⟩
    have h2 := intE_at hc
    have h4 := wnext h1 (by omega)
    have h5 := drop_at hc
    have ih := L_RRates hl k (i + 1) (by omega)
    rw [h5, allB_cons]
    cases hb : inn c (-100000) 100000
    · simp [-List.length_flatMap, -List.map_take, eF, h1, h2, h4, C_In1, hb]
    · simp [-List.length_flatMap, -List.map_take, eF, h1, h2, h4, C_In1, hb]
      exact WL.to ih (by simp) rfl fun x e σ' hh => by simpa [hb] using hh
theorem C_RRates {b : Bed} {l : List Int} (hl : l.length ≤ 9223372036854775807) : lim T (.call false i_ref05_RatesFault [.agg [.int .i64 b.f.x, .int .i64 b.f.y, .int .i64 b.f.z, .int .i64 b.f.k, .lst b.tab.length (b.tab.flatMap Rw.enc), .int .i64 b.stiff, .int .i64 b.lift, .int .i64 b.deep, .lst b.wells.length (b.wells.flatMap Bore.enc)], .lst l.length (l.flatMap intE)] σ) = some (.val (.int .i64 (ratesE b l)) σ) := by
  refine call_of T_ref05_RatesFault e_ref05_RatesFault rfl ?_
  unfold ratesE
  by_cases hc1 : l.length = b.wells.length
  · simp [-List.length_flatMap, -List.map_take, eF, hc1, cl_rw, cl_bore]
    rw [← hc1]
    refine WL.to (L_RRates (σ := [] :: σ) hl l.length 0 (by omega)) (by simp) (by simp) ?_
    rintro x e σ' ⟨rfl, h⟩
    simp only [List.drop_zero] at h
    cases hc2 : allB l (fun n => inn n (-100000) 100000)
    · simp [hc2] at h
      simp [h]
    · simp [hc2] at h
      simp [-List.length_flatMap, -List.map_take, eF, h]
  · simp [-List.length_flatMap, -List.map_take, eF, hc1, show ¬ (l.length : Int) = b.wells.length by omega, cl_rw, cl_bore]
theorem L_RPlan {b : Bed} {plan : List (List Int)} (hl : plan.length ≤ 9223372036854775807) (hs : ∀ l ∈ plan, l.length ≤ 9223372036854775807) : ∀ (m i : Nat), i + m = plan.length →
    WL T [1, 2, 5] false f_ref05_PlanFault_l9 [(1, .lst plan.length (plan.flatMap inL)), (2, .cref [.int .i64 b.f.x, .int .i64 b.f.y, .int .i64 b.f.z, .int .i64 b.f.k, .lst b.tab.length (b.tab.flatMap Rw.enc), .int .i64 b.stiff, .int .i64 b.lift, .int .i64 b.deep, .lst b.wells.length (b.wells.flatMap Bore.enc)]), (5, .int .i64 i)] σ
      (fun x e σ' => σ' = σ ∧ if firstE (ratesE b) (plan.drop i) = 0 then x = .exit 0 else x = .ret ∧ get e 4 = .int .i64 (firstE (ratesE b) (plan.drop i)))
  | 0, i, hi => by
    refine WL_step e_ref05_PlanFault_l9 ?_
    have h1 : ¬ i < plan.length := by omega
    have h2 : plan.drop i = [] := List.drop_eq_nil_of_le (by omega)
    simp [-List.length_flatMap, -List.map_take, eF, h1, h2, firstE]
  | m + 1, i, hi => by
    refine WL_step e_ref05_PlanFault_l9 ?_
    have h1 : i < plan.length := by omega
    obtain ⟨l, hx⟩ : ∃ l, plan[i]? = some l := ⟨_, List.getElem?_eq_getElem h1⟩
    have h2 := flat_at (f := inL) (w := 1) (fun _ => rfl) hx
    simp only [inL, Nat.mul_one] at h2
    have h4 := wnext h1 (by omega)
    have h5 := drop_at hx
    have hC := fun σ => C_RRates (σ := σ) (b := b) (l := l) (hs l (List.mem_of_getElem? hx))
    rw [h5, firstE]
    have ih := L_RPlan (b := b) hl hs m (i + 1) (by omega)
    by_cases hc : ratesE b l = 0
    · simp [-List.length_flatMap, -List.map_take, eF, h1, h2, h4, hC, hc, inL]
      exact WL.to ih (by simp [inL]) rfl fun x e σ' hh => by simpa [hc] using hh
    · simp [-List.length_flatMap, -List.map_take, eF, h1, h2, h4, hC, hc, inL]
theorem C_RPlan {b : Bed} {plan : List (List Int)} (hl : plan.length ≤ 9223372036854775807) (hs : ∀ l ∈ plan, l.length ≤ 9223372036854775807) :
    lim T (.call false i_ref05_PlanFault [.agg [.int .i64 b.f.x, .int .i64 b.f.y, .int .i64 b.f.z, .int .i64 b.f.k, .lst b.tab.length (b.tab.flatMap Rw.enc), .int .i64 b.stiff, .int .i64 b.lift, .int .i64 b.deep, .lst b.wells.length (b.wells.flatMap Bore.enc)], .lst plan.length (plan.flatMap inL)] σ) = some (.val (.int .i64 (planE b plan)) σ) := by
  refine call_of T_ref05_PlanFault e_ref05_PlanFault rfl ?_
  unfold planE
  by_cases hc : 200 < plan.length
  · simp [-List.length_flatMap, -List.map_take, eF, hc, show (200 : Int) < plan.length by omega, cl_rw, cl_bore]
  · simp [-List.length_flatMap, -List.map_take, eF, hc, show ¬ (200 : Int) < plan.length by omega, cl_rw, cl_bore]
    refine WL.to (L_RPlan (σ := [] :: σ) (b := b) hl hs plan.length 0 (by omega)) (by simp) (by simp) ?_
    rintro x e σ' ⟨rfl, h⟩
    simp only [List.drop_zero] at h
    by_cases hc2 : firstE (ratesE b) plan = 0
    · rw [if_pos hc2] at h
      subst h
      simp [-List.length_flatMap, -List.map_take, eF, hc2, show plan.length ≤ 200 by omega]
    · rw [if_neg hc2] at h
      obtain ⟨rfl, h⟩ := h
      simp [h, show ¬ 200 < plan.length by omega]
end Go.Proofs.YtehandllpmlcoaaGreat
