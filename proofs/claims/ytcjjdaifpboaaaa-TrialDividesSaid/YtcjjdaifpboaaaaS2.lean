/-
  The groups: of the reference, of the program.
-/
import Derived.Test.YtcjjdaifpboaaaaS1
set_option linter.unusedVariables false
set_option linter.unusedSimpArgs false
namespace Go.Proofs.Ytcjjdaifpboaaaa
open Go Go.Abs Go.Trial
variable {σ : Stack}

/-- Labels as numbers. -/
def gI (n : Nat) (g : Lab) : List Int := (List.range n).map fun z => (g z : Int)
@[simp] theorem gI_len {n : Nat} {g : Lab} : (gI n g).length = n := by simp [gI]
theorem gI_at {n : Nat} {g : Lab} {i : Nat} (h : i < n) : (gI n g)[i]? = some (g i : Int) := by simp [gI, h]
theorem gI_set {n : Nat} {g : Lab} {i m : Nat} : (gI n g).set i (m : Int) = gI n (fun z => if z = i then m else g z) := by
  apply List.ext_getElem
  · simp
  · intro j h1 h2
    simp only [List.getElem_set, gI, List.getElem_map, List.getElem_range]
    by_cases h : i = j
    · subst h; simp
    · rw [if_neg h, if_neg (fun h' => h h'.symm)]
theorem gI_stp {n : Nat} {g : Lab} {u v : Nat} : ((gI n g).set u ((min (g u) (g v) : Nat) : Int)).set v ((min (g u) (g v) : Nat) : Int) = gI n (stp g (u, v)) := by
  rw [gI_set, gI_set]
  congr 1
  funext z
  unfold stp
  by_cases h1 : z = v
  · simp [h1]
  · by_cases h2 : z = u
    · simp [h1, h2]
    · simp [h1, h2]
theorem g1_at {n : Nat} {g : Lab} {i : Nat} (h : i < n) : ((gI n g).flatMap intE).drop i = .int .i64 (g i) :: ((gI n g).flatMap intE).drop (i + 1) := by
  have := k_drop (f := intE) (w := 1) (fun _ => rfl) (gI_at (g := g) h)
  simpa using this
theorem g1_len {n : Nat} {g : Lab} : ((gI n g).flatMap intE).length = n := by
  have := flat_len (f := intE) (w := 1) (fun _ => rfl) (gI n g)
  simpa using this
theorem set1 {l : List Int} {i : Nat} {x : Int} (h : i < l.length) : (l.flatMap intE).take i ++ .int .i64 x :: (l.flatMap intE).drop (i + 1) = (l.set i x).flatMap intE := by
  have := k_set (f := intE) (w := 1) (x := x) (fun _ => rfl) h
  simpa using this

theorem L_g2 {s : Surv} (h : Sv s) {W : Nat} (hW : s.w = W) {n : Int} : ∀ (m i : Nat) (g : Lab), i + m = s.l.length →
    WL T [1, 3, 5, 6] false f_ref04_Groups_l16 [(1, .cref s.enc), (3, .sl σ.length 0 W 0 W 1), (5, .int .i64 n), (6, .int .i64 i)] ([.cells W ((gI W g).flatMap intE)] :: σ)
      (fun x e σ' => σ' = [.cells W ((gI W ((s.l.drop i).foldl (stpS s) g)).flatMap intE)] :: σ ∧ x = .exit 4 ∧ get e 1 = .cref s.enc ∧ get e 3 = .sl σ.length 0 W 0 W 1 ∧ get e 5 = .int .i64 n)
  | 0, i, g, hi => by
    refine WL_step e_ref04_Groups_l16 ?_
    have h1 : ¬ i < s.l.length := by omega
    have h2 : s.l.drop i = [] := List.drop_eq_nil_of_le (by omega)
    simp [-List.length_flatMap, -List.map_take, e_ref04_Groups_r0, e_ref04_Groups_r1, e_ref04_Groups_r2, e_ref04_Groups_r3, e_ref04_Groups_r4, e_ref04_Groups_r5, e_ref04_Groups_r7, e_ref04_Groups_r8, e_ref04_Groups_r9, e_ref04_Groups_r10, e_ref04_Groups_r11, e_ref04_Groups_r12, e_ref04_Groups_r13, e_ref04_Groups_r14, e_ref04_Groups_r15, e_ref04_Groups_r17, e_ref04_Groups_r19, h1, h2]
  | m + 1, i, g, hi => by
    refine WL_step e_ref04_Groups_l16 ?_
    have h1 : i < s.l.length := by omega
    obtain ⟨x, hx⟩ : ∃ x, s.l[i]? = some x := ⟨_, List.getElem?_eq_getElem h1⟩
    have hn := h.n
    have h4 := wnext h1 (by omega)
    have hv := h.l x (List.mem_of_getElem? hx)
    rw [dropS hx, List.foldl_cons]
    have ih := L_g2 h hW (n := n) m (i + 1) (stpS s g x) (by omega)
    have h2 := flat_at (f := Seen.enc) (w := 4) (fun _ => rfl) hx
    have hS := fun σ => @C_Sure σ s x
    cases hs : sure s x
    · have e1 : stpS s g x = g := by simp [stpS, hs]
      rw [e1] at ih ⊢
      rw [hs] at hS
      simp only [Seen.enc] at hS h2
      simp [-List.length_flatMap, -List.map_take, e_ref04_Groups_r0, e_ref04_Groups_r1, e_ref04_Groups_r2, e_ref04_Groups_r3, e_ref04_Groups_r4, e_ref04_Groups_r5, e_ref04_Groups_r7, e_ref04_Groups_r8, e_ref04_Groups_r9, e_ref04_Groups_r10, e_ref04_Groups_r11, e_ref04_Groups_r12, e_ref04_Groups_r13, e_ref04_Groups_r14, e_ref04_Groups_r15, e_ref04_Groups_r17, e_ref04_Groups_r19, h1, h2, h4, hS]
      exact WL.to ih (by simp) (by simp) fun x e σ' hh => hh
    · have e1 : stpS s g x = stp g (edge x) := by simp [stpS, hs]
      rw [e1] at ih ⊢
      rw [hs] at hS
      obtain ⟨f, t, d⟩ := x
      dsimp only at hv
      obtain ⟨F, rfl⟩ : ∃ F : Nat, f = F := ⟨f.toNat, by omega⟩
      obtain ⟨U, rfl⟩ : ∃ U : Nat, t = U := ⟨t.toNat, by omega⟩
      simp only [edge, Int.toNat_natCast] at ih ⊢
      have hF : F < W := by omega
      have hU : U < W := by omega
      have a1 := g1_at (g := g) hF
      have a2 := g1_at (g := g) hU
      have a3 := @g1_len W g
      have hm : min (g F : Int) (g U) = ((min (g F) (g U) : Nat) : Int) := by omega
      have s1 := set1 (l := gI W g) (i := F) (x := ((min (g F) (g U) : Nat) : Int)) (by simpa using hF)
      have s2 := set1 (l := (gI W g).set F ((min (g F) (g U) : Nat) : Int)) (i := U) (x := ((min (g F) (g U) : Nat) : Int)) (by simpa using hU)
      have s3 := @gI_stp W g F U
      simp only [Seen.enc] at hS h2
      generalize (min (g F) (g U) : Nat) = M at *
      have b1 : F + 1 ≤ W := by omega
      have b2 : U + 1 ≤ W := by omega
      have a4 : (((gI W g).set F (M : Int)).flatMap intE).length = W := by
        have := flat_len (f := intE) (w := 1) (fun _ => rfl) ((gI W g).set F (M : Int))
        simpa using this
      simp [-List.length_flatMap, -List.map_take, e_ref04_Groups_r0, e_ref04_Groups_r1, e_ref04_Groups_r2, e_ref04_Groups_r3, e_ref04_Groups_r4, e_ref04_Groups_r5, e_ref04_Groups_r7, e_ref04_Groups_r8, e_ref04_Groups_r9, e_ref04_Groups_r10, e_ref04_Groups_r11, e_ref04_Groups_r12, e_ref04_Groups_r13, e_ref04_Groups_r14, e_ref04_Groups_r15, e_ref04_Groups_r17, e_ref04_Groups_r19, h1, h2, h4, hS, hF, hU, a1, a2, a3, hm, s1, b1, b2, a4, s2, s3]
      exact WL.to ih (by simp) (by simp) fun x e σ' hh => hh
theorem L_g1 {s : Surv} (h : Sv s) {W : Nat} (hW : s.w = W) : ∀ (m n : Nat), n + m = W →
    WL T [1, 3, 5] false f_ref04_Groups_l18 [(1, .cref s.enc), (3, .sl σ.length 0 W 0 W 1), (5, .int .i64 n)] ([.cells W ((gI W (rep (rnd (edges s)) n id)).flatMap intE)] :: σ)
      (fun x e σ' => σ' = [.cells W ((gI W (rep (rnd (edges s)) W id)).flatMap intE)] :: σ ∧ x = .exit 2 ∧ get e 3 = .sl σ.length 0 W 0 W 1)
  | 0, n, hn => by
    refine WL_step e_ref04_Groups_l18 ?_
    have h1 : ¬ (n : Int) < s.w := by omega
    have h2 : n = W := by omega
    subst h2
    simp [-List.length_flatMap, -List.map_take, e_ref04_Groups_r0, e_ref04_Groups_r1, e_ref04_Groups_r2, e_ref04_Groups_r3, e_ref04_Groups_r4, e_ref04_Groups_r5, e_ref04_Groups_r7, e_ref04_Groups_r8, e_ref04_Groups_r9, e_ref04_Groups_r10, e_ref04_Groups_r11, e_ref04_Groups_r12, e_ref04_Groups_r13, e_ref04_Groups_r14, e_ref04_Groups_r15, e_ref04_Groups_r17, e_ref04_Groups_r19, h1]
  | m + 1, n, hn => by
    refine WL_step e_ref04_Groups_l18 ?_
    have h1 : (n : Int) < s.w := by omega
    have hw := h.w
    have w1 := w64 (n := (n : Int) + 1) (by omega)
    simp [-List.length_flatMap, -List.map_take, e_ref04_Groups_r0, e_ref04_Groups_r1, e_ref04_Groups_r2, e_ref04_Groups_r3, e_ref04_Groups_r4, e_ref04_Groups_r5, e_ref04_Groups_r7, e_ref04_Groups_r8, e_ref04_Groups_r9, e_ref04_Groups_r10, e_ref04_Groups_r11, e_ref04_Groups_r12, e_ref04_Groups_r13, e_ref04_Groups_r14, e_ref04_Groups_r15, e_ref04_Groups_r17, e_ref04_Groups_r19, h1]
    refine WL.to (L_g2 (σ := σ) h hW (n := (n : Int)) s.l.length 0 (rep (rnd (edges s)) n id) (by omega)) (by simp) (by simp) ?_
    rintro x e σ' ⟨rfl, rfl, g1, g3, g5⟩
    have ih := L_g1 h hW m (n + 1) (by omega)
    rw [List.drop_zero, ← rnd_eq]
    simp only [rep] at ih
    simp only [Surv.enc] at g1
    simp [-List.length_flatMap, -List.map_take, e_ref04_Groups_r17, g1, g3, g5, w1]
    exact WL.to ih (by simp) (by simp) fun x e σ' hh => hh
theorem L_g0 {s : Surv} {W : Nat} (hW : s.w = W) (hw : W ≤ 100) : ∀ (m i : Nat), i + m = W →
    WL T [1, 3, 4] false f_ref04_Groups_l6 [(1, .cref s.enc), (3, .sl σ.length 0 i 0 i 1), (4, .int .i64 i)] ([.cells i ((gI i id).flatMap intE)] :: σ)
      (fun x e σ' => σ' = [.cells W ((gI W id).flatMap intE)] :: σ ∧ x = .exit 0 ∧ get e 1 = .cref s.enc ∧ get e 3 = .sl σ.length 0 W 0 W 1)
  | 0, n, hn => by
    refine WL_step e_ref04_Groups_l6 ?_
    have h1 : ¬ (n : Int) < s.w := by omega
    have h2 : n = W := by omega
    subst h2
    simp [-List.length_flatMap, -List.map_take, e_ref04_Groups_r0, e_ref04_Groups_r1, e_ref04_Groups_r2, e_ref04_Groups_r3, e_ref04_Groups_r4, e_ref04_Groups_r5, e_ref04_Groups_r7, e_ref04_Groups_r8, e_ref04_Groups_r9, e_ref04_Groups_r10, e_ref04_Groups_r11, e_ref04_Groups_r12, e_ref04_Groups_r13, e_ref04_Groups_r14, e_ref04_Groups_r15, e_ref04_Groups_r17, e_ref04_Groups_r19, h1]
  | m + 1, n, hn => by
    refine WL_step e_ref04_Groups_l6 ?_
    have h1 : (n : Int) < s.w := by omega
    have w1 := w64 (n := (n : Int) + 1) (by omega)
    have ih := L_g0 hW hw m (n + 1) (by omega)
    have e1 : (gI (n + 1) id).flatMap intE = (gI n id).flatMap intE ++ [.int .i64 n] := by simp [gI, List.range_succ]
    rw [e1] at ih
    have a3 := @g1_len n id
    have a4 : ((gI n id).flatMap intE).take n = (gI n id).flatMap intE := List.take_of_length_le (by rw [a3]; exact Nat.le_refl _)
    have h7 : (n + 1) * 8 ≤ room := by unfold room; omega
    simp [-List.length_flatMap, -List.map_take, e_ref04_Groups_r0, e_ref04_Groups_r1, e_ref04_Groups_r2, e_ref04_Groups_r3, e_ref04_Groups_r4, e_ref04_Groups_r5, e_ref04_Groups_r7, e_ref04_Groups_r8, e_ref04_Groups_r9, e_ref04_Groups_r10, e_ref04_Groups_r11, e_ref04_Groups_r12, e_ref04_Groups_r13, e_ref04_Groups_r14, e_ref04_Groups_r15, e_ref04_Groups_r17, e_ref04_Groups_r19, h1, w1, a3, a4, h7]
    exact WL.to ih (by simp) (by simp) fun x e σ' hh => hh
/-- The groups as numbers. -/
def grp (s : Surv) : List Int := gI s.w.toNat (Gr s)
theorem C_GroupsR {s : Surv} (h : Sv s) (hσ : σ ≠ []) : lim T (.call false i_ref04_Groups [.agg [.int .i64 s.w, .int .i64 s.lv, .lst s.l.length (s.l.flatMap Seen.enc)]] σ) = some (.val (.lst (grp s).length ((grp s).flatMap intE)) σ) := by
  refine call_of T_ref04_Groups e_ref04_Groups rfl ?_
  have hw := h.w
  obtain ⟨W, hW⟩ : ∃ W : Nat, s.w = W := ⟨s.w.toNat, by omega⟩
  have e0 : s.w.toNat = W := by omega
  simp [-List.length_flatMap, -List.map_take, e_ref04_Groups_r0, e_ref04_Groups_r1, e_ref04_Groups_r2, e_ref04_Groups_r3, e_ref04_Groups_r4, e_ref04_Groups_r5, e_ref04_Groups_r7, e_ref04_Groups_r8, e_ref04_Groups_r9, e_ref04_Groups_r10, e_ref04_Groups_r11, e_ref04_Groups_r12, e_ref04_Groups_r13, e_ref04_Groups_r14, e_ref04_Groups_r15, e_ref04_Groups_r17, e_ref04_Groups_r19]
  refine WL.to (L_g0 (σ := σ) hW (by omega) W 0 (by omega)) (by simp) (by simp [gI]) ?_
  rintro x e σ' ⟨rfl, rfl, g1, g3⟩
  simp only [Surv.enc] at g1
  simp [-List.length_flatMap, -List.map_take, e_ref04_Groups_r7, g1, g3]
  refine WL.to (L_g1 (σ := σ) h hW W 0 (by omega)) (by simp) (by simp [rep]) ?_
  rintro x e σ' ⟨rfl, rfl, g3⟩
  simp [-List.length_flatMap, -List.map_take, e_ref04_Groups_r19, g3]
  have := k_out (f := intE) (w := 1) (fun _ => rfl) (fun x => by simp) (l := grp s) (j := 0) (v := W) (bs := [.cells W ((grp s).flatMap intE)]) hσ rfl
  simp only [grp, gI_len, Gr, e0] at this ⊢
  rw [this]
  simp
end Go.Proofs.Ytcjjdaifpboaaaa
