/-
  Blame: of the program; ref09.Reason.
-/
import Derived.Test.YticpenoicajakaaLawEither
set_option linter.unusedVariables false
set_option linter.unusedSimpArgs false
namespace Go.Proofs.Yticpenoicajakaa
open Go Go.Abs Go.Trem
variable {σ : Stack}

/-- The first pick of the rest from which on no place is left; none: -1. -/
def blameFrom (n : Net) (l : List Pick) : Nat → Nat → Int
  | 0, _ => -1
  | m + 1, i => if (located n (l.take (i + 1))).length = 0 then i else blameFrom n l m (i + 1)
def blame (n : Net) (l : List Pick) : Int := blameFrom n l l.length 0

theorem blame_spec {n : Net} {l : List Pick} : ∀ (m i : Nat), i + m = l.length →
    (blameFrom n l m i = -1 ∧ ∀ j, i ≤ j → j < l.length → (located n (l.take (j + 1))).length ≠ 0) ∨
    ∃ k : Nat, blameFrom n l m i = k ∧ i ≤ k ∧ k < l.length ∧ (located n (l.take (k + 1))).length = 0 ∧ ∀ j, i ≤ j → j < k → (located n (l.take (j + 1))).length ≠ 0
  | 0, i, hi => .inl ⟨rfl, fun j h1 h2 => by omega⟩
  | m + 1, i, hi => by
    by_cases h : (located n (l.take (i + 1))).length = 0
    · exact .inr ⟨i, by simp only [blameFrom, h, if_true], by omega, by omega, h, fun j h1 h2 => by omega⟩
    · have hb : blameFrom n l (m + 1) i = blameFrom n l m (i + 1) := by simp only [blameFrom, h, if_false]
      rw [hb]
      rcases blame_spec (n := n) (l := l) m (i + 1) (by omega) with ⟨h1, h2⟩ | ⟨k, h1, h2, h3, h4, h5⟩
      · refine .inl ⟨h1, fun j hj hl => ?_⟩
        by_cases hji : j = i
        · subst hji; exact h
        · exact h2 j (by omega) hl
      · refine .inr ⟨k, h1, by omega, h3, h4, fun j hj hl => ?_⟩
        by_cases hji : j = i
        · subst hji; exact h
        · exact h5 j (by omega) hl

theorem Hd.take {n : Net} {l : List Pick} (h : Hd n l) (k : Nat) : Hd n (l.take k) :=
  ⟨h.ok, by have := h.len; simp; omega, fun p hp => h.all p (List.mem_of_mem_take hp)⟩

theorem blameFrom_hit {n : Net} {l : List Pick} {m i : Nat} (h : (located n (l.take (i + 1))).length = 0) : blameFrom n l (m + 1) i = i := by simp only [blameFrom, h, if_true]
theorem blameFrom_go {n : Net} {l : List Pick} {m i : Nat} (h : ¬ (located n (l.take (i + 1))).length = 0) : blameFrom n l (m + 1) i = blameFrom n l m (i + 1) := by simp only [blameFrom, h, if_false]

theorem L_Blame {n : Net} {l : List Pick} (h : Hd n l) : ∀ (m i : Nat) (d : D), i + m = l.length →
    WL T [6, 18, 19] false f_tremor_Blame_l11 [(6, .own 0 (heardE n l)), (18, .int .i64 l.length), (19, .int .i64 i)] ([] :: σ)
      (fun x e σ' => σ' = [] :: σ ∧ if blameFrom n l m i = -1 then x = .exit 0 else x = .ret ∧ get e 4 = .int .i64 (blameFrom n l m i) ∧ get e 5 = .int .i64 0)
  | 0, i, d, hi => by
    refine WL_step e_tremor_Blame_l11 ?_
    have h1 : ¬ i < l.length := by omega
    simp [-List.length_flatMap, -List.map_take, e_tremor_Blame_r0, e_tremor_Blame_r1, e_tremor_Blame_r2, e_tremor_Blame_r3, e_tremor_Blame_r4, e_tremor_Blame_r5, e_tremor_Blame_r6, e_tremor_Blame_r7, e_tremor_Blame_r8, e_tremor_Blame_r9, e_tremor_Blame_r10, e_tremor_Blame_r12, h1, blameFrom]
  | m + 1, i, d, hi => by
    refine WL_step e_tremor_Blame_l11 ?_
    have h1 : i < l.length := by omega
    have h2 := fun σ (hσ : σ ≠ []) => @C_located σ n l h (i + 1) (by omega) (by omega) hσ
    have h6 := wnext h1 (by have := h.len; omega)
    have ih := L_Blame h m (i + 1) d (by omega)
    have hd := h.len
    have h7 : ¬ ((i : Int) = -1) := by omega
    push_cast at h2
    by_cases h3 : (located n (l.take (i + 1))).length = 0
    · simp only [blameFrom, h3, if_true]
      simp [-List.length_flatMap, -List.map_take, e_tremor_Blame_r0, e_tremor_Blame_r1, e_tremor_Blame_r2, e_tremor_Blame_r3, e_tremor_Blame_r4, e_tremor_Blame_r5, e_tremor_Blame_r6, e_tremor_Blame_r7, e_tremor_Blame_r8, e_tremor_Blame_r9, e_tremor_Blame_r10, e_tremor_Blame_r12, h1, h2, h3, h6, h7]
    · have h3' : (((located n (l.take (i + 1))).length : Int) == 0) = false := by simpa using h3
      rw [blameFrom_go h3]
      simp [-List.length_flatMap, -List.map_take, e_tremor_Blame_r0, e_tremor_Blame_r1, e_tremor_Blame_r2, e_tremor_Blame_r3, e_tremor_Blame_r4, e_tremor_Blame_r5, e_tremor_Blame_r6, e_tremor_Blame_r7, e_tremor_Blame_r8, e_tremor_Blame_r9, e_tremor_Blame_r10, e_tremor_Blame_r12, h1, h2, h3, h3', h6]
      refine WL.to ih (by simp) rfl fun x e σ hh => hh

theorem C_Blame {n : Net} {l : List Pick} (hl : l.length ≤ 9223372036854775807) (hn : n.st.length ≤ 9223372036854775807) (hp : ∀ p ∈ l, 0 ≤ p.ph ∧ p.ph ≤ 255) :
    lim T (.call false i_tremor_Blame [.agg [.lst n.st.length (n.st.flatMap Stn.enc), .int .i64 n.s0.lo, .int .i64 n.s0.hi, .int .i64 n.s1.lo, .int .i64 n.s1.hi, .int .i64 n.low.x, .int .i64 n.low.y, .int .i64 n.low.z, .int .i64 n.high.x, .int .i64 n.high.y, .int .i64 n.high.z, .int .i64 n.step], .lst l.length (l.flatMap Pick.enc)] σ) =
      some (.val (if wrong n l = 0 then (if blame n l = -1 then .tup [.int .i64 0, .int .i64 7] else .tup [.int .i64 (blame n l), .int .i64 0]) else .tup [.int .i64 0, .int .i64 (wrong n l)]) σ) := by
  refine call_of T_tremor_Blame e_tremor_Blame rfl ?_
  have h1 := fun σ => @C_check σ n l hl hn hp
  by_cases hw : wrong n l = 0
  rotate_left
  · have h3 : (wrong n l != 0) = true := by simpa using hw
    simp [-List.length_flatMap, -List.map_take, e_tremor_Blame_r0, e_tremor_Blame_r1, e_tremor_Blame_r2, e_tremor_Blame_r3, e_tremor_Blame_r4, e_tremor_Blame_r5, e_tremor_Blame_r6, e_tremor_Blame_r7, e_tremor_Blame_r8, e_tremor_Blame_r9, e_tremor_Blame_r10, e_tremor_Blame_r12, h1, hw, h3]
  obtain ⟨hd, hl1⟩ := wrong_hd hw hp
  simp [-List.length_flatMap, -List.map_take, e_tremor_Blame_r0, e_tremor_Blame_r1, e_tremor_Blame_r2, e_tremor_Blame_r3, e_tremor_Blame_r4, e_tremor_Blame_r5, e_tremor_Blame_r6, e_tremor_Blame_r7, e_tremor_Blame_r8, e_tremor_Blame_r9, e_tremor_Blame_r10, e_tremor_Blame_r12, h1, hw]
  refine WL.to (L_Blame (σ := σ) hd l.length 0 .nils (by omega)) (by simp) (by simp) ?_
  rintro x e σ' ⟨rfl, hx⟩
  by_cases hb : blameFrom n l l.length 0 = -1
  · rw [if_pos hb] at hx
    have hb' : blame n l = -1 := hb
    subst hx
    simp [-List.length_flatMap, -List.map_take, e_tremor_Blame_r0, e_tremor_Blame_r1, e_tremor_Blame_r2, e_tremor_Blame_r3, e_tremor_Blame_r4, e_tremor_Blame_r5, e_tremor_Blame_r6, e_tremor_Blame_r7, e_tremor_Blame_r8, e_tremor_Blame_r9, e_tremor_Blame_r10, e_tremor_Blame_r12, hb', hw]
  · rw [if_neg hb] at hx
    have hb' : ¬ blame n l = -1 := hb
    obtain ⟨rfl, h2, h3⟩ := hx
    simp [-List.length_flatMap, -List.map_take, e_tremor_Blame_r0, e_tremor_Blame_r1, e_tremor_Blame_r2, e_tremor_Blame_r3, e_tremor_Blame_r4, e_tremor_Blame_r5, e_tremor_Blame_r6, e_tremor_Blame_r7, e_tremor_Blame_r8, e_tremor_Blame_r9, e_tremor_Blame_r10, e_tremor_Blame_r12, hb', hw, h2, h3]
    rfl

theorem pick_at {l : List Pick} {a : Int} (ha : inn a 0 (l.length - 1) = true) : 0 ≤ a ∧ a < l.length ∧ ((l.flatMap Pick.enc).drop (a.toNat * 4)).take 4 = (pickAt l a).enc := by
  rw [inn_iff] at ha
  have h1 : a.toNat < l.length := by omega
  refine ⟨ha.1, by omega, ?_⟩
  have h2 : l[a.toNat]? = some (pickAt l a) := by simp [pickAt, List.getD, List.getElem?_eq_getElem h1]
  exact flat_at (f := Pick.enc) (w := 4) (fun _ => rfl) h2

end Go.Proofs.Yticpenoicajakaa
