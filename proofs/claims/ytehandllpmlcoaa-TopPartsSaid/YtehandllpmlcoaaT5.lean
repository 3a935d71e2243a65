/-
  TopParts: idle ticks.
-/
import Derived.Test.YtehandllpmlcoaaT4
set_option linter.unusedVariables false
set_option linter.unusedSimpArgs false
namespace Go.Proofs.Ytehandllpmlcoaa
open Go Go.Abs Go.Rock
variable {σ : Stack}

theorem zer : ∀ n, ((List.range n).flatMap fun _ => [D.int .i64 0]) = (List.replicate n (0 : Int)).flatMap intE
  | 0 => rfl
  | n + 1 => by rw [List.range_succ, List.flatMap_append, zer n, List.replicate_succ']; simp
def idl (n t : Nat) : List (List Int) := List.replicate t (List.replicate n 0)
theorem inl_len (l : List (List Int)) : (l.flatMap inL).length = l.length := by
  have := flat_len (f := inL) (w := 1) (fun _ => rfl) l
  omega
theorem L_idle {n tk : Nat} (hn : 1 ≤ n ∧ n ≤ 8) (htk : tk ≤ 255) {d1 d8 d9 d13 : D} (s1 : d1.strip = d1 ∧ d1.calm = d1) (s8 : d8.calm = d8) (s9 : d9.calm = d9) (s13 : d13.strip = d13 ∧ d13.calm = d13) (c1 : d1.clean = true) (c8 : d8.clean = true) (c9 : d9.clean = true) (c13 : d13.clean = true) {A B C : Abs.Blk} : ∀ (m t : Nat), t + m = tk % 6 + 1 →
    WL T [1, 2, 7, 8, 9, 13, 15, 16] true f_top_TopParts_l35 [(1, d1), (2, .int .u8 tk), (7, .int .i64 n), (8, d8), (9, d9), (13, d13), (15, .sl σ.length 3 t 0 t 1), (16, .int .i64 t)]
      ([A, B, C, .cells t ((idl n t).flatMap inL)] :: σ)
      (fun x e σ' => x = .exit 6 ∧ get e 1 = d1 ∧ get e 7 = .int .i64 n ∧ get e 8 = d8 ∧ get e 9 = d9 ∧ get e 13 = d13 ∧ get e 15 = .sl σ.length 3 (tk % 6 + 1) 0 (tk % 6 + 1) 1 ∧ σ' = [A, B, C, .cells (tk % 6 + 1) ((idl n (tk % 6 + 1)).flatMap inL)] :: σ)
  | 0, t, ht => by
    refine WL_stepS e_top_TopParts_l35 ?_
    obtain rfl : t = tk % 6 + 1 := by omega
    have w1 := w64 (n := (tk : Int)) (by omega)
    have e1 : (tk : Int).tmod 6 = ((tk % 6 : Nat) : Int) := rfl
    have e2 : ¬ (tk : Int) % 6 + 1 ≤ (tk : Int) % 6 := by omega
    simp [-List.length_flatMap, -List.map_take, eF, s1, s8, s9, s13, w1, e1, e2, c1, c8, c9, c13]
  | m + 1, t, ht => by
    refine WL_stepS e_top_TopParts_l35 ?_
    have w1 := w64 (n := (tk : Int)) (by omega)
    have e1 : (tk : Int).tmod 6 = ((tk % 6 : Nat) : Int) := rfl
    have e2 : (t : Int) ≤ (tk : Int) % 6 := by omega
    have hroom : (n : Int) * 8 ≤ (room : Int) := by unfold room; omega
    have hz := k_out (σ := [A, B, C, .cells t ((idl n t).flatMap inL)] :: σ) (f := intE) (w := 1) (n := 16) (l := List.replicate n 0) (j := 0) (v := 0) (bs := [.cells 0 ((List.replicate n (0 : Int)).flatMap intE)]) (by decide) (fun _ => rfl) (fun x => by simp) (by simp) rfl
    simp only [List.length_cons, List.length_replicate, Nat.add_sub_cancel, List.set_cons_zero] at hz
    have il := inl_len (idl n t)
    have ill : (idl n t).length = t := by simp [idl]
    rw [ill] at il
    have it : ((idl n t).flatMap inL).take t = (idl n t).flatMap inL := List.take_of_length_le (by omega)
    have h7 := room24 (n := t + 1) (by omega)
    have w2 := w64 (n := (t : Int) + 1) (by omega)
    have ih := L_idle hn htk s1 s8 s9 s13 c1 c8 c9 c13 (A := A) (B := B) (C := C) m (t + 1) (by omega)
    have e9 : (idl n (t + 1)).flatMap inL = (idl n t).flatMap inL ++ [.lst n ((List.replicate n (0 : Int)).flatMap intE)] := by
      simp [idl, List.replicate_succ', inL]
    simp [-List.length_flatMap, -List.map_take, eF, s1, s8, s9, s13, w1, e1, e2, zer, hroom, hz, il, it, h7, w2, c1, c8, c9, c13]
    exact WL.to ih (by simp) (by simp [e9]) fun x e σ hh => hh

/-! ### What is felt -/
def pz0 (n : Nat) : List Int := List.replicate n 0
theorem L_felt {n w i : Nat} {af : List Int} (hn : 1 ≤ n ∧ n ≤ 8) (hw : w < n) (hal : af.length = n) (haf : ∀ x ∈ af, 0 ≤ x ∧ x ≤ 2000000000) {d1 d8 d9 d13 d15 : D} (s1 : d1.strip = d1 ∧ d1.calm = d1) (s8 : d8.calm = d8) (s9 : d9.calm = d9) (s13 : d13.strip = d13 ∧ d13.calm = d13) (s15 : d15.strip = d15 ∧ d15.calm = d15) {A B C E : Abs.Blk} {S : List Abs.Blk} : ∀ (m k : Nat) (acc : List Trial.Seen), k + m = n → acc.length ≤ 100 - m →
    WL T [1, 7, 8, 9, 13, 15, 19, 21, 22, 23, 27, 29] false f_top_TopParts_l60 [(1, d1), (7, .int .i64 n), (8, d8), (9, d9), (13, d13), (15, d15), (19, .lst n ((pz0 n).flatMap intE)), (21, .own 0 [.int .i64 n, .int .i64 1, .sl σ.length 4 acc.length 0 acc.length 4]), (22, .int .i64 i), (23, .int .i64 w), (27, .lst n (af.flatMap intE)), (29, .int .i64 k)]
      (S :: [A, B, C, E, .cells acc.length (acc.flatMap Trial.Seen.enc)] :: σ)
      (fun x e σ' => ∃ r : List Trial.Seen, (∀ y ∈ r, y ∈ acc ∨ ∃ j a, j < n ∧ j ≠ w ∧ af[j]? = some a ∧ 0 < a ∧ y = ⟨w, j, ⟨a, a⟩⟩) ∧ r.length ≤ acc.length + m ∧ x = .exit 10 ∧ get e 1 = d1 ∧ get e 7 = .int .i64 n ∧ get e 8 = d8 ∧ get e 9 = d9 ∧ get e 13 = d13 ∧ get e 15 = d15 ∧ get e 19 = .lst n ((pz0 n).flatMap intE) ∧
        get e 21 = .own 0 [.int .i64 n, .int .i64 1, .sl σ.length 4 r.length 0 r.length 4] ∧ get e 22 = .int .i64 i ∧ σ' = S :: [A, B, C, E, .cells r.length (r.flatMap Trial.Seen.enc)] :: σ)
  | 0, k, acc, hk, hc => by
    refine WL_step e_top_TopParts_l60 ?_
    obtain rfl : k = n := by omega
    simp [-List.length_flatMap, -List.map_take, eF, s1, s8, s9, s13, s15]
    exact ⟨acc, fun y hy => .inl hy, Nat.le_refl _, rfl, rfl⟩
  | m + 1, k, acc, hk, hc => by
    refine WL_step e_top_TopParts_l60 ?_
    have h1 : k < n := by omega
    have h4 := wnext h1 (by omega)
    obtain ⟨a, ha⟩ : ∃ a, af[k]? = some a := ⟨_, List.getElem?_eq_getElem (by omega)⟩
    have hab := haf a (List.mem_of_getElem? ha)
    have hz : (pz0 n)[k]? = some 0 := by simp [pz0, h1]
    have a1 := intE_at ha
    have a2 := intE_at hz
    have w1 := w64 (n := a) (by omega)
    have w2 := w64 (n := -a) (by omega)
    have hm : max a (-a) = a := by omega
    have f4 := flat_len (f := Trial.Seen.enc) (w := 4) (fun _ => rfl) acc
    have f6 := k_self (f := Trial.Seen.enc) (w := 4) (fun _ => rfl) acc
    have h7 : (acc.length + 1) * 32 ≤ room := by unfold room; omega
    by_cases hkw : k = w
    · have ih := L_felt (i := i) hn hw hal haf s1 s8 s9 s13 s15 (A := A) (B := B) (C := C) (E := E) (S := S) m (k + 1) acc (by omega) (by omega)
      subst hkw
      simp [-List.length_flatMap, -List.map_take, eF, h1, h4, a1, a2, w1, w2, hm, s1, s8, s9, s13, s15]
      refine WL.to ih (by simp) rfl ?_
      rintro x e σ' ⟨r, hr, hrl, hh⟩
      exact ⟨r, hr, by omega, hh⟩
    · have hkw' : ¬ (k : Int) = (w : Int) := by omega
      by_cases hp : 0 < a
      · have ih := L_felt (i := i) hn hw hal haf s1 s8 s9 s13 s15 (A := A) (B := B) (C := C) (E := E) (S := S) m (k + 1) (acc ++ [⟨w, k, ⟨a, a⟩⟩]) (by omega) (by simp; omega)
        simp [-List.length_flatMap, -List.map_take, eF, h1, h4, a1, a2, w1, w2, hm, hkw, hkw', hp, f4, f6, h7, s1, s8, s9, s13, s15]
        refine WL.to ih (by simp) (by simp) ?_
        rintro x e σ' ⟨r, hr, hrl, hh⟩
        refine ⟨r, fun y hy => ?_, by simp at hrl; omega, by simpa using hh⟩
        rcases hr y hy with h9 | ⟨j, a', h8, h7', h6', h5', h4'⟩
        · rcases List.mem_append.1 h9 with h9 | h9
          · exact .inl h9
          · simp at h9
            exact .inr ⟨k, a, h1, hkw, ha, hp, h9⟩
        · exact .inr ⟨j, a', h8, h7', h6', h5', h4'⟩
      · have ih := L_felt (i := i) hn hw hal haf s1 s8 s9 s13 s15 (A := A) (B := B) (C := C) (E := E) (S := S) m (k + 1) acc (by omega) (by omega)
        simp [-List.length_flatMap, -List.map_take, eF, h1, h4, a1, a2, w1, w2, hm, hkw, hkw', hp, s1, s8, s9, s13, s15]
        refine WL.to ih (by simp) rfl ?_
        rintro x e σ' ⟨r, hr, hrl, hh⟩
        refine ⟨r, fun y hy => ?_, by omega, by simpa using hh⟩
        rcases hr y hy with h9 | ⟨j, a', h8, h7', h6', h5', h4'⟩
        · exact .inl h9
        · exact .inr ⟨j, a', h8, h7', h6', h5', h4'⟩
end Go.Proofs.Ytehandllpmlcoaa
