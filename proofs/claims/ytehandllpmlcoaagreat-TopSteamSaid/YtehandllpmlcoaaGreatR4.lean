/-
  Whether a bed is valid, and whether a model fits it.
-/
import Derived.Test.YtehandllpmlcoaaGreatR3
set_option linter.unusedVariables false
set_option linter.unusedSimpArgs false
namespace Go.Proofs.YtehandllpmlcoaaGreat
open Go Go.Abs Go.Rock
variable {σ : Stack}

theorem C_rsize {b : Bed} (hx : 1 ≤ b.f.x ∧ b.f.x ≤ 8) (hy : 1 ≤ b.f.y ∧ b.f.y ≤ 8) (hz : 1 ≤ b.f.z ∧ b.f.z ≤ 8) : lim T (.call false i_rock_Bed_size [.agg [.int .i64 b.f.x, .int .i64 b.f.y, .int .i64 b.f.z, .int .i64 b.f.k, .lst b.tab.length (b.tab.flatMap Rw.enc), .int .i64 b.stiff, .int .i64 b.lift, .int .i64 b.deep, .lst b.wells.length (b.wells.flatMap Bore.enc)]] σ) = some (.val (.int .i64 b.size) σ) := by
  refine call_of T_rock_Bed_size e_rock_Bed_size rfl ?_
  obtain ⟨h1, h2⟩ := Fld.sz hx hy hz
  have w1 := w64 (n := b.f.x * b.f.y) (by omega)
  have w2 := w64 (n := b.f.x * b.f.y * b.f.z) (by omega)
  simp [-List.length_flatMap, -List.map_take, eF, w1, w2, Bed.size, Fld.size]

/-! ### The blocks of the wells -/
def boolE (b : Bool) : List D := [.bool b]
/-- Which blocks are used behind the first wells. -/
def usedS (n : Nat) (wells : List Bore) : Nat → List Bool
  | 0 => List.replicate n false
  | i + 1 => match wells[i]? with
    | some w => if inn w.b 0 ((n : Int) - 1) = true ∧ (usedS n wells i)[w.b.toNat]? = some false then (usedS n wells i).set w.b.toNat true else usedS n wells i
    | none => usedS n wells i
theorem usedS_len {n : Nat} {wells : List Bore} : ∀ i, (usedS n wells i).length = n
  | 0 => by simp [usedS]
  | i + 1 => by
    simp only [usedS]
    split
    · split
      · simp [usedS_len i]
      · exact usedS_len i
    · exact usedS_len i
def wellP (n : Nat) (wells : List Bore) (i : Nat) : Bool :=
  match wells[i]? with
  | some w => inn w.b 0 ((n : Int) - 1) && (decide ((usedS n wells i)[w.b.toNat]? = some false) && (inn w.h 0 3000 && inn w.m 0 1000000))
  | none => true
def wellSt (n : Nat) (wells : List Bore) (σ : Stack) (i : Nat) : Stack := [.cells 0 ((usedS n wells i).flatMap boolE), .cells 0 [.sl σ.length 0 0 0 n 1]] :: σ

theorem boolE_at {l : List Bool} {j : Nat} {x : Bool} (h : l[j]? = some x) : ((l.flatMap boolE).drop j) = .bool x :: (l.flatMap boolE).drop (j + 1) := by
  have := k_drop (f := boolE) (w := 1) (fun _ => rfl) h
  simpa [boolE] using this
theorem boolE_set {l : List Bool} {j : Nat} {x : Bool} (h : j < l.length) : (l.flatMap boolE).take j ++ (.bool x :: (l.flatMap boolE).drop (j + 1)) = (l.set j x).flatMap boolE := by
  have := k_set (f := boolE) (w := 1) (fun _ => rfl) (x := x) h
  simpa [boolE] using this
theorem boolE_len {l : List Bool} : (l.flatMap boolE).length = l.length := by
  have := flat_len (f := boolE) (w := 1) (fun _ => rfl) l
  omega

theorem C_wellUsed {n : Nat} {wells : List Bore} (hn : n ≤ 512) {i : Nat} {w : Bore} (hw : wells[i]? = some w) :
    lim T (.call false i_rock_Bed_valid_1 [.agg w.enc, .ref σ.length 1 0 0] ([] :: [] :: [] :: [] :: wellSt n wells σ i)) = some (.val (.bool (wellP n wells i)) ([] :: [] :: [] :: [] :: wellSt n wells σ (i + 1))) := by
  refine call_to T_rock_Bed_valid_1 e_rock_Bed_valid_1 rfl (by simp [wellSt]) ?_
  have hlen := usedS_len (n := n) (wells := wells) i
  have w1 := w64 (n := (n : Int) - 1) (by omega)
  have hwp : wellP n wells i = (inn w.b 0 ((n : Int) - 1) && (decide ((usedS n wells i)[w.b.toNat]? = some false) && (inn w.h 0 3000 && inn w.m 0 1000000))) := by simp [wellP, hw]
  have hus : usedS n wells (i + 1) = if inn w.b 0 ((n : Int) - 1) = true ∧ (usedS n wells i)[w.b.toNat]? = some false then (usedS n wells i).set w.b.toNat true else usedS n wells i := by simp [usedS, hw]
  rw [hwp]
  simp only [wellSt]
  generalize usedS n wells (i + 1) = us' at *
  generalize usedS n wells i = us at *
  cases hc1 : inn w.b 0 ((n : Int) - 1)
  · rw [hc1] at hus
    simp at hus
    subst hus
    simp [-List.length_flatMap, -List.map_take, eF, C_rwithin, w1, hc1]
  · obtain ⟨g1, g2⟩ := inn_iff.1 hc1
    have g3 : w.b < (n : Int) := by omega
    obtain ⟨u, hu⟩ : ∃ u, us[w.b.toNat]? = some u := ⟨_, List.getElem?_eq_getElem (by omega)⟩
    have hat := boolE_at hu
    have hset := boolE_set (l := us) (j := w.b.toNat) (x := true) (by omega)
    have hlen2 : (us.flatMap boolE).length = n := by rw [boolE_len, hlen]
    have hle : w.b.toNat + 1 ≤ n := by omega
    rw [hc1, hu] at hus
    cases u
    · simp at hus
      subst hus
      cases hc2 : inn w.h 0 3000 <;>
        simp [-List.length_flatMap, -List.map_take, eF, C_rwithin, w1, hc1, hu, g1, g3, hat, hset, hlen2, hle, hc2]
    · simp at hus
      subst hus
      simp [-List.length_flatMap, -List.map_take, eF, C_rwithin, w1, hc1, hu, g1, g3, hat, hlen2]

theorem used_inv {n : Nat} {wells : List Bore} : ∀ {i : Nat}, i ≤ wells.length → (∀ j, j < i → wellP n wells j = true) → ∀ k : Nat, k < n → (usedS n wells i)[k]? = some (((wells.take i).map (·.b)).contains (k : Int))
  | 0, _, _, k, hk => by simp [usedS, hk]
  | i + 1, hi, h, k, hk => by
    obtain ⟨w, hw⟩ : ∃ w, wells[i]? = some w := ⟨_, List.getElem?_eq_getElem (by omega)⟩
    have ih := used_inv (i := i) (by omega) (fun j hj => h j (by omega))
    have hp := h i (by omega)
    simp only [wellP, hw, Bool.and_eq_true, decide_eq_true_eq] at hp
    obtain ⟨h1, h2, _⟩ := hp
    obtain ⟨g1, g2⟩ := inn_iff.1 h1
    have ht : wells.take (i + 1) = wells.take i ++ [w] := by rw [List.take_add_one, hw]; rfl
    simp only [usedS, hw]
    rw [if_pos ⟨h1, h2⟩, ht]
    rw [List.getElem?_set]
    by_cases hkw : w.b.toNat = k
    · subst hkw
      have hb : w.b = ((w.b.toNat : Nat) : Int) := by omega
      simp [usedS_len, hk]
      right
      omega
    · rw [if_neg hkw, ih k hk]
      congr 1
      have : ((k : Int) == w.b) = false := by simp; omega
      simp [List.contains_append, this]
      intro hh
      omega

theorem wellsOk_iff {n : Nat} {wells : List Bore} : ∀ (m i : Nat), i + m = wells.length → (∀ j, j < i → wellP n wells j = true) →
    (wellsOk (n : Int) ((wells.take i).map (·.b)) (wells.drop i) = true ↔ ∀ j, i ≤ j → j < wells.length → wellP n wells j = true)
  | 0, i, hi, h => by
    rw [List.drop_eq_nil_of_le (by omega)]
    simp only [wellsOk, true_iff]
    intro j h1 h2
    omega
  | m + 1, i, hi, h => by
    obtain ⟨w, hw⟩ : ∃ w, wells[i]? = some w := ⟨_, List.getElem?_eq_getElem (by omega)⟩
    have hu := used_inv (n := n) (i := i) (by omega) h
    have hone : Bore.ok (n : Int) ((wells.take i).map (·.b)) w = wellP n wells i := by
      simp only [wellP, hw, Bore.ok]
      cases hc : inn w.b 0 ((n : Int) - 1)
      · rfl
      · obtain ⟨g1, g2⟩ := inn_iff.1 hc
        have := hu w.b.toNat (by omega)
        rw [this, show ((w.b.toNat : Nat) : Int) = w.b from by omega]
        cases ((wells.take i).map (·.b)).contains w.b <;> simp
    rw [drop_at hw, wellsOk, hone, Bool.and_eq_true]
    have ht : (wells.take i).map (·.b) ++ [w.b] = (wells.take (i + 1)).map (·.b) := by rw [List.take_add_one, hw]; simp
    rw [ht]
    constructor
    · rintro ⟨h1, h2⟩ j hj1 hj2
      by_cases hji : j = i
      · subst hji; exact h1
      · refine ((wellsOk_iff m (i + 1) (by omega) fun j hj => ?_).1 h2) j (by omega) hj2
        by_cases hji : j = i
        · subst hji; exact h1
        · exact h j (by omega)
    · intro hh
      have h1 := hh i (by omega) (by omega)
      refine ⟨h1, (wellsOk_iff m (i + 1) (by omega) fun j hj => ?_).2 fun j hj1 hj2 => hh j (by omega) hj2⟩
      by_cases hji : j = i
      · subst hji; exact h1
      · exact h j (by omega)

theorem C_wellsAll {n : Nat} {wells : List Bore} (hn : n ≤ 512) (hl : wells.length ≤ 1000000000) : ∃ s,
    lim T (.call false i_rock_all_rock_Bore [.lst wells.length (wells.flatMap Bore.enc), .fn i_rock_Bed_valid_1 [] [.ref σ.length 1 0 0]] ([.cells 0 ((List.replicate n false).flatMap boolE), .cells 0 [.sl σ.length 0 0 0 n 1]] :: σ)) =
      some (.val (.bool (wellsOk (n : Int) [] wells)) (s :: σ)) := by
  have h := all_ofS (eltAgg 3 Bore.enc (fun _ => rfl)) (T := T) (S := wellSt n wells σ) (fv := .fn i_rock_Bed_valid_1 [] [.ref σ.length 1 0 0]) (l := wells) (f := i_rock_all_rock_Bore) (g := i_rock_all_rock_Bore_1) (h := i_slices_ContainsFunc_rock_Bore) (i := i_slices_IndexFunc_rock_Bore) (p := wellP n wells)
    rfl rfl rfl rfl (by omega) rfl rfl rfl (fun i => by simp [wellSt]) (fun i x hx => by
      rw [callv_fn]
      have := C_wellUsed (σ := σ) hn hx
      show R.vals (lim T (.call false i_rock_Bed_valid_1 [.agg x.enc, .ref σ.length 1 0 0] _)) = _
      rw [this]; rfl)
  have he : (!(scanQ (fun i => !wellP n wells i) 0 wells.length).1) = wellsOk (n : Int) [] wells := by
    have h1 := wellsOk_iff (n := n) (wells := wells) wells.length 0 (by omega) (by simp)
    have h2 := scanQ_all (q := fun i => !wellP n wells i) (m := wells.length) (i := 0)
    simp only [List.take_zero, List.map_nil, List.drop_zero] at h1
    cases hw : wellsOk (n : Int) [] wells
    · rw [Bool.not_eq_false']
      cases hs : (scanQ (fun i => !wellP n wells i) 0 wells.length).1
      · have h3 := h2.1 hs
        have h4 := h1.2 fun j _ hj => by have := h3 j hj; simpa using this
        rw [hw] at h4; cases h4
      · rfl
    · rw [Bool.not_eq_true']
      refine h2.2 fun j hj => ?_
      have := h1.1 hw j (by omega) hj
      simpa using this
  rw [he] at h
  refine ⟨[.cells 0 ((usedS n wells (scanQ (fun i => !wellP n wells i) 0 wells.length).2).flatMap boolE), .cells 0 [.sl σ.length 0 0 0 n 1]], ?_⟩
  exact h
end Go.Proofs.YtehandllpmlcoaaGreat
