/-
  Magnitudes: of the program. The law's conversion of a network.
-/
import Derived.Test.YticpenoicajakaaGreatK8
set_option linter.unusedVariables false
set_option linter.unusedSimpArgs false
namespace Go.Trem
open Go Go.Abs

def risAt (l : List Int) (i : Nat) : Bool := decide (i = 0) || decide (l.getD (i - 1) 0 < l.getD i 0)
def risB (l : List Int) : Bool := allB (List.range' 0 l.length) (risAt l)
def FarRow.ok (r : FarRow) : Bool := inn r.far 0 20000 && inn r.add 0 100
def Scale.ok (s : Scale) : Bool := inn s.levels.length 1 60 && (allB s.levels (fun n => inn n 1 1000000000) && (risB s.levels && (inn s.rows.length 1 20 && (decide ((s.rows.getD 0 ⟨0, 0⟩).far = 0) && (allB s.rows FarRow.ok && risB (s.rows.map (·.far)))))))
def lvl (l : List Int) (a : Int) : Nat := (l.takeWhile fun x => decide (x ≤ a)).length
def addOf (rows : List FarRow) (d : Int) : Int := rows.foldl (fun acc r => if r.far ≤ d then r.add else acc) 0
def mag1 (s : Scale) (a d : Int) : Int := lvl s.levels a + addOf s.rows d
def Reading.ok (n : Net) (r : Reading) : Bool := inn r.st 0 (n.st.length - 1) && inn r.amt 0 1000000000
def magOf (n : Net) (s : Scale) (p : Pt) (r : Reading) : Int := mag1 s r.amt (dist (n.stn r.st).p p)
def magSum (n : Net) (s : Scale) (p : Pt) (l : List Reading) : Int := l.foldl (fun acc r => acc + magOf n s p r) 0
def magOk (n : Net) (s : Scale) (p : Pt) (l : List Reading) : Bool := n.ok && (s.ok && (p.ok && (inn l.length 1 12 && allB l (Reading.ok n))))

theorem addOf_bound {rows : List FarRow} (h : ∀ r ∈ rows, FarRow.ok r = true) (d : Int) : 0 ≤ addOf rows d ∧ addOf rows d ≤ 100 := by
  unfold addOf
  have : ∀ (l : List FarRow) (acc : Int), (∀ r ∈ l, FarRow.ok r = true) → 0 ≤ acc ∧ acc ≤ 100 → 0 ≤ l.foldl (fun acc r => if r.far ≤ d then r.add else acc) acc ∧ l.foldl (fun acc r => if r.far ≤ d then r.add else acc) acc ≤ 100 := by
    intro l
    induction l with
    | nil => intro acc _ h; exact h
    | cons r l ih =>
      intro acc hl ha
      refine ih _ (fun x hx => hl x (by simp [hx])) ?_
      have := hl r (by simp)
      simp only [FarRow.ok, Bool.and_eq_true, inn_iff] at this
      dsimp only
      split <;> omega
  exact this rows 0 h (by omega)

theorem mag1_bound {s : Scale} (h : s.ok = true) (a d : Int) : 0 ≤ mag1 s a d ∧ mag1 s a d ≤ 160 := by
  simp only [Scale.ok, Bool.and_eq_true, inn_iff] at h
  have h1 := addOf_bound (allB_iff.1 h.2.2.2.2.2.1) d
  have h2 : lvl s.levels a ≤ s.levels.length := by
    unfold lvl
    exact (List.takeWhile_sublist _).length_le
  unfold mag1
  omega

theorem magSum_bound {n : Net} {s : Scale} (h : s.ok = true) {p : Pt} : ∀ (l : List Reading), 0 ≤ magSum n s p l ∧ magSum n s p l ≤ 160 * l.length := by
  have : ∀ (l : List Reading) (acc : Int), acc ≤ l.foldl (fun acc r => acc + magOf n s p r) acc ∧ l.foldl (fun acc r => acc + magOf n s p r) acc ≤ acc + 160 * l.length := by
    intro l
    induction l with
    | nil => intro acc; simp
    | cons r l ih =>
      intro acc
      have := ih (acc + magOf n s p r)
      have h2 := mag1_bound h r.amt (dist (n.stn r.st).p p)
      simp only [List.foldl_cons, List.length_cons, magOf] at this ⊢
      omega
  intro l
  have := this l 0
  unfold magSum
  omega
end Go.Trem
namespace Go.Proofs.YticpenoicajakaaGreat
open Go Go.Abs Go.Trem
variable {σ : Stack}

theorem C_sv1 {a : Int} : lim T (.call false i_tremor_Scale_valid_1 [.int .i64 a] σ) = some (.val (.bool (inn a 1 1000000000)) σ) := by
  refine call_of T_tremor_Scale_valid_1 e_tremor_Scale_valid_1 rfl ?_
  simp [-List.length_flatMap, -List.map_take, e_tremor_Scale_valid_1_r0, e_tremor_Scale_valid_1_r1, C_within]
theorem C_sv2 {a : Int} : lim T (.call false i_tremor_Scale_valid_2 [.int .i64 a] σ) = some (.val (.int .i64 a) σ) := by
  refine call_of T_tremor_Scale_valid_2 e_tremor_Scale_valid_2 rfl ?_
  simp [-List.length_flatMap, -List.map_take, e_tremor_Scale_valid_2_r0, e_tremor_Scale_valid_2_r1]
theorem C_sv3 {a b : Int} : lim T (.call false i_tremor_Scale_valid_3 [.agg [.int .i64 a, .int .i64 b]] σ) = some (.val (.bool (FarRow.ok ⟨a, b⟩)) σ) := by
  refine call_of T_tremor_Scale_valid_3 e_tremor_Scale_valid_3 rfl ?_
  cases hc1 : inn a 0 20000
  · simp [-List.length_flatMap, -List.map_take, e_tremor_Scale_valid_3_r0, e_tremor_Scale_valid_3_r1, C_within, FarRow.ok, hc1]
  simp [-List.length_flatMap, -List.map_take, e_tremor_Scale_valid_3_r0, e_tremor_Scale_valid_3_r1, C_within, FarRow.ok, hc1]
theorem C_sv4 {a b : Int} : lim T (.call false i_tremor_Scale_valid_4 [.agg [.int .i64 a, .int .i64 b]] σ) = some (.val (.int .i64 a) σ) := by
  refine call_of T_tremor_Scale_valid_4 e_tremor_Scale_valid_4 rfl ?_
  simp [-List.length_flatMap, -List.map_take, e_tremor_Scale_valid_4_r0, e_tremor_Scale_valid_4_r1]
theorem C_all_row {l : List FarRow} (hl : l.length ≤ 9223372036854775807) :
    lim T (.call false i_tremor_all_tremor_Row [.lst l.length (l.flatMap FarRow.enc), .fn i_tremor_Scale_valid_3 [] []] σ) = some (.val (.bool (allB l FarRow.ok)) σ) :=
  all_of eltRow T_tremor_all_tremor_Row T_tremor_all_tremor_Row_1 T_slices_ContainsFunc_tremor_Row T_slices_IndexFunc_tremor_Row hl (.fn fun s _ σ => C_sv3) rfl

theorem getD_of {α : Type} {l : List α} {i : Nat} {x d : α} (h : l[i]? = some x) : l.getD i d = x := by simp [List.getD, h]

theorem L_ris {l : List Int} (hl : l.length ≤ 9223372036854775807) : ∀ (m i : Nat), i + m = l.length →
    WL T [0, 1, 7, 8] false f_tremor_rising_int_l7 [(0, .lst l.length (l.flatMap intE)), (1, .fn i_tremor_Scale_valid_2 [] []), (7, .int .i64 l.length), (8, .int .i64 i)] σ
      (fun x e σ' => σ' = σ ∧ if allB (List.range' i m) (risAt l) then x = .exit 0 else x = .ret ∧ get e 4 = .bool false)
  | 0, i, hi => by
    refine WL_step e_tremor_rising_int_l7 ?_
    have h1 : ¬ i < l.length := by omega
    simp [-List.length_flatMap, -List.map_take, e_tremor_rising_int_r0, e_tremor_rising_int_r1, e_tremor_rising_int_r2, e_tremor_rising_int_r3, e_tremor_rising_int_r4, e_tremor_rising_int_r5, e_tremor_rising_int_r6, e_tremor_rising_int_r8, h1, allB]
  | m + 1, i, hi => by
    refine WL_step e_tremor_rising_int_l7 ?_
    have ih := L_ris hl m (i + 1) (by omega)
    have h1 : i < l.length := by omega
    obtain ⟨x, hx⟩ : ∃ x, l[i]? = some x := ⟨_, List.getElem?_eq_getElem h1⟩
    have h2 := flat_at (f := intE) (w := 1) (fun _ => rfl) hx
    simp only [Nat.mul_one] at h2
    have h4 := wnext h1 hl
    by_cases h0 : i = 0
    · subst h0
      simp [-List.length_flatMap, -List.map_take, e_tremor_rising_int_r0, e_tremor_rising_int_r1, e_tremor_rising_int_r2, e_tremor_rising_int_r3, e_tremor_rising_int_r4, e_tremor_rising_int_r5, e_tremor_rising_int_r6, e_tremor_rising_int_r8, h1, h4]
      refine WL.to ih (by simp) rfl fun x e σ' hh => ?_
      have : allB (List.range' 0 (m + 1)) (risAt l) = allB (List.range' 1 m) (risAt l) := by simp [List.range'_succ, allB, risAt]
      rw [this]; exact hh
    · obtain ⟨y, hy⟩ : ∃ y, l[i - 1]? = some y := ⟨_, List.getElem?_eq_getElem (by omega)⟩
      have h3 := flat_at (f := intE) (w := 1) (fun _ => rfl) hy
      simp only [Nat.mul_one] at h3
      have h5 : 0 < i := by omega
      have h6 := w64 (n := (i : Int) - 1) (by omega)
      have h7 : ((i : Int) - 1).toNat = i - 1 := by omega
      have h8 : (0 : Int) ≤ (i : Int) - 1 := by omega
      have h9 : (i : Int) - 1 < l.length := by omega
      have g1 : risAt l i = decide (y < x) := by unfold risAt; rw [getD_of hx, getD_of hy]; simp [h0]
      have h8' : (1 : Int) ≤ i := by omega
      by_cases hc : x ≤ y
      · have hc' : ¬ y < x := by omega
        simp [-List.length_flatMap, -List.map_take, e_tremor_rising_int_r0, e_tremor_rising_int_r1, e_tremor_rising_int_r2, e_tremor_rising_int_r3, e_tremor_rising_int_r4, e_tremor_rising_int_r5, e_tremor_rising_int_r6, e_tremor_rising_int_r8, h1, h2, h3, h5, h6, h7, h8, h8', h9, C_sv2, hc, List.range'_succ, allB, g1, hc']
      · have hc' : y < x := by omega
        simp [-List.length_flatMap, -List.map_take, e_tremor_rising_int_r0, e_tremor_rising_int_r1, e_tremor_rising_int_r2, e_tremor_rising_int_r3, e_tremor_rising_int_r4, e_tremor_rising_int_r5, e_tremor_rising_int_r6, e_tremor_rising_int_r8, h1, h2, h3, h4, h5, h6, h7, h8, h8', h9, C_sv2, hc]
        refine WL.to ih (by simp) rfl fun x' e σ' hh => ?_
        have : allB (List.range' i (m + 1)) (risAt l) = allB (List.range' (i + 1) m) (risAt l) := by simp [List.range'_succ, allB, g1, hc']
        rw [this]; exact hh

theorem C_ris {l : List Int} (hl : l.length ≤ 9223372036854775807) : lim T (.call false i_tremor_rising_int [.lst l.length (l.flatMap intE), .fn i_tremor_Scale_valid_2 [] []] σ) = some (.val (.bool (risB l)) σ) := by
  refine call_of T_tremor_rising_int e_tremor_rising_int rfl ?_
  simp [-List.length_flatMap, -List.map_take, e_tremor_rising_int_r0, e_tremor_rising_int_r1, e_tremor_rising_int_r2, e_tremor_rising_int_r3, e_tremor_rising_int_r4, e_tremor_rising_int_r5, e_tremor_rising_int_r6, e_tremor_rising_int_r8]
  refine WL.to (L_ris (σ := [] :: σ) hl l.length 0 (by omega)) (by simp) rfl ?_
  rintro x e σ' ⟨rfl, h⟩
  have hr : risB l = allB (List.range' 0 l.length) (risAt l) := rfl
  rw [← hr] at h
  cases c : risB l
  · rw [c] at h; obtain ⟨rfl, h⟩ := h; simp [h]
  · rw [c] at h; simp at h; subst h; simp [-List.length_flatMap, -List.map_take, e_tremor_rising_int_r8]

theorem L_risR {l : List FarRow} (hl : l.length ≤ 9223372036854775807) : ∀ (m i : Nat), i + m = l.length →
    WL T [0, 1, 7, 8] false f_tremor_rising_tremor_Row_l7 [(0, .lst l.length (l.flatMap FarRow.enc)), (1, .fn i_tremor_Scale_valid_4 [] []), (7, .int .i64 l.length), (8, .int .i64 i)] σ
      (fun x e σ' => σ' = σ ∧ if allB (List.range' i m) (risAt (l.map (·.far))) then x = .exit 0 else x = .ret ∧ get e 4 = .bool false)
  | 0, i, hi => by
    refine WL_step e_tremor_rising_tremor_Row_l7 ?_
    have h1 : ¬ i < l.length := by omega
    simp [-List.length_flatMap, -List.map_take, e_tremor_rising_tremor_Row_r0, e_tremor_rising_tremor_Row_r1, e_tremor_rising_tremor_Row_r2, e_tremor_rising_tremor_Row_r3, e_tremor_rising_tremor_Row_r4, e_tremor_rising_tremor_Row_r5, e_tremor_rising_tremor_Row_r6, e_tremor_rising_tremor_Row_r8, h1, allB]
  | m + 1, i, hi => by
    refine WL_step e_tremor_rising_tremor_Row_l7 ?_
    have ih := L_risR hl m (i + 1) (by omega)
    have h1 : i < l.length := by omega
    obtain ⟨x, hx⟩ : ∃ x, l[i]? = some x := ⟨_, List.getElem?_eq_getElem h1⟩
    have h2 := flat_at (f := FarRow.enc) (w := 2) (fun _ => rfl) hx
    have h4 := wnext h1 hl
    have hx' : (l.map (·.far))[i]? = some x.far := by simp [hx]
    by_cases h0 : i = 0
    · subst h0
      simp [-List.length_flatMap, -List.map_take, e_tremor_rising_tremor_Row_r0, e_tremor_rising_tremor_Row_r1, e_tremor_rising_tremor_Row_r2, e_tremor_rising_tremor_Row_r3, e_tremor_rising_tremor_Row_r4, e_tremor_rising_tremor_Row_r5, e_tremor_rising_tremor_Row_r6, e_tremor_rising_tremor_Row_r8, h1, h4]
      refine WL.to ih (by simp) rfl fun x e σ' hh => ?_
      have : allB (List.range' 0 (m + 1)) (risAt (l.map (·.far))) = allB (List.range' 1 m) (risAt (l.map (·.far))) := by simp [List.range'_succ, allB, risAt]
      rw [this]; exact hh
    · obtain ⟨y, hy⟩ : ∃ y, l[i - 1]? = some y := ⟨_, List.getElem?_eq_getElem (by omega)⟩
      have h3 := flat_at (f := FarRow.enc) (w := 2) (fun _ => rfl) hy
      have hy' : (l.map (·.far))[i - 1]? = some y.far := by simp [hy]
      have h5 : 0 < i := by omega
      have h6 := w64 (n := (i : Int) - 1) (by omega)
      have h7 : ((i : Int) - 1).toNat = i - 1 := by omega
      have h8 : (0 : Int) ≤ (i : Int) - 1 := by omega
      have h9 : (i : Int) - 1 < l.length := by omega
      have g1 : risAt (l.map (·.far)) i = decide (y.far < x.far) := by unfold risAt; rw [getD_of hx', getD_of hy']; simp [h0]
      have h8' : (1 : Int) ≤ i := by omega
      by_cases hc : x.far ≤ y.far
      · have hc' : ¬ y.far < x.far := by omega
        simp [-List.length_flatMap, -List.map_take, e_tremor_rising_tremor_Row_r0, e_tremor_rising_tremor_Row_r1, e_tremor_rising_tremor_Row_r2, e_tremor_rising_tremor_Row_r3, e_tremor_rising_tremor_Row_r4, e_tremor_rising_tremor_Row_r5, e_tremor_rising_tremor_Row_r6, e_tremor_rising_tremor_Row_r8, h1, h2, h3, h5, h6, h7, h8, h8', h9, C_sv4, hc, List.range'_succ, allB, g1, hc']
      · have hc' : y.far < x.far := by omega
        simp [-List.length_flatMap, -List.map_take, e_tremor_rising_tremor_Row_r0, e_tremor_rising_tremor_Row_r1, e_tremor_rising_tremor_Row_r2, e_tremor_rising_tremor_Row_r3, e_tremor_rising_tremor_Row_r4, e_tremor_rising_tremor_Row_r5, e_tremor_rising_tremor_Row_r6, e_tremor_rising_tremor_Row_r8, h1, h2, h3, h4, h5, h6, h7, h8, h8', h9, C_sv4, hc]
        refine WL.to ih (by simp) rfl fun x' e σ' hh => ?_
        have : allB (List.range' i (m + 1)) (risAt (l.map (·.far))) = allB (List.range' (i + 1) m) (risAt (l.map (·.far))) := by simp [List.range'_succ, allB, g1, hc']
        rw [this]; exact hh

theorem C_risR {l : List FarRow} (hl : l.length ≤ 9223372036854775807) : lim T (.call false i_tremor_rising_tremor_Row [.lst l.length (l.flatMap FarRow.enc), .fn i_tremor_Scale_valid_4 [] []] σ) = some (.val (.bool (risB (l.map (·.far)))) σ) := by
  refine call_of T_tremor_rising_tremor_Row e_tremor_rising_tremor_Row rfl ?_
  simp [-List.length_flatMap, -List.map_take, e_tremor_rising_tremor_Row_r0, e_tremor_rising_tremor_Row_r1, e_tremor_rising_tremor_Row_r2, e_tremor_rising_tremor_Row_r3, e_tremor_rising_tremor_Row_r4, e_tremor_rising_tremor_Row_r5, e_tremor_rising_tremor_Row_r6, e_tremor_rising_tremor_Row_r8]
  refine WL.to (L_risR (σ := [] :: σ) hl l.length 0 (by omega)) (by simp) rfl ?_
  rintro x e σ' ⟨rfl, h⟩
  have hr : risB (l.map (·.far)) = allB (List.range' 0 l.length) (risAt (l.map (·.far))) := by simp [risB]
  rw [← hr] at h
  cases c : risB (l.map (·.far))
  · rw [c] at h; obtain ⟨rfl, h⟩ := h; simp [h]
  · rw [c] at h; simp at h; subst h; simp [-List.length_flatMap, -List.map_take, e_tremor_rising_tremor_Row_r8]

theorem C_svalidS {s : Scale} (hl : s.levels.length ≤ 9223372036854775807) (hr : s.rows.length ≤ 9223372036854775807) :
    lim T (.call false i_tremor_Scale_valid [.agg [.lst s.levels.length (s.levels.flatMap intE), .lst s.rows.length (s.rows.flatMap FarRow.enc)]] σ) = some (.val (.bool s.ok) σ) := by
  refine call_of T_tremor_Scale_valid e_tremor_Scale_valid rfl ?_
  have ha := fun σ => C_all_int (σ := σ) (l := s.levels) hl (fv := .fn i_tremor_Scale_valid_1 [] []) (p := fun n => inn n 1 1000000000) (.fn fun a _ σ => C_sv1) rfl
  have ho : s.ok = (inn s.levels.length 1 60 && (allB s.levels (fun n => inn n 1 1000000000) && (risB s.levels && (inn s.rows.length 1 20 && (decide ((s.rows.getD 0 ⟨0, 0⟩).far = 0) && (allB s.rows FarRow.ok && risB (s.rows.map (·.far)))))))) := rfl
  rw [ho]
  cases c1 : inn s.levels.length 1 60
  · simp [-List.length_flatMap, -List.map_take, e_tremor_Scale_valid_r0, e_tremor_Scale_valid_r1, C_within, c1]
  cases c2 : allB s.levels (fun n => inn n 1 1000000000)
  · simp [-List.length_flatMap, -List.map_take, e_tremor_Scale_valid_r0, e_tremor_Scale_valid_r1, C_within, c1, ha, c2]
  cases c3 : risB s.levels
  · simp [-List.length_flatMap, -List.map_take, e_tremor_Scale_valid_r0, e_tremor_Scale_valid_r1, C_within, c1, ha, c2, C_ris hl, c3]
  cases c4 : inn s.rows.length 1 20
  · simp [-List.length_flatMap, -List.map_take, e_tremor_Scale_valid_r0, e_tremor_Scale_valid_r1, C_within, c1, ha, c2, C_ris hl, c3, c4]
  rw [inn_iff] at c4
  obtain ⟨r, hr0⟩ : ∃ r, s.rows[0]? = some r := ⟨_, List.getElem?_eq_getElem (by omega)⟩
  have h2 := flat_at (f := FarRow.enc) (w := 2) (fun _ => rfl) hr0
  have h3 : s.rows.getD 0 ⟨0, 0⟩ = r := getD_of hr0
  have h5 : 0 < s.rows.length := by omega
  simp only [Nat.zero_mul, List.drop_zero] at h2
  have c4' := inn_iff.2 c4
  rw [h3]
  by_cases c5 : r.far = 0
  rotate_left
  · simp [-List.length_flatMap, -List.map_take, e_tremor_Scale_valid_r0, e_tremor_Scale_valid_r1, C_within, c1, ha, c2, C_ris hl, c3, c4', h2, h5, c5]
  cases c6 : allB s.rows FarRow.ok
  · simp [-List.length_flatMap, -List.map_take, e_tremor_Scale_valid_r0, e_tremor_Scale_valid_r1, C_within, c1, ha, c2, C_ris hl, c3, c4', h2, h5, c5, C_all_row hr, c6]
  simp [-List.length_flatMap, -List.map_take, e_tremor_Scale_valid_r0, e_tremor_Scale_valid_r1, C_within, c1, ha, c2, C_ris hl, c3, c4', h2, h5, c5, C_all_row hr, c6, C_risR hr]

theorem L_of1 {s : Scale} {a d : Int} (hl : s.levels.length ≤ 9223372036854775807) : ∀ (m i : Nat), i + m = s.levels.length →
    WL T [1, 2, 3, 7] false f_tremor_Scale_of_l4 [(1, .int .i64 a), (2, .int .i64 d), (3, .cref s.enc), (7, .int .i64 i)] σ
      (fun x e σ' => x = .exit 0 ∧ σ' = σ ∧ get e 2 = .int .i64 d ∧ get e 3 = .cref s.enc ∧ get e 7 = .int .i64 ((i : Int) + lvl (s.levels.drop i) a))
  | 0, i, hi => by
    refine WL_step e_tremor_Scale_of_l4 ?_
    have h1 : ¬ i < s.levels.length := by omega
    have h2 : s.levels.drop i = [] := by simp; omega
    simp [-List.length_flatMap, -List.map_take, e_tremor_Scale_of_r0, e_tremor_Scale_of_r1, e_tremor_Scale_of_r2, e_tremor_Scale_of_r3, e_tremor_Scale_of_r5, e_tremor_Scale_of_r6, e_tremor_Scale_of_r7, e_tremor_Scale_of_r8, e_tremor_Scale_of_r9, e_tremor_Scale_of_r10, e_tremor_Scale_of_r11, e_tremor_Scale_of_r13, h1, h2, lvl]
  | m + 1, i, hi => by
    refine WL_step e_tremor_Scale_of_l4 ?_
    have ih := L_of1 (a := a) (d := d) hl m (i + 1) (by omega)
    have h1 : i < s.levels.length := by omega
    obtain ⟨x, hx⟩ : ∃ x, s.levels[i]? = some x := ⟨_, List.getElem?_eq_getElem h1⟩
    have h2 := flat_at (f := intE) (w := 1) (fun _ => rfl) hx
    simp only [Nat.mul_one] at h2
    have h4 := wnext h1 hl
    have hd := drop_at hx
    by_cases hc : x ≤ a
    · simp [-List.length_flatMap, -List.map_take, e_tremor_Scale_of_r0, e_tremor_Scale_of_r1, e_tremor_Scale_of_r2, e_tremor_Scale_of_r3, e_tremor_Scale_of_r5, e_tremor_Scale_of_r6, e_tremor_Scale_of_r7, e_tremor_Scale_of_r8, e_tremor_Scale_of_r9, e_tremor_Scale_of_r10, e_tremor_Scale_of_r11, e_tremor_Scale_of_r13, h1, h2, h4, hc]
      refine WL.to ih (by simp) rfl fun x' e σ' hh => ?_
      rw [hd]
      have : lvl (x :: s.levels.drop (i + 1)) a = lvl (s.levels.drop (i + 1)) a + 1 := by simp [lvl, List.takeWhile, hc]
      rw [this]
      obtain ⟨a1, a2, a3, a4, a5⟩ := hh
      refine ⟨a1, a2, a3, a4, ?_⟩
      rw [a5]
      congr 1
      push_cast
      omega
    · have : lvl (x :: s.levels.drop (i + 1)) a = 0 := by simp [lvl, List.takeWhile, hc]
      simp [-List.length_flatMap, -List.map_take, e_tremor_Scale_of_r0, e_tremor_Scale_of_r1, e_tremor_Scale_of_r2, e_tremor_Scale_of_r3, e_tremor_Scale_of_r5, e_tremor_Scale_of_r6, e_tremor_Scale_of_r7, e_tremor_Scale_of_r8, e_tremor_Scale_of_r9, e_tremor_Scale_of_r10, e_tremor_Scale_of_r11, e_tremor_Scale_of_r13, h1, h2, h4, hc, hd, this]

theorem L_of2 {rows : List FarRow} {d : Int} {k : Int} (hl : rows.length ≤ 9223372036854775807) : ∀ (m i : Nat) (acc : Int), i + m = rows.length →
    WL T [2, 7, 8, 28, 29, 30] false f_tremor_Scale_of_l12 [(2, .int .i64 d), (7, .int .i64 k), (8, .int .i64 acc), (28, .lst rows.length (rows.flatMap FarRow.enc)), (29, .int .i64 rows.length), (30, .int .i64 i)] σ
      (fun x e σ' => x = .exit 2 ∧ σ' = σ ∧ get e 7 = .int .i64 k ∧ get e 8 = .int .i64 ((rows.drop i).foldl (fun acc r => if r.far ≤ d then r.add else acc) acc))
  | 0, i, acc, hi => by
    refine WL_step e_tremor_Scale_of_l12 ?_
    have h1 : ¬ i < rows.length := by omega
    have h2 : rows.drop i = [] := by simp; omega
    simp [-List.length_flatMap, -List.map_take, e_tremor_Scale_of_r0, e_tremor_Scale_of_r1, e_tremor_Scale_of_r2, e_tremor_Scale_of_r3, e_tremor_Scale_of_r5, e_tremor_Scale_of_r6, e_tremor_Scale_of_r7, e_tremor_Scale_of_r8, e_tremor_Scale_of_r9, e_tremor_Scale_of_r10, e_tremor_Scale_of_r11, e_tremor_Scale_of_r13, h1, h2]
  | m + 1, i, acc, hi => by
    refine WL_step e_tremor_Scale_of_l12 ?_
    have h1 : i < rows.length := by omega
    obtain ⟨r, hx⟩ : ∃ x, rows[i]? = some x := ⟨_, List.getElem?_eq_getElem h1⟩
    have h2 := flat_at (f := FarRow.enc) (w := 2) (fun _ => rfl) hx
    have h4 := wnext h1 hl
    have hd := drop_at hx
    by_cases hc : r.far ≤ d
    · have ih := L_of2 (d := d) (k := k) hl m (i + 1) r.add (by omega)
      simp [-List.length_flatMap, -List.map_take, e_tremor_Scale_of_r0, e_tremor_Scale_of_r1, e_tremor_Scale_of_r2, e_tremor_Scale_of_r3, e_tremor_Scale_of_r5, e_tremor_Scale_of_r6, e_tremor_Scale_of_r7, e_tremor_Scale_of_r8, e_tremor_Scale_of_r9, e_tremor_Scale_of_r10, e_tremor_Scale_of_r11, e_tremor_Scale_of_r13, h1, h2, h4, hc]
      refine WL.to ih (by simp) rfl fun x' e σ' hh => ?_
      rw [hd]; simpa [hc] using hh
    · have ih := L_of2 (d := d) (k := k) hl m (i + 1) acc (by omega)
      simp [-List.length_flatMap, -List.map_take, e_tremor_Scale_of_r0, e_tremor_Scale_of_r1, e_tremor_Scale_of_r2, e_tremor_Scale_of_r3, e_tremor_Scale_of_r5, e_tremor_Scale_of_r6, e_tremor_Scale_of_r7, e_tremor_Scale_of_r8, e_tremor_Scale_of_r9, e_tremor_Scale_of_r10, e_tremor_Scale_of_r11, e_tremor_Scale_of_r13, h1, h2, h4, hc]
      refine WL.to ih (by simp) rfl fun x' e σ' hh => ?_
      rw [hd]; simpa [hc] using hh

theorem C_of {s : Scale} (h : s.ok = true) {a d : Int} :
    lim T (.call false i_tremor_Scale_of [.agg [.lst s.levels.length (s.levels.flatMap intE), .lst s.rows.length (s.rows.flatMap FarRow.enc)], .int .i64 a, .int .i64 d] σ) = some (.val (.int .i64 (mag1 s a d)) σ) := by
  refine call_of T_tremor_Scale_of e_tremor_Scale_of rfl ?_
  have hb := mag1_bound h a d
  have h0 := h
  simp only [Scale.ok, Bool.and_eq_true, inn_iff] at h0
  simp [-List.length_flatMap, -List.map_take, e_tremor_Scale_of_r0, e_tremor_Scale_of_r1, e_tremor_Scale_of_r2, e_tremor_Scale_of_r3, e_tremor_Scale_of_r5, e_tremor_Scale_of_r6, e_tremor_Scale_of_r7, e_tremor_Scale_of_r8, e_tremor_Scale_of_r9, e_tremor_Scale_of_r10, e_tremor_Scale_of_r11, e_tremor_Scale_of_r13]
  refine WL.to (L_of1 (σ := [] :: σ) (s := s) (a := a) (d := d) (by omega) s.levels.length 0 (by omega)) (by simp) rfl ?_
  rintro x e σ' ⟨rfl, rfl, h1, h2, h3⟩
  simp at h3
  simp [-List.length_flatMap, -List.map_take, h1, h2, h3, e_tremor_Scale_of_r5, e_tremor_Scale_of_r6]
  refine WL.to (L_of2 (σ := [] :: σ) (rows := s.rows) (d := d) (k := (lvl s.levels a : Nat)) (by omega) s.rows.length 0 0 (by omega)) (by simp) rfl ?_
  rintro x e σ' ⟨rfl, rfl, h4, h5⟩
  have hw := w64 (n := mag1 s a d) (by omega)
  simp only [List.drop_zero] at h5
  have h6 : mag1 s a d = lvl s.levels a + s.rows.foldl (fun acc r => if r.far ≤ d then r.add else acc) 0 := rfl
  rw [h6] at hw ⊢
  simp [-List.length_flatMap, -List.map_take, h4, h5, e_tremor_Scale_of_r13, hw]

theorem C_mag1 {n : Net} {st am : Int} (hn : n.st.length ≤ 9223372036854775807) :
    lim T (.call false i_tremor_Magnitude_1 [.agg [.int .i64 st, .int .i64 am], .cref n.enc] σ) = some (.val (.bool (Reading.ok n ⟨st, am⟩)) σ) := by
  refine call_of T_tremor_Magnitude_1 e_tremor_Magnitude_1 rfl ?_
  cases hc1 : inn st 0 (n.st.length - 1)
  · simp [-List.length_flatMap, -List.map_take, e_tremor_Magnitude_1_r0, e_tremor_Magnitude_1_r1, C_has hn, C_within, Reading.ok, hc1]
  simp [-List.length_flatMap, -List.map_take, e_tremor_Magnitude_1_r0, e_tremor_Magnitude_1_r1, C_has hn, C_within, Reading.ok, hc1]

theorem L_mag {n : Net} {s : Scale} {p : Pt} {l : List Reading} (h : magOk n s p l = true) : ∀ (m i : Nat) (acc : Int), i + m = l.length → 0 ≤ acc → acc ≤ 160 * i →
    WL T [3, 4, 5, 6, 10, 38, 39, 40] false f_tremor_Magnitude_l9 [(3, .lst l.length (l.flatMap Reading.enc)), (4, .cref n.enc), (5, .cref s.enc), (6, .cref p.enc), (10, .int .i64 acc), (38, .lst l.length (l.flatMap Reading.enc)), (39, .int .i64 l.length), (40, .int .i64 i)] σ
      (fun x e σ' => x = .exit 0 ∧ σ' = σ ∧ get e 3 = .lst l.length (l.flatMap Reading.enc) ∧ get e 10 = .int .i64 ((l.drop i).foldl (fun acc r => acc + magOf n s p r) acc))
  | 0, i, acc, hi, _, _ => by
    refine WL_step e_tremor_Magnitude_l9 ?_
    have h1 : ¬ i < l.length := by omega
    have h2 : l.drop i = [] := by simp; omega
    simp [-List.length_flatMap, -List.map_take, e_tremor_Magnitude_r0, e_tremor_Magnitude_r1, e_tremor_Magnitude_r2, e_tremor_Magnitude_r3, e_tremor_Magnitude_r4, e_tremor_Magnitude_r5, e_tremor_Magnitude_r6, e_tremor_Magnitude_r7, e_tremor_Magnitude_r8, e_tremor_Magnitude_r10, h1, h2]
  | m + 1, i, acc, hi, ha, hb => by
    refine WL_step e_tremor_Magnitude_l9 ?_
    have hk := h
    simp only [magOk, Bool.and_eq_true, inn_iff] at hk
    have h1 : i < l.length := by omega
    obtain ⟨r, hx⟩ : ∃ x, l[i]? = some x := ⟨_, List.getElem?_eq_getElem h1⟩
    have h2 := flat_at (f := Reading.enc) (w := 2) (fun _ => rfl) hx
    have h4 := wnext h1 (by omega)
    have hd := drop_at hx
    have hr := allB_iff.1 hk.2.2.2.2 r (List.mem_of_getElem? hx)
    simp only [Reading.ok, Bool.and_eq_true] at hr
    have hf := net_fine (ph := 0) hk.1 hr.1 (by omega) (by omega)
    have c0 := hf.i0
    have c1 := hf.i1
    have c2 := hf.cells
    have h5 := fun σ => @C_far σ _ _ _ p.x p.y p.z hf.p hk.2.2.1
    have h6 := fun σ => @C_of σ s hk.2.1 r.amt (dist (n.stn r.st).p p)
    have hm := mag1_bound hk.2.1 r.amt (dist (n.stn r.st).p p)
    have hw := w64 (n := acc + mag1 s r.amt (dist (n.stn r.st).p p)) (by omega)
    have ih := L_mag h m (i + 1) (acc + mag1 s r.amt (dist (n.stn r.st).p p)) (by omega) (by omega) (by push_cast; omega)
    simp only [Pt.eta] at h5
    simp [-List.length_flatMap, -List.map_take, e_tremor_Magnitude_r0, e_tremor_Magnitude_r1, e_tremor_Magnitude_r2, e_tremor_Magnitude_r3, e_tremor_Magnitude_r4, e_tremor_Magnitude_r5, e_tremor_Magnitude_r6, e_tremor_Magnitude_r7, e_tremor_Magnitude_r8, e_tremor_Magnitude_r10, h1, h2, h4, c0, c1, c2, h5, h6, hw]
    refine WL.to ih (by simp) rfl fun x' e σ' hh => ?_
    rw [hd]; simpa [magOf] using hh

theorem C_Magnitude {n : Net} {s : Scale} {x y z : Int} {l : List Reading} (hn : n.st.length ≤ 9223372036854775807) (hs : s.levels.length ≤ 9223372036854775807) (hr : s.rows.length ≤ 9223372036854775807) (hl : l.length ≤ 9223372036854775807) :
    lim T (.call false i_tremor_Magnitude [.agg [.lst n.st.length (n.st.flatMap Stn.enc), .int .i64 n.s0.lo, .int .i64 n.s0.hi, .int .i64 n.s1.lo, .int .i64 n.s1.hi, .int .i64 n.low.x, .int .i64 n.low.y, .int .i64 n.low.z, .int .i64 n.high.x, .int .i64 n.high.y, .int .i64 n.high.z, .int .i64 n.step], .agg [.lst s.levels.length (s.levels.flatMap intE), .lst s.rows.length (s.rows.flatMap FarRow.enc)], .agg [.int .i64 x, .int .i64 y, .int .i64 z], .lst l.length (l.flatMap Reading.enc)] σ) =
      some (.val (if magOk n s ⟨x, y, z⟩ l then .tup [.int .i64 (magSum n s ⟨x, y, z⟩ l / l.length), .int .i64 0] else .tup [.int .i64 0, .int .i64 1]) σ) := by
  refine call_of T_tremor_Magnitude e_tremor_Magnitude rfl ?_
  have ha : ∀ σ, lim T (.call false i_tremor_all_tremor_Reading [.lst l.length (l.flatMap Reading.enc), .fn i_tremor_Magnitude_1 [] [.cref n.enc]] σ) = some (.val (.bool (allB l (Reading.ok n))) σ) := fun σ =>
    all_of eltReading T_tremor_all_tremor_Reading T_tremor_all_tremor_Reading_1 T_slices_ContainsFunc_tremor_Reading T_slices_IndexFunc_tremor_Reading hl (.fn fun p _ σ => C_mag1 hn) rfl
  simp only [Net.enc] at ha
  have ho : magOk n s ⟨x, y, z⟩ l = (n.ok && (s.ok && (Pt.ok ⟨x, y, z⟩ && (inn l.length 1 12 && allB l (Reading.ok n))))) := rfl
  cases c1 : n.ok
  · simp [-List.length_flatMap, -List.map_take, e_tremor_Magnitude_r0, e_tremor_Magnitude_r1, e_tremor_Magnitude_r2, e_tremor_Magnitude_r3, e_tremor_Magnitude_r4, e_tremor_Magnitude_r5, e_tremor_Magnitude_r6, e_tremor_Magnitude_r7, e_tremor_Magnitude_r8, e_tremor_Magnitude_r10, C_nvalid hn, ho, c1]
  cases c2 : s.ok
  · simp [-List.length_flatMap, -List.map_take, e_tremor_Magnitude_r0, e_tremor_Magnitude_r1, e_tremor_Magnitude_r2, e_tremor_Magnitude_r3, e_tremor_Magnitude_r4, e_tremor_Magnitude_r5, e_tremor_Magnitude_r6, e_tremor_Magnitude_r7, e_tremor_Magnitude_r8, e_tremor_Magnitude_r10, C_nvalid hn, C_svalidS hs hr, ho, c1, c2]
  cases c3 : Pt.ok ⟨x, y, z⟩
  · simp [-List.length_flatMap, -List.map_take, e_tremor_Magnitude_r0, e_tremor_Magnitude_r1, e_tremor_Magnitude_r2, e_tremor_Magnitude_r3, e_tremor_Magnitude_r4, e_tremor_Magnitude_r5, e_tremor_Magnitude_r6, e_tremor_Magnitude_r7, e_tremor_Magnitude_r8, e_tremor_Magnitude_r10, C_nvalid hn, C_svalidS hs hr, C_pvalid, ho, c1, c2, c3]
  cases c4 : inn l.length 1 12
  · simp [-List.length_flatMap, -List.map_take, e_tremor_Magnitude_r0, e_tremor_Magnitude_r1, e_tremor_Magnitude_r2, e_tremor_Magnitude_r3, e_tremor_Magnitude_r4, e_tremor_Magnitude_r5, e_tremor_Magnitude_r6, e_tremor_Magnitude_r7, e_tremor_Magnitude_r8, e_tremor_Magnitude_r10, C_nvalid hn, C_svalidS hs hr, C_pvalid, C_within, ho, c1, c2, c3, c4]
  cases c5 : allB l (Reading.ok n)
  · simp [-List.length_flatMap, -List.map_take, e_tremor_Magnitude_r0, e_tremor_Magnitude_r1, e_tremor_Magnitude_r2, e_tremor_Magnitude_r3, e_tremor_Magnitude_r4, e_tremor_Magnitude_r5, e_tremor_Magnitude_r6, e_tremor_Magnitude_r7, e_tremor_Magnitude_r8, e_tremor_Magnitude_r10, C_nvalid hn, C_svalidS hs hr, C_pvalid, C_within, ha, ho, c1, c2, c3, c4, c5]
  have hk : magOk n s ⟨x, y, z⟩ l = true := by rw [ho, c1, c2, c3, c4, c5]; rfl
  rw [hk]
  simp [-List.length_flatMap, -List.map_take, e_tremor_Magnitude_r0, e_tremor_Magnitude_r1, e_tremor_Magnitude_r2, e_tremor_Magnitude_r3, e_tremor_Magnitude_r4, e_tremor_Magnitude_r5, e_tremor_Magnitude_r6, e_tremor_Magnitude_r7, e_tremor_Magnitude_r8, e_tremor_Magnitude_r10, C_nvalid hn, C_svalidS hs hr, C_pvalid, C_within, ha, c1, c2, c3, c4, c5]
  refine WL.to (L_mag (σ := [] :: σ) hk l.length 0 0 (by omega) (by omega) (by omega)) (by simp) rfl ?_
  rintro x' e σ' ⟨rfl, rfl, h1, h2⟩
  have hb := magSum_bound c2 (n := n) (p := ⟨x, y, z⟩) l
  rw [inn_iff] at c4
  have h3 : (l.length : Int) ≠ 0 := by omega
  have h4 : l ≠ [] := by rintro rfl; simp at c4
  have h5 : (l.drop 0).foldl (fun acc r => acc + magOf n s ⟨x, y, z⟩ r) 0 = magSum n s ⟨x, y, z⟩ l := rfl
  rw [h5] at h2
  have h6 : (magSum n s ⟨x, y, z⟩ l).tdiv l.length = magSum n s ⟨x, y, z⟩ l / l.length := Int.tdiv_eq_ediv_of_nonneg hb.1
  have h7 : 0 ≤ magSum n s ⟨x, y, z⟩ l / l.length := Int.ediv_nonneg hb.1 (by omega)
  have h8 : magSum n s ⟨x, y, z⟩ l / l.length ≤ magSum n s ⟨x, y, z⟩ l := Int.ediv_le_self _ hb.1
  have hw := w64 (n := magSum n s ⟨x, y, z⟩ l / l.length) (by omega)
  simp [-List.length_flatMap, -List.map_take, h1, h2, e_tremor_Magnitude_r10, h3, h4, h6, hw]
end Go.Proofs.YticpenoicajakaaGreat
