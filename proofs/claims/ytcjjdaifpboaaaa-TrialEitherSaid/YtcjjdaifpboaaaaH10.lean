/-
  Conflicts: the first pair of rooms that have nothing in common.
-/
import Derived.Test.YtcjjdaifpboaaaaH9
set_option linter.unusedVariables false
set_option linter.unusedSimpArgs false
namespace Go.Proofs.Ytcjjdaifpboaaaa
open Go Go.Abs Go.Trial
variable {σ : Stack}

def rowF (l : List Rg) (a : Rg) : Nat → Nat → Option Nat
  | 0, _ => none
  | m + 1, j => match l[j]? with
    | some b => if b.hi < a.lo then some j else rowF l a m (j + 1)
    | none => none
def apF (l : List Rg) : Nat → Nat → Option (Nat × Nat)
  | 0, _ => none
  | m + 1, i => match l[i]? with
    | some a => match rowF l a l.length 0 with
      | some j => some (i, j)
      | none => apF l m (i + 1)
    | none => none
def apart (l : List Rg) : Option (Nat × Nat) := apF l l.length 0

def apQ2 (l : List Rg) (i : Nat) (x : Abs.Exit) (e : Env) : Option Nat → Prop
  | some k => x = .exit 0 ∧ get e 2 = .own 0 [.int .i64 ((i : Int) - 1), .int .i64 ((k : Int) - 1)] ∧ get e 3 = .bool true
  | none => x = .exit 2 ∧ get e 0 = .lst l.length (l.flatMap Rg.enc) ∧ get e 2 = .own 0 z2 ∧ get e 3 = .bool false ∧ get e 8 = .lst l.length (l.flatMap Rg.enc) ∧ get e 9 = .int .i64 l.length ∧ get e 10 = .int .i64 i
def apQ1 (e : Env) : Option (Nat × Nat) → Prop
  | some p => get e 2 = .own 0 [.int .i64 ((p.1 : Int) - 1), .int .i64 ((p.2 : Int) - 1)] ∧ get e 3 = .bool true
  | none => get e 2 = .own 0 z2 ∧ get e 3 = .bool false
theorem L_ap2 {l : List Rg} (hl : l.length ≤ 100) {i : Nat} (hi : i < l.length) {a : Rg} : ∀ (m j : Nat), j + m = l.length →
    WL T [0, 2, 3, 4, 5, 8, 9, 10, 15, 16, 17] false f_trial_apart_l10 [(0, .lst l.length (l.flatMap Rg.enc)), (2, .own 0 z2), (3, .bool false), (4, .int .i64 i), (5, .own 0 a.enc), (8, .lst l.length (l.flatMap Rg.enc)), (9, .int .i64 l.length), (10, .int .i64 i), (15, .lst l.length (l.flatMap Rg.enc)), (16, .int .i64 l.length), (17, .int .i64 j)] σ
      (fun x e σ' => σ' = σ ∧ apQ2 l i x e (rowF l a m j))
  | 0, j, hj => by
    refine WL_step e_trial_apart_l10 ?_
    have h1 : ¬ j < l.length := by omega
    simp [-List.length_flatMap, -List.map_take, e_trial_apart_r0, e_trial_apart_r1, e_trial_apart_r2, e_trial_apart_r3, e_trial_apart_r4, e_trial_apart_r5, e_trial_apart_r6, e_trial_apart_r7, e_trial_apart_r8, e_trial_apart_r9, e_trial_apart_r11, e_trial_apart_r13, h1, rowF, apQ2]
  | m + 1, j, hj => by
    refine WL_step e_trial_apart_l10 ?_
    have h1 : j < l.length := by omega
    obtain ⟨x, hx⟩ : ∃ x, l[j]? = some x := ⟨_, List.getElem?_eq_getElem h1⟩
    have h2 := flat_at (f := Rg.enc) (w := 2) (fun _ => rfl) hx
    have h4 := wnext h1 (by omega)
    have ih := L_ap2 hl hi (a := a) m (j + 1) (by omega)
    have w1 := w64 (n := (i : Int) - 1) (by omega)
    have w2 := w64 (n := (j : Int) - 1) (by omega)
    have hr : rowF l a (m + 1) j = if x.hi < a.lo then some j else rowF l a m (j + 1) := by simp [rowF, hx]
    rw [hr]
    simp only [z2] at ih ⊢
    by_cases hc : x.hi < a.lo
    · rw [if_pos hc]
      simp [-List.length_flatMap, -List.map_take, e_trial_apart_r0, e_trial_apart_r1, e_trial_apart_r2, e_trial_apart_r3, e_trial_apart_r4, e_trial_apart_r5, e_trial_apart_r6, e_trial_apart_r7, e_trial_apart_r8, e_trial_apart_r9, e_trial_apart_r11, e_trial_apart_r13, h1, h2, h4, hc, w1, w2, apQ2]
    · rw [if_neg hc]
      simp [-List.length_flatMap, -List.map_take, e_trial_apart_r0, e_trial_apart_r1, e_trial_apart_r2, e_trial_apart_r3, e_trial_apart_r4, e_trial_apart_r5, e_trial_apart_r6, e_trial_apart_r7, e_trial_apart_r8, e_trial_apart_r9, e_trial_apart_r11, e_trial_apart_r13, h1, h2, h4, hc]
      exact WL.to ih (by simp) rfl fun x e σ' hh => hh
theorem L_ap1 {l : List Rg} (hl : l.length ≤ 100) : ∀ (m i : Nat), i + m = l.length →
    WL T [0, 2, 3, 8, 9, 10] false f_trial_apart_l12 [(0, .lst l.length (l.flatMap Rg.enc)), (2, .own 0 z2), (3, .bool false), (8, .lst l.length (l.flatMap Rg.enc)), (9, .int .i64 l.length), (10, .int .i64 i)] σ
      (fun x e σ' => σ' = σ ∧ x = .exit 0 ∧ apQ1 e (apF l m i))
  | 0, i, hi => by
    refine WL_step e_trial_apart_l12 ?_
    have h1 : ¬ i < l.length := by omega
    simp [-List.length_flatMap, -List.map_take, e_trial_apart_r0, e_trial_apart_r1, e_trial_apart_r2, e_trial_apart_r3, e_trial_apart_r4, e_trial_apart_r5, e_trial_apart_r6, e_trial_apart_r7, e_trial_apart_r8, e_trial_apart_r9, e_trial_apart_r11, e_trial_apart_r13, h1, apF, apQ1]
  | m + 1, i, hi => by
    refine WL_step e_trial_apart_l12 ?_
    have h1 : i < l.length := by omega
    obtain ⟨x, hx⟩ : ∃ x, l[i]? = some x := ⟨_, List.getElem?_eq_getElem h1⟩
    have h2 := flat_at (f := Rg.enc) (w := 2) (fun _ => rfl) hx
    have h4 := wnext h1 (by omega)
    have ih := L_ap1 hl m (i + 1) (by omega)
    have hr0 : apF l (m + 1) i = match rowF l x l.length 0 with | some j => some (i, j) | none => apF l m (i + 1) := by simp [apF, hx]
    rw [hr0]
    simp only [z2] at ih ⊢
    simp [-List.length_flatMap, -List.map_take, e_trial_apart_r0, e_trial_apart_r1, e_trial_apart_r2, e_trial_apart_r3, e_trial_apart_r4, e_trial_apart_r5, e_trial_apart_r6, e_trial_apart_r7, e_trial_apart_r8, e_trial_apart_r9, e_trial_apart_r11, e_trial_apart_r13, h1, h2]
    refine WL.to (L_ap2 (σ := σ) hl h1 (a := x) l.length 0 (by omega)) (by simp [z2]) rfl ?_
    rintro x' e σ' ⟨hs, hh⟩
    have hs := hs.symm
    subst hs
    cases hr : rowF l x l.length 0 with
    | none =>
      rw [hr] at hh
      obtain ⟨rfl, g0, g2, g3, g8, g9, g10⟩ := hh
      simp only [z2] at g2
      simp [-List.length_flatMap, -List.map_take, e_trial_apart_r11, g0, g2, g3, g8, g9, g10, h4]
      exact WL.to ih (by simp) rfl fun x e σ' hh => hh
    | some k =>
      rw [hr] at hh
      obtain ⟨rfl, g2, g3⟩ := hh
      simp [g2, g3, apQ1]
def apartD (o : Option (Nat × Nat)) : D := match o with
  | some p => .tup [.agg [.int .i64 ((p.1 : Int) - 1), .int .i64 ((p.2 : Int) - 1)], .bool true]
  | none => .tup [.agg z2, .bool false]
theorem C_apart {l : List Rg} (hl : l.length ≤ 100) : lim T (.call false i_trial_apart [.lst l.length (l.flatMap Rg.enc)] σ) = some (.val (apartD (apart l)) σ) := by
  refine call_of T_trial_apart e_trial_apart rfl ?_
  simp [-List.length_flatMap, -List.map_take, e_trial_apart_r0, e_trial_apart_r1, e_trial_apart_r2, e_trial_apart_r3, e_trial_apart_r4, e_trial_apart_r5, e_trial_apart_r6, e_trial_apart_r7, e_trial_apart_r8, e_trial_apart_r9, e_trial_apart_r11, e_trial_apart_r13]
  refine WL.to (L_ap1 (σ := [] :: σ) hl l.length 0 (by omega)) (by simp [z2]) rfl ?_
  rintro x e σ' ⟨rfl, rfl, hh⟩
  have e0 : apF l l.length 0 = apart l := rfl
  rw [e0] at hh
  cases ha : apart l with
  | none =>
    rw [ha] at hh
    obtain ⟨g2, g3⟩ := hh
    simp only [z2] at g2
    simp [-List.length_flatMap, -List.map_take, e_trial_apart_r0, e_trial_apart_r1, e_trial_apart_r2, e_trial_apart_r3, e_trial_apart_r4, e_trial_apart_r5, e_trial_apart_r6, e_trial_apart_r7, e_trial_apart_r8, e_trial_apart_r9, e_trial_apart_r11, e_trial_apart_r13, g2, g3, apartD, z2]
  | some p =>
    rw [ha] at hh
    obtain ⟨g2, g3⟩ := hh
    simp [-List.length_flatMap, -List.map_take, e_trial_apart_r0, e_trial_apart_r1, e_trial_apart_r2, e_trial_apart_r3, e_trial_apart_r4, e_trial_apart_r5, e_trial_apart_r6, e_trial_apart_r7, e_trial_apart_r8, e_trial_apart_r9, e_trial_apart_r11, e_trial_apart_r13, g2, g3, apartD]

/-! ### The reference's -/

def rmI (t : Test) (b c i : Int) : Rg := if i < 0 then t.a else ((t.st[i.toNat]?).map (rmS b c)).getD t.a
theorem C_RoomI {t : Test} (h : Tv t) {b c : Int} (hb : BC t b c) {i : Int} (hi : i < t.st.length) :
    lim T (.call false i_ref04_Room [.agg [.int .i64 t.a.lo, .int .i64 t.a.hi, .int .i64 t.b.lo, .int .i64 t.b.hi, .int .i64 t.c.lo, .int .i64 t.c.hi, .lst t.st.length (t.st.flatMap Step.enc)], .int .i64 i, .int .i64 b, .int .i64 c] σ) = some (.val (.agg (rmI t b c i).enc) σ) := by
  by_cases h0 : i < 0
  · have := @C_RoomA σ t b c i h0
    simpa [rmI, h0] using this
  · obtain ⟨k, rfl⟩ : ∃ k : Nat, i = k := ⟨i.toNat, by omega⟩
    have hk : k < t.st.length := by omega
    have := @C_Room σ t h b c hb k _ (List.getElem?_eq_getElem hk)
    have e : rmI t b c k = rmS b c t.st[k] := by
      unfold rmI
      rw [if_neg h0]
      simp [List.getElem?_eq_getElem hk]
    rw [e]
    exact this
def conf (t : Test) (b c : Int) (p : Int × Int) : Bool := inn p.1 (-1) (t.st.length - 1) && (inn p.2 (-1) (t.st.length - 1) && decide ((rmI t b c p.2).hi < (rmI t b c p.1).lo))
theorem C_Conflict {t : Test} (h : Tv t) {b c : Int} (hb : BC t b c) {i k : Int} :
    lim T (.call false i_ref04_Conflict [.agg [.int .i64 t.a.lo, .int .i64 t.a.hi, .int .i64 t.b.lo, .int .i64 t.b.hi, .int .i64 t.c.lo, .int .i64 t.c.hi, .lst t.st.length (t.st.flatMap Step.enc)], .int .i64 b, .int .i64 c, .agg [.int .i64 i, .int .i64 k]] σ) = some (.val (.bool (conf t b c (i, k))) σ) := by
  refine call_of T_ref04_Conflict e_ref04_Conflict rfl ?_
  have hn := h.n
  have w1 := w64 (n := (t.st.length : Int) - 1) (by omega)
  unfold conf
  dsimp only
  cases h1 : inn i (-1) (t.st.length - 1)
  · simp [-List.length_flatMap, -List.map_take, e_ref04_Conflict_r0, e_ref04_Conflict_r1, e_ref04_Conflict_r2, C_In, w1, h1]
  cases h2 : inn k (-1) (t.st.length - 1)
  · simp [-List.length_flatMap, -List.map_take, e_ref04_Conflict_r0, e_ref04_Conflict_r1, e_ref04_Conflict_r2, C_In, w1, h1, h2]
  have h1' := inn_iff.1 h1
  have h2' := inn_iff.1 h2
  have r1 := fun σ => @C_RoomI σ t h b c hb i (by omega)
  have r2 := fun σ => @C_RoomI σ t h b c hb k (by omega)
  simp [-List.length_flatMap, -List.map_take, e_ref04_Conflict_r0, e_ref04_Conflict_r1, e_ref04_Conflict_r2, C_In, w1, h1, h2, r1, r2]

theorem rooms_len {t : Test} {b c : Int} : (roomsOf t b c).length = t.st.length + 1 := by simp [roomsOf]
theorem rmI_at {t : Test} {b c : Int} {I : Nat} {a : Rg} (h : (roomsOf t b c)[I]? = some a) : rmI t b c ((I : Int) - 1) = a := by
  cases I with
  | zero => simp [roomsOf] at h; subst h; simp [rmI]
  | succ k =>
    simp only [roomsOf, List.getElem?_cons_succ, List.getElem?_map, Option.map_eq_some_iff] at h
    obtain ⟨s, hs, rfl⟩ := h
    have h0 : ¬ (((k + 1 : Nat) : Int) - 1 < 0) := by omega
    unfold rmI
    rw [if_neg h0, show (((k + 1 : Nat) : Int) - 1).toNat = k by omega, hs]
    rfl
theorem conf_at {t : Test} {b c : Int} {I J : Nat} {a x : Rg} (hI : (roomsOf t b c)[I]? = some a) (hJ : (roomsOf t b c)[J]? = some x) : conf t b c ((I : Int) - 1, (J : Int) - 1) = decide (x.hi < a.lo) := by
  have h1 := (List.getElem?_eq_some_iff.1 hI).1
  have h2 := (List.getElem?_eq_some_iff.1 hJ).1
  rw [rooms_len] at h1 h2
  have i1 : inn ((I : Int) - 1) (-1) (t.st.length - 1) = true := inn_iff.2 ⟨by omega, by omega⟩
  have i2 : inn ((J : Int) - 1) (-1) (t.st.length - 1) = true := inn_iff.2 ⟨by omega, by omega⟩
  simp only [conf, i1, i2, rmI_at hI, rmI_at hJ, Bool.true_and]
def fiQ2 (t : Test) (b c : Int) (I : Nat) (x : Abs.Exit) (e : Env) : Option Nat → Prop
  | some k => x = .ret ∧ get e 6 = .own 0 [.int .i64 ((I : Int) - 1), .int .i64 ((k : Int) - 1)]
  | none => x = .exit 2 ∧ get e 1 = .int .i64 b ∧ get e 2 = .int .i64 c ∧ get e 3 = .cref t.enc ∧ get e 6 = .own 0 z2 ∧ get e 7 = .int .i64 ((I : Int) - 1)
def fiQ1 (x : Abs.Exit) (e : Env) : Option (Nat × Nat) → Prop
  | some p => x = .ret ∧ get e 6 = .own 0 [.int .i64 ((p.1 : Int) - 1), .int .i64 ((p.2 : Int) - 1)]
  | none => x = .exit 0 ∧ get e 6 = .own 0 z2
theorem L_fi2 {t : Test} (h : Tv t) {b c : Int} (hb : BC t b c) {I : Nat} {a : Rg} (hI : (roomsOf t b c)[I]? = some a) : ∀ (m J : Nat), J + m = t.st.length + 1 →
    WL T [1, 2, 3, 6, 7, 8] false f_ref04_First_l8 [(1, .int .i64 b), (2, .int .i64 c), (3, .cref t.enc), (6, .own 0 z2), (7, .int .i64 ((I : Int) - 1)), (8, .int .i64 ((J : Int) - 1))] σ
      (fun x e σ' => σ' = σ ∧ fiQ2 t b c I x e (rowF (roomsOf t b c) a m J))
  | 0, J, hj => by
    refine WL_step e_ref04_First_l8 ?_
    have h1 : ¬ ((J : Int) - 1 < t.st.length) := by omega
    simp [-List.length_flatMap, -List.map_take, e_ref04_First_r0, e_ref04_First_r1, e_ref04_First_r2, e_ref04_First_r3, e_ref04_First_r4, e_ref04_First_r5, e_ref04_First_r6, e_ref04_First_r7, e_ref04_First_r9, e_ref04_First_r11, h1, rowF, fiQ2]
  | m + 1, J, hj => by
    refine WL_step e_ref04_First_l8 ?_
    have hn := h.n
    have h1 : ((J : Int) - 1 < t.st.length) := by omega
    obtain ⟨x, hx⟩ : ∃ x, (roomsOf t b c)[J]? = some x := ⟨_, List.getElem?_eq_getElem (by rw [rooms_len]; omega)⟩
    have ih := L_fi2 h hb hI m (J + 1) (by omega)
    have w1 := w64 (n := (J : Int)) (by omega)
    have hC := fun σ => @C_Conflict σ t h b c hb ((I : Int) - 1) ((J : Int) - 1)
    rw [conf_at hI hx] at hC
    have hr : rowF (roomsOf t b c) a (m + 1) J = if x.hi < a.lo then some J else rowF (roomsOf t b c) a m (J + 1) := by simp [rowF, hx]
    rw [hr]
    rw [show ((J + 1 : Nat) : Int) - 1 = (J : Int) by omega] at ih
    simp only [z2] at ih ⊢
    by_cases hc : x.hi < a.lo
    · rw [if_pos hc]
      simp [-List.length_flatMap, -List.map_take, e_ref04_First_r0, e_ref04_First_r1, e_ref04_First_r2, e_ref04_First_r3, e_ref04_First_r4, e_ref04_First_r5, e_ref04_First_r6, e_ref04_First_r7, e_ref04_First_r9, e_ref04_First_r11, h1, hC, hc, fiQ2]
    · rw [if_neg hc]
      simp [-List.length_flatMap, -List.map_take, e_ref04_First_r0, e_ref04_First_r1, e_ref04_First_r2, e_ref04_First_r3, e_ref04_First_r4, e_ref04_First_r5, e_ref04_First_r6, e_ref04_First_r7, e_ref04_First_r9, e_ref04_First_r11, h1, hC, hc, w1]
      refine WL.to ih (by simp) rfl ?_
      exact fun x e σ' hh => hh
theorem L_fi1 {t : Test} (h : Tv t) {b c : Int} (hb : BC t b c) : ∀ (m I : Nat), I + m = t.st.length + 1 →
    WL T [1, 2, 3, 6, 7] false f_ref04_First_l10 [(1, .int .i64 b), (2, .int .i64 c), (3, .cref t.enc), (6, .own 0 z2), (7, .int .i64 ((I : Int) - 1))] σ
      (fun x e σ' => σ' = σ ∧ fiQ1 x e (apF (roomsOf t b c) m I))
  | 0, I, hi => by
    refine WL_step e_ref04_First_l10 ?_
    have h1 : ¬ ((I : Int) - 1 < t.st.length) := by omega
    simp [-List.length_flatMap, -List.map_take, e_ref04_First_r0, e_ref04_First_r1, e_ref04_First_r2, e_ref04_First_r3, e_ref04_First_r4, e_ref04_First_r5, e_ref04_First_r6, e_ref04_First_r7, e_ref04_First_r9, e_ref04_First_r11, h1, apF, fiQ1]
  | m + 1, I, hi => by
    refine WL_step e_ref04_First_l10 ?_
    have hn := h.n
    have h1 : ((I : Int) - 1 < t.st.length) := by omega
    obtain ⟨x, hx⟩ : ∃ x, (roomsOf t b c)[I]? = some x := ⟨_, List.getElem?_eq_getElem (by rw [rooms_len]; omega)⟩
    have ih := L_fi1 h hb m (I + 1) (by omega)
    have w1 := w64 (n := (I : Int)) (by omega)
    rw [show ((I + 1 : Nat) : Int) - 1 = (I : Int) by omega] at ih
    have hr0 : apF (roomsOf t b c) (m + 1) I = match rowF (roomsOf t b c) x (t.st.length + 1) 0 with | some j => some (I, j) | none => apF (roomsOf t b c) m (I + 1) := by simp [apF, hx, rooms_len]
    rw [hr0]
    simp only [z2] at ih ⊢
    simp [-List.length_flatMap, -List.map_take, e_ref04_First_r0, e_ref04_First_r1, e_ref04_First_r2, e_ref04_First_r3, e_ref04_First_r4, e_ref04_First_r5, e_ref04_First_r6, e_ref04_First_r7, e_ref04_First_r9, e_ref04_First_r11, h1]
    refine WL.to (L_fi2 (σ := σ) h hb hx (t.st.length + 1) 0 (by omega)) (by simp [z2]) rfl ?_
    rintro x' e σ' ⟨hs, hh⟩
    have hs := hs.symm
    subst hs
    cases hr : rowF (roomsOf t b c) x (t.st.length + 1) 0 with
    | none =>
      rw [hr] at hh
      obtain ⟨rfl, g1, g2, g3, g6, g7⟩ := hh
      simp only [z2] at g6
      simp [-List.length_flatMap, -List.map_take, e_ref04_First_r9, g1, g2, g3, g6, g7, w1]
      exact WL.to ih (by simp) rfl fun x e σ' hh => hh
    | some k =>
      rw [hr] at hh
      obtain ⟨rfl, g6⟩ := hh
      simp [g6, fiQ1]
def prOf (o : Option (Nat × Nat)) : Int × Int := match o with
  | some p => ((p.1 : Int) - 1, (p.2 : Int) - 1)
  | none => (0, 0)
theorem C_First {t : Test} (h : Tv t) {b c : Int} (hb : BC t b c) : lim T (.call false i_ref04_First [.agg [.int .i64 t.a.lo, .int .i64 t.a.hi, .int .i64 t.b.lo, .int .i64 t.b.hi, .int .i64 t.c.lo, .int .i64 t.c.hi, .lst t.st.length (t.st.flatMap Step.enc)], .int .i64 b, .int .i64 c] σ) = some (.val (.agg (prE (prOf (apart (roomsOf t b c))))) σ) := by
  refine call_of T_ref04_First e_ref04_First rfl ?_
  simp [-List.length_flatMap, -List.map_take, e_ref04_First_r0, e_ref04_First_r1, e_ref04_First_r2, e_ref04_First_r3, e_ref04_First_r4, e_ref04_First_r5, e_ref04_First_r6, e_ref04_First_r7, e_ref04_First_r9, e_ref04_First_r11]
  refine WL.to (L_fi1 (σ := [] :: σ) h hb (t.st.length + 1) 0 (by omega)) (by simp [z2]) rfl ?_
  rintro x e σ' ⟨rfl, hh⟩
  have e0 : apF (roomsOf t b c) (t.st.length + 1) 0 = apart (roomsOf t b c) := by unfold apart; rw [rooms_len]
  rw [e0] at hh
  cases ha : apart (roomsOf t b c) with
  | none =>
    rw [ha] at hh
    obtain ⟨rfl, g6⟩ := hh
    simp only [z2] at g6
    simp [-List.length_flatMap, -List.map_take, e_ref04_First_r0, e_ref04_First_r1, e_ref04_First_r2, e_ref04_First_r3, e_ref04_First_r4, e_ref04_First_r5, e_ref04_First_r6, e_ref04_First_r7, e_ref04_First_r9, e_ref04_First_r11, g6, prOf]
  | some p =>
    rw [ha] at hh
    obtain ⟨rfl, g6⟩ := hh
    simp [-List.length_flatMap, -List.map_take, e_ref04_First_r0, e_ref04_First_r1, e_ref04_First_r2, e_ref04_First_r3, e_ref04_First_r4, e_ref04_First_r5, e_ref04_First_r6, e_ref04_First_r7, e_ref04_First_r9, e_ref04_First_r11, g6, prOf]
end Go.Proofs.Ytcjjdaifpboaaaa
