/-
  Rooms and sets of the reference; tests handed over; the program's rooms one after another.
-/
import Derived.Test.YtcjjdaifpboaaaaH1
set_option linter.unusedVariables false
set_option linter.unusedSimpArgs false
namespace Go.Proofs.Ytcjjdaifpboaaaa
open Go Go.Abs Go.Trial
variable {σ : Stack}

/-- B and C in their ranges. -/
structure BC (t : Test) (b c : Int) : Prop where
  b : t.b.lo ≤ b ∧ b ≤ t.b.hi
  c : t.c.lo ≤ c ∧ c ≤ t.c.hi
theorem BC.dr {t : Test} (h : Tv t) {b c : Int} (hb : BC t b c) {s : Step} (hs : s ∈ t.st) : Dr 0 b c s.q := by
  have h1 := h.b; have h2 := h.c; have h3 := h.s s hs; have h4 := hb.b; have h5 := hb.c
  exact ⟨h3.1, by omega, by omega, by omega⟩
theorem dr0 {b c q : Int} (h : Dr 0 b c q) : 0 ≤ Cv.drop ⟨0, b, c⟩ q ∧ Cv.drop ⟨0, b, c⟩ q ≤ 1010000000 := by
  obtain ⟨h1, h2, h3⟩ := h.bd
  simp only [Cv.drop]
  omega
theorem C_Room {t : Test} (h : Tv t) {b c : Int} (hb : BC t b c) {i : Nat} {s : Step} (hs : t.st[i]? = some s) :
    lim T (.call false i_ref04_Room [.agg [.int .i64 t.a.lo, .int .i64 t.a.hi, .int .i64 t.b.lo, .int .i64 t.b.hi, .int .i64 t.c.lo, .int .i64 t.c.hi, .lst t.st.length (t.st.flatMap Step.enc)], .int .i64 i, .int .i64 b, .int .i64 c] σ) = some (.val (.agg (rmS b c s).enc) σ) := by
  refine call_of T_ref04_Room e_ref04_Room rfl ?_
  have hm := List.mem_of_getElem? hs
  have hd := hb.dr h hm
  have h0 := dr0 hd
  have h1 := h.s s hm
  have h2 := flat_at (f := Step.enc) (w := 3) (fun _ => rfl) hs
  have h3 : i < t.st.length := (List.getElem?_eq_some_iff.1 hs).1
  have h4 : ¬ ((i : Int) < 0) := by omega
  have w1 := w64 (n := s.d.lo - Cv.drop ⟨0, b, c⟩ s.q) (by omega)
  have w2 := w64 (n := s.d.hi - Cv.drop ⟨0, b, c⟩ s.q) (by omega)
  have hD := fun σ => @C_Drop σ 0 b c s.q hd
  simp [-List.length_flatMap, -List.map_take, e_ref04_Room_r0, e_ref04_Room_r1, e_ref04_Room_r2, e_ref04_Room_r3, e_ref04_Room_r4, e_ref04_Room_r5, h2, h3, h4, hD, w1, w2, rmS, Rg.less]
theorem C_RoomA {t : Test} {b c : Int} {i : Int} (hi : i < 0) :
    lim T (.call false i_ref04_Room [.agg [.int .i64 t.a.lo, .int .i64 t.a.hi, .int .i64 t.b.lo, .int .i64 t.b.hi, .int .i64 t.c.lo, .int .i64 t.c.hi, .lst t.st.length (t.st.flatMap Step.enc)], .int .i64 i, .int .i64 b, .int .i64 c] σ) = some (.val (.agg t.a.enc) σ) := by
  refine call_of T_ref04_Room e_ref04_Room rfl ?_
  simp [-List.length_flatMap, -List.map_take, e_ref04_Room_r0, e_ref04_Room_r1, e_ref04_Room_r2, e_ref04_Room_r3, e_ref04_Room_r4, e_ref04_Room_r5, hi]

theorem L_Set {t : Test} (h : Tv t) {b c : Int} (hb : BC t b c) : ∀ (m i : Nat) (r : Rg), i + m = t.st.length →
    WL T [1, 2, 3, 6, 7, 8] false f_ref04_Set_l7 [(1, .int .i64 b), (2, .int .i64 c), (3, .cref t.enc), (6, .own 0 [.int .i64 0, .int .i64 0]), (7, .own 0 r.enc), (8, .int .i64 i)] σ
      (fun x e σ' => σ' = σ ∧ x = .exit 0 ∧ get e 6 = .own 0 [.int .i64 0, .int .i64 0] ∧ get e 7 = .own 0 (((t.st.drop i).map (rmS b c)).foldl meet r).enc)
  | 0, i, r, hi => by
    refine WL_step e_ref04_Set_l7 ?_
    have h1 : ¬ i < t.st.length := by omega
    have h2 : t.st.drop i = [] := List.drop_eq_nil_of_le (by omega)
    simp [-List.length_flatMap, -List.map_take, e_ref04_Set_r0, e_ref04_Set_r1, e_ref04_Set_r2, e_ref04_Set_r3, e_ref04_Set_r4, e_ref04_Set_r5, e_ref04_Set_r6, e_ref04_Set_r8, h1, h2]
  | m + 1, i, r, hi => by
    refine WL_step e_ref04_Set_l7 ?_
    have h1 : i < t.st.length := by omega
    obtain ⟨x, hx⟩ : ∃ x, t.st[i]? = some x := ⟨_, List.getElem?_eq_getElem h1⟩
    have hn := h.n
    have h4 := wnext h1 (by omega)
    have h5 : t.st.drop i = x :: t.st.drop (i + 1) := by
      rw [List.drop_eq_getElem_cons h1]
      rw [List.getElem?_eq_getElem h1] at hx; cases hx; rfl
    have ih := L_Set h hb m (i + 1) (meet r (rmS b c x)) (by omega)
    have hd := fun σ => @C_Room σ t h b c hb i x hx
    simp [-List.length_flatMap, -List.map_take, e_ref04_Set_r0, e_ref04_Set_r1, e_ref04_Set_r2, e_ref04_Set_r3, e_ref04_Set_r4, e_ref04_Set_r5, e_ref04_Set_r6, e_ref04_Set_r8, h1, h4, hd]
    refine WL.to ih (by simp [meet]) rfl ?_
    rintro x' e σ' ⟨rfl, rfl, g1, g2⟩
    rw [h5]
    simp [g1, g2]
theorem C_Set {t : Test} (h : Tv t) {b c : Int} (hb : BC t b c) : lim T (.call false i_ref04_Set [.agg [.int .i64 t.a.lo, .int .i64 t.a.hi, .int .i64 t.b.lo, .int .i64 t.b.hi, .int .i64 t.c.lo, .int .i64 t.c.hi, .lst t.st.length (t.st.flatMap Step.enc)], .int .i64 b, .int .i64 c] σ) = some (.val (.agg (setOf t b c).enc) σ) := by
  refine call_of T_ref04_Set e_ref04_Set rfl ?_
  simp [-List.length_flatMap, -List.map_take, e_ref04_Set_r0, e_ref04_Set_r1, e_ref04_Set_r2, e_ref04_Set_r3, e_ref04_Set_r4, e_ref04_Set_r5, e_ref04_Set_r6, e_ref04_Set_r8]
  refine WL.to (L_Set (σ := [] :: σ) h hb t.st.length 0 t.a (by omega)) (by simp) rfl ?_
  rintro x' e σ' ⟨rfl, rfl, g1, g2⟩
  simp [-List.length_flatMap, -List.map_take, e_ref04_Set_r0, e_ref04_Set_r1, e_ref04_Set_r2, e_ref04_Set_r3, e_ref04_Set_r4, e_ref04_Set_r5, e_ref04_Set_r6, e_ref04_Set_r8, g1, g2, setOf]

/-! ### The program's rooms -/

def cvA (p : Int × Int) : List D := [.int .i64 0, .int .i64 p.1, .int .i64 p.2]
def rmA (t : Test) (p : Int × Int) : List D := [.agg (cvA p), .lst (roomsOf t p.1 p.2).length ((roomsOf t p.1 p.2).flatMap Rg.enc)]

theorem C_room1 {t : Test} (h : Tv t) {b c : Int} (hb : BC t b c) {s : Step} (hs : s ∈ t.st) {bs : List Blk} :
    lim T (.call false i_trial_Test_rooms_1_1 [.agg s.enc, .ref σ.length 0 0 0] ((.cells 0 [.int .i64 0, .int .i64 b, .int .i64 c] :: bs) :: σ)) = some (.val (.agg (rmS b c s).enc) ((.cells 0 [.int .i64 0, .int .i64 b, .int .i64 c] :: bs) :: σ)) := by
  refine call_of T_trial_Test_rooms_1_1 e_trial_Test_rooms_1_1 rfl ?_
  have hd := hb.dr h hs
  have h0 := dr0 hd
  have h1 := h.s s hs
  have hD := fun σ => @C_drop σ 0 b c s.q hd
  have hL := fun σ => @C_less σ s.d.lo s.d.hi (Cv.drop ⟨0, b, c⟩ s.q) (by omega) (by omega) (by omega)
  simp [-List.length_flatMap, -List.map_take, e_trial_Test_rooms_1_1_r0, e_trial_Test_rooms_1_1_r1, hD, hL, rmS, Rg.less]

theorem L_rooms {t : Test} (h : Tv t) {b c : Int} (hb : BC t b c) {yl yi : Nat} : ∀ (m i : Nat), i + m = t.st.length →
    WL T [0, 1, 3, 4, 5, 6, 7, 38, 39, 40] false f_trial_Test_rooms_1_l12 [(0, .yld yl yi), (1, .cref t.enc), (3, .int .i64 b), (4, .int .i64 c), (5, .ref σ.length 0 0 0), (6, .fn i_trial_Test_rooms_1_1 [] [.ref σ.length 0 0 0]), (7, .sl σ.length 1 i 0 (i + 1) 2), (38, .lst t.st.length (t.st.flatMap Step.enc)), (39, .int .i64 t.st.length), (40, .int .i64 i)]
      ([.cells 0 (cvA (b, c)), .cells i ((t.a :: (t.st.take i).map (rmS b c)).flatMap Rg.enc)] :: σ)
      (fun x e σ' => σ' = [.cells 0 (cvA (b, c)), .cells t.st.length ((roomsOf t b c).flatMap Rg.enc)] :: σ ∧ x = .exit 4 ∧ get e 0 = .yld yl yi ∧ get e 1 = .cref t.enc ∧ get e 3 = .int .i64 b ∧ get e 4 = .int .i64 c ∧ get e 5 = .ref σ.length 0 0 0 ∧ get e 7 = .sl σ.length 1 t.st.length 0 (t.st.length + 1) 2)
  | 0, i, hi => by
    refine WL_step e_trial_Test_rooms_1_l12 ?_
    have h1 : ¬ i < t.st.length := by omega
    have h2 : i = t.st.length := by omega
    subst h2
    simp [-List.length_flatMap, -List.map_take, e_trial_Test_rooms_1_r0, e_trial_Test_rooms_1_r1, e_trial_Test_rooms_1_r2, e_trial_Test_rooms_1_r3, e_trial_Test_rooms_1_r4, e_trial_Test_rooms_1_r5, e_trial_Test_rooms_1_r6, e_trial_Test_rooms_1_r7, e_trial_Test_rooms_1_r8, e_trial_Test_rooms_1_r9, e_trial_Test_rooms_1_r10, e_trial_Test_rooms_1_r11, e_trial_Test_rooms_1_r13, e_trial_Test_rooms_1_r14, e_trial_Test_rooms_1_r16, roomsOf]
  | m + 1, i, hi => by
    refine WL_step e_trial_Test_rooms_1_l12 ?_
    have h1 : i < t.st.length := by omega
    obtain ⟨x, hx⟩ : ∃ x, t.st[i]? = some x := ⟨_, List.getElem?_eq_getElem h1⟩
    have hn := h.n
    have h2 := flat_at (f := Step.enc) (w := 3) (fun _ => rfl) hx
    have h4 := wnext h1 (by omega)
    have h5 : t.st.take (i + 1) = t.st.take i ++ [x] := by
      rw [List.take_add_one, hx]; rfl
    have ih := L_rooms h hb (yl := yl) (yi := yi) m (i + 1) (by omega)
    have hd := fun bs => @C_room1 σ t h b c hb x (List.mem_of_getElem? hx) bs
    have hs := k_self (f := Rg.enc) (w := 2) (fun _ => rfl) (t.a :: (t.st.take i).map (rmS b c))
    have hlen : (t.a :: (t.st.take i).map (rmS b c)).length = i + 1 := by simp; omega
    rw [hlen] at hs
    have w1 : (i + 1 + 1) * 16 ≤ room := by unfold room; omega
    have w2 := flat_len (f := Rg.enc) (w := 2) (fun _ => rfl) (t.a :: (t.st.take i).map (rmS b c))
    rw [hlen] at w2
    rw [h5] at ih
    have e1 : (t.a :: ((t.st.take i ++ [x]).map (rmS b c))).flatMap Rg.enc = (t.a :: (t.st.take i).map (rmS b c)).flatMap Rg.enc ++ (rmS b c x).enc := by simp
    rw [e1] at ih
    generalize (t.a :: (t.st.take i).map (rmS b c)).flatMap Rg.enc = F at *
    simp only [cvA] at ih ⊢
    simp only [Step.enc] at hd
    simp [-List.length_flatMap, -List.map_take, e_trial_Test_rooms_1_r0, e_trial_Test_rooms_1_r1, e_trial_Test_rooms_1_r2, e_trial_Test_rooms_1_r3, e_trial_Test_rooms_1_r4, e_trial_Test_rooms_1_r5, e_trial_Test_rooms_1_r6, e_trial_Test_rooms_1_r7, e_trial_Test_rooms_1_r8, e_trial_Test_rooms_1_r9, e_trial_Test_rooms_1_r10, e_trial_Test_rooms_1_r11, e_trial_Test_rooms_1_r13, e_trial_Test_rooms_1_r14, e_trial_Test_rooms_1_r16, h1, h2, h4, hd, hs, w1, w2]
    refine WL.to ih (by simp) (by simp) ?_
    exact fun x' e σ' hh => hh

def cRow (t : Test) (b c : Int) : List (Int × Int) := (upto c t.c.hi).map fun c => (b, c)
def bRows (t : Test) (b : Int) : List (Int × Int) := (upto b t.b.hi).flatMap fun b => cRow t b t.c.lo
theorem cRow_nil {t : Test} {b c : Int} (h : t.c.hi < c) : cRow t b c = [] := by simp [cRow, upto_nil h]
theorem cRow_cons {t : Test} {b c : Int} (h : c ≤ t.c.hi) : cRow t b c = (b, c) :: cRow t b (c + 1) := by simp [cRow, upto_cons h]
theorem bRows_nil {t : Test} {b : Int} (h : t.b.hi < b) : bRows t b = [] := by simp [bRows, upto_nil h]
theorem bRows_cons {t : Test} {b : Int} (h : b ≤ t.b.hi) : bRows t b = cRow t b t.c.lo ++ bRows t (b + 1) := by simp [bRows, upto_cons h]
theorem bRows_all {t : Test} : bRows t t.b.lo = pairs t := rfl

/-- Rounds of a loop, one for each element, each with segments of its own ahead of the store, up to one that stops. -/
inductive Rnds (T : Tbl) (n l i : Nat) {α : Type} (f : α → List D) (pre : α → Stack) : List α → Stack → Bool → Stack → Prop
  | nil (σ : Stack) : σ.length = n → Rnds T n l i f pre [] σ true σ
  | go (a : α) (xs : List α) (σ σ1 σ2 : Stack) (b : Bool) : σ.length = n → lim T (.round l i (f a) (pre a ++ σ)) = some (.val (.bool true) (pre a ++ σ1)) → Rnds T n l i f pre xs σ1 b σ2 → Rnds T n l i f pre (a :: xs) σ b σ2
  | stop (a : α) (xs : List α) (σ σ1 : Stack) : σ.length = n → σ1.length = n → lim T (.round l i (f a) (pre a ++ σ)) = some (.val (.bool false) (pre a ++ σ1)) → Rnds T n l i f pre (a :: xs) σ false σ1
theorem Rnds.len {T : Tbl} {n l i : Nat} {α : Type} {f : α → List D} {pre : α → Stack} {xs : List α} {σ σ' : Stack} {b : Bool} (h : Rnds T n l i f pre xs σ b σ') : σ.length = n ∧ σ'.length = n := by
  induction h with
  | nil σ h => exact ⟨h, h⟩
  | go _ _ _ _ _ _ h _ _ ih => exact ⟨h, ih.2⟩
  | stop _ _ _ _ h h' _ => exact ⟨h, h'⟩
theorem Rnds.split {T : Tbl} {n l i : Nat} {α : Type} {f : α → List D} {pre : α → Stack} : ∀ {xs bs : List α} {σ σ' : Stack} {b : Bool}, Rnds T n l i f pre (xs ++ bs) σ b σ' →
    (∃ σ1, Rnds T n l i f pre xs σ true σ1 ∧ Rnds T n l i f pre bs σ1 b σ') ∨ (b = false ∧ Rnds T n l i f pre xs σ false σ')
  | [], bs, σ, σ', b, h => .inl ⟨σ, .nil σ h.len.1, h⟩
  | a :: xs, bs, σ, σ', b, h => by
    cases h with
    | go _ _ _ σ1 _ _ hl h1 h2 =>
      rcases Rnds.split h2 with ⟨σ3, h3, h4⟩ | ⟨rfl, h3⟩
      · exact .inl ⟨σ3, .go _ _ _ _ _ _ hl h1 h3, h4⟩
      · exact .inr ⟨rfl, .go _ _ _ _ _ _ hl h1 h3⟩
    | stop _ _ _ _ hl hl' h1 => exact .inr ⟨rfl, .stop _ _ _ _ hl hl' h1⟩
@[simp] theorem frz_yld_low {l n l' i : Nat} {σ : Stack} (h : l' ≤ l) (hn : 0 < n) : frz l n (.yld l' i) σ = (.yld l' i, σ) := by
  cases n with
  | zero => omega
  | succ n => simp [frz, D.clean, h]

def rmP (p : Int × Int) : Stack := [[.cells 0 (cvA p), .dead], [], []]
theorem st_clean {t : Test} : D.cleanL (t.st.flatMap Step.enc) = true := k_clean (fun x => by simp) _
theorem L_c {t : Test} (h : Tv t) {n l i : Nat} {b : Int} (hl : l < n) (hb : t.b.lo ≤ b ∧ b ≤ t.b.hi) : ∀ (m : Nat) (c : Int) (S S' : Stack) (fl : Bool), t.c.lo ≤ c → (cRow t b c).length = m → Rnds T n l i (rmA t) rmP (cRow t b c) S fl S' →
    WL T [0, 1, 3, 4] true f_trial_Test_rooms_1_l15 [(0, .yld l i), (1, .cref t.enc), (3, .int .i64 b), (4, .int .i64 c)] ([] :: [] :: S)
      (fun x' e σ' => σ' = [] :: [] :: S' ∧ if fl then x' = .exit 2 ∧ get e 0 = .yld l i ∧ get e 1 = .cref t.enc ∧ get e 3 = .int .i64 b else x' = .ret ∧ ∃ c' : Int, e = [(0, .yld l i), (1, .cref t.enc), (3, .int .i64 b), (4, .int .i64 c'), (55, .bool true)])
  | 0, c, S, S', fl, hc0, hm, hr => by
    refine WL_stepS e_trial_Test_rooms_1_l15 ?_
    have hn := hr.len
    by_cases hc : c ≤ t.c.hi
    · rw [cRow_cons hc] at hm; cases hm
    · rw [cRow_nil (by omega)] at hr
      cases hr
      have hl' : l ≤ S.length + 1 := by omega
      simp [-List.length_flatMap, -List.map_take, e_trial_Test_rooms_1_r0, e_trial_Test_rooms_1_r1, e_trial_Test_rooms_1_r2, e_trial_Test_rooms_1_r3, e_trial_Test_rooms_1_r4, e_trial_Test_rooms_1_r5, e_trial_Test_rooms_1_r6, e_trial_Test_rooms_1_r7, e_trial_Test_rooms_1_r8, e_trial_Test_rooms_1_r9, e_trial_Test_rooms_1_r10, e_trial_Test_rooms_1_r11, e_trial_Test_rooms_1_r13, e_trial_Test_rooms_1_r14, e_trial_Test_rooms_1_r16, hc, hl', st_clean]
  | m + 1, c, S, S', fl, hc0, hm, hr => by
    refine WL_stepS e_trial_Test_rooms_1_l15 ?_
    have hn := hr.len
    by_cases hc : c ≤ t.c.hi
    · rw [cRow_cons hc] at hm hr
      simp only [List.length_cons, Nat.add_right_cancel_iff] at hm
      have hl' : l ≤ S.length + 1 := by omega
      have hB : BC t b c := ⟨hb, by omega, hc⟩
      have hC := h.c
      have w1 := w64 (n := c + 1) (by omega)
      simp [-List.length_flatMap, -List.map_take, e_trial_Test_rooms_1_r0, e_trial_Test_rooms_1_r1, e_trial_Test_rooms_1_r2, e_trial_Test_rooms_1_r3, e_trial_Test_rooms_1_r4, e_trial_Test_rooms_1_r5, e_trial_Test_rooms_1_r6, e_trial_Test_rooms_1_r7, e_trial_Test_rooms_1_r8, e_trial_Test_rooms_1_r9, e_trial_Test_rooms_1_r10, e_trial_Test_rooms_1_r11, e_trial_Test_rooms_1_r13, e_trial_Test_rooms_1_r14, e_trial_Test_rooms_1_r16, hc]
      refine WL.to (L_rooms (σ := [] :: [] :: S) h hB (yl := l) (yi := i) t.st.length 0 (by omega)) (by simp) (by simp [cvA]) ?_
      rintro x' e σ' ⟨rfl, rfl, g0, g1, g2, g3, g4, g5⟩
      have hf := k_frz (f := Rg.enc) (w := 2) (fun _ => rfl) (fun x => by simp) (l := roomsOf t b c) (j := 1) (v := t.st.length) (bs := [.cells 0 (cvA (b, c)), .cells t.st.length ((roomsOf t b c).flatMap Rg.enc)]) (σ := [] :: [] :: S) (by simp) rfl
      have hlr : (roomsOf t b c).length = t.st.length + 1 := by simp [roomsOf]
      rw [hlr] at hf
      simp only [cvA] at hf
      simp at hf g4 g5
      have hn1 : S.length = n := hn.1
      cases hr with
      | go _ _ _ S1 _ _ hl1 hg hr =>
        subst hl1
        have ih := L_c h hl hb m (c + 1) S1 S' fl (by omega) hm hr
        have hl2 : l ≤ S1.length + 1 := by have := hr.len.1; omega
        have hl3 := hr.len.1
        simp only [rmA, rmP, cvA, hlr, List.cons_append, List.nil_append] at hg
        simp [-List.length_flatMap, -List.map_take, cvA, g0, g1, g2, g3, g4, g5, hf, hg, w1, e_trial_Test_rooms_1_r13, e_trial_Test_rooms_1_r14, hl3, hl', st_clean]
        exact WL.to ih (by simp) (by simp) fun x e σ' hh => hh
      | stop _ _ _ _ hl1 hl2 hg =>
        subst hl1
        simp only [rmA, rmP, cvA, hlr, List.cons_append, List.nil_append] at hg
        simp [-List.length_flatMap, -List.map_take, cvA, g0, g1, g2, g3, g4, g5, hf, hg, w1, e_trial_Test_rooms_1_r13, e_trial_Test_rooms_1_r14, hl2, hl', st_clean]
    · rw [cRow_nil (by omega)] at hm; cases hm

theorem L_b {t : Test} (h : Tv t) {n l i : Nat} (hl : l < n) : ∀ (m : Nat) (b : Int) (S S' : Stack) (fl : Bool), t.b.lo ≤ b → (upto b t.b.hi).length = m → Rnds T n l i (rmA t) rmP (bRows t b) S fl S' →
    WL T [0, 1, 3] true f_trial_Test_rooms_1_l17 [(0, .yld l i), (1, .cref t.enc), (3, .int .i64 b)] ([] :: S)
      (fun x' e σ' => σ' = [] :: S' ∧ if fl then x' = .exit 0 else x' = .ret)
  | 0, b, S, S', fl, hb0, hm, hr => by
    refine WL_stepS e_trial_Test_rooms_1_l17 ?_
    have hn := hr.len
    by_cases hc : b ≤ t.b.hi
    · rw [upto_cons hc] at hm; cases hm
    · rw [bRows_nil (by omega)] at hr
      cases hr
      have hl' : l ≤ S.length := by omega
      simp [-List.length_flatMap, -List.map_take, e_trial_Test_rooms_1_r0, e_trial_Test_rooms_1_r1, e_trial_Test_rooms_1_r2, e_trial_Test_rooms_1_r3, e_trial_Test_rooms_1_r4, e_trial_Test_rooms_1_r5, e_trial_Test_rooms_1_r6, e_trial_Test_rooms_1_r7, e_trial_Test_rooms_1_r8, e_trial_Test_rooms_1_r9, e_trial_Test_rooms_1_r10, e_trial_Test_rooms_1_r11, e_trial_Test_rooms_1_r13, e_trial_Test_rooms_1_r14, e_trial_Test_rooms_1_r16, hc, hl', st_clean]
  | m + 1, b, S, S', fl, hb0, hm, hr => by
    refine WL_stepS e_trial_Test_rooms_1_l17 ?_
    have hn := hr.len
    by_cases hc : b ≤ t.b.hi
    · rw [upto_cons hc] at hm
      rw [bRows_cons hc] at hr
      simp only [List.length_cons, Nat.add_right_cancel_iff] at hm
      have hB := h.b
      have w1 := w64 (n := b + 1) (by omega)
      simp [-List.length_flatMap, -List.map_take, e_trial_Test_rooms_1_r0, e_trial_Test_rooms_1_r1, e_trial_Test_rooms_1_r2, e_trial_Test_rooms_1_r3, e_trial_Test_rooms_1_r4, e_trial_Test_rooms_1_r5, e_trial_Test_rooms_1_r6, e_trial_Test_rooms_1_r7, e_trial_Test_rooms_1_r8, e_trial_Test_rooms_1_r9, e_trial_Test_rooms_1_r10, e_trial_Test_rooms_1_r11, e_trial_Test_rooms_1_r13, e_trial_Test_rooms_1_r14, e_trial_Test_rooms_1_r16, hc]
      rcases hr.split with ⟨S1, hr1, hr2⟩ | ⟨rfl, hr1⟩
      · refine WL.to (L_c h hl ⟨hb0, hc⟩ _ t.c.lo _ _ _ (by omega) rfl hr1) (by simp) (by simp) ?_
        rintro x' e σ' ⟨rfl, g0, g1, g2, g3⟩
        subst g0
        have ih := L_b h hl m (b + 1) S1 S' fl (by omega) hm hr2
        have hl2 : l ≤ S1.length := by have := hr2.len.1; omega
        have hl3 : S1.length = S.length := by rw [hr2.len.1, hn.1]
        have hl4 : l ≤ S.length := by omega
        simp [-List.length_flatMap, -List.map_take, g1, g2, g3, w1, e_trial_Test_rooms_1_r16, hl3, hl4, st_clean]
        exact WL.to ih (by simp) (by simp) fun x e σ' hh => hh
      · refine WL.to (L_c h hl ⟨hb0, hc⟩ _ t.c.lo _ _ _ (by omega) rfl hr1) (by simp) (by simp) ?_
        rintro x' e σ' ⟨rfl, g0⟩
        simp only [Bool.false_eq_true, if_false] at g0
        obtain ⟨rfl, c', rfl⟩ := g0
        have hl4 : l ≤ S.length := by omega
        have hl3 : S'.length = S.length := by rw [hr1.len.2, hr1.len.1]
        simp [hl3, hl4, st_clean]
    · rw [upto_nil (by omega)] at hm; cases hm

/-- The program's rooms, one after another. -/
theorem C_rooms1 {t : Test} (h : Tv t) {l i : Nat} {S S' : Stack} {fl : Bool} (hl : l < S.length) (hr : Rnds T S.length l i (rmA t) rmP (pairs t) S fl S') :
    lim T (.call false i_trial_Test_rooms_1 [.yld l i, .cref t.enc] S) = some (.val (.tup []) S') := by
  have hn := hr.len
  refine call_to T_trial_Test_rooms_1 e_trial_Test_rooms_1 rfl hn.2 ?_
  simp [-List.length_flatMap, -List.map_take, e_trial_Test_rooms_1_r0, e_trial_Test_rooms_1_r1, e_trial_Test_rooms_1_r2, e_trial_Test_rooms_1_r3, e_trial_Test_rooms_1_r4, e_trial_Test_rooms_1_r5, e_trial_Test_rooms_1_r6, e_trial_Test_rooms_1_r7, e_trial_Test_rooms_1_r8, e_trial_Test_rooms_1_r9, e_trial_Test_rooms_1_r10, e_trial_Test_rooms_1_r11, e_trial_Test_rooms_1_r13, e_trial_Test_rooms_1_r14, e_trial_Test_rooms_1_r16]
  refine WL.to (L_b h hl _ t.b.lo S S' fl (by omega) rfl hr) (by simp) (by simp) ?_
  rintro x e σ' ⟨rfl, g⟩
  cases fl
  · simp only [Bool.false_eq_true, if_false] at g
    subst g
    simp
  · simp only [if_true] at g
    subst g
    simp
end Go.Proofs.Ytcjjdaifpboaaaa
