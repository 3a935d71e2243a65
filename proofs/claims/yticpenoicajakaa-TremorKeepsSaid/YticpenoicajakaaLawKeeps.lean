/-
  The law TremorKeeps answers true.
-/
import Derived.Test.YticpenoicajakaaLawEither
import Derived.Test.YticpenoicajakaaBase2
set_option linter.unusedVariables false
set_option linter.unusedSimpArgs false
namespace Go.Trem
open Go Go.Abs

def wordOf (l : List Int) (k : Int) : Int := if l.length = 0 then 0 else l.getD (k.tmod l.length).toNat 0
theorem word_bound {l : List Int} (h : ∀ x ∈ l, 0 ≤ x ∧ x ≤ 65535) {k : Int} (hk : 0 ≤ k) : 0 ≤ wordOf l k ∧ wordOf l k ≤ 65535 := by
  unfold wordOf
  split
  · omega
  · rename_i h0
    have h00 : 0 < (l.length : Int) := Int.natCast_pos.2 (Nat.pos_of_ne_zero h0)
    have h1 : k.tmod l.length < l.length := Int.tmod_lt_of_pos _ h00
    have h2 : 0 ≤ k.tmod l.length := Int.tmod_nonneg _ hk
    have h3 : (k.tmod l.length).toNat < l.length := by omega
    have : l.getD (k.tmod l.length).toNat 0 = l[(k.tmod l.length).toNat] := by simp [List.getD, h3]
    rw [this]
    exact h _ (List.getElem_mem _)
theorem tmod_in {a b : Int} (h : 0 ≤ a) (hb : 0 < b) : 0 ≤ a.tmod b ∧ a.tmod b < b := ⟨Int.tmod_nonneg _ h, Int.tmod_lt_of_pos _ hb⟩

/-- A pick that a tremor at a place may have made. -/
structure Made (n : Net) (q : Pt) (o : Int) (p : Pick) : Prop where
  st : Trem.inn p.st 0 (n.st.length - 1) = true
  ph0 : 0 ≤ p.ph
  ph : p.ph < 2
  t : p.t.lo ≤ p.t.hi
  lo : -100000000 ≤ p.t.lo
  hi : p.t.hi ≤ 100000000
  in1 : (span n p q).lo ≤ o
  in2 : o ≤ (span n p q).hi

theorem made_ok {n : Net} {q : Pt} {o : Int} {P : List Pick} (hn : n.ok = true) (h : ∀ p ∈ P, Made n q o p) (h1 : 1 ≤ P.length) (h2 : P.length ≤ 8) : wrong n P = 0 := by
  have h3 : allB P (Pick.ok n) = true := allB_iff.2 fun p hp => by
    obtain ⟨a1, a2, a3, a4, a5, a6, _, _⟩ := h p hp
    simp only [Pick.ok, Rg.inn, Bool.and_eq_true, decide_eq_true_eq]
    exact ⟨a1, a3, a5, a4, a6⟩
  unfold wrong
  rw [if_pos hn, if_neg (by omega), if_neg]
  rw [h3]
  simp
  intro h; rw [h] at h1; simp at h1

theorem located_pts {n : Net} {P : List Pick} : (located n P).map (·.p) = (lattice n).filter fun p => (origin n P p).ne := by
  unfold located
  generalize lattice n = l
  induction l with
  | nil => rfl
  | cons p l ih =>
    cases h : (origin n P p).ne <;> simp [List.filterMap_cons, h, ih]
theorem located_mem {n : Net} {P : List Pick} {x : Plc} (h : x ∈ located n P) : x.p ∈ lattice n ∧ x.o = origin n P x.p ∧ (origin n P x.p).ne = true := by
  unfold located at h
  simp only [List.mem_filterMap] at h
  obtain ⟨p, hp, h⟩ := h
  split at h
  · rename_i hn
    cases h
    exact ⟨hp, rfl, hn⟩
  · cases h
theorem filter_sub {α : Type} {f g : α → Bool} (h : ∀ x, f x = true → g x = true) : ∀ l : List α, (l.filter f).Sublist (l.filter g)
  | [] => .slnil
  | x :: l => by
    have ih := filter_sub h l
    cases hf : f x
    · cases hg : g x
      · simpa [List.filter_cons, hf, hg] using ih
      · simp only [List.filter_cons, hf, hg, Bool.false_eq_true, if_false, if_true]
        exact ih.cons _
    · simp only [List.filter_cons, hf, h x hf, if_true]
      exact ih.cons_cons _
theorem sub_skip {α : Type} {a b : α} {r s : List α} (hne : b ≠ a) (h : (a :: r).Sublist (b :: s)) : (a :: r).Sublist s := by
  cases h with
  | cons _ h => exact h
  | cons_cons _ h => exact absurd rfl hne
def eqP (p q : Pt) : Bool := p.x == q.x && (p.y == q.y && (p.z == q.z && true))
theorem eqP_iff {p q : Pt} : eqP p q = true ↔ p = q := by
  cases p; cases q
  simp [eqP]
theorem k_takes {α : Type} {f : α → List D} {w : Nat} (hw : ∀ x, (f x).length = w) : ∀ (l : List α) (k : Nat), (l.flatMap f).take (k * w) = (l.take k).flatMap f
  | [], k => by simp
  | a :: l, 0 => by simp
  | a :: l, k + 1 => by
    have h1 := hw a
    have ih := k_takes hw l k
    simp only [List.flatMap_cons, List.take_succ_cons]
    rw [← ih, show (k + 1) * w = w + k * w by rw [Nat.succ_mul]; omega, ← h1, List.take_length_add_append]
end Go.Trem
namespace Go.Proofs.Yticpenoicajakaa
open Go Go.Abs Go.Trem
variable {σ : Stack}

theorem made_origin {n : Net} {q : Pt} {o : Int} {P : List Pick} (h : ∀ p ∈ P, Made n q o p) (h1 : 1 ≤ P.length) : (origin n P q).lo ≤ o ∧ o ≤ (origin n P q).hi := by
  obtain ⟨x, hx, hx1⟩ := origin_lo (n := n) (l := P) (p := q) h1
  obtain ⟨y, hy, hy1⟩ := origin_hi (n := n) (l := P) (p := q) h1
  simp only [List.mem_map] at hx hy
  obtain ⟨a, ha, rfl⟩ := hx
  obtain ⟨b, hb, rfl⟩ := hy
  have e1 := beq_iff_eq.1 hx1
  have e2 := beq_iff_eq.1 hy1
  have := (h a ha).in1
  have := (h b hb).in2
  omega

theorem origin_wide {n : Net} {P : List Pick} {q : Pt} {k : Nat} (hk : 1 ≤ k) (h1 : 1 ≤ P.length) : (origin n (P.take k) q).lo ≤ (origin n P q).lo ∧ (origin n P q).hi ≤ (origin n (P.take k) q).hi := by
  obtain ⟨x, hx, hx1⟩ := origin_lo (n := n) (l := P.take k) (p := q) (by simp; omega)
  obtain ⟨y, hy, hy1⟩ := origin_hi (n := n) (l := P.take k) (p := q) (by simp; omega)
  simp only [List.mem_map] at hx hy
  obtain ⟨a, ha, rfl⟩ := hx
  obtain ⟨b, hb, rfl⟩ := hy
  have e1 := beq_iff_eq.1 hx1
  have e2 := beq_iff_eq.1 hy1
  have h4 := origin_all (n := n) (p := q) (List.mem_of_mem_take ha)
  have h5 := origin_all (n := n) (p := q) (List.mem_of_mem_take hb)
  omega

theorem located_sub {n : Net} {P : List Pick} {k : Nat} (hk : 1 ≤ k) (h1 : 1 ≤ P.length) : ((located n P).map (·.p)).Sublist ((located n (P.take k)).map (·.p)) := by
  rw [located_pts, located_pts]
  refine filter_sub (fun q hq => ?_) _
  have := origin_wide (n := n) (q := q) hk h1
  simp only [Rg.ne, decide_eq_true_eq] at hq ⊢
  omega


theorem C_word {l : List Int} (hl : l.length ≤ 9223372036854775807) (h : ∀ x ∈ l, 0 ≤ x ∧ x ≤ 65535) {k : Int} (hk : 0 ≤ k) :
    lim T (.call false i_law09_word [.lst l.length (l.flatMap u16E), .int .i64 k] σ) = some (.val (.int .i64 (wordOf l k)) σ) := by
  refine call_of T_law09_word e_law09_word rfl ?_
  by_cases h0 : l.length = 0
  · have : l = [] := List.eq_nil_of_length_eq_zero h0
    subst this
    simp [-List.length_flatMap, -List.map_take, e_law09_word_r0, e_law09_word_r1, e_law09_word_r2, e_law09_word_r3, wordOf]
  have hne : l ≠ [] := by intro h; simp [h] at h0
  obtain ⟨h1, h2⟩ := tmod_in hk (show 0 < (l.length : Int) by omega)
  have h0' : (l.length : Int) ≠ 0 := by omega
  have h3 : (k.tmod l.length).toNat < l.length := by omega
  obtain ⟨x, hx⟩ : ∃ x, l[(k.tmod l.length).toNat]? = some x := ⟨_, List.getElem?_eq_getElem h3⟩
  have a1 := flat_at (f := u16E) (w := 1) (fun _ => rfl) hx
  have hb := h x (List.mem_of_getElem? hx)
  have w1 := w64 (n := x) (by omega)
  have hv : wordOf l k = x := by simp [wordOf, h0, List.getD, hx, hne]
  rw [hv]
  simp only [Nat.mul_one] at a1
  simp [-List.length_flatMap, -List.map_take, e_law09_word_r0, e_law09_word_r1, e_law09_word_r2, e_law09_word_r3, h0, h0', hne, h1, h2, h3, a1, w1]

theorem L_keeps {n : Net} (hn : n.ok = true) {q : Pt} (hq : q.ok = true) {o : Int} (ho : -1000000 ≤ o ∧ o ≤ 1000000) {l : List Int} (hl : l.length ≤ 9223372036854775807) (hw : ∀ x ∈ l, 0 ≤ x ∧ x ≤ 65535) {many : Int} {N : Nat} (hm : 0 ≤ many ∧ many ≤ 255) (hN : 1 + many.tmod 8 = N) (hN8 : N ≤ 8) : ∀ (m i : Nat) (acc : List Pick), i + m = N → acc.length = i → (∀ p ∈ acc, Made n q o p) →
    WL T [2, 3, 4, 5, 12, 13, 14] false f_law09_TremorKeeps_l15 [(2, .int .i64 o), (3, .int .u8 many), (4, .lst l.length (l.flatMap u16E)), (5, .cref n.enc), (12, .own 0 q.enc), (13, .sl σ.length 0 i 0 i 4), (14, .int .i64 i)] ([.cells i (acc.flatMap Pick.enc)] :: σ)
      (fun x e σ' => x = .exit 0 ∧ ∃ P : List Pick, P.length = N ∧ (∀ p ∈ P, Made n q o p) ∧ σ' = [.cells N (P.flatMap Pick.enc)] :: σ ∧ get e 2 = .int .i64 o ∧ get e 5 = .cref n.enc ∧ get e 12 = .own 0 q.enc ∧ get e 13 = .sl σ.length 0 N 0 N 4)
  | 0, i, acc, hi, ha, hp => by
    refine WL_step e_law09_TremorKeeps_l15 ?_
    have w1 := w64 (n := many) (by omega)
    have w2 := w64 (n := (N : Int)) (by omega)
    have : i = N := by omega
    subst this
    simp [-List.length_flatMap, -List.map_take, e_law09_TremorKeeps_r0, e_law09_TremorKeeps_r1, e_law09_TremorKeeps_r2, e_law09_TremorKeeps_r3, e_law09_TremorKeeps_r4, e_law09_TremorKeeps_r5, e_law09_TremorKeeps_r6, e_law09_TremorKeeps_r7, e_law09_TremorKeeps_r8, e_law09_TremorKeeps_r9, e_law09_TremorKeeps_r10, e_law09_TremorKeeps_r11, e_law09_TremorKeeps_r12, e_law09_TremorKeeps_r13, e_law09_TremorKeeps_r14, e_law09_TremorKeeps_r16, e_law09_TremorKeeps_r17, e_law09_TremorKeeps_r18, e_law09_TremorKeeps_r19, e_law09_TremorKeeps_r20, e_law09_TremorKeeps_r21, e_law09_TremorKeeps_r22, e_law09_TremorKeeps_r23, e_law09_TremorKeeps_r25, e_law09_TremorKeeps_r26, e_law09_TremorKeeps_r27, e_law09_TremorKeeps_r28, e_law09_TremorKeeps_r29, e_law09_TremorKeeps_r30, e_law09_TremorKeeps_r31, e_law09_TremorKeeps_r32, e_law09_TremorKeeps_r34, e_law09_TremorKeeps_r35, e_law09_TremorKeeps_r36, e_law09_TremorKeeps_r38, w1, w2, hN]
    exact ⟨acc, ha, hp, by simp⟩
  | m + 1, i, acc, hi, ha, hp => by
    refine WL_step e_law09_TremorKeeps_l15 ?_
    have w1 := w64 (n := many) (by omega)
    have w2 := w64 (n := (N : Int)) (by omega)
    have g1 : i < N := by omega
    have hns : 1 ≤ (n.st.length : Int) ∧ (n.st.length : Int) ≤ 12 := by have := hn; simp [Net.ok, Net.pre] at this; have := this.1.1; rw [inn_iff] at this; omega
    have c5 := w64 (n := 5 * (i : Int)) (by omega)
    have c51 := w64 (n := 5 * (i : Int) + 1) (by omega)
    have c52 := w64 (n := 5 * (i : Int) + 2) (by omega)
    have c53 := w64 (n := 5 * (i : Int) + 3) (by omega)
    have c54 := w64 (n := 5 * (i : Int) + 4) (by omega)
    have ci := w64 (n := (i : Int) + 1) (by omega)
    have hW := fun σ k hk => @C_word σ l hl hw k hk
    have p0 : 0 ≤ 5 * (i : Int) := by omega
    have p1 : 0 ≤ 5 * (i : Int) + 1 := by omega
    have p2 : 0 ≤ 5 * (i : Int) + 2 := by omega
    have p3 : 0 ≤ 5 * (i : Int) + 3 := by omega
    have p4 : 0 ≤ 5 * (i : Int) + 4 := by omega
    have b0 := word_bound hw p0
    have b1 := word_bound hw p1
    have b2 := word_bound hw p2
    have b3 := word_bound hw p3
    have b4 := word_bound hw p4
    have hW0 := fun σ => hW σ _ p0
    have hW1 := fun σ => hW σ _ p1
    have hW2 := fun σ => hW σ _ p2
    have hW3 := fun σ => hW σ _ p3
    have hW4 := fun σ => hW σ _ p4
    generalize wordOf l (5 * (i : Int)) = v0 at *
    generalize wordOf l (5 * (i : Int) + 1) = v1 at *
    generalize wordOf l (5 * (i : Int) + 2) = v2 at *
    generalize wordOf l (5 * (i : Int) + 3) = v3 at *
    generalize wordOf l (5 * (i : Int) + 4) = v4 at *
    obtain ⟨st, hst⟩ : ∃ st, v0.tmod n.st.length = st := ⟨_, rfl⟩
    have bst := tmod_in (a := v0) (b := (n.st.length : Int)) (by omega) (by omega)
    rw [hst] at bst
    obtain ⟨ph, hph⟩ : ∃ ph, v1.tmod 2 = ph := ⟨_, rfl⟩
    have bph := tmod_in (a := v1) (b := 2) (by omega) (by omega)
    rw [hph] at bph
    have hin : Trem.inn st 0 (n.st.length - 1) = true := by rw [inn_iff]; omega
    have hf := net_fine hn (i := st) (ph := ph) hin (by omega) (by omega)
    have hcell := hf.cells
    have hfp := hf.p
    have hfe := hf.e
    have hfs := hf.s
    obtain ⟨ds, hds⟩ : ∃ d, dist (n.stn st).p q = d := ⟨_, rfl⟩
    have bd := dist_spec hfp hq
    rw [hds] at bd
    have hF := fun σ => @C_Far σ (n.stn st).p.x (n.stn st).p.y (n.stn st).p.z q.x q.y q.z hfp hq
    simp only [Pt.eta, hds] at hF
    obtain ⟨dv, hdv⟩ : ∃ d, v3.tmod 65 = d := ⟨_, rfl⟩
    have bdv := tmod_in (a := v3) (b := 65) (by omega) (by omega)
    rw [hdv] at bdv
    obtain ⟨sv, hsv⟩ : ∃ s, v2.tmod ((n.slow ph).hi - (n.slow ph).lo + 1) = s := ⟨_, rfl⟩
    have bsv := tmod_in (a := v2) (b := (n.slow ph).hi - (n.slow ph).lo + 1) (by omega) (by omega)
    rw [hsv] at bsv
    obtain ⟨cv, hcv⟩ : ∃ c, v4.tmod (2 * (n.stn st).err + 1) = c := ⟨_, rfl⟩
    have bcv := tmod_in (a := v4) (b := 2 * (n.stn st).err + 1) (by omega) (by omega)
    rw [hcv] at bcv
    have e1 := w64 (n := (n.slow ph).hi - (n.slow ph).lo) (by omega)
    have e2 := w64 (n := (n.slow ph).hi - (n.slow ph).lo + 1) (by omega)
    have e3 := w64 (n := (n.slow ph).lo + sv) (by omega)
    have e4 := w64 (n := 64 * ds) (by omega)
    have e5 := w64 (n := 64 * ds + dv) (by omega)
    have e6 := w64 (n := 2 * (n.stn st).err) (by omega)
    have e7 := w64 (n := 2 * (n.stn st).err + 1) (by omega)
    have e8 := w64 (n := cv - (n.stn st).err) (by omega)
    obtain ⟨s, hs⟩ : ∃ s, (n.slow ph).lo + sv = s := ⟨_, rfl⟩
    obtain ⟨d, hd⟩ : ∃ d, 64 * ds + dv = d := ⟨_, rfl⟩
    obtain ⟨c, hc⟩ : ∃ c, cv - (n.stn st).err = c := ⟨_, rfl⟩
    rw [hs] at e3
    rw [hd] at e5
    rw [hc] at e8
    have m1 : s * d ≤ 2000 * 4480064 := Int.mul_le_mul (by omega) (by omega) (by omega) (by omega)
    have m2 : 0 ≤ s * d := Int.mul_nonneg (by omega) (by omega)
    have e9 := w64 (n := s * d) (by omega)
    have t1 : (s * d).tdiv 64000 = s * d / 64000 := Int.tdiv_eq_ediv_of_nonneg m2
    have t2 : (s * d + 63999).tdiv 64000 = (s * d + 63999) / 64000 := Int.tdiv_eq_ediv_of_nonneg (by omega)
    have e10 := w64 (n := s * d / 64000) (by omega)
    have e11 := w64 (n := s * d + 63999) (by omega)
    have e12 := w64 (n := (s * d + 63999) / 64000) (by omega)
    have e13 := w64 (n := o + c) (by omega)
    have e14 := w64 (n := o + c + s * d / 64000) (by omega)
    have e15 := w64 (n := o + c + (s * d + 63999) / 64000) (by omega)
    have eu := wu8 (n := ph) (by omega)
    -- the pick
    let p : Pick := ⟨st, ph, ⟨o + c + s * d / 64000, o + c + (s * d + 63999) / 64000⟩⟩
    have hmade : Made n q o p := by
      have hx1 : (n.slow ph).lo * ds ≤ s * ds := Int.mul_le_mul_of_nonneg_right (by omega) (by omega)
      have hx2 : s * (64 * ds) ≤ s * d := Int.mul_le_mul_of_nonneg_left (by omega) (by omega)
      have hx3 : s * d ≤ s * (64 * (ds + 1)) := Int.mul_le_mul_of_nonneg_left (by omega) (by omega)
      have hx4 : s * (ds + 1) ≤ (n.slow ph).hi * (ds + 1) := Int.mul_le_mul_of_nonneg_right (by omega) (by omega)
      have hx5 : s * (64 * ds) = 64 * (s * ds) := by rw [Int.mul_left_comm]
      have hx6 : s * (64 * (ds + 1)) = 64 * (s * (ds + 1)) := by rw [Int.mul_left_comm]
      have hsp : span n p q = ⟨p.t.lo - (n.stn st).err - ((n.slow ph).hi * (ds + 1) + 999) / 1000, p.t.hi + (n.stn st).err - (n.slow ph).lo * ds / 1000⟩ := by
        simp only [span, travel, p, hds]
      refine ⟨hin, bph.1, bph.2, ?_, ?_, ?_, ?_, ?_⟩
      · simp only [p]; omega
      · simp only [p]; omega
      · simp only [p]; omega
      · rw [hsp]; simp only [p]; omega
      · rw [hsp]; simp only [p]; omega
    have ih := L_keeps hn hq ho hl hw hm hN hN8 m (i + 1) (acc ++ [p]) (by omega) (by simp [ha]) (fun x hx => by
      rcases List.mem_append.1 hx with hx | hx
      · exact hp x hx
      · simp at hx; subst hx; exact hmade)
    have a3 := k_self (f := Pick.enc) (w := 4) (fun _ => rfl) acc
    have a4 := flat_len (f := Pick.enc) (w := 4) (fun _ => rfl) acc
    rw [ha] at a3 a4
    have r1 : (i + 1) * 32 ≤ room := by unfold room; omega
    have z1 : ((n.st.length : Int)) ≠ 0 := by omega
    have z2 : (n.slow ph).hi - (n.slow ph).lo + 1 ≠ 0 := by omega
    have z3 : 2 * (n.stn st).err + 1 ≠ 0 := by omega
    have z4 : n.st ≠ [] := by intro h; simp [h] at hns
    simp only [Stn.enc] at hcell
    rcases hf.hph with h0 | h0 <;> subst h0 <;> simp only [Net.slow, if_true, show ¬ (1 : Int) = 0 by decide, if_false] at e1 e2 e3 hs hsv z2 <;>
      simp [-List.length_flatMap, -List.map_take, e_law09_TremorKeeps_r0, e_law09_TremorKeeps_r1, e_law09_TremorKeeps_r2, e_law09_TremorKeeps_r3, e_law09_TremorKeeps_r4, e_law09_TremorKeeps_r5, e_law09_TremorKeeps_r6, e_law09_TremorKeeps_r7, e_law09_TremorKeeps_r8, e_law09_TremorKeeps_r9, e_law09_TremorKeeps_r10, e_law09_TremorKeeps_r11, e_law09_TremorKeeps_r12, e_law09_TremorKeeps_r13, e_law09_TremorKeeps_r14, e_law09_TremorKeeps_r16, e_law09_TremorKeeps_r17, e_law09_TremorKeeps_r18, e_law09_TremorKeeps_r19, e_law09_TremorKeeps_r20, e_law09_TremorKeeps_r21, e_law09_TremorKeeps_r22, e_law09_TremorKeeps_r23, e_law09_TremorKeeps_r25, e_law09_TremorKeeps_r26, e_law09_TremorKeeps_r27, e_law09_TremorKeeps_r28, e_law09_TremorKeeps_r29, e_law09_TremorKeeps_r30, e_law09_TremorKeeps_r31, e_law09_TremorKeeps_r32, e_law09_TremorKeeps_r34, e_law09_TremorKeeps_r35, e_law09_TremorKeeps_r36, e_law09_TremorKeeps_r38, w1, w2, hN, g1, c5, c51, c52, c53, c54, ci, hW0, hW1, hW2, hW3, hW4, z1, z4, hst, hph, e1, e2, z2, hsv, hs, e3, bst, hcell, hF, e4, hdv, hd, e5, e6, e7, z3, hcv, hc, e8, e9, t1, e10, e11, t2, e12, e13, e14, e15, eu, a3, a4, r1] <;>
      exact (WL.to ih (by simp) (by simp [p]) fun x e σ' hh => hh)

def hit (q : Pt) (o : Int) (x : Plc) : Bool := eqP x.p q && (decide (x.o.lo ≤ o) && decide (o ≤ x.o.hi))

theorem L_found {n : Net} {P : List Pick} {q : Pt} {o : Int} {A : List Plc} (hA : A.length ≤ 100000) : ∀ (m i : Nat) (b : Bool), i + m = A.length →
    WL T [2, 5, 12, 13, 21, 23, 24] false f_law09_TremorKeeps_l24 [(2, .int .i64 o), (5, .cref n.enc), (12, .own 0 q.enc), (13, .lst P.length (P.flatMap Pick.enc)), (21, .lst A.length (A.flatMap Plc.enc)), (23, .bool b), (24, .int .i64 i)] σ
      (fun x e σ' => x = .exit 2 ∧ σ' = σ ∧ get e 2 = .int .i64 o ∧ get e 5 = .cref n.enc ∧ get e 12 = .own 0 q.enc ∧ get e 13 = .lst P.length (P.flatMap Pick.enc) ∧ get e 21 = .lst A.length (A.flatMap Plc.enc) ∧ get e 23 = .bool (b || anyB (A.drop i) (hit q o)))
  | 0, i, b, hi => by
    refine WL_step e_law09_TremorKeeps_l24 ?_
    have h1 : ¬ i < A.length := by omega
    have h2 : A.drop i = [] := by simp; omega
    simp [-List.length_flatMap, -List.map_take, e_law09_TremorKeeps_r0, e_law09_TremorKeeps_r1, e_law09_TremorKeeps_r2, e_law09_TremorKeeps_r3, e_law09_TremorKeeps_r4, e_law09_TremorKeeps_r5, e_law09_TremorKeeps_r6, e_law09_TremorKeeps_r7, e_law09_TremorKeeps_r8, e_law09_TremorKeeps_r9, e_law09_TremorKeeps_r10, e_law09_TremorKeeps_r11, e_law09_TremorKeeps_r12, e_law09_TremorKeeps_r13, e_law09_TremorKeeps_r14, e_law09_TremorKeeps_r16, e_law09_TremorKeeps_r17, e_law09_TremorKeeps_r18, e_law09_TremorKeeps_r19, e_law09_TremorKeeps_r20, e_law09_TremorKeeps_r21, e_law09_TremorKeeps_r22, e_law09_TremorKeeps_r23, e_law09_TremorKeeps_r25, e_law09_TremorKeeps_r26, e_law09_TremorKeeps_r27, e_law09_TremorKeeps_r28, e_law09_TremorKeeps_r29, e_law09_TremorKeeps_r30, e_law09_TremorKeeps_r31, e_law09_TremorKeeps_r32, e_law09_TremorKeeps_r34, e_law09_TremorKeeps_r35, e_law09_TremorKeeps_r36, e_law09_TremorKeeps_r38, h1, h2, anyB]
  | m + 1, i, b, hi => by
    refine WL_step e_law09_TremorKeeps_l24 ?_
    have g1 : i < A.length := by omega
    obtain ⟨x, hx⟩ : ∃ x, A[i]? = some x := ⟨_, List.getElem?_eq_getElem g1⟩
    have a1 := flat_at (f := Plc.enc) (w := 5) (fun _ => rfl) hx
    simp only [Plc.enc] at a1
    have w1 := wnext g1 (by omega)
    have hd : anyB (A.drop i) (hit q o) = (hit q o x || anyB (A.drop (i + 1)) (hit q o)) := by rw [drop_at hx]; rfl
    rw [hd, ← Bool.or_assoc]
    have ih := L_found (n := n) (P := P) (q := q) (o := o) hA m (i + 1) (b || hit q o x) (by omega)
    have he : eqP x.p q = (x.p.x == q.x && (x.p.y == q.y && (x.p.z == q.z && true))) := rfl
    cases hb : b
    · rw [hb] at ih
      simp only [Bool.false_or] at ih ⊢
      cases c1 : eqP x.p q
      · have c2 : hit q o x = false := by simp [hit, c1]
        rw [c2] at ih ⊢
        have hn3 : ¬ (x.p.x = q.x ∧ x.p.y = q.y ∧ x.p.z = q.z) := by
          intro h
          rw [he, h.1, h.2.1, h.2.2] at c1
          simp at c1
        simp [-List.length_flatMap, -List.map_take, e_law09_TremorKeeps_r0, e_law09_TremorKeeps_r1, e_law09_TremorKeeps_r2, e_law09_TremorKeeps_r3, e_law09_TremorKeeps_r4, e_law09_TremorKeeps_r5, e_law09_TremorKeeps_r6, e_law09_TremorKeeps_r7, e_law09_TremorKeeps_r8, e_law09_TremorKeeps_r9, e_law09_TremorKeeps_r10, e_law09_TremorKeeps_r11, e_law09_TremorKeeps_r12, e_law09_TremorKeeps_r13, e_law09_TremorKeeps_r14, e_law09_TremorKeeps_r16, e_law09_TremorKeeps_r17, e_law09_TremorKeeps_r18, e_law09_TremorKeeps_r19, e_law09_TremorKeeps_r20, e_law09_TremorKeeps_r21, e_law09_TremorKeeps_r22, e_law09_TremorKeeps_r23, e_law09_TremorKeeps_r25, e_law09_TremorKeeps_r26, e_law09_TremorKeeps_r27, e_law09_TremorKeeps_r28, e_law09_TremorKeeps_r29, e_law09_TremorKeeps_r30, e_law09_TremorKeeps_r31, e_law09_TremorKeeps_r32, e_law09_TremorKeeps_r34, e_law09_TremorKeeps_r35, e_law09_TremorKeeps_r36, e_law09_TremorKeeps_r38, g1, a1, w1, C_Point, hn3]
        exact WL.to ih (by simp) rfl fun x e σ' hh => hh
      · have hp3 := eqP_iff.1 c1
        have hp4 : x.p.x = q.x := by rw [hp3]
        have hp5 : x.p.y = q.y := by rw [hp3]
        have hp6 : x.p.z = q.z := by rw [hp3]
        by_cases c3 : x.o.lo ≤ o
        · by_cases c4 : o ≤ x.o.hi
          · have c2 : hit q o x = true := by simp [hit, c1, c3, c4]
            rw [c2] at ih ⊢
            simp [-List.length_flatMap, -List.map_take, e_law09_TremorKeeps_r0, e_law09_TremorKeeps_r1, e_law09_TremorKeeps_r2, e_law09_TremorKeeps_r3, e_law09_TremorKeeps_r4, e_law09_TremorKeeps_r5, e_law09_TremorKeeps_r6, e_law09_TremorKeeps_r7, e_law09_TremorKeeps_r8, e_law09_TremorKeeps_r9, e_law09_TremorKeeps_r10, e_law09_TremorKeeps_r11, e_law09_TremorKeeps_r12, e_law09_TremorKeeps_r13, e_law09_TremorKeeps_r14, e_law09_TremorKeeps_r16, e_law09_TremorKeeps_r17, e_law09_TremorKeeps_r18, e_law09_TremorKeeps_r19, e_law09_TremorKeeps_r20, e_law09_TremorKeeps_r21, e_law09_TremorKeeps_r22, e_law09_TremorKeeps_r23, e_law09_TremorKeeps_r25, e_law09_TremorKeeps_r26, e_law09_TremorKeeps_r27, e_law09_TremorKeeps_r28, e_law09_TremorKeeps_r29, e_law09_TremorKeeps_r30, e_law09_TremorKeeps_r31, e_law09_TremorKeeps_r32, e_law09_TremorKeeps_r34, e_law09_TremorKeeps_r35, e_law09_TremorKeeps_r36, e_law09_TremorKeeps_r38, g1, a1, w1, C_Point, hp4, hp5, hp6, c3, c4]
            exact WL.to ih (by simp) rfl fun x e σ' hh => hh
          · have c2 : hit q o x = false := by simp [hit, c1, c3, c4]
            rw [c2] at ih ⊢
            simp [-List.length_flatMap, -List.map_take, e_law09_TremorKeeps_r0, e_law09_TremorKeeps_r1, e_law09_TremorKeeps_r2, e_law09_TremorKeeps_r3, e_law09_TremorKeeps_r4, e_law09_TremorKeeps_r5, e_law09_TremorKeeps_r6, e_law09_TremorKeeps_r7, e_law09_TremorKeeps_r8, e_law09_TremorKeeps_r9, e_law09_TremorKeeps_r10, e_law09_TremorKeeps_r11, e_law09_TremorKeeps_r12, e_law09_TremorKeeps_r13, e_law09_TremorKeeps_r14, e_law09_TremorKeeps_r16, e_law09_TremorKeeps_r17, e_law09_TremorKeeps_r18, e_law09_TremorKeeps_r19, e_law09_TremorKeeps_r20, e_law09_TremorKeeps_r21, e_law09_TremorKeeps_r22, e_law09_TremorKeeps_r23, e_law09_TremorKeeps_r25, e_law09_TremorKeeps_r26, e_law09_TremorKeeps_r27, e_law09_TremorKeeps_r28, e_law09_TremorKeeps_r29, e_law09_TremorKeeps_r30, e_law09_TremorKeeps_r31, e_law09_TremorKeeps_r32, e_law09_TremorKeeps_r34, e_law09_TremorKeeps_r35, e_law09_TremorKeeps_r36, e_law09_TremorKeeps_r38, g1, a1, w1, C_Point, hp4, hp5, hp6, c3, c4]
            exact WL.to ih (by simp) rfl fun x e σ' hh => hh
        · have c2 : hit q o x = false := by simp [hit, c1, c3]
          rw [c2] at ih ⊢
          simp [-List.length_flatMap, -List.map_take, e_law09_TremorKeeps_r0, e_law09_TremorKeeps_r1, e_law09_TremorKeeps_r2, e_law09_TremorKeeps_r3, e_law09_TremorKeeps_r4, e_law09_TremorKeeps_r5, e_law09_TremorKeeps_r6, e_law09_TremorKeeps_r7, e_law09_TremorKeeps_r8, e_law09_TremorKeeps_r9, e_law09_TremorKeeps_r10, e_law09_TremorKeeps_r11, e_law09_TremorKeeps_r12, e_law09_TremorKeeps_r13, e_law09_TremorKeeps_r14, e_law09_TremorKeeps_r16, e_law09_TremorKeeps_r17, e_law09_TremorKeeps_r18, e_law09_TremorKeeps_r19, e_law09_TremorKeeps_r20, e_law09_TremorKeeps_r21, e_law09_TremorKeeps_r22, e_law09_TremorKeeps_r23, e_law09_TremorKeeps_r25, e_law09_TremorKeeps_r26, e_law09_TremorKeeps_r27, e_law09_TremorKeeps_r28, e_law09_TremorKeeps_r29, e_law09_TremorKeeps_r30, e_law09_TremorKeeps_r31, e_law09_TremorKeeps_r32, e_law09_TremorKeeps_r34, e_law09_TremorKeeps_r35, e_law09_TremorKeeps_r36, e_law09_TremorKeeps_r38, g1, a1, w1, C_Point, hp4, hp5, hp6, c3]
          exact WL.to ih (by simp) rfl fun x e σ' hh => hh
    · rw [hb] at ih
      simp only [Bool.true_or] at ih ⊢
      simp [-List.length_flatMap, -List.map_take, e_law09_TremorKeeps_r0, e_law09_TremorKeeps_r1, e_law09_TremorKeeps_r2, e_law09_TremorKeeps_r3, e_law09_TremorKeeps_r4, e_law09_TremorKeeps_r5, e_law09_TremorKeeps_r6, e_law09_TremorKeeps_r7, e_law09_TremorKeeps_r8, e_law09_TremorKeeps_r9, e_law09_TremorKeeps_r10, e_law09_TremorKeeps_r11, e_law09_TremorKeeps_r12, e_law09_TremorKeeps_r13, e_law09_TremorKeeps_r14, e_law09_TremorKeeps_r16, e_law09_TremorKeeps_r17, e_law09_TremorKeeps_r18, e_law09_TremorKeeps_r19, e_law09_TremorKeeps_r20, e_law09_TremorKeeps_r21, e_law09_TremorKeeps_r22, e_law09_TremorKeeps_r23, e_law09_TremorKeeps_r25, e_law09_TremorKeeps_r26, e_law09_TremorKeeps_r27, e_law09_TremorKeeps_r28, e_law09_TremorKeeps_r29, e_law09_TremorKeeps_r30, e_law09_TremorKeeps_r31, e_law09_TremorKeeps_r32, e_law09_TremorKeeps_r34, e_law09_TremorKeeps_r35, e_law09_TremorKeeps_r36, e_law09_TremorKeeps_r38, g1, a1, w1]
      exact WL.to ih (by simp) rfl fun x e σ' hh => hh

theorem L_skip {A B : List Plc} (hA : A.length ≤ 100000) (hB : B.length ≤ 100000) {i : Nat} {x : Plc} (hx : A[i]? = some x) {r : List Pt} : ∀ (m k : Nat), k + m = B.length → (x.p :: r).Sublist ((B.drop k).map (·.p)) →
    WL T [21, 25, 27, 28] false f_law09_TremorKeeps_l33 [(21, .lst A.length (A.flatMap Plc.enc)), (25, .lst B.length (B.flatMap Plc.enc)), (27, .int .i64 k), (28, .int .i64 i)] σ
      (fun x' e σ' => x' = .exit 6 ∧ σ' = σ ∧ get e 21 = .lst A.length (A.flatMap Plc.enc) ∧ get e 25 = .lst B.length (B.flatMap Plc.enc) ∧ get e 28 = .int .i64 i ∧ ∃ (k' : Nat) (y : Plc), get e 27 = .int .i64 k' ∧ B[k']? = some y ∧ y.p = x.p ∧ (x.p :: r).Sublist ((B.drop k').map (·.p)))
  | 0, k, hk, hs => by
    have : B.drop k = [] := by simp; omega
    rw [this] at hs
    simp at hs
  | m + 1, k, hk, hs => by
    refine WL_step e_law09_TremorKeeps_l33 ?_
    have g1 : k < B.length := by omega
    have g2 : i < A.length := (List.getElem?_eq_some_iff.1 hx).1
    obtain ⟨y, hy⟩ : ∃ x, B[k]? = some x := ⟨_, List.getElem?_eq_getElem g1⟩
    have a1 := flat_at (f := Plc.enc) (w := 5) (fun _ => rfl) hx
    have a2 := flat_at (f := Plc.enc) (w := 5) (fun _ => rfl) hy
    simp only [Plc.enc] at a1 a2
    have w1 := wnext g1 (by omega)
    have he : eqP y.p x.p = (y.p.x == x.p.x && (y.p.y == x.p.y && (y.p.z == x.p.z && true))) := rfl
    cases c1 : eqP y.p x.p
    · have hs' : (x.p :: r).Sublist ((B.drop (k + 1)).map (·.p)) := by
        rw [drop_at hy, List.map_cons] at hs
        exact sub_skip (fun h => by rw [h, eqP_iff.2 rfl] at c1; cases c1) hs
      have ih := L_skip hA hB hx m (k + 1) (by omega) hs'
      have hn3 : ¬ y.p.x = x.p.x ∨ ¬ y.p.y = x.p.y ∨ ¬ y.p.z = x.p.z := by
        rcases Decidable.em (y.p.x = x.p.x) with h1 | h1
        · rcases Decidable.em (y.p.y = x.p.y) with h2 | h2
          · rcases Decidable.em (y.p.z = x.p.z) with h3 | h3
            · rw [he, h1, h2, h3] at c1; simp at c1
            · exact .inr (.inr h3)
          · exact .inr (.inl h2)
        · exact .inl h1
      simp [-List.length_flatMap, -List.map_take, e_law09_TremorKeeps_r0, e_law09_TremorKeeps_r1, e_law09_TremorKeeps_r2, e_law09_TremorKeeps_r3, e_law09_TremorKeeps_r4, e_law09_TremorKeeps_r5, e_law09_TremorKeeps_r6, e_law09_TremorKeeps_r7, e_law09_TremorKeeps_r8, e_law09_TremorKeeps_r9, e_law09_TremorKeeps_r10, e_law09_TremorKeeps_r11, e_law09_TremorKeeps_r12, e_law09_TremorKeeps_r13, e_law09_TremorKeeps_r14, e_law09_TremorKeeps_r16, e_law09_TremorKeeps_r17, e_law09_TremorKeeps_r18, e_law09_TremorKeeps_r19, e_law09_TremorKeeps_r20, e_law09_TremorKeeps_r21, e_law09_TremorKeeps_r22, e_law09_TremorKeeps_r23, e_law09_TremorKeeps_r25, e_law09_TremorKeeps_r26, e_law09_TremorKeeps_r27, e_law09_TremorKeeps_r28, e_law09_TremorKeeps_r29, e_law09_TremorKeeps_r30, e_law09_TremorKeeps_r31, e_law09_TremorKeeps_r32, e_law09_TremorKeeps_r34, e_law09_TremorKeeps_r35, e_law09_TremorKeeps_r36, e_law09_TremorKeeps_r38, g1, g2, a1, a2, w1, hn3]
      exact WL.to ih (by simp) rfl fun x e σ' hh => hh
    · have hp3 := eqP_iff.1 c1
      have hp4 : y.p.x = x.p.x := by rw [hp3]
      have hp5 : y.p.y = x.p.y := by rw [hp3]
      have hp6 : y.p.z = x.p.z := by rw [hp3]
      simp [-List.length_flatMap, -List.map_take, e_law09_TremorKeeps_r0, e_law09_TremorKeeps_r1, e_law09_TremorKeeps_r2, e_law09_TremorKeeps_r3, e_law09_TremorKeeps_r4, e_law09_TremorKeeps_r5, e_law09_TremorKeeps_r6, e_law09_TremorKeeps_r7, e_law09_TremorKeeps_r8, e_law09_TremorKeeps_r9, e_law09_TremorKeeps_r10, e_law09_TremorKeeps_r11, e_law09_TremorKeeps_r12, e_law09_TremorKeeps_r13, e_law09_TremorKeeps_r14, e_law09_TremorKeeps_r16, e_law09_TremorKeeps_r17, e_law09_TremorKeeps_r18, e_law09_TremorKeeps_r19, e_law09_TremorKeeps_r20, e_law09_TremorKeeps_r21, e_law09_TremorKeeps_r22, e_law09_TremorKeeps_r23, e_law09_TremorKeeps_r25, e_law09_TremorKeeps_r26, e_law09_TremorKeeps_r27, e_law09_TremorKeeps_r28, e_law09_TremorKeeps_r29, e_law09_TremorKeeps_r30, e_law09_TremorKeeps_r31, e_law09_TremorKeeps_r32, e_law09_TremorKeeps_r34, e_law09_TremorKeeps_r35, e_law09_TremorKeeps_r36, e_law09_TremorKeeps_r38, g1, g2, a1, a2, w1, hp4, hp5, hp6]
      exact ⟨k, rfl, y, hy, eqP_iff.1 c1, by simpa using hs⟩

theorem L_wide {A B : List Plc} (hA : A.length ≤ 100000) (hB : B.length ≤ 100000) (hwide : ∀ x ∈ A, ∀ y ∈ B, y.p = x.p → y.o.lo ≤ x.o.lo ∧ x.o.hi ≤ y.o.hi) : ∀ (m i k : Nat), i + m = A.length → ((A.drop i).map (·.p)).Sublist ((B.drop k).map (·.p)) →
    WL T [21, 25, 27, 28] false f_law09_TremorKeeps_l37 [(21, .lst A.length (A.flatMap Plc.enc)), (25, .lst B.length (B.flatMap Plc.enc)), (27, .int .i64 k), (28, .int .i64 i)] σ
      (fun x' e σ' => x' = .exit 4 ∧ σ' = σ)
  | 0, i, k, hi, hs => by
    refine WL_step e_law09_TremorKeeps_l37 ?_
    have h1 : ¬ i < A.length := by omega
    simp [-List.length_flatMap, -List.map_take, e_law09_TremorKeeps_r0, e_law09_TremorKeeps_r1, e_law09_TremorKeeps_r2, e_law09_TremorKeeps_r3, e_law09_TremorKeeps_r4, e_law09_TremorKeeps_r5, e_law09_TremorKeeps_r6, e_law09_TremorKeeps_r7, e_law09_TremorKeeps_r8, e_law09_TremorKeeps_r9, e_law09_TremorKeeps_r10, e_law09_TremorKeeps_r11, e_law09_TremorKeeps_r12, e_law09_TremorKeeps_r13, e_law09_TremorKeeps_r14, e_law09_TremorKeeps_r16, e_law09_TremorKeeps_r17, e_law09_TremorKeeps_r18, e_law09_TremorKeeps_r19, e_law09_TremorKeeps_r20, e_law09_TremorKeeps_r21, e_law09_TremorKeeps_r22, e_law09_TremorKeeps_r23, e_law09_TremorKeeps_r25, e_law09_TremorKeeps_r26, e_law09_TremorKeeps_r27, e_law09_TremorKeeps_r28, e_law09_TremorKeeps_r29, e_law09_TremorKeeps_r30, e_law09_TremorKeeps_r31, e_law09_TremorKeeps_r32, e_law09_TremorKeeps_r34, e_law09_TremorKeeps_r35, e_law09_TremorKeeps_r36, e_law09_TremorKeeps_r38, h1]
  | m + 1, i, k, hi, hs => by
    refine WL_step e_law09_TremorKeeps_l37 ?_
    have g1 : i < A.length := by omega
    obtain ⟨x, hx⟩ : ∃ x, A[i]? = some x := ⟨_, List.getElem?_eq_getElem g1⟩
    rw [drop_at hx, List.map_cons] at hs
    have w1 := wnext g1 (by omega)
    have ih0 := fun k' h => L_wide hA hB hwide m (i + 1) k' (by omega) h
    simp [-List.length_flatMap, -List.map_take, e_law09_TremorKeeps_r0, e_law09_TremorKeeps_r1, e_law09_TremorKeeps_r2, e_law09_TremorKeeps_r3, e_law09_TremorKeeps_r4, e_law09_TremorKeeps_r5, e_law09_TremorKeeps_r6, e_law09_TremorKeeps_r7, e_law09_TremorKeeps_r8, e_law09_TremorKeeps_r9, e_law09_TremorKeeps_r10, e_law09_TremorKeeps_r11, e_law09_TremorKeeps_r12, e_law09_TremorKeeps_r13, e_law09_TremorKeeps_r14, e_law09_TremorKeeps_r16, e_law09_TremorKeeps_r17, e_law09_TremorKeeps_r18, e_law09_TremorKeeps_r19, e_law09_TremorKeeps_r20, e_law09_TremorKeeps_r21, e_law09_TremorKeeps_r22, e_law09_TremorKeeps_r23, e_law09_TremorKeeps_r25, e_law09_TremorKeeps_r26, e_law09_TremorKeeps_r27, e_law09_TremorKeeps_r28, e_law09_TremorKeeps_r29, e_law09_TremorKeeps_r30, e_law09_TremorKeeps_r31, e_law09_TremorKeeps_r32, e_law09_TremorKeeps_r34, e_law09_TremorKeeps_r35, e_law09_TremorKeeps_r36, e_law09_TremorKeeps_r38, g1]
    have hk : k ≤ B.length := by
      rcases Nat.lt_or_ge B.length k with h | h
      · have : B.drop k = [] := by simp; omega
        rw [this] at hs
        simp at hs
      · exact h
    refine WL.to (L_skip (σ := σ) hA hB hx (B.length - k) k (by omega) hs) (by simp) rfl ?_
    rintro x' e σ' ⟨rfl, rfl, e21, e25, e28, k', y, e27, hy, hyp, hs'⟩
    have g2 : k' < B.length := (List.getElem?_eq_some_iff.1 hy).1
    have g3 : (k' : Int) ≠ B.length := by omega
    have g3' : k' ≠ B.length := by omega
    have a1 := flat_at (f := Plc.enc) (w := 5) (fun _ => rfl) hx
    have a2 := flat_at (f := Plc.enc) (w := 5) (fun _ => rfl) hy
    simp only [Plc.enc] at a1 a2
    have hb := hwide x (List.mem_of_getElem? hx) y (List.mem_of_getElem? hy) hyp
    have b1 : ¬ x.o.lo < y.o.lo := by omega
    have b2 : ¬ y.o.hi < x.o.hi := by omega
    have ih := ih0 k' ((List.sublist_cons_self _ _).trans hs')
    simp [-List.length_flatMap, -List.map_take, e_law09_TremorKeeps_r34, e_law09_TremorKeeps_r35, e_law09_TremorKeeps_r36, e21, e25, e27, e28, g1, g2, g3, g3', a1, a2, b1, b2, w1]
    exact WL.to ih (by simp) rfl fun x e σ' hh => hh

theorem law_Keeps {n : Net} {place o many : Int} {l : List Int} (hn0 : n.st.length ≤ 9223372036854775807) (hpl : 0 ≤ place ∧ place ≤ 65535) (hm : 0 ≤ many ∧ many ≤ 255) (hl : l.length ≤ 9223372036854775807) (hw : ∀ x ∈ l, 0 ≤ x ∧ x ≤ 65535) (hσ : σ ≠ []) :
    lim T (.call false i_law09_TremorKeeps [.agg [.lst n.st.length (n.st.flatMap Stn.enc), .int .i64 n.s0.lo, .int .i64 n.s0.hi, .int .i64 n.s1.lo, .int .i64 n.s1.hi, .int .i64 n.low.x, .int .i64 n.low.y, .int .i64 n.low.z, .int .i64 n.high.x, .int .i64 n.high.y, .int .i64 n.high.z, .int .i64 n.step], .int .u16 place, .int .i64 o, .int .u8 many, .lst l.length (l.flatMap u16E)] σ) = some (.val (.bool true) σ) := by
  refine call_of T_law09_TremorKeeps e_law09_TremorKeeps rfl ?_
  have hR := fun σ => @C_Right σ n hn0
  cases c1 : n.ok
  · simp [-List.length_flatMap, -List.map_take, e_law09_TremorKeeps_r0, e_law09_TremorKeeps_r1, e_law09_TremorKeeps_r2, e_law09_TremorKeeps_r3, e_law09_TremorKeeps_r4, e_law09_TremorKeeps_r5, e_law09_TremorKeeps_r6, e_law09_TremorKeeps_r7, e_law09_TremorKeeps_r8, e_law09_TremorKeeps_r9, e_law09_TremorKeeps_r10, e_law09_TremorKeeps_r11, e_law09_TremorKeeps_r12, e_law09_TremorKeeps_r13, e_law09_TremorKeeps_r14, e_law09_TremorKeeps_r16, e_law09_TremorKeeps_r17, e_law09_TremorKeeps_r18, e_law09_TremorKeeps_r19, e_law09_TremorKeeps_r20, e_law09_TremorKeeps_r21, e_law09_TremorKeeps_r22, e_law09_TremorKeeps_r23, e_law09_TremorKeeps_r25, e_law09_TremorKeeps_r26, e_law09_TremorKeeps_r27, e_law09_TremorKeeps_r28, e_law09_TremorKeeps_r29, e_law09_TremorKeeps_r30, e_law09_TremorKeeps_r31, e_law09_TremorKeeps_r32, e_law09_TremorKeeps_r34, e_law09_TremorKeeps_r35, e_law09_TremorKeeps_r36, e_law09_TremorKeeps_r38, hR, c1, C_awake]
  cases c2 : Trem.inn o (-1000000) 1000000
  · simp [-List.length_flatMap, -List.map_take, e_law09_TremorKeeps_r0, e_law09_TremorKeeps_r1, e_law09_TremorKeeps_r2, e_law09_TremorKeeps_r3, e_law09_TremorKeeps_r4, e_law09_TremorKeeps_r5, e_law09_TremorKeeps_r6, e_law09_TremorKeeps_r7, e_law09_TremorKeeps_r8, e_law09_TremorKeeps_r9, e_law09_TremorKeeps_r10, e_law09_TremorKeeps_r11, e_law09_TremorKeeps_r12, e_law09_TremorKeeps_r13, e_law09_TremorKeeps_r14, e_law09_TremorKeeps_r16, e_law09_TremorKeeps_r17, e_law09_TremorKeeps_r18, e_law09_TremorKeeps_r19, e_law09_TremorKeeps_r20, e_law09_TremorKeeps_r21, e_law09_TremorKeeps_r22, e_law09_TremorKeeps_r23, e_law09_TremorKeeps_r25, e_law09_TremorKeeps_r26, e_law09_TremorKeeps_r27, e_law09_TremorKeeps_r28, e_law09_TremorKeeps_r29, e_law09_TremorKeeps_r30, e_law09_TremorKeeps_r31, e_law09_TremorKeeps_r32, e_law09_TremorKeeps_r34, e_law09_TremorKeeps_r35, e_law09_TremorKeeps_r36, e_law09_TremorKeeps_r38, hR, c1, C_In, c2, C_awake]
  have ho := inn_iff.1 c2
  have hL := fun σ (hσ : σ ≠ []) => @C_Lattice σ n c1 hσ
  have hb := net_bx c1
  have hlen := hb.len
  have hns : n.st.length ≤ 100000 := by have := c1; simp [Net.ok, Net.pre] at this; have := this.1.1; rw [inn_iff] at this; omega
  -- some place there is
  have hlat : 0 < (lattice n).length := by
    have q1 := hb.hx; have q2 := hb.hy; have q3 := hb.hz; have q0 := hb.st
    have r1 : 0 < (prog n.low.x n.high.x n.step).length := by rw [prog_cons (by omega) (by omega)]; simp
    have r2 : 0 < (prog n.low.y n.high.y n.step).length := by rw [prog_cons (by omega) (by omega)]; simp
    have r3 : 0 < (prog n.low.z n.high.z n.step).length := by rw [prog_cons (by omega) (by omega)]; simp
    unfold lattice
    rw [xs_len]
    exact Nat.mul_pos r1 (Nat.mul_pos r2 r3)
  obtain ⟨k, hk1, hk2⟩ : ∃ k : Nat, place.tmod (lattice n).length = k ∧ k < (lattice n).length := by
    have h := tmod_in (a := place) (b := ((lattice n).length : Int)) (by omega) (by omega)
    exact ⟨(place.tmod (lattice n).length).toNat, by omega, by omega⟩
  obtain ⟨q, hq⟩ : ∃ x, (lattice n)[k]? = some x := ⟨_, List.getElem?_eq_getElem hk2⟩
  have hql := List.mem_of_getElem? hq
  have hqok := lattice_ok hb hql
  have a1 := flat_at (f := Pt.enc) (w := 3) (fun _ => rfl) hq
  simp only [Pt.enc] at a1
  have w1 := w64 (n := place) (by omega)
  have z1 : ((lattice n).length : Int) ≠ 0 := by omega
  have z2 : lattice n ≠ [] := by intro h; rw [h] at hlat; simp at hlat
  obtain ⟨N, hN, hN1, hN8⟩ : ∃ n : Nat, 1 + many.tmod 8 = n ∧ 1 ≤ n ∧ n ≤ 8 := by
    have h := tmod_in (a := many) (b := 8) (by omega) (by omega)
    exact ⟨(1 + many.tmod 8).toNat, by omega, by omega, by omega⟩
  simp [-List.length_flatMap, -List.map_take, e_law09_TremorKeeps_r0, e_law09_TremorKeeps_r1, e_law09_TremorKeeps_r2, e_law09_TremorKeeps_r3, e_law09_TremorKeeps_r4, e_law09_TremorKeeps_r5, e_law09_TremorKeeps_r6, e_law09_TremorKeeps_r7, e_law09_TremorKeeps_r8, e_law09_TremorKeeps_r9, e_law09_TremorKeeps_r10, e_law09_TremorKeeps_r11, e_law09_TremorKeeps_r12, e_law09_TremorKeeps_r13, e_law09_TremorKeeps_r14, e_law09_TremorKeeps_r16, e_law09_TremorKeeps_r17, e_law09_TremorKeeps_r18, e_law09_TremorKeeps_r19, e_law09_TremorKeeps_r20, e_law09_TremorKeeps_r21, e_law09_TremorKeeps_r22, e_law09_TremorKeeps_r23, e_law09_TremorKeeps_r25, e_law09_TremorKeeps_r26, e_law09_TremorKeeps_r27, e_law09_TremorKeeps_r28, e_law09_TremorKeeps_r29, e_law09_TremorKeeps_r30, e_law09_TremorKeeps_r31, e_law09_TremorKeeps_r32, e_law09_TremorKeeps_r34, e_law09_TremorKeeps_r35, e_law09_TremorKeeps_r36, e_law09_TremorKeeps_r38, hR, c1, C_In, c2, hL, hk1, hk2, w1, z1, z2, a1]
  refine WL.to (L_keeps (σ := σ) c1 hqok ho hl hw hm hN hN8 N 0 [] (by omega) rfl (by simp)) (by simp) (by simp) ?_
  rintro x e σ' ⟨rfl, P, hPN, hP, rfl, e2, e5, e12, e13⟩
  have hfz := fun σ (hσ : σ ≠ []) => @k_frz _ Pick.enc 4 (fun _ => rfl) (fun x => by simp) P 0 N [.cells N (P.flatMap Pick.enc)] σ hσ rfl
  rw [hPN] at hfz
  have hP1 : 1 ≤ P.length := by omega
  have hwr := made_ok c1 hP hP1 (by omega)
  have hph : ∀ p ∈ P, 0 ≤ p.ph ∧ p.ph ≤ 255 := fun p hp => by have := (hP p hp).ph0; have := (hP p hp).ph; omega
  have h1 := fun σ (hσ : σ ≠ []) => @C_Net σ n hns hσ
  have h3 := fun σ (hσ : σ ≠ []) => @C_LocateP σ n P (by omega) hn0 hph hσ
  have hor := made_origin hP hP1
  have hmem : (⟨q, origin n P q⟩ : Plc) ∈ located n P := by
    simp only [located, List.mem_filterMap]
    refine ⟨q, hql, ?_⟩
    rw [if_pos]
    simp only [Rg.ne, decide_eq_true_eq]; omega
  have hA0 : (located n P).length ≠ 0 := by
    intro h; have := List.eq_nil_of_length_eq_zero h; rw [this] at hmem; simp at hmem
  have hlocl : ∀ P, (located n P).length ≤ 100000 := by
    intro P
    have h := List.length_filterMap_le (locOf n P) (lattice n)
    rw [located_eq] at h
    omega
  have hany : anyB (located n P) (hit q o) = true := by
    rw [anyB_iff]
    refine ⟨_, hmem, ?_⟩
    simp [hit, eqP_iff.2, hor]
  simp only [hwr, hA0, if_true, if_false, hPN] at h3
  simp [-List.length_flatMap, -List.map_take, e_law09_TremorKeeps_r16, e_law09_TremorKeeps_r17, e_law09_TremorKeeps_r18, e_law09_TremorKeeps_r19, e_law09_TremorKeeps_r20, e2, e5, e12, e13, hfz, hσ, h1, h3]
  refine WL.to (L_found (σ := [.dead] :: σ) (n := n) (P := P) (q := q) (o := o) (A := located n P) (hlocl P) (located n P).length 0 false (by omega)) (by simp [hPN]) (by simp) ?_
  rintro x e σ' ⟨rfl, rfl, e2, e5, e12, e13, e21, e23⟩
  simp only [List.drop_zero, hany, Bool.or_true] at e23
  -- one pick less
  obtain ⟨j, hj, hj1, hj2⟩ : ∃ j : Nat, max (1 : Int) ((N : Int) - 1) = j ∧ 1 ≤ j ∧ j ≤ N := ⟨(max (1 : Int) ((N : Int) - 1)).toNat, by omega, by omega, by omega⟩
  have hPj : (P.take j).length = j := by simp; omega
  have hQ : ∀ p ∈ P.take j, Made n q o p := fun p hp => hP p (List.mem_of_mem_take hp)
  have hwr2 := made_ok c1 hQ (by omega) (by omega)
  have h3' := fun σ (hσ : σ ≠ []) => @C_LocateP σ n (P.take j) (by omega) hn0 (fun p hp => hph p (List.mem_of_mem_take hp)) hσ
  have hsub := located_sub (n := n) (P := P) (k := j) hj1 hP1
  have hle : (located n P).length ≤ (located n (P.take j)).length := by simpa using hsub.length_le
  have hB0 : (located n (P.take j)).length ≠ 0 := by omega
  simp only [hwr2, hB0, if_true, if_false, hPj] at h3'
  have t1 := k_takes (f := Pick.enc) (w := 4) (fun _ => rfl) P j
  have t2 := flat_len (f := Pick.enc) (w := 4) (fun _ => rfl) (P.take j)
  rw [hPj] at t2
  have r1 : j * 32 ≤ room := by unfold room; omega
  have w2 := w64 (n := (N : Int) - 1) (by omega)
  have g4 : ¬ ((located n (P.take j)).length : Int) < (located n P).length := by omega
  have g4' : ¬ (located n (P.take j)).length < (located n P).length := by omega
  rw [hPN] at e13
  simp [-List.length_flatMap, -List.map_take, e_law09_TremorKeeps_r25, e_law09_TremorKeeps_r26, e_law09_TremorKeeps_r27, e_law09_TremorKeeps_r28, e_law09_TremorKeeps_r29, e2, e5, e12, e13, e21, e23, h1, h3', w2, hj, hj2, t1, t2, r1, g4, g4']
  refine WL.to (L_wide (σ := [.dead] :: σ) (A := located n P) (B := located n (P.take j)) (hlocl _) (hlocl _) ?_ (located n P).length 0 0 (by omega) (by simpa using hsub)) (by simp) (by simp) ?_
  · intro x hx y hy hxy
    have e1 := located_mem hx
    have e2 := located_mem hy
    rw [e1.2.1, e2.2.1, hxy]
    exact origin_wide hj1 hP1
  · rintro x e σ' ⟨rfl, rfl⟩
    simp [-List.length_flatMap, -List.map_take, e_law09_TremorKeeps_r38, C_awake]

theorem go_TremorKeeps (x0 x1 x2 x3 x4 : D) (t0 : tyNet.hasV x0) (t1 : (Ty.int .u16).hasV x1) (t2 : tyI.hasV x2) (t3 : (Ty.int .u8).hasV x3) (t4 : (Ty.slice 1 (.int .u16)).hasV x4) :
    ∃ σ', lim T (.call false i_law09_TremorKeeps [x0, x1, x2, x3, x4] [[]]) = some (.val (.bool true) σ') := by
  obtain ⟨n, rfl, hn⟩ := net_of t0
  obtain ⟨p, rfl, hp⟩ := u16_of t1
  obtain ⟨o, rfl, _⟩ := i64_of t2
  obtain ⟨m, rfl, hm⟩ := u8_of t3
  obtain ⟨l, rfl, hl, hw⟩ := rows_of (fun ds h => u16e_of h) t4
  exact ⟨_, law_Keeps (by unfold maxLen at *; omega) hp hm (by unfold maxLen at *; omega) hw (by simp)⟩
end Go.Proofs.Yticpenoicajakaa
