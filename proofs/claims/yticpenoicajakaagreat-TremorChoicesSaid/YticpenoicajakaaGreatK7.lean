/-
  The lattice as a loop over a function; the places that agree: of the program, of the reference.
-/
import Derived.Test.YticpenoicajakaaGreatK6
set_option linter.unusedVariables false
set_option linter.unusedSimpArgs false
namespace Go.Proofs.YticpenoicajakaaGreat
open Go Go.Abs Go.Trem
variable {σ : Stack}

def ptA (p : Pt) : List D := [.agg p.enc]

theorem L_z1 {n : Net} (h : Bx n) {l i : Nat} {x y : Int} : ∀ (m : Nat) (z : Int) (S S' : Stack) (b : Bool), n.low.z ≤ z → z ≤ 40000 → (zs n x y z).length = m → Rounds T l i ptA (zs n x y z) S b S' →
    WL T [0, 1, 3, 4, 5] false f_tremor_Net_lattice_1_l8 [(0, .yld l i), (1, .cref n.enc), (3, .int .i64 x), (4, .int .i64 y), (5, .int .i64 z)] S
      (fun x' e σ' => σ' = S' ∧ if b then x' = .exit 4 ∧ get e 0 = .yld l i ∧ get e 1 = .cref n.enc ∧ get e 3 = .int .i64 x ∧ get e 4 = .int .i64 y else x' = .ret) := by
  intro m
  have h0 := h.st
  have h3 := h.hz
  have h4 := h.lz
  induction m with
  | zero =>
    intro z S S' b hz hz' hm hr
    refine WL_step e_tremor_Net_lattice_1_l8 ?_
    by_cases hc : z ≤ n.high.z
    · rw [zs_cons hc (by omega)] at hm; cases hm
    · rw [zs_nil (show n.high.z < z by omega) (show 0 < n.step by omega)] at hr
      cases hr
      simp [-List.length_flatMap, -List.map_take, e_tremor_Net_lattice_1_r0, e_tremor_Net_lattice_1_r1, e_tremor_Net_lattice_1_r2, e_tremor_Net_lattice_1_r3, e_tremor_Net_lattice_1_r4, e_tremor_Net_lattice_1_r5, e_tremor_Net_lattice_1_r6, e_tremor_Net_lattice_1_r7, e_tremor_Net_lattice_1_r9, e_tremor_Net_lattice_1_r11, hc]
  | succ m ih =>
    intro z S S' b hz hz' hm hr
    refine WL_step e_tremor_Net_lattice_1_l8 ?_
    by_cases hc : z ≤ n.high.z
    · have e := zs_cons (x := x) (y := y) hc (show 0 < n.step by omega)
      rw [e] at hm hr
      simp only [List.length_cons, Nat.add_right_cancel_iff] at hm
      have w1 := w64 (n := z + n.step) (by omega)
      cases hr with
      | go _ _ _ S1 _ _ hg hr =>
        have ih' := ih (z + n.step) S1 S' b (by omega) (by omega) hm hr
        simp only [ptA, Pt.enc] at hg
        simp [-List.length_flatMap, -List.map_take, e_tremor_Net_lattice_1_r0, e_tremor_Net_lattice_1_r1, e_tremor_Net_lattice_1_r2, e_tremor_Net_lattice_1_r3, e_tremor_Net_lattice_1_r4, e_tremor_Net_lattice_1_r5, e_tremor_Net_lattice_1_r6, e_tremor_Net_lattice_1_r7, e_tremor_Net_lattice_1_r9, e_tremor_Net_lattice_1_r11, hc, w1, hg]
        exact WL.to ih' (by simp) rfl fun x' e' σ' hh => hh
      | stop _ _ _ _ hg =>
        simp only [ptA, Pt.enc] at hg
        simp [-List.length_flatMap, -List.map_take, e_tremor_Net_lattice_1_r0, e_tremor_Net_lattice_1_r1, e_tremor_Net_lattice_1_r2, e_tremor_Net_lattice_1_r3, e_tremor_Net_lattice_1_r4, e_tremor_Net_lattice_1_r5, e_tremor_Net_lattice_1_r6, e_tremor_Net_lattice_1_r7, e_tremor_Net_lattice_1_r9, e_tremor_Net_lattice_1_r11, hc, w1, hg]
    · rw [zs_nil (by omega) (by omega)] at hm; cases hm

theorem L_y1 {n : Net} (h : Bx n) {l i : Nat} {x : Int} : ∀ (m : Nat) (y : Int) (S S' : Stack) (b : Bool), n.low.y ≤ y → y ≤ 40000 → (prog y n.high.y n.step).length = m → Rounds T l i ptA (ys n x y) S b S' →
    WL T [0, 1, 3, 4] false f_tremor_Net_lattice_1_l10 [(0, .yld l i), (1, .cref n.enc), (3, .int .i64 x), (4, .int .i64 y)] S
      (fun x' e σ' => σ' = S' ∧ if b then x' = .exit 2 ∧ get e 0 = .yld l i ∧ get e 1 = .cref n.enc ∧ get e 3 = .int .i64 x else x' = .ret) := by
  intro m
  have h0 := h.st
  have h3 := h.hy
  have h4 := h.ly
  have h5 := h.hz
  have h6 := h.lz
  induction m with
  | zero =>
    intro y S S' b hy hy' hm hr
    refine WL_step e_tremor_Net_lattice_1_l10 ?_
    by_cases hc : y ≤ n.high.y
    · rw [prog_cons hc (by omega)] at hm; cases hm
    · rw [ys_nil (show n.high.y < y by omega) (show 0 < n.step by omega)] at hr
      cases hr
      simp [-List.length_flatMap, -List.map_take, e_tremor_Net_lattice_1_r0, e_tremor_Net_lattice_1_r1, e_tremor_Net_lattice_1_r2, e_tremor_Net_lattice_1_r3, e_tremor_Net_lattice_1_r4, e_tremor_Net_lattice_1_r5, e_tremor_Net_lattice_1_r6, e_tremor_Net_lattice_1_r7, e_tremor_Net_lattice_1_r9, e_tremor_Net_lattice_1_r11, hc]
  | succ m ih =>
    intro y S S' b hy hy' hm hr
    refine WL_step e_tremor_Net_lattice_1_l10 ?_
    by_cases hc : y ≤ n.high.y
    · have e := ys_cons (x := x) hc (show 0 < n.step by omega)
      rw [prog_cons hc (by omega)] at hm
      rw [e] at hr
      simp only [List.length_cons, Nat.add_right_cancel_iff] at hm
      have w1 := w64 (n := y + n.step) (by omega)
      simp [-List.length_flatMap, -List.map_take, e_tremor_Net_lattice_1_r0, e_tremor_Net_lattice_1_r1, e_tremor_Net_lattice_1_r2, e_tremor_Net_lattice_1_r3, e_tremor_Net_lattice_1_r4, e_tremor_Net_lattice_1_r5, e_tremor_Net_lattice_1_r6, e_tremor_Net_lattice_1_r7, e_tremor_Net_lattice_1_r9, e_tremor_Net_lattice_1_r11, hc]
      rcases hr.split with ⟨S1, hr1, hr2⟩ | ⟨rfl, hr1⟩
      · refine WL.to (L_z1 h (l := l) (i := i) (x := x) (y := y) _ n.low.z _ _ _ (by omega) (by omega) rfl hr1) (by simp) rfl ?_
        rintro x' e' σ' ⟨rfl, g0, g1, g2, g3, g4⟩
        subst g0
        simp [-List.length_flatMap, -List.map_take, e_tremor_Net_lattice_1_r9, g1, g2, g3, g4, w1]
        exact WL.to (ih (y + n.step) _ _ _ (by omega) (by omega) hm hr2) (by simp) rfl fun x' e' σ' hh => hh
      · refine WL.to (L_z1 h (l := l) (i := i) (x := x) (y := y) _ n.low.z _ _ _ (by omega) (by omega) rfl hr1) (by simp) rfl ?_
        rintro x' e' σ' ⟨rfl, g0⟩
        simp at g0
        subst g0
        simp
    · rw [prog_nil (by omega) (by omega)] at hm; cases hm

theorem L_x1 {n : Net} (h : Bx n) {l i : Nat} : ∀ (m : Nat) (x : Int) (S S' : Stack) (b : Bool), n.low.x ≤ x → x ≤ 40000 → (prog x n.high.x n.step).length = m → Rounds T l i ptA (xs n x) S b S' →
    WL T [0, 1, 3] false f_tremor_Net_lattice_1_l12 [(0, .yld l i), (1, .cref n.enc), (3, .int .i64 x)] S
      (fun x' e σ' => σ' = S' ∧ (x' = .exit 0 ∨ x' = .ret)) := by
  intro m
  have h0 := h.st
  have h3 := h.hx
  have h4 := h.lx
  have h5 := h.hy
  have h6 := h.ly
  induction m with
  | zero =>
    intro x S S' b hx hx' hm hr
    refine WL_step e_tremor_Net_lattice_1_l12 ?_
    by_cases hc : x ≤ n.high.x
    · rw [prog_cons hc (by omega)] at hm; cases hm
    · rw [xs_nil (show n.high.x < x by omega) (show 0 < n.step by omega)] at hr
      cases hr
      simp [-List.length_flatMap, -List.map_take, e_tremor_Net_lattice_1_r0, e_tremor_Net_lattice_1_r1, e_tremor_Net_lattice_1_r2, e_tremor_Net_lattice_1_r3, e_tremor_Net_lattice_1_r4, e_tremor_Net_lattice_1_r5, e_tremor_Net_lattice_1_r6, e_tremor_Net_lattice_1_r7, e_tremor_Net_lattice_1_r9, e_tremor_Net_lattice_1_r11, hc]
  | succ m ih =>
    intro x S S' b hx hx' hm hr
    refine WL_step e_tremor_Net_lattice_1_l12 ?_
    by_cases hc : x ≤ n.high.x
    · have e := xs_cons hc (show 0 < n.step by omega)
      rw [prog_cons hc (by omega)] at hm
      rw [e] at hr
      simp only [List.length_cons, Nat.add_right_cancel_iff] at hm
      have w1 := w64 (n := x + n.step) (by omega)
      simp [-List.length_flatMap, -List.map_take, e_tremor_Net_lattice_1_r0, e_tremor_Net_lattice_1_r1, e_tremor_Net_lattice_1_r2, e_tremor_Net_lattice_1_r3, e_tremor_Net_lattice_1_r4, e_tremor_Net_lattice_1_r5, e_tremor_Net_lattice_1_r6, e_tremor_Net_lattice_1_r7, e_tremor_Net_lattice_1_r9, e_tremor_Net_lattice_1_r11, hc]
      rcases hr.split with ⟨S1, hr1, hr2⟩ | ⟨rfl, hr1⟩
      · refine WL.to (L_y1 h (l := l) (i := i) (x := x) _ n.low.y _ _ _ (by omega) (by omega) rfl hr1) (by simp) rfl ?_
        rintro x' e' σ' ⟨rfl, g0, g1, g2, g3⟩
        subst g0
        simp [-List.length_flatMap, -List.map_take, e_tremor_Net_lattice_1_r11, g1, g2, g3, w1]
        exact WL.to (ih (x + n.step) _ _ _ (by omega) (by omega) hm hr2) (by simp) rfl fun x' e' σ' hh => hh
      · refine WL.to (L_y1 h (l := l) (i := i) (x := x) _ n.low.y _ _ _ (by omega) (by omega) rfl hr1) (by simp) rfl ?_
        rintro x' e' σ' ⟨rfl, g0⟩
        simp at g0
        subst g0
        simp
    · rw [prog_nil (by omega) (by omega)] at hm; cases hm

theorem C_lattice1 {n : Net} (h : n.ok = true) {l i : Nat} {S S' : Stack} {b : Bool} (hr : Rounds T l i ptA (lattice n) ([] :: S) b ([] :: S')) (hs : S'.length = S.length) :
    lim T (.call false i_tremor_Net_lattice_1 [.yld l i, .cref n.enc] S) = some (.val (.tup []) S') := by
  refine call_to T_tremor_Net_lattice_1 e_tremor_Net_lattice_1 rfl hs ?_
  have hb := net_bx h
  have b1 := hb.lx
  simp [-List.length_flatMap, -List.map_take, e_tremor_Net_lattice_1_r0, e_tremor_Net_lattice_1_r1, e_tremor_Net_lattice_1_r2, e_tremor_Net_lattice_1_r3, e_tremor_Net_lattice_1_r4, e_tremor_Net_lattice_1_r5, e_tremor_Net_lattice_1_r6, e_tremor_Net_lattice_1_r7, e_tremor_Net_lattice_1_r9, e_tremor_Net_lattice_1_r11]
  refine WL.to (L_x1 hb (l := l) (i := i) _ n.low.x _ _ _ (by omega) (by omega) rfl hr) (by simp) rfl ?_
  rintro x' e' σ' ⟨rfl, rfl | rfl⟩ <;> simp

theorem C_lat {n : Net} : lim T (.call false i_tremor_Net_lattice [.agg [.lst n.st.length (n.st.flatMap Stn.enc), .int .i64 n.s0.lo, .int .i64 n.s0.hi, .int .i64 n.s1.lo, .int .i64 n.s1.hi, .int .i64 n.low.x, .int .i64 n.low.y, .int .i64 n.low.z, .int .i64 n.high.x, .int .i64 n.high.y, .int .i64 n.high.z, .int .i64 n.step]] σ) = some (.val (.fn i_tremor_Net_lattice_1 [] [.cref n.enc]) σ) := by
  refine call_of T_tremor_Net_lattice e_tremor_Net_lattice rfl ?_
  have hc : D.cleanL (n.st.flatMap Stn.enc) = true := cleanL_flat fun x _ => by simp
  simp [-List.length_flatMap, -List.map_take, e_tremor_Net_lattice_r0, e_tremor_Net_lattice_r1, hc]

theorem L_spans {n : Net} {l : List Pick} (h : Hd n l) {q : Pt} (hq : q.ok = true) {k : Nat} (hk : k ≤ l.length) : ∀ (m i : Nat), i + m = k →
    WL T [3, 4, 6, 12, 13] false f_tremor_heard_spans_l6 [(3, .cref (heardE n l)), (4, .cref q.enc), (6, .sl σ.length 0 i 0 i 2), (12, .int .i64 k), (13, .int .i64 i)] ([.cells i (((l.take i).map fun p => span n p q).flatMap Rg.enc)] :: σ)
      (fun x e σ' => x = .exit 0 ∧ get e 6 = .sl σ.length 0 k 0 k 2 ∧ σ' = [.cells k (((l.take k).map fun p => span n p q).flatMap Rg.enc)] :: σ)
  | 0, i, hi => by
    refine WL_step e_tremor_heard_spans_l6 ?_
    have h2 : i = k := by omega
    subst h2
    simp [-List.length_flatMap, -List.map_take, e_tremor_heard_spans_r0, e_tremor_heard_spans_r1, e_tremor_heard_spans_r2, e_tremor_heard_spans_r3, e_tremor_heard_spans_r4, e_tremor_heard_spans_r5, e_tremor_heard_spans_r7]
  | m + 1, i, hi => by
    refine WL_step e_tremor_heard_spans_l6 ?_
    have ih := L_spans h hq hk m (i + 1) (by omega)
    have hl := h.len
    have h1 : i < k := by omega
    obtain ⟨p, hs⟩ : ∃ x, l[i]? = some x := ⟨_, List.getElem?_eq_getElem (show i < l.length by omega)⟩
    have h5 := fun σ => @C_span σ n l h i p hs q.x q.y q.z hq
    have h4 := wnext h1 (by omega)
    have h6 : ((l.take i).map fun p => span n p q).length = i := by simp; omega
    have w2 : (i + 1) * 16 ≤ room := by unfold room; omega
    have w3 := flat_self (f := Rg.enc) (w := 2) (fun _ => rfl) ((l.take i).map fun p => span n p q)
    have w4 := flat_len (f := Rg.enc) (w := 2) (fun _ => rfl) ((l.take i).map fun p => span n p q)
    rw [h6] at w3 w4
    have w5 : (((l.take (i + 1)).map fun p => span n p q).flatMap Rg.enc) = ((l.take i).map fun p => span n p q).flatMap Rg.enc ++ (span n p q).enc := by
      rw [take_snoc hs]; simp
    rw [w5] at ih
    generalize ((l.take i).map fun p => span n p q).flatMap Rg.enc = F at *
    simp [-List.length_flatMap, -List.map_take, e_tremor_heard_spans_r0, e_tremor_heard_spans_r1, e_tremor_heard_spans_r2, e_tremor_heard_spans_r3, e_tremor_heard_spans_r4, e_tremor_heard_spans_r5, e_tremor_heard_spans_r7, h1, h5, h4, w2, w3, w4]
    exact WL.to ih (by simp) (by simp) fun x e σ hh => hh

theorem C_spans {n : Net} {l : List Pick} (h : Hd n l) {x y z : Int} (hq : (Pt.mk x y z).ok = true) {k : Nat} (hk : k ≤ l.length) (hσ : σ ≠ []) :
    lim T (.call false i_tremor_heard_spans [.agg [.lst n.st.length (n.st.flatMap Stn.enc), .int .i64 n.s0.lo, .int .i64 n.s0.hi, .int .i64 n.s1.lo, .int .i64 n.s1.hi, .int .i64 n.low.x, .int .i64 n.low.y, .int .i64 n.low.z, .int .i64 n.high.x, .int .i64 n.high.y, .int .i64 n.high.z, .int .i64 n.step, .lst l.length (l.flatMap Pick.enc)], .agg [.int .i64 x, .int .i64 y, .int .i64 z], .int .i64 k] σ) = some (.val (.lst k (((l.take k).map fun p => span n p ⟨x, y, z⟩).flatMap Rg.enc)) σ) := by
  refine call_of T_tremor_heard_spans e_tremor_heard_spans rfl ?_
  have h1 : (k : Int) ≤ l.length := by omega
  simp [-List.length_flatMap, -List.map_take, e_tremor_heard_spans_r0, e_tremor_heard_spans_r1, e_tremor_heard_spans_r2, e_tremor_heard_spans_r3, e_tremor_heard_spans_r4, e_tremor_heard_spans_r5, e_tremor_heard_spans_r7, h1, hk]
  refine WL.to (L_spans (σ := σ) h hq hk k 0 (by omega)) (by simp) (by simp) ?_
  rintro x' e σ' ⟨rfl, h2, rfl⟩
  simp [-List.length_flatMap, -List.map_take, h2, e_tremor_heard_spans_r7]
  have h6 : ((l.take k).map fun p => span n p ⟨x, y, z⟩).length = k := by simp; omega
  have := frz_out (σ := σ) (f := Rg.enc) (w := 2) (fun _ => rfl) (fun x => by simp) (l := (l.take k).map fun p => span n p ⟨x, y, z⟩) (j := 0) (v := k) (bs := [.cells k (((l.take k).map fun p => span n p ⟨x, y, z⟩).flatMap Rg.enc)]) hσ rfl
  rw [h6] at this
  rw [this]
  simp

theorem C_common' {rs : List Rg} (h1 : 1 ≤ rs.length) (hl : rs.length ≤ 1000000) :
    lim T (.call false i_tremor_common [.lst rs.length (rs.flatMap Rg.enc)] σ) = some (.val (.tup [.agg [.int .i64 (common rs).lo, .int .i64 (common rs).hi], .bool (common rs).ne]) σ) := by
  cases rs with
  | nil => simp at h1
  | cons r rest => exact C_common (by simp at hl; omega)
end Go.Proofs.YticpenoicajakaaGreat
