/-
  The lattice: as a list, and as a loop over a function.
-/
import Derived.Test.YticpenoicajakaaK5
import Derived.Test.YticpenoicajakaaBase2
set_option linter.unusedVariables false
set_option linter.unusedSimpArgs false
namespace Go.Trem
open Go Go.Abs

theorem prog_mem {lo hi st x : Int} (hs : 0 < st) (h : x ∈ prog lo hi st) : lo ≤ x ∧ x ≤ hi := by
  simp only [prog, List.mem_map, List.mem_range] at h
  obtain ⟨i, hi', rfl⟩ := h
  have h1 : 0 ≤ (i : Int) * st := Int.mul_nonneg (by omega) (by omega)
  have h2 : (i : Int) ≤ (hi - lo) / st := by omega
  have h3 : (i : Int) * st ≤ (hi - lo) / st * st := Int.mul_le_mul_of_nonneg_right h2 (by omega)
  have h4 : (hi - lo) / st * st ≤ hi - lo := Int.ediv_mul_le _ (by omega)
  omega

theorem len_flat {α β : Type} {f : α → List β} {c : Nat} {l : List α} (h : ∀ x ∈ l, (f x).length = c) : (l.flatMap f).length = l.length * c := by
  induction l with
  | nil => simp
  | cons a l ih =>
    rw [List.flatMap_cons, List.length_append, h a (by simp), ih fun x hx => h x (by simp [hx]), List.length_cons, Nat.succ_mul]
    omega

theorem zs_len {n : Net} {x y z : Int} : (zs n x y z).length = (prog z n.high.z n.step).length := by simp [zs]
theorem ys_len {n : Net} {x y : Int} : (ys n x y).length = (prog y n.high.y n.step).length * (prog n.low.z n.high.z n.step).length := len_flat fun _ _ => zs_len
theorem xs_len {n : Net} {x : Int} : (xs n x).length = (prog x n.high.x n.step).length * ((prog n.low.y n.high.y n.step).length * (prog n.low.z n.high.z n.step).length) := len_flat fun _ _ => ys_len
theorem prog_len {lo hi st : Int} (h : lo ≤ hi) (hs : 0 < st) : ((prog lo hi st).length : Int) = (hi - lo).tdiv st + 1 := by
  have : 0 ≤ (hi - lo) / st := Int.ediv_nonneg (by omega) (by omega)
  rw [Int.tdiv_eq_ediv_of_nonneg (by omega)]
  simp only [prog, List.length_map, List.length_range]
  omega

theorem zs_nil {n : Net} {x y z : Int} (h : n.high.z < z) (hs : 0 < n.step) : zs n x y z = [] := by simp [zs, prog_nil h hs]
theorem zs_cons {n : Net} {x y z : Int} (h : z ≤ n.high.z) (hs : 0 < n.step) : zs n x y z = ⟨x, y, z⟩ :: zs n x y (z + n.step) := by simp [zs, prog_cons h hs]
theorem ys_nil {n : Net} {x y : Int} (h : n.high.y < y) (hs : 0 < n.step) : ys n x y = [] := by simp [ys, prog_nil h hs]
theorem ys_cons {n : Net} {x y : Int} (h : y ≤ n.high.y) (hs : 0 < n.step) : ys n x y = zs n x y n.low.z ++ ys n x (y + n.step) := by simp [ys, prog_cons h hs]
theorem xs_nil {n : Net} {x : Int} (h : n.high.x < x) (hs : 0 < n.step) : xs n x = [] := by simp [xs, prog_nil h hs]
theorem xs_cons {n : Net} {x : Int} (h : x ≤ n.high.x) (hs : 0 < n.step) : xs n x = ys n x n.low.y ++ xs n (x + n.step) := by simp [xs, prog_cons h hs]

end Go.Trem
namespace Go.Proofs.Yticpenoicajakaa
open Go Go.Abs Go.Trem
variable {σ : Stack}

/-- The box of a valid network, and its step. -/
structure Bx (n : Net) : Prop where
  st : 1 ≤ n.step ∧ n.step ≤ 20000
  lx : -20000 ≤ n.low.x ∧ n.low.x ≤ 20000
  ly : -20000 ≤ n.low.y ∧ n.low.y ≤ 20000
  lz : -20000 ≤ n.low.z ∧ n.low.z ≤ 20000
  hx : n.low.x ≤ n.high.x ∧ n.high.x ≤ 20000
  hy : n.low.y ≤ n.high.y ∧ n.high.y ≤ 20000
  hz : n.low.z ≤ n.high.z ∧ n.high.z ≤ 20000
  len : (lattice n).length ≤ 2000

theorem net_bx {n : Net} (h : n.ok = true) : Bx n := by
  simp only [Net.ok, Bool.and_eq_true, decide_eq_true_eq] at h
  have h0 := net_pre.1 h.1
  simp only [Pt.ok_iff] at h0
  refine ⟨by omega, by omega, by omega, by omega, by omega, by omega, by omega, ?_⟩
  have h1 := h.2
  have e1 := prog_len (lo := n.low.x) (hi := n.high.x) (st := n.step) (by omega) (by omega)
  have e2 := prog_len (lo := n.low.y) (hi := n.high.y) (st := n.step) (by omega) (by omega)
  have e3 := prog_len (lo := n.low.z) (hi := n.high.z) (st := n.step) (by omega) (by omega)
  unfold Net.count steps at h1
  rw [← e1, ← e2, ← e3] at h1
  have h2 : ((lattice n).length : Int) ≤ 2000 := by
    unfold lattice
    rw [xs_len]
    push_cast
    rw [← Int.mul_assoc]
    exact h1
  omega

theorem lattice_ok {n : Net} (h : Bx n) {p : Pt} (hp : p ∈ lattice n) : p.ok = true := by
  have h0 := h.st
  have a1 := h.lx
  have a2 := h.ly
  have a3 := h.lz
  have b1 := h.hx
  have b2 := h.hy
  have b3 := h.hz
  simp only [lattice, xs, ys, zs, List.mem_flatMap, List.mem_map] at hp
  obtain ⟨x, hx, y, hy, z, hz, rfl⟩ := hp
  have h1 := prog_mem (by omega) hx
  have h2 := prog_mem (by omega) hy
  have h3 := prog_mem (by omega) hz
  rw [Pt.ok_iff]
  dsimp only
  omega

theorem flat_self {α : Type} {f : α → List D} {w : Nat} (hw : ∀ x, (f x).length = w) (l : List α) : (l.flatMap f).take (l.length * w) = l.flatMap f :=
  List.take_of_length_le (by rw [flat_len hw]; exact Nat.le_refl _)

/-- One element more, at the end of the newest segment's block j. -/
theorem cleanPts (l : List Pt) : D.cleanL (l.flatMap Pt.enc) = true := cleanL_flat fun x _ => by simp

theorem L_lz {n : Net} (h : Bx n) {x y : Int} : ∀ (m : Nat) (acc : List Pt) (z : Int), n.low.z ≤ z → z ≤ 40000 → (zs n x y z).length = m → acc.length + (zs n x y z).length ≤ 100000 →
    WL T [1, 3, 4, 5, 6] false f_ref09_Lattice_l10 [(1, .cref n.enc), (3, .sl σ.length 0 acc.length 0 acc.length 3), (4, .int .i64 x), (5, .int .i64 y), (6, .int .i64 z)] ([.cells acc.length (acc.flatMap Pt.enc)] :: σ)
      (fun x' e σ' => x' = .exit 4 ∧ get e 1 = .cref n.enc ∧ get e 3 = .sl σ.length 0 (acc ++ zs n x y z).length 0 (acc ++ zs n x y z).length 3 ∧ get e 4 = .int .i64 x ∧ get e 5 = .int .i64 y ∧
        σ' = [.cells (acc ++ zs n x y z).length ((acc ++ zs n x y z).flatMap Pt.enc)] :: σ) := by
  intro m
  have h0 := h.st
  have h3 := h.hz
  have h4 := h.lz
  induction m with
  | zero =>
    intro acc z hz hz' hm hb
    refine WL_step e_ref09_Lattice_l10 ?_
    by_cases hc : z ≤ n.high.z
    · rw [zs_cons hc (by omega)] at hm; cases hm
    · simp [-List.length_flatMap, -List.map_take, e_ref09_Lattice_r0, e_ref09_Lattice_r1, e_ref09_Lattice_r2, e_ref09_Lattice_r3, e_ref09_Lattice_r4, e_ref09_Lattice_r5, e_ref09_Lattice_r6, e_ref09_Lattice_r7, e_ref09_Lattice_r8, e_ref09_Lattice_r9, e_ref09_Lattice_r11, e_ref09_Lattice_r13, e_ref09_Lattice_r15, hc, zs_nil (show n.high.z < z by omega) (show 0 < n.step by omega)]
  | succ m ih =>
    intro acc z hz hz' hm hb
    refine WL_step e_ref09_Lattice_l10 ?_
    by_cases hc : z ≤ n.high.z
    · have e := zs_cons (x := x) (y := y) hc (show 0 < n.step by omega)
      rw [e] at hm hb
      simp only [List.length_cons, Nat.add_right_cancel_iff] at hm hb
      have ih' := ih (acc ++ [⟨x, y, z⟩]) (z + n.step) (by omega) (by omega) hm (by simp; omega)
      have w1 := w64 (n := z + n.step) (by omega)
      have w2 : (acc.length + 1) * 24 ≤ room := by unfold room; omega
      have w3 := flat_self (f := Pt.enc) (w := 3) (fun _ => rfl) acc
      have w4 := flat_len (f := Pt.enc) (w := 3) (fun _ => rfl) acc
      simp [-List.length_flatMap, -List.map_take, e_ref09_Lattice_r0, e_ref09_Lattice_r1, e_ref09_Lattice_r2, e_ref09_Lattice_r3, e_ref09_Lattice_r4, e_ref09_Lattice_r5, e_ref09_Lattice_r6, e_ref09_Lattice_r7, e_ref09_Lattice_r8, e_ref09_Lattice_r9, e_ref09_Lattice_r11, e_ref09_Lattice_r13, e_ref09_Lattice_r15, hc, w1, w2, w3, w4]
      refine WL.to ih' (by simp) (by simp) fun x' e' σ' hh => ?_
      rw [e]
      simpa using hh
    · rw [zs_nil (by omega) (by omega)] at hm; cases hm

theorem L_ly {n : Net} (h : Bx n) {x : Int} : ∀ (m : Nat) (acc : List Pt) (y : Int), n.low.y ≤ y → y ≤ 40000 → (prog y n.high.y n.step).length = m → acc.length + (ys n x y).length ≤ 100000 →
    WL T [1, 3, 4, 5] false f_ref09_Lattice_l12 [(1, .cref n.enc), (3, .sl σ.length 0 acc.length 0 acc.length 3), (4, .int .i64 x), (5, .int .i64 y)] ([.cells acc.length (acc.flatMap Pt.enc)] :: σ)
      (fun x' e σ' => x' = .exit 2 ∧ get e 1 = .cref n.enc ∧ get e 3 = .sl σ.length 0 (acc ++ ys n x y).length 0 (acc ++ ys n x y).length 3 ∧ get e 4 = .int .i64 x ∧
        σ' = [.cells (acc ++ ys n x y).length ((acc ++ ys n x y).flatMap Pt.enc)] :: σ) := by
  intro m
  have h0 := h.st
  have h3 := h.hy
  have h4 := h.ly
  have h5 := h.hz
  have h6 := h.lz
  induction m with
  | zero =>
    intro acc y hy hy' hm hb
    refine WL_step e_ref09_Lattice_l12 ?_
    by_cases hc : y ≤ n.high.y
    · rw [prog_cons hc (by omega)] at hm; cases hm
    · simp [-List.length_flatMap, -List.map_take, e_ref09_Lattice_r0, e_ref09_Lattice_r1, e_ref09_Lattice_r2, e_ref09_Lattice_r3, e_ref09_Lattice_r4, e_ref09_Lattice_r5, e_ref09_Lattice_r6, e_ref09_Lattice_r7, e_ref09_Lattice_r8, e_ref09_Lattice_r9, e_ref09_Lattice_r11, e_ref09_Lattice_r13, e_ref09_Lattice_r15, hc, ys_nil (show n.high.y < y by omega) (show 0 < n.step by omega)]
  | succ m ih =>
    intro acc y hy hy' hm hb
    refine WL_step e_ref09_Lattice_l12 ?_
    by_cases hc : y ≤ n.high.y
    · have e := ys_cons (x := x) hc (show 0 < n.step by omega)
      rw [prog_cons hc (by omega)] at hm
      rw [e] at hb
      simp only [List.length_cons, Nat.add_right_cancel_iff, List.length_append] at hm hb
      have ih' := ih (acc ++ zs n x y n.low.z) (y + n.step) (by omega) (by omega) hm (by simp; omega)
      have w1 := w64 (n := y + n.step) (by omega)
      simp [-List.length_flatMap, -List.map_take, e_ref09_Lattice_r0, e_ref09_Lattice_r1, e_ref09_Lattice_r2, e_ref09_Lattice_r3, e_ref09_Lattice_r4, e_ref09_Lattice_r5, e_ref09_Lattice_r6, e_ref09_Lattice_r7, e_ref09_Lattice_r8, e_ref09_Lattice_r9, e_ref09_Lattice_r11, e_ref09_Lattice_r13, e_ref09_Lattice_r15, hc]
      refine WL.to (L_lz (σ := σ) h (x := x) (y := y) _ acc n.low.z (by omega) (by omega) rfl (by omega)) (by simp) (by simp) ?_
      rintro x' e' σ' ⟨rfl, g1, g2, g3, g4, rfl⟩
      simp [-List.length_flatMap, -List.map_take, e_ref09_Lattice_r11, g1, g2, g3, g4, w1]
      refine WL.to ih' (by simp) (by simp) fun x' e' σ' hh => ?_
      rw [e]
      simpa [List.append_assoc] using hh
    · rw [prog_nil (by omega) (by omega)] at hm; cases hm

theorem L_lx {n : Net} (h : Bx n) : ∀ (m : Nat) (acc : List Pt) (x : Int), n.low.x ≤ x → x ≤ 40000 → (prog x n.high.x n.step).length = m → acc.length + (xs n x).length ≤ 100000 →
    WL T [1, 3, 4] false f_ref09_Lattice_l14 [(1, .cref n.enc), (3, .sl σ.length 0 acc.length 0 acc.length 3), (4, .int .i64 x)] ([.cells acc.length (acc.flatMap Pt.enc)] :: σ)
      (fun x' e σ' => x' = .exit 0 ∧ get e 3 = .sl σ.length 0 (acc ++ xs n x).length 0 (acc ++ xs n x).length 3 ∧
        σ' = [.cells (acc ++ xs n x).length ((acc ++ xs n x).flatMap Pt.enc)] :: σ) := by
  intro m
  have h0 := h.st
  have h3 := h.hx
  have h4 := h.lx
  have h5 := h.hy
  have h6 := h.ly
  induction m with
  | zero =>
    intro acc x hx hx' hm hb
    refine WL_step e_ref09_Lattice_l14 ?_
    by_cases hc : x ≤ n.high.x
    · rw [prog_cons hc (by omega)] at hm; cases hm
    · simp [-List.length_flatMap, -List.map_take, e_ref09_Lattice_r0, e_ref09_Lattice_r1, e_ref09_Lattice_r2, e_ref09_Lattice_r3, e_ref09_Lattice_r4, e_ref09_Lattice_r5, e_ref09_Lattice_r6, e_ref09_Lattice_r7, e_ref09_Lattice_r8, e_ref09_Lattice_r9, e_ref09_Lattice_r11, e_ref09_Lattice_r13, e_ref09_Lattice_r15, hc, xs_nil (show n.high.x < x by omega) (show 0 < n.step by omega)]
  | succ m ih =>
    intro acc x hx hx' hm hb
    refine WL_step e_ref09_Lattice_l14 ?_
    by_cases hc : x ≤ n.high.x
    · have e := xs_cons hc (show 0 < n.step by omega)
      rw [prog_cons hc (by omega)] at hm
      rw [e] at hb
      simp only [List.length_cons, Nat.add_right_cancel_iff, List.length_append] at hm hb
      have ih' := ih (acc ++ ys n x n.low.y) (x + n.step) (by omega) (by omega) hm (by simp; omega)
      have w1 := w64 (n := x + n.step) (by omega)
      simp [-List.length_flatMap, -List.map_take, e_ref09_Lattice_r0, e_ref09_Lattice_r1, e_ref09_Lattice_r2, e_ref09_Lattice_r3, e_ref09_Lattice_r4, e_ref09_Lattice_r5, e_ref09_Lattice_r6, e_ref09_Lattice_r7, e_ref09_Lattice_r8, e_ref09_Lattice_r9, e_ref09_Lattice_r11, e_ref09_Lattice_r13, e_ref09_Lattice_r15, hc]
      refine WL.to (L_ly (σ := σ) h (x := x) _ acc n.low.y (by omega) (by omega) rfl (by omega)) (by simp) (by simp) ?_
      rintro x' e' σ' ⟨rfl, g1, g2, g3, rfl⟩
      simp [-List.length_flatMap, -List.map_take, e_ref09_Lattice_r13, g1, g2, g3, w1]
      refine WL.to ih' (by simp) (by simp) fun x' e' σ' hh => ?_
      rw [e]
      simpa [List.append_assoc] using hh
    · rw [prog_nil (by omega) (by omega)] at hm; cases hm

/-- A slice of the newest segment, written out at the end of a call. -/
theorem frz_out {α : Type} {f : α → List D} {w : Nat} (hw : ∀ x, (f x).length = w) (hc : ∀ x, D.cleanL (f x) = true) {l : List α} {j v : Nat} {bs : List Blk} (hσ : σ ≠ []) (hj : bs[j]? = some (.cells v (l.flatMap f))) :
    frz (σ.length - 1) 16 (.sl σ.length j v 0 l.length w) (bs :: σ) = (.lst l.length (l.flatMap f), bs.set j .dead :: σ) := by
  have h3 : ¬ σ.length ≤ σ.length - 1 := by have := List.length_pos_iff.2 hσ; omega
  rw [frz_sl h3 (cs := l.flatMap f) (by simp [hj]) (by omega)]
  have h4 := flat_self hw l
  have h5 : D.cleanL (l.flatMap f) = true := cleanL_flat fun x _ => hc x
  simp [h4, h5]

theorem C_Lattice {n : Net} (h : n.ok = true) (hσ : σ ≠ []) :
    lim T (.call false i_ref09_Lattice [.agg [.lst n.st.length (n.st.flatMap Stn.enc), .int .i64 n.s0.lo, .int .i64 n.s0.hi, .int .i64 n.s1.lo, .int .i64 n.s1.hi, .int .i64 n.low.x, .int .i64 n.low.y, .int .i64 n.low.z, .int .i64 n.high.x, .int .i64 n.high.y, .int .i64 n.high.z, .int .i64 n.step]] σ) = some (.val (.lst (lattice n).length ((lattice n).flatMap Pt.enc)) σ) := by
  refine call_of T_ref09_Lattice e_ref09_Lattice rfl ?_
  have hb := net_bx h
  have b1 := hb.lx
  have b2 := hb.len
  simp [-List.length_flatMap, -List.map_take, e_ref09_Lattice_r0, e_ref09_Lattice_r1, e_ref09_Lattice_r2, e_ref09_Lattice_r3, e_ref09_Lattice_r4, e_ref09_Lattice_r5, e_ref09_Lattice_r6, e_ref09_Lattice_r7, e_ref09_Lattice_r8, e_ref09_Lattice_r9, e_ref09_Lattice_r11, e_ref09_Lattice_r13, e_ref09_Lattice_r15]
  refine WL.to (L_lx (σ := σ) hb _ [] n.low.x (by omega) (by omega) rfl (by have : xs n n.low.x = lattice n := rfl; rw [this]; simp; omega)) (by simp) (by simp) ?_
  rintro x e σ' ⟨rfl, h2, rfl⟩
  have e1 : xs n n.low.x = lattice n := rfl
  simp only [List.nil_append, e1] at h2 ⊢
  simp [-List.length_flatMap, -List.map_take, h2, e_ref09_Lattice_r15]
  rw [frz_out (f := Pt.enc) (fun _ => rfl) (fun x => by simp) hσ rfl]
  simp
end Go.Proofs.Yticpenoicajakaa
