/-
  Divisions that fit, of the program; divisions by digits.
-/
import Derived.Test.YtcjjdaifpboaaaaB4
import Derived.Test.YtcjjdaifpboaaaaDivPlain
set_option linter.unusedVariables false
set_option linter.unusedSimpArgs false
namespace Go.Proofs.Ytcjjdaifpboaaaa
open Go Go.Abs Go.Trial
variable {σ : Stack}

def pAt (ps : List Int) (i : Int) : Int := (ps[i.toNat]?).getD 0
def fitOk (s : Surv) (ps : List Int) (x : Seen) : Bool := !((sure s x && !decide (pAt ps x.f = pAt ps x.t)) || (agin s x && decide (pAt ps x.f = pAt ps x.t)))
theorem qI (a b : Int) : (a == b) = decide (a = b) := by rw [Bool.eq_iff_iff]; simp
theorem L_fit {s : Surv} (h : Sv s) {ps : List Int} (hp : (ps.length : Int) = s.w) : ∀ (m i : Nat), i + m = s.l.length →
    WL T [1, 2, 9, 10, 11] false f_trial_Survey_fits_l8 [(1, .lst ps.length (ps.flatMap intE)), (2, .cref s.enc), (9, .lst s.l.length (s.l.flatMap Seen.enc)), (10, .int .i64 s.l.length), (11, .int .i64 i)] σ
      (fun x e σ' => σ' = σ ∧ if allB (s.l.drop i) (fitOk s ps) then x = .exit 0 else x = .ret ∧ get e 4 = .bool false)
  | 0, i, hi => by
    refine WL_step e_trial_Survey_fits_l8 ?_
    have h1 : ¬ i < s.l.length := by omega
    have h2 : s.l.drop i = [] := List.drop_eq_nil_of_le (by omega)
    simp [-List.length_flatMap, -List.map_take, e_trial_Survey_fits_r0, e_trial_Survey_fits_r1, e_trial_Survey_fits_r2, e_trial_Survey_fits_r3, e_trial_Survey_fits_r4, e_trial_Survey_fits_r5, e_trial_Survey_fits_r6, e_trial_Survey_fits_r7, e_trial_Survey_fits_r9, h1, h2, allB]
  | m + 1, i, hi => by
    refine WL_step e_trial_Survey_fits_l8 ?_
    have h1 : i < s.l.length := by omega
    obtain ⟨x, hx⟩ : ∃ x, s.l[i]? = some x := ⟨_, List.getElem?_eq_getElem h1⟩
    have hn := h.n
    have hw := h.w
    have h4 := wnext h1 (by omega)
    have hv := h.l x (List.mem_of_getElem? hx)
    have ih := L_fit h hp m (i + 1) (by omega)
    have h2 := flat_at (f := Seen.enc) (w := 4) (fun _ => rfl) hx
    have hS := fun σ => @C_joined σ s x
    have hA := fun σ => @C_apart σ s x
    have e1 : allB (s.l.drop i) (fitOk s ps) = (fitOk s ps x && allB (s.l.drop (i + 1)) (fitOk s ps)) := by rw [dropS hx]; rfl
    rw [e1]
    have e2 : fitOk s ps x = !((sure s x && !decide (pAt ps x.f = pAt ps x.t)) || (agin s x && decide (pAt ps x.f = pAt ps x.t))) := rfl
    rw [e2]
    obtain ⟨f, t, d⟩ := x
    obtain ⟨F, rfl, hF⟩ := nat_of hv.1 hw.2
    obtain ⟨U, rfl, hU⟩ := nat_of hv.2.1 hw.2
    dsimp only at hv
    have lF : F < ps.length := by have := hv.1; omega
    have lU : U < ps.length := by have := hv.2.1; omega
    obtain ⟨a, ha⟩ : ∃ a, ps[F]? = some a := ⟨_, List.getElem?_eq_getElem lF⟩
    obtain ⟨b, hb⟩ : ∃ a, ps[U]? = some a := ⟨_, List.getElem?_eq_getElem lU⟩
    have a1 := flat_at (f := intE) (w := 1) (fun _ => rfl) ha
    have b1 := flat_at (f := intE) (w := 1) (fun _ => rfl) hb
    simp only [Nat.mul_one] at a1 b1
    have pa : pAt ps ({ f := (F : Int), t := (U : Int), d := d } : Seen).f = a := by simp [pAt, ha]
    have pb : pAt ps ({ f := (F : Int), t := (U : Int), d := d } : Seen).t = b := by simp [pAt, hb]
    rw [pa, pb]
    obtain ⟨p, hp'⟩ : ∃ p, p = decide (a = b) := ⟨_, rfl⟩
    have q1 : (a == b) = p := by rw [qI, hp']
    rw [← hp']
    clear hp' e1 e2 pa pb
    simp only [Seen.enc] at hS hA h2
    obtain ⟨sj, hsj⟩ : ∃ q, q = sure s ⟨F, U, d⟩ := ⟨_, rfl⟩
    obtain ⟨sa, hsa⟩ : ∃ q, q = agin s ⟨F, U, d⟩ := ⟨_, rfl⟩
    rw [← hsj] at hS ⊢
    rw [← hsa] at hA ⊢
    clear hsj hsa
    cases sj <;> cases sa <;> cases p <;> simp [-List.length_flatMap, -List.map_take, e_trial_Survey_fits_r0, e_trial_Survey_fits_r1, e_trial_Survey_fits_r2, e_trial_Survey_fits_r3, e_trial_Survey_fits_r4, e_trial_Survey_fits_r5, e_trial_Survey_fits_r6, e_trial_Survey_fits_r7, e_trial_Survey_fits_r9, h1, h2, h4, lF, lU, a1, b1, q1, hS, hA] <;> exact WL.to ih (by simp) rfl fun x e σ' hh => hh
theorem C_fits {s : Surv} (h : Sv s) {ps : List Int} (hp : (ps.length : Int) = s.w) : lim T (.call false i_trial_Survey_fits [.agg [.int .i64 s.w, .int .i64 s.lv, .lst s.l.length (s.l.flatMap Seen.enc)], .lst ps.length (ps.flatMap intE)] σ) = some (.val (.bool (allB s.l (fitOk s ps))) σ) := by
  refine call_of T_trial_Survey_fits e_trial_Survey_fits rfl ?_
  have hn := h.n
  simp [-List.length_flatMap, -List.map_take, e_trial_Survey_fits_r0, e_trial_Survey_fits_r1, e_trial_Survey_fits_r2, e_trial_Survey_fits_r3, e_trial_Survey_fits_r4, e_trial_Survey_fits_r5, e_trial_Survey_fits_r6, e_trial_Survey_fits_r7, e_trial_Survey_fits_r9]
  refine WL.to (L_fit (σ := [] :: σ) h hp s.l.length 0 (by omega)) (by simp) rfl ?_
  rintro x e σ' ⟨rfl, hh⟩
  rw [List.drop_zero] at hh
  cases hA : allB s.l (fitOk s ps)
  · rw [hA] at hh
    simp only [Bool.false_eq_true, if_false] at hh
    obtain ⟨rfl, g4⟩ := hh
    simp [g4]
  · rw [hA] at hh
    simp only [if_true] at hh
    subst hh
    simp [-List.length_flatMap, -List.map_take, e_trial_Survey_fits_r0, e_trial_Survey_fits_r1, e_trial_Survey_fits_r2, e_trial_Survey_fits_r3, e_trial_Survey_fits_r4, e_trial_Survey_fits_r5, e_trial_Survey_fits_r6, e_trial_Survey_fits_r7, e_trial_Survey_fits_r9]
theorem C_Fits {s : Surv} (hl : s.l.length ≤ 100000) {ps : List Int} : lim T (.call false i_trial_Fits [.agg [.int .i64 s.w, .int .i64 s.lv, .lst s.l.length (s.l.flatMap Seen.enc)], .lst ps.length (ps.flatMap intE)] σ) = some (.val (.bool (decide (sFault s = 0) && (decide ((ps.length : Int) = s.w) && allB s.l (fitOk s ps)))) σ) := by
  refine call_of T_trial_Fits e_trial_Fits rfl ?_
  have hf := fun σ => @C_checkS σ s hl
  by_cases h0 : sFault s = 0
  rotate_left
  · simp [-List.length_flatMap, -List.map_take, e_trial_Fits_r0, e_trial_Fits_r1, hf, h0]
  have h := sFault_sv h0
  by_cases hp : (ps.length : Int) = s.w
  rotate_left
  · simp [-List.length_flatMap, -List.map_take, e_trial_Fits_r0, e_trial_Fits_r1, hf, h0, hp]
  have hF := fun σ => @C_fits σ s h ps hp
  simp [-List.length_flatMap, -List.map_take, e_trial_Fits_r0, e_trial_Fits_r1, hf, h0, hp, hF]

theorem u64n {n : Nat} (h : n < 18446744073709551616) : IntKind.u64.wrap (n : Int) = n := by
  unfold IntKind.wrap
  simp [IntKind.signed, IntKind.bits]
  omega
/-- Digits of a number. -/
def dvF : Nat → Nat → List Int
  | 0, _ => []
  | m + 1, by' => ((by' % 4 : Nat) : Int) :: dvF m (by' / 4)
theorem dv_len : ∀ (m b : Nat), (dvF m b).length = m
  | 0, _ => rfl
  | m + 1, b => by simp [dvF, dv_len m]
theorem L_dv {w : Int} {W : Nat} (hW : w = W) (hWl : W ≤ 10) : ∀ (m i b : Nat) (acc : List Int), i + m = W → acc.length = i → b < 18446744073709551616 →
    WL T [0, 1, 5, 6] false f_law04_divided_l7 [(0, .int .i64 w), (1, .int .u64 b), (5, .sl σ.length 0 i 0 i 1), (6, .int .i64 i)] ([.cells i (acc.flatMap intE)] :: σ)
      (fun x e σ' => σ' = [.cells W ((acc ++ dvF m b).flatMap intE)] :: σ ∧ x = .exit 0 ∧ get e 5 = .sl σ.length 0 W 0 W 1)
  | 0, i, b, acc, hi, ha, hb => by
    refine WL_step e_law04_divided_l7 ?_
    have h1 : ¬ (i : Int) < w := by omega
    have h2 : i = W := by omega
    subst h2
    simp [-List.length_flatMap, -List.map_take, e_law04_divided_r0, e_law04_divided_r1, e_law04_divided_r2, e_law04_divided_r3, e_law04_divided_r4, e_law04_divided_r5, e_law04_divided_r6, e_law04_divided_r8, h1, dvF]
  | m + 1, i, b, acc, hi, ha, hb => by
    refine WL_step e_law04_divided_l7 ?_
    have h1 : (i : Int) < w := by omega
    have w1 := w64 (n := (i : Int) + 1) (by omega)
    have ih := L_dv hW hWl m (i + 1) (b / 4) (acc ++ [((b % 4 : Nat) : Int)]) (by omega) (by simp; omega) (by omega)
    have q1 : (b : Int).tmod 4 = ((b % 4 : Nat) : Int) := by rw [Int.tmod_eq_emod_of_nonneg (by omega)]; omega
    have q2 : IntKind.u64.wrap ((b : Int).tdiv 4) = ((b / 4 : Nat) : Int) := by
      rw [Int.tdiv_eq_ediv_of_nonneg (by omega)]
      have e : (b : Int) / 4 = ((b / 4 : Nat) : Int) := by omega
      rw [e]
      exact u64n (by omega)
    have q4 : IntKind.u64.wrap ((b : Int) / 4) = ((b / 4 : Nat) : Int) := by
      have e : (b : Int) / 4 = ((b / 4 : Nat) : Int) := by omega
      rw [e]
      exact u64n (by omega)
    have q3 : IntKind.i64.wrap ((b % 4 : Nat) : Int) = ((b % 4 : Nat) : Int) := w64 (by omega)
    have h5 := flat_len (f := intE) (w := 1) (fun _ => rfl) acc
    have h6 := k_self (f := intE) (w := 1) (fun _ => rfl) acc
    rw [ha] at h5 h6
    simp only [Nat.mul_one] at h5 h6
    have h7 : (i + 1) * 8 ≤ room := by unfold room; omega
    have e1 : (acc ++ [((b % 4 : Nat) : Int)]).flatMap intE = acc.flatMap intE ++ [.int .i64 ((b % 4 : Nat) : Int)] := by simp
    have e2 : (acc ++ [((b % 4 : Nat) : Int)]) ++ dvF m (b / 4) = acc ++ dvF (m + 1) b := by simp [dvF]
    rw [e1, e2] at ih
    generalize b % 4 = M at *
    generalize b / 4 = B at *
    simp [-List.length_flatMap, -List.map_take, e_law04_divided_r0, e_law04_divided_r1, e_law04_divided_r2, e_law04_divided_r3, e_law04_divided_r4, e_law04_divided_r5, e_law04_divided_r6, e_law04_divided_r8, h1, w1, q1, q2, q3, q4, h5, h6, h7]
    refine WL.to ih (by simp) (by simp) ?_
    exact fun x e σ' hh => hh
theorem C_divided {w : Int} {W : Nat} (hW : w = W) (hWl : W ≤ 10) {b : Nat} (hb : b < 18446744073709551616) (hσ : σ ≠ []) : lim T (.call false i_law04_divided [.int .i64 w, .int .u64 b] σ) = some (.val (.lst W ((dvF W b).flatMap intE)) σ) := by
  refine call_of T_law04_divided e_law04_divided rfl ?_
  simp [-List.length_flatMap, -List.map_take, e_law04_divided_r0, e_law04_divided_r1, e_law04_divided_r2, e_law04_divided_r3, e_law04_divided_r4, e_law04_divided_r5, e_law04_divided_r6, e_law04_divided_r8]
  refine WL.to (L_dv (σ := σ) hW hWl W 0 b [] (by omega) rfl hb) (by simp) (by simp) ?_
  rintro x e σ' ⟨rfl, rfl, g5⟩
  simp [-List.length_flatMap, -List.map_take, e_law04_divided_r8, g5]
  have := k_out (f := intE) (w := 1) (fun _ => rfl) (fun x => by simp) (l := dvF W b) (j := 0) (v := W) (bs := [.cells W ((dvF W b).flatMap intE)]) hσ rfl
  rw [dv_len] at this
  rw [this]
  simp

def pF (ps : List Int) : Nat → Int := fun z => (ps[z]?).getD 0
theorem pAt_eq (ps : List Int) (i : Int) : pAt ps i = pF ps i.toNat := rfl
theorem fit_iff {s : Surv} {ps : List Int} : allB s.l (fitOk s ps) = true ↔ Fit s (pF ps) := by
  rw [allB_iff]
  unfold Fit fitOk
  constructor
  · intro h x hx
    have := h x hx
    rw [pAt_eq, pAt_eq] at this
    constructor
    · intro hs
      apply Classical.byContradiction
      intro hne
      rw [hs, decide_eq_false hne] at this
      simp at this
    · intro ha he
      rw [ha, decide_eq_true he] at this
      simp at this
  · intro h x hx
    obtain ⟨h1, h2⟩ := h x hx
    rw [pAt_eq, pAt_eq]
    by_cases he : pF ps x.f.toNat = pF ps x.t.toNat
    · have h4 : agin s x = false := by
        cases h4 : agin s x
        · rfl
        · exact absurd he (h2 h4)
      rw [decide_eq_true he, h4]
      simp
    · have h3 : sure s x = false := by
        cases h3 : sure s x
        · rfl
        · exact absurd (h1 h3) he
      rw [decide_eq_false he, h3]
      simp
theorem fit_gI {s : Surv} (h : Sv s) {W : Nat} (hW : s.w.toNat = W) {f : Lab} (hf : Fit s fun z => (f z : Int)) : allB s.l (fitOk s (gI W f)) = true := by
  rw [fit_iff]
  have key : ∀ z, z < W → pF (gI W f) z = f z := fun z hz => by unfold pF; rw [gI_at hz]; rfl
  intro x hx
  have hv := h.l x hx
  rw [key _ (by omega), key _ (by omega)]
  exact hf x hx
theorem fit_dv {ps : List Int} {W a : Nat} (hl : ps.length = W) (ha : a < W) : ps[a]? = some (pF ps a) := by
  unfold pF
  rw [List.getElem?_eq_getElem (by omega)]
  rfl
end Go.Proofs.Ytcjjdaifpboaaaa
