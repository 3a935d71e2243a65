/-
  TopSlope.
-/
import Derived.Test.YtehandllpmlcoaaT1
import Derived.Test.YtehandllpmlcoaaTremTyK
set_option linter.unusedVariables false
set_option linter.unusedSimpArgs false
namespace Go.Proofs.Ytehandllpmlcoaa
open Go Go.Abs Go.Trial
variable {σ : Stack}

theorem Rock.mulB {k q : Int} (hk : 1 ≤ k ∧ k ≤ 50) (hq : 0 ≤ q ∧ q ≤ 1000) : 0 ≤ k * q ∧ k * q ≤ 50000 := by
  have := Int.mul_le_mul hk.2 hq.2 hq.1 (by omega)
  have := Int.mul_nonneg (show 0 ≤ k by omega) hq.1
  omega
def u16E (n : Int) : List D := [.int .u16 n]
def qOf (x : Int) : Int := x.tmod 1001
theorem qOf_b {x : Int} (h : 0 ≤ x) : 0 ≤ qOf x ∧ qOf x ≤ 1000 := by
  unfold qOf
  have h1 := Int.tmod_lt_of_pos x (show (0 : Int) < 1001 by omega)
  have h2 := Int.tmod_nonneg 1001 h
  omega
def slStep (k x : Int) : Step := ⟨qOf x, ⟨k * qOf x, k * qOf x⟩⟩
def slTest (k : Int) (l : List Int) : Test := ⟨⟨0, 9⟩, ⟨max 0 (k - 9), k + 9⟩, ⟨0, 2⟩, l.map (slStep k)⟩
theorem sl_agr {k : Int} (hk : 1 ≤ k ∧ k ≤ 50) {l : List Int} : Agr (slTest k l) ⟨0, k, 0⟩ := by
  refine ⟨by simp [slTest], by simp only [slTest]; omega, by simp [slTest], ?_⟩
  intro s hs
  simp only [slTest, List.mem_map] at hs
  obtain ⟨x, hx, rfl⟩ := hs
  simp [slStep, Cv.drop]
theorem sl_fault {k : Int} (hk : 1 ≤ k ∧ k ≤ 50) {l : List Int} (hl : l.length ≤ 6) (h0 : ∀ x ∈ l, 0 ≤ x) : fault (slTest k l) = 0 := by
  unfold fault
  rw [if_neg (by simp [slTest]; omega), if_pos]
  have b1 : boxOk (slTest k l) = true := by
    have c1 : (slTest k l).a = ⟨0, 9⟩ := rfl
    have c2 : (slTest k l).b = ⟨max 0 (k - 9), k + 9⟩ := rfl
    have c3 : (slTest k l).c = ⟨0, 2⟩ := rfl
    have d1 : (0 : Int) ≤ max 0 (k - 9) ∧ max 0 (k - 9) ≤ k + 9 ∧ k + 9 ≤ 10000 ∧ k + 9 - max 0 (k - 9) < 40 := by omega
    simp [boxOk, Rg.right, c1, c2, c3, d1]
  rw [b1, Bool.true_and]
  refine allB_iff.2 fun s hs => ?_
  obtain ⟨x, hx, rfl⟩ := List.mem_map.1 (show s ∈ l.map (slStep k) from hs)
  have hq := qOf_b (h0 x hx)
  have hm := Rock.mulB hk hq
  have d1 : -2000000000 ≤ k * qOf x ∧ k * qOf x ≤ 2000000000 := by omega
  simp [slStep, Step.ok, inn, Rg.drops, Rg.right, hq, d1]
theorem sl_ag {k : Int} (hk : 1 ≤ k ∧ k ≤ 50) {l : List Int} (hl : l.length ≤ 6) (h0 : ∀ x ∈ l, 0 ≤ x) : agT (slTest k l) ⟨0, k, 0⟩ = true := by
  have h := sl_agr hk (l := l)
  simp only [agT, sl_fault hk hl h0, agB, agS, Bool.and_eq_true, decide_true, inn_iff, allB_iff, true_and]
  exact ⟨⟨h.a, h.b, h.c⟩, h.s⟩

/-- The bed and its model, as values. -/
def bedD (h k : Int) : List D := Rock.Bed.enc (Rock.aloneB h k)
def mdlD (h : Int) : List D := Rock.Mdl.enc (Rock.aloneM h)
theorem bedD_len {h k : Int} : (bedD h k).length = 9 := rfl
theorem mdlD_len {h : Int} : (mdlD h).length = 2 := rfl
theorem bedD_take {h k : Int} : (bedD h k).take 9 = bedD h k := rfl
theorem mdlD_take {h : Int} : (mdlD h).take 2 = mdlD h := rfl
theorem bedD_clean {h k : Int} : D.cleanL (bedD h k) = true := by simp [bedD, D.clean, cl_rw, cl_bore]
theorem mdlD_clean {h : Int} : D.cleanL (mdlD h) = true := by simp [mdlD, D.clean, cl_int]
theorem C_run1 {h k q : Int} (hh : 1000 ≤ h ∧ h ≤ 2000) (hk : 1 ≤ k ∧ k ≤ 50) (hq : 0 ≤ q ∧ q ≤ 1000) (hσ : σ ≠ []) :
    lim T (.call false i_rock_Play [.agg (bedD h k), .agg (mdlD h), .lst 2 [.lst 1 [.int .i64 (-10000)], .lst 1 [.int .i64 q]]] σ) =
      some (.val (.tup [.agg [.lst 3 [.lst 1 [.int .i64 h, .int .i64 0, .int .i64 0], .lst 1 [.int .i64 (h + 10000), .int .i64 0, .int .i64 0], .lst 1 [.int .i64 (h + 10000 - q), .int .i64 0, .int .i64 0]], .lst 2 [.lst 1 [.int .i64 0, .int .i64 0, .int .i64 0], .lst 1 [.int .i64 q, .int .i64 0, .int .i64 0]]], .int .i64 0]) σ) := by
  have hP := C_Play (σ := σ) (b := Rock.aloneB h k) (m := Rock.aloneM h) (plan := [[-10000], [q]]) (by simp [Rock.aloneB, Rock.three]) (by simp [Rock.aloneB]) (by simp [Rock.aloneM]) (by simp [Rock.aloneM]) (by simp) (by simp) hσ
  have hE : playE (Rock.aloneB h k) (Rock.aloneM h) [[-10000], [q]] = 0 := by simp [playE, Rock.alone_bd hh hk, Rock.alone_plan hq, Rock.alone_run hh hq]
  have hD : playD (Rock.aloneB h k) (Rock.aloneM h) [[-10000], [q]] = .agg [.lst 3 [.lst 1 [.int .i64 h, .int .i64 0, .int .i64 0], .lst 1 [.int .i64 (h + 10000), .int .i64 0, .int .i64 0], .lst 1 [.int .i64 (h + 10000 - q), .int .i64 0, .int .i64 0]], .lst 2 [.lst 1 [.int .i64 0, .int .i64 0, .int .i64 0], .lst 1 [.int .i64 q, .int .i64 0, .int .i64 0]]] := by
    simp [playD, hE, Rock.alone_run hh hq, stL]
  rw [hD, hE] at hP
  exact hP
theorem C_press1 {h k x : Int} (hh : 1000 ≤ h ∧ h ≤ 2000) (hk : 1 ≤ k ∧ k ≤ 50) (hx : h ≤ x ∧ x ≤ 1000000) (hσ : σ ≠ []) :
    lim T (.call false i_rock_Pressures [.agg (bedD h k), .agg (mdlD h), .lst 1 [.int .i64 x, .int .i64 0, .int .i64 0]] σ) = some (.val (.tup [.lst 1 [.int .i64 (k * (x - h))], .int .i64 0]) σ) := by
  have hP := C_Pressures (σ := σ) (b := Rock.aloneB h k) (m := Rock.aloneM h) (s := [⟨x, 0, 0⟩]) (by simp [Rock.aloneB, Rock.three]) (by simp [Rock.aloneB]) (by simp [Rock.aloneM]) (by simp [Rock.aloneM]) (by simp) hσ
  have h0 : 0 ≤ k * (x - h) := Int.mul_nonneg (by omega) (by omega)
  have hm : max 0 (k * (x - h)) = k * (x - h) := by omega
  have hD : pressD (Rock.aloneB h k) (Rock.aloneM h) [⟨x, 0, 0⟩] = .tup [.lst 1 [.int .i64 (k * (x - h))], .int .i64 0] := by
    simp [pressD, pressOk, Rock.alone_bd hh hk, Rock.alone_ok (show 1 ≤ x ∧ x ≤ 1000000 by omega), Rock.alone_press hh (show 1 ≤ x by omega), hm]
  rw [hD] at hP
  exact hP

/-! ### The rounds -/
theorem u16_at {l : List Int} {j : Nat} {x : Int} (h : l[j]? = some x) : ((l.flatMap u16E).drop j).take 1 = [.int .u16 x] := by
  have := flat_at (f := u16E) (w := 1) (fun _ => rfl) h
  simpa [u16E] using this
def dsL (k : Int) (l : List Int) : List Int := l.map fun x => k * qOf x
theorem step_len (l : List Step) : (l.flatMap Step.enc).length = l.length * 3 := flat_len (f := Step.enc) (w := 3) (fun _ => rfl) l
theorem L_slope {h k other : Int} {l : List Int} (hh : 1000 ≤ h ∧ h ≤ 2000) (hk : 1 ≤ k ∧ k ≤ 50) (ho : 0 ≤ other ∧ other ≤ 65535) (hl : l.length ≤ 6) (h0 : ∀ x ∈ l, 0 ≤ x ∧ x ≤ 65535) : ∀ (n i : Nat), i + n = l.length →
    WL T [2, 3, 10, 11, 12, 13, 14, 15] false f_top_TopSlope_l23 [(2, .lst l.length (l.flatMap u16E)), (3, .int .u16 other), (10, .int .i64 k), (11, .own 0 (bedD h k)), (12, .own 0 (mdlD h)),
      (13, .own 0 [.int .i64 0, .int .i64 9, .int .i64 (max 0 (k - 9)), .int .i64 (k + 9), .int .i64 0, .int .i64 2, .sl σ.length 0 i 0 i 3]), (14, .sl σ.length 1 i 0 i 1), (15, .int .i64 i)]
      ([.cells i (((slTest k l).st.take i).flatMap Step.enc), .cells i (((dsL k l).take i).flatMap Rock.intE)] :: σ)
      (fun x e σ' => x = .exit 0 ∧ get e 2 = .lst l.length (l.flatMap u16E) ∧ get e 3 = .int .u16 other ∧ get e 10 = .int .i64 k ∧
        get e 13 = .own 0 [.int .i64 0, .int .i64 9, .int .i64 (max 0 (k - 9)), .int .i64 (k + 9), .int .i64 0, .int .i64 2, .sl σ.length 0 l.length 0 l.length 3] ∧
        get e 14 = .sl σ.length 1 (l.length + 1) 0 (l.length + 1) 1 ∧ σ' = [.cells l.length ((slTest k l).st.flatMap Step.enc), .cells (l.length + 1) ((dsL k (l ++ [other])).flatMap Rock.intE)] :: σ)
  | 0, i, hi => by
    refine WL_step e_top_TopSlope_l23 ?_
    obtain rfl : i = l.length := by omega
    have hq := qOf_b ho.1
    have hR := fun σ hσ => C_run1 (σ := σ) hh hk hq hσ
    have hP1 := fun σ hσ => C_press1 (σ := σ) hh hk (x := h + 10000) (by omega) hσ
    have hP2 := fun σ hσ => C_press1 (σ := σ) hh hk (x := h + 10000 - qOf other) (by omega) hσ
    have hqe : other.tmod 1001 = qOf other := rfl
    have w1 := w64 (n := other) (by omega)
    have e1 : (slTest k l).st.take l.length = (slTest k l).st := List.take_of_length_le (by simp [slTest])
    have e2 : (dsL k l).take l.length = dsL k l := List.take_of_length_le (by simp [dsL])
    have e3 : k * (h + 10000 - h) = k * 10000 := by congr 1; omega
    have e4 : k * (h + 10000 - qOf other - h) = k * (10000 - qOf other) := by congr 1; omega
    have e5 : k * 10000 - k * (10000 - qOf other) = k * qOf other := by rw [← Int.mul_sub]; congr 1; omega
    rw [e3] at hP1
    rw [e4] at hP2
    have hm := Rock.mulB hk hq
    have w5 := w64 (n := k * qOf other) (by omega)
    have f1 : ((dsL k l).flatMap Rock.intE).length = l.length := by rw [int_len]; simp [dsL]
    have f2 : ((dsL k l).flatMap Rock.intE).take l.length = (dsL k l).flatMap Rock.intE := List.take_of_length_le (by omega)
    have f3 : (l.length + 1) * 8 ≤ room := by unfold room; omega
    generalize hp1 : k * 10000 = p1 at *
    generalize hp2 : k * (10000 - qOf other) = p2 at *
    simp [-List.length_flatMap, -List.map_take, eF, w1, hqe, hR, hP1, hP2, bedD_len, bedD_take, mdlD_len, mdlD_take, bedD_clean, mdlD_clean, e1, e2, e5, f1, f2, f3, w5]
    refine WL_step e_top_TopSlope_l23 ?_
    have w6 := w64 (n := (l.length : Int) + 1) (by omega)
    have h9 : ¬ (l.length : Int) + 1 ≤ (l.length : Int) := by omega
    simp [-List.length_flatMap, -List.map_take, eF, bedD_clean, mdlD_clean, dsL, w6, h9]
  | n + 1, i, hi => by
    refine WL_step e_top_TopSlope_l23 ?_
    have hil : i < l.length := by omega
    obtain ⟨x, hx⟩ : ∃ x, l[i]? = some x := ⟨_, List.getElem?_eq_getElem hil⟩
    have hx0 := h0 x (List.mem_of_getElem? hx)
    have ax := u16_at hx
    have hq := qOf_b hx0.1
    have hqo := qOf_b ho.1
    have hR := fun σ hσ => C_run1 (σ := σ) hh hk hq hσ
    have hP1 := fun σ hσ => C_press1 (σ := σ) hh hk (x := h + 10000) (by omega) hσ
    have hP2 := fun σ hσ => C_press1 (σ := σ) hh hk (x := h + 10000 - qOf x) (by omega) hσ
    have hqe : x.tmod 1001 = qOf x := rfl
    have hqeo : other.tmod 1001 = qOf other := rfl
    have w1 := w64 (n := x) (by omega)
    have w1o := w64 (n := other) (by omega)
    have e3 : k * (h + 10000 - h) = k * 10000 := by congr 1; omega
    have e4 : k * (h + 10000 - qOf x - h) = k * (10000 - qOf x) := by congr 1; omega
    have e5 : k * 10000 - k * (10000 - qOf x) = k * qOf x := by rw [← Int.mul_sub]; congr 1; omega
    rw [e3] at hP1
    rw [e4] at hP2
    have hm := Rock.mulB hk hq
    have w5 := w64 (n := k * qOf x) (by omega)
    have hsx : (slTest k l).st[i]? = some (slStep k x) := by simp [slTest, hx]
    have hdx : (dsL k l)[i]? = some (k * qOf x) := by simp [dsL, hx]
    have g1 := flat_snoc (f := Step.enc) hsx
    have g2 := flat_snoc (f := Rock.intE) hdx
    have hsl : (slTest k l).st.length = l.length := by simp [slTest]
    have hdl : (dsL k l).length = l.length := by simp [dsL]
    have f1 : (((dsL k l).take i).flatMap Rock.intE).length = i := by rw [int_len, List.length_take, hdl]; omega
    have f2 : (((dsL k l).take i).flatMap Rock.intE).take i = ((dsL k l).take i).flatMap Rock.intE := List.take_of_length_le (by omega)
    have f3 : (i + 1) * 8 ≤ room := by unfold room; omega
    have s1 : (((slTest k l).st.take i).flatMap Step.enc).length = i * 3 := by rw [step_len, List.length_take, hsl, Nat.min_eq_left (by omega)]
    have s2 : (((slTest k l).st.take i).flatMap Step.enc).take (i * 3) = ((slTest k l).st.take i).flatMap Step.enc := List.take_of_length_le (by omega)
    have s3 := room24 (n := i + 1) (by omega)
    have h4 := wnext hil (by omega)
    have hle : (i : Int) ≤ (l.length : Int) := by omega
    have ih := L_slope hh hk ho hl h0 n (i + 1) (by omega)
    generalize hp1 : k * 10000 = p1 at *
    generalize hp2 : k * (10000 - qOf x) = p2 at *
    simp only [slStep, Step.enc] at g1
    simp [-List.length_flatMap, -List.map_take, eF, hil, Nat.le_of_lt hil, hle, h4, ax, w1, w1o, hqe, hqeo, hR, hP1, hP2, bedD_len, bedD_take, mdlD_len, mdlD_take, bedD_clean, mdlD_clean, e5, f1, f2, f3, s1, s2, s3, w5]
    exact WL.to ih (by simp) (by simp [← g1, ← g2]) fun x e σ hh => hh

theorem law_Slope {hold slope other : Int} {l : List Int} (hh : 0 ≤ hold ∧ hold ≤ 65535) (hs : 0 ≤ slope ∧ slope ≤ 255) (ho : 0 ≤ other ∧ other ≤ 65535) (h0 : ∀ x ∈ l, 0 ≤ x ∧ x ≤ 65535) :
    lim T (.call false i_top_TopSlope [.int .u16 hold, .int .u8 slope, .lst l.length (l.flatMap u16E), .int .u16 other] [[]]) = some (.val (.bool true) [[]]) := by
  refine call_of T_top_TopSlope e_top_TopSlope rfl ?_
  have hH : 0 ≤ hold.tmod 1001 ∧ hold.tmod 1001 ≤ 1000 := qOf_b hh.1
  have hK : 0 ≤ slope.tmod 50 ∧ slope.tmod 50 ≤ 49 := by
    have h1 := Int.tmod_lt_of_pos slope (show (0 : Int) < 50 by omega)
    have h2 := Int.tmod_nonneg 50 hs.1
    omega
  have w1 := w64 (n := hold) (by omega)
  have w2 := w64 (n := slope) (by omega)
  have w3 := w64 (n := 1000 + hold.tmod 1001) (by omega)
  have w4 := w64 (n := 1 + slope.tmod 50) (by omega)
  generalize hH0 : hold.tmod 1001 = H at *
  generalize hK0 : slope.tmod 50 = K at *
  have hh' : 1000 ≤ 1000 + H ∧ 1000 + H ≤ 2000 := by omega
  have hk' : 1 ≤ 1 + K ∧ 1 + K ≤ 50 := by omega
  generalize hH1 : 1000 + H = h at *
  generalize hK1 : 1 + K = k at *
  have hS := fun σ hσ => C_still (σ := σ) hσ
  by_cases hc : l.length < 1
  · have hn : l = [] := List.length_eq_zero_iff.1 (by omega)
    subst hn
    simp [-List.length_flatMap, -List.map_take, eF, w1, w2, w3, w4, hH0, hK0, hH1, hK1, hS]
  by_cases hc2 : 6 < l.length
  · have hl0 : l ≠ [] := fun hn => by rw [hn] at hc2; simp at hc2
    simp [-List.length_flatMap, -List.map_take, eF, w1, w2, w3, w4, hH0, hK0, hH1, hK1, show ¬ (l.length : Int) < 1 by omega, hc, hc2, hl0, show (6 : Int) < l.length by omega, hS]
  have hl0 : l ≠ [] := fun hn => by rw [hn] at hc; simp at hc
  have hA := fun σ => C_alone' (σ := σ) hh' hk'
  rw [show Rock.Bed.enc (Rock.aloneB h k) = bedD h k from rfl, show Rock.Mdl.enc (Rock.aloneM h) = mdlD h from rfl] at hA
  have y1 := w64 (n := k - 9) (by omega)
  have y2 := w64 (n := k + 9) (by omega)
  simp [-List.length_flatMap, -List.map_take, eF, w1, w2, w3, w4, hH0, hK0, hH1, hK1, show ¬ (l.length : Int) < 1 by omega, hc, hc2, hl0, show ¬ (6 : Int) < l.length by omega, hA, y1, y2, bedD_len, mdlD_len, bedD_clean, mdlD_clean]
  have hl6 : l.length ≤ 6 := by omega
  have hl0' : ∀ x ∈ l, 0 ≤ x := fun x hx => (h0 x hx).1
  refine WL.to (L_slope (σ := [[]]) hh' hk' ho hl6 h0 l.length 0 (by omega)) (by simp) (by simp) ?_
  rintro x e σ' ⟨rfl, g2, g3, g10, g13, g14, rfl⟩
  have hq := qOf_b ho.1
  have hqe : other.tmod 1001 = qOf other := rfl
  have hm := Rock.mulB hk' hq
  have hAg := sl_agr hk' (l := l)
  have hfl := sl_fault hk' hl6 hl0'
  have hne : sets (slTest k l) ≠ [] := fun hn => by have := agr_mem hAg; rw [hn] at this; cases this
  have hd := agr_d hAg (qOf other)
  have hcd : Cv.drop ⟨0, k, 0⟩ (qOf other) = k * qOf other := by simp [Cv.drop]
  rw [hcd] at hd
  have hDr := fun σ hσ => C_drawP (σ := σ) (t := slTest k l) (by simp [slTest]; omega) (q := qOf other) hσ
  have hdp : drawP (slTest k l) (qOf other) = .tup [.agg (dOf (qOf other) (sets (slTest k l))).enc, .int .i64 0] := by
    unfold drawP
    rw [if_pos hfl, if_pos (inn_iff.2 hq), if_neg (by simpa using hne)]
  rw [hdp] at hDr
  have hAgr := fun σ => C_agrees (σ := σ) (t := slTest k l) (by simp [slTest]; omega) (a := 0) (b := k) (c := 0)
  rw [sl_ag hk' hl6 hl0'] at hAgr
  have hdx : (dsL k (l ++ [other]))[l.length]? = some (k * qOf other) := by simp [dsL]
  have hdx2 := intE_at hdx
  have hdd := k_drop (f := Rock.intE) (w := 1) (fun _ => rfl) hdx
  simp only [Nat.mul_one, Rock.intE, List.singleton_append] at hdd
  have hlt : (l.length : Int) < l.length + 1 := by omega
  have w5 := w64 (n := other) (by omega)
  have hfz := k_frz (f := Step.enc) (w := 3) (fun _ => rfl) (fun x => by simp) (l := (slTest k l).st) (j := 0) (v := l.length) (bs := [.cells l.length ((slTest k l).st.flatMap Step.enc), .cells (l.length + 1) ((dsL k (l ++ [other])).flatMap Rock.intE)]) (σ := [[]]) (by simp) rfl
  have hsl : (slTest k l).st.length = l.length := by simp [slTest]
  rw [hsl] at hfz
  simp only [List.length_cons, List.length_nil, Nat.zero_add, List.set_cons_zero] at hfz
  generalize dOf (qOf other) (sets (slTest k l)) = Dr at *
  have hta : (slTest k l).a = ⟨0, 9⟩ := rfl
  have htb : (slTest k l).b = ⟨max 0 (k - 9), k + 9⟩ := rfl
  have htc : (slTest k l).c = ⟨0, 2⟩ := rfl
  simp only [hta, htb, htc, hsl] at hDr hAgr
  simp [-List.length_flatMap, -List.map_take, eF, g2, g3, g10, g13, g14, hfz, w5, hqe, hDr, hAgr, hdx2, hdd, hlt, hd, hS]
theorem go_TopSlope (x0 x1 x2 x3 : D) (t0 : (Ty.int .u16).hasV x0) (t1 : (Ty.int .u8).hasV x1) (t2 : (Ty.slice 1 (.int .u16)).hasV x2) (t3 : (Ty.int .u16).hasV x3) :
    ∃ σ', lim T (.call false i_top_TopSlope [x0, x1, x2, x3] [[]]) = some (.val (.bool true) σ') := by
  obtain ⟨a, rfl, ha⟩ := u16_of t0
  obtain ⟨b, rfl, hb⟩ := u8_of t1
  obtain ⟨l, rfl, _, hl⟩ := rows_of (f := u16E) (Q := fun n => 0 ≤ n ∧ n ≤ 65535) (fun ds h => by
    simp only [Ty.has] at h
    obtain ⟨n, rfl, hw⟩ := h
    exact ⟨n, rfl, wf_u16 hw⟩) t2
  obtain ⟨c, rfl, hc⟩ := u16_of t3
  exact ⟨_, law_Slope ha hb hc hl⟩
end Go.Proofs.Ytehandllpmlcoaa
