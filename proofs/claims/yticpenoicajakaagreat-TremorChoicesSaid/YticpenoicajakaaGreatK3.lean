/-
  Which networks are valid; travels and spans.
-/
import Derived.Test.YticpenoicajakaaGreatK2
set_option linter.unusedVariables false
set_option linter.unusedSimpArgs false
namespace Go.Proofs.YticpenoicajakaaGreat
open Go Go.Abs Go.Trem
variable {σ : Stack}

theorem C_all_stn {l : List Stn} (hl : l.length ≤ 9223372036854775807) :
    lim T (.call false i_tremor_all_tremor_Station [.lst l.length (l.flatMap Stn.enc), .fn i_tremor_Station_valid [] []] σ) = some (.val (.bool (allB l Stn.ok)) σ) :=
  all_of eltStn T_tremor_all_tremor_Station T_tremor_all_tremor_Station_1 T_slices_ContainsFunc_tremor_Station T_slices_IndexFunc_tremor_Station hl (.fn fun s _ σ => C_svalid) rfl
theorem C_all_rg {a b c d : Int} :
    lim T (.call false i_tremor_all_tremor_Range [.lst 2 [.int .i64 a, .int .i64 b, .int .i64 c, .int .i64 d], .fn i_tremor_Net_valid_1 [] []] σ) = some (.val (.bool (Rg.inn ⟨a, b⟩ 1 2000 && Rg.inn ⟨c, d⟩ 1 2000)) σ) := by
  have := all_of (σ := σ) eltRg T_tremor_all_tremor_Range T_tremor_all_tremor_Range_1 T_slices_ContainsFunc_tremor_Range T_slices_IndexFunc_tremor_Range (l := [⟨a, b⟩, ⟨c, d⟩]) (by simp) (fv := .fn i_tremor_Net_valid_1 [] []) (p := fun r => Rg.inn r 1 2000) (.fn fun s _ σ => C_nv1) rfl
  simpa [allB, eltRg, eltAgg] using this

theorem net_pre {n : Net} : n.pre = true ↔ (1 ≤ (n.st.length : Int) ∧ (n.st.length : Int) ≤ 12) ∧ allB n.st Stn.ok = true ∧ (n.low.ok = true ∧ n.high.ok = true ∧ n.low.x ≤ n.high.x ∧ n.low.y ≤ n.high.y ∧ n.low.z ≤ n.high.z) ∧
    (1 ≤ n.step ∧ n.step ≤ 20000) ∧ (1 ≤ n.s0.lo ∧ n.s0.lo ≤ n.s0.hi ∧ n.s0.hi ≤ 2000) ∧ (1 ≤ n.s1.lo ∧ n.s1.lo ≤ n.s1.hi ∧ n.s1.hi ≤ 2000) := by
  simp only [Net.pre, Bool.and_eq_true, inn_iff, boxOk, Rg.inn, decide_eq_true_eq]

theorem steps_wraps {n : Net} (h : n.pre = true) : (∀ a b, -20000 ≤ a → a ≤ b → b ≤ 20000 → 1 ≤ steps n a b ∧ steps n a b ≤ 40001) := by
  intro a b h1 h2 h3
  have h4 := (net_pre.1 h).2.2.2.1
  have h5 : (b - a).tdiv n.step = (b - a) / n.step := Int.tdiv_eq_ediv_of_nonneg (by omega)
  have h6 : 0 ≤ (b - a) / n.step := Int.ediv_nonneg (by omega) (by omega)
  have h7 : (b - a) / n.step ≤ b - a := Int.ediv_le_self _ (by omega)
  unfold steps
  omega

theorem count_wraps {n : Net} (h : n.pre = true) :
    IntKind.i64.wrap (steps n n.low.x n.high.x * steps n n.low.y n.high.y) = steps n n.low.x n.high.x * steps n n.low.y n.high.y ∧ IntKind.i64.wrap n.count = n.count := by
  have h1 := steps_wraps h
  have h2 := net_pre.1 h
  simp only [Pt.ok_iff] at h2
  have a1 := h1 n.low.x n.high.x (by omega) (by omega) (by omega)
  have a2 := h1 n.low.y n.high.y (by omega) (by omega) (by omega)
  have a3 := h1 n.low.z n.high.z (by omega) (by omega) (by omega)
  unfold Net.count
  generalize steps n n.low.x n.high.x = a at *
  generalize steps n n.low.y n.high.y = b at *
  generalize steps n n.low.z n.high.z = c at *
  have b1 : a * b ≤ 40001 * 40001 := Int.mul_le_mul a1.2 a2.2 (by omega) (by omega)
  have b2 : 0 ≤ a * b := Int.mul_nonneg (by omega) (by omega)
  have b3 : a * b * c ≤ 40001 * 40001 * 40001 := Int.mul_le_mul b1 a3.2 (by omega) (by omega)
  have b4 : 0 ≤ a * b * c := Int.mul_nonneg b2 (by omega)
  exact ⟨w64 (by omega), w64 (by omega)⟩

theorem C_nvalid {n : Net} (hl : n.st.length ≤ 9223372036854775807) : lim T (.call false i_tremor_Net_valid [.agg [.lst n.st.length (n.st.flatMap Stn.enc), .int .i64 n.s0.lo, .int .i64 n.s0.hi, .int .i64 n.s1.lo, .int .i64 n.s1.hi, .int .i64 n.low.x, .int .i64 n.low.y, .int .i64 n.low.z, .int .i64 n.high.x, .int .i64 n.high.y, .int .i64 n.high.z, .int .i64 n.step]] σ) = some (.val (.bool n.ok) σ) := by
  refine call_of T_tremor_Net_valid e_tremor_Net_valid rfl ?_
  cases h0 : n.pre
  · have h1 : n.pre = false := h0
    simp only [Net.pre] at h0
    cases c1 : inn n.st.length 1 12
    · simp [-List.length_flatMap, -List.map_take, e_tremor_Net_valid_r0, e_tremor_Net_valid_r1, e_tremor_Net_valid_r2, e_tremor_Net_valid_r3, e_tremor_Net_valid_r4, C_within, Net.ok, h1, c1]
    cases c2 : allB n.st Stn.ok
    · simp [-List.length_flatMap, -List.map_take, e_tremor_Net_valid_r0, e_tremor_Net_valid_r1, e_tremor_Net_valid_r2, e_tremor_Net_valid_r3, e_tremor_Net_valid_r4, C_within, C_all_stn hl, Net.ok, h1, c1, c2]
    cases c3 : boxOk n.low n.high
    · simp [-List.length_flatMap, -List.map_take, e_tremor_Net_valid_r0, e_tremor_Net_valid_r1, e_tremor_Net_valid_r2, e_tremor_Net_valid_r3, e_tremor_Net_valid_r4, C_within, C_all_stn hl, C_box, Net.ok, h1, c1, c2, c3]
    cases c4 : inn n.step 1 20000
    · simp [-List.length_flatMap, -List.map_take, e_tremor_Net_valid_r0, e_tremor_Net_valid_r1, e_tremor_Net_valid_r2, e_tremor_Net_valid_r3, e_tremor_Net_valid_r4, C_within, C_all_stn hl, C_box, Net.ok, h1, c1, c2, c3, c4]
    simp only [c1, c2, c3, c4, Bool.true_and] at h0
    simp [-List.length_flatMap, -List.map_take, e_tremor_Net_valid_r0, e_tremor_Net_valid_r1, e_tremor_Net_valid_r2, e_tremor_Net_valid_r3, e_tremor_Net_valid_r4, C_within, C_all_stn hl, C_box, C_all_rg, Net.ok, h1, c1, c2, c3, c4, h0]
  · have h1 : n.pre = true := h0
    have h2 := net_pre.1 h1
    have h3 := count_wraps h1
    simp only [Net.pre, Bool.and_eq_true] at h0
    obtain ⟨c1, c2, c3, c4, c5, c6⟩ := h0
    simp only [Pt.ok_iff] at h2
    have s1 := fun σ => @C_steps σ (.lst n.st.length (n.st.flatMap Stn.enc)) n.s0.lo n.s0.hi n.s1.lo n.s1.hi n.low.x n.low.y n.low.z n.high.x n.high.y n.high.z n.step n.low.x n.high.x (by omega) (by omega) (by omega)
    have s2 := fun σ => @C_steps σ (.lst n.st.length (n.st.flatMap Stn.enc)) n.s0.lo n.s0.hi n.s1.lo n.s1.hi n.low.x n.low.y n.low.z n.high.x n.high.y n.high.z n.step n.low.y n.high.y (by omega) (by omega) (by omega)
    have s3 := fun σ => @C_steps σ (.lst n.st.length (n.st.flatMap Stn.enc)) n.s0.lo n.s0.hi n.s1.lo n.s1.hi n.low.x n.low.y n.low.z n.high.x n.high.y n.high.z n.step n.low.z n.high.z (by omega) (by omega) (by omega)
    obtain ⟨w1, w2⟩ := h3
    simp only [Net.count, steps] at w1 w2
    simp [-List.length_flatMap, -List.map_take, e_tremor_Net_valid_r0, e_tremor_Net_valid_r1, e_tremor_Net_valid_r2, e_tremor_Net_valid_r3, e_tremor_Net_valid_r4, C_within, C_all_stn hl, C_box, C_all_rg, Net.ok, h1, c1, c2, c3, c4, c5, c6, s1, s2, s3, w1, w2, Net.count, steps]
    exact decide_eq_decide.2 Iff.rfl

/-- What a valid network says of the things that a pick speaks of. -/
structure Fine (n : Net) (i ph : Int) : Prop where
  i0 : 0 ≤ i
  i1 : i < n.st.length
  hph : ph = 0 ∨ ph = 1
  p : (n.stn i).p.ok = true
  e : 0 ≤ (n.stn i).err ∧ (n.stn i).err ≤ 1000
  s : 1 ≤ (n.slow ph).lo ∧ (n.slow ph).lo ≤ (n.slow ph).hi ∧ (n.slow ph).hi ≤ 2000
  cells : ((n.st.flatMap Stn.enc).drop (i.toNat * 4)).take 4 = (n.stn i).enc

theorem net_fine {n : Net} (h : n.ok = true) {i ph : Int} (hi : inn i 0 (n.st.length - 1) = true) (hp : 0 ≤ ph) (hp' : ph < 2) : Fine n i ph := by
  simp only [Net.ok, Bool.and_eq_true] at h
  have h0 := net_pre.1 h.1
  rw [inn_iff] at hi
  have h1 : i.toNat < n.st.length := by omega
  have h2 : n.st[i.toNat]? = some (n.stn i) := by
    simp [Net.stn, List.getD, List.getElem?_eq_getElem h1]
  have h3 := allB_iff.1 h0.2.1 _ (List.mem_of_getElem? h2)
  simp only [Stn.ok, Bool.and_eq_true, inn_iff] at h3
  refine ⟨by omega, by omega, by omega, h3.1, h3.2, ?_, flat_at (f := Stn.enc) (w := 4) (fun _ => rfl) h2⟩
  unfold Net.slow
  split <;> omega

theorem travel_wraps {n : Net} {i ph : Int} (h : Fine n i ph) {q : Pt} (hq : q.ok = true) :
    IntKind.i64.wrap ((n.slow ph).lo * dist (n.stn i).p q) = (n.slow ph).lo * dist (n.stn i).p q ∧ IntKind.i64.wrap (((n.slow ph).lo * dist (n.stn i).p q).tdiv 1000) = (n.slow ph).lo * dist (n.stn i).p q / 1000 ∧
    IntKind.i64.wrap (dist (n.stn i).p q + 1) = dist (n.stn i).p q + 1 ∧ IntKind.i64.wrap ((n.slow ph).hi * (dist (n.stn i).p q + 1)) = (n.slow ph).hi * (dist (n.stn i).p q + 1) ∧
    IntKind.i64.wrap ((n.slow ph).hi * (dist (n.stn i).p q + 1) + 1000) = (n.slow ph).hi * (dist (n.stn i).p q + 1) + 1000 ∧
    IntKind.i64.wrap ((n.slow ph).hi * (dist (n.stn i).p q + 1) + 1000 - 1) = (n.slow ph).hi * (dist (n.stn i).p q + 1) + 999 ∧
    IntKind.i64.wrap ((n.slow ph).hi * (dist (n.stn i).p q + 1) + 999) = (n.slow ph).hi * (dist (n.stn i).p q + 1) + 999 ∧
    IntKind.i64.wrap (((n.slow ph).hi * (dist (n.stn i).p q + 1) + 999).tdiv 1000) = ((n.slow ph).hi * (dist (n.stn i).p q + 1) + 999) / 1000 ∧
    0 ≤ (travel n i ph q).lo ∧ (travel n i ph q).lo ≤ 1000000 ∧ 0 ≤ (travel n i ph q).hi ∧ (travel n i ph q).hi ≤ 1000000 := by
  obtain ⟨d0, d1, _⟩ := dist_spec h.p hq
  obtain ⟨s0, s1, s2⟩ := h.s
  unfold travel
  dsimp only
  generalize dist (n.stn i).p q = d at *
  generalize (n.slow ph).lo = a at *
  generalize (n.slow ph).hi = b at *
  have m1 : a * d ≤ 2000 * 70000 := Int.mul_le_mul (by omega) d1 d0 (by omega)
  have m2 : 0 ≤ a * d := Int.mul_nonneg (by omega) d0
  have m3 : b * (d + 1) ≤ 2000 * 70001 := Int.mul_le_mul (by omega) (by omega) (by omega) (by omega)
  have m4 : 0 ≤ b * (d + 1) := Int.mul_nonneg (by omega) (by omega)
  have q1 : (a * d).tdiv 1000 = a * d / 1000 := Int.tdiv_eq_ediv_of_nonneg m2
  have q2 : (b * (d + 1) + 999).tdiv 1000 = (b * (d + 1) + 999) / 1000 := Int.tdiv_eq_ediv_of_nonneg (by omega)
  rw [q1, q2]
  generalize a * d = x at *
  generalize b * (d + 1) = y at *
  refine ⟨w64 (by omega), w64 (by omega), w64 (by omega), w64 (by omega), w64 (by omega), ?_, w64 (by omega), w64 (by omega), by omega, by omega, by omega, by omega⟩
  rw [w64 (by omega)]; omega

theorem C_travel {n : Net} {i ph x y z : Int} (h : Fine n i ph) (hq : (Pt.mk x y z).ok = true) :
    lim T (.call false i_tremor_Net_travel [.agg [.lst n.st.length (n.st.flatMap Stn.enc), .int .i64 n.s0.lo, .int .i64 n.s0.hi, .int .i64 n.s1.lo, .int .i64 n.s1.hi, .int .i64 n.low.x, .int .i64 n.low.y, .int .i64 n.low.z, .int .i64 n.high.x, .int .i64 n.high.y, .int .i64 n.high.z, .int .i64 n.step], .int .i64 i, .int .u8 ph, .agg [.int .i64 x, .int .i64 y, .int .i64 z]] σ) = some (.val (.agg [.int .i64 (travel n i ph ⟨x, y, z⟩).lo, .int .i64 (travel n i ph ⟨x, y, z⟩).hi]) σ) := by
  refine call_of T_tremor_Net_travel e_tremor_Net_travel rfl ?_
  have hw := travel_wraps h hq
  have hc := h.cells
  have hf := fun σ => @C_far σ _ _ _ x y z h.p hq
  have h0 := h.i0
  have h1 := h.i1
  have ht : travel n i ph ⟨x, y, z⟩ = ⟨(n.slow ph).lo * dist (n.stn i).p ⟨x, y, z⟩ / 1000, ((n.slow ph).hi * (dist (n.stn i).p ⟨x, y, z⟩ + 1) + 999) / 1000⟩ := rfl
  obtain ⟨e1, e2, e3, e4, e5, e6, e7, e8, _⟩ := hw
  rcases h.hph with rfl | rfl <;> simp only [Net.slow, if_true, show ¬ (1 : Int) = 0 by decide, if_false] at e1 e2 e3 e4 e5 e6 e7 e8 ht <;>
    simp [-List.length_flatMap, -List.map_take, e_tremor_Net_travel_r0, e_tremor_Net_travel_r1, e_tremor_Net_travel_r2, h0, h1, hc, hf, e1, e2, e3, e4, e5, e6, e7, e8, ht]
end Go.Proofs.YticpenoicajakaaGreat
