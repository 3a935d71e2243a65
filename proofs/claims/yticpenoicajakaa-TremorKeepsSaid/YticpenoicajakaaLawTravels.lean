/-
  The law TremorTravels answers true.
-/
import Derived.Test.YticpenoicajakaaK12
import Derived.Test.YticpenoicajakaaTremTy
set_option linter.unusedVariables false
set_option linter.unusedSimpArgs false
namespace Go.Proofs.Yticpenoicajakaa
open Go Go.Abs Go.Trem
variable {σ : Stack}

theorem C_few0 {n : Net} : lim T (.call false i_law09_few [.agg [.lst n.st.length (n.st.flatMap Stn.enc), .int .i64 n.s0.lo, .int .i64 n.s0.hi, .int .i64 n.s1.lo, .int .i64 n.s1.hi, .int .i64 n.low.x, .int .i64 n.low.y, .int .i64 n.low.z, .int .i64 n.high.x, .int .i64 n.high.y, .int .i64 n.high.z, .int .i64 n.step], .nils] σ) = some (.val (.bool (decide (n.st.length ≤ 14))) σ) := by
  refine call_of T_law09_few e_law09_few rfl ?_
  by_cases c1 : n.st.length ≤ 14
  · have c1' : (n.st.length : Int) ≤ 14 := by omega
    simp [-List.length_flatMap, -List.map_take, e_law09_few_r0, e_law09_few_r1, c1, c1']
  · have c1' : ¬ (n.st.length : Int) ≤ 14 := by omega
    simp [-List.length_flatMap, -List.map_take, e_law09_few_r0, e_law09_few_r1, c1, c1']

theorem C_CheckNet {n : Net} (hn : n.st.length ≤ 9223372036854775807) : lim T (.call false i_tremor_CheckNet [.agg [.lst n.st.length (n.st.flatMap Stn.enc), .int .i64 n.s0.lo, .int .i64 n.s0.hi, .int .i64 n.s1.lo, .int .i64 n.s1.hi, .int .i64 n.low.x, .int .i64 n.low.y, .int .i64 n.low.z, .int .i64 n.high.x, .int .i64 n.high.y, .int .i64 n.high.z, .int .i64 n.step]] σ) = some (.val (.int .i64 (if n.ok then 0 else 1)) σ) := by
  refine call_of T_tremor_CheckNet e_tremor_CheckNet rfl ?_
  cases c : n.ok <;> simp [-List.length_flatMap, -List.map_take, e_tremor_CheckNet_r0, e_tremor_CheckNet_r1, e_tremor_CheckNet_r2, e_tremor_CheckNet_r3, C_nvalid hn, c]

theorem law_Travels {n : Net} {i ph x y z : Int} (hp : 0 ≤ ph ∧ ph ≤ 255) :
    lim T (.call false i_law09_TremorTravels [.agg [.lst n.st.length (n.st.flatMap Stn.enc), .int .i64 n.s0.lo, .int .i64 n.s0.hi, .int .i64 n.s1.lo, .int .i64 n.s1.hi, .int .i64 n.low.x, .int .i64 n.low.y, .int .i64 n.low.z, .int .i64 n.high.x, .int .i64 n.high.y, .int .i64 n.high.z, .int .i64 n.step], .int .i64 i, .int .u8 ph, .agg [.int .i64 x, .int .i64 y, .int .i64 z]] σ) = some (.val (.bool true) σ) := by
  refine call_of T_law09_TremorTravels e_law09_TremorTravels rfl ?_
  by_cases hf : n.st.length ≤ 14
  rotate_left
  · simp [-List.length_flatMap, -List.map_take, e_law09_TremorTravels_r0, e_law09_TremorTravels_r1, e_law09_TremorTravels_r2, e_law09_TremorTravels_r3, e_law09_TremorTravels_r4, e_law09_TremorTravels_r5, e_law09_TremorTravels_r6, e_law09_TremorTravels_r7, e_law09_TremorTravels_r8, e_law09_TremorTravels_r9, e_law09_TremorTravels_r10, e_law09_TremorTravels_r11, e_law09_TremorTravels_r12, e_law09_TremorTravels_r13, e_law09_TremorTravels_r14, e_law09_TremorTravels_r15, C_few0, hf, C_awake]
  have hn : n.st.length ≤ 100000 := by omega
  have h1 := fun σ (hσ : σ ≠ []) => @C_Net σ n hn hσ
  have h2 := fun σ => @C_TravelP σ n i ph x y z (by omega) hp
  have h3 := fun σ => @C_CheckNet σ n (by omega)
  have h4 := fun σ => @C_Right σ n (by omega)
  have hw := w64 (n := (n.st.length : Int) - 1) (by omega)
  cases c1 : n.ok
  · rw [c1] at h2 h3 h4
    simp at h2 h3
    simp [-List.length_flatMap, -List.map_take, e_law09_TremorTravels_r0, e_law09_TremorTravels_r1, e_law09_TremorTravels_r2, e_law09_TremorTravels_r3, e_law09_TremorTravels_r4, e_law09_TremorTravels_r5, e_law09_TremorTravels_r6, e_law09_TremorTravels_r7, e_law09_TremorTravels_r8, e_law09_TremorTravels_r9, e_law09_TremorTravels_r10, e_law09_TremorTravels_r11, e_law09_TremorTravels_r12, e_law09_TremorTravels_r13, e_law09_TremorTravels_r14, e_law09_TremorTravels_r15, C_few0, hf, C_Point, h1, h2, h3, h4, C_awake]
  rw [c1] at h2 h3 h4
  cases c2 : inn i 0 (n.st.length - 1)
  · rw [c2] at h2
    simp at h2 h3
    simp [-List.length_flatMap, -List.map_take, e_law09_TremorTravels_r0, e_law09_TremorTravels_r1, e_law09_TremorTravels_r2, e_law09_TremorTravels_r3, e_law09_TremorTravels_r4, e_law09_TremorTravels_r5, e_law09_TremorTravels_r6, e_law09_TremorTravels_r7, e_law09_TremorTravels_r8, e_law09_TremorTravels_r9, e_law09_TremorTravels_r10, e_law09_TremorTravels_r11, e_law09_TremorTravels_r12, e_law09_TremorTravels_r13, e_law09_TremorTravels_r14, e_law09_TremorTravels_r15, C_few0, hf, C_Point, h1, h2, h3, h4, C_In, hw, c2, C_awake]
  by_cases c3 : ph < 2
  rotate_left
  · have c3' : 1 < ph := by omega
    rw [c2] at h2
    simp [c3] at h2
    simp at h3
    simp [-List.length_flatMap, -List.map_take, e_law09_TremorTravels_r0, e_law09_TremorTravels_r1, e_law09_TremorTravels_r2, e_law09_TremorTravels_r3, e_law09_TremorTravels_r4, e_law09_TremorTravels_r5, e_law09_TremorTravels_r6, e_law09_TremorTravels_r7, e_law09_TremorTravels_r8, e_law09_TremorTravels_r9, e_law09_TremorTravels_r10, e_law09_TremorTravels_r11, e_law09_TremorTravels_r12, e_law09_TremorTravels_r13, e_law09_TremorTravels_r14, e_law09_TremorTravels_r15, C_few0, hf, C_Point, h1, h2, h3, h4, C_In, hw, c2, c3, c3', C_awake]
  have c3' : ¬ 1 < ph := by omega
  cases c4 : Pt.ok ⟨x, y, z⟩
  · rw [c2, c4] at h2
    simp [c3] at h2
    simp at h3
    simp [-List.length_flatMap, -List.map_take, e_law09_TremorTravels_r0, e_law09_TremorTravels_r1, e_law09_TremorTravels_r2, e_law09_TremorTravels_r3, e_law09_TremorTravels_r4, e_law09_TremorTravels_r5, e_law09_TremorTravels_r6, e_law09_TremorTravels_r7, e_law09_TremorTravels_r8, e_law09_TremorTravels_r9, e_law09_TremorTravels_r10, e_law09_TremorTravels_r11, e_law09_TremorTravels_r12, e_law09_TremorTravels_r13, e_law09_TremorTravels_r14, e_law09_TremorTravels_r15, C_few0, hf, C_Point, h1, h2, h3, h4, C_In, hw, c2, c3, c3', C_Dot, c4, C_awake]
  have h5 := fun σ => @C_Travel σ n i ph x y z (net_fine c1 c2 hp.1 c3) c4
  rw [c2, c4] at h2
  simp [c3] at h2
  simp at h3
  simp [-List.length_flatMap, -List.map_take, e_law09_TremorTravels_r0, e_law09_TremorTravels_r1, e_law09_TremorTravels_r2, e_law09_TremorTravels_r3, e_law09_TremorTravels_r4, e_law09_TremorTravels_r5, e_law09_TremorTravels_r6, e_law09_TremorTravels_r7, e_law09_TremorTravels_r8, e_law09_TremorTravels_r9, e_law09_TremorTravels_r10, e_law09_TremorTravels_r11, e_law09_TremorTravels_r12, e_law09_TremorTravels_r13, e_law09_TremorTravels_r14, e_law09_TremorTravels_r15, C_few0, hf, C_Point, h1, h2, h3, h4, h5, C_In, hw, c2, c3, c3', C_Dot, c4, C_Range, C_awake]

theorem go_TremorTravels (x0 x1 x2 x3 : D) (t0 : tyNet.hasV x0) (t1 : tyI.hasV x1) (t2 : (Ty.int .u8).hasV x2) (t3 : tyPt.hasV x3) :
    ∃ σ', lim T (.call false i_law09_TremorTravels [x0, x1, x2, x3] [[]]) = some (.val (.bool true) σ') := by
  obtain ⟨n, rfl, _⟩ := net_of t0
  obtain ⟨i, rfl, _⟩ := i64_of t1
  obtain ⟨ph, rfl, hp⟩ := u8_of t2
  obtain ⟨p, rfl, _⟩ := pt_ofV t3
  exact ⟨_, law_Travels hp⟩
end Go.Proofs.Yticpenoicajakaa
