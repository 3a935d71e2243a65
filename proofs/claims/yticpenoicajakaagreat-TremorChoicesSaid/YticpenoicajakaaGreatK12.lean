/-
  The law's own examples hold: 'awake'. The conversion of a network.
-/
import Derived.Test.YticpenoicajakaaGreatK11
set_option linter.unusedVariables false
set_option linter.unusedSimpArgs false
namespace Go.Trem
open Go Go.Abs
def two : Net := ⟨[⟨⟨0, 0, 0⟩, 10⟩, ⟨⟨3000, 0, 0⟩, 10⟩], ⟨200, 220⟩, ⟨350, 400⟩, ⟨0, 0, 0⟩, ⟨3000, 0, 0⟩, 1000⟩
def heard : List Pick := [⟨0, 0, ⟨5200, 5200⟩⟩, ⟨1, 0, ⟨5400, 5410⟩⟩]
def scale2 : Scale := ⟨[10, 100, 1000], [⟨0, 5⟩, ⟨900, 8⟩]⟩
end Go.Trem
namespace Go.Proofs.YticpenoicajakaaGreat
open Go Go.Abs Go.Trem
variable {σ : Stack}

theorem C_Two : lim T (.call false i_law09_Two [] σ) = some (.val (.agg two.enc) σ) := by
  refine call_of T_law09_Two e_law09_Two rfl ?_
  simp [-List.length_flatMap, -List.map_take, e_law09_Two_r0, e_law09_Two_r1, two]
theorem C_Heard (hσ : σ ≠ []) : lim T (.call false i_law09_Heard [] σ) = some (.val (.lst heard.length (heard.flatMap Pick.enc)) σ) := by
  refine call_of T_law09_Heard e_law09_Heard rfl ?_
  have h3 : ¬ σ.length ≤ σ.length - 1 := by have := List.length_pos_iff.2 hσ; omega
  simp [-List.length_flatMap, -List.map_take, e_law09_Heard_r0, e_law09_Heard_r1]
  first
  | (rw [frz_sl h3 (cs := heard.flatMap Pick.enc) (by simp [heard]) (by omega)]; simp [heard])
  | simp [heard]

theorem C_TravelP {n : Net} {i ph x y z : Int} (hn : n.st.length ≤ 9223372036854775807) (hp : 0 ≤ ph ∧ ph ≤ 255) :
    lim T (.call false i_tremor_Travel [.agg [.lst n.st.length (n.st.flatMap Stn.enc), .int .i64 n.s0.lo, .int .i64 n.s0.hi, .int .i64 n.s1.lo, .int .i64 n.s1.hi, .int .i64 n.low.x, .int .i64 n.low.y, .int .i64 n.low.z, .int .i64 n.high.x, .int .i64 n.high.y, .int .i64 n.high.z, .int .i64 n.step], .int .i64 i, .int .u8 ph, .agg [.int .i64 x, .int .i64 y, .int .i64 z]] σ) =
      some (.val (if n.ok then (if inn i 0 (n.st.length - 1) && decide (ph < 2) then (if Pt.ok ⟨x, y, z⟩ then .tup [.agg [.int .i64 (travel n i ph ⟨x, y, z⟩).lo, .int .i64 (travel n i ph ⟨x, y, z⟩).hi], .int .i64 0] else .tup [.agg [.int .i64 0, .int .i64 0], .int .i64 1]) else .tup [.agg [.int .i64 0, .int .i64 0], .int .i64 2]) else .tup [.agg [.int .i64 0, .int .i64 0], .int .i64 1]) σ) := by
  refine call_of T_tremor_Travel e_tremor_Travel rfl ?_
  have hw := w64 (n := ph) (by omega)
  cases c1 : n.ok
  · simp [-List.length_flatMap, -List.map_take, e_tremor_Travel_r0, e_tremor_Travel_r1, e_tremor_Travel_r2, e_tremor_Travel_r3, e_tremor_Travel_r4, e_tremor_Travel_r5, e_tremor_Travel_r6, e_tremor_Travel_r7, C_nvalid hn, c1]
  cases c2 : inn i 0 (n.st.length - 1)
  · simp [-List.length_flatMap, -List.map_take, e_tremor_Travel_r0, e_tremor_Travel_r1, e_tremor_Travel_r2, e_tremor_Travel_r3, e_tremor_Travel_r4, e_tremor_Travel_r5, e_tremor_Travel_r6, e_tremor_Travel_r7, C_nvalid hn, C_has hn, c1, c2]
  by_cases c3 : ph < 2
  rotate_left
  · have c3' : 2 ≤ ph := by omega
    simp [-List.length_flatMap, -List.map_take, e_tremor_Travel_r0, e_tremor_Travel_r1, e_tremor_Travel_r2, e_tremor_Travel_r3, e_tremor_Travel_r4, e_tremor_Travel_r5, e_tremor_Travel_r6, e_tremor_Travel_r7, C_nvalid hn, C_has hn, c1, c2, hw, c3, c3']
  have c3' : ¬ 2 ≤ ph := by omega
  cases c4 : Pt.ok ⟨x, y, z⟩
  · simp [-List.length_flatMap, -List.map_take, e_tremor_Travel_r0, e_tremor_Travel_r1, e_tremor_Travel_r2, e_tremor_Travel_r3, e_tremor_Travel_r4, e_tremor_Travel_r5, e_tremor_Travel_r6, e_tremor_Travel_r7, C_nvalid hn, C_has hn, C_pvalid, c1, c2, hw, c3, c3', c4]
  have ht := fun σ => @C_travel σ n i ph x y z (net_fine c1 c2 hp.1 c3) c4
  simp [-List.length_flatMap, -List.map_take, e_tremor_Travel_r0, e_tremor_Travel_r1, e_tremor_Travel_r2, e_tremor_Travel_r3, e_tremor_Travel_r4, e_tremor_Travel_r5, e_tremor_Travel_r6, e_tremor_Travel_r7, C_nvalid hn, C_has hn, C_pvalid, c1, c2, hw, c3, c3', c4, ht]

theorem two_ok : two.ok = true := by decide +kernel
theorem two_travel : travel two 0 0 ⟨1000, 0, 0⟩ = ⟨200, 221⟩ := by decide +kernel
theorem two_wrong : wrong two heard = 0 := by decide +kernel
theorem two_located : located two heard = [⟨⟨1000, 0, 0⟩, ⟨4969, 5010⟩⟩] := by decide +kernel
theorem two_magOk : magOk two scale2 ⟨1000, 0, 0⟩ [⟨0, 500⟩] = true := by decide +kernel
theorem two_mag : magSum two scale2 ⟨1000, 0, 0⟩ [⟨0, 500⟩] = 10 := by decide +kernel
theorem two_caps : caps ⟨1, 10, 1, 10, 20⟩ 1000000 [true, false, true] = [1900000, 1710000, 3249000] := by decide +kernel
theorem two_plan : planOk [100, 100, 100, 100] [0, 2, 0, 0] 1000 500 0 30 = true := by decide +kernel
theorem two_inj : injOf [100, 100, 100, 100] [0, 2, 0, 0] 1000 500 0 30 = [100, 0, 30, 60] := by decide +kernel

theorem C_awake (hσ : σ ≠ []) : lim T (.call false i_law09_awake [] σ) = some (.val (.bool true) σ) := by
  refine call_of T_law09_awake e_law09_awake rfl ?_
  have ht := fun σ => @C_TravelP σ two 0 0 1000 0 0 (by decide) (by omega)
  have hi0 : inn 0 0 (two.st.length - 1) = true := by decide
  have hp0 : Pt.ok ⟨1000, 0, 0⟩ = true := by decide
  rw [two_ok, two_travel, hi0, hp0] at ht
  have hl := fun σ (hσ : σ ≠ []) => @C_LocateP σ two heard (by decide) (by decide) (by decide) hσ
  rw [two_wrong, two_located] at hl
  have hL := fun σ => @C_locatedL σ [⟨⟨1000, 0, 0⟩, ⟨4969, 5010⟩⟩] (by decide)
  have hm := fun σ => @C_Magnitude σ two scale2 1000 0 0 [⟨0, 500⟩] (by decide) (by decide) (by decide) (by decide)
  rw [two_magOk, two_mag] at hm
  have hc := fun σ (hσ : σ ≠ []) => @C_Capital σ ⟨1, 10, 1, 10, 20⟩ [true, false, true] (by decide) hσ
  rw [two_caps] at hc
  have hb : Bet.ok ⟨1, 10, 1, 10, 20⟩ = true := by decide
  have hI := fun σ (hσ : σ ≠ []) => @C_ints σ [1900000, 1710000, 3249000] (by decide)
  have hI2 := fun σ (hσ : σ ≠ []) => @C_ints σ [100, 0, 30, 60] (by decide)
  have hj := fun σ (hσ : σ ≠ []) => @C_Inject σ [100, 100, 100, 100] [0, 2, 0, 0] 1000 500 0 30 (by decide) (by decide) (by decide) hσ
  rw [two_plan, two_inj] at hj
  simp [scale2] at ht hl hL hm hc hI hI2 hj
  simp [-List.length_flatMap, -List.map_take, e_law09_awake_r0, e_law09_awake_r1, e_law09_awake_r2, e_law09_awake_r3, e_law09_awake_r4, e_law09_awake_r5, e_law09_awake_r6, C_Two, C_Heard, ht, hl, hL, hm, hc, hb, hI, hI2, hj]
end Go.Proofs.YticpenoicajakaaGreat
