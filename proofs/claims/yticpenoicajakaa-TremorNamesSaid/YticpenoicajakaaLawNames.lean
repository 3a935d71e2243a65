/-
  The law TremorNames answers true.
-/
import Derived.Test.YticpenoicajakaaKL
import Derived.Test.YticpenoicajakaaLawBets
import Derived.Test.YticpenoicajakaaLawTravels
import Derived.Test.YticpenoicajakaaKB
import Derived.Test.YticpenoicajakaaBase2
set_option linter.unusedVariables false
set_option linter.unusedSimpArgs false
namespace Go.Trem
open Go Go.Abs
def late : List Pick := [⟨0, 0, ⟨5200, 5200⟩⟩, ⟨1, 0, ⟨5400, 5410⟩⟩, ⟨0, 1, ⟨9000, 9000⟩⟩]
def rule1 : Rule := ⟨⟨0, 0, 0⟩, ⟨1500, 0, 0⟩, 20, 10, 1, 2⟩
def event1 : Ev := ⟨5, [⟨⟨1000, 0, 0⟩, 25⟩, ⟨⟨2000, 0, 0⟩, 25⟩]⟩
end Go.Trem
namespace Go.Proofs.Yticpenoicajakaa
open Go Go.Abs Go.Trem
variable {σ : Stack}

theorem idx_nil {α : Type} (E : Elt α) {f : Nat} (hT : T f = some (idxFn E.ag E.w)) {fv : D} (h1 : fv.strip = fv) (h2 : fv.calm = fv) : lim T (.call false f [.nils, fv] σ) = some (.val (.int .i64 (-1)) σ) := by
  refine call_of hT (idxFn.eq_1 _ _) rfl ?_
  simp [h1, h2]
  refine WL_step (idxL.eq_1 _ _) ?_
  simp [h1, h2]
theorem contains_nil {α : Type} (E : Elt α) {f i : Nat} (hT : T f = some (containsFn i)) (hi : T i = some (idxFn E.ag E.w)) {fv : D} (h1 : fv.strip = fv) (h2 : fv.calm = fv) : lim T (.call false f [.nils, fv] σ) = some (.val (.bool false) σ) := by
  refine call_of hT (containsFn.eq_1 _) rfl ?_
  simp [h1, h2, idx_nil E hi h1 h2]
theorem all_nil {α : Type} (E : Elt α) {f g h i : Nat} (hf : T f = some (allFn g h)) (hh : T h = some (containsFn i)) (hi : T i = some (idxFn E.ag E.w)) {fv : D} (h1 : fv.strip = fv) (h2 : fv.calm = fv) (hc : fv.cells = some [fv]) : lim T (.call false f [.nils, fv] σ) = some (.val (.bool true) σ) := by
  refine call_of hf (allFn.eq_1 _ _) rfl ?_
  simp [h1, h2, hc, contains_nil E hh hi]

theorem C_HeardK {seg : List Blk} : lim T (.call true i_law09_Heard [] (seg :: σ)) = some (.val (.sl σ.length (seg.length + 1) 0 0 2 4) ((seg ++ [.cells 0 [], .cells 0 (heard.flatMap Pick.enc)]) :: σ)) := by
  refine call_kp T_law09_Heard e_law09_Heard rfl ?_
  simp [-List.length_flatMap, -List.map_take, e_law09_Heard_r0, e_law09_Heard_r1, heard]

theorem C_checkNil {n : Net} (hn : n.st.length ≤ 9223372036854775807) (h : n.ok = true) : lim T (.call false i_tremor_heard_check [.agg (n.enc ++ [.nils])] σ) = some (.val (.int .i64 1) σ) := by
  refine call_of T_tremor_heard_check e_tremor_heard_check rfl ?_
  simp [-List.length_flatMap, -List.map_take, e_tremor_heard_check_r0, e_tremor_heard_check_r1, e_tremor_heard_check_r2, e_tremor_heard_check_r3, e_tremor_heard_check_r4, e_tremor_heard_check_r5, e_tremor_heard_check_r6, e_tremor_heard_check_r7, C_nvalid hn, h]
theorem C_LocNil {n : Net} (hn : n.st.length ≤ 9223372036854775807) (h : n.ok = true) : lim T (.call false i_tremor_Locate [.agg [.lst n.st.length (n.st.flatMap Stn.enc), .int .i64 n.s0.lo, .int .i64 n.s0.hi, .int .i64 n.s1.lo, .int .i64 n.s1.hi, .int .i64 n.low.x, .int .i64 n.low.y, .int .i64 n.low.z, .int .i64 n.high.x, .int .i64 n.high.y, .int .i64 n.high.z, .int .i64 n.step], .nils] σ) = some (.val (.tup [.nils, .int .i64 1]) σ) := by
  refine call_of T_tremor_Locate e_tremor_Locate rfl ?_
  have h1 := fun σ => @C_checkNil σ n hn h
  simp only [Net.enc, List.cons_append, List.nil_append] at h1
  simp [-List.length_flatMap, -List.map_take, e_tremor_Locate_r0, e_tremor_Locate_r1, e_tremor_Locate_r2, e_tremor_Locate_r3, e_tremor_Locate_r4, e_tremor_Locate_r5, e_tremor_Locate_r6, e_tremor_Locate_r7, e_tremor_Locate_r8, h1]
theorem C_LightNil : lim T (.call false i_tremor_Light [.nils, .nils, .int .i64 (-1)] σ) = some (.val (.tup [.int .u8 0, .int .u8 0, .int .i64 2]) σ) := by
  refine call_of T_tremor_Light e_tremor_Light rfl ?_
  have h1 : ∀ σ, lim T (.call false i_tremor_all_tremor_Rule [.nils, .fn i_tremor_Rule_valid [] []] σ) = some (.val (.bool true) σ) := fun σ => all_nil eltRule T_tremor_all_tremor_Rule T_slices_ContainsFunc_tremor_Rule T_slices_IndexFunc_tremor_Rule rfl rfl rfl
  have h2 : ∀ σ, lim T (.call false i_tremor_all_tremor_Event [.nils, .fn i_tremor_Event_valid [] []] σ) = some (.val (.bool true) σ) := fun σ => all_nil eltEv T_tremor_all_tremor_Event T_slices_ContainsFunc_tremor_Event T_slices_IndexFunc_tremor_Event rfl rfl rfl
  have h3 : inn (-1) 0 1000000 = false := by decide
  simp [-List.length_flatMap, -List.map_take, e_tremor_Light_r0, e_tremor_Light_r1, e_tremor_Light_r2, e_tremor_Light_r3, e_tremor_Light_r4, e_tremor_Light_r5, e_tremor_Light_r6, e_tremor_Light_r7, e_tremor_Light_r8, e_tremor_Light_r9, e_tremor_Light_r10, e_tremor_Light_r11, e_tremor_Light_r12, e_tremor_Light_r13, e_tremor_Light_r14, e_tremor_Light_r15, e_tremor_Light_r16, e_tremor_Light_r17, e_tremor_Light_r18, e_tremor_Light_r19, e_tremor_Light_r20, e_tremor_Light_r21, e_tremor_Light_r22, e_tremor_Light_r23, e_tremor_Light_r24, e_tremor_Light_r26, e_tremor_Light_r27, e_tremor_Light_r28, e_tremor_Light_r29, e_tremor_Light_r30, e_tremor_Light_r32, h1, h2, C_within, h3]
theorem C_InjNil : lim T (.call false i_tremor_Inject [.lst 1 [.int .i64 1], .nils, .agg [.int .i64 0, .int .i64 0, .int .i64 0], .int .i64 0] σ) = some (.val (.tup [.nils, .int .i64 1]) σ) := by
  refine call_of T_tremor_Inject e_tremor_Inject rfl ?_
  have h1 := fun σ => @C_all_amt σ [1] (by decide)
  have h2 : allB [1] amtOk = true := by decide
  rw [h2] at h1
  simp at h1
  simp [-List.length_flatMap, -List.map_take, e_tremor_Inject_r0, e_tremor_Inject_r1, e_tremor_Inject_r2, e_tremor_Inject_r3, e_tremor_Inject_r4, e_tremor_Inject_r5, e_tremor_Inject_r6, e_tremor_Inject_r7, e_tremor_Inject_r8, e_tremor_Inject_r9, e_tremor_Inject_r10, e_tremor_Inject_r11, e_tremor_Inject_r12, e_tremor_Inject_r13, e_tremor_Inject_r14, e_tremor_Inject_r15, e_tremor_Inject_r17, h1]
theorem C_CheckZero : lim T (.call false i_tremor_CheckNet [.agg [.nils, .int .i64 0, .int .i64 0, .int .i64 0, .int .i64 0, .int .i64 0, .int .i64 0, .int .i64 0, .int .i64 0, .int .i64 0, .int .i64 0, .int .i64 0]] σ) = some (.val (.int .i64 1) σ) := by
  refine call_of T_tremor_CheckNet e_tremor_CheckNet rfl ?_
  have h1 : ∀ σ, lim T (.call false i_tremor_Net_valid [.agg [.nils, .int .i64 0, .int .i64 0, .int .i64 0, .int .i64 0, .int .i64 0, .int .i64 0, .int .i64 0, .int .i64 0, .int .i64 0, .int .i64 0, .int .i64 0]] σ) = some (.val (.bool false) σ) := by
    intro σ
    refine call_of T_tremor_Net_valid e_tremor_Net_valid rfl ?_
    have h3 : inn 0 1 12 = false := by decide
    simp [-List.length_flatMap, -List.map_take, e_tremor_Net_valid_r0, e_tremor_Net_valid_r1, e_tremor_Net_valid_r2, e_tremor_Net_valid_r3, e_tremor_Net_valid_r4, C_within, h3]
  simp [-List.length_flatMap, -List.map_take, e_tremor_CheckNet_r0, e_tremor_CheckNet_r1, e_tremor_CheckNet_r2, e_tremor_CheckNet_r3, h1]

set_option maxRecDepth 10000 in
theorem law_Names (hσ : σ ≠ []) : lim T (.call false i_law09_TremorNames [] σ) = some (.val (.bool true) σ) := by
  refine call_of T_law09_TremorNames e_law09_TremorNames rfl ?_
  have hlate : heard.flatMap Pick.enc ++ [.int .i64 0, .int .u8 1, .int .i64 9000, .int .i64 9000] = late.flatMap Pick.enc := rfl
  have hh8 : (heard.flatMap Pick.enc).length = 8 := rfl
  have hht : (heard.flatMap Pick.enc).take 8 = heard.flatMap Pick.enc := rfl
  have hr : 96 ≤ room := by unfold room; omega
  have hfz := fun σ (hσ : σ ≠ []) => @k_frz _ Pick.enc 4 (fun _ => rfl) (fun x => by simp) late 1 1 [.cells 0 [], .cells 1 (late.flatMap Pick.enc)] σ hσ rfl
  have hl3 : late.length = 3 := rfl
  rw [hl3] at hfz
  have w1 : wrong two late = 0 := by decide +kernel
  have w2 : wrong two heard = 0 := by decide +kernel
  have b1 : blame two late = 2 := by decide +kernel
  have n1 : noneB two late = true := by decide +kernel
  have n2 : noneB two heard = false := by decide +kernel
  have r4 : (reasonsL two late).length = 4 := by decide +kernel
  have v1 : prvL two late (lattice two) (reasonsL two late) = true := by decide +kernel
  have v2 : prvL two heard (lattice two) (reasonsL two late) = false := by decide +kernel
  have l1 : (located two late).length = 0 := by decide +kernel
  have hB := fun σ => @C_Blame σ two late (by decide) (by decide) (by decide)
  rw [w1, b1] at hB
  have hRe := fun σ (hσ : σ ≠ []) => @C_Reasons σ two late (by decide) (by decide) (by decide) hσ
  rw [w1, n1, r4] at hRe
  have hRh := fun σ (hσ : σ ≠ []) => @C_Reasons σ two heard (by decide) (by decide) (by decide) hσ
  rw [w2, n2] at hRh
  have hP1 := fun σ => @C_ProveNone σ two late (reasonsL two late) (by decide) (by decide) (by decide) (by rw [r4]; decide)
  rw [w1, v1, r4] at hP1
  have hP2 := fun σ => @C_ProveNone σ two heard (reasonsL two late) (by decide) (by decide) (by decide) (by rw [r4]; decide)
  rw [w2, v2, r4] at hP2
  have hLo := fun σ (hσ : σ ≠ []) => @C_LocateP σ two late (by decide) (by decide) (by decide) hσ
  rw [w1, l1] at hLo
  have hLi := fun σ => @C_Light σ [rule1] [event1] 12 (by decide) (by decide) (by decide)
  have e1 : lightErr [rule1] [event1] 12 = 0 := by decide +kernel
  have e2 : mayOf [rule1] [event1] 12 = 2 := by decide +kernel
  have e3 : sureOf [rule1] [event1] 12 = 0 := by decide +kernel
  rw [e1, e2, e3] at hLi
  have i2 : inn 2 0 (two.st.length - 1) = false := by decide
  have i1 : inn 1 0 (two.st.length - 1) = true := by decide
  have pk : Pt.ok ⟨20001, 0, 0⟩ = false := by decide
  have hT1 := fun σ => @C_TravelP σ two 2 0 0 0 0 (by decide) (by omega)
  rw [two_ok, i2] at hT1
  have hT2 := fun σ => @C_TravelP σ two 1 0 20001 0 0 (by decide) (by omega)
  rw [two_ok, i1, pk] at hT2
  have hW1 := fun σ (hσ : σ ≠ []) => @C_Won σ ⟨1, 10, 1, 10, 20⟩ [true] (by decide) hσ
  have o1 : Bet.ok ⟨1, 10, 1, 10, 20⟩ = true := by decide
  have x1 : idxOf (wins ⟨1, 10, 1, 10, 20⟩) (caps ⟨1, 10, 1, 10, 20⟩ 1000000 [true]) = -1 := by decide +kernel
  rw [o1, x1] at hW1
  have hW2 := fun σ (hσ : σ ≠ []) => @C_Won σ ⟨1, 10, 1, 1, 10⟩ [true] (by decide) hσ
  have o2 : Bet.ok ⟨1, 10, 1, 1, 10⟩ = true := by decide
  have x2 : idxOf (wins ⟨1, 10, 1, 1, 10⟩) (caps ⟨1, 10, 1, 1, 10⟩ 1000000 [true]) = 0 := by decide +kernel
  rw [o2, x2] at hW2
  have hN := fun σ => @C_LocNil σ two (by decide) two_ok
  have hh2 : heard.length = 2 := rfl
  simp [rule1, event1, hl3, hh2] at hB hRe hRh hP1 hP2 hLo hLi hT1 hT2 hW1 hW2 hN
  simp [-List.length_flatMap, -List.map_take, e_law09_TremorNames_r0, e_law09_TremorNames_r1, e_law09_TremorNames_r2, e_law09_TremorNames_r3, e_law09_TremorNames_r4, e_law09_TremorNames_r5, e_law09_TremorNames_r6, e_law09_TremorNames_r7, e_law09_TremorNames_r8, e_law09_TremorNames_r9, e_law09_TremorNames_r10, e_law09_TremorNames_r11, e_law09_TremorNames_r12, e_law09_TremorNames_r13, e_law09_TremorNames_r14, e_law09_TremorNames_r15, e_law09_TremorNames_r16, e_law09_TremorNames_r17, C_HeardK, C_Two, C_Heard, hh2, hh8, hht, hlate, hr, hfz, hσ, hB, hRe, hRh, hP1, hP2, hLo, hLi, hT1, hT2, hW1, hW2, hN, C_LightNil, C_InjNil, C_CheckZero, C_awake]

theorem go_TremorNames : ∃ σ', lim T (.call false i_law09_TremorNames [] [[]]) = some (.val (.bool true) σ') := ⟨_, law_Names (by simp)⟩
end Go.Proofs.Yticpenoicajakaa
