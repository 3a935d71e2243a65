/- The table of functions: all that it says is the program's. -/
import Derived.Test.YtcjjdaifpboaaaaF0
import Derived.Test.YtcjjdaifpboaaaaF1
import Derived.Test.YtcjjdaifpboaaaaF2
import Derived.Test.YtcjjdaifpboaaaaLays
import Derived.Test.YtcjjdaifpboaaaaBase2
set_option linter.unusedVariables false
set_option maxRecDepth 100000
namespace Go.Proofs.Ytcjjdaifpboaaaa
open Go Go.Abs
def tbl : List (Nat × Abs.Fn) := [(i_law04_TrialGroups, f_law04_TrialGroups), (i_law04_TrialDivides, f_law04_TrialDivides), (i_law04_wakes, f_law04_wakes), (i_trial_CheckTest, f_trial_CheckTest), (i_trial_Curves, f_trial_Curves), (i_law04_Range, f_law04_Range), (i_ref04_In, f_ref04_In), (i_ref04_Right, f_ref04_Right), (i_trial_Drawdown, f_trial_Drawdown), (i_ref04_SurveyFault, f_ref04_SurveyFault), (i_ref04_Clash, f_ref04_Clash), (i_trial_Relations, f_trial_Relations), (i_law04_Survey, f_law04_Survey), (i_trial_Plan, f_trial_Plan), (i_law04_ints, f_law04_ints), (i_trial_Fits, f_trial_Fits), (i_trial_Groups, f_trial_Groups), (i_law04_divided, f_law04_divided), (i_trial_Clash, f_trial_Clash), (i_trial_CheckSurvey, f_trial_CheckSurvey), (i_ref04_Groups, f_ref04_Groups), (i_ref04_Way, f_ref04_Way), (i_law04_well, f_law04_well), (i_law04_wells, f_law04_wells), (i_trial_Range_right, f_trial_Range_right), (i_trial_within, f_trial_within), (i_trial_Range_drops, f_trial_Range_drops), (i_trial_Curve_drop, f_trial_Curve_drop), (i_trial_Test_sets, f_trial_Test_sets), (i_trial_span, f_trial_span), (i_trial_Test_drawdown, f_trial_Test_drawdown), (i_ref04_Against, f_ref04_Against), (i_trial_checked, f_trial_checked), (i_trial_parted_relation, f_trial_parted_relation), (i_trial_Plan_1, f_trial_Plan_1), (i_slices_ContainsFunc_int, f_slices_ContainsFunc_int), (i_trial_Plan_1_1, f_trial_Plan_1_1), (i_trial_Plan_2, f_trial_Plan_2), (i_trial_Plan_3, f_trial_Plan_3), (i_trial_Test_rooms, f_trial_Test_rooms), (i_trial_Survey_fits, f_trial_Survey_fits), (i_ref04_Sure, f_ref04_Sure), (i_trial_Range_less, f_trial_Range_less), (i_trial_Survey_groups, f_trial_Survey_groups), (i_slices_Clone_int, f_slices_Clone_int), (i_trial_parted_clash, f_trial_parted_clash), (i_trial_Survey_way, f_trial_Survey_way), (i_ref04_Far, f_ref04_Far), (i_ref04_beside, f_ref04_beside), (i_trial_Test_sets_1, f_trial_Test_sets_1), (i_trial_meet, f_trial_meet), (i_trial_Survey_apart, f_trial_Survey_apart), (i_slices_IndexFunc_int, f_slices_IndexFunc_int), (i_trial_Test_rooms_1, f_trial_Test_rooms_1), (i_trial_Test_rooms_1_1, f_trial_Test_rooms_1_1), (i_trial_Survey_joined, f_trial_Survey_joined), (i_slices_IndexFunc_trial_Seen, f_slices_IndexFunc_trial_Seen), (i_trial_parted_clash_1, f_trial_parted_clash_1), (i_trial_Survey_near, f_trial_Survey_near), (i_trial_Survey_way_1, f_trial_Survey_way_1), (1000000 + i_slices_Sort_int, ⟨1, [], .exit 0⟩), (1000000 + i_slices_Compact_int, ⟨2, [], .exit 0⟩)]
def T : Tbl := fun f => (tbl.find? fun p => p.1 == f).map (·.2)
theorem T_law04_TrialGroups : T i_law04_TrialGroups = some f_law04_TrialGroups := rfl
theorem T_law04_TrialDivides : T i_law04_TrialDivides = some f_law04_TrialDivides := rfl
theorem T_law04_wakes : T i_law04_wakes = some f_law04_wakes := rfl
theorem T_trial_CheckTest : T i_trial_CheckTest = some f_trial_CheckTest := rfl
theorem T_trial_Curves : T i_trial_Curves = some f_trial_Curves := rfl
theorem T_law04_Range : T i_law04_Range = some f_law04_Range := rfl
theorem T_ref04_In : T i_ref04_In = some f_ref04_In := rfl
theorem T_ref04_Right : T i_ref04_Right = some f_ref04_Right := rfl
theorem T_trial_Drawdown : T i_trial_Drawdown = some f_trial_Drawdown := rfl
theorem T_ref04_SurveyFault : T i_ref04_SurveyFault = some f_ref04_SurveyFault := rfl
theorem T_ref04_Clash : T i_ref04_Clash = some f_ref04_Clash := rfl
theorem T_trial_Relations : T i_trial_Relations = some f_trial_Relations := rfl
theorem T_law04_Survey : T i_law04_Survey = some f_law04_Survey := rfl
theorem T_trial_Plan : T i_trial_Plan = some f_trial_Plan := rfl
theorem T_law04_ints : T i_law04_ints = some f_law04_ints := rfl
theorem T_trial_Fits : T i_trial_Fits = some f_trial_Fits := rfl
theorem T_trial_Groups : T i_trial_Groups = some f_trial_Groups := rfl
theorem T_law04_divided : T i_law04_divided = some f_law04_divided := rfl
theorem T_trial_Clash : T i_trial_Clash = some f_trial_Clash := rfl
theorem T_trial_CheckSurvey : T i_trial_CheckSurvey = some f_trial_CheckSurvey := rfl
theorem T_ref04_Groups : T i_ref04_Groups = some f_ref04_Groups := rfl
theorem T_ref04_Way : T i_ref04_Way = some f_ref04_Way := rfl
theorem T_law04_well : T i_law04_well = some f_law04_well := rfl
theorem T_law04_wells : T i_law04_wells = some f_law04_wells := rfl
theorem T_trial_Range_right : T i_trial_Range_right = some f_trial_Range_right := rfl
theorem T_trial_within : T i_trial_within = some f_trial_within := rfl
theorem T_trial_Range_drops : T i_trial_Range_drops = some f_trial_Range_drops := rfl
theorem T_trial_Curve_drop : T i_trial_Curve_drop = some f_trial_Curve_drop := rfl
theorem T_trial_Test_sets : T i_trial_Test_sets = some f_trial_Test_sets := rfl
theorem T_trial_span : T i_trial_span = some f_trial_span := rfl
theorem T_trial_Test_drawdown : T i_trial_Test_drawdown = some f_trial_Test_drawdown := rfl
theorem T_ref04_Against : T i_ref04_Against = some f_ref04_Against := rfl
theorem T_trial_checked : T i_trial_checked = some f_trial_checked := rfl
theorem T_trial_parted_relation : T i_trial_parted_relation = some f_trial_parted_relation := rfl
theorem T_trial_Plan_1 : T i_trial_Plan_1 = some f_trial_Plan_1 := rfl
theorem T_slices_ContainsFunc_int : T i_slices_ContainsFunc_int = some f_slices_ContainsFunc_int := rfl
theorem T_trial_Plan_1_1 : T i_trial_Plan_1_1 = some f_trial_Plan_1_1 := rfl
theorem T_trial_Plan_2 : T i_trial_Plan_2 = some f_trial_Plan_2 := rfl
theorem T_trial_Plan_3 : T i_trial_Plan_3 = some f_trial_Plan_3 := rfl
theorem T_trial_Test_rooms : T i_trial_Test_rooms = some f_trial_Test_rooms := rfl
theorem T_trial_Survey_fits : T i_trial_Survey_fits = some f_trial_Survey_fits := rfl
theorem T_ref04_Sure : T i_ref04_Sure = some f_ref04_Sure := rfl
theorem T_trial_Range_less : T i_trial_Range_less = some f_trial_Range_less := rfl
theorem T_trial_Survey_groups : T i_trial_Survey_groups = some f_trial_Survey_groups := rfl
theorem T_slices_Clone_int : T i_slices_Clone_int = some f_slices_Clone_int := rfl
theorem T_trial_parted_clash : T i_trial_parted_clash = some f_trial_parted_clash := rfl
theorem T_trial_Survey_way : T i_trial_Survey_way = some f_trial_Survey_way := rfl
theorem T_ref04_Far : T i_ref04_Far = some f_ref04_Far := rfl
theorem T_ref04_beside : T i_ref04_beside = some f_ref04_beside := rfl
theorem T_trial_Test_sets_1 : T i_trial_Test_sets_1 = some f_trial_Test_sets_1 := rfl
theorem T_trial_meet : T i_trial_meet = some f_trial_meet := rfl
theorem T_trial_Survey_apart : T i_trial_Survey_apart = some f_trial_Survey_apart := rfl
theorem T_slices_IndexFunc_int : T i_slices_IndexFunc_int = some f_slices_IndexFunc_int := rfl
theorem T_trial_Test_rooms_1 : T i_trial_Test_rooms_1 = some f_trial_Test_rooms_1 := rfl
theorem T_trial_Test_rooms_1_1 : T i_trial_Test_rooms_1_1 = some f_trial_Test_rooms_1_1 := rfl
theorem T_trial_Survey_joined : T i_trial_Survey_joined = some f_trial_Survey_joined := rfl
theorem T_slices_IndexFunc_trial_Seen : T i_slices_IndexFunc_trial_Seen = some f_slices_IndexFunc_trial_Seen := rfl
theorem T_trial_parted_clash_1 : T i_trial_parted_clash_1 = some f_trial_parted_clash_1 := rfl
theorem T_trial_Survey_near : T i_trial_Survey_near = some f_trial_Survey_near := rfl
theorem T_trial_Survey_way_1 : T i_trial_Survey_way_1 = some f_trial_Survey_way_1 := rfl
theorem mixed : Try.prog.follows .mixedOrders = true := by kernel_rfl
theorem T_slices_Sort_int : T i_slices_Sort_int = none := rfl
theorem N_slices_Sort_int : T (1000000 + i_slices_Sort_int) = some ⟨1, [], .exit 0⟩ := rfl
theorem T_slices_Compact_int : T i_slices_Compact_int = none := rfl
theorem N_slices_Compact_int : T (1000000 + i_slices_Compact_int) = some ⟨2, [], .exit 0⟩ := rfl
def FOk (f : Nat) (fn : Abs.Fn) : Prop := if f < 1000000 then FnOk Try.prog f fn else fn.body = .exit 0 ∧ NatOk Try.prog fn.npar (f - 1000000)
theorem fok {f : Nat} {fn : Abs.Fn} (h : f < 1000000) (h' : FnOk Try.prog f fn) : FOk f fn := by unfold FOk; rw [if_pos h]; exact h'
theorem nok {k f : Nat} (h' : NatOk Try.prog k f) : FOk (1000000 + f) ⟨k, [], .exit 0⟩ := by unfold FOk; rw [if_neg (by omega), show 1000000 + f - 1000000 = f from by omega]; exact ⟨rfl, h'⟩
theorem F_law04_TrialGroups : FOk i_law04_TrialGroups f_law04_TrialGroups := fok (by decide) ⟨Try.f15, _, a_law04_TrialGroups, Try.func15, by decide, rfl, ok_law04_TrialGroups⟩
theorem F_law04_TrialDivides : FOk i_law04_TrialDivides f_law04_TrialDivides := fok (by decide) ⟨Try.f16, _, a_law04_TrialDivides, Try.func16, by decide, rfl, ok_law04_TrialDivides⟩
theorem F_law04_wakes : FOk i_law04_wakes f_law04_wakes := fok (by decide) ⟨Try.f18, _, a_law04_wakes, Try.func18, by decide, rfl, ok_law04_wakes⟩
theorem F_trial_CheckTest : FOk i_trial_CheckTest f_trial_CheckTest := fok (by decide) ⟨Try.f19, _, a_trial_CheckTest, Try.func19, by decide, rfl, ok_trial_CheckTest⟩
theorem F_trial_Curves : FOk i_trial_Curves f_trial_Curves := fok (by decide) ⟨Try.f24, _, a_trial_Curves, Try.func24, by decide, rfl, ok_trial_Curves⟩
theorem F_law04_Range : FOk i_law04_Range f_law04_Range := fok (by decide) ⟨Try.f27, _, a_law04_Range, Try.func27, by decide, rfl, ok_law04_Range⟩
theorem F_ref04_In : FOk i_ref04_In f_ref04_In := fok (by decide) ⟨Try.f28, _, a_ref04_In, Try.func28, by decide, rfl, ok_ref04_In⟩
theorem F_ref04_Right : FOk i_ref04_Right f_ref04_Right := fok (by decide) ⟨Try.f29, _, a_ref04_Right, Try.func29, by decide, rfl, ok_ref04_Right⟩
theorem F_trial_Drawdown : FOk i_trial_Drawdown f_trial_Drawdown := fok (by decide) ⟨Try.f31, _, a_trial_Drawdown, Try.func31, by decide, rfl, ok_trial_Drawdown⟩
theorem F_ref04_SurveyFault : FOk i_ref04_SurveyFault f_ref04_SurveyFault := fok (by decide) ⟨Try.f32, _, a_ref04_SurveyFault, Try.func32, by decide, rfl, ok_ref04_SurveyFault⟩
theorem F_ref04_Clash : FOk i_ref04_Clash f_ref04_Clash := fok (by decide) ⟨Try.f33, _, a_ref04_Clash, Try.func33, by decide, rfl, ok_ref04_Clash⟩
theorem F_trial_Relations : FOk i_trial_Relations f_trial_Relations := fok (by decide) ⟨Try.f34, _, a_trial_Relations, Try.func34, by decide, rfl, ok_trial_Relations⟩
theorem F_law04_Survey : FOk i_law04_Survey f_law04_Survey := fok (by decide) ⟨Try.f35, _, a_law04_Survey, Try.func35, by decide, rfl, ok_law04_Survey⟩
theorem F_trial_Plan : FOk i_trial_Plan f_trial_Plan := fok (by decide) ⟨Try.f36, _, a_trial_Plan, Try.func36, by decide, rfl, ok_trial_Plan⟩
theorem F_law04_ints : FOk i_law04_ints f_law04_ints := fok (by decide) ⟨Try.f37, _, a_law04_ints, Try.func37, by decide, rfl, ok_law04_ints⟩
theorem F_trial_Fits : FOk i_trial_Fits f_trial_Fits := fok (by decide) ⟨Try.f48, _, a_trial_Fits, Try.func48, by decide, rfl, ok_trial_Fits⟩
theorem F_trial_Groups : FOk i_trial_Groups f_trial_Groups := fok (by decide) ⟨Try.f57, _, a_trial_Groups, Try.func57, by decide, rfl, ok_trial_Groups⟩
theorem F_law04_divided : FOk i_law04_divided f_law04_divided := fok (by decide) ⟨Try.f58, _, a_law04_divided, Try.func58, by decide, rfl, ok_law04_divided⟩
theorem F_trial_Clash : FOk i_trial_Clash f_trial_Clash := fok (by decide) ⟨Try.f60, _, a_trial_Clash, Try.func60, by decide, rfl, ok_trial_Clash⟩
theorem F_trial_CheckSurvey : FOk i_trial_CheckSurvey f_trial_CheckSurvey := fok (by decide) ⟨Try.f61, _, a_trial_CheckSurvey, Try.func61, by decide, rfl, ok_trial_CheckSurvey⟩
theorem F_ref04_Groups : FOk i_ref04_Groups f_ref04_Groups := fok (by decide) ⟨Try.f62, _, a_ref04_Groups, Try.func62, by decide, rfl, ok_ref04_Groups⟩
theorem F_ref04_Way : FOk i_ref04_Way f_ref04_Way := fok (by decide) ⟨Try.f63, _, a_ref04_Way, Try.func63, by decide, rfl, ok_ref04_Way⟩
theorem F_law04_well : FOk i_law04_well f_law04_well := fok (by decide) ⟨Try.f64, _, a_law04_well, Try.func64, by decide, rfl, ok_law04_well⟩
theorem F_law04_wells : FOk i_law04_wells f_law04_wells := fok (by decide) ⟨Try.f65, _, a_law04_wells, Try.func65, by decide, rfl, ok_law04_wells⟩
theorem F_trial_Range_right : FOk i_trial_Range_right f_trial_Range_right := fok (by decide) ⟨Try.f66, _, a_trial_Range_right, Try.func66, by decide, rfl, ok_trial_Range_right⟩
theorem F_trial_within : FOk i_trial_within f_trial_within := fok (by decide) ⟨Try.f67, _, a_trial_within, Try.func67, by decide, rfl, ok_trial_within⟩
theorem F_trial_Range_drops : FOk i_trial_Range_drops f_trial_Range_drops := fok (by decide) ⟨Try.f68, _, a_trial_Range_drops, Try.func68, by decide, rfl, ok_trial_Range_drops⟩
theorem F_trial_Curve_drop : FOk i_trial_Curve_drop f_trial_Curve_drop := fok (by decide) ⟨Try.f70, _, a_trial_Curve_drop, Try.func70, by decide, rfl, ok_trial_Curve_drop⟩
theorem F_trial_Test_sets : FOk i_trial_Test_sets f_trial_Test_sets := fok (by decide) ⟨Try.f71, _, a_trial_Test_sets, Try.func71, by decide, rfl, ok_trial_Test_sets⟩
theorem F_trial_span : FOk i_trial_span f_trial_span := fok (by decide) ⟨Try.f72, _, a_trial_span, Try.func72, by decide, rfl, ok_trial_span⟩
theorem F_trial_Test_drawdown : FOk i_trial_Test_drawdown f_trial_Test_drawdown := fok (by decide) ⟨Try.f75, _, a_trial_Test_drawdown, Try.func75, by decide, rfl, ok_trial_Test_drawdown⟩
theorem F_ref04_Against : FOk i_ref04_Against f_ref04_Against := fok (by decide) ⟨Try.f76, _, a_ref04_Against, Try.func76, by decide, rfl, ok_ref04_Against⟩
theorem F_trial_checked : FOk i_trial_checked f_trial_checked := fok (by decide) ⟨Try.f77, _, a_trial_checked, Try.func77, by decide, rfl, ok_trial_checked⟩
theorem F_trial_parted_relation : FOk i_trial_parted_relation f_trial_parted_relation := fok (by decide) ⟨Try.f78, _, a_trial_parted_relation, Try.func78, by decide, rfl, ok_trial_parted_relation⟩
theorem F_trial_Plan_1 : FOk i_trial_Plan_1 f_trial_Plan_1 := fok (by decide) ⟨Try.f79, _, a_trial_Plan_1, Try.func79, by decide, rfl, ok_trial_Plan_1⟩
theorem F_slices_ContainsFunc_int : FOk i_slices_ContainsFunc_int f_slices_ContainsFunc_int := fok (by decide) ⟨Try.f80, _, a_slices_ContainsFunc_int, Try.func80, by decide, rfl, ok_slices_ContainsFunc_int⟩
theorem F_trial_Plan_1_1 : FOk i_trial_Plan_1_1 f_trial_Plan_1_1 := fok (by decide) ⟨Try.f81, _, a_trial_Plan_1_1, Try.func81, by decide, rfl, ok_trial_Plan_1_1⟩
theorem F_trial_Plan_2 : FOk i_trial_Plan_2 f_trial_Plan_2 := fok (by decide) ⟨Try.f82, _, a_trial_Plan_2, Try.func82, by decide, rfl, ok_trial_Plan_2⟩
theorem F_trial_Plan_3 : FOk i_trial_Plan_3 f_trial_Plan_3 := fok (by decide) ⟨Try.f83, _, a_trial_Plan_3, Try.func83, by decide, rfl, ok_trial_Plan_3⟩
theorem F_trial_Test_rooms : FOk i_trial_Test_rooms f_trial_Test_rooms := fok (by decide) ⟨Try.f88, _, a_trial_Test_rooms, Try.func88, by decide, rfl, ok_trial_Test_rooms⟩
theorem F_trial_Survey_fits : FOk i_trial_Survey_fits f_trial_Survey_fits := fok (by decide) ⟨Try.f94, _, a_trial_Survey_fits, Try.func94, by decide, rfl, ok_trial_Survey_fits⟩
theorem F_ref04_Sure : FOk i_ref04_Sure f_ref04_Sure := fok (by decide) ⟨Try.f95, _, a_ref04_Sure, Try.func95, by decide, rfl, ok_ref04_Sure⟩
theorem F_trial_Range_less : FOk i_trial_Range_less f_trial_Range_less := fok (by decide) ⟨Try.f97, _, a_trial_Range_less, Try.func97, by decide, rfl, ok_trial_Range_less⟩
theorem F_trial_Survey_groups : FOk i_trial_Survey_groups f_trial_Survey_groups := fok (by decide) ⟨Try.f99, _, a_trial_Survey_groups, Try.func99, by decide, rfl, ok_trial_Survey_groups⟩
theorem F_slices_Clone_int : FOk i_slices_Clone_int f_slices_Clone_int := fok (by decide) ⟨Try.f100, _, a_slices_Clone_int, Try.func100, by decide, rfl, ok_slices_Clone_int⟩
theorem F_trial_parted_clash : FOk i_trial_parted_clash f_trial_parted_clash := fok (by decide) ⟨Try.f101, _, a_trial_parted_clash, Try.func101, by decide, rfl, ok_trial_parted_clash⟩
theorem F_trial_Survey_way : FOk i_trial_Survey_way f_trial_Survey_way := fok (by decide) ⟨Try.f102, _, a_trial_Survey_way, Try.func102, by decide, rfl, ok_trial_Survey_way⟩
theorem F_ref04_Far : FOk i_ref04_Far f_ref04_Far := fok (by decide) ⟨Try.f103, _, a_ref04_Far, Try.func103, by decide, rfl, ok_ref04_Far⟩
theorem F_ref04_beside : FOk i_ref04_beside f_ref04_beside := fok (by decide) ⟨Try.f104, _, a_ref04_beside, Try.func104, by decide, rfl, ok_ref04_beside⟩
theorem F_trial_Test_sets_1 : FOk i_trial_Test_sets_1 f_trial_Test_sets_1 := fok (by decide) ⟨Try.f105, _, a_trial_Test_sets_1, Try.func105, by decide, rfl, ok_trial_Test_sets_1⟩
theorem F_trial_meet : FOk i_trial_meet f_trial_meet := fok (by decide) ⟨Try.f106, _, a_trial_meet, Try.func106, by decide, rfl, ok_trial_meet⟩
theorem F_trial_Survey_apart : FOk i_trial_Survey_apart f_trial_Survey_apart := fok (by decide) ⟨Try.f108, _, a_trial_Survey_apart, Try.func108, by decide, rfl, ok_trial_Survey_apart⟩
theorem F_slices_IndexFunc_int : FOk i_slices_IndexFunc_int f_slices_IndexFunc_int := fok (by decide) ⟨Try.f109, _, a_slices_IndexFunc_int, Try.func109, by decide, rfl, ok_slices_IndexFunc_int⟩
theorem F_trial_Test_rooms_1 : FOk i_trial_Test_rooms_1 f_trial_Test_rooms_1 := fok (by decide) ⟨Try.f110, _, a_trial_Test_rooms_1, Try.func110, by decide, rfl, ok_trial_Test_rooms_1⟩
theorem F_trial_Test_rooms_1_1 : FOk i_trial_Test_rooms_1_1 f_trial_Test_rooms_1_1 := fok (by decide) ⟨Try.f111, _, a_trial_Test_rooms_1_1, Try.func111, by decide, rfl, ok_trial_Test_rooms_1_1⟩
theorem F_trial_Survey_joined : FOk i_trial_Survey_joined f_trial_Survey_joined := fok (by decide) ⟨Try.f112, _, a_trial_Survey_joined, Try.func112, by decide, rfl, ok_trial_Survey_joined⟩
theorem F_slices_IndexFunc_trial_Seen : FOk i_slices_IndexFunc_trial_Seen f_slices_IndexFunc_trial_Seen := fok (by decide) ⟨Try.f113, _, a_slices_IndexFunc_trial_Seen, Try.func113, by decide, rfl, ok_slices_IndexFunc_trial_Seen⟩
theorem F_trial_parted_clash_1 : FOk i_trial_parted_clash_1 f_trial_parted_clash_1 := fok (by decide) ⟨Try.f114, _, a_trial_parted_clash_1, Try.func114, by decide, rfl, ok_trial_parted_clash_1⟩
theorem F_trial_Survey_near : FOk i_trial_Survey_near f_trial_Survey_near := fok (by decide) ⟨Try.f115, _, a_trial_Survey_near, Try.func115, by decide, rfl, ok_trial_Survey_near⟩
theorem F_trial_Survey_way_1 : FOk i_trial_Survey_way_1 f_trial_Survey_way_1 := fok (by decide) ⟨Try.f116, _, a_trial_Survey_way_1, Try.func116, by decide, rfl, ok_trial_Survey_way_1⟩
theorem F_slices_Sort_int : FOk (1000000 + i_slices_Sort_int) ⟨1, [], .exit 0⟩ := nok nat_slices_Sort_int
theorem F_slices_Compact_int : FOk (1000000 + i_slices_Compact_int) ⟨2, [], .exit 0⟩ := nok nat_slices_Compact_int
theorem FAll : ∀ p ∈ tbl, FOk p.1 p.2 := by
  simp only [tbl, List.forall_mem_cons]
  exact ⟨F_law04_TrialGroups, F_law04_TrialDivides, F_law04_wakes, F_trial_CheckTest, F_trial_Curves, F_law04_Range, F_ref04_In, F_ref04_Right, F_trial_Drawdown, F_ref04_SurveyFault, F_ref04_Clash, F_trial_Relations, F_law04_Survey, F_trial_Plan, F_law04_ints, F_trial_Fits, F_trial_Groups, F_law04_divided, F_trial_Clash, F_trial_CheckSurvey, F_ref04_Groups, F_ref04_Way, F_law04_well, F_law04_wells, F_trial_Range_right, F_trial_within, F_trial_Range_drops, F_trial_Curve_drop, F_trial_Test_sets, F_trial_span, F_trial_Test_drawdown, F_ref04_Against, F_trial_checked, F_trial_parted_relation, F_trial_Plan_1, F_slices_ContainsFunc_int, F_trial_Plan_1_1, F_trial_Plan_2, F_trial_Plan_3, F_trial_Test_rooms, F_trial_Survey_fits, F_ref04_Sure, F_trial_Range_less, F_trial_Survey_groups, F_slices_Clone_int, F_trial_parted_clash, F_trial_Survey_way, F_ref04_Far, F_ref04_beside, F_trial_Test_sets_1, F_trial_meet, F_trial_Survey_apart, F_slices_IndexFunc_int, F_trial_Test_rooms_1, F_trial_Test_rooms_1_1, F_trial_Survey_joined, F_slices_IndexFunc_trial_Seen, F_trial_parted_clash_1, F_trial_Survey_near, F_trial_Survey_way_1, F_slices_Sort_int, F_slices_Compact_int, by simp⟩
theorem TT : TOk Try.prog T := by
  intro f fn h
  have h' : ∃ p, tbl.find? (fun p => p.1 == f) = some p ∧ p.2 = fn := by simpa [T] using h
  obtain ⟨p, h1, h2⟩ := h'
  have h3 := List.mem_of_find?_eq_some h1
  have h4 := List.find?_some h1
  have h6 := FAll p h3
  simp only [beq_iff_eq] at h4
  subst h2
  rw [← h4]
  exact h6
end Go.Proofs.Ytcjjdaifpboaaaa
