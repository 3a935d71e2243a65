/- The table of functions: all that it says is the program's. -/
import Derived.Test.YtcjjdaifpboaaaaF0
import Derived.Test.YtcjjdaifpboaaaaF1
import Derived.Test.YtcjjdaifpboaaaaF2
import Derived.Test.YtcjjdaifpboaaaaF3
import Derived.Test.YtcjjdaifpboaaaaBase2
set_option linter.unusedVariables false
set_option maxRecDepth 100000
namespace Go.Proofs.Ytcjjdaifpboaaaa
open Go Go.Abs
def tbl : List (Nat × Abs.Fn) := [(i_law04_TrialCurves, f_law04_TrialCurves), (i_law04_TrialKept, f_law04_TrialKept), (i_law04_TrialProves, f_law04_TrialProves), (i_law04_TrialDrops, f_law04_TrialDrops), (i_law04_TrialGives, f_law04_TrialGives), (i_law04_TrialCapacities, f_law04_TrialCapacities), (i_law04_TrialFails, f_law04_TrialFails), (i_law04_TrialEither, f_law04_TrialEither), (i_law04_wakes, f_law04_wakes), (i_trial_CheckTest, f_trial_CheckTest), (i_law04_Test, f_law04_Test), (i_ref04_TestFault, f_ref04_TestFault), (i_trial_Agrees, f_trial_Agrees), (i_ref04_Agrees, f_ref04_Agrees), (i_trial_Curves, f_trial_Curves), (i_law04_asked, f_law04_asked), (i_ref04_Curves, f_ref04_Curves), (i_law04_Range, f_law04_Range), (i_ref04_In, f_ref04_In), (i_ref04_Right, f_ref04_Right), (i_ref04_Drop, f_ref04_Drop), (i_trial_Drawdown, f_trial_Drawdown), (i_trial_Plan, f_trial_Plan), (i_law04_ints, f_law04_ints), (i_ref04_Conflicts, f_ref04_Conflicts), (i_trial_ProveNone, f_trial_ProveNone), (i_ref04_Shows, f_ref04_Shows), (i_trial_Widest, f_trial_Widest), (i_ref04_Drawdown, f_ref04_Drawdown), (i_ref04_Widest, f_ref04_Widest), (i_trial_Capacity, f_trial_Capacity), (i_ref04_Capacity, f_ref04_Capacity), (i_trial_Blame, f_trial_Blame), (i_trial_Conflicts, f_trial_Conflicts), (i_ref04_Blame, f_ref04_Blame), (i_trial_Groups, f_trial_Groups), (i_trial_CheckSurvey, f_trial_CheckSurvey), (i_law04_well, f_law04_well), (i_law04_wells, f_law04_wells), (i_trial_Range_right, f_trial_Range_right), (i_trial_within, f_trial_within), (i_trial_Range_drops, f_trial_Range_drops), (i_trial_Range_has, f_trial_Range_has), (i_trial_Curve_drop, f_trial_Curve_drop), (i_trial_Test_sets, f_trial_Test_sets), (i_trial_span, f_trial_span), (i_ref04_Set, f_ref04_Set), (i_ref04_Span, f_ref04_Span), (i_trial_Test_drawdown, f_trial_Test_drawdown), (i_trial_checked, f_trial_checked), (i_trial_parted_relation, f_trial_parted_relation), (i_trial_Plan_1, f_trial_Plan_1), (i_slices_ContainsFunc_int, f_slices_ContainsFunc_int), (i_trial_Plan_1_1, f_trial_Plan_1_1), (i_trial_Plan_2, f_trial_Plan_2), (i_trial_Plan_3, f_trial_Plan_3), (i_ref04_First, f_ref04_First), (i_trial_Test_rooms, f_trial_Test_rooms), (i_ref04_Conflict, f_ref04_Conflict), (i_trial_Test_none, f_trial_Test_none), (i_trial_Capacity_1, f_trial_Capacity_1), (i_trial_Capacity_2, f_trial_Capacity_2), (i_trial_Capacity_3, f_trial_Capacity_3), (i_trial_Range_less, f_trial_Range_less), (i_trial_apart, f_trial_apart), (i_trial_Survey_groups, f_trial_Survey_groups), (i_slices_Clone_int, f_slices_Clone_int), (i_trial_parted_clash, f_trial_parted_clash), (i_trial_Test_sets_1, f_trial_Test_sets_1), (i_trial_meet, f_trial_meet), (i_ref04_Room, f_ref04_Room), (i_trial_Survey_apart, f_trial_Survey_apart), (i_slices_IndexFunc_int, f_slices_IndexFunc_int), (i_trial_Test_rooms_1, f_trial_Test_rooms_1), (i_trial_Test_rooms_1_1, f_trial_Test_rooms_1_1), (i_trial_Survey_joined, f_trial_Survey_joined), (i_slices_IndexFunc_trial_Seen, f_slices_IndexFunc_trial_Seen), (i_trial_parted_clash_1, f_trial_parted_clash_1)]
def T : Tbl := fun f => (tbl.find? fun p => p.1 == f).map (·.2)
theorem T_law04_TrialCurves : T i_law04_TrialCurves = some f_law04_TrialCurves := rfl
theorem T_law04_TrialKept : T i_law04_TrialKept = some f_law04_TrialKept := rfl
theorem T_law04_TrialProves : T i_law04_TrialProves = some f_law04_TrialProves := rfl
theorem T_law04_TrialDrops : T i_law04_TrialDrops = some f_law04_TrialDrops := rfl
theorem T_law04_TrialGives : T i_law04_TrialGives = some f_law04_TrialGives := rfl
theorem T_law04_TrialCapacities : T i_law04_TrialCapacities = some f_law04_TrialCapacities := rfl
theorem T_law04_TrialFails : T i_law04_TrialFails = some f_law04_TrialFails := rfl
theorem T_law04_TrialEither : T i_law04_TrialEither = some f_law04_TrialEither := rfl
theorem T_law04_wakes : T i_law04_wakes = some f_law04_wakes := rfl
theorem T_trial_CheckTest : T i_trial_CheckTest = some f_trial_CheckTest := rfl
theorem T_law04_Test : T i_law04_Test = some f_law04_Test := rfl
theorem T_ref04_TestFault : T i_ref04_TestFault = some f_ref04_TestFault := rfl
theorem T_trial_Agrees : T i_trial_Agrees = some f_trial_Agrees := rfl
theorem T_ref04_Agrees : T i_ref04_Agrees = some f_ref04_Agrees := rfl
theorem T_trial_Curves : T i_trial_Curves = some f_trial_Curves := rfl
theorem T_law04_asked : T i_law04_asked = some f_law04_asked := rfl
theorem T_ref04_Curves : T i_ref04_Curves = some f_ref04_Curves := rfl
theorem T_law04_Range : T i_law04_Range = some f_law04_Range := rfl
theorem T_ref04_In : T i_ref04_In = some f_ref04_In := rfl
theorem T_ref04_Right : T i_ref04_Right = some f_ref04_Right := rfl
theorem T_ref04_Drop : T i_ref04_Drop = some f_ref04_Drop := rfl
theorem T_trial_Drawdown : T i_trial_Drawdown = some f_trial_Drawdown := rfl
theorem T_trial_Plan : T i_trial_Plan = some f_trial_Plan := rfl
theorem T_law04_ints : T i_law04_ints = some f_law04_ints := rfl
theorem T_ref04_Conflicts : T i_ref04_Conflicts = some f_ref04_Conflicts := rfl
theorem T_trial_ProveNone : T i_trial_ProveNone = some f_trial_ProveNone := rfl
theorem T_ref04_Shows : T i_ref04_Shows = some f_ref04_Shows := rfl
theorem T_trial_Widest : T i_trial_Widest = some f_trial_Widest := rfl
theorem T_ref04_Drawdown : T i_ref04_Drawdown = some f_ref04_Drawdown := rfl
theorem T_ref04_Widest : T i_ref04_Widest = some f_ref04_Widest := rfl
theorem T_trial_Capacity : T i_trial_Capacity = some f_trial_Capacity := rfl
theorem T_ref04_Capacity : T i_ref04_Capacity = some f_ref04_Capacity := rfl
theorem T_trial_Blame : T i_trial_Blame = some f_trial_Blame := rfl
theorem T_trial_Conflicts : T i_trial_Conflicts = some f_trial_Conflicts := rfl
theorem T_ref04_Blame : T i_ref04_Blame = some f_ref04_Blame := rfl
theorem T_trial_Groups : T i_trial_Groups = some f_trial_Groups := rfl
theorem T_trial_CheckSurvey : T i_trial_CheckSurvey = some f_trial_CheckSurvey := rfl
theorem T_law04_well : T i_law04_well = some f_law04_well := rfl
theorem T_law04_wells : T i_law04_wells = some f_law04_wells := rfl
theorem T_trial_Range_right : T i_trial_Range_right = some f_trial_Range_right := rfl
theorem T_trial_within : T i_trial_within = some f_trial_within := rfl
theorem T_trial_Range_drops : T i_trial_Range_drops = some f_trial_Range_drops := rfl
theorem T_trial_Range_has : T i_trial_Range_has = some f_trial_Range_has := rfl
theorem T_trial_Curve_drop : T i_trial_Curve_drop = some f_trial_Curve_drop := rfl
theorem T_trial_Test_sets : T i_trial_Test_sets = some f_trial_Test_sets := rfl
theorem T_trial_span : T i_trial_span = some f_trial_span := rfl
theorem T_ref04_Set : T i_ref04_Set = some f_ref04_Set := rfl
theorem T_ref04_Span : T i_ref04_Span = some f_ref04_Span := rfl
theorem T_trial_Test_drawdown : T i_trial_Test_drawdown = some f_trial_Test_drawdown := rfl
theorem T_trial_checked : T i_trial_checked = some f_trial_checked := rfl
theorem T_trial_parted_relation : T i_trial_parted_relation = some f_trial_parted_relation := rfl
theorem T_trial_Plan_1 : T i_trial_Plan_1 = some f_trial_Plan_1 := rfl
theorem T_slices_ContainsFunc_int : T i_slices_ContainsFunc_int = some f_slices_ContainsFunc_int := rfl
theorem T_trial_Plan_1_1 : T i_trial_Plan_1_1 = some f_trial_Plan_1_1 := rfl
theorem T_trial_Plan_2 : T i_trial_Plan_2 = some f_trial_Plan_2 := rfl
theorem T_trial_Plan_3 : T i_trial_Plan_3 = some f_trial_Plan_3 := rfl
theorem T_ref04_First : T i_ref04_First = some f_ref04_First := rfl
theorem T_trial_Test_rooms : T i_trial_Test_rooms = some f_trial_Test_rooms := rfl
theorem T_ref04_Conflict : T i_ref04_Conflict = some f_ref04_Conflict := rfl
theorem T_trial_Test_none : T i_trial_Test_none = some f_trial_Test_none := rfl
theorem T_trial_Capacity_1 : T i_trial_Capacity_1 = some f_trial_Capacity_1 := rfl
theorem T_trial_Capacity_2 : T i_trial_Capacity_2 = some f_trial_Capacity_2 := rfl
theorem T_trial_Capacity_3 : T i_trial_Capacity_3 = some f_trial_Capacity_3 := rfl
theorem T_trial_Range_less : T i_trial_Range_less = some f_trial_Range_less := rfl
theorem T_trial_apart : T i_trial_apart = some f_trial_apart := rfl
theorem T_trial_Survey_groups : T i_trial_Survey_groups = some f_trial_Survey_groups := rfl
theorem T_slices_Clone_int : T i_slices_Clone_int = some f_slices_Clone_int := rfl
theorem T_trial_parted_clash : T i_trial_parted_clash = some f_trial_parted_clash := rfl
theorem T_trial_Test_sets_1 : T i_trial_Test_sets_1 = some f_trial_Test_sets_1 := rfl
theorem T_trial_meet : T i_trial_meet = some f_trial_meet := rfl
theorem T_ref04_Room : T i_ref04_Room = some f_ref04_Room := rfl
theorem T_trial_Survey_apart : T i_trial_Survey_apart = some f_trial_Survey_apart := rfl
theorem T_slices_IndexFunc_int : T i_slices_IndexFunc_int = some f_slices_IndexFunc_int := rfl
theorem T_trial_Test_rooms_1 : T i_trial_Test_rooms_1 = some f_trial_Test_rooms_1 := rfl
theorem T_trial_Test_rooms_1_1 : T i_trial_Test_rooms_1_1 = some f_trial_Test_rooms_1_1 := rfl
theorem T_trial_Survey_joined : T i_trial_Survey_joined = some f_trial_Survey_joined := rfl
theorem T_slices_IndexFunc_trial_Seen : T i_slices_IndexFunc_trial_Seen = some f_slices_IndexFunc_trial_Seen := rfl
theorem T_trial_parted_clash_1 : T i_trial_parted_clash_1 = some f_trial_parted_clash_1 := rfl
theorem mixed : Try.prog.follows .mixedOrders = true := by kernel_rfl
def FOk (f : Nat) (fn : Abs.Fn) : Prop := ∃ F c ann, Try.prog.funcs[f]? = some F ∧ F.name ≠ "runtime.NumGoroutine" ∧ F.body = some c ∧ fnC Try.prog ann F = some fn
theorem F_law04_TrialCurves : FOk i_law04_TrialCurves f_law04_TrialCurves := ⟨Try.f3, _, a_law04_TrialCurves, Try.func3, by decide, rfl, ok_law04_TrialCurves⟩
theorem F_law04_TrialKept : FOk i_law04_TrialKept f_law04_TrialKept := ⟨Try.f4, _, a_law04_TrialKept, Try.func4, by decide, rfl, ok_law04_TrialKept⟩
theorem F_law04_TrialProves : FOk i_law04_TrialProves f_law04_TrialProves := ⟨Try.f6, _, a_law04_TrialProves, Try.func6, by decide, rfl, ok_law04_TrialProves⟩
theorem F_law04_TrialDrops : FOk i_law04_TrialDrops f_law04_TrialDrops := ⟨Try.f7, _, a_law04_TrialDrops, Try.func7, by decide, rfl, ok_law04_TrialDrops⟩
theorem F_law04_TrialGives : FOk i_law04_TrialGives f_law04_TrialGives := ⟨Try.f8, _, a_law04_TrialGives, Try.func8, by decide, rfl, ok_law04_TrialGives⟩
theorem F_law04_TrialCapacities : FOk i_law04_TrialCapacities f_law04_TrialCapacities := ⟨Try.f9, _, a_law04_TrialCapacities, Try.func9, by decide, rfl, ok_law04_TrialCapacities⟩
theorem F_law04_TrialFails : FOk i_law04_TrialFails f_law04_TrialFails := ⟨Try.f11, _, a_law04_TrialFails, Try.func11, by decide, rfl, ok_law04_TrialFails⟩
theorem F_law04_TrialEither : FOk i_law04_TrialEither f_law04_TrialEither := ⟨Try.f14, _, a_law04_TrialEither, Try.func14, by decide, rfl, ok_law04_TrialEither⟩
theorem F_law04_wakes : FOk i_law04_wakes f_law04_wakes := ⟨Try.f18, _, a_law04_wakes, Try.func18, by decide, rfl, ok_law04_wakes⟩
theorem F_trial_CheckTest : FOk i_trial_CheckTest f_trial_CheckTest := ⟨Try.f19, _, a_trial_CheckTest, Try.func19, by decide, rfl, ok_trial_CheckTest⟩
theorem F_law04_Test : FOk i_law04_Test f_law04_Test := ⟨Try.f20, _, a_law04_Test, Try.func20, by decide, rfl, ok_law04_Test⟩
theorem F_ref04_TestFault : FOk i_ref04_TestFault f_ref04_TestFault := ⟨Try.f21, _, a_ref04_TestFault, Try.func21, by decide, rfl, ok_ref04_TestFault⟩
theorem F_trial_Agrees : FOk i_trial_Agrees f_trial_Agrees := ⟨Try.f22, _, a_trial_Agrees, Try.func22, by decide, rfl, ok_trial_Agrees⟩
theorem F_ref04_Agrees : FOk i_ref04_Agrees f_ref04_Agrees := ⟨Try.f23, _, a_ref04_Agrees, Try.func23, by decide, rfl, ok_ref04_Agrees⟩
theorem F_trial_Curves : FOk i_trial_Curves f_trial_Curves := ⟨Try.f24, _, a_trial_Curves, Try.func24, by decide, rfl, ok_trial_Curves⟩
theorem F_law04_asked : FOk i_law04_asked f_law04_asked := ⟨Try.f25, _, a_law04_asked, Try.func25, by decide, rfl, ok_law04_asked⟩
theorem F_ref04_Curves : FOk i_ref04_Curves f_ref04_Curves := ⟨Try.f26, _, a_ref04_Curves, Try.func26, by decide, rfl, ok_ref04_Curves⟩
theorem F_law04_Range : FOk i_law04_Range f_law04_Range := ⟨Try.f27, _, a_law04_Range, Try.func27, by decide, rfl, ok_law04_Range⟩
theorem F_ref04_In : FOk i_ref04_In f_ref04_In := ⟨Try.f28, _, a_ref04_In, Try.func28, by decide, rfl, ok_ref04_In⟩
theorem F_ref04_Right : FOk i_ref04_Right f_ref04_Right := ⟨Try.f29, _, a_ref04_Right, Try.func29, by decide, rfl, ok_ref04_Right⟩
theorem F_ref04_Drop : FOk i_ref04_Drop f_ref04_Drop := ⟨Try.f30, _, a_ref04_Drop, Try.func30, by decide, rfl, ok_ref04_Drop⟩
theorem F_trial_Drawdown : FOk i_trial_Drawdown f_trial_Drawdown := ⟨Try.f31, _, a_trial_Drawdown, Try.func31, by decide, rfl, ok_trial_Drawdown⟩
theorem F_trial_Plan : FOk i_trial_Plan f_trial_Plan := ⟨Try.f36, _, a_trial_Plan, Try.func36, by decide, rfl, ok_trial_Plan⟩
theorem F_law04_ints : FOk i_law04_ints f_law04_ints := ⟨Try.f37, _, a_law04_ints, Try.func37, by decide, rfl, ok_law04_ints⟩
theorem F_ref04_Conflicts : FOk i_ref04_Conflicts f_ref04_Conflicts := ⟨Try.f40, _, a_ref04_Conflicts, Try.func40, by decide, rfl, ok_ref04_Conflicts⟩
theorem F_trial_ProveNone : FOk i_trial_ProveNone f_trial_ProveNone := ⟨Try.f41, _, a_trial_ProveNone, Try.func41, by decide, rfl, ok_trial_ProveNone⟩
theorem F_ref04_Shows : FOk i_ref04_Shows f_ref04_Shows := ⟨Try.f42, _, a_ref04_Shows, Try.func42, by decide, rfl, ok_ref04_Shows⟩
theorem F_trial_Widest : FOk i_trial_Widest f_trial_Widest := ⟨Try.f43, _, a_trial_Widest, Try.func43, by decide, rfl, ok_trial_Widest⟩
theorem F_ref04_Drawdown : FOk i_ref04_Drawdown f_ref04_Drawdown := ⟨Try.f44, _, a_ref04_Drawdown, Try.func44, by decide, rfl, ok_ref04_Drawdown⟩
theorem F_ref04_Widest : FOk i_ref04_Widest f_ref04_Widest := ⟨Try.f45, _, a_ref04_Widest, Try.func45, by decide, rfl, ok_ref04_Widest⟩
theorem F_trial_Capacity : FOk i_trial_Capacity f_trial_Capacity := ⟨Try.f46, _, a_trial_Capacity, Try.func46, by decide, rfl, ok_trial_Capacity⟩
theorem F_ref04_Capacity : FOk i_ref04_Capacity f_ref04_Capacity := ⟨Try.f47, _, a_ref04_Capacity, Try.func47, by decide, rfl, ok_ref04_Capacity⟩
theorem F_trial_Blame : FOk i_trial_Blame f_trial_Blame := ⟨Try.f54, _, a_trial_Blame, Try.func54, by decide, rfl, ok_trial_Blame⟩
theorem F_trial_Conflicts : FOk i_trial_Conflicts f_trial_Conflicts := ⟨Try.f55, _, a_trial_Conflicts, Try.func55, by decide, rfl, ok_trial_Conflicts⟩
theorem F_ref04_Blame : FOk i_ref04_Blame f_ref04_Blame := ⟨Try.f56, _, a_ref04_Blame, Try.func56, by decide, rfl, ok_ref04_Blame⟩
theorem F_trial_Groups : FOk i_trial_Groups f_trial_Groups := ⟨Try.f57, _, a_trial_Groups, Try.func57, by decide, rfl, ok_trial_Groups⟩
theorem F_trial_CheckSurvey : FOk i_trial_CheckSurvey f_trial_CheckSurvey := ⟨Try.f61, _, a_trial_CheckSurvey, Try.func61, by decide, rfl, ok_trial_CheckSurvey⟩
theorem F_law04_well : FOk i_law04_well f_law04_well := ⟨Try.f64, _, a_law04_well, Try.func64, by decide, rfl, ok_law04_well⟩
theorem F_law04_wells : FOk i_law04_wells f_law04_wells := ⟨Try.f65, _, a_law04_wells, Try.func65, by decide, rfl, ok_law04_wells⟩
theorem F_trial_Range_right : FOk i_trial_Range_right f_trial_Range_right := ⟨Try.f66, _, a_trial_Range_right, Try.func66, by decide, rfl, ok_trial_Range_right⟩
theorem F_trial_within : FOk i_trial_within f_trial_within := ⟨Try.f67, _, a_trial_within, Try.func67, by decide, rfl, ok_trial_within⟩
theorem F_trial_Range_drops : FOk i_trial_Range_drops f_trial_Range_drops := ⟨Try.f68, _, a_trial_Range_drops, Try.func68, by decide, rfl, ok_trial_Range_drops⟩
theorem F_trial_Range_has : FOk i_trial_Range_has f_trial_Range_has := ⟨Try.f69, _, a_trial_Range_has, Try.func69, by decide, rfl, ok_trial_Range_has⟩
theorem F_trial_Curve_drop : FOk i_trial_Curve_drop f_trial_Curve_drop := ⟨Try.f70, _, a_trial_Curve_drop, Try.func70, by decide, rfl, ok_trial_Curve_drop⟩
theorem F_trial_Test_sets : FOk i_trial_Test_sets f_trial_Test_sets := ⟨Try.f71, _, a_trial_Test_sets, Try.func71, by decide, rfl, ok_trial_Test_sets⟩
theorem F_trial_span : FOk i_trial_span f_trial_span := ⟨Try.f72, _, a_trial_span, Try.func72, by decide, rfl, ok_trial_span⟩
theorem F_ref04_Set : FOk i_ref04_Set f_ref04_Set := ⟨Try.f73, _, a_ref04_Set, Try.func73, by decide, rfl, ok_ref04_Set⟩
theorem F_ref04_Span : FOk i_ref04_Span f_ref04_Span := ⟨Try.f74, _, a_ref04_Span, Try.func74, by decide, rfl, ok_ref04_Span⟩
theorem F_trial_Test_drawdown : FOk i_trial_Test_drawdown f_trial_Test_drawdown := ⟨Try.f75, _, a_trial_Test_drawdown, Try.func75, by decide, rfl, ok_trial_Test_drawdown⟩
theorem F_trial_checked : FOk i_trial_checked f_trial_checked := ⟨Try.f77, _, a_trial_checked, Try.func77, by decide, rfl, ok_trial_checked⟩
theorem F_trial_parted_relation : FOk i_trial_parted_relation f_trial_parted_relation := ⟨Try.f78, _, a_trial_parted_relation, Try.func78, by decide, rfl, ok_trial_parted_relation⟩
theorem F_trial_Plan_1 : FOk i_trial_Plan_1 f_trial_Plan_1 := ⟨Try.f79, _, a_trial_Plan_1, Try.func79, by decide, rfl, ok_trial_Plan_1⟩
theorem F_slices_ContainsFunc_int : FOk i_slices_ContainsFunc_int f_slices_ContainsFunc_int := ⟨Try.f80, _, a_slices_ContainsFunc_int, Try.func80, by decide, rfl, ok_slices_ContainsFunc_int⟩
theorem F_trial_Plan_1_1 : FOk i_trial_Plan_1_1 f_trial_Plan_1_1 := ⟨Try.f81, _, a_trial_Plan_1_1, Try.func81, by decide, rfl, ok_trial_Plan_1_1⟩
theorem F_trial_Plan_2 : FOk i_trial_Plan_2 f_trial_Plan_2 := ⟨Try.f82, _, a_trial_Plan_2, Try.func82, by decide, rfl, ok_trial_Plan_2⟩
theorem F_trial_Plan_3 : FOk i_trial_Plan_3 f_trial_Plan_3 := ⟨Try.f83, _, a_trial_Plan_3, Try.func83, by decide, rfl, ok_trial_Plan_3⟩
theorem F_ref04_First : FOk i_ref04_First f_ref04_First := ⟨Try.f87, _, a_ref04_First, Try.func87, by decide, rfl, ok_ref04_First⟩
theorem F_trial_Test_rooms : FOk i_trial_Test_rooms f_trial_Test_rooms := ⟨Try.f88, _, a_trial_Test_rooms, Try.func88, by decide, rfl, ok_trial_Test_rooms⟩
theorem F_ref04_Conflict : FOk i_ref04_Conflict f_ref04_Conflict := ⟨Try.f89, _, a_ref04_Conflict, Try.func89, by decide, rfl, ok_ref04_Conflict⟩
theorem F_trial_Test_none : FOk i_trial_Test_none f_trial_Test_none := ⟨Try.f90, _, a_trial_Test_none, Try.func90, by decide, rfl, ok_trial_Test_none⟩
theorem F_trial_Capacity_1 : FOk i_trial_Capacity_1 f_trial_Capacity_1 := ⟨Try.f91, _, a_trial_Capacity_1, Try.func91, by decide, rfl, ok_trial_Capacity_1⟩
theorem F_trial_Capacity_2 : FOk i_trial_Capacity_2 f_trial_Capacity_2 := ⟨Try.f92, _, a_trial_Capacity_2, Try.func92, by decide, rfl, ok_trial_Capacity_2⟩
theorem F_trial_Capacity_3 : FOk i_trial_Capacity_3 f_trial_Capacity_3 := ⟨Try.f93, _, a_trial_Capacity_3, Try.func93, by decide, rfl, ok_trial_Capacity_3⟩
theorem F_trial_Range_less : FOk i_trial_Range_less f_trial_Range_less := ⟨Try.f97, _, a_trial_Range_less, Try.func97, by decide, rfl, ok_trial_Range_less⟩
theorem F_trial_apart : FOk i_trial_apart f_trial_apart := ⟨Try.f98, _, a_trial_apart, Try.func98, by decide, rfl, ok_trial_apart⟩
theorem F_trial_Survey_groups : FOk i_trial_Survey_groups f_trial_Survey_groups := ⟨Try.f99, _, a_trial_Survey_groups, Try.func99, by decide, rfl, ok_trial_Survey_groups⟩
theorem F_slices_Clone_int : FOk i_slices_Clone_int f_slices_Clone_int := ⟨Try.f100, _, a_slices_Clone_int, Try.func100, by decide, rfl, ok_slices_Clone_int⟩
theorem F_trial_parted_clash : FOk i_trial_parted_clash f_trial_parted_clash := ⟨Try.f101, _, a_trial_parted_clash, Try.func101, by decide, rfl, ok_trial_parted_clash⟩
theorem F_trial_Test_sets_1 : FOk i_trial_Test_sets_1 f_trial_Test_sets_1 := ⟨Try.f105, _, a_trial_Test_sets_1, Try.func105, by decide, rfl, ok_trial_Test_sets_1⟩
theorem F_trial_meet : FOk i_trial_meet f_trial_meet := ⟨Try.f106, _, a_trial_meet, Try.func106, by decide, rfl, ok_trial_meet⟩
theorem F_ref04_Room : FOk i_ref04_Room f_ref04_Room := ⟨Try.f107, _, a_ref04_Room, Try.func107, by decide, rfl, ok_ref04_Room⟩
theorem F_trial_Survey_apart : FOk i_trial_Survey_apart f_trial_Survey_apart := ⟨Try.f108, _, a_trial_Survey_apart, Try.func108, by decide, rfl, ok_trial_Survey_apart⟩
theorem F_slices_IndexFunc_int : FOk i_slices_IndexFunc_int f_slices_IndexFunc_int := ⟨Try.f109, _, a_slices_IndexFunc_int, Try.func109, by decide, rfl, ok_slices_IndexFunc_int⟩
theorem F_trial_Test_rooms_1 : FOk i_trial_Test_rooms_1 f_trial_Test_rooms_1 := ⟨Try.f110, _, a_trial_Test_rooms_1, Try.func110, by decide, rfl, ok_trial_Test_rooms_1⟩
theorem F_trial_Test_rooms_1_1 : FOk i_trial_Test_rooms_1_1 f_trial_Test_rooms_1_1 := ⟨Try.f111, _, a_trial_Test_rooms_1_1, Try.func111, by decide, rfl, ok_trial_Test_rooms_1_1⟩
theorem F_trial_Survey_joined : FOk i_trial_Survey_joined f_trial_Survey_joined := ⟨Try.f112, _, a_trial_Survey_joined, Try.func112, by decide, rfl, ok_trial_Survey_joined⟩
theorem F_slices_IndexFunc_trial_Seen : FOk i_slices_IndexFunc_trial_Seen f_slices_IndexFunc_trial_Seen := ⟨Try.f113, _, a_slices_IndexFunc_trial_Seen, Try.func113, by decide, rfl, ok_slices_IndexFunc_trial_Seen⟩
theorem F_trial_parted_clash_1 : FOk i_trial_parted_clash_1 f_trial_parted_clash_1 := ⟨Try.f114, _, a_trial_parted_clash_1, Try.func114, by decide, rfl, ok_trial_parted_clash_1⟩
theorem FAll : ∀ p ∈ tbl, FOk p.1 p.2 := by
  simp only [tbl, List.forall_mem_cons]
  exact ⟨F_law04_TrialCurves, F_law04_TrialKept, F_law04_TrialProves, F_law04_TrialDrops, F_law04_TrialGives, F_law04_TrialCapacities, F_law04_TrialFails, F_law04_TrialEither, F_law04_wakes, F_trial_CheckTest, F_law04_Test, F_ref04_TestFault, F_trial_Agrees, F_ref04_Agrees, F_trial_Curves, F_law04_asked, F_ref04_Curves, F_law04_Range, F_ref04_In, F_ref04_Right, F_ref04_Drop, F_trial_Drawdown, F_trial_Plan, F_law04_ints, F_ref04_Conflicts, F_trial_ProveNone, F_ref04_Shows, F_trial_Widest, F_ref04_Drawdown, F_ref04_Widest, F_trial_Capacity, F_ref04_Capacity, F_trial_Blame, F_trial_Conflicts, F_ref04_Blame, F_trial_Groups, F_trial_CheckSurvey, F_law04_well, F_law04_wells, F_trial_Range_right, F_trial_within, F_trial_Range_drops, F_trial_Range_has, F_trial_Curve_drop, F_trial_Test_sets, F_trial_span, F_ref04_Set, F_ref04_Span, F_trial_Test_drawdown, F_trial_checked, F_trial_parted_relation, F_trial_Plan_1, F_slices_ContainsFunc_int, F_trial_Plan_1_1, F_trial_Plan_2, F_trial_Plan_3, F_ref04_First, F_trial_Test_rooms, F_ref04_Conflict, F_trial_Test_none, F_trial_Capacity_1, F_trial_Capacity_2, F_trial_Capacity_3, F_trial_Range_less, F_trial_apart, F_trial_Survey_groups, F_slices_Clone_int, F_trial_parted_clash, F_trial_Test_sets_1, F_trial_meet, F_ref04_Room, F_trial_Survey_apart, F_slices_IndexFunc_int, F_trial_Test_rooms_1, F_trial_Test_rooms_1_1, F_trial_Survey_joined, F_slices_IndexFunc_trial_Seen, F_trial_parted_clash_1, by simp⟩
theorem TT : TOk Try.prog T := by
  intro f fn h
  have h' : ∃ p, tbl.find? (fun p => p.1 == f) = some p ∧ p.2 = fn := by simpa [T] using h
  obtain ⟨p, h1, h2⟩ := h'
  have h3 := List.mem_of_find?_eq_some h1
  have h4 := List.find?_some h1
  have h6 := FAll p h3
  simp only [beq_iff_eq] at h4
  subst h2
  rw [← h4]
  exact h6
end Go.Proofs.Ytcjjdaifpboaaaa
