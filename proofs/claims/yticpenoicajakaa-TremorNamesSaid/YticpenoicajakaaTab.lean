/- The table of functions: all that it says is the program's. -/
import Derived.Test.YticpenoicajakaaF0
import Derived.Test.YticpenoicajakaaF1
import Derived.Test.YticpenoicajakaaF2
import Derived.Test.YticpenoicajakaaBase2
set_option linter.unusedVariables false
set_option maxRecDepth 100000
namespace Go.Proofs.Yticpenoicajakaa
open Go Go.Abs
def tbl : List (Nat × Abs.Fn) := [(i_law09_TremorNames, f_law09_TremorNames), (i_law09_awake, f_law09_awake), (i_tremor_Locate, f_tremor_Locate), (i_law09_located, f_law09_located), (i_tremor_Magnitude, f_tremor_Magnitude), (i_law09_Point, f_law09_Point), (i_tremor_Inject, f_tremor_Inject), (i_law09_ints, f_law09_ints), (i_tremor_Travel, f_tremor_Travel), (i_tremor_CheckNet, f_tremor_CheckNet), (i_law09_Range, f_law09_Range), (i_tremor_Capital, f_tremor_Capital), (i_tremor_Won, f_tremor_Won), (i_tremor_Reasons, f_tremor_Reasons), (i_tremor_ProveNone, f_tremor_ProveNone), (i_tremor_Blame, f_tremor_Blame), (i_law09_Heard, f_law09_Heard), (i_law09_Two, f_law09_Two), (i_tremor_Light, f_tremor_Light), (i_tremor_heard_check, f_tremor_heard_check), (i_tremor_heard_located, f_tremor_heard_located), (i_tremor_Net_valid, f_tremor_Net_valid), (i_tremor_Scale_valid, f_tremor_Scale_valid), (i_tremor_Point_valid, f_tremor_Point_valid), (i_tremor_within, f_tremor_within), (i_tremor_all_tremor_Reading, f_tremor_all_tremor_Reading), (i_tremor_Magnitude_1, f_tremor_Magnitude_1), (i_tremor_Net_has, f_tremor_Net_has), (i_tremor_Scale_of, f_tremor_Scale_of), (i_tremor_Point_far, f_tremor_Point_far), (i_tremor_Inject_1, f_tremor_Inject_1), (i_tremor_all_int, f_tremor_all_int), (i_tremor_all_uint8, f_tremor_all_uint8), (i_tremor_Inject_2, f_tremor_Inject_2), (i_tremor_Net_travel, f_tremor_Net_travel), (i_tremor_Bet_valid, f_tremor_Bet_valid), (i_tremor_Bet_going, f_tremor_Bet_going), (i_slices_IndexFunc_int, f_slices_IndexFunc_int), (i_tremor_Won_1, f_tremor_Won_1), (i_tremor_Net_lattice, f_tremor_Net_lattice), (i_tremor_heard_spans, f_tremor_heard_spans), (i_tremor_common, f_tremor_common), (i_slices_IndexFunc_tremor_Range, f_slices_IndexFunc_tremor_Range), (i_tremor_Reasons_1, f_tremor_Reasons_1), (i_tremor_Reasons_2, f_tremor_Reasons_2), (i_tremor_heard_span, f_tremor_heard_span), (i_tremor_all_tremor_Rule, f_tremor_all_tremor_Rule), (i_tremor_Rule_valid, f_tremor_Rule_valid), (i_tremor_all_tremor_Event, f_tremor_all_tremor_Event), (i_tremor_Event_valid, f_tremor_Event_valid), (i_tremor_Rule_counts, f_tremor_Rule_counts), (i_slices_ContainsFunc_tremor_Spot, f_slices_ContainsFunc_tremor_Spot), (i_tremor_all_tremor_Spot, f_tremor_all_tremor_Spot), (i_tremor_all_tremor_Pick, f_tremor_all_tremor_Pick), (i_tremor_heard_check_1, f_tremor_heard_check_1), (i_tremor_Range_in, f_tremor_Range_in), (i_tremor_all_tremor_Station, f_tremor_all_tremor_Station), (i_tremor_Station_valid, f_tremor_Station_valid), (i_tremor_box, f_tremor_box), (i_tremor_all_tremor_Range, f_tremor_all_tremor_Range), (i_tremor_Net_valid_1, f_tremor_Net_valid_1), (i_tremor_Net_steps, f_tremor_Net_steps), (i_tremor_Scale_valid_1, f_tremor_Scale_valid_1), (i_tremor_rising_int, f_tremor_rising_int), (i_tremor_Scale_valid_2, f_tremor_Scale_valid_2), (i_tremor_all_tremor_Row, f_tremor_all_tremor_Row), (i_tremor_Scale_valid_3, f_tremor_Scale_valid_3), (i_tremor_rising_tremor_Row, f_tremor_rising_tremor_Row), (i_tremor_Scale_valid_4, f_tremor_Scale_valid_4), (i_tremor_Point_valid_1, f_tremor_Point_valid_1), (i_slices_ContainsFunc_tremor_Reading, f_slices_ContainsFunc_tremor_Reading), (i_tremor_all_tremor_Reading_1, f_tremor_all_tremor_Reading_1), (i_slices_ContainsFunc_int, f_slices_ContainsFunc_int), (i_tremor_all_int_1, f_tremor_all_int_1), (i_slices_ContainsFunc_uint8, f_slices_ContainsFunc_uint8), (i_tremor_all_uint8_1, f_tremor_all_uint8_1), (i_tremor_Bet_going_1, f_tremor_Bet_going_1), (i_tremor_Net_lattice_1, f_tremor_Net_lattice_1), (i_slices_ContainsFunc_tremor_Rule, f_slices_ContainsFunc_tremor_Rule), (i_tremor_all_tremor_Rule_1, f_tremor_all_tremor_Rule_1), (i_slices_ContainsFunc_tremor_Event, f_slices_ContainsFunc_tremor_Event), (i_tremor_all_tremor_Event_1, f_tremor_all_tremor_Event_1), (i_tremor_Event_valid_1, f_tremor_Event_valid_1), (i_slices_IndexFunc_tremor_Spot, f_slices_IndexFunc_tremor_Spot), (i_tremor_all_tremor_Spot_1, f_tremor_all_tremor_Spot_1), (i_slices_ContainsFunc_tremor_Pick, f_slices_ContainsFunc_tremor_Pick), (i_tremor_all_tremor_Pick_1, f_tremor_all_tremor_Pick_1), (i_slices_ContainsFunc_tremor_Station, f_slices_ContainsFunc_tremor_Station), (i_tremor_all_tremor_Station_1, f_tremor_all_tremor_Station_1), (i_slices_ContainsFunc_tremor_Range, f_slices_ContainsFunc_tremor_Range), (i_tremor_all_tremor_Range_1, f_tremor_all_tremor_Range_1), (i_slices_ContainsFunc_tremor_Row, f_slices_ContainsFunc_tremor_Row), (i_tremor_all_tremor_Row_1, f_tremor_all_tremor_Row_1), (i_slices_IndexFunc_tremor_Reading, f_slices_IndexFunc_tremor_Reading), (i_slices_IndexFunc_uint8, f_slices_IndexFunc_uint8), (i_slices_IndexFunc_tremor_Rule, f_slices_IndexFunc_tremor_Rule), (i_slices_IndexFunc_tremor_Event, f_slices_IndexFunc_tremor_Event), (i_slices_IndexFunc_tremor_Pick, f_slices_IndexFunc_tremor_Pick), (i_slices_IndexFunc_tremor_Station, f_slices_IndexFunc_tremor_Station), (i_slices_IndexFunc_tremor_Row, f_slices_IndexFunc_tremor_Row)]
def T : Tbl := fun f => (tbl.find? fun p => p.1 == f).map (·.2)
theorem T_law09_TremorNames : T i_law09_TremorNames = some f_law09_TremorNames := rfl
theorem T_law09_awake : T i_law09_awake = some f_law09_awake := rfl
theorem T_tremor_Locate : T i_tremor_Locate = some f_tremor_Locate := rfl
theorem T_law09_located : T i_law09_located = some f_law09_located := rfl
theorem T_tremor_Magnitude : T i_tremor_Magnitude = some f_tremor_Magnitude := rfl
theorem T_law09_Point : T i_law09_Point = some f_law09_Point := rfl
theorem T_tremor_Inject : T i_tremor_Inject = some f_tremor_Inject := rfl
theorem T_law09_ints : T i_law09_ints = some f_law09_ints := rfl
theorem T_tremor_Travel : T i_tremor_Travel = some f_tremor_Travel := rfl
theorem T_tremor_CheckNet : T i_tremor_CheckNet = some f_tremor_CheckNet := rfl
theorem T_law09_Range : T i_law09_Range = some f_law09_Range := rfl
theorem T_tremor_Capital : T i_tremor_Capital = some f_tremor_Capital := rfl
theorem T_tremor_Won : T i_tremor_Won = some f_tremor_Won := rfl
theorem T_tremor_Reasons : T i_tremor_Reasons = some f_tremor_Reasons := rfl
theorem T_tremor_ProveNone : T i_tremor_ProveNone = some f_tremor_ProveNone := rfl
theorem T_tremor_Blame : T i_tremor_Blame = some f_tremor_Blame := rfl
theorem T_law09_Heard : T i_law09_Heard = some f_law09_Heard := rfl
theorem T_law09_Two : T i_law09_Two = some f_law09_Two := rfl
theorem T_tremor_Light : T i_tremor_Light = some f_tremor_Light := rfl
theorem T_tremor_heard_check : T i_tremor_heard_check = some f_tremor_heard_check := rfl
theorem T_tremor_heard_located : T i_tremor_heard_located = some f_tremor_heard_located := rfl
theorem T_tremor_Net_valid : T i_tremor_Net_valid = some f_tremor_Net_valid := rfl
theorem T_tremor_Scale_valid : T i_tremor_Scale_valid = some f_tremor_Scale_valid := rfl
theorem T_tremor_Point_valid : T i_tremor_Point_valid = some f_tremor_Point_valid := rfl
theorem T_tremor_within : T i_tremor_within = some f_tremor_within := rfl
theorem T_tremor_all_tremor_Reading : T i_tremor_all_tremor_Reading = some f_tremor_all_tremor_Reading := rfl
theorem T_tremor_Magnitude_1 : T i_tremor_Magnitude_1 = some f_tremor_Magnitude_1 := rfl
theorem T_tremor_Net_has : T i_tremor_Net_has = some f_tremor_Net_has := rfl
theorem T_tremor_Scale_of : T i_tremor_Scale_of = some f_tremor_Scale_of := rfl
theorem T_tremor_Point_far : T i_tremor_Point_far = some f_tremor_Point_far := rfl
theorem T_tremor_Inject_1 : T i_tremor_Inject_1 = some f_tremor_Inject_1 := rfl
theorem T_tremor_all_int : T i_tremor_all_int = some f_tremor_all_int := rfl
theorem T_tremor_all_uint8 : T i_tremor_all_uint8 = some f_tremor_all_uint8 := rfl
theorem T_tremor_Inject_2 : T i_tremor_Inject_2 = some f_tremor_Inject_2 := rfl
theorem T_tremor_Net_travel : T i_tremor_Net_travel = some f_tremor_Net_travel := rfl
theorem T_tremor_Bet_valid : T i_tremor_Bet_valid = some f_tremor_Bet_valid := rfl
theorem T_tremor_Bet_going : T i_tremor_Bet_going = some f_tremor_Bet_going := rfl
theorem T_slices_IndexFunc_int : T i_slices_IndexFunc_int = some f_slices_IndexFunc_int := rfl
theorem T_tremor_Won_1 : T i_tremor_Won_1 = some f_tremor_Won_1 := rfl
theorem T_tremor_Net_lattice : T i_tremor_Net_lattice = some f_tremor_Net_lattice := rfl
theorem T_tremor_heard_spans : T i_tremor_heard_spans = some f_tremor_heard_spans := rfl
theorem T_tremor_common : T i_tremor_common = some f_tremor_common := rfl
theorem T_slices_IndexFunc_tremor_Range : T i_slices_IndexFunc_tremor_Range = some f_slices_IndexFunc_tremor_Range := rfl
theorem T_tremor_Reasons_1 : T i_tremor_Reasons_1 = some f_tremor_Reasons_1 := rfl
theorem T_tremor_Reasons_2 : T i_tremor_Reasons_2 = some f_tremor_Reasons_2 := rfl
theorem T_tremor_heard_span : T i_tremor_heard_span = some f_tremor_heard_span := rfl
theorem T_tremor_all_tremor_Rule : T i_tremor_all_tremor_Rule = some f_tremor_all_tremor_Rule := rfl
theorem T_tremor_Rule_valid : T i_tremor_Rule_valid = some f_tremor_Rule_valid := rfl
theorem T_tremor_all_tremor_Event : T i_tremor_all_tremor_Event = some f_tremor_all_tremor_Event := rfl
theorem T_tremor_Event_valid : T i_tremor_Event_valid = some f_tremor_Event_valid := rfl
theorem T_tremor_Rule_counts : T i_tremor_Rule_counts = some f_tremor_Rule_counts := rfl
theorem T_slices_ContainsFunc_tremor_Spot : T i_slices_ContainsFunc_tremor_Spot = some f_slices_ContainsFunc_tremor_Spot := rfl
theorem T_tremor_all_tremor_Spot : T i_tremor_all_tremor_Spot = some f_tremor_all_tremor_Spot := rfl
theorem T_tremor_all_tremor_Pick : T i_tremor_all_tremor_Pick = some f_tremor_all_tremor_Pick := rfl
theorem T_tremor_heard_check_1 : T i_tremor_heard_check_1 = some f_tremor_heard_check_1 := rfl
theorem T_tremor_Range_in : T i_tremor_Range_in = some f_tremor_Range_in := rfl
theorem T_tremor_all_tremor_Station : T i_tremor_all_tremor_Station = some f_tremor_all_tremor_Station := rfl
theorem T_tremor_Station_valid : T i_tremor_Station_valid = some f_tremor_Station_valid := rfl
theorem T_tremor_box : T i_tremor_box = some f_tremor_box := rfl
theorem T_tremor_all_tremor_Range : T i_tremor_all_tremor_Range = some f_tremor_all_tremor_Range := rfl
theorem T_tremor_Net_valid_1 : T i_tremor_Net_valid_1 = some f_tremor_Net_valid_1 := rfl
theorem T_tremor_Net_steps : T i_tremor_Net_steps = some f_tremor_Net_steps := rfl
theorem T_tremor_Scale_valid_1 : T i_tremor_Scale_valid_1 = some f_tremor_Scale_valid_1 := rfl
theorem T_tremor_rising_int : T i_tremor_rising_int = some f_tremor_rising_int := rfl
theorem T_tremor_Scale_valid_2 : T i_tremor_Scale_valid_2 = some f_tremor_Scale_valid_2 := rfl
theorem T_tremor_all_tremor_Row : T i_tremor_all_tremor_Row = some f_tremor_all_tremor_Row := rfl
theorem T_tremor_Scale_valid_3 : T i_tremor_Scale_valid_3 = some f_tremor_Scale_valid_3 := rfl
theorem T_tremor_rising_tremor_Row : T i_tremor_rising_tremor_Row = some f_tremor_rising_tremor_Row := rfl
theorem T_tremor_Scale_valid_4 : T i_tremor_Scale_valid_4 = some f_tremor_Scale_valid_4 := rfl
theorem T_tremor_Point_valid_1 : T i_tremor_Point_valid_1 = some f_tremor_Point_valid_1 := rfl
theorem T_slices_ContainsFunc_tremor_Reading : T i_slices_ContainsFunc_tremor_Reading = some f_slices_ContainsFunc_tremor_Reading := rfl
theorem T_tremor_all_tremor_Reading_1 : T i_tremor_all_tremor_Reading_1 = some f_tremor_all_tremor_Reading_1 := rfl
theorem T_slices_ContainsFunc_int : T i_slices_ContainsFunc_int = some f_slices_ContainsFunc_int := rfl
theorem T_tremor_all_int_1 : T i_tremor_all_int_1 = some f_tremor_all_int_1 := rfl
theorem T_slices_ContainsFunc_uint8 : T i_slices_ContainsFunc_uint8 = some f_slices_ContainsFunc_uint8 := rfl
theorem T_tremor_all_uint8_1 : T i_tremor_all_uint8_1 = some f_tremor_all_uint8_1 := rfl
theorem T_tremor_Bet_going_1 : T i_tremor_Bet_going_1 = some f_tremor_Bet_going_1 := rfl
theorem T_tremor_Net_lattice_1 : T i_tremor_Net_lattice_1 = some f_tremor_Net_lattice_1 := rfl
theorem T_slices_ContainsFunc_tremor_Rule : T i_slices_ContainsFunc_tremor_Rule = some f_slices_ContainsFunc_tremor_Rule := rfl
theorem T_tremor_all_tremor_Rule_1 : T i_tremor_all_tremor_Rule_1 = some f_tremor_all_tremor_Rule_1 := rfl
theorem T_slices_ContainsFunc_tremor_Event : T i_slices_ContainsFunc_tremor_Event = some f_slices_ContainsFunc_tremor_Event := rfl
theorem T_tremor_all_tremor_Event_1 : T i_tremor_all_tremor_Event_1 = some f_tremor_all_tremor_Event_1 := rfl
theorem T_tremor_Event_valid_1 : T i_tremor_Event_valid_1 = some f_tremor_Event_valid_1 := rfl
theorem T_slices_IndexFunc_tremor_Spot : T i_slices_IndexFunc_tremor_Spot = some f_slices_IndexFunc_tremor_Spot := rfl
theorem T_tremor_all_tremor_Spot_1 : T i_tremor_all_tremor_Spot_1 = some f_tremor_all_tremor_Spot_1 := rfl
theorem T_slices_ContainsFunc_tremor_Pick : T i_slices_ContainsFunc_tremor_Pick = some f_slices_ContainsFunc_tremor_Pick := rfl
theorem T_tremor_all_tremor_Pick_1 : T i_tremor_all_tremor_Pick_1 = some f_tremor_all_tremor_Pick_1 := rfl
theorem T_slices_ContainsFunc_tremor_Station : T i_slices_ContainsFunc_tremor_Station = some f_slices_ContainsFunc_tremor_Station := rfl
theorem T_tremor_all_tremor_Station_1 : T i_tremor_all_tremor_Station_1 = some f_tremor_all_tremor_Station_1 := rfl
theorem T_slices_ContainsFunc_tremor_Range : T i_slices_ContainsFunc_tremor_Range = some f_slices_ContainsFunc_tremor_Range := rfl
theorem T_tremor_all_tremor_Range_1 : T i_tremor_all_tremor_Range_1 = some f_tremor_all_tremor_Range_1 := rfl
theorem T_slices_ContainsFunc_tremor_Row : T i_slices_ContainsFunc_tremor_Row = some f_slices_ContainsFunc_tremor_Row := rfl
theorem T_tremor_all_tremor_Row_1 : T i_tremor_all_tremor_Row_1 = some f_tremor_all_tremor_Row_1 := rfl
theorem T_slices_IndexFunc_tremor_Reading : T i_slices_IndexFunc_tremor_Reading = some f_slices_IndexFunc_tremor_Reading := rfl
theorem T_slices_IndexFunc_uint8 : T i_slices_IndexFunc_uint8 = some f_slices_IndexFunc_uint8 := rfl
theorem T_slices_IndexFunc_tremor_Rule : T i_slices_IndexFunc_tremor_Rule = some f_slices_IndexFunc_tremor_Rule := rfl
theorem T_slices_IndexFunc_tremor_Event : T i_slices_IndexFunc_tremor_Event = some f_slices_IndexFunc_tremor_Event := rfl
theorem T_slices_IndexFunc_tremor_Pick : T i_slices_IndexFunc_tremor_Pick = some f_slices_IndexFunc_tremor_Pick := rfl
theorem T_slices_IndexFunc_tremor_Station : T i_slices_IndexFunc_tremor_Station = some f_slices_IndexFunc_tremor_Station := rfl
theorem T_slices_IndexFunc_tremor_Row : T i_slices_IndexFunc_tremor_Row = some f_slices_IndexFunc_tremor_Row := rfl
theorem mixed : Try.prog.follows .mixedOrders = true := by kernel_rfl
def FOk (f : Nat) (fn : Abs.Fn) : Prop := ∃ F c ann, Try.prog.funcs[f]? = some F ∧ F.name ≠ "runtime.NumGoroutine" ∧ F.body = some c ∧ fnC Try.prog ann F = some fn
theorem F_law09_TremorNames : FOk i_law09_TremorNames f_law09_TremorNames := ⟨Try.f14, _, a_law09_TremorNames, Try.func14, by decide, rfl, ok_law09_TremorNames⟩
theorem F_law09_awake : FOk i_law09_awake f_law09_awake := ⟨Try.f16, _, a_law09_awake, Try.func16, by decide, rfl, ok_law09_awake⟩
theorem F_tremor_Locate : FOk i_tremor_Locate f_tremor_Locate := ⟨Try.f17, _, a_tremor_Locate, Try.func17, by decide, rfl, ok_tremor_Locate⟩
theorem F_law09_located : FOk i_law09_located f_law09_located := ⟨Try.f22, _, a_law09_located, Try.func22, by decide, rfl, ok_law09_located⟩
theorem F_tremor_Magnitude : FOk i_tremor_Magnitude f_tremor_Magnitude := ⟨Try.f23, _, a_tremor_Magnitude, Try.func23, by decide, rfl, ok_tremor_Magnitude⟩
theorem F_law09_Point : FOk i_law09_Point f_law09_Point := ⟨Try.f25, _, a_law09_Point, Try.func25, by decide, rfl, ok_law09_Point⟩
theorem F_tremor_Inject : FOk i_tremor_Inject f_tremor_Inject := ⟨Try.f32, _, a_tremor_Inject, Try.func32, by decide, rfl, ok_tremor_Inject⟩
theorem F_law09_ints : FOk i_law09_ints f_law09_ints := ⟨Try.f34, _, a_law09_ints, Try.func34, by decide, rfl, ok_law09_ints⟩
theorem F_tremor_Travel : FOk i_tremor_Travel f_tremor_Travel := ⟨Try.f40, _, a_tremor_Travel, Try.func40, by decide, rfl, ok_tremor_Travel⟩
theorem F_tremor_CheckNet : FOk i_tremor_CheckNet f_tremor_CheckNet := ⟨Try.f41, _, a_tremor_CheckNet, Try.func41, by decide, rfl, ok_tremor_CheckNet⟩
theorem F_law09_Range : FOk i_law09_Range f_law09_Range := ⟨Try.f42, _, a_law09_Range, Try.func42, by decide, rfl, ok_law09_Range⟩
theorem F_tremor_Capital : FOk i_tremor_Capital f_tremor_Capital := ⟨Try.f44, _, a_tremor_Capital, Try.func44, by decide, rfl, ok_tremor_Capital⟩
theorem F_tremor_Won : FOk i_tremor_Won f_tremor_Won := ⟨Try.f46, _, a_tremor_Won, Try.func46, by decide, rfl, ok_tremor_Won⟩
theorem F_tremor_Reasons : FOk i_tremor_Reasons f_tremor_Reasons := ⟨Try.f49, _, a_tremor_Reasons, Try.func49, by decide, rfl, ok_tremor_Reasons⟩
theorem F_tremor_ProveNone : FOk i_tremor_ProveNone f_tremor_ProveNone := ⟨Try.f50, _, a_tremor_ProveNone, Try.func50, by decide, rfl, ok_tremor_ProveNone⟩
theorem F_tremor_Blame : FOk i_tremor_Blame f_tremor_Blame := ⟨Try.f52, _, a_tremor_Blame, Try.func52, by decide, rfl, ok_tremor_Blame⟩
theorem F_law09_Heard : FOk i_law09_Heard f_law09_Heard := ⟨Try.f54, _, a_law09_Heard, Try.func54, by decide, rfl, ok_law09_Heard⟩
theorem F_law09_Two : FOk i_law09_Two f_law09_Two := ⟨Try.f55, _, a_law09_Two, Try.func55, by decide, rfl, ok_law09_Two⟩
theorem F_tremor_Light : FOk i_tremor_Light f_tremor_Light := ⟨Try.f56, _, a_tremor_Light, Try.func56, by decide, rfl, ok_tremor_Light⟩
theorem F_tremor_heard_check : FOk i_tremor_heard_check f_tremor_heard_check := ⟨Try.f57, _, a_tremor_heard_check, Try.func57, by decide, rfl, ok_tremor_heard_check⟩
theorem F_tremor_heard_located : FOk i_tremor_heard_located f_tremor_heard_located := ⟨Try.f58, _, a_tremor_heard_located, Try.func58, by decide, rfl, ok_tremor_heard_located⟩
theorem F_tremor_Net_valid : FOk i_tremor_Net_valid f_tremor_Net_valid := ⟨Try.f61, _, a_tremor_Net_valid, Try.func61, by decide, rfl, ok_tremor_Net_valid⟩
theorem F_tremor_Scale_valid : FOk i_tremor_Scale_valid f_tremor_Scale_valid := ⟨Try.f62, _, a_tremor_Scale_valid, Try.func62, by decide, rfl, ok_tremor_Scale_valid⟩
theorem F_tremor_Point_valid : FOk i_tremor_Point_valid f_tremor_Point_valid := ⟨Try.f63, _, a_tremor_Point_valid, Try.func63, by decide, rfl, ok_tremor_Point_valid⟩
theorem F_tremor_within : FOk i_tremor_within f_tremor_within := ⟨Try.f64, _, a_tremor_within, Try.func64, by decide, rfl, ok_tremor_within⟩
theorem F_tremor_all_tremor_Reading : FOk i_tremor_all_tremor_Reading f_tremor_all_tremor_Reading := ⟨Try.f65, _, a_tremor_all_tremor_Reading, Try.func65, by decide, rfl, ok_tremor_all_tremor_Reading⟩
theorem F_tremor_Magnitude_1 : FOk i_tremor_Magnitude_1 f_tremor_Magnitude_1 := ⟨Try.f66, _, a_tremor_Magnitude_1, Try.func66, by decide, rfl, ok_tremor_Magnitude_1⟩
theorem F_tremor_Net_has : FOk i_tremor_Net_has f_tremor_Net_has := ⟨Try.f67, _, a_tremor_Net_has, Try.func67, by decide, rfl, ok_tremor_Net_has⟩
theorem F_tremor_Scale_of : FOk i_tremor_Scale_of f_tremor_Scale_of := ⟨Try.f68, _, a_tremor_Scale_of, Try.func68, by decide, rfl, ok_tremor_Scale_of⟩
theorem F_tremor_Point_far : FOk i_tremor_Point_far f_tremor_Point_far := ⟨Try.f69, _, a_tremor_Point_far, Try.func69, by decide, rfl, ok_tremor_Point_far⟩
theorem F_tremor_Inject_1 : FOk i_tremor_Inject_1 f_tremor_Inject_1 := ⟨Try.f72, _, a_tremor_Inject_1, Try.func72, by decide, rfl, ok_tremor_Inject_1⟩
theorem F_tremor_all_int : FOk i_tremor_all_int f_tremor_all_int := ⟨Try.f73, _, a_tremor_all_int, Try.func73, by decide, rfl, ok_tremor_all_int⟩
theorem F_tremor_all_uint8 : FOk i_tremor_all_uint8 f_tremor_all_uint8 := ⟨Try.f74, _, a_tremor_all_uint8, Try.func74, by decide, rfl, ok_tremor_all_uint8⟩
theorem F_tremor_Inject_2 : FOk i_tremor_Inject_2 f_tremor_Inject_2 := ⟨Try.f75, _, a_tremor_Inject_2, Try.func75, by decide, rfl, ok_tremor_Inject_2⟩
theorem F_tremor_Net_travel : FOk i_tremor_Net_travel f_tremor_Net_travel := ⟨Try.f76, _, a_tremor_Net_travel, Try.func76, by decide, rfl, ok_tremor_Net_travel⟩
theorem F_tremor_Bet_valid : FOk i_tremor_Bet_valid f_tremor_Bet_valid := ⟨Try.f77, _, a_tremor_Bet_valid, Try.func77, by decide, rfl, ok_tremor_Bet_valid⟩
theorem F_tremor_Bet_going : FOk i_tremor_Bet_going f_tremor_Bet_going := ⟨Try.f78, _, a_tremor_Bet_going, Try.func78, by decide, rfl, ok_tremor_Bet_going⟩
theorem F_slices_IndexFunc_int : FOk i_slices_IndexFunc_int f_slices_IndexFunc_int := ⟨Try.f79, _, a_slices_IndexFunc_int, Try.func79, by decide, rfl, ok_slices_IndexFunc_int⟩
theorem F_tremor_Won_1 : FOk i_tremor_Won_1 f_tremor_Won_1 := ⟨Try.f80, _, a_tremor_Won_1, Try.func80, by decide, rfl, ok_tremor_Won_1⟩
theorem F_tremor_Net_lattice : FOk i_tremor_Net_lattice f_tremor_Net_lattice := ⟨Try.f82, _, a_tremor_Net_lattice, Try.func82, by decide, rfl, ok_tremor_Net_lattice⟩
theorem F_tremor_heard_spans : FOk i_tremor_heard_spans f_tremor_heard_spans := ⟨Try.f83, _, a_tremor_heard_spans, Try.func83, by decide, rfl, ok_tremor_heard_spans⟩
theorem F_tremor_common : FOk i_tremor_common f_tremor_common := ⟨Try.f84, _, a_tremor_common, Try.func84, by decide, rfl, ok_tremor_common⟩
theorem F_slices_IndexFunc_tremor_Range : FOk i_slices_IndexFunc_tremor_Range f_slices_IndexFunc_tremor_Range := ⟨Try.f85, _, a_slices_IndexFunc_tremor_Range, Try.func85, by decide, rfl, ok_slices_IndexFunc_tremor_Range⟩
theorem F_tremor_Reasons_1 : FOk i_tremor_Reasons_1 f_tremor_Reasons_1 := ⟨Try.f86, _, a_tremor_Reasons_1, Try.func86, by decide, rfl, ok_tremor_Reasons_1⟩
theorem F_tremor_Reasons_2 : FOk i_tremor_Reasons_2 f_tremor_Reasons_2 := ⟨Try.f87, _, a_tremor_Reasons_2, Try.func87, by decide, rfl, ok_tremor_Reasons_2⟩
theorem F_tremor_heard_span : FOk i_tremor_heard_span f_tremor_heard_span := ⟨Try.f88, _, a_tremor_heard_span, Try.func88, by decide, rfl, ok_tremor_heard_span⟩
theorem F_tremor_all_tremor_Rule : FOk i_tremor_all_tremor_Rule f_tremor_all_tremor_Rule := ⟨Try.f90, _, a_tremor_all_tremor_Rule, Try.func90, by decide, rfl, ok_tremor_all_tremor_Rule⟩
theorem F_tremor_Rule_valid : FOk i_tremor_Rule_valid f_tremor_Rule_valid := ⟨Try.f91, _, a_tremor_Rule_valid, Try.func91, by decide, rfl, ok_tremor_Rule_valid⟩
theorem F_tremor_all_tremor_Event : FOk i_tremor_all_tremor_Event f_tremor_all_tremor_Event := ⟨Try.f92, _, a_tremor_all_tremor_Event, Try.func92, by decide, rfl, ok_tremor_all_tremor_Event⟩
theorem F_tremor_Event_valid : FOk i_tremor_Event_valid f_tremor_Event_valid := ⟨Try.f93, _, a_tremor_Event_valid, Try.func93, by decide, rfl, ok_tremor_Event_valid⟩
theorem F_tremor_Rule_counts : FOk i_tremor_Rule_counts f_tremor_Rule_counts := ⟨Try.f94, _, a_tremor_Rule_counts, Try.func94, by decide, rfl, ok_tremor_Rule_counts⟩
theorem F_slices_ContainsFunc_tremor_Spot : FOk i_slices_ContainsFunc_tremor_Spot f_slices_ContainsFunc_tremor_Spot := ⟨Try.f95, _, a_slices_ContainsFunc_tremor_Spot, Try.func95, by decide, rfl, ok_slices_ContainsFunc_tremor_Spot⟩
theorem F_tremor_all_tremor_Spot : FOk i_tremor_all_tremor_Spot f_tremor_all_tremor_Spot := ⟨Try.f96, _, a_tremor_all_tremor_Spot, Try.func96, by decide, rfl, ok_tremor_all_tremor_Spot⟩
theorem F_tremor_all_tremor_Pick : FOk i_tremor_all_tremor_Pick f_tremor_all_tremor_Pick := ⟨Try.f97, _, a_tremor_all_tremor_Pick, Try.func97, by decide, rfl, ok_tremor_all_tremor_Pick⟩
theorem F_tremor_heard_check_1 : FOk i_tremor_heard_check_1 f_tremor_heard_check_1 := ⟨Try.f98, _, a_tremor_heard_check_1, Try.func98, by decide, rfl, ok_tremor_heard_check_1⟩
theorem F_tremor_Range_in : FOk i_tremor_Range_in f_tremor_Range_in := ⟨Try.f99, _, a_tremor_Range_in, Try.func99, by decide, rfl, ok_tremor_Range_in⟩
theorem F_tremor_all_tremor_Station : FOk i_tremor_all_tremor_Station f_tremor_all_tremor_Station := ⟨Try.f100, _, a_tremor_all_tremor_Station, Try.func100, by decide, rfl, ok_tremor_all_tremor_Station⟩
theorem F_tremor_Station_valid : FOk i_tremor_Station_valid f_tremor_Station_valid := ⟨Try.f101, _, a_tremor_Station_valid, Try.func101, by decide, rfl, ok_tremor_Station_valid⟩
theorem F_tremor_box : FOk i_tremor_box f_tremor_box := ⟨Try.f102, _, a_tremor_box, Try.func102, by decide, rfl, ok_tremor_box⟩
theorem F_tremor_all_tremor_Range : FOk i_tremor_all_tremor_Range f_tremor_all_tremor_Range := ⟨Try.f103, _, a_tremor_all_tremor_Range, Try.func103, by decide, rfl, ok_tremor_all_tremor_Range⟩
theorem F_tremor_Net_valid_1 : FOk i_tremor_Net_valid_1 f_tremor_Net_valid_1 := ⟨Try.f104, _, a_tremor_Net_valid_1, Try.func104, by decide, rfl, ok_tremor_Net_valid_1⟩
theorem F_tremor_Net_steps : FOk i_tremor_Net_steps f_tremor_Net_steps := ⟨Try.f105, _, a_tremor_Net_steps, Try.func105, by decide, rfl, ok_tremor_Net_steps⟩
theorem F_tremor_Scale_valid_1 : FOk i_tremor_Scale_valid_1 f_tremor_Scale_valid_1 := ⟨Try.f106, _, a_tremor_Scale_valid_1, Try.func106, by decide, rfl, ok_tremor_Scale_valid_1⟩
theorem F_tremor_rising_int : FOk i_tremor_rising_int f_tremor_rising_int := ⟨Try.f107, _, a_tremor_rising_int, Try.func107, by decide, rfl, ok_tremor_rising_int⟩
theorem F_tremor_Scale_valid_2 : FOk i_tremor_Scale_valid_2 f_tremor_Scale_valid_2 := ⟨Try.f108, _, a_tremor_Scale_valid_2, Try.func108, by decide, rfl, ok_tremor_Scale_valid_2⟩
theorem F_tremor_all_tremor_Row : FOk i_tremor_all_tremor_Row f_tremor_all_tremor_Row := ⟨Try.f109, _, a_tremor_all_tremor_Row, Try.func109, by decide, rfl, ok_tremor_all_tremor_Row⟩
theorem F_tremor_Scale_valid_3 : FOk i_tremor_Scale_valid_3 f_tremor_Scale_valid_3 := ⟨Try.f110, _, a_tremor_Scale_valid_3, Try.func110, by decide, rfl, ok_tremor_Scale_valid_3⟩
theorem F_tremor_rising_tremor_Row : FOk i_tremor_rising_tremor_Row f_tremor_rising_tremor_Row := ⟨Try.f111, _, a_tremor_rising_tremor_Row, Try.func111, by decide, rfl, ok_tremor_rising_tremor_Row⟩
theorem F_tremor_Scale_valid_4 : FOk i_tremor_Scale_valid_4 f_tremor_Scale_valid_4 := ⟨Try.f112, _, a_tremor_Scale_valid_4, Try.func112, by decide, rfl, ok_tremor_Scale_valid_4⟩
theorem F_tremor_Point_valid_1 : FOk i_tremor_Point_valid_1 f_tremor_Point_valid_1 := ⟨Try.f113, _, a_tremor_Point_valid_1, Try.func113, by decide, rfl, ok_tremor_Point_valid_1⟩
theorem F_slices_ContainsFunc_tremor_Reading : FOk i_slices_ContainsFunc_tremor_Reading f_slices_ContainsFunc_tremor_Reading := ⟨Try.f114, _, a_slices_ContainsFunc_tremor_Reading, Try.func114, by decide, rfl, ok_slices_ContainsFunc_tremor_Reading⟩
theorem F_tremor_all_tremor_Reading_1 : FOk i_tremor_all_tremor_Reading_1 f_tremor_all_tremor_Reading_1 := ⟨Try.f115, _, a_tremor_all_tremor_Reading_1, Try.func115, by decide, rfl, ok_tremor_all_tremor_Reading_1⟩
theorem F_slices_ContainsFunc_int : FOk i_slices_ContainsFunc_int f_slices_ContainsFunc_int := ⟨Try.f116, _, a_slices_ContainsFunc_int, Try.func116, by decide, rfl, ok_slices_ContainsFunc_int⟩
theorem F_tremor_all_int_1 : FOk i_tremor_all_int_1 f_tremor_all_int_1 := ⟨Try.f117, _, a_tremor_all_int_1, Try.func117, by decide, rfl, ok_tremor_all_int_1⟩
theorem F_slices_ContainsFunc_uint8 : FOk i_slices_ContainsFunc_uint8 f_slices_ContainsFunc_uint8 := ⟨Try.f118, _, a_slices_ContainsFunc_uint8, Try.func118, by decide, rfl, ok_slices_ContainsFunc_uint8⟩
theorem F_tremor_all_uint8_1 : FOk i_tremor_all_uint8_1 f_tremor_all_uint8_1 := ⟨Try.f119, _, a_tremor_all_uint8_1, Try.func119, by decide, rfl, ok_tremor_all_uint8_1⟩
theorem F_tremor_Bet_going_1 : FOk i_tremor_Bet_going_1 f_tremor_Bet_going_1 := ⟨Try.f120, _, a_tremor_Bet_going_1, Try.func120, by decide, rfl, ok_tremor_Bet_going_1⟩
theorem F_tremor_Net_lattice_1 : FOk i_tremor_Net_lattice_1 f_tremor_Net_lattice_1 := ⟨Try.f121, _, a_tremor_Net_lattice_1, Try.func121, by decide, rfl, ok_tremor_Net_lattice_1⟩
theorem F_slices_ContainsFunc_tremor_Rule : FOk i_slices_ContainsFunc_tremor_Rule f_slices_ContainsFunc_tremor_Rule := ⟨Try.f122, _, a_slices_ContainsFunc_tremor_Rule, Try.func122, by decide, rfl, ok_slices_ContainsFunc_tremor_Rule⟩
theorem F_tremor_all_tremor_Rule_1 : FOk i_tremor_all_tremor_Rule_1 f_tremor_all_tremor_Rule_1 := ⟨Try.f123, _, a_tremor_all_tremor_Rule_1, Try.func123, by decide, rfl, ok_tremor_all_tremor_Rule_1⟩
theorem F_slices_ContainsFunc_tremor_Event : FOk i_slices_ContainsFunc_tremor_Event f_slices_ContainsFunc_tremor_Event := ⟨Try.f124, _, a_slices_ContainsFunc_tremor_Event, Try.func124, by decide, rfl, ok_slices_ContainsFunc_tremor_Event⟩
theorem F_tremor_all_tremor_Event_1 : FOk i_tremor_all_tremor_Event_1 f_tremor_all_tremor_Event_1 := ⟨Try.f125, _, a_tremor_all_tremor_Event_1, Try.func125, by decide, rfl, ok_tremor_all_tremor_Event_1⟩
theorem F_tremor_Event_valid_1 : FOk i_tremor_Event_valid_1 f_tremor_Event_valid_1 := ⟨Try.f126, _, a_tremor_Event_valid_1, Try.func126, by decide, rfl, ok_tremor_Event_valid_1⟩
theorem F_slices_IndexFunc_tremor_Spot : FOk i_slices_IndexFunc_tremor_Spot f_slices_IndexFunc_tremor_Spot := ⟨Try.f127, _, a_slices_IndexFunc_tremor_Spot, Try.func127, by decide, rfl, ok_slices_IndexFunc_tremor_Spot⟩
theorem F_tremor_all_tremor_Spot_1 : FOk i_tremor_all_tremor_Spot_1 f_tremor_all_tremor_Spot_1 := ⟨Try.f128, _, a_tremor_all_tremor_Spot_1, Try.func128, by decide, rfl, ok_tremor_all_tremor_Spot_1⟩
theorem F_slices_ContainsFunc_tremor_Pick : FOk i_slices_ContainsFunc_tremor_Pick f_slices_ContainsFunc_tremor_Pick := ⟨Try.f129, _, a_slices_ContainsFunc_tremor_Pick, Try.func129, by decide, rfl, ok_slices_ContainsFunc_tremor_Pick⟩
theorem F_tremor_all_tremor_Pick_1 : FOk i_tremor_all_tremor_Pick_1 f_tremor_all_tremor_Pick_1 := ⟨Try.f130, _, a_tremor_all_tremor_Pick_1, Try.func130, by decide, rfl, ok_tremor_all_tremor_Pick_1⟩
theorem F_slices_ContainsFunc_tremor_Station : FOk i_slices_ContainsFunc_tremor_Station f_slices_ContainsFunc_tremor_Station := ⟨Try.f131, _, a_slices_ContainsFunc_tremor_Station, Try.func131, by decide, rfl, ok_slices_ContainsFunc_tremor_Station⟩
theorem F_tremor_all_tremor_Station_1 : FOk i_tremor_all_tremor_Station_1 f_tremor_all_tremor_Station_1 := ⟨Try.f132, _, a_tremor_all_tremor_Station_1, Try.func132, by decide, rfl, ok_tremor_all_tremor_Station_1⟩
theorem F_slices_ContainsFunc_tremor_Range : FOk i_slices_ContainsFunc_tremor_Range f_slices_ContainsFunc_tremor_Range := ⟨Try.f133, _, a_slices_ContainsFunc_tremor_Range, Try.func133, by decide, rfl, ok_slices_ContainsFunc_tremor_Range⟩
theorem F_tremor_all_tremor_Range_1 : FOk i_tremor_all_tremor_Range_1 f_tremor_all_tremor_Range_1 := ⟨Try.f134, _, a_tremor_all_tremor_Range_1, Try.func134, by decide, rfl, ok_tremor_all_tremor_Range_1⟩
theorem F_slices_ContainsFunc_tremor_Row : FOk i_slices_ContainsFunc_tremor_Row f_slices_ContainsFunc_tremor_Row := ⟨Try.f135, _, a_slices_ContainsFunc_tremor_Row, Try.func135, by decide, rfl, ok_slices_ContainsFunc_tremor_Row⟩
theorem F_tremor_all_tremor_Row_1 : FOk i_tremor_all_tremor_Row_1 f_tremor_all_tremor_Row_1 := ⟨Try.f136, _, a_tremor_all_tremor_Row_1, Try.func136, by decide, rfl, ok_tremor_all_tremor_Row_1⟩
theorem F_slices_IndexFunc_tremor_Reading : FOk i_slices_IndexFunc_tremor_Reading f_slices_IndexFunc_tremor_Reading := ⟨Try.f137, _, a_slices_IndexFunc_tremor_Reading, Try.func137, by decide, rfl, ok_slices_IndexFunc_tremor_Reading⟩
theorem F_slices_IndexFunc_uint8 : FOk i_slices_IndexFunc_uint8 f_slices_IndexFunc_uint8 := ⟨Try.f138, _, a_slices_IndexFunc_uint8, Try.func138, by decide, rfl, ok_slices_IndexFunc_uint8⟩
theorem F_slices_IndexFunc_tremor_Rule : FOk i_slices_IndexFunc_tremor_Rule f_slices_IndexFunc_tremor_Rule := ⟨Try.f139, _, a_slices_IndexFunc_tremor_Rule, Try.func139, by decide, rfl, ok_slices_IndexFunc_tremor_Rule⟩
theorem F_slices_IndexFunc_tremor_Event : FOk i_slices_IndexFunc_tremor_Event f_slices_IndexFunc_tremor_Event := ⟨Try.f140, _, a_slices_IndexFunc_tremor_Event, Try.func140, by decide, rfl, ok_slices_IndexFunc_tremor_Event⟩
theorem F_slices_IndexFunc_tremor_Pick : FOk i_slices_IndexFunc_tremor_Pick f_slices_IndexFunc_tremor_Pick := ⟨Try.f141, _, a_slices_IndexFunc_tremor_Pick, Try.func141, by decide, rfl, ok_slices_IndexFunc_tremor_Pick⟩
theorem F_slices_IndexFunc_tremor_Station : FOk i_slices_IndexFunc_tremor_Station f_slices_IndexFunc_tremor_Station := ⟨Try.f142, _, a_slices_IndexFunc_tremor_Station, Try.func142, by decide, rfl, ok_slices_IndexFunc_tremor_Station⟩
theorem F_slices_IndexFunc_tremor_Row : FOk i_slices_IndexFunc_tremor_Row f_slices_IndexFunc_tremor_Row := ⟨Try.f143, _, a_slices_IndexFunc_tremor_Row, Try.func143, by decide, rfl, ok_slices_IndexFunc_tremor_Row⟩
theorem FAll : ∀ p ∈ tbl, FOk p.1 p.2 := by
  simp only [tbl, List.forall_mem_cons]
  exact ⟨F_law09_TremorNames, F_law09_awake, F_tremor_Locate, F_law09_located, F_tremor_Magnitude, F_law09_Point, F_tremor_Inject, F_law09_ints, F_tremor_Travel, F_tremor_CheckNet, F_law09_Range, F_tremor_Capital, F_tremor_Won, F_tremor_Reasons, F_tremor_ProveNone, F_tremor_Blame, F_law09_Heard, F_law09_Two, F_tremor_Light, F_tremor_heard_check, F_tremor_heard_located, F_tremor_Net_valid, F_tremor_Scale_valid, F_tremor_Point_valid, F_tremor_within, F_tremor_all_tremor_Reading, F_tremor_Magnitude_1, F_tremor_Net_has, F_tremor_Scale_of, F_tremor_Point_far, F_tremor_Inject_1, F_tremor_all_int, F_tremor_all_uint8, F_tremor_Inject_2, F_tremor_Net_travel, F_tremor_Bet_valid, F_tremor_Bet_going, F_slices_IndexFunc_int, F_tremor_Won_1, F_tremor_Net_lattice, F_tremor_heard_spans, F_tremor_common, F_slices_IndexFunc_tremor_Range, F_tremor_Reasons_1, F_tremor_Reasons_2, F_tremor_heard_span, F_tremor_all_tremor_Rule, F_tremor_Rule_valid, F_tremor_all_tremor_Event, F_tremor_Event_valid, F_tremor_Rule_counts, F_slices_ContainsFunc_tremor_Spot, F_tremor_all_tremor_Spot, F_tremor_all_tremor_Pick, F_tremor_heard_check_1, F_tremor_Range_in, F_tremor_all_tremor_Station, F_tremor_Station_valid, F_tremor_box, F_tremor_all_tremor_Range, F_tremor_Net_valid_1, F_tremor_Net_steps, F_tremor_Scale_valid_1, F_tremor_rising_int, F_tremor_Scale_valid_2, F_tremor_all_tremor_Row, F_tremor_Scale_valid_3, F_tremor_rising_tremor_Row, F_tremor_Scale_valid_4, F_tremor_Point_valid_1, F_slices_ContainsFunc_tremor_Reading, F_tremor_all_tremor_Reading_1, F_slices_ContainsFunc_int, F_tremor_all_int_1, F_slices_ContainsFunc_uint8, F_tremor_all_uint8_1, F_tremor_Bet_going_1, F_tremor_Net_lattice_1, F_slices_ContainsFunc_tremor_Rule, F_tremor_all_tremor_Rule_1, F_slices_ContainsFunc_tremor_Event, F_tremor_all_tremor_Event_1, F_tremor_Event_valid_1, F_slices_IndexFunc_tremor_Spot, F_tremor_all_tremor_Spot_1, F_slices_ContainsFunc_tremor_Pick, F_tremor_all_tremor_Pick_1, F_slices_ContainsFunc_tremor_Station, F_tremor_all_tremor_Station_1, F_slices_ContainsFunc_tremor_Range, F_tremor_all_tremor_Range_1, F_slices_ContainsFunc_tremor_Row, F_tremor_all_tremor_Row_1, F_slices_IndexFunc_tremor_Reading, F_slices_IndexFunc_uint8, F_slices_IndexFunc_tremor_Rule, F_slices_IndexFunc_tremor_Event, F_slices_IndexFunc_tremor_Pick, F_slices_IndexFunc_tremor_Station, F_slices_IndexFunc_tremor_Row, by simp⟩
theorem TT : TOk Try.prog T := by
  intro f fn h
  have h' : ∃ p, tbl.find? (fun p => p.1 == f) = some p ∧ p.2 = fn := by simpa [T] using h
  obtain ⟨p, h1, h2⟩ := h'
  have h3 := List.mem_of_find?_eq_some h1
  have h4 := List.find?_some h1
  have h6 := FAll p h3
  simp only [beq_iff_eq] at h4
  subst h2
  rw [← h4]
  exact h6
end Go.Proofs.Yticpenoicajakaa
