/- The table of functions: all that it says is the program's. -/
import Derived.Test.YticpenoicajakaaGreatF0
import Derived.Test.YticpenoicajakaaGreatF1
import Derived.Test.YticpenoicajakaaGreatF2
import Derived.Test.YticpenoicajakaaGreatBase2
set_option linter.unusedVariables false
set_option maxRecDepth 100000
namespace Go.Proofs.YticpenoicajakaaGreat
open Go Go.Abs
def tbl : List (Nat × Abs.Fn) := [(i_law09_TremorLights, f_law09_TremorLights), (i_law09_TremorChoices, f_law09_TremorChoices), (i_law09_awake, f_law09_awake), (i_tremor_Light, f_tremor_Light), (i_law09_Rules, f_law09_Rules), (i_law09_Events, f_law09_Events), (i_ref09_RightRule, f_ref09_RightRule), (i_ref09_RightEvent, f_ref09_RightEvent), (i_ref09_In, f_ref09_In), (i_ref09_Light, f_ref09_Light), (i_law09_chosen, f_law09_chosen), (i_tremor_Travel, f_tremor_Travel), (i_law09_Two, f_law09_Two), (i_tremor_Locate, f_tremor_Locate), (i_law09_Heard, f_law09_Heard), (i_tremor_Magnitude, f_tremor_Magnitude), (i_tremor_Capital, f_tremor_Capital), (i_tremor_Inject, f_tremor_Inject), (i_law09_located, f_law09_located), (i_law09_ints, f_law09_ints), (i_tremor_all_tremor_Rule, f_tremor_all_tremor_Rule), (i_tremor_Rule_valid, f_tremor_Rule_valid), (i_tremor_all_tremor_Event, f_tremor_all_tremor_Event), (i_tremor_Event_valid, f_tremor_Event_valid), (i_tremor_within, f_tremor_within), (i_tremor_Rule_counts, f_tremor_Rule_counts), (i_slices_ContainsFunc_tremor_Spot, f_slices_ContainsFunc_tremor_Spot), (i_tremor_all_tremor_Spot, f_tremor_all_tremor_Spot), (i_law09_Point, f_law09_Point), (i_ref09_Box, f_ref09_Box), (i_ref09_Dot, f_ref09_Dot), (i_ref09_Says, f_ref09_Says), (i_law09_word, f_law09_word), (i_ref09_Counts, f_ref09_Counts), (i_tremor_Net_valid, f_tremor_Net_valid), (i_tremor_Net_has, f_tremor_Net_has), (i_tremor_Point_valid, f_tremor_Point_valid), (i_tremor_Net_travel, f_tremor_Net_travel), (i_tremor_heard_check, f_tremor_heard_check), (i_tremor_heard_located, f_tremor_heard_located), (i_tremor_Scale_valid, f_tremor_Scale_valid), (i_tremor_all_tremor_Reading, f_tremor_all_tremor_Reading), (i_tremor_Magnitude_1, f_tremor_Magnitude_1), (i_tremor_Scale_of, f_tremor_Scale_of), (i_tremor_Point_far, f_tremor_Point_far), (i_tremor_Bet_valid, f_tremor_Bet_valid), (i_tremor_Bet_going, f_tremor_Bet_going), (i_tremor_Inject_1, f_tremor_Inject_1), (i_tremor_all_int, f_tremor_all_int), (i_tremor_all_uint8, f_tremor_all_uint8), (i_tremor_Inject_2, f_tremor_Inject_2), (i_law09_Range, f_law09_Range), (i_slices_ContainsFunc_tremor_Rule, f_slices_ContainsFunc_tremor_Rule), (i_tremor_all_tremor_Rule_1, f_tremor_all_tremor_Rule_1), (i_tremor_box, f_tremor_box), (i_slices_ContainsFunc_tremor_Event, f_slices_ContainsFunc_tremor_Event), (i_tremor_all_tremor_Event_1, f_tremor_all_tremor_Event_1), (i_tremor_Event_valid_1, f_tremor_Event_valid_1), (i_slices_IndexFunc_tremor_Spot, f_slices_IndexFunc_tremor_Spot), (i_tremor_all_tremor_Spot_1, f_tremor_all_tremor_Spot_1), (i_ref09_Inside, f_ref09_Inside), (i_tremor_all_tremor_Station, f_tremor_all_tremor_Station), (i_tremor_Station_valid, f_tremor_Station_valid), (i_tremor_all_tremor_Range, f_tremor_all_tremor_Range), (i_tremor_Net_valid_1, f_tremor_Net_valid_1), (i_tremor_Range_in, f_tremor_Range_in), (i_tremor_Net_steps, f_tremor_Net_steps), (i_tremor_Point_valid_1, f_tremor_Point_valid_1), (i_tremor_all_tremor_Pick, f_tremor_all_tremor_Pick), (i_tremor_heard_check_1, f_tremor_heard_check_1), (i_tremor_Net_lattice, f_tremor_Net_lattice), (i_tremor_common, f_tremor_common), (i_tremor_heard_spans, f_tremor_heard_spans), (i_tremor_Scale_valid_1, f_tremor_Scale_valid_1), (i_tremor_rising_int, f_tremor_rising_int), (i_tremor_Scale_valid_2, f_tremor_Scale_valid_2), (i_tremor_all_tremor_Row, f_tremor_all_tremor_Row), (i_tremor_Scale_valid_3, f_tremor_Scale_valid_3), (i_tremor_rising_tremor_Row, f_tremor_rising_tremor_Row), (i_tremor_Scale_valid_4, f_tremor_Scale_valid_4), (i_slices_ContainsFunc_tremor_Reading, f_slices_ContainsFunc_tremor_Reading), (i_tremor_all_tremor_Reading_1, f_tremor_all_tremor_Reading_1), (i_tremor_Bet_going_1, f_tremor_Bet_going_1), (i_slices_ContainsFunc_int, f_slices_ContainsFunc_int), (i_tremor_all_int_1, f_tremor_all_int_1), (i_slices_ContainsFunc_uint8, f_slices_ContainsFunc_uint8), (i_tremor_all_uint8_1, f_tremor_all_uint8_1), (i_slices_IndexFunc_tremor_Rule, f_slices_IndexFunc_tremor_Rule), (i_slices_IndexFunc_tremor_Event, f_slices_IndexFunc_tremor_Event), (i_slices_ContainsFunc_tremor_Station, f_slices_ContainsFunc_tremor_Station), (i_tremor_all_tremor_Station_1, f_tremor_all_tremor_Station_1), (i_slices_ContainsFunc_tremor_Range, f_slices_ContainsFunc_tremor_Range), (i_tremor_all_tremor_Range_1, f_tremor_all_tremor_Range_1), (i_slices_ContainsFunc_tremor_Pick, f_slices_ContainsFunc_tremor_Pick), (i_tremor_all_tremor_Pick_1, f_tremor_all_tremor_Pick_1), (i_tremor_Net_lattice_1, f_tremor_Net_lattice_1), (i_tremor_heard_span, f_tremor_heard_span), (i_slices_ContainsFunc_tremor_Row, f_slices_ContainsFunc_tremor_Row), (i_tremor_all_tremor_Row_1, f_tremor_all_tremor_Row_1), (i_slices_IndexFunc_tremor_Reading, f_slices_IndexFunc_tremor_Reading), (i_slices_IndexFunc_int, f_slices_IndexFunc_int), (i_slices_IndexFunc_uint8, f_slices_IndexFunc_uint8), (i_slices_IndexFunc_tremor_Station, f_slices_IndexFunc_tremor_Station), (i_slices_IndexFunc_tremor_Range, f_slices_IndexFunc_tremor_Range), (i_slices_IndexFunc_tremor_Pick, f_slices_IndexFunc_tremor_Pick), (i_slices_IndexFunc_tremor_Row, f_slices_IndexFunc_tremor_Row)]
def T : Tbl := fun f => (tbl.find? fun p => p.1 == f).map (·.2)
theorem T_law09_TremorLights : T i_law09_TremorLights = some f_law09_TremorLights := rfl
theorem T_law09_TremorChoices : T i_law09_TremorChoices = some f_law09_TremorChoices := rfl
theorem T_law09_awake : T i_law09_awake = some f_law09_awake := rfl
theorem T_tremor_Light : T i_tremor_Light = some f_tremor_Light := rfl
theorem T_law09_Rules : T i_law09_Rules = some f_law09_Rules := rfl
theorem T_law09_Events : T i_law09_Events = some f_law09_Events := rfl
theorem T_ref09_RightRule : T i_ref09_RightRule = some f_ref09_RightRule := rfl
theorem T_ref09_RightEvent : T i_ref09_RightEvent = some f_ref09_RightEvent := rfl
theorem T_ref09_In : T i_ref09_In = some f_ref09_In := rfl
theorem T_ref09_Light : T i_ref09_Light = some f_ref09_Light := rfl
theorem T_law09_chosen : T i_law09_chosen = some f_law09_chosen := rfl
theorem T_tremor_Travel : T i_tremor_Travel = some f_tremor_Travel := rfl
theorem T_law09_Two : T i_law09_Two = some f_law09_Two := rfl
theorem T_tremor_Locate : T i_tremor_Locate = some f_tremor_Locate := rfl
theorem T_law09_Heard : T i_law09_Heard = some f_law09_Heard := rfl
theorem T_tremor_Magnitude : T i_tremor_Magnitude = some f_tremor_Magnitude := rfl
theorem T_tremor_Capital : T i_tremor_Capital = some f_tremor_Capital := rfl
theorem T_tremor_Inject : T i_tremor_Inject = some f_tremor_Inject := rfl
theorem T_law09_located : T i_law09_located = some f_law09_located := rfl
theorem T_law09_ints : T i_law09_ints = some f_law09_ints := rfl
theorem T_tremor_all_tremor_Rule : T i_tremor_all_tremor_Rule = some f_tremor_all_tremor_Rule := rfl
theorem T_tremor_Rule_valid : T i_tremor_Rule_valid = some f_tremor_Rule_valid := rfl
theorem T_tremor_all_tremor_Event : T i_tremor_all_tremor_Event = some f_tremor_all_tremor_Event := rfl
theorem T_tremor_Event_valid : T i_tremor_Event_valid = some f_tremor_Event_valid := rfl
theorem T_tremor_within : T i_tremor_within = some f_tremor_within := rfl
theorem T_tremor_Rule_counts : T i_tremor_Rule_counts = some f_tremor_Rule_counts := rfl
theorem T_slices_ContainsFunc_tremor_Spot : T i_slices_ContainsFunc_tremor_Spot = some f_slices_ContainsFunc_tremor_Spot := rfl
theorem T_tremor_all_tremor_Spot : T i_tremor_all_tremor_Spot = some f_tremor_all_tremor_Spot := rfl
theorem T_law09_Point : T i_law09_Point = some f_law09_Point := rfl
theorem T_ref09_Box : T i_ref09_Box = some f_ref09_Box := rfl
theorem T_ref09_Dot : T i_ref09_Dot = some f_ref09_Dot := rfl
theorem T_ref09_Says : T i_ref09_Says = some f_ref09_Says := rfl
theorem T_law09_word : T i_law09_word = some f_law09_word := rfl
theorem T_ref09_Counts : T i_ref09_Counts = some f_ref09_Counts := rfl
theorem T_tremor_Net_valid : T i_tremor_Net_valid = some f_tremor_Net_valid := rfl
theorem T_tremor_Net_has : T i_tremor_Net_has = some f_tremor_Net_has := rfl
theorem T_tremor_Point_valid : T i_tremor_Point_valid = some f_tremor_Point_valid := rfl
theorem T_tremor_Net_travel : T i_tremor_Net_travel = some f_tremor_Net_travel := rfl
theorem T_tremor_heard_check : T i_tremor_heard_check = some f_tremor_heard_check := rfl
theorem T_tremor_heard_located : T i_tremor_heard_located = some f_tremor_heard_located := rfl
theorem T_tremor_Scale_valid : T i_tremor_Scale_valid = some f_tremor_Scale_valid := rfl
theorem T_tremor_all_tremor_Reading : T i_tremor_all_tremor_Reading = some f_tremor_all_tremor_Reading := rfl
theorem T_tremor_Magnitude_1 : T i_tremor_Magnitude_1 = some f_tremor_Magnitude_1 := rfl
theorem T_tremor_Scale_of : T i_tremor_Scale_of = some f_tremor_Scale_of := rfl
theorem T_tremor_Point_far : T i_tremor_Point_far = some f_tremor_Point_far := rfl
theorem T_tremor_Bet_valid : T i_tremor_Bet_valid = some f_tremor_Bet_valid := rfl
theorem T_tremor_Bet_going : T i_tremor_Bet_going = some f_tremor_Bet_going := rfl
theorem T_tremor_Inject_1 : T i_tremor_Inject_1 = some f_tremor_Inject_1 := rfl
theorem T_tremor_all_int : T i_tremor_all_int = some f_tremor_all_int := rfl
theorem T_tremor_all_uint8 : T i_tremor_all_uint8 = some f_tremor_all_uint8 := rfl
theorem T_tremor_Inject_2 : T i_tremor_Inject_2 = some f_tremor_Inject_2 := rfl
theorem T_law09_Range : T i_law09_Range = some f_law09_Range := rfl
theorem T_slices_ContainsFunc_tremor_Rule : T i_slices_ContainsFunc_tremor_Rule = some f_slices_ContainsFunc_tremor_Rule := rfl
theorem T_tremor_all_tremor_Rule_1 : T i_tremor_all_tremor_Rule_1 = some f_tremor_all_tremor_Rule_1 := rfl
theorem T_tremor_box : T i_tremor_box = some f_tremor_box := rfl
theorem T_slices_ContainsFunc_tremor_Event : T i_slices_ContainsFunc_tremor_Event = some f_slices_ContainsFunc_tremor_Event := rfl
theorem T_tremor_all_tremor_Event_1 : T i_tremor_all_tremor_Event_1 = some f_tremor_all_tremor_Event_1 := rfl
theorem T_tremor_Event_valid_1 : T i_tremor_Event_valid_1 = some f_tremor_Event_valid_1 := rfl
theorem T_slices_IndexFunc_tremor_Spot : T i_slices_IndexFunc_tremor_Spot = some f_slices_IndexFunc_tremor_Spot := rfl
theorem T_tremor_all_tremor_Spot_1 : T i_tremor_all_tremor_Spot_1 = some f_tremor_all_tremor_Spot_1 := rfl
theorem T_ref09_Inside : T i_ref09_Inside = some f_ref09_Inside := rfl
theorem T_tremor_all_tremor_Station : T i_tremor_all_tremor_Station = some f_tremor_all_tremor_Station := rfl
theorem T_tremor_Station_valid : T i_tremor_Station_valid = some f_tremor_Station_valid := rfl
theorem T_tremor_all_tremor_Range : T i_tremor_all_tremor_Range = some f_tremor_all_tremor_Range := rfl
theorem T_tremor_Net_valid_1 : T i_tremor_Net_valid_1 = some f_tremor_Net_valid_1 := rfl
theorem T_tremor_Range_in : T i_tremor_Range_in = some f_tremor_Range_in := rfl
theorem T_tremor_Net_steps : T i_tremor_Net_steps = some f_tremor_Net_steps := rfl
theorem T_tremor_Point_valid_1 : T i_tremor_Point_valid_1 = some f_tremor_Point_valid_1 := rfl
theorem T_tremor_all_tremor_Pick : T i_tremor_all_tremor_Pick = some f_tremor_all_tremor_Pick := rfl
theorem T_tremor_heard_check_1 : T i_tremor_heard_check_1 = some f_tremor_heard_check_1 := rfl
theorem T_tremor_Net_lattice : T i_tremor_Net_lattice = some f_tremor_Net_lattice := rfl
theorem T_tremor_common : T i_tremor_common = some f_tremor_common := rfl
theorem T_tremor_heard_spans : T i_tremor_heard_spans = some f_tremor_heard_spans := rfl
theorem T_tremor_Scale_valid_1 : T i_tremor_Scale_valid_1 = some f_tremor_Scale_valid_1 := rfl
theorem T_tremor_rising_int : T i_tremor_rising_int = some f_tremor_rising_int := rfl
theorem T_tremor_Scale_valid_2 : T i_tremor_Scale_valid_2 = some f_tremor_Scale_valid_2 := rfl
theorem T_tremor_all_tremor_Row : T i_tremor_all_tremor_Row = some f_tremor_all_tremor_Row := rfl
theorem T_tremor_Scale_valid_3 : T i_tremor_Scale_valid_3 = some f_tremor_Scale_valid_3 := rfl
theorem T_tremor_rising_tremor_Row : T i_tremor_rising_tremor_Row = some f_tremor_rising_tremor_Row := rfl
theorem T_tremor_Scale_valid_4 : T i_tremor_Scale_valid_4 = some f_tremor_Scale_valid_4 := rfl
theorem T_slices_ContainsFunc_tremor_Reading : T i_slices_ContainsFunc_tremor_Reading = some f_slices_ContainsFunc_tremor_Reading := rfl
theorem T_tremor_all_tremor_Reading_1 : T i_tremor_all_tremor_Reading_1 = some f_tremor_all_tremor_Reading_1 := rfl
theorem T_tremor_Bet_going_1 : T i_tremor_Bet_going_1 = some f_tremor_Bet_going_1 := rfl
theorem T_slices_ContainsFunc_int : T i_slices_ContainsFunc_int = some f_slices_ContainsFunc_int := rfl
theorem T_tremor_all_int_1 : T i_tremor_all_int_1 = some f_tremor_all_int_1 := rfl
theorem T_slices_ContainsFunc_uint8 : T i_slices_ContainsFunc_uint8 = some f_slices_ContainsFunc_uint8 := rfl
theorem T_tremor_all_uint8_1 : T i_tremor_all_uint8_1 = some f_tremor_all_uint8_1 := rfl
theorem T_slices_IndexFunc_tremor_Rule : T i_slices_IndexFunc_tremor_Rule = some f_slices_IndexFunc_tremor_Rule := rfl
theorem T_slices_IndexFunc_tremor_Event : T i_slices_IndexFunc_tremor_Event = some f_slices_IndexFunc_tremor_Event := rfl
theorem T_slices_ContainsFunc_tremor_Station : T i_slices_ContainsFunc_tremor_Station = some f_slices_ContainsFunc_tremor_Station := rfl
theorem T_tremor_all_tremor_Station_1 : T i_tremor_all_tremor_Station_1 = some f_tremor_all_tremor_Station_1 := rfl
theorem T_slices_ContainsFunc_tremor_Range : T i_slices_ContainsFunc_tremor_Range = some f_slices_ContainsFunc_tremor_Range := rfl
theorem T_tremor_all_tremor_Range_1 : T i_tremor_all_tremor_Range_1 = some f_tremor_all_tremor_Range_1 := rfl
theorem T_slices_ContainsFunc_tremor_Pick : T i_slices_ContainsFunc_tremor_Pick = some f_slices_ContainsFunc_tremor_Pick := rfl
theorem T_tremor_all_tremor_Pick_1 : T i_tremor_all_tremor_Pick_1 = some f_tremor_all_tremor_Pick_1 := rfl
theorem T_tremor_Net_lattice_1 : T i_tremor_Net_lattice_1 = some f_tremor_Net_lattice_1 := rfl
theorem T_tremor_heard_span : T i_tremor_heard_span = some f_tremor_heard_span := rfl
theorem T_slices_ContainsFunc_tremor_Row : T i_slices_ContainsFunc_tremor_Row = some f_slices_ContainsFunc_tremor_Row := rfl
theorem T_tremor_all_tremor_Row_1 : T i_tremor_all_tremor_Row_1 = some f_tremor_all_tremor_Row_1 := rfl
theorem T_slices_IndexFunc_tremor_Reading : T i_slices_IndexFunc_tremor_Reading = some f_slices_IndexFunc_tremor_Reading := rfl
theorem T_slices_IndexFunc_int : T i_slices_IndexFunc_int = some f_slices_IndexFunc_int := rfl
theorem T_slices_IndexFunc_uint8 : T i_slices_IndexFunc_uint8 = some f_slices_IndexFunc_uint8 := rfl
theorem T_slices_IndexFunc_tremor_Station : T i_slices_IndexFunc_tremor_Station = some f_slices_IndexFunc_tremor_Station := rfl
theorem T_slices_IndexFunc_tremor_Range : T i_slices_IndexFunc_tremor_Range = some f_slices_IndexFunc_tremor_Range := rfl
theorem T_slices_IndexFunc_tremor_Pick : T i_slices_IndexFunc_tremor_Pick = some f_slices_IndexFunc_tremor_Pick := rfl
theorem T_slices_IndexFunc_tremor_Row : T i_slices_IndexFunc_tremor_Row = some f_slices_IndexFunc_tremor_Row := rfl
theorem mixed : Tryz.prog.follows .mixedOrders = true := by kernel_rfl
def FOk (f : Nat) (fn : Abs.Fn) : Prop := ∃ F c ann, Tryz.prog.funcs[f]? = some F ∧ F.name ≠ "runtime.NumGoroutine" ∧ F.body = some c ∧ fnC Tryz.prog ann F = some fn
theorem F_law09_TremorLights : FOk i_law09_TremorLights f_law09_TremorLights := ⟨Tryz.f3, _, a_law09_TremorLights, Tryz.func3, by decide, rfl, ok_law09_TremorLights⟩
theorem F_law09_TremorChoices : FOk i_law09_TremorChoices f_law09_TremorChoices := ⟨Tryz.f4, _, a_law09_TremorChoices, Tryz.func4, by decide, rfl, ok_law09_TremorChoices⟩
theorem F_law09_awake : FOk i_law09_awake f_law09_awake := ⟨Tryz.f5, _, a_law09_awake, Tryz.func5, by decide, rfl, ok_law09_awake⟩
theorem F_tremor_Light : FOk i_tremor_Light f_tremor_Light := ⟨Tryz.f6, _, a_tremor_Light, Tryz.func6, by decide, rfl, ok_tremor_Light⟩
theorem F_law09_Rules : FOk i_law09_Rules f_law09_Rules := ⟨Tryz.f7, _, a_law09_Rules, Tryz.func7, by decide, rfl, ok_law09_Rules⟩
theorem F_law09_Events : FOk i_law09_Events f_law09_Events := ⟨Tryz.f8, _, a_law09_Events, Tryz.func8, by decide, rfl, ok_law09_Events⟩
theorem F_ref09_RightRule : FOk i_ref09_RightRule f_ref09_RightRule := ⟨Tryz.f9, _, a_ref09_RightRule, Tryz.func9, by decide, rfl, ok_ref09_RightRule⟩
theorem F_ref09_RightEvent : FOk i_ref09_RightEvent f_ref09_RightEvent := ⟨Tryz.f10, _, a_ref09_RightEvent, Tryz.func10, by decide, rfl, ok_ref09_RightEvent⟩
theorem F_ref09_In : FOk i_ref09_In f_ref09_In := ⟨Tryz.f11, _, a_ref09_In, Tryz.func11, by decide, rfl, ok_ref09_In⟩
theorem F_ref09_Light : FOk i_ref09_Light f_ref09_Light := ⟨Tryz.f12, _, a_ref09_Light, Tryz.func12, by decide, rfl, ok_ref09_Light⟩
theorem F_law09_chosen : FOk i_law09_chosen f_law09_chosen := ⟨Tryz.f13, _, a_law09_chosen, Tryz.func13, by decide, rfl, ok_law09_chosen⟩
theorem F_tremor_Travel : FOk i_tremor_Travel f_tremor_Travel := ⟨Tryz.f14, _, a_tremor_Travel, Tryz.func14, by decide, rfl, ok_tremor_Travel⟩
theorem F_law09_Two : FOk i_law09_Two f_law09_Two := ⟨Tryz.f15, _, a_law09_Two, Tryz.func15, by decide, rfl, ok_law09_Two⟩
theorem F_tremor_Locate : FOk i_tremor_Locate f_tremor_Locate := ⟨Tryz.f16, _, a_tremor_Locate, Tryz.func16, by decide, rfl, ok_tremor_Locate⟩
theorem F_law09_Heard : FOk i_law09_Heard f_law09_Heard := ⟨Tryz.f17, _, a_law09_Heard, Tryz.func17, by decide, rfl, ok_law09_Heard⟩
theorem F_tremor_Magnitude : FOk i_tremor_Magnitude f_tremor_Magnitude := ⟨Tryz.f18, _, a_tremor_Magnitude, Tryz.func18, by decide, rfl, ok_tremor_Magnitude⟩
theorem F_tremor_Capital : FOk i_tremor_Capital f_tremor_Capital := ⟨Tryz.f19, _, a_tremor_Capital, Tryz.func19, by decide, rfl, ok_tremor_Capital⟩
theorem F_tremor_Inject : FOk i_tremor_Inject f_tremor_Inject := ⟨Tryz.f20, _, a_tremor_Inject, Tryz.func20, by decide, rfl, ok_tremor_Inject⟩
theorem F_law09_located : FOk i_law09_located f_law09_located := ⟨Tryz.f21, _, a_law09_located, Tryz.func21, by decide, rfl, ok_law09_located⟩
theorem F_law09_ints : FOk i_law09_ints f_law09_ints := ⟨Tryz.f22, _, a_law09_ints, Tryz.func22, by decide, rfl, ok_law09_ints⟩
theorem F_tremor_all_tremor_Rule : FOk i_tremor_all_tremor_Rule f_tremor_all_tremor_Rule := ⟨Tryz.f23, _, a_tremor_all_tremor_Rule, Tryz.func23, by decide, rfl, ok_tremor_all_tremor_Rule⟩
theorem F_tremor_Rule_valid : FOk i_tremor_Rule_valid f_tremor_Rule_valid := ⟨Tryz.f24, _, a_tremor_Rule_valid, Tryz.func24, by decide, rfl, ok_tremor_Rule_valid⟩
theorem F_tremor_all_tremor_Event : FOk i_tremor_all_tremor_Event f_tremor_all_tremor_Event := ⟨Tryz.f25, _, a_tremor_all_tremor_Event, Tryz.func25, by decide, rfl, ok_tremor_all_tremor_Event⟩
theorem F_tremor_Event_valid : FOk i_tremor_Event_valid f_tremor_Event_valid := ⟨Tryz.f26, _, a_tremor_Event_valid, Tryz.func26, by decide, rfl, ok_tremor_Event_valid⟩
theorem F_tremor_within : FOk i_tremor_within f_tremor_within := ⟨Tryz.f27, _, a_tremor_within, Tryz.func27, by decide, rfl, ok_tremor_within⟩
theorem F_tremor_Rule_counts : FOk i_tremor_Rule_counts f_tremor_Rule_counts := ⟨Tryz.f28, _, a_tremor_Rule_counts, Tryz.func28, by decide, rfl, ok_tremor_Rule_counts⟩
theorem F_slices_ContainsFunc_tremor_Spot : FOk i_slices_ContainsFunc_tremor_Spot f_slices_ContainsFunc_tremor_Spot := ⟨Tryz.f29, _, a_slices_ContainsFunc_tremor_Spot, Tryz.func29, by decide, rfl, ok_slices_ContainsFunc_tremor_Spot⟩
theorem F_tremor_all_tremor_Spot : FOk i_tremor_all_tremor_Spot f_tremor_all_tremor_Spot := ⟨Tryz.f30, _, a_tremor_all_tremor_Spot, Tryz.func30, by decide, rfl, ok_tremor_all_tremor_Spot⟩
theorem F_law09_Point : FOk i_law09_Point f_law09_Point := ⟨Tryz.f31, _, a_law09_Point, Tryz.func31, by decide, rfl, ok_law09_Point⟩
theorem F_ref09_Box : FOk i_ref09_Box f_ref09_Box := ⟨Tryz.f32, _, a_ref09_Box, Tryz.func32, by decide, rfl, ok_ref09_Box⟩
theorem F_ref09_Dot : FOk i_ref09_Dot f_ref09_Dot := ⟨Tryz.f33, _, a_ref09_Dot, Tryz.func33, by decide, rfl, ok_ref09_Dot⟩
theorem F_ref09_Says : FOk i_ref09_Says f_ref09_Says := ⟨Tryz.f34, _, a_ref09_Says, Tryz.func34, by decide, rfl, ok_ref09_Says⟩
theorem F_law09_word : FOk i_law09_word f_law09_word := ⟨Tryz.f35, _, a_law09_word, Tryz.func35, by decide, rfl, ok_law09_word⟩
theorem F_ref09_Counts : FOk i_ref09_Counts f_ref09_Counts := ⟨Tryz.f36, _, a_ref09_Counts, Tryz.func36, by decide, rfl, ok_ref09_Counts⟩
theorem F_tremor_Net_valid : FOk i_tremor_Net_valid f_tremor_Net_valid := ⟨Tryz.f37, _, a_tremor_Net_valid, Tryz.func37, by decide, rfl, ok_tremor_Net_valid⟩
theorem F_tremor_Net_has : FOk i_tremor_Net_has f_tremor_Net_has := ⟨Tryz.f38, _, a_tremor_Net_has, Tryz.func38, by decide, rfl, ok_tremor_Net_has⟩
theorem F_tremor_Point_valid : FOk i_tremor_Point_valid f_tremor_Point_valid := ⟨Tryz.f39, _, a_tremor_Point_valid, Tryz.func39, by decide, rfl, ok_tremor_Point_valid⟩
theorem F_tremor_Net_travel : FOk i_tremor_Net_travel f_tremor_Net_travel := ⟨Tryz.f40, _, a_tremor_Net_travel, Tryz.func40, by decide, rfl, ok_tremor_Net_travel⟩
theorem F_tremor_heard_check : FOk i_tremor_heard_check f_tremor_heard_check := ⟨Tryz.f41, _, a_tremor_heard_check, Tryz.func41, by decide, rfl, ok_tremor_heard_check⟩
theorem F_tremor_heard_located : FOk i_tremor_heard_located f_tremor_heard_located := ⟨Tryz.f42, _, a_tremor_heard_located, Tryz.func42, by decide, rfl, ok_tremor_heard_located⟩
theorem F_tremor_Scale_valid : FOk i_tremor_Scale_valid f_tremor_Scale_valid := ⟨Tryz.f43, _, a_tremor_Scale_valid, Tryz.func43, by decide, rfl, ok_tremor_Scale_valid⟩
theorem F_tremor_all_tremor_Reading : FOk i_tremor_all_tremor_Reading f_tremor_all_tremor_Reading := ⟨Tryz.f44, _, a_tremor_all_tremor_Reading, Tryz.func44, by decide, rfl, ok_tremor_all_tremor_Reading⟩
theorem F_tremor_Magnitude_1 : FOk i_tremor_Magnitude_1 f_tremor_Magnitude_1 := ⟨Tryz.f45, _, a_tremor_Magnitude_1, Tryz.func45, by decide, rfl, ok_tremor_Magnitude_1⟩
theorem F_tremor_Scale_of : FOk i_tremor_Scale_of f_tremor_Scale_of := ⟨Tryz.f46, _, a_tremor_Scale_of, Tryz.func46, by decide, rfl, ok_tremor_Scale_of⟩
theorem F_tremor_Point_far : FOk i_tremor_Point_far f_tremor_Point_far := ⟨Tryz.f47, _, a_tremor_Point_far, Tryz.func47, by decide, rfl, ok_tremor_Point_far⟩
theorem F_tremor_Bet_valid : FOk i_tremor_Bet_valid f_tremor_Bet_valid := ⟨Tryz.f48, _, a_tremor_Bet_valid, Tryz.func48, by decide, rfl, ok_tremor_Bet_valid⟩
theorem F_tremor_Bet_going : FOk i_tremor_Bet_going f_tremor_Bet_going := ⟨Tryz.f49, _, a_tremor_Bet_going, Tryz.func49, by decide, rfl, ok_tremor_Bet_going⟩
theorem F_tremor_Inject_1 : FOk i_tremor_Inject_1 f_tremor_Inject_1 := ⟨Tryz.f50, _, a_tremor_Inject_1, Tryz.func50, by decide, rfl, ok_tremor_Inject_1⟩
theorem F_tremor_all_int : FOk i_tremor_all_int f_tremor_all_int := ⟨Tryz.f51, _, a_tremor_all_int, Tryz.func51, by decide, rfl, ok_tremor_all_int⟩
theorem F_tremor_all_uint8 : FOk i_tremor_all_uint8 f_tremor_all_uint8 := ⟨Tryz.f52, _, a_tremor_all_uint8, Tryz.func52, by decide, rfl, ok_tremor_all_uint8⟩
theorem F_tremor_Inject_2 : FOk i_tremor_Inject_2 f_tremor_Inject_2 := ⟨Tryz.f53, _, a_tremor_Inject_2, Tryz.func53, by decide, rfl, ok_tremor_Inject_2⟩
theorem F_law09_Range : FOk i_law09_Range f_law09_Range := ⟨Tryz.f54, _, a_law09_Range, Tryz.func54, by decide, rfl, ok_law09_Range⟩
theorem F_slices_ContainsFunc_tremor_Rule : FOk i_slices_ContainsFunc_tremor_Rule f_slices_ContainsFunc_tremor_Rule := ⟨Tryz.f55, _, a_slices_ContainsFunc_tremor_Rule, Tryz.func55, by decide, rfl, ok_slices_ContainsFunc_tremor_Rule⟩
theorem F_tremor_all_tremor_Rule_1 : FOk i_tremor_all_tremor_Rule_1 f_tremor_all_tremor_Rule_1 := ⟨Tryz.f56, _, a_tremor_all_tremor_Rule_1, Tryz.func56, by decide, rfl, ok_tremor_all_tremor_Rule_1⟩
theorem F_tremor_box : FOk i_tremor_box f_tremor_box := ⟨Tryz.f57, _, a_tremor_box, Tryz.func57, by decide, rfl, ok_tremor_box⟩
theorem F_slices_ContainsFunc_tremor_Event : FOk i_slices_ContainsFunc_tremor_Event f_slices_ContainsFunc_tremor_Event := ⟨Tryz.f58, _, a_slices_ContainsFunc_tremor_Event, Tryz.func58, by decide, rfl, ok_slices_ContainsFunc_tremor_Event⟩
theorem F_tremor_all_tremor_Event_1 : FOk i_tremor_all_tremor_Event_1 f_tremor_all_tremor_Event_1 := ⟨Tryz.f59, _, a_tremor_all_tremor_Event_1, Tryz.func59, by decide, rfl, ok_tremor_all_tremor_Event_1⟩
theorem F_tremor_Event_valid_1 : FOk i_tremor_Event_valid_1 f_tremor_Event_valid_1 := ⟨Tryz.f60, _, a_tremor_Event_valid_1, Tryz.func60, by decide, rfl, ok_tremor_Event_valid_1⟩
theorem F_slices_IndexFunc_tremor_Spot : FOk i_slices_IndexFunc_tremor_Spot f_slices_IndexFunc_tremor_Spot := ⟨Tryz.f61, _, a_slices_IndexFunc_tremor_Spot, Tryz.func61, by decide, rfl, ok_slices_IndexFunc_tremor_Spot⟩
theorem F_tremor_all_tremor_Spot_1 : FOk i_tremor_all_tremor_Spot_1 f_tremor_all_tremor_Spot_1 := ⟨Tryz.f62, _, a_tremor_all_tremor_Spot_1, Tryz.func62, by decide, rfl, ok_tremor_all_tremor_Spot_1⟩
theorem F_ref09_Inside : FOk i_ref09_Inside f_ref09_Inside := ⟨Tryz.f63, _, a_ref09_Inside, Tryz.func63, by decide, rfl, ok_ref09_Inside⟩
theorem F_tremor_all_tremor_Station : FOk i_tremor_all_tremor_Station f_tremor_all_tremor_Station := ⟨Tryz.f64, _, a_tremor_all_tremor_Station, Tryz.func64, by decide, rfl, ok_tremor_all_tremor_Station⟩
theorem F_tremor_Station_valid : FOk i_tremor_Station_valid f_tremor_Station_valid := ⟨Tryz.f65, _, a_tremor_Station_valid, Tryz.func65, by decide, rfl, ok_tremor_Station_valid⟩
theorem F_tremor_all_tremor_Range : FOk i_tremor_all_tremor_Range f_tremor_all_tremor_Range := ⟨Tryz.f66, _, a_tremor_all_tremor_Range, Tryz.func66, by decide, rfl, ok_tremor_all_tremor_Range⟩
theorem F_tremor_Net_valid_1 : FOk i_tremor_Net_valid_1 f_tremor_Net_valid_1 := ⟨Tryz.f67, _, a_tremor_Net_valid_1, Tryz.func67, by decide, rfl, ok_tremor_Net_valid_1⟩
theorem F_tremor_Range_in : FOk i_tremor_Range_in f_tremor_Range_in := ⟨Tryz.f68, _, a_tremor_Range_in, Tryz.func68, by decide, rfl, ok_tremor_Range_in⟩
theorem F_tremor_Net_steps : FOk i_tremor_Net_steps f_tremor_Net_steps := ⟨Tryz.f69, _, a_tremor_Net_steps, Tryz.func69, by decide, rfl, ok_tremor_Net_steps⟩
theorem F_tremor_Point_valid_1 : FOk i_tremor_Point_valid_1 f_tremor_Point_valid_1 := ⟨Tryz.f70, _, a_tremor_Point_valid_1, Tryz.func70, by decide, rfl, ok_tremor_Point_valid_1⟩
theorem F_tremor_all_tremor_Pick : FOk i_tremor_all_tremor_Pick f_tremor_all_tremor_Pick := ⟨Tryz.f71, _, a_tremor_all_tremor_Pick, Tryz.func71, by decide, rfl, ok_tremor_all_tremor_Pick⟩
theorem F_tremor_heard_check_1 : FOk i_tremor_heard_check_1 f_tremor_heard_check_1 := ⟨Tryz.f72, _, a_tremor_heard_check_1, Tryz.func72, by decide, rfl, ok_tremor_heard_check_1⟩
theorem F_tremor_Net_lattice : FOk i_tremor_Net_lattice f_tremor_Net_lattice := ⟨Tryz.f73, _, a_tremor_Net_lattice, Tryz.func73, by decide, rfl, ok_tremor_Net_lattice⟩
theorem F_tremor_common : FOk i_tremor_common f_tremor_common := ⟨Tryz.f74, _, a_tremor_common, Tryz.func74, by decide, rfl, ok_tremor_common⟩
theorem F_tremor_heard_spans : FOk i_tremor_heard_spans f_tremor_heard_spans := ⟨Tryz.f75, _, a_tremor_heard_spans, Tryz.func75, by decide, rfl, ok_tremor_heard_spans⟩
theorem F_tremor_Scale_valid_1 : FOk i_tremor_Scale_valid_1 f_tremor_Scale_valid_1 := ⟨Tryz.f76, _, a_tremor_Scale_valid_1, Tryz.func76, by decide, rfl, ok_tremor_Scale_valid_1⟩
theorem F_tremor_rising_int : FOk i_tremor_rising_int f_tremor_rising_int := ⟨Tryz.f77, _, a_tremor_rising_int, Tryz.func77, by decide, rfl, ok_tremor_rising_int⟩
theorem F_tremor_Scale_valid_2 : FOk i_tremor_Scale_valid_2 f_tremor_Scale_valid_2 := ⟨Tryz.f78, _, a_tremor_Scale_valid_2, Tryz.func78, by decide, rfl, ok_tremor_Scale_valid_2⟩
theorem F_tremor_all_tremor_Row : FOk i_tremor_all_tremor_Row f_tremor_all_tremor_Row := ⟨Tryz.f79, _, a_tremor_all_tremor_Row, Tryz.func79, by decide, rfl, ok_tremor_all_tremor_Row⟩
theorem F_tremor_Scale_valid_3 : FOk i_tremor_Scale_valid_3 f_tremor_Scale_valid_3 := ⟨Tryz.f80, _, a_tremor_Scale_valid_3, Tryz.func80, by decide, rfl, ok_tremor_Scale_valid_3⟩
theorem F_tremor_rising_tremor_Row : FOk i_tremor_rising_tremor_Row f_tremor_rising_tremor_Row := ⟨Tryz.f81, _, a_tremor_rising_tremor_Row, Tryz.func81, by decide, rfl, ok_tremor_rising_tremor_Row⟩
theorem F_tremor_Scale_valid_4 : FOk i_tremor_Scale_valid_4 f_tremor_Scale_valid_4 := ⟨Tryz.f82, _, a_tremor_Scale_valid_4, Tryz.func82, by decide, rfl, ok_tremor_Scale_valid_4⟩
theorem F_slices_ContainsFunc_tremor_Reading : FOk i_slices_ContainsFunc_tremor_Reading f_slices_ContainsFunc_tremor_Reading := ⟨Tryz.f83, _, a_slices_ContainsFunc_tremor_Reading, Tryz.func83, by decide, rfl, ok_slices_ContainsFunc_tremor_Reading⟩
theorem F_tremor_all_tremor_Reading_1 : FOk i_tremor_all_tremor_Reading_1 f_tremor_all_tremor_Reading_1 := ⟨Tryz.f84, _, a_tremor_all_tremor_Reading_1, Tryz.func84, by decide, rfl, ok_tremor_all_tremor_Reading_1⟩
theorem F_tremor_Bet_going_1 : FOk i_tremor_Bet_going_1 f_tremor_Bet_going_1 := ⟨Tryz.f85, _, a_tremor_Bet_going_1, Tryz.func85, by decide, rfl, ok_tremor_Bet_going_1⟩
theorem F_slices_ContainsFunc_int : FOk i_slices_ContainsFunc_int f_slices_ContainsFunc_int := ⟨Tryz.f86, _, a_slices_ContainsFunc_int, Tryz.func86, by decide, rfl, ok_slices_ContainsFunc_int⟩
theorem F_tremor_all_int_1 : FOk i_tremor_all_int_1 f_tremor_all_int_1 := ⟨Tryz.f87, _, a_tremor_all_int_1, Tryz.func87, by decide, rfl, ok_tremor_all_int_1⟩
theorem F_slices_ContainsFunc_uint8 : FOk i_slices_ContainsFunc_uint8 f_slices_ContainsFunc_uint8 := ⟨Tryz.f88, _, a_slices_ContainsFunc_uint8, Tryz.func88, by decide, rfl, ok_slices_ContainsFunc_uint8⟩
theorem F_tremor_all_uint8_1 : FOk i_tremor_all_uint8_1 f_tremor_all_uint8_1 := ⟨Tryz.f89, _, a_tremor_all_uint8_1, Tryz.func89, by decide, rfl, ok_tremor_all_uint8_1⟩
theorem F_slices_IndexFunc_tremor_Rule : FOk i_slices_IndexFunc_tremor_Rule f_slices_IndexFunc_tremor_Rule := ⟨Tryz.f90, _, a_slices_IndexFunc_tremor_Rule, Tryz.func90, by decide, rfl, ok_slices_IndexFunc_tremor_Rule⟩
theorem F_slices_IndexFunc_tremor_Event : FOk i_slices_IndexFunc_tremor_Event f_slices_IndexFunc_tremor_Event := ⟨Tryz.f91, _, a_slices_IndexFunc_tremor_Event, Tryz.func91, by decide, rfl, ok_slices_IndexFunc_tremor_Event⟩
theorem F_slices_ContainsFunc_tremor_Station : FOk i_slices_ContainsFunc_tremor_Station f_slices_ContainsFunc_tremor_Station := ⟨Tryz.f92, _, a_slices_ContainsFunc_tremor_Station, Tryz.func92, by decide, rfl, ok_slices_ContainsFunc_tremor_Station⟩
theorem F_tremor_all_tremor_Station_1 : FOk i_tremor_all_tremor_Station_1 f_tremor_all_tremor_Station_1 := ⟨Tryz.f93, _, a_tremor_all_tremor_Station_1, Tryz.func93, by decide, rfl, ok_tremor_all_tremor_Station_1⟩
theorem F_slices_ContainsFunc_tremor_Range : FOk i_slices_ContainsFunc_tremor_Range f_slices_ContainsFunc_tremor_Range := ⟨Tryz.f94, _, a_slices_ContainsFunc_tremor_Range, Tryz.func94, by decide, rfl, ok_slices_ContainsFunc_tremor_Range⟩
theorem F_tremor_all_tremor_Range_1 : FOk i_tremor_all_tremor_Range_1 f_tremor_all_tremor_Range_1 := ⟨Tryz.f95, _, a_tremor_all_tremor_Range_1, Tryz.func95, by decide, rfl, ok_tremor_all_tremor_Range_1⟩
theorem F_slices_ContainsFunc_tremor_Pick : FOk i_slices_ContainsFunc_tremor_Pick f_slices_ContainsFunc_tremor_Pick := ⟨Tryz.f96, _, a_slices_ContainsFunc_tremor_Pick, Tryz.func96, by decide, rfl, ok_slices_ContainsFunc_tremor_Pick⟩
theorem F_tremor_all_tremor_Pick_1 : FOk i_tremor_all_tremor_Pick_1 f_tremor_all_tremor_Pick_1 := ⟨Tryz.f97, _, a_tremor_all_tremor_Pick_1, Tryz.func97, by decide, rfl, ok_tremor_all_tremor_Pick_1⟩
theorem F_tremor_Net_lattice_1 : FOk i_tremor_Net_lattice_1 f_tremor_Net_lattice_1 := ⟨Tryz.f98, _, a_tremor_Net_lattice_1, Tryz.func98, by decide, rfl, ok_tremor_Net_lattice_1⟩
theorem F_tremor_heard_span : FOk i_tremor_heard_span f_tremor_heard_span := ⟨Tryz.f99, _, a_tremor_heard_span, Tryz.func99, by decide, rfl, ok_tremor_heard_span⟩
theorem F_slices_ContainsFunc_tremor_Row : FOk i_slices_ContainsFunc_tremor_Row f_slices_ContainsFunc_tremor_Row := ⟨Tryz.f100, _, a_slices_ContainsFunc_tremor_Row, Tryz.func100, by decide, rfl, ok_slices_ContainsFunc_tremor_Row⟩
theorem F_tremor_all_tremor_Row_1 : FOk i_tremor_all_tremor_Row_1 f_tremor_all_tremor_Row_1 := ⟨Tryz.f101, _, a_tremor_all_tremor_Row_1, Tryz.func101, by decide, rfl, ok_tremor_all_tremor_Row_1⟩
theorem F_slices_IndexFunc_tremor_Reading : FOk i_slices_IndexFunc_tremor_Reading f_slices_IndexFunc_tremor_Reading := ⟨Tryz.f102, _, a_slices_IndexFunc_tremor_Reading, Tryz.func102, by decide, rfl, ok_slices_IndexFunc_tremor_Reading⟩
theorem F_slices_IndexFunc_int : FOk i_slices_IndexFunc_int f_slices_IndexFunc_int := ⟨Tryz.f103, _, a_slices_IndexFunc_int, Tryz.func103, by decide, rfl, ok_slices_IndexFunc_int⟩
theorem F_slices_IndexFunc_uint8 : FOk i_slices_IndexFunc_uint8 f_slices_IndexFunc_uint8 := ⟨Tryz.f104, _, a_slices_IndexFunc_uint8, Tryz.func104, by decide, rfl, ok_slices_IndexFunc_uint8⟩
theorem F_slices_IndexFunc_tremor_Station : FOk i_slices_IndexFunc_tremor_Station f_slices_IndexFunc_tremor_Station := ⟨Tryz.f105, _, a_slices_IndexFunc_tremor_Station, Tryz.func105, by decide, rfl, ok_slices_IndexFunc_tremor_Station⟩
theorem F_slices_IndexFunc_tremor_Range : FOk i_slices_IndexFunc_tremor_Range f_slices_IndexFunc_tremor_Range := ⟨Tryz.f106, _, a_slices_IndexFunc_tremor_Range, Tryz.func106, by decide, rfl, ok_slices_IndexFunc_tremor_Range⟩
theorem F_slices_IndexFunc_tremor_Pick : FOk i_slices_IndexFunc_tremor_Pick f_slices_IndexFunc_tremor_Pick := ⟨Tryz.f107, _, a_slices_IndexFunc_tremor_Pick, Tryz.func107, by decide, rfl, ok_slices_IndexFunc_tremor_Pick⟩
theorem F_slices_IndexFunc_tremor_Row : FOk i_slices_IndexFunc_tremor_Row f_slices_IndexFunc_tremor_Row := ⟨Tryz.f108, _, a_slices_IndexFunc_tremor_Row, Tryz.func108, by decide, rfl, ok_slices_IndexFunc_tremor_Row⟩
theorem FAll : ∀ p ∈ tbl, FOk p.1 p.2 := by
  simp only [tbl, List.forall_mem_cons]
  exact ⟨F_law09_TremorLights, F_law09_TremorChoices, F_law09_awake, F_tremor_Light, F_law09_Rules, F_law09_Events, F_ref09_RightRule, F_ref09_RightEvent, F_ref09_In, F_ref09_Light, F_law09_chosen, F_tremor_Travel, F_law09_Two, F_tremor_Locate, F_law09_Heard, F_tremor_Magnitude, F_tremor_Capital, F_tremor_Inject, F_law09_located, F_law09_ints, F_tremor_all_tremor_Rule, F_tremor_Rule_valid, F_tremor_all_tremor_Event, F_tremor_Event_valid, F_tremor_within, F_tremor_Rule_counts, F_slices_ContainsFunc_tremor_Spot, F_tremor_all_tremor_Spot, F_law09_Point, F_ref09_Box, F_ref09_Dot, F_ref09_Says, F_law09_word, F_ref09_Counts, F_tremor_Net_valid, F_tremor_Net_has, F_tremor_Point_valid, F_tremor_Net_travel, F_tremor_heard_check, F_tremor_heard_located, F_tremor_Scale_valid, F_tremor_all_tremor_Reading, F_tremor_Magnitude_1, F_tremor_Scale_of, F_tremor_Point_far, F_tremor_Bet_valid, F_tremor_Bet_going, F_tremor_Inject_1, F_tremor_all_int, F_tremor_all_uint8, F_tremor_Inject_2, F_law09_Range, F_slices_ContainsFunc_tremor_Rule, F_tremor_all_tremor_Rule_1, F_tremor_box, F_slices_ContainsFunc_tremor_Event, F_tremor_all_tremor_Event_1, F_tremor_Event_valid_1, F_slices_IndexFunc_tremor_Spot, F_tremor_all_tremor_Spot_1, F_ref09_Inside, F_tremor_all_tremor_Station, F_tremor_Station_valid, F_tremor_all_tremor_Range, F_tremor_Net_valid_1, F_tremor_Range_in, F_tremor_Net_steps, F_tremor_Point_valid_1, F_tremor_all_tremor_Pick, F_tremor_heard_check_1, F_tremor_Net_lattice, F_tremor_common, F_tremor_heard_spans, F_tremor_Scale_valid_1, F_tremor_rising_int, F_tremor_Scale_valid_2, F_tremor_all_tremor_Row, F_tremor_Scale_valid_3, F_tremor_rising_tremor_Row, F_tremor_Scale_valid_4, F_slices_ContainsFunc_tremor_Reading, F_tremor_all_tremor_Reading_1, F_tremor_Bet_going_1, F_slices_ContainsFunc_int, F_tremor_all_int_1, F_slices_ContainsFunc_uint8, F_tremor_all_uint8_1, F_slices_IndexFunc_tremor_Rule, F_slices_IndexFunc_tremor_Event, F_slices_ContainsFunc_tremor_Station, F_tremor_all_tremor_Station_1, F_slices_ContainsFunc_tremor_Range, F_tremor_all_tremor_Range_1, F_slices_ContainsFunc_tremor_Pick, F_tremor_all_tremor_Pick_1, F_tremor_Net_lattice_1, F_tremor_heard_span, F_slices_ContainsFunc_tremor_Row, F_tremor_all_tremor_Row_1, F_slices_IndexFunc_tremor_Reading, F_slices_IndexFunc_int, F_slices_IndexFunc_uint8, F_slices_IndexFunc_tremor_Station, F_slices_IndexFunc_tremor_Range, F_slices_IndexFunc_tremor_Pick, F_slices_IndexFunc_tremor_Row, by simp⟩
theorem TT : TOk Tryz.prog T := by
  intro f fn h
  have h' : ∃ p, tbl.find? (fun p => p.1 == f) = some p ∧ p.2 = fn := by simpa [T] using h
  obtain ⟨p, h1, h2⟩ := h'
  have h3 := List.mem_of_find?_eq_some h1
  have h4 := List.find?_some h1
  have h6 := FAll p h3
  simp only [beq_iff_eq] at h4
  subst h2
  rw [← h4]
  exact h6
end Go.Proofs.YticpenoicajakaaGreat
