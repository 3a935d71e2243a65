/- The table of functions: all that it says is the program's. -/
import Derived.Test.YtehandllpmlcoaaF0
import Derived.Test.YtehandllpmlcoaaF1
import Derived.Test.YtehandllpmlcoaaF2
import Derived.Test.YtehandllpmlcoaaBase3
set_option linter.unusedVariables false
set_option maxRecDepth 100000
namespace Go.Proofs.Ytehandllpmlcoaa
open Go Go.Abs
def tbl : List (Nat × Abs.Fn) := [(i_top_TopParts, f_top_TopParts), (i_top_still, f_top_still), (i_rock_Play, f_rock_Play), (i_rock_Pressures, f_rock_Pressures), (i_law01_Three, f_law01_Three), (i_law05_Plan, f_law05_Plan), (i_trial_Fits, f_trial_Fits), (i_trial_Relations, f_trial_Relations), (i_rock_bed, f_rock_bed), (i_rock_Bed_plan, f_rock_Bed_plan), (i_rock_caught, f_rock_caught), (i_rock_bedded_run, f_rock_bedded_run), (i_rock_bedded_state, f_rock_bedded_state), (i_rock_bedded_pressures, f_rock_bedded_pressures), (i_trial_within, f_trial_within), (i_trial_CheckSurvey, f_trial_CheckSurvey), (i_trial_Survey_fits, f_trial_Survey_fits), (i_trial_checked, f_trial_checked), (i_trial_parted_relation, f_trial_parted_relation), (i_rock_Bed_valid, f_rock_Bed_valid), (i_rock_bedded_fits, f_rock_bedded_fits), (i_rock_Bed_rates, f_rock_Bed_rates), (i_rock_bedded_first, f_rock_bedded_first), (i_rock_bedded_tick, f_rock_bedded_tick), (i_rock_Bed_size, f_rock_Bed_size), (i_rock_all_rock_Block, f_rock_all_rock_Block), (i_rock_Block_valid, f_rock_Block_valid), (i_rock_bedded_pressure, f_rock_bedded_pressure), (i_trial_Range_right, f_trial_Range_right), (i_trial_Range_drops, f_trial_Range_drops), (i_trial_Survey_joined, f_trial_Survey_joined), (i_trial_Survey_apart, f_trial_Survey_apart), (i_trial_Survey_groups, f_trial_Survey_groups), (i_trial_parted_clash, f_trial_parted_clash), (i_field_CheckField, f_field_CheckField), (i_steam_CheckTable, f_steam_CheckTable), (i_rock_within, f_rock_within), (i_rock_all_rock_Bore, f_rock_all_rock_Bore), (i_rock_Bed_valid_1, f_rock_Bed_valid_1), (i_field_CheckModels, f_field_CheckModels), (i_rock_all_int, f_rock_all_int), (i_rock_bedded_kind, f_rock_bedded_kind), (i_rock_bedded_fits_1, f_rock_bedded_fits_1), (i_rock_Bed_rates_1, f_rock_Bed_rates_1), (i_rock_bedded_hold, f_rock_bedded_hold), (i_rock_bedded_warm, f_rock_bedded_warm), (i_slices_Clone_rock_State_rock_Block, f_slices_Clone_rock_State_rock_Block), (i_rock_bedded_flows, f_rock_bedded_flows), (i_rock_Block_move, f_rock_Block_move), (i_rock_Bore_given, f_rock_Bore_given), (i_rock_Block_out, f_rock_Block_out), (i_rock_bedded_fed, f_rock_bedded_fed), (i_slices_ContainsFunc_rock_Block, f_slices_ContainsFunc_rock_Block), (i_rock_all_rock_Block_1, f_rock_all_rock_Block_1), (i_rock_bedded_weight, f_rock_bedded_weight), (i_rock_down, f_rock_down), (i_slices_IndexFunc_trial_Seen, f_slices_IndexFunc_trial_Seen), (i_trial_parted_clash_1, f_trial_parted_clash_1), (i_field_Field_shape, f_field_Field_shape), (i_steam_Table_valid, f_steam_Table_valid), (i_slices_ContainsFunc_rock_Bore, f_slices_ContainsFunc_rock_Bore), (i_rock_all_rock_Bore_1, f_rock_all_rock_Bore_1), (i_field_first, f_field_first), (i_field_CheckModels_1, f_field_CheckModels_1), (i_field_Field_models, f_field_Field_models), (i_slices_ContainsFunc_int, f_slices_ContainsFunc_int), (i_rock_all_int_1, f_rock_all_int_1), (i_rock_Bed_links, f_rock_Bed_links), (i_rock_bedded_open, f_rock_bedded_open), (i_rock_bedded_feed, f_rock_bedded_feed), (i_slices_IndexFunc_rock_Block, f_slices_IndexFunc_rock_Block), (i_field_Field_valid, f_field_Field_valid), (i_steam_within, f_steam_within), (i_steam_all_steam_Row, f_steam_all_steam_Row), (i_steam_Row_alone, f_steam_Row_alone), (i_slices_IndexFunc_rock_Bore, f_slices_IndexFunc_rock_Bore), (i_field_within, f_field_within), (i_field_each_field_Model, f_field_each_field_Model), (i_field_Field_models_1, f_field_Field_models_1), (i_field_Field_model, f_field_Field_model), (i_slices_IndexFunc_int, f_slices_IndexFunc_int), (i_rock_Bed_links_1, f_rock_Bed_links_1), (i_field_Field_blocks, f_field_Field_blocks), (i_slices_ContainsFunc_steam_Row, f_slices_ContainsFunc_steam_Row), (i_steam_all_steam_Row_1, f_steam_all_steam_Row_1), (i_field_named, f_field_named), (i_field_all_int, f_field_all_int), (i_field_Field_model_1, f_field_Field_model_1), (i_slices_IndexFunc_steam_Row, f_slices_IndexFunc_steam_Row), (i_field_all_int_1, f_field_all_int_1)]
def T : Tbl := fun f => (tbl.find? fun p => p.1 == f).map (·.2)
theorem T_top_TopParts : T i_top_TopParts = some f_top_TopParts := rfl
theorem T_top_still : T i_top_still = some f_top_still := rfl
theorem T_rock_Play : T i_rock_Play = some f_rock_Play := rfl
theorem T_rock_Pressures : T i_rock_Pressures = some f_rock_Pressures := rfl
theorem T_law01_Three : T i_law01_Three = some f_law01_Three := rfl
theorem T_law05_Plan : T i_law05_Plan = some f_law05_Plan := rfl
theorem T_trial_Fits : T i_trial_Fits = some f_trial_Fits := rfl
theorem T_trial_Relations : T i_trial_Relations = some f_trial_Relations := rfl
theorem T_rock_bed : T i_rock_bed = some f_rock_bed := rfl
theorem T_rock_Bed_plan : T i_rock_Bed_plan = some f_rock_Bed_plan := rfl
theorem T_rock_caught : T i_rock_caught = some f_rock_caught := rfl
theorem T_rock_bedded_run : T i_rock_bedded_run = some f_rock_bedded_run := rfl
theorem T_rock_bedded_state : T i_rock_bedded_state = some f_rock_bedded_state := rfl
theorem T_rock_bedded_pressures : T i_rock_bedded_pressures = some f_rock_bedded_pressures := rfl
theorem T_trial_within : T i_trial_within = some f_trial_within := rfl
theorem T_trial_CheckSurvey : T i_trial_CheckSurvey = some f_trial_CheckSurvey := rfl
theorem T_trial_Survey_fits : T i_trial_Survey_fits = some f_trial_Survey_fits := rfl
theorem T_trial_checked : T i_trial_checked = some f_trial_checked := rfl
theorem T_trial_parted_relation : T i_trial_parted_relation = some f_trial_parted_relation := rfl
theorem T_rock_Bed_valid : T i_rock_Bed_valid = some f_rock_Bed_valid := rfl
theorem T_rock_bedded_fits : T i_rock_bedded_fits = some f_rock_bedded_fits := rfl
theorem T_rock_Bed_rates : T i_rock_Bed_rates = some f_rock_Bed_rates := rfl
theorem T_rock_bedded_first : T i_rock_bedded_first = some f_rock_bedded_first := rfl
theorem T_rock_bedded_tick : T i_rock_bedded_tick = some f_rock_bedded_tick := rfl
theorem T_rock_Bed_size : T i_rock_Bed_size = some f_rock_Bed_size := rfl
theorem T_rock_all_rock_Block : T i_rock_all_rock_Block = some f_rock_all_rock_Block := rfl
theorem T_rock_Block_valid : T i_rock_Block_valid = some f_rock_Block_valid := rfl
theorem T_rock_bedded_pressure : T i_rock_bedded_pressure = some f_rock_bedded_pressure := rfl
theorem T_trial_Range_right : T i_trial_Range_right = some f_trial_Range_right := rfl
theorem T_trial_Range_drops : T i_trial_Range_drops = some f_trial_Range_drops := rfl
theorem T_trial_Survey_joined : T i_trial_Survey_joined = some f_trial_Survey_joined := rfl
theorem T_trial_Survey_apart : T i_trial_Survey_apart = some f_trial_Survey_apart := rfl
theorem T_trial_Survey_groups : T i_trial_Survey_groups = some f_trial_Survey_groups := rfl
theorem T_trial_parted_clash : T i_trial_parted_clash = some f_trial_parted_clash := rfl
theorem T_field_CheckField : T i_field_CheckField = some f_field_CheckField := rfl
theorem T_steam_CheckTable : T i_steam_CheckTable = some f_steam_CheckTable := rfl
theorem T_rock_within : T i_rock_within = some f_rock_within := rfl
theorem T_rock_all_rock_Bore : T i_rock_all_rock_Bore = some f_rock_all_rock_Bore := rfl
theorem T_rock_Bed_valid_1 : T i_rock_Bed_valid_1 = some f_rock_Bed_valid_1 := rfl
theorem T_field_CheckModels : T i_field_CheckModels = some f_field_CheckModels := rfl
theorem T_rock_all_int : T i_rock_all_int = some f_rock_all_int := rfl
theorem T_rock_bedded_kind : T i_rock_bedded_kind = some f_rock_bedded_kind := rfl
theorem T_rock_bedded_fits_1 : T i_rock_bedded_fits_1 = some f_rock_bedded_fits_1 := rfl
theorem T_rock_Bed_rates_1 : T i_rock_Bed_rates_1 = some f_rock_Bed_rates_1 := rfl
theorem T_rock_bedded_hold : T i_rock_bedded_hold = some f_rock_bedded_hold := rfl
theorem T_rock_bedded_warm : T i_rock_bedded_warm = some f_rock_bedded_warm := rfl
theorem T_slices_Clone_rock_State_rock_Block : T i_slices_Clone_rock_State_rock_Block = some f_slices_Clone_rock_State_rock_Block := rfl
theorem T_rock_bedded_flows : T i_rock_bedded_flows = some f_rock_bedded_flows := rfl
theorem T_rock_Block_move : T i_rock_Block_move = some f_rock_Block_move := rfl
theorem T_rock_Bore_given : T i_rock_Bore_given = some f_rock_Bore_given := rfl
theorem T_rock_Block_out : T i_rock_Block_out = some f_rock_Block_out := rfl
theorem T_rock_bedded_fed : T i_rock_bedded_fed = some f_rock_bedded_fed := rfl
theorem T_slices_ContainsFunc_rock_Block : T i_slices_ContainsFunc_rock_Block = some f_slices_ContainsFunc_rock_Block := rfl
theorem T_rock_all_rock_Block_1 : T i_rock_all_rock_Block_1 = some f_rock_all_rock_Block_1 := rfl
theorem T_rock_bedded_weight : T i_rock_bedded_weight = some f_rock_bedded_weight := rfl
theorem T_rock_down : T i_rock_down = some f_rock_down := rfl
theorem T_slices_IndexFunc_trial_Seen : T i_slices_IndexFunc_trial_Seen = some f_slices_IndexFunc_trial_Seen := rfl
theorem T_trial_parted_clash_1 : T i_trial_parted_clash_1 = some f_trial_parted_clash_1 := rfl
theorem T_field_Field_shape : T i_field_Field_shape = some f_field_Field_shape := rfl
theorem T_steam_Table_valid : T i_steam_Table_valid = some f_steam_Table_valid := rfl
theorem T_slices_ContainsFunc_rock_Bore : T i_slices_ContainsFunc_rock_Bore = some f_slices_ContainsFunc_rock_Bore := rfl
theorem T_rock_all_rock_Bore_1 : T i_rock_all_rock_Bore_1 = some f_rock_all_rock_Bore_1 := rfl
theorem T_field_first : T i_field_first = some f_field_first := rfl
theorem T_field_CheckModels_1 : T i_field_CheckModels_1 = some f_field_CheckModels_1 := rfl
theorem T_field_Field_models : T i_field_Field_models = some f_field_Field_models := rfl
theorem T_slices_ContainsFunc_int : T i_slices_ContainsFunc_int = some f_slices_ContainsFunc_int := rfl
theorem T_rock_all_int_1 : T i_rock_all_int_1 = some f_rock_all_int_1 := rfl
theorem T_rock_Bed_links : T i_rock_Bed_links = some f_rock_Bed_links := rfl
theorem T_rock_bedded_open : T i_rock_bedded_open = some f_rock_bedded_open := rfl
theorem T_rock_bedded_feed : T i_rock_bedded_feed = some f_rock_bedded_feed := rfl
theorem T_slices_IndexFunc_rock_Block : T i_slices_IndexFunc_rock_Block = some f_slices_IndexFunc_rock_Block := rfl
theorem T_field_Field_valid : T i_field_Field_valid = some f_field_Field_valid := rfl
theorem T_steam_within : T i_steam_within = some f_steam_within := rfl
theorem T_steam_all_steam_Row : T i_steam_all_steam_Row = some f_steam_all_steam_Row := rfl
theorem T_steam_Row_alone : T i_steam_Row_alone = some f_steam_Row_alone := rfl
theorem T_slices_IndexFunc_rock_Bore : T i_slices_IndexFunc_rock_Bore = some f_slices_IndexFunc_rock_Bore := rfl
theorem T_field_within : T i_field_within = some f_field_within := rfl
theorem T_field_each_field_Model : T i_field_each_field_Model = some f_field_each_field_Model := rfl
theorem T_field_Field_models_1 : T i_field_Field_models_1 = some f_field_Field_models_1 := rfl
theorem T_field_Field_model : T i_field_Field_model = some f_field_Field_model := rfl
theorem T_slices_IndexFunc_int : T i_slices_IndexFunc_int = some f_slices_IndexFunc_int := rfl
theorem T_rock_Bed_links_1 : T i_rock_Bed_links_1 = some f_rock_Bed_links_1 := rfl
theorem T_field_Field_blocks : T i_field_Field_blocks = some f_field_Field_blocks := rfl
theorem T_slices_ContainsFunc_steam_Row : T i_slices_ContainsFunc_steam_Row = some f_slices_ContainsFunc_steam_Row := rfl
theorem T_steam_all_steam_Row_1 : T i_steam_all_steam_Row_1 = some f_steam_all_steam_Row_1 := rfl
theorem T_field_named : T i_field_named = some f_field_named := rfl
theorem T_field_all_int : T i_field_all_int = some f_field_all_int := rfl
theorem T_field_Field_model_1 : T i_field_Field_model_1 = some f_field_Field_model_1 := rfl
theorem T_slices_IndexFunc_steam_Row : T i_slices_IndexFunc_steam_Row = some f_slices_IndexFunc_steam_Row := rfl
theorem T_field_all_int_1 : T i_field_all_int_1 = some f_field_all_int_1 := rfl
theorem mixed : Try.prog.follows .mixedOrders = true := by kernel_rfl
def FOk (f : Nat) (fn : Abs.Fn) : Prop := if f < 1000000 then FnOk Try.prog f fn else fn.body = .exit 0 ∧ NatOk Try.prog fn.npar (f - 1000000)
theorem fok {f : Nat} {fn : Abs.Fn} (h : f < 1000000) (h' : FnOk Try.prog f fn) : FOk f fn := by unfold FOk; rw [if_pos h]; exact h'
theorem F_top_TopParts : FOk i_top_TopParts f_top_TopParts := fok (by decide) ⟨Try.f4, _, a_top_TopParts, Try.func4, by decide, rfl, ok_top_TopParts⟩
theorem F_top_still : FOk i_top_still f_top_still := fok (by decide) ⟨Try.f5, _, a_top_still, Try.func5, by decide, rfl, ok_top_still⟩
theorem F_rock_Play : FOk i_rock_Play f_rock_Play := fok (by decide) ⟨Try.f7, _, a_rock_Play, Try.func7, by decide, rfl, ok_rock_Play⟩
theorem F_rock_Pressures : FOk i_rock_Pressures f_rock_Pressures := fok (by decide) ⟨Try.f8, _, a_rock_Pressures, Try.func8, by decide, rfl, ok_rock_Pressures⟩
theorem F_law01_Three : FOk i_law01_Three f_law01_Three := fok (by decide) ⟨Try.f11, _, a_law01_Three, Try.func11, by decide, rfl, ok_law01_Three⟩
theorem F_law05_Plan : FOk i_law05_Plan f_law05_Plan := fok (by decide) ⟨Try.f12, _, a_law05_Plan, Try.func12, by decide, rfl, ok_law05_Plan⟩
theorem F_trial_Fits : FOk i_trial_Fits f_trial_Fits := fok (by decide) ⟨Try.f13, _, a_trial_Fits, Try.func13, by decide, rfl, ok_trial_Fits⟩
theorem F_trial_Relations : FOk i_trial_Relations f_trial_Relations := fok (by decide) ⟨Try.f14, _, a_trial_Relations, Try.func14, by decide, rfl, ok_trial_Relations⟩
theorem F_rock_bed : FOk i_rock_bed f_rock_bed := fok (by decide) ⟨Try.f15, _, a_rock_bed, Try.func15, by decide, rfl, ok_rock_bed⟩
theorem F_rock_Bed_plan : FOk i_rock_Bed_plan f_rock_Bed_plan := fok (by decide) ⟨Try.f16, _, a_rock_Bed_plan, Try.func16, by decide, rfl, ok_rock_Bed_plan⟩
theorem F_rock_caught : FOk i_rock_caught f_rock_caught := fok (by decide) ⟨Try.f17, _, a_rock_caught, Try.func17, by decide, rfl, ok_rock_caught⟩
theorem F_rock_bedded_run : FOk i_rock_bedded_run f_rock_bedded_run := fok (by decide) ⟨Try.f18, _, a_rock_bedded_run, Try.func18, by decide, rfl, ok_rock_bedded_run⟩
theorem F_rock_bedded_state : FOk i_rock_bedded_state f_rock_bedded_state := fok (by decide) ⟨Try.f19, _, a_rock_bedded_state, Try.func19, by decide, rfl, ok_rock_bedded_state⟩
theorem F_rock_bedded_pressures : FOk i_rock_bedded_pressures f_rock_bedded_pressures := fok (by decide) ⟨Try.f20, _, a_rock_bedded_pressures, Try.func20, by decide, rfl, ok_rock_bedded_pressures⟩
theorem F_trial_within : FOk i_trial_within f_trial_within := fok (by decide) ⟨Try.f22, _, a_trial_within, Try.func22, by decide, rfl, ok_trial_within⟩
theorem F_trial_CheckSurvey : FOk i_trial_CheckSurvey f_trial_CheckSurvey := fok (by decide) ⟨Try.f26, _, a_trial_CheckSurvey, Try.func26, by decide, rfl, ok_trial_CheckSurvey⟩
theorem F_trial_Survey_fits : FOk i_trial_Survey_fits f_trial_Survey_fits := fok (by decide) ⟨Try.f27, _, a_trial_Survey_fits, Try.func27, by decide, rfl, ok_trial_Survey_fits⟩
theorem F_trial_checked : FOk i_trial_checked f_trial_checked := fok (by decide) ⟨Try.f28, _, a_trial_checked, Try.func28, by decide, rfl, ok_trial_checked⟩
theorem F_trial_parted_relation : FOk i_trial_parted_relation f_trial_parted_relation := fok (by decide) ⟨Try.f29, _, a_trial_parted_relation, Try.func29, by decide, rfl, ok_trial_parted_relation⟩
theorem F_rock_Bed_valid : FOk i_rock_Bed_valid f_rock_Bed_valid := fok (by decide) ⟨Try.f30, _, a_rock_Bed_valid, Try.func30, by decide, rfl, ok_rock_Bed_valid⟩
theorem F_rock_bedded_fits : FOk i_rock_bedded_fits f_rock_bedded_fits := fok (by decide) ⟨Try.f31, _, a_rock_bedded_fits, Try.func31, by decide, rfl, ok_rock_bedded_fits⟩
theorem F_rock_Bed_rates : FOk i_rock_Bed_rates f_rock_Bed_rates := fok (by decide) ⟨Try.f32, _, a_rock_Bed_rates, Try.func32, by decide, rfl, ok_rock_Bed_rates⟩
theorem F_rock_bedded_first : FOk i_rock_bedded_first f_rock_bedded_first := fok (by decide) ⟨Try.f33, _, a_rock_bedded_first, Try.func33, by decide, rfl, ok_rock_bedded_first⟩
theorem F_rock_bedded_tick : FOk i_rock_bedded_tick f_rock_bedded_tick := fok (by decide) ⟨Try.f34, _, a_rock_bedded_tick, Try.func34, by decide, rfl, ok_rock_bedded_tick⟩
theorem F_rock_Bed_size : FOk i_rock_Bed_size f_rock_Bed_size := fok (by decide) ⟨Try.f35, _, a_rock_Bed_size, Try.func35, by decide, rfl, ok_rock_Bed_size⟩
theorem F_rock_all_rock_Block : FOk i_rock_all_rock_Block f_rock_all_rock_Block := fok (by decide) ⟨Try.f36, _, a_rock_all_rock_Block, Try.func36, by decide, rfl, ok_rock_all_rock_Block⟩
theorem F_rock_Block_valid : FOk i_rock_Block_valid f_rock_Block_valid := fok (by decide) ⟨Try.f37, _, a_rock_Block_valid, Try.func37, by decide, rfl, ok_rock_Block_valid⟩
theorem F_rock_bedded_pressure : FOk i_rock_bedded_pressure f_rock_bedded_pressure := fok (by decide) ⟨Try.f38, _, a_rock_bedded_pressure, Try.func38, by decide, rfl, ok_rock_bedded_pressure⟩
theorem F_trial_Range_right : FOk i_trial_Range_right f_trial_Range_right := fok (by decide) ⟨Try.f39, _, a_trial_Range_right, Try.func39, by decide, rfl, ok_trial_Range_right⟩
theorem F_trial_Range_drops : FOk i_trial_Range_drops f_trial_Range_drops := fok (by decide) ⟨Try.f40, _, a_trial_Range_drops, Try.func40, by decide, rfl, ok_trial_Range_drops⟩
theorem F_trial_Survey_joined : FOk i_trial_Survey_joined f_trial_Survey_joined := fok (by decide) ⟨Try.f44, _, a_trial_Survey_joined, Try.func44, by decide, rfl, ok_trial_Survey_joined⟩
theorem F_trial_Survey_apart : FOk i_trial_Survey_apart f_trial_Survey_apart := fok (by decide) ⟨Try.f45, _, a_trial_Survey_apart, Try.func45, by decide, rfl, ok_trial_Survey_apart⟩
theorem F_trial_Survey_groups : FOk i_trial_Survey_groups f_trial_Survey_groups := fok (by decide) ⟨Try.f46, _, a_trial_Survey_groups, Try.func46, by decide, rfl, ok_trial_Survey_groups⟩
theorem F_trial_parted_clash : FOk i_trial_parted_clash f_trial_parted_clash := fok (by decide) ⟨Try.f47, _, a_trial_parted_clash, Try.func47, by decide, rfl, ok_trial_parted_clash⟩
theorem F_field_CheckField : FOk i_field_CheckField f_field_CheckField := fok (by decide) ⟨Try.f48, _, a_field_CheckField, Try.func48, by decide, rfl, ok_field_CheckField⟩
theorem F_steam_CheckTable : FOk i_steam_CheckTable f_steam_CheckTable := fok (by decide) ⟨Try.f49, _, a_steam_CheckTable, Try.func49, by decide, rfl, ok_steam_CheckTable⟩
theorem F_rock_within : FOk i_rock_within f_rock_within := fok (by decide) ⟨Try.f50, _, a_rock_within, Try.func50, by decide, rfl, ok_rock_within⟩
theorem F_rock_all_rock_Bore : FOk i_rock_all_rock_Bore f_rock_all_rock_Bore := fok (by decide) ⟨Try.f51, _, a_rock_all_rock_Bore, Try.func51, by decide, rfl, ok_rock_all_rock_Bore⟩
theorem F_rock_Bed_valid_1 : FOk i_rock_Bed_valid_1 f_rock_Bed_valid_1 := fok (by decide) ⟨Try.f52, _, a_rock_Bed_valid_1, Try.func52, by decide, rfl, ok_rock_Bed_valid_1⟩
theorem F_field_CheckModels : FOk i_field_CheckModels f_field_CheckModels := fok (by decide) ⟨Try.f53, _, a_field_CheckModels, Try.func53, by decide, rfl, ok_field_CheckModels⟩
theorem F_rock_all_int : FOk i_rock_all_int f_rock_all_int := fok (by decide) ⟨Try.f54, _, a_rock_all_int, Try.func54, by decide, rfl, ok_rock_all_int⟩
theorem F_rock_bedded_kind : FOk i_rock_bedded_kind f_rock_bedded_kind := fok (by decide) ⟨Try.f55, _, a_rock_bedded_kind, Try.func55, by decide, rfl, ok_rock_bedded_kind⟩
theorem F_rock_bedded_fits_1 : FOk i_rock_bedded_fits_1 f_rock_bedded_fits_1 := fok (by decide) ⟨Try.f56, _, a_rock_bedded_fits_1, Try.func56, by decide, rfl, ok_rock_bedded_fits_1⟩
theorem F_rock_Bed_rates_1 : FOk i_rock_Bed_rates_1 f_rock_Bed_rates_1 := fok (by decide) ⟨Try.f57, _, a_rock_Bed_rates_1, Try.func57, by decide, rfl, ok_rock_Bed_rates_1⟩
theorem F_rock_bedded_hold : FOk i_rock_bedded_hold f_rock_bedded_hold := fok (by decide) ⟨Try.f58, _, a_rock_bedded_hold, Try.func58, by decide, rfl, ok_rock_bedded_hold⟩
theorem F_rock_bedded_warm : FOk i_rock_bedded_warm f_rock_bedded_warm := fok (by decide) ⟨Try.f59, _, a_rock_bedded_warm, Try.func59, by decide, rfl, ok_rock_bedded_warm⟩
theorem F_slices_Clone_rock_State_rock_Block : FOk i_slices_Clone_rock_State_rock_Block f_slices_Clone_rock_State_rock_Block := fok (by decide) ⟨Try.f60, _, a_slices_Clone_rock_State_rock_Block, Try.func60, by decide, rfl, ok_slices_Clone_rock_State_rock_Block⟩
theorem F_rock_bedded_flows : FOk i_rock_bedded_flows f_rock_bedded_flows := fok (by decide) ⟨Try.f61, _, a_rock_bedded_flows, Try.func61, by decide, rfl, ok_rock_bedded_flows⟩
theorem F_rock_Block_move : FOk i_rock_Block_move f_rock_Block_move := fok (by decide) ⟨Try.f62, _, a_rock_Block_move, Try.func62, by decide, rfl, ok_rock_Block_move⟩
theorem F_rock_Bore_given : FOk i_rock_Bore_given f_rock_Bore_given := fok (by decide) ⟨Try.f63, _, a_rock_Bore_given, Try.func63, by decide, rfl, ok_rock_Bore_given⟩
theorem F_rock_Block_out : FOk i_rock_Block_out f_rock_Block_out := fok (by decide) ⟨Try.f64, _, a_rock_Block_out, Try.func64, by decide, rfl, ok_rock_Block_out⟩
theorem F_rock_bedded_fed : FOk i_rock_bedded_fed f_rock_bedded_fed := fok (by decide) ⟨Try.f65, _, a_rock_bedded_fed, Try.func65, by decide, rfl, ok_rock_bedded_fed⟩
theorem F_slices_ContainsFunc_rock_Block : FOk i_slices_ContainsFunc_rock_Block f_slices_ContainsFunc_rock_Block := fok (by decide) ⟨Try.f66, _, a_slices_ContainsFunc_rock_Block, Try.func66, by decide, rfl, ok_slices_ContainsFunc_rock_Block⟩
theorem F_rock_all_rock_Block_1 : FOk i_rock_all_rock_Block_1 f_rock_all_rock_Block_1 := fok (by decide) ⟨Try.f67, _, a_rock_all_rock_Block_1, Try.func67, by decide, rfl, ok_rock_all_rock_Block_1⟩
theorem F_rock_bedded_weight : FOk i_rock_bedded_weight f_rock_bedded_weight := fok (by decide) ⟨Try.f68, _, a_rock_bedded_weight, Try.func68, by decide, rfl, ok_rock_bedded_weight⟩
theorem F_rock_down : FOk i_rock_down f_rock_down := fok (by decide) ⟨Try.f69, _, a_rock_down, Try.func69, by decide, rfl, ok_rock_down⟩
theorem F_slices_IndexFunc_trial_Seen : FOk i_slices_IndexFunc_trial_Seen f_slices_IndexFunc_trial_Seen := fok (by decide) ⟨Try.f73, _, a_slices_IndexFunc_trial_Seen, Try.func73, by decide, rfl, ok_slices_IndexFunc_trial_Seen⟩
theorem F_trial_parted_clash_1 : FOk i_trial_parted_clash_1 f_trial_parted_clash_1 := fok (by decide) ⟨Try.f74, _, a_trial_parted_clash_1, Try.func74, by decide, rfl, ok_trial_parted_clash_1⟩
theorem F_field_Field_shape : FOk i_field_Field_shape f_field_Field_shape := fok (by decide) ⟨Try.f75, _, a_field_Field_shape, Try.func75, by decide, rfl, ok_field_Field_shape⟩
theorem F_steam_Table_valid : FOk i_steam_Table_valid f_steam_Table_valid := fok (by decide) ⟨Try.f76, _, a_steam_Table_valid, Try.func76, by decide, rfl, ok_steam_Table_valid⟩
theorem F_slices_ContainsFunc_rock_Bore : FOk i_slices_ContainsFunc_rock_Bore f_slices_ContainsFunc_rock_Bore := fok (by decide) ⟨Try.f77, _, a_slices_ContainsFunc_rock_Bore, Try.func77, by decide, rfl, ok_slices_ContainsFunc_rock_Bore⟩
theorem F_rock_all_rock_Bore_1 : FOk i_rock_all_rock_Bore_1 f_rock_all_rock_Bore_1 := fok (by decide) ⟨Try.f78, _, a_rock_all_rock_Bore_1, Try.func78, by decide, rfl, ok_rock_all_rock_Bore_1⟩
theorem F_field_first : FOk i_field_first f_field_first := fok (by decide) ⟨Try.f79, _, a_field_first, Try.func79, by decide, rfl, ok_field_first⟩
theorem F_field_CheckModels_1 : FOk i_field_CheckModels_1 f_field_CheckModels_1 := fok (by decide) ⟨Try.f80, _, a_field_CheckModels_1, Try.func80, by decide, rfl, ok_field_CheckModels_1⟩
theorem F_field_Field_models : FOk i_field_Field_models f_field_Field_models := fok (by decide) ⟨Try.f81, _, a_field_Field_models, Try.func81, by decide, rfl, ok_field_Field_models⟩
theorem F_slices_ContainsFunc_int : FOk i_slices_ContainsFunc_int f_slices_ContainsFunc_int := fok (by decide) ⟨Try.f82, _, a_slices_ContainsFunc_int, Try.func82, by decide, rfl, ok_slices_ContainsFunc_int⟩
theorem F_rock_all_int_1 : FOk i_rock_all_int_1 f_rock_all_int_1 := fok (by decide) ⟨Try.f83, _, a_rock_all_int_1, Try.func83, by decide, rfl, ok_rock_all_int_1⟩
theorem F_rock_Bed_links : FOk i_rock_Bed_links f_rock_Bed_links := fok (by decide) ⟨Try.f84, _, a_rock_Bed_links, Try.func84, by decide, rfl, ok_rock_Bed_links⟩
theorem F_rock_bedded_open : FOk i_rock_bedded_open f_rock_bedded_open := fok (by decide) ⟨Try.f85, _, a_rock_bedded_open, Try.func85, by decide, rfl, ok_rock_bedded_open⟩
theorem F_rock_bedded_feed : FOk i_rock_bedded_feed f_rock_bedded_feed := fok (by decide) ⟨Try.f86, _, a_rock_bedded_feed, Try.func86, by decide, rfl, ok_rock_bedded_feed⟩
theorem F_slices_IndexFunc_rock_Block : FOk i_slices_IndexFunc_rock_Block f_slices_IndexFunc_rock_Block := fok (by decide) ⟨Try.f87, _, a_slices_IndexFunc_rock_Block, Try.func87, by decide, rfl, ok_slices_IndexFunc_rock_Block⟩
theorem F_field_Field_valid : FOk i_field_Field_valid f_field_Field_valid := fok (by decide) ⟨Try.f90, _, a_field_Field_valid, Try.func90, by decide, rfl, ok_field_Field_valid⟩
theorem F_steam_within : FOk i_steam_within f_steam_within := fok (by decide) ⟨Try.f91, _, a_steam_within, Try.func91, by decide, rfl, ok_steam_within⟩
theorem F_steam_all_steam_Row : FOk i_steam_all_steam_Row f_steam_all_steam_Row := fok (by decide) ⟨Try.f92, _, a_steam_all_steam_Row, Try.func92, by decide, rfl, ok_steam_all_steam_Row⟩
theorem F_steam_Row_alone : FOk i_steam_Row_alone f_steam_Row_alone := fok (by decide) ⟨Try.f93, _, a_steam_Row_alone, Try.func93, by decide, rfl, ok_steam_Row_alone⟩
theorem F_slices_IndexFunc_rock_Bore : FOk i_slices_IndexFunc_rock_Bore f_slices_IndexFunc_rock_Bore := fok (by decide) ⟨Try.f94, _, a_slices_IndexFunc_rock_Bore, Try.func94, by decide, rfl, ok_slices_IndexFunc_rock_Bore⟩
theorem F_field_within : FOk i_field_within f_field_within := fok (by decide) ⟨Try.f95, _, a_field_within, Try.func95, by decide, rfl, ok_field_within⟩
theorem F_field_each_field_Model : FOk i_field_each_field_Model f_field_each_field_Model := fok (by decide) ⟨Try.f96, _, a_field_each_field_Model, Try.func96, by decide, rfl, ok_field_each_field_Model⟩
theorem F_field_Field_models_1 : FOk i_field_Field_models_1 f_field_Field_models_1 := fok (by decide) ⟨Try.f97, _, a_field_Field_models_1, Try.func97, by decide, rfl, ok_field_Field_models_1⟩
theorem F_field_Field_model : FOk i_field_Field_model f_field_Field_model := fok (by decide) ⟨Try.f98, _, a_field_Field_model, Try.func98, by decide, rfl, ok_field_Field_model⟩
theorem F_slices_IndexFunc_int : FOk i_slices_IndexFunc_int f_slices_IndexFunc_int := fok (by decide) ⟨Try.f99, _, a_slices_IndexFunc_int, Try.func99, by decide, rfl, ok_slices_IndexFunc_int⟩
theorem F_rock_Bed_links_1 : FOk i_rock_Bed_links_1 f_rock_Bed_links_1 := fok (by decide) ⟨Try.f100, _, a_rock_Bed_links_1, Try.func100, by decide, rfl, ok_rock_Bed_links_1⟩
theorem F_field_Field_blocks : FOk i_field_Field_blocks f_field_Field_blocks := fok (by decide) ⟨Try.f101, _, a_field_Field_blocks, Try.func101, by decide, rfl, ok_field_Field_blocks⟩
theorem F_slices_ContainsFunc_steam_Row : FOk i_slices_ContainsFunc_steam_Row f_slices_ContainsFunc_steam_Row := fok (by decide) ⟨Try.f102, _, a_slices_ContainsFunc_steam_Row, Try.func102, by decide, rfl, ok_slices_ContainsFunc_steam_Row⟩
theorem F_steam_all_steam_Row_1 : FOk i_steam_all_steam_Row_1 f_steam_all_steam_Row_1 := fok (by decide) ⟨Try.f103, _, a_steam_all_steam_Row_1, Try.func103, by decide, rfl, ok_steam_all_steam_Row_1⟩
theorem F_field_named : FOk i_field_named f_field_named := fok (by decide) ⟨Try.f104, _, a_field_named, Try.func104, by decide, rfl, ok_field_named⟩
theorem F_field_all_int : FOk i_field_all_int f_field_all_int := fok (by decide) ⟨Try.f105, _, a_field_all_int, Try.func105, by decide, rfl, ok_field_all_int⟩
theorem F_field_Field_model_1 : FOk i_field_Field_model_1 f_field_Field_model_1 := fok (by decide) ⟨Try.f106, _, a_field_Field_model_1, Try.func106, by decide, rfl, ok_field_Field_model_1⟩
theorem F_slices_IndexFunc_steam_Row : FOk i_slices_IndexFunc_steam_Row f_slices_IndexFunc_steam_Row := fok (by decide) ⟨Try.f107, _, a_slices_IndexFunc_steam_Row, Try.func107, by decide, rfl, ok_slices_IndexFunc_steam_Row⟩
theorem F_field_all_int_1 : FOk i_field_all_int_1 f_field_all_int_1 := fok (by decide) ⟨Try.f108, _, a_field_all_int_1, Try.func108, by decide, rfl, ok_field_all_int_1⟩
theorem FAll : ∀ p ∈ tbl, FOk p.1 p.2 := by
  simp only [tbl, List.forall_mem_cons]
  exact ⟨F_top_TopParts, F_top_still, F_rock_Play, F_rock_Pressures, F_law01_Three, F_law05_Plan, F_trial_Fits, F_trial_Relations, F_rock_bed, F_rock_Bed_plan, F_rock_caught, F_rock_bedded_run, F_rock_bedded_state, F_rock_bedded_pressures, F_trial_within, F_trial_CheckSurvey, F_trial_Survey_fits, F_trial_checked, F_trial_parted_relation, F_rock_Bed_valid, F_rock_bedded_fits, F_rock_Bed_rates, F_rock_bedded_first, F_rock_bedded_tick, F_rock_Bed_size, F_rock_all_rock_Block, F_rock_Block_valid, F_rock_bedded_pressure, F_trial_Range_right, F_trial_Range_drops, F_trial_Survey_joined, F_trial_Survey_apart, F_trial_Survey_groups, F_trial_parted_clash, F_field_CheckField, F_steam_CheckTable, F_rock_within, F_rock_all_rock_Bore, F_rock_Bed_valid_1, F_field_CheckModels, F_rock_all_int, F_rock_bedded_kind, F_rock_bedded_fits_1, F_rock_Bed_rates_1, F_rock_bedded_hold, F_rock_bedded_warm, F_slices_Clone_rock_State_rock_Block, F_rock_bedded_flows, F_rock_Block_move, F_rock_Bore_given, F_rock_Block_out, F_rock_bedded_fed, F_slices_ContainsFunc_rock_Block, F_rock_all_rock_Block_1, F_rock_bedded_weight, F_rock_down, F_slices_IndexFunc_trial_Seen, F_trial_parted_clash_1, F_field_Field_shape, F_steam_Table_valid, F_slices_ContainsFunc_rock_Bore, F_rock_all_rock_Bore_1, F_field_first, F_field_CheckModels_1, F_field_Field_models, F_slices_ContainsFunc_int, F_rock_all_int_1, F_rock_Bed_links, F_rock_bedded_open, F_rock_bedded_feed, F_slices_IndexFunc_rock_Block, F_field_Field_valid, F_steam_within, F_steam_all_steam_Row, F_steam_Row_alone, F_slices_IndexFunc_rock_Bore, F_field_within, F_field_each_field_Model, F_field_Field_models_1, F_field_Field_model, F_slices_IndexFunc_int, F_rock_Bed_links_1, F_field_Field_blocks, F_slices_ContainsFunc_steam_Row, F_steam_all_steam_Row_1, F_field_named, F_field_all_int, F_field_Field_model_1, F_slices_IndexFunc_steam_Row, F_field_all_int_1, by simp⟩
theorem TT : TOk Try.prog T := by
  intro f fn h
  have h' : ∃ p, tbl.find? (fun p => p.1 == f) = some p ∧ p.2 = fn := by simpa [T] using h
  obtain ⟨p, h1, h2⟩ := h'
  have h3 := List.mem_of_find?_eq_some h1
  have h4 := List.find?_some h1
  have h6 := FAll p h3
  simp only [beq_iff_eq] at h4
  subst h2
  rw [← h4]
  exact h6
end Go.Proofs.Ytehandllpmlcoaa
